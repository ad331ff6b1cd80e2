import JvmDerived
import JvmDerived.Pilot.@@N@@Statement
import JvmDerived.Pilot.@@N@@Code
set_option linter.unusedVariables false
set_option linter.unusedSimpArgs false
namespace Jvm.RoadKit
open Sem ClassFile Op Lib Jvm.Stand Jvm.Free Jvm.LawKit
section New
variable {p : Program} {l : Launch} {e : Env} {R : Room} {s : State} {m : MethodId} {args : Array Value} {below : List Frame} {meth : Method} {c : Code} {T : State} {locs : List Loc} {cells slots : Nat}
theorem retI (X : Stand p l e R s m args below meth c T locs cells slots) (hx : p.tables.exec = Jvm.exec) {pc : Nat} {Ls : Array Slot} {z : Int32} {rest : List Value} (hret : meth.sig.returnType = some .int) (hd : decode c.code pc = .ok (.ireturn, 1)) {fs : List Frame}
    (hl : ∀ (f : JFrame) (acts : List Action), f.method = m → f.locked = none → f.entered = [] → (doReturn e (T.setTop f) acts (some (.int z))).1 = T.setFrames fs) : Steps p.tables e below (T.setTop (mkF m pc Ls (.int z :: rest))) (T.setFrames fs) := by
  have hm' : T.vm.method? m = some meth := X.method'
  have hn : narrow .int (.int z) = .int z := rfl
  show Steps p.tables e below (T.setTop { method := m, pc := pc, locals := Ls, stack := _ :: rest, locked := none }) _
  jvm_step X.here [X.here.top, hx, hd, hm', hret, hn]
  first | (intro acts; rw [hl _ acts rfl rfl rfl]) | rw [hl _ _ rfl rfl rfl]
  exact Steps.refl _
end New
end Jvm.RoadKit
namespace Jvm.Pilot.@@N@@
open Jvm Jvm.ClassFile Sem Op Lib Jvm.Free Jvm.Stand Jvm.LawKit Jvm.RoadKit Bundle Jvm.Pilot.@@N@@.Jvm.D
/-! TABLES of this claim: printed by claim.py -/
def k0 : Nat := 1
def cName : String := "SwitchLowererX"
def cN : Nat := 48
def nF : Nat := 48
def kName (k : Nat) : String := bif Nat.beq k 0 then "SwitchLowererXL5" else "SwitchLowererX"
def fNm (k : Nat) : String := (bif Nat.ble 24 k then (bif Nat.ble 36 k then (bif Nat.ble 42 k then (bif Nat.ble 45 k then (bif Nat.ble 46 k then (bif Nat.ble 47 k then "sp" else "maskUsed") else "tableUsed") else (bif Nat.ble 43 k then (bif Nat.ble 44 k then "rootPc" else "codeLen") else "clCount")) else (bif Nat.ble 39 k then (bif Nat.ble 40 k then (bif Nat.ble 41 k then "hasSnap" else "snapDefault") else "snapCount") else (bif Nat.ble 37 k then (bif Nat.ble 38 k then "dirty" else "curDefault") else "curCount"))) else (bif Nat.ble 30 k then (bif Nat.ble 33 k then (bif Nat.ble 34 k then (bif Nat.ble 35 k then "targets" else "cap") else "stSlot") else (bif Nat.ble 31 k then (bif Nat.ble 32 k then "stParent" else "stHi") else "stLo")) else (bif Nat.ble 27 k then (bif Nat.ble 28 k then (bif Nat.ble 29 k then "maskTarget" else "maskPool") else "tablePool") else (bif Nat.ble 25 k then (bif Nat.ble 26 k then "argD" else "argC") else "argB")))) else (bif Nat.ble 12 k then (bif Nat.ble 18 k then (bif Nat.ble 21 k then (bif Nat.ble 22 k then (bif Nat.ble 23 k then "argA" else "opc") else "clEnd") else (bif Nat.ble 19 k then (bif Nat.ble 20 k then "clStart" else "bestCut") else "bestCost")) else (bif Nat.ble 15 k then (bif Nat.ble 16 k then (bif Nat.ble 17 k then "snapTgt" else "snapVal") else "curTgt") else (bif Nat.ble 13 k then (bif Nat.ble 14 k then "curVal" else "maxInt") else "unsignedMask"))) else (bif Nat.ble 6 k then (bif Nat.ble 9 k then (bif Nat.ble 10 k then (bif Nat.ble 11 k then "maxBitTargets" else "maxBitSpan") else "maxTableSpan") else (bif Nat.ble 7 k then (bif Nat.ble 8 k then "tableSpanPerCase" else "maxSteps") else "maxTargets")) else (bif Nat.ble 3 k then (bif Nat.ble 4 k then (bif Nat.ble 5 k then "maxCap" else "opBits") else "opTable") else (bif Nat.ble 1 k then (bif Nat.ble 2 k then "opEq" else "opLess") else "opRet")))))
def fDs (k : Nat) : String := (bif Nat.ble 24 k then (bif Nat.ble 36 k then (bif Nat.ble 42 k then (bif Nat.ble 45 k then (bif Nat.ble 46 k then (bif Nat.ble 47 k then "I" else "I") else "I") else (bif Nat.ble 43 k then (bif Nat.ble 44 k then "I" else "I") else "I")) else (bif Nat.ble 39 k then (bif Nat.ble 40 k then (bif Nat.ble 41 k then "Z" else "I") else "I") else (bif Nat.ble 37 k then (bif Nat.ble 38 k then "Z" else "I") else "I"))) else (bif Nat.ble 30 k then (bif Nat.ble 33 k then (bif Nat.ble 34 k then (bif Nat.ble 35 k then "I" else "I") else "[I") else (bif Nat.ble 31 k then (bif Nat.ble 32 k then "[I" else "[I") else "[I")) else (bif Nat.ble 27 k then (bif Nat.ble 28 k then (bif Nat.ble 29 k then "[B" else "[J") else "[B") else (bif Nat.ble 25 k then (bif Nat.ble 26 k then "[I" else "[I") else "[I")))) else (bif Nat.ble 12 k then (bif Nat.ble 18 k then (bif Nat.ble 21 k then (bif Nat.ble 22 k then (bif Nat.ble 23 k then "[I" else "[B") else "[I") else (bif Nat.ble 19 k then (bif Nat.ble 20 k then "[I" else "[I") else "[I")) else (bif Nat.ble 15 k then (bif Nat.ble 16 k then (bif Nat.ble 17 k then "[B" else "[I") else "[B") else (bif Nat.ble 13 k then (bif Nat.ble 14 k then "[I" else "I") else "J"))) else (bif Nat.ble 6 k then (bif Nat.ble 9 k then (bif Nat.ble 10 k then (bif Nat.ble 11 k then "I" else "I") else "I") else (bif Nat.ble 7 k then (bif Nat.ble 8 k then "I" else "I") else "I")) else (bif Nat.ble 3 k then (bif Nat.ble 4 k then (bif Nat.ble 5 k then "I" else "I") else "I") else (bif Nat.ble 1 k then (bif Nat.ble 2 k then "I" else "I") else "I")))))
def fTy (k : Nat) : FieldType := (bif Nat.ble 24 k then (bif Nat.ble 36 k then (bif Nat.ble 42 k then (bif Nat.ble 45 k then (bif Nat.ble 46 k then (bif Nat.ble 47 k then .int else .int) else .int) else (bif Nat.ble 43 k then (bif Nat.ble 44 k then .int else .int) else .int)) else (bif Nat.ble 39 k then (bif Nat.ble 40 k then (bif Nat.ble 41 k then .boolean else .int) else .int) else (bif Nat.ble 37 k then (bif Nat.ble 38 k then .boolean else .int) else .int))) else (bif Nat.ble 30 k then (bif Nat.ble 33 k then (bif Nat.ble 34 k then (bif Nat.ble 35 k then .int else .int) else (.array .int)) else (bif Nat.ble 31 k then (bif Nat.ble 32 k then (.array .int) else (.array .int)) else (.array .int))) else (bif Nat.ble 27 k then (bif Nat.ble 28 k then (bif Nat.ble 29 k then (.array .byte) else (.array .long)) else (.array .byte)) else (bif Nat.ble 25 k then (bif Nat.ble 26 k then (.array .int) else (.array .int)) else (.array .int))))) else (bif Nat.ble 12 k then (bif Nat.ble 18 k then (bif Nat.ble 21 k then (bif Nat.ble 22 k then (bif Nat.ble 23 k then (.array .int) else (.array .byte)) else (.array .int)) else (bif Nat.ble 19 k then (bif Nat.ble 20 k then (.array .int) else (.array .int)) else (.array .int))) else (bif Nat.ble 15 k then (bif Nat.ble 16 k then (bif Nat.ble 17 k then (.array .byte) else (.array .int)) else (.array .byte)) else (bif Nat.ble 13 k then (bif Nat.ble 14 k then (.array .int) else .int) else .long))) else (bif Nat.ble 6 k then (bif Nat.ble 9 k then (bif Nat.ble 10 k then (bif Nat.ble 11 k then .int else .int) else .int) else (bif Nat.ble 7 k then (bif Nat.ble 8 k then .int else .int) else .int)) else (bif Nat.ble 3 k then (bif Nat.ble 4 k then (bif Nat.ble 5 k then .int else .int) else .int) else (bif Nat.ble 1 k then (bif Nat.ble 2 k then .int else .int) else .int)))))
def fFin (k : Nat) : Bool := (bif Nat.ble 24 k then (bif Nat.ble 36 k then (bif Nat.ble 42 k then (bif Nat.ble 45 k then (bif Nat.ble 46 k then (bif Nat.ble 47 k then false else false) else false) else (bif Nat.ble 43 k then (bif Nat.ble 44 k then false else false) else false)) else (bif Nat.ble 39 k then (bif Nat.ble 40 k then (bif Nat.ble 41 k then false else false) else false) else (bif Nat.ble 37 k then (bif Nat.ble 38 k then false else false) else false))) else (bif Nat.ble 30 k then (bif Nat.ble 33 k then (bif Nat.ble 34 k then (bif Nat.ble 35 k then false else false) else true) else (bif Nat.ble 31 k then (bif Nat.ble 32 k then true else true) else true)) else (bif Nat.ble 27 k then (bif Nat.ble 28 k then (bif Nat.ble 29 k then true else true) else true) else (bif Nat.ble 25 k then (bif Nat.ble 26 k then true else true) else true)))) else (bif Nat.ble 12 k then (bif Nat.ble 18 k then (bif Nat.ble 21 k then (bif Nat.ble 22 k then (bif Nat.ble 23 k then true else true) else true) else (bif Nat.ble 19 k then (bif Nat.ble 20 k then true else true) else true)) else (bif Nat.ble 15 k then (bif Nat.ble 16 k then (bif Nat.ble 17 k then true else true) else true) else (bif Nat.ble 13 k then (bif Nat.ble 14 k then true else true) else true))) else (bif Nat.ble 6 k then (bif Nat.ble 9 k then (bif Nat.ble 10 k then (bif Nat.ble 11 k then true else true) else true) else (bif Nat.ble 7 k then (bif Nat.ble 8 k then true else true) else true)) else (bif Nat.ble 3 k then (bif Nat.ble 4 k then (bif Nat.ble 5 k then true else true) else true) else (bif Nat.ble 1 k then (bif Nat.ble 2 k then true else true) else true)))))
def cDef : List Value := [.int 0, .int 0, .int 0, .int 0, .int 0, .int 0, .int 0, .int 0, .int 0, .int 0, .int 0, .int 0, .long 0, .int 0, .null, .null, .null, .null, .null, .null, .null, .null, .null, .null, .null, .null, .null, .null, .null, .null, .null, .null, .null, .null, .int 0, .int 0, .int 0, .int 0, .int 0, .int 0, .int 0, .int 0, .int 0, .int 0, .int 0, .int 0, .int 0, .int 0]
def cK : List Value := [.long (4294967295), .int (2147483647), .long (256), .long (4294967296), .long (64), .long (4)]
def pN : Nat := 41
def pTop (m : Nat) : Nat := (bif Nat.ble 20 m then (bif Nat.ble 30 m then (bif Nat.ble 35 m then (bif Nat.ble 38 m then (bif Nat.ble 39 m then (bif Nat.ble 40 m then 42 else 75) else 9) else (bif Nat.ble 36 m then (bif Nat.ble 37 m then 127 else 57) else 40)) else (bif Nat.ble 32 m then (bif Nat.ble 33 m then (bif Nat.ble 34 m then 52 else 179) else 69) else (bif Nat.ble 31 m then 134 else 72))) else (bif Nat.ble 25 m then (bif Nat.ble 27 m then (bif Nat.ble 28 m then (bif Nat.ble 29 m then 62 else 80) else 26) else (bif Nat.ble 26 m then 48 else 135)) else (bif Nat.ble 22 m then (bif Nat.ble 23 m then (bif Nat.ble 24 m then 20 else 75) else 59) else (bif Nat.ble 21 m then 51 else 44)))) else (bif Nat.ble 10 m then (bif Nat.ble 15 m then (bif Nat.ble 17 m then (bif Nat.ble 18 m then (bif Nat.ble 19 m then 114 else 15) else 59) else (bif Nat.ble 16 m then 28 else 22)) else (bif Nat.ble 12 m then (bif Nat.ble 13 m then (bif Nat.ble 14 m then 5 else 21) else 21) else (bif Nat.ble 11 m then 5 else 155))) else (bif Nat.ble 5 m then (bif Nat.ble 7 m then (bif Nat.ble 8 m then (bif Nat.ble 9 m then 77 else 210) else 89) else (bif Nat.ble 6 m then 207 else 67)) else (bif Nat.ble 2 m then (bif Nat.ble 3 m then (bif Nat.ble 4 m then 21 else 61) else 16) else (bif Nat.ble 1 m then 284 else 304)))))
def pK (m : Nat) : Nat := (bif Nat.ble 20 m then (bif Nat.ble 30 m then (bif Nat.ble 35 m then (bif Nat.ble 38 m then (bif Nat.ble 39 m then (bif Nat.ble 40 m then 1 else 1) else 1) else (bif Nat.ble 36 m then (bif Nat.ble 37 m then 1 else 1) else 1)) else (bif Nat.ble 32 m then (bif Nat.ble 33 m then (bif Nat.ble 34 m then 1 else 1) else 1) else (bif Nat.ble 31 m then 1 else 1))) else (bif Nat.ble 25 m then (bif Nat.ble 27 m then (bif Nat.ble 28 m then (bif Nat.ble 29 m then 1 else 1) else 1) else (bif Nat.ble 26 m then 1 else 1)) else (bif Nat.ble 22 m then (bif Nat.ble 23 m then (bif Nat.ble 24 m then 1 else 1) else 1) else (bif Nat.ble 21 m then 1 else 1)))) else (bif Nat.ble 10 m then (bif Nat.ble 15 m then (bif Nat.ble 17 m then (bif Nat.ble 18 m then (bif Nat.ble 19 m then 1 else 1) else 1) else (bif Nat.ble 16 m then 1 else 1)) else (bif Nat.ble 12 m then (bif Nat.ble 13 m then (bif Nat.ble 14 m then 1 else 1) else 1) else (bif Nat.ble 11 m then 1 else 0))) else (bif Nat.ble 5 m then (bif Nat.ble 7 m then (bif Nat.ble 8 m then (bif Nat.ble 9 m then 1 else 1) else 1) else (bif Nat.ble 6 m then 1 else 1)) else (bif Nat.ble 2 m then (bif Nat.ble 3 m then (bif Nat.ble 4 m then 1 else 1) else 1) else (bif Nat.ble 1 m then 1 else 0)))))
def pNm (m : Nat) : String := (bif Nat.ble 20 m then (bif Nat.ble 30 m then (bif Nat.ble 35 m then (bif Nat.ble 38 m then (bif Nat.ble 39 m then (bif Nat.ble 40 m then "clusterLow" else "removeCase") else "unsignedOffset") else (bif Nat.ble 36 m then (bif Nat.ble 37 m then "runBits" else "runLeaf") else "patch")) else (bif Nat.ble 32 m then (bif Nat.ble 33 m then (bif Nat.ble 34 m then "findMaskSlot" else "emitBits") else "distinctTargets") else (bif Nat.ble 31 m then "emitLeaf" else "push"))) else (bif Nat.ble 25 m then (bif Nat.ble 27 m then (bif Nat.ble 28 m then (bif Nat.ble 29 m then "clusterFits" else "countCaseHits") else "setDefault") else (bif Nat.ble 26 m then "nextDefaultRouted" else "addCase")) else (bif Nat.ble 22 m then (bif Nat.ble 23 m then (bif Nat.ble 24 m then "isCurrent" else "routedCount") else "snapLowerBound") else (bif Nat.ble 21 m then "nextCaseRouted" else "nextRouted")))) else (bif Nat.ble 10 m then (bif Nat.ble 15 m then (bif Nat.ble 17 m then (bif Nat.ble 18 m then (bif Nat.ble 19 m then "run" else "route") else "curLowerBound") else (bif Nat.ble 16 m then "curIndexOf" else "lookup")) else (bif Nat.ble 12 m then (bif Nat.ble 13 m then (bif Nat.ble 14 m then "defaultTarget" else "caseTargetAt") else "caseValueAt") else (bif Nat.ble 11 m then "caseCount" else "same"))) else (bif Nat.ble 5 m then (bif Nat.ble 7 m then (bif Nat.ble 8 m then (bif Nat.ble 9 m then "emit" else "buildTree") else "collectClusters") else (bif Nat.ble 6 m then "planClusters" else "takeSnapshot")) else (bif Nat.ble 2 m then (bif Nat.ble 3 m then (bif Nat.ble 4 m then "lower" else "reset") else "clamp") else (bif Nat.ble 1 m then "<init>" else "law")))))
def pDs (m : Nat) : String := (bif Nat.ble 20 m then (bif Nat.ble 30 m then (bif Nat.ble 35 m then (bif Nat.ble 38 m then (bif Nat.ble 39 m then (bif Nat.ble 40 m then "(I)I" else "(I)I") else "(II)J") else (bif Nat.ble 36 m then (bif Nat.ble 37 m then "(II)I" else "(II)I") else "(III)V")) else (bif Nat.ble 32 m then (bif Nat.ble 33 m then (bif Nat.ble 34 m then "(III)I" else "(III)I") else "(II)I") else (bif Nat.ble 31 m then "(I)I" else "(IIII)V"))) else (bif Nat.ble 25 m then (bif Nat.ble 27 m then (bif Nat.ble 28 m then (bif Nat.ble 29 m then "(JII)Z" else "(IIIZ)J") else "(I)I") else (bif Nat.ble 26 m then "(I)J" else "(II)I")) else (bif Nat.ble 22 m then (bif Nat.ble 23 m then (bif Nat.ble 24 m then "()Z" else "(III)J") else "(I)I") else (bif Nat.ble 21 m then "(II)J" else "(II)J")))) else (bif Nat.ble 10 m then (bif Nat.ble 15 m then (bif Nat.ble 17 m then (bif Nat.ble 18 m then (bif Nat.ble 19 m then "(I)I" else "(I)I") else "(I)I") else (bif Nat.ble 16 m then "(I)I" else "(I)I")) else (bif Nat.ble 12 m then (bif Nat.ble 13 m then (bif Nat.ble 14 m then "()I" else "(I)I") else "(I)I") else (bif Nat.ble 11 m then "()I" else "(LSwitchLowererX;LSwitchLowererX;II)Z"))) else (bif Nat.ble 5 m then (bif Nat.ble 7 m then (bif Nat.ble 8 m then (bif Nat.ble 9 m then "(IIIII)I" else "()V") else "()V") else (bif Nat.ble 6 m then "()V" else "()V")) else (bif Nat.ble 2 m then (bif Nat.ble 3 m then (bif Nat.ble 4 m then "()I" else "()V") else "(III)I") else (bif Nat.ble 1 m then "(II)V" else "([I)Z")))))
def pName (m : Nat) : MethodName := ⟨kName (pK m), pNm m, pDs m⟩
def pBytes (m : Nat) : ByteArray := (bif Nat.ble 20 m then (bif Nat.ble 30 m then (bif Nat.ble 35 m then (bif Nat.ble 38 m then (bif Nat.ble 39 m then (bif Nat.ble 40 m then prog_1_method_30_code else prog_1_method_6_code) else prog_1_method_38_code) else (bif Nat.ble 36 m then (bif Nat.ble 37 m then prog_1_method_40_code else prog_1_method_37_code) else prog_1_method_28_code)) else (bif Nat.ble 32 m then (bif Nat.ble 33 m then (bif Nat.ble 34 m then prog_1_method_34_code else prog_1_method_33_code) else prog_1_method_32_code) else (bif Nat.ble 31 m then prog_1_method_31_code else prog_1_method_27_code))) else (bif Nat.ble 25 m then (bif Nat.ble 27 m then (bif Nat.ble 28 m then (bif Nat.ble 29 m then prog_1_method_24_code else prog_1_method_43_code) else prog_1_method_7_code) else (bif Nat.ble 26 m then prog_1_method_42_code else prog_1_method_5_code)) else (bif Nat.ble 22 m then (bif Nat.ble 23 m then (bif Nat.ble 24 m then prog_1_method_14_code else prog_1_method_17_code) else prog_1_method_21_code) else (bif Nat.ble 21 m then prog_1_method_41_code else prog_1_method_16_code)))) else (bif Nat.ble 10 m then (bif Nat.ble 15 m then (bif Nat.ble 17 m then (bif Nat.ble 18 m then (bif Nat.ble 19 m then prog_1_method_36_code else prog_1_method_15_code) else prog_1_method_19_code) else (bif Nat.ble 16 m then prog_1_method_20_code else prog_1_method_12_code)) else (bif Nat.ble 12 m then (bif Nat.ble 13 m then (bif Nat.ble 14 m then prog_1_method_11_code else prog_1_method_10_code) else prog_1_method_9_code) else (bif Nat.ble 11 m then prog_1_method_8_code else method_3_code))) else (bif Nat.ble 5 m then (bif Nat.ble 7 m then (bif Nat.ble 8 m then (bif Nat.ble 9 m then prog_1_method_29_code else prog_1_method_26_code) else prog_1_method_25_code) else (bif Nat.ble 6 m then prog_1_method_23_code else prog_1_method_22_code)) else (bif Nat.ble 2 m then (bif Nat.ble 3 m then (bif Nat.ble 4 m then prog_1_method_13_code else prog_1_method_4_code) else prog_1_method_18_code) else (bif Nat.ble 1 m then prog_1_method_1_code else code)))))
def pMaxL (m : Nat) : Nat := (bif Nat.ble 20 m then (bif Nat.ble 30 m then (bif Nat.ble 35 m then (bif Nat.ble 38 m then (bif Nat.ble 39 m then (bif Nat.ble 40 m then 3 else 4) else 3) else (bif Nat.ble 36 m then (bif Nat.ble 37 m then 10 else 4) else 4)) else (bif Nat.ble 32 m then (bif Nat.ble 33 m then (bif Nat.ble 34 m then 6 else 11) else 7) else (bif Nat.ble 31 m then 7 else 5))) else (bif Nat.ble 25 m then (bif Nat.ble 27 m then (bif Nat.ble 28 m then (bif Nat.ble 29 m then 7 else 11) else 2) else (bif Nat.ble 26 m then 4 else 5)) else (bif Nat.ble 22 m then (bif Nat.ble 23 m then (bif Nat.ble 24 m then 1 else 9) else 6) else (bif Nat.ble 21 m then 6 else 3)))) else (bif Nat.ble 10 m then (bif Nat.ble 15 m then (bif Nat.ble 17 m then (bif Nat.ble 18 m then (bif Nat.ble 19 m then 6 else 2) else 6) else (bif Nat.ble 16 m then 3 else 3)) else (bif Nat.ble 12 m then (bif Nat.ble 13 m then (bif Nat.ble 14 m then 1 else 2) else 2) else (bif Nat.ble 11 m then 1 else 5))) else (bif Nat.ble 5 m then (bif Nat.ble 7 m then (bif Nat.ble 8 m then (bif Nat.ble 9 m then 7 else 9) else 6) else (bif Nat.ble 6 m then 10 else 2)) else (bif Nat.ble 2 m then (bif Nat.ble 3 m then (bif Nat.ble 4 m then 1 else 1) else 4) else (bif Nat.ble 1 m then 3 else 10)))))
def pRet (m : Nat) : Option FieldType := (bif Nat.ble 20 m then (bif Nat.ble 30 m then (bif Nat.ble 35 m then (bif Nat.ble 38 m then (bif Nat.ble 39 m then (bif Nat.ble 40 m then (some .int) else (some .int)) else (some .long)) else (bif Nat.ble 36 m then (bif Nat.ble 37 m then (some .int) else (some .int)) else none)) else (bif Nat.ble 32 m then (bif Nat.ble 33 m then (bif Nat.ble 34 m then (some .int) else (some .int)) else (some .int)) else (bif Nat.ble 31 m then (some .int) else none))) else (bif Nat.ble 25 m then (bif Nat.ble 27 m then (bif Nat.ble 28 m then (bif Nat.ble 29 m then (some .boolean) else (some .long)) else (some .int)) else (bif Nat.ble 26 m then (some .long) else (some .int))) else (bif Nat.ble 22 m then (bif Nat.ble 23 m then (bif Nat.ble 24 m then (some .boolean) else (some .long)) else (some .int)) else (bif Nat.ble 21 m then (some .long) else (some .long))))) else (bif Nat.ble 10 m then (bif Nat.ble 15 m then (bif Nat.ble 17 m then (bif Nat.ble 18 m then (bif Nat.ble 19 m then (some .int) else (some .int)) else (some .int)) else (bif Nat.ble 16 m then (some .int) else (some .int))) else (bif Nat.ble 12 m then (bif Nat.ble 13 m then (bif Nat.ble 14 m then (some .int) else (some .int)) else (some .int)) else (bif Nat.ble 11 m then (some .int) else (some .boolean)))) else (bif Nat.ble 5 m then (bif Nat.ble 7 m then (bif Nat.ble 8 m then (bif Nat.ble 9 m then (some .int) else none) else none) else (bif Nat.ble 6 m then none else none)) else (bif Nat.ble 2 m then (bif Nat.ble 3 m then (bif Nat.ble 4 m then (some .int) else none) else (some .int)) else (bif Nat.ble 1 m then none else (some .boolean))))))
def pNA (m : Nat) : Nat := (bif Nat.ble 20 m then (bif Nat.ble 30 m then (bif Nat.ble 35 m then (bif Nat.ble 38 m then (bif Nat.ble 39 m then (bif Nat.ble 40 m then 1 else 1) else 2) else (bif Nat.ble 36 m then (bif Nat.ble 37 m then 2 else 2) else 3)) else (bif Nat.ble 32 m then (bif Nat.ble 33 m then (bif Nat.ble 34 m then 3 else 3) else 2) else (bif Nat.ble 31 m then 1 else 4))) else (bif Nat.ble 25 m then (bif Nat.ble 27 m then (bif Nat.ble 28 m then (bif Nat.ble 29 m then 3 else 4) else 1) else (bif Nat.ble 26 m then 1 else 2)) else (bif Nat.ble 22 m then (bif Nat.ble 23 m then (bif Nat.ble 24 m then 0 else 3) else 1) else (bif Nat.ble 21 m then 2 else 2)))) else (bif Nat.ble 10 m then (bif Nat.ble 15 m then (bif Nat.ble 17 m then (bif Nat.ble 18 m then (bif Nat.ble 19 m then 1 else 1) else 1) else (bif Nat.ble 16 m then 1 else 1)) else (bif Nat.ble 12 m then (bif Nat.ble 13 m then (bif Nat.ble 14 m then 0 else 1) else 1) else (bif Nat.ble 11 m then 0 else 4))) else (bif Nat.ble 5 m then (bif Nat.ble 7 m then (bif Nat.ble 8 m then (bif Nat.ble 9 m then 5 else 0) else 0) else (bif Nat.ble 6 m then 0 else 0)) else (bif Nat.ble 2 m then (bif Nat.ble 3 m then (bif Nat.ble 4 m then 0 else 0) else 3) else (bif Nat.ble 1 m then 2 else 1)))))
def pFr (m : Nat) : Nat := (bif Nat.ble 20 m then (bif Nat.ble 30 m then (bif Nat.ble 35 m then (bif Nat.ble 38 m then (bif Nat.ble 39 m then (bif Nat.ble 40 m then 0 else 2) else 0) else (bif Nat.ble 36 m then (bif Nat.ble 37 m then 1 else 2) else 0)) else (bif Nat.ble 32 m then (bif Nat.ble 33 m then (bif Nat.ble 34 m then 0 else 1) else 0) else (bif Nat.ble 31 m then 2 else 0))) else (bif Nat.ble 25 m then (bif Nat.ble 27 m then (bif Nat.ble 28 m then (bif Nat.ble 29 m then 0 else 4) else 0) else (bif Nat.ble 26 m then 4 else 1)) else (bif Nat.ble 22 m then (bif Nat.ble 23 m then (bif Nat.ble 24 m then 0 else 5) else 0) else (bif Nat.ble 21 m then 4 else 5)))) else (bif Nat.ble 10 m then (bif Nat.ble 15 m then (bif Nat.ble 17 m then (bif Nat.ble 18 m then (bif Nat.ble 19 m then 3 else 4) else 0) else (bif Nat.ble 16 m then 1 else 2)) else (bif Nat.ble 12 m then (bif Nat.ble 13 m then (bif Nat.ble 14 m then 0 else 0) else 0) else (bif Nat.ble 11 m then 0 else 6))) else (bif Nat.ble 5 m then (bif Nat.ble 7 m then (bif Nat.ble 8 m then (bif Nat.ble 9 m then 0 else 3) else 0) else (bif Nat.ble 6 m then 1 else 0)) else (bif Nat.ble 2 m then (bif Nat.ble 3 m then (bif Nat.ble 4 m then 4 else 0) else 0) else (bif Nat.ble 1 m then 1 else 7)))))
def pLo (m : Nat) : Nat := (bif Nat.ble 20 m then (bif Nat.ble 30 m then (bif Nat.ble 35 m then (bif Nat.ble 38 m then (bif Nat.ble 39 m then (bif Nat.ble 40 m then 0 else 31) else 0) else (bif Nat.ble 36 m then (bif Nat.ble 37 m then 14 else 35) else 0)) else (bif Nat.ble 32 m then (bif Nat.ble 33 m then (bif Nat.ble 34 m then 0 else 18) else 0) else (bif Nat.ble 31 m then 40 else 0))) else (bif Nat.ble 25 m then (bif Nat.ble 27 m then (bif Nat.ble 28 m then (bif Nat.ble 29 m then 0 else 67) else 0) else (bif Nat.ble 26 m then 67 else 17)) else (bif Nat.ble 22 m then (bif Nat.ble 23 m then (bif Nat.ble 24 m then 0 else 89) else 0) else (bif Nat.ble 21 m then 67 else 84)))) else (bif Nat.ble 10 m then (bif Nat.ble 15 m then (bif Nat.ble 17 m then (bif Nat.ble 18 m then (bif Nat.ble 19 m then 50 else 67) else 0) else (bif Nat.ble 16 m then 17 else 31)) else (bif Nat.ble 12 m then (bif Nat.ble 13 m then (bif Nat.ble 14 m then 0 else 0) else 0) else (bif Nat.ble 11 m then 0 else 111))) else (bif Nat.ble 5 m then (bif Nat.ble 7 m then (bif Nat.ble 8 m then (bif Nat.ble 9 m then 0 else 58) else 0) else (bif Nat.ble 6 m then 18 else 0)) else (bif Nat.ble 2 m then (bif Nat.ble 3 m then (bif Nat.ble 4 m then 78 else 0) else 0) else (bif Nat.ble 1 m then 16 else 127)))))
def tB (k : Nat) (a b : Nat → Option (Instr × Nat)) (p : Nat) : Option (Instr × Nat) := bif Nat.ble k p then a p else b p
def tL (k : Nat) (i : Instr) (x p : Nat) : Option (Instr × Nat) := bif Nat.beq p k then some (i, x) else none
def tZ (k : Nat) (i : Instr) (p : Nat) : Option (Instr × Nat) := bif Nat.beq p k then some (i, 0) else none
set_option maxHeartbeats 4000000 in
def cd0 (p : Nat) : Option (Instr × Nat) := (tB 146 (tB 225 (tB 263 (tB 283 (tB 294 (tB 299 (tB 302 (tB 303 (tZ 303 .ireturn) (tZ 302 (.iconst 1))) (tL 299 (.goto (-272)) 27)) (tB 295 (tB 296 (tZ 296 (.iinc 4 3)) (tZ 295 .ireturn)) (tZ 294 (.iconst 0)))) (tB 287 (tB 290 (tB 291 (tL 291 (.if_icmp .eq 5) 296) (tZ 290 (.iconst 0))) (tL 287 (.goto 4) 291)) (tB 286 (tZ 286 (.iconst 1)) (tL 283 (.ifCond .ne 7) 290)))) (tB 273 (tB 277 (tB 279 (tB 282 (tZ 282 (.iload_n 3)) (tL 279 (.ifCond .eq 11) 290)) (tZ 277 (.iload 9))) (tB 275 (tZ 275 (.iload 8)) (tZ 273 (.istore 9)))) (tB 267 (tB 269 (tB 270 (tL 270 (.invokevirtual 36) 24) (tZ 269 (.aload_n 2))) (tZ 267 (.istore 8))) (tB 264 (tL 264 (.invokevirtual 36) 24) (tZ 263 (.aload_n 1)))))) (tB 246 (tB 251 (tB 258 (tB 261 (tB 262 (tZ 262 .ireturn) (tZ 261 (.iconst 0))) (tL 258 (.ifCond .ne 5) 263)) (tB 253 (tB 255 (tL 255 (.invokestatic 30) 10) (tZ 253 (.iload 7))) (tZ 251 (.iload 6)))) (tB 248 (tB 249 (tB 250 (tZ 250 (.aload_n 2)) (tZ 249 (.aload_n 1))) (tZ 248 (.istore_n 3))) (tB 247 (tZ 247 (.iconst 1)) (tZ 246 .ireturn)))) (tB 235 (tB 240 (tB 242 (tB 245 (tZ 245 (.iconst 0)) (tL 242 (.ifCond .eq 5) 247)) (tZ 240 (.iload 9))) (tB 238 (tZ 238 (.istore 9)) (tL 235 (.invokevirtual 16) 39))) (tB 229 (tB 232 (tB 233 (tZ 233 (.iload 6)) (tZ 232 (.aload_n 1))) (tL 229 (.ifCond .ne 20) 249)) (tB 227 (tZ 227 (.iload 8)) (tZ 225 (.istore 8))))))) (tB 186 (tB 204 (tB 213 (tB 218 (tB 220 (tB 222 (tL 222 (.invokevirtual 12) 25) (tZ 220 (.iload 7))) (tZ 218 (.iload 6))) (tB 214 (tB 217 (tZ 217 (.aload_n 1)) (tL 214 (.goto 35) 249)) (tZ 213 (.istore_n 3)))) (tB 208 (tB 209 (tB 212 (tZ 212 (.iconst 0)) (tL 209 (.invokevirtual 27) 3)) (tZ 208 (.aload_n 2))) (tB 205 (tL 205 (.invokevirtual 27) 3) (tZ 204 (.aload_n 1))))) (tB 194 (tB 198 (tB 200 (tB 201 (tL 201 (.if_icmp .ne 16) 217) (tZ 200 (.iconst 4))) (tZ 198 (.iload 5))) (tB 195 (tL 195 (.goto 54) 249) (tZ 194 (.istore_n 3)))) (tB 191 (tB 192 (tB 193 (tZ 193 (.iconst 0)) (tZ 192 .ireturn)) (tZ 191 (.iconst 0))) (tB 188 (tL 188 (.if_icmp .eq 5) 193) (tZ 186 (.iload 9)))))) (tB 166 (tB 176 (tB 179 (tB 182 (tB 184 (tZ 184 (.iload 8)) (tZ 182 (.istore 9))) (tL 179 (.invokevirtual 23) 4)) (tB 178 (tZ 178 (.aload_n 2)) (tZ 176 (.istore 8)))) (tB 169 (tB 172 (tB 173 (tL 173 (.invokevirtual 23) 4) (tZ 172 (.aload_n 1))) (tL 169 (.if_icmp .ne 29) 198)) (tB 168 (tZ 168 (.iconst 3)) (tZ 166 (.iload 5))))) (tB 156 (tB 161 (tB 162 (tB 163 (tL 163 (.goto 86) 249) (tZ 162 .ireturn)) (tZ 161 (.iconst 0))) (tB 158 (tL 158 (.if_icmp .eq 5) 163) (tZ 156 (.iload 9)))) (tB 149 (tB 152 (tB 154 (tZ 154 (.iload 8)) (tZ 152 (.istore 9))) (tL 149 (.invokevirtual 20) 27)) (tB 147 (tZ 147 (.iload 6)) (tZ 146 (.aload_n 2)))))))) (tB 63 (tB 104 (tB 124 (tB 134 (tB 139 (tB 141 (tB 144 (tZ 144 (.istore 8)) (tL 141 (.invokevirtual 20) 27)) (tZ 139 (.iload 6))) (tB 135 (tB 138 (tZ 138 (.aload_n 1)) (tL 135 (.if_icmp .ne 31) 166)) (tZ 134 (.iconst 2)))) (tB 128 (tB 129 (tB 132 (tZ 132 (.iload 5)) (tL 129 (.goto 120) 249)) (tZ 128 .ireturn)) (tB 127 (tZ 127 (.iconst 0)) (tL 124 (.if_icmp .eq 5) 129)))) (tB 113 (tB 118 (tB 120 (tB 122 (tZ 122 (.iload 9)) (tZ 120 (.iload 8))) (tZ 118 (.istore 9))) (tB 115 (tL 115 (.invokevirtual 16) 39) (tZ 113 (.iload 6)))) (tB 107 (tB 110 (tB 112 (tZ 112 (.aload_n 2)) (tZ 110 (.istore 8))) (tL 107 (.invokevirtual 16) 39)) (tB 105 (tZ 105 (.iload 6)) (tZ 104 (.aload_n 1)))))) (tB 84 (tB 94 (tB 98 (tB 100 (tB 101 (tL 101 (.if_icmp .ne 31) 132) (tZ 100 (.iconst 1))) (tZ 98 (.iload 5))) (tB 95 (tL 95 (.goto 154) 249) (tZ 94 .ireturn))) (tB 88 (tB 90 (tB 93 (tZ 93 (.iconst 0)) (tL 90 (.if_icmp .eq 5) 95)) (tZ 88 (.iload 9))) (tB 86 (tZ 86 (.iload 8)) (tZ 84 (.istore 9))))) (tB 74 (tB 77 (tB 79 (tB 81 (tL 81 (.invokevirtual 12) 25) (tZ 79 (.iload 7))) (tZ 77 (.iload 6))) (tB 76 (tZ 76 (.aload_n 2)) (tZ 74 (.istore 8)))) (tB 67 (tB 69 (tB 71 (tL 71 (.invokevirtual 12) 25) (tZ 69 (.iload 7))) (tZ 67 (.iload 6))) (tB 66 (tZ 66 (.aload_n 1)) (tL 63 (.ifCond .ne 35) 98)))))) (tB 32 (tB 48 (tB 54 (tB 58 (tB 59 (tB 61 (tZ 61 (.iload 5)) (tZ 59 (.istore 7))) (tZ 58 .iaload)) (tB 56 (tB 57 (tZ 57 .iadd) (tZ 56 (.iconst 2))) (tZ 54 (.iload 4)))) (tB 50 (tB 51 (tB 53 (tZ 53 (.aload_n 0)) (tZ 51 (.istore 6))) (tZ 50 .iaload)) (tB 49 (tZ 49 .iadd) (tZ 48 (.iconst 1))))) (tB 40 (tB 43 (tB 45 (tB 46 (tZ 46 (.iload 4)) (tZ 45 (.aload_n 0))) (tZ 43 (.istore 5))) (tB 42 (tZ 42 .iand) (tZ 40 (.bipush 7)))) (tB 36 (tB 37 (tB 39 (tZ 39 .iaload) (tZ 37 (.iload 4))) (tZ 36 (.aload_n 0))) (tB 33 (tL 33 (.if_icmp .ge 269) 302) (tZ 32 .arraylength))))) (tB 18 (tB 25 (tB 29 (tB 30 (tB 31 (tZ 31 (.aload_n 0)) (tZ 30 .iadd)) (tZ 29 (.iconst 2))) (tB 27 (tZ 27 (.iload 4)) (tZ 25 (.istore 4)))) (tB 22 (tB 23 (tB 24 (tZ 24 (.iconst 0)) (tZ 23 (.istore_n 3))) (tZ 22 (.iconst 0))) (tB 21 (tZ 21 (.astore_n 2)) (tL 18 (.invokespecial 9) 1)))) (tB 10 (tB 14 (tB 15 (tB 17 (tZ 17 (.iconst 4)) (tZ 15 (.bipush 8))) (tZ 14 .dup)) (tB 11 (tZ 11 (.new 7)) (tZ 10 (.astore_n 1)))) (tB 4 (tB 6 (tB 7 (tL 7 (.invokespecial 9) 1) (tZ 6 (.iconst 4))) (tZ 4 (.bipush 8))) (tB 3 (tZ 3 .dup) (tZ 0 (.new 7))))))))) p
set_option maxHeartbeats 4000000 in
def cd1 (p : Nat) : Option (Instr × Nat) := (tB 134 (tB 211 (tB 252 (tB 268 (tB 273 (tB 279 (tB 280 (tB 283 (tZ 283 .return_) (tL 280 (.invokevirtual 129) 3)) (tZ 279 (.aload_n 0))) (tB 276 (tL 276 (.putfield 126) 35) (tL 273 (.invokevirtual 119) 2))) (tB 270 (tB 271 (tZ 271 (.bipush 16)) (tZ 270 (.iconst 1))) (tB 269 (tZ 269 (.iload_n 2)) (tZ 268 (.aload_n 0))))) (tB 258 (tB 261 (tB 264 (tB 267 (tZ 267 (.aload_n 0)) (tL 264 (.putfield 123) 34)) (tL 261 (.invokevirtual 119) 2)) (tB 259 (tZ 259 (.bipush 64)) (tZ 258 (.iconst 1)))) (tB 256 (tB 257 (tZ 257 (.iload_n 1)) (tZ 256 (.aload_n 0))) (tB 255 (tZ 255 (.aload_n 0)) (tL 252 (.putfield 116) 33))))) (tB 232 (tB 241 (tB 246 (tB 247 (tB 250 (tZ 250 (.newarray .int)) (tZ 247 (.sipush 130))) (tZ 246 (.aload_n 0))) (tB 243 (tL 243 (.putfield 113) 32) (tZ 241 (.newarray .int)))) (tB 237 (tB 238 (tZ 238 (.sipush 130)) (tZ 237 (.aload_n 0))) (tB 234 (tL 234 (.putfield 110) 31) (tZ 232 (.newarray .int))))) (tB 220 (tB 225 (tB 228 (tB 229 (tZ 229 (.sipush 130)) (tZ 228 (.aload_n 0))) (tL 225 (.putfield 107) 30)) (tB 223 (tZ 223 (.newarray .int)) (tZ 220 (.sipush 130)))) (tB 216 (tB 219 (tZ 219 (.aload_n 0)) (tL 216 (.putfield 104) 29)) (tB 214 (tZ 214 (.newarray .byte)) (tZ 211 (.sipush 192))))))) (tB 171 (tB 192 (tB 201 (tB 205 (tB 207 (tB 210 (tZ 210 (.aload_n 0)) (tL 207 (.putfield 100) 28)) (tZ 205 (.newarray .long))) (tB 202 (tZ 202 (.sipush 192)) (tZ 201 (.aload_n 0)))) (tB 196 (tB 198 (tL 198 (.putfield 97) 27) (tZ 196 (.newarray .byte))) (tB 193 (tZ 193 (.sipush 256)) (tZ 192 (.aload_n 0))))) (tB 180 (tB 184 (tB 187 (tB 189 (tL 189 (.putfield 94) 26) (tZ 187 (.newarray .int))) (tZ 184 (.sipush 160))) (tB 183 (tZ 183 (.aload_n 0)) (tL 180 (.putfield 91) 25))) (tB 175 (tB 178 (tZ 178 (.newarray .int)) (tZ 175 (.sipush 160))) (tB 174 (tZ 174 (.aload_n 0)) (tL 171 (.putfield 88) 24))))) (tB 151 (tB 160 (tB 165 (tB 166 (tB 169 (tZ 169 (.newarray .int)) (tZ 166 (.sipush 160))) (tZ 165 (.aload_n 0))) (tB 162 (tL 162 (.putfield 85) 23) (tZ 160 (.newarray .int)))) (tB 156 (tB 157 (tZ 157 (.sipush 160)) (tZ 156 (.aload_n 0))) (tB 153 (tL 153 (.putfield 82) 22) (tZ 151 (.newarray .byte))))) (tB 142 (tB 147 (tB 148 (tZ 148 (.sipush 160)) (tZ 147 (.aload_n 0))) (tB 144 (tL 144 (.putfield 79) 21) (tZ 142 (.newarray .int)))) (tB 139 (tB 140 (tZ 140 (.bipush 64)) (tZ 139 (.aload_n 0))) (tB 136 (tL 136 (.putfield 76) 20) (tZ 134 (.newarray .int)))))))) (tB 65 (tB 99 (tB 116 (tB 124 (tB 128 (tB 131 (tB 132 (tZ 132 (.bipush 64)) (tZ 131 (.aload_n 0))) (tL 128 (.putfield 73) 19)) (tB 126 (tZ 126 (.newarray .int)) (tZ 124 (.bipush 65)))) (tB 120 (tB 123 (tZ 123 (.aload_n 0)) (tL 120 (.putfield 70) 18)) (tB 118 (tZ 118 (.newarray .int)) (tZ 116 (.bipush 65))))) (tB 107 (tB 110 (tB 112 (tB 115 (tZ 115 (.aload_n 0)) (tL 112 (.putfield 67) 17)) (tZ 110 (.newarray .byte))) (tB 108 (tZ 108 (.bipush 64)) (tZ 107 (.aload_n 0)))) (tB 102 (tB 104 (tL 104 (.putfield 64) 16) (tZ 102 (.newarray .int))) (tB 100 (tZ 100 (.bipush 64)) (tZ 99 (.aload_n 0)))))) (tB 80 (tB 88 (tB 92 (tB 94 (tB 96 (tL 96 (.putfield 60) 15) (tZ 94 (.newarray .byte))) (tZ 92 (.bipush 64))) (tB 91 (tZ 91 (.aload_n 0)) (tL 88 (.putfield 56) 14))) (tB 84 (tB 86 (tZ 86 (.newarray .int)) (tZ 84 (.bipush 64))) (tB 83 (tZ 83 (.aload_n 0)) (tL 80 (.putfield 53) 13)))) (tB 71 (tB 77 (tB 78 (tL 78 (.ldc 52) 1) (tZ 77 (.aload_n 0))) (tB 74 (tL 74 (.putfield 48) 12) (tZ 71 (.ldc2_w 46)))) (tB 67 (tB 70 (tZ 70 (.aload_n 0)) (tL 67 (.putfield 43) 11)) (tB 66 (tZ 66 (.iconst 3)) (tZ 65 (.aload_n 0))))))) (tB 29 (tB 47 (tB 53 (tB 59 (tB 60 (tB 62 (tL 62 (.putfield 40) 10) (tZ 60 (.bipush 64))) (tZ 59 (.aload_n 0))) (tB 56 (tL 56 (.putfield 37) 9) (tZ 53 (.sipush 256)))) (tB 49 (tB 52 (tZ 52 (.aload_n 0)) (tL 49 (.putfield 34) 8)) (tB 48 (tZ 48 (.iconst 4)) (tZ 47 (.aload_n 0))))) (tB 36 (tB 41 (tB 42 (tB 44 (tL 44 (.putfield 31) 7) (tZ 42 (.bipush 64))) (tZ 41 (.aload_n 0))) (tB 38 (tL 38 (.putfield 28) 6) (tZ 36 (.bipush 16)))) (tB 32 (tB 35 (tZ 35 (.aload_n 0)) (tL 32 (.putfield 25) 5)) (tB 30 (tZ 30 (.bipush 64)) (tZ 29 (.aload_n 0)))))) (tB 14 (tB 20 (tB 24 (tB 25 (tB 26 (tL 26 (.putfield 22) 4) (tZ 25 (.iconst 4))) (tZ 24 (.aload_n 0))) (tB 21 (tL 21 (.putfield 19) 3) (tZ 20 (.iconst 3)))) (tB 16 (tB 19 (tZ 19 (.aload_n 0)) (tL 16 (.putfield 16) 2)) (tB 15 (tZ 15 (.iconst 2)) (tZ 14 (.aload_n 0))))) (tB 6 (tB 10 (tB 11 (tL 11 (.putfield 13) 1) (tZ 10 (.iconst 1))) (tB 9 (tZ 9 (.aload_n 0)) (tZ 6 (.putfield 7)))) (tB 4 (tB 5 (tZ 5 (.iconst 0)) (tZ 4 (.aload_n 0))) (tB 1 (tZ 1 (.invokespecial 1)) (tZ 0 (.aload_n 0))))))))) p
set_option maxHeartbeats 4000000 in
def cd2 (p : Nat) : Option (Instr × Nat) := (tB 8 (tB 13 (tB 14 (tB 15 (tZ 15 .ireturn) (tZ 14 (.iload_n 1))) (tZ 13 .ireturn)) (tB 9 (tB 12 (tZ 12 (.iload_n 3)) (tL 9 (.if_icmp .le 5) 14)) (tZ 8 (.iload_n 3)))) (tB 5 (tB 6 (tB 7 (tZ 7 (.iload_n 1)) (tZ 6 .ireturn)) (tZ 5 (.iload_n 2))) (tB 1 (tB 2 (tL 2 (.if_icmp .ge 5) 7) (tZ 1 (.iload_n 2))) (tZ 0 (.iload_n 1))))) p
set_option maxHeartbeats 4000000 in
def cd3 (p : Nat) : Option (Instr × Nat) := (tB 30 (tB 45 (tB 52 (tB 56 (tB 57 (tB 60 (tZ 60 .return_) (tL 57 (.putfield 166) 47)) (tZ 56 (.iconst 0))) (tB 55 (tZ 55 (.aload_n 0)) (tL 52 (.putfield 163) 46))) (tB 47 (tB 50 (tB 51 (tZ 51 (.iconst 0)) (tZ 50 (.aload_n 0))) (tL 47 (.putfield 160) 45)) (tB 46 (tZ 46 (.iconst 0)) (tZ 45 (.aload_n 0))))) (tB 36 (tB 40 (tB 41 (tB 42 (tL 42 (.putfield 157) 44) (tZ 41 (.iconst 0))) (tZ 40 (.aload_n 0))) (tB 37 (tL 37 (.putfield 154) 43) (tZ 36 (.iconst 0)))) (tB 32 (tB 35 (tZ 35 (.aload_n 0)) (tL 32 (.putfield 151) 42)) (tB 31 (tZ 31 (.iconst 0)) (tZ 30 (.aload_n 0)))))) (tB 15 (tB 21 (tB 25 (tB 26 (tB 27 (tL 27 (.putfield 148) 41) (tZ 26 (.iconst 0))) (tZ 25 (.aload_n 0))) (tB 22 (tL 22 (.putfield 145) 40) (tZ 21 (.iconst 0)))) (tB 17 (tB 20 (tZ 20 (.aload_n 0)) (tL 17 (.putfield 142) 39)) (tB 16 (tZ 16 (.iconst 0)) (tZ 15 (.aload_n 0))))) (tB 6 (tB 10 (tB 11 (tB 12 (tL 12 (.putfield 138) 38) (tZ 11 (.iconst 0))) (tZ 10 (.aload_n 0))) (tB 7 (tL 7 (.putfield 135) 37) (tZ 6 (.iconst 0)))) (tB 2 (tB 5 (tZ 5 (.aload_n 0)) (tL 2 (.putfield 132) 36)) (tB 1 (tZ 1 (.iconst 0)) (tZ 0 (.aload_n 0))))))) p
set_option maxHeartbeats 4000000 in
def cd4 (p : Nat) : Option (Instr × Nat) := (tB 9 (tB 16 (tB 17 (tB 20 (tZ 20 .ireturn) (tL 17 (.getfield 142) 39)) (tZ 16 (.aload_n 0))) (tB 12 (tB 13 (tL 13 (.invokevirtual 185) 8) (tZ 12 (.aload_n 0))) (tL 9 (.invokevirtual 182) 7))) (tB 4 (tB 5 (tB 8 (tZ 8 (.aload_n 0)) (tL 5 (.invokevirtual 179) 6)) (tZ 4 (.aload_n 0))) (tB 1 (tL 1 (.invokevirtual 176) 5) (tZ 0 (.aload_n 0))))) p
set_option maxHeartbeats 4000000 in
def cd5 (p : Nat) : Option (Instr × Nat) := (tB 35 (tB 49 (tB 58 (tB 62 (tB 63 (tB 66 (tZ 66 .return_) (tL 63 (.putfield 138) 38)) (tZ 62 (.iconst 0))) (tB 61 (tZ 61 (.aload_n 0)) (tL 58 (.putfield 148) 41))) (tB 53 (tB 56 (tB 57 (tZ 57 (.iconst 1)) (tZ 56 (.aload_n 0))) (tL 53 (.goto (-35)) 18)) (tB 50 (tZ 50 (.iinc 1 1)) (tZ 49 .bastore)))) (tB 42 (tB 44 (tB 47 (tB 48 (tZ 48 .baload) (tZ 47 (.iload_n 1))) (tL 44 (.getfield 60) 15)) (tB 43 (tZ 43 (.aload_n 0)) (tZ 42 (.iload_n 1)))) (tB 37 (tB 38 (tB 39 (tL 39 (.getfield 67) 17) (tZ 38 (.aload_n 0))) (tZ 37 .iastore)) (tB 36 (tZ 36 .iaload) (tZ 35 (.iload_n 1)))))) (tB 17 (tB 26 (tB 30 (tB 31 (tB 32 (tL 32 (.getfield 56) 14) (tZ 31 (.aload_n 0))) (tZ 30 (.iload_n 1))) (tB 27 (tL 27 (.getfield 64) 16) (tZ 26 (.aload_n 0)))) (tB 19 (tB 20 (tB 23 (tL 23 (.if_icmp .ge 33) 56) (tL 20 (.getfield 132) 36)) (tZ 19 (.aload_n 0))) (tB 18 (tZ 18 (.iload_n 1)) (tZ 17 (.istore_n 1))))) (tB 8 (tB 10 (tB 13 (tB 16 (tZ 16 (.iconst 0)) (tL 13 (.putfield 145) 40)) (tL 10 (.getfield 135) 37)) (tB 9 (tZ 9 (.aload_n 0)) (tZ 8 (.aload_n 0)))) (tB 2 (tB 5 (tL 5 (.putfield 142) 39) (tL 2 (.getfield 132) 36)) (tB 1 (tZ 1 (.aload_n 0)) (tZ 0 (.aload_n 0))))))) p
set_option maxHeartbeats 4000000 in
def cd6 (p : Nat) : Option (Instr × Nat) := (tB 99 (tB 154 (tB 178 (tB 189 (tB 194 (tB 200 (tB 203 (tB 206 (tZ 206 .return_) (tL 203 (.goto (-189)) 14)) (tZ 200 (.iinc 2 1))) (tB 197 (tL 197 (.goto (-145)) 52) (tZ 194 (.iinc 5 (-1))))) (tB 191 (tB 193 (tZ 193 .iastore) (tZ 191 (.iload 5))) (tB 190 (tZ 190 .iadd) (tZ 189 (.iconst 1))))) (tB 183 (tB 185 (tB 188 (tZ 188 (.iload_n 2)) (tL 185 (.getfield 73) 19)) (tB 184 (tZ 184 (.aload_n 0)) (tZ 183 .iastore))) (tB 181 (tB 182 (tZ 182 .iadd) (tZ 181 (.iconst 1))) (tB 180 (tZ 180 .iaload) (tZ 178 (.iload 5)))))) (tB 164 (tB 172 (tB 174 (tB 175 (tL 175 (.getfield 70) 18) (tZ 174 (.aload_n 0))) (tB 173 (tZ 173 .iadd) (tZ 172 (.iconst 1)))) (tB 168 (tB 171 (tZ 171 (.iload_n 2)) (tL 168 (.getfield 70) 18)) (tB 167 (tZ 167 (.aload_n 0)) (tL 164 (.if_icmp .ge 30) 194)))) (tB 160 (tB 162 (tB 163 (tZ 163 .iaload) (tZ 162 .iadd)) (tB 161 (tZ 161 (.iconst 1)) (tZ 160 (.iload_n 2)))) (tB 156 (tB 157 (tL 157 (.getfield 70) 18) (tZ 156 (.aload_n 0))) (tB 155 (tZ 155 .iadd) (tZ 154 (.iconst 1))))))) (tB 126 (tB 137 (tB 147 (tB 151 (tB 153 (tZ 153 .iaload) (tZ 151 (.iload 5))) (tB 148 (tL 148 (.getfield 70) 18) (tZ 147 (.aload_n 0)))) (tB 142 (tB 144 (tL 144 (.ifCond .eq 50) 194) (tZ 142 (.iload 9))) (tB 140 (tZ 140 (.istore 9)) (tL 137 (.invokevirtual 207) 29)))) (tB 132 (tB 134 (tB 135 (tZ 135 (.iload 4)) (tZ 134 .iadd)) (tB 133 (tZ 133 (.iconst 1)) (tZ 132 .isub))) (tB 129 (tB 130 (tZ 130 (.iload 5)) (tZ 129 (.iload_n 2))) (tB 127 (tZ 127 (.lload 7)) (tZ 126 (.aload_n 0)))))) (tB 110 (tB 116 (tB 120 (tB 123 (tL 123 (.goto 77) 200) (tL 120 (.ifCond .le 6) 126)) (tB 119 (tZ 119 .lcmp) (tL 116 (.ldc2_w 205) 2))) (tB 112 (tB 114 (tZ 114 (.lload 7)) (tZ 112 (.lstore 7))) (tB 111 (tZ 111 .ladd) (tZ 110 (.lconst 1))))) (tB 105 (tB 108 (tB 109 (tZ 109 .lsub) (tZ 108 .i2l)) (tB 107 (tZ 107 .iaload) (tZ 105 (.iload 5)))) (tB 101 (tB 102 (tL 102 (.getfield 64) 16) (tZ 101 (.aload_n 0))) (tB 100 (tZ 100 .i2l) (tZ 99 .iaload))))))) (tB 44 (tB 72 (tB 85 (tB 90 (tB 94 (tB 95 (tB 98 (tZ 98 (.iload_n 2)) (tL 95 (.getfield 64) 16)) (tZ 94 (.aload_n 0))) (tB 91 (tZ 91 (.iinc 4 1)) (tZ 90 (.istore_n 3)))) (tB 88 (tB 89 (tZ 89 .ior) (tZ 88 .ishl)) (tB 86 (tZ 86 (.iload 6)) (tZ 85 (.iconst 1))))) (tB 79 (tB 81 (tB 84 (tZ 84 (.iload_n 3)) (tL 81 (.ifCond .ne 13) 94)) (tB 80 (tZ 80 .iand) (tZ 79 .ishl))) (tB 76 (tB 77 (tZ 77 (.iload 6)) (tZ 76 (.iconst 1))) (tB 75 (tZ 75 (.iload_n 3)) (tL 72 (.if_icmp .eq 22) 94))))) (tB 57 (tB 64 (tB 68 (tB 69 (tL 69 (.getfield 145) 40) (tZ 68 (.aload_n 0))) (tB 66 (tZ 66 (.iload 6)) (tZ 64 (.istore 6)))) (tB 61 (tB 63 (tZ 63 .baload) (tZ 61 (.iload 5))) (tB 58 (tL 58 (.getfield 67) 17) (tZ 57 (.aload_n 0))))) (tB 49 (tB 52 (tB 54 (tL 54 (.ifCond .lt 146) 200) (tZ 52 (.iload 5))) (tB 50 (tZ 50 (.istore 5)) (tZ 49 (.iload_n 2)))) (tB 46 (tB 47 (tZ 47 (.istore 4)) (tZ 46 (.iconst 0))) (tB 45 (tZ 45 (.istore_n 3)) (tZ 44 (.iconst 0))))))) (tB 24 (tB 34 (tB 40 (tB 42 (tB 43 (tZ 43 .iastore) (tZ 42 (.iload_n 2))) (tB 41 (tZ 41 .iadd) (tZ 40 (.iconst 1)))) (tB 36 (tB 39 (tZ 39 (.iload_n 2)) (tL 36 (.getfield 73) 19)) (tB 35 (tZ 35 (.aload_n 0)) (tZ 34 .iastore)))) (tB 30 (tB 32 (tB 33 (tZ 33 .iadd) (tZ 32 (.iconst 1))) (tB 31 (tZ 31 .iaload) (tZ 30 (.iload_n 2)))) (tB 26 (tB 27 (tL 27 (.getfield 70) 18) (tZ 26 (.aload_n 0))) (tB 25 (tZ 25 .iadd) (tZ 24 (.iconst 1)))))) (tB 12 (tB 16 (tB 20 (tB 23 (tZ 23 (.iload_n 2)) (tL 20 (.getfield 70) 18)) (tB 19 (tZ 19 (.aload_n 0)) (tL 16 (.if_icmp .ge 190) 206))) (tB 14 (tB 15 (tZ 15 (.iload_n 1)) (tZ 14 (.iload_n 2))) (tB 13 (tZ 13 (.istore_n 2)) (tZ 12 (.iconst 0))))) (tB 6 (tB 10 (tB 11 (tZ 11 .iastore) (tZ 10 (.iconst 0))) (tB 9 (tZ 9 (.iconst 0)) (tL 6 (.getfield 70) 18))) (tB 4 (tB 5 (tZ 5 (.aload_n 0)) (tZ 4 (.istore_n 1))) (tB 1 (tL 1 (.getfield 142) 39) (tZ 0 (.aload_n 0))))))))) p
set_option maxHeartbeats 4000000 in
def cd7 (p : Nat) : Option (Instr × Nat) := (tB 41 (tB 69 (tB 77 (tB 81 (tB 85 (tB 88 (tZ 88 .return_) (tL 85 (.goto (-63)) 22)) (tB 82 (tZ 82 (.iinc 4 1)) (tZ 81 (.istore_n 3)))) (tB 78 (tB 79 (tZ 79 (.iload 5)) (tZ 78 .iastore)) (tZ 77 .isub))) (tB 74 (tB 75 (tB 76 (tZ 76 (.iconst 1)) (tZ 75 (.iload_n 3))) (tZ 74 (.iload_n 2))) (tB 70 (tB 71 (tL 71 (.getfield 79) 21) (tZ 70 (.aload_n 0))) (tZ 69 .iastore)))) (tB 55 (tB 62 (tB 66 (tB 67 (tZ 67 (.iload 5)) (tZ 66 (.iload_n 2))) (tB 63 (tL 63 (.getfield 76) 20) (tZ 62 (.aload_n 0)))) (tB 56 (tB 59 (tL 59 (.goto 29) 88) (tL 56 (.if_icmp .lt 6) 62)) (tZ 55 (.iload_n 3)))) (tB 48 (tB 50 (tB 53 (tZ 53 (.iload 5)) (tL 50 (.ifCond .lt 38) 88)) (tZ 48 (.iload 5))) (tB 44 (tB 45 (tL 45 (.ifCond .lt 43) 88) (tZ 44 (.iload_n 2))) (tZ 41 (.iinc 2 (-1))))))) (tB 18 (tB 29 (tB 34 (tB 38 (tB 39 (tZ 39 (.istore 5)) (tZ 38 .iaload)) (tB 37 (tZ 37 (.iload_n 3)) (tL 34 (.getfield 73) 19))) (tB 30 (tB 33 (tZ 33 (.aload_n 0)) (tL 30 (.ifCond .le 58) 88)) (tZ 29 (.iload_n 3)))) (tB 22 (tB 24 (tB 26 (tL 26 (.if_icmp .ge 62) 88) (tZ 24 (.bipush 65))) (tZ 22 (.iload 4))) (tB 19 (tB 20 (tZ 20 (.istore 4)) (tZ 19 (.iconst 0))) (tZ 18 (.istore_n 3))))) (tB 10 (tB 13 (tB 14 (tB 17 (tZ 17 (.iload_n 1)) (tL 14 (.putfield 151) 42)) (tZ 13 (.iload_n 2))) (tB 11 (tB 12 (tZ 12 (.aload_n 0)) (tZ 11 (.istore_n 2))) (tZ 10 .iaload))) (tB 5 (tB 6 (tB 9 (tZ 9 (.iload_n 1)) (tL 6 (.getfield 70) 18)) (tZ 5 (.aload_n 0))) (tB 1 (tB 4 (tZ 4 (.istore_n 1)) (tL 1 (.getfield 142) 39)) (tZ 0 (.aload_n 0))))))) p
set_option maxHeartbeats 4000000 in
def cd8 (p : Nat) : Option (Instr × Nat) := (tB 104 (tB 154 (tB 181 (tB 193 (tB 200 (tB 206 (tB 209 (tZ 209 .return_) (tL 206 (.goto (-147)) 59)) (tB 203 (tZ 203 (.iinc 1 1)) (tL 200 (.invokevirtual 229) 35))) (tB 196 (tB 198 (tZ 198 (.iload 6)) (tZ 196 (.iload 5))) (tB 194 (tZ 194 (.iload 4)) (tZ 193 (.aload_n 0))))) (tB 186 (tB 189 (tB 190 (tL 190 (.invokevirtual 219) 30) (tZ 189 (.iconst 0))) (tB 187 (tZ 187 (.iload 6)) (tZ 186 .isub))) (tB 183 (tB 185 (tZ 185 (.iconst 1)) (tZ 183 (.iload 7))) (tB 182 (tZ 182 (.iload_n 2)) (tZ 181 (.aload_n 0)))))) (tB 166 (tB 174 (tB 177 (tB 178 (tL 178 (.invokevirtual 219) 30) (tZ 177 (.iconst 1))) (tB 175 (tZ 175 (.iload 6)) (tZ 174 (.iload_n 3)))) (tB 171 (tB 172 (tZ 172 (.iload 7)) (tZ 171 (.aload_n 0))) (tB 169 (tZ 169 (.istore 6)) (tL 166 (.invokevirtual 215) 9)))) (tB 161 (tB 164 (tB 165 (tZ 165 (.iconst 0)) (tZ 164 (.iconst 0))) (tB 163 (tZ 163 (.iconst 0)) (tZ 161 (.iload 8)))) (tB 159 (tB 160 (tZ 160 (.iconst 1)) (tZ 159 (.aload_n 0))) (tB 157 (tZ 157 (.istore 8)) (tL 154 (.invokevirtual 226) 40)))))) (tB 129 (tB 144 (tB 148 (tB 151 (tB 152 (tZ 152 (.iload 7)) (tZ 151 (.aload_n 0))) (tB 149 (tZ 149 (.istore 7)) (tZ 148 .iushr))) (tB 146 (tB 147 (tZ 147 (.iconst 1)) (tZ 146 .iadd)) (tB 145 (tZ 145 (.iconst 1)) (tZ 144 .iadd)))) (tB 137 (tB 142 (tB 143 (tZ 143 (.iload_n 3)) (tZ 142 (.iload_n 2))) (tB 139 (tL 139 (.goto 54) 193) (tZ 137 (.istore 6)))) (tB 133 (tB 134 (tL 134 (.invokevirtual 223) 31) (tZ 133 (.iload_n 2))) (tB 132 (tZ 132 (.aload_n 0)) (tL 129 (.if_icmp .lt 13) 142))))) (tB 116 (tB 124 (tB 127 (tB 128 (tZ 128 (.iload_n 3)) (tZ 127 (.iload_n 2))) (tB 125 (tZ 125 (.istore 5)) (tZ 124 .iaload))) (tB 120 (tB 121 (tL 121 (.getfield 166) 47) (tZ 120 (.aload_n 0))) (tB 117 (tL 117 (.getfield 116) 33) (tZ 116 (.aload_n 0))))) (tB 109 (tB 113 (tB 114 (tZ 114 (.istore 4)) (tZ 113 .iaload)) (tB 110 (tL 110 (.getfield 166) 47) (tZ 109 (.aload_n 0)))) (tB 105 (tB 106 (tL 106 (.getfield 113) 32) (tZ 105 (.aload_n 0))) (tZ 104 (.istore_n 3))))))) (tB 51 (tB 76 (tB 90 (tB 96 (tB 100 (tB 103 (tZ 103 .iaload) (tL 100 (.getfield 166) 47)) (tB 99 (tZ 99 (.aload_n 0)) (tL 96 (.getfield 110) 31))) (tB 94 (tB 95 (tZ 95 (.aload_n 0)) (tZ 94 (.istore_n 2))) (tB 93 (tZ 93 .iaload) (tL 90 (.getfield 166) 47)))) (tB 82 (tB 86 (tB 89 (tZ 89 (.aload_n 0)) (tL 86 (.getfield 107) 30)) (tB 85 (tZ 85 (.aload_n 0)) (tL 82 (.putfield 166) 47))) (tB 80 (tB 81 (tZ 81 .isub) (tZ 80 (.iconst 1))) (tB 77 (tL 77 (.getfield 166) 47) (tZ 76 .dup))))) (tB 60 (tB 68 (tB 72 (tB 75 (tZ 75 (.aload_n 0)) (tL 72 (.ifCond .le 137) 209)) (tB 69 (tL 69 (.getfield 166) 47) (tZ 68 (.aload_n 0)))) (tB 64 (tB 65 (tL 65 (.if_icmp .ge 144) 209) (tZ 64 .arraylength)) (tB 61 (tL 61 (.getfield 82) 22) (tZ 60 (.aload_n 0))))) (tB 54 (tB 58 (tB 59 (tZ 59 (.iload_n 1)) (tZ 58 (.istore_n 1))) (tB 57 (tZ 57 (.iconst 0)) (tL 54 (.invokevirtual 219) 30))) (tB 52 (tB 53 (tZ 53 (.iconst 0)) (tZ 52 (.iconst (-1)))) (tZ 51 .isub))))) (tB 23 (tB 37 (tB 45 (tB 47 (tB 50 (tZ 50 (.iconst 1)) (tL 47 (.getfield 151) 42)) (tB 46 (tZ 46 (.aload_n 0)) (tZ 45 (.iconst 0)))) (tB 43 (tB 44 (tZ 44 (.aload_n 0)) (tZ 43 .return_)) (tB 40 (tL 40 (.ifCond .gt 4) 44) (tL 37 (.getfield 151) 42)))) (tB 29 (tB 33 (tB 36 (tZ 36 (.aload_n 0)) (tL 33 (.putfield 157) 44)) (tB 30 (tL 30 (.invokevirtual 215) 9) (tZ 29 (.iconst 0)))) (tB 27 (tB 28 (tZ 28 (.iconst 0)) (tZ 27 (.iconst 0))) (tB 24 (tL 24 (.getfield 145) 40) (tZ 23 (.aload_n 0)))))) (tB 11 (tB 17 (tB 21 (tB 22 (tZ 22 (.iconst 0)) (tZ 21 (.aload_n 0))) (tB 20 (tZ 20 (.aload_n 0)) (tL 17 (.putfield 166) 47))) (tB 15 (tB 16 (tZ 16 (.iconst 0)) (tZ 15 (.aload_n 0))) (tB 12 (tL 12 (.putfield 163) 46) (tZ 11 (.iconst 0))))) (tB 5 (tB 7 (tB 10 (tZ 10 (.aload_n 0)) (tL 7 (.putfield 160) 45)) (tB 6 (tZ 6 (.iconst 0)) (tZ 5 (.aload_n 0)))) (tB 1 (tB 2 (tL 2 (.putfield 154) 43) (tZ 1 (.iconst 0))) (tZ 0 (.aload_n 0)))))))) p
set_option maxHeartbeats 4000000 in
def cd9 (p : Nat) : Option (Instr × Nat) := (tB 39 (tB 57 (tB 67 (tB 71 (tB 74 (tB 76 (tZ 76 .ireturn) (tZ 74 (.iload 6))) (tL 71 (.putfield 154) 43)) (tB 69 (tB 70 (tZ 70 .iadd) (tZ 69 (.iconst 1))) (tZ 67 (.iload 6)))) (tB 63 (tB 65 (tB 66 (tZ 66 (.aload_n 0)) (tZ 65 .iastore)) (tZ 63 (.iload 5))) (tB 58 (tB 61 (tZ 61 (.iload 6)) (tL 58 (.getfield 94) 26)) (tZ 57 (.aload_n 0))))) (tB 47 (tB 52 (tB 54 (tB 56 (tZ 56 .iastore) (tZ 54 (.iload 4))) (tZ 52 (.iload 6))) (tB 48 (tB 49 (tL 49 (.getfield 91) 25) (tZ 48 (.aload_n 0))) (tZ 47 .iastore))) (tB 41 (tB 44 (tB 46 (tZ 46 (.iload_n 3)) (tZ 44 (.iload 6))) (tL 41 (.getfield 88) 24)) (tB 40 (tZ 40 (.aload_n 0)) (tZ 39 .iastore))))) (tB 22 (tB 30 (tB 33 (tB 36 (tB 38 (tZ 38 (.iload_n 2)) (tZ 36 (.iload 6))) (tL 33 (.getfield 85) 23)) (tB 31 (tB 32 (tZ 32 (.aload_n 0)) (tZ 31 .bastore)) (tZ 30 .i2b))) (tB 24 (tB 27 (tB 29 (tZ 29 (.iload_n 1)) (tZ 27 (.iload 6))) (tL 24 (.getfield 82) 22)) (tB 23 (tZ 23 (.aload_n 0)) (tZ 22 .ireturn)))) (tB 11 (tB 17 (tB 18 (tB 21 (tZ 21 (.iconst 0)) (tL 18 (.if_icmp .lt 5) 23)) (tZ 17 .arraylength)) (tB 13 (tB 14 (tL 14 (.getfield 82) 22) (tZ 13 (.aload_n 0))) (tZ 11 (.iload 6)))) (tB 4 (tB 6 (tB 8 (tL 8 (.ifCond .lt 13) 21) (tZ 6 (.iload 6))) (tZ 4 (.istore 6))) (tB 1 (tL 1 (.getfield 154) 43) (tZ 0 (.aload_n 0))))))) p
set_option maxHeartbeats 4000000 in
def cd10 (p : Nat) : Option (Instr × Nat) := (tB 83 (tB 119 (tB 136 (tB 147 (tB 152 (tB 153 (tB 154 (tZ 154 .ireturn) (tZ 153 (.iconst 1))) (tZ 152 .ireturn)) (tB 148 (tB 151 (tZ 151 (.iconst 0)) (tL 148 (.ifCond .eq 5) 153)) (tZ 147 .lcmp))) (tB 141 (tB 142 (tB 144 (tL 144 (.invokevirtual 62) 23) (tZ 142 (.iload 4))) (tZ 141 (.iload_n 3))) (tB 139 (tB 140 (tZ 140 (.iload_n 2)) (tZ 139 (.aload_n 1))) (tL 136 (.invokevirtual 62) 23)))) (tB 129 (tB 132 (tB 133 (tB 134 (tZ 134 (.iload 4)) (tZ 133 (.iload_n 3))) (tZ 132 (.iload_n 2))) (tB 130 (tB 131 (tZ 131 (.aload_n 0)) (tZ 130 .ireturn)) (tZ 129 (.iconst 0)))) (tB 122 (tB 125 (tB 126 (tL 126 (.ifCond .eq 5) 131) (tZ 125 .lcmp)) (tL 122 (.invokevirtual 58) 20)) (tB 120 (tZ 120 (.iload 4)) (tZ 119 (.iload_n 2)))))) (tB 104 (tB 109 (tB 113 (tB 115 (tB 118 (tZ 118 (.aload_n 1)) (tL 115 (.invokevirtual 58) 20)) (tZ 113 (.iload 4))) (tB 111 (tB 112 (tZ 112 (.iload_n 2)) (tZ 111 (.aload_n 0))) (tZ 109 (.istore 4)))) (tB 106 (tB 107 (tB 108 (tZ 108 .iand) (tZ 107 (.iconst 3))) (tZ 106 (.iload_n 3))) (tB 105 (tZ 105 .ireturn) (tZ 104 (.iconst 0))))) (tB 92 (tB 97 (tB 98 (tB 101 (tL 101 (.if_icmp .eq 5) 106) (tL 98 (.invokevirtual 55) 18)) (tZ 97 (.iload_n 2))) (tB 93 (tB 96 (tZ 96 (.aload_n 1)) (tL 93 (.invokevirtual 55) 18)) (tZ 92 (.iload_n 2)))) (tB 89 (tB 90 (tB 91 (tZ 91 (.aload_n 0)) (tZ 90 .ireturn)) (tZ 89 (.iconst 0))) (tB 86 (tL 86 (.if_icmp .eq 5) 91) (tL 83 (.invokevirtual 52) 15)))))) (tB 41 (tB 64 (tB 75 (tB 78 (tB 81 (tB 82 (tZ 82 (.iload_n 2)) (tZ 81 (.aload_n 1))) (tL 78 (.invokevirtual 52) 15)) (tB 76 (tB 77 (tZ 77 (.iload_n 2)) (tZ 76 (.aload_n 0))) (tZ 75 .ireturn))) (tB 68 (tB 71 (tB 74 (tZ 74 (.iconst 0)) (tL 71 (.if_icmp .eq 5) 76)) (tL 68 (.invokevirtual 49) 14)) (tB 67 (tZ 67 (.aload_n 1)) (tL 64 (.invokevirtual 49) 14)))) (tB 52 (tB 57 (tB 60 (tB 63 (tZ 63 (.aload_n 0)) (tL 60 (.goto (-44)) 16)) (tZ 57 (.iinc 4 1))) (tB 55 (tB 56 (tZ 56 .ireturn) (tZ 55 (.iconst 0))) (tL 52 (.if_icmp .eq 5) 57))) (tB 46 (tB 47 (tB 49 (tL 49 (.invokevirtual 46) 13) (tZ 47 (.iload 4))) (tZ 46 (.aload_n 1))) (tB 43 (tL 43 (.invokevirtual 46) 13) (tZ 41 (.iload 4)))))) (tB 20 (tB 30 (tB 38 (tB 39 (tB 40 (tZ 40 (.aload_n 0)) (tZ 39 .ireturn)) (tZ 38 (.iconst 0))) (tB 32 (tB 35 (tL 35 (.if_icmp .eq 5) 40) (tL 32 (.invokevirtual 43) 12)) (tZ 30 (.iload 4)))) (tB 24 (tB 26 (tB 29 (tZ 29 (.aload_n 1)) (tL 26 (.invokevirtual 43) 12)) (tZ 24 (.iload 4))) (tB 23 (tZ 23 (.aload_n 0)) (tL 20 (.if_icmp .ge 43) 63)))) (tB 11 (tB 14 (tB 16 (tB 18 (tZ 18 (.bipush 8)) (tZ 16 (.iload 4))) (tZ 14 (.istore 4))) (tB 12 (tB 13 (tZ 13 (.iconst 0)) (tZ 12 .ireturn)) (tZ 11 (.iconst 0)))) (tB 4 (tB 5 (tB 8 (tL 8 (.if_icmp .eq 5) 13) (tL 5 (.invokevirtual 40) 11)) (tZ 4 (.aload_n 1))) (tB 1 (tL 1 (.invokevirtual 40) 11) (tZ 0 (.aload_n 0)))))))) p
set_option maxHeartbeats 4000000 in
def cd11 (p : Nat) : Option (Instr × Nat) := (tB 1 (tB 4 (tZ 4 .ireturn) (tL 1 (.getfield 132) 36)) (tZ 0 (.aload_n 0))) p
set_option maxHeartbeats 4000000 in
def cd12 (p : Nat) : Option (Instr × Nat) := (tB 12 (tB 15 (tB 19 (tB 20 (tZ 20 .ireturn) (tZ 19 .iaload)) (tB 18 (tZ 18 (.iload_n 1)) (tL 15 (.getfield 56) 14))) (tB 13 (tB 14 (tZ 14 (.aload_n 0)) (tZ 13 .ireturn)) (tZ 12 (.iconst 0)))) (tB 5 (tB 6 (tB 9 (tL 9 (.if_icmp .lt 5) 14) (tL 6 (.getfield 132) 36)) (tZ 5 (.aload_n 0))) (tB 1 (tB 4 (tZ 4 (.iload_n 1)) (tL 1 (.ifCond .lt 11) 12)) (tZ 0 (.iload_n 1))))) p
set_option maxHeartbeats 4000000 in
def cd13 (p : Nat) : Option (Instr × Nat) := (tB 12 (tB 15 (tB 19 (tB 20 (tZ 20 .ireturn) (tZ 19 .baload)) (tB 18 (tZ 18 (.iload_n 1)) (tL 15 (.getfield 60) 15))) (tB 13 (tB 14 (tZ 14 (.aload_n 0)) (tZ 13 .ireturn)) (tZ 12 (.iconst (-1))))) (tB 5 (tB 6 (tB 9 (tL 9 (.if_icmp .lt 5) 14) (tL 6 (.getfield 132) 36)) (tZ 5 (.aload_n 0))) (tB 1 (tB 4 (tZ 4 (.iload_n 1)) (tL 1 (.ifCond .lt 11) 12)) (tZ 0 (.iload_n 1))))) p
set_option maxHeartbeats 4000000 in
def cd14 (p : Nat) : Option (Instr × Nat) := (tB 1 (tB 4 (tZ 4 .ireturn) (tL 1 (.getfield 135) 37)) (tZ 0 (.aload_n 0))) p
set_option maxHeartbeats 4000000 in
def cd15 (p : Nat) : Option (Instr × Nat) := (tB 11 (tB 16 (tB 20 (tB 21 (tZ 21 .ireturn) (tZ 20 .baload)) (tB 19 (tZ 19 (.iload_n 2)) (tL 16 (.getfield 60) 15))) (tB 14 (tB 15 (tZ 15 (.aload_n 0)) (tZ 14 .ireturn)) (tL 11 (.getfield 135) 37))) (tB 5 (tB 7 (tB 10 (tZ 10 (.aload_n 0)) (tL 7 (.ifCond .ge 8) 15)) (tB 6 (tZ 6 (.iload_n 2)) (tZ 5 (.istore_n 2)))) (tB 1 (tB 2 (tL 2 (.invokevirtual 173) 16) (tZ 1 (.iload_n 1))) (tZ 0 (.aload_n 0))))) p
set_option maxHeartbeats 4000000 in
def cd16 (p : Nat) : Option (Instr × Nat) := (tB 15 (tB 21 (tB 25 (tB 26 (tB 27 (tZ 27 .ireturn) (tZ 26 (.iconst (-1)))) (tZ 25 .ireturn)) (tB 24 (tZ 24 (.iload_n 2)) (tL 21 (.if_icmp .ne 5) 26))) (tB 19 (tB 20 (tZ 20 (.iload_n 1)) (tZ 19 .iaload)) (tB 18 (tZ 18 (.iload_n 2)) (tL 15 (.getfield 56) 14)))) (tB 6 (tB 8 (tB 11 (tB 14 (tZ 14 (.aload_n 0)) (tL 11 (.if_icmp .ge 15) 26)) (tL 8 (.getfield 132) 36)) (tB 7 (tZ 7 (.aload_n 0)) (tZ 6 (.iload_n 2)))) (tB 2 (tB 5 (tZ 5 (.istore_n 2)) (tL 2 (.invokevirtual 169) 17)) (tB 1 (tZ 1 (.iload_n 1)) (tZ 0 (.aload_n 0)))))) p
set_option maxHeartbeats 4000000 in
def cd17 (p : Nat) : Option (Instr × Nat) := (tB 27 (tB 43 (tB 50 (tB 54 (tB 57 (tB 58 (tZ 58 .ireturn) (tZ 57 (.iload_n 2))) (tL 54 (.goto (-44)) 10)) (tB 51 (tZ 51 (.iinc 4 1)) (tZ 50 (.istore_n 3)))) (tB 45 (tB 48 (tZ 48 (.iload 5)) (tL 45 (.goto 6) 51)) (tB 44 (tZ 44 (.istore_n 2)) (tZ 43 .iadd)))) (tB 35 (tB 37 (tB 40 (tB 42 (tZ 42 (.iconst 1)) (tZ 40 (.iload 5))) (tL 37 (.if_icmp .ge 11) 48)) (tB 36 (tZ 36 (.iload_n 1)) (tZ 35 .iaload))) (tB 30 (tB 33 (tZ 33 (.iload 5)) (tL 30 (.getfield 56) 14)) (tB 29 (tZ 29 (.aload_n 0)) (tZ 27 (.istore 5)))))) (tB 14 (tB 22 (tB 24 (tB 25 (tB 26 (tZ 26 .iushr) (tZ 25 (.iconst 1))) (tZ 24 .iadd)) (tB 23 (tZ 23 (.iload_n 3)) (tZ 22 (.iload_n 2)))) (tB 18 (tB 19 (tL 19 (.if_icmp .ge 38) 57) (tZ 18 (.iload_n 3))) (tB 17 (tZ 17 (.iload_n 2)) (tL 14 (.if_icmp .ge 43) 57)))) (tB 6 (tB 8 (tB 10 (tB 12 (tZ 12 (.bipush 16)) (tZ 10 (.iload 4))) (tZ 8 (.istore 4))) (tB 7 (tZ 7 (.iconst 0)) (tZ 6 (.istore_n 3)))) (tB 2 (tB 3 (tL 3 (.getfield 132) 36) (tZ 2 (.aload_n 0))) (tB 1 (tZ 1 (.istore_n 2)) (tZ 0 (.iconst 0))))))) p
set_option maxHeartbeats 4000000 in
def cd18 (p : Nat) : Option (Instr × Nat) := (tB 8 (tB 10 (tB 11 (tB 14 (tZ 14 .ireturn) (tL 11 (.invokevirtual 188) 19)) (tZ 10 (.iload_n 1))) (tB 9 (tZ 9 (.aload_n 0)) (tZ 8 .ireturn))) (tB 4 (tB 7 (tZ 7 (.iconst (-1))) (tL 4 (.ifCond .ne 5) 9)) (tB 1 (tL 1 (.getfield 148) 41) (tZ 0 (.aload_n 0))))) p
set_option maxHeartbeats 4000000 in
def cd19 (p : Nat) : Option (Instr × Nat) := (tB 56 (tB 82 (tB 98 (tB 103 (tB 109 (tB 110 (tB 113 (tZ 113 .ireturn) (tL 110 (.getfield 145) 40)) (tZ 109 (.aload_n 0))) (tB 106 (tL 106 (.goto (-99)) 7) (tZ 103 (.iinc 3 1)))) (tB 101 (tB 102 (tZ 102 (.istore_n 2)) (tZ 101 (.iconst 0))) (tB 100 (tZ 100 .ireturn) (tZ 98 (.iload 5))))) (tB 88 (tB 93 (tB 95 (tL 95 (.ifCond .lt 6) 101) (tZ 93 (.iload 5))) (tB 91 (tZ 91 (.istore 5)) (tL 88 (.invokevirtual 246) 36))) (tB 86 (tB 87 (tZ 87 (.iload_n 1)) (tZ 86 (.iload_n 2))) (tB 85 (tZ 85 (.aload_n 0)) (tL 82 (.goto 21) 103))))) (tB 70 (tB 76 (tB 80 (tB 81 (tZ 81 (.istore_n 2)) (tZ 80 .iaload)) (tB 79 (tZ 79 (.iload_n 2)) (tL 76 (.getfield 91) 25))) (tB 72 (tB 75 (tZ 75 (.aload_n 0)) (tL 72 (.goto 9) 81)) (tB 71 (tZ 71 .iaload) (tZ 70 (.iload_n 2))))) (tB 62 (tB 66 (tB 67 (tL 67 (.getfield 88) 24) (tZ 66 (.aload_n 0))) (tB 63 (tL 63 (.if_icmp .ge 12) 75) (tZ 62 .iaload))) (tB 58 (tB 61 (tZ 61 (.iload_n 2)) (tL 58 (.getfield 85) 23)) (tB 57 (tZ 57 (.aload_n 0)) (tZ 56 (.iload_n 1))))))) (tB 29 (tB 43 (tB 49 (tB 52 (tB 53 (tL 53 (.if_icmp .ne 32) 85) (tZ 52 (.iconst 1))) (tB 50 (tZ 50 (.iload 4)) (tZ 49 .ireturn))) (tB 47 (tB 48 (tZ 48 .iaload) (tZ 47 (.iload_n 2))) (tB 44 (tL 44 (.getfield 85) 23) (tZ 43 (.aload_n 0))))) (tB 35 (tB 38 (tB 40 (tL 40 (.ifCond .ne 10) 50) (tZ 38 (.iload 4))) (tB 36 (tZ 36 (.istore 4)) (tZ 35 .baload))) (tB 31 (tB 34 (tZ 34 (.iload_n 2)) (tL 31 (.getfield 82) 22)) (tB 30 (tZ 30 (.aload_n 0)) (tZ 29 .ireturn))))) (tB 13 (tB 19 (tB 25 (tB 26 (tL 26 (.getfield 145) 40) (tZ 25 (.aload_n 0))) (tB 22 (tL 22 (.if_icmp .lt 8) 30) (tL 19 (.getfield 154) 43))) (tB 17 (tB 18 (tZ 18 (.aload_n 0)) (tZ 17 (.iload_n 2))) (tB 14 (tL 14 (.ifCond .lt 11) 25) (tZ 13 (.iload_n 2))))) (tB 6 (tB 8 (tB 10 (tL 10 (.if_icmp .ge 99) 109) (tZ 8 (.bipush 64))) (tB 7 (tZ 7 (.iload_n 3)) (tZ 6 (.istore_n 3)))) (tB 4 (tB 5 (tZ 5 (.iconst 0)) (tZ 4 (.istore_n 2))) (tB 1 (tL 1 (.getfield 157) 44) (tZ 0 (.aload_n 0)))))))) p
set_option maxHeartbeats 4000000 in
def cd20 (p : Nat) : Option (Instr × Nat) := (tB 24 (tB 36 (tB 39 (tB 40 (tB 43 (tZ 43 .lreturn) (tL 40 (.invokevirtual 197) 21)) (tZ 39 (.iload_n 2))) (tB 37 (tB 38 (tZ 38 (.iload_n 1)) (tZ 37 (.aload_n 0))) (tZ 36 .lreturn))) (tB 31 (tB 32 (tB 33 (tL 33 (.invokevirtual 193) 26) (tZ 32 (.iload_n 1))) (tZ 31 (.aload_n 0))) (tB 25 (tB 28 (tL 28 (.if_icmp .ne 9) 37) (tL 25 (.getfield 145) 40)) (tZ 24 (.aload_n 0))))) (tB 12 (tB 19 (tB 22 (tB 23 (tZ 23 (.iload_n 2)) (tZ 22 .lreturn)) (tL 19 (.ldc2_w 191) 3)) (tB 13 (tB 16 (tL 16 (.if_icmp .lt 7) 23) (tL 13 (.getfield 126) 35)) (tZ 12 (.aload_n 0)))) (tB 7 (tB 8 (tB 11 (tZ 11 (.iload_n 2)) (tL 8 (.ifCond .lt 11) 19)) (tZ 7 (.iload_n 2))) (tB 1 (tB 4 (tL 4 (.ifCond .eq 15) 19) (tL 1 (.getfield 148) 41)) (tZ 0 (.aload_n 0)))))) p
set_option maxHeartbeats 4000000 in
def cd21 (p : Nat) : Option (Instr × Nat) := (tB 24 (tB 37 (tB 41 (tB 47 (tB 50 (tZ 50 .lreturn) (tL 47 (.ldc2_w 191) 3)) (tB 44 (tL 44 (.goto (-35)) 9) (tZ 41 (.iinc 4 1)))) (tB 39 (tB 40 (tZ 40 .lreturn) (tZ 39 .i2l)) (tZ 37 (.iload 5)))) (tB 28 (tB 33 (tB 34 (tL 34 (.if_icmp .ne 7) 41) (tZ 33 (.iload_n 2))) (tB 30 (tL 30 (.invokevirtual 188) 19) (tZ 28 (.iload 5)))) (tB 25 (tB 27 (tZ 27 (.aload_n 0)) (tZ 25 (.istore 5))) (tZ 24 .iaload)))) (tB 9 (tB 15 (tB 19 (tB 22 (tZ 22 (.iload 4)) (tL 19 (.getfield 64) 16)) (tB 18 (tZ 18 (.aload_n 0)) (tL 15 (.if_icmp .ge 32) 47))) (tB 11 (tB 12 (tL 12 (.getfield 142) 39) (tZ 11 (.aload_n 0))) (tZ 9 (.iload 4)))) (tB 5 (tB 6 (tB 7 (tZ 7 (.istore 4)) (tZ 6 (.iload_n 3))) (tZ 5 (.istore_n 3))) (tB 1 (tB 2 (tL 2 (.invokevirtual 258) 22) (tZ 1 (.iload_n 1))) (tZ 0 (.aload_n 0)))))) p
set_option maxHeartbeats 4000000 in
def cd22 (p : Nat) : Option (Instr × Nat) := (tB 27 (tB 43 (tB 50 (tB 54 (tB 57 (tB 58 (tZ 58 .ireturn) (tZ 57 (.iload_n 2))) (tL 54 (.goto (-44)) 10)) (tB 51 (tZ 51 (.iinc 4 1)) (tZ 50 (.istore_n 3)))) (tB 45 (tB 48 (tZ 48 (.iload 5)) (tL 45 (.goto 6) 51)) (tB 44 (tZ 44 (.istore_n 2)) (tZ 43 .iadd)))) (tB 35 (tB 37 (tB 40 (tB 42 (tZ 42 (.iconst 1)) (tZ 40 (.iload 5))) (tL 37 (.if_icmp .ge 11) 48)) (tB 36 (tZ 36 (.iload_n 1)) (tZ 35 .iaload))) (tB 30 (tB 33 (tZ 33 (.iload 5)) (tL 30 (.getfield 64) 16)) (tB 29 (tZ 29 (.aload_n 0)) (tZ 27 (.istore 5)))))) (tB 14 (tB 22 (tB 24 (tB 25 (tB 26 (tZ 26 .iushr) (tZ 25 (.iconst 1))) (tZ 24 .iadd)) (tB 23 (tZ 23 (.iload_n 3)) (tZ 22 (.iload_n 2)))) (tB 18 (tB 19 (tL 19 (.if_icmp .ge 38) 57) (tZ 18 (.iload_n 3))) (tB 17 (tZ 17 (.iload_n 2)) (tL 14 (.if_icmp .ge 43) 57)))) (tB 6 (tB 8 (tB 10 (tB 12 (tZ 12 (.bipush 16)) (tZ 10 (.iload 4))) (tZ 8 (.istore 4))) (tB 7 (tZ 7 (.iconst 0)) (tZ 6 (.istore_n 3)))) (tB 2 (tB 3 (tL 3 (.getfield 142) 39) (tZ 2 (.aload_n 0))) (tB 1 (tZ 1 (.istore_n 2)) (tZ 0 (.iconst 0))))))) p
set_option maxHeartbeats 4000000 in
def cd23 (p : Nat) : Option (Instr × Nat) := (tB 41 (tB 60 (tB 66 (tB 71 (tB 73 (tB 74 (tZ 74 .lreturn) (tZ 73 .lsub)) (tZ 71 (.lload 5))) (tB 67 (tB 69 (tZ 69 (.lload 7)) (tZ 67 (.lstore 7))) (tZ 66 .ladd))) (tB 63 (tB 64 (tB 65 (tZ 65 (.lconst 1)) (tZ 64 .lsub)) (tZ 63 .i2l)) (tB 61 (tB 62 (tZ 62 (.iload_n 1)) (tZ 61 .i2l)) (tZ 60 (.iload_n 2))))) (tB 47 (tB 54 (tB 57 (tB 59 (tZ 59 .lreturn) (tZ 57 (.lload 5))) (tL 54 (.ifCond .ne 6) 60)) (tB 50 (tB 52 (tZ 52 (.iload 4)) (tZ 50 (.lstore 5))) (tL 47 (.invokevirtual 201) 28))) (tB 43 (tB 44 (tB 45 (tZ 45 (.iload 4)) (tZ 44 (.iload_n 3))) (tZ 43 (.iload_n 2))) (tB 42 (tZ 42 (.iload_n 1)) (tZ 41 (.aload_n 0)))))) (tB 21 (tB 28 (tB 35 (tB 38 (tB 39 (tZ 39 (.istore 4)) (tZ 38 (.iconst 0))) (tL 35 (.goto 4) 39)) (tB 31 (tB 34 (tZ 34 (.iconst 1)) (tL 31 (.if_icmp .ne 7) 38)) (tL 28 (.getfield 145) 40))) (tB 25 (tB 26 (tB 27 (tZ 27 (.aload_n 0)) (tZ 26 (.iload_n 3))) (tZ 25 .lreturn)) (tB 24 (tZ 24 (.lconst 0)) (tL 21 (.if_icmp .le 5) 26)))) (tB 11 (tB 16 (tB 19 (tB 20 (tZ 20 (.iload_n 2)) (tZ 19 (.iload_n 1))) (tL 16 (.if_icmp .ge 8) 24)) (tB 12 (tB 13 (tL 13 (.getfield 126) 35) (tZ 12 (.aload_n 0))) (tZ 11 (.iload_n 3)))) (tB 4 (tB 7 (tB 8 (tL 8 (.ifCond .lt 16) 24) (tZ 7 (.iload_n 3))) (tL 4 (.ifCond .eq 20) 24)) (tB 1 (tL 1 (.getfield 148) 41) (tZ 0 (.aload_n 0))))))) p
set_option maxHeartbeats 4000000 in
def cd24 (p : Nat) : Option (Instr × Nat) := (tB 11 (tB 15 (tB 18 (tB 19 (tZ 19 .ireturn) (tZ 18 (.iconst 0))) (tL 15 (.goto 4) 19)) (tB 14 (tZ 14 (.iconst 1)) (tL 11 (.ifCond .ne 7) 18))) (tB 4 (tB 7 (tB 8 (tL 8 (.getfield 138) 38) (tZ 7 (.aload_n 0))) (tL 4 (.ifCond .eq 14) 18)) (tB 1 (tL 1 (.getfield 148) 41) (tZ 0 (.aload_n 0))))) p
set_option maxHeartbeats 4000000 in
def cd25 (p : Nat) : Option (Instr × Nat) := (tB 71 (tB 104 (tB 118 (tB 125 (tB 130 (tB 133 (tB 134 (tZ 134 .ireturn) (tZ 133 (.iconst 0))) (tL 130 (.putfield 138) 38)) (tB 128 (tB 129 (tZ 129 (.iconst 1)) (tZ 128 (.aload_n 0))) (tL 125 (.putfield 132) 36))) (tB 120 (tB 123 (tB 124 (tZ 124 .iadd) (tZ 123 (.iconst 1))) (tL 120 (.getfield 132) 36)) (tB 119 (tZ 119 .dup) (tZ 118 (.aload_n 0))))) (tB 111 (tB 115 (tB 116 (tB 117 (tZ 117 .bastore) (tZ 116 .i2b)) (tZ 115 (.iload_n 2))) (tB 114 (tZ 114 (.iload_n 3)) (tL 111 (.getfield 60) 15))) (tB 108 (tB 109 (tB 110 (tZ 110 (.aload_n 0)) (tZ 109 .iastore)) (tZ 108 (.iload_n 1))) (tB 107 (tZ 107 (.iload_n 3)) (tL 104 (.getfield 56) 14))))) (tB 87 (tB 95 (tB 97 (tB 100 (tB 103 (tZ 103 (.aload_n 0)) (tL 100 (.goto (-41)) 59)) (tZ 97 (.iinc 4 (-1)))) (tB 96 (tZ 96 .bastore) (tZ 95 .baload))) (tB 91 (tB 93 (tB 94 (tZ 94 .isub) (tZ 93 (.iconst 1))) (tZ 91 (.iload 4))) (tB 88 (tL 88 (.getfield 60) 15) (tZ 87 (.aload_n 0))))) (tB 79 (tB 81 (tB 82 (tB 85 (tZ 85 (.iload 4)) (tL 82 (.getfield 60) 15)) (tZ 81 (.aload_n 0))) (tB 80 (tZ 80 .iastore) (tZ 79 .iaload))) (tB 75 (tB 77 (tB 78 (tZ 78 .isub) (tZ 77 (.iconst 1))) (tZ 75 (.iload 4))) (tB 72 (tL 72 (.getfield 56) 14) (tZ 71 (.aload_n 0))))))) (tB 34 (tB 52 (tB 61 (tB 65 (tB 66 (tB 69 (tZ 69 (.iload 4)) (tL 66 (.getfield 56) 14)) (tZ 65 (.aload_n 0))) (tB 62 (tL 62 (.if_icmp .le 41) 103) (tZ 61 (.iload_n 3)))) (tB 54 (tB 57 (tB 59 (tZ 59 (.iload 4)) (tZ 57 (.istore 4))) (tL 54 (.getfield 132) 36)) (tB 53 (tZ 53 (.aload_n 0)) (tZ 52 .ireturn)))) (tB 41 (tB 45 (tB 48 (tB 51 (tZ 51 (.iconst 1)) (tL 48 (.if_icmp .lt 5) 53)) (tL 45 (.getfield 123) 34)) (tB 44 (tZ 44 (.aload_n 0)) (tL 41 (.getfield 132) 36))) (tB 38 (tB 39 (tB 40 (tZ 40 (.aload_n 0)) (tZ 39 .ireturn)) (tZ 38 (.iconst 2))) (tB 35 (tL 35 (.if_icmp .ne 5) 40) (tZ 34 (.iload_n 1)))))) (tB 16 (tB 25 (tB 29 (tB 32 (tB 33 (tZ 33 .iaload) (tZ 32 (.iload_n 3))) (tL 29 (.getfield 56) 14)) (tB 28 (tZ 28 (.aload_n 0)) (tL 25 (.if_icmp .ge 15) 40))) (tB 20 (tB 21 (tB 22 (tL 22 (.getfield 132) 36) (tZ 21 (.aload_n 0))) (tZ 20 (.iload_n 3))) (tB 19 (tZ 19 (.istore_n 3)) (tL 16 (.invokevirtual 169) 17)))) (tB 9 (tB 13 (tB 14 (tB 15 (tZ 15 (.iload_n 1)) (tZ 14 (.aload_n 0))) (tZ 13 .ireturn)) (tB 12 (tZ 12 (.iconst 3)) (tL 9 (.if_icmp .lt 5) 14))) (tB 4 (tB 5 (tB 6 (tL 6 (.getfield 126) 35) (tZ 5 (.aload_n 0))) (tZ 4 (.iload_n 2))) (tB 1 (tL 1 (.ifCond .lt 11) 12) (tZ 0 (.iload_n 2)))))))) p
set_option maxHeartbeats 4000000 in
def cd26 (p : Nat) : Option (Instr × Nat) := (tB 22 (tB 31 (tB 38 (tB 44 (tB 47 (tZ 47 .lreturn) (tL 44 (.ldc2_w 191) 3)) (tB 41 (tL 41 (.goto (-37)) 4) (tZ 38 (.iinc 3 1)))) (tB 34 (tB 35 (tZ 35 (.iinc 2 1)) (tZ 34 .lreturn)) (tL 31 (.ldc2_w 191) 3))) (tB 25 (tB 26 (tB 28 (tL 28 (.if_icmp .ne 7) 35) (tL 26 (.ldc 52) 1)) (tZ 25 (.iload_n 2))) (tB 23 (tB 24 (tZ 24 .lreturn) (tZ 23 .i2l)) (tZ 22 (.iload_n 2))))) (tB 7 (tB 12 (tB 16 (tB 19 (tL 19 (.if_icmp .ne 6) 25) (tL 16 (.getfield 145) 40)) (tB 15 (tZ 15 (.aload_n 0)) (tL 12 (.invokevirtual 188) 19))) (tB 10 (tB 11 (tZ 11 (.iload_n 2)) (tZ 10 (.aload_n 0))) (tL 7 (.if_icmp .gt 37) 44))) (tB 3 (tB 4 (tB 5 (tZ 5 (.bipush 65)) (tZ 4 (.iload_n 3))) (tZ 3 (.istore_n 3))) (tB 1 (tB 2 (tZ 2 (.iconst 0)) (tZ 1 (.istore_n 2))) (tZ 0 (.iload_n 1)))))) p
set_option maxHeartbeats 4000000 in
def cd27 (p : Nat) : Option (Instr × Nat) := (tB 14 (tB 20 (tB 24 (tB 25 (tZ 25 .ireturn) (tZ 24 (.iconst 0))) (tB 21 (tL 21 (.putfield 138) 38) (tZ 20 (.iconst 1)))) (tB 16 (tB 19 (tZ 19 (.aload_n 0)) (tL 16 (.putfield 135) 37)) (tB 15 (tZ 15 (.iload_n 1)) (tZ 14 (.aload_n 0))))) (tB 6 (tB 12 (tB 13 (tZ 13 .ireturn) (tZ 12 (.iconst 3))) (tB 9 (tL 9 (.if_icmp .lt 5) 14) (tL 6 (.getfield 126) 35))) (tB 4 (tB 5 (tZ 5 (.aload_n 0)) (tZ 4 (.iload_n 1))) (tB 1 (tL 1 (.ifCond .lt 11) 12) (tZ 0 (.iload_n 1)))))) p
set_option maxHeartbeats 4000000 in
def cd28 (p : Nat) : Option (Instr × Nat) := (tB 38 (tB 58 (tB 68 (tB 74 (tB 77 (tB 79 (tZ 79 .lreturn) (tZ 77 (.lload 5))) (tL 74 (.goto (-60)) 14)) (tB 69 (tB 71 (tZ 71 (.iinc 8 1)) (tZ 69 (.lstore 5))) (tZ 68 .ladd))) (tB 62 (tB 65 (tB 67 (tZ 67 (.lconst 1)) (tZ 65 (.lload 5))) (tL 62 (.if_icmp .eq 9) 71)) (tB 60 (tZ 60 (.iload 4)) (tZ 58 (.iload 10))))) (tB 48 (tB 52 (tB 55 (tB 56 (tZ 56 (.istore 10)) (tZ 55 (.iconst 0))) (tL 52 (.goto 4) 56)) (tB 51 (tZ 51 (.iconst 1)) (tL 48 (.if_icmp .ne 7) 55))) (tB 42 (tB 44 (tB 47 (tZ 47 (.iload_n 3)) (tL 44 (.invokevirtual 188) 19)) (tZ 42 (.iload 9))) (tB 41 (tZ 41 (.aload_n 0)) (tL 38 (.goto 39) 77))))) (tB 17 (tB 29 (tB 32 (tB 34 (tB 35 (tL 35 (.if_icmp .le 6) 41) (tZ 34 (.iload_n 2))) (tZ 32 (.iload 9))) (tB 30 (tZ 30 (.istore 9)) (tZ 29 .iaload))) (tB 23 (tB 24 (tB 27 (tZ 27 (.iload 8)) (tL 24 (.getfield 64) 16)) (tZ 23 (.aload_n 0))) (tB 20 (tL 20 (.if_icmp .ge 57) 77) (tL 17 (.getfield 142) 39)))) (tB 8 (tB 12 (tB 14 (tB 16 (tZ 16 (.aload_n 0)) (tZ 14 (.iload 8))) (tZ 12 (.istore 8))) (tB 10 (tZ 10 (.iload 7)) (tZ 8 (.istore 7)))) (tB 3 (tB 4 (tB 5 (tL 5 (.invokevirtual 258) 22) (tZ 4 (.iload_n 1))) (tZ 3 (.aload_n 0))) (tB 1 (tZ 1 (.lstore 5)) (tZ 0 (.lconst 0))))))) p
set_option maxHeartbeats 4000000 in
def cd29 (p : Nat) : Option (Instr × Nat) := (tB 29 (tB 44 (tB 53 (tB 57 (tB 60 (tB 61 (tZ 61 .ireturn) (tZ 60 (.iconst 0))) (tL 57 (.goto 4) 61)) (tB 56 (tZ 56 (.iconst 1)) (tL 53 (.ifCond .eq 7) 60))) (tB 48 (tB 51 (tZ 51 (.iload 6)) (tL 48 (.ifCond .ne 8) 56)) (tB 46 (tZ 46 (.iload 5)) (tZ 44 (.istore 6))))) (tB 35 (tB 39 (tB 40 (tB 43 (tZ 43 (.iconst 0)) (tL 40 (.goto 4) 44)) (tZ 39 (.iconst 1))) (tB 36 (tL 36 (.ifCond .gt 7) 43) (tZ 35 .lcmp))) (tB 33 (tB 34 (tZ 34 .lmul) (tZ 33 .i2l)) (tB 32 (tZ 32 (.iload_n 3)) (tL 29 (.ldc2_w 213) 5))))) (tB 12 (tB 21 (tB 25 (tB 26 (tB 28 (tZ 28 (.lload_n 1)) (tZ 26 (.istore 5))) (tZ 25 (.iconst 0))) (tB 22 (tL 22 (.goto 4) 26) (tZ 21 (.iconst 1)))) (tB 17 (tB 18 (tL 18 (.if_icmp .gt 7) 25) (tZ 17 (.iconst 3))) (tB 15 (tZ 15 (.iload 4)) (tL 12 (.ifCond .gt 13) 25)))) (tB 6 (tB 8 (tB 11 (tZ 11 .lcmp) (tL 8 (.ldc2_w 211) 4)) (tB 7 (tZ 7 (.lload_n 1)) (tZ 6 .ireturn))) (tB 2 (tB 5 (tZ 5 (.iconst 0)) (tL 2 (.if_icmp .ge 5) 7)) (tB 1 (tZ 1 (.iconst 2)) (tZ 0 (.iload_n 3))))))) p
set_option maxHeartbeats 4000000 in
def cd30 (p : Nat) : Option (Instr × Nat) := (tB 38 (tB 54 (tB 62 (tB 67 (tB 68 (tB 71 (tZ 71 .return_) (tL 68 (.putfield 166) 47)) (tZ 67 .iadd)) (tB 63 (tB 66 (tZ 66 (.iconst 1)) (tL 63 (.getfield 166) 47)) (tZ 62 .dup))) (tB 58 (tB 60 (tB 61 (tZ 61 (.aload_n 0)) (tZ 60 .iastore)) (tZ 58 (.iload 4))) (tB 55 (tL 55 (.getfield 166) 47) (tZ 54 (.aload_n 0))))) (tB 45 (tB 49 (tB 50 (tB 51 (tL 51 (.getfield 116) 33) (tZ 50 (.aload_n 0))) (tZ 49 .iastore)) (tB 48 (tZ 48 (.iload_n 3)) (tL 45 (.getfield 166) 47))) (tB 40 (tB 41 (tB 44 (tZ 44 (.aload_n 0)) (tL 41 (.getfield 113) 32)) (tZ 40 (.aload_n 0))) (tB 39 (tZ 39 .iastore) (tZ 38 (.iload_n 2)))))) (tB 20 (tB 29 (tB 31 (tB 34 (tB 35 (tL 35 (.getfield 166) 47) (tZ 34 (.aload_n 0))) (tL 31 (.getfield 110) 31)) (tB 30 (tZ 30 (.aload_n 0)) (tZ 29 .iastore))) (tB 24 (tB 25 (tB 28 (tZ 28 (.iload_n 1)) (tL 25 (.getfield 166) 47)) (tZ 24 (.aload_n 0))) (tB 21 (tL 21 (.getfield 107) 30) (tZ 20 (.aload_n 0))))) (tB 11 (tB 15 (tB 16 (tB 19 (tZ 19 .return_) (tL 16 (.if_icmp .lt 4) 20)) (tZ 15 .arraylength)) (tB 12 (tL 12 (.getfield 107) 30) (tZ 11 (.aload_n 0)))) (tB 4 (tB 7 (tB 8 (tL 8 (.getfield 166) 47) (tZ 7 (.aload_n 0))) (tL 4 (.ifCond .lt 15) 19)) (tB 1 (tL 1 (.getfield 166) 47) (tZ 0 (.aload_n 0))))))) p
set_option maxHeartbeats 4000000 in
def cd31 (p : Nat) : Option (Instr × Nat) := (tB 66 (tB 94 (tB 116 (tB 124 (tB 127 (tB 129 (tB 133 (tZ 133 .ireturn) (tZ 129 .l2i)) (tZ 127 (.lload 4))) (tB 125 (tB 126 (tZ 126 (.iload_n 3)) (tZ 125 (.iload_n 2))) (tZ 124 (.aload_n 0)))) (tB 119 (tB 120 (tB 123 (tZ 123 .ireturn) (tL 120 (.invokevirtual 237) 33)) (tZ 119 .l2i)) (tB 117 (tZ 117 (.lload 4)) (tZ 116 (.iload_n 3))))) (tB 105 (tB 111 (tB 114 (tB 115 (tZ 115 (.iload_n 2)) (tZ 114 (.aload_n 0))) (tL 111 (.if_icmp .gt 13) 124)) (tB 108 (tB 110 (tZ 110 (.iconst 3)) (tZ 108 (.iload 6))) (tL 105 (.ifCond .gt 19) 124))) (tB 99 (tB 101 (tB 104 (tZ 104 .lcmp) (tL 101 (.ldc2_w 211) 4)) (tZ 99 (.lload 4))) (tB 97 (tZ 97 (.istore 6)) (tL 94 (.invokevirtual 233) 32))))) (tB 80 (tB 87 (tB 91 (tB 92 (tB 93 (tZ 93 (.iload_n 3)) (tZ 92 (.iload_n 2))) (tZ 91 (.aload_n 0))) (tB 88 (tB 89 (tZ 89 (.lstore 4)) (tZ 88 .ladd)) (tZ 87 (.lconst 1)))) (tB 84 (tB 85 (tB 86 (tZ 86 .lsub) (tZ 85 .i2l)) (tZ 84 .iaload)) (tB 83 (tZ 83 (.iload_n 2)) (tL 80 (.getfield 64) 16)))) (tB 73 (tB 77 (tB 78 (tB 79 (tZ 79 (.aload_n 0)) (tZ 78 .i2l)) (tZ 77 .iaload)) (tB 76 (tZ 76 (.iload_n 3)) (tL 73 (.getfield 64) 16))) (tB 68 (tB 71 (tB 72 (tZ 72 (.aload_n 0)) (tZ 71 .ireturn)) (tL 68 (.invokevirtual 215) 9)) (tB 67 (tZ 67 (.iconst 0)) (tZ 66 (.iconst 0))))))) (tB 33 (tB 49 (tB 58 (tB 61 (tB 64 (tB 65 (tZ 65 .baload) (tZ 64 (.iload_n 2))) (tL 61 (.getfield 67) 17)) (tB 59 (tB 60 (tZ 60 (.aload_n 0)) (tZ 59 .iaload)) (tZ 58 (.iload_n 2)))) (tB 53 (tB 54 (tB 55 (tL 55 (.getfield 64) 16) (tZ 54 (.aload_n 0))) (tZ 53 (.iconst 2))) (tB 52 (tZ 52 (.aload_n 0)) (tL 49 (.if_icmp .ne 23) 72)))) (tB 42 (tB 46 (tB 47 (tB 48 (tZ 48 (.iload_n 3)) (tZ 47 (.iload_n 2))) (tZ 46 .ireturn)) (tB 45 (tZ 45 (.iconst 0)) (tL 42 (.if_icmp .le 5) 47))) (tB 37 (tB 40 (tB 41 (tZ 41 (.iload_n 3)) (tZ 40 (.iload_n 2))) (tL 37 (.if_icmp .ge 8) 45)) (tB 34 (tL 34 (.getfield 142) 39) (tZ 33 (.aload_n 0)))))) (tB 18 (tB 25 (tB 28 (tB 29 (tB 32 (tZ 32 (.iload_n 3)) (tL 29 (.ifCond .lt 16) 45)) (tZ 28 (.iload_n 2))) (tB 26 (tB 27 (tZ 27 (.istore_n 3)) (tZ 26 .iaload)) (tZ 25 (.iload_n 1)))) (tB 20 (tB 21 (tB 22 (tL 22 (.getfield 79) 21) (tZ 21 (.aload_n 0))) (tZ 20 (.istore_n 2))) (tB 19 (tZ 19 .iaload) (tZ 18 (.iload_n 1))))) (tB 9 (tB 13 (tB 14 (tB 15 (tL 15 (.getfield 76) 20) (tZ 14 (.aload_n 0))) (tZ 13 .ireturn)) (tB 12 (tZ 12 (.iconst 0)) (tL 9 (.if_icmp .lt 5) 14))) (tB 4 (tB 5 (tB 6 (tL 6 (.getfield 151) 42) (tZ 5 (.aload_n 0))) (tZ 4 (.iload_n 1))) (tB 1 (tL 1 (.ifCond .lt 11) 12) (tZ 0 (.iload_n 1)))))))) p
set_option maxHeartbeats 4000000 in
def cd32 (p : Nat) : Option (Instr × Nat) := (tB 34 (tB 51 (tB 57 (tB 63 (tB 66 (tB 68 (tZ 68 .ireturn) (tZ 66 (.iload 4))) (tL 63 (.goto (-55)) 8)) (tB 60 (tZ 60 (.iinc 5 1)) (tZ 57 (.iinc 4 1)))) (tB 54 (tB 55 (tB 56 (tZ 56 (.istore_n 3)) (tZ 55 .ior)) (tZ 54 .ishl)) (tB 52 (tZ 52 (.iload 6)) (tZ 51 (.iconst 1))))) (tB 43 (tB 46 (tB 47 (tB 50 (tZ 50 (.iload_n 3)) (tL 47 (.ifCond .ne 13) 60)) (tZ 46 .iand)) (tB 45 (tZ 45 .ishl) (tZ 43 (.iload 6)))) (tB 38 (tB 41 (tB 42 (tZ 42 (.iconst 1)) (tZ 41 (.iload_n 3))) (tL 38 (.if_icmp .eq 22) 60)) (tB 35 (tL 35 (.getfield 145) 40) (tZ 34 (.aload_n 0)))))) (tB 14 (tB 24 (tB 29 (tB 30 (tB 32 (tZ 32 (.iload 6)) (tZ 30 (.istore 6))) (tZ 29 .baload)) (tB 27 (tZ 27 (.iload 5)) (tL 24 (.getfield 67) 17))) (tB 17 (tB 20 (tB 23 (tZ 23 (.aload_n 0)) (tL 20 (.if_icmp .ge 46) 66)) (tL 17 (.getfield 142) 39)) (tB 16 (tZ 16 (.aload_n 0)) (tZ 14 (.iload 5))))) (tB 5 (tB 8 (tB 10 (tB 11 (tL 11 (.if_icmp .gt 55) 66) (tZ 10 (.iload_n 2))) (tZ 8 (.iload 5))) (tB 6 (tZ 6 (.istore 5)) (tZ 5 (.iload_n 1)))) (tB 2 (tB 3 (tZ 3 (.istore 4)) (tZ 2 (.iconst 0))) (tB 1 (tZ 1 (.istore_n 3)) (tZ 0 (.iconst 0))))))) p
set_option maxHeartbeats 4000000 in
def cd33 (p : Nat) : Option (Instr × Nat) := (tB 94 (tB 137 (tB 157 (tB 167 (tB 172 (tB 175 (tB 178 (tZ 178 .ireturn) (tL 175 (.invokevirtual 215) 9)) (tB 174 (tZ 174 (.iload_n 3)) (tZ 172 (.iload 6)))) (tB 168 (tB 170 (tZ 170 (.iload 5)) (tZ 168 (.iload 4))) (tZ 167 (.iconst 4)))) (tB 162 (tB 163 (tB 166 (tZ 166 (.aload_n 0)) (tL 163 (.putfield 163) 46)) (tZ 162 .iadd)) (tB 158 (tB 160 (tZ 160 (.iload 6)) (tZ 158 (.iload 5))) (tZ 157 (.aload_n 0))))) (tB 146 (tB 150 (tB 151 (tB 154 (tL 154 (.goto (-134)) 20) (tZ 151 (.iinc 7 1))) (tZ 150 .lastore)) (tB 148 (tB 149 (tZ 149 .lor) (tZ 148 .lshl)) (tZ 146 (.iload 10)))) (tB 143 (tB 144 (tB 145 (tZ 145 (.lconst 1)) (tZ 144 .laload)) (tZ 143 .dup2)) (tB 138 (tB 141 (tZ 141 (.iload 9)) (tL 138 (.getfield 100) 28)) (tZ 137 (.aload_n 0)))))) (tB 115 (tB 126 (tB 132 (tB 134 (tB 135 (tZ 135 (.istore 10)) (tZ 134 .isub)) (tZ 132 (.iload 4))) (tB 129 (tB 131 (tZ 131 .iaload) (tZ 129 (.iload 7))) (tL 126 (.getfield 64) 16))) (tB 120 (tB 122 (tB 125 (tZ 125 (.aload_n 0)) (tL 122 (.ifCond .lt 29) 151)) (tZ 120 (.iload 9))) (tB 116 (tB 117 (tZ 117 (.iinc 6 1)) (tZ 116 .lastore)) (tZ 115 (.lconst 0))))) (tB 105 (tB 109 (tB 110 (tB 113 (tZ 113 (.iload 9)) (tL 110 (.getfield 100) 28)) (tZ 109 (.aload_n 0))) (tB 107 (tB 108 (tZ 108 .bastore) (tZ 107 .i2b)) (tZ 105 (.iload 8)))) (tB 99 (tB 100 (tB 103 (tZ 103 (.iload 9)) (tL 100 (.getfield 104) 29)) (tZ 99 (.aload_n 0))) (tB 96 (tB 97 (tZ 97 (.istore 9)) (tZ 96 .iadd)) (tZ 94 (.iload 6))))))) (tB 44 (tB 70 (tB 83 (tB 88 (tB 89 (tB 92 (tZ 92 (.iload 5)) (tL 89 (.if_icmp .ge 31) 120)) (tZ 88 .arraylength)) (tB 84 (tB 85 (tL 85 (.getfield 100) 28) (tZ 84 (.aload_n 0))) (tZ 83 .iadd))) (tB 76 (tB 79 (tB 81 (tZ 81 (.iload 6)) (tZ 79 (.iload 5))) (tL 76 (.if_icmp .ge 44) 120)) (tB 73 (tB 75 (tZ 75 (.iconst 3)) (tZ 73 (.iload 6))) (tL 70 (.ifCond .ge 50) 120)))) (tB 57 (tB 63 (tB 66 (tB 68 (tZ 68 (.iload 9)) (tZ 66 (.istore 9))) (tL 63 (.invokevirtual 243) 34)) (tB 59 (tB 61 (tZ 61 (.iload 8)) (tZ 59 (.iload 6))) (tZ 57 (.iload 5)))) (tB 50 (tB 53 (tB 56 (tZ 56 (.aload_n 0)) (tL 53 (.goto 98) 151)) (tL 50 (.if_icmp .ne 6) 56)) (tB 46 (tB 47 (tL 47 (.getfield 145) 40) (tZ 46 (.aload_n 0))) (tZ 44 (.iload 8)))))) (tB 20 (tB 32 (tB 39 (tB 41 (tB 42 (tZ 42 (.istore 8)) (tZ 41 .baload)) (tZ 39 (.iload 7))) (tB 35 (tB 36 (tL 36 (.getfield 67) 17) (tZ 35 (.aload_n 0))) (tL 32 (.if_icmp .ge 125) 157))) (tB 26 (tB 28 (tB 29 (tL 29 (.getfield 142) 39) (tZ 28 (.aload_n 0))) (tZ 26 (.iload 7))) (tB 22 (tB 23 (tL 23 (.if_icmp .gt 134) 157) (tZ 22 (.iload_n 2))) (tZ 20 (.iload 7))))) (tB 9 (tB 15 (tB 17 (tB 18 (tZ 18 (.istore 7)) (tZ 17 (.iload_n 1))) (tZ 15 (.istore 6))) (tB 12 (tB 14 (tZ 14 (.iconst 0)) (tZ 12 (.istore 5))) (tL 9 (.getfield 163) 46))) (tB 5 (tB 6 (tB 8 (tZ 8 (.aload_n 0)) (tZ 6 (.istore 4))) (tZ 5 .iaload)) (tB 1 (tB 4 (tZ 4 (.iload_n 1)) (tL 1 (.getfield 64) 16)) (tZ 0 (.aload_n 0)))))))) p
set_option maxHeartbeats 4000000 in
def cd34 (p : Nat) : Option (Instr × Nat) := (tB 26 (tB 38 (tB 44 (tB 50 (tB 51 (tZ 51 .ireturn) (tZ 50 (.iconst (-1)))) (tB 47 (tL 47 (.goto (-44)) 3) (tZ 44 (.iinc 4 1)))) (tB 41 (tB 43 (tZ 43 .ireturn) (tZ 41 (.iload 5))) (tL 38 (.if_icmp .ne 6) 44))) (tB 31 (tB 36 (tB 37 (tZ 37 (.iload_n 3)) (tZ 36 .baload)) (tB 34 (tZ 34 (.iload 5)) (tL 31 (.getfield 104) 29))) (tB 27 (tB 30 (tZ 30 (.aload_n 0)) (tL 27 (.if_icmp .ge 17) 44)) (tZ 26 .arraylength)))) (tB 12 (tB 17 (tB 22 (tB 23 (tL 23 (.getfield 104) 29) (tZ 22 (.aload_n 0))) (tB 20 (tZ 20 (.iload 5)) (tL 17 (.ifCond .lt 27) 44))) (tB 13 (tB 15 (tZ 15 (.iload 5)) (tZ 13 (.istore 5))) (tZ 12 .iadd))) (tB 5 (tB 9 (tB 10 (tZ 10 (.iload 4)) (tZ 9 (.iload_n 1))) (tB 6 (tL 6 (.if_icmp .ge 44) 50) (tZ 5 (.iload_n 2)))) (tB 1 (tB 3 (tZ 3 (.iload 4)) (tZ 1 (.istore 4))) (tZ 0 (.iconst 0)))))) p
set_option maxHeartbeats 4000000 in
def cd35 (p : Nat) : Option (Instr × Nat) := (tB 22 (tB 32 (tB 37 (tB 38 (tB 39 (tZ 39 .return_) (tZ 38 .iastore)) (tZ 37 (.iload_n 3))) (tB 33 (tB 36 (tZ 36 (.iload_n 1)) (tL 33 (.getfield 91) 25)) (tZ 32 (.aload_n 0)))) (tB 27 (tB 28 (tB 29 (tL 29 (.goto 10) 39) (tZ 28 .iastore)) (tZ 27 (.iload_n 3))) (tB 23 (tB 26 (tZ 26 (.iload_n 1)) (tL 23 (.getfield 88) 24)) (tZ 22 (.aload_n 0))))) (tB 12 (tB 17 (tB 18 (tB 19 (tL 19 (.ifCond .ne 13) 32) (tZ 18 (.iload_n 2))) (tZ 17 .return_)) (tB 13 (tB 14 (tL 14 (.putfield 157) 44) (tZ 13 (.iload_n 3))) (tZ 12 (.aload_n 0)))) (tB 5 (tB 6 (tB 9 (tL 9 (.if_icmp .lt 9) 18) (tL 6 (.getfield 154) 43)) (tZ 5 (.aload_n 0))) (tB 1 (tB 4 (tZ 4 (.iload_n 1)) (tL 1 (.ifCond .lt 11) 12)) (tZ 0 (.iload_n 1)))))) p
set_option maxHeartbeats 4000000 in
def cd36 (p : Nat) : Option (Instr × Nat) := (tB 29 (tB 43 (tB 50 (tB 54 (tB 55 (tB 56 (tZ 56 .ireturn) (tZ 55 (.iconst (-1)))) (tZ 54 .ireturn)) (tB 51 (tL 51 (.invokevirtual 252) 37) (tZ 50 (.iload_n 2)))) (tB 45 (tB 48 (tB 49 (tZ 49 (.iload_n 1)) (tZ 48 (.aload_n 0))) (tL 45 (.if_icmp .ne 10) 55)) (tB 44 (tZ 44 (.iconst 4)) (tZ 43 (.iload_n 3))))) (tB 33 (tB 37 (tB 38 (tB 42 (tZ 42 .ireturn) (tZ 38 (.iload_n 2))) (tZ 37 (.iload_n 1))) (tB 36 (tZ 36 (.aload_n 0)) (tL 33 (.if_icmp .ne 10) 43))) (tB 31 (tB 32 (tZ 32 (.iconst 3)) (tZ 31 (.iload_n 3))) (tB 30 (tZ 30 .ireturn) (tZ 29 (.iconst (-1))))))) (tB 13 (tB 22 (tB 26 (tB 27 (tB 28 (tZ 28 .ireturn) (tZ 27 .iaload)) (tZ 26 (.iload_n 1))) (tB 23 (tL 23 (.getfield 88) 24) (tZ 22 (.aload_n 0)))) (tB 17 (tB 18 (tB 19 (tL 19 (.if_icmp .ne 10) 29) (tZ 18 .iaload)) (tZ 17 (.iload_n 1))) (tB 14 (tL 14 (.getfield 85) 23) (tZ 13 (.aload_n 0))))) (tB 6 (tB 8 (tB 9 (tB 12 (tZ 12 (.iload_n 2)) (tL 9 (.if_icmp .ne 22) 31)) (tZ 8 (.iconst 2))) (tB 7 (tZ 7 (.iload_n 3)) (tZ 6 (.istore_n 3)))) (tB 4 (tB 5 (tZ 5 .baload) (tZ 4 (.iload_n 1))) (tB 1 (tL 1 (.getfield 82) 22) (tZ 0 (.aload_n 0))))))) p
set_option maxHeartbeats 4000000 in
def cd37 (p : Nat) : Option (Instr × Nat) := (tB 59 (tB 95 (tB 108 (tB 118 (tB 122 (tB 125 (tB 126 (tZ 126 .ireturn) (tZ 125 (.iconst (-1)))) (tL 122 (.goto (-65)) 57)) (tB 119 (tZ 119 (.iinc 8 1)) (tZ 118 .ireturn))) (tB 112 (tB 115 (tB 117 (tZ 117 .baload) (tZ 115 (.iload 9))) (tL 112 (.getfield 104) 29)) (tB 111 (tZ 111 (.aload_n 0)) (tL 108 (.ifCond .eq 11) 119)))) (tB 103 (tB 105 (tB 106 (tB 107 (tZ 107 .lcmp) (tZ 106 (.lconst 0))) (tZ 105 .land)) (tB 104 (tZ 104 (.lconst 1)) (tZ 103 .lushr))) (tB 100 (tB 101 (tZ 101 (.iload 5)) (tZ 100 .laload)) (tB 98 (tZ 98 (.iload 9)) (tL 95 (.getfield 100) 28))))) (tB 77 (tB 88 (tB 92 (tB 93 (tB 94 (tZ 94 (.aload_n 0)) (tZ 93 .ireturn)) (tZ 92 (.iconst (-1)))) (tB 89 (tL 89 (.if_icmp .lt 5) 94) (tZ 88 .arraylength))) (tB 82 (tB 84 (tB 85 (tL 85 (.getfield 100) 28) (tZ 84 (.aload_n 0))) (tZ 82 (.iload 9))) (tB 79 (tL 79 (.ifCond .lt 13) 92) (tZ 77 (.iload 9))))) (tB 67 (tB 72 (tB 74 (tB 75 (tZ 75 (.istore 9)) (tZ 74 .iadd)) (tZ 72 (.iload 8))) (tB 70 (tZ 70 (.iload 6)) (tL 67 (.if_icmp .ge 58) 125))) (tB 64 (tB 66 (tZ 66 (.iconst 3)) (tZ 64 (.iload 8))) (tB 61 (tL 61 (.if_icmp .ge 64) 125) (tZ 59 (.iload 7))))))) (tB 29 (tB 43 (tB 51 (tB 54 (tB 55 (tB 57 (tZ 57 (.iload 8)) (tZ 55 (.istore 8))) (tZ 54 (.iconst 0))) (tB 52 (tZ 52 (.istore 7)) (tZ 51 .iaload))) (tB 46 (tB 47 (tB 50 (tZ 50 (.iload_n 1)) (tL 47 (.getfield 91) 25)) (tZ 46 (.aload_n 0))) (tB 44 (tZ 44 (.istore 6)) (tZ 43 .iaload)))) (tB 35 (tB 38 (tB 39 (tB 42 (tZ 42 (.iload_n 1)) (tL 39 (.getfield 88) 24)) (tZ 38 (.aload_n 0))) (tB 36 (tZ 36 (.istore 5)) (tZ 35 .l2i))) (tB 33 (tB 34 (tZ 34 (.lload_n 3)) (tZ 33 .ireturn)) (tB 32 (tZ 32 (.iconst (-1))) (tL 29 (.ifCond .lt 5) 34))))) (tB 13 (tB 20 (tB 24 (tB 25 (tB 28 (tZ 28 .lcmp) (tL 25 (.ldc2_w 211) 4)) (tZ 24 (.lload_n 3))) (tB 21 (tL 21 (.ifCond .ge 11) 32) (tZ 20 .lcmp))) (tB 17 (tB 18 (tB 19 (tZ 19 .i2l) (tZ 18 .iaload)) (tZ 17 (.iload_n 1))) (tB 14 (tL 14 (.getfield 94) 26) (tZ 13 (.aload_n 0))))) (tB 6 (tB 8 (tB 11 (tB 12 (tZ 12 (.lload_n 3)) (tZ 11 (.lstore_n 3))) (tL 8 (.invokevirtual 255) 38)) (tB 7 (tZ 7 .iaload) (tZ 6 (.iload_n 1)))) (tB 2 (tB 3 (tL 3 (.getfield 85) 23) (tZ 2 (.aload_n 0))) (tB 1 (tZ 1 (.iload_n 2)) (tZ 0 (.aload_n 0)))))))) p
set_option maxHeartbeats 4000000 in
def cd38 (p : Nat) : Option (Instr × Nat) := (tB 3 (tB 7 (tB 8 (tZ 8 .lreturn) (tZ 7 .land)) (tB 4 (tZ 4 (.ldc2_w 46)) (tZ 3 .i2l))) (tB 1 (tB 2 (tZ 2 .isub) (tZ 1 (.iload_n 2))) (tZ 0 (.iload_n 1)))) p
set_option maxHeartbeats 4000000 in
def cd39 (p : Nat) : Option (Instr × Nat) := (tB 36 (tB 52 (tB 64 (tB 69 (tB 73 (tB 74 (tZ 74 .ireturn) (tZ 73 (.iconst 0))) (tB 70 (tL 70 (.putfield 138) 38) (tZ 69 (.iconst 1)))) (tB 65 (tB 68 (tZ 68 (.aload_n 0)) (tL 65 (.putfield 132) 36)) (tZ 64 .isub))) (tB 59 (tB 60 (tB 63 (tZ 63 (.iconst 1)) (tL 60 (.getfield 132) 36)) (tZ 59 .dup)) (tB 55 (tB 58 (tZ 58 (.aload_n 0)) (tL 55 (.goto (-41)) 14)) (tZ 52 (.iinc 3 1))))) (tB 44 (tB 49 (tB 50 (tB 51 (tZ 51 .bastore) (tZ 50 .baload)) (tZ 49 .iadd)) (tB 47 (tB 48 (tZ 48 (.iconst 1)) (tZ 47 (.iload_n 3))) (tL 44 (.getfield 60) 15))) (tB 39 (tB 42 (tB 43 (tZ 43 (.aload_n 0)) (tZ 42 (.iload_n 3))) (tL 39 (.getfield 60) 15)) (tB 37 (tB 38 (tZ 38 (.aload_n 0)) (tZ 37 .iastore)) (tZ 36 .iaload))))) (tB 16 (tB 28 (tB 33 (tB 34 (tB 35 (tZ 35 .iadd) (tZ 34 (.iconst 1))) (tZ 33 (.iload_n 3))) (tB 29 (tB 30 (tL 30 (.getfield 56) 14) (tZ 29 (.aload_n 0))) (tZ 28 (.iload_n 3)))) (tB 21 (tB 24 (tB 25 (tL 25 (.getfield 56) 14) (tZ 24 (.aload_n 0))) (tL 21 (.if_icmp .ge 37) 58)) (tB 17 (tB 18 (tL 18 (.getfield 132) 36) (tZ 17 (.aload_n 0))) (tZ 16 .iadd)))) (tB 10 (tB 13 (tB 14 (tB 15 (tZ 15 (.iconst 1)) (tZ 14 (.iload_n 3))) (tZ 13 (.istore_n 3))) (tB 11 (tB 12 (tZ 12 (.iload_n 2)) (tZ 11 .ireturn)) (tZ 10 (.iconst 4)))) (tB 5 (tB 6 (tB 7 (tL 7 (.ifCond .ge 5) 12) (tZ 6 (.iload_n 2))) (tZ 5 (.istore_n 2))) (tB 1 (tB 2 (tL 2 (.invokevirtual 173) 16) (tZ 1 (.iload_n 1))) (tZ 0 (.aload_n 0))))))) p
set_option maxHeartbeats 4000000 in
def cd40 (p : Nat) : Option (Instr × Nat) := (tB 21 (tB 33 (tB 36 (tB 40 (tB 41 (tZ 41 .ireturn) (tZ 40 .iaload)) (tB 39 (tZ 39 (.iload_n 2)) (tL 36 (.getfield 64) 16))) (tB 34 (tB 35 (tZ 35 (.aload_n 0)) (tZ 34 .ireturn)) (tZ 33 (.iconst 0)))) (tB 26 (tB 27 (tB 30 (tL 30 (.if_icmp .lt 5) 35) (tL 27 (.getfield 142) 39)) (tZ 26 (.aload_n 0))) (tB 22 (tB 25 (tZ 25 (.iload_n 2)) (tL 22 (.ifCond .lt 11) 33)) (tZ 21 (.iload_n 2))))) (tB 12 (tB 15 (tB 19 (tB 20 (tZ 20 (.istore_n 2)) (tZ 19 .iaload)) (tB 18 (tZ 18 (.iload_n 1)) (tL 15 (.getfield 76) 20))) (tB 13 (tB 14 (tZ 14 (.aload_n 0)) (tZ 13 .ireturn)) (tZ 12 (.iconst 0)))) (tB 5 (tB 6 (tB 9 (tL 9 (.if_icmp .lt 5) 14) (tL 6 (.getfield 151) 42)) (tZ 5 (.aload_n 0))) (tB 1 (tB 4 (tZ 4 (.iload_n 1)) (tL 1 (.ifCond .lt 11) 12)) (tZ 0 (.iload_n 1)))))) p
def pCode (m pc : Nat) : Option (Instr × Nat) := bif Nat.ble pN m then none else bif Nat.ble (pTop m) pc then none else (bif Nat.ble 20 m then (bif Nat.ble 30 m then (bif Nat.ble 35 m then (bif Nat.ble 38 m then (bif Nat.ble 39 m then (bif Nat.ble 40 m then cd40 pc else cd39 pc) else cd38 pc) else (bif Nat.ble 36 m then (bif Nat.ble 37 m then cd37 pc else cd36 pc) else cd35 pc)) else (bif Nat.ble 32 m then (bif Nat.ble 33 m then (bif Nat.ble 34 m then cd34 pc else cd33 pc) else cd32 pc) else (bif Nat.ble 31 m then cd31 pc else cd30 pc))) else (bif Nat.ble 25 m then (bif Nat.ble 27 m then (bif Nat.ble 28 m then (bif Nat.ble 29 m then cd29 pc else cd28 pc) else cd27 pc) else (bif Nat.ble 26 m then cd26 pc else cd25 pc)) else (bif Nat.ble 22 m then (bif Nat.ble 23 m then (bif Nat.ble 24 m then cd24 pc else cd23 pc) else cd22 pc) else (bif Nat.ble 21 m then cd21 pc else cd20 pc)))) else (bif Nat.ble 10 m then (bif Nat.ble 15 m then (bif Nat.ble 17 m then (bif Nat.ble 18 m then (bif Nat.ble 19 m then cd19 pc else cd18 pc) else cd17 pc) else (bif Nat.ble 16 m then cd16 pc else cd15 pc)) else (bif Nat.ble 12 m then (bif Nat.ble 13 m then (bif Nat.ble 14 m then cd14 pc else cd13 pc) else cd12 pc) else (bif Nat.ble 11 m then cd11 pc else cd10 pc))) else (bif Nat.ble 5 m then (bif Nat.ble 7 m then (bif Nat.ble 8 m then (bif Nat.ble 9 m then cd9 pc else cd8 pc) else cd7 pc) else (bif Nat.ble 6 m then cd6 pc else cd5 pc)) else (bif Nat.ble 2 m then (bif Nat.ble 3 m then (bif Nat.ble 4 m then cd4 pc else cd3 pc) else cd2 pc) else (bif Nat.ble 1 m then cd1 pc else cd0 pc)))))
def lkF : List (Nat × Nat × Nat) := [(1, 7, 0), (1, 13, 1), (1, 16, 2), (1, 19, 3), (1, 22, 4), (1, 25, 5), (1, 28, 6), (1, 31, 7), (1, 34, 8), (1, 37, 9), (1, 40, 10), (1, 43, 11), (1, 48, 12), (1, 53, 13), (1, 56, 14), (1, 60, 15), (1, 64, 16), (1, 67, 17), (1, 70, 18), (1, 73, 19), (1, 76, 20), (1, 79, 21), (1, 82, 22), (1, 85, 23), (1, 88, 24), (1, 91, 25), (1, 94, 26), (1, 97, 27), (1, 100, 28), (1, 104, 29), (1, 107, 30), (1, 110, 31), (1, 113, 32), (1, 116, 33), (1, 123, 34), (1, 126, 35), (1, 132, 36), (1, 135, 37), (1, 138, 38), (1, 142, 39), (1, 145, 40), (1, 148, 41), (1, 151, 42), (1, 154, 43), (1, 157, 44), (1, 160, 45), (1, 163, 46), (1, 166, 47)]
def lkN : List (Nat × Nat) := [(0, 7)]
def lkC : List (Nat × Nat × Nat) := [(1, 52, 1)]
def lkD : List (Nat × Nat × Nat) := [(1, 46, 0), (1, 191, 3), (1, 205, 2), (1, 211, 4), (1, 213, 5)]
def lkV : List (Nat × Nat × Nat) := [(0, 9, 1), (1, 119, 2), (1, 129, 3), (0, 23, 4), (1, 176, 5), (1, 179, 6), (1, 182, 7), (1, 185, 8), (1, 215, 9), (0, 30, 10), (0, 40, 11), (0, 43, 12), (0, 46, 13), (0, 49, 14), (0, 52, 15), (1, 173, 16), (1, 169, 17), (0, 55, 18), (1, 188, 19), (0, 58, 20), (1, 197, 21), (1, 258, 22), (0, 62, 23), (0, 36, 24), (0, 12, 25), (1, 193, 26), (0, 20, 27), (1, 201, 28), (1, 207, 29), (1, 219, 30), (1, 223, 31), (1, 233, 32), (1, 237, 33), (1, 243, 34), (1, 229, 35), (1, 246, 36), (1, 252, 37), (1, 255, 38), (0, 16, 39), (0, 27, 3), (1, 226, 40)]
def lkO : List (Nat × Nat) := [(1, 1)]
def mV : List Nat := [3, 4, 11, 12, 13, 14, 15, 18, 20, 23, 24, 25, 27, 39]
def mP : List Nat := [2, 5, 6, 7, 8, 9, 16, 17, 19, 21, 22, 26, 28, 29, 30, 31, 32, 33, 34, 35, 36, 37, 38, 40]
def mS : List Nat := [10]
def mI : List Nat := [1]
def mA : List Nat := [1, 2, 3, 4, 5, 6, 7, 8, 9, 10, 11, 12, 13, 14, 15, 16, 17, 18, 19, 20, 21, 22, 23, 24, 25, 26, 27, 28, 29, 30, 31, 32, 33, 34, 35, 36, 37, 38, 39, 40]
def aTys : List FieldType := [.int, .byte, .long]
abbrev QCell := List Value ⊕ ((FieldType × List Int32) ⊕ List Int64)
abbrev QHeap := List QCell
abbrev QLoc := List (Option Value)
abbrev vI (x : Int32) : Option Value := some (.int x)
abbrev vR (a : Addr) : Option Value := some (.ref a)
abbrev vL (x : Int64) : Option Value := some (.long x)
abbrev QSt := Nat × QLoc × List Value × QHeap
def qv (ad : Nat → Addr) : Value → Value
 | .ref k => .ref (ad k)
 | v => v
def qsz : QCell → Nat
 | .inl _ => cN
 | .inr (.inl x) => x.2.length
 | .inr (.inr x) => x.length
def qhs : QHeap → Nat
 | [] => 0
 | c :: t => qsz c + qhs t
def aget {α : Type} (xs : List α) (j : Int32) : Option α := if j < 0 then none else xs[j.toNatClampNeg]?
def aset {α : Type} (xs : List α) (j : Int32) (v : α) : Option (List α) := if j < 0 then none else if j.toNatClampNeg < xs.length then some (xs.set j.toNatClampNeg v) else none
def qnew (n : Int32) : Option Nat := if n < 0 then none else if n.toNatClampNeg ≤ 67108864 then some n.toNatClampNeg else none
def qdiv (x y : Int32) : Option Int32 := if y = 0 then none else some (x / y)
def qrem (x y : Int32) : Option Int32 := if y = 0 then none else some (x % y)
def qboo (x : Int32) : Option Int32 := if x = 0 then some x else if x = 1 then some x else none
def lget : QLoc → Nat → Option Value
 | [], _ => none
 | v :: _, 0 => v
 | _ :: t, k + 1 => lget t k
def hget : QHeap → Nat → Option QCell
 | [], _ => none
 | v :: _, 0 => some v
 | _ :: t, k + 1 => hget t k
def vget : List Value → Nat → Option Value
 | [], _ => none
 | v :: _, 0 => some v
 | _ :: t, k + 1 => vget t k
def lkill (L : QLoc) : Nat → QLoc
 | 0 => L
 | k + 1 => match lget L k with
  | some (.long _) => L.set k none
  | some (.double _) => L.set k none
  | _ => L
def lput (L : QLoc) (k : Nat) (v : Value) : Option QLoc :=
 match v with
 | .long x => bif Nat.ble (k + 2) L.length then some (((lkill L k).set k (some (.long x))).set (k + 1) none) else none
 | .double _ => none
 | v => bif Nat.ble (k + 1) L.length then some ((lkill L k).set k (some v)) else none
def qload (pc : Nat) (L : QLoc) (S : List Value) (σ : QHeap) (k : Nat) (ok : Value → Bool) : Option QSt :=
 match lget L k with
 | some v => bif ok v then some (pc, L, v :: S, σ) else none
 | none => none
def isI : Value → Bool | .int _ => true | _ => false
def isJ : Value → Bool | .long _ => true | _ => false
def isR : Value → Bool | .ref _ => true | _ => false
def qstore (pc : Nat) (L : QLoc) (S : List Value) (σ : QHeap) (k : Nat) (ok : Value → Bool) : Option QSt :=
 match S with
 | v :: S' => bif ok v then (match lput L k v with | some L' => some (pc, L', S', σ) | none => none) else none
 | [] => none
def qbin (pc : Nat) (L : QLoc) (S : List Value) (σ : QHeap) (f : Int32 → Int32 → Int32) : Option QSt :=
 match S with
 | .int y :: .int x :: S' => some (pc, L, .int (f x y) :: S', σ)
 | _ => none
def qbino (pc : Nat) (L : QLoc) (S : List Value) (σ : QHeap) (f : Int32 → Int32 → Option Int32) : Option QSt :=
 match S with
 | .int y :: .int x :: S' => (f x y).bind fun z => some (pc, L, .int z :: S', σ)
 | _ => none
def qbinJ (pc : Nat) (L : QLoc) (S : List Value) (σ : QHeap) (f : Int64 → Int64 → Int64) : Option QSt :=
 match S with
 | .long y :: .long x :: S' => some (pc, L, .long (f x y) :: S', σ)
 | _ => none
def qshJ (pc : Nat) (L : QLoc) (S : List Value) (σ : QHeap) (f : Int64 → Int32 → Int64) : Option QSt :=
 match S with
 | .int y :: .long x :: S' => some (pc, L, .long (f x y) :: S', σ)
 | _ => none
def quni (pc : Nat) (L : QLoc) (S : List Value) (σ : QHeap) (f : Int32 → Value) : Option QSt :=
 match S with
 | .int x :: S' => some (pc, L, f x :: S', σ)
 | _ => none
def quniJ (pc : Nat) (L : QLoc) (S : List Value) (σ : QHeap) (f : Int64 → Value) : Option QSt :=
 match S with
 | .long x :: S' => some (pc, L, f x :: S', σ)
 | _ => none
def qald (pc : Nat) (L : QLoc) (S : List Value) (σ : QHeap) (ok : FieldType → Bool) : Option QSt :=
 match S with
 | .int j :: .ref a :: S' => (match hget σ a with
  | some (.inr (.inl x)) => bif ok x.1 then (aget x.2 j).bind fun v => some (pc, L, .int v :: S', σ) else none
  | _ => none)
 | _ => none
def qaldJ (pc : Nat) (L : QLoc) (S : List Value) (σ : QHeap) : Option QSt :=
 match S with
 | .int j :: .ref a :: S' => (match hget σ a with
  | some (.inr (.inr x)) => (aget x j).bind fun v => some (pc, L, .long v :: S', σ)
  | _ => none)
 | _ => none
def qnar : FieldType → Int32 → Int32
 | .boolean, x => x &&& 1
 | .byte, x => x.toInt8.toInt32
 | _, x => x
def qast (pc : Nat) (L : QLoc) (S : List Value) (σ : QHeap) (ok : FieldType → Bool) : Option QSt :=
 match S with
 | .int v :: .int j :: .ref a :: S' => (match hget σ a with
  | some (.inr (.inl x)) => bif ok x.1 && Nat.ble k0 a then (aset x.2 j (qnar x.1 v)).bind fun y => some (pc, L, S', σ.set a (.inr (.inl (x.1, y)))) else none
  | _ => none)
 | _ => none
def qastJ (pc : Nat) (L : QLoc) (S : List Value) (σ : QHeap) : Option QSt :=
 match S with
 | .long v :: .int j :: .ref a :: S' => (match hget σ a with
  | some (.inr (.inr x)) => bif Nat.ble k0 a then (aset x j v).bind fun y => some (pc, L, S', σ.set a (.inr (.inr y))) else none
  | _ => none)
 | _ => none
def tyI : FieldType → Bool | .int => true | _ => false
def tyB : FieldType → Bool | .boolean => true | .byte => true | _ => false
def qfit : FieldType → Value → Option Value
 | .int, .int x => some (.int x)
 | .boolean, .int x => (qboo x).bind fun y => some (.int y)
 | .long, .long x => some (.long x)
 | .array t, .ref a => some (.ref a)
 | _, _ => none
def qget (pc : Nat) (L : QLoc) (S : List Value) (σ : QHeap) (k : Nat) : Option QSt :=
 match S with
 | .ref a :: S' => (match hget σ a with
  | some (.inl vs) => (match vget vs k with | some v => some (pc, L, v :: S', σ) | none => none)
  | _ => none)
 | _ => none
def qput (pc : Nat) (L : QLoc) (S : List Value) (σ : QHeap) (k : Nat) : Option QSt :=
 match S with
 | v :: .ref a :: S' => (match hget σ a with
  | some (.inl vs) => bif Nat.ble k0 a && Nat.ble (k + 1) vs.length then (qfit (fTy k) v).bind fun w => some (pc, L, S', σ.set a (.inl (vs.set k w))) else none
  | _ => none)
 | _ => none
def qnewA (pc : Nat) (L : QLoc) (S : List Value) (σ : QHeap) (t : ArrayType) : Option QSt :=
 match S with
 | .int n :: S' => (match t with
  | .int => (qnew n).bind fun k => some (pc, L, .ref σ.length :: S', σ ++ [.inr (.inl (.int, List.replicate k 0))])
  | .boolean => (qnew n).bind fun k => some (pc, L, .ref σ.length :: S', σ ++ [.inr (.inl (.boolean, List.replicate k 0))])
  | .byte => (qnew n).bind fun k => some (pc, L, .ref σ.length :: S', σ ++ [.inr (.inl (.byte, List.replicate k 0))])
  | .long => (qnew n).bind fun k => some (pc, L, .ref σ.length :: S', σ ++ [.inr (.inr (List.replicate k 0))])
  | _ => none)
 | _ => none
def qlen (pc : Nat) (L : QLoc) (S : List Value) (σ : QHeap) : Option QSt :=
 match S with
 | .ref a :: S' => (match hget σ a with
  | some (.inr (.inl x)) => some (pc, L, .int x.2.length.toInt32 :: S', σ)
  | some (.inr (.inr x)) => some (pc, L, .int x.length.toInt32 :: S', σ)
  | _ => none)
 | _ => none
def qdup (pc : Nat) (L : QLoc) (S : List Value) (σ : QHeap) : Option QSt :=
 match S with
 | .int x :: S' => some (pc, L, .int x :: .int x :: S', σ)
 | .ref x :: S' => some (pc, L, .ref x :: .ref x :: S', σ)
 | _ => none
def qdup2 (pc : Nat) (L : QLoc) (S : List Value) (σ : QHeap) : Option QSt :=
 match S with
 | .int x :: .ref y :: S' => some (pc, L, .int x :: .ref y :: .int x :: .ref y :: S', σ)
 | .int x :: .int y :: S' => some (pc, L, .int x :: .int y :: .int x :: .int y :: S', σ)
 | .long x :: S' => some (pc, L, .long x :: .long x :: S', σ)
 | _ => none
def qpop (pc : Nat) (L : QLoc) (S : List Value) (σ : QHeap) : Option QSt :=
 match S with
 | .int _ :: S' => some (pc, L, S', σ)
 | .ref _ :: S' => some (pc, L, S', σ)
 | _ => none
def qif (pc : Nat) (L : QLoc) (S : List Value) (σ : QHeap) (cd : ClassFile.Cond) (tgt : Nat) : Option QSt :=
 match S with
 | .int x :: S' => some (bif ifCond.holds cd x then tgt else pc, L, S', σ)
 | _ => none
def qicmp (pc : Nat) (L : QLoc) (S : List Value) (σ : QHeap) (cd : ClassFile.Cond) (tgt : Nat) : Option QSt :=
 match S with
 | .int y :: .int x :: S' => some (bif if_icmp.holds cd x y then tgt else pc, L, S', σ)
 | _ => none
def qinc (pc : Nat) (L : QLoc) (S : List Value) (σ : QHeap) (k : Nat) (i : Int) : Option QSt :=
 match lget L k with
 | some (.int x) => (match lput L k (.int (x + Int32.ofInt i)) with | some L' => some (pc, L', S, σ) | none => none)
 | _ => none
def qldc (pc : Nat) (L : QLoc) (S : List Value) (σ : QHeap) (k : Nat) : Option QSt :=
 match vget cK k with
 | some v => some (pc, L, v :: S, σ)
 | none => none
def qexec (pc : Nat) (L : QLoc) (S : List Value) (σ : QHeap) (aux : Nat) : Instr → Option QSt
 | .aload_n k => qload (pc + 1) L S σ k.val isR
 | .aload k => qload (pc + 2) L S σ k isR
 | .iload_n k => qload (pc + 1) L S σ k.val isI
 | .iload k => qload (pc + 2) L S σ k isI
 | .lload_n k => qload (pc + 1) L S σ k.val isJ
 | .lload k => qload (pc + 2) L S σ k isJ
 | .iconst i => some (pc + 1, L, .int (Int32.ofInt i) :: S, σ)
 | .bipush i => some (pc + 2, L, .int (Int8.ofInt i).toInt32 :: S, σ)
 | .sipush i => some (pc + 3, L, .int (Int16.ofInt i).toInt32 :: S, σ)
 | .lconst k => some (pc + 1, L, .long (Int64.ofNat k.val) :: S, σ)
 | .ldc _ => qldc (pc + 2) L S σ aux
 | .ldc2_w _ => qldc (pc + 3) L S σ aux
 | .istore_n k => qstore (pc + 1) L S σ k.val isI
 | .istore k => qstore (pc + 2) L S σ k isI
 | .lstore_n k => qstore (pc + 1) L S σ k.val isJ
 | .lstore k => qstore (pc + 2) L S σ k isJ
 | .astore_n k => qstore (pc + 1) L S σ k.val isR
 | .astore k => qstore (pc + 2) L S σ k isR
 | .iinc k i => qinc (pc + 3) L S σ k i
 | .iadd => qbin (pc + 1) L S σ fun x y => x + y
 | .isub => qbin (pc + 1) L S σ fun x y => x - y
 | .imul => qbin (pc + 1) L S σ fun x y => x * y
 | .iand => qbin (pc + 1) L S σ fun x y => x &&& y
 | .ior => qbin (pc + 1) L S σ fun x y => x ||| y
 | .ixor => qbin (pc + 1) L S σ fun x y => x ^^^ y
 | .ishl => qbin (pc + 1) L S σ fun x y => x <<< (y &&& 31)
 | .ishr => qbin (pc + 1) L S σ fun x y => x >>> (y &&& 31)
 | .iushr => qbin (pc + 1) L S σ fun x y => XT.ushr x y
 | .idiv => qbino (pc + 1) L S σ qdiv
 | .irem => qbino (pc + 1) L S σ qrem
 | .ineg => quni (pc + 1) L S σ fun x => .int (-x)
 | .i2l => quni (pc + 1) L S σ fun x => .long x.toInt64
 | .i2b => quni (pc + 1) L S σ fun x => .int x.toInt8.toInt32
 | .l2i => quniJ (pc + 1) L S σ fun x => .int x.toInt32
 | .lneg => quniJ (pc + 1) L S σ fun x => .long (-x)
 | .ladd => qbinJ (pc + 1) L S σ fun x y => x + y
 | .lsub => qbinJ (pc + 1) L S σ fun x y => x - y
 | .lmul => qbinJ (pc + 1) L S σ fun x y => x * y
 | .land => qbinJ (pc + 1) L S σ fun x y => x &&& y
 | .lor => qbinJ (pc + 1) L S σ fun x y => x ||| y
 | .lxor => qbinJ (pc + 1) L S σ fun x y => x ^^^ y
 | .lshl => qshJ (pc + 1) L S σ fun x y => x <<< (y.toInt64 &&& 63)
 | .lshr => qshJ (pc + 1) L S σ fun x y => x >>> (y.toInt64 &&& 63)
 | .lushr => qshJ (pc + 1) L S σ fun x y => XT.ushrL x y
 | .lcmp => (match S with
  | .long y :: .long x :: S' => some (pc + 1, L, .int (XT.cmpL x y) :: S', σ)
  | _ => none)
 | .goto _ => some (aux, L, S, σ)
 | .ifCond cd _ => qif (pc + 3) L S σ cd aux
 | .if_icmp cd _ => qicmp (pc + 3) L S σ cd aux
 | .dup => qdup (pc + 1) L S σ
 | .dup2 => qdup2 (pc + 1) L S σ
 | .pop => qpop (pc + 1) L S σ
 | .getfield _ => qget (pc + 3) L S σ aux
 | .putfield _ => qput (pc + 3) L S σ aux
 | .iaload => qald (pc + 1) L S σ tyI
 | .baload => qald (pc + 1) L S σ tyB
 | .laload => qaldJ (pc + 1) L S σ
 | .iastore => qast (pc + 1) L S σ tyI
 | .bastore => qast (pc + 1) L S σ tyB
 | .lastore => qastJ (pc + 1) L S σ
 | .arraylength => qlen (pc + 1) L S σ
 | .newarray t => qnewA (pc + 2) L S σ t
 | .new _ => some (pc + 3, L, .ref σ.length :: S, σ ++ [.inl cDef])
 | _ => none
def qstep (m : Nat) (st : QSt) : Option QSt :=
 match pCode m st.1 with
 | some (i, aux) => qexec st.1 st.2.1 st.2.2.1 st.2.2.2 aux i
 | none => none
def qsteps (m : Nat) : Nat → QSt → Option QSt
 | 0, st => some st
 | n + 1, st => match qstep m st with | some st' => qsteps m n st' | none => none
def qentry (args : List Value) (mx : Nat) : QLoc := (args.flatMap fun v => match v with | .long x => [some (.long x), none] | .double x => [some (.double x), none] | v => [some v]) ++ List.replicate (mx - (args.map fun v => v.category).sum) none
def ilen : Instr → Nat
 | .aload _ | .iload _ | .lload _ | .istore _ | .lstore _ | .astore _ | .bipush _ | .ldc _ | .newarray _ => 2
 | .sipush _ | .ldc2_w _ | .iinc _ _ | .goto _ | .ifCond _ _ | .if_icmp _ _ | .getfield _ | .putfield _ | .new _ | .invokevirtual _ | .invokespecial _ | .invokestatic _ => 3
 | _ => 1
def qtgt (pc : Nat) (o : Int) (aux : Nat) : Bool := decide (0 ≤ (pc : Int) + o) && decide (((pc : Int) + o).toNat = aux)
def qlk (m pc : Nat) (i : Instr) (aux : Nat) : Bool :=
 match i with
 | .goto o => qtgt pc o aux
 | .ifCond _ o => qtgt pc o aux
 | .if_icmp _ o => qtgt pc o aux
 | .getfield idx => lkF.contains (pK m, idx, aux)
 | .putfield idx => lkF.contains (pK m, idx, aux) && (!fFin aux || (pK m == 1 && pNm m == "<init>"))
 | .new idx => lkN.contains (pK m, idx)
 | .newarray t => aTys.contains (newarray.typeOf t)
 | .ldc idx => lkC.contains (pK m, idx, aux)
 | .ldc2_w idx => lkD.contains (pK m, idx, aux)
 | _ => true
def qchk (m pc : Nat) (i : Instr) (aux : Nat) : Bool := decide (decode (pBytes m) pc = .ok (i, ilen i)) && qlk m pc i aux
def QCellOk (Z : State) (ad : Nat → Addr) (h : Heap) (a : Addr) : QCell → Prop
 | .inl vs => Exa Z h a cName ∧ vs.length = nF ∧ ∀ (k : Nat) (v : Value), k < nF → vget vs k = some v → Fld Z h a cName (fNm k) (fDs k) (qv ad v)
 | .inr (.inl x) => ∃ c : Cell, Arr Z h a c x.1 ∧ c.slots = (x.2.map Value.int).toArray
 | .inr (.inr x) => ∃ c : Cell, Arr Z h a c .long ∧ c.slots = (x.map Value.long).toArray
def QAd (n0 : Nat) (ad : Nat → Addr) : Prop := (∀ k, k0 ≤ k → n0 ≤ ad k) ∧ ∀ i j, ad i = ad j → i = j
def QRep (Z : State) (n0 : Nat) (ad : Nat → Addr) (h : Heap) (σ : QHeap) : Prop := (k0 ≤ σ.length ∧ ∀ k, σ.length ≤ k → ad k = n0 + (k - k0)) ∧ h.size = n0 + (σ.length - k0) ∧ ∀ k c, hget σ k = some c → QCellOk Z ad h (ad k) c
def QLocOk (ad : Nat → Addr) (L : QLoc) (C : Array Slot) : Prop :=
 L.length = C.size ∧ (∀ k v, lget L k = some v → C[k]? = some (.val (qv ad v))) ∧ (∀ k w, C[k]? = some (.val w) → w.category = 2 → C[k + 1]? = some .second) ∧ ∀ k, C[k]? = some .second → ∃ j w, k = j + 1 ∧ C[j]? = some (.val w) ∧ w.category = 2
def QW (Z : State) (a0 : Array Value) : Prop :=
 (∀ t ∈ lkF, (Cond.fieldLink (kName t.1) t.2.1 cName (fNm t.2.2) (fDs t.2.2)).before a0 Z = true) ∧
 (∀ t ∈ lkN, (Cond.classLink (kName t.1) t.2 cName).before a0 Z = true) ∧
 (∀ t ∈ lkC, ∃ v, vget cK t.2.2 = some (.int v) ∧ (Cond.constant (kName t.1) t.2.1 v).before a0 Z = true) ∧
 (∀ t ∈ lkD, ∃ v, vget cK t.2.2 = some (.long v) ∧ (Cond.constantLong (kName t.1) t.2.1 v).before a0 Z = true) ∧
 (∀ t ∈ lkV, (Cond.methodLink (kName t.1) t.2.1 (pName t.2.2)).before a0 Z = true) ∧
 (∀ t ∈ lkO, (Cond.methodLink (kName t.1) t.2 Lib.objectInit).before a0 Z = true) ∧
 (∀ m ∈ mV, (Cond.declares (pName m)).before a0 Z = true ∧ (Cond.selects cName (pName m) (pName m)).before a0 Z = true ∧ (Cond.instanceMethod (pName m)).before a0 Z = true) ∧
 (∀ m ∈ mP, (Cond.instanceMethod (pName m)).before a0 Z = true ∧ (Cond.privateMethod (pName m)).before a0 Z = true) ∧
 (∀ m ∈ mS, (Cond.static (pName m)).before a0 Z = true) ∧
 (∀ m ∈ mI, (Cond.instanceMethod (pName m)).before a0 Z = true) ∧
 (∀ m ∈ mA, (Cond.code (pName m) (pBytes m) (pMaxL m) (pRet m)).before a0 Z = true ∧ (Cond.initialized (kName (pK m))).before a0 Z = true) ∧
 (Cond.instanceMethod Lib.objectInit).before a0 Z = true ∧ (Cond.code Lib.objectInit ⟨#[0xb1]⟩ 1 none).before a0 Z = true ∧
 (∀ k, k < nF → bif fFin k then (Cond.laysFinal cName cName (fNm k) (fDs k)).before a0 Z = true else (Cond.lays cName cName (fNm k) (fDs k)).before a0 Z = true) ∧
 (Cond.instantiable cName cN).before a0 Z = true ∧ (Cond.initialized cName).before a0 Z = true ∧
 ∀ ty ∈ aTys, (Cond.arrayClass ty).before a0 Z = true
section Words
variable {Z : State} {a0 : Array Value}
theorem qw_fl (W : QW Z a0) : ∀ t ∈ lkF, (Cond.fieldLink (kName t.1) t.2.1 cName (fNm t.2.2) (fDs t.2.2)).before a0 Z = true := W.1
theorem qw_nw (W : QW Z a0) : ∀ t ∈ lkN, (Cond.classLink (kName t.1) t.2 cName).before a0 Z = true := W.2.1
theorem qw_cI (W : QW Z a0) : ∀ t ∈ lkC, ∃ v, vget cK t.2.2 = some (.int v) ∧ (Cond.constant (kName t.1) t.2.1 v).before a0 Z = true := W.2.2.1
theorem qw_cJ (W : QW Z a0) : ∀ t ∈ lkD, ∃ v, vget cK t.2.2 = some (.long v) ∧ (Cond.constantLong (kName t.1) t.2.1 v).before a0 Z = true := W.2.2.2.1
theorem qw_ml (W : QW Z a0) : ∀ t ∈ lkV, (Cond.methodLink (kName t.1) t.2.1 (pName t.2.2)).before a0 Z = true := W.2.2.2.2.1
theorem qw_mo (W : QW Z a0) : ∀ t ∈ lkO, (Cond.methodLink (kName t.1) t.2 Lib.objectInit).before a0 Z = true := W.2.2.2.2.2.1
theorem qw_vi (W : QW Z a0) : ∀ m ∈ mV, (Cond.declares (pName m)).before a0 Z = true ∧ (Cond.selects cName (pName m) (pName m)).before a0 Z = true ∧ (Cond.instanceMethod (pName m)).before a0 Z = true := W.2.2.2.2.2.2.1
theorem qw_pr (W : QW Z a0) : ∀ m ∈ mP, (Cond.instanceMethod (pName m)).before a0 Z = true ∧ (Cond.privateMethod (pName m)).before a0 Z = true := W.2.2.2.2.2.2.2.1
theorem qw_st (W : QW Z a0) : ∀ m ∈ mS, (Cond.static (pName m)).before a0 Z = true := W.2.2.2.2.2.2.2.2.1
theorem qw_ini (W : QW Z a0) : ∀ m ∈ mI, (Cond.instanceMethod (pName m)).before a0 Z = true := W.2.2.2.2.2.2.2.2.2.1
theorem qw_cod (W : QW Z a0) : ∀ m ∈ mA, (Cond.code (pName m) (pBytes m) (pMaxL m) (pRet m)).before a0 Z = true ∧ (Cond.initialized (kName (pK m))).before a0 Z = true := W.2.2.2.2.2.2.2.2.2.2.1
theorem qw_oi (W : QW Z a0) : (Cond.instanceMethod Lib.objectInit).before a0 Z = true := W.2.2.2.2.2.2.2.2.2.2.2.1
theorem qw_oc (W : QW Z a0) : (Cond.code Lib.objectInit ⟨#[0xb1]⟩ 1 none).before a0 Z = true := W.2.2.2.2.2.2.2.2.2.2.2.2.1
theorem qw_lay (W : QW Z a0) : ∀ k, k < nF → bif fFin k then (Cond.laysFinal cName cName (fNm k) (fDs k)).before a0 Z = true else (Cond.lays cName cName (fNm k) (fDs k)).before a0 Z = true := W.2.2.2.2.2.2.2.2.2.2.2.2.2.1
theorem qw_inst (W : QW Z a0) : (Cond.instantiable cName cN).before a0 Z = true := W.2.2.2.2.2.2.2.2.2.2.2.2.2.2.1
theorem qw_init (W : QW Z a0) : (Cond.initialized cName).before a0 Z = true := W.2.2.2.2.2.2.2.2.2.2.2.2.2.2.2.1
theorem qw_arr (W : QW Z a0) : ∀ ty ∈ aTys, (Cond.arrayClass ty).before a0 Z = true := W.2.2.2.2.2.2.2.2.2.2.2.2.2.2.2.2
end Words
theorem hget_eq : ∀ (σ : QHeap) k, hget σ k = σ[k]?
 | [], _ => by simp [hget]
 | _ :: _, 0 => by simp [hget]
 | _ :: t, k + 1 => by simp [hget, hget_eq t k]
theorem vget_eq : ∀ (σ : List Value) k, vget σ k = σ[k]?
 | [], _ => by simp [vget]
 | _ :: _, 0 => by simp [vget]
 | _ :: t, k + 1 => by simp [vget, vget_eq t k]
theorem lget_eq : ∀ (L : QLoc) k, lget L k = (L[k]?).getD none
 | [], _ => by simp [lget]
 | _ :: _, 0 => by simp [lget]
 | _ :: t, k + 1 => by simp [lget, lget_eq t k]
theorem lget_lt {L : QLoc} {k : Nat} {v : Value} (h : lget L k = some v) : k < L.length := by
 rw [lget_eq] at h
 rcases Nat.lt_or_ge k L.length with q | q
 ·exact q
 ·simp [List.getElem?_eq_none q] at h
theorem lget_set {L : QLoc} {k j : Nat} {o : Option Value} (hk : k < L.length) : lget (L.set k o) j = if j = k then o else lget L j := by
 simp only [lget_eq, List.getElem?_set]
 by_cases e : k = j
 ·subst e; simp [hk]
 ·simp [e, Ne.symm e]
theorem qhs_app (σ τ : QHeap) : qhs (σ ++ τ) = qhs σ + qhs τ := by
 induction σ with
 | nil => simp [qhs]
 | cons c t ih => simp [qhs, ih, Nat.add_assoc]
theorem qhs_set {σ : QHeap} {k : Nat} {c d : QCell} (h : hget σ k = some c) (hs : qsz d = qsz c) : qhs (σ.set k d) = qhs σ := by
 induction σ generalizing k with
 | nil => simp [hget] at h
 | cons x t ih =>
  cases k with
  | zero => simp only [hget, Option.some.injEq] at h; subst h; simp [qhs, hs]
  | succ k => simp only [hget] at h; simp [qhs, ih h]
theorem hget_set {σ : QHeap} {k j : Nat} {c d : QCell} (h : hget σ k = some c) : hget (σ.set k d) j = if j = k then some d else hget σ j := by
 rw [hget_eq] at h
 have hk := (List.getElem?_eq_some_iff.mp h).1
 simp only [hget_eq, List.getElem?_set]
 by_cases e : k = j
 ·subst e; simp [hk]
 ·simp [e, Ne.symm e]
theorem lkill_len (L : QLoc) (k : Nat) : (lkill L k).length = L.length := by
 cases k with
 | zero => rfl
 | succ k => simp only [lkill]; split <;> simp
theorem lget_kill {L : QLoc} {k j : Nat} {v : Value} (h : lget (lkill L k) j = some v) : lget L j = some v ∧ (k = j + 1 → v.category ≠ 2) := by
 cases k with
 | zero => exact ⟨h, fun e => by omega⟩
 | succ k =>
  simp only [lkill] at h
  split at h
  ·rename_i x q
   rw [lget_set (lget_lt q)] at h
   split at h
   ·cases h
   ·rename_i ne; exact ⟨h, fun e => absurd (by omega) ne⟩
  ·rename_i x q
   rw [lget_set (lget_lt q)] at h
   split at h
   ·cases h
   ·rename_i ne; exact ⟨h, fun e => absurd (by omega) ne⟩
  ·rename_i q1 q2
   refine ⟨h, fun e hc => ?_⟩
   obtain rfl : j = k := by omega
   cases v with
   | long x => exact q1 _ h
   | double x => exact q2 _ h
   | _ => simp [Value.category] at hc
theorem qv_cat (ad : Nat → Addr) (v : Value) : (qv ad v).category = v.category := by cases v <;> rfl
def kA (C : Array Slot) (k j : Nat) : Prop := k = j + 1 ∧ C[k]? = some .second
def kB (C : Array Slot) (k j : Nat) : Prop := j = k + 1 ∧ ∃ u, C[k]? = some (.val u) ∧ u.category = 2
def kD (C : Array Slot) (k j : Nat) : Prop := j = k + 2 ∧ ∃ u, C[k + 1]? = some (.val u) ∧ u.category = 2
theorem set1_at {C D : Array Slot} {k : Nat} {w : Value} (hk : k < C.size) (hw : w.category = 1) (h : storeLocals C k w = some D) :
  D.size = C.size ∧ D[k]? = some (.val w) ∧ ∀ j, j ≠ k → (D[j]? = C[j]? ∧ ¬ kA C k j ∧ ¬ kB C k j) ∨ D[j]? = some .unset ∧ (kA C k j ∨ kB C k j) := by
 have hck : C[k]? = some C[k] := Array.getElem?_eq_getElem hk
 unfold storeLocals at h
 simp only [hck, Option.bind_eq_bind, Option.bind_some] at h
 have self : ∀ {E : Array Slot}, k < E.size → storeSelf E k w = some D → D = E.setIfInBounds k (.val w) := by
  intro E hE q
  simp only [storeSelf, setAt, hE, if_true, Option.bind_eq_bind, Option.bind_some, hw] at q
  simpa using q.symm
 split at h
 ·rename_i q
  have hk1 : k - 1 < C.size := by omega
  simp only [setAt, hk1, if_true, Option.bind_some] at h
  have e := self (by simpa using hk) h
  subst e
  refine ⟨by simp, by simp [hk], fun j hj => ?_⟩
  by_cases ej : k = j + 1
  ·refine Or.inr ⟨?_, Or.inl ⟨ej, by rw [hck, q]⟩⟩
   rw [Array.getElem?_setIfInBounds_ne (Ne.symm hj), show j = k - 1 by omega]
   simp [hk1]
  ·refine Or.inl ⟨?_, fun x => ej x.1, fun x => ?_⟩
   ·rw [Array.getElem?_setIfInBounds_ne (Ne.symm hj), Array.getElem?_setIfInBounds_ne (by omega)]
   ·obtain ⟨-, u, x1, -⟩ := x
    rw [hck, q] at x1; cases x1
 ·rename_i u q
  split at h
  ·rename_i hu
   by_cases hk1 : k + 1 < C.size
   ·simp only [setAt, hk1, if_true, Option.bind_some] at h
    have e := self (by simpa using hk) h
    subst e
    refine ⟨by simp, by simp [hk], fun j hj => ?_⟩
    by_cases ej : j = k + 1
    ·refine Or.inr ⟨?_, Or.inr ⟨ej, u, by rw [hck, q], hu⟩⟩
     rw [Array.getElem?_setIfInBounds_ne (Ne.symm hj), ej]
     simp [hk1]
    ·refine Or.inl ⟨?_, fun x => ?_, fun x => ej x.1⟩
     ·rw [Array.getElem?_setIfInBounds_ne (Ne.symm hj), Array.getElem?_setIfInBounds_ne (by omega)]
     ·obtain ⟨-, x1⟩ := x
      rw [hck, q] at x1; cases x1
   ·simp [setAt, hk1] at h
  ·rename_i hu
   have e := self hk h
   subst e
   refine ⟨by simp, by simp [hk], fun j hj => Or.inl ⟨Array.getElem?_setIfInBounds_ne (Ne.symm hj), fun x => ?_, fun x => ?_⟩⟩
   ·obtain ⟨-, x1⟩ := x
    rw [hck, q] at x1; cases x1
   ·obtain ⟨-, u', x1, x2⟩ := x
    rw [hck, q] at x1; cases x1; exact hu x2
 ·rename_i q
  have e := self hk h
  subst e
  refine ⟨by simp, by simp [hk], fun j hj => Or.inl ⟨Array.getElem?_setIfInBounds_ne (Ne.symm hj), fun x => ?_, fun x => ?_⟩⟩
  ·obtain ⟨-, x1⟩ := x
   rw [hck, q] at x1; cases x1
  ·obtain ⟨-, u', x1, x2⟩ := x
   rw [hck, q] at x1; cases x1
theorem set2_at {C D : Array Slot} {k : Nat} {w : Value} (hk : k + 1 < C.size) (hw : w.category = 2) (wf : ∀ k w, C[k]? = some (.val w) → w.category = 2 → C[k + 1]? = some .second) (h : storeLocals C k w = some D) :
  D.size = C.size ∧ D[k]? = some (.val w) ∧ D[k + 1]? = some .second ∧ ∀ j, j ≠ k → j ≠ k + 1 → (D[j]? = C[j]? ∧ ¬ kA C k j ∧ ¬ kD C k j) ∨ D[j]? = some .unset ∧ (kA C k j ∨ kD C k j) := by
 have hk0 : k < C.size := by omega
 have hck : C[k]? = some C[k] := Array.getElem?_eq_getElem hk0
 unfold storeLocals at h
 simp only [hck, Option.bind_eq_bind, Option.bind_some] at h
 have self : ∀ {E : Array Slot}, E.size = C.size → storeSelf E k w = some D → D.size = C.size ∧ D[k]? = some (.val w) ∧ D[k + 1]? = some .second ∧ ∀ j, j ≠ k → j ≠ k + 1 → (D[j]? = E[j]? ∧ ¬ kD E k j) ∨ D[j]? = some .unset ∧ kD E k j := by
  intro E hs q
  have h1 : k < E.size := by omega
  have h2 : k + 1 < E.size := by omega
  have h3 : (E.setIfInBounds k (.val w))[k + 1]? = some E[k + 1] := by rw [Array.getElem?_setIfInBounds_ne (by omega)]; exact Array.getElem?_eq_getElem h2
  simp only [storeSelf, setAt, h1, if_true, Option.bind_eq_bind, Option.bind_some, hw, h3] at q
  have plain : (¬ ∃ u, E[k + 1]? = some (.val u) ∧ u.category = 2) → some ((E.setIfInBounds k (.val w)).setIfInBounds (k + 1) .second) = some D → D.size = C.size ∧ D[k]? = some (.val w) ∧ D[k + 1]? = some .second ∧ ∀ j, j ≠ k → j ≠ k + 1 → (D[j]? = E[j]? ∧ ¬ kD E k j) ∨ D[j]? = some .unset ∧ kD E k j := by
   intro no q
   cases q
   refine ⟨by simp [hs], ?_, ?_, fun j hj hj1 => Or.inl ⟨?_, fun x => no x.2⟩⟩
   ·rw [Array.getElem?_setIfInBounds_ne (by omega)]; simp [h1]
   ·simp [h2]
   ·rw [Array.getElem?_setIfInBounds_ne (by omega), Array.getElem?_setIfInBounds_ne (by omega)]
  split at q
  ·rename_i u hu
   split at q
   ·rename_i hu2
    by_cases h5 : k + 2 < E.size
    ·simp [h5, h2] at q
     cases q
     refine ⟨by simp [hs], ?_, ?_, fun j hj hj1 => ?_⟩
     ·rw [Array.getElem?_setIfInBounds_ne (by omega), Array.getElem?_setIfInBounds_ne (by omega)]; simp [h1]
     ·simp [h2]
     ·by_cases e : j = k + 2
      ·refine Or.inr ⟨?_, e, u, by rw [Array.getElem?_eq_getElem h2, hu], hu2⟩
       rw [Array.getElem?_setIfInBounds_ne (by omega), e]
       simp [h5]
      ·refine Or.inl ⟨?_, fun x => e x.1⟩
       rw [Array.getElem?_setIfInBounds_ne (by omega), Array.getElem?_setIfInBounds_ne (by omega), Array.getElem?_setIfInBounds_ne (by omega)]
    ·simp [h5] at q
   ·rename_i hu2
    refine plain ?_ (by simpa [h2] using q)
    rintro ⟨u', x1, x2⟩
    rw [Array.getElem?_eq_getElem h2, hu] at x1; cases x1; exact hu2 x2
  ·rename_i hu
   refine plain ?_ (by simpa [h2] using q)
   rintro ⟨u', x1, x2⟩
   rw [Array.getElem?_eq_getElem h2] at x1; exact hu _ (Option.some.inj x1)
 split at h
 ·rename_i q
  have hk1 : k - 1 < C.size := by omega
  simp only [setAt, hk1, if_true, Option.bind_some] at h
  obtain ⟨e1, e2, e3, e4⟩ := self (by simp) h
  refine ⟨e1, e2, e3, fun j hj hj1 => ?_⟩
  have h6 : ∀ i, i + 1 ≠ k ∨ k = 0 → i ≠ k ∨ k ≠ 0 → (C.setIfInBounds (k - 1) Slot.unset)[i]? = C[i]? := fun i hi hi2 => Array.getElem?_setIfInBounds_ne (by omega)
  have h7 : (C.setIfInBounds (k - 1) Slot.unset)[k + 1]? = C[k + 1]? := Array.getElem?_setIfInBounds_ne (by omega)
  rcases e4 j hj hj1 with ⟨r, r'⟩ | ⟨r, r1, u, r2, r3⟩
  ·by_cases ej : k = j + 1
   ·refine Or.inr ⟨?_, Or.inl ⟨ej, by rw [hck, q]⟩⟩
    rw [r, show j = k - 1 by omega]; simp [hk1]
   ·refine Or.inl ⟨by rw [r]; exact h6 _ (by omega) (by omega), fun x => ej x.1, fun x => r' ⟨x.1, ?_⟩⟩
    rw [h7]; exact x.2
  ·exact Or.inr ⟨r, Or.inr ⟨r1, u, by rw [← h7]; exact r2, r3⟩⟩
 ·rename_i u q
  split at h
  ·rename_i hu
   simp only [setAt, hk, if_true, Option.bind_some] at h
   obtain ⟨e1, e2, e3, e4⟩ := self (by simp) h
   have hsec := wf k u (by rw [hck, q]) hu
   refine ⟨e1, e2, e3, fun j hj hj1 => ?_⟩
   rcases e4 j hj hj1 with ⟨r, r'⟩ | ⟨r, r1, u', r2, r3⟩
   ·refine Or.inl ⟨by rw [r]; exact Array.getElem?_setIfInBounds_ne (by omega), fun x => ?_, fun x => ?_⟩
    ·obtain ⟨-, x1⟩ := x
     rw [hck, q] at x1; cases x1
    ·obtain ⟨-, u', x1, x2⟩ := x
     rw [hsec] at x1; cases x1
   ·simp [hk] at r2
  ·rename_i hu
   obtain ⟨e1, e2, e3, e4⟩ := self rfl h
   refine ⟨e1, e2, e3, fun j hj hj1 => ?_⟩
   rcases e4 j hj hj1 with ⟨r, r'⟩ | ⟨r, r'⟩
   ·refine Or.inl ⟨r, fun x => ?_, r'⟩
    obtain ⟨-, x1⟩ := x
    rw [hck, q] at x1; cases x1
   ·exact Or.inr ⟨r, Or.inr r'⟩
 ·rename_i q
  obtain ⟨e1, e2, e3, e4⟩ := self rfl h
  refine ⟨e1, e2, e3, fun j hj hj1 => ?_⟩
  rcases e4 j hj hj1 with ⟨r, r'⟩ | ⟨r, r'⟩
  ·refine Or.inl ⟨r, fun x => ?_, r'⟩
   obtain ⟨-, x1⟩ := x
   rw [hck, q] at x1; cases x1
  ·exact Or.inr ⟨r, Or.inr r'⟩
theorem store_some {C : Array Slot} {k : Nat} {w : Value} (hk : k + (w.category - 1) < C.size) (hc : w.category = 1 ∨ w.category = 2) (wf : ∀ k w, C[k]? = some (.val w) → w.category = 2 → C[k + 1]? = some .second) :
  ∃ D, storeLocals C k w = some D := by
 have hk0 : k < C.size := by omega
 have hck : C[k]? = some C[k] := Array.getElem?_eq_getElem hk0
 have self : ∀ {E : Array Slot}, E.size = C.size → (∀ u, E[k + 1]? = some (.val u) → u.category = 2 → k + 2 < E.size) → ∃ D, storeSelf E k w = some D := by
  intro E hs hn
  have h1 : k < E.size := by omega
  simp only [storeSelf, setAt, h1, if_true, Option.bind_eq_bind, Option.bind_some]
  rcases hc with hc | hc
  ·exact ⟨E.setIfInBounds k (.val w), by simp [hc]⟩
  ·have h2 : k + 1 < E.size := by omega
   have h3 : (E.setIfInBounds k (.val w))[k + 1]? = some E[k + 1] := by rw [Array.getElem?_setIfInBounds_ne (by omega)]; exact Array.getElem?_eq_getElem h2
   simp only [hc, if_true, h3, Option.bind_some]
   split
   ·rename_i u hu
    split
    ·rename_i hu2
     have h5 := hn u (by rw [Array.getElem?_eq_getElem h2, hu]) hu2
     exact ⟨_, by simp [h5, h2]; rfl⟩
    ·exact ⟨_, by simp [h2]; rfl⟩
   ·exact ⟨_, by simp [h2]; rfl⟩
 have next : ∀ u, C[k + 1]? = some (.val u) → u.category = 2 → k + 2 < C.size := fun u h1 h2 => (Array.getElem?_eq_some_iff.mp (wf _ _ h1 h2)).1
 unfold storeLocals
 simp only [hck, Option.bind_eq_bind, Option.bind_some]
 split
 ·have hk1 : k - 1 < C.size := by omega
  simp only [setAt, hk1, if_true, Option.bind_some]
  refine self (by simp) fun u h1 h2 => ?_
  rw [Array.getElem?_setIfInBounds_ne (by omega)] at h1
  simpa using next u h1 h2
 ·rename_i u q
  split
  ·rename_i hu
   have h5 := (Array.getElem?_eq_some_iff.mp (wf k u (by rw [hck, q]) hu)).1
   simp only [setAt, h5, if_true, Option.bind_some]
   refine self (by simp) fun u h1 h2 => ?_
   simp [h5] at h1
  ·exact self rfl next
 ·exact self rfl next
theorem store_ok1 {ad : Nat → Addr} {L : QLoc} {C : Array Slot} {k : Nat} {v : Value} (H : QLocOk ad L C) (hv : v.category = 1) (hk : k < L.length) :
  ∃ D, storeLocals C k (qv ad v) = some D ∧ QLocOk ad ((lkill L k).set k (some v)) D ∧ D.size = C.size := by
 obtain ⟨H1, H2, H3, H4⟩ := H
 have hc : (qv ad v).category = 1 := by rw [qv_cat, hv]
 obtain ⟨D, hD⟩ := store_some (C := C) (k := k) (w := qv ad v) (by rw [hc]; omega) (Or.inl hc) H3
 obtain ⟨d1, d2, d3⟩ := set1_at (by omega) hc hD
 refine ⟨D, hD, ⟨by simp [lkill_len, H1, d1], fun j u hj => ?_, fun j w hj hw => ?_, fun j hj => ?_⟩, d1⟩
 ·rw [lget_set (by rw [lkill_len]; exact hk)] at hj
  split at hj
  ·rename_i e; cases hj; rw [e]; exact d2
  ·rename_i ne
   obtain ⟨g1, g2⟩ := lget_kill hj
   have g3 := H2 j u g1
   rcases d3 j ne with ⟨r, -, -⟩ | ⟨-, ⟨r1, r2⟩ | ⟨r1, w, r2, r3⟩⟩
   ·rw [r]; exact g3
   ·obtain ⟨i, w, z1, z2, z3⟩ := H4 k r2
    obtain rfl : i = j := by omega
    rw [g3] at z2
    cases z2
    rw [qv_cat] at z3
    exact absurd z3 (g2 r1)
   ·have := H3 k w r2 r3
    rw [← r1, g3] at this
    cases this
 ·by_cases e : j = k
  ·subst e; rw [d2] at hj; cases hj; rw [hc] at hw; cases hw
  ·rcases d3 j e with ⟨r, nA, nB⟩ | ⟨r, -⟩
   ·rw [r] at hj
    have g := H3 j w hj hw
    have e2 : j + 1 ≠ k := fun q => nA ⟨q.symm, by rw [← q]; exact g⟩
    rcases d3 (j + 1) e2 with ⟨z, -, -⟩ | ⟨-, ⟨z1, z2⟩ | ⟨z1, -⟩⟩
    ·rw [z]; exact g
    ·obtain ⟨i, u, y1, y2, y3⟩ := H4 k z2
     obtain rfl : i = j + 1 := by omega
     rw [g] at y2; cases y2
    ·omega
   ·rw [r] at hj; cases hj
 ·by_cases e : j = k
  ·subst e; rw [d2] at hj; cases hj
  ·rcases d3 j e with ⟨r, nA, nB⟩ | ⟨r, -⟩
   ·rw [r] at hj
    obtain ⟨i, w, y1, y2, y3⟩ := H4 j hj
    refine ⟨i, w, y1, ?_, y3⟩
    have ei : i ≠ k := fun q => nB ⟨by omega, w, by rw [← q]; exact y2, y3⟩
    rcases d3 i ei with ⟨z, -, -⟩ | ⟨-, ⟨z1, z2⟩ | ⟨z1, u, z2, z3⟩⟩
    ·rw [z]; exact y2
    ·omega
    ·have := H3 k u z2 z3
     rw [← z1, y2] at this; cases this
   ·rw [r] at hj; cases hj
theorem store_ok2 {ad : Nat → Addr} {L : QLoc} {C : Array Slot} {k : Nat} {x : Int64} (H : QLocOk ad L C) (hk : k + 1 < L.length) :
  ∃ D, storeLocals C k (.long x) = some D ∧ QLocOk ad (((lkill L k).set k (some (.long x))).set (k + 1) none) D ∧ D.size = C.size := by
 obtain ⟨H1, H2, H3, H4⟩ := H
 have hc : (Value.long x).category = 2 := rfl
 obtain ⟨D, hD⟩ := store_some (C := C) (k := k) (w := .long x) (by rw [hc]; omega) (Or.inr hc) H3
 obtain ⟨d1, d2, d2', d3⟩ := set2_at (by omega) hc H3 hD
 refine ⟨D, hD, ⟨by simp [lkill_len, H1, d1], fun j u hj => ?_, fun j w hj hw => ?_, fun j hj => ?_⟩, d1⟩
 ·rw [lget_set (by simp [lkill_len]; exact hk)] at hj
  split at hj
  ·cases hj
  ·rename_i ne1
   rw [lget_set (by rw [lkill_len]; omega)] at hj
   split at hj
   ·rename_i e; cases hj; rw [e]; exact d2
   ·rename_i ne
    obtain ⟨g1, g2⟩ := lget_kill hj
    have g3 := H2 j u g1
    rcases d3 j ne ne1 with ⟨r, -, -⟩ | ⟨-, ⟨r1, r2⟩ | ⟨r1, w, r2, r3⟩⟩
    ·rw [r]; exact g3
    ·obtain ⟨i, w, z1, z2, z3⟩ := H4 k r2
     obtain rfl : i = j := by omega
     rw [g3] at z2
     cases z2
     rw [qv_cat] at z3
     exact absurd z3 (g2 r1)
    ·have := H3 (k + 1) w r2 r3
     rw [show k + 1 + 1 = j by omega, g3] at this
     cases this
 ·by_cases e : j = k
  ·rw [e]; exact d2'
  ·by_cases e1 : j = k + 1
   ·rw [e1, d2'] at hj; cases hj
   ·rcases d3 j e e1 with ⟨r, nA, nB⟩ | ⟨r, -⟩
    ·rw [r] at hj
     have g := H3 j w hj hw
     have e2 : j + 1 ≠ k := fun q => nA ⟨q.symm, by rw [← q]; exact g⟩
     rcases d3 (j + 1) e2 (by omega) with ⟨z, -, -⟩ | ⟨-, ⟨z1, z2⟩ | ⟨z1, -⟩⟩
     ·rw [z]; exact g
     ·obtain ⟨i, u, y1, y2, y3⟩ := H4 k z2
      obtain rfl : i = j + 1 := by omega
      rw [g] at y2; cases y2
     ·omega
    ·rw [r] at hj; cases hj
 ·by_cases e : j = k
  ·rw [e, d2] at hj; cases hj
  ·by_cases e1 : j = k + 1
   ·exact ⟨k, _, e1, d2, hc⟩
   ·rcases d3 j e e1 with ⟨r, nA, nB⟩ | ⟨r, -⟩
    ·rw [r] at hj
     obtain ⟨i, w, y1, y2, y3⟩ := H4 j hj
     refine ⟨i, w, y1, ?_, y3⟩
     have ei : i ≠ k := fun q => e1 (by omega)
     have ei1 : i ≠ k + 1 := fun q => nB ⟨by omega, w, by rw [← q]; exact y2, y3⟩
     rcases d3 i ei ei1 with ⟨z, -, -⟩ | ⟨-, ⟨z1, z2⟩ | ⟨z1, u, z2, z3⟩⟩
     ·rw [z]; exact y2
     ·omega
     ·have := H3 (k + 1) u z2 z3
      rw [show k + 1 + 1 = i by omega, y2] at this; cases this
    ·rw [r] at hj; cases hj
theorem store_ok {ad : Nat → Addr} {L L' : QLoc} {C : Array Slot} {k : Nat} {v : Value} (H : QLocOk ad L C) (h : lput L k v = some L') :
  ∃ D, storeLocals C k (qv ad v) = some D ∧ QLocOk ad L' D ∧ D.size = C.size := by
 have one : v.category = 1 → (bif Nat.ble (k + 1) L.length then some ((lkill L k).set k (some v)) else none) = some L' → ∃ D, storeLocals C k (qv ad v) = some D ∧ QLocOk ad L' D ∧ D.size = C.size := by
  intro hv h
  cases hb : Nat.ble (k + 1) L.length with
  | false => rw [hb] at h; cases h
  | true => rw [hb] at h; cases h; exact store_ok1 H hv (Nat.le_of_ble_eq_true hb)
 cases v with
 | long x =>
  simp only [lput] at h
  cases hb : Nat.ble (k + 2) L.length with
  | false => rw [hb] at h; cases h
  | true => rw [hb] at h; cases h; exact store_ok2 H (Nat.le_of_ble_eq_true hb)
 | double x => simp [lput] at h
 | int x => exact one rfl h
 | float x => exact one rfl h
 | null => exact one rfl h
 | ref x => exact one rfl h
 | retAddr x => exact one rfl h
theorem fInj : ∀ i, i < nF → ∀ j, j < nF → fNm i = fNm j → i = j := by decide +kernel
theorem fPrs : ∀ i, i < nF → parseFieldDescriptor (fDs i) = some (fTy i) := by decide +kernel
theorem cDefs : ∀ i, i < nF → vget cDef i = some (defaultValue (fTy i)) := by decide +kernel
theorem cDefL : cDef.length = nF := by decide +kernel
theorem fDef : ∀ i, i < nF → ∀ a, defaultValue (fTy i) ≠ .ref a := by
 intro i _ a
 cases fTy i <;> simp [defaultValue]
theorem kPlain : ∀ k, k < 2 → plainName (kName k) = true := by
 intro k hk
 rcases k with _ | _ | k
 ·first | decide +kernel | (simp [kName, plainName, overriddenIn]; done)
 ·first | decide +kernel | (simp [kName, plainName, overriddenIn]; done)
 ·omega
theorem pKlt : ∀ m, m < pN → pK m < 2 := by decide +kernel
theorem pSig : ∀ m, m < pN → (parseMethodDescriptor (pDs m)).map (fun sg => sg.parameters.length) = some (pNA m) := by decide +kernel
theorem pOwn : ∀ k, k < 2 → kName k ≠ "java/lang/invoke/MethodHandle" ∧ kName k ≠ "java/lang/invoke/VarHandle" := by decide +kernel
theorem mAlt : ∀ m ∈ mA, m < pN := by decide +kernel
theorem mVlt : ∀ m ∈ mV, m ∈ mA ∧ pK m = 1 := by decide +kernel
theorem mPlt : ∀ m ∈ mP, m ∈ mA ∧ pK m = 1 := by decide +kernel
theorem mSlt : ∀ m ∈ mS, m ∈ mA := by decide +kernel
theorem mIlt : ∀ m ∈ mI, m ∈ mA ∧ pK m = 1 ∧ pNm m = "<init>" ∧ pRet m = none := by decide +kernel
theorem kOne : kName 1 = cName := rfl
def pX (m pc : Nat) : Bool := match pCode m pc with | some t => qchk m pc t.1 t.2 | none => true
set_option maxRecDepth 100000 in
set_option maxHeartbeats 4000000 in
theorem pC0_0 : ∀ q, q < 128 → pX 0 (0 + q) = true := by decide +kernel
set_option maxRecDepth 100000 in
set_option maxHeartbeats 4000000 in
theorem pC0_128 : ∀ q, q < 128 → pX 0 (128 + q) = true := by decide +kernel
set_option maxRecDepth 100000 in
set_option maxHeartbeats 4000000 in
theorem pC0_256 : ∀ q, q < 48 → pX 0 (256 + q) = true := by decide +kernel
theorem pCm0 (pc : Nat) (h : pc < pTop 0) : pX 0 pc = true := by
 replace h : pc < 304 := h
 by_cases h0 : pc < 128
 ·have q := pC0_0 (pc - 0) (by omega)
  rwa [show 0 + (pc - 0) = pc from by omega] at q
 by_cases h128 : pc < 256
 ·have q := pC0_128 (pc - 128) (by omega)
  rwa [show 128 + (pc - 128) = pc from by omega] at q
 have q := pC0_256 (pc - 256) (by omega)
 rwa [show 256 + (pc - 256) = pc from by omega] at q
set_option maxRecDepth 100000 in
set_option maxHeartbeats 4000000 in
theorem pC1_0 : ∀ q, q < 128 → pX 1 (0 + q) = true := by decide +kernel
set_option maxRecDepth 100000 in
set_option maxHeartbeats 4000000 in
theorem pC1_128 : ∀ q, q < 128 → pX 1 (128 + q) = true := by decide +kernel
set_option maxRecDepth 100000 in
set_option maxHeartbeats 4000000 in
theorem pC1_256 : ∀ q, q < 28 → pX 1 (256 + q) = true := by decide +kernel
theorem pCm1 (pc : Nat) (h : pc < pTop 1) : pX 1 pc = true := by
 replace h : pc < 284 := h
 by_cases h0 : pc < 128
 ·have q := pC1_0 (pc - 0) (by omega)
  rwa [show 0 + (pc - 0) = pc from by omega] at q
 by_cases h128 : pc < 256
 ·have q := pC1_128 (pc - 128) (by omega)
  rwa [show 128 + (pc - 128) = pc from by omega] at q
 have q := pC1_256 (pc - 256) (by omega)
 rwa [show 256 + (pc - 256) = pc from by omega] at q
set_option maxRecDepth 100000 in
set_option maxHeartbeats 4000000 in
theorem pC2_0 : ∀ q, q < 16 → pX 2 (0 + q) = true := by decide +kernel
theorem pCm2 (pc : Nat) (h : pc < pTop 2) : pX 2 pc = true := by
 replace h : pc < 16 := h
 have q := pC2_0 (pc - 0) (by omega)
 rwa [show 0 + (pc - 0) = pc from by omega] at q
set_option maxRecDepth 100000 in
set_option maxHeartbeats 4000000 in
theorem pC3_0 : ∀ q, q < 61 → pX 3 (0 + q) = true := by decide +kernel
theorem pCm3 (pc : Nat) (h : pc < pTop 3) : pX 3 pc = true := by
 replace h : pc < 61 := h
 have q := pC3_0 (pc - 0) (by omega)
 rwa [show 0 + (pc - 0) = pc from by omega] at q
set_option maxRecDepth 100000 in
set_option maxHeartbeats 4000000 in
theorem pC4_0 : ∀ q, q < 21 → pX 4 (0 + q) = true := by decide +kernel
theorem pCm4 (pc : Nat) (h : pc < pTop 4) : pX 4 pc = true := by
 replace h : pc < 21 := h
 have q := pC4_0 (pc - 0) (by omega)
 rwa [show 0 + (pc - 0) = pc from by omega] at q
set_option maxRecDepth 100000 in
set_option maxHeartbeats 4000000 in
theorem pC5_0 : ∀ q, q < 67 → pX 5 (0 + q) = true := by decide +kernel
theorem pCm5 (pc : Nat) (h : pc < pTop 5) : pX 5 pc = true := by
 replace h : pc < 67 := h
 have q := pC5_0 (pc - 0) (by omega)
 rwa [show 0 + (pc - 0) = pc from by omega] at q
set_option maxRecDepth 100000 in
set_option maxHeartbeats 4000000 in
theorem pC6_0 : ∀ q, q < 128 → pX 6 (0 + q) = true := by decide +kernel
set_option maxRecDepth 100000 in
set_option maxHeartbeats 4000000 in
theorem pC6_128 : ∀ q, q < 79 → pX 6 (128 + q) = true := by decide +kernel
theorem pCm6 (pc : Nat) (h : pc < pTop 6) : pX 6 pc = true := by
 replace h : pc < 207 := h
 by_cases h0 : pc < 128
 ·have q := pC6_0 (pc - 0) (by omega)
  rwa [show 0 + (pc - 0) = pc from by omega] at q
 have q := pC6_128 (pc - 128) (by omega)
 rwa [show 128 + (pc - 128) = pc from by omega] at q
set_option maxRecDepth 100000 in
set_option maxHeartbeats 4000000 in
theorem pC7_0 : ∀ q, q < 89 → pX 7 (0 + q) = true := by decide +kernel
theorem pCm7 (pc : Nat) (h : pc < pTop 7) : pX 7 pc = true := by
 replace h : pc < 89 := h
 have q := pC7_0 (pc - 0) (by omega)
 rwa [show 0 + (pc - 0) = pc from by omega] at q
set_option maxRecDepth 100000 in
set_option maxHeartbeats 4000000 in
theorem pC8_0 : ∀ q, q < 128 → pX 8 (0 + q) = true := by decide +kernel
set_option maxRecDepth 100000 in
set_option maxHeartbeats 4000000 in
theorem pC8_128 : ∀ q, q < 82 → pX 8 (128 + q) = true := by decide +kernel
theorem pCm8 (pc : Nat) (h : pc < pTop 8) : pX 8 pc = true := by
 replace h : pc < 210 := h
 by_cases h0 : pc < 128
 ·have q := pC8_0 (pc - 0) (by omega)
  rwa [show 0 + (pc - 0) = pc from by omega] at q
 have q := pC8_128 (pc - 128) (by omega)
 rwa [show 128 + (pc - 128) = pc from by omega] at q
set_option maxRecDepth 100000 in
set_option maxHeartbeats 4000000 in
theorem pC9_0 : ∀ q, q < 77 → pX 9 (0 + q) = true := by decide +kernel
theorem pCm9 (pc : Nat) (h : pc < pTop 9) : pX 9 pc = true := by
 replace h : pc < 77 := h
 have q := pC9_0 (pc - 0) (by omega)
 rwa [show 0 + (pc - 0) = pc from by omega] at q
set_option maxRecDepth 100000 in
set_option maxHeartbeats 4000000 in
theorem pC10_0 : ∀ q, q < 128 → pX 10 (0 + q) = true := by decide +kernel
set_option maxRecDepth 100000 in
set_option maxHeartbeats 4000000 in
theorem pC10_128 : ∀ q, q < 27 → pX 10 (128 + q) = true := by decide +kernel
theorem pCm10 (pc : Nat) (h : pc < pTop 10) : pX 10 pc = true := by
 replace h : pc < 155 := h
 by_cases h0 : pc < 128
 ·have q := pC10_0 (pc - 0) (by omega)
  rwa [show 0 + (pc - 0) = pc from by omega] at q
 have q := pC10_128 (pc - 128) (by omega)
 rwa [show 128 + (pc - 128) = pc from by omega] at q
set_option maxRecDepth 100000 in
set_option maxHeartbeats 4000000 in
theorem pC11_0 : ∀ q, q < 5 → pX 11 (0 + q) = true := by decide +kernel
theorem pCm11 (pc : Nat) (h : pc < pTop 11) : pX 11 pc = true := by
 replace h : pc < 5 := h
 have q := pC11_0 (pc - 0) (by omega)
 rwa [show 0 + (pc - 0) = pc from by omega] at q
set_option maxRecDepth 100000 in
set_option maxHeartbeats 4000000 in
theorem pC12_0 : ∀ q, q < 21 → pX 12 (0 + q) = true := by decide +kernel
theorem pCm12 (pc : Nat) (h : pc < pTop 12) : pX 12 pc = true := by
 replace h : pc < 21 := h
 have q := pC12_0 (pc - 0) (by omega)
 rwa [show 0 + (pc - 0) = pc from by omega] at q
set_option maxRecDepth 100000 in
set_option maxHeartbeats 4000000 in
theorem pC13_0 : ∀ q, q < 21 → pX 13 (0 + q) = true := by decide +kernel
theorem pCm13 (pc : Nat) (h : pc < pTop 13) : pX 13 pc = true := by
 replace h : pc < 21 := h
 have q := pC13_0 (pc - 0) (by omega)
 rwa [show 0 + (pc - 0) = pc from by omega] at q
set_option maxRecDepth 100000 in
set_option maxHeartbeats 4000000 in
theorem pC14_0 : ∀ q, q < 5 → pX 14 (0 + q) = true := by decide +kernel
theorem pCm14 (pc : Nat) (h : pc < pTop 14) : pX 14 pc = true := by
 replace h : pc < 5 := h
 have q := pC14_0 (pc - 0) (by omega)
 rwa [show 0 + (pc - 0) = pc from by omega] at q
set_option maxRecDepth 100000 in
set_option maxHeartbeats 4000000 in
theorem pC15_0 : ∀ q, q < 22 → pX 15 (0 + q) = true := by decide +kernel
theorem pCm15 (pc : Nat) (h : pc < pTop 15) : pX 15 pc = true := by
 replace h : pc < 22 := h
 have q := pC15_0 (pc - 0) (by omega)
 rwa [show 0 + (pc - 0) = pc from by omega] at q
set_option maxRecDepth 100000 in
set_option maxHeartbeats 4000000 in
theorem pC16_0 : ∀ q, q < 28 → pX 16 (0 + q) = true := by decide +kernel
theorem pCm16 (pc : Nat) (h : pc < pTop 16) : pX 16 pc = true := by
 replace h : pc < 28 := h
 have q := pC16_0 (pc - 0) (by omega)
 rwa [show 0 + (pc - 0) = pc from by omega] at q
set_option maxRecDepth 100000 in
set_option maxHeartbeats 4000000 in
theorem pC17_0 : ∀ q, q < 59 → pX 17 (0 + q) = true := by decide +kernel
theorem pCm17 (pc : Nat) (h : pc < pTop 17) : pX 17 pc = true := by
 replace h : pc < 59 := h
 have q := pC17_0 (pc - 0) (by omega)
 rwa [show 0 + (pc - 0) = pc from by omega] at q
set_option maxRecDepth 100000 in
set_option maxHeartbeats 4000000 in
theorem pC18_0 : ∀ q, q < 15 → pX 18 (0 + q) = true := by decide +kernel
theorem pCm18 (pc : Nat) (h : pc < pTop 18) : pX 18 pc = true := by
 replace h : pc < 15 := h
 have q := pC18_0 (pc - 0) (by omega)
 rwa [show 0 + (pc - 0) = pc from by omega] at q
set_option maxRecDepth 100000 in
set_option maxHeartbeats 4000000 in
theorem pC19_0 : ∀ q, q < 114 → pX 19 (0 + q) = true := by decide +kernel
theorem pCm19 (pc : Nat) (h : pc < pTop 19) : pX 19 pc = true := by
 replace h : pc < 114 := h
 have q := pC19_0 (pc - 0) (by omega)
 rwa [show 0 + (pc - 0) = pc from by omega] at q
set_option maxRecDepth 100000 in
set_option maxHeartbeats 4000000 in
theorem pC20_0 : ∀ q, q < 44 → pX 20 (0 + q) = true := by decide +kernel
theorem pCm20 (pc : Nat) (h : pc < pTop 20) : pX 20 pc = true := by
 replace h : pc < 44 := h
 have q := pC20_0 (pc - 0) (by omega)
 rwa [show 0 + (pc - 0) = pc from by omega] at q
set_option maxRecDepth 100000 in
set_option maxHeartbeats 4000000 in
theorem pC21_0 : ∀ q, q < 51 → pX 21 (0 + q) = true := by decide +kernel
theorem pCm21 (pc : Nat) (h : pc < pTop 21) : pX 21 pc = true := by
 replace h : pc < 51 := h
 have q := pC21_0 (pc - 0) (by omega)
 rwa [show 0 + (pc - 0) = pc from by omega] at q
set_option maxRecDepth 100000 in
set_option maxHeartbeats 4000000 in
theorem pC22_0 : ∀ q, q < 59 → pX 22 (0 + q) = true := by decide +kernel
theorem pCm22 (pc : Nat) (h : pc < pTop 22) : pX 22 pc = true := by
 replace h : pc < 59 := h
 have q := pC22_0 (pc - 0) (by omega)
 rwa [show 0 + (pc - 0) = pc from by omega] at q
set_option maxRecDepth 100000 in
set_option maxHeartbeats 4000000 in
theorem pC23_0 : ∀ q, q < 75 → pX 23 (0 + q) = true := by decide +kernel
theorem pCm23 (pc : Nat) (h : pc < pTop 23) : pX 23 pc = true := by
 replace h : pc < 75 := h
 have q := pC23_0 (pc - 0) (by omega)
 rwa [show 0 + (pc - 0) = pc from by omega] at q
set_option maxRecDepth 100000 in
set_option maxHeartbeats 4000000 in
theorem pC24_0 : ∀ q, q < 20 → pX 24 (0 + q) = true := by decide +kernel
theorem pCm24 (pc : Nat) (h : pc < pTop 24) : pX 24 pc = true := by
 replace h : pc < 20 := h
 have q := pC24_0 (pc - 0) (by omega)
 rwa [show 0 + (pc - 0) = pc from by omega] at q
set_option maxRecDepth 100000 in
set_option maxHeartbeats 4000000 in
theorem pC25_0 : ∀ q, q < 128 → pX 25 (0 + q) = true := by decide +kernel
set_option maxRecDepth 100000 in
set_option maxHeartbeats 4000000 in
theorem pC25_128 : ∀ q, q < 7 → pX 25 (128 + q) = true := by decide +kernel
theorem pCm25 (pc : Nat) (h : pc < pTop 25) : pX 25 pc = true := by
 replace h : pc < 135 := h
 by_cases h0 : pc < 128
 ·have q := pC25_0 (pc - 0) (by omega)
  rwa [show 0 + (pc - 0) = pc from by omega] at q
 have q := pC25_128 (pc - 128) (by omega)
 rwa [show 128 + (pc - 128) = pc from by omega] at q
set_option maxRecDepth 100000 in
set_option maxHeartbeats 4000000 in
theorem pC26_0 : ∀ q, q < 48 → pX 26 (0 + q) = true := by decide +kernel
theorem pCm26 (pc : Nat) (h : pc < pTop 26) : pX 26 pc = true := by
 replace h : pc < 48 := h
 have q := pC26_0 (pc - 0) (by omega)
 rwa [show 0 + (pc - 0) = pc from by omega] at q
set_option maxRecDepth 100000 in
set_option maxHeartbeats 4000000 in
theorem pC27_0 : ∀ q, q < 26 → pX 27 (0 + q) = true := by decide +kernel
theorem pCm27 (pc : Nat) (h : pc < pTop 27) : pX 27 pc = true := by
 replace h : pc < 26 := h
 have q := pC27_0 (pc - 0) (by omega)
 rwa [show 0 + (pc - 0) = pc from by omega] at q
set_option maxRecDepth 100000 in
set_option maxHeartbeats 4000000 in
theorem pC28_0 : ∀ q, q < 80 → pX 28 (0 + q) = true := by decide +kernel
theorem pCm28 (pc : Nat) (h : pc < pTop 28) : pX 28 pc = true := by
 replace h : pc < 80 := h
 have q := pC28_0 (pc - 0) (by omega)
 rwa [show 0 + (pc - 0) = pc from by omega] at q
set_option maxRecDepth 100000 in
set_option maxHeartbeats 4000000 in
theorem pC29_0 : ∀ q, q < 62 → pX 29 (0 + q) = true := by decide +kernel
theorem pCm29 (pc : Nat) (h : pc < pTop 29) : pX 29 pc = true := by
 replace h : pc < 62 := h
 have q := pC29_0 (pc - 0) (by omega)
 rwa [show 0 + (pc - 0) = pc from by omega] at q
set_option maxRecDepth 100000 in
set_option maxHeartbeats 4000000 in
theorem pC30_0 : ∀ q, q < 72 → pX 30 (0 + q) = true := by decide +kernel
theorem pCm30 (pc : Nat) (h : pc < pTop 30) : pX 30 pc = true := by
 replace h : pc < 72 := h
 have q := pC30_0 (pc - 0) (by omega)
 rwa [show 0 + (pc - 0) = pc from by omega] at q
set_option maxRecDepth 100000 in
set_option maxHeartbeats 4000000 in
theorem pC31_0 : ∀ q, q < 128 → pX 31 (0 + q) = true := by decide +kernel
set_option maxRecDepth 100000 in
set_option maxHeartbeats 4000000 in
theorem pC31_128 : ∀ q, q < 6 → pX 31 (128 + q) = true := by decide +kernel
theorem pCm31 (pc : Nat) (h : pc < pTop 31) : pX 31 pc = true := by
 replace h : pc < 134 := h
 by_cases h0 : pc < 128
 ·have q := pC31_0 (pc - 0) (by omega)
  rwa [show 0 + (pc - 0) = pc from by omega] at q
 have q := pC31_128 (pc - 128) (by omega)
 rwa [show 128 + (pc - 128) = pc from by omega] at q
set_option maxRecDepth 100000 in
set_option maxHeartbeats 4000000 in
theorem pC32_0 : ∀ q, q < 69 → pX 32 (0 + q) = true := by decide +kernel
theorem pCm32 (pc : Nat) (h : pc < pTop 32) : pX 32 pc = true := by
 replace h : pc < 69 := h
 have q := pC32_0 (pc - 0) (by omega)
 rwa [show 0 + (pc - 0) = pc from by omega] at q
set_option maxRecDepth 100000 in
set_option maxHeartbeats 4000000 in
theorem pC33_0 : ∀ q, q < 128 → pX 33 (0 + q) = true := by decide +kernel
set_option maxRecDepth 100000 in
set_option maxHeartbeats 4000000 in
theorem pC33_128 : ∀ q, q < 51 → pX 33 (128 + q) = true := by decide +kernel
theorem pCm33 (pc : Nat) (h : pc < pTop 33) : pX 33 pc = true := by
 replace h : pc < 179 := h
 by_cases h0 : pc < 128
 ·have q := pC33_0 (pc - 0) (by omega)
  rwa [show 0 + (pc - 0) = pc from by omega] at q
 have q := pC33_128 (pc - 128) (by omega)
 rwa [show 128 + (pc - 128) = pc from by omega] at q
set_option maxRecDepth 100000 in
set_option maxHeartbeats 4000000 in
theorem pC34_0 : ∀ q, q < 52 → pX 34 (0 + q) = true := by decide +kernel
theorem pCm34 (pc : Nat) (h : pc < pTop 34) : pX 34 pc = true := by
 replace h : pc < 52 := h
 have q := pC34_0 (pc - 0) (by omega)
 rwa [show 0 + (pc - 0) = pc from by omega] at q
set_option maxRecDepth 100000 in
set_option maxHeartbeats 4000000 in
theorem pC35_0 : ∀ q, q < 40 → pX 35 (0 + q) = true := by decide +kernel
theorem pCm35 (pc : Nat) (h : pc < pTop 35) : pX 35 pc = true := by
 replace h : pc < 40 := h
 have q := pC35_0 (pc - 0) (by omega)
 rwa [show 0 + (pc - 0) = pc from by omega] at q
set_option maxRecDepth 100000 in
set_option maxHeartbeats 4000000 in
theorem pC36_0 : ∀ q, q < 57 → pX 36 (0 + q) = true := by decide +kernel
theorem pCm36 (pc : Nat) (h : pc < pTop 36) : pX 36 pc = true := by
 replace h : pc < 57 := h
 have q := pC36_0 (pc - 0) (by omega)
 rwa [show 0 + (pc - 0) = pc from by omega] at q
set_option maxRecDepth 100000 in
set_option maxHeartbeats 4000000 in
theorem pC37_0 : ∀ q, q < 127 → pX 37 (0 + q) = true := by decide +kernel
theorem pCm37 (pc : Nat) (h : pc < pTop 37) : pX 37 pc = true := by
 replace h : pc < 127 := h
 have q := pC37_0 (pc - 0) (by omega)
 rwa [show 0 + (pc - 0) = pc from by omega] at q
set_option maxRecDepth 100000 in
set_option maxHeartbeats 4000000 in
theorem pC38_0 : ∀ q, q < 9 → pX 38 (0 + q) = true := by decide +kernel
theorem pCm38 (pc : Nat) (h : pc < pTop 38) : pX 38 pc = true := by
 replace h : pc < 9 := h
 have q := pC38_0 (pc - 0) (by omega)
 rwa [show 0 + (pc - 0) = pc from by omega] at q
set_option maxRecDepth 100000 in
set_option maxHeartbeats 4000000 in
theorem pC39_0 : ∀ q, q < 75 → pX 39 (0 + q) = true := by decide +kernel
theorem pCm39 (pc : Nat) (h : pc < pTop 39) : pX 39 pc = true := by
 replace h : pc < 75 := h
 have q := pC39_0 (pc - 0) (by omega)
 rwa [show 0 + (pc - 0) = pc from by omega] at q
set_option maxRecDepth 100000 in
set_option maxHeartbeats 4000000 in
theorem pC40_0 : ∀ q, q < 42 → pX 40 (0 + q) = true := by decide +kernel
theorem pCm40 (pc : Nat) (h : pc < pTop 40) : pX 40 pc = true := by
 replace h : pc < 42 := h
 have q := pC40_0 (pc - 0) (by omega)
 rwa [show 0 + (pc - 0) = pc from by omega] at q
theorem pChk0 : ∀ m, m < pN → ∀ pc, pc < pTop m → (match pCode m pc with | some t => qchk m pc t.1 t.2 | none => true) = true := by
 intro m hm pc hp
 change pX m pc = true
 match m, hm, hp with
 | 0, _, hp => exact pCm0 pc hp
 | 1, _, hp => exact pCm1 pc hp
 | 2, _, hp => exact pCm2 pc hp
 | 3, _, hp => exact pCm3 pc hp
 | 4, _, hp => exact pCm4 pc hp
 | 5, _, hp => exact pCm5 pc hp
 | 6, _, hp => exact pCm6 pc hp
 | 7, _, hp => exact pCm7 pc hp
 | 8, _, hp => exact pCm8 pc hp
 | 9, _, hp => exact pCm9 pc hp
 | 10, _, hp => exact pCm10 pc hp
 | 11, _, hp => exact pCm11 pc hp
 | 12, _, hp => exact pCm12 pc hp
 | 13, _, hp => exact pCm13 pc hp
 | 14, _, hp => exact pCm14 pc hp
 | 15, _, hp => exact pCm15 pc hp
 | 16, _, hp => exact pCm16 pc hp
 | 17, _, hp => exact pCm17 pc hp
 | 18, _, hp => exact pCm18 pc hp
 | 19, _, hp => exact pCm19 pc hp
 | 20, _, hp => exact pCm20 pc hp
 | 21, _, hp => exact pCm21 pc hp
 | 22, _, hp => exact pCm22 pc hp
 | 23, _, hp => exact pCm23 pc hp
 | 24, _, hp => exact pCm24 pc hp
 | 25, _, hp => exact pCm25 pc hp
 | 26, _, hp => exact pCm26 pc hp
 | 27, _, hp => exact pCm27 pc hp
 | 28, _, hp => exact pCm28 pc hp
 | 29, _, hp => exact pCm29 pc hp
 | 30, _, hp => exact pCm30 pc hp
 | 31, _, hp => exact pCm31 pc hp
 | 32, _, hp => exact pCm32 pc hp
 | 33, _, hp => exact pCm33 pc hp
 | 34, _, hp => exact pCm34 pc hp
 | 35, _, hp => exact pCm35 pc hp
 | 36, _, hp => exact pCm36 pc hp
 | 37, _, hp => exact pCm37 pc hp
 | 38, _, hp => exact pCm38 pc hp
 | 39, _, hp => exact pCm39 pc hp
 | 40, _, hp => exact pCm40 pc hp
 | m + 41, hm, _ => exact absurd hm (by unfold pN; omega)
theorem pIn {m pc : Nat} {t : Instr × Nat} (h : pCode m pc = some t) : m < pN ∧ pc < pTop m := by
 unfold pCode at h
 cases h1 : Nat.ble pN m with
 | true => rw [h1] at h; cases h
 | false =>
  cases h2 : Nat.ble (pTop m) pc with
  | true => rw [h1, h2] at h; cases h
  | false => exact ⟨Nat.lt_of_not_le (fun q => by rw [Nat.ble_eq_true_of_le q] at h1; cases h1), Nat.lt_of_not_le (fun q => by rw [Nat.ble_eq_true_of_le q] at h2; cases h2)⟩
theorem pChk {m pc : Nat} {i : Instr} {aux : Nat} (h : pCode m pc = some (i, aux)) : qchk m pc i aux = true := by
 have q := pChk0 m (pIn h).1 pc (pIn h).2
 rw [h] at q
 exact q
theorem pDec {m pc : Nat} {i : Instr} {aux : Nat} (h : pCode m pc = some (i, aux)) : decode (pBytes m) pc = .ok (i, ilen i) := by
 have q := pChk h
 unfold qchk at q
 exact of_decide_eq_true (Bool.and_eq_true_iff.mp q).1
theorem pDecN {m pc n : Nat} {i : Instr} {aux : Nat} (h : pCode m pc = some (i, aux)) (hn : ilen i = n) : decode (pBytes m) pc = .ok (i, n) := by
 rw [← hn]; exact pDec h
theorem pRest {m pc : Nat} {i : Instr} {aux : Nat} (h : pCode m pc = some (i, aux)) : qlk m pc i aux = true := by
 have q := pChk h
 unfold qchk at q
 exact (Bool.and_eq_true_iff.mp q).2
theorem qtgt_spec {pc : Nat} {o : Int} {aux : Nat} (h : qtgt pc o aux = true) : 0 ≤ (pc : Int) + o ∧ ((pc : Int) + o).toNat = aux := by
 unfold qtgt at h
 have h2 := Bool.and_eq_true_iff.mp h
 exact ⟨of_decide_eq_true h2.1, of_decide_eq_true h2.2⟩
def QCx (Z : State) (p : Program) (R : Room) (s : State) (mid : MethodId) (meth : Method) (c : Code) (m : Nat) : Prop :=
 p.tables.exec = Jvm.exec ∧ Z.Warmed39 s.vm ∧ c.code = pBytes m ∧ c.maxLocals = pMaxL m ∧ meth.sig.returnType = pRet m ∧ s.vm.findClass (kName (pK m)) = some mid.cls ∧ meth.name = pNm m ∧ pFr m ≤ R.frames ∧ pLo m ≤ R.locals
def QTri (l : Launch) (Z : State) (n0 : Nat) (ad : Nat → Addr) (m : Nat) (st : QSt) (v : Option Value) (σ' : QHeap) : Prop :=
 st.2.2.2.length ≤ σ'.length ∧ qhs st.2.2.2 ≤ qhs σ' ∧
 ∀ (p : Program) (e : Env) (R : Room) (s : State) (mid : MethodId) (args : Array Value) (below : List Frame) (meth : Method) (c : Code) (T : State) (locs : List Loc) (cells slots : Nat) (C : Array Slot),
  QCx Z p R s mid meth c m → Stand p l e R s mid args below meth c T locs cells slots → QRep Z n0 ad T.heap st.2.2.2 → Fr n0 locs → QLocOk ad st.2.1 C → C.size = c.maxLocals →
  n0 + (st.2.2.2.length - k0) = s.heap.size + cells → cells + (σ'.length - st.2.2.2.length) ≤ R.cells → slots + (qhs σ' - qhs st.2.2.2) ≤ R.slots →
  ∃ T' locs', Stand p l e R s mid args below meth c T' locs' (cells + (σ'.length - st.2.2.2.length)) (slots + (qhs σ' - qhs st.2.2.2)) ∧ QRep Z n0 ad T'.heap σ' ∧ Fr n0 locs' ∧
   ∀ fs, (∀ (f : JFrame) (acts : List Action), f.method = mid → f.locked = none → f.entered = [] → (doReturn e (T'.setTop f) acts (v.map (qv ad))).1 = T'.setFrames fs) →
    Steps p.tables e below (T.setTop (mkF mid st.1 C (st.2.2.1.map (qv ad)))) (T'.setFrames fs)
section Triples
variable {l : Launch} {Z : State} {n0 : Nat} {ad : Nat → Addr} {a0 : Array Value} {m : Nat} {v : Option Value} {σ' : QHeap}
theorem QTri.gen {st st' : QSt} (h : QTri l Z n0 ad m st' v σ') (g1 : st.2.2.2.length ≤ st'.2.2.2.length) (g2 : qhs st.2.2.2 ≤ qhs st'.2.2.2)
  (hs : ∀ (p : Program) (e : Env) (R : Room) (s : State) (mid : MethodId) (args : Array Value) (below : List Frame) (meth : Method) (c : Code) (T : State) (locs : List Loc) (cells slots : Nat) (C : Array Slot),
   QCx Z p R s mid meth c m → Stand p l e R s mid args below meth c T locs cells slots → QRep Z n0 ad T.heap st.2.2.2 → Fr n0 locs → QLocOk ad st.2.1 C → C.size = c.maxLocals →
   n0 + (st.2.2.2.length - k0) = s.heap.size + cells → cells + (st'.2.2.2.length - st.2.2.2.length) ≤ R.cells → slots + (qhs st'.2.2.2 - qhs st.2.2.2) ≤ R.slots →
   ∃ T₁ locs₁ C₁, Stand p l e R s mid args below meth c T₁ locs₁ (cells + (st'.2.2.2.length - st.2.2.2.length)) (slots + (qhs st'.2.2.2 - qhs st.2.2.2)) ∧ QRep Z n0 ad T₁.heap st'.2.2.2 ∧ Fr n0 locs₁ ∧ QLocOk ad st'.2.1 C₁ ∧ C₁.size = c.maxLocals ∧
    ∀ target, Steps p.tables e below (T₁.setTop (mkF mid st'.1 C₁ (st'.2.2.1.map (qv ad)))) target → Steps p.tables e below (T.setTop (mkF mid st.1 C (st.2.2.1.map (qv ad)))) target) :
  QTri l Z n0 ad m st v σ' := by
 obtain ⟨h1, h2, h3⟩ := h
 refine ⟨Nat.le_trans g1 h1, Nat.le_trans g2 h2, fun p e R s mid args below meth c T locs cells slots C hcx X hR hF hL hC hn hc hsl => ?_⟩
 obtain ⟨T₁, locs₁, C₁, X₁, R₁, F₁, L₁, C1, S₁⟩ := hs p e R s mid args below meth c T locs cells slots C hcx X hR hF hL hC hn (by omega) (by omega)
 have hk := hR.1.1
 obtain ⟨T', locs', X', R', F', S'⟩ := h3 p e R s mid args below meth c T₁ locs₁ _ _ C₁ hcx X₁ R₁ F₁ L₁ C1 (by omega) (by omega) (by omega)
 have e1 : cells + (st'.2.2.2.length - st.2.2.2.length) + (σ'.length - st'.2.2.2.length) = cells + (σ'.length - st.2.2.2.length) := by omega
 have e2 : slots + (qhs st'.2.2.2 - qhs st.2.2.2) + (qhs σ' - qhs st'.2.2.2) = slots + (qhs σ' - qhs st.2.2.2) := by omega
 rw [e1, e2] at X'
 exact ⟨T', locs', X', R', F', fun fs hf => S₁ _ (S' fs hf)⟩
theorem QTri.pure {st st' : QSt} (h : QTri l Z n0 ad m st' v σ') (hσ : st'.2.2.2 = st.2.2.2)
  (hs : ∀ (p : Program) (e : Env) (R : Room) (s : State) (mid : MethodId) (args : Array Value) (below : List Frame) (meth : Method) (c : Code) (T : State) (locs : List Loc) (cells slots : Nat) (C : Array Slot),
   QCx Z p R s mid meth c m → Stand p l e R s mid args below meth c T locs cells slots → QRep Z n0 ad T.heap st.2.2.2 → QLocOk ad st.2.1 C → C.size = c.maxLocals →
   ∃ T₁ C₁, Stand p l e R s mid args below meth c T₁ locs cells slots ∧ T₁.heap = T.heap ∧ QLocOk ad st'.2.1 C₁ ∧ C₁.size = c.maxLocals ∧
    ∀ target, Steps p.tables e below (T₁.setTop (mkF mid st'.1 C₁ (st'.2.2.1.map (qv ad)))) target → Steps p.tables e below (T.setTop (mkF mid st.1 C (st.2.2.1.map (qv ad)))) target) :
  QTri l Z n0 ad m st v σ' := by
 refine QTri.gen h (by rw [hσ]; exact Nat.le_refl _) (by rw [hσ]; exact Nat.le_refl _) fun p e R s mid args below meth c T locs cells slots C hcx X hR hF hL hC hn hc hsl => ?_
 obtain ⟨T₁, C₁, X₁, hh, L₁, C1, S₁⟩ := hs p e R s mid args below meth c T locs cells slots C hcx X hR hL hC
 refine ⟨T₁, locs, C₁, ?_, by rw [hσ, hh]; exact hR, hF, L₁, C1, S₁⟩
 rw [hσ, Nat.sub_self, Nat.sub_self]
 exact X₁
theorem QTri.frame {pc pc' : Nat} {L L' : QLoc} {S S' : List Value} {σ : QHeap} (h : QTri l Z n0 ad m (pc', L', S', σ) v σ')
  (hs : ∀ (p : Program) (e : Env) (R : Room) (s : State) (mid : MethodId) (args : Array Value) (below : List Frame) (meth : Method) (c : Code) (T : State) (locs : List Loc) (cells slots : Nat) (C : Array Slot),
   QCx Z p R s mid meth c m → Stand p l e R s mid args below meth c T locs cells slots → QRep Z n0 ad T.heap σ → QLocOk ad L C → C.size = c.maxLocals →
   ∃ C₁, QLocOk ad L' C₁ ∧ C₁.size = c.maxLocals ∧ ∀ target, Steps p.tables e below (T.setTop (mkF mid pc' C₁ (S'.map (qv ad)))) target → Steps p.tables e below (T.setTop (mkF mid pc C (S.map (qv ad)))) target) :
  QTri l Z n0 ad m (pc, L, S, σ) v σ' :=
 QTri.pure h rfl fun p e R s mid args below meth c T locs cells slots C hcx X hR hL hC => by
  obtain ⟨C₁, h1, h2, h3⟩ := hs p e R s mid args below meth c T locs cells slots C hcx X hR hL hC
  exact ⟨T, C₁, X, rfl, h1, h2, h3⟩
theorem QTri.stack {pc pc' : Nat} {L : QLoc} {S S' : List Value} {σ : QHeap} (h : QTri l Z n0 ad m (pc', L, S', σ) v σ')
  (hs : ∀ (p : Program) (e : Env) (R : Room) (s : State) (mid : MethodId) (args : Array Value) (below : List Frame) (meth : Method) (c : Code) (T : State) (locs : List Loc) (cells slots : Nat) (C : Array Slot) (target : State),
   p.tables.exec = Jvm.exec → Z.Warmed39 s.vm → c.code = pBytes m → s.vm.findClass (kName (pK m)) = some mid.cls → Stand p l e R s mid args below meth c T locs cells slots → QRep Z n0 ad T.heap σ → QLocOk ad L C →
   Steps p.tables e below (T.setTop (mkF mid pc' C (S'.map (qv ad)))) target → Steps p.tables e below (T.setTop (mkF mid pc C (S.map (qv ad)))) target) :
  QTri l Z n0 ad m (pc, L, S, σ) v σ' :=
 QTri.frame h fun p e R s mid args below meth c T locs cells slots C hcx X hR hL hC => ⟨C, hL, hC, fun target k => hs p e R s mid args below meth c T locs cells slots C target hcx.1 hcx.2.1 hcx.2.2.1 hcx.2.2.2.2.2.1 X hR hL k⟩
theorem qload_inv {pc : Nat} {L : QLoc} {S : List Value} {σ : QHeap} {k : Nat} {ok : Value → Bool} {st' : QSt} (h : qload pc L S σ k ok = some st') : ∃ v, lget L k = some v ∧ ok v = true ∧ st' = (pc, L, v :: S, σ) := by
 unfold qload at h
 split at h
 ·rename_i v hv
  cases ho : ok v with
  | true => rw [ho] at h; cases h; exact ⟨v, hv, ho, rfl⟩
  | false => rw [ho] at h; cases h
 ·cases h
theorem qstore_inv {pc : Nat} {L : QLoc} {S : List Value} {σ : QHeap} {k : Nat} {ok : Value → Bool} {st' : QSt} (h : qstore pc L S σ k ok = some st') : ∃ v S' L', S = v :: S' ∧ ok v = true ∧ lput L k v = some L' ∧ st' = (pc, L', S', σ) := by
 unfold qstore at h
 split at h
 ·rename_i v S'
  cases ho : ok v with
  | true =>
   rw [ho] at h
   simp only [cond_true] at h
   split at h
   ·rename_i L' hL'
    cases h; exact ⟨v, S', L', rfl, ho, hL', rfl⟩
   ·cases h
  | false => rw [ho] at h; cases h
 ·cases h
theorem qbin_inv {pc : Nat} {L : QLoc} {S : List Value} {σ : QHeap} {f : Int32 → Int32 → Int32} {st' : QSt} (h : qbin pc L S σ f = some st') : ∃ x y S', S = .int y :: .int x :: S' ∧ st' = (pc, L, .int (f x y) :: S', σ) := by
 unfold qbin at h
 split at h
 ·cases h; exact ⟨_, _, _, rfl, rfl⟩
 ·cases h
theorem qbino_inv {pc : Nat} {L : QLoc} {S : List Value} {σ : QHeap} {f : Int32 → Int32 → Option Int32} {st' : QSt} (h : qbino pc L S σ f = some st') : ∃ x y z S', S = .int y :: .int x :: S' ∧ f x y = some z ∧ st' = (pc, L, .int z :: S', σ) := by
 unfold qbino at h
 split at h
 ·obtain ⟨z, hz, h⟩ := Option.bind_eq_some_iff.mp h
  cases h; exact ⟨_, _, _, _, rfl, hz, rfl⟩
 ·cases h
theorem qbinJ_inv {pc : Nat} {L : QLoc} {S : List Value} {σ : QHeap} {f : Int64 → Int64 → Int64} {st' : QSt} (h : qbinJ pc L S σ f = some st') : ∃ x y S', S = .long y :: .long x :: S' ∧ st' = (pc, L, .long (f x y) :: S', σ) := by
 unfold qbinJ at h
 split at h
 ·cases h; exact ⟨_, _, _, rfl, rfl⟩
 ·cases h
theorem qshJ_inv {pc : Nat} {L : QLoc} {S : List Value} {σ : QHeap} {f : Int64 → Int32 → Int64} {st' : QSt} (h : qshJ pc L S σ f = some st') : ∃ x y S', S = .int y :: .long x :: S' ∧ st' = (pc, L, .long (f x y) :: S', σ) := by
 unfold qshJ at h
 split at h
 ·cases h; exact ⟨_, _, _, rfl, rfl⟩
 ·cases h
theorem quni_inv {pc : Nat} {L : QLoc} {S : List Value} {σ : QHeap} {f : Int32 → Value} {st' : QSt} (h : quni pc L S σ f = some st') : ∃ x S', S = .int x :: S' ∧ st' = (pc, L, f x :: S', σ) := by
 unfold quni at h
 split at h
 ·cases h; exact ⟨_, _, rfl, rfl⟩
 ·cases h
theorem quniJ_inv {pc : Nat} {L : QLoc} {S : List Value} {σ : QHeap} {f : Int64 → Value} {st' : QSt} (h : quniJ pc L S σ f = some st') : ∃ x S', S = .long x :: S' ∧ st' = (pc, L, f x :: S', σ) := by
 unfold quniJ at h
 split at h
 ·cases h; exact ⟨_, _, rfl, rfl⟩
 ·cases h
theorem qif_inv {pc : Nat} {L : QLoc} {S : List Value} {σ : QHeap} {cd : ClassFile.Cond} {t : Nat} {st' : QSt} (h : qif pc L S σ cd t = some st') : ∃ x S', S = .int x :: S' ∧ st' = (bif ifCond.holds cd x then t else pc, L, S', σ) := by
 unfold qif at h
 split at h
 ·cases h; exact ⟨_, _, rfl, rfl⟩
 ·cases h
theorem qicmp_inv {pc : Nat} {L : QLoc} {S : List Value} {σ : QHeap} {cd : ClassFile.Cond} {t : Nat} {st' : QSt} (h : qicmp pc L S σ cd t = some st') : ∃ x y S', S = .int y :: .int x :: S' ∧ st' = (bif if_icmp.holds cd x y then t else pc, L, S', σ) := by
 unfold qicmp at h
 split at h
 ·cases h; exact ⟨_, _, _, rfl, rfl⟩
 ·cases h
theorem qget_inv {pc : Nat} {L : QLoc} {S : List Value} {σ : QHeap} {k : Nat} {st' : QSt} (h : qget pc L S σ k = some st') : ∃ a S' vs v, S = .ref a :: S' ∧ hget σ a = some (.inl vs) ∧ vget vs k = some v ∧ st' = (pc, L, v :: S', σ) := by
 unfold qget at h
 split at h
 ·split at h
  ·split at h
   ·cases h; exact ⟨_, _, _, _, rfl, by assumption, by assumption, rfl⟩
   ·cases h
  ·cases h
 ·cases h
theorem qput_inv {pc : Nat} {L : QLoc} {S : List Value} {σ : QHeap} {k : Nat} {st' : QSt} (h : qput pc L S σ k = some st') : ∃ v a S' vs w, S = v :: .ref a :: S' ∧ hget σ a = some (.inl vs) ∧ k0 ≤ a ∧ k < vs.length ∧ qfit (fTy k) v = some w ∧ st' = (pc, L, S', σ.set a (.inl (vs.set k w))) := by
 unfold qput at h
 split at h
 ·rename_i v a S'
  split at h
  ·rename_i vs hvs
   cases hbb : (Nat.ble k0 a && Nat.ble (k + 1) vs.length) with
   | false => rw [hbb] at h; cases h
   | true =>
    rw [hbb] at h
    simp only [cond_true] at h
    obtain ⟨u, hu, h⟩ := Option.bind_eq_some_iff.mp h
    cases h
    obtain ⟨b1, b2⟩ := Bool.and_eq_true_iff.mp hbb
    exact ⟨v, a, S', vs, u, rfl, hvs, Nat.le_of_ble_eq_true b1, Nat.le_of_ble_eq_true b2, hu, rfl⟩
  ·cases h
 ·cases h
theorem qald_inv {pc : Nat} {L : QLoc} {S : List Value} {σ : QHeap} {ok : FieldType → Bool} {st' : QSt} (h : qald pc L S σ ok = some st') : ∃ j a S' ty xs v, S = .int j :: .ref a :: S' ∧ hget σ a = some (.inr (.inl (ty, xs))) ∧ ok ty = true ∧ aget xs j = some v ∧ st' = (pc, L, .int v :: S', σ) := by
 unfold qald at h
 split at h
 ·rename_i j a S'
  split at h
  ·rename_i x hx
   cases ht : ok x.1 with
   | false => rw [ht] at h; cases h
   | true =>
    rw [ht] at h
    simp only [cond_true] at h
    obtain ⟨u, hu, h⟩ := Option.bind_eq_some_iff.mp h
    cases h
    exact ⟨j, a, S', x.1, x.2, u, rfl, hx, ht, hu, rfl⟩
  ·cases h
 ·cases h
theorem qaldJ_inv {pc : Nat} {L : QLoc} {S : List Value} {σ : QHeap} {st' : QSt} (h : qaldJ pc L S σ = some st') : ∃ j a S' xs v, S = .int j :: .ref a :: S' ∧ hget σ a = some (.inr (.inr xs)) ∧ aget xs j = some v ∧ st' = (pc, L, .long v :: S', σ) := by
 unfold qaldJ at h
 split at h
 ·rename_i j a S'
  split at h
  ·rename_i x hx
   obtain ⟨u, hu, h⟩ := Option.bind_eq_some_iff.mp h
   cases h
   exact ⟨j, a, S', x, u, rfl, hx, hu, rfl⟩
  ·cases h
 ·cases h
theorem qast_inv {pc : Nat} {L : QLoc} {S : List Value} {σ : QHeap} {ok : FieldType → Bool} {st' : QSt} (h : qast pc L S σ ok = some st') : ∃ v j a S' ty xs ys, S = .int v :: .int j :: .ref a :: S' ∧ hget σ a = some (.inr (.inl (ty, xs))) ∧ ok ty = true ∧ k0 ≤ a ∧ aset xs j (qnar ty v) = some ys ∧ st' = (pc, L, S', σ.set a (.inr (.inl (ty, ys)))) := by
 unfold qast at h
 split at h
 ·rename_i v j a S'
  split at h
  ·rename_i x hx
   cases ht : (ok x.1 && Nat.ble k0 a) with
   | false => rw [ht] at h; cases h
   | true =>
    rw [ht] at h
    simp only [cond_true] at h
    obtain ⟨u, hu, h⟩ := Option.bind_eq_some_iff.mp h
    cases h
    obtain ⟨b1, b2⟩ := Bool.and_eq_true_iff.mp ht
    exact ⟨v, j, a, S', x.1, x.2, u, rfl, hx, b1, Nat.le_of_ble_eq_true b2, hu, rfl⟩
  ·cases h
 ·cases h
theorem qastJ_inv {pc : Nat} {L : QLoc} {S : List Value} {σ : QHeap} {st' : QSt} (h : qastJ pc L S σ = some st') : ∃ v j a S' xs ys, S = .long v :: .int j :: .ref a :: S' ∧ hget σ a = some (.inr (.inr xs)) ∧ k0 ≤ a ∧ aset xs j v = some ys ∧ st' = (pc, L, S', σ.set a (.inr (.inr ys))) := by
 unfold qastJ at h
 split at h
 ·rename_i v j a S'
  split at h
  ·rename_i x hx
   cases ht : (Nat.ble k0 a) with
   | false => rw [ht] at h; cases h
   | true =>
    rw [ht] at h
    simp only [cond_true] at h
    obtain ⟨u, hu, h⟩ := Option.bind_eq_some_iff.mp h
    cases h
    exact ⟨v, j, a, S', x, u, rfl, hx, Nat.le_of_ble_eq_true ht, hu, rfl⟩
  ·cases h
 ·cases h
theorem qlen_inv {pc : Nat} {L : QLoc} {S : List Value} {σ : QHeap} {st' : QSt} (h : qlen pc L S σ = some st') : ∃ a S' n, S = .ref a :: S' ∧ ((∃ ty xs, hget σ a = some (.inr (.inl (ty, xs))) ∧ n = xs.length) ∨ ∃ xs, hget σ a = some (.inr (.inr xs)) ∧ n = xs.length) ∧ st' = (pc, L, .int n.toInt32 :: S', σ) := by
 unfold qlen at h
 split at h
 ·rename_i a S'
  split at h
  ·rename_i x hx
   cases h; exact ⟨a, S', _, rfl, Or.inl ⟨x.1, x.2, hx, rfl⟩, rfl⟩
  ·rename_i x hx
   cases h; exact ⟨a, S', _, rfl, Or.inr ⟨x, hx, rfl⟩, rfl⟩
  ·cases h
 ·cases h
theorem isI_inv {v : Value} (h : isI v = true) : ∃ x, v = .int x := by cases v <;> simp [isI] at h; exact ⟨_, rfl⟩
theorem isJ_inv {v : Value} (h : isJ v = true) : ∃ x, v = .long x := by cases v <;> simp [isJ] at h; exact ⟨_, rfl⟩
theorem isR_inv {v : Value} (h : isR v = true) : ∃ x, v = .ref x := by cases v <;> simp [isR] at h; exact ⟨_, rfl⟩
theorem aget_inv {α : Type} {xs : List α} {j : Int32} {x : α} (h : aget xs j = some x) : ¬ j < 0 ∧ xs[j.toNatClampNeg]? = some x := by
 unfold aget at h
 split at h
 ·cases h
 ·rename_i q; exact ⟨q, h⟩
theorem aset_inv {α : Type} {xs ys : List α} {j : Int32} {x : α} (h : aset xs j x = some ys) : ¬ j < 0 ∧ j.toNatClampNeg < xs.length ∧ ys = xs.set j.toNatClampNeg x := by
 unfold aset at h
 split at h
 ·cases h
 ·rename_i q
  split at h
  ·rename_i q2; cases h; exact ⟨q, q2, rfl⟩
  ·cases h
theorem qnew_inv {n : Int32} {k : Nat} (h : qnew n = some k) : ¬ n < 0 ∧ n.toNatClampNeg = k ∧ k ≤ 67108864 := by
 unfold qnew at h
 split at h
 ·cases h
 ·rename_i q
  split at h
  ·rename_i q2; cases h; exact ⟨q, rfl, q2⟩
  ·cases h
theorem QCellOk.other {h h' : Heap} {a b : Addr} {sl : Nat} {w : Value} {c : QCell} (H : QCellOk Z ad h b c) (W : Wr h h' a sl w) (ne : b ≠ a) : QCellOk Z ad h' b c := by
 rcases c with vs | ⟨ty, xs⟩ | xs
 ·obtain ⟨h1, h2, h3⟩ := H
  exact ⟨h1.wr W, h2, fun k u hk hu => (h3 k u hk hu).other W (Or.inl ne)⟩
 ·obtain ⟨c, h1, h2⟩ := H
  exact ⟨c, h1.other W ne, h2⟩
 ·obtain ⟨c, h1, h2⟩ := H
  exact ⟨c, h1.other W ne, h2⟩
theorem QCellOk.ext {h h' : Heap} {b : Addr} {c : QCell} (H : QCellOk Z ad h b c) (E : Ext h h') : QCellOk Z ad h' b c := by
 rcases c with vs | ⟨ty, xs⟩ | xs
 ·obtain ⟨h1, h2, h3⟩ := H
  exact ⟨h1.ext E, h2, fun k u hk hu => (h3 k u hk hu).ext E⟩
 ·obtain ⟨c, h1, h2⟩ := H
  exact ⟨c, h1.ext E, h2⟩
 ·obtain ⟨c, h1, h2⟩ := H
  exact ⟨c, h1.ext E, h2⟩
theorem QRep.set {h h' : Heap} {σ : QHeap} {a : Nat} {sl : Nat} {w : Value} {c d : QCell} (H : QRep Z n0 ad h σ) (Ad : QAd n0 ad) (W : Wr h h' (ad a) sl w) (hc : hget σ a = some c) (hd : QCellOk Z ad h' (ad a) d) : QRep Z n0 ad h' (σ.set a d) := by
 obtain ⟨h1, h2, h3⟩ := H
 refine ⟨by rw [List.length_set]; exact h1, by rw [W.size, h2]; simp, fun k e he => ?_⟩
 rw [hget_set hc] at he
 split at he
 ·rename_i q; cases he; rw [q]; exact hd
 ·rename_i q; exact (h3 k e he).other W fun z => q (Ad.2 _ _ z)
theorem QRep.push {h h' : Heap} {σ : QHeap} {c : QCell} (H : QRep Z n0 ad h σ) (Ad : QAd n0 ad) (E : Ext h h') (hs : h'.size = h.size + 1) (hc : QCellOk Z ad h' h.size c) : QRep Z n0 ad h' (σ ++ [c]) := by
 obtain ⟨h1, h2, h3⟩ := H
 have h11 := h1.1
 refine ⟨⟨by simp; omega, fun k hk => h1.2 k (by simp at hk; omega)⟩, by rw [hs, h2]; simp; omega, fun k e he => ?_⟩
 rw [hget_eq] at he
 rcases Nat.lt_or_ge k σ.length with q | q
 ·rw [List.getElem?_append_left q, ← hget_eq] at he
  exact (h3 k e he).ext E
 ·rw [List.getElem?_append_right q] at he
  obtain rfl : k = σ.length := by
   rcases Nat.lt_or_ge (k - σ.length) 1 with z | z
   ·omega
   ·rw [List.getElem?_eq_none (by simpa using z)] at he; cases he
  simp at he
  rw [← he, h1.2 _ (Nat.le_refl _), ← h2]
  exact hc
theorem mem_of_contains {α : Type} [BEq α] [LawfulBEq α] {L : List α} {a : α} (h : L.contains a = true) : a ∈ L := by simpa using h
theorem lkF_lt : ∀ t ∈ lkF, t.2.2 < nF := by decide +kernel
theorem laid_of (W : QW Z a0) {k : Nat} (hk : k < nF) : Laid Z a0 cName cName (fNm k) (fDs k) := by
 have q := (qw_lay W) k hk
 cases hf : fFin k with
 | true => rw [hf] at q; exact Or.inr q
 | false => rw [hf] at q; exact Or.inl q
theorem qfit_inv {ty : FieldType} {v w : Value} (h : qfit ty v = some w) : v = w ∧ narrow ty (qv ad w) = qv ad w ∧ fits ty (qv ad w) = true := by
 unfold qfit at h
 split at h
 ·cases h; exact ⟨rfl, rfl, rfl⟩
 ·rename_i x
  obtain ⟨y, hy, h⟩ := Option.bind_eq_some_iff.mp h
  cases h
  unfold qboo at hy
  split at hy
  ·rename_i e; cases hy; subst e; exact ⟨rfl, rfl, rfl⟩
  ·split at hy
   ·rename_i e; cases hy; subst e; exact ⟨rfl, rfl, rfl⟩
   ·cases hy
 ·cases h; exact ⟨rfl, rfl, rfl⟩
 ·cases h; exact ⟨rfl, rfl, rfl⟩
 ·cases h
theorem vget_set {vs : List Value} {k j : Nat} {w : Value} (hk : k < vs.length) : vget (vs.set k w) j = if j = k then some w else vget vs j := by
 simp only [vget_eq, List.getElem?_set]
 by_cases e : k = j
 ·subst e; simp [hk]
 ·simp [e, Ne.symm e]
theorem ald_in {α : Type} {f : α → Value} {xs : List α} {c : Cell} {j : Int32} {x : α} (hc : c.slots = (xs.map f).toArray) (h : aget xs j = some x) : ¬ (j < 0 ∨ c.slots.size ≤ j.toNatClampNeg) ∧ c.slots[j.toNatClampNeg]? = some (f x) := by
 obtain ⟨h1, h2⟩ := aget_inv h
 have h3 := (List.getElem?_eq_some_iff.mp h2).1
 refine ⟨fun q => ?_, by rw [hc]; simp [h2]⟩
 rcases q with q | q
 ·exact h1 q
 ·rw [hc] at q; simp at q; omega
theorem ast_in {α : Type} {f : α → Value} {xs ys : List α} {c : Cell} {j : Int32} {x : α} (hc : c.slots = (xs.map f).toArray) (h : aset xs j x = some ys) : ¬ (j < 0 ∨ c.slots.size ≤ j.toNatClampNeg) ∧ (c.setSlot j.toNatClampNeg (f x)).slots = (ys.map f).toArray := by
 obtain ⟨h1, h2, rfl⟩ := aset_inv h
 refine ⟨fun q => ?_, by simp [Cell.setSlot, hc, List.map_set]⟩
 rcases q with q | q
 ·exact h1 q
 ·rw [hc] at q; simp at q; omega
theorem qgrow {σ : QHeap} {c : QCell} : qhs (σ ++ [c]) - qhs σ = qsz c := by rw [qhs_app]; simp [qhs]
set_option maxHeartbeats 4000000 in
theorem QTri.newArr (Ad : QAd n0 ad) (W : QW Z a0) {pc aux : Nat} {L : QLoc} {S : List Value} {σ : QHeap} {aty : ArrayType} {n : Int32} {k : Nat} {c : QCell} (hk : qnew n = some k) (hc : pCode m pc = some (.newarray aty, aux)) (hz : qsz c = k)
  (hq : ∀ (h' : Heap) (a : Addr) (cA : ClassId), Arr Z h' a (newA cA (newarray.typeOf aty) n) (newarray.typeOf aty) → QCellOk Z ad h' a c)
  (h : QTri l Z n0 ad m (pc + 2, L, .ref σ.length :: S, σ ++ [c]) v σ') : QTri l Z n0 ad m (pc, L, .int n :: S, σ) v σ' := by
 have hd : decode (pBytes m) pc = .ok (.newarray aty, 2) := pDecN hc rfl
 obtain ⟨n1, n2, n3⟩ := qnew_inv hk
 refine QTri.gen h (by simp) (by simp [qhs_app]) fun p e R s mid args below meth c' T locs cells slots C hcx X hR hF hL hC hn hc1 hsl => ?_
 obtain ⟨hx, hZ, hby, hml, hret, hown, hnm, hfr, hlo⟩ := hcx
 have hd2 : decode c'.code pc = .ok (.newarray aty, 2) := by rw [hby]; exact hd
 simp only [List.length_append, List.length_singleton, Nat.add_sub_cancel_left, qgrow, hz] at hc1 hsl ⊢
 obtain ⟨T₁, h₁, cA, X₁, e₁, E₁, A₁, st⟩ := newP X hx hZ (aty := aty) (qw_arr W (newarray.typeOf aty) (mem_of_contains (show aTys.contains (newarray.typeOf aty) = true from pRest hc))) rfl (g := mkF mid pc C (.int n :: S.map (qv ad))) rfl hd2 rfl n1 (cap := k) (by omega) (by omega) hc1 hsl
 have hsz : h₁.size = T.heap.size + 1 := by
  have q1 := X₁.heapSize
  have q2 : T.heap.size < h₁.size := A₁.lt
  have q3 := hR.2.1
  rw [e₁] at q1
  have : n0 + (σ.length - k0) = s.heap.size + cells := hn
  have q3' : T.heap.size = n0 + (σ.length - k0) := q3
  omega
 refine ⟨T₁, locs, C, X₁, ?_, hF, hL, hC, fun target q => ?_⟩
 ·rw [e₁]; exact QRep.push hR Ad E₁ hsz (hq _ _ _ A₁)
 ·refine st _ ?_
  have e2 : ad σ.length = T.heap.size := by rw [hR.1.2 _ (Nat.le_refl _)]; exact hR.2.1.symm
  simp only [List.map_cons, qv, e2] at q
  exact q
set_option maxHeartbeats 4000000 in
theorem QTri.getfield (W : QW Z a0) {pc idx aux : Nat} {L : QLoc} {S : List Value} {σ : QHeap} {st' : QSt} (h : QTri l Z n0 ad m st' v σ') (hc : pCode m pc = some (.getfield idx, aux)) (hs : qget (pc + 3) L S σ aux = some st') : QTri l Z n0 ad m (pc, L, S, σ) v σ' := by
 have hd : decode (pBytes m) pc = .ok (.getfield idx, 3) := pDecN hc rfl
 obtain ⟨a, S', vs, w, rfl, hvs, hw, rfl⟩ := qget_inv hs
 have hm := mem_of_contains (show lkF.contains (pK m, idx, aux) = true from pRest hc)
 have hlt := lkF_lt _ hm
 refine QTri.pure h rfl fun p e R s mid args below meth c T locs cells slots C hcx X hR hL hC => ?_
 obtain ⟨hx, hZ, hby, hml, hret, hown, hnm, hfr, hlo⟩ := hcx
 have hd2 : decode c.code pc = .ok (.getfield idx, 3) := by rw [hby]; exact hd
 have F := (hR.2.2 _ _ hvs).2.2 aux w hlt hw
 obtain ⟨T₁, X₁, e₁, st⟩ := getF X hx hZ hown (host := "") (index := idx) (Or.inl (qw_fl W (pK m, idx, aux) hm)) Via.refl rfl F (g := mkF mid pc C (List.map (qv ad) (.ref a :: S'))) rfl rfl hd2
 exact ⟨T₁, C, X₁, e₁, hL, hC, st⟩
set_option maxHeartbeats 4000000 in
theorem QTri.putfield (Ad : QAd n0 ad) (W : QW Z a0) {pc idx aux : Nat} {L : QLoc} {S : List Value} {σ : QHeap} {st' : QSt} (h : QTri l Z n0 ad m st' v σ') (hc : pCode m pc = some (.putfield idx, aux)) (hs : qput (pc + 3) L S σ aux = some st') : QTri l Z n0 ad m (pc, L, S, σ) v σ' := by
 have hd : decode (pBytes m) pc = .ok (.putfield idx, 3) := pDecN hc rfl
 obtain ⟨w, a, S', vs, u, rfl, hvs, b1, b2, hu, rfl⟩ := qput_inv hs
 obtain ⟨r1, r2⟩ := Bool.and_eq_true_iff.mp (show (lkF.contains (pK m, idx, aux) && (!fFin aux || (pK m == 1 && pNm m == "<init>"))) = true from pRest hc)
 have hm := mem_of_contains r1
 have hlt := lkF_lt _ hm
 obtain ⟨rfl, q2, q3⟩ := qfit_inv (ad := ad) hu
 have hsz : qhs (σ.set a (Sum.inl (vs.set aux w))) = qhs σ := qhs_set hvs rfl
 refine QTri.gen h (by simp) (by show qhs σ ≤ qhs (σ.set a (Sum.inl (vs.set aux w))); rw [hsz]; exact Nat.le_refl _) fun p e R s mid args below meth c T locs cells slots C hcx X hR hF hL hC hn hc1 hsl => ?_
 obtain ⟨hx, hZ, hby, hml, hret, hown, hnm, hfr, hlo⟩ := hcx
 have hd2 : decode c.code pc = .ok (.putfield idx, 3) := by rw [hby]; exact hd
 obtain ⟨E, l1, Fs⟩ := hR.2.2 _ _ hvs
 obtain ⟨old, hold⟩ : ∃ old, vget vs aux = some old := by rw [vget_eq]; exact ⟨_, List.getElem?_eq_getElem b2⟩
 have lay : (Cond.lays cName cName (fNm aux) (fDs aux)).before a0 Z = true ∨ ((Cond.laysFinal cName cName (fNm aux) (fDs aux)).before a0 Z = true ∧ kName (pK m) = cName ∧ meth.name = "<init>") := by
  have q := (qw_lay W) aux hlt
  cases hf : fFin aux with
  | false => rw [hf] at q; exact Or.inl q
  | true =>
   rw [hf] at q r2
   simp at r2
   exact Or.inr ⟨q, by rw [r2.1]; exact kOne, by rw [hnm]; exact r2.2⟩
 obtain ⟨T₁, h₁, X₁, e₁, W₁, st⟩ := putF X hx hZ hown (host := "") (index := idx) (Or.inl (qw_fl W (pK m, idx, aux) hm)) Via.refl rfl (Fs aux old hlt hold) E lay ((qw_inst W)) (fPrs aux hlt) q2 q3 (g := mkF mid pc C (List.map (qv ad) (w :: .ref a :: S'))) rfl rfl hd2
 refine ⟨T₁, _, C, ?_, ?_, Fr.snoc X₁ hF (Ad.1 a b1), hL, hC, st⟩
 ·show Stand _ _ _ _ _ _ _ _ _ _ _ _ (cells + ((σ.set a (Sum.inl (vs.set aux w))).length - σ.length)) (slots + (qhs (σ.set a (Sum.inl (vs.set aux w))) - qhs σ))
  rw [hsz, Nat.sub_self, List.length_set, Nat.sub_self]
  exact X₁
 ·rw [e₁]
  refine QRep.set hR Ad W₁ hvs ⟨E.wr W₁, by simpa using l1, fun k u hk hu => ?_⟩
  rw [vget_set b2] at hu
  split at hu
  ·rename_i e; cases hu; rw [e]; exact (Fs aux old hlt hold).same W₁
  ·rename_i ne
   exact (Fs k u hk hu).other W₁ (Or.inr (slot_ne (laid_of W hk) (laid_of W hlt) (fun z => ne (fInj _ hk _ hlt z)) (fPrs _ hk) (fPrs _ hlt)))
theorem tyI_inv {ty : FieldType} (h : tyI ty = true) : ty = .int := by cases ty <;> simp [tyI] at h; rfl
theorem tyB_inv {ty : FieldType} (h : tyB ty = true) : ty = .boolean ∨ ty = .byte := by cases ty <;> simp [tyB] at h <;> simp
set_option maxHeartbeats 4000000 in
theorem QTri.iaload {pc aux : Nat} {L : QLoc} {S : List Value} {σ : QHeap} {st' : QSt} (h : QTri l Z n0 ad m st' v σ') (hc : pCode m pc = some (.iaload, aux)) (hs : qald (pc + 1) L S σ tyI = some st') : QTri l Z n0 ad m (pc, L, S, σ) v σ' := by
 have hd : decode (pBytes m) pc = .ok (.iaload, 1) := pDecN hc rfl
 obtain ⟨j, a, S', ty, xs, w, rfl, hx1, ht, hw, rfl⟩ := qald_inv hs
 obtain rfl := tyI_inv ht
 refine QTri.stack h fun p e R s mid args below meth c T locs cells slots C target hx hZ hby hown X hR hL k => ?_
 have hd2 : decode c.code pc = .ok (.iaload, 1) := by rw [hby]; exact hd
 obtain ⟨cl, A, hsl⟩ := hR.2.2 _ _ hx1
 obtain ⟨i1, i2⟩ := ald_in hsl hw
 exact X.iaload hx A.1 (State.isArrayOf_alike hZ.alike A.2.1) A.2.2 i1 i2 (g := mkF mid pc C (List.map (qv ad) (.int j :: .ref a :: S'))) rfl rfl hd2 _ k
set_option maxHeartbeats 4000000 in
theorem QTri.baload {pc aux : Nat} {L : QLoc} {S : List Value} {σ : QHeap} {st' : QSt} (h : QTri l Z n0 ad m st' v σ') (hc : pCode m pc = some (.baload, aux)) (hs : qald (pc + 1) L S σ tyB = some st') : QTri l Z n0 ad m (pc, L, S, σ) v σ' := by
 have hd : decode (pBytes m) pc = .ok (.baload, 1) := pDecN hc rfl
 obtain ⟨j, a, S', ty, xs, w, rfl, hx1, ht, hw, rfl⟩ := qald_inv hs
 refine QTri.stack h fun p e R s mid args below meth c T locs cells slots C target hx hZ hby hown X hR hL k => ?_
 have hd2 : decode c.code pc = .ok (.baload, 1) := by rw [hby]; exact hd
 obtain ⟨cl, A, hsl⟩ := hR.2.2 _ _ hx1
 obtain ⟨i1, i2⟩ := ald_in hsl hw
 rcases tyB_inv ht with rfl | rfl
 ·exact X.baloadBooleans hx A.1 (State.isArrayOf_alike hZ.alike A.2.1) A.2.2 i1 i2 (g := mkF mid pc C (List.map (qv ad) (.int j :: .ref a :: S'))) rfl rfl hd2 _ k
 ·exact X.baloadBytes hx A.1 (State.isArrayOf_alike hZ.alike A.2.1) A.2.2 i1 i2 (g := mkF mid pc C (List.map (qv ad) (.int j :: .ref a :: S'))) rfl rfl hd2 _ k
set_option maxHeartbeats 4000000 in
theorem QTri.laload {pc aux : Nat} {L : QLoc} {S : List Value} {σ : QHeap} {st' : QSt} (h : QTri l Z n0 ad m st' v σ') (hc : pCode m pc = some (.laload, aux)) (hs : qaldJ (pc + 1) L S σ = some st') : QTri l Z n0 ad m (pc, L, S, σ) v σ' := by
 have hd : decode (pBytes m) pc = .ok (.laload, 1) := pDecN hc rfl
 obtain ⟨j, a, S', xs, w, rfl, hx1, hw, rfl⟩ := qaldJ_inv hs
 refine QTri.stack h fun p e R s mid args below meth c T locs cells slots C target hx hZ hby hown X hR hL k => ?_
 have hd2 : decode c.code pc = .ok (.laload, 1) := by rw [hby]; exact hd
 obtain ⟨cl, A, hsl⟩ := hR.2.2 _ _ hx1
 obtain ⟨i1, i2⟩ := ald_in hsl hw
 exact X.laload hx A.1 (State.isArrayOf_alike hZ.alike A.2.1) A.2.2 i1 i2 (g := mkF mid pc C (List.map (qv ad) (.int j :: .ref a :: S'))) rfl rfl hd2 _ k
theorem QTri.stored (Ad : QAd n0 ad) {pc : Nat} {L : QLoc} {S S' : List Value} {σ : QHeap} {a j : Nat} {w : Value} {c d : QCell} (hx1 : hget σ a = some c) (b1 : k0 ≤ a) (hz : qsz d = qsz c) (h : QTri l Z n0 ad m (pc + 1, L, S', σ.set a d) v σ')
  (hs : ∀ (p : Program) (e : Env) (R : Room) (s : State) (mid : MethodId) (args : Array Value) (below : List Frame) (meth : Method) (c : Code) (T : State) (locs : List Loc) (cells slots : Nat) (C : Array Slot),
   QCx Z p R s mid meth c m → Stand p l e R s mid args below meth c T locs cells slots → QRep Z n0 ad T.heap σ →
   ∃ T' h', Stand p l e R s mid args below meth c T' (locs ++ [⟨ad a, j⟩]) cells slots ∧ T'.heap = h' ∧ Wr T.heap h' (ad a) j w ∧ QCellOk Z ad h' (ad a) d ∧ ∀ target, Steps p.tables e below (T'.setTop (mkF mid (pc + 1) C (S'.map (qv ad)))) target → Steps p.tables e below (T.setTop (mkF mid pc C (S.map (qv ad)))) target) :
  QTri l Z n0 ad m (pc, L, S, σ) v σ' := by
 have hsz : qhs (σ.set a d) = qhs σ := qhs_set hx1 hz
 refine QTri.gen h (by simp) (by show qhs σ ≤ qhs (σ.set a d); rw [hsz]; exact Nat.le_refl _) fun p e R s mid args below meth c T locs cells slots C hcx X hR hF hL hC hn hc1 hsl => ?_
 obtain ⟨T₁, h₁, X₁, e₁, W₁, Q₁, st⟩ := hs p e R s mid args below meth c T locs cells slots C hcx X hR
 refine ⟨T₁, _, C, ?_, ?_, Fr.snoc X₁ hF (Ad.1 a b1), hL, hC, st⟩
 ·show Stand _ _ _ _ _ _ _ _ _ _ _ _ (cells + ((σ.set a d).length - σ.length)) (slots + (qhs (σ.set a d) - qhs σ))
  rw [hsz, Nat.sub_self, List.length_set, Nat.sub_self]
  exact X₁
 ·rw [e₁]
  exact QRep.set hR Ad W₁ hx1 Q₁
set_option maxHeartbeats 4000000 in
theorem QTri.iastore (Ad : QAd n0 ad) {pc aux : Nat} {L : QLoc} {S : List Value} {σ : QHeap} {st' : QSt} (h : QTri l Z n0 ad m st' v σ') (hc : pCode m pc = some (.iastore, aux)) (hs : qast (pc + 1) L S σ tyI = some st') : QTri l Z n0 ad m (pc, L, S, σ) v σ' := by
 have hd : decode (pBytes m) pc = .ok (.iastore, 1) := pDecN hc rfl
 obtain ⟨w, j, a, S', ty, xs, ys, rfl, hx1, ht, b1, hw, rfl⟩ := qast_inv hs
 obtain rfl := tyI_inv ht
 refine QTri.stored Ad (j := j.toNatClampNeg) (w := .int w) hx1 b1 (by rw [(aset_inv hw).2.2]; simp [qsz]) h fun p e R s mid args below meth c T locs cells slots C hcx X hR => ?_
 have hd2 : decode c.code pc = .ok (.iastore, 1) := by rw [hcx.2.2.1]; exact hd
 obtain ⟨cl, A, hsl⟩ := hR.2.2 _ _ hx1
 obtain ⟨i1, i2⟩ := ast_in hsl hw
 obtain ⟨T₁, h₁, X₁, e₁, W₁, st⟩ := stI X hcx.1 hcx.2.1 rfl A i1 (g := mkF mid pc C (List.map (qv ad) (.int w :: .int j :: .ref a :: S'))) rfl rfl hd2
 exact ⟨T₁, h₁, X₁, e₁, W₁, ⟨_, A.same W₁, i2⟩, st⟩
set_option maxHeartbeats 4000000 in
theorem QTri.bastore (Ad : QAd n0 ad) {pc aux : Nat} {L : QLoc} {S : List Value} {σ : QHeap} {st' : QSt} (h : QTri l Z n0 ad m st' v σ') (hc : pCode m pc = some (.bastore, aux)) (hs : qast (pc + 1) L S σ tyB = some st') : QTri l Z n0 ad m (pc, L, S, σ) v σ' := by
 have hd : decode (pBytes m) pc = .ok (.bastore, 1) := pDecN hc rfl
 obtain ⟨w, j, a, S', ty, xs, ys, rfl, hx1, ht, b1, hw, rfl⟩ := qast_inv hs
 refine QTri.stored Ad (j := j.toNatClampNeg) (w := .int (qnar ty w)) hx1 b1 (by rw [(aset_inv hw).2.2]; simp [qsz]) h fun p e R s mid args below meth c T locs cells slots C hcx X hR => ?_
 have hd2 : decode c.code pc = .ok (.bastore, 1) := by rw [hcx.2.2.1]; exact hd
 obtain ⟨cl, A, hsl⟩ := hR.2.2 _ _ hx1
 obtain ⟨i1, i2⟩ := ast_in hsl hw
 rcases tyB_inv ht with rfl | rfl
 ·obtain ⟨T₁, h₁, X₁, e₁, W₁, st⟩ := stZ X hcx.1 hcx.2.1 rfl A i1 (g := mkF mid pc C (List.map (qv ad) (.int w :: .int j :: .ref a :: S'))) rfl rfl hd2
  exact ⟨T₁, h₁, X₁, e₁, W₁, ⟨_, A.same W₁, i2⟩, st⟩
 ·obtain ⟨T₁, h₁, X₁, e₁, W₁, st⟩ := stB X hcx.1 hcx.2.1 rfl A i1 (g := mkF mid pc C (List.map (qv ad) (.int w :: .int j :: .ref a :: S'))) rfl rfl hd2
  exact ⟨T₁, h₁, X₁, e₁, W₁, ⟨_, A.same W₁, i2⟩, st⟩
set_option maxHeartbeats 4000000 in
theorem QTri.lastore (Ad : QAd n0 ad) {pc aux : Nat} {L : QLoc} {S : List Value} {σ : QHeap} {st' : QSt} (h : QTri l Z n0 ad m st' v σ') (hc : pCode m pc = some (.lastore, aux)) (hs : qastJ (pc + 1) L S σ = some st') : QTri l Z n0 ad m (pc, L, S, σ) v σ' := by
 have hd : decode (pBytes m) pc = .ok (.lastore, 1) := pDecN hc rfl
 obtain ⟨w, j, a, S', xs, ys, rfl, hx1, b1, hw, rfl⟩ := qastJ_inv hs
 refine QTri.stored Ad (j := j.toNatClampNeg) (w := .long w) hx1 b1 (by rw [(aset_inv hw).2.2]; simp [qsz]) h fun p e R s mid args below meth c T locs cells slots C hcx X hR => ?_
 have hd2 : decode c.code pc = .ok (.lastore, 1) := by rw [hcx.2.2.1]; exact hd
 obtain ⟨cl, A, hsl⟩ := hR.2.2 _ _ hx1
 obtain ⟨i1, i2⟩ := ast_in hsl hw
 obtain ⟨T₁, h₁, X₁, e₁, W₁, st⟩ := stJ X hcx.1 hcx.2.1 rfl A i1 (g := mkF mid pc C (List.map (qv ad) (.long w :: .int j :: .ref a :: S'))) rfl rfl hd2
 exact ⟨T₁, h₁, X₁, e₁, W₁, ⟨_, A.same W₁, i2⟩, st⟩
set_option maxHeartbeats 4000000 in
theorem QTri.alen {pc aux : Nat} {L : QLoc} {S : List Value} {σ : QHeap} {st' : QSt} (h : QTri l Z n0 ad m st' v σ') (hc : pCode m pc = some (.arraylength, aux)) (hs : qlen (pc + 1) L S σ = some st') : QTri l Z n0 ad m (pc, L, S, σ) v σ' := by
 have hd : decode (pBytes m) pc = .ok (.arraylength, 1) := pDecN hc rfl
 obtain ⟨a, S', n, rfl, hx1, rfl⟩ := qlen_inv hs
 refine QTri.stack h fun p e R s mid args below meth c T locs cells slots C target hx hZ hby hown X hR hL k => ?_
 have hd2 : decode c.code pc = .ok (.arraylength, 1) := by rw [hby]; exact hd
 rcases hx1 with ⟨ty, xs, hx1, rfl⟩ | ⟨xs, hx1, rfl⟩
 ·obtain ⟨cl, A, hsl⟩ := hR.2.2 _ _ hx1
  have e1 : cl.slots.size = xs.length := by rw [hsl]; simp
  rw [← e1] at k
  exact X.arraylength hx A.1 (State.isArrayOf_alike hZ.alike A.2.1) (g := mkF mid pc C (List.map (qv ad) (.ref a :: S'))) rfl rfl hd2 _ k
 ·obtain ⟨cl, A, hsl⟩ := hR.2.2 _ _ hx1
  have e1 : cl.slots.size = xs.length := by rw [hsl]; simp
  rw [← e1] at k
  exact X.arraylength hx A.1 (State.isArrayOf_alike hZ.alike A.2.1) (g := mkF mid pc C (List.map (qv ad) (.ref a :: S'))) rfl rfl hd2 _ k
set_option maxHeartbeats 4000000 in
theorem QTri.newObj (Ad : QAd n0 ad) (W : QW Z a0) {pc idx aux : Nat} {L : QLoc} {S : List Value} {σ : QHeap} (h : QTri l Z n0 ad m (pc + 3, L, .ref σ.length :: S, σ ++ [.inl cDef]) v σ') (hc : pCode m pc = some (.new idx, aux)) : QTri l Z n0 ad m (pc, L, S, σ) v σ' := by
 have hd : decode (pBytes m) pc = .ok (.new idx, 3) := pDecN hc rfl
 have hm := mem_of_contains (show lkN.contains (pK m, idx) = true from pRest hc)
 refine QTri.gen h (by simp) (by simp [qhs_app]) fun p e R s mid args below meth c T locs cells slots C hcx X hR hF hL hC hn hc1 hsl => ?_
 obtain ⟨hx, hZ, hby, hml, hret, hown, hnm, hfr, hlo⟩ := hcx
 have hd2 : decode c.code pc = .ok (.new idx, 3) := by rw [hby]; exact hd
 simp only [List.length_append, List.length_singleton, Nat.add_sub_cancel_left, qgrow, qsz] at hc1 hsl ⊢
 obtain ⟨T₁, h₁, X₁, e₁, E₁, A₁, D₁, -, st⟩ := newO X hx hZ hown (index := idx) (qw_nw W (pK m, idx) hm) ((qw_inst W)) ((qw_init W)) rfl (g := mkF mid pc C (S.map (qv ad))) rfl hd2 hc1 hsl
 have hsz : h₁.size = T.heap.size + 1 := by
  have q1 := X₁.heapSize
  have q2 : T.heap.size < h₁.size := A₁.lt
  have q3 : T.heap.size = n0 + (σ.length - k0) := hR.2.1
  rw [e₁] at q1
  have : n0 + (σ.length - k0) = s.heap.size + cells := hn
  omega
 refine ⟨T₁, locs, C, X₁, ?_, hF, hL, hC, fun target q => ?_⟩
 ·rw [e₁]
  refine QRep.push hR Ad E₁ hsz ⟨A₁, cDefL, fun k u hk hu => ?_⟩
  rw [cDefs k hk] at hu
  cases hu
  have e3 : qv ad (defaultValue (fTy k)) = defaultValue (fTy k) := by
   cases hq : defaultValue (fTy k) with
   | ref a => exact absurd hq (fDef k hk a)
   | _ => rfl
  rw [e3]
  exact D₁ (laid_of W hk) (fPrs k hk)
 ·refine st _ ?_
  have e2 : ad σ.length = T.heap.size := by rw [hR.1.2 _ (Nat.le_refl _)]; exact hR.2.1.symm
  simp only [List.map_cons, qv, e2] at q
  exact q
set_option maxHeartbeats 8000000 in
theorem QTri.step (Ad : QAd n0 ad) (W : QW Z a0) {st st' : QSt} (h : QTri l Z n0 ad m st' v σ') (hs : qstep m st = some st') : QTri l Z n0 ad m st v σ' := by
 obtain ⟨pc, L, S, σ⟩ := st
 unfold qstep at hs
 dsimp only at hs
 split at hs
 rotate_left
 ·cases hs
 rename_i i aux hc
 have hd := pDecN hc rfl
 have hr := pRest hc
 unfold qexec at hs
 split at hs
 ·-- aload_n
  obtain ⟨w, h1, h2, rfl⟩ := qload_inv hs
  obtain ⟨a, rfl⟩ := isR_inv h2
  exact QTri.stack h fun p e R s mid args below meth c T locs cells slots C target hx hZ hby hown X hR hL k => XS.aloadN X.here hx rfl (hb hby hd) (hL.2.1 _ _ h1) rfl k
 ·obtain ⟨w, h1, h2, rfl⟩ := qload_inv hs
  obtain ⟨a, rfl⟩ := isR_inv h2
  exact QTri.stack h fun p e R s mid args below meth c T locs cells slots C target hx hZ hby hown X hR hL k => XS.aload X.here hx rfl (hb hby hd) (hL.2.1 _ _ h1) rfl k
 ·obtain ⟨w, h1, h2, rfl⟩ := qload_inv hs
  obtain ⟨a, rfl⟩ := isI_inv h2
  exact QTri.stack h fun p e R s mid args below meth c T locs cells slots C target hx hZ hby hown X hR hL k => XS.iloadN X.here hx rfl (hb hby hd) (hL.2.1 _ _ h1) k
 ·obtain ⟨w, h1, h2, rfl⟩ := qload_inv hs
  obtain ⟨a, rfl⟩ := isI_inv h2
  exact QTri.stack h fun p e R s mid args below meth c T locs cells slots C target hx hZ hby hown X hR hL k => XS.iload X.here hx rfl (hb hby hd) (hL.2.1 _ _ h1) k
 ·obtain ⟨w, h1, h2, rfl⟩ := qload_inv hs
  obtain ⟨a, rfl⟩ := isJ_inv h2
  exact QTri.stack h fun p e R s mid args below meth c T locs cells slots C target hx hZ hby hown X hR hL k => XT.lloadN X.here hx rfl (hb hby hd) (hL.2.1 _ _ h1) k
 ·obtain ⟨w, h1, h2, rfl⟩ := qload_inv hs
  obtain ⟨a, rfl⟩ := isJ_inv h2
  exact QTri.stack h fun p e R s mid args below meth c T locs cells slots C target hx hZ hby hown X hR hL k => XT.lload X.here hx rfl (hb hby hd) (hL.2.1 _ _ h1) k
 ·cases hs -- iconst
  exact QTri.stack h fun p e R s mid args below meth c T locs cells slots C target hx hZ hby hown X hR hL k => XS.iconst X.here hx rfl (hb hby hd) k
 ·cases hs
  exact QTri.stack h fun p e R s mid args below meth c T locs cells slots C target hx hZ hby hown X hR hL k => XS.bipush X.here hx rfl (hb hby hd) k
 ·cases hs
  exact QTri.stack h fun p e R s mid args below meth c T locs cells slots C target hx hZ hby hown X hR hL k => XS.sipush X.here hx rfl (hb hby hd) k
 ·cases hs
  exact QTri.stack h fun p e R s mid args below meth c T locs cells slots C target hx hZ hby hown X hR hL k => XT.lconst X.here hx rfl (hb hby hd) k
 ·-- ldc
  unfold qldc at hs
  split at hs
  ·rename_i w hw
   cases hs
   obtain ⟨x, hx1, hx2⟩ := qw_cI W (pK m, _, aux) (mem_of_contains (show lkC.contains (pK m, _, aux) = true from hr))
   rw [show vget cK aux = some w from hw] at hx1
   cases hx1
   exact QTri.stack h fun p e R s mid args below meth c T locs cells slots C target hx hZ hby hown X hR hL k => X.ldcI hx hown (mv hZ hx2) rfl (hb hby hd) k
  ·cases hs
 ·unfold qldc at hs
  split at hs
  ·rename_i w hw
   cases hs
   obtain ⟨x, hx1, hx2⟩ := qw_cJ W (pK m, _, aux) (mem_of_contains (show lkD.contains (pK m, _, aux) = true from hr))
   rw [show vget cK aux = some w from hw] at hx1
   cases hx1
   exact QTri.stack h fun p e R s mid args below meth c T locs cells slots C target hx hZ hby hown X hR hL k => X.ldc2J hx hown (mv hZ hx2) rfl (hb hby hd) k
  ·cases hs
 ·-- istore_n
  obtain ⟨w, S', L', rfl, h2, h3, rfl⟩ := qstore_inv hs
  obtain ⟨a, rfl⟩ := isI_inv h2
  exact QTri.frame h fun p e R s mid args below meth c T locs cells slots C hcx X hR hL hC => by
   obtain ⟨D, d1, d2, d3⟩ := store_ok hL h3
   exact ⟨D, d2, d3.trans hC, fun target k => XS.istoreN X.here hcx.1 rfl (hb hcx.2.2.1 hd) rfl d1 k⟩
 ·obtain ⟨w, S', L', rfl, h2, h3, rfl⟩ := qstore_inv hs
  obtain ⟨a, rfl⟩ := isI_inv h2
  exact QTri.frame h fun p e R s mid args below meth c T locs cells slots C hcx X hR hL hC => by
   obtain ⟨D, d1, d2, d3⟩ := store_ok hL h3
   exact ⟨D, d2, d3.trans hC, fun target k => XS.istore X.here hcx.1 rfl (hb hcx.2.2.1 hd) rfl d1 k⟩
 ·obtain ⟨w, S', L', rfl, h2, h3, rfl⟩ := qstore_inv hs
  obtain ⟨a, rfl⟩ := isJ_inv h2
  exact QTri.frame h fun p e R s mid args below meth c T locs cells slots C hcx X hR hL hC => by
   obtain ⟨D, d1, d2, d3⟩ := store_ok hL h3
   exact ⟨D, d2, d3.trans hC, fun target k => XT.lstoreN X.here hcx.1 rfl (hb hcx.2.2.1 hd) rfl d1 k⟩
 ·obtain ⟨w, S', L', rfl, h2, h3, rfl⟩ := qstore_inv hs
  obtain ⟨a, rfl⟩ := isJ_inv h2
  exact QTri.frame h fun p e R s mid args below meth c T locs cells slots C hcx X hR hL hC => by
   obtain ⟨D, d1, d2, d3⟩ := store_ok hL h3
   exact ⟨D, d2, d3.trans hC, fun target k => XT.lstore X.here hcx.1 rfl (hb hcx.2.2.1 hd) rfl d1 k⟩
 ·obtain ⟨w, S', L', rfl, h2, h3, rfl⟩ := qstore_inv hs
  obtain ⟨a, rfl⟩ := isR_inv h2
  exact QTri.frame h fun p e R s mid args below meth c T locs cells slots C hcx X hR hL hC => by
   obtain ⟨D, d1, d2, d3⟩ := store_ok hL h3
   exact ⟨D, d2, d3.trans hC, fun target k => XS.astoreN X.here hcx.1 rfl (hb hcx.2.2.1 hd) rfl rfl d1 k⟩
 ·obtain ⟨w, S', L', rfl, h2, h3, rfl⟩ := qstore_inv hs
  obtain ⟨a, rfl⟩ := isR_inv h2
  exact QTri.frame h fun p e R s mid args below meth c T locs cells slots C hcx X hR hL hC => by
   obtain ⟨D, d1, d2, d3⟩ := store_ok hL h3
   exact ⟨D, d2, d3.trans hC, fun target k => XS.astore X.here hcx.1 rfl (hb hcx.2.2.1 hd) rfl rfl d1 k⟩
 ·-- iinc
  unfold qinc at hs
  split at hs
  ·rename_i x hx1
   split at hs
   ·rename_i L' hL'
    cases hs
    exact QTri.frame h fun p e R s mid args below meth c T locs cells slots C hcx X hR hL hC => by
     obtain ⟨D, d1, d2, d3⟩ := store_ok hL hL'
     exact ⟨D, d2, d3.trans hC, fun target k => XS.iinc X.here hcx.1 rfl (hb hcx.2.2.1 hd) (hL.2.1 _ _ hx1) d1 k⟩
   ·cases hs
  ·cases hs
 ·obtain ⟨x, y, S', rfl, rfl⟩ := qbin_inv hs -- iadd
  exact QTri.stack h fun p e R s mid args below meth c T locs cells slots C target hx hZ hby hown X hR hL k => XS.iadd X.here hx rfl (hb hby hd) rfl k
 ·obtain ⟨x, y, S', rfl, rfl⟩ := qbin_inv hs
  exact QTri.stack h fun p e R s mid args below meth c T locs cells slots C target hx hZ hby hown X hR hL k => XS.isub X.here hx rfl (hb hby hd) rfl k
 ·obtain ⟨x, y, S', rfl, rfl⟩ := qbin_inv hs
  exact QTri.stack h fun p e R s mid args below meth c T locs cells slots C target hx hZ hby hown X hR hL k => XS.imul X.here hx rfl (hb hby hd) rfl k
 ·obtain ⟨x, y, S', rfl, rfl⟩ := qbin_inv hs
  exact QTri.stack h fun p e R s mid args below meth c T locs cells slots C target hx hZ hby hown X hR hL k => XS.iand X.here hx rfl (hb hby hd) rfl k
 ·obtain ⟨x, y, S', rfl, rfl⟩ := qbin_inv hs
  exact QTri.stack h fun p e R s mid args below meth c T locs cells slots C target hx hZ hby hown X hR hL k => XT.ior X.here hx rfl (hb hby hd) rfl k
 ·obtain ⟨x, y, S', rfl, rfl⟩ := qbin_inv hs
  exact QTri.stack h fun p e R s mid args below meth c T locs cells slots C target hx hZ hby hown X hR hL k => XT.ixor X.here hx rfl (hb hby hd) rfl k
 ·obtain ⟨x, y, S', rfl, rfl⟩ := qbin_inv hs
  exact QTri.stack h fun p e R s mid args below meth c T locs cells slots C target hx hZ hby hown X hR hL k => XT.ishl X.here hx rfl (hb hby hd) rfl k
 ·obtain ⟨x, y, S', rfl, rfl⟩ := qbin_inv hs
  exact QTri.stack h fun p e R s mid args below meth c T locs cells slots C target hx hZ hby hown X hR hL k => XT.ishr X.here hx rfl (hb hby hd) rfl k
 ·obtain ⟨x, y, S', rfl, rfl⟩ := qbin_inv hs
  exact QTri.stack h fun p e R s mid args below meth c T locs cells slots C target hx hZ hby hown X hR hL k => XT.iushr X.here hx rfl (hb hby hd) rfl k
 ·obtain ⟨x, y, z, S', rfl, hz, rfl⟩ := qbino_inv hs -- idiv
  unfold qdiv at hz
  split at hz
  ·cases hz
  ·rename_i hy
   cases hz
   exact QTri.stack h fun p e R s mid args below meth c T locs cells slots C target hx hZ hby hown X hR hL k => XS.idiv X.here hx rfl (hb hby hd) rfl hy k
 ·obtain ⟨x, y, z, S', rfl, hz, rfl⟩ := qbino_inv hs
  unfold qrem at hz
  split at hz
  ·cases hz
  ·rename_i hy
   cases hz
   exact QTri.stack h fun p e R s mid args below meth c T locs cells slots C target hx hZ hby hown X hR hL k => iremM X hx rfl (hb hby hd) rfl hy k
 ·obtain ⟨x, S', rfl, rfl⟩ := quni_inv hs -- ineg
  exact QTri.stack h fun p e R s mid args below meth c T locs cells slots C target hx hZ hby hown X hR hL k => XS.ineg X.here hx rfl (hb hby hd) rfl k
 ·obtain ⟨x, S', rfl, rfl⟩ := quni_inv hs
  exact QTri.stack h fun p e R s mid args below meth c T locs cells slots C target hx hZ hby hown X hR hL k => XT.i2l X.here hx rfl (hb hby hd) rfl k
 ·obtain ⟨x, S', rfl, rfl⟩ := quni_inv hs
  exact QTri.stack h fun p e R s mid args below meth c T locs cells slots C target hx hZ hby hown X hR hL k => XT.i2b X.here hx rfl (hb hby hd) rfl k
 ·obtain ⟨x, S', rfl, rfl⟩ := quniJ_inv hs
  exact QTri.stack h fun p e R s mid args below meth c T locs cells slots C target hx hZ hby hown X hR hL k => XT.l2i X.here hx rfl (hb hby hd) rfl k
 ·obtain ⟨x, S', rfl, rfl⟩ := quniJ_inv hs
  exact QTri.stack h fun p e R s mid args below meth c T locs cells slots C target hx hZ hby hown X hR hL k => XT.lneg X.here hx rfl (hb hby hd) rfl k
 ·obtain ⟨x, y, S', rfl, rfl⟩ := qbinJ_inv hs
  exact QTri.stack h fun p e R s mid args below meth c T locs cells slots C target hx hZ hby hown X hR hL k => XT.ladd X.here hx rfl (hb hby hd) rfl k
 ·obtain ⟨x, y, S', rfl, rfl⟩ := qbinJ_inv hs
  exact QTri.stack h fun p e R s mid args below meth c T locs cells slots C target hx hZ hby hown X hR hL k => XT.lsub X.here hx rfl (hb hby hd) rfl k
 ·obtain ⟨x, y, S', rfl, rfl⟩ := qbinJ_inv hs
  exact QTri.stack h fun p e R s mid args below meth c T locs cells slots C target hx hZ hby hown X hR hL k => XT.lmul X.here hx rfl (hb hby hd) rfl k
 ·obtain ⟨x, y, S', rfl, rfl⟩ := qbinJ_inv hs
  exact QTri.stack h fun p e R s mid args below meth c T locs cells slots C target hx hZ hby hown X hR hL k => XT.land X.here hx rfl (hb hby hd) rfl k
 ·obtain ⟨x, y, S', rfl, rfl⟩ := qbinJ_inv hs
  exact QTri.stack h fun p e R s mid args below meth c T locs cells slots C target hx hZ hby hown X hR hL k => XT.lor X.here hx rfl (hb hby hd) rfl k
 ·obtain ⟨x, y, S', rfl, rfl⟩ := qbinJ_inv hs
  exact QTri.stack h fun p e R s mid args below meth c T locs cells slots C target hx hZ hby hown X hR hL k => XT.lxor X.here hx rfl (hb hby hd) rfl k
 ·obtain ⟨x, y, S', rfl, rfl⟩ := qshJ_inv hs
  exact QTri.stack h fun p e R s mid args below meth c T locs cells slots C target hx hZ hby hown X hR hL k => XT.lshl X.here hx rfl (hb hby hd) rfl k
 ·obtain ⟨x, y, S', rfl, rfl⟩ := qshJ_inv hs
  exact QTri.stack h fun p e R s mid args below meth c T locs cells slots C target hx hZ hby hown X hR hL k => XT.lshr X.here hx rfl (hb hby hd) rfl k
 ·obtain ⟨x, y, S', rfl, rfl⟩ := qshJ_inv hs
  exact QTri.stack h fun p e R s mid args below meth c T locs cells slots C target hx hZ hby hown X hR hL k => XT.lushr X.here hx rfl (hb hby hd) rfl k
 ·split at hs -- lcmp
  ·cases hs
   exact QTri.stack h fun p e R s mid args below meth c T locs cells slots C target hx hZ hby hown X hR hL k => XT.lcmp X.here hx rfl (hb hby hd) rfl k
  ·cases hs
 ·cases hs -- goto
  obtain ⟨t1, t2⟩ := qtgt_spec hr
  exact QTri.stack h fun p e R s mid args below meth c T locs cells slots C target hx hZ hby hown X hR hL k => XS.goto X.here hx rfl rfl (hb hby hd) t1 t2 k
 ·obtain ⟨x, S', rfl, rfl⟩ := qif_inv hs
  obtain ⟨t1, t2⟩ := qtgt_spec hr
  cases hh : ifCond.holds _ x with
  | true => rw [hh] at h; exact QTri.stack h fun p e R s mid args below meth c T locs cells slots C target hx hZ hby hown X hR hL k => XS.ifYes X.here hx rfl rfl (hb hby hd) rfl hh t1 t2 k
  | false => rw [hh] at h; exact QTri.stack h fun p e R s mid args below meth c T locs cells slots C target hx hZ hby hown X hR hL k => XS.ifNo X.here hx rfl (hb hby hd) rfl hh k
 ·obtain ⟨x, y, S', rfl, rfl⟩ := qicmp_inv hs
  obtain ⟨t1, t2⟩ := qtgt_spec hr
  cases hh : if_icmp.holds _ x y with
  | true => rw [hh] at h; exact QTri.stack h fun p e R s mid args below meth c T locs cells slots C target hx hZ hby hown X hR hL k => XS.icmpYes X.here hx rfl rfl (hb hby hd) rfl hh t1 t2 k
  | false => rw [hh] at h; exact QTri.stack h fun p e R s mid args below meth c T locs cells slots C target hx hZ hby hown X hR hL k => XS.icmpNo X.here hx rfl (hb hby hd) rfl hh k
 ·unfold qdup at hs
  split at hs
  ·cases hs
   exact QTri.stack h fun p e R s mid args below meth c T locs cells slots C target hx hZ hby hown X hR hL k => XS.dup X.here hx rfl (hb hby hd) rfl rfl k
  ·cases hs
   exact QTri.stack h fun p e R s mid args below meth c T locs cells slots C target hx hZ hby hown X hR hL k => XS.dup X.here hx rfl (hb hby hd) rfl rfl k
  ·cases hs
 ·unfold qdup2 at hs
  split at hs
  ·cases hs
   exact QTri.stack h fun p e R s mid args below meth c T locs cells slots C target hx hZ hby hown X hR hL k => XT.dup2 X.here hx rfl (hb hby hd) rfl rfl rfl k
  ·cases hs
   exact QTri.stack h fun p e R s mid args below meth c T locs cells slots C target hx hZ hby hown X hR hL k => XT.dup2 X.here hx rfl (hb hby hd) rfl rfl rfl k
  ·cases hs
   exact QTri.stack h fun p e R s mid args below meth c T locs cells slots C target hx hZ hby hown X hR hL k => XT.dup2L X.here hx rfl (hb hby hd) rfl k
  ·cases hs
 ·unfold qpop at hs
  split at hs
  ·cases hs
   exact QTri.stack h fun p e R s mid args below meth c T locs cells slots C target hx hZ hby hown X hR hL k => XT.pop X.here hx rfl (hb hby hd) rfl rfl k
  ·cases hs
   exact QTri.stack h fun p e R s mid args below meth c T locs cells slots C target hx hZ hby hown X hR hL k => XT.pop X.here hx rfl (hb hby hd) rfl rfl k
  ·cases hs
 ·exact QTri.getfield W h hc hs
 ·exact QTri.putfield Ad W h hc hs
 ·exact QTri.iaload h hc hs
 ·exact QTri.baload h hc hs
 ·exact QTri.laload h hc hs
 ·exact QTri.iastore Ad h hc hs
 ·exact QTri.bastore Ad h hc hs
 ·exact QTri.lastore Ad h hc hs
 ·exact QTri.alen h hc hs
 ·-- newarray
  unfold qnewA at hs
  split at hs
  ·split at hs
   ·obtain ⟨k, hk, hs⟩ := Option.bind_eq_some_iff.mp hs
    cases hs
    exact QTri.newArr (c := .inr (.inl (.int, List.replicate k 0))) Ad W hk hc (by simp [qsz]) (fun h' a cA A => ⟨_, A, by simp [newA, (qnew_inv hk).2.1]; exact Or.inr rfl⟩) h
   ·obtain ⟨k, hk, hs⟩ := Option.bind_eq_some_iff.mp hs
    cases hs
    exact QTri.newArr (c := .inr (.inl (.boolean, List.replicate k 0))) Ad W hk hc (by simp [qsz]) (fun h' a cA A => ⟨_, A, by simp [newA, (qnew_inv hk).2.1]; exact Or.inr rfl⟩) h
   ·obtain ⟨k, hk, hs⟩ := Option.bind_eq_some_iff.mp hs
    cases hs
    exact QTri.newArr (c := .inr (.inl (.byte, List.replicate k 0))) Ad W hk hc (by simp [qsz]) (fun h' a cA A => ⟨_, A, by simp [newA, (qnew_inv hk).2.1]; exact Or.inr rfl⟩) h
   ·obtain ⟨k, hk, hs⟩ := Option.bind_eq_some_iff.mp hs
    cases hs
    exact QTri.newArr (c := .inr (.inr (List.replicate k 0))) Ad W hk hc (by simp [qsz]) (fun h' a cA A => ⟨_, A, by simp [newA, (qnew_inv hk).2.1]; exact Or.inr rfl⟩) h
   ·cases hs
  ·cases hs
 ·cases hs; exact QTri.newObj Ad W h hc
 ·cases hs
theorem QTri.steps (Ad : QAd n0 ad) (W : QW Z a0) : ∀ (n : Nat) {st st' : QSt}, qsteps m n st = some st' → QTri l Z n0 ad m st' v σ' → QTri l Z n0 ad m st v σ'
 | 0, st, st', h, k => by cases h; exact k
 | n + 1, st, st', h, k => by
  simp only [qsteps] at h
  split at h
  ·rename_i st₁ h1
   exact QTri.step Ad W (QTri.steps Ad W n h k) h1
  ·cases h
def lmask : List Bool → QLoc → QLoc
 | b :: t, x :: u => (bif b then x else none) :: lmask t u
 | _, L => L.map fun _ => none
theorem lmask_len : ∀ (b : List Bool) (L : QLoc), (lmask b L).length = L.length
 | [], L => by simp [lmask]
 | _ :: _, [] => by simp [lmask]
 | _ :: t, _ :: u => by simp [lmask, lmask_len t u]
theorem lmask_get : ∀ (b : List Bool) (L : QLoc) (k : Nat) (v : Value), lget (lmask b L) k = some v → lget L k = some v
 | [], L, k, v, h => by
  simp only [lmask, lget_eq, List.getElem?_map] at h
  cases hq : L[k]? <;> simp [hq] at h
 | _ :: _, [], k, v, h => by simp [lmask, lget] at h
 | b :: t, x :: u, 0, v, h => by
  simp only [lmask, lget] at h ⊢
  cases b
  ·cases h
  ·exact h
 | b :: t, x :: u, k + 1, v, h => by
  simp only [lmask, lget] at h ⊢
  exact lmask_get t u k v h
theorem QTri.mask {pc : Nat} {L : QLoc} {S : List Value} {σ : QHeap} (b : List Bool) (h : QTri l Z n0 ad m (pc, lmask b L, S, σ) v σ') : QTri l Z n0 ad m (pc, L, S, σ) v σ' :=
 QTri.frame h fun p e R s mid args below meth c T locs cells slots C hcx X hR hL hC => ⟨C, ⟨by rw [lmask_len]; exact hL.1, fun k u hk => hL.2.1 k u (lmask_get b L k u hk), hL.2.2⟩, hC, fun target k => k⟩
theorem QTri.ret0 {pc aux : Nat} {L : QLoc} {σ : QHeap} (hc : pCode m pc = some (.return_, aux)) (hr : pRet m = none) : QTri l Z n0 ad m (pc, L, [], σ) none σ :=
 have hd : decode (pBytes m) pc = .ok (.return_, 1) := pDecN hc rfl
 ⟨Nat.le_refl _, Nat.le_refl _, fun p e R s mid args below meth c T locs cells slots C hcx X hR hF hL hC hn hc1 hsl => ⟨T, locs, by simpa using X, hR, hF, fun fs hf => X.returnOut hcx.1 (hcx.2.2.2.2.1.trans hr) (hb hcx.2.2.1 hd) hf⟩⟩
theorem QTri.retI {pc aux : Nat} {L : QLoc} {S : List Value} {σ : QHeap} {x : Int32} (hc : pCode m pc = some (.ireturn, aux)) (hr : pRet m = some .int) : QTri l Z n0 ad m (pc, L, .int x :: S, σ) (some (.int x)) σ :=
 have hd : decode (pBytes m) pc = .ok (.ireturn, 1) := pDecN hc rfl
 ⟨Nat.le_refl _, Nat.le_refl _, fun p e R s mid args below meth c T locs cells slots C hcx X hR hF hL hC hn hc1 hsl => ⟨T, locs, by simpa using X, hR, hF, fun fs hf => Jvm.RoadKit.retI X hcx.1 (hcx.2.2.2.2.1.trans hr) (hb hcx.2.2.1 hd) hf⟩⟩
theorem QTri.retZ {pc aux : Nat} {L : QLoc} {S : List Value} {σ : QHeap} {x : Int32} (hc : pCode m pc = some (.ireturn, aux)) (hr : pRet m = some .boolean) : QTri l Z n0 ad m (pc, L, .int x :: S, σ) (some (.int (x &&& 1))) σ :=
 have hd : decode (pBytes m) pc = .ok (.ireturn, 1) := pDecN hc rfl
 ⟨Nat.le_refl _, Nat.le_refl _, fun p e R s mid args below meth c T locs cells slots C hcx X hR hF hL hC hn hc1 hsl => ⟨T, locs, by simpa using X, hR, hF, fun fs hf => retN X hcx.1 (t := .boolean) (hcx.2.2.2.2.1.trans hr) (by simp) (hb hcx.2.2.1 hd) hf⟩⟩
theorem QTri.retJ {pc aux : Nat} {L : QLoc} {S : List Value} {σ : QHeap} {x : Int64} (hc : pCode m pc = some (.lreturn, aux)) (hr : pRet m = some .long) : QTri l Z n0 ad m (pc, L, .long x :: S, σ) (some (.long x)) σ :=
 have hd : decode (pBytes m) pc = .ok (.lreturn, 1) := pDecN hc rfl
 ⟨Nat.le_refl _, Nat.le_refl _, fun p e R s mid args below meth c T locs cells slots C hcx X hR hF hL hC hn hc1 hsl => ⟨T, locs, by simpa using X, hR, hF, fun fs hf => retOut X hcx.1 (t := .long) (hcx.2.2.2.2.1.trans hr) rfl (Or.inr (Or.inl ⟨rfl, rfl, _, rfl⟩)) (hb hcx.2.2.1 hd) hf⟩⟩
def LOk (ad : Nat → Addr) (L : QLoc) (C : List Slot) : Prop :=
 L.length = C.length ∧ (∀ k v, lget L k = some v → C[k]? = some (.val (qv ad v))) ∧ (∀ k w, C[k]? = some (.val w) → w.category = 2 → C[k + 1]? = some .second) ∧ ∀ k, C[k]? = some .second → ∃ j w, k = j + 1 ∧ C[j]? = some (.val w) ∧ w.category = 2
theorem LOk.base (ad : Nat → Addr) (n : Nat) : LOk ad (List.replicate n none) (List.replicate n .unset) := by
 refine ⟨by simp, fun k u h => ?_, fun k w h => ?_, fun k h => ?_⟩
 ·rw [lget_eq] at h
  rcases Nat.lt_or_ge k n with q | q
  ·simp [List.getElem?_replicate, q] at h
  ·simp [List.getElem?_eq_none, q] at h
 ·rcases Nat.lt_or_ge k n with q | q
  ·simp [List.getElem?_replicate, q] at h
  ·simp [List.getElem?_eq_none, q] at h
 ·rcases Nat.lt_or_ge k n with q | q
  ·simp [List.getElem?_replicate, q] at h
  ·simp [List.getElem?_eq_none, q] at h
theorem LOk.one {L : QLoc} {C : List Slot} (H : LOk ad L C) {u : Value} (hu : u.category = 1) : LOk ad (some u :: L) (.val (qv ad u) :: C) := by
 obtain ⟨h1, h2, h3, h4⟩ := H
 refine ⟨by simp [h1], fun k w h => ?_, fun k w h hw => ?_, fun k h => ?_⟩
 ·cases k with
  | zero => simp only [lget] at h; cases h; simp
  | succ k => simp only [lget] at h; simpa using h2 k w h
 ·cases k with
  | zero => simp at h; rw [← h, qv_cat, hu] at hw; cases hw
  | succ k => simpa using h3 k w (by simpa using h) hw
 ·cases k with
  | zero => simp at h
  | succ k =>
   obtain ⟨j, w, z1, z2, z3⟩ := h4 k (by simpa using h)
   exact ⟨j + 1, w, by omega, by simpa using z2, z3⟩
theorem LOk.two {L : QLoc} {C : List Slot} (H : LOk ad L C) {u : Value} (hu : u.category = 2) : LOk ad (some u :: none :: L) (.val (qv ad u) :: .second :: C) := by
 obtain ⟨h1, h2, h3, h4⟩ := H
 refine ⟨by simp [h1], fun k w h => ?_, fun k w h hw => ?_, fun k h => ?_⟩
 ·rcases k with _ | _ | k
  ·simp only [lget] at h; cases h; simp
  ·simp [lget] at h
  ·simp only [lget] at h; simpa using h2 k w h
 ·rcases k with _ | _ | k
  ·simp
  ·simp at h
  ·simpa using h3 k w (by simpa using h) hw
 ·rcases k with _ | _ | k
  ·simp at h
  ·exact ⟨0, qv ad u, rfl, by simp, by rw [qv_cat]; exact hu⟩
  ·obtain ⟨j, w, z1, z2, z3⟩ := h4 k (by simpa using h)
   exact ⟨j + 2, w, by omega, by simpa using z2, z3⟩
def slotsOf (u : Value) : List Slot := if u.category = 2 then [.val u, .second] else [.val u]
theorem fold_slots : ∀ (as : List Value) (acc : Array Slot), (as.foldl (fun acc v => if v.category = 2 then (acc.push (.val v)).push .second else acc.push (.val v)) acc).toList = acc.toList ++ as.flatMap slotsOf
 | [], acc => by simp
 | u :: t, acc => by
  rw [List.foldl_cons, fold_slots t]
  by_cases hc : u.category = 2 <;> simp [slotsOf, hc]
theorem slots_len : ∀ (as : List Value), (as.flatMap slotsOf).length = (as.map fun v => v.category).sum
 | [] => rfl
 | u :: t => by
  rw [List.flatMap_cons, List.length_append, slots_len t, List.map_cons, List.sum_cons]
  cases u <;> simp [slotsOf, Value.category]
theorem cats_qv (as : List Value) : ((as.map (qv ad)).map fun v => v.category).sum = (as.map fun v => v.category).sum := by
 rw [List.map_map]
 congr 1
 exact List.map_congr_left fun x _ => qv_cat ad x
theorem entry_list : ∀ (as : List Value) (n : Nat), LOk ad ((as.flatMap fun v => match v with | .long x => [some (.long x), none] | .double x => [some (.double x), none] | v => [some v]) ++ List.replicate n none) ((as.map (qv ad)).flatMap slotsOf ++ List.replicate n .unset)
 | [], n => by simpa using LOk.base ad n
 | u :: t, n => by
  have ih := entry_list t n
  cases u with
  | long x => exact LOk.two ih rfl
  | double x => exact LOk.two ih rfl
  | int x => exact LOk.one ih rfl
  | float x => exact LOk.one ih rfl
  | null => exact LOk.one ih rfl
  | ref x => exact LOk.one ih rfl
  | retAddr x => exact LOk.one ih rfl
theorem qentry_ok (as : List Value) (mx : Nat) (h : (as.map fun v => v.category).sum ≤ mx) : QLocOk ad (qentry as mx) (argsToLocals (as.map (qv ad)).toArray mx) ∧ (argsToLocals (as.map (qv ad)).toArray mx).size = mx := by
 have e : (argsToLocals (as.map (qv ad)).toArray mx).toList = (as.map (qv ad)).flatMap slotsOf ++ List.replicate (mx - (as.map fun v => v.category).sum) .unset := by
  unfold argsToLocals
  have q := fold_slots (as.map (qv ad)) #[]
  simp only [List.foldl_toArray', Array.toList_append, Array.toList_replicate]
  have q2 : ((as.map (qv ad)).foldl (fun (acc : Array Slot) (v : Value) => if v.category = 2 then (acc.push (.val v)).push .second else acc.push (.val v)) #[]).size = (as.map fun v => v.category).sum := by
   rw [← Array.length_toList, q]
   simp only [List.nil_append]
   rw [slots_len, cats_qv]
  rw [q, q2]
  simp
 have H := entry_list (ad := ad) as (mx - (as.map fun v => v.category).sum)
 rw [← e] at H
 obtain ⟨h1, h2, h3, h4⟩ := H
 have hs : (argsToLocals (as.map (qv ad)).toArray mx).size = mx := by
  rw [← Array.length_toList, e, List.length_append, slots_len, cats_qv, List.length_replicate]
  omega
 refine ⟨⟨h1.trans Array.length_toList, fun k u hk => ?_, fun k w hk hw => ?_, fun k hk => ?_⟩, hs⟩
 ·have := h2 k u hk; rwa [Array.getElem?_toList] at this
 ·have := h3 k w (by rw [Array.getElem?_toList]; exact hk) hw; rwa [Array.getElem?_toList] at this
 ·obtain ⟨j, w, z1, z2, z3⟩ := h4 k (by rw [Array.getElem?_toList]; exact hk)
  exact ⟨j, w, z1, by rwa [Array.getElem?_toList] at z2, z3⟩
set_option maxHeartbeats 4000000 in
theorem QTri.met {k : Nat} {as : List Value} {σ σ₁ : QHeap} {w : Option Value} {h0 : Heap} (hk : k < pN) (h : QTri l Z n0 ad k (0, qentry as (pMaxL k), [], σ) w σ₁) (hR : QRep Z n0 ad h0 σ) (hlen : (as.map fun v => v.category).sum ≤ pMaxL k) (hret : pRet k = none → w = none) (ws : List Jvm.Cond) {rm : Room}
  (r1 : pFr k ≤ rm.frames) (r2 : pLo k ≤ rm.locals) (r3 : σ₁.length - σ.length ≤ rm.cells) (r4 : qhs σ₁ - qhs σ ≤ rm.slots) :
  MetFree l (pName k) (head1 (Jvm.Cond.code (pName k) (pBytes k) (pMaxL k) (pRet k) :: ws) rm) (fun a U => a = (as.map (qv ad)).toArray ∧ Z.Warmed39 U.vm ∧ U.heap = h0) (fun _ _ _ _ _ => True)
   (fun _ U o U' => ∃ v L, o = .returned v ∧ (v = w.map (qv ad) ∧ QRep Z n0 ad U'.heap σ₁ ∧ Fr n0 L) ∧ FrameEnd U o U' L (σ₁.length - σ.length) (qhs σ₁ - qhs σ)) := by
 refine MetFree.of_bodySF (plainFor_of_name (kPlain _ (pKlt k hk))) hisR ?_
 intro p e s mid args below meth c s₁ Bd hml0 hP hK
 obtain ⟨rfl, hZ, hh⟩ := hP
 have e0 : s₁.heap = h0 := by rw [← hh, Bd.state]; rfl
 obtain ⟨hl1, hl2⟩ := qentry_ok (ad := ad) as (pMaxL k) hlen
 have hX : Stand p l e rm s mid (as.map (qv ad)).toArray below meth c s₁ [] 0 0 := Stand.of_body Bd
 obtain ⟨T', locs', X', R', F', S'⟩ := h.2.2 p e rm s mid _ below meth c s₁ [] 0 0 _ ⟨Bd.exec, hZ, Bd.bytes, hml0, Bd.returns, findClass_of_methodNamed Bd.named, (name_of_methodNamed Bd.named Bd.method).1, r1, r2⟩ hX (by rw [e0]; exact hR) (Fr.nil _) hl1 (hl2.trans hml0.symm) (by rw [hh, Nat.add_zero]; exact hR.2.1.symm) (by rw [Nat.zero_add]; exact r3) (by rw [Nat.zero_add]; exact r4)
 obtain ⟨fs, hr, hrun, hended, hW, hsame⟩ := X'.leave (v := w.map (qv ad)) (fun q => by rw [hret (Bd.returns.symm.trans q)]; rfl)
 refine ⟨_, _, S' fs hr, hrun, hended, _, _, rfl, ⟨rfl, R', F'⟩, ⟨_, rfl⟩, hW, ?_⟩
 simp only [Nat.zero_add] at hsame
 exact hsame
theorem QTri.room {k : Nat} {σ σ₁ : QHeap} {rest : List Value} {R : Room} (hroom : (Nat.ble (pFr k + 1) (pFr m) && Nat.ble ((rest.map fun v => v.category).sum + (pMaxL k + 11) + pLo k) (pLo m)) = true) (hfr : pFr m ≤ R.frames) (hlo : pLo m ≤ R.locals) :
  pFr k + 1 ≤ R.frames ∧ (rest.map fun v => v.category).sum + (pMaxL k + 11) + pLo k ≤ R.locals := by
 obtain ⟨q1, q2⟩ := Bool.and_eq_true_iff.mp hroom
 exact ⟨Nat.le_trans (Nat.le_of_ble_eq_true q1) hfr, Nat.le_trans (Nat.le_of_ble_eq_true q2) hlo⟩
theorem sig_len {k : Nat} (hk : k < pN) {as : List Value} (hna : as.length = pNA k) : ∀ sig, parseMethodDescriptor (pName k).desc = some sig → (as.map (qv ad)).length = sig.parameters.length := fun sig hs => by
 have q := pSig k hk
 rw [show parseMethodDescriptor (pDs k) = some sig from hs] at q
 simp at q
 simp [hna, q]
theorem ret_map (w : Option Value) (rest : List Value) : (w.toList ++ rest).map (qv ad) = (w.map (qv ad)).toList ++ rest.map (qv ad) := by cases w <;> simp
theorem QTri.after {as0 : List Value} {pc : Nat} {L : QLoc} {S rest : List Value} {σ σ₁ : QHeap} {w : Option Value} {k : Nat} (hcal : QTri l Z n0 ad k (0, qentry as0 (pMaxL k), [], σ) w σ₁) (h : QTri l Z n0 ad m (pc + 3, L, w.toList ++ rest, σ₁) v σ')
  (hs : ∀ (p : Program) (e : Env) (R : Room) (s : State) (mid : MethodId) (args : Array Value) (below : List Frame) (meth : Method) (c : Code) (T : State) (locs : List Loc) (cells slots : Nat) (C : Array Slot),
   QCx Z p R s mid meth c m → Stand p l e R s mid args below meth c T locs cells slots → QRep Z n0 ad T.heap σ → C.size = c.maxLocals → cells + (σ₁.length - σ.length) ≤ R.cells → slots + (qhs σ₁ - qhs σ) ≤ R.slots →
   ∃ T₁ Lc, Stand p l e R s mid args below meth c T₁ (locs ++ Lc) (cells + (σ₁.length - σ.length)) (slots + (qhs σ₁ - qhs σ)) ∧ QRep Z n0 ad T₁.heap σ₁ ∧ Fr n0 Lc ∧
    ∀ target, Steps p.tables e below (T₁.setTop (mkF mid (pc + 3) C ((w.map (qv ad)).toList ++ rest.map (qv ad)))) target → Steps p.tables e below (T.setTop (mkF mid pc C (S.map (qv ad)))) target) :
  QTri l Z n0 ad m (pc, L, S, σ) v σ' := by
 refine QTri.gen h hcal.1 hcal.2.1 fun p e R s mid args below meth c T locs cells slots C hcx X hR hF hL hC hn hc1 hsl => ?_
 obtain ⟨T₁, Lc, X₁, R₁, F₁, st⟩ := hs p e R s mid args below meth c T locs cells slots C hcx X hR hC hc1 hsl
 refine ⟨T₁, locs ++ Lc, C, X₁, R₁, hF.app F₁, hL, hC, fun target q => st target ?_⟩
 rw [← ret_map]
 exact q
set_option maxHeartbeats 4000000 in
theorem QTri.callV (W : QW Z a0) {pc idx k a : Nat} {L : QLoc} {S as rest vs : List Value} {σ σ₁ : QHeap} {w : Option Value} (hc : pCode m pc = some (.invokevirtual idx, k)) (hm : (lkV.contains (pK m, idx, k) && mV.contains k) = true) (hcell : hget σ a = some (.inl vs)) (hS : S = as.reverse ++ .ref a :: rest)
  (hna : as.length = pNA k) (hlen : Nat.ble (((Value.ref a :: as).map fun v => v.category).sum) (pMaxL k) = true) (hroom : (Nat.ble (pFr k + 1) (pFr m) && Nat.ble ((rest.map fun v => v.category).sum + (pMaxL k + 11) + pLo k) (pLo m)) = true) (hrb : (w.isNone || (pRet k).isSome) = true)
  (hcal : QTri l Z n0 ad k (0, qentry (.ref a :: as) (pMaxL k), [], σ) w σ₁) (h : QTri l Z n0 ad m (pc + 3, L, w.toList ++ rest, σ₁) v σ') : QTri l Z n0 ad m (pc, L, S, σ) v σ' := by
 have hd : decode (pBytes m) pc = .ok (.invokevirtual idx, 3) := pDecN hc rfl
 subst hS
 obtain ⟨m1, m2⟩ := Bool.and_eq_true_iff.mp hm
 have m1 := mem_of_contains m1
 have m2 := mem_of_contains m2
 have hkA := (mVlt k m2).1
 have hkN := mAlt k hkA
 have hret : pRet k = none → w = none := fun q => by
  rw [q] at hrb
  cases w with
  | none => rfl
  | some w => simp at hrb
 refine QTri.after hcal h fun p e R s mid args below meth c T locs cells slots C hcx X hR hC hc1 hsl => ?_
 obtain ⟨hx, hZ, hby, hml, hret', hown, hnm, hfr, hlo⟩ := hcx
 have hd2 : decode c.code pc = .ok (.invokevirtual idx, 3) := by rw [hby]; exact hd
 obtain ⟨f1, f2⟩ := QTri.room (σ := σ) (σ₁ := σ₁) hroom hfr hlo
 obtain ⟨cq, kq, q1, q2, q3⟩ := isOf hZ rfl (hR.2.2 _ _ hcell).1
 obtain ⟨w1, w2, w3⟩ := (qw_vi W) k m2
 obtain ⟨c1, c2⟩ := (qw_cod W) k hkA
 obtain ⟨_, _, ⟨T₁, L₁, k₁, n₁⟩, -, X₁, ⟨Lc, ⟨rfl, hR1, hF1⟩, l₁, y₁, z₁⟩, st⟩ := X.virtualBack hx (own := kName (pK m)) (index := idx) (y := pName k) (z := pName k) hown (mvT hZ (qw_ml W (pK m, idx, k) m1)) (mvT hZ w1) (notFace_of_selects (args := #[]) (mvT hZ w2)) (mvT hZ w2) (mvT hZ w3) (pOwn _ (pKlt k hkN))
  (backOf (W := (rest.map fun v => v.category).sum) (rm := ⟨pFr k, σ₁.length - σ.length, qhs σ₁ - qhs σ, pLo k⟩) (Q := fun v h L => v = Option.map (qv ad) w ∧ QRep Z n0 ad h σ₁ ∧ Fr n0 L) (QTri.met hkN hcal hR (Nat.le_of_ble_eq_true hlen) hret [] (Nat.le_refl _) (Nat.le_refl _) (Nat.le_refl _) (Nat.le_refl _)) hZ c1 c2 f1 f2) q1 q3 (g := mkF mid pc C (List.map (qv ad) (as.reverse ++ .ref a :: rest))) rfl hC (Steps.refl _) (argsL := as.map (qv ad)) (rest := rest.map (qv ad)) (sig_len hkN hna) (by simp [qv]) (by show 2 * 0 + _ ≤ _; rw [cats_qv]; omega) hd2 (fun _ _ => ⟨rfl, rfl, hc1, hsl⟩)
 dsimp only [Pt.U, Pt.locs, Pt.cells, Pt.slots] at X₁ l₁ y₁ z₁ st hR1
 subst l₁ y₁ z₁
 exact ⟨T₁, Lc, X₁, hR1, hF1, fun target q => st.trans q⟩
set_option maxHeartbeats 4000000 in
theorem QTri.callI (W : QW Z a0) {pc idx k a : Nat} {L : QLoc} {S as rest : List Value} {σ σ₁ : QHeap} (hc : pCode m pc = some (.invokespecial idx, k)) (hm : (lkV.contains (pK m, idx, k) && mI.contains k) = true) (hS : S = as.reverse ++ .ref a :: rest)
  (hna : as.length = pNA k) (hlen : Nat.ble (((Value.ref a :: as).map fun v => v.category).sum) (pMaxL k) = true) (hroom : (Nat.ble (pFr k + 1) (pFr m) && Nat.ble ((rest.map fun v => v.category).sum + (pMaxL k + 11) + pLo k) (pLo m)) = true)
  (hcal : QTri l Z n0 ad k (0, qentry (.ref a :: as) (pMaxL k), [], σ) none σ₁) (h : QTri l Z n0 ad m (pc + 3, L, rest, σ₁) v σ') : QTri l Z n0 ad m (pc, L, S, σ) v σ' := by
 have hd : decode (pBytes m) pc = .ok (.invokespecial idx, 3) := pDecN hc rfl
 subst hS
 obtain ⟨m1, m2⟩ := Bool.and_eq_true_iff.mp hm
 have m1 := mem_of_contains m1
 have m2 := mem_of_contains m2
 obtain ⟨hkA, -, hin, hrt⟩ := mIlt k m2
 have hkN := mAlt k hkA
 refine QTri.after (w := none) hcal h fun p e R s mid args below meth c T locs cells slots C hcx X hR hC hc1 hsl => ?_
 obtain ⟨hx, hZ, hby, hml, hret', hown, hnm, hfr, hlo⟩ := hcx
 have hd2 : decode c.code pc = .ok (.invokespecial idx, 3) := by rw [hby]; exact hd
 obtain ⟨f1, f2⟩ := QTri.room (σ := σ) (σ₁ := σ₁) hroom hfr hlo
 obtain ⟨c1, c2⟩ := (qw_cod W) k hkA
 have c1' := c1
 rw [hrt] at c1'
 obtain ⟨_, _, ⟨T₁, L₁, k₁, n₁⟩, -, X₁, ⟨Lc, ⟨rfl, hR1, hF1⟩, l₁, y₁, z₁⟩, st⟩ := X.specialBack hx (own := kName (pK m)) (index := idx) (y := pName k) hin hown (mvT hZ (qw_ml W (pK m, idx, k) m1)) (mvT hZ ((qw_ini W) k m2)) (mvT hZ c1') (pOwn _ (pKlt k hkN))
  (backOf (W := (rest.map fun v => v.category).sum) (rm := ⟨pFr k, σ₁.length - σ.length, qhs σ₁ - qhs σ, pLo k⟩) (Q := fun v h L => v = Option.map (qv ad) none ∧ QRep Z n0 ad h σ₁ ∧ Fr n0 L) (QTri.met hkN hcal hR (Nat.le_of_ble_eq_true hlen) (fun _ => rfl) [] (Nat.le_refl _) (Nat.le_refl _) (Nat.le_refl _) (Nat.le_refl _)) hZ c1 c2 f1 f2) (g := mkF mid pc C (List.map (qv ad) (as.reverse ++ .ref a :: rest))) rfl hC (Steps.refl _) (a := ad a) (argsL := as.map (qv ad)) (rest := rest.map (qv ad)) (sig_len hkN hna) (by simp [qv]) (by show 2 * 0 + _ ≤ _; rw [cats_qv]; omega) hd2 (fun _ _ => ⟨rfl, rfl, hc1, hsl⟩)
 dsimp only [Pt.U, Pt.locs, Pt.cells, Pt.slots] at X₁ l₁ y₁ z₁ st hR1
 subst l₁ y₁ z₁
 exact ⟨T₁, Lc, X₁, hR1, hF1, fun target q => st.trans q⟩
set_option maxHeartbeats 4000000 in
theorem QTri.callP (W : QW Z a0) {pc idx k a : Nat} {L : QLoc} {S as rest vs : List Value} {σ σ₁ : QHeap} {w : Option Value} (hc : pCode m pc = some (.invokevirtual idx, k)) (hm : (lkV.contains (pK m, idx, k) && mP.contains k) = true) (hcell : hget σ a = some (.inl vs)) (hS : S = as.reverse ++ .ref a :: rest)
  (hna : as.length = pNA k) (hlen : Nat.ble (((Value.ref a :: as).map fun v => v.category).sum) (pMaxL k) = true) (hroom : (Nat.ble (pFr k + 1) (pFr m) && Nat.ble ((rest.map fun v => v.category).sum + (pMaxL k + 11) + pLo k) (pLo m)) = true) (hrb : (w.isNone || (pRet k).isSome) = true)
  (hcal : QTri l Z n0 ad k (0, qentry (.ref a :: as) (pMaxL k), [], σ) w σ₁) (h : QTri l Z n0 ad m (pc + 3, L, w.toList ++ rest, σ₁) v σ') : QTri l Z n0 ad m (pc, L, S, σ) v σ' := by
 have hd : decode (pBytes m) pc = .ok (.invokevirtual idx, 3) := pDecN hc rfl
 subst hS
 obtain ⟨m1, m2⟩ := Bool.and_eq_true_iff.mp hm
 have m1 := mem_of_contains m1
 have m2 := mem_of_contains m2
 obtain ⟨hkA, hk1⟩ := mPlt k m2
 have hkN := mAlt k hkA
 have hret : pRet k = none → w = none := fun q => by
  rw [q] at hrb
  cases w with
  | none => rfl
  | some w => simp at hrb
 refine QTri.after hcal h fun p e R s mid args below meth c T locs cells slots C hcx X hR hC hc1 hsl => ?_
 obtain ⟨hx, hZ, hby, hml, hret', hown, hnm, hfr, hlo⟩ := hcx
 have hd2 : decode c.code pc = .ok (.invokevirtual idx, 3) := by rw [hby]; exact hd
 obtain ⟨f1, f2⟩ := QTri.room (σ := σ) (σ₁ := σ₁) hroom hfr hlo
 obtain ⟨cell, h1, h2⟩ := (hR.2.2 _ _ hcell).1.cell
 obtain ⟨w1, w2⟩ := (qw_pr W) k m2
 obtain ⟨c1, c2⟩ := (qw_cod W) k hkA
 have hpr : s.PrivateAt (pName k) := Cond.privateMethod_at (mvP hZ w2 (args := #[]))
 obtain ⟨cC, kC, i1, i2, i3, i4⟩ := Cond.instantiable_spec (args := #[]) (mvT hZ (qw_inst W))
 have hsel : (Cond.selects (pName k).cls (pName k) (pName k)).before args s = true := selects_self_of_private (c := cC) (k := kC) (by show s.vm.findClass (kName (pK k)) = _; rw [hk1]; exact i1) i2 (by have q := i4.1; cases hq : kC.isInterface with | false => rfl | true => rw [hq] at q; simp at q) hpr (mvT hZ w1) (pOwn _ (pKlt k hkN))
 obtain ⟨_, _, ⟨T₁, L₁, k₁, n₁⟩, -, X₁, ⟨Lc, ⟨rfl, hR1, hF1⟩, l₁, y₁, z₁⟩, st⟩ := X.privateBack hx (own := kName (pK m)) (index := idx) (y := pName k) hown (mvT hZ (qw_ml W (pK m, idx, k) m1)) (mvT hZ w1) hsel hpr (mvT hZ c1) (pOwn _ (pKlt k hkN))
  (backOf (W := (rest.map fun v => v.category).sum) (rm := ⟨pFr k, σ₁.length - σ.length, qhs σ₁ - qhs σ, pLo k⟩) (Q := fun v h L => v = Option.map (qv ad) w ∧ QRep Z n0 ad h σ₁ ∧ Fr n0 L) (QTri.met hkN hcal hR (Nat.le_of_ble_eq_true hlen) hret [] (Nat.le_refl _) (Nat.le_refl _) (Nat.le_refl _) (Nat.le_refl _)) hZ c1 c2 f1 f2) (g := mkF mid pc C (List.map (qv ad) (as.reverse ++ .ref a :: rest))) rfl hC (Steps.refl _) (a := ad a) h1 h2 (argsL := as.map (qv ad)) (rest := rest.map (qv ad)) (sig_len hkN hna) (by simp [qv]) (by show 2 * 0 + _ ≤ _; rw [cats_qv]; omega) hd2 (fun _ _ => ⟨rfl, rfl, hc1, hsl⟩)
 dsimp only [Pt.U, Pt.locs, Pt.cells, Pt.slots] at X₁ l₁ y₁ z₁ st hR1
 subst l₁ y₁ z₁
 exact ⟨T₁, Lc, X₁, hR1, hF1, fun target q => st.trans q⟩
set_option maxHeartbeats 4000000 in
theorem QTri.callS (W : QW Z a0) {pc idx k : Nat} {L : QLoc} {S as rest : List Value} {σ σ₁ : QHeap} {w : Option Value} (hc : pCode m pc = some (.invokestatic idx, k)) (hm : (lkV.contains (pK m, idx, k) && mS.contains k) = true) (hS : S = as.reverse ++ rest)
  (hna : as.length = pNA k) (hlen : Nat.ble ((as.map fun v => v.category).sum) (pMaxL k) = true) (hroom : (Nat.ble (pFr k + 1) (pFr m) && Nat.ble ((rest.map fun v => v.category).sum + (pMaxL k + 11) + pLo k) (pLo m)) = true) (hrb : (w.isNone || (pRet k).isSome) = true)
  (hcal : QTri l Z n0 ad k (0, qentry as (pMaxL k), [], σ) w σ₁) (h : QTri l Z n0 ad m (pc + 3, L, w.toList ++ rest, σ₁) v σ') : QTri l Z n0 ad m (pc, L, S, σ) v σ' := by
 have hd : decode (pBytes m) pc = .ok (.invokestatic idx, 3) := pDecN hc rfl
 subst hS
 obtain ⟨m1, m2⟩ := Bool.and_eq_true_iff.mp hm
 have m1 := mem_of_contains m1
 have m2 := mem_of_contains m2
 have hkA := mSlt k m2
 have hkN := mAlt k hkA
 have hret : pRet k = none → w = none := fun q => by
  rw [q] at hrb
  cases w with
  | none => rfl
  | some w => simp at hrb
 refine QTri.after hcal h fun p e R s mid args below meth c T locs cells slots C hcx X hR hC hc1 hsl => ?_
 obtain ⟨hx, hZ, hby, hml, hret', hown, hnm, hfr, hlo⟩ := hcx
 have hd2 : decode c.code pc = .ok (.invokestatic idx, 3) := by rw [hby]; exact hd
 obtain ⟨f1, f2⟩ := QTri.room (σ := σ) (σ₁ := σ₁) hroom hfr hlo
 obtain ⟨c1, c2⟩ := (qw_cod W) k hkA
 obtain ⟨_, _, ⟨T₁, L₁, k₁, n₁⟩, -, X₁, ⟨Lc, ⟨rfl, hR1, hF1⟩, l₁, y₁, z₁⟩, st⟩ := Jvm.LawKit.callS X hx (own := kName (pK m)) (index := idx) (y := pName k) hown (mvT hZ (qw_ml W (pK m, idx, k) m1)) (mvT hZ ((qw_st W) k m2)) (mvT hZ c2) (mvT hZ c1) (pOwn _ (pKlt k hkN))
  (backOf (W := (rest.map fun v => v.category).sum) (rm := ⟨pFr k, σ₁.length - σ.length, qhs σ₁ - qhs σ, pLo k⟩) (Q := fun v h L => v = Option.map (qv ad) w ∧ QRep Z n0 ad h σ₁ ∧ Fr n0 L) (QTri.met hkN hcal hR (Nat.le_of_ble_eq_true hlen) hret [] (Nat.le_refl _) (Nat.le_refl _) (Nat.le_refl _) (Nat.le_refl _)) hZ c1 c2 f1 f2) (g := mkF mid pc C (List.map (qv ad) (as.reverse ++ rest))) rfl hC (argsL := as.map (qv ad)) (rest := rest.map (qv ad)) (sig_len hkN hna) (by simp) (by show 2 * 0 + _ ≤ _; rw [cats_qv]; omega) hd2 (fun _ _ => ⟨rfl, rfl, hc1, hsl⟩)
 dsimp only [Pt.U, Pt.locs, Pt.cells, Pt.slots] at X₁ l₁ y₁ z₁ st hR1
 subst l₁ y₁ z₁
 exact ⟨T₁, Lc, X₁, hR1, hF1, fun target q => st target q⟩
set_option maxHeartbeats 4000000 in
theorem QTri.callO (W : QW Z a0) {pc idx k a : Nat} {L : QLoc} {rest : List Value} {σ : QHeap} (hc : pCode m pc = some (.invokespecial idx, k)) (hm : lkO.contains (pK m, idx) = true) (hroom : (Nat.ble 1 (pFr m) && Nat.ble ((rest.map fun v => v.category).sum + 12) (pLo m)) = true)
  (h : QTri l Z n0 ad m (pc + 3, L, rest, σ) v σ') : QTri l Z n0 ad m (pc, L, .ref a :: rest, σ) v σ' :=
 have hd : decode (pBytes m) pc = .ok (.invokespecial idx, 3) := pDecN hc rfl
 QTri.pure h rfl fun p e R s mid args below meth c T locs cells slots C hcx X hR hL hC => by
  obtain ⟨hx, hZ, hby, hml, hret', hown, hnm, hfr, hlo⟩ := hcx
  have hd2 : decode c.code pc = .ok (.invokespecial idx, 3) := by rw [hby]; exact hd
  obtain ⟨q1, q2⟩ := Bool.and_eq_true_iff.mp hroom
  obtain ⟨T₁, X₁, e₁, st⟩ := initO X hx hZ hown (idx := idx) (qw_mo W (pK m, idx) (mem_of_contains hm)) ((qw_oi W)) ((qw_oc W)) rfl (g := mkF mid pc C (List.map (qv ad) (.ref a :: rest))) rfl hC rfl hd2 (Nat.le_trans (Nat.le_of_ble_eq_true q1) hfr) (W := (rest.map fun v => v.category).sum) (by show 2 * 0 + _ ≤ _; rw [cats_qv]; omega) (Nat.le_trans (Nat.le_of_ble_eq_true q2) hlo)
  exact ⟨T₁, C, X₁, e₁, hL, hC, st⟩
theorem QTri.brT (Ad : QAd n0 ad) (W : QW Z a0) {st : QSt} {t f : Nat} {L : QLoc} {S : List Value} {σ : QHeap} {b : Bool} (hs : qstep m st = some (bif b then t else f, L, S, σ)) (hb : b = true) (h : QTri l Z n0 ad m (t, L, S, σ) v σ') : QTri l Z n0 ad m st v σ' := by
 subst hb; exact QTri.step Ad W h hs
theorem QTri.brF (Ad : QAd n0 ad) (W : QW Z a0) {st : QSt} {t f : Nat} {L : QLoc} {S : List Value} {σ : QHeap} {b : Bool} (hs : qstep m st = some (bif b then t else f, L, S, σ)) (hb : b = false) (h : QTri l Z n0 ad m (f, L, S, σ) v σ') : QTri l Z n0 ad m st v σ' := by
 subst hb; exact QTri.step Ad W h hs
theorem QTri.bnd {α : Type} (Ad : QAd n0 ad) (W : QW Z a0) {st : QSt} {x : Option α} {f : α → QSt} {a : α} (hs : qstep m st = x.bind fun v => some (f v)) (hx : x = some a) (h : QTri l Z n0 ad m (f a) v σ') : QTri l Z n0 ad m st v σ' :=
 QTri.step Ad W h (by rw [hs, hx]; rfl)
end Triples
theorem qite {α : Type} {c : Prop} [Decidable c] {a b : Option α} {r : α} (h : (if c then a else b) = some r) : (c ∧ a = some r) ∨ (¬ c ∧ b = some r) := by
 by_cases hc : c
 ·exact Or.inl ⟨hc, by rwa [if_pos hc] at h⟩
 ·exact Or.inr ⟨hc, by rwa [if_neg hc] at h⟩
def qN : Nat := 4000
def loopN {V E : Type} (B : V → Option (E ⊕ V)) : Nat → V → Option E
 | 0, _ => none
 | n + 1, v => match B v with
  | none => none
  | some (.inl e) => some e
  | some (.inr v') => loopN B n v'
theorem loopN_tri {V E : Type} {B : V → Option (E ⊕ V)} {T : V → Prop} {KE : E → Prop} (hB : ∀ v r, B v = some r → (∀ e, r = .inl e → KE e) → (∀ v', r = .inr v' → T v') → T v) : ∀ (n : Nat) (v : V) (e : E), loopN B n v = some e → KE e → T v
 | 0, _, _, h, _ => by cases h
 | n + 1, v, e, h, k => by
  simp only [loopN] at h
  split at h
  ·cases h
  ·rename_i e' he
   cases h
   exact hB v _ he (fun e q => by cases q; exact k) (fun v' q => by cases q)
  ·rename_i v' he
   exact hB v _ he (fun e q => by cases q) (fun v'' q => by cases q; exact loopN_tri hB n v' e h k)
theorem loopN_inv {V E : Type} {B : V → Option (E ⊕ V)} (I : V → Prop) (P : E → Prop) (μ : V → Nat) (hB : ∀ v, I v → (∃ e, B v = some (.inl e) ∧ P e) ∨ ∃ v', B v = some (.inr v') ∧ I v' ∧ μ v' < μ v) : ∀ (n : Nat) (v : V), I v → μ v < n → ∃ e, loopN B n v = some e ∧ P e
 | 0, _, _, h => absurd h (Nat.not_lt_zero _)
 | n + 1, v, hv, hm => by
  rcases hB v hv with ⟨e, h1, h2⟩ | ⟨v', h1, h2, h3⟩
  ·exact ⟨e, by simp only [loopN, h1], h2⟩
  ·obtain ⟨e, g1, g2⟩ := loopN_inv I P μ hB n v' h2 (by omega)
   exact ⟨e, by simp only [loopN, h1]; exact g1, g2⟩
theorem qfn {α : Type} {P : α → Prop} : ∀ t ∈ ([] : List α), P t := fun _ h => nomatch h
theorem qfc {α : Type} {P : α → Prop} {a : α} {t : List α} (h : P a) (ht : ∀ x ∈ t, P x) : ∀ x ∈ a :: t, P x := fun x hx => by rcases List.mem_cons.mp hx with rfl | q; exact h; exact ht x q
theorem hW {Z : State} {a0 : Array Value} (hw : ∀ d ∈ tables_1, d.before a0 Z = true) (i : Nat) {c : Jvm.Cond} (h : tables_1[i]? = some c) : c.before a0 Z = true := hw c (List.mem_of_getElem? h)
theorem QW_ok {Z : State} {a0 : Array Value} (hw : ∀ d ∈ tables_1, d.before a0 Z = true) : QW Z a0 := by
  have w0 : ∀ k ∈ List.range nF, bif fFin k then (Jvm.Cond.laysFinal cName cName (fNm k) (fDs k)).before a0 Z = true else (Jvm.Cond.lays cName cName (fNm k) (fDs k)).before a0 Z = true :=
    show ∀ k ∈ [0, 1, 2, 3, 4, 5, 6, 7, 8, 9, 10, 11, 12, 13, 14, 15, 16, 17, 18, 19, 20, 21, 22, 23, 24, 25, 26, 27, 28, 29, 30, 31, 32, 33, 34, 35, 36, 37, 38, 39, 40, 41, 42, 43, 44, 45, 46, 47], bif fFin k then (Jvm.Cond.laysFinal cName cName (fNm k) (fDs k)).before a0 Z = true else (Jvm.Cond.lays cName cName (fNm k) (fDs k)).before a0 Z = true from
    (qfc (hW hw 10 rfl) (qfc (hW hw 12 rfl) (qfc (hW hw 14 rfl) (qfc (hW hw 16 rfl) (qfc (hW hw 18 rfl) (qfc (hW hw 20 rfl) (qfc (hW hw 22 rfl) (qfc (hW hw 24 rfl) (qfc (hW hw 26 rfl) (qfc (hW hw 28 rfl) (qfc (hW hw 30 rfl) (qfc (hW hw 32 rfl) (qfc (hW hw 35 rfl) (qfc (hW hw 38 rfl) (qfc (hW hw 41 rfl) (qfc (hW hw 44 rfl) (qfc (hW hw 46 rfl) (qfc (hW hw 48 rfl) (qfc (hW hw 50 rfl) (qfc (hW hw 52 rfl) (qfc (hW hw 54 rfl) (qfc (hW hw 56 rfl) (qfc (hW hw 58 rfl) (qfc (hW hw 60 rfl) (qfc (hW hw 62 rfl) (qfc (hW hw 64 rfl) (qfc (hW hw 66 rfl) (qfc (hW hw 68 rfl) (qfc (hW hw 71 rfl) (qfc (hW hw 73 rfl) (qfc (hW hw 75 rfl) (qfc (hW hw 77 rfl) (qfc (hW hw 79 rfl) (qfc (hW hw 81 rfl) (qfc (hW hw 87 rfl) (qfc (hW hw 89 rfl) (qfc (hW hw 96 rfl) (qfc (hW hw 98 rfl) (qfc (hW hw 100 rfl) (qfc (hW hw 102 rfl) (qfc (hW hw 104 rfl) (qfc (hW hw 106 rfl) (qfc (hW hw 108 rfl) (qfc (hW hw 110 rfl) (qfc (hW hw 112 rfl) (qfc (hW hw 114 rfl) (qfc (hW hw 116 rfl) (qfc (hW hw 118 rfl) qfn))))))))))))))))))))))))))))))))))))))))))))))))
  refine ⟨?_, ?_, ?_, ?_, ?_, ?_, ?_, ?_, ?_, ?_, ?_, ?_, ?_, (fun k hk => w0 k (List.mem_range.mpr hk)), ?_, ?_, ?_⟩
  · exact (qfc (hW hw 9 rfl) (qfc (hW hw 11 rfl) (qfc (hW hw 13 rfl) (qfc (hW hw 15 rfl) (qfc (hW hw 17 rfl) (qfc (hW hw 19 rfl) (qfc (hW hw 21 rfl) (qfc (hW hw 23 rfl) (qfc (hW hw 25 rfl) (qfc (hW hw 27 rfl) (qfc (hW hw 29 rfl) (qfc (hW hw 31 rfl) (qfc (hW hw 34 rfl) (qfc (hW hw 37 rfl) (qfc (hW hw 40 rfl) (qfc (hW hw 43 rfl) (qfc (hW hw 45 rfl) (qfc (hW hw 47 rfl) (qfc (hW hw 49 rfl) (qfc (hW hw 51 rfl) (qfc (hW hw 53 rfl) (qfc (hW hw 55 rfl) (qfc (hW hw 57 rfl) (qfc (hW hw 59 rfl) (qfc (hW hw 61 rfl) (qfc (hW hw 63 rfl) (qfc (hW hw 65 rfl) (qfc (hW hw 67 rfl) (qfc (hW hw 70 rfl) (qfc (hW hw 72 rfl) (qfc (hW hw 74 rfl) (qfc (hW hw 76 rfl) (qfc (hW hw 78 rfl) (qfc (hW hw 80 rfl) (qfc (hW hw 86 rfl) (qfc (hW hw 88 rfl) (qfc (hW hw 95 rfl) (qfc (hW hw 97 rfl) (qfc (hW hw 99 rfl) (qfc (hW hw 101 rfl) (qfc (hW hw 103 rfl) (qfc (hW hw 105 rfl) (qfc (hW hw 107 rfl) (qfc (hW hw 109 rfl) (qfc (hW hw 111 rfl) (qfc (hW hw 113 rfl) (qfc (hW hw 115 rfl) (qfc (hW hw 117 rfl) qfn))))))))))))))))))))))))))))))))))))))))))))))))
  · exact (qfc (hW hw 0 rfl) qfn)
  · exact (qfc ⟨_, rfl, (hW hw 36 rfl)⟩ qfn)
  · exact (qfc ⟨_, rfl, (hW hw 33 rfl)⟩ (qfc ⟨_, rfl, (hW hw 203 rfl)⟩ (qfc ⟨_, rfl, (hW hw 232 rfl)⟩ (qfc ⟨_, rfl, (hW hw 237 rfl)⟩ (qfc ⟨_, rfl, (hW hw 238 rfl)⟩ qfn)))))
  · exact (qfc (hW hw 3 rfl) (qfc (hW hw 82 rfl) (qfc (hW hw 90 rfl) (qfc (hW hw 119 rfl) (qfc (hW hw 124 rfl) (qfc (hW hw 128 rfl) (qfc (hW hw 132 rfl) (qfc (hW hw 136 rfl) (qfc (hW hw 140 rfl) (qfc (hW hw 144 rfl) (qfc (hW hw 148 rfl) (qfc (hW hw 153 rfl) (qfc (hW hw 158 rfl) (qfc (hW hw 163 rfl) (qfc (hW hw 168 rfl) (qfc (hW hw 173 rfl) (qfc (hW hw 177 rfl) (qfc (hW hw 181 rfl) (qfc (hW hw 186 rfl) (qfc (hW hw 190 rfl) (qfc (hW hw 195 rfl) (qfc (hW hw 199 rfl) (qfc (hW hw 204 rfl) (qfc (hW hw 209 rfl) (qfc (hW hw 214 rfl) (qfc (hW hw 219 rfl) (qfc (hW hw 223 rfl) (qfc (hW hw 228 rfl) (qfc (hW hw 233 rfl) (qfc (hW hw 239 rfl) (qfc (hW hw 243 rfl) (qfc (hW hw 247 rfl) (qfc (hW hw 251 rfl) (qfc (hW hw 255 rfl) (qfc (hW hw 259 rfl) (qfc (hW hw 263 rfl) (qfc (hW hw 267 rfl) (qfc (hW hw 271 rfl) (qfc (hW hw 275 rfl) (qfc (hW hw 280 rfl) (qfc (hW hw 281 rfl) qfn)))))))))))))))))))))))))))))))))))))))))
  · exact (qfc (hW hw 6 rfl) qfn)
  · exact (qfc ⟨(hW hw 91 rfl), (hW hw 93 rfl), (hW hw 92 rfl)⟩ (qfc ⟨(hW hw 120 rfl), (hW hw 122 rfl), (hW hw 121 rfl)⟩ (qfc ⟨(hW hw 149 rfl), (hW hw 151 rfl), (hW hw 150 rfl)⟩ (qfc ⟨(hW hw 154 rfl), (hW hw 156 rfl), (hW hw 155 rfl)⟩ (qfc ⟨(hW hw 159 rfl), (hW hw 161 rfl), (hW hw 160 rfl)⟩ (qfc ⟨(hW hw 164 rfl), (hW hw 166 rfl), (hW hw 165 rfl)⟩ (qfc ⟨(hW hw 169 rfl), (hW hw 171 rfl), (hW hw 170 rfl)⟩ (qfc ⟨(hW hw 182 rfl), (hW hw 184 rfl), (hW hw 183 rfl)⟩ (qfc ⟨(hW hw 191 rfl), (hW hw 193 rfl), (hW hw 192 rfl)⟩ (qfc ⟨(hW hw 205 rfl), (hW hw 207 rfl), (hW hw 206 rfl)⟩ (qfc ⟨(hW hw 210 rfl), (hW hw 212 rfl), (hW hw 211 rfl)⟩ (qfc ⟨(hW hw 215 rfl), (hW hw 217 rfl), (hW hw 216 rfl)⟩ (qfc ⟨(hW hw 224 rfl), (hW hw 226 rfl), (hW hw 225 rfl)⟩ (qfc ⟨(hW hw 276 rfl), (hW hw 278 rfl), (hW hw 277 rfl)⟩ qfn))))))))))))))
  · exact (qfc ⟨(hW hw 83 rfl), (hW hw 84 rfl)⟩ (qfc ⟨(hW hw 125 rfl), (hW hw 126 rfl)⟩ (qfc ⟨(hW hw 129 rfl), (hW hw 130 rfl)⟩ (qfc ⟨(hW hw 133 rfl), (hW hw 134 rfl)⟩ (qfc ⟨(hW hw 137 rfl), (hW hw 138 rfl)⟩ (qfc ⟨(hW hw 141 rfl), (hW hw 142 rfl)⟩ (qfc ⟨(hW hw 174 rfl), (hW hw 175 rfl)⟩ (qfc ⟨(hW hw 178 rfl), (hW hw 179 rfl)⟩ (qfc ⟨(hW hw 187 rfl), (hW hw 188 rfl)⟩ (qfc ⟨(hW hw 196 rfl), (hW hw 197 rfl)⟩ (qfc ⟨(hW hw 200 rfl), (hW hw 201 rfl)⟩ (qfc ⟨(hW hw 220 rfl), (hW hw 221 rfl)⟩ (qfc ⟨(hW hw 229 rfl), (hW hw 230 rfl)⟩ (qfc ⟨(hW hw 234 rfl), (hW hw 235 rfl)⟩ (qfc ⟨(hW hw 240 rfl), (hW hw 241 rfl)⟩ (qfc ⟨(hW hw 244 rfl), (hW hw 245 rfl)⟩ (qfc ⟨(hW hw 248 rfl), (hW hw 249 rfl)⟩ (qfc ⟨(hW hw 252 rfl), (hW hw 253 rfl)⟩ (qfc ⟨(hW hw 256 rfl), (hW hw 257 rfl)⟩ (qfc ⟨(hW hw 260 rfl), (hW hw 261 rfl)⟩ (qfc ⟨(hW hw 264 rfl), (hW hw 265 rfl)⟩ (qfc ⟨(hW hw 268 rfl), (hW hw 269 rfl)⟩ (qfc ⟨(hW hw 272 rfl), (hW hw 273 rfl)⟩ (qfc ⟨(hW hw 282 rfl), (hW hw 283 rfl)⟩ qfn))))))))))))))))))))))))
  · exact (qfc (hW hw 145 rfl) qfn)
  · exact (qfc (hW hw 4 rfl) qfn)
  · exact (qfc ⟨(hW hw 5 rfl), (hW hw 2 rfl)⟩ (qfc ⟨(hW hw 85 rfl), (hW hw 2 rfl)⟩ (qfc ⟨(hW hw 94 rfl), (hW hw 2 rfl)⟩ (qfc ⟨(hW hw 123 rfl), (hW hw 2 rfl)⟩ (qfc ⟨(hW hw 127 rfl), (hW hw 2 rfl)⟩ (qfc ⟨(hW hw 131 rfl), (hW hw 2 rfl)⟩ (qfc ⟨(hW hw 135 rfl), (hW hw 2 rfl)⟩ (qfc ⟨(hW hw 139 rfl), (hW hw 2 rfl)⟩ (qfc ⟨(hW hw 143 rfl), (hW hw 2 rfl)⟩ (qfc ⟨(hW hw 147 rfl), (hW hw 146 rfl)⟩ (qfc ⟨(hW hw 152 rfl), (hW hw 2 rfl)⟩ (qfc ⟨(hW hw 157 rfl), (hW hw 2 rfl)⟩ (qfc ⟨(hW hw 162 rfl), (hW hw 2 rfl)⟩ (qfc ⟨(hW hw 167 rfl), (hW hw 2 rfl)⟩ (qfc ⟨(hW hw 172 rfl), (hW hw 2 rfl)⟩ (qfc ⟨(hW hw 176 rfl), (hW hw 2 rfl)⟩ (qfc ⟨(hW hw 180 rfl), (hW hw 2 rfl)⟩ (qfc ⟨(hW hw 185 rfl), (hW hw 2 rfl)⟩ (qfc ⟨(hW hw 189 rfl), (hW hw 2 rfl)⟩ (qfc ⟨(hW hw 194 rfl), (hW hw 2 rfl)⟩ (qfc ⟨(hW hw 198 rfl), (hW hw 2 rfl)⟩ (qfc ⟨(hW hw 202 rfl), (hW hw 2 rfl)⟩ (qfc ⟨(hW hw 208 rfl), (hW hw 2 rfl)⟩ (qfc ⟨(hW hw 213 rfl), (hW hw 2 rfl)⟩ (qfc ⟨(hW hw 218 rfl), (hW hw 2 rfl)⟩ (qfc ⟨(hW hw 222 rfl), (hW hw 2 rfl)⟩ (qfc ⟨(hW hw 227 rfl), (hW hw 2 rfl)⟩ (qfc ⟨(hW hw 231 rfl), (hW hw 2 rfl)⟩ (qfc ⟨(hW hw 236 rfl), (hW hw 2 rfl)⟩ (qfc ⟨(hW hw 242 rfl), (hW hw 2 rfl)⟩ (qfc ⟨(hW hw 246 rfl), (hW hw 2 rfl)⟩ (qfc ⟨(hW hw 250 rfl), (hW hw 2 rfl)⟩ (qfc ⟨(hW hw 254 rfl), (hW hw 2 rfl)⟩ (qfc ⟨(hW hw 258 rfl), (hW hw 2 rfl)⟩ (qfc ⟨(hW hw 262 rfl), (hW hw 2 rfl)⟩ (qfc ⟨(hW hw 266 rfl), (hW hw 2 rfl)⟩ (qfc ⟨(hW hw 270 rfl), (hW hw 2 rfl)⟩ (qfc ⟨(hW hw 274 rfl), (hW hw 2 rfl)⟩ (qfc ⟨(hW hw 279 rfl), (hW hw 2 rfl)⟩ (qfc ⟨(hW hw 284 rfl), (hW hw 2 rfl)⟩ qfn))))))))))))))))))))))))))))))))))))))))
  · exact (hW hw 7 rfl)
  · exact (hW hw 8 rfl)
  · exact (hW hw 1 rfl)
  · exact (hW hw 2 rfl)
  · exact (qfc (hW hw 39 rfl) (qfc (hW hw 42 rfl) (qfc (hW hw 69 rfl) qfn)))
abbrev Ob := Int32 × Int32 × Int32 × Int32 × Int32 × Int32 × Int32 × Int32 × Int32 × Int32 × Int32 × Int32 × Int64 × Int32 × List Int32 × List Int32 × List Int32 × List Int32 × List Int32 × List Int32 × List Int32 × List Int32 × List Int32 × List Int32 × List Int32 × List Int32 × List Int32 × List Int32 × List Int64 × List Int32 × List Int32 × List Int32 × List Int32 × List Int32 × Int32 × Int32 × Int32 × Int32 × Int32 × Int32 × Int32 × Int32 × Int32 × Int32 × Int32 × Int32 × Int32 × Int32
def fA (o : Ob) : Int32 := o.1
def fB (o : Ob) : Int32 := o.2.1
def fC (o : Ob) : Int32 := o.2.2.1
def fD (o : Ob) : Int32 := o.2.2.2.1
def fE (o : Ob) : Int32 := o.2.2.2.2.1
def fF (o : Ob) : Int32 := o.2.2.2.2.2.1
def fG (o : Ob) : Int32 := o.2.2.2.2.2.2.1
def fH (o : Ob) : Int32 := o.2.2.2.2.2.2.2.1
def fI (o : Ob) : Int32 := o.2.2.2.2.2.2.2.2.1
def fJ (o : Ob) : Int32 := o.2.2.2.2.2.2.2.2.2.1
def fK (o : Ob) : Int32 := o.2.2.2.2.2.2.2.2.2.2.1
def fL (o : Ob) : Int32 := o.2.2.2.2.2.2.2.2.2.2.2.1
def fM (o : Ob) : Int64 := o.2.2.2.2.2.2.2.2.2.2.2.2.1
def fN (o : Ob) : Int32 := o.2.2.2.2.2.2.2.2.2.2.2.2.2.1
def fR (o : Ob) : List Int32 := o.2.2.2.2.2.2.2.2.2.2.2.2.2.2.1
def fT (o : Ob) : List Int32 := o.2.2.2.2.2.2.2.2.2.2.2.2.2.2.2.1
def fU (o : Ob) : List Int32 := o.2.2.2.2.2.2.2.2.2.2.2.2.2.2.2.2.1
def fV (o : Ob) : List Int32 := o.2.2.2.2.2.2.2.2.2.2.2.2.2.2.2.2.2.1
def fW (o : Ob) : List Int32 := o.2.2.2.2.2.2.2.2.2.2.2.2.2.2.2.2.2.2.1
def fX (o : Ob) : List Int32 := o.2.2.2.2.2.2.2.2.2.2.2.2.2.2.2.2.2.2.2.1
def fY (o : Ob) : List Int32 := o.2.2.2.2.2.2.2.2.2.2.2.2.2.2.2.2.2.2.2.2.1
def fZ (o : Ob) : List Int32 := o.2.2.2.2.2.2.2.2.2.2.2.2.2.2.2.2.2.2.2.2.2.1
def fd (o : Ob) : List Int32 := o.2.2.2.2.2.2.2.2.2.2.2.2.2.2.2.2.2.2.2.2.2.2.1
def ff (o : Ob) : List Int32 := o.2.2.2.2.2.2.2.2.2.2.2.2.2.2.2.2.2.2.2.2.2.2.2.1
def fh (o : Ob) : List Int32 := o.2.2.2.2.2.2.2.2.2.2.2.2.2.2.2.2.2.2.2.2.2.2.2.2.1
def fi (o : Ob) : List Int32 := o.2.2.2.2.2.2.2.2.2.2.2.2.2.2.2.2.2.2.2.2.2.2.2.2.2.1
def fm (o : Ob) : List Int32 := o.2.2.2.2.2.2.2.2.2.2.2.2.2.2.2.2.2.2.2.2.2.2.2.2.2.2.1
def fq (o : Ob) : List Int32 := o.2.2.2.2.2.2.2.2.2.2.2.2.2.2.2.2.2.2.2.2.2.2.2.2.2.2.2.1
def fu (o : Ob) : List Int64 := o.2.2.2.2.2.2.2.2.2.2.2.2.2.2.2.2.2.2.2.2.2.2.2.2.2.2.2.2.1
def fy (o : Ob) : List Int32 := o.2.2.2.2.2.2.2.2.2.2.2.2.2.2.2.2.2.2.2.2.2.2.2.2.2.2.2.2.2.1
def fz (o : Ob) : List Int32 := o.2.2.2.2.2.2.2.2.2.2.2.2.2.2.2.2.2.2.2.2.2.2.2.2.2.2.2.2.2.2.1
def fxA (o : Ob) : List Int32 := o.2.2.2.2.2.2.2.2.2.2.2.2.2.2.2.2.2.2.2.2.2.2.2.2.2.2.2.2.2.2.2.1
def fxB (o : Ob) : List Int32 := o.2.2.2.2.2.2.2.2.2.2.2.2.2.2.2.2.2.2.2.2.2.2.2.2.2.2.2.2.2.2.2.2.1
def fxC (o : Ob) : List Int32 := o.2.2.2.2.2.2.2.2.2.2.2.2.2.2.2.2.2.2.2.2.2.2.2.2.2.2.2.2.2.2.2.2.2.1
def fxD (o : Ob) : Int32 := o.2.2.2.2.2.2.2.2.2.2.2.2.2.2.2.2.2.2.2.2.2.2.2.2.2.2.2.2.2.2.2.2.2.2.1
def fxE (o : Ob) : Int32 := o.2.2.2.2.2.2.2.2.2.2.2.2.2.2.2.2.2.2.2.2.2.2.2.2.2.2.2.2.2.2.2.2.2.2.2.1
def fxF (o : Ob) : Int32 := o.2.2.2.2.2.2.2.2.2.2.2.2.2.2.2.2.2.2.2.2.2.2.2.2.2.2.2.2.2.2.2.2.2.2.2.2.1
def fxG (o : Ob) : Int32 := o.2.2.2.2.2.2.2.2.2.2.2.2.2.2.2.2.2.2.2.2.2.2.2.2.2.2.2.2.2.2.2.2.2.2.2.2.2.1
def fxH (o : Ob) : Int32 := o.2.2.2.2.2.2.2.2.2.2.2.2.2.2.2.2.2.2.2.2.2.2.2.2.2.2.2.2.2.2.2.2.2.2.2.2.2.2.1
def fxI (o : Ob) : Int32 := o.2.2.2.2.2.2.2.2.2.2.2.2.2.2.2.2.2.2.2.2.2.2.2.2.2.2.2.2.2.2.2.2.2.2.2.2.2.2.2.1
def fxJ (o : Ob) : Int32 := o.2.2.2.2.2.2.2.2.2.2.2.2.2.2.2.2.2.2.2.2.2.2.2.2.2.2.2.2.2.2.2.2.2.2.2.2.2.2.2.2.1
def fxK (o : Ob) : Int32 := o.2.2.2.2.2.2.2.2.2.2.2.2.2.2.2.2.2.2.2.2.2.2.2.2.2.2.2.2.2.2.2.2.2.2.2.2.2.2.2.2.2.1
def fxL (o : Ob) : Int32 := o.2.2.2.2.2.2.2.2.2.2.2.2.2.2.2.2.2.2.2.2.2.2.2.2.2.2.2.2.2.2.2.2.2.2.2.2.2.2.2.2.2.2.1
def fxM (o : Ob) : Int32 := o.2.2.2.2.2.2.2.2.2.2.2.2.2.2.2.2.2.2.2.2.2.2.2.2.2.2.2.2.2.2.2.2.2.2.2.2.2.2.2.2.2.2.2.1
def fxN (o : Ob) : Int32 := o.2.2.2.2.2.2.2.2.2.2.2.2.2.2.2.2.2.2.2.2.2.2.2.2.2.2.2.2.2.2.2.2.2.2.2.2.2.2.2.2.2.2.2.2.1
def fxO (o : Ob) : Int32 := o.2.2.2.2.2.2.2.2.2.2.2.2.2.2.2.2.2.2.2.2.2.2.2.2.2.2.2.2.2.2.2.2.2.2.2.2.2.2.2.2.2.2.2.2.2.1
def fxP (o : Ob) : Int32 := o.2.2.2.2.2.2.2.2.2.2.2.2.2.2.2.2.2.2.2.2.2.2.2.2.2.2.2.2.2.2.2.2.2.2.2.2.2.2.2.2.2.2.2.2.2.2.1
def fxQ (o : Ob) : Int32 := o.2.2.2.2.2.2.2.2.2.2.2.2.2.2.2.2.2.2.2.2.2.2.2.2.2.2.2.2.2.2.2.2.2.2.2.2.2.2.2.2.2.2.2.2.2.2.2
def sA (o : Ob) (v : Int32) : Ob := (v, fB o, fC o, fD o, fE o, fF o, fG o, fH o, fI o, fJ o, fK o, fL o, fM o, fN o, fR o, fT o, fU o, fV o, fW o, fX o, fY o, fZ o, fd o, ff o, fh o, fi o, fm o, fq o, fu o, fy o, fz o, fxA o, fxB o, fxC o, fxD o, fxE o, fxF o, fxG o, fxH o, fxI o, fxJ o, fxK o, fxL o, fxM o, fxN o, fxO o, fxP o, fxQ o)
def sB (o : Ob) (v : Int32) : Ob := (fA o, v, fC o, fD o, fE o, fF o, fG o, fH o, fI o, fJ o, fK o, fL o, fM o, fN o, fR o, fT o, fU o, fV o, fW o, fX o, fY o, fZ o, fd o, ff o, fh o, fi o, fm o, fq o, fu o, fy o, fz o, fxA o, fxB o, fxC o, fxD o, fxE o, fxF o, fxG o, fxH o, fxI o, fxJ o, fxK o, fxL o, fxM o, fxN o, fxO o, fxP o, fxQ o)
def sC (o : Ob) (v : Int32) : Ob := (fA o, fB o, v, fD o, fE o, fF o, fG o, fH o, fI o, fJ o, fK o, fL o, fM o, fN o, fR o, fT o, fU o, fV o, fW o, fX o, fY o, fZ o, fd o, ff o, fh o, fi o, fm o, fq o, fu o, fy o, fz o, fxA o, fxB o, fxC o, fxD o, fxE o, fxF o, fxG o, fxH o, fxI o, fxJ o, fxK o, fxL o, fxM o, fxN o, fxO o, fxP o, fxQ o)
def sD (o : Ob) (v : Int32) : Ob := (fA o, fB o, fC o, v, fE o, fF o, fG o, fH o, fI o, fJ o, fK o, fL o, fM o, fN o, fR o, fT o, fU o, fV o, fW o, fX o, fY o, fZ o, fd o, ff o, fh o, fi o, fm o, fq o, fu o, fy o, fz o, fxA o, fxB o, fxC o, fxD o, fxE o, fxF o, fxG o, fxH o, fxI o, fxJ o, fxK o, fxL o, fxM o, fxN o, fxO o, fxP o, fxQ o)
def sE (o : Ob) (v : Int32) : Ob := (fA o, fB o, fC o, fD o, v, fF o, fG o, fH o, fI o, fJ o, fK o, fL o, fM o, fN o, fR o, fT o, fU o, fV o, fW o, fX o, fY o, fZ o, fd o, ff o, fh o, fi o, fm o, fq o, fu o, fy o, fz o, fxA o, fxB o, fxC o, fxD o, fxE o, fxF o, fxG o, fxH o, fxI o, fxJ o, fxK o, fxL o, fxM o, fxN o, fxO o, fxP o, fxQ o)
def sF (o : Ob) (v : Int32) : Ob := (fA o, fB o, fC o, fD o, fE o, v, fG o, fH o, fI o, fJ o, fK o, fL o, fM o, fN o, fR o, fT o, fU o, fV o, fW o, fX o, fY o, fZ o, fd o, ff o, fh o, fi o, fm o, fq o, fu o, fy o, fz o, fxA o, fxB o, fxC o, fxD o, fxE o, fxF o, fxG o, fxH o, fxI o, fxJ o, fxK o, fxL o, fxM o, fxN o, fxO o, fxP o, fxQ o)
def sG (o : Ob) (v : Int32) : Ob := (fA o, fB o, fC o, fD o, fE o, fF o, v, fH o, fI o, fJ o, fK o, fL o, fM o, fN o, fR o, fT o, fU o, fV o, fW o, fX o, fY o, fZ o, fd o, ff o, fh o, fi o, fm o, fq o, fu o, fy o, fz o, fxA o, fxB o, fxC o, fxD o, fxE o, fxF o, fxG o, fxH o, fxI o, fxJ o, fxK o, fxL o, fxM o, fxN o, fxO o, fxP o, fxQ o)
def sH (o : Ob) (v : Int32) : Ob := (fA o, fB o, fC o, fD o, fE o, fF o, fG o, v, fI o, fJ o, fK o, fL o, fM o, fN o, fR o, fT o, fU o, fV o, fW o, fX o, fY o, fZ o, fd o, ff o, fh o, fi o, fm o, fq o, fu o, fy o, fz o, fxA o, fxB o, fxC o, fxD o, fxE o, fxF o, fxG o, fxH o, fxI o, fxJ o, fxK o, fxL o, fxM o, fxN o, fxO o, fxP o, fxQ o)
def sI (o : Ob) (v : Int32) : Ob := (fA o, fB o, fC o, fD o, fE o, fF o, fG o, fH o, v, fJ o, fK o, fL o, fM o, fN o, fR o, fT o, fU o, fV o, fW o, fX o, fY o, fZ o, fd o, ff o, fh o, fi o, fm o, fq o, fu o, fy o, fz o, fxA o, fxB o, fxC o, fxD o, fxE o, fxF o, fxG o, fxH o, fxI o, fxJ o, fxK o, fxL o, fxM o, fxN o, fxO o, fxP o, fxQ o)
def sJ (o : Ob) (v : Int32) : Ob := (fA o, fB o, fC o, fD o, fE o, fF o, fG o, fH o, fI o, v, fK o, fL o, fM o, fN o, fR o, fT o, fU o, fV o, fW o, fX o, fY o, fZ o, fd o, ff o, fh o, fi o, fm o, fq o, fu o, fy o, fz o, fxA o, fxB o, fxC o, fxD o, fxE o, fxF o, fxG o, fxH o, fxI o, fxJ o, fxK o, fxL o, fxM o, fxN o, fxO o, fxP o, fxQ o)
def sK (o : Ob) (v : Int32) : Ob := (fA o, fB o, fC o, fD o, fE o, fF o, fG o, fH o, fI o, fJ o, v, fL o, fM o, fN o, fR o, fT o, fU o, fV o, fW o, fX o, fY o, fZ o, fd o, ff o, fh o, fi o, fm o, fq o, fu o, fy o, fz o, fxA o, fxB o, fxC o, fxD o, fxE o, fxF o, fxG o, fxH o, fxI o, fxJ o, fxK o, fxL o, fxM o, fxN o, fxO o, fxP o, fxQ o)
def sL (o : Ob) (v : Int32) : Ob := (fA o, fB o, fC o, fD o, fE o, fF o, fG o, fH o, fI o, fJ o, fK o, v, fM o, fN o, fR o, fT o, fU o, fV o, fW o, fX o, fY o, fZ o, fd o, ff o, fh o, fi o, fm o, fq o, fu o, fy o, fz o, fxA o, fxB o, fxC o, fxD o, fxE o, fxF o, fxG o, fxH o, fxI o, fxJ o, fxK o, fxL o, fxM o, fxN o, fxO o, fxP o, fxQ o)
def sM (o : Ob) (v : Int64) : Ob := (fA o, fB o, fC o, fD o, fE o, fF o, fG o, fH o, fI o, fJ o, fK o, fL o, v, fN o, fR o, fT o, fU o, fV o, fW o, fX o, fY o, fZ o, fd o, ff o, fh o, fi o, fm o, fq o, fu o, fy o, fz o, fxA o, fxB o, fxC o, fxD o, fxE o, fxF o, fxG o, fxH o, fxI o, fxJ o, fxK o, fxL o, fxM o, fxN o, fxO o, fxP o, fxQ o)
def sN (o : Ob) (v : Int32) : Ob := (fA o, fB o, fC o, fD o, fE o, fF o, fG o, fH o, fI o, fJ o, fK o, fL o, fM o, v, fR o, fT o, fU o, fV o, fW o, fX o, fY o, fZ o, fd o, ff o, fh o, fi o, fm o, fq o, fu o, fy o, fz o, fxA o, fxB o, fxC o, fxD o, fxE o, fxF o, fxG o, fxH o, fxI o, fxJ o, fxK o, fxL o, fxM o, fxN o, fxO o, fxP o, fxQ o)
def sR (o : Ob) (v : List Int32) : Ob := (fA o, fB o, fC o, fD o, fE o, fF o, fG o, fH o, fI o, fJ o, fK o, fL o, fM o, fN o, v, fT o, fU o, fV o, fW o, fX o, fY o, fZ o, fd o, ff o, fh o, fi o, fm o, fq o, fu o, fy o, fz o, fxA o, fxB o, fxC o, fxD o, fxE o, fxF o, fxG o, fxH o, fxI o, fxJ o, fxK o, fxL o, fxM o, fxN o, fxO o, fxP o, fxQ o)
def sT (o : Ob) (v : List Int32) : Ob := (fA o, fB o, fC o, fD o, fE o, fF o, fG o, fH o, fI o, fJ o, fK o, fL o, fM o, fN o, fR o, v, fU o, fV o, fW o, fX o, fY o, fZ o, fd o, ff o, fh o, fi o, fm o, fq o, fu o, fy o, fz o, fxA o, fxB o, fxC o, fxD o, fxE o, fxF o, fxG o, fxH o, fxI o, fxJ o, fxK o, fxL o, fxM o, fxN o, fxO o, fxP o, fxQ o)
def sU (o : Ob) (v : List Int32) : Ob := (fA o, fB o, fC o, fD o, fE o, fF o, fG o, fH o, fI o, fJ o, fK o, fL o, fM o, fN o, fR o, fT o, v, fV o, fW o, fX o, fY o, fZ o, fd o, ff o, fh o, fi o, fm o, fq o, fu o, fy o, fz o, fxA o, fxB o, fxC o, fxD o, fxE o, fxF o, fxG o, fxH o, fxI o, fxJ o, fxK o, fxL o, fxM o, fxN o, fxO o, fxP o, fxQ o)
def sV (o : Ob) (v : List Int32) : Ob := (fA o, fB o, fC o, fD o, fE o, fF o, fG o, fH o, fI o, fJ o, fK o, fL o, fM o, fN o, fR o, fT o, fU o, v, fW o, fX o, fY o, fZ o, fd o, ff o, fh o, fi o, fm o, fq o, fu o, fy o, fz o, fxA o, fxB o, fxC o, fxD o, fxE o, fxF o, fxG o, fxH o, fxI o, fxJ o, fxK o, fxL o, fxM o, fxN o, fxO o, fxP o, fxQ o)
def sW (o : Ob) (v : List Int32) : Ob := (fA o, fB o, fC o, fD o, fE o, fF o, fG o, fH o, fI o, fJ o, fK o, fL o, fM o, fN o, fR o, fT o, fU o, fV o, v, fX o, fY o, fZ o, fd o, ff o, fh o, fi o, fm o, fq o, fu o, fy o, fz o, fxA o, fxB o, fxC o, fxD o, fxE o, fxF o, fxG o, fxH o, fxI o, fxJ o, fxK o, fxL o, fxM o, fxN o, fxO o, fxP o, fxQ o)
def sX (o : Ob) (v : List Int32) : Ob := (fA o, fB o, fC o, fD o, fE o, fF o, fG o, fH o, fI o, fJ o, fK o, fL o, fM o, fN o, fR o, fT o, fU o, fV o, fW o, v, fY o, fZ o, fd o, ff o, fh o, fi o, fm o, fq o, fu o, fy o, fz o, fxA o, fxB o, fxC o, fxD o, fxE o, fxF o, fxG o, fxH o, fxI o, fxJ o, fxK o, fxL o, fxM o, fxN o, fxO o, fxP o, fxQ o)
def sY (o : Ob) (v : List Int32) : Ob := (fA o, fB o, fC o, fD o, fE o, fF o, fG o, fH o, fI o, fJ o, fK o, fL o, fM o, fN o, fR o, fT o, fU o, fV o, fW o, fX o, v, fZ o, fd o, ff o, fh o, fi o, fm o, fq o, fu o, fy o, fz o, fxA o, fxB o, fxC o, fxD o, fxE o, fxF o, fxG o, fxH o, fxI o, fxJ o, fxK o, fxL o, fxM o, fxN o, fxO o, fxP o, fxQ o)
def sZ (o : Ob) (v : List Int32) : Ob := (fA o, fB o, fC o, fD o, fE o, fF o, fG o, fH o, fI o, fJ o, fK o, fL o, fM o, fN o, fR o, fT o, fU o, fV o, fW o, fX o, fY o, v, fd o, ff o, fh o, fi o, fm o, fq o, fu o, fy o, fz o, fxA o, fxB o, fxC o, fxD o, fxE o, fxF o, fxG o, fxH o, fxI o, fxJ o, fxK o, fxL o, fxM o, fxN o, fxO o, fxP o, fxQ o)
def sd (o : Ob) (v : List Int32) : Ob := (fA o, fB o, fC o, fD o, fE o, fF o, fG o, fH o, fI o, fJ o, fK o, fL o, fM o, fN o, fR o, fT o, fU o, fV o, fW o, fX o, fY o, fZ o, v, ff o, fh o, fi o, fm o, fq o, fu o, fy o, fz o, fxA o, fxB o, fxC o, fxD o, fxE o, fxF o, fxG o, fxH o, fxI o, fxJ o, fxK o, fxL o, fxM o, fxN o, fxO o, fxP o, fxQ o)
def sf (o : Ob) (v : List Int32) : Ob := (fA o, fB o, fC o, fD o, fE o, fF o, fG o, fH o, fI o, fJ o, fK o, fL o, fM o, fN o, fR o, fT o, fU o, fV o, fW o, fX o, fY o, fZ o, fd o, v, fh o, fi o, fm o, fq o, fu o, fy o, fz o, fxA o, fxB o, fxC o, fxD o, fxE o, fxF o, fxG o, fxH o, fxI o, fxJ o, fxK o, fxL o, fxM o, fxN o, fxO o, fxP o, fxQ o)
def sh (o : Ob) (v : List Int32) : Ob := (fA o, fB o, fC o, fD o, fE o, fF o, fG o, fH o, fI o, fJ o, fK o, fL o, fM o, fN o, fR o, fT o, fU o, fV o, fW o, fX o, fY o, fZ o, fd o, ff o, v, fi o, fm o, fq o, fu o, fy o, fz o, fxA o, fxB o, fxC o, fxD o, fxE o, fxF o, fxG o, fxH o, fxI o, fxJ o, fxK o, fxL o, fxM o, fxN o, fxO o, fxP o, fxQ o)
def si (o : Ob) (v : List Int32) : Ob := (fA o, fB o, fC o, fD o, fE o, fF o, fG o, fH o, fI o, fJ o, fK o, fL o, fM o, fN o, fR o, fT o, fU o, fV o, fW o, fX o, fY o, fZ o, fd o, ff o, fh o, v, fm o, fq o, fu o, fy o, fz o, fxA o, fxB o, fxC o, fxD o, fxE o, fxF o, fxG o, fxH o, fxI o, fxJ o, fxK o, fxL o, fxM o, fxN o, fxO o, fxP o, fxQ o)
def sm (o : Ob) (v : List Int32) : Ob := (fA o, fB o, fC o, fD o, fE o, fF o, fG o, fH o, fI o, fJ o, fK o, fL o, fM o, fN o, fR o, fT o, fU o, fV o, fW o, fX o, fY o, fZ o, fd o, ff o, fh o, fi o, v, fq o, fu o, fy o, fz o, fxA o, fxB o, fxC o, fxD o, fxE o, fxF o, fxG o, fxH o, fxI o, fxJ o, fxK o, fxL o, fxM o, fxN o, fxO o, fxP o, fxQ o)
def sq (o : Ob) (v : List Int32) : Ob := (fA o, fB o, fC o, fD o, fE o, fF o, fG o, fH o, fI o, fJ o, fK o, fL o, fM o, fN o, fR o, fT o, fU o, fV o, fW o, fX o, fY o, fZ o, fd o, ff o, fh o, fi o, fm o, v, fu o, fy o, fz o, fxA o, fxB o, fxC o, fxD o, fxE o, fxF o, fxG o, fxH o, fxI o, fxJ o, fxK o, fxL o, fxM o, fxN o, fxO o, fxP o, fxQ o)
def su (o : Ob) (v : List Int64) : Ob := (fA o, fB o, fC o, fD o, fE o, fF o, fG o, fH o, fI o, fJ o, fK o, fL o, fM o, fN o, fR o, fT o, fU o, fV o, fW o, fX o, fY o, fZ o, fd o, ff o, fh o, fi o, fm o, fq o, v, fy o, fz o, fxA o, fxB o, fxC o, fxD o, fxE o, fxF o, fxG o, fxH o, fxI o, fxJ o, fxK o, fxL o, fxM o, fxN o, fxO o, fxP o, fxQ o)
def sy (o : Ob) (v : List Int32) : Ob := (fA o, fB o, fC o, fD o, fE o, fF o, fG o, fH o, fI o, fJ o, fK o, fL o, fM o, fN o, fR o, fT o, fU o, fV o, fW o, fX o, fY o, fZ o, fd o, ff o, fh o, fi o, fm o, fq o, fu o, v, fz o, fxA o, fxB o, fxC o, fxD o, fxE o, fxF o, fxG o, fxH o, fxI o, fxJ o, fxK o, fxL o, fxM o, fxN o, fxO o, fxP o, fxQ o)
def sz (o : Ob) (v : List Int32) : Ob := (fA o, fB o, fC o, fD o, fE o, fF o, fG o, fH o, fI o, fJ o, fK o, fL o, fM o, fN o, fR o, fT o, fU o, fV o, fW o, fX o, fY o, fZ o, fd o, ff o, fh o, fi o, fm o, fq o, fu o, fy o, v, fxA o, fxB o, fxC o, fxD o, fxE o, fxF o, fxG o, fxH o, fxI o, fxJ o, fxK o, fxL o, fxM o, fxN o, fxO o, fxP o, fxQ o)
def sxA (o : Ob) (v : List Int32) : Ob := (fA o, fB o, fC o, fD o, fE o, fF o, fG o, fH o, fI o, fJ o, fK o, fL o, fM o, fN o, fR o, fT o, fU o, fV o, fW o, fX o, fY o, fZ o, fd o, ff o, fh o, fi o, fm o, fq o, fu o, fy o, fz o, v, fxB o, fxC o, fxD o, fxE o, fxF o, fxG o, fxH o, fxI o, fxJ o, fxK o, fxL o, fxM o, fxN o, fxO o, fxP o, fxQ o)
def sxB (o : Ob) (v : List Int32) : Ob := (fA o, fB o, fC o, fD o, fE o, fF o, fG o, fH o, fI o, fJ o, fK o, fL o, fM o, fN o, fR o, fT o, fU o, fV o, fW o, fX o, fY o, fZ o, fd o, ff o, fh o, fi o, fm o, fq o, fu o, fy o, fz o, fxA o, v, fxC o, fxD o, fxE o, fxF o, fxG o, fxH o, fxI o, fxJ o, fxK o, fxL o, fxM o, fxN o, fxO o, fxP o, fxQ o)
def sxC (o : Ob) (v : List Int32) : Ob := (fA o, fB o, fC o, fD o, fE o, fF o, fG o, fH o, fI o, fJ o, fK o, fL o, fM o, fN o, fR o, fT o, fU o, fV o, fW o, fX o, fY o, fZ o, fd o, ff o, fh o, fi o, fm o, fq o, fu o, fy o, fz o, fxA o, fxB o, v, fxD o, fxE o, fxF o, fxG o, fxH o, fxI o, fxJ o, fxK o, fxL o, fxM o, fxN o, fxO o, fxP o, fxQ o)
def sxD (o : Ob) (v : Int32) : Ob := (fA o, fB o, fC o, fD o, fE o, fF o, fG o, fH o, fI o, fJ o, fK o, fL o, fM o, fN o, fR o, fT o, fU o, fV o, fW o, fX o, fY o, fZ o, fd o, ff o, fh o, fi o, fm o, fq o, fu o, fy o, fz o, fxA o, fxB o, fxC o, v, fxE o, fxF o, fxG o, fxH o, fxI o, fxJ o, fxK o, fxL o, fxM o, fxN o, fxO o, fxP o, fxQ o)
def sxE (o : Ob) (v : Int32) : Ob := (fA o, fB o, fC o, fD o, fE o, fF o, fG o, fH o, fI o, fJ o, fK o, fL o, fM o, fN o, fR o, fT o, fU o, fV o, fW o, fX o, fY o, fZ o, fd o, ff o, fh o, fi o, fm o, fq o, fu o, fy o, fz o, fxA o, fxB o, fxC o, fxD o, v, fxF o, fxG o, fxH o, fxI o, fxJ o, fxK o, fxL o, fxM o, fxN o, fxO o, fxP o, fxQ o)
def sxF (o : Ob) (v : Int32) : Ob := (fA o, fB o, fC o, fD o, fE o, fF o, fG o, fH o, fI o, fJ o, fK o, fL o, fM o, fN o, fR o, fT o, fU o, fV o, fW o, fX o, fY o, fZ o, fd o, ff o, fh o, fi o, fm o, fq o, fu o, fy o, fz o, fxA o, fxB o, fxC o, fxD o, fxE o, v, fxG o, fxH o, fxI o, fxJ o, fxK o, fxL o, fxM o, fxN o, fxO o, fxP o, fxQ o)
def sxG (o : Ob) (v : Int32) : Ob := (fA o, fB o, fC o, fD o, fE o, fF o, fG o, fH o, fI o, fJ o, fK o, fL o, fM o, fN o, fR o, fT o, fU o, fV o, fW o, fX o, fY o, fZ o, fd o, ff o, fh o, fi o, fm o, fq o, fu o, fy o, fz o, fxA o, fxB o, fxC o, fxD o, fxE o, fxF o, v, fxH o, fxI o, fxJ o, fxK o, fxL o, fxM o, fxN o, fxO o, fxP o, fxQ o)
def sxH (o : Ob) (v : Int32) : Ob := (fA o, fB o, fC o, fD o, fE o, fF o, fG o, fH o, fI o, fJ o, fK o, fL o, fM o, fN o, fR o, fT o, fU o, fV o, fW o, fX o, fY o, fZ o, fd o, ff o, fh o, fi o, fm o, fq o, fu o, fy o, fz o, fxA o, fxB o, fxC o, fxD o, fxE o, fxF o, fxG o, v, fxI o, fxJ o, fxK o, fxL o, fxM o, fxN o, fxO o, fxP o, fxQ o)
def sxI (o : Ob) (v : Int32) : Ob := (fA o, fB o, fC o, fD o, fE o, fF o, fG o, fH o, fI o, fJ o, fK o, fL o, fM o, fN o, fR o, fT o, fU o, fV o, fW o, fX o, fY o, fZ o, fd o, ff o, fh o, fi o, fm o, fq o, fu o, fy o, fz o, fxA o, fxB o, fxC o, fxD o, fxE o, fxF o, fxG o, fxH o, v, fxJ o, fxK o, fxL o, fxM o, fxN o, fxO o, fxP o, fxQ o)
def sxJ (o : Ob) (v : Int32) : Ob := (fA o, fB o, fC o, fD o, fE o, fF o, fG o, fH o, fI o, fJ o, fK o, fL o, fM o, fN o, fR o, fT o, fU o, fV o, fW o, fX o, fY o, fZ o, fd o, ff o, fh o, fi o, fm o, fq o, fu o, fy o, fz o, fxA o, fxB o, fxC o, fxD o, fxE o, fxF o, fxG o, fxH o, fxI o, v, fxK o, fxL o, fxM o, fxN o, fxO o, fxP o, fxQ o)
def sxK (o : Ob) (v : Int32) : Ob := (fA o, fB o, fC o, fD o, fE o, fF o, fG o, fH o, fI o, fJ o, fK o, fL o, fM o, fN o, fR o, fT o, fU o, fV o, fW o, fX o, fY o, fZ o, fd o, ff o, fh o, fi o, fm o, fq o, fu o, fy o, fz o, fxA o, fxB o, fxC o, fxD o, fxE o, fxF o, fxG o, fxH o, fxI o, fxJ o, v, fxL o, fxM o, fxN o, fxO o, fxP o, fxQ o)
def sxL (o : Ob) (v : Int32) : Ob := (fA o, fB o, fC o, fD o, fE o, fF o, fG o, fH o, fI o, fJ o, fK o, fL o, fM o, fN o, fR o, fT o, fU o, fV o, fW o, fX o, fY o, fZ o, fd o, ff o, fh o, fi o, fm o, fq o, fu o, fy o, fz o, fxA o, fxB o, fxC o, fxD o, fxE o, fxF o, fxG o, fxH o, fxI o, fxJ o, fxK o, v, fxM o, fxN o, fxO o, fxP o, fxQ o)
def sxM (o : Ob) (v : Int32) : Ob := (fA o, fB o, fC o, fD o, fE o, fF o, fG o, fH o, fI o, fJ o, fK o, fL o, fM o, fN o, fR o, fT o, fU o, fV o, fW o, fX o, fY o, fZ o, fd o, ff o, fh o, fi o, fm o, fq o, fu o, fy o, fz o, fxA o, fxB o, fxC o, fxD o, fxE o, fxF o, fxG o, fxH o, fxI o, fxJ o, fxK o, fxL o, v, fxN o, fxO o, fxP o, fxQ o)
def sxN (o : Ob) (v : Int32) : Ob := (fA o, fB o, fC o, fD o, fE o, fF o, fG o, fH o, fI o, fJ o, fK o, fL o, fM o, fN o, fR o, fT o, fU o, fV o, fW o, fX o, fY o, fZ o, fd o, ff o, fh o, fi o, fm o, fq o, fu o, fy o, fz o, fxA o, fxB o, fxC o, fxD o, fxE o, fxF o, fxG o, fxH o, fxI o, fxJ o, fxK o, fxL o, fxM o, v, fxO o, fxP o, fxQ o)
def sxO (o : Ob) (v : Int32) : Ob := (fA o, fB o, fC o, fD o, fE o, fF o, fG o, fH o, fI o, fJ o, fK o, fL o, fM o, fN o, fR o, fT o, fU o, fV o, fW o, fX o, fY o, fZ o, fd o, ff o, fh o, fi o, fm o, fq o, fu o, fy o, fz o, fxA o, fxB o, fxC o, fxD o, fxE o, fxF o, fxG o, fxH o, fxI o, fxJ o, fxK o, fxL o, fxM o, fxN o, v, fxP o, fxQ o)
def sxP (o : Ob) (v : Int32) : Ob := (fA o, fB o, fC o, fD o, fE o, fF o, fG o, fH o, fI o, fJ o, fK o, fL o, fM o, fN o, fR o, fT o, fU o, fV o, fW o, fX o, fY o, fZ o, fd o, ff o, fh o, fi o, fm o, fq o, fu o, fy o, fz o, fxA o, fxB o, fxC o, fxD o, fxE o, fxF o, fxG o, fxH o, fxI o, fxJ o, fxK o, fxL o, fxM o, fxN o, fxO o, v, fxQ o)
def sxQ (o : Ob) (v : Int32) : Ob := (fA o, fB o, fC o, fD o, fE o, fF o, fG o, fH o, fI o, fJ o, fK o, fL o, fM o, fN o, fR o, fT o, fU o, fV o, fW o, fX o, fY o, fZ o, fd o, ff o, fh o, fi o, fm o, fq o, fu o, fy o, fz o, fxA o, fxB o, fxC o, fxD o, fxE o, fxF o, fxG o, fxH o, fxI o, fxJ o, fxK o, fxL o, fxM o, fxN o, fxO o, fxP o, v)
theorem fs (o : Ob) : fA o = o.1 ∧ fB o = o.2.1 ∧ fC o = o.2.2.1 ∧ fD o = o.2.2.2.1 ∧ fE o = o.2.2.2.2.1 ∧ fF o = o.2.2.2.2.2.1 ∧ fG o = o.2.2.2.2.2.2.1 ∧ fH o = o.2.2.2.2.2.2.2.1 ∧ fI o = o.2.2.2.2.2.2.2.2.1 ∧ fJ o = o.2.2.2.2.2.2.2.2.2.1 ∧ fK o = o.2.2.2.2.2.2.2.2.2.2.1 ∧ fL o = o.2.2.2.2.2.2.2.2.2.2.2.1 ∧ fM o = o.2.2.2.2.2.2.2.2.2.2.2.2.1 ∧ fN o = o.2.2.2.2.2.2.2.2.2.2.2.2.2.1 ∧ fR o = o.2.2.2.2.2.2.2.2.2.2.2.2.2.2.1 ∧ fT o = o.2.2.2.2.2.2.2.2.2.2.2.2.2.2.2.1 ∧ fU o = o.2.2.2.2.2.2.2.2.2.2.2.2.2.2.2.2.1 ∧ fV o = o.2.2.2.2.2.2.2.2.2.2.2.2.2.2.2.2.2.1 ∧ fW o = o.2.2.2.2.2.2.2.2.2.2.2.2.2.2.2.2.2.2.1 ∧ fX o = o.2.2.2.2.2.2.2.2.2.2.2.2.2.2.2.2.2.2.2.1 ∧ fY o = o.2.2.2.2.2.2.2.2.2.2.2.2.2.2.2.2.2.2.2.2.1 ∧ fZ o = o.2.2.2.2.2.2.2.2.2.2.2.2.2.2.2.2.2.2.2.2.2.1 ∧ fd o = o.2.2.2.2.2.2.2.2.2.2.2.2.2.2.2.2.2.2.2.2.2.2.1 ∧ ff o = o.2.2.2.2.2.2.2.2.2.2.2.2.2.2.2.2.2.2.2.2.2.2.2.1 ∧ fh o = o.2.2.2.2.2.2.2.2.2.2.2.2.2.2.2.2.2.2.2.2.2.2.2.2.1 ∧ fi o = o.2.2.2.2.2.2.2.2.2.2.2.2.2.2.2.2.2.2.2.2.2.2.2.2.2.1 ∧ fm o = o.2.2.2.2.2.2.2.2.2.2.2.2.2.2.2.2.2.2.2.2.2.2.2.2.2.2.1 ∧ fq o = o.2.2.2.2.2.2.2.2.2.2.2.2.2.2.2.2.2.2.2.2.2.2.2.2.2.2.2.1 ∧ fu o = o.2.2.2.2.2.2.2.2.2.2.2.2.2.2.2.2.2.2.2.2.2.2.2.2.2.2.2.2.1 ∧ fy o = o.2.2.2.2.2.2.2.2.2.2.2.2.2.2.2.2.2.2.2.2.2.2.2.2.2.2.2.2.2.1 ∧ fz o = o.2.2.2.2.2.2.2.2.2.2.2.2.2.2.2.2.2.2.2.2.2.2.2.2.2.2.2.2.2.2.1 ∧ fxA o = o.2.2.2.2.2.2.2.2.2.2.2.2.2.2.2.2.2.2.2.2.2.2.2.2.2.2.2.2.2.2.2.1 ∧ fxB o = o.2.2.2.2.2.2.2.2.2.2.2.2.2.2.2.2.2.2.2.2.2.2.2.2.2.2.2.2.2.2.2.2.1 ∧ fxC o = o.2.2.2.2.2.2.2.2.2.2.2.2.2.2.2.2.2.2.2.2.2.2.2.2.2.2.2.2.2.2.2.2.2.1 ∧ fxD o = o.2.2.2.2.2.2.2.2.2.2.2.2.2.2.2.2.2.2.2.2.2.2.2.2.2.2.2.2.2.2.2.2.2.2.1 ∧ fxE o = o.2.2.2.2.2.2.2.2.2.2.2.2.2.2.2.2.2.2.2.2.2.2.2.2.2.2.2.2.2.2.2.2.2.2.2.1 ∧ fxF o = o.2.2.2.2.2.2.2.2.2.2.2.2.2.2.2.2.2.2.2.2.2.2.2.2.2.2.2.2.2.2.2.2.2.2.2.2.1 ∧ fxG o = o.2.2.2.2.2.2.2.2.2.2.2.2.2.2.2.2.2.2.2.2.2.2.2.2.2.2.2.2.2.2.2.2.2.2.2.2.2.1 ∧ fxH o = o.2.2.2.2.2.2.2.2.2.2.2.2.2.2.2.2.2.2.2.2.2.2.2.2.2.2.2.2.2.2.2.2.2.2.2.2.2.2.1 ∧ fxI o = o.2.2.2.2.2.2.2.2.2.2.2.2.2.2.2.2.2.2.2.2.2.2.2.2.2.2.2.2.2.2.2.2.2.2.2.2.2.2.2.1 ∧ fxJ o = o.2.2.2.2.2.2.2.2.2.2.2.2.2.2.2.2.2.2.2.2.2.2.2.2.2.2.2.2.2.2.2.2.2.2.2.2.2.2.2.2.1 ∧ fxK o = o.2.2.2.2.2.2.2.2.2.2.2.2.2.2.2.2.2.2.2.2.2.2.2.2.2.2.2.2.2.2.2.2.2.2.2.2.2.2.2.2.2.1 ∧ fxL o = o.2.2.2.2.2.2.2.2.2.2.2.2.2.2.2.2.2.2.2.2.2.2.2.2.2.2.2.2.2.2.2.2.2.2.2.2.2.2.2.2.2.2.1 ∧ fxM o = o.2.2.2.2.2.2.2.2.2.2.2.2.2.2.2.2.2.2.2.2.2.2.2.2.2.2.2.2.2.2.2.2.2.2.2.2.2.2.2.2.2.2.2.1 ∧ fxN o = o.2.2.2.2.2.2.2.2.2.2.2.2.2.2.2.2.2.2.2.2.2.2.2.2.2.2.2.2.2.2.2.2.2.2.2.2.2.2.2.2.2.2.2.2.1 ∧ fxO o = o.2.2.2.2.2.2.2.2.2.2.2.2.2.2.2.2.2.2.2.2.2.2.2.2.2.2.2.2.2.2.2.2.2.2.2.2.2.2.2.2.2.2.2.2.2.1 ∧ fxP o = o.2.2.2.2.2.2.2.2.2.2.2.2.2.2.2.2.2.2.2.2.2.2.2.2.2.2.2.2.2.2.2.2.2.2.2.2.2.2.2.2.2.2.2.2.2.2.1 ∧ fxQ o = o.2.2.2.2.2.2.2.2.2.2.2.2.2.2.2.2.2.2.2.2.2.2.2.2.2.2.2.2.2.2.2.2.2.2.2.2.2.2.2.2.2.2.2.2.2.2.2 := by simp only [fA, fB, fC, fD, fE, fF, fG, fH, fI, fJ, fK, fL, fM, fN, fR, fT, fU, fV, fW, fX, fY, fZ, fd, ff, fh, fi, fm, fq, fu, fy, fz, fxA, fxB, fxC, fxD, fxE, fxF, fxG, fxH, fxI, fxJ, fxK, fxL, fxM, fxN, fxO, fxP, fxQ, and_self]
def pw (a b i : Nat) : Nat := bif Nat.blt i a then i else bif Nat.blt i (a + b) then i + b else bif Nat.blt i (a + b + b) then i - b else i
def rw0 (a b : Nat) : Value → Value
 | .ref k => .ref (pw a b k)
 | v => v
def rwc (a b : Nat) : QCell → QCell
 | .inl vs => .inl (vs.map (rw0 a b))
 | .inr x => .inr x
def rwh (a b : Nat) (σ : QHeap) : QHeap := ((σ.take a) ++ (((σ.drop a).drop b).take b ++ ((σ.drop a).take b ++ ((σ.drop a).drop b).drop b))).map (rwc a b)
theorem pw_c (a b i : Nat) : (i < a ∧ pw a b i = i) ∨ (a ≤ i ∧ i < a + b ∧ pw a b i = i + b) ∨ (a + b ≤ i ∧ i < a + b + b ∧ pw a b i = i - b) ∨ (a + b + b ≤ i ∧ pw a b i = i) := by
 unfold pw
 have T : ∀ {x y : Nat}, x < y → Nat.blt x y = true := fun h => by rw [Nat.blt_eq]; exact h
 have F : ∀ {x y : Nat}, ¬ x < y → Nat.blt x y = false := fun h => Bool.eq_false_iff.2 fun z => h (by rw [Nat.blt_eq] at z; exact z)
 by_cases c1 : i < a
 ·exact Or.inl ⟨c1, by rw [T c1]; rfl⟩
 ·by_cases c2 : i < a + b
  ·exact Or.inr (Or.inl ⟨by omega, c2, by rw [F c1, T c2]; rfl⟩)
  ·by_cases c3 : i < a + b + b
   ·exact Or.inr (Or.inr (Or.inl ⟨by omega, c3, by rw [F c1, F c2, T c3]; rfl⟩))
   ·exact Or.inr (Or.inr (Or.inr ⟨by omega, by rw [F c1, F c2, F c3]; rfl⟩))
theorem pw_pw (a b i : Nat) : pw a b (pw a b i) = i := by
 have h := pw_c a b i
 have h' := pw_c a b (pw a b i)
 omega
theorem qv_rw (ad : Nat → Addr) (a b : Nat) (v : Value) : qv ad (rw0 a b v) = qv (fun i => ad (pw a b i)) v := by
 cases v <;> rfl
theorem qsz_rw (a b : Nat) (c : QCell) : qsz (rwc a b c) = qsz c := by
 rcases c with _ | _ | _ <;> rfl
theorem qhs_map (a b : Nat) (x : QHeap) : qhs (x.map (rwc a b)) = qhs x := by
 induction x with
 | nil => rfl
 | cons c t ih => show qsz (rwc a b c) + qhs (t.map (rwc a b)) = qsz c + qhs t; rw [ih, qsz_rw]
theorem qhs_rw (a b : Nat) (σ : QHeap) : qhs (rwh a b σ) = qhs σ := by
 unfold rwh
 rw [qhs_map, qhs_app, qhs_app, qhs_app]
 have e1 : qhs σ = qhs (σ.take a) + qhs (σ.drop a) := by rw [← qhs_app, List.take_append_drop]
 have e2 : qhs (σ.drop a) = qhs ((σ.drop a).take b) + qhs ((σ.drop a).drop b) := by rw [← qhs_app, List.take_append_drop]
 have e3 : qhs ((σ.drop a).drop b) = qhs (((σ.drop a).drop b).take b) + qhs (((σ.drop a).drop b).drop b) := by rw [← qhs_app, List.take_append_drop]
 omega
theorem len_rw (a b : Nat) (σ : QHeap) : (rwh a b σ).length = σ.length := by
 unfold rwh
 simp
 omega
theorem hget_rw {a b : Nat} {σ : QHeap} (h : σ.length = a + b + b) (k : Nat) : hget (rwh a b σ) k = (hget σ (pw a b k)).map (rwc a b) := by
 rw [hget_eq, hget_eq]
 unfold rwh
 rw [List.getElem?_map]
 congr 1
 have l1 : (σ.take a).length = a := by simp; omega
 have l2 : (((σ.drop a).drop b).take b).length = b := by simp; omega
 have l3 : ((σ.drop a).take b).length = b := by simp; omega
 rcases pw_c a b k with ⟨c1, e⟩ | ⟨c1, c2, e⟩ | ⟨c1, c2, e⟩ | ⟨c1, e⟩ <;> rw [e]
 ·rw [List.getElem?_append_left (by omega), List.getElem?_take_of_lt c1]
 ·rw [List.getElem?_append_right (by omega), l1, List.getElem?_append_left (by omega), List.getElem?_take_of_lt (by omega), List.getElem?_drop, List.getElem?_drop]
  congr 1; omega
 ·rw [List.getElem?_append_right (by omega), l1, List.getElem?_append_right (by omega), l2, List.getElem?_append_left (by omega), List.getElem?_take_of_lt (by omega), List.getElem?_drop]
  congr 1; omega
 ·rw [List.getElem?_append_right (by omega), l1, List.getElem?_append_right (by omega), l2, List.getElem?_append_right (by omega), l3, List.getElem?_drop, List.getElem?_drop, List.getElem?_drop]
  congr 1; omega
theorem vget_map {f : Value → Value} : ∀ (vs : List Value) (k : Nat), vget (vs.map f) k = (vget vs k).map f
 | [], _ => rfl
 | _ :: _, 0 => rfl
 | _ :: t, k + 1 => vget_map t k
theorem lget_map {f : Value → Value} : ∀ (L : QLoc) (k : Nat), lget (L.map (Option.map f)) k = (lget L k).map f
 | [], _ => rfl
 | _ :: _, 0 => rfl
 | _ :: t, k + 1 => lget_map t k
theorem QCellOk_rw {Z : State} {ad : Nat → Addr} {h : Heap} {x : Addr} (a b : Nat) (c : QCell) : QCellOk Z ad h x (rwc a b c) ↔ QCellOk Z (fun i => ad (pw a b i)) h x c := by
 rcases c with vs | y | y
 ·show (_ ∧ (vs.map (rw0 a b)).length = nF ∧ ∀ (k : Nat) (v : Value), k < nF → vget (vs.map (rw0 a b)) k = some v → Fld Z h x cName (fNm k) (fDs k) (qv ad v)) ↔ _
  rw [List.length_map]
  refine ⟨fun ⟨h1, h2, h3⟩ => ⟨h1, h2, fun k v hk hv => ?_⟩, fun ⟨h1, h2, h3⟩ => ⟨h1, h2, fun k v hk hv => ?_⟩⟩
  ·rw [← qv_rw]
   exact h3 k _ hk (by rw [vget_map, hv]; rfl)
  ·rw [vget_map] at hv
   cases e : vget vs k with
   | none => rw [e] at hv; cases hv
   | some w =>
    rw [e] at hv
    obtain rfl : rw0 a b w = v := Option.some.inj hv
    rw [qv_rw]
    exact h3 k w hk e
 ·exact Iff.rfl
 ·exact Iff.rfl
theorem QAd.swap {n0 : Nat} {ad : Nat → Addr} (Ad : QAd n0 ad) {a : Nat} (b : Nat) (ha : k0 ≤ a) : QAd n0 (fun i => ad (pw a b i)) := by
 refine ⟨fun k hk => Ad.1 _ ?_, fun i j h => ?_⟩
 ·have := pw_c a b k
  omega
 ·have := Ad.2 _ _ h
  rw [← pw_pw a b i, this, pw_pw]
theorem QRep_rw {Z : State} {n0 : Nat} {ad : Nat → Addr} {h : Heap} {σ : QHeap} {a b : Nat} (hl : σ.length = a + b + b) : QRep Z n0 ad h (rwh a b σ) ↔ QRep Z n0 (fun i => ad (pw a b i)) h σ := by
 unfold QRep
 rw [len_rw]
 refine ⟨fun ⟨⟨h1, h2⟩, h3, h4⟩ => ⟨⟨h1, fun k hk => ?_⟩, h3, fun k c hc => ?_⟩, fun ⟨⟨h1, h2⟩, h3, h4⟩ => ⟨⟨h1, fun k hk => ?_⟩, h3, fun k c hc => ?_⟩⟩
 ·have := pw_c a b k
  have e : pw a b k = k := by omega
  show ad (pw a b k) = _
  rw [e]; exact h2 k hk
 ·refine (QCellOk_rw a b c).1 (h4 (pw a b k) _ ?_)
  rw [hget_rw hl, pw_pw, hc]; rfl
 ·have := pw_c a b k
  have e : pw a b k = k := by omega
  have := h2 k hk
  simp only [e] at this
  exact this
 ·rw [hget_rw hl] at hc
  cases e : hget σ (pw a b k) with
  | none => rw [e] at hc; cases hc
  | some w =>
   rw [e] at hc
   obtain rfl : rwc a b w = c := Option.some.inj hc
   have := h4 (pw a b k) w e
   simp only [pw_pw] at this
   exact (QCellOk_rw a b w).2 this
theorem QTri.swap {l : Launch} {Z : State} {n0 : Nat} {ad : Nat → Addr} {m pc : Nat} {L L' : QLoc} {S S' : List Value} {σ σ' τ τ' : QHeap} {v v' : Option Value} (a b : Nat) (h : QTri l Z n0 (fun i => ad (pw a b i)) m (pc, L, S, σ) v σ') (h1 : σ.length = a + b + b) (h2 : σ'.length = a + b + b) (eL : L.map (Option.map (rw0 a b)) = L') (eS : S.map (rw0 a b) = S') (ev : v.map (rw0 a b) = v') (e1 : rwh a b σ = τ) (e2 : rwh a b σ' = τ') : QTri l Z n0 ad m (pc, L', S', τ) v' τ' := by
 subst eL; subst eS; subst ev; subst e1; subst e2
 obtain ⟨q1, q2, q⟩ := h
 refine ⟨by show (rwh a b σ).length ≤ _; rw [len_rw, len_rw]; exact q1, by show qhs (rwh a b σ) ≤ _; rw [qhs_rw, qhs_rw]; exact q2, ?_⟩
 intro p e R s mid args below meth c T locs cells slots C hcx X hR hF hL hC hn hc hs
 simp only [len_rw, qhs_rw] at hn hc hs ⊢
 have fS : ∀ x : List Value, (x.map (rw0 a b)).map (qv ad) = x.map (qv fun i => ad (pw a b i)) := by
  intro x
  rw [List.map_map]
  exact List.map_congr_left fun w _ => qv_rw ad a b w
 have fv : (v.map (rw0 a b)).map (qv ad) = v.map (qv fun i => ad (pw a b i)) := by
  cases v with
  | none => rfl
  | some w => exact congrArg some (qv_rw ad a b w)
 have hL' : QLocOk (fun i => ad (pw a b i)) L C := by
  obtain ⟨l1, l2, l3, l4⟩ := hL
  refine ⟨by rw [← l1]; exact (List.length_map _).symm, fun k w hk => ?_, l3, l4⟩
  rw [← qv_rw]
  exact l2 k _ (by show lget (L.map _) k = _; rw [lget_map, hk]; rfl)
 obtain ⟨T', locs', x1, x2, x3, x4⟩ := q p e R s mid args below meth c T locs cells slots C hcx X ((QRep_rw h1).1 hR) hF hL' hC hn hc hs
 refine ⟨T', locs', x1, (QRep_rw h2).2 x2, x3, fun fs hfs => ?_⟩
 rw [fS]
 exact x4 fs (fun f acts z1 z2 z3 => by rw [← fv]; exact hfs f acts z1 z2 z3)
abbrev nU : Value := .null
abbrev rr64 {α : Type} [OfNat α 0] : List α := List.replicate 64 0
abbrev rr65 {α : Type} [OfNat α 0] : List α := List.replicate 65 0
abbrev rr130 {α : Type} [OfNat α 0] : List α := List.replicate 130 0
abbrev rr160 {α : Type} [OfNat α 0] : List α := List.replicate 160 0
abbrev rr192 {α : Type} [OfNat α 0] : List α := List.replicate 192 0
abbrev rr256 {α : Type} [OfNat α 0] : List α := List.replicate 256 0
abbrev iC (x : List Int32) : QCell := .inr (.inl (.int, x))
abbrev bC (x : List Int32) : QCell := .inr (.inl (.byte, x))
def ob0 : Ob := (0, 0, 0, 0, 0, 0, 0, 0, 0, 0, 0, 0, 0, 0, [], [], [], [], [], [], [], [], [], [], [], [], [], [], [], [], [], [], [], [], 0, 0, 0, 0, 0, 0, 0, 0, 0, 0, 0, 0, 0, 0)
abbrev i64 : QCell := iC rr64
abbrev i65 : QCell := iC rr65
abbrev i130 : QCell := iC rr130
abbrev i160 : QCell := iC rr160
abbrev i192 : QCell := iC rr192
abbrev i256 : QCell := iC rr256
section Walks
variable {l : Launch} {Z : State} {n0 : Nat} {ad : Nat → Addr} {a0 : Array Value}
set_option maxRecDepth 20000
set_option maxHeartbeats 2000000
abbrev G : Bool := true
abbrev Y : Bool := false
open QTri renaming steps → zS, brT → zT, brF → zF, bnd → zB, mask → zM
open Option (bind_eq_some_iff)
open Classical (em)
abbrev nN : Option Value := none
theorem sj {α : Type} {a b : α} (h : some a = some b) : a = b := Option.some.inj h
theorem be {α β : Type} {x : Option α} {f : α → Option β} {b : β} (h : x.bind f = some b) : ∃ a, x = some a ∧ f a = some b := bind_eq_some_iff.mp h
open QTri (callI callO callP callS callV ret0 retI retJ retZ swap)
theorem yS {m : Nat} {v : Option Value} {σ' : QHeap} (Ad : QAd n0 ad) (W : QW Z a0) (n : Nat) {st : QSt} (st' : QSt) (h : qsteps m n st = some st') (k : QTri l Z n0 ad m st' v σ') : QTri l Z n0 ad m st v σ' := QTri.steps Ad W n h k
theorem yT {m : Nat} {v : Option Value} {σ' : QHeap} (Ad : QAd n0 ad) (W : QW Z a0) {st : QSt} (t f : Nat) {L : QLoc} {S : List Value} {σ : QHeap} {b : Bool} (hs : qstep m st = some (bif b then t else f, L, S, σ)) (hb : b = true) (h : QTri l Z n0 ad m (t, L, S, σ) v σ') : QTri l Z n0 ad m st v σ' := QTri.brT Ad W hs hb h
theorem yF {m : Nat} {v : Option Value} {σ' : QHeap} (Ad : QAd n0 ad) (W : QW Z a0) {st : QSt} (t f : Nat) {L : QLoc} {S : List Value} {σ : QHeap} {b : Bool} (hs : qstep m st = some (bif b then t else f, L, S, σ)) (hb : b = false) (h : QTri l Z n0 ad m (f, L, S, σ) v σ') : QTri l Z n0 ad m st v σ' := QTri.brF Ad W hs hb h
def H0 (s : List Int32) (o0 : Ob) : QHeap := [iC s, .inl [.int (fA o0), .int (fB o0), .int (fC o0), .int (fD o0), .int (fE o0), .int (fF o0), .int (fG o0), .int (fH o0), .int (fI o0), .int (fJ o0), .int (fK o0), .int (fL o0), .long (fM o0), .int (fN o0), .ref 2, .ref 3, .ref 4, .ref 5, .ref 6, .ref 7, .ref 8, .ref 9, .ref 10, .ref 11, .ref 12, .ref 13, .ref 14, .ref 15, .ref 16, .ref 17, .ref 18, .ref 19, .ref 20, .ref 21, .int (fxD o0), .int (fxE o0), .int (fxF o0), .int (fxG o0), .int (fxH o0), .int (fxI o0), .int (fxJ o0), .int (fxK o0), .int (fxL o0), .int (fxM o0), .int (fxN o0), .int (fxO o0), .int (fxP o0), .int (fxQ o0)], iC (fR o0), bC (fT o0), iC (fU o0), bC (fV o0), iC (fW o0), iC (fX o0), iC (fY o0), iC (fZ o0), bC (fd o0), iC (ff o0), iC (fh o0), iC (fi o0), iC (fm o0), bC (fq o0), .inr (.inr (fu o0)), bC (fy o0), iC (fz o0), iC (fxA o0), iC (fxB o0), iC (fxC o0)]
def H0v (s : List Int32) (a0_0 a0_1 : Int32) (a0_2 a0_3 : Int32) (a0_4 a0_5 : Int32) (a0_6 a0_7 : Int32) (a0_8 a0_9 : Int32) (a0_10 a0_11 : Int32) (a0_12 : Int64) (a0_13 : Int32) (a0_14 a0_15 : List Int32) (a0_16 a0_17 : List Int32) (a0_18 a0_19 : List Int32) (a0_20 a0_21 : List Int32) (a0_22 a0_23 : List Int32) (a0_24 a0_25 : List Int32) (a0_26 a0_27 : List Int32) (a0_28 : List Int64) (a0_29 a0_30 : List Int32) (a0_31 a0_32 a0_33 : List Int32) (a0_34 a0_35 : Int32) (a0_36 a0_37 : Int32) (a0_38 a0_39 : Int32) (a0_40 a0_41 : Int32) (a0_42 a0_43 : Int32) (a0_44 a0_45 : Int32) (a0_46 a0_47 : Int32) : QHeap := [iC s, .inl [.int a0_0, .int a0_1, .int a0_2, .int a0_3, .int a0_4, .int a0_5, .int a0_6, .int a0_7, .int a0_8, .int a0_9, .int a0_10, .int a0_11, .long a0_12, .int a0_13, .ref 2, .ref 3, .ref 4, .ref 5, .ref 6, .ref 7, .ref 8, .ref 9, .ref 10, .ref 11, .ref 12, .ref 13, .ref 14, .ref 15, .ref 16, .ref 17, .ref 18, .ref 19, .ref 20, .ref 21, .int a0_34, .int a0_35, .int a0_36, .int a0_37, .int a0_38, .int a0_39, .int a0_40, .int a0_41, .int a0_42, .int a0_43, .int a0_44, .int a0_45, .int a0_46, .int a0_47], iC a0_14, bC a0_15, iC a0_16, bC a0_17, iC a0_18, iC a0_19, iC a0_20, iC a0_21, bC a0_22, iC a0_23, iC a0_24, iC a0_25, iC a0_26, bC a0_27, .inr (.inr a0_28), bC a0_29, iC a0_30, iC a0_31, iC a0_32, iC a0_33]
def H0x0 (s : List Int32) (o0 : Ob) (a0_0 a0_1 : Int32) (a0_2 a0_3 : Int32) (a0_4 a0_5 : Int32) (a0_6 a0_7 : Int32) (a0_8 a0_9 : Int32) (a0_10 a0_11 : Int32) (a0_12 : Int64) (a0_13 : Int32) (a0_14 a0_15 : List Int32) (a0_16 a0_17 : List Int32) (a0_18 a0_19 : List Int32) (a0_20 a0_21 : List Int32) (a0_22 a0_23 : List Int32) (a0_24 a0_25 : List Int32) (a0_26 a0_27 : List Int32) (a0_28 : List Int64) (a0_29 a0_30 : List Int32) (a0_31 a0_32 a0_33 : List Int32) : QHeap := H0v s a0_0 a0_1 a0_2 a0_3 a0_4 a0_5 a0_6 a0_7 a0_8 a0_9 a0_10 a0_11 a0_12 a0_13 a0_14 a0_15 a0_16 a0_17 a0_18 a0_19 a0_20 a0_21 a0_22 a0_23 a0_24 a0_25 a0_26 a0_27 a0_28 a0_29 a0_30 a0_31 a0_32 a0_33 (fxD o0) (fxE o0) (fxF o0) (fxG o0) (fxH o0) (fxI o0) (fxJ o0) (fxK o0) (fxL o0) (fxM o0) (fxN o0) (fxO o0) (fxP o0) (fxQ o0)
/-- clamp(III)I -/
def F2 (x1 x2 x3 : Int32) : Option (Int32) :=
 (if x1 < x2 then some x2 else (if x3 < x1 then some x3 else some x1))
theorem tF2 (Ad : QAd n0 ad) (W : QW Z a0) {a : Nat} {σ : QHeap} (x1 x2 x3 : Int32) {r : Int32} (h : F2 x1 x2 x3 = some r) : QTri l Z n0 ad 2 (0, qentry [.ref a, .int x1, .int x2, .int x3] (pMaxL 2), [], σ) (some (Value.int r)) σ := by
 unfold F2 at h
 refine yS Ad W 2 (2, [vR a, vI x1, vI x2, vI x3], [.int x2, .int x1], σ) rfl ?_
 rcases qite h with ⟨c1, h⟩ | ⟨c1, h⟩
 ·refine yF Ad W 7 5 rfl (XT.ii_ge_f c1) ?_
  refine yS Ad W 1 (6, [vR a, vI x1, vI x2, vI x3], [.int x2], σ) rfl ?_
  obtain rfl := sj h
  exact retI rfl rfl
 ·refine yT Ad W 7 5 rfl (XT.ii_ge_t c1) ?_
  refine yS Ad W 2 (9, [vR a, vI x1, vI x2, vI x3], [.int x3, .int x1], σ) rfl ?_
  rcases qite h with ⟨c2, h⟩ | ⟨c2, h⟩
  ·refine yF Ad W 14 12 rfl (XT.ii_le_f c2) ?_
   refine yS Ad W 1 (13, [vR a, vI x1, vI x2, vI x3], [.int x3], σ) rfl ?_
   obtain rfl := sj h
   exact retI rfl rfl
  ·refine yT Ad W 14 12 rfl (XT.ii_le_t c2) ?_
   refine yS Ad W 1 (15, [vR a, vI x1, vI x2, vI x3], [.int x1], σ) rfl ?_
   obtain rfl := sj h
   exact retI rfl rfl
def H0x1 (s : List Int32) (o0 : Ob) (a0_0 a0_1 : Int32) (a0_2 a0_3 : Int32) (a0_4 a0_5 : Int32) (a0_6 a0_7 : Int32) (a0_8 a0_9 : Int32) (a0_10 a0_11 : Int32) (a0_12 : Int64) (a0_13 : Int32) (a0_14 a0_15 : List Int32) (a0_16 a0_17 : List Int32) (a0_18 a0_19 : List Int32) (a0_20 a0_21 : List Int32) (a0_22 a0_23 : List Int32) (a0_24 a0_25 : List Int32) (a0_26 a0_27 : List Int32) (a0_28 : List Int64) (a0_29 a0_30 : List Int32) (a0_31 a0_32 a0_33 : List Int32) (a0_34 : Int32) : QHeap := H0v s a0_0 a0_1 a0_2 a0_3 a0_4 a0_5 a0_6 a0_7 a0_8 a0_9 a0_10 a0_11 a0_12 a0_13 a0_14 a0_15 a0_16 a0_17 a0_18 a0_19 a0_20 a0_21 a0_22 a0_23 a0_24 a0_25 a0_26 a0_27 a0_28 a0_29 a0_30 a0_31 a0_32 a0_33 a0_34 (fxE o0) (fxF o0) (fxG o0) (fxH o0) (fxI o0) (fxJ o0) (fxK o0) (fxL o0) (fxM o0) (fxN o0) (fxO o0) (fxP o0) (fxQ o0)
def H0x2 (s : List Int32) (o0 : Ob) (a0_0 a0_1 : Int32) (a0_2 a0_3 : Int32) (a0_4 a0_5 : Int32) (a0_6 a0_7 : Int32) (a0_8 a0_9 : Int32) (a0_10 a0_11 : Int32) (a0_12 : Int64) (a0_13 : Int32) (a0_14 a0_15 : List Int32) (a0_16 a0_17 : List Int32) (a0_18 a0_19 : List Int32) (a0_20 a0_21 : List Int32) (a0_22 a0_23 : List Int32) (a0_24 a0_25 : List Int32) (a0_26 a0_27 : List Int32) (a0_28 : List Int64) (a0_29 a0_30 : List Int32) (a0_31 a0_32 a0_33 : List Int32) (a0_34 a0_35 : Int32) : QHeap := H0v s a0_0 a0_1 a0_2 a0_3 a0_4 a0_5 a0_6 a0_7 a0_8 a0_9 a0_10 a0_11 a0_12 a0_13 a0_14 a0_15 a0_16 a0_17 a0_18 a0_19 a0_20 a0_21 a0_22 a0_23 a0_24 a0_25 a0_26 a0_27 a0_28 a0_29 a0_30 a0_31 a0_32 a0_33 a0_34 a0_35 (fxF o0) (fxG o0) (fxH o0) (fxI o0) (fxJ o0) (fxK o0) (fxL o0) (fxM o0) (fxN o0) (fxO o0) (fxP o0) (fxQ o0)
def H0x3 (s : List Int32) (o0 : Ob) (a0_36 : Int32) : QHeap := H0v s (fA o0) (fB o0) (fC o0) (fD o0) (fE o0) (fF o0) (fG o0) (fH o0) (fI o0) (fJ o0) (fK o0) (fL o0) (fM o0) (fN o0) (fR o0) (fT o0) (fU o0) (fV o0) (fW o0) (fX o0) (fY o0) (fZ o0) (fd o0) (ff o0) (fh o0) (fi o0) (fm o0) (fq o0) (fu o0) (fy o0) (fz o0) (fxA o0) (fxB o0) (fxC o0) (fxD o0) (fxE o0) a0_36 (fxG o0) (fxH o0) (fxI o0) (fxJ o0) (fxK o0) (fxL o0) (fxM o0) (fxN o0) (fxO o0) (fxP o0) (fxQ o0)
def H0x4 (s : List Int32) (o0 : Ob) (a0_36 a0_37 : Int32) : QHeap := H0v s (fA o0) (fB o0) (fC o0) (fD o0) (fE o0) (fF o0) (fG o0) (fH o0) (fI o0) (fJ o0) (fK o0) (fL o0) (fM o0) (fN o0) (fR o0) (fT o0) (fU o0) (fV o0) (fW o0) (fX o0) (fY o0) (fZ o0) (fd o0) (ff o0) (fh o0) (fi o0) (fm o0) (fq o0) (fu o0) (fy o0) (fz o0) (fxA o0) (fxB o0) (fxC o0) (fxD o0) (fxE o0) a0_36 a0_37 (fxH o0) (fxI o0) (fxJ o0) (fxK o0) (fxL o0) (fxM o0) (fxN o0) (fxO o0) (fxP o0) (fxQ o0)
def H0x5 (s : List Int32) (o0 : Ob) (a0_36 a0_37 a0_38 : Int32) : QHeap := H0v s (fA o0) (fB o0) (fC o0) (fD o0) (fE o0) (fF o0) (fG o0) (fH o0) (fI o0) (fJ o0) (fK o0) (fL o0) (fM o0) (fN o0) (fR o0) (fT o0) (fU o0) (fV o0) (fW o0) (fX o0) (fY o0) (fZ o0) (fd o0) (ff o0) (fh o0) (fi o0) (fm o0) (fq o0) (fu o0) (fy o0) (fz o0) (fxA o0) (fxB o0) (fxC o0) (fxD o0) (fxE o0) a0_36 a0_37 a0_38 (fxI o0) (fxJ o0) (fxK o0) (fxL o0) (fxM o0) (fxN o0) (fxO o0) (fxP o0) (fxQ o0)
def H0x6 (s : List Int32) (o0 : Ob) (a0_36 a0_37 : Int32) (a0_38 a0_39 : Int32) : QHeap := H0v s (fA o0) (fB o0) (fC o0) (fD o0) (fE o0) (fF o0) (fG o0) (fH o0) (fI o0) (fJ o0) (fK o0) (fL o0) (fM o0) (fN o0) (fR o0) (fT o0) (fU o0) (fV o0) (fW o0) (fX o0) (fY o0) (fZ o0) (fd o0) (ff o0) (fh o0) (fi o0) (fm o0) (fq o0) (fu o0) (fy o0) (fz o0) (fxA o0) (fxB o0) (fxC o0) (fxD o0) (fxE o0) a0_36 a0_37 a0_38 a0_39 (fxJ o0) (fxK o0) (fxL o0) (fxM o0) (fxN o0) (fxO o0) (fxP o0) (fxQ o0)
def H0x7 (s : List Int32) (o0 : Ob) (a0_36 a0_37 : Int32) (a0_38 a0_39 a0_40 : Int32) : QHeap := H0v s (fA o0) (fB o0) (fC o0) (fD o0) (fE o0) (fF o0) (fG o0) (fH o0) (fI o0) (fJ o0) (fK o0) (fL o0) (fM o0) (fN o0) (fR o0) (fT o0) (fU o0) (fV o0) (fW o0) (fX o0) (fY o0) (fZ o0) (fd o0) (ff o0) (fh o0) (fi o0) (fm o0) (fq o0) (fu o0) (fy o0) (fz o0) (fxA o0) (fxB o0) (fxC o0) (fxD o0) (fxE o0) a0_36 a0_37 a0_38 a0_39 a0_40 (fxK o0) (fxL o0) (fxM o0) (fxN o0) (fxO o0) (fxP o0) (fxQ o0)
def H0x8 (s : List Int32) (o0 : Ob) (a0_36 a0_37 : Int32) (a0_38 a0_39 : Int32) (a0_40 a0_41 : Int32) : QHeap := H0v s (fA o0) (fB o0) (fC o0) (fD o0) (fE o0) (fF o0) (fG o0) (fH o0) (fI o0) (fJ o0) (fK o0) (fL o0) (fM o0) (fN o0) (fR o0) (fT o0) (fU o0) (fV o0) (fW o0) (fX o0) (fY o0) (fZ o0) (fd o0) (ff o0) (fh o0) (fi o0) (fm o0) (fq o0) (fu o0) (fy o0) (fz o0) (fxA o0) (fxB o0) (fxC o0) (fxD o0) (fxE o0) a0_36 a0_37 a0_38 a0_39 a0_40 a0_41 (fxL o0) (fxM o0) (fxN o0) (fxO o0) (fxP o0) (fxQ o0)
def H0x9 (s : List Int32) (o0 : Ob) (a0_36 a0_37 : Int32) (a0_38 a0_39 : Int32) (a0_40 a0_41 a0_42 : Int32) : QHeap := H0v s (fA o0) (fB o0) (fC o0) (fD o0) (fE o0) (fF o0) (fG o0) (fH o0) (fI o0) (fJ o0) (fK o0) (fL o0) (fM o0) (fN o0) (fR o0) (fT o0) (fU o0) (fV o0) (fW o0) (fX o0) (fY o0) (fZ o0) (fd o0) (ff o0) (fh o0) (fi o0) (fm o0) (fq o0) (fu o0) (fy o0) (fz o0) (fxA o0) (fxB o0) (fxC o0) (fxD o0) (fxE o0) a0_36 a0_37 a0_38 a0_39 a0_40 a0_41 a0_42 (fxM o0) (fxN o0) (fxO o0) (fxP o0) (fxQ o0)
def H0x10 (s : List Int32) (o0 : Ob) (a0_36 a0_37 : Int32) (a0_38 a0_39 : Int32) (a0_40 a0_41 : Int32) (a0_42 a0_43 : Int32) : QHeap := H0v s (fA o0) (fB o0) (fC o0) (fD o0) (fE o0) (fF o0) (fG o0) (fH o0) (fI o0) (fJ o0) (fK o0) (fL o0) (fM o0) (fN o0) (fR o0) (fT o0) (fU o0) (fV o0) (fW o0) (fX o0) (fY o0) (fZ o0) (fd o0) (ff o0) (fh o0) (fi o0) (fm o0) (fq o0) (fu o0) (fy o0) (fz o0) (fxA o0) (fxB o0) (fxC o0) (fxD o0) (fxE o0) a0_36 a0_37 a0_38 a0_39 a0_40 a0_41 a0_42 a0_43 (fxN o0) (fxO o0) (fxP o0) (fxQ o0)
def H0x11 (s : List Int32) (o0 : Ob) (a0_36 a0_37 : Int32) (a0_38 a0_39 : Int32) (a0_40 a0_41 : Int32) (a0_42 a0_43 a0_44 : Int32) : QHeap := H0v s (fA o0) (fB o0) (fC o0) (fD o0) (fE o0) (fF o0) (fG o0) (fH o0) (fI o0) (fJ o0) (fK o0) (fL o0) (fM o0) (fN o0) (fR o0) (fT o0) (fU o0) (fV o0) (fW o0) (fX o0) (fY o0) (fZ o0) (fd o0) (ff o0) (fh o0) (fi o0) (fm o0) (fq o0) (fu o0) (fy o0) (fz o0) (fxA o0) (fxB o0) (fxC o0) (fxD o0) (fxE o0) a0_36 a0_37 a0_38 a0_39 a0_40 a0_41 a0_42 a0_43 a0_44 (fxO o0) (fxP o0) (fxQ o0)
def H0x12 (s : List Int32) (o0 : Ob) (a0_36 a0_37 : Int32) (a0_38 a0_39 : Int32) (a0_40 a0_41 : Int32) (a0_42 a0_43 : Int32) (a0_44 a0_45 : Int32) : QHeap := H0v s (fA o0) (fB o0) (fC o0) (fD o0) (fE o0) (fF o0) (fG o0) (fH o0) (fI o0) (fJ o0) (fK o0) (fL o0) (fM o0) (fN o0) (fR o0) (fT o0) (fU o0) (fV o0) (fW o0) (fX o0) (fY o0) (fZ o0) (fd o0) (ff o0) (fh o0) (fi o0) (fm o0) (fq o0) (fu o0) (fy o0) (fz o0) (fxA o0) (fxB o0) (fxC o0) (fxD o0) (fxE o0) a0_36 a0_37 a0_38 a0_39 a0_40 a0_41 a0_42 a0_43 a0_44 a0_45 (fxP o0) (fxQ o0)
def H0x13 (s : List Int32) (o0 : Ob) (a0_36 a0_37 : Int32) (a0_38 a0_39 : Int32) (a0_40 a0_41 : Int32) (a0_42 a0_43 : Int32) (a0_44 a0_45 a0_46 : Int32) : QHeap := H0v s (fA o0) (fB o0) (fC o0) (fD o0) (fE o0) (fF o0) (fG o0) (fH o0) (fI o0) (fJ o0) (fK o0) (fL o0) (fM o0) (fN o0) (fR o0) (fT o0) (fU o0) (fV o0) (fW o0) (fX o0) (fY o0) (fZ o0) (fd o0) (ff o0) (fh o0) (fi o0) (fm o0) (fq o0) (fu o0) (fy o0) (fz o0) (fxA o0) (fxB o0) (fxC o0) (fxD o0) (fxE o0) a0_36 a0_37 a0_38 a0_39 a0_40 a0_41 a0_42 a0_43 a0_44 a0_45 a0_46 (fxQ o0)
def H0x14 (s : List Int32) (o0 : Ob) (a0_36 a0_37 : Int32) (a0_38 a0_39 : Int32) (a0_40 a0_41 : Int32) (a0_42 a0_43 : Int32) (a0_44 a0_45 : Int32) (a0_46 a0_47 : Int32) : QHeap := H0v s (fA o0) (fB o0) (fC o0) (fD o0) (fE o0) (fF o0) (fG o0) (fH o0) (fI o0) (fJ o0) (fK o0) (fL o0) (fM o0) (fN o0) (fR o0) (fT o0) (fU o0) (fV o0) (fW o0) (fX o0) (fY o0) (fZ o0) (fd o0) (ff o0) (fh o0) (fi o0) (fm o0) (fq o0) (fu o0) (fy o0) (fz o0) (fxA o0) (fxB o0) (fxC o0) (fxD o0) (fxE o0) a0_36 a0_37 a0_38 a0_39 a0_40 a0_41 a0_42 a0_43 a0_44 a0_45 a0_46 a0_47
/-- reset()V -/
def F3 (o : Ob) : Option (Ob) :=
 some (sxQ (sxP (sxO (sxN (sxM (sxL (sxK (sxJ (sxI (sxH (sxG (sxF o (0:Int32)) (0:Int32)) (0:Int32)) (0:Int32)) (0:Int32)) (0:Int32)) (0:Int32)) (0:Int32)) (0:Int32)) (0:Int32)) (0:Int32)) (0:Int32))
theorem tF3 (Ad : QAd n0 ad) (W : QW Z a0) (s : List Int32) (o : Ob) {r : Ob} (h : F3 o = some r) : QTri l Z n0 ad 3 (0, qentry [.ref 1] (pMaxL 3), [], (H0 s o)) (none : Option Value) (H0 s r) := by
 unfold F3 at h
 refine yS Ad W 3 (5, [vR 1], [], (H0x3 s o (0:Int32))) rfl ?_
 refine yS Ad W 3 (10, [vR 1], [], (H0x4 s o (0:Int32) (0:Int32))) rfl ?_
 refine yS Ad W 3 (15, [vR 1], [], (H0x5 s o (0:Int32) (0:Int32) (0:Int32))) rfl ?_
 refine yS Ad W 3 (20, [vR 1], [], (H0x6 s o (0:Int32) (0:Int32) (0:Int32) (0:Int32))) rfl ?_
 refine yS Ad W 3 (25, [vR 1], [], (H0x7 s o (0:Int32) (0:Int32) (0:Int32) (0:Int32) (0:Int32))) rfl ?_
 refine yS Ad W 3 (30, [vR 1], [], (H0x8 s o (0:Int32) (0:Int32) (0:Int32) (0:Int32) (0:Int32) (0:Int32))) rfl ?_
 refine yS Ad W 3 (35, [vR 1], [], (H0x9 s o (0:Int32) (0:Int32) (0:Int32) (0:Int32) (0:Int32) (0:Int32) (0:Int32))) rfl ?_
 refine yS Ad W 3 (40, [vR 1], [], (H0x10 s o (0:Int32) (0:Int32) (0:Int32) (0:Int32) (0:Int32) (0:Int32) (0:Int32) (0:Int32))) rfl ?_
 refine yS Ad W 3 (45, [vR 1], [], (H0x11 s o (0:Int32) (0:Int32) (0:Int32) (0:Int32) (0:Int32) (0:Int32) (0:Int32) (0:Int32) (0:Int32))) rfl ?_
 refine yS Ad W 3 (50, [vR 1], [], (H0x12 s o (0:Int32) (0:Int32) (0:Int32) (0:Int32) (0:Int32) (0:Int32) (0:Int32) (0:Int32) (0:Int32) (0:Int32))) rfl ?_
 refine yS Ad W 3 (55, [vR 1], [], (H0x13 s o (0:Int32) (0:Int32) (0:Int32) (0:Int32) (0:Int32) (0:Int32) (0:Int32) (0:Int32) (0:Int32) (0:Int32) (0:Int32))) rfl ?_
 refine yS Ad W 3 (60, [vR 1], [], (H0x14 s o (0:Int32) (0:Int32) (0:Int32) (0:Int32) (0:Int32) (0:Int32) (0:Int32) (0:Int32) (0:Int32) (0:Int32) (0:Int32) (0:Int32))) rfl ?_
 have E6 : ((H0x14 s o (0:Int32) (0:Int32) (0:Int32) (0:Int32) (0:Int32) (0:Int32) (0:Int32) (0:Int32) (0:Int32) (0:Int32) (0:Int32) (0:Int32)) : QHeap) = (H0 s (sxQ (sxP (sxO (sxN (sxM (sxL (sxK (sxJ (sxI (sxH (sxG (sxF o (0:Int32)) (0:Int32)) (0:Int32)) (0:Int32)) (0:Int32)) (0:Int32)) (0:Int32)) (0:Int32)) (0:Int32)) (0:Int32)) (0:Int32)) (0:Int32))) := by simp only [fs, H0, H0v, H0x14, sxF, sxG, sxH, sxI, sxJ, sxK, sxL, sxM, sxN, sxO, sxP, sxQ]
 rw [E6]
 obtain rfl := sj h
 exact ret0 rfl rfl
/-- init(II)V -/
def F1 (x1 x2 : Int32) : Option (Ob) :=
 (F2 x1 (1:Int32) (64:Int32)).bind fun r3 => (F2 x2 (1:Int32) (16:Int32)).bind fun r4 => (F3 (sxE (sxD (sxC (sxB (sxA (sz (sy (su (sq (sm (si (sh (sf (sd (sZ (sY (sX (sW (sV (sU (sT (sR (sN (sM (sL (sK (sJ (sI (sH (sG (sF (sE (sD (sC (sB (sA ob0 (0:Int32)) (1:Int32)) (2:Int32)) (3:Int32)) (4:Int32)) (64:Int32)) (16:Int32)) (64:Int32)) (4:Int32)) (256:Int32)) (64:Int32)) (3:Int32)) (4294967295 : Int64)) (2147483647:Int32)) (List.replicate 64 0)) (List.replicate 64 0)) (List.replicate 64 0)) (List.replicate 64 0)) (List.replicate 65 0)) (List.replicate 65 0)) (List.replicate 64 0)) (List.replicate 64 0)) (List.replicate 160 0)) (List.replicate 160 0)) (List.replicate 160 0)) (List.replicate 160 0)) (List.replicate 160 0)) (List.replicate 256 0)) (List.replicate 192 0)) (List.replicate 192 0)) (List.replicate 130 0)) (List.replicate 130 0)) (List.replicate 130 0)) (List.replicate 130 0)) r3) r4)).bind fun r7 => some r7
theorem tF1 (Ad : QAd n0 ad) (W : QW Z a0) (s : List Int32) (x1 x2 : Int32) {r : Ob} (h : F1 x1 x2 = some r) : QTri l Z n0 ad 1 (0, qentry [.ref 1, .int x1, .int x2] (pMaxL 1), [], [iC s, .inl [.int (fA ob0), .int (fB ob0), .int (fC ob0), .int (fD ob0), .int (fE ob0), .int (fF ob0), .int (fG ob0), .int (fH ob0), .int (fI ob0), .int (fJ ob0), .int (fK ob0), .int (fL ob0), .long (fM ob0), .int (fN ob0), .null, .null, .null, .null, .null, .null, .null, .null, .null, .null, .null, .null, .null, .null, .null, .null, .null, .null, .null, .null, .int (fxD ob0), .int (fxE ob0), .int (fxF ob0), .int (fxG ob0), .int (fxH ob0), .int (fxI ob0), .int (fxJ ob0), .int (fxK ob0), .int (fxL ob0), .int (fxM ob0), .int (fxN ob0), .int (fxO ob0), .int (fxP ob0), .int (fxQ ob0)]]) (none : Option Value) (H0 s r) := by
 unfold F1 at h
 refine yS Ad W 1 (1, [vR 1, vI x1, vI x2], [.ref 1], [iC s, .inl [.int (fA ob0), .int (fB ob0), .int (fC ob0), .int (fD ob0), .int (fE ob0), .int (fF ob0), .int (fG ob0), .int (fH ob0), .int (fI ob0), .int (fJ ob0), .int (fK ob0), .int (fL ob0), .long (fM ob0), .int (fN ob0), nU, nU, nU, nU, nU, nU, nU, nU, nU, nU, nU, nU, nU, nU, nU, nU, nU, nU, nU, nU, .int (fxD ob0), .int (fxE ob0), .int (fxF ob0), .int (fxG ob0), .int (fxH ob0), .int (fxI ob0), .int (fxJ ob0), .int (fxK ob0), .int (fxL ob0), .int (fxM ob0), .int (fxN ob0), .int (fxO ob0), .int (fxP ob0), .int (fxQ ob0)]]) rfl ?_
 refine callO W rfl rfl rfl ?_
 refine yS Ad W 3 (9, [vR 1, vI x1, vI x2], [], [iC s, .inl [.int 0, .int (fB ob0), .int (fC ob0), .int (fD ob0), .int (fE ob0), .int (fF ob0), .int (fG ob0), .int (fH ob0), .int (fI ob0), .int (fJ ob0), .int (fK ob0), .int (fL ob0), .long (fM ob0), .int (fN ob0), nU, nU, nU, nU, nU, nU, nU, nU, nU, nU, nU, nU, nU, nU, nU, nU, nU, nU, nU, nU, .int (fxD ob0), .int (fxE ob0), .int (fxF ob0), .int (fxG ob0), .int (fxH ob0), .int (fxI ob0), .int (fxJ ob0), .int (fxK ob0), .int (fxL ob0), .int (fxM ob0), .int (fxN ob0), .int (fxO ob0), .int (fxP ob0), .int (fxQ ob0)]]) rfl ?_
 refine yS Ad W 3 (14, [vR 1, vI x1, vI x2], [], [iC s, .inl [.int 0, .int 1, .int (fC ob0), .int (fD ob0), .int (fE ob0), .int (fF ob0), .int (fG ob0), .int (fH ob0), .int (fI ob0), .int (fJ ob0), .int (fK ob0), .int (fL ob0), .long (fM ob0), .int (fN ob0), nU, nU, nU, nU, nU, nU, nU, nU, nU, nU, nU, nU, nU, nU, nU, nU, nU, nU, nU, nU, .int (fxD ob0), .int (fxE ob0), .int (fxF ob0), .int (fxG ob0), .int (fxH ob0), .int (fxI ob0), .int (fxJ ob0), .int (fxK ob0), .int (fxL ob0), .int (fxM ob0), .int (fxN ob0), .int (fxO ob0), .int (fxP ob0), .int (fxQ ob0)]]) rfl ?_
 refine yS Ad W 3 (19, [vR 1, vI x1, vI x2], [], [iC s, .inl [.int 0, .int 1, .int 2, .int (fD ob0), .int (fE ob0), .int (fF ob0), .int (fG ob0), .int (fH ob0), .int (fI ob0), .int (fJ ob0), .int (fK ob0), .int (fL ob0), .long (fM ob0), .int (fN ob0), nU, nU, nU, nU, nU, nU, nU, nU, nU, nU, nU, nU, nU, nU, nU, nU, nU, nU, nU, nU, .int (fxD ob0), .int (fxE ob0), .int (fxF ob0), .int (fxG ob0), .int (fxH ob0), .int (fxI ob0), .int (fxJ ob0), .int (fxK ob0), .int (fxL ob0), .int (fxM ob0), .int (fxN ob0), .int (fxO ob0), .int (fxP ob0), .int (fxQ ob0)]]) rfl ?_
 refine yS Ad W 3 (24, [vR 1, vI x1, vI x2], [], [iC s, .inl [.int 0, .int 1, .int 2, .int 3, .int (fE ob0), .int (fF ob0), .int (fG ob0), .int (fH ob0), .int (fI ob0), .int (fJ ob0), .int (fK ob0), .int (fL ob0), .long (fM ob0), .int (fN ob0), nU, nU, nU, nU, nU, nU, nU, nU, nU, nU, nU, nU, nU, nU, nU, nU, nU, nU, nU, nU, .int (fxD ob0), .int (fxE ob0), .int (fxF ob0), .int (fxG ob0), .int (fxH ob0), .int (fxI ob0), .int (fxJ ob0), .int (fxK ob0), .int (fxL ob0), .int (fxM ob0), .int (fxN ob0), .int (fxO ob0), .int (fxP ob0), .int (fxQ ob0)]]) rfl ?_
 refine yS Ad W 3 (29, [vR 1, vI x1, vI x2], [], [iC s, .inl [.int 0, .int 1, .int 2, .int 3, .int 4, .int (fF ob0), .int (fG ob0), .int (fH ob0), .int (fI ob0), .int (fJ ob0), .int (fK ob0), .int (fL ob0), .long (fM ob0), .int (fN ob0), nU, nU, nU, nU, nU, nU, nU, nU, nU, nU, nU, nU, nU, nU, nU, nU, nU, nU, nU, nU, .int (fxD ob0), .int (fxE ob0), .int (fxF ob0), .int (fxG ob0), .int (fxH ob0), .int (fxI ob0), .int (fxJ ob0), .int (fxK ob0), .int (fxL ob0), .int (fxM ob0), .int (fxN ob0), .int (fxO ob0), .int (fxP ob0), .int (fxQ ob0)]]) rfl ?_
 refine yS Ad W 3 (35, [vR 1, vI x1, vI x2], [], [iC s, .inl [.int 0, .int 1, .int 2, .int 3, .int 4, .int 64, .int (fG ob0), .int (fH ob0), .int (fI ob0), .int (fJ ob0), .int (fK ob0), .int (fL ob0), .long (fM ob0), .int (fN ob0), nU, nU, nU, nU, nU, nU, nU, nU, nU, nU, nU, nU, nU, nU, nU, nU, nU, nU, nU, nU, .int (fxD ob0), .int (fxE ob0), .int (fxF ob0), .int (fxG ob0), .int (fxH ob0), .int (fxI ob0), .int (fxJ ob0), .int (fxK ob0), .int (fxL ob0), .int (fxM ob0), .int (fxN ob0), .int (fxO ob0), .int (fxP ob0), .int (fxQ ob0)]]) rfl ?_
 refine yS Ad W 3 (41, [vR 1, vI x1, vI x2], [], [iC s, .inl [.int 0, .int 1, .int 2, .int 3, .int 4, .int 64, .int 16, .int (fH ob0), .int (fI ob0), .int (fJ ob0), .int (fK ob0), .int (fL ob0), .long (fM ob0), .int (fN ob0), nU, nU, nU, nU, nU, nU, nU, nU, nU, nU, nU, nU, nU, nU, nU, nU, nU, nU, nU, nU, .int (fxD ob0), .int (fxE ob0), .int (fxF ob0), .int (fxG ob0), .int (fxH ob0), .int (fxI ob0), .int (fxJ ob0), .int (fxK ob0), .int (fxL ob0), .int (fxM ob0), .int (fxN ob0), .int (fxO ob0), .int (fxP ob0), .int (fxQ ob0)]]) rfl ?_
 refine yS Ad W 3 (47, [vR 1, vI x1, vI x2], [], [iC s, .inl [.int 0, .int 1, .int 2, .int 3, .int 4, .int 64, .int 16, .int 64, .int (fI ob0), .int (fJ ob0), .int (fK ob0), .int (fL ob0), .long (fM ob0), .int (fN ob0), nU, nU, nU, nU, nU, nU, nU, nU, nU, nU, nU, nU, nU, nU, nU, nU, nU, nU, nU, nU, .int (fxD ob0), .int (fxE ob0), .int (fxF ob0), .int (fxG ob0), .int (fxH ob0), .int (fxI ob0), .int (fxJ ob0), .int (fxK ob0), .int (fxL ob0), .int (fxM ob0), .int (fxN ob0), .int (fxO ob0), .int (fxP ob0), .int (fxQ ob0)]]) rfl ?_
 refine yS Ad W 3 (52, [vR 1, vI x1, vI x2], [], [iC s, .inl [.int 0, .int 1, .int 2, .int 3, .int 4, .int 64, .int 16, .int 64, .int 4, .int (fJ ob0), .int (fK ob0), .int (fL ob0), .long (fM ob0), .int (fN ob0), nU, nU, nU, nU, nU, nU, nU, nU, nU, nU, nU, nU, nU, nU, nU, nU, nU, nU, nU, nU, .int (fxD ob0), .int (fxE ob0), .int (fxF ob0), .int (fxG ob0), .int (fxH ob0), .int (fxI ob0), .int (fxJ ob0), .int (fxK ob0), .int (fxL ob0), .int (fxM ob0), .int (fxN ob0), .int (fxO ob0), .int (fxP ob0), .int (fxQ ob0)]]) rfl ?_
 refine yS Ad W 3 (59, [vR 1, vI x1, vI x2], [], [iC s, .inl [.int 0, .int 1, .int 2, .int 3, .int 4, .int 64, .int 16, .int 64, .int 4, .int 256, .int (fK ob0), .int (fL ob0), .long (fM ob0), .int (fN ob0), nU, nU, nU, nU, nU, nU, nU, nU, nU, nU, nU, nU, nU, nU, nU, nU, nU, nU, nU, nU, .int (fxD ob0), .int (fxE ob0), .int (fxF ob0), .int (fxG ob0), .int (fxH ob0), .int (fxI ob0), .int (fxJ ob0), .int (fxK ob0), .int (fxL ob0), .int (fxM ob0), .int (fxN ob0), .int (fxO ob0), .int (fxP ob0), .int (fxQ ob0)]]) rfl ?_
 refine yS Ad W 3 (65, [vR 1, vI x1, vI x2], [], [iC s, .inl [.int 0, .int 1, .int 2, .int 3, .int 4, .int 64, .int 16, .int 64, .int 4, .int 256, .int 64, .int (fL ob0), .long (fM ob0), .int (fN ob0), nU, nU, nU, nU, nU, nU, nU, nU, nU, nU, nU, nU, nU, nU, nU, nU, nU, nU, nU, nU, .int (fxD ob0), .int (fxE ob0), .int (fxF ob0), .int (fxG ob0), .int (fxH ob0), .int (fxI ob0), .int (fxJ ob0), .int (fxK ob0), .int (fxL ob0), .int (fxM ob0), .int (fxN ob0), .int (fxO ob0), .int (fxP ob0), .int (fxQ ob0)]]) rfl ?_
 refine yS Ad W 3 (70, [vR 1, vI x1, vI x2], [], [iC s, .inl [.int 0, .int 1, .int 2, .int 3, .int 4, .int 64, .int 16, .int 64, .int 4, .int 256, .int 64, .int 3, .long (fM ob0), .int (fN ob0), nU, nU, nU, nU, nU, nU, nU, nU, nU, nU, nU, nU, nU, nU, nU, nU, nU, nU, nU, nU, .int (fxD ob0), .int (fxE ob0), .int (fxF ob0), .int (fxG ob0), .int (fxH ob0), .int (fxI ob0), .int (fxJ ob0), .int (fxK ob0), .int (fxL ob0), .int (fxM ob0), .int (fxN ob0), .int (fxO ob0), .int (fxP ob0), .int (fxQ ob0)]]) rfl ?_
 refine yS Ad W 3 (77, [vR 1, vI x1, vI x2], [], [iC s, .inl [.int 0, .int 1, .int 2, .int 3, .int 4, .int 64, .int 16, .int 64, .int 4, .int 256, .int 64, .int 3, .long (4294967295 : Int64), .int (fN ob0), nU, nU, nU, nU, nU, nU, nU, nU, nU, nU, nU, nU, nU, nU, nU, nU, nU, nU, nU, nU, .int (fxD ob0), .int (fxE ob0), .int (fxF ob0), .int (fxG ob0), .int (fxH ob0), .int (fxI ob0), .int (fxJ ob0), .int (fxK ob0), .int (fxL ob0), .int (fxM ob0), .int (fxN ob0), .int (fxO ob0), .int (fxP ob0), .int (fxQ ob0)]]) rfl ?_
 refine yS Ad W 3 (83, [vR 1, vI x1, vI x2], [], [iC s, .inl [.int 0, .int 1, .int 2, .int 3, .int 4, .int 64, .int 16, .int 64, .int 4, .int 256, .int 64, .int 3, .long (4294967295 : Int64), .int 2147483647, nU, nU, nU, nU, nU, nU, nU, nU, nU, nU, nU, nU, nU, nU, nU, nU, nU, nU, nU, nU, .int (fxD ob0), .int (fxE ob0), .int (fxF ob0), .int (fxG ob0), .int (fxH ob0), .int (fxI ob0), .int (fxJ ob0), .int (fxK ob0), .int (fxL ob0), .int (fxM ob0), .int (fxN ob0), .int (fxO ob0), .int (fxP ob0), .int (fxQ ob0)]]) rfl ?_
 refine yS Ad W 3 (88, [vR 1, vI x1, vI x2], [.ref 2, .ref 1], [iC s, .inl [.int 0, .int 1, .int 2, .int 3, .int 4, .int 64, .int 16, .int 64, .int 4, .int 256, .int 64, .int 3, .long (4294967295 : Int64), .int 2147483647, nU, nU, nU, nU, nU, nU, nU, nU, nU, nU, nU, nU, nU, nU, nU, nU, nU, nU, nU, nU, .int (fxD ob0), .int (fxE ob0), .int (fxF ob0), .int (fxG ob0), .int (fxH ob0), .int (fxI ob0), .int (fxJ ob0), .int (fxK ob0), .int (fxL ob0), .int (fxM ob0), .int (fxN ob0), .int (fxO ob0), .int (fxP ob0), .int (fxQ ob0)], i64]) rfl ?_
 refine yS Ad W 1 (91, [vR 1, vI x1, vI x2], [], [iC s, .inl [.int 0, .int 1, .int 2, .int 3, .int 4, .int 64, .int 16, .int 64, .int 4, .int 256, .int 64, .int 3, .long (4294967295 : Int64), .int 2147483647, .ref 2, nU, nU, nU, nU, nU, nU, nU, nU, nU, nU, nU, nU, nU, nU, nU, nU, nU, nU, nU, .int (fxD ob0), .int (fxE ob0), .int (fxF ob0), .int (fxG ob0), .int (fxH ob0), .int (fxI ob0), .int (fxJ ob0), .int (fxK ob0), .int (fxL ob0), .int (fxM ob0), .int (fxN ob0), .int (fxO ob0), .int (fxP ob0), .int (fxQ ob0)], i64]) rfl ?_
 refine yS Ad W 3 (96, [vR 1, vI x1, vI x2], [.ref 3, .ref 1], [iC s, .inl [.int 0, .int 1, .int 2, .int 3, .int 4, .int 64, .int 16, .int 64, .int 4, .int 256, .int 64, .int 3, .long (4294967295 : Int64), .int 2147483647, .ref 2, nU, nU, nU, nU, nU, nU, nU, nU, nU, nU, nU, nU, nU, nU, nU, nU, nU, nU, nU, .int (fxD ob0), .int (fxE ob0), .int (fxF ob0), .int (fxG ob0), .int (fxH ob0), .int (fxI ob0), .int (fxJ ob0), .int (fxK ob0), .int (fxL ob0), .int (fxM ob0), .int (fxN ob0), .int (fxO ob0), .int (fxP ob0), .int (fxQ ob0)], i64, bC rr64]) rfl ?_
 refine yS Ad W 1 (99, [vR 1, vI x1, vI x2], [], [iC s, .inl [.int 0, .int 1, .int 2, .int 3, .int 4, .int 64, .int 16, .int 64, .int 4, .int 256, .int 64, .int 3, .long (4294967295 : Int64), .int 2147483647, .ref 2, .ref 3, nU, nU, nU, nU, nU, nU, nU, nU, nU, nU, nU, nU, nU, nU, nU, nU, nU, nU, .int (fxD ob0), .int (fxE ob0), .int (fxF ob0), .int (fxG ob0), .int (fxH ob0), .int (fxI ob0), .int (fxJ ob0), .int (fxK ob0), .int (fxL ob0), .int (fxM ob0), .int (fxN ob0), .int (fxO ob0), .int (fxP ob0), .int (fxQ ob0)], i64, bC rr64]) rfl ?_
 refine yS Ad W 3 (104, [vR 1, vI x1, vI x2], [.ref 4, .ref 1], [iC s, .inl [.int 0, .int 1, .int 2, .int 3, .int 4, .int 64, .int 16, .int 64, .int 4, .int 256, .int 64, .int 3, .long (4294967295 : Int64), .int 2147483647, .ref 2, .ref 3, nU, nU, nU, nU, nU, nU, nU, nU, nU, nU, nU, nU, nU, nU, nU, nU, nU, nU, .int (fxD ob0), .int (fxE ob0), .int (fxF ob0), .int (fxG ob0), .int (fxH ob0), .int (fxI ob0), .int (fxJ ob0), .int (fxK ob0), .int (fxL ob0), .int (fxM ob0), .int (fxN ob0), .int (fxO ob0), .int (fxP ob0), .int (fxQ ob0)], i64, bC rr64, i64]) rfl ?_
 refine yS Ad W 1 (107, [vR 1, vI x1, vI x2], [], [iC s, .inl [.int 0, .int 1, .int 2, .int 3, .int 4, .int 64, .int 16, .int 64, .int 4, .int 256, .int 64, .int 3, .long (4294967295 : Int64), .int 2147483647, .ref 2, .ref 3, .ref 4, nU, nU, nU, nU, nU, nU, nU, nU, nU, nU, nU, nU, nU, nU, nU, nU, nU, .int (fxD ob0), .int (fxE ob0), .int (fxF ob0), .int (fxG ob0), .int (fxH ob0), .int (fxI ob0), .int (fxJ ob0), .int (fxK ob0), .int (fxL ob0), .int (fxM ob0), .int (fxN ob0), .int (fxO ob0), .int (fxP ob0), .int (fxQ ob0)], i64, bC rr64, i64]) rfl ?_
 refine yS Ad W 3 (112, [vR 1, vI x1, vI x2], [.ref 5, .ref 1], [iC s, .inl [.int 0, .int 1, .int 2, .int 3, .int 4, .int 64, .int 16, .int 64, .int 4, .int 256, .int 64, .int 3, .long (4294967295 : Int64), .int 2147483647, .ref 2, .ref 3, .ref 4, nU, nU, nU, nU, nU, nU, nU, nU, nU, nU, nU, nU, nU, nU, nU, nU, nU, .int (fxD ob0), .int (fxE ob0), .int (fxF ob0), .int (fxG ob0), .int (fxH ob0), .int (fxI ob0), .int (fxJ ob0), .int (fxK ob0), .int (fxL ob0), .int (fxM ob0), .int (fxN ob0), .int (fxO ob0), .int (fxP ob0), .int (fxQ ob0)], i64, bC rr64, i64, bC rr64]) rfl ?_
 refine yS Ad W 1 (115, [vR 1, vI x1, vI x2], [], [iC s, .inl [.int 0, .int 1, .int 2, .int 3, .int 4, .int 64, .int 16, .int 64, .int 4, .int 256, .int 64, .int 3, .long (4294967295 : Int64), .int 2147483647, .ref 2, .ref 3, .ref 4, .ref 5, nU, nU, nU, nU, nU, nU, nU, nU, nU, nU, nU, nU, nU, nU, nU, nU, .int (fxD ob0), .int (fxE ob0), .int (fxF ob0), .int (fxG ob0), .int (fxH ob0), .int (fxI ob0), .int (fxJ ob0), .int (fxK ob0), .int (fxL ob0), .int (fxM ob0), .int (fxN ob0), .int (fxO ob0), .int (fxP ob0), .int (fxQ ob0)], i64, bC rr64, i64, bC rr64]) rfl ?_
 refine yS Ad W 3 (120, [vR 1, vI x1, vI x2], [.ref 6, .ref 1], [iC s, .inl [.int 0, .int 1, .int 2, .int 3, .int 4, .int 64, .int 16, .int 64, .int 4, .int 256, .int 64, .int 3, .long (4294967295 : Int64), .int 2147483647, .ref 2, .ref 3, .ref 4, .ref 5, nU, nU, nU, nU, nU, nU, nU, nU, nU, nU, nU, nU, nU, nU, nU, nU, .int (fxD ob0), .int (fxE ob0), .int (fxF ob0), .int (fxG ob0), .int (fxH ob0), .int (fxI ob0), .int (fxJ ob0), .int (fxK ob0), .int (fxL ob0), .int (fxM ob0), .int (fxN ob0), .int (fxO ob0), .int (fxP ob0), .int (fxQ ob0)], i64, bC rr64, i64, bC rr64, i65]) rfl ?_
 refine yS Ad W 1 (123, [vR 1, vI x1, vI x2], [], [iC s, .inl [.int 0, .int 1, .int 2, .int 3, .int 4, .int 64, .int 16, .int 64, .int 4, .int 256, .int 64, .int 3, .long (4294967295 : Int64), .int 2147483647, .ref 2, .ref 3, .ref 4, .ref 5, .ref 6, nU, nU, nU, nU, nU, nU, nU, nU, nU, nU, nU, nU, nU, nU, nU, .int (fxD ob0), .int (fxE ob0), .int (fxF ob0), .int (fxG ob0), .int (fxH ob0), .int (fxI ob0), .int (fxJ ob0), .int (fxK ob0), .int (fxL ob0), .int (fxM ob0), .int (fxN ob0), .int (fxO ob0), .int (fxP ob0), .int (fxQ ob0)], i64, bC rr64, i64, bC rr64, i65]) rfl ?_
 refine yS Ad W 3 (128, [vR 1, vI x1, vI x2], [.ref 7, .ref 1], [iC s, .inl [.int 0, .int 1, .int 2, .int 3, .int 4, .int 64, .int 16, .int 64, .int 4, .int 256, .int 64, .int 3, .long (4294967295 : Int64), .int 2147483647, .ref 2, .ref 3, .ref 4, .ref 5, .ref 6, nU, nU, nU, nU, nU, nU, nU, nU, nU, nU, nU, nU, nU, nU, nU, .int (fxD ob0), .int (fxE ob0), .int (fxF ob0), .int (fxG ob0), .int (fxH ob0), .int (fxI ob0), .int (fxJ ob0), .int (fxK ob0), .int (fxL ob0), .int (fxM ob0), .int (fxN ob0), .int (fxO ob0), .int (fxP ob0), .int (fxQ ob0)], i64, bC rr64, i64, bC rr64, i65, i65]) rfl ?_
 refine yS Ad W 1 (131, [vR 1, vI x1, vI x2], [], [iC s, .inl [.int 0, .int 1, .int 2, .int 3, .int 4, .int 64, .int 16, .int 64, .int 4, .int 256, .int 64, .int 3, .long (4294967295 : Int64), .int 2147483647, .ref 2, .ref 3, .ref 4, .ref 5, .ref 6, .ref 7, nU, nU, nU, nU, nU, nU, nU, nU, nU, nU, nU, nU, nU, nU, .int (fxD ob0), .int (fxE ob0), .int (fxF ob0), .int (fxG ob0), .int (fxH ob0), .int (fxI ob0), .int (fxJ ob0), .int (fxK ob0), .int (fxL ob0), .int (fxM ob0), .int (fxN ob0), .int (fxO ob0), .int (fxP ob0), .int (fxQ ob0)], i64, bC rr64, i64, bC rr64, i65, i65]) rfl ?_
 refine yS Ad W 3 (136, [vR 1, vI x1, vI x2], [.ref 8, .ref 1], [iC s, .inl [.int 0, .int 1, .int 2, .int 3, .int 4, .int 64, .int 16, .int 64, .int 4, .int 256, .int 64, .int 3, .long (4294967295 : Int64), .int 2147483647, .ref 2, .ref 3, .ref 4, .ref 5, .ref 6, .ref 7, nU, nU, nU, nU, nU, nU, nU, nU, nU, nU, nU, nU, nU, nU, .int (fxD ob0), .int (fxE ob0), .int (fxF ob0), .int (fxG ob0), .int (fxH ob0), .int (fxI ob0), .int (fxJ ob0), .int (fxK ob0), .int (fxL ob0), .int (fxM ob0), .int (fxN ob0), .int (fxO ob0), .int (fxP ob0), .int (fxQ ob0)], i64, bC rr64, i64, bC rr64, i65, i65, i64]) rfl ?_
 refine yS Ad W 1 (139, [vR 1, vI x1, vI x2], [], [iC s, .inl [.int 0, .int 1, .int 2, .int 3, .int 4, .int 64, .int 16, .int 64, .int 4, .int 256, .int 64, .int 3, .long (4294967295 : Int64), .int 2147483647, .ref 2, .ref 3, .ref 4, .ref 5, .ref 6, .ref 7, .ref 8, nU, nU, nU, nU, nU, nU, nU, nU, nU, nU, nU, nU, nU, .int (fxD ob0), .int (fxE ob0), .int (fxF ob0), .int (fxG ob0), .int (fxH ob0), .int (fxI ob0), .int (fxJ ob0), .int (fxK ob0), .int (fxL ob0), .int (fxM ob0), .int (fxN ob0), .int (fxO ob0), .int (fxP ob0), .int (fxQ ob0)], i64, bC rr64, i64, bC rr64, i65, i65, i64]) rfl ?_
 refine yS Ad W 3 (144, [vR 1, vI x1, vI x2], [.ref 9, .ref 1], [iC s, .inl [.int 0, .int 1, .int 2, .int 3, .int 4, .int 64, .int 16, .int 64, .int 4, .int 256, .int 64, .int 3, .long (4294967295 : Int64), .int 2147483647, .ref 2, .ref 3, .ref 4, .ref 5, .ref 6, .ref 7, .ref 8, nU, nU, nU, nU, nU, nU, nU, nU, nU, nU, nU, nU, nU, .int (fxD ob0), .int (fxE ob0), .int (fxF ob0), .int (fxG ob0), .int (fxH ob0), .int (fxI ob0), .int (fxJ ob0), .int (fxK ob0), .int (fxL ob0), .int (fxM ob0), .int (fxN ob0), .int (fxO ob0), .int (fxP ob0), .int (fxQ ob0)], i64, bC rr64, i64, bC rr64, i65, i65, i64, i64]) rfl ?_
 refine yS Ad W 1 (147, [vR 1, vI x1, vI x2], [], [iC s, .inl [.int 0, .int 1, .int 2, .int 3, .int 4, .int 64, .int 16, .int 64, .int 4, .int 256, .int 64, .int 3, .long (4294967295 : Int64), .int 2147483647, .ref 2, .ref 3, .ref 4, .ref 5, .ref 6, .ref 7, .ref 8, .ref 9, nU, nU, nU, nU, nU, nU, nU, nU, nU, nU, nU, nU, .int (fxD ob0), .int (fxE ob0), .int (fxF ob0), .int (fxG ob0), .int (fxH ob0), .int (fxI ob0), .int (fxJ ob0), .int (fxK ob0), .int (fxL ob0), .int (fxM ob0), .int (fxN ob0), .int (fxO ob0), .int (fxP ob0), .int (fxQ ob0)], i64, bC rr64, i64, bC rr64, i65, i65, i64, i64]) rfl ?_
 refine yS Ad W 3 (153, [vR 1, vI x1, vI x2], [.ref 10, .ref 1], [iC s, .inl [.int 0, .int 1, .int 2, .int 3, .int 4, .int 64, .int 16, .int 64, .int 4, .int 256, .int 64, .int 3, .long (4294967295 : Int64), .int 2147483647, .ref 2, .ref 3, .ref 4, .ref 5, .ref 6, .ref 7, .ref 8, .ref 9, nU, nU, nU, nU, nU, nU, nU, nU, nU, nU, nU, nU, .int (fxD ob0), .int (fxE ob0), .int (fxF ob0), .int (fxG ob0), .int (fxH ob0), .int (fxI ob0), .int (fxJ ob0), .int (fxK ob0), .int (fxL ob0), .int (fxM ob0), .int (fxN ob0), .int (fxO ob0), .int (fxP ob0), .int (fxQ ob0)], i64, bC rr64, i64, bC rr64, i65, i65, i64, i64, bC rr160]) rfl ?_
 refine yS Ad W 1 (156, [vR 1, vI x1, vI x2], [], [iC s, .inl [.int 0, .int 1, .int 2, .int 3, .int 4, .int 64, .int 16, .int 64, .int 4, .int 256, .int 64, .int 3, .long (4294967295 : Int64), .int 2147483647, .ref 2, .ref 3, .ref 4, .ref 5, .ref 6, .ref 7, .ref 8, .ref 9, .ref 10, nU, nU, nU, nU, nU, nU, nU, nU, nU, nU, nU, .int (fxD ob0), .int (fxE ob0), .int (fxF ob0), .int (fxG ob0), .int (fxH ob0), .int (fxI ob0), .int (fxJ ob0), .int (fxK ob0), .int (fxL ob0), .int (fxM ob0), .int (fxN ob0), .int (fxO ob0), .int (fxP ob0), .int (fxQ ob0)], i64, bC rr64, i64, bC rr64, i65, i65, i64, i64, bC rr160]) rfl ?_
 refine yS Ad W 3 (162, [vR 1, vI x1, vI x2], [.ref 11, .ref 1], [iC s, .inl [.int 0, .int 1, .int 2, .int 3, .int 4, .int 64, .int 16, .int 64, .int 4, .int 256, .int 64, .int 3, .long (4294967295 : Int64), .int 2147483647, .ref 2, .ref 3, .ref 4, .ref 5, .ref 6, .ref 7, .ref 8, .ref 9, .ref 10, nU, nU, nU, nU, nU, nU, nU, nU, nU, nU, nU, .int (fxD ob0), .int (fxE ob0), .int (fxF ob0), .int (fxG ob0), .int (fxH ob0), .int (fxI ob0), .int (fxJ ob0), .int (fxK ob0), .int (fxL ob0), .int (fxM ob0), .int (fxN ob0), .int (fxO ob0), .int (fxP ob0), .int (fxQ ob0)], i64, bC rr64, i64, bC rr64, i65, i65, i64, i64, bC rr160, i160]) rfl ?_
 refine yS Ad W 1 (165, [vR 1, vI x1, vI x2], [], [iC s, .inl [.int 0, .int 1, .int 2, .int 3, .int 4, .int 64, .int 16, .int 64, .int 4, .int 256, .int 64, .int 3, .long (4294967295 : Int64), .int 2147483647, .ref 2, .ref 3, .ref 4, .ref 5, .ref 6, .ref 7, .ref 8, .ref 9, .ref 10, .ref 11, nU, nU, nU, nU, nU, nU, nU, nU, nU, nU, .int (fxD ob0), .int (fxE ob0), .int (fxF ob0), .int (fxG ob0), .int (fxH ob0), .int (fxI ob0), .int (fxJ ob0), .int (fxK ob0), .int (fxL ob0), .int (fxM ob0), .int (fxN ob0), .int (fxO ob0), .int (fxP ob0), .int (fxQ ob0)], i64, bC rr64, i64, bC rr64, i65, i65, i64, i64, bC rr160, i160]) rfl ?_
 refine yS Ad W 3 (171, [vR 1, vI x1, vI x2], [.ref 12, .ref 1], [iC s, .inl [.int 0, .int 1, .int 2, .int 3, .int 4, .int 64, .int 16, .int 64, .int 4, .int 256, .int 64, .int 3, .long (4294967295 : Int64), .int 2147483647, .ref 2, .ref 3, .ref 4, .ref 5, .ref 6, .ref 7, .ref 8, .ref 9, .ref 10, .ref 11, nU, nU, nU, nU, nU, nU, nU, nU, nU, nU, .int (fxD ob0), .int (fxE ob0), .int (fxF ob0), .int (fxG ob0), .int (fxH ob0), .int (fxI ob0), .int (fxJ ob0), .int (fxK ob0), .int (fxL ob0), .int (fxM ob0), .int (fxN ob0), .int (fxO ob0), .int (fxP ob0), .int (fxQ ob0)], i64, bC rr64, i64, bC rr64, i65, i65, i64, i64, bC rr160, i160, i160]) rfl ?_
 refine yS Ad W 1 (174, [vR 1, vI x1, vI x2], [], [iC s, .inl [.int 0, .int 1, .int 2, .int 3, .int 4, .int 64, .int 16, .int 64, .int 4, .int 256, .int 64, .int 3, .long (4294967295 : Int64), .int 2147483647, .ref 2, .ref 3, .ref 4, .ref 5, .ref 6, .ref 7, .ref 8, .ref 9, .ref 10, .ref 11, .ref 12, nU, nU, nU, nU, nU, nU, nU, nU, nU, .int (fxD ob0), .int (fxE ob0), .int (fxF ob0), .int (fxG ob0), .int (fxH ob0), .int (fxI ob0), .int (fxJ ob0), .int (fxK ob0), .int (fxL ob0), .int (fxM ob0), .int (fxN ob0), .int (fxO ob0), .int (fxP ob0), .int (fxQ ob0)], i64, bC rr64, i64, bC rr64, i65, i65, i64, i64, bC rr160, i160, i160]) rfl ?_
 refine yS Ad W 3 (180, [vR 1, vI x1, vI x2], [.ref 13, .ref 1], [iC s, .inl [.int 0, .int 1, .int 2, .int 3, .int 4, .int 64, .int 16, .int 64, .int 4, .int 256, .int 64, .int 3, .long (4294967295 : Int64), .int 2147483647, .ref 2, .ref 3, .ref 4, .ref 5, .ref 6, .ref 7, .ref 8, .ref 9, .ref 10, .ref 11, .ref 12, nU, nU, nU, nU, nU, nU, nU, nU, nU, .int (fxD ob0), .int (fxE ob0), .int (fxF ob0), .int (fxG ob0), .int (fxH ob0), .int (fxI ob0), .int (fxJ ob0), .int (fxK ob0), .int (fxL ob0), .int (fxM ob0), .int (fxN ob0), .int (fxO ob0), .int (fxP ob0), .int (fxQ ob0)], i64, bC rr64, i64, bC rr64, i65, i65, i64, i64, bC rr160, i160, i160, i160]) rfl ?_
 refine yS Ad W 1 (183, [vR 1, vI x1, vI x2], [], [iC s, .inl [.int 0, .int 1, .int 2, .int 3, .int 4, .int 64, .int 16, .int 64, .int 4, .int 256, .int 64, .int 3, .long (4294967295 : Int64), .int 2147483647, .ref 2, .ref 3, .ref 4, .ref 5, .ref 6, .ref 7, .ref 8, .ref 9, .ref 10, .ref 11, .ref 12, .ref 13, nU, nU, nU, nU, nU, nU, nU, nU, .int (fxD ob0), .int (fxE ob0), .int (fxF ob0), .int (fxG ob0), .int (fxH ob0), .int (fxI ob0), .int (fxJ ob0), .int (fxK ob0), .int (fxL ob0), .int (fxM ob0), .int (fxN ob0), .int (fxO ob0), .int (fxP ob0), .int (fxQ ob0)], i64, bC rr64, i64, bC rr64, i65, i65, i64, i64, bC rr160, i160, i160, i160]) rfl ?_
 refine yS Ad W 3 (189, [vR 1, vI x1, vI x2], [.ref 14, .ref 1], [iC s, .inl [.int 0, .int 1, .int 2, .int 3, .int 4, .int 64, .int 16, .int 64, .int 4, .int 256, .int 64, .int 3, .long (4294967295 : Int64), .int 2147483647, .ref 2, .ref 3, .ref 4, .ref 5, .ref 6, .ref 7, .ref 8, .ref 9, .ref 10, .ref 11, .ref 12, .ref 13, nU, nU, nU, nU, nU, nU, nU, nU, .int (fxD ob0), .int (fxE ob0), .int (fxF ob0), .int (fxG ob0), .int (fxH ob0), .int (fxI ob0), .int (fxJ ob0), .int (fxK ob0), .int (fxL ob0), .int (fxM ob0), .int (fxN ob0), .int (fxO ob0), .int (fxP ob0), .int (fxQ ob0)], i64, bC rr64, i64, bC rr64, i65, i65, i64, i64, bC rr160, i160, i160, i160, i160]) rfl ?_
 refine yS Ad W 1 (192, [vR 1, vI x1, vI x2], [], [iC s, .inl [.int 0, .int 1, .int 2, .int 3, .int 4, .int 64, .int 16, .int 64, .int 4, .int 256, .int 64, .int 3, .long (4294967295 : Int64), .int 2147483647, .ref 2, .ref 3, .ref 4, .ref 5, .ref 6, .ref 7, .ref 8, .ref 9, .ref 10, .ref 11, .ref 12, .ref 13, .ref 14, nU, nU, nU, nU, nU, nU, nU, .int (fxD ob0), .int (fxE ob0), .int (fxF ob0), .int (fxG ob0), .int (fxH ob0), .int (fxI ob0), .int (fxJ ob0), .int (fxK ob0), .int (fxL ob0), .int (fxM ob0), .int (fxN ob0), .int (fxO ob0), .int (fxP ob0), .int (fxQ ob0)], i64, bC rr64, i64, bC rr64, i65, i65, i64, i64, bC rr160, i160, i160, i160, i160]) rfl ?_
 refine yS Ad W 3 (198, [vR 1, vI x1, vI x2], [.ref 15, .ref 1], [iC s, .inl [.int 0, .int 1, .int 2, .int 3, .int 4, .int 64, .int 16, .int 64, .int 4, .int 256, .int 64, .int 3, .long (4294967295 : Int64), .int 2147483647, .ref 2, .ref 3, .ref 4, .ref 5, .ref 6, .ref 7, .ref 8, .ref 9, .ref 10, .ref 11, .ref 12, .ref 13, .ref 14, nU, nU, nU, nU, nU, nU, nU, .int (fxD ob0), .int (fxE ob0), .int (fxF ob0), .int (fxG ob0), .int (fxH ob0), .int (fxI ob0), .int (fxJ ob0), .int (fxK ob0), .int (fxL ob0), .int (fxM ob0), .int (fxN ob0), .int (fxO ob0), .int (fxP ob0), .int (fxQ ob0)], i64, bC rr64, i64, bC rr64, i65, i65, i64, i64, bC rr160, i160, i160, i160, i160, bC rr256]) rfl ?_
 refine yS Ad W 1 (201, [vR 1, vI x1, vI x2], [], [iC s, .inl [.int 0, .int 1, .int 2, .int 3, .int 4, .int 64, .int 16, .int 64, .int 4, .int 256, .int 64, .int 3, .long (4294967295 : Int64), .int 2147483647, .ref 2, .ref 3, .ref 4, .ref 5, .ref 6, .ref 7, .ref 8, .ref 9, .ref 10, .ref 11, .ref 12, .ref 13, .ref 14, .ref 15, nU, nU, nU, nU, nU, nU, .int (fxD ob0), .int (fxE ob0), .int (fxF ob0), .int (fxG ob0), .int (fxH ob0), .int (fxI ob0), .int (fxJ ob0), .int (fxK ob0), .int (fxL ob0), .int (fxM ob0), .int (fxN ob0), .int (fxO ob0), .int (fxP ob0), .int (fxQ ob0)], i64, bC rr64, i64, bC rr64, i65, i65, i64, i64, bC rr160, i160, i160, i160, i160, bC rr256]) rfl ?_
 refine yS Ad W 3 (207, [vR 1, vI x1, vI x2], [.ref 16, .ref 1], [iC s, .inl [.int 0, .int 1, .int 2, .int 3, .int 4, .int 64, .int 16, .int 64, .int 4, .int 256, .int 64, .int 3, .long (4294967295 : Int64), .int 2147483647, .ref 2, .ref 3, .ref 4, .ref 5, .ref 6, .ref 7, .ref 8, .ref 9, .ref 10, .ref 11, .ref 12, .ref 13, .ref 14, .ref 15, nU, nU, nU, nU, nU, nU, .int (fxD ob0), .int (fxE ob0), .int (fxF ob0), .int (fxG ob0), .int (fxH ob0), .int (fxI ob0), .int (fxJ ob0), .int (fxK ob0), .int (fxL ob0), .int (fxM ob0), .int (fxN ob0), .int (fxO ob0), .int (fxP ob0), .int (fxQ ob0)], i64, bC rr64, i64, bC rr64, i65, i65, i64, i64, bC rr160, i160, i160, i160, i160, bC rr256, .inr (.inr rr192)]) rfl ?_
 refine yS Ad W 1 (210, [vR 1, vI x1, vI x2], [], [iC s, .inl [.int 0, .int 1, .int 2, .int 3, .int 4, .int 64, .int 16, .int 64, .int 4, .int 256, .int 64, .int 3, .long (4294967295 : Int64), .int 2147483647, .ref 2, .ref 3, .ref 4, .ref 5, .ref 6, .ref 7, .ref 8, .ref 9, .ref 10, .ref 11, .ref 12, .ref 13, .ref 14, .ref 15, .ref 16, nU, nU, nU, nU, nU, .int (fxD ob0), .int (fxE ob0), .int (fxF ob0), .int (fxG ob0), .int (fxH ob0), .int (fxI ob0), .int (fxJ ob0), .int (fxK ob0), .int (fxL ob0), .int (fxM ob0), .int (fxN ob0), .int (fxO ob0), .int (fxP ob0), .int (fxQ ob0)], i64, bC rr64, i64, bC rr64, i65, i65, i64, i64, bC rr160, i160, i160, i160, i160, bC rr256, .inr (.inr rr192)]) rfl ?_
 refine yS Ad W 3 (216, [vR 1, vI x1, vI x2], [.ref 17, .ref 1], [iC s, .inl [.int 0, .int 1, .int 2, .int 3, .int 4, .int 64, .int 16, .int 64, .int 4, .int 256, .int 64, .int 3, .long (4294967295 : Int64), .int 2147483647, .ref 2, .ref 3, .ref 4, .ref 5, .ref 6, .ref 7, .ref 8, .ref 9, .ref 10, .ref 11, .ref 12, .ref 13, .ref 14, .ref 15, .ref 16, nU, nU, nU, nU, nU, .int (fxD ob0), .int (fxE ob0), .int (fxF ob0), .int (fxG ob0), .int (fxH ob0), .int (fxI ob0), .int (fxJ ob0), .int (fxK ob0), .int (fxL ob0), .int (fxM ob0), .int (fxN ob0), .int (fxO ob0), .int (fxP ob0), .int (fxQ ob0)], i64, bC rr64, i64, bC rr64, i65, i65, i64, i64, bC rr160, i160, i160, i160, i160, bC rr256, .inr (.inr rr192), bC rr192]) rfl ?_
 refine yS Ad W 1 (219, [vR 1, vI x1, vI x2], [], [iC s, .inl [.int 0, .int 1, .int 2, .int 3, .int 4, .int 64, .int 16, .int 64, .int 4, .int 256, .int 64, .int 3, .long (4294967295 : Int64), .int 2147483647, .ref 2, .ref 3, .ref 4, .ref 5, .ref 6, .ref 7, .ref 8, .ref 9, .ref 10, .ref 11, .ref 12, .ref 13, .ref 14, .ref 15, .ref 16, .ref 17, nU, nU, nU, nU, .int (fxD ob0), .int (fxE ob0), .int (fxF ob0), .int (fxG ob0), .int (fxH ob0), .int (fxI ob0), .int (fxJ ob0), .int (fxK ob0), .int (fxL ob0), .int (fxM ob0), .int (fxN ob0), .int (fxO ob0), .int (fxP ob0), .int (fxQ ob0)], i64, bC rr64, i64, bC rr64, i65, i65, i64, i64, bC rr160, i160, i160, i160, i160, bC rr256, .inr (.inr rr192), bC rr192]) rfl ?_
 refine yS Ad W 3 (225, [vR 1, vI x1, vI x2], [.ref 18, .ref 1], [iC s, .inl [.int 0, .int 1, .int 2, .int 3, .int 4, .int 64, .int 16, .int 64, .int 4, .int 256, .int 64, .int 3, .long (4294967295 : Int64), .int 2147483647, .ref 2, .ref 3, .ref 4, .ref 5, .ref 6, .ref 7, .ref 8, .ref 9, .ref 10, .ref 11, .ref 12, .ref 13, .ref 14, .ref 15, .ref 16, .ref 17, nU, nU, nU, nU, .int (fxD ob0), .int (fxE ob0), .int (fxF ob0), .int (fxG ob0), .int (fxH ob0), .int (fxI ob0), .int (fxJ ob0), .int (fxK ob0), .int (fxL ob0), .int (fxM ob0), .int (fxN ob0), .int (fxO ob0), .int (fxP ob0), .int (fxQ ob0)], i64, bC rr64, i64, bC rr64, i65, i65, i64, i64, bC rr160, i160, i160, i160, i160, bC rr256, .inr (.inr rr192), bC rr192, i130]) rfl ?_
 refine yS Ad W 1 (228, [vR 1, vI x1, vI x2], [], [iC s, .inl [.int 0, .int 1, .int 2, .int 3, .int 4, .int 64, .int 16, .int 64, .int 4, .int 256, .int 64, .int 3, .long (4294967295 : Int64), .int 2147483647, .ref 2, .ref 3, .ref 4, .ref 5, .ref 6, .ref 7, .ref 8, .ref 9, .ref 10, .ref 11, .ref 12, .ref 13, .ref 14, .ref 15, .ref 16, .ref 17, .ref 18, nU, nU, nU, .int (fxD ob0), .int (fxE ob0), .int (fxF ob0), .int (fxG ob0), .int (fxH ob0), .int (fxI ob0), .int (fxJ ob0), .int (fxK ob0), .int (fxL ob0), .int (fxM ob0), .int (fxN ob0), .int (fxO ob0), .int (fxP ob0), .int (fxQ ob0)], i64, bC rr64, i64, bC rr64, i65, i65, i64, i64, bC rr160, i160, i160, i160, i160, bC rr256, .inr (.inr rr192), bC rr192, i130]) rfl ?_
 refine yS Ad W 3 (234, [vR 1, vI x1, vI x2], [.ref 19, .ref 1], [iC s, .inl [.int 0, .int 1, .int 2, .int 3, .int 4, .int 64, .int 16, .int 64, .int 4, .int 256, .int 64, .int 3, .long (4294967295 : Int64), .int 2147483647, .ref 2, .ref 3, .ref 4, .ref 5, .ref 6, .ref 7, .ref 8, .ref 9, .ref 10, .ref 11, .ref 12, .ref 13, .ref 14, .ref 15, .ref 16, .ref 17, .ref 18, nU, nU, nU, .int (fxD ob0), .int (fxE ob0), .int (fxF ob0), .int (fxG ob0), .int (fxH ob0), .int (fxI ob0), .int (fxJ ob0), .int (fxK ob0), .int (fxL ob0), .int (fxM ob0), .int (fxN ob0), .int (fxO ob0), .int (fxP ob0), .int (fxQ ob0)], i64, bC rr64, i64, bC rr64, i65, i65, i64, i64, bC rr160, i160, i160, i160, i160, bC rr256, .inr (.inr rr192), bC rr192, i130, i130]) rfl ?_
 refine yS Ad W 1 (237, [vR 1, vI x1, vI x2], [], [iC s, .inl [.int 0, .int 1, .int 2, .int 3, .int 4, .int 64, .int 16, .int 64, .int 4, .int 256, .int 64, .int 3, .long (4294967295 : Int64), .int 2147483647, .ref 2, .ref 3, .ref 4, .ref 5, .ref 6, .ref 7, .ref 8, .ref 9, .ref 10, .ref 11, .ref 12, .ref 13, .ref 14, .ref 15, .ref 16, .ref 17, .ref 18, .ref 19, nU, nU, .int (fxD ob0), .int (fxE ob0), .int (fxF ob0), .int (fxG ob0), .int (fxH ob0), .int (fxI ob0), .int (fxJ ob0), .int (fxK ob0), .int (fxL ob0), .int (fxM ob0), .int (fxN ob0), .int (fxO ob0), .int (fxP ob0), .int (fxQ ob0)], i64, bC rr64, i64, bC rr64, i65, i65, i64, i64, bC rr160, i160, i160, i160, i160, bC rr256, .inr (.inr rr192), bC rr192, i130, i130]) rfl ?_
 refine yS Ad W 3 (243, [vR 1, vI x1, vI x2], [.ref 20, .ref 1], [iC s, .inl [.int 0, .int 1, .int 2, .int 3, .int 4, .int 64, .int 16, .int 64, .int 4, .int 256, .int 64, .int 3, .long (4294967295 : Int64), .int 2147483647, .ref 2, .ref 3, .ref 4, .ref 5, .ref 6, .ref 7, .ref 8, .ref 9, .ref 10, .ref 11, .ref 12, .ref 13, .ref 14, .ref 15, .ref 16, .ref 17, .ref 18, .ref 19, nU, nU, .int (fxD ob0), .int (fxE ob0), .int (fxF ob0), .int (fxG ob0), .int (fxH ob0), .int (fxI ob0), .int (fxJ ob0), .int (fxK ob0), .int (fxL ob0), .int (fxM ob0), .int (fxN ob0), .int (fxO ob0), .int (fxP ob0), .int (fxQ ob0)], i64, bC rr64, i64, bC rr64, i65, i65, i64, i64, bC rr160, i160, i160, i160, i160, bC rr256, .inr (.inr rr192), bC rr192, i130, i130, i130]) rfl ?_
 refine yS Ad W 1 (246, [vR 1, vI x1, vI x2], [], [iC s, .inl [.int 0, .int 1, .int 2, .int 3, .int 4, .int 64, .int 16, .int 64, .int 4, .int 256, .int 64, .int 3, .long (4294967295 : Int64), .int 2147483647, .ref 2, .ref 3, .ref 4, .ref 5, .ref 6, .ref 7, .ref 8, .ref 9, .ref 10, .ref 11, .ref 12, .ref 13, .ref 14, .ref 15, .ref 16, .ref 17, .ref 18, .ref 19, .ref 20, nU, .int (fxD ob0), .int (fxE ob0), .int (fxF ob0), .int (fxG ob0), .int (fxH ob0), .int (fxI ob0), .int (fxJ ob0), .int (fxK ob0), .int (fxL ob0), .int (fxM ob0), .int (fxN ob0), .int (fxO ob0), .int (fxP ob0), .int (fxQ ob0)], i64, bC rr64, i64, bC rr64, i65, i65, i64, i64, bC rr160, i160, i160, i160, i160, bC rr256, .inr (.inr rr192), bC rr192, i130, i130, i130]) rfl ?_
 refine yS Ad W 3 (252, [vR 1, vI x1, vI x2], [.ref 21, .ref 1], [iC s, .inl [.int 0, .int 1, .int 2, .int 3, .int 4, .int 64, .int 16, .int 64, .int 4, .int 256, .int 64, .int 3, .long (4294967295 : Int64), .int 2147483647, .ref 2, .ref 3, .ref 4, .ref 5, .ref 6, .ref 7, .ref 8, .ref 9, .ref 10, .ref 11, .ref 12, .ref 13, .ref 14, .ref 15, .ref 16, .ref 17, .ref 18, .ref 19, .ref 20, nU, .int (fxD ob0), .int (fxE ob0), .int (fxF ob0), .int (fxG ob0), .int (fxH ob0), .int (fxI ob0), .int (fxJ ob0), .int (fxK ob0), .int (fxL ob0), .int (fxM ob0), .int (fxN ob0), .int (fxO ob0), .int (fxP ob0), .int (fxQ ob0)], i64, bC rr64, i64, bC rr64, i65, i65, i64, i64, bC rr160, i160, i160, i160, i160, bC rr256, .inr (.inr rr192), bC rr192, i130, i130, i130, i130]) rfl ?_
 refine yS Ad W 1 (255, [vR 1, vI x1, vI x2], [], (H0x0 s ob0 (0:Int32) (1:Int32) (2:Int32) (3:Int32) (4:Int32) (64:Int32) (16:Int32) (64:Int32) (4:Int32) (256:Int32) (64:Int32) (3:Int32) (4294967295 : Int64) (2147483647:Int32) rr64 rr64 rr64 rr64 rr65 rr65 rr64 rr64 rr160 rr160 rr160 rr160 rr160 rr256 rr192 rr192 rr130 rr130 rr130 rr130)) rfl ?_
 refine yS Ad W 5 (261, [vR 1, vI x1, vI x2], [.int 64, .int 1, .int x1, .ref 1, .ref 1], (H0x0 s ob0 (0:Int32) (1:Int32) (2:Int32) (3:Int32) (4:Int32) (64:Int32) (16:Int32) (64:Int32) (4:Int32) (256:Int32) (64:Int32) (3:Int32) (4294967295 : Int64) (2147483647:Int32) rr64 rr64 rr64 rr64 rr65 rr65 rr64 rr64 rr160 rr160 rr160 rr160 rr160 rr256 rr192 rr192 rr130 rr130 rr130 rr130)) rfl ?_
 obtain ⟨r3, hr3, h⟩ := be h
 refine callP W (a := 1) (as := [.int x1, .int 1, .int 64]) (rest := [.ref 1]) (w := (some (.int r3))) (σ₁ := (H0x0 s ob0 (0:Int32) (1:Int32) (2:Int32) (3:Int32) (4:Int32) (64:Int32) (16:Int32) (64:Int32) (4:Int32) (256:Int32) (64:Int32) (3:Int32) (4294967295 : Int64) (2147483647:Int32) (List.replicate 64 0) (List.replicate 64 0) (List.replicate 64 0) (List.replicate 64 0) (List.replicate 65 0) (List.replicate 65 0) (List.replicate 64 0) (List.replicate 64 0) (List.replicate 160 0) (List.replicate 160 0) (List.replicate 160 0) (List.replicate 160 0) (List.replicate 160 0) (List.replicate 256 0) (List.replicate 192 0) (List.replicate 192 0) (List.replicate 130 0) (List.replicate 130 0) (List.replicate 130 0) (List.replicate 130 0))) rfl rfl rfl rfl rfl rfl rfl rfl (tF2 Ad W x1 (1:Int32) (64:Int32) hr3) ?_
 refine yS Ad W 1 (267, [vR 1, vI x1, vI x2], [], (H0x1 s ob0 (0:Int32) (1:Int32) (2:Int32) (3:Int32) (4:Int32) (64:Int32) (16:Int32) (64:Int32) (4:Int32) (256:Int32) (64:Int32) (3:Int32) (4294967295 : Int64) (2147483647:Int32) rr64 rr64 rr64 rr64 rr65 rr65 rr64 rr64 rr160 rr160 rr160 rr160 rr160 rr256 rr192 rr192 rr130 rr130 rr130 rr130 r3)) rfl ?_
 refine yS Ad W 5 (273, [vR 1, vI x1, vI x2], [.int 16, .int 1, .int x2, .ref 1, .ref 1], (H0x1 s ob0 (0:Int32) (1:Int32) (2:Int32) (3:Int32) (4:Int32) (64:Int32) (16:Int32) (64:Int32) (4:Int32) (256:Int32) (64:Int32) (3:Int32) (4294967295 : Int64) (2147483647:Int32) rr64 rr64 rr64 rr64 rr65 rr65 rr64 rr64 rr160 rr160 rr160 rr160 rr160 rr256 rr192 rr192 rr130 rr130 rr130 rr130 r3)) rfl ?_
 obtain ⟨r4, hr4, h⟩ := be h
 refine callP W (a := 1) (as := [.int x2, .int 1, .int 16]) (rest := [.ref 1]) (w := (some (.int r4))) (σ₁ := (H0x1 s ob0 (0:Int32) (1:Int32) (2:Int32) (3:Int32) (4:Int32) (64:Int32) (16:Int32) (64:Int32) (4:Int32) (256:Int32) (64:Int32) (3:Int32) (4294967295 : Int64) (2147483647:Int32) (List.replicate 64 0) (List.replicate 64 0) (List.replicate 64 0) (List.replicate 64 0) (List.replicate 65 0) (List.replicate 65 0) (List.replicate 64 0) (List.replicate 64 0) (List.replicate 160 0) (List.replicate 160 0) (List.replicate 160 0) (List.replicate 160 0) (List.replicate 160 0) (List.replicate 256 0) (List.replicate 192 0) (List.replicate 192 0) (List.replicate 130 0) (List.replicate 130 0) (List.replicate 130 0) (List.replicate 130 0) r3)) rfl rfl rfl rfl rfl rfl rfl rfl (tF2 Ad W x2 (1:Int32) (16:Int32) hr4) ?_
 refine yS Ad W 2 (280, [vR 1, vI x1, vI x2], [.ref 1], (H0x2 s ob0 (0:Int32) (1:Int32) (2:Int32) (3:Int32) (4:Int32) (64:Int32) (16:Int32) (64:Int32) (4:Int32) (256:Int32) (64:Int32) (3:Int32) (4294967295 : Int64) (2147483647:Int32) rr64 rr64 rr64 rr64 rr65 rr65 rr64 rr64 rr160 rr160 rr160 rr160 rr160 rr256 rr192 rr192 rr130 rr130 rr130 rr130 r3 r4)) rfl ?_
 have E5 : ((H0x2 s ob0 (0:Int32) (1:Int32) (2:Int32) (3:Int32) (4:Int32) (64:Int32) (16:Int32) (64:Int32) (4:Int32) (256:Int32) (64:Int32) (3:Int32) (4294967295 : Int64) (2147483647:Int32) rr64 rr64 rr64 rr64 rr65 rr65 rr64 rr64 rr160 rr160 rr160 rr160 rr160 rr256 rr192 rr192 rr130 rr130 rr130 rr130 r3 r4) : QHeap) = (H0 s (sxE (sxD (sxC (sxB (sxA (sz (sy (su (sq (sm (si (sh (sf (sd (sZ (sY (sX (sW (sV (sU (sT (sR (sN (sM (sL (sK (sJ (sI (sH (sG (sF (sE (sD (sC (sB (sA ob0 (0:Int32)) (1:Int32)) (2:Int32)) (3:Int32)) (4:Int32)) (64:Int32)) (16:Int32)) (64:Int32)) (4:Int32)) (256:Int32)) (64:Int32)) (3:Int32)) (4294967295 : Int64)) (2147483647:Int32)) rr64) rr64) rr64) rr64) rr65) rr65) rr64) rr64) rr160) rr160) rr160) rr160) rr160) rr256) rr192) rr192) rr130) rr130) rr130) rr130) r3) r4)) := by simp only [fs, H0, H0v, H0x2, sA, sB, sC, sD, sE, sF, sG, sH, sI, sJ, sK, sL, sM, sN, sR, sT, sU, sV, sW, sX, sY, sZ, sd, sf, sh, si, sm, sq, su, sy, sz, sxA, sxB, sxC, sxD, sxE, ob0]
 rw [E5]
 obtain ⟨r7, hr7, h⟩ := be h
 refine callV W (a := 1) (as := []) (rest := []) (w := none) (σ₁ := (H0 s r7)) rfl rfl rfl rfl rfl rfl rfl rfl (tF3 Ad W s (sxE (sxD (sxC (sxB (sxA (sz (sy (su (sq (sm (si (sh (sf (sd (sZ (sY (sX (sW (sV (sU (sT (sR (sN (sM (sL (sK (sJ (sI (sH (sG (sF (sE (sD (sC (sB (sA ob0 (0:Int32)) (1:Int32)) (2:Int32)) (3:Int32)) (4:Int32)) (64:Int32)) (16:Int32)) (64:Int32)) (4:Int32)) (256:Int32)) (64:Int32)) (3:Int32)) (4294967295 : Int64)) (2147483647:Int32)) (List.replicate 64 0)) (List.replicate 64 0)) (List.replicate 64 0)) (List.replicate 64 0)) (List.replicate 65 0)) (List.replicate 65 0)) (List.replicate 64 0)) (List.replicate 64 0)) (List.replicate 160 0)) (List.replicate 160 0)) (List.replicate 160 0)) (List.replicate 160 0)) (List.replicate 160 0)) (List.replicate 256 0)) (List.replicate 192 0)) (List.replicate 192 0)) (List.replicate 130 0)) (List.replicate 130 0)) (List.replicate 130 0)) (List.replicate 130 0)) r3) r4) hr7) ?_
 obtain rfl := sj h
 exact ret0 rfl rfl
def H1 (s : List Int32) (o0 o1 : Ob) : QHeap := [iC s, .inl [.int (fA o0), .int (fB o0), .int (fC o0), .int (fD o0), .int (fE o0), .int (fF o0), .int (fG o0), .int (fH o0), .int (fI o0), .int (fJ o0), .int (fK o0), .int (fL o0), .long (fM o0), .int (fN o0), .ref 2, .ref 3, .ref 4, .ref 5, .ref 6, .ref 7, .ref 8, .ref 9, .ref 10, .ref 11, .ref 12, .ref 13, .ref 14, .ref 15, .ref 16, .ref 17, .ref 18, .ref 19, .ref 20, .ref 21, .int (fxD o0), .int (fxE o0), .int (fxF o0), .int (fxG o0), .int (fxH o0), .int (fxI o0), .int (fxJ o0), .int (fxK o0), .int (fxL o0), .int (fxM o0), .int (fxN o0), .int (fxO o0), .int (fxP o0), .int (fxQ o0)], iC (fR o0), bC (fT o0), iC (fU o0), bC (fV o0), iC (fW o0), iC (fX o0), iC (fY o0), iC (fZ o0), bC (fd o0), iC (ff o0), iC (fh o0), iC (fi o0), iC (fm o0), bC (fq o0), .inr (.inr (fu o0)), bC (fy o0), iC (fz o0), iC (fxA o0), iC (fxB o0), iC (fxC o0), .inl [.int (fA o1), .int (fB o1), .int (fC o1), .int (fD o1), .int (fE o1), .int (fF o1), .int (fG o1), .int (fH o1), .int (fI o1), .int (fJ o1), .int (fK o1), .int (fL o1), .long (fM o1), .int (fN o1), .ref 23, .ref 24, .ref 25, .ref 26, .ref 27, .ref 28, .ref 29, .ref 30, .ref 31, .ref 32, .ref 33, .ref 34, .ref 35, .ref 36, .ref 37, .ref 38, .ref 39, .ref 40, .ref 41, .ref 42, .int (fxD o1), .int (fxE o1), .int (fxF o1), .int (fxG o1), .int (fxH o1), .int (fxI o1), .int (fxJ o1), .int (fxK o1), .int (fxL o1), .int (fxM o1), .int (fxN o1), .int (fxO o1), .int (fxP o1), .int (fxQ o1)], iC (fR o1), bC (fT o1), iC (fU o1), bC (fV o1), iC (fW o1), iC (fX o1), iC (fY o1), iC (fZ o1), bC (fd o1), iC (ff o1), iC (fh o1), iC (fi o1), iC (fm o1), bC (fq o1), .inr (.inr (fu o1)), bC (fy o1), iC (fz o1), iC (fxA o1), iC (fxB o1), iC (fxC o1)]
theorem zA (Ad : QAd n0 ad) : QAd n0 (fun i => ad (pw 1 21 i)) := Ad.swap 21 (by decide)
theorem zW {m pc : Nat} {L L' : QLoc} {S S' : List Value} {v v' : Option Value} {s : List Int32} {x y x' y' : Ob} (h : QTri l Z n0 (fun i => ad (pw 1 21 i)) m (pc, L, S, H1 s x y) v (H1 s x' y')) (eL : L.map (Option.map (rw0 1 21)) = L') (eS : S.map (rw0 1 21) = S') (ev : v.map (rw0 1 21) = v') : QTri l Z n0 ad m (pc, L', S', H1 s y x) v' (H1 s y' x') := swap 1 21 h rfl rfl eL eS ev rfl rfl
def H1v (s : List Int32) (a0_0 a0_1 : Int32) (a0_2 a0_3 : Int32) (a0_4 a0_5 : Int32) (a0_6 a0_7 : Int32) (a0_8 a0_9 : Int32) (a0_10 a0_11 : Int32) (a0_12 : Int64) (a0_13 : Int32) (a0_14 a0_15 : List Int32) (a0_16 a0_17 : List Int32) (a0_18 a0_19 : List Int32) (a0_20 a0_21 : List Int32) (a0_22 a0_23 : List Int32) (a0_24 a0_25 : List Int32) (a0_26 a0_27 : List Int32) (a0_28 : List Int64) (a0_29 a0_30 : List Int32) (a0_31 a0_32 a0_33 : List Int32) (a0_34 a0_35 : Int32) (a0_36 a0_37 : Int32) (a0_38 a0_39 : Int32) (a0_40 a0_41 : Int32) (a0_42 a0_43 : Int32) (a0_44 a0_45 : Int32) (a0_46 a0_47 : Int32) (a1_0 a1_1 : Int32) (a1_2 a1_3 : Int32) (a1_4 a1_5 : Int32) (a1_6 a1_7 : Int32) (a1_8 a1_9 : Int32) (a1_10 a1_11 : Int32) (a1_12 : Int64) (a1_13 : Int32) (a1_14 a1_15 : List Int32) (a1_16 a1_17 : List Int32) (a1_18 a1_19 : List Int32) (a1_20 a1_21 : List Int32) (a1_22 a1_23 : List Int32) (a1_24 a1_25 : List Int32) (a1_26 a1_27 : List Int32) (a1_28 : List Int64) (a1_29 a1_30 : List Int32) (a1_31 a1_32 a1_33 : List Int32) (a1_34 a1_35 : Int32) (a1_36 a1_37 : Int32) (a1_38 a1_39 : Int32) (a1_40 a1_41 : Int32) (a1_42 a1_43 : Int32) (a1_44 a1_45 : Int32) (a1_46 a1_47 : Int32) : QHeap := [iC s, .inl [.int a0_0, .int a0_1, .int a0_2, .int a0_3, .int a0_4, .int a0_5, .int a0_6, .int a0_7, .int a0_8, .int a0_9, .int a0_10, .int a0_11, .long a0_12, .int a0_13, .ref 2, .ref 3, .ref 4, .ref 5, .ref 6, .ref 7, .ref 8, .ref 9, .ref 10, .ref 11, .ref 12, .ref 13, .ref 14, .ref 15, .ref 16, .ref 17, .ref 18, .ref 19, .ref 20, .ref 21, .int a0_34, .int a0_35, .int a0_36, .int a0_37, .int a0_38, .int a0_39, .int a0_40, .int a0_41, .int a0_42, .int a0_43, .int a0_44, .int a0_45, .int a0_46, .int a0_47], iC a0_14, bC a0_15, iC a0_16, bC a0_17, iC a0_18, iC a0_19, iC a0_20, iC a0_21, bC a0_22, iC a0_23, iC a0_24, iC a0_25, iC a0_26, bC a0_27, .inr (.inr a0_28), bC a0_29, iC a0_30, iC a0_31, iC a0_32, iC a0_33, .inl [.int a1_0, .int a1_1, .int a1_2, .int a1_3, .int a1_4, .int a1_5, .int a1_6, .int a1_7, .int a1_8, .int a1_9, .int a1_10, .int a1_11, .long a1_12, .int a1_13, .ref 23, .ref 24, .ref 25, .ref 26, .ref 27, .ref 28, .ref 29, .ref 30, .ref 31, .ref 32, .ref 33, .ref 34, .ref 35, .ref 36, .ref 37, .ref 38, .ref 39, .ref 40, .ref 41, .ref 42, .int a1_34, .int a1_35, .int a1_36, .int a1_37, .int a1_38, .int a1_39, .int a1_40, .int a1_41, .int a1_42, .int a1_43, .int a1_44, .int a1_45, .int a1_46, .int a1_47], iC a1_14, bC a1_15, iC a1_16, bC a1_17, iC a1_18, iC a1_19, iC a1_20, iC a1_21, bC a1_22, iC a1_23, iC a1_24, iC a1_25, iC a1_26, bC a1_27, .inr (.inr a1_28), bC a1_29, iC a1_30, iC a1_31, iC a1_32, iC a1_33]
def H1x15 (s : List Int32) (o0 o1 : Ob) (a1_0 a1_1 : Int32) (a1_2 a1_3 : Int32) (a1_4 a1_5 : Int32) (a1_6 a1_7 : Int32) (a1_8 a1_9 : Int32) (a1_10 a1_11 : Int32) (a1_12 : Int64) (a1_13 : Int32) (a1_14 a1_15 : List Int32) (a1_16 a1_17 : List Int32) (a1_18 a1_19 : List Int32) (a1_20 a1_21 : List Int32) (a1_22 a1_23 : List Int32) (a1_24 a1_25 : List Int32) (a1_26 a1_27 : List Int32) (a1_28 : List Int64) (a1_29 a1_30 : List Int32) (a1_31 a1_32 a1_33 : List Int32) : QHeap := H1v s (fA o0) (fB o0) (fC o0) (fD o0) (fE o0) (fF o0) (fG o0) (fH o0) (fI o0) (fJ o0) (fK o0) (fL o0) (fM o0) (fN o0) (fR o0) (fT o0) (fU o0) (fV o0) (fW o0) (fX o0) (fY o0) (fZ o0) (fd o0) (ff o0) (fh o0) (fi o0) (fm o0) (fq o0) (fu o0) (fy o0) (fz o0) (fxA o0) (fxB o0) (fxC o0) (fxD o0) (fxE o0) (fxF o0) (fxG o0) (fxH o0) (fxI o0) (fxJ o0) (fxK o0) (fxL o0) (fxM o0) (fxN o0) (fxO o0) (fxP o0) (fxQ o0) a1_0 a1_1 a1_2 a1_3 a1_4 a1_5 a1_6 a1_7 a1_8 a1_9 a1_10 a1_11 a1_12 a1_13 a1_14 a1_15 a1_16 a1_17 a1_18 a1_19 a1_20 a1_21 a1_22 a1_23 a1_24 a1_25 a1_26 a1_27 a1_28 a1_29 a1_30 a1_31 a1_32 a1_33 (fxD o1) (fxE o1) (fxF o1) (fxG o1) (fxH o1) (fxI o1) (fxJ o1) (fxK o1) (fxL o1) (fxM o1) (fxN o1) (fxO o1) (fxP o1) (fxQ o1)
def H1x16 (s : List Int32) (o0 o1 : Ob) (a1_0 a1_1 : Int32) (a1_2 a1_3 : Int32) (a1_4 a1_5 : Int32) (a1_6 a1_7 : Int32) (a1_8 a1_9 : Int32) (a1_10 a1_11 : Int32) (a1_12 : Int64) (a1_13 : Int32) (a1_14 a1_15 : List Int32) (a1_16 a1_17 : List Int32) (a1_18 a1_19 : List Int32) (a1_20 a1_21 : List Int32) (a1_22 a1_23 : List Int32) (a1_24 a1_25 : List Int32) (a1_26 a1_27 : List Int32) (a1_28 : List Int64) (a1_29 a1_30 : List Int32) (a1_31 a1_32 a1_33 : List Int32) (a1_34 : Int32) : QHeap := H1v s (fA o0) (fB o0) (fC o0) (fD o0) (fE o0) (fF o0) (fG o0) (fH o0) (fI o0) (fJ o0) (fK o0) (fL o0) (fM o0) (fN o0) (fR o0) (fT o0) (fU o0) (fV o0) (fW o0) (fX o0) (fY o0) (fZ o0) (fd o0) (ff o0) (fh o0) (fi o0) (fm o0) (fq o0) (fu o0) (fy o0) (fz o0) (fxA o0) (fxB o0) (fxC o0) (fxD o0) (fxE o0) (fxF o0) (fxG o0) (fxH o0) (fxI o0) (fxJ o0) (fxK o0) (fxL o0) (fxM o0) (fxN o0) (fxO o0) (fxP o0) (fxQ o0) a1_0 a1_1 a1_2 a1_3 a1_4 a1_5 a1_6 a1_7 a1_8 a1_9 a1_10 a1_11 a1_12 a1_13 a1_14 a1_15 a1_16 a1_17 a1_18 a1_19 a1_20 a1_21 a1_22 a1_23 a1_24 a1_25 a1_26 a1_27 a1_28 a1_29 a1_30 a1_31 a1_32 a1_33 a1_34 (fxE o1) (fxF o1) (fxG o1) (fxH o1) (fxI o1) (fxJ o1) (fxK o1) (fxL o1) (fxM o1) (fxN o1) (fxO o1) (fxP o1) (fxQ o1)
def H1x17 (s : List Int32) (o0 o1 : Ob) (a1_0 a1_1 : Int32) (a1_2 a1_3 : Int32) (a1_4 a1_5 : Int32) (a1_6 a1_7 : Int32) (a1_8 a1_9 : Int32) (a1_10 a1_11 : Int32) (a1_12 : Int64) (a1_13 : Int32) (a1_14 a1_15 : List Int32) (a1_16 a1_17 : List Int32) (a1_18 a1_19 : List Int32) (a1_20 a1_21 : List Int32) (a1_22 a1_23 : List Int32) (a1_24 a1_25 : List Int32) (a1_26 a1_27 : List Int32) (a1_28 : List Int64) (a1_29 a1_30 : List Int32) (a1_31 a1_32 a1_33 : List Int32) (a1_34 a1_35 : Int32) : QHeap := H1v s (fA o0) (fB o0) (fC o0) (fD o0) (fE o0) (fF o0) (fG o0) (fH o0) (fI o0) (fJ o0) (fK o0) (fL o0) (fM o0) (fN o0) (fR o0) (fT o0) (fU o0) (fV o0) (fW o0) (fX o0) (fY o0) (fZ o0) (fd o0) (ff o0) (fh o0) (fi o0) (fm o0) (fq o0) (fu o0) (fy o0) (fz o0) (fxA o0) (fxB o0) (fxC o0) (fxD o0) (fxE o0) (fxF o0) (fxG o0) (fxH o0) (fxI o0) (fxJ o0) (fxK o0) (fxL o0) (fxM o0) (fxN o0) (fxO o0) (fxP o0) (fxQ o0) a1_0 a1_1 a1_2 a1_3 a1_4 a1_5 a1_6 a1_7 a1_8 a1_9 a1_10 a1_11 a1_12 a1_13 a1_14 a1_15 a1_16 a1_17 a1_18 a1_19 a1_20 a1_21 a1_22 a1_23 a1_24 a1_25 a1_26 a1_27 a1_28 a1_29 a1_30 a1_31 a1_32 a1_33 a1_34 a1_35 (fxF o1) (fxG o1) (fxH o1) (fxI o1) (fxJ o1) (fxK o1) (fxL o1) (fxM o1) (fxN o1) (fxO o1) (fxP o1) (fxQ o1)
def H1x18 (s : List Int32) (o0 o1 : Ob) (a1_36 : Int32) : QHeap := H1v s (fA o0) (fB o0) (fC o0) (fD o0) (fE o0) (fF o0) (fG o0) (fH o0) (fI o0) (fJ o0) (fK o0) (fL o0) (fM o0) (fN o0) (fR o0) (fT o0) (fU o0) (fV o0) (fW o0) (fX o0) (fY o0) (fZ o0) (fd o0) (ff o0) (fh o0) (fi o0) (fm o0) (fq o0) (fu o0) (fy o0) (fz o0) (fxA o0) (fxB o0) (fxC o0) (fxD o0) (fxE o0) (fxF o0) (fxG o0) (fxH o0) (fxI o0) (fxJ o0) (fxK o0) (fxL o0) (fxM o0) (fxN o0) (fxO o0) (fxP o0) (fxQ o0) (fA o1) (fB o1) (fC o1) (fD o1) (fE o1) (fF o1) (fG o1) (fH o1) (fI o1) (fJ o1) (fK o1) (fL o1) (fM o1) (fN o1) (fR o1) (fT o1) (fU o1) (fV o1) (fW o1) (fX o1) (fY o1) (fZ o1) (fd o1) (ff o1) (fh o1) (fi o1) (fm o1) (fq o1) (fu o1) (fy o1) (fz o1) (fxA o1) (fxB o1) (fxC o1) (fxD o1) (fxE o1) a1_36 (fxG o1) (fxH o1) (fxI o1) (fxJ o1) (fxK o1) (fxL o1) (fxM o1) (fxN o1) (fxO o1) (fxP o1) (fxQ o1)
def H1x19 (s : List Int32) (o0 o1 : Ob) (a1_36 a1_37 : Int32) : QHeap := H1v s (fA o0) (fB o0) (fC o0) (fD o0) (fE o0) (fF o0) (fG o0) (fH o0) (fI o0) (fJ o0) (fK o0) (fL o0) (fM o0) (fN o0) (fR o0) (fT o0) (fU o0) (fV o0) (fW o0) (fX o0) (fY o0) (fZ o0) (fd o0) (ff o0) (fh o0) (fi o0) (fm o0) (fq o0) (fu o0) (fy o0) (fz o0) (fxA o0) (fxB o0) (fxC o0) (fxD o0) (fxE o0) (fxF o0) (fxG o0) (fxH o0) (fxI o0) (fxJ o0) (fxK o0) (fxL o0) (fxM o0) (fxN o0) (fxO o0) (fxP o0) (fxQ o0) (fA o1) (fB o1) (fC o1) (fD o1) (fE o1) (fF o1) (fG o1) (fH o1) (fI o1) (fJ o1) (fK o1) (fL o1) (fM o1) (fN o1) (fR o1) (fT o1) (fU o1) (fV o1) (fW o1) (fX o1) (fY o1) (fZ o1) (fd o1) (ff o1) (fh o1) (fi o1) (fm o1) (fq o1) (fu o1) (fy o1) (fz o1) (fxA o1) (fxB o1) (fxC o1) (fxD o1) (fxE o1) a1_36 a1_37 (fxH o1) (fxI o1) (fxJ o1) (fxK o1) (fxL o1) (fxM o1) (fxN o1) (fxO o1) (fxP o1) (fxQ o1)
def H1x20 (s : List Int32) (o0 o1 : Ob) (a1_36 a1_37 a1_38 : Int32) : QHeap := H1v s (fA o0) (fB o0) (fC o0) (fD o0) (fE o0) (fF o0) (fG o0) (fH o0) (fI o0) (fJ o0) (fK o0) (fL o0) (fM o0) (fN o0) (fR o0) (fT o0) (fU o0) (fV o0) (fW o0) (fX o0) (fY o0) (fZ o0) (fd o0) (ff o0) (fh o0) (fi o0) (fm o0) (fq o0) (fu o0) (fy o0) (fz o0) (fxA o0) (fxB o0) (fxC o0) (fxD o0) (fxE o0) (fxF o0) (fxG o0) (fxH o0) (fxI o0) (fxJ o0) (fxK o0) (fxL o0) (fxM o0) (fxN o0) (fxO o0) (fxP o0) (fxQ o0) (fA o1) (fB o1) (fC o1) (fD o1) (fE o1) (fF o1) (fG o1) (fH o1) (fI o1) (fJ o1) (fK o1) (fL o1) (fM o1) (fN o1) (fR o1) (fT o1) (fU o1) (fV o1) (fW o1) (fX o1) (fY o1) (fZ o1) (fd o1) (ff o1) (fh o1) (fi o1) (fm o1) (fq o1) (fu o1) (fy o1) (fz o1) (fxA o1) (fxB o1) (fxC o1) (fxD o1) (fxE o1) a1_36 a1_37 a1_38 (fxI o1) (fxJ o1) (fxK o1) (fxL o1) (fxM o1) (fxN o1) (fxO o1) (fxP o1) (fxQ o1)
def H1x21 (s : List Int32) (o0 o1 : Ob) (a1_36 a1_37 : Int32) (a1_38 a1_39 : Int32) : QHeap := H1v s (fA o0) (fB o0) (fC o0) (fD o0) (fE o0) (fF o0) (fG o0) (fH o0) (fI o0) (fJ o0) (fK o0) (fL o0) (fM o0) (fN o0) (fR o0) (fT o0) (fU o0) (fV o0) (fW o0) (fX o0) (fY o0) (fZ o0) (fd o0) (ff o0) (fh o0) (fi o0) (fm o0) (fq o0) (fu o0) (fy o0) (fz o0) (fxA o0) (fxB o0) (fxC o0) (fxD o0) (fxE o0) (fxF o0) (fxG o0) (fxH o0) (fxI o0) (fxJ o0) (fxK o0) (fxL o0) (fxM o0) (fxN o0) (fxO o0) (fxP o0) (fxQ o0) (fA o1) (fB o1) (fC o1) (fD o1) (fE o1) (fF o1) (fG o1) (fH o1) (fI o1) (fJ o1) (fK o1) (fL o1) (fM o1) (fN o1) (fR o1) (fT o1) (fU o1) (fV o1) (fW o1) (fX o1) (fY o1) (fZ o1) (fd o1) (ff o1) (fh o1) (fi o1) (fm o1) (fq o1) (fu o1) (fy o1) (fz o1) (fxA o1) (fxB o1) (fxC o1) (fxD o1) (fxE o1) a1_36 a1_37 a1_38 a1_39 (fxJ o1) (fxK o1) (fxL o1) (fxM o1) (fxN o1) (fxO o1) (fxP o1) (fxQ o1)
def H1x22 (s : List Int32) (o0 o1 : Ob) (a1_36 a1_37 : Int32) (a1_38 a1_39 a1_40 : Int32) : QHeap := H1v s (fA o0) (fB o0) (fC o0) (fD o0) (fE o0) (fF o0) (fG o0) (fH o0) (fI o0) (fJ o0) (fK o0) (fL o0) (fM o0) (fN o0) (fR o0) (fT o0) (fU o0) (fV o0) (fW o0) (fX o0) (fY o0) (fZ o0) (fd o0) (ff o0) (fh o0) (fi o0) (fm o0) (fq o0) (fu o0) (fy o0) (fz o0) (fxA o0) (fxB o0) (fxC o0) (fxD o0) (fxE o0) (fxF o0) (fxG o0) (fxH o0) (fxI o0) (fxJ o0) (fxK o0) (fxL o0) (fxM o0) (fxN o0) (fxO o0) (fxP o0) (fxQ o0) (fA o1) (fB o1) (fC o1) (fD o1) (fE o1) (fF o1) (fG o1) (fH o1) (fI o1) (fJ o1) (fK o1) (fL o1) (fM o1) (fN o1) (fR o1) (fT o1) (fU o1) (fV o1) (fW o1) (fX o1) (fY o1) (fZ o1) (fd o1) (ff o1) (fh o1) (fi o1) (fm o1) (fq o1) (fu o1) (fy o1) (fz o1) (fxA o1) (fxB o1) (fxC o1) (fxD o1) (fxE o1) a1_36 a1_37 a1_38 a1_39 a1_40 (fxK o1) (fxL o1) (fxM o1) (fxN o1) (fxO o1) (fxP o1) (fxQ o1)
def H1x23 (s : List Int32) (o0 o1 : Ob) (a1_36 a1_37 : Int32) (a1_38 a1_39 : Int32) (a1_40 a1_41 : Int32) : QHeap := H1v s (fA o0) (fB o0) (fC o0) (fD o0) (fE o0) (fF o0) (fG o0) (fH o0) (fI o0) (fJ o0) (fK o0) (fL o0) (fM o0) (fN o0) (fR o0) (fT o0) (fU o0) (fV o0) (fW o0) (fX o0) (fY o0) (fZ o0) (fd o0) (ff o0) (fh o0) (fi o0) (fm o0) (fq o0) (fu o0) (fy o0) (fz o0) (fxA o0) (fxB o0) (fxC o0) (fxD o0) (fxE o0) (fxF o0) (fxG o0) (fxH o0) (fxI o0) (fxJ o0) (fxK o0) (fxL o0) (fxM o0) (fxN o0) (fxO o0) (fxP o0) (fxQ o0) (fA o1) (fB o1) (fC o1) (fD o1) (fE o1) (fF o1) (fG o1) (fH o1) (fI o1) (fJ o1) (fK o1) (fL o1) (fM o1) (fN o1) (fR o1) (fT o1) (fU o1) (fV o1) (fW o1) (fX o1) (fY o1) (fZ o1) (fd o1) (ff o1) (fh o1) (fi o1) (fm o1) (fq o1) (fu o1) (fy o1) (fz o1) (fxA o1) (fxB o1) (fxC o1) (fxD o1) (fxE o1) a1_36 a1_37 a1_38 a1_39 a1_40 a1_41 (fxL o1) (fxM o1) (fxN o1) (fxO o1) (fxP o1) (fxQ o1)
def H1x24 (s : List Int32) (o0 o1 : Ob) (a1_36 a1_37 : Int32) (a1_38 a1_39 : Int32) (a1_40 a1_41 a1_42 : Int32) : QHeap := H1v s (fA o0) (fB o0) (fC o0) (fD o0) (fE o0) (fF o0) (fG o0) (fH o0) (fI o0) (fJ o0) (fK o0) (fL o0) (fM o0) (fN o0) (fR o0) (fT o0) (fU o0) (fV o0) (fW o0) (fX o0) (fY o0) (fZ o0) (fd o0) (ff o0) (fh o0) (fi o0) (fm o0) (fq o0) (fu o0) (fy o0) (fz o0) (fxA o0) (fxB o0) (fxC o0) (fxD o0) (fxE o0) (fxF o0) (fxG o0) (fxH o0) (fxI o0) (fxJ o0) (fxK o0) (fxL o0) (fxM o0) (fxN o0) (fxO o0) (fxP o0) (fxQ o0) (fA o1) (fB o1) (fC o1) (fD o1) (fE o1) (fF o1) (fG o1) (fH o1) (fI o1) (fJ o1) (fK o1) (fL o1) (fM o1) (fN o1) (fR o1) (fT o1) (fU o1) (fV o1) (fW o1) (fX o1) (fY o1) (fZ o1) (fd o1) (ff o1) (fh o1) (fi o1) (fm o1) (fq o1) (fu o1) (fy o1) (fz o1) (fxA o1) (fxB o1) (fxC o1) (fxD o1) (fxE o1) a1_36 a1_37 a1_38 a1_39 a1_40 a1_41 a1_42 (fxM o1) (fxN o1) (fxO o1) (fxP o1) (fxQ o1)
def H1x25 (s : List Int32) (o0 o1 : Ob) (a1_36 a1_37 : Int32) (a1_38 a1_39 : Int32) (a1_40 a1_41 : Int32) (a1_42 a1_43 : Int32) : QHeap := H1v s (fA o0) (fB o0) (fC o0) (fD o0) (fE o0) (fF o0) (fG o0) (fH o0) (fI o0) (fJ o0) (fK o0) (fL o0) (fM o0) (fN o0) (fR o0) (fT o0) (fU o0) (fV o0) (fW o0) (fX o0) (fY o0) (fZ o0) (fd o0) (ff o0) (fh o0) (fi o0) (fm o0) (fq o0) (fu o0) (fy o0) (fz o0) (fxA o0) (fxB o0) (fxC o0) (fxD o0) (fxE o0) (fxF o0) (fxG o0) (fxH o0) (fxI o0) (fxJ o0) (fxK o0) (fxL o0) (fxM o0) (fxN o0) (fxO o0) (fxP o0) (fxQ o0) (fA o1) (fB o1) (fC o1) (fD o1) (fE o1) (fF o1) (fG o1) (fH o1) (fI o1) (fJ o1) (fK o1) (fL o1) (fM o1) (fN o1) (fR o1) (fT o1) (fU o1) (fV o1) (fW o1) (fX o1) (fY o1) (fZ o1) (fd o1) (ff o1) (fh o1) (fi o1) (fm o1) (fq o1) (fu o1) (fy o1) (fz o1) (fxA o1) (fxB o1) (fxC o1) (fxD o1) (fxE o1) a1_36 a1_37 a1_38 a1_39 a1_40 a1_41 a1_42 a1_43 (fxN o1) (fxO o1) (fxP o1) (fxQ o1)
def H1x26 (s : List Int32) (o0 o1 : Ob) (a1_36 a1_37 : Int32) (a1_38 a1_39 : Int32) (a1_40 a1_41 : Int32) (a1_42 a1_43 a1_44 : Int32) : QHeap := H1v s (fA o0) (fB o0) (fC o0) (fD o0) (fE o0) (fF o0) (fG o0) (fH o0) (fI o0) (fJ o0) (fK o0) (fL o0) (fM o0) (fN o0) (fR o0) (fT o0) (fU o0) (fV o0) (fW o0) (fX o0) (fY o0) (fZ o0) (fd o0) (ff o0) (fh o0) (fi o0) (fm o0) (fq o0) (fu o0) (fy o0) (fz o0) (fxA o0) (fxB o0) (fxC o0) (fxD o0) (fxE o0) (fxF o0) (fxG o0) (fxH o0) (fxI o0) (fxJ o0) (fxK o0) (fxL o0) (fxM o0) (fxN o0) (fxO o0) (fxP o0) (fxQ o0) (fA o1) (fB o1) (fC o1) (fD o1) (fE o1) (fF o1) (fG o1) (fH o1) (fI o1) (fJ o1) (fK o1) (fL o1) (fM o1) (fN o1) (fR o1) (fT o1) (fU o1) (fV o1) (fW o1) (fX o1) (fY o1) (fZ o1) (fd o1) (ff o1) (fh o1) (fi o1) (fm o1) (fq o1) (fu o1) (fy o1) (fz o1) (fxA o1) (fxB o1) (fxC o1) (fxD o1) (fxE o1) a1_36 a1_37 a1_38 a1_39 a1_40 a1_41 a1_42 a1_43 a1_44 (fxO o1) (fxP o1) (fxQ o1)
def H1x27 (s : List Int32) (o0 o1 : Ob) (a1_36 a1_37 : Int32) (a1_38 a1_39 : Int32) (a1_40 a1_41 : Int32) (a1_42 a1_43 : Int32) (a1_44 a1_45 : Int32) : QHeap := H1v s (fA o0) (fB o0) (fC o0) (fD o0) (fE o0) (fF o0) (fG o0) (fH o0) (fI o0) (fJ o0) (fK o0) (fL o0) (fM o0) (fN o0) (fR o0) (fT o0) (fU o0) (fV o0) (fW o0) (fX o0) (fY o0) (fZ o0) (fd o0) (ff o0) (fh o0) (fi o0) (fm o0) (fq o0) (fu o0) (fy o0) (fz o0) (fxA o0) (fxB o0) (fxC o0) (fxD o0) (fxE o0) (fxF o0) (fxG o0) (fxH o0) (fxI o0) (fxJ o0) (fxK o0) (fxL o0) (fxM o0) (fxN o0) (fxO o0) (fxP o0) (fxQ o0) (fA o1) (fB o1) (fC o1) (fD o1) (fE o1) (fF o1) (fG o1) (fH o1) (fI o1) (fJ o1) (fK o1) (fL o1) (fM o1) (fN o1) (fR o1) (fT o1) (fU o1) (fV o1) (fW o1) (fX o1) (fY o1) (fZ o1) (fd o1) (ff o1) (fh o1) (fi o1) (fm o1) (fq o1) (fu o1) (fy o1) (fz o1) (fxA o1) (fxB o1) (fxC o1) (fxD o1) (fxE o1) a1_36 a1_37 a1_38 a1_39 a1_40 a1_41 a1_42 a1_43 a1_44 a1_45 (fxP o1) (fxQ o1)
def H1x28 (s : List Int32) (o0 o1 : Ob) (a1_36 a1_37 : Int32) (a1_38 a1_39 : Int32) (a1_40 a1_41 : Int32) (a1_42 a1_43 : Int32) (a1_44 a1_45 a1_46 : Int32) : QHeap := H1v s (fA o0) (fB o0) (fC o0) (fD o0) (fE o0) (fF o0) (fG o0) (fH o0) (fI o0) (fJ o0) (fK o0) (fL o0) (fM o0) (fN o0) (fR o0) (fT o0) (fU o0) (fV o0) (fW o0) (fX o0) (fY o0) (fZ o0) (fd o0) (ff o0) (fh o0) (fi o0) (fm o0) (fq o0) (fu o0) (fy o0) (fz o0) (fxA o0) (fxB o0) (fxC o0) (fxD o0) (fxE o0) (fxF o0) (fxG o0) (fxH o0) (fxI o0) (fxJ o0) (fxK o0) (fxL o0) (fxM o0) (fxN o0) (fxO o0) (fxP o0) (fxQ o0) (fA o1) (fB o1) (fC o1) (fD o1) (fE o1) (fF o1) (fG o1) (fH o1) (fI o1) (fJ o1) (fK o1) (fL o1) (fM o1) (fN o1) (fR o1) (fT o1) (fU o1) (fV o1) (fW o1) (fX o1) (fY o1) (fZ o1) (fd o1) (ff o1) (fh o1) (fi o1) (fm o1) (fq o1) (fu o1) (fy o1) (fz o1) (fxA o1) (fxB o1) (fxC o1) (fxD o1) (fxE o1) a1_36 a1_37 a1_38 a1_39 a1_40 a1_41 a1_42 a1_43 a1_44 a1_45 a1_46 (fxQ o1)
def H1x29 (s : List Int32) (o0 o1 : Ob) (a1_36 a1_37 : Int32) (a1_38 a1_39 : Int32) (a1_40 a1_41 : Int32) (a1_42 a1_43 : Int32) (a1_44 a1_45 : Int32) (a1_46 a1_47 : Int32) : QHeap := H1v s (fA o0) (fB o0) (fC o0) (fD o0) (fE o0) (fF o0) (fG o0) (fH o0) (fI o0) (fJ o0) (fK o0) (fL o0) (fM o0) (fN o0) (fR o0) (fT o0) (fU o0) (fV o0) (fW o0) (fX o0) (fY o0) (fZ o0) (fd o0) (ff o0) (fh o0) (fi o0) (fm o0) (fq o0) (fu o0) (fy o0) (fz o0) (fxA o0) (fxB o0) (fxC o0) (fxD o0) (fxE o0) (fxF o0) (fxG o0) (fxH o0) (fxI o0) (fxJ o0) (fxK o0) (fxL o0) (fxM o0) (fxN o0) (fxO o0) (fxP o0) (fxQ o0) (fA o1) (fB o1) (fC o1) (fD o1) (fE o1) (fF o1) (fG o1) (fH o1) (fI o1) (fJ o1) (fK o1) (fL o1) (fM o1) (fN o1) (fR o1) (fT o1) (fU o1) (fV o1) (fW o1) (fX o1) (fY o1) (fZ o1) (fd o1) (ff o1) (fh o1) (fi o1) (fm o1) (fq o1) (fu o1) (fy o1) (fz o1) (fxA o1) (fxB o1) (fxC o1) (fxD o1) (fxE o1) a1_36 a1_37 a1_38 a1_39 a1_40 a1_41 a1_42 a1_43 a1_44 a1_45 a1_46 a1_47
theorem tF3a1 (Ad : QAd n0 ad) (W : QW Z a0) (s : List Int32) (e0 o : Ob) {r : Ob} (h : F3 o = some r) : QTri l Z n0 ad 3 (0, qentry [.ref 22] (pMaxL 3), [], (H1 s e0 o)) (none : Option Value) (H1 s e0 r) := by
 unfold F3 at h
 refine yS Ad W 3 (5, [vR 22], [], (H1x18 s e0 o (0:Int32))) rfl ?_
 refine yS Ad W 3 (10, [vR 22], [], (H1x19 s e0 o (0:Int32) (0:Int32))) rfl ?_
 refine yS Ad W 3 (15, [vR 22], [], (H1x20 s e0 o (0:Int32) (0:Int32) (0:Int32))) rfl ?_
 refine yS Ad W 3 (20, [vR 22], [], (H1x21 s e0 o (0:Int32) (0:Int32) (0:Int32) (0:Int32))) rfl ?_
 refine yS Ad W 3 (25, [vR 22], [], (H1x22 s e0 o (0:Int32) (0:Int32) (0:Int32) (0:Int32) (0:Int32))) rfl ?_
 refine yS Ad W 3 (30, [vR 22], [], (H1x23 s e0 o (0:Int32) (0:Int32) (0:Int32) (0:Int32) (0:Int32) (0:Int32))) rfl ?_
 refine yS Ad W 3 (35, [vR 22], [], (H1x24 s e0 o (0:Int32) (0:Int32) (0:Int32) (0:Int32) (0:Int32) (0:Int32) (0:Int32))) rfl ?_
 refine yS Ad W 3 (40, [vR 22], [], (H1x25 s e0 o (0:Int32) (0:Int32) (0:Int32) (0:Int32) (0:Int32) (0:Int32) (0:Int32) (0:Int32))) rfl ?_
 refine yS Ad W 3 (45, [vR 22], [], (H1x26 s e0 o (0:Int32) (0:Int32) (0:Int32) (0:Int32) (0:Int32) (0:Int32) (0:Int32) (0:Int32) (0:Int32))) rfl ?_
 refine yS Ad W 3 (50, [vR 22], [], (H1x27 s e0 o (0:Int32) (0:Int32) (0:Int32) (0:Int32) (0:Int32) (0:Int32) (0:Int32) (0:Int32) (0:Int32) (0:Int32))) rfl ?_
 refine yS Ad W 3 (55, [vR 22], [], (H1x28 s e0 o (0:Int32) (0:Int32) (0:Int32) (0:Int32) (0:Int32) (0:Int32) (0:Int32) (0:Int32) (0:Int32) (0:Int32) (0:Int32))) rfl ?_
 refine yS Ad W 3 (60, [vR 22], [], (H1x29 s e0 o (0:Int32) (0:Int32) (0:Int32) (0:Int32) (0:Int32) (0:Int32) (0:Int32) (0:Int32) (0:Int32) (0:Int32) (0:Int32) (0:Int32))) rfl ?_
 have E12 : ((H1x29 s e0 o (0:Int32) (0:Int32) (0:Int32) (0:Int32) (0:Int32) (0:Int32) (0:Int32) (0:Int32) (0:Int32) (0:Int32) (0:Int32) (0:Int32)) : QHeap) = (H1 s e0 (sxQ (sxP (sxO (sxN (sxM (sxL (sxK (sxJ (sxI (sxH (sxG (sxF o (0:Int32)) (0:Int32)) (0:Int32)) (0:Int32)) (0:Int32)) (0:Int32)) (0:Int32)) (0:Int32)) (0:Int32)) (0:Int32)) (0:Int32)) (0:Int32))) := by simp only [fs, H1, H1v, H1x29, sxF, sxG, sxH, sxI, sxJ, sxK, sxL, sxM, sxN, sxO, sxP, sxQ]
 rw [E12]
 obtain rfl := sj h
 exact ret0 rfl rfl
theorem tF1a1 (Ad : QAd n0 ad) (W : QW Z a0) (s : List Int32) (e0 : Ob) (x1 x2 : Int32) {r : Ob} (h : F1 x1 x2 = some r) : QTri l Z n0 ad 1 (0, qentry [.ref 22, .int x1, .int x2] (pMaxL 1), [], [iC s, .inl [.int (fA e0), .int (fB e0), .int (fC e0), .int (fD e0), .int (fE e0), .int (fF e0), .int (fG e0), .int (fH e0), .int (fI e0), .int (fJ e0), .int (fK e0), .int (fL e0), .long (fM e0), .int (fN e0), .ref 2, .ref 3, .ref 4, .ref 5, .ref 6, .ref 7, .ref 8, .ref 9, .ref 10, .ref 11, .ref 12, .ref 13, .ref 14, .ref 15, .ref 16, .ref 17, .ref 18, .ref 19, .ref 20, .ref 21, .int (fxD e0), .int (fxE e0), .int (fxF e0), .int (fxG e0), .int (fxH e0), .int (fxI e0), .int (fxJ e0), .int (fxK e0), .int (fxL e0), .int (fxM e0), .int (fxN e0), .int (fxO e0), .int (fxP e0), .int (fxQ e0)], iC (fR e0), bC (fT e0), iC (fU e0), bC (fV e0), iC (fW e0), iC (fX e0), iC (fY e0), iC (fZ e0), bC (fd e0), iC (ff e0), iC (fh e0), iC (fi e0), iC (fm e0), bC (fq e0), .inr (.inr (fu e0)), bC (fy e0), iC (fz e0), iC (fxA e0), iC (fxB e0), iC (fxC e0), .inl [.int (fA ob0), .int (fB ob0), .int (fC ob0), .int (fD ob0), .int (fE ob0), .int (fF ob0), .int (fG ob0), .int (fH ob0), .int (fI ob0), .int (fJ ob0), .int (fK ob0), .int (fL ob0), .long (fM ob0), .int (fN ob0), .null, .null, .null, .null, .null, .null, .null, .null, .null, .null, .null, .null, .null, .null, .null, .null, .null, .null, .null, .null, .int (fxD ob0), .int (fxE ob0), .int (fxF ob0), .int (fxG ob0), .int (fxH ob0), .int (fxI ob0), .int (fxJ ob0), .int (fxK ob0), .int (fxL ob0), .int (fxM ob0), .int (fxN ob0), .int (fxO ob0), .int (fxP ob0), .int (fxQ ob0)]]) (none : Option Value) (H1 s e0 r) := by
 unfold F1 at h
 refine yS Ad W 1 (1, [vR 22, vI x1, vI x2], [.ref 22], [iC s, .inl [.int (fA e0), .int (fB e0), .int (fC e0), .int (fD e0), .int (fE e0), .int (fF e0), .int (fG e0), .int (fH e0), .int (fI e0), .int (fJ e0), .int (fK e0), .int (fL e0), .long (fM e0), .int (fN e0), .ref 2, .ref 3, .ref 4, .ref 5, .ref 6, .ref 7, .ref 8, .ref 9, .ref 10, .ref 11, .ref 12, .ref 13, .ref 14, .ref 15, .ref 16, .ref 17, .ref 18, .ref 19, .ref 20, .ref 21, .int (fxD e0), .int (fxE e0), .int (fxF e0), .int (fxG e0), .int (fxH e0), .int (fxI e0), .int (fxJ e0), .int (fxK e0), .int (fxL e0), .int (fxM e0), .int (fxN e0), .int (fxO e0), .int (fxP e0), .int (fxQ e0)], iC (fR e0), bC (fT e0), iC (fU e0), bC (fV e0), iC (fW e0), iC (fX e0), iC (fY e0), iC (fZ e0), bC (fd e0), iC (ff e0), iC (fh e0), iC (fi e0), iC (fm e0), bC (fq e0), .inr (.inr (fu e0)), bC (fy e0), iC (fz e0), iC (fxA e0), iC (fxB e0), iC (fxC e0), .inl [.int (fA ob0), .int (fB ob0), .int (fC ob0), .int (fD ob0), .int (fE ob0), .int (fF ob0), .int (fG ob0), .int (fH ob0), .int (fI ob0), .int (fJ ob0), .int (fK ob0), .int (fL ob0), .long (fM ob0), .int (fN ob0), nU, nU, nU, nU, nU, nU, nU, nU, nU, nU, nU, nU, nU, nU, nU, nU, nU, nU, nU, nU, .int (fxD ob0), .int (fxE ob0), .int (fxF ob0), .int (fxG ob0), .int (fxH ob0), .int (fxI ob0), .int (fxJ ob0), .int (fxK ob0), .int (fxL ob0), .int (fxM ob0), .int (fxN ob0), .int (fxO ob0), .int (fxP ob0), .int (fxQ ob0)]]) rfl ?_
 refine callO W rfl rfl rfl ?_
 refine yS Ad W 3 (9, [vR 22, vI x1, vI x2], [], [iC s, .inl [.int (fA e0), .int (fB e0), .int (fC e0), .int (fD e0), .int (fE e0), .int (fF e0), .int (fG e0), .int (fH e0), .int (fI e0), .int (fJ e0), .int (fK e0), .int (fL e0), .long (fM e0), .int (fN e0), .ref 2, .ref 3, .ref 4, .ref 5, .ref 6, .ref 7, .ref 8, .ref 9, .ref 10, .ref 11, .ref 12, .ref 13, .ref 14, .ref 15, .ref 16, .ref 17, .ref 18, .ref 19, .ref 20, .ref 21, .int (fxD e0), .int (fxE e0), .int (fxF e0), .int (fxG e0), .int (fxH e0), .int (fxI e0), .int (fxJ e0), .int (fxK e0), .int (fxL e0), .int (fxM e0), .int (fxN e0), .int (fxO e0), .int (fxP e0), .int (fxQ e0)], iC (fR e0), bC (fT e0), iC (fU e0), bC (fV e0), iC (fW e0), iC (fX e0), iC (fY e0), iC (fZ e0), bC (fd e0), iC (ff e0), iC (fh e0), iC (fi e0), iC (fm e0), bC (fq e0), .inr (.inr (fu e0)), bC (fy e0), iC (fz e0), iC (fxA e0), iC (fxB e0), iC (fxC e0), .inl [.int 0, .int (fB ob0), .int (fC ob0), .int (fD ob0), .int (fE ob0), .int (fF ob0), .int (fG ob0), .int (fH ob0), .int (fI ob0), .int (fJ ob0), .int (fK ob0), .int (fL ob0), .long (fM ob0), .int (fN ob0), nU, nU, nU, nU, nU, nU, nU, nU, nU, nU, nU, nU, nU, nU, nU, nU, nU, nU, nU, nU, .int (fxD ob0), .int (fxE ob0), .int (fxF ob0), .int (fxG ob0), .int (fxH ob0), .int (fxI ob0), .int (fxJ ob0), .int (fxK ob0), .int (fxL ob0), .int (fxM ob0), .int (fxN ob0), .int (fxO ob0), .int (fxP ob0), .int (fxQ ob0)]]) rfl ?_
 refine yS Ad W 3 (14, [vR 22, vI x1, vI x2], [], [iC s, .inl [.int (fA e0), .int (fB e0), .int (fC e0), .int (fD e0), .int (fE e0), .int (fF e0), .int (fG e0), .int (fH e0), .int (fI e0), .int (fJ e0), .int (fK e0), .int (fL e0), .long (fM e0), .int (fN e0), .ref 2, .ref 3, .ref 4, .ref 5, .ref 6, .ref 7, .ref 8, .ref 9, .ref 10, .ref 11, .ref 12, .ref 13, .ref 14, .ref 15, .ref 16, .ref 17, .ref 18, .ref 19, .ref 20, .ref 21, .int (fxD e0), .int (fxE e0), .int (fxF e0), .int (fxG e0), .int (fxH e0), .int (fxI e0), .int (fxJ e0), .int (fxK e0), .int (fxL e0), .int (fxM e0), .int (fxN e0), .int (fxO e0), .int (fxP e0), .int (fxQ e0)], iC (fR e0), bC (fT e0), iC (fU e0), bC (fV e0), iC (fW e0), iC (fX e0), iC (fY e0), iC (fZ e0), bC (fd e0), iC (ff e0), iC (fh e0), iC (fi e0), iC (fm e0), bC (fq e0), .inr (.inr (fu e0)), bC (fy e0), iC (fz e0), iC (fxA e0), iC (fxB e0), iC (fxC e0), .inl [.int 0, .int 1, .int (fC ob0), .int (fD ob0), .int (fE ob0), .int (fF ob0), .int (fG ob0), .int (fH ob0), .int (fI ob0), .int (fJ ob0), .int (fK ob0), .int (fL ob0), .long (fM ob0), .int (fN ob0), nU, nU, nU, nU, nU, nU, nU, nU, nU, nU, nU, nU, nU, nU, nU, nU, nU, nU, nU, nU, .int (fxD ob0), .int (fxE ob0), .int (fxF ob0), .int (fxG ob0), .int (fxH ob0), .int (fxI ob0), .int (fxJ ob0), .int (fxK ob0), .int (fxL ob0), .int (fxM ob0), .int (fxN ob0), .int (fxO ob0), .int (fxP ob0), .int (fxQ ob0)]]) rfl ?_
 refine yS Ad W 3 (19, [vR 22, vI x1, vI x2], [], [iC s, .inl [.int (fA e0), .int (fB e0), .int (fC e0), .int (fD e0), .int (fE e0), .int (fF e0), .int (fG e0), .int (fH e0), .int (fI e0), .int (fJ e0), .int (fK e0), .int (fL e0), .long (fM e0), .int (fN e0), .ref 2, .ref 3, .ref 4, .ref 5, .ref 6, .ref 7, .ref 8, .ref 9, .ref 10, .ref 11, .ref 12, .ref 13, .ref 14, .ref 15, .ref 16, .ref 17, .ref 18, .ref 19, .ref 20, .ref 21, .int (fxD e0), .int (fxE e0), .int (fxF e0), .int (fxG e0), .int (fxH e0), .int (fxI e0), .int (fxJ e0), .int (fxK e0), .int (fxL e0), .int (fxM e0), .int (fxN e0), .int (fxO e0), .int (fxP e0), .int (fxQ e0)], iC (fR e0), bC (fT e0), iC (fU e0), bC (fV e0), iC (fW e0), iC (fX e0), iC (fY e0), iC (fZ e0), bC (fd e0), iC (ff e0), iC (fh e0), iC (fi e0), iC (fm e0), bC (fq e0), .inr (.inr (fu e0)), bC (fy e0), iC (fz e0), iC (fxA e0), iC (fxB e0), iC (fxC e0), .inl [.int 0, .int 1, .int 2, .int (fD ob0), .int (fE ob0), .int (fF ob0), .int (fG ob0), .int (fH ob0), .int (fI ob0), .int (fJ ob0), .int (fK ob0), .int (fL ob0), .long (fM ob0), .int (fN ob0), nU, nU, nU, nU, nU, nU, nU, nU, nU, nU, nU, nU, nU, nU, nU, nU, nU, nU, nU, nU, .int (fxD ob0), .int (fxE ob0), .int (fxF ob0), .int (fxG ob0), .int (fxH ob0), .int (fxI ob0), .int (fxJ ob0), .int (fxK ob0), .int (fxL ob0), .int (fxM ob0), .int (fxN ob0), .int (fxO ob0), .int (fxP ob0), .int (fxQ ob0)]]) rfl ?_
 refine yS Ad W 3 (24, [vR 22, vI x1, vI x2], [], [iC s, .inl [.int (fA e0), .int (fB e0), .int (fC e0), .int (fD e0), .int (fE e0), .int (fF e0), .int (fG e0), .int (fH e0), .int (fI e0), .int (fJ e0), .int (fK e0), .int (fL e0), .long (fM e0), .int (fN e0), .ref 2, .ref 3, .ref 4, .ref 5, .ref 6, .ref 7, .ref 8, .ref 9, .ref 10, .ref 11, .ref 12, .ref 13, .ref 14, .ref 15, .ref 16, .ref 17, .ref 18, .ref 19, .ref 20, .ref 21, .int (fxD e0), .int (fxE e0), .int (fxF e0), .int (fxG e0), .int (fxH e0), .int (fxI e0), .int (fxJ e0), .int (fxK e0), .int (fxL e0), .int (fxM e0), .int (fxN e0), .int (fxO e0), .int (fxP e0), .int (fxQ e0)], iC (fR e0), bC (fT e0), iC (fU e0), bC (fV e0), iC (fW e0), iC (fX e0), iC (fY e0), iC (fZ e0), bC (fd e0), iC (ff e0), iC (fh e0), iC (fi e0), iC (fm e0), bC (fq e0), .inr (.inr (fu e0)), bC (fy e0), iC (fz e0), iC (fxA e0), iC (fxB e0), iC (fxC e0), .inl [.int 0, .int 1, .int 2, .int 3, .int (fE ob0), .int (fF ob0), .int (fG ob0), .int (fH ob0), .int (fI ob0), .int (fJ ob0), .int (fK ob0), .int (fL ob0), .long (fM ob0), .int (fN ob0), nU, nU, nU, nU, nU, nU, nU, nU, nU, nU, nU, nU, nU, nU, nU, nU, nU, nU, nU, nU, .int (fxD ob0), .int (fxE ob0), .int (fxF ob0), .int (fxG ob0), .int (fxH ob0), .int (fxI ob0), .int (fxJ ob0), .int (fxK ob0), .int (fxL ob0), .int (fxM ob0), .int (fxN ob0), .int (fxO ob0), .int (fxP ob0), .int (fxQ ob0)]]) rfl ?_
 refine yS Ad W 3 (29, [vR 22, vI x1, vI x2], [], [iC s, .inl [.int (fA e0), .int (fB e0), .int (fC e0), .int (fD e0), .int (fE e0), .int (fF e0), .int (fG e0), .int (fH e0), .int (fI e0), .int (fJ e0), .int (fK e0), .int (fL e0), .long (fM e0), .int (fN e0), .ref 2, .ref 3, .ref 4, .ref 5, .ref 6, .ref 7, .ref 8, .ref 9, .ref 10, .ref 11, .ref 12, .ref 13, .ref 14, .ref 15, .ref 16, .ref 17, .ref 18, .ref 19, .ref 20, .ref 21, .int (fxD e0), .int (fxE e0), .int (fxF e0), .int (fxG e0), .int (fxH e0), .int (fxI e0), .int (fxJ e0), .int (fxK e0), .int (fxL e0), .int (fxM e0), .int (fxN e0), .int (fxO e0), .int (fxP e0), .int (fxQ e0)], iC (fR e0), bC (fT e0), iC (fU e0), bC (fV e0), iC (fW e0), iC (fX e0), iC (fY e0), iC (fZ e0), bC (fd e0), iC (ff e0), iC (fh e0), iC (fi e0), iC (fm e0), bC (fq e0), .inr (.inr (fu e0)), bC (fy e0), iC (fz e0), iC (fxA e0), iC (fxB e0), iC (fxC e0), .inl [.int 0, .int 1, .int 2, .int 3, .int 4, .int (fF ob0), .int (fG ob0), .int (fH ob0), .int (fI ob0), .int (fJ ob0), .int (fK ob0), .int (fL ob0), .long (fM ob0), .int (fN ob0), nU, nU, nU, nU, nU, nU, nU, nU, nU, nU, nU, nU, nU, nU, nU, nU, nU, nU, nU, nU, .int (fxD ob0), .int (fxE ob0), .int (fxF ob0), .int (fxG ob0), .int (fxH ob0), .int (fxI ob0), .int (fxJ ob0), .int (fxK ob0), .int (fxL ob0), .int (fxM ob0), .int (fxN ob0), .int (fxO ob0), .int (fxP ob0), .int (fxQ ob0)]]) rfl ?_
 refine yS Ad W 3 (35, [vR 22, vI x1, vI x2], [], [iC s, .inl [.int (fA e0), .int (fB e0), .int (fC e0), .int (fD e0), .int (fE e0), .int (fF e0), .int (fG e0), .int (fH e0), .int (fI e0), .int (fJ e0), .int (fK e0), .int (fL e0), .long (fM e0), .int (fN e0), .ref 2, .ref 3, .ref 4, .ref 5, .ref 6, .ref 7, .ref 8, .ref 9, .ref 10, .ref 11, .ref 12, .ref 13, .ref 14, .ref 15, .ref 16, .ref 17, .ref 18, .ref 19, .ref 20, .ref 21, .int (fxD e0), .int (fxE e0), .int (fxF e0), .int (fxG e0), .int (fxH e0), .int (fxI e0), .int (fxJ e0), .int (fxK e0), .int (fxL e0), .int (fxM e0), .int (fxN e0), .int (fxO e0), .int (fxP e0), .int (fxQ e0)], iC (fR e0), bC (fT e0), iC (fU e0), bC (fV e0), iC (fW e0), iC (fX e0), iC (fY e0), iC (fZ e0), bC (fd e0), iC (ff e0), iC (fh e0), iC (fi e0), iC (fm e0), bC (fq e0), .inr (.inr (fu e0)), bC (fy e0), iC (fz e0), iC (fxA e0), iC (fxB e0), iC (fxC e0), .inl [.int 0, .int 1, .int 2, .int 3, .int 4, .int 64, .int (fG ob0), .int (fH ob0), .int (fI ob0), .int (fJ ob0), .int (fK ob0), .int (fL ob0), .long (fM ob0), .int (fN ob0), nU, nU, nU, nU, nU, nU, nU, nU, nU, nU, nU, nU, nU, nU, nU, nU, nU, nU, nU, nU, .int (fxD ob0), .int (fxE ob0), .int (fxF ob0), .int (fxG ob0), .int (fxH ob0), .int (fxI ob0), .int (fxJ ob0), .int (fxK ob0), .int (fxL ob0), .int (fxM ob0), .int (fxN ob0), .int (fxO ob0), .int (fxP ob0), .int (fxQ ob0)]]) rfl ?_
 refine yS Ad W 3 (41, [vR 22, vI x1, vI x2], [], [iC s, .inl [.int (fA e0), .int (fB e0), .int (fC e0), .int (fD e0), .int (fE e0), .int (fF e0), .int (fG e0), .int (fH e0), .int (fI e0), .int (fJ e0), .int (fK e0), .int (fL e0), .long (fM e0), .int (fN e0), .ref 2, .ref 3, .ref 4, .ref 5, .ref 6, .ref 7, .ref 8, .ref 9, .ref 10, .ref 11, .ref 12, .ref 13, .ref 14, .ref 15, .ref 16, .ref 17, .ref 18, .ref 19, .ref 20, .ref 21, .int (fxD e0), .int (fxE e0), .int (fxF e0), .int (fxG e0), .int (fxH e0), .int (fxI e0), .int (fxJ e0), .int (fxK e0), .int (fxL e0), .int (fxM e0), .int (fxN e0), .int (fxO e0), .int (fxP e0), .int (fxQ e0)], iC (fR e0), bC (fT e0), iC (fU e0), bC (fV e0), iC (fW e0), iC (fX e0), iC (fY e0), iC (fZ e0), bC (fd e0), iC (ff e0), iC (fh e0), iC (fi e0), iC (fm e0), bC (fq e0), .inr (.inr (fu e0)), bC (fy e0), iC (fz e0), iC (fxA e0), iC (fxB e0), iC (fxC e0), .inl [.int 0, .int 1, .int 2, .int 3, .int 4, .int 64, .int 16, .int (fH ob0), .int (fI ob0), .int (fJ ob0), .int (fK ob0), .int (fL ob0), .long (fM ob0), .int (fN ob0), nU, nU, nU, nU, nU, nU, nU, nU, nU, nU, nU, nU, nU, nU, nU, nU, nU, nU, nU, nU, .int (fxD ob0), .int (fxE ob0), .int (fxF ob0), .int (fxG ob0), .int (fxH ob0), .int (fxI ob0), .int (fxJ ob0), .int (fxK ob0), .int (fxL ob0), .int (fxM ob0), .int (fxN ob0), .int (fxO ob0), .int (fxP ob0), .int (fxQ ob0)]]) rfl ?_
 refine yS Ad W 3 (47, [vR 22, vI x1, vI x2], [], [iC s, .inl [.int (fA e0), .int (fB e0), .int (fC e0), .int (fD e0), .int (fE e0), .int (fF e0), .int (fG e0), .int (fH e0), .int (fI e0), .int (fJ e0), .int (fK e0), .int (fL e0), .long (fM e0), .int (fN e0), .ref 2, .ref 3, .ref 4, .ref 5, .ref 6, .ref 7, .ref 8, .ref 9, .ref 10, .ref 11, .ref 12, .ref 13, .ref 14, .ref 15, .ref 16, .ref 17, .ref 18, .ref 19, .ref 20, .ref 21, .int (fxD e0), .int (fxE e0), .int (fxF e0), .int (fxG e0), .int (fxH e0), .int (fxI e0), .int (fxJ e0), .int (fxK e0), .int (fxL e0), .int (fxM e0), .int (fxN e0), .int (fxO e0), .int (fxP e0), .int (fxQ e0)], iC (fR e0), bC (fT e0), iC (fU e0), bC (fV e0), iC (fW e0), iC (fX e0), iC (fY e0), iC (fZ e0), bC (fd e0), iC (ff e0), iC (fh e0), iC (fi e0), iC (fm e0), bC (fq e0), .inr (.inr (fu e0)), bC (fy e0), iC (fz e0), iC (fxA e0), iC (fxB e0), iC (fxC e0), .inl [.int 0, .int 1, .int 2, .int 3, .int 4, .int 64, .int 16, .int 64, .int (fI ob0), .int (fJ ob0), .int (fK ob0), .int (fL ob0), .long (fM ob0), .int (fN ob0), nU, nU, nU, nU, nU, nU, nU, nU, nU, nU, nU, nU, nU, nU, nU, nU, nU, nU, nU, nU, .int (fxD ob0), .int (fxE ob0), .int (fxF ob0), .int (fxG ob0), .int (fxH ob0), .int (fxI ob0), .int (fxJ ob0), .int (fxK ob0), .int (fxL ob0), .int (fxM ob0), .int (fxN ob0), .int (fxO ob0), .int (fxP ob0), .int (fxQ ob0)]]) rfl ?_
 refine yS Ad W 3 (52, [vR 22, vI x1, vI x2], [], [iC s, .inl [.int (fA e0), .int (fB e0), .int (fC e0), .int (fD e0), .int (fE e0), .int (fF e0), .int (fG e0), .int (fH e0), .int (fI e0), .int (fJ e0), .int (fK e0), .int (fL e0), .long (fM e0), .int (fN e0), .ref 2, .ref 3, .ref 4, .ref 5, .ref 6, .ref 7, .ref 8, .ref 9, .ref 10, .ref 11, .ref 12, .ref 13, .ref 14, .ref 15, .ref 16, .ref 17, .ref 18, .ref 19, .ref 20, .ref 21, .int (fxD e0), .int (fxE e0), .int (fxF e0), .int (fxG e0), .int (fxH e0), .int (fxI e0), .int (fxJ e0), .int (fxK e0), .int (fxL e0), .int (fxM e0), .int (fxN e0), .int (fxO e0), .int (fxP e0), .int (fxQ e0)], iC (fR e0), bC (fT e0), iC (fU e0), bC (fV e0), iC (fW e0), iC (fX e0), iC (fY e0), iC (fZ e0), bC (fd e0), iC (ff e0), iC (fh e0), iC (fi e0), iC (fm e0), bC (fq e0), .inr (.inr (fu e0)), bC (fy e0), iC (fz e0), iC (fxA e0), iC (fxB e0), iC (fxC e0), .inl [.int 0, .int 1, .int 2, .int 3, .int 4, .int 64, .int 16, .int 64, .int 4, .int (fJ ob0), .int (fK ob0), .int (fL ob0), .long (fM ob0), .int (fN ob0), nU, nU, nU, nU, nU, nU, nU, nU, nU, nU, nU, nU, nU, nU, nU, nU, nU, nU, nU, nU, .int (fxD ob0), .int (fxE ob0), .int (fxF ob0), .int (fxG ob0), .int (fxH ob0), .int (fxI ob0), .int (fxJ ob0), .int (fxK ob0), .int (fxL ob0), .int (fxM ob0), .int (fxN ob0), .int (fxO ob0), .int (fxP ob0), .int (fxQ ob0)]]) rfl ?_
 refine yS Ad W 3 (59, [vR 22, vI x1, vI x2], [], [iC s, .inl [.int (fA e0), .int (fB e0), .int (fC e0), .int (fD e0), .int (fE e0), .int (fF e0), .int (fG e0), .int (fH e0), .int (fI e0), .int (fJ e0), .int (fK e0), .int (fL e0), .long (fM e0), .int (fN e0), .ref 2, .ref 3, .ref 4, .ref 5, .ref 6, .ref 7, .ref 8, .ref 9, .ref 10, .ref 11, .ref 12, .ref 13, .ref 14, .ref 15, .ref 16, .ref 17, .ref 18, .ref 19, .ref 20, .ref 21, .int (fxD e0), .int (fxE e0), .int (fxF e0), .int (fxG e0), .int (fxH e0), .int (fxI e0), .int (fxJ e0), .int (fxK e0), .int (fxL e0), .int (fxM e0), .int (fxN e0), .int (fxO e0), .int (fxP e0), .int (fxQ e0)], iC (fR e0), bC (fT e0), iC (fU e0), bC (fV e0), iC (fW e0), iC (fX e0), iC (fY e0), iC (fZ e0), bC (fd e0), iC (ff e0), iC (fh e0), iC (fi e0), iC (fm e0), bC (fq e0), .inr (.inr (fu e0)), bC (fy e0), iC (fz e0), iC (fxA e0), iC (fxB e0), iC (fxC e0), .inl [.int 0, .int 1, .int 2, .int 3, .int 4, .int 64, .int 16, .int 64, .int 4, .int 256, .int (fK ob0), .int (fL ob0), .long (fM ob0), .int (fN ob0), nU, nU, nU, nU, nU, nU, nU, nU, nU, nU, nU, nU, nU, nU, nU, nU, nU, nU, nU, nU, .int (fxD ob0), .int (fxE ob0), .int (fxF ob0), .int (fxG ob0), .int (fxH ob0), .int (fxI ob0), .int (fxJ ob0), .int (fxK ob0), .int (fxL ob0), .int (fxM ob0), .int (fxN ob0), .int (fxO ob0), .int (fxP ob0), .int (fxQ ob0)]]) rfl ?_
 refine yS Ad W 3 (65, [vR 22, vI x1, vI x2], [], [iC s, .inl [.int (fA e0), .int (fB e0), .int (fC e0), .int (fD e0), .int (fE e0), .int (fF e0), .int (fG e0), .int (fH e0), .int (fI e0), .int (fJ e0), .int (fK e0), .int (fL e0), .long (fM e0), .int (fN e0), .ref 2, .ref 3, .ref 4, .ref 5, .ref 6, .ref 7, .ref 8, .ref 9, .ref 10, .ref 11, .ref 12, .ref 13, .ref 14, .ref 15, .ref 16, .ref 17, .ref 18, .ref 19, .ref 20, .ref 21, .int (fxD e0), .int (fxE e0), .int (fxF e0), .int (fxG e0), .int (fxH e0), .int (fxI e0), .int (fxJ e0), .int (fxK e0), .int (fxL e0), .int (fxM e0), .int (fxN e0), .int (fxO e0), .int (fxP e0), .int (fxQ e0)], iC (fR e0), bC (fT e0), iC (fU e0), bC (fV e0), iC (fW e0), iC (fX e0), iC (fY e0), iC (fZ e0), bC (fd e0), iC (ff e0), iC (fh e0), iC (fi e0), iC (fm e0), bC (fq e0), .inr (.inr (fu e0)), bC (fy e0), iC (fz e0), iC (fxA e0), iC (fxB e0), iC (fxC e0), .inl [.int 0, .int 1, .int 2, .int 3, .int 4, .int 64, .int 16, .int 64, .int 4, .int 256, .int 64, .int (fL ob0), .long (fM ob0), .int (fN ob0), nU, nU, nU, nU, nU, nU, nU, nU, nU, nU, nU, nU, nU, nU, nU, nU, nU, nU, nU, nU, .int (fxD ob0), .int (fxE ob0), .int (fxF ob0), .int (fxG ob0), .int (fxH ob0), .int (fxI ob0), .int (fxJ ob0), .int (fxK ob0), .int (fxL ob0), .int (fxM ob0), .int (fxN ob0), .int (fxO ob0), .int (fxP ob0), .int (fxQ ob0)]]) rfl ?_
 refine yS Ad W 3 (70, [vR 22, vI x1, vI x2], [], [iC s, .inl [.int (fA e0), .int (fB e0), .int (fC e0), .int (fD e0), .int (fE e0), .int (fF e0), .int (fG e0), .int (fH e0), .int (fI e0), .int (fJ e0), .int (fK e0), .int (fL e0), .long (fM e0), .int (fN e0), .ref 2, .ref 3, .ref 4, .ref 5, .ref 6, .ref 7, .ref 8, .ref 9, .ref 10, .ref 11, .ref 12, .ref 13, .ref 14, .ref 15, .ref 16, .ref 17, .ref 18, .ref 19, .ref 20, .ref 21, .int (fxD e0), .int (fxE e0), .int (fxF e0), .int (fxG e0), .int (fxH e0), .int (fxI e0), .int (fxJ e0), .int (fxK e0), .int (fxL e0), .int (fxM e0), .int (fxN e0), .int (fxO e0), .int (fxP e0), .int (fxQ e0)], iC (fR e0), bC (fT e0), iC (fU e0), bC (fV e0), iC (fW e0), iC (fX e0), iC (fY e0), iC (fZ e0), bC (fd e0), iC (ff e0), iC (fh e0), iC (fi e0), iC (fm e0), bC (fq e0), .inr (.inr (fu e0)), bC (fy e0), iC (fz e0), iC (fxA e0), iC (fxB e0), iC (fxC e0), .inl [.int 0, .int 1, .int 2, .int 3, .int 4, .int 64, .int 16, .int 64, .int 4, .int 256, .int 64, .int 3, .long (fM ob0), .int (fN ob0), nU, nU, nU, nU, nU, nU, nU, nU, nU, nU, nU, nU, nU, nU, nU, nU, nU, nU, nU, nU, .int (fxD ob0), .int (fxE ob0), .int (fxF ob0), .int (fxG ob0), .int (fxH ob0), .int (fxI ob0), .int (fxJ ob0), .int (fxK ob0), .int (fxL ob0), .int (fxM ob0), .int (fxN ob0), .int (fxO ob0), .int (fxP ob0), .int (fxQ ob0)]]) rfl ?_
 refine yS Ad W 3 (77, [vR 22, vI x1, vI x2], [], [iC s, .inl [.int (fA e0), .int (fB e0), .int (fC e0), .int (fD e0), .int (fE e0), .int (fF e0), .int (fG e0), .int (fH e0), .int (fI e0), .int (fJ e0), .int (fK e0), .int (fL e0), .long (fM e0), .int (fN e0), .ref 2, .ref 3, .ref 4, .ref 5, .ref 6, .ref 7, .ref 8, .ref 9, .ref 10, .ref 11, .ref 12, .ref 13, .ref 14, .ref 15, .ref 16, .ref 17, .ref 18, .ref 19, .ref 20, .ref 21, .int (fxD e0), .int (fxE e0), .int (fxF e0), .int (fxG e0), .int (fxH e0), .int (fxI e0), .int (fxJ e0), .int (fxK e0), .int (fxL e0), .int (fxM e0), .int (fxN e0), .int (fxO e0), .int (fxP e0), .int (fxQ e0)], iC (fR e0), bC (fT e0), iC (fU e0), bC (fV e0), iC (fW e0), iC (fX e0), iC (fY e0), iC (fZ e0), bC (fd e0), iC (ff e0), iC (fh e0), iC (fi e0), iC (fm e0), bC (fq e0), .inr (.inr (fu e0)), bC (fy e0), iC (fz e0), iC (fxA e0), iC (fxB e0), iC (fxC e0), .inl [.int 0, .int 1, .int 2, .int 3, .int 4, .int 64, .int 16, .int 64, .int 4, .int 256, .int 64, .int 3, .long (4294967295 : Int64), .int (fN ob0), nU, nU, nU, nU, nU, nU, nU, nU, nU, nU, nU, nU, nU, nU, nU, nU, nU, nU, nU, nU, .int (fxD ob0), .int (fxE ob0), .int (fxF ob0), .int (fxG ob0), .int (fxH ob0), .int (fxI ob0), .int (fxJ ob0), .int (fxK ob0), .int (fxL ob0), .int (fxM ob0), .int (fxN ob0), .int (fxO ob0), .int (fxP ob0), .int (fxQ ob0)]]) rfl ?_
 refine yS Ad W 3 (83, [vR 22, vI x1, vI x2], [], [iC s, .inl [.int (fA e0), .int (fB e0), .int (fC e0), .int (fD e0), .int (fE e0), .int (fF e0), .int (fG e0), .int (fH e0), .int (fI e0), .int (fJ e0), .int (fK e0), .int (fL e0), .long (fM e0), .int (fN e0), .ref 2, .ref 3, .ref 4, .ref 5, .ref 6, .ref 7, .ref 8, .ref 9, .ref 10, .ref 11, .ref 12, .ref 13, .ref 14, .ref 15, .ref 16, .ref 17, .ref 18, .ref 19, .ref 20, .ref 21, .int (fxD e0), .int (fxE e0), .int (fxF e0), .int (fxG e0), .int (fxH e0), .int (fxI e0), .int (fxJ e0), .int (fxK e0), .int (fxL e0), .int (fxM e0), .int (fxN e0), .int (fxO e0), .int (fxP e0), .int (fxQ e0)], iC (fR e0), bC (fT e0), iC (fU e0), bC (fV e0), iC (fW e0), iC (fX e0), iC (fY e0), iC (fZ e0), bC (fd e0), iC (ff e0), iC (fh e0), iC (fi e0), iC (fm e0), bC (fq e0), .inr (.inr (fu e0)), bC (fy e0), iC (fz e0), iC (fxA e0), iC (fxB e0), iC (fxC e0), .inl [.int 0, .int 1, .int 2, .int 3, .int 4, .int 64, .int 16, .int 64, .int 4, .int 256, .int 64, .int 3, .long (4294967295 : Int64), .int 2147483647, nU, nU, nU, nU, nU, nU, nU, nU, nU, nU, nU, nU, nU, nU, nU, nU, nU, nU, nU, nU, .int (fxD ob0), .int (fxE ob0), .int (fxF ob0), .int (fxG ob0), .int (fxH ob0), .int (fxI ob0), .int (fxJ ob0), .int (fxK ob0), .int (fxL ob0), .int (fxM ob0), .int (fxN ob0), .int (fxO ob0), .int (fxP ob0), .int (fxQ ob0)]]) rfl ?_
 refine yS Ad W 3 (88, [vR 22, vI x1, vI x2], [.ref 23, .ref 22], [iC s, .inl [.int (fA e0), .int (fB e0), .int (fC e0), .int (fD e0), .int (fE e0), .int (fF e0), .int (fG e0), .int (fH e0), .int (fI e0), .int (fJ e0), .int (fK e0), .int (fL e0), .long (fM e0), .int (fN e0), .ref 2, .ref 3, .ref 4, .ref 5, .ref 6, .ref 7, .ref 8, .ref 9, .ref 10, .ref 11, .ref 12, .ref 13, .ref 14, .ref 15, .ref 16, .ref 17, .ref 18, .ref 19, .ref 20, .ref 21, .int (fxD e0), .int (fxE e0), .int (fxF e0), .int (fxG e0), .int (fxH e0), .int (fxI e0), .int (fxJ e0), .int (fxK e0), .int (fxL e0), .int (fxM e0), .int (fxN e0), .int (fxO e0), .int (fxP e0), .int (fxQ e0)], iC (fR e0), bC (fT e0), iC (fU e0), bC (fV e0), iC (fW e0), iC (fX e0), iC (fY e0), iC (fZ e0), bC (fd e0), iC (ff e0), iC (fh e0), iC (fi e0), iC (fm e0), bC (fq e0), .inr (.inr (fu e0)), bC (fy e0), iC (fz e0), iC (fxA e0), iC (fxB e0), iC (fxC e0), .inl [.int 0, .int 1, .int 2, .int 3, .int 4, .int 64, .int 16, .int 64, .int 4, .int 256, .int 64, .int 3, .long (4294967295 : Int64), .int 2147483647, nU, nU, nU, nU, nU, nU, nU, nU, nU, nU, nU, nU, nU, nU, nU, nU, nU, nU, nU, nU, .int (fxD ob0), .int (fxE ob0), .int (fxF ob0), .int (fxG ob0), .int (fxH ob0), .int (fxI ob0), .int (fxJ ob0), .int (fxK ob0), .int (fxL ob0), .int (fxM ob0), .int (fxN ob0), .int (fxO ob0), .int (fxP ob0), .int (fxQ ob0)], i64]) rfl ?_
 refine yS Ad W 1 (91, [vR 22, vI x1, vI x2], [], [iC s, .inl [.int (fA e0), .int (fB e0), .int (fC e0), .int (fD e0), .int (fE e0), .int (fF e0), .int (fG e0), .int (fH e0), .int (fI e0), .int (fJ e0), .int (fK e0), .int (fL e0), .long (fM e0), .int (fN e0), .ref 2, .ref 3, .ref 4, .ref 5, .ref 6, .ref 7, .ref 8, .ref 9, .ref 10, .ref 11, .ref 12, .ref 13, .ref 14, .ref 15, .ref 16, .ref 17, .ref 18, .ref 19, .ref 20, .ref 21, .int (fxD e0), .int (fxE e0), .int (fxF e0), .int (fxG e0), .int (fxH e0), .int (fxI e0), .int (fxJ e0), .int (fxK e0), .int (fxL e0), .int (fxM e0), .int (fxN e0), .int (fxO e0), .int (fxP e0), .int (fxQ e0)], iC (fR e0), bC (fT e0), iC (fU e0), bC (fV e0), iC (fW e0), iC (fX e0), iC (fY e0), iC (fZ e0), bC (fd e0), iC (ff e0), iC (fh e0), iC (fi e0), iC (fm e0), bC (fq e0), .inr (.inr (fu e0)), bC (fy e0), iC (fz e0), iC (fxA e0), iC (fxB e0), iC (fxC e0), .inl [.int 0, .int 1, .int 2, .int 3, .int 4, .int 64, .int 16, .int 64, .int 4, .int 256, .int 64, .int 3, .long (4294967295 : Int64), .int 2147483647, .ref 23, nU, nU, nU, nU, nU, nU, nU, nU, nU, nU, nU, nU, nU, nU, nU, nU, nU, nU, nU, .int (fxD ob0), .int (fxE ob0), .int (fxF ob0), .int (fxG ob0), .int (fxH ob0), .int (fxI ob0), .int (fxJ ob0), .int (fxK ob0), .int (fxL ob0), .int (fxM ob0), .int (fxN ob0), .int (fxO ob0), .int (fxP ob0), .int (fxQ ob0)], i64]) rfl ?_
 refine yS Ad W 3 (96, [vR 22, vI x1, vI x2], [.ref 24, .ref 22], [iC s, .inl [.int (fA e0), .int (fB e0), .int (fC e0), .int (fD e0), .int (fE e0), .int (fF e0), .int (fG e0), .int (fH e0), .int (fI e0), .int (fJ e0), .int (fK e0), .int (fL e0), .long (fM e0), .int (fN e0), .ref 2, .ref 3, .ref 4, .ref 5, .ref 6, .ref 7, .ref 8, .ref 9, .ref 10, .ref 11, .ref 12, .ref 13, .ref 14, .ref 15, .ref 16, .ref 17, .ref 18, .ref 19, .ref 20, .ref 21, .int (fxD e0), .int (fxE e0), .int (fxF e0), .int (fxG e0), .int (fxH e0), .int (fxI e0), .int (fxJ e0), .int (fxK e0), .int (fxL e0), .int (fxM e0), .int (fxN e0), .int (fxO e0), .int (fxP e0), .int (fxQ e0)], iC (fR e0), bC (fT e0), iC (fU e0), bC (fV e0), iC (fW e0), iC (fX e0), iC (fY e0), iC (fZ e0), bC (fd e0), iC (ff e0), iC (fh e0), iC (fi e0), iC (fm e0), bC (fq e0), .inr (.inr (fu e0)), bC (fy e0), iC (fz e0), iC (fxA e0), iC (fxB e0), iC (fxC e0), .inl [.int 0, .int 1, .int 2, .int 3, .int 4, .int 64, .int 16, .int 64, .int 4, .int 256, .int 64, .int 3, .long (4294967295 : Int64), .int 2147483647, .ref 23, nU, nU, nU, nU, nU, nU, nU, nU, nU, nU, nU, nU, nU, nU, nU, nU, nU, nU, nU, .int (fxD ob0), .int (fxE ob0), .int (fxF ob0), .int (fxG ob0), .int (fxH ob0), .int (fxI ob0), .int (fxJ ob0), .int (fxK ob0), .int (fxL ob0), .int (fxM ob0), .int (fxN ob0), .int (fxO ob0), .int (fxP ob0), .int (fxQ ob0)], i64, bC rr64]) rfl ?_
 refine yS Ad W 1 (99, [vR 22, vI x1, vI x2], [], [iC s, .inl [.int (fA e0), .int (fB e0), .int (fC e0), .int (fD e0), .int (fE e0), .int (fF e0), .int (fG e0), .int (fH e0), .int (fI e0), .int (fJ e0), .int (fK e0), .int (fL e0), .long (fM e0), .int (fN e0), .ref 2, .ref 3, .ref 4, .ref 5, .ref 6, .ref 7, .ref 8, .ref 9, .ref 10, .ref 11, .ref 12, .ref 13, .ref 14, .ref 15, .ref 16, .ref 17, .ref 18, .ref 19, .ref 20, .ref 21, .int (fxD e0), .int (fxE e0), .int (fxF e0), .int (fxG e0), .int (fxH e0), .int (fxI e0), .int (fxJ e0), .int (fxK e0), .int (fxL e0), .int (fxM e0), .int (fxN e0), .int (fxO e0), .int (fxP e0), .int (fxQ e0)], iC (fR e0), bC (fT e0), iC (fU e0), bC (fV e0), iC (fW e0), iC (fX e0), iC (fY e0), iC (fZ e0), bC (fd e0), iC (ff e0), iC (fh e0), iC (fi e0), iC (fm e0), bC (fq e0), .inr (.inr (fu e0)), bC (fy e0), iC (fz e0), iC (fxA e0), iC (fxB e0), iC (fxC e0), .inl [.int 0, .int 1, .int 2, .int 3, .int 4, .int 64, .int 16, .int 64, .int 4, .int 256, .int 64, .int 3, .long (4294967295 : Int64), .int 2147483647, .ref 23, .ref 24, nU, nU, nU, nU, nU, nU, nU, nU, nU, nU, nU, nU, nU, nU, nU, nU, nU, nU, .int (fxD ob0), .int (fxE ob0), .int (fxF ob0), .int (fxG ob0), .int (fxH ob0), .int (fxI ob0), .int (fxJ ob0), .int (fxK ob0), .int (fxL ob0), .int (fxM ob0), .int (fxN ob0), .int (fxO ob0), .int (fxP ob0), .int (fxQ ob0)], i64, bC rr64]) rfl ?_
 refine yS Ad W 3 (104, [vR 22, vI x1, vI x2], [.ref 25, .ref 22], [iC s, .inl [.int (fA e0), .int (fB e0), .int (fC e0), .int (fD e0), .int (fE e0), .int (fF e0), .int (fG e0), .int (fH e0), .int (fI e0), .int (fJ e0), .int (fK e0), .int (fL e0), .long (fM e0), .int (fN e0), .ref 2, .ref 3, .ref 4, .ref 5, .ref 6, .ref 7, .ref 8, .ref 9, .ref 10, .ref 11, .ref 12, .ref 13, .ref 14, .ref 15, .ref 16, .ref 17, .ref 18, .ref 19, .ref 20, .ref 21, .int (fxD e0), .int (fxE e0), .int (fxF e0), .int (fxG e0), .int (fxH e0), .int (fxI e0), .int (fxJ e0), .int (fxK e0), .int (fxL e0), .int (fxM e0), .int (fxN e0), .int (fxO e0), .int (fxP e0), .int (fxQ e0)], iC (fR e0), bC (fT e0), iC (fU e0), bC (fV e0), iC (fW e0), iC (fX e0), iC (fY e0), iC (fZ e0), bC (fd e0), iC (ff e0), iC (fh e0), iC (fi e0), iC (fm e0), bC (fq e0), .inr (.inr (fu e0)), bC (fy e0), iC (fz e0), iC (fxA e0), iC (fxB e0), iC (fxC e0), .inl [.int 0, .int 1, .int 2, .int 3, .int 4, .int 64, .int 16, .int 64, .int 4, .int 256, .int 64, .int 3, .long (4294967295 : Int64), .int 2147483647, .ref 23, .ref 24, nU, nU, nU, nU, nU, nU, nU, nU, nU, nU, nU, nU, nU, nU, nU, nU, nU, nU, .int (fxD ob0), .int (fxE ob0), .int (fxF ob0), .int (fxG ob0), .int (fxH ob0), .int (fxI ob0), .int (fxJ ob0), .int (fxK ob0), .int (fxL ob0), .int (fxM ob0), .int (fxN ob0), .int (fxO ob0), .int (fxP ob0), .int (fxQ ob0)], i64, bC rr64, i64]) rfl ?_
 refine yS Ad W 1 (107, [vR 22, vI x1, vI x2], [], [iC s, .inl [.int (fA e0), .int (fB e0), .int (fC e0), .int (fD e0), .int (fE e0), .int (fF e0), .int (fG e0), .int (fH e0), .int (fI e0), .int (fJ e0), .int (fK e0), .int (fL e0), .long (fM e0), .int (fN e0), .ref 2, .ref 3, .ref 4, .ref 5, .ref 6, .ref 7, .ref 8, .ref 9, .ref 10, .ref 11, .ref 12, .ref 13, .ref 14, .ref 15, .ref 16, .ref 17, .ref 18, .ref 19, .ref 20, .ref 21, .int (fxD e0), .int (fxE e0), .int (fxF e0), .int (fxG e0), .int (fxH e0), .int (fxI e0), .int (fxJ e0), .int (fxK e0), .int (fxL e0), .int (fxM e0), .int (fxN e0), .int (fxO e0), .int (fxP e0), .int (fxQ e0)], iC (fR e0), bC (fT e0), iC (fU e0), bC (fV e0), iC (fW e0), iC (fX e0), iC (fY e0), iC (fZ e0), bC (fd e0), iC (ff e0), iC (fh e0), iC (fi e0), iC (fm e0), bC (fq e0), .inr (.inr (fu e0)), bC (fy e0), iC (fz e0), iC (fxA e0), iC (fxB e0), iC (fxC e0), .inl [.int 0, .int 1, .int 2, .int 3, .int 4, .int 64, .int 16, .int 64, .int 4, .int 256, .int 64, .int 3, .long (4294967295 : Int64), .int 2147483647, .ref 23, .ref 24, .ref 25, nU, nU, nU, nU, nU, nU, nU, nU, nU, nU, nU, nU, nU, nU, nU, nU, nU, .int (fxD ob0), .int (fxE ob0), .int (fxF ob0), .int (fxG ob0), .int (fxH ob0), .int (fxI ob0), .int (fxJ ob0), .int (fxK ob0), .int (fxL ob0), .int (fxM ob0), .int (fxN ob0), .int (fxO ob0), .int (fxP ob0), .int (fxQ ob0)], i64, bC rr64, i64]) rfl ?_
 refine yS Ad W 3 (112, [vR 22, vI x1, vI x2], [.ref 26, .ref 22], [iC s, .inl [.int (fA e0), .int (fB e0), .int (fC e0), .int (fD e0), .int (fE e0), .int (fF e0), .int (fG e0), .int (fH e0), .int (fI e0), .int (fJ e0), .int (fK e0), .int (fL e0), .long (fM e0), .int (fN e0), .ref 2, .ref 3, .ref 4, .ref 5, .ref 6, .ref 7, .ref 8, .ref 9, .ref 10, .ref 11, .ref 12, .ref 13, .ref 14, .ref 15, .ref 16, .ref 17, .ref 18, .ref 19, .ref 20, .ref 21, .int (fxD e0), .int (fxE e0), .int (fxF e0), .int (fxG e0), .int (fxH e0), .int (fxI e0), .int (fxJ e0), .int (fxK e0), .int (fxL e0), .int (fxM e0), .int (fxN e0), .int (fxO e0), .int (fxP e0), .int (fxQ e0)], iC (fR e0), bC (fT e0), iC (fU e0), bC (fV e0), iC (fW e0), iC (fX e0), iC (fY e0), iC (fZ e0), bC (fd e0), iC (ff e0), iC (fh e0), iC (fi e0), iC (fm e0), bC (fq e0), .inr (.inr (fu e0)), bC (fy e0), iC (fz e0), iC (fxA e0), iC (fxB e0), iC (fxC e0), .inl [.int 0, .int 1, .int 2, .int 3, .int 4, .int 64, .int 16, .int 64, .int 4, .int 256, .int 64, .int 3, .long (4294967295 : Int64), .int 2147483647, .ref 23, .ref 24, .ref 25, nU, nU, nU, nU, nU, nU, nU, nU, nU, nU, nU, nU, nU, nU, nU, nU, nU, .int (fxD ob0), .int (fxE ob0), .int (fxF ob0), .int (fxG ob0), .int (fxH ob0), .int (fxI ob0), .int (fxJ ob0), .int (fxK ob0), .int (fxL ob0), .int (fxM ob0), .int (fxN ob0), .int (fxO ob0), .int (fxP ob0), .int (fxQ ob0)], i64, bC rr64, i64, bC rr64]) rfl ?_
 refine yS Ad W 1 (115, [vR 22, vI x1, vI x2], [], [iC s, .inl [.int (fA e0), .int (fB e0), .int (fC e0), .int (fD e0), .int (fE e0), .int (fF e0), .int (fG e0), .int (fH e0), .int (fI e0), .int (fJ e0), .int (fK e0), .int (fL e0), .long (fM e0), .int (fN e0), .ref 2, .ref 3, .ref 4, .ref 5, .ref 6, .ref 7, .ref 8, .ref 9, .ref 10, .ref 11, .ref 12, .ref 13, .ref 14, .ref 15, .ref 16, .ref 17, .ref 18, .ref 19, .ref 20, .ref 21, .int (fxD e0), .int (fxE e0), .int (fxF e0), .int (fxG e0), .int (fxH e0), .int (fxI e0), .int (fxJ e0), .int (fxK e0), .int (fxL e0), .int (fxM e0), .int (fxN e0), .int (fxO e0), .int (fxP e0), .int (fxQ e0)], iC (fR e0), bC (fT e0), iC (fU e0), bC (fV e0), iC (fW e0), iC (fX e0), iC (fY e0), iC (fZ e0), bC (fd e0), iC (ff e0), iC (fh e0), iC (fi e0), iC (fm e0), bC (fq e0), .inr (.inr (fu e0)), bC (fy e0), iC (fz e0), iC (fxA e0), iC (fxB e0), iC (fxC e0), .inl [.int 0, .int 1, .int 2, .int 3, .int 4, .int 64, .int 16, .int 64, .int 4, .int 256, .int 64, .int 3, .long (4294967295 : Int64), .int 2147483647, .ref 23, .ref 24, .ref 25, .ref 26, nU, nU, nU, nU, nU, nU, nU, nU, nU, nU, nU, nU, nU, nU, nU, nU, .int (fxD ob0), .int (fxE ob0), .int (fxF ob0), .int (fxG ob0), .int (fxH ob0), .int (fxI ob0), .int (fxJ ob0), .int (fxK ob0), .int (fxL ob0), .int (fxM ob0), .int (fxN ob0), .int (fxO ob0), .int (fxP ob0), .int (fxQ ob0)], i64, bC rr64, i64, bC rr64]) rfl ?_
 refine yS Ad W 3 (120, [vR 22, vI x1, vI x2], [.ref 27, .ref 22], [iC s, .inl [.int (fA e0), .int (fB e0), .int (fC e0), .int (fD e0), .int (fE e0), .int (fF e0), .int (fG e0), .int (fH e0), .int (fI e0), .int (fJ e0), .int (fK e0), .int (fL e0), .long (fM e0), .int (fN e0), .ref 2, .ref 3, .ref 4, .ref 5, .ref 6, .ref 7, .ref 8, .ref 9, .ref 10, .ref 11, .ref 12, .ref 13, .ref 14, .ref 15, .ref 16, .ref 17, .ref 18, .ref 19, .ref 20, .ref 21, .int (fxD e0), .int (fxE e0), .int (fxF e0), .int (fxG e0), .int (fxH e0), .int (fxI e0), .int (fxJ e0), .int (fxK e0), .int (fxL e0), .int (fxM e0), .int (fxN e0), .int (fxO e0), .int (fxP e0), .int (fxQ e0)], iC (fR e0), bC (fT e0), iC (fU e0), bC (fV e0), iC (fW e0), iC (fX e0), iC (fY e0), iC (fZ e0), bC (fd e0), iC (ff e0), iC (fh e0), iC (fi e0), iC (fm e0), bC (fq e0), .inr (.inr (fu e0)), bC (fy e0), iC (fz e0), iC (fxA e0), iC (fxB e0), iC (fxC e0), .inl [.int 0, .int 1, .int 2, .int 3, .int 4, .int 64, .int 16, .int 64, .int 4, .int 256, .int 64, .int 3, .long (4294967295 : Int64), .int 2147483647, .ref 23, .ref 24, .ref 25, .ref 26, nU, nU, nU, nU, nU, nU, nU, nU, nU, nU, nU, nU, nU, nU, nU, nU, .int (fxD ob0), .int (fxE ob0), .int (fxF ob0), .int (fxG ob0), .int (fxH ob0), .int (fxI ob0), .int (fxJ ob0), .int (fxK ob0), .int (fxL ob0), .int (fxM ob0), .int (fxN ob0), .int (fxO ob0), .int (fxP ob0), .int (fxQ ob0)], i64, bC rr64, i64, bC rr64, i65]) rfl ?_
 refine yS Ad W 1 (123, [vR 22, vI x1, vI x2], [], [iC s, .inl [.int (fA e0), .int (fB e0), .int (fC e0), .int (fD e0), .int (fE e0), .int (fF e0), .int (fG e0), .int (fH e0), .int (fI e0), .int (fJ e0), .int (fK e0), .int (fL e0), .long (fM e0), .int (fN e0), .ref 2, .ref 3, .ref 4, .ref 5, .ref 6, .ref 7, .ref 8, .ref 9, .ref 10, .ref 11, .ref 12, .ref 13, .ref 14, .ref 15, .ref 16, .ref 17, .ref 18, .ref 19, .ref 20, .ref 21, .int (fxD e0), .int (fxE e0), .int (fxF e0), .int (fxG e0), .int (fxH e0), .int (fxI e0), .int (fxJ e0), .int (fxK e0), .int (fxL e0), .int (fxM e0), .int (fxN e0), .int (fxO e0), .int (fxP e0), .int (fxQ e0)], iC (fR e0), bC (fT e0), iC (fU e0), bC (fV e0), iC (fW e0), iC (fX e0), iC (fY e0), iC (fZ e0), bC (fd e0), iC (ff e0), iC (fh e0), iC (fi e0), iC (fm e0), bC (fq e0), .inr (.inr (fu e0)), bC (fy e0), iC (fz e0), iC (fxA e0), iC (fxB e0), iC (fxC e0), .inl [.int 0, .int 1, .int 2, .int 3, .int 4, .int 64, .int 16, .int 64, .int 4, .int 256, .int 64, .int 3, .long (4294967295 : Int64), .int 2147483647, .ref 23, .ref 24, .ref 25, .ref 26, .ref 27, nU, nU, nU, nU, nU, nU, nU, nU, nU, nU, nU, nU, nU, nU, nU, .int (fxD ob0), .int (fxE ob0), .int (fxF ob0), .int (fxG ob0), .int (fxH ob0), .int (fxI ob0), .int (fxJ ob0), .int (fxK ob0), .int (fxL ob0), .int (fxM ob0), .int (fxN ob0), .int (fxO ob0), .int (fxP ob0), .int (fxQ ob0)], i64, bC rr64, i64, bC rr64, i65]) rfl ?_
 refine yS Ad W 3 (128, [vR 22, vI x1, vI x2], [.ref 28, .ref 22], [iC s, .inl [.int (fA e0), .int (fB e0), .int (fC e0), .int (fD e0), .int (fE e0), .int (fF e0), .int (fG e0), .int (fH e0), .int (fI e0), .int (fJ e0), .int (fK e0), .int (fL e0), .long (fM e0), .int (fN e0), .ref 2, .ref 3, .ref 4, .ref 5, .ref 6, .ref 7, .ref 8, .ref 9, .ref 10, .ref 11, .ref 12, .ref 13, .ref 14, .ref 15, .ref 16, .ref 17, .ref 18, .ref 19, .ref 20, .ref 21, .int (fxD e0), .int (fxE e0), .int (fxF e0), .int (fxG e0), .int (fxH e0), .int (fxI e0), .int (fxJ e0), .int (fxK e0), .int (fxL e0), .int (fxM e0), .int (fxN e0), .int (fxO e0), .int (fxP e0), .int (fxQ e0)], iC (fR e0), bC (fT e0), iC (fU e0), bC (fV e0), iC (fW e0), iC (fX e0), iC (fY e0), iC (fZ e0), bC (fd e0), iC (ff e0), iC (fh e0), iC (fi e0), iC (fm e0), bC (fq e0), .inr (.inr (fu e0)), bC (fy e0), iC (fz e0), iC (fxA e0), iC (fxB e0), iC (fxC e0), .inl [.int 0, .int 1, .int 2, .int 3, .int 4, .int 64, .int 16, .int 64, .int 4, .int 256, .int 64, .int 3, .long (4294967295 : Int64), .int 2147483647, .ref 23, .ref 24, .ref 25, .ref 26, .ref 27, nU, nU, nU, nU, nU, nU, nU, nU, nU, nU, nU, nU, nU, nU, nU, .int (fxD ob0), .int (fxE ob0), .int (fxF ob0), .int (fxG ob0), .int (fxH ob0), .int (fxI ob0), .int (fxJ ob0), .int (fxK ob0), .int (fxL ob0), .int (fxM ob0), .int (fxN ob0), .int (fxO ob0), .int (fxP ob0), .int (fxQ ob0)], i64, bC rr64, i64, bC rr64, i65, i65]) rfl ?_
 refine yS Ad W 1 (131, [vR 22, vI x1, vI x2], [], [iC s, .inl [.int (fA e0), .int (fB e0), .int (fC e0), .int (fD e0), .int (fE e0), .int (fF e0), .int (fG e0), .int (fH e0), .int (fI e0), .int (fJ e0), .int (fK e0), .int (fL e0), .long (fM e0), .int (fN e0), .ref 2, .ref 3, .ref 4, .ref 5, .ref 6, .ref 7, .ref 8, .ref 9, .ref 10, .ref 11, .ref 12, .ref 13, .ref 14, .ref 15, .ref 16, .ref 17, .ref 18, .ref 19, .ref 20, .ref 21, .int (fxD e0), .int (fxE e0), .int (fxF e0), .int (fxG e0), .int (fxH e0), .int (fxI e0), .int (fxJ e0), .int (fxK e0), .int (fxL e0), .int (fxM e0), .int (fxN e0), .int (fxO e0), .int (fxP e0), .int (fxQ e0)], iC (fR e0), bC (fT e0), iC (fU e0), bC (fV e0), iC (fW e0), iC (fX e0), iC (fY e0), iC (fZ e0), bC (fd e0), iC (ff e0), iC (fh e0), iC (fi e0), iC (fm e0), bC (fq e0), .inr (.inr (fu e0)), bC (fy e0), iC (fz e0), iC (fxA e0), iC (fxB e0), iC (fxC e0), .inl [.int 0, .int 1, .int 2, .int 3, .int 4, .int 64, .int 16, .int 64, .int 4, .int 256, .int 64, .int 3, .long (4294967295 : Int64), .int 2147483647, .ref 23, .ref 24, .ref 25, .ref 26, .ref 27, .ref 28, nU, nU, nU, nU, nU, nU, nU, nU, nU, nU, nU, nU, nU, nU, .int (fxD ob0), .int (fxE ob0), .int (fxF ob0), .int (fxG ob0), .int (fxH ob0), .int (fxI ob0), .int (fxJ ob0), .int (fxK ob0), .int (fxL ob0), .int (fxM ob0), .int (fxN ob0), .int (fxO ob0), .int (fxP ob0), .int (fxQ ob0)], i64, bC rr64, i64, bC rr64, i65, i65]) rfl ?_
 refine yS Ad W 3 (136, [vR 22, vI x1, vI x2], [.ref 29, .ref 22], [iC s, .inl [.int (fA e0), .int (fB e0), .int (fC e0), .int (fD e0), .int (fE e0), .int (fF e0), .int (fG e0), .int (fH e0), .int (fI e0), .int (fJ e0), .int (fK e0), .int (fL e0), .long (fM e0), .int (fN e0), .ref 2, .ref 3, .ref 4, .ref 5, .ref 6, .ref 7, .ref 8, .ref 9, .ref 10, .ref 11, .ref 12, .ref 13, .ref 14, .ref 15, .ref 16, .ref 17, .ref 18, .ref 19, .ref 20, .ref 21, .int (fxD e0), .int (fxE e0), .int (fxF e0), .int (fxG e0), .int (fxH e0), .int (fxI e0), .int (fxJ e0), .int (fxK e0), .int (fxL e0), .int (fxM e0), .int (fxN e0), .int (fxO e0), .int (fxP e0), .int (fxQ e0)], iC (fR e0), bC (fT e0), iC (fU e0), bC (fV e0), iC (fW e0), iC (fX e0), iC (fY e0), iC (fZ e0), bC (fd e0), iC (ff e0), iC (fh e0), iC (fi e0), iC (fm e0), bC (fq e0), .inr (.inr (fu e0)), bC (fy e0), iC (fz e0), iC (fxA e0), iC (fxB e0), iC (fxC e0), .inl [.int 0, .int 1, .int 2, .int 3, .int 4, .int 64, .int 16, .int 64, .int 4, .int 256, .int 64, .int 3, .long (4294967295 : Int64), .int 2147483647, .ref 23, .ref 24, .ref 25, .ref 26, .ref 27, .ref 28, nU, nU, nU, nU, nU, nU, nU, nU, nU, nU, nU, nU, nU, nU, .int (fxD ob0), .int (fxE ob0), .int (fxF ob0), .int (fxG ob0), .int (fxH ob0), .int (fxI ob0), .int (fxJ ob0), .int (fxK ob0), .int (fxL ob0), .int (fxM ob0), .int (fxN ob0), .int (fxO ob0), .int (fxP ob0), .int (fxQ ob0)], i64, bC rr64, i64, bC rr64, i65, i65, i64]) rfl ?_
 refine yS Ad W 1 (139, [vR 22, vI x1, vI x2], [], [iC s, .inl [.int (fA e0), .int (fB e0), .int (fC e0), .int (fD e0), .int (fE e0), .int (fF e0), .int (fG e0), .int (fH e0), .int (fI e0), .int (fJ e0), .int (fK e0), .int (fL e0), .long (fM e0), .int (fN e0), .ref 2, .ref 3, .ref 4, .ref 5, .ref 6, .ref 7, .ref 8, .ref 9, .ref 10, .ref 11, .ref 12, .ref 13, .ref 14, .ref 15, .ref 16, .ref 17, .ref 18, .ref 19, .ref 20, .ref 21, .int (fxD e0), .int (fxE e0), .int (fxF e0), .int (fxG e0), .int (fxH e0), .int (fxI e0), .int (fxJ e0), .int (fxK e0), .int (fxL e0), .int (fxM e0), .int (fxN e0), .int (fxO e0), .int (fxP e0), .int (fxQ e0)], iC (fR e0), bC (fT e0), iC (fU e0), bC (fV e0), iC (fW e0), iC (fX e0), iC (fY e0), iC (fZ e0), bC (fd e0), iC (ff e0), iC (fh e0), iC (fi e0), iC (fm e0), bC (fq e0), .inr (.inr (fu e0)), bC (fy e0), iC (fz e0), iC (fxA e0), iC (fxB e0), iC (fxC e0), .inl [.int 0, .int 1, .int 2, .int 3, .int 4, .int 64, .int 16, .int 64, .int 4, .int 256, .int 64, .int 3, .long (4294967295 : Int64), .int 2147483647, .ref 23, .ref 24, .ref 25, .ref 26, .ref 27, .ref 28, .ref 29, nU, nU, nU, nU, nU, nU, nU, nU, nU, nU, nU, nU, nU, .int (fxD ob0), .int (fxE ob0), .int (fxF ob0), .int (fxG ob0), .int (fxH ob0), .int (fxI ob0), .int (fxJ ob0), .int (fxK ob0), .int (fxL ob0), .int (fxM ob0), .int (fxN ob0), .int (fxO ob0), .int (fxP ob0), .int (fxQ ob0)], i64, bC rr64, i64, bC rr64, i65, i65, i64]) rfl ?_
 refine yS Ad W 3 (144, [vR 22, vI x1, vI x2], [.ref 30, .ref 22], [iC s, .inl [.int (fA e0), .int (fB e0), .int (fC e0), .int (fD e0), .int (fE e0), .int (fF e0), .int (fG e0), .int (fH e0), .int (fI e0), .int (fJ e0), .int (fK e0), .int (fL e0), .long (fM e0), .int (fN e0), .ref 2, .ref 3, .ref 4, .ref 5, .ref 6, .ref 7, .ref 8, .ref 9, .ref 10, .ref 11, .ref 12, .ref 13, .ref 14, .ref 15, .ref 16, .ref 17, .ref 18, .ref 19, .ref 20, .ref 21, .int (fxD e0), .int (fxE e0), .int (fxF e0), .int (fxG e0), .int (fxH e0), .int (fxI e0), .int (fxJ e0), .int (fxK e0), .int (fxL e0), .int (fxM e0), .int (fxN e0), .int (fxO e0), .int (fxP e0), .int (fxQ e0)], iC (fR e0), bC (fT e0), iC (fU e0), bC (fV e0), iC (fW e0), iC (fX e0), iC (fY e0), iC (fZ e0), bC (fd e0), iC (ff e0), iC (fh e0), iC (fi e0), iC (fm e0), bC (fq e0), .inr (.inr (fu e0)), bC (fy e0), iC (fz e0), iC (fxA e0), iC (fxB e0), iC (fxC e0), .inl [.int 0, .int 1, .int 2, .int 3, .int 4, .int 64, .int 16, .int 64, .int 4, .int 256, .int 64, .int 3, .long (4294967295 : Int64), .int 2147483647, .ref 23, .ref 24, .ref 25, .ref 26, .ref 27, .ref 28, .ref 29, nU, nU, nU, nU, nU, nU, nU, nU, nU, nU, nU, nU, nU, .int (fxD ob0), .int (fxE ob0), .int (fxF ob0), .int (fxG ob0), .int (fxH ob0), .int (fxI ob0), .int (fxJ ob0), .int (fxK ob0), .int (fxL ob0), .int (fxM ob0), .int (fxN ob0), .int (fxO ob0), .int (fxP ob0), .int (fxQ ob0)], i64, bC rr64, i64, bC rr64, i65, i65, i64, i64]) rfl ?_
 refine yS Ad W 1 (147, [vR 22, vI x1, vI x2], [], [iC s, .inl [.int (fA e0), .int (fB e0), .int (fC e0), .int (fD e0), .int (fE e0), .int (fF e0), .int (fG e0), .int (fH e0), .int (fI e0), .int (fJ e0), .int (fK e0), .int (fL e0), .long (fM e0), .int (fN e0), .ref 2, .ref 3, .ref 4, .ref 5, .ref 6, .ref 7, .ref 8, .ref 9, .ref 10, .ref 11, .ref 12, .ref 13, .ref 14, .ref 15, .ref 16, .ref 17, .ref 18, .ref 19, .ref 20, .ref 21, .int (fxD e0), .int (fxE e0), .int (fxF e0), .int (fxG e0), .int (fxH e0), .int (fxI e0), .int (fxJ e0), .int (fxK e0), .int (fxL e0), .int (fxM e0), .int (fxN e0), .int (fxO e0), .int (fxP e0), .int (fxQ e0)], iC (fR e0), bC (fT e0), iC (fU e0), bC (fV e0), iC (fW e0), iC (fX e0), iC (fY e0), iC (fZ e0), bC (fd e0), iC (ff e0), iC (fh e0), iC (fi e0), iC (fm e0), bC (fq e0), .inr (.inr (fu e0)), bC (fy e0), iC (fz e0), iC (fxA e0), iC (fxB e0), iC (fxC e0), .inl [.int 0, .int 1, .int 2, .int 3, .int 4, .int 64, .int 16, .int 64, .int 4, .int 256, .int 64, .int 3, .long (4294967295 : Int64), .int 2147483647, .ref 23, .ref 24, .ref 25, .ref 26, .ref 27, .ref 28, .ref 29, .ref 30, nU, nU, nU, nU, nU, nU, nU, nU, nU, nU, nU, nU, .int (fxD ob0), .int (fxE ob0), .int (fxF ob0), .int (fxG ob0), .int (fxH ob0), .int (fxI ob0), .int (fxJ ob0), .int (fxK ob0), .int (fxL ob0), .int (fxM ob0), .int (fxN ob0), .int (fxO ob0), .int (fxP ob0), .int (fxQ ob0)], i64, bC rr64, i64, bC rr64, i65, i65, i64, i64]) rfl ?_
 refine yS Ad W 3 (153, [vR 22, vI x1, vI x2], [.ref 31, .ref 22], [iC s, .inl [.int (fA e0), .int (fB e0), .int (fC e0), .int (fD e0), .int (fE e0), .int (fF e0), .int (fG e0), .int (fH e0), .int (fI e0), .int (fJ e0), .int (fK e0), .int (fL e0), .long (fM e0), .int (fN e0), .ref 2, .ref 3, .ref 4, .ref 5, .ref 6, .ref 7, .ref 8, .ref 9, .ref 10, .ref 11, .ref 12, .ref 13, .ref 14, .ref 15, .ref 16, .ref 17, .ref 18, .ref 19, .ref 20, .ref 21, .int (fxD e0), .int (fxE e0), .int (fxF e0), .int (fxG e0), .int (fxH e0), .int (fxI e0), .int (fxJ e0), .int (fxK e0), .int (fxL e0), .int (fxM e0), .int (fxN e0), .int (fxO e0), .int (fxP e0), .int (fxQ e0)], iC (fR e0), bC (fT e0), iC (fU e0), bC (fV e0), iC (fW e0), iC (fX e0), iC (fY e0), iC (fZ e0), bC (fd e0), iC (ff e0), iC (fh e0), iC (fi e0), iC (fm e0), bC (fq e0), .inr (.inr (fu e0)), bC (fy e0), iC (fz e0), iC (fxA e0), iC (fxB e0), iC (fxC e0), .inl [.int 0, .int 1, .int 2, .int 3, .int 4, .int 64, .int 16, .int 64, .int 4, .int 256, .int 64, .int 3, .long (4294967295 : Int64), .int 2147483647, .ref 23, .ref 24, .ref 25, .ref 26, .ref 27, .ref 28, .ref 29, .ref 30, nU, nU, nU, nU, nU, nU, nU, nU, nU, nU, nU, nU, .int (fxD ob0), .int (fxE ob0), .int (fxF ob0), .int (fxG ob0), .int (fxH ob0), .int (fxI ob0), .int (fxJ ob0), .int (fxK ob0), .int (fxL ob0), .int (fxM ob0), .int (fxN ob0), .int (fxO ob0), .int (fxP ob0), .int (fxQ ob0)], i64, bC rr64, i64, bC rr64, i65, i65, i64, i64, bC rr160]) rfl ?_
 refine yS Ad W 1 (156, [vR 22, vI x1, vI x2], [], [iC s, .inl [.int (fA e0), .int (fB e0), .int (fC e0), .int (fD e0), .int (fE e0), .int (fF e0), .int (fG e0), .int (fH e0), .int (fI e0), .int (fJ e0), .int (fK e0), .int (fL e0), .long (fM e0), .int (fN e0), .ref 2, .ref 3, .ref 4, .ref 5, .ref 6, .ref 7, .ref 8, .ref 9, .ref 10, .ref 11, .ref 12, .ref 13, .ref 14, .ref 15, .ref 16, .ref 17, .ref 18, .ref 19, .ref 20, .ref 21, .int (fxD e0), .int (fxE e0), .int (fxF e0), .int (fxG e0), .int (fxH e0), .int (fxI e0), .int (fxJ e0), .int (fxK e0), .int (fxL e0), .int (fxM e0), .int (fxN e0), .int (fxO e0), .int (fxP e0), .int (fxQ e0)], iC (fR e0), bC (fT e0), iC (fU e0), bC (fV e0), iC (fW e0), iC (fX e0), iC (fY e0), iC (fZ e0), bC (fd e0), iC (ff e0), iC (fh e0), iC (fi e0), iC (fm e0), bC (fq e0), .inr (.inr (fu e0)), bC (fy e0), iC (fz e0), iC (fxA e0), iC (fxB e0), iC (fxC e0), .inl [.int 0, .int 1, .int 2, .int 3, .int 4, .int 64, .int 16, .int 64, .int 4, .int 256, .int 64, .int 3, .long (4294967295 : Int64), .int 2147483647, .ref 23, .ref 24, .ref 25, .ref 26, .ref 27, .ref 28, .ref 29, .ref 30, .ref 31, nU, nU, nU, nU, nU, nU, nU, nU, nU, nU, nU, .int (fxD ob0), .int (fxE ob0), .int (fxF ob0), .int (fxG ob0), .int (fxH ob0), .int (fxI ob0), .int (fxJ ob0), .int (fxK ob0), .int (fxL ob0), .int (fxM ob0), .int (fxN ob0), .int (fxO ob0), .int (fxP ob0), .int (fxQ ob0)], i64, bC rr64, i64, bC rr64, i65, i65, i64, i64, bC rr160]) rfl ?_
 refine yS Ad W 3 (162, [vR 22, vI x1, vI x2], [.ref 32, .ref 22], [iC s, .inl [.int (fA e0), .int (fB e0), .int (fC e0), .int (fD e0), .int (fE e0), .int (fF e0), .int (fG e0), .int (fH e0), .int (fI e0), .int (fJ e0), .int (fK e0), .int (fL e0), .long (fM e0), .int (fN e0), .ref 2, .ref 3, .ref 4, .ref 5, .ref 6, .ref 7, .ref 8, .ref 9, .ref 10, .ref 11, .ref 12, .ref 13, .ref 14, .ref 15, .ref 16, .ref 17, .ref 18, .ref 19, .ref 20, .ref 21, .int (fxD e0), .int (fxE e0), .int (fxF e0), .int (fxG e0), .int (fxH e0), .int (fxI e0), .int (fxJ e0), .int (fxK e0), .int (fxL e0), .int (fxM e0), .int (fxN e0), .int (fxO e0), .int (fxP e0), .int (fxQ e0)], iC (fR e0), bC (fT e0), iC (fU e0), bC (fV e0), iC (fW e0), iC (fX e0), iC (fY e0), iC (fZ e0), bC (fd e0), iC (ff e0), iC (fh e0), iC (fi e0), iC (fm e0), bC (fq e0), .inr (.inr (fu e0)), bC (fy e0), iC (fz e0), iC (fxA e0), iC (fxB e0), iC (fxC e0), .inl [.int 0, .int 1, .int 2, .int 3, .int 4, .int 64, .int 16, .int 64, .int 4, .int 256, .int 64, .int 3, .long (4294967295 : Int64), .int 2147483647, .ref 23, .ref 24, .ref 25, .ref 26, .ref 27, .ref 28, .ref 29, .ref 30, .ref 31, nU, nU, nU, nU, nU, nU, nU, nU, nU, nU, nU, .int (fxD ob0), .int (fxE ob0), .int (fxF ob0), .int (fxG ob0), .int (fxH ob0), .int (fxI ob0), .int (fxJ ob0), .int (fxK ob0), .int (fxL ob0), .int (fxM ob0), .int (fxN ob0), .int (fxO ob0), .int (fxP ob0), .int (fxQ ob0)], i64, bC rr64, i64, bC rr64, i65, i65, i64, i64, bC rr160, i160]) rfl ?_
 refine yS Ad W 1 (165, [vR 22, vI x1, vI x2], [], [iC s, .inl [.int (fA e0), .int (fB e0), .int (fC e0), .int (fD e0), .int (fE e0), .int (fF e0), .int (fG e0), .int (fH e0), .int (fI e0), .int (fJ e0), .int (fK e0), .int (fL e0), .long (fM e0), .int (fN e0), .ref 2, .ref 3, .ref 4, .ref 5, .ref 6, .ref 7, .ref 8, .ref 9, .ref 10, .ref 11, .ref 12, .ref 13, .ref 14, .ref 15, .ref 16, .ref 17, .ref 18, .ref 19, .ref 20, .ref 21, .int (fxD e0), .int (fxE e0), .int (fxF e0), .int (fxG e0), .int (fxH e0), .int (fxI e0), .int (fxJ e0), .int (fxK e0), .int (fxL e0), .int (fxM e0), .int (fxN e0), .int (fxO e0), .int (fxP e0), .int (fxQ e0)], iC (fR e0), bC (fT e0), iC (fU e0), bC (fV e0), iC (fW e0), iC (fX e0), iC (fY e0), iC (fZ e0), bC (fd e0), iC (ff e0), iC (fh e0), iC (fi e0), iC (fm e0), bC (fq e0), .inr (.inr (fu e0)), bC (fy e0), iC (fz e0), iC (fxA e0), iC (fxB e0), iC (fxC e0), .inl [.int 0, .int 1, .int 2, .int 3, .int 4, .int 64, .int 16, .int 64, .int 4, .int 256, .int 64, .int 3, .long (4294967295 : Int64), .int 2147483647, .ref 23, .ref 24, .ref 25, .ref 26, .ref 27, .ref 28, .ref 29, .ref 30, .ref 31, .ref 32, nU, nU, nU, nU, nU, nU, nU, nU, nU, nU, .int (fxD ob0), .int (fxE ob0), .int (fxF ob0), .int (fxG ob0), .int (fxH ob0), .int (fxI ob0), .int (fxJ ob0), .int (fxK ob0), .int (fxL ob0), .int (fxM ob0), .int (fxN ob0), .int (fxO ob0), .int (fxP ob0), .int (fxQ ob0)], i64, bC rr64, i64, bC rr64, i65, i65, i64, i64, bC rr160, i160]) rfl ?_
 refine yS Ad W 3 (171, [vR 22, vI x1, vI x2], [.ref 33, .ref 22], [iC s, .inl [.int (fA e0), .int (fB e0), .int (fC e0), .int (fD e0), .int (fE e0), .int (fF e0), .int (fG e0), .int (fH e0), .int (fI e0), .int (fJ e0), .int (fK e0), .int (fL e0), .long (fM e0), .int (fN e0), .ref 2, .ref 3, .ref 4, .ref 5, .ref 6, .ref 7, .ref 8, .ref 9, .ref 10, .ref 11, .ref 12, .ref 13, .ref 14, .ref 15, .ref 16, .ref 17, .ref 18, .ref 19, .ref 20, .ref 21, .int (fxD e0), .int (fxE e0), .int (fxF e0), .int (fxG e0), .int (fxH e0), .int (fxI e0), .int (fxJ e0), .int (fxK e0), .int (fxL e0), .int (fxM e0), .int (fxN e0), .int (fxO e0), .int (fxP e0), .int (fxQ e0)], iC (fR e0), bC (fT e0), iC (fU e0), bC (fV e0), iC (fW e0), iC (fX e0), iC (fY e0), iC (fZ e0), bC (fd e0), iC (ff e0), iC (fh e0), iC (fi e0), iC (fm e0), bC (fq e0), .inr (.inr (fu e0)), bC (fy e0), iC (fz e0), iC (fxA e0), iC (fxB e0), iC (fxC e0), .inl [.int 0, .int 1, .int 2, .int 3, .int 4, .int 64, .int 16, .int 64, .int 4, .int 256, .int 64, .int 3, .long (4294967295 : Int64), .int 2147483647, .ref 23, .ref 24, .ref 25, .ref 26, .ref 27, .ref 28, .ref 29, .ref 30, .ref 31, .ref 32, nU, nU, nU, nU, nU, nU, nU, nU, nU, nU, .int (fxD ob0), .int (fxE ob0), .int (fxF ob0), .int (fxG ob0), .int (fxH ob0), .int (fxI ob0), .int (fxJ ob0), .int (fxK ob0), .int (fxL ob0), .int (fxM ob0), .int (fxN ob0), .int (fxO ob0), .int (fxP ob0), .int (fxQ ob0)], i64, bC rr64, i64, bC rr64, i65, i65, i64, i64, bC rr160, i160, i160]) rfl ?_
 refine yS Ad W 1 (174, [vR 22, vI x1, vI x2], [], [iC s, .inl [.int (fA e0), .int (fB e0), .int (fC e0), .int (fD e0), .int (fE e0), .int (fF e0), .int (fG e0), .int (fH e0), .int (fI e0), .int (fJ e0), .int (fK e0), .int (fL e0), .long (fM e0), .int (fN e0), .ref 2, .ref 3, .ref 4, .ref 5, .ref 6, .ref 7, .ref 8, .ref 9, .ref 10, .ref 11, .ref 12, .ref 13, .ref 14, .ref 15, .ref 16, .ref 17, .ref 18, .ref 19, .ref 20, .ref 21, .int (fxD e0), .int (fxE e0), .int (fxF e0), .int (fxG e0), .int (fxH e0), .int (fxI e0), .int (fxJ e0), .int (fxK e0), .int (fxL e0), .int (fxM e0), .int (fxN e0), .int (fxO e0), .int (fxP e0), .int (fxQ e0)], iC (fR e0), bC (fT e0), iC (fU e0), bC (fV e0), iC (fW e0), iC (fX e0), iC (fY e0), iC (fZ e0), bC (fd e0), iC (ff e0), iC (fh e0), iC (fi e0), iC (fm e0), bC (fq e0), .inr (.inr (fu e0)), bC (fy e0), iC (fz e0), iC (fxA e0), iC (fxB e0), iC (fxC e0), .inl [.int 0, .int 1, .int 2, .int 3, .int 4, .int 64, .int 16, .int 64, .int 4, .int 256, .int 64, .int 3, .long (4294967295 : Int64), .int 2147483647, .ref 23, .ref 24, .ref 25, .ref 26, .ref 27, .ref 28, .ref 29, .ref 30, .ref 31, .ref 32, .ref 33, nU, nU, nU, nU, nU, nU, nU, nU, nU, .int (fxD ob0), .int (fxE ob0), .int (fxF ob0), .int (fxG ob0), .int (fxH ob0), .int (fxI ob0), .int (fxJ ob0), .int (fxK ob0), .int (fxL ob0), .int (fxM ob0), .int (fxN ob0), .int (fxO ob0), .int (fxP ob0), .int (fxQ ob0)], i64, bC rr64, i64, bC rr64, i65, i65, i64, i64, bC rr160, i160, i160]) rfl ?_
 refine yS Ad W 3 (180, [vR 22, vI x1, vI x2], [.ref 34, .ref 22], [iC s, .inl [.int (fA e0), .int (fB e0), .int (fC e0), .int (fD e0), .int (fE e0), .int (fF e0), .int (fG e0), .int (fH e0), .int (fI e0), .int (fJ e0), .int (fK e0), .int (fL e0), .long (fM e0), .int (fN e0), .ref 2, .ref 3, .ref 4, .ref 5, .ref 6, .ref 7, .ref 8, .ref 9, .ref 10, .ref 11, .ref 12, .ref 13, .ref 14, .ref 15, .ref 16, .ref 17, .ref 18, .ref 19, .ref 20, .ref 21, .int (fxD e0), .int (fxE e0), .int (fxF e0), .int (fxG e0), .int (fxH e0), .int (fxI e0), .int (fxJ e0), .int (fxK e0), .int (fxL e0), .int (fxM e0), .int (fxN e0), .int (fxO e0), .int (fxP e0), .int (fxQ e0)], iC (fR e0), bC (fT e0), iC (fU e0), bC (fV e0), iC (fW e0), iC (fX e0), iC (fY e0), iC (fZ e0), bC (fd e0), iC (ff e0), iC (fh e0), iC (fi e0), iC (fm e0), bC (fq e0), .inr (.inr (fu e0)), bC (fy e0), iC (fz e0), iC (fxA e0), iC (fxB e0), iC (fxC e0), .inl [.int 0, .int 1, .int 2, .int 3, .int 4, .int 64, .int 16, .int 64, .int 4, .int 256, .int 64, .int 3, .long (4294967295 : Int64), .int 2147483647, .ref 23, .ref 24, .ref 25, .ref 26, .ref 27, .ref 28, .ref 29, .ref 30, .ref 31, .ref 32, .ref 33, nU, nU, nU, nU, nU, nU, nU, nU, nU, .int (fxD ob0), .int (fxE ob0), .int (fxF ob0), .int (fxG ob0), .int (fxH ob0), .int (fxI ob0), .int (fxJ ob0), .int (fxK ob0), .int (fxL ob0), .int (fxM ob0), .int (fxN ob0), .int (fxO ob0), .int (fxP ob0), .int (fxQ ob0)], i64, bC rr64, i64, bC rr64, i65, i65, i64, i64, bC rr160, i160, i160, i160]) rfl ?_
 refine yS Ad W 1 (183, [vR 22, vI x1, vI x2], [], [iC s, .inl [.int (fA e0), .int (fB e0), .int (fC e0), .int (fD e0), .int (fE e0), .int (fF e0), .int (fG e0), .int (fH e0), .int (fI e0), .int (fJ e0), .int (fK e0), .int (fL e0), .long (fM e0), .int (fN e0), .ref 2, .ref 3, .ref 4, .ref 5, .ref 6, .ref 7, .ref 8, .ref 9, .ref 10, .ref 11, .ref 12, .ref 13, .ref 14, .ref 15, .ref 16, .ref 17, .ref 18, .ref 19, .ref 20, .ref 21, .int (fxD e0), .int (fxE e0), .int (fxF e0), .int (fxG e0), .int (fxH e0), .int (fxI e0), .int (fxJ e0), .int (fxK e0), .int (fxL e0), .int (fxM e0), .int (fxN e0), .int (fxO e0), .int (fxP e0), .int (fxQ e0)], iC (fR e0), bC (fT e0), iC (fU e0), bC (fV e0), iC (fW e0), iC (fX e0), iC (fY e0), iC (fZ e0), bC (fd e0), iC (ff e0), iC (fh e0), iC (fi e0), iC (fm e0), bC (fq e0), .inr (.inr (fu e0)), bC (fy e0), iC (fz e0), iC (fxA e0), iC (fxB e0), iC (fxC e0), .inl [.int 0, .int 1, .int 2, .int 3, .int 4, .int 64, .int 16, .int 64, .int 4, .int 256, .int 64, .int 3, .long (4294967295 : Int64), .int 2147483647, .ref 23, .ref 24, .ref 25, .ref 26, .ref 27, .ref 28, .ref 29, .ref 30, .ref 31, .ref 32, .ref 33, .ref 34, nU, nU, nU, nU, nU, nU, nU, nU, .int (fxD ob0), .int (fxE ob0), .int (fxF ob0), .int (fxG ob0), .int (fxH ob0), .int (fxI ob0), .int (fxJ ob0), .int (fxK ob0), .int (fxL ob0), .int (fxM ob0), .int (fxN ob0), .int (fxO ob0), .int (fxP ob0), .int (fxQ ob0)], i64, bC rr64, i64, bC rr64, i65, i65, i64, i64, bC rr160, i160, i160, i160]) rfl ?_
 refine yS Ad W 3 (189, [vR 22, vI x1, vI x2], [.ref 35, .ref 22], [iC s, .inl [.int (fA e0), .int (fB e0), .int (fC e0), .int (fD e0), .int (fE e0), .int (fF e0), .int (fG e0), .int (fH e0), .int (fI e0), .int (fJ e0), .int (fK e0), .int (fL e0), .long (fM e0), .int (fN e0), .ref 2, .ref 3, .ref 4, .ref 5, .ref 6, .ref 7, .ref 8, .ref 9, .ref 10, .ref 11, .ref 12, .ref 13, .ref 14, .ref 15, .ref 16, .ref 17, .ref 18, .ref 19, .ref 20, .ref 21, .int (fxD e0), .int (fxE e0), .int (fxF e0), .int (fxG e0), .int (fxH e0), .int (fxI e0), .int (fxJ e0), .int (fxK e0), .int (fxL e0), .int (fxM e0), .int (fxN e0), .int (fxO e0), .int (fxP e0), .int (fxQ e0)], iC (fR e0), bC (fT e0), iC (fU e0), bC (fV e0), iC (fW e0), iC (fX e0), iC (fY e0), iC (fZ e0), bC (fd e0), iC (ff e0), iC (fh e0), iC (fi e0), iC (fm e0), bC (fq e0), .inr (.inr (fu e0)), bC (fy e0), iC (fz e0), iC (fxA e0), iC (fxB e0), iC (fxC e0), .inl [.int 0, .int 1, .int 2, .int 3, .int 4, .int 64, .int 16, .int 64, .int 4, .int 256, .int 64, .int 3, .long (4294967295 : Int64), .int 2147483647, .ref 23, .ref 24, .ref 25, .ref 26, .ref 27, .ref 28, .ref 29, .ref 30, .ref 31, .ref 32, .ref 33, .ref 34, nU, nU, nU, nU, nU, nU, nU, nU, .int (fxD ob0), .int (fxE ob0), .int (fxF ob0), .int (fxG ob0), .int (fxH ob0), .int (fxI ob0), .int (fxJ ob0), .int (fxK ob0), .int (fxL ob0), .int (fxM ob0), .int (fxN ob0), .int (fxO ob0), .int (fxP ob0), .int (fxQ ob0)], i64, bC rr64, i64, bC rr64, i65, i65, i64, i64, bC rr160, i160, i160, i160, i160]) rfl ?_
 refine yS Ad W 1 (192, [vR 22, vI x1, vI x2], [], [iC s, .inl [.int (fA e0), .int (fB e0), .int (fC e0), .int (fD e0), .int (fE e0), .int (fF e0), .int (fG e0), .int (fH e0), .int (fI e0), .int (fJ e0), .int (fK e0), .int (fL e0), .long (fM e0), .int (fN e0), .ref 2, .ref 3, .ref 4, .ref 5, .ref 6, .ref 7, .ref 8, .ref 9, .ref 10, .ref 11, .ref 12, .ref 13, .ref 14, .ref 15, .ref 16, .ref 17, .ref 18, .ref 19, .ref 20, .ref 21, .int (fxD e0), .int (fxE e0), .int (fxF e0), .int (fxG e0), .int (fxH e0), .int (fxI e0), .int (fxJ e0), .int (fxK e0), .int (fxL e0), .int (fxM e0), .int (fxN e0), .int (fxO e0), .int (fxP e0), .int (fxQ e0)], iC (fR e0), bC (fT e0), iC (fU e0), bC (fV e0), iC (fW e0), iC (fX e0), iC (fY e0), iC (fZ e0), bC (fd e0), iC (ff e0), iC (fh e0), iC (fi e0), iC (fm e0), bC (fq e0), .inr (.inr (fu e0)), bC (fy e0), iC (fz e0), iC (fxA e0), iC (fxB e0), iC (fxC e0), .inl [.int 0, .int 1, .int 2, .int 3, .int 4, .int 64, .int 16, .int 64, .int 4, .int 256, .int 64, .int 3, .long (4294967295 : Int64), .int 2147483647, .ref 23, .ref 24, .ref 25, .ref 26, .ref 27, .ref 28, .ref 29, .ref 30, .ref 31, .ref 32, .ref 33, .ref 34, .ref 35, nU, nU, nU, nU, nU, nU, nU, .int (fxD ob0), .int (fxE ob0), .int (fxF ob0), .int (fxG ob0), .int (fxH ob0), .int (fxI ob0), .int (fxJ ob0), .int (fxK ob0), .int (fxL ob0), .int (fxM ob0), .int (fxN ob0), .int (fxO ob0), .int (fxP ob0), .int (fxQ ob0)], i64, bC rr64, i64, bC rr64, i65, i65, i64, i64, bC rr160, i160, i160, i160, i160]) rfl ?_
 refine yS Ad W 3 (198, [vR 22, vI x1, vI x2], [.ref 36, .ref 22], [iC s, .inl [.int (fA e0), .int (fB e0), .int (fC e0), .int (fD e0), .int (fE e0), .int (fF e0), .int (fG e0), .int (fH e0), .int (fI e0), .int (fJ e0), .int (fK e0), .int (fL e0), .long (fM e0), .int (fN e0), .ref 2, .ref 3, .ref 4, .ref 5, .ref 6, .ref 7, .ref 8, .ref 9, .ref 10, .ref 11, .ref 12, .ref 13, .ref 14, .ref 15, .ref 16, .ref 17, .ref 18, .ref 19, .ref 20, .ref 21, .int (fxD e0), .int (fxE e0), .int (fxF e0), .int (fxG e0), .int (fxH e0), .int (fxI e0), .int (fxJ e0), .int (fxK e0), .int (fxL e0), .int (fxM e0), .int (fxN e0), .int (fxO e0), .int (fxP e0), .int (fxQ e0)], iC (fR e0), bC (fT e0), iC (fU e0), bC (fV e0), iC (fW e0), iC (fX e0), iC (fY e0), iC (fZ e0), bC (fd e0), iC (ff e0), iC (fh e0), iC (fi e0), iC (fm e0), bC (fq e0), .inr (.inr (fu e0)), bC (fy e0), iC (fz e0), iC (fxA e0), iC (fxB e0), iC (fxC e0), .inl [.int 0, .int 1, .int 2, .int 3, .int 4, .int 64, .int 16, .int 64, .int 4, .int 256, .int 64, .int 3, .long (4294967295 : Int64), .int 2147483647, .ref 23, .ref 24, .ref 25, .ref 26, .ref 27, .ref 28, .ref 29, .ref 30, .ref 31, .ref 32, .ref 33, .ref 34, .ref 35, nU, nU, nU, nU, nU, nU, nU, .int (fxD ob0), .int (fxE ob0), .int (fxF ob0), .int (fxG ob0), .int (fxH ob0), .int (fxI ob0), .int (fxJ ob0), .int (fxK ob0), .int (fxL ob0), .int (fxM ob0), .int (fxN ob0), .int (fxO ob0), .int (fxP ob0), .int (fxQ ob0)], i64, bC rr64, i64, bC rr64, i65, i65, i64, i64, bC rr160, i160, i160, i160, i160, bC rr256]) rfl ?_
 refine yS Ad W 1 (201, [vR 22, vI x1, vI x2], [], [iC s, .inl [.int (fA e0), .int (fB e0), .int (fC e0), .int (fD e0), .int (fE e0), .int (fF e0), .int (fG e0), .int (fH e0), .int (fI e0), .int (fJ e0), .int (fK e0), .int (fL e0), .long (fM e0), .int (fN e0), .ref 2, .ref 3, .ref 4, .ref 5, .ref 6, .ref 7, .ref 8, .ref 9, .ref 10, .ref 11, .ref 12, .ref 13, .ref 14, .ref 15, .ref 16, .ref 17, .ref 18, .ref 19, .ref 20, .ref 21, .int (fxD e0), .int (fxE e0), .int (fxF e0), .int (fxG e0), .int (fxH e0), .int (fxI e0), .int (fxJ e0), .int (fxK e0), .int (fxL e0), .int (fxM e0), .int (fxN e0), .int (fxO e0), .int (fxP e0), .int (fxQ e0)], iC (fR e0), bC (fT e0), iC (fU e0), bC (fV e0), iC (fW e0), iC (fX e0), iC (fY e0), iC (fZ e0), bC (fd e0), iC (ff e0), iC (fh e0), iC (fi e0), iC (fm e0), bC (fq e0), .inr (.inr (fu e0)), bC (fy e0), iC (fz e0), iC (fxA e0), iC (fxB e0), iC (fxC e0), .inl [.int 0, .int 1, .int 2, .int 3, .int 4, .int 64, .int 16, .int 64, .int 4, .int 256, .int 64, .int 3, .long (4294967295 : Int64), .int 2147483647, .ref 23, .ref 24, .ref 25, .ref 26, .ref 27, .ref 28, .ref 29, .ref 30, .ref 31, .ref 32, .ref 33, .ref 34, .ref 35, .ref 36, nU, nU, nU, nU, nU, nU, .int (fxD ob0), .int (fxE ob0), .int (fxF ob0), .int (fxG ob0), .int (fxH ob0), .int (fxI ob0), .int (fxJ ob0), .int (fxK ob0), .int (fxL ob0), .int (fxM ob0), .int (fxN ob0), .int (fxO ob0), .int (fxP ob0), .int (fxQ ob0)], i64, bC rr64, i64, bC rr64, i65, i65, i64, i64, bC rr160, i160, i160, i160, i160, bC rr256]) rfl ?_
 refine yS Ad W 3 (207, [vR 22, vI x1, vI x2], [.ref 37, .ref 22], [iC s, .inl [.int (fA e0), .int (fB e0), .int (fC e0), .int (fD e0), .int (fE e0), .int (fF e0), .int (fG e0), .int (fH e0), .int (fI e0), .int (fJ e0), .int (fK e0), .int (fL e0), .long (fM e0), .int (fN e0), .ref 2, .ref 3, .ref 4, .ref 5, .ref 6, .ref 7, .ref 8, .ref 9, .ref 10, .ref 11, .ref 12, .ref 13, .ref 14, .ref 15, .ref 16, .ref 17, .ref 18, .ref 19, .ref 20, .ref 21, .int (fxD e0), .int (fxE e0), .int (fxF e0), .int (fxG e0), .int (fxH e0), .int (fxI e0), .int (fxJ e0), .int (fxK e0), .int (fxL e0), .int (fxM e0), .int (fxN e0), .int (fxO e0), .int (fxP e0), .int (fxQ e0)], iC (fR e0), bC (fT e0), iC (fU e0), bC (fV e0), iC (fW e0), iC (fX e0), iC (fY e0), iC (fZ e0), bC (fd e0), iC (ff e0), iC (fh e0), iC (fi e0), iC (fm e0), bC (fq e0), .inr (.inr (fu e0)), bC (fy e0), iC (fz e0), iC (fxA e0), iC (fxB e0), iC (fxC e0), .inl [.int 0, .int 1, .int 2, .int 3, .int 4, .int 64, .int 16, .int 64, .int 4, .int 256, .int 64, .int 3, .long (4294967295 : Int64), .int 2147483647, .ref 23, .ref 24, .ref 25, .ref 26, .ref 27, .ref 28, .ref 29, .ref 30, .ref 31, .ref 32, .ref 33, .ref 34, .ref 35, .ref 36, nU, nU, nU, nU, nU, nU, .int (fxD ob0), .int (fxE ob0), .int (fxF ob0), .int (fxG ob0), .int (fxH ob0), .int (fxI ob0), .int (fxJ ob0), .int (fxK ob0), .int (fxL ob0), .int (fxM ob0), .int (fxN ob0), .int (fxO ob0), .int (fxP ob0), .int (fxQ ob0)], i64, bC rr64, i64, bC rr64, i65, i65, i64, i64, bC rr160, i160, i160, i160, i160, bC rr256, .inr (.inr rr192)]) rfl ?_
 refine yS Ad W 1 (210, [vR 22, vI x1, vI x2], [], [iC s, .inl [.int (fA e0), .int (fB e0), .int (fC e0), .int (fD e0), .int (fE e0), .int (fF e0), .int (fG e0), .int (fH e0), .int (fI e0), .int (fJ e0), .int (fK e0), .int (fL e0), .long (fM e0), .int (fN e0), .ref 2, .ref 3, .ref 4, .ref 5, .ref 6, .ref 7, .ref 8, .ref 9, .ref 10, .ref 11, .ref 12, .ref 13, .ref 14, .ref 15, .ref 16, .ref 17, .ref 18, .ref 19, .ref 20, .ref 21, .int (fxD e0), .int (fxE e0), .int (fxF e0), .int (fxG e0), .int (fxH e0), .int (fxI e0), .int (fxJ e0), .int (fxK e0), .int (fxL e0), .int (fxM e0), .int (fxN e0), .int (fxO e0), .int (fxP e0), .int (fxQ e0)], iC (fR e0), bC (fT e0), iC (fU e0), bC (fV e0), iC (fW e0), iC (fX e0), iC (fY e0), iC (fZ e0), bC (fd e0), iC (ff e0), iC (fh e0), iC (fi e0), iC (fm e0), bC (fq e0), .inr (.inr (fu e0)), bC (fy e0), iC (fz e0), iC (fxA e0), iC (fxB e0), iC (fxC e0), .inl [.int 0, .int 1, .int 2, .int 3, .int 4, .int 64, .int 16, .int 64, .int 4, .int 256, .int 64, .int 3, .long (4294967295 : Int64), .int 2147483647, .ref 23, .ref 24, .ref 25, .ref 26, .ref 27, .ref 28, .ref 29, .ref 30, .ref 31, .ref 32, .ref 33, .ref 34, .ref 35, .ref 36, .ref 37, nU, nU, nU, nU, nU, .int (fxD ob0), .int (fxE ob0), .int (fxF ob0), .int (fxG ob0), .int (fxH ob0), .int (fxI ob0), .int (fxJ ob0), .int (fxK ob0), .int (fxL ob0), .int (fxM ob0), .int (fxN ob0), .int (fxO ob0), .int (fxP ob0), .int (fxQ ob0)], i64, bC rr64, i64, bC rr64, i65, i65, i64, i64, bC rr160, i160, i160, i160, i160, bC rr256, .inr (.inr rr192)]) rfl ?_
 refine yS Ad W 3 (216, [vR 22, vI x1, vI x2], [.ref 38, .ref 22], [iC s, .inl [.int (fA e0), .int (fB e0), .int (fC e0), .int (fD e0), .int (fE e0), .int (fF e0), .int (fG e0), .int (fH e0), .int (fI e0), .int (fJ e0), .int (fK e0), .int (fL e0), .long (fM e0), .int (fN e0), .ref 2, .ref 3, .ref 4, .ref 5, .ref 6, .ref 7, .ref 8, .ref 9, .ref 10, .ref 11, .ref 12, .ref 13, .ref 14, .ref 15, .ref 16, .ref 17, .ref 18, .ref 19, .ref 20, .ref 21, .int (fxD e0), .int (fxE e0), .int (fxF e0), .int (fxG e0), .int (fxH e0), .int (fxI e0), .int (fxJ e0), .int (fxK e0), .int (fxL e0), .int (fxM e0), .int (fxN e0), .int (fxO e0), .int (fxP e0), .int (fxQ e0)], iC (fR e0), bC (fT e0), iC (fU e0), bC (fV e0), iC (fW e0), iC (fX e0), iC (fY e0), iC (fZ e0), bC (fd e0), iC (ff e0), iC (fh e0), iC (fi e0), iC (fm e0), bC (fq e0), .inr (.inr (fu e0)), bC (fy e0), iC (fz e0), iC (fxA e0), iC (fxB e0), iC (fxC e0), .inl [.int 0, .int 1, .int 2, .int 3, .int 4, .int 64, .int 16, .int 64, .int 4, .int 256, .int 64, .int 3, .long (4294967295 : Int64), .int 2147483647, .ref 23, .ref 24, .ref 25, .ref 26, .ref 27, .ref 28, .ref 29, .ref 30, .ref 31, .ref 32, .ref 33, .ref 34, .ref 35, .ref 36, .ref 37, nU, nU, nU, nU, nU, .int (fxD ob0), .int (fxE ob0), .int (fxF ob0), .int (fxG ob0), .int (fxH ob0), .int (fxI ob0), .int (fxJ ob0), .int (fxK ob0), .int (fxL ob0), .int (fxM ob0), .int (fxN ob0), .int (fxO ob0), .int (fxP ob0), .int (fxQ ob0)], i64, bC rr64, i64, bC rr64, i65, i65, i64, i64, bC rr160, i160, i160, i160, i160, bC rr256, .inr (.inr rr192), bC rr192]) rfl ?_
 refine yS Ad W 1 (219, [vR 22, vI x1, vI x2], [], [iC s, .inl [.int (fA e0), .int (fB e0), .int (fC e0), .int (fD e0), .int (fE e0), .int (fF e0), .int (fG e0), .int (fH e0), .int (fI e0), .int (fJ e0), .int (fK e0), .int (fL e0), .long (fM e0), .int (fN e0), .ref 2, .ref 3, .ref 4, .ref 5, .ref 6, .ref 7, .ref 8, .ref 9, .ref 10, .ref 11, .ref 12, .ref 13, .ref 14, .ref 15, .ref 16, .ref 17, .ref 18, .ref 19, .ref 20, .ref 21, .int (fxD e0), .int (fxE e0), .int (fxF e0), .int (fxG e0), .int (fxH e0), .int (fxI e0), .int (fxJ e0), .int (fxK e0), .int (fxL e0), .int (fxM e0), .int (fxN e0), .int (fxO e0), .int (fxP e0), .int (fxQ e0)], iC (fR e0), bC (fT e0), iC (fU e0), bC (fV e0), iC (fW e0), iC (fX e0), iC (fY e0), iC (fZ e0), bC (fd e0), iC (ff e0), iC (fh e0), iC (fi e0), iC (fm e0), bC (fq e0), .inr (.inr (fu e0)), bC (fy e0), iC (fz e0), iC (fxA e0), iC (fxB e0), iC (fxC e0), .inl [.int 0, .int 1, .int 2, .int 3, .int 4, .int 64, .int 16, .int 64, .int 4, .int 256, .int 64, .int 3, .long (4294967295 : Int64), .int 2147483647, .ref 23, .ref 24, .ref 25, .ref 26, .ref 27, .ref 28, .ref 29, .ref 30, .ref 31, .ref 32, .ref 33, .ref 34, .ref 35, .ref 36, .ref 37, .ref 38, nU, nU, nU, nU, .int (fxD ob0), .int (fxE ob0), .int (fxF ob0), .int (fxG ob0), .int (fxH ob0), .int (fxI ob0), .int (fxJ ob0), .int (fxK ob0), .int (fxL ob0), .int (fxM ob0), .int (fxN ob0), .int (fxO ob0), .int (fxP ob0), .int (fxQ ob0)], i64, bC rr64, i64, bC rr64, i65, i65, i64, i64, bC rr160, i160, i160, i160, i160, bC rr256, .inr (.inr rr192), bC rr192]) rfl ?_
 refine yS Ad W 3 (225, [vR 22, vI x1, vI x2], [.ref 39, .ref 22], [iC s, .inl [.int (fA e0), .int (fB e0), .int (fC e0), .int (fD e0), .int (fE e0), .int (fF e0), .int (fG e0), .int (fH e0), .int (fI e0), .int (fJ e0), .int (fK e0), .int (fL e0), .long (fM e0), .int (fN e0), .ref 2, .ref 3, .ref 4, .ref 5, .ref 6, .ref 7, .ref 8, .ref 9, .ref 10, .ref 11, .ref 12, .ref 13, .ref 14, .ref 15, .ref 16, .ref 17, .ref 18, .ref 19, .ref 20, .ref 21, .int (fxD e0), .int (fxE e0), .int (fxF e0), .int (fxG e0), .int (fxH e0), .int (fxI e0), .int (fxJ e0), .int (fxK e0), .int (fxL e0), .int (fxM e0), .int (fxN e0), .int (fxO e0), .int (fxP e0), .int (fxQ e0)], iC (fR e0), bC (fT e0), iC (fU e0), bC (fV e0), iC (fW e0), iC (fX e0), iC (fY e0), iC (fZ e0), bC (fd e0), iC (ff e0), iC (fh e0), iC (fi e0), iC (fm e0), bC (fq e0), .inr (.inr (fu e0)), bC (fy e0), iC (fz e0), iC (fxA e0), iC (fxB e0), iC (fxC e0), .inl [.int 0, .int 1, .int 2, .int 3, .int 4, .int 64, .int 16, .int 64, .int 4, .int 256, .int 64, .int 3, .long (4294967295 : Int64), .int 2147483647, .ref 23, .ref 24, .ref 25, .ref 26, .ref 27, .ref 28, .ref 29, .ref 30, .ref 31, .ref 32, .ref 33, .ref 34, .ref 35, .ref 36, .ref 37, .ref 38, nU, nU, nU, nU, .int (fxD ob0), .int (fxE ob0), .int (fxF ob0), .int (fxG ob0), .int (fxH ob0), .int (fxI ob0), .int (fxJ ob0), .int (fxK ob0), .int (fxL ob0), .int (fxM ob0), .int (fxN ob0), .int (fxO ob0), .int (fxP ob0), .int (fxQ ob0)], i64, bC rr64, i64, bC rr64, i65, i65, i64, i64, bC rr160, i160, i160, i160, i160, bC rr256, .inr (.inr rr192), bC rr192, i130]) rfl ?_
 refine yS Ad W 1 (228, [vR 22, vI x1, vI x2], [], [iC s, .inl [.int (fA e0), .int (fB e0), .int (fC e0), .int (fD e0), .int (fE e0), .int (fF e0), .int (fG e0), .int (fH e0), .int (fI e0), .int (fJ e0), .int (fK e0), .int (fL e0), .long (fM e0), .int (fN e0), .ref 2, .ref 3, .ref 4, .ref 5, .ref 6, .ref 7, .ref 8, .ref 9, .ref 10, .ref 11, .ref 12, .ref 13, .ref 14, .ref 15, .ref 16, .ref 17, .ref 18, .ref 19, .ref 20, .ref 21, .int (fxD e0), .int (fxE e0), .int (fxF e0), .int (fxG e0), .int (fxH e0), .int (fxI e0), .int (fxJ e0), .int (fxK e0), .int (fxL e0), .int (fxM e0), .int (fxN e0), .int (fxO e0), .int (fxP e0), .int (fxQ e0)], iC (fR e0), bC (fT e0), iC (fU e0), bC (fV e0), iC (fW e0), iC (fX e0), iC (fY e0), iC (fZ e0), bC (fd e0), iC (ff e0), iC (fh e0), iC (fi e0), iC (fm e0), bC (fq e0), .inr (.inr (fu e0)), bC (fy e0), iC (fz e0), iC (fxA e0), iC (fxB e0), iC (fxC e0), .inl [.int 0, .int 1, .int 2, .int 3, .int 4, .int 64, .int 16, .int 64, .int 4, .int 256, .int 64, .int 3, .long (4294967295 : Int64), .int 2147483647, .ref 23, .ref 24, .ref 25, .ref 26, .ref 27, .ref 28, .ref 29, .ref 30, .ref 31, .ref 32, .ref 33, .ref 34, .ref 35, .ref 36, .ref 37, .ref 38, .ref 39, nU, nU, nU, .int (fxD ob0), .int (fxE ob0), .int (fxF ob0), .int (fxG ob0), .int (fxH ob0), .int (fxI ob0), .int (fxJ ob0), .int (fxK ob0), .int (fxL ob0), .int (fxM ob0), .int (fxN ob0), .int (fxO ob0), .int (fxP ob0), .int (fxQ ob0)], i64, bC rr64, i64, bC rr64, i65, i65, i64, i64, bC rr160, i160, i160, i160, i160, bC rr256, .inr (.inr rr192), bC rr192, i130]) rfl ?_
 refine yS Ad W 3 (234, [vR 22, vI x1, vI x2], [.ref 40, .ref 22], [iC s, .inl [.int (fA e0), .int (fB e0), .int (fC e0), .int (fD e0), .int (fE e0), .int (fF e0), .int (fG e0), .int (fH e0), .int (fI e0), .int (fJ e0), .int (fK e0), .int (fL e0), .long (fM e0), .int (fN e0), .ref 2, .ref 3, .ref 4, .ref 5, .ref 6, .ref 7, .ref 8, .ref 9, .ref 10, .ref 11, .ref 12, .ref 13, .ref 14, .ref 15, .ref 16, .ref 17, .ref 18, .ref 19, .ref 20, .ref 21, .int (fxD e0), .int (fxE e0), .int (fxF e0), .int (fxG e0), .int (fxH e0), .int (fxI e0), .int (fxJ e0), .int (fxK e0), .int (fxL e0), .int (fxM e0), .int (fxN e0), .int (fxO e0), .int (fxP e0), .int (fxQ e0)], iC (fR e0), bC (fT e0), iC (fU e0), bC (fV e0), iC (fW e0), iC (fX e0), iC (fY e0), iC (fZ e0), bC (fd e0), iC (ff e0), iC (fh e0), iC (fi e0), iC (fm e0), bC (fq e0), .inr (.inr (fu e0)), bC (fy e0), iC (fz e0), iC (fxA e0), iC (fxB e0), iC (fxC e0), .inl [.int 0, .int 1, .int 2, .int 3, .int 4, .int 64, .int 16, .int 64, .int 4, .int 256, .int 64, .int 3, .long (4294967295 : Int64), .int 2147483647, .ref 23, .ref 24, .ref 25, .ref 26, .ref 27, .ref 28, .ref 29, .ref 30, .ref 31, .ref 32, .ref 33, .ref 34, .ref 35, .ref 36, .ref 37, .ref 38, .ref 39, nU, nU, nU, .int (fxD ob0), .int (fxE ob0), .int (fxF ob0), .int (fxG ob0), .int (fxH ob0), .int (fxI ob0), .int (fxJ ob0), .int (fxK ob0), .int (fxL ob0), .int (fxM ob0), .int (fxN ob0), .int (fxO ob0), .int (fxP ob0), .int (fxQ ob0)], i64, bC rr64, i64, bC rr64, i65, i65, i64, i64, bC rr160, i160, i160, i160, i160, bC rr256, .inr (.inr rr192), bC rr192, i130, i130]) rfl ?_
 refine yS Ad W 1 (237, [vR 22, vI x1, vI x2], [], [iC s, .inl [.int (fA e0), .int (fB e0), .int (fC e0), .int (fD e0), .int (fE e0), .int (fF e0), .int (fG e0), .int (fH e0), .int (fI e0), .int (fJ e0), .int (fK e0), .int (fL e0), .long (fM e0), .int (fN e0), .ref 2, .ref 3, .ref 4, .ref 5, .ref 6, .ref 7, .ref 8, .ref 9, .ref 10, .ref 11, .ref 12, .ref 13, .ref 14, .ref 15, .ref 16, .ref 17, .ref 18, .ref 19, .ref 20, .ref 21, .int (fxD e0), .int (fxE e0), .int (fxF e0), .int (fxG e0), .int (fxH e0), .int (fxI e0), .int (fxJ e0), .int (fxK e0), .int (fxL e0), .int (fxM e0), .int (fxN e0), .int (fxO e0), .int (fxP e0), .int (fxQ e0)], iC (fR e0), bC (fT e0), iC (fU e0), bC (fV e0), iC (fW e0), iC (fX e0), iC (fY e0), iC (fZ e0), bC (fd e0), iC (ff e0), iC (fh e0), iC (fi e0), iC (fm e0), bC (fq e0), .inr (.inr (fu e0)), bC (fy e0), iC (fz e0), iC (fxA e0), iC (fxB e0), iC (fxC e0), .inl [.int 0, .int 1, .int 2, .int 3, .int 4, .int 64, .int 16, .int 64, .int 4, .int 256, .int 64, .int 3, .long (4294967295 : Int64), .int 2147483647, .ref 23, .ref 24, .ref 25, .ref 26, .ref 27, .ref 28, .ref 29, .ref 30, .ref 31, .ref 32, .ref 33, .ref 34, .ref 35, .ref 36, .ref 37, .ref 38, .ref 39, .ref 40, nU, nU, .int (fxD ob0), .int (fxE ob0), .int (fxF ob0), .int (fxG ob0), .int (fxH ob0), .int (fxI ob0), .int (fxJ ob0), .int (fxK ob0), .int (fxL ob0), .int (fxM ob0), .int (fxN ob0), .int (fxO ob0), .int (fxP ob0), .int (fxQ ob0)], i64, bC rr64, i64, bC rr64, i65, i65, i64, i64, bC rr160, i160, i160, i160, i160, bC rr256, .inr (.inr rr192), bC rr192, i130, i130]) rfl ?_
 refine yS Ad W 3 (243, [vR 22, vI x1, vI x2], [.ref 41, .ref 22], [iC s, .inl [.int (fA e0), .int (fB e0), .int (fC e0), .int (fD e0), .int (fE e0), .int (fF e0), .int (fG e0), .int (fH e0), .int (fI e0), .int (fJ e0), .int (fK e0), .int (fL e0), .long (fM e0), .int (fN e0), .ref 2, .ref 3, .ref 4, .ref 5, .ref 6, .ref 7, .ref 8, .ref 9, .ref 10, .ref 11, .ref 12, .ref 13, .ref 14, .ref 15, .ref 16, .ref 17, .ref 18, .ref 19, .ref 20, .ref 21, .int (fxD e0), .int (fxE e0), .int (fxF e0), .int (fxG e0), .int (fxH e0), .int (fxI e0), .int (fxJ e0), .int (fxK e0), .int (fxL e0), .int (fxM e0), .int (fxN e0), .int (fxO e0), .int (fxP e0), .int (fxQ e0)], iC (fR e0), bC (fT e0), iC (fU e0), bC (fV e0), iC (fW e0), iC (fX e0), iC (fY e0), iC (fZ e0), bC (fd e0), iC (ff e0), iC (fh e0), iC (fi e0), iC (fm e0), bC (fq e0), .inr (.inr (fu e0)), bC (fy e0), iC (fz e0), iC (fxA e0), iC (fxB e0), iC (fxC e0), .inl [.int 0, .int 1, .int 2, .int 3, .int 4, .int 64, .int 16, .int 64, .int 4, .int 256, .int 64, .int 3, .long (4294967295 : Int64), .int 2147483647, .ref 23, .ref 24, .ref 25, .ref 26, .ref 27, .ref 28, .ref 29, .ref 30, .ref 31, .ref 32, .ref 33, .ref 34, .ref 35, .ref 36, .ref 37, .ref 38, .ref 39, .ref 40, nU, nU, .int (fxD ob0), .int (fxE ob0), .int (fxF ob0), .int (fxG ob0), .int (fxH ob0), .int (fxI ob0), .int (fxJ ob0), .int (fxK ob0), .int (fxL ob0), .int (fxM ob0), .int (fxN ob0), .int (fxO ob0), .int (fxP ob0), .int (fxQ ob0)], i64, bC rr64, i64, bC rr64, i65, i65, i64, i64, bC rr160, i160, i160, i160, i160, bC rr256, .inr (.inr rr192), bC rr192, i130, i130, i130]) rfl ?_
 refine yS Ad W 1 (246, [vR 22, vI x1, vI x2], [], [iC s, .inl [.int (fA e0), .int (fB e0), .int (fC e0), .int (fD e0), .int (fE e0), .int (fF e0), .int (fG e0), .int (fH e0), .int (fI e0), .int (fJ e0), .int (fK e0), .int (fL e0), .long (fM e0), .int (fN e0), .ref 2, .ref 3, .ref 4, .ref 5, .ref 6, .ref 7, .ref 8, .ref 9, .ref 10, .ref 11, .ref 12, .ref 13, .ref 14, .ref 15, .ref 16, .ref 17, .ref 18, .ref 19, .ref 20, .ref 21, .int (fxD e0), .int (fxE e0), .int (fxF e0), .int (fxG e0), .int (fxH e0), .int (fxI e0), .int (fxJ e0), .int (fxK e0), .int (fxL e0), .int (fxM e0), .int (fxN e0), .int (fxO e0), .int (fxP e0), .int (fxQ e0)], iC (fR e0), bC (fT e0), iC (fU e0), bC (fV e0), iC (fW e0), iC (fX e0), iC (fY e0), iC (fZ e0), bC (fd e0), iC (ff e0), iC (fh e0), iC (fi e0), iC (fm e0), bC (fq e0), .inr (.inr (fu e0)), bC (fy e0), iC (fz e0), iC (fxA e0), iC (fxB e0), iC (fxC e0), .inl [.int 0, .int 1, .int 2, .int 3, .int 4, .int 64, .int 16, .int 64, .int 4, .int 256, .int 64, .int 3, .long (4294967295 : Int64), .int 2147483647, .ref 23, .ref 24, .ref 25, .ref 26, .ref 27, .ref 28, .ref 29, .ref 30, .ref 31, .ref 32, .ref 33, .ref 34, .ref 35, .ref 36, .ref 37, .ref 38, .ref 39, .ref 40, .ref 41, nU, .int (fxD ob0), .int (fxE ob0), .int (fxF ob0), .int (fxG ob0), .int (fxH ob0), .int (fxI ob0), .int (fxJ ob0), .int (fxK ob0), .int (fxL ob0), .int (fxM ob0), .int (fxN ob0), .int (fxO ob0), .int (fxP ob0), .int (fxQ ob0)], i64, bC rr64, i64, bC rr64, i65, i65, i64, i64, bC rr160, i160, i160, i160, i160, bC rr256, .inr (.inr rr192), bC rr192, i130, i130, i130]) rfl ?_
 refine yS Ad W 3 (252, [vR 22, vI x1, vI x2], [.ref 42, .ref 22], [iC s, .inl [.int (fA e0), .int (fB e0), .int (fC e0), .int (fD e0), .int (fE e0), .int (fF e0), .int (fG e0), .int (fH e0), .int (fI e0), .int (fJ e0), .int (fK e0), .int (fL e0), .long (fM e0), .int (fN e0), .ref 2, .ref 3, .ref 4, .ref 5, .ref 6, .ref 7, .ref 8, .ref 9, .ref 10, .ref 11, .ref 12, .ref 13, .ref 14, .ref 15, .ref 16, .ref 17, .ref 18, .ref 19, .ref 20, .ref 21, .int (fxD e0), .int (fxE e0), .int (fxF e0), .int (fxG e0), .int (fxH e0), .int (fxI e0), .int (fxJ e0), .int (fxK e0), .int (fxL e0), .int (fxM e0), .int (fxN e0), .int (fxO e0), .int (fxP e0), .int (fxQ e0)], iC (fR e0), bC (fT e0), iC (fU e0), bC (fV e0), iC (fW e0), iC (fX e0), iC (fY e0), iC (fZ e0), bC (fd e0), iC (ff e0), iC (fh e0), iC (fi e0), iC (fm e0), bC (fq e0), .inr (.inr (fu e0)), bC (fy e0), iC (fz e0), iC (fxA e0), iC (fxB e0), iC (fxC e0), .inl [.int 0, .int 1, .int 2, .int 3, .int 4, .int 64, .int 16, .int 64, .int 4, .int 256, .int 64, .int 3, .long (4294967295 : Int64), .int 2147483647, .ref 23, .ref 24, .ref 25, .ref 26, .ref 27, .ref 28, .ref 29, .ref 30, .ref 31, .ref 32, .ref 33, .ref 34, .ref 35, .ref 36, .ref 37, .ref 38, .ref 39, .ref 40, .ref 41, nU, .int (fxD ob0), .int (fxE ob0), .int (fxF ob0), .int (fxG ob0), .int (fxH ob0), .int (fxI ob0), .int (fxJ ob0), .int (fxK ob0), .int (fxL ob0), .int (fxM ob0), .int (fxN ob0), .int (fxO ob0), .int (fxP ob0), .int (fxQ ob0)], i64, bC rr64, i64, bC rr64, i65, i65, i64, i64, bC rr160, i160, i160, i160, i160, bC rr256, .inr (.inr rr192), bC rr192, i130, i130, i130, i130]) rfl ?_
 refine yS Ad W 1 (255, [vR 22, vI x1, vI x2], [], (H1x15 s e0 ob0 (0:Int32) (1:Int32) (2:Int32) (3:Int32) (4:Int32) (64:Int32) (16:Int32) (64:Int32) (4:Int32) (256:Int32) (64:Int32) (3:Int32) (4294967295 : Int64) (2147483647:Int32) rr64 rr64 rr64 rr64 rr65 rr65 rr64 rr64 rr160 rr160 rr160 rr160 rr160 rr256 rr192 rr192 rr130 rr130 rr130 rr130)) rfl ?_
 refine yS Ad W 5 (261, [vR 22, vI x1, vI x2], [.int 64, .int 1, .int x1, .ref 22, .ref 22], (H1x15 s e0 ob0 (0:Int32) (1:Int32) (2:Int32) (3:Int32) (4:Int32) (64:Int32) (16:Int32) (64:Int32) (4:Int32) (256:Int32) (64:Int32) (3:Int32) (4294967295 : Int64) (2147483647:Int32) rr64 rr64 rr64 rr64 rr65 rr65 rr64 rr64 rr160 rr160 rr160 rr160 rr160 rr256 rr192 rr192 rr130 rr130 rr130 rr130)) rfl ?_
 obtain ⟨r9, hr9, h⟩ := be h
 refine callP W (a := 22) (as := [.int x1, .int 1, .int 64]) (rest := [.ref 22]) (w := (some (.int r9))) (σ₁ := (H1x15 s e0 ob0 (0:Int32) (1:Int32) (2:Int32) (3:Int32) (4:Int32) (64:Int32) (16:Int32) (64:Int32) (4:Int32) (256:Int32) (64:Int32) (3:Int32) (4294967295 : Int64) (2147483647:Int32) (List.replicate 64 0) (List.replicate 64 0) (List.replicate 64 0) (List.replicate 64 0) (List.replicate 65 0) (List.replicate 65 0) (List.replicate 64 0) (List.replicate 64 0) (List.replicate 160 0) (List.replicate 160 0) (List.replicate 160 0) (List.replicate 160 0) (List.replicate 160 0) (List.replicate 256 0) (List.replicate 192 0) (List.replicate 192 0) (List.replicate 130 0) (List.replicate 130 0) (List.replicate 130 0) (List.replicate 130 0))) rfl rfl rfl rfl rfl rfl rfl rfl (tF2 Ad W x1 (1:Int32) (64:Int32) hr9) ?_
 refine yS Ad W 1 (267, [vR 22, vI x1, vI x2], [], (H1x16 s e0 ob0 (0:Int32) (1:Int32) (2:Int32) (3:Int32) (4:Int32) (64:Int32) (16:Int32) (64:Int32) (4:Int32) (256:Int32) (64:Int32) (3:Int32) (4294967295 : Int64) (2147483647:Int32) rr64 rr64 rr64 rr64 rr65 rr65 rr64 rr64 rr160 rr160 rr160 rr160 rr160 rr256 rr192 rr192 rr130 rr130 rr130 rr130 r9)) rfl ?_
 refine yS Ad W 5 (273, [vR 22, vI x1, vI x2], [.int 16, .int 1, .int x2, .ref 22, .ref 22], (H1x16 s e0 ob0 (0:Int32) (1:Int32) (2:Int32) (3:Int32) (4:Int32) (64:Int32) (16:Int32) (64:Int32) (4:Int32) (256:Int32) (64:Int32) (3:Int32) (4294967295 : Int64) (2147483647:Int32) rr64 rr64 rr64 rr64 rr65 rr65 rr64 rr64 rr160 rr160 rr160 rr160 rr160 rr256 rr192 rr192 rr130 rr130 rr130 rr130 r9)) rfl ?_
 obtain ⟨r10, hr10, h⟩ := be h
 refine callP W (a := 22) (as := [.int x2, .int 1, .int 16]) (rest := [.ref 22]) (w := (some (.int r10))) (σ₁ := (H1x16 s e0 ob0 (0:Int32) (1:Int32) (2:Int32) (3:Int32) (4:Int32) (64:Int32) (16:Int32) (64:Int32) (4:Int32) (256:Int32) (64:Int32) (3:Int32) (4294967295 : Int64) (2147483647:Int32) (List.replicate 64 0) (List.replicate 64 0) (List.replicate 64 0) (List.replicate 64 0) (List.replicate 65 0) (List.replicate 65 0) (List.replicate 64 0) (List.replicate 64 0) (List.replicate 160 0) (List.replicate 160 0) (List.replicate 160 0) (List.replicate 160 0) (List.replicate 160 0) (List.replicate 256 0) (List.replicate 192 0) (List.replicate 192 0) (List.replicate 130 0) (List.replicate 130 0) (List.replicate 130 0) (List.replicate 130 0) r9)) rfl rfl rfl rfl rfl rfl rfl rfl (tF2 Ad W x2 (1:Int32) (16:Int32) hr10) ?_
 refine yS Ad W 2 (280, [vR 22, vI x1, vI x2], [.ref 22], (H1x17 s e0 ob0 (0:Int32) (1:Int32) (2:Int32) (3:Int32) (4:Int32) (64:Int32) (16:Int32) (64:Int32) (4:Int32) (256:Int32) (64:Int32) (3:Int32) (4294967295 : Int64) (2147483647:Int32) rr64 rr64 rr64 rr64 rr65 rr65 rr64 rr64 rr160 rr160 rr160 rr160 rr160 rr256 rr192 rr192 rr130 rr130 rr130 rr130 r9 r10)) rfl ?_
 have E11 : ((H1x17 s e0 ob0 (0:Int32) (1:Int32) (2:Int32) (3:Int32) (4:Int32) (64:Int32) (16:Int32) (64:Int32) (4:Int32) (256:Int32) (64:Int32) (3:Int32) (4294967295 : Int64) (2147483647:Int32) rr64 rr64 rr64 rr64 rr65 rr65 rr64 rr64 rr160 rr160 rr160 rr160 rr160 rr256 rr192 rr192 rr130 rr130 rr130 rr130 r9 r10) : QHeap) = (H1 s e0 (sxE (sxD (sxC (sxB (sxA (sz (sy (su (sq (sm (si (sh (sf (sd (sZ (sY (sX (sW (sV (sU (sT (sR (sN (sM (sL (sK (sJ (sI (sH (sG (sF (sE (sD (sC (sB (sA ob0 (0:Int32)) (1:Int32)) (2:Int32)) (3:Int32)) (4:Int32)) (64:Int32)) (16:Int32)) (64:Int32)) (4:Int32)) (256:Int32)) (64:Int32)) (3:Int32)) (4294967295 : Int64)) (2147483647:Int32)) rr64) rr64) rr64) rr64) rr65) rr65) rr64) rr64) rr160) rr160) rr160) rr160) rr160) rr256) rr192) rr192) rr130) rr130) rr130) rr130) r9) r10)) := by simp only [fs, H1, H1v, H1x17, sA, sB, sC, sD, sE, sF, sG, sH, sI, sJ, sK, sL, sM, sN, sR, sT, sU, sV, sW, sX, sY, sZ, sd, sf, sh, si, sm, sq, su, sy, sz, sxA, sxB, sxC, sxD, sxE, ob0]
 rw [E11]
 obtain ⟨r13, hr13, h⟩ := be h
 refine callV W (a := 22) (as := []) (rest := []) (w := none) (σ₁ := (H1 s e0 r13)) rfl rfl rfl rfl rfl rfl rfl rfl (tF3a1 Ad W s e0 (sxE (sxD (sxC (sxB (sxA (sz (sy (su (sq (sm (si (sh (sf (sd (sZ (sY (sX (sW (sV (sU (sT (sR (sN (sM (sL (sK (sJ (sI (sH (sG (sF (sE (sD (sC (sB (sA ob0 (0:Int32)) (1:Int32)) (2:Int32)) (3:Int32)) (4:Int32)) (64:Int32)) (16:Int32)) (64:Int32)) (4:Int32)) (256:Int32)) (64:Int32)) (3:Int32)) (4294967295 : Int64)) (2147483647:Int32)) (List.replicate 64 0)) (List.replicate 64 0)) (List.replicate 64 0)) (List.replicate 64 0)) (List.replicate 65 0)) (List.replicate 65 0)) (List.replicate 64 0)) (List.replicate 64 0)) (List.replicate 160 0)) (List.replicate 160 0)) (List.replicate 160 0)) (List.replicate 160 0)) (List.replicate 160 0)) (List.replicate 256 0)) (List.replicate 192 0)) (List.replicate 192 0)) (List.replicate 130 0)) (List.replicate 130 0)) (List.replicate 130 0)) (List.replicate 130 0)) r9) r10) hr13) ?_
 obtain rfl := sj h
 exact ret0 rfl rfl
def B17_10 (o : Ob) (x1 : Int32) (v : Int32 × Int32 × Int32) : Option (((Int32)) ⊕ (Int32 × Int32 × Int32)) :=
  (if v.2.2 < (16 : Int32) then (if v.1 < v.2.1 then (aget (fR o) (XT.ushr (v.1 + v.2.1) (1 : Int32))).bind fun y24 => some (.inr ((if y24 < x1 then ((XT.ushr (v.1 + v.2.1) (1 : Int32)) + (1 : Int32)) else v.1), (if y24 < x1 then v.2.1 else (XT.ushr (v.1 + v.2.1) (1 : Int32))), (v.2.2 + (1 : Int32)))) else some (.inl v.1)) else some (.inl v.1))
theorem tB17_10 (Ad : QAd n0 ad) (W : QW Z a0) (s : List Int32) (e0 o : Ob) (x1 : Int32) (v : Int32 × Int32 × Int32) {r : ((Int32)) ⊕ (Int32 × Int32 × Int32)} {u : Option Value} {τ : QHeap} (h : B17_10 o x1 v = some r) (hx0 : ∀ x : Int32, r = .inl x → u = (some (Value.int x)) ∧ τ = (H1 s o e0)) (hc : ∀ x : Int32 × Int32 × Int32, r = .inr x → QTri l Z n0 ad 17 (10, [vR 1, vI x1, vI x.1, vI x.2.1, vI x.2.2, nN], [], (H1 s o e0)) u τ) : QTri l Z n0 ad 17 (10, [vR 1, vI x1, vI v.1, vI v.2.1, vI v.2.2, nN], [], (H1 s o e0)) u τ := by
 unfold B17_10 at h
 refine yS Ad W 2 (14, [vR 1, vI x1, vI v.1, vI v.2.1, vI v.2.2, nN], [.int 16, .int v.2.2], (H1 s o e0)) rfl ?_
 rcases qite h with ⟨c22, h⟩ | ⟨c22, h⟩
 ·refine yF Ad W 57 17 rfl (XT.ii_ge_f c22) ?_
  refine yS Ad W 2 (19, [vR 1, vI x1, vI v.1, vI v.2.1, vI v.2.2, nN], [.int v.2.1, .int v.1], (H1 s o e0)) rfl ?_
  rcases qite h with ⟨c23, h⟩ | ⟨c23, h⟩
  ·refine yF Ad W 57 22 rfl (XT.ii_ge_f c23) ?_
   refine yS Ad W 9 (35, [vR 1, vI x1, vI v.1, vI v.2.1, vI v.2.2, vI (XT.ushr (v.1 + v.2.1) (1:Int32))], [.int (XT.ushr (v.1 + v.2.1) (1:Int32)), .ref 2], (H1 s o e0)) rfl ?_
   obtain ⟨y24, hy24, h⟩ := be h
   refine zB Ad W (f := fun y24 => (36, [vR 1, vI x1, vI v.1, vI v.2.1, vI v.2.2, vI (XT.ushr (v.1 + v.2.1) (1:Int32))], [.int y24], (H1 s o e0))) rfl hy24 ?_
   refine yS Ad W 1 (37, [vR 1, vI x1, vI v.1, vI v.2.1, vI v.2.2, vI (XT.ushr (v.1 + v.2.1) (1:Int32))], [.int x1, .int y24], (H1 s o e0)) rfl ?_
   have K27 : ∀ z25 : Int32, z25 = (if y24 < x1 then ((XT.ushr (v.1 + v.2.1) (1:Int32)) + (1:Int32)) else v.1) → ∀ z26 : Int32, z26 = (if y24 < x1 then v.2.1 else (XT.ushr (v.1 + v.2.1) (1:Int32))) → QTri l Z n0 ad 17 (51, [vR 1, vI x1, vI z25, vI z26, vI v.2.2, nN], [], (H1 s o e0)) u τ := by
    intro z25 ez25
    intro z26 ez26
    subst ez25
    subst ez26
    refine yS Ad W 2 (10, [vR 1, vI x1, vI (if y24 < x1 then ((XT.ushr (v.1 + v.2.1) (1:Int32)) + (1:Int32)) else v.1), vI (if y24 < x1 then v.2.1 else (XT.ushr (v.1 + v.2.1) (1:Int32))), vI (v.2.2 + (1:Int32)), nN], [], (H1 s o e0)) rfl ?_
    obtain rfl := sj h
    exact zM [G,G,G,G,G,Y] (hc ((if y24 < x1 then ((XT.ushr (v.1 + v.2.1) (1:Int32)) + (1:Int32)) else v.1), (if y24 < x1 then v.2.1 else (XT.ushr (v.1 + v.2.1) (1:Int32))), (v.2.2 + (1:Int32))) rfl)
   rcases em (y24 < x1) with c28 | c28
   ·refine yF Ad W 48 40 rfl (XT.ii_ge_f c28) ?_
    refine yS Ad W 5 (51, [vR 1, vI x1, vI ((XT.ushr (v.1 + v.2.1) (1:Int32)) + (1:Int32)), vI v.2.1, vI v.2.2, vI (XT.ushr (v.1 + v.2.1) (1:Int32))], [], (H1 s o e0)) rfl ?_
    exact zM [G,G,G,G,G,Y] (K27 _ (if_pos c28).symm _ (if_pos c28).symm)
   ·refine yT Ad W 48 40 rfl (XT.ii_ge_t c28) ?_
    refine yS Ad W 2 (51, [vR 1, vI x1, vI v.1, vI (XT.ushr (v.1 + v.2.1) (1:Int32)), vI v.2.2, vI (XT.ushr (v.1 + v.2.1) (1:Int32))], [], (H1 s o e0)) rfl ?_
    exact zM [G,G,G,G,G,Y] (K27 _ (if_neg c28).symm _ (if_neg c28).symm)
  ·refine yT Ad W 57 22 rfl (XT.ii_ge_t c23) ?_
   refine yS Ad W 1 (58, [vR 1, vI x1, vI v.1, vI v.2.1, vI v.2.2, nN], [.int v.1], (H1 s o e0)) rfl ?_
   obtain rfl := sj h
   obtain ⟨rfl, rfl⟩ := hx0 v.1 rfl
   exact retI rfl rfl
 ·refine yT Ad W 57 17 rfl (XT.ii_ge_t c22) ?_
  refine yS Ad W 1 (58, [vR 1, vI x1, vI v.1, vI v.2.1, vI v.2.2, nN], [.int v.1], (H1 s o e0)) rfl ?_
  obtain rfl := sj h
  obtain ⟨rfl, rfl⟩ := hx0 v.1 rfl
  exact retI rfl rfl
/-- curLowerBound(I)I -/
def F17 (o : Ob) (x1 : Int32) : Option (Int32) :=
 (loopN (B17_10 o x1) qN ((0:Int32), (fxF o), (0:Int32))).bind fun e29 => some e29
theorem tF17 (Ad : QAd n0 ad) (W : QW Z a0) (s : List Int32) (e0 o : Ob) (x1 : Int32) {r : Int32} (h : F17 o x1 = some r) : QTri l Z n0 ad 17 (0, qentry [.ref 1, .int x1] (pMaxL 17), [], (H1 s o e0)) (some (Value.int r)) (H1 s o e0) := by
 unfold F17 at h
 refine yS Ad W 5 (7, [vR 1, vI x1, vI 0, vI (fxF o), nN, nN], [], (H1 s o e0)) rfl ?_
 refine yS Ad W 2 (10, [vR 1, vI x1, vI 0, vI (fxF o), vI 0, nN], [], (H1 s o e0)) rfl ?_
 obtain ⟨e29, he29, h⟩ := be h
 refine zM [G,G,G,G,G,Y] (loopN_tri (B := B17_10 o x1) (T := fun lv30 => QTri l Z n0 ad 17 (10, [vR 1, vI x1, vI lv30.1, vI lv30.2.1, vI lv30.2.2, nN], [], (H1 s o e0)) (some (Value.int r)) (H1 s o e0)) (KE := fun e29a => (some (Value.int r)) = (some (Value.int e29a)) ∧ (H1 s o e0) = (H1 s o e0)) (fun lv30 r hB hE hC => tB17_10 Ad W s e0 o x1 lv30 hB (fun x q => hE _ q) (fun x q => hC x q)) qN ((0:Int32), (fxF o), (0:Int32)) e29 he29 ?_)
 obtain rfl := sj h
 exact ⟨rfl, rfl⟩
def H1x30 (s : List Int32) (o0 o1 : Ob) (a0_14 : List Int32) : QHeap := H1v s (fA o0) (fB o0) (fC o0) (fD o0) (fE o0) (fF o0) (fG o0) (fH o0) (fI o0) (fJ o0) (fK o0) (fL o0) (fM o0) (fN o0) a0_14 (fT o0) (fU o0) (fV o0) (fW o0) (fX o0) (fY o0) (fZ o0) (fd o0) (ff o0) (fh o0) (fi o0) (fm o0) (fq o0) (fu o0) (fy o0) (fz o0) (fxA o0) (fxB o0) (fxC o0) (fxD o0) (fxE o0) (fxF o0) (fxG o0) (fxH o0) (fxI o0) (fxJ o0) (fxK o0) (fxL o0) (fxM o0) (fxN o0) (fxO o0) (fxP o0) (fxQ o0) (fA o1) (fB o1) (fC o1) (fD o1) (fE o1) (fF o1) (fG o1) (fH o1) (fI o1) (fJ o1) (fK o1) (fL o1) (fM o1) (fN o1) (fR o1) (fT o1) (fU o1) (fV o1) (fW o1) (fX o1) (fY o1) (fZ o1) (fd o1) (ff o1) (fh o1) (fi o1) (fm o1) (fq o1) (fu o1) (fy o1) (fz o1) (fxA o1) (fxB o1) (fxC o1) (fxD o1) (fxE o1) (fxF o1) (fxG o1) (fxH o1) (fxI o1) (fxJ o1) (fxK o1) (fxL o1) (fxM o1) (fxN o1) (fxO o1) (fxP o1) (fxQ o1)
def H1x31 (s : List Int32) (o0 o1 : Ob) (a0_14 a0_15 : List Int32) : QHeap := H1v s (fA o0) (fB o0) (fC o0) (fD o0) (fE o0) (fF o0) (fG o0) (fH o0) (fI o0) (fJ o0) (fK o0) (fL o0) (fM o0) (fN o0) a0_14 a0_15 (fU o0) (fV o0) (fW o0) (fX o0) (fY o0) (fZ o0) (fd o0) (ff o0) (fh o0) (fi o0) (fm o0) (fq o0) (fu o0) (fy o0) (fz o0) (fxA o0) (fxB o0) (fxC o0) (fxD o0) (fxE o0) (fxF o0) (fxG o0) (fxH o0) (fxI o0) (fxJ o0) (fxK o0) (fxL o0) (fxM o0) (fxN o0) (fxO o0) (fxP o0) (fxQ o0) (fA o1) (fB o1) (fC o1) (fD o1) (fE o1) (fF o1) (fG o1) (fH o1) (fI o1) (fJ o1) (fK o1) (fL o1) (fM o1) (fN o1) (fR o1) (fT o1) (fU o1) (fV o1) (fW o1) (fX o1) (fY o1) (fZ o1) (fd o1) (ff o1) (fh o1) (fi o1) (fm o1) (fq o1) (fu o1) (fy o1) (fz o1) (fxA o1) (fxB o1) (fxC o1) (fxD o1) (fxE o1) (fxF o1) (fxG o1) (fxH o1) (fxI o1) (fxJ o1) (fxK o1) (fxL o1) (fxM o1) (fxN o1) (fxO o1) (fxP o1) (fxQ o1)
def B25_59 (x1 x2 x3 : Int32) (v : Int32 × Ob) : Option (((Ob)) ⊕ (Int32 × Ob)) :=
  (if x3 < v.1 then (aget (fR v.2) (v.1 - (1 : Int32))).bind fun y37 => (aset (fR v.2) v.1 y37).bind fun y38 => (aget (fT v.2) (v.1 - (1 : Int32))).bind fun y39 => (aset (fT v.2) v.1 (y39.toInt8.toInt32)).bind fun y40 => some (.inr ((v.1 + (-1 : Int32)), (sT (sR v.2 y38) y40))) else some (.inl v.2))
theorem tB25_59 (Ad : QAd n0 ad) (W : QW Z a0) (s : List Int32) (e0 : Ob) (x1 x2 x3 : Int32) (v : Int32 × Ob) {r : ((Ob)) ⊕ (Int32 × Ob)} {u : Option Value} {τ : QHeap} (h : B25_59 x1 x2 x3 v = some r) (hx0 : ∀ x : Ob, r = .inl x → QTri l Z n0 ad 25 (103, [vR 1, vI x1, vI x2, vI x3, nN], [], (H1 s x e0)) u τ) (hc : ∀ x : Int32 × Ob, r = .inr x → QTri l Z n0 ad 25 (59, [vR 1, vI x1, vI x2, vI x3, vI x.1], [], (H1 s x.2 e0)) u τ) : QTri l Z n0 ad 25 (59, [vR 1, vI x1, vI x2, vI x3, vI v.1], [], (H1 s v.2 e0)) u τ := by
 unfold B25_59 at h
 refine yS Ad W 2 (62, [vR 1, vI x1, vI x2, vI x3, vI v.1], [.int x3, .int v.1], (H1 s v.2 e0)) rfl ?_
 rcases qite h with ⟨c36, h⟩ | ⟨c36, h⟩
 ·refine yF Ad W 103 65 rfl (XT.ii_le_f c36) ?_
  refine yS Ad W 8 (79, [vR 1, vI x1, vI x2, vI x3, vI v.1], [.int (v.1 - (1:Int32)), .ref 2, .int v.1, .ref 2], (H1 s v.2 e0)) rfl ?_
  obtain ⟨y37, hy37, h⟩ := be h
  refine zB Ad W (f := fun y37 => (80, [vR 1, vI x1, vI x2, vI x3, vI v.1], [.int y37, .int v.1, .ref 2], (H1 s v.2 e0))) rfl hy37 ?_
  obtain ⟨y38, hy38, h⟩ := be h
  refine zB Ad W (f := fun y38 => (81, [vR 1, vI x1, vI x2, vI x3, vI v.1], [], (H1x30 s v.2 e0 y38))) rfl hy38 ?_
  refine yS Ad W 8 (95, [vR 1, vI x1, vI x2, vI x3, vI v.1], [.int (v.1 - (1:Int32)), .ref 3, .int v.1, .ref 3], (H1x30 s v.2 e0 y38)) rfl ?_
  obtain ⟨y39, hy39, h⟩ := be h
  refine zB Ad W (f := fun y39 => (96, [vR 1, vI x1, vI x2, vI x3, vI v.1], [.int y39, .int v.1, .ref 3], (H1x30 s v.2 e0 y38))) rfl hy39 ?_
  obtain ⟨y40, hy40, h⟩ := be h
  refine zB Ad W (f := fun y40 => (97, [vR 1, vI x1, vI x2, vI x3, vI v.1], [], (H1x31 s v.2 e0 y38 y40))) rfl hy40 ?_
  refine yS Ad W 2 (59, [vR 1, vI x1, vI x2, vI x3, vI (v.1 + (-1:Int32))], [], (H1x31 s v.2 e0 y38 y40)) rfl ?_
  have E41 : ((H1x31 s v.2 e0 y38 y40) : QHeap) = (H1 s (sT (sR v.2 y38) y40) e0) := by simp only [fs, H1, H1v, H1x31, sR, sT]
  rw [E41]
  obtain rfl := sj h
  exact zM [G,G,G,G,G] (hc ((v.1 + (-1:Int32)), (sT (sR v.2 y38) y40)) rfl)
 ·refine yT Ad W 103 65 rfl (XT.ii_le_t c36) ?_
  obtain rfl := sj h
  exact zM [G,G,G,G,Y] (hx0 v.2 rfl)
def H1x32 (s : List Int32) (o0 o1 : Ob) (a0_14 a0_15 : List Int32) (a0_36 : Int32) : QHeap := H1v s (fA o0) (fB o0) (fC o0) (fD o0) (fE o0) (fF o0) (fG o0) (fH o0) (fI o0) (fJ o0) (fK o0) (fL o0) (fM o0) (fN o0) a0_14 a0_15 (fU o0) (fV o0) (fW o0) (fX o0) (fY o0) (fZ o0) (fd o0) (ff o0) (fh o0) (fi o0) (fm o0) (fq o0) (fu o0) (fy o0) (fz o0) (fxA o0) (fxB o0) (fxC o0) (fxD o0) (fxE o0) a0_36 (fxG o0) (fxH o0) (fxI o0) (fxJ o0) (fxK o0) (fxL o0) (fxM o0) (fxN o0) (fxO o0) (fxP o0) (fxQ o0) (fA o1) (fB o1) (fC o1) (fD o1) (fE o1) (fF o1) (fG o1) (fH o1) (fI o1) (fJ o1) (fK o1) (fL o1) (fM o1) (fN o1) (fR o1) (fT o1) (fU o1) (fV o1) (fW o1) (fX o1) (fY o1) (fZ o1) (fd o1) (ff o1) (fh o1) (fi o1) (fm o1) (fq o1) (fu o1) (fy o1) (fz o1) (fxA o1) (fxB o1) (fxC o1) (fxD o1) (fxE o1) (fxF o1) (fxG o1) (fxH o1) (fxI o1) (fxJ o1) (fxK o1) (fxL o1) (fxM o1) (fxN o1) (fxO o1) (fxP o1) (fxQ o1)
def H1x33 (s : List Int32) (o0 o1 : Ob) (a0_14 a0_15 : List Int32) (a0_36 a0_38 : Int32) : QHeap := H1v s (fA o0) (fB o0) (fC o0) (fD o0) (fE o0) (fF o0) (fG o0) (fH o0) (fI o0) (fJ o0) (fK o0) (fL o0) (fM o0) (fN o0) a0_14 a0_15 (fU o0) (fV o0) (fW o0) (fX o0) (fY o0) (fZ o0) (fd o0) (ff o0) (fh o0) (fi o0) (fm o0) (fq o0) (fu o0) (fy o0) (fz o0) (fxA o0) (fxB o0) (fxC o0) (fxD o0) (fxE o0) a0_36 (fxG o0) a0_38 (fxI o0) (fxJ o0) (fxK o0) (fxL o0) (fxM o0) (fxN o0) (fxO o0) (fxP o0) (fxQ o0) (fA o1) (fB o1) (fC o1) (fD o1) (fE o1) (fF o1) (fG o1) (fH o1) (fI o1) (fJ o1) (fK o1) (fL o1) (fM o1) (fN o1) (fR o1) (fT o1) (fU o1) (fV o1) (fW o1) (fX o1) (fY o1) (fZ o1) (fd o1) (ff o1) (fh o1) (fi o1) (fm o1) (fq o1) (fu o1) (fy o1) (fz o1) (fxA o1) (fxB o1) (fxC o1) (fxD o1) (fxE o1) (fxF o1) (fxG o1) (fxH o1) (fxI o1) (fxJ o1) (fxK o1) (fxL o1) (fxM o1) (fxN o1) (fxO o1) (fxP o1) (fxQ o1)
def J25_40 (o : Ob) (x1 x2 x3 : Int32) : Option (Int32 × Ob) :=
  (if (fxF o) < (fxD o) then (loopN (B25_59 x1 x2 x3) qN ((fxF o), o)).bind fun e42 => (aset (fR e42) x3 x1).bind fun y44 => (aset (fT e42) x3 ((x2.toInt8.toInt32).toInt8.toInt32)).bind fun y45 => some ((0 : Int32), (sxH (sxF (sT (sR e42 y44) y45) ((fxF e42) + (1 : Int32))) (1 : Int32))) else some ((1 : Int32), o))
theorem tJ25_40 (Ad : QAd n0 ad) (W : QW Z a0) (s : List Int32) (e0 o : Ob) (x1 x2 x3 : Int32) {r : Int32 × Ob} (h : J25_40 o x1 x2 x3 = some r) : QTri l Z n0 ad 25 (40, [vR 1, vI x1, vI x2, vI x3, nN], [], (H1 s o e0)) (some (Value.int r.1)) (H1 s r.2 e0) := by
 unfold J25_40 at h
 refine yS Ad W 4 (48, [vR 1, vI x1, vI x2, vI x3, nN], [.int (fxD o), .int (fxF o)], (H1 s o e0)) rfl ?_
 rcases qite h with ⟨c35, h⟩ | ⟨c35, h⟩
 ·refine yT Ad W 53 51 rfl (XT.ii_lt_t c35) ?_
  refine yS Ad W 3 (59, [vR 1, vI x1, vI x2, vI x3, vI (fxF o)], [], (H1 s o e0)) rfl ?_
  obtain ⟨e42, he42, h⟩ := be h
  refine zM [G,G,G,G,G] (loopN_tri (B := B25_59 x1 x2 x3) (T := fun lv43 => QTri l Z n0 ad 25 (59, [vR 1, vI x1, vI x2, vI x3, vI lv43.1], [], (H1 s lv43.2 e0)) (some (Value.int r.1)) (H1 s r.2 e0)) (KE := fun e42a => QTri l Z n0 ad 25 (103, [vR 1, vI x1, vI x2, vI x3, nN], [], (H1 s e42a e0)) (some (Value.int r.1)) (H1 s r.2 e0)) (fun lv43 r hB hE hC => tB25_59 Ad W s e0 x1 x2 x3 lv43 hB (fun x q => hE _ q) (fun x q => hC x q)) qN ((fxF o), o) e42 he42 ?_)
  refine yS Ad W 4 (109, [vR 1, vI x1, vI x2, vI x3, nN], [.int x1, .int x3, .ref 2], (H1 s e42 e0)) rfl ?_
  obtain ⟨y44, hy44, h⟩ := be h
  refine zB Ad W (f := fun y44 => (110, [vR 1, vI x1, vI x2, vI x3, nN], [], (H1x30 s e42 e0 y44))) rfl hy44 ?_
  refine yS Ad W 5 (117, [vR 1, vI x1, vI x2, vI x3, nN], [.int (x2.toInt8.toInt32), .int x3, .ref 3], (H1x30 s e42 e0 y44)) rfl ?_
  obtain ⟨y45, hy45, h⟩ := be h
  refine zB Ad W (f := fun y45 => (118, [vR 1, vI x1, vI x2, vI x3, nN], [], (H1x31 s e42 e0 y44 y45))) rfl hy45 ?_
  refine yS Ad W 6 (128, [vR 1, vI x1, vI x2, vI x3, nN], [], (H1x32 s e42 e0 y44 y45 ((fxF e42) + (1:Int32)))) rfl ?_
  refine yS Ad W 3 (133, [vR 1, vI x1, vI x2, vI x3, nN], [], (H1x33 s e42 e0 y44 y45 ((fxF e42) + (1:Int32)) (1:Int32))) rfl ?_
  refine yS Ad W 1 (134, [vR 1, vI x1, vI x2, vI x3, nN], [.int 0], (H1x33 s e42 e0 y44 y45 ((fxF e42) + (1:Int32)) (1:Int32))) rfl ?_
  have E46 : ((H1x33 s e42 e0 y44 y45 ((fxF e42) + (1:Int32)) (1:Int32)) : QHeap) = (H1 s (sxH (sxF (sT (sR e42 y44) y45) ((fxF e42) + (1:Int32))) (1:Int32)) e0) := by simp only [fs, H1, H1v, H1x33, sR, sT, sxF, sxH]
  rw [E46]
  obtain rfl := sj h
  exact retI rfl rfl
 ·refine yF Ad W 53 51 rfl (XT.ii_lt_f c35) ?_
  refine yS Ad W 1 (52, [vR 1, vI x1, vI x2, vI x3, nN], [.int 1], (H1 s o e0)) rfl ?_
  obtain rfl := sj h
  exact retI rfl rfl
/-- addCase(II)I -/
def F25 (o : Ob) (x1 x2 : Int32) : Option (Int32 × Ob) :=
 (if x2 < (0:Int32) then some ((3:Int32), o) else (if x2 < (fxE o) then (F17 o x1).bind fun r31 => (if r31 < (fxF o) then (aget (fR o) r31).bind fun y33 => (if y33 = x1 then some ((2:Int32), o) else (J25_40 o x1 x2 r31)) else (J25_40 o x1 x2 r31)) else some ((3:Int32), o)))
theorem tF25 (Ad : QAd n0 ad) (W : QW Z a0) (s : List Int32) (e0 o : Ob) (x1 x2 : Int32) {r : Int32 × Ob} (h : F25 o x1 x2 = some r) : QTri l Z n0 ad 25 (0, qentry [.ref 1, .int x1, .int x2] (pMaxL 25), [], (H1 s o e0)) (some (Value.int r.1)) (H1 s r.2 e0) := by
 unfold F25 at h
 refine yS Ad W 1 (1, [vR 1, vI x1, vI x2, nN, nN], [.int x2], (H1 s o e0)) rfl ?_
 rcases qite h with ⟨c20, h⟩ | ⟨c20, h⟩
 ·refine yT Ad W 12 4 rfl (XT.i0_lt_t c20) ?_
  refine yS Ad W 1 (13, [vR 1, vI x1, vI x2, nN, nN], [.int 3], (H1 s o e0)) rfl ?_
  obtain rfl := sj h
  exact retI rfl rfl
 ·refine yF Ad W 12 4 rfl (XT.i0_lt_f c20) ?_
  refine yS Ad W 3 (9, [vR 1, vI x1, vI x2, nN, nN], [.int (fxE o), .int x2], (H1 s o e0)) rfl ?_
  rcases qite h with ⟨c21, h⟩ | ⟨c21, h⟩
  ·refine yT Ad W 14 12 rfl (XT.ii_lt_t c21) ?_
   refine yS Ad W 2 (16, [vR 1, vI x1, vI x2, nN, nN], [.int x1, .ref 1], (H1 s o e0)) rfl ?_
   obtain ⟨r31, hr31, h⟩ := be h
   refine callP W (a := 1) (as := [.int x1]) (rest := []) (w := (some (.int r31))) (σ₁ := (H1 s o e0)) rfl rfl rfl rfl rfl rfl rfl rfl (tF17 Ad W s e0 o x1 hr31) ?_
   refine yS Ad W 4 (25, [vR 1, vI x1, vI x2, vI r31, nN], [.int (fxF o), .int r31], (H1 s o e0)) rfl ?_
   rcases qite h with ⟨c32, h⟩ | ⟨c32, h⟩
   ·refine yF Ad W 40 28 rfl (XT.ii_ge_f c32) ?_
    refine yS Ad W 3 (33, [vR 1, vI x1, vI x2, vI r31, nN], [.int r31, .ref 2], (H1 s o e0)) rfl ?_
    obtain ⟨y33, hy33, h⟩ := be h
    refine zB Ad W (f := fun y33 => (34, [vR 1, vI x1, vI x2, vI r31, nN], [.int y33], (H1 s o e0))) rfl hy33 ?_
    refine yS Ad W 1 (35, [vR 1, vI x1, vI x2, vI r31, nN], [.int x1, .int y33], (H1 s o e0)) rfl ?_
    rcases qite h with ⟨c34, h⟩ | ⟨c34, h⟩
    ·refine yF Ad W 40 38 rfl (XT.ii_ne_f c34) ?_
     refine yS Ad W 1 (39, [vR 1, vI x1, vI x2, vI r31, nN], [.int 2], (H1 s o e0)) rfl ?_
     obtain rfl := sj h
     exact retI rfl rfl
    ·refine yT Ad W 40 38 rfl (XT.ii_ne_t c34) ?_
     exact zM [G,G,G,G,Y] (tJ25_40 Ad W s e0 o x1 x2 r31 h)
   ·refine yT Ad W 40 28 rfl (XT.ii_ge_t c32) ?_
    exact zM [G,G,G,G,Y] (tJ25_40 Ad W s e0 o x1 x2 r31 h)
  ·refine yF Ad W 14 12 rfl (XT.ii_lt_f c21) ?_
   refine yS Ad W 1 (13, [vR 1, vI x1, vI x2, nN, nN], [.int 3], (H1 s o e0)) rfl ?_
   obtain rfl := sj h
   exact retI rfl rfl
theorem tF25a1 (Ad : QAd n0 ad) (W : QW Z a0) (s : List Int32) (e0 o : Ob) (x1 x2 : Int32) {r : Int32 × Ob} (h : F25 o x1 x2 = some r) : QTri l Z n0 ad 25 (0, qentry [.ref 22, .int x1, .int x2] (pMaxL 25), [], (H1 s e0 o)) (some (Value.int r.1)) (H1 s e0 r.2) := zW (tF25 (zA Ad) W s e0 o x1 x2 h) rfl rfl rfl
/-- caseCount()I -/
def F11 (o : Ob) : Option (Int32) :=
 some (fxF o)
theorem tF11 (Ad : QAd n0 ad) (W : QW Z a0) (s : List Int32) (e0 o : Ob) {r : Int32} (h : F11 o = some r) : QTri l Z n0 ad 11 (0, qentry [.ref 1] (pMaxL 11), [], (H1 s o e0)) (some (Value.int r)) (H1 s o e0) := by
 unfold F11 at h
 refine yS Ad W 2 (4, [vR 1], [.int (fxF o)], (H1 s o e0)) rfl ?_
 obtain rfl := sj h
 exact retI rfl rfl
theorem tF11a1 (Ad : QAd n0 ad) (W : QW Z a0) (s : List Int32) (e0 o : Ob) {r : Int32} (h : F11 o = some r) : QTri l Z n0 ad 11 (0, qentry [.ref 22] (pMaxL 11), [], (H1 s e0 o)) (some (Value.int r)) (H1 s e0 o) := zW (tF11 (zA Ad) W s e0 o h) rfl rfl rfl
/-- caseValueAt(I)I -/
def F12 (o : Ob) (x1 : Int32) : Option (Int32) :=
 (if x1 < (0:Int32) then some (0:Int32) else (if x1 < (fxF o) then (aget (fR o) x1).bind fun y83 => some y83 else some (0:Int32)))
theorem tF12 (Ad : QAd n0 ad) (W : QW Z a0) (s : List Int32) (e0 o : Ob) (x1 : Int32) {r : Int32} (h : F12 o x1 = some r) : QTri l Z n0 ad 12 (0, qentry [.ref 1, .int x1] (pMaxL 12), [], (H1 s o e0)) (some (Value.int r)) (H1 s o e0) := by
 unfold F12 at h
 refine yS Ad W 1 (1, [vR 1, vI x1], [.int x1], (H1 s o e0)) rfl ?_
 rcases qite h with ⟨c81, h⟩ | ⟨c81, h⟩
 ·refine yT Ad W 12 4 rfl (XT.i0_lt_t c81) ?_
  refine yS Ad W 1 (13, [vR 1, vI x1], [.int 0], (H1 s o e0)) rfl ?_
  obtain rfl := sj h
  exact retI rfl rfl
 ·refine yF Ad W 12 4 rfl (XT.i0_lt_f c81) ?_
  refine yS Ad W 3 (9, [vR 1, vI x1], [.int (fxF o), .int x1], (H1 s o e0)) rfl ?_
  rcases qite h with ⟨c82, h⟩ | ⟨c82, h⟩
  ·refine yT Ad W 14 12 rfl (XT.ii_lt_t c82) ?_
   refine yS Ad W 3 (19, [vR 1, vI x1], [.int x1, .ref 2], (H1 s o e0)) rfl ?_
   obtain ⟨y83, hy83, h⟩ := be h
   refine zB Ad W (f := fun y83 => (20, [vR 1, vI x1], [.int y83], (H1 s o e0))) rfl hy83 ?_
   obtain rfl := sj h
   exact retI rfl rfl
  ·refine yF Ad W 14 12 rfl (XT.ii_lt_f c82) ?_
   refine yS Ad W 1 (13, [vR 1, vI x1], [.int 0], (H1 s o e0)) rfl ?_
   obtain rfl := sj h
   exact retI rfl rfl
theorem tF12a1 (Ad : QAd n0 ad) (W : QW Z a0) (s : List Int32) (e0 o : Ob) (x1 : Int32) {r : Int32} (h : F12 o x1 = some r) : QTri l Z n0 ad 12 (0, qentry [.ref 22, .int x1] (pMaxL 12), [], (H1 s e0 o)) (some (Value.int r)) (H1 s e0 o) := zW (tF12 (zA Ad) W s e0 o x1 h) rfl rfl rfl
/-- caseTargetAt(I)I -/
def F13 (o : Ob) (x1 : Int32) : Option (Int32) :=
 (if x1 < (0:Int32) then some (-1:Int32) else (if x1 < (fxF o) then (aget (fT o) x1).bind fun y92 => some y92 else some (-1:Int32)))
theorem tF13 (Ad : QAd n0 ad) (W : QW Z a0) (s : List Int32) (e0 o : Ob) (x1 : Int32) {r : Int32} (h : F13 o x1 = some r) : QTri l Z n0 ad 13 (0, qentry [.ref 1, .int x1] (pMaxL 13), [], (H1 s o e0)) (some (Value.int r)) (H1 s o e0) := by
 unfold F13 at h
 refine yS Ad W 1 (1, [vR 1, vI x1], [.int x1], (H1 s o e0)) rfl ?_
 rcases qite h with ⟨c90, h⟩ | ⟨c90, h⟩
 ·refine yT Ad W 12 4 rfl (XT.i0_lt_t c90) ?_
  refine yS Ad W 1 (13, [vR 1, vI x1], [.int (-1:Int32)], (H1 s o e0)) rfl ?_
  obtain rfl := sj h
  exact retI rfl rfl
 ·refine yF Ad W 12 4 rfl (XT.i0_lt_f c90) ?_
  refine yS Ad W 3 (9, [vR 1, vI x1], [.int (fxF o), .int x1], (H1 s o e0)) rfl ?_
  rcases qite h with ⟨c91, h⟩ | ⟨c91, h⟩
  ·refine yT Ad W 14 12 rfl (XT.ii_lt_t c91) ?_
   refine yS Ad W 3 (19, [vR 1, vI x1], [.int x1, .ref 3], (H1 s o e0)) rfl ?_
   obtain ⟨y92, hy92, h⟩ := be h
   refine zB Ad W (f := fun y92 => (20, [vR 1, vI x1], [.int y92], (H1 s o e0))) rfl hy92 ?_
   obtain rfl := sj h
   exact retI rfl rfl
  ·refine yF Ad W 14 12 rfl (XT.ii_lt_f c91) ?_
   refine yS Ad W 1 (13, [vR 1, vI x1], [.int (-1:Int32)], (H1 s o e0)) rfl ?_
   obtain rfl := sj h
   exact retI rfl rfl
theorem tF13a1 (Ad : QAd n0 ad) (W : QW Z a0) (s : List Int32) (e0 o : Ob) (x1 : Int32) {r : Int32} (h : F13 o x1 = some r) : QTri l Z n0 ad 13 (0, qentry [.ref 22, .int x1] (pMaxL 13), [], (H1 s e0 o)) (some (Value.int r)) (H1 s e0 o) := zW (tF13 (zA Ad) W s e0 o x1 h) rfl rfl rfl
def B10_16 (o1 o2 : Ob) (x2 x3 v : Int32) : Option (((Unit) ⊕ (Int32)) ⊕ (Int32)) :=
  (if v < (8 : Int32) then (F12 o1 v).bind fun r84 => (F12 o2 v).bind fun r88 => (if r84 = r88 then (F13 o1 v).bind fun r93 => (F13 o2 v).bind fun r97 => (if r93 = r97 then some (.inr (v + (1 : Int32))) else some (.inl (Sum.inr (0 : Int32)))) else some (.inl (Sum.inr (0 : Int32)))) else some (.inl (Sum.inl ())))
theorem tB10_16 (Ad : QAd n0 ad) (W : QW Z a0) (s : List Int32) (o1 o2 : Ob) (x2 x3 v : Int32) {r : ((Unit) ⊕ (Int32)) ⊕ (Int32)} {u : Option Value} {τ : QHeap} (h : B10_16 o1 o2 x2 x3 v = some r) (hx0 : ∀ x : Unit, r = .inl (Sum.inl x) → QTri l Z n0 ad 10 (63, [vR 1, vR 22, vI x2, vI x3, nN], [], (H1 s o1 o2)) u τ) (hx1 : ∀ x : Int32, r = .inl (Sum.inr x) → u = (some (Value.int x)) ∧ τ = (H1 s o1 o2)) (hc : ∀ x : Int32, r = .inr x → QTri l Z n0 ad 10 (16, [vR 1, vR 22, vI x2, vI x3, vI x], [], (H1 s o1 o2)) u τ) : QTri l Z n0 ad 10 (16, [vR 1, vR 22, vI x2, vI x3, vI v], [], (H1 s o1 o2)) u τ := by
 unfold B10_16 at h
 refine yS Ad W 2 (20, [vR 1, vR 22, vI x2, vI x3, vI v], [.int 8, .int v], (H1 s o1 o2)) rfl ?_
 rcases qite h with ⟨c80, h⟩ | ⟨c80, h⟩
 ·refine yF Ad W 63 23 rfl (XT.ii_ge_f c80) ?_
  refine yS Ad W 2 (26, [vR 1, vR 22, vI x2, vI x3, vI v], [.int v, .ref 1], (H1 s o1 o2)) rfl ?_
  obtain ⟨r84, hr84, h⟩ := be h
  refine callV W (a := 1) (as := [.int v]) (rest := []) (w := (some (.int r84))) (σ₁ := (H1 s o1 o2)) rfl rfl rfl rfl rfl rfl rfl rfl (tF12 Ad W s o2 o1 v hr84) ?_
  refine yS Ad W 2 (32, [vR 1, vR 22, vI x2, vI x3, vI v], [.int v, .ref 22, .int r84], (H1 s o1 o2)) rfl ?_
  obtain ⟨r88, hr88, h⟩ := be h
  refine callV W (a := 22) (as := [.int v]) (rest := [.int r84]) (w := (some (.int r88))) (σ₁ := (H1 s o1 o2)) rfl rfl rfl rfl rfl rfl rfl rfl (tF12a1 Ad W s o1 o2 v hr88) ?_
  rcases qite h with ⟨c89, h⟩ | ⟨c89, h⟩
  ·refine yT Ad W 40 38 rfl (XT.ii_eq_t c89) ?_
   refine yS Ad W 2 (43, [vR 1, vR 22, vI x2, vI x3, vI v], [.int v, .ref 1], (H1 s o1 o2)) rfl ?_
   obtain ⟨r93, hr93, h⟩ := be h
   refine callV W (a := 1) (as := [.int v]) (rest := []) (w := (some (.int r93))) (σ₁ := (H1 s o1 o2)) rfl rfl rfl rfl rfl rfl rfl rfl (tF13 Ad W s o2 o1 v hr93) ?_
   refine yS Ad W 2 (49, [vR 1, vR 22, vI x2, vI x3, vI v], [.int v, .ref 22, .int r93], (H1 s o1 o2)) rfl ?_
   obtain ⟨r97, hr97, h⟩ := be h
   refine callV W (a := 22) (as := [.int v]) (rest := [.int r93]) (w := (some (.int r97))) (σ₁ := (H1 s o1 o2)) rfl rfl rfl rfl rfl rfl rfl rfl (tF13a1 Ad W s o1 o2 v hr97) ?_
   rcases qite h with ⟨c98, h⟩ | ⟨c98, h⟩
   ·refine yT Ad W 57 55 rfl (XT.ii_eq_t c98) ?_
    refine yS Ad W 2 (16, [vR 1, vR 22, vI x2, vI x3, vI (v + (1:Int32))], [], (H1 s o1 o2)) rfl ?_
    obtain rfl := sj h
    exact zM [G,G,G,G,G] (hc (v + (1:Int32)) rfl)
   ·refine yF Ad W 57 55 rfl (XT.ii_eq_f c98) ?_
    refine yS Ad W 1 (56, [vR 1, vR 22, vI x2, vI x3, vI v], [.int 0], (H1 s o1 o2)) rfl ?_
    obtain rfl := sj h
    obtain ⟨rfl, rfl⟩ := hx1 (0:Int32) rfl
    exact retZ rfl rfl
  ·refine yF Ad W 40 38 rfl (XT.ii_eq_f c89) ?_
   refine yS Ad W 1 (39, [vR 1, vR 22, vI x2, vI x3, vI v], [.int 0], (H1 s o1 o2)) rfl ?_
   obtain rfl := sj h
   obtain ⟨rfl, rfl⟩ := hx1 (0:Int32) rfl
   exact retZ rfl rfl
 ·refine yT Ad W 63 23 rfl (XT.ii_ge_t c80) ?_
  obtain rfl := sj h
  exact zM [G,G,G,G,Y] (hx0 () rfl)
/-- defaultTarget()I -/
def F14 (o : Ob) : Option (Int32) :=
 some (fxG o)
theorem tF14 (Ad : QAd n0 ad) (W : QW Z a0) (s : List Int32) (e0 o : Ob) {r : Int32} (h : F14 o = some r) : QTri l Z n0 ad 14 (0, qentry [.ref 1] (pMaxL 14), [], (H1 s o e0)) (some (Value.int r)) (H1 s o e0) := by
 unfold F14 at h
 refine yS Ad W 2 (4, [vR 1], [.int (fxG o)], (H1 s o e0)) rfl ?_
 obtain rfl := sj h
 exact retI rfl rfl
theorem tF14a1 (Ad : QAd n0 ad) (W : QW Z a0) (s : List Int32) (e0 o : Ob) {r : Int32} (h : F14 o = some r) : QTri l Z n0 ad 14 (0, qentry [.ref 22] (pMaxL 14), [], (H1 s e0 o)) (some (Value.int r)) (H1 s e0 o) := zW (tF14 (zA Ad) W s e0 o h) rfl rfl rfl
/-- curIndexOf(I)I -/
def F16 (o : Ob) (x1 : Int32) : Option (Int32) :=
 (F17 o x1).bind fun r104 => (if r104 < (fxF o) then (aget (fR o) r104).bind fun y106 => (if y106 = x1 then some r104 else some (-1:Int32)) else some (-1:Int32))
theorem tF16 (Ad : QAd n0 ad) (W : QW Z a0) (s : List Int32) (e0 o : Ob) (x1 : Int32) {r : Int32} (h : F16 o x1 = some r) : QTri l Z n0 ad 16 (0, qentry [.ref 1, .int x1] (pMaxL 16), [], (H1 s o e0)) (some (Value.int r)) (H1 s o e0) := by
 unfold F16 at h
 refine yS Ad W 2 (2, [vR 1, vI x1, nN], [.int x1, .ref 1], (H1 s o e0)) rfl ?_
 obtain ⟨r104, hr104, h⟩ := be h
 refine callP W (a := 1) (as := [.int x1]) (rest := []) (w := (some (.int r104))) (σ₁ := (H1 s o e0)) rfl rfl rfl rfl rfl rfl rfl rfl (tF17 Ad W s e0 o x1 hr104) ?_
 refine yS Ad W 4 (11, [vR 1, vI x1, vI r104], [.int (fxF o), .int r104], (H1 s o e0)) rfl ?_
 rcases qite h with ⟨c105, h⟩ | ⟨c105, h⟩
 ·refine yF Ad W 26 14 rfl (XT.ii_ge_f c105) ?_
  refine yS Ad W 3 (19, [vR 1, vI x1, vI r104], [.int r104, .ref 2], (H1 s o e0)) rfl ?_
  obtain ⟨y106, hy106, h⟩ := be h
  refine zB Ad W (f := fun y106 => (20, [vR 1, vI x1, vI r104], [.int y106], (H1 s o e0))) rfl hy106 ?_
  refine yS Ad W 1 (21, [vR 1, vI x1, vI r104], [.int x1, .int y106], (H1 s o e0)) rfl ?_
  rcases qite h with ⟨c107, h⟩ | ⟨c107, h⟩
  ·refine yF Ad W 26 24 rfl (XT.ii_ne_f c107) ?_
   refine yS Ad W 1 (25, [vR 1, vI x1, vI r104], [.int r104], (H1 s o e0)) rfl ?_
   obtain rfl := sj h
   exact retI rfl rfl
  ·refine yT Ad W 26 24 rfl (XT.ii_ne_t c107) ?_
   refine yS Ad W 1 (27, [vR 1, vI x1, vI r104], [.int (-1:Int32)], (H1 s o e0)) rfl ?_
   obtain rfl := sj h
   exact retI rfl rfl
 ·refine yT Ad W 26 14 rfl (XT.ii_ge_t c105) ?_
  refine yS Ad W 1 (27, [vR 1, vI x1, vI r104], [.int (-1:Int32)], (H1 s o e0)) rfl ?_
  obtain rfl := sj h
  exact retI rfl rfl
/-- lookup(I)I -/
def F15 (o : Ob) (x1 : Int32) : Option (Int32) :=
 (F16 o x1).bind fun r108 => (if r108 < (0:Int32) then some (fxG o) else (aget (fT o) r108).bind fun y110 => some y110)
theorem tF15 (Ad : QAd n0 ad) (W : QW Z a0) (s : List Int32) (e0 o : Ob) (x1 : Int32) {r : Int32} (h : F15 o x1 = some r) : QTri l Z n0 ad 15 (0, qentry [.ref 1, .int x1] (pMaxL 15), [], (H1 s o e0)) (some (Value.int r)) (H1 s o e0) := by
 unfold F15 at h
 refine yS Ad W 2 (2, [vR 1, vI x1, nN], [.int x1, .ref 1], (H1 s o e0)) rfl ?_
 obtain ⟨r108, hr108, h⟩ := be h
 refine callP W (a := 1) (as := [.int x1]) (rest := []) (w := (some (.int r108))) (σ₁ := (H1 s o e0)) rfl rfl rfl rfl rfl rfl rfl rfl (tF16 Ad W s e0 o x1 hr108) ?_
 refine yS Ad W 2 (7, [vR 1, vI x1, vI r108], [.int r108], (H1 s o e0)) rfl ?_
 rcases qite h with ⟨c109, h⟩ | ⟨c109, h⟩
 ·refine yF Ad W 15 10 rfl (XT.i0_ge_f c109) ?_
  refine yS Ad W 2 (14, [vR 1, vI x1, vI r108], [.int (fxG o)], (H1 s o e0)) rfl ?_
  obtain rfl := sj h
  exact retI rfl rfl
 ·refine yT Ad W 15 10 rfl (XT.i0_ge_t c109) ?_
  refine yS Ad W 3 (20, [vR 1, vI x1, vI r108], [.int r108, .ref 3], (H1 s o e0)) rfl ?_
  obtain ⟨y110, hy110, h⟩ := be h
  refine zB Ad W (f := fun y110 => (21, [vR 1, vI x1, vI r108], [.int y110], (H1 s o e0))) rfl hy110 ?_
  obtain rfl := sj h
  exact retI rfl rfl
theorem tF15a1 (Ad : QAd n0 ad) (W : QW Z a0) (s : List Int32) (e0 o : Ob) (x1 : Int32) {r : Int32} (h : F15 o x1 = some r) : QTri l Z n0 ad 15 (0, qentry [.ref 22, .int x1] (pMaxL 15), [], (H1 s e0 o)) (some (Value.int r)) (H1 s e0 o) := zW (tF15 (zA Ad) W s e0 o x1 h) rfl rfl rfl
def J19_25 (o : Ob) : Option (((Int32)) ⊕ (Int32 × Int32)) :=
  some (.inl (fxJ o))
theorem tJ19_25 (Ad : QAd n0 ad) (W : QW Z a0) (s : List Int32) (e0 : Ob) (x1 : Int32) (o : Ob) {r : ((Int32)) ⊕ (Int32 × Int32)} {u : Option Value} {τ : QHeap} (h : J19_25 o = some r) (hx0 : ∀ x : Int32, r = .inl x → u = (some (Value.int x)) ∧ τ = (H1 s o e0)) (hc : ∀ x : Int32 × Int32, r = .inr x → QTri l Z n0 ad 19 (7, [vR 1, vI x1, vI x.1, vI x.2, nN, nN], [], (H1 s o e0)) u τ) : QTri l Z n0 ad 19 (25, [vR 1, nN, nN, nN, nN, nN], [], (H1 s o e0)) u τ := by
 unfold J19_25 at h
 refine yS Ad W 2 (29, [vR 1, nN, nN, nN, nN, nN], [.int (fxJ o)], (H1 s o e0)) rfl ?_
 obtain rfl := sj h
 obtain ⟨rfl, rfl⟩ := hx0 (fxJ o) rfl
 exact retI rfl rfl
def J19_103 (o : Ob) (x1 x2 x3 : Int32) : Option (((Int32)) ⊕ (Int32 × Int32)) :=
  some (.inr (x2, (x3 + (1 : Int32))))
theorem tJ19_103 (Ad : QAd n0 ad) (W : QW Z a0) (s : List Int32) (e0 o : Ob) (x1 x2 x3 : Int32) {r : ((Int32)) ⊕ (Int32 × Int32)} {u : Option Value} {τ : QHeap} (h : J19_103 o x1 x2 x3 = some r) (hx0 : ∀ x : Int32, r = .inl x → u = (some (Value.int x)) ∧ τ = (H1 s o e0)) (hc : ∀ x : Int32 × Int32, r = .inr x → QTri l Z n0 ad 19 (7, [vR 1, vI x1, vI x.1, vI x.2, nN, nN], [], (H1 s o e0)) u τ) : QTri l Z n0 ad 19 (103, [vR 1, vI x1, vI x2, vI x3, nN, nN], [], (H1 s o e0)) u τ := by
 unfold J19_103 at h
 refine yS Ad W 2 (7, [vR 1, vI x1, vI x2, vI (x3 + (1:Int32)), nN, nN], [], (H1 s o e0)) rfl ?_
 obtain rfl := sj h
 exact zM [G,G,G,G,Y,Y] (hc (x2, (x3 + (1:Int32))) rfl)
def J19_81 (o : Ob) (x1 x3 w0 : Int32) : Option (((Int32)) ⊕ (Int32 × Int32)) :=
  (J19_103 o x1 w0 x3)
theorem tJ19_81 (Ad : QAd n0 ad) (W : QW Z a0) (s : List Int32) (e0 o : Ob) (x1 x3 w0 : Int32) {r : ((Int32)) ⊕ (Int32 × Int32)} {u : Option Value} {τ : QHeap} (h : J19_81 o x1 x3 w0 = some r) (hx0 : ∀ x : Int32, r = .inl x → u = (some (Value.int x)) ∧ τ = (H1 s o e0)) (hc : ∀ x : Int32 × Int32, r = .inr x → QTri l Z n0 ad 19 (7, [vR 1, vI x1, vI x.1, vI x.2, nN, nN], [], (H1 s o e0)) u τ) : QTri l Z n0 ad 19 (81, [vR 1, vI x1, nN, vI x3, nN, nN], [.int w0], (H1 s o e0)) u τ := by
 unfold J19_81 at h
 refine yS Ad W 2 (103, [vR 1, vI x1, vI w0, vI x3, nN, nN], [], (H1 s o e0)) rfl ?_
 exact zM [G,G,G,G,Y,Y] (tJ19_103 Ad W s e0 o x1 w0 x3 h hx0 hc)
/-- unsignedOffset(II)J -/
def F38 (x1 x2 : Int32) : Option (Int64) :=
 some (((x1 - x2).toInt64) &&& (4294967295 : Int64))
theorem tF38 (Ad : QAd n0 ad) (W : QW Z a0) {a : Nat} {σ : QHeap} (x1 x2 : Int32) {r : Int64} (h : F38 x1 x2 = some r) : QTri l Z n0 ad 38 (0, qentry [.ref a, .int x1, .int x2] (pMaxL 38), [], σ) (some (Value.long r)) σ := by
 unfold F38 at h
 refine yS Ad W 6 (8, [vR a, vI x1, vI x2], [.long (((x1 - x2).toInt64) &&& (4294967295 : Int64))], σ) rfl ?_
 obtain rfl := sj h
 exact retJ rfl rfl
def B37_57 (o : Ob) (x5 x6 : Int32) (x7 v : Int32) : Option (((Int32)) ⊕ (Int32)) :=
  (if v < x7 then (if v < (3 : Int32) then (if (x6 + v) < (0 : Int32) then some (.inl (-1 : Int32)) else (if (x6 + v) < ((fu o).length.toInt32) then (aget (fu o) (x6 + v)).bind fun y151 => (if ((XT.ushrL y151 x5) &&& (1 : Int64)) = (0 : Int64) then some (.inr (v + (1 : Int32))) else (aget (fy o) (x6 + v)).bind fun y153 => some (.inl y153)) else some (.inl (-1 : Int32)))) else some (.inl (-1 : Int32))) else some (.inl (-1 : Int32)))
theorem tB37_57 (Ad : QAd n0 ad) (W : QW Z a0) (s : List Int32) (e0 o : Ob) (x5 x6 : Int32) (x7 v : Int32) {r : ((Int32)) ⊕ (Int32)} {u : Option Value} {τ : QHeap} (h : B37_57 o x5 x6 x7 v = some r) (hx0 : ∀ x : Int32, r = .inl x → u = (some (Value.int x)) ∧ τ = (H1 s o e0)) (hc : ∀ x : Int32, r = .inr x → QTri l Z n0 ad 37 (57, [vR 1, nN, nN, nN, nN, vI x5, vI x6, vI x7, vI x, nN], [], (H1 s o e0)) u τ) : QTri l Z n0 ad 37 (57, [vR 1, nN, nN, nN, nN, vI x5, vI x6, vI x7, vI v, nN], [], (H1 s o e0)) u τ := by
 unfold B37_57 at h
 refine yS Ad W 2 (61, [vR 1, nN, nN, nN, nN, vI x5, vI x6, vI x7, vI v, nN], [.int x7, .int v], (H1 s o e0)) rfl ?_
 rcases qite h with ⟨c147, h⟩ | ⟨c147, h⟩
 ·refine yF Ad W 125 64 rfl (XT.ii_ge_f c147) ?_
  refine yS Ad W 2 (67, [vR 1, nN, nN, nN, nN, vI x5, vI x6, vI x7, vI v, nN], [.int 3, .int v], (H1 s o e0)) rfl ?_
  rcases qite h with ⟨c148, h⟩ | ⟨c148, h⟩
  ·refine yF Ad W 125 70 rfl (XT.ii_ge_f c148) ?_
   refine yS Ad W 5 (79, [vR 1, nN, nN, nN, nN, vI x5, vI x6, vI x7, vI v, vI (x6 + v)], [.int (x6 + v)], (H1 s o e0)) rfl ?_
   rcases qite h with ⟨c149, h⟩ | ⟨c149, h⟩
   ·refine yT Ad W 92 82 rfl (XT.i0_lt_t c149) ?_
    refine yS Ad W 1 (93, [vR 1, nN, nN, nN, nN, vI x5, vI x6, vI x7, vI v, vI (x6 + v)], [.int (-1:Int32)], (H1 s o e0)) rfl ?_
    obtain rfl := sj h
    obtain ⟨rfl, rfl⟩ := hx0 (-1:Int32) rfl
    exact retI rfl rfl
   ·refine yF Ad W 92 82 rfl (XT.i0_lt_f c149) ?_
    refine yS Ad W 4 (89, [vR 1, nN, nN, nN, nN, vI x5, vI x6, vI x7, vI v, vI (x6 + v)], [.int ((fu o).length.toInt32), .int (x6 + v)], (H1 s o e0)) rfl ?_
    rcases qite h with ⟨c150, h⟩ | ⟨c150, h⟩
    ·refine yT Ad W 94 92 rfl (XT.ii_lt_t c150) ?_
     refine yS Ad W 3 (100, [vR 1, nN, nN, nN, nN, vI x5, vI x6, vI x7, vI v, vI (x6 + v)], [.int (x6 + v), .ref 16], (H1 s o e0)) rfl ?_
     obtain ⟨y151, hy151, h⟩ := be h
     refine zB Ad W (f := fun y151 => (101, [vR 1, nN, nN, nN, nN, vI x5, vI x6, vI x7, vI v, vI (x6 + v)], [.long y151], (H1 s o e0))) rfl hy151 ?_
     refine yS Ad W 6 (108, [vR 1, nN, nN, nN, nN, vI x5, vI x6, vI x7, vI v, vI (x6 + v)], [.int (XT.cmpL ((XT.ushrL y151 x5) &&& (1 : Int64)) (0 : Int64))], (H1 s o e0)) rfl ?_
     rcases qite h with ⟨c152, h⟩ | ⟨c152, h⟩
     ·refine yT Ad W 119 111 rfl (XT.ll_eq_t c152) ?_
      refine yS Ad W 2 (57, [vR 1, nN, nN, nN, nN, vI x5, vI x6, vI x7, vI (v + (1:Int32)), vI (x6 + v)], [], (H1 s o e0)) rfl ?_
      obtain rfl := sj h
      exact zM [G,Y,Y,Y,Y,G,G,G,G,Y] (hc (v + (1:Int32)) rfl)
     ·refine yF Ad W 119 111 rfl (XT.ll_eq_f c152) ?_
      refine yS Ad W 3 (117, [vR 1, nN, nN, nN, nN, vI x5, vI x6, vI x7, vI v, vI (x6 + v)], [.int (x6 + v), .ref 17], (H1 s o e0)) rfl ?_
      obtain ⟨y153, hy153, h⟩ := be h
      refine zB Ad W (f := fun y153 => (118, [vR 1, nN, nN, nN, nN, vI x5, vI x6, vI x7, vI v, vI (x6 + v)], [.int y153], (H1 s o e0))) rfl hy153 ?_
      obtain rfl := sj h
      obtain ⟨rfl, rfl⟩ := hx0 y153 rfl
      exact retI rfl rfl
    ·refine yF Ad W 94 92 rfl (XT.ii_lt_f c150) ?_
     refine yS Ad W 1 (93, [vR 1, nN, nN, nN, nN, vI x5, vI x6, vI x7, vI v, vI (x6 + v)], [.int (-1:Int32)], (H1 s o e0)) rfl ?_
     obtain rfl := sj h
     obtain ⟨rfl, rfl⟩ := hx0 (-1:Int32) rfl
     exact retI rfl rfl
  ·refine yT Ad W 125 70 rfl (XT.ii_ge_t c148) ?_
   refine yS Ad W 1 (126, [vR 1, nN, nN, nN, nN, vI x5, vI x6, vI x7, vI v, nN], [.int (-1:Int32)], (H1 s o e0)) rfl ?_
   obtain rfl := sj h
   obtain ⟨rfl, rfl⟩ := hx0 (-1:Int32) rfl
   exact retI rfl rfl
 ·refine yT Ad W 125 64 rfl (XT.ii_ge_t c147) ?_
  refine yS Ad W 1 (126, [vR 1, nN, nN, nN, nN, vI x5, vI x6, vI x7, vI v, nN], [.int (-1:Int32)], (H1 s o e0)) rfl ?_
  obtain rfl := sj h
  obtain ⟨rfl, rfl⟩ := hx0 (-1:Int32) rfl
  exact retI rfl rfl
/-- runBits(II)I -/
def F37 (o : Ob) (x1 x2 : Int32) : Option (Int32) :=
 (aget (ff o) x1).bind fun y140 => (F38 x2 y140).bind fun r141 => (aget (fm o) x1).bind fun y142 => (if r141 < (y142.toInt64) then (if r141 < (64 : Int64) then (aget (fh o) x1).bind fun y145 => (aget (fi o) x1).bind fun y146 => (loopN (B37_57 o (r141.toInt32) y145 y146) qN (0:Int32)).bind fun e154 => some e154 else some (-1:Int32)) else some (-1:Int32))
theorem tF37 (Ad : QAd n0 ad) (W : QW Z a0) (s : List Int32) (e0 o : Ob) (x1 x2 : Int32) {r : Int32} (h : F37 o x1 x2 = some r) : QTri l Z n0 ad 37 (0, qentry [.ref 1, .int x1, .int x2] (pMaxL 37), [], (H1 s o e0)) (some (Value.int r)) (H1 s o e0) := by
 unfold F37 at h
 refine yS Ad W 5 (7, [vR 1, vI x1, vI x2, nN, nN, nN, nN, nN, nN, nN], [.int x1, .ref 11, .int x2, .ref 1], (H1 s o e0)) rfl ?_
 obtain ⟨y140, hy140, h⟩ := be h
 refine zB Ad W (f := fun y140 => (8, [vR 1, vI x1, vI x2, nN, nN, nN, nN, nN, nN, nN], [.int y140, .int x2, .ref 1], (H1 s o e0))) rfl hy140 ?_
 obtain ⟨r141, hr141, h⟩ := be h
 refine callP W (a := 1) (as := [.int x2, .int y140]) (rest := []) (w := (some (.long r141))) (σ₁ := (H1 s o e0)) rfl rfl rfl rfl rfl rfl rfl rfl (tF38 Ad W x2 y140 hr141) ?_
 refine yS Ad W 5 (18, [vR 1, vI x1, vI x2, vL r141, nN, nN, nN, nN, nN, nN], [.int x1, .ref 14, .long r141], (H1 s o e0)) rfl ?_
 obtain ⟨y142, hy142, h⟩ := be h
 refine zB Ad W (f := fun y142 => (19, [vR 1, vI x1, vI x2, vL r141, nN, nN, nN, nN, nN, nN], [.int y142, .long r141], (H1 s o e0))) rfl hy142 ?_
 refine yS Ad W 2 (21, [vR 1, vI x1, vI x2, vL r141, nN, nN, nN, nN, nN, nN], [.int (XT.cmpL r141 (y142.toInt64))], (H1 s o e0)) rfl ?_
 rcases qite h with ⟨c143, h⟩ | ⟨c143, h⟩
 ·refine yF Ad W 32 24 rfl (XT.ll_ge_f c143) ?_
  refine yS Ad W 3 (29, [vR 1, vI x1, vI x2, vL r141, nN, nN, nN, nN, nN, nN], [.int (XT.cmpL r141 (64 : Int64))], (H1 s o e0)) rfl ?_
  rcases qite h with ⟨c144, h⟩ | ⟨c144, h⟩
  ·refine yT Ad W 34 32 rfl (XT.ll_lt_t c144) ?_
   refine yS Ad W 6 (43, [vR 1, vI x1, vI x2, vL r141, nN, vI (r141.toInt32), nN, nN, nN, nN], [.int x1, .ref 12], (H1 s o e0)) rfl ?_
   obtain ⟨y145, hy145, h⟩ := be h
   refine zB Ad W (f := fun y145 => (44, [vR 1, vI x1, vI x2, vL r141, nN, vI (r141.toInt32), nN, nN, nN, nN], [.int y145], (H1 s o e0))) rfl hy145 ?_
   refine yS Ad W 4 (51, [vR 1, vI x1, vI x2, vL r141, nN, vI (r141.toInt32), vI y145, nN, nN, nN], [.int x1, .ref 13], (H1 s o e0)) rfl ?_
   obtain ⟨y146, hy146, h⟩ := be h
   refine zB Ad W (f := fun y146 => (52, [vR 1, vI x1, vI x2, vL r141, nN, vI (r141.toInt32), vI y145, nN, nN, nN], [.int y146], (H1 s o e0))) rfl hy146 ?_
   refine yS Ad W 3 (57, [vR 1, vI x1, vI x2, vL r141, nN, vI (r141.toInt32), vI y145, vI y146, vI 0, nN], [], (H1 s o e0)) rfl ?_
   obtain ⟨e154, he154, h⟩ := be h
   refine zM [G,Y,Y,Y,Y,G,G,G,G,Y] (loopN_tri (B := B37_57 o (r141.toInt32) y145 y146) (T := fun lv155 => QTri l Z n0 ad 37 (57, [vR 1, nN, nN, nN, nN, vI (r141.toInt32), vI y145, vI y146, vI lv155, nN], [], (H1 s o e0)) (some (Value.int r)) (H1 s o e0)) (KE := fun e154a => (some (Value.int r)) = (some (Value.int e154a)) ∧ (H1 s o e0) = (H1 s o e0)) (fun lv155 r hB hE hC => tB37_57 Ad W s e0 o (r141.toInt32) y145 y146 lv155 hB (fun x q => hE _ q) (fun x q => hC x q)) qN (0:Int32) e154 he154 ?_)
   obtain rfl := sj h
   exact ⟨rfl, rfl⟩
  ·refine yF Ad W 34 32 rfl (XT.ll_lt_f c144) ?_
   refine yS Ad W 1 (33, [vR 1, vI x1, vI x2, vL r141, nN, nN, nN, nN, nN, nN], [.int (-1:Int32)], (H1 s o e0)) rfl ?_
   obtain rfl := sj h
   exact retI rfl rfl
 ·refine yT Ad W 32 24 rfl (XT.ll_ge_t c143) ?_
  refine yS Ad W 1 (33, [vR 1, vI x1, vI x2, vL r141, nN, nN, nN, nN, nN, nN], [.int (-1:Int32)], (H1 s o e0)) rfl ?_
  obtain rfl := sj h
  exact retI rfl rfl
/-- runLeaf(II)I -/
def F36 (o : Ob) (x1 x2 : Int32) : Option (Int32) :=
 (aget (fd o) x1).bind fun y133 => (if y133 = (2:Int32) then (aget (ff o) x1).bind fun y135 => (if x2 = y135 then (aget (fh o) x1).bind fun y137 => some y137 else some (-1:Int32)) else (if y133 = (3:Int32) then none else (if y133 = (4:Int32) then (F37 o x1 x2).bind fun r156 => some r156 else some (-1:Int32))))
theorem tF36 (Ad : QAd n0 ad) (W : QW Z a0) (s : List Int32) (e0 o : Ob) (x1 x2 : Int32) {r : Int32} (h : F36 o x1 x2 = some r) : QTri l Z n0 ad 36 (0, qentry [.ref 1, .int x1, .int x2] (pMaxL 36), [], (H1 s o e0)) (some (Value.int r)) (H1 s o e0) := by
 unfold F36 at h
 refine yS Ad W 3 (5, [vR 1, vI x1, vI x2, nN], [.int x1, .ref 10], (H1 s o e0)) rfl ?_
 obtain ⟨y133, hy133, h⟩ := be h
 refine zB Ad W (f := fun y133 => (6, [vR 1, vI x1, vI x2, nN], [.int y133], (H1 s o e0))) rfl hy133 ?_
 refine yS Ad W 3 (9, [vR 1, vI x1, vI x2, vI y133], [.int 2, .int y133], (H1 s o e0)) rfl ?_
 rcases qite h with ⟨c134, h⟩ | ⟨c134, h⟩
 ·refine yF Ad W 31 12 rfl (XT.ii_ne_f c134) ?_
  refine yS Ad W 4 (18, [vR 1, vI x1, vI x2, vI y133], [.int x1, .ref 11, .int x2], (H1 s o e0)) rfl ?_
  obtain ⟨y135, hy135, h⟩ := be h
  refine zB Ad W (f := fun y135 => (19, [vR 1, vI x1, vI x2, vI y133], [.int y135, .int x2], (H1 s o e0))) rfl hy135 ?_
  rcases qite h with ⟨c136, h⟩ | ⟨c136, h⟩
  ·refine yF Ad W 29 22 rfl (XT.ii_ne_f c136) ?_
   refine yS Ad W 3 (27, [vR 1, vI x1, vI x2, vI y133], [.int x1, .ref 12], (H1 s o e0)) rfl ?_
   obtain ⟨y137, hy137, h⟩ := be h
   refine zB Ad W (f := fun y137 => (28, [vR 1, vI x1, vI x2, vI y133], [.int y137], (H1 s o e0))) rfl hy137 ?_
   obtain rfl := sj h
   exact retI rfl rfl
  ·refine yT Ad W 29 22 rfl (XT.ii_ne_t c136) ?_
   refine yS Ad W 1 (30, [vR 1, vI x1, vI x2, vI y133], [.int (-1:Int32)], (H1 s o e0)) rfl ?_
   obtain rfl := sj h
   exact retI rfl rfl
 ·refine yT Ad W 31 12 rfl (XT.ii_ne_t c134) ?_
  refine yS Ad W 2 (33, [vR 1, vI x1, vI x2, vI y133], [.int 3, .int y133], (H1 s o e0)) rfl ?_
  rcases qite h with ⟨c138, h⟩ | ⟨c138, h⟩
  ·refine yF Ad W 43 36 rfl (XT.ii_ne_f c138) ?_
   cases h
  ·refine yT Ad W 43 36 rfl (XT.ii_ne_t c138) ?_
   refine yS Ad W 2 (45, [vR 1, vI x1, vI x2, vI y133], [.int 4, .int y133], (H1 s o e0)) rfl ?_
   rcases qite h with ⟨c139, h⟩ | ⟨c139, h⟩
   ·refine yF Ad W 55 48 rfl (XT.ii_ne_f c139) ?_
    refine yS Ad W 3 (51, [vR 1, vI x1, vI x2, vI y133], [.int x2, .int x1, .ref 1], (H1 s o e0)) rfl ?_
    obtain ⟨r156, hr156, h⟩ := be h
    refine callP W (a := 1) (as := [.int x1, .int x2]) (rest := []) (w := (some (.int r156))) (σ₁ := (H1 s o e0)) rfl rfl rfl rfl rfl rfl rfl rfl (tF37 Ad W s e0 o x1 x2 hr156) ?_
    obtain rfl := sj h
    exact retI rfl rfl
   ·refine yT Ad W 55 48 rfl (XT.ii_ne_t c139) ?_
    refine yS Ad W 1 (56, [vR 1, vI x1, vI x2, vI y133], [.int (-1:Int32)], (H1 s o e0)) rfl ?_
    obtain rfl := sj h
    exact retI rfl rfl
def B19_7 (o : Ob) (x1 : Int32) (v : Int32 × Int32) : Option (((Int32)) ⊕ (Int32 × Int32)) :=
  (if v.2 < (64 : Int32) then (if v.1 < (0 : Int32) then (J19_25 o) else (if v.1 < (fxM o) then (aget (fd o) v.1).bind fun y125 => (if y125 = (0 : Int32) then (aget (ff o) v.1).bind fun y127 => some (.inl y127) else (if y125 = (1 : Int32) then (aget (ff o) v.1).bind fun y129 => (if x1 < y129 then (aget (fh o) v.1).bind fun y131 => (J19_81 o x1 v.2 y131) else (aget (fi o) v.1).bind fun y132 => (J19_81 o x1 v.2 y132)) else (F36 o v.1 x1).bind fun r157 => (if r157 < (0 : Int32) then (J19_103 o x1 (0 : Int32) v.2) else some (.inl r157)))) else (J19_25 o))) else some (.inl (fxJ o)))
theorem tB19_7 (Ad : QAd n0 ad) (W : QW Z a0) (s : List Int32) (e0 o : Ob) (x1 : Int32) (v : Int32 × Int32) {r : ((Int32)) ⊕ (Int32 × Int32)} {u : Option Value} {τ : QHeap} (h : B19_7 o x1 v = some r) (hx0 : ∀ x : Int32, r = .inl x → u = (some (Value.int x)) ∧ τ = (H1 s o e0)) (hc : ∀ x : Int32 × Int32, r = .inr x → QTri l Z n0 ad 19 (7, [vR 1, vI x1, vI x.1, vI x.2, nN, nN], [], (H1 s o e0)) u τ) : QTri l Z n0 ad 19 (7, [vR 1, vI x1, vI v.1, vI v.2, nN, nN], [], (H1 s o e0)) u τ := by
 unfold B19_7 at h
 refine yS Ad W 2 (10, [vR 1, vI x1, vI v.1, vI v.2, nN, nN], [.int 64, .int v.2], (H1 s o e0)) rfl ?_
 rcases qite h with ⟨c122, h⟩ | ⟨c122, h⟩
 ·refine yF Ad W 109 13 rfl (XT.ii_ge_f c122) ?_
  refine yS Ad W 1 (14, [vR 1, vI x1, vI v.1, vI v.2, nN, nN], [.int v.1], (H1 s o e0)) rfl ?_
  rcases qite h with ⟨c123, h⟩ | ⟨c123, h⟩
  ·refine yT Ad W 25 17 rfl (XT.i0_lt_t c123) ?_
   exact zM [G,Y,Y,Y,Y,Y] (tJ19_25 Ad W s e0 x1 o h hx0 hc)
  ·refine yF Ad W 25 17 rfl (XT.i0_lt_f c123) ?_
   refine yS Ad W 3 (22, [vR 1, vI x1, vI v.1, vI v.2, nN, nN], [.int (fxM o), .int v.1], (H1 s o e0)) rfl ?_
   rcases qite h with ⟨c124, h⟩ | ⟨c124, h⟩
   ·refine yT Ad W 30 25 rfl (XT.ii_lt_t c124) ?_
    refine yS Ad W 3 (35, [vR 1, vI x1, vI v.1, vI v.2, nN, nN], [.int v.1, .ref 10], (H1 s o e0)) rfl ?_
    obtain ⟨y125, hy125, h⟩ := be h
    refine zB Ad W (f := fun y125 => (36, [vR 1, vI x1, vI v.1, vI v.2, nN, nN], [.int y125], (H1 s o e0))) rfl hy125 ?_
    refine yS Ad W 2 (40, [vR 1, vI x1, vI v.1, vI v.2, vI y125, nN], [.int y125], (H1 s o e0)) rfl ?_
    rcases qite h with ⟨c126, h⟩ | ⟨c126, h⟩
    ·refine yF Ad W 50 43 rfl (XT.i0_ne_f c126) ?_
     refine yS Ad W 3 (48, [vR 1, vI x1, vI v.1, vI v.2, vI y125, nN], [.int v.1, .ref 11], (H1 s o e0)) rfl ?_
     obtain ⟨y127, hy127, h⟩ := be h
     refine zB Ad W (f := fun y127 => (49, [vR 1, vI x1, vI v.1, vI v.2, vI y125, nN], [.int y127], (H1 s o e0))) rfl hy127 ?_
     obtain rfl := sj h
     obtain ⟨rfl, rfl⟩ := hx0 y127 rfl
     exact retI rfl rfl
    ·refine yT Ad W 50 43 rfl (XT.i0_ne_t c126) ?_
     refine yS Ad W 2 (53, [vR 1, vI x1, vI v.1, vI v.2, vI y125, nN], [.int 1, .int y125], (H1 s o e0)) rfl ?_
     rcases qite h with ⟨c128, h⟩ | ⟨c128, h⟩
     ·refine yF Ad W 85 56 rfl (XT.ii_ne_f c128) ?_
      refine yS Ad W 4 (62, [vR 1, vI x1, vI v.1, vI v.2, vI y125, nN], [.int v.1, .ref 11, .int x1], (H1 s o e0)) rfl ?_
      obtain ⟨y129, hy129, h⟩ := be h
      refine zB Ad W (f := fun y129 => (63, [vR 1, vI x1, vI v.1, vI v.2, vI y125, nN], [.int y129, .int x1], (H1 s o e0))) rfl hy129 ?_
      rcases qite h with ⟨c130, h⟩ | ⟨c130, h⟩
      ·refine yF Ad W 75 66 rfl (XT.ii_ge_f c130) ?_
       refine yS Ad W 3 (71, [vR 1, vI x1, vI v.1, vI v.2, vI y125, nN], [.int v.1, .ref 12], (H1 s o e0)) rfl ?_
       obtain ⟨y131, hy131, h⟩ := be h
       refine zB Ad W (f := fun y131 => (72, [vR 1, vI x1, vI v.1, vI v.2, vI y125, nN], [.int y131], (H1 s o e0))) rfl hy131 ?_
       refine yS Ad W 1 (81, [vR 1, vI x1, vI v.1, vI v.2, vI y125, nN], [.int y131], (H1 s o e0)) rfl ?_
       exact zM [G,G,Y,G,Y,Y] (tJ19_81 Ad W s e0 o x1 v.2 y131 h hx0 hc)
      ·refine yT Ad W 75 66 rfl (XT.ii_ge_t c130) ?_
       refine yS Ad W 3 (80, [vR 1, vI x1, vI v.1, vI v.2, vI y125, nN], [.int v.1, .ref 13], (H1 s o e0)) rfl ?_
       obtain ⟨y132, hy132, h⟩ := be h
       refine zB Ad W (f := fun y132 => (81, [vR 1, vI x1, vI v.1, vI v.2, vI y125, nN], [.int y132], (H1 s o e0))) rfl hy132 ?_
       exact zM [G,G,Y,G,Y,Y] (tJ19_81 Ad W s e0 o x1 v.2 y132 h hx0 hc)
     ·refine yT Ad W 85 56 rfl (XT.ii_ne_t c128) ?_
      refine yS Ad W 3 (88, [vR 1, vI x1, vI v.1, vI v.2, vI y125, nN], [.int x1, .int v.1, .ref 1], (H1 s o e0)) rfl ?_
      obtain ⟨r157, hr157, h⟩ := be h
      refine callP W (a := 1) (as := [.int v.1, .int x1]) (rest := []) (w := (some (.int r157))) (σ₁ := (H1 s o e0)) rfl rfl rfl rfl rfl rfl rfl rfl (tF36 Ad W s e0 o v.1 x1 hr157) ?_
      refine yS Ad W 2 (95, [vR 1, vI x1, vI v.1, vI v.2, vI y125, vI r157], [.int r157], (H1 s o e0)) rfl ?_
      rcases qite h with ⟨c158, h⟩ | ⟨c158, h⟩
      ·refine yT Ad W 101 98 rfl (XT.i0_lt_t c158) ?_
       refine yS Ad W 2 (103, [vR 1, vI x1, vI 0, vI v.2, vI y125, vI r157], [], (H1 s o e0)) rfl ?_
       exact zM [G,G,G,G,Y,Y] (tJ19_103 Ad W s e0 o x1 (0:Int32) v.2 h hx0 hc)
      ·refine yF Ad W 101 98 rfl (XT.i0_lt_f c158) ?_
       refine yS Ad W 1 (100, [vR 1, vI x1, vI v.1, vI v.2, vI y125, vI r157], [.int r157], (H1 s o e0)) rfl ?_
       obtain rfl := sj h
       obtain ⟨rfl, rfl⟩ := hx0 r157 rfl
       exact retI rfl rfl
   ·refine yF Ad W 30 25 rfl (XT.ii_lt_f c124) ?_
    exact zM [G,Y,Y,Y,Y,Y] (tJ19_25 Ad W s e0 x1 o h hx0 hc)
 ·refine yT Ad W 109 13 rfl (XT.ii_ge_t c122) ?_
  refine yS Ad W 2 (113, [vR 1, vI x1, vI v.1, vI v.2, nN, nN], [.int (fxJ o)], (H1 s o e0)) rfl ?_
  obtain rfl := sj h
  obtain ⟨rfl, rfl⟩ := hx0 (fxJ o) rfl
  exact retI rfl rfl
/-- run(I)I -/
def F19 (o : Ob) (x1 : Int32) : Option (Int32) :=
 (loopN (B19_7 o x1) qN ((fxN o), (0:Int32))).bind fun e159 => some e159
theorem tF19 (Ad : QAd n0 ad) (W : QW Z a0) (s : List Int32) (e0 o : Ob) (x1 : Int32) {r : Int32} (h : F19 o x1 = some r) : QTri l Z n0 ad 19 (0, qentry [.ref 1, .int x1] (pMaxL 19), [], (H1 s o e0)) (some (Value.int r)) (H1 s o e0) := by
 unfold F19 at h
 refine yS Ad W 5 (7, [vR 1, vI x1, vI (fxN o), vI 0, nN, nN], [], (H1 s o e0)) rfl ?_
 obtain ⟨e159, he159, h⟩ := be h
 refine zM [G,G,G,G,Y,Y] (loopN_tri (B := B19_7 o x1) (T := fun lv160 => QTri l Z n0 ad 19 (7, [vR 1, vI x1, vI lv160.1, vI lv160.2, nN, nN], [], (H1 s o e0)) (some (Value.int r)) (H1 s o e0)) (KE := fun e159a => (some (Value.int r)) = (some (Value.int e159a)) ∧ (H1 s o e0) = (H1 s o e0)) (fun lv160 r hB hE hC => tB19_7 Ad W s e0 o x1 lv160 hB (fun x q => hE _ q) (fun x q => hC x q)) qN ((fxN o), (0:Int32)) e159 he159 ?_)
 obtain rfl := sj h
 exact ⟨rfl, rfl⟩
/-- route(I)I -/
def F18 (o : Ob) (x1 : Int32) : Option (Int32) :=
 (if (fxK o) = (0:Int32) then some (-1:Int32) else (F19 o x1).bind fun r161 => some r161)
theorem tF18 (Ad : QAd n0 ad) (W : QW Z a0) (s : List Int32) (e0 o : Ob) (x1 : Int32) {r : Int32} (h : F18 o x1 = some r) : QTri l Z n0 ad 18 (0, qentry [.ref 1, .int x1] (pMaxL 18), [], (H1 s o e0)) (some (Value.int r)) (H1 s o e0) := by
 unfold F18 at h
 refine yS Ad W 2 (4, [vR 1, vI x1], [.int (fxK o)], (H1 s o e0)) rfl ?_
 rcases qite h with ⟨c121, h⟩ | ⟨c121, h⟩
 ·refine yF Ad W 9 7 rfl (XT.i0_ne_f c121) ?_
  refine yS Ad W 1 (8, [vR 1, vI x1], [.int (-1:Int32)], (H1 s o e0)) rfl ?_
  obtain rfl := sj h
  exact retI rfl rfl
 ·refine yT Ad W 9 7 rfl (XT.i0_ne_t c121) ?_
  refine yS Ad W 2 (11, [vR 1, vI x1], [.int x1, .ref 1], (H1 s o e0)) rfl ?_
  obtain ⟨r161, hr161, h⟩ := be h
  refine callP W (a := 1) (as := [.int x1]) (rest := []) (w := (some (.int r161))) (σ₁ := (H1 s o e0)) rfl rfl rfl rfl rfl rfl rfl rfl (tF19 Ad W s e0 o x1 hr161) ?_
  obtain rfl := sj h
  exact retI rfl rfl
theorem tF18a1 (Ad : QAd n0 ad) (W : QW Z a0) (s : List Int32) (e0 o : Ob) (x1 : Int32) {r : Int32} (h : F18 o x1 = some r) : QTri l Z n0 ad 18 (0, qentry [.ref 22, .int x1] (pMaxL 18), [], (H1 s e0 o)) (some (Value.int r)) (H1 s e0 o) := zW (tF18 (zA Ad) W s e0 o x1 h) rfl rfl rfl
def J20_19 (o : Ob) : Option (Int64) :=
  some (4294967296 : Int64)
theorem tJ20_19 (Ad : QAd n0 ad) (W : QW Z a0) (s : List Int32) (e0 o : Ob) {r : Int64} (h : J20_19 o = some r) : QTri l Z n0 ad 20 (19, [nN, nN, nN], [], (H1 s o e0)) (some (Value.long r)) (H1 s o e0) := by
 unfold J20_19 at h
 refine yS Ad W 1 (22, [nN, nN, nN], [.long (4294967296 : Int64)], (H1 s o e0)) rfl ?_
 obtain rfl := sj h
 exact retJ rfl rfl
def B26_4 (o : Ob) (v : Int32 × Int32) : Option (((Int64)) ⊕ (Int32 × Int32)) :=
  (if (65 : Int32) < v.2 then some (.inl (4294967296 : Int64)) else (F19 o v.1).bind fun r211 => (if r211 = (fxJ o) then some (.inl (v.1.toInt64)) else (if v.1 = (2147483647 : Int32) then some (.inl (4294967296 : Int64)) else some (.inr ((v.1 + (1 : Int32)), (v.2 + (1 : Int32)))))))
theorem tB26_4 (Ad : QAd n0 ad) (W : QW Z a0) (s : List Int32) (e0 o : Ob) (v : Int32 × Int32) {r : ((Int64)) ⊕ (Int32 × Int32)} {u : Option Value} {τ : QHeap} (h : B26_4 o v = some r) (hx0 : ∀ x : Int64, r = .inl x → u = (some (Value.long x)) ∧ τ = (H1 s o e0)) (hc : ∀ x : Int32 × Int32, r = .inr x → QTri l Z n0 ad 26 (4, [vR 1, nN, vI x.1, vI x.2], [], (H1 s o e0)) u τ) : QTri l Z n0 ad 26 (4, [vR 1, nN, vI v.1, vI v.2], [], (H1 s o e0)) u τ := by
 unfold B26_4 at h
 refine yS Ad W 2 (7, [vR 1, nN, vI v.1, vI v.2], [.int 65, .int v.2], (H1 s o e0)) rfl ?_
 rcases qite h with ⟨c210, h⟩ | ⟨c210, h⟩
 ·refine yT Ad W 44 10 rfl (XT.ii_gt_t c210) ?_
  refine yS Ad W 1 (47, [vR 1, nN, vI v.1, vI v.2], [.long (4294967296 : Int64)], (H1 s o e0)) rfl ?_
  obtain rfl := sj h
  obtain ⟨rfl, rfl⟩ := hx0 (4294967296 : Int64) rfl
  exact retJ rfl rfl
 ·refine yF Ad W 44 10 rfl (XT.ii_gt_f c210) ?_
  refine yS Ad W 2 (12, [vR 1, nN, vI v.1, vI v.2], [.int v.1, .ref 1], (H1 s o e0)) rfl ?_
  obtain ⟨r211, hr211, h⟩ := be h
  refine callP W (a := 1) (as := [.int v.1]) (rest := []) (w := (some (.int r211))) (σ₁ := (H1 s o e0)) rfl rfl rfl rfl rfl rfl rfl rfl (tF19 Ad W s e0 o v.1 hr211) ?_
  refine yS Ad W 2 (19, [vR 1, nN, vI v.1, vI v.2], [.int (fxJ o), .int r211], (H1 s o e0)) rfl ?_
  rcases qite h with ⟨c212, h⟩ | ⟨c212, h⟩
  ·refine yF Ad W 25 22 rfl (XT.ii_ne_f c212) ?_
   refine yS Ad W 2 (24, [vR 1, nN, vI v.1, vI v.2], [.long (v.1.toInt64)], (H1 s o e0)) rfl ?_
   obtain rfl := sj h
   obtain ⟨rfl, rfl⟩ := hx0 (v.1.toInt64) rfl
   exact retJ rfl rfl
  ·refine yT Ad W 25 22 rfl (XT.ii_ne_t c212) ?_
   refine yS Ad W 2 (28, [vR 1, nN, vI v.1, vI v.2], [.int 2147483647, .int v.1], (H1 s o e0)) rfl ?_
   rcases qite h with ⟨c213, h⟩ | ⟨c213, h⟩
   ·refine yF Ad W 35 31 rfl (XT.ii_ne_f c213) ?_
    refine yS Ad W 1 (34, [vR 1, nN, vI v.1, vI v.2], [.long (4294967296 : Int64)], (H1 s o e0)) rfl ?_
    obtain rfl := sj h
    obtain ⟨rfl, rfl⟩ := hx0 (4294967296 : Int64) rfl
    exact retJ rfl rfl
   ·refine yT Ad W 35 31 rfl (XT.ii_ne_t c213) ?_
    refine yS Ad W 3 (4, [vR 1, nN, vI (v.1 + (1:Int32)), vI (v.2 + (1:Int32))], [], (H1 s o e0)) rfl ?_
    obtain rfl := sj h
    exact zM [G,Y,G,G] (hc ((v.1 + (1:Int32)), (v.2 + (1:Int32))) rfl)
/-- nextDefaultRouted(I)J -/
def F26 (o : Ob) (x1 : Int32) : Option (Int64) :=
 (loopN (B26_4 o) qN (x1, (0:Int32))).bind fun e214 => some e214
theorem tF26 (Ad : QAd n0 ad) (W : QW Z a0) (s : List Int32) (e0 o : Ob) (x1 : Int32) {r : Int64} (h : F26 o x1 = some r) : QTri l Z n0 ad 26 (0, qentry [.ref 1, .int x1] (pMaxL 26), [], (H1 s o e0)) (some (Value.long r)) (H1 s o e0) := by
 unfold F26 at h
 refine yS Ad W 4 (4, [vR 1, vI x1, vI x1, vI 0], [], (H1 s o e0)) rfl ?_
 obtain ⟨e214, he214, h⟩ := be h
 refine zM [G,Y,G,G] (loopN_tri (B := B26_4 o) (T := fun lv215 => QTri l Z n0 ad 26 (4, [vR 1, nN, vI lv215.1, vI lv215.2], [], (H1 s o e0)) (some (Value.long r)) (H1 s o e0)) (KE := fun e214a => (some (Value.long r)) = (some (Value.long e214a)) ∧ (H1 s o e0) = (H1 s o e0)) (fun lv215 r hB hE hC => tB26_4 Ad W s e0 o lv215 hB (fun x q => hE _ q) (fun x q => hC x q)) qN (x1, (0:Int32)) e214 he214 ?_)
 obtain rfl := sj h
 exact ⟨rfl, rfl⟩
def B22_10 (o : Ob) (x1 : Int32) (v : Int32 × Int32 × Int32) : Option (((Int32)) ⊕ (Int32 × Int32 × Int32)) :=
  (if v.2.2 < (16 : Int32) then (if v.1 < v.2.1 then (aget (fU o) (XT.ushr (v.1 + v.2.1) (1 : Int32))).bind fun y219 => some (.inr ((if y219 < x1 then ((XT.ushr (v.1 + v.2.1) (1 : Int32)) + (1 : Int32)) else v.1), (if y219 < x1 then v.2.1 else (XT.ushr (v.1 + v.2.1) (1 : Int32))), (v.2.2 + (1 : Int32)))) else some (.inl v.1)) else some (.inl v.1))
theorem tB22_10 (Ad : QAd n0 ad) (W : QW Z a0) (s : List Int32) (e0 o : Ob) (x1 : Int32) (v : Int32 × Int32 × Int32) {r : ((Int32)) ⊕ (Int32 × Int32 × Int32)} {u : Option Value} {τ : QHeap} (h : B22_10 o x1 v = some r) (hx0 : ∀ x : Int32, r = .inl x → u = (some (Value.int x)) ∧ τ = (H1 s o e0)) (hc : ∀ x : Int32 × Int32 × Int32, r = .inr x → QTri l Z n0 ad 22 (10, [vR 1, vI x1, vI x.1, vI x.2.1, vI x.2.2, nN], [], (H1 s o e0)) u τ) : QTri l Z n0 ad 22 (10, [vR 1, vI x1, vI v.1, vI v.2.1, vI v.2.2, nN], [], (H1 s o e0)) u τ := by
 unfold B22_10 at h
 refine yS Ad W 2 (14, [vR 1, vI x1, vI v.1, vI v.2.1, vI v.2.2, nN], [.int 16, .int v.2.2], (H1 s o e0)) rfl ?_
 rcases qite h with ⟨c217, h⟩ | ⟨c217, h⟩
 ·refine yF Ad W 57 17 rfl (XT.ii_ge_f c217) ?_
  refine yS Ad W 2 (19, [vR 1, vI x1, vI v.1, vI v.2.1, vI v.2.2, nN], [.int v.2.1, .int v.1], (H1 s o e0)) rfl ?_
  rcases qite h with ⟨c218, h⟩ | ⟨c218, h⟩
  ·refine yF Ad W 57 22 rfl (XT.ii_ge_f c218) ?_
   refine yS Ad W 9 (35, [vR 1, vI x1, vI v.1, vI v.2.1, vI v.2.2, vI (XT.ushr (v.1 + v.2.1) (1:Int32))], [.int (XT.ushr (v.1 + v.2.1) (1:Int32)), .ref 4], (H1 s o e0)) rfl ?_
   obtain ⟨y219, hy219, h⟩ := be h
   refine zB Ad W (f := fun y219 => (36, [vR 1, vI x1, vI v.1, vI v.2.1, vI v.2.2, vI (XT.ushr (v.1 + v.2.1) (1:Int32))], [.int y219], (H1 s o e0))) rfl hy219 ?_
   refine yS Ad W 1 (37, [vR 1, vI x1, vI v.1, vI v.2.1, vI v.2.2, vI (XT.ushr (v.1 + v.2.1) (1:Int32))], [.int x1, .int y219], (H1 s o e0)) rfl ?_
   have K222 : ∀ z220 : Int32, z220 = (if y219 < x1 then ((XT.ushr (v.1 + v.2.1) (1:Int32)) + (1:Int32)) else v.1) → ∀ z221 : Int32, z221 = (if y219 < x1 then v.2.1 else (XT.ushr (v.1 + v.2.1) (1:Int32))) → QTri l Z n0 ad 22 (51, [vR 1, vI x1, vI z220, vI z221, vI v.2.2, nN], [], (H1 s o e0)) u τ := by
    intro z220 ez220
    intro z221 ez221
    subst ez220
    subst ez221
    refine yS Ad W 2 (10, [vR 1, vI x1, vI (if y219 < x1 then ((XT.ushr (v.1 + v.2.1) (1:Int32)) + (1:Int32)) else v.1), vI (if y219 < x1 then v.2.1 else (XT.ushr (v.1 + v.2.1) (1:Int32))), vI (v.2.2 + (1:Int32)), nN], [], (H1 s o e0)) rfl ?_
    obtain rfl := sj h
    exact zM [G,G,G,G,G,Y] (hc ((if y219 < x1 then ((XT.ushr (v.1 + v.2.1) (1:Int32)) + (1:Int32)) else v.1), (if y219 < x1 then v.2.1 else (XT.ushr (v.1 + v.2.1) (1:Int32))), (v.2.2 + (1:Int32))) rfl)
   rcases em (y219 < x1) with c223 | c223
   ·refine yF Ad W 48 40 rfl (XT.ii_ge_f c223) ?_
    refine yS Ad W 5 (51, [vR 1, vI x1, vI ((XT.ushr (v.1 + v.2.1) (1:Int32)) + (1:Int32)), vI v.2.1, vI v.2.2, vI (XT.ushr (v.1 + v.2.1) (1:Int32))], [], (H1 s o e0)) rfl ?_
    exact zM [G,G,G,G,G,Y] (K222 _ (if_pos c223).symm _ (if_pos c223).symm)
   ·refine yT Ad W 48 40 rfl (XT.ii_ge_t c223) ?_
    refine yS Ad W 2 (51, [vR 1, vI x1, vI v.1, vI (XT.ushr (v.1 + v.2.1) (1:Int32)), vI v.2.2, vI (XT.ushr (v.1 + v.2.1) (1:Int32))], [], (H1 s o e0)) rfl ?_
    exact zM [G,G,G,G,G,Y] (K222 _ (if_neg c223).symm _ (if_neg c223).symm)
  ·refine yT Ad W 57 22 rfl (XT.ii_ge_t c218) ?_
   refine yS Ad W 1 (58, [vR 1, vI x1, vI v.1, vI v.2.1, vI v.2.2, nN], [.int v.1], (H1 s o e0)) rfl ?_
   obtain rfl := sj h
   obtain ⟨rfl, rfl⟩ := hx0 v.1 rfl
   exact retI rfl rfl
 ·refine yT Ad W 57 17 rfl (XT.ii_ge_t c217) ?_
  refine yS Ad W 1 (58, [vR 1, vI x1, vI v.1, vI v.2.1, vI v.2.2, nN], [.int v.1], (H1 s o e0)) rfl ?_
  obtain rfl := sj h
  obtain ⟨rfl, rfl⟩ := hx0 v.1 rfl
  exact retI rfl rfl
/-- snapLowerBound(I)I -/
def F22 (o : Ob) (x1 : Int32) : Option (Int32) :=
 (loopN (B22_10 o x1) qN ((0:Int32), (fxI o), (0:Int32))).bind fun e224 => some e224
theorem tF22 (Ad : QAd n0 ad) (W : QW Z a0) (s : List Int32) (e0 o : Ob) (x1 : Int32) {r : Int32} (h : F22 o x1 = some r) : QTri l Z n0 ad 22 (0, qentry [.ref 1, .int x1] (pMaxL 22), [], (H1 s o e0)) (some (Value.int r)) (H1 s o e0) := by
 unfold F22 at h
 refine yS Ad W 5 (7, [vR 1, vI x1, vI 0, vI (fxI o), nN, nN], [], (H1 s o e0)) rfl ?_
 refine yS Ad W 2 (10, [vR 1, vI x1, vI 0, vI (fxI o), vI 0, nN], [], (H1 s o e0)) rfl ?_
 obtain ⟨e224, he224, h⟩ := be h
 refine zM [G,G,G,G,G,Y] (loopN_tri (B := B22_10 o x1) (T := fun lv225 => QTri l Z n0 ad 22 (10, [vR 1, vI x1, vI lv225.1, vI lv225.2.1, vI lv225.2.2, nN], [], (H1 s o e0)) (some (Value.int r)) (H1 s o e0)) (KE := fun e224a => (some (Value.int r)) = (some (Value.int e224a)) ∧ (H1 s o e0) = (H1 s o e0)) (fun lv225 r hB hE hC => tB22_10 Ad W s e0 o x1 lv225 hB (fun x q => hE _ q) (fun x q => hC x q)) qN ((0:Int32), (fxI o), (0:Int32)) e224 he224 ?_)
 obtain rfl := sj h
 exact ⟨rfl, rfl⟩
def B21_9 (o : Ob) (x2 v : Int32) : Option (((Int64)) ⊕ (Int32)) :=
  (if v < (fxI o) then (aget (fU o) v).bind fun y228 => (F19 o y228).bind fun r229 => (if r229 = x2 then some (.inl (y228.toInt64)) else some (.inr (v + (1 : Int32)))) else some (.inl (4294967296 : Int64)))
theorem tB21_9 (Ad : QAd n0 ad) (W : QW Z a0) (s : List Int32) (e0 o : Ob) (x2 v : Int32) {r : ((Int64)) ⊕ (Int32)} {u : Option Value} {τ : QHeap} (h : B21_9 o x2 v = some r) (hx0 : ∀ x : Int64, r = .inl x → u = (some (Value.long x)) ∧ τ = (H1 s o e0)) (hc : ∀ x : Int32, r = .inr x → QTri l Z n0 ad 21 (9, [vR 1, nN, vI x2, nN, vI x, nN], [], (H1 s o e0)) u τ) : QTri l Z n0 ad 21 (9, [vR 1, nN, vI x2, nN, vI v, nN], [], (H1 s o e0)) u τ := by
 unfold B21_9 at h
 refine yS Ad W 3 (15, [vR 1, nN, vI x2, nN, vI v, nN], [.int (fxI o), .int v], (H1 s o e0)) rfl ?_
 rcases qite h with ⟨c227, h⟩ | ⟨c227, h⟩
 ·refine yF Ad W 47 18 rfl (XT.ii_ge_f c227) ?_
  refine yS Ad W 3 (24, [vR 1, nN, vI x2, nN, vI v, nN], [.int v, .ref 4], (H1 s o e0)) rfl ?_
  obtain ⟨y228, hy228, h⟩ := be h
  refine zB Ad W (f := fun y228 => (25, [vR 1, nN, vI x2, nN, vI v, nN], [.int y228], (H1 s o e0))) rfl hy228 ?_
  refine yS Ad W 3 (30, [vR 1, nN, vI x2, nN, vI v, vI y228], [.int y228, .ref 1], (H1 s o e0)) rfl ?_
  obtain ⟨r229, hr229, h⟩ := be h
  refine callP W (a := 1) (as := [.int y228]) (rest := []) (w := (some (.int r229))) (σ₁ := (H1 s o e0)) rfl rfl rfl rfl rfl rfl rfl rfl (tF19 Ad W s e0 o y228 hr229) ?_
  refine yS Ad W 1 (34, [vR 1, nN, vI x2, nN, vI v, vI y228], [.int x2, .int r229], (H1 s o e0)) rfl ?_
  rcases qite h with ⟨c230, h⟩ | ⟨c230, h⟩
  ·refine yF Ad W 41 37 rfl (XT.ii_ne_f c230) ?_
   refine yS Ad W 2 (40, [vR 1, nN, vI x2, nN, vI v, vI y228], [.long (y228.toInt64)], (H1 s o e0)) rfl ?_
   obtain rfl := sj h
   obtain ⟨rfl, rfl⟩ := hx0 (y228.toInt64) rfl
   exact retJ rfl rfl
  ·refine yT Ad W 41 37 rfl (XT.ii_ne_t c230) ?_
   refine yS Ad W 2 (9, [vR 1, nN, vI x2, nN, vI (v + (1:Int32)), vI y228], [], (H1 s o e0)) rfl ?_
   obtain rfl := sj h
   exact zM [G,Y,G,Y,G,Y] (hc (v + (1:Int32)) rfl)
 ·refine yT Ad W 47 18 rfl (XT.ii_ge_t c227) ?_
  refine yS Ad W 1 (50, [vR 1, nN, vI x2, nN, vI v, nN], [.long (4294967296 : Int64)], (H1 s o e0)) rfl ?_
  obtain rfl := sj h
  obtain ⟨rfl, rfl⟩ := hx0 (4294967296 : Int64) rfl
  exact retJ rfl rfl
/-- nextCaseRouted(II)J -/
def F21 (o : Ob) (x1 x2 : Int32) : Option (Int64) :=
 (F22 o x1).bind fun r226 => (loopN (B21_9 o x2) qN r226).bind fun e231 => some e231
theorem tF21 (Ad : QAd n0 ad) (W : QW Z a0) (s : List Int32) (e0 o : Ob) (x1 x2 : Int32) {r : Int64} (h : F21 o x1 x2 = some r) : QTri l Z n0 ad 21 (0, qentry [.ref 1, .int x1, .int x2] (pMaxL 21), [], (H1 s o e0)) (some (Value.long r)) (H1 s o e0) := by
 unfold F21 at h
 refine yS Ad W 2 (2, [vR 1, vI x1, vI x2, nN, nN, nN], [.int x1, .ref 1], (H1 s o e0)) rfl ?_
 obtain ⟨r226, hr226, h⟩ := be h
 refine callP W (a := 1) (as := [.int x1]) (rest := []) (w := (some (.int r226))) (σ₁ := (H1 s o e0)) rfl rfl rfl rfl rfl rfl rfl rfl (tF22 Ad W s e0 o x1 hr226) ?_
 refine yS Ad W 3 (9, [vR 1, vI x1, vI x2, vI r226, vI r226, nN], [], (H1 s o e0)) rfl ?_
 obtain ⟨e231, he231, h⟩ := be h
 refine zM [G,Y,G,Y,G,Y] (loopN_tri (B := B21_9 o x2) (T := fun lv232 => QTri l Z n0 ad 21 (9, [vR 1, nN, vI x2, nN, vI lv232, nN], [], (H1 s o e0)) (some (Value.long r)) (H1 s o e0)) (KE := fun e231a => (some (Value.long r)) = (some (Value.long e231a)) ∧ (H1 s o e0) = (H1 s o e0)) (fun lv232 r hB hE hC => tB21_9 Ad W s e0 o x2 lv232 hB (fun x q => hE _ q) (fun x q => hC x q)) qN r226 e231 he231 ?_)
 obtain rfl := sj h
 exact ⟨rfl, rfl⟩
/-- nextRouted(II)J -/
def F20 (o : Ob) (x1 x2 : Int32) : Option (Int64) :=
 (if (fxK o) = (0:Int32) then (J20_19 o) else (if x2 < (0:Int32) then (J20_19 o) else (if x2 < (fxE o) then (if x2 = (fxJ o) then (F26 o x1).bind fun r216 => some r216 else (F21 o x1 x2).bind fun r233 => some r233) else (J20_19 o))))
theorem tF20 (Ad : QAd n0 ad) (W : QW Z a0) (s : List Int32) (e0 o : Ob) (x1 x2 : Int32) {r : Int64} (h : F20 o x1 x2 = some r) : QTri l Z n0 ad 20 (0, qentry [.ref 1, .int x1, .int x2] (pMaxL 20), [], (H1 s o e0)) (some (Value.long r)) (H1 s o e0) := by
 unfold F20 at h
 refine yS Ad W 2 (4, [vR 1, vI x1, vI x2], [.int (fxK o)], (H1 s o e0)) rfl ?_
 rcases qite h with ⟨c206, h⟩ | ⟨c206, h⟩
 ·refine yT Ad W 19 7 rfl (XT.i0_eq_t c206) ?_
  exact zM [Y,Y,Y] (tJ20_19 Ad W s e0 o h)
 ·refine yF Ad W 19 7 rfl (XT.i0_eq_f c206) ?_
  refine yS Ad W 1 (8, [vR 1, vI x1, vI x2], [.int x2], (H1 s o e0)) rfl ?_
  rcases qite h with ⟨c207, h⟩ | ⟨c207, h⟩
  ·refine yT Ad W 19 11 rfl (XT.i0_lt_t c207) ?_
   exact zM [Y,Y,Y] (tJ20_19 Ad W s e0 o h)
  ·refine yF Ad W 19 11 rfl (XT.i0_lt_f c207) ?_
   refine yS Ad W 3 (16, [vR 1, vI x1, vI x2], [.int (fxE o), .int x2], (H1 s o e0)) rfl ?_
   rcases qite h with ⟨c208, h⟩ | ⟨c208, h⟩
   ·refine yT Ad W 23 19 rfl (XT.ii_lt_t c208) ?_
    refine yS Ad W 3 (28, [vR 1, vI x1, vI x2], [.int (fxJ o), .int x2], (H1 s o e0)) rfl ?_
    rcases qite h with ⟨c209, h⟩ | ⟨c209, h⟩
    ·refine yF Ad W 37 31 rfl (XT.ii_ne_f c209) ?_
     refine yS Ad W 2 (33, [vR 1, vI x1, vI x2], [.int x1, .ref 1], (H1 s o e0)) rfl ?_
     obtain ⟨r216, hr216, h⟩ := be h
     refine callP W (a := 1) (as := [.int x1]) (rest := []) (w := (some (.long r216))) (σ₁ := (H1 s o e0)) rfl rfl rfl rfl rfl rfl rfl rfl (tF26 Ad W s e0 o x1 hr216) ?_
     obtain rfl := sj h
     exact retJ rfl rfl
    ·refine yT Ad W 37 31 rfl (XT.ii_ne_t c209) ?_
     refine yS Ad W 3 (40, [vR 1, vI x1, vI x2], [.int x2, .int x1, .ref 1], (H1 s o e0)) rfl ?_
     obtain ⟨r233, hr233, h⟩ := be h
     refine callP W (a := 1) (as := [.int x1, .int x2]) (rest := []) (w := (some (.long r233))) (σ₁ := (H1 s o e0)) rfl rfl rfl rfl rfl rfl rfl rfl (tF21 Ad W s e0 o x1 x2 hr233) ?_
     obtain rfl := sj h
     exact retJ rfl rfl
   ·refine yF Ad W 23 19 rfl (XT.ii_lt_f c208) ?_
    exact zM [Y,Y,Y] (tJ20_19 Ad W s e0 o h)
theorem tF20a1 (Ad : QAd n0 ad) (W : QW Z a0) (s : List Int32) (e0 o : Ob) (x1 x2 : Int32) {r : Int64} (h : F20 o x1 x2 = some r) : QTri l Z n0 ad 20 (0, qentry [.ref 22, .int x1, .int x2] (pMaxL 20), [], (H1 s e0 o)) (some (Value.long r)) (H1 s e0 o) := zW (tF20 (zA Ad) W s e0 o x1 x2 h) rfl rfl rfl
def B28_14 (o : Ob) (x2 x3 x4 : Int32) (v : Int64 × Int32) : Option (((Int64)) ⊕ (Int64 × Int32)) :=
  (if v.2 < (fxI o) then (aget (fU o) v.2).bind fun y274 => (if x2 < y274 then some (.inl v.1) else (F19 o y274).bind fun r276 => some (.inr ((if (if r276 = x3 then (1 : Int32) else (0 : Int32)) = x4 then v.1 else (v.1 + (1 : Int64))), (v.2 + (1 : Int32))))) else some (.inl v.1))
theorem tB28_14 (Ad : QAd n0 ad) (W : QW Z a0) (s : List Int32) (e0 o : Ob) (x2 x3 x4 : Int32) (v : Int64 × Int32) {r : ((Int64)) ⊕ (Int64 × Int32)} {u : Option Value} {τ : QHeap} (h : B28_14 o x2 x3 x4 v = some r) (hx0 : ∀ x : Int64, r = .inl x → u = (some (Value.long x)) ∧ τ = (H1 s o e0)) (hc : ∀ x : Int64 × Int32, r = .inr x → QTri l Z n0 ad 28 (14, [vR 1, nN, vI x2, vI x3, vI x4, vL x.1, nN, nN, vI x.2, nN, nN], [], (H1 s o e0)) u τ) : QTri l Z n0 ad 28 (14, [vR 1, nN, vI x2, vI x3, vI x4, vL v.1, nN, nN, vI v.2, nN, nN], [], (H1 s o e0)) u τ := by
 unfold B28_14 at h
 refine yS Ad W 3 (20, [vR 1, nN, vI x2, vI x3, vI x4, vL v.1, nN, nN, vI v.2, nN, nN], [.int (fxI o), .int v.2], (H1 s o e0)) rfl ?_
 rcases qite h with ⟨c273, h⟩ | ⟨c273, h⟩
 ·refine yF Ad W 77 23 rfl (XT.ii_ge_f c273) ?_
  refine yS Ad W 3 (29, [vR 1, nN, vI x2, vI x3, vI x4, vL v.1, nN, nN, vI v.2, nN, nN], [.int v.2, .ref 4], (H1 s o e0)) rfl ?_
  obtain ⟨y274, hy274, h⟩ := be h
  refine zB Ad W (f := fun y274 => (30, [vR 1, nN, vI x2, vI x3, vI x4, vL v.1, nN, nN, vI v.2, nN, nN], [.int y274], (H1 s o e0))) rfl hy274 ?_
  refine yS Ad W 3 (35, [vR 1, nN, vI x2, vI x3, vI x4, vL v.1, nN, nN, vI v.2, vI y274, nN], [.int x2, .int y274], (H1 s o e0)) rfl ?_
  rcases qite h with ⟨c275, h⟩ | ⟨c275, h⟩
  ·refine yF Ad W 41 38 rfl (XT.ii_le_f c275) ?_
   refine yS Ad W 2 (79, [vR 1, nN, vI x2, vI x3, vI x4, vL v.1, nN, nN, vI v.2, vI y274, nN], [.long v.1], (H1 s o e0)) rfl ?_
   obtain rfl := sj h
   obtain ⟨rfl, rfl⟩ := hx0 v.1 rfl
   exact retJ rfl rfl
  ·refine yT Ad W 41 38 rfl (XT.ii_le_t c275) ?_
   refine yS Ad W 2 (44, [vR 1, nN, vI x2, vI x3, vI x4, vL v.1, nN, nN, vI v.2, vI y274, nN], [.int y274, .ref 1], (H1 s o e0)) rfl ?_
   obtain ⟨r276, hr276, h⟩ := be h
   refine callP W (a := 1) (as := [.int y274]) (rest := []) (w := (some (.int r276))) (σ₁ := (H1 s o e0)) rfl rfl rfl rfl rfl rfl rfl rfl (tF19 Ad W s e0 o y274 hr276) ?_
   refine yS Ad W 1 (48, [vR 1, nN, vI x2, vI x3, vI x4, vL v.1, nN, nN, vI v.2, vI y274, nN], [.int x3, .int r276], (H1 s o e0)) rfl ?_
   have K278 : ∀ z277 : Int32, z277 = (if r276 = x3 then (1:Int32) else (0:Int32)) → QTri l Z n0 ad 28 (56, [vR 1, nN, vI x2, vI x3, vI x4, vL v.1, nN, nN, vI v.2, nN, nN], [.int z277], (H1 s o e0)) u τ := by
    intro z277 ez277
    subst ez277
    refine yS Ad W 3 (62, [vR 1, nN, vI x2, vI x3, vI x4, vL v.1, nN, nN, vI v.2, nN, vI (if r276 = x3 then (1:Int32) else (0:Int32))], [.int x4, .int (if r276 = x3 then (1:Int32) else (0:Int32))], (H1 s o e0)) rfl ?_
    have K281 : ∀ z280 : Int64, z280 = (if (if r276 = x3 then (1:Int32) else (0:Int32)) = x4 then v.1 else (v.1 + (1 : Int64))) → QTri l Z n0 ad 28 (71, [vR 1, nN, vI x2, vI x3, vI x4, vL z280, nN, nN, vI v.2, nN, nN], [], (H1 s o e0)) u τ := by
     intro z280 ez280
     subst ez280
     refine yS Ad W 2 (14, [vR 1, nN, vI x2, vI x3, vI x4, vL (if (if r276 = x3 then (1:Int32) else (0:Int32)) = x4 then v.1 else (v.1 + (1 : Int64))), nN, nN, vI (v.2 + (1:Int32)), nN, nN], [], (H1 s o e0)) rfl ?_
     obtain rfl := sj h
     exact zM [G,Y,G,G,G,G,Y,Y,G,Y,Y] (hc ((if (if r276 = x3 then (1:Int32) else (0:Int32)) = x4 then v.1 else (v.1 + (1 : Int64))), (v.2 + (1:Int32))) rfl)
    rcases em ((if r276 = x3 then (1:Int32) else (0:Int32)) = x4) with c282 | c282
    ·refine yT Ad W 71 65 rfl (XT.ii_eq_t c282) ?_
     exact zM [G,Y,G,G,G,G,Y,Y,G,Y,Y] (K281 _ (if_pos c282).symm)
    ·refine yF Ad W 71 65 rfl (XT.ii_eq_f c282) ?_
     refine yS Ad W 4 (71, [vR 1, nN, vI x2, vI x3, vI x4, vL (v.1 + (1 : Int64)), nN, nN, vI v.2, nN, vI (if r276 = x3 then (1:Int32) else (0:Int32))], [], (H1 s o e0)) rfl ?_
     exact zM [G,Y,G,G,G,G,Y,Y,G,Y,Y] (K281 _ (if_neg c282).symm)
   rcases em (r276 = x3) with c279 | c279
   ·refine yF Ad W 55 51 rfl (XT.ii_ne_f c279) ?_
    refine yS Ad W 2 (56, [vR 1, nN, vI x2, vI x3, vI x4, vL v.1, nN, nN, vI v.2, vI y274, nN], [.int 1], (H1 s o e0)) rfl ?_
    exact zM [G,Y,G,G,G,G,Y,Y,G,Y,Y] (K278 _ (if_pos c279).symm)
   ·refine yT Ad W 55 51 rfl (XT.ii_ne_t c279) ?_
    refine yS Ad W 1 (56, [vR 1, nN, vI x2, vI x3, vI x4, vL v.1, nN, nN, vI v.2, vI y274, nN], [.int 0], (H1 s o e0)) rfl ?_
    exact zM [G,Y,G,G,G,G,Y,Y,G,Y,Y] (K278 _ (if_neg c279).symm)
 ·refine yT Ad W 77 23 rfl (XT.ii_ge_t c273) ?_
  refine yS Ad W 1 (79, [vR 1, nN, vI x2, vI x3, vI x4, vL v.1, nN, nN, vI v.2, nN, nN], [.long v.1], (H1 s o e0)) rfl ?_
  obtain rfl := sj h
  obtain ⟨rfl, rfl⟩ := hx0 v.1 rfl
  exact retJ rfl rfl
/-- countCaseHits(IIIZ)J -/
def F28 (o : Ob) (x1 x2 : Int32) (x3 x4 : Int32) : Option (Int64) :=
 (F22 o x1).bind fun r272 => (loopN (B28_14 o x2 x3 x4) qN ((0 : Int64), r272)).bind fun e283 => some e283
theorem tF28 (Ad : QAd n0 ad) (W : QW Z a0) (s : List Int32) (e0 o : Ob) (x1 x2 : Int32) (x3 x4 : Int32) {r : Int64} (h : F28 o x1 x2 x3 x4 = some r) : QTri l Z n0 ad 28 (0, qentry [.ref 1, .int x1, .int x2, .int x3, .int x4] (pMaxL 28), [], (H1 s o e0)) (some (Value.long r)) (H1 s o e0) := by
 unfold F28 at h
 refine yS Ad W 4 (5, [vR 1, vI x1, vI x2, vI x3, vI x4, vL (0 : Int64), nN, nN, nN, nN, nN], [.int x1, .ref 1], (H1 s o e0)) rfl ?_
 obtain ⟨r272, hr272, h⟩ := be h
 refine callP W (a := 1) (as := [.int x1]) (rest := []) (w := (some (.int r272))) (σ₁ := (H1 s o e0)) rfl rfl rfl rfl rfl rfl rfl rfl (tF22 Ad W s e0 o x1 hr272) ?_
 refine yS Ad W 3 (14, [vR 1, vI x1, vI x2, vI x3, vI x4, vL (0 : Int64), nN, vI r272, vI r272, nN, nN], [], (H1 s o e0)) rfl ?_
 obtain ⟨e283, he283, h⟩ := be h
 refine zM [G,Y,G,G,G,G,Y,Y,G,Y,Y] (loopN_tri (B := B28_14 o x2 x3 x4) (T := fun lv284 => QTri l Z n0 ad 28 (14, [vR 1, nN, vI x2, vI x3, vI x4, vL lv284.1, nN, nN, vI lv284.2, nN, nN], [], (H1 s o e0)) (some (Value.long r)) (H1 s o e0)) (KE := fun e283a => (some (Value.long r)) = (some (Value.long e283a)) ∧ (H1 s o e0) = (H1 s o e0)) (fun lv284 r hB hE hC => tB28_14 Ad W s e0 o x2 x3 x4 lv284 hB (fun x q => hE _ q) (fun x q => hC x q)) qN ((0 : Int64), r272) e283 he283 ?_)
 obtain rfl := sj h
 exact ⟨rfl, rfl⟩
/-- routedCount(III)J -/
def F23 (o : Ob) (x1 x2 x3 : Int32) : Option (Int64) :=
 (if (fxK o) = (0:Int32) then some (0 : Int64) else (if x3 < (0:Int32) then some (0 : Int64) else (if x3 < (fxE o) then (if x2 < x1 then some (0 : Int64) else (F28 o x1 x2 x3 (if x3 = (fxJ o) then (1:Int32) else (0:Int32))).bind fun r285 => (if (if x3 = (fxJ o) then (1:Int32) else (0:Int32)) = (0:Int32) then some r285 else some ((((x2.toInt64) - (x1.toInt64)) + (1 : Int64)) - r285))) else some (0 : Int64))))
theorem tF23 (Ad : QAd n0 ad) (W : QW Z a0) (s : List Int32) (e0 o : Ob) (x1 x2 x3 : Int32) {r : Int64} (h : F23 o x1 x2 x3 = some r) : QTri l Z n0 ad 23 (0, qentry [.ref 1, .int x1, .int x2, .int x3] (pMaxL 23), [], (H1 s o e0)) (some (Value.long r)) (H1 s o e0) := by
 unfold F23 at h
 refine yS Ad W 2 (4, [vR 1, vI x1, vI x2, vI x3, nN, nN, nN, nN, nN], [.int (fxK o)], (H1 s o e0)) rfl ?_
 rcases qite h with ⟨c265, h⟩ | ⟨c265, h⟩
 ·refine yT Ad W 24 7 rfl (XT.i0_eq_t c265) ?_
  refine yS Ad W 1 (25, [vR 1, vI x1, vI x2, vI x3, nN, nN, nN, nN, nN], [.long (0 : Int64)], (H1 s o e0)) rfl ?_
  obtain rfl := sj h
  exact retJ rfl rfl
 ·refine yF Ad W 24 7 rfl (XT.i0_eq_f c265) ?_
  refine yS Ad W 1 (8, [vR 1, vI x1, vI x2, vI x3, nN, nN, nN, nN, nN], [.int x3], (H1 s o e0)) rfl ?_
  rcases qite h with ⟨c266, h⟩ | ⟨c266, h⟩
  ·refine yT Ad W 24 11 rfl (XT.i0_lt_t c266) ?_
   refine yS Ad W 1 (25, [vR 1, vI x1, vI x2, vI x3, nN, nN, nN, nN, nN], [.long (0 : Int64)], (H1 s o e0)) rfl ?_
   obtain rfl := sj h
   exact retJ rfl rfl
  ·refine yF Ad W 24 11 rfl (XT.i0_lt_f c266) ?_
   refine yS Ad W 3 (16, [vR 1, vI x1, vI x2, vI x3, nN, nN, nN, nN, nN], [.int (fxE o), .int x3], (H1 s o e0)) rfl ?_
   rcases qite h with ⟨c267, h⟩ | ⟨c267, h⟩
   ·refine yF Ad W 24 19 rfl (XT.ii_ge_f c267) ?_
    refine yS Ad W 2 (21, [vR 1, vI x1, vI x2, vI x3, nN, nN, nN, nN, nN], [.int x2, .int x1], (H1 s o e0)) rfl ?_
    rcases qite h with ⟨c268, h⟩ | ⟨c268, h⟩
    ·refine yF Ad W 26 24 rfl (XT.ii_le_f c268) ?_
     refine yS Ad W 1 (25, [vR 1, vI x1, vI x2, vI x3, nN, nN, nN, nN, nN], [.long (0 : Int64)], (H1 s o e0)) rfl ?_
     obtain rfl := sj h
     exact retJ rfl rfl
    ·refine yT Ad W 26 24 rfl (XT.ii_le_t c268) ?_
     refine yS Ad W 3 (31, [vR 1, vI x1, vI x2, vI x3, nN, nN, nN, nN, nN], [.int (fxJ o), .int x3], (H1 s o e0)) rfl ?_
     have K270 : ∀ z269 : Int32, z269 = (if x3 = (fxJ o) then (1:Int32) else (0:Int32)) → QTri l Z n0 ad 23 (39, [vR 1, vI x1, vI x2, vI x3, nN, nN, nN, nN, nN], [.int z269], (H1 s o e0)) (some (Value.long r)) (H1 s o e0) := by
      intro z269 ez269
      subst ez269
      refine yS Ad W 6 (47, [vR 1, vI x1, vI x2, vI x3, vI (if x3 = (fxJ o) then (1:Int32) else (0:Int32)), nN, nN, nN, nN], [.int (if x3 = (fxJ o) then (1:Int32) else (0:Int32)), .int x3, .int x2, .int x1, .ref 1], (H1 s o e0)) rfl ?_
      obtain ⟨r285, hr285, h⟩ := be h
      refine callP W (a := 1) (as := [.int x1, .int x2, .int x3, .int (if x3 = (fxJ o) then (1:Int32) else (0:Int32))]) (rest := []) (w := (some (.long r285))) (σ₁ := (H1 s o e0)) rfl rfl rfl rfl rfl rfl rfl rfl (tF28 Ad W s e0 o x1 x2 x3 (if x3 = (fxJ o) then (1:Int32) else (0:Int32)) hr285) ?_
      refine yS Ad W 2 (54, [vR 1, vI x1, vI x2, vI x3, vI (if x3 = (fxJ o) then (1:Int32) else (0:Int32)), vL r285, nN, nN, nN], [.int (if x3 = (fxJ o) then (1:Int32) else (0:Int32))], (H1 s o e0)) rfl ?_
      rcases qite h with ⟨c286, h⟩ | ⟨c286, h⟩
      ·refine yF Ad W 60 57 rfl (XT.i0_ne_f c286) ?_
       refine yS Ad W 1 (59, [vR 1, vI x1, vI x2, vI x3, vI (if x3 = (fxJ o) then (1:Int32) else (0:Int32)), vL r285, nN, nN, nN], [.long r285], (H1 s o e0)) rfl ?_
       obtain rfl := sj h
       exact retJ rfl rfl
      ·refine yT Ad W 60 57 rfl (XT.i0_ne_t c286) ?_
       refine yS Ad W 11 (74, [vR 1, vI x1, vI x2, vI x3, vI (if x3 = (fxJ o) then (1:Int32) else (0:Int32)), vL r285, nN, vL (((x2.toInt64) - (x1.toInt64)) + (1 : Int64)), nN], [.long ((((x2.toInt64) - (x1.toInt64)) + (1 : Int64)) - r285)], (H1 s o e0)) rfl ?_
       obtain rfl := sj h
       exact retJ rfl rfl
     rcases em (x3 = (fxJ o)) with c271 | c271
     ·refine yF Ad W 38 34 rfl (XT.ii_ne_f c271) ?_
      refine yS Ad W 2 (39, [vR 1, vI x1, vI x2, vI x3, nN, nN, nN, nN, nN], [.int 1], (H1 s o e0)) rfl ?_
      exact zM [G,G,G,G,Y,Y,Y,Y,Y] (K270 _ (if_pos c271).symm)
     ·refine yT Ad W 38 34 rfl (XT.ii_ne_t c271) ?_
      refine yS Ad W 1 (39, [vR 1, vI x1, vI x2, vI x3, nN, nN, nN, nN, nN], [.int 0], (H1 s o e0)) rfl ?_
      exact zM [G,G,G,G,Y,Y,Y,Y,Y] (K270 _ (if_neg c271).symm)
   ·refine yT Ad W 24 19 rfl (XT.ii_ge_t c267) ?_
    refine yS Ad W 1 (25, [vR 1, vI x1, vI x2, vI x3, nN, nN, nN, nN, nN], [.long (0 : Int64)], (H1 s o e0)) rfl ?_
    obtain rfl := sj h
    exact retJ rfl rfl
theorem tF23a1 (Ad : QAd n0 ad) (W : QW Z a0) (s : List Int32) (e0 o : Ob) (x1 x2 x3 : Int32) {r : Int64} (h : F23 o x1 x2 x3 = some r) : QTri l Z n0 ad 23 (0, qentry [.ref 22, .int x1, .int x2, .int x3] (pMaxL 23), [], (H1 s e0 o)) (some (Value.long r)) (H1 s e0 o) := zW (tF23 (zA Ad) W s e0 o x1 x2 x3 h) rfl rfl rfl
/-- same(LSwitchLowererX;LSwitchLowererX;II)Z -/
def F10 (o1 o2 : Ob) (x2 x3 : Int32) : Option (Int32) :=
 (F11 o1).bind fun r77 => (F11 o2).bind fun r78 => (if r77 = r78 then ((loopN (B10_16 o1 o2 x2 x3) qN (0:Int32)).bind fun e99 => match e99 with | .inl e99a => (F14 o1).bind fun r101 => (F14 o2).bind fun r102 => (if r101 = r102 then (F15 o1 x2).bind fun r111 => (F15 o2 x2).bind fun r119 => (if r111 = r119 then (F18 o1 x2).bind fun r162 => (F18 o2 x2).bind fun r204 => (if r162 = r204 then (F20 o1 x2 (x3 &&& (3:Int32))).bind fun r234 => (F20 o2 x2 (x3 &&& (3:Int32))).bind fun r263 => (if r234 = r263 then (F23 o1 x2 x3 (x3 &&& (3:Int32))).bind fun r287 => (F23 o2 x2 x3 (x3 &&& (3:Int32))).bind fun r310 => (if r287 = r310 then some (1:Int32) else some (0:Int32)) else some (0:Int32)) else some (0:Int32)) else some (0:Int32)) else some (0:Int32)) | .inr e99a => some e99a) else some (0:Int32))
theorem tF10 (Ad : QAd n0 ad) (W : QW Z a0) (s : List Int32) (o1 o2 : Ob) (x2 x3 : Int32) {r : Int32} (h : F10 o1 o2 x2 x3 = some r) : QTri l Z n0 ad 10 (0, qentry [.ref 1, .ref 22, .int x2, .int x3] (pMaxL 10), [], (H1 s o1 o2)) (some (Value.int r)) (H1 s o1 o2) := by
 unfold F10 at h
 refine yS Ad W 1 (1, [vR 1, vR 22, vI x2, vI x3, nN], [.ref 1], (H1 s o1 o2)) rfl ?_
 obtain ⟨r77, hr77, h⟩ := be h
 refine callV W (a := 1) (as := []) (rest := []) (w := (some (.int r77))) (σ₁ := (H1 s o1 o2)) rfl rfl rfl rfl rfl rfl rfl rfl (tF11 Ad W s o2 o1 hr77) ?_
 refine yS Ad W 1 (5, [vR 1, vR 22, vI x2, vI x3, nN], [.ref 22, .int r77], (H1 s o1 o2)) rfl ?_
 obtain ⟨r78, hr78, h⟩ := be h
 refine callV W (a := 22) (as := []) (rest := [.int r77]) (w := (some (.int r78))) (σ₁ := (H1 s o1 o2)) rfl rfl rfl rfl rfl rfl rfl rfl (tF11a1 Ad W s o1 o2 hr78) ?_
 rcases qite h with ⟨c79, h⟩ | ⟨c79, h⟩
 ·refine yT Ad W 13 11 rfl (XT.ii_eq_t c79) ?_
  refine yS Ad W 2 (16, [vR 1, vR 22, vI x2, vI x3, vI 0], [], (H1 s o1 o2)) rfl ?_
  obtain ⟨e99, he99, h⟩ := be h
  refine zM [G,G,G,G,G] (loopN_tri (B := B10_16 o1 o2 x2 x3) (T := fun lv100 => QTri l Z n0 ad 10 (16, [vR 1, vR 22, vI x2, vI x3, vI lv100], [], (H1 s o1 o2)) (some (Value.int r)) (H1 s o1 o2)) (KE := fun e => match e with | .inl e99a => QTri l Z n0 ad 10 (63, [vR 1, vR 22, vI x2, vI x3, nN], [], (H1 s o1 o2)) (some (Value.int r)) (H1 s o1 o2) | .inr e99a => (some (Value.int r)) = (some (Value.int e99a)) ∧ (H1 s o1 o2) = (H1 s o1 o2)) (fun lv100 r hB hE hC => tB10_16 Ad W s o1 o2 x2 x3 lv100 hB (fun x q => hE _ q) (fun x q => hE _ q) (fun x q => hC x q)) qN (0:Int32) e99 he99 ?_)
  rcases e99 with e99a | e99a
  ·refine yS Ad W 1 (64, [vR 1, vR 22, vI x2, vI x3, nN], [.ref 1], (H1 s o1 o2)) rfl ?_
   obtain ⟨r101, hr101, h⟩ := be h
   refine callV W (a := 1) (as := []) (rest := []) (w := (some (.int r101))) (σ₁ := (H1 s o1 o2)) rfl rfl rfl rfl rfl rfl rfl rfl (tF14 Ad W s o2 o1 hr101) ?_
   refine yS Ad W 1 (68, [vR 1, vR 22, vI x2, vI x3, nN], [.ref 22, .int r101], (H1 s o1 o2)) rfl ?_
   obtain ⟨r102, hr102, h⟩ := be h
   refine callV W (a := 22) (as := []) (rest := [.int r101]) (w := (some (.int r102))) (σ₁ := (H1 s o1 o2)) rfl rfl rfl rfl rfl rfl rfl rfl (tF14a1 Ad W s o1 o2 hr102) ?_
   rcases qite h with ⟨c103, h⟩ | ⟨c103, h⟩
   ·refine yT Ad W 76 74 rfl (XT.ii_eq_t c103) ?_
    refine yS Ad W 2 (78, [vR 1, vR 22, vI x2, vI x3, nN], [.int x2, .ref 1], (H1 s o1 o2)) rfl ?_
    obtain ⟨r111, hr111, h⟩ := be h
    refine callV W (a := 1) (as := [.int x2]) (rest := []) (w := (some (.int r111))) (σ₁ := (H1 s o1 o2)) rfl rfl rfl rfl rfl rfl rfl rfl (tF15 Ad W s o2 o1 x2 hr111) ?_
    refine yS Ad W 2 (83, [vR 1, vR 22, vI x2, vI x3, nN], [.int x2, .ref 22, .int r111], (H1 s o1 o2)) rfl ?_
    obtain ⟨r119, hr119, h⟩ := be h
    refine callV W (a := 22) (as := [.int x2]) (rest := [.int r111]) (w := (some (.int r119))) (σ₁ := (H1 s o1 o2)) rfl rfl rfl rfl rfl rfl rfl rfl (tF15a1 Ad W s o1 o2 x2 hr119) ?_
    rcases qite h with ⟨c120, h⟩ | ⟨c120, h⟩
    ·refine yT Ad W 91 89 rfl (XT.ii_eq_t c120) ?_
     refine yS Ad W 2 (93, [vR 1, vR 22, vI x2, vI x3, nN], [.int x2, .ref 1], (H1 s o1 o2)) rfl ?_
     obtain ⟨r162, hr162, h⟩ := be h
     refine callV W (a := 1) (as := [.int x2]) (rest := []) (w := (some (.int r162))) (σ₁ := (H1 s o1 o2)) rfl rfl rfl rfl rfl rfl rfl rfl (tF18 Ad W s o2 o1 x2 hr162) ?_
     refine yS Ad W 2 (98, [vR 1, vR 22, vI x2, vI x3, nN], [.int x2, .ref 22, .int r162], (H1 s o1 o2)) rfl ?_
     obtain ⟨r204, hr204, h⟩ := be h
     refine callV W (a := 22) (as := [.int x2]) (rest := [.int r162]) (w := (some (.int r204))) (σ₁ := (H1 s o1 o2)) rfl rfl rfl rfl rfl rfl rfl rfl (tF18a1 Ad W s o1 o2 x2 hr204) ?_
     rcases qite h with ⟨c205, h⟩ | ⟨c205, h⟩
     ·refine yT Ad W 106 104 rfl (XT.ii_eq_t c205) ?_
      refine yS Ad W 7 (115, [vR 1, vR 22, vI x2, vI x3, vI (x3 &&& (3:Int32))], [.int (x3 &&& (3:Int32)), .int x2, .ref 1], (H1 s o1 o2)) rfl ?_
      obtain ⟨r234, hr234, h⟩ := be h
      refine callV W (a := 1) (as := [.int x2, .int (x3 &&& (3:Int32))]) (rest := []) (w := (some (.long r234))) (σ₁ := (H1 s o1 o2)) rfl rfl rfl rfl rfl rfl rfl rfl (tF20 Ad W s o2 o1 x2 (x3 &&& (3:Int32)) hr234) ?_
      refine yS Ad W 3 (122, [vR 1, vR 22, vI x2, vI x3, vI (x3 &&& (3:Int32))], [.int (x3 &&& (3:Int32)), .int x2, .ref 22, .long r234], (H1 s o1 o2)) rfl ?_
      obtain ⟨r263, hr263, h⟩ := be h
      refine callV W (a := 22) (as := [.int x2, .int (x3 &&& (3:Int32))]) (rest := [.long r234]) (w := (some (.long r263))) (σ₁ := (H1 s o1 o2)) rfl rfl rfl rfl rfl rfl rfl rfl (tF20a1 Ad W s o1 o2 x2 (x3 &&& (3:Int32)) hr263) ?_
      refine yS Ad W 1 (126, [vR 1, vR 22, vI x2, vI x3, vI (x3 &&& (3:Int32))], [.int (XT.cmpL r234 r263)], (H1 s o1 o2)) rfl ?_
      rcases qite h with ⟨c264, h⟩ | ⟨c264, h⟩
      ·refine yT Ad W 131 129 rfl (XT.ll_eq_t c264) ?_
       refine yS Ad W 4 (136, [vR 1, vR 22, vI x2, vI x3, vI (x3 &&& (3:Int32))], [.int (x3 &&& (3:Int32)), .int x3, .int x2, .ref 1], (H1 s o1 o2)) rfl ?_
       obtain ⟨r287, hr287, h⟩ := be h
       refine callV W (a := 1) (as := [.int x2, .int x3, .int (x3 &&& (3:Int32))]) (rest := []) (w := (some (.long r287))) (σ₁ := (H1 s o1 o2)) rfl rfl rfl rfl rfl rfl rfl rfl (tF23 Ad W s o2 o1 x2 x3 (x3 &&& (3:Int32)) hr287) ?_
       refine yS Ad W 4 (144, [vR 1, vR 22, vI x2, vI x3, vI (x3 &&& (3:Int32))], [.int (x3 &&& (3:Int32)), .int x3, .int x2, .ref 22, .long r287], (H1 s o1 o2)) rfl ?_
       obtain ⟨r310, hr310, h⟩ := be h
       refine callV W (a := 22) (as := [.int x2, .int x3, .int (x3 &&& (3:Int32))]) (rest := [.long r287]) (w := (some (.long r310))) (σ₁ := (H1 s o1 o2)) rfl rfl rfl rfl rfl rfl rfl rfl (tF23a1 Ad W s o1 o2 x2 x3 (x3 &&& (3:Int32)) hr310) ?_
       refine yS Ad W 1 (148, [vR 1, vR 22, vI x2, vI x3, vI (x3 &&& (3:Int32))], [.int (XT.cmpL r287 r310)], (H1 s o1 o2)) rfl ?_
       rcases qite h with ⟨c311, h⟩ | ⟨c311, h⟩
       ·refine yT Ad W 153 151 rfl (XT.ll_eq_t c311) ?_
        refine yS Ad W 1 (154, [vR 1, vR 22, vI x2, vI x3, vI (x3 &&& (3:Int32))], [.int 1], (H1 s o1 o2)) rfl ?_
        obtain rfl := sj h
        exact retZ rfl rfl
       ·refine yF Ad W 153 151 rfl (XT.ll_eq_f c311) ?_
        refine yS Ad W 1 (152, [vR 1, vR 22, vI x2, vI x3, vI (x3 &&& (3:Int32))], [.int 0], (H1 s o1 o2)) rfl ?_
        obtain rfl := sj h
        exact retZ rfl rfl
      ·refine yF Ad W 131 129 rfl (XT.ll_eq_f c264) ?_
       refine yS Ad W 1 (130, [vR 1, vR 22, vI x2, vI x3, vI (x3 &&& (3:Int32))], [.int 0], (H1 s o1 o2)) rfl ?_
       obtain rfl := sj h
       exact retZ rfl rfl
     ·refine yF Ad W 106 104 rfl (XT.ii_eq_f c205) ?_
      refine yS Ad W 1 (105, [vR 1, vR 22, vI x2, vI x3, nN], [.int 0], (H1 s o1 o2)) rfl ?_
      obtain rfl := sj h
      exact retZ rfl rfl
    ·refine yF Ad W 91 89 rfl (XT.ii_eq_f c120) ?_
     refine yS Ad W 1 (90, [vR 1, vR 22, vI x2, vI x3, nN], [.int 0], (H1 s o1 o2)) rfl ?_
     obtain rfl := sj h
     exact retZ rfl rfl
   ·refine yF Ad W 76 74 rfl (XT.ii_eq_f c103) ?_
    refine yS Ad W 1 (75, [vR 1, vR 22, vI x2, vI x3, nN], [.int 0], (H1 s o1 o2)) rfl ?_
    obtain rfl := sj h
    exact retZ rfl rfl
  ·obtain rfl := sj h
   exact ⟨rfl, rfl⟩
 ·refine yF Ad W 13 11 rfl (XT.ii_eq_f c79) ?_
  refine yS Ad W 1 (12, [vR 1, vR 22, vI x2, vI x3, nN], [.int 0], (H1 s o1 o2)) rfl ?_
  obtain rfl := sj h
  exact retZ rfl rfl
/-- isCurrent()Z -/
def F24 (o : Ob) : Option (Int32) :=
 (if (fxK o) = (0:Int32) then some (0:Int32) else (if (fxH o) = (0:Int32) then some (1:Int32) else some (0:Int32)))
theorem tF24 (Ad : QAd n0 ad) (W : QW Z a0) (s : List Int32) (e0 o : Ob) {r : Int32} (h : F24 o = some r) : QTri l Z n0 ad 24 (0, qentry [.ref 1] (pMaxL 24), [], (H1 s o e0)) (some (Value.int r)) (H1 s o e0) := by
 unfold F24 at h
 refine yS Ad W 2 (4, [vR 1], [.int (fxK o)], (H1 s o e0)) rfl ?_
 rcases qite h with ⟨c314, h⟩ | ⟨c314, h⟩
 ·refine yT Ad W 18 7 rfl (XT.i0_eq_t c314) ?_
  refine yS Ad W 1 (19, [vR 1], [.int 0], (H1 s o e0)) rfl ?_
  obtain rfl := sj h
  exact retZ rfl rfl
 ·refine yF Ad W 18 7 rfl (XT.i0_eq_f c314) ?_
  refine yS Ad W 2 (11, [vR 1], [.int (fxH o)], (H1 s o e0)) rfl ?_
  rcases qite h with ⟨c315, h⟩ | ⟨c315, h⟩
  ·refine yF Ad W 18 14 rfl (XT.i0_ne_f c315) ?_
   refine yS Ad W 2 (19, [vR 1], [.int 1], (H1 s o e0)) rfl ?_
   obtain rfl := sj h
   exact retZ rfl rfl
  ·refine yT Ad W 18 14 rfl (XT.i0_ne_t c315) ?_
   refine yS Ad W 1 (19, [vR 1], [.int 0], (H1 s o e0)) rfl ?_
   obtain rfl := sj h
   exact retZ rfl rfl
theorem tF24a1 (Ad : QAd n0 ad) (W : QW Z a0) (s : List Int32) (e0 o : Ob) {r : Int32} (h : F24 o = some r) : QTri l Z n0 ad 24 (0, qentry [.ref 22] (pMaxL 24), [], (H1 s e0 o)) (some (Value.int r)) (H1 s e0 o) := zW (tF24 (zA Ad) W s e0 o h) rfl rfl rfl
def J0_249 (s : List Int32) (p0 p1 : Ob) (x3 x4 : Int32) (x6 x7 : Int32) : Option (((Int32 × QHeap)) ⊕ (Int32 × Int32 × Ob × Ob)) :=
  (F10 p0 p1 x6 x7).bind fun r312 => (if r312 = (0 : Int32) then some (.inl ((0 : Int32), (H1 s p0 p1))) else (F24 p0).bind fun r316 => (F24 p1).bind fun r319 => (if r316 = (if r319 = (0 : Int32) then (0 : Int32) else (if x3 = (0 : Int32) then (1 : Int32) else (0 : Int32))) then some (.inr (x3, (x4 + (3 : Int32)), p0, p1)) else some (.inl ((0 : Int32), (H1 s p0 p1)))))
theorem tJ0_249 (Ad : QAd n0 ad) (W : QW Z a0) (s : List Int32) (p0 p1 : Ob) (x3 x4 : Int32) (x6 x7 : Int32) {r : ((Int32 × QHeap)) ⊕ (Int32 × Int32 × Ob × Ob)} {u : Option Value} {τ : QHeap} (h : J0_249 s p0 p1 x3 x4 x6 x7 = some r) (hx0 : ∀ x : Int32 × QHeap, r = .inl x → u = (some (Value.int x.1)) ∧ τ = x.2) (hc : ∀ x : Int32 × Int32 × Ob × Ob, r = .inr x → QTri l Z n0 ad 0 (27, [vR 0, vR 1, vR 22, vI x.1, vI x.2.1, nN, nN, nN, nN, nN], [], (H1 s x.2.2.1 x.2.2.2)) u τ) : QTri l Z n0 ad 0 (249, [vR 0, vR 1, vR 22, vI x3, vI x4, nN, vI x6, vI x7, nN, nN], [], (H1 s p0 p1)) u τ := by
 unfold J0_249 at h
 refine yS Ad W 4 (255, [vR 0, vR 1, vR 22, vI x3, vI x4, nN, vI x6, vI x7, nN, nN], [.int x7, .int x6, .ref 22, .ref 1], (H1 s p0 p1)) rfl ?_
 obtain ⟨r312, hr312, h⟩ := be h
 refine callS W (as := [.ref 1, .ref 22, .int x6, .int x7]) (rest := []) (w := (some (.int r312))) (σ₁ := (H1 s p0 p1)) rfl rfl rfl rfl rfl rfl rfl (tF10 Ad W s p0 p1 x6 x7 hr312) ?_
 rcases qite h with ⟨c313, h⟩ | ⟨c313, h⟩
 ·refine yF Ad W 263 261 rfl (XT.i0_ne_f c313) ?_
  refine yS Ad W 1 (262, [vR 0, vR 1, vR 22, vI x3, vI x4, nN, vI x6, vI x7, nN, nN], [.int 0], (H1 s p0 p1)) rfl ?_
  obtain rfl := sj h
  obtain ⟨rfl, rfl⟩ := hx0 ((0:Int32), (H1 s p0 p1)) rfl
  exact retZ rfl rfl
 ·refine yT Ad W 263 261 rfl (XT.i0_ne_t c313) ?_
  refine yS Ad W 1 (264, [vR 0, vR 1, vR 22, vI x3, vI x4, nN, vI x6, vI x7, nN, nN], [.ref 1], (H1 s p0 p1)) rfl ?_
  obtain ⟨r316, hr316, h⟩ := be h
  refine callV W (a := 1) (as := []) (rest := []) (w := (some (.int r316))) (σ₁ := (H1 s p0 p1)) rfl rfl rfl rfl rfl rfl rfl rfl (tF24 Ad W s p1 p0 hr316) ?_
  refine yS Ad W 2 (270, [vR 0, vR 1, vR 22, vI x3, vI x4, nN, vI x6, vI x7, vI r316, nN], [.ref 22], (H1 s p0 p1)) rfl ?_
  obtain ⟨r319, hr319, h⟩ := be h
  refine callV W (a := 22) (as := []) (rest := []) (w := (some (.int r319))) (σ₁ := (H1 s p0 p1)) rfl rfl rfl rfl rfl rfl rfl rfl (tF24a1 Ad W s p0 p1 hr319) ?_
  refine yS Ad W 3 (279, [vR 0, vR 1, vR 22, vI x3, vI x4, nN, vI x6, vI x7, vI r316, vI r319], [.int r319, .int r316], (H1 s p0 p1)) rfl ?_
  have K321 : ∀ z320 : Int32, z320 = (if r319 = (0:Int32) then (0:Int32) else (if x3 = (0:Int32) then (1:Int32) else (0:Int32))) → QTri l Z n0 ad 0 (291, [vR 0, vR 1, vR 22, vI x3, vI x4, nN, nN, nN, nN, nN], [.int z320, .int r316], (H1 s p0 p1)) u τ := by
   intro z320 ez320
   subst ez320
   rcases qite h with ⟨c324, h⟩ | ⟨c324, h⟩
   ·refine yT Ad W 296 294 rfl (XT.ii_eq_t c324) ?_
    refine yS Ad W 2 (27, [vR 0, vR 1, vR 22, vI x3, vI (x4 + (3:Int32)), nN, nN, nN, nN, nN], [], (H1 s p0 p1)) rfl ?_
    obtain rfl := sj h
    exact zM [G,G,G,G,G,Y,Y,Y,Y,Y] (hc (x3, (x4 + (3:Int32)), p0, p1) rfl)
   ·refine yF Ad W 296 294 rfl (XT.ii_eq_f c324) ?_
    refine yS Ad W 1 (295, [vR 0, vR 1, vR 22, vI x3, vI x4, nN, nN, nN, nN, nN], [.int 0], (H1 s p0 p1)) rfl ?_
    obtain rfl := sj h
    obtain ⟨rfl, rfl⟩ := hx0 ((0:Int32), (H1 s p0 p1)) rfl
    exact retZ rfl rfl
  rcases em (r319 = (0:Int32)) with c322 | c322
  ·refine yT Ad W 290 282 rfl (XT.i0_eq_t c322) ?_
   refine yS Ad W 1 (291, [vR 0, vR 1, vR 22, vI x3, vI x4, nN, vI x6, vI x7, vI r316, vI r319], [.int 0, .int r316], (H1 s p0 p1)) rfl ?_
   exact zM [G,G,G,G,G,Y,Y,Y,Y,Y] (K321 _ (if_pos c322).symm)
  ·refine yF Ad W 290 282 rfl (XT.i0_eq_f c322) ?_
   refine yS Ad W 1 (283, [vR 0, vR 1, vR 22, vI x3, vI x4, nN, vI x6, vI x7, vI r316, vI r319], [.int x3, .int r316], (H1 s p0 p1)) rfl ?_
   rcases em (x3 = (0:Int32)) with c323 | c323
   ·refine yF Ad W 290 286 rfl (XT.i0_ne_f c323) ?_
    refine yS Ad W 2 (291, [vR 0, vR 1, vR 22, vI x3, vI x4, nN, vI x6, vI x7, vI r316, vI r319], [.int 1, .int r316], (H1 s p0 p1)) rfl ?_
    exact zM [G,G,G,G,G,Y,Y,Y,Y,Y] (K321 _ ((if_neg c322).trans (if_pos c323)).symm)
   ·refine yT Ad W 290 286 rfl (XT.i0_ne_t c323) ?_
    refine yS Ad W 1 (291, [vR 0, vR 1, vR 22, vI x3, vI x4, nN, vI x6, vI x7, vI r316, vI r319], [.int 0, .int r316], (H1 s p0 p1)) rfl ?_
    exact zM [G,G,G,G,G,Y,Y,Y,Y,Y] (K321 _ ((if_neg c322).trans (if_neg c323)).symm)
def B39_14 (v : Int32 × Ob) : Option (((Ob)) ⊕ (Int32 × Ob)) :=
  (if (v.1 + (1 : Int32)) < (fxF v.2) then (aget (fR v.2) (v.1 + (1 : Int32))).bind fun y329 => (aset (fR v.2) v.1 y329).bind fun y330 => (aget (fT v.2) (v.1 + (1 : Int32))).bind fun y331 => (aset (fT v.2) v.1 (y331.toInt8.toInt32)).bind fun y332 => some (.inr ((v.1 + (1 : Int32)), (sT (sR v.2 y330) y332))) else some (.inl v.2))
theorem tB39_14 (Ad : QAd n0 ad) (W : QW Z a0) (s : List Int32) (e0 : Ob) (v : Int32 × Ob) {r : ((Ob)) ⊕ (Int32 × Ob)} {u : Option Value} {τ : QHeap} (h : B39_14 v = some r) (hx0 : ∀ x : Ob, r = .inl x → QTri l Z n0 ad 39 (58, [vR 1, nN, nN, nN], [], (H1 s x e0)) u τ) (hc : ∀ x : Int32 × Ob, r = .inr x → QTri l Z n0 ad 39 (14, [vR 1, nN, nN, vI x.1], [], (H1 s x.2 e0)) u τ) : QTri l Z n0 ad 39 (14, [vR 1, nN, nN, vI v.1], [], (H1 s v.2 e0)) u τ := by
 unfold B39_14 at h
 refine yS Ad W 5 (21, [vR 1, nN, nN, vI v.1], [.int (fxF v.2), .int (v.1 + (1:Int32))], (H1 s v.2 e0)) rfl ?_
 rcases qite h with ⟨c328, h⟩ | ⟨c328, h⟩
 ·refine yF Ad W 58 24 rfl (XT.ii_ge_f c328) ?_
  refine yS Ad W 8 (36, [vR 1, nN, nN, vI v.1], [.int (v.1 + (1:Int32)), .ref 2, .int v.1, .ref 2], (H1 s v.2 e0)) rfl ?_
  obtain ⟨y329, hy329, h⟩ := be h
  refine zB Ad W (f := fun y329 => (37, [vR 1, nN, nN, vI v.1], [.int y329, .int v.1, .ref 2], (H1 s v.2 e0))) rfl hy329 ?_
  obtain ⟨y330, hy330, h⟩ := be h
  refine zB Ad W (f := fun y330 => (38, [vR 1, nN, nN, vI v.1], [], (H1x30 s v.2 e0 y330))) rfl hy330 ?_
  refine yS Ad W 8 (50, [vR 1, nN, nN, vI v.1], [.int (v.1 + (1:Int32)), .ref 3, .int v.1, .ref 3], (H1x30 s v.2 e0 y330)) rfl ?_
  obtain ⟨y331, hy331, h⟩ := be h
  refine zB Ad W (f := fun y331 => (51, [vR 1, nN, nN, vI v.1], [.int y331, .int v.1, .ref 3], (H1x30 s v.2 e0 y330))) rfl hy331 ?_
  obtain ⟨y332, hy332, h⟩ := be h
  refine zB Ad W (f := fun y332 => (52, [vR 1, nN, nN, vI v.1], [], (H1x31 s v.2 e0 y330 y332))) rfl hy332 ?_
  refine yS Ad W 2 (14, [vR 1, nN, nN, vI (v.1 + (1:Int32))], [], (H1x31 s v.2 e0 y330 y332)) rfl ?_
  have E333 : ((H1x31 s v.2 e0 y330 y332) : QHeap) = (H1 s (sT (sR v.2 y330) y332) e0) := by simp only [fs, H1, H1v, H1x31, sR, sT]
  rw [E333]
  obtain rfl := sj h
  exact zM [G,Y,Y,G] (hc ((v.1 + (1:Int32)), (sT (sR v.2 y330) y332)) rfl)
 ·refine yT Ad W 58 24 rfl (XT.ii_ge_t c328) ?_
  obtain rfl := sj h
  exact zM [G,Y,Y,Y] (hx0 v.2 rfl)
def H1x38 (s : List Int32) (o0 o1 : Ob) (a0_36 : Int32) : QHeap := H1v s (fA o0) (fB o0) (fC o0) (fD o0) (fE o0) (fF o0) (fG o0) (fH o0) (fI o0) (fJ o0) (fK o0) (fL o0) (fM o0) (fN o0) (fR o0) (fT o0) (fU o0) (fV o0) (fW o0) (fX o0) (fY o0) (fZ o0) (fd o0) (ff o0) (fh o0) (fi o0) (fm o0) (fq o0) (fu o0) (fy o0) (fz o0) (fxA o0) (fxB o0) (fxC o0) (fxD o0) (fxE o0) a0_36 (fxG o0) (fxH o0) (fxI o0) (fxJ o0) (fxK o0) (fxL o0) (fxM o0) (fxN o0) (fxO o0) (fxP o0) (fxQ o0) (fA o1) (fB o1) (fC o1) (fD o1) (fE o1) (fF o1) (fG o1) (fH o1) (fI o1) (fJ o1) (fK o1) (fL o1) (fM o1) (fN o1) (fR o1) (fT o1) (fU o1) (fV o1) (fW o1) (fX o1) (fY o1) (fZ o1) (fd o1) (ff o1) (fh o1) (fi o1) (fm o1) (fq o1) (fu o1) (fy o1) (fz o1) (fxA o1) (fxB o1) (fxC o1) (fxD o1) (fxE o1) (fxF o1) (fxG o1) (fxH o1) (fxI o1) (fxJ o1) (fxK o1) (fxL o1) (fxM o1) (fxN o1) (fxO o1) (fxP o1) (fxQ o1)
def H1x39 (s : List Int32) (o0 o1 : Ob) (a0_36 a0_38 : Int32) : QHeap := H1v s (fA o0) (fB o0) (fC o0) (fD o0) (fE o0) (fF o0) (fG o0) (fH o0) (fI o0) (fJ o0) (fK o0) (fL o0) (fM o0) (fN o0) (fR o0) (fT o0) (fU o0) (fV o0) (fW o0) (fX o0) (fY o0) (fZ o0) (fd o0) (ff o0) (fh o0) (fi o0) (fm o0) (fq o0) (fu o0) (fy o0) (fz o0) (fxA o0) (fxB o0) (fxC o0) (fxD o0) (fxE o0) a0_36 (fxG o0) a0_38 (fxI o0) (fxJ o0) (fxK o0) (fxL o0) (fxM o0) (fxN o0) (fxO o0) (fxP o0) (fxQ o0) (fA o1) (fB o1) (fC o1) (fD o1) (fE o1) (fF o1) (fG o1) (fH o1) (fI o1) (fJ o1) (fK o1) (fL o1) (fM o1) (fN o1) (fR o1) (fT o1) (fU o1) (fV o1) (fW o1) (fX o1) (fY o1) (fZ o1) (fd o1) (ff o1) (fh o1) (fi o1) (fm o1) (fq o1) (fu o1) (fy o1) (fz o1) (fxA o1) (fxB o1) (fxC o1) (fxD o1) (fxE o1) (fxF o1) (fxG o1) (fxH o1) (fxI o1) (fxJ o1) (fxK o1) (fxL o1) (fxM o1) (fxN o1) (fxO o1) (fxP o1) (fxQ o1)
/-- removeCase(I)I -/
def F39 (o : Ob) (x1 : Int32) : Option (Int32 × Ob) :=
 (F16 o x1).bind fun r326 => (if r326 < (0:Int32) then some ((4:Int32), o) else (loopN (B39_14) qN (r326, o)).bind fun e334 => some ((0:Int32), (sxH (sxF e334 ((fxF e334) - (1:Int32))) (1:Int32))))
theorem tF39 (Ad : QAd n0 ad) (W : QW Z a0) (s : List Int32) (e0 o : Ob) (x1 : Int32) {r : Int32 × Ob} (h : F39 o x1 = some r) : QTri l Z n0 ad 39 (0, qentry [.ref 1, .int x1] (pMaxL 39), [], (H1 s o e0)) (some (Value.int r.1)) (H1 s r.2 e0) := by
 unfold F39 at h
 refine yS Ad W 2 (2, [vR 1, vI x1, nN, nN], [.int x1, .ref 1], (H1 s o e0)) rfl ?_
 obtain ⟨r326, hr326, h⟩ := be h
 refine callP W (a := 1) (as := [.int x1]) (rest := []) (w := (some (.int r326))) (σ₁ := (H1 s o e0)) rfl rfl rfl rfl rfl rfl rfl rfl (tF16 Ad W s e0 o x1 hr326) ?_
 refine yS Ad W 2 (7, [vR 1, vI x1, vI r326, nN], [.int r326], (H1 s o e0)) rfl ?_
 rcases qite h with ⟨c327, h⟩ | ⟨c327, h⟩
 ·refine yF Ad W 12 10 rfl (XT.i0_ge_f c327) ?_
  refine yS Ad W 1 (11, [vR 1, vI x1, vI r326, nN], [.int 4], (H1 s o e0)) rfl ?_
  obtain rfl := sj h
  exact retI rfl rfl
 ·refine yT Ad W 12 10 rfl (XT.i0_ge_t c327) ?_
  refine yS Ad W 2 (14, [vR 1, vI x1, vI r326, vI r326], [], (H1 s o e0)) rfl ?_
  obtain ⟨e334, he334, h⟩ := be h
  refine zM [G,Y,Y,G] (loopN_tri (B := B39_14) (T := fun lv335 => QTri l Z n0 ad 39 (14, [vR 1, nN, nN, vI lv335.1], [], (H1 s lv335.2 e0)) (some (Value.int r.1)) (H1 s r.2 e0)) (KE := fun e334a => QTri l Z n0 ad 39 (58, [vR 1, nN, nN, nN], [], (H1 s e334a e0)) (some (Value.int r.1)) (H1 s r.2 e0)) (fun lv335 r hB hE hC => tB39_14 Ad W s e0 lv335 hB (fun x q => hE _ q) (fun x q => hC x q)) qN (r326, o) e334 he334 ?_)
  refine yS Ad W 6 (68, [vR 1, nN, nN, nN], [], (H1x38 s e334 e0 ((fxF e334) - (1:Int32)))) rfl ?_
  refine yS Ad W 3 (73, [vR 1, nN, nN, nN], [], (H1x39 s e334 e0 ((fxF e334) - (1:Int32)) (1:Int32))) rfl ?_
  refine yS Ad W 1 (74, [vR 1, nN, nN, nN], [.int 0], (H1x39 s e334 e0 ((fxF e334) - (1:Int32)) (1:Int32))) rfl ?_
  have E336 : ((H1x39 s e334 e0 ((fxF e334) - (1:Int32)) (1:Int32)) : QHeap) = (H1 s (sxH (sxF e334 ((fxF e334) - (1:Int32))) (1:Int32)) e0) := by simp only [fs, H1, H1v, H1x39, sxF, sxH]
  rw [E336]
  obtain rfl := sj h
  exact retI rfl rfl
theorem tF39a1 (Ad : QAd n0 ad) (W : QW Z a0) (s : List Int32) (e0 o : Ob) (x1 : Int32) {r : Int32 × Ob} (h : F39 o x1 = some r) : QTri l Z n0 ad 39 (0, qentry [.ref 22, .int x1] (pMaxL 39), [], (H1 s e0 o)) (some (Value.int r.1)) (H1 s e0 r.2) := zW (tF39 (zA Ad) W s e0 o x1 h) rfl rfl rfl
def H1x41 (s : List Int32) (o0 o1 : Ob) (a0_37 : Int32) : QHeap := H1v s (fA o0) (fB o0) (fC o0) (fD o0) (fE o0) (fF o0) (fG o0) (fH o0) (fI o0) (fJ o0) (fK o0) (fL o0) (fM o0) (fN o0) (fR o0) (fT o0) (fU o0) (fV o0) (fW o0) (fX o0) (fY o0) (fZ o0) (fd o0) (ff o0) (fh o0) (fi o0) (fm o0) (fq o0) (fu o0) (fy o0) (fz o0) (fxA o0) (fxB o0) (fxC o0) (fxD o0) (fxE o0) (fxF o0) a0_37 (fxH o0) (fxI o0) (fxJ o0) (fxK o0) (fxL o0) (fxM o0) (fxN o0) (fxO o0) (fxP o0) (fxQ o0) (fA o1) (fB o1) (fC o1) (fD o1) (fE o1) (fF o1) (fG o1) (fH o1) (fI o1) (fJ o1) (fK o1) (fL o1) (fM o1) (fN o1) (fR o1) (fT o1) (fU o1) (fV o1) (fW o1) (fX o1) (fY o1) (fZ o1) (fd o1) (ff o1) (fh o1) (fi o1) (fm o1) (fq o1) (fu o1) (fy o1) (fz o1) (fxA o1) (fxB o1) (fxC o1) (fxD o1) (fxE o1) (fxF o1) (fxG o1) (fxH o1) (fxI o1) (fxJ o1) (fxK o1) (fxL o1) (fxM o1) (fxN o1) (fxO o1) (fxP o1) (fxQ o1)
def H1x42 (s : List Int32) (o0 o1 : Ob) (a0_37 a0_38 : Int32) : QHeap := H1v s (fA o0) (fB o0) (fC o0) (fD o0) (fE o0) (fF o0) (fG o0) (fH o0) (fI o0) (fJ o0) (fK o0) (fL o0) (fM o0) (fN o0) (fR o0) (fT o0) (fU o0) (fV o0) (fW o0) (fX o0) (fY o0) (fZ o0) (fd o0) (ff o0) (fh o0) (fi o0) (fm o0) (fq o0) (fu o0) (fy o0) (fz o0) (fxA o0) (fxB o0) (fxC o0) (fxD o0) (fxE o0) (fxF o0) a0_37 a0_38 (fxI o0) (fxJ o0) (fxK o0) (fxL o0) (fxM o0) (fxN o0) (fxO o0) (fxP o0) (fxQ o0) (fA o1) (fB o1) (fC o1) (fD o1) (fE o1) (fF o1) (fG o1) (fH o1) (fI o1) (fJ o1) (fK o1) (fL o1) (fM o1) (fN o1) (fR o1) (fT o1) (fU o1) (fV o1) (fW o1) (fX o1) (fY o1) (fZ o1) (fd o1) (ff o1) (fh o1) (fi o1) (fm o1) (fq o1) (fu o1) (fy o1) (fz o1) (fxA o1) (fxB o1) (fxC o1) (fxD o1) (fxE o1) (fxF o1) (fxG o1) (fxH o1) (fxI o1) (fxJ o1) (fxK o1) (fxL o1) (fxM o1) (fxN o1) (fxO o1) (fxP o1) (fxQ o1)
/-- setDefault(I)I -/
def F27 (o : Ob) (x1 : Int32) : Option (Int32 × Ob) :=
 (if x1 < (0:Int32) then some ((3:Int32), o) else (if x1 < (fxE o) then some ((0:Int32), (sxH (sxG o x1) (1:Int32))) else some ((3:Int32), o)))
theorem tF27 (Ad : QAd n0 ad) (W : QW Z a0) (s : List Int32) (e0 o : Ob) (x1 : Int32) {r : Int32 × Ob} (h : F27 o x1 = some r) : QTri l Z n0 ad 27 (0, qentry [.ref 1, .int x1] (pMaxL 27), [], (H1 s o e0)) (some (Value.int r.1)) (H1 s r.2 e0) := by
 unfold F27 at h
 refine yS Ad W 1 (1, [vR 1, vI x1], [.int x1], (H1 s o e0)) rfl ?_
 rcases qite h with ⟨c352, h⟩ | ⟨c352, h⟩
 ·refine yT Ad W 12 4 rfl (XT.i0_lt_t c352) ?_
  refine yS Ad W 1 (13, [vR 1, vI x1], [.int 3], (H1 s o e0)) rfl ?_
  obtain rfl := sj h
  exact retI rfl rfl
 ·refine yF Ad W 12 4 rfl (XT.i0_lt_f c352) ?_
  refine yS Ad W 3 (9, [vR 1, vI x1], [.int (fxE o), .int x1], (H1 s o e0)) rfl ?_
  rcases qite h with ⟨c353, h⟩ | ⟨c353, h⟩
  ·refine yT Ad W 14 12 rfl (XT.ii_lt_t c353) ?_
   refine yS Ad W 3 (19, [vR 1, vI x1], [], (H1x41 s o e0 x1)) rfl ?_
   refine yS Ad W 3 (24, [vR 1, vI x1], [], (H1x42 s o e0 x1 (1:Int32))) rfl ?_
   refine yS Ad W 1 (25, [vR 1, vI x1], [.int 0], (H1x42 s o e0 x1 (1:Int32))) rfl ?_
   have E354 : ((H1x42 s o e0 x1 (1:Int32)) : QHeap) = (H1 s (sxH (sxG o x1) (1:Int32)) e0) := by simp only [fs, H1, H1v, H1x42, sxG, sxH]
   rw [E354]
   obtain rfl := sj h
   exact retI rfl rfl
  ·refine yF Ad W 14 12 rfl (XT.ii_lt_f c353) ?_
   refine yS Ad W 1 (13, [vR 1, vI x1], [.int 3], (H1 s o e0)) rfl ?_
   obtain rfl := sj h
   exact retI rfl rfl
theorem tF27a1 (Ad : QAd n0 ad) (W : QW Z a0) (s : List Int32) (e0 o : Ob) (x1 : Int32) {r : Int32 × Ob} (h : F27 o x1 = some r) : QTri l Z n0 ad 27 (0, qentry [.ref 22, .int x1] (pMaxL 27), [], (H1 s e0 o)) (some (Value.int r.1)) (H1 s e0 r.2) := zW (tF27 (zA Ad) W s e0 o x1 h) rfl rfl rfl
def H1x45 (s : List Int32) (o0 o1 : Ob) (a0_39 : Int32) : QHeap := H1v s (fA o0) (fB o0) (fC o0) (fD o0) (fE o0) (fF o0) (fG o0) (fH o0) (fI o0) (fJ o0) (fK o0) (fL o0) (fM o0) (fN o0) (fR o0) (fT o0) (fU o0) (fV o0) (fW o0) (fX o0) (fY o0) (fZ o0) (fd o0) (ff o0) (fh o0) (fi o0) (fm o0) (fq o0) (fu o0) (fy o0) (fz o0) (fxA o0) (fxB o0) (fxC o0) (fxD o0) (fxE o0) (fxF o0) (fxG o0) (fxH o0) a0_39 (fxJ o0) (fxK o0) (fxL o0) (fxM o0) (fxN o0) (fxO o0) (fxP o0) (fxQ o0) (fA o1) (fB o1) (fC o1) (fD o1) (fE o1) (fF o1) (fG o1) (fH o1) (fI o1) (fJ o1) (fK o1) (fL o1) (fM o1) (fN o1) (fR o1) (fT o1) (fU o1) (fV o1) (fW o1) (fX o1) (fY o1) (fZ o1) (fd o1) (ff o1) (fh o1) (fi o1) (fm o1) (fq o1) (fu o1) (fy o1) (fz o1) (fxA o1) (fxB o1) (fxC o1) (fxD o1) (fxE o1) (fxF o1) (fxG o1) (fxH o1) (fxI o1) (fxJ o1) (fxK o1) (fxL o1) (fxM o1) (fxN o1) (fxO o1) (fxP o1) (fxQ o1)
def H1x46 (s : List Int32) (o0 o1 : Ob) (a0_39 a0_40 : Int32) : QHeap := H1v s (fA o0) (fB o0) (fC o0) (fD o0) (fE o0) (fF o0) (fG o0) (fH o0) (fI o0) (fJ o0) (fK o0) (fL o0) (fM o0) (fN o0) (fR o0) (fT o0) (fU o0) (fV o0) (fW o0) (fX o0) (fY o0) (fZ o0) (fd o0) (ff o0) (fh o0) (fi o0) (fm o0) (fq o0) (fu o0) (fy o0) (fz o0) (fxA o0) (fxB o0) (fxC o0) (fxD o0) (fxE o0) (fxF o0) (fxG o0) (fxH o0) a0_39 a0_40 (fxK o0) (fxL o0) (fxM o0) (fxN o0) (fxO o0) (fxP o0) (fxQ o0) (fA o1) (fB o1) (fC o1) (fD o1) (fE o1) (fF o1) (fG o1) (fH o1) (fI o1) (fJ o1) (fK o1) (fL o1) (fM o1) (fN o1) (fR o1) (fT o1) (fU o1) (fV o1) (fW o1) (fX o1) (fY o1) (fZ o1) (fd o1) (ff o1) (fh o1) (fi o1) (fm o1) (fq o1) (fu o1) (fy o1) (fz o1) (fxA o1) (fxB o1) (fxC o1) (fxD o1) (fxE o1) (fxF o1) (fxG o1) (fxH o1) (fxI o1) (fxJ o1) (fxK o1) (fxL o1) (fxM o1) (fxN o1) (fxO o1) (fxP o1) (fxQ o1)
def H1x47 (s : List Int32) (o0 o1 : Ob) (a0_16 : List Int32) : QHeap := H1v s (fA o0) (fB o0) (fC o0) (fD o0) (fE o0) (fF o0) (fG o0) (fH o0) (fI o0) (fJ o0) (fK o0) (fL o0) (fM o0) (fN o0) (fR o0) (fT o0) a0_16 (fV o0) (fW o0) (fX o0) (fY o0) (fZ o0) (fd o0) (ff o0) (fh o0) (fi o0) (fm o0) (fq o0) (fu o0) (fy o0) (fz o0) (fxA o0) (fxB o0) (fxC o0) (fxD o0) (fxE o0) (fxF o0) (fxG o0) (fxH o0) (fxI o0) (fxJ o0) (fxK o0) (fxL o0) (fxM o0) (fxN o0) (fxO o0) (fxP o0) (fxQ o0) (fA o1) (fB o1) (fC o1) (fD o1) (fE o1) (fF o1) (fG o1) (fH o1) (fI o1) (fJ o1) (fK o1) (fL o1) (fM o1) (fN o1) (fR o1) (fT o1) (fU o1) (fV o1) (fW o1) (fX o1) (fY o1) (fZ o1) (fd o1) (ff o1) (fh o1) (fi o1) (fm o1) (fq o1) (fu o1) (fy o1) (fz o1) (fxA o1) (fxB o1) (fxC o1) (fxD o1) (fxE o1) (fxF o1) (fxG o1) (fxH o1) (fxI o1) (fxJ o1) (fxK o1) (fxL o1) (fxM o1) (fxN o1) (fxO o1) (fxP o1) (fxQ o1)
def H1x48 (s : List Int32) (o0 o1 : Ob) (a0_16 a0_17 : List Int32) : QHeap := H1v s (fA o0) (fB o0) (fC o0) (fD o0) (fE o0) (fF o0) (fG o0) (fH o0) (fI o0) (fJ o0) (fK o0) (fL o0) (fM o0) (fN o0) (fR o0) (fT o0) a0_16 a0_17 (fW o0) (fX o0) (fY o0) (fZ o0) (fd o0) (ff o0) (fh o0) (fi o0) (fm o0) (fq o0) (fu o0) (fy o0) (fz o0) (fxA o0) (fxB o0) (fxC o0) (fxD o0) (fxE o0) (fxF o0) (fxG o0) (fxH o0) (fxI o0) (fxJ o0) (fxK o0) (fxL o0) (fxM o0) (fxN o0) (fxO o0) (fxP o0) (fxQ o0) (fA o1) (fB o1) (fC o1) (fD o1) (fE o1) (fF o1) (fG o1) (fH o1) (fI o1) (fJ o1) (fK o1) (fL o1) (fM o1) (fN o1) (fR o1) (fT o1) (fU o1) (fV o1) (fW o1) (fX o1) (fY o1) (fZ o1) (fd o1) (ff o1) (fh o1) (fi o1) (fm o1) (fq o1) (fu o1) (fy o1) (fz o1) (fxA o1) (fxB o1) (fxC o1) (fxD o1) (fxE o1) (fxF o1) (fxG o1) (fxH o1) (fxI o1) (fxJ o1) (fxK o1) (fxL o1) (fxM o1) (fxN o1) (fxO o1) (fxP o1) (fxQ o1)
def H1x49 (s : List Int32) (o0 o1 : Ob) (a0_41 : Int32) : QHeap := H1v s (fA o0) (fB o0) (fC o0) (fD o0) (fE o0) (fF o0) (fG o0) (fH o0) (fI o0) (fJ o0) (fK o0) (fL o0) (fM o0) (fN o0) (fR o0) (fT o0) (fU o0) (fV o0) (fW o0) (fX o0) (fY o0) (fZ o0) (fd o0) (ff o0) (fh o0) (fi o0) (fm o0) (fq o0) (fu o0) (fy o0) (fz o0) (fxA o0) (fxB o0) (fxC o0) (fxD o0) (fxE o0) (fxF o0) (fxG o0) (fxH o0) (fxI o0) (fxJ o0) a0_41 (fxL o0) (fxM o0) (fxN o0) (fxO o0) (fxP o0) (fxQ o0) (fA o1) (fB o1) (fC o1) (fD o1) (fE o1) (fF o1) (fG o1) (fH o1) (fI o1) (fJ o1) (fK o1) (fL o1) (fM o1) (fN o1) (fR o1) (fT o1) (fU o1) (fV o1) (fW o1) (fX o1) (fY o1) (fZ o1) (fd o1) (ff o1) (fh o1) (fi o1) (fm o1) (fq o1) (fu o1) (fy o1) (fz o1) (fxA o1) (fxB o1) (fxC o1) (fxD o1) (fxE o1) (fxF o1) (fxG o1) (fxH o1) (fxI o1) (fxJ o1) (fxK o1) (fxL o1) (fxM o1) (fxN o1) (fxO o1) (fxP o1) (fxQ o1)
def H1x50 (s : List Int32) (o0 o1 : Ob) (a0_38 a0_41 : Int32) : QHeap := H1v s (fA o0) (fB o0) (fC o0) (fD o0) (fE o0) (fF o0) (fG o0) (fH o0) (fI o0) (fJ o0) (fK o0) (fL o0) (fM o0) (fN o0) (fR o0) (fT o0) (fU o0) (fV o0) (fW o0) (fX o0) (fY o0) (fZ o0) (fd o0) (ff o0) (fh o0) (fi o0) (fm o0) (fq o0) (fu o0) (fy o0) (fz o0) (fxA o0) (fxB o0) (fxC o0) (fxD o0) (fxE o0) (fxF o0) (fxG o0) a0_38 (fxI o0) (fxJ o0) a0_41 (fxL o0) (fxM o0) (fxN o0) (fxO o0) (fxP o0) (fxQ o0) (fA o1) (fB o1) (fC o1) (fD o1) (fE o1) (fF o1) (fG o1) (fH o1) (fI o1) (fJ o1) (fK o1) (fL o1) (fM o1) (fN o1) (fR o1) (fT o1) (fU o1) (fV o1) (fW o1) (fX o1) (fY o1) (fZ o1) (fd o1) (ff o1) (fh o1) (fi o1) (fm o1) (fq o1) (fu o1) (fy o1) (fz o1) (fxA o1) (fxB o1) (fxC o1) (fxD o1) (fxE o1) (fxF o1) (fxG o1) (fxH o1) (fxI o1) (fxJ o1) (fxK o1) (fxL o1) (fxM o1) (fxN o1) (fxO o1) (fxP o1) (fxQ o1)
def B5_18 (v : Int32 × Ob) : Option (((Ob)) ⊕ (Int32 × Ob)) :=
  (if v.1 < (fxF v.2) then (aget (fR v.2) v.1).bind fun y364 => (aset (fU v.2) v.1 y364).bind fun y365 => (aget (fT v.2) v.1).bind fun y366 => (aset (fV v.2) v.1 (y366.toInt8.toInt32)).bind fun y367 => some (.inr ((v.1 + (1 : Int32)), (sV (sU v.2 y365) y367))) else some (.inl (sxH (sxK v.2 (1 : Int32)) (0 : Int32))))
theorem tB5_18 (Ad : QAd n0 ad) (W : QW Z a0) (s : List Int32) (e0 : Ob) (v : Int32 × Ob) {r : ((Ob)) ⊕ (Int32 × Ob)} {u : Option Value} {τ : QHeap} (h : B5_18 v = some r) (hx0 : ∀ x : Ob, r = .inl x → u = (none : Option Value) ∧ τ = (H1 s x e0)) (hc : ∀ x : Int32 × Ob, r = .inr x → QTri l Z n0 ad 5 (18, [vR 1, vI x.1], [], (H1 s x.2 e0)) u τ) : QTri l Z n0 ad 5 (18, [vR 1, vI v.1], [], (H1 s v.2 e0)) u τ := by
 unfold B5_18 at h
 refine yS Ad W 3 (23, [vR 1, vI v.1], [.int (fxF v.2), .int v.1], (H1 s v.2 e0)) rfl ?_
 rcases qite h with ⟨c363, h⟩ | ⟨c363, h⟩
 ·refine yF Ad W 56 26 rfl (XT.ii_ge_f c363) ?_
  refine yS Ad W 6 (36, [vR 1, vI v.1], [.int v.1, .ref 2, .int v.1, .ref 4], (H1 s v.2 e0)) rfl ?_
  obtain ⟨y364, hy364, h⟩ := be h
  refine zB Ad W (f := fun y364 => (37, [vR 1, vI v.1], [.int y364, .int v.1, .ref 4], (H1 s v.2 e0))) rfl hy364 ?_
  obtain ⟨y365, hy365, h⟩ := be h
  refine zB Ad W (f := fun y365 => (38, [vR 1, vI v.1], [], (H1x47 s v.2 e0 y365))) rfl hy365 ?_
  refine yS Ad W 6 (48, [vR 1, vI v.1], [.int v.1, .ref 3, .int v.1, .ref 5], (H1x47 s v.2 e0 y365)) rfl ?_
  obtain ⟨y366, hy366, h⟩ := be h
  refine zB Ad W (f := fun y366 => (49, [vR 1, vI v.1], [.int y366, .int v.1, .ref 5], (H1x47 s v.2 e0 y365))) rfl hy366 ?_
  obtain ⟨y367, hy367, h⟩ := be h
  refine zB Ad W (f := fun y367 => (50, [vR 1, vI v.1], [], (H1x48 s v.2 e0 y365 y367))) rfl hy367 ?_
  refine yS Ad W 2 (18, [vR 1, vI (v.1 + (1:Int32))], [], (H1x48 s v.2 e0 y365 y367)) rfl ?_
  have E368 : ((H1x48 s v.2 e0 y365 y367) : QHeap) = (H1 s (sV (sU v.2 y365) y367) e0) := by simp only [fs, H1, H1v, H1x48, sU, sV]
  rw [E368]
  obtain rfl := sj h
  exact zM [G,G] (hc ((v.1 + (1:Int32)), (sV (sU v.2 y365) y367)) rfl)
 ·refine yT Ad W 56 26 rfl (XT.ii_ge_t c363) ?_
  refine yS Ad W 3 (61, [vR 1, vI v.1], [], (H1x49 s v.2 e0 (1:Int32))) rfl ?_
  refine yS Ad W 3 (66, [vR 1, vI v.1], [], (H1x50 s v.2 e0 (0:Int32) (1:Int32))) rfl ?_
  have E369 : ((H1x50 s v.2 e0 (0:Int32) (1:Int32)) : QHeap) = (H1 s (sxH (sxK v.2 (1:Int32)) (0:Int32)) e0) := by simp only [fs, H1, H1v, H1x50, sxH, sxK]
  rw [E369]
  obtain rfl := sj h
  obtain ⟨rfl, rfl⟩ := hx0 (sxH (sxK v.2 (1:Int32)) (0:Int32)) rfl
  exact ret0 rfl rfl
/-- takeSnapshot()V -/
def F5 (o : Ob) : Option (Ob) :=
 (loopN (B5_18) qN ((0:Int32), (sxJ (sxI o (fxF o)) (fxG o)))).bind fun e370 => some e370
theorem tF5 (Ad : QAd n0 ad) (W : QW Z a0) (s : List Int32) (e0 o : Ob) {r : Ob} (h : F5 o = some r) : QTri l Z n0 ad 5 (0, qentry [.ref 1] (pMaxL 5), [], (H1 s o e0)) (none : Option Value) (H1 s r e0) := by
 unfold F5 at h
 refine yS Ad W 4 (8, [vR 1, nN], [], (H1x45 s o e0 (fxF o))) rfl ?_
 refine yS Ad W 4 (16, [vR 1, nN], [], (H1x46 s o e0 (fxF o) (fxG o))) rfl ?_
 refine yS Ad W 2 (18, [vR 1, vI 0], [], (H1x46 s o e0 (fxF o) (fxG o))) rfl ?_
 have E362 : ((H1x46 s o e0 (fxF o) (fxG o)) : QHeap) = (H1 s (sxJ (sxI o (fxF o)) (fxG o)) e0) := by simp only [fs, H1, H1v, H1x46, sxI, sxJ]
 rw [E362]
 obtain ⟨e370, he370, h⟩ := be h
 refine zM [G,G] (loopN_tri (B := B5_18) (T := fun lv371 => QTri l Z n0 ad 5 (18, [vR 1, vI lv371.1], [], (H1 s lv371.2 e0)) (none : Option Value) (H1 s r e0)) (KE := fun e370a => (none : Option Value) = (none : Option Value) ∧ (H1 s r e0) = (H1 s e370a e0)) (fun lv371 r hB hE hC => tB5_18 Ad W s e0 lv371 hB (fun x q => hE _ q) (fun x q => hC x q)) qN ((0:Int32), (sxJ (sxI o (fxF o)) (fxG o))) e370 he370 ?_)
 obtain rfl := sj h
 exact ⟨rfl, rfl⟩
def H1x51 (s : List Int32) (o0 o1 : Ob) (a0_18 : List Int32) : QHeap := H1v s (fA o0) (fB o0) (fC o0) (fD o0) (fE o0) (fF o0) (fG o0) (fH o0) (fI o0) (fJ o0) (fK o0) (fL o0) (fM o0) (fN o0) (fR o0) (fT o0) (fU o0) (fV o0) a0_18 (fX o0) (fY o0) (fZ o0) (fd o0) (ff o0) (fh o0) (fi o0) (fm o0) (fq o0) (fu o0) (fy o0) (fz o0) (fxA o0) (fxB o0) (fxC o0) (fxD o0) (fxE o0) (fxF o0) (fxG o0) (fxH o0) (fxI o0) (fxJ o0) (fxK o0) (fxL o0) (fxM o0) (fxN o0) (fxO o0) (fxP o0) (fxQ o0) (fA o1) (fB o1) (fC o1) (fD o1) (fE o1) (fF o1) (fG o1) (fH o1) (fI o1) (fJ o1) (fK o1) (fL o1) (fM o1) (fN o1) (fR o1) (fT o1) (fU o1) (fV o1) (fW o1) (fX o1) (fY o1) (fZ o1) (fd o1) (ff o1) (fh o1) (fi o1) (fm o1) (fq o1) (fu o1) (fy o1) (fz o1) (fxA o1) (fxB o1) (fxC o1) (fxD o1) (fxE o1) (fxF o1) (fxG o1) (fxH o1) (fxI o1) (fxJ o1) (fxK o1) (fxL o1) (fxM o1) (fxN o1) (fxO o1) (fxP o1) (fxQ o1)
def H1x52 (s : List Int32) (o0 o1 : Ob) (a0_18 a0_19 : List Int32) : QHeap := H1v s (fA o0) (fB o0) (fC o0) (fD o0) (fE o0) (fF o0) (fG o0) (fH o0) (fI o0) (fJ o0) (fK o0) (fL o0) (fM o0) (fN o0) (fR o0) (fT o0) (fU o0) (fV o0) a0_18 a0_19 (fY o0) (fZ o0) (fd o0) (ff o0) (fh o0) (fi o0) (fm o0) (fq o0) (fu o0) (fy o0) (fz o0) (fxA o0) (fxB o0) (fxC o0) (fxD o0) (fxE o0) (fxF o0) (fxG o0) (fxH o0) (fxI o0) (fxJ o0) (fxK o0) (fxL o0) (fxM o0) (fxN o0) (fxO o0) (fxP o0) (fxQ o0) (fA o1) (fB o1) (fC o1) (fD o1) (fE o1) (fF o1) (fG o1) (fH o1) (fI o1) (fJ o1) (fK o1) (fL o1) (fM o1) (fN o1) (fR o1) (fT o1) (fU o1) (fV o1) (fW o1) (fX o1) (fY o1) (fZ o1) (fd o1) (ff o1) (fh o1) (fi o1) (fm o1) (fq o1) (fu o1) (fy o1) (fz o1) (fxA o1) (fxB o1) (fxC o1) (fxD o1) (fxE o1) (fxF o1) (fxG o1) (fxH o1) (fxI o1) (fxJ o1) (fxK o1) (fxL o1) (fxM o1) (fxN o1) (fxO o1) (fxP o1) (fxQ o1)
/-- clusterFits(JII)Z -/
def F29 (x1 : Int64) (x3 x4 : Int32) : Option (Int32) :=
 (if x3 < (2:Int32) then some (0:Int32) else (if (if (64 : Int64) < x1 then (0:Int32) else (if (3:Int32) < x4 then (0:Int32) else (1:Int32))) = (0:Int32) then (if (if ((4 : Int64) * (x3.toInt64)) < x1 then (0:Int32) else (1:Int32)) = (0:Int32) then some (0:Int32) else some (1:Int32)) else some (1:Int32)))
theorem tF29 (Ad : QAd n0 ad) (W : QW Z a0) {a : Nat} {σ : QHeap} (x1 : Int64) (x3 x4 : Int32) {r : Int32} (h : F29 x1 x3 x4 = some r) : QTri l Z n0 ad 29 (0, qentry [.ref a, .long x1, .int x3, .int x4] (pMaxL 29), [], σ) (some (Value.int r)) σ := by
 unfold F29 at h
 refine yS Ad W 2 (2, [vR a, vL x1, nN, vI x3, vI x4, nN, nN], [.int 2, .int x3], σ) rfl ?_
 rcases qite h with ⟨c390, h⟩ | ⟨c390, h⟩
 ·refine yF Ad W 7 5 rfl (XT.ii_ge_f c390) ?_
  refine yS Ad W 1 (6, [vR a, vL x1, nN, vI x3, vI x4, nN, nN], [.int 0], σ) rfl ?_
  obtain rfl := sj h
  exact retZ rfl rfl
 ·refine yT Ad W 7 5 rfl (XT.ii_ge_t c390) ?_
  refine yS Ad W 3 (12, [vR a, vL x1, nN, vI x3, vI x4, nN, nN], [.int (XT.cmpL x1 (64 : Int64))], σ) rfl ?_
  have K392 : ∀ z391 : Int32, z391 = (if (64 : Int64) < x1 then (0:Int32) else (if (3:Int32) < x4 then (0:Int32) else (1:Int32))) → QTri l Z n0 ad 29 (26, [nN, vL x1, nN, vI x3, nN, nN, nN], [.int z391], σ) (some (Value.int r)) σ := by
   intro z391 ez391
   subst ez391
   refine yS Ad W 7 (36, [nN, vL x1, nN, vI x3, nN, vI (if (64 : Int64) < x1 then (0:Int32) else (if (3:Int32) < x4 then (0:Int32) else (1:Int32))), nN], [.int (XT.cmpL x1 ((4 : Int64) * (x3.toInt64)))], σ) rfl ?_
   have K396 : ∀ z395 : Int32, z395 = (if ((4 : Int64) * (x3.toInt64)) < x1 then (0:Int32) else (1:Int32)) → QTri l Z n0 ad 29 (44, [nN, nN, nN, nN, nN, vI (if (64 : Int64) < x1 then (0:Int32) else (if (3:Int32) < x4 then (0:Int32) else (1:Int32))), nN], [.int z395], σ) (some (Value.int r)) σ := by
    intro z395 ez395
    subst ez395
    refine yS Ad W 2 (48, [nN, nN, nN, nN, nN, vI (if (64 : Int64) < x1 then (0:Int32) else (if (3:Int32) < x4 then (0:Int32) else (1:Int32))), vI (if ((4 : Int64) * (x3.toInt64)) < x1 then (0:Int32) else (1:Int32))], [.int (if (64 : Int64) < x1 then (0:Int32) else (if (3:Int32) < x4 then (0:Int32) else (1:Int32)))], σ) rfl ?_
    rcases qite h with ⟨c398, h⟩ | ⟨c398, h⟩
    ·refine yF Ad W 56 51 rfl (XT.i0_ne_f c398) ?_
     refine yS Ad W 1 (53, [nN, nN, nN, nN, nN, vI (if (64 : Int64) < x1 then (0:Int32) else (if (3:Int32) < x4 then (0:Int32) else (1:Int32))), vI (if ((4 : Int64) * (x3.toInt64)) < x1 then (0:Int32) else (1:Int32))], [.int (if ((4 : Int64) * (x3.toInt64)) < x1 then (0:Int32) else (1:Int32))], σ) rfl ?_
     rcases qite h with ⟨c399, h⟩ | ⟨c399, h⟩
     ·refine yT Ad W 60 56 rfl (XT.i0_eq_t c399) ?_
      refine yS Ad W 1 (61, [nN, nN, nN, nN, nN, vI (if (64 : Int64) < x1 then (0:Int32) else (if (3:Int32) < x4 then (0:Int32) else (1:Int32))), vI (if ((4 : Int64) * (x3.toInt64)) < x1 then (0:Int32) else (1:Int32))], [.int 0], σ) rfl ?_
      obtain rfl := sj h
      exact retZ rfl rfl
     ·refine yF Ad W 60 56 rfl (XT.i0_eq_f c399) ?_
      refine yS Ad W 2 (61, [nN, nN, nN, nN, nN, vI (if (64 : Int64) < x1 then (0:Int32) else (if (3:Int32) < x4 then (0:Int32) else (1:Int32))), vI (if ((4 : Int64) * (x3.toInt64)) < x1 then (0:Int32) else (1:Int32))], [.int 1], σ) rfl ?_
      obtain rfl := sj h
      exact retZ rfl rfl
    ·refine yT Ad W 56 51 rfl (XT.i0_ne_t c398) ?_
     refine yS Ad W 2 (61, [nN, nN, nN, nN, nN, vI (if (64 : Int64) < x1 then (0:Int32) else (if (3:Int32) < x4 then (0:Int32) else (1:Int32))), vI (if ((4 : Int64) * (x3.toInt64)) < x1 then (0:Int32) else (1:Int32))], [.int 1], σ) rfl ?_
     obtain rfl := sj h
     exact retZ rfl rfl
   rcases em (((4 : Int64) * (x3.toInt64)) < x1) with c397 | c397
   ·refine yT Ad W 43 39 rfl (XT.ll_gt_t c397) ?_
    refine yS Ad W 1 (44, [nN, vL x1, nN, vI x3, nN, vI (if (64 : Int64) < x1 then (0:Int32) else (if (3:Int32) < x4 then (0:Int32) else (1:Int32))), nN], [.int 0], σ) rfl ?_
    exact zM [Y,Y,Y,Y,Y,G,Y] (K396 _ (if_pos c397).symm)
   ·refine yF Ad W 43 39 rfl (XT.ll_gt_f c397) ?_
    refine yS Ad W 2 (44, [nN, vL x1, nN, vI x3, nN, vI (if (64 : Int64) < x1 then (0:Int32) else (if (3:Int32) < x4 then (0:Int32) else (1:Int32))), nN], [.int 1], σ) rfl ?_
    exact zM [Y,Y,Y,Y,Y,G,Y] (K396 _ (if_neg c397).symm)
  rcases em ((64 : Int64) < x1) with c393 | c393
  ·refine yT Ad W 25 15 rfl (XT.ll_gt_t c393) ?_
   refine yS Ad W 1 (26, [vR a, vL x1, nN, vI x3, vI x4, nN, nN], [.int 0], σ) rfl ?_
   exact zM [Y,G,Y,G,Y,Y,Y] (K392 _ (if_pos c393).symm)
  ·refine yF Ad W 25 15 rfl (XT.ll_gt_f c393) ?_
   refine yS Ad W 2 (18, [vR a, vL x1, nN, vI x3, vI x4, nN, nN], [.int 3, .int x4], σ) rfl ?_
   rcases em ((3:Int32) < x4) with c394 | c394
   ·refine yT Ad W 25 21 rfl (XT.ii_gt_t c394) ?_
    refine yS Ad W 1 (26, [vR a, vL x1, nN, vI x3, vI x4, nN, nN], [.int 0], σ) rfl ?_
    exact zM [Y,G,Y,G,Y,Y,Y] (K392 _ ((if_neg c393).trans (if_pos c394)).symm)
   ·refine yF Ad W 25 21 rfl (XT.ii_gt_f c394) ?_
    refine yS Ad W 2 (26, [vR a, vL x1, nN, vI x3, vI x4, nN, nN], [.int 1], σ) rfl ?_
    exact zM [Y,G,Y,G,Y,Y,Y] (K392 _ ((if_neg c393).trans (if_neg c394)).symm)
def J6_194 (o : Ob) (x1 x2 : Int32) (x3 x4 x5 : Int32) : Option (((Ob) ⊕ (Ob)) ⊕ (Int32 × Int32 × Int32 × Ob)) :=
  some (.inr (x3, x4, (x5 + (-1 : Int32)), o))
theorem tJ6_194 (Ad : QAd n0 ad) (W : QW Z a0) (s : List Int32) (e0 o : Ob) (x1 x2 : Int32) (x3 x4 x5 : Int32) {r : ((Ob) ⊕ (Ob)) ⊕ (Int32 × Int32 × Int32 × Ob)} {u : Option Value} {τ : QHeap} (h : J6_194 o x1 x2 x3 x4 x5 = some r) (hx0 : ∀ x : Ob, r = .inl (Sum.inl x) → QTri l Z n0 ad 6 (123, [vR 1, vI x1, vI x2, nN, nN, nN, nN, nN, nN, nN], [], (H1 s x e0)) u τ) (hx1 : ∀ x : Ob, r = .inl (Sum.inr x) → QTri l Z n0 ad 6 (200, [vR 1, vI x1, vI x2, nN, nN, nN, nN, nN, nN, nN], [], (H1 s x e0)) u τ) (hc : ∀ x : Int32 × Int32 × Int32 × Ob, r = .inr x → QTri l Z n0 ad 6 (52, [vR 1, vI x1, vI x2, vI x.1, vI x.2.1, vI x.2.2.1, nN, nN, nN, nN], [], (H1 s x.2.2.2 e0)) u τ) : QTri l Z n0 ad 6 (194, [vR 1, vI x1, vI x2, vI x3, vI x4, vI x5, nN, nN, nN, nN], [], (H1 s o e0)) u τ := by
 unfold J6_194 at h
 refine yS Ad W 2 (52, [vR 1, vI x1, vI x2, vI x3, vI x4, vI (x5 + (-1:Int32)), nN, nN, nN, nN], [], (H1 s o e0)) rfl ?_
 obtain rfl := sj h
 exact zM [G,G,G,G,G,G,Y,Y,Y,Y] (hc (x3, x4, (x5 + (-1:Int32)), o) rfl)
def B6_52 (x1 x2 : Int32) (v : Int32 × Int32 × Int32 × Ob) : Option (((Ob) ⊕ (Ob)) ⊕ (Int32 × Int32 × Int32 × Ob)) :=
  (if v.2.2.1 < (0 : Int32) then some (.inl (Sum.inr v.2.2.2)) else (aget (fV v.2.2.2) v.2.2.1).bind fun y381 => (aget (fU v.2.2.2) x2).bind fun y387 => (aget (fU v.2.2.2) v.2.2.1).bind fun y388 => (if (256 : Int64) < (((y387.toInt64) - (y388.toInt64)) + (1 : Int64)) then some (.inl (Sum.inl v.2.2.2)) else (F29 (((y387.toInt64) - (y388.toInt64)) + (1 : Int64)) ((x2 - v.2.2.1) + (1 : Int32)) (if y381 = (fxJ v.2.2.2) then v.2.1 else (if (v.1 &&& ((1 : Int32) <<< (y381 &&& 31))) = (0 : Int32) then (v.2.1 + (1 : Int32)) else v.2.1))).bind fun r400 => (if r400 = (0 : Int32) then (J6_194 v.2.2.2 x1 x2 (if y381 = (fxJ v.2.2.2) then v.1 else (if (v.1 &&& ((1 : Int32) <<< (y381 &&& 31))) = (0 : Int32) then (v.1 ||| ((1 : Int32) <<< (y381 &&& 31))) else v.1)) (if y381 = (fxJ v.2.2.2) then v.2.1 else (if (v.1 &&& ((1 : Int32) <<< (y381 &&& 31))) = (0 : Int32) then (v.2.1 + (1 : Int32)) else v.2.1)) v.2.2.1) else (aget (fW v.2.2.2) v.2.2.1).bind fun y402 => (aget (fW v.2.2.2) (x2 + (1 : Int32))).bind fun y403 => (if (y402 + (1 : Int32)) < y403 then (aget (fW v.2.2.2) v.2.2.1).bind fun y405 => (aset (fW v.2.2.2) (x2 + (1 : Int32)) (y405 + (1 : Int32))).bind fun y406 => (aset (fX v.2.2.2) (x2 + (1 : Int32)) v.2.2.1).bind fun y407 => (J6_194 (sX (sW v.2.2.2 y406) y407) x1 x2 (if y381 = (fxJ v.2.2.2) then v.1 else (if (v.1 &&& ((1 : Int32) <<< (y381 &&& 31))) = (0 : Int32) then (v.1 ||| ((1 : Int32) <<< (y381 &&& 31))) else v.1)) (if y381 = (fxJ v.2.2.2) then v.2.1 else (if (v.1 &&& ((1 : Int32) <<< (y381 &&& 31))) = (0 : Int32) then (v.2.1 + (1 : Int32)) else v.2.1)) v.2.2.1) else (J6_194 v.2.2.2 x1 x2 (if y381 = (fxJ v.2.2.2) then v.1 else (if (v.1 &&& ((1 : Int32) <<< (y381 &&& 31))) = (0 : Int32) then (v.1 ||| ((1 : Int32) <<< (y381 &&& 31))) else v.1)) (if y381 = (fxJ v.2.2.2) then v.2.1 else (if (v.1 &&& ((1 : Int32) <<< (y381 &&& 31))) = (0 : Int32) then (v.2.1 + (1 : Int32)) else v.2.1)) v.2.2.1)))))
theorem tB6_52 (Ad : QAd n0 ad) (W : QW Z a0) (s : List Int32) (e0 : Ob) (x1 x2 : Int32) (v : Int32 × Int32 × Int32 × Ob) {r : ((Ob) ⊕ (Ob)) ⊕ (Int32 × Int32 × Int32 × Ob)} {u : Option Value} {τ : QHeap} (h : B6_52 x1 x2 v = some r) (hx0 : ∀ x : Ob, r = .inl (Sum.inl x) → QTri l Z n0 ad 6 (123, [vR 1, vI x1, vI x2, nN, nN, nN, nN, nN, nN, nN], [], (H1 s x e0)) u τ) (hx1 : ∀ x : Ob, r = .inl (Sum.inr x) → QTri l Z n0 ad 6 (200, [vR 1, vI x1, vI x2, nN, nN, nN, nN, nN, nN, nN], [], (H1 s x e0)) u τ) (hc : ∀ x : Int32 × Int32 × Int32 × Ob, r = .inr x → QTri l Z n0 ad 6 (52, [vR 1, vI x1, vI x2, vI x.1, vI x.2.1, vI x.2.2.1, nN, nN, nN, nN], [], (H1 s x.2.2.2 e0)) u τ) : QTri l Z n0 ad 6 (52, [vR 1, vI x1, vI x2, vI v.1, vI v.2.1, vI v.2.2.1, nN, nN, nN, nN], [], (H1 s v.2.2.2 e0)) u τ := by
 unfold B6_52 at h
 refine yS Ad W 1 (54, [vR 1, vI x1, vI x2, vI v.1, vI v.2.1, vI v.2.2.1, nN, nN, nN, nN], [.int v.2.2.1], (H1 s v.2.2.2 e0)) rfl ?_
 rcases qite h with ⟨c380, h⟩ | ⟨c380, h⟩
 ·refine yT Ad W 200 57 rfl (XT.i0_lt_t c380) ?_
  obtain rfl := sj h
  exact zM [G,G,G,Y,Y,Y,Y,Y,Y,Y] (hx1 v.2.2.2 rfl)
 ·refine yF Ad W 200 57 rfl (XT.i0_lt_f c380) ?_
  refine yS Ad W 3 (63, [vR 1, vI x1, vI x2, vI v.1, vI v.2.1, vI v.2.2.1, nN, nN, nN, nN], [.int v.2.2.1, .ref 5], (H1 s v.2.2.2 e0)) rfl ?_
  obtain ⟨y381, hy381, h⟩ := be h
  refine zB Ad W (f := fun y381 => (64, [vR 1, vI x1, vI x2, vI v.1, vI v.2.1, vI v.2.2.1, nN, nN, nN, nN], [.int y381], (H1 s v.2.2.2 e0))) rfl hy381 ?_
  refine yS Ad W 4 (72, [vR 1, vI x1, vI x2, vI v.1, vI v.2.1, vI v.2.2.1, vI y381, nN, nN, nN], [.int (fxJ v.2.2.2), .int y381], (H1 s v.2.2.2 e0)) rfl ?_
  have K384 : ∀ z382 : Int32, z382 = (if y381 = (fxJ v.2.2.2) then v.1 else (if (v.1 &&& ((1:Int32) <<< (y381 &&& 31))) = (0:Int32) then (v.1 ||| ((1:Int32) <<< (y381 &&& 31))) else v.1)) → ∀ z383 : Int32, z383 = (if y381 = (fxJ v.2.2.2) then v.2.1 else (if (v.1 &&& ((1:Int32) <<< (y381 &&& 31))) = (0:Int32) then (v.2.1 + (1:Int32)) else v.2.1)) → QTri l Z n0 ad 6 (94, [vR 1, vI x1, vI x2, vI z382, vI z383, vI v.2.2.1, nN, nN, nN, nN], [], (H1 s v.2.2.2 e0)) u τ := by
   intro z382 ez382
   intro z383 ez383
   subst ez382
   subst ez383
   refine yS Ad W 3 (99, [vR 1, vI x1, vI x2, vI (if y381 = (fxJ v.2.2.2) then v.1 else (if (v.1 &&& ((1:Int32) <<< (y381 &&& 31))) = (0:Int32) then (v.1 ||| ((1:Int32) <<< (y381 &&& 31))) else v.1)), vI (if y381 = (fxJ v.2.2.2) then v.2.1 else (if (v.1 &&& ((1:Int32) <<< (y381 &&& 31))) = (0:Int32) then (v.2.1 + (1:Int32)) else v.2.1)), vI v.2.2.1, nN, nN, nN, nN], [.int x2, .ref 4], (H1 s v.2.2.2 e0)) rfl ?_
   obtain ⟨y387, hy387, h⟩ := be h
   refine zB Ad W (f := fun y387 => (100, [vR 1, vI x1, vI x2, vI (if y381 = (fxJ v.2.2.2) then v.1 else (if (v.1 &&& ((1:Int32) <<< (y381 &&& 31))) = (0:Int32) then (v.1 ||| ((1:Int32) <<< (y381 &&& 31))) else v.1)), vI (if y381 = (fxJ v.2.2.2) then v.2.1 else (if (v.1 &&& ((1:Int32) <<< (y381 &&& 31))) = (0:Int32) then (v.2.1 + (1:Int32)) else v.2.1)), vI v.2.2.1, nN, nN, nN, nN], [.int y387], (H1 s v.2.2.2 e0))) rfl hy387 ?_
   refine yS Ad W 4 (107, [vR 1, vI x1, vI x2, vI (if y381 = (fxJ v.2.2.2) then v.1 else (if (v.1 &&& ((1:Int32) <<< (y381 &&& 31))) = (0:Int32) then (v.1 ||| ((1:Int32) <<< (y381 &&& 31))) else v.1)), vI (if y381 = (fxJ v.2.2.2) then v.2.1 else (if (v.1 &&& ((1:Int32) <<< (y381 &&& 31))) = (0:Int32) then (v.2.1 + (1:Int32)) else v.2.1)), vI v.2.2.1, nN, nN, nN, nN], [.int v.2.2.1, .ref 4, .long (y387.toInt64)], (H1 s v.2.2.2 e0)) rfl ?_
   obtain ⟨y388, hy388, h⟩ := be h
   refine zB Ad W (f := fun y388 => (108, [vR 1, vI x1, vI x2, vI (if y381 = (fxJ v.2.2.2) then v.1 else (if (v.1 &&& ((1:Int32) <<< (y381 &&& 31))) = (0:Int32) then (v.1 ||| ((1:Int32) <<< (y381 &&& 31))) else v.1)), vI (if y381 = (fxJ v.2.2.2) then v.2.1 else (if (v.1 &&& ((1:Int32) <<< (y381 &&& 31))) = (0:Int32) then (v.2.1 + (1:Int32)) else v.2.1)), vI v.2.2.1, nN, nN, nN, nN], [.int y388, .long (y387.toInt64)], (H1 s v.2.2.2 e0))) rfl hy388 ?_
   refine yS Ad W 8 (120, [vR 1, vI x1, vI x2, vI (if y381 = (fxJ v.2.2.2) then v.1 else (if (v.1 &&& ((1:Int32) <<< (y381 &&& 31))) = (0:Int32) then (v.1 ||| ((1:Int32) <<< (y381 &&& 31))) else v.1)), vI (if y381 = (fxJ v.2.2.2) then v.2.1 else (if (v.1 &&& ((1:Int32) <<< (y381 &&& 31))) = (0:Int32) then (v.2.1 + (1:Int32)) else v.2.1)), vI v.2.2.1, nN, vL (((y387.toInt64) - (y388.toInt64)) + (1 : Int64)), nN, nN], [.int (XT.cmpL (((y387.toInt64) - (y388.toInt64)) + (1 : Int64)) (256 : Int64))], (H1 s v.2.2.2 e0)) rfl ?_
   rcases qite h with ⟨c389, h⟩ | ⟨c389, h⟩
   ·refine yF Ad W 126 123 rfl (XT.ll_le_f c389) ?_
    obtain rfl := sj h
    exact zM [G,G,G,Y,Y,Y,Y,Y,Y,Y] (hx0 v.2.2.2 rfl)
   ·refine yT Ad W 126 123 rfl (XT.ll_le_t c389) ?_
    refine yS Ad W 8 (137, [vR 1, vI x1, vI x2, vI (if y381 = (fxJ v.2.2.2) then v.1 else (if (v.1 &&& ((1:Int32) <<< (y381 &&& 31))) = (0:Int32) then (v.1 ||| ((1:Int32) <<< (y381 &&& 31))) else v.1)), vI (if y381 = (fxJ v.2.2.2) then v.2.1 else (if (v.1 &&& ((1:Int32) <<< (y381 &&& 31))) = (0:Int32) then (v.2.1 + (1:Int32)) else v.2.1)), vI v.2.2.1, nN, vL (((y387.toInt64) - (y388.toInt64)) + (1 : Int64)), nN, nN], [.int (if y381 = (fxJ v.2.2.2) then v.2.1 else (if (v.1 &&& ((1:Int32) <<< (y381 &&& 31))) = (0:Int32) then (v.2.1 + (1:Int32)) else v.2.1)), .int ((x2 - v.2.2.1) + (1:Int32)), .long (((y387.toInt64) - (y388.toInt64)) + (1 : Int64)), .ref 1], (H1 s v.2.2.2 e0)) rfl ?_
    obtain ⟨r400, hr400, h⟩ := be h
    refine callP W (a := 1) (as := [.long (((y387.toInt64) - (y388.toInt64)) + (1 : Int64)), .int ((x2 - v.2.2.1) + (1:Int32)), .int (if y381 = (fxJ v.2.2.2) then v.2.1 else (if (v.1 &&& ((1:Int32) <<< (y381 &&& 31))) = (0:Int32) then (v.2.1 + (1:Int32)) else v.2.1))]) (rest := []) (w := (some (.int r400))) (σ₁ := (H1 s v.2.2.2 e0)) rfl rfl rfl rfl rfl rfl rfl rfl (tF29 Ad W (((y387.toInt64) - (y388.toInt64)) + (1 : Int64)) ((x2 - v.2.2.1) + (1:Int32)) (if y381 = (fxJ v.2.2.2) then v.2.1 else (if (v.1 &&& ((1:Int32) <<< (y381 &&& 31))) = (0:Int32) then (v.2.1 + (1:Int32)) else v.2.1)) hr400) ?_
    refine yS Ad W 2 (144, [vR 1, vI x1, vI x2, vI (if y381 = (fxJ v.2.2.2) then v.1 else (if (v.1 &&& ((1:Int32) <<< (y381 &&& 31))) = (0:Int32) then (v.1 ||| ((1:Int32) <<< (y381 &&& 31))) else v.1)), vI (if y381 = (fxJ v.2.2.2) then v.2.1 else (if (v.1 &&& ((1:Int32) <<< (y381 &&& 31))) = (0:Int32) then (v.2.1 + (1:Int32)) else v.2.1)), vI v.2.2.1, nN, vL (((y387.toInt64) - (y388.toInt64)) + (1 : Int64)), nN, vI r400], [.int r400], (H1 s v.2.2.2 e0)) rfl ?_
    rcases qite h with ⟨c401, h⟩ | ⟨c401, h⟩
    ·refine yT Ad W 194 147 rfl (XT.i0_eq_t c401) ?_
     exact zM [G,G,G,G,G,G,Y,Y,Y,Y] (tJ6_194 Ad W s e0 v.2.2.2 x1 x2 (if y381 = (fxJ v.2.2.2) then v.1 else (if (v.1 &&& ((1:Int32) <<< (y381 &&& 31))) = (0:Int32) then (v.1 ||| ((1:Int32) <<< (y381 &&& 31))) else v.1)) (if y381 = (fxJ v.2.2.2) then v.2.1 else (if (v.1 &&& ((1:Int32) <<< (y381 &&& 31))) = (0:Int32) then (v.2.1 + (1:Int32)) else v.2.1)) v.2.2.1 h hx0 hx1 hc)
    ·refine yF Ad W 194 147 rfl (XT.i0_eq_f c401) ?_
     refine yS Ad W 3 (153, [vR 1, vI x1, vI x2, vI (if y381 = (fxJ v.2.2.2) then v.1 else (if (v.1 &&& ((1:Int32) <<< (y381 &&& 31))) = (0:Int32) then (v.1 ||| ((1:Int32) <<< (y381 &&& 31))) else v.1)), vI (if y381 = (fxJ v.2.2.2) then v.2.1 else (if (v.1 &&& ((1:Int32) <<< (y381 &&& 31))) = (0:Int32) then (v.2.1 + (1:Int32)) else v.2.1)), vI v.2.2.1, nN, vL (((y387.toInt64) - (y388.toInt64)) + (1 : Int64)), nN, vI r400], [.int v.2.2.1, .ref 6], (H1 s v.2.2.2 e0)) rfl ?_
     obtain ⟨y402, hy402, h⟩ := be h
     refine zB Ad W (f := fun y402 => (154, [vR 1, vI x1, vI x2, vI (if y381 = (fxJ v.2.2.2) then v.1 else (if (v.1 &&& ((1:Int32) <<< (y381 &&& 31))) = (0:Int32) then (v.1 ||| ((1:Int32) <<< (y381 &&& 31))) else v.1)), vI (if y381 = (fxJ v.2.2.2) then v.2.1 else (if (v.1 &&& ((1:Int32) <<< (y381 &&& 31))) = (0:Int32) then (v.2.1 + (1:Int32)) else v.2.1)), vI v.2.2.1, nN, vL (((y387.toInt64) - (y388.toInt64)) + (1 : Int64)), nN, vI r400], [.int y402], (H1 s v.2.2.2 e0))) rfl hy402 ?_
     refine yS Ad W 7 (163, [vR 1, vI x1, vI x2, vI (if y381 = (fxJ v.2.2.2) then v.1 else (if (v.1 &&& ((1:Int32) <<< (y381 &&& 31))) = (0:Int32) then (v.1 ||| ((1:Int32) <<< (y381 &&& 31))) else v.1)), vI (if y381 = (fxJ v.2.2.2) then v.2.1 else (if (v.1 &&& ((1:Int32) <<< (y381 &&& 31))) = (0:Int32) then (v.2.1 + (1:Int32)) else v.2.1)), vI v.2.2.1, nN, vL (((y387.toInt64) - (y388.toInt64)) + (1 : Int64)), nN, vI r400], [.int (x2 + (1:Int32)), .ref 6, .int (y402 + (1:Int32))], (H1 s v.2.2.2 e0)) rfl ?_
     obtain ⟨y403, hy403, h⟩ := be h
     refine zB Ad W (f := fun y403 => (164, [vR 1, vI x1, vI x2, vI (if y381 = (fxJ v.2.2.2) then v.1 else (if (v.1 &&& ((1:Int32) <<< (y381 &&& 31))) = (0:Int32) then (v.1 ||| ((1:Int32) <<< (y381 &&& 31))) else v.1)), vI (if y381 = (fxJ v.2.2.2) then v.2.1 else (if (v.1 &&& ((1:Int32) <<< (y381 &&& 31))) = (0:Int32) then (v.2.1 + (1:Int32)) else v.2.1)), vI v.2.2.1, nN, vL (((y387.toInt64) - (y388.toInt64)) + (1 : Int64)), nN, vI r400], [.int y403, .int (y402 + (1:Int32))], (H1 s v.2.2.2 e0))) rfl hy403 ?_
     rcases qite h with ⟨c404, h⟩ | ⟨c404, h⟩
     ·refine yF Ad W 194 167 rfl (XT.ii_ge_f c404) ?_
      refine yS Ad W 8 (180, [vR 1, vI x1, vI x2, vI (if y381 = (fxJ v.2.2.2) then v.1 else (if (v.1 &&& ((1:Int32) <<< (y381 &&& 31))) = (0:Int32) then (v.1 ||| ((1:Int32) <<< (y381 &&& 31))) else v.1)), vI (if y381 = (fxJ v.2.2.2) then v.2.1 else (if (v.1 &&& ((1:Int32) <<< (y381 &&& 31))) = (0:Int32) then (v.2.1 + (1:Int32)) else v.2.1)), vI v.2.2.1, nN, vL (((y387.toInt64) - (y388.toInt64)) + (1 : Int64)), nN, vI r400], [.int v.2.2.1, .ref 6, .int (x2 + (1:Int32)), .ref 6], (H1 s v.2.2.2 e0)) rfl ?_
      obtain ⟨y405, hy405, h⟩ := be h
      refine zB Ad W (f := fun y405 => (181, [vR 1, vI x1, vI x2, vI (if y381 = (fxJ v.2.2.2) then v.1 else (if (v.1 &&& ((1:Int32) <<< (y381 &&& 31))) = (0:Int32) then (v.1 ||| ((1:Int32) <<< (y381 &&& 31))) else v.1)), vI (if y381 = (fxJ v.2.2.2) then v.2.1 else (if (v.1 &&& ((1:Int32) <<< (y381 &&& 31))) = (0:Int32) then (v.2.1 + (1:Int32)) else v.2.1)), vI v.2.2.1, nN, vL (((y387.toInt64) - (y388.toInt64)) + (1 : Int64)), nN, vI r400], [.int y405, .int (x2 + (1:Int32)), .ref 6], (H1 s v.2.2.2 e0))) rfl hy405 ?_
      refine yS Ad W 2 (183, [vR 1, vI x1, vI x2, vI (if y381 = (fxJ v.2.2.2) then v.1 else (if (v.1 &&& ((1:Int32) <<< (y381 &&& 31))) = (0:Int32) then (v.1 ||| ((1:Int32) <<< (y381 &&& 31))) else v.1)), vI (if y381 = (fxJ v.2.2.2) then v.2.1 else (if (v.1 &&& ((1:Int32) <<< (y381 &&& 31))) = (0:Int32) then (v.2.1 + (1:Int32)) else v.2.1)), vI v.2.2.1, nN, vL (((y387.toInt64) - (y388.toInt64)) + (1 : Int64)), nN, vI r400], [.int (y405 + (1:Int32)), .int (x2 + (1:Int32)), .ref 6], (H1 s v.2.2.2 e0)) rfl ?_
      obtain ⟨y406, hy406, h⟩ := be h
      refine zB Ad W (f := fun y406 => (184, [vR 1, vI x1, vI x2, vI (if y381 = (fxJ v.2.2.2) then v.1 else (if (v.1 &&& ((1:Int32) <<< (y381 &&& 31))) = (0:Int32) then (v.1 ||| ((1:Int32) <<< (y381 &&& 31))) else v.1)), vI (if y381 = (fxJ v.2.2.2) then v.2.1 else (if (v.1 &&& ((1:Int32) <<< (y381 &&& 31))) = (0:Int32) then (v.2.1 + (1:Int32)) else v.2.1)), vI v.2.2.1, nN, vL (((y387.toInt64) - (y388.toInt64)) + (1 : Int64)), nN, vI r400], [], (H1x51 s v.2.2.2 e0 y406))) rfl hy406 ?_
      refine yS Ad W 6 (193, [vR 1, vI x1, vI x2, vI (if y381 = (fxJ v.2.2.2) then v.1 else (if (v.1 &&& ((1:Int32) <<< (y381 &&& 31))) = (0:Int32) then (v.1 ||| ((1:Int32) <<< (y381 &&& 31))) else v.1)), vI (if y381 = (fxJ v.2.2.2) then v.2.1 else (if (v.1 &&& ((1:Int32) <<< (y381 &&& 31))) = (0:Int32) then (v.2.1 + (1:Int32)) else v.2.1)), vI v.2.2.1, nN, vL (((y387.toInt64) - (y388.toInt64)) + (1 : Int64)), nN, vI r400], [.int v.2.2.1, .int (x2 + (1:Int32)), .ref 7], (H1x51 s v.2.2.2 e0 y406)) rfl ?_
      obtain ⟨y407, hy407, h⟩ := be h
      refine zB Ad W (f := fun y407 => (194, [vR 1, vI x1, vI x2, vI (if y381 = (fxJ v.2.2.2) then v.1 else (if (v.1 &&& ((1:Int32) <<< (y381 &&& 31))) = (0:Int32) then (v.1 ||| ((1:Int32) <<< (y381 &&& 31))) else v.1)), vI (if y381 = (fxJ v.2.2.2) then v.2.1 else (if (v.1 &&& ((1:Int32) <<< (y381 &&& 31))) = (0:Int32) then (v.2.1 + (1:Int32)) else v.2.1)), vI v.2.2.1, nN, vL (((y387.toInt64) - (y388.toInt64)) + (1 : Int64)), nN, vI r400], [], (H1x52 s v.2.2.2 e0 y406 y407))) rfl hy407 ?_
      have E408 : ((H1x52 s v.2.2.2 e0 y406 y407) : QHeap) = (H1 s (sX (sW v.2.2.2 y406) y407) e0) := by simp only [fs, H1, H1v, H1x52, sW, sX]
      rw [E408]
      exact zM [G,G,G,G,G,G,Y,Y,Y,Y] (tJ6_194 Ad W s e0 (sX (sW v.2.2.2 y406) y407) x1 x2 (if y381 = (fxJ v.2.2.2) then v.1 else (if (v.1 &&& ((1:Int32) <<< (y381 &&& 31))) = (0:Int32) then (v.1 ||| ((1:Int32) <<< (y381 &&& 31))) else v.1)) (if y381 = (fxJ v.2.2.2) then v.2.1 else (if (v.1 &&& ((1:Int32) <<< (y381 &&& 31))) = (0:Int32) then (v.2.1 + (1:Int32)) else v.2.1)) v.2.2.1 h hx0 hx1 hc)
     ·refine yT Ad W 194 167 rfl (XT.ii_ge_t c404) ?_
      exact zM [G,G,G,G,G,G,Y,Y,Y,Y] (tJ6_194 Ad W s e0 v.2.2.2 x1 x2 (if y381 = (fxJ v.2.2.2) then v.1 else (if (v.1 &&& ((1:Int32) <<< (y381 &&& 31))) = (0:Int32) then (v.1 ||| ((1:Int32) <<< (y381 &&& 31))) else v.1)) (if y381 = (fxJ v.2.2.2) then v.2.1 else (if (v.1 &&& ((1:Int32) <<< (y381 &&& 31))) = (0:Int32) then (v.2.1 + (1:Int32)) else v.2.1)) v.2.2.1 h hx0 hx1 hc)
  rcases em (y381 = (fxJ v.2.2.2)) with c385 | c385
  ·refine yT Ad W 94 75 rfl (XT.ii_eq_t c385) ?_
   exact zM [G,G,G,G,G,G,Y,Y,Y,Y] (K384 _ (if_pos c385).symm _ (if_pos c385).symm)
  ·refine yF Ad W 94 75 rfl (XT.ii_eq_f c385) ?_
   refine yS Ad W 5 (81, [vR 1, vI x1, vI x2, vI v.1, vI v.2.1, vI v.2.2.1, vI y381, nN, nN, nN], [.int (v.1 &&& ((1:Int32) <<< (y381 &&& 31)))], (H1 s v.2.2.2 e0)) rfl ?_
   rcases em ((v.1 &&& ((1:Int32) <<< (y381 &&& 31))) = (0:Int32)) with c386 | c386
   ·refine yF Ad W 94 84 rfl (XT.i0_ne_f c386) ?_
    refine yS Ad W 7 (94, [vR 1, vI x1, vI x2, vI (v.1 ||| ((1:Int32) <<< (y381 &&& 31))), vI (v.2.1 + (1:Int32)), vI v.2.2.1, vI y381, nN, nN, nN], [], (H1 s v.2.2.2 e0)) rfl ?_
    exact zM [G,G,G,G,G,G,Y,Y,Y,Y] (K384 _ ((if_neg c385).trans (if_pos c386)).symm _ ((if_neg c385).trans (if_pos c386)).symm)
   ·refine yT Ad W 94 84 rfl (XT.i0_ne_t c386) ?_
    exact zM [G,G,G,G,G,G,Y,Y,Y,Y] (K384 _ ((if_neg c385).trans (if_neg c386)).symm _ ((if_neg c385).trans (if_neg c386)).symm)
def J6_200 (o : Ob) (x1 x2 : Int32) : Option (((Ob)) ⊕ (Int32 × Ob)) :=
  some (.inr ((x2 + (1 : Int32)), o))
theorem tJ6_200 (Ad : QAd n0 ad) (W : QW Z a0) (s : List Int32) (e0 o : Ob) (x1 x2 : Int32) {r : ((Ob)) ⊕ (Int32 × Ob)} {u : Option Value} {τ : QHeap} (h : J6_200 o x1 x2 = some r) (hx0 : ∀ x : Ob, r = .inl x → u = (none : Option Value) ∧ τ = (H1 s x e0)) (hc : ∀ x : Int32 × Ob, r = .inr x → QTri l Z n0 ad 6 (14, [vR 1, vI x1, vI x.1, nN, nN, nN, nN, nN, nN, nN], [], (H1 s x.2 e0)) u τ) : QTri l Z n0 ad 6 (200, [vR 1, vI x1, vI x2, nN, nN, nN, nN, nN, nN, nN], [], (H1 s o e0)) u τ := by
 unfold J6_200 at h
 refine yS Ad W 2 (14, [vR 1, vI x1, vI (x2 + (1:Int32)), nN, nN, nN, nN, nN, nN, nN], [], (H1 s o e0)) rfl ?_
 obtain rfl := sj h
 exact zM [G,G,G,Y,Y,Y,Y,Y,Y,Y] (hc ((x2 + (1:Int32)), o) rfl)
def B6_14 (x1 : Int32) (v : Int32 × Ob) : Option (((Ob)) ⊕ (Int32 × Ob)) :=
  (if v.1 < x1 then (aget (fW v.2) v.1).bind fun y376 => (aset (fW v.2) (v.1 + (1 : Int32)) (y376 + (1 : Int32))).bind fun y377 => (aset (fX v.2) (v.1 + (1 : Int32)) v.1).bind fun y378 => ((loopN (B6_52 x1 v.1) qN ((0 : Int32), (0 : Int32), v.1, (sX (sW v.2 y377) y378))).bind fun e409 => match e409 with | .inl e409a => (J6_200 e409a x1 v.1) | .inr e409a => (J6_200 e409a x1 v.1)) else some (.inl v.2))
theorem tB6_14 (Ad : QAd n0 ad) (W : QW Z a0) (s : List Int32) (e0 : Ob) (x1 : Int32) (v : Int32 × Ob) {r : ((Ob)) ⊕ (Int32 × Ob)} {u : Option Value} {τ : QHeap} (h : B6_14 x1 v = some r) (hx0 : ∀ x : Ob, r = .inl x → u = (none : Option Value) ∧ τ = (H1 s x e0)) (hc : ∀ x : Int32 × Ob, r = .inr x → QTri l Z n0 ad 6 (14, [vR 1, vI x1, vI x.1, nN, nN, nN, nN, nN, nN, nN], [], (H1 s x.2 e0)) u τ) : QTri l Z n0 ad 6 (14, [vR 1, vI x1, vI v.1, nN, nN, nN, nN, nN, nN, nN], [], (H1 s v.2 e0)) u τ := by
 unfold B6_14 at h
 refine yS Ad W 2 (16, [vR 1, vI x1, vI v.1, nN, nN, nN, nN, nN, nN, nN], [.int x1, .int v.1], (H1 s v.2 e0)) rfl ?_
 rcases qite h with ⟨c375, h⟩ | ⟨c375, h⟩
 ·refine yF Ad W 206 19 rfl (XT.ii_ge_f c375) ?_
  refine yS Ad W 8 (31, [vR 1, vI x1, vI v.1, nN, nN, nN, nN, nN, nN, nN], [.int v.1, .ref 6, .int (v.1 + (1:Int32)), .ref 6], (H1 s v.2 e0)) rfl ?_
  obtain ⟨y376, hy376, h⟩ := be h
  refine zB Ad W (f := fun y376 => (32, [vR 1, vI x1, vI v.1, nN, nN, nN, nN, nN, nN, nN], [.int y376, .int (v.1 + (1:Int32)), .ref 6], (H1 s v.2 e0))) rfl hy376 ?_
  refine yS Ad W 2 (34, [vR 1, vI x1, vI v.1, nN, nN, nN, nN, nN, nN, nN], [.int (y376 + (1:Int32)), .int (v.1 + (1:Int32)), .ref 6], (H1 s v.2 e0)) rfl ?_
  obtain ⟨y377, hy377, h⟩ := be h
  refine zB Ad W (f := fun y377 => (35, [vR 1, vI x1, vI v.1, nN, nN, nN, nN, nN, nN, nN], [], (H1x51 s v.2 e0 y377))) rfl hy377 ?_
  refine yS Ad W 6 (43, [vR 1, vI x1, vI v.1, nN, nN, nN, nN, nN, nN, nN], [.int v.1, .int (v.1 + (1:Int32)), .ref 7], (H1x51 s v.2 e0 y377)) rfl ?_
  obtain ⟨y378, hy378, h⟩ := be h
  refine zB Ad W (f := fun y378 => (44, [vR 1, vI x1, vI v.1, nN, nN, nN, nN, nN, nN, nN], [], (H1x52 s v.2 e0 y377 y378))) rfl hy378 ?_
  refine yS Ad W 4 (49, [vR 1, vI x1, vI v.1, vI 0, vI 0, nN, nN, nN, nN, nN], [], (H1x52 s v.2 e0 y377 y378)) rfl ?_
  refine yS Ad W 2 (52, [vR 1, vI x1, vI v.1, vI 0, vI 0, vI v.1, nN, nN, nN, nN], [], (H1x52 s v.2 e0 y377 y378)) rfl ?_
  have E379 : ((H1x52 s v.2 e0 y377 y378) : QHeap) = (H1 s (sX (sW v.2 y377) y378) e0) := by simp only [fs, H1, H1v, H1x52, sW, sX]
  rw [E379]
  obtain ⟨e409, he409, h⟩ := be h
  refine zM [G,G,G,G,G,G,Y,Y,Y,Y] (loopN_tri (B := B6_52 x1 v.1) (T := fun lv410 => QTri l Z n0 ad 6 (52, [vR 1, vI x1, vI v.1, vI lv410.1, vI lv410.2.1, vI lv410.2.2.1, nN, nN, nN, nN], [], (H1 s lv410.2.2.2 e0)) u τ) (KE := fun e => match e with | .inl e409a => QTri l Z n0 ad 6 (123, [vR 1, vI x1, vI v.1, nN, nN, nN, nN, nN, nN, nN], [], (H1 s e409a e0)) u τ | .inr e409a => QTri l Z n0 ad 6 (200, [vR 1, vI x1, vI v.1, nN, nN, nN, nN, nN, nN, nN], [], (H1 s e409a e0)) u τ) (fun lv410 r hB hE hC => tB6_52 Ad W s e0 x1 v.1 lv410 hB (fun x q => hE _ q) (fun x q => hE _ q) (fun x q => hC x q)) qN ((0:Int32), (0:Int32), v.1, (sX (sW v.2 y377) y378)) e409 he409 ?_)
  rcases e409 with e409a | e409a
  ·refine yS Ad W 1 (200, [vR 1, vI x1, vI v.1, nN, nN, nN, nN, nN, nN, nN], [], (H1 s e409a e0)) rfl ?_
   exact zM [G,G,G,Y,Y,Y,Y,Y,Y,Y] (tJ6_200 Ad W s e0 e409a x1 v.1 h hx0 hc)
  ·exact zM [G,G,G,Y,Y,Y,Y,Y,Y,Y] (tJ6_200 Ad W s e0 e409a x1 v.1 h hx0 hc)
 ·refine yT Ad W 206 19 rfl (XT.ii_ge_t c375) ?_
  obtain rfl := sj h
  obtain ⟨rfl, rfl⟩ := hx0 v.2 rfl
  exact ret0 rfl rfl
/-- planClusters()V -/
def F6 (o : Ob) : Option (Ob) :=
 (aset (fW o) (0:Int32) (0:Int32)).bind fun y373 => (loopN (B6_14 (fxI o)) qN ((0:Int32), (sW o y373))).bind fun e411 => some e411
theorem tF6 (Ad : QAd n0 ad) (W : QW Z a0) (s : List Int32) (e0 o : Ob) {r : Ob} (h : F6 o = some r) : QTri l Z n0 ad 6 (0, qentry [.ref 1] (pMaxL 6), [], (H1 s o e0)) (none : Option Value) (H1 s r e0) := by
 unfold F6 at h
 refine yS Ad W 7 (11, [vR 1, vI (fxI o), nN, nN, nN, nN, nN, nN, nN, nN], [.int 0, .int 0, .ref 6], (H1 s o e0)) rfl ?_
 obtain ⟨y373, hy373, h⟩ := be h
 refine zB Ad W (f := fun y373 => (12, [vR 1, vI (fxI o), nN, nN, nN, nN, nN, nN, nN, nN], [], (H1x51 s o e0 y373))) rfl hy373 ?_
 refine yS Ad W 2 (14, [vR 1, vI (fxI o), vI 0, nN, nN, nN, nN, nN, nN, nN], [], (H1x51 s o e0 y373)) rfl ?_
 have E374 : ((H1x51 s o e0 y373) : QHeap) = (H1 s (sW o y373) e0) := by simp only [fs, H1, H1v, H1x51, sW]
 rw [E374]
 obtain ⟨e411, he411, h⟩ := be h
 refine zM [G,G,G,Y,Y,Y,Y,Y,Y,Y] (loopN_tri (B := B6_14 (fxI o)) (T := fun lv412 => QTri l Z n0 ad 6 (14, [vR 1, vI (fxI o), vI lv412.1, nN, nN, nN, nN, nN, nN, nN], [], (H1 s lv412.2 e0)) (none : Option Value) (H1 s r e0)) (KE := fun e411a => (none : Option Value) = (none : Option Value) ∧ (H1 s r e0) = (H1 s e411a e0)) (fun lv412 r hB hE hC => tB6_14 Ad W s e0 (fxI o) lv412 hB (fun x q => hE _ q) (fun x q => hC x q)) qN ((0:Int32), (sW o y373)) e411 he411 ?_)
 obtain rfl := sj h
 exact ⟨rfl, rfl⟩
def H1x53 (s : List Int32) (o0 o1 : Ob) (a0_42 : Int32) : QHeap := H1v s (fA o0) (fB o0) (fC o0) (fD o0) (fE o0) (fF o0) (fG o0) (fH o0) (fI o0) (fJ o0) (fK o0) (fL o0) (fM o0) (fN o0) (fR o0) (fT o0) (fU o0) (fV o0) (fW o0) (fX o0) (fY o0) (fZ o0) (fd o0) (ff o0) (fh o0) (fi o0) (fm o0) (fq o0) (fu o0) (fy o0) (fz o0) (fxA o0) (fxB o0) (fxC o0) (fxD o0) (fxE o0) (fxF o0) (fxG o0) (fxH o0) (fxI o0) (fxJ o0) (fxK o0) a0_42 (fxM o0) (fxN o0) (fxO o0) (fxP o0) (fxQ o0) (fA o1) (fB o1) (fC o1) (fD o1) (fE o1) (fF o1) (fG o1) (fH o1) (fI o1) (fJ o1) (fK o1) (fL o1) (fM o1) (fN o1) (fR o1) (fT o1) (fU o1) (fV o1) (fW o1) (fX o1) (fY o1) (fZ o1) (fd o1) (ff o1) (fh o1) (fi o1) (fm o1) (fq o1) (fu o1) (fy o1) (fz o1) (fxA o1) (fxB o1) (fxC o1) (fxD o1) (fxE o1) (fxF o1) (fxG o1) (fxH o1) (fxI o1) (fxJ o1) (fxK o1) (fxL o1) (fxM o1) (fxN o1) (fxO o1) (fxP o1) (fxQ o1)
def H1x54 (s : List Int32) (o0 o1 : Ob) (a0_20 : List Int32) : QHeap := H1v s (fA o0) (fB o0) (fC o0) (fD o0) (fE o0) (fF o0) (fG o0) (fH o0) (fI o0) (fJ o0) (fK o0) (fL o0) (fM o0) (fN o0) (fR o0) (fT o0) (fU o0) (fV o0) (fW o0) (fX o0) a0_20 (fZ o0) (fd o0) (ff o0) (fh o0) (fi o0) (fm o0) (fq o0) (fu o0) (fy o0) (fz o0) (fxA o0) (fxB o0) (fxC o0) (fxD o0) (fxE o0) (fxF o0) (fxG o0) (fxH o0) (fxI o0) (fxJ o0) (fxK o0) (fxL o0) (fxM o0) (fxN o0) (fxO o0) (fxP o0) (fxQ o0) (fA o1) (fB o1) (fC o1) (fD o1) (fE o1) (fF o1) (fG o1) (fH o1) (fI o1) (fJ o1) (fK o1) (fL o1) (fM o1) (fN o1) (fR o1) (fT o1) (fU o1) (fV o1) (fW o1) (fX o1) (fY o1) (fZ o1) (fd o1) (ff o1) (fh o1) (fi o1) (fm o1) (fq o1) (fu o1) (fy o1) (fz o1) (fxA o1) (fxB o1) (fxC o1) (fxD o1) (fxE o1) (fxF o1) (fxG o1) (fxH o1) (fxI o1) (fxJ o1) (fxK o1) (fxL o1) (fxM o1) (fxN o1) (fxO o1) (fxP o1) (fxQ o1)
def H1x55 (s : List Int32) (o0 o1 : Ob) (a0_20 a0_21 : List Int32) : QHeap := H1v s (fA o0) (fB o0) (fC o0) (fD o0) (fE o0) (fF o0) (fG o0) (fH o0) (fI o0) (fJ o0) (fK o0) (fL o0) (fM o0) (fN o0) (fR o0) (fT o0) (fU o0) (fV o0) (fW o0) (fX o0) a0_20 a0_21 (fd o0) (ff o0) (fh o0) (fi o0) (fm o0) (fq o0) (fu o0) (fy o0) (fz o0) (fxA o0) (fxB o0) (fxC o0) (fxD o0) (fxE o0) (fxF o0) (fxG o0) (fxH o0) (fxI o0) (fxJ o0) (fxK o0) (fxL o0) (fxM o0) (fxN o0) (fxO o0) (fxP o0) (fxQ o0) (fA o1) (fB o1) (fC o1) (fD o1) (fE o1) (fF o1) (fG o1) (fH o1) (fI o1) (fJ o1) (fK o1) (fL o1) (fM o1) (fN o1) (fR o1) (fT o1) (fU o1) (fV o1) (fW o1) (fX o1) (fY o1) (fZ o1) (fd o1) (ff o1) (fh o1) (fi o1) (fm o1) (fq o1) (fu o1) (fy o1) (fz o1) (fxA o1) (fxB o1) (fxC o1) (fxD o1) (fxE o1) (fxF o1) (fxG o1) (fxH o1) (fxI o1) (fxJ o1) (fxK o1) (fxL o1) (fxM o1) (fxN o1) (fxO o1) (fxP o1) (fxQ o1)
def B7_22 (v : Int32 × Int32 × Int32 × Ob) : Option (((Ob)) ⊕ (Int32 × Int32 × Int32 × Ob)) :=
  (if v.2.2.1 < (65 : Int32) then (if (0 : Int32) < v.2.1 then (aget (fX v.2.2.2) v.2.1).bind fun y418 => (if (v.1 + (-1 : Int32)) < (0 : Int32) then some (.inl v.2.2.2) else (if y418 < (0 : Int32) then some (.inl v.2.2.2) else (if y418 < v.2.1 then (aset (fY v.2.2.2) (v.1 + (-1 : Int32)) y418).bind fun y422 => (aset (fZ v.2.2.2) (v.1 + (-1 : Int32)) (v.2.1 - (1 : Int32))).bind fun y423 => some (.inr ((v.1 + (-1 : Int32)), y418, (v.2.2.1 + (1 : Int32)), (sZ (sY v.2.2.2 y422) y423))) else some (.inl v.2.2.2)))) else some (.inl v.2.2.2)) else some (.inl v.2.2.2))
theorem htB7_22_y422 (s : List Int32) (e0 : Ob) (v : Int32 × Int32 × Int32 × Ob) (y418 : Int32) (z9 z8 : Int32) : qstep 7 (69, [vR 1, nN, vI z9, vI v.2.1, vI v.2.2.1, vI y418], [.int y418, .int z9, .ref 8], (H1 s v.2.2.2 e0)) = (aset (fY v.2.2.2) z9 y418).bind fun y422 => some (70, [vR 1, nN, vI z9, vI v.2.1, vI v.2.2.1, vI y418], [], (H1x54 s v.2.2.2 e0 y422)) := rfl
theorem htB7_22_y423 (s : List Int32) (e0 : Ob) (v : Int32 × Int32 × Int32 × Ob) (y418 : Int32) (y422 : List Int32) (z9 z8 : Int32) : qstep 7 (78, [vR 1, nN, vI z9, vI v.2.1, vI v.2.2.1, vI y418], [.int z8, .int z9, .ref 9], (H1x54 s v.2.2.2 e0 y422)) = (aset (fZ v.2.2.2) z9 z8).bind fun y423 => some (79, [vR 1, nN, vI z9, vI v.2.1, vI v.2.2.1, vI y418], [], (H1x55 s v.2.2.2 e0 y422 y423)) := rfl
theorem tB7_22 (Ad : QAd n0 ad) (W : QW Z a0) (s : List Int32) (e0 : Ob) (v : Int32 × Int32 × Int32 × Ob) {r : ((Ob)) ⊕ (Int32 × Int32 × Int32 × Ob)} {u : Option Value} {τ : QHeap} (h : B7_22 v = some r) (hx0 : ∀ x : Ob, r = .inl x → u = (none : Option Value) ∧ τ = (H1 s x e0)) (hc : ∀ x : Int32 × Int32 × Int32 × Ob, r = .inr x → QTri l Z n0 ad 7 (22, [vR 1, nN, vI x.1, vI x.2.1, vI x.2.2.1, nN], [], (H1 s x.2.2.2 e0)) u τ) : QTri l Z n0 ad 7 (22, [vR 1, nN, vI v.1, vI v.2.1, vI v.2.2.1, nN], [], (H1 s v.2.2.2 e0)) u τ := by
 unfold B7_22 at h
 refine yS Ad W 2 (26, [vR 1, nN, vI v.1, vI v.2.1, vI v.2.2.1, nN], [.int 65, .int v.2.2.1], (H1 s v.2.2.2 e0)) rfl ?_
 rcases qite h with ⟨c416, h⟩ | ⟨c416, h⟩
 ·refine yF Ad W 88 29 rfl (XT.ii_ge_f c416) ?_
  refine yS Ad W 1 (30, [vR 1, nN, vI v.1, vI v.2.1, vI v.2.2.1, nN], [.int v.2.1], (H1 s v.2.2.2 e0)) rfl ?_
  rcases qite h with ⟨c417, h⟩ | ⟨c417, h⟩
  ·refine yF Ad W 88 33 rfl (XT.i0_le_f c417) ?_
   refine yS Ad W 3 (38, [vR 1, nN, vI v.1, vI v.2.1, vI v.2.2.1, nN], [.int v.2.1, .ref 7], (H1 s v.2.2.2 e0)) rfl ?_
   obtain ⟨y418, hy418, h⟩ := be h
   refine zB Ad W (f := fun y418 => (39, [vR 1, nN, vI v.1, vI v.2.1, vI v.2.2.1, nN], [.int y418], (H1 s v.2.2.2 e0))) rfl hy418 ?_
   refine yS Ad W 3 (45, [vR 1, nN, vI (v.1 + (-1:Int32)), vI v.2.1, vI v.2.2.1, vI y418], [.int (v.1 + (-1:Int32))], (H1 s v.2.2.2 e0)) rfl ?_
   rcases qite h with ⟨c419, h⟩ | ⟨c419, h⟩
   ·refine yT Ad W 88 48 rfl (XT.i0_lt_t c419) ?_
    obtain rfl := sj h
    obtain ⟨rfl, rfl⟩ := hx0 v.2.2.2 rfl
    exact ret0 rfl rfl
   ·refine yF Ad W 88 48 rfl (XT.i0_lt_f c419) ?_
    refine yS Ad W 1 (50, [vR 1, nN, vI (v.1 + (-1:Int32)), vI v.2.1, vI v.2.2.1, vI y418], [.int y418], (H1 s v.2.2.2 e0)) rfl ?_
    rcases qite h with ⟨c420, h⟩ | ⟨c420, h⟩
    ·refine yT Ad W 88 53 rfl (XT.i0_lt_t c420) ?_
     obtain rfl := sj h
     obtain ⟨rfl, rfl⟩ := hx0 v.2.2.2 rfl
     exact ret0 rfl rfl
    ·refine yF Ad W 88 53 rfl (XT.i0_lt_f c420) ?_
     refine yS Ad W 2 (56, [vR 1, nN, vI (v.1 + (-1:Int32)), vI v.2.1, vI v.2.2.1, vI y418], [.int v.2.1, .int y418], (H1 s v.2.2.2 e0)) rfl ?_
     rcases qite h with ⟨c421, h⟩ | ⟨c421, h⟩
     ·refine yT Ad W 62 59 rfl (XT.ii_lt_t c421) ?_
      refine yS Ad W 4 (69, [vR 1, nN, vI (v.1 + (-1:Int32)), vI v.2.1, vI v.2.2.1, vI y418], [.int y418, .int (v.1 + (-1:Int32)), .ref 8], (H1 s v.2.2.2 e0)) rfl ?_
      obtain ⟨y422, hy422, h⟩ := be h
      refine zB Ad W (f := fun y422 => (70, [vR 1, nN, vI (v.1 + (-1:Int32)), vI v.2.1, vI v.2.2.1, vI y418], [], (H1x54 s v.2.2.2 e0 y422))) (htB7_22_y422 s e0 v y418 (v.1 + (-1:Int32)) 0) hy422 ?_
      refine yS Ad W 6 (78, [vR 1, nN, vI (v.1 + (-1:Int32)), vI v.2.1, vI v.2.2.1, vI y418], [.int (v.2.1 - (1:Int32)), .int (v.1 + (-1:Int32)), .ref 9], (H1x54 s v.2.2.2 e0 y422)) rfl ?_
      obtain ⟨y423, hy423, h⟩ := be h
      refine zB Ad W (f := fun y423 => (79, [vR 1, nN, vI (v.1 + (-1:Int32)), vI v.2.1, vI v.2.2.1, vI y418], [], (H1x55 s v.2.2.2 e0 y422 y423))) (htB7_22_y423 s e0 v y418 y422 (v.1 + (-1:Int32)) (v.2.1 - (1:Int32))) hy423 ?_
      refine yS Ad W 3 (85, [vR 1, nN, vI (v.1 + (-1:Int32)), vI y418, vI (v.2.2.1 + (1:Int32)), vI y418], [], (H1x55 s v.2.2.2 e0 y422 y423)) rfl ?_
      refine yS Ad W 1 (22, [vR 1, nN, vI (v.1 + (-1:Int32)), vI y418, vI (v.2.2.1 + (1:Int32)), vI y418], [], (H1x55 s v.2.2.2 e0 y422 y423)) rfl ?_
      have E424 : ((H1x55 s v.2.2.2 e0 y422 y423) : QHeap) = (H1 s (sZ (sY v.2.2.2 y422) y423) e0) := by simp only [fs, H1, H1v, H1x55, sY, sZ]
      rw [E424]
      obtain rfl := sj h
      exact zM [G,Y,G,G,G,Y] (hc ((v.1 + (-1:Int32)), y418, (v.2.2.1 + (1:Int32)), (sZ (sY v.2.2.2 y422) y423)) rfl)
     ·refine yF Ad W 62 59 rfl (XT.ii_lt_f c421) ?_
      refine yS Ad W 1 (88, [vR 1, nN, vI (v.1 + (-1:Int32)), vI v.2.1, vI v.2.2.1, vI y418], [], (H1 s v.2.2.2 e0)) rfl ?_
      obtain rfl := sj h
      obtain ⟨rfl, rfl⟩ := hx0 v.2.2.2 rfl
      exact ret0 rfl rfl
  ·refine yT Ad W 88 33 rfl (XT.i0_le_t c417) ?_
   obtain rfl := sj h
   obtain ⟨rfl, rfl⟩ := hx0 v.2.2.2 rfl
   exact ret0 rfl rfl
 ·refine yT Ad W 88 29 rfl (XT.ii_ge_t c416) ?_
  obtain rfl := sj h
  obtain ⟨rfl, rfl⟩ := hx0 v.2.2.2 rfl
  exact ret0 rfl rfl
/-- collectClusters()V -/
def F7 (o : Ob) : Option (Ob) :=
 (aget (fW o) (fxI o)).bind fun y414 => (loopN (B7_22) qN (y414, (fxI o), (0:Int32), (sxL o y414))).bind fun e425 => some e425
theorem tF7 (Ad : QAd n0 ad) (W : QW Z a0) (s : List Int32) (e0 o : Ob) {r : Ob} (h : F7 o = some r) : QTri l Z n0 ad 7 (0, qentry [.ref 1] (pMaxL 7), [], (H1 s o e0)) (none : Option Value) (H1 s r e0) := by
 unfold F7 at h
 refine yS Ad W 6 (10, [vR 1, vI (fxI o), nN, nN, nN, nN], [.int (fxI o), .ref 6], (H1 s o e0)) rfl ?_
 obtain ⟨y414, hy414, h⟩ := be h
 refine zB Ad W (f := fun y414 => (11, [vR 1, vI (fxI o), nN, nN, nN, nN], [.int y414], (H1 s o e0))) rfl hy414 ?_
 refine yS Ad W 4 (17, [vR 1, vI (fxI o), vI y414, nN, nN, nN], [], (H1x53 s o e0 y414)) rfl ?_
 refine yS Ad W 4 (22, [vR 1, vI (fxI o), vI y414, vI (fxI o), vI 0, nN], [], (H1x53 s o e0 y414)) rfl ?_
 have E415 : ((H1x53 s o e0 y414) : QHeap) = (H1 s (sxL o y414) e0) := by simp only [fs, H1, H1v, H1x53, sxL]
 rw [E415]
 obtain ⟨e425, he425, h⟩ := be h
 refine zM [G,Y,G,G,G,Y] (loopN_tri (B := B7_22) (T := fun lv426 => QTri l Z n0 ad 7 (22, [vR 1, nN, vI lv426.1, vI lv426.2.1, vI lv426.2.2.1, nN], [], (H1 s lv426.2.2.2 e0)) (none : Option Value) (H1 s r e0)) (KE := fun e425a => (none : Option Value) = (none : Option Value) ∧ (H1 s r e0) = (H1 s e425a e0)) (fun lv426 r hB hE hC => tB7_22 Ad W s e0 lv426 hB (fun x q => hE _ q) (fun x q => hC x q)) qN (y414, (fxI o), (0:Int32), (sxL o y414)) e425 he425 ?_)
 obtain rfl := sj h
 exact ⟨rfl, rfl⟩
def H1x56 (s : List Int32) (o0 o1 : Ob) (a0_43 : Int32) : QHeap := H1v s (fA o0) (fB o0) (fC o0) (fD o0) (fE o0) (fF o0) (fG o0) (fH o0) (fI o0) (fJ o0) (fK o0) (fL o0) (fM o0) (fN o0) (fR o0) (fT o0) (fU o0) (fV o0) (fW o0) (fX o0) (fY o0) (fZ o0) (fd o0) (ff o0) (fh o0) (fi o0) (fm o0) (fq o0) (fu o0) (fy o0) (fz o0) (fxA o0) (fxB o0) (fxC o0) (fxD o0) (fxE o0) (fxF o0) (fxG o0) (fxH o0) (fxI o0) (fxJ o0) (fxK o0) (fxL o0) a0_43 (fxN o0) (fxO o0) (fxP o0) (fxQ o0) (fA o1) (fB o1) (fC o1) (fD o1) (fE o1) (fF o1) (fG o1) (fH o1) (fI o1) (fJ o1) (fK o1) (fL o1) (fM o1) (fN o1) (fR o1) (fT o1) (fU o1) (fV o1) (fW o1) (fX o1) (fY o1) (fZ o1) (fd o1) (ff o1) (fh o1) (fi o1) (fm o1) (fq o1) (fu o1) (fy o1) (fz o1) (fxA o1) (fxB o1) (fxC o1) (fxD o1) (fxE o1) (fxF o1) (fxG o1) (fxH o1) (fxI o1) (fxJ o1) (fxK o1) (fxL o1) (fxM o1) (fxN o1) (fxO o1) (fxP o1) (fxQ o1)
def H1x57 (s : List Int32) (o0 o1 : Ob) (a0_43 a0_45 : Int32) : QHeap := H1v s (fA o0) (fB o0) (fC o0) (fD o0) (fE o0) (fF o0) (fG o0) (fH o0) (fI o0) (fJ o0) (fK o0) (fL o0) (fM o0) (fN o0) (fR o0) (fT o0) (fU o0) (fV o0) (fW o0) (fX o0) (fY o0) (fZ o0) (fd o0) (ff o0) (fh o0) (fi o0) (fm o0) (fq o0) (fu o0) (fy o0) (fz o0) (fxA o0) (fxB o0) (fxC o0) (fxD o0) (fxE o0) (fxF o0) (fxG o0) (fxH o0) (fxI o0) (fxJ o0) (fxK o0) (fxL o0) a0_43 (fxN o0) a0_45 (fxP o0) (fxQ o0) (fA o1) (fB o1) (fC o1) (fD o1) (fE o1) (fF o1) (fG o1) (fH o1) (fI o1) (fJ o1) (fK o1) (fL o1) (fM o1) (fN o1) (fR o1) (fT o1) (fU o1) (fV o1) (fW o1) (fX o1) (fY o1) (fZ o1) (fd o1) (ff o1) (fh o1) (fi o1) (fm o1) (fq o1) (fu o1) (fy o1) (fz o1) (fxA o1) (fxB o1) (fxC o1) (fxD o1) (fxE o1) (fxF o1) (fxG o1) (fxH o1) (fxI o1) (fxJ o1) (fxK o1) (fxL o1) (fxM o1) (fxN o1) (fxO o1) (fxP o1) (fxQ o1)
def H1x58 (s : List Int32) (o0 o1 : Ob) (a0_43 a0_45 a0_46 : Int32) : QHeap := H1v s (fA o0) (fB o0) (fC o0) (fD o0) (fE o0) (fF o0) (fG o0) (fH o0) (fI o0) (fJ o0) (fK o0) (fL o0) (fM o0) (fN o0) (fR o0) (fT o0) (fU o0) (fV o0) (fW o0) (fX o0) (fY o0) (fZ o0) (fd o0) (ff o0) (fh o0) (fi o0) (fm o0) (fq o0) (fu o0) (fy o0) (fz o0) (fxA o0) (fxB o0) (fxC o0) (fxD o0) (fxE o0) (fxF o0) (fxG o0) (fxH o0) (fxI o0) (fxJ o0) (fxK o0) (fxL o0) a0_43 (fxN o0) a0_45 a0_46 (fxQ o0) (fA o1) (fB o1) (fC o1) (fD o1) (fE o1) (fF o1) (fG o1) (fH o1) (fI o1) (fJ o1) (fK o1) (fL o1) (fM o1) (fN o1) (fR o1) (fT o1) (fU o1) (fV o1) (fW o1) (fX o1) (fY o1) (fZ o1) (fd o1) (ff o1) (fh o1) (fi o1) (fm o1) (fq o1) (fu o1) (fy o1) (fz o1) (fxA o1) (fxB o1) (fxC o1) (fxD o1) (fxE o1) (fxF o1) (fxG o1) (fxH o1) (fxI o1) (fxJ o1) (fxK o1) (fxL o1) (fxM o1) (fxN o1) (fxO o1) (fxP o1) (fxQ o1)
def H1x59 (s : List Int32) (o0 o1 : Ob) (a0_43 a0_45 : Int32) (a0_46 a0_47 : Int32) : QHeap := H1v s (fA o0) (fB o0) (fC o0) (fD o0) (fE o0) (fF o0) (fG o0) (fH o0) (fI o0) (fJ o0) (fK o0) (fL o0) (fM o0) (fN o0) (fR o0) (fT o0) (fU o0) (fV o0) (fW o0) (fX o0) (fY o0) (fZ o0) (fd o0) (ff o0) (fh o0) (fi o0) (fm o0) (fq o0) (fu o0) (fy o0) (fz o0) (fxA o0) (fxB o0) (fxC o0) (fxD o0) (fxE o0) (fxF o0) (fxG o0) (fxH o0) (fxI o0) (fxJ o0) (fxK o0) (fxL o0) a0_43 (fxN o0) a0_45 a0_46 a0_47 (fA o1) (fB o1) (fC o1) (fD o1) (fE o1) (fF o1) (fG o1) (fH o1) (fI o1) (fJ o1) (fK o1) (fL o1) (fM o1) (fN o1) (fR o1) (fT o1) (fU o1) (fV o1) (fW o1) (fX o1) (fY o1) (fZ o1) (fd o1) (ff o1) (fh o1) (fi o1) (fm o1) (fq o1) (fu o1) (fy o1) (fz o1) (fxA o1) (fxB o1) (fxC o1) (fxD o1) (fxE o1) (fxF o1) (fxG o1) (fxH o1) (fxI o1) (fxJ o1) (fxK o1) (fxL o1) (fxM o1) (fxN o1) (fxO o1) (fxP o1) (fxQ o1)
def H1x60 (s : List Int32) (o0 o1 : Ob) (a0_22 : List Int32) : QHeap := H1v s (fA o0) (fB o0) (fC o0) (fD o0) (fE o0) (fF o0) (fG o0) (fH o0) (fI o0) (fJ o0) (fK o0) (fL o0) (fM o0) (fN o0) (fR o0) (fT o0) (fU o0) (fV o0) (fW o0) (fX o0) (fY o0) (fZ o0) a0_22 (ff o0) (fh o0) (fi o0) (fm o0) (fq o0) (fu o0) (fy o0) (fz o0) (fxA o0) (fxB o0) (fxC o0) (fxD o0) (fxE o0) (fxF o0) (fxG o0) (fxH o0) (fxI o0) (fxJ o0) (fxK o0) (fxL o0) (fxM o0) (fxN o0) (fxO o0) (fxP o0) (fxQ o0) (fA o1) (fB o1) (fC o1) (fD o1) (fE o1) (fF o1) (fG o1) (fH o1) (fI o1) (fJ o1) (fK o1) (fL o1) (fM o1) (fN o1) (fR o1) (fT o1) (fU o1) (fV o1) (fW o1) (fX o1) (fY o1) (fZ o1) (fd o1) (ff o1) (fh o1) (fi o1) (fm o1) (fq o1) (fu o1) (fy o1) (fz o1) (fxA o1) (fxB o1) (fxC o1) (fxD o1) (fxE o1) (fxF o1) (fxG o1) (fxH o1) (fxI o1) (fxJ o1) (fxK o1) (fxL o1) (fxM o1) (fxN o1) (fxO o1) (fxP o1) (fxQ o1)
def H1x61 (s : List Int32) (o0 o1 : Ob) (a0_22 a0_23 : List Int32) : QHeap := H1v s (fA o0) (fB o0) (fC o0) (fD o0) (fE o0) (fF o0) (fG o0) (fH o0) (fI o0) (fJ o0) (fK o0) (fL o0) (fM o0) (fN o0) (fR o0) (fT o0) (fU o0) (fV o0) (fW o0) (fX o0) (fY o0) (fZ o0) a0_22 a0_23 (fh o0) (fi o0) (fm o0) (fq o0) (fu o0) (fy o0) (fz o0) (fxA o0) (fxB o0) (fxC o0) (fxD o0) (fxE o0) (fxF o0) (fxG o0) (fxH o0) (fxI o0) (fxJ o0) (fxK o0) (fxL o0) (fxM o0) (fxN o0) (fxO o0) (fxP o0) (fxQ o0) (fA o1) (fB o1) (fC o1) (fD o1) (fE o1) (fF o1) (fG o1) (fH o1) (fI o1) (fJ o1) (fK o1) (fL o1) (fM o1) (fN o1) (fR o1) (fT o1) (fU o1) (fV o1) (fW o1) (fX o1) (fY o1) (fZ o1) (fd o1) (ff o1) (fh o1) (fi o1) (fm o1) (fq o1) (fu o1) (fy o1) (fz o1) (fxA o1) (fxB o1) (fxC o1) (fxD o1) (fxE o1) (fxF o1) (fxG o1) (fxH o1) (fxI o1) (fxJ o1) (fxK o1) (fxL o1) (fxM o1) (fxN o1) (fxO o1) (fxP o1) (fxQ o1)
def H1x62 (s : List Int32) (o0 o1 : Ob) (a0_22 a0_23 a0_24 : List Int32) : QHeap := H1v s (fA o0) (fB o0) (fC o0) (fD o0) (fE o0) (fF o0) (fG o0) (fH o0) (fI o0) (fJ o0) (fK o0) (fL o0) (fM o0) (fN o0) (fR o0) (fT o0) (fU o0) (fV o0) (fW o0) (fX o0) (fY o0) (fZ o0) a0_22 a0_23 a0_24 (fi o0) (fm o0) (fq o0) (fu o0) (fy o0) (fz o0) (fxA o0) (fxB o0) (fxC o0) (fxD o0) (fxE o0) (fxF o0) (fxG o0) (fxH o0) (fxI o0) (fxJ o0) (fxK o0) (fxL o0) (fxM o0) (fxN o0) (fxO o0) (fxP o0) (fxQ o0) (fA o1) (fB o1) (fC o1) (fD o1) (fE o1) (fF o1) (fG o1) (fH o1) (fI o1) (fJ o1) (fK o1) (fL o1) (fM o1) (fN o1) (fR o1) (fT o1) (fU o1) (fV o1) (fW o1) (fX o1) (fY o1) (fZ o1) (fd o1) (ff o1) (fh o1) (fi o1) (fm o1) (fq o1) (fu o1) (fy o1) (fz o1) (fxA o1) (fxB o1) (fxC o1) (fxD o1) (fxE o1) (fxF o1) (fxG o1) (fxH o1) (fxI o1) (fxJ o1) (fxK o1) (fxL o1) (fxM o1) (fxN o1) (fxO o1) (fxP o1) (fxQ o1)
def H1x63 (s : List Int32) (o0 o1 : Ob) (a0_22 a0_23 : List Int32) (a0_24 a0_25 : List Int32) : QHeap := H1v s (fA o0) (fB o0) (fC o0) (fD o0) (fE o0) (fF o0) (fG o0) (fH o0) (fI o0) (fJ o0) (fK o0) (fL o0) (fM o0) (fN o0) (fR o0) (fT o0) (fU o0) (fV o0) (fW o0) (fX o0) (fY o0) (fZ o0) a0_22 a0_23 a0_24 a0_25 (fm o0) (fq o0) (fu o0) (fy o0) (fz o0) (fxA o0) (fxB o0) (fxC o0) (fxD o0) (fxE o0) (fxF o0) (fxG o0) (fxH o0) (fxI o0) (fxJ o0) (fxK o0) (fxL o0) (fxM o0) (fxN o0) (fxO o0) (fxP o0) (fxQ o0) (fA o1) (fB o1) (fC o1) (fD o1) (fE o1) (fF o1) (fG o1) (fH o1) (fI o1) (fJ o1) (fK o1) (fL o1) (fM o1) (fN o1) (fR o1) (fT o1) (fU o1) (fV o1) (fW o1) (fX o1) (fY o1) (fZ o1) (fd o1) (ff o1) (fh o1) (fi o1) (fm o1) (fq o1) (fu o1) (fy o1) (fz o1) (fxA o1) (fxB o1) (fxC o1) (fxD o1) (fxE o1) (fxF o1) (fxG o1) (fxH o1) (fxI o1) (fxJ o1) (fxK o1) (fxL o1) (fxM o1) (fxN o1) (fxO o1) (fxP o1) (fxQ o1)
def H1x64 (s : List Int32) (o0 o1 : Ob) (a0_22 a0_23 : List Int32) (a0_24 a0_25 a0_26 : List Int32) : QHeap := H1v s (fA o0) (fB o0) (fC o0) (fD o0) (fE o0) (fF o0) (fG o0) (fH o0) (fI o0) (fJ o0) (fK o0) (fL o0) (fM o0) (fN o0) (fR o0) (fT o0) (fU o0) (fV o0) (fW o0) (fX o0) (fY o0) (fZ o0) a0_22 a0_23 a0_24 a0_25 a0_26 (fq o0) (fu o0) (fy o0) (fz o0) (fxA o0) (fxB o0) (fxC o0) (fxD o0) (fxE o0) (fxF o0) (fxG o0) (fxH o0) (fxI o0) (fxJ o0) (fxK o0) (fxL o0) (fxM o0) (fxN o0) (fxO o0) (fxP o0) (fxQ o0) (fA o1) (fB o1) (fC o1) (fD o1) (fE o1) (fF o1) (fG o1) (fH o1) (fI o1) (fJ o1) (fK o1) (fL o1) (fM o1) (fN o1) (fR o1) (fT o1) (fU o1) (fV o1) (fW o1) (fX o1) (fY o1) (fZ o1) (fd o1) (ff o1) (fh o1) (fi o1) (fm o1) (fq o1) (fu o1) (fy o1) (fz o1) (fxA o1) (fxB o1) (fxC o1) (fxD o1) (fxE o1) (fxF o1) (fxG o1) (fxH o1) (fxI o1) (fxJ o1) (fxK o1) (fxL o1) (fxM o1) (fxN o1) (fxO o1) (fxP o1) (fxQ o1)
def H1x65 (s : List Int32) (o0 o1 : Ob) (a0_22 a0_23 : List Int32) (a0_24 a0_25 a0_26 : List Int32) (a0_43 : Int32) : QHeap := H1v s (fA o0) (fB o0) (fC o0) (fD o0) (fE o0) (fF o0) (fG o0) (fH o0) (fI o0) (fJ o0) (fK o0) (fL o0) (fM o0) (fN o0) (fR o0) (fT o0) (fU o0) (fV o0) (fW o0) (fX o0) (fY o0) (fZ o0) a0_22 a0_23 a0_24 a0_25 a0_26 (fq o0) (fu o0) (fy o0) (fz o0) (fxA o0) (fxB o0) (fxC o0) (fxD o0) (fxE o0) (fxF o0) (fxG o0) (fxH o0) (fxI o0) (fxJ o0) (fxK o0) (fxL o0) a0_43 (fxN o0) (fxO o0) (fxP o0) (fxQ o0) (fA o1) (fB o1) (fC o1) (fD o1) (fE o1) (fF o1) (fG o1) (fH o1) (fI o1) (fJ o1) (fK o1) (fL o1) (fM o1) (fN o1) (fR o1) (fT o1) (fU o1) (fV o1) (fW o1) (fX o1) (fY o1) (fZ o1) (fd o1) (ff o1) (fh o1) (fi o1) (fm o1) (fq o1) (fu o1) (fy o1) (fz o1) (fxA o1) (fxB o1) (fxC o1) (fxD o1) (fxE o1) (fxF o1) (fxG o1) (fxH o1) (fxI o1) (fxJ o1) (fxK o1) (fxL o1) (fxM o1) (fxN o1) (fxO o1) (fxP o1) (fxQ o1)
/-- emit(IIIII)I -/
def F9 (o : Ob) (x1 x2 : Int32) (x3 x4 x5 : Int32) : Option (Int32 × Ob) :=
 (if (fxM o) < (0:Int32) then some ((0:Int32), o) else (if (fxM o) < ((fd o).length.toInt32) then (aset (fd o) (fxM o) ((x1.toInt8.toInt32).toInt8.toInt32)).bind fun y431 => (aset (ff o) (fxM o) x2).bind fun y432 => (aset (fh o) (fxM o) x3).bind fun y433 => (aset (fi o) (fxM o) x4).bind fun y434 => (aset (fm o) (fxM o) x5).bind fun y435 => some ((fxM o), (sxM (sm (si (sh (sf (sd o y431) y432) y433) y434) y435) ((fxM o) + (1:Int32)))) else some ((0:Int32), o)))
theorem tF9 (Ad : QAd n0 ad) (W : QW Z a0) (s : List Int32) (e0 o : Ob) (x1 x2 : Int32) (x3 x4 x5 : Int32) {r : Int32 × Ob} (h : F9 o x1 x2 x3 x4 x5 = some r) : QTri l Z n0 ad 9 (0, qentry [.ref 1, .int x1, .int x2, .int x3, .int x4, .int x5] (pMaxL 9), [], (H1 s o e0)) (some (Value.int r.1)) (H1 s r.2 e0) := by
 unfold F9 at h
 refine yS Ad W 4 (8, [vR 1, vI x1, vI x2, vI x3, vI x4, vI x5, vI (fxM o)], [.int (fxM o)], (H1 s o e0)) rfl ?_
 rcases qite h with ⟨c429, h⟩ | ⟨c429, h⟩
 ·refine yT Ad W 21 11 rfl (XT.i0_lt_t c429) ?_
  refine yS Ad W 1 (22, [vR 1, vI x1, vI x2, vI x3, vI x4, vI x5, vI (fxM o)], [.int 0], (H1 s o e0)) rfl ?_
  obtain rfl := sj h
  exact retI rfl rfl
 ·refine yF Ad W 21 11 rfl (XT.i0_lt_f c429) ?_
  refine yS Ad W 4 (18, [vR 1, vI x1, vI x2, vI x3, vI x4, vI x5, vI (fxM o)], [.int ((fd o).length.toInt32), .int (fxM o)], (H1 s o e0)) rfl ?_
  rcases qite h with ⟨c430, h⟩ | ⟨c430, h⟩
  ·refine yT Ad W 23 21 rfl (XT.ii_lt_t c430) ?_
   refine yS Ad W 5 (31, [vR 1, vI x1, vI x2, vI x3, vI x4, vI x5, vI (fxM o)], [.int (x1.toInt8.toInt32), .int (fxM o), .ref 10], (H1 s o e0)) rfl ?_
   obtain ⟨y431, hy431, h⟩ := be h
   refine zB Ad W (f := fun y431 => (32, [vR 1, vI x1, vI x2, vI x3, vI x4, vI x5, vI (fxM o)], [], (H1x60 s o e0 y431))) rfl hy431 ?_
   refine yS Ad W 4 (39, [vR 1, vI x1, vI x2, vI x3, vI x4, vI x5, vI (fxM o)], [.int x2, .int (fxM o), .ref 11], (H1x60 s o e0 y431)) rfl ?_
   obtain ⟨y432, hy432, h⟩ := be h
   refine zB Ad W (f := fun y432 => (40, [vR 1, vI x1, vI x2, vI x3, vI x4, vI x5, vI (fxM o)], [], (H1x61 s o e0 y431 y432))) rfl hy432 ?_
   refine yS Ad W 4 (47, [vR 1, vI x1, vI x2, vI x3, vI x4, vI x5, vI (fxM o)], [.int x3, .int (fxM o), .ref 12], (H1x61 s o e0 y431 y432)) rfl ?_
   obtain ⟨y433, hy433, h⟩ := be h
   refine zB Ad W (f := fun y433 => (48, [vR 1, vI x1, vI x2, vI x3, vI x4, vI x5, vI (fxM o)], [], (H1x62 s o e0 y431 y432 y433))) rfl hy433 ?_
   refine yS Ad W 4 (56, [vR 1, vI x1, vI x2, vI x3, vI x4, vI x5, vI (fxM o)], [.int x4, .int (fxM o), .ref 13], (H1x62 s o e0 y431 y432 y433)) rfl ?_
   obtain ⟨y434, hy434, h⟩ := be h
   refine zB Ad W (f := fun y434 => (57, [vR 1, vI x1, vI x2, vI x3, vI x4, vI x5, vI (fxM o)], [], (H1x63 s o e0 y431 y432 y433 y434))) rfl hy434 ?_
   refine yS Ad W 4 (65, [vR 1, vI x1, vI x2, vI x3, vI x4, vI x5, vI (fxM o)], [.int x5, .int (fxM o), .ref 14], (H1x63 s o e0 y431 y432 y433 y434)) rfl ?_
   obtain ⟨y435, hy435, h⟩ := be h
   refine zB Ad W (f := fun y435 => (66, [vR 1, vI x1, vI x2, vI x3, vI x4, vI x5, vI (fxM o)], [], (H1x64 s o e0 y431 y432 y433 y434 y435))) rfl hy435 ?_
   refine yS Ad W 5 (74, [vR 1, vI x1, vI x2, vI x3, vI x4, vI x5, vI (fxM o)], [], (H1x65 s o e0 y431 y432 y433 y434 y435 ((fxM o) + (1:Int32)))) rfl ?_
   refine yS Ad W 1 (76, [vR 1, vI x1, vI x2, vI x3, vI x4, vI x5, vI (fxM o)], [.int (fxM o)], (H1x65 s o e0 y431 y432 y433 y434 y435 ((fxM o) + (1:Int32)))) rfl ?_
   have E436 : ((H1x65 s o e0 y431 y432 y433 y434 y435 ((fxM o) + (1:Int32))) : QHeap) = (H1 s (sxM (sm (si (sh (sf (sd o y431) y432) y433) y434) y435) ((fxM o) + (1:Int32))) e0) := by simp only [fs, H1, H1v, H1x65, sd, sf, sh, si, sm, sxM]
   rw [E436]
   obtain rfl := sj h
   exact retI rfl rfl
  ·refine yF Ad W 23 21 rfl (XT.ii_lt_f c430) ?_
   refine yS Ad W 1 (22, [vR 1, vI x1, vI x2, vI x3, vI x4, vI x5, vI (fxM o)], [.int 0], (H1 s o e0)) rfl ?_
   obtain rfl := sj h
   exact retI rfl rfl
def H1x66 (s : List Int32) (o0 o1 : Ob) (a0_44 : Int32) : QHeap := H1v s (fA o0) (fB o0) (fC o0) (fD o0) (fE o0) (fF o0) (fG o0) (fH o0) (fI o0) (fJ o0) (fK o0) (fL o0) (fM o0) (fN o0) (fR o0) (fT o0) (fU o0) (fV o0) (fW o0) (fX o0) (fY o0) (fZ o0) (fd o0) (ff o0) (fh o0) (fi o0) (fm o0) (fq o0) (fu o0) (fy o0) (fz o0) (fxA o0) (fxB o0) (fxC o0) (fxD o0) (fxE o0) (fxF o0) (fxG o0) (fxH o0) (fxI o0) (fxJ o0) (fxK o0) (fxL o0) (fxM o0) a0_44 (fxO o0) (fxP o0) (fxQ o0) (fA o1) (fB o1) (fC o1) (fD o1) (fE o1) (fF o1) (fG o1) (fH o1) (fI o1) (fJ o1) (fK o1) (fL o1) (fM o1) (fN o1) (fR o1) (fT o1) (fU o1) (fV o1) (fW o1) (fX o1) (fY o1) (fZ o1) (fd o1) (ff o1) (fh o1) (fi o1) (fm o1) (fq o1) (fu o1) (fy o1) (fz o1) (fxA o1) (fxB o1) (fxC o1) (fxD o1) (fxE o1) (fxF o1) (fxG o1) (fxH o1) (fxI o1) (fxJ o1) (fxK o1) (fxL o1) (fxM o1) (fxN o1) (fxO o1) (fxP o1) (fxQ o1)
def H1x67 (s : List Int32) (o0 o1 : Ob) (a0_30 : List Int32) : QHeap := H1v s (fA o0) (fB o0) (fC o0) (fD o0) (fE o0) (fF o0) (fG o0) (fH o0) (fI o0) (fJ o0) (fK o0) (fL o0) (fM o0) (fN o0) (fR o0) (fT o0) (fU o0) (fV o0) (fW o0) (fX o0) (fY o0) (fZ o0) (fd o0) (ff o0) (fh o0) (fi o0) (fm o0) (fq o0) (fu o0) (fy o0) a0_30 (fxA o0) (fxB o0) (fxC o0) (fxD o0) (fxE o0) (fxF o0) (fxG o0) (fxH o0) (fxI o0) (fxJ o0) (fxK o0) (fxL o0) (fxM o0) (fxN o0) (fxO o0) (fxP o0) (fxQ o0) (fA o1) (fB o1) (fC o1) (fD o1) (fE o1) (fF o1) (fG o1) (fH o1) (fI o1) (fJ o1) (fK o1) (fL o1) (fM o1) (fN o1) (fR o1) (fT o1) (fU o1) (fV o1) (fW o1) (fX o1) (fY o1) (fZ o1) (fd o1) (ff o1) (fh o1) (fi o1) (fm o1) (fq o1) (fu o1) (fy o1) (fz o1) (fxA o1) (fxB o1) (fxC o1) (fxD o1) (fxE o1) (fxF o1) (fxG o1) (fxH o1) (fxI o1) (fxJ o1) (fxK o1) (fxL o1) (fxM o1) (fxN o1) (fxO o1) (fxP o1) (fxQ o1)
def H1x68 (s : List Int32) (o0 o1 : Ob) (a0_30 a0_31 : List Int32) : QHeap := H1v s (fA o0) (fB o0) (fC o0) (fD o0) (fE o0) (fF o0) (fG o0) (fH o0) (fI o0) (fJ o0) (fK o0) (fL o0) (fM o0) (fN o0) (fR o0) (fT o0) (fU o0) (fV o0) (fW o0) (fX o0) (fY o0) (fZ o0) (fd o0) (ff o0) (fh o0) (fi o0) (fm o0) (fq o0) (fu o0) (fy o0) a0_30 a0_31 (fxB o0) (fxC o0) (fxD o0) (fxE o0) (fxF o0) (fxG o0) (fxH o0) (fxI o0) (fxJ o0) (fxK o0) (fxL o0) (fxM o0) (fxN o0) (fxO o0) (fxP o0) (fxQ o0) (fA o1) (fB o1) (fC o1) (fD o1) (fE o1) (fF o1) (fG o1) (fH o1) (fI o1) (fJ o1) (fK o1) (fL o1) (fM o1) (fN o1) (fR o1) (fT o1) (fU o1) (fV o1) (fW o1) (fX o1) (fY o1) (fZ o1) (fd o1) (ff o1) (fh o1) (fi o1) (fm o1) (fq o1) (fu o1) (fy o1) (fz o1) (fxA o1) (fxB o1) (fxC o1) (fxD o1) (fxE o1) (fxF o1) (fxG o1) (fxH o1) (fxI o1) (fxJ o1) (fxK o1) (fxL o1) (fxM o1) (fxN o1) (fxO o1) (fxP o1) (fxQ o1)
def H1x69 (s : List Int32) (o0 o1 : Ob) (a0_30 a0_31 a0_32 : List Int32) : QHeap := H1v s (fA o0) (fB o0) (fC o0) (fD o0) (fE o0) (fF o0) (fG o0) (fH o0) (fI o0) (fJ o0) (fK o0) (fL o0) (fM o0) (fN o0) (fR o0) (fT o0) (fU o0) (fV o0) (fW o0) (fX o0) (fY o0) (fZ o0) (fd o0) (ff o0) (fh o0) (fi o0) (fm o0) (fq o0) (fu o0) (fy o0) a0_30 a0_31 a0_32 (fxC o0) (fxD o0) (fxE o0) (fxF o0) (fxG o0) (fxH o0) (fxI o0) (fxJ o0) (fxK o0) (fxL o0) (fxM o0) (fxN o0) (fxO o0) (fxP o0) (fxQ o0) (fA o1) (fB o1) (fC o1) (fD o1) (fE o1) (fF o1) (fG o1) (fH o1) (fI o1) (fJ o1) (fK o1) (fL o1) (fM o1) (fN o1) (fR o1) (fT o1) (fU o1) (fV o1) (fW o1) (fX o1) (fY o1) (fZ o1) (fd o1) (ff o1) (fh o1) (fi o1) (fm o1) (fq o1) (fu o1) (fy o1) (fz o1) (fxA o1) (fxB o1) (fxC o1) (fxD o1) (fxE o1) (fxF o1) (fxG o1) (fxH o1) (fxI o1) (fxJ o1) (fxK o1) (fxL o1) (fxM o1) (fxN o1) (fxO o1) (fxP o1) (fxQ o1)
def H1x70 (s : List Int32) (o0 o1 : Ob) (a0_30 a0_31 : List Int32) (a0_32 a0_33 : List Int32) : QHeap := H1v s (fA o0) (fB o0) (fC o0) (fD o0) (fE o0) (fF o0) (fG o0) (fH o0) (fI o0) (fJ o0) (fK o0) (fL o0) (fM o0) (fN o0) (fR o0) (fT o0) (fU o0) (fV o0) (fW o0) (fX o0) (fY o0) (fZ o0) (fd o0) (ff o0) (fh o0) (fi o0) (fm o0) (fq o0) (fu o0) (fy o0) a0_30 a0_31 a0_32 a0_33 (fxD o0) (fxE o0) (fxF o0) (fxG o0) (fxH o0) (fxI o0) (fxJ o0) (fxK o0) (fxL o0) (fxM o0) (fxN o0) (fxO o0) (fxP o0) (fxQ o0) (fA o1) (fB o1) (fC o1) (fD o1) (fE o1) (fF o1) (fG o1) (fH o1) (fI o1) (fJ o1) (fK o1) (fL o1) (fM o1) (fN o1) (fR o1) (fT o1) (fU o1) (fV o1) (fW o1) (fX o1) (fY o1) (fZ o1) (fd o1) (ff o1) (fh o1) (fi o1) (fm o1) (fq o1) (fu o1) (fy o1) (fz o1) (fxA o1) (fxB o1) (fxC o1) (fxD o1) (fxE o1) (fxF o1) (fxG o1) (fxH o1) (fxI o1) (fxJ o1) (fxK o1) (fxL o1) (fxM o1) (fxN o1) (fxO o1) (fxP o1) (fxQ o1)
def H1x71 (s : List Int32) (o0 o1 : Ob) (a0_30 a0_31 : List Int32) (a0_32 a0_33 : List Int32) (a0_47 : Int32) : QHeap := H1v s (fA o0) (fB o0) (fC o0) (fD o0) (fE o0) (fF o0) (fG o0) (fH o0) (fI o0) (fJ o0) (fK o0) (fL o0) (fM o0) (fN o0) (fR o0) (fT o0) (fU o0) (fV o0) (fW o0) (fX o0) (fY o0) (fZ o0) (fd o0) (ff o0) (fh o0) (fi o0) (fm o0) (fq o0) (fu o0) (fy o0) a0_30 a0_31 a0_32 a0_33 (fxD o0) (fxE o0) (fxF o0) (fxG o0) (fxH o0) (fxI o0) (fxJ o0) (fxK o0) (fxL o0) (fxM o0) (fxN o0) (fxO o0) (fxP o0) a0_47 (fA o1) (fB o1) (fC o1) (fD o1) (fE o1) (fF o1) (fG o1) (fH o1) (fI o1) (fJ o1) (fK o1) (fL o1) (fM o1) (fN o1) (fR o1) (fT o1) (fU o1) (fV o1) (fW o1) (fX o1) (fY o1) (fZ o1) (fd o1) (ff o1) (fh o1) (fi o1) (fm o1) (fq o1) (fu o1) (fy o1) (fz o1) (fxA o1) (fxB o1) (fxC o1) (fxD o1) (fxE o1) (fxF o1) (fxG o1) (fxH o1) (fxI o1) (fxJ o1) (fxK o1) (fxL o1) (fxM o1) (fxN o1) (fxO o1) (fxP o1) (fxQ o1)
/-- push(IIII)V -/
def F30 (o : Ob) (x1 x2 : Int32) (x3 x4 : Int32) : Option (Ob) :=
 (if (fxQ o) < (0:Int32) then some o else (if (fxQ o) < ((fz o).length.toInt32) then (aset (fz o) (fxQ o) x1).bind fun y442 => (aset (fxA o) (fxQ o) x2).bind fun y443 => (aset (fxB o) (fxQ o) x3).bind fun y444 => (aset (fxC o) (fxQ o) x4).bind fun y445 => some (sxQ (sxC (sxB (sxA (sz o y442) y443) y444) y445) ((fxQ o) + (1:Int32))) else some o))
theorem tF30 (Ad : QAd n0 ad) (W : QW Z a0) (s : List Int32) (e0 o : Ob) (x1 x2 : Int32) (x3 x4 : Int32) {r : Ob} (h : F30 o x1 x2 x3 x4 = some r) : QTri l Z n0 ad 30 (0, qentry [.ref 1, .int x1, .int x2, .int x3, .int x4] (pMaxL 30), [], (H1 s o e0)) (none : Option Value) (H1 s r e0) := by
 unfold F30 at h
 refine yS Ad W 2 (4, [vR 1, vI x1, vI x2, vI x3, vI x4], [.int (fxQ o)], (H1 s o e0)) rfl ?_
 rcases qite h with ⟨c440, h⟩ | ⟨c440, h⟩
 ·refine yT Ad W 19 7 rfl (XT.i0_lt_t c440) ?_
  obtain rfl := sj h
  exact ret0 rfl rfl
 ·refine yF Ad W 19 7 rfl (XT.i0_lt_f c440) ?_
  refine yS Ad W 5 (16, [vR 1, vI x1, vI x2, vI x3, vI x4], [.int ((fz o).length.toInt32), .int (fxQ o)], (H1 s o e0)) rfl ?_
  rcases qite h with ⟨c441, h⟩ | ⟨c441, h⟩
  ·refine yT Ad W 20 19 rfl (XT.ii_lt_t c441) ?_
   refine yS Ad W 5 (29, [vR 1, vI x1, vI x2, vI x3, vI x4], [.int x1, .int (fxQ o), .ref 18], (H1 s o e0)) rfl ?_
   obtain ⟨y442, hy442, h⟩ := be h
   refine zB Ad W (f := fun y442 => (30, [vR 1, vI x1, vI x2, vI x3, vI x4], [], (H1x67 s o e0 y442))) rfl hy442 ?_
   refine yS Ad W 5 (39, [vR 1, vI x1, vI x2, vI x3, vI x4], [.int x2, .int (fxQ o), .ref 19], (H1x67 s o e0 y442)) rfl ?_
   obtain ⟨y443, hy443, h⟩ := be h
   refine zB Ad W (f := fun y443 => (40, [vR 1, vI x1, vI x2, vI x3, vI x4], [], (H1x68 s o e0 y442 y443))) rfl hy443 ?_
   refine yS Ad W 5 (49, [vR 1, vI x1, vI x2, vI x3, vI x4], [.int x3, .int (fxQ o), .ref 20], (H1x68 s o e0 y442 y443)) rfl ?_
   obtain ⟨y444, hy444, h⟩ := be h
   refine zB Ad W (f := fun y444 => (50, [vR 1, vI x1, vI x2, vI x3, vI x4], [], (H1x69 s o e0 y442 y443 y444))) rfl hy444 ?_
   refine yS Ad W 5 (60, [vR 1, vI x1, vI x2, vI x3, vI x4], [.int x4, .int (fxQ o), .ref 21], (H1x69 s o e0 y442 y443 y444)) rfl ?_
   obtain ⟨y445, hy445, h⟩ := be h
   refine zB Ad W (f := fun y445 => (61, [vR 1, vI x1, vI x2, vI x3, vI x4], [], (H1x70 s o e0 y442 y443 y444 y445))) rfl hy445 ?_
   refine yS Ad W 6 (71, [vR 1, vI x1, vI x2, vI x3, vI x4], [], (H1x71 s o e0 y442 y443 y444 y445 ((fxQ o) + (1:Int32)))) rfl ?_
   have E446 : ((H1x71 s o e0 y442 y443 y444 y445 ((fxQ o) + (1:Int32))) : QHeap) = (H1 s (sxQ (sxC (sxB (sxA (sz o y442) y443) y444) y445) ((fxQ o) + (1:Int32))) e0) := by simp only [fs, H1, H1v, H1x71, sz, sxA, sxB, sxC, sxQ]
   rw [E446]
   obtain rfl := sj h
   exact ret0 rfl rfl
  ·refine yF Ad W 20 19 rfl (XT.ii_lt_f c441) ?_
   obtain rfl := sj h
   exact ret0 rfl rfl
def H1x72 (s : List Int32) (o0 o1 : Ob) (a0_47 : Int32) : QHeap := H1v s (fA o0) (fB o0) (fC o0) (fD o0) (fE o0) (fF o0) (fG o0) (fH o0) (fI o0) (fJ o0) (fK o0) (fL o0) (fM o0) (fN o0) (fR o0) (fT o0) (fU o0) (fV o0) (fW o0) (fX o0) (fY o0) (fZ o0) (fd o0) (ff o0) (fh o0) (fi o0) (fm o0) (fq o0) (fu o0) (fy o0) (fz o0) (fxA o0) (fxB o0) (fxC o0) (fxD o0) (fxE o0) (fxF o0) (fxG o0) (fxH o0) (fxI o0) (fxJ o0) (fxK o0) (fxL o0) (fxM o0) (fxN o0) (fxO o0) (fxP o0) a0_47 (fA o1) (fB o1) (fC o1) (fD o1) (fE o1) (fF o1) (fG o1) (fH o1) (fI o1) (fJ o1) (fK o1) (fL o1) (fM o1) (fN o1) (fR o1) (fT o1) (fU o1) (fV o1) (fW o1) (fX o1) (fY o1) (fZ o1) (fd o1) (ff o1) (fh o1) (fi o1) (fm o1) (fq o1) (fu o1) (fy o1) (fz o1) (fxA o1) (fxB o1) (fxC o1) (fxD o1) (fxE o1) (fxF o1) (fxG o1) (fxH o1) (fxI o1) (fxJ o1) (fxK o1) (fxL o1) (fxM o1) (fxN o1) (fxO o1) (fxP o1) (fxQ o1)
/-- clusterLow(I)I -/
def F40 (o : Ob) (x1 : Int32) : Option (Int32) :=
 (if x1 < (0:Int32) then some (0:Int32) else (if x1 < (fxL o) then (aget (fY o) x1).bind fun y458 => (if y458 < (0:Int32) then some (0:Int32) else (if y458 < (fxI o) then (aget (fU o) y458).bind fun y461 => some y461 else some (0:Int32))) else some (0:Int32)))
theorem tF40 (Ad : QAd n0 ad) (W : QW Z a0) (s : List Int32) (e0 o : Ob) (x1 : Int32) {r : Int32} (h : F40 o x1 = some r) : QTri l Z n0 ad 40 (0, qentry [.ref 1, .int x1] (pMaxL 40), [], (H1 s o e0)) (some (Value.int r)) (H1 s o e0) := by
 unfold F40 at h
 refine yS Ad W 1 (1, [vR 1, vI x1, nN], [.int x1], (H1 s o e0)) rfl ?_
 rcases qite h with ⟨c456, h⟩ | ⟨c456, h⟩
 ·refine yT Ad W 12 4 rfl (XT.i0_lt_t c456) ?_
  refine yS Ad W 1 (13, [vR 1, vI x1, nN], [.int 0], (H1 s o e0)) rfl ?_
  obtain rfl := sj h
  exact retI rfl rfl
 ·refine yF Ad W 12 4 rfl (XT.i0_lt_f c456) ?_
  refine yS Ad W 3 (9, [vR 1, vI x1, nN], [.int (fxL o), .int x1], (H1 s o e0)) rfl ?_
  rcases qite h with ⟨c457, h⟩ | ⟨c457, h⟩
  ·refine yT Ad W 14 12 rfl (XT.ii_lt_t c457) ?_
   refine yS Ad W 3 (19, [vR 1, vI x1, nN], [.int x1, .ref 8], (H1 s o e0)) rfl ?_
   obtain ⟨y458, hy458, h⟩ := be h
   refine zB Ad W (f := fun y458 => (20, [vR 1, vI x1, nN], [.int y458], (H1 s o e0))) rfl hy458 ?_
   refine yS Ad W 2 (22, [vR 1, vI x1, vI y458], [.int y458], (H1 s o e0)) rfl ?_
   rcases qite h with ⟨c459, h⟩ | ⟨c459, h⟩
   ·refine yT Ad W 33 25 rfl (XT.i0_lt_t c459) ?_
    refine yS Ad W 1 (34, [vR 1, vI x1, vI y458], [.int 0], (H1 s o e0)) rfl ?_
    obtain rfl := sj h
    exact retI rfl rfl
   ·refine yF Ad W 33 25 rfl (XT.i0_lt_f c459) ?_
    refine yS Ad W 3 (30, [vR 1, vI x1, vI y458], [.int (fxI o), .int y458], (H1 s o e0)) rfl ?_
    rcases qite h with ⟨c460, h⟩ | ⟨c460, h⟩
    ·refine yT Ad W 35 33 rfl (XT.ii_lt_t c460) ?_
     refine yS Ad W 3 (40, [vR 1, vI x1, vI y458], [.int y458, .ref 4], (H1 s o e0)) rfl ?_
     obtain ⟨y461, hy461, h⟩ := be h
     refine zB Ad W (f := fun y461 => (41, [vR 1, vI x1, vI y458], [.int y461], (H1 s o e0))) rfl hy461 ?_
     obtain rfl := sj h
     exact retI rfl rfl
    ·refine yF Ad W 35 33 rfl (XT.ii_lt_f c460) ?_
     refine yS Ad W 1 (34, [vR 1, vI x1, vI y458], [.int 0], (H1 s o e0)) rfl ?_
     obtain rfl := sj h
     exact retI rfl rfl
  ·refine yF Ad W 14 12 rfl (XT.ii_lt_f c457) ?_
   refine yS Ad W 1 (13, [vR 1, vI x1, nN], [.int 0], (H1 s o e0)) rfl ?_
   obtain rfl := sj h
   exact retI rfl rfl
def J35_12 (o : Ob) (x3 : Int32) : Option (Ob) :=
  some (sxN o x3)
theorem tJ35_12 (Ad : QAd n0 ad) (W : QW Z a0) (s : List Int32) (e0 o : Ob) (x3 : Int32) {r : Ob} (h : J35_12 o x3 = some r) : QTri l Z n0 ad 35 (12, [vR 1, nN, nN, vI x3], [], (H1 s o e0)) (none : Option Value) (H1 s r e0) := by
 unfold J35_12 at h
 refine yS Ad W 3 (17, [vR 1, nN, nN, vI x3], [], (H1x66 s o e0 x3)) rfl ?_
 have E467 : ((H1x66 s o e0 x3) : QHeap) = (H1 s (sxN o x3) e0) := by simp only [fs, H1, H1v, H1x66, sxN]
 rw [E467]
 obtain rfl := sj h
 exact ret0 rfl rfl
def H1x73 (s : List Int32) (o0 o1 : Ob) (a0_24 : List Int32) : QHeap := H1v s (fA o0) (fB o0) (fC o0) (fD o0) (fE o0) (fF o0) (fG o0) (fH o0) (fI o0) (fJ o0) (fK o0) (fL o0) (fM o0) (fN o0) (fR o0) (fT o0) (fU o0) (fV o0) (fW o0) (fX o0) (fY o0) (fZ o0) (fd o0) (ff o0) a0_24 (fi o0) (fm o0) (fq o0) (fu o0) (fy o0) (fz o0) (fxA o0) (fxB o0) (fxC o0) (fxD o0) (fxE o0) (fxF o0) (fxG o0) (fxH o0) (fxI o0) (fxJ o0) (fxK o0) (fxL o0) (fxM o0) (fxN o0) (fxO o0) (fxP o0) (fxQ o0) (fA o1) (fB o1) (fC o1) (fD o1) (fE o1) (fF o1) (fG o1) (fH o1) (fI o1) (fJ o1) (fK o1) (fL o1) (fM o1) (fN o1) (fR o1) (fT o1) (fU o1) (fV o1) (fW o1) (fX o1) (fY o1) (fZ o1) (fd o1) (ff o1) (fh o1) (fi o1) (fm o1) (fq o1) (fu o1) (fy o1) (fz o1) (fxA o1) (fxB o1) (fxC o1) (fxD o1) (fxE o1) (fxF o1) (fxG o1) (fxH o1) (fxI o1) (fxJ o1) (fxK o1) (fxL o1) (fxM o1) (fxN o1) (fxO o1) (fxP o1) (fxQ o1)
def H1x74 (s : List Int32) (o0 o1 : Ob) (a0_25 : List Int32) : QHeap := H1v s (fA o0) (fB o0) (fC o0) (fD o0) (fE o0) (fF o0) (fG o0) (fH o0) (fI o0) (fJ o0) (fK o0) (fL o0) (fM o0) (fN o0) (fR o0) (fT o0) (fU o0) (fV o0) (fW o0) (fX o0) (fY o0) (fZ o0) (fd o0) (ff o0) (fh o0) a0_25 (fm o0) (fq o0) (fu o0) (fy o0) (fz o0) (fxA o0) (fxB o0) (fxC o0) (fxD o0) (fxE o0) (fxF o0) (fxG o0) (fxH o0) (fxI o0) (fxJ o0) (fxK o0) (fxL o0) (fxM o0) (fxN o0) (fxO o0) (fxP o0) (fxQ o0) (fA o1) (fB o1) (fC o1) (fD o1) (fE o1) (fF o1) (fG o1) (fH o1) (fI o1) (fJ o1) (fK o1) (fL o1) (fM o1) (fN o1) (fR o1) (fT o1) (fU o1) (fV o1) (fW o1) (fX o1) (fY o1) (fZ o1) (fd o1) (ff o1) (fh o1) (fi o1) (fm o1) (fq o1) (fu o1) (fy o1) (fz o1) (fxA o1) (fxB o1) (fxC o1) (fxD o1) (fxE o1) (fxF o1) (fxG o1) (fxH o1) (fxI o1) (fxJ o1) (fxK o1) (fxL o1) (fxM o1) (fxN o1) (fxO o1) (fxP o1) (fxQ o1)
/-- patch(III)V -/
def F35 (o : Ob) (x1 x2 x3 : Int32) : Option (Ob) :=
 (if x1 < (0:Int32) then (J35_12 o x3) else (if x1 < (fxM o) then (if x2 = (0:Int32) then (aset (fh o) x1 x3).bind fun y470 => some (sh o y470) else (aset (fi o) x1 x3).bind fun y472 => some (si o y472)) else (J35_12 o x3)))
theorem tF35 (Ad : QAd n0 ad) (W : QW Z a0) (s : List Int32) (e0 o : Ob) (x1 x2 x3 : Int32) {r : Ob} (h : F35 o x1 x2 x3 = some r) : QTri l Z n0 ad 35 (0, qentry [.ref 1, .int x1, .int x2, .int x3] (pMaxL 35), [], (H1 s o e0)) (none : Option Value) (H1 s r e0) := by
 unfold F35 at h
 refine yS Ad W 1 (1, [vR 1, vI x1, vI x2, vI x3], [.int x1], (H1 s o e0)) rfl ?_
 rcases qite h with ⟨c466, h⟩ | ⟨c466, h⟩
 ·refine yT Ad W 12 4 rfl (XT.i0_lt_t c466) ?_
  exact zM [G,Y,Y,G] (tJ35_12 Ad W s e0 o x3 h)
 ·refine yF Ad W 12 4 rfl (XT.i0_lt_f c466) ?_
  refine yS Ad W 3 (9, [vR 1, vI x1, vI x2, vI x3], [.int (fxM o), .int x1], (H1 s o e0)) rfl ?_
  rcases qite h with ⟨c468, h⟩ | ⟨c468, h⟩
  ·refine yT Ad W 18 12 rfl (XT.ii_lt_t c468) ?_
   refine yS Ad W 1 (19, [vR 1, vI x1, vI x2, vI x3], [.int x2], (H1 s o e0)) rfl ?_
   rcases qite h with ⟨c469, h⟩ | ⟨c469, h⟩
   ·refine yF Ad W 32 22 rfl (XT.i0_ne_f c469) ?_
    refine yS Ad W 4 (28, [vR 1, vI x1, vI x2, vI x3], [.int x3, .int x1, .ref 12], (H1 s o e0)) rfl ?_
    obtain ⟨y470, hy470, h⟩ := be h
    refine zB Ad W (f := fun y470 => (29, [vR 1, vI x1, vI x2, vI x3], [], (H1x73 s o e0 y470))) rfl hy470 ?_
    refine yS Ad W 1 (39, [vR 1, vI x1, vI x2, vI x3], [], (H1x73 s o e0 y470)) rfl ?_
    have E471 : ((H1x73 s o e0 y470) : QHeap) = (H1 s (sh o y470) e0) := by simp only [fs, H1, H1v, H1x73, sh]
    rw [E471]
    obtain rfl := sj h
    exact ret0 rfl rfl
   ·refine yT Ad W 32 22 rfl (XT.i0_ne_t c469) ?_
    refine yS Ad W 4 (38, [vR 1, vI x1, vI x2, vI x3], [.int x3, .int x1, .ref 13], (H1 s o e0)) rfl ?_
    obtain ⟨y472, hy472, h⟩ := be h
    refine zB Ad W (f := fun y472 => (39, [vR 1, vI x1, vI x2, vI x3], [], (H1x74 s o e0 y472))) rfl hy472 ?_
    have E473 : ((H1x74 s o e0 y472) : QHeap) = (H1 s (si o y472) e0) := by simp only [fs, H1, H1v, H1x74, si]
    rw [E473]
    obtain rfl := sj h
    exact ret0 rfl rfl
  ·refine yF Ad W 18 12 rfl (XT.ii_lt_f c468) ?_
   exact zM [G,Y,Y,G] (tJ35_12 Ad W s e0 o x3 h)
def J8_193 (o : Ob) (x1 x4 : Int32) (x5 x6 : Int32) : Option (((Ob)) ⊕ (Int32 × Ob)) :=
  (F35 o x4 x5 x6).bind fun r474 => some (.inr ((x1 + (1 : Int32)), r474))
theorem tJ8_193 (Ad : QAd n0 ad) (W : QW Z a0) (s : List Int32) (e0 o : Ob) (x1 x4 : Int32) (x5 x6 : Int32) {r : ((Ob)) ⊕ (Int32 × Ob)} {u : Option Value} {τ : QHeap} (h : J8_193 o x1 x4 x5 x6 = some r) (hx0 : ∀ x : Ob, r = .inl x → u = (none : Option Value) ∧ τ = (H1 s x e0)) (hc : ∀ x : Int32 × Ob, r = .inr x → QTri l Z n0 ad 8 (59, [vR 1, vI x.1, nN, nN, nN, nN, nN, nN, nN], [], (H1 s x.2 e0)) u τ) : QTri l Z n0 ad 8 (193, [vR 1, vI x1, nN, nN, vI x4, vI x5, vI x6, nN, nN], [], (H1 s o e0)) u τ := by
 unfold J8_193 at h
 refine yS Ad W 4 (200, [vR 1, vI x1, nN, nN, vI x4, vI x5, vI x6, nN, nN], [.int x6, .int x5, .int x4, .ref 1], (H1 s o e0)) rfl ?_
 obtain ⟨r474, hr474, h⟩ := be h
 refine callP W (a := 1) (as := [.int x4, .int x5, .int x6]) (rest := []) (w := none) (σ₁ := (H1 s r474 e0)) rfl rfl rfl rfl rfl rfl rfl rfl (tF35 Ad W s e0 o x4 x5 x6 hr474) ?_
 refine yS Ad W 2 (59, [vR 1, vI (x1 + (1:Int32)), nN, nN, vI x4, vI x5, vI x6, nN, nN], [], (H1 s r474 e0)) rfl ?_
 obtain rfl := sj h
 exact zM [G,G,Y,Y,Y,Y,Y,Y,Y] (hc ((x1 + (1:Int32)), r474) rfl)
def B32_8 (o : Ob) (x2 : Int32) (v : Int32 × Int32 × Int32) : Option (((Int32)) ⊕ (Int32 × Int32 × Int32)) :=
  (if x2 < v.2.2 then some (.inl v.2.1) else (if v.2.2 < (fxI o) then (aget (fV o) v.2.2).bind fun y491 => some (.inr ((if y491 = (fxJ o) then v.1 else (if (v.1 &&& ((1 : Int32) <<< (y491 &&& 31))) = (0 : Int32) then (v.1 ||| ((1 : Int32) <<< (y491 &&& 31))) else v.1)), (if y491 = (fxJ o) then v.2.1 else (if (v.1 &&& ((1 : Int32) <<< (y491 &&& 31))) = (0 : Int32) then (v.2.1 + (1 : Int32)) else v.2.1)), (v.2.2 + (1 : Int32)))) else some (.inl v.2.1)))
theorem tB32_8 (Ad : QAd n0 ad) (W : QW Z a0) (s : List Int32) (e0 o : Ob) (x2 : Int32) (v : Int32 × Int32 × Int32) {r : ((Int32)) ⊕ (Int32 × Int32 × Int32)} {u : Option Value} {τ : QHeap} (h : B32_8 o x2 v = some r) (hx0 : ∀ x : Int32, r = .inl x → u = (some (Value.int x)) ∧ τ = (H1 s o e0)) (hc : ∀ x : Int32 × Int32 × Int32, r = .inr x → QTri l Z n0 ad 32 (8, [vR 1, nN, vI x2, vI x.1, vI x.2.1, vI x.2.2, nN], [], (H1 s o e0)) u τ) : QTri l Z n0 ad 32 (8, [vR 1, nN, vI x2, vI v.1, vI v.2.1, vI v.2.2, nN], [], (H1 s o e0)) u τ := by
 unfold B32_8 at h
 refine yS Ad W 2 (11, [vR 1, nN, vI x2, vI v.1, vI v.2.1, vI v.2.2, nN], [.int x2, .int v.2.2], (H1 s o e0)) rfl ?_
 rcases qite h with ⟨c489, h⟩ | ⟨c489, h⟩
 ·refine yT Ad W 66 14 rfl (XT.ii_gt_t c489) ?_
  refine yS Ad W 1 (68, [vR 1, nN, vI x2, vI v.1, vI v.2.1, vI v.2.2, nN], [.int v.2.1], (H1 s o e0)) rfl ?_
  obtain rfl := sj h
  obtain ⟨rfl, rfl⟩ := hx0 v.2.1 rfl
  exact retI rfl rfl
 ·refine yF Ad W 66 14 rfl (XT.ii_gt_f c489) ?_
  refine yS Ad W 3 (20, [vR 1, nN, vI x2, vI v.1, vI v.2.1, vI v.2.2, nN], [.int (fxI o), .int v.2.2], (H1 s o e0)) rfl ?_
  rcases qite h with ⟨c490, h⟩ | ⟨c490, h⟩
  ·refine yF Ad W 66 23 rfl (XT.ii_ge_f c490) ?_
   refine yS Ad W 3 (29, [vR 1, nN, vI x2, vI v.1, vI v.2.1, vI v.2.2, nN], [.int v.2.2, .ref 5], (H1 s o e0)) rfl ?_
   obtain ⟨y491, hy491, h⟩ := be h
   refine zB Ad W (f := fun y491 => (30, [vR 1, nN, vI x2, vI v.1, vI v.2.1, vI v.2.2, nN], [.int y491], (H1 s o e0))) rfl hy491 ?_
   refine yS Ad W 4 (38, [vR 1, nN, vI x2, vI v.1, vI v.2.1, vI v.2.2, vI y491], [.int (fxJ o), .int y491], (H1 s o e0)) rfl ?_
   have K494 : ∀ z492 : Int32, z492 = (if y491 = (fxJ o) then v.1 else (if (v.1 &&& ((1:Int32) <<< (y491 &&& 31))) = (0:Int32) then (v.1 ||| ((1:Int32) <<< (y491 &&& 31))) else v.1)) → ∀ z493 : Int32, z493 = (if y491 = (fxJ o) then v.2.1 else (if (v.1 &&& ((1:Int32) <<< (y491 &&& 31))) = (0:Int32) then (v.2.1 + (1:Int32)) else v.2.1)) → QTri l Z n0 ad 32 (60, [vR 1, nN, vI x2, vI z492, vI z493, vI v.2.2, nN], [], (H1 s o e0)) u τ := by
    intro z492 ez492
    intro z493 ez493
    subst ez492
    subst ez493
    refine yS Ad W 2 (8, [vR 1, nN, vI x2, vI (if y491 = (fxJ o) then v.1 else (if (v.1 &&& ((1:Int32) <<< (y491 &&& 31))) = (0:Int32) then (v.1 ||| ((1:Int32) <<< (y491 &&& 31))) else v.1)), vI (if y491 = (fxJ o) then v.2.1 else (if (v.1 &&& ((1:Int32) <<< (y491 &&& 31))) = (0:Int32) then (v.2.1 + (1:Int32)) else v.2.1)), vI (v.2.2 + (1:Int32)), nN], [], (H1 s o e0)) rfl ?_
    obtain rfl := sj h
    exact zM [G,Y,G,G,G,G,Y] (hc ((if y491 = (fxJ o) then v.1 else (if (v.1 &&& ((1:Int32) <<< (y491 &&& 31))) = (0:Int32) then (v.1 ||| ((1:Int32) <<< (y491 &&& 31))) else v.1)), (if y491 = (fxJ o) then v.2.1 else (if (v.1 &&& ((1:Int32) <<< (y491 &&& 31))) = (0:Int32) then (v.2.1 + (1:Int32)) else v.2.1)), (v.2.2 + (1:Int32))) rfl)
   rcases em (y491 = (fxJ o)) with c495 | c495
   ·refine yT Ad W 60 41 rfl (XT.ii_eq_t c495) ?_
    exact zM [G,Y,G,G,G,G,Y] (K494 _ (if_pos c495).symm _ (if_pos c495).symm)
   ·refine yF Ad W 60 41 rfl (XT.ii_eq_f c495) ?_
    refine yS Ad W 5 (47, [vR 1, nN, vI x2, vI v.1, vI v.2.1, vI v.2.2, vI y491], [.int (v.1 &&& ((1:Int32) <<< (y491 &&& 31)))], (H1 s o e0)) rfl ?_
    rcases em ((v.1 &&& ((1:Int32) <<< (y491 &&& 31))) = (0:Int32)) with c496 | c496
    ·refine yF Ad W 60 50 rfl (XT.i0_ne_f c496) ?_
     refine yS Ad W 7 (60, [vR 1, nN, vI x2, vI (v.1 ||| ((1:Int32) <<< (y491 &&& 31))), vI (v.2.1 + (1:Int32)), vI v.2.2, vI y491], [], (H1 s o e0)) rfl ?_
     exact zM [G,Y,G,G,G,G,Y] (K494 _ ((if_neg c495).trans (if_pos c496)).symm _ ((if_neg c495).trans (if_pos c496)).symm)
    ·refine yT Ad W 60 50 rfl (XT.i0_ne_t c496) ?_
     exact zM [G,Y,G,G,G,G,Y] (K494 _ ((if_neg c495).trans (if_neg c496)).symm _ ((if_neg c495).trans (if_neg c496)).symm)
  ·refine yT Ad W 66 23 rfl (XT.ii_ge_t c490) ?_
   refine yS Ad W 1 (68, [vR 1, nN, vI x2, vI v.1, vI v.2.1, vI v.2.2, nN], [.int v.2.1], (H1 s o e0)) rfl ?_
   obtain rfl := sj h
   obtain ⟨rfl, rfl⟩ := hx0 v.2.1 rfl
   exact retI rfl rfl
/-- distinctTargets(II)I -/
def F32 (o : Ob) (x1 x2 : Int32) : Option (Int32) :=
 (loopN (B32_8 o x2) qN ((0:Int32), (0:Int32), x1)).bind fun e497 => some e497
theorem tF32 (Ad : QAd n0 ad) (W : QW Z a0) (s : List Int32) (e0 o : Ob) (x1 x2 : Int32) {r : Int32} (h : F32 o x1 x2 = some r) : QTri l Z n0 ad 32 (0, qentry [.ref 1, .int x1, .int x2] (pMaxL 32), [], (H1 s o e0)) (some (Value.int r)) (H1 s o e0) := by
 unfold F32 at h
 refine yS Ad W 4 (5, [vR 1, vI x1, vI x2, vI 0, vI 0, nN, nN], [], (H1 s o e0)) rfl ?_
 refine yS Ad W 2 (8, [vR 1, vI x1, vI x2, vI 0, vI 0, vI x1, nN], [], (H1 s o e0)) rfl ?_
 obtain ⟨e497, he497, h⟩ := be h
 refine zM [G,Y,G,G,G,G,Y] (loopN_tri (B := B32_8 o x2) (T := fun lv498 => QTri l Z n0 ad 32 (8, [vR 1, nN, vI x2, vI lv498.1, vI lv498.2.1, vI lv498.2.2, nN], [], (H1 s o e0)) (some (Value.int r)) (H1 s o e0)) (KE := fun e497a => (some (Value.int r)) = (some (Value.int e497a)) ∧ (H1 s o e0) = (H1 s o e0)) (fun lv498 r hB hE hC => tB32_8 Ad W s e0 o x2 lv498 hB (fun x q => hE _ q) (fun x q => hC x q)) qN ((0:Int32), (0:Int32), x1) e497 he497 ?_)
 obtain rfl := sj h
 exact ⟨rfl, rfl⟩
def J31_124 (o : Ob) (x2 x3 : Int32) (x4 : Int64) : Option (Int32 × Ob) :=
  none
theorem tJ31_124 (Ad : QAd n0 ad) (W : QW Z a0) (s : List Int32) (e0 o : Ob) (x2 x3 : Int32) (x4 : Int64) {r : Int32 × Ob} (h : J31_124 o x2 x3 x4 = some r) : QTri l Z n0 ad 31 (124, [vR 1, nN, vI x2, vI x3, vL x4, nN, nN], [], (H1 s o e0)) (some (Value.int r.1)) (H1 s r.2 e0) := by
 unfold J31_124 at h
 cases h
def J33_151 (o : Ob) (x2 x3 : Int32) (x4 x5 : Int32) (x6 x7 : Int32) : Option (((Int32 × Ob)) ⊕ (Int32 × Int32 × Ob)) :=
  some (.inr (x6, (x7 + (1 : Int32)), o))
theorem tJ33_151 (Ad : QAd n0 ad) (W : QW Z a0) (s : List Int32) (e0 o : Ob) (x2 x3 : Int32) (x4 x5 : Int32) (x6 x7 : Int32) {r : ((Int32 × Ob)) ⊕ (Int32 × Int32 × Ob)} {u : Option Value} {τ : QHeap} (h : J33_151 o x2 x3 x4 x5 x6 x7 = some r) (hx0 : ∀ x : Int32 × Ob, r = .inl x → QTri l Z n0 ad 33 (157, [vR 1, nN, nN, vI x3, vI x4, vI x5, vI x.1, nN, nN, nN, nN], [], (H1 s x.2 e0)) u τ) (hc : ∀ x : Int32 × Int32 × Ob, r = .inr x → QTri l Z n0 ad 33 (20, [vR 1, nN, vI x2, vI x3, vI x4, vI x5, vI x.1, vI x.2.1, nN, nN, nN], [], (H1 s x.2.2 e0)) u τ) : QTri l Z n0 ad 33 (151, [vR 1, nN, vI x2, vI x3, vI x4, vI x5, vI x6, vI x7, nN, nN, nN], [], (H1 s o e0)) u τ := by
 unfold J33_151 at h
 refine yS Ad W 2 (20, [vR 1, nN, vI x2, vI x3, vI x4, vI x5, vI x6, vI (x7 + (1:Int32)), nN, nN, nN], [], (H1 s o e0)) rfl ?_
 obtain rfl := sj h
 exact zM [G,Y,G,G,G,G,G,G,Y,Y,Y] (hc (x6, (x7 + (1:Int32)), o) rfl)
def J34_44 (o : Ob) (x1 x2 : Int32) (x3 x4 : Int32) : Option (((Int32)) ⊕ (Int32)) :=
  some (.inr (x4 + (1 : Int32)))
theorem tJ34_44 (Ad : QAd n0 ad) (W : QW Z a0) (s : List Int32) (e0 o : Ob) (x1 x2 : Int32) (x3 x4 : Int32) {r : ((Int32)) ⊕ (Int32)} {u : Option Value} {τ : QHeap} (h : J34_44 o x1 x2 x3 x4 = some r) (hx0 : ∀ x : Int32, r = .inl x → u = (some (Value.int x)) ∧ τ = (H1 s o e0)) (hc : ∀ x : Int32, r = .inr x → QTri l Z n0 ad 34 (3, [vR 1, vI x1, vI x2, vI x3, vI x, nN], [], (H1 s o e0)) u τ) : QTri l Z n0 ad 34 (44, [vR 1, vI x1, vI x2, vI x3, vI x4, nN], [], (H1 s o e0)) u τ := by
 unfold J34_44 at h
 refine yS Ad W 2 (3, [vR 1, vI x1, vI x2, vI x3, vI (x4 + (1:Int32)), nN], [], (H1 s o e0)) rfl ?_
 obtain rfl := sj h
 exact zM [G,G,G,G,G,Y] (hc (x4 + (1:Int32)) rfl)
def B34_3 (o : Ob) (x1 x2 : Int32) (x3 v : Int32) : Option (((Int32)) ⊕ (Int32)) :=
  (if v < x2 then (if (x1 + v) < (0 : Int32) then (J34_44 o x1 x2 x3 v) else (if (x1 + v) < ((fy o).length.toInt32) then (aget (fy o) (x1 + v)).bind fun y510 => (if y510 = x3 then some (.inl (x1 + v)) else (J34_44 o x1 x2 x3 v)) else (J34_44 o x1 x2 x3 v))) else some (.inl (-1 : Int32)))
theorem tB34_3 (Ad : QAd n0 ad) (W : QW Z a0) (s : List Int32) (e0 o : Ob) (x1 x2 : Int32) (x3 v : Int32) {r : ((Int32)) ⊕ (Int32)} {u : Option Value} {τ : QHeap} (h : B34_3 o x1 x2 x3 v = some r) (hx0 : ∀ x : Int32, r = .inl x → u = (some (Value.int x)) ∧ τ = (H1 s o e0)) (hc : ∀ x : Int32, r = .inr x → QTri l Z n0 ad 34 (3, [vR 1, vI x1, vI x2, vI x3, vI x, nN], [], (H1 s o e0)) u τ) : QTri l Z n0 ad 34 (3, [vR 1, vI x1, vI x2, vI x3, vI v, nN], [], (H1 s o e0)) u τ := by
 unfold B34_3 at h
 refine yS Ad W 2 (6, [vR 1, vI x1, vI x2, vI x3, vI v, nN], [.int x2, .int v], (H1 s o e0)) rfl ?_
 rcases qite h with ⟨c507, h⟩ | ⟨c507, h⟩
 ·refine yF Ad W 50 9 rfl (XT.ii_ge_f c507) ?_
  refine yS Ad W 5 (17, [vR 1, vI x1, vI x2, vI x3, vI v, vI (x1 + v)], [.int (x1 + v)], (H1 s o e0)) rfl ?_
  rcases qite h with ⟨c508, h⟩ | ⟨c508, h⟩
  ·refine yT Ad W 44 20 rfl (XT.i0_lt_t c508) ?_
   exact zM [G,G,G,G,G,Y] (tJ34_44 Ad W s e0 o x1 x2 x3 v h hx0 hc)
  ·refine yF Ad W 44 20 rfl (XT.i0_lt_f c508) ?_
   refine yS Ad W 4 (27, [vR 1, vI x1, vI x2, vI x3, vI v, vI (x1 + v)], [.int ((fy o).length.toInt32), .int (x1 + v)], (H1 s o e0)) rfl ?_
   rcases qite h with ⟨c509, h⟩ | ⟨c509, h⟩
   ·refine yF Ad W 44 30 rfl (XT.ii_ge_f c509) ?_
    refine yS Ad W 3 (36, [vR 1, vI x1, vI x2, vI x3, vI v, vI (x1 + v)], [.int (x1 + v), .ref 17], (H1 s o e0)) rfl ?_
    obtain ⟨y510, hy510, h⟩ := be h
    refine zB Ad W (f := fun y510 => (37, [vR 1, vI x1, vI x2, vI x3, vI v, vI (x1 + v)], [.int y510], (H1 s o e0))) rfl hy510 ?_
    refine yS Ad W 1 (38, [vR 1, vI x1, vI x2, vI x3, vI v, vI (x1 + v)], [.int x3, .int y510], (H1 s o e0)) rfl ?_
    rcases qite h with ⟨c511, h⟩ | ⟨c511, h⟩
    ·refine yF Ad W 44 41 rfl (XT.ii_ne_f c511) ?_
     refine yS Ad W 1 (43, [vR 1, vI x1, vI x2, vI x3, vI v, vI (x1 + v)], [.int (x1 + v)], (H1 s o e0)) rfl ?_
     obtain rfl := sj h
     obtain ⟨rfl, rfl⟩ := hx0 (x1 + v) rfl
     exact retI rfl rfl
    ·refine yT Ad W 44 41 rfl (XT.ii_ne_t c511) ?_
     exact zM [G,G,G,G,G,Y] (tJ34_44 Ad W s e0 o x1 x2 x3 v h hx0 hc)
   ·refine yT Ad W 44 30 rfl (XT.ii_ge_t c509) ?_
    exact zM [G,G,G,G,G,Y] (tJ34_44 Ad W s e0 o x1 x2 x3 v h hx0 hc)
 ·refine yT Ad W 50 9 rfl (XT.ii_ge_t c507) ?_
  refine yS Ad W 1 (51, [vR 1, vI x1, vI x2, vI x3, vI v, nN], [.int (-1:Int32)], (H1 s o e0)) rfl ?_
  obtain rfl := sj h
  obtain ⟨rfl, rfl⟩ := hx0 (-1:Int32) rfl
  exact retI rfl rfl
/-- findMaskSlot(III)I -/
def F34 (o : Ob) (x1 x2 x3 : Int32) : Option (Int32) :=
 (loopN (B34_3 o x1 x2 x3) qN (0:Int32)).bind fun e512 => some e512
theorem tF34 (Ad : QAd n0 ad) (W : QW Z a0) (s : List Int32) (e0 o : Ob) (x1 x2 x3 : Int32) {r : Int32} (h : F34 o x1 x2 x3 = some r) : QTri l Z n0 ad 34 (0, qentry [.ref 1, .int x1, .int x2, .int x3] (pMaxL 34), [], (H1 s o e0)) (some (Value.int r)) (H1 s o e0) := by
 unfold F34 at h
 refine yS Ad W 2 (3, [vR 1, vI x1, vI x2, vI x3, vI 0, nN], [], (H1 s o e0)) rfl ?_
 obtain ⟨e512, he512, h⟩ := be h
 refine zM [G,G,G,G,G,Y] (loopN_tri (B := B34_3 o x1 x2 x3) (T := fun lv513 => QTri l Z n0 ad 34 (3, [vR 1, vI x1, vI x2, vI x3, vI lv513, nN], [], (H1 s o e0)) (some (Value.int r)) (H1 s o e0)) (KE := fun e512a => (some (Value.int r)) = (some (Value.int e512a)) ∧ (H1 s o e0) = (H1 s o e0)) (fun lv513 r hB hE hC => tB34_3 Ad W s e0 o x1 x2 x3 lv513 hB (fun x q => hE _ q) (fun x q => hC x q)) qN (0:Int32) e512 he512 ?_)
 obtain rfl := sj h
 exact ⟨rfl, rfl⟩
def H1x75 (s : List Int32) (o0 o1 : Ob) (a0_29 : List Int32) : QHeap := H1v s (fA o0) (fB o0) (fC o0) (fD o0) (fE o0) (fF o0) (fG o0) (fH o0) (fI o0) (fJ o0) (fK o0) (fL o0) (fM o0) (fN o0) (fR o0) (fT o0) (fU o0) (fV o0) (fW o0) (fX o0) (fY o0) (fZ o0) (fd o0) (ff o0) (fh o0) (fi o0) (fm o0) (fq o0) (fu o0) a0_29 (fz o0) (fxA o0) (fxB o0) (fxC o0) (fxD o0) (fxE o0) (fxF o0) (fxG o0) (fxH o0) (fxI o0) (fxJ o0) (fxK o0) (fxL o0) (fxM o0) (fxN o0) (fxO o0) (fxP o0) (fxQ o0) (fA o1) (fB o1) (fC o1) (fD o1) (fE o1) (fF o1) (fG o1) (fH o1) (fI o1) (fJ o1) (fK o1) (fL o1) (fM o1) (fN o1) (fR o1) (fT o1) (fU o1) (fV o1) (fW o1) (fX o1) (fY o1) (fZ o1) (fd o1) (ff o1) (fh o1) (fi o1) (fm o1) (fq o1) (fu o1) (fy o1) (fz o1) (fxA o1) (fxB o1) (fxC o1) (fxD o1) (fxE o1) (fxF o1) (fxG o1) (fxH o1) (fxI o1) (fxJ o1) (fxK o1) (fxL o1) (fxM o1) (fxN o1) (fxO o1) (fxP o1) (fxQ o1)
def H1x76 (s : List Int32) (o0 o1 : Ob) (a0_28 : List Int64) (a0_29 : List Int32) : QHeap := H1v s (fA o0) (fB o0) (fC o0) (fD o0) (fE o0) (fF o0) (fG o0) (fH o0) (fI o0) (fJ o0) (fK o0) (fL o0) (fM o0) (fN o0) (fR o0) (fT o0) (fU o0) (fV o0) (fW o0) (fX o0) (fY o0) (fZ o0) (fd o0) (ff o0) (fh o0) (fi o0) (fm o0) (fq o0) a0_28 a0_29 (fz o0) (fxA o0) (fxB o0) (fxC o0) (fxD o0) (fxE o0) (fxF o0) (fxG o0) (fxH o0) (fxI o0) (fxJ o0) (fxK o0) (fxL o0) (fxM o0) (fxN o0) (fxO o0) (fxP o0) (fxQ o0) (fA o1) (fB o1) (fC o1) (fD o1) (fE o1) (fF o1) (fG o1) (fH o1) (fI o1) (fJ o1) (fK o1) (fL o1) (fM o1) (fN o1) (fR o1) (fT o1) (fU o1) (fV o1) (fW o1) (fX o1) (fY o1) (fZ o1) (fd o1) (ff o1) (fh o1) (fi o1) (fm o1) (fq o1) (fu o1) (fy o1) (fz o1) (fxA o1) (fxB o1) (fxC o1) (fxD o1) (fxE o1) (fxF o1) (fxG o1) (fxH o1) (fxI o1) (fxJ o1) (fxK o1) (fxL o1) (fxM o1) (fxN o1) (fxO o1) (fxP o1) (fxQ o1)
def H1x77 (s : List Int32) (o0 o1 : Ob) (a0_28 : List Int64) : QHeap := H1v s (fA o0) (fB o0) (fC o0) (fD o0) (fE o0) (fF o0) (fG o0) (fH o0) (fI o0) (fJ o0) (fK o0) (fL o0) (fM o0) (fN o0) (fR o0) (fT o0) (fU o0) (fV o0) (fW o0) (fX o0) (fY o0) (fZ o0) (fd o0) (ff o0) (fh o0) (fi o0) (fm o0) (fq o0) a0_28 (fy o0) (fz o0) (fxA o0) (fxB o0) (fxC o0) (fxD o0) (fxE o0) (fxF o0) (fxG o0) (fxH o0) (fxI o0) (fxJ o0) (fxK o0) (fxL o0) (fxM o0) (fxN o0) (fxO o0) (fxP o0) (fxQ o0) (fA o1) (fB o1) (fC o1) (fD o1) (fE o1) (fF o1) (fG o1) (fH o1) (fI o1) (fJ o1) (fK o1) (fL o1) (fM o1) (fN o1) (fR o1) (fT o1) (fU o1) (fV o1) (fW o1) (fX o1) (fY o1) (fZ o1) (fd o1) (ff o1) (fh o1) (fi o1) (fm o1) (fq o1) (fu o1) (fy o1) (fz o1) (fxA o1) (fxB o1) (fxC o1) (fxD o1) (fxE o1) (fxF o1) (fxG o1) (fxH o1) (fxI o1) (fxJ o1) (fxK o1) (fxL o1) (fxM o1) (fxN o1) (fxO o1) (fxP o1) (fxQ o1)
def J33_120 (o : Ob) (x2 x3 : Int32) (x4 x5 : Int32) (x6 x7 x9 : Int32) : Option (((Int32 × Ob)) ⊕ (Int32 × Int32 × Ob)) :=
  (if x9 < (0 : Int32) then (J33_151 o x2 x3 x4 x5 x6 x7) else (aget (fU o) x7).bind fun y522 => (aget (fu o) x9).bind fun y523 => (aset (fu o) x9 (y523 ||| ((1 : Int64) <<< ((y522 - x4).toInt64 &&& 63)))).bind fun y524 => (J33_151 (su o y524) x2 x3 x4 x5 x6 x7))
theorem tJ33_120 (Ad : QAd n0 ad) (W : QW Z a0) (s : List Int32) (e0 o : Ob) (x2 x3 : Int32) (x4 x5 : Int32) (x6 x7 x9 : Int32) {r : ((Int32 × Ob)) ⊕ (Int32 × Int32 × Ob)} {u : Option Value} {τ : QHeap} (h : J33_120 o x2 x3 x4 x5 x6 x7 x9 = some r) (hx0 : ∀ x : Int32 × Ob, r = .inl x → QTri l Z n0 ad 33 (157, [vR 1, nN, nN, vI x3, vI x4, vI x5, vI x.1, nN, nN, nN, nN], [], (H1 s x.2 e0)) u τ) (hc : ∀ x : Int32 × Int32 × Ob, r = .inr x → QTri l Z n0 ad 33 (20, [vR 1, nN, vI x2, vI x3, vI x4, vI x5, vI x.1, vI x.2.1, nN, nN, nN], [], (H1 s x.2.2 e0)) u τ) : QTri l Z n0 ad 33 (120, [vR 1, nN, vI x2, vI x3, vI x4, vI x5, vI x6, vI x7, nN, vI x9, nN], [], (H1 s o e0)) u τ := by
 unfold J33_120 at h
 refine yS Ad W 1 (122, [vR 1, nN, vI x2, vI x3, vI x4, vI x5, vI x6, vI x7, nN, vI x9, nN], [.int x9], (H1 s o e0)) rfl ?_
 rcases qite h with ⟨c521, h⟩ | ⟨c521, h⟩
 ·refine yT Ad W 151 125 rfl (XT.i0_lt_t c521) ?_
  exact zM [G,Y,G,G,G,G,G,G,Y,Y,Y] (tJ33_151 Ad W s e0 o x2 x3 x4 x5 x6 x7 h hx0 hc)
 ·refine yF Ad W 151 125 rfl (XT.i0_lt_f c521) ?_
  refine yS Ad W 3 (131, [vR 1, nN, vI x2, vI x3, vI x4, vI x5, vI x6, vI x7, nN, vI x9, nN], [.int x7, .ref 4], (H1 s o e0)) rfl ?_
  obtain ⟨y522, hy522, h⟩ := be h
  refine zB Ad W (f := fun y522 => (132, [vR 1, nN, vI x2, vI x3, vI x4, vI x5, vI x6, vI x7, nN, vI x9, nN], [.int y522], (H1 s o e0))) rfl hy522 ?_
  refine yS Ad W 7 (144, [vR 1, nN, vI x2, vI x3, vI x4, vI x5, vI x6, vI x7, nN, vI x9, vI (y522 - x4)], [.int x9, .ref 16, .int x9, .ref 16], (H1 s o e0)) rfl ?_
  obtain ⟨y523, hy523, h⟩ := be h
  refine zB Ad W (f := fun y523 => (145, [vR 1, nN, vI x2, vI x3, vI x4, vI x5, vI x6, vI x7, nN, vI x9, vI (y522 - x4)], [.long y523, .int x9, .ref 16], (H1 s o e0))) rfl hy523 ?_
  refine yS Ad W 4 (150, [vR 1, nN, vI x2, vI x3, vI x4, vI x5, vI x6, vI x7, nN, vI x9, vI (y522 - x4)], [.long (y523 ||| ((1 : Int64) <<< ((y522 - x4).toInt64 &&& 63))), .int x9, .ref 16], (H1 s o e0)) rfl ?_
  obtain ⟨y524, hy524, h⟩ := be h
  refine zB Ad W (f := fun y524 => (151, [vR 1, nN, vI x2, vI x3, vI x4, vI x5, vI x6, vI x7, nN, vI x9, vI (y522 - x4)], [], (H1x77 s o e0 y524))) rfl hy524 ?_
  have E525 : ((H1x77 s o e0 y524) : QHeap) = (H1 s (su o y524) e0) := by simp only [fs, H1, H1v, H1x77, su]
  rw [E525]
  exact zM [G,Y,G,G,G,G,G,G,Y,Y,Y] (tJ33_151 Ad W s e0 (su o y524) x2 x3 x4 x5 x6 x7 h hx0 hc)
def B33_20 (x2 x3 : Int32) (x4 x5 : Int32) (v : Int32 × Int32 × Ob) : Option (((Int32 × Ob)) ⊕ (Int32 × Int32 × Ob)) :=
  (if x2 < v.2.1 then some (.inl (v.1, v.2.2)) else (if v.2.1 < (fxI v.2.2) then (aget (fV v.2.2) v.2.1).bind fun y505 => (if y505 = (fxJ v.2.2) then (J33_151 v.2.2 x2 x3 x4 x5 v.1 v.2.1) else (F34 v.2.2 x5 v.1 y505).bind fun r514 => (if r514 < (0 : Int32) then (if v.1 < (3 : Int32) then (if (x5 + v.1) < ((fu v.2.2).length.toInt32) then (aset (fy v.2.2) (x5 + v.1) ((y505.toInt8.toInt32).toInt8.toInt32)).bind fun y518 => (aset (fu v.2.2) (x5 + v.1) (0 : Int64)).bind fun y519 => (J33_120 (su (sy v.2.2 y518) y519) x2 x3 x4 x5 (v.1 + (1 : Int32)) v.2.1 (x5 + v.1)) else (J33_120 v.2.2 x2 x3 x4 x5 v.1 v.2.1 r514)) else (J33_120 v.2.2 x2 x3 x4 x5 v.1 v.2.1 r514)) else (J33_120 v.2.2 x2 x3 x4 x5 v.1 v.2.1 r514))) else some (.inl (v.1, v.2.2))))
theorem tB33_20 (Ad : QAd n0 ad) (W : QW Z a0) (s : List Int32) (e0 : Ob) (x2 x3 : Int32) (x4 x5 : Int32) (v : Int32 × Int32 × Ob) {r : ((Int32 × Ob)) ⊕ (Int32 × Int32 × Ob)} {u : Option Value} {τ : QHeap} (h : B33_20 x2 x3 x4 x5 v = some r) (hx0 : ∀ x : Int32 × Ob, r = .inl x → QTri l Z n0 ad 33 (157, [vR 1, nN, nN, vI x3, vI x4, vI x5, vI x.1, nN, nN, nN, nN], [], (H1 s x.2 e0)) u τ) (hc : ∀ x : Int32 × Int32 × Ob, r = .inr x → QTri l Z n0 ad 33 (20, [vR 1, nN, vI x2, vI x3, vI x4, vI x5, vI x.1, vI x.2.1, nN, nN, nN], [], (H1 s x.2.2 e0)) u τ) : QTri l Z n0 ad 33 (20, [vR 1, nN, vI x2, vI x3, vI x4, vI x5, vI v.1, vI v.2.1, nN, nN, nN], [], (H1 s v.2.2 e0)) u τ := by
 unfold B33_20 at h
 refine yS Ad W 2 (23, [vR 1, nN, vI x2, vI x3, vI x4, vI x5, vI v.1, vI v.2.1, nN, nN, nN], [.int x2, .int v.2.1], (H1 s v.2.2 e0)) rfl ?_
 rcases qite h with ⟨c503, h⟩ | ⟨c503, h⟩
 ·refine yT Ad W 157 26 rfl (XT.ii_gt_t c503) ?_
  obtain rfl := sj h
  exact zM [G,Y,Y,G,G,G,G,Y,Y,Y,Y] (hx0 (v.1, v.2.2) rfl)
 ·refine yF Ad W 157 26 rfl (XT.ii_gt_f c503) ?_
  refine yS Ad W 3 (32, [vR 1, nN, vI x2, vI x3, vI x4, vI x5, vI v.1, vI v.2.1, nN, nN, nN], [.int (fxI v.2.2), .int v.2.1], (H1 s v.2.2 e0)) rfl ?_
  rcases qite h with ⟨c504, h⟩ | ⟨c504, h⟩
  ·refine yF Ad W 157 35 rfl (XT.ii_ge_f c504) ?_
   refine yS Ad W 3 (41, [vR 1, nN, vI x2, vI x3, vI x4, vI x5, vI v.1, vI v.2.1, nN, nN, nN], [.int v.2.1, .ref 5], (H1 s v.2.2 e0)) rfl ?_
   obtain ⟨y505, hy505, h⟩ := be h
   refine zB Ad W (f := fun y505 => (42, [vR 1, nN, vI x2, vI x3, vI x4, vI x5, vI v.1, vI v.2.1, nN, nN, nN], [.int y505], (H1 s v.2.2 e0))) rfl hy505 ?_
   refine yS Ad W 4 (50, [vR 1, nN, vI x2, vI x3, vI x4, vI x5, vI v.1, vI v.2.1, vI y505, nN, nN], [.int (fxJ v.2.2), .int y505], (H1 s v.2.2 e0)) rfl ?_
   rcases qite h with ⟨c506, h⟩ | ⟨c506, h⟩
   ·refine yF Ad W 56 53 rfl (XT.ii_ne_f c506) ?_
    refine yS Ad W 1 (151, [vR 1, nN, vI x2, vI x3, vI x4, vI x5, vI v.1, vI v.2.1, vI y505, nN, nN], [], (H1 s v.2.2 e0)) rfl ?_
    exact zM [G,Y,G,G,G,G,G,G,Y,Y,Y] (tJ33_151 Ad W s e0 v.2.2 x2 x3 x4 x5 v.1 v.2.1 h hx0 hc)
   ·refine yT Ad W 56 53 rfl (XT.ii_ne_t c506) ?_
    refine yS Ad W 4 (63, [vR 1, nN, vI x2, vI x3, vI x4, vI x5, vI v.1, vI v.2.1, vI y505, nN, nN], [.int y505, .int v.1, .int x5, .ref 1], (H1 s v.2.2 e0)) rfl ?_
    obtain ⟨r514, hr514, h⟩ := be h
    refine callP W (a := 1) (as := [.int x5, .int v.1, .int y505]) (rest := []) (w := (some (.int r514))) (σ₁ := (H1 s v.2.2 e0)) rfl rfl rfl rfl rfl rfl rfl rfl (tF34 Ad W s e0 v.2.2 x5 v.1 y505 hr514) ?_
    refine yS Ad W 2 (70, [vR 1, nN, vI x2, vI x3, vI x4, vI x5, vI v.1, vI v.2.1, vI y505, vI r514, nN], [.int r514], (H1 s v.2.2 e0)) rfl ?_
    rcases qite h with ⟨c515, h⟩ | ⟨c515, h⟩
    ·refine yF Ad W 120 73 rfl (XT.i0_ge_f c515) ?_
     refine yS Ad W 2 (76, [vR 1, nN, vI x2, vI x3, vI x4, vI x5, vI v.1, vI v.2.1, vI y505, vI r514, nN], [.int 3, .int v.1], (H1 s v.2.2 e0)) rfl ?_
     rcases qite h with ⟨c516, h⟩ | ⟨c516, h⟩
     ·refine yF Ad W 120 79 rfl (XT.ii_ge_f c516) ?_
      refine yS Ad W 6 (89, [vR 1, nN, vI x2, vI x3, vI x4, vI x5, vI v.1, vI v.2.1, vI y505, vI r514, nN], [.int ((fu v.2.2).length.toInt32), .int (x5 + v.1)], (H1 s v.2.2 e0)) rfl ?_
      rcases qite h with ⟨c517, h⟩ | ⟨c517, h⟩
      ·refine yF Ad W 120 92 rfl (XT.ii_ge_f c517) ?_
       refine yS Ad W 9 (108, [vR 1, nN, vI x2, vI x3, vI x4, vI x5, vI v.1, vI v.2.1, vI y505, vI (x5 + v.1), nN], [.int (y505.toInt8.toInt32), .int (x5 + v.1), .ref 17], (H1 s v.2.2 e0)) rfl ?_
       obtain ⟨y518, hy518, h⟩ := be h
       refine zB Ad W (f := fun y518 => (109, [vR 1, nN, vI x2, vI x3, vI x4, vI x5, vI v.1, vI v.2.1, vI y505, vI (x5 + v.1), nN], [], (H1x75 s v.2.2 e0 y518))) rfl hy518 ?_
       refine yS Ad W 4 (116, [vR 1, nN, vI x2, vI x3, vI x4, vI x5, vI v.1, vI v.2.1, vI y505, vI (x5 + v.1), nN], [.long (0 : Int64), .int (x5 + v.1), .ref 16], (H1x75 s v.2.2 e0 y518)) rfl ?_
       obtain ⟨y519, hy519, h⟩ := be h
       refine zB Ad W (f := fun y519 => (117, [vR 1, nN, vI x2, vI x3, vI x4, vI x5, vI v.1, vI v.2.1, vI y505, vI (x5 + v.1), nN], [], (H1x76 s v.2.2 e0 y519 y518))) rfl hy519 ?_
       refine yS Ad W 1 (120, [vR 1, nN, vI x2, vI x3, vI x4, vI x5, vI (v.1 + (1:Int32)), vI v.2.1, vI y505, vI (x5 + v.1), nN], [], (H1x76 s v.2.2 e0 y519 y518)) rfl ?_
       have E520 : ((H1x76 s v.2.2 e0 y519 y518) : QHeap) = (H1 s (su (sy v.2.2 y518) y519) e0) := by simp only [fs, H1, H1v, H1x76, su, sy]
       rw [E520]
       exact zM [G,Y,G,G,G,G,G,G,Y,G,Y] (tJ33_120 Ad W s e0 (su (sy v.2.2 y518) y519) x2 x3 x4 x5 (v.1 + (1:Int32)) v.2.1 (x5 + v.1) h hx0 hc)
      ·refine yT Ad W 120 92 rfl (XT.ii_ge_t c517) ?_
       exact zM [G,Y,G,G,G,G,G,G,Y,G,Y] (tJ33_120 Ad W s e0 v.2.2 x2 x3 x4 x5 v.1 v.2.1 r514 h hx0 hc)
     ·refine yT Ad W 120 79 rfl (XT.ii_ge_t c516) ?_
      exact zM [G,Y,G,G,G,G,G,G,Y,G,Y] (tJ33_120 Ad W s e0 v.2.2 x2 x3 x4 x5 v.1 v.2.1 r514 h hx0 hc)
    ·refine yT Ad W 120 73 rfl (XT.i0_ge_t c515) ?_
     exact zM [G,Y,G,G,G,G,G,G,Y,G,Y] (tJ33_120 Ad W s e0 v.2.2 x2 x3 x4 x5 v.1 v.2.1 r514 h hx0 hc)
  ·refine yT Ad W 157 35 rfl (XT.ii_ge_t c504) ?_
   obtain rfl := sj h
   exact zM [G,Y,Y,G,G,G,G,Y,Y,Y,Y] (hx0 (v.1, v.2.2) rfl)
def H1x78 (s : List Int32) (o0 o1 : Ob) (a0_46 : Int32) : QHeap := H1v s (fA o0) (fB o0) (fC o0) (fD o0) (fE o0) (fF o0) (fG o0) (fH o0) (fI o0) (fJ o0) (fK o0) (fL o0) (fM o0) (fN o0) (fR o0) (fT o0) (fU o0) (fV o0) (fW o0) (fX o0) (fY o0) (fZ o0) (fd o0) (ff o0) (fh o0) (fi o0) (fm o0) (fq o0) (fu o0) (fy o0) (fz o0) (fxA o0) (fxB o0) (fxC o0) (fxD o0) (fxE o0) (fxF o0) (fxG o0) (fxH o0) (fxI o0) (fxJ o0) (fxK o0) (fxL o0) (fxM o0) (fxN o0) (fxO o0) a0_46 (fxQ o0) (fA o1) (fB o1) (fC o1) (fD o1) (fE o1) (fF o1) (fG o1) (fH o1) (fI o1) (fJ o1) (fK o1) (fL o1) (fM o1) (fN o1) (fR o1) (fT o1) (fU o1) (fV o1) (fW o1) (fX o1) (fY o1) (fZ o1) (fd o1) (ff o1) (fh o1) (fi o1) (fm o1) (fq o1) (fu o1) (fy o1) (fz o1) (fxA o1) (fxB o1) (fxC o1) (fxD o1) (fxE o1) (fxF o1) (fxG o1) (fxH o1) (fxI o1) (fxJ o1) (fxK o1) (fxL o1) (fxM o1) (fxN o1) (fxO o1) (fxP o1) (fxQ o1)
def J33_157 (o : Ob) (x3 x4 : Int32) (x5 x6 : Int32) : Option (Int32 × Ob) :=
  (F9 (sxP o (x5 + x6)) (4 : Int32) x4 x5 x6 x3).bind fun r529 => some (r529.1, r529.2)
theorem tJ33_157 (Ad : QAd n0 ad) (W : QW Z a0) (s : List Int32) (e0 o : Ob) (x3 x4 : Int32) (x5 x6 : Int32) {r : Int32 × Ob} (h : J33_157 o x3 x4 x5 x6 = some r) : QTri l Z n0 ad 33 (157, [vR 1, nN, nN, vI x3, vI x4, vI x5, vI x6, nN, nN, nN, nN], [], (H1 s o e0)) (some (Value.int r.1)) (H1 s r.2 e0) := by
 unfold J33_157 at h
 refine yS Ad W 5 (166, [vR 1, nN, nN, vI x3, vI x4, vI x5, vI x6, nN, nN, nN, nN], [], (H1x78 s o e0 (x5 + x6))) rfl ?_
 refine yS Ad W 6 (175, [vR 1, nN, nN, vI x3, vI x4, vI x5, vI x6, nN, nN, nN, nN], [.int x3, .int x6, .int x5, .int x4, .int 4, .ref 1], (H1x78 s o e0 (x5 + x6))) rfl ?_
 have E528 : ((H1x78 s o e0 (x5 + x6)) : QHeap) = (H1 s (sxP o (x5 + x6)) e0) := by simp only [fs, H1, H1v, H1x78, sxP]
 rw [E528]
 obtain ⟨r529, hr529, h⟩ := be h
 refine callP W (a := 1) (as := [.int 4, .int x4, .int x5, .int x6, .int x3]) (rest := []) (w := (some (.int r529.1))) (σ₁ := (H1 s r529.2 e0)) rfl rfl rfl rfl rfl rfl rfl rfl (tF9 Ad W s e0 (sxP o (x5 + x6)) (4:Int32) x4 x5 x6 x3 hr529) ?_
 obtain rfl := sj h
 exact retI rfl rfl
/-- emitBits(III)I -/
def F33 (o : Ob) (x1 x2 x3 : Int32) : Option (Int32 × Ob) :=
 (aget (fU o) x1).bind fun y502 => (loopN (B33_20 x2 x3 y502 (fxP o)) qN ((0:Int32), x1, o)).bind fun e526 => (J33_157 e526.2 x3 y502 (fxP o) e526.1)
theorem tF33 (Ad : QAd n0 ad) (W : QW Z a0) (s : List Int32) (e0 o : Ob) (x1 x2 x3 : Int32) {r : Int32 × Ob} (h : F33 o x1 x2 x3 = some r) : QTri l Z n0 ad 33 (0, qentry [.ref 1, .int x1, .int x2, .int x3] (pMaxL 33), [], (H1 s o e0)) (some (Value.int r.1)) (H1 s r.2 e0) := by
 unfold F33 at h
 refine yS Ad W 3 (5, [vR 1, vI x1, vI x2, vI x3, nN, nN, nN, nN, nN, nN, nN], [.int x1, .ref 4], (H1 s o e0)) rfl ?_
 obtain ⟨y502, hy502, h⟩ := be h
 refine zB Ad W (f := fun y502 => (6, [vR 1, vI x1, vI x2, vI x3, nN, nN, nN, nN, nN, nN, nN], [.int y502], (H1 s o e0))) rfl hy502 ?_
 refine yS Ad W 4 (14, [vR 1, vI x1, vI x2, vI x3, vI y502, vI (fxP o), nN, nN, nN, nN, nN], [], (H1 s o e0)) rfl ?_
 refine yS Ad W 4 (20, [vR 1, vI x1, vI x2, vI x3, vI y502, vI (fxP o), vI 0, vI x1, nN, nN, nN], [], (H1 s o e0)) rfl ?_
 obtain ⟨e526, he526, h⟩ := be h
 refine zM [G,Y,G,G,G,G,G,G,Y,Y,Y] (loopN_tri (B := B33_20 x2 x3 y502 (fxP o)) (T := fun lv527 => QTri l Z n0 ad 33 (20, [vR 1, nN, vI x2, vI x3, vI y502, vI (fxP o), vI lv527.1, vI lv527.2.1, nN, nN, nN], [], (H1 s lv527.2.2 e0)) (some (Value.int r.1)) (H1 s r.2 e0)) (KE := fun e526a => QTri l Z n0 ad 33 (157, [vR 1, nN, nN, vI x3, vI y502, vI (fxP o), vI e526a.1, nN, nN, nN, nN], [], (H1 s e526a.2 e0)) (some (Value.int r.1)) (H1 s r.2 e0)) (fun lv527 r hB hE hC => tB33_20 Ad W s e0 x2 x3 y502 (fxP o) lv527 hB (fun x q => hE _ q) (fun x q => hC x q)) qN ((0:Int32), x1, o) e526 he526 ?_)
 exact zM [G,Y,Y,G,G,G,G,Y,Y,Y,Y] (tJ33_157 Ad W s e0 e526.2 x3 y502 (fxP o) e526.1 h)
/-- emitLeaf(I)I -/
def F31 (o : Ob) (x1 : Int32) : Option (Int32 × Ob) :=
 (if x1 < (0:Int32) then some ((0:Int32), o) else (if x1 < (fxL o) then (aget (fY o) x1).bind fun y478 => (aget (fZ o) x1).bind fun y479 => (if y478 < (0:Int32) then some ((0:Int32), o) else (if y479 < (fxI o) then (if y479 < y478 then some ((0:Int32), o) else (if y478 = y479 then (aget (fU o) y478).bind fun y484 => (aget (fV o) y478).bind fun y485 => (F9 o (2:Int32) y484 y485 (0:Int32) (0:Int32)).bind fun r486 => some (r486.1, r486.2) else (aget (fU o) y479).bind fun y487 => (aget (fU o) y478).bind fun y488 => (F32 o y478 y479).bind fun r499 => (if (64 : Int64) < (((y487.toInt64) - (y488.toInt64)) + (1 : Int64)) then (J31_124 o y478 y479 (((y487.toInt64) - (y488.toInt64)) + (1 : Int64))) else (if (3:Int32) < r499 then (J31_124 o y478 y479 (((y487.toInt64) - (y488.toInt64)) + (1 : Int64))) else (F33 o y478 y479 ((((y487.toInt64) - (y488.toInt64)) + (1 : Int64)).toInt32)).bind fun r530 => some (r530.1, r530.2))))) else some ((0:Int32), o))) else some ((0:Int32), o)))
theorem tF31 (Ad : QAd n0 ad) (W : QW Z a0) (s : List Int32) (e0 o : Ob) (x1 : Int32) {r : Int32 × Ob} (h : F31 o x1 = some r) : QTri l Z n0 ad 31 (0, qentry [.ref 1, .int x1] (pMaxL 31), [], (H1 s o e0)) (some (Value.int r.1)) (H1 s r.2 e0) := by
 unfold F31 at h
 refine yS Ad W 1 (1, [vR 1, vI x1, nN, nN, nN, nN, nN], [.int x1], (H1 s o e0)) rfl ?_
 rcases qite h with ⟨c476, h⟩ | ⟨c476, h⟩
 ·refine yT Ad W 12 4 rfl (XT.i0_lt_t c476) ?_
  refine yS Ad W 1 (13, [vR 1, vI x1, nN, nN, nN, nN, nN], [.int 0], (H1 s o e0)) rfl ?_
  obtain rfl := sj h
  exact retI rfl rfl
 ·refine yF Ad W 12 4 rfl (XT.i0_lt_f c476) ?_
  refine yS Ad W 3 (9, [vR 1, vI x1, nN, nN, nN, nN, nN], [.int (fxL o), .int x1], (H1 s o e0)) rfl ?_
  rcases qite h with ⟨c477, h⟩ | ⟨c477, h⟩
  ·refine yT Ad W 14 12 rfl (XT.ii_lt_t c477) ?_
   refine yS Ad W 3 (19, [vR 1, vI x1, nN, nN, nN, nN, nN], [.int x1, .ref 8], (H1 s o e0)) rfl ?_
   obtain ⟨y478, hy478, h⟩ := be h
   refine zB Ad W (f := fun y478 => (20, [vR 1, vI x1, nN, nN, nN, nN, nN], [.int y478], (H1 s o e0))) rfl hy478 ?_
   refine yS Ad W 4 (26, [vR 1, vI x1, vI y478, nN, nN, nN, nN], [.int x1, .ref 9], (H1 s o e0)) rfl ?_
   obtain ⟨y479, hy479, h⟩ := be h
   refine zB Ad W (f := fun y479 => (27, [vR 1, vI x1, vI y478, nN, nN, nN, nN], [.int y479], (H1 s o e0))) rfl hy479 ?_
   refine yS Ad W 2 (29, [vR 1, vI x1, vI y478, vI y479, nN, nN, nN], [.int y478], (H1 s o e0)) rfl ?_
   rcases qite h with ⟨c480, h⟩ | ⟨c480, h⟩
   ·refine yT Ad W 45 32 rfl (XT.i0_lt_t c480) ?_
    refine yS Ad W 1 (46, [vR 1, vI x1, vI y478, vI y479, nN, nN, nN], [.int 0], (H1 s o e0)) rfl ?_
    obtain rfl := sj h
    exact retI rfl rfl
   ·refine yF Ad W 45 32 rfl (XT.i0_lt_f c480) ?_
    refine yS Ad W 3 (37, [vR 1, vI x1, vI y478, vI y479, nN, nN, nN], [.int (fxI o), .int y479], (H1 s o e0)) rfl ?_
    rcases qite h with ⟨c481, h⟩ | ⟨c481, h⟩
    ·refine yF Ad W 45 40 rfl (XT.ii_ge_f c481) ?_
     refine yS Ad W 2 (42, [vR 1, vI x1, vI y478, vI y479, nN, nN, nN], [.int y479, .int y478], (H1 s o e0)) rfl ?_
     rcases qite h with ⟨c482, h⟩ | ⟨c482, h⟩
     ·refine yF Ad W 47 45 rfl (XT.ii_le_f c482) ?_
      refine yS Ad W 1 (46, [vR 1, vI x1, vI y478, vI y479, nN, nN, nN], [.int 0], (H1 s o e0)) rfl ?_
      obtain rfl := sj h
      exact retI rfl rfl
     ·refine yT Ad W 47 45 rfl (XT.ii_le_t c482) ?_
      refine yS Ad W 2 (49, [vR 1, vI x1, vI y478, vI y479, nN, nN, nN], [.int y479, .int y478], (H1 s o e0)) rfl ?_
      rcases qite h with ⟨c483, h⟩ | ⟨c483, h⟩
      ·refine yF Ad W 72 52 rfl (XT.ii_ne_f c483) ?_
       refine yS Ad W 5 (59, [vR 1, vI x1, vI y478, vI y479, nN, nN, nN], [.int y478, .ref 4, .int 2, .ref 1], (H1 s o e0)) rfl ?_
       obtain ⟨y484, hy484, h⟩ := be h
       refine zB Ad W (f := fun y484 => (60, [vR 1, vI x1, vI y478, vI y479, nN, nN, nN], [.int y484, .int 2, .ref 1], (H1 s o e0))) rfl hy484 ?_
       refine yS Ad W 3 (65, [vR 1, vI x1, vI y478, vI y479, nN, nN, nN], [.int y478, .ref 5, .int y484, .int 2, .ref 1], (H1 s o e0)) rfl ?_
       obtain ⟨y485, hy485, h⟩ := be h
       refine zB Ad W (f := fun y485 => (66, [vR 1, vI x1, vI y478, vI y479, nN, nN, nN], [.int y485, .int y484, .int 2, .ref 1], (H1 s o e0))) rfl hy485 ?_
       refine yS Ad W 2 (68, [vR 1, vI x1, vI y478, vI y479, nN, nN, nN], [.int 0, .int 0, .int y485, .int y484, .int 2, .ref 1], (H1 s o e0)) rfl ?_
       obtain ⟨r486, hr486, h⟩ := be h
       refine callP W (a := 1) (as := [.int 2, .int y484, .int y485, .int 0, .int 0]) (rest := []) (w := (some (.int r486.1))) (σ₁ := (H1 s r486.2 e0)) rfl rfl rfl rfl rfl rfl rfl rfl (tF9 Ad W s e0 o (2:Int32) y484 y485 (0:Int32) (0:Int32) hr486) ?_
       obtain rfl := sj h
       exact retI rfl rfl
      ·refine yT Ad W 72 52 rfl (XT.ii_ne_t c483) ?_
       refine yS Ad W 3 (77, [vR 1, vI x1, vI y478, vI y479, nN, nN, nN], [.int y479, .ref 4], (H1 s o e0)) rfl ?_
       obtain ⟨y487, hy487, h⟩ := be h
       refine zB Ad W (f := fun y487 => (78, [vR 1, vI x1, vI y478, vI y479, nN, nN, nN], [.int y487], (H1 s o e0))) rfl hy487 ?_
       refine yS Ad W 4 (84, [vR 1, vI x1, vI y478, vI y479, nN, nN, nN], [.int y478, .ref 4, .long (y487.toInt64)], (H1 s o e0)) rfl ?_
       obtain ⟨y488, hy488, h⟩ := be h
       refine zB Ad W (f := fun y488 => (85, [vR 1, vI x1, vI y478, vI y479, nN, nN, nN], [.int y488, .long (y487.toInt64)], (H1 s o e0))) rfl hy488 ?_
       refine yS Ad W 8 (94, [vR 1, vI x1, vI y478, vI y479, vL (((y487.toInt64) - (y488.toInt64)) + (1 : Int64)), nN, nN], [.int y479, .int y478, .ref 1], (H1 s o e0)) rfl ?_
       obtain ⟨r499, hr499, h⟩ := be h
       refine callP W (a := 1) (as := [.int y478, .int y479]) (rest := []) (w := (some (.int r499))) (σ₁ := (H1 s o e0)) rfl rfl rfl rfl rfl rfl rfl rfl (tF32 Ad W s e0 o y478 y479 hr499) ?_
       refine yS Ad W 4 (105, [vR 1, vI x1, vI y478, vI y479, vL (((y487.toInt64) - (y488.toInt64)) + (1 : Int64)), nN, vI r499], [.int (XT.cmpL (((y487.toInt64) - (y488.toInt64)) + (1 : Int64)) (64 : Int64))], (H1 s o e0)) rfl ?_
       rcases qite h with ⟨c500, h⟩ | ⟨c500, h⟩
       ·refine yT Ad W 124 108 rfl (XT.ll_gt_t c500) ?_
        exact zM [G,Y,G,G,G,Y,Y] (tJ31_124 Ad W s e0 o y478 y479 (((y487.toInt64) - (y488.toInt64)) + (1 : Int64)) h)
       ·refine yF Ad W 124 108 rfl (XT.ll_gt_f c500) ?_
        refine yS Ad W 2 (111, [vR 1, vI x1, vI y478, vI y479, vL (((y487.toInt64) - (y488.toInt64)) + (1 : Int64)), nN, vI r499], [.int 3, .int r499], (H1 s o e0)) rfl ?_
        rcases qite h with ⟨c501, h⟩ | ⟨c501, h⟩
        ·refine yT Ad W 124 114 rfl (XT.ii_gt_t c501) ?_
         exact zM [G,Y,G,G,G,Y,Y] (tJ31_124 Ad W s e0 o y478 y479 (((y487.toInt64) - (y488.toInt64)) + (1 : Int64)) h)
        ·refine yF Ad W 124 114 rfl (XT.ii_gt_f c501) ?_
         refine yS Ad W 5 (120, [vR 1, vI x1, vI y478, vI y479, vL (((y487.toInt64) - (y488.toInt64)) + (1 : Int64)), nN, vI r499], [.int ((((y487.toInt64) - (y488.toInt64)) + (1 : Int64)).toInt32), .int y479, .int y478, .ref 1], (H1 s o e0)) rfl ?_
         obtain ⟨r530, hr530, h⟩ := be h
         refine callP W (a := 1) (as := [.int y478, .int y479, .int ((((y487.toInt64) - (y488.toInt64)) + (1 : Int64)).toInt32)]) (rest := []) (w := (some (.int r530.1))) (σ₁ := (H1 s r530.2 e0)) rfl rfl rfl rfl rfl rfl rfl rfl (tF33 Ad W s e0 o y478 y479 ((((y487.toInt64) - (y488.toInt64)) + (1 : Int64)).toInt32) hr530) ?_
         obtain rfl := sj h
         exact retI rfl rfl
    ·refine yT Ad W 45 40 rfl (XT.ii_ge_t c481) ?_
     refine yS Ad W 1 (46, [vR 1, vI x1, vI y478, vI y479, nN, nN, nN], [.int 0], (H1 s o e0)) rfl ?_
     obtain rfl := sj h
     exact retI rfl rfl
  ·refine yF Ad W 14 12 rfl (XT.ii_lt_f c477) ?_
   refine yS Ad W 1 (13, [vR 1, vI x1, nN, nN, nN, nN, nN], [.int 0], (H1 s o e0)) rfl ?_
   obtain rfl := sj h
   exact retI rfl rfl
def B8_59 (v : Int32 × Ob) : Option (((Ob)) ⊕ (Int32 × Ob)) :=
  (if v.1 < ((fd v.2).length.toInt32) then (if (0 : Int32) < (fxQ v.2) then (aget (fz v.2) ((fxQ v.2) - (1 : Int32))).bind fun y450 => (aget (fxA v.2) ((fxQ v.2) - (1 : Int32))).bind fun y451 => (aget (fxB v.2) ((fxQ v.2) - (1 : Int32))).bind fun y452 => (aget (fxC v.2) ((fxQ v.2) - (1 : Int32))).bind fun y453 => (if y450 < y451 then (F40 (sxQ v.2 ((fxQ v.2) - (1 : Int32))) (XT.ushr ((y450 + y451) + (1 : Int32)) (1 : Int32))).bind fun r462 => (F9 (sxQ v.2 ((fxQ v.2) - (1 : Int32))) (1 : Int32) r462 (0 : Int32) (0 : Int32) (0 : Int32)).bind fun r463 => (F30 r463.2 (XT.ushr ((y450 + y451) + (1 : Int32)) (1 : Int32)) y451 r463.1 (1 : Int32)).bind fun r464 => (F30 r464 y450 ((XT.ushr ((y450 + y451) + (1 : Int32)) (1 : Int32)) - (1 : Int32)) r463.1 (0 : Int32)).bind fun r465 => (J8_193 r465 v.1 y452 y453 r463.1) else (F31 (sxQ v.2 ((fxQ v.2) - (1 : Int32))) y450).bind fun r531 => (J8_193 r531.2 v.1 y452 y453 r531.1)) else some (.inl v.2)) else some (.inl v.2))
theorem tB8_59 (Ad : QAd n0 ad) (W : QW Z a0) (s : List Int32) (e0 : Ob) (v : Int32 × Ob) {r : ((Ob)) ⊕ (Int32 × Ob)} {u : Option Value} {τ : QHeap} (h : B8_59 v = some r) (hx0 : ∀ x : Ob, r = .inl x → u = (none : Option Value) ∧ τ = (H1 s x e0)) (hc : ∀ x : Int32 × Ob, r = .inr x → QTri l Z n0 ad 8 (59, [vR 1, vI x.1, nN, nN, nN, nN, nN, nN, nN], [], (H1 s x.2 e0)) u τ) : QTri l Z n0 ad 8 (59, [vR 1, vI v.1, nN, nN, nN, nN, nN, nN, nN], [], (H1 s v.2 e0)) u τ := by
 unfold B8_59 at h
 refine yS Ad W 4 (65, [vR 1, vI v.1, nN, nN, nN, nN, nN, nN, nN], [.int ((fd v.2).length.toInt32), .int v.1], (H1 s v.2 e0)) rfl ?_
 rcases qite h with ⟨c448, h⟩ | ⟨c448, h⟩
 ·refine yF Ad W 209 68 rfl (XT.ii_ge_f c448) ?_
  refine yS Ad W 2 (72, [vR 1, vI v.1, nN, nN, nN, nN, nN, nN, nN], [.int (fxQ v.2)], (H1 s v.2 e0)) rfl ?_
  rcases qite h with ⟨c449, h⟩ | ⟨c449, h⟩
  ·refine yF Ad W 209 75 rfl (XT.i0_le_f c449) ?_
   refine yS Ad W 6 (85, [vR 1, vI v.1, nN, nN, nN, nN, nN, nN, nN], [], (H1x72 s v.2 e0 ((fxQ v.2) - (1:Int32)))) rfl ?_
   refine yS Ad W 4 (93, [vR 1, vI v.1, nN, nN, nN, nN, nN, nN, nN], [.int ((fxQ v.2) - (1:Int32)), .ref 18], (H1x72 s v.2 e0 ((fxQ v.2) - (1:Int32)))) rfl ?_
   obtain ⟨y450, hy450, h⟩ := be h
   refine zB Ad W (f := fun y450 => (94, [vR 1, vI v.1, nN, nN, nN, nN, nN, nN, nN], [.int y450], (H1x72 s v.2 e0 ((fxQ v.2) - (1:Int32))))) rfl hy450 ?_
   refine yS Ad W 5 (103, [vR 1, vI v.1, vI y450, nN, nN, nN, nN, nN, nN], [.int ((fxQ v.2) - (1:Int32)), .ref 19], (H1x72 s v.2 e0 ((fxQ v.2) - (1:Int32)))) rfl ?_
   obtain ⟨y451, hy451, h⟩ := be h
   refine zB Ad W (f := fun y451 => (104, [vR 1, vI v.1, vI y450, nN, nN, nN, nN, nN, nN], [.int y451], (H1x72 s v.2 e0 ((fxQ v.2) - (1:Int32))))) rfl hy451 ?_
   refine yS Ad W 5 (113, [vR 1, vI v.1, vI y450, vI y451, nN, nN, nN, nN, nN], [.int ((fxQ v.2) - (1:Int32)), .ref 20], (H1x72 s v.2 e0 ((fxQ v.2) - (1:Int32)))) rfl ?_
   obtain ⟨y452, hy452, h⟩ := be h
   refine zB Ad W (f := fun y452 => (114, [vR 1, vI v.1, vI y450, vI y451, nN, nN, nN, nN, nN], [.int y452], (H1x72 s v.2 e0 ((fxQ v.2) - (1:Int32))))) rfl hy452 ?_
   refine yS Ad W 5 (124, [vR 1, vI v.1, vI y450, vI y451, vI y452, nN, nN, nN, nN], [.int ((fxQ v.2) - (1:Int32)), .ref 21], (H1x72 s v.2 e0 ((fxQ v.2) - (1:Int32)))) rfl ?_
   obtain ⟨y453, hy453, h⟩ := be h
   refine zB Ad W (f := fun y453 => (125, [vR 1, vI v.1, vI y450, vI y451, vI y452, nN, nN, nN, nN], [.int y453], (H1x72 s v.2 e0 ((fxQ v.2) - (1:Int32))))) rfl hy453 ?_
   refine yS Ad W 3 (129, [vR 1, vI v.1, vI y450, vI y451, vI y452, vI y453, nN, nN, nN], [.int y451, .int y450], (H1x72 s v.2 e0 ((fxQ v.2) - (1:Int32)))) rfl ?_
   rcases qite h with ⟨c454, h⟩ | ⟨c454, h⟩
   ·refine yT Ad W 142 132 rfl (XT.ii_lt_t c454) ?_
    refine yS Ad W 10 (154, [vR 1, vI v.1, vI y450, vI y451, vI y452, vI y453, nN, vI (XT.ushr ((y450 + y451) + (1:Int32)) (1:Int32)), nN], [.int (XT.ushr ((y450 + y451) + (1:Int32)) (1:Int32)), .ref 1], (H1x72 s v.2 e0 ((fxQ v.2) - (1:Int32)))) rfl ?_
    have E455 : ((H1x72 s v.2 e0 ((fxQ v.2) - (1:Int32))) : QHeap) = (H1 s (sxQ v.2 ((fxQ v.2) - (1:Int32))) e0) := by simp only [fs, H1, H1v, H1x72, sxQ]
    rw [E455]
    obtain ⟨r462, hr462, h⟩ := be h
    refine callP W (a := 1) (as := [.int (XT.ushr ((y450 + y451) + (1:Int32)) (1:Int32))]) (rest := []) (w := (some (.int r462))) (σ₁ := (H1 s (sxQ v.2 ((fxQ v.2) - (1:Int32))) e0)) rfl rfl rfl rfl rfl rfl rfl rfl (tF40 Ad W s e0 (sxQ v.2 ((fxQ v.2) - (1:Int32))) (XT.ushr ((y450 + y451) + (1:Int32)) (1:Int32)) hr462) ?_
    refine yS Ad W 7 (166, [vR 1, vI v.1, vI y450, vI y451, vI y452, vI y453, nN, vI (XT.ushr ((y450 + y451) + (1:Int32)) (1:Int32)), vI r462], [.int 0, .int 0, .int 0, .int r462, .int 1, .ref 1], (H1 s (sxQ v.2 ((fxQ v.2) - (1:Int32))) e0)) rfl ?_
    obtain ⟨r463, hr463, h⟩ := be h
    refine callP W (a := 1) (as := [.int 1, .int r462, .int 0, .int 0, .int 0]) (rest := []) (w := (some (.int r463.1))) (σ₁ := (H1 s r463.2 e0)) rfl rfl rfl rfl rfl rfl rfl rfl (tF9 Ad W s e0 (sxQ v.2 ((fxQ v.2) - (1:Int32))) (1:Int32) r462 (0:Int32) (0:Int32) (0:Int32) hr463) ?_
    refine yS Ad W 6 (178, [vR 1, vI v.1, vI y450, vI y451, vI y452, vI y453, vI r463.1, vI (XT.ushr ((y450 + y451) + (1:Int32)) (1:Int32)), vI r462], [.int 1, .int r463.1, .int y451, .int (XT.ushr ((y450 + y451) + (1:Int32)) (1:Int32)), .ref 1], (H1 s r463.2 e0)) rfl ?_
    obtain ⟨r464, hr464, h⟩ := be h
    refine callP W (a := 1) (as := [.int (XT.ushr ((y450 + y451) + (1:Int32)) (1:Int32)), .int y451, .int r463.1, .int 1]) (rest := []) (w := none) (σ₁ := (H1 s r464 e0)) rfl rfl rfl rfl rfl rfl rfl rfl (tF30 Ad W s e0 r463.2 (XT.ushr ((y450 + y451) + (1:Int32)) (1:Int32)) y451 r463.1 (1:Int32) hr464) ?_
    refine yS Ad W 7 (190, [vR 1, vI v.1, vI y450, vI y451, vI y452, vI y453, vI r463.1, vI (XT.ushr ((y450 + y451) + (1:Int32)) (1:Int32)), vI r462], [.int 0, .int r463.1, .int ((XT.ushr ((y450 + y451) + (1:Int32)) (1:Int32)) - (1:Int32)), .int y450, .ref 1], (H1 s r464 e0)) rfl ?_
    obtain ⟨r465, hr465, h⟩ := be h
    refine callP W (a := 1) (as := [.int y450, .int ((XT.ushr ((y450 + y451) + (1:Int32)) (1:Int32)) - (1:Int32)), .int r463.1, .int 0]) (rest := []) (w := none) (σ₁ := (H1 s r465 e0)) rfl rfl rfl rfl rfl rfl rfl rfl (tF30 Ad W s e0 r464 y450 ((XT.ushr ((y450 + y451) + (1:Int32)) (1:Int32)) - (1:Int32)) r463.1 (0:Int32) hr465) ?_
    exact zM [G,G,Y,Y,G,G,G,Y,Y] (tJ8_193 Ad W s e0 r465 v.1 y452 y453 r463.1 h hx0 hc)
   ·refine yF Ad W 142 132 rfl (XT.ii_lt_f c454) ?_
    refine yS Ad W 2 (134, [vR 1, vI v.1, vI y450, vI y451, vI y452, vI y453, nN, nN, nN], [.int y450, .ref 1], (H1x72 s v.2 e0 ((fxQ v.2) - (1:Int32)))) rfl ?_
    have E475 : ((H1x72 s v.2 e0 ((fxQ v.2) - (1:Int32))) : QHeap) = (H1 s (sxQ v.2 ((fxQ v.2) - (1:Int32))) e0) := by simp only [fs, H1, H1v, H1x72, sxQ]
    rw [E475]
    obtain ⟨r531, hr531, h⟩ := be h
    refine callP W (a := 1) (as := [.int y450]) (rest := []) (w := (some (.int r531.1))) (σ₁ := (H1 s r531.2 e0)) rfl rfl rfl rfl rfl rfl rfl rfl (tF31 Ad W s e0 (sxQ v.2 ((fxQ v.2) - (1:Int32))) y450 hr531) ?_
    refine yS Ad W 2 (193, [vR 1, vI v.1, vI y450, vI y451, vI y452, vI y453, vI r531.1, nN, nN], [], (H1 s r531.2 e0)) rfl ?_
    exact zM [G,G,Y,Y,G,G,G,Y,Y] (tJ8_193 Ad W s e0 r531.2 v.1 y452 y453 r531.1 h hx0 hc)
  ·refine yT Ad W 209 75 rfl (XT.i0_le_t c449) ?_
   obtain rfl := sj h
   obtain ⟨rfl, rfl⟩ := hx0 v.2 rfl
   exact ret0 rfl rfl
 ·refine yT Ad W 209 68 rfl (XT.ii_ge_t c448) ?_
  obtain rfl := sj h
  obtain ⟨rfl, rfl⟩ := hx0 v.2 rfl
  exact ret0 rfl rfl
/-- buildTree()V -/
def F8 (o : Ob) : Option (Ob) :=
 (F9 (sxQ (sxP (sxO (sxM o (0:Int32)) (0:Int32)) (0:Int32)) (0:Int32)) (0:Int32) (fxJ o) (0:Int32) (0:Int32) (0:Int32)).bind fun r437 => (if (0:Int32) < (fxL r437.2) then (F30 (sxN r437.2 r437.1) (0:Int32) ((fxL r437.2) - (1:Int32)) (-1:Int32) (0:Int32)).bind fun r447 => (loopN (B8_59) qN ((0:Int32), r447)).bind fun e532 => some e532 else some (sxN r437.2 r437.1))
theorem tF8 (Ad : QAd n0 ad) (W : QW Z a0) (s : List Int32) (e0 o : Ob) {r : Ob} (h : F8 o = some r) : QTri l Z n0 ad 8 (0, qentry [.ref 1] (pMaxL 8), [], (H1 s o e0)) (none : Option Value) (H1 s r e0) := by
 unfold F8 at h
 refine yS Ad W 3 (5, [vR 1, nN, nN, nN, nN, nN, nN, nN, nN], [], (H1x56 s o e0 (0:Int32))) rfl ?_
 refine yS Ad W 3 (10, [vR 1, nN, nN, nN, nN, nN, nN, nN, nN], [], (H1x57 s o e0 (0:Int32) (0:Int32))) rfl ?_
 refine yS Ad W 3 (15, [vR 1, nN, nN, nN, nN, nN, nN, nN, nN], [], (H1x58 s o e0 (0:Int32) (0:Int32) (0:Int32))) rfl ?_
 refine yS Ad W 3 (20, [vR 1, nN, nN, nN, nN, nN, nN, nN, nN], [], (H1x59 s o e0 (0:Int32) (0:Int32) (0:Int32) (0:Int32))) rfl ?_
 refine yS Ad W 8 (30, [vR 1, nN, nN, nN, nN, nN, nN, nN, nN], [.int 0, .int 0, .int 0, .int (fxJ o), .int 0, .ref 1, .ref 1], (H1x59 s o e0 (0:Int32) (0:Int32) (0:Int32) (0:Int32))) rfl ?_
 have E428 : ((H1x59 s o e0 (0:Int32) (0:Int32) (0:Int32) (0:Int32)) : QHeap) = (H1 s (sxQ (sxP (sxO (sxM o (0:Int32)) (0:Int32)) (0:Int32)) (0:Int32)) e0) := by simp only [fs, H1, H1v, H1x59, sxM, sxO, sxP, sxQ]
 rw [E428]
 obtain ⟨r437, hr437, h⟩ := be h
 refine callP W (a := 1) (as := [.int 0, .int (fxJ o), .int 0, .int 0, .int 0]) (rest := [.ref 1]) (w := (some (.int r437.1))) (σ₁ := (H1 s r437.2 e0)) rfl rfl rfl rfl rfl rfl rfl rfl (tF9 Ad W s e0 (sxQ (sxP (sxO (sxM o (0:Int32)) (0:Int32)) (0:Int32)) (0:Int32)) (0:Int32) (fxJ o) (0:Int32) (0:Int32) (0:Int32) hr437) ?_
 refine yS Ad W 3 (40, [vR 1, nN, nN, nN, nN, nN, nN, nN, nN], [.int (fxL r437.2)], (H1x66 s r437.2 e0 r437.1)) rfl ?_
 rcases qite h with ⟨c438, h⟩ | ⟨c438, h⟩
 ·refine yT Ad W 44 43 rfl (XT.i0_gt_t c438) ?_
  refine yS Ad W 8 (54, [vR 1, nN, nN, nN, nN, nN, nN, nN, nN], [.int 0, .int (-1:Int32), .int ((fxL r437.2) - (1:Int32)), .int 0, .ref 1], (H1x66 s r437.2 e0 r437.1)) rfl ?_
  have E439 : ((H1x66 s r437.2 e0 r437.1) : QHeap) = (H1 s (sxN r437.2 r437.1) e0) := by simp only [fs, H1, H1v, H1x66, sxN]
  rw [E439]
  obtain ⟨r447, hr447, h⟩ := be h
  refine callP W (a := 1) (as := [.int 0, .int ((fxL r437.2) - (1:Int32)), .int (-1:Int32), .int 0]) (rest := []) (w := none) (σ₁ := (H1 s r447 e0)) rfl rfl rfl rfl rfl rfl rfl rfl (tF30 Ad W s e0 (sxN r437.2 r437.1) (0:Int32) ((fxL r437.2) - (1:Int32)) (-1:Int32) (0:Int32) hr447) ?_
  refine yS Ad W 2 (59, [vR 1, vI 0, nN, nN, nN, nN, nN, nN, nN], [], (H1 s r447 e0)) rfl ?_
  obtain ⟨e532, he532, h⟩ := be h
  refine zM [G,G,Y,Y,Y,Y,Y,Y,Y] (loopN_tri (B := B8_59) (T := fun lv533 => QTri l Z n0 ad 8 (59, [vR 1, vI lv533.1, nN, nN, nN, nN, nN, nN, nN], [], (H1 s lv533.2 e0)) (none : Option Value) (H1 s r e0)) (KE := fun e532a => (none : Option Value) = (none : Option Value) ∧ (H1 s r e0) = (H1 s e532a e0)) (fun lv533 r hB hE hC => tB8_59 Ad W s e0 lv533 hB (fun x q => hE _ q) (fun x q => hC x q)) qN ((0:Int32), r447) e532 he532 ?_)
  obtain rfl := sj h
  exact ⟨rfl, rfl⟩
 ·refine yF Ad W 44 43 rfl (XT.i0_gt_f c438) ?_
  have E534 : ((H1x66 s r437.2 e0 r437.1) : QHeap) = (H1 s (sxN r437.2 r437.1) e0) := by simp only [fs, H1, H1v, H1x66, sxN]
  rw [E534]
  obtain rfl := sj h
  exact ret0 rfl rfl
/-- lower()I -/
def F4 (o : Ob) : Option (Int32 × Ob) :=
 (F5 o).bind fun r372 => (F6 r372).bind fun r413 => (F7 r413).bind fun r427 => (F8 r427).bind fun r535 => some ((fxI r535), r535)
theorem tF4 (Ad : QAd n0 ad) (W : QW Z a0) (s : List Int32) (e0 o : Ob) {r : Int32 × Ob} (h : F4 o = some r) : QTri l Z n0 ad 4 (0, qentry [.ref 1] (pMaxL 4), [], (H1 s o e0)) (some (Value.int r.1)) (H1 s r.2 e0) := by
 unfold F4 at h
 refine yS Ad W 1 (1, [vR 1], [.ref 1], (H1 s o e0)) rfl ?_
 obtain ⟨r372, hr372, h⟩ := be h
 refine callP W (a := 1) (as := []) (rest := []) (w := none) (σ₁ := (H1 s r372 e0)) rfl rfl rfl rfl rfl rfl rfl rfl (tF5 Ad W s e0 o hr372) ?_
 refine yS Ad W 1 (5, [vR 1], [.ref 1], (H1 s r372 e0)) rfl ?_
 obtain ⟨r413, hr413, h⟩ := be h
 refine callP W (a := 1) (as := []) (rest := []) (w := none) (σ₁ := (H1 s r413 e0)) rfl rfl rfl rfl rfl rfl rfl rfl (tF6 Ad W s e0 r372 hr413) ?_
 refine yS Ad W 1 (9, [vR 1], [.ref 1], (H1 s r413 e0)) rfl ?_
 obtain ⟨r427, hr427, h⟩ := be h
 refine callP W (a := 1) (as := []) (rest := []) (w := none) (σ₁ := (H1 s r427 e0)) rfl rfl rfl rfl rfl rfl rfl rfl (tF7 Ad W s e0 r413 hr427) ?_
 refine yS Ad W 1 (13, [vR 1], [.ref 1], (H1 s r427 e0)) rfl ?_
 obtain ⟨r535, hr535, h⟩ := be h
 refine callP W (a := 1) (as := []) (rest := []) (w := none) (σ₁ := (H1 s r535 e0)) rfl rfl rfl rfl rfl rfl rfl rfl (tF8 Ad W s e0 r427 hr535) ?_
 refine yS Ad W 2 (20, [vR 1], [.int (fxI r535)], (H1 s r535 e0)) rfl ?_
 obtain rfl := sj h
 exact retI rfl rfl
theorem tF4a1 (Ad : QAd n0 ad) (W : QW Z a0) (s : List Int32) (e0 o : Ob) {r : Int32 × Ob} (h : F4 o = some r) : QTri l Z n0 ad 4 (0, qentry [.ref 22] (pMaxL 4), [], (H1 s e0 o)) (some (Value.int r.1)) (H1 s e0 r.2) := zW (tF4 (zA Ad) W s e0 o h) rfl rfl rfl
theorem tF3a2 (Ad : QAd n0 ad) (W : QW Z a0) (s : List Int32) (e0 o : Ob) {r : Ob} (h : F3 o = some r) : QTri l Z n0 ad 3 (0, qentry [.ref 1] (pMaxL 3), [], (H1 s o e0)) (none : Option Value) (H1 s r e0) := zW (tF3a1 (zA Ad) W s e0 o h) rfl rfl rfl
def B0_27 (s : List Int32) (v : Int32 × Int32 × Ob × Ob) : Option (((Int32 × QHeap)) ⊕ (Int32 × Int32 × Ob × Ob)) :=
  (if (v.2.1 + (2 : Int32)) < (s.length.toInt32) then (aget s v.2.1).bind fun y16 => (aget s (v.2.1 + (1 : Int32))).bind fun y17 => (aget s (v.2.1 + (2 : Int32))).bind fun y18 => (if (y16 &&& (7 : Int32)) = (0 : Int32) then (F25 v.2.2.1 y17 y18).bind fun r47 => (F25 v.2.2.2 y17 y18).bind fun r75 => (if r47.1 = r75.1 then (J0_249 s r47.2 r75.2 v.1 v.2.1 y17 y18) else some (.inl ((0 : Int32), (H1 s r47.2 r75.2)))) else (if (y16 &&& (7 : Int32)) = (1 : Int32) then (F39 v.2.2.1 y17).bind fun r337 => (F39 v.2.2.2 y17).bind fun r349 => (if r337.1 = r349.1 then (J0_249 s r337.2 r349.2 v.1 v.2.1 y17 y18) else some (.inl ((0 : Int32), (H1 s r337.2 r349.2)))) else (if (y16 &&& (7 : Int32)) = (2 : Int32) then (F27 v.2.2.1 y17).bind fun r355 => (F27 v.2.2.2 y17).bind fun r359 => (if r355.1 = r359.1 then (J0_249 s r355.2 r359.2 v.1 v.2.1 y17 y18) else some (.inl ((0 : Int32), (H1 s r355.2 r359.2)))) else (if (y16 &&& (7 : Int32)) = (3 : Int32) then (F4 v.2.2.1).bind fun r536 => (F4 v.2.2.2).bind fun r701 => (if r536.1 = r701.1 then (J0_249 s r536.2 r701.2 (0 : Int32) v.2.1 y17 y18) else some (.inl ((0 : Int32), (H1 s r536.2 r701.2)))) else (if (y16 &&& (7 : Int32)) = (4 : Int32) then (F3 v.2.2.1).bind fun r705 => (F3 v.2.2.2).bind fun r706 => (J0_249 s r705 r706 (0 : Int32) v.2.1 y17 y18) else (F25 v.2.2.1 y17 y18).bind fun r707 => (if r707.1 = (0 : Int32) then (F39 r707.2 y17).bind fun r709 => (if r709.1 = (0 : Int32) then (J0_249 s r709.2 v.2.2.2 (1 : Int32) v.2.1 y17 y18) else some (.inl ((0 : Int32), (H1 s r709.2 v.2.2.2)))) else (J0_249 s r707.2 v.2.2.2 v.1 v.2.1 y17 y18))))))) else some (.inl ((1 : Int32), (H1 s v.2.2.1 v.2.2.2))))
theorem tB0_27 (Ad : QAd n0 ad) (W : QW Z a0) (s : List Int32) (v : Int32 × Int32 × Ob × Ob) {r : ((Int32 × QHeap)) ⊕ (Int32 × Int32 × Ob × Ob)} {u : Option Value} {τ : QHeap} (h : B0_27 s v = some r) (hx0 : ∀ x : Int32 × QHeap, r = .inl x → u = (some (Value.int x.1)) ∧ τ = x.2) (hc : ∀ x : Int32 × Int32 × Ob × Ob, r = .inr x → QTri l Z n0 ad 0 (27, [vR 0, vR 1, vR 22, vI x.1, vI x.2.1, nN, nN, nN, nN, nN], [], (H1 s x.2.2.1 x.2.2.2)) u τ) : QTri l Z n0 ad 0 (27, [vR 0, vR 1, vR 22, vI v.1, vI v.2.1, nN, nN, nN, nN, nN], [], (H1 s v.2.2.1 v.2.2.2)) u τ := by
 unfold B0_27 at h
 refine yS Ad W 5 (33, [vR 0, vR 1, vR 22, vI v.1, vI v.2.1, nN, nN, nN, nN, nN], [.int (s.length.toInt32), .int (v.2.1 + (2:Int32))], (H1 s v.2.2.1 v.2.2.2)) rfl ?_
 rcases qite h with ⟨c15, h⟩ | ⟨c15, h⟩
 ·refine yF Ad W 302 36 rfl (XT.ii_ge_f c15) ?_
  refine yS Ad W 2 (39, [vR 0, vR 1, vR 22, vI v.1, vI v.2.1, nN, nN, nN, nN, nN], [.int v.2.1, .ref 0], (H1 s v.2.2.1 v.2.2.2)) rfl ?_
  obtain ⟨y16, hy16, h⟩ := be h
  refine zB Ad W (f := fun y16 => (40, [vR 0, vR 1, vR 22, vI v.1, vI v.2.1, nN, nN, nN, nN, nN], [.int y16], (H1 s v.2.2.1 v.2.2.2))) rfl hy16 ?_
  refine yS Ad W 7 (50, [vR 0, vR 1, vR 22, vI v.1, vI v.2.1, vI (y16 &&& (7:Int32)), nN, nN, nN, nN], [.int (v.2.1 + (1:Int32)), .ref 0], (H1 s v.2.2.1 v.2.2.2)) rfl ?_
  obtain ⟨y17, hy17, h⟩ := be h
  refine zB Ad W (f := fun y17 => (51, [vR 0, vR 1, vR 22, vI v.1, vI v.2.1, vI (y16 &&& (7:Int32)), nN, nN, nN, nN], [.int y17], (H1 s v.2.2.1 v.2.2.2))) rfl hy17 ?_
  refine yS Ad W 5 (58, [vR 0, vR 1, vR 22, vI v.1, vI v.2.1, vI (y16 &&& (7:Int32)), vI y17, nN, nN, nN], [.int (v.2.1 + (2:Int32)), .ref 0], (H1 s v.2.2.1 v.2.2.2)) rfl ?_
  obtain ⟨y18, hy18, h⟩ := be h
  refine zB Ad W (f := fun y18 => (59, [vR 0, vR 1, vR 22, vI v.1, vI v.2.1, vI (y16 &&& (7:Int32)), vI y17, nN, nN, nN], [.int y18], (H1 s v.2.2.1 v.2.2.2))) rfl hy18 ?_
  refine yS Ad W 2 (63, [vR 0, vR 1, vR 22, vI v.1, vI v.2.1, vI (y16 &&& (7:Int32)), vI y17, vI y18, nN, nN], [.int (y16 &&& (7:Int32))], (H1 s v.2.2.1 v.2.2.2)) rfl ?_
  rcases qite h with ⟨c19, h⟩ | ⟨c19, h⟩
  ·refine yF Ad W 98 66 rfl (XT.i0_ne_f c19) ?_
   refine yS Ad W 3 (71, [vR 0, vR 1, vR 22, vI v.1, vI v.2.1, vI (y16 &&& (7:Int32)), vI y17, vI y18, nN, nN], [.int y18, .int y17, .ref 1], (H1 s v.2.2.1 v.2.2.2)) rfl ?_
   obtain ⟨r47, hr47, h⟩ := be h
   refine callV W (a := 1) (as := [.int y17, .int y18]) (rest := []) (w := (some (.int r47.1))) (σ₁ := (H1 s r47.2 v.2.2.2)) rfl rfl rfl rfl rfl rfl rfl rfl (tF25 Ad W s v.2.2.2 v.2.2.1 y17 y18 hr47) ?_
   refine yS Ad W 4 (81, [vR 0, vR 1, vR 22, vI v.1, vI v.2.1, vI (y16 &&& (7:Int32)), vI y17, vI y18, vI r47.1, nN], [.int y18, .int y17, .ref 22], (H1 s r47.2 v.2.2.2)) rfl ?_
   obtain ⟨r75, hr75, h⟩ := be h
   refine callV W (a := 22) (as := [.int y17, .int y18]) (rest := []) (w := (some (.int r75.1))) (σ₁ := (H1 s r47.2 r75.2)) rfl rfl rfl rfl rfl rfl rfl rfl (tF25a1 Ad W s r47.2 v.2.2.2 y17 y18 hr75) ?_
   refine yS Ad W 3 (90, [vR 0, vR 1, vR 22, vI v.1, vI v.2.1, vI (y16 &&& (7:Int32)), vI y17, vI y18, vI r47.1, vI r75.1], [.int r75.1, .int r47.1], (H1 s r47.2 r75.2)) rfl ?_
   rcases qite h with ⟨c76, h⟩ | ⟨c76, h⟩
   ·refine yT Ad W 95 93 rfl (XT.ii_eq_t c76) ?_
    refine yS Ad W 1 (249, [vR 0, vR 1, vR 22, vI v.1, vI v.2.1, vI (y16 &&& (7:Int32)), vI y17, vI y18, vI r47.1, vI r75.1], [], (H1 s r47.2 r75.2)) rfl ?_
    exact zM [G,G,G,G,G,Y,G,G,Y,Y] (tJ0_249 Ad W s r47.2 r75.2 v.1 v.2.1 y17 y18 h hx0 hc)
   ·refine yF Ad W 95 93 rfl (XT.ii_eq_f c76) ?_
    refine yS Ad W 1 (94, [vR 0, vR 1, vR 22, vI v.1, vI v.2.1, vI (y16 &&& (7:Int32)), vI y17, vI y18, vI r47.1, vI r75.1], [.int 0], (H1 s r47.2 r75.2)) rfl ?_
    obtain rfl := sj h
    obtain ⟨rfl, rfl⟩ := hx0 ((0:Int32), (H1 s r47.2 r75.2)) rfl
    exact retZ rfl rfl
  ·refine yT Ad W 98 66 rfl (XT.i0_ne_t c19) ?_
   refine yS Ad W 2 (101, [vR 0, vR 1, vR 22, vI v.1, vI v.2.1, vI (y16 &&& (7:Int32)), vI y17, vI y18, nN, nN], [.int 1, .int (y16 &&& (7:Int32))], (H1 s v.2.2.1 v.2.2.2)) rfl ?_
   rcases qite h with ⟨c325, h⟩ | ⟨c325, h⟩
   ·refine yF Ad W 132 104 rfl (XT.ii_ne_f c325) ?_
    refine yS Ad W 2 (107, [vR 0, vR 1, vR 22, vI v.1, vI v.2.1, vI (y16 &&& (7:Int32)), vI y17, vI y18, nN, nN], [.int y17, .ref 1], (H1 s v.2.2.1 v.2.2.2)) rfl ?_
    obtain ⟨r337, hr337, h⟩ := be h
    refine callV W (a := 1) (as := [.int y17]) (rest := []) (w := (some (.int r337.1))) (σ₁ := (H1 s r337.2 v.2.2.2)) rfl rfl rfl rfl rfl rfl rfl rfl (tF39 Ad W s v.2.2.2 v.2.2.1 y17 hr337) ?_
    refine yS Ad W 3 (115, [vR 0, vR 1, vR 22, vI v.1, vI v.2.1, vI (y16 &&& (7:Int32)), vI y17, vI y18, vI r337.1, nN], [.int y17, .ref 22], (H1 s r337.2 v.2.2.2)) rfl ?_
    obtain ⟨r349, hr349, h⟩ := be h
    refine callV W (a := 22) (as := [.int y17]) (rest := []) (w := (some (.int r349.1))) (σ₁ := (H1 s r337.2 r349.2)) rfl rfl rfl rfl rfl rfl rfl rfl (tF39a1 Ad W s r337.2 v.2.2.2 y17 hr349) ?_
    refine yS Ad W 3 (124, [vR 0, vR 1, vR 22, vI v.1, vI v.2.1, vI (y16 &&& (7:Int32)), vI y17, vI y18, vI r337.1, vI r349.1], [.int r349.1, .int r337.1], (H1 s r337.2 r349.2)) rfl ?_
    rcases qite h with ⟨c350, h⟩ | ⟨c350, h⟩
    ·refine yT Ad W 129 127 rfl (XT.ii_eq_t c350) ?_
     refine yS Ad W 1 (249, [vR 0, vR 1, vR 22, vI v.1, vI v.2.1, vI (y16 &&& (7:Int32)), vI y17, vI y18, vI r337.1, vI r349.1], [], (H1 s r337.2 r349.2)) rfl ?_
     exact zM [G,G,G,G,G,Y,G,G,Y,Y] (tJ0_249 Ad W s r337.2 r349.2 v.1 v.2.1 y17 y18 h hx0 hc)
    ·refine yF Ad W 129 127 rfl (XT.ii_eq_f c350) ?_
     refine yS Ad W 1 (128, [vR 0, vR 1, vR 22, vI v.1, vI v.2.1, vI (y16 &&& (7:Int32)), vI y17, vI y18, vI r337.1, vI r349.1], [.int 0], (H1 s r337.2 r349.2)) rfl ?_
     obtain rfl := sj h
     obtain ⟨rfl, rfl⟩ := hx0 ((0:Int32), (H1 s r337.2 r349.2)) rfl
     exact retZ rfl rfl
   ·refine yT Ad W 132 104 rfl (XT.ii_ne_t c325) ?_
    refine yS Ad W 2 (135, [vR 0, vR 1, vR 22, vI v.1, vI v.2.1, vI (y16 &&& (7:Int32)), vI y17, vI y18, nN, nN], [.int 2, .int (y16 &&& (7:Int32))], (H1 s v.2.2.1 v.2.2.2)) rfl ?_
    rcases qite h with ⟨c351, h⟩ | ⟨c351, h⟩
    ·refine yF Ad W 166 138 rfl (XT.ii_ne_f c351) ?_
     refine yS Ad W 2 (141, [vR 0, vR 1, vR 22, vI v.1, vI v.2.1, vI (y16 &&& (7:Int32)), vI y17, vI y18, nN, nN], [.int y17, .ref 1], (H1 s v.2.2.1 v.2.2.2)) rfl ?_
     obtain ⟨r355, hr355, h⟩ := be h
     refine callV W (a := 1) (as := [.int y17]) (rest := []) (w := (some (.int r355.1))) (σ₁ := (H1 s r355.2 v.2.2.2)) rfl rfl rfl rfl rfl rfl rfl rfl (tF27 Ad W s v.2.2.2 v.2.2.1 y17 hr355) ?_
     refine yS Ad W 3 (149, [vR 0, vR 1, vR 22, vI v.1, vI v.2.1, vI (y16 &&& (7:Int32)), vI y17, vI y18, vI r355.1, nN], [.int y17, .ref 22], (H1 s r355.2 v.2.2.2)) rfl ?_
     obtain ⟨r359, hr359, h⟩ := be h
     refine callV W (a := 22) (as := [.int y17]) (rest := []) (w := (some (.int r359.1))) (σ₁ := (H1 s r355.2 r359.2)) rfl rfl rfl rfl rfl rfl rfl rfl (tF27a1 Ad W s r355.2 v.2.2.2 y17 hr359) ?_
     refine yS Ad W 3 (158, [vR 0, vR 1, vR 22, vI v.1, vI v.2.1, vI (y16 &&& (7:Int32)), vI y17, vI y18, vI r355.1, vI r359.1], [.int r359.1, .int r355.1], (H1 s r355.2 r359.2)) rfl ?_
     rcases qite h with ⟨c360, h⟩ | ⟨c360, h⟩
     ·refine yT Ad W 163 161 rfl (XT.ii_eq_t c360) ?_
      refine yS Ad W 1 (249, [vR 0, vR 1, vR 22, vI v.1, vI v.2.1, vI (y16 &&& (7:Int32)), vI y17, vI y18, vI r355.1, vI r359.1], [], (H1 s r355.2 r359.2)) rfl ?_
      exact zM [G,G,G,G,G,Y,G,G,Y,Y] (tJ0_249 Ad W s r355.2 r359.2 v.1 v.2.1 y17 y18 h hx0 hc)
     ·refine yF Ad W 163 161 rfl (XT.ii_eq_f c360) ?_
      refine yS Ad W 1 (162, [vR 0, vR 1, vR 22, vI v.1, vI v.2.1, vI (y16 &&& (7:Int32)), vI y17, vI y18, vI r355.1, vI r359.1], [.int 0], (H1 s r355.2 r359.2)) rfl ?_
      obtain rfl := sj h
      obtain ⟨rfl, rfl⟩ := hx0 ((0:Int32), (H1 s r355.2 r359.2)) rfl
      exact retZ rfl rfl
    ·refine yT Ad W 166 138 rfl (XT.ii_ne_t c351) ?_
     refine yS Ad W 2 (169, [vR 0, vR 1, vR 22, vI v.1, vI v.2.1, vI (y16 &&& (7:Int32)), vI y17, vI y18, nN, nN], [.int 3, .int (y16 &&& (7:Int32))], (H1 s v.2.2.1 v.2.2.2)) rfl ?_
     rcases qite h with ⟨c361, h⟩ | ⟨c361, h⟩
     ·refine yF Ad W 198 172 rfl (XT.ii_ne_f c361) ?_
      refine yS Ad W 1 (173, [vR 0, vR 1, vR 22, vI v.1, vI v.2.1, vI (y16 &&& (7:Int32)), vI y17, vI y18, nN, nN], [.ref 1], (H1 s v.2.2.1 v.2.2.2)) rfl ?_
      obtain ⟨r536, hr536, h⟩ := be h
      refine callV W (a := 1) (as := []) (rest := []) (w := (some (.int r536.1))) (σ₁ := (H1 s r536.2 v.2.2.2)) rfl rfl rfl rfl rfl rfl rfl rfl (tF4 Ad W s v.2.2.2 v.2.2.1 hr536) ?_
      refine yS Ad W 2 (179, [vR 0, vR 1, vR 22, vI v.1, vI v.2.1, vI (y16 &&& (7:Int32)), vI y17, vI y18, vI r536.1, nN], [.ref 22], (H1 s r536.2 v.2.2.2)) rfl ?_
      obtain ⟨r701, hr701, h⟩ := be h
      refine callV W (a := 22) (as := []) (rest := []) (w := (some (.int r701.1))) (σ₁ := (H1 s r536.2 r701.2)) rfl rfl rfl rfl rfl rfl rfl rfl (tF4a1 Ad W s r536.2 v.2.2.2 hr701) ?_
      refine yS Ad W 3 (188, [vR 0, vR 1, vR 22, vI v.1, vI v.2.1, vI (y16 &&& (7:Int32)), vI y17, vI y18, vI r536.1, vI r701.1], [.int r701.1, .int r536.1], (H1 s r536.2 r701.2)) rfl ?_
      rcases qite h with ⟨c702, h⟩ | ⟨c702, h⟩
      ·refine yT Ad W 193 191 rfl (XT.ii_eq_t c702) ?_
       refine yS Ad W 3 (249, [vR 0, vR 1, vR 22, vI 0, vI v.2.1, vI (y16 &&& (7:Int32)), vI y17, vI y18, vI r536.1, vI r701.1], [], (H1 s r536.2 r701.2)) rfl ?_
       exact zM [G,G,G,G,G,Y,G,G,Y,Y] (tJ0_249 Ad W s r536.2 r701.2 (0:Int32) v.2.1 y17 y18 h hx0 hc)
      ·refine yF Ad W 193 191 rfl (XT.ii_eq_f c702) ?_
       refine yS Ad W 1 (192, [vR 0, vR 1, vR 22, vI v.1, vI v.2.1, vI (y16 &&& (7:Int32)), vI y17, vI y18, vI r536.1, vI r701.1], [.int 0], (H1 s r536.2 r701.2)) rfl ?_
       obtain rfl := sj h
       obtain ⟨rfl, rfl⟩ := hx0 ((0:Int32), (H1 s r536.2 r701.2)) rfl
       exact retZ rfl rfl
     ·refine yT Ad W 198 172 rfl (XT.ii_ne_t c361) ?_
      refine yS Ad W 2 (201, [vR 0, vR 1, vR 22, vI v.1, vI v.2.1, vI (y16 &&& (7:Int32)), vI y17, vI y18, nN, nN], [.int 4, .int (y16 &&& (7:Int32))], (H1 s v.2.2.1 v.2.2.2)) rfl ?_
      rcases qite h with ⟨c703, h⟩ | ⟨c703, h⟩
      ·refine yF Ad W 217 204 rfl (XT.ii_ne_f c703) ?_
       refine yS Ad W 1 (205, [vR 0, vR 1, vR 22, vI v.1, vI v.2.1, vI (y16 &&& (7:Int32)), vI y17, vI y18, nN, nN], [.ref 1], (H1 s v.2.2.1 v.2.2.2)) rfl ?_
       obtain ⟨r705, hr705, h⟩ := be h
       refine callV W (a := 1) (as := []) (rest := []) (w := none) (σ₁ := (H1 s r705 v.2.2.2)) rfl rfl rfl rfl rfl rfl rfl rfl (tF3a2 Ad W s v.2.2.2 v.2.2.1 hr705) ?_
       refine yS Ad W 1 (209, [vR 0, vR 1, vR 22, vI v.1, vI v.2.1, vI (y16 &&& (7:Int32)), vI y17, vI y18, nN, nN], [.ref 22], (H1 s r705 v.2.2.2)) rfl ?_
       obtain ⟨r706, hr706, h⟩ := be h
       refine callV W (a := 22) (as := []) (rest := []) (w := none) (σ₁ := (H1 s r705 r706)) rfl rfl rfl rfl rfl rfl rfl rfl (tF3a1 Ad W s r705 v.2.2.2 hr706) ?_
       refine yS Ad W 3 (249, [vR 0, vR 1, vR 22, vI 0, vI v.2.1, vI (y16 &&& (7:Int32)), vI y17, vI y18, nN, nN], [], (H1 s r705 r706)) rfl ?_
       exact zM [G,G,G,G,G,Y,G,G,Y,Y] (tJ0_249 Ad W s r705 r706 (0:Int32) v.2.1 y17 y18 h hx0 hc)
      ·refine yT Ad W 217 204 rfl (XT.ii_ne_t c703) ?_
       refine yS Ad W 3 (222, [vR 0, vR 1, vR 22, vI v.1, vI v.2.1, vI (y16 &&& (7:Int32)), vI y17, vI y18, nN, nN], [.int y18, .int y17, .ref 1], (H1 s v.2.2.1 v.2.2.2)) rfl ?_
       obtain ⟨r707, hr707, h⟩ := be h
       refine callV W (a := 1) (as := [.int y17, .int y18]) (rest := []) (w := (some (.int r707.1))) (σ₁ := (H1 s r707.2 v.2.2.2)) rfl rfl rfl rfl rfl rfl rfl rfl (tF25 Ad W s v.2.2.2 v.2.2.1 y17 y18 hr707) ?_
       refine yS Ad W 2 (229, [vR 0, vR 1, vR 22, vI v.1, vI v.2.1, vI (y16 &&& (7:Int32)), vI y17, vI y18, vI r707.1, nN], [.int r707.1], (H1 s r707.2 v.2.2.2)) rfl ?_
       rcases qite h with ⟨c708, h⟩ | ⟨c708, h⟩
       ·refine yF Ad W 249 232 rfl (XT.i0_ne_f c708) ?_
        refine yS Ad W 2 (235, [vR 0, vR 1, vR 22, vI v.1, vI v.2.1, vI (y16 &&& (7:Int32)), vI y17, vI y18, vI r707.1, nN], [.int y17, .ref 1], (H1 s r707.2 v.2.2.2)) rfl ?_
        obtain ⟨r709, hr709, h⟩ := be h
        refine callV W (a := 1) (as := [.int y17]) (rest := []) (w := (some (.int r709.1))) (σ₁ := (H1 s r709.2 v.2.2.2)) rfl rfl rfl rfl rfl rfl rfl rfl (tF39 Ad W s v.2.2.2 r707.2 y17 hr709) ?_
        refine yS Ad W 2 (242, [vR 0, vR 1, vR 22, vI v.1, vI v.2.1, vI (y16 &&& (7:Int32)), vI y17, vI y18, vI r707.1, vI r709.1], [.int r709.1], (H1 s r709.2 v.2.2.2)) rfl ?_
        rcases qite h with ⟨c710, h⟩ | ⟨c710, h⟩
        ·refine yT Ad W 247 245 rfl (XT.i0_eq_t c710) ?_
         refine yS Ad W 2 (249, [vR 0, vR 1, vR 22, vI 1, vI v.2.1, vI (y16 &&& (7:Int32)), vI y17, vI y18, vI r707.1, vI r709.1], [], (H1 s r709.2 v.2.2.2)) rfl ?_
         exact zM [G,G,G,G,G,Y,G,G,Y,Y] (tJ0_249 Ad W s r709.2 v.2.2.2 (1:Int32) v.2.1 y17 y18 h hx0 hc)
        ·refine yF Ad W 247 245 rfl (XT.i0_eq_f c710) ?_
         refine yS Ad W 1 (246, [vR 0, vR 1, vR 22, vI v.1, vI v.2.1, vI (y16 &&& (7:Int32)), vI y17, vI y18, vI r707.1, vI r709.1], [.int 0], (H1 s r709.2 v.2.2.2)) rfl ?_
         obtain rfl := sj h
         obtain ⟨rfl, rfl⟩ := hx0 ((0:Int32), (H1 s r709.2 v.2.2.2)) rfl
         exact retZ rfl rfl
       ·refine yT Ad W 249 232 rfl (XT.i0_ne_t c708) ?_
        exact zM [G,G,G,G,G,Y,G,G,Y,Y] (tJ0_249 Ad W s r707.2 v.2.2.2 v.1 v.2.1 y17 y18 h hx0 hc)
 ·refine yT Ad W 302 36 rfl (XT.ii_ge_t c15) ?_
  refine yS Ad W 1 (303, [vR 0, vR 1, vR 22, vI v.1, vI v.2.1, nN, nN, nN, nN, nN], [.int 1], (H1 s v.2.2.1 v.2.2.2)) rfl ?_
  obtain rfl := sj h
  obtain ⟨rfl, rfl⟩ := hx0 ((1:Int32), (H1 s v.2.2.1 v.2.2.2)) rfl
  exact retZ rfl rfl
/-- the law -/
def F0 (s : List Int32) : Option (Int32 × QHeap) :=
 (F1 (8:Int32) (4:Int32)).bind fun r8 => (F1 (8:Int32) (4:Int32)).bind fun r14 => (loopN (B0_27 s) qN ((0:Int32), (0:Int32), r8, r14)).bind fun e711 => some e711
theorem tF0 (Ad : QAd n0 ad) (W : QW Z a0) (s : List Int32) {r : Int32 × QHeap} (h : F0 s = some r) : QTri l Z n0 ad 0 (0, qentry [.ref 0] (pMaxL 0), [], [iC s]) (some (Value.int r.1)) r.2 := by
 unfold F0 at h
 refine yS Ad W 1 (3, [vR 0, nN, nN, nN, nN, nN, nN, nN, nN, nN], [.ref 1], [iC s, .inl [.int (fA ob0), .int (fB ob0), .int (fC ob0), .int (fD ob0), .int (fE ob0), .int (fF ob0), .int (fG ob0), .int (fH ob0), .int (fI ob0), .int (fJ ob0), .int (fK ob0), .int (fL ob0), .long (fM ob0), .int (fN ob0), nU, nU, nU, nU, nU, nU, nU, nU, nU, nU, nU, nU, nU, nU, nU, nU, nU, nU, nU, nU, .int (fxD ob0), .int (fxE ob0), .int (fxF ob0), .int (fxG ob0), .int (fxH ob0), .int (fxI ob0), .int (fxJ ob0), .int (fxK ob0), .int (fxL ob0), .int (fxM ob0), .int (fxN ob0), .int (fxO ob0), .int (fxP ob0), .int (fxQ ob0)]]) rfl ?_
 refine yS Ad W 3 (7, [vR 0, nN, nN, nN, nN, nN, nN, nN, nN, nN], [.int 4, .int 8, .ref 1, .ref 1], [iC s, .inl [.int (fA ob0), .int (fB ob0), .int (fC ob0), .int (fD ob0), .int (fE ob0), .int (fF ob0), .int (fG ob0), .int (fH ob0), .int (fI ob0), .int (fJ ob0), .int (fK ob0), .int (fL ob0), .long (fM ob0), .int (fN ob0), nU, nU, nU, nU, nU, nU, nU, nU, nU, nU, nU, nU, nU, nU, nU, nU, nU, nU, nU, nU, .int (fxD ob0), .int (fxE ob0), .int (fxF ob0), .int (fxG ob0), .int (fxH ob0), .int (fxI ob0), .int (fxJ ob0), .int (fxK ob0), .int (fxL ob0), .int (fxM ob0), .int (fxN ob0), .int (fxO ob0), .int (fxP ob0), .int (fxQ ob0)]]) rfl ?_
 obtain ⟨r8, hr8, h⟩ := be h
 refine callI W (a := 1) (as := [.int 8, .int 4]) (rest := [.ref 1]) (σ₁ := (H0 s r8)) rfl rfl rfl rfl rfl rfl (tF1 Ad W s (8:Int32) (4:Int32) hr8) ?_
 refine yS Ad W 2 (14, [vR 0, vR 1, nN, nN, nN, nN, nN, nN, nN, nN], [.ref 22], [iC s, .inl [.int (fA r8), .int (fB r8), .int (fC r8), .int (fD r8), .int (fE r8), .int (fF r8), .int (fG r8), .int (fH r8), .int (fI r8), .int (fJ r8), .int (fK r8), .int (fL r8), .long (fM r8), .int (fN r8), .ref 2, .ref 3, .ref 4, .ref 5, .ref 6, .ref 7, .ref 8, .ref 9, .ref 10, .ref 11, .ref 12, .ref 13, .ref 14, .ref 15, .ref 16, .ref 17, .ref 18, .ref 19, .ref 20, .ref 21, .int (fxD r8), .int (fxE r8), .int (fxF r8), .int (fxG r8), .int (fxH r8), .int (fxI r8), .int (fxJ r8), .int (fxK r8), .int (fxL r8), .int (fxM r8), .int (fxN r8), .int (fxO r8), .int (fxP r8), .int (fxQ r8)], iC (fR r8), bC (fT r8), iC (fU r8), bC (fV r8), iC (fW r8), iC (fX r8), iC (fY r8), iC (fZ r8), bC (fd r8), iC (ff r8), iC (fh r8), iC (fi r8), iC (fm r8), bC (fq r8), .inr (.inr (fu r8)), bC (fy r8), iC (fz r8), iC (fxA r8), iC (fxB r8), iC (fxC r8), .inl [.int (fA ob0), .int (fB ob0), .int (fC ob0), .int (fD ob0), .int (fE ob0), .int (fF ob0), .int (fG ob0), .int (fH ob0), .int (fI ob0), .int (fJ ob0), .int (fK ob0), .int (fL ob0), .long (fM ob0), .int (fN ob0), nU, nU, nU, nU, nU, nU, nU, nU, nU, nU, nU, nU, nU, nU, nU, nU, nU, nU, nU, nU, .int (fxD ob0), .int (fxE ob0), .int (fxF ob0), .int (fxG ob0), .int (fxH ob0), .int (fxI ob0), .int (fxJ ob0), .int (fxK ob0), .int (fxL ob0), .int (fxM ob0), .int (fxN ob0), .int (fxO ob0), .int (fxP ob0), .int (fxQ ob0)]]) rfl ?_
 refine yS Ad W 3 (18, [vR 0, vR 1, nN, nN, nN, nN, nN, nN, nN, nN], [.int 4, .int 8, .ref 22, .ref 22], [iC s, .inl [.int (fA r8), .int (fB r8), .int (fC r8), .int (fD r8), .int (fE r8), .int (fF r8), .int (fG r8), .int (fH r8), .int (fI r8), .int (fJ r8), .int (fK r8), .int (fL r8), .long (fM r8), .int (fN r8), .ref 2, .ref 3, .ref 4, .ref 5, .ref 6, .ref 7, .ref 8, .ref 9, .ref 10, .ref 11, .ref 12, .ref 13, .ref 14, .ref 15, .ref 16, .ref 17, .ref 18, .ref 19, .ref 20, .ref 21, .int (fxD r8), .int (fxE r8), .int (fxF r8), .int (fxG r8), .int (fxH r8), .int (fxI r8), .int (fxJ r8), .int (fxK r8), .int (fxL r8), .int (fxM r8), .int (fxN r8), .int (fxO r8), .int (fxP r8), .int (fxQ r8)], iC (fR r8), bC (fT r8), iC (fU r8), bC (fV r8), iC (fW r8), iC (fX r8), iC (fY r8), iC (fZ r8), bC (fd r8), iC (ff r8), iC (fh r8), iC (fi r8), iC (fm r8), bC (fq r8), .inr (.inr (fu r8)), bC (fy r8), iC (fz r8), iC (fxA r8), iC (fxB r8), iC (fxC r8), .inl [.int (fA ob0), .int (fB ob0), .int (fC ob0), .int (fD ob0), .int (fE ob0), .int (fF ob0), .int (fG ob0), .int (fH ob0), .int (fI ob0), .int (fJ ob0), .int (fK ob0), .int (fL ob0), .long (fM ob0), .int (fN ob0), nU, nU, nU, nU, nU, nU, nU, nU, nU, nU, nU, nU, nU, nU, nU, nU, nU, nU, nU, nU, .int (fxD ob0), .int (fxE ob0), .int (fxF ob0), .int (fxG ob0), .int (fxH ob0), .int (fxI ob0), .int (fxJ ob0), .int (fxK ob0), .int (fxL ob0), .int (fxM ob0), .int (fxN ob0), .int (fxO ob0), .int (fxP ob0), .int (fxQ ob0)]]) rfl ?_
 obtain ⟨r14, hr14, h⟩ := be h
 refine callI W (a := 22) (as := [.int 8, .int 4]) (rest := [.ref 22]) (σ₁ := (H1 s r8 r14)) rfl rfl rfl rfl rfl rfl (tF1a1 Ad W s r8 (8:Int32) (4:Int32) hr14) ?_
 refine yS Ad W 3 (24, [vR 0, vR 1, vR 22, vI 0, nN, nN, nN, nN, nN, nN], [], (H1 s r8 r14)) rfl ?_
 refine yS Ad W 2 (27, [vR 0, vR 1, vR 22, vI 0, vI 0, nN, nN, nN, nN, nN], [], (H1 s r8 r14)) rfl ?_
 obtain ⟨e711, he711, h⟩ := be h
 refine zM [G,G,G,G,G,Y,Y,Y,Y,Y] (loopN_tri (B := B0_27 s) (T := fun lv712 => QTri l Z n0 ad 0 (27, [vR 0, vR 1, vR 22, vI lv712.1, vI lv712.2.1, nN, nN, nN, nN, nN], [], (H1 s lv712.2.2.1 lv712.2.2.2)) (some (Value.int r.1)) r.2) (KE := fun e711a => (some (Value.int r.1)) = (some (Value.int e711a.1)) ∧ r.2 = e711a.2) (fun lv712 r hB hE hC => tB0_27 Ad W s lv712 hB (fun x q => hE _ q) (fun x q => hC x q)) qN ((0:Int32), (0:Int32), r8, r14) e711 he711 ?_)
 obtain rfl := sj h
 exact ⟨rfl, rfl⟩
end Walks
theorem script_ok {s : State} {w : Value} (hfit : Fit s) (h1 : (Jvm.Cond.arrayOf (Jvm.Term.arg 0) Jvm.ClassFile.FieldType.int).value #[w] s none s [] = some true) (h2 : (Jvm.Cond.le (Jvm.Term.length (Jvm.Term.arg 0)) (Jvm.Term.int 260)).value #[w] s none s [] = some true) :
    ∃ (a : Addr) (c : Cell) (xs : List Int32), w = .ref a ∧ Arr s s.heap a c .int ∧ c.slots = (xs.map Value.int).toArray ∧ xs.length ≤ 260 := by
  obtain ⟨a, ha⟩ := arr_v h1
  obtain ⟨c, A⟩ := Arr.start ha h1
  have hw : w = .ref a := by simpa [Term.eval] using ha
  subst hw
  have hel : ∀ i, i < c.slots.size → ∃ x, c.slots[i]? = some (.int x) := fun i hi => by
    have q := hfit A.1 hi
    obtain ⟨hs, k, hk, comp, hkind⟩ := A.2.1
    have e : s.slotType? c.cls c.vm i = some .int := by
      cases hq : c.vm <;> first | exact absurd hq (hs _) | simp [State.slotType?, hk, hkind]
    have q2 : fits .int c.slots[i] = true := by simpa [State.fitsSlot, e] using q
    obtain ⟨x, hx⟩ := fit_I q2 (Or.inl rfl)
    exact ⟨x, by rw [Array.getElem?_eq_getElem hi, hx]⟩
  refine ⟨a, c, c.slots.toList.map (fun v => match v with | .int x => x | _ => 0), rfl, A, ?_, ?_⟩
  · apply Array.ext'
    rw [List.map_map]
    have : c.slots.toList.map (Value.int ∘ fun v => match v with | .int x => x | _ => 0) = c.slots.toList := by
      conv => rhs; rw [← List.map_id c.slots.toList]
      refine List.map_congr_left fun v hv => ?_
      obtain ⟨i, hi⟩ := List.mem_iff_getElem?.mp hv
      rw [Array.getElem?_toList] at hi
      obtain ⟨x, hx⟩ := hel i (Array.getElem?_eq_some_iff.mp hi).1
      rw [hi] at hx
      cases hx
      rfl
    exact this.symm
  · have hl := A.fin (Vm.Alike.refl _)
    simp only [List.length_map, Array.length_toList]
    simp only [Cond.value, Term.eval] at h2
    simp [hl] at h2
    by_cases hs : c.slots.size < 2147483648
    · rw [if_pos hs] at h2
      have h3 : c.slots.size.toInt32 ≤ 260 := by simpa using h2
      rw [Int32.le_iff_toInt_le] at h3
      have h4 : (c.slots.size.toInt32).toInt = c.slots.size := Int32.toInt_ofNat_of_lt (by omega)
      rw [h4] at h3
      have h5 : (260 : Int32).toInt = 260 := rfl
      rw [h5] at h3
      omega
    · rw [if_neg hs] at h2
      simp at h2
set_option maxHeartbeats 4000000
theorem i_lt {x y : Int32} : x < y ↔ x.toInt < y.toInt := Int32.lt_iff_toInt_lt
theorem i_eq {x y : Int32} : x = y ↔ x.toInt = y.toInt := Int32.toInt_inj.symm
theorem i_lo (x : Int32) : -2147483648 ≤ x.toInt := Int32.le_toInt x
theorem i_hi (x : Int32) : x.toInt < 2147483648 := Int32.toInt_lt x
theorem i_add {x y : Int32} (h1 : -2147483648 ≤ x.toInt + y.toInt) (h2 : x.toInt + y.toInt < 2147483648) : (x + y).toInt = x.toInt + y.toInt := XT.add32 ⟨h1, by omega⟩
theorem i_sub {x y : Int32} (h1 : -2147483648 ≤ x.toInt - y.toInt) (h2 : x.toInt - y.toInt < 2147483648) : (x - y).toInt = x.toInt - y.toInt := XT.sub32 ⟨h1, by omega⟩
theorem i_nat (x : Int32) : x.toNatClampNeg = x.toInt.toNat := rfl
theorem aget_at {α : Type} {xs : List α} {j : Int32} {n : Nat} (hj : j.toInt = n) (hn : n < xs.length) : aget xs j = some xs[n] := by
 have h0 : ¬ j < 0 := by rw [i_lt]; show ¬ j.toInt < 0; omega
 unfold aget
 rw [if_neg h0, i_nat, hj]
 simp [hn]
theorem aset_at {α : Type} {xs : List α} {j : Int32} {n : Nat} {v : α} (hj : j.toInt = n) (hn : n < xs.length) : aset xs j v = some (xs.set n v) := by
 have h0 : ¬ j < 0 := by rw [i_lt]; show ¬ j.toInt < 0; omega
 unfold aset
 have e : j.toNatClampNeg = n := by rw [i_nat, hj]; simp
 rw [if_neg h0, e, if_pos hn]
theorem small_cases {x : Int32} (h0 : 0 ≤ x.toInt) {n : Nat} (h1 : x.toInt < n) {P : Int32 → Prop} (h : ∀ m : Nat, m < n → P (Int32.ofInt m)) : P x := by
 have e : Int32.ofInt (x.toInt.toNat : Nat) = x := by
  rw [Int.toNat_of_nonneg h0, Int32.ofInt_toInt]
 rw [← e]
 exact h _ (by omega)
def okP {α : Type} (m : Option α) (P : α → Prop) : Prop := ∃ a, m = some a ∧ P a
theorem okP.some {α : Type} {a : α} {P : α → Prop} (h : P a) : okP (some a) P := ⟨a, rfl, h⟩
theorem okP.bind {α β : Type} {m : Option α} {f : α → Option β} {P : β → Prop} (h : okP m fun a => okP (f a) P) : okP (m.bind f) P := by
 obtain ⟨a, e, b, e2, h2⟩ := h
 exact ⟨b, by rw [e]; exact e2, h2⟩
theorem okP.ite {α : Type} {c : Prop} [Decidable c] {a b : Option α} {P : α → Prop} (h1 : c → okP a P) (h2 : ¬ c → okP b P) : okP (if c then a else b) P := by
 by_cases h : c
 ·rw [if_pos h]; exact h1 h
 ·rw [if_neg h]; exact h2 h
theorem okP.mono {α : Type} {m : Option α} {P Q : α → Prop} (h : okP m P) (k : ∀ a, P a → Q a) : okP m Q := by
 obtain ⟨a, e, h⟩ := h
 exact ⟨a, e, k a h⟩
theorem okP.of {α : Type} {m : Option α} {a : α} {P : α → Prop} (e : m = Option.some a) (h : P a) : okP m P := ⟨a, e, h⟩
theorem okP.aget {α : Type} {xs : List α} {j : Int32} {P : α → Prop} (h0 : 0 ≤ j.toInt) (h1 : j.toInt < xs.length) (k : ∀ v, xs[j.toInt.toNat]? = Option.some v → P v) : okP (aget xs j) P :=
 ⟨_, aget_at (n := j.toInt.toNat) (by omega) (by omega), k _ (List.getElem?_eq_getElem _)⟩
theorem okP.aset {α : Type} {xs : List α} {j : Int32} {v : α} {P : List α → Prop} (h0 : 0 ≤ j.toInt) (h1 : j.toInt < xs.length) (k : P (xs.set j.toInt.toNat v)) : okP (aset xs j v) P :=
 ⟨_, aset_at (n := j.toInt.toNat) (by omega) (by omega), k⟩
theorem okP.loop {V E : Type} {B : V → Option (E ⊕ V)} {P : E → Prop} {n : Nat} {v : V} (I : V → Prop) (μ : V → Nat) (hv : I v) (hm : μ v < n) (hB : ∀ v, I v → okP (B v) (fun r => Sum.elim P (fun v' => I v' ∧ μ v' < μ v) r)) : okP (loopN B n v) P := by
 refine loopN_inv I P μ ?_ n v hv hm
 intro v hv
 obtain ⟨r, e, h⟩ := hB v hv
 cases r with
 | inl x => exact Or.inl ⟨x, e, h⟩
 | inr x => exact Or.inr ⟨x, e, h⟩
theorem len_i {n : Nat} (h : n ≤ 1000) : (n.toInt32).toInt = n := by
 have e : n.toInt32 = Int32.ofInt n := rfl
 rw [e, Int32.toInt_ofInt_of_le (by show _ ≤ (n : Int); omega) (by show (n : Int) < _; omega)]
theorem and_rng {x m : Int32} (hm : 0 ≤ m.toInt) : 0 ≤ (x &&& m).toInt ∧ (x &&& m).toInt ≤ m.toInt := by
 have e : (x &&& m).toBitVec.toNat = x.toBitVec.toNat &&& m.toBitVec.toNat := BitVec.toNat_and ..
 have l : (x &&& m).toBitVec.toNat ≤ m.toBitVec.toNat := by rw [e]; exact Nat.and_le_right
 have c1 : m.toInt = if 2 * m.toBitVec.toNat < 2 ^ 32 then (m.toBitVec.toNat : Int) else m.toBitVec.toNat - (2 ^ 32 : Nat) := BitVec.toInt_eq_toNat_cond m.toBitVec
 have c2 : (x &&& m).toInt = if 2 * (x &&& m).toBitVec.toNat < 2 ^ 32 then ((x &&& m).toBitVec.toNat : Int) else (x &&& m).toBitVec.toNat - (2 ^ 32 : Nat) := BitVec.toInt_eq_toNat_cond (x &&& m).toBitVec
 have b : m.toBitVec.toNat < 2 ^ 32 := m.toBitVec.isLt
 by_cases h : 2 * m.toBitVec.toNat < 2 ^ 32
 ·rw [if_pos h] at c1
  rw [if_pos (by omega)] at c2
  omega
 ·rw [if_neg h] at c1
  omega
def sFit (s : List Int32) (τ : QHeap) : Prop := τ.length - List.length ([Sum.inr (Sum.inl (FieldType.int, s))] : QHeap) ≤ room_1.cells ∧ qhs τ - qhs [Sum.inr (Sum.inl (FieldType.int, s))] ≤ room_1.slots
theorem inc1 {x : Int32} (h : x.toInt < 2147483647) : (x + 1).toInt = x.toInt + 1 := by
 have := i_lo x
 have e1 : (1 : Int32).toInt = 1 := rfl
 rw [i_add (by omega) (by omega), e1]
theorem J_lt {x y : Int64} : x < y ↔ x.toInt < y.toInt := Int64.lt_iff_toInt_lt
theorem J_e (x : Int32) : x.toInt64.toInt = x.toInt := Int32.toInt_toInt64 x
theorem J_add {x y : Int64} (h1 : -9223372036854775808 ≤ x.toInt + y.toInt) (h2 : x.toInt + y.toInt < 9223372036854775808) : (x + y).toInt = x.toInt + y.toInt := by
 rw [Int64.toInt_add, Int.bmod_eq_of_le (by omega) (by omega)]
theorem J_sub {x y : Int64} (h1 : -9223372036854775808 ≤ x.toInt - y.toInt) (h2 : x.toInt - y.toInt < 9223372036854775808) : (x - y).toInt = x.toInt - y.toInt := by
 rw [Int64.toInt_sub, Int.bmod_eq_of_le (by omega) (by omega)]
theorem J_mul {x y : Int64} (h1 : -9223372036854775808 ≤ x.toInt * y.toInt) (h2 : x.toInt * y.toInt < 9223372036854775808) : (x * y).toInt = x.toInt * y.toInt := by
 rw [Int64.toInt_mul, Int.bmod_eq_of_le (by omega) (by omega)]
def at' (l : List Int32) (j : Nat) : Int32 := l.getD j 0
def gd (l : List Int32) (j : Nat) : Int := (at' l j).toInt
theorem at_set {l : List Int32} {i k : Nat} {v : Int32} (hi : i < l.length) : at' (l.set i v) k = if k = i then v else at' l k := by
 unfold at'
 rw [List.getD_eq_getElem?_getD, List.getD_eq_getElem?_getD, List.getElem?_set]
 by_cases h : i = k
 ·rw [if_pos h, if_pos h.symm, if_pos hi]; rfl
 ·rw [if_neg h, if_neg (fun w => h w.symm)]
theorem gd_set {l : List Int32} {i k : Nat} {v : Int32} (hi : i < l.length) : gd (l.set i v) k = if k = i then v.toInt else gd l k := by
 unfold gd
 rw [at_set hi]
 split <;> rfl
theorem ag {l : List Int32} {x : Int32} {a : Nat} (hx : x.toInt = a) (ha : a < l.length) : aget l x = some (at' l a) := by
 unfold at'
 rw [aget_at hx ha, List.getD_eq_getElem?_getD, List.getElem?_eq_getElem ha]; rfl
theorem ls {α : Type} {l : List α} {m n : Nat} {v : α} (h : l.length = n) : (l.set m v).length = n := by rw [List.length_set]; exact h
abbrev CT := List Int32 × List Int32 × Int32 × Int32 × Int32
abbrev FT := Int32 × Int32 × List Int32 × Int32
abbrev PT := List Int32 × List Int32
abbrev KT := List Int32 × List Int32 × Int32
abbrev DT := List Int32 × List Int32 × List Int32 × List Int32 × List Int32 × Int32 × Int32
abbrev MT := List Int64 × List Int32 × Int32
abbrev BT := List Int32 × List Int32 × List Int32 × List Int32 × Int32
abbrev AT := CT × CT × FT × PT × KT × DT × MT × BT
def A (o : Ob) : AT := ((fR o, fT o, fxF o, fxG o, fxH o), (fU o, fV o, fxI o, fxJ o, fxK o), (fxD o, fxE o, fq o, fxO o), (fW o, fX o), (fY o, fZ o, fxL o), (fd o, ff o, fh o, fi o, fm o, fxM o, fxN o), (fu o, fy o, fxP o), (fz o, fxA o, fxB o, fxC o, fxQ o))
theorem g_curVal {c : CT} {s : CT} {f : FT} {p : PT} {k : KT} {d : DT} {m : MT} {b : BT} {o : Ob} (h : A o = (c, s, f, p, k, d, m, b)) : fR o = c.1 := congrArg (fun x : AT => x.1.1) h
theorem g_curTgt {c : CT} {s : CT} {f : FT} {p : PT} {k : KT} {d : DT} {m : MT} {b : BT} {o : Ob} (h : A o = (c, s, f, p, k, d, m, b)) : fT o = c.2.1 := congrArg (fun x : AT => x.1.2.1) h
theorem g_curCount {c : CT} {s : CT} {f : FT} {p : PT} {k : KT} {d : DT} {m : MT} {b : BT} {o : Ob} (h : A o = (c, s, f, p, k, d, m, b)) : fxF o = c.2.2.1 := congrArg (fun x : AT => x.1.2.2.1) h
theorem g_curDefault {c : CT} {s : CT} {f : FT} {p : PT} {k : KT} {d : DT} {m : MT} {b : BT} {o : Ob} (h : A o = (c, s, f, p, k, d, m, b)) : fxG o = c.2.2.2.1 := congrArg (fun x : AT => x.1.2.2.2.1) h
theorem g_dirty {c : CT} {s : CT} {f : FT} {p : PT} {k : KT} {d : DT} {m : MT} {b : BT} {o : Ob} (h : A o = (c, s, f, p, k, d, m, b)) : fxH o = c.2.2.2.2 := congrArg (fun x : AT => x.1.2.2.2.2) h
theorem g_snapVal {c : CT} {s : CT} {f : FT} {p : PT} {k : KT} {d : DT} {m : MT} {b : BT} {o : Ob} (h : A o = (c, s, f, p, k, d, m, b)) : fU o = s.1 := congrArg (fun x : AT => x.2.1.1) h
theorem g_snapTgt {c : CT} {s : CT} {f : FT} {p : PT} {k : KT} {d : DT} {m : MT} {b : BT} {o : Ob} (h : A o = (c, s, f, p, k, d, m, b)) : fV o = s.2.1 := congrArg (fun x : AT => x.2.1.2.1) h
theorem g_snapCount {c : CT} {s : CT} {f : FT} {p : PT} {k : KT} {d : DT} {m : MT} {b : BT} {o : Ob} (h : A o = (c, s, f, p, k, d, m, b)) : fxI o = s.2.2.1 := congrArg (fun x : AT => x.2.1.2.2.1) h
theorem g_snapDefault {c : CT} {s : CT} {f : FT} {p : PT} {k : KT} {d : DT} {m : MT} {b : BT} {o : Ob} (h : A o = (c, s, f, p, k, d, m, b)) : fxJ o = s.2.2.2.1 := congrArg (fun x : AT => x.2.1.2.2.2.1) h
theorem g_hasSnap {c : CT} {s : CT} {f : FT} {p : PT} {k : KT} {d : DT} {m : MT} {b : BT} {o : Ob} (h : A o = (c, s, f, p, k, d, m, b)) : fxK o = s.2.2.2.2 := congrArg (fun x : AT => x.2.1.2.2.2.2) h
theorem g_cap {c : CT} {s : CT} {f : FT} {p : PT} {k : KT} {d : DT} {m : MT} {b : BT} {o : Ob} (h : A o = (c, s, f, p, k, d, m, b)) : fxD o = f.1 := congrArg (fun x : AT => x.2.2.1.1) h
theorem g_targets {c : CT} {s : CT} {f : FT} {p : PT} {k : KT} {d : DT} {m : MT} {b : BT} {o : Ob} (h : A o = (c, s, f, p, k, d, m, b)) : fxE o = f.2.1 := congrArg (fun x : AT => x.2.2.1.2.1) h
theorem g_bestCost {c : CT} {s : CT} {f : FT} {p : PT} {k : KT} {d : DT} {m : MT} {b : BT} {o : Ob} (h : A o = (c, s, f, p, k, d, m, b)) : fW o = p.1 := congrArg (fun x : AT => x.2.2.2.1.1) h
theorem g_bestCut {c : CT} {s : CT} {f : FT} {p : PT} {k : KT} {d : DT} {m : MT} {b : BT} {o : Ob} (h : A o = (c, s, f, p, k, d, m, b)) : fX o = p.2 := congrArg (fun x : AT => x.2.2.2.1.2) h
theorem g_clStart {c : CT} {s : CT} {f : FT} {p : PT} {k : KT} {d : DT} {m : MT} {b : BT} {o : Ob} (h : A o = (c, s, f, p, k, d, m, b)) : fY o = k.1 := congrArg (fun x : AT => x.2.2.2.2.1.1) h
theorem g_clEnd {c : CT} {s : CT} {f : FT} {p : PT} {k : KT} {d : DT} {m : MT} {b : BT} {o : Ob} (h : A o = (c, s, f, p, k, d, m, b)) : fZ o = k.2.1 := congrArg (fun x : AT => x.2.2.2.2.1.2.1) h
theorem g_clCount {c : CT} {s : CT} {f : FT} {p : PT} {k : KT} {d : DT} {m : MT} {b : BT} {o : Ob} (h : A o = (c, s, f, p, k, d, m, b)) : fxL o = k.2.2 := congrArg (fun x : AT => x.2.2.2.2.1.2.2) h
theorem g_opc {c : CT} {s : CT} {f : FT} {p : PT} {k : KT} {d : DT} {m : MT} {b : BT} {o : Ob} (h : A o = (c, s, f, p, k, d, m, b)) : fd o = d.1 := congrArg (fun x : AT => x.2.2.2.2.2.1.1) h
theorem g_argA {c : CT} {s : CT} {f : FT} {p : PT} {k : KT} {d : DT} {m : MT} {b : BT} {o : Ob} (h : A o = (c, s, f, p, k, d, m, b)) : ff o = d.2.1 := congrArg (fun x : AT => x.2.2.2.2.2.1.2.1) h
theorem g_argB {c : CT} {s : CT} {f : FT} {p : PT} {k : KT} {d : DT} {m : MT} {b : BT} {o : Ob} (h : A o = (c, s, f, p, k, d, m, b)) : fh o = d.2.2.1 := congrArg (fun x : AT => x.2.2.2.2.2.1.2.2.1) h
theorem g_argC {c : CT} {s : CT} {f : FT} {p : PT} {k : KT} {d : DT} {m : MT} {b : BT} {o : Ob} (h : A o = (c, s, f, p, k, d, m, b)) : fi o = d.2.2.2.1 := congrArg (fun x : AT => x.2.2.2.2.2.1.2.2.2.1) h
theorem g_argD {c : CT} {s : CT} {f : FT} {p : PT} {k : KT} {d : DT} {m : MT} {b : BT} {o : Ob} (h : A o = (c, s, f, p, k, d, m, b)) : fm o = d.2.2.2.2.1 := congrArg (fun x : AT => x.2.2.2.2.2.1.2.2.2.2.1) h
theorem g_codeLen {c : CT} {s : CT} {f : FT} {p : PT} {k : KT} {d : DT} {m : MT} {b : BT} {o : Ob} (h : A o = (c, s, f, p, k, d, m, b)) : fxM o = d.2.2.2.2.2.1 := congrArg (fun x : AT => x.2.2.2.2.2.1.2.2.2.2.2.1) h
theorem g_rootPc {c : CT} {s : CT} {f : FT} {p : PT} {k : KT} {d : DT} {m : MT} {b : BT} {o : Ob} (h : A o = (c, s, f, p, k, d, m, b)) : fxN o = d.2.2.2.2.2.2 := congrArg (fun x : AT => x.2.2.2.2.2.1.2.2.2.2.2.2) h
theorem g_maskPool {c : CT} {s : CT} {f : FT} {p : PT} {k : KT} {d : DT} {m : MT} {b : BT} {o : Ob} (h : A o = (c, s, f, p, k, d, m, b)) : fu o = m.1 := congrArg (fun x : AT => x.2.2.2.2.2.2.1.1) h
theorem g_maskTarget {c : CT} {s : CT} {f : FT} {p : PT} {k : KT} {d : DT} {m : MT} {b : BT} {o : Ob} (h : A o = (c, s, f, p, k, d, m, b)) : fy o = m.2.1 := congrArg (fun x : AT => x.2.2.2.2.2.2.1.2.1) h
theorem g_maskUsed {c : CT} {s : CT} {f : FT} {p : PT} {k : KT} {d : DT} {m : MT} {b : BT} {o : Ob} (h : A o = (c, s, f, p, k, d, m, b)) : fxP o = m.2.2 := congrArg (fun x : AT => x.2.2.2.2.2.2.1.2.2) h
theorem g_stLo {c : CT} {s : CT} {f : FT} {p : PT} {k : KT} {d : DT} {m : MT} {b : BT} {o : Ob} (h : A o = (c, s, f, p, k, d, m, b)) : fz o = b.1 := congrArg (fun x : AT => x.2.2.2.2.2.2.2.1) h
theorem g_stHi {c : CT} {s : CT} {f : FT} {p : PT} {k : KT} {d : DT} {m : MT} {b : BT} {o : Ob} (h : A o = (c, s, f, p, k, d, m, b)) : fxA o = b.2.1 := congrArg (fun x : AT => x.2.2.2.2.2.2.2.2.1) h
theorem g_stParent {c : CT} {s : CT} {f : FT} {p : PT} {k : KT} {d : DT} {m : MT} {b : BT} {o : Ob} (h : A o = (c, s, f, p, k, d, m, b)) : fxB o = b.2.2.1 := congrArg (fun x : AT => x.2.2.2.2.2.2.2.2.2.1) h
theorem g_stSlot {c : CT} {s : CT} {f : FT} {p : PT} {k : KT} {d : DT} {m : MT} {b : BT} {o : Ob} (h : A o = (c, s, f, p, k, d, m, b)) : fxC o = b.2.2.2.1 := congrArg (fun x : AT => x.2.2.2.2.2.2.2.2.2.2.1) h
theorem g_sp {c : CT} {s : CT} {f : FT} {p : PT} {k : KT} {d : DT} {m : MT} {b : BT} {o : Ob} (h : A o = (c, s, f, p, k, d, m, b)) : fxQ o = b.2.2.2.2 := congrArg (fun x : AT => x.2.2.2.2.2.2.2.2.2.2.2) h
theorem w_best {c : CT} {s : CT} {f : FT} {p : PT} {k : KT} {d : DT} {m : MT} {b : BT} {o : Ob} (h : A o = (c, s, f, p, k, d, m, b)) (u v : List Int32) : A (sX (sW o u) v) = (c, s, f, (u, v), k, d, m, b) := by
 have : A (sX (sW o u) v) = ((A o).1, (A o).2.1, (A o).2.2.1, (u, v), (A o).2.2.2.2) := by dsimp only [A, fA, fB, fC, fD, fE, fF, fG, fH, fI, fJ, fK, fL, fM, fN, fR, fT, fU, fV, fW, fX, fY, fZ, fd, ff, fh, fi, fm, fq, fu, fy, fz, fxA, fxB, fxC, fxD, fxE, fxF, fxG, fxH, fxI, fxJ, fxK, fxL, fxM, fxN, fxO, fxP, fxQ, sA, sB, sC, sD, sE, sF, sG, sH, sI, sJ, sK, sL, sM, sN, sR, sT, sU, sV, sW, sX, sY, sZ, sd, sf, sh, si, sm, sq, su, sy, sz, sxA, sxB, sxC, sxD, sxE, sxF, sxG, sxH, sxI, sxJ, sxK, sxL, sxM, sxN, sxO, sxP, sxQ]
 rw [this, h]
theorem w_cost {c : CT} {s : CT} {f : FT} {p : PT} {k : KT} {d : DT} {m : MT} {b : BT} {o : Ob} (h : A o = (c, s, f, p, k, d, m, b)) (u : List Int32) : A (sW o u) = (c, s, f, (u, p.2), k, d, m, b) := by
 have : A (sW o u) = ((A o).1, (A o).2.1, (A o).2.2.1, (u, (A o).2.2.2.1.2), (A o).2.2.2.2) := by dsimp only [A, fA, fB, fC, fD, fE, fF, fG, fH, fI, fJ, fK, fL, fM, fN, fR, fT, fU, fV, fW, fX, fY, fZ, fd, ff, fh, fi, fm, fq, fu, fy, fz, fxA, fxB, fxC, fxD, fxE, fxF, fxG, fxH, fxI, fxJ, fxK, fxL, fxM, fxN, fxO, fxP, fxQ, sA, sB, sC, sD, sE, sF, sG, sH, sI, sJ, sK, sL, sM, sN, sR, sT, sU, sV, sW, sX, sY, sZ, sd, sf, sh, si, sm, sq, su, sy, sz, sxA, sxB, sxC, sxD, sxE, sxF, sxG, sxH, sxI, sxJ, sxK, sxL, sxM, sxN, sxO, sxP, sxQ]
 rw [this, h]
theorem w_cl {c : CT} {s : CT} {f : FT} {p : PT} {k : KT} {d : DT} {m : MT} {b : BT} {o : Ob} (h : A o = (c, s, f, p, k, d, m, b)) (u v : List Int32) : A (sZ (sY o u) v) = (c, s, f, p, (u, v, k.2.2), d, m, b) := by
 have : A (sZ (sY o u) v) = ((A o).1, (A o).2.1, (A o).2.2.1, (A o).2.2.2.1, (u, v, (A o).2.2.2.2.1.2.2), (A o).2.2.2.2.2) := by dsimp only [A, fA, fB, fC, fD, fE, fF, fG, fH, fI, fJ, fK, fL, fM, fN, fR, fT, fU, fV, fW, fX, fY, fZ, fd, ff, fh, fi, fm, fq, fu, fy, fz, fxA, fxB, fxC, fxD, fxE, fxF, fxG, fxH, fxI, fxJ, fxK, fxL, fxM, fxN, fxO, fxP, fxQ, sA, sB, sC, sD, sE, sF, sG, sH, sI, sJ, sK, sL, sM, sN, sR, sT, sU, sV, sW, sX, sY, sZ, sd, sf, sh, si, sm, sq, su, sy, sz, sxA, sxB, sxC, sxD, sxE, sxF, sxG, sxH, sxI, sxJ, sxK, sxL, sxM, sxN, sxO, sxP, sxQ]
 rw [this, h]
theorem w_clc {c : CT} {s : CT} {f : FT} {p : PT} {k : KT} {d : DT} {m : MT} {b : BT} {o : Ob} (h : A o = (c, s, f, p, k, d, m, b)) (u : Int32) : A (sxL o u) = (c, s, f, p, (k.1, k.2.1, u), d, m, b) := by
 have : A (sxL o u) = ((A o).1, (A o).2.1, (A o).2.2.1, (A o).2.2.2.1, ((A o).2.2.2.2.1.1, (A o).2.2.2.2.1.2.1, u), (A o).2.2.2.2.2) := by dsimp only [A, fA, fB, fC, fD, fE, fF, fG, fH, fI, fJ, fK, fL, fM, fN, fR, fT, fU, fV, fW, fX, fY, fZ, fd, ff, fh, fi, fm, fq, fu, fy, fz, fxA, fxB, fxC, fxD, fxE, fxF, fxG, fxH, fxI, fxJ, fxK, fxL, fxM, fxN, fxO, fxP, fxQ, sA, sB, sC, sD, sE, sF, sG, sH, sI, sJ, sK, sL, sM, sN, sR, sT, sU, sV, sW, sX, sY, sZ, sd, sf, sh, si, sm, sq, su, sy, sz, sxA, sxB, sxC, sxD, sxE, sxF, sxG, sxH, sxI, sxJ, sxK, sxL, sxM, sxN, sxO, sxP, sxQ]
 rw [this, h]
theorem w_snap {c : CT} {s : CT} {f : FT} {p : PT} {k : KT} {d : DT} {m : MT} {b : BT} {o : Ob} (h : A o = (c, s, f, p, k, d, m, b)) (u v : List Int32) : A (sV (sU o u) v) = (c, (u, v, s.2.2), f, p, k, d, m, b) := by
 have : A (sV (sU o u) v) = ((A o).1, (u, v, (A o).2.1.2.2), (A o).2.2) := by dsimp only [A, fA, fB, fC, fD, fE, fF, fG, fH, fI, fJ, fK, fL, fM, fN, fR, fT, fU, fV, fW, fX, fY, fZ, fd, ff, fh, fi, fm, fq, fu, fy, fz, fxA, fxB, fxC, fxD, fxE, fxF, fxG, fxH, fxI, fxJ, fxK, fxL, fxM, fxN, fxO, fxP, fxQ, sA, sB, sC, sD, sE, sF, sG, sH, sI, sJ, sK, sL, sM, sN, sR, sT, sU, sV, sW, sX, sY, sZ, sd, sf, sh, si, sm, sq, su, sy, sz, sxA, sxB, sxC, sxD, sxE, sxF, sxG, sxH, sxI, sxJ, sxK, sxL, sxM, sxN, sxO, sxP, sxQ]
 rw [this, h]
theorem w_sc {c : CT} {s : CT} {f : FT} {p : PT} {k : KT} {d : DT} {m : MT} {b : BT} {o : Ob} (h : A o = (c, s, f, p, k, d, m, b)) (u v : Int32) : A (sxJ (sxI o u) v) = (c, (s.1, s.2.1, u, v, s.2.2.2.2), f, p, k, d, m, b) := by
 have : A (sxJ (sxI o u) v) = ((A o).1, ((A o).2.1.1, (A o).2.1.2.1, u, v, (A o).2.1.2.2.2.2), (A o).2.2) := by dsimp only [A, fA, fB, fC, fD, fE, fF, fG, fH, fI, fJ, fK, fL, fM, fN, fR, fT, fU, fV, fW, fX, fY, fZ, fd, ff, fh, fi, fm, fq, fu, fy, fz, fxA, fxB, fxC, fxD, fxE, fxF, fxG, fxH, fxI, fxJ, fxK, fxL, fxM, fxN, fxO, fxP, fxQ, sA, sB, sC, sD, sE, sF, sG, sH, sI, sJ, sK, sL, sM, sN, sR, sT, sU, sV, sW, sX, sY, sZ, sd, sf, sh, si, sm, sq, su, sy, sz, sxA, sxB, sxC, sxD, sxE, sxF, sxG, sxH, sxI, sxJ, sxK, sxL, sxM, sxN, sxO, sxP, sxQ]
 rw [this, h]
theorem w_hs {c : CT} {s : CT} {f : FT} {p : PT} {k : KT} {d : DT} {m : MT} {b : BT} {o : Ob} (h : A o = (c, s, f, p, k, d, m, b)) (u v : Int32) : A (sxH (sxK o u) v) = ((c.1, c.2.1, c.2.2.1, c.2.2.2.1, v), (s.1, s.2.1, s.2.2.1, s.2.2.2.1, u), f, p, k, d, m, b) := by
 have : A (sxH (sxK o u) v) = (((A o).1.1, (A o).1.2.1, (A o).1.2.2.1, (A o).1.2.2.2.1, v), ((A o).2.1.1, (A o).2.1.2.1, (A o).2.1.2.2.1, (A o).2.1.2.2.2.1, u), (A o).2.2) := by dsimp only [A, fA, fB, fC, fD, fE, fF, fG, fH, fI, fJ, fK, fL, fM, fN, fR, fT, fU, fV, fW, fX, fY, fZ, fd, ff, fh, fi, fm, fq, fu, fy, fz, fxA, fxB, fxC, fxD, fxE, fxF, fxG, fxH, fxI, fxJ, fxK, fxL, fxM, fxN, fxO, fxP, fxQ, sA, sB, sC, sD, sE, sF, sG, sH, sI, sJ, sK, sL, sM, sN, sR, sT, sU, sV, sW, sX, sY, sZ, sd, sf, sh, si, sm, sq, su, sy, sz, sxA, sxB, sxC, sxD, sxE, sxF, sxG, sxH, sxI, sxJ, sxK, sxL, sxM, sxN, sxO, sxP, sxQ]
 rw [this, h]
def vv (s : CT) (j : Nat) : Int := gd s.1 j
def tt' (s : CT) (j : Nat) : Int32 := at' s.2.1 j
def df (s : CT) : Int32 := s.2.2.2.1
def Sw (T : Int) (n : Nat) (s : CT) : Prop := s.1.length = 64 ∧ s.2.1.length = 64 ∧ n ≤ 64 ∧ s.2.2.1.toInt = (n : Nat) ∧ (∀ i j, i < j → j < n → vv s i < vv s j) ∧ (∀ j, j < n → 0 ≤ (tt' s j).toInt ∧ (tt' s j).toInt < T) ∧ 0 ≤ s.2.2.2.1.toInt ∧ s.2.2.2.1.toInt < T
theorem Sw.a_v {T : Int} {n j : Nat} {s : CT} (S : Sw T n s) (hj : j < n) {x : Int32} (hx : x.toInt = j) : aget s.1 x = some (at' s.1 j) := ag hx (by rw [S.1]; have := S.2.2.1; omega)
theorem Sw.a_t {T : Int} {n j : Nat} {s : CT} (S : Sw T n s) (hj : j < n) {x : Int32} (hx : x.toInt = j) : aget s.2.1 x = some (tt' s j) := ag hx (by rw [S.2.1]; have := S.2.2.1; omega)
theorem ofI {x : Int32} {n : Nat} (h : x.toInt = n) : x = Int32.ofInt n := by rw [← h, Int32.ofInt_toInt]
def pc4 (x : Int32) : Int32 := (x &&& (1 : Int32)) + ((x >>> (1 : Int32)) &&& (1 : Int32)) + ((x >>> (2 : Int32)) &&& (1 : Int32)) + ((x >>> (3 : Int32)) &&& (1 : Int32))
theorem d4a : ∀ (d t : Fin 4) (z : Fin 16), ¬ (Int32.ofInt t.1 = Int32.ofInt d.1) → (Int32.ofInt z.1 &&& ((1 : Int32) <<< (Int32.ofInt d.1 &&& 31))) = 0 → (Int32.ofInt z.1 &&& ((1 : Int32) <<< (Int32.ofInt t.1 &&& 31))) = 0 → (0 ≤ (Int32.ofInt z.1 ||| ((1 : Int32) <<< (Int32.ofInt t.1 &&& 31))).toInt ∧ (Int32.ofInt z.1 ||| ((1 : Int32) <<< (Int32.ofInt t.1 &&& 31))).toInt < 16) ∧ ((Int32.ofInt z.1 ||| ((1 : Int32) <<< (Int32.ofInt t.1 &&& 31))) &&& ((1 : Int32) <<< (Int32.ofInt d.1 &&& 31))) = 0 ∧ pc4 (Int32.ofInt z.1 ||| ((1 : Int32) <<< (Int32.ofInt t.1 &&& 31))) = pc4 (Int32.ofInt z.1) + 1 := by decide +kernel
theorem d4b : ∀ (d : Fin 4) (z : Fin 16), (Int32.ofInt z.1 &&& ((1 : Int32) <<< (Int32.ofInt d.1 &&& 31))) = 0 → (pc4 (Int32.ofInt z.1)).toInt ≤ 3 := by decide +kernel
def Q4 (d se di : Int32) : Prop := (0 ≤ se.toInt ∧ se.toInt < 16) ∧ (se &&& ((1 : Int32) <<< (d &&& 31))) = 0 ∧ di = pc4 se
theorem Q4.top {d se di : Int32} (Q : Q4 d se di) (d0 : 0 ≤ d.toInt) (d4 : d.toInt < 4) : di.toInt ≤ 3 := by
 obtain ⟨⟨s0, s1⟩, s2, s3⟩ := Q
 obtain ⟨dn, hd⟩ : ∃ dn : Nat, d.toInt = dn := ⟨d.toInt.toNat, by omega⟩
 obtain ⟨sn, hs⟩ : ∃ sn : Nat, se.toInt = sn := ⟨se.toInt.toNat, by omega⟩
 have := d4b ⟨dn, by omega⟩ ⟨sn, by omega⟩
 rw [ofI hd, ofI hs] at s2
 rw [s3, ofI hs]
 exact this s2
theorem Q4.step {d se di t : Int32} (Q : Q4 d se di) (d0 : 0 ≤ d.toInt) (d4 : d.toInt < 4) (t0 : 0 ≤ t.toInt) (t4 : t.toInt < 4) : Q4 d (if t = d then se else (if (se &&& ((1 : Int32) <<< (t &&& 31))) = 0 then (se ||| ((1 : Int32) <<< (t &&& 31))) else se)) (if t = d then di else (if (se &&& ((1 : Int32) <<< (t &&& 31))) = 0 then (di + 1) else di)) := by
 obtain ⟨⟨s0, s1⟩, s2, s3⟩ := id Q
 by_cases e1 : t = d
 ·rw [if_pos e1, if_pos e1]; exact Q
 ·rw [if_neg e1, if_neg e1]
  by_cases e2 : (se &&& ((1 : Int32) <<< (t &&& 31))) = 0
  ·rw [if_pos e2, if_pos e2]
   obtain ⟨dn, hd⟩ : ∃ dn : Nat, d.toInt = dn := ⟨d.toInt.toNat, by omega⟩
   obtain ⟨sn, hs⟩ : ∃ sn : Nat, se.toInt = sn := ⟨se.toInt.toNat, by omega⟩
   obtain ⟨tn, ht⟩ : ∃ tn : Nat, t.toInt = tn := ⟨t.toInt.toNat, by omega⟩
   have := d4a ⟨dn, by omega⟩ ⟨tn, by omega⟩ ⟨sn, by omega⟩
   unfold Q4
   rw [s3]
   rw [ofI hd, ofI ht] at e1
   rw [ofI hd, ofI hs] at s2
   rw [ofI ht, ofI hs] at e2
   rw [ofI hd, ofI ht, ofI hs]
   obtain ⟨r1, r2, r3⟩ := this e1 s2 e2
   exact ⟨r1, r2, r3.symm⟩
  ·rw [if_neg e2, if_neg e2]; exact Q
theorem Q4.zero (d : Int32) : Q4 d 0 0 := ⟨by show (0 : Int) ≤ 0 ∧ (0 : Int) < 16; decide, Int32.zero_and, by decide⟩
def Nar (T : Int) (n : Nat) (s : CT) : Prop := T ≤ 4 ∧ ∀ i j, i < n → j < n → vv s j - vv s i + 1 ≤ 64
theorem fits_ok {x : Int64} {n d : Int32} (n0 : 0 ≤ n.toInt) (n16 : n.toInt ≤ 16) : okP (F29 x n d) (fun r => (r ≠ 0 → x.toInt ≤ 64) ∧ (2 ≤ n.toInt → x.toInt ≤ 64 → d.toInt ≤ 3 → r ≠ 0)) := by
 have z3 : (3 : Int32).toInt = 3 := rfl
 have z2 : (2 : Int32).toInt = 2 := rfl
 have z64 : (64 : Int64).toInt = 64 := rfl
 have z4 : (4 : Int64).toInt = 4 := rfl
 have m : ((4 : Int64) * n.toInt64).toInt = 4 * n.toInt := by
  rw [J_mul (by rw [J_e, z4]; omega) (by rw [J_e, z4]; omega), J_e, z4]
 unfold F29
 refine okP.ite (fun w => okP.some ⟨fun w => absurd rfl w, fun q => by rw [i_lt, z2] at w; omega⟩) (fun _ => ?_)
 by_cases a1 : (64 : Int64) < x
 ·have nx : ¬ x.toInt ≤ 64 := by rw [J_lt, z64] at a1; omega
  rw [if_pos a1, if_pos rfl]
  by_cases a2 : (4 : Int64) * n.toInt64 < x
  ·rw [if_pos a2, if_pos rfl]
   exact okP.some ⟨fun w => absurd rfl w, fun _ q => absurd q nx⟩
  ·rw [if_neg a2, if_neg (by decide)]
   rw [J_lt, m] at a2
   exact okP.some ⟨fun _ => by omega, fun _ q => absurd q nx⟩
 ·have x64 : x.toInt ≤ 64 := by rw [J_lt, z64] at a1; omega
  rw [if_neg a1]
  by_cases a3 : (3 : Int32) < d
  ·rw [if_pos a3, if_pos rfl]
   have nd : ¬ d.toInt ≤ 3 := by rw [i_lt, z3] at a3; omega
   refine okP.ite (fun _ => okP.some ⟨fun _ => x64, fun _ _ q => absurd q nd⟩) (fun _ => okP.some ⟨fun _ => x64, fun _ _ q => absurd q nd⟩)
  ·rw [if_neg a3, if_neg (by decide)]
   exact okP.some ⟨fun _ => x64, fun _ _ _ => by decide⟩
def Cut (s : CT) (p : PT) (j : Nat) : Prop := ∃ c : Nat, c ≤ j ∧ gd p.2 (j + 1) = (c : Nat) ∧ gd p.1 (j + 1) = gd p.1 c + 1 ∧ (c = j ∨ vv s j - vv s c + 1 ≤ 64)
def Plan (s : CT) (p : PT) (n : Nat) : Prop := p.1.length = 65 ∧ p.2.length = 65 ∧ gd p.1 0 = 0 ∧ ∀ j, j < n → Cut s p j ∧ 1 ≤ gd p.1 (j + 1) ∧ gd p.1 (j + 1) ≤ j + 1
theorem span_m (x y : Int32) : ((x.toInt64 - y.toInt64) + (1 : Int64)).toInt = x.toInt - y.toInt + 1 := by
 have a1 := i_lo x
 have a2 := i_hi x
 have a3 := i_lo y
 have a4 := i_hi y
 have z1 : (1 : Int64).toInt = 1 := rfl
 have e : (x.toInt64 - y.toInt64).toInt = x.toInt - y.toInt := by
  rw [J_sub (by rw [J_e, J_e]; omega) (by rw [J_e, J_e]; omega), J_e, J_e]
 rw [J_add (by rw [e, z1]; omega) (by rw [e, z1]; omega), e, z1]
theorem plan_in {c : CT} {s : CT} {f : FT} {p : PT} {k : KT} {d : DT} {m : MT} {b : BT} {o : Ob} (h : A o = (c, s, f, p, k, d, m, b)) {T : Int} {n j : Nat} (S : Sw T n s) (n16 : n ≤ 16) (hj : j < n) {x1 x2 : Int32} (hx : x2.toInt = j) (P : Plan s p j) (C : Cut s p j) (c1 : 1 ≤ gd p.1 (j + 1)) (c2 : gd p.1 (j + 1) ≤ j + 1) : okP (loopN (B6_52 x1 x2) qN (0, 0, x2, o)) (fun e => ∃ q p', (e = .inl q ∨ e = .inr q) ∧ A q = (c, s, f, p', k, d, m, b) ∧ Plan s p' (j + 1) ∧ (Nar T n s → gd p'.1 (j + 1) ≤ 1)) := by
 have z0 : (0 : Int32).toInt = 0 := rfl
 have z1 : (1 : Int32).toInt = 1 := rfl
 have zm : (-1 : Int32).toInt = -1 := rfl
 have ej : (x2 + 1).toInt = x2.toInt + 1 := inc1 (by omega)
 have sx := S.a_v hj hx
 refine okP.loop (fun w : Int32 × Int32 × Int32 × Ob => -1 ≤ w.2.2.1.toInt ∧ w.2.2.1.toInt ≤ j ∧ (T ≤ 4 → Q4 (df s) w.1 w.2.1) ∧ ∃ p', A w.2.2.2 = (c, s, f, p', k, d, m, b) ∧ Plan s p' (j + 1) ∧ (Nar T n s → w.2.2.1.toInt = -1 → gd p'.1 (j + 1) ≤ 1)) (fun w => (w.2.2.1.toInt + 1).toNat) ⟨by show -1 ≤ x2.toInt; omega, by show x2.toInt ≤ j; omega, fun _ => Q4.zero _, p, h, ⟨P.1, P.2.1, P.2.2.1, fun i hi => by
  by_cases e : i = j
  ·subst e; exact ⟨C, c1, c2⟩
  ·exact P.2.2.2 i (by omega)⟩, fun _ w => by have w : x2.toInt = -1 := w; omega⟩ (by show (x2.toInt + 1).toNat < 4000; omega) ?_
 rintro ⟨se, di, y, q⟩ ⟨y0, y1, Q, p', hq, P', O1⟩
 simp only at y0 y1 Q hq O1
 unfold B6_52
 simp only
 refine okP.ite (fun cy => okP.some ⟨q, p', Or.inr rfl, hq, P', fun w => O1 w (by rw [i_lt, z0] at cy; omega)⟩) (fun cy => ?_)
 rw [i_lt, z0] at cy
 obtain ⟨i, hi⟩ : ∃ i : Nat, y.toInt = i := ⟨y.toInt.toNat, by omega⟩
 have ij : i ≤ j := by omega
 have em : (y + -1).toInt = y.toInt + -1 := by rw [i_add (by omega) (by omega), zm]
 generalize hym : y + -1 = ym at em
 generalize hxp : x2 + 1 = xp at ej ⊢
 rw [g_snapTgt hq, S.a_t (by omega) hi, Option.bind_some, g_snapVal hq, sx, Option.bind_some, S.a_v (by omega) hi, Option.bind_some]
 have z256 : (256 : Int64).toInt = 256 := rfl
 refine okP.ite (fun c9 => okP.some ⟨q, p', Or.inl rfl, hq, P', fun w => ?_⟩) (fun _ => ?_)
 ·rw [J_lt, z256, span_m] at c9
  have := w.2 i j (by omega) hj
  have e1 : vv s j = (at' s.1 j).toInt := rfl
  have e2 : vv s i = (at' s.1 i).toInt := rfl
  omega
 have dt : 0 ≤ (df s).toInt ∧ (df s).toInt < T := S.2.2.2.2.2.2
 have ti := S.2.2.2.2.2.1 i (by omega)
 rw [g_snapDefault hq]
 have Q' : T ≤ 4 → Q4 (df s) (if tt' s i = s.2.2.2.1 then se else (if (se &&& ((1 : Int32) <<< (tt' s i &&& 31))) = (0 : Int32) then (se ||| ((1 : Int32) <<< (tt' s i &&& 31))) else se)) (if tt' s i = s.2.2.2.1 then di else (if (se &&& ((1 : Int32) <<< (tt' s i &&& 31))) = (0 : Int32) then (di + (1 : Int32)) else di)) := fun w => (Q w).step dt.1 (by omega) ti.1 (by omega)
 generalize (if tt' s i = s.2.2.2.1 then se else (if (se &&& ((1 : Int32) <<< (tt' s i &&& 31))) = (0 : Int32) then (se ||| ((1 : Int32) <<< (tt' s i &&& 31))) else se)) = se' at Q' ⊢
 generalize (if tt' s i = s.2.2.2.1 then di else (if (se &&& ((1 : Int32) <<< (tt' s i &&& 31))) = (0 : Int32) then (di + (1 : Int32)) else di)) = di' at Q' ⊢
 have ec1 : 0 ≤ (x2 - y + 1).toInt ∧ (x2 - y + 1).toInt ≤ 16 ∧ (x2 - y + 1).toInt = x2.toInt - y.toInt + 1 := by
  clear em ej
  have ec : (x2 - y).toInt = x2.toInt - y.toInt := i_sub (by omega) (by omega)
  rw [inc1 (by omega), ec]; omega
 generalize x2 - y + 1 = cn at ec1 ⊢
 apply okP.bind
 refine okP.mono (fits_ok ec1.1 ec1.2.1) (fun r hr => ?_)
 have go : ∀ (q' : Ob) (p2 : PT), A q' = (c, s, f, p2, k, d, m, b) → Plan s p2 (j + 1) → (Nar T n s → i = 0 → gd p2.1 (j + 1) ≤ 1) → okP (J6_194 q' x1 x2 se' di' y) (fun r' => Sum.elim (fun e => ∃ q p', (e = .inl q ∨ e = .inr q) ∧ A q = (c, s, f, p', k, d, m, b) ∧ Plan s p' (j + 1) ∧ (Nar T n s → gd p'.1 (j + 1) ≤ 1)) (fun w : Int32 × Int32 × Int32 × Ob => (-1 ≤ w.2.2.1.toInt ∧ w.2.2.1.toInt ≤ j ∧ (T ≤ 4 → Q4 (df s) w.1 w.2.1) ∧ ∃ p', A w.2.2.2 = (c, s, f, p', k, d, m, b) ∧ Plan s p' (j + 1) ∧ (Nar T n s → w.2.2.1.toInt = -1 → gd p'.1 (j + 1) ≤ 1)) ∧ (w.2.2.1.toInt + 1).toNat < (y.toInt + 1).toNat) r') := by
  intro q' p2 hq' P2 o1
  unfold J6_194
  rw [hym]
  exact okP.some ⟨⟨by simp only; omega, by simp only; omega, Q', p2, hq', P2, fun w z => o1 w (by have z : ym.toInt = -1 := z; omega)⟩, by simp only; omega⟩
 have few : T ≤ 4 → di'.toInt ≤ 3 := fun w => (Q' w).top dt.1 (by omega)
 refine okP.ite (fun r0 => go q p' hq P' (fun w i0 => ?_)) (fun r1 => ?_)
 ·-- a cluster from the first case on fits
  rcases Nat.eq_zero_or_pos j with w' | w'
  ·have := P'.2.2.2 0 (by omega)
   rw [w']; omega
  ·refine absurd r0 (hr.2 (by omega) ?_ (few w.1))
   rw [span_m]
   exact w.2 i j (by omega) hj
 have l1 := P'.1
 have l2 := P'.2.1
 have n64 := S.2.2.1
 rw [g_bestCost hq, ag hi (by omega), Option.bind_some, ag (a := j + 1) (by omega) (by omega), Option.bind_some]
 refine okP.ite (fun lt => ?_) (fun lt => go q p' hq P' (fun _ i0 => ?_))
 rotate_left
 ·subst i0
  have e0 := P'.2.2.1
  have e1 : (at' p'.1 0 + 1).toInt = gd p'.1 0 + 1 := inc1 (by show gd p'.1 0 < _; omega)
  rw [i_lt, e1] at lt
  have lt' : ¬ gd p'.1 0 + 1 < gd p'.1 (j + 1) := lt
  omega
 have ci : gd p'.1 i + 1 ≤ i + 1 ∧ 0 ≤ gd p'.1 i := by
  rcases Nat.eq_zero_or_pos i with w | w
  ·subst w; have := P'.2.2.1; omega
  ·obtain ⟨i', e⟩ : ∃ i', i = i' + 1 := ⟨i - 1, by omega⟩
   subst e
   have := P'.2.2.2 i' (by omega)
   omega
 have e1 : (at' p'.1 i + 1).toInt = gd p'.1 i + 1 := inc1 (by show gd p'.1 i < _; omega)
 rw [Option.bind_some, aset_at (n := j + 1) (by omega) (by omega), Option.bind_some, g_bestCut hq, aset_at (n := j + 1) (by omega) (by omega), Option.bind_some]
 have sp : at' s.1 j = at' s.1 j := rfl
 have hspan := hr.1 r1
 rw [span_m] at hspan
 have hs : vv s j - vv s i + 1 ≤ 64 := hspan
 refine go _ _ (w_best hq _ _) ⟨ls l1, ls l2, ?_, fun a ha => ?_⟩ (fun _ i0 => ?_)
 rotate_right
 ·simp only
  rw [gd_set (by omega), if_pos rfl, e1, i0]
  have := P'.2.2.1
  omega
 ·simp only
  rw [gd_set (by omega), if_neg (by omega)]; exact P'.2.2.1
 ·have key : ∀ a, a ≤ j → gd (p'.1.set (j + 1) (at' p'.1 i + 1)) a = gd p'.1 a := fun a ha => by rw [gd_set (by omega), if_neg (by omega)]
  by_cases e : a = j
  ·subst e
   have k1 : gd (p'.1.set (a + 1) (at' p'.1 i + 1)) (a + 1) = gd p'.1 i + 1 := by rw [gd_set (by omega), if_pos rfl]; exact e1
   refine ⟨⟨i, ij, ?_, ?_, Or.inr hs⟩, ?_, ?_⟩
   ·simp only
    rw [gd_set (by omega), if_pos rfl]; exact hi
   ·simp only
    rw [k1, key i ij]
   ·simp only; rw [k1]; omega
   ·simp only; rw [k1]; omega
  ·obtain ⟨⟨cc, q1, q2, q3, q4⟩, q5, q6⟩ := P'.2.2.2 a (by omega)
   refine ⟨⟨cc, q1, ?_, ?_, q4⟩, ?_, ?_⟩
   ·simp only
    rw [gd_set (by omega), if_neg (by omega)]; exact q2
   ·simp only
    rw [key _ (by omega), key _ (by omega)]; exact q3
   ·simp only; rw [key _ (by omega)]; exact q5
   ·simp only; rw [key _ (by omega)]; exact q6
theorem plan_ok {c : CT} {s : CT} {f : FT} {p : PT} {k : KT} {d : DT} {m : MT} {b : BT} {o : Ob} (h : A o = (c, s, f, p, k, d, m, b)) {T : Int} {n : Nat} (S : Sw T n s) (n16 : n ≤ 16) (l1 : p.1.length = 65) (l2 : p.2.length = 65) : okP (F6 o) (fun q => ∃ p', A q = (c, s, f, p', k, d, m, b) ∧ Plan s p' n ∧ (Nar T n s → gd p'.1 n ≤ 1)) := by
 unfold F6
 rw [g_bestCost h, aset_at (n := 0) rfl (by omega), Option.bind_some, g_snapCount h]
 apply okP.bind
 refine okP.mono (P := fun q => ∃ p', A q = (c, s, f, p', k, d, m, b) ∧ Plan s p' n ∧ (Nar T n s → gd p'.1 n ≤ 1)) ?_ (fun q hq => okP.some hq)
 refine okP.loop (fun w : Int32 × Ob => ∃ j : Nat, w.1.toInt = (j : Int) ∧ j ≤ n ∧ ∃ p', A w.2 = (c, s, f, p', k, d, m, b) ∧ Plan s p' j ∧ (Nar T n s → gd p'.1 j ≤ 1)) (fun w => (100 - w.1.toInt).toNat) ⟨0, rfl, by omega, _, w_cost h _, ⟨ls l1, l2, by simp only; rw [gd_set (by omega), if_pos rfl]; rfl, fun j hj => absurd hj (by omega)⟩, fun _ => by simp only; rw [gd_set (by omega), if_pos rfl]; decide⟩ (by show (100 - (0 : Int)).toNat < 4000; decide) ?_
 rintro ⟨x, q⟩ ⟨j, hj, jn, p', hq, P, O1⟩
 simp only at hj hq
 unfold B6_14
 simp only
 refine okP.ite (fun cx => ?_) (fun cx => ?_)
 ·rw [i_lt, S.2.2.2.1] at cx
  have l1 := P.1
  have l2 := P.2.1
  have ej : (x + 1).toInt = x.toInt + 1 := inc1 (by omega)
  have cj : 0 ≤ gd p'.1 j ∧ gd p'.1 j ≤ j := by
   rcases Nat.eq_zero_or_pos j with w | w
   ·subst w; have := P.2.2.1; omega
   ·obtain ⟨j', e⟩ : ∃ j', j = j' + 1 := ⟨j - 1, by omega⟩
    subst e
    have := P.2.2.2 j' (by omega)
    omega
  have e1 : (at' p'.1 j + 1).toInt = gd p'.1 j + 1 := inc1 (by show gd p'.1 j < _; omega)
  rw [g_bestCost hq, ag hj (by omega), Option.bind_some, aset_at (n := j + 1) (by omega) (by omega), Option.bind_some, g_bestCut hq, aset_at (n := j + 1) (by omega) (by omega), Option.bind_some]
  have key : ∀ a, a ≤ j → gd (p'.1.set (j + 1) (at' p'.1 j + 1)) a = gd p'.1 a := fun a ha => by rw [gd_set (by omega), if_neg (by omega)]
  have k1 : gd (p'.1.set (j + 1) (at' p'.1 j + 1)) (j + 1) = gd p'.1 j + 1 := by rw [gd_set (by omega), if_pos rfl]; exact e1
  have k2 : gd (p'.2.set (j + 1) x) (j + 1) = (j : Nat) := by rw [gd_set (by omega), if_pos rfl]; exact hj
  have P2 : Plan s (p'.1.set (j + 1) (at' p'.1 j + 1), p'.2.set (j + 1) x) j := by
   refine ⟨ls l1, ls l2, ?_, fun a ha => ?_⟩
   ·simp only; rw [key 0 (by omega)]; exact P.2.2.1
   ·obtain ⟨⟨cc, q1, q2, q3, q4⟩, q5, q6⟩ := P.2.2.2 a (by omega)
    refine ⟨⟨cc, q1, ?_, ?_, q4⟩, ?_, ?_⟩
    ·simp only
     rw [gd_set (by omega), if_neg (by omega)]; exact q2
    ·simp only
     rw [key _ (by omega), key _ (by omega)]; exact q3
    ·simp only; rw [key _ (by omega)]; exact q5
    ·simp only; rw [key _ (by omega)]; exact q6
  apply okP.bind
  refine okP.mono (plan_in (w_best hq _ _) S n16 (by omega) hj P2 ⟨j, Nat.le_refl _, k2, by simp only; rw [k1, key j (Nat.le_refl _)], Or.inl rfl⟩ (by simp only; rw [k1]; omega) (by simp only; rw [k1]; omega)) ?_
  rintro e ⟨q', p2, he, hq', P3, O3⟩
  have fin : okP (J6_200 q' s.2.2.1 x) (fun r' => Sum.elim (fun q => ∃ p', A q = (c, s, f, p', k, d, m, b) ∧ Plan s p' n ∧ (Nar T n s → gd p'.1 n ≤ 1)) (fun w : Int32 × Ob => (∃ j : Nat, w.1.toInt = (j : Int) ∧ j ≤ n ∧ ∃ p', A w.2 = (c, s, f, p', k, d, m, b) ∧ Plan s p' j ∧ (Nar T n s → gd p'.1 j ≤ 1)) ∧ (100 - w.1.toInt).toNat < (100 - x.toInt).toNat) r') := okP.some ⟨⟨j + 1, by simp only; omega, by omega, p2, hq', P3, O3⟩, by simp only; omega⟩
  rcases he with he | he <;> rw [he] <;> exact fin
 ·rw [i_lt, S.2.2.2.1] at cx
  have : j = n := by omega
  subst this
  exact okP.some ⟨p', hq, P, O1⟩
def Cls (s : CT) (n K : Nat) (β : Nat → Nat) (k : KT) : Prop := k.1.length = 64 ∧ k.2.1.length = 64 ∧ k.2.2.toInt = (K : Nat) ∧ K ≤ n ∧ β 0 = 0 ∧ β K = n ∧ ∀ a, a < K → β a < β (a + 1) ∧ β (a + 1) ≤ n ∧ gd k.1 a = (β a : Nat) ∧ gd k.2.1 a = (β (a + 1) : Int) - 1 ∧ (β (a + 1) = β a + 1 ∨ vv s (β (a + 1) - 1) - vv s (β a) + 1 ≤ 64)
theorem coll_ok {c : CT} {s : CT} {f : FT} {p : PT} {k : KT} {d : DT} {m : MT} {b : BT} {o : Ob} (h : A o = (c, s, f, p, k, d, m, b)) {n : Nat} (n64 : n ≤ 64) (hn : s.2.2.1.toInt = (n : Nat)) (P : Plan s p n) (l1 : k.1.length = 64) (l2 : k.2.1.length = 64) : okP (F7 o) (fun q => ∃ k' K β, A q = (c, s, f, p, k', d, m, b) ∧ Cls s n K β k' ∧ (K : Int) = gd p.1 n) := by
 have z0 : (0 : Int32).toInt = 0 := rfl
 have z1 : (1 : Int32).toInt = 1 := rfl
 have z65 : (65 : Int32).toInt = 65 := rfl
 have zm : (-1 : Int32).toInt = -1 := rfl
 have p1 := P.1
 have p2 := P.2.1
 have cb : ∀ a, a ≤ n → 0 ≤ gd p.1 a ∧ gd p.1 a ≤ a ∧ (a ≠ 0 → 1 ≤ gd p.1 a) := by
  intro a ha
  rcases Nat.eq_zero_or_pos a with w | w
  ·subst w; have := P.2.2.1; omega
  ·obtain ⟨a', e⟩ : ∃ a', a = a' + 1 := ⟨a - 1, by omega⟩
   subst e
   have := P.2.2.2 a' (by omega)
   omega
 unfold F7
 rw [g_bestCost h, g_snapCount h, ag hn (by omega), Option.bind_some]
 obtain ⟨K, hK⟩ : ∃ K : Nat, gd p.1 n = (K : Nat) := ⟨(gd p.1 n).toNat, by have := cb n (Nat.le_refl _); omega⟩
 have hK' : (at' p.1 n).toInt = (K : Nat) := hK
 have Kn : K ≤ n := by have := cb n (Nat.le_refl _); omega
 generalize at' p.1 n = kv at *
 have h' := w_clc h kv
 apply okP.bind
 refine okP.mono (P := fun q => ∃ k' K β, A q = (c, s, f, p, k', d, m, b) ∧ Cls s n K β k' ∧ (K : Int) = gd p.1 n) ?_ (fun q hq => okP.some hq)
 refine okP.loop (fun w : Int32 × Int32 × Int32 × Ob => ∃ (kk pos st : Nat) (β : Nat → Nat) (u v : List Int32), w.1.toInt = (kk : Int) ∧ w.2.1.toInt = (pos : Int) ∧ w.2.2.1.toInt = (st : Int) ∧ st + pos ≤ n ∧ kk ≤ K ∧ gd p.1 pos = (kk : Nat) ∧ A w.2.2.2 = (c, s, f, p, (u, v, kv), d, m, b) ∧ u.length = 64 ∧ v.length = 64 ∧ β K = n ∧ β kk = pos ∧ ∀ a, kk ≤ a → a < K → β a < β (a + 1) ∧ β (a + 1) ≤ n ∧ gd u a = (β a : Nat) ∧ gd v a = (β (a + 1) : Int) - 1 ∧ (β (a + 1) = β a + 1 ∨ vv s (β (a + 1) - 1) - vv s (β a) + 1 ≤ 64)) (fun w => w.2.1.toInt.toNat) ⟨K, n, 0, fun _ => n, k.1, k.2.1, hK', hn, rfl, by omega, Nat.le_refl _, hK, h', l1, l2, rfl, rfl, fun a h1 h2 => absurd h2 (by omega)⟩ (by show s.2.2.1.toInt.toNat < 4000; omega) ?_
 rintro ⟨x, y, z, q⟩ ⟨kk, pos, st, β, u, v, hx, hy, hz, sp, kK, hc, hq, lu, lv, bK, bk, hb⟩
 simp only at hx hy hz hq
 unfold B7_22
 simp only
 rw [if_pos (by rw [i_lt, z65]; omega)]
 refine okP.ite (fun cy => ?_) (fun cy => ?_)
 ·rw [i_lt, z0] at cy
  obtain ⟨j, ej⟩ : ∃ j, pos = j + 1 := ⟨pos - 1, by omega⟩
  subst ej
  obtain ⟨⟨cc, q1, q2, q3, q4⟩, q5, q6⟩ := P.2.2.2 j (by omega)
  have cbc := cb cc (by omega)
  have k1 : 1 ≤ kk := by omega
  obtain ⟨kj, ek⟩ : ∃ kj, kk = kj + 1 := ⟨kk - 1, by omega⟩
  subst ek
  have em : (x + -1).toInt = x.toInt + -1 := by rw [i_add (by omega) (by omega), zm]
  have ey : (y - 1).toInt = y.toInt - 1 := by rw [i_sub (by omega) (by omega), z1]
  have ez : (z + 1).toInt = z.toInt + 1 := inc1 (by omega)
  have hcc : (at' p.2 (j + 1)).toInt = (cc : Nat) := q2
  generalize x + -1 = xm at em ⊢
  rw [g_bestCut hq, ag hy (by omega), Option.bind_some, if_neg (by rw [i_lt, z0]; omega), if_neg (by rw [i_lt, z0]; omega), if_pos (by rw [i_lt]; omega), g_clStart hq, g_clEnd hq]
  generalize y - 1 = ym at ey ⊢
  generalize at' p.2 (j + 1) = cv at hcc ⊢
  rw [aset_at (n := kj) (by omega) (by show kj < u.length; omega), Option.bind_some, aset_at (n := kj) (by omega) (by show kj < v.length; omega), Option.bind_some]
  have hw := w_cl hq (u.set kj cv) (v.set kj ym)
  refine okP.some ⟨⟨kj, cc, st + 1, (fun a => if a = kj then cc else β a), u.set kj cv, v.set kj ym, by simp only; omega, hcc, by simp only; omega, by omega, by omega, by omega, hw, ls lu, ls lv, ?_, ?_, fun a h1 h2 => ?_⟩, by simp only; omega⟩
  ·simp only; rw [if_neg (by omega)]; exact bK
  ·simp only [if_true]
  ·simp only
   rw [gd_set (by omega), gd_set (by omega), if_neg (show ¬ a + 1 = kj by omega)]
   by_cases e : a = kj
   ·subst e
    simp only [if_true]
    rw [bk]
    refine ⟨by omega, by omega, hcc, by omega, ?_⟩
    rcases q4 with w | w
    ·left; omega
    ·right
     show vv s (j + 1 - 1) - vv s cc + 1 ≤ 64
     rw [show j + 1 - 1 = j by omega]; exact w
   ·simp only [if_neg e]
    exact hb a (by omega) h2
 ·rw [i_lt, z0] at cy
  have p0 : pos = 0 := by omega
  subst p0
  have k0 : kk = 0 := by have := P.2.2.1; omega
  subst k0
  exact okP.some ⟨_, K, β, hq, ⟨lu, lv, hK', Kn, bk, bK, fun a ha => hb a (by omega) ha⟩, hK.symm⟩

theorem mskbit {w : Nat} (hw : w < 64) (i : Nat) : (BitVec.ofNat 64 (2 ^ w - 1)).getLsbD i = decide (i < w) := by
 rw [BitVec.getLsbD_ofNat, Nat.testBit_two_pow_sub_one]
 by_cases h : i < w
 ·have : i < 64 := by omega
  simp [h, this]
 ·simp [h]
theorem shl64 (v : Int64) {y : Int32} {n : Nat} (h : y.toInt = n) (hn : n < 64) : (v <<< (y.toInt64 &&& 63)).toBitVec = v.toBitVec <<< n := by
 have : ∀ n : Fin 64, (((Int32.ofInt n.1).toInt64 &&& 63).toBitVec.smod 64) = BitVec.ofNat 64 n.1 := by decide
 rw [ofI h]
 show v.toBitVec <<< (((Int32.ofInt n).toInt64 &&& 63).toBitVec.smod 64) = _
 rw [this ⟨n, hn⟩, BitVec.shiftLeft_eq']
 congr 1
 simp; omega
theorem ushr64 (v : Int64) {y : Int32} {n : Nat} (h : y.toInt = n) (hn : n < 64) : (XT.ushrL v y).toBitVec = v.toBitVec >>> n := by
 have : ∀ n : Fin 64, (((Int32.ofInt n.1).toInt64.toUInt64 &&& Int64.toUInt64 63) % 64).toBitVec = BitVec.ofNat 64 n.1 := by decide
 rw [ofI h]
 show v.toBitVec >>> (((Int32.ofInt n).toInt64.toUInt64 &&& Int64.toUInt64 63) % 64).toBitVec = _
 rw [this ⟨n, hn⟩, BitVec.ushiftRight_eq']
 congr 1
 simp; omega
def bt6 (x : Int64) (n : Nat) : Bool := x.toBitVec.getLsbD n
theorem bt6_or (x y : Int64) (n : Nat) : bt6 (x ||| y) n = (bt6 x n || bt6 y n) := by
 show (x.toBitVec ||| y.toBitVec).getLsbD n = _
 rw [BitVec.getLsbD_or]; rfl
theorem bt6_0 (n : Nat) : bt6 0 n = false := by
 show (0#64).getLsbD n = false
 simp
theorem bt6_one {y : Int32} {k : Nat} (h : y.toInt = k) (hk : k < 64) {n : Nat} (hn : n < 64) : bt6 ((1 : Int64) <<< (y.toInt64 &&& 63)) n = decide (n = k) := by
 unfold bt6
 rw [shl64 1 h hk]
 show (1#64 <<< k).getLsbD n = _
 rw [BitVec.getLsbD_shiftLeft]
 by_cases c : n < k
 ·have : ¬ n = k := by omega
  simp [c, this]
 ·by_cases e : n = k
  ·subst e; simp [hn]
  ·have : ¬ (n - k = 0) := by omega
   simp [hn, c, e, this]
theorem bt6_ushr (x : Int64) {y : Int32} {k : Nat} (h : y.toInt = k) (hk : k < 64) : (XT.ushrL x y &&& (1 : Int64)) = 0 ↔ bt6 x k = false := by
 have e : (XT.ushrL x y &&& (1 : Int64)).toBitVec = (x.toBitVec >>> k) &&& 1#64 := by
  show (XT.ushrL x y).toBitVec &&& (1 : Int64).toBitVec = _
  rw [ushr64 x h hk]; rfl
 have e2 : (XT.ushrL x y &&& (1 : Int64)).toBitVec = if bt6 x k then 1#64 else 0#64 := by
  rw [e]
  apply BitVec.eq_of_getLsbD_eq
  intro i hi
  rw [BitVec.getLsbD_and, BitVec.getLsbD_ushiftRight]
  by_cases i0 : i = 0
  ·subst i0
   show (x.toBitVec.getLsbD (k + 0) && true) = _
   unfold bt6
   rw [Nat.add_zero, Bool.and_true]
   cases x.toBitVec.getLsbD k <;> rfl
  ·have a : (1#64).getLsbD i = false := by
    rw [BitVec.getLsbD_one]; simp [i0]
   rw [a, Bool.and_false]
   cases bt6 x k
   ·simp
   ·simp [i0]
 constructor
 ·intro z
  have := congrArg Int64.toBitVec z
  rw [e2] at this
  cases q : bt6 x k
  ·rfl
  ·rw [q] at this; exact absurd this (by decide)
 ·intro q
  apply Int64.toBitVec_inj.1
  rw [e2, q]; rfl
theorem off_m (x y : Int32) : (((x - y).toInt64) &&& (4294967295 : Int64)).toInt = (x.toInt - y.toInt) % 4294967296 := by
 have a1 := i_lo (x - y)
 have a2 := i_hi (x - y)
 have e : (((x - y).toInt64) &&& (4294967295 : Int64)).toBitVec = (x - y).toBitVec.setWidth 64 := by
  show ((x - y).toInt64).toBitVec &&& BitVec.ofNat 64 (2 ^ 32 - 1) = _
  rw [Int32.toBitVec_toInt64]
  apply BitVec.eq_of_getLsbD_eq
  intro i hi
  rw [BitVec.getLsbD_and, BitVec.getLsbD_signExtend, mskbit (by decide), BitVec.getLsbD_setWidth]
  by_cases c : i < 32
  ·simp [c, hi]
  ·have : (x - y).toBitVec.getLsbD i = false := BitVec.getLsbD_of_ge _ _ (by omega)
   rw [this, decide_eq_false c, Bool.and_false, Bool.and_false]
 have w1 : (x - y).toInt = (x - y).toBitVec.toInt := rfl
 have w2 : (((x - y).toInt64) &&& (4294967295 : Int64)).toInt = ((x - y).toBitVec.setWidth 64).toInt := by
  show (((x - y).toInt64) &&& (4294967295 : Int64)).toBitVec.toInt = _
  rw [e]
 have lt := (x - y).toBitVec.isLt
 have w3 : ((x - y).toBitVec.setWidth 64).toNat = (x - y).toBitVec.toNat := by
  rw [BitVec.toNat_setWidth, Nat.mod_eq_of_lt (by omega)]
 have w4 : ((x - y).toBitVec.setWidth 64).toInt = ((x - y).toBitVec.toNat : Int) := by
  rw [BitVec.toInt_eq_toNat_cond, w3, if_pos (by omega)]
 have w5 : (x - y).toBitVec.toInt = if 2 * (x - y).toBitVec.toNat < 2 ^ 32 then ((x - y).toBitVec.toNat : Int) else (x - y).toBitVec.toNat - (2 ^ 32 : Nat) := BitVec.toInt_eq_toNat_cond _
 have w6 : (x - y).toInt = (x.toInt - y.toInt).bmod (2 ^ 32) := Int32.toInt_sub ..
 rw [w2, w4]
 rw [← w1, w6] at w5
 have e32 : ((2 ^ 32 : Nat) : Int) = 4294967296 := rfl
 simp only [Int.bmod, e32] at w5
 split at w5 <;> split at w5 <;> omega
theorem t32_m {x : Int64} (h0 : 0 ≤ x.toInt) (h1 : x.toInt < 64) : x.toInt32.toInt = x.toInt := by
 rw [Int64.toInt_toInt32, Int.bmod_eq_of_le (by omega) (by omega)]
def am (l : List Int64) (j : Nat) : Int64 := l.getD j 0
theorem am_set {l : List Int64} {i k : Nat} {v : Int64} (hi : i < l.length) : am (l.set i v) k = if k = i then v else am l k := by
 unfold am
 rw [List.getD_eq_getElem?_getD, List.getD_eq_getElem?_getD, List.getElem?_set]
 by_cases h : i = k
 ·rw [if_pos h, if_pos h.symm, if_pos hi]; rfl
 ·rw [if_neg h, if_neg (fun w => h w.symm)]
theorem agm {l : List Int64} {x : Int32} {a : Nat} (hx : x.toInt = a) (ha : a < l.length) : aget l x = some (am l a) := by
 unfold am
 rw [aget_at hx ha, List.getD_eq_getElem?_getD, List.getElem?_eq_getElem ha]; rfl
theorem b8 {x : Int32} (h0 : 0 ≤ x.toInt) (h1 : x.toInt < 16) : (x.toInt8.toInt32).toInt8.toInt32 = x ∧ x.toInt8.toInt32 = x := small_cases (P := fun x => (x.toInt8.toInt32).toInt8.toInt32 = x ∧ x.toInt8.toInt32 = x) h0 (n := 16) h1 (by decide)
theorem pig : ∀ (n p : Nat) (f : Nat → Nat), (∀ q, q < p → f q < n) → (∀ q r, q < p → r < p → f q = f r → q = r) → p ≤ n
 | 0, p, f, h, _ => by
  rcases Nat.eq_zero_or_pos p with w | w
  ·omega
  ·exact absurd (h 0 w) (by omega)
 | n + 1, 0, f, _, _ => by omega
 | n + 1, p + 1, f, h, inj => by
  have := pig n p (fun q => if f q = n then f p else f q) (by
   intro q hq
   have a1 := h q (by omega)
   have a2 := h p (by omega)
   have a3 := inj q p (by omega) (by omega)
   show (if f q = n then f p else f q) < n
   split
   ·rename_i w
    have : f p ≠ n := fun z => absurd (a3 (by omega)) (by omega)
    omega
   ·omega) (by
   intro q r hq hr
   have a3 := inj q p (by omega) (by omega)
   have a4 := inj r p (by omega) (by omega)
   have a5 := inj q r (by omega) (by omega)
   show (if f q = n then f p else f q) = (if f r = n then f p else f r) → q = r
   intro e
   split at e <;> split at e
   ·exact a5 (by omega)
   ·have := a4 e.symm; omega
   ·have := a3 e; omega
   ·exact a5 e)
  omega
def Rv (s : CT) (a b : Nat) (x : Int) (r : Int32) : Prop := (∃ i, a ≤ i ∧ i < b ∧ vv s i = x ∧ r = tt' s i) ∨ ((∀ i, a ≤ i → i < b → vv s i ≠ x) ∧ r = df s)
theorem vv_inj {T : Int} {n : Nat} {s : CT} (S : Sw T n s) {i j : Nat} (hi : i < n) (hj : j < n) (h : vv s i = vv s j) : i = j := by
 rcases Nat.lt_trichotomy i j with w | w | w
 ·have := S.2.2.2.2.1 i j w hj; omega
 ·exact w
 ·have := S.2.2.2.2.1 j i w hi; omega
def Msk (s : CT) (m : MT) (a b base used : Nat) : Prop :=
 (∀ j, j < used → ∀ n, n < 64 → (bt6 (am m.1 (base + j)) n = true ↔ ∃ i, a ≤ i ∧ i < b ∧ tt' s i ≠ df s ∧ tt' s i = at' m.2.1 (base + j) ∧ vv s i = vv s a + n)) ∧
 (∀ i, a ≤ i → i < b → tt' s i ≠ df s → ∃ j, j < used ∧ at' m.2.1 (base + j) = tt' s i) ∧
 (∀ j, j < used → ∃ i, a ≤ i ∧ i < b ∧ at' m.2.1 (base + j) = tt' s i ∧ tt' s i ≠ df s) ∧
 ∀ j j', j < used → j' < used → at' m.2.1 (base + j) = at' m.2.1 (base + j') → j = j'
theorem Msk.congr {s : CT} {m m' : MT} {a b base used : Nat} (M : Msk s m a b base used) (h : ∀ j, j < base + used → am m'.1 j = am m.1 j ∧ at' m'.2.1 j = at' m.2.1 j) : Msk s m' a b base used := by
 obtain ⟨M1, M2, M3, M4⟩ := M
 refine ⟨fun j hj n hn => ?_, fun i h1 h2 h3 => ?_, fun j hj => ?_, fun j j' hj hj' e => ?_⟩
 ·rw [(h (base + j) (by omega)).1, (h (base + j) (by omega)).2]
  exact M1 j hj n hn
 ·obtain ⟨j, j1, j2⟩ := M2 i h1 h2 h3
  exact ⟨j, j1, by rw [(h (base + j) (by omega)).2]; exact j2⟩
 ·rw [(h (base + j) (by omega)).2]
  exact M3 j hj
 ·rw [(h (base + j) (by omega)).2, (h (base + j') (by omega)).2] at e
  exact M4 j j' hj hj' e
def Leaf (s : CT) (d : DT) (m : MT) (a b pc : Nat) : Prop :=
 (at' d.1 pc = 2 ∧ b = a + 1 ∧ gd d.2.1 pc = vv s a ∧ at' d.2.2.1 pc = tt' s a) ∨
 (at' d.1 pc = 4 ∧ gd d.2.1 pc = vv s a ∧ ∃ base used : Nat, gd d.2.2.1 pc = (base : Nat) ∧ gd d.2.2.2.1 pc = (used : Nat) ∧ used ≤ 3 ∧ base + used ≤ m.2.2.toInt.toNat ∧ gd d.2.2.2.2.1 pc = vv s (b - 1) - vv s a + 1 ∧ vv s (b - 1) - vv s a + 1 ≤ 64 ∧ Msk s m a b base used)
def LD (d : DT) : Prop := d.1.length = 160 ∧ d.2.1.length = 160 ∧ d.2.2.1.length = 160 ∧ d.2.2.2.1.length = 160 ∧ d.2.2.2.2.1.length = 160
def LM (m : MT) : Prop := m.1.length = 192 ∧ m.2.1.length = 192 ∧ 0 ≤ m.2.2.toInt ∧ m.2.2.toInt ≤ 192
theorem bits_m {c : CT} {s : CT} {f : FT} {p : PT} {k : KT} {d : DT} {m : MT} {b : BT} {o : Ob} (h : A o = (c, s, f, p, k, d, m, b)) {T : Int} {n a e pc : Nat} (S : Sw T n s) (D : LD d) (M : LM m) (ab : a < e) (bn : e ≤ n) (h4 : gd d.2.1 pc = vv s a) {base used : Nat} (hb : gd d.2.2.1 pc = (base : Nat)) (hu : gd d.2.2.2.1 pc = (used : Nat)) (u3 : used ≤ 3) (bu : base + used ≤ m.2.2.toInt.toNat) (hd : gd d.2.2.2.2.1 pc = vv s (e - 1) - vv s a + 1) (h64 : vv s (e - 1) - vv s a + 1 ≤ 64) (K : Msk s m a e base used) {y x : Int32} (hy : y.toInt = pc) (p160 : pc < 160) : okP (F37 o y x) (fun r => (0 ≤ r.toInt ∧ Rv s a e x.toInt r) ∨ (r = -1 ∧ Rv s a e x.toInt (df s))) := by
 have z0 : (0 : Int32).toInt = 0 := rfl
 have z3 : (3 : Int32).toInt = 3 := rfl
 have z64 : (64 : Int64).toInt = 64 := rfl
 obtain ⟨d1, d2, d3, d4, d5⟩ := D
 obtain ⟨m1, m2, m3, m4⟩ := M
 obtain ⟨K1, K2, K3, K4⟩ := K
 have x1 := i_lo x
 have x2 := i_hi x
 have hi := i_hi (at' s.1 (e - 1))
 have hlo := i_lo (at' s.1 a)
 have hlo2 := i_hi (at' s.1 a)
 have va : vv s a = (at' s.1 a).toInt := rfl
 have ve : vv s (e - 1) = (at' s.1 (e - 1)).toInt := rfl
 have mono : ∀ i, a ≤ i → i < e → vv s a ≤ vv s i ∧ vv s i ≤ vv s (e - 1) := by
  intro i h1 h2
  constructor
  ·rcases Nat.eq_or_lt_of_le h1 with w | w
   ·rw [w]; omega
   ·have := S.2.2.2.2.1 a i w (by omega); omega
  ·by_cases w : i = e - 1
   ·rw [w]; omega
   ·have := S.2.2.2.2.1 i (e - 1) (by omega) (by omega); omega
 unfold F37 F38
 rw [g_argA h, g_argB h, g_argC h, g_argD h, ag hy (by omega), Option.bind_some, Option.bind_some, ag hy (by omega), Option.bind_some]
 have eo := off_m x (at' d.2.1 pc)
 have h4' : (at' d.2.1 pc).toInt = vv s a := h4
 rw [h4'] at eo
 generalize ((x - at' d.2.1 pc).toInt64) &&& (4294967295 : Int64) = off at *
 have ds : (at' d.2.2.2.2.1 pc).toInt64.toInt = vv s (e - 1) - vv s a + 1 := by rw [J_e]; exact hd
 have out : ¬ (vv s a ≤ x.toInt ∧ x.toInt ≤ vv s (e - 1)) → Rv s a e x.toInt (df s) := by
  intro w
  right
  refine ⟨fun i h1 h2 z => ?_, rfl⟩
  have := mono i h1 h2
  omega
 refine okP.ite (fun c1 => ?_) (fun c1 => ?_)
 ·rw [J_lt, ds] at c1
  rw [if_pos (by rw [J_lt, z64]; omega), ag hy (by omega), Option.bind_some, ag hy (by omega), Option.bind_some]
  have xo : x.toInt = vv s a + off.toInt := by omega
  have o0 : 0 ≤ off.toInt := by omega
  obtain ⟨q, hq⟩ : ∃ q : Nat, off.toInt = q := ⟨off.toInt.toNat, by omega⟩
  have q64 : q < 64 := by omega
  have t32 : off.toInt32.toInt = q := by rw [t32_m o0 (by omega)]; exact hq
  have hb' : (at' d.2.2.1 pc).toInt = (base : Nat) := hb
  have hu' : (at' d.2.2.2.1 pc).toInt = (used : Nat) := hu
  generalize at' d.2.2.1 pc = bv at *
  generalize at' d.2.2.2.1 pc = uv at *
  generalize off.toInt32 = ov at *
  have miss : (∀ j, j < used → bt6 (am m.1 (base + j)) q = false) → Rv s a e x.toInt (df s) := by
   intro w
   by_cases z : ∃ i, a ≤ i ∧ i < e ∧ vv s i = x.toInt
   ·obtain ⟨i, i1, i2, i3⟩ := z
    left
    refine ⟨i, i1, i2, i3, ?_⟩
    rcases Classical.em (tt' s i = df s) with t | t
    ·exact t.symm
    ·obtain ⟨j, j1, j2⟩ := K2 i i1 i2 t
     have := (K1 j j1 q q64).2 ⟨i, i1, i2, t, j2.symm, by omega⟩
     rw [w j j1] at this
     exact absurd this (by decide)
   ·right
    exact ⟨fun i h1 h2 e => z ⟨i, h1, h2, e⟩, rfl⟩
  apply okP.bind
  refine okP.mono (P := fun r => (0 ≤ r.toInt ∧ Rv s a e x.toInt r) ∨ (r = -1 ∧ Rv s a e x.toInt (df s))) ?_ (fun r hr => okP.some hr)
  refine okP.loop (fun w : Int32 => ∃ j : Nat, w.toInt = (j : Int) ∧ j ≤ used ∧ ∀ j', j' < j → bt6 (am m.1 (base + j')) q = false) (fun w => (10 - w.toInt).toNat) ⟨0, rfl, by omega, fun j hj => absurd hj (by omega)⟩ (by show (10 - (0 : Int)).toNat < 4000; decide) ?_
  rintro w ⟨j, hj, ju, hm⟩
  unfold B37_57
  have ew : (w + 1).toInt = w.toInt + 1 := inc1 (by omega)
  have ebw : (bv + w).toInt = bv.toInt + w.toInt := i_add (by omega) (by omega)
  have lm : ((fu o).length.toInt32).toInt = 192 := by rw [g_maskPool h, m1]; rfl
  refine okP.ite (fun c2 => ?_) (fun c2 => ?_)
  ·rw [i_lt] at c2
   rw [if_pos (by rw [i_lt, z3]; omega), if_neg (by rw [i_lt, z0]; omega), if_pos (by rw [i_lt, lm]; omega), g_maskPool h, agm (a := base + j) (by omega) (by omega), Option.bind_some]
   refine okP.ite (fun c3 => ?_) (fun c3 => ?_)
   ·have c3' := (bt6_ushr _ t32 q64).1 c3
    refine okP.some ⟨⟨j + 1, by omega, by omega, fun j' hj' => ?_⟩, by omega⟩
    by_cases z : j' = j
    ·rw [z]; exact c3'
    ·exact hm j' (by omega)
   ·have c3' : bt6 (am m.1 (base + j)) q = true := by
     cases z : bt6 (am m.1 (base + j)) q
     ·exact absurd ((bt6_ushr _ t32 q64).2 z) c3
     ·rfl
    rw [g_maskTarget h, ag (a := base + j) (by omega) (by omega), Option.bind_some]
    obtain ⟨i, i1, i2, i3, i4, i5⟩ := (K1 j (by omega) q q64).1 c3'
    refine okP.some (Or.inl ⟨?_, Or.inl ⟨i, i1, i2, by omega, i4.symm⟩⟩)
    rw [← i4]
    exact (S.2.2.2.2.2.1 i (by omega)).1
  ·rw [i_lt] at c2
   refine okP.some (Or.inr ⟨rfl, miss (fun j' hj' => hm j' (by omega))⟩)
 ·rw [J_lt, ds] at c1
  exact okP.some (Or.inr ⟨rfl, out (by omega)⟩)
theorem leaf_m {c : CT} {s : CT} {f : FT} {p : PT} {k : KT} {d : DT} {m : MT} {b : BT} {o : Ob} (h : A o = (c, s, f, p, k, d, m, b)) {T : Int} {n a e pc : Nat} (S : Sw T n s) (D : LD d) (M : LM m) (ab : a < e) (bn : e ≤ n) (L : Leaf s d m a e pc) {y x : Int32} (hy : y.toInt = pc) (p160 : pc < 160) : okP (F36 o y x) (fun r => (0 ≤ r.toInt ∧ Rv s a e x.toInt r) ∨ (r = -1 ∧ Rv s a e x.toInt (df s))) := by
 have dl := D.1
 have d2 := D.2.1
 have d3 := D.2.2.1
 unfold F36
 rw [g_opc h, ag hy (by omega), Option.bind_some]
 rcases L with ⟨o2, eb, h4, h5⟩ | ⟨o4, h4, base, used, hb, hu, u3, bu, hd, h64, K⟩
 ·rw [if_pos o2, g_argA h, ag hy (by omega), Option.bind_some]
  subst eb
  refine okP.ite (fun xe => ?_) (fun xe => ?_)
  ·rw [g_argB h, ag hy (by omega), Option.bind_some, h5]
   refine okP.some (Or.inl ⟨(S.2.2.2.2.2.1 a (by omega)).1, Or.inl ⟨a, Nat.le_refl _, by omega, ?_, rfl⟩⟩)
   rw [xe]; exact h4.symm
  ·refine okP.some (Or.inr ⟨rfl, Or.inr ⟨fun i h1 h2 z => ?_, rfl⟩⟩)
   have : i = a := by omega
   subst this
   exact xe (i_eq.2 (by rw [← z]; exact h4.symm))
 ·rw [if_neg (by rw [o4]; decide), if_neg (by rw [o4]; decide), if_pos o4]
  exact okP.bind (okP.mono (bits_m h S D M ab bn h4 hb hu u3 bu hd h64 K hy p160) (fun r hr => okP.some hr))
def Kid (γ : Nat → Nat × Nat) (L pc : Nat) (z : Int32) (l r : Nat) : Prop := ∃ q : Nat, z.toInt = q ∧ pc < q ∧ q < L ∧ γ q = (l, r)
def Inn (s : CT) (β : Nat → Nat) (d : DT) (pc l r mid : Nat) : Prop := l < mid ∧ mid ≤ r ∧ at' d.1 pc = 1 ∧ gd d.2.1 pc = vv s (β mid)
def Tree (s : CT) (β : Nat → Nat) (K : Nat) (d : DT) (m : MT) (γ : Nat → Nat × Nat) (L : Nat) : Prop := ∀ pc, 1 ≤ pc → pc < L → (γ pc).1 ≤ (γ pc).2 ∧ (γ pc).2 < K ∧ (((γ pc).1 = (γ pc).2 ∧ Leaf s d m (β (γ pc).1) (β ((γ pc).1 + 1)) pc) ∨ ∃ mid, Inn s β d pc (γ pc).1 (γ pc).2 mid ∧ Kid γ L pc (at' d.2.2.1 pc) (γ pc).1 (mid - 1) ∧ Kid γ L pc (at' d.2.2.2.1 pc) mid (γ pc).2)
def Bd (n K : Nat) (β : Nat → Nat) : Prop := β K = n ∧ ∀ a, a < K → β a < β (a + 1)
theorem Bd.le {n K : Nat} {β : Nat → Nat} (B : Bd n K β) : ∀ (j a : Nat), a + j ≤ K → β a + j ≤ β (a + j)
 | 0, a, _ => by simp
 | j + 1, a, h => by
  have := B.le j a (by omega)
  have := B.2 (a + j) (by omega)
  rw [show a + (j + 1) = a + j + 1 from rfl]
  omega
theorem Bd.lt {n K : Nat} {β : Nat → Nat} (B : Bd n K β) {a c : Nat} (h1 : a < c) (h2 : c ≤ K) : β a < β c := by
 have := B.le (c - a) a (by omega)
 rw [show a + (c - a) = c by omega] at this
 omega
theorem Bd.top {n K : Nat} {β : Nat → Nat} (B : Bd n K β) {a : Nat} (h : a ≤ K) : β a ≤ n := by
 have := B.le (K - a) a (by omega)
 rw [show a + (K - a) = K by omega, B.1] at this
 omega
theorem Rv.left {T : Int} {n : Nat} {s : CT} (S : Sw T n s) {a c e : Nat} (ac : a ≤ c) (ce : c < e) (en : e ≤ n) {x : Int} (hx : x < vv s c) {r : Int32} (h : Rv s a c x r) : Rv s a e x r := by
 rcases h with ⟨i, i1, i2, i3, i4⟩ | ⟨h1, h2⟩
 ·exact Or.inl ⟨i, i1, by omega, i3, i4⟩
 ·right
  refine ⟨fun i i1 i2 z => ?_, h2⟩
  rcases Nat.lt_or_ge i c with w | w
  ·exact h1 i i1 w z
  ·rcases Nat.eq_or_lt_of_le w with q | q
   ·rw [q] at hx; omega
   ·have := S.2.2.2.2.1 c i q (by omega); omega
theorem Rv.right {T : Int} {n : Nat} {s : CT} (S : Sw T n s) {a c e : Nat} (ac : a ≤ c) (ce : c < e) (en : e ≤ n) {x : Int} (hx : vv s c ≤ x) {r : Int32} (h : Rv s c e x r) : Rv s a e x r := by
 rcases h with ⟨i, i1, i2, i3, i4⟩ | ⟨h1, h2⟩
 ·exact Or.inl ⟨i, by omega, i2, i3, i4⟩
 ·right
  refine ⟨fun i i1 i2 z => ?_, h2⟩
  rcases Nat.lt_or_ge i c with w | w
  ·have := S.2.2.2.2.1 i c w (by omega); omega
  ·exact h1 i w i2 z
theorem run_in {c : CT} {s : CT} {f : FT} {p : PT} {k : KT} {d : DT} {m : MT} {b : BT} {o : Ob} (h : A o = (c, s, f, p, k, d, m, b)) {T : Int} {n K : Nat} (S : Sw T n s) (D : LD d) (M : LM m) {β : Nat → Nat} (B : Bd n K β) {γ : Nat → Nat × Nat} {L : Nat} (l160 : L ≤ 60) (hL : d.2.2.2.2.2.1.toInt = (L : Nat)) (r0 : at' d.1 0 = 0) (r1 : at' d.2.1 0 = df s) (L1 : 1 ≤ L) (Tr : Tree s β K d m γ L) (x : Int32) : ∀ (f pc : Nat) (y t : Int32) (N : Nat), f = L - pc → f + 1 < N → y.toInt = pc → 1 ≤ pc → pc < L → 0 ≤ t.toInt → t.toInt + f + 1 < 64 → okP (loopN (B19_7 o x) N (y, t)) (fun r => Rv s (β (γ pc).1) (β ((γ pc).2 + 1)) x.toInt r)
 | 0, pc, y, t, N, hf, _, _, _, _, _, _ => absurd hf (by omega)
 | f + 1, pc, y, t, 0, _, h2, _, _, _, _, _ => absurd h2 (by omega)
 | f + 1, pc, y, t, N + 1, hf, hN, hy, p1, pL, t0, tf => by
  have z0 : (0 : Int32).toInt = 0 := rfl
  have z64 : (64 : Int32).toInt = 64 := rfl
  have et : (t + 1).toInt = t.toInt + 1 := inc1 (by omega)
  have dl := D.1
  have d2 := D.2.1
  have d3 := D.2.2.1
  have d4 := D.2.2.2.1
  obtain ⟨g1, g2, g3⟩ := Tr pc p1 pL
  have cl : (fxM o).toInt = L := by rw [g_codeLen h]; exact hL
  have head : B19_7 o x (y, t) = (if at' d.1 pc = 0 then (aget (ff o) y).bind fun y82 => some (.inl y82) else (if at' d.1 pc = 1 then (aget (ff o) y).bind fun y84 => (if x < y84 then (aget (fh o) y).bind fun y86 => (J19_81 o x t y86) else (aget (fi o) y).bind fun y87 => (J19_81 o x t y87)) else (F36 o y x).bind fun r112 => (if r112 < (0 : Int32) then (J19_103 o x (0 : Int32) t) else some (.inl r112)))) := by
   unfold B19_7
   simp only
   rw [if_pos (by rw [i_lt, z64]; omega), if_neg (by rw [i_lt, z0]; omega), if_pos (by rw [i_lt, cl]; omega), g_opc h, ag hy (by omega), Option.bind_some]
  rcases g3 with ⟨ge, lf⟩ | ⟨mid, ⟨lm, mr, o1, ap⟩, kb, kc⟩
  ·-- a leaf
   have o12 : at' d.1 pc = 2 ∨ at' d.1 pc = 4 := lf.imp (fun z => z.1) (fun z => z.1)
   have n0 : ¬ at' d.1 pc = 0 := by rcases o12 with w | w <;> rw [w] <;> decide
   have n1 : ¬ at' d.1 pc = 1 := by rcases o12 with w | w <;> rw [w] <;> decide
   rw [if_neg n0, if_neg n1] at head
   have b1 := B.2 (γ pc).1 (by omega)
   have b2 := B.top (a := (γ pc).1 + 1) (by omega)
   obtain ⟨r, q1, q2⟩ := leaf_m h S D M b1 b2 lf hy (by omega)
   rw [q1, Option.bind_some] at head
   rw [← ge]
   rcases q2 with ⟨r0', rv⟩ | ⟨rm, rv⟩
   ·rw [if_neg (by rw [i_lt, z0]; omega)] at head
    refine ⟨r, by simp only [loopN, head], rv⟩
   ·rw [rm, if_pos (by decide)] at head
    unfold J19_103 at head
    obtain ⟨N', eN⟩ : ∃ N', N = N' + 1 := ⟨N - 1, by omega⟩
    have head2 : B19_7 o x (0, t + 1) = some (.inl (df s)) := by
     unfold B19_7
     simp only
     rw [if_pos (by rw [i_lt, z64]; omega), if_neg (by decide), if_pos (by rw [i_lt, cl, z0]; omega), g_opc h, ag (a := 0) rfl (by omega), Option.bind_some, if_pos r0, g_argA h, ag (a := 0) rfl (by omega), Option.bind_some, r1]
    refine ⟨df s, ?_, rv⟩
    rw [eN]
    simp only [loopN, head, head2]
  ·-- a comparison
   have n0 : ¬ at' d.1 pc = 0 := by rw [o1]; decide
   rw [if_neg n0, if_pos o1, g_argA h, ag hy (by omega), Option.bind_some] at head
   have lo := B.lt (a := (γ pc).1) (c := mid) (by omega) (by omega)
   have hi := B.lt (a := mid) (c := (γ pc).2 + 1) (by omega) (by omega)
   have top := B.top (a := (γ pc).2 + 1) (by omega)
   have ap' : (at' d.2.1 pc).toInt = vv s (β mid) := ap
   by_cases c : x < at' d.2.1 pc
   ·rw [if_pos c, g_argB h, ag hy (by omega), Option.bind_some] at head
    unfold J19_81 J19_103 at head
    obtain ⟨q, q1, q2, q3, q4⟩ := kb
    rw [i_lt, ap'] at c
    have ih := run_in h S D M B l160 hL r0 r1 L1 Tr x (L - q) q (at' d.2.2.1 pc) (t + 1) N rfl (by omega) q1 (by omega) q3 (by omega) (by omega)
    rw [q4] at ih
    simp only at ih
    rw [show mid - 1 + 1 = mid by omega] at ih
    obtain ⟨r, r2, r3⟩ := ih
    exact ⟨r, by simp only [loopN, head]; exact r2, Rv.left S (by omega) hi top c r3⟩
   ·rw [if_neg c, g_argC h, ag hy (by omega), Option.bind_some] at head
    unfold J19_81 J19_103 at head
    obtain ⟨q, q1, q2, q3, q4⟩ := kc
    rw [i_lt, ap'] at c
    have ih := run_in h S D M B l160 hL r0 r1 L1 Tr x (L - q) q (at' d.2.2.2.1 pc) (t + 1) N rfl (by omega) q1 (by omega) q3 (by omega) (by omega)
    rw [q4] at ih
    simp only at ih
    obtain ⟨r, r2, r3⟩ := ih
    exact ⟨r, by simp only [loopN, head]; exact r2, Rv.right S (by omega) hi top (by omega) r3⟩
 termination_by f => f
def Cde (s : CT) (n : Nat) (d : DT) (m : MT) : Prop := LD d ∧ LM m ∧ ∃ (K L : Nat) (β : Nat → Nat) (γ : Nat → Nat × Nat), Bd n K β ∧ β 0 = 0 ∧ L ≤ 60 ∧ 1 ≤ L ∧ d.2.2.2.2.2.1.toInt = (L : Nat) ∧ at' d.1 0 = 0 ∧ at' d.2.1 0 = df s ∧ Tree s β K d m γ L ∧ ((K = 0 ∧ d.2.2.2.2.2.2 = 0) ∨ (0 < K ∧ Kid γ L 0 d.2.2.2.2.2.2 0 (K - 1)))
theorem run_ok {c : CT} {s : CT} {f : FT} {p : PT} {k : KT} {d : DT} {m : MT} {b : BT} {o : Ob} (h : A o = (c, s, f, p, k, d, m, b)) {T : Int} {n : Nat} (S : Sw T n s) (C : Cde s n d m) (x : Int32) : okP (F19 o x) (fun r => Rv s 0 n x.toInt r) := by
 obtain ⟨D, M, K, L, β, γ, B, b0, l60, L1, hL, r0, r1, Tr, root⟩ := C
 have z64 : (64 : Int32).toInt = 64 := rfl
 have z0 : (0 : Int32).toInt = 0 := rfl
 have dl := D.1
 have d2 := D.2.1
 unfold F19
 rw [g_rootPc h]
 apply okP.bind
 refine okP.mono (P := fun r => Rv s 0 n x.toInt r) ?_ (fun r hr => okP.some hr)
 rcases root with ⟨K0, rp⟩ | ⟨K0, q, q1, q2, q3, q4⟩
 ·have n0 : n = 0 := by rw [← B.1, K0]; exact b0
  have cl : (fxM o).toInt = L := by rw [g_codeLen h]; exact hL
  have head2 : B19_7 o x (0, 0) = some (.inl (df s)) := by
   unfold B19_7
   simp only
   rw [if_pos (by decide), if_neg (by decide), if_pos (by rw [i_lt, cl, z0]; omega), g_opc h, ag (a := 0) rfl (by omega), Option.bind_some, if_pos r0, g_argA h, ag (a := 0) rfl (by omega), Option.bind_some, r1]
  rw [rp]
  refine ⟨df s, by show loopN _ (3999 + 1) _ = _; simp only [loopN, head2], Or.inr ⟨fun i h1 h2 => absurd h2 (by omega), rfl⟩⟩
 ·have := run_in h S D M B l60 hL r0 r1 L1 Tr x (L - q) q _ 0 qN rfl (by show _ < 4000; omega) q1 (by omega) q3 (by decide) (by rw [z0]; omega)
  rw [q4] at this
  simp only at this
  rw [b0, show K - 1 + 1 = K by omega, B.1] at this
  exact this

theorem w_code {c : CT} {s : CT} {f : FT} {p : PT} {k : KT} {d : DT} {m : MT} {b : BT} {o : Ob} (h : A o = (c, s, f, p, k, d, m, b)) (u1 u2 u3 u4 u5 : List Int32) (N : Int32) : A (sxM (sm (si (sh (sf (sd o u1) u2) u3) u4) u5) N) = (c, s, f, p, k, (u1, u2, u3, u4, u5, N, d.2.2.2.2.2.2), m, b) := by
 have : A (sxM (sm (si (sh (sf (sd o u1) u2) u3) u4) u5) N) = ((A o).1, (A o).2.1, (A o).2.2.1, (A o).2.2.2.1, (A o).2.2.2.2.1, (u1, u2, u3, u4, u5, N, (A o).2.2.2.2.2.1.2.2.2.2.2.2), (A o).2.2.2.2.2.2) := by dsimp only [A, fA, fB, fC, fD, fE, fF, fG, fH, fI, fJ, fK, fL, fM, fN, fR, fT, fU, fV, fW, fX, fY, fZ, fd, ff, fh, fi, fm, fq, fu, fy, fz, fxA, fxB, fxC, fxD, fxE, fxF, fxG, fxH, fxI, fxJ, fxK, fxL, fxM, fxN, fxO, fxP, fxQ, sA, sB, sC, sD, sE, sF, sG, sH, sI, sJ, sK, sL, sM, sN, sR, sT, sU, sV, sW, sX, sY, sZ, sd, sf, sh, si, sm, sq, su, sy, sz, sxA, sxB, sxC, sxD, sxE, sxF, sxG, sxH, sxI, sxJ, sxK, sxL, sxM, sxN, sxO, sxP, sxQ]
 rw [this, h]
theorem w_argB {c : CT} {s : CT} {f : FT} {p : PT} {k : KT} {d : DT} {m : MT} {b : BT} {o : Ob} (h : A o = (c, s, f, p, k, d, m, b)) (u : List Int32) : A (sh o u) = (c, s, f, p, k, (d.1, d.2.1, u, d.2.2.2), m, b) := by
 have : A (sh o u) = ((A o).1, (A o).2.1, (A o).2.2.1, (A o).2.2.2.1, (A o).2.2.2.2.1, ((A o).2.2.2.2.2.1.1, (A o).2.2.2.2.2.1.2.1, u, (A o).2.2.2.2.2.1.2.2.2), (A o).2.2.2.2.2.2) := by dsimp only [A, fA, fB, fC, fD, fE, fF, fG, fH, fI, fJ, fK, fL, fM, fN, fR, fT, fU, fV, fW, fX, fY, fZ, fd, ff, fh, fi, fm, fq, fu, fy, fz, fxA, fxB, fxC, fxD, fxE, fxF, fxG, fxH, fxI, fxJ, fxK, fxL, fxM, fxN, fxO, fxP, fxQ, sA, sB, sC, sD, sE, sF, sG, sH, sI, sJ, sK, sL, sM, sN, sR, sT, sU, sV, sW, sX, sY, sZ, sd, sf, sh, si, sm, sq, su, sy, sz, sxA, sxB, sxC, sxD, sxE, sxF, sxG, sxH, sxI, sxJ, sxK, sxL, sxM, sxN, sxO, sxP, sxQ]
 rw [this, h]
theorem w_argC {c : CT} {s : CT} {f : FT} {p : PT} {k : KT} {d : DT} {m : MT} {b : BT} {o : Ob} (h : A o = (c, s, f, p, k, d, m, b)) (u : List Int32) : A (si o u) = (c, s, f, p, k, (d.1, d.2.1, d.2.2.1, u, d.2.2.2.2), m, b) := by
 have : A (si o u) = ((A o).1, (A o).2.1, (A o).2.2.1, (A o).2.2.2.1, (A o).2.2.2.2.1, ((A o).2.2.2.2.2.1.1, (A o).2.2.2.2.2.1.2.1, (A o).2.2.2.2.2.1.2.2.1, u, (A o).2.2.2.2.2.1.2.2.2.2), (A o).2.2.2.2.2.2) := by dsimp only [A, fA, fB, fC, fD, fE, fF, fG, fH, fI, fJ, fK, fL, fM, fN, fR, fT, fU, fV, fW, fX, fY, fZ, fd, ff, fh, fi, fm, fq, fu, fy, fz, fxA, fxB, fxC, fxD, fxE, fxF, fxG, fxH, fxI, fxJ, fxK, fxL, fxM, fxN, fxO, fxP, fxQ, sA, sB, sC, sD, sE, sF, sG, sH, sI, sJ, sK, sL, sM, sN, sR, sT, sU, sV, sW, sX, sY, sZ, sd, sf, sh, si, sm, sq, su, sy, sz, sxA, sxB, sxC, sxD, sxE, sxF, sxG, sxH, sxI, sxJ, sxK, sxL, sxM, sxN, sxO, sxP, sxQ]
 rw [this, h]
theorem w_root {c : CT} {s : CT} {f : FT} {p : PT} {k : KT} {d : DT} {m : MT} {b : BT} {o : Ob} (h : A o = (c, s, f, p, k, d, m, b)) (u : Int32) : A (sxN o u) = (c, s, f, p, k, (d.1, d.2.1, d.2.2.1, d.2.2.2.1, d.2.2.2.2.1, d.2.2.2.2.2.1, u), m, b) := by
 have : A (sxN o u) = ((A o).1, (A o).2.1, (A o).2.2.1, (A o).2.2.2.1, (A o).2.2.2.2.1, ((A o).2.2.2.2.2.1.1, (A o).2.2.2.2.2.1.2.1, (A o).2.2.2.2.2.1.2.2.1, (A o).2.2.2.2.2.1.2.2.2.1, (A o).2.2.2.2.2.1.2.2.2.2.1, (A o).2.2.2.2.2.1.2.2.2.2.2.1, u), (A o).2.2.2.2.2.2) := by dsimp only [A, fA, fB, fC, fD, fE, fF, fG, fH, fI, fJ, fK, fL, fM, fN, fR, fT, fU, fV, fW, fX, fY, fZ, fd, ff, fh, fi, fm, fq, fu, fy, fz, fxA, fxB, fxC, fxD, fxE, fxF, fxG, fxH, fxI, fxJ, fxK, fxL, fxM, fxN, fxO, fxP, fxQ, sA, sB, sC, sD, sE, sF, sG, sH, sI, sJ, sK, sL, sM, sN, sR, sT, sU, sV, sW, sX, sY, sZ, sd, sf, sh, si, sm, sq, su, sy, sz, sxA, sxB, sxC, sxD, sxE, sxF, sxG, sxH, sxI, sxJ, sxK, sxL, sxM, sxN, sxO, sxP, sxQ]
 rw [this, h]
theorem w_st {c : CT} {s : CT} {f : FT} {p : PT} {k : KT} {d : DT} {m : MT} {b : BT} {o : Ob} (h : A o = (c, s, f, p, k, d, m, b)) (u1 u2 u3 u4 : List Int32) (N : Int32) : A (sxQ (sxC (sxB (sxA (sz o u1) u2) u3) u4) N) = (c, s, f, p, k, d, m, (u1, u2, u3, u4, N)) := by
 have : A (sxQ (sxC (sxB (sxA (sz o u1) u2) u3) u4) N) = ((A o).1, (A o).2.1, (A o).2.2.1, (A o).2.2.2.1, (A o).2.2.2.2.1, (A o).2.2.2.2.2.1, (A o).2.2.2.2.2.2.1, (u1, u2, u3, u4, N)) := by dsimp only [A, fA, fB, fC, fD, fE, fF, fG, fH, fI, fJ, fK, fL, fM, fN, fR, fT, fU, fV, fW, fX, fY, fZ, fd, ff, fh, fi, fm, fq, fu, fy, fz, fxA, fxB, fxC, fxD, fxE, fxF, fxG, fxH, fxI, fxJ, fxK, fxL, fxM, fxN, fxO, fxP, fxQ, sA, sB, sC, sD, sE, sF, sG, sH, sI, sJ, sK, sL, sM, sN, sR, sT, sU, sV, sW, sX, sY, sZ, sd, sf, sh, si, sm, sq, su, sy, sz, sxA, sxB, sxC, sxD, sxE, sxF, sxG, sxH, sxI, sxJ, sxK, sxL, sxM, sxN, sxO, sxP, sxQ]
 rw [this, h]
theorem w_sp {c : CT} {s : CT} {f : FT} {p : PT} {k : KT} {d : DT} {m : MT} {b : BT} {o : Ob} (h : A o = (c, s, f, p, k, d, m, b)) (N : Int32) : A (sxQ o N) = (c, s, f, p, k, d, m, (b.1, b.2.1, b.2.2.1, b.2.2.2.1, N)) := by
 have : A (sxQ o N) = ((A o).1, (A o).2.1, (A o).2.2.1, (A o).2.2.2.1, (A o).2.2.2.2.1, (A o).2.2.2.2.2.1, (A o).2.2.2.2.2.2.1, ((A o).2.2.2.2.2.2.2.1, (A o).2.2.2.2.2.2.2.2.1, (A o).2.2.2.2.2.2.2.2.2.1, (A o).2.2.2.2.2.2.2.2.2.2.1, N)) := by dsimp only [A, fA, fB, fC, fD, fE, fF, fG, fH, fI, fJ, fK, fL, fM, fN, fR, fT, fU, fV, fW, fX, fY, fZ, fd, ff, fh, fi, fm, fq, fu, fy, fz, fxA, fxB, fxC, fxD, fxE, fxF, fxG, fxH, fxI, fxJ, fxK, fxL, fxM, fxN, fxO, fxP, fxQ, sA, sB, sC, sD, sE, sF, sG, sH, sI, sJ, sK, sL, sM, sN, sR, sT, sU, sV, sW, sX, sY, sZ, sd, sf, sh, si, sm, sq, su, sy, sz, sxA, sxB, sxC, sxD, sxE, sxF, sxG, sxH, sxI, sxJ, sxK, sxL, sxM, sxN, sxO, sxP, sxQ]
 rw [this, h]
theorem w_mask {c : CT} {s : CT} {f : FT} {p : PT} {k : KT} {d : DT} {m : MT} {b : BT} {o : Ob} (h : A o = (c, s, f, p, k, d, m, b)) (u : List Int64) : A (su o u) = (c, s, f, p, k, d, (u, m.2), b) := by
 have : A (su o u) = ((A o).1, (A o).2.1, (A o).2.2.1, (A o).2.2.2.1, (A o).2.2.2.2.1, (A o).2.2.2.2.2.1, (u, (A o).2.2.2.2.2.2.1.2), (A o).2.2.2.2.2.2.2) := by dsimp only [A, fA, fB, fC, fD, fE, fF, fG, fH, fI, fJ, fK, fL, fM, fN, fR, fT, fU, fV, fW, fX, fY, fZ, fd, ff, fh, fi, fm, fq, fu, fy, fz, fxA, fxB, fxC, fxD, fxE, fxF, fxG, fxH, fxI, fxJ, fxK, fxL, fxM, fxN, fxO, fxP, fxQ, sA, sB, sC, sD, sE, sF, sG, sH, sI, sJ, sK, sL, sM, sN, sR, sT, sU, sV, sW, sX, sY, sZ, sd, sf, sh, si, sm, sq, su, sy, sz, sxA, sxB, sxC, sxD, sxE, sxF, sxG, sxH, sxI, sxJ, sxK, sxL, sxM, sxN, sxO, sxP, sxQ]
 rw [this, h]
theorem w_mtgt {c : CT} {s : CT} {f : FT} {p : PT} {k : KT} {d : DT} {m : MT} {b : BT} {o : Ob} (h : A o = (c, s, f, p, k, d, m, b)) (u : List Int32) : A (sy o u) = (c, s, f, p, k, d, (m.1, u, m.2.2), b) := by
 have : A (sy o u) = ((A o).1, (A o).2.1, (A o).2.2.1, (A o).2.2.2.1, (A o).2.2.2.2.1, (A o).2.2.2.2.2.1, ((A o).2.2.2.2.2.2.1.1, u, (A o).2.2.2.2.2.2.1.2.2), (A o).2.2.2.2.2.2.2) := by dsimp only [A, fA, fB, fC, fD, fE, fF, fG, fH, fI, fJ, fK, fL, fM, fN, fR, fT, fU, fV, fW, fX, fY, fZ, fd, ff, fh, fi, fm, fq, fu, fy, fz, fxA, fxB, fxC, fxD, fxE, fxF, fxG, fxH, fxI, fxJ, fxK, fxL, fxM, fxN, fxO, fxP, fxQ, sA, sB, sC, sD, sE, sF, sG, sH, sI, sJ, sK, sL, sM, sN, sR, sT, sU, sV, sW, sX, sY, sZ, sd, sf, sh, si, sm, sq, su, sy, sz, sxA, sxB, sxC, sxD, sxE, sxF, sxG, sxH, sxI, sxJ, sxK, sxL, sxM, sxN, sxO, sxP, sxQ]
 rw [this, h]
theorem w_mu {c : CT} {s : CT} {f : FT} {p : PT} {k : KT} {d : DT} {m : MT} {b : BT} {o : Ob} (h : A o = (c, s, f, p, k, d, m, b)) (u : Int32) : A (sxP o u) = (c, s, f, p, k, d, (m.1, m.2.1, u), b) := by
 have : A (sxP o u) = ((A o).1, (A o).2.1, (A o).2.2.1, (A o).2.2.2.1, (A o).2.2.2.2.1, (A o).2.2.2.2.2.1, ((A o).2.2.2.2.2.2.1.1, (A o).2.2.2.2.2.2.1.2.1, u), (A o).2.2.2.2.2.2.2) := by dsimp only [A, fA, fB, fC, fD, fE, fF, fG, fH, fI, fJ, fK, fL, fM, fN, fR, fT, fU, fV, fW, fX, fY, fZ, fd, ff, fh, fi, fm, fq, fu, fy, fz, fxA, fxB, fxC, fxD, fxE, fxF, fxG, fxH, fxI, fxJ, fxK, fxL, fxM, fxN, fxO, fxP, fxQ, sA, sB, sC, sD, sE, sF, sG, sH, sI, sJ, sK, sL, sM, sN, sR, sT, sU, sV, sW, sX, sY, sZ, sd, sf, sh, si, sm, sq, su, sy, sz, sxA, sxB, sxC, sxD, sxE, sxF, sxG, sxH, sxI, sxJ, sxK, sxL, sxM, sxN, sxO, sxP, sxQ]
 rw [this, h]
theorem w_cln {c : CT} {s : CT} {f : FT} {p : PT} {k : KT} {d : DT} {m : MT} {b : BT} {o : Ob} (h : A o = (c, s, f, p, k, d, m, b)) : A (sxQ (sxP (sxO (sxM o 0) 0) 0) 0) = (c, s, (f.1, f.2.1, f.2.2.1, 0), p, k, (d.1, d.2.1, d.2.2.1, d.2.2.2.1, d.2.2.2.2.1, 0, d.2.2.2.2.2.2), (m.1, m.2.1, 0), (b.1, b.2.1, b.2.2.1, b.2.2.2.1, 0)) := by
 have : A (sxQ (sxP (sxO (sxM o 0) 0) 0) 0) = ((A o).1, (A o).2.1, ((A o).2.2.1.1, (A o).2.2.1.2.1, (A o).2.2.1.2.2.1, 0), (A o).2.2.2.1, (A o).2.2.2.2.1, ((A o).2.2.2.2.2.1.1, (A o).2.2.2.2.2.1.2.1, (A o).2.2.2.2.2.1.2.2.1, (A o).2.2.2.2.2.1.2.2.2.1, (A o).2.2.2.2.2.1.2.2.2.2.1, 0, (A o).2.2.2.2.2.1.2.2.2.2.2.2), ((A o).2.2.2.2.2.2.1.1, (A o).2.2.2.2.2.2.1.2.1, 0), ((A o).2.2.2.2.2.2.2.1, (A o).2.2.2.2.2.2.2.2.1, (A o).2.2.2.2.2.2.2.2.2.1, (A o).2.2.2.2.2.2.2.2.2.2.1, 0)) := by dsimp only [A, fA, fB, fC, fD, fE, fF, fG, fH, fI, fJ, fK, fL, fM, fN, fR, fT, fU, fV, fW, fX, fY, fZ, fd, ff, fh, fi, fm, fq, fu, fy, fz, fxA, fxB, fxC, fxD, fxE, fxF, fxG, fxH, fxI, fxJ, fxK, fxL, fxM, fxN, fxO, fxP, fxQ, sA, sB, sC, sD, sE, sF, sG, sH, sI, sJ, sK, sL, sM, sN, sR, sT, sU, sV, sW, sX, sY, sZ, sd, sf, sh, si, sm, sq, su, sy, sz, sxA, sxB, sxC, sxD, sxE, sxF, sxG, sxH, sxI, sxJ, sxK, sxL, sxM, sxN, sxO, sxP, sxQ]
 rw [this, h]
theorem emit_m {c : CT} {s : CT} {f : FT} {p : PT} {k : KT} {d : DT} {m : MT} {b : BT} {o : Ob} (h : A o = (c, s, f, p, k, d, m, b)) (D : LD d) {L : Nat} (hL : d.2.2.2.2.2.1.toInt = (L : Nat)) (l160 : L < 160) {op a1 a2 a3 a4 : Int32} (o8 : (op.toInt8.toInt32).toInt8.toInt32 = op) : ∃ q N, F9 o op a1 a2 a3 a4 = some (d.2.2.2.2.2.1, q) ∧ N.toInt = ((L + 1 : Nat) : Int) ∧ A q = (c, s, f, p, k, (d.1.set L op, d.2.1.set L a1, d.2.2.1.set L a2, d.2.2.2.1.set L a3, d.2.2.2.2.1.set L a4, N, d.2.2.2.2.2.2), m, b) := by
 have z0 : (0 : Int32).toInt = 0 := rfl
 obtain ⟨d1, d2, d3, d4, d5⟩ := D
 have lo : ((fd o).length.toInt32).toInt = 160 := by rw [g_opc h, d1]; rfl
 have e1 : (d.2.2.2.2.2.1 + 1).toInt = d.2.2.2.2.2.1.toInt + 1 := inc1 (by omega)
 unfold F9
 rw [g_codeLen h, if_neg (by rw [i_lt, z0]; omega), if_pos (by rw [i_lt, lo]; omega), g_opc h, g_argA h, g_argB h, g_argC h, g_argD h, o8, aset_at hL (by omega), Option.bind_some, aset_at hL (by omega), Option.bind_some, aset_at hL (by omega), Option.bind_some, aset_at hL (by omega), Option.bind_some, aset_at hL (by omega), Option.bind_some]
 exact ⟨_, _, rfl, by omega, w_code h _ _ _ _ _ _⟩
def LS (b : BT) : Prop := b.1.length = 130 ∧ b.2.1.length = 130 ∧ b.2.2.1.length = 130 ∧ b.2.2.2.1.length = 130
theorem push_m {c : CT} {s : CT} {f : FT} {p : PT} {k : KT} {d : DT} {m : MT} {b : BT} {o : Ob} (h : A o = (c, s, f, p, k, d, m, b)) (B : LS b) {P : Nat} (hP : b.2.2.2.2.toInt = (P : Nat)) (l130 : P < 130) (a1 a2 a3 a4 : Int32) : ∃ q N, F30 o a1 a2 a3 a4 = some q ∧ N.toInt = ((P + 1 : Nat) : Int) ∧ A q = (c, s, f, p, k, d, m, (b.1.set P a1, b.2.1.set P a2, b.2.2.1.set P a3, b.2.2.2.1.set P a4, N)) := by
 have z0 : (0 : Int32).toInt = 0 := rfl
 obtain ⟨d1, d2, d3, d4⟩ := B
 have lo : ((fz o).length.toInt32).toInt = 130 := by rw [g_stLo h, d1]; rfl
 have e1 : (b.2.2.2.2 + 1).toInt = b.2.2.2.2.toInt + 1 := inc1 (by omega)
 unfold F30
 rw [g_sp h, if_neg (by rw [i_lt, z0]; omega), if_pos (by rw [i_lt, lo]; omega), g_stLo h, g_stHi h, g_stParent h, g_stSlot h, aset_at hP (by omega), Option.bind_some, aset_at hP (by omega), Option.bind_some, aset_at hP (by omega), Option.bind_some, aset_at hP (by omega), Option.bind_some]
 exact ⟨_, _, rfl, by omega, w_st h _ _ _ _ _⟩
theorem patch_m {c : CT} {s : CT} {f : FT} {p : PT} {k : KT} {d : DT} {m : MT} {b : BT} {o : Ob} (h : A o = (c, s, f, p, k, d, m, b)) (D : LD d) {L : Nat} (hL : d.2.2.2.2.2.1.toInt = (L : Nat)) (l160 : L ≤ 160) {x y z : Int32} : ∃ q, F35 o x y z = some q ∧ ((x.toInt < 0 → A q = (c, s, f, p, k, (d.1, d.2.1, d.2.2.1, d.2.2.2.1, d.2.2.2.2.1, d.2.2.2.2.2.1, z), m, b)) ∧ ∀ j : Nat, x.toInt = j → j < L → (y = 0 → A q = (c, s, f, p, k, (d.1, d.2.1, d.2.2.1.set j z, d.2.2.2), m, b)) ∧ (y ≠ 0 → A q = (c, s, f, p, k, (d.1, d.2.1, d.2.2.1, d.2.2.2.1.set j z, d.2.2.2.2), m, b))) := by
 have z0 : (0 : Int32).toInt = 0 := rfl
 obtain ⟨d1, d2, d3, d4, d5⟩ := D
 unfold F35 J35_12
 by_cases x0 : x < 0
 ·rw [if_pos x0]
  rw [i_lt, z0] at x0
  exact ⟨_, rfl, fun _ => w_root h z, fun j hj _ => by omega⟩
 rw [if_neg x0]
 rw [i_lt, z0] at x0
 rw [g_codeLen h]
 by_cases x1 : x < d.2.2.2.2.2.1
 ·rw [if_pos x1]
  rw [i_lt] at x1
  obtain ⟨j, hj⟩ : ∃ j : Nat, x.toInt = j := ⟨x.toInt.toNat, by omega⟩
  by_cases y0 : y = 0
  ·rw [if_pos y0, g_argB h, aset_at hj (by omega), Option.bind_some]
   refine ⟨_, rfl, fun w => absurd w (by omega), fun j' hj' _ => ⟨fun _ => ?_, fun w => absurd y0 w⟩⟩
   have : j' = j := by omega
   subst this
   exact w_argB h _
  ·rw [if_neg y0, g_argC h, aset_at hj (by omega), Option.bind_some]
   refine ⟨_, rfl, fun w => absurd w (by omega), fun j' hj' _ => ⟨fun w => absurd w y0, fun _ => ?_⟩⟩
   have : j' = j := by omega
   subst this
   exact w_argC h _
 ·rw [if_neg x1]
  rw [i_lt] at x1
  exact ⟨_, rfl, fun w => absurd w (by omega), fun j' hj' w => by omega⟩
def Few (T : Int) (n : Nat) : Prop := (T ≤ 4 ∨ n ≤ 3) ∧ T ≤ 16
theorem dist_ok {c : CT} {s : CT} {f : FT} {p : PT} {k : KT} {d : DT} {m : MT} {b : BT} {o : Ob} (h : A o = (c, s, f, p, k, d, m, b)) {T : Int} {n a e : Nat} (S : Sw T n s) (F : Few T n) (ae : a ≤ e) (en : e < n) {x y : Int32} (hx : x.toInt = a) (hy : y.toInt = e) : okP (F32 o x y) (fun r => r.toInt ≤ 3) := by
 have n64 := S.2.2.1
 have dd0 := S.2.2.2.2.2.2.1
 have dd1 := S.2.2.2.2.2.2.2
 unfold F32
 apply okP.bind
 refine okP.mono (P := fun r : Int32 => r.toInt ≤ 3) ?_ (fun r hr => okP.some hr)
 refine okP.loop (fun w : Int32 × Int32 × Int32 => ∃ i : Nat, w.2.2.toInt = (i : Int) ∧ a ≤ i ∧ i ≤ n ∧ (T ≤ 4 → Q4 (df s) w.1 w.2.1) ∧ (n ≤ 3 → 0 ≤ w.2.1.toInt ∧ w.2.1.toInt ≤ i - a)) (fun w => (100 - w.2.2.toInt).toNat) ⟨a, hx, Nat.le_refl _, by omega, fun _ => Q4.zero _, fun _ => by show (0 : Int) ≤ 0 ∧ (0 : Int) ≤ _; omega⟩ (by show (100 - x.toInt).toNat < 4000; omega) ?_
 rintro ⟨se, di, z⟩ ⟨i, hi, ai, iN, H4, H3⟩
 simp only at hi H4 H3
 have fin : di.toInt ≤ 3 := by
  rcases F.1 with w | w
  ·exact (H4 w).top dd0 (by have : (df s).toInt < T := dd1; omega)
  ·have := H3 w; omega
 unfold B32_8
 simp only
 refine okP.ite (fun _ => okP.some fin) (fun c1 => ?_)
 rw [g_snapCount h]
 refine okP.ite (fun c2 => ?_) (fun _ => okP.some fin)
 rw [i_lt, S.2.2.2.1] at c2
 have ez : (z + 1).toInt = z.toInt + 1 := inc1 (by omega)
 rw [g_snapTgt h, S.a_t (by omega) hi, Option.bind_some, g_snapDefault h]
 have ti := S.2.2.2.2.2.1 i (by omega)
 refine okP.some ⟨⟨i + 1, by simp only; omega, by omega, by omega, fun w => ?_, fun w => ?_⟩, by simp only; omega⟩
 ·exact (H4 w).step dd0 (by have : (df s).toInt < T := dd1; omega) ti.1 (by omega)
 ·simp only
  have := H3 w
  have ed : (di + 1).toInt = di.toInt + 1 := inc1 (by omega)
  by_cases e1 : tt' s i = s.2.2.2.1
  ·rw [if_pos e1]; omega
  ·rw [if_neg e1]
   split
   ·omega
   ·omega
theorem find_ok {c : CT} {s : CT} {f : FT} {p : PT} {k : KT} {d : DT} {m : MT} {b : BT} {o : Ob} (h : A o = (c, s, f, p, k, d, m, b)) (M : LM m) {base used : Nat} (bu : base + used ≤ 190) {x y t : Int32} (hx : x.toInt = base) (hy : y.toInt = used) : okP (F34 o x y t) (fun r => (r = -1 ∧ ∀ j, j < used → at' m.2.1 (base + j) ≠ t) ∨ ∃ j, j < used ∧ at' m.2.1 (base + j) = t ∧ r.toInt = ((base + j : Nat) : Int)) := by
 have z0 : (0 : Int32).toInt = 0 := rfl
 have l2 := M.2.1
 have lo : ((fy o).length.toInt32).toInt = 192 := by rw [g_maskTarget h, l2]; rfl
 unfold F34
 apply okP.bind
 refine okP.mono (P := fun r => (r = -1 ∧ ∀ j, j < used → at' m.2.1 (base + j) ≠ t) ∨ ∃ j, j < used ∧ at' m.2.1 (base + j) = t ∧ r.toInt = ((base + j : Nat) : Int)) ?_ (fun r hr => okP.some hr)
 refine okP.loop (fun w : Int32 => ∃ j : Nat, w.toInt = (j : Int) ∧ j ≤ used ∧ ∀ j', j' < j → at' m.2.1 (base + j') ≠ t) (fun w => (200 - w.toInt).toNat) ⟨0, rfl, by omega, fun j hj => absurd hj (by omega)⟩ (by show (200 - (0 : Int)).toNat < 4000; decide) ?_
 rintro w ⟨j, hj, ju, hm⟩
 unfold B34_3
 have ew : (w + 1).toInt = w.toInt + 1 := inc1 (by omega)
 have ebw : (x + w).toInt = x.toInt + w.toInt := i_add (by omega) (by omega)
 refine okP.ite (fun c2 => ?_) (fun c2 => ?_)
 ·rw [i_lt] at c2
  rw [if_neg (by rw [i_lt, z0]; omega), if_pos (by rw [i_lt, lo]; omega), g_maskTarget h, ag (a := base + j) (by omega) (by omega), Option.bind_some]
  refine okP.ite (fun e => ?_) (fun e => ?_)
  ·exact okP.some (Or.inr ⟨j, by omega, e, by omega⟩)
  ·unfold J34_44
   refine okP.some ⟨⟨j + 1, by omega, by omega, fun j' hj' => ?_⟩, by omega⟩
   by_cases z : j' = j
   ·rw [z]; exact e
   ·exact hm j' (by omega)
 ·rw [i_lt] at c2
  exact okP.some (Or.inl ⟨rfl, fun j' hj' => hm j' (by omega)⟩)
theorem bits_e {c : CT} {s : CT} {f : FT} {p : PT} {k : KT} {d : DT} {m : MT} {b : BT} {o : Ob} (h : A o = (c, s, f, p, k, d, m, b)) {T : Int} {n a e : Nat} (S : Sw T n s) (F : Few T n) (ae : a < e) (en : e < n) (h64 : vv s e - vv s a + 1 ≤ 64) (D : LD d) (M : LM m) {L base : Nat} (hL : d.2.2.2.2.2.1.toInt = (L : Nat)) (l160 : L < 160) (hb : m.2.2.toInt = (base : Nat)) (b150 : base ≤ 150) {x y z : Int32} (hx : x.toInt = a) (hy : y.toInt = e) (hz : z.toInt = vv s e - vv s a + 1) : okP (F33 o x y z) (fun w => w.1 = d.2.2.2.2.2.1 ∧ ∃ (m' : MT) (used : Nat) (x1 x2 x3 N : Int32), N.toInt = ((L + 1 : Nat) : Int) ∧ A w.2 = (c, s, f, p, k, (d.1.set L 4, d.2.1.set L x1, d.2.2.1.set L x2, d.2.2.2.1.set L x3, d.2.2.2.2.1.set L z, N, d.2.2.2.2.2.2), m', b) ∧ x1.toInt = vv s a ∧ x2.toInt = (base : Nat) ∧ x3.toInt = (used : Nat) ∧ used ≤ 3 ∧ LM m' ∧ m'.2.2.toInt = ((base + used : Nat) : Int) ∧ Msk s m' a (e + 1) base used ∧ ∀ j, j < base → am m'.1 j = am m.1 j ∧ at' m'.2.1 j = at' m.2.1 j) := by
 have z0 : (0 : Int32).toInt = 0 := rfl
 have z3 : (3 : Int32).toInt = 3 := rfl
 have n64 := S.2.2.1
 have dd0 : 0 ≤ (df s).toInt := S.2.2.2.2.2.2.1
 have dd1 : (df s).toInt < T := S.2.2.2.2.2.2.2
 unfold F33
 rw [g_snapVal h, S.a_v (by omega) hx, Option.bind_some, g_maskUsed h]
 apply okP.bind
 refine okP.mono (P := fun w : Int32 × Ob => ∃ (m' : MT) (used : Nat), w.1.toInt = (used : Nat) ∧ used ≤ 3 ∧ A w.2 = (c, s, f, p, k, d, m', b) ∧ LM m' ∧ Msk s m' a (e + 1) base used ∧ ∀ j, j < base → am m'.1 j = am m.1 j ∧ at' m'.2.1 j = at' m.2.1 j) ?_ ?_
 ·refine okP.loop (fun w : Int32 × Int32 × Ob => ∃ (i used : Nat) (m' : MT), w.2.1.toInt = (i : Int) ∧ a ≤ i ∧ i ≤ e + 1 ∧ w.1.toInt = (used : Nat) ∧ used ≤ 3 ∧ used ≤ i - a ∧ A w.2.2 = (c, s, f, p, k, d, m', b) ∧ LM m' ∧ m'.2.2 = m.2.2 ∧ Msk s m' a i base used ∧ ∀ j, j < base → am m'.1 j = am m.1 j ∧ at' m'.2.1 j = at' m.2.1 j) (fun w => (100 - w.2.1.toInt).toNat) ⟨a, 0, m, hx, Nat.le_refl _, by omega, rfl, by omega, by omega, h, M, rfl, ⟨fun j hj => absurd hj (by omega), fun i h1 h2 => absurd h2 (by omega), fun j hj => absurd hj (by omega), fun j j' hj => absurd hj (by omega)⟩, fun _ _ => ⟨rfl, rfl⟩⟩ (by show (100 - x.toInt).toNat < 4000; omega) ?_
  rintro ⟨uw, iw, q⟩ ⟨i, used, m', hi, ai, ie, hu, u3, ui, hq, M', mu, K, old⟩
  simp only at hi hu hq
  unfold B33_20
  simp only
  rw [g_snapCount hq]
  refine okP.ite (fun c1 => ?_) (fun c1 => ?_)
  ·rw [i_lt] at c1
   have : i = e + 1 := by omega
   subst this
   exact okP.some ⟨m', used, hu, u3, hq, M', K, old⟩
  rw [i_lt] at c1
  rw [if_pos (by rw [i_lt, S.2.2.2.1]; omega)]
  have ei : (iw + 1).toInt = iw.toInt + 1 := inc1 (by omega)
  have ti := S.2.2.2.2.2.1 i (by omega)
  rw [g_snapTgt hq, S.a_t (by omega) hi, Option.bind_some, g_snapDefault hq]
  obtain ⟨K1, K2, K3, K4⟩ := id K
  have done : ∀ (q' : Ob) (m2 : MT) (u2 : Nat) (uw2 : Int32), uw2.toInt = (u2 : Nat) → u2 ≤ 3 → u2 ≤ i + 1 - a → A q' = (c, s, f, p, k, d, m2, b) → LM m2 → m2.2.2 = m.2.2 → Msk s m2 a (i + 1) base u2 → (∀ j, j < base → am m2.1 j = am m.1 j ∧ at' m2.2.1 j = at' m.2.1 j) → okP (J33_151 q' y z (at' s.1 a) m.2.2 uw2 iw) (fun r' => Sum.elim (fun w : Int32 × Ob => ∃ (m' : MT) (used : Nat), w.1.toInt = (used : Nat) ∧ used ≤ 3 ∧ A w.2 = (c, s, f, p, k, d, m', b) ∧ LM m' ∧ Msk s m' a (e + 1) base used ∧ ∀ j, j < base → am m'.1 j = am m.1 j ∧ at' m'.2.1 j = at' m.2.1 j) (fun w : Int32 × Int32 × Ob => (∃ (i used : Nat) (m' : MT), w.2.1.toInt = (i : Int) ∧ a ≤ i ∧ i ≤ e + 1 ∧ w.1.toInt = (used : Nat) ∧ used ≤ 3 ∧ used ≤ i - a ∧ A w.2.2 = (c, s, f, p, k, d, m', b) ∧ LM m' ∧ m'.2.2 = m.2.2 ∧ Msk s m' a i base used ∧ ∀ j, j < base → am m'.1 j = am m.1 j ∧ at' m'.2.1 j = at' m.2.1 j) ∧ (100 - w.2.1.toInt).toNat < (100 - iw.toInt).toNat) r') := by
   intro q' m2 u2 uw2 k1 k2 k3 k4 k5 k6 k7 k8
   unfold J33_151
   exact okP.some ⟨⟨i + 1, u2, m2, by simp only; omega, by omega, by omega, k1, k2, k3, k4, k5, k6, k7, k8⟩, by simp only; omega⟩
  refine okP.ite (fun td => ?_) (fun td => ?_)
  ·-- the default's own: no mask
   refine done q m' used uw hu u3 (by omega) hq M' mu ⟨fun j hj n hn => ?_, fun i' h1 h2 h3 => ?_, fun j hj => ?_, K4⟩ old
   ·rw [K1 j hj n hn]
    constructor
    ·rintro ⟨i', a1, a2, a3⟩; exact ⟨i', a1, by omega, a3⟩
    ·rintro ⟨i', a1, a2, a3, a4⟩
     refine ⟨i', a1, ?_, a3, a4⟩
     by_cases w : i' = i
     ·subst w; exact absurd td a3
     ·omega
   ·by_cases w : i' = i
    ·subst w; exact absurd td h3
    ·exact K2 i' h1 (by omega) h3
   ·obtain ⟨i', a1, a2, a3⟩ := K3 j hj
    exact ⟨i', a1, by omega, a3⟩
  have td' : tt' s i ≠ df s := td
  have vmono : vv s a ≤ vv s i := by
   rcases Nat.eq_or_lt_of_le ai with w | w
   ·rw [w]; omega
   ·have := S.2.2.2.2.1 a i w (by omega); omega
  have vtop : vv s i ≤ vv s e := by
   by_cases w : i = e
   ·rw [w]; omega
   ·have := S.2.2.2.2.1 i e (by omega) (by omega); omega
  have put : ∀ (q' : Ob) (m2 : MT) (u2 j0 : Nat) (uw2 sw : Int32), uw2.toInt = (u2 : Nat) → u2 ≤ 3 → u2 ≤ i + 1 - a → A q' = (c, s, f, p, k, d, m2, b) → LM m2 → m2.2.2 = m.2.2 → j0 < u2 → sw.toInt = ((base + j0 : Nat) : Int) → at' m2.2.1 (base + j0) = tt' s i → (∀ j, j < u2 → ∀ n, n < 64 → (bt6 (am m2.1 (base + j)) n = true ↔ ∃ i', a ≤ i' ∧ i' < i ∧ tt' s i' ≠ df s ∧ tt' s i' = at' m2.2.1 (base + j) ∧ vv s i' = vv s a + n)) → (∀ i', a ≤ i' → i' < i → tt' s i' ≠ df s → ∃ j, j < u2 ∧ at' m2.2.1 (base + j) = tt' s i') → (∀ j, j < u2 → ∃ i', a ≤ i' ∧ i' < i + 1 ∧ at' m2.2.1 (base + j) = tt' s i' ∧ tt' s i' ≠ df s) → (∀ j j', j < u2 → j' < u2 → at' m2.2.1 (base + j) = at' m2.2.1 (base + j') → j = j') → (∀ j, j < base → am m2.1 j = am m.1 j ∧ at' m2.2.1 j = at' m.2.1 j) → okP (J33_120 q' y z (at' s.1 a) m.2.2 uw2 iw sw) (fun r' => Sum.elim (fun w : Int32 × Ob => ∃ (m' : MT) (used : Nat), w.1.toInt = (used : Nat) ∧ used ≤ 3 ∧ A w.2 = (c, s, f, p, k, d, m', b) ∧ LM m' ∧ Msk s m' a (e + 1) base used ∧ ∀ j, j < base → am m'.1 j = am m.1 j ∧ at' m'.2.1 j = at' m.2.1 j) (fun w : Int32 × Int32 × Ob => (∃ (i used : Nat) (m' : MT), w.2.1.toInt = (i : Int) ∧ a ≤ i ∧ i ≤ e + 1 ∧ w.1.toInt = (used : Nat) ∧ used ≤ 3 ∧ used ≤ i - a ∧ A w.2.2 = (c, s, f, p, k, d, m', b) ∧ LM m' ∧ m'.2.2 = m.2.2 ∧ Msk s m' a i base used ∧ ∀ j, j < base → am m'.1 j = am m.1 j ∧ at' m'.2.1 j = at' m.2.1 j) ∧ (100 - w.2.1.toInt).toNat < (100 - iw.toInt).toNat) r') := by
   intro q' m2 u2 j0 uw2 sw k1 k2 k3 hq' LM2 mu2 j0u hsw tg P1 P2 P3 P4 old2
   obtain ⟨lp, lt, _⟩ := id LM2
   unfold J33_120
   have ev : (at' s.1 i - at' s.1 a).toInt = vv s i - vv s a := i_sub (by show -2147483648 ≤ vv s i - vv s a; omega) (by show vv s i - vv s a < 2147483648; omega)
   obtain ⟨bn, hbn⟩ : ∃ bn : Nat, (at' s.1 i - at' s.1 a).toInt = bn := ⟨(vv s i - vv s a).toNat, by omega⟩
   have b64 : bn < 64 := by omega
   rw [if_neg (by rw [i_lt, z0]; omega), g_snapVal hq', S.a_v (by omega) hi, Option.bind_some, g_maskPool hq', agm hsw (by omega), Option.bind_some, aset_at hsw (by omega), Option.bind_some]
   have hw := w_mask hq' (m2.1.set (base + j0) (am m2.1 (base + j0) ||| ((1 : Int64) <<< ((at' s.1 i - at' s.1 a).toInt64 &&& 63))))
   refine done _ _ u2 uw2 k1 k2 k3 hw ⟨ls lp, lt, LM2.2.2⟩ mu2 ⟨fun j hj n hn => ?_, fun i' h1 h2 h3 => ?_, P3, P4⟩ (fun j hj => ?_)
   ·simp only
    rw [am_set (by omega)]
    by_cases w : j = j0
    ·subst w
     rw [if_pos rfl, bt6_or, bt6_one hbn b64 hn, Bool.or_eq_true, P1 j hj n hn, decide_eq_true_eq]
     constructor
     ·rintro (⟨i', a1, a2, a3, a4, a5⟩ | w)
      ·exact ⟨i', a1, by omega, a3, a4, a5⟩
      ·exact ⟨i, ai, by omega, td', tg.symm, by omega⟩
     ·rintro ⟨i', a1, a2, a3, a4, a5⟩
      by_cases w : i' = i
      ·subst w; right; omega
      ·exact Or.inl ⟨i', a1, by omega, a3, a4, a5⟩
    ·rw [if_neg (by omega), P1 j hj n hn]
     constructor
     ·rintro ⟨i', a1, a2, a3⟩; exact ⟨i', a1, by omega, a3⟩
     ·rintro ⟨i', a1, a2, a3, a4, a5⟩
      refine ⟨i', a1, ?_, a3, a4, a5⟩
      by_cases w' : i' = i
      ·subst w'
       exact absurd (P4 j j0 hj j0u (by rw [← a4, tg])) w
      ·omega
   ·by_cases w : i' = i
    ·subst w; exact ⟨j0, j0u, tg⟩
    ·exact P2 i' h1 (by omega) h3
   ·simp only
    rw [am_set (by omega), if_neg (by omega)]
    exact old2 j hj
  have hbase : m.2.2.toInt = (base : Nat) := hb
  apply okP.bind
  refine okP.mono (find_ok hq M' (base := base) (used := used) (by omega) hbase hu) ?_
  rintro r (⟨r1, nf⟩ | ⟨j0, j1, j2, j3⟩)
  ·-- a new target
   have u2 : used ≤ 2 := by
    rcases F.1 with w | w
    ·have := pig 4 (used + 2) (fun x => if x = used then (tt' s i).toInt.toNat else if x = used + 1 then (df s).toInt.toNat else (at' m'.2.1 (base + x)).toInt.toNat) (fun x hx => ?_) (fun x x' hx hx' e' => ?_)
     ·omega
     ·show (if x = used then (tt' s i).toInt.toNat else if x = used + 1 then (df s).toInt.toNat else (at' m'.2.1 (base + x)).toInt.toNat) < 4
      split
      ·omega
      ·split
       ·omega
       ·obtain ⟨i', a1, a2, a3, _⟩ := K3 x (by omega)
        have := S.2.2.2.2.2.1 i' (by omega)
        rw [a3]; omega
     ·have e' : (if x = used then (tt' s i).toInt.toNat else if x = used + 1 then (df s).toInt.toNat else (at' m'.2.1 (base + x)).toInt.toNat) = (if x' = used then (tt' s i).toInt.toNat else if x' = used + 1 then (df s).toInt.toNat else (at' m'.2.1 (base + x')).toInt.toNat) := e'
      have nn : ∀ x, x < used → 0 ≤ (at' m'.2.1 (base + x)).toInt ∧ (at' m'.2.1 (base + x)).toInt ≠ (df s).toInt ∧ (at' m'.2.1 (base + x)).toInt ≠ (tt' s i).toInt := by
       intro x hx
       obtain ⟨i', a1, a2, a3, a4⟩ := K3 x hx
       have := S.2.2.2.2.2.1 i' (by omega)
       refine ⟨by rw [a3]; omega, fun z => a4 (by rw [← a3]; exact i_eq.2 z), fun z => nf x hx (i_eq.2 z)⟩
      have tdn : (tt' s i).toInt ≠ (df s).toInt := fun z => td' (i_eq.2 z)
      by_cases c1 : x = used
      ·rw [if_pos c1] at e'
       by_cases c2 : x' = used
       ·omega
       ·rw [if_neg c2] at e'
        by_cases c3 : x' = used + 1
        ·rw [if_pos c3] at e'; omega
        ·rw [if_neg c3] at e'
         have := nn x' (by omega); omega
      ·rw [if_neg c1] at e'
       by_cases c1' : x = used + 1
       ·rw [if_pos c1'] at e'
        by_cases c2 : x' = used
        ·rw [if_pos c2] at e'; omega
        ·rw [if_neg c2] at e'
         by_cases c3 : x' = used + 1
         ·omega
         ·rw [if_neg c3] at e'
          have := nn x' (by omega); omega
       ·rw [if_neg c1'] at e'
        have n1 := nn x (by omega)
        by_cases c2 : x' = used
        ·rw [if_pos c2] at e'; omega
        ·rw [if_neg c2] at e'
         by_cases c3 : x' = used + 1
         ·rw [if_pos c3] at e'; omega
         ·rw [if_neg c3] at e'
          have n2 := nn x' (by omega)
          exact K4 x x' (by omega) (by omega) (i_eq.2 (by omega))
    ·omega
   have lo : ((fu q).length.toInt32).toInt = 192 := by rw [g_maskPool hq, M'.1]; rfl
   have eu : (uw + 1).toInt = uw.toInt + 1 := inc1 (by omega)
   have ebu : (m.2.2 + uw).toInt = m.2.2.toInt + uw.toInt := i_add (by omega) (by omega)
   have b8' := (b8 ti.1 (by have := F.2; omega)).1
   obtain ⟨lp, lt, lb1, lb2⟩ := id M'
   rw [r1, if_pos (by decide), if_pos (by rw [i_lt, z3]; omega), if_pos (by rw [i_lt, lo]; omega), g_maskTarget hq, g_maskPool hq, b8']
   generalize hsw : m.2.2 + uw = sw at ebu ⊢
   rw [aset_at (n := base + used) (by omega) (by omega), Option.bind_some, aset_at (n := base + used) (by omega) (by omega), Option.bind_some]
   have hw := w_mask (w_mtgt hq (m'.2.1.set (base + used) (tt' s i))) (m'.1.set (base + used) 0)
   have tE : ∀ j, at' (m'.2.1.set (base + used) (tt' s i)) (base + j) = if j = used then tt' s i else at' m'.2.1 (base + j) := by
    intro j
    rw [at_set (by omega)]
    by_cases w : j = used
    ·rw [if_pos (by omega), if_pos w]
    ·rw [if_neg (by omega), if_neg w]
   refine put _ _ (used + 1) used (uw + 1) sw (by omega) (by omega) (by omega) hw ⟨ls lp, ls lt, lb1, lb2⟩ mu (by omega) (by omega) (by simp only; rw [tE, if_pos rfl]) (fun j hj n hn => ?_) (fun i' h1 h2 h3 => ?_) (fun j hj => ?_) (fun j j' hj hj' e' => ?_) (fun j hj => ?_)
   ·simp only
    rw [tE, am_set (by omega)]
    by_cases w : j = used
    ·rw [if_pos (by omega), if_pos w, bt6_0]
     constructor
     ·intro z; exact absurd z (by decide)
     ·rintro ⟨i', a1, a2, a3, a4, a5⟩
      obtain ⟨j', j1, j2⟩ := K2 i' a1 a2 a3
      exact absurd (by rw [j2, a4]) (nf j' j1)
    ·rw [if_neg (by omega), if_neg w]
     exact K1 j (by omega) n hn
   ·obtain ⟨j, j1, j2⟩ := K2 i' h1 h2 h3
    refine ⟨j, by omega, ?_⟩
    simp only
    rw [tE, if_neg (by omega)]; exact j2
   ·simp only
    rw [tE]
    by_cases w : j = used
    ·rw [if_pos w]; exact ⟨i, ai, by omega, rfl, td'⟩
    ·rw [if_neg w]
     obtain ⟨i', a1, a2, a3⟩ := K3 j (by omega)
     exact ⟨i', a1, by omega, a3⟩
   ·simp only at e'
    rw [tE, tE] at e'
    by_cases w : j = used
    ·rw [if_pos w] at e'
     by_cases w' : j' = used
     ·omega
     ·rw [if_neg w'] at e'
      exact absurd e'.symm (nf j' (by omega))
    ·rw [if_neg w] at e'
     by_cases w' : j' = used
     ·rw [if_pos w'] at e'
      exact absurd e' (nf j (by omega))
     ·rw [if_neg w'] at e'
      exact K4 j j' (by omega) (by omega) e'
   ·simp only
    rw [at_set (by omega), if_neg (by omega), am_set (by omega), if_neg (by omega)]
    exact old j hj
  ·-- a target known
   rw [if_neg (by rw [i_lt, z0]; omega)]
   exact put q m' used j0 uw r hu u3 (by omega) hq M' mu j1 j3 j2 K1 K2 (fun j hj => by obtain ⟨i', a1, a2, a3⟩ := K3 j hj; exact ⟨i', a1, by omega, a3⟩) K4 old
 ·rintro ⟨uw, q⟩ ⟨m', used, hu, u3, hq, M', K, old⟩
  simp only at hu hq ⊢
  unfold J33_157
  have eb : (m.2.2 + uw).toInt = m.2.2.toInt + uw.toInt := i_add (by omega) (by omega)
  generalize m.2.2 + uw = sw at eb ⊢
  obtain ⟨q', N, e1, e2, e3⟩ := emit_m (w_mu hq sw) D hL l160 (op := 4) (a1 := at' s.1 a) (a2 := m.2.2) (a3 := uw) (a4 := z) (by decide)
  rw [e1, Option.bind_some]
  obtain ⟨lp, lt, lb1, lb2⟩ := M'
  refine okP.some ⟨rfl, _, used, at' s.1 a, m.2.2, uw, N, e2, e3, rfl, hb, hu, u3, ⟨lp, lt, by simp only; omega, by simp only; omega⟩, by simp only; omega, ?_, old⟩
  exact K.congr (m' := (m'.1, m'.2.1, sw)) (fun j _ => ⟨rfl, rfl⟩)

theorem Leaf.congr {s : CT} {d d' : DT} {m m' : MT} {a b pc : Nat} (L : Leaf s d m a b pc) (h1 : at' d'.1 pc = at' d.1 pc) (h2 : at' d'.2.1 pc = at' d.2.1 pc) (h3 : at' d'.2.2.1 pc = at' d.2.2.1 pc) (h4 : at' d'.2.2.2.1 pc = at' d.2.2.2.1 pc) (h5 : at' d'.2.2.2.2.1 pc = at' d.2.2.2.2.1 pc) (hm : ∀ j, j < m.2.2.toInt.toNat → am m'.1 j = am m.1 j ∧ at' m'.2.1 j = at' m.2.1 j) (hu : m.2.2.toInt.toNat ≤ m'.2.2.toInt.toNat) : Leaf s d' m' a b pc := by
 unfold Leaf gd at *
 rw [h1, h2, h3, h4, h5]
 rcases L with L | ⟨q1, q2, base, used, q3, q4, q5, q6, q7, q8, q9⟩
 ·exact Or.inl L
 ·exact Or.inr ⟨q1, q2, base, used, q3, q4, q5, by omega, q7, q8, q9.congr (fun j hj => hm j (by omega))⟩
theorem leaf_e {c : CT} {s : CT} {f : FT} {p : PT} {k : KT} {d : DT} {m : MT} {b : BT} {o : Ob} (h : A o = (c, s, f, p, k, d, m, b)) {T : Int} {n K a : Nat} {β : Nat → Nat} (S : Sw T n s) (F : Few T n) (C : Cls s n K β k) (ha : a < K) (D : LD d) (M : LM m) {L : Nat} (hL : d.2.2.2.2.2.1.toInt = (L : Nat)) (l160 : L < 160) (b150 : m.2.2.toInt ≤ 150) {x : Int32} (hx : x.toInt = a) : okP (F31 o x) (fun w => w.1 = d.2.2.2.2.2.1 ∧ ∃ (m' : MT) (op x1 x2 x3 x4 N : Int32), N.toInt = ((L + 1 : Nat) : Int) ∧ A w.2 = (c, s, f, p, k, (d.1.set L op, d.2.1.set L x1, d.2.2.1.set L x2, d.2.2.2.1.set L x3, d.2.2.2.2.1.set L x4, N, d.2.2.2.2.2.2), m', b) ∧ Leaf s (d.1.set L op, d.2.1.set L x1, d.2.2.1.set L x2, d.2.2.2.1.set L x3, d.2.2.2.2.1.set L x4, N, d.2.2.2.2.2.2) m' (β a) (β (a + 1)) L ∧ LM m' ∧ m.2.2.toInt ≤ m'.2.2.toInt ∧ m'.2.2.toInt ≤ m.2.2.toInt + 3 ∧ ∀ j, j < m.2.2.toInt.toNat → am m'.1 j = am m.1 j ∧ at' m'.2.1 j = at' m.2.1 j) := by
 have z0 : (0 : Int32).toInt = 0 := rfl
 have z3 : (3 : Int32).toInt = 3 := rfl
 have z64 : (64 : Int64).toInt = 64 := rfl
 have n64 := S.2.2.1
 obtain ⟨c1, c2, c3, Kn, b0, bK, hc⟩ := C
 obtain ⟨b1, b2, b3, b4, b5⟩ := hc a ha
 obtain ⟨d1, d2, d3, d4, d5⟩ := id D
 have hs : (at' k.1 a).toInt = (β a : Nat) := b3
 have he : (at' k.2.1 a).toInt = ((β (a + 1) - 1 : Nat) : Int) := by
  have : (at' k.2.1 a).toInt = (β (a + 1) : Int) - 1 := b4
  omega
 unfold F31
 rw [if_neg (by rw [i_lt, z0]; omega), if_pos (by rw [i_lt, g_clCount h]; omega), g_clStart h, ag hx (by omega), Option.bind_some, g_clEnd h, ag hx (by omega), Option.bind_some]
 generalize at' k.1 a = sv at hs ⊢
 generalize at' k.2.1 a = ev at he ⊢
 rw [if_neg (by rw [i_lt, z0]; omega), if_pos (by rw [i_lt, g_snapCount h, S.2.2.2.1]; omega), if_neg (by rw [i_lt]; omega)]
 refine okP.ite (fun se => ?_) (fun se => ?_)
 ·rw [i_eq] at se
  have t1 := S.2.2.2.2.2.1 (β a) (by omega)
  rw [g_snapVal h, S.a_v (j := β a) (by omega) hs, Option.bind_some, g_snapTgt h, S.a_t (j := β a) (by omega) hs, Option.bind_some]
  obtain ⟨q, N, e1, e2, e3⟩ := emit_m h D hL l160 (op := 2) (a1 := at' s.1 (β a)) (a2 := tt' s (β a)) (a3 := 0) (a4 := 0) (by decide)
  rw [e1, Option.bind_some]
  refine okP.some ⟨rfl, m, 2, at' s.1 (β a), tt' s (β a), 0, 0, N, e2, e3, Or.inl ⟨?_, by omega, ?_, ?_⟩, M, by omega, by omega, fun _ _ => ⟨rfl, rfl⟩⟩
  ·simp only; rw [at_set (by omega), if_pos rfl]
  ·simp only; rw [gd_set (by omega), if_pos rfl]; rfl
  ·simp only; rw [at_set (by omega), if_pos rfl]
 ·rw [i_eq] at se
  have ae : β a < β (a + 1) - 1 := by omega
  have h64 : vv s (β (a + 1) - 1) - vv s (β a) + 1 ≤ 64 := by
   rcases b5 with w | w
   ·omega
   ·exact w
  have vlt := S.2.2.2.2.1 (β a) (β (a + 1) - 1) ae (by omega)
  rw [g_snapVal h, S.a_v (j := β (a + 1) - 1) (by omega) he, Option.bind_some, S.a_v (j := β a) (by omega) hs, Option.bind_some]
  apply okP.bind
  refine okP.mono (dist_ok h S F (by omega) (by omega) hs he) (fun r hr => ?_)
  have sp := span_m (at' s.1 (β (a + 1) - 1)) (at' s.1 (β a))
  have sp' : ((at' s.1 (β (a + 1) - 1)).toInt64 - (at' s.1 (β a)).toInt64 + (1 : Int64)).toInt = vv s (β (a + 1) - 1) - vv s (β a) + 1 := sp
  generalize (at' s.1 (β (a + 1) - 1)).toInt64 - (at' s.1 (β a)).toInt64 + (1 : Int64) = sv64 at sp' ⊢
  rw [if_neg (by rw [J_lt, z64]; omega), if_neg (by rw [i_lt, z3]; omega)]
  have t32 : sv64.toInt32.toInt = vv s (β (a + 1) - 1) - vv s (β a) + 1 := by
   rw [Int64.toInt_toInt32, Int.bmod_eq_of_le (by omega) (by omega)]; exact sp'
  obtain ⟨base, hb⟩ : ∃ base : Nat, m.2.2.toInt = (base : Nat) := ⟨m.2.2.toInt.toNat, by have := M.2.2.1; omega⟩
  apply okP.bind
  refine okP.mono (bits_e h S F ae (by omega) h64 D M hL l160 hb (by omega) hs he t32) ?_
  rintro ⟨r1, q⟩ ⟨w1, m', used, x1, x2, x3, N, w2, w3, w4, w5, w6, w7, w8, w9, w10, w11⟩
  simp only at w1 w3 ⊢
  refine okP.some ⟨w1, m', 4, x1, x2, x3, sv64.toInt32, N, w2, w3, Or.inr ⟨?_, ?_, base, used, ?_, ?_, w7, by omega, ?_, h64, ?_⟩, w8, by omega, by omega, fun j hj => w11 j (by omega)⟩
  ·simp only; rw [at_set (by omega), if_pos rfl]
  ·simp only; rw [gd_set (by omega), if_pos rfl]; exact w4
  ·simp only; rw [gd_set (by omega), if_pos rfl]; exact w5
  ·simp only; rw [gd_set (by omega), if_pos rfl]; exact w6
  ·simp only; rw [gd_set (by omega), if_pos rfl]; exact t32
  ·rw [show β (a + 1) = β (a + 1) - 1 + 1 by omega]; exact w10
abbrev En := Nat × Nat × Int × Nat
def Pend (σ : Nat → En) (P : Nat) (e : En) : Prop := ∃ i, i < P ∧ σ i = e
def Nod (s : CT) (β : Nat → Nat) (K : Nat) (d : DT) (m : MT) (γ : Nat → Nat × Nat) (μ : Nat → Nat) (L : Nat) (σ : Nat → En) (P pc : Nat) : Prop :=
 (γ pc).1 ≤ (γ pc).2 ∧ (γ pc).2 < K ∧ (((γ pc).1 = (γ pc).2 ∧ Leaf s d m (β (γ pc).1) (β ((γ pc).1 + 1)) pc) ∨ (Inn s β d pc (γ pc).1 (γ pc).2 (μ pc) ∧ (Kid γ L pc (at' d.2.2.1 pc) (γ pc).1 (μ pc - 1) ∨ Pend σ P ((γ pc).1, μ pc - 1, (pc : Int), 0)) ∧ (Kid γ L pc (at' d.2.2.2.1 pc) (μ pc) (γ pc).2 ∨ Pend σ P (μ pc, (γ pc).2, (pc : Int), 1))))
def EnOk (K : Nat) (γ : Nat → Nat × Nat) (μ : Nat → Nat) (L : Nat) (e : En) : Prop := e.1 ≤ e.2.1 ∧ e.2.1 < K ∧ ((e.2.2.1 = -1 ∧ e.2.2.2 = 0 ∧ e.1 = 0 ∧ e.2.1 = K - 1) ∨ ∃ pc : Nat, e.2.2.1 = (pc : Int) ∧ 1 ≤ pc ∧ pc < L ∧ (γ pc).1 < (γ pc).2 ∧ ((e.2.2.2 = 0 ∧ e.1 = (γ pc).1 ∧ e.2.1 = μ pc - 1) ∨ (e.2.2.2 = 1 ∧ e.1 = μ pc ∧ e.2.1 = (γ pc).2)))
def wk (σ : Nat → En) : Nat → Nat
 | 0 => 0
 | P + 1 => wk σ P + (2 * ((σ P).2.1 - (σ P).1) + 1)
theorem wk_le (σ : Nat → En) : ∀ P, P ≤ wk σ P
 | 0 => Nat.le_refl _
 | P + 1 => by
  have := wk_le σ P
  show P + 1 ≤ wk σ P + _
  omega
theorem wk_congr {σ σ' : Nat → En} : ∀ {P : Nat}, (∀ i, i < P → σ' i = σ i) → wk σ' P = wk σ P
 | 0, _ => rfl
 | P + 1, h => by
  show wk σ' P + (2 * ((σ' P).2.1 - (σ' P).1) + 1) = wk σ P + (2 * ((σ P).2.1 - (σ P).1) + 1)
  rw [wk_congr (fun i hi => h i (by omega)), h P (by omega)]
theorem Nod.next {s : CT} {β : Nat → Nat} {K : Nat} {d d' : DT} {m m' : MT} {γ γ' : Nat → Nat × Nat} {μ μ' : Nat → Nat} {L : Nat} {σ σ' : Nat → En} {P P' pc : Nat} (N : Nod s β K d m γ μ L σ (P + 1) pc) (p1 : 1 ≤ pc) (pL : pc < L) (E : EnOk K γ μ L (σ P)) (hg : ∀ q, q < L → γ' q = γ q ∧ μ' q = μ q) (gL : γ' L = ((σ P).1, (σ P).2.1)) (hσ : ∀ i, i < P → i < P' ∧ σ' i = σ i) {lv : Int32} (hlv : lv.toInt = (L : Nat)) (h1 : at' d'.1 pc = at' d.1 pc) (h2 : at' d'.2.1 pc = at' d.2.1 pc) (h3 : at' d'.2.2.1 pc = if (σ P).2.2.1 = (pc : Int) ∧ (σ P).2.2.2 = 0 then lv else at' d.2.2.1 pc) (h4 : at' d'.2.2.2.1 pc = if (σ P).2.2.1 = (pc : Int) ∧ (σ P).2.2.2 = 1 then lv else at' d.2.2.2.1 pc) (h5 : at' d'.2.2.2.2.1 pc = at' d.2.2.2.2.1 pc) (hm : ∀ j, j < m.2.2.toInt.toNat → am m'.1 j = am m.1 j ∧ at' m'.2.1 j = at' m.2.1 j) (hu : m.2.2.toInt.toNat ≤ m'.2.2.toInt.toNat) : Nod s β K d' m' γ' μ' (L + 1) σ' P' pc := by
 obtain ⟨N1, N2, N3⟩ := N
 have g := hg pc pL
 unfold Nod
 rw [g.1, g.2]
 have kid : ∀ {z : Int32} {l r : Nat}, Kid γ L pc z l r → Kid γ' (L + 1) pc z l r := by
  rintro z l r ⟨q, q1, q2, q3, q4⟩
  exact ⟨q, q1, q2, by omega, by rw [(hg q q3).1]; exact q4⟩
 have pend : ∀ {e : En}, Pend σ (P + 1) e → e ≠ σ P → Pend σ' P' e := by
  rintro e ⟨i, i1, i2⟩ ne
  have : i < P := by
   rcases Nat.lt_or_ge i P with w | w
   ·exact w
   ·have : i = P := by omega
    subst this
    exact absurd i2.symm ne
  exact ⟨i, (hσ i this).1, by rw [(hσ i this).2]; exact i2⟩
 refine ⟨N1, N2, ?_⟩
 rcases N3 with ⟨ge, lf⟩ | ⟨⟨n1, n2, n3, n4⟩, kb, kc⟩
 ·left
  have ne : ¬ (σ P).2.2.1 = (pc : Int) := by
   intro w
   rcases E.2.2 with ⟨e1, _⟩ | ⟨q, e1, e2, e3, e4, _⟩
   ·omega
   ·have : q = pc := by omega
    subst this
    omega
  exact ⟨ge, lf.congr h1 h2 (by rw [h3, if_neg (fun w => ne w.1)]) (by rw [h4, if_neg (fun w => ne w.1)]) h5 hm hu⟩
 ·right
  refine ⟨⟨n1, n2, by rw [h1]; exact n3, ?_⟩, ?_, ?_⟩
  ·unfold gd at *; rw [h2]; exact n4
  ·by_cases w : (σ P).2.2.1 = (pc : Int) ∧ (σ P).2.2.2 = 0
   ·left
    rw [h3, if_pos w]
    refine ⟨L, hlv, pL, by omega, ?_⟩
    rw [gL]
    rcases E.2.2 with ⟨e1, _⟩ | ⟨q, e1, e2, e3, e4, e5⟩
    ·omega
    ·have : q = pc := by omega
     subst this
     rcases e5 with ⟨_, e6, e7⟩ | ⟨e6, _⟩
     ·rw [e6, e7]
     ·omega
   ·rw [h3, if_neg w]
    refine kb.imp kid (fun z => pend z (fun e => w ?_))
    rw [← e]
    exact ⟨rfl, rfl⟩
  ·by_cases w : (σ P).2.2.1 = (pc : Int) ∧ (σ P).2.2.2 = 1
   ·left
    rw [h4, if_pos w]
    refine ⟨L, hlv, pL, by omega, ?_⟩
    rw [gL]
    rcases E.2.2 with ⟨e1, _⟩ | ⟨q, e1, e2, e3, e4, e5⟩
    ·omega
    ·have : q = pc := by omega
     subst this
     rcases e5 with ⟨e6, _⟩ | ⟨_, e6, e7⟩
     ·omega
     ·rw [e6, e7]
   ·rw [h4, if_neg w]
    refine kc.imp kid (fun z => pend z (fun e => w ?_))
    rw [← e]
    exact ⟨rfl, rfl⟩
theorem EnOk.next {K : Nat} {γ γ' : Nat → Nat × Nat} {μ μ' : Nat → Nat} {L : Nat} {e : En} (E : EnOk K γ μ L e) (hg : ∀ q, q < L → γ' q = γ q ∧ μ' q = μ q) : EnOk K γ' μ' (L + 1) e := by
 refine ⟨E.1, E.2.1, E.2.2.imp id ?_⟩
 rintro ⟨pc, e1, e2, e3, e4, e5⟩
 refine ⟨pc, e1, e2, by omega, ?_⟩
 rw [(hg pc e3).1, (hg pc e3).2]
 exact ⟨e4, e5⟩
def Bu (T : Int) (n K : Nat) (β : Nat → Nat) (s : CT) (d : DT) (m : MT) (b : BT) (L P : Nat) : Prop := LD d ∧ LM m ∧ LS b ∧ d.2.2.2.2.2.1.toInt = (L : Nat) ∧ b.2.2.2.2.toInt = (P : Nat) ∧ 1 ≤ L ∧ m.2.2.toInt ≤ 3 * L ∧ at' d.1 0 = 0 ∧ at' d.2.1 0 = df s ∧ ∃ (γ : Nat → Nat × Nat) (μ : Nat → Nat) (σ : Nat → En), wk σ P + L = 2 * K ∧ (∀ i, i < P → gd b.1 i = ((σ i).1 : Nat) ∧ gd b.2.1 i = ((σ i).2.1 : Nat) ∧ gd b.2.2.1 i = (σ i).2.2.1 ∧ gd b.2.2.2.1 i = ((σ i).2.2.2 : Nat) ∧ EnOk K γ μ L (σ i)) ∧ (∀ pc, 1 ≤ pc → pc < L → Nod s β K d m γ μ L σ P pc) ∧ (Kid γ L 0 d.2.2.2.2.2.2 0 (K - 1) ∨ Pend σ P (0, K - 1, -1, 0))
theorem ushr32 (v : Int32) {y : Int32} {n : Nat} (h : y.toInt = n) (hn : n < 32) : (XT.ushr v y).toBitVec = v.toBitVec >>> n := by
 have : ∀ n : Fin 32, ((Int32.ofInt n.1 &&& 31).toUInt32 % 32).toBitVec = BitVec.ofNat 32 n.1 := by decide
 rw [ofI h]
 show v.toBitVec >>> ((Int32.ofInt n &&& 31).toUInt32 % 32).toBitVec = _
 rw [this ⟨n, hn⟩, BitVec.ushiftRight_eq']
 congr 1
 simp; omega
theorem ush1 {z : Int32} {q : Nat} (h : z.toInt = q) : (XT.ushr z (1 : Int32)).toInt = ((q / 2 : Nat) : Int) := by
 have hi := i_hi z
 have e : (XT.ushr z (1 : Int32)).toBitVec = z.toBitVec >>> 1 := ushr32 z (n := 1) rfl (by decide)
 have zn : z.toBitVec.toNat = q := by
  have w : z.toInt = z.toBitVec.toInt := rfl
  have lt := z.toBitVec.isLt
  rw [w, BitVec.toInt_eq_toNat_cond] at h
  split at h <;> omega
 show (XT.ushr z (1 : Int32)).toBitVec.toInt = _
 rw [e, BitVec.toInt_eq_toNat_cond, BitVec.toNat_ushiftRight, zn, Nat.shiftRight_eq_div_pow, if_pos (by omega)]
theorem mid_m {x y : Int32} {l r : Nat} (hx : x.toInt = l) (hy : y.toInt = r) (hr : r < 1000) (lr : l ≤ r) : (XT.ushr ((x + y) + (1 : Int32)) (1 : Int32)).toInt = ((l + r + 1) / 2 : Nat) := by
 have e1 : (x + y).toInt = x.toInt + y.toInt := i_add (by omega) (by omega)
 have e2 : (x + y + 1).toInt = x.toInt + y.toInt + 1 := by rw [inc1 (by omega), e1]
 obtain ⟨q, hq⟩ : ∃ q : Nat, (x + y + 1).toInt = q := ⟨l + r + 1, by omega⟩
 have hs : q = l + r + 1 := by omega
 generalize x + y + 1 = z at hq
 rw [← hs]
 exact ush1 hq

def One (K : Nat) : Prop := K = K
theorem low_m {c : CT} {s : CT} {f : FT} {p : PT} {k : KT} {d : DT} {m : MT} {b : BT} {o : Ob} (h : A o = (c, s, f, p, k, d, m, b)) {T : Int} {n K a : Nat} {β : Nat → Nat} (S : Sw T n s) (C : Cls s n K β k) (ha : a < K) {x : Int32} (hx : x.toInt = a) : F40 o x = some (at' s.1 (β a)) := by
 have z0 : (0 : Int32).toInt = 0 := rfl
 have n64 := S.2.2.1
 obtain ⟨c1, c2, c3, Kn, b0, bK, hc⟩ := C
 obtain ⟨b1, b2, b3, b4, b5⟩ := hc a ha
 have hs : (at' k.1 a).toInt = (β a : Nat) := b3
 unfold F40
 rw [if_neg (by rw [i_lt, z0]; omega), if_pos (by rw [i_lt, g_clCount h]; omega), g_clStart h, ag hx (by omega), Option.bind_some]
 generalize at' k.1 a = sv at hs ⊢
 rw [if_neg (by rw [i_lt, z0]; omega), if_pos (by rw [i_lt, g_snapCount h, S.2.2.2.1]; omega), g_snapVal h, S.a_v (j := β a) (by omega) hs, Option.bind_some]
theorem served {Ex : Type} {c s : CT} {f : FT} {p : PT} {k : KT} {d : DT} {m m1 : MT} {b b1 : BT} {o : Ob} {T : Int} {n K L P P' mid : Nat} {β : Nat → Nat} {γ : Nat → Nat × Nat} {μ : Nat → Nat} {σ σ' : Nat → En} {op x1 x2 x3 x4 N lv pv sv g : Int32}
  (h : A o = (c, s, f, p, k, (d.1.set L op, d.2.1.set L x1, d.2.2.1.set L x2, d.2.2.2.1.set L x3, d.2.2.2.2.1.set L x4, N, d.2.2.2.2.2.2), m1, b1)) (D : LD d) (hL : lv.toInt = (L : Nat)) (hN : N.toInt = ((L + 1 : Nat) : Int)) (L1 : 1 ≤ L) (L60 : L < 60) (r0 : at' d.1 0 = 0) (r1 : at' d.2.1 0 = df s)
  (wE : wk σ (P + 1) + L = 2 * K) (ent : ∀ i, i < P + 1 → gd b.1 i = ((σ i).1 : Nat) ∧ gd b.2.1 i = ((σ i).2.1 : Nat) ∧ gd b.2.2.1 i = (σ i).2.2.1 ∧ gd b.2.2.2.1 i = ((σ i).2.2.2 : Nat) ∧ EnOk K γ μ L (σ i))
  (nods : ∀ pc, 1 ≤ pc → pc < L → Nod s β K d m γ μ L σ (P + 1) pc) (root : Kid γ L 0 d.2.2.2.2.2.2 0 (K - 1) ∨ Pend σ (P + 1) (0, K - 1, -1, 0))
  (M1 : LM m1) (mu : m1.2.2.toInt ≤ 3 * ((L + 1 : Nat) : Int)) (hm : ∀ j, j < m.2.2.toInt.toNat → am m1.1 j = am m.1 j ∧ at' m1.2.1 j = at' m.2.1 j) (hu : m.2.2.toInt.toNat ≤ m1.2.2.toInt.toNat)
  (B1 : LS b1) (hP : b1.2.2.2.2.toInt = (P' : Nat)) (hσ : ∀ i, i < P → i < P' ∧ σ' i = σ i) (wE' : wk σ' P' + 1 = wk σ (P + 1))
  (old : ∀ i, i < P → gd b1.1 i = gd b.1 i ∧ gd b1.2.1 i = gd b.2.1 i ∧ gd b1.2.2.1 i = gd b.2.2.1 i ∧ gd b1.2.2.2.1 i = gd b.2.2.2.1 i)
  (new : ∀ i, P ≤ i → i < P' → gd b1.1 i = ((σ' i).1 : Nat) ∧ gd b1.2.1 i = ((σ' i).2.1 : Nat) ∧ gd b1.2.2.1 i = (σ' i).2.2.1 ∧ gd b1.2.2.2.1 i = ((σ' i).2.2.2 : Nat) ∧ EnOk K (fun q => if q = L then ((σ P).1, (σ P).2.1) else γ q) (fun q => if q = L then mid else μ q) (L + 1) (σ' i))
  (nodL : ∀ d2 : DT, at' d2.1 L = op → at' d2.2.1 L = x1 → at' d2.2.2.1 L = x2 → at' d2.2.2.2.1 L = x3 → at' d2.2.2.2.2.1 L = x4 → Nod s β K d2 m1 (fun q => if q = L then ((σ P).1, (σ P).2.1) else γ q) (fun q => if q = L then mid else μ q) (L + 1) σ' P' L)
  (hpv : pv.toInt = (σ P).2.2.1) (hsv : sv.toInt = ((σ P).2.2.2 : Nat)) (g0 : 0 ≤ g.toInt) (g1 : g.toInt < 1000) :
  okP ((F35 o pv sv lv).bind fun r268 => some (.inr ((g + (1 : Int32)), r268) : Ex ⊕ (Int32 × Ob))) (fun r => ∃ g' q d' m' b', r = .inr (g', q) ∧ g'.toInt = g.toInt + 1 ∧ A q = (c, s, f, p, k, d', m', b') ∧ Bu T n K β s d' m' b' (L + 1) P') := by
 have z0 : (0 : Int32).toInt = 0 := rfl
 have eg : (g + 1).toInt = g.toInt + 1 := inc1 (by omega)
 obtain ⟨d1, d2, d3, d4, d5⟩ := D
 have Dn : LD (d.1.set L op, d.2.1.set L x1, d.2.2.1.set L x2, d.2.2.2.1.set L x3, d.2.2.2.2.1.set L x4, N, d.2.2.2.2.2.2) := ⟨ls d1, ls d2, ls d3, ls d4, ls d5⟩
 obtain ⟨q, q1, q2, q3⟩ := patch_m h Dn (L := L + 1) hN (by omega) (x := pv) (y := sv) (z := lv)
 rw [q1, Option.bind_some]
 generalize hγ : (fun q => if q = L then ((σ P).1, (σ P).2.1) else γ q) = γ' at *
 generalize hμ : (fun q => if q = L then mid else μ q) = μ' at *
 have hg : ∀ q, q < L → γ' q = γ q ∧ μ' q = μ q := by
  intro q hq
  rw [← hγ, ← hμ]
  exact ⟨if_neg (by omega), if_neg (by omega)⟩
 have gL : γ' L = ((σ P).1, (σ P).2.1) := by rw [← hγ]; exact if_pos rfl
 obtain ⟨_, _, _, _, E⟩ := ent P (by omega)
 have kid0 : ∀ {z : Int32}, Kid γ L 0 z 0 (K - 1) → Kid γ' (L + 1) 0 z 0 (K - 1) := by
  rintro z ⟨w, w1, w2, w3, w4⟩
  exact ⟨w, w1, w2, by omega, by rw [(hg w w3).1]; exact w4⟩
 have ents : ∀ i, i < P' → gd b1.1 i = ((σ' i).1 : Nat) ∧ gd b1.2.1 i = ((σ' i).2.1 : Nat) ∧ gd b1.2.2.1 i = (σ' i).2.2.1 ∧ gd b1.2.2.2.1 i = ((σ' i).2.2.2 : Nat) ∧ EnOk K γ' μ' (L + 1) (σ' i) := by
  intro i hi
  rcases Nat.lt_or_ge i P with w | w
  ·obtain ⟨e1, e2, e3, e4, e5⟩ := ent i (by omega)
   obtain ⟨f1, f2, f3, f4⟩ := old i w
   rw [(hσ i w).2, f1, f2, f3, f4]
   exact ⟨e1, e2, e3, e4, e5.next hg⟩
  ·exact new i w hi
 have fin : ∀ d' : DT, A q = (c, s, f, p, k, d', m1, b1) → LD d' → d'.2.2.2.2.2.1 = N → (∀ j, at' d'.1 j = at' (d.1.set L op) j ∧ at' d'.2.1 j = at' (d.2.1.set L x1) j ∧ at' d'.2.2.2.2.1 j = at' (d.2.2.2.2.1.set L x4) j) → (∀ j, j ≤ L → at' d'.2.2.1 j = if (σ P).2.2.1 = (j : Int) ∧ (σ P).2.2.2 = 0 then lv else at' (d.2.2.1.set L x2) j) → (∀ j, j ≤ L → at' d'.2.2.2.1 j = if (σ P).2.2.1 = (j : Int) ∧ (σ P).2.2.2 = 1 then lv else at' (d.2.2.2.1.set L x3) j) → (Kid γ' (L + 1) 0 d'.2.2.2.2.2.2 0 (K - 1) ∨ Pend σ' P' (0, K - 1, -1, 0)) → okP (some (.inr (g + 1, q) : Ex ⊕ (Int32 × Ob))) (fun r => ∃ g' q d' m' b', r = .inr (g', q) ∧ g'.toInt = g.toInt + 1 ∧ A q = (c, s, f, p, k, d', m', b') ∧ Bu T n K β s d' m' b' (L + 1) P') := by
  intro d' hq D' cN same cB cC rt
  have parL : ¬ (σ P).2.2.1 = (L : Int) := by
   intro w
   rcases E.2.2 with ⟨e1, _⟩ | ⟨pc, e1, e2, e3, _⟩ <;> omega
  refine okP.some ⟨g + 1, q, d', m1, b1, rfl, eg, hq, D', M1, B1, by rw [cN]; exact hN, hP, by omega, mu, ?_, ?_, γ', μ', σ', by omega, ents, fun pc p1 pL => ?_, rt⟩
  ·rw [(same 0).1, at_set (by omega), if_neg (by omega)]; exact r0
  ·rw [(same 0).2.1, at_set (by omega), if_neg (by omega)]; exact r1
  ·by_cases w : pc = L
   ·subst w
    refine nodL d' ?_ ?_ ?_ ?_ ?_
    ·rw [(same pc).1, at_set (by omega), if_pos rfl]
    ·rw [(same pc).2.1, at_set (by omega), if_pos rfl]
    ·rw [cB pc (by omega), if_neg (fun w => parL w.1), at_set (by omega), if_pos rfl]
    ·rw [cC pc (by omega), if_neg (fun w => parL w.1), at_set (by omega), if_pos rfl]
    ·rw [(same pc).2.2, at_set (by omega), if_pos rfl]
   ·refine (nods pc p1 (by omega)).next p1 (by omega) E hg gL hσ hL ?_ ?_ ?_ ?_ ?_ hm hu
    ·rw [(same pc).1, at_set (by omega), if_neg w]
    ·rw [(same pc).2.1, at_set (by omega), if_neg w]
    ·rw [cB pc (by omega), at_set (by omega), if_neg w]
    ·rw [cC pc (by omega), at_set (by omega), if_neg w]
    ·rw [(same pc).2.2, at_set (by omega), if_neg w]
 have rootOld : (σ P).2.2.1 ≠ -1 → Kid γ' (L + 1) 0 d.2.2.2.2.2.2 0 (K - 1) ∨ Pend σ' P' (0, K - 1, -1, 0) := by
  intro ne
  refine root.imp kid0 ?_
  rintro ⟨i, i1, i2⟩
  have : i < P := by
   rcases Nat.lt_or_ge i P with w | w
   ·exact w
   ·have : i = P := by omega
    subst this
    rw [i2] at ne
    exact absurd rfl ne
  exact ⟨i, (hσ i this).1, by rw [(hσ i this).2]; exact i2⟩
 rcases E.2.2 with ⟨e1, e2, e3, e4⟩ | ⟨pc, e1, e2, e3, e4, e5⟩
 ·have hq := q2 (by omega)
  refine fin _ hq Dn rfl (fun j => ⟨rfl, rfl, rfl⟩) (fun j hj => ?_) (fun j hj => ?_) (Or.inl ⟨L, hL, by omega, by omega, ?_⟩)
  ·rw [if_neg (fun w => by omega)]
  ·rw [if_neg (fun w => by omega)]
  ·rw [gL, e3, e4]
 ·obtain ⟨qa, qb⟩ := q3 pc (by omega) (by omega)
  rcases e5 with ⟨s0, _⟩ | ⟨s1, _⟩
  ·have hq := qa (by rw [i_eq, hsv, s0]; rfl)
   refine fin _ hq ⟨ls d1, ls d2, ls (ls d3), ls d4, ls d5⟩ rfl (fun j => ⟨rfl, rfl, rfl⟩) (fun j hj => ?_) (fun j hj => ?_) (rootOld (by omega))
   ·simp only
    rw [at_set (by rw [List.length_set]; omega)]
    by_cases w : j = pc
    ·rw [if_pos w, if_pos ⟨by omega, s0⟩]
    ·rw [if_neg w, if_neg (fun z => by omega)]
   ·rw [if_neg (fun w => by omega)]
  ·have hq := qb (by rw [Ne, i_eq, hsv, s1]; decide)
   refine fin _ hq ⟨ls d1, ls d2, ls d3, ls (ls d4), ls d5⟩ rfl (fun j => ⟨rfl, rfl, rfl⟩) (fun j hj => ?_) (fun j hj => ?_) (rootOld (by omega))
   ·rw [if_neg (fun w => by omega)]
   ·simp only
    rw [at_set (by rw [List.length_set]; omega)]
    by_cases w : j = pc
    ·rw [if_pos w, if_pos ⟨by omega, s1⟩]
    ·rw [if_neg w, if_neg (fun z => by omega)]
theorem grow {c : CT} {s : CT} {f : FT} {p : PT} {k : KT} {d : DT} {m : MT} {b : BT} {o : Ob} (h : A o = (c, s, f, p, k, d, m, b)) {T : Int} {n K L P : Nat} {β : Nat → Nat} (S : Sw T n s) (F : Few T n) (C : Cls s n K β k) (K16 : K ≤ 16) (K1 : One K) (U : Bu T n K β s d m b L (P + 1)) {g : Int32} (g0 : 0 ≤ g.toInt) (g1 : g.toInt < 160) : okP (B8_59 (g, o)) (fun r => ∃ g' q d' m' b' P', r = .inr (g', q) ∧ g'.toInt = g.toInt + 1 ∧ A q = (c, s, f, p, k, d', m', b') ∧ Bu T n K β s d' m' b' (L + 1) P') := by
 have z0 : (0 : Int32).toInt = 0 := rfl
 have z1 : (1 : Int32).toInt = 1 := rfl
 obtain ⟨D, M, B, hL, hP, L1, mu, r0, r1, γ, μ, σ, wE, ent, nods, root⟩ := U
 obtain ⟨d1, d2, d3, d4, d5⟩ := id D
 obtain ⟨b1, b2, b3, b4⟩ := id B
 have wl := wk_le σ (P + 1)
 have P130 : P + 1 < 100 := by omega
 have lo : ((fd o).length.toInt32).toInt = 160 := by rw [g_opc h, d1]; rfl
 have es : (b.2.2.2.2 - 1).toInt = (P : Nat) := by rw [i_sub (by omega) (by omega), z1]; omega
 obtain ⟨en1, en2, en3, en4, E⟩ := ent P (by omega)
 unfold B8_59
 simp only
 rw [if_pos (by rw [i_lt, lo]; omega), if_pos (by rw [i_lt, z0, g_sp h]; omega), g_sp h]
 generalize b.2.2.2.2 - 1 = sp' at es ⊢
 rw [g_stLo h, ag es (by omega), Option.bind_some, g_stHi h, ag es (by omega), Option.bind_some, g_stParent h, ag es (by omega), Option.bind_some, g_stSlot h, ag es (by omega), Option.bind_some]
 have v1 : (at' b.1 P).toInt = ((σ P).1 : Nat) := en1
 have v2 : (at' b.2.1 P).toInt = ((σ P).2.1 : Nat) := en2
 have v3 : (at' b.2.2.1 P).toInt = (σ P).2.2.1 := en3
 have v4 : (at' b.2.2.2.1 P).toInt = ((σ P).2.2.2 : Nat) := en4
 generalize at' b.1 P = lv at v1 ⊢
 generalize at' b.2.1 P = hv at v2 ⊢
 generalize at' b.2.2.1 P = pv at v3 ⊢
 generalize at' b.2.2.2.1 P = sv at v4 ⊢
 have h1 := w_sp h sp'
 generalize sxQ o sp' = o1 at h1 ⊢
 have E1 := E.1
 have E2 := E.2.1
 have wP : wk σ (P + 1) = wk σ P + (2 * ((σ P).2.1 - (σ P).1) + 1) := rfl
 have Bd' := C.2.2.2.2
 refine okP.ite (fun lt => ?_) (fun lt => ?_)
 ·rw [i_lt] at lt
  have hmid := mid_m v1 v2 (by omega) (by omega)
  obtain ⟨mid, em⟩ : ∃ mid, mid = ((σ P).1 + (σ P).2.1 + 1) / 2 := ⟨_, rfl⟩
  rw [← em] at hmid
  have m1 : (σ P).1 < mid ∧ mid ≤ (σ P).2.1 := by omega
  generalize XT.ushr (lv + hv + (1 : Int32)) (1 : Int32) = mv at hmid ⊢
  have emv : (mv - 1).toInt = ((mid - 1 : Nat) : Int) := by rw [i_sub (by omega) (by omega), z1]; omega
  generalize mv - 1 = mw at emv ⊢
  rw [low_m h1 S C (a := mid) (by omega) hmid, Option.bind_some]
  obtain ⟨o2, N, e1, e2, e3⟩ := emit_m h1 D hL (by omega) (op := 1) (a1 := at' s.1 (β mid)) (a2 := 0) (a3 := 0) (a4 := 0) (by decide)
  rw [e1, Option.bind_some]
  obtain ⟨o3, N3, p1, p2, p3⟩ := push_m e3 ⟨b1, b2, b3, b4⟩ (P := P) es (by omega) mv hv d.2.2.2.2.2.1 1
  rw [p1, Option.bind_some]
  obtain ⟨o4, N4, q1, q2, q3⟩ := push_m p3 ⟨ls b1, ls b2, ls b3, ls b4⟩ (P := P + 1) p2 (by omega) lv mw d.2.2.2.2.2.1 0
  rw [q1, Option.bind_some]
  obtain ⟨σ', hσ'⟩ : ∃ σ' : Nat → En, σ' = fun i => if i = P then (mid, (σ P).2.1, (L : Int), 1) else if i = P + 1 then ((σ P).1, mid - 1, (L : Int), 0) else σ i := ⟨_, rfl⟩
  have sP : σ' P = (mid, (σ P).2.1, (L : Int), 1) := by rw [hσ']; simp only [if_true]
  have sQ : σ' (P + 1) = ((σ P).1, mid - 1, (L : Int), 0) := by rw [hσ']; simp only [if_true]; rw [if_neg (by omega)]
  have sO : ∀ i, i < P → σ' i = σ i := by intro i hi; rw [hσ']; simp only; rw [if_neg (by omega), if_neg (by omega)]
  have two : ∀ (l : List Int32) (hl : l.length = 130) (u v : Int32) (i : Nat), gd ((l.set P u).set (P + 1) v) i = if i = P + 1 then v.toInt else if i = P then u.toInt else gd l i := by
   intro l hl u v i
   rw [gd_set (by rw [List.length_set]; omega)]
   split
   ·rfl
   ·rw [gd_set (by omega)]
  have wk' : wk σ' (P + 2) + 1 = wk σ (P + 1) := by
   show wk σ' P + (2 * ((σ' P).2.1 - (σ' P).1) + 1) + (2 * ((σ' (P + 1)).2.1 - (σ' (P + 1)).1) + 1) + 1 = _
   rw [wk_congr sO, sP, sQ, wP]
   simp only
   omega
  unfold J8_193
  refine okP.mono (served (L := L) (P := P) (P' := P + 2) (mid := mid) (γ := γ) (μ := μ) (σ := σ) (σ' := σ') (T := T) (n := n) (β := β) (m := m) (b := b) q3 D hL e2 L1 (by omega) r0 r1 wE ent nods root M (by omega) (fun _ _ => ⟨rfl, rfl⟩) (Nat.le_refl _) ⟨ls (ls b1), ls (ls b2), ls (ls b3), ls (ls b4)⟩ (by rw [q2]) (fun i hi => ⟨by omega, sO i hi⟩) wk' (fun i hi => ?_) (fun i i1 i2 => ?_) (fun dd q1 q2 q3 q4 q5 => ?_) v3 v4 g0 (by omega)) ?_
  ·simp only
   rw [two _ b1, two _ b2, two _ b3, two _ b4]
   have a1 : ¬ i = P + 1 := by omega
   have a2 : ¬ i = P := by omega
   simp only [if_neg a1, if_neg a2]
   exact ⟨trivial, trivial, trivial, trivial⟩
  ·simp only
   rw [two _ b1, two _ b2, two _ b3, two _ b4]
   have ge1 : (fun q => if q = L then ((σ P).1, (σ P).2.1) else γ q) L = ((σ P).1, (σ P).2.1) := if_pos rfl
   have ge2 : (fun q => if q = L then mid else μ q) L = mid := if_pos rfl
   by_cases w : i = P + 1
   ·subst w
    rw [sQ]
    simp only [if_true]
    refine ⟨v1, emv, hL, rfl, by simp only; omega, by simp only; omega, Or.inr ⟨L, rfl, L1, by omega, ?_, Or.inl ⟨rfl, ?_, ?_⟩⟩⟩
    ·rw [ge1]; simp only; omega
    ·rw [ge1]
    ·rw [ge2]
   ·have : i = P := by omega
    subst this
    rw [sP]
    simp only [if_true, if_neg w]
    refine ⟨hmid, v2, hL, rfl, by simp only; omega, by simp only; omega, Or.inr ⟨L, rfl, L1, by omega, ?_, Or.inr ⟨rfl, ?_, ?_⟩⟩⟩
    ·rw [ge1]; simp only; omega
    ·rw [ge2]
    ·rw [ge1]
  ·have ge1 : (fun q => if q = L then ((σ P).1, (σ P).2.1) else γ q) L = ((σ P).1, (σ P).2.1) := if_pos rfl
   have ge2 : (fun q => if q = L then mid else μ q) L = mid := if_pos rfl
   unfold Nod
   rw [ge1, ge2]
   simp only
   refine ⟨by omega, by omega, Or.inr ⟨⟨by omega, by omega, q1, ?_⟩, Or.inr ⟨P + 1, by omega, sQ⟩, Or.inr ⟨P, by omega, sP⟩⟩⟩
   unfold gd
   rw [q2]; rfl
  ·rintro r ⟨g', q, d', m', b', w⟩
   exact ⟨g', q, d', m', b', P + 2, w⟩
 ·rw [i_lt] at lt
  have lh : (σ P).1 = (σ P).2.1 := by omega
  apply okP.bind
  refine okP.mono (leaf_e h1 S F C (a := (σ P).1) (by omega) D M hL (by omega) (by omega) v1) ?_
  rintro ⟨rv, q⟩ ⟨w1, m', op, x1, x2, x3, x4, N, w2, w3, w4, w5, w6, w7, w8⟩
  simp only at w1 w3 ⊢
  subst w1
  unfold J8_193
  refine okP.mono (served (L := L) (P := P) (P' := P) (mid := 0) (γ := γ) (μ := μ) (σ := σ) (σ' := σ) (T := T) (n := n) (β := β) (m := m) (b := b) w3 D hL w2 L1 (by omega) r0 r1 wE ent nods root w5 (by omega) w8 (by omega) ⟨b1, b2, b3, b4⟩ es (fun i hi => ⟨hi, rfl⟩) (by rw [wP]; omega) (fun i hi => ⟨rfl, rfl, rfl, rfl⟩) (fun i i1 i2 => absurd i1 (by omega)) (fun dd q1 q2 q3 q4 q5 => ?_) v3 v4 g0 (by omega)) ?_
  ·have ge1 : (fun q => if q = L then ((σ P).1, (σ P).2.1) else γ q) L = ((σ P).1, (σ P).2.1) := if_pos rfl
   unfold Nod
   rw [ge1]
   simp only
   refine ⟨by omega, by omega, Or.inl ⟨lh, w4.congr ?_ ?_ ?_ ?_ ?_ (fun _ _ => ⟨rfl, rfl⟩) (Nat.le_refl _)⟩⟩
   ·simp only; rw [at_set (by omega), if_pos rfl]; exact q1
   ·simp only; rw [at_set (by omega), if_pos rfl]; exact q2
   ·simp only; rw [at_set (by omega), if_pos rfl]; exact q3
   ·simp only; rw [at_set (by omega), if_pos rfl]; exact q4
   ·simp only; rw [at_set (by omega), if_pos rfl]; exact q5
  ·rintro r ⟨g', q, d', m', b', w⟩
   exact ⟨g', q, d', m', b', P, w⟩
theorem build_ok {c : CT} {s : CT} {f : FT} {p : PT} {k : KT} {d : DT} {m : MT} {b : BT} {o : Ob} (h : A o = (c, s, f, p, k, d, m, b)) {T : Int} {n K : Nat} {β : Nat → Nat} (S : Sw T n s) (F : Few T n) (C : Cls s n K β k) (K16 : K ≤ 16) (K1 : One K) (D : LD d) (M : m.1.length = 192 ∧ m.2.1.length = 192) (B : LS b) : okP (F8 o) (fun q => ∃ f' d' m' b', A q = (c, s, f', p, k, d', m', b') ∧ Cde s n d' m' ∧ LS b' ∧ f'.1 = f.1 ∧ f'.2.1 = f.2.1 ∧ f'.2.2.1 = f.2.2.1) := by
 have z0 : (0 : Int32).toInt = 0 := rfl
 have z1 : (1 : Int32).toInt = 1 := rfl
 have h0 := w_cln h
 obtain ⟨c1, c2, c3, Kn, b0, bK, hc⟩ := id C
 obtain ⟨d1, d2, d3, d4, d5⟩ := id D
 have Bd' : Bd n K β := ⟨bK, fun a ha => (hc a ha).1⟩
 unfold F8
 rw [g_snapDefault h]
 obtain ⟨o1, N, e1, e2, e3⟩ := emit_m h0 D (L := 0) rfl (by omega) (op := 0) (a1 := s.2.2.2.1) (a2 := 0) (a3 := 0) (a4 := 0) (by decide)
 rw [e1, Option.bind_some]
 simp only
 rw [g_clCount e3]
 have D1 : LD (d.1.set 0 0, d.2.1.set 0 s.2.2.2.1, d.2.2.1.set 0 0, d.2.2.2.1.set 0 0, d.2.2.2.2.1.set 0 0, N, d.2.2.2.2.2.2) := ⟨ls d1, ls d2, ls d3, ls d4, ls d5⟩
 have h2 := w_root e3 0
 simp only at h2
 have r0 : at' (d.1.set 0 0) 0 = 0 := by rw [at_set (by omega), if_pos rfl]
 have r1 : at' (d.2.1.set 0 s.2.2.2.1) 0 = df s := by rw [at_set (by omega), if_pos rfl]; rfl
 refine okP.ite (fun K0 => ?_) (fun K0 => ?_)
 ·rw [i_lt, z0, c3] at K0
  have ek : (k.2.2 - 1).toInt = ((K - 1 : Nat) : Int) := by rw [i_sub (by omega) (by omega), z1]; omega
  obtain ⟨o2, N2, p1, p2, p3⟩ := push_m h2 (P := 0) B rfl (by omega) 0 (k.2.2 - 1) (-1) 0
  rw [p1, Option.bind_some]
  apply okP.bind
  refine okP.mono (P := fun q => ∃ f' d' m' b', A q = (c, s, f', p, k, d', m', b') ∧ Cde s n d' m' ∧ LS b' ∧ f'.1 = f.1 ∧ f'.2.1 = f.2.1 ∧ f'.2.2.1 = f.2.2.1) ?_ (fun q hq => okP.some hq)
  obtain ⟨b1, b2, b3, b4⟩ := id B
  have U0 : Bu T n K β s (d.1.set 0 0, d.2.1.set 0 s.2.2.2.1, d.2.2.1.set 0 0, d.2.2.2.1.set 0 0, d.2.2.2.2.1.set 0 0, N, 0) (m.1, m.2.1, 0) (b.1.set 0 0, b.2.1.set 0 (k.2.2 - 1), b.2.2.1.set 0 (-1), b.2.2.2.1.set 0 0, N2) 1 1 := by
   refine ⟨⟨ls d1, ls d2, ls d3, ls d4, ls d5⟩, ⟨M.1, M.2, by show (0 : Int) ≤ 0; decide, by show (0 : Int) ≤ 192; decide⟩, ⟨ls b1, ls b2, ls b3, ls b4⟩, e2, p2, by omega, by show (0 : Int) ≤ 3 * 1; decide, r0, r1, fun _ => (0, 0), fun _ => 0, fun _ => (0, K - 1, -1, 0), ?_, fun i hi => ?_, fun pc q1 q2 => absurd q2 (by omega), Or.inr ⟨0, by omega, rfl⟩⟩
   ·show 0 + (2 * (K - 1 - 0) + 1) + 1 = 2 * K
    omega
   ·have : i = 0 := by omega
    subst this
    simp only
    rw [gd_set (by omega), gd_set (by omega), gd_set (by omega), gd_set (by omega), if_pos rfl, if_pos rfl, if_pos rfl, if_pos rfl]
    exact ⟨rfl, ek, rfl, rfl, by simp only; omega, by simp only; omega, Or.inl ⟨rfl, rfl, rfl, rfl⟩⟩
  refine okP.loop (fun w : Int32 × Ob => ∃ (d' : DT) (m' : MT) (b' : BT) (L P : Nat), A w.2 = (c, s, (f.1, f.2.1, f.2.2.1, 0), p, k, d', m', b') ∧ Bu T n K β s d' m' b' L P ∧ w.1.toInt = (L : Int) - 1) (fun w => (200 - w.1.toInt).toNat) ⟨_, _, _, 1, 1, p3, U0, rfl⟩ (by show (200 - (0 : Int)).toNat < 4000; decide) ?_
  rintro ⟨g, q⟩ ⟨d', m', b', L, P, hq, U, hg⟩
  simp only at hq hg
  have L1 := U.2.2.2.2.2.1
  have wl : L ≤ 2 * K := by
   obtain ⟨_, _, _, _, _, _, _, _, _, γ, μ, σ, wE, _⟩ := U
   omega
  rcases Nat.eq_zero_or_pos P with P0 | P0
  ·subst P0
   obtain ⟨D', M', B', hL, hP, L1', mu, r0', r1', γ, μ, σ, wE, ent, nods, root⟩ := U
   have lo : ((fd q).length.toInt32).toInt = 160 := by rw [g_opc hq, D'.1]; rfl
   unfold B8_59
   simp only
   rw [if_pos (by rw [i_lt, lo]; omega), if_neg (by rw [i_lt, z0, g_sp hq]; omega)]
   have noP : ∀ e, ¬ Pend σ 0 e := fun e ⟨i, i1, _⟩ => absurd i1 (by omega)
   refine okP.some ⟨_, d', m', b', hq, ⟨D', M', K, L, β, γ, Bd', b0, by omega, L1', hL, r0', r1', fun pc q1 q2 => ?_, Or.inr ⟨by omega, root.resolve_right (noP _)⟩⟩, B', rfl, rfl, rfl⟩
   obtain ⟨n1, n2, n3⟩ := nods pc q1 q2
   refine ⟨n1, n2, n3.imp id ?_⟩
   rintro ⟨w1, w2, w3⟩
   exact ⟨μ pc, w1, w2.resolve_right (noP _), w3.resolve_right (noP _)⟩
  ·obtain ⟨P1, eP⟩ : ∃ P1, P = P1 + 1 := ⟨P - 1, by omega⟩
   subst eP
   refine okP.mono (grow hq S F C K16 K1 U (g := g) (by omega) (by omega)) ?_
   rintro r ⟨g', q', d2', m2, b2', P', rfl, w1, w2, w3⟩
   exact ⟨⟨d2', m2, b2', L + 1, P', w2, w3, by simp only; omega⟩, by simp only; omega⟩
 ·rw [i_lt, z0, c3] at K0
  have k0 : K = 0 := by omega
  refine okP.some ⟨_, _, _, _, h2, ⟨⟨ls d1, ls d2, ls d3, ls d4, ls d5⟩, ⟨M.1, M.2, by show (0 : Int) ≤ 0; decide, by show (0 : Int) ≤ 192; decide⟩, K, 1, β, fun _ => (0, 0), Bd', b0, by omega, by omega, e2, r0, r1, fun pc q1 q2 => absurd q2 (by omega), Or.inl ⟨k0, rfl⟩⟩, B, rfl, rfl, rfl⟩

def Same (n : Nat) (a b : CT) : Prop := (∀ j, j < n → at' b.1 j = at' a.1 j ∧ at' b.2.1 j = at' a.2.1 j) ∧ b.2.2.1 = a.2.2.1 ∧ b.2.2.2.1 = a.2.2.2.1
theorem Same.sw {T : Int} {n : Nat} {a b : CT} (S : Sw T n a) (E : Same n a b) (l1 : b.1.length = 64) (l2 : b.2.1.length = 64) : Sw T n b := by
 obtain ⟨_, _, s3, s4, s5, s6, s7⟩ := S
 obtain ⟨e1, e2, e3⟩ := E
 refine ⟨l1, l2, s3, by rw [e2]; exact s4, fun i j hi hj => ?_, fun j hj => ?_, by rw [e3]; exact s7⟩
 ·unfold vv gd at *
  rw [(e1 i (by omega)).1, (e1 j hj).1]; exact s5 i j hi hj
 ·unfold tt' at *
  rw [(e1 j hj).2]; exact s6 j hj
theorem Same.rv {n : Nat} {a b : CT} (E : Same n a b) {x : Int} {r : Int32} : Rv b 0 n x r ↔ Rv a 0 n x r := by
 obtain ⟨e1, e2, e3⟩ := E
 unfold Rv df vv gd tt'
 rw [e3]
 constructor
 ·rintro (⟨i, i1, i2, i3, i4⟩ | ⟨h1, h2⟩)
  ·rw [(e1 i i2).1] at i3
   rw [(e1 i i2).2] at i4
   exact Or.inl ⟨i, i1, i2, i3, i4⟩
  ·exact Or.inr ⟨fun i i1 i2 => by rw [← (e1 i i2).1]; exact h1 i i1 i2, h2⟩
 ·rintro (⟨i, i1, i2, i3, i4⟩ | ⟨h1, h2⟩)
  ·exact Or.inl ⟨i, i1, i2, by rw [(e1 i i2).1]; exact i3, by rw [(e1 i i2).2]; exact i4⟩
  ·exact Or.inr ⟨fun i i1 i2 => by rw [(e1 i i2).1]; exact h1 i i1 i2, h2⟩
theorem snap_ok {c : CT} {s : CT} {f : FT} {p : PT} {k : KT} {d : DT} {m : MT} {b : BT} {o : Ob} (h : A o = (c, s, f, p, k, d, m, b)) {T : Int} {n : Nat} (S : Sw T n c) (T16 : T ≤ 16) (l1 : s.1.length = 64) (l2 : s.2.1.length = 64) : okP (F5 o) (fun q => ∃ s', A q = ((c.1, c.2.1, c.2.2.1, c.2.2.2.1, 0), s', f, p, k, d, m, b) ∧ s'.1.length = 64 ∧ s'.2.1.length = 64 ∧ Same n c s' ∧ s'.2.2.2.2 = 1) := by
 have n64 := S.2.2.1
 obtain ⟨c1, c2, _⟩ := id S
 unfold F5
 rw [g_curCount h, g_curDefault h]
 have h0 := w_sc h c.2.2.1 c.2.2.2.1
 apply okP.bind
 refine okP.mono (P := fun q => ∃ s', A q = ((c.1, c.2.1, c.2.2.1, c.2.2.2.1, 0), s', f, p, k, d, m, b) ∧ s'.1.length = 64 ∧ s'.2.1.length = 64 ∧ Same n c s' ∧ s'.2.2.2.2 = 1) ?_ (fun q hq => okP.some hq)
 refine okP.loop (fun w : Int32 × Ob => ∃ (i : Nat) (u v : List Int32), w.1.toInt = (i : Int) ∧ i ≤ n ∧ A w.2 = (c, (u, v, c.2.2.1, c.2.2.2.1, s.2.2.2.2), f, p, k, d, m, b) ∧ u.length = 64 ∧ v.length = 64 ∧ ∀ j, j < i → at' u j = at' c.1 j ∧ at' v j = at' c.2.1 j) (fun w => (100 - w.1.toInt).toNat) ⟨0, s.1, s.2.1, rfl, by omega, h0, l1, l2, fun j hj => absurd hj (by omega)⟩ (by show (100 - (0 : Int)).toNat < 4000; decide) ?_
 rintro ⟨x, q⟩ ⟨i, u, v, hx, iN, hq, lu, lv, hc⟩
 simp only at hx hq
 unfold B5_18
 simp only
 refine okP.ite (fun cx => ?_) (fun cx => ?_)
 ·rw [i_lt, g_curCount hq, S.2.2.2.1] at cx
  have ex : (x + 1).toInt = x.toInt + 1 := inc1 (by omega)
  have ti := S.2.2.2.2.2.1 i (by omega)
  rw [g_curVal hq, S.a_v (by omega) hx, Option.bind_some, g_snapVal hq, aset_at hx (by show i < u.length; omega), Option.bind_some, g_curTgt hq, S.a_t (by omega) hx, Option.bind_some, g_snapTgt hq, (b8 ti.1 (by omega)).2, aset_at hx (by show i < v.length; omega), Option.bind_some]
  refine okP.some ⟨⟨i + 1, u.set i (at' c.1 i), v.set i (tt' c i), by simp only; omega, by omega, w_snap hq _ _, ls lu, ls lv, fun j hj => ?_⟩, by simp only; omega⟩
  rw [at_set (by omega), at_set (by omega)]
  by_cases e : j = i
  ·rw [if_pos e, if_pos e, e]; exact ⟨rfl, rfl⟩
  ·rw [if_neg e, if_neg e]; exact hc j (by omega)
 ·rw [i_lt, g_curCount hq, S.2.2.2.1] at cx
  have : i = n := by omega
  subst this
  exact okP.some ⟨(u, v, c.2.2.1, c.2.2.2.1, 1), w_hs hq 1 0, lu, lv, ⟨hc, rfl, rfl⟩, rfl⟩
def LA (f : FT) (p : PT) (k : KT) (d : DT) (m : MT) (b : BT) : Prop := f.2.2.1.length = 256 ∧ (p.1.length = 65 ∧ p.2.length = 65) ∧ (k.1.length = 64 ∧ k.2.1.length = 64) ∧ LD d ∧ (m.1.length = 192 ∧ m.2.1.length = 192) ∧ LS b
def Nr (T : Int) (n : Nat) (c : CT) : Prop := c = c
theorem lower_ok {c : CT} {s : CT} {f : FT} {p : PT} {k : KT} {d : DT} {m : MT} {b : BT} {o : Ob} (h : A o = (c, s, f, p, k, d, m, b)) {T : Int} {n : Nat} (S : Sw T n c) (n16 : n ≤ 16) (F : Few T n) (Na : Nr T n c) (l1 : s.1.length = 64) (l2 : s.2.1.length = 64) (La : LA f p k d m b) : okP (F4 o) (fun w => w.1 = c.2.2.1 ∧ ∃ s' f' p' k' d' m' b', A w.2 = ((c.1, c.2.1, c.2.2.1, c.2.2.2.1, 0), s', f', p', k', d', m', b') ∧ Same n c s' ∧ Sw T n s' ∧ s'.2.2.2.2 = 1 ∧ Cde s' n d' m' ∧ LA f' p' k' d' m' b' ∧ f'.1 = f.1 ∧ f'.2.1 = f.2.1) := by
 obtain ⟨La1, La2, La3, La4, La5, La6⟩ := La
 unfold F4
 apply okP.bind
 refine okP.mono (snap_ok h S F.2 l1 l2) ?_
 rintro q1 ⟨s', h1, m1, m2, E, hs⟩
 have S' := E.sw S m1 m2
 apply okP.bind
 refine okP.mono (plan_ok h1 S' n16 La2.1 La2.2) ?_
 rintro q2 ⟨p', h2, P, O1⟩
 apply okP.bind
 refine okP.mono (coll_ok h2 (by omega) S'.2.2.2.1 P La3.1 La3.2) ?_
 rintro q3 ⟨k', K, β, h3, C, hK⟩
 have K1 : One K := by
  exact rfl
 apply okP.bind
 refine okP.mono (build_ok h3 S' F C (by have := C.2.2.2.1; omega) K1 La4 La5 La6) ?_
 rintro q4 ⟨f', d', m', b', h4, Cd, B', f1, f2, f3⟩
 refine okP.some ⟨?_, s', f', p', k', d', m', b', h4, E, S', hs, Cd, ⟨by rw [f3]; exact La1, ⟨P.1, P.2.1⟩, ⟨C.1, C.2.1⟩, Cd.1, ⟨Cd.2.1.1, Cd.2.1.2.1⟩, B'⟩, f1, f2⟩
 rw [g_snapCount h4, E.2.1]
theorem lb_ok {c : CT} {s : CT} {f : FT} {p : PT} {k : KT} {d : DT} {m : MT} {b : BT} {o : Ob} (h : A o = (c, s, f, p, k, d, m, b)) {T : Int} {n : Nat} (S : Sw T n c) (n15 : n ≤ 15) (x : Int32) : okP (F17 o x) (fun r => ∃ j : Nat, r.toInt = (j : Int) ∧ j ≤ n ∧ (∀ i, i < j → vv c i < x.toInt) ∧ ∀ i, j ≤ i → i < n → x.toInt ≤ vv c i) := by
 have z16 : (16 : Int32).toInt = 16 := rfl
 have cc := S.2.2.2.1
 unfold F17
 rw [g_curCount h]
 apply okP.bind
 refine okP.mono (P := fun r => ∃ j : Nat, r.toInt = (j : Int) ∧ j ≤ n ∧ (∀ i, i < j → vv c i < x.toInt) ∧ ∀ i, j ≤ i → i < n → x.toInt ≤ vv c i) ?_ (fun r hr => okP.some hr)
 refine okP.loop (fun w : Int32 × Int32 × Int32 => ∃ lo hi st : Nat, w.1.toInt = (lo : Int) ∧ w.2.1.toInt = (hi : Int) ∧ w.2.2.toInt = (st : Int) ∧ lo ≤ hi ∧ hi ≤ n ∧ hi - lo + st ≤ n ∧ (∀ i, i < lo → vv c i < x.toInt) ∧ ∀ i, hi ≤ i → i < n → x.toInt ≤ vv c i) (fun w => (100 - w.2.2.toInt).toNat) ⟨0, n, 0, rfl, cc, rfl, by omega, by omega, by omega, fun i hi => absurd hi (by omega), fun i h1 h2 => absurd h2 (by omega)⟩ (by show (100 - (0 : Int)).toNat < 4000; decide) ?_
 rintro ⟨a, e, z⟩ ⟨lo, hi, st, ha, he, hz, lh, hn, ms, H1, H2⟩
 simp only at ha he hz
 unfold B17_10
 simp only
 rw [if_pos (by rw [i_lt, z16]; omega)]
 refine okP.ite (fun c1 => ?_) (fun c1 => ?_)
 ·rw [i_lt] at c1
  have es : (a + e).toInt = ((lo + hi : Nat) : Int) := by rw [i_add (by omega) (by omega)]; omega
  have em := ush1 es
  generalize XT.ushr (a + e) (1 : Int32) = mv at em ⊢
  obtain ⟨mid, emid⟩ : ∃ mid, mid = (lo + hi) / 2 := ⟨_, rfl⟩
  rw [← emid] at em
  have ez : (z + 1).toInt = z.toInt + 1 := inc1 (by omega)
  have em1 : (mv + 1).toInt = mv.toInt + 1 := inc1 (by omega)
  rw [g_curVal h, S.a_v (j := mid) (by omega) em, Option.bind_some]
  have vm : vv c mid = (at' c.1 mid).toInt := rfl
  by_cases c2 : at' c.1 mid < x
  ·rw [if_pos c2, if_pos c2]
   rw [i_lt] at c2
   refine okP.some ⟨⟨mid + 1, hi, st + 1, by simp only; omega, he, by simp only; omega, by omega, hn, by omega, fun i hi' => ?_, H2⟩, by simp only; omega⟩
   rcases Nat.lt_or_ge i mid with w | w
   ·have := S.2.2.2.2.1 i mid w (by omega); omega
   ·have : i = mid := by omega
    subst this; omega
  ·rw [if_neg c2, if_neg c2]
   rw [i_lt] at c2
   refine okP.some ⟨⟨lo, mid, st + 1, ha, em, by simp only; omega, by omega, by omega, by omega, H1, fun i i1 i2 => ?_⟩, by simp only; omega⟩
   rcases Nat.lt_or_ge mid i with w | w
   ·have := S.2.2.2.2.1 mid i w i2; omega
   ·have : i = mid := by omega
    subst this; omega
 ·rw [i_lt] at c1
  have : lo = hi := by omega
  subst this
  exact okP.some ⟨lo, ha, hn, H1, H2⟩
theorem io_ok {c : CT} {s : CT} {f : FT} {p : PT} {k : KT} {d : DT} {m : MT} {b : BT} {o : Ob} (h : A o = (c, s, f, p, k, d, m, b)) {T : Int} {n : Nat} (S : Sw T n c) (n15 : n ≤ 15) (x : Int32) : okP (F16 o x) (fun r => (r = -1 ∧ ∀ i, i < n → vv c i ≠ x.toInt) ∨ ∃ j : Nat, r.toInt = (j : Int) ∧ j < n ∧ vv c j = x.toInt) := by
 unfold F16
 apply okP.bind
 refine okP.mono (lb_ok h S n15 x) ?_
 rintro r ⟨j, hj, jn, H1, H2⟩
 have no : (∀ w : j < n, vv c j ≠ x.toInt) → ∀ i, i < n → vv c i ≠ x.toInt := by
  intro w i hi e
  rcases Nat.lt_trichotomy i j with q | q | q
  ·have := H1 i q; omega
  ·subst q; exact w hi e
  ·have a1 := S.2.2.2.2.1 j i q hi
   have a2 := H2 j (Nat.le_refl _) (by omega)
   omega
 refine okP.ite (fun c1 => ?_) (fun c1 => ?_)
 ·rw [i_lt, g_curCount h, S.2.2.2.1] at c1
  rw [g_curVal h, S.a_v (by omega) hj, Option.bind_some]
  refine okP.ite (fun e => okP.some (Or.inr ⟨j, hj, by omega, ?_⟩)) (fun e => okP.some (Or.inl ⟨rfl, no (fun _ w => e (i_eq.2 w))⟩))
  rw [← e]; rfl
 ·rw [i_lt, g_curCount h, S.2.2.2.1] at c1
  exact okP.some (Or.inl ⟨rfl, no (fun w => absurd w (by omega))⟩)
theorem look_ok {c : CT} {s : CT} {f : FT} {p : PT} {k : KT} {d : DT} {m : MT} {b : BT} {o : Ob} (h : A o = (c, s, f, p, k, d, m, b)) {T : Int} {n : Nat} (S : Sw T n c) (n15 : n ≤ 15) (x : Int32) : okP (F15 o x) (fun r => Rv c 0 n x.toInt r) := by
 have z0 : (0 : Int32).toInt = 0 := rfl
 unfold F15
 apply okP.bind
 refine okP.mono (io_ok h S n15 x) ?_
 rintro r (⟨r1, no⟩ | ⟨j, hj, jn, e⟩)
 ·rw [r1, if_pos (by decide), g_curDefault h]
  exact okP.some (Or.inr ⟨fun i _ hi => no i hi, rfl⟩)
 ·rw [if_neg (by rw [i_lt, z0]; omega), g_curTgt h, S.a_t jn hj, Option.bind_some]
  exact okP.some (Or.inl ⟨j, by omega, jn, e, rfl⟩)
theorem w_cur {c : CT} {s : CT} {f : FT} {p : PT} {k : KT} {d : DT} {m : MT} {b : BT} {o : Ob} (h : A o = (c, s, f, p, k, d, m, b)) (u v : List Int32) : A (sT (sR o u) v) = ((u, v, c.2.2), s, f, p, k, d, m, b) := by
 have : A (sT (sR o u) v) = ((u, v, (A o).1.2.2), (A o).2) := by dsimp only [A, fA, fB, fC, fD, fE, fF, fG, fH, fI, fJ, fK, fL, fM, fN, fR, fT, fU, fV, fW, fX, fY, fZ, fd, ff, fh, fi, fm, fq, fu, fy, fz, fxA, fxB, fxC, fxD, fxE, fxF, fxG, fxH, fxI, fxJ, fxK, fxL, fxM, fxN, fxO, fxP, fxQ, sA, sB, sC, sD, sE, sF, sG, sH, sI, sJ, sK, sL, sM, sN, sR, sT, sU, sV, sW, sX, sY, sZ, sd, sf, sh, si, sm, sq, su, sy, sz, sxA, sxB, sxC, sxD, sxE, sxF, sxG, sxH, sxI, sxJ, sxK, sxL, sxM, sxN, sxO, sxP, sxQ]
 rw [this, h]
theorem w_cnt {c : CT} {s : CT} {f : FT} {p : PT} {k : KT} {d : DT} {m : MT} {b : BT} {o : Ob} (h : A o = (c, s, f, p, k, d, m, b)) (u v : Int32) : A (sxH (sxF o u) v) = ((c.1, c.2.1, u, c.2.2.2.1, v), s, f, p, k, d, m, b) := by
 have : A (sxH (sxF o u) v) = (((A o).1.1, (A o).1.2.1, u, (A o).1.2.2.2.1, v), (A o).2) := by dsimp only [A, fA, fB, fC, fD, fE, fF, fG, fH, fI, fJ, fK, fL, fM, fN, fR, fT, fU, fV, fW, fX, fY, fZ, fd, ff, fh, fi, fm, fq, fu, fy, fz, fxA, fxB, fxC, fxD, fxE, fxF, fxG, fxH, fxI, fxJ, fxK, fxL, fxM, fxN, fxO, fxP, fxQ, sA, sB, sC, sD, sE, sF, sG, sH, sI, sJ, sK, sL, sM, sN, sR, sT, sU, sV, sW, sX, sY, sZ, sd, sf, sh, si, sm, sq, su, sy, sz, sxA, sxB, sxC, sxD, sxE, sxF, sxG, sxH, sxI, sxJ, sxK, sxL, sxM, sxN, sxO, sxP, sxQ]
 rw [this, h]
theorem w_def {c : CT} {s : CT} {f : FT} {p : PT} {k : KT} {d : DT} {m : MT} {b : BT} {o : Ob} (h : A o = (c, s, f, p, k, d, m, b)) (u v : Int32) : A (sxH (sxG o u) v) = ((c.1, c.2.1, c.2.2.1, u, v), s, f, p, k, d, m, b) := by
 have : A (sxH (sxG o u) v) = (((A o).1.1, (A o).1.2.1, (A o).1.2.2.1, u, v), (A o).2) := by dsimp only [A, fA, fB, fC, fD, fE, fF, fG, fH, fI, fJ, fK, fL, fM, fN, fR, fT, fU, fV, fW, fX, fY, fZ, fd, ff, fh, fi, fm, fq, fu, fy, fz, fxA, fxB, fxC, fxD, fxE, fxF, fxG, fxH, fxI, fxJ, fxK, fxL, fxM, fxN, fxO, fxP, fxQ, sA, sB, sC, sD, sE, sF, sG, sH, sI, sJ, sK, sL, sM, sN, sR, sT, sU, sV, sW, sX, sY, sZ, sd, sf, sh, si, sm, sq, su, sy, sz, sxA, sxB, sxC, sxD, sxE, sxF, sxG, sxH, sxI, sxJ, sxK, sxL, sxM, sxN, sxO, sxP, sxQ]
 rw [this, h]
def Ins (c c' : CT) (n j : Nat) (x t : Int32) : Prop := (∀ i, i < j → at' c'.1 i = at' c.1 i ∧ at' c'.2.1 i = at' c.2.1 i) ∧ (at' c'.1 j = x ∧ at' c'.2.1 j = t) ∧ ∀ i, j < i → i ≤ n → at' c'.1 i = at' c.1 (i - 1) ∧ at' c'.2.1 i = at' c.2.1 (i - 1)
theorem Ins.sw {T : Int} {n j : Nat} {c c' : CT} {x t : Int32} (S : Sw T n c) (I : Ins c c' n j x t) (jn : j ≤ n) (n63 : n < 64) (H1 : ∀ i, i < j → vv c i < x.toInt) (H2 : ∀ i, j ≤ i → i < n → x.toInt < vv c i) (t0 : 0 ≤ t.toInt) (t1 : t.toInt < T) (l1 : c'.1.length = 64) (l2 : c'.2.1.length = 64) (hc : c'.2.2.1.toInt = ((n + 1 : Nat) : Int)) (hd : c'.2.2.2.1 = c.2.2.2.1) : Sw T (n + 1) c' := by
 obtain ⟨I1, I2, I3⟩ := I
 have vE : ∀ i, i ≤ n → vv c' i = if i < j then vv c i else if i = j then x.toInt else vv c (i - 1) := by
  intro i hi
  unfold vv gd
  by_cases w : i < j
  ·rw [if_pos w, (I1 i w).1]
  ·rw [if_neg w]
   by_cases w2 : i = j
   ·rw [if_pos w2, w2, I2.1]
   ·rw [if_neg w2, (I3 i (by omega) hi).1]
 refine ⟨l1, l2, by omega, hc, fun i i' hi hi' => ?_, fun i hi => ?_, by rw [hd]; exact S.2.2.2.2.2.2⟩
 ·have so := S.2.2.2.2.1
  rw [vE i (by omega), vE i' (by omega)]
  by_cases a1 : i < j
  ·rw [if_pos a1]
   by_cases a2 : i' < j
   ·rw [if_pos a2]; exact so i i' hi (by omega)
   ·rw [if_neg a2]
    by_cases a3 : i' = j
    ·rw [if_pos a3]; exact H1 i a1
    ·rw [if_neg a3]; exact so i (i' - 1) (by omega) (by omega)
  ·rw [if_neg a1, if_neg (show ¬ i' < j by omega), if_neg (show ¬ i' = j by omega)]
   by_cases a3 : i = j
   ·rw [if_pos a3]; exact H2 (i' - 1) (by omega) (by omega)
   ·rw [if_neg a3]; exact so (i - 1) (i' - 1) (by omega) (by omega)
 ·have ta := S.2.2.2.2.2.1
  unfold tt' at *
  rcases Nat.lt_trichotomy i j with w | w | w
  ·rw [(I1 i w).2]; exact ta i (by omega)
  ·rw [w, I2.2]; exact ⟨t0, t1⟩
  ·rw [(I3 i w (by omega)).2]; exact ta (i - 1) (by omega)
theorem Ins.rv {n j : Nat} {c c' : CT} {x t : Int32} (I : Ins c c' n j x t) (jn : j ≤ n) (hd : c'.2.2.2.1 = c.2.2.2.1) (nx : ∀ i, i < n → vv c i ≠ x.toInt) {y : Int} {r : Int32} : Rv c' 0 (n + 1) y r ↔ if y = x.toInt then r = t else Rv c 0 n y r := by
 obtain ⟨I1, I2, I3⟩ := I
 have key : (∃ i, 0 ≤ i ∧ i < n + 1 ∧ vv c' i = y ∧ r = tt' c' i) ↔ (y = x.toInt ∧ r = t) ∨ ∃ i, 0 ≤ i ∧ i < n ∧ vv c i = y ∧ r = tt' c i := by
  unfold vv gd tt'
  constructor
  ·rintro ⟨i, i1, i2, i3, i4⟩
   rcases Nat.lt_trichotomy i j with w | w | w
   ·rw [(I1 i w).1] at i3
    rw [(I1 i w).2] at i4
    exact Or.inr ⟨i, i1, by omega, i3, i4⟩
   ·rw [w, I2.1] at i3
    rw [w, I2.2] at i4
    exact Or.inl ⟨i3.symm, i4⟩
   ·rw [(I3 i w (by omega)).1] at i3
    rw [(I3 i w (by omega)).2] at i4
    exact Or.inr ⟨i - 1, by omega, by omega, i3, i4⟩
  ·rintro (⟨e1, e2⟩ | ⟨i, i1, i2, i3, i4⟩)
   ·exact ⟨j, by omega, by omega, by rw [I2.1]; exact e1.symm, by rw [I2.2]; exact e2⟩
   ·rcases Nat.lt_or_ge i j with w | w
    ·exact ⟨i, i1, by omega, by rw [(I1 i w).1]; exact i3, by rw [(I1 i w).2]; exact i4⟩
    ·exact ⟨i + 1, by omega, by omega, by rw [(I3 (i + 1) (by omega) (by omega)).1]; exact i3, by rw [(I3 (i + 1) (by omega) (by omega)).2]; exact i4⟩
 have no : (∀ i, 0 ≤ i → i < n + 1 → vv c' i ≠ y) ↔ y ≠ x.toInt ∧ ∀ i, 0 ≤ i → i < n → vv c i ≠ y := by
  unfold vv gd
  constructor
  ·intro w
   refine ⟨fun e => w j (by omega) (by omega) (by rw [I2.1]; exact e.symm), fun i i1 i2 i3 => ?_⟩
   rcases Nat.lt_or_ge i j with q | q
   ·exact w i i1 (by omega) (by rw [(I1 i q).1]; exact i3)
   ·exact w (i + 1) (by omega) (by omega) (by rw [(I3 (i + 1) (by omega) (by omega)).1]; exact i3)
  ·rintro ⟨w1, w2⟩ i i1 i2 i3
   rcases Nat.lt_trichotomy i j with w | w | w
   ·rw [(I1 i w).1] at i3; exact w2 i i1 (by omega) i3
   ·rw [w, I2.1] at i3; exact w1 i3.symm
   ·rw [(I3 i w (by omega)).1] at i3; exact w2 (i - 1) (by omega) (by omega) i3
 have dd' : df c' = df c := hd
 unfold Rv
 rw [key, no, dd']
 by_cases e : y = x.toInt
 ·rw [if_pos e]
  constructor
  ·rintro ((⟨_, z⟩ | ⟨i, _, i2, i3, _⟩) | ⟨⟨z, _⟩, _⟩)
   ·exact z
   ·exact absurd (i3.trans e) (nx i i2)
   ·exact absurd e z
  ·intro z; exact Or.inl (Or.inl ⟨e, z⟩)
 ·rw [if_neg e]
  constructor
  ·rintro ((⟨z, _⟩ | z) | ⟨⟨_, z⟩, z2⟩)
   ·exact absurd z e
   ·exact Or.inl z
   ·exact Or.inr ⟨z, z2⟩
  ·rintro (z | ⟨z, z2⟩)
   ·exact Or.inl (Or.inr z)
   ·exact Or.inr ⟨⟨e, z⟩, z2⟩
theorem add_ok {c : CT} {s : CT} {f : FT} {p : PT} {k : KT} {d : DT} {m : MT} {b : BT} {o : Ob} (h : A o = (c, s, f, p, k, d, m, b)) {T : Int} {n : Nat} (S : Sw T n c) (T16 : T ≤ 16) (n15 : n ≤ 14) (hT : f.2.1.toInt = T) (x t : Int32) : okP (F25 o x t) (fun w => (w = (3, o) ∧ ¬ (0 ≤ t.toInt ∧ t.toInt < T)) ∨ ((0 ≤ t.toInt ∧ t.toInt < T) ∧ ((w = (2, o) ∧ ∃ i, i < n ∧ vv c i = x.toInt) ∨ ((∀ i, i < n → vv c i ≠ x.toInt) ∧ ((w = (1, o) ∧ f.1.toInt ≤ n) ∨ ((n : Int) < f.1.toInt ∧ w.1 = 0 ∧ ∃ c' j, A w.2 = (c', s, f, p, k, d, m, b) ∧ j ≤ n ∧ Ins c c' n j x t ∧ Sw T (n + 1) c' ∧ c'.2.2.2.1 = c.2.2.2.1 ∧ c'.2.2.2.2 = 1)))))) := by
 have z0 : (0 : Int32).toInt = 0 := rfl
 have z1 : (1 : Int32).toInt = 1 := rfl
 have zm : (-1 : Int32).toInt = -1 := rfl
 obtain ⟨l1, l2, n64, cc, so, ta, de⟩ := id S
 unfold F25
 refine okP.ite (fun c1 => okP.some (Or.inl ⟨rfl, by rw [i_lt, z0] at c1; omega⟩)) (fun c1 => ?_)
 rw [g_targets h]
 refine okP.ite (fun c2 => ?_) (fun c2 => okP.some (Or.inl ⟨rfl, by rw [i_lt] at c2; omega⟩))
 rw [i_lt, z0] at c1
 rw [i_lt, hT] at c2
 have tt0 : 0 ≤ t.toInt ∧ t.toInt < T := ⟨by omega, c2⟩
 refine okP.mono (P := fun w => ((w = (2, o) ∧ ∃ i, i < n ∧ vv c i = x.toInt) ∨ ((∀ i, i < n → vv c i ≠ x.toInt) ∧ ((w = (1, o) ∧ f.1.toInt ≤ n) ∨ ((n : Int) < f.1.toInt ∧ w.1 = 0 ∧ ∃ c' j, A w.2 = (c', s, f, p, k, d, m, b) ∧ j ≤ n ∧ Ins c c' n j x t ∧ Sw T (n + 1) c' ∧ c'.2.2.2.1 = c.2.2.2.1 ∧ c'.2.2.2.2 = 1))))) ?_ (fun w hw => Or.inr ⟨tt0, hw⟩)
 apply okP.bind
 refine okP.mono (lb_ok h S (by omega) x) ?_
 rintro r ⟨j, hj, jn, H1, H2⟩
 have no : (∀ w : j < n, vv c j ≠ x.toInt) → ∀ i, i < n → vv c i ≠ x.toInt := by
  intro w i hi e
  rcases Nat.lt_trichotomy i j with q | q | q
  ·have := H1 i q; omega
  ·subst q; exact w hi e
  ·have a1 := so j i q hi
   have a2 := H2 j (Nat.le_refl _) (by omega)
   omega
 have go : (∀ w : j < n, vv c j ≠ x.toInt) → okP (J25_40 o x t r) (fun w => ((w = (2, o) ∧ ∃ i, i < n ∧ vv c i = x.toInt) ∨ ((∀ i, i < n → vv c i ≠ x.toInt) ∧ ((w = (1, o) ∧ f.1.toInt ≤ n) ∨ ((n : Int) < f.1.toInt ∧ w.1 = 0 ∧ ∃ c' j, A w.2 = (c', s, f, p, k, d, m, b) ∧ j ≤ n ∧ Ins c c' n j x t ∧ Sw T (n + 1) c' ∧ c'.2.2.2.1 = c.2.2.2.1 ∧ c'.2.2.2.2 = 1))))) := by
  intro nj
  have nx := no nj
  have H2' : ∀ i, j ≤ i → i < n → x.toInt < vv c i := by
   intro i i1 i2
   have a1 := H2 i i1 i2
   have a2 := nx i i2
   omega
  unfold J25_40
  rw [g_curCount h, g_cap h]
  refine okP.ite (fun c3 => ?_) (fun c3 => okP.some (Or.inr ⟨nx, Or.inl ⟨rfl, by rw [i_lt, cc] at c3; omega⟩⟩))
  rw [i_lt, cc] at c3
  apply okP.bind
  refine okP.mono (P := fun q => ∃ u v, A q = ((u, v, c.2.2), s, f, p, k, d, m, b) ∧ u.length = 64 ∧ v.length = 64 ∧ (∀ i, i < j → at' u i = at' c.1 i ∧ at' v i = at' c.2.1 i) ∧ ∀ i, j < i → i ≤ n → at' u i = at' c.1 (i - 1) ∧ at' v i = at' c.2.1 (i - 1)) ?_ ?_
  ·refine okP.loop (fun w : Int32 × Ob => ∃ (i : Nat) (u v : List Int32), w.1.toInt = (i : Int) ∧ j ≤ i ∧ i ≤ n ∧ A w.2 = ((u, v, c.2.2), s, f, p, k, d, m, b) ∧ u.length = 64 ∧ v.length = 64 ∧ (∀ a, a ≤ i → a < n → at' u a = at' c.1 a ∧ at' v a = at' c.2.1 a) ∧ ∀ a, i < a → a ≤ n → at' u a = at' c.1 (a - 1) ∧ at' v a = at' c.2.1 (a - 1)) (fun w => w.1.toInt.toNat) ⟨n, c.1, c.2.1, cc, jn, Nat.le_refl _, h, l1, l2, fun a _ _ => ⟨rfl, rfl⟩, fun a a1 a2 => absurd a2 (by omega)⟩ (by show c.2.2.1.toInt.toNat < 4000; omega) ?_
   rintro ⟨y, q⟩ ⟨i, u, v, hy, ji, iN, hq, lu, lv, U1, U2⟩
   simp only at hy hq
   unfold B25_59
   simp only
   refine okP.ite (fun c4 => ?_) (fun c4 => ?_)
   ·rw [i_lt] at c4
    have e1 : (y - 1).toInt = ((i - 1 : Nat) : Int) := by rw [i_sub (by omega) (by omega), z1]; omega
    have e2 : (y + -1).toInt = ((i - 1 : Nat) : Int) := by rw [i_add (by omega) (by omega), zm]; omega
    generalize y - 1 = y1 at e1 ⊢
    generalize y + -1 = y2 at e2 ⊢
    have ti := ta (i - 1) (by omega)
    have ut := (U1 (i - 1) (by omega) (by omega)).2
    have ut' : at' v (i - 1) = tt' c (i - 1) := ut
    rw [g_curVal hq, ag e1 (by show i - 1 < u.length; omega), Option.bind_some, aset_at hy (by show i < u.length; omega), Option.bind_some, g_curTgt hq, ag e1 (by show i - 1 < v.length; omega), Option.bind_some]
    simp only
    rw [ut', (b8 ti.1 (by omega)).2, aset_at hy (by omega), Option.bind_some]
    refine okP.some ⟨⟨i - 1, u.set i (at' u (i - 1)), v.set i (tt' c (i - 1)), e2, by omega, by omega, w_cur hq _ _, ls lu, ls lv, fun a a1 a2 => ?_, fun a a1 a2 => ?_⟩, by simp only; omega⟩
    ·rw [at_set (by omega), at_set (by omega), if_neg (by omega), if_neg (by omega)]
     exact U1 a (by omega) a2
    ·rw [at_set (by omega), at_set (by omega)]
     by_cases e : a = i
     ·rw [if_pos e, if_pos e, e]
      exact ⟨(U1 (i - 1) (by omega) (by omega)).1, rfl⟩
     ·rw [if_neg e, if_neg e]
      exact U2 a (by omega) a2
   ·rw [i_lt] at c4
    have : i = j := by omega
    subst this
    exact okP.some ⟨u, v, hq, lu, lv, fun a ha => U1 a (by omega) (by omega), U2⟩
  ·rintro q ⟨u, v, hq, lu, lv, U1, U2⟩
   have ec : (c.2.2.1 + 1).toInt = c.2.2.1.toInt + 1 := inc1 (by omega)
   rw [g_curVal hq, aset_at hj (by show j < u.length; omega), Option.bind_some, g_curTgt hq, (b8 tt0.1 (by omega)).1, aset_at hj (by show j < v.length; omega), Option.bind_some, g_curCount hq]
   simp only
   generalize hN : c.2.2.1 + 1 = N at ec ⊢
   have hw := w_cnt (w_cur hq (u.set j x) (v.set j t)) N 1
   simp only at hw
   have I : Ins c (u.set j x, v.set j t, N, c.2.2.2.1, 1) n j x t := by
    refine ⟨fun i hi => ?_, ⟨?_, ?_⟩, fun i i1 i2 => ?_⟩
    ·simp only
     rw [at_set (by omega), at_set (by omega), if_neg (by omega), if_neg (by omega)]
     exact U1 i hi
    ·simp only; rw [at_set (by omega), if_pos rfl]
    ·simp only; rw [at_set (by omega), if_pos rfl]
    ·simp only
     rw [at_set (by omega), at_set (by omega), if_neg (by omega), if_neg (by omega)]
     exact U2 i i1 i2
   exact okP.some (Or.inr ⟨nx, Or.inr ⟨by omega, rfl, _, j, hw, jn, I, I.sw S jn (by omega) H1 H2' tt0.1 tt0.2 (ls lu) (ls lv) (by simp only; omega) rfl, rfl, rfl⟩⟩)
 refine okP.ite (fun c3 => ?_) (fun c3 => ?_)
 ·rw [i_lt, g_curCount h, cc] at c3
  rw [g_curVal h, S.a_v (by omega) hj, Option.bind_some]
  refine okP.ite (fun e => okP.some (Or.inl ⟨rfl, j, by omega, by rw [← e]; rfl⟩)) (fun e => go (fun _ w => e (i_eq.2 w)))
 ·rw [i_lt, g_curCount h, cc] at c3
  exact go (fun w => absurd w (by omega))

theorem Rv.det {T : Int} {n : Nat} {s : CT} (S : Sw T n s) {x : Int} {r r' : Int32} (h : Rv s 0 n x r) (h' : Rv s 0 n x r') : r = r' := by
 rcases h with ⟨i, i1, i2, i3, i4⟩ | ⟨h1, h2⟩
 ·rcases h' with ⟨j, j1, j2, j3, j4⟩ | ⟨h1', h2'⟩
  ·have := vv_inj S i2 j2 (i3.trans j3.symm)
   rw [i4, j4, this]
  ·exact absurd i3 (h1' i i1 i2)
 ·rcases h' with ⟨j, j1, j2, j3, j4⟩ | ⟨h1', h2'⟩
  ·exact absurd j3 (h1 j j1 j2)
  ·rw [h2, h2']
def Rem (c c' : CT) (n j : Nat) : Prop := (∀ i, i < j → at' c'.1 i = at' c.1 i ∧ at' c'.2.1 i = at' c.2.1 i) ∧ ∀ i, j ≤ i → i + 1 < n → at' c'.1 i = at' c.1 (i + 1) ∧ at' c'.2.1 i = at' c.2.1 (i + 1)
theorem Rem.sw {T : Int} {n j : Nat} {c c' : CT} (S : Sw T (n + 1) c) (I : Rem c c' (n + 1) j) (l1 : c'.1.length = 64) (l2 : c'.2.1.length = 64) (hc : c'.2.2.1.toInt = (n : Nat)) (hd : c'.2.2.2.1 = c.2.2.2.1) : Sw T n c' := by
 obtain ⟨I1, I2⟩ := I
 have so := S.2.2.2.2.1
 have vE : ∀ i, i < n → vv c' i = if i < j then vv c i else vv c (i + 1) := by
  intro i hi
  unfold vv gd
  by_cases w : i < j
  ·rw [if_pos w, (I1 i w).1]
  ·rw [if_neg w, (I2 i (by omega) (by omega)).1]
 refine ⟨l1, l2, by have := S.2.2.1; omega, hc, fun i i' hi hi' => ?_, fun i hi => ?_, by rw [hd]; exact S.2.2.2.2.2.2⟩
 ·rw [vE i (by omega), vE i' hi']
  by_cases a1 : i < j
  ·rw [if_pos a1]
   split
   ·exact so i i' hi (by omega)
   ·exact so i (i' + 1) (by omega) (by omega)
  ·rw [if_neg a1, if_neg (by omega)]
   exact so (i + 1) (i' + 1) (by omega) (by omega)
 ·have ta := S.2.2.2.2.2.1
  unfold tt' at *
  by_cases w : i < j
  ·rw [(I1 i w).2]; exact ta i (by omega)
  ·rw [(I2 i (by omega) (by omega)).2]; exact ta (i + 1) (by omega)
theorem Rem.rv {T : Int} {n j : Nat} {c c' : CT} (S : Sw T (n + 1) c) (I : Rem c c' (n + 1) j) (jn : j < n + 1) (hd : c'.2.2.2.1 = c.2.2.2.1) {y : Int} {r : Int32} : Rv c' 0 n y r ↔ if y = vv c j then r = df c else Rv c 0 (n + 1) y r := by
 obtain ⟨I1, I2⟩ := I
 have key : ∀ (Q : Int → Int32 → Prop), (∃ i, i < n ∧ Q (vv c' i) (tt' c' i)) ↔ ∃ i, i < n + 1 ∧ i ≠ j ∧ Q (vv c i) (tt' c i) := by
  intro Q
  unfold vv gd tt'
  constructor
  ·rintro ⟨i, i1, i2⟩
   by_cases w : i < j
   ·rw [(I1 i w).1, (I1 i w).2] at i2
    exact ⟨i, by omega, by omega, i2⟩
   ·rw [(I2 i (by omega) (by omega)).1, (I2 i (by omega) (by omega)).2] at i2
    exact ⟨i + 1, by omega, by omega, i2⟩
  ·rintro ⟨i, i1, i2, i3⟩
   by_cases w : i < j
   ·exact ⟨i, by omega, by rw [(I1 i w).1, (I1 i w).2]; exact i3⟩
   ·obtain ⟨i', e⟩ : ∃ i', i = i' + 1 := ⟨i - 1, by omega⟩
    subst e
    exact ⟨i', by omega, by rw [(I2 i' (by omega) (by omega)).1, (I2 i' (by omega) (by omega)).2]; exact i3⟩
 have k1 : (∃ i, 0 ≤ i ∧ i < n ∧ vv c' i = y ∧ r = tt' c' i) ↔ ∃ i, i < n + 1 ∧ i ≠ j ∧ vv c i = y ∧ r = tt' c i := by
  have := key (fun v t => v = y ∧ r = t)
  constructor
  ·rintro ⟨i, _, i2⟩; exact this.1 ⟨i, i2⟩
  ·intro w
   obtain ⟨i, i2⟩ := this.2 w
   exact ⟨i, by omega, i2⟩
 have k2 : (∀ i, 0 ≤ i → i < n → vv c' i ≠ y) ↔ ∀ i, i < n + 1 → i ≠ j → vv c i ≠ y := by
  have := key (fun v _ => v = y)
  constructor
  ·intro w i i1 i2 i3
   obtain ⟨i', a1, a2⟩ := this.2 ⟨i, i1, i2, i3⟩
   exact w i' (by omega) a1 a2
  ·intro w i _ i2 i3
   obtain ⟨i', a1, a2, a3⟩ := this.1 ⟨i, i2, i3⟩
   exact w i' a1 a2 a3
 have dd' : df c' = df c := hd
 unfold Rv
 rw [k1, k2, dd']
 by_cases e : y = vv c j
 ·rw [if_pos e]
  have un : ∀ i, i < n + 1 → i ≠ j → vv c i ≠ y := fun i i1 i2 i3 => i2 (vv_inj S i1 jn (i3.trans e))
  constructor
  ·rintro (⟨i, i1, i2, i3, _⟩ | ⟨_, z⟩)
   ·exact absurd i3 (un i i1 i2)
   ·exact z
  ·intro z; exact Or.inr ⟨un, z⟩
 ·rw [if_neg e]
  constructor
  ·rintro (⟨i, i1, i2, i3, i4⟩ | ⟨z1, z2⟩)
   ·exact Or.inl ⟨i, by omega, i1, i3, i4⟩
   ·refine Or.inr ⟨fun i _ i2 i3 => ?_, z2⟩
    by_cases w : i = j
    ·subst w; exact e i3.symm
    ·exact z1 i i2 w i3
  ·rintro (⟨i, i1, i2, i3, i4⟩ | ⟨z1, z2⟩)
   ·exact Or.inl ⟨i, i2, fun w => by subst w; exact e i3.symm, i3, i4⟩
   ·exact Or.inr ⟨fun i i1 _ => z1 i (by omega) i1, z2⟩
theorem rem_ok {c : CT} {s : CT} {f : FT} {p : PT} {k : KT} {d : DT} {m : MT} {b : BT} {o : Ob} (h : A o = (c, s, f, p, k, d, m, b)) {T : Int} {n : Nat} (S : Sw T n c) (T16 : T ≤ 16) (n15 : n ≤ 15) (x : Int32) : okP (F39 o x) (fun w => (w = (4, o) ∧ ∀ i, i < n → vv c i ≠ x.toInt) ∨ (w.1 = 0 ∧ ∃ c' j n', n = n' + 1 ∧ A w.2 = (c', s, f, p, k, d, m, b) ∧ j < n ∧ vv c j = x.toInt ∧ Rem c c' n j ∧ Sw T n' c' ∧ c'.2.2.2.1 = c.2.2.2.1 ∧ c'.2.2.2.2 = 1)) := by
 have z0 : (0 : Int32).toInt = 0 := rfl
 have z1 : (1 : Int32).toInt = 1 := rfl
 obtain ⟨l1, l2, n64, cc, so, ta, de⟩ := id S
 unfold F39
 apply okP.bind
 refine okP.mono (io_ok h S n15 x) ?_
 rintro r (⟨r1, no⟩ | ⟨j, hj, jn, e⟩)
 ·rw [r1, if_pos (by decide)]
  exact okP.some (Or.inl ⟨rfl, no⟩)
 ·rw [if_neg (by rw [i_lt, z0]; omega)]
  apply okP.bind
  refine okP.mono (P := fun q => ∃ u v, A q = ((u, v, c.2.2), s, f, p, k, d, m, b) ∧ u.length = 64 ∧ v.length = 64 ∧ (∀ i, i < j → at' u i = at' c.1 i ∧ at' v i = at' c.2.1 i) ∧ ∀ i, j ≤ i → i + 1 < n → at' u i = at' c.1 (i + 1) ∧ at' v i = at' c.2.1 (i + 1)) ?_ ?_
  ·refine okP.loop (fun w : Int32 × Ob => ∃ (i : Nat) (u v : List Int32), w.1.toInt = (i : Int) ∧ j ≤ i ∧ i < n ∧ A w.2 = ((u, v, c.2.2), s, f, p, k, d, m, b) ∧ u.length = 64 ∧ v.length = 64 ∧ (∀ a, a < j → at' u a = at' c.1 a ∧ at' v a = at' c.2.1 a) ∧ (∀ a, j ≤ a → a < i → at' u a = at' c.1 (a + 1) ∧ at' v a = at' c.2.1 (a + 1)) ∧ ∀ a, i ≤ a → a < n → at' u a = at' c.1 a ∧ at' v a = at' c.2.1 a) (fun w => (100 - w.1.toInt).toNat) ⟨j, c.1, c.2.1, hj, Nat.le_refl _, jn, h, l1, l2, fun a _ => ⟨rfl, rfl⟩, fun a a1 a2 => absurd a2 (by omega), fun a _ _ => ⟨rfl, rfl⟩⟩ (by show (100 - r.toInt).toNat < 4000; omega) ?_
   rintro ⟨y, q⟩ ⟨i, u, v, hy, ji, iN, hq, lu, lv, U0, U1, U2⟩
   simp only at hy hq
   unfold B39_14
   simp only
   have e1 : (y + 1).toInt = ((i + 1 : Nat) : Int) := by rw [inc1 (by omega)]; omega
   generalize y + 1 = y1 at e1 ⊢
   refine okP.ite (fun c4 => ?_) (fun c4 => ?_)
   ·rw [i_lt, g_curCount hq] at c4
    have c4' : y1.toInt < c.2.2.1.toInt := c4
    have ti := ta (i + 1) (by omega)
    have ut' : at' v (i + 1) = tt' c (i + 1) := (U2 (i + 1) (by omega) (by omega)).2
    rw [g_curVal hq, ag e1 (by show i + 1 < u.length; omega), Option.bind_some, aset_at hy (by show i < u.length; omega), Option.bind_some, g_curTgt hq, ag e1 (by show i + 1 < v.length; omega), Option.bind_some]
    simp only
    rw [ut', (b8 ti.1 (by omega)).2, aset_at hy (by omega), Option.bind_some]
    refine okP.some ⟨⟨i + 1, u.set i (at' u (i + 1)), v.set i (tt' c (i + 1)), e1, by omega, by omega, w_cur hq _ _, ls lu, ls lv, fun a a1 => ?_, fun a a1 a2 => ?_, fun a a1 a2 => ?_⟩, by simp only; omega⟩
    ·rw [at_set (by omega), at_set (by omega), if_neg (by omega), if_neg (by omega)]
     exact U0 a a1
    ·rw [at_set (by omega), at_set (by omega)]
     by_cases e : a = i
     ·rw [if_pos e, if_pos e, e]
      exact ⟨(U2 (i + 1) (by omega) (by omega)).1, rfl⟩
     ·rw [if_neg e, if_neg e]
      exact U1 a a1 (by omega)
    ·rw [at_set (by omega), at_set (by omega), if_neg (by omega), if_neg (by omega)]
     exact U2 a (by omega) a2
   ·rw [i_lt, g_curCount hq] at c4
    have c4' : ¬ y1.toInt < c.2.2.1.toInt := c4
    exact okP.some ⟨u, v, hq, lu, lv, U0, fun a a1 a2 => U1 a a1 (by omega)⟩
  ·rintro q ⟨u, v, hq, lu, lv, U1, U2⟩
   obtain ⟨n', en⟩ : ∃ n', n = n' + 1 := ⟨n - 1, by omega⟩
   subst en
   have ec : (c.2.2.1 - 1).toInt = (n' : Nat) := by rw [i_sub (by omega) (by omega), z1]; omega
   rw [g_curCount hq]
   simp only
   generalize c.2.2.1 - 1 = N at ec ⊢
   have hw := w_cnt hq N 1
   simp only at hw
   have I : Rem c (u, v, N, c.2.2.2.1, 1) (n' + 1) j := ⟨U1, U2⟩
   exact okP.some (Or.inr ⟨rfl, _, j, n', rfl, hw, jn, e, I, I.sw S lu lv ec rfl, rfl, rfl⟩)
def Ok (T cp : Int) (n : Nat) (c s : CT) (o : Ob) : Prop := ∃ f p k d m b, A o = (c, s, f, p, k, d, m, b) ∧ Sw T n c ∧ LA f p k d m b ∧ f.1.toInt = cp ∧ f.2.1.toInt = T ∧ (n : Int) ≤ cp ∧ (c.2.2.2.2 = 0 ∨ c.2.2.2.2 = 1) ∧ (s.1.length = 64 ∧ s.2.1.length = 64) ∧ (s.2.2.2.2 = 0 ∨ (s.2.2.2.2 = 1 ∧ (∃ ns : Nat, (ns : Int) ≤ cp ∧ Sw T ns s ∧ Cde s ns d m) ∧ (c.2.2.2.2 = 0 → Same n c s)))
def Rst (T cp : Int) (s : CT) (f : FT) (p : PT) (k : KT) (d : DT) (m : MT) (b : BT) : Prop := LA f p k d m b ∧ f.1.toInt = cp ∧ f.2.1.toInt = T ∧ (s.1.length = 64 ∧ s.2.1.length = 64) ∧ (s.2.2.2.2 = 0 ∨ (s.2.2.2.2 = 1 ∧ ∃ ns : Nat, (ns : Int) ≤ cp ∧ Sw T ns s ∧ Cde s ns d m))
theorem Ok.rst {T cp : Int} {n : Nat} {c s : CT} {o : Ob} (O : Ok T cp n c s o) : ∃ f p k d m b, A o = (c, s, f, p, k, d, m, b) ∧ Sw T n c ∧ (n : Int) ≤ cp ∧ Rst T cp s f p k d m b := by
 obtain ⟨f, p, k, d, m, b, h, S, La, f1, f2, nc, _, sl, hs⟩ := O
 exact ⟨f, p, k, d, m, b, h, S, nc, La, f1, f2, sl, hs.imp id (fun w => ⟨w.1, w.2.1⟩)⟩
theorem Rst.ok {T cp : Int} {n : Nat} {c s : CT} {o : Ob} {f : FT} {p : PT} {k : KT} {d : DT} {m : MT} {b : BT} (R : Rst T cp s f p k d m b) (h : A o = (c, s, f, p, k, d, m, b)) (S : Sw T n c) (nc : (n : Int) ≤ cp) (h1 : c.2.2.2.2 = 1) : Ok T cp n c s o := by
 obtain ⟨La, f1, f2, sl, hs⟩ := R
 refine ⟨f, p, k, d, m, b, h, S, La, f1, f2, nc, Or.inr h1, sl, hs.imp id (fun w => ⟨w.1, w.2, fun z => ?_⟩)⟩
 rw [h1] at z
 exact absurd z (by decide)
theorem Ok.add {T cp : Int} {n : Nat} {c s : CT} {o : Ob} (O : Ok T cp n c s o) (T16 : T ≤ 16) (n14 : n ≤ 14) (x t : Int32) : okP (F25 o x t) (fun w => (w = (3, o) ∧ ¬ (0 ≤ t.toInt ∧ t.toInt < T)) ∨ ((0 ≤ t.toInt ∧ t.toInt < T) ∧ ((w = (2, o) ∧ ∃ i, i < n ∧ vv c i = x.toInt) ∨ ((∀ i, i < n → vv c i ≠ x.toInt) ∧ ((w = (1, o) ∧ cp ≤ n) ∨ ((n : Int) < cp ∧ w.1 = 0 ∧ ∃ c' j, Ok T cp (n + 1) c' s w.2 ∧ j ≤ n ∧ Ins c c' n j x t ∧ c'.2.2.2.1 = c.2.2.2.1 ∧ c'.2.2.2.2 = 1)))))) := by
 obtain ⟨f, p, k, d, m, b, h, S, nc, R⟩ := O.rst
 have f1 := R.2.1
 refine okP.mono (add_ok h S T16 n14 R.2.2.1 x t) ?_
 rintro w (w1 | ⟨w1, w2 | ⟨w2, ⟨w3, w4⟩ | ⟨w3, w4, c', j, w5, w6, w7, w8, w9, w10⟩⟩⟩)
 ·exact Or.inl w1
 ·exact Or.inr ⟨w1, Or.inl w2⟩
 ·exact Or.inr ⟨w1, Or.inr ⟨w2, Or.inl ⟨w3, by omega⟩⟩⟩
 ·exact Or.inr ⟨w1, Or.inr ⟨w2, Or.inr ⟨by omega, w4, c', j, R.ok w5 w8 (by omega) w10, w6, w7, w9, w10⟩⟩⟩
theorem Ok.rem {T cp : Int} {n : Nat} {c s : CT} {o : Ob} (O : Ok T cp n c s o) (T16 : T ≤ 16) (n15 : n ≤ 15) (x : Int32) : okP (F39 o x) (fun w => (w = (4, o) ∧ ∀ i, i < n → vv c i ≠ x.toInt) ∨ (w.1 = 0 ∧ ∃ c' j n', n = n' + 1 ∧ Ok T cp n' c' s w.2 ∧ j < n ∧ vv c j = x.toInt ∧ Rem c c' n j ∧ c'.2.2.2.1 = c.2.2.2.1 ∧ c'.2.2.2.2 = 1)) := by
 obtain ⟨f, p, k, d, m, b, h, S, nc, R⟩ := O.rst
 refine okP.mono (rem_ok h S T16 n15 x) ?_
 rintro w (w1 | ⟨w1, c', j, n', w2, w3, w4, w5, w6, w7, w8, w9⟩)
 ·exact Or.inl w1
 ·exact Or.inr ⟨w1, c', j, n', w2, R.ok w3 w7 (by omega) w9, w4, w5, w6, w8, w9⟩
theorem Ok.fit0 {T cp : Int} {n : Nat} {c s : CT} {o : Ob} (O : Ok T cp n c s o) : ((fR o).length = 64 ∧ (fT o).length = 64 ∧ (fU o).length = 64 ∧ (fV o).length = 64) ∧ ((fW o).length = 65 ∧ (fX o).length = 65 ∧ (fY o).length = 64 ∧ (fZ o).length = 64 ∧ (fq o).length = 256) ∧ ((fd o).length = 160 ∧ (ff o).length = 160 ∧ (fh o).length = 160 ∧ (fi o).length = 160 ∧ (fm o).length = 160) ∧ ((fu o).length = 192 ∧ (fy o).length = 192) ∧ (fz o).length = 130 ∧ (fxA o).length = 130 ∧ (fxB o).length = 130 ∧ (fxC o).length = 130 := by
 obtain ⟨f, p, k, d, m, b, h, S, ⟨La1, La2, La3, La4, La5, La6⟩, f1, f2, nc, _, sl, hs⟩ := O
 rw [g_curVal h, g_curTgt h, g_snapVal h, g_snapTgt h, g_bestCost h, g_bestCut h, g_clStart h, g_clEnd h, show fq o = f.2.2.1 from congrArg (fun x : AT => x.2.2.1.2.2.1) h, g_opc h, g_argA h, g_argB h, g_argC h, g_argD h, g_maskPool h, g_maskTarget h, g_stLo h, g_stHi h, g_stParent h, g_stSlot h]
 exact ⟨⟨S.1, S.2.1, sl.1, sl.2⟩, ⟨La2.1, La2.2, La3.1, La3.2, La1⟩, La4, La5, La6⟩
theorem Ok.deflt {T cp : Int} {n : Nat} {c s : CT} {o : Ob} (O : Ok T cp n c s o) (x : Int32) : okP (F27 o x) (fun w => (w = (3, o) ∧ ¬ (0 ≤ x.toInt ∧ x.toInt < T)) ∨ ((0 ≤ x.toInt ∧ x.toInt < T) ∧ w.1 = 0 ∧ Ok T cp n (c.1, c.2.1, c.2.2.1, x, 1) s w.2)) := by
 have z0 : (0 : Int32).toInt = 0 := rfl
 obtain ⟨f, p, k, d, m, b, h, S, nc, R⟩ := O.rst
 have f2 := R.2.2.1
 unfold F27
 refine okP.ite (fun c1 => okP.some (Or.inl ⟨rfl, by rw [i_lt, z0] at c1; omega⟩)) (fun c1 => ?_)
 rw [g_targets h]
 refine okP.ite (fun c2 => ?_) (fun c2 => okP.some (Or.inl ⟨rfl, by rw [i_lt] at c2; omega⟩))
 rw [i_lt, z0] at c1
 rw [i_lt, f2] at c2
 refine okP.some (Or.inr ⟨⟨by omega, c2⟩, rfl, R.ok (w_def h x 1) ?_ nc rfl⟩)
 obtain ⟨s1, s2, s3, s4, s5, s6, s7⟩ := S
 exact ⟨s1, s2, s3, s4, s5, s6, by show 0 ≤ x.toInt; omega, c2⟩
theorem Ok.reset {T cp : Int} {n : Nat} {c s : CT} {o : Ob} (O : Ok T cp n c s o) (T0 : 0 < T) : okP (F3 o) (fun q => ∃ c' s', Ok T cp 0 c' s' q ∧ c'.2.2.1 = 0 ∧ c'.2.2.2.1 = 0 ∧ c'.2.2.2.2 = 0 ∧ s'.2.2.2.2 = 0) := by
 obtain ⟨f, p, k, d, m, b, h, S, La, f1, f2, nc, cd, sl, hs⟩ := id O
 unfold F3
 obtain ⟨La1, La2, La3, La4, La5, La6⟩ := La
 obtain ⟨q, hq⟩ : ∃ q, F3 o = some q := ⟨_, rfl⟩
 have e : A q = ((c.1, c.2.1, 0, 0, 0), (s.1, s.2.1, 0, 0, 0), (f.1, f.2.1, f.2.2.1, 0), p, (k.1, k.2.1, 0), (d.1, d.2.1, d.2.2.1, d.2.2.2.1, d.2.2.2.2.1, 0, 0), (m.1, m.2.1, 0), (b.1, b.2.1, b.2.2.1, b.2.2.2.1, 0)) := by
  unfold F3 at hq
  have := Option.some.inj hq
  rw [← this]
  have t : ∀ o, A o = ((fR o, fT o, fxF o, fxG o, fxH o), (fU o, fV o, fxI o, fxJ o, fxK o), (fxD o, fxE o, fq o, fxO o), (fW o, fX o), (fY o, fZ o, fxL o), (fd o, ff o, fh o, fi o, fm o, fxM o, fxN o), (fu o, fy o, fxP o), (fz o, fxA o, fxB o, fxC o, fxQ o)) := fun _ => rfl
  rw [← g_curVal h, ← g_curTgt h, ← g_snapVal h, ← g_snapTgt h, ← g_cap h, ← g_targets h, ← (show fq o = f.2.2.1 from congrArg (fun x : AT => x.2.2.1.2.2.1) h), ← (show (fW o, fX o) = p from congrArg (fun x : AT => x.2.2.2.1) h), ← g_clStart h, ← g_clEnd h, ← g_opc h, ← g_argA h, ← g_argB h, ← g_argC h, ← g_argD h, ← g_maskPool h, ← g_maskTarget h, ← g_stLo h, ← g_stHi h, ← g_stParent h, ← g_stSlot h]
  dsimp only [A, fA, fB, fC, fD, fE, fF, fG, fH, fI, fJ, fK, fL, fM, fN, fR, fT, fU, fV, fW, fX, fY, fZ, fd, ff, fh, fi, fm, fq, fu, fy, fz, fxA, fxB, fxC, fxD, fxE, fxF, fxG, fxH, fxI, fxJ, fxK, fxL, fxM, fxN, fxO, fxP, fxQ, sA, sB, sC, sD, sE, sF, sG, sH, sI, sJ, sK, sL, sM, sN, sR, sT, sU, sV, sW, sX, sY, sZ, sd, sf, sh, si, sm, sq, su, sy, sz, sxA, sxB, sxC, sxD, sxE, sxF, sxG, sxH, sxI, sxJ, sxK, sxL, sxM, sxN, sxO, sxP, sxQ]
 unfold F3 at hq
 rw [hq]
 refine okP.some ⟨_, _, ⟨_, _, _, _, _, _, e, ⟨S.1, S.2.1, by omega, rfl, fun i j _ hj => absurd hj (by omega), fun j hj => absurd hj (by omega), by show (0 : Int) ≤ 0; decide, T0⟩, ⟨La1, La2, La3, La4, La5, La6⟩, f1, f2, by show (0 : Int) ≤ cp; omega, Or.inl rfl, sl, Or.inl rfl⟩, rfl, rfl, rfl, rfl⟩
theorem Ok.lower {T cp : Int} {n : Nat} {c s : CT} {o : Ob} (O : Ok T cp n c s o) (n16 : n ≤ 16) (F : Few T n) (Na : Nr T n c) : okP (F4 o) (fun w => w.1 = c.2.2.1 ∧ ∃ s', Ok T cp n (c.1, c.2.1, c.2.2.1, c.2.2.2.1, 0) s' w.2 ∧ Same n c s' ∧ s'.2.2.2.2 = 1) := by
 obtain ⟨f, p, k, d, m, b, h, S, La, f1, f2, nc, cd, sl, hs⟩ := id O
 refine okP.mono (lower_ok h S n16 F Na sl.1 sl.2 La) ?_
 rintro w ⟨w1, s', f', p', k', d', m', b', w2, E, S', hs', Cd, La', g1, g2⟩
 refine ⟨w1, s', ⟨f', p', k', d', m', b', w2, S, La', by rw [g1]; exact f1, by rw [g2]; exact f2, nc, Or.inl rfl, ⟨S'.1, S'.2.1⟩, Or.inr ⟨hs', ⟨n, nc, S', Cd⟩, fun _ => E⟩⟩, E, hs'⟩
theorem Ok.route {T cp : Int} {n : Nat} {c s : CT} {o : Ob} (O : Ok T cp n c s o) (x : Int32) : okP (F18 o x) (fun r => (s.2.2.2.2 = 0 ∧ r = -1) ∨ (s.2.2.2.2 = 1 ∧ ∃ ns : Nat, Sw T ns s ∧ Rv s 0 ns x.toInt r)) := by
 obtain ⟨f, p, k, d, m, b, h, S, La, f1, f2, nc, cd, sl, hs⟩ := O
 unfold F18
 rw [g_hasSnap h]
 rcases hs with hs | ⟨hs, ⟨ns, n1, n2, n3⟩, _⟩
 ·rw [hs, if_pos rfl]
  exact okP.some (Or.inl ⟨rfl, rfl⟩)
 ·rw [hs, if_neg (by decide)]
  apply okP.bind
  exact okP.mono (run_ok h n2 n3 x) (fun r hr => okP.some (Or.inr ⟨rfl, ns, n2, hr⟩))
theorem Ok.look {T cp : Int} {n : Nat} {c s : CT} {o : Ob} (O : Ok T cp n c s o) (n15 : n ≤ 15) (x : Int32) : okP (F15 o x) (fun r => Rv c 0 n x.toInt r) := by
 obtain ⟨f, p, k, d, m, b, h, S, _⟩ := O
 exact look_ok h S n15 x
theorem Same.rt {T : Int} {n ns : Nat} {c s : CT} (S : Sw T n c) (S' : Sw T ns s) (E : Same n c s) {x : Int} {r : Int32} (h : Rv s 0 ns x r) : Rv c 0 n x r := by
 have : ns = n := by
  have a1 := S.2.2.2.1
  have a2 := S'.2.2.2.1
  rw [E.2.1] at a2
  omega
 subst this
 exact E.rv.1 h

def kc (P : Nat → Bool) : Nat → Nat
 | 0 => 0
 | n + 1 => kc P n + (if P n then 1 else 0)
theorem kc_le (P : Nat → Bool) : ∀ n, kc P n ≤ n
 | 0 => Nat.le_refl _
 | n + 1 => by
  have := kc_le P n
  show kc P n + (if P n then 1 else 0) ≤ n + 1
  split <;> omega
theorem kc_congr {P Q : Nat → Bool} : ∀ {n : Nat}, (∀ i, i < n → P i = Q i) → kc P n = kc Q n
 | 0, _ => rfl
 | n + 1, h => by
  show kc P n + (if P n then 1 else 0) = kc Q n + (if Q n then 1 else 0)
  rw [kc_congr (fun i hi => h i (by omega)), h n (by omega)]
theorem kc_stop {P : Nat → Bool} {a : Nat} : ∀ n, (∀ i, a ≤ i → i < a + n → P i = false) → kc P (a + n) = kc P a
 | 0, _ => rfl
 | n + 1, h => by
  show kc P (a + n) + (if P (a + n) then 1 else 0) = kc P a
  rw [h (a + n) (by omega) (by omega), kc_stop n (fun i i1 i2 => h i i1 (by omega))]; rfl
theorem slb_ok {c : CT} {s : CT} {f : FT} {p : PT} {k : KT} {d : DT} {m : MT} {b : BT} {o : Ob} (h : A o = (c, s, f, p, k, d, m, b)) {T : Int} {n : Nat} (S : Sw T n s) (n15 : n ≤ 15) (x : Int32) : okP (F22 o x) (fun r => ∃ j : Nat, r.toInt = (j : Int) ∧ j ≤ n ∧ (∀ i, i < j → vv s i < x.toInt) ∧ ∀ i, j ≤ i → i < n → x.toInt ≤ vv s i) := by
 have z16 : (16 : Int32).toInt = 16 := rfl
 have cc := S.2.2.2.1
 unfold F22
 rw [g_snapCount h]
 apply okP.bind
 refine okP.mono (P := fun r => ∃ j : Nat, r.toInt = (j : Int) ∧ j ≤ n ∧ (∀ i, i < j → vv s i < x.toInt) ∧ ∀ i, j ≤ i → i < n → x.toInt ≤ vv s i) ?_ (fun r hr => okP.some hr)
 refine okP.loop (fun w : Int32 × Int32 × Int32 => ∃ lo hi st : Nat, w.1.toInt = (lo : Int) ∧ w.2.1.toInt = (hi : Int) ∧ w.2.2.toInt = (st : Int) ∧ lo ≤ hi ∧ hi ≤ n ∧ hi - lo + st ≤ n ∧ (∀ i, i < lo → vv s i < x.toInt) ∧ ∀ i, hi ≤ i → i < n → x.toInt ≤ vv s i) (fun w => (100 - w.2.2.toInt).toNat) ⟨0, n, 0, rfl, cc, rfl, by omega, by omega, by omega, fun i hi => absurd hi (by omega), fun i h1 h2 => absurd h2 (by omega)⟩ (by show (100 - (0 : Int)).toNat < 4000; decide) ?_
 rintro ⟨a, e, z⟩ ⟨lo, hi, st, ha, he, hz, lh, hn, ms, H1, H2⟩
 simp only at ha he hz
 unfold B22_10
 simp only
 rw [if_pos (by rw [i_lt, z16]; omega)]
 refine okP.ite (fun c1 => ?_) (fun c1 => ?_)
 ·rw [i_lt] at c1
  have es : (a + e).toInt = ((lo + hi : Nat) : Int) := by rw [i_add (by omega) (by omega)]; omega
  have em := ush1 es
  generalize XT.ushr (a + e) (1 : Int32) = mv at em ⊢
  obtain ⟨mid, emid⟩ : ∃ mid, mid = (lo + hi) / 2 := ⟨_, rfl⟩
  rw [← emid] at em
  have ez : (z + 1).toInt = z.toInt + 1 := inc1 (by omega)
  have em1 : (mv + 1).toInt = mv.toInt + 1 := inc1 (by omega)
  rw [g_snapVal h, S.a_v (j := mid) (by omega) em, Option.bind_some]
  have vm : vv s mid = (at' s.1 mid).toInt := rfl
  by_cases c2 : at' s.1 mid < x
  ·rw [if_pos c2, if_pos c2]
   rw [i_lt] at c2
   refine okP.some ⟨⟨mid + 1, hi, st + 1, by simp only; omega, he, by simp only; omega, by omega, hn, by omega, fun i hi' => ?_, H2⟩, by simp only; omega⟩
   rcases Nat.lt_or_ge i mid with w | w
   ·have := S.2.2.2.2.1 i mid w (by omega); omega
   ·have : i = mid := by omega
    subst this; omega
  ·rw [if_neg c2, if_neg c2]
   rw [i_lt] at c2
   refine okP.some ⟨⟨lo, mid, st + 1, ha, em, by simp only; omega, by omega, by omega, by omega, H1, fun i i1 i2 => ?_⟩, by simp only; omega⟩
   rcases Nat.lt_or_ge mid i with w | w
   ·have := S.2.2.2.2.1 mid i w i2; omega
   ·have : i = mid := by omega
    subst this; omega
 ·rw [i_lt] at c1
  have : lo = hi := by omega
  subst this
  exact okP.some ⟨lo, ha, hn, H1, H2⟩
def hit (s : CT) (lo hi : Int) (t : Int32) (ms : Bool) (i : Nat) : Bool := decide (lo ≤ vv s i) && decide (vv s i ≤ hi) && (decide (tt' s i = t) != ms)
theorem cnt_ok {c : CT} {s : CT} {f : FT} {p : PT} {k : KT} {d : DT} {m : MT} {b : BT} {o : Ob} (h : A o = (c, s, f, p, k, d, m, b)) {T : Int} {n : Nat} (S : Sw T n s) (C : Cde s n d m) (n15 : n ≤ 15) (lo hi t y : Int32) {ms : Bool} (hy : y = if ms then 1 else 0) : okP (F28 o lo hi t y) (fun r => r.toInt = (kc (hit s lo.toInt hi.toInt t ms) n : Nat)) := by
 have sc := S.2.2.2.1
 unfold F28
 apply okP.bind
 refine okP.mono (slb_ok h S n15 lo) ?_
 rintro r ⟨j, hj, jn, H1, H2⟩
 apply okP.bind
 refine okP.mono (P := fun r : Int64 => r.toInt = (kc (hit s lo.toInt hi.toInt t ms) n : Nat)) ?_ (fun r hr => okP.some hr)
 have k0 : kc (hit s lo.toInt hi.toInt t ms) j = 0 := by
  have := kc_stop (P := hit s lo.toInt hi.toInt t ms) (a := 0) j (fun i _ i2 => by
   have := H1 i (by omega)
   unfold hit
   rw [decide_eq_false (show ¬ lo.toInt ≤ vv s i by omega)]; rfl)
  rw [Nat.zero_add] at this
  exact this
 refine okP.loop (fun w : Int64 × Int32 => ∃ i : Nat, w.2.toInt = (i : Int) ∧ j ≤ i ∧ i ≤ n ∧ w.1.toInt = (kc (hit s lo.toInt hi.toInt t ms) i : Nat)) (fun w => (100 - w.2.toInt).toNat) ⟨j, hj, Nat.le_refl _, jn, by show (0 : Int) = _; rw [k0]; rfl⟩ (by show (100 - r.toInt).toNat < 4000; omega) ?_
 rintro ⟨u, x⟩ ⟨i, hx, ji, iN, hu⟩
 simp only at hx hu
 have kl := kc_le (hit s lo.toInt hi.toInt t ms) i
 unfold B28_14
 simp only
 rw [g_snapCount h]
 refine okP.ite (fun c1 => ?_) (fun c1 => ?_)
 ·rw [i_lt] at c1
  have hi' : i < n := by omega
  have ex : (x + 1).toInt = x.toInt + 1 := inc1 (by omega)
  have z1 : (1 : Int64).toInt = 1 := rfl
  have eu : (u + 1).toInt = u.toInt + 1 := by rw [J_add (by rw [z1]; omega) (by rw [z1]; omega), z1]
  have lv := H2 i ji hi'
  rw [g_snapVal h, S.a_v hi' hx, Option.bind_some]
  have vE : vv s i = (at' s.1 i).toInt := rfl
  refine okP.ite (fun c2 => okP.some ?_) (fun c2 => ?_)
  ·rw [i_lt] at c2
   obtain ⟨e, he⟩ : ∃ e, n = i + e := ⟨n - i, by omega⟩
   show u.toInt = _
   rw [he, kc_stop e (fun a a1 a2 => ?_)]
   ·exact hu
   ·unfold hit
    have : hi.toInt < vv s a := by
     rcases Nat.eq_or_lt_of_le a1 with w | w
     ·rw [← w]; omega
     ·have := S.2.2.2.2.1 i a w (by omega); omega
    rw [decide_eq_false (show ¬ vv s a ≤ hi.toInt by omega), Bool.and_false]; rfl
  ·rw [i_lt] at c2
   apply okP.bind
   refine okP.mono (run_ok h S C (at' s.1 i)) (fun q hq => ?_)
   have qe : q = tt' s i := by
    rcases hq with ⟨a, a1, a2, a3, a4⟩ | ⟨a1, _⟩
    ·rw [a4, vv_inj S a2 hi' a3]
    ·exact absurd rfl (a1 i (by omega) hi')
   have hE : hit s lo.toInt hi.toInt t ms i = (decide (tt' s i = t) != ms) := by
    unfold hit
    rw [decide_eq_true lv, decide_eq_true (show vv s i ≤ hi.toInt by omega)]; rfl
   refine okP.some ⟨⟨i + 1, by simp only; omega, by omega, by omega, ?_⟩, by simp only; omega⟩
   simp only
   show _ = ((kc (hit s lo.toInt hi.toInt t ms) i + (if hit s lo.toInt hi.toInt t ms i then 1 else 0) : Nat) : Int)
   rw [hE, qe, hy]
   by_cases e : tt' s i = t
   ·rw [if_pos e, decide_eq_true e]
    cases ms
    ·rw [if_neg (by decide), eu, hu]; rfl
    ·rw [if_pos (by decide), hu]; rfl
   ·rw [if_neg e, decide_eq_false e]
    cases ms
    ·rw [if_pos (by decide), hu]; rfl
    ·rw [if_neg (by decide), eu, hu]; rfl
 ·rw [i_lt] at c1
  have : i = n := by omega
  subst this
  exact okP.some hu
def RC (s : CT) (n : Nat) (lo hi : Int) (t : Int32) : Int := if hi < lo then 0 else if t = df s then (hi - lo + 1) - (kc (hit s lo hi t true) n : Nat) else (kc (hit s lo hi t false) n : Nat)
theorem rc_ok {c : CT} {s : CT} {f : FT} {p : PT} {k : KT} {d : DT} {m : MT} {b : BT} {o : Ob} (h : A o = (c, s, f, p, k, d, m, b)) {T : Int} {n : Nat} (S : Sw T n s) (C : Cde s n d m) (n15 : n ≤ 15) (hs : s.2.2.2.2 = 1) (hT : f.2.1.toInt = T) (lo hi : Int32) {t : Int32} (t0 : 0 ≤ t.toInt) (t1 : t.toInt < T) : okP (F23 o lo hi t) (fun r => r.toInt = RC s n lo.toInt hi.toInt t) := by
 have z0 : (0 : Int32).toInt = 0 := rfl
 have a1 := i_lo lo
 have a2 := i_hi lo
 have a3 := i_lo hi
 have a4 := i_hi hi
 unfold F23 RC
 rw [g_hasSnap h, hs, if_neg (by decide), if_neg (by rw [i_lt, z0]; omega), g_targets h, if_pos (by rw [i_lt, hT]; exact t1)]
 by_cases c1 : hi < lo
 ·rw [if_pos c1, if_pos (by rw [i_lt] at c1; exact c1)]
  exact okP.some rfl
 have c1' : ¬ hi.toInt < lo.toInt := by rw [i_lt] at c1; exact c1
 rw [if_neg c1, if_neg c1', g_snapDefault h]
 by_cases c2 : t = s.2.2.2.1
 ·have c2' : t = df s := c2
  rw [if_pos c2, if_pos c2']
  apply okP.bind
  refine okP.mono (cnt_ok h S C n15 lo hi t 1 (ms := true) rfl) (fun r hr => ?_)
  rw [if_neg (by decide)]
  have kl := kc_le (hit s lo.toInt hi.toInt t true) n
  have sp := span_m hi lo
  refine okP.some ?_
  rw [J_sub (by rw [sp, hr]; omega) (by rw [sp, hr]; omega), sp, hr]
 ·have c2' : ¬ t = df s := c2
  rw [if_neg c2, if_neg c2']
  apply okP.bind
  refine okP.mono (cnt_ok h S C n15 lo hi t 0 (ms := false) rfl) (fun r hr => ?_)
  rw [if_pos rfl]
  exact okP.some hr
def NR (s : CT) (n : Nat) (fr : Int) (t : Int32) (r : Int64) : Prop := (∃ x : Int, r.toInt = x ∧ fr ≤ x ∧ x ≤ 2147483647 ∧ Rv s 0 n x t ∧ ∀ y, fr ≤ y → y < x → ¬ Rv s 0 n y t) ∨ (r = 4294967296 ∧ ∀ y, fr ≤ y → y ≤ 2147483647 → ¬ Rv s 0 n y t)
theorem nc_ok {c : CT} {s : CT} {f : FT} {p : PT} {k : KT} {d : DT} {m : MT} {b : BT} {o : Ob} (h : A o = (c, s, f, p, k, d, m, b)) {T : Int} {n : Nat} (S : Sw T n s) (C : Cde s n d m) (n15 : n ≤ 15) (fr t : Int32) (td : t ≠ df s) : okP (F21 o fr t) (fun r => NR s n fr.toInt t r) := by
 have sc := S.2.2.2.1
 unfold F21
 apply okP.bind
 refine okP.mono (slb_ok h S n15 fr) ?_
 rintro r ⟨j, hj, jn, H1, H2⟩
 apply okP.bind
 refine okP.mono (P := fun r => NR s n fr.toInt t r) ?_ (fun r hr => okP.some hr)
 have no : ∀ {i : Nat} {y : Int}, (∀ a, j ≤ a → a < i → tt' s a ≠ t) → fr.toInt ≤ y → (∀ a, i ≤ a → a < n → vv s a ≠ y) → ¬ Rv s 0 n y t := by
  intro i y q1 q2 q3 q4
  rcases q4 with ⟨a, _, a2, a3, a4⟩ | ⟨_, a2⟩
  ·rcases Nat.lt_or_ge a j with w | w
   ·have := H1 a w; omega
   ·rcases Nat.lt_or_ge a i with w' | w'
    ·exact q1 a w w' a4.symm
    ·exact q3 a w' a2 a3
  ·exact td a2
 refine okP.loop (fun w : Int32 => ∃ i : Nat, w.toInt = (i : Int) ∧ j ≤ i ∧ i ≤ n ∧ ∀ a, j ≤ a → a < i → tt' s a ≠ t) (fun w => (100 - w.toInt).toNat) ⟨j, hj, Nat.le_refl _, jn, fun a a1 a2 => absurd a2 (by omega)⟩ (by show (100 - r.toInt).toNat < 4000; omega) ?_
 rintro x ⟨i, hx, ji, iN, hm⟩
 unfold B21_9
 rw [g_snapCount h]
 refine okP.ite (fun c1 => ?_) (fun c1 => ?_)
 ·rw [i_lt] at c1
  have hi' : i < n := by omega
  have ex : (x + 1).toInt = x.toInt + 1 := inc1 (by omega)
  rw [g_snapVal h, S.a_v hi' hx, Option.bind_some]
  apply okP.bind
  refine okP.mono (run_ok h S C (at' s.1 i)) (fun q hq => ?_)
  have qe : q = tt' s i := by
   rcases hq with ⟨a, a1, a2, a3, a4⟩ | ⟨a1, _⟩
   ·rw [a4, vv_inj S a2 hi' a3]
   ·exact absurd rfl (a1 i (by omega) hi')
  refine okP.ite (fun e => okP.some ?_) (fun e => okP.some ⟨⟨i + 1, by omega, by omega, by omega, fun a a1 a2 => ?_⟩, by omega⟩)
  ·have up := i_hi (at' s.1 i)
   refine Or.inl ⟨vv s i, J_e _, H2 i ji hi', ?_, Or.inl ⟨i, by omega, hi', rfl, by rw [← e, qe]⟩, fun y y1 y2 => no hm y1 (fun a a1 a2 a3 => ?_)⟩
   ·show (at' s.1 i).toInt ≤ _; omega
   ·rcases Nat.eq_or_lt_of_le a1 with w | w
    ·rw [← w] at a3; omega
    ·have := S.2.2.2.2.1 i a w a2; omega
  ·by_cases w : a = i
   ·rw [w]; rw [qe] at e; exact e
   ·exact hm a a1 (by omega)
 ·rw [i_lt] at c1
  have : i = n := by omega
  subst this
  exact okP.some (Or.inr ⟨rfl, fun y y1 _ => no hm y1 (fun a a1 a2 => absurd a2 (by omega))⟩)
theorem nd_ok {c : CT} {s : CT} {f : FT} {p : PT} {k : KT} {d : DT} {m : MT} {b : BT} {o : Ob} (h : A o = (c, s, f, p, k, d, m, b)) {T : Int} {n : Nat} (S : Sw T n s) (C : Cde s n d m) (n15 : n ≤ 15) (fr : Int32) : okP (F26 o fr) (fun r => NR s n fr.toInt (df s) r) := by
 have z65 : (65 : Int32).toInt = 65 := rfl
 have zmx : (2147483647 : Int32).toInt = 2147483647 := rfl
 unfold F26
 apply okP.bind
 refine okP.mono (P := fun r => NR s n fr.toInt (df s) r) ?_ (fun r hr => okP.some hr)
 refine okP.loop (fun w : Int32 × Int32 => ∃ st : Nat, w.2.toInt = (st : Int) ∧ w.1.toInt = fr.toInt + st ∧ ∀ y : Nat, y < st → ¬ Rv s 0 n (fr.toInt + y) (df s)) (fun w => (100 - w.2.toInt).toNat) ⟨0, rfl, by show fr.toInt = fr.toInt + ((0 : Nat) : Int); omega, fun y hy => absurd hy (by omega)⟩ (by show (100 - (0 : Int)).toNat < 4000; decide) ?_
 rintro ⟨x, z⟩ ⟨st, hz, hx, hm⟩
 simp only at hz hx
 have few : st ≤ n := by
  have key : ∀ y, y < st → ∃ i, i < n ∧ vv s i = fr.toInt + y := by
   intro y hy
   rcases Classical.em (∃ i, i < n ∧ vv s i = fr.toInt + y) with w | w
   ·exact w
   ·exact absurd (Or.inr ⟨fun i _ i2 i3 => w ⟨i, i2, i3⟩, rfl⟩) (hm y hy)
  have sk : ∃ g : Nat → Nat, ∀ y, y < st → g y < n ∧ vv s (g y) = fr.toInt + y := by
   refine ⟨fun y => if q : y < st then Classical.choose (key y q) else 0, fun y hy => ?_⟩
   show (if q : y < st then Classical.choose (key y q) else 0) < n ∧ vv s (if q : y < st then Classical.choose (key y q) else 0) = fr.toInt + y
   rw [dif_pos hy]
   exact Classical.choose_spec (key y hy)
  obtain ⟨g, hg⟩ := sk
  refine pig n st g (fun q hq => (hg q hq).1) (fun q q' hq hq' e => ?_)
  have a1 := (hg q hq).2
  have a2 := (hg q' hq').2
  rw [e] at a1
  omega
 unfold B26_4
 simp only
 rw [if_neg (by rw [i_lt, z65]; omega)]
 have xh := i_hi x
 have before : ∀ y, fr.toInt ≤ y → y < x.toInt → ¬ Rv s 0 n y (df s) := by
  intro y y1 y2
  have := hm (y - fr.toInt).toNat (by omega)
  rw [show fr.toInt + ((y - fr.toInt).toNat : Int) = y by omega] at this
  exact this
 apply okP.bind
 refine okP.mono (run_ok h S C x) (fun q hq => ?_)
 rw [g_snapDefault h]
 refine okP.ite (fun e => okP.some (Or.inl ⟨x.toInt, J_e x, by omega, by omega, ?_, before⟩)) (fun e => ?_)
 ·have e' : q = df s := e
  rw [← e']; exact hq
 have nx : ¬ Rv s 0 n x.toInt (df s) := fun w => e (Rv.det S hq w)
 refine okP.ite (fun mx => okP.some (Or.inr ⟨rfl, fun y y1 y2 => ?_⟩)) (fun mx => ?_)
 ·rw [i_eq, zmx] at mx
  rcases Int.lt_or_le y x.toInt with w | w
  ·exact before y y1 w
  ·have : y = x.toInt := by omega
   rw [this]; exact nx
 ·rw [i_eq, zmx] at mx
  have ex : (x + 1).toInt = x.toInt + 1 := inc1 (by omega)
  have ez : (z + 1).toInt = z.toInt + 1 := inc1 (by omega)
  refine okP.some ⟨⟨st + 1, by simp only; omega, by simp only; omega, fun y hy => ?_⟩, by simp only; omega⟩
  by_cases w : y = st
  ·rw [w, ← hx]; exact nx
  ·exact hm y (by omega)
theorem nr_ok {c : CT} {s : CT} {f : FT} {p : PT} {k : KT} {d : DT} {m : MT} {b : BT} {o : Ob} (h : A o = (c, s, f, p, k, d, m, b)) {T : Int} {n : Nat} (S : Sw T n s) (C : Cde s n d m) (n15 : n ≤ 15) (hs : s.2.2.2.2 = 1) (hT : f.2.1.toInt = T) (fr : Int32) {t : Int32} (t0 : 0 ≤ t.toInt) (t1 : t.toInt < T) : okP (F20 o fr t) (fun r => NR s n fr.toInt t r) := by
 have z0 : (0 : Int32).toInt = 0 := rfl
 unfold F20
 rw [g_hasSnap h, hs, if_neg (by decide), if_neg (by rw [i_lt, z0]; omega), g_targets h, if_pos (by rw [i_lt, hT]; exact t1), g_snapDefault h]
 refine okP.ite (fun e => ?_) (fun e => ?_)
 ·apply okP.bind
  refine okP.mono (nd_ok h S C n15 fr) (fun r hr => okP.some ?_)
  have e' : t = df s := e
  rw [e']; exact hr
 ·apply okP.bind
  exact okP.mono (nc_ok h S C n15 fr t e) (fun r hr => okP.some hr)

theorem Same.sym {n : Nat} {a b : CT} (E : Same n a b) : Same n b a := ⟨fun j hj => ⟨(E.1 j hj).1.symm, (E.1 j hj).2.symm⟩, E.2.1.symm, E.2.2.symm⟩
theorem Same.trans {n : Nat} {a b c : CT} (E : Same n a b) (F : Same n b c) : Same n a c := ⟨fun j hj => ⟨(F.1 j hj).1.trans (E.1 j hj).1, (F.1 j hj).2.trans (E.1 j hj).2⟩, F.2.1.trans E.2.1, F.2.2.trans E.2.2⟩
theorem ins_lt {n j1 j2 : Nat} {ca cb ca' cb' : CT} {x t : Int32} (Sa : Sw 4 (n + 1) ca') (Sb : Sw 4 (n + 1) cb') (E : Same n ca cb) (Ia : Ins ca ca' n j1 x t) (Ib : Ins cb cb' n j2 x t) (l2 : j2 ≤ n) : ¬ j1 < j2 := by
 intro l
 have a1 := Sa.2.2.2.2.1 j1 (j1 + 1) (by omega) (by omega)
 have a2 := Sb.2.2.2.2.1 j1 j2 l (by omega)
 unfold vv gd at a1 a2
 rw [Ia.2.1.1, (Ia.2.2 (j1 + 1) (by omega) (by omega)).1, Nat.add_sub_cancel] at a1
 rw [Ib.2.1.1, (Ib.1 j1 l).1, (E.1 j1 (by omega)).1] at a2
 omega
theorem ins_same {n j1 j2 : Nat} {ca cb ca' cb' : CT} {x t : Int32} (Sa : Sw 4 (n + 1) ca') (Sb : Sw 4 (n + 1) cb') (E : Same n ca cb) (Ia : Ins ca ca' n j1 x t) (Ib : Ins cb cb' n j2 x t) (l1 : j1 ≤ n) (l2 : j2 ≤ n) (da : ca'.2.2.2.1 = ca.2.2.2.1) (db : cb'.2.2.2.1 = cb.2.2.2.1) : Same (n + 1) ca' cb' := by
 have q1 := ins_lt Sa Sb E Ia Ib l2
 have q2 := ins_lt Sb Sa E.sym Ib Ia l1
 obtain rfl : j1 = j2 := by omega
 refine ⟨fun i hi => ?_, i_eq.2 (Sb.2.2.2.1.trans Sa.2.2.2.1.symm), by rw [da, db]; exact E.2.2⟩
 rcases Nat.lt_trichotomy i j1 with w | w | w
 ·rw [(Ia.1 i w).1, (Ia.1 i w).2, (Ib.1 i w).1, (Ib.1 i w).2]; exact E.1 i (by omega)
 ·rw [w, Ia.2.1.1, Ia.2.1.2, Ib.2.1.1, Ib.2.1.2]; exact ⟨rfl, rfl⟩
 ·have ha := Ia.2.2 i w (by omega)
  have hb := Ib.2.2 i w (by omega)
  rw [ha.1, ha.2, hb.1, hb.2]; exact E.1 (i - 1) (by omega)
theorem rem_same {n j : Nat} {ca cb ca' cb' : CT} (Sa : Sw 4 n ca') (Sb : Sw 4 n cb') (E : Same (n + 1) ca cb) (Ia : Rem ca ca' (n + 1) j) (Ib : Rem cb cb' (n + 1) j) (da : ca'.2.2.2.1 = ca.2.2.2.1) (db : cb'.2.2.2.1 = cb.2.2.2.1) : Same n ca' cb' := by
 refine ⟨fun i hi => ?_, i_eq.2 (Sb.2.2.2.1.trans Sa.2.2.2.1.symm), by rw [da, db]; exact E.2.2⟩
 rcases Nat.lt_or_ge i j with w | w
 ·rw [(Ia.1 i w).1, (Ia.1 i w).2, (Ib.1 i w).1, (Ib.1 i w).2]; exact E.1 i (by omega)
 ·have ha := Ia.2 i w (by omega)
  have hb := Ib.2 i w (by omega)
  rw [ha.1, ha.2, hb.1, hb.2]; exact E.1 (i + 1) (by omega)
theorem back_same {n j : Nat} {c c' d : CT} {x t : Int32} (S : Sw 4 n c) (S' : Sw 4 n d) (I : Ins c c' n j x t) (R : Rem c' d (n + 1) j) (e1 : c'.2.2.2.1 = c.2.2.2.1) (e2 : d.2.2.2.1 = c'.2.2.2.1) : Same n c d := by
 refine ⟨fun i hi => ?_, i_eq.2 (S'.2.2.2.1.trans S.2.2.2.1.symm), e2.trans e1⟩
 rcases Nat.lt_or_ge i j with w | w
 ·rw [(R.1 i w).1, (R.1 i w).2, (I.1 i w).1, (I.1 i w).2]; exact ⟨rfl, rfl⟩
 ·have hr := R.2 i w (by omega)
  have hi' := I.2.2 (i + 1) (by omega) (by omega)
  rw [hr.1, hr.2, hi'.1, hi'.2, Nat.add_sub_cancel]; exact ⟨rfl, rfl⟩
theorem NR_uniq {s : CT} {n : Nat} {fr : Int} {t : Int32} {r r' : Int64} (h : NR s n fr t r) (h' : NR s n fr t r') : r = r' := by
 rcases h with ⟨x, x1, x2, x3, x4, x5⟩ | ⟨x1, x2⟩
 ·rcases h' with ⟨y, y1, y2, y3, y4, y5⟩ | ⟨y1, y2⟩
  ·have : ¬ x < y := fun w => y5 x x2 w x4
   have : ¬ y < x := fun w => x5 y y2 w y4
   exact Int64.toInt_inj.1 (by omega)
  ·exact absurd x4 (y2 x x2 x3)
 ·rcases h' with ⟨y, y1, y2, y3, y4, y5⟩ | ⟨y1, y2⟩
  ·exact absurd y4 (x2 y y2 y3)
  ·rw [x1, y1]
theorem Same.nr {n : Nat} {a b : CT} (E : Same n a b) {fr : Int} {t : Int32} {r : Int64} (h : NR b n fr t r) : NR a n fr t r := by
 unfold NR at *
 simp only [E.rv] at h
 exact h
theorem Same.rc {n : Nat} {a b : CT} (E : Same n a b) (lo hi : Int) (t : Int32) : RC b n lo hi t = RC a n lo hi t := by
 have e : ∀ ms, kc (hit b lo hi t ms) n = kc (hit a lo hi t ms) n := fun ms => kc_congr (fun i hi' => by
  unfold hit vv gd tt'
  rw [(E.1 i hi').1, (E.1 i hi').2])
 unfold RC df
 rw [e, e, E.2.2]
def Al (n : Nat) (ca sa cb sb : CT) : Prop := Same n ca cb ∧ sa.2.2.2.2 = sb.2.2.2.2 ∧ (sa.2.2.2.2 = 1 → Same sa.2.2.1.toInt.toNat sa sb)
def Pr (x3 : Int32) (a b : Ob) : Prop := ∃ n ca sa cb sb, Ok 4 8 n ca sa a ∧ Ok 4 8 n cb sb b ∧ Al n ca sa cb sb ∧ ((x3 = 0 ∧ ca.2.2.2.2 = cb.2.2.2.2) ∨ (x3 ≠ 0 ∧ ca.2.2.2.2 = 1))
theorem rt_ok {c : CT} {s : CT} {f : FT} {p : PT} {k : KT} {d : DT} {m : MT} {b : BT} {o : Ob} (h : A o = (c, s, f, p, k, d, m, b)) {T : Int} {n : Nat} (S : Sw T n s) (C : Cde s n d m) (hs : s.2.2.2.2 = 1) (x : Int32) : okP (F18 o x) (fun r => Rv s 0 n x.toInt r) := by
 unfold F18
 rw [g_hasSnap h, hs, if_neg (by decide)]
 apply okP.bind
 exact okP.mono (run_ok h S C x) (fun r hr => okP.some hr)
theorem same_ok {n : Nat} {ca sa cb sb : CT} {a b : Ob} (Oa : Ok 4 8 n ca sa a) (Ob' : Ok 4 8 n cb sb b) (E : Al n ca sa cb sb) (x y : Int32) : okP (F10 a b x y) (fun r => r = 1) := by
 obtain ⟨fa, pa, ka, da, ma, ba, ha, Sa, Laa, fa1, fa2, nca, cda, sla, hsa⟩ := id Oa
 obtain ⟨fb, pb, kb, db, mb, bb, hb, Sb, Lab, fb1, fb2, ncb, cdb, slb, hsb⟩ := id Ob'
 obtain ⟨E1, E2, E3⟩ := E
 have z0 : (0 : Int32).toInt = 0 := rfl
 have z8 : (8 : Int32).toInt = 8 := rfl
 have z3 : (3 : Int32).toInt = 3 := rfl
 have cc : fxF b = fxF a := by rw [g_curCount ha, g_curCount hb]; exact E1.2.1
 have dd : fxG b = fxG a := by rw [g_curDefault ha, g_curDefault hb]; exact E1.2.2
 have hs : fxK b = fxK a := by rw [g_hasSnap ha, g_hasSnap hb]; exact E2.symm
 have hn : (fxF a).toInt = (n : Nat) := by rw [g_curCount ha]; exact Sa.2.2.2.1
 have kr := and_rng (x := y) (m := 3) (by decide)
 rw [z3] at kr
 have k1 : (y &&& 3).toInt < 4 := by omega
 unfold F10
 have u1 : F11 a = some (fxF a) := rfl
 have u2 : F11 b = some (fxF a) := by rw [← cc]; rfl
 have u3 : F14 a = some (fxG a) := rfl
 have u4 : F14 b = some (fxG a) := by rw [← dd]; rfl
 rw [u1, Option.bind_some, u2, Option.bind_some, if_pos rfl]
 apply okP.bind
 refine okP.mono (P := fun e : Unit ⊕ Int32 => e = .inl ()) ?_ ?_
 ·refine okP.loop (fun v : Int32 => 0 ≤ v.toInt ∧ v.toInt ≤ 8) (fun v => (20 - v.toInt).toNat) ⟨by decide, by decide⟩ (by show (20 - (0 : Int)).toNat < 4000; decide) ?_
  rintro i ⟨i0, i8⟩
  unfold B10_16
  refine okP.ite (fun c1 => ?_) (fun _ => okP.some rfl)
  rw [i_lt, z8] at c1
  have ei : (i + 1).toInt = i.toInt + 1 := inc1 (by omega)
  obtain ⟨j, hj⟩ : ∃ j : Nat, i.toInt = j := ⟨i.toInt.toNat, by omega⟩
  have nn : ¬ i < 0 := by rw [i_lt, z0]; omega
  have val : okP (F12 a i) (fun r => F12 b i = some r) := by
   unfold F12
   rw [if_neg nn, if_neg nn, cc]
   by_cases q : i < fxF a
   ·rw [if_pos q, if_pos q]
    rw [i_lt, hn] at q
    rw [g_curVal ha, g_curVal hb, ag hj (by rw [Sa.1]; omega), ag hj (by rw [Sb.1]; omega), Option.bind_some, Option.bind_some, (E1.1 j (by omega)).1]
    exact okP.some rfl
   ·rw [if_neg q, if_neg q]; exact okP.some rfl
  have tgt : okP (F13 a i) (fun r => F13 b i = some r) := by
   unfold F13
   rw [if_neg nn, if_neg nn, cc]
   by_cases q : i < fxF a
   ·rw [if_pos q, if_pos q]
    rw [i_lt, hn] at q
    rw [g_curTgt ha, g_curTgt hb, ag hj (by rw [Sa.2.1]; omega), ag hj (by rw [Sb.2.1]; omega), Option.bind_some, Option.bind_some, (E1.1 j (by omega)).2]
    exact okP.some rfl
   ·rw [if_neg q, if_neg q]; exact okP.some rfl
  apply okP.bind; refine okP.mono val (fun r1 h1 => ?_)
  rw [h1, Option.bind_some, if_pos rfl]
  apply okP.bind; refine okP.mono tgt (fun r2 h2 => ?_)
  rw [h2, Option.bind_some, if_pos rfl]
  exact okP.some ⟨⟨by omega, by omega⟩, by omega⟩
 rintro e rfl
 simp only
 rw [u3, Option.bind_some, u4, Option.bind_some, if_pos rfl]
 apply okP.bind; refine okP.mono (Oa.look (by omega) x) (fun r1 h1 => ?_)
 apply okP.bind; refine okP.mono (Ob'.look (by omega) x) (fun r2 h2 => ?_)
 rw [if_pos (Rv.det Sa h1 (E1.rv.1 h2))]
 rcases hsa with na | ⟨ya, ⟨na, la, Swa, Ca⟩, _⟩
 ·have nb : sb.2.2.2.2 = 0 := E2.symm.trans na
  have v1 : fxK a = 0 := by rw [g_hasSnap ha]; exact na
  have v2 : fxK b = 0 := by rw [g_hasSnap hb]; exact nb
  unfold F18 F20 F23 J20_19
  simp only [v1, v2, if_true, Option.bind_some]
  exact okP.some rfl
 ·have yb : sb.2.2.2.2 = 1 := E2.symm.trans ya
  rcases hsb with w | ⟨_, ⟨nb, lb, Swb, Cb⟩, _⟩
  ·rw [yb] at w; exact absurd w (by decide)
  have Es := E3 ya
  have en : sa.2.2.1.toInt.toNat = na := by rw [Swa.2.2.2.1]; rfl
  rw [en] at Es
  obtain rfl : nb = na := by
   have w1 := Swa.2.2.2.1
   have w2 := Swb.2.2.2.1
   rw [Es.2.1] at w2
   omega
  apply okP.bind; refine okP.mono (rt_ok ha Swa Ca ya x) (fun r3 h3 => ?_)
  apply okP.bind; refine okP.mono (rt_ok hb Swb Cb yb x) (fun r4 h4 => ?_)
  rw [if_pos (Rv.det Swa h3 (Es.rv.1 h4))]
  apply okP.bind; refine okP.mono (nr_ok ha Swa Ca (by omega) ya fa2 x kr.1 k1) (fun r5 h5 => ?_)
  apply okP.bind; refine okP.mono (nr_ok hb Swb Cb (by omega) yb fb2 x kr.1 k1) (fun r6 h6 => ?_)
  rw [if_pos (NR_uniq h5 (Es.nr h6))]
  apply okP.bind; refine okP.mono (rc_ok ha Swa Ca (by omega) ya fa2 x y kr.1 k1) (fun r7 h7 => ?_)
  apply okP.bind; refine okP.mono (rc_ok hb Swb Cb (by omega) yb fb2 x y kr.1 k1) (fun r8 h8 => ?_)
  rw [if_pos (Int64.toInt_inj.1 (by rw [h7, h8, Es.rc]))]
  exact okP.some rfl
theorem isc_e {n : Nat} {c s : CT} {o : Ob} (O : Ok 4 8 n c s o) : F24 o = some (if s.2.2.2.2 = 0 then 0 else if c.2.2.2.2 = 0 then 1 else 0) := by
 obtain ⟨f, p, k, d, m, b, h, R⟩ := O
 unfold F24
 rw [g_hasSnap h, g_dirty h]
 split
 ·rfl
 ·split <;> rfl
abbrev V7 := Int32 × Int32 × Ob × Ob
def I7 (w : V7) : Prop := Pr w.1 w.2.2.1 w.2.2.2 ∧ 0 ≤ w.2.1.toInt ∧ w.2.1.toInt ≤ 1000
def P7 (s : List Int32) (x : Int32) (r : (Int32 × QHeap) ⊕ V7) : Prop := Sum.elim (fun e : Int32 × QHeap => e.1 = 1 ∧ sFit s e.2) (fun w : V7 => I7 w ∧ (1000 - w.2.1.toInt).toNat < (1000 - x.toInt).toNat) r
theorem nx7 {s : List Int32} {x x3 : Int32} (x0 : 0 ≤ x.toInt) (x1 : x.toInt ≤ 600) {n : Nat} {ca sa cb sb : CT} {a b : Ob} (Oa : Ok 4 8 n ca sa a) (Ob' : Ok 4 8 n cb sb b) (E : Al n ca sa cb sb) (D : (x3 = 0 ∧ ca.2.2.2.2 = cb.2.2.2.2) ∨ (x3 ≠ 0 ∧ ca.2.2.2.2 = 1)) (u v : Int32) : okP (J0_249 s a b x3 x u v) (P7 s x) := by
 have z3 : (3 : Int32).toInt = 3 := rfl
 have a3 : (x + 3).toInt = x.toInt + 3 := by rw [i_add (by omega) (by omega), z3]
 unfold J0_249
 apply okP.bind; refine okP.mono (same_ok Oa Ob' E u v) (fun r hr => ?_)
 rw [if_neg (by rw [hr]; decide), isc_e Oa, Option.bind_some, isc_e Ob', Option.bind_some, E.2.1]
 rw [if_pos]
 ·exact okP.some ⟨⟨⟨n, ca, sa, cb, sb, Oa, Ob', E, D⟩, by simp only; omega, by simp only; omega⟩, by simp only; omega⟩
 ·rcases D with ⟨d1, d2⟩ | ⟨d1, d2⟩
  ·rw [d2, d1]
   by_cases q : sb.2.2.2.2 = 0
   ·simp only [if_pos q, if_true]
   ·by_cases q' : cb.2.2.2.2 = 0
    ·simp only [if_neg q, if_pos q', if_true, if_neg (show ¬ (1 : Int32) = 0 by decide)]
    ·simp only [if_neg q, if_neg q', if_true]
  ·rw [d2]
   simp only [if_neg d1, if_neg (show ¬ (1 : Int32) = 0 by decide)]
   by_cases q : sb.2.2.2.2 = 0
   ·simp only [if_pos q, if_true]
   ·by_cases q' : cb.2.2.2.2 = 0
    ·simp only [if_neg q, if_pos q', if_neg (show ¬ (1 : Int32) = 0 by decide)]
    ·simp only [if_neg q, if_neg q', if_true]
theorem fit7 {n n' : Nat} {c s' c' t' : CT} {o o' : Ob} (O : Ok 4 8 n c s' o) (O' : Ok 4 8 n' c' t' o') (s : List Int32) : sFit s (H1 s o o') := by
 obtain ⟨⟨a1, a2, a3, a4⟩, ⟨a5, a6, a7, a8, a9⟩, ⟨b1, b2, b3, b4, b5⟩, ⟨b6, b7⟩, b8, b9, b10, b11⟩ := O.fit0
 obtain ⟨⟨c1, c2, c3, c4⟩, ⟨c5, c6, c7, c8, c9⟩, ⟨d1, d2, d3, d4, d5⟩, ⟨d6, d7⟩, d8, d9, d10, d11⟩ := O'.fit0
 refine ⟨by show 43 - 1 ≤ _; decide, ?_⟩
 simp only [H1, qhs, qsz, a1, a2, a3, a4, a5, a6, a7, a8, a9, b1, b2, b3, b4, b5, b6, b7, b8, b9, b10, b11, c1, c2, c3, c4, c5, c6, c7, c8, c9, d1, d2, d3, d4, d5, d6, d7, d8, d9, d10, d11]
 simp only [cN, room_1]
 omega
theorem Ok.sw {n : Nat} {c s : CT} {o : Ob} (O : Ok 4 8 n c s o) : Sw 4 n c ∧ (n : Int) ≤ 8 := by
 obtain ⟨f, p, k, d, m, b, h, S, nc, R⟩ := O.rst
 exact ⟨S, nc⟩
theorem law_ok (s : List Int32) (hs : s.length ≤ 260) : ∃ τ, F0 s = some (1, τ) ∧ τ.length - List.length ([Sum.inr (Sum.inl (FieldType.int, s))] : QHeap) ≤ room_1.cells ∧ qhs τ - qhs [Sum.inr (Sum.inl (FieldType.int, s))] ≤ room_1.slots := by
 have hl := len_i (n := s.length) (by omega)
 have z2 : (2 : Int32).toInt = 2 := rfl
 have : okP (F0 s) (fun e => e.1 = 1 ∧ sFit s e.2) := by
  unfold F0
  have i0 : okP (F1 8 4) (fun o => ∃ c s', Ok 4 8 0 c s' o ∧ c.2.2.1 = 0 ∧ c.2.2.2.1 = 0 ∧ c.2.2.2.2 = 0 ∧ s'.2.2.2.2 = 0) := by
   have L : ∀ {α : Type} (n : Nat) (a : α), (List.replicate n a).length = n := fun n a => List.length_replicate
   have e1 : F2 8 1 64 = some 8 := rfl
   have e2 : F2 4 1 16 = some 4 := rfl
   unfold F1 F3
   rw [e1, Option.bind_some, e2, Option.bind_some, Option.bind_some]
   refine okP.some ⟨(List.replicate 64 0, List.replicate 64 0, 0, 0, 0), (List.replicate 64 0, List.replicate 64 0, 0, 0, 0), ⟨(8, 4, List.replicate 256 0, 0), (List.replicate 65 0, List.replicate 65 0), (List.replicate 64 0, List.replicate 64 0, 0), (List.replicate 160 0, List.replicate 160 0, List.replicate 160 0, List.replicate 160 0, List.replicate 160 0, 0, 0), (List.replicate 192 0, List.replicate 192 0, 0), (List.replicate 130 0, List.replicate 130 0, List.replicate 130 0, List.replicate 130 0, 0), ?_, ⟨L _ _, L _ _, by omega, rfl, fun i j _ hj => absurd hj (by omega), fun j hj => absurd hj (by omega), by decide, by decide⟩, ⟨L _ _, ⟨L _ _, L _ _⟩, ⟨L _ _, L _ _⟩, ⟨L _ _, L _ _, L _ _, L _ _, L _ _⟩, ⟨L _ _, L _ _⟩, L _ _, L _ _, L _ _, L _ _⟩, rfl, rfl, by decide, Or.inl rfl, ⟨L _ _, L _ _⟩, Or.inl rfl⟩, rfl, rfl, rfl, rfl⟩
   dsimp only [A, fA, fB, fC, fD, fE, fF, fG, fH, fI, fJ, fK, fL, fM, fN, fR, fT, fU, fV, fW, fX, fY, fZ, fd, ff, fh, fi, fm, fq, fu, fy, fz, fxA, fxB, fxC, fxD, fxE, fxF, fxG, fxH, fxI, fxJ, fxK, fxL, fxM, fxN, fxO, fxP, fxQ, sA, sB, sC, sD, sE, sF, sG, sH, sI, sJ, sK, sL, sM, sN, sR, sT, sU, sV, sW, sX, sY, sZ, sd, sf, sh, si, sm, sq, su, sy, sz, sxA, sxB, sxC, sxD, sxE, sxF, sxG, sxH, sxI, sxJ, sxK, sxL, sxM, sxN, sxO, sxP, sxQ]
  have al0 : ∀ {ca sa cb sb : CT}, ca.2.2.1 = 0 → ca.2.2.2.1 = 0 → sa.2.2.2.2 = 0 → cb.2.2.1 = 0 → cb.2.2.2.1 = 0 → sb.2.2.2.2 = 0 → Al 0 ca sa cb sb := by
   intro ca sa cb sb a1 a2 a4 b1 b2 b4
   exact ⟨⟨fun j hj => absurd hj (by omega), by rw [a1, b1], by rw [a2, b2]⟩, by rw [a4, b4], fun w => by rw [a4] at w; exact absurd w (by decide)⟩
  apply okP.bind; refine okP.mono i0 ?_
  rintro oa ⟨ca, sa, Oa, a1, a2, a3, a4⟩
  apply okP.bind; refine okP.mono i0 ?_
  rintro ob ⟨cb, sb, Ob', b1, b2, b3, b4⟩
  apply okP.bind
  refine okP.mono (P := fun e : Int32 × QHeap => e.1 = 1 ∧ sFit s e.2) ?_ (fun e he => okP.some he)
  refine okP.loop I7 (fun w => (1000 - w.2.1.toInt).toNat) ⟨⟨0, ca, sa, cb, sb, Oa, Ob', al0 a1 a2 a4 b1 b2 b4, Or.inl ⟨rfl, by rw [a3, b3]⟩⟩, by show (0 : Int) ≤ 0; decide, by show (0 : Int) ≤ 1000; decide⟩ (by show (1000 - (0 : Int)).toNat < 4000; decide) ?_
  clear oa ca sa Oa a1 a2 a3 a4 ob cb sb Ob' b1 b2 b3 b4
  rintro ⟨x3, x, a, b⟩ ⟨⟨n, ca, sa, cb, sb, Oa, Ob', E, D⟩, x0, xL⟩
  simp only at Oa Ob' D x0 xL
  show okP _ (P7 s x)
  unfold B0_27
  simp only
  have a2 : (x + 2).toInt = x.toInt + 2 := by rw [i_add (by omega) (by omega), z2]
  refine okP.ite (fun cc => ?_) (fun _ => okP.some ⟨rfl, fit7 Oa Ob' s⟩)
  rw [i_lt, a2, hl] at cc
  have a1 : (x + 1).toInt = x.toInt + 1 := inc1 (by omega)
  obtain ⟨Sa, nc⟩ := Oa.sw
  obtain ⟨Sb, _⟩ := Ob'.sw
  obtain ⟨E1, E2, E3⟩ := id E
  have same_v : ∀ i, i < n → vv cb i = vv ca i := fun i hi => by unfold vv gd; rw [(E1.1 i hi).1]
  apply okP.bind; refine okP.aget (by omega) (by omega) (fun y0 _ => ?_)
  apply okP.bind; refine okP.aget (by omega) (by omega) (fun u _ => ?_)
  apply okP.bind; refine okP.aget (by omega) (by omega) (fun v _ => ?_)
  have x6 : x.toInt ≤ 600 := by omega
  refine okP.ite (fun _ => ?_) (fun _ => ?_)
  ·-- addCase at both
   apply okP.bind
   refine okP.mono (Oa.add (by decide) (by omega) u v) ?_
   rintro w hw
   apply okP.bind
   refine okP.mono (Ob'.add (by decide) (by omega) u v) ?_
   rintro w' hw'
   rcases hw with ⟨e, bad⟩ | ⟨good, ⟨e, dup⟩ | ⟨nd, ⟨e, full⟩ | ⟨lt, w1, c', j, O', jn, I, d1, d2⟩⟩⟩
   ·rcases hw' with ⟨e', _⟩ | ⟨good, _⟩
    ·rw [e, e', if_pos rfl]; exact nx7 x0 x6 Oa Ob' E D u v
    ·exact absurd good bad
   ·rcases hw' with ⟨_, bad⟩ | ⟨_, ⟨e', _⟩ | ⟨nd, _⟩⟩
    ·exact absurd good bad
    ·rw [e, e', if_pos rfl]; exact nx7 x0 x6 Oa Ob' E D u v
    ·obtain ⟨i, i1, i2⟩ := dup
     exact absurd (by rw [same_v i i1]; exact i2) (nd i i1)
   ·rcases hw' with ⟨_, bad⟩ | ⟨_, ⟨_, ⟨i, i1, i2⟩⟩ | ⟨_, ⟨e', _⟩ | ⟨lt, _⟩⟩⟩
    ·exact absurd good bad
    ·exact absurd (by rw [← same_v i i1]; exact i2) (nd i i1)
    ·rw [e, e', if_pos rfl]; exact nx7 x0 x6 Oa Ob' E D u v
    ·omega
   ·rcases hw' with ⟨_, bad⟩ | ⟨_, ⟨_, ⟨i, i1, i2⟩⟩ | ⟨_, ⟨_, full⟩ | ⟨_, w1', c'', j', O'', jn', I', d1', d2'⟩⟩⟩
    ·exact absurd good bad
    ·exact absurd (by rw [← same_v i i1]; exact i2) (nd i i1)
    ·omega
    ·rw [if_pos (w1.trans w1'.symm)]
     refine nx7 x0 x6 O' O'' ⟨ins_same O'.sw.1 O''.sw.1 E1 I I' jn jn' d1 d1', E2, E3⟩ ?_ u v
     by_cases q : x3 = 0
     ·exact Or.inl ⟨q, d2.trans d2'.symm⟩
     ·exact Or.inr ⟨q, d2⟩
  refine okP.ite (fun _ => ?_) (fun _ => ?_)
  ·-- removeCase at both
   apply okP.bind
   refine okP.mono (Oa.rem (by decide) (by omega) u) ?_
   rintro w hw
   apply okP.bind
   refine okP.mono (Ob'.rem (by decide) (by omega) u) ?_
   rintro w' hw'
   rcases hw with ⟨e, no⟩ | ⟨w1, c', j, n', en, O', jn, vj, I, d1, d2⟩
   ·rcases hw' with ⟨e', _⟩ | ⟨_, _, j, _, _, _, jn, vj, _⟩
    ·rw [e, e', if_pos rfl]; exact nx7 x0 x6 Oa Ob' E D u v
    ·exact absurd (by rw [← same_v j jn]; exact vj) (no j jn)
   ·rcases hw' with ⟨_, no⟩ | ⟨w1', c'', j', n'', en', O'', jn', vj', I', d1', d2'⟩
    ·exact absurd (by rw [same_v j jn]; exact vj) (no j jn)
    ·obtain rfl : n'' = n' := by omega
     obtain rfl : j' = j := vv_inj Sa jn' jn (by rw [← same_v j' jn', vj', vj])
     subst en
     rw [if_pos (w1.trans w1'.symm)]
     refine nx7 x0 x6 O' O'' ⟨rem_same O'.sw.1 O''.sw.1 E1 I I' d1 d1', E2, E3⟩ ?_ u v
     by_cases q : x3 = 0
     ·exact Or.inl ⟨q, d2.trans d2'.symm⟩
     ·exact Or.inr ⟨q, d2⟩
  refine okP.ite (fun _ => ?_) (fun _ => ?_)
  ·-- setDefault at both
   apply okP.bind
   refine okP.mono (Oa.deflt u) ?_
   rintro w hw
   apply okP.bind
   refine okP.mono (Ob'.deflt u) ?_
   rintro w' hw'
   rcases hw with ⟨e, bad⟩ | ⟨good, w1, O'⟩
   ·rcases hw' with ⟨e', _⟩ | ⟨good, _⟩
    ·rw [e, e', if_pos rfl]; exact nx7 x0 x6 Oa Ob' E D u v
    ·exact absurd good bad
   ·rcases hw' with ⟨_, bad⟩ | ⟨_, w1', O''⟩
    ·exact absurd good bad
    ·rw [if_pos (w1.trans w1'.symm)]
     refine nx7 x0 x6 O' O'' ⟨⟨E1.1, E1.2.1, rfl⟩, E2, E3⟩ ?_ u v
     by_cases q : x3 = 0
     ·exact Or.inl ⟨q, rfl⟩
     ·exact Or.inr ⟨q, rfl⟩
  refine okP.ite (fun _ => ?_) (fun _ => ?_)
  ·-- lower at both
   apply okP.bind
   refine okP.mono (Oa.lower (by omega) ⟨Or.inl (by decide), by decide⟩ rfl) ?_
   rintro w ⟨w1, t', O', F1, ht⟩
   apply okP.bind
   refine okP.mono (Ob'.lower (by omega) ⟨Or.inl (by decide), by decide⟩ rfl) ?_
   rintro w' ⟨w1', t'', O'', F1', ht'⟩
   rw [if_pos (by rw [w1, w1']; exact E1.2.1.symm)]
   refine nx7 x0 x6 O' O'' ⟨⟨E1.1, E1.2.1, E1.2.2⟩, ht.trans ht'.symm, fun _ => ?_⟩ (Or.inl ⟨rfl, rfl⟩) u v
   have en : t'.2.2.1.toInt.toNat = n := by rw [F1.2.1, Sa.2.2.2.1]; rfl
   rw [en]
   exact F1.sym.trans (E1.trans F1')
  refine okP.ite (fun _ => ?_) (fun _ => ?_)
  ·-- reset at both
   apply okP.bind
   refine okP.mono (Oa.reset (by decide)) ?_
   rintro w ⟨c', t', O', r1, r2, r3, r4⟩
   apply okP.bind
   refine okP.mono (Ob'.reset (by decide)) ?_
   rintro w' ⟨c'', t'', O'', r1', r2', r3', r4'⟩
   exact nx7 x0 x6 O' O'' (al0 r1 r2 r4 r1' r2' r4') (Or.inl ⟨rfl, r3.trans r3'.symm⟩) u v
  ·-- a alone goes there and back
   apply okP.bind
   refine okP.mono (Oa.add (by decide) (by omega) u v) ?_
   rintro w (⟨e, bad⟩ | ⟨good, ⟨e, dup⟩ | ⟨nd, ⟨e, full⟩ | ⟨lt, w1, c', j, O', jn, I, d1, d2⟩⟩⟩)
   ·rw [e, if_neg (by show ¬ (3 : Int32) = 0; decide)]; exact nx7 x0 x6 Oa Ob' E D u v
   ·rw [e, if_neg (by show ¬ (2 : Int32) = 0; decide)]; exact nx7 x0 x6 Oa Ob' E D u v
   ·rw [e, if_neg (by show ¬ (1 : Int32) = 0; decide)]; exact nx7 x0 x6 Oa Ob' E D u v
   ·rw [if_pos w1]
    have vj : vv c' j = u.toInt := by unfold vv gd; rw [I.2.1.1]
    apply okP.bind
    refine okP.mono (O'.rem (by decide) (by omega) u) ?_
    rintro w' (⟨_, no⟩ | ⟨w1', c'', j', n', en, O'', jn', vj', I', d1', d2'⟩)
    ·exact absurd vj (no j (by omega))
    ·obtain rfl : n' = n := by omega
     obtain rfl : j' = j := vv_inj O'.sw.1 jn' (by omega) (by rw [vj', vj])
     rw [if_pos w1']
     have Bk := back_same Sa O''.sw.1 I I' d1 d1'
     exact nx7 x0 x6 O'' Ob' ⟨Bk.sym.trans E1, E2, E3⟩ (Or.inr ⟨by decide, d2'⟩) u v
 obtain ⟨⟨r, τ⟩, q1, q2, q3⟩ := this
 simp only at q2
 subst q2
 exact ⟨τ, q1, q3⟩
set_option maxRecDepth 65536 in
theorem comes_1 {Post : Tables → Env → Array Value → State → Outcome → State → Prop} (hpost : ∀ tb e args s v u, (limb_1_1.after args s (.returned v) u = true ∧ limb_1_2.after args s (.returned v) u = true ∧ True) → FrameEnd s (.returned v) u (Jvm.fieldLocs frame_1_writes args s ++ Jvm.arrayLocs frame_1_arrays args s ++ Jvm.staticLocs frame_1_statics s) 96 10176 → Post tb e args s (.returned v) u) :
    ArmFor flags0 classFile x code maxLocals ret World_1 tables_1 room_1 Calls_1 rest_1 Pre_1 Post := by
  intro l hfl _ _ p e ha hc hk s m args below hf hA hF happ hP
  obtain ⟨hcalls, hrest, hpre⟩ := hP
  obtain ⟨-, -, -, hnamed, -, -, -, hat⟩ := (Spec.applies_iff hf).mp happ
  obtain ⟨hg, hn⟩ := and_e (Cond.before_iff.mp (show (Jvm.Cond.and given_1 narrow_1).before args s = true from hpre))
  obtain ⟨g0, g1⟩ := and_e hg
  obtain ⟨w0, rfl⟩ : ∃ w0 : Value, args = #[w0] := by
    have hs : args.size = 1 := by simpa [Cond.value, given_1] using g0
    obtain ⟨L⟩ := args
    match L, hs with
    | [w0], _ => exact ⟨w0, rfl⟩
  have hw := fun d (hd : d ∈ tables_1) => atoms_spec (ws := Jvm.Cond.code x code maxLocals ret :: tables_1) hat d (List.mem_cons_of_mem _ hd)
  have hfit : Fit s := fun {y c} hc i hi => by
    obtain ⟨ha, rfl⟩ := Array.getElem?_eq_some_iff.mp hc
    have q := List.all_eq_true.mp ((Array.all_eq_true_iff_forall_mem.mp hF) _ (Array.getElem_mem ha)) i (List.mem_range.mpr hi)
    simpa [Array.getElem?_eq_getElem hi] using q
  obtain ⟨n1, n2⟩ := and_e hn
  obtain ⟨a, cl, xs, rfl, hA1, hA2, hlen⟩ := script_ok hfit n1 n2
  obtain ⟨τ, hF0, hc1, hs1⟩ := law_ok xs hlen
  have hlt := hA1.lt
  have Ad : QAd s.heap.size (fun k => match k with | 0 => a | k + 1 => s.heap.size + k) := ⟨fun k hk => by cases k with | zero => exact absurd hk (Nat.not_succ_le_zero 0) | succ k => exact Nat.le_add_right _ _, fun i j h => by
    cases i with
    | zero => cases j with
      | zero => rfl
      | succ j => have h' : a = s.heap.size + j := h; exact absurd hA1.lt (by rw [h']; exact Nat.not_lt.mpr (Nat.le_add_right _ _))
    | succ i => cases j with
      | zero => have h' : s.heap.size + i = a := h; exact absurd hA1.lt (by rw [← h']; exact Nat.not_lt.mpr (Nat.le_add_right _ _))
      | succ j => have h' : s.heap.size + i = s.heap.size + j := h; omega⟩
  have hR : QRep s s.heap.size (fun k => match k with | 0 => a | k + 1 => s.heap.size + k) s.heap [iC xs] := ⟨⟨Nat.le_refl _, fun k hk => by cases k with | zero => exact absurd hk (Nat.not_succ_le_zero 0) | succ k => rfl⟩, rfl, fun k c h => by
    cases k with
    | zero => cases h; exact ⟨cl, hA1, hA2⟩
    | succ k => cases h⟩
  have T := tF0 (l := l) (Z := s) Ad (QW_ok hw) xs hF0
  have M := QTri.met (k := 0) (as := [.ref 0]) (by decide) T hR (Nat.le_of_ble_eq_true rfl) (fun q => by cases q) tables_1 (rm := room_1) (by decide) (by decide) hc1 hs1
  obtain ⟨n, o, h1, h2, h3, _, L, rfl, ⟨rfl, R', N⟩, hq⟩ := M p e ha hc hk s m _ below hf ((Spec.applies_iff_loose hf).mp happ).1 ⟨rfl, State.Warmed39.refl s, rfl⟩ trivial
  refine ⟨n, _, h1, h2, h3, hpost _ _ _ _ _ _ ⟨Cond.after_iff.mpr rfl, Cond.after_iff.mpr (eq_i res_at (Term.int_eval (1)) rfl), trivial⟩ ⟨hq.1, hq.2.1, (hq.2.2.sift fun y hy => Or.inr (N y hy)).mono hc1 hs1⟩⟩
theorem main_1_1 : Claimed_1_1 := comes_1 fun _ _ _ _ _ _ h hF => ⟨h.1, hF⟩
theorem main_1_2 : Claimed_1_2 := comes_1 fun _ _ _ _ _ _ h hF => ⟨h.2.1, hF⟩
end Jvm.Pilot.@@N@@
namespace Jvm.Pilot.@@N@@
open Jvm Jvm.ClassFile Sem Op Lib Jvm.Free Jvm.Stand Jvm.Pilot.@@N@@.Jvm.D
/-! MADE BY PROGRAM (witnessworld.py) out of the Statement's table words and the real class files: 11 classes; the members and pool entries that the words name. The judged class is class 1, her method 1. -/
namespace start1
open Jvm.ClassFile
def u (s : String) : CpInfo := .utf8 (stringToUtf16 s)
/-- a pool by its gaps: so many unusable entries, then the entry; so many at the end -/
def gap : Nat → List CpInfo → List CpInfo
  | 0, r => r
  | n + 1, r => .unusable :: gap n r
def poolList (es : List (Nat × CpInfo)) (last : Nat) : List CpInfo := es.foldr (fun e r => gap e.1 (e.2 :: r)) (gap last [])
def pool (es : List (Nat × CpInfo)) (last : Nat) : Array CpInfo := ⟨poolList es last⟩
def fileOf (pool : Array CpInfo) (this : Nat) (attrs : Array Attribute := #[]) (ms : Array MethodInfo := #[]) (fl : Nat := 33) (sup : Nat := 0) (ifs : Array Nat := #[]) (fds : Array FieldInfo := #[]) : ClassFile where
  minorVersion := 0
  majorVersion := 65
  constantPool := pool
  accessFlags := fl
  thisClass := this
  superClass := sup
  interfaces := ifs
  fields := fds
  methods := ms
  attributes := attrs
def plain (name : String) (sup : Option ClassId) : Class where
  name := name
  kind := .ordinary
  loader := none
  accessFlags := 33
  super := sup
  interfaces := #[]
  cf := none
  fields := #[]
  methods := #[]
  instanceTypes := #[]
  staticTypes := #[]
  resolved := #[]
  callSites := []
  init := .initialized
  statics := none
  mirror := none

def pool0 : Array CpInfo := pool [(5, u "<init>"), (0, u "()V"), (1, .class_ 10), (1, u "java/lang/Object")] 113

def k0c0 : Code := { maxStack := 0, maxLocals := 1, code := object_method_1_code, exceptionTable := #[], attributes := #[] }
def k0m0 : Method := { name := "<init>", desc := "()V", sig := { parameters := [], returnType := none }, accessFlags := 1, code := some k0c0 }
/-- java/lang/Object -/
def k0 : Class := { plain "java/lang/Object" none with
  accessFlags := 33
  interfaces := #[]
  cf := some (fileOf pool0 8 #[] #[{ accessFlags := 1, nameIndex := 5, descriptorIndex := 6, attributes := #[] }] 33 0 #[] #[])
  fields := #[]
  methods := #[k0m0]
  instanceTypes := #[]
  staticTypes := #[]
  resolved := Array.replicate 124 none
  statics := none }

def pool1 : Array CpInfo := pool [(2, .class_ 4), (1, u "java/lang/Object"), (0, u "<init>"), (0, u "()V"), (0, .class_ 8), (0, u "SwitchLowererX"), (0, .methodref 7 10), (0, .nameAndType 5 11), (0, u "(II)V"), (0, .methodref 7 13), (0, .nameAndType 14 15), (0, u "addCase"), (0, u "(II)I"), (0, .methodref 7 17), (0, .nameAndType 18 19), (0, u "removeCase"), (0, u "(I)I"), (0, .methodref 7 21), (0, .nameAndType 22 19), (0, u "setDefault"), (0, .methodref 7 24), (0, .nameAndType 25 26), (0, u "lower"), (0, u "()I"), (0, .methodref 7 28), (0, .nameAndType 29 6), (0, u "reset"), (0, .methodref 31 32), (0, .class_ 33), (0, .nameAndType 34 35), (0, u "SwitchLowererXL5"), (0, u "same"), (0, u "(LSwitchLowererX;LSwitchLowererX;II)Z"), (0, .methodref 7 37), (0, .nameAndType 38 39), (0, u "isCurrent"), (0, u "()Z"), (0, .methodref 7 41), (0, .nameAndType 42 26), (0, u "caseCount"), (0, .methodref 7 44), (0, .nameAndType 45 19), (0, u "caseValueAt"), (0, .methodref 7 47), (0, .nameAndType 48 19), (0, u "caseTargetAt"), (0, .methodref 7 50), (0, .nameAndType 51 26), (0, u "defaultTarget"), (0, .methodref 7 53), (0, .nameAndType 54 19), (0, u "lookup"), (0, .methodref 7 56), (0, .nameAndType 57 19), (0, u "route"), (0, .methodref 7 59), (0, .nameAndType 60 61), (0, u "nextRouted"), (0, u "(II)J"), (0, .methodref 7 63), (0, .nameAndType 64 65), (0, u "routedCount"), (0, u "(III)J"), (2, u "law"), (0, u "([I)Z")] 5

def k1m0 : Method := { name := "<init>", desc := "()V", sig := { parameters := [], returnType := none }, accessFlags := 1, code := none }
def k1c1 : Code := { maxStack := 4, maxLocals := 10, code := code, exceptionTable := #[], attributes := #[] }
def k1m1 : Method := { name := "law", desc := "([I)Z", sig := { parameters := [(.array .int)], returnType := some .boolean }, accessFlags := 9, code := some k1c1 }
def k1c2 : Code := { maxStack := 6, maxLocals := 5, code := method_3_code, exceptionTable := #[], attributes := #[] }
def k1m2 : Method := { name := "same", desc := "(LSwitchLowererX;LSwitchLowererX;II)Z", sig := { parameters := [(.object "SwitchLowererX"), (.object "SwitchLowererX"), .int, .int], returnType := some .boolean }, accessFlags := 10, code := some k1c2 }
/-- SwitchLowererXL5 -/
def k1 : Class := { plain "SwitchLowererXL5" (some 0) with
  accessFlags := 49
  interfaces := #[]
  cf := some (fileOf pool1 31 #[] #[{ accessFlags := 1, nameIndex := 5, descriptorIndex := 6, attributes := #[] }, { accessFlags := 9, nameIndex := 68, descriptorIndex := 69, attributes := #[] }, { accessFlags := 10, nameIndex := 34, descriptorIndex := 35, attributes := #[] }] 49 2 #[] #[])
  fields := #[]
  methods := #[k1m0, k1m1, k1m2]
  instanceTypes := #[]
  staticTypes := #[]
  resolved := Array.replicate 75 none
  statics := none }

def pool2 : Array CpInfo := pool [(1, .methodref 2 3), (0, .class_ 4), (0, .nameAndType 5 6), (0, u "java/lang/Object"), (0, u "<init>"), (0, u "()V"), (0, .fieldref 8 9), (0, .class_ 10), (0, .nameAndType 11 12), (0, u "SwitchLowererX"), (0, u "opRet"), (0, u "I"), (0, .fieldref 8 14), (0, .nameAndType 15 12), (0, u "opLess"), (0, .fieldref 8 17), (0, .nameAndType 18 12), (0, u "opEq"), (0, .fieldref 8 20), (0, .nameAndType 21 12), (0, u "opTable"), (0, .fieldref 8 23), (0, .nameAndType 24 12), (0, u "opBits"), (0, .fieldref 8 26), (0, .nameAndType 27 12), (0, u "maxCap"), (0, .fieldref 8 29), (0, .nameAndType 30 12), (0, u "maxTargets"), (0, .fieldref 8 32), (0, .nameAndType 33 12), (0, u "maxSteps"), (0, .fieldref 8 35), (0, .nameAndType 36 12), (0, u "tableSpanPerCase"), (0, .fieldref 8 38), (0, .nameAndType 39 12), (0, u "maxTableSpan"), (0, .fieldref 8 41), (0, .nameAndType 42 12), (0, u "maxBitSpan"), (0, .fieldref 8 44), (0, .nameAndType 45 12), (0, u "maxBitTargets"), (0, .long 4294967295), (1, .fieldref 8 49), (0, .nameAndType 50 51), (0, u "unsignedMask"), (0, u "J"), (0, .integer 2147483647), (0, .fieldref 8 54), (0, .nameAndType 55 12), (0, u "maxInt"), (0, .fieldref 8 57), (0, .nameAndType 58 59), (0, u "curVal"), (0, u "[I"), (0, .fieldref 8 61), (0, .nameAndType 62 63), (0, u "curTgt"), (0, u "[B"), (0, .fieldref 8 65), (0, .nameAndType 66 59), (0, u "snapVal"), (0, .fieldref 8 68), (0, .nameAndType 69 63), (0, u "snapTgt"), (0, .fieldref 8 71), (0, .nameAndType 72 59), (0, u "bestCost"), (0, .fieldref 8 74), (0, .nameAndType 75 59), (0, u "bestCut"), (0, .fieldref 8 77), (0, .nameAndType 78 59), (0, u "clStart"), (0, .fieldref 8 80), (0, .nameAndType 81 59), (0, u "clEnd"), (0, .fieldref 8 83), (0, .nameAndType 84 63), (0, u "opc"), (0, .fieldref 8 86), (0, .nameAndType 87 59), (0, u "argA"), (0, .fieldref 8 89), (0, .nameAndType 90 59), (0, u "argB"), (0, .fieldref 8 92), (0, .nameAndType 93 59), (0, u "argC"), (0, .fieldref 8 95), (0, .nameAndType 96 59), (0, u "argD"), (0, .fieldref 8 98), (0, .nameAndType 99 63), (0, u "tablePool"), (0, .fieldref 8 101), (0, .nameAndType 102 103), (0, u "maskPool"), (0, u "[J"), (0, .fieldref 8 105), (0, .nameAndType 106 63), (0, u "maskTarget"), (0, .fieldref 8 108), (0, .nameAndType 109 59), (0, u "stLo"), (0, .fieldref 8 111), (0, .nameAndType 112 59), (0, u "stHi"), (0, .fieldref 8 114), (0, .nameAndType 115 59), (0, u "stParent"), (0, .fieldref 8 117), (0, .nameAndType 118 59), (0, u "stSlot"), (0, .methodref 8 120), (0, .nameAndType 121 122), (0, u "clamp"), (0, u "(III)I"), (0, .fieldref 8 124), (0, .nameAndType 125 12), (0, u "cap"), (0, .fieldref 8 127), (0, .nameAndType 128 12), (0, u "targets"), (0, .methodref 8 130), (0, .nameAndType 131 6), (0, u "reset"), (0, .fieldref 8 133), (0, .nameAndType 134 12), (0, u "curCount"), (0, .fieldref 8 136), (0, .nameAndType 137 12), (0, u "curDefault"), (0, .fieldref 8 139), (0, .nameAndType 140 141), (0, u "dirty"), (0, u "Z"), (0, .fieldref 8 143), (0, .nameAndType 144 12), (0, u "snapCount"), (0, .fieldref 8 146), (0, .nameAndType 147 12), (0, u "snapDefault"), (0, .fieldref 8 149), (0, .nameAndType 150 141), (0, u "hasSnap"), (0, .fieldref 8 152), (0, .nameAndType 153 12), (0, u "clCount"), (0, .fieldref 8 155), (0, .nameAndType 156 12), (0, u "codeLen"), (0, .fieldref 8 158), (0, .nameAndType 159 12), (0, u "rootPc"), (0, .fieldref 8 161), (0, .nameAndType 162 12), (0, u "tableUsed"), (0, .fieldref 8 164), (0, .nameAndType 165 12), (0, u "maskUsed"), (0, .fieldref 8 167), (0, .nameAndType 168 12), (0, u "sp"), (0, .methodref 8 170), (0, .nameAndType 171 172), (0, u "curLowerBound"), (0, u "(I)I"), (0, .methodref 8 174), (0, .nameAndType 175 172), (0, u "curIndexOf"), (0, .methodref 8 177), (0, .nameAndType 178 6), (0, u "takeSnapshot"), (0, .methodref 8 180), (0, .nameAndType 181 6), (0, u "planClusters"), (0, .methodref 8 183), (0, .nameAndType 184 6), (0, u "collectClusters"), (0, .methodref 8 186), (0, .nameAndType 187 6), (0, u "buildTree"), (0, .methodref 8 189), (0, .nameAndType 190 172), (0, u "run"), (0, .long 4294967296), (1, .methodref 8 194), (0, .nameAndType 195 196), (0, u "nextDefaultRouted"), (0, u "(I)J"), (0, .methodref 8 198), (0, .nameAndType 199 200), (0, u "nextCaseRouted"), (0, u "(II)J"), (0, .methodref 8 202), (0, .nameAndType 203 204), (0, u "countCaseHits"), (0, u "(IIIZ)J"), (0, .long 256), (1, .methodref 8 208), (0, .nameAndType 209 210), (0, u "clusterFits"), (0, u "(JII)Z"), (0, .long 64), (1, .long 4), (1, .methodref 8 216), (0, .nameAndType 217 218), (0, u "emit"), (0, u "(IIIII)I"), (0, .methodref 8 220), (0, .nameAndType 221 222), (0, u "push"), (0, u "(IIII)V"), (0, .methodref 8 224), (0, .nameAndType 225 172), (0, u "emitLeaf"), (0, .methodref 8 227), (0, .nameAndType 228 172), (0, u "clusterLow"), (0, .methodref 8 230), (0, .nameAndType 231 232), (0, u "patch"), (0, u "(III)V"), (0, .methodref 8 234), (0, .nameAndType 235 236), (0, u "distinctTargets"), (0, u "(II)I"), (0, .methodref 8 238), (0, .nameAndType 239 122), (0, u "emitBits"), (3, .methodref 8 244), (0, .nameAndType 245 122), (0, u "findMaskSlot"), (0, .methodref 8 247), (0, .nameAndType 248 236), (0, u "runLeaf"), (3, .methodref 8 253), (0, .nameAndType 254 236), (0, u "runBits"), (0, .methodref 8 256), (0, .nameAndType 257 200), (0, u "unsignedOffset"), (0, .methodref 8 259), (0, .nameAndType 260 172), (0, u "snapLowerBound"), (0, u "OK"), (2, u "FULL"), (1, u "DUPLICATE"), (1, u "BAD_TARGET"), (1, u "ABSENT"), (1, u "NOT_LOWERED"), (1, u "NO_CASE"), (0, u "NONE"), (3, u "(II)V"), (3, u "()I"), (1, u "addCase"), (1, u "removeCase"), (0, u "setDefault"), (0, u "caseCount"), (0, u "caseValueAt"), (0, u "caseTargetAt"), (0, u "defaultTarget"), (0, u "lookup"), (0, u "lower"), (0, u "isCurrent"), (0, u "()Z"), (0, u "route"), (0, u "nextRouted"), (0, u "routedCount"), (0, u "(III)J")] 2

def k2c0 : Code := { maxStack := 5, maxLocals := 3, code := prog_1_method_1_code, exceptionTable := #[], attributes := #[] }
def k2m0 : Method := { name := "<init>", desc := "(II)V", sig := { parameters := [.int, .int], returnType := none }, accessFlags := 1, code := some k2c0 }
def k2c1 : Code := { maxStack := 2, maxLocals := 1, code := prog_1_method_4_code, exceptionTable := #[], attributes := #[] }
def k2m1 : Method := { name := "reset", desc := "()V", sig := { parameters := [], returnType := none }, accessFlags := 1, code := some k2c1 }
def k2c2 : Code := { maxStack := 5, maxLocals := 5, code := prog_1_method_5_code, exceptionTable := #[], attributes := #[] }
def k2m2 : Method := { name := "addCase", desc := "(II)I", sig := { parameters := [.int, .int], returnType := some .int }, accessFlags := 1, code := some k2c2 }
def k2c3 : Code := { maxStack := 5, maxLocals := 4, code := prog_1_method_6_code, exceptionTable := #[], attributes := #[] }
def k2m3 : Method := { name := "removeCase", desc := "(I)I", sig := { parameters := [.int], returnType := some .int }, accessFlags := 1, code := some k2c3 }
def k2c4 : Code := { maxStack := 2, maxLocals := 2, code := prog_1_method_7_code, exceptionTable := #[], attributes := #[] }
def k2m4 : Method := { name := "setDefault", desc := "(I)I", sig := { parameters := [.int], returnType := some .int }, accessFlags := 1, code := some k2c4 }
def k2c5 : Code := { maxStack := 1, maxLocals := 1, code := prog_1_method_8_code, exceptionTable := #[], attributes := #[] }
def k2m5 : Method := { name := "caseCount", desc := "()I", sig := { parameters := [], returnType := some .int }, accessFlags := 1, code := some k2c5 }
def k2c6 : Code := { maxStack := 2, maxLocals := 2, code := prog_1_method_9_code, exceptionTable := #[], attributes := #[] }
def k2m6 : Method := { name := "caseValueAt", desc := "(I)I", sig := { parameters := [.int], returnType := some .int }, accessFlags := 1, code := some k2c6 }
def k2c7 : Code := { maxStack := 2, maxLocals := 2, code := prog_1_method_10_code, exceptionTable := #[], attributes := #[] }
def k2m7 : Method := { name := "caseTargetAt", desc := "(I)I", sig := { parameters := [.int], returnType := some .int }, accessFlags := 1, code := some k2c7 }
def k2c8 : Code := { maxStack := 1, maxLocals := 1, code := prog_1_method_11_code, exceptionTable := #[], attributes := #[] }
def k2m8 : Method := { name := "defaultTarget", desc := "()I", sig := { parameters := [], returnType := some .int }, accessFlags := 1, code := some k2c8 }
def k2c9 : Code := { maxStack := 2, maxLocals := 3, code := prog_1_method_12_code, exceptionTable := #[], attributes := #[] }
def k2m9 : Method := { name := "lookup", desc := "(I)I", sig := { parameters := [.int], returnType := some .int }, accessFlags := 1, code := some k2c9 }
def k2c10 : Code := { maxStack := 1, maxLocals := 1, code := prog_1_method_13_code, exceptionTable := #[], attributes := #[] }
def k2m10 : Method := { name := "lower", desc := "()I", sig := { parameters := [], returnType := some .int }, accessFlags := 1, code := some k2c10 }
def k2c11 : Code := { maxStack := 1, maxLocals := 1, code := prog_1_method_14_code, exceptionTable := #[], attributes := #[] }
def k2m11 : Method := { name := "isCurrent", desc := "()Z", sig := { parameters := [], returnType := some .boolean }, accessFlags := 1, code := some k2c11 }
def k2c12 : Code := { maxStack := 2, maxLocals := 2, code := prog_1_method_15_code, exceptionTable := #[], attributes := #[] }
def k2m12 : Method := { name := "route", desc := "(I)I", sig := { parameters := [.int], returnType := some .int }, accessFlags := 1, code := some k2c12 }
def k2c13 : Code := { maxStack := 3, maxLocals := 3, code := prog_1_method_16_code, exceptionTable := #[], attributes := #[] }
def k2m13 : Method := { name := "nextRouted", desc := "(II)J", sig := { parameters := [.int, .int], returnType := some .long }, accessFlags := 1, code := some k2c13 }
def k2c14 : Code := { maxStack := 5, maxLocals := 9, code := prog_1_method_17_code, exceptionTable := #[], attributes := #[] }
def k2m14 : Method := { name := "routedCount", desc := "(III)J", sig := { parameters := [.int, .int, .int], returnType := some .long }, accessFlags := 1, code := some k2c14 }
def k2c15 : Code := { maxStack := 2, maxLocals := 4, code := prog_1_method_18_code, exceptionTable := #[], attributes := #[] }
def k2m15 : Method := { name := "clamp", desc := "(III)I", sig := { parameters := [.int, .int, .int], returnType := some .int }, accessFlags := 2, code := some k2c15 }
def k2c16 : Code := { maxStack := 2, maxLocals := 6, code := prog_1_method_19_code, exceptionTable := #[], attributes := #[] }
def k2m16 : Method := { name := "curLowerBound", desc := "(I)I", sig := { parameters := [.int], returnType := some .int }, accessFlags := 2, code := some k2c16 }
def k2c17 : Code := { maxStack := 2, maxLocals := 3, code := prog_1_method_20_code, exceptionTable := #[], attributes := #[] }
def k2m17 : Method := { name := "curIndexOf", desc := "(I)I", sig := { parameters := [.int], returnType := some .int }, accessFlags := 2, code := some k2c17 }
def k2c18 : Code := { maxStack := 2, maxLocals := 6, code := prog_1_method_21_code, exceptionTable := #[], attributes := #[] }
def k2m18 : Method := { name := "snapLowerBound", desc := "(I)I", sig := { parameters := [.int], returnType := some .int }, accessFlags := 2, code := some k2c18 }
def k2c19 : Code := { maxStack := 4, maxLocals := 2, code := prog_1_method_22_code, exceptionTable := #[], attributes := #[] }
def k2m19 : Method := { name := "takeSnapshot", desc := "()V", sig := { parameters := [], returnType := none }, accessFlags := 2, code := some k2c19 }
def k2c20 : Code := { maxStack := 5, maxLocals := 10, code := prog_1_method_23_code, exceptionTable := #[], attributes := #[] }
def k2m20 : Method := { name := "planClusters", desc := "()V", sig := { parameters := [], returnType := none }, accessFlags := 2, code := some k2c20 }
def k2c21 : Code := { maxStack := 6, maxLocals := 7, code := prog_1_method_24_code, exceptionTable := #[], attributes := #[] }
def k2m21 : Method := { name := "clusterFits", desc := "(JII)Z", sig := { parameters := [.long, .int, .int], returnType := some .boolean }, accessFlags := 2, code := some k2c21 }
def k2c22 : Code := { maxStack := 4, maxLocals := 6, code := prog_1_method_25_code, exceptionTable := #[], attributes := #[] }
def k2m22 : Method := { name := "collectClusters", desc := "()V", sig := { parameters := [], returnType := none }, accessFlags := 2, code := some k2c22 }
def k2c23 : Code := { maxStack := 7, maxLocals := 9, code := prog_1_method_26_code, exceptionTable := #[], attributes := #[] }
def k2m23 : Method := { name := "buildTree", desc := "()V", sig := { parameters := [], returnType := none }, accessFlags := 2, code := some k2c23 }
def k2c24 : Code := { maxStack := 3, maxLocals := 5, code := prog_1_method_27_code, exceptionTable := #[], attributes := #[] }
def k2m24 : Method := { name := "push", desc := "(IIII)V", sig := { parameters := [.int, .int, .int, .int], returnType := none }, accessFlags := 2, code := some k2c24 }
def k2c25 : Code := { maxStack := 3, maxLocals := 4, code := prog_1_method_28_code, exceptionTable := #[], attributes := #[] }
def k2m25 : Method := { name := "patch", desc := "(III)V", sig := { parameters := [.int, .int, .int], returnType := none }, accessFlags := 2, code := some k2c25 }
def k2c26 : Code := { maxStack := 3, maxLocals := 7, code := prog_1_method_29_code, exceptionTable := #[], attributes := #[] }
def k2m26 : Method := { name := "emit", desc := "(IIIII)I", sig := { parameters := [.int, .int, .int, .int, .int], returnType := some .int }, accessFlags := 2, code := some k2c26 }
def k2c27 : Code := { maxStack := 2, maxLocals := 3, code := prog_1_method_30_code, exceptionTable := #[], attributes := #[] }
def k2m27 : Method := { name := "clusterLow", desc := "(I)I", sig := { parameters := [.int], returnType := some .int }, accessFlags := 2, code := some k2c27 }
def k2c28 : Code := { maxStack := 6, maxLocals := 7, code := prog_1_method_31_code, exceptionTable := #[], attributes := #[] }
def k2m28 : Method := { name := "emitLeaf", desc := "(I)I", sig := { parameters := [.int], returnType := some .int }, accessFlags := 2, code := some k2c28 }
def k2c29 : Code := { maxStack := 3, maxLocals := 7, code := prog_1_method_32_code, exceptionTable := #[], attributes := #[] }
def k2m29 : Method := { name := "distinctTargets", desc := "(II)I", sig := { parameters := [.int, .int], returnType := some .int }, accessFlags := 2, code := some k2c29 }
def k2c30 : Code := { maxStack := 7, maxLocals := 11, code := prog_1_method_33_code, exceptionTable := #[], attributes := #[] }
def k2m30 : Method := { name := "emitBits", desc := "(III)I", sig := { parameters := [.int, .int, .int], returnType := some .int }, accessFlags := 2, code := some k2c30 }
def k2c31 : Code := { maxStack := 2, maxLocals := 6, code := prog_1_method_34_code, exceptionTable := #[], attributes := #[] }
def k2m31 : Method := { name := "findMaskSlot", desc := "(III)I", sig := { parameters := [.int, .int, .int], returnType := some .int }, accessFlags := 2, code := some k2c31 }
def k2c32 : Code := { maxStack := 3, maxLocals := 6, code := prog_1_method_36_code, exceptionTable := #[], attributes := #[] }
def k2m32 : Method := { name := "run", desc := "(I)I", sig := { parameters := [.int], returnType := some .int }, accessFlags := 2, code := some k2c32 }
def k2c33 : Code := { maxStack := 3, maxLocals := 4, code := prog_1_method_37_code, exceptionTable := #[], attributes := #[] }
def k2m33 : Method := { name := "runLeaf", desc := "(II)I", sig := { parameters := [.int, .int], returnType := some .int }, accessFlags := 2, code := some k2c33 }
def k2c34 : Code := { maxStack := 4, maxLocals := 3, code := prog_1_method_38_code, exceptionTable := #[], attributes := #[] }
def k2m34 : Method := { name := "unsignedOffset", desc := "(II)J", sig := { parameters := [.int, .int], returnType := some .long }, accessFlags := 2, code := some k2c34 }
def k2c35 : Code := { maxStack := 4, maxLocals := 10, code := prog_1_method_40_code, exceptionTable := #[], attributes := #[] }
def k2m35 : Method := { name := "runBits", desc := "(II)I", sig := { parameters := [.int, .int], returnType := some .int }, accessFlags := 2, code := some k2c35 }
def k2c36 : Code := { maxStack := 2, maxLocals := 6, code := prog_1_method_41_code, exceptionTable := #[], attributes := #[] }
def k2m36 : Method := { name := "nextCaseRouted", desc := "(II)J", sig := { parameters := [.int, .int], returnType := some .long }, accessFlags := 2, code := some k2c36 }
def k2c37 : Code := { maxStack := 2, maxLocals := 4, code := prog_1_method_42_code, exceptionTable := #[], attributes := #[] }
def k2m37 : Method := { name := "nextDefaultRouted", desc := "(I)J", sig := { parameters := [.int], returnType := some .long }, accessFlags := 2, code := some k2c37 }
def k2c38 : Code := { maxStack := 4, maxLocals := 11, code := prog_1_method_43_code, exceptionTable := #[], attributes := #[] }
def k2m38 : Method := { name := "countCaseHits", desc := "(IIIZ)J", sig := { parameters := [.int, .int, .int, .boolean], returnType := some .long }, accessFlags := 2, code := some k2c38 }
/-- SwitchLowererX -/
def k2 : Class := { plain "SwitchLowererX" (some 0) with
  accessFlags := 49
  interfaces := #[]
  cf := some (fileOf pool2 8 #[] #[{ accessFlags := 1, nameIndex := 5, descriptorIndex := 279, attributes := #[] }, { accessFlags := 1, nameIndex := 131, descriptorIndex := 6, attributes := #[] }, { accessFlags := 1, nameIndex := 285, descriptorIndex := 236, attributes := #[] }, { accessFlags := 1, nameIndex := 287, descriptorIndex := 172, attributes := #[] }, { accessFlags := 1, nameIndex := 288, descriptorIndex := 172, attributes := #[] }, { accessFlags := 1, nameIndex := 289, descriptorIndex := 283, attributes := #[] }, { accessFlags := 1, nameIndex := 290, descriptorIndex := 172, attributes := #[] }, { accessFlags := 1, nameIndex := 291, descriptorIndex := 172, attributes := #[] }, { accessFlags := 1, nameIndex := 292, descriptorIndex := 283, attributes := #[] }, { accessFlags := 1, nameIndex := 293, descriptorIndex := 172, attributes := #[] }, { accessFlags := 1, nameIndex := 294, descriptorIndex := 283, attributes := #[] }, { accessFlags := 1, nameIndex := 295, descriptorIndex := 296, attributes := #[] }, { accessFlags := 1, nameIndex := 297, descriptorIndex := 172, attributes := #[] }, { accessFlags := 1, nameIndex := 298, descriptorIndex := 200, attributes := #[] }, { accessFlags := 1, nameIndex := 299, descriptorIndex := 300, attributes := #[] }, { accessFlags := 2, nameIndex := 121, descriptorIndex := 122, attributes := #[] }, { accessFlags := 2, nameIndex := 171, descriptorIndex := 172, attributes := #[] }, { accessFlags := 2, nameIndex := 175, descriptorIndex := 172, attributes := #[] }, { accessFlags := 2, nameIndex := 260, descriptorIndex := 172, attributes := #[] }, { accessFlags := 2, nameIndex := 178, descriptorIndex := 6, attributes := #[] }, { accessFlags := 2, nameIndex := 181, descriptorIndex := 6, attributes := #[] }, { accessFlags := 2, nameIndex := 209, descriptorIndex := 210, attributes := #[] }, { accessFlags := 2, nameIndex := 184, descriptorIndex := 6, attributes := #[] }, { accessFlags := 2, nameIndex := 187, descriptorIndex := 6, attributes := #[] }, { accessFlags := 2, nameIndex := 221, descriptorIndex := 222, attributes := #[] }, { accessFlags := 2, nameIndex := 231, descriptorIndex := 232, attributes := #[] }, { accessFlags := 2, nameIndex := 217, descriptorIndex := 218, attributes := #[] }, { accessFlags := 2, nameIndex := 228, descriptorIndex := 172, attributes := #[] }, { accessFlags := 2, nameIndex := 225, descriptorIndex := 172, attributes := #[] }, { accessFlags := 2, nameIndex := 235, descriptorIndex := 236, attributes := #[] }, { accessFlags := 2, nameIndex := 239, descriptorIndex := 122, attributes := #[] }, { accessFlags := 2, nameIndex := 245, descriptorIndex := 122, attributes := #[] }, { accessFlags := 2, nameIndex := 190, descriptorIndex := 172, attributes := #[] }, { accessFlags := 2, nameIndex := 248, descriptorIndex := 236, attributes := #[] }, { accessFlags := 2, nameIndex := 257, descriptorIndex := 200, attributes := #[] }, { accessFlags := 2, nameIndex := 254, descriptorIndex := 236, attributes := #[] }, { accessFlags := 2, nameIndex := 199, descriptorIndex := 200, attributes := #[] }, { accessFlags := 2, nameIndex := 195, descriptorIndex := 196, attributes := #[] }, { accessFlags := 2, nameIndex := 203, descriptorIndex := 204, attributes := #[] }] 49 2 #[] #[{ accessFlags := 25, nameIndex := 261, descriptorIndex := 12, attributes := #[] }, { accessFlags := 25, nameIndex := 264, descriptorIndex := 12, attributes := #[] }, { accessFlags := 25, nameIndex := 266, descriptorIndex := 12, attributes := #[] }, { accessFlags := 25, nameIndex := 268, descriptorIndex := 12, attributes := #[] }, { accessFlags := 25, nameIndex := 270, descriptorIndex := 12, attributes := #[] }, { accessFlags := 25, nameIndex := 272, descriptorIndex := 12, attributes := #[] }, { accessFlags := 25, nameIndex := 274, descriptorIndex := 12, attributes := #[] }, { accessFlags := 25, nameIndex := 275, descriptorIndex := 51, attributes := #[] }, { accessFlags := 18, nameIndex := 11, descriptorIndex := 12, attributes := #[] }, { accessFlags := 18, nameIndex := 15, descriptorIndex := 12, attributes := #[] }, { accessFlags := 18, nameIndex := 18, descriptorIndex := 12, attributes := #[] }, { accessFlags := 18, nameIndex := 21, descriptorIndex := 12, attributes := #[] }, { accessFlags := 18, nameIndex := 24, descriptorIndex := 12, attributes := #[] }, { accessFlags := 18, nameIndex := 27, descriptorIndex := 12, attributes := #[] }, { accessFlags := 18, nameIndex := 30, descriptorIndex := 12, attributes := #[] }, { accessFlags := 18, nameIndex := 33, descriptorIndex := 12, attributes := #[] }, { accessFlags := 18, nameIndex := 36, descriptorIndex := 12, attributes := #[] }, { accessFlags := 18, nameIndex := 39, descriptorIndex := 12, attributes := #[] }, { accessFlags := 18, nameIndex := 42, descriptorIndex := 12, attributes := #[] }, { accessFlags := 18, nameIndex := 45, descriptorIndex := 12, attributes := #[] }, { accessFlags := 18, nameIndex := 50, descriptorIndex := 51, attributes := #[] }, { accessFlags := 18, nameIndex := 55, descriptorIndex := 12, attributes := #[] }, { accessFlags := 2, nameIndex := 125, descriptorIndex := 12, attributes := #[] }, { accessFlags := 2, nameIndex := 128, descriptorIndex := 12, attributes := #[] }, { accessFlags := 18, nameIndex := 58, descriptorIndex := 59, attributes := #[] }, { accessFlags := 18, nameIndex := 62, descriptorIndex := 63, attributes := #[] }, { accessFlags := 2, nameIndex := 134, descriptorIndex := 12, attributes := #[] }, { accessFlags := 2, nameIndex := 137, descriptorIndex := 12, attributes := #[] }, { accessFlags := 2, nameIndex := 140, descriptorIndex := 141, attributes := #[] }, { accessFlags := 18, nameIndex := 66, descriptorIndex := 59, attributes := #[] }, { accessFlags := 18, nameIndex := 69, descriptorIndex := 63, attributes := #[] }, { accessFlags := 2, nameIndex := 144, descriptorIndex := 12, attributes := #[] }, { accessFlags := 2, nameIndex := 147, descriptorIndex := 12, attributes := #[] }, { accessFlags := 2, nameIndex := 150, descriptorIndex := 141, attributes := #[] }, { accessFlags := 18, nameIndex := 72, descriptorIndex := 59, attributes := #[] }, { accessFlags := 18, nameIndex := 75, descriptorIndex := 59, attributes := #[] }, { accessFlags := 18, nameIndex := 78, descriptorIndex := 59, attributes := #[] }, { accessFlags := 18, nameIndex := 81, descriptorIndex := 59, attributes := #[] }, { accessFlags := 2, nameIndex := 153, descriptorIndex := 12, attributes := #[] }, { accessFlags := 18, nameIndex := 84, descriptorIndex := 63, attributes := #[] }, { accessFlags := 18, nameIndex := 87, descriptorIndex := 59, attributes := #[] }, { accessFlags := 18, nameIndex := 90, descriptorIndex := 59, attributes := #[] }, { accessFlags := 18, nameIndex := 93, descriptorIndex := 59, attributes := #[] }, { accessFlags := 18, nameIndex := 96, descriptorIndex := 59, attributes := #[] }, { accessFlags := 2, nameIndex := 156, descriptorIndex := 12, attributes := #[] }, { accessFlags := 2, nameIndex := 159, descriptorIndex := 12, attributes := #[] }, { accessFlags := 18, nameIndex := 99, descriptorIndex := 63, attributes := #[] }, { accessFlags := 2, nameIndex := 162, descriptorIndex := 12, attributes := #[] }, { accessFlags := 18, nameIndex := 102, descriptorIndex := 103, attributes := #[] }, { accessFlags := 18, nameIndex := 106, descriptorIndex := 63, attributes := #[] }, { accessFlags := 2, nameIndex := 165, descriptorIndex := 12, attributes := #[] }, { accessFlags := 18, nameIndex := 109, descriptorIndex := 59, attributes := #[] }, { accessFlags := 18, nameIndex := 112, descriptorIndex := 59, attributes := #[] }, { accessFlags := 18, nameIndex := 115, descriptorIndex := 59, attributes := #[] }, { accessFlags := 18, nameIndex := 118, descriptorIndex := 59, attributes := #[] }, { accessFlags := 2, nameIndex := 168, descriptorIndex := 12, attributes := #[] }])
  fields := #[{ name := "OK", type := .int, accessFlags := 25, slot := 0, constantValue := 0 }, { name := "FULL", type := .int, accessFlags := 25, slot := 1, constantValue := 0 }, { name := "DUPLICATE", type := .int, accessFlags := 25, slot := 2, constantValue := 0 }, { name := "BAD_TARGET", type := .int, accessFlags := 25, slot := 3, constantValue := 0 }, { name := "ABSENT", type := .int, accessFlags := 25, slot := 4, constantValue := 0 }, { name := "NOT_LOWERED", type := .int, accessFlags := 25, slot := 5, constantValue := 0 }, { name := "NO_CASE", type := .int, accessFlags := 25, slot := 6, constantValue := 0 }, { name := "NONE", type := .long, accessFlags := 25, slot := 7, constantValue := 0 }, { name := "opRet", type := .int, accessFlags := 18, slot := 0, constantValue := 0 }, { name := "opLess", type := .int, accessFlags := 18, slot := 1, constantValue := 0 }, { name := "opEq", type := .int, accessFlags := 18, slot := 2, constantValue := 0 }, { name := "opTable", type := .int, accessFlags := 18, slot := 3, constantValue := 0 }, { name := "opBits", type := .int, accessFlags := 18, slot := 4, constantValue := 0 }, { name := "maxCap", type := .int, accessFlags := 18, slot := 5, constantValue := 0 }, { name := "maxTargets", type := .int, accessFlags := 18, slot := 6, constantValue := 0 }, { name := "maxSteps", type := .int, accessFlags := 18, slot := 7, constantValue := 0 }, { name := "tableSpanPerCase", type := .int, accessFlags := 18, slot := 8, constantValue := 0 }, { name := "maxTableSpan", type := .int, accessFlags := 18, slot := 9, constantValue := 0 }, { name := "maxBitSpan", type := .int, accessFlags := 18, slot := 10, constantValue := 0 }, { name := "maxBitTargets", type := .int, accessFlags := 18, slot := 11, constantValue := 0 }, { name := "unsignedMask", type := .long, accessFlags := 18, slot := 12, constantValue := 0 }, { name := "maxInt", type := .int, accessFlags := 18, slot := 13, constantValue := 0 }, { name := "cap", type := .int, accessFlags := 2, slot := 14, constantValue := 0 }, { name := "targets", type := .int, accessFlags := 2, slot := 15, constantValue := 0 }, { name := "curVal", type := (.array .int), accessFlags := 18, slot := 16, constantValue := 0 }, { name := "curTgt", type := (.array .byte), accessFlags := 18, slot := 17, constantValue := 0 }, { name := "curCount", type := .int, accessFlags := 2, slot := 18, constantValue := 0 }, { name := "curDefault", type := .int, accessFlags := 2, slot := 19, constantValue := 0 }, { name := "dirty", type := .boolean, accessFlags := 2, slot := 20, constantValue := 0 }, { name := "snapVal", type := (.array .int), accessFlags := 18, slot := 21, constantValue := 0 }, { name := "snapTgt", type := (.array .byte), accessFlags := 18, slot := 22, constantValue := 0 }, { name := "snapCount", type := .int, accessFlags := 2, slot := 23, constantValue := 0 }, { name := "snapDefault", type := .int, accessFlags := 2, slot := 24, constantValue := 0 }, { name := "hasSnap", type := .boolean, accessFlags := 2, slot := 25, constantValue := 0 }, { name := "bestCost", type := (.array .int), accessFlags := 18, slot := 26, constantValue := 0 }, { name := "bestCut", type := (.array .int), accessFlags := 18, slot := 27, constantValue := 0 }, { name := "clStart", type := (.array .int), accessFlags := 18, slot := 28, constantValue := 0 }, { name := "clEnd", type := (.array .int), accessFlags := 18, slot := 29, constantValue := 0 }, { name := "clCount", type := .int, accessFlags := 2, slot := 30, constantValue := 0 }, { name := "opc", type := (.array .byte), accessFlags := 18, slot := 31, constantValue := 0 }, { name := "argA", type := (.array .int), accessFlags := 18, slot := 32, constantValue := 0 }, { name := "argB", type := (.array .int), accessFlags := 18, slot := 33, constantValue := 0 }, { name := "argC", type := (.array .int), accessFlags := 18, slot := 34, constantValue := 0 }, { name := "argD", type := (.array .int), accessFlags := 18, slot := 35, constantValue := 0 }, { name := "codeLen", type := .int, accessFlags := 2, slot := 36, constantValue := 0 }, { name := "rootPc", type := .int, accessFlags := 2, slot := 37, constantValue := 0 }, { name := "tablePool", type := (.array .byte), accessFlags := 18, slot := 38, constantValue := 0 }, { name := "tableUsed", type := .int, accessFlags := 2, slot := 39, constantValue := 0 }, { name := "maskPool", type := (.array .long), accessFlags := 18, slot := 40, constantValue := 0 }, { name := "maskTarget", type := (.array .byte), accessFlags := 18, slot := 41, constantValue := 0 }, { name := "maskUsed", type := .int, accessFlags := 2, slot := 42, constantValue := 0 }, { name := "stLo", type := (.array .int), accessFlags := 18, slot := 43, constantValue := 0 }, { name := "stHi", type := (.array .int), accessFlags := 18, slot := 44, constantValue := 0 }, { name := "stParent", type := (.array .int), accessFlags := 18, slot := 45, constantValue := 0 }, { name := "stSlot", type := (.array .int), accessFlags := 18, slot := 46, constantValue := 0 }, { name := "sp", type := .int, accessFlags := 2, slot := 47, constantValue := 0 }]
  methods := #[k2m0, k2m1, k2m2, k2m3, k2m4, k2m5, k2m6, k2m7, k2m8, k2m9, k2m10, k2m11, k2m12, k2m13, k2m14, k2m15, k2m16, k2m17, k2m18, k2m19, k2m20, k2m21, k2m22, k2m23, k2m24, k2m25, k2m26, k2m27, k2m28, k2m29, k2m30, k2m31, k2m32, k2m33, k2m34, k2m35, k2m36, k2m37, k2m38]
  instanceTypes := #[.int, .int, .int, .int, .int, .int, .int, .int, .int, .int, .int, .int, .long, .int, .int, .int, (.array .int), (.array .byte), .int, .int, .boolean, (.array .int), (.array .byte), .int, .int, .boolean, (.array .int), (.array .int), (.array .int), (.array .int), .int, (.array .byte), (.array .int), (.array .int), (.array .int), (.array .int), .int, .int, (.array .byte), .int, (.array .long), (.array .byte), .int, (.array .int), (.array .int), (.array .int), (.array .int), .int]
  staticTypes := #[.int, .int, .int, .int, .int, .int, .int, .long]
  resolved := Array.replicate 303 none
  statics := none }

def pool3 : Array CpInfo := pool [(1, u "java/lang/Cloneable"), (0, .class_ 1), (0, u "java/lang/Object"), (0, .class_ 3)] 3

/-- java/lang/Cloneable -/
def k3 : Class := { plain "java/lang/Cloneable" (some 0) with
  accessFlags := 1537
  interfaces := #[]
  cf := some (fileOf pool3 2 #[] #[] 1537 4 #[] #[])
  fields := #[]
  methods := #[]
  instanceTypes := #[]
  staticTypes := #[]
  resolved := Array.replicate 8 none
  statics := none }

def pool4 : Array CpInfo := pool [(1, u "java/io/Serializable"), (0, .class_ 1), (0, u "java/lang/Object"), (0, .class_ 3)] 3

/-- java/io/Serializable -/
def k4 : Class := { plain "java/io/Serializable" (some 0) with
  accessFlags := 1537
  interfaces := #[]
  cf := some (fileOf pool4 2 #[] #[] 1537 4 #[] #[])
  fields := #[]
  methods := #[]
  instanceTypes := #[]
  staticTypes := #[]
  resolved := Array.replicate 8 none
  statics := none }

/-- the primitive byte -/
def k5 : Class := { plain "byte" none with kind := .primitive 'B', accessFlags := 0x411 }
/-- [B -/
def k6 : Class := { plain "[B" (some 0) with kind := .array 5 .byte, interfaces := #[3, 4], accessFlags := 1041 }

/-- the primitive int -/
def k7 : Class := { plain "int" none with kind := .primitive 'I', accessFlags := 0x411 }
/-- [I -/
def k8 : Class := { plain "[I" (some 0) with kind := .array 7 .int, interfaces := #[3, 4], accessFlags := 1041 }

/-- the primitive long -/
def k9 : Class := { plain "long" none with kind := .primitive 'J', accessFlags := 0x411 }
/-- [J -/
def k10 : Class := { plain "[J" (some 0) with kind := .array 9 .long, interfaces := #[3, 4], accessFlags := 1041 }

def heap : Heap := #[{ cls := 8, slots := #[.int 1, .int 2, .int 3], vm := .none }]
def classes : Array Class := #[k0, k1, k2, k3, k4, k5, k6, k7, k8, k9, k10]
def interned : List (Array UInt16 × Addr) := []
def slotsUsed : Nat := 3
def theMethod : MethodId := ⟨1, 1⟩
def args0 : Array Value := #[.ref 0]
def aboutOver (below : List Frame) : State where
  vm := { classes := classes, interned := interned.toArray }
  heap := heap
  slotsUsed := slotsUsed
  threads := #[{ frames := .invoking theMethod args0 :: below }]
def below0 : List Frame := [.native { method := ⟨0, 0⟩, args := #[] }]
def about1 : State := aboutOver below0
def p0 : Program := .bare "" "" ""
def e0 : Env := launch0.env 0 0 0
theorem w_frames : about1.frames = Frame.invoking theMethod args0 :: below0 := rfl
set_option maxRecDepth 65536 in
theorem w_args : argsFit about1.vm theMethod args0 = true := by decide +kernel
set_option maxRecDepth 65536 in
theorem w_heap : heapFits about1 = true := by decide +kernel
set_option maxRecDepth 65536 in
theorem w_runnable : about1.curStatus? = some .runnable := by decide +kernel
set_option maxRecDepth 65536 in
theorem w_alone : about1.alone = true := by decide +kernel
set_option maxRecDepth 65536 in
theorem w_named : about1.methodNamed? x = some theMethod := by decide +kernel
set_option maxRecDepth 65536 in
theorem w_hears : about1.hears theMethod below0 = true := by decide +kernel
set_option maxRecDepth 65536 in
theorem w_ripe : about1.ripe theMethod args0 below0 = true := by decide +kernel
theorem w_running : about1.status = .running := rfl
set_option maxRecDepth 65536 in
theorem w_room : about1.hasRoom e0.platform room_1 = true :=
  launch0.hasRoom_least _ room_1 (by decide +kernel) (by decide +kernel) (by decide +kernel) (by decide +kernel) (by decide +kernel) (by decide +kernel)
theorem allAtoms_all (ts : List Jvm.Cond) (a : Array Jvm.Value) (st : Jvm.State) : (allAtoms ts).before a st = ts.all (fun c => c.before a st) := by
  induction ts with
  | nil => rfl
  | cons c t ih =>
    show (Jvm.Cond.and c (allAtoms t)).before a st = _
    rw [Jvm.Cond.before_and, ih, List.all_cons]
def words1 : List Jvm.Cond := Jvm.Cond.code x code maxLocals ret :: tables_1
/-- a 'code' word, met by the world's own term for the bytes: nothing is compared byte by byte -/
theorem code_word {y : MethodName} {bytes : ByteArray} {mx : Nat} {rt : Option FieldType} {a : Array Value} {s : State} {m : MethodId} {meth : Method} {c : Code} (h1 : s.methodNamed? y = some m) (h2 : s.vm.method? m = some meth) (h3 : meth.code = some c) (h4 : c.code = bytes)
    (h5 : (c.maxLocals == mx && c.exceptionTable.isEmpty && decide (c.maxStack ≤ mostOperands) && decide (meth.sig.returnType = rt) && !meth.locks && decide (parseMethodDescriptor y.desc = some meth.sig)) = true) : (Jvm.Cond.code y bytes mx rt).before a s = true := by
  simp only [Bool.and_eq_true, beq_iff_eq, Bool.not_eq_true', decide_eq_true_eq] at h5
  obtain ⟨⟨⟨⟨⟨g1, g2⟩, g3⟩, g4⟩, g5⟩, g6⟩ := h5
  simp [Cond.before, Cond.holds, Cond.value, h1, h2, h3, h4, g1, g2, g3, g4, g5, g6]
def isCode : Jvm.Cond → Bool
  | .code _ _ _ _ => true
  | _ => false
theorem all_split {L : List Jvm.Cond} {P : Jvm.Cond → Bool} (h1 : L.all (fun c => isCode c || P c) = true) (h2 : ∀ c ∈ L.filter isCode, P c = true) : L.all P = true := by
  refine List.all_eq_true.mpr fun c hc => ?_
  have h := List.all_eq_true.mp h1 c hc
  rcases Bool.eq_false_or_eq_true (isCode c) with hi | hi
  · exact h2 c (List.mem_filter.mpr ⟨hc, hi⟩)
  · simpa [hi] using h
set_option maxRecDepth 65536 in
theorem w_c0 : (Jvm.Cond.code x code maxLocals ret).before args0 about1 = true := code_word (m := ⟨1, 1⟩) (meth := k1m1) (c := k1c1) (by decide +kernel) rfl rfl rfl (by decide +kernel)
set_option maxRecDepth 65536 in
theorem w_c1 : (Jvm.Cond.code ({ cls := "SwitchLowererX", name := "<init>", desc := "(II)V" } : Jvm.MethodName) prog_1_method_1_code (3 : Nat) (Option.none : Option Jvm.ClassFile.FieldType)).before args0 about1 = true := code_word (m := ⟨2, 0⟩) (meth := k2m0) (c := k2c0) (by decide +kernel) rfl rfl rfl (by decide +kernel)
set_option maxRecDepth 65536 in
theorem w_c2 : (Jvm.Cond.code ({ cls := "java/lang/Object", name := "<init>", desc := "()V" } : Jvm.MethodName) object_method_1_code (1 : Nat) (Option.none : Option Jvm.ClassFile.FieldType)).before args0 about1 = true := code_word (m := ⟨0, 0⟩) (meth := k0m0) (c := k0c0) (by decide +kernel) rfl rfl rfl (by decide +kernel)
set_option maxRecDepth 65536 in
theorem w_c3 : (Jvm.Cond.code ({ cls := "SwitchLowererX", name := "clamp", desc := "(III)I" } : Jvm.MethodName) prog_1_method_18_code (4 : Nat) (Option.some Jvm.ClassFile.FieldType.int)).before args0 about1 = true := code_word (m := ⟨2, 15⟩) (meth := k2m15) (c := k2c15) (by decide +kernel) rfl rfl rfl (by decide +kernel)
set_option maxRecDepth 65536 in
theorem w_c4 : (Jvm.Cond.code ({ cls := "SwitchLowererX", name := "reset", desc := "()V" } : Jvm.MethodName) prog_1_method_4_code (1 : Nat) (Option.none : Option Jvm.ClassFile.FieldType)).before args0 about1 = true := code_word (m := ⟨2, 1⟩) (meth := k2m1) (c := k2c1) (by decide +kernel) rfl rfl rfl (by decide +kernel)
set_option maxRecDepth 65536 in
theorem w_c5 : (Jvm.Cond.code ({ cls := "SwitchLowererX", name := "lower", desc := "()I" } : Jvm.MethodName) prog_1_method_13_code (1 : Nat) (Option.some Jvm.ClassFile.FieldType.int)).before args0 about1 = true := code_word (m := ⟨2, 10⟩) (meth := k2m10) (c := k2c10) (by decide +kernel) rfl rfl rfl (by decide +kernel)
set_option maxRecDepth 65536 in
theorem w_c6 : (Jvm.Cond.code ({ cls := "SwitchLowererX", name := "takeSnapshot", desc := "()V" } : Jvm.MethodName) prog_1_method_22_code (2 : Nat) (Option.none : Option Jvm.ClassFile.FieldType)).before args0 about1 = true := code_word (m := ⟨2, 19⟩) (meth := k2m19) (c := k2c19) (by decide +kernel) rfl rfl rfl (by decide +kernel)
set_option maxRecDepth 65536 in
theorem w_c7 : (Jvm.Cond.code ({ cls := "SwitchLowererX", name := "planClusters", desc := "()V" } : Jvm.MethodName) prog_1_method_23_code (10 : Nat) (Option.none : Option Jvm.ClassFile.FieldType)).before args0 about1 = true := code_word (m := ⟨2, 20⟩) (meth := k2m20) (c := k2c20) (by decide +kernel) rfl rfl rfl (by decide +kernel)
set_option maxRecDepth 65536 in
theorem w_c8 : (Jvm.Cond.code ({ cls := "SwitchLowererX", name := "collectClusters", desc := "()V" } : Jvm.MethodName) prog_1_method_25_code (6 : Nat) (Option.none : Option Jvm.ClassFile.FieldType)).before args0 about1 = true := code_word (m := ⟨2, 22⟩) (meth := k2m22) (c := k2c22) (by decide +kernel) rfl rfl rfl (by decide +kernel)
set_option maxRecDepth 65536 in
theorem w_c9 : (Jvm.Cond.code ({ cls := "SwitchLowererX", name := "buildTree", desc := "()V" } : Jvm.MethodName) prog_1_method_26_code (9 : Nat) (Option.none : Option Jvm.ClassFile.FieldType)).before args0 about1 = true := code_word (m := ⟨2, 23⟩) (meth := k2m23) (c := k2c23) (by decide +kernel) rfl rfl rfl (by decide +kernel)
set_option maxRecDepth 65536 in
theorem w_c10 : (Jvm.Cond.code ({ cls := "SwitchLowererX", name := "emit", desc := "(IIIII)I" } : Jvm.MethodName) prog_1_method_29_code (7 : Nat) (Option.some Jvm.ClassFile.FieldType.int)).before args0 about1 = true := code_word (m := ⟨2, 26⟩) (meth := k2m26) (c := k2c26) (by decide +kernel) rfl rfl rfl (by decide +kernel)
set_option maxRecDepth 65536 in
theorem w_c11 : (Jvm.Cond.code ({ cls := "SwitchLowererXL5", name := "same", desc := "(LSwitchLowererX;LSwitchLowererX;II)Z" } : Jvm.MethodName) method_3_code (5 : Nat) (Option.some Jvm.ClassFile.FieldType.boolean)).before args0 about1 = true := code_word (m := ⟨1, 2⟩) (meth := k1m2) (c := k1c2) (by decide +kernel) rfl rfl rfl (by decide +kernel)
set_option maxRecDepth 65536 in
theorem w_c12 : (Jvm.Cond.code ({ cls := "SwitchLowererX", name := "caseCount", desc := "()I" } : Jvm.MethodName) prog_1_method_8_code (1 : Nat) (Option.some Jvm.ClassFile.FieldType.int)).before args0 about1 = true := code_word (m := ⟨2, 5⟩) (meth := k2m5) (c := k2c5) (by decide +kernel) rfl rfl rfl (by decide +kernel)
set_option maxRecDepth 65536 in
theorem w_c13 : (Jvm.Cond.code ({ cls := "SwitchLowererX", name := "caseValueAt", desc := "(I)I" } : Jvm.MethodName) prog_1_method_9_code (2 : Nat) (Option.some Jvm.ClassFile.FieldType.int)).before args0 about1 = true := code_word (m := ⟨2, 6⟩) (meth := k2m6) (c := k2c6) (by decide +kernel) rfl rfl rfl (by decide +kernel)
set_option maxRecDepth 65536 in
theorem w_c14 : (Jvm.Cond.code ({ cls := "SwitchLowererX", name := "caseTargetAt", desc := "(I)I" } : Jvm.MethodName) prog_1_method_10_code (2 : Nat) (Option.some Jvm.ClassFile.FieldType.int)).before args0 about1 = true := code_word (m := ⟨2, 7⟩) (meth := k2m7) (c := k2c7) (by decide +kernel) rfl rfl rfl (by decide +kernel)
set_option maxRecDepth 65536 in
theorem w_c15 : (Jvm.Cond.code ({ cls := "SwitchLowererX", name := "defaultTarget", desc := "()I" } : Jvm.MethodName) prog_1_method_11_code (1 : Nat) (Option.some Jvm.ClassFile.FieldType.int)).before args0 about1 = true := code_word (m := ⟨2, 8⟩) (meth := k2m8) (c := k2c8) (by decide +kernel) rfl rfl rfl (by decide +kernel)
set_option maxRecDepth 65536 in
theorem w_c16 : (Jvm.Cond.code ({ cls := "SwitchLowererX", name := "lookup", desc := "(I)I" } : Jvm.MethodName) prog_1_method_12_code (3 : Nat) (Option.some Jvm.ClassFile.FieldType.int)).before args0 about1 = true := code_word (m := ⟨2, 9⟩) (meth := k2m9) (c := k2c9) (by decide +kernel) rfl rfl rfl (by decide +kernel)
set_option maxRecDepth 65536 in
theorem w_c17 : (Jvm.Cond.code ({ cls := "SwitchLowererX", name := "curIndexOf", desc := "(I)I" } : Jvm.MethodName) prog_1_method_20_code (3 : Nat) (Option.some Jvm.ClassFile.FieldType.int)).before args0 about1 = true := code_word (m := ⟨2, 17⟩) (meth := k2m17) (c := k2c17) (by decide +kernel) rfl rfl rfl (by decide +kernel)
set_option maxRecDepth 65536 in
theorem w_c18 : (Jvm.Cond.code ({ cls := "SwitchLowererX", name := "curLowerBound", desc := "(I)I" } : Jvm.MethodName) prog_1_method_19_code (6 : Nat) (Option.some Jvm.ClassFile.FieldType.int)).before args0 about1 = true := code_word (m := ⟨2, 16⟩) (meth := k2m16) (c := k2c16) (by decide +kernel) rfl rfl rfl (by decide +kernel)
set_option maxRecDepth 65536 in
theorem w_c19 : (Jvm.Cond.code ({ cls := "SwitchLowererX", name := "route", desc := "(I)I" } : Jvm.MethodName) prog_1_method_15_code (2 : Nat) (Option.some Jvm.ClassFile.FieldType.int)).before args0 about1 = true := code_word (m := ⟨2, 12⟩) (meth := k2m12) (c := k2c12) (by decide +kernel) rfl rfl rfl (by decide +kernel)
set_option maxRecDepth 65536 in
theorem w_c20 : (Jvm.Cond.code ({ cls := "SwitchLowererX", name := "run", desc := "(I)I" } : Jvm.MethodName) prog_1_method_36_code (6 : Nat) (Option.some Jvm.ClassFile.FieldType.int)).before args0 about1 = true := code_word (m := ⟨2, 32⟩) (meth := k2m32) (c := k2c32) (by decide +kernel) rfl rfl rfl (by decide +kernel)
set_option maxRecDepth 65536 in
theorem w_c21 : (Jvm.Cond.code ({ cls := "SwitchLowererX", name := "nextRouted", desc := "(II)J" } : Jvm.MethodName) prog_1_method_16_code (3 : Nat) (Option.some Jvm.ClassFile.FieldType.long)).before args0 about1 = true := code_word (m := ⟨2, 13⟩) (meth := k2m13) (c := k2c13) (by decide +kernel) rfl rfl rfl (by decide +kernel)
set_option maxRecDepth 65536 in
theorem w_c22 : (Jvm.Cond.code ({ cls := "SwitchLowererX", name := "nextCaseRouted", desc := "(II)J" } : Jvm.MethodName) prog_1_method_41_code (6 : Nat) (Option.some Jvm.ClassFile.FieldType.long)).before args0 about1 = true := code_word (m := ⟨2, 36⟩) (meth := k2m36) (c := k2c36) (by decide +kernel) rfl rfl rfl (by decide +kernel)
set_option maxRecDepth 65536 in
theorem w_c23 : (Jvm.Cond.code ({ cls := "SwitchLowererX", name := "snapLowerBound", desc := "(I)I" } : Jvm.MethodName) prog_1_method_21_code (6 : Nat) (Option.some Jvm.ClassFile.FieldType.int)).before args0 about1 = true := code_word (m := ⟨2, 18⟩) (meth := k2m18) (c := k2c18) (by decide +kernel) rfl rfl rfl (by decide +kernel)
set_option maxRecDepth 65536 in
theorem w_c24 : (Jvm.Cond.code ({ cls := "SwitchLowererX", name := "routedCount", desc := "(III)J" } : Jvm.MethodName) prog_1_method_17_code (9 : Nat) (Option.some Jvm.ClassFile.FieldType.long)).before args0 about1 = true := code_word (m := ⟨2, 14⟩) (meth := k2m14) (c := k2c14) (by decide +kernel) rfl rfl rfl (by decide +kernel)
set_option maxRecDepth 65536 in
theorem w_c25 : (Jvm.Cond.code ({ cls := "SwitchLowererX", name := "isCurrent", desc := "()Z" } : Jvm.MethodName) prog_1_method_14_code (1 : Nat) (Option.some Jvm.ClassFile.FieldType.boolean)).before args0 about1 = true := code_word (m := ⟨2, 11⟩) (meth := k2m11) (c := k2c11) (by decide +kernel) rfl rfl rfl (by decide +kernel)
set_option maxRecDepth 65536 in
theorem w_c26 : (Jvm.Cond.code ({ cls := "SwitchLowererX", name := "addCase", desc := "(II)I" } : Jvm.MethodName) prog_1_method_5_code (5 : Nat) (Option.some Jvm.ClassFile.FieldType.int)).before args0 about1 = true := code_word (m := ⟨2, 2⟩) (meth := k2m2) (c := k2c2) (by decide +kernel) rfl rfl rfl (by decide +kernel)
set_option maxRecDepth 65536 in
theorem w_c27 : (Jvm.Cond.code ({ cls := "SwitchLowererX", name := "nextDefaultRouted", desc := "(I)J" } : Jvm.MethodName) prog_1_method_42_code (4 : Nat) (Option.some Jvm.ClassFile.FieldType.long)).before args0 about1 = true := code_word (m := ⟨2, 37⟩) (meth := k2m37) (c := k2c37) (by decide +kernel) rfl rfl rfl (by decide +kernel)
set_option maxRecDepth 65536 in
theorem w_c28 : (Jvm.Cond.code ({ cls := "SwitchLowererX", name := "setDefault", desc := "(I)I" } : Jvm.MethodName) prog_1_method_7_code (2 : Nat) (Option.some Jvm.ClassFile.FieldType.int)).before args0 about1 = true := code_word (m := ⟨2, 4⟩) (meth := k2m4) (c := k2c4) (by decide +kernel) rfl rfl rfl (by decide +kernel)
set_option maxRecDepth 65536 in
theorem w_c29 : (Jvm.Cond.code ({ cls := "SwitchLowererX", name := "countCaseHits", desc := "(IIIZ)J" } : Jvm.MethodName) prog_1_method_43_code (11 : Nat) (Option.some Jvm.ClassFile.FieldType.long)).before args0 about1 = true := code_word (m := ⟨2, 38⟩) (meth := k2m38) (c := k2c38) (by decide +kernel) rfl rfl rfl (by decide +kernel)
set_option maxRecDepth 65536 in
theorem w_c30 : (Jvm.Cond.code ({ cls := "SwitchLowererX", name := "clusterFits", desc := "(JII)Z" } : Jvm.MethodName) prog_1_method_24_code (7 : Nat) (Option.some Jvm.ClassFile.FieldType.boolean)).before args0 about1 = true := code_word (m := ⟨2, 21⟩) (meth := k2m21) (c := k2c21) (by decide +kernel) rfl rfl rfl (by decide +kernel)
set_option maxRecDepth 65536 in
theorem w_c31 : (Jvm.Cond.code ({ cls := "SwitchLowererX", name := "push", desc := "(IIII)V" } : Jvm.MethodName) prog_1_method_27_code (5 : Nat) (Option.none : Option Jvm.ClassFile.FieldType)).before args0 about1 = true := code_word (m := ⟨2, 24⟩) (meth := k2m24) (c := k2c24) (by decide +kernel) rfl rfl rfl (by decide +kernel)
set_option maxRecDepth 65536 in
theorem w_c32 : (Jvm.Cond.code ({ cls := "SwitchLowererX", name := "emitLeaf", desc := "(I)I" } : Jvm.MethodName) prog_1_method_31_code (7 : Nat) (Option.some Jvm.ClassFile.FieldType.int)).before args0 about1 = true := code_word (m := ⟨2, 28⟩) (meth := k2m28) (c := k2c28) (by decide +kernel) rfl rfl rfl (by decide +kernel)
set_option maxRecDepth 65536 in
theorem w_c33 : (Jvm.Cond.code ({ cls := "SwitchLowererX", name := "distinctTargets", desc := "(II)I" } : Jvm.MethodName) prog_1_method_32_code (7 : Nat) (Option.some Jvm.ClassFile.FieldType.int)).before args0 about1 = true := code_word (m := ⟨2, 29⟩) (meth := k2m29) (c := k2c29) (by decide +kernel) rfl rfl rfl (by decide +kernel)
set_option maxRecDepth 65536 in
theorem w_c34 : (Jvm.Cond.code ({ cls := "SwitchLowererX", name := "emitBits", desc := "(III)I" } : Jvm.MethodName) prog_1_method_33_code (11 : Nat) (Option.some Jvm.ClassFile.FieldType.int)).before args0 about1 = true := code_word (m := ⟨2, 30⟩) (meth := k2m30) (c := k2c30) (by decide +kernel) rfl rfl rfl (by decide +kernel)
set_option maxRecDepth 65536 in
theorem w_c35 : (Jvm.Cond.code ({ cls := "SwitchLowererX", name := "findMaskSlot", desc := "(III)I" } : Jvm.MethodName) prog_1_method_34_code (6 : Nat) (Option.some Jvm.ClassFile.FieldType.int)).before args0 about1 = true := code_word (m := ⟨2, 31⟩) (meth := k2m31) (c := k2c31) (by decide +kernel) rfl rfl rfl (by decide +kernel)
set_option maxRecDepth 65536 in
theorem w_c36 : (Jvm.Cond.code ({ cls := "SwitchLowererX", name := "patch", desc := "(III)V" } : Jvm.MethodName) prog_1_method_28_code (4 : Nat) (Option.none : Option Jvm.ClassFile.FieldType)).before args0 about1 = true := code_word (m := ⟨2, 25⟩) (meth := k2m25) (c := k2c25) (by decide +kernel) rfl rfl rfl (by decide +kernel)
set_option maxRecDepth 65536 in
theorem w_c37 : (Jvm.Cond.code ({ cls := "SwitchLowererX", name := "runLeaf", desc := "(II)I" } : Jvm.MethodName) prog_1_method_37_code (4 : Nat) (Option.some Jvm.ClassFile.FieldType.int)).before args0 about1 = true := code_word (m := ⟨2, 33⟩) (meth := k2m33) (c := k2c33) (by decide +kernel) rfl rfl rfl (by decide +kernel)
set_option maxRecDepth 65536 in
theorem w_c38 : (Jvm.Cond.code ({ cls := "SwitchLowererX", name := "runBits", desc := "(II)I" } : Jvm.MethodName) prog_1_method_40_code (10 : Nat) (Option.some Jvm.ClassFile.FieldType.int)).before args0 about1 = true := code_word (m := ⟨2, 35⟩) (meth := k2m35) (c := k2c35) (by decide +kernel) rfl rfl rfl (by decide +kernel)
set_option maxRecDepth 65536 in
theorem w_c39 : (Jvm.Cond.code ({ cls := "SwitchLowererX", name := "unsignedOffset", desc := "(II)J" } : Jvm.MethodName) prog_1_method_38_code (3 : Nat) (Option.some Jvm.ClassFile.FieldType.long)).before args0 about1 = true := code_word (m := ⟨2, 34⟩) (meth := k2m34) (c := k2c34) (by decide +kernel) rfl rfl rfl (by decide +kernel)
set_option maxRecDepth 65536 in
theorem w_c40 : (Jvm.Cond.code ({ cls := "SwitchLowererX", name := "removeCase", desc := "(I)I" } : Jvm.MethodName) prog_1_method_6_code (4 : Nat) (Option.some Jvm.ClassFile.FieldType.int)).before args0 about1 = true := code_word (m := ⟨2, 3⟩) (meth := k2m3) (c := k2c3) (by decide +kernel) rfl rfl rfl (by decide +kernel)
set_option maxRecDepth 65536 in
theorem w_c41 : (Jvm.Cond.code ({ cls := "SwitchLowererX", name := "clusterLow", desc := "(I)I" } : Jvm.MethodName) prog_1_method_30_code (3 : Nat) (Option.some Jvm.ClassFile.FieldType.int)).before args0 about1 = true := code_word (m := ⟨2, 27⟩) (meth := k2m27) (c := k2c27) (by decide +kernel) rfl rfl rfl (by decide +kernel)
def codes1 : List Jvm.Cond := [Jvm.Cond.code x code maxLocals ret, Jvm.Cond.code ({ cls := "SwitchLowererX", name := "<init>", desc := "(II)V" } : Jvm.MethodName) prog_1_method_1_code (3 : Nat) (Option.none : Option Jvm.ClassFile.FieldType), Jvm.Cond.code ({ cls := "java/lang/Object", name := "<init>", desc := "()V" } : Jvm.MethodName) object_method_1_code (1 : Nat) (Option.none : Option Jvm.ClassFile.FieldType), Jvm.Cond.code ({ cls := "SwitchLowererX", name := "clamp", desc := "(III)I" } : Jvm.MethodName) prog_1_method_18_code (4 : Nat) (Option.some Jvm.ClassFile.FieldType.int), Jvm.Cond.code ({ cls := "SwitchLowererX", name := "reset", desc := "()V" } : Jvm.MethodName) prog_1_method_4_code (1 : Nat) (Option.none : Option Jvm.ClassFile.FieldType), Jvm.Cond.code ({ cls := "SwitchLowererX", name := "lower", desc := "()I" } : Jvm.MethodName) prog_1_method_13_code (1 : Nat) (Option.some Jvm.ClassFile.FieldType.int), Jvm.Cond.code ({ cls := "SwitchLowererX", name := "takeSnapshot", desc := "()V" } : Jvm.MethodName) prog_1_method_22_code (2 : Nat) (Option.none : Option Jvm.ClassFile.FieldType), Jvm.Cond.code ({ cls := "SwitchLowererX", name := "planClusters", desc := "()V" } : Jvm.MethodName) prog_1_method_23_code (10 : Nat) (Option.none : Option Jvm.ClassFile.FieldType), Jvm.Cond.code ({ cls := "SwitchLowererX", name := "collectClusters", desc := "()V" } : Jvm.MethodName) prog_1_method_25_code (6 : Nat) (Option.none : Option Jvm.ClassFile.FieldType), Jvm.Cond.code ({ cls := "SwitchLowererX", name := "buildTree", desc := "()V" } : Jvm.MethodName) prog_1_method_26_code (9 : Nat) (Option.none : Option Jvm.ClassFile.FieldType), Jvm.Cond.code ({ cls := "SwitchLowererX", name := "emit", desc := "(IIIII)I" } : Jvm.MethodName) prog_1_method_29_code (7 : Nat) (Option.some Jvm.ClassFile.FieldType.int), Jvm.Cond.code ({ cls := "SwitchLowererXL5", name := "same", desc := "(LSwitchLowererX;LSwitchLowererX;II)Z" } : Jvm.MethodName) method_3_code (5 : Nat) (Option.some Jvm.ClassFile.FieldType.boolean), Jvm.Cond.code ({ cls := "SwitchLowererX", name := "caseCount", desc := "()I" } : Jvm.MethodName) prog_1_method_8_code (1 : Nat) (Option.some Jvm.ClassFile.FieldType.int), Jvm.Cond.code ({ cls := "SwitchLowererX", name := "caseValueAt", desc := "(I)I" } : Jvm.MethodName) prog_1_method_9_code (2 : Nat) (Option.some Jvm.ClassFile.FieldType.int), Jvm.Cond.code ({ cls := "SwitchLowererX", name := "caseTargetAt", desc := "(I)I" } : Jvm.MethodName) prog_1_method_10_code (2 : Nat) (Option.some Jvm.ClassFile.FieldType.int), Jvm.Cond.code ({ cls := "SwitchLowererX", name := "defaultTarget", desc := "()I" } : Jvm.MethodName) prog_1_method_11_code (1 : Nat) (Option.some Jvm.ClassFile.FieldType.int), Jvm.Cond.code ({ cls := "SwitchLowererX", name := "lookup", desc := "(I)I" } : Jvm.MethodName) prog_1_method_12_code (3 : Nat) (Option.some Jvm.ClassFile.FieldType.int), Jvm.Cond.code ({ cls := "SwitchLowererX", name := "curIndexOf", desc := "(I)I" } : Jvm.MethodName) prog_1_method_20_code (3 : Nat) (Option.some Jvm.ClassFile.FieldType.int), Jvm.Cond.code ({ cls := "SwitchLowererX", name := "curLowerBound", desc := "(I)I" } : Jvm.MethodName) prog_1_method_19_code (6 : Nat) (Option.some Jvm.ClassFile.FieldType.int), Jvm.Cond.code ({ cls := "SwitchLowererX", name := "route", desc := "(I)I" } : Jvm.MethodName) prog_1_method_15_code (2 : Nat) (Option.some Jvm.ClassFile.FieldType.int), Jvm.Cond.code ({ cls := "SwitchLowererX", name := "run", desc := "(I)I" } : Jvm.MethodName) prog_1_method_36_code (6 : Nat) (Option.some Jvm.ClassFile.FieldType.int), Jvm.Cond.code ({ cls := "SwitchLowererX", name := "nextRouted", desc := "(II)J" } : Jvm.MethodName) prog_1_method_16_code (3 : Nat) (Option.some Jvm.ClassFile.FieldType.long), Jvm.Cond.code ({ cls := "SwitchLowererX", name := "nextCaseRouted", desc := "(II)J" } : Jvm.MethodName) prog_1_method_41_code (6 : Nat) (Option.some Jvm.ClassFile.FieldType.long), Jvm.Cond.code ({ cls := "SwitchLowererX", name := "snapLowerBound", desc := "(I)I" } : Jvm.MethodName) prog_1_method_21_code (6 : Nat) (Option.some Jvm.ClassFile.FieldType.int), Jvm.Cond.code ({ cls := "SwitchLowererX", name := "routedCount", desc := "(III)J" } : Jvm.MethodName) prog_1_method_17_code (9 : Nat) (Option.some Jvm.ClassFile.FieldType.long), Jvm.Cond.code ({ cls := "SwitchLowererX", name := "isCurrent", desc := "()Z" } : Jvm.MethodName) prog_1_method_14_code (1 : Nat) (Option.some Jvm.ClassFile.FieldType.boolean), Jvm.Cond.code ({ cls := "SwitchLowererX", name := "addCase", desc := "(II)I" } : Jvm.MethodName) prog_1_method_5_code (5 : Nat) (Option.some Jvm.ClassFile.FieldType.int), Jvm.Cond.code ({ cls := "SwitchLowererX", name := "nextDefaultRouted", desc := "(I)J" } : Jvm.MethodName) prog_1_method_42_code (4 : Nat) (Option.some Jvm.ClassFile.FieldType.long), Jvm.Cond.code ({ cls := "SwitchLowererX", name := "setDefault", desc := "(I)I" } : Jvm.MethodName) prog_1_method_7_code (2 : Nat) (Option.some Jvm.ClassFile.FieldType.int), Jvm.Cond.code ({ cls := "SwitchLowererX", name := "countCaseHits", desc := "(IIIZ)J" } : Jvm.MethodName) prog_1_method_43_code (11 : Nat) (Option.some Jvm.ClassFile.FieldType.long), Jvm.Cond.code ({ cls := "SwitchLowererX", name := "clusterFits", desc := "(JII)Z" } : Jvm.MethodName) prog_1_method_24_code (7 : Nat) (Option.some Jvm.ClassFile.FieldType.boolean), Jvm.Cond.code ({ cls := "SwitchLowererX", name := "push", desc := "(IIII)V" } : Jvm.MethodName) prog_1_method_27_code (5 : Nat) (Option.none : Option Jvm.ClassFile.FieldType), Jvm.Cond.code ({ cls := "SwitchLowererX", name := "emitLeaf", desc := "(I)I" } : Jvm.MethodName) prog_1_method_31_code (7 : Nat) (Option.some Jvm.ClassFile.FieldType.int), Jvm.Cond.code ({ cls := "SwitchLowererX", name := "distinctTargets", desc := "(II)I" } : Jvm.MethodName) prog_1_method_32_code (7 : Nat) (Option.some Jvm.ClassFile.FieldType.int), Jvm.Cond.code ({ cls := "SwitchLowererX", name := "emitBits", desc := "(III)I" } : Jvm.MethodName) prog_1_method_33_code (11 : Nat) (Option.some Jvm.ClassFile.FieldType.int), Jvm.Cond.code ({ cls := "SwitchLowererX", name := "findMaskSlot", desc := "(III)I" } : Jvm.MethodName) prog_1_method_34_code (6 : Nat) (Option.some Jvm.ClassFile.FieldType.int), Jvm.Cond.code ({ cls := "SwitchLowererX", name := "patch", desc := "(III)V" } : Jvm.MethodName) prog_1_method_28_code (4 : Nat) (Option.none : Option Jvm.ClassFile.FieldType), Jvm.Cond.code ({ cls := "SwitchLowererX", name := "runLeaf", desc := "(II)I" } : Jvm.MethodName) prog_1_method_37_code (4 : Nat) (Option.some Jvm.ClassFile.FieldType.int), Jvm.Cond.code ({ cls := "SwitchLowererX", name := "runBits", desc := "(II)I" } : Jvm.MethodName) prog_1_method_40_code (10 : Nat) (Option.some Jvm.ClassFile.FieldType.int), Jvm.Cond.code ({ cls := "SwitchLowererX", name := "unsignedOffset", desc := "(II)J" } : Jvm.MethodName) prog_1_method_38_code (3 : Nat) (Option.some Jvm.ClassFile.FieldType.long), Jvm.Cond.code ({ cls := "SwitchLowererX", name := "removeCase", desc := "(I)I" } : Jvm.MethodName) prog_1_method_6_code (4 : Nat) (Option.some Jvm.ClassFile.FieldType.int), Jvm.Cond.code ({ cls := "SwitchLowererX", name := "clusterLow", desc := "(I)I" } : Jvm.MethodName) prog_1_method_30_code (3 : Nat) (Option.some Jvm.ClassFile.FieldType.int)]
set_option maxRecDepth 65536 in
theorem codes_eq : words1.filter isCode = codes1 := rfl
theorem w_codes : ∀ c ∈ words1.filter isCode, c.before args0 about1 = true := by
  rw [codes_eq]
  intro c hc
  simp only [codes1, List.mem_cons, List.not_mem_nil, or_false] at hc
  rcases hc with rfl | rfl | rfl | rfl | rfl | rfl | rfl | rfl | rfl | rfl | rfl | rfl | rfl | rfl | rfl | rfl | rfl | rfl | rfl | rfl | rfl | rfl | rfl | rfl | rfl | rfl | rfl | rfl | rfl | rfl | rfl | rfl | rfl | rfl | rfl | rfl | rfl | rfl | rfl | rfl | rfl | rfl
  · exact w_c0
  · exact w_c1
  · exact w_c2
  · exact w_c3
  · exact w_c4
  · exact w_c5
  · exact w_c6
  · exact w_c7
  · exact w_c8
  · exact w_c9
  · exact w_c10
  · exact w_c11
  · exact w_c12
  · exact w_c13
  · exact w_c14
  · exact w_c15
  · exact w_c16
  · exact w_c17
  · exact w_c18
  · exact w_c19
  · exact w_c20
  · exact w_c21
  · exact w_c22
  · exact w_c23
  · exact w_c24
  · exact w_c25
  · exact w_c26
  · exact w_c27
  · exact w_c28
  · exact w_c29
  · exact w_c30
  · exact w_c31
  · exact w_c32
  · exact w_c33
  · exact w_c34
  · exact w_c35
  · exact w_c36
  · exact w_c37
  · exact w_c38
  · exact w_c39
  · exact w_c40
  · exact w_c41
set_option maxRecDepth 65536 in
theorem w_t1 : (words1.take 24).all (fun c => isCode c || c.before args0 about1) = true := by decide +kernel
set_option maxRecDepth 65536 in
theorem w_t2 : ((words1.drop 24).take 24).all (fun c => isCode c || c.before args0 about1) = true := by decide +kernel
set_option maxRecDepth 65536 in
theorem w_t3 : (((words1.drop 24).drop 24).take 24).all (fun c => isCode c || c.before args0 about1) = true := by decide +kernel
set_option maxRecDepth 65536 in
theorem w_t4 : ((((words1.drop 24).drop 24).drop 24).take 24).all (fun c => isCode c || c.before args0 about1) = true := by decide +kernel
set_option maxRecDepth 65536 in
theorem w_t5 : (((((words1.drop 24).drop 24).drop 24).drop 24).take 24).all (fun c => isCode c || c.before args0 about1) = true := by decide +kernel
set_option maxRecDepth 65536 in
theorem w_t6 : ((((((words1.drop 24).drop 24).drop 24).drop 24).drop 24).take 24).all (fun c => isCode c || c.before args0 about1) = true := by decide +kernel
set_option maxRecDepth 65536 in
theorem w_t7 : (((((((words1.drop 24).drop 24).drop 24).drop 24).drop 24).drop 24).take 24).all (fun c => isCode c || c.before args0 about1) = true := by decide +kernel
set_option maxRecDepth 65536 in
theorem w_t8 : ((((((((words1.drop 24).drop 24).drop 24).drop 24).drop 24).drop 24).drop 24).take 24).all (fun c => isCode c || c.before args0 about1) = true := by decide +kernel
set_option maxRecDepth 65536 in
theorem w_t9 : (((((((((words1.drop 24).drop 24).drop 24).drop 24).drop 24).drop 24).drop 24).drop 24).take 24).all (fun c => isCode c || c.before args0 about1) = true := by decide +kernel
set_option maxRecDepth 65536 in
theorem w_t10 : ((((((((((words1.drop 24).drop 24).drop 24).drop 24).drop 24).drop 24).drop 24).drop 24).drop 24).take 24).all (fun c => isCode c || c.before args0 about1) = true := by decide +kernel
set_option maxRecDepth 65536 in
theorem w_t11 : (((((((((((words1.drop 24).drop 24).drop 24).drop 24).drop 24).drop 24).drop 24).drop 24).drop 24).drop 24).take 24).all (fun c => isCode c || c.before args0 about1) = true := by decide +kernel
set_option maxRecDepth 65536 in
theorem w_t12 : (((((((((((words1.drop 24).drop 24).drop 24).drop 24).drop 24).drop 24).drop 24).drop 24).drop 24).drop 24).drop 24).all (fun c => isCode c || c.before args0 about1) = true := by decide +kernel
theorem w_tables : (allAtoms (Jvm.Cond.code x code maxLocals ret :: tables_1)).before args0 about1 = true := by
  rw [allAtoms_all]
  show words1.all (fun c => c.before args0 about1) = true
  refine all_split ?_ w_codes
  rw [← List.take_append_drop 24 words1, List.all_append, w_t1, ← List.take_append_drop 24 (words1.drop 24), List.all_append, w_t2, ← List.take_append_drop 24 ((words1.drop 24).drop 24), List.all_append, w_t3, ← List.take_append_drop 24 (((words1.drop 24).drop 24).drop 24), List.all_append, w_t4, ← List.take_append_drop 24 ((((words1.drop 24).drop 24).drop 24).drop 24), List.all_append, w_t5, ← List.take_append_drop 24 (((((words1.drop 24).drop 24).drop 24).drop 24).drop 24), List.all_append, w_t6, ← List.take_append_drop 24 ((((((words1.drop 24).drop 24).drop 24).drop 24).drop 24).drop 24), List.all_append, w_t7, ← List.take_append_drop 24 (((((((words1.drop 24).drop 24).drop 24).drop 24).drop 24).drop 24).drop 24), List.all_append, w_t8, ← List.take_append_drop 24 ((((((((words1.drop 24).drop 24).drop 24).drop 24).drop 24).drop 24).drop 24).drop 24), List.all_append, w_t9, ← List.take_append_drop 24 (((((((((words1.drop 24).drop 24).drop 24).drop 24).drop 24).drop 24).drop 24).drop 24).drop 24), List.all_append, w_t10, ← List.take_append_drop 24 ((((((((((words1.drop 24).drop 24).drop 24).drop 24).drop 24).drop 24).drop 24).drop 24).drop 24).drop 24), List.all_append, w_t11, w_t12]
  rfl
set_option maxRecDepth 65536 in
theorem w_rest : rest_1_c.before args0 about1 = true := by decide +kernel
set_option maxRecDepth 65536 in
theorem w_case : (Jvm.Cond.and given_1 narrow_1).before args0 about1 = true := by decide +kernel
theorem w_applies : (headSpec (Jvm.Cond.code x code maxLocals ret :: tables_1) room_1).applies x e0.platform about1 = true :=
  (Spec.applies_iff w_frames).mpr ⟨w_running, w_runnable, w_alone, w_named, w_hears, w_ripe, w_room, w_tables⟩
theorem atStart : AtStart classFile x code maxLocals ret World_1 tables_1 room_1 Calls_1 rest_1 Pre_1 launch0 p0 e0 about1 theMethod args0 below0 :=
  ⟨lists_1, trivial, launch0.admits_env _ _ _, launch0.least_env, fairChoices_fair.cas, fairChoices_fair.clock, w_frames, w_args, w_heap, w_applies, trivial, w_rest, w_case⟩
end start1
theorem witness_1 : WitnessClaimed_1 := ⟨start1.p0, start1.e0, start1.about1, start1.theMethod, start1.args0, start1.below0, start1.atStart⟩
end Jvm.Pilot.@@N@@
