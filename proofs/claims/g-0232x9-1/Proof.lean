import JvmDerived
import JvmDerived.Pilot.@@N@@Statement
import JvmDerived.Pilot.@@N@@Code
set_option linter.unusedVariables false
set_option linter.unusedSimpArgs false
namespace Jvm.RoadKit
open Sem ClassFile Op Lib Jvm.Stand Jvm.Free Jvm.LawKit
section New
variable {p : Program} {l : Launch} {e : Env} {R : Room} {s : State} {m : MethodId} {args : Array Value} {below : List Frame} {meth : Method} {c : Code} {T : State} {locs : List Loc} {cells slots : Nat}
theorem retI (X : Stand p l e R s m args below meth c T locs cells slots) (hx : p.tables.exec = Jvm.exec) {pc : Nat} {Ls : Array Slot} {z : Int32} {rest : List Value} (hret : meth.sig.returnType = some .int) (hd : decode c.code pc = .ok (.ireturn, 1)) {fs : List Frame}
    (hl : ∀ (f : JFrame) (acts : List Action), f.method = m → f.locked = none → f.entered = [] → (doReturn e (T.setTop f) acts (some (.int z))).1 = T.setFrames fs) : Steps p.tables e below (T.setTop (mkF m pc Ls (.int z :: rest))) (T.setFrames fs) := by
  have hm' : T.vm.method? m = some meth := X.method'
  have hn : narrow .int (.int z) = .int z := rfl
  show Steps p.tables e below (T.setTop { method := m, pc := pc, locals := Ls, stack := _ :: rest, locked := none }) _
  jvm_step X.here [X.here.top, hx, hd, hm', hret, hn]
  first | (intro acts; rw [hl _ acts rfl rfl rfl]) | rw [hl _ _ rfl rfl rfl]
  exact Steps.refl _
end New
end Jvm.RoadKit
namespace Jvm.Pilot.@@N@@
open Jvm Jvm.ClassFile Sem Op Lib Jvm.Free Jvm.Stand Jvm.LawKit Jvm.RoadKit Bundle Jvm.Pilot.@@N@@.Jvm.D
/-! TABLES of this claim: printed by claim.py -/
def k0 : Nat := 1
def cName : String := "SwitchLowererX"
def cN : Nat := 48
def nF : Nat := 48
def kName (k : Nat) : String := bif Nat.beq k 0 then "SwitchLowererXL7" else "SwitchLowererX"
def fNm (k : Nat) : String := (bif Nat.ble 24 k then (bif Nat.ble 36 k then (bif Nat.ble 42 k then (bif Nat.ble 45 k then (bif Nat.ble 46 k then (bif Nat.ble 47 k then "sp" else "maskUsed") else "tableUsed") else (bif Nat.ble 43 k then (bif Nat.ble 44 k then "rootPc" else "codeLen") else "clCount")) else (bif Nat.ble 39 k then (bif Nat.ble 40 k then (bif Nat.ble 41 k then "hasSnap" else "snapDefault") else "snapCount") else (bif Nat.ble 37 k then (bif Nat.ble 38 k then "dirty" else "curDefault") else "curCount"))) else (bif Nat.ble 30 k then (bif Nat.ble 33 k then (bif Nat.ble 34 k then (bif Nat.ble 35 k then "targets" else "cap") else "stSlot") else (bif Nat.ble 31 k then (bif Nat.ble 32 k then "stParent" else "stHi") else "stLo")) else (bif Nat.ble 27 k then (bif Nat.ble 28 k then (bif Nat.ble 29 k then "maskTarget" else "maskPool") else "tablePool") else (bif Nat.ble 25 k then (bif Nat.ble 26 k then "argD" else "argC") else "argB")))) else (bif Nat.ble 12 k then (bif Nat.ble 18 k then (bif Nat.ble 21 k then (bif Nat.ble 22 k then (bif Nat.ble 23 k then "argA" else "opc") else "clEnd") else (bif Nat.ble 19 k then (bif Nat.ble 20 k then "clStart" else "bestCut") else "bestCost")) else (bif Nat.ble 15 k then (bif Nat.ble 16 k then (bif Nat.ble 17 k then "snapTgt" else "snapVal") else "curTgt") else (bif Nat.ble 13 k then (bif Nat.ble 14 k then "curVal" else "maxInt") else "unsignedMask"))) else (bif Nat.ble 6 k then (bif Nat.ble 9 k then (bif Nat.ble 10 k then (bif Nat.ble 11 k then "maxBitTargets" else "maxBitSpan") else "maxTableSpan") else (bif Nat.ble 7 k then (bif Nat.ble 8 k then "tableSpanPerCase" else "maxSteps") else "maxTargets")) else (bif Nat.ble 3 k then (bif Nat.ble 4 k then (bif Nat.ble 5 k then "maxCap" else "opBits") else "opTable") else (bif Nat.ble 1 k then (bif Nat.ble 2 k then "opEq" else "opLess") else "opRet")))))
def fDs (k : Nat) : String := (bif Nat.ble 24 k then (bif Nat.ble 36 k then (bif Nat.ble 42 k then (bif Nat.ble 45 k then (bif Nat.ble 46 k then (bif Nat.ble 47 k then "I" else "I") else "I") else (bif Nat.ble 43 k then (bif Nat.ble 44 k then "I" else "I") else "I")) else (bif Nat.ble 39 k then (bif Nat.ble 40 k then (bif Nat.ble 41 k then "Z" else "I") else "I") else (bif Nat.ble 37 k then (bif Nat.ble 38 k then "Z" else "I") else "I"))) else (bif Nat.ble 30 k then (bif Nat.ble 33 k then (bif Nat.ble 34 k then (bif Nat.ble 35 k then "I" else "I") else "[I") else (bif Nat.ble 31 k then (bif Nat.ble 32 k then "[I" else "[I") else "[I")) else (bif Nat.ble 27 k then (bif Nat.ble 28 k then (bif Nat.ble 29 k then "[B" else "[J") else "[B") else (bif Nat.ble 25 k then (bif Nat.ble 26 k then "[I" else "[I") else "[I")))) else (bif Nat.ble 12 k then (bif Nat.ble 18 k then (bif Nat.ble 21 k then (bif Nat.ble 22 k then (bif Nat.ble 23 k then "[I" else "[B") else "[I") else (bif Nat.ble 19 k then (bif Nat.ble 20 k then "[I" else "[I") else "[I")) else (bif Nat.ble 15 k then (bif Nat.ble 16 k then (bif Nat.ble 17 k then "[B" else "[I") else "[B") else (bif Nat.ble 13 k then (bif Nat.ble 14 k then "[I" else "I") else "J"))) else (bif Nat.ble 6 k then (bif Nat.ble 9 k then (bif Nat.ble 10 k then (bif Nat.ble 11 k then "I" else "I") else "I") else (bif Nat.ble 7 k then (bif Nat.ble 8 k then "I" else "I") else "I")) else (bif Nat.ble 3 k then (bif Nat.ble 4 k then (bif Nat.ble 5 k then "I" else "I") else "I") else (bif Nat.ble 1 k then (bif Nat.ble 2 k then "I" else "I") else "I")))))
def fTy (k : Nat) : FieldType := (bif Nat.ble 24 k then (bif Nat.ble 36 k then (bif Nat.ble 42 k then (bif Nat.ble 45 k then (bif Nat.ble 46 k then (bif Nat.ble 47 k then .int else .int) else .int) else (bif Nat.ble 43 k then (bif Nat.ble 44 k then .int else .int) else .int)) else (bif Nat.ble 39 k then (bif Nat.ble 40 k then (bif Nat.ble 41 k then .boolean else .int) else .int) else (bif Nat.ble 37 k then (bif Nat.ble 38 k then .boolean else .int) else .int))) else (bif Nat.ble 30 k then (bif Nat.ble 33 k then (bif Nat.ble 34 k then (bif Nat.ble 35 k then .int else .int) else (.array .int)) else (bif Nat.ble 31 k then (bif Nat.ble 32 k then (.array .int) else (.array .int)) else (.array .int))) else (bif Nat.ble 27 k then (bif Nat.ble 28 k then (bif Nat.ble 29 k then (.array .byte) else (.array .long)) else (.array .byte)) else (bif Nat.ble 25 k then (bif Nat.ble 26 k then (.array .int) else (.array .int)) else (.array .int))))) else (bif Nat.ble 12 k then (bif Nat.ble 18 k then (bif Nat.ble 21 k then (bif Nat.ble 22 k then (bif Nat.ble 23 k then (.array .int) else (.array .byte)) else (.array .int)) else (bif Nat.ble 19 k then (bif Nat.ble 20 k then (.array .int) else (.array .int)) else (.array .int))) else (bif Nat.ble 15 k then (bif Nat.ble 16 k then (bif Nat.ble 17 k then (.array .byte) else (.array .int)) else (.array .byte)) else (bif Nat.ble 13 k then (bif Nat.ble 14 k then (.array .int) else .int) else .long))) else (bif Nat.ble 6 k then (bif Nat.ble 9 k then (bif Nat.ble 10 k then (bif Nat.ble 11 k then .int else .int) else .int) else (bif Nat.ble 7 k then (bif Nat.ble 8 k then .int else .int) else .int)) else (bif Nat.ble 3 k then (bif Nat.ble 4 k then (bif Nat.ble 5 k then .int else .int) else .int) else (bif Nat.ble 1 k then (bif Nat.ble 2 k then .int else .int) else .int)))))
def fFin (k : Nat) : Bool := (bif Nat.ble 24 k then (bif Nat.ble 36 k then (bif Nat.ble 42 k then (bif Nat.ble 45 k then (bif Nat.ble 46 k then (bif Nat.ble 47 k then false else false) else false) else (bif Nat.ble 43 k then (bif Nat.ble 44 k then false else false) else false)) else (bif Nat.ble 39 k then (bif Nat.ble 40 k then (bif Nat.ble 41 k then false else false) else false) else (bif Nat.ble 37 k then (bif Nat.ble 38 k then false else false) else false))) else (bif Nat.ble 30 k then (bif Nat.ble 33 k then (bif Nat.ble 34 k then (bif Nat.ble 35 k then false else false) else true) else (bif Nat.ble 31 k then (bif Nat.ble 32 k then true else true) else true)) else (bif Nat.ble 27 k then (bif Nat.ble 28 k then (bif Nat.ble 29 k then true else true) else true) else (bif Nat.ble 25 k then (bif Nat.ble 26 k then true else true) else true)))) else (bif Nat.ble 12 k then (bif Nat.ble 18 k then (bif Nat.ble 21 k then (bif Nat.ble 22 k then (bif Nat.ble 23 k then true else true) else true) else (bif Nat.ble 19 k then (bif Nat.ble 20 k then true else true) else true)) else (bif Nat.ble 15 k then (bif Nat.ble 16 k then (bif Nat.ble 17 k then true else true) else true) else (bif Nat.ble 13 k then (bif Nat.ble 14 k then true else true) else true))) else (bif Nat.ble 6 k then (bif Nat.ble 9 k then (bif Nat.ble 10 k then (bif Nat.ble 11 k then true else true) else true) else (bif Nat.ble 7 k then (bif Nat.ble 8 k then true else true) else true)) else (bif Nat.ble 3 k then (bif Nat.ble 4 k then (bif Nat.ble 5 k then true else true) else true) else (bif Nat.ble 1 k then (bif Nat.ble 2 k then true else true) else true)))))
def cDef : List Value := [.int 0, .int 0, .int 0, .int 0, .int 0, .int 0, .int 0, .int 0, .int 0, .int 0, .int 0, .int 0, .long 0, .int 0, .null, .null, .null, .null, .null, .null, .null, .null, .null, .null, .null, .null, .null, .null, .null, .null, .null, .null, .null, .null, .int 0, .int 0, .int 0, .int 0, .int 0, .int 0, .int 0, .int 0, .int 0, .int 0, .int 0, .int 0, .int 0, .int 0]
def cK : List Value := [.int (2147483647), .int (-2147483648), .long (-8), .long (7), .long (8), .long (4294967296), .long (4294967295), .long (256), .long (64), .long (4)]
def pN : Nat := 37
def pTop (m : Nat) : Nat := (bif Nat.ble 18 m then (bif Nat.ble 27 m then (bif Nat.ble 32 m then (bif Nat.ble 34 m then (bif Nat.ble 35 m then (bif Nat.ble 36 m then 75 else 26) else 51) else (bif Nat.ble 33 m then 48 else 44)) else (bif Nat.ble 29 m then (bif Nat.ble 30 m then (bif Nat.ble 31 m then 9 else 127) else 57) else (bif Nat.ble 28 m then 114 else 59))) else (bif Nat.ble 22 m then (bif Nat.ble 24 m then (bif Nat.ble 25 m then (bif Nat.ble 26 m then 80 else 75) else 40) else (bif Nat.ble 23 m then 52 else 179)) else (bif Nat.ble 20 m then (bif Nat.ble 21 m then 69 else 134) else (bif Nat.ble 19 m then 72 else 77)))) else (bif Nat.ble 9 m then (bif Nat.ble 13 m then (bif Nat.ble 15 m then (bif Nat.ble 16 m then (bif Nat.ble 17 m then 210 else 89) else 62) else (bif Nat.ble 14 m then 207 else 67)) else (bif Nat.ble 11 m then (bif Nat.ble 12 m then 21 else 135) else (bif Nat.ble 10 m then 59 else 28))) else (bif Nat.ble 4 m then (bif Nat.ble 6 m then (bif Nat.ble 7 m then (bif Nat.ble 8 m then 22 else 15) else 20) else (bif Nat.ble 5 m then 5 else 5)) else (bif Nat.ble 2 m then (bif Nat.ble 3 m then 61 else 16) else (bif Nat.ble 1 m then 284 else 543)))))
def pK (m : Nat) : Nat := (bif Nat.ble 18 m then (bif Nat.ble 27 m then (bif Nat.ble 32 m then (bif Nat.ble 34 m then (bif Nat.ble 35 m then (bif Nat.ble 36 m then 1 else 1) else 1) else (bif Nat.ble 33 m then 1 else 1)) else (bif Nat.ble 29 m then (bif Nat.ble 30 m then (bif Nat.ble 31 m then 1 else 1) else 1) else (bif Nat.ble 28 m then 1 else 1))) else (bif Nat.ble 22 m then (bif Nat.ble 24 m then (bif Nat.ble 25 m then (bif Nat.ble 26 m then 1 else 1) else 1) else (bif Nat.ble 23 m then 1 else 1)) else (bif Nat.ble 20 m then (bif Nat.ble 21 m then 1 else 1) else (bif Nat.ble 19 m then 1 else 1)))) else (bif Nat.ble 9 m then (bif Nat.ble 13 m then (bif Nat.ble 15 m then (bif Nat.ble 16 m then (bif Nat.ble 17 m then 1 else 1) else 1) else (bif Nat.ble 14 m then 1 else 1)) else (bif Nat.ble 11 m then (bif Nat.ble 12 m then 1 else 1) else (bif Nat.ble 10 m then 1 else 1))) else (bif Nat.ble 4 m then (bif Nat.ble 6 m then (bif Nat.ble 7 m then (bif Nat.ble 8 m then 1 else 1) else 1) else (bif Nat.ble 5 m then 1 else 1)) else (bif Nat.ble 2 m then (bif Nat.ble 3 m then 1 else 1) else (bif Nat.ble 1 m then 1 else 0)))))
def pNm (m : Nat) : String := (bif Nat.ble 18 m then (bif Nat.ble 27 m then (bif Nat.ble 32 m then (bif Nat.ble 34 m then (bif Nat.ble 35 m then (bif Nat.ble 36 m then "removeCase" else "setDefault") else "nextCaseRouted") else (bif Nat.ble 33 m then "nextDefaultRouted" else "nextRouted")) else (bif Nat.ble 29 m then (bif Nat.ble 30 m then (bif Nat.ble 31 m then "unsignedOffset" else "runBits") else "runLeaf") else (bif Nat.ble 28 m then "run" else "snapLowerBound"))) else (bif Nat.ble 22 m then (bif Nat.ble 24 m then (bif Nat.ble 25 m then (bif Nat.ble 26 m then "countCaseHits" else "routedCount") else "patch") else (bif Nat.ble 23 m then "findMaskSlot" else "emitBits")) else (bif Nat.ble 20 m then (bif Nat.ble 21 m then "distinctTargets" else "emitLeaf") else (bif Nat.ble 19 m then "push" else "emit")))) else (bif Nat.ble 9 m then (bif Nat.ble 13 m then (bif Nat.ble 15 m then (bif Nat.ble 16 m then (bif Nat.ble 17 m then "buildTree" else "collectClusters") else "clusterFits") else (bif Nat.ble 14 m then "planClusters" else "takeSnapshot")) else (bif Nat.ble 11 m then (bif Nat.ble 12 m then "lower" else "addCase") else (bif Nat.ble 10 m then "curLowerBound" else "curIndexOf"))) else (bif Nat.ble 4 m then (bif Nat.ble 6 m then (bif Nat.ble 7 m then (bif Nat.ble 8 m then "lookup" else "route") else "isCurrent") else (bif Nat.ble 5 m then "defaultTarget" else "caseCount")) else (bif Nat.ble 2 m then (bif Nat.ble 3 m then "reset" else "clamp") else (bif Nat.ble 1 m then "<init>" else "law")))))
def pDs (m : Nat) : String := (bif Nat.ble 18 m then (bif Nat.ble 27 m then (bif Nat.ble 32 m then (bif Nat.ble 34 m then (bif Nat.ble 35 m then (bif Nat.ble 36 m then "(I)I" else "(I)I") else "(II)J") else (bif Nat.ble 33 m then "(I)J" else "(II)J")) else (bif Nat.ble 29 m then (bif Nat.ble 30 m then (bif Nat.ble 31 m then "(II)J" else "(II)I") else "(II)I") else (bif Nat.ble 28 m then "(I)I" else "(I)I"))) else (bif Nat.ble 22 m then (bif Nat.ble 24 m then (bif Nat.ble 25 m then (bif Nat.ble 26 m then "(IIIZ)J" else "(III)J") else "(III)V") else (bif Nat.ble 23 m then "(III)I" else "(III)I")) else (bif Nat.ble 20 m then (bif Nat.ble 21 m then "(II)I" else "(I)I") else (bif Nat.ble 19 m then "(IIII)V" else "(IIIII)I")))) else (bif Nat.ble 9 m then (bif Nat.ble 13 m then (bif Nat.ble 15 m then (bif Nat.ble 16 m then (bif Nat.ble 17 m then "()V" else "()V") else "(JII)Z") else (bif Nat.ble 14 m then "()V" else "()V")) else (bif Nat.ble 11 m then (bif Nat.ble 12 m then "()I" else "(II)I") else (bif Nat.ble 10 m then "(I)I" else "(I)I"))) else (bif Nat.ble 4 m then (bif Nat.ble 6 m then (bif Nat.ble 7 m then (bif Nat.ble 8 m then "(I)I" else "(I)I") else "()Z") else (bif Nat.ble 5 m then "()I" else "()I")) else (bif Nat.ble 2 m then (bif Nat.ble 3 m then "()V" else "(III)I") else (bif Nat.ble 1 m then "(II)V" else "([I)Z")))))
def pName (m : Nat) : MethodName := ⟨kName (pK m), pNm m, pDs m⟩
def pBytes (m : Nat) : ByteArray := (bif Nat.ble 18 m then (bif Nat.ble 27 m then (bif Nat.ble 32 m then (bif Nat.ble 34 m then (bif Nat.ble 35 m then (bif Nat.ble 36 m then prog_1_method_6_code else prog_1_method_7_code) else prog_1_method_41_code) else (bif Nat.ble 33 m then prog_1_method_42_code else prog_1_method_16_code)) else (bif Nat.ble 29 m then (bif Nat.ble 30 m then (bif Nat.ble 31 m then prog_1_method_38_code else prog_1_method_40_code) else prog_1_method_37_code) else (bif Nat.ble 28 m then prog_1_method_36_code else prog_1_method_21_code))) else (bif Nat.ble 22 m then (bif Nat.ble 24 m then (bif Nat.ble 25 m then (bif Nat.ble 26 m then prog_1_method_43_code else prog_1_method_17_code) else prog_1_method_28_code) else (bif Nat.ble 23 m then prog_1_method_34_code else prog_1_method_33_code)) else (bif Nat.ble 20 m then (bif Nat.ble 21 m then prog_1_method_32_code else prog_1_method_31_code) else (bif Nat.ble 19 m then prog_1_method_27_code else prog_1_method_29_code)))) else (bif Nat.ble 9 m then (bif Nat.ble 13 m then (bif Nat.ble 15 m then (bif Nat.ble 16 m then (bif Nat.ble 17 m then prog_1_method_26_code else prog_1_method_25_code) else prog_1_method_24_code) else (bif Nat.ble 14 m then prog_1_method_23_code else prog_1_method_22_code)) else (bif Nat.ble 11 m then (bif Nat.ble 12 m then prog_1_method_13_code else prog_1_method_5_code) else (bif Nat.ble 10 m then prog_1_method_19_code else prog_1_method_20_code))) else (bif Nat.ble 4 m then (bif Nat.ble 6 m then (bif Nat.ble 7 m then (bif Nat.ble 8 m then prog_1_method_12_code else prog_1_method_15_code) else prog_1_method_14_code) else (bif Nat.ble 5 m then prog_1_method_11_code else prog_1_method_8_code)) else (bif Nat.ble 2 m then (bif Nat.ble 3 m then prog_1_method_4_code else prog_1_method_18_code) else (bif Nat.ble 1 m then prog_1_method_1_code else code)))))
def pMaxL (m : Nat) : Nat := (bif Nat.ble 18 m then (bif Nat.ble 27 m then (bif Nat.ble 32 m then (bif Nat.ble 34 m then (bif Nat.ble 35 m then (bif Nat.ble 36 m then 4 else 2) else 6) else (bif Nat.ble 33 m then 4 else 3)) else (bif Nat.ble 29 m then (bif Nat.ble 30 m then (bif Nat.ble 31 m then 3 else 10) else 4) else (bif Nat.ble 28 m then 6 else 6))) else (bif Nat.ble 22 m then (bif Nat.ble 24 m then (bif Nat.ble 25 m then (bif Nat.ble 26 m then 11 else 9) else 4) else (bif Nat.ble 23 m then 6 else 11)) else (bif Nat.ble 20 m then (bif Nat.ble 21 m then 7 else 7) else (bif Nat.ble 19 m then 5 else 7)))) else (bif Nat.ble 9 m then (bif Nat.ble 13 m then (bif Nat.ble 15 m then (bif Nat.ble 16 m then (bif Nat.ble 17 m then 9 else 6) else 7) else (bif Nat.ble 14 m then 10 else 2)) else (bif Nat.ble 11 m then (bif Nat.ble 12 m then 1 else 5) else (bif Nat.ble 10 m then 6 else 3))) else (bif Nat.ble 4 m then (bif Nat.ble 6 m then (bif Nat.ble 7 m then (bif Nat.ble 8 m then 3 else 2) else 1) else (bif Nat.ble 5 m then 1 else 1)) else (bif Nat.ble 2 m then (bif Nat.ble 3 m then 1 else 4) else (bif Nat.ble 1 m then 3 else 23)))))
def pRet (m : Nat) : Option FieldType := (bif Nat.ble 18 m then (bif Nat.ble 27 m then (bif Nat.ble 32 m then (bif Nat.ble 34 m then (bif Nat.ble 35 m then (bif Nat.ble 36 m then (some .int) else (some .int)) else (some .long)) else (bif Nat.ble 33 m then (some .long) else (some .long))) else (bif Nat.ble 29 m then (bif Nat.ble 30 m then (bif Nat.ble 31 m then (some .long) else (some .int)) else (some .int)) else (bif Nat.ble 28 m then (some .int) else (some .int)))) else (bif Nat.ble 22 m then (bif Nat.ble 24 m then (bif Nat.ble 25 m then (bif Nat.ble 26 m then (some .long) else (some .long)) else none) else (bif Nat.ble 23 m then (some .int) else (some .int))) else (bif Nat.ble 20 m then (bif Nat.ble 21 m then (some .int) else (some .int)) else (bif Nat.ble 19 m then none else (some .int))))) else (bif Nat.ble 9 m then (bif Nat.ble 13 m then (bif Nat.ble 15 m then (bif Nat.ble 16 m then (bif Nat.ble 17 m then none else none) else (some .boolean)) else (bif Nat.ble 14 m then none else none)) else (bif Nat.ble 11 m then (bif Nat.ble 12 m then (some .int) else (some .int)) else (bif Nat.ble 10 m then (some .int) else (some .int)))) else (bif Nat.ble 4 m then (bif Nat.ble 6 m then (bif Nat.ble 7 m then (bif Nat.ble 8 m then (some .int) else (some .int)) else (some .boolean)) else (bif Nat.ble 5 m then (some .int) else (some .int))) else (bif Nat.ble 2 m then (bif Nat.ble 3 m then none else (some .int)) else (bif Nat.ble 1 m then none else (some .boolean))))))
def pNA (m : Nat) : Nat := (bif Nat.ble 18 m then (bif Nat.ble 27 m then (bif Nat.ble 32 m then (bif Nat.ble 34 m then (bif Nat.ble 35 m then (bif Nat.ble 36 m then 1 else 1) else 2) else (bif Nat.ble 33 m then 1 else 2)) else (bif Nat.ble 29 m then (bif Nat.ble 30 m then (bif Nat.ble 31 m then 2 else 2) else 2) else (bif Nat.ble 28 m then 1 else 1))) else (bif Nat.ble 22 m then (bif Nat.ble 24 m then (bif Nat.ble 25 m then (bif Nat.ble 26 m then 4 else 3) else 3) else (bif Nat.ble 23 m then 3 else 3)) else (bif Nat.ble 20 m then (bif Nat.ble 21 m then 2 else 1) else (bif Nat.ble 19 m then 4 else 5)))) else (bif Nat.ble 9 m then (bif Nat.ble 13 m then (bif Nat.ble 15 m then (bif Nat.ble 16 m then (bif Nat.ble 17 m then 0 else 0) else 3) else (bif Nat.ble 14 m then 0 else 0)) else (bif Nat.ble 11 m then (bif Nat.ble 12 m then 0 else 2) else (bif Nat.ble 10 m then 1 else 1))) else (bif Nat.ble 4 m then (bif Nat.ble 6 m then (bif Nat.ble 7 m then (bif Nat.ble 8 m then 1 else 1) else 0) else (bif Nat.ble 5 m then 0 else 0)) else (bif Nat.ble 2 m then (bif Nat.ble 3 m then 0 else 3) else (bif Nat.ble 1 m then 2 else 1)))))
def pFr (m : Nat) : Nat := (bif Nat.ble 18 m then (bif Nat.ble 27 m then (bif Nat.ble 32 m then (bif Nat.ble 34 m then (bif Nat.ble 35 m then (bif Nat.ble 36 m then 2 else 0) else 4) else (bif Nat.ble 33 m then 4 else 5)) else (bif Nat.ble 29 m then (bif Nat.ble 30 m then (bif Nat.ble 31 m then 0 else 1) else 2) else (bif Nat.ble 28 m then 3 else 0))) else (bif Nat.ble 22 m then (bif Nat.ble 24 m then (bif Nat.ble 25 m then (bif Nat.ble 26 m then 4 else 5) else 0) else (bif Nat.ble 23 m then 0 else 1)) else (bif Nat.ble 20 m then (bif Nat.ble 21 m then 0 else 2) else (bif Nat.ble 19 m then 0 else 0)))) else (bif Nat.ble 9 m then (bif Nat.ble 13 m then (bif Nat.ble 15 m then (bif Nat.ble 16 m then (bif Nat.ble 17 m then 3 else 0) else 0) else (bif Nat.ble 14 m then 1 else 0)) else (bif Nat.ble 11 m then (bif Nat.ble 12 m then 4 else 1) else (bif Nat.ble 10 m then 0 else 1))) else (bif Nat.ble 4 m then (bif Nat.ble 6 m then (bif Nat.ble 7 m then (bif Nat.ble 8 m then 2 else 4) else 0) else (bif Nat.ble 5 m then 0 else 0)) else (bif Nat.ble 2 m then (bif Nat.ble 3 m then 0 else 0) else (bif Nat.ble 1 m then 1 else 6)))))
def pLo (m : Nat) : Nat := (bif Nat.ble 18 m then (bif Nat.ble 27 m then (bif Nat.ble 32 m then (bif Nat.ble 34 m then (bif Nat.ble 35 m then (bif Nat.ble 36 m then 31 else 0) else 67) else (bif Nat.ble 33 m then 67 else 84)) else (bif Nat.ble 29 m then (bif Nat.ble 30 m then (bif Nat.ble 31 m then 0 else 14) else 35) else (bif Nat.ble 28 m then 50 else 0))) else (bif Nat.ble 22 m then (bif Nat.ble 24 m then (bif Nat.ble 25 m then (bif Nat.ble 26 m then 67 else 89) else 0) else (bif Nat.ble 23 m then 0 else 18)) else (bif Nat.ble 20 m then (bif Nat.ble 21 m then 0 else 40) else (bif Nat.ble 19 m then 0 else 0)))) else (bif Nat.ble 9 m then (bif Nat.ble 13 m then (bif Nat.ble 15 m then (bif Nat.ble 16 m then (bif Nat.ble 17 m then 58 else 0) else 0) else (bif Nat.ble 14 m then 18 else 0)) else (bif Nat.ble 11 m then (bif Nat.ble 12 m then 78 else 17) else (bif Nat.ble 10 m then 0 else 17))) else (bif Nat.ble 4 m then (bif Nat.ble 6 m then (bif Nat.ble 7 m then (bif Nat.ble 8 m then 31 else 67) else 0) else (bif Nat.ble 5 m then 0 else 0)) else (bif Nat.ble 2 m then (bif Nat.ble 3 m then 0 else 0) else (bif Nat.ble 1 m then 16 else 109)))))
def tB (k : Nat) (a b : Nat → Option (Instr × Nat)) (p : Nat) : Option (Instr × Nat) := bif Nat.ble k p then a p else b p
def tL (k : Nat) (i : Instr) (x p : Nat) : Option (Instr × Nat) := bif Nat.beq p k then some (i, x) else none
def tZ (k : Nat) (i : Instr) (p : Nat) : Option (Instr × Nat) := bif Nat.beq p k then some (i, 0) else none
set_option maxHeartbeats 4000000 in
def cd0 (p : Nat) : Option (Instr × Nat) := (tB 263 (tB 403 (tB 473 (tB 507 (tB 526 (tB 534 (tB 538 (tB 541 (tB 542 (tZ 542 .ireturn) (tZ 541 (.iconst 1))) (tL 538 (.goto (-39)) 499)) (tB 535 (tZ 535 (.iinc 5 1)) (tZ 534 .ireturn))) (tB 529 (tB 530 (tB 533 (tZ 533 (.iconst 0)) (tL 530 (.ifCond .eq 5) 535)) (tZ 529 .lcmp)) (tB 528 (tZ 528 .i2l) (tZ 526 (.iload 5))))) (tB 515 (tB 519 (tB 522 (tB 524 (tZ 524 (.lload 7)) (tZ 522 (.lstore 7))) (tL 519 (.invokevirtual 52) 32)) (tB 517 (tZ 517 (.iload 6)) (tZ 515 (.iload 5)))) (tB 512 (tB 514 (tZ 514 (.aload_n 1)) (tZ 512 (.istore 6))) (tB 509 (tL 509 (.invokevirtual 24) 7) (tZ 507 (.iload 5)))))) (tB 489 (tB 497 (tB 501 (tB 503 (tB 506 (tZ 506 (.aload_n 1)) (tL 503 (.if_icmp .gt 38) 541)) (tZ 501 (.bipush 7))) (tB 499 (tZ 499 (.iload 5)) (tZ 497 (.istore 5)))) (tB 493 (tB 494 (tB 495 (tZ 495 (.bipush (-8))) (tZ 494 .ireturn)) (tZ 493 (.iconst 0))) (tB 490 (tL 490 (.ifCond .eq 5) 495) (tZ 489 .lcmp)))) (tB 478 (tB 482 (tB 485 (tB 486 (tL 486 (.ldc2_w 62) 5) (tZ 485 (.lload_n 3))) (tL 482 (.goto (-235)) 247)) (tB 479 (tZ 479 (.iinc 5 1)) (tZ 478 (.lstore_n 3)))) (tB 475 (tB 477 (tZ 477 .ladd) (tZ 475 (.lload 6))) (tB 474 (tZ 474 (.lload_n 3)) (tZ 473 .ireturn)))))) (tB 437 (tB 453 (tB 463 (tB 468 (tB 469 (tB 472 (tZ 472 (.iconst 0)) (tL 469 (.ifCond .ge 5) 474)) (tZ 468 .lcmp)) (tB 465 (tL 465 (.ldc2_w 60) 4) (tZ 463 (.lload 20)))) (tB 458 (tB 459 (tB 460 (tL 460 (.goto 14) 474) (tZ 459 .ireturn)) (tZ 458 (.iconst 0))) (tB 455 (tL 455 (.if_icmp .eq 5) 460) (tZ 453 (.iload 5))))) (tB 443 (tB 446 (tB 449 (tB 451 (tZ 451 (.iload 22)) (tZ 449 (.istore 22))) (tL 446 (.invokevirtual 24) 7)) (tB 445 (tZ 445 .l2i) (tZ 443 (.lload 20)))) (tB 441 (tB 442 (tZ 442 (.aload_n 1)) (tZ 441 .ireturn)) (tB 440 (tZ 440 (.iconst 0)) (tL 437 (.ifCond .le 5) 442))))) (tB 418 (tB 427 (tB 431 (tB 433 (tB 436 (tZ 436 .lcmp) (tL 433 (.ldc2_w 58) 3)) (tZ 431 (.lload 20))) (tB 428 (tL 428 (.ifCond .lt 12) 440) (tZ 427 .lcmp))) (tB 422 (tB 424 (tL 424 (.ldc2_w 56) 2) (tZ 422 (.lload 20))) (tB 419 (tL 419 (.ifCond .le 44) 463) (tZ 418 .lcmp)))) (tB 408 (tB 413 (tB 415 (tB 417 (tZ 417 (.lconst 0)) (tZ 415 (.lload 10))) (tZ 413 (.lstore 20))) (tB 410 (tL 410 (.invokevirtual 52) 32) (tZ 408 (.iload 5)))) (tB 405 (tB 406 (tZ 406 (.bipush (-8))) (tZ 405 (.aload_n 1))) (tB 404 (tZ 404 .ireturn) (tZ 403 (.iconst 0)))))))) (tB 330 (tB 363 (tB 383 (tB 392 (tB 397 (tB 399 (tB 400 (tL 400 (.ifCond .eq 5) 405) (tZ 399 .lcmp)) (tZ 397 (.lload 10))) (tB 395 (tZ 395 (.lload 18)) (tL 392 (.goto (-31)) 361))) (tB 386 (tB 387 (tB 389 (tZ 389 (.iinc 20 1)) (tZ 387 (.lstore 18))) (tZ 386 .ladd)) (tB 385 (tZ 385 (.lconst 1)) (tZ 383 (.lload 18))))) (tB 371 (tB 376 (tB 378 (tB 380 (tL 380 (.if_icmp .ne 9) 389) (tZ 378 (.iload 5))) (tZ 376 (.iload 21))) (tB 374 (tZ 374 (.istore 21)) (tL 371 (.invokevirtual 24) 7))) (tB 368 (tB 369 (tZ 369 (.iload 20)) (tZ 368 (.aload_n 1))) (tB 365 (tL 365 (.if_icmp .gt 30) 395) (tZ 363 (.bipush 7)))))) (tB 347 (tB 354 (tB 357 (tB 359 (tB 361 (tZ 361 (.iload 20)) (tZ 359 (.istore 20))) (tZ 357 (.bipush (-8)))) (tB 355 (tZ 355 (.lstore 18)) (tZ 354 (.lconst 0)))) (tB 349 (tB 352 (tB 353 (tZ 353 .ireturn) (tZ 352 (.iconst 0))) (tL 349 (.ifCond .eq 5) 354)) (tB 348 (tZ 348 .lcmp) (tZ 347 .ladd)))) (tB 336 (tB 341 (tB 343 (tB 345 (tZ 345 (.lload 16)) (tZ 343 (.lload 14))) (tZ 341 (.lload 6))) (tB 339 (tZ 339 (.lstore 16)) (tL 336 (.invokevirtual 48) 25))) (tB 332 (tB 334 (tZ 334 (.iload 5)) (tZ 332 (.ldc 12))) (tB 331 (tZ 331 .iadd) (tZ 330 (.iconst 1))))))) (tB 299 (tB 315 (tB 321 (tB 326 (tB 328 (tB 329 (tZ 329 (.iload_n 2)) (tZ 328 (.aload_n 1))) (tZ 326 (.lstore 14))) (tB 323 (tL 323 (.invokevirtual 48) 25) (tZ 321 (.iload 5)))) (tB 317 (tB 318 (tB 320 (tZ 320 (.iload_n 2)) (tL 318 (.ldc 47) 1)) (tZ 317 (.aload_n 1))) (tB 316 (tZ 316 .ireturn) (tZ 315 (.iconst 0))))) (tB 307 (tB 310 (tB 311 (tB 312 (tL 312 (.ifCond .eq 5) 317) (tZ 311 .lcmp)) (tZ 310 .ladd)) (tB 308 (tZ 308 (.lload 12)) (tZ 307 .ladd))) (tB 303 (tB 305 (tZ 305 (.lload 10)) (tZ 303 (.lload 8))) (tB 301 (tZ 301 (.lload 6)) (tZ 299 (.lstore 12)))))) (tB 280 (tB 289 (tB 292 (tB 294 (tB 296 (tL 296 (.invokevirtual 48) 25) (tZ 294 (.iload 5))) (tZ 292 (.ldc 12))) (tB 290 (tZ 290 (.bipush 8)) (tZ 289 (.aload_n 1)))) (tB 284 (tB 287 (tZ 287 (.lstore 10)) (tL 284 (.invokevirtual 48) 25)) (tB 282 (tZ 282 (.iload 5)) (tZ 280 (.bipush 7))))) (tB 270 (tB 275 (tB 277 (tB 278 (tZ 278 (.bipush (-8))) (tZ 277 (.aload_n 1))) (tZ 275 (.lstore 8))) (tB 272 (tL 272 (.invokevirtual 48) 25) (tZ 270 (.iload 5)))) (tB 266 (tB 268 (tZ 268 (.bipush (-9))) (tL 266 (.ldc 47) 1)) (tB 265 (tZ 265 (.aload_n 1)) (tZ 263 (.lstore 6))))))))) (tB 119 (tB 195 (tB 233 (tB 244 (tB 253 (tB 256 (tB 258 (tB 260 (tL 260 (.invokevirtual 48) 25) (tZ 258 (.iload 5))) (tZ 256 (.ldc 12))) (tB 254 (tL 254 (.ldc 47) 1) (tZ 253 (.aload_n 1)))) (tB 247 (tB 249 (tB 250 (tL 250 (.if_icmp .ge 235) 485) (tZ 249 (.iconst 4))) (tZ 247 (.iload 5))) (tB 245 (tZ 245 (.istore 5)) (tZ 244 (.iconst 0))))) (tB 237 (tB 241 (tB 242 (tB 243 (tZ 243 (.lstore_n 3)) (tZ 242 (.lconst 0))) (tZ 241 (.istore_n 2))) (tB 240 (tZ 240 (.iconst 0)) (tL 237 (.goto 4) 241))) (tB 235 (tB 236 (tZ 236 .ishr) (tZ 235 (.iconst 1))) (tB 234 (tZ 234 .iaload) (tZ 233 (.iconst 0)))))) (tB 215 (tB 226 (tB 228 (tB 229 (tB 232 (tZ 232 (.aload_n 0)) (tL 229 (.ifCond .le 11) 240)) (tZ 228 .arraylength)) (tB 227 (tZ 227 (.aload_n 0)) (tZ 226 .pop))) (tB 219 (tB 222 (tB 223 (tL 223 (.invokevirtual 41) 12) (tZ 222 (.aload_n 1))) (tL 219 (.goto (-206)) 13)) (tB 216 (tZ 216 (.iinc 2 3)) (tZ 215 .ireturn)))) (tB 204 (tB 209 (tB 211 (tB 214 (tZ 214 (.iconst 0)) (tL 211 (.if_icmp .eq 5) 216)) (tZ 209 (.iload 10))) (tB 206 (tL 206 (.invokevirtual 28) 8) (tZ 204 (.iload 4)))) (tB 200 (tB 203 (tZ 203 (.aload_n 1)) (tL 200 (.if_icmp .ne 14) 214)) (tB 198 (tZ 198 (.iload 9)) (tL 195 (.invokevirtual 24) 7)))))) (tB 155 (tB 176 (tB 187 (tB 191 (tB 192 (tB 193 (tZ 193 (.iload 4)) (tZ 192 (.aload_n 1))) (tZ 191 .ireturn)) (tB 190 (tZ 190 (.iconst 0)) (tL 187 (.if_icmp .eq 5) 192))) (tB 181 (tB 182 (tB 185 (tZ 185 (.iload 8)) (tL 182 (.invokevirtual 20) 6)) (tZ 181 (.aload_n 1))) (tB 178 (tL 178 (.if_icmp .ne 12) 190) (tZ 176 (.iload 7))))) (tB 164 (tB 169 (tB 172 (tB 173 (tL 173 (.invokevirtual 17) 5) (tZ 172 (.aload_n 1))) (tL 169 (.if_icmp .ne 21) 190)) (tB 167 (tZ 167 (.iload 6)) (tL 164 (.invokevirtual 13) 4))) (tB 160 (tB 163 (tZ 163 (.aload_n 1)) (tL 160 (.ifCond .eq 56) 216)) (tB 158 (tZ 158 (.iload 11)) (tL 155 (.invokevirtual 44) 3))))) (tB 137 (tB 146 (tB 150 (tB 151 (tB 154 (tZ 154 (.aload_n 1)) (tL 151 (.goto 7) 158)) (tZ 150 .pop)) (tB 147 (tL 147 (.invokevirtual 41) 12) (tZ 146 (.aload_n 1)))) (tB 141 (tB 143 (tL 143 (.if_icmp .ne 11) 154) (tZ 141 (.bipush 6))) (tB 140 (tZ 140 (.iload_n 3)) (tL 137 (.goto 21) 158)))) (tB 126 (tB 130 (tB 132 (tB 135 (tZ 135 (.istore 11)) (tL 132 (.invokevirtual 38) 35)) (tZ 130 (.iload 5))) (tB 129 (tZ 129 (.aload_n 1)) (tL 126 (.if_icmp .ne 14) 140))) (tB 124 (tB 125 (tZ 125 (.iconst 5)) (tZ 124 (.iload_n 3))) (tB 121 (tL 121 (.goto 37) 158) (tZ 119 (.istore 11)))))))) (tB 49 (tB 82 (tB 98 (tB 109 (tB 113 (tB 114 (tB 116 (tL 116 (.invokevirtual 35) 36) (tZ 114 (.iload 4))) (tZ 113 (.aload_n 1))) (tB 110 (tL 110 (.if_icmp .ne 14) 124) (tZ 109 (.iconst 4)))) (tB 103 (tB 105 (tB 108 (tZ 108 (.iload_n 3)) (tL 105 (.goto 53) 158)) (tZ 103 (.istore 11))) (tB 100 (tL 100 (.invokevirtual 31) 11) (tZ 98 (.iload 5))))) (tB 90 (tB 92 (tB 95 (tB 96 (tZ 96 (.iload 4)) (tZ 95 (.aload_n 1))) (tL 92 (.if_icmp .gt 16) 108)) (tB 91 (tZ 91 (.iconst 3)) (tZ 90 (.iload_n 3)))) (tB 87 (tB 88 (tZ 88 (.istore 11)) (tZ 87 (.iconst 0))) (tB 85 (tZ 85 (.istore 10)) (tL 82 (.invokevirtual 28) 8))))) (tB 65 (tB 72 (tB 77 (tB 79 (tB 80 (tZ 80 (.iload 4)) (tZ 79 (.aload_n 1))) (tZ 77 (.istore 9))) (tB 74 (tL 74 (.invokevirtual 24) 7) (tZ 72 (.iload 4)))) (tB 69 (tB 71 (tZ 71 (.aload_n 1)) (tZ 69 (.istore 8))) (tB 66 (tL 66 (.invokevirtual 20) 6) (tZ 65 (.aload_n 1))))) (tB 54 (tB 59 (tB 60 (tB 63 (tZ 63 (.istore 7)) (tL 60 (.invokevirtual 17) 5)) (tZ 59 (.aload_n 1))) (tB 57 (tZ 57 (.istore 6)) (tL 54 (.invokevirtual 13) 4))) (tB 51 (tB 53 (tZ 53 (.aload_n 1)) (tZ 51 (.istore 5))) (tB 50 (tZ 50 .irem) (tZ 49 (.iconst 5))))))) (tB 26 (tB 36 (tB 43 (tB 45 (tB 46 (tB 48 (tZ 48 .iand) (tZ 46 (.ldc 12))) (tZ 45 .iaload)) (tB 44 (tZ 44 .iadd) (tZ 43 (.iconst 2)))) (tB 39 (tB 41 (tB 42 (tZ 42 (.iload_n 2)) (tZ 41 (.aload_n 0))) (tZ 39 (.istore 4))) (tB 38 (tZ 38 .isub) (tZ 36 (.bipush 8))))) (tB 30 (tB 32 (tB 33 (tB 35 (tZ 35 .iand) (tZ 33 (.bipush 15))) (tZ 32 .iaload)) (tB 31 (tZ 31 .iadd) (tZ 30 (.iconst 1)))) (tB 28 (tB 29 (tZ 29 (.iload_n 2)) (tZ 28 (.aload_n 0))) (tB 27 (tZ 27 (.istore_n 3)) (tZ 26 .iand))))) (tB 14 (tB 18 (tB 22 (tB 23 (tB 24 (tZ 24 (.bipush 7)) (tZ 23 .iaload)) (tZ 22 (.iload_n 2))) (tB 21 (tZ 21 (.aload_n 0)) (tL 18 (.if_icmp .ge 204) 222))) (tB 16 (tB 17 (tZ 17 .arraylength) (tZ 16 (.aload_n 0))) (tB 15 (tZ 15 .iadd) (tZ 14 (.iconst 2))))) (tB 7 (tB 11 (tB 12 (tB 13 (tZ 13 (.iload_n 2)) (tZ 12 (.istore_n 2))) (tZ 11 (.iconst 0))) (tB 10 (tZ 10 (.astore_n 1)) (tL 7 (.invokespecial 9) 1))) (tB 4 (tB 6 (tZ 6 (.iconst 4)) (tZ 4 (.bipush 12))) (tB 3 (tZ 3 .dup) (tZ 0 (.new 7)))))))))) p
set_option maxHeartbeats 4000000 in
def cd1 (p : Nat) : Option (Instr × Nat) := (tB 134 (tB 211 (tB 252 (tB 268 (tB 273 (tB 279 (tB 280 (tB 283 (tZ 283 .return_) (tL 280 (.invokevirtual 129) 3)) (tZ 279 (.aload_n 0))) (tB 276 (tL 276 (.putfield 126) 35) (tL 273 (.invokevirtual 119) 2))) (tB 270 (tB 271 (tZ 271 (.bipush 16)) (tZ 270 (.iconst 1))) (tB 269 (tZ 269 (.iload_n 2)) (tZ 268 (.aload_n 0))))) (tB 258 (tB 261 (tB 264 (tB 267 (tZ 267 (.aload_n 0)) (tL 264 (.putfield 123) 34)) (tL 261 (.invokevirtual 119) 2)) (tB 259 (tZ 259 (.bipush 64)) (tZ 258 (.iconst 1)))) (tB 256 (tB 257 (tZ 257 (.iload_n 1)) (tZ 256 (.aload_n 0))) (tB 255 (tZ 255 (.aload_n 0)) (tL 252 (.putfield 116) 33))))) (tB 232 (tB 241 (tB 246 (tB 247 (tB 250 (tZ 250 (.newarray .int)) (tZ 247 (.sipush 130))) (tZ 246 (.aload_n 0))) (tB 243 (tL 243 (.putfield 113) 32) (tZ 241 (.newarray .int)))) (tB 237 (tB 238 (tZ 238 (.sipush 130)) (tZ 237 (.aload_n 0))) (tB 234 (tL 234 (.putfield 110) 31) (tZ 232 (.newarray .int))))) (tB 220 (tB 225 (tB 228 (tB 229 (tZ 229 (.sipush 130)) (tZ 228 (.aload_n 0))) (tL 225 (.putfield 107) 30)) (tB 223 (tZ 223 (.newarray .int)) (tZ 220 (.sipush 130)))) (tB 216 (tB 219 (tZ 219 (.aload_n 0)) (tL 216 (.putfield 104) 29)) (tB 214 (tZ 214 (.newarray .byte)) (tZ 211 (.sipush 192))))))) (tB 171 (tB 192 (tB 201 (tB 205 (tB 207 (tB 210 (tZ 210 (.aload_n 0)) (tL 207 (.putfield 100) 28)) (tZ 205 (.newarray .long))) (tB 202 (tZ 202 (.sipush 192)) (tZ 201 (.aload_n 0)))) (tB 196 (tB 198 (tL 198 (.putfield 97) 27) (tZ 196 (.newarray .byte))) (tB 193 (tZ 193 (.sipush 256)) (tZ 192 (.aload_n 0))))) (tB 180 (tB 184 (tB 187 (tB 189 (tL 189 (.putfield 94) 26) (tZ 187 (.newarray .int))) (tZ 184 (.sipush 160))) (tB 183 (tZ 183 (.aload_n 0)) (tL 180 (.putfield 91) 25))) (tB 175 (tB 178 (tZ 178 (.newarray .int)) (tZ 175 (.sipush 160))) (tB 174 (tZ 174 (.aload_n 0)) (tL 171 (.putfield 88) 24))))) (tB 151 (tB 160 (tB 165 (tB 166 (tB 169 (tZ 169 (.newarray .int)) (tZ 166 (.sipush 160))) (tZ 165 (.aload_n 0))) (tB 162 (tL 162 (.putfield 85) 23) (tZ 160 (.newarray .int)))) (tB 156 (tB 157 (tZ 157 (.sipush 160)) (tZ 156 (.aload_n 0))) (tB 153 (tL 153 (.putfield 82) 22) (tZ 151 (.newarray .byte))))) (tB 142 (tB 147 (tB 148 (tZ 148 (.sipush 160)) (tZ 147 (.aload_n 0))) (tB 144 (tL 144 (.putfield 79) 21) (tZ 142 (.newarray .int)))) (tB 139 (tB 140 (tZ 140 (.bipush 64)) (tZ 139 (.aload_n 0))) (tB 136 (tL 136 (.putfield 76) 20) (tZ 134 (.newarray .int)))))))) (tB 65 (tB 99 (tB 116 (tB 124 (tB 128 (tB 131 (tB 132 (tZ 132 (.bipush 64)) (tZ 131 (.aload_n 0))) (tL 128 (.putfield 73) 19)) (tB 126 (tZ 126 (.newarray .int)) (tZ 124 (.bipush 65)))) (tB 120 (tB 123 (tZ 123 (.aload_n 0)) (tL 120 (.putfield 70) 18)) (tB 118 (tZ 118 (.newarray .int)) (tZ 116 (.bipush 65))))) (tB 107 (tB 110 (tB 112 (tB 115 (tZ 115 (.aload_n 0)) (tL 112 (.putfield 67) 17)) (tZ 110 (.newarray .byte))) (tB 108 (tZ 108 (.bipush 64)) (tZ 107 (.aload_n 0)))) (tB 102 (tB 104 (tL 104 (.putfield 64) 16) (tZ 102 (.newarray .int))) (tB 100 (tZ 100 (.bipush 64)) (tZ 99 (.aload_n 0)))))) (tB 80 (tB 88 (tB 92 (tB 94 (tB 96 (tL 96 (.putfield 60) 15) (tZ 94 (.newarray .byte))) (tZ 92 (.bipush 64))) (tB 91 (tZ 91 (.aload_n 0)) (tL 88 (.putfield 56) 14))) (tB 84 (tB 86 (tZ 86 (.newarray .int)) (tZ 84 (.bipush 64))) (tB 83 (tZ 83 (.aload_n 0)) (tL 80 (.putfield 53) 13)))) (tB 71 (tB 77 (tB 78 (tZ 78 (.ldc 52)) (tZ 77 (.aload_n 0))) (tB 74 (tL 74 (.putfield 48) 12) (tL 71 (.ldc2_w 46) 6))) (tB 67 (tB 70 (tZ 70 (.aload_n 0)) (tL 67 (.putfield 43) 11)) (tB 66 (tZ 66 (.iconst 3)) (tZ 65 (.aload_n 0))))))) (tB 29 (tB 47 (tB 53 (tB 59 (tB 60 (tB 62 (tL 62 (.putfield 40) 10) (tZ 60 (.bipush 64))) (tZ 59 (.aload_n 0))) (tB 56 (tL 56 (.putfield 37) 9) (tZ 53 (.sipush 256)))) (tB 49 (tB 52 (tZ 52 (.aload_n 0)) (tL 49 (.putfield 34) 8)) (tB 48 (tZ 48 (.iconst 4)) (tZ 47 (.aload_n 0))))) (tB 36 (tB 41 (tB 42 (tB 44 (tL 44 (.putfield 31) 7) (tZ 42 (.bipush 64))) (tZ 41 (.aload_n 0))) (tB 38 (tL 38 (.putfield 28) 6) (tZ 36 (.bipush 16)))) (tB 32 (tB 35 (tZ 35 (.aload_n 0)) (tL 32 (.putfield 25) 5)) (tB 30 (tZ 30 (.bipush 64)) (tZ 29 (.aload_n 0)))))) (tB 14 (tB 20 (tB 24 (tB 25 (tB 26 (tL 26 (.putfield 22) 4) (tZ 25 (.iconst 4))) (tZ 24 (.aload_n 0))) (tB 21 (tL 21 (.putfield 19) 3) (tZ 20 (.iconst 3)))) (tB 16 (tB 19 (tZ 19 (.aload_n 0)) (tL 16 (.putfield 16) 2)) (tB 15 (tZ 15 (.iconst 2)) (tZ 14 (.aload_n 0))))) (tB 6 (tB 10 (tB 11 (tL 11 (.putfield 13) 1) (tZ 10 (.iconst 1))) (tB 9 (tZ 9 (.aload_n 0)) (tZ 6 (.putfield 7)))) (tB 4 (tB 5 (tZ 5 (.iconst 0)) (tZ 4 (.aload_n 0))) (tB 1 (tZ 1 (.invokespecial 1)) (tZ 0 (.aload_n 0))))))))) p
set_option maxHeartbeats 4000000 in
def cd2 (p : Nat) : Option (Instr × Nat) := (tB 8 (tB 13 (tB 14 (tB 15 (tZ 15 .ireturn) (tZ 14 (.iload_n 1))) (tZ 13 .ireturn)) (tB 9 (tB 12 (tZ 12 (.iload_n 3)) (tL 9 (.if_icmp .le 5) 14)) (tZ 8 (.iload_n 3)))) (tB 5 (tB 6 (tB 7 (tZ 7 (.iload_n 1)) (tZ 6 .ireturn)) (tZ 5 (.iload_n 2))) (tB 1 (tB 2 (tL 2 (.if_icmp .ge 5) 7) (tZ 1 (.iload_n 2))) (tZ 0 (.iload_n 1))))) p
set_option maxHeartbeats 4000000 in
def cd3 (p : Nat) : Option (Instr × Nat) := (tB 30 (tB 45 (tB 52 (tB 56 (tB 57 (tB 60 (tZ 60 .return_) (tL 57 (.putfield 166) 47)) (tZ 56 (.iconst 0))) (tB 55 (tZ 55 (.aload_n 0)) (tL 52 (.putfield 163) 46))) (tB 47 (tB 50 (tB 51 (tZ 51 (.iconst 0)) (tZ 50 (.aload_n 0))) (tL 47 (.putfield 160) 45)) (tB 46 (tZ 46 (.iconst 0)) (tZ 45 (.aload_n 0))))) (tB 36 (tB 40 (tB 41 (tB 42 (tL 42 (.putfield 157) 44) (tZ 41 (.iconst 0))) (tZ 40 (.aload_n 0))) (tB 37 (tL 37 (.putfield 154) 43) (tZ 36 (.iconst 0)))) (tB 32 (tB 35 (tZ 35 (.aload_n 0)) (tL 32 (.putfield 151) 42)) (tB 31 (tZ 31 (.iconst 0)) (tZ 30 (.aload_n 0)))))) (tB 15 (tB 21 (tB 25 (tB 26 (tB 27 (tL 27 (.putfield 148) 41) (tZ 26 (.iconst 0))) (tZ 25 (.aload_n 0))) (tB 22 (tL 22 (.putfield 145) 40) (tZ 21 (.iconst 0)))) (tB 17 (tB 20 (tZ 20 (.aload_n 0)) (tL 17 (.putfield 142) 39)) (tB 16 (tZ 16 (.iconst 0)) (tZ 15 (.aload_n 0))))) (tB 6 (tB 10 (tB 11 (tB 12 (tL 12 (.putfield 138) 38) (tZ 11 (.iconst 0))) (tZ 10 (.aload_n 0))) (tB 7 (tL 7 (.putfield 135) 37) (tZ 6 (.iconst 0)))) (tB 2 (tB 5 (tZ 5 (.aload_n 0)) (tL 2 (.putfield 132) 36)) (tB 1 (tZ 1 (.iconst 0)) (tZ 0 (.aload_n 0))))))) p
set_option maxHeartbeats 4000000 in
def cd4 (p : Nat) : Option (Instr × Nat) := (tB 1 (tB 4 (tZ 4 .ireturn) (tL 1 (.getfield 132) 36)) (tZ 0 (.aload_n 0))) p
set_option maxHeartbeats 4000000 in
def cd5 (p : Nat) : Option (Instr × Nat) := (tB 1 (tB 4 (tZ 4 .ireturn) (tL 1 (.getfield 135) 37)) (tZ 0 (.aload_n 0))) p
set_option maxHeartbeats 4000000 in
def cd6 (p : Nat) : Option (Instr × Nat) := (tB 11 (tB 15 (tB 18 (tB 19 (tZ 19 .ireturn) (tZ 18 (.iconst 0))) (tL 15 (.goto 4) 19)) (tB 14 (tZ 14 (.iconst 1)) (tL 11 (.ifCond .ne 7) 18))) (tB 4 (tB 7 (tB 8 (tL 8 (.getfield 138) 38) (tZ 7 (.aload_n 0))) (tL 4 (.ifCond .eq 14) 18)) (tB 1 (tL 1 (.getfield 148) 41) (tZ 0 (.aload_n 0))))) p
set_option maxHeartbeats 4000000 in
def cd7 (p : Nat) : Option (Instr × Nat) := (tB 8 (tB 10 (tB 11 (tB 14 (tZ 14 .ireturn) (tL 11 (.invokevirtual 188) 28)) (tZ 10 (.iload_n 1))) (tB 9 (tZ 9 (.aload_n 0)) (tZ 8 .ireturn))) (tB 4 (tB 7 (tZ 7 (.iconst (-1))) (tL 4 (.ifCond .ne 5) 9)) (tB 1 (tL 1 (.getfield 148) 41) (tZ 0 (.aload_n 0))))) p
set_option maxHeartbeats 4000000 in
def cd8 (p : Nat) : Option (Instr × Nat) := (tB 11 (tB 16 (tB 20 (tB 21 (tZ 21 .ireturn) (tZ 20 .baload)) (tB 19 (tZ 19 (.iload_n 2)) (tL 16 (.getfield 60) 15))) (tB 14 (tB 15 (tZ 15 (.aload_n 0)) (tZ 14 .ireturn)) (tL 11 (.getfield 135) 37))) (tB 5 (tB 7 (tB 10 (tZ 10 (.aload_n 0)) (tL 7 (.ifCond .ge 8) 15)) (tB 6 (tZ 6 (.iload_n 2)) (tZ 5 (.istore_n 2)))) (tB 1 (tB 2 (tL 2 (.invokevirtual 173) 9) (tZ 1 (.iload_n 1))) (tZ 0 (.aload_n 0))))) p
set_option maxHeartbeats 4000000 in
def cd9 (p : Nat) : Option (Instr × Nat) := (tB 15 (tB 21 (tB 25 (tB 26 (tB 27 (tZ 27 .ireturn) (tZ 26 (.iconst (-1)))) (tZ 25 .ireturn)) (tB 24 (tZ 24 (.iload_n 2)) (tL 21 (.if_icmp .ne 5) 26))) (tB 19 (tB 20 (tZ 20 (.iload_n 1)) (tZ 19 .iaload)) (tB 18 (tZ 18 (.iload_n 2)) (tL 15 (.getfield 56) 14)))) (tB 6 (tB 8 (tB 11 (tB 14 (tZ 14 (.aload_n 0)) (tL 11 (.if_icmp .ge 15) 26)) (tL 8 (.getfield 132) 36)) (tB 7 (tZ 7 (.aload_n 0)) (tZ 6 (.iload_n 2)))) (tB 2 (tB 5 (tZ 5 (.istore_n 2)) (tL 2 (.invokevirtual 169) 10)) (tB 1 (tZ 1 (.iload_n 1)) (tZ 0 (.aload_n 0)))))) p
set_option maxHeartbeats 4000000 in
def cd10 (p : Nat) : Option (Instr × Nat) := (tB 27 (tB 43 (tB 50 (tB 54 (tB 57 (tB 58 (tZ 58 .ireturn) (tZ 57 (.iload_n 2))) (tL 54 (.goto (-44)) 10)) (tB 51 (tZ 51 (.iinc 4 1)) (tZ 50 (.istore_n 3)))) (tB 45 (tB 48 (tZ 48 (.iload 5)) (tL 45 (.goto 6) 51)) (tB 44 (tZ 44 (.istore_n 2)) (tZ 43 .iadd)))) (tB 35 (tB 37 (tB 40 (tB 42 (tZ 42 (.iconst 1)) (tZ 40 (.iload 5))) (tL 37 (.if_icmp .ge 11) 48)) (tB 36 (tZ 36 (.iload_n 1)) (tZ 35 .iaload))) (tB 30 (tB 33 (tZ 33 (.iload 5)) (tL 30 (.getfield 56) 14)) (tB 29 (tZ 29 (.aload_n 0)) (tZ 27 (.istore 5)))))) (tB 14 (tB 22 (tB 24 (tB 25 (tB 26 (tZ 26 .iushr) (tZ 25 (.iconst 1))) (tZ 24 .iadd)) (tB 23 (tZ 23 (.iload_n 3)) (tZ 22 (.iload_n 2)))) (tB 18 (tB 19 (tL 19 (.if_icmp .ge 38) 57) (tZ 18 (.iload_n 3))) (tB 17 (tZ 17 (.iload_n 2)) (tL 14 (.if_icmp .ge 43) 57)))) (tB 6 (tB 8 (tB 10 (tB 12 (tZ 12 (.bipush 16)) (tZ 10 (.iload 4))) (tZ 8 (.istore 4))) (tB 7 (tZ 7 (.iconst 0)) (tZ 6 (.istore_n 3)))) (tB 2 (tB 3 (tL 3 (.getfield 132) 36) (tZ 2 (.aload_n 0))) (tB 1 (tZ 1 (.istore_n 2)) (tZ 0 (.iconst 0))))))) p
set_option maxHeartbeats 4000000 in
def cd11 (p : Nat) : Option (Instr × Nat) := (tB 71 (tB 104 (tB 118 (tB 125 (tB 130 (tB 133 (tB 134 (tZ 134 .ireturn) (tZ 133 (.iconst 0))) (tL 130 (.putfield 138) 38)) (tB 128 (tB 129 (tZ 129 (.iconst 1)) (tZ 128 (.aload_n 0))) (tL 125 (.putfield 132) 36))) (tB 120 (tB 123 (tB 124 (tZ 124 .iadd) (tZ 123 (.iconst 1))) (tL 120 (.getfield 132) 36)) (tB 119 (tZ 119 .dup) (tZ 118 (.aload_n 0))))) (tB 111 (tB 115 (tB 116 (tB 117 (tZ 117 .bastore) (tZ 116 .i2b)) (tZ 115 (.iload_n 2))) (tB 114 (tZ 114 (.iload_n 3)) (tL 111 (.getfield 60) 15))) (tB 108 (tB 109 (tB 110 (tZ 110 (.aload_n 0)) (tZ 109 .iastore)) (tZ 108 (.iload_n 1))) (tB 107 (tZ 107 (.iload_n 3)) (tL 104 (.getfield 56) 14))))) (tB 87 (tB 95 (tB 97 (tB 100 (tB 103 (tZ 103 (.aload_n 0)) (tL 100 (.goto (-41)) 59)) (tZ 97 (.iinc 4 (-1)))) (tB 96 (tZ 96 .bastore) (tZ 95 .baload))) (tB 91 (tB 93 (tB 94 (tZ 94 .isub) (tZ 93 (.iconst 1))) (tZ 91 (.iload 4))) (tB 88 (tL 88 (.getfield 60) 15) (tZ 87 (.aload_n 0))))) (tB 79 (tB 81 (tB 82 (tB 85 (tZ 85 (.iload 4)) (tL 82 (.getfield 60) 15)) (tZ 81 (.aload_n 0))) (tB 80 (tZ 80 .iastore) (tZ 79 .iaload))) (tB 75 (tB 77 (tB 78 (tZ 78 .isub) (tZ 77 (.iconst 1))) (tZ 75 (.iload 4))) (tB 72 (tL 72 (.getfield 56) 14) (tZ 71 (.aload_n 0))))))) (tB 34 (tB 52 (tB 61 (tB 65 (tB 66 (tB 69 (tZ 69 (.iload 4)) (tL 66 (.getfield 56) 14)) (tZ 65 (.aload_n 0))) (tB 62 (tL 62 (.if_icmp .le 41) 103) (tZ 61 (.iload_n 3)))) (tB 54 (tB 57 (tB 59 (tZ 59 (.iload 4)) (tZ 57 (.istore 4))) (tL 54 (.getfield 132) 36)) (tB 53 (tZ 53 (.aload_n 0)) (tZ 52 .ireturn)))) (tB 41 (tB 45 (tB 48 (tB 51 (tZ 51 (.iconst 1)) (tL 48 (.if_icmp .lt 5) 53)) (tL 45 (.getfield 123) 34)) (tB 44 (tZ 44 (.aload_n 0)) (tL 41 (.getfield 132) 36))) (tB 38 (tB 39 (tB 40 (tZ 40 (.aload_n 0)) (tZ 39 .ireturn)) (tZ 38 (.iconst 2))) (tB 35 (tL 35 (.if_icmp .ne 5) 40) (tZ 34 (.iload_n 1)))))) (tB 16 (tB 25 (tB 29 (tB 32 (tB 33 (tZ 33 .iaload) (tZ 32 (.iload_n 3))) (tL 29 (.getfield 56) 14)) (tB 28 (tZ 28 (.aload_n 0)) (tL 25 (.if_icmp .ge 15) 40))) (tB 20 (tB 21 (tB 22 (tL 22 (.getfield 132) 36) (tZ 21 (.aload_n 0))) (tZ 20 (.iload_n 3))) (tB 19 (tZ 19 (.istore_n 3)) (tL 16 (.invokevirtual 169) 10)))) (tB 9 (tB 13 (tB 14 (tB 15 (tZ 15 (.iload_n 1)) (tZ 14 (.aload_n 0))) (tZ 13 .ireturn)) (tB 12 (tZ 12 (.iconst 3)) (tL 9 (.if_icmp .lt 5) 14))) (tB 4 (tB 5 (tB 6 (tL 6 (.getfield 126) 35) (tZ 5 (.aload_n 0))) (tZ 4 (.iload_n 2))) (tB 1 (tL 1 (.ifCond .lt 11) 12) (tZ 0 (.iload_n 2)))))))) p
set_option maxHeartbeats 4000000 in
def cd12 (p : Nat) : Option (Instr × Nat) := (tB 9 (tB 16 (tB 17 (tB 20 (tZ 20 .ireturn) (tL 17 (.getfield 142) 39)) (tZ 16 (.aload_n 0))) (tB 12 (tB 13 (tL 13 (.invokevirtual 185) 17) (tZ 12 (.aload_n 0))) (tL 9 (.invokevirtual 182) 16))) (tB 4 (tB 5 (tB 8 (tZ 8 (.aload_n 0)) (tL 5 (.invokevirtual 179) 14)) (tZ 4 (.aload_n 0))) (tB 1 (tL 1 (.invokevirtual 176) 13) (tZ 0 (.aload_n 0))))) p
set_option maxHeartbeats 4000000 in
def cd13 (p : Nat) : Option (Instr × Nat) := (tB 35 (tB 49 (tB 58 (tB 62 (tB 63 (tB 66 (tZ 66 .return_) (tL 63 (.putfield 138) 38)) (tZ 62 (.iconst 0))) (tB 61 (tZ 61 (.aload_n 0)) (tL 58 (.putfield 148) 41))) (tB 53 (tB 56 (tB 57 (tZ 57 (.iconst 1)) (tZ 56 (.aload_n 0))) (tL 53 (.goto (-35)) 18)) (tB 50 (tZ 50 (.iinc 1 1)) (tZ 49 .bastore)))) (tB 42 (tB 44 (tB 47 (tB 48 (tZ 48 .baload) (tZ 47 (.iload_n 1))) (tL 44 (.getfield 60) 15)) (tB 43 (tZ 43 (.aload_n 0)) (tZ 42 (.iload_n 1)))) (tB 37 (tB 38 (tB 39 (tL 39 (.getfield 67) 17) (tZ 38 (.aload_n 0))) (tZ 37 .iastore)) (tB 36 (tZ 36 .iaload) (tZ 35 (.iload_n 1)))))) (tB 17 (tB 26 (tB 30 (tB 31 (tB 32 (tL 32 (.getfield 56) 14) (tZ 31 (.aload_n 0))) (tZ 30 (.iload_n 1))) (tB 27 (tL 27 (.getfield 64) 16) (tZ 26 (.aload_n 0)))) (tB 19 (tB 20 (tB 23 (tL 23 (.if_icmp .ge 33) 56) (tL 20 (.getfield 132) 36)) (tZ 19 (.aload_n 0))) (tB 18 (tZ 18 (.iload_n 1)) (tZ 17 (.istore_n 1))))) (tB 8 (tB 10 (tB 13 (tB 16 (tZ 16 (.iconst 0)) (tL 13 (.putfield 145) 40)) (tL 10 (.getfield 135) 37)) (tB 9 (tZ 9 (.aload_n 0)) (tZ 8 (.aload_n 0)))) (tB 2 (tB 5 (tL 5 (.putfield 142) 39) (tL 2 (.getfield 132) 36)) (tB 1 (tZ 1 (.aload_n 0)) (tZ 0 (.aload_n 0))))))) p
set_option maxHeartbeats 4000000 in
def cd14 (p : Nat) : Option (Instr × Nat) := (tB 99 (tB 154 (tB 178 (tB 189 (tB 194 (tB 200 (tB 203 (tB 206 (tZ 206 .return_) (tL 203 (.goto (-189)) 14)) (tZ 200 (.iinc 2 1))) (tB 197 (tL 197 (.goto (-145)) 52) (tZ 194 (.iinc 5 (-1))))) (tB 191 (tB 193 (tZ 193 .iastore) (tZ 191 (.iload 5))) (tB 190 (tZ 190 .iadd) (tZ 189 (.iconst 1))))) (tB 183 (tB 185 (tB 188 (tZ 188 (.iload_n 2)) (tL 185 (.getfield 73) 19)) (tB 184 (tZ 184 (.aload_n 0)) (tZ 183 .iastore))) (tB 181 (tB 182 (tZ 182 .iadd) (tZ 181 (.iconst 1))) (tB 180 (tZ 180 .iaload) (tZ 178 (.iload 5)))))) (tB 164 (tB 172 (tB 174 (tB 175 (tL 175 (.getfield 70) 18) (tZ 174 (.aload_n 0))) (tB 173 (tZ 173 .iadd) (tZ 172 (.iconst 1)))) (tB 168 (tB 171 (tZ 171 (.iload_n 2)) (tL 168 (.getfield 70) 18)) (tB 167 (tZ 167 (.aload_n 0)) (tL 164 (.if_icmp .ge 30) 194)))) (tB 160 (tB 162 (tB 163 (tZ 163 .iaload) (tZ 162 .iadd)) (tB 161 (tZ 161 (.iconst 1)) (tZ 160 (.iload_n 2)))) (tB 156 (tB 157 (tL 157 (.getfield 70) 18) (tZ 156 (.aload_n 0))) (tB 155 (tZ 155 .iadd) (tZ 154 (.iconst 1))))))) (tB 126 (tB 137 (tB 147 (tB 151 (tB 153 (tZ 153 .iaload) (tZ 151 (.iload 5))) (tB 148 (tL 148 (.getfield 70) 18) (tZ 147 (.aload_n 0)))) (tB 142 (tB 144 (tL 144 (.ifCond .eq 50) 194) (tZ 142 (.iload 9))) (tB 140 (tZ 140 (.istore 9)) (tL 137 (.invokevirtual 207) 15)))) (tB 132 (tB 134 (tB 135 (tZ 135 (.iload 4)) (tZ 134 .iadd)) (tB 133 (tZ 133 (.iconst 1)) (tZ 132 .isub))) (tB 129 (tB 130 (tZ 130 (.iload 5)) (tZ 129 (.iload_n 2))) (tB 127 (tZ 127 (.lload 7)) (tZ 126 (.aload_n 0)))))) (tB 110 (tB 116 (tB 120 (tB 123 (tL 123 (.goto 77) 200) (tL 120 (.ifCond .le 6) 126)) (tB 119 (tZ 119 .lcmp) (tL 116 (.ldc2_w 205) 7))) (tB 112 (tB 114 (tZ 114 (.lload 7)) (tZ 112 (.lstore 7))) (tB 111 (tZ 111 .ladd) (tZ 110 (.lconst 1))))) (tB 105 (tB 108 (tB 109 (tZ 109 .lsub) (tZ 108 .i2l)) (tB 107 (tZ 107 .iaload) (tZ 105 (.iload 5)))) (tB 101 (tB 102 (tL 102 (.getfield 64) 16) (tZ 101 (.aload_n 0))) (tB 100 (tZ 100 .i2l) (tZ 99 .iaload))))))) (tB 44 (tB 72 (tB 85 (tB 90 (tB 94 (tB 95 (tB 98 (tZ 98 (.iload_n 2)) (tL 95 (.getfield 64) 16)) (tZ 94 (.aload_n 0))) (tB 91 (tZ 91 (.iinc 4 1)) (tZ 90 (.istore_n 3)))) (tB 88 (tB 89 (tZ 89 .ior) (tZ 88 .ishl)) (tB 86 (tZ 86 (.iload 6)) (tZ 85 (.iconst 1))))) (tB 79 (tB 81 (tB 84 (tZ 84 (.iload_n 3)) (tL 81 (.ifCond .ne 13) 94)) (tB 80 (tZ 80 .iand) (tZ 79 .ishl))) (tB 76 (tB 77 (tZ 77 (.iload 6)) (tZ 76 (.iconst 1))) (tB 75 (tZ 75 (.iload_n 3)) (tL 72 (.if_icmp .eq 22) 94))))) (tB 57 (tB 64 (tB 68 (tB 69 (tL 69 (.getfield 145) 40) (tZ 68 (.aload_n 0))) (tB 66 (tZ 66 (.iload 6)) (tZ 64 (.istore 6)))) (tB 61 (tB 63 (tZ 63 .baload) (tZ 61 (.iload 5))) (tB 58 (tL 58 (.getfield 67) 17) (tZ 57 (.aload_n 0))))) (tB 49 (tB 52 (tB 54 (tL 54 (.ifCond .lt 146) 200) (tZ 52 (.iload 5))) (tB 50 (tZ 50 (.istore 5)) (tZ 49 (.iload_n 2)))) (tB 46 (tB 47 (tZ 47 (.istore 4)) (tZ 46 (.iconst 0))) (tB 45 (tZ 45 (.istore_n 3)) (tZ 44 (.iconst 0))))))) (tB 24 (tB 34 (tB 40 (tB 42 (tB 43 (tZ 43 .iastore) (tZ 42 (.iload_n 2))) (tB 41 (tZ 41 .iadd) (tZ 40 (.iconst 1)))) (tB 36 (tB 39 (tZ 39 (.iload_n 2)) (tL 36 (.getfield 73) 19)) (tB 35 (tZ 35 (.aload_n 0)) (tZ 34 .iastore)))) (tB 30 (tB 32 (tB 33 (tZ 33 .iadd) (tZ 32 (.iconst 1))) (tB 31 (tZ 31 .iaload) (tZ 30 (.iload_n 2)))) (tB 26 (tB 27 (tL 27 (.getfield 70) 18) (tZ 26 (.aload_n 0))) (tB 25 (tZ 25 .iadd) (tZ 24 (.iconst 1)))))) (tB 12 (tB 16 (tB 20 (tB 23 (tZ 23 (.iload_n 2)) (tL 20 (.getfield 70) 18)) (tB 19 (tZ 19 (.aload_n 0)) (tL 16 (.if_icmp .ge 190) 206))) (tB 14 (tB 15 (tZ 15 (.iload_n 1)) (tZ 14 (.iload_n 2))) (tB 13 (tZ 13 (.istore_n 2)) (tZ 12 (.iconst 0))))) (tB 6 (tB 10 (tB 11 (tZ 11 .iastore) (tZ 10 (.iconst 0))) (tB 9 (tZ 9 (.iconst 0)) (tL 6 (.getfield 70) 18))) (tB 4 (tB 5 (tZ 5 (.aload_n 0)) (tZ 4 (.istore_n 1))) (tB 1 (tL 1 (.getfield 142) 39) (tZ 0 (.aload_n 0))))))))) p
set_option maxHeartbeats 4000000 in
def cd15 (p : Nat) : Option (Instr × Nat) := (tB 29 (tB 44 (tB 53 (tB 57 (tB 60 (tB 61 (tZ 61 .ireturn) (tZ 60 (.iconst 0))) (tL 57 (.goto 4) 61)) (tB 56 (tZ 56 (.iconst 1)) (tL 53 (.ifCond .eq 7) 60))) (tB 48 (tB 51 (tZ 51 (.iload 6)) (tL 48 (.ifCond .ne 8) 56)) (tB 46 (tZ 46 (.iload 5)) (tZ 44 (.istore 6))))) (tB 35 (tB 39 (tB 40 (tB 43 (tZ 43 (.iconst 0)) (tL 40 (.goto 4) 44)) (tZ 39 (.iconst 1))) (tB 36 (tL 36 (.ifCond .gt 7) 43) (tZ 35 .lcmp))) (tB 33 (tB 34 (tZ 34 .lmul) (tZ 33 .i2l)) (tB 32 (tZ 32 (.iload_n 3)) (tL 29 (.ldc2_w 213) 9))))) (tB 12 (tB 21 (tB 25 (tB 26 (tB 28 (tZ 28 (.lload_n 1)) (tZ 26 (.istore 5))) (tZ 25 (.iconst 0))) (tB 22 (tL 22 (.goto 4) 26) (tZ 21 (.iconst 1)))) (tB 17 (tB 18 (tL 18 (.if_icmp .gt 7) 25) (tZ 17 (.iconst 3))) (tB 15 (tZ 15 (.iload 4)) (tL 12 (.ifCond .gt 13) 25)))) (tB 6 (tB 8 (tB 11 (tZ 11 .lcmp) (tL 8 (.ldc2_w 211) 8)) (tB 7 (tZ 7 (.lload_n 1)) (tZ 6 .ireturn))) (tB 2 (tB 5 (tZ 5 (.iconst 0)) (tL 2 (.if_icmp .ge 5) 7)) (tB 1 (tZ 1 (.iconst 2)) (tZ 0 (.iload_n 3))))))) p
set_option maxHeartbeats 4000000 in
def cd16 (p : Nat) : Option (Instr × Nat) := (tB 41 (tB 69 (tB 77 (tB 81 (tB 85 (tB 88 (tZ 88 .return_) (tL 85 (.goto (-63)) 22)) (tB 82 (tZ 82 (.iinc 4 1)) (tZ 81 (.istore_n 3)))) (tB 78 (tB 79 (tZ 79 (.iload 5)) (tZ 78 .iastore)) (tZ 77 .isub))) (tB 74 (tB 75 (tB 76 (tZ 76 (.iconst 1)) (tZ 75 (.iload_n 3))) (tZ 74 (.iload_n 2))) (tB 70 (tB 71 (tL 71 (.getfield 79) 21) (tZ 70 (.aload_n 0))) (tZ 69 .iastore)))) (tB 55 (tB 62 (tB 66 (tB 67 (tZ 67 (.iload 5)) (tZ 66 (.iload_n 2))) (tB 63 (tL 63 (.getfield 76) 20) (tZ 62 (.aload_n 0)))) (tB 56 (tB 59 (tL 59 (.goto 29) 88) (tL 56 (.if_icmp .lt 6) 62)) (tZ 55 (.iload_n 3)))) (tB 48 (tB 50 (tB 53 (tZ 53 (.iload 5)) (tL 50 (.ifCond .lt 38) 88)) (tZ 48 (.iload 5))) (tB 44 (tB 45 (tL 45 (.ifCond .lt 43) 88) (tZ 44 (.iload_n 2))) (tZ 41 (.iinc 2 (-1))))))) (tB 18 (tB 29 (tB 34 (tB 38 (tB 39 (tZ 39 (.istore 5)) (tZ 38 .iaload)) (tB 37 (tZ 37 (.iload_n 3)) (tL 34 (.getfield 73) 19))) (tB 30 (tB 33 (tZ 33 (.aload_n 0)) (tL 30 (.ifCond .le 58) 88)) (tZ 29 (.iload_n 3)))) (tB 22 (tB 24 (tB 26 (tL 26 (.if_icmp .ge 62) 88) (tZ 24 (.bipush 65))) (tZ 22 (.iload 4))) (tB 19 (tB 20 (tZ 20 (.istore 4)) (tZ 19 (.iconst 0))) (tZ 18 (.istore_n 3))))) (tB 10 (tB 13 (tB 14 (tB 17 (tZ 17 (.iload_n 1)) (tL 14 (.putfield 151) 42)) (tZ 13 (.iload_n 2))) (tB 11 (tB 12 (tZ 12 (.aload_n 0)) (tZ 11 (.istore_n 2))) (tZ 10 .iaload))) (tB 5 (tB 6 (tB 9 (tZ 9 (.iload_n 1)) (tL 6 (.getfield 70) 18)) (tZ 5 (.aload_n 0))) (tB 1 (tB 4 (tZ 4 (.istore_n 1)) (tL 1 (.getfield 142) 39)) (tZ 0 (.aload_n 0))))))) p
set_option maxHeartbeats 4000000 in
def cd17 (p : Nat) : Option (Instr × Nat) := (tB 104 (tB 157 (tB 181 (tB 193 (tB 200 (tB 206 (tB 209 (tZ 209 .return_) (tL 206 (.goto (-147)) 59)) (tB 203 (tZ 203 (.iinc 1 1)) (tL 200 (.invokevirtual 229) 24))) (tB 196 (tB 198 (tZ 198 (.iload 6)) (tZ 196 (.iload 5))) (tB 194 (tZ 194 (.iload 4)) (tZ 193 (.aload_n 0))))) (tB 186 (tB 189 (tB 190 (tL 190 (.invokevirtual 219) 19) (tZ 189 (.iconst 0))) (tB 187 (tZ 187 (.iload 6)) (tZ 186 .isub))) (tB 183 (tB 185 (tZ 185 (.iconst 1)) (tZ 183 (.iload 7))) (tB 182 (tZ 182 (.iload_n 2)) (tZ 181 (.aload_n 0)))))) (tB 166 (tB 174 (tB 177 (tB 178 (tL 178 (.invokevirtual 219) 19) (tZ 177 (.iconst 1))) (tB 175 (tZ 175 (.iload 6)) (tZ 174 (.iload_n 3)))) (tB 171 (tB 172 (tZ 172 (.iload 7)) (tZ 171 (.aload_n 0))) (tB 169 (tZ 169 (.istore 6)) (tL 166 (.invokevirtual 215) 18)))) (tB 161 (tB 164 (tB 165 (tZ 165 (.iconst 0)) (tZ 164 (.iconst 0))) (tB 163 (tZ 163 (.iconst 0)) (tZ 161 (.iload 8)))) (tB 159 (tB 160 (tZ 160 (.iconst 1)) (tZ 159 (.aload_n 0))) (tZ 157 (.istore 8)))))) (tB 129 (tB 144 (tB 148 (tB 151 (tB 152 (tZ 152 (.iload 7)) (tZ 151 (.aload_n 0))) (tB 149 (tZ 149 (.istore 7)) (tZ 148 .iushr))) (tB 146 (tB 147 (tZ 147 (.iconst 1)) (tZ 146 .iadd)) (tB 145 (tZ 145 (.iconst 1)) (tZ 144 .iadd)))) (tB 137 (tB 142 (tB 143 (tZ 143 (.iload_n 3)) (tZ 142 (.iload_n 2))) (tB 139 (tL 139 (.goto 54) 193) (tZ 137 (.istore 6)))) (tB 133 (tB 134 (tL 134 (.invokevirtual 223) 20) (tZ 133 (.iload_n 2))) (tB 132 (tZ 132 (.aload_n 0)) (tL 129 (.if_icmp .lt 13) 142))))) (tB 116 (tB 124 (tB 127 (tB 128 (tZ 128 (.iload_n 3)) (tZ 127 (.iload_n 2))) (tB 125 (tZ 125 (.istore 5)) (tZ 124 .iaload))) (tB 120 (tB 121 (tL 121 (.getfield 166) 47) (tZ 120 (.aload_n 0))) (tB 117 (tL 117 (.getfield 116) 33) (tZ 116 (.aload_n 0))))) (tB 109 (tB 113 (tB 114 (tZ 114 (.istore 4)) (tZ 113 .iaload)) (tB 110 (tL 110 (.getfield 166) 47) (tZ 109 (.aload_n 0)))) (tB 105 (tB 106 (tL 106 (.getfield 113) 32) (tZ 105 (.aload_n 0))) (tZ 104 (.istore_n 3))))))) (tB 51 (tB 76 (tB 90 (tB 96 (tB 100 (tB 103 (tZ 103 .iaload) (tL 100 (.getfield 166) 47)) (tB 99 (tZ 99 (.aload_n 0)) (tL 96 (.getfield 110) 31))) (tB 94 (tB 95 (tZ 95 (.aload_n 0)) (tZ 94 (.istore_n 2))) (tB 93 (tZ 93 .iaload) (tL 90 (.getfield 166) 47)))) (tB 82 (tB 86 (tB 89 (tZ 89 (.aload_n 0)) (tL 86 (.getfield 107) 30)) (tB 85 (tZ 85 (.aload_n 0)) (tL 82 (.putfield 166) 47))) (tB 80 (tB 81 (tZ 81 .isub) (tZ 80 (.iconst 1))) (tB 77 (tL 77 (.getfield 166) 47) (tZ 76 .dup))))) (tB 60 (tB 68 (tB 72 (tB 75 (tZ 75 (.aload_n 0)) (tL 72 (.ifCond .le 137) 209)) (tB 69 (tL 69 (.getfield 166) 47) (tZ 68 (.aload_n 0)))) (tB 64 (tB 65 (tL 65 (.if_icmp .ge 144) 209) (tZ 64 .arraylength)) (tB 61 (tL 61 (.getfield 82) 22) (tZ 60 (.aload_n 0))))) (tB 54 (tB 58 (tB 59 (tZ 59 (.iload_n 1)) (tZ 58 (.istore_n 1))) (tB 57 (tZ 57 (.iconst 0)) (tL 54 (.invokevirtual 219) 19))) (tB 52 (tB 53 (tZ 53 (.iconst 0)) (tZ 52 (.iconst (-1)))) (tZ 51 .isub))))) (tB 23 (tB 37 (tB 45 (tB 47 (tB 50 (tZ 50 (.iconst 1)) (tL 47 (.getfield 151) 42)) (tB 46 (tZ 46 (.aload_n 0)) (tZ 45 (.iconst 0)))) (tB 43 (tB 44 (tZ 44 (.aload_n 0)) (tZ 43 .return_)) (tB 40 (tL 40 (.ifCond .gt 4) 44) (tL 37 (.getfield 151) 42)))) (tB 29 (tB 33 (tB 36 (tZ 36 (.aload_n 0)) (tL 33 (.putfield 157) 44)) (tB 30 (tL 30 (.invokevirtual 215) 18) (tZ 29 (.iconst 0)))) (tB 27 (tB 28 (tZ 28 (.iconst 0)) (tZ 27 (.iconst 0))) (tB 24 (tL 24 (.getfield 145) 40) (tZ 23 (.aload_n 0)))))) (tB 11 (tB 17 (tB 21 (tB 22 (tZ 22 (.iconst 0)) (tZ 21 (.aload_n 0))) (tB 20 (tZ 20 (.aload_n 0)) (tL 17 (.putfield 166) 47))) (tB 15 (tB 16 (tZ 16 (.iconst 0)) (tZ 15 (.aload_n 0))) (tB 12 (tL 12 (.putfield 163) 46) (tZ 11 (.iconst 0))))) (tB 5 (tB 7 (tB 10 (tZ 10 (.aload_n 0)) (tL 7 (.putfield 160) 45)) (tB 6 (tZ 6 (.iconst 0)) (tZ 5 (.aload_n 0)))) (tB 1 (tB 2 (tL 2 (.putfield 154) 43) (tZ 1 (.iconst 0))) (tZ 0 (.aload_n 0)))))))) p
set_option maxHeartbeats 4000000 in
def cd18 (p : Nat) : Option (Instr × Nat) := (tB 39 (tB 57 (tB 67 (tB 71 (tB 74 (tB 76 (tZ 76 .ireturn) (tZ 74 (.iload 6))) (tL 71 (.putfield 154) 43)) (tB 69 (tB 70 (tZ 70 .iadd) (tZ 69 (.iconst 1))) (tZ 67 (.iload 6)))) (tB 63 (tB 65 (tB 66 (tZ 66 (.aload_n 0)) (tZ 65 .iastore)) (tZ 63 (.iload 5))) (tB 58 (tB 61 (tZ 61 (.iload 6)) (tL 58 (.getfield 94) 26)) (tZ 57 (.aload_n 0))))) (tB 47 (tB 52 (tB 54 (tB 56 (tZ 56 .iastore) (tZ 54 (.iload 4))) (tZ 52 (.iload 6))) (tB 48 (tB 49 (tL 49 (.getfield 91) 25) (tZ 48 (.aload_n 0))) (tZ 47 .iastore))) (tB 41 (tB 44 (tB 46 (tZ 46 (.iload_n 3)) (tZ 44 (.iload 6))) (tL 41 (.getfield 88) 24)) (tB 40 (tZ 40 (.aload_n 0)) (tZ 39 .iastore))))) (tB 22 (tB 30 (tB 33 (tB 36 (tB 38 (tZ 38 (.iload_n 2)) (tZ 36 (.iload 6))) (tL 33 (.getfield 85) 23)) (tB 31 (tB 32 (tZ 32 (.aload_n 0)) (tZ 31 .bastore)) (tZ 30 .i2b))) (tB 24 (tB 27 (tB 29 (tZ 29 (.iload_n 1)) (tZ 27 (.iload 6))) (tL 24 (.getfield 82) 22)) (tB 23 (tZ 23 (.aload_n 0)) (tZ 22 .ireturn)))) (tB 11 (tB 17 (tB 18 (tB 21 (tZ 21 (.iconst 0)) (tL 18 (.if_icmp .lt 5) 23)) (tZ 17 .arraylength)) (tB 13 (tB 14 (tL 14 (.getfield 82) 22) (tZ 13 (.aload_n 0))) (tZ 11 (.iload 6)))) (tB 4 (tB 6 (tB 8 (tL 8 (.ifCond .lt 13) 21) (tZ 6 (.iload 6))) (tZ 4 (.istore 6))) (tB 1 (tL 1 (.getfield 154) 43) (tZ 0 (.aload_n 0))))))) p
set_option maxHeartbeats 4000000 in
def cd19 (p : Nat) : Option (Instr × Nat) := (tB 38 (tB 54 (tB 62 (tB 67 (tB 68 (tB 71 (tZ 71 .return_) (tL 68 (.putfield 166) 47)) (tZ 67 .iadd)) (tB 63 (tB 66 (tZ 66 (.iconst 1)) (tL 63 (.getfield 166) 47)) (tZ 62 .dup))) (tB 58 (tB 60 (tB 61 (tZ 61 (.aload_n 0)) (tZ 60 .iastore)) (tZ 58 (.iload 4))) (tB 55 (tL 55 (.getfield 166) 47) (tZ 54 (.aload_n 0))))) (tB 45 (tB 49 (tB 50 (tB 51 (tL 51 (.getfield 116) 33) (tZ 50 (.aload_n 0))) (tZ 49 .iastore)) (tB 48 (tZ 48 (.iload_n 3)) (tL 45 (.getfield 166) 47))) (tB 40 (tB 41 (tB 44 (tZ 44 (.aload_n 0)) (tL 41 (.getfield 113) 32)) (tZ 40 (.aload_n 0))) (tB 39 (tZ 39 .iastore) (tZ 38 (.iload_n 2)))))) (tB 20 (tB 29 (tB 31 (tB 34 (tB 35 (tL 35 (.getfield 166) 47) (tZ 34 (.aload_n 0))) (tL 31 (.getfield 110) 31)) (tB 30 (tZ 30 (.aload_n 0)) (tZ 29 .iastore))) (tB 24 (tB 25 (tB 28 (tZ 28 (.iload_n 1)) (tL 25 (.getfield 166) 47)) (tZ 24 (.aload_n 0))) (tB 21 (tL 21 (.getfield 107) 30) (tZ 20 (.aload_n 0))))) (tB 11 (tB 15 (tB 16 (tB 19 (tZ 19 .return_) (tL 16 (.if_icmp .lt 4) 20)) (tZ 15 .arraylength)) (tB 12 (tL 12 (.getfield 107) 30) (tZ 11 (.aload_n 0)))) (tB 4 (tB 7 (tB 8 (tL 8 (.getfield 166) 47) (tZ 7 (.aload_n 0))) (tL 4 (.ifCond .lt 15) 19)) (tB 1 (tL 1 (.getfield 166) 47) (tZ 0 (.aload_n 0))))))) p
set_option maxHeartbeats 4000000 in
def cd20 (p : Nat) : Option (Instr × Nat) := (tB 66 (tB 94 (tB 116 (tB 124 (tB 127 (tB 129 (tB 133 (tZ 133 .ireturn) (tZ 129 .l2i)) (tZ 127 (.lload 4))) (tB 125 (tB 126 (tZ 126 (.iload_n 3)) (tZ 125 (.iload_n 2))) (tZ 124 (.aload_n 0)))) (tB 119 (tB 120 (tB 123 (tZ 123 .ireturn) (tL 120 (.invokevirtual 237) 22)) (tZ 119 .l2i)) (tB 117 (tZ 117 (.lload 4)) (tZ 116 (.iload_n 3))))) (tB 105 (tB 111 (tB 114 (tB 115 (tZ 115 (.iload_n 2)) (tZ 114 (.aload_n 0))) (tL 111 (.if_icmp .gt 13) 124)) (tB 108 (tB 110 (tZ 110 (.iconst 3)) (tZ 108 (.iload 6))) (tL 105 (.ifCond .gt 19) 124))) (tB 99 (tB 101 (tB 104 (tZ 104 .lcmp) (tL 101 (.ldc2_w 211) 8)) (tZ 99 (.lload 4))) (tB 97 (tZ 97 (.istore 6)) (tL 94 (.invokevirtual 233) 21))))) (tB 80 (tB 87 (tB 91 (tB 92 (tB 93 (tZ 93 (.iload_n 3)) (tZ 92 (.iload_n 2))) (tZ 91 (.aload_n 0))) (tB 88 (tB 89 (tZ 89 (.lstore 4)) (tZ 88 .ladd)) (tZ 87 (.lconst 1)))) (tB 84 (tB 85 (tB 86 (tZ 86 .lsub) (tZ 85 .i2l)) (tZ 84 .iaload)) (tB 83 (tZ 83 (.iload_n 2)) (tL 80 (.getfield 64) 16)))) (tB 73 (tB 77 (tB 78 (tB 79 (tZ 79 (.aload_n 0)) (tZ 78 .i2l)) (tZ 77 .iaload)) (tB 76 (tZ 76 (.iload_n 3)) (tL 73 (.getfield 64) 16))) (tB 68 (tB 71 (tB 72 (tZ 72 (.aload_n 0)) (tZ 71 .ireturn)) (tL 68 (.invokevirtual 215) 18)) (tB 67 (tZ 67 (.iconst 0)) (tZ 66 (.iconst 0))))))) (tB 33 (tB 49 (tB 58 (tB 61 (tB 64 (tB 65 (tZ 65 .baload) (tZ 64 (.iload_n 2))) (tL 61 (.getfield 67) 17)) (tB 59 (tB 60 (tZ 60 (.aload_n 0)) (tZ 59 .iaload)) (tZ 58 (.iload_n 2)))) (tB 53 (tB 54 (tB 55 (tL 55 (.getfield 64) 16) (tZ 54 (.aload_n 0))) (tZ 53 (.iconst 2))) (tB 52 (tZ 52 (.aload_n 0)) (tL 49 (.if_icmp .ne 23) 72)))) (tB 42 (tB 46 (tB 47 (tB 48 (tZ 48 (.iload_n 3)) (tZ 47 (.iload_n 2))) (tZ 46 .ireturn)) (tB 45 (tZ 45 (.iconst 0)) (tL 42 (.if_icmp .le 5) 47))) (tB 37 (tB 40 (tB 41 (tZ 41 (.iload_n 3)) (tZ 40 (.iload_n 2))) (tL 37 (.if_icmp .ge 8) 45)) (tB 34 (tL 34 (.getfield 142) 39) (tZ 33 (.aload_n 0)))))) (tB 18 (tB 25 (tB 28 (tB 29 (tB 32 (tZ 32 (.iload_n 3)) (tL 29 (.ifCond .lt 16) 45)) (tZ 28 (.iload_n 2))) (tB 26 (tB 27 (tZ 27 (.istore_n 3)) (tZ 26 .iaload)) (tZ 25 (.iload_n 1)))) (tB 20 (tB 21 (tB 22 (tL 22 (.getfield 79) 21) (tZ 21 (.aload_n 0))) (tZ 20 (.istore_n 2))) (tB 19 (tZ 19 .iaload) (tZ 18 (.iload_n 1))))) (tB 9 (tB 13 (tB 14 (tB 15 (tL 15 (.getfield 76) 20) (tZ 14 (.aload_n 0))) (tZ 13 .ireturn)) (tB 12 (tZ 12 (.iconst 0)) (tL 9 (.if_icmp .lt 5) 14))) (tB 4 (tB 5 (tB 6 (tL 6 (.getfield 151) 42) (tZ 5 (.aload_n 0))) (tZ 4 (.iload_n 1))) (tB 1 (tL 1 (.ifCond .lt 11) 12) (tZ 0 (.iload_n 1)))))))) p
set_option maxHeartbeats 4000000 in
def cd21 (p : Nat) : Option (Instr × Nat) := (tB 34 (tB 51 (tB 57 (tB 63 (tB 66 (tB 68 (tZ 68 .ireturn) (tZ 66 (.iload 4))) (tL 63 (.goto (-55)) 8)) (tB 60 (tZ 60 (.iinc 5 1)) (tZ 57 (.iinc 4 1)))) (tB 54 (tB 55 (tB 56 (tZ 56 (.istore_n 3)) (tZ 55 .ior)) (tZ 54 .ishl)) (tB 52 (tZ 52 (.iload 6)) (tZ 51 (.iconst 1))))) (tB 43 (tB 46 (tB 47 (tB 50 (tZ 50 (.iload_n 3)) (tL 47 (.ifCond .ne 13) 60)) (tZ 46 .iand)) (tB 45 (tZ 45 .ishl) (tZ 43 (.iload 6)))) (tB 38 (tB 41 (tB 42 (tZ 42 (.iconst 1)) (tZ 41 (.iload_n 3))) (tL 38 (.if_icmp .eq 22) 60)) (tB 35 (tL 35 (.getfield 145) 40) (tZ 34 (.aload_n 0)))))) (tB 14 (tB 24 (tB 29 (tB 30 (tB 32 (tZ 32 (.iload 6)) (tZ 30 (.istore 6))) (tZ 29 .baload)) (tB 27 (tZ 27 (.iload 5)) (tL 24 (.getfield 67) 17))) (tB 17 (tB 20 (tB 23 (tZ 23 (.aload_n 0)) (tL 20 (.if_icmp .ge 46) 66)) (tL 17 (.getfield 142) 39)) (tB 16 (tZ 16 (.aload_n 0)) (tZ 14 (.iload 5))))) (tB 5 (tB 8 (tB 10 (tB 11 (tL 11 (.if_icmp .gt 55) 66) (tZ 10 (.iload_n 2))) (tZ 8 (.iload 5))) (tB 6 (tZ 6 (.istore 5)) (tZ 5 (.iload_n 1)))) (tB 2 (tB 3 (tZ 3 (.istore 4)) (tZ 2 (.iconst 0))) (tB 1 (tZ 1 (.istore_n 3)) (tZ 0 (.iconst 0))))))) p
set_option maxHeartbeats 4000000 in
def cd22 (p : Nat) : Option (Instr × Nat) := (tB 94 (tB 137 (tB 157 (tB 167 (tB 172 (tB 175 (tB 178 (tZ 178 .ireturn) (tL 175 (.invokevirtual 215) 18)) (tB 174 (tZ 174 (.iload_n 3)) (tZ 172 (.iload 6)))) (tB 168 (tB 170 (tZ 170 (.iload 5)) (tZ 168 (.iload 4))) (tZ 167 (.iconst 4)))) (tB 162 (tB 163 (tB 166 (tZ 166 (.aload_n 0)) (tL 163 (.putfield 163) 46)) (tZ 162 .iadd)) (tB 158 (tB 160 (tZ 160 (.iload 6)) (tZ 158 (.iload 5))) (tZ 157 (.aload_n 0))))) (tB 146 (tB 150 (tB 151 (tB 154 (tL 154 (.goto (-134)) 20) (tZ 151 (.iinc 7 1))) (tZ 150 .lastore)) (tB 148 (tB 149 (tZ 149 .lor) (tZ 148 .lshl)) (tZ 146 (.iload 10)))) (tB 143 (tB 144 (tB 145 (tZ 145 (.lconst 1)) (tZ 144 .laload)) (tZ 143 .dup2)) (tB 138 (tB 141 (tZ 141 (.iload 9)) (tL 138 (.getfield 100) 28)) (tZ 137 (.aload_n 0)))))) (tB 115 (tB 126 (tB 132 (tB 134 (tB 135 (tZ 135 (.istore 10)) (tZ 134 .isub)) (tZ 132 (.iload 4))) (tB 129 (tB 131 (tZ 131 .iaload) (tZ 129 (.iload 7))) (tL 126 (.getfield 64) 16))) (tB 120 (tB 122 (tB 125 (tZ 125 (.aload_n 0)) (tL 122 (.ifCond .lt 29) 151)) (tZ 120 (.iload 9))) (tB 116 (tB 117 (tZ 117 (.iinc 6 1)) (tZ 116 .lastore)) (tZ 115 (.lconst 0))))) (tB 105 (tB 109 (tB 110 (tB 113 (tZ 113 (.iload 9)) (tL 110 (.getfield 100) 28)) (tZ 109 (.aload_n 0))) (tB 107 (tB 108 (tZ 108 .bastore) (tZ 107 .i2b)) (tZ 105 (.iload 8)))) (tB 99 (tB 100 (tB 103 (tZ 103 (.iload 9)) (tL 100 (.getfield 104) 29)) (tZ 99 (.aload_n 0))) (tB 96 (tB 97 (tZ 97 (.istore 9)) (tZ 96 .iadd)) (tZ 94 (.iload 6))))))) (tB 44 (tB 70 (tB 83 (tB 88 (tB 89 (tB 92 (tZ 92 (.iload 5)) (tL 89 (.if_icmp .ge 31) 120)) (tZ 88 .arraylength)) (tB 84 (tB 85 (tL 85 (.getfield 100) 28) (tZ 84 (.aload_n 0))) (tZ 83 .iadd))) (tB 76 (tB 79 (tB 81 (tZ 81 (.iload 6)) (tZ 79 (.iload 5))) (tL 76 (.if_icmp .ge 44) 120)) (tB 73 (tB 75 (tZ 75 (.iconst 3)) (tZ 73 (.iload 6))) (tL 70 (.ifCond .ge 50) 120)))) (tB 57 (tB 63 (tB 66 (tB 68 (tZ 68 (.iload 9)) (tZ 66 (.istore 9))) (tL 63 (.invokevirtual 243) 23)) (tB 59 (tB 61 (tZ 61 (.iload 8)) (tZ 59 (.iload 6))) (tZ 57 (.iload 5)))) (tB 50 (tB 53 (tB 56 (tZ 56 (.aload_n 0)) (tL 53 (.goto 98) 151)) (tL 50 (.if_icmp .ne 6) 56)) (tB 46 (tB 47 (tL 47 (.getfield 145) 40) (tZ 46 (.aload_n 0))) (tZ 44 (.iload 8)))))) (tB 20 (tB 32 (tB 39 (tB 41 (tB 42 (tZ 42 (.istore 8)) (tZ 41 .baload)) (tZ 39 (.iload 7))) (tB 35 (tB 36 (tL 36 (.getfield 67) 17) (tZ 35 (.aload_n 0))) (tL 32 (.if_icmp .ge 125) 157))) (tB 26 (tB 28 (tB 29 (tL 29 (.getfield 142) 39) (tZ 28 (.aload_n 0))) (tZ 26 (.iload 7))) (tB 22 (tB 23 (tL 23 (.if_icmp .gt 134) 157) (tZ 22 (.iload_n 2))) (tZ 20 (.iload 7))))) (tB 9 (tB 15 (tB 17 (tB 18 (tZ 18 (.istore 7)) (tZ 17 (.iload_n 1))) (tZ 15 (.istore 6))) (tB 12 (tB 14 (tZ 14 (.iconst 0)) (tZ 12 (.istore 5))) (tL 9 (.getfield 163) 46))) (tB 5 (tB 6 (tB 8 (tZ 8 (.aload_n 0)) (tZ 6 (.istore 4))) (tZ 5 .iaload)) (tB 1 (tB 4 (tZ 4 (.iload_n 1)) (tL 1 (.getfield 64) 16)) (tZ 0 (.aload_n 0)))))))) p
set_option maxHeartbeats 4000000 in
def cd23 (p : Nat) : Option (Instr × Nat) := (tB 26 (tB 38 (tB 44 (tB 50 (tB 51 (tZ 51 .ireturn) (tZ 50 (.iconst (-1)))) (tB 47 (tL 47 (.goto (-44)) 3) (tZ 44 (.iinc 4 1)))) (tB 41 (tB 43 (tZ 43 .ireturn) (tZ 41 (.iload 5))) (tL 38 (.if_icmp .ne 6) 44))) (tB 31 (tB 36 (tB 37 (tZ 37 (.iload_n 3)) (tZ 36 .baload)) (tB 34 (tZ 34 (.iload 5)) (tL 31 (.getfield 104) 29))) (tB 27 (tB 30 (tZ 30 (.aload_n 0)) (tL 27 (.if_icmp .ge 17) 44)) (tZ 26 .arraylength)))) (tB 12 (tB 17 (tB 22 (tB 23 (tL 23 (.getfield 104) 29) (tZ 22 (.aload_n 0))) (tB 20 (tZ 20 (.iload 5)) (tL 17 (.ifCond .lt 27) 44))) (tB 13 (tB 15 (tZ 15 (.iload 5)) (tZ 13 (.istore 5))) (tZ 12 .iadd))) (tB 5 (tB 9 (tB 10 (tZ 10 (.iload 4)) (tZ 9 (.iload_n 1))) (tB 6 (tL 6 (.if_icmp .ge 44) 50) (tZ 5 (.iload_n 2)))) (tB 1 (tB 3 (tZ 3 (.iload 4)) (tZ 1 (.istore 4))) (tZ 0 (.iconst 0)))))) p
set_option maxHeartbeats 4000000 in
def cd24 (p : Nat) : Option (Instr × Nat) := (tB 22 (tB 32 (tB 37 (tB 38 (tB 39 (tZ 39 .return_) (tZ 38 .iastore)) (tZ 37 (.iload_n 3))) (tB 33 (tB 36 (tZ 36 (.iload_n 1)) (tL 33 (.getfield 91) 25)) (tZ 32 (.aload_n 0)))) (tB 27 (tB 28 (tB 29 (tL 29 (.goto 10) 39) (tZ 28 .iastore)) (tZ 27 (.iload_n 3))) (tB 23 (tB 26 (tZ 26 (.iload_n 1)) (tL 23 (.getfield 88) 24)) (tZ 22 (.aload_n 0))))) (tB 12 (tB 17 (tB 18 (tB 19 (tL 19 (.ifCond .ne 13) 32) (tZ 18 (.iload_n 2))) (tZ 17 .return_)) (tB 13 (tB 14 (tL 14 (.putfield 157) 44) (tZ 13 (.iload_n 3))) (tZ 12 (.aload_n 0)))) (tB 5 (tB 6 (tB 9 (tL 9 (.if_icmp .lt 9) 18) (tL 6 (.getfield 154) 43)) (tZ 5 (.aload_n 0))) (tB 1 (tB 4 (tZ 4 (.iload_n 1)) (tL 1 (.ifCond .lt 11) 12)) (tZ 0 (.iload_n 1)))))) p
set_option maxHeartbeats 4000000 in
def cd25 (p : Nat) : Option (Instr × Nat) := (tB 41 (tB 60 (tB 66 (tB 71 (tB 73 (tB 74 (tZ 74 .lreturn) (tZ 73 .lsub)) (tZ 71 (.lload 5))) (tB 67 (tB 69 (tZ 69 (.lload 7)) (tZ 67 (.lstore 7))) (tZ 66 .ladd))) (tB 63 (tB 64 (tB 65 (tZ 65 (.lconst 1)) (tZ 64 .lsub)) (tZ 63 .i2l)) (tB 61 (tB 62 (tZ 62 (.iload_n 1)) (tZ 61 .i2l)) (tZ 60 (.iload_n 2))))) (tB 47 (tB 54 (tB 57 (tB 59 (tZ 59 .lreturn) (tZ 57 (.lload 5))) (tL 54 (.ifCond .ne 6) 60)) (tB 50 (tB 52 (tZ 52 (.iload 4)) (tZ 50 (.lstore 5))) (tL 47 (.invokevirtual 201) 26))) (tB 43 (tB 44 (tB 45 (tZ 45 (.iload 4)) (tZ 44 (.iload_n 3))) (tZ 43 (.iload_n 2))) (tB 42 (tZ 42 (.iload_n 1)) (tZ 41 (.aload_n 0)))))) (tB 21 (tB 28 (tB 35 (tB 38 (tB 39 (tZ 39 (.istore 4)) (tZ 38 (.iconst 0))) (tL 35 (.goto 4) 39)) (tB 31 (tB 34 (tZ 34 (.iconst 1)) (tL 31 (.if_icmp .ne 7) 38)) (tL 28 (.getfield 145) 40))) (tB 25 (tB 26 (tB 27 (tZ 27 (.aload_n 0)) (tZ 26 (.iload_n 3))) (tZ 25 .lreturn)) (tB 24 (tZ 24 (.lconst 0)) (tL 21 (.if_icmp .le 5) 26)))) (tB 11 (tB 16 (tB 19 (tB 20 (tZ 20 (.iload_n 2)) (tZ 19 (.iload_n 1))) (tL 16 (.if_icmp .ge 8) 24)) (tB 12 (tB 13 (tL 13 (.getfield 126) 35) (tZ 12 (.aload_n 0))) (tZ 11 (.iload_n 3)))) (tB 4 (tB 7 (tB 8 (tL 8 (.ifCond .lt 16) 24) (tZ 7 (.iload_n 3))) (tL 4 (.ifCond .eq 20) 24)) (tB 1 (tL 1 (.getfield 148) 41) (tZ 0 (.aload_n 0))))))) p
set_option maxHeartbeats 4000000 in
def cd26 (p : Nat) : Option (Instr × Nat) := (tB 38 (tB 58 (tB 68 (tB 74 (tB 77 (tB 79 (tZ 79 .lreturn) (tZ 77 (.lload 5))) (tL 74 (.goto (-60)) 14)) (tB 69 (tB 71 (tZ 71 (.iinc 8 1)) (tZ 69 (.lstore 5))) (tZ 68 .ladd))) (tB 62 (tB 65 (tB 67 (tZ 67 (.lconst 1)) (tZ 65 (.lload 5))) (tL 62 (.if_icmp .eq 9) 71)) (tB 60 (tZ 60 (.iload 4)) (tZ 58 (.iload 10))))) (tB 48 (tB 52 (tB 55 (tB 56 (tZ 56 (.istore 10)) (tZ 55 (.iconst 0))) (tL 52 (.goto 4) 56)) (tB 51 (tZ 51 (.iconst 1)) (tL 48 (.if_icmp .ne 7) 55))) (tB 42 (tB 44 (tB 47 (tZ 47 (.iload_n 3)) (tL 44 (.invokevirtual 188) 28)) (tZ 42 (.iload 9))) (tB 41 (tZ 41 (.aload_n 0)) (tL 38 (.goto 39) 77))))) (tB 17 (tB 29 (tB 32 (tB 34 (tB 35 (tL 35 (.if_icmp .le 6) 41) (tZ 34 (.iload_n 2))) (tZ 32 (.iload 9))) (tB 30 (tZ 30 (.istore 9)) (tZ 29 .iaload))) (tB 23 (tB 24 (tB 27 (tZ 27 (.iload 8)) (tL 24 (.getfield 64) 16)) (tZ 23 (.aload_n 0))) (tB 20 (tL 20 (.if_icmp .ge 57) 77) (tL 17 (.getfield 142) 39)))) (tB 8 (tB 12 (tB 14 (tB 16 (tZ 16 (.aload_n 0)) (tZ 14 (.iload 8))) (tZ 12 (.istore 8))) (tB 10 (tZ 10 (.iload 7)) (tZ 8 (.istore 7)))) (tB 3 (tB 4 (tB 5 (tL 5 (.invokevirtual 258) 27) (tZ 4 (.iload_n 1))) (tZ 3 (.aload_n 0))) (tB 1 (tZ 1 (.lstore 5)) (tZ 0 (.lconst 0))))))) p
set_option maxHeartbeats 4000000 in
def cd27 (p : Nat) : Option (Instr × Nat) := (tB 27 (tB 43 (tB 50 (tB 54 (tB 57 (tB 58 (tZ 58 .ireturn) (tZ 57 (.iload_n 2))) (tL 54 (.goto (-44)) 10)) (tB 51 (tZ 51 (.iinc 4 1)) (tZ 50 (.istore_n 3)))) (tB 45 (tB 48 (tZ 48 (.iload 5)) (tL 45 (.goto 6) 51)) (tB 44 (tZ 44 (.istore_n 2)) (tZ 43 .iadd)))) (tB 35 (tB 37 (tB 40 (tB 42 (tZ 42 (.iconst 1)) (tZ 40 (.iload 5))) (tL 37 (.if_icmp .ge 11) 48)) (tB 36 (tZ 36 (.iload_n 1)) (tZ 35 .iaload))) (tB 30 (tB 33 (tZ 33 (.iload 5)) (tL 30 (.getfield 64) 16)) (tB 29 (tZ 29 (.aload_n 0)) (tZ 27 (.istore 5)))))) (tB 14 (tB 22 (tB 24 (tB 25 (tB 26 (tZ 26 .iushr) (tZ 25 (.iconst 1))) (tZ 24 .iadd)) (tB 23 (tZ 23 (.iload_n 3)) (tZ 22 (.iload_n 2)))) (tB 18 (tB 19 (tL 19 (.if_icmp .ge 38) 57) (tZ 18 (.iload_n 3))) (tB 17 (tZ 17 (.iload_n 2)) (tL 14 (.if_icmp .ge 43) 57)))) (tB 6 (tB 8 (tB 10 (tB 12 (tZ 12 (.bipush 16)) (tZ 10 (.iload 4))) (tZ 8 (.istore 4))) (tB 7 (tZ 7 (.iconst 0)) (tZ 6 (.istore_n 3)))) (tB 2 (tB 3 (tL 3 (.getfield 142) 39) (tZ 2 (.aload_n 0))) (tB 1 (tZ 1 (.istore_n 2)) (tZ 0 (.iconst 0))))))) p
set_option maxHeartbeats 4000000 in
def cd28 (p : Nat) : Option (Instr × Nat) := (tB 56 (tB 82 (tB 98 (tB 103 (tB 109 (tB 110 (tB 113 (tZ 113 .ireturn) (tL 110 (.getfield 145) 40)) (tZ 109 (.aload_n 0))) (tB 106 (tL 106 (.goto (-99)) 7) (tZ 103 (.iinc 3 1)))) (tB 101 (tB 102 (tZ 102 (.istore_n 2)) (tZ 101 (.iconst 0))) (tB 100 (tZ 100 .ireturn) (tZ 98 (.iload 5))))) (tB 88 (tB 93 (tB 95 (tL 95 (.ifCond .lt 6) 101) (tZ 93 (.iload 5))) (tB 91 (tZ 91 (.istore 5)) (tL 88 (.invokevirtual 246) 29))) (tB 86 (tB 87 (tZ 87 (.iload_n 1)) (tZ 86 (.iload_n 2))) (tB 85 (tZ 85 (.aload_n 0)) (tL 82 (.goto 21) 103))))) (tB 70 (tB 76 (tB 80 (tB 81 (tZ 81 (.istore_n 2)) (tZ 80 .iaload)) (tB 79 (tZ 79 (.iload_n 2)) (tL 76 (.getfield 91) 25))) (tB 72 (tB 75 (tZ 75 (.aload_n 0)) (tL 72 (.goto 9) 81)) (tB 71 (tZ 71 .iaload) (tZ 70 (.iload_n 2))))) (tB 62 (tB 66 (tB 67 (tL 67 (.getfield 88) 24) (tZ 66 (.aload_n 0))) (tB 63 (tL 63 (.if_icmp .ge 12) 75) (tZ 62 .iaload))) (tB 58 (tB 61 (tZ 61 (.iload_n 2)) (tL 58 (.getfield 85) 23)) (tB 57 (tZ 57 (.aload_n 0)) (tZ 56 (.iload_n 1))))))) (tB 29 (tB 43 (tB 49 (tB 52 (tB 53 (tL 53 (.if_icmp .ne 32) 85) (tZ 52 (.iconst 1))) (tB 50 (tZ 50 (.iload 4)) (tZ 49 .ireturn))) (tB 47 (tB 48 (tZ 48 .iaload) (tZ 47 (.iload_n 2))) (tB 44 (tL 44 (.getfield 85) 23) (tZ 43 (.aload_n 0))))) (tB 35 (tB 38 (tB 40 (tL 40 (.ifCond .ne 10) 50) (tZ 38 (.iload 4))) (tB 36 (tZ 36 (.istore 4)) (tZ 35 .baload))) (tB 31 (tB 34 (tZ 34 (.iload_n 2)) (tL 31 (.getfield 82) 22)) (tB 30 (tZ 30 (.aload_n 0)) (tZ 29 .ireturn))))) (tB 13 (tB 19 (tB 25 (tB 26 (tL 26 (.getfield 145) 40) (tZ 25 (.aload_n 0))) (tB 22 (tL 22 (.if_icmp .lt 8) 30) (tL 19 (.getfield 154) 43))) (tB 17 (tB 18 (tZ 18 (.aload_n 0)) (tZ 17 (.iload_n 2))) (tB 14 (tL 14 (.ifCond .lt 11) 25) (tZ 13 (.iload_n 2))))) (tB 6 (tB 8 (tB 10 (tL 10 (.if_icmp .ge 99) 109) (tZ 8 (.bipush 64))) (tB 7 (tZ 7 (.iload_n 3)) (tZ 6 (.istore_n 3)))) (tB 4 (tB 5 (tZ 5 (.iconst 0)) (tZ 4 (.istore_n 2))) (tB 1 (tL 1 (.getfield 157) 44) (tZ 0 (.aload_n 0)))))))) p
set_option maxHeartbeats 4000000 in
def cd29 (p : Nat) : Option (Instr × Nat) := (tB 29 (tB 43 (tB 50 (tB 54 (tB 55 (tB 56 (tZ 56 .ireturn) (tZ 55 (.iconst (-1)))) (tZ 54 .ireturn)) (tB 51 (tL 51 (.invokevirtual 252) 30) (tZ 50 (.iload_n 2)))) (tB 45 (tB 48 (tB 49 (tZ 49 (.iload_n 1)) (tZ 48 (.aload_n 0))) (tL 45 (.if_icmp .ne 10) 55)) (tB 44 (tZ 44 (.iconst 4)) (tZ 43 (.iload_n 3))))) (tB 33 (tB 37 (tB 38 (tB 42 (tZ 42 .ireturn) (tZ 38 (.iload_n 2))) (tZ 37 (.iload_n 1))) (tB 36 (tZ 36 (.aload_n 0)) (tL 33 (.if_icmp .ne 10) 43))) (tB 31 (tB 32 (tZ 32 (.iconst 3)) (tZ 31 (.iload_n 3))) (tB 30 (tZ 30 .ireturn) (tZ 29 (.iconst (-1))))))) (tB 13 (tB 22 (tB 26 (tB 27 (tB 28 (tZ 28 .ireturn) (tZ 27 .iaload)) (tZ 26 (.iload_n 1))) (tB 23 (tL 23 (.getfield 88) 24) (tZ 22 (.aload_n 0)))) (tB 17 (tB 18 (tB 19 (tL 19 (.if_icmp .ne 10) 29) (tZ 18 .iaload)) (tZ 17 (.iload_n 1))) (tB 14 (tL 14 (.getfield 85) 23) (tZ 13 (.aload_n 0))))) (tB 6 (tB 8 (tB 9 (tB 12 (tZ 12 (.iload_n 2)) (tL 9 (.if_icmp .ne 22) 31)) (tZ 8 (.iconst 2))) (tB 7 (tZ 7 (.iload_n 3)) (tZ 6 (.istore_n 3)))) (tB 4 (tB 5 (tZ 5 .baload) (tZ 4 (.iload_n 1))) (tB 1 (tL 1 (.getfield 82) 22) (tZ 0 (.aload_n 0))))))) p
set_option maxHeartbeats 4000000 in
def cd30 (p : Nat) : Option (Instr × Nat) := (tB 59 (tB 95 (tB 108 (tB 118 (tB 122 (tB 125 (tB 126 (tZ 126 .ireturn) (tZ 125 (.iconst (-1)))) (tL 122 (.goto (-65)) 57)) (tB 119 (tZ 119 (.iinc 8 1)) (tZ 118 .ireturn))) (tB 112 (tB 115 (tB 117 (tZ 117 .baload) (tZ 115 (.iload 9))) (tL 112 (.getfield 104) 29)) (tB 111 (tZ 111 (.aload_n 0)) (tL 108 (.ifCond .eq 11) 119)))) (tB 103 (tB 105 (tB 106 (tB 107 (tZ 107 .lcmp) (tZ 106 (.lconst 0))) (tZ 105 .land)) (tB 104 (tZ 104 (.lconst 1)) (tZ 103 .lushr))) (tB 100 (tB 101 (tZ 101 (.iload 5)) (tZ 100 .laload)) (tB 98 (tZ 98 (.iload 9)) (tL 95 (.getfield 100) 28))))) (tB 77 (tB 88 (tB 92 (tB 93 (tB 94 (tZ 94 (.aload_n 0)) (tZ 93 .ireturn)) (tZ 92 (.iconst (-1)))) (tB 89 (tL 89 (.if_icmp .lt 5) 94) (tZ 88 .arraylength))) (tB 82 (tB 84 (tB 85 (tL 85 (.getfield 100) 28) (tZ 84 (.aload_n 0))) (tZ 82 (.iload 9))) (tB 79 (tL 79 (.ifCond .lt 13) 92) (tZ 77 (.iload 9))))) (tB 67 (tB 72 (tB 74 (tB 75 (tZ 75 (.istore 9)) (tZ 74 .iadd)) (tZ 72 (.iload 8))) (tB 70 (tZ 70 (.iload 6)) (tL 67 (.if_icmp .ge 58) 125))) (tB 64 (tB 66 (tZ 66 (.iconst 3)) (tZ 64 (.iload 8))) (tB 61 (tL 61 (.if_icmp .ge 64) 125) (tZ 59 (.iload 7))))))) (tB 29 (tB 43 (tB 51 (tB 54 (tB 55 (tB 57 (tZ 57 (.iload 8)) (tZ 55 (.istore 8))) (tZ 54 (.iconst 0))) (tB 52 (tZ 52 (.istore 7)) (tZ 51 .iaload))) (tB 46 (tB 47 (tB 50 (tZ 50 (.iload_n 1)) (tL 47 (.getfield 91) 25)) (tZ 46 (.aload_n 0))) (tB 44 (tZ 44 (.istore 6)) (tZ 43 .iaload)))) (tB 35 (tB 38 (tB 39 (tB 42 (tZ 42 (.iload_n 1)) (tL 39 (.getfield 88) 24)) (tZ 38 (.aload_n 0))) (tB 36 (tZ 36 (.istore 5)) (tZ 35 .l2i))) (tB 33 (tB 34 (tZ 34 (.lload_n 3)) (tZ 33 .ireturn)) (tB 32 (tZ 32 (.iconst (-1))) (tL 29 (.ifCond .lt 5) 34))))) (tB 13 (tB 20 (tB 24 (tB 25 (tB 28 (tZ 28 .lcmp) (tL 25 (.ldc2_w 211) 8)) (tZ 24 (.lload_n 3))) (tB 21 (tL 21 (.ifCond .ge 11) 32) (tZ 20 .lcmp))) (tB 17 (tB 18 (tB 19 (tZ 19 .i2l) (tZ 18 .iaload)) (tZ 17 (.iload_n 1))) (tB 14 (tL 14 (.getfield 94) 26) (tZ 13 (.aload_n 0))))) (tB 6 (tB 8 (tB 11 (tB 12 (tZ 12 (.lload_n 3)) (tZ 11 (.lstore_n 3))) (tL 8 (.invokevirtual 255) 31)) (tB 7 (tZ 7 .iaload) (tZ 6 (.iload_n 1)))) (tB 2 (tB 3 (tL 3 (.getfield 85) 23) (tZ 2 (.aload_n 0))) (tB 1 (tZ 1 (.iload_n 2)) (tZ 0 (.aload_n 0)))))))) p
set_option maxHeartbeats 4000000 in
def cd31 (p : Nat) : Option (Instr × Nat) := (tB 3 (tB 7 (tB 8 (tZ 8 .lreturn) (tZ 7 .land)) (tB 4 (tL 4 (.ldc2_w 46) 6) (tZ 3 .i2l))) (tB 1 (tB 2 (tZ 2 .isub) (tZ 1 (.iload_n 2))) (tZ 0 (.iload_n 1)))) p
set_option maxHeartbeats 4000000 in
def cd32 (p : Nat) : Option (Instr × Nat) := (tB 24 (tB 36 (tB 39 (tB 40 (tB 43 (tZ 43 .lreturn) (tL 40 (.invokevirtual 197) 34)) (tZ 39 (.iload_n 2))) (tB 37 (tB 38 (tZ 38 (.iload_n 1)) (tZ 37 (.aload_n 0))) (tZ 36 .lreturn))) (tB 31 (tB 32 (tB 33 (tL 33 (.invokevirtual 193) 33) (tZ 32 (.iload_n 1))) (tZ 31 (.aload_n 0))) (tB 25 (tB 28 (tL 28 (.if_icmp .ne 9) 37) (tL 25 (.getfield 145) 40)) (tZ 24 (.aload_n 0))))) (tB 12 (tB 19 (tB 22 (tB 23 (tZ 23 (.iload_n 2)) (tZ 22 .lreturn)) (tL 19 (.ldc2_w 191) 5)) (tB 13 (tB 16 (tL 16 (.if_icmp .lt 7) 23) (tL 13 (.getfield 126) 35)) (tZ 12 (.aload_n 0)))) (tB 7 (tB 8 (tB 11 (tZ 11 (.iload_n 2)) (tL 8 (.ifCond .lt 11) 19)) (tZ 7 (.iload_n 2))) (tB 1 (tB 4 (tL 4 (.ifCond .eq 15) 19) (tL 1 (.getfield 148) 41)) (tZ 0 (.aload_n 0)))))) p
set_option maxHeartbeats 4000000 in
def cd33 (p : Nat) : Option (Instr × Nat) := (tB 22 (tB 31 (tB 38 (tB 44 (tB 47 (tZ 47 .lreturn) (tL 44 (.ldc2_w 191) 5)) (tB 41 (tL 41 (.goto (-37)) 4) (tZ 38 (.iinc 3 1)))) (tB 34 (tB 35 (tZ 35 (.iinc 2 1)) (tZ 34 .lreturn)) (tL 31 (.ldc2_w 191) 5))) (tB 25 (tB 26 (tB 28 (tL 28 (.if_icmp .ne 7) 35) (tZ 26 (.ldc 52))) (tZ 25 (.iload_n 2))) (tB 23 (tB 24 (tZ 24 .lreturn) (tZ 23 .i2l)) (tZ 22 (.iload_n 2))))) (tB 7 (tB 12 (tB 16 (tB 19 (tL 19 (.if_icmp .ne 6) 25) (tL 16 (.getfield 145) 40)) (tB 15 (tZ 15 (.aload_n 0)) (tL 12 (.invokevirtual 188) 28))) (tB 10 (tB 11 (tZ 11 (.iload_n 2)) (tZ 10 (.aload_n 0))) (tL 7 (.if_icmp .gt 37) 44))) (tB 3 (tB 4 (tB 5 (tZ 5 (.bipush 65)) (tZ 4 (.iload_n 3))) (tZ 3 (.istore_n 3))) (tB 1 (tB 2 (tZ 2 (.iconst 0)) (tZ 1 (.istore_n 2))) (tZ 0 (.iload_n 1)))))) p
set_option maxHeartbeats 4000000 in
def cd34 (p : Nat) : Option (Instr × Nat) := (tB 24 (tB 37 (tB 41 (tB 47 (tB 50 (tZ 50 .lreturn) (tL 47 (.ldc2_w 191) 5)) (tB 44 (tL 44 (.goto (-35)) 9) (tZ 41 (.iinc 4 1)))) (tB 39 (tB 40 (tZ 40 .lreturn) (tZ 39 .i2l)) (tZ 37 (.iload 5)))) (tB 28 (tB 33 (tB 34 (tL 34 (.if_icmp .ne 7) 41) (tZ 33 (.iload_n 2))) (tB 30 (tL 30 (.invokevirtual 188) 28) (tZ 28 (.iload 5)))) (tB 25 (tB 27 (tZ 27 (.aload_n 0)) (tZ 25 (.istore 5))) (tZ 24 .iaload)))) (tB 9 (tB 15 (tB 19 (tB 22 (tZ 22 (.iload 4)) (tL 19 (.getfield 64) 16)) (tB 18 (tZ 18 (.aload_n 0)) (tL 15 (.if_icmp .ge 32) 47))) (tB 11 (tB 12 (tL 12 (.getfield 142) 39) (tZ 11 (.aload_n 0))) (tZ 9 (.iload 4)))) (tB 5 (tB 6 (tB 7 (tZ 7 (.istore 4)) (tZ 6 (.iload_n 3))) (tZ 5 (.istore_n 3))) (tB 1 (tB 2 (tL 2 (.invokevirtual 258) 27) (tZ 1 (.iload_n 1))) (tZ 0 (.aload_n 0)))))) p
set_option maxHeartbeats 4000000 in
def cd35 (p : Nat) : Option (Instr × Nat) := (tB 14 (tB 20 (tB 24 (tB 25 (tZ 25 .ireturn) (tZ 24 (.iconst 0))) (tB 21 (tL 21 (.putfield 138) 38) (tZ 20 (.iconst 1)))) (tB 16 (tB 19 (tZ 19 (.aload_n 0)) (tL 16 (.putfield 135) 37)) (tB 15 (tZ 15 (.iload_n 1)) (tZ 14 (.aload_n 0))))) (tB 6 (tB 12 (tB 13 (tZ 13 .ireturn) (tZ 12 (.iconst 3))) (tB 9 (tL 9 (.if_icmp .lt 5) 14) (tL 6 (.getfield 126) 35))) (tB 4 (tB 5 (tZ 5 (.aload_n 0)) (tZ 4 (.iload_n 1))) (tB 1 (tL 1 (.ifCond .lt 11) 12) (tZ 0 (.iload_n 1)))))) p
set_option maxHeartbeats 4000000 in
def cd36 (p : Nat) : Option (Instr × Nat) := (tB 36 (tB 52 (tB 64 (tB 69 (tB 73 (tB 74 (tZ 74 .ireturn) (tZ 73 (.iconst 0))) (tB 70 (tL 70 (.putfield 138) 38) (tZ 69 (.iconst 1)))) (tB 65 (tB 68 (tZ 68 (.aload_n 0)) (tL 65 (.putfield 132) 36)) (tZ 64 .isub))) (tB 59 (tB 60 (tB 63 (tZ 63 (.iconst 1)) (tL 60 (.getfield 132) 36)) (tZ 59 .dup)) (tB 55 (tB 58 (tZ 58 (.aload_n 0)) (tL 55 (.goto (-41)) 14)) (tZ 52 (.iinc 3 1))))) (tB 44 (tB 49 (tB 50 (tB 51 (tZ 51 .bastore) (tZ 50 .baload)) (tZ 49 .iadd)) (tB 47 (tB 48 (tZ 48 (.iconst 1)) (tZ 47 (.iload_n 3))) (tL 44 (.getfield 60) 15))) (tB 39 (tB 42 (tB 43 (tZ 43 (.aload_n 0)) (tZ 42 (.iload_n 3))) (tL 39 (.getfield 60) 15)) (tB 37 (tB 38 (tZ 38 (.aload_n 0)) (tZ 37 .iastore)) (tZ 36 .iaload))))) (tB 16 (tB 28 (tB 33 (tB 34 (tB 35 (tZ 35 .iadd) (tZ 34 (.iconst 1))) (tZ 33 (.iload_n 3))) (tB 29 (tB 30 (tL 30 (.getfield 56) 14) (tZ 29 (.aload_n 0))) (tZ 28 (.iload_n 3)))) (tB 21 (tB 24 (tB 25 (tL 25 (.getfield 56) 14) (tZ 24 (.aload_n 0))) (tL 21 (.if_icmp .ge 37) 58)) (tB 17 (tB 18 (tL 18 (.getfield 132) 36) (tZ 17 (.aload_n 0))) (tZ 16 .iadd)))) (tB 10 (tB 13 (tB 14 (tB 15 (tZ 15 (.iconst 1)) (tZ 14 (.iload_n 3))) (tZ 13 (.istore_n 3))) (tB 11 (tB 12 (tZ 12 (.iload_n 2)) (tZ 11 .ireturn)) (tZ 10 (.iconst 4)))) (tB 5 (tB 6 (tB 7 (tL 7 (.ifCond .ge 5) 12) (tZ 6 (.iload_n 2))) (tZ 5 (.istore_n 2))) (tB 1 (tB 2 (tL 2 (.invokevirtual 173) 9) (tZ 1 (.iload_n 1))) (tZ 0 (.aload_n 0))))))) p
def pCode (m pc : Nat) : Option (Instr × Nat) := bif Nat.ble pN m then none else bif Nat.ble (pTop m) pc then none else (bif Nat.ble 18 m then (bif Nat.ble 27 m then (bif Nat.ble 32 m then (bif Nat.ble 34 m then (bif Nat.ble 35 m then (bif Nat.ble 36 m then cd36 pc else cd35 pc) else cd34 pc) else (bif Nat.ble 33 m then cd33 pc else cd32 pc)) else (bif Nat.ble 29 m then (bif Nat.ble 30 m then (bif Nat.ble 31 m then cd31 pc else cd30 pc) else cd29 pc) else (bif Nat.ble 28 m then cd28 pc else cd27 pc))) else (bif Nat.ble 22 m then (bif Nat.ble 24 m then (bif Nat.ble 25 m then (bif Nat.ble 26 m then cd26 pc else cd25 pc) else cd24 pc) else (bif Nat.ble 23 m then cd23 pc else cd22 pc)) else (bif Nat.ble 20 m then (bif Nat.ble 21 m then cd21 pc else cd20 pc) else (bif Nat.ble 19 m then cd19 pc else cd18 pc)))) else (bif Nat.ble 9 m then (bif Nat.ble 13 m then (bif Nat.ble 15 m then (bif Nat.ble 16 m then (bif Nat.ble 17 m then cd17 pc else cd16 pc) else cd15 pc) else (bif Nat.ble 14 m then cd14 pc else cd13 pc)) else (bif Nat.ble 11 m then (bif Nat.ble 12 m then cd12 pc else cd11 pc) else (bif Nat.ble 10 m then cd10 pc else cd9 pc))) else (bif Nat.ble 4 m then (bif Nat.ble 6 m then (bif Nat.ble 7 m then (bif Nat.ble 8 m then cd8 pc else cd7 pc) else cd6 pc) else (bif Nat.ble 5 m then cd5 pc else cd4 pc)) else (bif Nat.ble 2 m then (bif Nat.ble 3 m then cd3 pc else cd2 pc) else (bif Nat.ble 1 m then cd1 pc else cd0 pc)))))
def lkF : List (Nat × Nat × Nat) := [(1, 7, 0), (1, 13, 1), (1, 16, 2), (1, 19, 3), (1, 22, 4), (1, 25, 5), (1, 28, 6), (1, 31, 7), (1, 34, 8), (1, 37, 9), (1, 40, 10), (1, 43, 11), (1, 48, 12), (1, 53, 13), (1, 56, 14), (1, 60, 15), (1, 64, 16), (1, 67, 17), (1, 70, 18), (1, 73, 19), (1, 76, 20), (1, 79, 21), (1, 82, 22), (1, 85, 23), (1, 88, 24), (1, 91, 25), (1, 94, 26), (1, 97, 27), (1, 100, 28), (1, 104, 29), (1, 107, 30), (1, 110, 31), (1, 113, 32), (1, 116, 33), (1, 123, 34), (1, 126, 35), (1, 132, 36), (1, 135, 37), (1, 138, 38), (1, 142, 39), (1, 145, 40), (1, 148, 41), (1, 151, 42), (1, 154, 43), (1, 157, 44), (1, 160, 45), (1, 163, 46), (1, 166, 47)]
def lkN : List (Nat × Nat) := [(0, 7)]
def lkC : List (Nat × Nat × Nat) := [(1, 52, 0), (0, 12, 0), (0, 47, 1)]
def lkD : List (Nat × Nat × Nat) := [(1, 46, 6), (1, 205, 7), (1, 211, 8), (1, 213, 9), (0, 56, 2), (0, 58, 3), (1, 191, 5), (0, 60, 4), (0, 62, 5)]
def lkV : List (Nat × Nat × Nat) := [(0, 9, 1), (1, 119, 2), (1, 129, 3), (0, 13, 4), (0, 17, 5), (0, 20, 6), (0, 24, 7), (0, 28, 8), (1, 173, 9), (1, 169, 10), (0, 31, 11), (0, 41, 12), (1, 176, 13), (1, 179, 14), (1, 207, 15), (1, 182, 16), (1, 185, 17), (1, 215, 18), (1, 219, 19), (1, 223, 20), (1, 233, 21), (1, 237, 22), (1, 243, 23), (1, 229, 24), (0, 48, 25), (1, 201, 26), (1, 258, 27), (1, 188, 28), (1, 246, 29), (1, 252, 30), (1, 255, 31), (0, 52, 32), (1, 193, 33), (1, 197, 34), (0, 38, 35), (0, 44, 3), (0, 35, 36)]
def lkO : List (Nat × Nat) := [(1, 1)]
def mV : List Nat := [3, 4, 5, 6, 7, 8, 11, 12, 25, 32, 35, 36]
def mP : List Nat := [2, 9, 10, 13, 14, 15, 16, 17, 18, 19, 20, 21, 22, 23, 24, 26, 27, 28, 29, 30, 31, 33, 34]
def mS : List Nat := []
def mI : List Nat := [1]
def mA : List Nat := [1, 2, 3, 4, 5, 6, 7, 8, 9, 10, 11, 12, 13, 14, 15, 16, 17, 18, 19, 20, 21, 22, 23, 24, 25, 26, 27, 28, 29, 30, 31, 32, 33, 34, 35, 36]
def aTys : List FieldType := [.int, .byte, .long]
abbrev QCell := List Value ⊕ ((FieldType × List Int32) ⊕ List Int64)
abbrev QHeap := List QCell
abbrev QLoc := List (Option Value)
abbrev vI (x : Int32) : Option Value := some (.int x)
abbrev vR (a : Addr) : Option Value := some (.ref a)
abbrev vL (x : Int64) : Option Value := some (.long x)
abbrev QSt := Nat × QLoc × List Value × QHeap
def qv (ad : Nat → Addr) : Value → Value
 | .ref k => .ref (ad k)
 | v => v
def qsz : QCell → Nat
 | .inl _ => cN
 | .inr (.inl x) => x.2.length
 | .inr (.inr x) => x.length
def qhs : QHeap → Nat
 | [] => 0
 | c :: t => qsz c + qhs t
def aget {α : Type} (xs : List α) (j : Int32) : Option α := if j < 0 then none else xs[j.toNatClampNeg]?
def aset {α : Type} (xs : List α) (j : Int32) (v : α) : Option (List α) := if j < 0 then none else if j.toNatClampNeg < xs.length then some (xs.set j.toNatClampNeg v) else none
def qnew (n : Int32) : Option Nat := if n < 0 then none else if n.toNatClampNeg ≤ 67108864 then some n.toNatClampNeg else none
def qdiv (x y : Int32) : Option Int32 := if y = 0 then none else some (x / y)
def qrem (x y : Int32) : Option Int32 := if y = 0 then none else some (x % y)
def qboo (x : Int32) : Option Int32 := if x = 0 then some x else if x = 1 then some x else none
def lget : QLoc → Nat → Option Value
 | [], _ => none
 | v :: _, 0 => v
 | _ :: t, k + 1 => lget t k
def hget : QHeap → Nat → Option QCell
 | [], _ => none
 | v :: _, 0 => some v
 | _ :: t, k + 1 => hget t k
def vget : List Value → Nat → Option Value
 | [], _ => none
 | v :: _, 0 => some v
 | _ :: t, k + 1 => vget t k
def lkill (L : QLoc) : Nat → QLoc
 | 0 => L
 | k + 1 => match lget L k with
  | some (.long _) => L.set k none
  | some (.double _) => L.set k none
  | _ => L
def lput (L : QLoc) (k : Nat) (v : Value) : Option QLoc :=
 match v with
 | .long x => bif Nat.ble (k + 2) L.length then some (((lkill L k).set k (some (.long x))).set (k + 1) none) else none
 | .double _ => none
 | v => bif Nat.ble (k + 1) L.length then some ((lkill L k).set k (some v)) else none
def qload (pc : Nat) (L : QLoc) (S : List Value) (σ : QHeap) (k : Nat) (ok : Value → Bool) : Option QSt :=
 match lget L k with
 | some v => bif ok v then some (pc, L, v :: S, σ) else none
 | none => none
def isI : Value → Bool | .int _ => true | _ => false
def isJ : Value → Bool | .long _ => true | _ => false
def isR : Value → Bool | .ref _ => true | _ => false
def qstore (pc : Nat) (L : QLoc) (S : List Value) (σ : QHeap) (k : Nat) (ok : Value → Bool) : Option QSt :=
 match S with
 | v :: S' => bif ok v then (match lput L k v with | some L' => some (pc, L', S', σ) | none => none) else none
 | [] => none
def qbin (pc : Nat) (L : QLoc) (S : List Value) (σ : QHeap) (f : Int32 → Int32 → Int32) : Option QSt :=
 match S with
 | .int y :: .int x :: S' => some (pc, L, .int (f x y) :: S', σ)
 | _ => none
def qbino (pc : Nat) (L : QLoc) (S : List Value) (σ : QHeap) (f : Int32 → Int32 → Option Int32) : Option QSt :=
 match S with
 | .int y :: .int x :: S' => (f x y).bind fun z => some (pc, L, .int z :: S', σ)
 | _ => none
def qbinJ (pc : Nat) (L : QLoc) (S : List Value) (σ : QHeap) (f : Int64 → Int64 → Int64) : Option QSt :=
 match S with
 | .long y :: .long x :: S' => some (pc, L, .long (f x y) :: S', σ)
 | _ => none
def qshJ (pc : Nat) (L : QLoc) (S : List Value) (σ : QHeap) (f : Int64 → Int32 → Int64) : Option QSt :=
 match S with
 | .int y :: .long x :: S' => some (pc, L, .long (f x y) :: S', σ)
 | _ => none
def quni (pc : Nat) (L : QLoc) (S : List Value) (σ : QHeap) (f : Int32 → Value) : Option QSt :=
 match S with
 | .int x :: S' => some (pc, L, f x :: S', σ)
 | _ => none
def quniJ (pc : Nat) (L : QLoc) (S : List Value) (σ : QHeap) (f : Int64 → Value) : Option QSt :=
 match S with
 | .long x :: S' => some (pc, L, f x :: S', σ)
 | _ => none
def qald (pc : Nat) (L : QLoc) (S : List Value) (σ : QHeap) (ok : FieldType → Bool) : Option QSt :=
 match S with
 | .int j :: .ref a :: S' => (match hget σ a with
  | some (.inr (.inl x)) => bif ok x.1 then (aget x.2 j).bind fun v => some (pc, L, .int v :: S', σ) else none
  | _ => none)
 | _ => none
def qaldJ (pc : Nat) (L : QLoc) (S : List Value) (σ : QHeap) : Option QSt :=
 match S with
 | .int j :: .ref a :: S' => (match hget σ a with
  | some (.inr (.inr x)) => (aget x j).bind fun v => some (pc, L, .long v :: S', σ)
  | _ => none)
 | _ => none
def qnar : FieldType → Int32 → Int32
 | .boolean, x => x &&& 1
 | .byte, x => x.toInt8.toInt32
 | _, x => x
def qast (pc : Nat) (L : QLoc) (S : List Value) (σ : QHeap) (ok : FieldType → Bool) : Option QSt :=
 match S with
 | .int v :: .int j :: .ref a :: S' => (match hget σ a with
  | some (.inr (.inl x)) => bif ok x.1 && Nat.ble k0 a then (aset x.2 j (qnar x.1 v)).bind fun y => some (pc, L, S', σ.set a (.inr (.inl (x.1, y)))) else none
  | _ => none)
 | _ => none
def qastJ (pc : Nat) (L : QLoc) (S : List Value) (σ : QHeap) : Option QSt :=
 match S with
 | .long v :: .int j :: .ref a :: S' => (match hget σ a with
  | some (.inr (.inr x)) => bif Nat.ble k0 a then (aset x j v).bind fun y => some (pc, L, S', σ.set a (.inr (.inr y))) else none
  | _ => none)
 | _ => none
def tyI : FieldType → Bool | .int => true | _ => false
def tyB : FieldType → Bool | .boolean => true | .byte => true | _ => false
def qfit : FieldType → Value → Option Value
 | .int, .int x => some (.int x)
 | .boolean, .int x => (qboo x).bind fun y => some (.int y)
 | .long, .long x => some (.long x)
 | .array t, .ref a => some (.ref a)
 | _, _ => none
def qget (pc : Nat) (L : QLoc) (S : List Value) (σ : QHeap) (k : Nat) : Option QSt :=
 match S with
 | .ref a :: S' => (match hget σ a with
  | some (.inl vs) => (match vget vs k with | some v => some (pc, L, v :: S', σ) | none => none)
  | _ => none)
 | _ => none
def qput (pc : Nat) (L : QLoc) (S : List Value) (σ : QHeap) (k : Nat) : Option QSt :=
 match S with
 | v :: .ref a :: S' => (match hget σ a with
  | some (.inl vs) => bif Nat.ble k0 a && Nat.ble (k + 1) vs.length then (qfit (fTy k) v).bind fun w => some (pc, L, S', σ.set a (.inl (vs.set k w))) else none
  | _ => none)
 | _ => none
def qnewA (pc : Nat) (L : QLoc) (S : List Value) (σ : QHeap) (t : ArrayType) : Option QSt :=
 match S with
 | .int n :: S' => (match t with
  | .int => (qnew n).bind fun k => some (pc, L, .ref σ.length :: S', σ ++ [.inr (.inl (.int, List.replicate k 0))])
  | .boolean => (qnew n).bind fun k => some (pc, L, .ref σ.length :: S', σ ++ [.inr (.inl (.boolean, List.replicate k 0))])
  | .byte => (qnew n).bind fun k => some (pc, L, .ref σ.length :: S', σ ++ [.inr (.inl (.byte, List.replicate k 0))])
  | .long => (qnew n).bind fun k => some (pc, L, .ref σ.length :: S', σ ++ [.inr (.inr (List.replicate k 0))])
  | _ => none)
 | _ => none
def qlen (pc : Nat) (L : QLoc) (S : List Value) (σ : QHeap) : Option QSt :=
 match S with
 | .ref a :: S' => (match hget σ a with
  | some (.inr (.inl x)) => some (pc, L, .int x.2.length.toInt32 :: S', σ)
  | some (.inr (.inr x)) => some (pc, L, .int x.length.toInt32 :: S', σ)
  | _ => none)
 | _ => none
def qdup (pc : Nat) (L : QLoc) (S : List Value) (σ : QHeap) : Option QSt :=
 match S with
 | .int x :: S' => some (pc, L, .int x :: .int x :: S', σ)
 | .ref x :: S' => some (pc, L, .ref x :: .ref x :: S', σ)
 | _ => none
def qdup2 (pc : Nat) (L : QLoc) (S : List Value) (σ : QHeap) : Option QSt :=
 match S with
 | .int x :: .ref y :: S' => some (pc, L, .int x :: .ref y :: .int x :: .ref y :: S', σ)
 | .int x :: .int y :: S' => some (pc, L, .int x :: .int y :: .int x :: .int y :: S', σ)
 | .long x :: S' => some (pc, L, .long x :: .long x :: S', σ)
 | _ => none
def qpop (pc : Nat) (L : QLoc) (S : List Value) (σ : QHeap) : Option QSt :=
 match S with
 | .int _ :: S' => some (pc, L, S', σ)
 | .ref _ :: S' => some (pc, L, S', σ)
 | _ => none
def qif (pc : Nat) (L : QLoc) (S : List Value) (σ : QHeap) (cd : ClassFile.Cond) (tgt : Nat) : Option QSt :=
 match S with
 | .int x :: S' => some (bif ifCond.holds cd x then tgt else pc, L, S', σ)
 | _ => none
def qicmp (pc : Nat) (L : QLoc) (S : List Value) (σ : QHeap) (cd : ClassFile.Cond) (tgt : Nat) : Option QSt :=
 match S with
 | .int y :: .int x :: S' => some (bif if_icmp.holds cd x y then tgt else pc, L, S', σ)
 | _ => none
def qinc (pc : Nat) (L : QLoc) (S : List Value) (σ : QHeap) (k : Nat) (i : Int) : Option QSt :=
 match lget L k with
 | some (.int x) => (match lput L k (.int (x + Int32.ofInt i)) with | some L' => some (pc, L', S, σ) | none => none)
 | _ => none
def qldc (pc : Nat) (L : QLoc) (S : List Value) (σ : QHeap) (k : Nat) : Option QSt :=
 match vget cK k with
 | some v => some (pc, L, v :: S, σ)
 | none => none
def qexec (pc : Nat) (L : QLoc) (S : List Value) (σ : QHeap) (aux : Nat) : Instr → Option QSt
 | .aload_n k => qload (pc + 1) L S σ k.val isR
 | .aload k => qload (pc + 2) L S σ k isR
 | .iload_n k => qload (pc + 1) L S σ k.val isI
 | .iload k => qload (pc + 2) L S σ k isI
 | .lload_n k => qload (pc + 1) L S σ k.val isJ
 | .lload k => qload (pc + 2) L S σ k isJ
 | .iconst i => some (pc + 1, L, .int (Int32.ofInt i) :: S, σ)
 | .bipush i => some (pc + 2, L, .int (Int8.ofInt i).toInt32 :: S, σ)
 | .sipush i => some (pc + 3, L, .int (Int16.ofInt i).toInt32 :: S, σ)
 | .lconst k => some (pc + 1, L, .long (Int64.ofNat k.val) :: S, σ)
 | .ldc _ => qldc (pc + 2) L S σ aux
 | .ldc2_w _ => qldc (pc + 3) L S σ aux
 | .istore_n k => qstore (pc + 1) L S σ k.val isI
 | .istore k => qstore (pc + 2) L S σ k isI
 | .lstore_n k => qstore (pc + 1) L S σ k.val isJ
 | .lstore k => qstore (pc + 2) L S σ k isJ
 | .astore_n k => qstore (pc + 1) L S σ k.val isR
 | .astore k => qstore (pc + 2) L S σ k isR
 | .iinc k i => qinc (pc + 3) L S σ k i
 | .iadd => qbin (pc + 1) L S σ fun x y => x + y
 | .isub => qbin (pc + 1) L S σ fun x y => x - y
 | .imul => qbin (pc + 1) L S σ fun x y => x * y
 | .iand => qbin (pc + 1) L S σ fun x y => x &&& y
 | .ior => qbin (pc + 1) L S σ fun x y => x ||| y
 | .ixor => qbin (pc + 1) L S σ fun x y => x ^^^ y
 | .ishl => qbin (pc + 1) L S σ fun x y => x <<< (y &&& 31)
 | .ishr => qbin (pc + 1) L S σ fun x y => x >>> (y &&& 31)
 | .iushr => qbin (pc + 1) L S σ fun x y => XT.ushr x y
 | .idiv => qbino (pc + 1) L S σ qdiv
 | .irem => qbino (pc + 1) L S σ qrem
 | .ineg => quni (pc + 1) L S σ fun x => .int (-x)
 | .i2l => quni (pc + 1) L S σ fun x => .long x.toInt64
 | .i2b => quni (pc + 1) L S σ fun x => .int x.toInt8.toInt32
 | .l2i => quniJ (pc + 1) L S σ fun x => .int x.toInt32
 | .lneg => quniJ (pc + 1) L S σ fun x => .long (-x)
 | .ladd => qbinJ (pc + 1) L S σ fun x y => x + y
 | .lsub => qbinJ (pc + 1) L S σ fun x y => x - y
 | .lmul => qbinJ (pc + 1) L S σ fun x y => x * y
 | .land => qbinJ (pc + 1) L S σ fun x y => x &&& y
 | .lor => qbinJ (pc + 1) L S σ fun x y => x ||| y
 | .lxor => qbinJ (pc + 1) L S σ fun x y => x ^^^ y
 | .lshl => qshJ (pc + 1) L S σ fun x y => x <<< (y.toInt64 &&& 63)
 | .lshr => qshJ (pc + 1) L S σ fun x y => x >>> (y.toInt64 &&& 63)
 | .lushr => qshJ (pc + 1) L S σ fun x y => XT.ushrL x y
 | .lcmp => (match S with
  | .long y :: .long x :: S' => some (pc + 1, L, .int (XT.cmpL x y) :: S', σ)
  | _ => none)
 | .goto _ => some (aux, L, S, σ)
 | .ifCond cd _ => qif (pc + 3) L S σ cd aux
 | .if_icmp cd _ => qicmp (pc + 3) L S σ cd aux
 | .dup => qdup (pc + 1) L S σ
 | .dup2 => qdup2 (pc + 1) L S σ
 | .pop => qpop (pc + 1) L S σ
 | .getfield _ => qget (pc + 3) L S σ aux
 | .putfield _ => qput (pc + 3) L S σ aux
 | .iaload => qald (pc + 1) L S σ tyI
 | .baload => qald (pc + 1) L S σ tyB
 | .laload => qaldJ (pc + 1) L S σ
 | .iastore => qast (pc + 1) L S σ tyI
 | .bastore => qast (pc + 1) L S σ tyB
 | .lastore => qastJ (pc + 1) L S σ
 | .arraylength => qlen (pc + 1) L S σ
 | .newarray t => qnewA (pc + 2) L S σ t
 | .new _ => some (pc + 3, L, .ref σ.length :: S, σ ++ [.inl cDef])
 | _ => none
def qstep (m : Nat) (st : QSt) : Option QSt :=
 match pCode m st.1 with
 | some (i, aux) => qexec st.1 st.2.1 st.2.2.1 st.2.2.2 aux i
 | none => none
def qsteps (m : Nat) : Nat → QSt → Option QSt
 | 0, st => some st
 | n + 1, st => match qstep m st with | some st' => qsteps m n st' | none => none
def qentry (args : List Value) (mx : Nat) : QLoc := (args.flatMap fun v => match v with | .long x => [some (.long x), none] | .double x => [some (.double x), none] | v => [some v]) ++ List.replicate (mx - (args.map fun v => v.category).sum) none
def ilen : Instr → Nat
 | .aload _ | .iload _ | .lload _ | .istore _ | .lstore _ | .astore _ | .bipush _ | .ldc _ | .newarray _ => 2
 | .sipush _ | .ldc2_w _ | .iinc _ _ | .goto _ | .ifCond _ _ | .if_icmp _ _ | .getfield _ | .putfield _ | .new _ | .invokevirtual _ | .invokespecial _ | .invokestatic _ => 3
 | _ => 1
def qtgt (pc : Nat) (o : Int) (aux : Nat) : Bool := decide (0 ≤ (pc : Int) + o) && decide (((pc : Int) + o).toNat = aux)
def qlk (m pc : Nat) (i : Instr) (aux : Nat) : Bool :=
 match i with
 | .goto o => qtgt pc o aux
 | .ifCond _ o => qtgt pc o aux
 | .if_icmp _ o => qtgt pc o aux
 | .getfield idx => lkF.contains (pK m, idx, aux)
 | .putfield idx => lkF.contains (pK m, idx, aux) && (!fFin aux || (pK m == 1 && pNm m == "<init>"))
 | .new idx => lkN.contains (pK m, idx)
 | .newarray t => aTys.contains (newarray.typeOf t)
 | .ldc idx => lkC.contains (pK m, idx, aux)
 | .ldc2_w idx => lkD.contains (pK m, idx, aux)
 | _ => true
def qchk (m pc : Nat) (i : Instr) (aux : Nat) : Bool := decide (decode (pBytes m) pc = .ok (i, ilen i)) && qlk m pc i aux
def QCellOk (Z : State) (ad : Nat → Addr) (h : Heap) (a : Addr) : QCell → Prop
 | .inl vs => Exa Z h a cName ∧ vs.length = nF ∧ ∀ (k : Nat) (v : Value), k < nF → vget vs k = some v → Fld Z h a cName (fNm k) (fDs k) (qv ad v)
 | .inr (.inl x) => ∃ c : Cell, Arr Z h a c x.1 ∧ c.slots = (x.2.map Value.int).toArray
 | .inr (.inr x) => ∃ c : Cell, Arr Z h a c .long ∧ c.slots = (x.map Value.long).toArray
def QAd (n0 : Nat) (ad : Nat → Addr) : Prop := (∀ k, k0 ≤ k → ad k = n0 + (k - k0)) ∧ ∀ i j, ad i = ad j → i = j
def QRep (Z : State) (n0 : Nat) (ad : Nat → Addr) (h : Heap) (σ : QHeap) : Prop := k0 ≤ σ.length ∧ h.size = n0 + (σ.length - k0) ∧ ∀ k c, hget σ k = some c → QCellOk Z ad h (ad k) c
def QLocOk (ad : Nat → Addr) (L : QLoc) (C : Array Slot) : Prop :=
 L.length = C.size ∧ (∀ k v, lget L k = some v → C[k]? = some (.val (qv ad v))) ∧ (∀ k w, C[k]? = some (.val w) → w.category = 2 → C[k + 1]? = some .second) ∧ ∀ k, C[k]? = some .second → ∃ j w, k = j + 1 ∧ C[j]? = some (.val w) ∧ w.category = 2
def QW (Z : State) (a0 : Array Value) : Prop :=
 (∀ t ∈ lkF, (Cond.fieldLink (kName t.1) t.2.1 cName (fNm t.2.2) (fDs t.2.2)).before a0 Z = true) ∧
 (∀ t ∈ lkN, (Cond.classLink (kName t.1) t.2 cName).before a0 Z = true) ∧
 (∀ t ∈ lkC, ∃ v, vget cK t.2.2 = some (.int v) ∧ (Cond.constant (kName t.1) t.2.1 v).before a0 Z = true) ∧
 (∀ t ∈ lkD, ∃ v, vget cK t.2.2 = some (.long v) ∧ (Cond.constantLong (kName t.1) t.2.1 v).before a0 Z = true) ∧
 (∀ t ∈ lkV, (Cond.methodLink (kName t.1) t.2.1 (pName t.2.2)).before a0 Z = true) ∧
 (∀ t ∈ lkO, (Cond.methodLink (kName t.1) t.2 Lib.objectInit).before a0 Z = true) ∧
 (∀ m ∈ mV, (Cond.declares (pName m)).before a0 Z = true ∧ (Cond.selects cName (pName m) (pName m)).before a0 Z = true ∧ (Cond.instanceMethod (pName m)).before a0 Z = true) ∧
 (∀ m ∈ mP, (Cond.instanceMethod (pName m)).before a0 Z = true ∧ (Cond.privateMethod (pName m)).before a0 Z = true) ∧
 (∀ m ∈ mS, (Cond.static (pName m)).before a0 Z = true) ∧
 (∀ m ∈ mI, (Cond.instanceMethod (pName m)).before a0 Z = true) ∧
 (∀ m ∈ mA, (Cond.code (pName m) (pBytes m) (pMaxL m) (pRet m)).before a0 Z = true ∧ (Cond.initialized (kName (pK m))).before a0 Z = true) ∧
 (Cond.instanceMethod Lib.objectInit).before a0 Z = true ∧ (Cond.code Lib.objectInit ⟨#[0xb1]⟩ 1 none).before a0 Z = true ∧
 (∀ k, k < nF → bif fFin k then (Cond.laysFinal cName cName (fNm k) (fDs k)).before a0 Z = true else (Cond.lays cName cName (fNm k) (fDs k)).before a0 Z = true) ∧
 (Cond.instantiable cName cN).before a0 Z = true ∧ (Cond.initialized cName).before a0 Z = true ∧
 ∀ ty ∈ aTys, (Cond.arrayClass ty).before a0 Z = true
section Words
variable {Z : State} {a0 : Array Value}
theorem qw_fl (W : QW Z a0) : ∀ t ∈ lkF, (Cond.fieldLink (kName t.1) t.2.1 cName (fNm t.2.2) (fDs t.2.2)).before a0 Z = true := W.1
theorem qw_nw (W : QW Z a0) : ∀ t ∈ lkN, (Cond.classLink (kName t.1) t.2 cName).before a0 Z = true := W.2.1
theorem qw_cI (W : QW Z a0) : ∀ t ∈ lkC, ∃ v, vget cK t.2.2 = some (.int v) ∧ (Cond.constant (kName t.1) t.2.1 v).before a0 Z = true := W.2.2.1
theorem qw_cJ (W : QW Z a0) : ∀ t ∈ lkD, ∃ v, vget cK t.2.2 = some (.long v) ∧ (Cond.constantLong (kName t.1) t.2.1 v).before a0 Z = true := W.2.2.2.1
theorem qw_ml (W : QW Z a0) : ∀ t ∈ lkV, (Cond.methodLink (kName t.1) t.2.1 (pName t.2.2)).before a0 Z = true := W.2.2.2.2.1
theorem qw_mo (W : QW Z a0) : ∀ t ∈ lkO, (Cond.methodLink (kName t.1) t.2 Lib.objectInit).before a0 Z = true := W.2.2.2.2.2.1
theorem qw_vi (W : QW Z a0) : ∀ m ∈ mV, (Cond.declares (pName m)).before a0 Z = true ∧ (Cond.selects cName (pName m) (pName m)).before a0 Z = true ∧ (Cond.instanceMethod (pName m)).before a0 Z = true := W.2.2.2.2.2.2.1
theorem qw_pr (W : QW Z a0) : ∀ m ∈ mP, (Cond.instanceMethod (pName m)).before a0 Z = true ∧ (Cond.privateMethod (pName m)).before a0 Z = true := W.2.2.2.2.2.2.2.1
theorem qw_ini (W : QW Z a0) : ∀ m ∈ mI, (Cond.instanceMethod (pName m)).before a0 Z = true := W.2.2.2.2.2.2.2.2.2.1
theorem qw_cod (W : QW Z a0) : ∀ m ∈ mA, (Cond.code (pName m) (pBytes m) (pMaxL m) (pRet m)).before a0 Z = true ∧ (Cond.initialized (kName (pK m))).before a0 Z = true := W.2.2.2.2.2.2.2.2.2.2.1
theorem qw_oi (W : QW Z a0) : (Cond.instanceMethod Lib.objectInit).before a0 Z = true := W.2.2.2.2.2.2.2.2.2.2.2.1
theorem qw_oc (W : QW Z a0) : (Cond.code Lib.objectInit ⟨#[0xb1]⟩ 1 none).before a0 Z = true := W.2.2.2.2.2.2.2.2.2.2.2.2.1
theorem qw_lay (W : QW Z a0) : ∀ k, k < nF → bif fFin k then (Cond.laysFinal cName cName (fNm k) (fDs k)).before a0 Z = true else (Cond.lays cName cName (fNm k) (fDs k)).before a0 Z = true := W.2.2.2.2.2.2.2.2.2.2.2.2.2.1
theorem qw_inst (W : QW Z a0) : (Cond.instantiable cName cN).before a0 Z = true := W.2.2.2.2.2.2.2.2.2.2.2.2.2.2.1
theorem qw_init (W : QW Z a0) : (Cond.initialized cName).before a0 Z = true := W.2.2.2.2.2.2.2.2.2.2.2.2.2.2.2.1
theorem qw_arr (W : QW Z a0) : ∀ ty ∈ aTys, (Cond.arrayClass ty).before a0 Z = true := W.2.2.2.2.2.2.2.2.2.2.2.2.2.2.2.2
end Words
theorem hget_eq : ∀ (σ : QHeap) k, hget σ k = σ[k]?
 | [], _ => by simp [hget]
 | _ :: _, 0 => by simp [hget]
 | _ :: t, k + 1 => by simp [hget, hget_eq t k]
theorem vget_eq : ∀ (σ : List Value) k, vget σ k = σ[k]?
 | [], _ => by simp [vget]
 | _ :: _, 0 => by simp [vget]
 | _ :: t, k + 1 => by simp [vget, vget_eq t k]
theorem lget_eq : ∀ (L : QLoc) k, lget L k = (L[k]?).getD none
 | [], _ => by simp [lget]
 | _ :: _, 0 => by simp [lget]
 | _ :: t, k + 1 => by simp [lget, lget_eq t k]
theorem lget_lt {L : QLoc} {k : Nat} {v : Value} (h : lget L k = some v) : k < L.length := by
 rw [lget_eq] at h
 rcases Nat.lt_or_ge k L.length with q | q
 ·exact q
 ·simp [List.getElem?_eq_none q] at h
theorem lget_set {L : QLoc} {k j : Nat} {o : Option Value} (hk : k < L.length) : lget (L.set k o) j = if j = k then o else lget L j := by
 simp only [lget_eq, List.getElem?_set]
 by_cases e : k = j
 ·subst e; simp [hk]
 ·simp [e, Ne.symm e]
theorem qhs_app (σ τ : QHeap) : qhs (σ ++ τ) = qhs σ + qhs τ := by
 induction σ with
 | nil => simp [qhs]
 | cons c t ih => simp [qhs, ih, Nat.add_assoc]
theorem qhs_set {σ : QHeap} {k : Nat} {c d : QCell} (h : hget σ k = some c) (hs : qsz d = qsz c) : qhs (σ.set k d) = qhs σ := by
 induction σ generalizing k with
 | nil => simp [hget] at h
 | cons x t ih =>
  cases k with
  | zero => simp only [hget, Option.some.injEq] at h; subst h; simp [qhs, hs]
  | succ k => simp only [hget] at h; simp [qhs, ih h]
theorem hget_set {σ : QHeap} {k j : Nat} {c d : QCell} (h : hget σ k = some c) : hget (σ.set k d) j = if j = k then some d else hget σ j := by
 rw [hget_eq] at h
 have hk := (List.getElem?_eq_some_iff.mp h).1
 simp only [hget_eq, List.getElem?_set]
 by_cases e : k = j
 ·subst e; simp [hk]
 ·simp [e, Ne.symm e]
theorem lkill_len (L : QLoc) (k : Nat) : (lkill L k).length = L.length := by
 cases k with
 | zero => rfl
 | succ k => simp only [lkill]; split <;> simp
theorem lget_kill {L : QLoc} {k j : Nat} {v : Value} (h : lget (lkill L k) j = some v) : lget L j = some v ∧ (k = j + 1 → v.category ≠ 2) := by
 cases k with
 | zero => exact ⟨h, fun e => by omega⟩
 | succ k =>
  simp only [lkill] at h
  split at h
  ·rename_i x q
   rw [lget_set (lget_lt q)] at h
   split at h
   ·cases h
   ·rename_i ne; exact ⟨h, fun e => absurd (by omega) ne⟩
  ·rename_i x q
   rw [lget_set (lget_lt q)] at h
   split at h
   ·cases h
   ·rename_i ne; exact ⟨h, fun e => absurd (by omega) ne⟩
  ·rename_i q1 q2
   refine ⟨h, fun e hc => ?_⟩
   obtain rfl : j = k := by omega
   cases v with
   | long x => exact q1 _ h
   | double x => exact q2 _ h
   | _ => simp [Value.category] at hc
theorem qv_cat (ad : Nat → Addr) (v : Value) : (qv ad v).category = v.category := by cases v <;> rfl
def kA (C : Array Slot) (k j : Nat) : Prop := k = j + 1 ∧ C[k]? = some .second
def kB (C : Array Slot) (k j : Nat) : Prop := j = k + 1 ∧ ∃ u, C[k]? = some (.val u) ∧ u.category = 2
def kD (C : Array Slot) (k j : Nat) : Prop := j = k + 2 ∧ ∃ u, C[k + 1]? = some (.val u) ∧ u.category = 2
theorem set1_at {C D : Array Slot} {k : Nat} {w : Value} (hk : k < C.size) (hw : w.category = 1) (h : storeLocals C k w = some D) :
  D.size = C.size ∧ D[k]? = some (.val w) ∧ ∀ j, j ≠ k → (D[j]? = C[j]? ∧ ¬ kA C k j ∧ ¬ kB C k j) ∨ D[j]? = some .unset ∧ (kA C k j ∨ kB C k j) := by
 have hck : C[k]? = some C[k] := Array.getElem?_eq_getElem hk
 unfold storeLocals at h
 simp only [hck, Option.bind_eq_bind, Option.bind_some] at h
 have self : ∀ {E : Array Slot}, k < E.size → storeSelf E k w = some D → D = E.setIfInBounds k (.val w) := by
  intro E hE q
  simp only [storeSelf, setAt, hE, if_true, Option.bind_eq_bind, Option.bind_some, hw] at q
  simpa using q.symm
 split at h
 ·rename_i q
  have hk1 : k - 1 < C.size := by omega
  simp only [setAt, hk1, if_true, Option.bind_some] at h
  have e := self (by simpa using hk) h
  subst e
  refine ⟨by simp, by simp [hk], fun j hj => ?_⟩
  by_cases ej : k = j + 1
  ·refine Or.inr ⟨?_, Or.inl ⟨ej, by rw [hck, q]⟩⟩
   rw [Array.getElem?_setIfInBounds_ne (Ne.symm hj), show j = k - 1 by omega]
   simp [hk1]
  ·refine Or.inl ⟨?_, fun x => ej x.1, fun x => ?_⟩
   ·rw [Array.getElem?_setIfInBounds_ne (Ne.symm hj), Array.getElem?_setIfInBounds_ne (by omega)]
   ·obtain ⟨-, u, x1, -⟩ := x
    rw [hck, q] at x1; cases x1
 ·rename_i u q
  split at h
  ·rename_i hu
   by_cases hk1 : k + 1 < C.size
   ·simp only [setAt, hk1, if_true, Option.bind_some] at h
    have e := self (by simpa using hk) h
    subst e
    refine ⟨by simp, by simp [hk], fun j hj => ?_⟩
    by_cases ej : j = k + 1
    ·refine Or.inr ⟨?_, Or.inr ⟨ej, u, by rw [hck, q], hu⟩⟩
     rw [Array.getElem?_setIfInBounds_ne (Ne.symm hj), ej]
     simp [hk1]
    ·refine Or.inl ⟨?_, fun x => ?_, fun x => ej x.1⟩
     ·rw [Array.getElem?_setIfInBounds_ne (Ne.symm hj), Array.getElem?_setIfInBounds_ne (by omega)]
     ·obtain ⟨-, x1⟩ := x
      rw [hck, q] at x1; cases x1
   ·simp [setAt, hk1] at h
  ·rename_i hu
   have e := self hk h
   subst e
   refine ⟨by simp, by simp [hk], fun j hj => Or.inl ⟨Array.getElem?_setIfInBounds_ne (Ne.symm hj), fun x => ?_, fun x => ?_⟩⟩
   ·obtain ⟨-, x1⟩ := x
    rw [hck, q] at x1; cases x1
   ·obtain ⟨-, u', x1, x2⟩ := x
    rw [hck, q] at x1; cases x1; exact hu x2
 ·rename_i q
  have e := self hk h
  subst e
  refine ⟨by simp, by simp [hk], fun j hj => Or.inl ⟨Array.getElem?_setIfInBounds_ne (Ne.symm hj), fun x => ?_, fun x => ?_⟩⟩
  ·obtain ⟨-, x1⟩ := x
   rw [hck, q] at x1; cases x1
  ·obtain ⟨-, u', x1, x2⟩ := x
   rw [hck, q] at x1; cases x1
theorem set2_at {C D : Array Slot} {k : Nat} {w : Value} (hk : k + 1 < C.size) (hw : w.category = 2) (wf : ∀ k w, C[k]? = some (.val w) → w.category = 2 → C[k + 1]? = some .second) (h : storeLocals C k w = some D) :
  D.size = C.size ∧ D[k]? = some (.val w) ∧ D[k + 1]? = some .second ∧ ∀ j, j ≠ k → j ≠ k + 1 → (D[j]? = C[j]? ∧ ¬ kA C k j ∧ ¬ kD C k j) ∨ D[j]? = some .unset ∧ (kA C k j ∨ kD C k j) := by
 have hk0 : k < C.size := by omega
 have hck : C[k]? = some C[k] := Array.getElem?_eq_getElem hk0
 unfold storeLocals at h
 simp only [hck, Option.bind_eq_bind, Option.bind_some] at h
 have self : ∀ {E : Array Slot}, E.size = C.size → storeSelf E k w = some D → D.size = C.size ∧ D[k]? = some (.val w) ∧ D[k + 1]? = some .second ∧ ∀ j, j ≠ k → j ≠ k + 1 → (D[j]? = E[j]? ∧ ¬ kD E k j) ∨ D[j]? = some .unset ∧ kD E k j := by
  intro E hs q
  have h1 : k < E.size := by omega
  have h2 : k + 1 < E.size := by omega
  have h3 : (E.setIfInBounds k (.val w))[k + 1]? = some E[k + 1] := by rw [Array.getElem?_setIfInBounds_ne (by omega)]; exact Array.getElem?_eq_getElem h2
  simp only [storeSelf, setAt, h1, if_true, Option.bind_eq_bind, Option.bind_some, hw, h3] at q
  have plain : (¬ ∃ u, E[k + 1]? = some (.val u) ∧ u.category = 2) → some ((E.setIfInBounds k (.val w)).setIfInBounds (k + 1) .second) = some D → D.size = C.size ∧ D[k]? = some (.val w) ∧ D[k + 1]? = some .second ∧ ∀ j, j ≠ k → j ≠ k + 1 → (D[j]? = E[j]? ∧ ¬ kD E k j) ∨ D[j]? = some .unset ∧ kD E k j := by
   intro no q
   cases q
   refine ⟨by simp [hs], ?_, ?_, fun j hj hj1 => Or.inl ⟨?_, fun x => no x.2⟩⟩
   ·rw [Array.getElem?_setIfInBounds_ne (by omega)]; simp [h1]
   ·simp [h2]
   ·rw [Array.getElem?_setIfInBounds_ne (by omega), Array.getElem?_setIfInBounds_ne (by omega)]
  split at q
  ·rename_i u hu
   split at q
   ·rename_i hu2
    by_cases h5 : k + 2 < E.size
    ·simp [h5, h2] at q
     cases q
     refine ⟨by simp [hs], ?_, ?_, fun j hj hj1 => ?_⟩
     ·rw [Array.getElem?_setIfInBounds_ne (by omega), Array.getElem?_setIfInBounds_ne (by omega)]; simp [h1]
     ·simp [h2]
     ·by_cases e : j = k + 2
      ·refine Or.inr ⟨?_, e, u, by rw [Array.getElem?_eq_getElem h2, hu], hu2⟩
       rw [Array.getElem?_setIfInBounds_ne (by omega), e]
       simp [h5]
      ·refine Or.inl ⟨?_, fun x => e x.1⟩
       rw [Array.getElem?_setIfInBounds_ne (by omega), Array.getElem?_setIfInBounds_ne (by omega), Array.getElem?_setIfInBounds_ne (by omega)]
    ·simp [h5] at q
   ·rename_i hu2
    refine plain ?_ (by simpa [h2] using q)
    rintro ⟨u', x1, x2⟩
    rw [Array.getElem?_eq_getElem h2, hu] at x1; cases x1; exact hu2 x2
  ·rename_i hu
   refine plain ?_ (by simpa [h2] using q)
   rintro ⟨u', x1, x2⟩
   rw [Array.getElem?_eq_getElem h2] at x1; exact hu _ (Option.some.inj x1)
 split at h
 ·rename_i q
  have hk1 : k - 1 < C.size := by omega
  simp only [setAt, hk1, if_true, Option.bind_some] at h
  obtain ⟨e1, e2, e3, e4⟩ := self (by simp) h
  refine ⟨e1, e2, e3, fun j hj hj1 => ?_⟩
  have h6 : ∀ i, i + 1 ≠ k ∨ k = 0 → i ≠ k ∨ k ≠ 0 → (C.setIfInBounds (k - 1) Slot.unset)[i]? = C[i]? := fun i hi hi2 => Array.getElem?_setIfInBounds_ne (by omega)
  have h7 : (C.setIfInBounds (k - 1) Slot.unset)[k + 1]? = C[k + 1]? := Array.getElem?_setIfInBounds_ne (by omega)
  rcases e4 j hj hj1 with ⟨r, r'⟩ | ⟨r, r1, u, r2, r3⟩
  ·by_cases ej : k = j + 1
   ·refine Or.inr ⟨?_, Or.inl ⟨ej, by rw [hck, q]⟩⟩
    rw [r, show j = k - 1 by omega]; simp [hk1]
   ·refine Or.inl ⟨by rw [r]; exact h6 _ (by omega) (by omega), fun x => ej x.1, fun x => r' ⟨x.1, ?_⟩⟩
    rw [h7]; exact x.2
  ·exact Or.inr ⟨r, Or.inr ⟨r1, u, by rw [← h7]; exact r2, r3⟩⟩
 ·rename_i u q
  split at h
  ·rename_i hu
   simp only [setAt, hk, if_true, Option.bind_some] at h
   obtain ⟨e1, e2, e3, e4⟩ := self (by simp) h
   have hsec := wf k u (by rw [hck, q]) hu
   refine ⟨e1, e2, e3, fun j hj hj1 => ?_⟩
   rcases e4 j hj hj1 with ⟨r, r'⟩ | ⟨r, r1, u', r2, r3⟩
   ·refine Or.inl ⟨by rw [r]; exact Array.getElem?_setIfInBounds_ne (by omega), fun x => ?_, fun x => ?_⟩
    ·obtain ⟨-, x1⟩ := x
     rw [hck, q] at x1; cases x1
    ·obtain ⟨-, u', x1, x2⟩ := x
     rw [hsec] at x1; cases x1
   ·simp [hk] at r2
  ·rename_i hu
   obtain ⟨e1, e2, e3, e4⟩ := self rfl h
   refine ⟨e1, e2, e3, fun j hj hj1 => ?_⟩
   rcases e4 j hj hj1 with ⟨r, r'⟩ | ⟨r, r'⟩
   ·refine Or.inl ⟨r, fun x => ?_, r'⟩
    obtain ⟨-, x1⟩ := x
    rw [hck, q] at x1; cases x1
   ·exact Or.inr ⟨r, Or.inr r'⟩
 ·rename_i q
  obtain ⟨e1, e2, e3, e4⟩ := self rfl h
  refine ⟨e1, e2, e3, fun j hj hj1 => ?_⟩
  rcases e4 j hj hj1 with ⟨r, r'⟩ | ⟨r, r'⟩
  ·refine Or.inl ⟨r, fun x => ?_, r'⟩
   obtain ⟨-, x1⟩ := x
   rw [hck, q] at x1; cases x1
  ·exact Or.inr ⟨r, Or.inr r'⟩
theorem store_some {C : Array Slot} {k : Nat} {w : Value} (hk : k + (w.category - 1) < C.size) (hc : w.category = 1 ∨ w.category = 2) (wf : ∀ k w, C[k]? = some (.val w) → w.category = 2 → C[k + 1]? = some .second) :
  ∃ D, storeLocals C k w = some D := by
 have hk0 : k < C.size := by omega
 have hck : C[k]? = some C[k] := Array.getElem?_eq_getElem hk0
 have self : ∀ {E : Array Slot}, E.size = C.size → (∀ u, E[k + 1]? = some (.val u) → u.category = 2 → k + 2 < E.size) → ∃ D, storeSelf E k w = some D := by
  intro E hs hn
  have h1 : k < E.size := by omega
  simp only [storeSelf, setAt, h1, if_true, Option.bind_eq_bind, Option.bind_some]
  rcases hc with hc | hc
  ·exact ⟨E.setIfInBounds k (.val w), by simp [hc]⟩
  ·have h2 : k + 1 < E.size := by omega
   have h3 : (E.setIfInBounds k (.val w))[k + 1]? = some E[k + 1] := by rw [Array.getElem?_setIfInBounds_ne (by omega)]; exact Array.getElem?_eq_getElem h2
   simp only [hc, if_true, h3, Option.bind_some]
   split
   ·rename_i u hu
    split
    ·rename_i hu2
     have h5 := hn u (by rw [Array.getElem?_eq_getElem h2, hu]) hu2
     exact ⟨_, by simp [h5, h2]; rfl⟩
    ·exact ⟨_, by simp [h2]; rfl⟩
   ·exact ⟨_, by simp [h2]; rfl⟩
 have next : ∀ u, C[k + 1]? = some (.val u) → u.category = 2 → k + 2 < C.size := fun u h1 h2 => (Array.getElem?_eq_some_iff.mp (wf _ _ h1 h2)).1
 unfold storeLocals
 simp only [hck, Option.bind_eq_bind, Option.bind_some]
 split
 ·have hk1 : k - 1 < C.size := by omega
  simp only [setAt, hk1, if_true, Option.bind_some]
  refine self (by simp) fun u h1 h2 => ?_
  rw [Array.getElem?_setIfInBounds_ne (by omega)] at h1
  simpa using next u h1 h2
 ·rename_i u q
  split
  ·rename_i hu
   have h5 := (Array.getElem?_eq_some_iff.mp (wf k u (by rw [hck, q]) hu)).1
   simp only [setAt, h5, if_true, Option.bind_some]
   refine self (by simp) fun u h1 h2 => ?_
   simp [h5] at h1
  ·exact self rfl next
 ·exact self rfl next
theorem store_ok1 {ad : Nat → Addr} {L : QLoc} {C : Array Slot} {k : Nat} {v : Value} (H : QLocOk ad L C) (hv : v.category = 1) (hk : k < L.length) :
  ∃ D, storeLocals C k (qv ad v) = some D ∧ QLocOk ad ((lkill L k).set k (some v)) D ∧ D.size = C.size := by
 obtain ⟨H1, H2, H3, H4⟩ := H
 have hc : (qv ad v).category = 1 := by rw [qv_cat, hv]
 obtain ⟨D, hD⟩ := store_some (C := C) (k := k) (w := qv ad v) (by rw [hc]; omega) (Or.inl hc) H3
 obtain ⟨d1, d2, d3⟩ := set1_at (by omega) hc hD
 refine ⟨D, hD, ⟨by simp [lkill_len, H1, d1], fun j u hj => ?_, fun j w hj hw => ?_, fun j hj => ?_⟩, d1⟩
 ·rw [lget_set (by rw [lkill_len]; exact hk)] at hj
  split at hj
  ·rename_i e; cases hj; rw [e]; exact d2
  ·rename_i ne
   obtain ⟨g1, g2⟩ := lget_kill hj
   have g3 := H2 j u g1
   rcases d3 j ne with ⟨r, -, -⟩ | ⟨-, ⟨r1, r2⟩ | ⟨r1, w, r2, r3⟩⟩
   ·rw [r]; exact g3
   ·obtain ⟨i, w, z1, z2, z3⟩ := H4 k r2
    obtain rfl : i = j := by omega
    rw [g3] at z2
    cases z2
    rw [qv_cat] at z3
    exact absurd z3 (g2 r1)
   ·have := H3 k w r2 r3
    rw [← r1, g3] at this
    cases this
 ·by_cases e : j = k
  ·subst e; rw [d2] at hj; cases hj; rw [hc] at hw; cases hw
  ·rcases d3 j e with ⟨r, nA, nB⟩ | ⟨r, -⟩
   ·rw [r] at hj
    have g := H3 j w hj hw
    have e2 : j + 1 ≠ k := fun q => nA ⟨q.symm, by rw [← q]; exact g⟩
    rcases d3 (j + 1) e2 with ⟨z, -, -⟩ | ⟨-, ⟨z1, z2⟩ | ⟨z1, -⟩⟩
    ·rw [z]; exact g
    ·obtain ⟨i, u, y1, y2, y3⟩ := H4 k z2
     obtain rfl : i = j + 1 := by omega
     rw [g] at y2; cases y2
    ·omega
   ·rw [r] at hj; cases hj
 ·by_cases e : j = k
  ·subst e; rw [d2] at hj; cases hj
  ·rcases d3 j e with ⟨r, nA, nB⟩ | ⟨r, -⟩
   ·rw [r] at hj
    obtain ⟨i, w, y1, y2, y3⟩ := H4 j hj
    refine ⟨i, w, y1, ?_, y3⟩
    have ei : i ≠ k := fun q => nB ⟨by omega, w, by rw [← q]; exact y2, y3⟩
    rcases d3 i ei with ⟨z, -, -⟩ | ⟨-, ⟨z1, z2⟩ | ⟨z1, u, z2, z3⟩⟩
    ·rw [z]; exact y2
    ·omega
    ·have := H3 k u z2 z3
     rw [← z1, y2] at this; cases this
   ·rw [r] at hj; cases hj
theorem store_ok2 {ad : Nat → Addr} {L : QLoc} {C : Array Slot} {k : Nat} {x : Int64} (H : QLocOk ad L C) (hk : k + 1 < L.length) :
  ∃ D, storeLocals C k (.long x) = some D ∧ QLocOk ad (((lkill L k).set k (some (.long x))).set (k + 1) none) D ∧ D.size = C.size := by
 obtain ⟨H1, H2, H3, H4⟩ := H
 have hc : (Value.long x).category = 2 := rfl
 obtain ⟨D, hD⟩ := store_some (C := C) (k := k) (w := .long x) (by rw [hc]; omega) (Or.inr hc) H3
 obtain ⟨d1, d2, d2', d3⟩ := set2_at (by omega) hc H3 hD
 refine ⟨D, hD, ⟨by simp [lkill_len, H1, d1], fun j u hj => ?_, fun j w hj hw => ?_, fun j hj => ?_⟩, d1⟩
 ·rw [lget_set (by simp [lkill_len]; exact hk)] at hj
  split at hj
  ·cases hj
  ·rename_i ne1
   rw [lget_set (by rw [lkill_len]; omega)] at hj
   split at hj
   ·rename_i e; cases hj; rw [e]; exact d2
   ·rename_i ne
    obtain ⟨g1, g2⟩ := lget_kill hj
    have g3 := H2 j u g1
    rcases d3 j ne ne1 with ⟨r, -, -⟩ | ⟨-, ⟨r1, r2⟩ | ⟨r1, w, r2, r3⟩⟩
    ·rw [r]; exact g3
    ·obtain ⟨i, w, z1, z2, z3⟩ := H4 k r2
     obtain rfl : i = j := by omega
     rw [g3] at z2
     cases z2
     rw [qv_cat] at z3
     exact absurd z3 (g2 r1)
    ·have := H3 (k + 1) w r2 r3
     rw [show k + 1 + 1 = j by omega, g3] at this
     cases this
 ·by_cases e : j = k
  ·rw [e]; exact d2'
  ·by_cases e1 : j = k + 1
   ·rw [e1, d2'] at hj; cases hj
   ·rcases d3 j e e1 with ⟨r, nA, nB⟩ | ⟨r, -⟩
    ·rw [r] at hj
     have g := H3 j w hj hw
     have e2 : j + 1 ≠ k := fun q => nA ⟨q.symm, by rw [← q]; exact g⟩
     rcases d3 (j + 1) e2 (by omega) with ⟨z, -, -⟩ | ⟨-, ⟨z1, z2⟩ | ⟨z1, -⟩⟩
     ·rw [z]; exact g
     ·obtain ⟨i, u, y1, y2, y3⟩ := H4 k z2
      obtain rfl : i = j + 1 := by omega
      rw [g] at y2; cases y2
     ·omega
    ·rw [r] at hj; cases hj
 ·by_cases e : j = k
  ·rw [e, d2] at hj; cases hj
  ·by_cases e1 : j = k + 1
   ·exact ⟨k, _, e1, d2, hc⟩
   ·rcases d3 j e e1 with ⟨r, nA, nB⟩ | ⟨r, -⟩
    ·rw [r] at hj
     obtain ⟨i, w, y1, y2, y3⟩ := H4 j hj
     refine ⟨i, w, y1, ?_, y3⟩
     have ei : i ≠ k := fun q => e1 (by omega)
     have ei1 : i ≠ k + 1 := fun q => nB ⟨by omega, w, by rw [← q]; exact y2, y3⟩
     rcases d3 i ei ei1 with ⟨z, -, -⟩ | ⟨-, ⟨z1, z2⟩ | ⟨z1, u, z2, z3⟩⟩
     ·rw [z]; exact y2
     ·omega
     ·have := H3 (k + 1) u z2 z3
      rw [show k + 1 + 1 = i by omega, y2] at this; cases this
    ·rw [r] at hj; cases hj
theorem store_ok {ad : Nat → Addr} {L L' : QLoc} {C : Array Slot} {k : Nat} {v : Value} (H : QLocOk ad L C) (h : lput L k v = some L') :
  ∃ D, storeLocals C k (qv ad v) = some D ∧ QLocOk ad L' D ∧ D.size = C.size := by
 have one : v.category = 1 → (bif Nat.ble (k + 1) L.length then some ((lkill L k).set k (some v)) else none) = some L' → ∃ D, storeLocals C k (qv ad v) = some D ∧ QLocOk ad L' D ∧ D.size = C.size := by
  intro hv h
  cases hb : Nat.ble (k + 1) L.length with
  | false => rw [hb] at h; cases h
  | true => rw [hb] at h; cases h; exact store_ok1 H hv (Nat.le_of_ble_eq_true hb)
 cases v with
 | long x =>
  simp only [lput] at h
  cases hb : Nat.ble (k + 2) L.length with
  | false => rw [hb] at h; cases h
  | true => rw [hb] at h; cases h; exact store_ok2 H (Nat.le_of_ble_eq_true hb)
 | double x => simp [lput] at h
 | int x => exact one rfl h
 | float x => exact one rfl h
 | null => exact one rfl h
 | ref x => exact one rfl h
 | retAddr x => exact one rfl h
theorem fInj : ∀ i, i < nF → ∀ j, j < nF → fNm i = fNm j → i = j := by decide +kernel
theorem fPrs : ∀ i, i < nF → parseFieldDescriptor (fDs i) = some (fTy i) := by decide +kernel
theorem cDefs : ∀ i, i < nF → vget cDef i = some (defaultValue (fTy i)) := by decide +kernel
theorem cDefL : cDef.length = nF := by decide +kernel
theorem fDef : ∀ i, i < nF → ∀ a, defaultValue (fTy i) ≠ .ref a := by
 intro i _ a
 cases fTy i <;> simp [defaultValue]
theorem kPlain : ∀ k, k < 2 → plainName (kName k) = true := by
 intro k hk
 rcases k with _ | _ | k
 ·first | decide +kernel | (simp [kName, plainName, overriddenIn]; done)
 ·first | decide +kernel | (simp [kName, plainName, overriddenIn]; done)
 ·omega
theorem pKlt : ∀ m, m < pN → pK m < 2 := by decide +kernel
theorem pSig : ∀ m, m < pN → (parseMethodDescriptor (pDs m)).map (fun sg => sg.parameters.length) = some (pNA m) := by decide +kernel
theorem pOwn : ∀ k, k < 2 → kName k ≠ "java/lang/invoke/MethodHandle" ∧ kName k ≠ "java/lang/invoke/VarHandle" := by decide +kernel
theorem mAlt : ∀ m ∈ mA, m < pN := by decide +kernel
theorem mVlt : ∀ m ∈ mV, m ∈ mA ∧ pK m = 1 := by decide +kernel
theorem mPlt : ∀ m ∈ mP, m ∈ mA ∧ pK m = 1 := by decide +kernel
theorem mIlt : ∀ m ∈ mI, m ∈ mA ∧ pK m = 1 ∧ pNm m = "<init>" ∧ pRet m = none := by decide +kernel
theorem kOne : kName 1 = cName := rfl
def pX (m pc : Nat) : Bool := match pCode m pc with | some t => qchk m pc t.1 t.2 | none => true
set_option maxRecDepth 100000 in
set_option maxHeartbeats 4000000 in
theorem pC0_0 : ∀ q, q < 128 → pX 0 (0 + q) = true := by decide +kernel
set_option maxRecDepth 100000 in
set_option maxHeartbeats 4000000 in
theorem pC0_128 : ∀ q, q < 128 → pX 0 (128 + q) = true := by decide +kernel
set_option maxRecDepth 100000 in
set_option maxHeartbeats 4000000 in
theorem pC0_256 : ∀ q, q < 128 → pX 0 (256 + q) = true := by decide +kernel
set_option maxRecDepth 100000 in
set_option maxHeartbeats 4000000 in
theorem pC0_384 : ∀ q, q < 128 → pX 0 (384 + q) = true := by decide +kernel
set_option maxRecDepth 100000 in
set_option maxHeartbeats 4000000 in
theorem pC0_512 : ∀ q, q < 31 → pX 0 (512 + q) = true := by decide +kernel
theorem pCm0 (pc : Nat) (h : pc < pTop 0) : pX 0 pc = true := by
 replace h : pc < 543 := h
 by_cases h0 : pc < 128
 ·have q := pC0_0 (pc - 0) (by omega)
  rwa [show 0 + (pc - 0) = pc from by omega] at q
 by_cases h128 : pc < 256
 ·have q := pC0_128 (pc - 128) (by omega)
  rwa [show 128 + (pc - 128) = pc from by omega] at q
 by_cases h256 : pc < 384
 ·have q := pC0_256 (pc - 256) (by omega)
  rwa [show 256 + (pc - 256) = pc from by omega] at q
 by_cases h384 : pc < 512
 ·have q := pC0_384 (pc - 384) (by omega)
  rwa [show 384 + (pc - 384) = pc from by omega] at q
 have q := pC0_512 (pc - 512) (by omega)
 rwa [show 512 + (pc - 512) = pc from by omega] at q
set_option maxRecDepth 100000 in
set_option maxHeartbeats 4000000 in
theorem pC1_0 : ∀ q, q < 128 → pX 1 (0 + q) = true := by decide +kernel
set_option maxRecDepth 100000 in
set_option maxHeartbeats 4000000 in
theorem pC1_128 : ∀ q, q < 128 → pX 1 (128 + q) = true := by decide +kernel
set_option maxRecDepth 100000 in
set_option maxHeartbeats 4000000 in
theorem pC1_256 : ∀ q, q < 28 → pX 1 (256 + q) = true := by decide +kernel
theorem pCm1 (pc : Nat) (h : pc < pTop 1) : pX 1 pc = true := by
 replace h : pc < 284 := h
 by_cases h0 : pc < 128
 ·have q := pC1_0 (pc - 0) (by omega)
  rwa [show 0 + (pc - 0) = pc from by omega] at q
 by_cases h128 : pc < 256
 ·have q := pC1_128 (pc - 128) (by omega)
  rwa [show 128 + (pc - 128) = pc from by omega] at q
 have q := pC1_256 (pc - 256) (by omega)
 rwa [show 256 + (pc - 256) = pc from by omega] at q
set_option maxRecDepth 100000 in
set_option maxHeartbeats 4000000 in
theorem pC2_0 : ∀ q, q < 16 → pX 2 (0 + q) = true := by decide +kernel
theorem pCm2 (pc : Nat) (h : pc < pTop 2) : pX 2 pc = true := by
 replace h : pc < 16 := h
 have q := pC2_0 (pc - 0) (by omega)
 rwa [show 0 + (pc - 0) = pc from by omega] at q
set_option maxRecDepth 100000 in
set_option maxHeartbeats 4000000 in
theorem pC3_0 : ∀ q, q < 61 → pX 3 (0 + q) = true := by decide +kernel
theorem pCm3 (pc : Nat) (h : pc < pTop 3) : pX 3 pc = true := by
 replace h : pc < 61 := h
 have q := pC3_0 (pc - 0) (by omega)
 rwa [show 0 + (pc - 0) = pc from by omega] at q
set_option maxRecDepth 100000 in
set_option maxHeartbeats 4000000 in
theorem pC4_0 : ∀ q, q < 5 → pX 4 (0 + q) = true := by decide +kernel
theorem pCm4 (pc : Nat) (h : pc < pTop 4) : pX 4 pc = true := by
 replace h : pc < 5 := h
 have q := pC4_0 (pc - 0) (by omega)
 rwa [show 0 + (pc - 0) = pc from by omega] at q
set_option maxRecDepth 100000 in
set_option maxHeartbeats 4000000 in
theorem pC5_0 : ∀ q, q < 5 → pX 5 (0 + q) = true := by decide +kernel
theorem pCm5 (pc : Nat) (h : pc < pTop 5) : pX 5 pc = true := by
 replace h : pc < 5 := h
 have q := pC5_0 (pc - 0) (by omega)
 rwa [show 0 + (pc - 0) = pc from by omega] at q
set_option maxRecDepth 100000 in
set_option maxHeartbeats 4000000 in
theorem pC6_0 : ∀ q, q < 20 → pX 6 (0 + q) = true := by decide +kernel
theorem pCm6 (pc : Nat) (h : pc < pTop 6) : pX 6 pc = true := by
 replace h : pc < 20 := h
 have q := pC6_0 (pc - 0) (by omega)
 rwa [show 0 + (pc - 0) = pc from by omega] at q
set_option maxRecDepth 100000 in
set_option maxHeartbeats 4000000 in
theorem pC7_0 : ∀ q, q < 15 → pX 7 (0 + q) = true := by decide +kernel
theorem pCm7 (pc : Nat) (h : pc < pTop 7) : pX 7 pc = true := by
 replace h : pc < 15 := h
 have q := pC7_0 (pc - 0) (by omega)
 rwa [show 0 + (pc - 0) = pc from by omega] at q
set_option maxRecDepth 100000 in
set_option maxHeartbeats 4000000 in
theorem pC8_0 : ∀ q, q < 22 → pX 8 (0 + q) = true := by decide +kernel
theorem pCm8 (pc : Nat) (h : pc < pTop 8) : pX 8 pc = true := by
 replace h : pc < 22 := h
 have q := pC8_0 (pc - 0) (by omega)
 rwa [show 0 + (pc - 0) = pc from by omega] at q
set_option maxRecDepth 100000 in
set_option maxHeartbeats 4000000 in
theorem pC9_0 : ∀ q, q < 28 → pX 9 (0 + q) = true := by decide +kernel
theorem pCm9 (pc : Nat) (h : pc < pTop 9) : pX 9 pc = true := by
 replace h : pc < 28 := h
 have q := pC9_0 (pc - 0) (by omega)
 rwa [show 0 + (pc - 0) = pc from by omega] at q
set_option maxRecDepth 100000 in
set_option maxHeartbeats 4000000 in
theorem pC10_0 : ∀ q, q < 59 → pX 10 (0 + q) = true := by decide +kernel
theorem pCm10 (pc : Nat) (h : pc < pTop 10) : pX 10 pc = true := by
 replace h : pc < 59 := h
 have q := pC10_0 (pc - 0) (by omega)
 rwa [show 0 + (pc - 0) = pc from by omega] at q
set_option maxRecDepth 100000 in
set_option maxHeartbeats 4000000 in
theorem pC11_0 : ∀ q, q < 128 → pX 11 (0 + q) = true := by decide +kernel
set_option maxRecDepth 100000 in
set_option maxHeartbeats 4000000 in
theorem pC11_128 : ∀ q, q < 7 → pX 11 (128 + q) = true := by decide +kernel
theorem pCm11 (pc : Nat) (h : pc < pTop 11) : pX 11 pc = true := by
 replace h : pc < 135 := h
 by_cases h0 : pc < 128
 ·have q := pC11_0 (pc - 0) (by omega)
  rwa [show 0 + (pc - 0) = pc from by omega] at q
 have q := pC11_128 (pc - 128) (by omega)
 rwa [show 128 + (pc - 128) = pc from by omega] at q
set_option maxRecDepth 100000 in
set_option maxHeartbeats 4000000 in
theorem pC12_0 : ∀ q, q < 21 → pX 12 (0 + q) = true := by decide +kernel
theorem pCm12 (pc : Nat) (h : pc < pTop 12) : pX 12 pc = true := by
 replace h : pc < 21 := h
 have q := pC12_0 (pc - 0) (by omega)
 rwa [show 0 + (pc - 0) = pc from by omega] at q
set_option maxRecDepth 100000 in
set_option maxHeartbeats 4000000 in
theorem pC13_0 : ∀ q, q < 67 → pX 13 (0 + q) = true := by decide +kernel
theorem pCm13 (pc : Nat) (h : pc < pTop 13) : pX 13 pc = true := by
 replace h : pc < 67 := h
 have q := pC13_0 (pc - 0) (by omega)
 rwa [show 0 + (pc - 0) = pc from by omega] at q
set_option maxRecDepth 100000 in
set_option maxHeartbeats 4000000 in
theorem pC14_0 : ∀ q, q < 128 → pX 14 (0 + q) = true := by decide +kernel
set_option maxRecDepth 100000 in
set_option maxHeartbeats 4000000 in
theorem pC14_128 : ∀ q, q < 79 → pX 14 (128 + q) = true := by decide +kernel
theorem pCm14 (pc : Nat) (h : pc < pTop 14) : pX 14 pc = true := by
 replace h : pc < 207 := h
 by_cases h0 : pc < 128
 ·have q := pC14_0 (pc - 0) (by omega)
  rwa [show 0 + (pc - 0) = pc from by omega] at q
 have q := pC14_128 (pc - 128) (by omega)
 rwa [show 128 + (pc - 128) = pc from by omega] at q
set_option maxRecDepth 100000 in
set_option maxHeartbeats 4000000 in
theorem pC15_0 : ∀ q, q < 62 → pX 15 (0 + q) = true := by decide +kernel
theorem pCm15 (pc : Nat) (h : pc < pTop 15) : pX 15 pc = true := by
 replace h : pc < 62 := h
 have q := pC15_0 (pc - 0) (by omega)
 rwa [show 0 + (pc - 0) = pc from by omega] at q
set_option maxRecDepth 100000 in
set_option maxHeartbeats 4000000 in
theorem pC16_0 : ∀ q, q < 89 → pX 16 (0 + q) = true := by decide +kernel
theorem pCm16 (pc : Nat) (h : pc < pTop 16) : pX 16 pc = true := by
 replace h : pc < 89 := h
 have q := pC16_0 (pc - 0) (by omega)
 rwa [show 0 + (pc - 0) = pc from by omega] at q
set_option maxRecDepth 100000 in
set_option maxHeartbeats 4000000 in
theorem pC17_0 : ∀ q, q < 128 → pX 17 (0 + q) = true := by decide +kernel
set_option maxRecDepth 100000 in
set_option maxHeartbeats 4000000 in
theorem pC17_128 : ∀ q, q < 82 → pX 17 (128 + q) = true := by decide +kernel
theorem pCm17 (pc : Nat) (h : pc < pTop 17) : pX 17 pc = true := by
 replace h : pc < 210 := h
 by_cases h0 : pc < 128
 ·have q := pC17_0 (pc - 0) (by omega)
  rwa [show 0 + (pc - 0) = pc from by omega] at q
 have q := pC17_128 (pc - 128) (by omega)
 rwa [show 128 + (pc - 128) = pc from by omega] at q
set_option maxRecDepth 100000 in
set_option maxHeartbeats 4000000 in
theorem pC18_0 : ∀ q, q < 77 → pX 18 (0 + q) = true := by decide +kernel
theorem pCm18 (pc : Nat) (h : pc < pTop 18) : pX 18 pc = true := by
 replace h : pc < 77 := h
 have q := pC18_0 (pc - 0) (by omega)
 rwa [show 0 + (pc - 0) = pc from by omega] at q
set_option maxRecDepth 100000 in
set_option maxHeartbeats 4000000 in
theorem pC19_0 : ∀ q, q < 72 → pX 19 (0 + q) = true := by decide +kernel
theorem pCm19 (pc : Nat) (h : pc < pTop 19) : pX 19 pc = true := by
 replace h : pc < 72 := h
 have q := pC19_0 (pc - 0) (by omega)
 rwa [show 0 + (pc - 0) = pc from by omega] at q
set_option maxRecDepth 100000 in
set_option maxHeartbeats 4000000 in
theorem pC20_0 : ∀ q, q < 128 → pX 20 (0 + q) = true := by decide +kernel
set_option maxRecDepth 100000 in
set_option maxHeartbeats 4000000 in
theorem pC20_128 : ∀ q, q < 6 → pX 20 (128 + q) = true := by decide +kernel
theorem pCm20 (pc : Nat) (h : pc < pTop 20) : pX 20 pc = true := by
 replace h : pc < 134 := h
 by_cases h0 : pc < 128
 ·have q := pC20_0 (pc - 0) (by omega)
  rwa [show 0 + (pc - 0) = pc from by omega] at q
 have q := pC20_128 (pc - 128) (by omega)
 rwa [show 128 + (pc - 128) = pc from by omega] at q
set_option maxRecDepth 100000 in
set_option maxHeartbeats 4000000 in
theorem pC21_0 : ∀ q, q < 69 → pX 21 (0 + q) = true := by decide +kernel
theorem pCm21 (pc : Nat) (h : pc < pTop 21) : pX 21 pc = true := by
 replace h : pc < 69 := h
 have q := pC21_0 (pc - 0) (by omega)
 rwa [show 0 + (pc - 0) = pc from by omega] at q
set_option maxRecDepth 100000 in
set_option maxHeartbeats 4000000 in
theorem pC22_0 : ∀ q, q < 128 → pX 22 (0 + q) = true := by decide +kernel
set_option maxRecDepth 100000 in
set_option maxHeartbeats 4000000 in
theorem pC22_128 : ∀ q, q < 51 → pX 22 (128 + q) = true := by decide +kernel
theorem pCm22 (pc : Nat) (h : pc < pTop 22) : pX 22 pc = true := by
 replace h : pc < 179 := h
 by_cases h0 : pc < 128
 ·have q := pC22_0 (pc - 0) (by omega)
  rwa [show 0 + (pc - 0) = pc from by omega] at q
 have q := pC22_128 (pc - 128) (by omega)
 rwa [show 128 + (pc - 128) = pc from by omega] at q
set_option maxRecDepth 100000 in
set_option maxHeartbeats 4000000 in
theorem pC23_0 : ∀ q, q < 52 → pX 23 (0 + q) = true := by decide +kernel
theorem pCm23 (pc : Nat) (h : pc < pTop 23) : pX 23 pc = true := by
 replace h : pc < 52 := h
 have q := pC23_0 (pc - 0) (by omega)
 rwa [show 0 + (pc - 0) = pc from by omega] at q
set_option maxRecDepth 100000 in
set_option maxHeartbeats 4000000 in
theorem pC24_0 : ∀ q, q < 40 → pX 24 (0 + q) = true := by decide +kernel
theorem pCm24 (pc : Nat) (h : pc < pTop 24) : pX 24 pc = true := by
 replace h : pc < 40 := h
 have q := pC24_0 (pc - 0) (by omega)
 rwa [show 0 + (pc - 0) = pc from by omega] at q
set_option maxRecDepth 100000 in
set_option maxHeartbeats 4000000 in
theorem pC25_0 : ∀ q, q < 75 → pX 25 (0 + q) = true := by decide +kernel
theorem pCm25 (pc : Nat) (h : pc < pTop 25) : pX 25 pc = true := by
 replace h : pc < 75 := h
 have q := pC25_0 (pc - 0) (by omega)
 rwa [show 0 + (pc - 0) = pc from by omega] at q
set_option maxRecDepth 100000 in
set_option maxHeartbeats 4000000 in
theorem pC26_0 : ∀ q, q < 80 → pX 26 (0 + q) = true := by decide +kernel
theorem pCm26 (pc : Nat) (h : pc < pTop 26) : pX 26 pc = true := by
 replace h : pc < 80 := h
 have q := pC26_0 (pc - 0) (by omega)
 rwa [show 0 + (pc - 0) = pc from by omega] at q
set_option maxRecDepth 100000 in
set_option maxHeartbeats 4000000 in
theorem pC27_0 : ∀ q, q < 59 → pX 27 (0 + q) = true := by decide +kernel
theorem pCm27 (pc : Nat) (h : pc < pTop 27) : pX 27 pc = true := by
 replace h : pc < 59 := h
 have q := pC27_0 (pc - 0) (by omega)
 rwa [show 0 + (pc - 0) = pc from by omega] at q
set_option maxRecDepth 100000 in
set_option maxHeartbeats 4000000 in
theorem pC28_0 : ∀ q, q < 114 → pX 28 (0 + q) = true := by decide +kernel
theorem pCm28 (pc : Nat) (h : pc < pTop 28) : pX 28 pc = true := by
 replace h : pc < 114 := h
 have q := pC28_0 (pc - 0) (by omega)
 rwa [show 0 + (pc - 0) = pc from by omega] at q
set_option maxRecDepth 100000 in
set_option maxHeartbeats 4000000 in
theorem pC29_0 : ∀ q, q < 57 → pX 29 (0 + q) = true := by decide +kernel
theorem pCm29 (pc : Nat) (h : pc < pTop 29) : pX 29 pc = true := by
 replace h : pc < 57 := h
 have q := pC29_0 (pc - 0) (by omega)
 rwa [show 0 + (pc - 0) = pc from by omega] at q
set_option maxRecDepth 100000 in
set_option maxHeartbeats 4000000 in
theorem pC30_0 : ∀ q, q < 127 → pX 30 (0 + q) = true := by decide +kernel
theorem pCm30 (pc : Nat) (h : pc < pTop 30) : pX 30 pc = true := by
 replace h : pc < 127 := h
 have q := pC30_0 (pc - 0) (by omega)
 rwa [show 0 + (pc - 0) = pc from by omega] at q
set_option maxRecDepth 100000 in
set_option maxHeartbeats 4000000 in
theorem pC31_0 : ∀ q, q < 9 → pX 31 (0 + q) = true := by decide +kernel
theorem pCm31 (pc : Nat) (h : pc < pTop 31) : pX 31 pc = true := by
 replace h : pc < 9 := h
 have q := pC31_0 (pc - 0) (by omega)
 rwa [show 0 + (pc - 0) = pc from by omega] at q
set_option maxRecDepth 100000 in
set_option maxHeartbeats 4000000 in
theorem pC32_0 : ∀ q, q < 44 → pX 32 (0 + q) = true := by decide +kernel
theorem pCm32 (pc : Nat) (h : pc < pTop 32) : pX 32 pc = true := by
 replace h : pc < 44 := h
 have q := pC32_0 (pc - 0) (by omega)
 rwa [show 0 + (pc - 0) = pc from by omega] at q
set_option maxRecDepth 100000 in
set_option maxHeartbeats 4000000 in
theorem pC33_0 : ∀ q, q < 48 → pX 33 (0 + q) = true := by decide +kernel
theorem pCm33 (pc : Nat) (h : pc < pTop 33) : pX 33 pc = true := by
 replace h : pc < 48 := h
 have q := pC33_0 (pc - 0) (by omega)
 rwa [show 0 + (pc - 0) = pc from by omega] at q
set_option maxRecDepth 100000 in
set_option maxHeartbeats 4000000 in
theorem pC34_0 : ∀ q, q < 51 → pX 34 (0 + q) = true := by decide +kernel
theorem pCm34 (pc : Nat) (h : pc < pTop 34) : pX 34 pc = true := by
 replace h : pc < 51 := h
 have q := pC34_0 (pc - 0) (by omega)
 rwa [show 0 + (pc - 0) = pc from by omega] at q
set_option maxRecDepth 100000 in
set_option maxHeartbeats 4000000 in
theorem pC35_0 : ∀ q, q < 26 → pX 35 (0 + q) = true := by decide +kernel
theorem pCm35 (pc : Nat) (h : pc < pTop 35) : pX 35 pc = true := by
 replace h : pc < 26 := h
 have q := pC35_0 (pc - 0) (by omega)
 rwa [show 0 + (pc - 0) = pc from by omega] at q
set_option maxRecDepth 100000 in
set_option maxHeartbeats 4000000 in
theorem pC36_0 : ∀ q, q < 75 → pX 36 (0 + q) = true := by decide +kernel
theorem pCm36 (pc : Nat) (h : pc < pTop 36) : pX 36 pc = true := by
 replace h : pc < 75 := h
 have q := pC36_0 (pc - 0) (by omega)
 rwa [show 0 + (pc - 0) = pc from by omega] at q
theorem pChk0 : ∀ m, m < pN → ∀ pc, pc < pTop m → (match pCode m pc with | some t => qchk m pc t.1 t.2 | none => true) = true := by
 intro m hm pc hp
 change pX m pc = true
 match m, hm, hp with
 | 0, _, hp => exact pCm0 pc hp
 | 1, _, hp => exact pCm1 pc hp
 | 2, _, hp => exact pCm2 pc hp
 | 3, _, hp => exact pCm3 pc hp
 | 4, _, hp => exact pCm4 pc hp
 | 5, _, hp => exact pCm5 pc hp
 | 6, _, hp => exact pCm6 pc hp
 | 7, _, hp => exact pCm7 pc hp
 | 8, _, hp => exact pCm8 pc hp
 | 9, _, hp => exact pCm9 pc hp
 | 10, _, hp => exact pCm10 pc hp
 | 11, _, hp => exact pCm11 pc hp
 | 12, _, hp => exact pCm12 pc hp
 | 13, _, hp => exact pCm13 pc hp
 | 14, _, hp => exact pCm14 pc hp
 | 15, _, hp => exact pCm15 pc hp
 | 16, _, hp => exact pCm16 pc hp
 | 17, _, hp => exact pCm17 pc hp
 | 18, _, hp => exact pCm18 pc hp
 | 19, _, hp => exact pCm19 pc hp
 | 20, _, hp => exact pCm20 pc hp
 | 21, _, hp => exact pCm21 pc hp
 | 22, _, hp => exact pCm22 pc hp
 | 23, _, hp => exact pCm23 pc hp
 | 24, _, hp => exact pCm24 pc hp
 | 25, _, hp => exact pCm25 pc hp
 | 26, _, hp => exact pCm26 pc hp
 | 27, _, hp => exact pCm27 pc hp
 | 28, _, hp => exact pCm28 pc hp
 | 29, _, hp => exact pCm29 pc hp
 | 30, _, hp => exact pCm30 pc hp
 | 31, _, hp => exact pCm31 pc hp
 | 32, _, hp => exact pCm32 pc hp
 | 33, _, hp => exact pCm33 pc hp
 | 34, _, hp => exact pCm34 pc hp
 | 35, _, hp => exact pCm35 pc hp
 | 36, _, hp => exact pCm36 pc hp
 | m + 37, hm, _ => exact absurd hm (by unfold pN; omega)
theorem pIn {m pc : Nat} {t : Instr × Nat} (h : pCode m pc = some t) : m < pN ∧ pc < pTop m := by
 unfold pCode at h
 cases h1 : Nat.ble pN m with
 | true => rw [h1] at h; cases h
 | false =>
  cases h2 : Nat.ble (pTop m) pc with
  | true => rw [h1, h2] at h; cases h
  | false => exact ⟨Nat.lt_of_not_le (fun q => by rw [Nat.ble_eq_true_of_le q] at h1; cases h1), Nat.lt_of_not_le (fun q => by rw [Nat.ble_eq_true_of_le q] at h2; cases h2)⟩
theorem pChk {m pc : Nat} {i : Instr} {aux : Nat} (h : pCode m pc = some (i, aux)) : qchk m pc i aux = true := by
 have q := pChk0 m (pIn h).1 pc (pIn h).2
 rw [h] at q
 exact q
theorem pDec {m pc : Nat} {i : Instr} {aux : Nat} (h : pCode m pc = some (i, aux)) : decode (pBytes m) pc = .ok (i, ilen i) := by
 have q := pChk h
 unfold qchk at q
 exact of_decide_eq_true (Bool.and_eq_true_iff.mp q).1
theorem pDecN {m pc n : Nat} {i : Instr} {aux : Nat} (h : pCode m pc = some (i, aux)) (hn : ilen i = n) : decode (pBytes m) pc = .ok (i, n) := by
 rw [← hn]; exact pDec h
theorem pRest {m pc : Nat} {i : Instr} {aux : Nat} (h : pCode m pc = some (i, aux)) : qlk m pc i aux = true := by
 have q := pChk h
 unfold qchk at q
 exact (Bool.and_eq_true_iff.mp q).2
theorem qtgt_spec {pc : Nat} {o : Int} {aux : Nat} (h : qtgt pc o aux = true) : 0 ≤ (pc : Int) + o ∧ ((pc : Int) + o).toNat = aux := by
 unfold qtgt at h
 have h2 := Bool.and_eq_true_iff.mp h
 exact ⟨of_decide_eq_true h2.1, of_decide_eq_true h2.2⟩
def QCx (Z : State) (p : Program) (R : Room) (s : State) (mid : MethodId) (meth : Method) (c : Code) (m : Nat) : Prop :=
 p.tables.exec = Jvm.exec ∧ Z.Warmed39 s.vm ∧ c.code = pBytes m ∧ c.maxLocals = pMaxL m ∧ meth.sig.returnType = pRet m ∧ s.vm.findClass (kName (pK m)) = some mid.cls ∧ meth.name = pNm m ∧ pFr m ≤ R.frames ∧ pLo m ≤ R.locals
def QTri (l : Launch) (Z : State) (n0 : Nat) (ad : Nat → Addr) (m : Nat) (st : QSt) (v : Option Value) (σ' : QHeap) : Prop :=
 st.2.2.2.length ≤ σ'.length ∧ qhs st.2.2.2 ≤ qhs σ' ∧
 ∀ (p : Program) (e : Env) (R : Room) (s : State) (mid : MethodId) (args : Array Value) (below : List Frame) (meth : Method) (c : Code) (T : State) (locs : List Loc) (cells slots : Nat) (C : Array Slot),
  QCx Z p R s mid meth c m → Stand p l e R s mid args below meth c T locs cells slots → QRep Z n0 ad T.heap st.2.2.2 → Fr n0 locs → QLocOk ad st.2.1 C → C.size = c.maxLocals →
  n0 + (st.2.2.2.length - k0) = s.heap.size + cells → cells + (σ'.length - st.2.2.2.length) ≤ R.cells → slots + (qhs σ' - qhs st.2.2.2) ≤ R.slots →
  ∃ T' locs', Stand p l e R s mid args below meth c T' locs' (cells + (σ'.length - st.2.2.2.length)) (slots + (qhs σ' - qhs st.2.2.2)) ∧ QRep Z n0 ad T'.heap σ' ∧ Fr n0 locs' ∧
   ∀ fs, (∀ (f : JFrame) (acts : List Action), f.method = mid → f.locked = none → f.entered = [] → (doReturn e (T'.setTop f) acts (v.map (qv ad))).1 = T'.setFrames fs) →
    Steps p.tables e below (T.setTop (mkF mid st.1 C (st.2.2.1.map (qv ad)))) (T'.setFrames fs)
section Triples
variable {l : Launch} {Z : State} {n0 : Nat} {ad : Nat → Addr} {a0 : Array Value} {m : Nat} {v : Option Value} {σ' : QHeap}
theorem QTri.gen {st st' : QSt} (h : QTri l Z n0 ad m st' v σ') (g1 : st.2.2.2.length ≤ st'.2.2.2.length) (g2 : qhs st.2.2.2 ≤ qhs st'.2.2.2)
  (hs : ∀ (p : Program) (e : Env) (R : Room) (s : State) (mid : MethodId) (args : Array Value) (below : List Frame) (meth : Method) (c : Code) (T : State) (locs : List Loc) (cells slots : Nat) (C : Array Slot),
   QCx Z p R s mid meth c m → Stand p l e R s mid args below meth c T locs cells slots → QRep Z n0 ad T.heap st.2.2.2 → Fr n0 locs → QLocOk ad st.2.1 C → C.size = c.maxLocals →
   n0 + (st.2.2.2.length - k0) = s.heap.size + cells → cells + (st'.2.2.2.length - st.2.2.2.length) ≤ R.cells → slots + (qhs st'.2.2.2 - qhs st.2.2.2) ≤ R.slots →
   ∃ T₁ locs₁ C₁, Stand p l e R s mid args below meth c T₁ locs₁ (cells + (st'.2.2.2.length - st.2.2.2.length)) (slots + (qhs st'.2.2.2 - qhs st.2.2.2)) ∧ QRep Z n0 ad T₁.heap st'.2.2.2 ∧ Fr n0 locs₁ ∧ QLocOk ad st'.2.1 C₁ ∧ C₁.size = c.maxLocals ∧
    ∀ target, Steps p.tables e below (T₁.setTop (mkF mid st'.1 C₁ (st'.2.2.1.map (qv ad)))) target → Steps p.tables e below (T.setTop (mkF mid st.1 C (st.2.2.1.map (qv ad)))) target) :
  QTri l Z n0 ad m st v σ' := by
 obtain ⟨h1, h2, h3⟩ := h
 refine ⟨Nat.le_trans g1 h1, Nat.le_trans g2 h2, fun p e R s mid args below meth c T locs cells slots C hcx X hR hF hL hC hn hc hsl => ?_⟩
 obtain ⟨T₁, locs₁, C₁, X₁, R₁, F₁, L₁, C1, S₁⟩ := hs p e R s mid args below meth c T locs cells slots C hcx X hR hF hL hC hn (by omega) (by omega)
 have hk := hR.1
 obtain ⟨T', locs', X', R', F', S'⟩ := h3 p e R s mid args below meth c T₁ locs₁ _ _ C₁ hcx X₁ R₁ F₁ L₁ C1 (by omega) (by omega) (by omega)
 have e1 : cells + (st'.2.2.2.length - st.2.2.2.length) + (σ'.length - st'.2.2.2.length) = cells + (σ'.length - st.2.2.2.length) := by omega
 have e2 : slots + (qhs st'.2.2.2 - qhs st.2.2.2) + (qhs σ' - qhs st'.2.2.2) = slots + (qhs σ' - qhs st.2.2.2) := by omega
 rw [e1, e2] at X'
 exact ⟨T', locs', X', R', F', fun fs hf => S₁ _ (S' fs hf)⟩
theorem QTri.pure {st st' : QSt} (h : QTri l Z n0 ad m st' v σ') (hσ : st'.2.2.2 = st.2.2.2)
  (hs : ∀ (p : Program) (e : Env) (R : Room) (s : State) (mid : MethodId) (args : Array Value) (below : List Frame) (meth : Method) (c : Code) (T : State) (locs : List Loc) (cells slots : Nat) (C : Array Slot),
   QCx Z p R s mid meth c m → Stand p l e R s mid args below meth c T locs cells slots → QRep Z n0 ad T.heap st.2.2.2 → QLocOk ad st.2.1 C → C.size = c.maxLocals →
   ∃ T₁ C₁, Stand p l e R s mid args below meth c T₁ locs cells slots ∧ T₁.heap = T.heap ∧ QLocOk ad st'.2.1 C₁ ∧ C₁.size = c.maxLocals ∧
    ∀ target, Steps p.tables e below (T₁.setTop (mkF mid st'.1 C₁ (st'.2.2.1.map (qv ad)))) target → Steps p.tables e below (T.setTop (mkF mid st.1 C (st.2.2.1.map (qv ad)))) target) :
  QTri l Z n0 ad m st v σ' := by
 refine QTri.gen h (by rw [hσ]; exact Nat.le_refl _) (by rw [hσ]; exact Nat.le_refl _) fun p e R s mid args below meth c T locs cells slots C hcx X hR hF hL hC hn hc hsl => ?_
 obtain ⟨T₁, C₁, X₁, hh, L₁, C1, S₁⟩ := hs p e R s mid args below meth c T locs cells slots C hcx X hR hL hC
 refine ⟨T₁, locs, C₁, ?_, by rw [hσ, hh]; exact hR, hF, L₁, C1, S₁⟩
 rw [hσ, Nat.sub_self, Nat.sub_self]
 exact X₁
theorem QTri.frame {pc pc' : Nat} {L L' : QLoc} {S S' : List Value} {σ : QHeap} (h : QTri l Z n0 ad m (pc', L', S', σ) v σ')
  (hs : ∀ (p : Program) (e : Env) (R : Room) (s : State) (mid : MethodId) (args : Array Value) (below : List Frame) (meth : Method) (c : Code) (T : State) (locs : List Loc) (cells slots : Nat) (C : Array Slot),
   QCx Z p R s mid meth c m → Stand p l e R s mid args below meth c T locs cells slots → QRep Z n0 ad T.heap σ → QLocOk ad L C → C.size = c.maxLocals →
   ∃ C₁, QLocOk ad L' C₁ ∧ C₁.size = c.maxLocals ∧ ∀ target, Steps p.tables e below (T.setTop (mkF mid pc' C₁ (S'.map (qv ad)))) target → Steps p.tables e below (T.setTop (mkF mid pc C (S.map (qv ad)))) target) :
  QTri l Z n0 ad m (pc, L, S, σ) v σ' :=
 QTri.pure h rfl fun p e R s mid args below meth c T locs cells slots C hcx X hR hL hC => by
  obtain ⟨C₁, h1, h2, h3⟩ := hs p e R s mid args below meth c T locs cells slots C hcx X hR hL hC
  exact ⟨T, C₁, X, rfl, h1, h2, h3⟩
theorem QTri.stack {pc pc' : Nat} {L : QLoc} {S S' : List Value} {σ : QHeap} (h : QTri l Z n0 ad m (pc', L, S', σ) v σ')
  (hs : ∀ (p : Program) (e : Env) (R : Room) (s : State) (mid : MethodId) (args : Array Value) (below : List Frame) (meth : Method) (c : Code) (T : State) (locs : List Loc) (cells slots : Nat) (C : Array Slot) (target : State),
   p.tables.exec = Jvm.exec → Z.Warmed39 s.vm → c.code = pBytes m → s.vm.findClass (kName (pK m)) = some mid.cls → Stand p l e R s mid args below meth c T locs cells slots → QRep Z n0 ad T.heap σ → QLocOk ad L C →
   Steps p.tables e below (T.setTop (mkF mid pc' C (S'.map (qv ad)))) target → Steps p.tables e below (T.setTop (mkF mid pc C (S.map (qv ad)))) target) :
  QTri l Z n0 ad m (pc, L, S, σ) v σ' :=
 QTri.frame h fun p e R s mid args below meth c T locs cells slots C hcx X hR hL hC => ⟨C, hL, hC, fun target k => hs p e R s mid args below meth c T locs cells slots C target hcx.1 hcx.2.1 hcx.2.2.1 hcx.2.2.2.2.2.1 X hR hL k⟩
theorem qload_inv {pc : Nat} {L : QLoc} {S : List Value} {σ : QHeap} {k : Nat} {ok : Value → Bool} {st' : QSt} (h : qload pc L S σ k ok = some st') : ∃ v, lget L k = some v ∧ ok v = true ∧ st' = (pc, L, v :: S, σ) := by
 unfold qload at h
 split at h
 ·rename_i v hv
  cases ho : ok v with
  | true => rw [ho] at h; cases h; exact ⟨v, hv, ho, rfl⟩
  | false => rw [ho] at h; cases h
 ·cases h
theorem qstore_inv {pc : Nat} {L : QLoc} {S : List Value} {σ : QHeap} {k : Nat} {ok : Value → Bool} {st' : QSt} (h : qstore pc L S σ k ok = some st') : ∃ v S' L', S = v :: S' ∧ ok v = true ∧ lput L k v = some L' ∧ st' = (pc, L', S', σ) := by
 unfold qstore at h
 split at h
 ·rename_i v S'
  cases ho : ok v with
  | true =>
   rw [ho] at h
   simp only [cond_true] at h
   split at h
   ·rename_i L' hL'
    cases h; exact ⟨v, S', L', rfl, ho, hL', rfl⟩
   ·cases h
  | false => rw [ho] at h; cases h
 ·cases h
theorem qbin_inv {pc : Nat} {L : QLoc} {S : List Value} {σ : QHeap} {f : Int32 → Int32 → Int32} {st' : QSt} (h : qbin pc L S σ f = some st') : ∃ x y S', S = .int y :: .int x :: S' ∧ st' = (pc, L, .int (f x y) :: S', σ) := by
 unfold qbin at h
 split at h
 ·cases h; exact ⟨_, _, _, rfl, rfl⟩
 ·cases h
theorem qbino_inv {pc : Nat} {L : QLoc} {S : List Value} {σ : QHeap} {f : Int32 → Int32 → Option Int32} {st' : QSt} (h : qbino pc L S σ f = some st') : ∃ x y z S', S = .int y :: .int x :: S' ∧ f x y = some z ∧ st' = (pc, L, .int z :: S', σ) := by
 unfold qbino at h
 split at h
 ·obtain ⟨z, hz, h⟩ := Option.bind_eq_some_iff.mp h
  cases h; exact ⟨_, _, _, _, rfl, hz, rfl⟩
 ·cases h
theorem qbinJ_inv {pc : Nat} {L : QLoc} {S : List Value} {σ : QHeap} {f : Int64 → Int64 → Int64} {st' : QSt} (h : qbinJ pc L S σ f = some st') : ∃ x y S', S = .long y :: .long x :: S' ∧ st' = (pc, L, .long (f x y) :: S', σ) := by
 unfold qbinJ at h
 split at h
 ·cases h; exact ⟨_, _, _, rfl, rfl⟩
 ·cases h
theorem qshJ_inv {pc : Nat} {L : QLoc} {S : List Value} {σ : QHeap} {f : Int64 → Int32 → Int64} {st' : QSt} (h : qshJ pc L S σ f = some st') : ∃ x y S', S = .int y :: .long x :: S' ∧ st' = (pc, L, .long (f x y) :: S', σ) := by
 unfold qshJ at h
 split at h
 ·cases h; exact ⟨_, _, _, rfl, rfl⟩
 ·cases h
theorem quni_inv {pc : Nat} {L : QLoc} {S : List Value} {σ : QHeap} {f : Int32 → Value} {st' : QSt} (h : quni pc L S σ f = some st') : ∃ x S', S = .int x :: S' ∧ st' = (pc, L, f x :: S', σ) := by
 unfold quni at h
 split at h
 ·cases h; exact ⟨_, _, rfl, rfl⟩
 ·cases h
theorem quniJ_inv {pc : Nat} {L : QLoc} {S : List Value} {σ : QHeap} {f : Int64 → Value} {st' : QSt} (h : quniJ pc L S σ f = some st') : ∃ x S', S = .long x :: S' ∧ st' = (pc, L, f x :: S', σ) := by
 unfold quniJ at h
 split at h
 ·cases h; exact ⟨_, _, rfl, rfl⟩
 ·cases h
theorem qif_inv {pc : Nat} {L : QLoc} {S : List Value} {σ : QHeap} {cd : ClassFile.Cond} {t : Nat} {st' : QSt} (h : qif pc L S σ cd t = some st') : ∃ x S', S = .int x :: S' ∧ st' = (bif ifCond.holds cd x then t else pc, L, S', σ) := by
 unfold qif at h
 split at h
 ·cases h; exact ⟨_, _, rfl, rfl⟩
 ·cases h
theorem qicmp_inv {pc : Nat} {L : QLoc} {S : List Value} {σ : QHeap} {cd : ClassFile.Cond} {t : Nat} {st' : QSt} (h : qicmp pc L S σ cd t = some st') : ∃ x y S', S = .int y :: .int x :: S' ∧ st' = (bif if_icmp.holds cd x y then t else pc, L, S', σ) := by
 unfold qicmp at h
 split at h
 ·cases h; exact ⟨_, _, _, rfl, rfl⟩
 ·cases h
theorem qget_inv {pc : Nat} {L : QLoc} {S : List Value} {σ : QHeap} {k : Nat} {st' : QSt} (h : qget pc L S σ k = some st') : ∃ a S' vs v, S = .ref a :: S' ∧ hget σ a = some (.inl vs) ∧ vget vs k = some v ∧ st' = (pc, L, v :: S', σ) := by
 unfold qget at h
 split at h
 ·split at h
  ·split at h
   ·cases h; exact ⟨_, _, _, _, rfl, by assumption, by assumption, rfl⟩
   ·cases h
  ·cases h
 ·cases h
theorem qput_inv {pc : Nat} {L : QLoc} {S : List Value} {σ : QHeap} {k : Nat} {st' : QSt} (h : qput pc L S σ k = some st') : ∃ v a S' vs w, S = v :: .ref a :: S' ∧ hget σ a = some (.inl vs) ∧ k0 ≤ a ∧ k < vs.length ∧ qfit (fTy k) v = some w ∧ st' = (pc, L, S', σ.set a (.inl (vs.set k w))) := by
 unfold qput at h
 split at h
 ·rename_i v a S'
  split at h
  ·rename_i vs hvs
   cases hbb : (Nat.ble k0 a && Nat.ble (k + 1) vs.length) with
   | false => rw [hbb] at h; cases h
   | true =>
    rw [hbb] at h
    simp only [cond_true] at h
    obtain ⟨u, hu, h⟩ := Option.bind_eq_some_iff.mp h
    cases h
    obtain ⟨b1, b2⟩ := Bool.and_eq_true_iff.mp hbb
    exact ⟨v, a, S', vs, u, rfl, hvs, Nat.le_of_ble_eq_true b1, Nat.le_of_ble_eq_true b2, hu, rfl⟩
  ·cases h
 ·cases h
theorem qald_inv {pc : Nat} {L : QLoc} {S : List Value} {σ : QHeap} {ok : FieldType → Bool} {st' : QSt} (h : qald pc L S σ ok = some st') : ∃ j a S' ty xs v, S = .int j :: .ref a :: S' ∧ hget σ a = some (.inr (.inl (ty, xs))) ∧ ok ty = true ∧ aget xs j = some v ∧ st' = (pc, L, .int v :: S', σ) := by
 unfold qald at h
 split at h
 ·rename_i j a S'
  split at h
  ·rename_i x hx
   cases ht : ok x.1 with
   | false => rw [ht] at h; cases h
   | true =>
    rw [ht] at h
    simp only [cond_true] at h
    obtain ⟨u, hu, h⟩ := Option.bind_eq_some_iff.mp h
    cases h
    exact ⟨j, a, S', x.1, x.2, u, rfl, hx, ht, hu, rfl⟩
  ·cases h
 ·cases h
theorem qaldJ_inv {pc : Nat} {L : QLoc} {S : List Value} {σ : QHeap} {st' : QSt} (h : qaldJ pc L S σ = some st') : ∃ j a S' xs v, S = .int j :: .ref a :: S' ∧ hget σ a = some (.inr (.inr xs)) ∧ aget xs j = some v ∧ st' = (pc, L, .long v :: S', σ) := by
 unfold qaldJ at h
 split at h
 ·rename_i j a S'
  split at h
  ·rename_i x hx
   obtain ⟨u, hu, h⟩ := Option.bind_eq_some_iff.mp h
   cases h
   exact ⟨j, a, S', x, u, rfl, hx, hu, rfl⟩
  ·cases h
 ·cases h
theorem qast_inv {pc : Nat} {L : QLoc} {S : List Value} {σ : QHeap} {ok : FieldType → Bool} {st' : QSt} (h : qast pc L S σ ok = some st') : ∃ v j a S' ty xs ys, S = .int v :: .int j :: .ref a :: S' ∧ hget σ a = some (.inr (.inl (ty, xs))) ∧ ok ty = true ∧ k0 ≤ a ∧ aset xs j (qnar ty v) = some ys ∧ st' = (pc, L, S', σ.set a (.inr (.inl (ty, ys)))) := by
 unfold qast at h
 split at h
 ·rename_i v j a S'
  split at h
  ·rename_i x hx
   cases ht : (ok x.1 && Nat.ble k0 a) with
   | false => rw [ht] at h; cases h
   | true =>
    rw [ht] at h
    simp only [cond_true] at h
    obtain ⟨u, hu, h⟩ := Option.bind_eq_some_iff.mp h
    cases h
    obtain ⟨b1, b2⟩ := Bool.and_eq_true_iff.mp ht
    exact ⟨v, j, a, S', x.1, x.2, u, rfl, hx, b1, Nat.le_of_ble_eq_true b2, hu, rfl⟩
  ·cases h
 ·cases h
theorem qastJ_inv {pc : Nat} {L : QLoc} {S : List Value} {σ : QHeap} {st' : QSt} (h : qastJ pc L S σ = some st') : ∃ v j a S' xs ys, S = .long v :: .int j :: .ref a :: S' ∧ hget σ a = some (.inr (.inr xs)) ∧ k0 ≤ a ∧ aset xs j v = some ys ∧ st' = (pc, L, S', σ.set a (.inr (.inr ys))) := by
 unfold qastJ at h
 split at h
 ·rename_i v j a S'
  split at h
  ·rename_i x hx
   cases ht : (Nat.ble k0 a) with
   | false => rw [ht] at h; cases h
   | true =>
    rw [ht] at h
    simp only [cond_true] at h
    obtain ⟨u, hu, h⟩ := Option.bind_eq_some_iff.mp h
    cases h
    exact ⟨v, j, a, S', x, u, rfl, hx, Nat.le_of_ble_eq_true ht, hu, rfl⟩
  ·cases h
 ·cases h
theorem qlen_inv {pc : Nat} {L : QLoc} {S : List Value} {σ : QHeap} {st' : QSt} (h : qlen pc L S σ = some st') : ∃ a S' n, S = .ref a :: S' ∧ ((∃ ty xs, hget σ a = some (.inr (.inl (ty, xs))) ∧ n = xs.length) ∨ ∃ xs, hget σ a = some (.inr (.inr xs)) ∧ n = xs.length) ∧ st' = (pc, L, .int n.toInt32 :: S', σ) := by
 unfold qlen at h
 split at h
 ·rename_i a S'
  split at h
  ·rename_i x hx
   cases h; exact ⟨a, S', _, rfl, Or.inl ⟨x.1, x.2, hx, rfl⟩, rfl⟩
  ·rename_i x hx
   cases h; exact ⟨a, S', _, rfl, Or.inr ⟨x, hx, rfl⟩, rfl⟩
  ·cases h
 ·cases h
theorem isI_inv {v : Value} (h : isI v = true) : ∃ x, v = .int x := by cases v <;> simp [isI] at h; exact ⟨_, rfl⟩
theorem isJ_inv {v : Value} (h : isJ v = true) : ∃ x, v = .long x := by cases v <;> simp [isJ] at h; exact ⟨_, rfl⟩
theorem isR_inv {v : Value} (h : isR v = true) : ∃ x, v = .ref x := by cases v <;> simp [isR] at h; exact ⟨_, rfl⟩
theorem aget_inv {α : Type} {xs : List α} {j : Int32} {x : α} (h : aget xs j = some x) : ¬ j < 0 ∧ xs[j.toNatClampNeg]? = some x := by
 unfold aget at h
 split at h
 ·cases h
 ·rename_i q; exact ⟨q, h⟩
theorem aset_inv {α : Type} {xs ys : List α} {j : Int32} {x : α} (h : aset xs j x = some ys) : ¬ j < 0 ∧ j.toNatClampNeg < xs.length ∧ ys = xs.set j.toNatClampNeg x := by
 unfold aset at h
 split at h
 ·cases h
 ·rename_i q
  split at h
  ·rename_i q2; cases h; exact ⟨q, q2, rfl⟩
  ·cases h
theorem qnew_inv {n : Int32} {k : Nat} (h : qnew n = some k) : ¬ n < 0 ∧ n.toNatClampNeg = k ∧ k ≤ 67108864 := by
 unfold qnew at h
 split at h
 ·cases h
 ·rename_i q
  split at h
  ·rename_i q2; cases h; exact ⟨q, rfl, q2⟩
  ·cases h
theorem QCellOk.other {h h' : Heap} {a b : Addr} {sl : Nat} {w : Value} {c : QCell} (H : QCellOk Z ad h b c) (W : Wr h h' a sl w) (ne : b ≠ a) : QCellOk Z ad h' b c := by
 rcases c with vs | ⟨ty, xs⟩ | xs
 ·obtain ⟨h1, h2, h3⟩ := H
  exact ⟨h1.wr W, h2, fun k u hk hu => (h3 k u hk hu).other W (Or.inl ne)⟩
 ·obtain ⟨c, h1, h2⟩ := H
  exact ⟨c, h1.other W ne, h2⟩
 ·obtain ⟨c, h1, h2⟩ := H
  exact ⟨c, h1.other W ne, h2⟩
theorem QCellOk.ext {h h' : Heap} {b : Addr} {c : QCell} (H : QCellOk Z ad h b c) (E : Ext h h') : QCellOk Z ad h' b c := by
 rcases c with vs | ⟨ty, xs⟩ | xs
 ·obtain ⟨h1, h2, h3⟩ := H
  exact ⟨h1.ext E, h2, fun k u hk hu => (h3 k u hk hu).ext E⟩
 ·obtain ⟨c, h1, h2⟩ := H
  exact ⟨c, h1.ext E, h2⟩
 ·obtain ⟨c, h1, h2⟩ := H
  exact ⟨c, h1.ext E, h2⟩
theorem QRep.set {h h' : Heap} {σ : QHeap} {a : Nat} {sl : Nat} {w : Value} {c d : QCell} (H : QRep Z n0 ad h σ) (Ad : QAd n0 ad) (W : Wr h h' (ad a) sl w) (hc : hget σ a = some c) (hd : QCellOk Z ad h' (ad a) d) : QRep Z n0 ad h' (σ.set a d) := by
 obtain ⟨h1, h2, h3⟩ := H
 refine ⟨by simpa using h1, by rw [W.size, h2]; simp, fun k e he => ?_⟩
 rw [hget_set hc] at he
 split at he
 ·rename_i q; cases he; rw [q]; exact hd
 ·rename_i q; exact (h3 k e he).other W fun z => q (Ad.2 _ _ z)
theorem QRep.push {h h' : Heap} {σ : QHeap} {c : QCell} (H : QRep Z n0 ad h σ) (Ad : QAd n0 ad) (E : Ext h h') (hs : h'.size = h.size + 1) (hc : QCellOk Z ad h' h.size c) : QRep Z n0 ad h' (σ ++ [c]) := by
 obtain ⟨h1, h2, h3⟩ := H
 refine ⟨by simp; omega, by rw [hs, h2]; simp; omega, fun k e he => ?_⟩
 rw [hget_eq] at he
 rcases Nat.lt_or_ge k σ.length with q | q
 ·rw [List.getElem?_append_left q, ← hget_eq] at he
  exact (h3 k e he).ext E
 ·rw [List.getElem?_append_right q] at he
  obtain rfl : k = σ.length := by
   rcases Nat.lt_or_ge (k - σ.length) 1 with z | z
   ·omega
   ·rw [List.getElem?_eq_none (by simpa using z)] at he; cases he
  simp at he
  rw [← he, Ad.1 _ h1, ← h2]
  exact hc
theorem mem_of_contains {α : Type} [BEq α] [LawfulBEq α] {L : List α} {a : α} (h : L.contains a = true) : a ∈ L := by simpa using h
theorem lkF_lt : ∀ t ∈ lkF, t.2.2 < nF := by decide +kernel
theorem laid_of (W : QW Z a0) {k : Nat} (hk : k < nF) : Laid Z a0 cName cName (fNm k) (fDs k) := by
 have q := (qw_lay W) k hk
 cases hf : fFin k with
 | true => rw [hf] at q; exact Or.inr q
 | false => rw [hf] at q; exact Or.inl q
theorem qfit_inv {ty : FieldType} {v w : Value} (h : qfit ty v = some w) : v = w ∧ narrow ty (qv ad w) = qv ad w ∧ fits ty (qv ad w) = true := by
 unfold qfit at h
 split at h
 ·cases h; exact ⟨rfl, rfl, rfl⟩
 ·rename_i x
  obtain ⟨y, hy, h⟩ := Option.bind_eq_some_iff.mp h
  cases h
  unfold qboo at hy
  split at hy
  ·rename_i e; cases hy; subst e; exact ⟨rfl, rfl, rfl⟩
  ·split at hy
   ·rename_i e; cases hy; subst e; exact ⟨rfl, rfl, rfl⟩
   ·cases hy
 ·cases h; exact ⟨rfl, rfl, rfl⟩
 ·cases h; exact ⟨rfl, rfl, rfl⟩
 ·cases h
theorem vget_set {vs : List Value} {k j : Nat} {w : Value} (hk : k < vs.length) : vget (vs.set k w) j = if j = k then some w else vget vs j := by
 simp only [vget_eq, List.getElem?_set]
 by_cases e : k = j
 ·subst e; simp [hk]
 ·simp [e, Ne.symm e]
theorem ald_in {α : Type} {f : α → Value} {xs : List α} {c : Cell} {j : Int32} {x : α} (hc : c.slots = (xs.map f).toArray) (h : aget xs j = some x) : ¬ (j < 0 ∨ c.slots.size ≤ j.toNatClampNeg) ∧ c.slots[j.toNatClampNeg]? = some (f x) := by
 obtain ⟨h1, h2⟩ := aget_inv h
 have h3 := (List.getElem?_eq_some_iff.mp h2).1
 refine ⟨fun q => ?_, by rw [hc]; simp [h2]⟩
 rcases q with q | q
 ·exact h1 q
 ·rw [hc] at q; simp at q; omega
theorem ast_in {α : Type} {f : α → Value} {xs ys : List α} {c : Cell} {j : Int32} {x : α} (hc : c.slots = (xs.map f).toArray) (h : aset xs j x = some ys) : ¬ (j < 0 ∨ c.slots.size ≤ j.toNatClampNeg) ∧ (c.setSlot j.toNatClampNeg (f x)).slots = (ys.map f).toArray := by
 obtain ⟨h1, h2, rfl⟩ := aset_inv h
 refine ⟨fun q => ?_, by simp [Cell.setSlot, hc, List.map_set]⟩
 rcases q with q | q
 ·exact h1 q
 ·rw [hc] at q; simp at q; omega
theorem qgrow {σ : QHeap} {c : QCell} : qhs (σ ++ [c]) - qhs σ = qsz c := by rw [qhs_app]; simp [qhs]
set_option maxHeartbeats 4000000 in
theorem QTri.newArr (Ad : QAd n0 ad) (W : QW Z a0) {pc aux : Nat} {L : QLoc} {S : List Value} {σ : QHeap} {aty : ArrayType} {n : Int32} {k : Nat} {c : QCell} (hk : qnew n = some k) (hc : pCode m pc = some (.newarray aty, aux)) (hz : qsz c = k)
  (hq : ∀ (h' : Heap) (a : Addr) (cA : ClassId), Arr Z h' a (newA cA (newarray.typeOf aty) n) (newarray.typeOf aty) → QCellOk Z ad h' a c)
  (h : QTri l Z n0 ad m (pc + 2, L, .ref σ.length :: S, σ ++ [c]) v σ') : QTri l Z n0 ad m (pc, L, .int n :: S, σ) v σ' := by
 have hd : decode (pBytes m) pc = .ok (.newarray aty, 2) := pDecN hc rfl
 obtain ⟨n1, n2, n3⟩ := qnew_inv hk
 refine QTri.gen h (by simp) (by simp [qhs_app]) fun p e R s mid args below meth c' T locs cells slots C hcx X hR hF hL hC hn hc1 hsl => ?_
 obtain ⟨hx, hZ, hby, hml, hret, hown, hnm, hfr, hlo⟩ := hcx
 have hd2 : decode c'.code pc = .ok (.newarray aty, 2) := by rw [hby]; exact hd
 simp only [List.length_append, List.length_singleton, Nat.add_sub_cancel_left, qgrow, hz] at hc1 hsl ⊢
 obtain ⟨T₁, h₁, cA, X₁, e₁, E₁, A₁, st⟩ := newP X hx hZ (aty := aty) (qw_arr W (newarray.typeOf aty) (mem_of_contains (show aTys.contains (newarray.typeOf aty) = true from pRest hc))) rfl (g := mkF mid pc C (.int n :: S.map (qv ad))) rfl hd2 rfl n1 (cap := k) (by omega) (by omega) hc1 hsl
 have hsz : h₁.size = T.heap.size + 1 := by
  have q1 := X₁.heapSize
  have q2 : T.heap.size < h₁.size := A₁.lt
  have q3 := hR.2.1
  rw [e₁] at q1
  have : n0 + (σ.length - k0) = s.heap.size + cells := hn
  have q3' : T.heap.size = n0 + (σ.length - k0) := q3
  omega
 refine ⟨T₁, locs, C, X₁, ?_, hF, hL, hC, fun target q => ?_⟩
 ·rw [e₁]; exact QRep.push hR Ad E₁ hsz (hq _ _ _ A₁)
 ·refine st _ ?_
  have e2 : ad σ.length = T.heap.size := by rw [Ad.1 _ hR.1]; exact hR.2.1.symm
  simp only [List.map_cons, qv, e2] at q
  exact q
set_option maxHeartbeats 4000000 in
theorem QTri.getfield (W : QW Z a0) {pc idx aux : Nat} {L : QLoc} {S : List Value} {σ : QHeap} {st' : QSt} (h : QTri l Z n0 ad m st' v σ') (hc : pCode m pc = some (.getfield idx, aux)) (hs : qget (pc + 3) L S σ aux = some st') : QTri l Z n0 ad m (pc, L, S, σ) v σ' := by
 have hd : decode (pBytes m) pc = .ok (.getfield idx, 3) := pDecN hc rfl
 obtain ⟨a, S', vs, w, rfl, hvs, hw, rfl⟩ := qget_inv hs
 have hm := mem_of_contains (show lkF.contains (pK m, idx, aux) = true from pRest hc)
 have hlt := lkF_lt _ hm
 refine QTri.pure h rfl fun p e R s mid args below meth c T locs cells slots C hcx X hR hL hC => ?_
 obtain ⟨hx, hZ, hby, hml, hret, hown, hnm, hfr, hlo⟩ := hcx
 have hd2 : decode c.code pc = .ok (.getfield idx, 3) := by rw [hby]; exact hd
 have F := (hR.2.2 _ _ hvs).2.2 aux w hlt hw
 obtain ⟨T₁, X₁, e₁, st⟩ := getF X hx hZ hown (host := "") (index := idx) (Or.inl (qw_fl W (pK m, idx, aux) hm)) Via.refl rfl F (g := mkF mid pc C (List.map (qv ad) (.ref a :: S'))) rfl rfl hd2
 exact ⟨T₁, C, X₁, e₁, hL, hC, st⟩
set_option maxHeartbeats 4000000 in
theorem QTri.putfield (Ad : QAd n0 ad) (W : QW Z a0) {pc idx aux : Nat} {L : QLoc} {S : List Value} {σ : QHeap} {st' : QSt} (h : QTri l Z n0 ad m st' v σ') (hc : pCode m pc = some (.putfield idx, aux)) (hs : qput (pc + 3) L S σ aux = some st') : QTri l Z n0 ad m (pc, L, S, σ) v σ' := by
 have hd : decode (pBytes m) pc = .ok (.putfield idx, 3) := pDecN hc rfl
 obtain ⟨w, a, S', vs, u, rfl, hvs, b1, b2, hu, rfl⟩ := qput_inv hs
 obtain ⟨r1, r2⟩ := Bool.and_eq_true_iff.mp (show (lkF.contains (pK m, idx, aux) && (!fFin aux || (pK m == 1 && pNm m == "<init>"))) = true from pRest hc)
 have hm := mem_of_contains r1
 have hlt := lkF_lt _ hm
 obtain ⟨rfl, q2, q3⟩ := qfit_inv (ad := ad) hu
 have hsz : qhs (σ.set a (Sum.inl (vs.set aux w))) = qhs σ := qhs_set hvs rfl
 refine QTri.gen h (by simp) (by show qhs σ ≤ qhs (σ.set a (Sum.inl (vs.set aux w))); rw [hsz]; exact Nat.le_refl _) fun p e R s mid args below meth c T locs cells slots C hcx X hR hF hL hC hn hc1 hsl => ?_
 obtain ⟨hx, hZ, hby, hml, hret, hown, hnm, hfr, hlo⟩ := hcx
 have hd2 : decode c.code pc = .ok (.putfield idx, 3) := by rw [hby]; exact hd
 obtain ⟨E, l1, Fs⟩ := hR.2.2 _ _ hvs
 obtain ⟨old, hold⟩ : ∃ old, vget vs aux = some old := by rw [vget_eq]; exact ⟨_, List.getElem?_eq_getElem b2⟩
 have lay : (Cond.lays cName cName (fNm aux) (fDs aux)).before a0 Z = true ∨ ((Cond.laysFinal cName cName (fNm aux) (fDs aux)).before a0 Z = true ∧ kName (pK m) = cName ∧ meth.name = "<init>") := by
  have q := (qw_lay W) aux hlt
  cases hf : fFin aux with
  | false => rw [hf] at q; exact Or.inl q
  | true =>
   rw [hf] at q r2
   simp at r2
   exact Or.inr ⟨q, by rw [r2.1]; exact kOne, by rw [hnm]; exact r2.2⟩
 obtain ⟨T₁, h₁, X₁, e₁, W₁, st⟩ := putF X hx hZ hown (host := "") (index := idx) (Or.inl (qw_fl W (pK m, idx, aux) hm)) Via.refl rfl (Fs aux old hlt hold) E lay ((qw_inst W)) (fPrs aux hlt) q2 q3 (g := mkF mid pc C (List.map (qv ad) (w :: .ref a :: S'))) rfl rfl hd2
 refine ⟨T₁, _, C, ?_, ?_, Fr.snoc X₁ hF (by rw [Ad.1 a b1]; exact Nat.le_add_right _ _), hL, hC, st⟩
 ·show Stand _ _ _ _ _ _ _ _ _ _ _ _ (cells + ((σ.set a (Sum.inl (vs.set aux w))).length - σ.length)) (slots + (qhs (σ.set a (Sum.inl (vs.set aux w))) - qhs σ))
  rw [hsz, Nat.sub_self, List.length_set, Nat.sub_self]
  exact X₁
 ·rw [e₁]
  refine QRep.set hR Ad W₁ hvs ⟨E.wr W₁, by simpa using l1, fun k u hk hu => ?_⟩
  rw [vget_set b2] at hu
  split at hu
  ·rename_i e; cases hu; rw [e]; exact (Fs aux old hlt hold).same W₁
  ·rename_i ne
   exact (Fs k u hk hu).other W₁ (Or.inr (slot_ne (laid_of W hk) (laid_of W hlt) (fun z => ne (fInj _ hk _ hlt z)) (fPrs _ hk) (fPrs _ hlt)))
theorem tyI_inv {ty : FieldType} (h : tyI ty = true) : ty = .int := by cases ty <;> simp [tyI] at h; rfl
theorem tyB_inv {ty : FieldType} (h : tyB ty = true) : ty = .boolean ∨ ty = .byte := by cases ty <;> simp [tyB] at h <;> simp
set_option maxHeartbeats 4000000 in
theorem QTri.iaload {pc aux : Nat} {L : QLoc} {S : List Value} {σ : QHeap} {st' : QSt} (h : QTri l Z n0 ad m st' v σ') (hc : pCode m pc = some (.iaload, aux)) (hs : qald (pc + 1) L S σ tyI = some st') : QTri l Z n0 ad m (pc, L, S, σ) v σ' := by
 have hd : decode (pBytes m) pc = .ok (.iaload, 1) := pDecN hc rfl
 obtain ⟨j, a, S', ty, xs, w, rfl, hx1, ht, hw, rfl⟩ := qald_inv hs
 obtain rfl := tyI_inv ht
 refine QTri.stack h fun p e R s mid args below meth c T locs cells slots C target hx hZ hby hown X hR hL k => ?_
 have hd2 : decode c.code pc = .ok (.iaload, 1) := by rw [hby]; exact hd
 obtain ⟨cl, A, hsl⟩ := hR.2.2 _ _ hx1
 obtain ⟨i1, i2⟩ := ald_in hsl hw
 exact X.iaload hx A.1 (State.isArrayOf_alike hZ.alike A.2.1) A.2.2 i1 i2 (g := mkF mid pc C (List.map (qv ad) (.int j :: .ref a :: S'))) rfl rfl hd2 _ k
set_option maxHeartbeats 4000000 in
theorem QTri.baload {pc aux : Nat} {L : QLoc} {S : List Value} {σ : QHeap} {st' : QSt} (h : QTri l Z n0 ad m st' v σ') (hc : pCode m pc = some (.baload, aux)) (hs : qald (pc + 1) L S σ tyB = some st') : QTri l Z n0 ad m (pc, L, S, σ) v σ' := by
 have hd : decode (pBytes m) pc = .ok (.baload, 1) := pDecN hc rfl
 obtain ⟨j, a, S', ty, xs, w, rfl, hx1, ht, hw, rfl⟩ := qald_inv hs
 refine QTri.stack h fun p e R s mid args below meth c T locs cells slots C target hx hZ hby hown X hR hL k => ?_
 have hd2 : decode c.code pc = .ok (.baload, 1) := by rw [hby]; exact hd
 obtain ⟨cl, A, hsl⟩ := hR.2.2 _ _ hx1
 obtain ⟨i1, i2⟩ := ald_in hsl hw
 rcases tyB_inv ht with rfl | rfl
 ·exact X.baloadBooleans hx A.1 (State.isArrayOf_alike hZ.alike A.2.1) A.2.2 i1 i2 (g := mkF mid pc C (List.map (qv ad) (.int j :: .ref a :: S'))) rfl rfl hd2 _ k
 ·exact X.baloadBytes hx A.1 (State.isArrayOf_alike hZ.alike A.2.1) A.2.2 i1 i2 (g := mkF mid pc C (List.map (qv ad) (.int j :: .ref a :: S'))) rfl rfl hd2 _ k
set_option maxHeartbeats 4000000 in
theorem QTri.laload {pc aux : Nat} {L : QLoc} {S : List Value} {σ : QHeap} {st' : QSt} (h : QTri l Z n0 ad m st' v σ') (hc : pCode m pc = some (.laload, aux)) (hs : qaldJ (pc + 1) L S σ = some st') : QTri l Z n0 ad m (pc, L, S, σ) v σ' := by
 have hd : decode (pBytes m) pc = .ok (.laload, 1) := pDecN hc rfl
 obtain ⟨j, a, S', xs, w, rfl, hx1, hw, rfl⟩ := qaldJ_inv hs
 refine QTri.stack h fun p e R s mid args below meth c T locs cells slots C target hx hZ hby hown X hR hL k => ?_
 have hd2 : decode c.code pc = .ok (.laload, 1) := by rw [hby]; exact hd
 obtain ⟨cl, A, hsl⟩ := hR.2.2 _ _ hx1
 obtain ⟨i1, i2⟩ := ald_in hsl hw
 exact X.laload hx A.1 (State.isArrayOf_alike hZ.alike A.2.1) A.2.2 i1 i2 (g := mkF mid pc C (List.map (qv ad) (.int j :: .ref a :: S'))) rfl rfl hd2 _ k
theorem QTri.stored (Ad : QAd n0 ad) {pc : Nat} {L : QLoc} {S S' : List Value} {σ : QHeap} {a j : Nat} {w : Value} {c d : QCell} (hx1 : hget σ a = some c) (b1 : k0 ≤ a) (hz : qsz d = qsz c) (h : QTri l Z n0 ad m (pc + 1, L, S', σ.set a d) v σ')
  (hs : ∀ (p : Program) (e : Env) (R : Room) (s : State) (mid : MethodId) (args : Array Value) (below : List Frame) (meth : Method) (c : Code) (T : State) (locs : List Loc) (cells slots : Nat) (C : Array Slot),
   QCx Z p R s mid meth c m → Stand p l e R s mid args below meth c T locs cells slots → QRep Z n0 ad T.heap σ →
   ∃ T' h', Stand p l e R s mid args below meth c T' (locs ++ [⟨ad a, j⟩]) cells slots ∧ T'.heap = h' ∧ Wr T.heap h' (ad a) j w ∧ QCellOk Z ad h' (ad a) d ∧ ∀ target, Steps p.tables e below (T'.setTop (mkF mid (pc + 1) C (S'.map (qv ad)))) target → Steps p.tables e below (T.setTop (mkF mid pc C (S.map (qv ad)))) target) :
  QTri l Z n0 ad m (pc, L, S, σ) v σ' := by
 have hsz : qhs (σ.set a d) = qhs σ := qhs_set hx1 hz
 refine QTri.gen h (by simp) (by show qhs σ ≤ qhs (σ.set a d); rw [hsz]; exact Nat.le_refl _) fun p e R s mid args below meth c T locs cells slots C hcx X hR hF hL hC hn hc1 hsl => ?_
 obtain ⟨T₁, h₁, X₁, e₁, W₁, Q₁, st⟩ := hs p e R s mid args below meth c T locs cells slots C hcx X hR
 refine ⟨T₁, _, C, ?_, ?_, Fr.snoc X₁ hF (by rw [Ad.1 a b1]; exact Nat.le_add_right _ _), hL, hC, st⟩
 ·show Stand _ _ _ _ _ _ _ _ _ _ _ _ (cells + ((σ.set a d).length - σ.length)) (slots + (qhs (σ.set a d) - qhs σ))
  rw [hsz, Nat.sub_self, List.length_set, Nat.sub_self]
  exact X₁
 ·rw [e₁]
  exact QRep.set hR Ad W₁ hx1 Q₁
set_option maxHeartbeats 4000000 in
theorem QTri.iastore (Ad : QAd n0 ad) {pc aux : Nat} {L : QLoc} {S : List Value} {σ : QHeap} {st' : QSt} (h : QTri l Z n0 ad m st' v σ') (hc : pCode m pc = some (.iastore, aux)) (hs : qast (pc + 1) L S σ tyI = some st') : QTri l Z n0 ad m (pc, L, S, σ) v σ' := by
 have hd : decode (pBytes m) pc = .ok (.iastore, 1) := pDecN hc rfl
 obtain ⟨w, j, a, S', ty, xs, ys, rfl, hx1, ht, b1, hw, rfl⟩ := qast_inv hs
 obtain rfl := tyI_inv ht
 refine QTri.stored Ad (j := j.toNatClampNeg) (w := .int w) hx1 b1 (by rw [(aset_inv hw).2.2]; simp [qsz]) h fun p e R s mid args below meth c T locs cells slots C hcx X hR => ?_
 have hd2 : decode c.code pc = .ok (.iastore, 1) := by rw [hcx.2.2.1]; exact hd
 obtain ⟨cl, A, hsl⟩ := hR.2.2 _ _ hx1
 obtain ⟨i1, i2⟩ := ast_in hsl hw
 obtain ⟨T₁, h₁, X₁, e₁, W₁, st⟩ := stI X hcx.1 hcx.2.1 rfl A i1 (g := mkF mid pc C (List.map (qv ad) (.int w :: .int j :: .ref a :: S'))) rfl rfl hd2
 exact ⟨T₁, h₁, X₁, e₁, W₁, ⟨_, A.same W₁, i2⟩, st⟩
set_option maxHeartbeats 4000000 in
theorem QTri.bastore (Ad : QAd n0 ad) {pc aux : Nat} {L : QLoc} {S : List Value} {σ : QHeap} {st' : QSt} (h : QTri l Z n0 ad m st' v σ') (hc : pCode m pc = some (.bastore, aux)) (hs : qast (pc + 1) L S σ tyB = some st') : QTri l Z n0 ad m (pc, L, S, σ) v σ' := by
 have hd : decode (pBytes m) pc = .ok (.bastore, 1) := pDecN hc rfl
 obtain ⟨w, j, a, S', ty, xs, ys, rfl, hx1, ht, b1, hw, rfl⟩ := qast_inv hs
 refine QTri.stored Ad (j := j.toNatClampNeg) (w := .int (qnar ty w)) hx1 b1 (by rw [(aset_inv hw).2.2]; simp [qsz]) h fun p e R s mid args below meth c T locs cells slots C hcx X hR => ?_
 have hd2 : decode c.code pc = .ok (.bastore, 1) := by rw [hcx.2.2.1]; exact hd
 obtain ⟨cl, A, hsl⟩ := hR.2.2 _ _ hx1
 obtain ⟨i1, i2⟩ := ast_in hsl hw
 rcases tyB_inv ht with rfl | rfl
 ·obtain ⟨T₁, h₁, X₁, e₁, W₁, st⟩ := stZ X hcx.1 hcx.2.1 rfl A i1 (g := mkF mid pc C (List.map (qv ad) (.int w :: .int j :: .ref a :: S'))) rfl rfl hd2
  exact ⟨T₁, h₁, X₁, e₁, W₁, ⟨_, A.same W₁, i2⟩, st⟩
 ·obtain ⟨T₁, h₁, X₁, e₁, W₁, st⟩ := stB X hcx.1 hcx.2.1 rfl A i1 (g := mkF mid pc C (List.map (qv ad) (.int w :: .int j :: .ref a :: S'))) rfl rfl hd2
  exact ⟨T₁, h₁, X₁, e₁, W₁, ⟨_, A.same W₁, i2⟩, st⟩
set_option maxHeartbeats 4000000 in
theorem QTri.lastore (Ad : QAd n0 ad) {pc aux : Nat} {L : QLoc} {S : List Value} {σ : QHeap} {st' : QSt} (h : QTri l Z n0 ad m st' v σ') (hc : pCode m pc = some (.lastore, aux)) (hs : qastJ (pc + 1) L S σ = some st') : QTri l Z n0 ad m (pc, L, S, σ) v σ' := by
 have hd : decode (pBytes m) pc = .ok (.lastore, 1) := pDecN hc rfl
 obtain ⟨w, j, a, S', xs, ys, rfl, hx1, b1, hw, rfl⟩ := qastJ_inv hs
 refine QTri.stored Ad (j := j.toNatClampNeg) (w := .long w) hx1 b1 (by rw [(aset_inv hw).2.2]; simp [qsz]) h fun p e R s mid args below meth c T locs cells slots C hcx X hR => ?_
 have hd2 : decode c.code pc = .ok (.lastore, 1) := by rw [hcx.2.2.1]; exact hd
 obtain ⟨cl, A, hsl⟩ := hR.2.2 _ _ hx1
 obtain ⟨i1, i2⟩ := ast_in hsl hw
 obtain ⟨T₁, h₁, X₁, e₁, W₁, st⟩ := stJ X hcx.1 hcx.2.1 rfl A i1 (g := mkF mid pc C (List.map (qv ad) (.long w :: .int j :: .ref a :: S'))) rfl rfl hd2
 exact ⟨T₁, h₁, X₁, e₁, W₁, ⟨_, A.same W₁, i2⟩, st⟩
set_option maxHeartbeats 4000000 in
theorem QTri.alen {pc aux : Nat} {L : QLoc} {S : List Value} {σ : QHeap} {st' : QSt} (h : QTri l Z n0 ad m st' v σ') (hc : pCode m pc = some (.arraylength, aux)) (hs : qlen (pc + 1) L S σ = some st') : QTri l Z n0 ad m (pc, L, S, σ) v σ' := by
 have hd : decode (pBytes m) pc = .ok (.arraylength, 1) := pDecN hc rfl
 obtain ⟨a, S', n, rfl, hx1, rfl⟩ := qlen_inv hs
 refine QTri.stack h fun p e R s mid args below meth c T locs cells slots C target hx hZ hby hown X hR hL k => ?_
 have hd2 : decode c.code pc = .ok (.arraylength, 1) := by rw [hby]; exact hd
 rcases hx1 with ⟨ty, xs, hx1, rfl⟩ | ⟨xs, hx1, rfl⟩
 ·obtain ⟨cl, A, hsl⟩ := hR.2.2 _ _ hx1
  have e1 : cl.slots.size = xs.length := by rw [hsl]; simp
  rw [← e1] at k
  exact X.arraylength hx A.1 (State.isArrayOf_alike hZ.alike A.2.1) (g := mkF mid pc C (List.map (qv ad) (.ref a :: S'))) rfl rfl hd2 _ k
 ·obtain ⟨cl, A, hsl⟩ := hR.2.2 _ _ hx1
  have e1 : cl.slots.size = xs.length := by rw [hsl]; simp
  rw [← e1] at k
  exact X.arraylength hx A.1 (State.isArrayOf_alike hZ.alike A.2.1) (g := mkF mid pc C (List.map (qv ad) (.ref a :: S'))) rfl rfl hd2 _ k
set_option maxHeartbeats 4000000 in
theorem QTri.newObj (Ad : QAd n0 ad) (W : QW Z a0) {pc idx aux : Nat} {L : QLoc} {S : List Value} {σ : QHeap} (h : QTri l Z n0 ad m (pc + 3, L, .ref σ.length :: S, σ ++ [.inl cDef]) v σ') (hc : pCode m pc = some (.new idx, aux)) : QTri l Z n0 ad m (pc, L, S, σ) v σ' := by
 have hd : decode (pBytes m) pc = .ok (.new idx, 3) := pDecN hc rfl
 have hm := mem_of_contains (show lkN.contains (pK m, idx) = true from pRest hc)
 refine QTri.gen h (by simp) (by simp [qhs_app]) fun p e R s mid args below meth c T locs cells slots C hcx X hR hF hL hC hn hc1 hsl => ?_
 obtain ⟨hx, hZ, hby, hml, hret, hown, hnm, hfr, hlo⟩ := hcx
 have hd2 : decode c.code pc = .ok (.new idx, 3) := by rw [hby]; exact hd
 simp only [List.length_append, List.length_singleton, Nat.add_sub_cancel_left, qgrow, qsz] at hc1 hsl ⊢
 obtain ⟨T₁, h₁, X₁, e₁, E₁, A₁, D₁, -, st⟩ := newO X hx hZ hown (index := idx) (qw_nw W (pK m, idx) hm) ((qw_inst W)) ((qw_init W)) rfl (g := mkF mid pc C (S.map (qv ad))) rfl hd2 hc1 hsl
 have hsz : h₁.size = T.heap.size + 1 := by
  have q1 := X₁.heapSize
  have q2 : T.heap.size < h₁.size := A₁.lt
  have q3 : T.heap.size = n0 + (σ.length - k0) := hR.2.1
  rw [e₁] at q1
  have : n0 + (σ.length - k0) = s.heap.size + cells := hn
  omega
 refine ⟨T₁, locs, C, X₁, ?_, hF, hL, hC, fun target q => ?_⟩
 ·rw [e₁]
  refine QRep.push hR Ad E₁ hsz ⟨A₁, cDefL, fun k u hk hu => ?_⟩
  rw [cDefs k hk] at hu
  cases hu
  have e3 : qv ad (defaultValue (fTy k)) = defaultValue (fTy k) := by
   cases hq : defaultValue (fTy k) with
   | ref a => exact absurd hq (fDef k hk a)
   | _ => rfl
  rw [e3]
  exact D₁ (laid_of W hk) (fPrs k hk)
 ·refine st _ ?_
  have e2 : ad σ.length = T.heap.size := by rw [Ad.1 _ hR.1]; exact hR.2.1.symm
  simp only [List.map_cons, qv, e2] at q
  exact q
set_option maxHeartbeats 8000000 in
theorem QTri.step (Ad : QAd n0 ad) (W : QW Z a0) {st st' : QSt} (h : QTri l Z n0 ad m st' v σ') (hs : qstep m st = some st') : QTri l Z n0 ad m st v σ' := by
 obtain ⟨pc, L, S, σ⟩ := st
 unfold qstep at hs
 dsimp only at hs
 split at hs
 rotate_left
 ·cases hs
 rename_i i aux hc
 have hd := pDecN hc rfl
 have hr := pRest hc
 unfold qexec at hs
 split at hs
 ·-- aload_n
  obtain ⟨w, h1, h2, rfl⟩ := qload_inv hs
  obtain ⟨a, rfl⟩ := isR_inv h2
  exact QTri.stack h fun p e R s mid args below meth c T locs cells slots C target hx hZ hby hown X hR hL k => XS.aloadN X.here hx rfl (hb hby hd) (hL.2.1 _ _ h1) rfl k
 ·obtain ⟨w, h1, h2, rfl⟩ := qload_inv hs
  obtain ⟨a, rfl⟩ := isR_inv h2
  exact QTri.stack h fun p e R s mid args below meth c T locs cells slots C target hx hZ hby hown X hR hL k => XS.aload X.here hx rfl (hb hby hd) (hL.2.1 _ _ h1) rfl k
 ·obtain ⟨w, h1, h2, rfl⟩ := qload_inv hs
  obtain ⟨a, rfl⟩ := isI_inv h2
  exact QTri.stack h fun p e R s mid args below meth c T locs cells slots C target hx hZ hby hown X hR hL k => XS.iloadN X.here hx rfl (hb hby hd) (hL.2.1 _ _ h1) k
 ·obtain ⟨w, h1, h2, rfl⟩ := qload_inv hs
  obtain ⟨a, rfl⟩ := isI_inv h2
  exact QTri.stack h fun p e R s mid args below meth c T locs cells slots C target hx hZ hby hown X hR hL k => XS.iload X.here hx rfl (hb hby hd) (hL.2.1 _ _ h1) k
 ·obtain ⟨w, h1, h2, rfl⟩ := qload_inv hs
  obtain ⟨a, rfl⟩ := isJ_inv h2
  exact QTri.stack h fun p e R s mid args below meth c T locs cells slots C target hx hZ hby hown X hR hL k => XT.lloadN X.here hx rfl (hb hby hd) (hL.2.1 _ _ h1) k
 ·obtain ⟨w, h1, h2, rfl⟩ := qload_inv hs
  obtain ⟨a, rfl⟩ := isJ_inv h2
  exact QTri.stack h fun p e R s mid args below meth c T locs cells slots C target hx hZ hby hown X hR hL k => XT.lload X.here hx rfl (hb hby hd) (hL.2.1 _ _ h1) k
 ·cases hs -- iconst
  exact QTri.stack h fun p e R s mid args below meth c T locs cells slots C target hx hZ hby hown X hR hL k => XS.iconst X.here hx rfl (hb hby hd) k
 ·cases hs
  exact QTri.stack h fun p e R s mid args below meth c T locs cells slots C target hx hZ hby hown X hR hL k => XS.bipush X.here hx rfl (hb hby hd) k
 ·cases hs
  exact QTri.stack h fun p e R s mid args below meth c T locs cells slots C target hx hZ hby hown X hR hL k => XS.sipush X.here hx rfl (hb hby hd) k
 ·cases hs
  exact QTri.stack h fun p e R s mid args below meth c T locs cells slots C target hx hZ hby hown X hR hL k => XT.lconst X.here hx rfl (hb hby hd) k
 ·-- ldc
  unfold qldc at hs
  split at hs
  ·rename_i w hw
   cases hs
   obtain ⟨x, hx1, hx2⟩ := qw_cI W (pK m, _, aux) (mem_of_contains (show lkC.contains (pK m, _, aux) = true from hr))
   rw [show vget cK aux = some w from hw] at hx1
   cases hx1
   exact QTri.stack h fun p e R s mid args below meth c T locs cells slots C target hx hZ hby hown X hR hL k => X.ldcI hx hown (mv hZ hx2) rfl (hb hby hd) k
  ·cases hs
 ·unfold qldc at hs
  split at hs
  ·rename_i w hw
   cases hs
   obtain ⟨x, hx1, hx2⟩ := qw_cJ W (pK m, _, aux) (mem_of_contains (show lkD.contains (pK m, _, aux) = true from hr))
   rw [show vget cK aux = some w from hw] at hx1
   cases hx1
   exact QTri.stack h fun p e R s mid args below meth c T locs cells slots C target hx hZ hby hown X hR hL k => X.ldc2J hx hown (mv hZ hx2) rfl (hb hby hd) k
  ·cases hs
 ·-- istore_n
  obtain ⟨w, S', L', rfl, h2, h3, rfl⟩ := qstore_inv hs
  obtain ⟨a, rfl⟩ := isI_inv h2
  exact QTri.frame h fun p e R s mid args below meth c T locs cells slots C hcx X hR hL hC => by
   obtain ⟨D, d1, d2, d3⟩ := store_ok hL h3
   exact ⟨D, d2, d3.trans hC, fun target k => XS.istoreN X.here hcx.1 rfl (hb hcx.2.2.1 hd) rfl d1 k⟩
 ·obtain ⟨w, S', L', rfl, h2, h3, rfl⟩ := qstore_inv hs
  obtain ⟨a, rfl⟩ := isI_inv h2
  exact QTri.frame h fun p e R s mid args below meth c T locs cells slots C hcx X hR hL hC => by
   obtain ⟨D, d1, d2, d3⟩ := store_ok hL h3
   exact ⟨D, d2, d3.trans hC, fun target k => XS.istore X.here hcx.1 rfl (hb hcx.2.2.1 hd) rfl d1 k⟩
 ·obtain ⟨w, S', L', rfl, h2, h3, rfl⟩ := qstore_inv hs
  obtain ⟨a, rfl⟩ := isJ_inv h2
  exact QTri.frame h fun p e R s mid args below meth c T locs cells slots C hcx X hR hL hC => by
   obtain ⟨D, d1, d2, d3⟩ := store_ok hL h3
   exact ⟨D, d2, d3.trans hC, fun target k => XT.lstoreN X.here hcx.1 rfl (hb hcx.2.2.1 hd) rfl d1 k⟩
 ·obtain ⟨w, S', L', rfl, h2, h3, rfl⟩ := qstore_inv hs
  obtain ⟨a, rfl⟩ := isJ_inv h2
  exact QTri.frame h fun p e R s mid args below meth c T locs cells slots C hcx X hR hL hC => by
   obtain ⟨D, d1, d2, d3⟩ := store_ok hL h3
   exact ⟨D, d2, d3.trans hC, fun target k => XT.lstore X.here hcx.1 rfl (hb hcx.2.2.1 hd) rfl d1 k⟩
 ·obtain ⟨w, S', L', rfl, h2, h3, rfl⟩ := qstore_inv hs
  obtain ⟨a, rfl⟩ := isR_inv h2
  exact QTri.frame h fun p e R s mid args below meth c T locs cells slots C hcx X hR hL hC => by
   obtain ⟨D, d1, d2, d3⟩ := store_ok hL h3
   exact ⟨D, d2, d3.trans hC, fun target k => XS.astoreN X.here hcx.1 rfl (hb hcx.2.2.1 hd) rfl rfl d1 k⟩
 ·obtain ⟨w, S', L', rfl, h2, h3, rfl⟩ := qstore_inv hs
  obtain ⟨a, rfl⟩ := isR_inv h2
  exact QTri.frame h fun p e R s mid args below meth c T locs cells slots C hcx X hR hL hC => by
   obtain ⟨D, d1, d2, d3⟩ := store_ok hL h3
   exact ⟨D, d2, d3.trans hC, fun target k => XS.astore X.here hcx.1 rfl (hb hcx.2.2.1 hd) rfl rfl d1 k⟩
 ·-- iinc
  unfold qinc at hs
  split at hs
  ·rename_i x hx1
   split at hs
   ·rename_i L' hL'
    cases hs
    exact QTri.frame h fun p e R s mid args below meth c T locs cells slots C hcx X hR hL hC => by
     obtain ⟨D, d1, d2, d3⟩ := store_ok hL hL'
     exact ⟨D, d2, d3.trans hC, fun target k => XS.iinc X.here hcx.1 rfl (hb hcx.2.2.1 hd) (hL.2.1 _ _ hx1) d1 k⟩
   ·cases hs
  ·cases hs
 ·obtain ⟨x, y, S', rfl, rfl⟩ := qbin_inv hs -- iadd
  exact QTri.stack h fun p e R s mid args below meth c T locs cells slots C target hx hZ hby hown X hR hL k => XS.iadd X.here hx rfl (hb hby hd) rfl k
 ·obtain ⟨x, y, S', rfl, rfl⟩ := qbin_inv hs
  exact QTri.stack h fun p e R s mid args below meth c T locs cells slots C target hx hZ hby hown X hR hL k => XS.isub X.here hx rfl (hb hby hd) rfl k
 ·obtain ⟨x, y, S', rfl, rfl⟩ := qbin_inv hs
  exact QTri.stack h fun p e R s mid args below meth c T locs cells slots C target hx hZ hby hown X hR hL k => XS.imul X.here hx rfl (hb hby hd) rfl k
 ·obtain ⟨x, y, S', rfl, rfl⟩ := qbin_inv hs
  exact QTri.stack h fun p e R s mid args below meth c T locs cells slots C target hx hZ hby hown X hR hL k => XS.iand X.here hx rfl (hb hby hd) rfl k
 ·obtain ⟨x, y, S', rfl, rfl⟩ := qbin_inv hs
  exact QTri.stack h fun p e R s mid args below meth c T locs cells slots C target hx hZ hby hown X hR hL k => XT.ior X.here hx rfl (hb hby hd) rfl k
 ·obtain ⟨x, y, S', rfl, rfl⟩ := qbin_inv hs
  exact QTri.stack h fun p e R s mid args below meth c T locs cells slots C target hx hZ hby hown X hR hL k => XT.ixor X.here hx rfl (hb hby hd) rfl k
 ·obtain ⟨x, y, S', rfl, rfl⟩ := qbin_inv hs
  exact QTri.stack h fun p e R s mid args below meth c T locs cells slots C target hx hZ hby hown X hR hL k => XT.ishl X.here hx rfl (hb hby hd) rfl k
 ·obtain ⟨x, y, S', rfl, rfl⟩ := qbin_inv hs
  exact QTri.stack h fun p e R s mid args below meth c T locs cells slots C target hx hZ hby hown X hR hL k => XT.ishr X.here hx rfl (hb hby hd) rfl k
 ·obtain ⟨x, y, S', rfl, rfl⟩ := qbin_inv hs
  exact QTri.stack h fun p e R s mid args below meth c T locs cells slots C target hx hZ hby hown X hR hL k => XT.iushr X.here hx rfl (hb hby hd) rfl k
 ·obtain ⟨x, y, z, S', rfl, hz, rfl⟩ := qbino_inv hs -- idiv
  unfold qdiv at hz
  split at hz
  ·cases hz
  ·rename_i hy
   cases hz
   exact QTri.stack h fun p e R s mid args below meth c T locs cells slots C target hx hZ hby hown X hR hL k => XS.idiv X.here hx rfl (hb hby hd) rfl hy k
 ·obtain ⟨x, y, z, S', rfl, hz, rfl⟩ := qbino_inv hs
  unfold qrem at hz
  split at hz
  ·cases hz
  ·rename_i hy
   cases hz
   exact QTri.stack h fun p e R s mid args below meth c T locs cells slots C target hx hZ hby hown X hR hL k => iremM X hx rfl (hb hby hd) rfl hy k
 ·obtain ⟨x, S', rfl, rfl⟩ := quni_inv hs -- ineg
  exact QTri.stack h fun p e R s mid args below meth c T locs cells slots C target hx hZ hby hown X hR hL k => XS.ineg X.here hx rfl (hb hby hd) rfl k
 ·obtain ⟨x, S', rfl, rfl⟩ := quni_inv hs
  exact QTri.stack h fun p e R s mid args below meth c T locs cells slots C target hx hZ hby hown X hR hL k => XT.i2l X.here hx rfl (hb hby hd) rfl k
 ·obtain ⟨x, S', rfl, rfl⟩ := quni_inv hs
  exact QTri.stack h fun p e R s mid args below meth c T locs cells slots C target hx hZ hby hown X hR hL k => XT.i2b X.here hx rfl (hb hby hd) rfl k
 ·obtain ⟨x, S', rfl, rfl⟩ := quniJ_inv hs
  exact QTri.stack h fun p e R s mid args below meth c T locs cells slots C target hx hZ hby hown X hR hL k => XT.l2i X.here hx rfl (hb hby hd) rfl k
 ·obtain ⟨x, S', rfl, rfl⟩ := quniJ_inv hs
  exact QTri.stack h fun p e R s mid args below meth c T locs cells slots C target hx hZ hby hown X hR hL k => XT.lneg X.here hx rfl (hb hby hd) rfl k
 ·obtain ⟨x, y, S', rfl, rfl⟩ := qbinJ_inv hs
  exact QTri.stack h fun p e R s mid args below meth c T locs cells slots C target hx hZ hby hown X hR hL k => XT.ladd X.here hx rfl (hb hby hd) rfl k
 ·obtain ⟨x, y, S', rfl, rfl⟩ := qbinJ_inv hs
  exact QTri.stack h fun p e R s mid args below meth c T locs cells slots C target hx hZ hby hown X hR hL k => XT.lsub X.here hx rfl (hb hby hd) rfl k
 ·obtain ⟨x, y, S', rfl, rfl⟩ := qbinJ_inv hs
  exact QTri.stack h fun p e R s mid args below meth c T locs cells slots C target hx hZ hby hown X hR hL k => XT.lmul X.here hx rfl (hb hby hd) rfl k
 ·obtain ⟨x, y, S', rfl, rfl⟩ := qbinJ_inv hs
  exact QTri.stack h fun p e R s mid args below meth c T locs cells slots C target hx hZ hby hown X hR hL k => XT.land X.here hx rfl (hb hby hd) rfl k
 ·obtain ⟨x, y, S', rfl, rfl⟩ := qbinJ_inv hs
  exact QTri.stack h fun p e R s mid args below meth c T locs cells slots C target hx hZ hby hown X hR hL k => XT.lor X.here hx rfl (hb hby hd) rfl k
 ·obtain ⟨x, y, S', rfl, rfl⟩ := qbinJ_inv hs
  exact QTri.stack h fun p e R s mid args below meth c T locs cells slots C target hx hZ hby hown X hR hL k => XT.lxor X.here hx rfl (hb hby hd) rfl k
 ·obtain ⟨x, y, S', rfl, rfl⟩ := qshJ_inv hs
  exact QTri.stack h fun p e R s mid args below meth c T locs cells slots C target hx hZ hby hown X hR hL k => XT.lshl X.here hx rfl (hb hby hd) rfl k
 ·obtain ⟨x, y, S', rfl, rfl⟩ := qshJ_inv hs
  exact QTri.stack h fun p e R s mid args below meth c T locs cells slots C target hx hZ hby hown X hR hL k => XT.lshr X.here hx rfl (hb hby hd) rfl k
 ·obtain ⟨x, y, S', rfl, rfl⟩ := qshJ_inv hs
  exact QTri.stack h fun p e R s mid args below meth c T locs cells slots C target hx hZ hby hown X hR hL k => XT.lushr X.here hx rfl (hb hby hd) rfl k
 ·split at hs -- lcmp
  ·cases hs
   exact QTri.stack h fun p e R s mid args below meth c T locs cells slots C target hx hZ hby hown X hR hL k => XT.lcmp X.here hx rfl (hb hby hd) rfl k
  ·cases hs
 ·cases hs -- goto
  obtain ⟨t1, t2⟩ := qtgt_spec hr
  exact QTri.stack h fun p e R s mid args below meth c T locs cells slots C target hx hZ hby hown X hR hL k => XS.goto X.here hx rfl rfl (hb hby hd) t1 t2 k
 ·obtain ⟨x, S', rfl, rfl⟩ := qif_inv hs
  obtain ⟨t1, t2⟩ := qtgt_spec hr
  cases hh : ifCond.holds _ x with
  | true => rw [hh] at h; exact QTri.stack h fun p e R s mid args below meth c T locs cells slots C target hx hZ hby hown X hR hL k => XS.ifYes X.here hx rfl rfl (hb hby hd) rfl hh t1 t2 k
  | false => rw [hh] at h; exact QTri.stack h fun p e R s mid args below meth c T locs cells slots C target hx hZ hby hown X hR hL k => XS.ifNo X.here hx rfl (hb hby hd) rfl hh k
 ·obtain ⟨x, y, S', rfl, rfl⟩ := qicmp_inv hs
  obtain ⟨t1, t2⟩ := qtgt_spec hr
  cases hh : if_icmp.holds _ x y with
  | true => rw [hh] at h; exact QTri.stack h fun p e R s mid args below meth c T locs cells slots C target hx hZ hby hown X hR hL k => XS.icmpYes X.here hx rfl rfl (hb hby hd) rfl hh t1 t2 k
  | false => rw [hh] at h; exact QTri.stack h fun p e R s mid args below meth c T locs cells slots C target hx hZ hby hown X hR hL k => XS.icmpNo X.here hx rfl (hb hby hd) rfl hh k
 ·unfold qdup at hs
  split at hs
  ·cases hs
   exact QTri.stack h fun p e R s mid args below meth c T locs cells slots C target hx hZ hby hown X hR hL k => XS.dup X.here hx rfl (hb hby hd) rfl rfl k
  ·cases hs
   exact QTri.stack h fun p e R s mid args below meth c T locs cells slots C target hx hZ hby hown X hR hL k => XS.dup X.here hx rfl (hb hby hd) rfl rfl k
  ·cases hs
 ·unfold qdup2 at hs
  split at hs
  ·cases hs
   exact QTri.stack h fun p e R s mid args below meth c T locs cells slots C target hx hZ hby hown X hR hL k => XT.dup2 X.here hx rfl (hb hby hd) rfl rfl rfl k
  ·cases hs
   exact QTri.stack h fun p e R s mid args below meth c T locs cells slots C target hx hZ hby hown X hR hL k => XT.dup2 X.here hx rfl (hb hby hd) rfl rfl rfl k
  ·cases hs
   exact QTri.stack h fun p e R s mid args below meth c T locs cells slots C target hx hZ hby hown X hR hL k => XT.dup2L X.here hx rfl (hb hby hd) rfl k
  ·cases hs
 ·unfold qpop at hs
  split at hs
  ·cases hs
   exact QTri.stack h fun p e R s mid args below meth c T locs cells slots C target hx hZ hby hown X hR hL k => XT.pop X.here hx rfl (hb hby hd) rfl rfl k
  ·cases hs
   exact QTri.stack h fun p e R s mid args below meth c T locs cells slots C target hx hZ hby hown X hR hL k => XT.pop X.here hx rfl (hb hby hd) rfl rfl k
  ·cases hs
 ·exact QTri.getfield W h hc hs
 ·exact QTri.putfield Ad W h hc hs
 ·exact QTri.iaload h hc hs
 ·exact QTri.baload h hc hs
 ·exact QTri.laload h hc hs
 ·exact QTri.iastore Ad h hc hs
 ·exact QTri.bastore Ad h hc hs
 ·exact QTri.lastore Ad h hc hs
 ·exact QTri.alen h hc hs
 ·-- newarray
  unfold qnewA at hs
  split at hs
  ·split at hs
   ·obtain ⟨k, hk, hs⟩ := Option.bind_eq_some_iff.mp hs
    cases hs
    exact QTri.newArr (c := .inr (.inl (.int, List.replicate k 0))) Ad W hk hc (by simp [qsz]) (fun h' a cA A => ⟨_, A, by simp [newA, (qnew_inv hk).2.1]; exact Or.inr rfl⟩) h
   ·obtain ⟨k, hk, hs⟩ := Option.bind_eq_some_iff.mp hs
    cases hs
    exact QTri.newArr (c := .inr (.inl (.boolean, List.replicate k 0))) Ad W hk hc (by simp [qsz]) (fun h' a cA A => ⟨_, A, by simp [newA, (qnew_inv hk).2.1]; exact Or.inr rfl⟩) h
   ·obtain ⟨k, hk, hs⟩ := Option.bind_eq_some_iff.mp hs
    cases hs
    exact QTri.newArr (c := .inr (.inl (.byte, List.replicate k 0))) Ad W hk hc (by simp [qsz]) (fun h' a cA A => ⟨_, A, by simp [newA, (qnew_inv hk).2.1]; exact Or.inr rfl⟩) h
   ·obtain ⟨k, hk, hs⟩ := Option.bind_eq_some_iff.mp hs
    cases hs
    exact QTri.newArr (c := .inr (.inr (List.replicate k 0))) Ad W hk hc (by simp [qsz]) (fun h' a cA A => ⟨_, A, by simp [newA, (qnew_inv hk).2.1]; exact Or.inr rfl⟩) h
   ·cases hs
  ·cases hs
 ·cases hs; exact QTri.newObj Ad W h hc
 ·cases hs
theorem QTri.steps (Ad : QAd n0 ad) (W : QW Z a0) : ∀ (n : Nat) {st st' : QSt}, qsteps m n st = some st' → QTri l Z n0 ad m st' v σ' → QTri l Z n0 ad m st v σ'
 | 0, st, st', h, k => by cases h; exact k
 | n + 1, st, st', h, k => by
  simp only [qsteps] at h
  split at h
  ·rename_i st₁ h1
   exact QTri.step Ad W (QTri.steps Ad W n h k) h1
  ·cases h
def lmask : List Bool → QLoc → QLoc
 | b :: t, x :: u => (bif b then x else none) :: lmask t u
 | _, L => L.map fun _ => none
theorem lmask_len : ∀ (b : List Bool) (L : QLoc), (lmask b L).length = L.length
 | [], L => by simp [lmask]
 | _ :: _, [] => by simp [lmask]
 | _ :: t, _ :: u => by simp [lmask, lmask_len t u]
theorem lmask_get : ∀ (b : List Bool) (L : QLoc) (k : Nat) (v : Value), lget (lmask b L) k = some v → lget L k = some v
 | [], L, k, v, h => by
  simp only [lmask, lget_eq, List.getElem?_map] at h
  cases hq : L[k]? <;> simp [hq] at h
 | _ :: _, [], k, v, h => by simp [lmask, lget] at h
 | b :: t, x :: u, 0, v, h => by
  simp only [lmask, lget] at h ⊢
  cases b
  ·cases h
  ·exact h
 | b :: t, x :: u, k + 1, v, h => by
  simp only [lmask, lget] at h ⊢
  exact lmask_get t u k v h
theorem QTri.mask {pc : Nat} {L : QLoc} {S : List Value} {σ : QHeap} (b : List Bool) (h : QTri l Z n0 ad m (pc, lmask b L, S, σ) v σ') : QTri l Z n0 ad m (pc, L, S, σ) v σ' :=
 QTri.frame h fun p e R s mid args below meth c T locs cells slots C hcx X hR hL hC => ⟨C, ⟨by rw [lmask_len]; exact hL.1, fun k u hk => hL.2.1 k u (lmask_get b L k u hk), hL.2.2⟩, hC, fun target k => k⟩
theorem QTri.ret0 {pc aux : Nat} {L : QLoc} {σ : QHeap} (hc : pCode m pc = some (.return_, aux)) (hr : pRet m = none) : QTri l Z n0 ad m (pc, L, [], σ) none σ :=
 have hd : decode (pBytes m) pc = .ok (.return_, 1) := pDecN hc rfl
 ⟨Nat.le_refl _, Nat.le_refl _, fun p e R s mid args below meth c T locs cells slots C hcx X hR hF hL hC hn hc1 hsl => ⟨T, locs, by simpa using X, hR, hF, fun fs hf => X.returnOut hcx.1 (hcx.2.2.2.2.1.trans hr) (hb hcx.2.2.1 hd) hf⟩⟩
theorem QTri.retI {pc aux : Nat} {L : QLoc} {S : List Value} {σ : QHeap} {x : Int32} (hc : pCode m pc = some (.ireturn, aux)) (hr : pRet m = some .int) : QTri l Z n0 ad m (pc, L, .int x :: S, σ) (some (.int x)) σ :=
 have hd : decode (pBytes m) pc = .ok (.ireturn, 1) := pDecN hc rfl
 ⟨Nat.le_refl _, Nat.le_refl _, fun p e R s mid args below meth c T locs cells slots C hcx X hR hF hL hC hn hc1 hsl => ⟨T, locs, by simpa using X, hR, hF, fun fs hf => Jvm.RoadKit.retI X hcx.1 (hcx.2.2.2.2.1.trans hr) (hb hcx.2.2.1 hd) hf⟩⟩
theorem QTri.retZ {pc aux : Nat} {L : QLoc} {S : List Value} {σ : QHeap} {x : Int32} (hc : pCode m pc = some (.ireturn, aux)) (hr : pRet m = some .boolean) : QTri l Z n0 ad m (pc, L, .int x :: S, σ) (some (.int (x &&& 1))) σ :=
 have hd : decode (pBytes m) pc = .ok (.ireturn, 1) := pDecN hc rfl
 ⟨Nat.le_refl _, Nat.le_refl _, fun p e R s mid args below meth c T locs cells slots C hcx X hR hF hL hC hn hc1 hsl => ⟨T, locs, by simpa using X, hR, hF, fun fs hf => retN X hcx.1 (t := .boolean) (hcx.2.2.2.2.1.trans hr) (by simp) (hb hcx.2.2.1 hd) hf⟩⟩
theorem QTri.retJ {pc aux : Nat} {L : QLoc} {S : List Value} {σ : QHeap} {x : Int64} (hc : pCode m pc = some (.lreturn, aux)) (hr : pRet m = some .long) : QTri l Z n0 ad m (pc, L, .long x :: S, σ) (some (.long x)) σ :=
 have hd : decode (pBytes m) pc = .ok (.lreturn, 1) := pDecN hc rfl
 ⟨Nat.le_refl _, Nat.le_refl _, fun p e R s mid args below meth c T locs cells slots C hcx X hR hF hL hC hn hc1 hsl => ⟨T, locs, by simpa using X, hR, hF, fun fs hf => retOut X hcx.1 (t := .long) (hcx.2.2.2.2.1.trans hr) rfl (Or.inr (Or.inl ⟨rfl, rfl, _, rfl⟩)) (hb hcx.2.2.1 hd) hf⟩⟩
def LOk (ad : Nat → Addr) (L : QLoc) (C : List Slot) : Prop :=
 L.length = C.length ∧ (∀ k v, lget L k = some v → C[k]? = some (.val (qv ad v))) ∧ (∀ k w, C[k]? = some (.val w) → w.category = 2 → C[k + 1]? = some .second) ∧ ∀ k, C[k]? = some .second → ∃ j w, k = j + 1 ∧ C[j]? = some (.val w) ∧ w.category = 2
theorem LOk.base (ad : Nat → Addr) (n : Nat) : LOk ad (List.replicate n none) (List.replicate n .unset) := by
 refine ⟨by simp, fun k u h => ?_, fun k w h => ?_, fun k h => ?_⟩
 ·rw [lget_eq] at h
  rcases Nat.lt_or_ge k n with q | q
  ·simp [List.getElem?_replicate, q] at h
  ·simp [List.getElem?_eq_none, q] at h
 ·rcases Nat.lt_or_ge k n with q | q
  ·simp [List.getElem?_replicate, q] at h
  ·simp [List.getElem?_eq_none, q] at h
 ·rcases Nat.lt_or_ge k n with q | q
  ·simp [List.getElem?_replicate, q] at h
  ·simp [List.getElem?_eq_none, q] at h
theorem LOk.one {L : QLoc} {C : List Slot} (H : LOk ad L C) {u : Value} (hu : u.category = 1) : LOk ad (some u :: L) (.val (qv ad u) :: C) := by
 obtain ⟨h1, h2, h3, h4⟩ := H
 refine ⟨by simp [h1], fun k w h => ?_, fun k w h hw => ?_, fun k h => ?_⟩
 ·cases k with
  | zero => simp only [lget] at h; cases h; simp
  | succ k => simp only [lget] at h; simpa using h2 k w h
 ·cases k with
  | zero => simp at h; rw [← h, qv_cat, hu] at hw; cases hw
  | succ k => simpa using h3 k w (by simpa using h) hw
 ·cases k with
  | zero => simp at h
  | succ k =>
   obtain ⟨j, w, z1, z2, z3⟩ := h4 k (by simpa using h)
   exact ⟨j + 1, w, by omega, by simpa using z2, z3⟩
theorem LOk.two {L : QLoc} {C : List Slot} (H : LOk ad L C) {u : Value} (hu : u.category = 2) : LOk ad (some u :: none :: L) (.val (qv ad u) :: .second :: C) := by
 obtain ⟨h1, h2, h3, h4⟩ := H
 refine ⟨by simp [h1], fun k w h => ?_, fun k w h hw => ?_, fun k h => ?_⟩
 ·rcases k with _ | _ | k
  ·simp only [lget] at h; cases h; simp
  ·simp [lget] at h
  ·simp only [lget] at h; simpa using h2 k w h
 ·rcases k with _ | _ | k
  ·simp
  ·simp at h
  ·simpa using h3 k w (by simpa using h) hw
 ·rcases k with _ | _ | k
  ·simp at h
  ·exact ⟨0, qv ad u, rfl, by simp, by rw [qv_cat]; exact hu⟩
  ·obtain ⟨j, w, z1, z2, z3⟩ := h4 k (by simpa using h)
   exact ⟨j + 2, w, by omega, by simpa using z2, z3⟩
def slotsOf (u : Value) : List Slot := if u.category = 2 then [.val u, .second] else [.val u]
theorem fold_slots : ∀ (as : List Value) (acc : Array Slot), (as.foldl (fun acc v => if v.category = 2 then (acc.push (.val v)).push .second else acc.push (.val v)) acc).toList = acc.toList ++ as.flatMap slotsOf
 | [], acc => by simp
 | u :: t, acc => by
  rw [List.foldl_cons, fold_slots t]
  by_cases hc : u.category = 2 <;> simp [slotsOf, hc]
theorem slots_len : ∀ (as : List Value), (as.flatMap slotsOf).length = (as.map fun v => v.category).sum
 | [] => rfl
 | u :: t => by
  rw [List.flatMap_cons, List.length_append, slots_len t, List.map_cons, List.sum_cons]
  cases u <;> simp [slotsOf, Value.category]
theorem cats_qv (as : List Value) : ((as.map (qv ad)).map fun v => v.category).sum = (as.map fun v => v.category).sum := by
 rw [List.map_map]
 congr 1
 exact List.map_congr_left fun x _ => qv_cat ad x
theorem entry_list : ∀ (as : List Value) (n : Nat), LOk ad ((as.flatMap fun v => match v with | .long x => [some (.long x), none] | .double x => [some (.double x), none] | v => [some v]) ++ List.replicate n none) ((as.map (qv ad)).flatMap slotsOf ++ List.replicate n .unset)
 | [], n => by simpa using LOk.base ad n
 | u :: t, n => by
  have ih := entry_list t n
  cases u with
  | long x => exact LOk.two ih rfl
  | double x => exact LOk.two ih rfl
  | int x => exact LOk.one ih rfl
  | float x => exact LOk.one ih rfl
  | null => exact LOk.one ih rfl
  | ref x => exact LOk.one ih rfl
  | retAddr x => exact LOk.one ih rfl
theorem qentry_ok (as : List Value) (mx : Nat) (h : (as.map fun v => v.category).sum ≤ mx) : QLocOk ad (qentry as mx) (argsToLocals (as.map (qv ad)).toArray mx) ∧ (argsToLocals (as.map (qv ad)).toArray mx).size = mx := by
 have e : (argsToLocals (as.map (qv ad)).toArray mx).toList = (as.map (qv ad)).flatMap slotsOf ++ List.replicate (mx - (as.map fun v => v.category).sum) .unset := by
  unfold argsToLocals
  have q := fold_slots (as.map (qv ad)) #[]
  simp only [List.foldl_toArray', Array.toList_append, Array.toList_replicate]
  have q2 : ((as.map (qv ad)).foldl (fun (acc : Array Slot) (v : Value) => if v.category = 2 then (acc.push (.val v)).push .second else acc.push (.val v)) #[]).size = (as.map fun v => v.category).sum := by
   rw [← Array.length_toList, q]
   simp only [List.nil_append]
   rw [slots_len, cats_qv]
  rw [q, q2]
  simp
 have H := entry_list (ad := ad) as (mx - (as.map fun v => v.category).sum)
 rw [← e] at H
 obtain ⟨h1, h2, h3, h4⟩ := H
 have hs : (argsToLocals (as.map (qv ad)).toArray mx).size = mx := by
  rw [← Array.length_toList, e, List.length_append, slots_len, cats_qv, List.length_replicate]
  omega
 refine ⟨⟨h1.trans Array.length_toList, fun k u hk => ?_, fun k w hk hw => ?_, fun k hk => ?_⟩, hs⟩
 ·have := h2 k u hk; rwa [Array.getElem?_toList] at this
 ·have := h3 k w (by rw [Array.getElem?_toList]; exact hk) hw; rwa [Array.getElem?_toList] at this
 ·obtain ⟨j, w, z1, z2, z3⟩ := h4 k (by rw [Array.getElem?_toList]; exact hk)
  exact ⟨j, w, z1, by rwa [Array.getElem?_toList] at z2, z3⟩
set_option maxHeartbeats 4000000 in
theorem QTri.met {k : Nat} {as : List Value} {σ σ₁ : QHeap} {w : Option Value} {h0 : Heap} (hk : k < pN) (h : QTri l Z n0 ad k (0, qentry as (pMaxL k), [], σ) w σ₁) (hR : QRep Z n0 ad h0 σ) (hlen : (as.map fun v => v.category).sum ≤ pMaxL k) (hret : pRet k = none → w = none) (ws : List Jvm.Cond) {rm : Room}
  (r1 : pFr k ≤ rm.frames) (r2 : pLo k ≤ rm.locals) (r3 : σ₁.length - σ.length ≤ rm.cells) (r4 : qhs σ₁ - qhs σ ≤ rm.slots) :
  MetFree l (pName k) (head1 (Jvm.Cond.code (pName k) (pBytes k) (pMaxL k) (pRet k) :: ws) rm) (fun a U => a = (as.map (qv ad)).toArray ∧ Z.Warmed39 U.vm ∧ U.heap = h0) (fun _ _ _ _ _ => True)
   (fun _ U o U' => ∃ v L, o = .returned v ∧ (v = w.map (qv ad) ∧ QRep Z n0 ad U'.heap σ₁ ∧ Fr n0 L) ∧ FrameEnd U o U' L (σ₁.length - σ.length) (qhs σ₁ - qhs σ)) := by
 refine MetFree.of_bodySF (plainFor_of_name (kPlain _ (pKlt k hk))) hisR ?_
 intro p e s mid args below meth c s₁ Bd hml0 hP hK
 obtain ⟨rfl, hZ, hh⟩ := hP
 have e0 : s₁.heap = h0 := by rw [← hh, Bd.state]; rfl
 obtain ⟨hl1, hl2⟩ := qentry_ok (ad := ad) as (pMaxL k) hlen
 have hX : Stand p l e rm s mid (as.map (qv ad)).toArray below meth c s₁ [] 0 0 := Stand.of_body Bd
 obtain ⟨T', locs', X', R', F', S'⟩ := h.2.2 p e rm s mid _ below meth c s₁ [] 0 0 _ ⟨Bd.exec, hZ, Bd.bytes, hml0, Bd.returns, findClass_of_methodNamed Bd.named, (name_of_methodNamed Bd.named Bd.method).1, r1, r2⟩ hX (by rw [e0]; exact hR) (Fr.nil _) hl1 (hl2.trans hml0.symm) (by rw [hh, Nat.add_zero]; exact hR.2.1.symm) (by rw [Nat.zero_add]; exact r3) (by rw [Nat.zero_add]; exact r4)
 obtain ⟨fs, hr, hrun, hended, hW, hsame⟩ := X'.leave (v := w.map (qv ad)) (fun q => by rw [hret (Bd.returns.symm.trans q)]; rfl)
 refine ⟨_, _, S' fs hr, hrun, hended, _, _, rfl, ⟨rfl, R', F'⟩, ⟨_, rfl⟩, hW, ?_⟩
 simp only [Nat.zero_add] at hsame
 exact hsame
theorem QTri.room {k : Nat} {σ σ₁ : QHeap} {rest : List Value} {R : Room} (hroom : (Nat.ble (pFr k + 1) (pFr m) && Nat.ble ((rest.map fun v => v.category).sum + (pMaxL k + 11) + pLo k) (pLo m)) = true) (hfr : pFr m ≤ R.frames) (hlo : pLo m ≤ R.locals) :
  pFr k + 1 ≤ R.frames ∧ (rest.map fun v => v.category).sum + (pMaxL k + 11) + pLo k ≤ R.locals := by
 obtain ⟨q1, q2⟩ := Bool.and_eq_true_iff.mp hroom
 exact ⟨Nat.le_trans (Nat.le_of_ble_eq_true q1) hfr, Nat.le_trans (Nat.le_of_ble_eq_true q2) hlo⟩
theorem sig_len {k : Nat} (hk : k < pN) {as : List Value} (hna : as.length = pNA k) : ∀ sig, parseMethodDescriptor (pName k).desc = some sig → (as.map (qv ad)).length = sig.parameters.length := fun sig hs => by
 have q := pSig k hk
 rw [show parseMethodDescriptor (pDs k) = some sig from hs] at q
 simp at q
 simp [hna, q]
theorem ret_map (w : Option Value) (rest : List Value) : (w.toList ++ rest).map (qv ad) = (w.map (qv ad)).toList ++ rest.map (qv ad) := by cases w <;> simp
theorem QTri.after {as0 : List Value} {pc : Nat} {L : QLoc} {S rest : List Value} {σ σ₁ : QHeap} {w : Option Value} {k : Nat} (hcal : QTri l Z n0 ad k (0, qentry as0 (pMaxL k), [], σ) w σ₁) (h : QTri l Z n0 ad m (pc + 3, L, w.toList ++ rest, σ₁) v σ')
  (hs : ∀ (p : Program) (e : Env) (R : Room) (s : State) (mid : MethodId) (args : Array Value) (below : List Frame) (meth : Method) (c : Code) (T : State) (locs : List Loc) (cells slots : Nat) (C : Array Slot),
   QCx Z p R s mid meth c m → Stand p l e R s mid args below meth c T locs cells slots → QRep Z n0 ad T.heap σ → C.size = c.maxLocals → cells + (σ₁.length - σ.length) ≤ R.cells → slots + (qhs σ₁ - qhs σ) ≤ R.slots →
   ∃ T₁ Lc, Stand p l e R s mid args below meth c T₁ (locs ++ Lc) (cells + (σ₁.length - σ.length)) (slots + (qhs σ₁ - qhs σ)) ∧ QRep Z n0 ad T₁.heap σ₁ ∧ Fr n0 Lc ∧
    ∀ target, Steps p.tables e below (T₁.setTop (mkF mid (pc + 3) C ((w.map (qv ad)).toList ++ rest.map (qv ad)))) target → Steps p.tables e below (T.setTop (mkF mid pc C (S.map (qv ad)))) target) :
  QTri l Z n0 ad m (pc, L, S, σ) v σ' := by
 refine QTri.gen h hcal.1 hcal.2.1 fun p e R s mid args below meth c T locs cells slots C hcx X hR hF hL hC hn hc1 hsl => ?_
 obtain ⟨T₁, Lc, X₁, R₁, F₁, st⟩ := hs p e R s mid args below meth c T locs cells slots C hcx X hR hC hc1 hsl
 refine ⟨T₁, locs ++ Lc, C, X₁, R₁, hF.app F₁, hL, hC, fun target q => st target ?_⟩
 rw [← ret_map]
 exact q
set_option maxHeartbeats 4000000 in
theorem QTri.callV (W : QW Z a0) {pc idx k a : Nat} {L : QLoc} {S as rest vs : List Value} {σ σ₁ : QHeap} {w : Option Value} (hc : pCode m pc = some (.invokevirtual idx, k)) (hm : (lkV.contains (pK m, idx, k) && mV.contains k) = true) (hcell : hget σ a = some (.inl vs)) (hS : S = as.reverse ++ .ref a :: rest)
  (hna : as.length = pNA k) (hlen : Nat.ble (((Value.ref a :: as).map fun v => v.category).sum) (pMaxL k) = true) (hroom : (Nat.ble (pFr k + 1) (pFr m) && Nat.ble ((rest.map fun v => v.category).sum + (pMaxL k + 11) + pLo k) (pLo m)) = true) (hrb : (w.isNone || (pRet k).isSome) = true)
  (hcal : QTri l Z n0 ad k (0, qentry (.ref a :: as) (pMaxL k), [], σ) w σ₁) (h : QTri l Z n0 ad m (pc + 3, L, w.toList ++ rest, σ₁) v σ') : QTri l Z n0 ad m (pc, L, S, σ) v σ' := by
 have hd : decode (pBytes m) pc = .ok (.invokevirtual idx, 3) := pDecN hc rfl
 subst hS
 obtain ⟨m1, m2⟩ := Bool.and_eq_true_iff.mp hm
 have m1 := mem_of_contains m1
 have m2 := mem_of_contains m2
 have hkA := (mVlt k m2).1
 have hkN := mAlt k hkA
 have hret : pRet k = none → w = none := fun q => by
  rw [q] at hrb
  cases w with
  | none => rfl
  | some w => simp at hrb
 refine QTri.after hcal h fun p e R s mid args below meth c T locs cells slots C hcx X hR hC hc1 hsl => ?_
 obtain ⟨hx, hZ, hby, hml, hret', hown, hnm, hfr, hlo⟩ := hcx
 have hd2 : decode c.code pc = .ok (.invokevirtual idx, 3) := by rw [hby]; exact hd
 obtain ⟨f1, f2⟩ := QTri.room (σ := σ) (σ₁ := σ₁) hroom hfr hlo
 obtain ⟨cq, kq, q1, q2, q3⟩ := isOf hZ rfl (hR.2.2 _ _ hcell).1
 obtain ⟨w1, w2, w3⟩ := (qw_vi W) k m2
 obtain ⟨c1, c2⟩ := (qw_cod W) k hkA
 obtain ⟨_, _, ⟨T₁, L₁, k₁, n₁⟩, -, X₁, ⟨Lc, ⟨rfl, hR1, hF1⟩, l₁, y₁, z₁⟩, st⟩ := X.virtualBack hx (own := kName (pK m)) (index := idx) (y := pName k) (z := pName k) hown (mvT hZ (qw_ml W (pK m, idx, k) m1)) (mvT hZ w1) (notFace_of_selects (args := #[]) (mvT hZ w2)) (mvT hZ w2) (mvT hZ w3) (pOwn _ (pKlt k hkN))
  (backOf (W := (rest.map fun v => v.category).sum) (rm := ⟨pFr k, σ₁.length - σ.length, qhs σ₁ - qhs σ, pLo k⟩) (Q := fun v h L => v = Option.map (qv ad) w ∧ QRep Z n0 ad h σ₁ ∧ Fr n0 L) (QTri.met hkN hcal hR (Nat.le_of_ble_eq_true hlen) hret [] (Nat.le_refl _) (Nat.le_refl _) (Nat.le_refl _) (Nat.le_refl _)) hZ c1 c2 f1 f2) q1 q3 (g := mkF mid pc C (List.map (qv ad) (as.reverse ++ .ref a :: rest))) rfl hC (Steps.refl _) (argsL := as.map (qv ad)) (rest := rest.map (qv ad)) (sig_len hkN hna) (by simp [qv]) (by show 2 * 0 + _ ≤ _; rw [cats_qv]; omega) hd2 (fun _ _ => ⟨rfl, rfl, hc1, hsl⟩)
 dsimp only [Pt.U, Pt.locs, Pt.cells, Pt.slots] at X₁ l₁ y₁ z₁ st hR1
 subst l₁ y₁ z₁
 exact ⟨T₁, Lc, X₁, hR1, hF1, fun target q => st.trans q⟩
set_option maxHeartbeats 4000000 in
theorem QTri.callI (W : QW Z a0) {pc idx k a : Nat} {L : QLoc} {S as rest : List Value} {σ σ₁ : QHeap} (hc : pCode m pc = some (.invokespecial idx, k)) (hm : (lkV.contains (pK m, idx, k) && mI.contains k) = true) (hS : S = as.reverse ++ .ref a :: rest)
  (hna : as.length = pNA k) (hlen : Nat.ble (((Value.ref a :: as).map fun v => v.category).sum) (pMaxL k) = true) (hroom : (Nat.ble (pFr k + 1) (pFr m) && Nat.ble ((rest.map fun v => v.category).sum + (pMaxL k + 11) + pLo k) (pLo m)) = true)
  (hcal : QTri l Z n0 ad k (0, qentry (.ref a :: as) (pMaxL k), [], σ) none σ₁) (h : QTri l Z n0 ad m (pc + 3, L, rest, σ₁) v σ') : QTri l Z n0 ad m (pc, L, S, σ) v σ' := by
 have hd : decode (pBytes m) pc = .ok (.invokespecial idx, 3) := pDecN hc rfl
 subst hS
 obtain ⟨m1, m2⟩ := Bool.and_eq_true_iff.mp hm
 have m1 := mem_of_contains m1
 have m2 := mem_of_contains m2
 obtain ⟨hkA, -, hin, hrt⟩ := mIlt k m2
 have hkN := mAlt k hkA
 refine QTri.after (w := none) hcal h fun p e R s mid args below meth c T locs cells slots C hcx X hR hC hc1 hsl => ?_
 obtain ⟨hx, hZ, hby, hml, hret', hown, hnm, hfr, hlo⟩ := hcx
 have hd2 : decode c.code pc = .ok (.invokespecial idx, 3) := by rw [hby]; exact hd
 obtain ⟨f1, f2⟩ := QTri.room (σ := σ) (σ₁ := σ₁) hroom hfr hlo
 obtain ⟨c1, c2⟩ := (qw_cod W) k hkA
 have c1' := c1
 rw [hrt] at c1'
 obtain ⟨_, _, ⟨T₁, L₁, k₁, n₁⟩, -, X₁, ⟨Lc, ⟨rfl, hR1, hF1⟩, l₁, y₁, z₁⟩, st⟩ := X.specialBack hx (own := kName (pK m)) (index := idx) (y := pName k) hin hown (mvT hZ (qw_ml W (pK m, idx, k) m1)) (mvT hZ ((qw_ini W) k m2)) (mvT hZ c1') (pOwn _ (pKlt k hkN))
  (backOf (W := (rest.map fun v => v.category).sum) (rm := ⟨pFr k, σ₁.length - σ.length, qhs σ₁ - qhs σ, pLo k⟩) (Q := fun v h L => v = Option.map (qv ad) none ∧ QRep Z n0 ad h σ₁ ∧ Fr n0 L) (QTri.met hkN hcal hR (Nat.le_of_ble_eq_true hlen) (fun _ => rfl) [] (Nat.le_refl _) (Nat.le_refl _) (Nat.le_refl _) (Nat.le_refl _)) hZ c1 c2 f1 f2) (g := mkF mid pc C (List.map (qv ad) (as.reverse ++ .ref a :: rest))) rfl hC (Steps.refl _) (a := ad a) (argsL := as.map (qv ad)) (rest := rest.map (qv ad)) (sig_len hkN hna) (by simp [qv]) (by show 2 * 0 + _ ≤ _; rw [cats_qv]; omega) hd2 (fun _ _ => ⟨rfl, rfl, hc1, hsl⟩)
 dsimp only [Pt.U, Pt.locs, Pt.cells, Pt.slots] at X₁ l₁ y₁ z₁ st hR1
 subst l₁ y₁ z₁
 exact ⟨T₁, Lc, X₁, hR1, hF1, fun target q => st.trans q⟩
set_option maxHeartbeats 4000000 in
theorem QTri.callP (W : QW Z a0) {pc idx k a : Nat} {L : QLoc} {S as rest vs : List Value} {σ σ₁ : QHeap} {w : Option Value} (hc : pCode m pc = some (.invokevirtual idx, k)) (hm : (lkV.contains (pK m, idx, k) && mP.contains k) = true) (hcell : hget σ a = some (.inl vs)) (hS : S = as.reverse ++ .ref a :: rest)
  (hna : as.length = pNA k) (hlen : Nat.ble (((Value.ref a :: as).map fun v => v.category).sum) (pMaxL k) = true) (hroom : (Nat.ble (pFr k + 1) (pFr m) && Nat.ble ((rest.map fun v => v.category).sum + (pMaxL k + 11) + pLo k) (pLo m)) = true) (hrb : (w.isNone || (pRet k).isSome) = true)
  (hcal : QTri l Z n0 ad k (0, qentry (.ref a :: as) (pMaxL k), [], σ) w σ₁) (h : QTri l Z n0 ad m (pc + 3, L, w.toList ++ rest, σ₁) v σ') : QTri l Z n0 ad m (pc, L, S, σ) v σ' := by
 have hd : decode (pBytes m) pc = .ok (.invokevirtual idx, 3) := pDecN hc rfl
 subst hS
 obtain ⟨m1, m2⟩ := Bool.and_eq_true_iff.mp hm
 have m1 := mem_of_contains m1
 have m2 := mem_of_contains m2
 obtain ⟨hkA, hk1⟩ := mPlt k m2
 have hkN := mAlt k hkA
 have hret : pRet k = none → w = none := fun q => by
  rw [q] at hrb
  cases w with
  | none => rfl
  | some w => simp at hrb
 refine QTri.after hcal h fun p e R s mid args below meth c T locs cells slots C hcx X hR hC hc1 hsl => ?_
 obtain ⟨hx, hZ, hby, hml, hret', hown, hnm, hfr, hlo⟩ := hcx
 have hd2 : decode c.code pc = .ok (.invokevirtual idx, 3) := by rw [hby]; exact hd
 obtain ⟨f1, f2⟩ := QTri.room (σ := σ) (σ₁ := σ₁) hroom hfr hlo
 obtain ⟨cell, h1, h2⟩ := (hR.2.2 _ _ hcell).1.cell
 obtain ⟨w1, w2⟩ := (qw_pr W) k m2
 obtain ⟨c1, c2⟩ := (qw_cod W) k hkA
 have hpr : s.PrivateAt (pName k) := Cond.privateMethod_at (mvP hZ w2 (args := #[]))
 obtain ⟨cC, kC, i1, i2, i3, i4⟩ := Cond.instantiable_spec (args := #[]) (mvT hZ (qw_inst W))
 have hsel : (Cond.selects (pName k).cls (pName k) (pName k)).before args s = true := selects_self_of_private (c := cC) (k := kC) (by show s.vm.findClass (kName (pK k)) = _; rw [hk1]; exact i1) i2 (by have q := i4.1; cases hq : kC.isInterface with | false => rfl | true => rw [hq] at q; simp at q) hpr (mvT hZ w1) (pOwn _ (pKlt k hkN))
 obtain ⟨_, _, ⟨T₁, L₁, k₁, n₁⟩, -, X₁, ⟨Lc, ⟨rfl, hR1, hF1⟩, l₁, y₁, z₁⟩, st⟩ := X.privateBack hx (own := kName (pK m)) (index := idx) (y := pName k) hown (mvT hZ (qw_ml W (pK m, idx, k) m1)) (mvT hZ w1) hsel hpr (mvT hZ c1) (pOwn _ (pKlt k hkN))
  (backOf (W := (rest.map fun v => v.category).sum) (rm := ⟨pFr k, σ₁.length - σ.length, qhs σ₁ - qhs σ, pLo k⟩) (Q := fun v h L => v = Option.map (qv ad) w ∧ QRep Z n0 ad h σ₁ ∧ Fr n0 L) (QTri.met hkN hcal hR (Nat.le_of_ble_eq_true hlen) hret [] (Nat.le_refl _) (Nat.le_refl _) (Nat.le_refl _) (Nat.le_refl _)) hZ c1 c2 f1 f2) (g := mkF mid pc C (List.map (qv ad) (as.reverse ++ .ref a :: rest))) rfl hC (Steps.refl _) (a := ad a) h1 h2 (argsL := as.map (qv ad)) (rest := rest.map (qv ad)) (sig_len hkN hna) (by simp [qv]) (by show 2 * 0 + _ ≤ _; rw [cats_qv]; omega) hd2 (fun _ _ => ⟨rfl, rfl, hc1, hsl⟩)
 dsimp only [Pt.U, Pt.locs, Pt.cells, Pt.slots] at X₁ l₁ y₁ z₁ st hR1
 subst l₁ y₁ z₁
 exact ⟨T₁, Lc, X₁, hR1, hF1, fun target q => st.trans q⟩
set_option maxHeartbeats 4000000 in
set_option maxHeartbeats 4000000 in
theorem QTri.callO (W : QW Z a0) {pc idx k a : Nat} {L : QLoc} {rest : List Value} {σ : QHeap} (hc : pCode m pc = some (.invokespecial idx, k)) (hm : lkO.contains (pK m, idx) = true) (hroom : (Nat.ble 1 (pFr m) && Nat.ble ((rest.map fun v => v.category).sum + 12) (pLo m)) = true)
  (h : QTri l Z n0 ad m (pc + 3, L, rest, σ) v σ') : QTri l Z n0 ad m (pc, L, .ref a :: rest, σ) v σ' :=
 have hd : decode (pBytes m) pc = .ok (.invokespecial idx, 3) := pDecN hc rfl
 QTri.pure h rfl fun p e R s mid args below meth c T locs cells slots C hcx X hR hL hC => by
  obtain ⟨hx, hZ, hby, hml, hret', hown, hnm, hfr, hlo⟩ := hcx
  have hd2 : decode c.code pc = .ok (.invokespecial idx, 3) := by rw [hby]; exact hd
  obtain ⟨q1, q2⟩ := Bool.and_eq_true_iff.mp hroom
  obtain ⟨T₁, X₁, e₁, st⟩ := initO X hx hZ hown (idx := idx) (qw_mo W (pK m, idx) (mem_of_contains hm)) ((qw_oi W)) ((qw_oc W)) rfl (g := mkF mid pc C (List.map (qv ad) (.ref a :: rest))) rfl hC rfl hd2 (Nat.le_trans (Nat.le_of_ble_eq_true q1) hfr) (W := (rest.map fun v => v.category).sum) (by show 2 * 0 + _ ≤ _; rw [cats_qv]; omega) (Nat.le_trans (Nat.le_of_ble_eq_true q2) hlo)
  exact ⟨T₁, C, X₁, e₁, hL, hC, st⟩
theorem QTri.brT (Ad : QAd n0 ad) (W : QW Z a0) {st : QSt} {t f : Nat} {L : QLoc} {S : List Value} {σ : QHeap} {b : Bool} (hs : qstep m st = some (bif b then t else f, L, S, σ)) (hb : b = true) (h : QTri l Z n0 ad m (t, L, S, σ) v σ') : QTri l Z n0 ad m st v σ' := by
 subst hb; exact QTri.step Ad W h hs
theorem QTri.brF (Ad : QAd n0 ad) (W : QW Z a0) {st : QSt} {t f : Nat} {L : QLoc} {S : List Value} {σ : QHeap} {b : Bool} (hs : qstep m st = some (bif b then t else f, L, S, σ)) (hb : b = false) (h : QTri l Z n0 ad m (f, L, S, σ) v σ') : QTri l Z n0 ad m st v σ' := by
 subst hb; exact QTri.step Ad W h hs
theorem QTri.bnd {α : Type} (Ad : QAd n0 ad) (W : QW Z a0) {st : QSt} {x : Option α} {f : α → QSt} {a : α} (hs : qstep m st = x.bind fun v => some (f v)) (hx : x = some a) (h : QTri l Z n0 ad m (f a) v σ') : QTri l Z n0 ad m st v σ' :=
 QTri.step Ad W h (by rw [hs, hx]; rfl)
end Triples
theorem qite {α : Type} {c : Prop} [Decidable c] {a b : Option α} {r : α} (h : (if c then a else b) = some r) : (c ∧ a = some r) ∨ (¬ c ∧ b = some r) := by
 by_cases hc : c
 ·exact Or.inl ⟨hc, by rwa [if_pos hc] at h⟩
 ·exact Or.inr ⟨hc, by rwa [if_neg hc] at h⟩
def qN : Nat := 4000
def loopN {V E : Type} (B : V → Option (E ⊕ V)) : Nat → V → Option E
 | 0, _ => none
 | n + 1, v => match B v with
  | none => none
  | some (.inl e) => some e
  | some (.inr v') => loopN B n v'
theorem loopN_tri {V E : Type} {B : V → Option (E ⊕ V)} {T : V → Prop} {KE : E → Prop} (hB : ∀ v r, B v = some r → (∀ e, r = .inl e → KE e) → (∀ v', r = .inr v' → T v') → T v) : ∀ (n : Nat) (v : V) (e : E), loopN B n v = some e → KE e → T v
 | 0, _, _, h, _ => by cases h
 | n + 1, v, e, h, k => by
  simp only [loopN] at h
  split at h
  ·cases h
  ·rename_i e' he
   cases h
   exact hB v _ he (fun e q => by cases q; exact k) (fun v' q => by cases q)
  ·rename_i v' he
   exact hB v _ he (fun e q => by cases q) (fun v'' q => by cases q; exact loopN_tri hB n v' e h k)
theorem loopN_inv {V E : Type} {B : V → Option (E ⊕ V)} (I : V → Prop) (P : E → Prop) (μ : V → Nat) (hB : ∀ v, I v → (∃ e, B v = some (.inl e) ∧ P e) ∨ ∃ v', B v = some (.inr v') ∧ I v' ∧ μ v' < μ v) : ∀ (n : Nat) (v : V), I v → μ v < n → ∃ e, loopN B n v = some e ∧ P e
 | 0, _, _, h => absurd h (Nat.not_lt_zero _)
 | n + 1, v, hv, hm => by
  rcases hB v hv with ⟨e, h1, h2⟩ | ⟨v', h1, h2, h3⟩
  ·exact ⟨e, by simp only [loopN, h1], h2⟩
  ·obtain ⟨e, g1, g2⟩ := loopN_inv I P μ hB n v' h2 (by omega)
   exact ⟨e, by simp only [loopN, h1]; exact g1, g2⟩
theorem qfn {α : Type} {P : α → Prop} : ∀ t ∈ ([] : List α), P t := fun _ h => nomatch h
theorem qfc {α : Type} {P : α → Prop} {a : α} {t : List α} (h : P a) (ht : ∀ x ∈ t, P x) : ∀ x ∈ a :: t, P x := fun x hx => by rcases List.mem_cons.mp hx with rfl | q; exact h; exact ht x q
theorem hW {Z : State} {a0 : Array Value} (hw : ∀ d ∈ tables_1, d.before a0 Z = true) (i : Nat) {c : Jvm.Cond} (h : tables_1[i]? = some c) : c.before a0 Z = true := hw c (List.mem_of_getElem? h)
theorem QW_ok {Z : State} {a0 : Array Value} (hw : ∀ d ∈ tables_1, d.before a0 Z = true) : QW Z a0 := by
  have w0 : ∀ k ∈ List.range nF, bif fFin k then (Jvm.Cond.laysFinal cName cName (fNm k) (fDs k)).before a0 Z = true else (Jvm.Cond.lays cName cName (fNm k) (fDs k)).before a0 Z = true :=
    show ∀ k ∈ [0, 1, 2, 3, 4, 5, 6, 7, 8, 9, 10, 11, 12, 13, 14, 15, 16, 17, 18, 19, 20, 21, 22, 23, 24, 25, 26, 27, 28, 29, 30, 31, 32, 33, 34, 35, 36, 37, 38, 39, 40, 41, 42, 43, 44, 45, 46, 47], bif fFin k then (Jvm.Cond.laysFinal cName cName (fNm k) (fDs k)).before a0 Z = true else (Jvm.Cond.lays cName cName (fNm k) (fDs k)).before a0 Z = true from
    (qfc (hW hw 10 rfl) (qfc (hW hw 12 rfl) (qfc (hW hw 14 rfl) (qfc (hW hw 16 rfl) (qfc (hW hw 18 rfl) (qfc (hW hw 20 rfl) (qfc (hW hw 22 rfl) (qfc (hW hw 24 rfl) (qfc (hW hw 26 rfl) (qfc (hW hw 28 rfl) (qfc (hW hw 30 rfl) (qfc (hW hw 32 rfl) (qfc (hW hw 35 rfl) (qfc (hW hw 38 rfl) (qfc (hW hw 41 rfl) (qfc (hW hw 44 rfl) (qfc (hW hw 46 rfl) (qfc (hW hw 48 rfl) (qfc (hW hw 50 rfl) (qfc (hW hw 52 rfl) (qfc (hW hw 54 rfl) (qfc (hW hw 56 rfl) (qfc (hW hw 58 rfl) (qfc (hW hw 60 rfl) (qfc (hW hw 62 rfl) (qfc (hW hw 64 rfl) (qfc (hW hw 66 rfl) (qfc (hW hw 68 rfl) (qfc (hW hw 71 rfl) (qfc (hW hw 73 rfl) (qfc (hW hw 75 rfl) (qfc (hW hw 77 rfl) (qfc (hW hw 79 rfl) (qfc (hW hw 81 rfl) (qfc (hW hw 87 rfl) (qfc (hW hw 89 rfl) (qfc (hW hw 96 rfl) (qfc (hW hw 98 rfl) (qfc (hW hw 100 rfl) (qfc (hW hw 102 rfl) (qfc (hW hw 104 rfl) (qfc (hW hw 106 rfl) (qfc (hW hw 108 rfl) (qfc (hW hw 110 rfl) (qfc (hW hw 112 rfl) (qfc (hW hw 114 rfl) (qfc (hW hw 116 rfl) (qfc (hW hw 118 rfl) qfn))))))))))))))))))))))))))))))))))))))))))))))))
  refine ⟨?_, ?_, ?_, ?_, ?_, ?_, ?_, ?_, ?_, ?_, ?_, ?_, ?_, (fun k hk => w0 k (List.mem_range.mpr hk)), ?_, ?_, ?_⟩
  · exact (qfc (hW hw 9 rfl) (qfc (hW hw 11 rfl) (qfc (hW hw 13 rfl) (qfc (hW hw 15 rfl) (qfc (hW hw 17 rfl) (qfc (hW hw 19 rfl) (qfc (hW hw 21 rfl) (qfc (hW hw 23 rfl) (qfc (hW hw 25 rfl) (qfc (hW hw 27 rfl) (qfc (hW hw 29 rfl) (qfc (hW hw 31 rfl) (qfc (hW hw 34 rfl) (qfc (hW hw 37 rfl) (qfc (hW hw 40 rfl) (qfc (hW hw 43 rfl) (qfc (hW hw 45 rfl) (qfc (hW hw 47 rfl) (qfc (hW hw 49 rfl) (qfc (hW hw 51 rfl) (qfc (hW hw 53 rfl) (qfc (hW hw 55 rfl) (qfc (hW hw 57 rfl) (qfc (hW hw 59 rfl) (qfc (hW hw 61 rfl) (qfc (hW hw 63 rfl) (qfc (hW hw 65 rfl) (qfc (hW hw 67 rfl) (qfc (hW hw 70 rfl) (qfc (hW hw 72 rfl) (qfc (hW hw 74 rfl) (qfc (hW hw 76 rfl) (qfc (hW hw 78 rfl) (qfc (hW hw 80 rfl) (qfc (hW hw 86 rfl) (qfc (hW hw 88 rfl) (qfc (hW hw 95 rfl) (qfc (hW hw 97 rfl) (qfc (hW hw 99 rfl) (qfc (hW hw 101 rfl) (qfc (hW hw 103 rfl) (qfc (hW hw 105 rfl) (qfc (hW hw 107 rfl) (qfc (hW hw 109 rfl) (qfc (hW hw 111 rfl) (qfc (hW hw 113 rfl) (qfc (hW hw 115 rfl) (qfc (hW hw 117 rfl) qfn))))))))))))))))))))))))))))))))))))))))))))))))
  · exact (qfc (hW hw 0 rfl) qfn)
  · exact (qfc ⟨_, rfl, (hW hw 36 rfl)⟩ (qfc ⟨_, rfl, (hW hw 119 rfl)⟩ (qfc ⟨_, rfl, (hW hw 214 rfl)⟩ qfn)))
  · exact (qfc ⟨_, rfl, (hW hw 33 rfl)⟩ (qfc ⟨_, rfl, (hW hw 171 rfl)⟩ (qfc ⟨_, rfl, (hW hw 176 rfl)⟩ (qfc ⟨_, rfl, (hW hw 177 rfl)⟩ (qfc ⟨_, rfl, (hW hw 253 rfl)⟩ (qfc ⟨_, rfl, (hW hw 254 rfl)⟩ (qfc ⟨_, rfl, (hW hw 259 rfl)⟩ (qfc ⟨_, rfl, (hW hw 260 rfl)⟩ (qfc ⟨_, rfl, (hW hw 261 rfl)⟩ qfn)))))))))
  · exact (qfc (hW hw 3 rfl) (qfc (hW hw 82 rfl) (qfc (hW hw 90 rfl) (qfc (hW hw 120 rfl) (qfc (hW hw 125 rfl) (qfc (hW hw 130 rfl) (qfc (hW hw 135 rfl) (qfc (hW hw 140 rfl) (qfc (hW hw 145 rfl) (qfc (hW hw 149 rfl) (qfc (hW hw 153 rfl) (qfc (hW hw 158 rfl) (qfc (hW hw 163 rfl) (qfc (hW hw 167 rfl) (qfc (hW hw 172 rfl) (qfc (hW hw 178 rfl) (qfc (hW hw 182 rfl) (qfc (hW hw 186 rfl) (qfc (hW hw 190 rfl) (qfc (hW hw 194 rfl) (qfc (hW hw 198 rfl) (qfc (hW hw 202 rfl) (qfc (hW hw 206 rfl) (qfc (hW hw 210 rfl) (qfc (hW hw 215 rfl) (qfc (hW hw 220 rfl) (qfc (hW hw 224 rfl) (qfc (hW hw 228 rfl) (qfc (hW hw 232 rfl) (qfc (hW hw 236 rfl) (qfc (hW hw 240 rfl) (qfc (hW hw 244 rfl) (qfc (hW hw 249 rfl) (qfc (hW hw 255 rfl) (qfc (hW hw 262 rfl) (qfc (hW hw 267 rfl) (qfc (hW hw 268 rfl) qfn)))))))))))))))))))))))))))))))))))))
  · exact (qfc (hW hw 6 rfl) qfn)
  · exact (qfc ⟨(hW hw 91 rfl), (hW hw 93 rfl), (hW hw 92 rfl)⟩ (qfc ⟨(hW hw 121 rfl), (hW hw 123 rfl), (hW hw 122 rfl)⟩ (qfc ⟨(hW hw 126 rfl), (hW hw 128 rfl), (hW hw 127 rfl)⟩ (qfc ⟨(hW hw 131 rfl), (hW hw 133 rfl), (hW hw 132 rfl)⟩ (qfc ⟨(hW hw 136 rfl), (hW hw 138 rfl), (hW hw 137 rfl)⟩ (qfc ⟨(hW hw 141 rfl), (hW hw 143 rfl), (hW hw 142 rfl)⟩ (qfc ⟨(hW hw 154 rfl), (hW hw 156 rfl), (hW hw 155 rfl)⟩ (qfc ⟨(hW hw 159 rfl), (hW hw 161 rfl), (hW hw 160 rfl)⟩ (qfc ⟨(hW hw 216 rfl), (hW hw 218 rfl), (hW hw 217 rfl)⟩ (qfc ⟨(hW hw 245 rfl), (hW hw 247 rfl), (hW hw 246 rfl)⟩ (qfc ⟨(hW hw 263 rfl), (hW hw 265 rfl), (hW hw 264 rfl)⟩ (qfc ⟨(hW hw 269 rfl), (hW hw 271 rfl), (hW hw 270 rfl)⟩ qfn))))))))))))
  · exact (qfc ⟨(hW hw 83 rfl), (hW hw 84 rfl)⟩ (qfc ⟨(hW hw 146 rfl), (hW hw 147 rfl)⟩ (qfc ⟨(hW hw 150 rfl), (hW hw 151 rfl)⟩ (qfc ⟨(hW hw 164 rfl), (hW hw 165 rfl)⟩ (qfc ⟨(hW hw 168 rfl), (hW hw 169 rfl)⟩ (qfc ⟨(hW hw 173 rfl), (hW hw 174 rfl)⟩ (qfc ⟨(hW hw 179 rfl), (hW hw 180 rfl)⟩ (qfc ⟨(hW hw 183 rfl), (hW hw 184 rfl)⟩ (qfc ⟨(hW hw 187 rfl), (hW hw 188 rfl)⟩ (qfc ⟨(hW hw 191 rfl), (hW hw 192 rfl)⟩ (qfc ⟨(hW hw 195 rfl), (hW hw 196 rfl)⟩ (qfc ⟨(hW hw 199 rfl), (hW hw 200 rfl)⟩ (qfc ⟨(hW hw 203 rfl), (hW hw 204 rfl)⟩ (qfc ⟨(hW hw 207 rfl), (hW hw 208 rfl)⟩ (qfc ⟨(hW hw 211 rfl), (hW hw 212 rfl)⟩ (qfc ⟨(hW hw 221 rfl), (hW hw 222 rfl)⟩ (qfc ⟨(hW hw 225 rfl), (hW hw 226 rfl)⟩ (qfc ⟨(hW hw 229 rfl), (hW hw 230 rfl)⟩ (qfc ⟨(hW hw 233 rfl), (hW hw 234 rfl)⟩ (qfc ⟨(hW hw 237 rfl), (hW hw 238 rfl)⟩ (qfc ⟨(hW hw 241 rfl), (hW hw 242 rfl)⟩ (qfc ⟨(hW hw 250 rfl), (hW hw 251 rfl)⟩ (qfc ⟨(hW hw 256 rfl), (hW hw 257 rfl)⟩ qfn)))))))))))))))))))))))
  · exact qfn
  · exact (qfc (hW hw 4 rfl) qfn)
  · exact (qfc ⟨(hW hw 5 rfl), (hW hw 2 rfl)⟩ (qfc ⟨(hW hw 85 rfl), (hW hw 2 rfl)⟩ (qfc ⟨(hW hw 94 rfl), (hW hw 2 rfl)⟩ (qfc ⟨(hW hw 124 rfl), (hW hw 2 rfl)⟩ (qfc ⟨(hW hw 129 rfl), (hW hw 2 rfl)⟩ (qfc ⟨(hW hw 134 rfl), (hW hw 2 rfl)⟩ (qfc ⟨(hW hw 139 rfl), (hW hw 2 rfl)⟩ (qfc ⟨(hW hw 144 rfl), (hW hw 2 rfl)⟩ (qfc ⟨(hW hw 148 rfl), (hW hw 2 rfl)⟩ (qfc ⟨(hW hw 152 rfl), (hW hw 2 rfl)⟩ (qfc ⟨(hW hw 157 rfl), (hW hw 2 rfl)⟩ (qfc ⟨(hW hw 162 rfl), (hW hw 2 rfl)⟩ (qfc ⟨(hW hw 166 rfl), (hW hw 2 rfl)⟩ (qfc ⟨(hW hw 170 rfl), (hW hw 2 rfl)⟩ (qfc ⟨(hW hw 175 rfl), (hW hw 2 rfl)⟩ (qfc ⟨(hW hw 181 rfl), (hW hw 2 rfl)⟩ (qfc ⟨(hW hw 185 rfl), (hW hw 2 rfl)⟩ (qfc ⟨(hW hw 189 rfl), (hW hw 2 rfl)⟩ (qfc ⟨(hW hw 193 rfl), (hW hw 2 rfl)⟩ (qfc ⟨(hW hw 197 rfl), (hW hw 2 rfl)⟩ (qfc ⟨(hW hw 201 rfl), (hW hw 2 rfl)⟩ (qfc ⟨(hW hw 205 rfl), (hW hw 2 rfl)⟩ (qfc ⟨(hW hw 209 rfl), (hW hw 2 rfl)⟩ (qfc ⟨(hW hw 213 rfl), (hW hw 2 rfl)⟩ (qfc ⟨(hW hw 219 rfl), (hW hw 2 rfl)⟩ (qfc ⟨(hW hw 223 rfl), (hW hw 2 rfl)⟩ (qfc ⟨(hW hw 227 rfl), (hW hw 2 rfl)⟩ (qfc ⟨(hW hw 231 rfl), (hW hw 2 rfl)⟩ (qfc ⟨(hW hw 235 rfl), (hW hw 2 rfl)⟩ (qfc ⟨(hW hw 239 rfl), (hW hw 2 rfl)⟩ (qfc ⟨(hW hw 243 rfl), (hW hw 2 rfl)⟩ (qfc ⟨(hW hw 248 rfl), (hW hw 2 rfl)⟩ (qfc ⟨(hW hw 252 rfl), (hW hw 2 rfl)⟩ (qfc ⟨(hW hw 258 rfl), (hW hw 2 rfl)⟩ (qfc ⟨(hW hw 266 rfl), (hW hw 2 rfl)⟩ (qfc ⟨(hW hw 272 rfl), (hW hw 2 rfl)⟩ qfn))))))))))))))))))))))))))))))))))))
  · exact (hW hw 7 rfl)
  · exact (hW hw 8 rfl)
  · exact (hW hw 1 rfl)
  · exact (hW hw 2 rfl)
  · exact (qfc (hW hw 39 rfl) (qfc (hW hw 42 rfl) (qfc (hW hw 69 rfl) qfn)))
abbrev Ob := Int32 × Int32 × Int32 × Int32 × Int32 × Int32 × Int32 × Int32 × Int32 × Int32 × Int32 × Int32 × Int64 × Int32 × List Int32 × List Int32 × List Int32 × List Int32 × List Int32 × List Int32 × List Int32 × List Int32 × List Int32 × List Int32 × List Int32 × List Int32 × List Int32 × List Int32 × List Int64 × List Int32 × List Int32 × List Int32 × List Int32 × List Int32 × Int32 × Int32 × Int32 × Int32 × Int32 × Int32 × Int32 × Int32 × Int32 × Int32 × Int32 × Int32 × Int32 × Int32
def fA (o : Ob) : Int32 := o.1
def fB (o : Ob) : Int32 := o.2.1
def fC (o : Ob) : Int32 := o.2.2.1
def fD (o : Ob) : Int32 := o.2.2.2.1
def fE (o : Ob) : Int32 := o.2.2.2.2.1
def fF (o : Ob) : Int32 := o.2.2.2.2.2.1
def fG (o : Ob) : Int32 := o.2.2.2.2.2.2.1
def fH (o : Ob) : Int32 := o.2.2.2.2.2.2.2.1
def fI (o : Ob) : Int32 := o.2.2.2.2.2.2.2.2.1
def fJ (o : Ob) : Int32 := o.2.2.2.2.2.2.2.2.2.1
def fK (o : Ob) : Int32 := o.2.2.2.2.2.2.2.2.2.2.1
def fL (o : Ob) : Int32 := o.2.2.2.2.2.2.2.2.2.2.2.1
def fM (o : Ob) : Int64 := o.2.2.2.2.2.2.2.2.2.2.2.2.1
def fN (o : Ob) : Int32 := o.2.2.2.2.2.2.2.2.2.2.2.2.2.1
def fO (o : Ob) : List Int32 := o.2.2.2.2.2.2.2.2.2.2.2.2.2.2.1
def fP (o : Ob) : List Int32 := o.2.2.2.2.2.2.2.2.2.2.2.2.2.2.2.1
def fQ (o : Ob) : List Int32 := o.2.2.2.2.2.2.2.2.2.2.2.2.2.2.2.2.1
def fR (o : Ob) : List Int32 := o.2.2.2.2.2.2.2.2.2.2.2.2.2.2.2.2.2.1
def fS (o : Ob) : List Int32 := o.2.2.2.2.2.2.2.2.2.2.2.2.2.2.2.2.2.2.1
def fT (o : Ob) : List Int32 := o.2.2.2.2.2.2.2.2.2.2.2.2.2.2.2.2.2.2.2.1
def fU (o : Ob) : List Int32 := o.2.2.2.2.2.2.2.2.2.2.2.2.2.2.2.2.2.2.2.2.1
def fV (o : Ob) : List Int32 := o.2.2.2.2.2.2.2.2.2.2.2.2.2.2.2.2.2.2.2.2.2.1
def fW (o : Ob) : List Int32 := o.2.2.2.2.2.2.2.2.2.2.2.2.2.2.2.2.2.2.2.2.2.2.1
def fX (o : Ob) : List Int32 := o.2.2.2.2.2.2.2.2.2.2.2.2.2.2.2.2.2.2.2.2.2.2.2.1
def fY (o : Ob) : List Int32 := o.2.2.2.2.2.2.2.2.2.2.2.2.2.2.2.2.2.2.2.2.2.2.2.2.1
def fZ (o : Ob) : List Int32 := o.2.2.2.2.2.2.2.2.2.2.2.2.2.2.2.2.2.2.2.2.2.2.2.2.2.1
def fa (o : Ob) : List Int32 := o.2.2.2.2.2.2.2.2.2.2.2.2.2.2.2.2.2.2.2.2.2.2.2.2.2.2.1
def fb (o : Ob) : List Int32 := o.2.2.2.2.2.2.2.2.2.2.2.2.2.2.2.2.2.2.2.2.2.2.2.2.2.2.2.1
def fd (o : Ob) : List Int64 := o.2.2.2.2.2.2.2.2.2.2.2.2.2.2.2.2.2.2.2.2.2.2.2.2.2.2.2.2.1
def fh (o : Ob) : List Int32 := o.2.2.2.2.2.2.2.2.2.2.2.2.2.2.2.2.2.2.2.2.2.2.2.2.2.2.2.2.2.1
def fi (o : Ob) : List Int32 := o.2.2.2.2.2.2.2.2.2.2.2.2.2.2.2.2.2.2.2.2.2.2.2.2.2.2.2.2.2.2.1
def fq (o : Ob) : List Int32 := o.2.2.2.2.2.2.2.2.2.2.2.2.2.2.2.2.2.2.2.2.2.2.2.2.2.2.2.2.2.2.2.1
def fu (o : Ob) : List Int32 := o.2.2.2.2.2.2.2.2.2.2.2.2.2.2.2.2.2.2.2.2.2.2.2.2.2.2.2.2.2.2.2.2.1
def fy (o : Ob) : List Int32 := o.2.2.2.2.2.2.2.2.2.2.2.2.2.2.2.2.2.2.2.2.2.2.2.2.2.2.2.2.2.2.2.2.2.1
def fz (o : Ob) : Int32 := o.2.2.2.2.2.2.2.2.2.2.2.2.2.2.2.2.2.2.2.2.2.2.2.2.2.2.2.2.2.2.2.2.2.2.1
def fxA (o : Ob) : Int32 := o.2.2.2.2.2.2.2.2.2.2.2.2.2.2.2.2.2.2.2.2.2.2.2.2.2.2.2.2.2.2.2.2.2.2.2.1
def fxB (o : Ob) : Int32 := o.2.2.2.2.2.2.2.2.2.2.2.2.2.2.2.2.2.2.2.2.2.2.2.2.2.2.2.2.2.2.2.2.2.2.2.2.1
def fxC (o : Ob) : Int32 := o.2.2.2.2.2.2.2.2.2.2.2.2.2.2.2.2.2.2.2.2.2.2.2.2.2.2.2.2.2.2.2.2.2.2.2.2.2.1
def fxD (o : Ob) : Int32 := o.2.2.2.2.2.2.2.2.2.2.2.2.2.2.2.2.2.2.2.2.2.2.2.2.2.2.2.2.2.2.2.2.2.2.2.2.2.2.1
def fxE (o : Ob) : Int32 := o.2.2.2.2.2.2.2.2.2.2.2.2.2.2.2.2.2.2.2.2.2.2.2.2.2.2.2.2.2.2.2.2.2.2.2.2.2.2.2.1
def fxF (o : Ob) : Int32 := o.2.2.2.2.2.2.2.2.2.2.2.2.2.2.2.2.2.2.2.2.2.2.2.2.2.2.2.2.2.2.2.2.2.2.2.2.2.2.2.2.1
def fxG (o : Ob) : Int32 := o.2.2.2.2.2.2.2.2.2.2.2.2.2.2.2.2.2.2.2.2.2.2.2.2.2.2.2.2.2.2.2.2.2.2.2.2.2.2.2.2.2.1
def fxH (o : Ob) : Int32 := o.2.2.2.2.2.2.2.2.2.2.2.2.2.2.2.2.2.2.2.2.2.2.2.2.2.2.2.2.2.2.2.2.2.2.2.2.2.2.2.2.2.2.1
def fxI (o : Ob) : Int32 := o.2.2.2.2.2.2.2.2.2.2.2.2.2.2.2.2.2.2.2.2.2.2.2.2.2.2.2.2.2.2.2.2.2.2.2.2.2.2.2.2.2.2.2.1
def fxJ (o : Ob) : Int32 := o.2.2.2.2.2.2.2.2.2.2.2.2.2.2.2.2.2.2.2.2.2.2.2.2.2.2.2.2.2.2.2.2.2.2.2.2.2.2.2.2.2.2.2.2.1
def fxK (o : Ob) : Int32 := o.2.2.2.2.2.2.2.2.2.2.2.2.2.2.2.2.2.2.2.2.2.2.2.2.2.2.2.2.2.2.2.2.2.2.2.2.2.2.2.2.2.2.2.2.2.1
def fxL (o : Ob) : Int32 := o.2.2.2.2.2.2.2.2.2.2.2.2.2.2.2.2.2.2.2.2.2.2.2.2.2.2.2.2.2.2.2.2.2.2.2.2.2.2.2.2.2.2.2.2.2.2.1
def fxM (o : Ob) : Int32 := o.2.2.2.2.2.2.2.2.2.2.2.2.2.2.2.2.2.2.2.2.2.2.2.2.2.2.2.2.2.2.2.2.2.2.2.2.2.2.2.2.2.2.2.2.2.2.2
def sA (o : Ob) (v : Int32) : Ob := (v, fB o, fC o, fD o, fE o, fF o, fG o, fH o, fI o, fJ o, fK o, fL o, fM o, fN o, fO o, fP o, fQ o, fR o, fS o, fT o, fU o, fV o, fW o, fX o, fY o, fZ o, fa o, fb o, fd o, fh o, fi o, fq o, fu o, fy o, fz o, fxA o, fxB o, fxC o, fxD o, fxE o, fxF o, fxG o, fxH o, fxI o, fxJ o, fxK o, fxL o, fxM o)
def sB (o : Ob) (v : Int32) : Ob := (fA o, v, fC o, fD o, fE o, fF o, fG o, fH o, fI o, fJ o, fK o, fL o, fM o, fN o, fO o, fP o, fQ o, fR o, fS o, fT o, fU o, fV o, fW o, fX o, fY o, fZ o, fa o, fb o, fd o, fh o, fi o, fq o, fu o, fy o, fz o, fxA o, fxB o, fxC o, fxD o, fxE o, fxF o, fxG o, fxH o, fxI o, fxJ o, fxK o, fxL o, fxM o)
def sC (o : Ob) (v : Int32) : Ob := (fA o, fB o, v, fD o, fE o, fF o, fG o, fH o, fI o, fJ o, fK o, fL o, fM o, fN o, fO o, fP o, fQ o, fR o, fS o, fT o, fU o, fV o, fW o, fX o, fY o, fZ o, fa o, fb o, fd o, fh o, fi o, fq o, fu o, fy o, fz o, fxA o, fxB o, fxC o, fxD o, fxE o, fxF o, fxG o, fxH o, fxI o, fxJ o, fxK o, fxL o, fxM o)
def sD (o : Ob) (v : Int32) : Ob := (fA o, fB o, fC o, v, fE o, fF o, fG o, fH o, fI o, fJ o, fK o, fL o, fM o, fN o, fO o, fP o, fQ o, fR o, fS o, fT o, fU o, fV o, fW o, fX o, fY o, fZ o, fa o, fb o, fd o, fh o, fi o, fq o, fu o, fy o, fz o, fxA o, fxB o, fxC o, fxD o, fxE o, fxF o, fxG o, fxH o, fxI o, fxJ o, fxK o, fxL o, fxM o)
def sE (o : Ob) (v : Int32) : Ob := (fA o, fB o, fC o, fD o, v, fF o, fG o, fH o, fI o, fJ o, fK o, fL o, fM o, fN o, fO o, fP o, fQ o, fR o, fS o, fT o, fU o, fV o, fW o, fX o, fY o, fZ o, fa o, fb o, fd o, fh o, fi o, fq o, fu o, fy o, fz o, fxA o, fxB o, fxC o, fxD o, fxE o, fxF o, fxG o, fxH o, fxI o, fxJ o, fxK o, fxL o, fxM o)
def sF (o : Ob) (v : Int32) : Ob := (fA o, fB o, fC o, fD o, fE o, v, fG o, fH o, fI o, fJ o, fK o, fL o, fM o, fN o, fO o, fP o, fQ o, fR o, fS o, fT o, fU o, fV o, fW o, fX o, fY o, fZ o, fa o, fb o, fd o, fh o, fi o, fq o, fu o, fy o, fz o, fxA o, fxB o, fxC o, fxD o, fxE o, fxF o, fxG o, fxH o, fxI o, fxJ o, fxK o, fxL o, fxM o)
def sG (o : Ob) (v : Int32) : Ob := (fA o, fB o, fC o, fD o, fE o, fF o, v, fH o, fI o, fJ o, fK o, fL o, fM o, fN o, fO o, fP o, fQ o, fR o, fS o, fT o, fU o, fV o, fW o, fX o, fY o, fZ o, fa o, fb o, fd o, fh o, fi o, fq o, fu o, fy o, fz o, fxA o, fxB o, fxC o, fxD o, fxE o, fxF o, fxG o, fxH o, fxI o, fxJ o, fxK o, fxL o, fxM o)
def sH (o : Ob) (v : Int32) : Ob := (fA o, fB o, fC o, fD o, fE o, fF o, fG o, v, fI o, fJ o, fK o, fL o, fM o, fN o, fO o, fP o, fQ o, fR o, fS o, fT o, fU o, fV o, fW o, fX o, fY o, fZ o, fa o, fb o, fd o, fh o, fi o, fq o, fu o, fy o, fz o, fxA o, fxB o, fxC o, fxD o, fxE o, fxF o, fxG o, fxH o, fxI o, fxJ o, fxK o, fxL o, fxM o)
def sI (o : Ob) (v : Int32) : Ob := (fA o, fB o, fC o, fD o, fE o, fF o, fG o, fH o, v, fJ o, fK o, fL o, fM o, fN o, fO o, fP o, fQ o, fR o, fS o, fT o, fU o, fV o, fW o, fX o, fY o, fZ o, fa o, fb o, fd o, fh o, fi o, fq o, fu o, fy o, fz o, fxA o, fxB o, fxC o, fxD o, fxE o, fxF o, fxG o, fxH o, fxI o, fxJ o, fxK o, fxL o, fxM o)
def sJ (o : Ob) (v : Int32) : Ob := (fA o, fB o, fC o, fD o, fE o, fF o, fG o, fH o, fI o, v, fK o, fL o, fM o, fN o, fO o, fP o, fQ o, fR o, fS o, fT o, fU o, fV o, fW o, fX o, fY o, fZ o, fa o, fb o, fd o, fh o, fi o, fq o, fu o, fy o, fz o, fxA o, fxB o, fxC o, fxD o, fxE o, fxF o, fxG o, fxH o, fxI o, fxJ o, fxK o, fxL o, fxM o)
def sK (o : Ob) (v : Int32) : Ob := (fA o, fB o, fC o, fD o, fE o, fF o, fG o, fH o, fI o, fJ o, v, fL o, fM o, fN o, fO o, fP o, fQ o, fR o, fS o, fT o, fU o, fV o, fW o, fX o, fY o, fZ o, fa o, fb o, fd o, fh o, fi o, fq o, fu o, fy o, fz o, fxA o, fxB o, fxC o, fxD o, fxE o, fxF o, fxG o, fxH o, fxI o, fxJ o, fxK o, fxL o, fxM o)
def sL (o : Ob) (v : Int32) : Ob := (fA o, fB o, fC o, fD o, fE o, fF o, fG o, fH o, fI o, fJ o, fK o, v, fM o, fN o, fO o, fP o, fQ o, fR o, fS o, fT o, fU o, fV o, fW o, fX o, fY o, fZ o, fa o, fb o, fd o, fh o, fi o, fq o, fu o, fy o, fz o, fxA o, fxB o, fxC o, fxD o, fxE o, fxF o, fxG o, fxH o, fxI o, fxJ o, fxK o, fxL o, fxM o)
def sM (o : Ob) (v : Int64) : Ob := (fA o, fB o, fC o, fD o, fE o, fF o, fG o, fH o, fI o, fJ o, fK o, fL o, v, fN o, fO o, fP o, fQ o, fR o, fS o, fT o, fU o, fV o, fW o, fX o, fY o, fZ o, fa o, fb o, fd o, fh o, fi o, fq o, fu o, fy o, fz o, fxA o, fxB o, fxC o, fxD o, fxE o, fxF o, fxG o, fxH o, fxI o, fxJ o, fxK o, fxL o, fxM o)
def sN (o : Ob) (v : Int32) : Ob := (fA o, fB o, fC o, fD o, fE o, fF o, fG o, fH o, fI o, fJ o, fK o, fL o, fM o, v, fO o, fP o, fQ o, fR o, fS o, fT o, fU o, fV o, fW o, fX o, fY o, fZ o, fa o, fb o, fd o, fh o, fi o, fq o, fu o, fy o, fz o, fxA o, fxB o, fxC o, fxD o, fxE o, fxF o, fxG o, fxH o, fxI o, fxJ o, fxK o, fxL o, fxM o)
def sO (o : Ob) (v : List Int32) : Ob := (fA o, fB o, fC o, fD o, fE o, fF o, fG o, fH o, fI o, fJ o, fK o, fL o, fM o, fN o, v, fP o, fQ o, fR o, fS o, fT o, fU o, fV o, fW o, fX o, fY o, fZ o, fa o, fb o, fd o, fh o, fi o, fq o, fu o, fy o, fz o, fxA o, fxB o, fxC o, fxD o, fxE o, fxF o, fxG o, fxH o, fxI o, fxJ o, fxK o, fxL o, fxM o)
def sP (o : Ob) (v : List Int32) : Ob := (fA o, fB o, fC o, fD o, fE o, fF o, fG o, fH o, fI o, fJ o, fK o, fL o, fM o, fN o, fO o, v, fQ o, fR o, fS o, fT o, fU o, fV o, fW o, fX o, fY o, fZ o, fa o, fb o, fd o, fh o, fi o, fq o, fu o, fy o, fz o, fxA o, fxB o, fxC o, fxD o, fxE o, fxF o, fxG o, fxH o, fxI o, fxJ o, fxK o, fxL o, fxM o)
def sQ (o : Ob) (v : List Int32) : Ob := (fA o, fB o, fC o, fD o, fE o, fF o, fG o, fH o, fI o, fJ o, fK o, fL o, fM o, fN o, fO o, fP o, v, fR o, fS o, fT o, fU o, fV o, fW o, fX o, fY o, fZ o, fa o, fb o, fd o, fh o, fi o, fq o, fu o, fy o, fz o, fxA o, fxB o, fxC o, fxD o, fxE o, fxF o, fxG o, fxH o, fxI o, fxJ o, fxK o, fxL o, fxM o)
def sR (o : Ob) (v : List Int32) : Ob := (fA o, fB o, fC o, fD o, fE o, fF o, fG o, fH o, fI o, fJ o, fK o, fL o, fM o, fN o, fO o, fP o, fQ o, v, fS o, fT o, fU o, fV o, fW o, fX o, fY o, fZ o, fa o, fb o, fd o, fh o, fi o, fq o, fu o, fy o, fz o, fxA o, fxB o, fxC o, fxD o, fxE o, fxF o, fxG o, fxH o, fxI o, fxJ o, fxK o, fxL o, fxM o)
def sS (o : Ob) (v : List Int32) : Ob := (fA o, fB o, fC o, fD o, fE o, fF o, fG o, fH o, fI o, fJ o, fK o, fL o, fM o, fN o, fO o, fP o, fQ o, fR o, v, fT o, fU o, fV o, fW o, fX o, fY o, fZ o, fa o, fb o, fd o, fh o, fi o, fq o, fu o, fy o, fz o, fxA o, fxB o, fxC o, fxD o, fxE o, fxF o, fxG o, fxH o, fxI o, fxJ o, fxK o, fxL o, fxM o)
def sT (o : Ob) (v : List Int32) : Ob := (fA o, fB o, fC o, fD o, fE o, fF o, fG o, fH o, fI o, fJ o, fK o, fL o, fM o, fN o, fO o, fP o, fQ o, fR o, fS o, v, fU o, fV o, fW o, fX o, fY o, fZ o, fa o, fb o, fd o, fh o, fi o, fq o, fu o, fy o, fz o, fxA o, fxB o, fxC o, fxD o, fxE o, fxF o, fxG o, fxH o, fxI o, fxJ o, fxK o, fxL o, fxM o)
def sU (o : Ob) (v : List Int32) : Ob := (fA o, fB o, fC o, fD o, fE o, fF o, fG o, fH o, fI o, fJ o, fK o, fL o, fM o, fN o, fO o, fP o, fQ o, fR o, fS o, fT o, v, fV o, fW o, fX o, fY o, fZ o, fa o, fb o, fd o, fh o, fi o, fq o, fu o, fy o, fz o, fxA o, fxB o, fxC o, fxD o, fxE o, fxF o, fxG o, fxH o, fxI o, fxJ o, fxK o, fxL o, fxM o)
def sV (o : Ob) (v : List Int32) : Ob := (fA o, fB o, fC o, fD o, fE o, fF o, fG o, fH o, fI o, fJ o, fK o, fL o, fM o, fN o, fO o, fP o, fQ o, fR o, fS o, fT o, fU o, v, fW o, fX o, fY o, fZ o, fa o, fb o, fd o, fh o, fi o, fq o, fu o, fy o, fz o, fxA o, fxB o, fxC o, fxD o, fxE o, fxF o, fxG o, fxH o, fxI o, fxJ o, fxK o, fxL o, fxM o)
def sW (o : Ob) (v : List Int32) : Ob := (fA o, fB o, fC o, fD o, fE o, fF o, fG o, fH o, fI o, fJ o, fK o, fL o, fM o, fN o, fO o, fP o, fQ o, fR o, fS o, fT o, fU o, fV o, v, fX o, fY o, fZ o, fa o, fb o, fd o, fh o, fi o, fq o, fu o, fy o, fz o, fxA o, fxB o, fxC o, fxD o, fxE o, fxF o, fxG o, fxH o, fxI o, fxJ o, fxK o, fxL o, fxM o)
def sX (o : Ob) (v : List Int32) : Ob := (fA o, fB o, fC o, fD o, fE o, fF o, fG o, fH o, fI o, fJ o, fK o, fL o, fM o, fN o, fO o, fP o, fQ o, fR o, fS o, fT o, fU o, fV o, fW o, v, fY o, fZ o, fa o, fb o, fd o, fh o, fi o, fq o, fu o, fy o, fz o, fxA o, fxB o, fxC o, fxD o, fxE o, fxF o, fxG o, fxH o, fxI o, fxJ o, fxK o, fxL o, fxM o)
def sY (o : Ob) (v : List Int32) : Ob := (fA o, fB o, fC o, fD o, fE o, fF o, fG o, fH o, fI o, fJ o, fK o, fL o, fM o, fN o, fO o, fP o, fQ o, fR o, fS o, fT o, fU o, fV o, fW o, fX o, v, fZ o, fa o, fb o, fd o, fh o, fi o, fq o, fu o, fy o, fz o, fxA o, fxB o, fxC o, fxD o, fxE o, fxF o, fxG o, fxH o, fxI o, fxJ o, fxK o, fxL o, fxM o)
def sZ (o : Ob) (v : List Int32) : Ob := (fA o, fB o, fC o, fD o, fE o, fF o, fG o, fH o, fI o, fJ o, fK o, fL o, fM o, fN o, fO o, fP o, fQ o, fR o, fS o, fT o, fU o, fV o, fW o, fX o, fY o, v, fa o, fb o, fd o, fh o, fi o, fq o, fu o, fy o, fz o, fxA o, fxB o, fxC o, fxD o, fxE o, fxF o, fxG o, fxH o, fxI o, fxJ o, fxK o, fxL o, fxM o)
def sa (o : Ob) (v : List Int32) : Ob := (fA o, fB o, fC o, fD o, fE o, fF o, fG o, fH o, fI o, fJ o, fK o, fL o, fM o, fN o, fO o, fP o, fQ o, fR o, fS o, fT o, fU o, fV o, fW o, fX o, fY o, fZ o, v, fb o, fd o, fh o, fi o, fq o, fu o, fy o, fz o, fxA o, fxB o, fxC o, fxD o, fxE o, fxF o, fxG o, fxH o, fxI o, fxJ o, fxK o, fxL o, fxM o)
def sb (o : Ob) (v : List Int32) : Ob := (fA o, fB o, fC o, fD o, fE o, fF o, fG o, fH o, fI o, fJ o, fK o, fL o, fM o, fN o, fO o, fP o, fQ o, fR o, fS o, fT o, fU o, fV o, fW o, fX o, fY o, fZ o, fa o, v, fd o, fh o, fi o, fq o, fu o, fy o, fz o, fxA o, fxB o, fxC o, fxD o, fxE o, fxF o, fxG o, fxH o, fxI o, fxJ o, fxK o, fxL o, fxM o)
def sd (o : Ob) (v : List Int64) : Ob := (fA o, fB o, fC o, fD o, fE o, fF o, fG o, fH o, fI o, fJ o, fK o, fL o, fM o, fN o, fO o, fP o, fQ o, fR o, fS o, fT o, fU o, fV o, fW o, fX o, fY o, fZ o, fa o, fb o, v, fh o, fi o, fq o, fu o, fy o, fz o, fxA o, fxB o, fxC o, fxD o, fxE o, fxF o, fxG o, fxH o, fxI o, fxJ o, fxK o, fxL o, fxM o)
def sh (o : Ob) (v : List Int32) : Ob := (fA o, fB o, fC o, fD o, fE o, fF o, fG o, fH o, fI o, fJ o, fK o, fL o, fM o, fN o, fO o, fP o, fQ o, fR o, fS o, fT o, fU o, fV o, fW o, fX o, fY o, fZ o, fa o, fb o, fd o, v, fi o, fq o, fu o, fy o, fz o, fxA o, fxB o, fxC o, fxD o, fxE o, fxF o, fxG o, fxH o, fxI o, fxJ o, fxK o, fxL o, fxM o)
def si (o : Ob) (v : List Int32) : Ob := (fA o, fB o, fC o, fD o, fE o, fF o, fG o, fH o, fI o, fJ o, fK o, fL o, fM o, fN o, fO o, fP o, fQ o, fR o, fS o, fT o, fU o, fV o, fW o, fX o, fY o, fZ o, fa o, fb o, fd o, fh o, v, fq o, fu o, fy o, fz o, fxA o, fxB o, fxC o, fxD o, fxE o, fxF o, fxG o, fxH o, fxI o, fxJ o, fxK o, fxL o, fxM o)
def sq (o : Ob) (v : List Int32) : Ob := (fA o, fB o, fC o, fD o, fE o, fF o, fG o, fH o, fI o, fJ o, fK o, fL o, fM o, fN o, fO o, fP o, fQ o, fR o, fS o, fT o, fU o, fV o, fW o, fX o, fY o, fZ o, fa o, fb o, fd o, fh o, fi o, v, fu o, fy o, fz o, fxA o, fxB o, fxC o, fxD o, fxE o, fxF o, fxG o, fxH o, fxI o, fxJ o, fxK o, fxL o, fxM o)
def su (o : Ob) (v : List Int32) : Ob := (fA o, fB o, fC o, fD o, fE o, fF o, fG o, fH o, fI o, fJ o, fK o, fL o, fM o, fN o, fO o, fP o, fQ o, fR o, fS o, fT o, fU o, fV o, fW o, fX o, fY o, fZ o, fa o, fb o, fd o, fh o, fi o, fq o, v, fy o, fz o, fxA o, fxB o, fxC o, fxD o, fxE o, fxF o, fxG o, fxH o, fxI o, fxJ o, fxK o, fxL o, fxM o)
def sy (o : Ob) (v : List Int32) : Ob := (fA o, fB o, fC o, fD o, fE o, fF o, fG o, fH o, fI o, fJ o, fK o, fL o, fM o, fN o, fO o, fP o, fQ o, fR o, fS o, fT o, fU o, fV o, fW o, fX o, fY o, fZ o, fa o, fb o, fd o, fh o, fi o, fq o, fu o, v, fz o, fxA o, fxB o, fxC o, fxD o, fxE o, fxF o, fxG o, fxH o, fxI o, fxJ o, fxK o, fxL o, fxM o)
def sz (o : Ob) (v : Int32) : Ob := (fA o, fB o, fC o, fD o, fE o, fF o, fG o, fH o, fI o, fJ o, fK o, fL o, fM o, fN o, fO o, fP o, fQ o, fR o, fS o, fT o, fU o, fV o, fW o, fX o, fY o, fZ o, fa o, fb o, fd o, fh o, fi o, fq o, fu o, fy o, v, fxA o, fxB o, fxC o, fxD o, fxE o, fxF o, fxG o, fxH o, fxI o, fxJ o, fxK o, fxL o, fxM o)
def sxA (o : Ob) (v : Int32) : Ob := (fA o, fB o, fC o, fD o, fE o, fF o, fG o, fH o, fI o, fJ o, fK o, fL o, fM o, fN o, fO o, fP o, fQ o, fR o, fS o, fT o, fU o, fV o, fW o, fX o, fY o, fZ o, fa o, fb o, fd o, fh o, fi o, fq o, fu o, fy o, fz o, v, fxB o, fxC o, fxD o, fxE o, fxF o, fxG o, fxH o, fxI o, fxJ o, fxK o, fxL o, fxM o)
def sxB (o : Ob) (v : Int32) : Ob := (fA o, fB o, fC o, fD o, fE o, fF o, fG o, fH o, fI o, fJ o, fK o, fL o, fM o, fN o, fO o, fP o, fQ o, fR o, fS o, fT o, fU o, fV o, fW o, fX o, fY o, fZ o, fa o, fb o, fd o, fh o, fi o, fq o, fu o, fy o, fz o, fxA o, v, fxC o, fxD o, fxE o, fxF o, fxG o, fxH o, fxI o, fxJ o, fxK o, fxL o, fxM o)
def sxC (o : Ob) (v : Int32) : Ob := (fA o, fB o, fC o, fD o, fE o, fF o, fG o, fH o, fI o, fJ o, fK o, fL o, fM o, fN o, fO o, fP o, fQ o, fR o, fS o, fT o, fU o, fV o, fW o, fX o, fY o, fZ o, fa o, fb o, fd o, fh o, fi o, fq o, fu o, fy o, fz o, fxA o, fxB o, v, fxD o, fxE o, fxF o, fxG o, fxH o, fxI o, fxJ o, fxK o, fxL o, fxM o)
def sxD (o : Ob) (v : Int32) : Ob := (fA o, fB o, fC o, fD o, fE o, fF o, fG o, fH o, fI o, fJ o, fK o, fL o, fM o, fN o, fO o, fP o, fQ o, fR o, fS o, fT o, fU o, fV o, fW o, fX o, fY o, fZ o, fa o, fb o, fd o, fh o, fi o, fq o, fu o, fy o, fz o, fxA o, fxB o, fxC o, v, fxE o, fxF o, fxG o, fxH o, fxI o, fxJ o, fxK o, fxL o, fxM o)
def sxE (o : Ob) (v : Int32) : Ob := (fA o, fB o, fC o, fD o, fE o, fF o, fG o, fH o, fI o, fJ o, fK o, fL o, fM o, fN o, fO o, fP o, fQ o, fR o, fS o, fT o, fU o, fV o, fW o, fX o, fY o, fZ o, fa o, fb o, fd o, fh o, fi o, fq o, fu o, fy o, fz o, fxA o, fxB o, fxC o, fxD o, v, fxF o, fxG o, fxH o, fxI o, fxJ o, fxK o, fxL o, fxM o)
def sxF (o : Ob) (v : Int32) : Ob := (fA o, fB o, fC o, fD o, fE o, fF o, fG o, fH o, fI o, fJ o, fK o, fL o, fM o, fN o, fO o, fP o, fQ o, fR o, fS o, fT o, fU o, fV o, fW o, fX o, fY o, fZ o, fa o, fb o, fd o, fh o, fi o, fq o, fu o, fy o, fz o, fxA o, fxB o, fxC o, fxD o, fxE o, v, fxG o, fxH o, fxI o, fxJ o, fxK o, fxL o, fxM o)
def sxG (o : Ob) (v : Int32) : Ob := (fA o, fB o, fC o, fD o, fE o, fF o, fG o, fH o, fI o, fJ o, fK o, fL o, fM o, fN o, fO o, fP o, fQ o, fR o, fS o, fT o, fU o, fV o, fW o, fX o, fY o, fZ o, fa o, fb o, fd o, fh o, fi o, fq o, fu o, fy o, fz o, fxA o, fxB o, fxC o, fxD o, fxE o, fxF o, v, fxH o, fxI o, fxJ o, fxK o, fxL o, fxM o)
def sxH (o : Ob) (v : Int32) : Ob := (fA o, fB o, fC o, fD o, fE o, fF o, fG o, fH o, fI o, fJ o, fK o, fL o, fM o, fN o, fO o, fP o, fQ o, fR o, fS o, fT o, fU o, fV o, fW o, fX o, fY o, fZ o, fa o, fb o, fd o, fh o, fi o, fq o, fu o, fy o, fz o, fxA o, fxB o, fxC o, fxD o, fxE o, fxF o, fxG o, v, fxI o, fxJ o, fxK o, fxL o, fxM o)
def sxI (o : Ob) (v : Int32) : Ob := (fA o, fB o, fC o, fD o, fE o, fF o, fG o, fH o, fI o, fJ o, fK o, fL o, fM o, fN o, fO o, fP o, fQ o, fR o, fS o, fT o, fU o, fV o, fW o, fX o, fY o, fZ o, fa o, fb o, fd o, fh o, fi o, fq o, fu o, fy o, fz o, fxA o, fxB o, fxC o, fxD o, fxE o, fxF o, fxG o, fxH o, v, fxJ o, fxK o, fxL o, fxM o)
def sxJ (o : Ob) (v : Int32) : Ob := (fA o, fB o, fC o, fD o, fE o, fF o, fG o, fH o, fI o, fJ o, fK o, fL o, fM o, fN o, fO o, fP o, fQ o, fR o, fS o, fT o, fU o, fV o, fW o, fX o, fY o, fZ o, fa o, fb o, fd o, fh o, fi o, fq o, fu o, fy o, fz o, fxA o, fxB o, fxC o, fxD o, fxE o, fxF o, fxG o, fxH o, fxI o, v, fxK o, fxL o, fxM o)
def sxK (o : Ob) (v : Int32) : Ob := (fA o, fB o, fC o, fD o, fE o, fF o, fG o, fH o, fI o, fJ o, fK o, fL o, fM o, fN o, fO o, fP o, fQ o, fR o, fS o, fT o, fU o, fV o, fW o, fX o, fY o, fZ o, fa o, fb o, fd o, fh o, fi o, fq o, fu o, fy o, fz o, fxA o, fxB o, fxC o, fxD o, fxE o, fxF o, fxG o, fxH o, fxI o, fxJ o, v, fxL o, fxM o)
def sxL (o : Ob) (v : Int32) : Ob := (fA o, fB o, fC o, fD o, fE o, fF o, fG o, fH o, fI o, fJ o, fK o, fL o, fM o, fN o, fO o, fP o, fQ o, fR o, fS o, fT o, fU o, fV o, fW o, fX o, fY o, fZ o, fa o, fb o, fd o, fh o, fi o, fq o, fu o, fy o, fz o, fxA o, fxB o, fxC o, fxD o, fxE o, fxF o, fxG o, fxH o, fxI o, fxJ o, fxK o, v, fxM o)
def sxM (o : Ob) (v : Int32) : Ob := (fA o, fB o, fC o, fD o, fE o, fF o, fG o, fH o, fI o, fJ o, fK o, fL o, fM o, fN o, fO o, fP o, fQ o, fR o, fS o, fT o, fU o, fV o, fW o, fX o, fY o, fZ o, fa o, fb o, fd o, fh o, fi o, fq o, fu o, fy o, fz o, fxA o, fxB o, fxC o, fxD o, fxE o, fxF o, fxG o, fxH o, fxI o, fxJ o, fxK o, fxL o, v)
theorem fs (o : Ob) : fA o = o.1 ∧ fB o = o.2.1 ∧ fC o = o.2.2.1 ∧ fD o = o.2.2.2.1 ∧ fE o = o.2.2.2.2.1 ∧ fF o = o.2.2.2.2.2.1 ∧ fG o = o.2.2.2.2.2.2.1 ∧ fH o = o.2.2.2.2.2.2.2.1 ∧ fI o = o.2.2.2.2.2.2.2.2.1 ∧ fJ o = o.2.2.2.2.2.2.2.2.2.1 ∧ fK o = o.2.2.2.2.2.2.2.2.2.2.1 ∧ fL o = o.2.2.2.2.2.2.2.2.2.2.2.1 ∧ fM o = o.2.2.2.2.2.2.2.2.2.2.2.2.1 ∧ fN o = o.2.2.2.2.2.2.2.2.2.2.2.2.2.1 ∧ fO o = o.2.2.2.2.2.2.2.2.2.2.2.2.2.2.1 ∧ fP o = o.2.2.2.2.2.2.2.2.2.2.2.2.2.2.2.1 ∧ fQ o = o.2.2.2.2.2.2.2.2.2.2.2.2.2.2.2.2.1 ∧ fR o = o.2.2.2.2.2.2.2.2.2.2.2.2.2.2.2.2.2.1 ∧ fS o = o.2.2.2.2.2.2.2.2.2.2.2.2.2.2.2.2.2.2.1 ∧ fT o = o.2.2.2.2.2.2.2.2.2.2.2.2.2.2.2.2.2.2.2.1 ∧ fU o = o.2.2.2.2.2.2.2.2.2.2.2.2.2.2.2.2.2.2.2.2.1 ∧ fV o = o.2.2.2.2.2.2.2.2.2.2.2.2.2.2.2.2.2.2.2.2.2.1 ∧ fW o = o.2.2.2.2.2.2.2.2.2.2.2.2.2.2.2.2.2.2.2.2.2.2.1 ∧ fX o = o.2.2.2.2.2.2.2.2.2.2.2.2.2.2.2.2.2.2.2.2.2.2.2.1 ∧ fY o = o.2.2.2.2.2.2.2.2.2.2.2.2.2.2.2.2.2.2.2.2.2.2.2.2.1 ∧ fZ o = o.2.2.2.2.2.2.2.2.2.2.2.2.2.2.2.2.2.2.2.2.2.2.2.2.2.1 ∧ fa o = o.2.2.2.2.2.2.2.2.2.2.2.2.2.2.2.2.2.2.2.2.2.2.2.2.2.2.1 ∧ fb o = o.2.2.2.2.2.2.2.2.2.2.2.2.2.2.2.2.2.2.2.2.2.2.2.2.2.2.2.1 ∧ fd o = o.2.2.2.2.2.2.2.2.2.2.2.2.2.2.2.2.2.2.2.2.2.2.2.2.2.2.2.2.1 ∧ fh o = o.2.2.2.2.2.2.2.2.2.2.2.2.2.2.2.2.2.2.2.2.2.2.2.2.2.2.2.2.2.1 ∧ fi o = o.2.2.2.2.2.2.2.2.2.2.2.2.2.2.2.2.2.2.2.2.2.2.2.2.2.2.2.2.2.2.1 ∧ fq o = o.2.2.2.2.2.2.2.2.2.2.2.2.2.2.2.2.2.2.2.2.2.2.2.2.2.2.2.2.2.2.2.1 ∧ fu o = o.2.2.2.2.2.2.2.2.2.2.2.2.2.2.2.2.2.2.2.2.2.2.2.2.2.2.2.2.2.2.2.2.1 ∧ fy o = o.2.2.2.2.2.2.2.2.2.2.2.2.2.2.2.2.2.2.2.2.2.2.2.2.2.2.2.2.2.2.2.2.2.1 ∧ fz o = o.2.2.2.2.2.2.2.2.2.2.2.2.2.2.2.2.2.2.2.2.2.2.2.2.2.2.2.2.2.2.2.2.2.2.1 ∧ fxA o = o.2.2.2.2.2.2.2.2.2.2.2.2.2.2.2.2.2.2.2.2.2.2.2.2.2.2.2.2.2.2.2.2.2.2.2.1 ∧ fxB o = o.2.2.2.2.2.2.2.2.2.2.2.2.2.2.2.2.2.2.2.2.2.2.2.2.2.2.2.2.2.2.2.2.2.2.2.2.1 ∧ fxC o = o.2.2.2.2.2.2.2.2.2.2.2.2.2.2.2.2.2.2.2.2.2.2.2.2.2.2.2.2.2.2.2.2.2.2.2.2.2.1 ∧ fxD o = o.2.2.2.2.2.2.2.2.2.2.2.2.2.2.2.2.2.2.2.2.2.2.2.2.2.2.2.2.2.2.2.2.2.2.2.2.2.2.1 ∧ fxE o = o.2.2.2.2.2.2.2.2.2.2.2.2.2.2.2.2.2.2.2.2.2.2.2.2.2.2.2.2.2.2.2.2.2.2.2.2.2.2.2.1 ∧ fxF o = o.2.2.2.2.2.2.2.2.2.2.2.2.2.2.2.2.2.2.2.2.2.2.2.2.2.2.2.2.2.2.2.2.2.2.2.2.2.2.2.2.1 ∧ fxG o = o.2.2.2.2.2.2.2.2.2.2.2.2.2.2.2.2.2.2.2.2.2.2.2.2.2.2.2.2.2.2.2.2.2.2.2.2.2.2.2.2.2.1 ∧ fxH o = o.2.2.2.2.2.2.2.2.2.2.2.2.2.2.2.2.2.2.2.2.2.2.2.2.2.2.2.2.2.2.2.2.2.2.2.2.2.2.2.2.2.2.1 ∧ fxI o = o.2.2.2.2.2.2.2.2.2.2.2.2.2.2.2.2.2.2.2.2.2.2.2.2.2.2.2.2.2.2.2.2.2.2.2.2.2.2.2.2.2.2.2.1 ∧ fxJ o = o.2.2.2.2.2.2.2.2.2.2.2.2.2.2.2.2.2.2.2.2.2.2.2.2.2.2.2.2.2.2.2.2.2.2.2.2.2.2.2.2.2.2.2.2.1 ∧ fxK o = o.2.2.2.2.2.2.2.2.2.2.2.2.2.2.2.2.2.2.2.2.2.2.2.2.2.2.2.2.2.2.2.2.2.2.2.2.2.2.2.2.2.2.2.2.2.1 ∧ fxL o = o.2.2.2.2.2.2.2.2.2.2.2.2.2.2.2.2.2.2.2.2.2.2.2.2.2.2.2.2.2.2.2.2.2.2.2.2.2.2.2.2.2.2.2.2.2.2.1 ∧ fxM o = o.2.2.2.2.2.2.2.2.2.2.2.2.2.2.2.2.2.2.2.2.2.2.2.2.2.2.2.2.2.2.2.2.2.2.2.2.2.2.2.2.2.2.2.2.2.2.2 := by simp only [fA, fB, fC, fD, fE, fF, fG, fH, fI, fJ, fK, fL, fM, fN, fO, fP, fQ, fR, fS, fT, fU, fV, fW, fX, fY, fZ, fa, fb, fd, fh, fi, fq, fu, fy, fz, fxA, fxB, fxC, fxD, fxE, fxF, fxG, fxH, fxI, fxJ, fxK, fxL, fxM, and_self]
abbrev r6 : List Int32 := List.replicate 16 0
abbrev iC (x : List Int32) : QCell := .inr (.inl (.int, x))
def ob0 : Ob := (0, 0, 0, 0, 0, 0, 0, 0, 0, 0, 0, 0, 0, 0, [], [], [], [], [], [], [], [], [], [], [], [], [], [], [], [], [], [], [], [], 0, 0, 0, 0, 0, 0, 0, 0, 0, 0, 0, 0, 0, 0)
section Walks
variable {l : Launch} {Z : State} {n0 : Nat} {ad : Nat → Addr} {a0 : Array Value}
set_option maxRecDepth 20000
set_option maxHeartbeats 2000000
abbrev tt : Bool := true
abbrev ff : Bool := false
open QTri renaming steps → zS, brT → zT, brF → zF, bnd → zB, mask → zM
open Option (bind_eq_some_iff)
open Classical (em)
abbrev nN : Option Value := none
theorem sj {α : Type} {a b : α} (h : some a = some b) : a = b := Option.some.inj h
theorem be {α β : Type} {x : Option α} {f : α → Option β} {b : β} (h : x.bind f = some b) : ∃ a, x = some a ∧ f a = some b := bind_eq_some_iff.mp h
open QTri (callI callO callP callV ret0 retI retJ retZ)
theorem yS {m : Nat} {v : Option Value} {σ' : QHeap} (Ad : QAd n0 ad) (W : QW Z a0) (n : Nat) {st : QSt} (st' : QSt) (h : qsteps m n st = some st') (k : QTri l Z n0 ad m st' v σ') : QTri l Z n0 ad m st v σ' := QTri.steps Ad W n h k
theorem yT {m : Nat} {v : Option Value} {σ' : QHeap} (Ad : QAd n0 ad) (W : QW Z a0) {st : QSt} (t f : Nat) {L : QLoc} {S : List Value} {σ : QHeap} {b : Bool} (hs : qstep m st = some (bif b then t else f, L, S, σ)) (hb : b = true) (h : QTri l Z n0 ad m (t, L, S, σ) v σ') : QTri l Z n0 ad m st v σ' := QTri.brT Ad W hs hb h
theorem yF {m : Nat} {v : Option Value} {σ' : QHeap} (Ad : QAd n0 ad) (W : QW Z a0) {st : QSt} (t f : Nat) {L : QLoc} {S : List Value} {σ : QHeap} {b : Bool} (hs : qstep m st = some (bif b then t else f, L, S, σ)) (hb : b = false) (h : QTri l Z n0 ad m (f, L, S, σ) v σ') : QTri l Z n0 ad m st v σ' := QTri.brF Ad W hs hb h
def H0 (s : List Int32) (o0 : Ob) : QHeap := [iC s, .inl [.int (fA o0), .int (fB o0), .int (fC o0), .int (fD o0), .int (fE o0), .int (fF o0), .int (fG o0), .int (fH o0), .int (fI o0), .int (fJ o0), .int (fK o0), .int (fL o0), .long (fM o0), .int (fN o0), .ref 2, .ref 3, .ref 4, .ref 5, .ref 6, .ref 7, .ref 8, .ref 9, .ref 10, .ref 11, .ref 12, .ref 13, .ref 14, .ref 15, .ref 16, .ref 17, .ref 18, .ref 19, .ref 20, .ref 21, .int (fz o0), .int (fxA o0), .int (fxB o0), .int (fxC o0), .int (fxD o0), .int (fxE o0), .int (fxF o0), .int (fxG o0), .int (fxH o0), .int (fxI o0), .int (fxJ o0), .int (fxK o0), .int (fxL o0), .int (fxM o0)], iC (fO o0), .inr (.inl (.byte, (fP o0))), iC (fQ o0), .inr (.inl (.byte, (fR o0))), iC (fS o0), iC (fT o0), iC (fU o0), iC (fV o0), .inr (.inl (.byte, (fW o0))), iC (fX o0), iC (fY o0), iC (fZ o0), iC (fa o0), .inr (.inl (.byte, (fb o0))), .inr (.inr (fd o0)), .inr (.inl (.byte, (fh o0))), iC (fi o0), iC (fq o0), iC (fu o0), iC (fy o0)]
def H0v (s : List Int32) (a0_0 a0_1 : Int32) (a0_2 a0_3 : Int32) (a0_4 a0_5 : Int32) (a0_6 a0_7 : Int32) (a0_8 a0_9 : Int32) (a0_10 a0_11 : Int32) (a0_12 : Int64) (a0_13 : Int32) (a0_14 a0_15 : List Int32) (a0_16 a0_17 : List Int32) (a0_18 a0_19 : List Int32) (a0_20 a0_21 : List Int32) (a0_22 a0_23 : List Int32) (a0_24 a0_25 : List Int32) (a0_26 a0_27 : List Int32) (a0_28 : List Int64) (a0_29 a0_30 : List Int32) (a0_31 a0_32 a0_33 : List Int32) (a0_34 a0_35 : Int32) (a0_36 a0_37 : Int32) (a0_38 a0_39 : Int32) (a0_40 a0_41 : Int32) (a0_42 a0_43 : Int32) (a0_44 a0_45 : Int32) (a0_46 a0_47 : Int32) : QHeap := [iC s, .inl [.int a0_0, .int a0_1, .int a0_2, .int a0_3, .int a0_4, .int a0_5, .int a0_6, .int a0_7, .int a0_8, .int a0_9, .int a0_10, .int a0_11, .long a0_12, .int a0_13, .ref 2, .ref 3, .ref 4, .ref 5, .ref 6, .ref 7, .ref 8, .ref 9, .ref 10, .ref 11, .ref 12, .ref 13, .ref 14, .ref 15, .ref 16, .ref 17, .ref 18, .ref 19, .ref 20, .ref 21, .int a0_34, .int a0_35, .int a0_36, .int a0_37, .int a0_38, .int a0_39, .int a0_40, .int a0_41, .int a0_42, .int a0_43, .int a0_44, .int a0_45, .int a0_46, .int a0_47], iC a0_14, .inr (.inl (.byte, a0_15)), iC a0_16, .inr (.inl (.byte, a0_17)), iC a0_18, iC a0_19, iC a0_20, iC a0_21, .inr (.inl (.byte, a0_22)), iC a0_23, iC a0_24, iC a0_25, iC a0_26, .inr (.inl (.byte, a0_27)), .inr (.inr a0_28), .inr (.inl (.byte, a0_29)), iC a0_30, iC a0_31, iC a0_32, iC a0_33]
def H0x0 (s : List Int32) (o0 : Ob) (a0_0 a0_1 : Int32) (a0_2 a0_3 : Int32) (a0_4 a0_5 : Int32) (a0_6 a0_7 : Int32) (a0_8 a0_9 : Int32) (a0_10 a0_11 : Int32) (a0_12 : Int64) (a0_13 : Int32) (a0_14 a0_15 : List Int32) (a0_16 a0_17 : List Int32) (a0_18 a0_19 : List Int32) (a0_20 a0_21 : List Int32) (a0_22 a0_23 : List Int32) (a0_24 a0_25 : List Int32) (a0_26 a0_27 : List Int32) (a0_28 : List Int64) (a0_29 a0_30 : List Int32) (a0_31 a0_32 a0_33 : List Int32) : QHeap := H0v s a0_0 a0_1 a0_2 a0_3 a0_4 a0_5 a0_6 a0_7 a0_8 a0_9 a0_10 a0_11 a0_12 a0_13 a0_14 a0_15 a0_16 a0_17 a0_18 a0_19 a0_20 a0_21 a0_22 a0_23 a0_24 a0_25 a0_26 a0_27 a0_28 a0_29 a0_30 a0_31 a0_32 a0_33 (fz o0) (fxA o0) (fxB o0) (fxC o0) (fxD o0) (fxE o0) (fxF o0) (fxG o0) (fxH o0) (fxI o0) (fxJ o0) (fxK o0) (fxL o0) (fxM o0)
/-- clamp(III)I -/
def F2 (x1 x2 x3 : Int32) : Option (Int32) :=
 (if x1 < x2 then some x2 else (if x3 < x1 then some x3 else some x1))
theorem tF2 (Ad : QAd n0 ad) (W : QW Z a0) {a : Nat} {σ : QHeap} (x1 x2 x3 : Int32) {r : Int32} (h : F2 x1 x2 x3 = some r) : QTri l Z n0 ad 2 (0, qentry [.ref a, .int x1, .int x2, .int x3] (pMaxL 2), [], σ) (some (Value.int r)) σ := by
 unfold F2 at h
 refine yS Ad W 2 (2, [vR a, vI x1, vI x2, vI x3], [.int x2, .int x1], σ) rfl ?_
 rcases qite h with ⟨c1, h⟩ | ⟨c1, h⟩
 ·refine yF Ad W 7 5 rfl (XT.ii_ge_f c1) ?_
  refine yS Ad W 1 (6, [vR a, vI x1, vI x2, vI x3], [.int x2], σ) rfl ?_
  obtain rfl := sj h
  exact retI rfl rfl
 ·refine yT Ad W 7 5 rfl (XT.ii_ge_t c1) ?_
  refine yS Ad W 2 (9, [vR a, vI x1, vI x2, vI x3], [.int x3, .int x1], σ) rfl ?_
  rcases qite h with ⟨c2, h⟩ | ⟨c2, h⟩
  ·refine yF Ad W 14 12 rfl (XT.ii_le_f c2) ?_
   refine yS Ad W 1 (13, [vR a, vI x1, vI x2, vI x3], [.int x3], σ) rfl ?_
   obtain rfl := sj h
   exact retI rfl rfl
  ·refine yT Ad W 14 12 rfl (XT.ii_le_t c2) ?_
   refine yS Ad W 1 (15, [vR a, vI x1, vI x2, vI x3], [.int x1], σ) rfl ?_
   obtain rfl := sj h
   exact retI rfl rfl
def H0x1 (s : List Int32) (o0 : Ob) (a0_0 a0_1 : Int32) (a0_2 a0_3 : Int32) (a0_4 a0_5 : Int32) (a0_6 a0_7 : Int32) (a0_8 a0_9 : Int32) (a0_10 a0_11 : Int32) (a0_12 : Int64) (a0_13 : Int32) (a0_14 a0_15 : List Int32) (a0_16 a0_17 : List Int32) (a0_18 a0_19 : List Int32) (a0_20 a0_21 : List Int32) (a0_22 a0_23 : List Int32) (a0_24 a0_25 : List Int32) (a0_26 a0_27 : List Int32) (a0_28 : List Int64) (a0_29 a0_30 : List Int32) (a0_31 a0_32 a0_33 : List Int32) (a0_34 : Int32) : QHeap := H0v s a0_0 a0_1 a0_2 a0_3 a0_4 a0_5 a0_6 a0_7 a0_8 a0_9 a0_10 a0_11 a0_12 a0_13 a0_14 a0_15 a0_16 a0_17 a0_18 a0_19 a0_20 a0_21 a0_22 a0_23 a0_24 a0_25 a0_26 a0_27 a0_28 a0_29 a0_30 a0_31 a0_32 a0_33 a0_34 (fxA o0) (fxB o0) (fxC o0) (fxD o0) (fxE o0) (fxF o0) (fxG o0) (fxH o0) (fxI o0) (fxJ o0) (fxK o0) (fxL o0) (fxM o0)
def H0x2 (s : List Int32) (o0 : Ob) (a0_0 a0_1 : Int32) (a0_2 a0_3 : Int32) (a0_4 a0_5 : Int32) (a0_6 a0_7 : Int32) (a0_8 a0_9 : Int32) (a0_10 a0_11 : Int32) (a0_12 : Int64) (a0_13 : Int32) (a0_14 a0_15 : List Int32) (a0_16 a0_17 : List Int32) (a0_18 a0_19 : List Int32) (a0_20 a0_21 : List Int32) (a0_22 a0_23 : List Int32) (a0_24 a0_25 : List Int32) (a0_26 a0_27 : List Int32) (a0_28 : List Int64) (a0_29 a0_30 : List Int32) (a0_31 a0_32 a0_33 : List Int32) (a0_34 a0_35 : Int32) : QHeap := H0v s a0_0 a0_1 a0_2 a0_3 a0_4 a0_5 a0_6 a0_7 a0_8 a0_9 a0_10 a0_11 a0_12 a0_13 a0_14 a0_15 a0_16 a0_17 a0_18 a0_19 a0_20 a0_21 a0_22 a0_23 a0_24 a0_25 a0_26 a0_27 a0_28 a0_29 a0_30 a0_31 a0_32 a0_33 a0_34 a0_35 (fxB o0) (fxC o0) (fxD o0) (fxE o0) (fxF o0) (fxG o0) (fxH o0) (fxI o0) (fxJ o0) (fxK o0) (fxL o0) (fxM o0)
def H0x3 (s : List Int32) (o0 : Ob) (a0_36 : Int32) : QHeap := H0v s (fA o0) (fB o0) (fC o0) (fD o0) (fE o0) (fF o0) (fG o0) (fH o0) (fI o0) (fJ o0) (fK o0) (fL o0) (fM o0) (fN o0) (fO o0) (fP o0) (fQ o0) (fR o0) (fS o0) (fT o0) (fU o0) (fV o0) (fW o0) (fX o0) (fY o0) (fZ o0) (fa o0) (fb o0) (fd o0) (fh o0) (fi o0) (fq o0) (fu o0) (fy o0) (fz o0) (fxA o0) a0_36 (fxC o0) (fxD o0) (fxE o0) (fxF o0) (fxG o0) (fxH o0) (fxI o0) (fxJ o0) (fxK o0) (fxL o0) (fxM o0)
def H0x4 (s : List Int32) (o0 : Ob) (a0_36 a0_37 : Int32) : QHeap := H0v s (fA o0) (fB o0) (fC o0) (fD o0) (fE o0) (fF o0) (fG o0) (fH o0) (fI o0) (fJ o0) (fK o0) (fL o0) (fM o0) (fN o0) (fO o0) (fP o0) (fQ o0) (fR o0) (fS o0) (fT o0) (fU o0) (fV o0) (fW o0) (fX o0) (fY o0) (fZ o0) (fa o0) (fb o0) (fd o0) (fh o0) (fi o0) (fq o0) (fu o0) (fy o0) (fz o0) (fxA o0) a0_36 a0_37 (fxD o0) (fxE o0) (fxF o0) (fxG o0) (fxH o0) (fxI o0) (fxJ o0) (fxK o0) (fxL o0) (fxM o0)
def H0x5 (s : List Int32) (o0 : Ob) (a0_36 a0_37 a0_38 : Int32) : QHeap := H0v s (fA o0) (fB o0) (fC o0) (fD o0) (fE o0) (fF o0) (fG o0) (fH o0) (fI o0) (fJ o0) (fK o0) (fL o0) (fM o0) (fN o0) (fO o0) (fP o0) (fQ o0) (fR o0) (fS o0) (fT o0) (fU o0) (fV o0) (fW o0) (fX o0) (fY o0) (fZ o0) (fa o0) (fb o0) (fd o0) (fh o0) (fi o0) (fq o0) (fu o0) (fy o0) (fz o0) (fxA o0) a0_36 a0_37 a0_38 (fxE o0) (fxF o0) (fxG o0) (fxH o0) (fxI o0) (fxJ o0) (fxK o0) (fxL o0) (fxM o0)
def H0x6 (s : List Int32) (o0 : Ob) (a0_36 a0_37 : Int32) (a0_38 a0_39 : Int32) : QHeap := H0v s (fA o0) (fB o0) (fC o0) (fD o0) (fE o0) (fF o0) (fG o0) (fH o0) (fI o0) (fJ o0) (fK o0) (fL o0) (fM o0) (fN o0) (fO o0) (fP o0) (fQ o0) (fR o0) (fS o0) (fT o0) (fU o0) (fV o0) (fW o0) (fX o0) (fY o0) (fZ o0) (fa o0) (fb o0) (fd o0) (fh o0) (fi o0) (fq o0) (fu o0) (fy o0) (fz o0) (fxA o0) a0_36 a0_37 a0_38 a0_39 (fxF o0) (fxG o0) (fxH o0) (fxI o0) (fxJ o0) (fxK o0) (fxL o0) (fxM o0)
def H0x7 (s : List Int32) (o0 : Ob) (a0_36 a0_37 : Int32) (a0_38 a0_39 a0_40 : Int32) : QHeap := H0v s (fA o0) (fB o0) (fC o0) (fD o0) (fE o0) (fF o0) (fG o0) (fH o0) (fI o0) (fJ o0) (fK o0) (fL o0) (fM o0) (fN o0) (fO o0) (fP o0) (fQ o0) (fR o0) (fS o0) (fT o0) (fU o0) (fV o0) (fW o0) (fX o0) (fY o0) (fZ o0) (fa o0) (fb o0) (fd o0) (fh o0) (fi o0) (fq o0) (fu o0) (fy o0) (fz o0) (fxA o0) a0_36 a0_37 a0_38 a0_39 a0_40 (fxG o0) (fxH o0) (fxI o0) (fxJ o0) (fxK o0) (fxL o0) (fxM o0)
def H0x8 (s : List Int32) (o0 : Ob) (a0_36 a0_37 : Int32) (a0_38 a0_39 : Int32) (a0_40 a0_41 : Int32) : QHeap := H0v s (fA o0) (fB o0) (fC o0) (fD o0) (fE o0) (fF o0) (fG o0) (fH o0) (fI o0) (fJ o0) (fK o0) (fL o0) (fM o0) (fN o0) (fO o0) (fP o0) (fQ o0) (fR o0) (fS o0) (fT o0) (fU o0) (fV o0) (fW o0) (fX o0) (fY o0) (fZ o0) (fa o0) (fb o0) (fd o0) (fh o0) (fi o0) (fq o0) (fu o0) (fy o0) (fz o0) (fxA o0) a0_36 a0_37 a0_38 a0_39 a0_40 a0_41 (fxH o0) (fxI o0) (fxJ o0) (fxK o0) (fxL o0) (fxM o0)
def H0x9 (s : List Int32) (o0 : Ob) (a0_36 a0_37 : Int32) (a0_38 a0_39 : Int32) (a0_40 a0_41 a0_42 : Int32) : QHeap := H0v s (fA o0) (fB o0) (fC o0) (fD o0) (fE o0) (fF o0) (fG o0) (fH o0) (fI o0) (fJ o0) (fK o0) (fL o0) (fM o0) (fN o0) (fO o0) (fP o0) (fQ o0) (fR o0) (fS o0) (fT o0) (fU o0) (fV o0) (fW o0) (fX o0) (fY o0) (fZ o0) (fa o0) (fb o0) (fd o0) (fh o0) (fi o0) (fq o0) (fu o0) (fy o0) (fz o0) (fxA o0) a0_36 a0_37 a0_38 a0_39 a0_40 a0_41 a0_42 (fxI o0) (fxJ o0) (fxK o0) (fxL o0) (fxM o0)
def H0x10 (s : List Int32) (o0 : Ob) (a0_36 a0_37 : Int32) (a0_38 a0_39 : Int32) (a0_40 a0_41 : Int32) (a0_42 a0_43 : Int32) : QHeap := H0v s (fA o0) (fB o0) (fC o0) (fD o0) (fE o0) (fF o0) (fG o0) (fH o0) (fI o0) (fJ o0) (fK o0) (fL o0) (fM o0) (fN o0) (fO o0) (fP o0) (fQ o0) (fR o0) (fS o0) (fT o0) (fU o0) (fV o0) (fW o0) (fX o0) (fY o0) (fZ o0) (fa o0) (fb o0) (fd o0) (fh o0) (fi o0) (fq o0) (fu o0) (fy o0) (fz o0) (fxA o0) a0_36 a0_37 a0_38 a0_39 a0_40 a0_41 a0_42 a0_43 (fxJ o0) (fxK o0) (fxL o0) (fxM o0)
def H0x11 (s : List Int32) (o0 : Ob) (a0_36 a0_37 : Int32) (a0_38 a0_39 : Int32) (a0_40 a0_41 : Int32) (a0_42 a0_43 a0_44 : Int32) : QHeap := H0v s (fA o0) (fB o0) (fC o0) (fD o0) (fE o0) (fF o0) (fG o0) (fH o0) (fI o0) (fJ o0) (fK o0) (fL o0) (fM o0) (fN o0) (fO o0) (fP o0) (fQ o0) (fR o0) (fS o0) (fT o0) (fU o0) (fV o0) (fW o0) (fX o0) (fY o0) (fZ o0) (fa o0) (fb o0) (fd o0) (fh o0) (fi o0) (fq o0) (fu o0) (fy o0) (fz o0) (fxA o0) a0_36 a0_37 a0_38 a0_39 a0_40 a0_41 a0_42 a0_43 a0_44 (fxK o0) (fxL o0) (fxM o0)
def H0x12 (s : List Int32) (o0 : Ob) (a0_36 a0_37 : Int32) (a0_38 a0_39 : Int32) (a0_40 a0_41 : Int32) (a0_42 a0_43 : Int32) (a0_44 a0_45 : Int32) : QHeap := H0v s (fA o0) (fB o0) (fC o0) (fD o0) (fE o0) (fF o0) (fG o0) (fH o0) (fI o0) (fJ o0) (fK o0) (fL o0) (fM o0) (fN o0) (fO o0) (fP o0) (fQ o0) (fR o0) (fS o0) (fT o0) (fU o0) (fV o0) (fW o0) (fX o0) (fY o0) (fZ o0) (fa o0) (fb o0) (fd o0) (fh o0) (fi o0) (fq o0) (fu o0) (fy o0) (fz o0) (fxA o0) a0_36 a0_37 a0_38 a0_39 a0_40 a0_41 a0_42 a0_43 a0_44 a0_45 (fxL o0) (fxM o0)
def H0x13 (s : List Int32) (o0 : Ob) (a0_36 a0_37 : Int32) (a0_38 a0_39 : Int32) (a0_40 a0_41 : Int32) (a0_42 a0_43 : Int32) (a0_44 a0_45 a0_46 : Int32) : QHeap := H0v s (fA o0) (fB o0) (fC o0) (fD o0) (fE o0) (fF o0) (fG o0) (fH o0) (fI o0) (fJ o0) (fK o0) (fL o0) (fM o0) (fN o0) (fO o0) (fP o0) (fQ o0) (fR o0) (fS o0) (fT o0) (fU o0) (fV o0) (fW o0) (fX o0) (fY o0) (fZ o0) (fa o0) (fb o0) (fd o0) (fh o0) (fi o0) (fq o0) (fu o0) (fy o0) (fz o0) (fxA o0) a0_36 a0_37 a0_38 a0_39 a0_40 a0_41 a0_42 a0_43 a0_44 a0_45 a0_46 (fxM o0)
def H0x14 (s : List Int32) (o0 : Ob) (a0_36 a0_37 : Int32) (a0_38 a0_39 : Int32) (a0_40 a0_41 : Int32) (a0_42 a0_43 : Int32) (a0_44 a0_45 : Int32) (a0_46 a0_47 : Int32) : QHeap := H0v s (fA o0) (fB o0) (fC o0) (fD o0) (fE o0) (fF o0) (fG o0) (fH o0) (fI o0) (fJ o0) (fK o0) (fL o0) (fM o0) (fN o0) (fO o0) (fP o0) (fQ o0) (fR o0) (fS o0) (fT o0) (fU o0) (fV o0) (fW o0) (fX o0) (fY o0) (fZ o0) (fa o0) (fb o0) (fd o0) (fh o0) (fi o0) (fq o0) (fu o0) (fy o0) (fz o0) (fxA o0) a0_36 a0_37 a0_38 a0_39 a0_40 a0_41 a0_42 a0_43 a0_44 a0_45 a0_46 a0_47
/-- reset()V -/
def F3 (o : Ob) : Option (Ob) :=
 some (sxM (sxL (sxK (sxJ (sxI (sxH (sxG (sxF (sxE (sxD (sxC (sxB o (0:Int32)) (0:Int32)) (0:Int32)) (0:Int32)) (0:Int32)) (0:Int32)) (0:Int32)) (0:Int32)) (0:Int32)) (0:Int32)) (0:Int32)) (0:Int32))
theorem tF3 (Ad : QAd n0 ad) (W : QW Z a0) (s : List Int32) (o : Ob) {r : Ob} (h : F3 o = some r) : QTri l Z n0 ad 3 (0, qentry [.ref 1] (pMaxL 3), [], (H0 s o)) (none : Option Value) (H0 s r) := by
 unfold F3 at h
 refine yS Ad W 3 (5, [vR 1], [], (H0x3 s o (0:Int32))) rfl ?_
 refine yS Ad W 3 (10, [vR 1], [], (H0x4 s o (0:Int32) (0:Int32))) rfl ?_
 refine yS Ad W 3 (15, [vR 1], [], (H0x5 s o (0:Int32) (0:Int32) (0:Int32))) rfl ?_
 refine yS Ad W 3 (20, [vR 1], [], (H0x6 s o (0:Int32) (0:Int32) (0:Int32) (0:Int32))) rfl ?_
 refine yS Ad W 3 (25, [vR 1], [], (H0x7 s o (0:Int32) (0:Int32) (0:Int32) (0:Int32) (0:Int32))) rfl ?_
 refine yS Ad W 3 (30, [vR 1], [], (H0x8 s o (0:Int32) (0:Int32) (0:Int32) (0:Int32) (0:Int32) (0:Int32))) rfl ?_
 refine yS Ad W 3 (35, [vR 1], [], (H0x9 s o (0:Int32) (0:Int32) (0:Int32) (0:Int32) (0:Int32) (0:Int32) (0:Int32))) rfl ?_
 refine yS Ad W 3 (40, [vR 1], [], (H0x10 s o (0:Int32) (0:Int32) (0:Int32) (0:Int32) (0:Int32) (0:Int32) (0:Int32) (0:Int32))) rfl ?_
 refine yS Ad W 3 (45, [vR 1], [], (H0x11 s o (0:Int32) (0:Int32) (0:Int32) (0:Int32) (0:Int32) (0:Int32) (0:Int32) (0:Int32) (0:Int32))) rfl ?_
 refine yS Ad W 3 (50, [vR 1], [], (H0x12 s o (0:Int32) (0:Int32) (0:Int32) (0:Int32) (0:Int32) (0:Int32) (0:Int32) (0:Int32) (0:Int32) (0:Int32))) rfl ?_
 refine yS Ad W 3 (55, [vR 1], [], (H0x13 s o (0:Int32) (0:Int32) (0:Int32) (0:Int32) (0:Int32) (0:Int32) (0:Int32) (0:Int32) (0:Int32) (0:Int32) (0:Int32))) rfl ?_
 refine yS Ad W 3 (60, [vR 1], [], (H0x14 s o (0:Int32) (0:Int32) (0:Int32) (0:Int32) (0:Int32) (0:Int32) (0:Int32) (0:Int32) (0:Int32) (0:Int32) (0:Int32) (0:Int32))) rfl ?_
 have E6 : ((H0x14 s o (0:Int32) (0:Int32) (0:Int32) (0:Int32) (0:Int32) (0:Int32) (0:Int32) (0:Int32) (0:Int32) (0:Int32) (0:Int32) (0:Int32)) : QHeap) = (H0 s (sxM (sxL (sxK (sxJ (sxI (sxH (sxG (sxF (sxE (sxD (sxC (sxB o (0:Int32)) (0:Int32)) (0:Int32)) (0:Int32)) (0:Int32)) (0:Int32)) (0:Int32)) (0:Int32)) (0:Int32)) (0:Int32)) (0:Int32)) (0:Int32))) := by simp only [fs, H0, H0v, H0x14, sxB, sxC, sxD, sxE, sxF, sxG, sxH, sxI, sxJ, sxK, sxL, sxM]
 rw [E6]
 obtain rfl := sj h
 exact ret0 rfl rfl
/-- init(II)V -/
def F1 (x1 x2 : Int32) : Option (Ob) :=
 (F2 x1 (1:Int32) (64:Int32)).bind fun r3 => (F2 x2 (1:Int32) (16:Int32)).bind fun r4 => (F3 (sxA (sz (sy (su (sq (si (sh (sd (sb (sa (sZ (sY (sX (sW (sV (sU (sT (sS (sR (sQ (sP (sO (sN (sM (sL (sK (sJ (sI (sH (sG (sF (sE (sD (sC (sB (sA ob0 (0:Int32)) (1:Int32)) (2:Int32)) (3:Int32)) (4:Int32)) (64:Int32)) (16:Int32)) (64:Int32)) (4:Int32)) (256:Int32)) (64:Int32)) (3:Int32)) (4294967295 : Int64)) (2147483647:Int32)) (List.replicate 64 0)) (List.replicate 64 0)) (List.replicate 64 0)) (List.replicate 64 0)) (List.replicate 65 0)) (List.replicate 65 0)) (List.replicate 64 0)) (List.replicate 64 0)) (List.replicate 160 0)) (List.replicate 160 0)) (List.replicate 160 0)) (List.replicate 160 0)) (List.replicate 160 0)) (List.replicate 256 0)) (List.replicate 192 0)) (List.replicate 192 0)) (List.replicate 130 0)) (List.replicate 130 0)) (List.replicate 130 0)) (List.replicate 130 0)) r3) r4)).bind fun r7 => some r7
theorem tF1 (Ad : QAd n0 ad) (W : QW Z a0) (s : List Int32) (x1 x2 : Int32) {r : Ob} (h : F1 x1 x2 = some r) : QTri l Z n0 ad 1 (0, qentry [.ref 1, .int x1, .int x2] (pMaxL 1), [], [iC s, .inl [.int (fA ob0), .int (fB ob0), .int (fC ob0), .int (fD ob0), .int (fE ob0), .int (fF ob0), .int (fG ob0), .int (fH ob0), .int (fI ob0), .int (fJ ob0), .int (fK ob0), .int (fL ob0), .long (fM ob0), .int (fN ob0), .null, .null, .null, .null, .null, .null, .null, .null, .null, .null, .null, .null, .null, .null, .null, .null, .null, .null, .null, .null, .int (fz ob0), .int (fxA ob0), .int (fxB ob0), .int (fxC ob0), .int (fxD ob0), .int (fxE ob0), .int (fxF ob0), .int (fxG ob0), .int (fxH ob0), .int (fxI ob0), .int (fxJ ob0), .int (fxK ob0), .int (fxL ob0), .int (fxM ob0)]]) (none : Option Value) (H0 s r) := by
 unfold F1 at h
 refine yS Ad W 1 (1, [vR 1, vI x1, vI x2], [.ref 1], [iC s, .inl [.int (fA ob0), .int (fB ob0), .int (fC ob0), .int (fD ob0), .int (fE ob0), .int (fF ob0), .int (fG ob0), .int (fH ob0), .int (fI ob0), .int (fJ ob0), .int (fK ob0), .int (fL ob0), .long (fM ob0), .int (fN ob0), .null, .null, .null, .null, .null, .null, .null, .null, .null, .null, .null, .null, .null, .null, .null, .null, .null, .null, .null, .null, .int (fz ob0), .int (fxA ob0), .int (fxB ob0), .int (fxC ob0), .int (fxD ob0), .int (fxE ob0), .int (fxF ob0), .int (fxG ob0), .int (fxH ob0), .int (fxI ob0), .int (fxJ ob0), .int (fxK ob0), .int (fxL ob0), .int (fxM ob0)]]) rfl ?_
 refine callO W rfl rfl rfl ?_
 refine yS Ad W 3 (9, [vR 1, vI x1, vI x2], [], [iC s, .inl [.int 0, .int (fB ob0), .int (fC ob0), .int (fD ob0), .int (fE ob0), .int (fF ob0), .int (fG ob0), .int (fH ob0), .int (fI ob0), .int (fJ ob0), .int (fK ob0), .int (fL ob0), .long (fM ob0), .int (fN ob0), .null, .null, .null, .null, .null, .null, .null, .null, .null, .null, .null, .null, .null, .null, .null, .null, .null, .null, .null, .null, .int (fz ob0), .int (fxA ob0), .int (fxB ob0), .int (fxC ob0), .int (fxD ob0), .int (fxE ob0), .int (fxF ob0), .int (fxG ob0), .int (fxH ob0), .int (fxI ob0), .int (fxJ ob0), .int (fxK ob0), .int (fxL ob0), .int (fxM ob0)]]) rfl ?_
 refine yS Ad W 3 (14, [vR 1, vI x1, vI x2], [], [iC s, .inl [.int 0, .int 1, .int (fC ob0), .int (fD ob0), .int (fE ob0), .int (fF ob0), .int (fG ob0), .int (fH ob0), .int (fI ob0), .int (fJ ob0), .int (fK ob0), .int (fL ob0), .long (fM ob0), .int (fN ob0), .null, .null, .null, .null, .null, .null, .null, .null, .null, .null, .null, .null, .null, .null, .null, .null, .null, .null, .null, .null, .int (fz ob0), .int (fxA ob0), .int (fxB ob0), .int (fxC ob0), .int (fxD ob0), .int (fxE ob0), .int (fxF ob0), .int (fxG ob0), .int (fxH ob0), .int (fxI ob0), .int (fxJ ob0), .int (fxK ob0), .int (fxL ob0), .int (fxM ob0)]]) rfl ?_
 refine yS Ad W 3 (19, [vR 1, vI x1, vI x2], [], [iC s, .inl [.int 0, .int 1, .int 2, .int (fD ob0), .int (fE ob0), .int (fF ob0), .int (fG ob0), .int (fH ob0), .int (fI ob0), .int (fJ ob0), .int (fK ob0), .int (fL ob0), .long (fM ob0), .int (fN ob0), .null, .null, .null, .null, .null, .null, .null, .null, .null, .null, .null, .null, .null, .null, .null, .null, .null, .null, .null, .null, .int (fz ob0), .int (fxA ob0), .int (fxB ob0), .int (fxC ob0), .int (fxD ob0), .int (fxE ob0), .int (fxF ob0), .int (fxG ob0), .int (fxH ob0), .int (fxI ob0), .int (fxJ ob0), .int (fxK ob0), .int (fxL ob0), .int (fxM ob0)]]) rfl ?_
 refine yS Ad W 3 (24, [vR 1, vI x1, vI x2], [], [iC s, .inl [.int 0, .int 1, .int 2, .int 3, .int (fE ob0), .int (fF ob0), .int (fG ob0), .int (fH ob0), .int (fI ob0), .int (fJ ob0), .int (fK ob0), .int (fL ob0), .long (fM ob0), .int (fN ob0), .null, .null, .null, .null, .null, .null, .null, .null, .null, .null, .null, .null, .null, .null, .null, .null, .null, .null, .null, .null, .int (fz ob0), .int (fxA ob0), .int (fxB ob0), .int (fxC ob0), .int (fxD ob0), .int (fxE ob0), .int (fxF ob0), .int (fxG ob0), .int (fxH ob0), .int (fxI ob0), .int (fxJ ob0), .int (fxK ob0), .int (fxL ob0), .int (fxM ob0)]]) rfl ?_
 refine yS Ad W 3 (29, [vR 1, vI x1, vI x2], [], [iC s, .inl [.int 0, .int 1, .int 2, .int 3, .int 4, .int (fF ob0), .int (fG ob0), .int (fH ob0), .int (fI ob0), .int (fJ ob0), .int (fK ob0), .int (fL ob0), .long (fM ob0), .int (fN ob0), .null, .null, .null, .null, .null, .null, .null, .null, .null, .null, .null, .null, .null, .null, .null, .null, .null, .null, .null, .null, .int (fz ob0), .int (fxA ob0), .int (fxB ob0), .int (fxC ob0), .int (fxD ob0), .int (fxE ob0), .int (fxF ob0), .int (fxG ob0), .int (fxH ob0), .int (fxI ob0), .int (fxJ ob0), .int (fxK ob0), .int (fxL ob0), .int (fxM ob0)]]) rfl ?_
 refine yS Ad W 3 (35, [vR 1, vI x1, vI x2], [], [iC s, .inl [.int 0, .int 1, .int 2, .int 3, .int 4, .int 64, .int (fG ob0), .int (fH ob0), .int (fI ob0), .int (fJ ob0), .int (fK ob0), .int (fL ob0), .long (fM ob0), .int (fN ob0), .null, .null, .null, .null, .null, .null, .null, .null, .null, .null, .null, .null, .null, .null, .null, .null, .null, .null, .null, .null, .int (fz ob0), .int (fxA ob0), .int (fxB ob0), .int (fxC ob0), .int (fxD ob0), .int (fxE ob0), .int (fxF ob0), .int (fxG ob0), .int (fxH ob0), .int (fxI ob0), .int (fxJ ob0), .int (fxK ob0), .int (fxL ob0), .int (fxM ob0)]]) rfl ?_
 refine yS Ad W 3 (41, [vR 1, vI x1, vI x2], [], [iC s, .inl [.int 0, .int 1, .int 2, .int 3, .int 4, .int 64, .int 16, .int (fH ob0), .int (fI ob0), .int (fJ ob0), .int (fK ob0), .int (fL ob0), .long (fM ob0), .int (fN ob0), .null, .null, .null, .null, .null, .null, .null, .null, .null, .null, .null, .null, .null, .null, .null, .null, .null, .null, .null, .null, .int (fz ob0), .int (fxA ob0), .int (fxB ob0), .int (fxC ob0), .int (fxD ob0), .int (fxE ob0), .int (fxF ob0), .int (fxG ob0), .int (fxH ob0), .int (fxI ob0), .int (fxJ ob0), .int (fxK ob0), .int (fxL ob0), .int (fxM ob0)]]) rfl ?_
 refine yS Ad W 3 (47, [vR 1, vI x1, vI x2], [], [iC s, .inl [.int 0, .int 1, .int 2, .int 3, .int 4, .int 64, .int 16, .int 64, .int (fI ob0), .int (fJ ob0), .int (fK ob0), .int (fL ob0), .long (fM ob0), .int (fN ob0), .null, .null, .null, .null, .null, .null, .null, .null, .null, .null, .null, .null, .null, .null, .null, .null, .null, .null, .null, .null, .int (fz ob0), .int (fxA ob0), .int (fxB ob0), .int (fxC ob0), .int (fxD ob0), .int (fxE ob0), .int (fxF ob0), .int (fxG ob0), .int (fxH ob0), .int (fxI ob0), .int (fxJ ob0), .int (fxK ob0), .int (fxL ob0), .int (fxM ob0)]]) rfl ?_
 refine yS Ad W 3 (52, [vR 1, vI x1, vI x2], [], [iC s, .inl [.int 0, .int 1, .int 2, .int 3, .int 4, .int 64, .int 16, .int 64, .int 4, .int (fJ ob0), .int (fK ob0), .int (fL ob0), .long (fM ob0), .int (fN ob0), .null, .null, .null, .null, .null, .null, .null, .null, .null, .null, .null, .null, .null, .null, .null, .null, .null, .null, .null, .null, .int (fz ob0), .int (fxA ob0), .int (fxB ob0), .int (fxC ob0), .int (fxD ob0), .int (fxE ob0), .int (fxF ob0), .int (fxG ob0), .int (fxH ob0), .int (fxI ob0), .int (fxJ ob0), .int (fxK ob0), .int (fxL ob0), .int (fxM ob0)]]) rfl ?_
 refine yS Ad W 3 (59, [vR 1, vI x1, vI x2], [], [iC s, .inl [.int 0, .int 1, .int 2, .int 3, .int 4, .int 64, .int 16, .int 64, .int 4, .int 256, .int (fK ob0), .int (fL ob0), .long (fM ob0), .int (fN ob0), .null, .null, .null, .null, .null, .null, .null, .null, .null, .null, .null, .null, .null, .null, .null, .null, .null, .null, .null, .null, .int (fz ob0), .int (fxA ob0), .int (fxB ob0), .int (fxC ob0), .int (fxD ob0), .int (fxE ob0), .int (fxF ob0), .int (fxG ob0), .int (fxH ob0), .int (fxI ob0), .int (fxJ ob0), .int (fxK ob0), .int (fxL ob0), .int (fxM ob0)]]) rfl ?_
 refine yS Ad W 3 (65, [vR 1, vI x1, vI x2], [], [iC s, .inl [.int 0, .int 1, .int 2, .int 3, .int 4, .int 64, .int 16, .int 64, .int 4, .int 256, .int 64, .int (fL ob0), .long (fM ob0), .int (fN ob0), .null, .null, .null, .null, .null, .null, .null, .null, .null, .null, .null, .null, .null, .null, .null, .null, .null, .null, .null, .null, .int (fz ob0), .int (fxA ob0), .int (fxB ob0), .int (fxC ob0), .int (fxD ob0), .int (fxE ob0), .int (fxF ob0), .int (fxG ob0), .int (fxH ob0), .int (fxI ob0), .int (fxJ ob0), .int (fxK ob0), .int (fxL ob0), .int (fxM ob0)]]) rfl ?_
 refine yS Ad W 3 (70, [vR 1, vI x1, vI x2], [], [iC s, .inl [.int 0, .int 1, .int 2, .int 3, .int 4, .int 64, .int 16, .int 64, .int 4, .int 256, .int 64, .int 3, .long (fM ob0), .int (fN ob0), .null, .null, .null, .null, .null, .null, .null, .null, .null, .null, .null, .null, .null, .null, .null, .null, .null, .null, .null, .null, .int (fz ob0), .int (fxA ob0), .int (fxB ob0), .int (fxC ob0), .int (fxD ob0), .int (fxE ob0), .int (fxF ob0), .int (fxG ob0), .int (fxH ob0), .int (fxI ob0), .int (fxJ ob0), .int (fxK ob0), .int (fxL ob0), .int (fxM ob0)]]) rfl ?_
 refine yS Ad W 3 (77, [vR 1, vI x1, vI x2], [], [iC s, .inl [.int 0, .int 1, .int 2, .int 3, .int 4, .int 64, .int 16, .int 64, .int 4, .int 256, .int 64, .int 3, .long (4294967295 : Int64), .int (fN ob0), .null, .null, .null, .null, .null, .null, .null, .null, .null, .null, .null, .null, .null, .null, .null, .null, .null, .null, .null, .null, .int (fz ob0), .int (fxA ob0), .int (fxB ob0), .int (fxC ob0), .int (fxD ob0), .int (fxE ob0), .int (fxF ob0), .int (fxG ob0), .int (fxH ob0), .int (fxI ob0), .int (fxJ ob0), .int (fxK ob0), .int (fxL ob0), .int (fxM ob0)]]) rfl ?_
 refine yS Ad W 3 (83, [vR 1, vI x1, vI x2], [], [iC s, .inl [.int 0, .int 1, .int 2, .int 3, .int 4, .int 64, .int 16, .int 64, .int 4, .int 256, .int 64, .int 3, .long (4294967295 : Int64), .int 2147483647, .null, .null, .null, .null, .null, .null, .null, .null, .null, .null, .null, .null, .null, .null, .null, .null, .null, .null, .null, .null, .int (fz ob0), .int (fxA ob0), .int (fxB ob0), .int (fxC ob0), .int (fxD ob0), .int (fxE ob0), .int (fxF ob0), .int (fxG ob0), .int (fxH ob0), .int (fxI ob0), .int (fxJ ob0), .int (fxK ob0), .int (fxL ob0), .int (fxM ob0)]]) rfl ?_
 refine yS Ad W 3 (88, [vR 1, vI x1, vI x2], [.ref 2, .ref 1], [iC s, .inl [.int 0, .int 1, .int 2, .int 3, .int 4, .int 64, .int 16, .int 64, .int 4, .int 256, .int 64, .int 3, .long (4294967295 : Int64), .int 2147483647, .null, .null, .null, .null, .null, .null, .null, .null, .null, .null, .null, .null, .null, .null, .null, .null, .null, .null, .null, .null, .int (fz ob0), .int (fxA ob0), .int (fxB ob0), .int (fxC ob0), .int (fxD ob0), .int (fxE ob0), .int (fxF ob0), .int (fxG ob0), .int (fxH ob0), .int (fxI ob0), .int (fxJ ob0), .int (fxK ob0), .int (fxL ob0), .int (fxM ob0)], iC (List.replicate 64 0)]) rfl ?_
 refine yS Ad W 1 (91, [vR 1, vI x1, vI x2], [], [iC s, .inl [.int 0, .int 1, .int 2, .int 3, .int 4, .int 64, .int 16, .int 64, .int 4, .int 256, .int 64, .int 3, .long (4294967295 : Int64), .int 2147483647, .ref 2, .null, .null, .null, .null, .null, .null, .null, .null, .null, .null, .null, .null, .null, .null, .null, .null, .null, .null, .null, .int (fz ob0), .int (fxA ob0), .int (fxB ob0), .int (fxC ob0), .int (fxD ob0), .int (fxE ob0), .int (fxF ob0), .int (fxG ob0), .int (fxH ob0), .int (fxI ob0), .int (fxJ ob0), .int (fxK ob0), .int (fxL ob0), .int (fxM ob0)], iC (List.replicate 64 0)]) rfl ?_
 refine yS Ad W 3 (96, [vR 1, vI x1, vI x2], [.ref 3, .ref 1], [iC s, .inl [.int 0, .int 1, .int 2, .int 3, .int 4, .int 64, .int 16, .int 64, .int 4, .int 256, .int 64, .int 3, .long (4294967295 : Int64), .int 2147483647, .ref 2, .null, .null, .null, .null, .null, .null, .null, .null, .null, .null, .null, .null, .null, .null, .null, .null, .null, .null, .null, .int (fz ob0), .int (fxA ob0), .int (fxB ob0), .int (fxC ob0), .int (fxD ob0), .int (fxE ob0), .int (fxF ob0), .int (fxG ob0), .int (fxH ob0), .int (fxI ob0), .int (fxJ ob0), .int (fxK ob0), .int (fxL ob0), .int (fxM ob0)], iC (List.replicate 64 0), .inr (.inl (.byte, (List.replicate 64 0)))]) rfl ?_
 refine yS Ad W 1 (99, [vR 1, vI x1, vI x2], [], [iC s, .inl [.int 0, .int 1, .int 2, .int 3, .int 4, .int 64, .int 16, .int 64, .int 4, .int 256, .int 64, .int 3, .long (4294967295 : Int64), .int 2147483647, .ref 2, .ref 3, .null, .null, .null, .null, .null, .null, .null, .null, .null, .null, .null, .null, .null, .null, .null, .null, .null, .null, .int (fz ob0), .int (fxA ob0), .int (fxB ob0), .int (fxC ob0), .int (fxD ob0), .int (fxE ob0), .int (fxF ob0), .int (fxG ob0), .int (fxH ob0), .int (fxI ob0), .int (fxJ ob0), .int (fxK ob0), .int (fxL ob0), .int (fxM ob0)], iC (List.replicate 64 0), .inr (.inl (.byte, (List.replicate 64 0)))]) rfl ?_
 refine yS Ad W 3 (104, [vR 1, vI x1, vI x2], [.ref 4, .ref 1], [iC s, .inl [.int 0, .int 1, .int 2, .int 3, .int 4, .int 64, .int 16, .int 64, .int 4, .int 256, .int 64, .int 3, .long (4294967295 : Int64), .int 2147483647, .ref 2, .ref 3, .null, .null, .null, .null, .null, .null, .null, .null, .null, .null, .null, .null, .null, .null, .null, .null, .null, .null, .int (fz ob0), .int (fxA ob0), .int (fxB ob0), .int (fxC ob0), .int (fxD ob0), .int (fxE ob0), .int (fxF ob0), .int (fxG ob0), .int (fxH ob0), .int (fxI ob0), .int (fxJ ob0), .int (fxK ob0), .int (fxL ob0), .int (fxM ob0)], iC (List.replicate 64 0), .inr (.inl (.byte, (List.replicate 64 0))), iC (List.replicate 64 0)]) rfl ?_
 refine yS Ad W 1 (107, [vR 1, vI x1, vI x2], [], [iC s, .inl [.int 0, .int 1, .int 2, .int 3, .int 4, .int 64, .int 16, .int 64, .int 4, .int 256, .int 64, .int 3, .long (4294967295 : Int64), .int 2147483647, .ref 2, .ref 3, .ref 4, .null, .null, .null, .null, .null, .null, .null, .null, .null, .null, .null, .null, .null, .null, .null, .null, .null, .int (fz ob0), .int (fxA ob0), .int (fxB ob0), .int (fxC ob0), .int (fxD ob0), .int (fxE ob0), .int (fxF ob0), .int (fxG ob0), .int (fxH ob0), .int (fxI ob0), .int (fxJ ob0), .int (fxK ob0), .int (fxL ob0), .int (fxM ob0)], iC (List.replicate 64 0), .inr (.inl (.byte, (List.replicate 64 0))), iC (List.replicate 64 0)]) rfl ?_
 refine yS Ad W 3 (112, [vR 1, vI x1, vI x2], [.ref 5, .ref 1], [iC s, .inl [.int 0, .int 1, .int 2, .int 3, .int 4, .int 64, .int 16, .int 64, .int 4, .int 256, .int 64, .int 3, .long (4294967295 : Int64), .int 2147483647, .ref 2, .ref 3, .ref 4, .null, .null, .null, .null, .null, .null, .null, .null, .null, .null, .null, .null, .null, .null, .null, .null, .null, .int (fz ob0), .int (fxA ob0), .int (fxB ob0), .int (fxC ob0), .int (fxD ob0), .int (fxE ob0), .int (fxF ob0), .int (fxG ob0), .int (fxH ob0), .int (fxI ob0), .int (fxJ ob0), .int (fxK ob0), .int (fxL ob0), .int (fxM ob0)], iC (List.replicate 64 0), .inr (.inl (.byte, (List.replicate 64 0))), iC (List.replicate 64 0), .inr (.inl (.byte, (List.replicate 64 0)))]) rfl ?_
 refine yS Ad W 1 (115, [vR 1, vI x1, vI x2], [], [iC s, .inl [.int 0, .int 1, .int 2, .int 3, .int 4, .int 64, .int 16, .int 64, .int 4, .int 256, .int 64, .int 3, .long (4294967295 : Int64), .int 2147483647, .ref 2, .ref 3, .ref 4, .ref 5, .null, .null, .null, .null, .null, .null, .null, .null, .null, .null, .null, .null, .null, .null, .null, .null, .int (fz ob0), .int (fxA ob0), .int (fxB ob0), .int (fxC ob0), .int (fxD ob0), .int (fxE ob0), .int (fxF ob0), .int (fxG ob0), .int (fxH ob0), .int (fxI ob0), .int (fxJ ob0), .int (fxK ob0), .int (fxL ob0), .int (fxM ob0)], iC (List.replicate 64 0), .inr (.inl (.byte, (List.replicate 64 0))), iC (List.replicate 64 0), .inr (.inl (.byte, (List.replicate 64 0)))]) rfl ?_
 refine yS Ad W 3 (120, [vR 1, vI x1, vI x2], [.ref 6, .ref 1], [iC s, .inl [.int 0, .int 1, .int 2, .int 3, .int 4, .int 64, .int 16, .int 64, .int 4, .int 256, .int 64, .int 3, .long (4294967295 : Int64), .int 2147483647, .ref 2, .ref 3, .ref 4, .ref 5, .null, .null, .null, .null, .null, .null, .null, .null, .null, .null, .null, .null, .null, .null, .null, .null, .int (fz ob0), .int (fxA ob0), .int (fxB ob0), .int (fxC ob0), .int (fxD ob0), .int (fxE ob0), .int (fxF ob0), .int (fxG ob0), .int (fxH ob0), .int (fxI ob0), .int (fxJ ob0), .int (fxK ob0), .int (fxL ob0), .int (fxM ob0)], iC (List.replicate 64 0), .inr (.inl (.byte, (List.replicate 64 0))), iC (List.replicate 64 0), .inr (.inl (.byte, (List.replicate 64 0))), iC (List.replicate 65 0)]) rfl ?_
 refine yS Ad W 1 (123, [vR 1, vI x1, vI x2], [], [iC s, .inl [.int 0, .int 1, .int 2, .int 3, .int 4, .int 64, .int 16, .int 64, .int 4, .int 256, .int 64, .int 3, .long (4294967295 : Int64), .int 2147483647, .ref 2, .ref 3, .ref 4, .ref 5, .ref 6, .null, .null, .null, .null, .null, .null, .null, .null, .null, .null, .null, .null, .null, .null, .null, .int (fz ob0), .int (fxA ob0), .int (fxB ob0), .int (fxC ob0), .int (fxD ob0), .int (fxE ob0), .int (fxF ob0), .int (fxG ob0), .int (fxH ob0), .int (fxI ob0), .int (fxJ ob0), .int (fxK ob0), .int (fxL ob0), .int (fxM ob0)], iC (List.replicate 64 0), .inr (.inl (.byte, (List.replicate 64 0))), iC (List.replicate 64 0), .inr (.inl (.byte, (List.replicate 64 0))), iC (List.replicate 65 0)]) rfl ?_
 refine yS Ad W 3 (128, [vR 1, vI x1, vI x2], [.ref 7, .ref 1], [iC s, .inl [.int 0, .int 1, .int 2, .int 3, .int 4, .int 64, .int 16, .int 64, .int 4, .int 256, .int 64, .int 3, .long (4294967295 : Int64), .int 2147483647, .ref 2, .ref 3, .ref 4, .ref 5, .ref 6, .null, .null, .null, .null, .null, .null, .null, .null, .null, .null, .null, .null, .null, .null, .null, .int (fz ob0), .int (fxA ob0), .int (fxB ob0), .int (fxC ob0), .int (fxD ob0), .int (fxE ob0), .int (fxF ob0), .int (fxG ob0), .int (fxH ob0), .int (fxI ob0), .int (fxJ ob0), .int (fxK ob0), .int (fxL ob0), .int (fxM ob0)], iC (List.replicate 64 0), .inr (.inl (.byte, (List.replicate 64 0))), iC (List.replicate 64 0), .inr (.inl (.byte, (List.replicate 64 0))), iC (List.replicate 65 0), iC (List.replicate 65 0)]) rfl ?_
 refine yS Ad W 1 (131, [vR 1, vI x1, vI x2], [], [iC s, .inl [.int 0, .int 1, .int 2, .int 3, .int 4, .int 64, .int 16, .int 64, .int 4, .int 256, .int 64, .int 3, .long (4294967295 : Int64), .int 2147483647, .ref 2, .ref 3, .ref 4, .ref 5, .ref 6, .ref 7, .null, .null, .null, .null, .null, .null, .null, .null, .null, .null, .null, .null, .null, .null, .int (fz ob0), .int (fxA ob0), .int (fxB ob0), .int (fxC ob0), .int (fxD ob0), .int (fxE ob0), .int (fxF ob0), .int (fxG ob0), .int (fxH ob0), .int (fxI ob0), .int (fxJ ob0), .int (fxK ob0), .int (fxL ob0), .int (fxM ob0)], iC (List.replicate 64 0), .inr (.inl (.byte, (List.replicate 64 0))), iC (List.replicate 64 0), .inr (.inl (.byte, (List.replicate 64 0))), iC (List.replicate 65 0), iC (List.replicate 65 0)]) rfl ?_
 refine yS Ad W 3 (136, [vR 1, vI x1, vI x2], [.ref 8, .ref 1], [iC s, .inl [.int 0, .int 1, .int 2, .int 3, .int 4, .int 64, .int 16, .int 64, .int 4, .int 256, .int 64, .int 3, .long (4294967295 : Int64), .int 2147483647, .ref 2, .ref 3, .ref 4, .ref 5, .ref 6, .ref 7, .null, .null, .null, .null, .null, .null, .null, .null, .null, .null, .null, .null, .null, .null, .int (fz ob0), .int (fxA ob0), .int (fxB ob0), .int (fxC ob0), .int (fxD ob0), .int (fxE ob0), .int (fxF ob0), .int (fxG ob0), .int (fxH ob0), .int (fxI ob0), .int (fxJ ob0), .int (fxK ob0), .int (fxL ob0), .int (fxM ob0)], iC (List.replicate 64 0), .inr (.inl (.byte, (List.replicate 64 0))), iC (List.replicate 64 0), .inr (.inl (.byte, (List.replicate 64 0))), iC (List.replicate 65 0), iC (List.replicate 65 0), iC (List.replicate 64 0)]) rfl ?_
 refine yS Ad W 1 (139, [vR 1, vI x1, vI x2], [], [iC s, .inl [.int 0, .int 1, .int 2, .int 3, .int 4, .int 64, .int 16, .int 64, .int 4, .int 256, .int 64, .int 3, .long (4294967295 : Int64), .int 2147483647, .ref 2, .ref 3, .ref 4, .ref 5, .ref 6, .ref 7, .ref 8, .null, .null, .null, .null, .null, .null, .null, .null, .null, .null, .null, .null, .null, .int (fz ob0), .int (fxA ob0), .int (fxB ob0), .int (fxC ob0), .int (fxD ob0), .int (fxE ob0), .int (fxF ob0), .int (fxG ob0), .int (fxH ob0), .int (fxI ob0), .int (fxJ ob0), .int (fxK ob0), .int (fxL ob0), .int (fxM ob0)], iC (List.replicate 64 0), .inr (.inl (.byte, (List.replicate 64 0))), iC (List.replicate 64 0), .inr (.inl (.byte, (List.replicate 64 0))), iC (List.replicate 65 0), iC (List.replicate 65 0), iC (List.replicate 64 0)]) rfl ?_
 refine yS Ad W 3 (144, [vR 1, vI x1, vI x2], [.ref 9, .ref 1], [iC s, .inl [.int 0, .int 1, .int 2, .int 3, .int 4, .int 64, .int 16, .int 64, .int 4, .int 256, .int 64, .int 3, .long (4294967295 : Int64), .int 2147483647, .ref 2, .ref 3, .ref 4, .ref 5, .ref 6, .ref 7, .ref 8, .null, .null, .null, .null, .null, .null, .null, .null, .null, .null, .null, .null, .null, .int (fz ob0), .int (fxA ob0), .int (fxB ob0), .int (fxC ob0), .int (fxD ob0), .int (fxE ob0), .int (fxF ob0), .int (fxG ob0), .int (fxH ob0), .int (fxI ob0), .int (fxJ ob0), .int (fxK ob0), .int (fxL ob0), .int (fxM ob0)], iC (List.replicate 64 0), .inr (.inl (.byte, (List.replicate 64 0))), iC (List.replicate 64 0), .inr (.inl (.byte, (List.replicate 64 0))), iC (List.replicate 65 0), iC (List.replicate 65 0), iC (List.replicate 64 0), iC (List.replicate 64 0)]) rfl ?_
 refine yS Ad W 1 (147, [vR 1, vI x1, vI x2], [], [iC s, .inl [.int 0, .int 1, .int 2, .int 3, .int 4, .int 64, .int 16, .int 64, .int 4, .int 256, .int 64, .int 3, .long (4294967295 : Int64), .int 2147483647, .ref 2, .ref 3, .ref 4, .ref 5, .ref 6, .ref 7, .ref 8, .ref 9, .null, .null, .null, .null, .null, .null, .null, .null, .null, .null, .null, .null, .int (fz ob0), .int (fxA ob0), .int (fxB ob0), .int (fxC ob0), .int (fxD ob0), .int (fxE ob0), .int (fxF ob0), .int (fxG ob0), .int (fxH ob0), .int (fxI ob0), .int (fxJ ob0), .int (fxK ob0), .int (fxL ob0), .int (fxM ob0)], iC (List.replicate 64 0), .inr (.inl (.byte, (List.replicate 64 0))), iC (List.replicate 64 0), .inr (.inl (.byte, (List.replicate 64 0))), iC (List.replicate 65 0), iC (List.replicate 65 0), iC (List.replicate 64 0), iC (List.replicate 64 0)]) rfl ?_
 refine yS Ad W 3 (153, [vR 1, vI x1, vI x2], [.ref 10, .ref 1], [iC s, .inl [.int 0, .int 1, .int 2, .int 3, .int 4, .int 64, .int 16, .int 64, .int 4, .int 256, .int 64, .int 3, .long (4294967295 : Int64), .int 2147483647, .ref 2, .ref 3, .ref 4, .ref 5, .ref 6, .ref 7, .ref 8, .ref 9, .null, .null, .null, .null, .null, .null, .null, .null, .null, .null, .null, .null, .int (fz ob0), .int (fxA ob0), .int (fxB ob0), .int (fxC ob0), .int (fxD ob0), .int (fxE ob0), .int (fxF ob0), .int (fxG ob0), .int (fxH ob0), .int (fxI ob0), .int (fxJ ob0), .int (fxK ob0), .int (fxL ob0), .int (fxM ob0)], iC (List.replicate 64 0), .inr (.inl (.byte, (List.replicate 64 0))), iC (List.replicate 64 0), .inr (.inl (.byte, (List.replicate 64 0))), iC (List.replicate 65 0), iC (List.replicate 65 0), iC (List.replicate 64 0), iC (List.replicate 64 0), .inr (.inl (.byte, (List.replicate 160 0)))]) rfl ?_
 refine yS Ad W 1 (156, [vR 1, vI x1, vI x2], [], [iC s, .inl [.int 0, .int 1, .int 2, .int 3, .int 4, .int 64, .int 16, .int 64, .int 4, .int 256, .int 64, .int 3, .long (4294967295 : Int64), .int 2147483647, .ref 2, .ref 3, .ref 4, .ref 5, .ref 6, .ref 7, .ref 8, .ref 9, .ref 10, .null, .null, .null, .null, .null, .null, .null, .null, .null, .null, .null, .int (fz ob0), .int (fxA ob0), .int (fxB ob0), .int (fxC ob0), .int (fxD ob0), .int (fxE ob0), .int (fxF ob0), .int (fxG ob0), .int (fxH ob0), .int (fxI ob0), .int (fxJ ob0), .int (fxK ob0), .int (fxL ob0), .int (fxM ob0)], iC (List.replicate 64 0), .inr (.inl (.byte, (List.replicate 64 0))), iC (List.replicate 64 0), .inr (.inl (.byte, (List.replicate 64 0))), iC (List.replicate 65 0), iC (List.replicate 65 0), iC (List.replicate 64 0), iC (List.replicate 64 0), .inr (.inl (.byte, (List.replicate 160 0)))]) rfl ?_
 refine yS Ad W 3 (162, [vR 1, vI x1, vI x2], [.ref 11, .ref 1], [iC s, .inl [.int 0, .int 1, .int 2, .int 3, .int 4, .int 64, .int 16, .int 64, .int 4, .int 256, .int 64, .int 3, .long (4294967295 : Int64), .int 2147483647, .ref 2, .ref 3, .ref 4, .ref 5, .ref 6, .ref 7, .ref 8, .ref 9, .ref 10, .null, .null, .null, .null, .null, .null, .null, .null, .null, .null, .null, .int (fz ob0), .int (fxA ob0), .int (fxB ob0), .int (fxC ob0), .int (fxD ob0), .int (fxE ob0), .int (fxF ob0), .int (fxG ob0), .int (fxH ob0), .int (fxI ob0), .int (fxJ ob0), .int (fxK ob0), .int (fxL ob0), .int (fxM ob0)], iC (List.replicate 64 0), .inr (.inl (.byte, (List.replicate 64 0))), iC (List.replicate 64 0), .inr (.inl (.byte, (List.replicate 64 0))), iC (List.replicate 65 0), iC (List.replicate 65 0), iC (List.replicate 64 0), iC (List.replicate 64 0), .inr (.inl (.byte, (List.replicate 160 0))), iC (List.replicate 160 0)]) rfl ?_
 refine yS Ad W 1 (165, [vR 1, vI x1, vI x2], [], [iC s, .inl [.int 0, .int 1, .int 2, .int 3, .int 4, .int 64, .int 16, .int 64, .int 4, .int 256, .int 64, .int 3, .long (4294967295 : Int64), .int 2147483647, .ref 2, .ref 3, .ref 4, .ref 5, .ref 6, .ref 7, .ref 8, .ref 9, .ref 10, .ref 11, .null, .null, .null, .null, .null, .null, .null, .null, .null, .null, .int (fz ob0), .int (fxA ob0), .int (fxB ob0), .int (fxC ob0), .int (fxD ob0), .int (fxE ob0), .int (fxF ob0), .int (fxG ob0), .int (fxH ob0), .int (fxI ob0), .int (fxJ ob0), .int (fxK ob0), .int (fxL ob0), .int (fxM ob0)], iC (List.replicate 64 0), .inr (.inl (.byte, (List.replicate 64 0))), iC (List.replicate 64 0), .inr (.inl (.byte, (List.replicate 64 0))), iC (List.replicate 65 0), iC (List.replicate 65 0), iC (List.replicate 64 0), iC (List.replicate 64 0), .inr (.inl (.byte, (List.replicate 160 0))), iC (List.replicate 160 0)]) rfl ?_
 refine yS Ad W 3 (171, [vR 1, vI x1, vI x2], [.ref 12, .ref 1], [iC s, .inl [.int 0, .int 1, .int 2, .int 3, .int 4, .int 64, .int 16, .int 64, .int 4, .int 256, .int 64, .int 3, .long (4294967295 : Int64), .int 2147483647, .ref 2, .ref 3, .ref 4, .ref 5, .ref 6, .ref 7, .ref 8, .ref 9, .ref 10, .ref 11, .null, .null, .null, .null, .null, .null, .null, .null, .null, .null, .int (fz ob0), .int (fxA ob0), .int (fxB ob0), .int (fxC ob0), .int (fxD ob0), .int (fxE ob0), .int (fxF ob0), .int (fxG ob0), .int (fxH ob0), .int (fxI ob0), .int (fxJ ob0), .int (fxK ob0), .int (fxL ob0), .int (fxM ob0)], iC (List.replicate 64 0), .inr (.inl (.byte, (List.replicate 64 0))), iC (List.replicate 64 0), .inr (.inl (.byte, (List.replicate 64 0))), iC (List.replicate 65 0), iC (List.replicate 65 0), iC (List.replicate 64 0), iC (List.replicate 64 0), .inr (.inl (.byte, (List.replicate 160 0))), iC (List.replicate 160 0), iC (List.replicate 160 0)]) rfl ?_
 refine yS Ad W 1 (174, [vR 1, vI x1, vI x2], [], [iC s, .inl [.int 0, .int 1, .int 2, .int 3, .int 4, .int 64, .int 16, .int 64, .int 4, .int 256, .int 64, .int 3, .long (4294967295 : Int64), .int 2147483647, .ref 2, .ref 3, .ref 4, .ref 5, .ref 6, .ref 7, .ref 8, .ref 9, .ref 10, .ref 11, .ref 12, .null, .null, .null, .null, .null, .null, .null, .null, .null, .int (fz ob0), .int (fxA ob0), .int (fxB ob0), .int (fxC ob0), .int (fxD ob0), .int (fxE ob0), .int (fxF ob0), .int (fxG ob0), .int (fxH ob0), .int (fxI ob0), .int (fxJ ob0), .int (fxK ob0), .int (fxL ob0), .int (fxM ob0)], iC (List.replicate 64 0), .inr (.inl (.byte, (List.replicate 64 0))), iC (List.replicate 64 0), .inr (.inl (.byte, (List.replicate 64 0))), iC (List.replicate 65 0), iC (List.replicate 65 0), iC (List.replicate 64 0), iC (List.replicate 64 0), .inr (.inl (.byte, (List.replicate 160 0))), iC (List.replicate 160 0), iC (List.replicate 160 0)]) rfl ?_
 refine yS Ad W 3 (180, [vR 1, vI x1, vI x2], [.ref 13, .ref 1], [iC s, .inl [.int 0, .int 1, .int 2, .int 3, .int 4, .int 64, .int 16, .int 64, .int 4, .int 256, .int 64, .int 3, .long (4294967295 : Int64), .int 2147483647, .ref 2, .ref 3, .ref 4, .ref 5, .ref 6, .ref 7, .ref 8, .ref 9, .ref 10, .ref 11, .ref 12, .null, .null, .null, .null, .null, .null, .null, .null, .null, .int (fz ob0), .int (fxA ob0), .int (fxB ob0), .int (fxC ob0), .int (fxD ob0), .int (fxE ob0), .int (fxF ob0), .int (fxG ob0), .int (fxH ob0), .int (fxI ob0), .int (fxJ ob0), .int (fxK ob0), .int (fxL ob0), .int (fxM ob0)], iC (List.replicate 64 0), .inr (.inl (.byte, (List.replicate 64 0))), iC (List.replicate 64 0), .inr (.inl (.byte, (List.replicate 64 0))), iC (List.replicate 65 0), iC (List.replicate 65 0), iC (List.replicate 64 0), iC (List.replicate 64 0), .inr (.inl (.byte, (List.replicate 160 0))), iC (List.replicate 160 0), iC (List.replicate 160 0), iC (List.replicate 160 0)]) rfl ?_
 refine yS Ad W 1 (183, [vR 1, vI x1, vI x2], [], [iC s, .inl [.int 0, .int 1, .int 2, .int 3, .int 4, .int 64, .int 16, .int 64, .int 4, .int 256, .int 64, .int 3, .long (4294967295 : Int64), .int 2147483647, .ref 2, .ref 3, .ref 4, .ref 5, .ref 6, .ref 7, .ref 8, .ref 9, .ref 10, .ref 11, .ref 12, .ref 13, .null, .null, .null, .null, .null, .null, .null, .null, .int (fz ob0), .int (fxA ob0), .int (fxB ob0), .int (fxC ob0), .int (fxD ob0), .int (fxE ob0), .int (fxF ob0), .int (fxG ob0), .int (fxH ob0), .int (fxI ob0), .int (fxJ ob0), .int (fxK ob0), .int (fxL ob0), .int (fxM ob0)], iC (List.replicate 64 0), .inr (.inl (.byte, (List.replicate 64 0))), iC (List.replicate 64 0), .inr (.inl (.byte, (List.replicate 64 0))), iC (List.replicate 65 0), iC (List.replicate 65 0), iC (List.replicate 64 0), iC (List.replicate 64 0), .inr (.inl (.byte, (List.replicate 160 0))), iC (List.replicate 160 0), iC (List.replicate 160 0), iC (List.replicate 160 0)]) rfl ?_
 refine yS Ad W 3 (189, [vR 1, vI x1, vI x2], [.ref 14, .ref 1], [iC s, .inl [.int 0, .int 1, .int 2, .int 3, .int 4, .int 64, .int 16, .int 64, .int 4, .int 256, .int 64, .int 3, .long (4294967295 : Int64), .int 2147483647, .ref 2, .ref 3, .ref 4, .ref 5, .ref 6, .ref 7, .ref 8, .ref 9, .ref 10, .ref 11, .ref 12, .ref 13, .null, .null, .null, .null, .null, .null, .null, .null, .int (fz ob0), .int (fxA ob0), .int (fxB ob0), .int (fxC ob0), .int (fxD ob0), .int (fxE ob0), .int (fxF ob0), .int (fxG ob0), .int (fxH ob0), .int (fxI ob0), .int (fxJ ob0), .int (fxK ob0), .int (fxL ob0), .int (fxM ob0)], iC (List.replicate 64 0), .inr (.inl (.byte, (List.replicate 64 0))), iC (List.replicate 64 0), .inr (.inl (.byte, (List.replicate 64 0))), iC (List.replicate 65 0), iC (List.replicate 65 0), iC (List.replicate 64 0), iC (List.replicate 64 0), .inr (.inl (.byte, (List.replicate 160 0))), iC (List.replicate 160 0), iC (List.replicate 160 0), iC (List.replicate 160 0), iC (List.replicate 160 0)]) rfl ?_
 refine yS Ad W 1 (192, [vR 1, vI x1, vI x2], [], [iC s, .inl [.int 0, .int 1, .int 2, .int 3, .int 4, .int 64, .int 16, .int 64, .int 4, .int 256, .int 64, .int 3, .long (4294967295 : Int64), .int 2147483647, .ref 2, .ref 3, .ref 4, .ref 5, .ref 6, .ref 7, .ref 8, .ref 9, .ref 10, .ref 11, .ref 12, .ref 13, .ref 14, .null, .null, .null, .null, .null, .null, .null, .int (fz ob0), .int (fxA ob0), .int (fxB ob0), .int (fxC ob0), .int (fxD ob0), .int (fxE ob0), .int (fxF ob0), .int (fxG ob0), .int (fxH ob0), .int (fxI ob0), .int (fxJ ob0), .int (fxK ob0), .int (fxL ob0), .int (fxM ob0)], iC (List.replicate 64 0), .inr (.inl (.byte, (List.replicate 64 0))), iC (List.replicate 64 0), .inr (.inl (.byte, (List.replicate 64 0))), iC (List.replicate 65 0), iC (List.replicate 65 0), iC (List.replicate 64 0), iC (List.replicate 64 0), .inr (.inl (.byte, (List.replicate 160 0))), iC (List.replicate 160 0), iC (List.replicate 160 0), iC (List.replicate 160 0), iC (List.replicate 160 0)]) rfl ?_
 refine yS Ad W 3 (198, [vR 1, vI x1, vI x2], [.ref 15, .ref 1], [iC s, .inl [.int 0, .int 1, .int 2, .int 3, .int 4, .int 64, .int 16, .int 64, .int 4, .int 256, .int 64, .int 3, .long (4294967295 : Int64), .int 2147483647, .ref 2, .ref 3, .ref 4, .ref 5, .ref 6, .ref 7, .ref 8, .ref 9, .ref 10, .ref 11, .ref 12, .ref 13, .ref 14, .null, .null, .null, .null, .null, .null, .null, .int (fz ob0), .int (fxA ob0), .int (fxB ob0), .int (fxC ob0), .int (fxD ob0), .int (fxE ob0), .int (fxF ob0), .int (fxG ob0), .int (fxH ob0), .int (fxI ob0), .int (fxJ ob0), .int (fxK ob0), .int (fxL ob0), .int (fxM ob0)], iC (List.replicate 64 0), .inr (.inl (.byte, (List.replicate 64 0))), iC (List.replicate 64 0), .inr (.inl (.byte, (List.replicate 64 0))), iC (List.replicate 65 0), iC (List.replicate 65 0), iC (List.replicate 64 0), iC (List.replicate 64 0), .inr (.inl (.byte, (List.replicate 160 0))), iC (List.replicate 160 0), iC (List.replicate 160 0), iC (List.replicate 160 0), iC (List.replicate 160 0), .inr (.inl (.byte, (List.replicate 256 0)))]) rfl ?_
 refine yS Ad W 1 (201, [vR 1, vI x1, vI x2], [], [iC s, .inl [.int 0, .int 1, .int 2, .int 3, .int 4, .int 64, .int 16, .int 64, .int 4, .int 256, .int 64, .int 3, .long (4294967295 : Int64), .int 2147483647, .ref 2, .ref 3, .ref 4, .ref 5, .ref 6, .ref 7, .ref 8, .ref 9, .ref 10, .ref 11, .ref 12, .ref 13, .ref 14, .ref 15, .null, .null, .null, .null, .null, .null, .int (fz ob0), .int (fxA ob0), .int (fxB ob0), .int (fxC ob0), .int (fxD ob0), .int (fxE ob0), .int (fxF ob0), .int (fxG ob0), .int (fxH ob0), .int (fxI ob0), .int (fxJ ob0), .int (fxK ob0), .int (fxL ob0), .int (fxM ob0)], iC (List.replicate 64 0), .inr (.inl (.byte, (List.replicate 64 0))), iC (List.replicate 64 0), .inr (.inl (.byte, (List.replicate 64 0))), iC (List.replicate 65 0), iC (List.replicate 65 0), iC (List.replicate 64 0), iC (List.replicate 64 0), .inr (.inl (.byte, (List.replicate 160 0))), iC (List.replicate 160 0), iC (List.replicate 160 0), iC (List.replicate 160 0), iC (List.replicate 160 0), .inr (.inl (.byte, (List.replicate 256 0)))]) rfl ?_
 refine yS Ad W 3 (207, [vR 1, vI x1, vI x2], [.ref 16, .ref 1], [iC s, .inl [.int 0, .int 1, .int 2, .int 3, .int 4, .int 64, .int 16, .int 64, .int 4, .int 256, .int 64, .int 3, .long (4294967295 : Int64), .int 2147483647, .ref 2, .ref 3, .ref 4, .ref 5, .ref 6, .ref 7, .ref 8, .ref 9, .ref 10, .ref 11, .ref 12, .ref 13, .ref 14, .ref 15, .null, .null, .null, .null, .null, .null, .int (fz ob0), .int (fxA ob0), .int (fxB ob0), .int (fxC ob0), .int (fxD ob0), .int (fxE ob0), .int (fxF ob0), .int (fxG ob0), .int (fxH ob0), .int (fxI ob0), .int (fxJ ob0), .int (fxK ob0), .int (fxL ob0), .int (fxM ob0)], iC (List.replicate 64 0), .inr (.inl (.byte, (List.replicate 64 0))), iC (List.replicate 64 0), .inr (.inl (.byte, (List.replicate 64 0))), iC (List.replicate 65 0), iC (List.replicate 65 0), iC (List.replicate 64 0), iC (List.replicate 64 0), .inr (.inl (.byte, (List.replicate 160 0))), iC (List.replicate 160 0), iC (List.replicate 160 0), iC (List.replicate 160 0), iC (List.replicate 160 0), .inr (.inl (.byte, (List.replicate 256 0))), .inr (.inr (List.replicate 192 0))]) rfl ?_
 refine yS Ad W 1 (210, [vR 1, vI x1, vI x2], [], [iC s, .inl [.int 0, .int 1, .int 2, .int 3, .int 4, .int 64, .int 16, .int 64, .int 4, .int 256, .int 64, .int 3, .long (4294967295 : Int64), .int 2147483647, .ref 2, .ref 3, .ref 4, .ref 5, .ref 6, .ref 7, .ref 8, .ref 9, .ref 10, .ref 11, .ref 12, .ref 13, .ref 14, .ref 15, .ref 16, .null, .null, .null, .null, .null, .int (fz ob0), .int (fxA ob0), .int (fxB ob0), .int (fxC ob0), .int (fxD ob0), .int (fxE ob0), .int (fxF ob0), .int (fxG ob0), .int (fxH ob0), .int (fxI ob0), .int (fxJ ob0), .int (fxK ob0), .int (fxL ob0), .int (fxM ob0)], iC (List.replicate 64 0), .inr (.inl (.byte, (List.replicate 64 0))), iC (List.replicate 64 0), .inr (.inl (.byte, (List.replicate 64 0))), iC (List.replicate 65 0), iC (List.replicate 65 0), iC (List.replicate 64 0), iC (List.replicate 64 0), .inr (.inl (.byte, (List.replicate 160 0))), iC (List.replicate 160 0), iC (List.replicate 160 0), iC (List.replicate 160 0), iC (List.replicate 160 0), .inr (.inl (.byte, (List.replicate 256 0))), .inr (.inr (List.replicate 192 0))]) rfl ?_
 refine yS Ad W 3 (216, [vR 1, vI x1, vI x2], [.ref 17, .ref 1], [iC s, .inl [.int 0, .int 1, .int 2, .int 3, .int 4, .int 64, .int 16, .int 64, .int 4, .int 256, .int 64, .int 3, .long (4294967295 : Int64), .int 2147483647, .ref 2, .ref 3, .ref 4, .ref 5, .ref 6, .ref 7, .ref 8, .ref 9, .ref 10, .ref 11, .ref 12, .ref 13, .ref 14, .ref 15, .ref 16, .null, .null, .null, .null, .null, .int (fz ob0), .int (fxA ob0), .int (fxB ob0), .int (fxC ob0), .int (fxD ob0), .int (fxE ob0), .int (fxF ob0), .int (fxG ob0), .int (fxH ob0), .int (fxI ob0), .int (fxJ ob0), .int (fxK ob0), .int (fxL ob0), .int (fxM ob0)], iC (List.replicate 64 0), .inr (.inl (.byte, (List.replicate 64 0))), iC (List.replicate 64 0), .inr (.inl (.byte, (List.replicate 64 0))), iC (List.replicate 65 0), iC (List.replicate 65 0), iC (List.replicate 64 0), iC (List.replicate 64 0), .inr (.inl (.byte, (List.replicate 160 0))), iC (List.replicate 160 0), iC (List.replicate 160 0), iC (List.replicate 160 0), iC (List.replicate 160 0), .inr (.inl (.byte, (List.replicate 256 0))), .inr (.inr (List.replicate 192 0)), .inr (.inl (.byte, (List.replicate 192 0)))]) rfl ?_
 refine yS Ad W 1 (219, [vR 1, vI x1, vI x2], [], [iC s, .inl [.int 0, .int 1, .int 2, .int 3, .int 4, .int 64, .int 16, .int 64, .int 4, .int 256, .int 64, .int 3, .long (4294967295 : Int64), .int 2147483647, .ref 2, .ref 3, .ref 4, .ref 5, .ref 6, .ref 7, .ref 8, .ref 9, .ref 10, .ref 11, .ref 12, .ref 13, .ref 14, .ref 15, .ref 16, .ref 17, .null, .null, .null, .null, .int (fz ob0), .int (fxA ob0), .int (fxB ob0), .int (fxC ob0), .int (fxD ob0), .int (fxE ob0), .int (fxF ob0), .int (fxG ob0), .int (fxH ob0), .int (fxI ob0), .int (fxJ ob0), .int (fxK ob0), .int (fxL ob0), .int (fxM ob0)], iC (List.replicate 64 0), .inr (.inl (.byte, (List.replicate 64 0))), iC (List.replicate 64 0), .inr (.inl (.byte, (List.replicate 64 0))), iC (List.replicate 65 0), iC (List.replicate 65 0), iC (List.replicate 64 0), iC (List.replicate 64 0), .inr (.inl (.byte, (List.replicate 160 0))), iC (List.replicate 160 0), iC (List.replicate 160 0), iC (List.replicate 160 0), iC (List.replicate 160 0), .inr (.inl (.byte, (List.replicate 256 0))), .inr (.inr (List.replicate 192 0)), .inr (.inl (.byte, (List.replicate 192 0)))]) rfl ?_
 refine yS Ad W 3 (225, [vR 1, vI x1, vI x2], [.ref 18, .ref 1], [iC s, .inl [.int 0, .int 1, .int 2, .int 3, .int 4, .int 64, .int 16, .int 64, .int 4, .int 256, .int 64, .int 3, .long (4294967295 : Int64), .int 2147483647, .ref 2, .ref 3, .ref 4, .ref 5, .ref 6, .ref 7, .ref 8, .ref 9, .ref 10, .ref 11, .ref 12, .ref 13, .ref 14, .ref 15, .ref 16, .ref 17, .null, .null, .null, .null, .int (fz ob0), .int (fxA ob0), .int (fxB ob0), .int (fxC ob0), .int (fxD ob0), .int (fxE ob0), .int (fxF ob0), .int (fxG ob0), .int (fxH ob0), .int (fxI ob0), .int (fxJ ob0), .int (fxK ob0), .int (fxL ob0), .int (fxM ob0)], iC (List.replicate 64 0), .inr (.inl (.byte, (List.replicate 64 0))), iC (List.replicate 64 0), .inr (.inl (.byte, (List.replicate 64 0))), iC (List.replicate 65 0), iC (List.replicate 65 0), iC (List.replicate 64 0), iC (List.replicate 64 0), .inr (.inl (.byte, (List.replicate 160 0))), iC (List.replicate 160 0), iC (List.replicate 160 0), iC (List.replicate 160 0), iC (List.replicate 160 0), .inr (.inl (.byte, (List.replicate 256 0))), .inr (.inr (List.replicate 192 0)), .inr (.inl (.byte, (List.replicate 192 0))), iC (List.replicate 130 0)]) rfl ?_
 refine yS Ad W 1 (228, [vR 1, vI x1, vI x2], [], [iC s, .inl [.int 0, .int 1, .int 2, .int 3, .int 4, .int 64, .int 16, .int 64, .int 4, .int 256, .int 64, .int 3, .long (4294967295 : Int64), .int 2147483647, .ref 2, .ref 3, .ref 4, .ref 5, .ref 6, .ref 7, .ref 8, .ref 9, .ref 10, .ref 11, .ref 12, .ref 13, .ref 14, .ref 15, .ref 16, .ref 17, .ref 18, .null, .null, .null, .int (fz ob0), .int (fxA ob0), .int (fxB ob0), .int (fxC ob0), .int (fxD ob0), .int (fxE ob0), .int (fxF ob0), .int (fxG ob0), .int (fxH ob0), .int (fxI ob0), .int (fxJ ob0), .int (fxK ob0), .int (fxL ob0), .int (fxM ob0)], iC (List.replicate 64 0), .inr (.inl (.byte, (List.replicate 64 0))), iC (List.replicate 64 0), .inr (.inl (.byte, (List.replicate 64 0))), iC (List.replicate 65 0), iC (List.replicate 65 0), iC (List.replicate 64 0), iC (List.replicate 64 0), .inr (.inl (.byte, (List.replicate 160 0))), iC (List.replicate 160 0), iC (List.replicate 160 0), iC (List.replicate 160 0), iC (List.replicate 160 0), .inr (.inl (.byte, (List.replicate 256 0))), .inr (.inr (List.replicate 192 0)), .inr (.inl (.byte, (List.replicate 192 0))), iC (List.replicate 130 0)]) rfl ?_
 refine yS Ad W 3 (234, [vR 1, vI x1, vI x2], [.ref 19, .ref 1], [iC s, .inl [.int 0, .int 1, .int 2, .int 3, .int 4, .int 64, .int 16, .int 64, .int 4, .int 256, .int 64, .int 3, .long (4294967295 : Int64), .int 2147483647, .ref 2, .ref 3, .ref 4, .ref 5, .ref 6, .ref 7, .ref 8, .ref 9, .ref 10, .ref 11, .ref 12, .ref 13, .ref 14, .ref 15, .ref 16, .ref 17, .ref 18, .null, .null, .null, .int (fz ob0), .int (fxA ob0), .int (fxB ob0), .int (fxC ob0), .int (fxD ob0), .int (fxE ob0), .int (fxF ob0), .int (fxG ob0), .int (fxH ob0), .int (fxI ob0), .int (fxJ ob0), .int (fxK ob0), .int (fxL ob0), .int (fxM ob0)], iC (List.replicate 64 0), .inr (.inl (.byte, (List.replicate 64 0))), iC (List.replicate 64 0), .inr (.inl (.byte, (List.replicate 64 0))), iC (List.replicate 65 0), iC (List.replicate 65 0), iC (List.replicate 64 0), iC (List.replicate 64 0), .inr (.inl (.byte, (List.replicate 160 0))), iC (List.replicate 160 0), iC (List.replicate 160 0), iC (List.replicate 160 0), iC (List.replicate 160 0), .inr (.inl (.byte, (List.replicate 256 0))), .inr (.inr (List.replicate 192 0)), .inr (.inl (.byte, (List.replicate 192 0))), iC (List.replicate 130 0), iC (List.replicate 130 0)]) rfl ?_
 refine yS Ad W 1 (237, [vR 1, vI x1, vI x2], [], [iC s, .inl [.int 0, .int 1, .int 2, .int 3, .int 4, .int 64, .int 16, .int 64, .int 4, .int 256, .int 64, .int 3, .long (4294967295 : Int64), .int 2147483647, .ref 2, .ref 3, .ref 4, .ref 5, .ref 6, .ref 7, .ref 8, .ref 9, .ref 10, .ref 11, .ref 12, .ref 13, .ref 14, .ref 15, .ref 16, .ref 17, .ref 18, .ref 19, .null, .null, .int (fz ob0), .int (fxA ob0), .int (fxB ob0), .int (fxC ob0), .int (fxD ob0), .int (fxE ob0), .int (fxF ob0), .int (fxG ob0), .int (fxH ob0), .int (fxI ob0), .int (fxJ ob0), .int (fxK ob0), .int (fxL ob0), .int (fxM ob0)], iC (List.replicate 64 0), .inr (.inl (.byte, (List.replicate 64 0))), iC (List.replicate 64 0), .inr (.inl (.byte, (List.replicate 64 0))), iC (List.replicate 65 0), iC (List.replicate 65 0), iC (List.replicate 64 0), iC (List.replicate 64 0), .inr (.inl (.byte, (List.replicate 160 0))), iC (List.replicate 160 0), iC (List.replicate 160 0), iC (List.replicate 160 0), iC (List.replicate 160 0), .inr (.inl (.byte, (List.replicate 256 0))), .inr (.inr (List.replicate 192 0)), .inr (.inl (.byte, (List.replicate 192 0))), iC (List.replicate 130 0), iC (List.replicate 130 0)]) rfl ?_
 refine yS Ad W 3 (243, [vR 1, vI x1, vI x2], [.ref 20, .ref 1], [iC s, .inl [.int 0, .int 1, .int 2, .int 3, .int 4, .int 64, .int 16, .int 64, .int 4, .int 256, .int 64, .int 3, .long (4294967295 : Int64), .int 2147483647, .ref 2, .ref 3, .ref 4, .ref 5, .ref 6, .ref 7, .ref 8, .ref 9, .ref 10, .ref 11, .ref 12, .ref 13, .ref 14, .ref 15, .ref 16, .ref 17, .ref 18, .ref 19, .null, .null, .int (fz ob0), .int (fxA ob0), .int (fxB ob0), .int (fxC ob0), .int (fxD ob0), .int (fxE ob0), .int (fxF ob0), .int (fxG ob0), .int (fxH ob0), .int (fxI ob0), .int (fxJ ob0), .int (fxK ob0), .int (fxL ob0), .int (fxM ob0)], iC (List.replicate 64 0), .inr (.inl (.byte, (List.replicate 64 0))), iC (List.replicate 64 0), .inr (.inl (.byte, (List.replicate 64 0))), iC (List.replicate 65 0), iC (List.replicate 65 0), iC (List.replicate 64 0), iC (List.replicate 64 0), .inr (.inl (.byte, (List.replicate 160 0))), iC (List.replicate 160 0), iC (List.replicate 160 0), iC (List.replicate 160 0), iC (List.replicate 160 0), .inr (.inl (.byte, (List.replicate 256 0))), .inr (.inr (List.replicate 192 0)), .inr (.inl (.byte, (List.replicate 192 0))), iC (List.replicate 130 0), iC (List.replicate 130 0), iC (List.replicate 130 0)]) rfl ?_
 refine yS Ad W 1 (246, [vR 1, vI x1, vI x2], [], [iC s, .inl [.int 0, .int 1, .int 2, .int 3, .int 4, .int 64, .int 16, .int 64, .int 4, .int 256, .int 64, .int 3, .long (4294967295 : Int64), .int 2147483647, .ref 2, .ref 3, .ref 4, .ref 5, .ref 6, .ref 7, .ref 8, .ref 9, .ref 10, .ref 11, .ref 12, .ref 13, .ref 14, .ref 15, .ref 16, .ref 17, .ref 18, .ref 19, .ref 20, .null, .int (fz ob0), .int (fxA ob0), .int (fxB ob0), .int (fxC ob0), .int (fxD ob0), .int (fxE ob0), .int (fxF ob0), .int (fxG ob0), .int (fxH ob0), .int (fxI ob0), .int (fxJ ob0), .int (fxK ob0), .int (fxL ob0), .int (fxM ob0)], iC (List.replicate 64 0), .inr (.inl (.byte, (List.replicate 64 0))), iC (List.replicate 64 0), .inr (.inl (.byte, (List.replicate 64 0))), iC (List.replicate 65 0), iC (List.replicate 65 0), iC (List.replicate 64 0), iC (List.replicate 64 0), .inr (.inl (.byte, (List.replicate 160 0))), iC (List.replicate 160 0), iC (List.replicate 160 0), iC (List.replicate 160 0), iC (List.replicate 160 0), .inr (.inl (.byte, (List.replicate 256 0))), .inr (.inr (List.replicate 192 0)), .inr (.inl (.byte, (List.replicate 192 0))), iC (List.replicate 130 0), iC (List.replicate 130 0), iC (List.replicate 130 0)]) rfl ?_
 refine yS Ad W 3 (252, [vR 1, vI x1, vI x2], [.ref 21, .ref 1], [iC s, .inl [.int 0, .int 1, .int 2, .int 3, .int 4, .int 64, .int 16, .int 64, .int 4, .int 256, .int 64, .int 3, .long (4294967295 : Int64), .int 2147483647, .ref 2, .ref 3, .ref 4, .ref 5, .ref 6, .ref 7, .ref 8, .ref 9, .ref 10, .ref 11, .ref 12, .ref 13, .ref 14, .ref 15, .ref 16, .ref 17, .ref 18, .ref 19, .ref 20, .null, .int (fz ob0), .int (fxA ob0), .int (fxB ob0), .int (fxC ob0), .int (fxD ob0), .int (fxE ob0), .int (fxF ob0), .int (fxG ob0), .int (fxH ob0), .int (fxI ob0), .int (fxJ ob0), .int (fxK ob0), .int (fxL ob0), .int (fxM ob0)], iC (List.replicate 64 0), .inr (.inl (.byte, (List.replicate 64 0))), iC (List.replicate 64 0), .inr (.inl (.byte, (List.replicate 64 0))), iC (List.replicate 65 0), iC (List.replicate 65 0), iC (List.replicate 64 0), iC (List.replicate 64 0), .inr (.inl (.byte, (List.replicate 160 0))), iC (List.replicate 160 0), iC (List.replicate 160 0), iC (List.replicate 160 0), iC (List.replicate 160 0), .inr (.inl (.byte, (List.replicate 256 0))), .inr (.inr (List.replicate 192 0)), .inr (.inl (.byte, (List.replicate 192 0))), iC (List.replicate 130 0), iC (List.replicate 130 0), iC (List.replicate 130 0), iC (List.replicate 130 0)]) rfl ?_
 refine yS Ad W 1 (255, [vR 1, vI x1, vI x2], [], (H0x0 s ob0 (0:Int32) (1:Int32) (2:Int32) (3:Int32) (4:Int32) (64:Int32) (16:Int32) (64:Int32) (4:Int32) (256:Int32) (64:Int32) (3:Int32) (4294967295 : Int64) (2147483647:Int32) (List.replicate 64 0) (List.replicate 64 0) (List.replicate 64 0) (List.replicate 64 0) (List.replicate 65 0) (List.replicate 65 0) (List.replicate 64 0) (List.replicate 64 0) (List.replicate 160 0) (List.replicate 160 0) (List.replicate 160 0) (List.replicate 160 0) (List.replicate 160 0) (List.replicate 256 0) (List.replicate 192 0) (List.replicate 192 0) (List.replicate 130 0) (List.replicate 130 0) (List.replicate 130 0) (List.replicate 130 0))) rfl ?_
 refine yS Ad W 5 (261, [vR 1, vI x1, vI x2], [.int 64, .int 1, .int x1, .ref 1, .ref 1], (H0x0 s ob0 (0:Int32) (1:Int32) (2:Int32) (3:Int32) (4:Int32) (64:Int32) (16:Int32) (64:Int32) (4:Int32) (256:Int32) (64:Int32) (3:Int32) (4294967295 : Int64) (2147483647:Int32) (List.replicate 64 0) (List.replicate 64 0) (List.replicate 64 0) (List.replicate 64 0) (List.replicate 65 0) (List.replicate 65 0) (List.replicate 64 0) (List.replicate 64 0) (List.replicate 160 0) (List.replicate 160 0) (List.replicate 160 0) (List.replicate 160 0) (List.replicate 160 0) (List.replicate 256 0) (List.replicate 192 0) (List.replicate 192 0) (List.replicate 130 0) (List.replicate 130 0) (List.replicate 130 0) (List.replicate 130 0))) rfl ?_
 obtain ⟨r3, hr3, h⟩ := be h
 refine callP W (a := 1) (as := [.int x1, .int 1, .int 64]) (rest := [.ref 1]) (w := (some (.int r3))) (σ₁ := (H0x0 s ob0 (0:Int32) (1:Int32) (2:Int32) (3:Int32) (4:Int32) (64:Int32) (16:Int32) (64:Int32) (4:Int32) (256:Int32) (64:Int32) (3:Int32) (4294967295 : Int64) (2147483647:Int32) (List.replicate 64 0) (List.replicate 64 0) (List.replicate 64 0) (List.replicate 64 0) (List.replicate 65 0) (List.replicate 65 0) (List.replicate 64 0) (List.replicate 64 0) (List.replicate 160 0) (List.replicate 160 0) (List.replicate 160 0) (List.replicate 160 0) (List.replicate 160 0) (List.replicate 256 0) (List.replicate 192 0) (List.replicate 192 0) (List.replicate 130 0) (List.replicate 130 0) (List.replicate 130 0) (List.replicate 130 0))) rfl rfl rfl rfl rfl rfl rfl rfl (tF2 Ad W x1 (1:Int32) (64:Int32) hr3) ?_
 refine yS Ad W 1 (267, [vR 1, vI x1, vI x2], [], (H0x1 s ob0 (0:Int32) (1:Int32) (2:Int32) (3:Int32) (4:Int32) (64:Int32) (16:Int32) (64:Int32) (4:Int32) (256:Int32) (64:Int32) (3:Int32) (4294967295 : Int64) (2147483647:Int32) (List.replicate 64 0) (List.replicate 64 0) (List.replicate 64 0) (List.replicate 64 0) (List.replicate 65 0) (List.replicate 65 0) (List.replicate 64 0) (List.replicate 64 0) (List.replicate 160 0) (List.replicate 160 0) (List.replicate 160 0) (List.replicate 160 0) (List.replicate 160 0) (List.replicate 256 0) (List.replicate 192 0) (List.replicate 192 0) (List.replicate 130 0) (List.replicate 130 0) (List.replicate 130 0) (List.replicate 130 0) r3)) rfl ?_
 refine yS Ad W 5 (273, [vR 1, vI x1, vI x2], [.int 16, .int 1, .int x2, .ref 1, .ref 1], (H0x1 s ob0 (0:Int32) (1:Int32) (2:Int32) (3:Int32) (4:Int32) (64:Int32) (16:Int32) (64:Int32) (4:Int32) (256:Int32) (64:Int32) (3:Int32) (4294967295 : Int64) (2147483647:Int32) (List.replicate 64 0) (List.replicate 64 0) (List.replicate 64 0) (List.replicate 64 0) (List.replicate 65 0) (List.replicate 65 0) (List.replicate 64 0) (List.replicate 64 0) (List.replicate 160 0) (List.replicate 160 0) (List.replicate 160 0) (List.replicate 160 0) (List.replicate 160 0) (List.replicate 256 0) (List.replicate 192 0) (List.replicate 192 0) (List.replicate 130 0) (List.replicate 130 0) (List.replicate 130 0) (List.replicate 130 0) r3)) rfl ?_
 obtain ⟨r4, hr4, h⟩ := be h
 refine callP W (a := 1) (as := [.int x2, .int 1, .int 16]) (rest := [.ref 1]) (w := (some (.int r4))) (σ₁ := (H0x1 s ob0 (0:Int32) (1:Int32) (2:Int32) (3:Int32) (4:Int32) (64:Int32) (16:Int32) (64:Int32) (4:Int32) (256:Int32) (64:Int32) (3:Int32) (4294967295 : Int64) (2147483647:Int32) (List.replicate 64 0) (List.replicate 64 0) (List.replicate 64 0) (List.replicate 64 0) (List.replicate 65 0) (List.replicate 65 0) (List.replicate 64 0) (List.replicate 64 0) (List.replicate 160 0) (List.replicate 160 0) (List.replicate 160 0) (List.replicate 160 0) (List.replicate 160 0) (List.replicate 256 0) (List.replicate 192 0) (List.replicate 192 0) (List.replicate 130 0) (List.replicate 130 0) (List.replicate 130 0) (List.replicate 130 0) r3)) rfl rfl rfl rfl rfl rfl rfl rfl (tF2 Ad W x2 (1:Int32) (16:Int32) hr4) ?_
 refine yS Ad W 2 (280, [vR 1, vI x1, vI x2], [.ref 1], (H0x2 s ob0 (0:Int32) (1:Int32) (2:Int32) (3:Int32) (4:Int32) (64:Int32) (16:Int32) (64:Int32) (4:Int32) (256:Int32) (64:Int32) (3:Int32) (4294967295 : Int64) (2147483647:Int32) (List.replicate 64 0) (List.replicate 64 0) (List.replicate 64 0) (List.replicate 64 0) (List.replicate 65 0) (List.replicate 65 0) (List.replicate 64 0) (List.replicate 64 0) (List.replicate 160 0) (List.replicate 160 0) (List.replicate 160 0) (List.replicate 160 0) (List.replicate 160 0) (List.replicate 256 0) (List.replicate 192 0) (List.replicate 192 0) (List.replicate 130 0) (List.replicate 130 0) (List.replicate 130 0) (List.replicate 130 0) r3 r4)) rfl ?_
 have E5 : ((H0x2 s ob0 (0:Int32) (1:Int32) (2:Int32) (3:Int32) (4:Int32) (64:Int32) (16:Int32) (64:Int32) (4:Int32) (256:Int32) (64:Int32) (3:Int32) (4294967295 : Int64) (2147483647:Int32) (List.replicate 64 0) (List.replicate 64 0) (List.replicate 64 0) (List.replicate 64 0) (List.replicate 65 0) (List.replicate 65 0) (List.replicate 64 0) (List.replicate 64 0) (List.replicate 160 0) (List.replicate 160 0) (List.replicate 160 0) (List.replicate 160 0) (List.replicate 160 0) (List.replicate 256 0) (List.replicate 192 0) (List.replicate 192 0) (List.replicate 130 0) (List.replicate 130 0) (List.replicate 130 0) (List.replicate 130 0) r3 r4) : QHeap) = (H0 s (sxA (sz (sy (su (sq (si (sh (sd (sb (sa (sZ (sY (sX (sW (sV (sU (sT (sS (sR (sQ (sP (sO (sN (sM (sL (sK (sJ (sI (sH (sG (sF (sE (sD (sC (sB (sA ob0 (0:Int32)) (1:Int32)) (2:Int32)) (3:Int32)) (4:Int32)) (64:Int32)) (16:Int32)) (64:Int32)) (4:Int32)) (256:Int32)) (64:Int32)) (3:Int32)) (4294967295 : Int64)) (2147483647:Int32)) (List.replicate 64 0)) (List.replicate 64 0)) (List.replicate 64 0)) (List.replicate 64 0)) (List.replicate 65 0)) (List.replicate 65 0)) (List.replicate 64 0)) (List.replicate 64 0)) (List.replicate 160 0)) (List.replicate 160 0)) (List.replicate 160 0)) (List.replicate 160 0)) (List.replicate 160 0)) (List.replicate 256 0)) (List.replicate 192 0)) (List.replicate 192 0)) (List.replicate 130 0)) (List.replicate 130 0)) (List.replicate 130 0)) (List.replicate 130 0)) r3) r4)) := by simp only [fs, H0, H0v, H0x2, sA, sB, sC, sD, sE, sF, sG, sH, sI, sJ, sK, sL, sM, sN, sO, sP, sQ, sR, sS, sT, sU, sV, sW, sX, sY, sZ, sa, sb, sd, sh, si, sq, su, sy, sz, sxA, ob0]
 rw [E5]
 obtain ⟨r7, hr7, h⟩ := be h
 refine callV W (a := 1) (as := []) (rest := []) (w := none) (σ₁ := (H0 s r7)) rfl rfl rfl rfl rfl rfl rfl rfl (tF3 Ad W s (sxA (sz (sy (su (sq (si (sh (sd (sb (sa (sZ (sY (sX (sW (sV (sU (sT (sS (sR (sQ (sP (sO (sN (sM (sL (sK (sJ (sI (sH (sG (sF (sE (sD (sC (sB (sA ob0 (0:Int32)) (1:Int32)) (2:Int32)) (3:Int32)) (4:Int32)) (64:Int32)) (16:Int32)) (64:Int32)) (4:Int32)) (256:Int32)) (64:Int32)) (3:Int32)) (4294967295 : Int64)) (2147483647:Int32)) (List.replicate 64 0)) (List.replicate 64 0)) (List.replicate 64 0)) (List.replicate 64 0)) (List.replicate 65 0)) (List.replicate 65 0)) (List.replicate 64 0)) (List.replicate 64 0)) (List.replicate 160 0)) (List.replicate 160 0)) (List.replicate 160 0)) (List.replicate 160 0)) (List.replicate 160 0)) (List.replicate 256 0)) (List.replicate 192 0)) (List.replicate 192 0)) (List.replicate 130 0)) (List.replicate 130 0)) (List.replicate 130 0)) (List.replicate 130 0)) r3) r4) hr7) ?_
 obtain rfl := sj h
 exact ret0 rfl rfl
/-- caseCount()I -/
def F4 (o : Ob) : Option (Int32) :=
 some (fxB o)
theorem tF4 (Ad : QAd n0 ad) (W : QW Z a0) (s : List Int32) (o : Ob) {r : Int32} (h : F4 o = some r) : QTri l Z n0 ad 4 (0, qentry [.ref 1] (pMaxL 4), [], (H0 s o)) (some (Value.int r)) (H0 s o) := by
 unfold F4 at h
 refine yS Ad W 2 (4, [vR 1], [.int (fxB o)], (H0 s o)) rfl ?_
 obtain rfl := sj h
 exact retI rfl rfl
/-- defaultTarget()I -/
def F5 (o : Ob) : Option (Int32) :=
 some (fxC o)
theorem tF5 (Ad : QAd n0 ad) (W : QW Z a0) (s : List Int32) (o : Ob) {r : Int32} (h : F5 o = some r) : QTri l Z n0 ad 5 (0, qentry [.ref 1] (pMaxL 5), [], (H0 s o)) (some (Value.int r)) (H0 s o) := by
 unfold F5 at h
 refine yS Ad W 2 (4, [vR 1], [.int (fxC o)], (H0 s o)) rfl ?_
 obtain rfl := sj h
 exact retI rfl rfl
/-- isCurrent()Z -/
def F6 (o : Ob) : Option (Int32) :=
 (if (fxG o) = (0:Int32) then some (0:Int32) else (if (fxD o) = (0:Int32) then some (1:Int32) else some (0:Int32)))
theorem tF6 (Ad : QAd n0 ad) (W : QW Z a0) (s : List Int32) (o : Ob) {r : Int32} (h : F6 o = some r) : QTri l Z n0 ad 6 (0, qentry [.ref 1] (pMaxL 6), [], (H0 s o)) (some (Value.int r)) (H0 s o) := by
 unfold F6 at h
 refine yS Ad W 2 (4, [vR 1], [.int (fxG o)], (H0 s o)) rfl ?_
 rcases qite h with ⟨c16, h⟩ | ⟨c16, h⟩
 ·refine yT Ad W 18 7 rfl (XT.i0_eq_t c16) ?_
  refine yS Ad W 1 (19, [vR 1], [.int 0], (H0 s o)) rfl ?_
  obtain rfl := sj h
  exact retZ rfl rfl
 ·refine yF Ad W 18 7 rfl (XT.i0_eq_f c16) ?_
  refine yS Ad W 2 (11, [vR 1], [.int (fxD o)], (H0 s o)) rfl ?_
  rcases qite h with ⟨c17, h⟩ | ⟨c17, h⟩
  ·refine yF Ad W 18 14 rfl (XT.i0_ne_f c17) ?_
   refine yS Ad W 2 (19, [vR 1], [.int 1], (H0 s o)) rfl ?_
   obtain rfl := sj h
   exact retZ rfl rfl
  ·refine yT Ad W 18 14 rfl (XT.i0_ne_t c17) ?_
   refine yS Ad W 1 (19, [vR 1], [.int 0], (H0 s o)) rfl ?_
   obtain rfl := sj h
   exact retZ rfl rfl
def J28_25 (o : Ob) : Option (((Int32)) ⊕ (Int32 × Int32)) :=
  some (.inl (fxF o))
theorem tJ28_25 (Ad : QAd n0 ad) (W : QW Z a0) (s : List Int32) (x1 : Int32) (o : Ob) {r : ((Int32)) ⊕ (Int32 × Int32)} {u : Option Value} {τ : QHeap} (h : J28_25 o = some r) (hx0 : ∀ x : Int32, r = .inl x → u = (some (Value.int x)) ∧ τ = (H0 s o)) (hc : ∀ x : Int32 × Int32, r = .inr x → QTri l Z n0 ad 28 (7, [vR 1, vI x1, vI x.1, vI x.2, nN, nN], [], (H0 s o)) u τ) : QTri l Z n0 ad 28 (25, [vR 1, nN, nN, nN, nN, nN], [], (H0 s o)) u τ := by
 unfold J28_25 at h
 refine yS Ad W 2 (29, [vR 1, nN, nN, nN, nN, nN], [.int (fxF o)], (H0 s o)) rfl ?_
 obtain rfl := sj h
 obtain ⟨rfl, rfl⟩ := hx0 (fxF o) rfl
 exact retI rfl rfl
def J28_103 (o : Ob) (x1 x2 x3 : Int32) : Option (((Int32)) ⊕ (Int32 × Int32)) :=
  some (.inr (x2, (x3 + (1 : Int32))))
theorem tJ28_103 (Ad : QAd n0 ad) (W : QW Z a0) (s : List Int32) (o : Ob) (x1 x2 x3 : Int32) {r : ((Int32)) ⊕ (Int32 × Int32)} {u : Option Value} {τ : QHeap} (h : J28_103 o x1 x2 x3 = some r) (hx0 : ∀ x : Int32, r = .inl x → u = (some (Value.int x)) ∧ τ = (H0 s o)) (hc : ∀ x : Int32 × Int32, r = .inr x → QTri l Z n0 ad 28 (7, [vR 1, vI x1, vI x.1, vI x.2, nN, nN], [], (H0 s o)) u τ) : QTri l Z n0 ad 28 (103, [vR 1, vI x1, vI x2, vI x3, nN, nN], [], (H0 s o)) u τ := by
 unfold J28_103 at h
 refine yS Ad W 2 (7, [vR 1, vI x1, vI x2, vI (x3 + (1:Int32)), nN, nN], [], (H0 s o)) rfl ?_
 obtain rfl := sj h
 exact zM [tt,tt,tt,tt,ff,ff] (hc (x2, (x3 + (1:Int32))) rfl)
def J28_81 (o : Ob) (x1 x3 w0 : Int32) : Option (((Int32)) ⊕ (Int32 × Int32)) :=
  (J28_103 o x1 w0 x3)
theorem tJ28_81 (Ad : QAd n0 ad) (W : QW Z a0) (s : List Int32) (o : Ob) (x1 x3 w0 : Int32) {r : ((Int32)) ⊕ (Int32 × Int32)} {u : Option Value} {τ : QHeap} (h : J28_81 o x1 x3 w0 = some r) (hx0 : ∀ x : Int32, r = .inl x → u = (some (Value.int x)) ∧ τ = (H0 s o)) (hc : ∀ x : Int32 × Int32, r = .inr x → QTri l Z n0 ad 28 (7, [vR 1, vI x1, vI x.1, vI x.2, nN, nN], [], (H0 s o)) u τ) : QTri l Z n0 ad 28 (81, [vR 1, vI x1, nN, vI x3, nN, nN], [.int w0], (H0 s o)) u τ := by
 unfold J28_81 at h
 refine yS Ad W 2 (103, [vR 1, vI x1, vI w0, vI x3, nN, nN], [], (H0 s o)) rfl ?_
 exact zM [tt,tt,tt,tt,ff,ff] (tJ28_103 Ad W s o x1 w0 x3 h hx0 hc)
/-- unsignedOffset(II)J -/
def F31 (x1 x2 : Int32) : Option (Int64) :=
 some (((x1 - x2).toInt64) &&& (4294967295 : Int64))
theorem tF31 (Ad : QAd n0 ad) (W : QW Z a0) {a : Nat} {σ : QHeap} (x1 x2 : Int32) {r : Int64} (h : F31 x1 x2 = some r) : QTri l Z n0 ad 31 (0, qentry [.ref a, .int x1, .int x2] (pMaxL 31), [], σ) (some (Value.long r)) σ := by
 unfold F31 at h
 refine yS Ad W 6 (8, [vR a, vI x1, vI x2], [.long (((x1 - x2).toInt64) &&& (4294967295 : Int64))], σ) rfl ?_
 obtain rfl := sj h
 exact retJ rfl rfl
def B30_57 (o : Ob) (x5 x6 : Int32) (x7 v : Int32) : Option (((Int32)) ⊕ (Int32)) :=
  (if v < x7 then (if v < (3 : Int32) then (if (x6 + v) < (0 : Int32) then some (.inl (-1 : Int32)) else (if (x6 + v) < ((fd o).length.toInt32) then (aget (fd o) (x6 + v)).bind fun y49 => (if ((XT.ushrL y49 x5) &&& (1 : Int64)) = (0 : Int64) then some (.inr (v + (1 : Int32))) else (aget (fh o) (x6 + v)).bind fun y51 => some (.inl y51)) else some (.inl (-1 : Int32)))) else some (.inl (-1 : Int32))) else some (.inl (-1 : Int32)))
theorem tB30_57 (Ad : QAd n0 ad) (W : QW Z a0) (s : List Int32) (o : Ob) (x5 x6 : Int32) (x7 v : Int32) {r : ((Int32)) ⊕ (Int32)} {u : Option Value} {τ : QHeap} (h : B30_57 o x5 x6 x7 v = some r) (hx0 : ∀ x : Int32, r = .inl x → u = (some (Value.int x)) ∧ τ = (H0 s o)) (hc : ∀ x : Int32, r = .inr x → QTri l Z n0 ad 30 (57, [vR 1, nN, nN, nN, nN, vI x5, vI x6, vI x7, vI x, nN], [], (H0 s o)) u τ) : QTri l Z n0 ad 30 (57, [vR 1, nN, nN, nN, nN, vI x5, vI x6, vI x7, vI v, nN], [], (H0 s o)) u τ := by
 unfold B30_57 at h
 refine yS Ad W 2 (61, [vR 1, nN, nN, nN, nN, vI x5, vI x6, vI x7, vI v, nN], [.int x7, .int v], (H0 s o)) rfl ?_
 rcases qite h with ⟨c45, h⟩ | ⟨c45, h⟩
 ·refine yF Ad W 125 64 rfl (XT.ii_ge_f c45) ?_
  refine yS Ad W 2 (67, [vR 1, nN, nN, nN, nN, vI x5, vI x6, vI x7, vI v, nN], [.int 3, .int v], (H0 s o)) rfl ?_
  rcases qite h with ⟨c46, h⟩ | ⟨c46, h⟩
  ·refine yF Ad W 125 70 rfl (XT.ii_ge_f c46) ?_
   refine yS Ad W 5 (79, [vR 1, nN, nN, nN, nN, vI x5, vI x6, vI x7, vI v, vI (x6 + v)], [.int (x6 + v)], (H0 s o)) rfl ?_
   rcases qite h with ⟨c47, h⟩ | ⟨c47, h⟩
   ·refine yT Ad W 92 82 rfl (XT.i0_lt_t c47) ?_
    refine yS Ad W 1 (93, [vR 1, nN, nN, nN, nN, vI x5, vI x6, vI x7, vI v, vI (x6 + v)], [.int (-1:Int32)], (H0 s o)) rfl ?_
    obtain rfl := sj h
    obtain ⟨rfl, rfl⟩ := hx0 (-1:Int32) rfl
    exact retI rfl rfl
   ·refine yF Ad W 92 82 rfl (XT.i0_lt_f c47) ?_
    refine yS Ad W 4 (89, [vR 1, nN, nN, nN, nN, vI x5, vI x6, vI x7, vI v, vI (x6 + v)], [.int ((fd o).length.toInt32), .int (x6 + v)], (H0 s o)) rfl ?_
    rcases qite h with ⟨c48, h⟩ | ⟨c48, h⟩
    ·refine yT Ad W 94 92 rfl (XT.ii_lt_t c48) ?_
     refine yS Ad W 3 (100, [vR 1, nN, nN, nN, nN, vI x5, vI x6, vI x7, vI v, vI (x6 + v)], [.int (x6 + v), .ref 16], (H0 s o)) rfl ?_
     obtain ⟨y49, hy49, h⟩ := be h
     refine zB Ad W (f := fun y49 => (101, [vR 1, nN, nN, nN, nN, vI x5, vI x6, vI x7, vI v, vI (x6 + v)], [.long y49], (H0 s o))) rfl hy49 ?_
     refine yS Ad W 6 (108, [vR 1, nN, nN, nN, nN, vI x5, vI x6, vI x7, vI v, vI (x6 + v)], [.int (XT.cmpL ((XT.ushrL y49 x5) &&& (1 : Int64)) (0 : Int64))], (H0 s o)) rfl ?_
     rcases qite h with ⟨c50, h⟩ | ⟨c50, h⟩
     ·refine yT Ad W 119 111 rfl (XT.ll_eq_t c50) ?_
      refine yS Ad W 2 (57, [vR 1, nN, nN, nN, nN, vI x5, vI x6, vI x7, vI (v + (1:Int32)), vI (x6 + v)], [], (H0 s o)) rfl ?_
      obtain rfl := sj h
      exact zM [tt,ff,ff,ff,ff,tt,tt,tt,tt,ff] (hc (v + (1:Int32)) rfl)
     ·refine yF Ad W 119 111 rfl (XT.ll_eq_f c50) ?_
      refine yS Ad W 3 (117, [vR 1, nN, nN, nN, nN, vI x5, vI x6, vI x7, vI v, vI (x6 + v)], [.int (x6 + v), .ref 17], (H0 s o)) rfl ?_
      obtain ⟨y51, hy51, h⟩ := be h
      refine zB Ad W (f := fun y51 => (118, [vR 1, nN, nN, nN, nN, vI x5, vI x6, vI x7, vI v, vI (x6 + v)], [.int y51], (H0 s o))) rfl hy51 ?_
      obtain rfl := sj h
      obtain ⟨rfl, rfl⟩ := hx0 y51 rfl
      exact retI rfl rfl
    ·refine yF Ad W 94 92 rfl (XT.ii_lt_f c48) ?_
     refine yS Ad W 1 (93, [vR 1, nN, nN, nN, nN, vI x5, vI x6, vI x7, vI v, vI (x6 + v)], [.int (-1:Int32)], (H0 s o)) rfl ?_
     obtain rfl := sj h
     obtain ⟨rfl, rfl⟩ := hx0 (-1:Int32) rfl
     exact retI rfl rfl
  ·refine yT Ad W 125 70 rfl (XT.ii_ge_t c46) ?_
   refine yS Ad W 1 (126, [vR 1, nN, nN, nN, nN, vI x5, vI x6, vI x7, vI v, nN], [.int (-1:Int32)], (H0 s o)) rfl ?_
   obtain rfl := sj h
   obtain ⟨rfl, rfl⟩ := hx0 (-1:Int32) rfl
   exact retI rfl rfl
 ·refine yT Ad W 125 64 rfl (XT.ii_ge_t c45) ?_
  refine yS Ad W 1 (126, [vR 1, nN, nN, nN, nN, vI x5, vI x6, vI x7, vI v, nN], [.int (-1:Int32)], (H0 s o)) rfl ?_
  obtain rfl := sj h
  obtain ⟨rfl, rfl⟩ := hx0 (-1:Int32) rfl
  exact retI rfl rfl
/-- runBits(II)I -/
def F30 (o : Ob) (x1 x2 : Int32) : Option (Int32) :=
 (aget (fX o) x1).bind fun y38 => (F31 x2 y38).bind fun r39 => (aget (fa o) x1).bind fun y40 => (if r39 < (y40.toInt64) then (if r39 < (64 : Int64) then (aget (fY o) x1).bind fun y43 => (aget (fZ o) x1).bind fun y44 => (loopN (B30_57 o (r39.toInt32) y43 y44) qN (0:Int32)).bind fun e52 => some e52 else some (-1:Int32)) else some (-1:Int32))
theorem tF30 (Ad : QAd n0 ad) (W : QW Z a0) (s : List Int32) (o : Ob) (x1 x2 : Int32) {r : Int32} (h : F30 o x1 x2 = some r) : QTri l Z n0 ad 30 (0, qentry [.ref 1, .int x1, .int x2] (pMaxL 30), [], (H0 s o)) (some (Value.int r)) (H0 s o) := by
 unfold F30 at h
 refine yS Ad W 5 (7, [vR 1, vI x1, vI x2, nN, nN, nN, nN, nN, nN, nN], [.int x1, .ref 11, .int x2, .ref 1], (H0 s o)) rfl ?_
 obtain ⟨y38, hy38, h⟩ := be h
 refine zB Ad W (f := fun y38 => (8, [vR 1, vI x1, vI x2, nN, nN, nN, nN, nN, nN, nN], [.int y38, .int x2, .ref 1], (H0 s o))) rfl hy38 ?_
 obtain ⟨r39, hr39, h⟩ := be h
 refine callP W (a := 1) (as := [.int x2, .int y38]) (rest := []) (w := (some (.long r39))) (σ₁ := (H0 s o)) rfl rfl rfl rfl rfl rfl rfl rfl (tF31 Ad W x2 y38 hr39) ?_
 refine yS Ad W 5 (18, [vR 1, vI x1, vI x2, vL r39, nN, nN, nN, nN, nN, nN], [.int x1, .ref 14, .long r39], (H0 s o)) rfl ?_
 obtain ⟨y40, hy40, h⟩ := be h
 refine zB Ad W (f := fun y40 => (19, [vR 1, vI x1, vI x2, vL r39, nN, nN, nN, nN, nN, nN], [.int y40, .long r39], (H0 s o))) rfl hy40 ?_
 refine yS Ad W 2 (21, [vR 1, vI x1, vI x2, vL r39, nN, nN, nN, nN, nN, nN], [.int (XT.cmpL r39 (y40.toInt64))], (H0 s o)) rfl ?_
 rcases qite h with ⟨c41, h⟩ | ⟨c41, h⟩
 ·refine yF Ad W 32 24 rfl (XT.ll_ge_f c41) ?_
  refine yS Ad W 3 (29, [vR 1, vI x1, vI x2, vL r39, nN, nN, nN, nN, nN, nN], [.int (XT.cmpL r39 (64 : Int64))], (H0 s o)) rfl ?_
  rcases qite h with ⟨c42, h⟩ | ⟨c42, h⟩
  ·refine yT Ad W 34 32 rfl (XT.ll_lt_t c42) ?_
   refine yS Ad W 6 (43, [vR 1, vI x1, vI x2, vL r39, nN, vI (r39.toInt32), nN, nN, nN, nN], [.int x1, .ref 12], (H0 s o)) rfl ?_
   obtain ⟨y43, hy43, h⟩ := be h
   refine zB Ad W (f := fun y43 => (44, [vR 1, vI x1, vI x2, vL r39, nN, vI (r39.toInt32), nN, nN, nN, nN], [.int y43], (H0 s o))) rfl hy43 ?_
   refine yS Ad W 4 (51, [vR 1, vI x1, vI x2, vL r39, nN, vI (r39.toInt32), vI y43, nN, nN, nN], [.int x1, .ref 13], (H0 s o)) rfl ?_
   obtain ⟨y44, hy44, h⟩ := be h
   refine zB Ad W (f := fun y44 => (52, [vR 1, vI x1, vI x2, vL r39, nN, vI (r39.toInt32), vI y43, nN, nN, nN], [.int y44], (H0 s o))) rfl hy44 ?_
   refine yS Ad W 3 (57, [vR 1, vI x1, vI x2, vL r39, nN, vI (r39.toInt32), vI y43, vI y44, vI 0, nN], [], (H0 s o)) rfl ?_
   obtain ⟨e52, he52, h⟩ := be h
   refine zM [tt,ff,ff,ff,ff,tt,tt,tt,tt,ff] (loopN_tri (B := B30_57 o (r39.toInt32) y43 y44) (T := fun lv53 => QTri l Z n0 ad 30 (57, [vR 1, nN, nN, nN, nN, vI (r39.toInt32), vI y43, vI y44, vI lv53, nN], [], (H0 s o)) (some (Value.int r)) (H0 s o)) (KE := fun e52a => (some (Value.int r)) = (some (Value.int e52a)) ∧ (H0 s o) = (H0 s o)) (fun lv53 r hB hE hC => tB30_57 Ad W s o (r39.toInt32) y43 y44 lv53 hB (fun x q => hE _ q) (fun x q => hC x q)) qN (0:Int32) e52 he52 ?_)
   obtain rfl := sj h
   exact ⟨rfl, rfl⟩
  ·refine yF Ad W 34 32 rfl (XT.ll_lt_f c42) ?_
   refine yS Ad W 1 (33, [vR 1, vI x1, vI x2, vL r39, nN, nN, nN, nN, nN, nN], [.int (-1:Int32)], (H0 s o)) rfl ?_
   obtain rfl := sj h
   exact retI rfl rfl
 ·refine yT Ad W 32 24 rfl (XT.ll_ge_t c41) ?_
  refine yS Ad W 1 (33, [vR 1, vI x1, vI x2, vL r39, nN, nN, nN, nN, nN, nN], [.int (-1:Int32)], (H0 s o)) rfl ?_
  obtain rfl := sj h
  exact retI rfl rfl
/-- runLeaf(II)I -/
def F29 (o : Ob) (x1 x2 : Int32) : Option (Int32) :=
 (aget (fW o) x1).bind fun y31 => (if y31 = (2:Int32) then (aget (fX o) x1).bind fun y33 => (if x2 = y33 then (aget (fY o) x1).bind fun y35 => some y35 else some (-1:Int32)) else (if y31 = (3:Int32) then none else (if y31 = (4:Int32) then (F30 o x1 x2).bind fun r54 => some r54 else some (-1:Int32))))
theorem tF29 (Ad : QAd n0 ad) (W : QW Z a0) (s : List Int32) (o : Ob) (x1 x2 : Int32) {r : Int32} (h : F29 o x1 x2 = some r) : QTri l Z n0 ad 29 (0, qentry [.ref 1, .int x1, .int x2] (pMaxL 29), [], (H0 s o)) (some (Value.int r)) (H0 s o) := by
 unfold F29 at h
 refine yS Ad W 3 (5, [vR 1, vI x1, vI x2, nN], [.int x1, .ref 10], (H0 s o)) rfl ?_
 obtain ⟨y31, hy31, h⟩ := be h
 refine zB Ad W (f := fun y31 => (6, [vR 1, vI x1, vI x2, nN], [.int y31], (H0 s o))) rfl hy31 ?_
 refine yS Ad W 3 (9, [vR 1, vI x1, vI x2, vI y31], [.int 2, .int y31], (H0 s o)) rfl ?_
 rcases qite h with ⟨c32, h⟩ | ⟨c32, h⟩
 ·refine yF Ad W 31 12 rfl (XT.ii_ne_f c32) ?_
  refine yS Ad W 4 (18, [vR 1, vI x1, vI x2, vI y31], [.int x1, .ref 11, .int x2], (H0 s o)) rfl ?_
  obtain ⟨y33, hy33, h⟩ := be h
  refine zB Ad W (f := fun y33 => (19, [vR 1, vI x1, vI x2, vI y31], [.int y33, .int x2], (H0 s o))) rfl hy33 ?_
  rcases qite h with ⟨c34, h⟩ | ⟨c34, h⟩
  ·refine yF Ad W 29 22 rfl (XT.ii_ne_f c34) ?_
   refine yS Ad W 3 (27, [vR 1, vI x1, vI x2, vI y31], [.int x1, .ref 12], (H0 s o)) rfl ?_
   obtain ⟨y35, hy35, h⟩ := be h
   refine zB Ad W (f := fun y35 => (28, [vR 1, vI x1, vI x2, vI y31], [.int y35], (H0 s o))) rfl hy35 ?_
   obtain rfl := sj h
   exact retI rfl rfl
  ·refine yT Ad W 29 22 rfl (XT.ii_ne_t c34) ?_
   refine yS Ad W 1 (30, [vR 1, vI x1, vI x2, vI y31], [.int (-1:Int32)], (H0 s o)) rfl ?_
   obtain rfl := sj h
   exact retI rfl rfl
 ·refine yT Ad W 31 12 rfl (XT.ii_ne_t c32) ?_
  refine yS Ad W 2 (33, [vR 1, vI x1, vI x2, vI y31], [.int 3, .int y31], (H0 s o)) rfl ?_
  rcases qite h with ⟨c36, h⟩ | ⟨c36, h⟩
  ·refine yF Ad W 43 36 rfl (XT.ii_ne_f c36) ?_
   cases h
  ·refine yT Ad W 43 36 rfl (XT.ii_ne_t c36) ?_
   refine yS Ad W 2 (45, [vR 1, vI x1, vI x2, vI y31], [.int 4, .int y31], (H0 s o)) rfl ?_
   rcases qite h with ⟨c37, h⟩ | ⟨c37, h⟩
   ·refine yF Ad W 55 48 rfl (XT.ii_ne_f c37) ?_
    refine yS Ad W 3 (51, [vR 1, vI x1, vI x2, vI y31], [.int x2, .int x1, .ref 1], (H0 s o)) rfl ?_
    obtain ⟨r54, hr54, h⟩ := be h
    refine callP W (a := 1) (as := [.int x1, .int x2]) (rest := []) (w := (some (.int r54))) (σ₁ := (H0 s o)) rfl rfl rfl rfl rfl rfl rfl rfl (tF30 Ad W s o x1 x2 hr54) ?_
    obtain rfl := sj h
    exact retI rfl rfl
   ·refine yT Ad W 55 48 rfl (XT.ii_ne_t c37) ?_
    refine yS Ad W 1 (56, [vR 1, vI x1, vI x2, vI y31], [.int (-1:Int32)], (H0 s o)) rfl ?_
    obtain rfl := sj h
    exact retI rfl rfl
def B28_7 (o : Ob) (x1 : Int32) (v : Int32 × Int32) : Option (((Int32)) ⊕ (Int32 × Int32)) :=
  (if v.2 < (64 : Int32) then (if v.1 < (0 : Int32) then (J28_25 o) else (if v.1 < (fxI o) then (aget (fW o) v.1).bind fun y23 => (if y23 = (0 : Int32) then (aget (fX o) v.1).bind fun y25 => some (.inl y25) else (if y23 = (1 : Int32) then (aget (fX o) v.1).bind fun y27 => (if x1 < y27 then (aget (fY o) v.1).bind fun y29 => (J28_81 o x1 v.2 y29) else (aget (fZ o) v.1).bind fun y30 => (J28_81 o x1 v.2 y30)) else (F29 o v.1 x1).bind fun r55 => (if r55 < (0 : Int32) then (J28_103 o x1 (0 : Int32) v.2) else some (.inl r55)))) else (J28_25 o))) else some (.inl (fxF o)))
theorem tB28_7 (Ad : QAd n0 ad) (W : QW Z a0) (s : List Int32) (o : Ob) (x1 : Int32) (v : Int32 × Int32) {r : ((Int32)) ⊕ (Int32 × Int32)} {u : Option Value} {τ : QHeap} (h : B28_7 o x1 v = some r) (hx0 : ∀ x : Int32, r = .inl x → u = (some (Value.int x)) ∧ τ = (H0 s o)) (hc : ∀ x : Int32 × Int32, r = .inr x → QTri l Z n0 ad 28 (7, [vR 1, vI x1, vI x.1, vI x.2, nN, nN], [], (H0 s o)) u τ) : QTri l Z n0 ad 28 (7, [vR 1, vI x1, vI v.1, vI v.2, nN, nN], [], (H0 s o)) u τ := by
 unfold B28_7 at h
 refine yS Ad W 2 (10, [vR 1, vI x1, vI v.1, vI v.2, nN, nN], [.int 64, .int v.2], (H0 s o)) rfl ?_
 rcases qite h with ⟨c20, h⟩ | ⟨c20, h⟩
 ·refine yF Ad W 109 13 rfl (XT.ii_ge_f c20) ?_
  refine yS Ad W 1 (14, [vR 1, vI x1, vI v.1, vI v.2, nN, nN], [.int v.1], (H0 s o)) rfl ?_
  rcases qite h with ⟨c21, h⟩ | ⟨c21, h⟩
  ·refine yT Ad W 25 17 rfl (XT.i0_lt_t c21) ?_
   exact zM [tt,ff,ff,ff,ff,ff] (tJ28_25 Ad W s x1 o h hx0 hc)
  ·refine yF Ad W 25 17 rfl (XT.i0_lt_f c21) ?_
   refine yS Ad W 3 (22, [vR 1, vI x1, vI v.1, vI v.2, nN, nN], [.int (fxI o), .int v.1], (H0 s o)) rfl ?_
   rcases qite h with ⟨c22, h⟩ | ⟨c22, h⟩
   ·refine yT Ad W 30 25 rfl (XT.ii_lt_t c22) ?_
    refine yS Ad W 3 (35, [vR 1, vI x1, vI v.1, vI v.2, nN, nN], [.int v.1, .ref 10], (H0 s o)) rfl ?_
    obtain ⟨y23, hy23, h⟩ := be h
    refine zB Ad W (f := fun y23 => (36, [vR 1, vI x1, vI v.1, vI v.2, nN, nN], [.int y23], (H0 s o))) rfl hy23 ?_
    refine yS Ad W 2 (40, [vR 1, vI x1, vI v.1, vI v.2, vI y23, nN], [.int y23], (H0 s o)) rfl ?_
    rcases qite h with ⟨c24, h⟩ | ⟨c24, h⟩
    ·refine yF Ad W 50 43 rfl (XT.i0_ne_f c24) ?_
     refine yS Ad W 3 (48, [vR 1, vI x1, vI v.1, vI v.2, vI y23, nN], [.int v.1, .ref 11], (H0 s o)) rfl ?_
     obtain ⟨y25, hy25, h⟩ := be h
     refine zB Ad W (f := fun y25 => (49, [vR 1, vI x1, vI v.1, vI v.2, vI y23, nN], [.int y25], (H0 s o))) rfl hy25 ?_
     obtain rfl := sj h
     obtain ⟨rfl, rfl⟩ := hx0 y25 rfl
     exact retI rfl rfl
    ·refine yT Ad W 50 43 rfl (XT.i0_ne_t c24) ?_
     refine yS Ad W 2 (53, [vR 1, vI x1, vI v.1, vI v.2, vI y23, nN], [.int 1, .int y23], (H0 s o)) rfl ?_
     rcases qite h with ⟨c26, h⟩ | ⟨c26, h⟩
     ·refine yF Ad W 85 56 rfl (XT.ii_ne_f c26) ?_
      refine yS Ad W 4 (62, [vR 1, vI x1, vI v.1, vI v.2, vI y23, nN], [.int v.1, .ref 11, .int x1], (H0 s o)) rfl ?_
      obtain ⟨y27, hy27, h⟩ := be h
      refine zB Ad W (f := fun y27 => (63, [vR 1, vI x1, vI v.1, vI v.2, vI y23, nN], [.int y27, .int x1], (H0 s o))) rfl hy27 ?_
      rcases qite h with ⟨c28, h⟩ | ⟨c28, h⟩
      ·refine yF Ad W 75 66 rfl (XT.ii_ge_f c28) ?_
       refine yS Ad W 3 (71, [vR 1, vI x1, vI v.1, vI v.2, vI y23, nN], [.int v.1, .ref 12], (H0 s o)) rfl ?_
       obtain ⟨y29, hy29, h⟩ := be h
       refine zB Ad W (f := fun y29 => (72, [vR 1, vI x1, vI v.1, vI v.2, vI y23, nN], [.int y29], (H0 s o))) rfl hy29 ?_
       refine yS Ad W 1 (81, [vR 1, vI x1, vI v.1, vI v.2, vI y23, nN], [.int y29], (H0 s o)) rfl ?_
       exact zM [tt,tt,ff,tt,ff,ff] (tJ28_81 Ad W s o x1 v.2 y29 h hx0 hc)
      ·refine yT Ad W 75 66 rfl (XT.ii_ge_t c28) ?_
       refine yS Ad W 3 (80, [vR 1, vI x1, vI v.1, vI v.2, vI y23, nN], [.int v.1, .ref 13], (H0 s o)) rfl ?_
       obtain ⟨y30, hy30, h⟩ := be h
       refine zB Ad W (f := fun y30 => (81, [vR 1, vI x1, vI v.1, vI v.2, vI y23, nN], [.int y30], (H0 s o))) rfl hy30 ?_
       exact zM [tt,tt,ff,tt,ff,ff] (tJ28_81 Ad W s o x1 v.2 y30 h hx0 hc)
     ·refine yT Ad W 85 56 rfl (XT.ii_ne_t c26) ?_
      refine yS Ad W 3 (88, [vR 1, vI x1, vI v.1, vI v.2, vI y23, nN], [.int x1, .int v.1, .ref 1], (H0 s o)) rfl ?_
      obtain ⟨r55, hr55, h⟩ := be h
      refine callP W (a := 1) (as := [.int v.1, .int x1]) (rest := []) (w := (some (.int r55))) (σ₁ := (H0 s o)) rfl rfl rfl rfl rfl rfl rfl rfl (tF29 Ad W s o v.1 x1 hr55) ?_
      refine yS Ad W 2 (95, [vR 1, vI x1, vI v.1, vI v.2, vI y23, vI r55], [.int r55], (H0 s o)) rfl ?_
      rcases qite h with ⟨c56, h⟩ | ⟨c56, h⟩
      ·refine yT Ad W 101 98 rfl (XT.i0_lt_t c56) ?_
       refine yS Ad W 2 (103, [vR 1, vI x1, vI 0, vI v.2, vI y23, vI r55], [], (H0 s o)) rfl ?_
       exact zM [tt,tt,tt,tt,ff,ff] (tJ28_103 Ad W s o x1 (0:Int32) v.2 h hx0 hc)
      ·refine yF Ad W 101 98 rfl (XT.i0_lt_f c56) ?_
       refine yS Ad W 1 (100, [vR 1, vI x1, vI v.1, vI v.2, vI y23, vI r55], [.int r55], (H0 s o)) rfl ?_
       obtain rfl := sj h
       obtain ⟨rfl, rfl⟩ := hx0 r55 rfl
       exact retI rfl rfl
   ·refine yF Ad W 30 25 rfl (XT.ii_lt_f c22) ?_
    exact zM [tt,ff,ff,ff,ff,ff] (tJ28_25 Ad W s x1 o h hx0 hc)
 ·refine yT Ad W 109 13 rfl (XT.ii_ge_t c20) ?_
  refine yS Ad W 2 (113, [vR 1, vI x1, vI v.1, vI v.2, nN, nN], [.int (fxF o)], (H0 s o)) rfl ?_
  obtain rfl := sj h
  obtain ⟨rfl, rfl⟩ := hx0 (fxF o) rfl
  exact retI rfl rfl
/-- run(I)I -/
def F28 (o : Ob) (x1 : Int32) : Option (Int32) :=
 (loopN (B28_7 o x1) qN ((fxJ o), (0:Int32))).bind fun e57 => some e57
theorem tF28 (Ad : QAd n0 ad) (W : QW Z a0) (s : List Int32) (o : Ob) (x1 : Int32) {r : Int32} (h : F28 o x1 = some r) : QTri l Z n0 ad 28 (0, qentry [.ref 1, .int x1] (pMaxL 28), [], (H0 s o)) (some (Value.int r)) (H0 s o) := by
 unfold F28 at h
 refine yS Ad W 5 (7, [vR 1, vI x1, vI (fxJ o), vI 0, nN, nN], [], (H0 s o)) rfl ?_
 obtain ⟨e57, he57, h⟩ := be h
 refine zM [tt,tt,tt,tt,ff,ff] (loopN_tri (B := B28_7 o x1) (T := fun lv58 => QTri l Z n0 ad 28 (7, [vR 1, vI x1, vI lv58.1, vI lv58.2, nN, nN], [], (H0 s o)) (some (Value.int r)) (H0 s o)) (KE := fun e57a => (some (Value.int r)) = (some (Value.int e57a)) ∧ (H0 s o) = (H0 s o)) (fun lv58 r hB hE hC => tB28_7 Ad W s o x1 lv58 hB (fun x q => hE _ q) (fun x q => hC x q)) qN ((fxJ o), (0:Int32)) e57 he57 ?_)
 obtain rfl := sj h
 exact ⟨rfl, rfl⟩
/-- route(I)I -/
def F7 (o : Ob) (x1 : Int32) : Option (Int32) :=
 (if (fxG o) = (0:Int32) then some (-1:Int32) else (F28 o x1).bind fun r59 => some r59)
theorem tF7 (Ad : QAd n0 ad) (W : QW Z a0) (s : List Int32) (o : Ob) (x1 : Int32) {r : Int32} (h : F7 o x1 = some r) : QTri l Z n0 ad 7 (0, qentry [.ref 1, .int x1] (pMaxL 7), [], (H0 s o)) (some (Value.int r)) (H0 s o) := by
 unfold F7 at h
 refine yS Ad W 2 (4, [vR 1, vI x1], [.int (fxG o)], (H0 s o)) rfl ?_
 rcases qite h with ⟨c19, h⟩ | ⟨c19, h⟩
 ·refine yF Ad W 9 7 rfl (XT.i0_ne_f c19) ?_
  refine yS Ad W 1 (8, [vR 1, vI x1], [.int (-1:Int32)], (H0 s o)) rfl ?_
  obtain rfl := sj h
  exact retI rfl rfl
 ·refine yT Ad W 9 7 rfl (XT.i0_ne_t c19) ?_
  refine yS Ad W 2 (11, [vR 1, vI x1], [.int x1, .ref 1], (H0 s o)) rfl ?_
  obtain ⟨r59, hr59, h⟩ := be h
  refine callP W (a := 1) (as := [.int x1]) (rest := []) (w := (some (.int r59))) (σ₁ := (H0 s o)) rfl rfl rfl rfl rfl rfl rfl rfl (tF28 Ad W s o x1 hr59) ?_
  obtain rfl := sj h
  exact retI rfl rfl
def B10_10 (o : Ob) (x1 : Int32) (v : Int32 × Int32 × Int32) : Option (((Int32)) ⊕ (Int32 × Int32 × Int32)) :=
  (if v.2.2 < (16 : Int32) then (if v.1 < v.2.1 then (aget (fO o) (XT.ushr (v.1 + v.2.1) (1 : Int32))).bind fun y63 => some (.inr ((if y63 < x1 then ((XT.ushr (v.1 + v.2.1) (1 : Int32)) + (1 : Int32)) else v.1), (if y63 < x1 then v.2.1 else (XT.ushr (v.1 + v.2.1) (1 : Int32))), (v.2.2 + (1 : Int32)))) else some (.inl v.1)) else some (.inl v.1))
theorem tB10_10 (Ad : QAd n0 ad) (W : QW Z a0) (s : List Int32) (o : Ob) (x1 : Int32) (v : Int32 × Int32 × Int32) {r : ((Int32)) ⊕ (Int32 × Int32 × Int32)} {u : Option Value} {τ : QHeap} (h : B10_10 o x1 v = some r) (hx0 : ∀ x : Int32, r = .inl x → u = (some (Value.int x)) ∧ τ = (H0 s o)) (hc : ∀ x : Int32 × Int32 × Int32, r = .inr x → QTri l Z n0 ad 10 (10, [vR 1, vI x1, vI x.1, vI x.2.1, vI x.2.2, nN], [], (H0 s o)) u τ) : QTri l Z n0 ad 10 (10, [vR 1, vI x1, vI v.1, vI v.2.1, vI v.2.2, nN], [], (H0 s o)) u τ := by
 unfold B10_10 at h
 refine yS Ad W 2 (14, [vR 1, vI x1, vI v.1, vI v.2.1, vI v.2.2, nN], [.int 16, .int v.2.2], (H0 s o)) rfl ?_
 rcases qite h with ⟨c61, h⟩ | ⟨c61, h⟩
 ·refine yF Ad W 57 17 rfl (XT.ii_ge_f c61) ?_
  refine yS Ad W 2 (19, [vR 1, vI x1, vI v.1, vI v.2.1, vI v.2.2, nN], [.int v.2.1, .int v.1], (H0 s o)) rfl ?_
  rcases qite h with ⟨c62, h⟩ | ⟨c62, h⟩
  ·refine yF Ad W 57 22 rfl (XT.ii_ge_f c62) ?_
   refine yS Ad W 9 (35, [vR 1, vI x1, vI v.1, vI v.2.1, vI v.2.2, vI (XT.ushr (v.1 + v.2.1) (1:Int32))], [.int (XT.ushr (v.1 + v.2.1) (1:Int32)), .ref 2], (H0 s o)) rfl ?_
   obtain ⟨y63, hy63, h⟩ := be h
   refine zB Ad W (f := fun y63 => (36, [vR 1, vI x1, vI v.1, vI v.2.1, vI v.2.2, vI (XT.ushr (v.1 + v.2.1) (1:Int32))], [.int y63], (H0 s o))) rfl hy63 ?_
   refine yS Ad W 1 (37, [vR 1, vI x1, vI v.1, vI v.2.1, vI v.2.2, vI (XT.ushr (v.1 + v.2.1) (1:Int32))], [.int x1, .int y63], (H0 s o)) rfl ?_
   have K66 : ∀ z64 : Int32, z64 = (if y63 < x1 then ((XT.ushr (v.1 + v.2.1) (1:Int32)) + (1:Int32)) else v.1) → ∀ z65 : Int32, z65 = (if y63 < x1 then v.2.1 else (XT.ushr (v.1 + v.2.1) (1:Int32))) → QTri l Z n0 ad 10 (51, [vR 1, vI x1, vI z64, vI z65, vI v.2.2, nN], [], (H0 s o)) u τ := by
    intro z64 ez64
    intro z65 ez65
    subst ez64
    subst ez65
    refine yS Ad W 2 (10, [vR 1, vI x1, vI (if y63 < x1 then ((XT.ushr (v.1 + v.2.1) (1:Int32)) + (1:Int32)) else v.1), vI (if y63 < x1 then v.2.1 else (XT.ushr (v.1 + v.2.1) (1:Int32))), vI (v.2.2 + (1:Int32)), nN], [], (H0 s o)) rfl ?_
    obtain rfl := sj h
    exact zM [tt,tt,tt,tt,tt,ff] (hc ((if y63 < x1 then ((XT.ushr (v.1 + v.2.1) (1:Int32)) + (1:Int32)) else v.1), (if y63 < x1 then v.2.1 else (XT.ushr (v.1 + v.2.1) (1:Int32))), (v.2.2 + (1:Int32))) rfl)
   rcases em (y63 < x1) with c67 | c67
   ·refine yF Ad W 48 40 rfl (XT.ii_ge_f c67) ?_
    refine yS Ad W 5 (51, [vR 1, vI x1, vI ((XT.ushr (v.1 + v.2.1) (1:Int32)) + (1:Int32)), vI v.2.1, vI v.2.2, vI (XT.ushr (v.1 + v.2.1) (1:Int32))], [], (H0 s o)) rfl ?_
    exact zM [tt,tt,tt,tt,tt,ff] (K66 _ (if_pos c67).symm _ (if_pos c67).symm)
   ·refine yT Ad W 48 40 rfl (XT.ii_ge_t c67) ?_
    refine yS Ad W 2 (51, [vR 1, vI x1, vI v.1, vI (XT.ushr (v.1 + v.2.1) (1:Int32)), vI v.2.2, vI (XT.ushr (v.1 + v.2.1) (1:Int32))], [], (H0 s o)) rfl ?_
    exact zM [tt,tt,tt,tt,tt,ff] (K66 _ (if_neg c67).symm _ (if_neg c67).symm)
  ·refine yT Ad W 57 22 rfl (XT.ii_ge_t c62) ?_
   refine yS Ad W 1 (58, [vR 1, vI x1, vI v.1, vI v.2.1, vI v.2.2, nN], [.int v.1], (H0 s o)) rfl ?_
   obtain rfl := sj h
   obtain ⟨rfl, rfl⟩ := hx0 v.1 rfl
   exact retI rfl rfl
 ·refine yT Ad W 57 17 rfl (XT.ii_ge_t c61) ?_
  refine yS Ad W 1 (58, [vR 1, vI x1, vI v.1, vI v.2.1, vI v.2.2, nN], [.int v.1], (H0 s o)) rfl ?_
  obtain rfl := sj h
  obtain ⟨rfl, rfl⟩ := hx0 v.1 rfl
  exact retI rfl rfl
/-- curLowerBound(I)I -/
def F10 (o : Ob) (x1 : Int32) : Option (Int32) :=
 (loopN (B10_10 o x1) qN ((0:Int32), (fxB o), (0:Int32))).bind fun e68 => some e68
theorem tF10 (Ad : QAd n0 ad) (W : QW Z a0) (s : List Int32) (o : Ob) (x1 : Int32) {r : Int32} (h : F10 o x1 = some r) : QTri l Z n0 ad 10 (0, qentry [.ref 1, .int x1] (pMaxL 10), [], (H0 s o)) (some (Value.int r)) (H0 s o) := by
 unfold F10 at h
 refine yS Ad W 5 (7, [vR 1, vI x1, vI 0, vI (fxB o), nN, nN], [], (H0 s o)) rfl ?_
 refine yS Ad W 2 (10, [vR 1, vI x1, vI 0, vI (fxB o), vI 0, nN], [], (H0 s o)) rfl ?_
 obtain ⟨e68, he68, h⟩ := be h
 refine zM [tt,tt,tt,tt,tt,ff] (loopN_tri (B := B10_10 o x1) (T := fun lv69 => QTri l Z n0 ad 10 (10, [vR 1, vI x1, vI lv69.1, vI lv69.2.1, vI lv69.2.2, nN], [], (H0 s o)) (some (Value.int r)) (H0 s o)) (KE := fun e68a => (some (Value.int r)) = (some (Value.int e68a)) ∧ (H0 s o) = (H0 s o)) (fun lv69 r hB hE hC => tB10_10 Ad W s o x1 lv69 hB (fun x q => hE _ q) (fun x q => hC x q)) qN ((0:Int32), (fxB o), (0:Int32)) e68 he68 ?_)
 obtain rfl := sj h
 exact ⟨rfl, rfl⟩
/-- curIndexOf(I)I -/
def F9 (o : Ob) (x1 : Int32) : Option (Int32) :=
 (F10 o x1).bind fun r70 => (if r70 < (fxB o) then (aget (fO o) r70).bind fun y72 => (if y72 = x1 then some r70 else some (-1:Int32)) else some (-1:Int32))
theorem tF9 (Ad : QAd n0 ad) (W : QW Z a0) (s : List Int32) (o : Ob) (x1 : Int32) {r : Int32} (h : F9 o x1 = some r) : QTri l Z n0 ad 9 (0, qentry [.ref 1, .int x1] (pMaxL 9), [], (H0 s o)) (some (Value.int r)) (H0 s o) := by
 unfold F9 at h
 refine yS Ad W 2 (2, [vR 1, vI x1, nN], [.int x1, .ref 1], (H0 s o)) rfl ?_
 obtain ⟨r70, hr70, h⟩ := be h
 refine callP W (a := 1) (as := [.int x1]) (rest := []) (w := (some (.int r70))) (σ₁ := (H0 s o)) rfl rfl rfl rfl rfl rfl rfl rfl (tF10 Ad W s o x1 hr70) ?_
 refine yS Ad W 4 (11, [vR 1, vI x1, vI r70], [.int (fxB o), .int r70], (H0 s o)) rfl ?_
 rcases qite h with ⟨c71, h⟩ | ⟨c71, h⟩
 ·refine yF Ad W 26 14 rfl (XT.ii_ge_f c71) ?_
  refine yS Ad W 3 (19, [vR 1, vI x1, vI r70], [.int r70, .ref 2], (H0 s o)) rfl ?_
  obtain ⟨y72, hy72, h⟩ := be h
  refine zB Ad W (f := fun y72 => (20, [vR 1, vI x1, vI r70], [.int y72], (H0 s o))) rfl hy72 ?_
  refine yS Ad W 1 (21, [vR 1, vI x1, vI r70], [.int x1, .int y72], (H0 s o)) rfl ?_
  rcases qite h with ⟨c73, h⟩ | ⟨c73, h⟩
  ·refine yF Ad W 26 24 rfl (XT.ii_ne_f c73) ?_
   refine yS Ad W 1 (25, [vR 1, vI x1, vI r70], [.int r70], (H0 s o)) rfl ?_
   obtain rfl := sj h
   exact retI rfl rfl
  ·refine yT Ad W 26 24 rfl (XT.ii_ne_t c73) ?_
   refine yS Ad W 1 (27, [vR 1, vI x1, vI r70], [.int (-1:Int32)], (H0 s o)) rfl ?_
   obtain rfl := sj h
   exact retI rfl rfl
 ·refine yT Ad W 26 14 rfl (XT.ii_ge_t c71) ?_
  refine yS Ad W 1 (27, [vR 1, vI x1, vI r70], [.int (-1:Int32)], (H0 s o)) rfl ?_
  obtain rfl := sj h
  exact retI rfl rfl
/-- lookup(I)I -/
def F8 (o : Ob) (x1 : Int32) : Option (Int32) :=
 (F9 o x1).bind fun r74 => (if r74 < (0:Int32) then some (fxC o) else (aget (fP o) r74).bind fun y76 => some y76)
theorem tF8 (Ad : QAd n0 ad) (W : QW Z a0) (s : List Int32) (o : Ob) (x1 : Int32) {r : Int32} (h : F8 o x1 = some r) : QTri l Z n0 ad 8 (0, qentry [.ref 1, .int x1] (pMaxL 8), [], (H0 s o)) (some (Value.int r)) (H0 s o) := by
 unfold F8 at h
 refine yS Ad W 2 (2, [vR 1, vI x1, nN], [.int x1, .ref 1], (H0 s o)) rfl ?_
 obtain ⟨r74, hr74, h⟩ := be h
 refine callP W (a := 1) (as := [.int x1]) (rest := []) (w := (some (.int r74))) (σ₁ := (H0 s o)) rfl rfl rfl rfl rfl rfl rfl rfl (tF9 Ad W s o x1 hr74) ?_
 refine yS Ad W 2 (7, [vR 1, vI x1, vI r74], [.int r74], (H0 s o)) rfl ?_
 rcases qite h with ⟨c75, h⟩ | ⟨c75, h⟩
 ·refine yF Ad W 15 10 rfl (XT.i0_ge_f c75) ?_
  refine yS Ad W 2 (14, [vR 1, vI x1, vI r74], [.int (fxC o)], (H0 s o)) rfl ?_
  obtain rfl := sj h
  exact retI rfl rfl
 ·refine yT Ad W 15 10 rfl (XT.i0_ge_t c75) ?_
  refine yS Ad W 3 (20, [vR 1, vI x1, vI r74], [.int r74, .ref 3], (H0 s o)) rfl ?_
  obtain ⟨y76, hy76, h⟩ := be h
  refine zB Ad W (f := fun y76 => (21, [vR 1, vI x1, vI r74], [.int y76], (H0 s o))) rfl hy76 ?_
  obtain rfl := sj h
  exact retI rfl rfl
def H0x15 (s : List Int32) (o0 : Ob) (a0_14 : List Int32) : QHeap := H0v s (fA o0) (fB o0) (fC o0) (fD o0) (fE o0) (fF o0) (fG o0) (fH o0) (fI o0) (fJ o0) (fK o0) (fL o0) (fM o0) (fN o0) a0_14 (fP o0) (fQ o0) (fR o0) (fS o0) (fT o0) (fU o0) (fV o0) (fW o0) (fX o0) (fY o0) (fZ o0) (fa o0) (fb o0) (fd o0) (fh o0) (fi o0) (fq o0) (fu o0) (fy o0) (fz o0) (fxA o0) (fxB o0) (fxC o0) (fxD o0) (fxE o0) (fxF o0) (fxG o0) (fxH o0) (fxI o0) (fxJ o0) (fxK o0) (fxL o0) (fxM o0)
def H0x16 (s : List Int32) (o0 : Ob) (a0_14 a0_15 : List Int32) : QHeap := H0v s (fA o0) (fB o0) (fC o0) (fD o0) (fE o0) (fF o0) (fG o0) (fH o0) (fI o0) (fJ o0) (fK o0) (fL o0) (fM o0) (fN o0) a0_14 a0_15 (fQ o0) (fR o0) (fS o0) (fT o0) (fU o0) (fV o0) (fW o0) (fX o0) (fY o0) (fZ o0) (fa o0) (fb o0) (fd o0) (fh o0) (fi o0) (fq o0) (fu o0) (fy o0) (fz o0) (fxA o0) (fxB o0) (fxC o0) (fxD o0) (fxE o0) (fxF o0) (fxG o0) (fxH o0) (fxI o0) (fxJ o0) (fxK o0) (fxL o0) (fxM o0)
def B36_14 (v : Int32 × Ob) : Option (((Ob)) ⊕ (Int32 × Ob)) :=
  (if (v.1 + (1 : Int32)) < (fxB v.2) then (aget (fO v.2) (v.1 + (1 : Int32))).bind fun y83 => (aset (fO v.2) v.1 y83).bind fun y84 => (aget (fP v.2) (v.1 + (1 : Int32))).bind fun y85 => (aset (fP v.2) v.1 (y85.toInt8.toInt32)).bind fun y86 => some (.inr ((v.1 + (1 : Int32)), (sP (sO v.2 y84) y86))) else some (.inl v.2))
theorem tB36_14 (Ad : QAd n0 ad) (W : QW Z a0) (s : List Int32) (v : Int32 × Ob) {r : ((Ob)) ⊕ (Int32 × Ob)} {u : Option Value} {τ : QHeap} (h : B36_14 v = some r) (hx0 : ∀ x : Ob, r = .inl x → QTri l Z n0 ad 36 (58, [vR 1, nN, nN, nN], [], (H0 s x)) u τ) (hc : ∀ x : Int32 × Ob, r = .inr x → QTri l Z n0 ad 36 (14, [vR 1, nN, nN, vI x.1], [], (H0 s x.2)) u τ) : QTri l Z n0 ad 36 (14, [vR 1, nN, nN, vI v.1], [], (H0 s v.2)) u τ := by
 unfold B36_14 at h
 refine yS Ad W 5 (21, [vR 1, nN, nN, vI v.1], [.int (fxB v.2), .int (v.1 + (1:Int32))], (H0 s v.2)) rfl ?_
 rcases qite h with ⟨c82, h⟩ | ⟨c82, h⟩
 ·refine yF Ad W 58 24 rfl (XT.ii_ge_f c82) ?_
  refine yS Ad W 8 (36, [vR 1, nN, nN, vI v.1], [.int (v.1 + (1:Int32)), .ref 2, .int v.1, .ref 2], (H0 s v.2)) rfl ?_
  obtain ⟨y83, hy83, h⟩ := be h
  refine zB Ad W (f := fun y83 => (37, [vR 1, nN, nN, vI v.1], [.int y83, .int v.1, .ref 2], (H0 s v.2))) rfl hy83 ?_
  obtain ⟨y84, hy84, h⟩ := be h
  refine zB Ad W (f := fun y84 => (38, [vR 1, nN, nN, vI v.1], [], (H0x15 s v.2 y84))) rfl hy84 ?_
  refine yS Ad W 8 (50, [vR 1, nN, nN, vI v.1], [.int (v.1 + (1:Int32)), .ref 3, .int v.1, .ref 3], (H0x15 s v.2 y84)) rfl ?_
  obtain ⟨y85, hy85, h⟩ := be h
  refine zB Ad W (f := fun y85 => (51, [vR 1, nN, nN, vI v.1], [.int y85, .int v.1, .ref 3], (H0x15 s v.2 y84))) rfl hy85 ?_
  obtain ⟨y86, hy86, h⟩ := be h
  refine zB Ad W (f := fun y86 => (52, [vR 1, nN, nN, vI v.1], [], (H0x16 s v.2 y84 y86))) rfl hy86 ?_
  refine yS Ad W 2 (14, [vR 1, nN, nN, vI (v.1 + (1:Int32))], [], (H0x16 s v.2 y84 y86)) rfl ?_
  have E87 : ((H0x16 s v.2 y84 y86) : QHeap) = (H0 s (sP (sO v.2 y84) y86)) := by simp only [fs, H0, H0v, H0x16, sO, sP]
  rw [E87]
  obtain rfl := sj h
  exact zM [tt,ff,ff,tt] (hc ((v.1 + (1:Int32)), (sP (sO v.2 y84) y86)) rfl)
 ·refine yT Ad W 58 24 rfl (XT.ii_ge_t c82) ?_
  obtain rfl := sj h
  exact zM [tt,ff,ff,ff] (hx0 v.2 rfl)
def H0x17 (s : List Int32) (o0 : Ob) (a0_36 a0_38 : Int32) : QHeap := H0v s (fA o0) (fB o0) (fC o0) (fD o0) (fE o0) (fF o0) (fG o0) (fH o0) (fI o0) (fJ o0) (fK o0) (fL o0) (fM o0) (fN o0) (fO o0) (fP o0) (fQ o0) (fR o0) (fS o0) (fT o0) (fU o0) (fV o0) (fW o0) (fX o0) (fY o0) (fZ o0) (fa o0) (fb o0) (fd o0) (fh o0) (fi o0) (fq o0) (fu o0) (fy o0) (fz o0) (fxA o0) a0_36 (fxC o0) a0_38 (fxE o0) (fxF o0) (fxG o0) (fxH o0) (fxI o0) (fxJ o0) (fxK o0) (fxL o0) (fxM o0)
/-- removeCase(I)I -/
def F36 (o : Ob) (x1 : Int32) : Option (Int32 × Ob) :=
 (F9 o x1).bind fun r80 => (if r80 < (0:Int32) then some ((4:Int32), o) else (loopN (B36_14) qN (r80, o)).bind fun e88 => some ((0:Int32), (sxD (sxB e88 ((fxB e88) - (1:Int32))) (1:Int32))))
theorem tF36 (Ad : QAd n0 ad) (W : QW Z a0) (s : List Int32) (o : Ob) (x1 : Int32) {r : Int32 × Ob} (h : F36 o x1 = some r) : QTri l Z n0 ad 36 (0, qentry [.ref 1, .int x1] (pMaxL 36), [], (H0 s o)) (some (Value.int r.1)) (H0 s r.2) := by
 unfold F36 at h
 refine yS Ad W 2 (2, [vR 1, vI x1, nN, nN], [.int x1, .ref 1], (H0 s o)) rfl ?_
 obtain ⟨r80, hr80, h⟩ := be h
 refine callP W (a := 1) (as := [.int x1]) (rest := []) (w := (some (.int r80))) (σ₁ := (H0 s o)) rfl rfl rfl rfl rfl rfl rfl rfl (tF9 Ad W s o x1 hr80) ?_
 refine yS Ad W 2 (7, [vR 1, vI x1, vI r80, nN], [.int r80], (H0 s o)) rfl ?_
 rcases qite h with ⟨c81, h⟩ | ⟨c81, h⟩
 ·refine yF Ad W 12 10 rfl (XT.i0_ge_f c81) ?_
  refine yS Ad W 1 (11, [vR 1, vI x1, vI r80, nN], [.int 4], (H0 s o)) rfl ?_
  obtain rfl := sj h
  exact retI rfl rfl
 ·refine yT Ad W 12 10 rfl (XT.i0_ge_t c81) ?_
  refine yS Ad W 2 (14, [vR 1, vI x1, vI r80, vI r80], [], (H0 s o)) rfl ?_
  obtain ⟨e88, he88, h⟩ := be h
  refine zM [tt,ff,ff,tt] (loopN_tri (B := B36_14) (T := fun lv89 => QTri l Z n0 ad 36 (14, [vR 1, nN, nN, vI lv89.1], [], (H0 s lv89.2)) (some (Value.int r.1)) (H0 s r.2)) (KE := fun e88a => QTri l Z n0 ad 36 (58, [vR 1, nN, nN, nN], [], (H0 s e88a)) (some (Value.int r.1)) (H0 s r.2)) (fun lv89 r hB hE hC => tB36_14 Ad W s lv89 hB (fun x q => hE _ q) (fun x q => hC x q)) qN (r80, o) e88 he88 ?_)
  refine yS Ad W 6 (68, [vR 1, nN, nN, nN], [], (H0x3 s e88 ((fxB e88) - (1:Int32)))) rfl ?_
  refine yS Ad W 3 (73, [vR 1, nN, nN, nN], [], (H0x17 s e88 ((fxB e88) - (1:Int32)) (1:Int32))) rfl ?_
  refine yS Ad W 1 (74, [vR 1, nN, nN, nN], [.int 0], (H0x17 s e88 ((fxB e88) - (1:Int32)) (1:Int32))) rfl ?_
  have E90 : ((H0x17 s e88 ((fxB e88) - (1:Int32)) (1:Int32)) : QHeap) = (H0 s (sxD (sxB e88 ((fxB e88) - (1:Int32))) (1:Int32))) := by simp only [fs, H0, H0v, H0x17, sxB, sxD]
  rw [E90]
  obtain rfl := sj h
  exact retI rfl rfl
def J0_216 (s : List Int32) (p0 : Ob) (x2 : Int32) : Option (((Ob) ⊕ (Int32 × QHeap)) ⊕ (Int32 × Ob)) :=
  some (.inr ((x2 + (3 : Int32)), p0))
theorem tJ0_216 (Ad : QAd n0 ad) (W : QW Z a0) (s : List Int32) (p0 : Ob) (x2 : Int32) {r : ((Ob) ⊕ (Int32 × QHeap)) ⊕ (Int32 × Ob)} {u : Option Value} {τ : QHeap} (h : J0_216 s p0 x2 = some r) (hx0 : ∀ x : Ob, r = .inl (Sum.inl x) → QTri l Z n0 ad 0 (222, [vR 0, vR 1, nN, nN, nN, nN, nN, nN, nN, nN, nN, nN, nN, nN, nN, nN, nN, nN, nN, nN, nN, nN, nN], [], (H0 s x)) u τ) (hx1 : ∀ x : Int32 × QHeap, r = .inl (Sum.inr x) → u = (some (Value.int x.1)) ∧ τ = x.2) (hc : ∀ x : Int32 × Ob, r = .inr x → QTri l Z n0 ad 0 (13, [vR 0, vR 1, vI x.1, nN, nN, nN, nN, nN, nN, nN, nN, nN, nN, nN, nN, nN, nN, nN, nN, nN, nN, nN, nN], [], (H0 s x.2)) u τ) : QTri l Z n0 ad 0 (216, [vR 0, vR 1, vI x2, nN, nN, nN, nN, nN, nN, nN, nN, nN, nN, nN, nN, nN, nN, nN, nN, nN, nN, nN, nN], [], (H0 s p0)) u τ := by
 unfold J0_216 at h
 refine yS Ad W 2 (13, [vR 0, vR 1, vI (x2 + (3:Int32)), nN, nN, nN, nN, nN, nN, nN, nN, nN, nN, nN, nN, nN, nN, nN, nN, nN, nN, nN, nN], [], (H0 s p0)) rfl ?_
 obtain rfl := sj h
 exact zM [tt,tt,tt,ff,ff,ff,ff,ff,ff,ff,ff,ff,ff,ff,ff,ff,ff,ff,ff,ff,ff,ff,ff] (hc ((x2 + (3:Int32)), p0) rfl)
def J0_158 (s : List Int32) (p0 : Ob) (x2 x4 : Int32) (x6 x7 : Int32) (x8 x9 : Int32) (x10 x11 : Int32) : Option (((Ob) ⊕ (Int32 × QHeap)) ⊕ (Int32 × Ob)) :=
  (if x11 = (0 : Int32) then (J0_216 s p0 x2) else (F4 p0).bind fun r93 => (if r93 = x6 then (F5 p0).bind fun r95 => (if r95 = x7 then (F6 p0).bind fun r97 => (if r97 = x8 then (F7 p0 x4).bind fun r99 => (if r99 = x9 then (F8 p0 x4).bind fun r101 => (if r101 = x10 then (J0_216 s p0 x2) else some (.inl (Sum.inr ((0 : Int32), (H0 s p0))))) else some (.inl (Sum.inr ((0 : Int32), (H0 s p0))))) else some (.inl (Sum.inr ((0 : Int32), (H0 s p0))))) else some (.inl (Sum.inr ((0 : Int32), (H0 s p0))))) else some (.inl (Sum.inr ((0 : Int32), (H0 s p0))))))
theorem tJ0_158 (Ad : QAd n0 ad) (W : QW Z a0) (s : List Int32) (p0 : Ob) (x2 x4 : Int32) (x6 x7 : Int32) (x8 x9 : Int32) (x10 x11 : Int32) {r : ((Ob) ⊕ (Int32 × QHeap)) ⊕ (Int32 × Ob)} {u : Option Value} {τ : QHeap} (h : J0_158 s p0 x2 x4 x6 x7 x8 x9 x10 x11 = some r) (hx0 : ∀ x : Ob, r = .inl (Sum.inl x) → QTri l Z n0 ad 0 (222, [vR 0, vR 1, nN, nN, nN, nN, nN, nN, nN, nN, nN, nN, nN, nN, nN, nN, nN, nN, nN, nN, nN, nN, nN], [], (H0 s x)) u τ) (hx1 : ∀ x : Int32 × QHeap, r = .inl (Sum.inr x) → u = (some (Value.int x.1)) ∧ τ = x.2) (hc : ∀ x : Int32 × Ob, r = .inr x → QTri l Z n0 ad 0 (13, [vR 0, vR 1, vI x.1, nN, nN, nN, nN, nN, nN, nN, nN, nN, nN, nN, nN, nN, nN, nN, nN, nN, nN, nN, nN], [], (H0 s x.2)) u τ) : QTri l Z n0 ad 0 (158, [vR 0, vR 1, vI x2, nN, vI x4, nN, vI x6, vI x7, vI x8, vI x9, vI x10, vI x11, nN, nN, nN, nN, nN, nN, nN, nN, nN, nN, nN], [], (H0 s p0)) u τ := by
 unfold J0_158 at h
 refine yS Ad W 1 (160, [vR 0, vR 1, vI x2, nN, vI x4, nN, vI x6, vI x7, vI x8, vI x9, vI x10, vI x11, nN, nN, nN, nN, nN, nN, nN, nN, nN, nN, nN], [.int x11], (H0 s p0)) rfl ?_
 rcases qite h with ⟨c92, h⟩ | ⟨c92, h⟩
 ·refine yT Ad W 216 163 rfl (XT.i0_eq_t c92) ?_
  exact zM [tt,tt,tt,ff,ff,ff,ff,ff,ff,ff,ff,ff,ff,ff,ff,ff,ff,ff,ff,ff,ff,ff,ff] (tJ0_216 Ad W s p0 x2 h hx0 hx1 hc)
 ·refine yF Ad W 216 163 rfl (XT.i0_eq_f c92) ?_
  refine yS Ad W 1 (164, [vR 0, vR 1, vI x2, nN, vI x4, nN, vI x6, vI x7, vI x8, vI x9, vI x10, vI x11, nN, nN, nN, nN, nN, nN, nN, nN, nN, nN, nN], [.ref 1], (H0 s p0)) rfl ?_
  obtain ⟨r93, hr93, h⟩ := be h
  refine callV W (a := 1) (as := []) (rest := []) (w := (some (.int r93))) (σ₁ := (H0 s p0)) rfl rfl rfl rfl rfl rfl rfl rfl (tF4 Ad W s p0 hr93) ?_
  refine yS Ad W 1 (169, [vR 0, vR 1, vI x2, nN, vI x4, nN, vI x6, vI x7, vI x8, vI x9, vI x10, vI x11, nN, nN, nN, nN, nN, nN, nN, nN, nN, nN, nN], [.int x6, .int r93], (H0 s p0)) rfl ?_
  rcases qite h with ⟨c94, h⟩ | ⟨c94, h⟩
  ·refine yF Ad W 190 172 rfl (XT.ii_ne_f c94) ?_
   refine yS Ad W 1 (173, [vR 0, vR 1, vI x2, nN, vI x4, nN, vI x6, vI x7, vI x8, vI x9, vI x10, vI x11, nN, nN, nN, nN, nN, nN, nN, nN, nN, nN, nN], [.ref 1], (H0 s p0)) rfl ?_
   obtain ⟨r95, hr95, h⟩ := be h
   refine callV W (a := 1) (as := []) (rest := []) (w := (some (.int r95))) (σ₁ := (H0 s p0)) rfl rfl rfl rfl rfl rfl rfl rfl (tF5 Ad W s p0 hr95) ?_
   refine yS Ad W 1 (178, [vR 0, vR 1, vI x2, nN, vI x4, nN, vI x6, vI x7, vI x8, vI x9, vI x10, vI x11, nN, nN, nN, nN, nN, nN, nN, nN, nN, nN, nN], [.int x7, .int r95], (H0 s p0)) rfl ?_
   rcases qite h with ⟨c96, h⟩ | ⟨c96, h⟩
   ·refine yF Ad W 190 181 rfl (XT.ii_ne_f c96) ?_
    refine yS Ad W 1 (182, [vR 0, vR 1, vI x2, nN, vI x4, nN, vI x6, vI x7, vI x8, vI x9, vI x10, vI x11, nN, nN, nN, nN, nN, nN, nN, nN, nN, nN, nN], [.ref 1], (H0 s p0)) rfl ?_
    obtain ⟨r97, hr97, h⟩ := be h
    refine callV W (a := 1) (as := []) (rest := []) (w := (some (.int r97))) (σ₁ := (H0 s p0)) rfl rfl rfl rfl rfl rfl rfl rfl (tF6 Ad W s p0 hr97) ?_
    refine yS Ad W 1 (187, [vR 0, vR 1, vI x2, nN, vI x4, nN, vI x6, vI x7, vI x8, vI x9, vI x10, vI x11, nN, nN, nN, nN, nN, nN, nN, nN, nN, nN, nN], [.int x8, .int r97], (H0 s p0)) rfl ?_
    rcases qite h with ⟨c98, h⟩ | ⟨c98, h⟩
    ·refine yT Ad W 192 190 rfl (XT.ii_eq_t c98) ?_
     refine yS Ad W 2 (195, [vR 0, vR 1, vI x2, nN, vI x4, nN, vI x6, vI x7, vI x8, vI x9, vI x10, vI x11, nN, nN, nN, nN, nN, nN, nN, nN, nN, nN, nN], [.int x4, .ref 1], (H0 s p0)) rfl ?_
     obtain ⟨r99, hr99, h⟩ := be h
     refine callV W (a := 1) (as := [.int x4]) (rest := []) (w := (some (.int r99))) (σ₁ := (H0 s p0)) rfl rfl rfl rfl rfl rfl rfl rfl (tF7 Ad W s p0 x4 hr99) ?_
     refine yS Ad W 1 (200, [vR 0, vR 1, vI x2, nN, vI x4, nN, vI x6, vI x7, vI x8, vI x9, vI x10, vI x11, nN, nN, nN, nN, nN, nN, nN, nN, nN, nN, nN], [.int x9, .int r99], (H0 s p0)) rfl ?_
     rcases qite h with ⟨c100, h⟩ | ⟨c100, h⟩
     ·refine yF Ad W 214 203 rfl (XT.ii_ne_f c100) ?_
      refine yS Ad W 2 (206, [vR 0, vR 1, vI x2, nN, vI x4, nN, vI x6, vI x7, vI x8, vI x9, vI x10, vI x11, nN, nN, nN, nN, nN, nN, nN, nN, nN, nN, nN], [.int x4, .ref 1], (H0 s p0)) rfl ?_
      obtain ⟨r101, hr101, h⟩ := be h
      refine callV W (a := 1) (as := [.int x4]) (rest := []) (w := (some (.int r101))) (σ₁ := (H0 s p0)) rfl rfl rfl rfl rfl rfl rfl rfl (tF8 Ad W s p0 x4 hr101) ?_
      refine yS Ad W 1 (211, [vR 0, vR 1, vI x2, nN, vI x4, nN, vI x6, vI x7, vI x8, vI x9, vI x10, vI x11, nN, nN, nN, nN, nN, nN, nN, nN, nN, nN, nN], [.int x10, .int r101], (H0 s p0)) rfl ?_
      rcases qite h with ⟨c102, h⟩ | ⟨c102, h⟩
      ·refine yT Ad W 216 214 rfl (XT.ii_eq_t c102) ?_
       exact zM [tt,tt,tt,ff,ff,ff,ff,ff,ff,ff,ff,ff,ff,ff,ff,ff,ff,ff,ff,ff,ff,ff,ff] (tJ0_216 Ad W s p0 x2 h hx0 hx1 hc)
      ·refine yF Ad W 216 214 rfl (XT.ii_eq_f c102) ?_
       refine yS Ad W 1 (215, [vR 0, vR 1, vI x2, nN, vI x4, nN, vI x6, vI x7, vI x8, vI x9, vI x10, vI x11, nN, nN, nN, nN, nN, nN, nN, nN, nN, nN, nN], [.int 0], (H0 s p0)) rfl ?_
       obtain rfl := sj h
       obtain ⟨rfl, rfl⟩ := hx1 ((0:Int32), (H0 s p0)) rfl
       exact retZ rfl rfl
     ·refine yT Ad W 214 203 rfl (XT.ii_ne_t c100) ?_
      refine yS Ad W 1 (215, [vR 0, vR 1, vI x2, nN, vI x4, nN, vI x6, vI x7, vI x8, vI x9, vI x10, vI x11, nN, nN, nN, nN, nN, nN, nN, nN, nN, nN, nN], [.int 0], (H0 s p0)) rfl ?_
      obtain rfl := sj h
      obtain ⟨rfl, rfl⟩ := hx1 ((0:Int32), (H0 s p0)) rfl
      exact retZ rfl rfl
    ·refine yF Ad W 192 190 rfl (XT.ii_eq_f c98) ?_
     refine yS Ad W 1 (191, [vR 0, vR 1, vI x2, nN, vI x4, nN, vI x6, vI x7, vI x8, vI x9, vI x10, vI x11, nN, nN, nN, nN, nN, nN, nN, nN, nN, nN, nN], [.int 0], (H0 s p0)) rfl ?_
     obtain rfl := sj h
     obtain ⟨rfl, rfl⟩ := hx1 ((0:Int32), (H0 s p0)) rfl
     exact retZ rfl rfl
   ·refine yT Ad W 190 181 rfl (XT.ii_ne_t c96) ?_
    refine yS Ad W 1 (191, [vR 0, vR 1, vI x2, nN, vI x4, nN, vI x6, vI x7, vI x8, vI x9, vI x10, vI x11, nN, nN, nN, nN, nN, nN, nN, nN, nN, nN, nN], [.int 0], (H0 s p0)) rfl ?_
    obtain rfl := sj h
    obtain ⟨rfl, rfl⟩ := hx1 ((0:Int32), (H0 s p0)) rfl
    exact retZ rfl rfl
  ·refine yT Ad W 190 172 rfl (XT.ii_ne_t c94) ?_
   refine yS Ad W 1 (191, [vR 0, vR 1, vI x2, nN, vI x4, nN, vI x6, vI x7, vI x8, vI x9, vI x10, vI x11, nN, nN, nN, nN, nN, nN, nN, nN, nN, nN, nN], [.int 0], (H0 s p0)) rfl ?_
   obtain rfl := sj h
   obtain ⟨rfl, rfl⟩ := hx1 ((0:Int32), (H0 s p0)) rfl
   exact retZ rfl rfl
def H0x18 (s : List Int32) (o0 : Ob) (a0_37 : Int32) : QHeap := H0v s (fA o0) (fB o0) (fC o0) (fD o0) (fE o0) (fF o0) (fG o0) (fH o0) (fI o0) (fJ o0) (fK o0) (fL o0) (fM o0) (fN o0) (fO o0) (fP o0) (fQ o0) (fR o0) (fS o0) (fT o0) (fU o0) (fV o0) (fW o0) (fX o0) (fY o0) (fZ o0) (fa o0) (fb o0) (fd o0) (fh o0) (fi o0) (fq o0) (fu o0) (fy o0) (fz o0) (fxA o0) (fxB o0) a0_37 (fxD o0) (fxE o0) (fxF o0) (fxG o0) (fxH o0) (fxI o0) (fxJ o0) (fxK o0) (fxL o0) (fxM o0)
def H0x19 (s : List Int32) (o0 : Ob) (a0_37 a0_38 : Int32) : QHeap := H0v s (fA o0) (fB o0) (fC o0) (fD o0) (fE o0) (fF o0) (fG o0) (fH o0) (fI o0) (fJ o0) (fK o0) (fL o0) (fM o0) (fN o0) (fO o0) (fP o0) (fQ o0) (fR o0) (fS o0) (fT o0) (fU o0) (fV o0) (fW o0) (fX o0) (fY o0) (fZ o0) (fa o0) (fb o0) (fd o0) (fh o0) (fi o0) (fq o0) (fu o0) (fy o0) (fz o0) (fxA o0) (fxB o0) a0_37 a0_38 (fxE o0) (fxF o0) (fxG o0) (fxH o0) (fxI o0) (fxJ o0) (fxK o0) (fxL o0) (fxM o0)
/-- setDefault(I)I -/
def F35 (o : Ob) (x1 : Int32) : Option (Int32 × Ob) :=
 (if x1 < (0:Int32) then some ((3:Int32), o) else (if x1 < (fxA o) then some ((0:Int32), (sxD (sxC o x1) (1:Int32))) else some ((3:Int32), o)))
theorem tF35 (Ad : QAd n0 ad) (W : QW Z a0) (s : List Int32) (o : Ob) (x1 : Int32) {r : Int32 × Ob} (h : F35 o x1 = some r) : QTri l Z n0 ad 35 (0, qentry [.ref 1, .int x1] (pMaxL 35), [], (H0 s o)) (some (Value.int r.1)) (H0 s r.2) := by
 unfold F35 at h
 refine yS Ad W 1 (1, [vR 1, vI x1], [.int x1], (H0 s o)) rfl ?_
 rcases qite h with ⟨c104, h⟩ | ⟨c104, h⟩
 ·refine yT Ad W 12 4 rfl (XT.i0_lt_t c104) ?_
  refine yS Ad W 1 (13, [vR 1, vI x1], [.int 3], (H0 s o)) rfl ?_
  obtain rfl := sj h
  exact retI rfl rfl
 ·refine yF Ad W 12 4 rfl (XT.i0_lt_f c104) ?_
  refine yS Ad W 3 (9, [vR 1, vI x1], [.int (fxA o), .int x1], (H0 s o)) rfl ?_
  rcases qite h with ⟨c105, h⟩ | ⟨c105, h⟩
  ·refine yT Ad W 14 12 rfl (XT.ii_lt_t c105) ?_
   refine yS Ad W 3 (19, [vR 1, vI x1], [], (H0x18 s o x1)) rfl ?_
   refine yS Ad W 3 (24, [vR 1, vI x1], [], (H0x19 s o x1 (1:Int32))) rfl ?_
   refine yS Ad W 1 (25, [vR 1, vI x1], [.int 0], (H0x19 s o x1 (1:Int32))) rfl ?_
   have E106 : ((H0x19 s o x1 (1:Int32)) : QHeap) = (H0 s (sxD (sxC o x1) (1:Int32))) := by simp only [fs, H0, H0v, H0x19, sxC, sxD]
   rw [E106]
   obtain rfl := sj h
   exact retI rfl rfl
  ·refine yF Ad W 14 12 rfl (XT.ii_lt_f c105) ?_
   refine yS Ad W 1 (13, [vR 1, vI x1], [.int 3], (H0 s o)) rfl ?_
   obtain rfl := sj h
   exact retI rfl rfl
def H0x20 (s : List Int32) (o0 : Ob) (a0_39 : Int32) : QHeap := H0v s (fA o0) (fB o0) (fC o0) (fD o0) (fE o0) (fF o0) (fG o0) (fH o0) (fI o0) (fJ o0) (fK o0) (fL o0) (fM o0) (fN o0) (fO o0) (fP o0) (fQ o0) (fR o0) (fS o0) (fT o0) (fU o0) (fV o0) (fW o0) (fX o0) (fY o0) (fZ o0) (fa o0) (fb o0) (fd o0) (fh o0) (fi o0) (fq o0) (fu o0) (fy o0) (fz o0) (fxA o0) (fxB o0) (fxC o0) (fxD o0) a0_39 (fxF o0) (fxG o0) (fxH o0) (fxI o0) (fxJ o0) (fxK o0) (fxL o0) (fxM o0)
def H0x21 (s : List Int32) (o0 : Ob) (a0_39 a0_40 : Int32) : QHeap := H0v s (fA o0) (fB o0) (fC o0) (fD o0) (fE o0) (fF o0) (fG o0) (fH o0) (fI o0) (fJ o0) (fK o0) (fL o0) (fM o0) (fN o0) (fO o0) (fP o0) (fQ o0) (fR o0) (fS o0) (fT o0) (fU o0) (fV o0) (fW o0) (fX o0) (fY o0) (fZ o0) (fa o0) (fb o0) (fd o0) (fh o0) (fi o0) (fq o0) (fu o0) (fy o0) (fz o0) (fxA o0) (fxB o0) (fxC o0) (fxD o0) a0_39 a0_40 (fxG o0) (fxH o0) (fxI o0) (fxJ o0) (fxK o0) (fxL o0) (fxM o0)
def H0x22 (s : List Int32) (o0 : Ob) (a0_16 : List Int32) : QHeap := H0v s (fA o0) (fB o0) (fC o0) (fD o0) (fE o0) (fF o0) (fG o0) (fH o0) (fI o0) (fJ o0) (fK o0) (fL o0) (fM o0) (fN o0) (fO o0) (fP o0) a0_16 (fR o0) (fS o0) (fT o0) (fU o0) (fV o0) (fW o0) (fX o0) (fY o0) (fZ o0) (fa o0) (fb o0) (fd o0) (fh o0) (fi o0) (fq o0) (fu o0) (fy o0) (fz o0) (fxA o0) (fxB o0) (fxC o0) (fxD o0) (fxE o0) (fxF o0) (fxG o0) (fxH o0) (fxI o0) (fxJ o0) (fxK o0) (fxL o0) (fxM o0)
def H0x23 (s : List Int32) (o0 : Ob) (a0_16 a0_17 : List Int32) : QHeap := H0v s (fA o0) (fB o0) (fC o0) (fD o0) (fE o0) (fF o0) (fG o0) (fH o0) (fI o0) (fJ o0) (fK o0) (fL o0) (fM o0) (fN o0) (fO o0) (fP o0) a0_16 a0_17 (fS o0) (fT o0) (fU o0) (fV o0) (fW o0) (fX o0) (fY o0) (fZ o0) (fa o0) (fb o0) (fd o0) (fh o0) (fi o0) (fq o0) (fu o0) (fy o0) (fz o0) (fxA o0) (fxB o0) (fxC o0) (fxD o0) (fxE o0) (fxF o0) (fxG o0) (fxH o0) (fxI o0) (fxJ o0) (fxK o0) (fxL o0) (fxM o0)
def H0x24 (s : List Int32) (o0 : Ob) (a0_41 : Int32) : QHeap := H0v s (fA o0) (fB o0) (fC o0) (fD o0) (fE o0) (fF o0) (fG o0) (fH o0) (fI o0) (fJ o0) (fK o0) (fL o0) (fM o0) (fN o0) (fO o0) (fP o0) (fQ o0) (fR o0) (fS o0) (fT o0) (fU o0) (fV o0) (fW o0) (fX o0) (fY o0) (fZ o0) (fa o0) (fb o0) (fd o0) (fh o0) (fi o0) (fq o0) (fu o0) (fy o0) (fz o0) (fxA o0) (fxB o0) (fxC o0) (fxD o0) (fxE o0) (fxF o0) a0_41 (fxH o0) (fxI o0) (fxJ o0) (fxK o0) (fxL o0) (fxM o0)
def H0x25 (s : List Int32) (o0 : Ob) (a0_38 a0_41 : Int32) : QHeap := H0v s (fA o0) (fB o0) (fC o0) (fD o0) (fE o0) (fF o0) (fG o0) (fH o0) (fI o0) (fJ o0) (fK o0) (fL o0) (fM o0) (fN o0) (fO o0) (fP o0) (fQ o0) (fR o0) (fS o0) (fT o0) (fU o0) (fV o0) (fW o0) (fX o0) (fY o0) (fZ o0) (fa o0) (fb o0) (fd o0) (fh o0) (fi o0) (fq o0) (fu o0) (fy o0) (fz o0) (fxA o0) (fxB o0) (fxC o0) a0_38 (fxE o0) (fxF o0) a0_41 (fxH o0) (fxI o0) (fxJ o0) (fxK o0) (fxL o0) (fxM o0)
def B13_18 (v : Int32 × Ob) : Option (((Ob)) ⊕ (Int32 × Ob)) :=
  (if v.1 < (fxB v.2) then (aget (fO v.2) v.1).bind fun y111 => (aset (fQ v.2) v.1 y111).bind fun y112 => (aget (fP v.2) v.1).bind fun y113 => (aset (fR v.2) v.1 (y113.toInt8.toInt32)).bind fun y114 => some (.inr ((v.1 + (1 : Int32)), (sR (sQ v.2 y112) y114))) else some (.inl (sxD (sxG v.2 (1 : Int32)) (0 : Int32))))
theorem tB13_18 (Ad : QAd n0 ad) (W : QW Z a0) (s : List Int32) (v : Int32 × Ob) {r : ((Ob)) ⊕ (Int32 × Ob)} {u : Option Value} {τ : QHeap} (h : B13_18 v = some r) (hx0 : ∀ x : Ob, r = .inl x → u = (none : Option Value) ∧ τ = (H0 s x)) (hc : ∀ x : Int32 × Ob, r = .inr x → QTri l Z n0 ad 13 (18, [vR 1, vI x.1], [], (H0 s x.2)) u τ) : QTri l Z n0 ad 13 (18, [vR 1, vI v.1], [], (H0 s v.2)) u τ := by
 unfold B13_18 at h
 refine yS Ad W 3 (23, [vR 1, vI v.1], [.int (fxB v.2), .int v.1], (H0 s v.2)) rfl ?_
 rcases qite h with ⟨c110, h⟩ | ⟨c110, h⟩
 ·refine yF Ad W 56 26 rfl (XT.ii_ge_f c110) ?_
  refine yS Ad W 6 (36, [vR 1, vI v.1], [.int v.1, .ref 2, .int v.1, .ref 4], (H0 s v.2)) rfl ?_
  obtain ⟨y111, hy111, h⟩ := be h
  refine zB Ad W (f := fun y111 => (37, [vR 1, vI v.1], [.int y111, .int v.1, .ref 4], (H0 s v.2))) rfl hy111 ?_
  obtain ⟨y112, hy112, h⟩ := be h
  refine zB Ad W (f := fun y112 => (38, [vR 1, vI v.1], [], (H0x22 s v.2 y112))) rfl hy112 ?_
  refine yS Ad W 6 (48, [vR 1, vI v.1], [.int v.1, .ref 3, .int v.1, .ref 5], (H0x22 s v.2 y112)) rfl ?_
  obtain ⟨y113, hy113, h⟩ := be h
  refine zB Ad W (f := fun y113 => (49, [vR 1, vI v.1], [.int y113, .int v.1, .ref 5], (H0x22 s v.2 y112))) rfl hy113 ?_
  obtain ⟨y114, hy114, h⟩ := be h
  refine zB Ad W (f := fun y114 => (50, [vR 1, vI v.1], [], (H0x23 s v.2 y112 y114))) rfl hy114 ?_
  refine yS Ad W 2 (18, [vR 1, vI (v.1 + (1:Int32))], [], (H0x23 s v.2 y112 y114)) rfl ?_
  have E115 : ((H0x23 s v.2 y112 y114) : QHeap) = (H0 s (sR (sQ v.2 y112) y114)) := by simp only [fs, H0, H0v, H0x23, sQ, sR]
  rw [E115]
  obtain rfl := sj h
  exact zM [tt,tt] (hc ((v.1 + (1:Int32)), (sR (sQ v.2 y112) y114)) rfl)
 ·refine yT Ad W 56 26 rfl (XT.ii_ge_t c110) ?_
  refine yS Ad W 3 (61, [vR 1, vI v.1], [], (H0x24 s v.2 (1:Int32))) rfl ?_
  refine yS Ad W 3 (66, [vR 1, vI v.1], [], (H0x25 s v.2 (0:Int32) (1:Int32))) rfl ?_
  have E116 : ((H0x25 s v.2 (0:Int32) (1:Int32)) : QHeap) = (H0 s (sxD (sxG v.2 (1:Int32)) (0:Int32))) := by simp only [fs, H0, H0v, H0x25, sxD, sxG]
  rw [E116]
  obtain rfl := sj h
  obtain ⟨rfl, rfl⟩ := hx0 (sxD (sxG v.2 (1:Int32)) (0:Int32)) rfl
  exact ret0 rfl rfl
/-- takeSnapshot()V -/
def F13 (o : Ob) : Option (Ob) :=
 (loopN (B13_18) qN ((0:Int32), (sxF (sxE o (fxB o)) (fxC o)))).bind fun e117 => some e117
theorem tF13 (Ad : QAd n0 ad) (W : QW Z a0) (s : List Int32) (o : Ob) {r : Ob} (h : F13 o = some r) : QTri l Z n0 ad 13 (0, qentry [.ref 1] (pMaxL 13), [], (H0 s o)) (none : Option Value) (H0 s r) := by
 unfold F13 at h
 refine yS Ad W 4 (8, [vR 1, nN], [], (H0x20 s o (fxB o))) rfl ?_
 refine yS Ad W 4 (16, [vR 1, nN], [], (H0x21 s o (fxB o) (fxC o))) rfl ?_
 refine yS Ad W 2 (18, [vR 1, vI 0], [], (H0x21 s o (fxB o) (fxC o))) rfl ?_
 have E109 : ((H0x21 s o (fxB o) (fxC o)) : QHeap) = (H0 s (sxF (sxE o (fxB o)) (fxC o))) := by simp only [fs, H0, H0v, H0x21, sxE, sxF]
 rw [E109]
 obtain ⟨e117, he117, h⟩ := be h
 refine zM [tt,tt] (loopN_tri (B := B13_18) (T := fun lv118 => QTri l Z n0 ad 13 (18, [vR 1, vI lv118.1], [], (H0 s lv118.2)) (none : Option Value) (H0 s r)) (KE := fun e117a => (none : Option Value) = (none : Option Value) ∧ (H0 s r) = (H0 s e117a)) (fun lv118 r hB hE hC => tB13_18 Ad W s lv118 hB (fun x q => hE _ q) (fun x q => hC x q)) qN ((0:Int32), (sxF (sxE o (fxB o)) (fxC o))) e117 he117 ?_)
 obtain rfl := sj h
 exact ⟨rfl, rfl⟩
def H0x26 (s : List Int32) (o0 : Ob) (a0_18 : List Int32) : QHeap := H0v s (fA o0) (fB o0) (fC o0) (fD o0) (fE o0) (fF o0) (fG o0) (fH o0) (fI o0) (fJ o0) (fK o0) (fL o0) (fM o0) (fN o0) (fO o0) (fP o0) (fQ o0) (fR o0) a0_18 (fT o0) (fU o0) (fV o0) (fW o0) (fX o0) (fY o0) (fZ o0) (fa o0) (fb o0) (fd o0) (fh o0) (fi o0) (fq o0) (fu o0) (fy o0) (fz o0) (fxA o0) (fxB o0) (fxC o0) (fxD o0) (fxE o0) (fxF o0) (fxG o0) (fxH o0) (fxI o0) (fxJ o0) (fxK o0) (fxL o0) (fxM o0)
def H0x27 (s : List Int32) (o0 : Ob) (a0_18 a0_19 : List Int32) : QHeap := H0v s (fA o0) (fB o0) (fC o0) (fD o0) (fE o0) (fF o0) (fG o0) (fH o0) (fI o0) (fJ o0) (fK o0) (fL o0) (fM o0) (fN o0) (fO o0) (fP o0) (fQ o0) (fR o0) a0_18 a0_19 (fU o0) (fV o0) (fW o0) (fX o0) (fY o0) (fZ o0) (fa o0) (fb o0) (fd o0) (fh o0) (fi o0) (fq o0) (fu o0) (fy o0) (fz o0) (fxA o0) (fxB o0) (fxC o0) (fxD o0) (fxE o0) (fxF o0) (fxG o0) (fxH o0) (fxI o0) (fxJ o0) (fxK o0) (fxL o0) (fxM o0)
/-- clusterFits(JII)Z -/
def F15 (x1 : Int64) (x3 x4 : Int32) : Option (Int32) :=
 (if x3 < (2:Int32) then some (0:Int32) else (if (if (64 : Int64) < x1 then (0:Int32) else (if (3:Int32) < x4 then (0:Int32) else (1:Int32))) = (0:Int32) then (if (if ((4 : Int64) * (x3.toInt64)) < x1 then (0:Int32) else (1:Int32)) = (0:Int32) then some (0:Int32) else some (1:Int32)) else some (1:Int32)))
theorem tF15 (Ad : QAd n0 ad) (W : QW Z a0) {a : Nat} {σ : QHeap} (x1 : Int64) (x3 x4 : Int32) {r : Int32} (h : F15 x1 x3 x4 = some r) : QTri l Z n0 ad 15 (0, qentry [.ref a, .long x1, .int x3, .int x4] (pMaxL 15), [], σ) (some (Value.int r)) σ := by
 unfold F15 at h
 refine yS Ad W 2 (2, [vR a, vL x1, nN, vI x3, vI x4, nN, nN], [.int 2, .int x3], σ) rfl ?_
 rcases qite h with ⟨c137, h⟩ | ⟨c137, h⟩
 ·refine yF Ad W 7 5 rfl (XT.ii_ge_f c137) ?_
  refine yS Ad W 1 (6, [vR a, vL x1, nN, vI x3, vI x4, nN, nN], [.int 0], σ) rfl ?_
  obtain rfl := sj h
  exact retZ rfl rfl
 ·refine yT Ad W 7 5 rfl (XT.ii_ge_t c137) ?_
  refine yS Ad W 3 (12, [vR a, vL x1, nN, vI x3, vI x4, nN, nN], [.int (XT.cmpL x1 (64 : Int64))], σ) rfl ?_
  have K139 : ∀ z138 : Int32, z138 = (if (64 : Int64) < x1 then (0:Int32) else (if (3:Int32) < x4 then (0:Int32) else (1:Int32))) → QTri l Z n0 ad 15 (26, [nN, vL x1, nN, vI x3, nN, nN, nN], [.int z138], σ) (some (Value.int r)) σ := by
   intro z138 ez138
   subst ez138
   refine yS Ad W 7 (36, [nN, vL x1, nN, vI x3, nN, vI (if (64 : Int64) < x1 then (0:Int32) else (if (3:Int32) < x4 then (0:Int32) else (1:Int32))), nN], [.int (XT.cmpL x1 ((4 : Int64) * (x3.toInt64)))], σ) rfl ?_
   have K143 : ∀ z142 : Int32, z142 = (if ((4 : Int64) * (x3.toInt64)) < x1 then (0:Int32) else (1:Int32)) → QTri l Z n0 ad 15 (44, [nN, nN, nN, nN, nN, vI (if (64 : Int64) < x1 then (0:Int32) else (if (3:Int32) < x4 then (0:Int32) else (1:Int32))), nN], [.int z142], σ) (some (Value.int r)) σ := by
    intro z142 ez142
    subst ez142
    refine yS Ad W 2 (48, [nN, nN, nN, nN, nN, vI (if (64 : Int64) < x1 then (0:Int32) else (if (3:Int32) < x4 then (0:Int32) else (1:Int32))), vI (if ((4 : Int64) * (x3.toInt64)) < x1 then (0:Int32) else (1:Int32))], [.int (if (64 : Int64) < x1 then (0:Int32) else (if (3:Int32) < x4 then (0:Int32) else (1:Int32)))], σ) rfl ?_
    rcases qite h with ⟨c145, h⟩ | ⟨c145, h⟩
    ·refine yF Ad W 56 51 rfl (XT.i0_ne_f c145) ?_
     refine yS Ad W 1 (53, [nN, nN, nN, nN, nN, vI (if (64 : Int64) < x1 then (0:Int32) else (if (3:Int32) < x4 then (0:Int32) else (1:Int32))), vI (if ((4 : Int64) * (x3.toInt64)) < x1 then (0:Int32) else (1:Int32))], [.int (if ((4 : Int64) * (x3.toInt64)) < x1 then (0:Int32) else (1:Int32))], σ) rfl ?_
     rcases qite h with ⟨c146, h⟩ | ⟨c146, h⟩
     ·refine yT Ad W 60 56 rfl (XT.i0_eq_t c146) ?_
      refine yS Ad W 1 (61, [nN, nN, nN, nN, nN, vI (if (64 : Int64) < x1 then (0:Int32) else (if (3:Int32) < x4 then (0:Int32) else (1:Int32))), vI (if ((4 : Int64) * (x3.toInt64)) < x1 then (0:Int32) else (1:Int32))], [.int 0], σ) rfl ?_
      obtain rfl := sj h
      exact retZ rfl rfl
     ·refine yF Ad W 60 56 rfl (XT.i0_eq_f c146) ?_
      refine yS Ad W 2 (61, [nN, nN, nN, nN, nN, vI (if (64 : Int64) < x1 then (0:Int32) else (if (3:Int32) < x4 then (0:Int32) else (1:Int32))), vI (if ((4 : Int64) * (x3.toInt64)) < x1 then (0:Int32) else (1:Int32))], [.int 1], σ) rfl ?_
      obtain rfl := sj h
      exact retZ rfl rfl
    ·refine yT Ad W 56 51 rfl (XT.i0_ne_t c145) ?_
     refine yS Ad W 2 (61, [nN, nN, nN, nN, nN, vI (if (64 : Int64) < x1 then (0:Int32) else (if (3:Int32) < x4 then (0:Int32) else (1:Int32))), vI (if ((4 : Int64) * (x3.toInt64)) < x1 then (0:Int32) else (1:Int32))], [.int 1], σ) rfl ?_
     obtain rfl := sj h
     exact retZ rfl rfl
   rcases em (((4 : Int64) * (x3.toInt64)) < x1) with c144 | c144
   ·refine yT Ad W 43 39 rfl (XT.ll_gt_t c144) ?_
    refine yS Ad W 1 (44, [nN, vL x1, nN, vI x3, nN, vI (if (64 : Int64) < x1 then (0:Int32) else (if (3:Int32) < x4 then (0:Int32) else (1:Int32))), nN], [.int 0], σ) rfl ?_
    exact zM [ff,ff,ff,ff,ff,tt,ff] (K143 _ (if_pos c144).symm)
   ·refine yF Ad W 43 39 rfl (XT.ll_gt_f c144) ?_
    refine yS Ad W 2 (44, [nN, vL x1, nN, vI x3, nN, vI (if (64 : Int64) < x1 then (0:Int32) else (if (3:Int32) < x4 then (0:Int32) else (1:Int32))), nN], [.int 1], σ) rfl ?_
    exact zM [ff,ff,ff,ff,ff,tt,ff] (K143 _ (if_neg c144).symm)
  rcases em ((64 : Int64) < x1) with c140 | c140
  ·refine yT Ad W 25 15 rfl (XT.ll_gt_t c140) ?_
   refine yS Ad W 1 (26, [vR a, vL x1, nN, vI x3, vI x4, nN, nN], [.int 0], σ) rfl ?_
   exact zM [ff,tt,ff,tt,ff,ff,ff] (K139 _ (if_pos c140).symm)
  ·refine yF Ad W 25 15 rfl (XT.ll_gt_f c140) ?_
   refine yS Ad W 2 (18, [vR a, vL x1, nN, vI x3, vI x4, nN, nN], [.int 3, .int x4], σ) rfl ?_
   rcases em ((3:Int32) < x4) with c141 | c141
   ·refine yT Ad W 25 21 rfl (XT.ii_gt_t c141) ?_
    refine yS Ad W 1 (26, [vR a, vL x1, nN, vI x3, vI x4, nN, nN], [.int 0], σ) rfl ?_
    exact zM [ff,tt,ff,tt,ff,ff,ff] (K139 _ ((if_neg c140).trans (if_pos c141)).symm)
   ·refine yF Ad W 25 21 rfl (XT.ii_gt_f c141) ?_
    refine yS Ad W 2 (26, [vR a, vL x1, nN, vI x3, vI x4, nN, nN], [.int 1], σ) rfl ?_
    exact zM [ff,tt,ff,tt,ff,ff,ff] (K139 _ ((if_neg c140).trans (if_neg c141)).symm)
def J14_194 (o : Ob) (x1 x2 : Int32) (x3 x4 x5 : Int32) : Option (((Ob) ⊕ (Ob)) ⊕ (Int32 × Int32 × Int32 × Ob)) :=
  some (.inr (x3, x4, (x5 + (-1 : Int32)), o))
theorem tJ14_194 (Ad : QAd n0 ad) (W : QW Z a0) (s : List Int32) (o : Ob) (x1 x2 : Int32) (x3 x4 x5 : Int32) {r : ((Ob) ⊕ (Ob)) ⊕ (Int32 × Int32 × Int32 × Ob)} {u : Option Value} {τ : QHeap} (h : J14_194 o x1 x2 x3 x4 x5 = some r) (hx0 : ∀ x : Ob, r = .inl (Sum.inl x) → QTri l Z n0 ad 14 (123, [vR 1, vI x1, vI x2, nN, nN, nN, nN, nN, nN, nN], [], (H0 s x)) u τ) (hx1 : ∀ x : Ob, r = .inl (Sum.inr x) → QTri l Z n0 ad 14 (200, [vR 1, vI x1, vI x2, nN, nN, nN, nN, nN, nN, nN], [], (H0 s x)) u τ) (hc : ∀ x : Int32 × Int32 × Int32 × Ob, r = .inr x → QTri l Z n0 ad 14 (52, [vR 1, vI x1, vI x2, vI x.1, vI x.2.1, vI x.2.2.1, nN, nN, nN, nN], [], (H0 s x.2.2.2)) u τ) : QTri l Z n0 ad 14 (194, [vR 1, vI x1, vI x2, vI x3, vI x4, vI x5, nN, nN, nN, nN], [], (H0 s o)) u τ := by
 unfold J14_194 at h
 refine yS Ad W 2 (52, [vR 1, vI x1, vI x2, vI x3, vI x4, vI (x5 + (-1:Int32)), nN, nN, nN, nN], [], (H0 s o)) rfl ?_
 obtain rfl := sj h
 exact zM [tt,tt,tt,tt,tt,tt,ff,ff,ff,ff] (hc (x3, x4, (x5 + (-1:Int32)), o) rfl)
def B14_52 (x1 x2 : Int32) (v : Int32 × Int32 × Int32 × Ob) : Option (((Ob) ⊕ (Ob)) ⊕ (Int32 × Int32 × Int32 × Ob)) :=
  (if v.2.2.1 < (0 : Int32) then some (.inl (Sum.inr v.2.2.2)) else (aget (fR v.2.2.2) v.2.2.1).bind fun y128 => (aget (fQ v.2.2.2) x2).bind fun y134 => (aget (fQ v.2.2.2) v.2.2.1).bind fun y135 => (if (256 : Int64) < (((y134.toInt64) - (y135.toInt64)) + (1 : Int64)) then some (.inl (Sum.inl v.2.2.2)) else (F15 (((y134.toInt64) - (y135.toInt64)) + (1 : Int64)) ((x2 - v.2.2.1) + (1 : Int32)) (if y128 = (fxF v.2.2.2) then v.2.1 else (if (v.1 &&& ((1 : Int32) <<< (y128 &&& 31))) = (0 : Int32) then (v.2.1 + (1 : Int32)) else v.2.1))).bind fun r147 => (if r147 = (0 : Int32) then (J14_194 v.2.2.2 x1 x2 (if y128 = (fxF v.2.2.2) then v.1 else (if (v.1 &&& ((1 : Int32) <<< (y128 &&& 31))) = (0 : Int32) then (v.1 ||| ((1 : Int32) <<< (y128 &&& 31))) else v.1)) (if y128 = (fxF v.2.2.2) then v.2.1 else (if (v.1 &&& ((1 : Int32) <<< (y128 &&& 31))) = (0 : Int32) then (v.2.1 + (1 : Int32)) else v.2.1)) v.2.2.1) else (aget (fS v.2.2.2) v.2.2.1).bind fun y149 => (aget (fS v.2.2.2) (x2 + (1 : Int32))).bind fun y150 => (if (y149 + (1 : Int32)) < y150 then (aget (fS v.2.2.2) v.2.2.1).bind fun y152 => (aset (fS v.2.2.2) (x2 + (1 : Int32)) (y152 + (1 : Int32))).bind fun y153 => (aset (fT v.2.2.2) (x2 + (1 : Int32)) v.2.2.1).bind fun y154 => (J14_194 (sT (sS v.2.2.2 y153) y154) x1 x2 (if y128 = (fxF v.2.2.2) then v.1 else (if (v.1 &&& ((1 : Int32) <<< (y128 &&& 31))) = (0 : Int32) then (v.1 ||| ((1 : Int32) <<< (y128 &&& 31))) else v.1)) (if y128 = (fxF v.2.2.2) then v.2.1 else (if (v.1 &&& ((1 : Int32) <<< (y128 &&& 31))) = (0 : Int32) then (v.2.1 + (1 : Int32)) else v.2.1)) v.2.2.1) else (J14_194 v.2.2.2 x1 x2 (if y128 = (fxF v.2.2.2) then v.1 else (if (v.1 &&& ((1 : Int32) <<< (y128 &&& 31))) = (0 : Int32) then (v.1 ||| ((1 : Int32) <<< (y128 &&& 31))) else v.1)) (if y128 = (fxF v.2.2.2) then v.2.1 else (if (v.1 &&& ((1 : Int32) <<< (y128 &&& 31))) = (0 : Int32) then (v.2.1 + (1 : Int32)) else v.2.1)) v.2.2.1)))))
theorem tB14_52 (Ad : QAd n0 ad) (W : QW Z a0) (s : List Int32) (x1 x2 : Int32) (v : Int32 × Int32 × Int32 × Ob) {r : ((Ob) ⊕ (Ob)) ⊕ (Int32 × Int32 × Int32 × Ob)} {u : Option Value} {τ : QHeap} (h : B14_52 x1 x2 v = some r) (hx0 : ∀ x : Ob, r = .inl (Sum.inl x) → QTri l Z n0 ad 14 (123, [vR 1, vI x1, vI x2, nN, nN, nN, nN, nN, nN, nN], [], (H0 s x)) u τ) (hx1 : ∀ x : Ob, r = .inl (Sum.inr x) → QTri l Z n0 ad 14 (200, [vR 1, vI x1, vI x2, nN, nN, nN, nN, nN, nN, nN], [], (H0 s x)) u τ) (hc : ∀ x : Int32 × Int32 × Int32 × Ob, r = .inr x → QTri l Z n0 ad 14 (52, [vR 1, vI x1, vI x2, vI x.1, vI x.2.1, vI x.2.2.1, nN, nN, nN, nN], [], (H0 s x.2.2.2)) u τ) : QTri l Z n0 ad 14 (52, [vR 1, vI x1, vI x2, vI v.1, vI v.2.1, vI v.2.2.1, nN, nN, nN, nN], [], (H0 s v.2.2.2)) u τ := by
 unfold B14_52 at h
 refine yS Ad W 1 (54, [vR 1, vI x1, vI x2, vI v.1, vI v.2.1, vI v.2.2.1, nN, nN, nN, nN], [.int v.2.2.1], (H0 s v.2.2.2)) rfl ?_
 rcases qite h with ⟨c127, h⟩ | ⟨c127, h⟩
 ·refine yT Ad W 200 57 rfl (XT.i0_lt_t c127) ?_
  obtain rfl := sj h
  exact zM [tt,tt,tt,ff,ff,ff,ff,ff,ff,ff] (hx1 v.2.2.2 rfl)
 ·refine yF Ad W 200 57 rfl (XT.i0_lt_f c127) ?_
  refine yS Ad W 3 (63, [vR 1, vI x1, vI x2, vI v.1, vI v.2.1, vI v.2.2.1, nN, nN, nN, nN], [.int v.2.2.1, .ref 5], (H0 s v.2.2.2)) rfl ?_
  obtain ⟨y128, hy128, h⟩ := be h
  refine zB Ad W (f := fun y128 => (64, [vR 1, vI x1, vI x2, vI v.1, vI v.2.1, vI v.2.2.1, nN, nN, nN, nN], [.int y128], (H0 s v.2.2.2))) rfl hy128 ?_
  refine yS Ad W 4 (72, [vR 1, vI x1, vI x2, vI v.1, vI v.2.1, vI v.2.2.1, vI y128, nN, nN, nN], [.int (fxF v.2.2.2), .int y128], (H0 s v.2.2.2)) rfl ?_
  have K131 : ∀ z129 : Int32, z129 = (if y128 = (fxF v.2.2.2) then v.1 else (if (v.1 &&& ((1:Int32) <<< (y128 &&& 31))) = (0:Int32) then (v.1 ||| ((1:Int32) <<< (y128 &&& 31))) else v.1)) → ∀ z130 : Int32, z130 = (if y128 = (fxF v.2.2.2) then v.2.1 else (if (v.1 &&& ((1:Int32) <<< (y128 &&& 31))) = (0:Int32) then (v.2.1 + (1:Int32)) else v.2.1)) → QTri l Z n0 ad 14 (94, [vR 1, vI x1, vI x2, vI z129, vI z130, vI v.2.2.1, nN, nN, nN, nN], [], (H0 s v.2.2.2)) u τ := by
   intro z129 ez129
   intro z130 ez130
   subst ez129
   subst ez130
   refine yS Ad W 3 (99, [vR 1, vI x1, vI x2, vI (if y128 = (fxF v.2.2.2) then v.1 else (if (v.1 &&& ((1:Int32) <<< (y128 &&& 31))) = (0:Int32) then (v.1 ||| ((1:Int32) <<< (y128 &&& 31))) else v.1)), vI (if y128 = (fxF v.2.2.2) then v.2.1 else (if (v.1 &&& ((1:Int32) <<< (y128 &&& 31))) = (0:Int32) then (v.2.1 + (1:Int32)) else v.2.1)), vI v.2.2.1, nN, nN, nN, nN], [.int x2, .ref 4], (H0 s v.2.2.2)) rfl ?_
   obtain ⟨y134, hy134, h⟩ := be h
   refine zB Ad W (f := fun y134 => (100, [vR 1, vI x1, vI x2, vI (if y128 = (fxF v.2.2.2) then v.1 else (if (v.1 &&& ((1:Int32) <<< (y128 &&& 31))) = (0:Int32) then (v.1 ||| ((1:Int32) <<< (y128 &&& 31))) else v.1)), vI (if y128 = (fxF v.2.2.2) then v.2.1 else (if (v.1 &&& ((1:Int32) <<< (y128 &&& 31))) = (0:Int32) then (v.2.1 + (1:Int32)) else v.2.1)), vI v.2.2.1, nN, nN, nN, nN], [.int y134], (H0 s v.2.2.2))) rfl hy134 ?_
   refine yS Ad W 4 (107, [vR 1, vI x1, vI x2, vI (if y128 = (fxF v.2.2.2) then v.1 else (if (v.1 &&& ((1:Int32) <<< (y128 &&& 31))) = (0:Int32) then (v.1 ||| ((1:Int32) <<< (y128 &&& 31))) else v.1)), vI (if y128 = (fxF v.2.2.2) then v.2.1 else (if (v.1 &&& ((1:Int32) <<< (y128 &&& 31))) = (0:Int32) then (v.2.1 + (1:Int32)) else v.2.1)), vI v.2.2.1, nN, nN, nN, nN], [.int v.2.2.1, .ref 4, .long (y134.toInt64)], (H0 s v.2.2.2)) rfl ?_
   obtain ⟨y135, hy135, h⟩ := be h
   refine zB Ad W (f := fun y135 => (108, [vR 1, vI x1, vI x2, vI (if y128 = (fxF v.2.2.2) then v.1 else (if (v.1 &&& ((1:Int32) <<< (y128 &&& 31))) = (0:Int32) then (v.1 ||| ((1:Int32) <<< (y128 &&& 31))) else v.1)), vI (if y128 = (fxF v.2.2.2) then v.2.1 else (if (v.1 &&& ((1:Int32) <<< (y128 &&& 31))) = (0:Int32) then (v.2.1 + (1:Int32)) else v.2.1)), vI v.2.2.1, nN, nN, nN, nN], [.int y135, .long (y134.toInt64)], (H0 s v.2.2.2))) rfl hy135 ?_
   refine yS Ad W 8 (120, [vR 1, vI x1, vI x2, vI (if y128 = (fxF v.2.2.2) then v.1 else (if (v.1 &&& ((1:Int32) <<< (y128 &&& 31))) = (0:Int32) then (v.1 ||| ((1:Int32) <<< (y128 &&& 31))) else v.1)), vI (if y128 = (fxF v.2.2.2) then v.2.1 else (if (v.1 &&& ((1:Int32) <<< (y128 &&& 31))) = (0:Int32) then (v.2.1 + (1:Int32)) else v.2.1)), vI v.2.2.1, nN, vL (((y134.toInt64) - (y135.toInt64)) + (1 : Int64)), nN, nN], [.int (XT.cmpL (((y134.toInt64) - (y135.toInt64)) + (1 : Int64)) (256 : Int64))], (H0 s v.2.2.2)) rfl ?_
   rcases qite h with ⟨c136, h⟩ | ⟨c136, h⟩
   ·refine yF Ad W 126 123 rfl (XT.ll_le_f c136) ?_
    obtain rfl := sj h
    exact zM [tt,tt,tt,ff,ff,ff,ff,ff,ff,ff] (hx0 v.2.2.2 rfl)
   ·refine yT Ad W 126 123 rfl (XT.ll_le_t c136) ?_
    refine yS Ad W 8 (137, [vR 1, vI x1, vI x2, vI (if y128 = (fxF v.2.2.2) then v.1 else (if (v.1 &&& ((1:Int32) <<< (y128 &&& 31))) = (0:Int32) then (v.1 ||| ((1:Int32) <<< (y128 &&& 31))) else v.1)), vI (if y128 = (fxF v.2.2.2) then v.2.1 else (if (v.1 &&& ((1:Int32) <<< (y128 &&& 31))) = (0:Int32) then (v.2.1 + (1:Int32)) else v.2.1)), vI v.2.2.1, nN, vL (((y134.toInt64) - (y135.toInt64)) + (1 : Int64)), nN, nN], [.int (if y128 = (fxF v.2.2.2) then v.2.1 else (if (v.1 &&& ((1:Int32) <<< (y128 &&& 31))) = (0:Int32) then (v.2.1 + (1:Int32)) else v.2.1)), .int ((x2 - v.2.2.1) + (1:Int32)), .long (((y134.toInt64) - (y135.toInt64)) + (1 : Int64)), .ref 1], (H0 s v.2.2.2)) rfl ?_
    obtain ⟨r147, hr147, h⟩ := be h
    refine callP W (a := 1) (as := [.long (((y134.toInt64) - (y135.toInt64)) + (1 : Int64)), .int ((x2 - v.2.2.1) + (1:Int32)), .int (if y128 = (fxF v.2.2.2) then v.2.1 else (if (v.1 &&& ((1:Int32) <<< (y128 &&& 31))) = (0:Int32) then (v.2.1 + (1:Int32)) else v.2.1))]) (rest := []) (w := (some (.int r147))) (σ₁ := (H0 s v.2.2.2)) rfl rfl rfl rfl rfl rfl rfl rfl (tF15 Ad W (((y134.toInt64) - (y135.toInt64)) + (1 : Int64)) ((x2 - v.2.2.1) + (1:Int32)) (if y128 = (fxF v.2.2.2) then v.2.1 else (if (v.1 &&& ((1:Int32) <<< (y128 &&& 31))) = (0:Int32) then (v.2.1 + (1:Int32)) else v.2.1)) hr147) ?_
    refine yS Ad W 2 (144, [vR 1, vI x1, vI x2, vI (if y128 = (fxF v.2.2.2) then v.1 else (if (v.1 &&& ((1:Int32) <<< (y128 &&& 31))) = (0:Int32) then (v.1 ||| ((1:Int32) <<< (y128 &&& 31))) else v.1)), vI (if y128 = (fxF v.2.2.2) then v.2.1 else (if (v.1 &&& ((1:Int32) <<< (y128 &&& 31))) = (0:Int32) then (v.2.1 + (1:Int32)) else v.2.1)), vI v.2.2.1, nN, vL (((y134.toInt64) - (y135.toInt64)) + (1 : Int64)), nN, vI r147], [.int r147], (H0 s v.2.2.2)) rfl ?_
    rcases qite h with ⟨c148, h⟩ | ⟨c148, h⟩
    ·refine yT Ad W 194 147 rfl (XT.i0_eq_t c148) ?_
     exact zM [tt,tt,tt,tt,tt,tt,ff,ff,ff,ff] (tJ14_194 Ad W s v.2.2.2 x1 x2 (if y128 = (fxF v.2.2.2) then v.1 else (if (v.1 &&& ((1:Int32) <<< (y128 &&& 31))) = (0:Int32) then (v.1 ||| ((1:Int32) <<< (y128 &&& 31))) else v.1)) (if y128 = (fxF v.2.2.2) then v.2.1 else (if (v.1 &&& ((1:Int32) <<< (y128 &&& 31))) = (0:Int32) then (v.2.1 + (1:Int32)) else v.2.1)) v.2.2.1 h hx0 hx1 hc)
    ·refine yF Ad W 194 147 rfl (XT.i0_eq_f c148) ?_
     refine yS Ad W 3 (153, [vR 1, vI x1, vI x2, vI (if y128 = (fxF v.2.2.2) then v.1 else (if (v.1 &&& ((1:Int32) <<< (y128 &&& 31))) = (0:Int32) then (v.1 ||| ((1:Int32) <<< (y128 &&& 31))) else v.1)), vI (if y128 = (fxF v.2.2.2) then v.2.1 else (if (v.1 &&& ((1:Int32) <<< (y128 &&& 31))) = (0:Int32) then (v.2.1 + (1:Int32)) else v.2.1)), vI v.2.2.1, nN, vL (((y134.toInt64) - (y135.toInt64)) + (1 : Int64)), nN, vI r147], [.int v.2.2.1, .ref 6], (H0 s v.2.2.2)) rfl ?_
     obtain ⟨y149, hy149, h⟩ := be h
     refine zB Ad W (f := fun y149 => (154, [vR 1, vI x1, vI x2, vI (if y128 = (fxF v.2.2.2) then v.1 else (if (v.1 &&& ((1:Int32) <<< (y128 &&& 31))) = (0:Int32) then (v.1 ||| ((1:Int32) <<< (y128 &&& 31))) else v.1)), vI (if y128 = (fxF v.2.2.2) then v.2.1 else (if (v.1 &&& ((1:Int32) <<< (y128 &&& 31))) = (0:Int32) then (v.2.1 + (1:Int32)) else v.2.1)), vI v.2.2.1, nN, vL (((y134.toInt64) - (y135.toInt64)) + (1 : Int64)), nN, vI r147], [.int y149], (H0 s v.2.2.2))) rfl hy149 ?_
     refine yS Ad W 7 (163, [vR 1, vI x1, vI x2, vI (if y128 = (fxF v.2.2.2) then v.1 else (if (v.1 &&& ((1:Int32) <<< (y128 &&& 31))) = (0:Int32) then (v.1 ||| ((1:Int32) <<< (y128 &&& 31))) else v.1)), vI (if y128 = (fxF v.2.2.2) then v.2.1 else (if (v.1 &&& ((1:Int32) <<< (y128 &&& 31))) = (0:Int32) then (v.2.1 + (1:Int32)) else v.2.1)), vI v.2.2.1, nN, vL (((y134.toInt64) - (y135.toInt64)) + (1 : Int64)), nN, vI r147], [.int (x2 + (1:Int32)), .ref 6, .int (y149 + (1:Int32))], (H0 s v.2.2.2)) rfl ?_
     obtain ⟨y150, hy150, h⟩ := be h
     refine zB Ad W (f := fun y150 => (164, [vR 1, vI x1, vI x2, vI (if y128 = (fxF v.2.2.2) then v.1 else (if (v.1 &&& ((1:Int32) <<< (y128 &&& 31))) = (0:Int32) then (v.1 ||| ((1:Int32) <<< (y128 &&& 31))) else v.1)), vI (if y128 = (fxF v.2.2.2) then v.2.1 else (if (v.1 &&& ((1:Int32) <<< (y128 &&& 31))) = (0:Int32) then (v.2.1 + (1:Int32)) else v.2.1)), vI v.2.2.1, nN, vL (((y134.toInt64) - (y135.toInt64)) + (1 : Int64)), nN, vI r147], [.int y150, .int (y149 + (1:Int32))], (H0 s v.2.2.2))) rfl hy150 ?_
     rcases qite h with ⟨c151, h⟩ | ⟨c151, h⟩
     ·refine yF Ad W 194 167 rfl (XT.ii_ge_f c151) ?_
      refine yS Ad W 8 (180, [vR 1, vI x1, vI x2, vI (if y128 = (fxF v.2.2.2) then v.1 else (if (v.1 &&& ((1:Int32) <<< (y128 &&& 31))) = (0:Int32) then (v.1 ||| ((1:Int32) <<< (y128 &&& 31))) else v.1)), vI (if y128 = (fxF v.2.2.2) then v.2.1 else (if (v.1 &&& ((1:Int32) <<< (y128 &&& 31))) = (0:Int32) then (v.2.1 + (1:Int32)) else v.2.1)), vI v.2.2.1, nN, vL (((y134.toInt64) - (y135.toInt64)) + (1 : Int64)), nN, vI r147], [.int v.2.2.1, .ref 6, .int (x2 + (1:Int32)), .ref 6], (H0 s v.2.2.2)) rfl ?_
      obtain ⟨y152, hy152, h⟩ := be h
      refine zB Ad W (f := fun y152 => (181, [vR 1, vI x1, vI x2, vI (if y128 = (fxF v.2.2.2) then v.1 else (if (v.1 &&& ((1:Int32) <<< (y128 &&& 31))) = (0:Int32) then (v.1 ||| ((1:Int32) <<< (y128 &&& 31))) else v.1)), vI (if y128 = (fxF v.2.2.2) then v.2.1 else (if (v.1 &&& ((1:Int32) <<< (y128 &&& 31))) = (0:Int32) then (v.2.1 + (1:Int32)) else v.2.1)), vI v.2.2.1, nN, vL (((y134.toInt64) - (y135.toInt64)) + (1 : Int64)), nN, vI r147], [.int y152, .int (x2 + (1:Int32)), .ref 6], (H0 s v.2.2.2))) rfl hy152 ?_
      refine yS Ad W 2 (183, [vR 1, vI x1, vI x2, vI (if y128 = (fxF v.2.2.2) then v.1 else (if (v.1 &&& ((1:Int32) <<< (y128 &&& 31))) = (0:Int32) then (v.1 ||| ((1:Int32) <<< (y128 &&& 31))) else v.1)), vI (if y128 = (fxF v.2.2.2) then v.2.1 else (if (v.1 &&& ((1:Int32) <<< (y128 &&& 31))) = (0:Int32) then (v.2.1 + (1:Int32)) else v.2.1)), vI v.2.2.1, nN, vL (((y134.toInt64) - (y135.toInt64)) + (1 : Int64)), nN, vI r147], [.int (y152 + (1:Int32)), .int (x2 + (1:Int32)), .ref 6], (H0 s v.2.2.2)) rfl ?_
      obtain ⟨y153, hy153, h⟩ := be h
      refine zB Ad W (f := fun y153 => (184, [vR 1, vI x1, vI x2, vI (if y128 = (fxF v.2.2.2) then v.1 else (if (v.1 &&& ((1:Int32) <<< (y128 &&& 31))) = (0:Int32) then (v.1 ||| ((1:Int32) <<< (y128 &&& 31))) else v.1)), vI (if y128 = (fxF v.2.2.2) then v.2.1 else (if (v.1 &&& ((1:Int32) <<< (y128 &&& 31))) = (0:Int32) then (v.2.1 + (1:Int32)) else v.2.1)), vI v.2.2.1, nN, vL (((y134.toInt64) - (y135.toInt64)) + (1 : Int64)), nN, vI r147], [], (H0x26 s v.2.2.2 y153))) rfl hy153 ?_
      refine yS Ad W 6 (193, [vR 1, vI x1, vI x2, vI (if y128 = (fxF v.2.2.2) then v.1 else (if (v.1 &&& ((1:Int32) <<< (y128 &&& 31))) = (0:Int32) then (v.1 ||| ((1:Int32) <<< (y128 &&& 31))) else v.1)), vI (if y128 = (fxF v.2.2.2) then v.2.1 else (if (v.1 &&& ((1:Int32) <<< (y128 &&& 31))) = (0:Int32) then (v.2.1 + (1:Int32)) else v.2.1)), vI v.2.2.1, nN, vL (((y134.toInt64) - (y135.toInt64)) + (1 : Int64)), nN, vI r147], [.int v.2.2.1, .int (x2 + (1:Int32)), .ref 7], (H0x26 s v.2.2.2 y153)) rfl ?_
      obtain ⟨y154, hy154, h⟩ := be h
      refine zB Ad W (f := fun y154 => (194, [vR 1, vI x1, vI x2, vI (if y128 = (fxF v.2.2.2) then v.1 else (if (v.1 &&& ((1:Int32) <<< (y128 &&& 31))) = (0:Int32) then (v.1 ||| ((1:Int32) <<< (y128 &&& 31))) else v.1)), vI (if y128 = (fxF v.2.2.2) then v.2.1 else (if (v.1 &&& ((1:Int32) <<< (y128 &&& 31))) = (0:Int32) then (v.2.1 + (1:Int32)) else v.2.1)), vI v.2.2.1, nN, vL (((y134.toInt64) - (y135.toInt64)) + (1 : Int64)), nN, vI r147], [], (H0x27 s v.2.2.2 y153 y154))) rfl hy154 ?_
      have E155 : ((H0x27 s v.2.2.2 y153 y154) : QHeap) = (H0 s (sT (sS v.2.2.2 y153) y154)) := by simp only [fs, H0, H0v, H0x27, sS, sT]
      rw [E155]
      exact zM [tt,tt,tt,tt,tt,tt,ff,ff,ff,ff] (tJ14_194 Ad W s (sT (sS v.2.2.2 y153) y154) x1 x2 (if y128 = (fxF v.2.2.2) then v.1 else (if (v.1 &&& ((1:Int32) <<< (y128 &&& 31))) = (0:Int32) then (v.1 ||| ((1:Int32) <<< (y128 &&& 31))) else v.1)) (if y128 = (fxF v.2.2.2) then v.2.1 else (if (v.1 &&& ((1:Int32) <<< (y128 &&& 31))) = (0:Int32) then (v.2.1 + (1:Int32)) else v.2.1)) v.2.2.1 h hx0 hx1 hc)
     ·refine yT Ad W 194 167 rfl (XT.ii_ge_t c151) ?_
      exact zM [tt,tt,tt,tt,tt,tt,ff,ff,ff,ff] (tJ14_194 Ad W s v.2.2.2 x1 x2 (if y128 = (fxF v.2.2.2) then v.1 else (if (v.1 &&& ((1:Int32) <<< (y128 &&& 31))) = (0:Int32) then (v.1 ||| ((1:Int32) <<< (y128 &&& 31))) else v.1)) (if y128 = (fxF v.2.2.2) then v.2.1 else (if (v.1 &&& ((1:Int32) <<< (y128 &&& 31))) = (0:Int32) then (v.2.1 + (1:Int32)) else v.2.1)) v.2.2.1 h hx0 hx1 hc)
  rcases em (y128 = (fxF v.2.2.2)) with c132 | c132
  ·refine yT Ad W 94 75 rfl (XT.ii_eq_t c132) ?_
   exact zM [tt,tt,tt,tt,tt,tt,ff,ff,ff,ff] (K131 _ (if_pos c132).symm _ (if_pos c132).symm)
  ·refine yF Ad W 94 75 rfl (XT.ii_eq_f c132) ?_
   refine yS Ad W 5 (81, [vR 1, vI x1, vI x2, vI v.1, vI v.2.1, vI v.2.2.1, vI y128, nN, nN, nN], [.int (v.1 &&& ((1:Int32) <<< (y128 &&& 31)))], (H0 s v.2.2.2)) rfl ?_
   rcases em ((v.1 &&& ((1:Int32) <<< (y128 &&& 31))) = (0:Int32)) with c133 | c133
   ·refine yF Ad W 94 84 rfl (XT.i0_ne_f c133) ?_
    refine yS Ad W 7 (94, [vR 1, vI x1, vI x2, vI (v.1 ||| ((1:Int32) <<< (y128 &&& 31))), vI (v.2.1 + (1:Int32)), vI v.2.2.1, vI y128, nN, nN, nN], [], (H0 s v.2.2.2)) rfl ?_
    exact zM [tt,tt,tt,tt,tt,tt,ff,ff,ff,ff] (K131 _ ((if_neg c132).trans (if_pos c133)).symm _ ((if_neg c132).trans (if_pos c133)).symm)
   ·refine yT Ad W 94 84 rfl (XT.i0_ne_t c133) ?_
    exact zM [tt,tt,tt,tt,tt,tt,ff,ff,ff,ff] (K131 _ ((if_neg c132).trans (if_neg c133)).symm _ ((if_neg c132).trans (if_neg c133)).symm)
def J14_200 (o : Ob) (x1 x2 : Int32) : Option (((Ob)) ⊕ (Int32 × Ob)) :=
  some (.inr ((x2 + (1 : Int32)), o))
theorem tJ14_200 (Ad : QAd n0 ad) (W : QW Z a0) (s : List Int32) (o : Ob) (x1 x2 : Int32) {r : ((Ob)) ⊕ (Int32 × Ob)} {u : Option Value} {τ : QHeap} (h : J14_200 o x1 x2 = some r) (hx0 : ∀ x : Ob, r = .inl x → u = (none : Option Value) ∧ τ = (H0 s x)) (hc : ∀ x : Int32 × Ob, r = .inr x → QTri l Z n0 ad 14 (14, [vR 1, vI x1, vI x.1, nN, nN, nN, nN, nN, nN, nN], [], (H0 s x.2)) u τ) : QTri l Z n0 ad 14 (200, [vR 1, vI x1, vI x2, nN, nN, nN, nN, nN, nN, nN], [], (H0 s o)) u τ := by
 unfold J14_200 at h
 refine yS Ad W 2 (14, [vR 1, vI x1, vI (x2 + (1:Int32)), nN, nN, nN, nN, nN, nN, nN], [], (H0 s o)) rfl ?_
 obtain rfl := sj h
 exact zM [tt,tt,tt,ff,ff,ff,ff,ff,ff,ff] (hc ((x2 + (1:Int32)), o) rfl)
def B14_14 (x1 : Int32) (v : Int32 × Ob) : Option (((Ob)) ⊕ (Int32 × Ob)) :=
  (if v.1 < x1 then (aget (fS v.2) v.1).bind fun y123 => (aset (fS v.2) (v.1 + (1 : Int32)) (y123 + (1 : Int32))).bind fun y124 => (aset (fT v.2) (v.1 + (1 : Int32)) v.1).bind fun y125 => ((loopN (B14_52 x1 v.1) qN ((0 : Int32), (0 : Int32), v.1, (sT (sS v.2 y124) y125))).bind fun e156 => match e156 with | .inl e156a => (J14_200 e156a x1 v.1) | .inr e156a => (J14_200 e156a x1 v.1)) else some (.inl v.2))
theorem tB14_14 (Ad : QAd n0 ad) (W : QW Z a0) (s : List Int32) (x1 : Int32) (v : Int32 × Ob) {r : ((Ob)) ⊕ (Int32 × Ob)} {u : Option Value} {τ : QHeap} (h : B14_14 x1 v = some r) (hx0 : ∀ x : Ob, r = .inl x → u = (none : Option Value) ∧ τ = (H0 s x)) (hc : ∀ x : Int32 × Ob, r = .inr x → QTri l Z n0 ad 14 (14, [vR 1, vI x1, vI x.1, nN, nN, nN, nN, nN, nN, nN], [], (H0 s x.2)) u τ) : QTri l Z n0 ad 14 (14, [vR 1, vI x1, vI v.1, nN, nN, nN, nN, nN, nN, nN], [], (H0 s v.2)) u τ := by
 unfold B14_14 at h
 refine yS Ad W 2 (16, [vR 1, vI x1, vI v.1, nN, nN, nN, nN, nN, nN, nN], [.int x1, .int v.1], (H0 s v.2)) rfl ?_
 rcases qite h with ⟨c122, h⟩ | ⟨c122, h⟩
 ·refine yF Ad W 206 19 rfl (XT.ii_ge_f c122) ?_
  refine yS Ad W 8 (31, [vR 1, vI x1, vI v.1, nN, nN, nN, nN, nN, nN, nN], [.int v.1, .ref 6, .int (v.1 + (1:Int32)), .ref 6], (H0 s v.2)) rfl ?_
  obtain ⟨y123, hy123, h⟩ := be h
  refine zB Ad W (f := fun y123 => (32, [vR 1, vI x1, vI v.1, nN, nN, nN, nN, nN, nN, nN], [.int y123, .int (v.1 + (1:Int32)), .ref 6], (H0 s v.2))) rfl hy123 ?_
  refine yS Ad W 2 (34, [vR 1, vI x1, vI v.1, nN, nN, nN, nN, nN, nN, nN], [.int (y123 + (1:Int32)), .int (v.1 + (1:Int32)), .ref 6], (H0 s v.2)) rfl ?_
  obtain ⟨y124, hy124, h⟩ := be h
  refine zB Ad W (f := fun y124 => (35, [vR 1, vI x1, vI v.1, nN, nN, nN, nN, nN, nN, nN], [], (H0x26 s v.2 y124))) rfl hy124 ?_
  refine yS Ad W 6 (43, [vR 1, vI x1, vI v.1, nN, nN, nN, nN, nN, nN, nN], [.int v.1, .int (v.1 + (1:Int32)), .ref 7], (H0x26 s v.2 y124)) rfl ?_
  obtain ⟨y125, hy125, h⟩ := be h
  refine zB Ad W (f := fun y125 => (44, [vR 1, vI x1, vI v.1, nN, nN, nN, nN, nN, nN, nN], [], (H0x27 s v.2 y124 y125))) rfl hy125 ?_
  refine yS Ad W 4 (49, [vR 1, vI x1, vI v.1, vI 0, vI 0, nN, nN, nN, nN, nN], [], (H0x27 s v.2 y124 y125)) rfl ?_
  refine yS Ad W 2 (52, [vR 1, vI x1, vI v.1, vI 0, vI 0, vI v.1, nN, nN, nN, nN], [], (H0x27 s v.2 y124 y125)) rfl ?_
  have E126 : ((H0x27 s v.2 y124 y125) : QHeap) = (H0 s (sT (sS v.2 y124) y125)) := by simp only [fs, H0, H0v, H0x27, sS, sT]
  rw [E126]
  obtain ⟨e156, he156, h⟩ := be h
  refine zM [tt,tt,tt,tt,tt,tt,ff,ff,ff,ff] (loopN_tri (B := B14_52 x1 v.1) (T := fun lv157 => QTri l Z n0 ad 14 (52, [vR 1, vI x1, vI v.1, vI lv157.1, vI lv157.2.1, vI lv157.2.2.1, nN, nN, nN, nN], [], (H0 s lv157.2.2.2)) u τ) (KE := fun e => match e with | .inl e156a => QTri l Z n0 ad 14 (123, [vR 1, vI x1, vI v.1, nN, nN, nN, nN, nN, nN, nN], [], (H0 s e156a)) u τ | .inr e156a => QTri l Z n0 ad 14 (200, [vR 1, vI x1, vI v.1, nN, nN, nN, nN, nN, nN, nN], [], (H0 s e156a)) u τ) (fun lv157 r hB hE hC => tB14_52 Ad W s x1 v.1 lv157 hB (fun x q => hE _ q) (fun x q => hE _ q) (fun x q => hC x q)) qN ((0:Int32), (0:Int32), v.1, (sT (sS v.2 y124) y125)) e156 he156 ?_)
  rcases e156 with e156a | e156a
  ·refine yS Ad W 1 (200, [vR 1, vI x1, vI v.1, nN, nN, nN, nN, nN, nN, nN], [], (H0 s e156a)) rfl ?_
   exact zM [tt,tt,tt,ff,ff,ff,ff,ff,ff,ff] (tJ14_200 Ad W s e156a x1 v.1 h hx0 hc)
  ·exact zM [tt,tt,tt,ff,ff,ff,ff,ff,ff,ff] (tJ14_200 Ad W s e156a x1 v.1 h hx0 hc)
 ·refine yT Ad W 206 19 rfl (XT.ii_ge_t c122) ?_
  obtain rfl := sj h
  obtain ⟨rfl, rfl⟩ := hx0 v.2 rfl
  exact ret0 rfl rfl
/-- planClusters()V -/
def F14 (o : Ob) : Option (Ob) :=
 (aset (fS o) (0:Int32) (0:Int32)).bind fun y120 => (loopN (B14_14 (fxE o)) qN ((0:Int32), (sS o y120))).bind fun e158 => some e158
theorem tF14 (Ad : QAd n0 ad) (W : QW Z a0) (s : List Int32) (o : Ob) {r : Ob} (h : F14 o = some r) : QTri l Z n0 ad 14 (0, qentry [.ref 1] (pMaxL 14), [], (H0 s o)) (none : Option Value) (H0 s r) := by
 unfold F14 at h
 refine yS Ad W 7 (11, [vR 1, vI (fxE o), nN, nN, nN, nN, nN, nN, nN, nN], [.int 0, .int 0, .ref 6], (H0 s o)) rfl ?_
 obtain ⟨y120, hy120, h⟩ := be h
 refine zB Ad W (f := fun y120 => (12, [vR 1, vI (fxE o), nN, nN, nN, nN, nN, nN, nN, nN], [], (H0x26 s o y120))) rfl hy120 ?_
 refine yS Ad W 2 (14, [vR 1, vI (fxE o), vI 0, nN, nN, nN, nN, nN, nN, nN], [], (H0x26 s o y120)) rfl ?_
 have E121 : ((H0x26 s o y120) : QHeap) = (H0 s (sS o y120)) := by simp only [fs, H0, H0v, H0x26, sS]
 rw [E121]
 obtain ⟨e158, he158, h⟩ := be h
 refine zM [tt,tt,tt,ff,ff,ff,ff,ff,ff,ff] (loopN_tri (B := B14_14 (fxE o)) (T := fun lv159 => QTri l Z n0 ad 14 (14, [vR 1, vI (fxE o), vI lv159.1, nN, nN, nN, nN, nN, nN, nN], [], (H0 s lv159.2)) (none : Option Value) (H0 s r)) (KE := fun e158a => (none : Option Value) = (none : Option Value) ∧ (H0 s r) = (H0 s e158a)) (fun lv159 r hB hE hC => tB14_14 Ad W s (fxE o) lv159 hB (fun x q => hE _ q) (fun x q => hC x q)) qN ((0:Int32), (sS o y120)) e158 he158 ?_)
 obtain rfl := sj h
 exact ⟨rfl, rfl⟩
def H0x28 (s : List Int32) (o0 : Ob) (a0_42 : Int32) : QHeap := H0v s (fA o0) (fB o0) (fC o0) (fD o0) (fE o0) (fF o0) (fG o0) (fH o0) (fI o0) (fJ o0) (fK o0) (fL o0) (fM o0) (fN o0) (fO o0) (fP o0) (fQ o0) (fR o0) (fS o0) (fT o0) (fU o0) (fV o0) (fW o0) (fX o0) (fY o0) (fZ o0) (fa o0) (fb o0) (fd o0) (fh o0) (fi o0) (fq o0) (fu o0) (fy o0) (fz o0) (fxA o0) (fxB o0) (fxC o0) (fxD o0) (fxE o0) (fxF o0) (fxG o0) a0_42 (fxI o0) (fxJ o0) (fxK o0) (fxL o0) (fxM o0)
def H0x29 (s : List Int32) (o0 : Ob) (a0_20 : List Int32) : QHeap := H0v s (fA o0) (fB o0) (fC o0) (fD o0) (fE o0) (fF o0) (fG o0) (fH o0) (fI o0) (fJ o0) (fK o0) (fL o0) (fM o0) (fN o0) (fO o0) (fP o0) (fQ o0) (fR o0) (fS o0) (fT o0) a0_20 (fV o0) (fW o0) (fX o0) (fY o0) (fZ o0) (fa o0) (fb o0) (fd o0) (fh o0) (fi o0) (fq o0) (fu o0) (fy o0) (fz o0) (fxA o0) (fxB o0) (fxC o0) (fxD o0) (fxE o0) (fxF o0) (fxG o0) (fxH o0) (fxI o0) (fxJ o0) (fxK o0) (fxL o0) (fxM o0)
def H0x30 (s : List Int32) (o0 : Ob) (a0_20 a0_21 : List Int32) : QHeap := H0v s (fA o0) (fB o0) (fC o0) (fD o0) (fE o0) (fF o0) (fG o0) (fH o0) (fI o0) (fJ o0) (fK o0) (fL o0) (fM o0) (fN o0) (fO o0) (fP o0) (fQ o0) (fR o0) (fS o0) (fT o0) a0_20 a0_21 (fW o0) (fX o0) (fY o0) (fZ o0) (fa o0) (fb o0) (fd o0) (fh o0) (fi o0) (fq o0) (fu o0) (fy o0) (fz o0) (fxA o0) (fxB o0) (fxC o0) (fxD o0) (fxE o0) (fxF o0) (fxG o0) (fxH o0) (fxI o0) (fxJ o0) (fxK o0) (fxL o0) (fxM o0)
def B16_22 (v : Int32 × Int32 × Int32 × Ob) : Option (((Ob)) ⊕ (Int32 × Int32 × Int32 × Ob)) :=
  (if v.2.2.1 < (65 : Int32) then (if (0 : Int32) < v.2.1 then (aget (fT v.2.2.2) v.2.1).bind fun y165 => (if (v.1 + (-1 : Int32)) < (0 : Int32) then some (.inl v.2.2.2) else (if y165 < (0 : Int32) then some (.inl v.2.2.2) else (if y165 < v.2.1 then (aset (fU v.2.2.2) (v.1 + (-1 : Int32)) y165).bind fun y169 => (aset (fV v.2.2.2) (v.1 + (-1 : Int32)) (v.2.1 - (1 : Int32))).bind fun y170 => some (.inr ((v.1 + (-1 : Int32)), y165, (v.2.2.1 + (1 : Int32)), (sV (sU v.2.2.2 y169) y170))) else some (.inl v.2.2.2)))) else some (.inl v.2.2.2)) else some (.inl v.2.2.2))
theorem htB16_22_y169 (s : List Int32) (v : Int32 × Int32 × Int32 × Ob) (y165 : Int32) (z9 z8 : Int32) : qstep 16 (69, [vR 1, nN, vI z9, vI v.2.1, vI v.2.2.1, vI y165], [.int y165, .int z9, .ref 8], (H0 s v.2.2.2)) = (aset (fU v.2.2.2) z9 y165).bind fun y169 => some (70, [vR 1, nN, vI z9, vI v.2.1, vI v.2.2.1, vI y165], [], (H0x29 s v.2.2.2 y169)) := rfl
theorem htB16_22_y170 (s : List Int32) (v : Int32 × Int32 × Int32 × Ob) (y165 : Int32) (y169 : List Int32) (z9 z8 : Int32) : qstep 16 (78, [vR 1, nN, vI z9, vI v.2.1, vI v.2.2.1, vI y165], [.int z8, .int z9, .ref 9], (H0x29 s v.2.2.2 y169)) = (aset (fV v.2.2.2) z9 z8).bind fun y170 => some (79, [vR 1, nN, vI z9, vI v.2.1, vI v.2.2.1, vI y165], [], (H0x30 s v.2.2.2 y169 y170)) := rfl
theorem tB16_22 (Ad : QAd n0 ad) (W : QW Z a0) (s : List Int32) (v : Int32 × Int32 × Int32 × Ob) {r : ((Ob)) ⊕ (Int32 × Int32 × Int32 × Ob)} {u : Option Value} {τ : QHeap} (h : B16_22 v = some r) (hx0 : ∀ x : Ob, r = .inl x → u = (none : Option Value) ∧ τ = (H0 s x)) (hc : ∀ x : Int32 × Int32 × Int32 × Ob, r = .inr x → QTri l Z n0 ad 16 (22, [vR 1, nN, vI x.1, vI x.2.1, vI x.2.2.1, nN], [], (H0 s x.2.2.2)) u τ) : QTri l Z n0 ad 16 (22, [vR 1, nN, vI v.1, vI v.2.1, vI v.2.2.1, nN], [], (H0 s v.2.2.2)) u τ := by
 unfold B16_22 at h
 refine yS Ad W 2 (26, [vR 1, nN, vI v.1, vI v.2.1, vI v.2.2.1, nN], [.int 65, .int v.2.2.1], (H0 s v.2.2.2)) rfl ?_
 rcases qite h with ⟨c163, h⟩ | ⟨c163, h⟩
 ·refine yF Ad W 88 29 rfl (XT.ii_ge_f c163) ?_
  refine yS Ad W 1 (30, [vR 1, nN, vI v.1, vI v.2.1, vI v.2.2.1, nN], [.int v.2.1], (H0 s v.2.2.2)) rfl ?_
  rcases qite h with ⟨c164, h⟩ | ⟨c164, h⟩
  ·refine yF Ad W 88 33 rfl (XT.i0_le_f c164) ?_
   refine yS Ad W 3 (38, [vR 1, nN, vI v.1, vI v.2.1, vI v.2.2.1, nN], [.int v.2.1, .ref 7], (H0 s v.2.2.2)) rfl ?_
   obtain ⟨y165, hy165, h⟩ := be h
   refine zB Ad W (f := fun y165 => (39, [vR 1, nN, vI v.1, vI v.2.1, vI v.2.2.1, nN], [.int y165], (H0 s v.2.2.2))) rfl hy165 ?_
   refine yS Ad W 3 (45, [vR 1, nN, vI (v.1 + (-1:Int32)), vI v.2.1, vI v.2.2.1, vI y165], [.int (v.1 + (-1:Int32))], (H0 s v.2.2.2)) rfl ?_
   rcases qite h with ⟨c166, h⟩ | ⟨c166, h⟩
   ·refine yT Ad W 88 48 rfl (XT.i0_lt_t c166) ?_
    obtain rfl := sj h
    obtain ⟨rfl, rfl⟩ := hx0 v.2.2.2 rfl
    exact ret0 rfl rfl
   ·refine yF Ad W 88 48 rfl (XT.i0_lt_f c166) ?_
    refine yS Ad W 1 (50, [vR 1, nN, vI (v.1 + (-1:Int32)), vI v.2.1, vI v.2.2.1, vI y165], [.int y165], (H0 s v.2.2.2)) rfl ?_
    rcases qite h with ⟨c167, h⟩ | ⟨c167, h⟩
    ·refine yT Ad W 88 53 rfl (XT.i0_lt_t c167) ?_
     obtain rfl := sj h
     obtain ⟨rfl, rfl⟩ := hx0 v.2.2.2 rfl
     exact ret0 rfl rfl
    ·refine yF Ad W 88 53 rfl (XT.i0_lt_f c167) ?_
     refine yS Ad W 2 (56, [vR 1, nN, vI (v.1 + (-1:Int32)), vI v.2.1, vI v.2.2.1, vI y165], [.int v.2.1, .int y165], (H0 s v.2.2.2)) rfl ?_
     rcases qite h with ⟨c168, h⟩ | ⟨c168, h⟩
     ·refine yT Ad W 62 59 rfl (XT.ii_lt_t c168) ?_
      refine yS Ad W 4 (69, [vR 1, nN, vI (v.1 + (-1:Int32)), vI v.2.1, vI v.2.2.1, vI y165], [.int y165, .int (v.1 + (-1:Int32)), .ref 8], (H0 s v.2.2.2)) rfl ?_
      obtain ⟨y169, hy169, h⟩ := be h
      refine zB Ad W (f := fun y169 => (70, [vR 1, nN, vI (v.1 + (-1:Int32)), vI v.2.1, vI v.2.2.1, vI y165], [], (H0x29 s v.2.2.2 y169))) (htB16_22_y169 s v y165 (v.1 + (-1:Int32)) 0) hy169 ?_
      refine yS Ad W 6 (78, [vR 1, nN, vI (v.1 + (-1:Int32)), vI v.2.1, vI v.2.2.1, vI y165], [.int (v.2.1 - (1:Int32)), .int (v.1 + (-1:Int32)), .ref 9], (H0x29 s v.2.2.2 y169)) rfl ?_
      obtain ⟨y170, hy170, h⟩ := be h
      refine zB Ad W (f := fun y170 => (79, [vR 1, nN, vI (v.1 + (-1:Int32)), vI v.2.1, vI v.2.2.1, vI y165], [], (H0x30 s v.2.2.2 y169 y170))) (htB16_22_y170 s v y165 y169 (v.1 + (-1:Int32)) (v.2.1 - (1:Int32))) hy170 ?_
      refine yS Ad W 3 (85, [vR 1, nN, vI (v.1 + (-1:Int32)), vI y165, vI (v.2.2.1 + (1:Int32)), vI y165], [], (H0x30 s v.2.2.2 y169 y170)) rfl ?_
      refine yS Ad W 1 (22, [vR 1, nN, vI (v.1 + (-1:Int32)), vI y165, vI (v.2.2.1 + (1:Int32)), vI y165], [], (H0x30 s v.2.2.2 y169 y170)) rfl ?_
      have E171 : ((H0x30 s v.2.2.2 y169 y170) : QHeap) = (H0 s (sV (sU v.2.2.2 y169) y170)) := by simp only [fs, H0, H0v, H0x30, sU, sV]
      rw [E171]
      obtain rfl := sj h
      exact zM [tt,ff,tt,tt,tt,ff] (hc ((v.1 + (-1:Int32)), y165, (v.2.2.1 + (1:Int32)), (sV (sU v.2.2.2 y169) y170)) rfl)
     ·refine yF Ad W 62 59 rfl (XT.ii_lt_f c168) ?_
      refine yS Ad W 1 (88, [vR 1, nN, vI (v.1 + (-1:Int32)), vI v.2.1, vI v.2.2.1, vI y165], [], (H0 s v.2.2.2)) rfl ?_
      obtain rfl := sj h
      obtain ⟨rfl, rfl⟩ := hx0 v.2.2.2 rfl
      exact ret0 rfl rfl
  ·refine yT Ad W 88 33 rfl (XT.i0_le_t c164) ?_
   obtain rfl := sj h
   obtain ⟨rfl, rfl⟩ := hx0 v.2.2.2 rfl
   exact ret0 rfl rfl
 ·refine yT Ad W 88 29 rfl (XT.ii_ge_t c163) ?_
  obtain rfl := sj h
  obtain ⟨rfl, rfl⟩ := hx0 v.2.2.2 rfl
  exact ret0 rfl rfl
/-- collectClusters()V -/
def F16 (o : Ob) : Option (Ob) :=
 (aget (fS o) (fxE o)).bind fun y161 => (loopN (B16_22) qN (y161, (fxE o), (0:Int32), (sxH o y161))).bind fun e172 => some e172
theorem tF16 (Ad : QAd n0 ad) (W : QW Z a0) (s : List Int32) (o : Ob) {r : Ob} (h : F16 o = some r) : QTri l Z n0 ad 16 (0, qentry [.ref 1] (pMaxL 16), [], (H0 s o)) (none : Option Value) (H0 s r) := by
 unfold F16 at h
 refine yS Ad W 6 (10, [vR 1, vI (fxE o), nN, nN, nN, nN], [.int (fxE o), .ref 6], (H0 s o)) rfl ?_
 obtain ⟨y161, hy161, h⟩ := be h
 refine zB Ad W (f := fun y161 => (11, [vR 1, vI (fxE o), nN, nN, nN, nN], [.int y161], (H0 s o))) rfl hy161 ?_
 refine yS Ad W 4 (17, [vR 1, vI (fxE o), vI y161, nN, nN, nN], [], (H0x28 s o y161)) rfl ?_
 refine yS Ad W 4 (22, [vR 1, vI (fxE o), vI y161, vI (fxE o), vI 0, nN], [], (H0x28 s o y161)) rfl ?_
 have E162 : ((H0x28 s o y161) : QHeap) = (H0 s (sxH o y161)) := by simp only [fs, H0, H0v, H0x28, sxH]
 rw [E162]
 obtain ⟨e172, he172, h⟩ := be h
 refine zM [tt,ff,tt,tt,tt,ff] (loopN_tri (B := B16_22) (T := fun lv173 => QTri l Z n0 ad 16 (22, [vR 1, nN, vI lv173.1, vI lv173.2.1, vI lv173.2.2.1, nN], [], (H0 s lv173.2.2.2)) (none : Option Value) (H0 s r)) (KE := fun e172a => (none : Option Value) = (none : Option Value) ∧ (H0 s r) = (H0 s e172a)) (fun lv173 r hB hE hC => tB16_22 Ad W s lv173 hB (fun x q => hE _ q) (fun x q => hC x q)) qN (y161, (fxE o), (0:Int32), (sxH o y161)) e172 he172 ?_)
 obtain rfl := sj h
 exact ⟨rfl, rfl⟩
def H0x31 (s : List Int32) (o0 : Ob) (a0_43 : Int32) : QHeap := H0v s (fA o0) (fB o0) (fC o0) (fD o0) (fE o0) (fF o0) (fG o0) (fH o0) (fI o0) (fJ o0) (fK o0) (fL o0) (fM o0) (fN o0) (fO o0) (fP o0) (fQ o0) (fR o0) (fS o0) (fT o0) (fU o0) (fV o0) (fW o0) (fX o0) (fY o0) (fZ o0) (fa o0) (fb o0) (fd o0) (fh o0) (fi o0) (fq o0) (fu o0) (fy o0) (fz o0) (fxA o0) (fxB o0) (fxC o0) (fxD o0) (fxE o0) (fxF o0) (fxG o0) (fxH o0) a0_43 (fxJ o0) (fxK o0) (fxL o0) (fxM o0)
def H0x32 (s : List Int32) (o0 : Ob) (a0_43 a0_45 : Int32) : QHeap := H0v s (fA o0) (fB o0) (fC o0) (fD o0) (fE o0) (fF o0) (fG o0) (fH o0) (fI o0) (fJ o0) (fK o0) (fL o0) (fM o0) (fN o0) (fO o0) (fP o0) (fQ o0) (fR o0) (fS o0) (fT o0) (fU o0) (fV o0) (fW o0) (fX o0) (fY o0) (fZ o0) (fa o0) (fb o0) (fd o0) (fh o0) (fi o0) (fq o0) (fu o0) (fy o0) (fz o0) (fxA o0) (fxB o0) (fxC o0) (fxD o0) (fxE o0) (fxF o0) (fxG o0) (fxH o0) a0_43 (fxJ o0) a0_45 (fxL o0) (fxM o0)
def H0x33 (s : List Int32) (o0 : Ob) (a0_43 a0_45 a0_46 : Int32) : QHeap := H0v s (fA o0) (fB o0) (fC o0) (fD o0) (fE o0) (fF o0) (fG o0) (fH o0) (fI o0) (fJ o0) (fK o0) (fL o0) (fM o0) (fN o0) (fO o0) (fP o0) (fQ o0) (fR o0) (fS o0) (fT o0) (fU o0) (fV o0) (fW o0) (fX o0) (fY o0) (fZ o0) (fa o0) (fb o0) (fd o0) (fh o0) (fi o0) (fq o0) (fu o0) (fy o0) (fz o0) (fxA o0) (fxB o0) (fxC o0) (fxD o0) (fxE o0) (fxF o0) (fxG o0) (fxH o0) a0_43 (fxJ o0) a0_45 a0_46 (fxM o0)
def H0x34 (s : List Int32) (o0 : Ob) (a0_43 a0_45 : Int32) (a0_46 a0_47 : Int32) : QHeap := H0v s (fA o0) (fB o0) (fC o0) (fD o0) (fE o0) (fF o0) (fG o0) (fH o0) (fI o0) (fJ o0) (fK o0) (fL o0) (fM o0) (fN o0) (fO o0) (fP o0) (fQ o0) (fR o0) (fS o0) (fT o0) (fU o0) (fV o0) (fW o0) (fX o0) (fY o0) (fZ o0) (fa o0) (fb o0) (fd o0) (fh o0) (fi o0) (fq o0) (fu o0) (fy o0) (fz o0) (fxA o0) (fxB o0) (fxC o0) (fxD o0) (fxE o0) (fxF o0) (fxG o0) (fxH o0) a0_43 (fxJ o0) a0_45 a0_46 a0_47
def H0x35 (s : List Int32) (o0 : Ob) (a0_22 : List Int32) : QHeap := H0v s (fA o0) (fB o0) (fC o0) (fD o0) (fE o0) (fF o0) (fG o0) (fH o0) (fI o0) (fJ o0) (fK o0) (fL o0) (fM o0) (fN o0) (fO o0) (fP o0) (fQ o0) (fR o0) (fS o0) (fT o0) (fU o0) (fV o0) a0_22 (fX o0) (fY o0) (fZ o0) (fa o0) (fb o0) (fd o0) (fh o0) (fi o0) (fq o0) (fu o0) (fy o0) (fz o0) (fxA o0) (fxB o0) (fxC o0) (fxD o0) (fxE o0) (fxF o0) (fxG o0) (fxH o0) (fxI o0) (fxJ o0) (fxK o0) (fxL o0) (fxM o0)
def H0x36 (s : List Int32) (o0 : Ob) (a0_22 a0_23 : List Int32) : QHeap := H0v s (fA o0) (fB o0) (fC o0) (fD o0) (fE o0) (fF o0) (fG o0) (fH o0) (fI o0) (fJ o0) (fK o0) (fL o0) (fM o0) (fN o0) (fO o0) (fP o0) (fQ o0) (fR o0) (fS o0) (fT o0) (fU o0) (fV o0) a0_22 a0_23 (fY o0) (fZ o0) (fa o0) (fb o0) (fd o0) (fh o0) (fi o0) (fq o0) (fu o0) (fy o0) (fz o0) (fxA o0) (fxB o0) (fxC o0) (fxD o0) (fxE o0) (fxF o0) (fxG o0) (fxH o0) (fxI o0) (fxJ o0) (fxK o0) (fxL o0) (fxM o0)
def H0x37 (s : List Int32) (o0 : Ob) (a0_22 a0_23 a0_24 : List Int32) : QHeap := H0v s (fA o0) (fB o0) (fC o0) (fD o0) (fE o0) (fF o0) (fG o0) (fH o0) (fI o0) (fJ o0) (fK o0) (fL o0) (fM o0) (fN o0) (fO o0) (fP o0) (fQ o0) (fR o0) (fS o0) (fT o0) (fU o0) (fV o0) a0_22 a0_23 a0_24 (fZ o0) (fa o0) (fb o0) (fd o0) (fh o0) (fi o0) (fq o0) (fu o0) (fy o0) (fz o0) (fxA o0) (fxB o0) (fxC o0) (fxD o0) (fxE o0) (fxF o0) (fxG o0) (fxH o0) (fxI o0) (fxJ o0) (fxK o0) (fxL o0) (fxM o0)
def H0x38 (s : List Int32) (o0 : Ob) (a0_22 a0_23 : List Int32) (a0_24 a0_25 : List Int32) : QHeap := H0v s (fA o0) (fB o0) (fC o0) (fD o0) (fE o0) (fF o0) (fG o0) (fH o0) (fI o0) (fJ o0) (fK o0) (fL o0) (fM o0) (fN o0) (fO o0) (fP o0) (fQ o0) (fR o0) (fS o0) (fT o0) (fU o0) (fV o0) a0_22 a0_23 a0_24 a0_25 (fa o0) (fb o0) (fd o0) (fh o0) (fi o0) (fq o0) (fu o0) (fy o0) (fz o0) (fxA o0) (fxB o0) (fxC o0) (fxD o0) (fxE o0) (fxF o0) (fxG o0) (fxH o0) (fxI o0) (fxJ o0) (fxK o0) (fxL o0) (fxM o0)
def H0x39 (s : List Int32) (o0 : Ob) (a0_22 a0_23 : List Int32) (a0_24 a0_25 a0_26 : List Int32) : QHeap := H0v s (fA o0) (fB o0) (fC o0) (fD o0) (fE o0) (fF o0) (fG o0) (fH o0) (fI o0) (fJ o0) (fK o0) (fL o0) (fM o0) (fN o0) (fO o0) (fP o0) (fQ o0) (fR o0) (fS o0) (fT o0) (fU o0) (fV o0) a0_22 a0_23 a0_24 a0_25 a0_26 (fb o0) (fd o0) (fh o0) (fi o0) (fq o0) (fu o0) (fy o0) (fz o0) (fxA o0) (fxB o0) (fxC o0) (fxD o0) (fxE o0) (fxF o0) (fxG o0) (fxH o0) (fxI o0) (fxJ o0) (fxK o0) (fxL o0) (fxM o0)
def H0x40 (s : List Int32) (o0 : Ob) (a0_22 a0_23 : List Int32) (a0_24 a0_25 a0_26 : List Int32) (a0_43 : Int32) : QHeap := H0v s (fA o0) (fB o0) (fC o0) (fD o0) (fE o0) (fF o0) (fG o0) (fH o0) (fI o0) (fJ o0) (fK o0) (fL o0) (fM o0) (fN o0) (fO o0) (fP o0) (fQ o0) (fR o0) (fS o0) (fT o0) (fU o0) (fV o0) a0_22 a0_23 a0_24 a0_25 a0_26 (fb o0) (fd o0) (fh o0) (fi o0) (fq o0) (fu o0) (fy o0) (fz o0) (fxA o0) (fxB o0) (fxC o0) (fxD o0) (fxE o0) (fxF o0) (fxG o0) (fxH o0) a0_43 (fxJ o0) (fxK o0) (fxL o0) (fxM o0)
/-- emit(IIIII)I -/
def F18 (o : Ob) (x1 x2 : Int32) (x3 x4 x5 : Int32) : Option (Int32 × Ob) :=
 (if (fxI o) < (0:Int32) then some ((0:Int32), o) else (if (fxI o) < ((fW o).length.toInt32) then (aset (fW o) (fxI o) ((x1.toInt8.toInt32).toInt8.toInt32)).bind fun y178 => (aset (fX o) (fxI o) x2).bind fun y179 => (aset (fY o) (fxI o) x3).bind fun y180 => (aset (fZ o) (fxI o) x4).bind fun y181 => (aset (fa o) (fxI o) x5).bind fun y182 => some ((fxI o), (sxI (sa (sZ (sY (sX (sW o y178) y179) y180) y181) y182) ((fxI o) + (1:Int32)))) else some ((0:Int32), o)))
theorem tF18 (Ad : QAd n0 ad) (W : QW Z a0) (s : List Int32) (o : Ob) (x1 x2 : Int32) (x3 x4 x5 : Int32) {r : Int32 × Ob} (h : F18 o x1 x2 x3 x4 x5 = some r) : QTri l Z n0 ad 18 (0, qentry [.ref 1, .int x1, .int x2, .int x3, .int x4, .int x5] (pMaxL 18), [], (H0 s o)) (some (Value.int r.1)) (H0 s r.2) := by
 unfold F18 at h
 refine yS Ad W 4 (8, [vR 1, vI x1, vI x2, vI x3, vI x4, vI x5, vI (fxI o)], [.int (fxI o)], (H0 s o)) rfl ?_
 rcases qite h with ⟨c176, h⟩ | ⟨c176, h⟩
 ·refine yT Ad W 21 11 rfl (XT.i0_lt_t c176) ?_
  refine yS Ad W 1 (22, [vR 1, vI x1, vI x2, vI x3, vI x4, vI x5, vI (fxI o)], [.int 0], (H0 s o)) rfl ?_
  obtain rfl := sj h
  exact retI rfl rfl
 ·refine yF Ad W 21 11 rfl (XT.i0_lt_f c176) ?_
  refine yS Ad W 4 (18, [vR 1, vI x1, vI x2, vI x3, vI x4, vI x5, vI (fxI o)], [.int ((fW o).length.toInt32), .int (fxI o)], (H0 s o)) rfl ?_
  rcases qite h with ⟨c177, h⟩ | ⟨c177, h⟩
  ·refine yT Ad W 23 21 rfl (XT.ii_lt_t c177) ?_
   refine yS Ad W 5 (31, [vR 1, vI x1, vI x2, vI x3, vI x4, vI x5, vI (fxI o)], [.int (x1.toInt8.toInt32), .int (fxI o), .ref 10], (H0 s o)) rfl ?_
   obtain ⟨y178, hy178, h⟩ := be h
   refine zB Ad W (f := fun y178 => (32, [vR 1, vI x1, vI x2, vI x3, vI x4, vI x5, vI (fxI o)], [], (H0x35 s o y178))) rfl hy178 ?_
   refine yS Ad W 4 (39, [vR 1, vI x1, vI x2, vI x3, vI x4, vI x5, vI (fxI o)], [.int x2, .int (fxI o), .ref 11], (H0x35 s o y178)) rfl ?_
   obtain ⟨y179, hy179, h⟩ := be h
   refine zB Ad W (f := fun y179 => (40, [vR 1, vI x1, vI x2, vI x3, vI x4, vI x5, vI (fxI o)], [], (H0x36 s o y178 y179))) rfl hy179 ?_
   refine yS Ad W 4 (47, [vR 1, vI x1, vI x2, vI x3, vI x4, vI x5, vI (fxI o)], [.int x3, .int (fxI o), .ref 12], (H0x36 s o y178 y179)) rfl ?_
   obtain ⟨y180, hy180, h⟩ := be h
   refine zB Ad W (f := fun y180 => (48, [vR 1, vI x1, vI x2, vI x3, vI x4, vI x5, vI (fxI o)], [], (H0x37 s o y178 y179 y180))) rfl hy180 ?_
   refine yS Ad W 4 (56, [vR 1, vI x1, vI x2, vI x3, vI x4, vI x5, vI (fxI o)], [.int x4, .int (fxI o), .ref 13], (H0x37 s o y178 y179 y180)) rfl ?_
   obtain ⟨y181, hy181, h⟩ := be h
   refine zB Ad W (f := fun y181 => (57, [vR 1, vI x1, vI x2, vI x3, vI x4, vI x5, vI (fxI o)], [], (H0x38 s o y178 y179 y180 y181))) rfl hy181 ?_
   refine yS Ad W 4 (65, [vR 1, vI x1, vI x2, vI x3, vI x4, vI x5, vI (fxI o)], [.int x5, .int (fxI o), .ref 14], (H0x38 s o y178 y179 y180 y181)) rfl ?_
   obtain ⟨y182, hy182, h⟩ := be h
   refine zB Ad W (f := fun y182 => (66, [vR 1, vI x1, vI x2, vI x3, vI x4, vI x5, vI (fxI o)], [], (H0x39 s o y178 y179 y180 y181 y182))) rfl hy182 ?_
   refine yS Ad W 5 (74, [vR 1, vI x1, vI x2, vI x3, vI x4, vI x5, vI (fxI o)], [], (H0x40 s o y178 y179 y180 y181 y182 ((fxI o) + (1:Int32)))) rfl ?_
   refine yS Ad W 1 (76, [vR 1, vI x1, vI x2, vI x3, vI x4, vI x5, vI (fxI o)], [.int (fxI o)], (H0x40 s o y178 y179 y180 y181 y182 ((fxI o) + (1:Int32)))) rfl ?_
   have E183 : ((H0x40 s o y178 y179 y180 y181 y182 ((fxI o) + (1:Int32))) : QHeap) = (H0 s (sxI (sa (sZ (sY (sX (sW o y178) y179) y180) y181) y182) ((fxI o) + (1:Int32)))) := by simp only [fs, H0, H0v, H0x40, sW, sX, sY, sZ, sa, sxI]
   rw [E183]
   obtain rfl := sj h
   exact retI rfl rfl
  ·refine yF Ad W 23 21 rfl (XT.ii_lt_f c177) ?_
   refine yS Ad W 1 (22, [vR 1, vI x1, vI x2, vI x3, vI x4, vI x5, vI (fxI o)], [.int 0], (H0 s o)) rfl ?_
   obtain rfl := sj h
   exact retI rfl rfl
def H0x41 (s : List Int32) (o0 : Ob) (a0_44 : Int32) : QHeap := H0v s (fA o0) (fB o0) (fC o0) (fD o0) (fE o0) (fF o0) (fG o0) (fH o0) (fI o0) (fJ o0) (fK o0) (fL o0) (fM o0) (fN o0) (fO o0) (fP o0) (fQ o0) (fR o0) (fS o0) (fT o0) (fU o0) (fV o0) (fW o0) (fX o0) (fY o0) (fZ o0) (fa o0) (fb o0) (fd o0) (fh o0) (fi o0) (fq o0) (fu o0) (fy o0) (fz o0) (fxA o0) (fxB o0) (fxC o0) (fxD o0) (fxE o0) (fxF o0) (fxG o0) (fxH o0) (fxI o0) a0_44 (fxK o0) (fxL o0) (fxM o0)
def H0x42 (s : List Int32) (o0 : Ob) (a0_30 : List Int32) : QHeap := H0v s (fA o0) (fB o0) (fC o0) (fD o0) (fE o0) (fF o0) (fG o0) (fH o0) (fI o0) (fJ o0) (fK o0) (fL o0) (fM o0) (fN o0) (fO o0) (fP o0) (fQ o0) (fR o0) (fS o0) (fT o0) (fU o0) (fV o0) (fW o0) (fX o0) (fY o0) (fZ o0) (fa o0) (fb o0) (fd o0) (fh o0) a0_30 (fq o0) (fu o0) (fy o0) (fz o0) (fxA o0) (fxB o0) (fxC o0) (fxD o0) (fxE o0) (fxF o0) (fxG o0) (fxH o0) (fxI o0) (fxJ o0) (fxK o0) (fxL o0) (fxM o0)
def H0x43 (s : List Int32) (o0 : Ob) (a0_30 a0_31 : List Int32) : QHeap := H0v s (fA o0) (fB o0) (fC o0) (fD o0) (fE o0) (fF o0) (fG o0) (fH o0) (fI o0) (fJ o0) (fK o0) (fL o0) (fM o0) (fN o0) (fO o0) (fP o0) (fQ o0) (fR o0) (fS o0) (fT o0) (fU o0) (fV o0) (fW o0) (fX o0) (fY o0) (fZ o0) (fa o0) (fb o0) (fd o0) (fh o0) a0_30 a0_31 (fu o0) (fy o0) (fz o0) (fxA o0) (fxB o0) (fxC o0) (fxD o0) (fxE o0) (fxF o0) (fxG o0) (fxH o0) (fxI o0) (fxJ o0) (fxK o0) (fxL o0) (fxM o0)
def H0x44 (s : List Int32) (o0 : Ob) (a0_30 a0_31 a0_32 : List Int32) : QHeap := H0v s (fA o0) (fB o0) (fC o0) (fD o0) (fE o0) (fF o0) (fG o0) (fH o0) (fI o0) (fJ o0) (fK o0) (fL o0) (fM o0) (fN o0) (fO o0) (fP o0) (fQ o0) (fR o0) (fS o0) (fT o0) (fU o0) (fV o0) (fW o0) (fX o0) (fY o0) (fZ o0) (fa o0) (fb o0) (fd o0) (fh o0) a0_30 a0_31 a0_32 (fy o0) (fz o0) (fxA o0) (fxB o0) (fxC o0) (fxD o0) (fxE o0) (fxF o0) (fxG o0) (fxH o0) (fxI o0) (fxJ o0) (fxK o0) (fxL o0) (fxM o0)
def H0x45 (s : List Int32) (o0 : Ob) (a0_30 a0_31 : List Int32) (a0_32 a0_33 : List Int32) : QHeap := H0v s (fA o0) (fB o0) (fC o0) (fD o0) (fE o0) (fF o0) (fG o0) (fH o0) (fI o0) (fJ o0) (fK o0) (fL o0) (fM o0) (fN o0) (fO o0) (fP o0) (fQ o0) (fR o0) (fS o0) (fT o0) (fU o0) (fV o0) (fW o0) (fX o0) (fY o0) (fZ o0) (fa o0) (fb o0) (fd o0) (fh o0) a0_30 a0_31 a0_32 a0_33 (fz o0) (fxA o0) (fxB o0) (fxC o0) (fxD o0) (fxE o0) (fxF o0) (fxG o0) (fxH o0) (fxI o0) (fxJ o0) (fxK o0) (fxL o0) (fxM o0)
def H0x46 (s : List Int32) (o0 : Ob) (a0_30 a0_31 : List Int32) (a0_32 a0_33 : List Int32) (a0_47 : Int32) : QHeap := H0v s (fA o0) (fB o0) (fC o0) (fD o0) (fE o0) (fF o0) (fG o0) (fH o0) (fI o0) (fJ o0) (fK o0) (fL o0) (fM o0) (fN o0) (fO o0) (fP o0) (fQ o0) (fR o0) (fS o0) (fT o0) (fU o0) (fV o0) (fW o0) (fX o0) (fY o0) (fZ o0) (fa o0) (fb o0) (fd o0) (fh o0) a0_30 a0_31 a0_32 a0_33 (fz o0) (fxA o0) (fxB o0) (fxC o0) (fxD o0) (fxE o0) (fxF o0) (fxG o0) (fxH o0) (fxI o0) (fxJ o0) (fxK o0) (fxL o0) a0_47
/-- push(IIII)V -/
def F19 (o : Ob) (x1 x2 : Int32) (x3 x4 : Int32) : Option (Ob) :=
 (if (fxM o) < (0:Int32) then some o else (if (fxM o) < ((fi o).length.toInt32) then (aset (fi o) (fxM o) x1).bind fun y189 => (aset (fq o) (fxM o) x2).bind fun y190 => (aset (fu o) (fxM o) x3).bind fun y191 => (aset (fy o) (fxM o) x4).bind fun y192 => some (sxM (sy (su (sq (si o y189) y190) y191) y192) ((fxM o) + (1:Int32))) else some o))
theorem tF19 (Ad : QAd n0 ad) (W : QW Z a0) (s : List Int32) (o : Ob) (x1 x2 : Int32) (x3 x4 : Int32) {r : Ob} (h : F19 o x1 x2 x3 x4 = some r) : QTri l Z n0 ad 19 (0, qentry [.ref 1, .int x1, .int x2, .int x3, .int x4] (pMaxL 19), [], (H0 s o)) (none : Option Value) (H0 s r) := by
 unfold F19 at h
 refine yS Ad W 2 (4, [vR 1, vI x1, vI x2, vI x3, vI x4], [.int (fxM o)], (H0 s o)) rfl ?_
 rcases qite h with ⟨c187, h⟩ | ⟨c187, h⟩
 ·refine yT Ad W 19 7 rfl (XT.i0_lt_t c187) ?_
  obtain rfl := sj h
  exact ret0 rfl rfl
 ·refine yF Ad W 19 7 rfl (XT.i0_lt_f c187) ?_
  refine yS Ad W 5 (16, [vR 1, vI x1, vI x2, vI x3, vI x4], [.int ((fi o).length.toInt32), .int (fxM o)], (H0 s o)) rfl ?_
  rcases qite h with ⟨c188, h⟩ | ⟨c188, h⟩
  ·refine yT Ad W 20 19 rfl (XT.ii_lt_t c188) ?_
   refine yS Ad W 5 (29, [vR 1, vI x1, vI x2, vI x3, vI x4], [.int x1, .int (fxM o), .ref 18], (H0 s o)) rfl ?_
   obtain ⟨y189, hy189, h⟩ := be h
   refine zB Ad W (f := fun y189 => (30, [vR 1, vI x1, vI x2, vI x3, vI x4], [], (H0x42 s o y189))) rfl hy189 ?_
   refine yS Ad W 5 (39, [vR 1, vI x1, vI x2, vI x3, vI x4], [.int x2, .int (fxM o), .ref 19], (H0x42 s o y189)) rfl ?_
   obtain ⟨y190, hy190, h⟩ := be h
   refine zB Ad W (f := fun y190 => (40, [vR 1, vI x1, vI x2, vI x3, vI x4], [], (H0x43 s o y189 y190))) rfl hy190 ?_
   refine yS Ad W 5 (49, [vR 1, vI x1, vI x2, vI x3, vI x4], [.int x3, .int (fxM o), .ref 20], (H0x43 s o y189 y190)) rfl ?_
   obtain ⟨y191, hy191, h⟩ := be h
   refine zB Ad W (f := fun y191 => (50, [vR 1, vI x1, vI x2, vI x3, vI x4], [], (H0x44 s o y189 y190 y191))) rfl hy191 ?_
   refine yS Ad W 5 (60, [vR 1, vI x1, vI x2, vI x3, vI x4], [.int x4, .int (fxM o), .ref 21], (H0x44 s o y189 y190 y191)) rfl ?_
   obtain ⟨y192, hy192, h⟩ := be h
   refine zB Ad W (f := fun y192 => (61, [vR 1, vI x1, vI x2, vI x3, vI x4], [], (H0x45 s o y189 y190 y191 y192))) rfl hy192 ?_
   refine yS Ad W 6 (71, [vR 1, vI x1, vI x2, vI x3, vI x4], [], (H0x46 s o y189 y190 y191 y192 ((fxM o) + (1:Int32)))) rfl ?_
   have E193 : ((H0x46 s o y189 y190 y191 y192 ((fxM o) + (1:Int32))) : QHeap) = (H0 s (sxM (sy (su (sq (si o y189) y190) y191) y192) ((fxM o) + (1:Int32)))) := by simp only [fs, H0, H0v, H0x46, si, sq, su, sy, sxM]
   rw [E193]
   obtain rfl := sj h
   exact ret0 rfl rfl
  ·refine yF Ad W 20 19 rfl (XT.ii_lt_f c188) ?_
   obtain rfl := sj h
   exact ret0 rfl rfl
def H0x47 (s : List Int32) (o0 : Ob) (a0_47 : Int32) : QHeap := H0v s (fA o0) (fB o0) (fC o0) (fD o0) (fE o0) (fF o0) (fG o0) (fH o0) (fI o0) (fJ o0) (fK o0) (fL o0) (fM o0) (fN o0) (fO o0) (fP o0) (fQ o0) (fR o0) (fS o0) (fT o0) (fU o0) (fV o0) (fW o0) (fX o0) (fY o0) (fZ o0) (fa o0) (fb o0) (fd o0) (fh o0) (fi o0) (fq o0) (fu o0) (fy o0) (fz o0) (fxA o0) (fxB o0) (fxC o0) (fxD o0) (fxE o0) (fxF o0) (fxG o0) (fxH o0) (fxI o0) (fxJ o0) (fxK o0) (fxL o0) a0_47
def B21_8 (o : Ob) (x2 : Int32) (v : Int32 × Int32 × Int32) : Option (((Int32)) ⊕ (Int32 × Int32 × Int32)) :=
  (if x2 < v.2.2 then some (.inl v.2.1) else (if v.2.2 < (fxE o) then (aget (fR o) v.2.2).bind fun y219 => some (.inr ((if y219 = (fxF o) then v.1 else (if (v.1 &&& ((1 : Int32) <<< (y219 &&& 31))) = (0 : Int32) then (v.1 ||| ((1 : Int32) <<< (y219 &&& 31))) else v.1)), (if y219 = (fxF o) then v.2.1 else (if (v.1 &&& ((1 : Int32) <<< (y219 &&& 31))) = (0 : Int32) then (v.2.1 + (1 : Int32)) else v.2.1)), (v.2.2 + (1 : Int32)))) else some (.inl v.2.1)))
theorem tB21_8 (Ad : QAd n0 ad) (W : QW Z a0) (s : List Int32) (o : Ob) (x2 : Int32) (v : Int32 × Int32 × Int32) {r : ((Int32)) ⊕ (Int32 × Int32 × Int32)} {u : Option Value} {τ : QHeap} (h : B21_8 o x2 v = some r) (hx0 : ∀ x : Int32, r = .inl x → u = (some (Value.int x)) ∧ τ = (H0 s o)) (hc : ∀ x : Int32 × Int32 × Int32, r = .inr x → QTri l Z n0 ad 21 (8, [vR 1, nN, vI x2, vI x.1, vI x.2.1, vI x.2.2, nN], [], (H0 s o)) u τ) : QTri l Z n0 ad 21 (8, [vR 1, nN, vI x2, vI v.1, vI v.2.1, vI v.2.2, nN], [], (H0 s o)) u τ := by
 unfold B21_8 at h
 refine yS Ad W 2 (11, [vR 1, nN, vI x2, vI v.1, vI v.2.1, vI v.2.2, nN], [.int x2, .int v.2.2], (H0 s o)) rfl ?_
 rcases qite h with ⟨c217, h⟩ | ⟨c217, h⟩
 ·refine yT Ad W 66 14 rfl (XT.ii_gt_t c217) ?_
  refine yS Ad W 1 (68, [vR 1, nN, vI x2, vI v.1, vI v.2.1, vI v.2.2, nN], [.int v.2.1], (H0 s o)) rfl ?_
  obtain rfl := sj h
  obtain ⟨rfl, rfl⟩ := hx0 v.2.1 rfl
  exact retI rfl rfl
 ·refine yF Ad W 66 14 rfl (XT.ii_gt_f c217) ?_
  refine yS Ad W 3 (20, [vR 1, nN, vI x2, vI v.1, vI v.2.1, vI v.2.2, nN], [.int (fxE o), .int v.2.2], (H0 s o)) rfl ?_
  rcases qite h with ⟨c218, h⟩ | ⟨c218, h⟩
  ·refine yF Ad W 66 23 rfl (XT.ii_ge_f c218) ?_
   refine yS Ad W 3 (29, [vR 1, nN, vI x2, vI v.1, vI v.2.1, vI v.2.2, nN], [.int v.2.2, .ref 5], (H0 s o)) rfl ?_
   obtain ⟨y219, hy219, h⟩ := be h
   refine zB Ad W (f := fun y219 => (30, [vR 1, nN, vI x2, vI v.1, vI v.2.1, vI v.2.2, nN], [.int y219], (H0 s o))) rfl hy219 ?_
   refine yS Ad W 4 (38, [vR 1, nN, vI x2, vI v.1, vI v.2.1, vI v.2.2, vI y219], [.int (fxF o), .int y219], (H0 s o)) rfl ?_
   have K222 : ∀ z220 : Int32, z220 = (if y219 = (fxF o) then v.1 else (if (v.1 &&& ((1:Int32) <<< (y219 &&& 31))) = (0:Int32) then (v.1 ||| ((1:Int32) <<< (y219 &&& 31))) else v.1)) → ∀ z221 : Int32, z221 = (if y219 = (fxF o) then v.2.1 else (if (v.1 &&& ((1:Int32) <<< (y219 &&& 31))) = (0:Int32) then (v.2.1 + (1:Int32)) else v.2.1)) → QTri l Z n0 ad 21 (60, [vR 1, nN, vI x2, vI z220, vI z221, vI v.2.2, nN], [], (H0 s o)) u τ := by
    intro z220 ez220
    intro z221 ez221
    subst ez220
    subst ez221
    refine yS Ad W 2 (8, [vR 1, nN, vI x2, vI (if y219 = (fxF o) then v.1 else (if (v.1 &&& ((1:Int32) <<< (y219 &&& 31))) = (0:Int32) then (v.1 ||| ((1:Int32) <<< (y219 &&& 31))) else v.1)), vI (if y219 = (fxF o) then v.2.1 else (if (v.1 &&& ((1:Int32) <<< (y219 &&& 31))) = (0:Int32) then (v.2.1 + (1:Int32)) else v.2.1)), vI (v.2.2 + (1:Int32)), nN], [], (H0 s o)) rfl ?_
    obtain rfl := sj h
    exact zM [tt,ff,tt,tt,tt,tt,ff] (hc ((if y219 = (fxF o) then v.1 else (if (v.1 &&& ((1:Int32) <<< (y219 &&& 31))) = (0:Int32) then (v.1 ||| ((1:Int32) <<< (y219 &&& 31))) else v.1)), (if y219 = (fxF o) then v.2.1 else (if (v.1 &&& ((1:Int32) <<< (y219 &&& 31))) = (0:Int32) then (v.2.1 + (1:Int32)) else v.2.1)), (v.2.2 + (1:Int32))) rfl)
   rcases em (y219 = (fxF o)) with c223 | c223
   ·refine yT Ad W 60 41 rfl (XT.ii_eq_t c223) ?_
    exact zM [tt,ff,tt,tt,tt,tt,ff] (K222 _ (if_pos c223).symm _ (if_pos c223).symm)
   ·refine yF Ad W 60 41 rfl (XT.ii_eq_f c223) ?_
    refine yS Ad W 5 (47, [vR 1, nN, vI x2, vI v.1, vI v.2.1, vI v.2.2, vI y219], [.int (v.1 &&& ((1:Int32) <<< (y219 &&& 31)))], (H0 s o)) rfl ?_
    rcases em ((v.1 &&& ((1:Int32) <<< (y219 &&& 31))) = (0:Int32)) with c224 | c224
    ·refine yF Ad W 60 50 rfl (XT.i0_ne_f c224) ?_
     refine yS Ad W 7 (60, [vR 1, nN, vI x2, vI (v.1 ||| ((1:Int32) <<< (y219 &&& 31))), vI (v.2.1 + (1:Int32)), vI v.2.2, vI y219], [], (H0 s o)) rfl ?_
     exact zM [tt,ff,tt,tt,tt,tt,ff] (K222 _ ((if_neg c223).trans (if_pos c224)).symm _ ((if_neg c223).trans (if_pos c224)).symm)
    ·refine yT Ad W 60 50 rfl (XT.i0_ne_t c224) ?_
     exact zM [tt,ff,tt,tt,tt,tt,ff] (K222 _ ((if_neg c223).trans (if_neg c224)).symm _ ((if_neg c223).trans (if_neg c224)).symm)
  ·refine yT Ad W 66 23 rfl (XT.ii_ge_t c218) ?_
   refine yS Ad W 1 (68, [vR 1, nN, vI x2, vI v.1, vI v.2.1, vI v.2.2, nN], [.int v.2.1], (H0 s o)) rfl ?_
   obtain rfl := sj h
   obtain ⟨rfl, rfl⟩ := hx0 v.2.1 rfl
   exact retI rfl rfl
/-- distinctTargets(II)I -/
def F21 (o : Ob) (x1 x2 : Int32) : Option (Int32) :=
 (loopN (B21_8 o x2) qN ((0:Int32), (0:Int32), x1)).bind fun e225 => some e225
theorem tF21 (Ad : QAd n0 ad) (W : QW Z a0) (s : List Int32) (o : Ob) (x1 x2 : Int32) {r : Int32} (h : F21 o x1 x2 = some r) : QTri l Z n0 ad 21 (0, qentry [.ref 1, .int x1, .int x2] (pMaxL 21), [], (H0 s o)) (some (Value.int r)) (H0 s o) := by
 unfold F21 at h
 refine yS Ad W 4 (5, [vR 1, vI x1, vI x2, vI 0, vI 0, nN, nN], [], (H0 s o)) rfl ?_
 refine yS Ad W 2 (8, [vR 1, vI x1, vI x2, vI 0, vI 0, vI x1, nN], [], (H0 s o)) rfl ?_
 obtain ⟨e225, he225, h⟩ := be h
 refine zM [tt,ff,tt,tt,tt,tt,ff] (loopN_tri (B := B21_8 o x2) (T := fun lv226 => QTri l Z n0 ad 21 (8, [vR 1, nN, vI x2, vI lv226.1, vI lv226.2.1, vI lv226.2.2, nN], [], (H0 s o)) (some (Value.int r)) (H0 s o)) (KE := fun e225a => (some (Value.int r)) = (some (Value.int e225a)) ∧ (H0 s o) = (H0 s o)) (fun lv226 r hB hE hC => tB21_8 Ad W s o x2 lv226 hB (fun x q => hE _ q) (fun x q => hC x q)) qN ((0:Int32), (0:Int32), x1) e225 he225 ?_)
 obtain rfl := sj h
 exact ⟨rfl, rfl⟩
def J20_124 (o : Ob) (x2 x3 : Int32) (x4 : Int64) : Option (Int32 × Ob) :=
  none
theorem tJ20_124 (Ad : QAd n0 ad) (W : QW Z a0) (s : List Int32) (o : Ob) (x2 x3 : Int32) (x4 : Int64) {r : Int32 × Ob} (h : J20_124 o x2 x3 x4 = some r) : QTri l Z n0 ad 20 (124, [vR 1, nN, vI x2, vI x3, vL x4, nN, nN], [], (H0 s o)) (some (Value.int r.1)) (H0 s r.2) := by
 unfold J20_124 at h
 cases h
def J22_151 (o : Ob) (x2 x3 : Int32) (x4 x5 : Int32) (x6 x7 : Int32) : Option (((Int32 × Ob)) ⊕ (Int32 × Int32 × Ob)) :=
  some (.inr (x6, (x7 + (1 : Int32)), o))
theorem tJ22_151 (Ad : QAd n0 ad) (W : QW Z a0) (s : List Int32) (o : Ob) (x2 x3 : Int32) (x4 x5 : Int32) (x6 x7 : Int32) {r : ((Int32 × Ob)) ⊕ (Int32 × Int32 × Ob)} {u : Option Value} {τ : QHeap} (h : J22_151 o x2 x3 x4 x5 x6 x7 = some r) (hx0 : ∀ x : Int32 × Ob, r = .inl x → QTri l Z n0 ad 22 (157, [vR 1, nN, nN, vI x3, vI x4, vI x5, vI x.1, nN, nN, nN, nN], [], (H0 s x.2)) u τ) (hc : ∀ x : Int32 × Int32 × Ob, r = .inr x → QTri l Z n0 ad 22 (20, [vR 1, nN, vI x2, vI x3, vI x4, vI x5, vI x.1, vI x.2.1, nN, nN, nN], [], (H0 s x.2.2)) u τ) : QTri l Z n0 ad 22 (151, [vR 1, nN, vI x2, vI x3, vI x4, vI x5, vI x6, vI x7, nN, nN, nN], [], (H0 s o)) u τ := by
 unfold J22_151 at h
 refine yS Ad W 2 (20, [vR 1, nN, vI x2, vI x3, vI x4, vI x5, vI x6, vI (x7 + (1:Int32)), nN, nN, nN], [], (H0 s o)) rfl ?_
 obtain rfl := sj h
 exact zM [tt,ff,tt,tt,tt,tt,tt,tt,ff,ff,ff] (hc (x6, (x7 + (1:Int32)), o) rfl)
def J23_44 (o : Ob) (x1 x2 : Int32) (x3 x4 : Int32) : Option (((Int32)) ⊕ (Int32)) :=
  some (.inr (x4 + (1 : Int32)))
theorem tJ23_44 (Ad : QAd n0 ad) (W : QW Z a0) (s : List Int32) (o : Ob) (x1 x2 : Int32) (x3 x4 : Int32) {r : ((Int32)) ⊕ (Int32)} {u : Option Value} {τ : QHeap} (h : J23_44 o x1 x2 x3 x4 = some r) (hx0 : ∀ x : Int32, r = .inl x → u = (some (Value.int x)) ∧ τ = (H0 s o)) (hc : ∀ x : Int32, r = .inr x → QTri l Z n0 ad 23 (3, [vR 1, vI x1, vI x2, vI x3, vI x, nN], [], (H0 s o)) u τ) : QTri l Z n0 ad 23 (44, [vR 1, vI x1, vI x2, vI x3, vI x4, nN], [], (H0 s o)) u τ := by
 unfold J23_44 at h
 refine yS Ad W 2 (3, [vR 1, vI x1, vI x2, vI x3, vI (x4 + (1:Int32)), nN], [], (H0 s o)) rfl ?_
 obtain rfl := sj h
 exact zM [tt,tt,tt,tt,tt,ff] (hc (x4 + (1:Int32)) rfl)
def B23_3 (o : Ob) (x1 x2 : Int32) (x3 v : Int32) : Option (((Int32)) ⊕ (Int32)) :=
  (if v < x2 then (if (x1 + v) < (0 : Int32) then (J23_44 o x1 x2 x3 v) else (if (x1 + v) < ((fh o).length.toInt32) then (aget (fh o) (x1 + v)).bind fun y238 => (if y238 = x3 then some (.inl (x1 + v)) else (J23_44 o x1 x2 x3 v)) else (J23_44 o x1 x2 x3 v))) else some (.inl (-1 : Int32)))
theorem tB23_3 (Ad : QAd n0 ad) (W : QW Z a0) (s : List Int32) (o : Ob) (x1 x2 : Int32) (x3 v : Int32) {r : ((Int32)) ⊕ (Int32)} {u : Option Value} {τ : QHeap} (h : B23_3 o x1 x2 x3 v = some r) (hx0 : ∀ x : Int32, r = .inl x → u = (some (Value.int x)) ∧ τ = (H0 s o)) (hc : ∀ x : Int32, r = .inr x → QTri l Z n0 ad 23 (3, [vR 1, vI x1, vI x2, vI x3, vI x, nN], [], (H0 s o)) u τ) : QTri l Z n0 ad 23 (3, [vR 1, vI x1, vI x2, vI x3, vI v, nN], [], (H0 s o)) u τ := by
 unfold B23_3 at h
 refine yS Ad W 2 (6, [vR 1, vI x1, vI x2, vI x3, vI v, nN], [.int x2, .int v], (H0 s o)) rfl ?_
 rcases qite h with ⟨c235, h⟩ | ⟨c235, h⟩
 ·refine yF Ad W 50 9 rfl (XT.ii_ge_f c235) ?_
  refine yS Ad W 5 (17, [vR 1, vI x1, vI x2, vI x3, vI v, vI (x1 + v)], [.int (x1 + v)], (H0 s o)) rfl ?_
  rcases qite h with ⟨c236, h⟩ | ⟨c236, h⟩
  ·refine yT Ad W 44 20 rfl (XT.i0_lt_t c236) ?_
   exact zM [tt,tt,tt,tt,tt,ff] (tJ23_44 Ad W s o x1 x2 x3 v h hx0 hc)
  ·refine yF Ad W 44 20 rfl (XT.i0_lt_f c236) ?_
   refine yS Ad W 4 (27, [vR 1, vI x1, vI x2, vI x3, vI v, vI (x1 + v)], [.int ((fh o).length.toInt32), .int (x1 + v)], (H0 s o)) rfl ?_
   rcases qite h with ⟨c237, h⟩ | ⟨c237, h⟩
   ·refine yF Ad W 44 30 rfl (XT.ii_ge_f c237) ?_
    refine yS Ad W 3 (36, [vR 1, vI x1, vI x2, vI x3, vI v, vI (x1 + v)], [.int (x1 + v), .ref 17], (H0 s o)) rfl ?_
    obtain ⟨y238, hy238, h⟩ := be h
    refine zB Ad W (f := fun y238 => (37, [vR 1, vI x1, vI x2, vI x3, vI v, vI (x1 + v)], [.int y238], (H0 s o))) rfl hy238 ?_
    refine yS Ad W 1 (38, [vR 1, vI x1, vI x2, vI x3, vI v, vI (x1 + v)], [.int x3, .int y238], (H0 s o)) rfl ?_
    rcases qite h with ⟨c239, h⟩ | ⟨c239, h⟩
    ·refine yF Ad W 44 41 rfl (XT.ii_ne_f c239) ?_
     refine yS Ad W 1 (43, [vR 1, vI x1, vI x2, vI x3, vI v, vI (x1 + v)], [.int (x1 + v)], (H0 s o)) rfl ?_
     obtain rfl := sj h
     obtain ⟨rfl, rfl⟩ := hx0 (x1 + v) rfl
     exact retI rfl rfl
    ·refine yT Ad W 44 41 rfl (XT.ii_ne_t c239) ?_
     exact zM [tt,tt,tt,tt,tt,ff] (tJ23_44 Ad W s o x1 x2 x3 v h hx0 hc)
   ·refine yT Ad W 44 30 rfl (XT.ii_ge_t c237) ?_
    exact zM [tt,tt,tt,tt,tt,ff] (tJ23_44 Ad W s o x1 x2 x3 v h hx0 hc)
 ·refine yT Ad W 50 9 rfl (XT.ii_ge_t c235) ?_
  refine yS Ad W 1 (51, [vR 1, vI x1, vI x2, vI x3, vI v, nN], [.int (-1:Int32)], (H0 s o)) rfl ?_
  obtain rfl := sj h
  obtain ⟨rfl, rfl⟩ := hx0 (-1:Int32) rfl
  exact retI rfl rfl
/-- findMaskSlot(III)I -/
def F23 (o : Ob) (x1 x2 x3 : Int32) : Option (Int32) :=
 (loopN (B23_3 o x1 x2 x3) qN (0:Int32)).bind fun e240 => some e240
theorem tF23 (Ad : QAd n0 ad) (W : QW Z a0) (s : List Int32) (o : Ob) (x1 x2 x3 : Int32) {r : Int32} (h : F23 o x1 x2 x3 = some r) : QTri l Z n0 ad 23 (0, qentry [.ref 1, .int x1, .int x2, .int x3] (pMaxL 23), [], (H0 s o)) (some (Value.int r)) (H0 s o) := by
 unfold F23 at h
 refine yS Ad W 2 (3, [vR 1, vI x1, vI x2, vI x3, vI 0, nN], [], (H0 s o)) rfl ?_
 obtain ⟨e240, he240, h⟩ := be h
 refine zM [tt,tt,tt,tt,tt,ff] (loopN_tri (B := B23_3 o x1 x2 x3) (T := fun lv241 => QTri l Z n0 ad 23 (3, [vR 1, vI x1, vI x2, vI x3, vI lv241, nN], [], (H0 s o)) (some (Value.int r)) (H0 s o)) (KE := fun e240a => (some (Value.int r)) = (some (Value.int e240a)) ∧ (H0 s o) = (H0 s o)) (fun lv241 r hB hE hC => tB23_3 Ad W s o x1 x2 x3 lv241 hB (fun x q => hE _ q) (fun x q => hC x q)) qN (0:Int32) e240 he240 ?_)
 obtain rfl := sj h
 exact ⟨rfl, rfl⟩
def H0x48 (s : List Int32) (o0 : Ob) (a0_29 : List Int32) : QHeap := H0v s (fA o0) (fB o0) (fC o0) (fD o0) (fE o0) (fF o0) (fG o0) (fH o0) (fI o0) (fJ o0) (fK o0) (fL o0) (fM o0) (fN o0) (fO o0) (fP o0) (fQ o0) (fR o0) (fS o0) (fT o0) (fU o0) (fV o0) (fW o0) (fX o0) (fY o0) (fZ o0) (fa o0) (fb o0) (fd o0) a0_29 (fi o0) (fq o0) (fu o0) (fy o0) (fz o0) (fxA o0) (fxB o0) (fxC o0) (fxD o0) (fxE o0) (fxF o0) (fxG o0) (fxH o0) (fxI o0) (fxJ o0) (fxK o0) (fxL o0) (fxM o0)
def H0x49 (s : List Int32) (o0 : Ob) (a0_28 : List Int64) (a0_29 : List Int32) : QHeap := H0v s (fA o0) (fB o0) (fC o0) (fD o0) (fE o0) (fF o0) (fG o0) (fH o0) (fI o0) (fJ o0) (fK o0) (fL o0) (fM o0) (fN o0) (fO o0) (fP o0) (fQ o0) (fR o0) (fS o0) (fT o0) (fU o0) (fV o0) (fW o0) (fX o0) (fY o0) (fZ o0) (fa o0) (fb o0) a0_28 a0_29 (fi o0) (fq o0) (fu o0) (fy o0) (fz o0) (fxA o0) (fxB o0) (fxC o0) (fxD o0) (fxE o0) (fxF o0) (fxG o0) (fxH o0) (fxI o0) (fxJ o0) (fxK o0) (fxL o0) (fxM o0)
def H0x50 (s : List Int32) (o0 : Ob) (a0_28 : List Int64) : QHeap := H0v s (fA o0) (fB o0) (fC o0) (fD o0) (fE o0) (fF o0) (fG o0) (fH o0) (fI o0) (fJ o0) (fK o0) (fL o0) (fM o0) (fN o0) (fO o0) (fP o0) (fQ o0) (fR o0) (fS o0) (fT o0) (fU o0) (fV o0) (fW o0) (fX o0) (fY o0) (fZ o0) (fa o0) (fb o0) a0_28 (fh o0) (fi o0) (fq o0) (fu o0) (fy o0) (fz o0) (fxA o0) (fxB o0) (fxC o0) (fxD o0) (fxE o0) (fxF o0) (fxG o0) (fxH o0) (fxI o0) (fxJ o0) (fxK o0) (fxL o0) (fxM o0)
def J22_120 (o : Ob) (x2 x3 : Int32) (x4 x5 : Int32) (x6 x7 x9 : Int32) : Option (((Int32 × Ob)) ⊕ (Int32 × Int32 × Ob)) :=
  (if x9 < (0 : Int32) then (J22_151 o x2 x3 x4 x5 x6 x7) else (aget (fQ o) x7).bind fun y250 => (aget (fd o) x9).bind fun y251 => (aset (fd o) x9 (y251 ||| ((1 : Int64) <<< ((y250 - x4).toInt64 &&& 63)))).bind fun y252 => (J22_151 (sd o y252) x2 x3 x4 x5 x6 x7))
theorem tJ22_120 (Ad : QAd n0 ad) (W : QW Z a0) (s : List Int32) (o : Ob) (x2 x3 : Int32) (x4 x5 : Int32) (x6 x7 x9 : Int32) {r : ((Int32 × Ob)) ⊕ (Int32 × Int32 × Ob)} {u : Option Value} {τ : QHeap} (h : J22_120 o x2 x3 x4 x5 x6 x7 x9 = some r) (hx0 : ∀ x : Int32 × Ob, r = .inl x → QTri l Z n0 ad 22 (157, [vR 1, nN, nN, vI x3, vI x4, vI x5, vI x.1, nN, nN, nN, nN], [], (H0 s x.2)) u τ) (hc : ∀ x : Int32 × Int32 × Ob, r = .inr x → QTri l Z n0 ad 22 (20, [vR 1, nN, vI x2, vI x3, vI x4, vI x5, vI x.1, vI x.2.1, nN, nN, nN], [], (H0 s x.2.2)) u τ) : QTri l Z n0 ad 22 (120, [vR 1, nN, vI x2, vI x3, vI x4, vI x5, vI x6, vI x7, nN, vI x9, nN], [], (H0 s o)) u τ := by
 unfold J22_120 at h
 refine yS Ad W 1 (122, [vR 1, nN, vI x2, vI x3, vI x4, vI x5, vI x6, vI x7, nN, vI x9, nN], [.int x9], (H0 s o)) rfl ?_
 rcases qite h with ⟨c249, h⟩ | ⟨c249, h⟩
 ·refine yT Ad W 151 125 rfl (XT.i0_lt_t c249) ?_
  exact zM [tt,ff,tt,tt,tt,tt,tt,tt,ff,ff,ff] (tJ22_151 Ad W s o x2 x3 x4 x5 x6 x7 h hx0 hc)
 ·refine yF Ad W 151 125 rfl (XT.i0_lt_f c249) ?_
  refine yS Ad W 3 (131, [vR 1, nN, vI x2, vI x3, vI x4, vI x5, vI x6, vI x7, nN, vI x9, nN], [.int x7, .ref 4], (H0 s o)) rfl ?_
  obtain ⟨y250, hy250, h⟩ := be h
  refine zB Ad W (f := fun y250 => (132, [vR 1, nN, vI x2, vI x3, vI x4, vI x5, vI x6, vI x7, nN, vI x9, nN], [.int y250], (H0 s o))) rfl hy250 ?_
  refine yS Ad W 7 (144, [vR 1, nN, vI x2, vI x3, vI x4, vI x5, vI x6, vI x7, nN, vI x9, vI (y250 - x4)], [.int x9, .ref 16, .int x9, .ref 16], (H0 s o)) rfl ?_
  obtain ⟨y251, hy251, h⟩ := be h
  refine zB Ad W (f := fun y251 => (145, [vR 1, nN, vI x2, vI x3, vI x4, vI x5, vI x6, vI x7, nN, vI x9, vI (y250 - x4)], [.long y251, .int x9, .ref 16], (H0 s o))) rfl hy251 ?_
  refine yS Ad W 4 (150, [vR 1, nN, vI x2, vI x3, vI x4, vI x5, vI x6, vI x7, nN, vI x9, vI (y250 - x4)], [.long (y251 ||| ((1 : Int64) <<< ((y250 - x4).toInt64 &&& 63))), .int x9, .ref 16], (H0 s o)) rfl ?_
  obtain ⟨y252, hy252, h⟩ := be h
  refine zB Ad W (f := fun y252 => (151, [vR 1, nN, vI x2, vI x3, vI x4, vI x5, vI x6, vI x7, nN, vI x9, vI (y250 - x4)], [], (H0x50 s o y252))) rfl hy252 ?_
  have E253 : ((H0x50 s o y252) : QHeap) = (H0 s (sd o y252)) := by simp only [fs, H0, H0v, H0x50, sd]
  rw [E253]
  exact zM [tt,ff,tt,tt,tt,tt,tt,tt,ff,ff,ff] (tJ22_151 Ad W s (sd o y252) x2 x3 x4 x5 x6 x7 h hx0 hc)
def B22_20 (x2 x3 : Int32) (x4 x5 : Int32) (v : Int32 × Int32 × Ob) : Option (((Int32 × Ob)) ⊕ (Int32 × Int32 × Ob)) :=
  (if x2 < v.2.1 then some (.inl (v.1, v.2.2)) else (if v.2.1 < (fxE v.2.2) then (aget (fR v.2.2) v.2.1).bind fun y233 => (if y233 = (fxF v.2.2) then (J22_151 v.2.2 x2 x3 x4 x5 v.1 v.2.1) else (F23 v.2.2 x5 v.1 y233).bind fun r242 => (if r242 < (0 : Int32) then (if v.1 < (3 : Int32) then (if (x5 + v.1) < ((fd v.2.2).length.toInt32) then (aset (fh v.2.2) (x5 + v.1) ((y233.toInt8.toInt32).toInt8.toInt32)).bind fun y246 => (aset (fd v.2.2) (x5 + v.1) (0 : Int64)).bind fun y247 => (J22_120 (sd (sh v.2.2 y246) y247) x2 x3 x4 x5 (v.1 + (1 : Int32)) v.2.1 (x5 + v.1)) else (J22_120 v.2.2 x2 x3 x4 x5 v.1 v.2.1 r242)) else (J22_120 v.2.2 x2 x3 x4 x5 v.1 v.2.1 r242)) else (J22_120 v.2.2 x2 x3 x4 x5 v.1 v.2.1 r242))) else some (.inl (v.1, v.2.2))))
theorem tB22_20 (Ad : QAd n0 ad) (W : QW Z a0) (s : List Int32) (x2 x3 : Int32) (x4 x5 : Int32) (v : Int32 × Int32 × Ob) {r : ((Int32 × Ob)) ⊕ (Int32 × Int32 × Ob)} {u : Option Value} {τ : QHeap} (h : B22_20 x2 x3 x4 x5 v = some r) (hx0 : ∀ x : Int32 × Ob, r = .inl x → QTri l Z n0 ad 22 (157, [vR 1, nN, nN, vI x3, vI x4, vI x5, vI x.1, nN, nN, nN, nN], [], (H0 s x.2)) u τ) (hc : ∀ x : Int32 × Int32 × Ob, r = .inr x → QTri l Z n0 ad 22 (20, [vR 1, nN, vI x2, vI x3, vI x4, vI x5, vI x.1, vI x.2.1, nN, nN, nN], [], (H0 s x.2.2)) u τ) : QTri l Z n0 ad 22 (20, [vR 1, nN, vI x2, vI x3, vI x4, vI x5, vI v.1, vI v.2.1, nN, nN, nN], [], (H0 s v.2.2)) u τ := by
 unfold B22_20 at h
 refine yS Ad W 2 (23, [vR 1, nN, vI x2, vI x3, vI x4, vI x5, vI v.1, vI v.2.1, nN, nN, nN], [.int x2, .int v.2.1], (H0 s v.2.2)) rfl ?_
 rcases qite h with ⟨c231, h⟩ | ⟨c231, h⟩
 ·refine yT Ad W 157 26 rfl (XT.ii_gt_t c231) ?_
  obtain rfl := sj h
  exact zM [tt,ff,ff,tt,tt,tt,tt,ff,ff,ff,ff] (hx0 (v.1, v.2.2) rfl)
 ·refine yF Ad W 157 26 rfl (XT.ii_gt_f c231) ?_
  refine yS Ad W 3 (32, [vR 1, nN, vI x2, vI x3, vI x4, vI x5, vI v.1, vI v.2.1, nN, nN, nN], [.int (fxE v.2.2), .int v.2.1], (H0 s v.2.2)) rfl ?_
  rcases qite h with ⟨c232, h⟩ | ⟨c232, h⟩
  ·refine yF Ad W 157 35 rfl (XT.ii_ge_f c232) ?_
   refine yS Ad W 3 (41, [vR 1, nN, vI x2, vI x3, vI x4, vI x5, vI v.1, vI v.2.1, nN, nN, nN], [.int v.2.1, .ref 5], (H0 s v.2.2)) rfl ?_
   obtain ⟨y233, hy233, h⟩ := be h
   refine zB Ad W (f := fun y233 => (42, [vR 1, nN, vI x2, vI x3, vI x4, vI x5, vI v.1, vI v.2.1, nN, nN, nN], [.int y233], (H0 s v.2.2))) rfl hy233 ?_
   refine yS Ad W 4 (50, [vR 1, nN, vI x2, vI x3, vI x4, vI x5, vI v.1, vI v.2.1, vI y233, nN, nN], [.int (fxF v.2.2), .int y233], (H0 s v.2.2)) rfl ?_
   rcases qite h with ⟨c234, h⟩ | ⟨c234, h⟩
   ·refine yF Ad W 56 53 rfl (XT.ii_ne_f c234) ?_
    refine yS Ad W 1 (151, [vR 1, nN, vI x2, vI x3, vI x4, vI x5, vI v.1, vI v.2.1, vI y233, nN, nN], [], (H0 s v.2.2)) rfl ?_
    exact zM [tt,ff,tt,tt,tt,tt,tt,tt,ff,ff,ff] (tJ22_151 Ad W s v.2.2 x2 x3 x4 x5 v.1 v.2.1 h hx0 hc)
   ·refine yT Ad W 56 53 rfl (XT.ii_ne_t c234) ?_
    refine yS Ad W 4 (63, [vR 1, nN, vI x2, vI x3, vI x4, vI x5, vI v.1, vI v.2.1, vI y233, nN, nN], [.int y233, .int v.1, .int x5, .ref 1], (H0 s v.2.2)) rfl ?_
    obtain ⟨r242, hr242, h⟩ := be h
    refine callP W (a := 1) (as := [.int x5, .int v.1, .int y233]) (rest := []) (w := (some (.int r242))) (σ₁ := (H0 s v.2.2)) rfl rfl rfl rfl rfl rfl rfl rfl (tF23 Ad W s v.2.2 x5 v.1 y233 hr242) ?_
    refine yS Ad W 2 (70, [vR 1, nN, vI x2, vI x3, vI x4, vI x5, vI v.1, vI v.2.1, vI y233, vI r242, nN], [.int r242], (H0 s v.2.2)) rfl ?_
    rcases qite h with ⟨c243, h⟩ | ⟨c243, h⟩
    ·refine yF Ad W 120 73 rfl (XT.i0_ge_f c243) ?_
     refine yS Ad W 2 (76, [vR 1, nN, vI x2, vI x3, vI x4, vI x5, vI v.1, vI v.2.1, vI y233, vI r242, nN], [.int 3, .int v.1], (H0 s v.2.2)) rfl ?_
     rcases qite h with ⟨c244, h⟩ | ⟨c244, h⟩
     ·refine yF Ad W 120 79 rfl (XT.ii_ge_f c244) ?_
      refine yS Ad W 6 (89, [vR 1, nN, vI x2, vI x3, vI x4, vI x5, vI v.1, vI v.2.1, vI y233, vI r242, nN], [.int ((fd v.2.2).length.toInt32), .int (x5 + v.1)], (H0 s v.2.2)) rfl ?_
      rcases qite h with ⟨c245, h⟩ | ⟨c245, h⟩
      ·refine yF Ad W 120 92 rfl (XT.ii_ge_f c245) ?_
       refine yS Ad W 9 (108, [vR 1, nN, vI x2, vI x3, vI x4, vI x5, vI v.1, vI v.2.1, vI y233, vI (x5 + v.1), nN], [.int (y233.toInt8.toInt32), .int (x5 + v.1), .ref 17], (H0 s v.2.2)) rfl ?_
       obtain ⟨y246, hy246, h⟩ := be h
       refine zB Ad W (f := fun y246 => (109, [vR 1, nN, vI x2, vI x3, vI x4, vI x5, vI v.1, vI v.2.1, vI y233, vI (x5 + v.1), nN], [], (H0x48 s v.2.2 y246))) rfl hy246 ?_
       refine yS Ad W 4 (116, [vR 1, nN, vI x2, vI x3, vI x4, vI x5, vI v.1, vI v.2.1, vI y233, vI (x5 + v.1), nN], [.long (0 : Int64), .int (x5 + v.1), .ref 16], (H0x48 s v.2.2 y246)) rfl ?_
       obtain ⟨y247, hy247, h⟩ := be h
       refine zB Ad W (f := fun y247 => (117, [vR 1, nN, vI x2, vI x3, vI x4, vI x5, vI v.1, vI v.2.1, vI y233, vI (x5 + v.1), nN], [], (H0x49 s v.2.2 y247 y246))) rfl hy247 ?_
       refine yS Ad W 1 (120, [vR 1, nN, vI x2, vI x3, vI x4, vI x5, vI (v.1 + (1:Int32)), vI v.2.1, vI y233, vI (x5 + v.1), nN], [], (H0x49 s v.2.2 y247 y246)) rfl ?_
       have E248 : ((H0x49 s v.2.2 y247 y246) : QHeap) = (H0 s (sd (sh v.2.2 y246) y247)) := by simp only [fs, H0, H0v, H0x49, sd, sh]
       rw [E248]
       exact zM [tt,ff,tt,tt,tt,tt,tt,tt,ff,tt,ff] (tJ22_120 Ad W s (sd (sh v.2.2 y246) y247) x2 x3 x4 x5 (v.1 + (1:Int32)) v.2.1 (x5 + v.1) h hx0 hc)
      ·refine yT Ad W 120 92 rfl (XT.ii_ge_t c245) ?_
       exact zM [tt,ff,tt,tt,tt,tt,tt,tt,ff,tt,ff] (tJ22_120 Ad W s v.2.2 x2 x3 x4 x5 v.1 v.2.1 r242 h hx0 hc)
     ·refine yT Ad W 120 79 rfl (XT.ii_ge_t c244) ?_
      exact zM [tt,ff,tt,tt,tt,tt,tt,tt,ff,tt,ff] (tJ22_120 Ad W s v.2.2 x2 x3 x4 x5 v.1 v.2.1 r242 h hx0 hc)
    ·refine yT Ad W 120 73 rfl (XT.i0_ge_t c243) ?_
     exact zM [tt,ff,tt,tt,tt,tt,tt,tt,ff,tt,ff] (tJ22_120 Ad W s v.2.2 x2 x3 x4 x5 v.1 v.2.1 r242 h hx0 hc)
  ·refine yT Ad W 157 35 rfl (XT.ii_ge_t c232) ?_
   obtain rfl := sj h
   exact zM [tt,ff,ff,tt,tt,tt,tt,ff,ff,ff,ff] (hx0 (v.1, v.2.2) rfl)
def H0x51 (s : List Int32) (o0 : Ob) (a0_46 : Int32) : QHeap := H0v s (fA o0) (fB o0) (fC o0) (fD o0) (fE o0) (fF o0) (fG o0) (fH o0) (fI o0) (fJ o0) (fK o0) (fL o0) (fM o0) (fN o0) (fO o0) (fP o0) (fQ o0) (fR o0) (fS o0) (fT o0) (fU o0) (fV o0) (fW o0) (fX o0) (fY o0) (fZ o0) (fa o0) (fb o0) (fd o0) (fh o0) (fi o0) (fq o0) (fu o0) (fy o0) (fz o0) (fxA o0) (fxB o0) (fxC o0) (fxD o0) (fxE o0) (fxF o0) (fxG o0) (fxH o0) (fxI o0) (fxJ o0) (fxK o0) a0_46 (fxM o0)
def J22_157 (o : Ob) (x3 x4 : Int32) (x5 x6 : Int32) : Option (Int32 × Ob) :=
  (F18 (sxL o (x5 + x6)) (4 : Int32) x4 x5 x6 x3).bind fun r257 => some (r257.1, r257.2)
theorem tJ22_157 (Ad : QAd n0 ad) (W : QW Z a0) (s : List Int32) (o : Ob) (x3 x4 : Int32) (x5 x6 : Int32) {r : Int32 × Ob} (h : J22_157 o x3 x4 x5 x6 = some r) : QTri l Z n0 ad 22 (157, [vR 1, nN, nN, vI x3, vI x4, vI x5, vI x6, nN, nN, nN, nN], [], (H0 s o)) (some (Value.int r.1)) (H0 s r.2) := by
 unfold J22_157 at h
 refine yS Ad W 5 (166, [vR 1, nN, nN, vI x3, vI x4, vI x5, vI x6, nN, nN, nN, nN], [], (H0x51 s o (x5 + x6))) rfl ?_
 refine yS Ad W 6 (175, [vR 1, nN, nN, vI x3, vI x4, vI x5, vI x6, nN, nN, nN, nN], [.int x3, .int x6, .int x5, .int x4, .int 4, .ref 1], (H0x51 s o (x5 + x6))) rfl ?_
 have E256 : ((H0x51 s o (x5 + x6)) : QHeap) = (H0 s (sxL o (x5 + x6))) := by simp only [fs, H0, H0v, H0x51, sxL]
 rw [E256]
 obtain ⟨r257, hr257, h⟩ := be h
 refine callP W (a := 1) (as := [.int 4, .int x4, .int x5, .int x6, .int x3]) (rest := []) (w := (some (.int r257.1))) (σ₁ := (H0 s r257.2)) rfl rfl rfl rfl rfl rfl rfl rfl (tF18 Ad W s (sxL o (x5 + x6)) (4:Int32) x4 x5 x6 x3 hr257) ?_
 obtain rfl := sj h
 exact retI rfl rfl
/-- emitBits(III)I -/
def F22 (o : Ob) (x1 x2 x3 : Int32) : Option (Int32 × Ob) :=
 (aget (fQ o) x1).bind fun y230 => (loopN (B22_20 x2 x3 y230 (fxL o)) qN ((0:Int32), x1, o)).bind fun e254 => (J22_157 e254.2 x3 y230 (fxL o) e254.1)
theorem tF22 (Ad : QAd n0 ad) (W : QW Z a0) (s : List Int32) (o : Ob) (x1 x2 x3 : Int32) {r : Int32 × Ob} (h : F22 o x1 x2 x3 = some r) : QTri l Z n0 ad 22 (0, qentry [.ref 1, .int x1, .int x2, .int x3] (pMaxL 22), [], (H0 s o)) (some (Value.int r.1)) (H0 s r.2) := by
 unfold F22 at h
 refine yS Ad W 3 (5, [vR 1, vI x1, vI x2, vI x3, nN, nN, nN, nN, nN, nN, nN], [.int x1, .ref 4], (H0 s o)) rfl ?_
 obtain ⟨y230, hy230, h⟩ := be h
 refine zB Ad W (f := fun y230 => (6, [vR 1, vI x1, vI x2, vI x3, nN, nN, nN, nN, nN, nN, nN], [.int y230], (H0 s o))) rfl hy230 ?_
 refine yS Ad W 4 (14, [vR 1, vI x1, vI x2, vI x3, vI y230, vI (fxL o), nN, nN, nN, nN, nN], [], (H0 s o)) rfl ?_
 refine yS Ad W 4 (20, [vR 1, vI x1, vI x2, vI x3, vI y230, vI (fxL o), vI 0, vI x1, nN, nN, nN], [], (H0 s o)) rfl ?_
 obtain ⟨e254, he254, h⟩ := be h
 refine zM [tt,ff,tt,tt,tt,tt,tt,tt,ff,ff,ff] (loopN_tri (B := B22_20 x2 x3 y230 (fxL o)) (T := fun lv255 => QTri l Z n0 ad 22 (20, [vR 1, nN, vI x2, vI x3, vI y230, vI (fxL o), vI lv255.1, vI lv255.2.1, nN, nN, nN], [], (H0 s lv255.2.2)) (some (Value.int r.1)) (H0 s r.2)) (KE := fun e254a => QTri l Z n0 ad 22 (157, [vR 1, nN, nN, vI x3, vI y230, vI (fxL o), vI e254a.1, nN, nN, nN, nN], [], (H0 s e254a.2)) (some (Value.int r.1)) (H0 s r.2)) (fun lv255 r hB hE hC => tB22_20 Ad W s x2 x3 y230 (fxL o) lv255 hB (fun x q => hE _ q) (fun x q => hC x q)) qN ((0:Int32), x1, o) e254 he254 ?_)
 exact zM [tt,ff,ff,tt,tt,tt,tt,ff,ff,ff,ff] (tJ22_157 Ad W s e254.2 x3 y230 (fxL o) e254.1 h)
/-- emitLeaf(I)I -/
def F20 (o : Ob) (x1 : Int32) : Option (Int32 × Ob) :=
 (if x1 < (0:Int32) then some ((0:Int32), o) else (if x1 < (fxH o) then (aget (fU o) x1).bind fun y206 => (aget (fV o) x1).bind fun y207 => (if y206 < (0:Int32) then some ((0:Int32), o) else (if y207 < (fxE o) then (if y207 < y206 then some ((0:Int32), o) else (if y206 = y207 then (aget (fQ o) y206).bind fun y212 => (aget (fR o) y206).bind fun y213 => (F18 o (2:Int32) y212 y213 (0:Int32) (0:Int32)).bind fun r214 => some (r214.1, r214.2) else (aget (fQ o) y207).bind fun y215 => (aget (fQ o) y206).bind fun y216 => (F21 o y206 y207).bind fun r227 => (if (64 : Int64) < (((y215.toInt64) - (y216.toInt64)) + (1 : Int64)) then (J20_124 o y206 y207 (((y215.toInt64) - (y216.toInt64)) + (1 : Int64))) else (if (3:Int32) < r227 then (J20_124 o y206 y207 (((y215.toInt64) - (y216.toInt64)) + (1 : Int64))) else (F22 o y206 y207 ((((y215.toInt64) - (y216.toInt64)) + (1 : Int64)).toInt32)).bind fun r258 => some (r258.1, r258.2))))) else some ((0:Int32), o))) else some ((0:Int32), o)))
theorem tF20 (Ad : QAd n0 ad) (W : QW Z a0) (s : List Int32) (o : Ob) (x1 : Int32) {r : Int32 × Ob} (h : F20 o x1 = some r) : QTri l Z n0 ad 20 (0, qentry [.ref 1, .int x1] (pMaxL 20), [], (H0 s o)) (some (Value.int r.1)) (H0 s r.2) := by
 unfold F20 at h
 refine yS Ad W 1 (1, [vR 1, vI x1, nN, nN, nN, nN, nN], [.int x1], (H0 s o)) rfl ?_
 rcases qite h with ⟨c204, h⟩ | ⟨c204, h⟩
 ·refine yT Ad W 12 4 rfl (XT.i0_lt_t c204) ?_
  refine yS Ad W 1 (13, [vR 1, vI x1, nN, nN, nN, nN, nN], [.int 0], (H0 s o)) rfl ?_
  obtain rfl := sj h
  exact retI rfl rfl
 ·refine yF Ad W 12 4 rfl (XT.i0_lt_f c204) ?_
  refine yS Ad W 3 (9, [vR 1, vI x1, nN, nN, nN, nN, nN], [.int (fxH o), .int x1], (H0 s o)) rfl ?_
  rcases qite h with ⟨c205, h⟩ | ⟨c205, h⟩
  ·refine yT Ad W 14 12 rfl (XT.ii_lt_t c205) ?_
   refine yS Ad W 3 (19, [vR 1, vI x1, nN, nN, nN, nN, nN], [.int x1, .ref 8], (H0 s o)) rfl ?_
   obtain ⟨y206, hy206, h⟩ := be h
   refine zB Ad W (f := fun y206 => (20, [vR 1, vI x1, nN, nN, nN, nN, nN], [.int y206], (H0 s o))) rfl hy206 ?_
   refine yS Ad W 4 (26, [vR 1, vI x1, vI y206, nN, nN, nN, nN], [.int x1, .ref 9], (H0 s o)) rfl ?_
   obtain ⟨y207, hy207, h⟩ := be h
   refine zB Ad W (f := fun y207 => (27, [vR 1, vI x1, vI y206, nN, nN, nN, nN], [.int y207], (H0 s o))) rfl hy207 ?_
   refine yS Ad W 2 (29, [vR 1, vI x1, vI y206, vI y207, nN, nN, nN], [.int y206], (H0 s o)) rfl ?_
   rcases qite h with ⟨c208, h⟩ | ⟨c208, h⟩
   ·refine yT Ad W 45 32 rfl (XT.i0_lt_t c208) ?_
    refine yS Ad W 1 (46, [vR 1, vI x1, vI y206, vI y207, nN, nN, nN], [.int 0], (H0 s o)) rfl ?_
    obtain rfl := sj h
    exact retI rfl rfl
   ·refine yF Ad W 45 32 rfl (XT.i0_lt_f c208) ?_
    refine yS Ad W 3 (37, [vR 1, vI x1, vI y206, vI y207, nN, nN, nN], [.int (fxE o), .int y207], (H0 s o)) rfl ?_
    rcases qite h with ⟨c209, h⟩ | ⟨c209, h⟩
    ·refine yF Ad W 45 40 rfl (XT.ii_ge_f c209) ?_
     refine yS Ad W 2 (42, [vR 1, vI x1, vI y206, vI y207, nN, nN, nN], [.int y207, .int y206], (H0 s o)) rfl ?_
     rcases qite h with ⟨c210, h⟩ | ⟨c210, h⟩
     ·refine yF Ad W 47 45 rfl (XT.ii_le_f c210) ?_
      refine yS Ad W 1 (46, [vR 1, vI x1, vI y206, vI y207, nN, nN, nN], [.int 0], (H0 s o)) rfl ?_
      obtain rfl := sj h
      exact retI rfl rfl
     ·refine yT Ad W 47 45 rfl (XT.ii_le_t c210) ?_
      refine yS Ad W 2 (49, [vR 1, vI x1, vI y206, vI y207, nN, nN, nN], [.int y207, .int y206], (H0 s o)) rfl ?_
      rcases qite h with ⟨c211, h⟩ | ⟨c211, h⟩
      ·refine yF Ad W 72 52 rfl (XT.ii_ne_f c211) ?_
       refine yS Ad W 5 (59, [vR 1, vI x1, vI y206, vI y207, nN, nN, nN], [.int y206, .ref 4, .int 2, .ref 1], (H0 s o)) rfl ?_
       obtain ⟨y212, hy212, h⟩ := be h
       refine zB Ad W (f := fun y212 => (60, [vR 1, vI x1, vI y206, vI y207, nN, nN, nN], [.int y212, .int 2, .ref 1], (H0 s o))) rfl hy212 ?_
       refine yS Ad W 3 (65, [vR 1, vI x1, vI y206, vI y207, nN, nN, nN], [.int y206, .ref 5, .int y212, .int 2, .ref 1], (H0 s o)) rfl ?_
       obtain ⟨y213, hy213, h⟩ := be h
       refine zB Ad W (f := fun y213 => (66, [vR 1, vI x1, vI y206, vI y207, nN, nN, nN], [.int y213, .int y212, .int 2, .ref 1], (H0 s o))) rfl hy213 ?_
       refine yS Ad W 2 (68, [vR 1, vI x1, vI y206, vI y207, nN, nN, nN], [.int 0, .int 0, .int y213, .int y212, .int 2, .ref 1], (H0 s o)) rfl ?_
       obtain ⟨r214, hr214, h⟩ := be h
       refine callP W (a := 1) (as := [.int 2, .int y212, .int y213, .int 0, .int 0]) (rest := []) (w := (some (.int r214.1))) (σ₁ := (H0 s r214.2)) rfl rfl rfl rfl rfl rfl rfl rfl (tF18 Ad W s o (2:Int32) y212 y213 (0:Int32) (0:Int32) hr214) ?_
       obtain rfl := sj h
       exact retI rfl rfl
      ·refine yT Ad W 72 52 rfl (XT.ii_ne_t c211) ?_
       refine yS Ad W 3 (77, [vR 1, vI x1, vI y206, vI y207, nN, nN, nN], [.int y207, .ref 4], (H0 s o)) rfl ?_
       obtain ⟨y215, hy215, h⟩ := be h
       refine zB Ad W (f := fun y215 => (78, [vR 1, vI x1, vI y206, vI y207, nN, nN, nN], [.int y215], (H0 s o))) rfl hy215 ?_
       refine yS Ad W 4 (84, [vR 1, vI x1, vI y206, vI y207, nN, nN, nN], [.int y206, .ref 4, .long (y215.toInt64)], (H0 s o)) rfl ?_
       obtain ⟨y216, hy216, h⟩ := be h
       refine zB Ad W (f := fun y216 => (85, [vR 1, vI x1, vI y206, vI y207, nN, nN, nN], [.int y216, .long (y215.toInt64)], (H0 s o))) rfl hy216 ?_
       refine yS Ad W 8 (94, [vR 1, vI x1, vI y206, vI y207, vL (((y215.toInt64) - (y216.toInt64)) + (1 : Int64)), nN, nN], [.int y207, .int y206, .ref 1], (H0 s o)) rfl ?_
       obtain ⟨r227, hr227, h⟩ := be h
       refine callP W (a := 1) (as := [.int y206, .int y207]) (rest := []) (w := (some (.int r227))) (σ₁ := (H0 s o)) rfl rfl rfl rfl rfl rfl rfl rfl (tF21 Ad W s o y206 y207 hr227) ?_
       refine yS Ad W 4 (105, [vR 1, vI x1, vI y206, vI y207, vL (((y215.toInt64) - (y216.toInt64)) + (1 : Int64)), nN, vI r227], [.int (XT.cmpL (((y215.toInt64) - (y216.toInt64)) + (1 : Int64)) (64 : Int64))], (H0 s o)) rfl ?_
       rcases qite h with ⟨c228, h⟩ | ⟨c228, h⟩
       ·refine yT Ad W 124 108 rfl (XT.ll_gt_t c228) ?_
        exact zM [tt,ff,tt,tt,tt,ff,ff] (tJ20_124 Ad W s o y206 y207 (((y215.toInt64) - (y216.toInt64)) + (1 : Int64)) h)
       ·refine yF Ad W 124 108 rfl (XT.ll_gt_f c228) ?_
        refine yS Ad W 2 (111, [vR 1, vI x1, vI y206, vI y207, vL (((y215.toInt64) - (y216.toInt64)) + (1 : Int64)), nN, vI r227], [.int 3, .int r227], (H0 s o)) rfl ?_
        rcases qite h with ⟨c229, h⟩ | ⟨c229, h⟩
        ·refine yT Ad W 124 114 rfl (XT.ii_gt_t c229) ?_
         exact zM [tt,ff,tt,tt,tt,ff,ff] (tJ20_124 Ad W s o y206 y207 (((y215.toInt64) - (y216.toInt64)) + (1 : Int64)) h)
        ·refine yF Ad W 124 114 rfl (XT.ii_gt_f c229) ?_
         refine yS Ad W 5 (120, [vR 1, vI x1, vI y206, vI y207, vL (((y215.toInt64) - (y216.toInt64)) + (1 : Int64)), nN, vI r227], [.int ((((y215.toInt64) - (y216.toInt64)) + (1 : Int64)).toInt32), .int y207, .int y206, .ref 1], (H0 s o)) rfl ?_
         obtain ⟨r258, hr258, h⟩ := be h
         refine callP W (a := 1) (as := [.int y206, .int y207, .int ((((y215.toInt64) - (y216.toInt64)) + (1 : Int64)).toInt32)]) (rest := []) (w := (some (.int r258.1))) (σ₁ := (H0 s r258.2)) rfl rfl rfl rfl rfl rfl rfl rfl (tF22 Ad W s o y206 y207 ((((y215.toInt64) - (y216.toInt64)) + (1 : Int64)).toInt32) hr258) ?_
         obtain rfl := sj h
         exact retI rfl rfl
    ·refine yT Ad W 45 40 rfl (XT.ii_ge_t c209) ?_
     refine yS Ad W 1 (46, [vR 1, vI x1, vI y206, vI y207, nN, nN, nN], [.int 0], (H0 s o)) rfl ?_
     obtain rfl := sj h
     exact retI rfl rfl
  ·refine yF Ad W 14 12 rfl (XT.ii_lt_f c205) ?_
   refine yS Ad W 1 (13, [vR 1, vI x1, nN, nN, nN, nN, nN], [.int 0], (H0 s o)) rfl ?_
   obtain rfl := sj h
   exact retI rfl rfl
def J24_12 (o : Ob) (x3 : Int32) : Option (Ob) :=
  some (sxJ o x3)
theorem tJ24_12 (Ad : QAd n0 ad) (W : QW Z a0) (s : List Int32) (o : Ob) (x3 : Int32) {r : Ob} (h : J24_12 o x3 = some r) : QTri l Z n0 ad 24 (12, [vR 1, nN, nN, vI x3], [], (H0 s o)) (none : Option Value) (H0 s r) := by
 unfold J24_12 at h
 refine yS Ad W 3 (17, [vR 1, nN, nN, vI x3], [], (H0x41 s o x3)) rfl ?_
 have E261 : ((H0x41 s o x3) : QHeap) = (H0 s (sxJ o x3)) := by simp only [fs, H0, H0v, H0x41, sxJ]
 rw [E261]
 obtain rfl := sj h
 exact ret0 rfl rfl
def H0x52 (s : List Int32) (o0 : Ob) (a0_24 : List Int32) : QHeap := H0v s (fA o0) (fB o0) (fC o0) (fD o0) (fE o0) (fF o0) (fG o0) (fH o0) (fI o0) (fJ o0) (fK o0) (fL o0) (fM o0) (fN o0) (fO o0) (fP o0) (fQ o0) (fR o0) (fS o0) (fT o0) (fU o0) (fV o0) (fW o0) (fX o0) a0_24 (fZ o0) (fa o0) (fb o0) (fd o0) (fh o0) (fi o0) (fq o0) (fu o0) (fy o0) (fz o0) (fxA o0) (fxB o0) (fxC o0) (fxD o0) (fxE o0) (fxF o0) (fxG o0) (fxH o0) (fxI o0) (fxJ o0) (fxK o0) (fxL o0) (fxM o0)
def H0x53 (s : List Int32) (o0 : Ob) (a0_25 : List Int32) : QHeap := H0v s (fA o0) (fB o0) (fC o0) (fD o0) (fE o0) (fF o0) (fG o0) (fH o0) (fI o0) (fJ o0) (fK o0) (fL o0) (fM o0) (fN o0) (fO o0) (fP o0) (fQ o0) (fR o0) (fS o0) (fT o0) (fU o0) (fV o0) (fW o0) (fX o0) (fY o0) a0_25 (fa o0) (fb o0) (fd o0) (fh o0) (fi o0) (fq o0) (fu o0) (fy o0) (fz o0) (fxA o0) (fxB o0) (fxC o0) (fxD o0) (fxE o0) (fxF o0) (fxG o0) (fxH o0) (fxI o0) (fxJ o0) (fxK o0) (fxL o0) (fxM o0)
/-- patch(III)V -/
def F24 (o : Ob) (x1 x2 x3 : Int32) : Option (Ob) :=
 (if x1 < (0:Int32) then (J24_12 o x3) else (if x1 < (fxI o) then (if x2 = (0:Int32) then (aset (fY o) x1 x3).bind fun y264 => some (sY o y264) else (aset (fZ o) x1 x3).bind fun y266 => some (sZ o y266)) else (J24_12 o x3)))
theorem tF24 (Ad : QAd n0 ad) (W : QW Z a0) (s : List Int32) (o : Ob) (x1 x2 x3 : Int32) {r : Ob} (h : F24 o x1 x2 x3 = some r) : QTri l Z n0 ad 24 (0, qentry [.ref 1, .int x1, .int x2, .int x3] (pMaxL 24), [], (H0 s o)) (none : Option Value) (H0 s r) := by
 unfold F24 at h
 refine yS Ad W 1 (1, [vR 1, vI x1, vI x2, vI x3], [.int x1], (H0 s o)) rfl ?_
 rcases qite h with ⟨c260, h⟩ | ⟨c260, h⟩
 ·refine yT Ad W 12 4 rfl (XT.i0_lt_t c260) ?_
  exact zM [tt,ff,ff,tt] (tJ24_12 Ad W s o x3 h)
 ·refine yF Ad W 12 4 rfl (XT.i0_lt_f c260) ?_
  refine yS Ad W 3 (9, [vR 1, vI x1, vI x2, vI x3], [.int (fxI o), .int x1], (H0 s o)) rfl ?_
  rcases qite h with ⟨c262, h⟩ | ⟨c262, h⟩
  ·refine yT Ad W 18 12 rfl (XT.ii_lt_t c262) ?_
   refine yS Ad W 1 (19, [vR 1, vI x1, vI x2, vI x3], [.int x2], (H0 s o)) rfl ?_
   rcases qite h with ⟨c263, h⟩ | ⟨c263, h⟩
   ·refine yF Ad W 32 22 rfl (XT.i0_ne_f c263) ?_
    refine yS Ad W 4 (28, [vR 1, vI x1, vI x2, vI x3], [.int x3, .int x1, .ref 12], (H0 s o)) rfl ?_
    obtain ⟨y264, hy264, h⟩ := be h
    refine zB Ad W (f := fun y264 => (29, [vR 1, vI x1, vI x2, vI x3], [], (H0x52 s o y264))) rfl hy264 ?_
    refine yS Ad W 1 (39, [vR 1, vI x1, vI x2, vI x3], [], (H0x52 s o y264)) rfl ?_
    have E265 : ((H0x52 s o y264) : QHeap) = (H0 s (sY o y264)) := by simp only [fs, H0, H0v, H0x52, sY]
    rw [E265]
    obtain rfl := sj h
    exact ret0 rfl rfl
   ·refine yT Ad W 32 22 rfl (XT.i0_ne_t c263) ?_
    refine yS Ad W 4 (38, [vR 1, vI x1, vI x2, vI x3], [.int x3, .int x1, .ref 13], (H0 s o)) rfl ?_
    obtain ⟨y266, hy266, h⟩ := be h
    refine zB Ad W (f := fun y266 => (39, [vR 1, vI x1, vI x2, vI x3], [], (H0x53 s o y266))) rfl hy266 ?_
    have E267 : ((H0x53 s o y266) : QHeap) = (H0 s (sZ o y266)) := by simp only [fs, H0, H0v, H0x53, sZ]
    rw [E267]
    obtain rfl := sj h
    exact ret0 rfl rfl
  ·refine yF Ad W 18 12 rfl (XT.ii_lt_f c262) ?_
   exact zM [tt,ff,ff,tt] (tJ24_12 Ad W s o x3 h)
def B17_59 (v : Int32 × Ob) : Option (((Int32 × Int32 × Ob) ⊕ (Ob)) ⊕ (Int32 × Ob)) :=
  (if v.1 < ((fW v.2).length.toInt32) then (if (0 : Int32) < (fxM v.2) then (aget (fi v.2) ((fxM v.2) - (1 : Int32))).bind fun y197 => (aget (fq v.2) ((fxM v.2) - (1 : Int32))).bind fun y198 => (aget (fu v.2) ((fxM v.2) - (1 : Int32))).bind fun y199 => (aget (fy v.2) ((fxM v.2) - (1 : Int32))).bind fun y200 => (if y197 < y198 then some (.inl (Sum.inl (y197, y198, (sxM v.2 ((fxM v.2) - (1 : Int32)))))) else (F20 (sxM v.2 ((fxM v.2) - (1 : Int32))) y197).bind fun r259 => (F24 r259.2 y199 y200 r259.1).bind fun r268 => some (.inr ((v.1 + (1 : Int32)), r268))) else some (.inl (Sum.inr v.2))) else some (.inl (Sum.inr v.2)))
theorem tB17_59 (Ad : QAd n0 ad) (W : QW Z a0) (s : List Int32) (v : Int32 × Ob) {r : ((Int32 × Int32 × Ob) ⊕ (Ob)) ⊕ (Int32 × Ob)} {u : Option Value} {τ : QHeap} (h : B17_59 v = some r) (hx0 : ∀ x : Int32 × Int32 × Ob, r = .inl (Sum.inl x) → QTri l Z n0 ad 17 (142, [vR 1, nN, vI x.1, vI x.2.1, nN, nN, nN, nN, nN], [], (H0 s x.2.2)) u τ) (hx1 : ∀ x : Ob, r = .inl (Sum.inr x) → u = (none : Option Value) ∧ τ = (H0 s x)) (hc : ∀ x : Int32 × Ob, r = .inr x → QTri l Z n0 ad 17 (59, [vR 1, vI x.1, nN, nN, nN, nN, nN, nN, nN], [], (H0 s x.2)) u τ) : QTri l Z n0 ad 17 (59, [vR 1, vI v.1, nN, nN, nN, nN, nN, nN, nN], [], (H0 s v.2)) u τ := by
 unfold B17_59 at h
 refine yS Ad W 4 (65, [vR 1, vI v.1, nN, nN, nN, nN, nN, nN, nN], [.int ((fW v.2).length.toInt32), .int v.1], (H0 s v.2)) rfl ?_
 rcases qite h with ⟨c195, h⟩ | ⟨c195, h⟩
 ·refine yF Ad W 209 68 rfl (XT.ii_ge_f c195) ?_
  refine yS Ad W 2 (72, [vR 1, vI v.1, nN, nN, nN, nN, nN, nN, nN], [.int (fxM v.2)], (H0 s v.2)) rfl ?_
  rcases qite h with ⟨c196, h⟩ | ⟨c196, h⟩
  ·refine yF Ad W 209 75 rfl (XT.i0_le_f c196) ?_
   refine yS Ad W 6 (85, [vR 1, vI v.1, nN, nN, nN, nN, nN, nN, nN], [], (H0x47 s v.2 ((fxM v.2) - (1:Int32)))) rfl ?_
   refine yS Ad W 4 (93, [vR 1, vI v.1, nN, nN, nN, nN, nN, nN, nN], [.int ((fxM v.2) - (1:Int32)), .ref 18], (H0x47 s v.2 ((fxM v.2) - (1:Int32)))) rfl ?_
   obtain ⟨y197, hy197, h⟩ := be h
   refine zB Ad W (f := fun y197 => (94, [vR 1, vI v.1, nN, nN, nN, nN, nN, nN, nN], [.int y197], (H0x47 s v.2 ((fxM v.2) - (1:Int32))))) rfl hy197 ?_
   refine yS Ad W 5 (103, [vR 1, vI v.1, vI y197, nN, nN, nN, nN, nN, nN], [.int ((fxM v.2) - (1:Int32)), .ref 19], (H0x47 s v.2 ((fxM v.2) - (1:Int32)))) rfl ?_
   obtain ⟨y198, hy198, h⟩ := be h
   refine zB Ad W (f := fun y198 => (104, [vR 1, vI v.1, vI y197, nN, nN, nN, nN, nN, nN], [.int y198], (H0x47 s v.2 ((fxM v.2) - (1:Int32))))) rfl hy198 ?_
   refine yS Ad W 5 (113, [vR 1, vI v.1, vI y197, vI y198, nN, nN, nN, nN, nN], [.int ((fxM v.2) - (1:Int32)), .ref 20], (H0x47 s v.2 ((fxM v.2) - (1:Int32)))) rfl ?_
   obtain ⟨y199, hy199, h⟩ := be h
   refine zB Ad W (f := fun y199 => (114, [vR 1, vI v.1, vI y197, vI y198, nN, nN, nN, nN, nN], [.int y199], (H0x47 s v.2 ((fxM v.2) - (1:Int32))))) rfl hy199 ?_
   refine yS Ad W 5 (124, [vR 1, vI v.1, vI y197, vI y198, vI y199, nN, nN, nN, nN], [.int ((fxM v.2) - (1:Int32)), .ref 21], (H0x47 s v.2 ((fxM v.2) - (1:Int32)))) rfl ?_
   obtain ⟨y200, hy200, h⟩ := be h
   refine zB Ad W (f := fun y200 => (125, [vR 1, vI v.1, vI y197, vI y198, vI y199, nN, nN, nN, nN], [.int y200], (H0x47 s v.2 ((fxM v.2) - (1:Int32))))) rfl hy200 ?_
   refine yS Ad W 3 (129, [vR 1, vI v.1, vI y197, vI y198, vI y199, vI y200, nN, nN, nN], [.int y198, .int y197], (H0x47 s v.2 ((fxM v.2) - (1:Int32)))) rfl ?_
   rcases qite h with ⟨c201, h⟩ | ⟨c201, h⟩
   ·refine yT Ad W 142 132 rfl (XT.ii_lt_t c201) ?_
    have E202 : ((H0x47 s v.2 ((fxM v.2) - (1:Int32))) : QHeap) = (H0 s (sxM v.2 ((fxM v.2) - (1:Int32)))) := by simp only [fs, H0, H0v, H0x47, sxM]
    rw [E202]
    obtain rfl := sj h
    exact zM [tt,ff,tt,tt,ff,ff,ff,ff,ff] (hx0 (y197, y198, (sxM v.2 ((fxM v.2) - (1:Int32)))) rfl)
   ·refine yF Ad W 142 132 rfl (XT.ii_lt_f c201) ?_
    refine yS Ad W 2 (134, [vR 1, vI v.1, vI y197, vI y198, vI y199, vI y200, nN, nN, nN], [.int y197, .ref 1], (H0x47 s v.2 ((fxM v.2) - (1:Int32)))) rfl ?_
    have E203 : ((H0x47 s v.2 ((fxM v.2) - (1:Int32))) : QHeap) = (H0 s (sxM v.2 ((fxM v.2) - (1:Int32)))) := by simp only [fs, H0, H0v, H0x47, sxM]
    rw [E203]
    obtain ⟨r259, hr259, h⟩ := be h
    refine callP W (a := 1) (as := [.int y197]) (rest := []) (w := (some (.int r259.1))) (σ₁ := (H0 s r259.2)) rfl rfl rfl rfl rfl rfl rfl rfl (tF20 Ad W s (sxM v.2 ((fxM v.2) - (1:Int32))) y197 hr259) ?_
    refine yS Ad W 6 (200, [vR 1, vI v.1, vI y197, vI y198, vI y199, vI y200, vI r259.1, nN, nN], [.int r259.1, .int y200, .int y199, .ref 1], (H0 s r259.2)) rfl ?_
    obtain ⟨r268, hr268, h⟩ := be h
    refine callP W (a := 1) (as := [.int y199, .int y200, .int r259.1]) (rest := []) (w := none) (σ₁ := (H0 s r268)) rfl rfl rfl rfl rfl rfl rfl rfl (tF24 Ad W s r259.2 y199 y200 r259.1 hr268) ?_
    refine yS Ad W 2 (59, [vR 1, vI (v.1 + (1:Int32)), vI y197, vI y198, vI y199, vI y200, vI r259.1, nN, nN], [], (H0 s r268)) rfl ?_
    obtain rfl := sj h
    exact zM [tt,tt,ff,ff,ff,ff,ff,ff,ff] (hc ((v.1 + (1:Int32)), r268) rfl)
  ·refine yT Ad W 209 75 rfl (XT.i0_le_t c196) ?_
   obtain rfl := sj h
   obtain ⟨rfl, rfl⟩ := hx1 v.2 rfl
   exact ret0 rfl rfl
 ·refine yT Ad W 209 68 rfl (XT.ii_ge_t c195) ?_
  obtain rfl := sj h
  obtain ⟨rfl, rfl⟩ := hx1 v.2 rfl
  exact ret0 rfl rfl
/-- buildTree()V -/
def F17 (o : Ob) : Option (Ob) :=
 (F18 (sxM (sxL (sxK (sxI o (0:Int32)) (0:Int32)) (0:Int32)) (0:Int32)) (0:Int32) (fxF o) (0:Int32) (0:Int32) (0:Int32)).bind fun r184 => (if (0:Int32) < (fxH r184.2) then (F19 (sxJ r184.2 r184.1) (0:Int32) ((fxH r184.2) - (1:Int32)) (-1:Int32) (0:Int32)).bind fun r194 => ((loopN (B17_59) qN ((0:Int32), r194)).bind fun e269 => match e269 with | .inl e269a => none | .inr e269a => some e269a) else some (sxJ r184.2 r184.1))
theorem tF17 (Ad : QAd n0 ad) (W : QW Z a0) (s : List Int32) (o : Ob) {r : Ob} (h : F17 o = some r) : QTri l Z n0 ad 17 (0, qentry [.ref 1] (pMaxL 17), [], (H0 s o)) (none : Option Value) (H0 s r) := by
 unfold F17 at h
 refine yS Ad W 3 (5, [vR 1, nN, nN, nN, nN, nN, nN, nN, nN], [], (H0x31 s o (0:Int32))) rfl ?_
 refine yS Ad W 3 (10, [vR 1, nN, nN, nN, nN, nN, nN, nN, nN], [], (H0x32 s o (0:Int32) (0:Int32))) rfl ?_
 refine yS Ad W 3 (15, [vR 1, nN, nN, nN, nN, nN, nN, nN, nN], [], (H0x33 s o (0:Int32) (0:Int32) (0:Int32))) rfl ?_
 refine yS Ad W 3 (20, [vR 1, nN, nN, nN, nN, nN, nN, nN, nN], [], (H0x34 s o (0:Int32) (0:Int32) (0:Int32) (0:Int32))) rfl ?_
 refine yS Ad W 8 (30, [vR 1, nN, nN, nN, nN, nN, nN, nN, nN], [.int 0, .int 0, .int 0, .int (fxF o), .int 0, .ref 1, .ref 1], (H0x34 s o (0:Int32) (0:Int32) (0:Int32) (0:Int32))) rfl ?_
 have E175 : ((H0x34 s o (0:Int32) (0:Int32) (0:Int32) (0:Int32)) : QHeap) = (H0 s (sxM (sxL (sxK (sxI o (0:Int32)) (0:Int32)) (0:Int32)) (0:Int32))) := by simp only [fs, H0, H0v, H0x34, sxI, sxK, sxL, sxM]
 rw [E175]
 obtain ⟨r184, hr184, h⟩ := be h
 refine callP W (a := 1) (as := [.int 0, .int (fxF o), .int 0, .int 0, .int 0]) (rest := [.ref 1]) (w := (some (.int r184.1))) (σ₁ := (H0 s r184.2)) rfl rfl rfl rfl rfl rfl rfl rfl (tF18 Ad W s (sxM (sxL (sxK (sxI o (0:Int32)) (0:Int32)) (0:Int32)) (0:Int32)) (0:Int32) (fxF o) (0:Int32) (0:Int32) (0:Int32) hr184) ?_
 refine yS Ad W 3 (40, [vR 1, nN, nN, nN, nN, nN, nN, nN, nN], [.int (fxH r184.2)], (H0x41 s r184.2 r184.1)) rfl ?_
 rcases qite h with ⟨c185, h⟩ | ⟨c185, h⟩
 ·refine yT Ad W 44 43 rfl (XT.i0_gt_t c185) ?_
  refine yS Ad W 8 (54, [vR 1, nN, nN, nN, nN, nN, nN, nN, nN], [.int 0, .int (-1:Int32), .int ((fxH r184.2) - (1:Int32)), .int 0, .ref 1], (H0x41 s r184.2 r184.1)) rfl ?_
  have E186 : ((H0x41 s r184.2 r184.1) : QHeap) = (H0 s (sxJ r184.2 r184.1)) := by simp only [fs, H0, H0v, H0x41, sxJ]
  rw [E186]
  obtain ⟨r194, hr194, h⟩ := be h
  refine callP W (a := 1) (as := [.int 0, .int ((fxH r184.2) - (1:Int32)), .int (-1:Int32), .int 0]) (rest := []) (w := none) (σ₁ := (H0 s r194)) rfl rfl rfl rfl rfl rfl rfl rfl (tF19 Ad W s (sxJ r184.2 r184.1) (0:Int32) ((fxH r184.2) - (1:Int32)) (-1:Int32) (0:Int32) hr194) ?_
  refine yS Ad W 2 (59, [vR 1, vI 0, nN, nN, nN, nN, nN, nN, nN], [], (H0 s r194)) rfl ?_
  obtain ⟨e269, he269, h⟩ := be h
  refine zM [tt,tt,ff,ff,ff,ff,ff,ff,ff] (loopN_tri (B := B17_59) (T := fun lv270 => QTri l Z n0 ad 17 (59, [vR 1, vI lv270.1, nN, nN, nN, nN, nN, nN, nN], [], (H0 s lv270.2)) (none : Option Value) (H0 s r)) (KE := fun e => match e with | .inl e269a => QTri l Z n0 ad 17 (142, [vR 1, nN, vI e269a.1, vI e269a.2.1, nN, nN, nN, nN, nN], [], (H0 s e269a.2.2)) (none : Option Value) (H0 s r) | .inr e269a => (none : Option Value) = (none : Option Value) ∧ (H0 s r) = (H0 s e269a)) (fun lv270 r hB hE hC => tB17_59 Ad W s lv270 hB (fun x q => hE _ q) (fun x q => hE _ q) (fun x q => hC x q)) qN ((0:Int32), r194) e269 he269 ?_)
  rcases e269 with e269a | e269a
  ·cases h
  ·obtain rfl := sj h
   exact ⟨rfl, rfl⟩
 ·refine yF Ad W 44 43 rfl (XT.i0_gt_f c185) ?_
  have E271 : ((H0x41 s r184.2 r184.1) : QHeap) = (H0 s (sxJ r184.2 r184.1)) := by simp only [fs, H0, H0v, H0x41, sxJ]
  rw [E271]
  obtain rfl := sj h
  exact ret0 rfl rfl
/-- lower()I -/
def F12 (o : Ob) : Option (Int32 × Ob) :=
 (F13 o).bind fun r119 => (F14 r119).bind fun r160 => (F16 r160).bind fun r174 => (F17 r174).bind fun r272 => some ((fxE r272), r272)
theorem tF12 (Ad : QAd n0 ad) (W : QW Z a0) (s : List Int32) (o : Ob) {r : Int32 × Ob} (h : F12 o = some r) : QTri l Z n0 ad 12 (0, qentry [.ref 1] (pMaxL 12), [], (H0 s o)) (some (Value.int r.1)) (H0 s r.2) := by
 unfold F12 at h
 refine yS Ad W 1 (1, [vR 1], [.ref 1], (H0 s o)) rfl ?_
 obtain ⟨r119, hr119, h⟩ := be h
 refine callP W (a := 1) (as := []) (rest := []) (w := none) (σ₁ := (H0 s r119)) rfl rfl rfl rfl rfl rfl rfl rfl (tF13 Ad W s o hr119) ?_
 refine yS Ad W 1 (5, [vR 1], [.ref 1], (H0 s r119)) rfl ?_
 obtain ⟨r160, hr160, h⟩ := be h
 refine callP W (a := 1) (as := []) (rest := []) (w := none) (σ₁ := (H0 s r160)) rfl rfl rfl rfl rfl rfl rfl rfl (tF14 Ad W s r119 hr160) ?_
 refine yS Ad W 1 (9, [vR 1], [.ref 1], (H0 s r160)) rfl ?_
 obtain ⟨r174, hr174, h⟩ := be h
 refine callP W (a := 1) (as := []) (rest := []) (w := none) (σ₁ := (H0 s r174)) rfl rfl rfl rfl rfl rfl rfl rfl (tF16 Ad W s r160 hr174) ?_
 refine yS Ad W 1 (13, [vR 1], [.ref 1], (H0 s r174)) rfl ?_
 obtain ⟨r272, hr272, h⟩ := be h
 refine callP W (a := 1) (as := []) (rest := []) (w := none) (σ₁ := (H0 s r272)) rfl rfl rfl rfl rfl rfl rfl rfl (tF17 Ad W s r174 hr272) ?_
 refine yS Ad W 2 (20, [vR 1], [.int (fxE r272)], (H0 s r272)) rfl ?_
 obtain rfl := sj h
 exact retI rfl rfl
def B11_59 (x1 x2 x3 : Int32) (v : Int32 × Ob) : Option (((Ob)) ⊕ (Int32 × Ob)) :=
  (if x3 < v.1 then (aget (fO v.2) (v.1 - (1 : Int32))).bind fun y283 => (aset (fO v.2) v.1 y283).bind fun y284 => (aget (fP v.2) (v.1 - (1 : Int32))).bind fun y285 => (aset (fP v.2) v.1 (y285.toInt8.toInt32)).bind fun y286 => some (.inr ((v.1 + (-1 : Int32)), (sP (sO v.2 y284) y286))) else some (.inl v.2))
theorem tB11_59 (Ad : QAd n0 ad) (W : QW Z a0) (s : List Int32) (x1 x2 x3 : Int32) (v : Int32 × Ob) {r : ((Ob)) ⊕ (Int32 × Ob)} {u : Option Value} {τ : QHeap} (h : B11_59 x1 x2 x3 v = some r) (hx0 : ∀ x : Ob, r = .inl x → QTri l Z n0 ad 11 (103, [vR 1, vI x1, vI x2, vI x3, nN], [], (H0 s x)) u τ) (hc : ∀ x : Int32 × Ob, r = .inr x → QTri l Z n0 ad 11 (59, [vR 1, vI x1, vI x2, vI x3, vI x.1], [], (H0 s x.2)) u τ) : QTri l Z n0 ad 11 (59, [vR 1, vI x1, vI x2, vI x3, vI v.1], [], (H0 s v.2)) u τ := by
 unfold B11_59 at h
 refine yS Ad W 2 (62, [vR 1, vI x1, vI x2, vI x3, vI v.1], [.int x3, .int v.1], (H0 s v.2)) rfl ?_
 rcases qite h with ⟨c282, h⟩ | ⟨c282, h⟩
 ·refine yF Ad W 103 65 rfl (XT.ii_le_f c282) ?_
  refine yS Ad W 8 (79, [vR 1, vI x1, vI x2, vI x3, vI v.1], [.int (v.1 - (1:Int32)), .ref 2, .int v.1, .ref 2], (H0 s v.2)) rfl ?_
  obtain ⟨y283, hy283, h⟩ := be h
  refine zB Ad W (f := fun y283 => (80, [vR 1, vI x1, vI x2, vI x3, vI v.1], [.int y283, .int v.1, .ref 2], (H0 s v.2))) rfl hy283 ?_
  obtain ⟨y284, hy284, h⟩ := be h
  refine zB Ad W (f := fun y284 => (81, [vR 1, vI x1, vI x2, vI x3, vI v.1], [], (H0x15 s v.2 y284))) rfl hy284 ?_
  refine yS Ad W 8 (95, [vR 1, vI x1, vI x2, vI x3, vI v.1], [.int (v.1 - (1:Int32)), .ref 3, .int v.1, .ref 3], (H0x15 s v.2 y284)) rfl ?_
  obtain ⟨y285, hy285, h⟩ := be h
  refine zB Ad W (f := fun y285 => (96, [vR 1, vI x1, vI x2, vI x3, vI v.1], [.int y285, .int v.1, .ref 3], (H0x15 s v.2 y284))) rfl hy285 ?_
  obtain ⟨y286, hy286, h⟩ := be h
  refine zB Ad W (f := fun y286 => (97, [vR 1, vI x1, vI x2, vI x3, vI v.1], [], (H0x16 s v.2 y284 y286))) rfl hy286 ?_
  refine yS Ad W 2 (59, [vR 1, vI x1, vI x2, vI x3, vI (v.1 + (-1:Int32))], [], (H0x16 s v.2 y284 y286)) rfl ?_
  have E287 : ((H0x16 s v.2 y284 y286) : QHeap) = (H0 s (sP (sO v.2 y284) y286)) := by simp only [fs, H0, H0v, H0x16, sO, sP]
  rw [E287]
  obtain rfl := sj h
  exact zM [tt,tt,tt,tt,tt] (hc ((v.1 + (-1:Int32)), (sP (sO v.2 y284) y286)) rfl)
 ·refine yT Ad W 103 65 rfl (XT.ii_le_t c282) ?_
  obtain rfl := sj h
  exact zM [tt,tt,tt,tt,ff] (hx0 v.2 rfl)
def H0x54 (s : List Int32) (o0 : Ob) (a0_14 a0_15 : List Int32) (a0_36 : Int32) : QHeap := H0v s (fA o0) (fB o0) (fC o0) (fD o0) (fE o0) (fF o0) (fG o0) (fH o0) (fI o0) (fJ o0) (fK o0) (fL o0) (fM o0) (fN o0) a0_14 a0_15 (fQ o0) (fR o0) (fS o0) (fT o0) (fU o0) (fV o0) (fW o0) (fX o0) (fY o0) (fZ o0) (fa o0) (fb o0) (fd o0) (fh o0) (fi o0) (fq o0) (fu o0) (fy o0) (fz o0) (fxA o0) a0_36 (fxC o0) (fxD o0) (fxE o0) (fxF o0) (fxG o0) (fxH o0) (fxI o0) (fxJ o0) (fxK o0) (fxL o0) (fxM o0)
def H0x55 (s : List Int32) (o0 : Ob) (a0_14 a0_15 : List Int32) (a0_36 a0_38 : Int32) : QHeap := H0v s (fA o0) (fB o0) (fC o0) (fD o0) (fE o0) (fF o0) (fG o0) (fH o0) (fI o0) (fJ o0) (fK o0) (fL o0) (fM o0) (fN o0) a0_14 a0_15 (fQ o0) (fR o0) (fS o0) (fT o0) (fU o0) (fV o0) (fW o0) (fX o0) (fY o0) (fZ o0) (fa o0) (fb o0) (fd o0) (fh o0) (fi o0) (fq o0) (fu o0) (fy o0) (fz o0) (fxA o0) a0_36 (fxC o0) a0_38 (fxE o0) (fxF o0) (fxG o0) (fxH o0) (fxI o0) (fxJ o0) (fxK o0) (fxL o0) (fxM o0)
def J11_40 (o : Ob) (x1 x2 x3 : Int32) : Option (Int32 × Ob) :=
  (if (fxB o) < (fz o) then (loopN (B11_59 x1 x2 x3) qN ((fxB o), o)).bind fun e288 => (aset (fO e288) x3 x1).bind fun y290 => (aset (fP e288) x3 ((x2.toInt8.toInt32).toInt8.toInt32)).bind fun y291 => some ((0 : Int32), (sxD (sxB (sP (sO e288 y290) y291) ((fxB e288) + (1 : Int32))) (1 : Int32))) else some ((1 : Int32), o))
theorem tJ11_40 (Ad : QAd n0 ad) (W : QW Z a0) (s : List Int32) (o : Ob) (x1 x2 x3 : Int32) {r : Int32 × Ob} (h : J11_40 o x1 x2 x3 = some r) : QTri l Z n0 ad 11 (40, [vR 1, vI x1, vI x2, vI x3, nN], [], (H0 s o)) (some (Value.int r.1)) (H0 s r.2) := by
 unfold J11_40 at h
 refine yS Ad W 4 (48, [vR 1, vI x1, vI x2, vI x3, nN], [.int (fz o), .int (fxB o)], (H0 s o)) rfl ?_
 rcases qite h with ⟨c281, h⟩ | ⟨c281, h⟩
 ·refine yT Ad W 53 51 rfl (XT.ii_lt_t c281) ?_
  refine yS Ad W 3 (59, [vR 1, vI x1, vI x2, vI x3, vI (fxB o)], [], (H0 s o)) rfl ?_
  obtain ⟨e288, he288, h⟩ := be h
  refine zM [tt,tt,tt,tt,tt] (loopN_tri (B := B11_59 x1 x2 x3) (T := fun lv289 => QTri l Z n0 ad 11 (59, [vR 1, vI x1, vI x2, vI x3, vI lv289.1], [], (H0 s lv289.2)) (some (Value.int r.1)) (H0 s r.2)) (KE := fun e288a => QTri l Z n0 ad 11 (103, [vR 1, vI x1, vI x2, vI x3, nN], [], (H0 s e288a)) (some (Value.int r.1)) (H0 s r.2)) (fun lv289 r hB hE hC => tB11_59 Ad W s x1 x2 x3 lv289 hB (fun x q => hE _ q) (fun x q => hC x q)) qN ((fxB o), o) e288 he288 ?_)
  refine yS Ad W 4 (109, [vR 1, vI x1, vI x2, vI x3, nN], [.int x1, .int x3, .ref 2], (H0 s e288)) rfl ?_
  obtain ⟨y290, hy290, h⟩ := be h
  refine zB Ad W (f := fun y290 => (110, [vR 1, vI x1, vI x2, vI x3, nN], [], (H0x15 s e288 y290))) rfl hy290 ?_
  refine yS Ad W 5 (117, [vR 1, vI x1, vI x2, vI x3, nN], [.int (x2.toInt8.toInt32), .int x3, .ref 3], (H0x15 s e288 y290)) rfl ?_
  obtain ⟨y291, hy291, h⟩ := be h
  refine zB Ad W (f := fun y291 => (118, [vR 1, vI x1, vI x2, vI x3, nN], [], (H0x16 s e288 y290 y291))) rfl hy291 ?_
  refine yS Ad W 6 (128, [vR 1, vI x1, vI x2, vI x3, nN], [], (H0x54 s e288 y290 y291 ((fxB e288) + (1:Int32)))) rfl ?_
  refine yS Ad W 3 (133, [vR 1, vI x1, vI x2, vI x3, nN], [], (H0x55 s e288 y290 y291 ((fxB e288) + (1:Int32)) (1:Int32))) rfl ?_
  refine yS Ad W 1 (134, [vR 1, vI x1, vI x2, vI x3, nN], [.int 0], (H0x55 s e288 y290 y291 ((fxB e288) + (1:Int32)) (1:Int32))) rfl ?_
  have E292 : ((H0x55 s e288 y290 y291 ((fxB e288) + (1:Int32)) (1:Int32)) : QHeap) = (H0 s (sxD (sxB (sP (sO e288 y290) y291) ((fxB e288) + (1:Int32))) (1:Int32))) := by simp only [fs, H0, H0v, H0x55, sO, sP, sxB, sxD]
  rw [E292]
  obtain rfl := sj h
  exact retI rfl rfl
 ·refine yF Ad W 53 51 rfl (XT.ii_lt_f c281) ?_
  refine yS Ad W 1 (52, [vR 1, vI x1, vI x2, vI x3, nN], [.int 1], (H0 s o)) rfl ?_
  obtain rfl := sj h
  exact retI rfl rfl
/-- addCase(II)I -/
def F11 (o : Ob) (x1 x2 : Int32) : Option (Int32 × Ob) :=
 (if x2 < (0:Int32) then some ((3:Int32), o) else (if x2 < (fxA o) then (F10 o x1).bind fun r277 => (if r277 < (fxB o) then (aget (fO o) r277).bind fun y279 => (if y279 = x1 then some ((2:Int32), o) else (J11_40 o x1 x2 r277)) else (J11_40 o x1 x2 r277)) else some ((3:Int32), o)))
theorem tF11 (Ad : QAd n0 ad) (W : QW Z a0) (s : List Int32) (o : Ob) (x1 x2 : Int32) {r : Int32 × Ob} (h : F11 o x1 x2 = some r) : QTri l Z n0 ad 11 (0, qentry [.ref 1, .int x1, .int x2] (pMaxL 11), [], (H0 s o)) (some (Value.int r.1)) (H0 s r.2) := by
 unfold F11 at h
 refine yS Ad W 1 (1, [vR 1, vI x1, vI x2, nN, nN], [.int x2], (H0 s o)) rfl ?_
 rcases qite h with ⟨c275, h⟩ | ⟨c275, h⟩
 ·refine yT Ad W 12 4 rfl (XT.i0_lt_t c275) ?_
  refine yS Ad W 1 (13, [vR 1, vI x1, vI x2, nN, nN], [.int 3], (H0 s o)) rfl ?_
  obtain rfl := sj h
  exact retI rfl rfl
 ·refine yF Ad W 12 4 rfl (XT.i0_lt_f c275) ?_
  refine yS Ad W 3 (9, [vR 1, vI x1, vI x2, nN, nN], [.int (fxA o), .int x2], (H0 s o)) rfl ?_
  rcases qite h with ⟨c276, h⟩ | ⟨c276, h⟩
  ·refine yT Ad W 14 12 rfl (XT.ii_lt_t c276) ?_
   refine yS Ad W 2 (16, [vR 1, vI x1, vI x2, nN, nN], [.int x1, .ref 1], (H0 s o)) rfl ?_
   obtain ⟨r277, hr277, h⟩ := be h
   refine callP W (a := 1) (as := [.int x1]) (rest := []) (w := (some (.int r277))) (σ₁ := (H0 s o)) rfl rfl rfl rfl rfl rfl rfl rfl (tF10 Ad W s o x1 hr277) ?_
   refine yS Ad W 4 (25, [vR 1, vI x1, vI x2, vI r277, nN], [.int (fxB o), .int r277], (H0 s o)) rfl ?_
   rcases qite h with ⟨c278, h⟩ | ⟨c278, h⟩
   ·refine yF Ad W 40 28 rfl (XT.ii_ge_f c278) ?_
    refine yS Ad W 3 (33, [vR 1, vI x1, vI x2, vI r277, nN], [.int r277, .ref 2], (H0 s o)) rfl ?_
    obtain ⟨y279, hy279, h⟩ := be h
    refine zB Ad W (f := fun y279 => (34, [vR 1, vI x1, vI x2, vI r277, nN], [.int y279], (H0 s o))) rfl hy279 ?_
    refine yS Ad W 1 (35, [vR 1, vI x1, vI x2, vI r277, nN], [.int x1, .int y279], (H0 s o)) rfl ?_
    rcases qite h with ⟨c280, h⟩ | ⟨c280, h⟩
    ·refine yF Ad W 40 38 rfl (XT.ii_ne_f c280) ?_
     refine yS Ad W 1 (39, [vR 1, vI x1, vI x2, vI r277, nN], [.int 2], (H0 s o)) rfl ?_
     obtain rfl := sj h
     exact retI rfl rfl
    ·refine yT Ad W 40 38 rfl (XT.ii_ne_t c280) ?_
     exact zM [tt,tt,tt,tt,ff] (tJ11_40 Ad W s o x1 x2 r277 h)
   ·refine yT Ad W 40 28 rfl (XT.ii_ge_t c278) ?_
    exact zM [tt,tt,tt,tt,ff] (tJ11_40 Ad W s o x1 x2 r277 h)
  ·refine yF Ad W 14 12 rfl (XT.ii_lt_f c276) ?_
   refine yS Ad W 1 (13, [vR 1, vI x1, vI x2, nN, nN], [.int 3], (H0 s o)) rfl ?_
   obtain rfl := sj h
   exact retI rfl rfl
def B0_13 (s : List Int32) (v : Int32 × Ob) : Option (((Ob) ⊕ (Int32 × QHeap)) ⊕ (Int32 × Ob)) :=
  (if (v.1 + (2 : Int32)) < (s.length.toInt32) then (aget s v.1).bind fun y10 => (aget s (v.1 + (1 : Int32))).bind fun y11 => (aget s (v.1 + (2 : Int32))).bind fun y12 => (F4 v.2).bind fun r14 => (F5 v.2).bind fun r15 => (F6 v.2).bind fun r18 => (F7 v.2 ((y11 &&& (15 : Int32)) - (8 : Int32))).bind fun r60 => (F8 v.2 ((y11 &&& (15 : Int32)) - (8 : Int32))).bind fun r77 => (if (3 : Int32) < (y10 &&& (7 : Int32)) then (if (y10 &&& (7 : Int32)) = (4 : Int32) then (F36 v.2 ((y11 &&& (15 : Int32)) - (8 : Int32))).bind fun r91 => (J0_158 s r91.2 v.1 ((y11 &&& (15 : Int32)) - (8 : Int32)) r14 r15 r18 r60 r77 r91.1) else (if (y10 &&& (7 : Int32)) = (5 : Int32) then (F35 v.2 ((y12 &&& (2147483647 : Int32)) % (5 : Int32))).bind fun r107 => (J0_158 s r107.2 v.1 ((y11 &&& (15 : Int32)) - (8 : Int32)) r14 r15 r18 r60 r77 r107.1) else (if (y10 &&& (7 : Int32)) = (6 : Int32) then (F12 v.2).bind fun r273 => (J0_158 s r273.2 v.1 ((y11 &&& (15 : Int32)) - (8 : Int32)) r14 r15 r18 r60 r77 (0 : Int32)) else (F3 v.2).bind fun r274 => (J0_158 s r274 v.1 ((y11 &&& (15 : Int32)) - (8 : Int32)) r14 r15 r18 r60 r77 (0 : Int32))))) else (F11 v.2 ((y11 &&& (15 : Int32)) - (8 : Int32)) ((y12 &&& (2147483647 : Int32)) % (5 : Int32))).bind fun r293 => (J0_158 s r293.2 v.1 ((y11 &&& (15 : Int32)) - (8 : Int32)) r14 r15 r18 r60 r77 r293.1)) else some (.inl (Sum.inl v.2)))
theorem tB0_13 (Ad : QAd n0 ad) (W : QW Z a0) (s : List Int32) (v : Int32 × Ob) {r : ((Ob) ⊕ (Int32 × QHeap)) ⊕ (Int32 × Ob)} {u : Option Value} {τ : QHeap} (h : B0_13 s v = some r) (hx0 : ∀ x : Ob, r = .inl (Sum.inl x) → QTri l Z n0 ad 0 (222, [vR 0, vR 1, nN, nN, nN, nN, nN, nN, nN, nN, nN, nN, nN, nN, nN, nN, nN, nN, nN, nN, nN, nN, nN], [], (H0 s x)) u τ) (hx1 : ∀ x : Int32 × QHeap, r = .inl (Sum.inr x) → u = (some (Value.int x.1)) ∧ τ = x.2) (hc : ∀ x : Int32 × Ob, r = .inr x → QTri l Z n0 ad 0 (13, [vR 0, vR 1, vI x.1, nN, nN, nN, nN, nN, nN, nN, nN, nN, nN, nN, nN, nN, nN, nN, nN, nN, nN, nN, nN], [], (H0 s x.2)) u τ) : QTri l Z n0 ad 0 (13, [vR 0, vR 1, vI v.1, nN, nN, nN, nN, nN, nN, nN, nN, nN, nN, nN, nN, nN, nN, nN, nN, nN, nN, nN, nN], [], (H0 s v.2)) u τ := by
 unfold B0_13 at h
 refine yS Ad W 5 (18, [vR 0, vR 1, vI v.1, nN, nN, nN, nN, nN, nN, nN, nN, nN, nN, nN, nN, nN, nN, nN, nN, nN, nN, nN, nN], [.int (s.length.toInt32), .int (v.1 + (2:Int32))], (H0 s v.2)) rfl ?_
 rcases qite h with ⟨c9, h⟩ | ⟨c9, h⟩
 ·refine yF Ad W 222 21 rfl (XT.ii_ge_f c9) ?_
  refine yS Ad W 2 (23, [vR 0, vR 1, vI v.1, nN, nN, nN, nN, nN, nN, nN, nN, nN, nN, nN, nN, nN, nN, nN, nN, nN, nN, nN, nN], [.int v.1, .ref 0], (H0 s v.2)) rfl ?_
  obtain ⟨y10, hy10, h⟩ := be h
  refine zB Ad W (f := fun y10 => (24, [vR 0, vR 1, vI v.1, nN, nN, nN, nN, nN, nN, nN, nN, nN, nN, nN, nN, nN, nN, nN, nN, nN, nN, nN, nN], [.int y10], (H0 s v.2))) rfl hy10 ?_
  refine yS Ad W 7 (32, [vR 0, vR 1, vI v.1, vI (y10 &&& (7:Int32)), nN, nN, nN, nN, nN, nN, nN, nN, nN, nN, nN, nN, nN, nN, nN, nN, nN, nN, nN], [.int (v.1 + (1:Int32)), .ref 0], (H0 s v.2)) rfl ?_
  obtain ⟨y11, hy11, h⟩ := be h
  refine zB Ad W (f := fun y11 => (33, [vR 0, vR 1, vI v.1, vI (y10 &&& (7:Int32)), nN, nN, nN, nN, nN, nN, nN, nN, nN, nN, nN, nN, nN, nN, nN, nN, nN, nN, nN], [.int y11], (H0 s v.2))) rfl hy11 ?_
  refine yS Ad W 9 (45, [vR 0, vR 1, vI v.1, vI (y10 &&& (7:Int32)), vI ((y11 &&& (15:Int32)) - (8:Int32)), nN, nN, nN, nN, nN, nN, nN, nN, nN, nN, nN, nN, nN, nN, nN, nN, nN, nN], [.int (v.1 + (2:Int32)), .ref 0], (H0 s v.2)) rfl ?_
  obtain ⟨y12, hy12, h⟩ := be h
  refine zB Ad W (f := fun y12 => (46, [vR 0, vR 1, vI v.1, vI (y10 &&& (7:Int32)), vI ((y11 &&& (15:Int32)) - (8:Int32)), nN, nN, nN, nN, nN, nN, nN, nN, nN, nN, nN, nN, nN, nN, nN, nN, nN, nN], [.int y12], (H0 s v.2))) rfl hy12 ?_
  refine yS Ad W 6 (54, [vR 0, vR 1, vI v.1, vI (y10 &&& (7:Int32)), vI ((y11 &&& (15:Int32)) - (8:Int32)), vI ((y12 &&& (2147483647:Int32)) % (5:Int32)), nN, nN, nN, nN, nN, nN, nN, nN, nN, nN, nN, nN, nN, nN, nN, nN, nN], [.ref 1], (H0 s v.2)) rfl ?_
  obtain ⟨r14, hr14, h⟩ := be h
  refine callV W (a := 1) (as := []) (rest := []) (w := (some (.int r14))) (σ₁ := (H0 s v.2)) rfl rfl rfl rfl rfl rfl rfl rfl (tF4 Ad W s v.2 hr14) ?_
  refine yS Ad W 2 (60, [vR 0, vR 1, vI v.1, vI (y10 &&& (7:Int32)), vI ((y11 &&& (15:Int32)) - (8:Int32)), vI ((y12 &&& (2147483647:Int32)) % (5:Int32)), vI r14, nN, nN, nN, nN, nN, nN, nN, nN, nN, nN, nN, nN, nN, nN, nN, nN], [.ref 1], (H0 s v.2)) rfl ?_
  obtain ⟨r15, hr15, h⟩ := be h
  refine callV W (a := 1) (as := []) (rest := []) (w := (some (.int r15))) (σ₁ := (H0 s v.2)) rfl rfl rfl rfl rfl rfl rfl rfl (tF5 Ad W s v.2 hr15) ?_
  refine yS Ad W 2 (66, [vR 0, vR 1, vI v.1, vI (y10 &&& (7:Int32)), vI ((y11 &&& (15:Int32)) - (8:Int32)), vI ((y12 &&& (2147483647:Int32)) % (5:Int32)), vI r14, vI r15, nN, nN, nN, nN, nN, nN, nN, nN, nN, nN, nN, nN, nN, nN, nN], [.ref 1], (H0 s v.2)) rfl ?_
  obtain ⟨r18, hr18, h⟩ := be h
  refine callV W (a := 1) (as := []) (rest := []) (w := (some (.int r18))) (σ₁ := (H0 s v.2)) rfl rfl rfl rfl rfl rfl rfl rfl (tF6 Ad W s v.2 hr18) ?_
  refine yS Ad W 3 (74, [vR 0, vR 1, vI v.1, vI (y10 &&& (7:Int32)), vI ((y11 &&& (15:Int32)) - (8:Int32)), vI ((y12 &&& (2147483647:Int32)) % (5:Int32)), vI r14, vI r15, vI r18, nN, nN, nN, nN, nN, nN, nN, nN, nN, nN, nN, nN, nN, nN], [.int ((y11 &&& (15:Int32)) - (8:Int32)), .ref 1], (H0 s v.2)) rfl ?_
  obtain ⟨r60, hr60, h⟩ := be h
  refine callV W (a := 1) (as := [.int ((y11 &&& (15:Int32)) - (8:Int32))]) (rest := []) (w := (some (.int r60))) (σ₁ := (H0 s v.2)) rfl rfl rfl rfl rfl rfl rfl rfl (tF7 Ad W s v.2 ((y11 &&& (15:Int32)) - (8:Int32)) hr60) ?_
  refine yS Ad W 3 (82, [vR 0, vR 1, vI v.1, vI (y10 &&& (7:Int32)), vI ((y11 &&& (15:Int32)) - (8:Int32)), vI ((y12 &&& (2147483647:Int32)) % (5:Int32)), vI r14, vI r15, vI r18, vI r60, nN, nN, nN, nN, nN, nN, nN, nN, nN, nN, nN, nN, nN], [.int ((y11 &&& (15:Int32)) - (8:Int32)), .ref 1], (H0 s v.2)) rfl ?_
  obtain ⟨r77, hr77, h⟩ := be h
  refine callV W (a := 1) (as := [.int ((y11 &&& (15:Int32)) - (8:Int32))]) (rest := []) (w := (some (.int r77))) (σ₁ := (H0 s v.2)) rfl rfl rfl rfl rfl rfl rfl rfl (tF8 Ad W s v.2 ((y11 &&& (15:Int32)) - (8:Int32)) hr77) ?_
  refine yS Ad W 3 (90, [vR 0, vR 1, vI v.1, vI (y10 &&& (7:Int32)), vI ((y11 &&& (15:Int32)) - (8:Int32)), vI ((y12 &&& (2147483647:Int32)) % (5:Int32)), vI r14, vI r15, vI r18, vI r60, vI r77, vI 0, nN, nN, nN, nN, nN, nN, nN, nN, nN, nN, nN], [], (H0 s v.2)) rfl ?_
  refine yS Ad W 2 (92, [vR 0, vR 1, vI v.1, vI (y10 &&& (7:Int32)), vI ((y11 &&& (15:Int32)) - (8:Int32)), vI ((y12 &&& (2147483647:Int32)) % (5:Int32)), vI r14, vI r15, vI r18, vI r60, vI r77, vI 0, nN, nN, nN, nN, nN, nN, nN, nN, nN, nN, nN], [.int 3, .int (y10 &&& (7:Int32))], (H0 s v.2)) rfl ?_
  rcases qite h with ⟨c78, h⟩ | ⟨c78, h⟩
  ·refine yT Ad W 108 95 rfl (XT.ii_gt_t c78) ?_
   refine yS Ad W 2 (110, [vR 0, vR 1, vI v.1, vI (y10 &&& (7:Int32)), vI ((y11 &&& (15:Int32)) - (8:Int32)), vI ((y12 &&& (2147483647:Int32)) % (5:Int32)), vI r14, vI r15, vI r18, vI r60, vI r77, vI 0, nN, nN, nN, nN, nN, nN, nN, nN, nN, nN, nN], [.int 4, .int (y10 &&& (7:Int32))], (H0 s v.2)) rfl ?_
   rcases qite h with ⟨c79, h⟩ | ⟨c79, h⟩
   ·refine yF Ad W 124 113 rfl (XT.ii_ne_f c79) ?_
    refine yS Ad W 2 (116, [vR 0, vR 1, vI v.1, vI (y10 &&& (7:Int32)), vI ((y11 &&& (15:Int32)) - (8:Int32)), vI ((y12 &&& (2147483647:Int32)) % (5:Int32)), vI r14, vI r15, vI r18, vI r60, vI r77, vI 0, nN, nN, nN, nN, nN, nN, nN, nN, nN, nN, nN], [.int ((y11 &&& (15:Int32)) - (8:Int32)), .ref 1], (H0 s v.2)) rfl ?_
    obtain ⟨r91, hr91, h⟩ := be h
    refine callV W (a := 1) (as := [.int ((y11 &&& (15:Int32)) - (8:Int32))]) (rest := []) (w := (some (.int r91.1))) (σ₁ := (H0 s r91.2)) rfl rfl rfl rfl rfl rfl rfl rfl (tF36 Ad W s v.2 ((y11 &&& (15:Int32)) - (8:Int32)) hr91) ?_
    refine yS Ad W 2 (158, [vR 0, vR 1, vI v.1, vI (y10 &&& (7:Int32)), vI ((y11 &&& (15:Int32)) - (8:Int32)), vI ((y12 &&& (2147483647:Int32)) % (5:Int32)), vI r14, vI r15, vI r18, vI r60, vI r77, vI r91.1, nN, nN, nN, nN, nN, nN, nN, nN, nN, nN, nN], [], (H0 s r91.2)) rfl ?_
    exact zM [tt,tt,tt,ff,tt,ff,tt,tt,tt,tt,tt,tt,ff,ff,ff,ff,ff,ff,ff,ff,ff,ff,ff] (tJ0_158 Ad W s r91.2 v.1 ((y11 &&& (15:Int32)) - (8:Int32)) r14 r15 r18 r60 r77 r91.1 h hx0 hx1 hc)
   ·refine yT Ad W 124 113 rfl (XT.ii_ne_t c79) ?_
    refine yS Ad W 2 (126, [vR 0, vR 1, vI v.1, vI (y10 &&& (7:Int32)), vI ((y11 &&& (15:Int32)) - (8:Int32)), vI ((y12 &&& (2147483647:Int32)) % (5:Int32)), vI r14, vI r15, vI r18, vI r60, vI r77, vI 0, nN, nN, nN, nN, nN, nN, nN, nN, nN, nN, nN], [.int 5, .int (y10 &&& (7:Int32))], (H0 s v.2)) rfl ?_
    rcases qite h with ⟨c103, h⟩ | ⟨c103, h⟩
    ·refine yF Ad W 140 129 rfl (XT.ii_ne_f c103) ?_
     refine yS Ad W 2 (132, [vR 0, vR 1, vI v.1, vI (y10 &&& (7:Int32)), vI ((y11 &&& (15:Int32)) - (8:Int32)), vI ((y12 &&& (2147483647:Int32)) % (5:Int32)), vI r14, vI r15, vI r18, vI r60, vI r77, vI 0, nN, nN, nN, nN, nN, nN, nN, nN, nN, nN, nN], [.int ((y12 &&& (2147483647:Int32)) % (5:Int32)), .ref 1], (H0 s v.2)) rfl ?_
     obtain ⟨r107, hr107, h⟩ := be h
     refine callV W (a := 1) (as := [.int ((y12 &&& (2147483647:Int32)) % (5:Int32))]) (rest := []) (w := (some (.int r107.1))) (σ₁ := (H0 s r107.2)) rfl rfl rfl rfl rfl rfl rfl rfl (tF35 Ad W s v.2 ((y12 &&& (2147483647:Int32)) % (5:Int32)) hr107) ?_
     refine yS Ad W 2 (158, [vR 0, vR 1, vI v.1, vI (y10 &&& (7:Int32)), vI ((y11 &&& (15:Int32)) - (8:Int32)), vI ((y12 &&& (2147483647:Int32)) % (5:Int32)), vI r14, vI r15, vI r18, vI r60, vI r77, vI r107.1, nN, nN, nN, nN, nN, nN, nN, nN, nN, nN, nN], [], (H0 s r107.2)) rfl ?_
     exact zM [tt,tt,tt,ff,tt,ff,tt,tt,tt,tt,tt,tt,ff,ff,ff,ff,ff,ff,ff,ff,ff,ff,ff] (tJ0_158 Ad W s r107.2 v.1 ((y11 &&& (15:Int32)) - (8:Int32)) r14 r15 r18 r60 r77 r107.1 h hx0 hx1 hc)
    ·refine yT Ad W 140 129 rfl (XT.ii_ne_t c103) ?_
     refine yS Ad W 2 (143, [vR 0, vR 1, vI v.1, vI (y10 &&& (7:Int32)), vI ((y11 &&& (15:Int32)) - (8:Int32)), vI ((y12 &&& (2147483647:Int32)) % (5:Int32)), vI r14, vI r15, vI r18, vI r60, vI r77, vI 0, nN, nN, nN, nN, nN, nN, nN, nN, nN, nN, nN], [.int 6, .int (y10 &&& (7:Int32))], (H0 s v.2)) rfl ?_
     rcases qite h with ⟨c108, h⟩ | ⟨c108, h⟩
     ·refine yF Ad W 154 146 rfl (XT.ii_ne_f c108) ?_
      refine yS Ad W 1 (147, [vR 0, vR 1, vI v.1, vI (y10 &&& (7:Int32)), vI ((y11 &&& (15:Int32)) - (8:Int32)), vI ((y12 &&& (2147483647:Int32)) % (5:Int32)), vI r14, vI r15, vI r18, vI r60, vI r77, vI 0, nN, nN, nN, nN, nN, nN, nN, nN, nN, nN, nN], [.ref 1], (H0 s v.2)) rfl ?_
      obtain ⟨r273, hr273, h⟩ := be h
      refine callV W (a := 1) (as := []) (rest := []) (w := (some (.int r273.1))) (σ₁ := (H0 s r273.2)) rfl rfl rfl rfl rfl rfl rfl rfl (tF12 Ad W s v.2 hr273) ?_
      refine yS Ad W 2 (158, [vR 0, vR 1, vI v.1, vI (y10 &&& (7:Int32)), vI ((y11 &&& (15:Int32)) - (8:Int32)), vI ((y12 &&& (2147483647:Int32)) % (5:Int32)), vI r14, vI r15, vI r18, vI r60, vI r77, vI 0, nN, nN, nN, nN, nN, nN, nN, nN, nN, nN, nN], [], (H0 s r273.2)) rfl ?_
      exact zM [tt,tt,tt,ff,tt,ff,tt,tt,tt,tt,tt,tt,ff,ff,ff,ff,ff,ff,ff,ff,ff,ff,ff] (tJ0_158 Ad W s r273.2 v.1 ((y11 &&& (15:Int32)) - (8:Int32)) r14 r15 r18 r60 r77 (0:Int32) h hx0 hx1 hc)
     ·refine yT Ad W 154 146 rfl (XT.ii_ne_t c108) ?_
      refine yS Ad W 1 (155, [vR 0, vR 1, vI v.1, vI (y10 &&& (7:Int32)), vI ((y11 &&& (15:Int32)) - (8:Int32)), vI ((y12 &&& (2147483647:Int32)) % (5:Int32)), vI r14, vI r15, vI r18, vI r60, vI r77, vI 0, nN, nN, nN, nN, nN, nN, nN, nN, nN, nN, nN], [.ref 1], (H0 s v.2)) rfl ?_
      obtain ⟨r274, hr274, h⟩ := be h
      refine callV W (a := 1) (as := []) (rest := []) (w := none) (σ₁ := (H0 s r274)) rfl rfl rfl rfl rfl rfl rfl rfl (tF3 Ad W s v.2 hr274) ?_
      exact zM [tt,tt,tt,ff,tt,ff,tt,tt,tt,tt,tt,tt,ff,ff,ff,ff,ff,ff,ff,ff,ff,ff,ff] (tJ0_158 Ad W s r274 v.1 ((y11 &&& (15:Int32)) - (8:Int32)) r14 r15 r18 r60 r77 (0:Int32) h hx0 hx1 hc)
  ·refine yF Ad W 108 95 rfl (XT.ii_gt_f c78) ?_
   refine yS Ad W 3 (100, [vR 0, vR 1, vI v.1, vI (y10 &&& (7:Int32)), vI ((y11 &&& (15:Int32)) - (8:Int32)), vI ((y12 &&& (2147483647:Int32)) % (5:Int32)), vI r14, vI r15, vI r18, vI r60, vI r77, vI 0, nN, nN, nN, nN, nN, nN, nN, nN, nN, nN, nN], [.int ((y12 &&& (2147483647:Int32)) % (5:Int32)), .int ((y11 &&& (15:Int32)) - (8:Int32)), .ref 1], (H0 s v.2)) rfl ?_
   obtain ⟨r293, hr293, h⟩ := be h
   refine callV W (a := 1) (as := [.int ((y11 &&& (15:Int32)) - (8:Int32)), .int ((y12 &&& (2147483647:Int32)) % (5:Int32))]) (rest := []) (w := (some (.int r293.1))) (σ₁ := (H0 s r293.2)) rfl rfl rfl rfl rfl rfl rfl rfl (tF11 Ad W s v.2 ((y11 &&& (15:Int32)) - (8:Int32)) ((y12 &&& (2147483647:Int32)) % (5:Int32)) hr293) ?_
   refine yS Ad W 2 (158, [vR 0, vR 1, vI v.1, vI (y10 &&& (7:Int32)), vI ((y11 &&& (15:Int32)) - (8:Int32)), vI ((y12 &&& (2147483647:Int32)) % (5:Int32)), vI r14, vI r15, vI r18, vI r60, vI r77, vI r293.1, nN, nN, nN, nN, nN, nN, nN, nN, nN, nN, nN], [], (H0 s r293.2)) rfl ?_
   exact zM [tt,tt,tt,ff,tt,ff,tt,tt,tt,tt,tt,tt,ff,ff,ff,ff,ff,ff,ff,ff,ff,ff,ff] (tJ0_158 Ad W s r293.2 v.1 ((y11 &&& (15:Int32)) - (8:Int32)) r14 r15 r18 r60 r77 r293.1 h hx0 hx1 hc)
 ·refine yT Ad W 222 21 rfl (XT.ii_ge_t c9) ?_
  obtain rfl := sj h
  exact zM [tt,tt,ff,ff,ff,ff,ff,ff,ff,ff,ff,ff,ff,ff,ff,ff,ff,ff,ff,ff,ff,ff,ff] (hx0 v.2 rfl)
def B27_10 (o : Ob) (x1 : Int32) (v : Int32 × Int32 × Int32) : Option (((Int32)) ⊕ (Int32 × Int32 × Int32)) :=
  (if v.2.2 < (16 : Int32) then (if v.1 < v.2.1 then (aget (fQ o) (XT.ushr (v.1 + v.2.1) (1 : Int32))).bind fun y309 => some (.inr ((if y309 < x1 then ((XT.ushr (v.1 + v.2.1) (1 : Int32)) + (1 : Int32)) else v.1), (if y309 < x1 then v.2.1 else (XT.ushr (v.1 + v.2.1) (1 : Int32))), (v.2.2 + (1 : Int32)))) else some (.inl v.1)) else some (.inl v.1))
theorem tB27_10 (Ad : QAd n0 ad) (W : QW Z a0) (s : List Int32) (o : Ob) (x1 : Int32) (v : Int32 × Int32 × Int32) {r : ((Int32)) ⊕ (Int32 × Int32 × Int32)} {u : Option Value} {τ : QHeap} (h : B27_10 o x1 v = some r) (hx0 : ∀ x : Int32, r = .inl x → u = (some (Value.int x)) ∧ τ = (H0 s o)) (hc : ∀ x : Int32 × Int32 × Int32, r = .inr x → QTri l Z n0 ad 27 (10, [vR 1, vI x1, vI x.1, vI x.2.1, vI x.2.2, nN], [], (H0 s o)) u τ) : QTri l Z n0 ad 27 (10, [vR 1, vI x1, vI v.1, vI v.2.1, vI v.2.2, nN], [], (H0 s o)) u τ := by
 unfold B27_10 at h
 refine yS Ad W 2 (14, [vR 1, vI x1, vI v.1, vI v.2.1, vI v.2.2, nN], [.int 16, .int v.2.2], (H0 s o)) rfl ?_
 rcases qite h with ⟨c307, h⟩ | ⟨c307, h⟩
 ·refine yF Ad W 57 17 rfl (XT.ii_ge_f c307) ?_
  refine yS Ad W 2 (19, [vR 1, vI x1, vI v.1, vI v.2.1, vI v.2.2, nN], [.int v.2.1, .int v.1], (H0 s o)) rfl ?_
  rcases qite h with ⟨c308, h⟩ | ⟨c308, h⟩
  ·refine yF Ad W 57 22 rfl (XT.ii_ge_f c308) ?_
   refine yS Ad W 9 (35, [vR 1, vI x1, vI v.1, vI v.2.1, vI v.2.2, vI (XT.ushr (v.1 + v.2.1) (1:Int32))], [.int (XT.ushr (v.1 + v.2.1) (1:Int32)), .ref 4], (H0 s o)) rfl ?_
   obtain ⟨y309, hy309, h⟩ := be h
   refine zB Ad W (f := fun y309 => (36, [vR 1, vI x1, vI v.1, vI v.2.1, vI v.2.2, vI (XT.ushr (v.1 + v.2.1) (1:Int32))], [.int y309], (H0 s o))) rfl hy309 ?_
   refine yS Ad W 1 (37, [vR 1, vI x1, vI v.1, vI v.2.1, vI v.2.2, vI (XT.ushr (v.1 + v.2.1) (1:Int32))], [.int x1, .int y309], (H0 s o)) rfl ?_
   have K312 : ∀ z310 : Int32, z310 = (if y309 < x1 then ((XT.ushr (v.1 + v.2.1) (1:Int32)) + (1:Int32)) else v.1) → ∀ z311 : Int32, z311 = (if y309 < x1 then v.2.1 else (XT.ushr (v.1 + v.2.1) (1:Int32))) → QTri l Z n0 ad 27 (51, [vR 1, vI x1, vI z310, vI z311, vI v.2.2, nN], [], (H0 s o)) u τ := by
    intro z310 ez310
    intro z311 ez311
    subst ez310
    subst ez311
    refine yS Ad W 2 (10, [vR 1, vI x1, vI (if y309 < x1 then ((XT.ushr (v.1 + v.2.1) (1:Int32)) + (1:Int32)) else v.1), vI (if y309 < x1 then v.2.1 else (XT.ushr (v.1 + v.2.1) (1:Int32))), vI (v.2.2 + (1:Int32)), nN], [], (H0 s o)) rfl ?_
    obtain rfl := sj h
    exact zM [tt,tt,tt,tt,tt,ff] (hc ((if y309 < x1 then ((XT.ushr (v.1 + v.2.1) (1:Int32)) + (1:Int32)) else v.1), (if y309 < x1 then v.2.1 else (XT.ushr (v.1 + v.2.1) (1:Int32))), (v.2.2 + (1:Int32))) rfl)
   rcases em (y309 < x1) with c313 | c313
   ·refine yF Ad W 48 40 rfl (XT.ii_ge_f c313) ?_
    refine yS Ad W 5 (51, [vR 1, vI x1, vI ((XT.ushr (v.1 + v.2.1) (1:Int32)) + (1:Int32)), vI v.2.1, vI v.2.2, vI (XT.ushr (v.1 + v.2.1) (1:Int32))], [], (H0 s o)) rfl ?_
    exact zM [tt,tt,tt,tt,tt,ff] (K312 _ (if_pos c313).symm _ (if_pos c313).symm)
   ·refine yT Ad W 48 40 rfl (XT.ii_ge_t c313) ?_
    refine yS Ad W 2 (51, [vR 1, vI x1, vI v.1, vI (XT.ushr (v.1 + v.2.1) (1:Int32)), vI v.2.2, vI (XT.ushr (v.1 + v.2.1) (1:Int32))], [], (H0 s o)) rfl ?_
    exact zM [tt,tt,tt,tt,tt,ff] (K312 _ (if_neg c313).symm _ (if_neg c313).symm)
  ·refine yT Ad W 57 22 rfl (XT.ii_ge_t c308) ?_
   refine yS Ad W 1 (58, [vR 1, vI x1, vI v.1, vI v.2.1, vI v.2.2, nN], [.int v.1], (H0 s o)) rfl ?_
   obtain rfl := sj h
   obtain ⟨rfl, rfl⟩ := hx0 v.1 rfl
   exact retI rfl rfl
 ·refine yT Ad W 57 17 rfl (XT.ii_ge_t c307) ?_
  refine yS Ad W 1 (58, [vR 1, vI x1, vI v.1, vI v.2.1, vI v.2.2, nN], [.int v.1], (H0 s o)) rfl ?_
  obtain rfl := sj h
  obtain ⟨rfl, rfl⟩ := hx0 v.1 rfl
  exact retI rfl rfl
/-- snapLowerBound(I)I -/
def F27 (o : Ob) (x1 : Int32) : Option (Int32) :=
 (loopN (B27_10 o x1) qN ((0:Int32), (fxE o), (0:Int32))).bind fun e314 => some e314
theorem tF27 (Ad : QAd n0 ad) (W : QW Z a0) (s : List Int32) (o : Ob) (x1 : Int32) {r : Int32} (h : F27 o x1 = some r) : QTri l Z n0 ad 27 (0, qentry [.ref 1, .int x1] (pMaxL 27), [], (H0 s o)) (some (Value.int r)) (H0 s o) := by
 unfold F27 at h
 refine yS Ad W 5 (7, [vR 1, vI x1, vI 0, vI (fxE o), nN, nN], [], (H0 s o)) rfl ?_
 refine yS Ad W 2 (10, [vR 1, vI x1, vI 0, vI (fxE o), vI 0, nN], [], (H0 s o)) rfl ?_
 obtain ⟨e314, he314, h⟩ := be h
 refine zM [tt,tt,tt,tt,tt,ff] (loopN_tri (B := B27_10 o x1) (T := fun lv315 => QTri l Z n0 ad 27 (10, [vR 1, vI x1, vI lv315.1, vI lv315.2.1, vI lv315.2.2, nN], [], (H0 s o)) (some (Value.int r)) (H0 s o)) (KE := fun e314a => (some (Value.int r)) = (some (Value.int e314a)) ∧ (H0 s o) = (H0 s o)) (fun lv315 r hB hE hC => tB27_10 Ad W s o x1 lv315 hB (fun x q => hE _ q) (fun x q => hC x q)) qN ((0:Int32), (fxE o), (0:Int32)) e314 he314 ?_)
 obtain rfl := sj h
 exact ⟨rfl, rfl⟩
def B26_14 (o : Ob) (x2 x3 x4 : Int32) (v : Int64 × Int32) : Option (((Int64)) ⊕ (Int64 × Int32)) :=
  (if v.2 < (fxE o) then (aget (fQ o) v.2).bind fun y318 => (if x2 < y318 then some (.inl v.1) else (F28 o y318).bind fun r320 => some (.inr ((if (if r320 = x3 then (1 : Int32) else (0 : Int32)) = x4 then v.1 else (v.1 + (1 : Int64))), (v.2 + (1 : Int32))))) else some (.inl v.1))
theorem tB26_14 (Ad : QAd n0 ad) (W : QW Z a0) (s : List Int32) (o : Ob) (x2 x3 x4 : Int32) (v : Int64 × Int32) {r : ((Int64)) ⊕ (Int64 × Int32)} {u : Option Value} {τ : QHeap} (h : B26_14 o x2 x3 x4 v = some r) (hx0 : ∀ x : Int64, r = .inl x → u = (some (Value.long x)) ∧ τ = (H0 s o)) (hc : ∀ x : Int64 × Int32, r = .inr x → QTri l Z n0 ad 26 (14, [vR 1, nN, vI x2, vI x3, vI x4, vL x.1, nN, nN, vI x.2, nN, nN], [], (H0 s o)) u τ) : QTri l Z n0 ad 26 (14, [vR 1, nN, vI x2, vI x3, vI x4, vL v.1, nN, nN, vI v.2, nN, nN], [], (H0 s o)) u τ := by
 unfold B26_14 at h
 refine yS Ad W 3 (20, [vR 1, nN, vI x2, vI x3, vI x4, vL v.1, nN, nN, vI v.2, nN, nN], [.int (fxE o), .int v.2], (H0 s o)) rfl ?_
 rcases qite h with ⟨c317, h⟩ | ⟨c317, h⟩
 ·refine yF Ad W 77 23 rfl (XT.ii_ge_f c317) ?_
  refine yS Ad W 3 (29, [vR 1, nN, vI x2, vI x3, vI x4, vL v.1, nN, nN, vI v.2, nN, nN], [.int v.2, .ref 4], (H0 s o)) rfl ?_
  obtain ⟨y318, hy318, h⟩ := be h
  refine zB Ad W (f := fun y318 => (30, [vR 1, nN, vI x2, vI x3, vI x4, vL v.1, nN, nN, vI v.2, nN, nN], [.int y318], (H0 s o))) rfl hy318 ?_
  refine yS Ad W 3 (35, [vR 1, nN, vI x2, vI x3, vI x4, vL v.1, nN, nN, vI v.2, vI y318, nN], [.int x2, .int y318], (H0 s o)) rfl ?_
  rcases qite h with ⟨c319, h⟩ | ⟨c319, h⟩
  ·refine yF Ad W 41 38 rfl (XT.ii_le_f c319) ?_
   refine yS Ad W 2 (79, [vR 1, nN, vI x2, vI x3, vI x4, vL v.1, nN, nN, vI v.2, vI y318, nN], [.long v.1], (H0 s o)) rfl ?_
   obtain rfl := sj h
   obtain ⟨rfl, rfl⟩ := hx0 v.1 rfl
   exact retJ rfl rfl
  ·refine yT Ad W 41 38 rfl (XT.ii_le_t c319) ?_
   refine yS Ad W 2 (44, [vR 1, nN, vI x2, vI x3, vI x4, vL v.1, nN, nN, vI v.2, vI y318, nN], [.int y318, .ref 1], (H0 s o)) rfl ?_
   obtain ⟨r320, hr320, h⟩ := be h
   refine callP W (a := 1) (as := [.int y318]) (rest := []) (w := (some (.int r320))) (σ₁ := (H0 s o)) rfl rfl rfl rfl rfl rfl rfl rfl (tF28 Ad W s o y318 hr320) ?_
   refine yS Ad W 1 (48, [vR 1, nN, vI x2, vI x3, vI x4, vL v.1, nN, nN, vI v.2, vI y318, nN], [.int x3, .int r320], (H0 s o)) rfl ?_
   have K322 : ∀ z321 : Int32, z321 = (if r320 = x3 then (1:Int32) else (0:Int32)) → QTri l Z n0 ad 26 (56, [vR 1, nN, vI x2, vI x3, vI x4, vL v.1, nN, nN, vI v.2, nN, nN], [.int z321], (H0 s o)) u τ := by
    intro z321 ez321
    subst ez321
    refine yS Ad W 3 (62, [vR 1, nN, vI x2, vI x3, vI x4, vL v.1, nN, nN, vI v.2, nN, vI (if r320 = x3 then (1:Int32) else (0:Int32))], [.int x4, .int (if r320 = x3 then (1:Int32) else (0:Int32))], (H0 s o)) rfl ?_
    have K325 : ∀ z324 : Int64, z324 = (if (if r320 = x3 then (1:Int32) else (0:Int32)) = x4 then v.1 else (v.1 + (1 : Int64))) → QTri l Z n0 ad 26 (71, [vR 1, nN, vI x2, vI x3, vI x4, vL z324, nN, nN, vI v.2, nN, nN], [], (H0 s o)) u τ := by
     intro z324 ez324
     subst ez324
     refine yS Ad W 2 (14, [vR 1, nN, vI x2, vI x3, vI x4, vL (if (if r320 = x3 then (1:Int32) else (0:Int32)) = x4 then v.1 else (v.1 + (1 : Int64))), nN, nN, vI (v.2 + (1:Int32)), nN, nN], [], (H0 s o)) rfl ?_
     obtain rfl := sj h
     exact zM [tt,ff,tt,tt,tt,tt,ff,ff,tt,ff,ff] (hc ((if (if r320 = x3 then (1:Int32) else (0:Int32)) = x4 then v.1 else (v.1 + (1 : Int64))), (v.2 + (1:Int32))) rfl)
    rcases em ((if r320 = x3 then (1:Int32) else (0:Int32)) = x4) with c326 | c326
    ·refine yT Ad W 71 65 rfl (XT.ii_eq_t c326) ?_
     exact zM [tt,ff,tt,tt,tt,tt,ff,ff,tt,ff,ff] (K325 _ (if_pos c326).symm)
    ·refine yF Ad W 71 65 rfl (XT.ii_eq_f c326) ?_
     refine yS Ad W 4 (71, [vR 1, nN, vI x2, vI x3, vI x4, vL (v.1 + (1 : Int64)), nN, nN, vI v.2, nN, vI (if r320 = x3 then (1:Int32) else (0:Int32))], [], (H0 s o)) rfl ?_
     exact zM [tt,ff,tt,tt,tt,tt,ff,ff,tt,ff,ff] (K325 _ (if_neg c326).symm)
   rcases em (r320 = x3) with c323 | c323
   ·refine yF Ad W 55 51 rfl (XT.ii_ne_f c323) ?_
    refine yS Ad W 2 (56, [vR 1, nN, vI x2, vI x3, vI x4, vL v.1, nN, nN, vI v.2, vI y318, nN], [.int 1], (H0 s o)) rfl ?_
    exact zM [tt,ff,tt,tt,tt,tt,ff,ff,tt,ff,ff] (K322 _ (if_pos c323).symm)
   ·refine yT Ad W 55 51 rfl (XT.ii_ne_t c323) ?_
    refine yS Ad W 1 (56, [vR 1, nN, vI x2, vI x3, vI x4, vL v.1, nN, nN, vI v.2, vI y318, nN], [.int 0], (H0 s o)) rfl ?_
    exact zM [tt,ff,tt,tt,tt,tt,ff,ff,tt,ff,ff] (K322 _ (if_neg c323).symm)
 ·refine yT Ad W 77 23 rfl (XT.ii_ge_t c317) ?_
  refine yS Ad W 1 (79, [vR 1, nN, vI x2, vI x3, vI x4, vL v.1, nN, nN, vI v.2, nN, nN], [.long v.1], (H0 s o)) rfl ?_
  obtain rfl := sj h
  obtain ⟨rfl, rfl⟩ := hx0 v.1 rfl
  exact retJ rfl rfl
/-- countCaseHits(IIIZ)J -/
def F26 (o : Ob) (x1 x2 : Int32) (x3 x4 : Int32) : Option (Int64) :=
 (F27 o x1).bind fun r316 => (loopN (B26_14 o x2 x3 x4) qN ((0 : Int64), r316)).bind fun e327 => some e327
theorem tF26 (Ad : QAd n0 ad) (W : QW Z a0) (s : List Int32) (o : Ob) (x1 x2 : Int32) (x3 x4 : Int32) {r : Int64} (h : F26 o x1 x2 x3 x4 = some r) : QTri l Z n0 ad 26 (0, qentry [.ref 1, .int x1, .int x2, .int x3, .int x4] (pMaxL 26), [], (H0 s o)) (some (Value.long r)) (H0 s o) := by
 unfold F26 at h
 refine yS Ad W 4 (5, [vR 1, vI x1, vI x2, vI x3, vI x4, vL (0 : Int64), nN, nN, nN, nN, nN], [.int x1, .ref 1], (H0 s o)) rfl ?_
 obtain ⟨r316, hr316, h⟩ := be h
 refine callP W (a := 1) (as := [.int x1]) (rest := []) (w := (some (.int r316))) (σ₁ := (H0 s o)) rfl rfl rfl rfl rfl rfl rfl rfl (tF27 Ad W s o x1 hr316) ?_
 refine yS Ad W 3 (14, [vR 1, vI x1, vI x2, vI x3, vI x4, vL (0 : Int64), nN, vI r316, vI r316, nN, nN], [], (H0 s o)) rfl ?_
 obtain ⟨e327, he327, h⟩ := be h
 refine zM [tt,ff,tt,tt,tt,tt,ff,ff,tt,ff,ff] (loopN_tri (B := B26_14 o x2 x3 x4) (T := fun lv328 => QTri l Z n0 ad 26 (14, [vR 1, nN, vI x2, vI x3, vI x4, vL lv328.1, nN, nN, vI lv328.2, nN, nN], [], (H0 s o)) (some (Value.long r)) (H0 s o)) (KE := fun e327a => (some (Value.long r)) = (some (Value.long e327a)) ∧ (H0 s o) = (H0 s o)) (fun lv328 r hB hE hC => tB26_14 Ad W s o x2 x3 x4 lv328 hB (fun x q => hE _ q) (fun x q => hC x q)) qN ((0 : Int64), r316) e327 he327 ?_)
 obtain rfl := sj h
 exact ⟨rfl, rfl⟩
/-- routedCount(III)J -/
def F25 (o : Ob) (x1 x2 x3 : Int32) : Option (Int64) :=
 (if (fxG o) = (0:Int32) then some (0 : Int64) else (if x3 < (0:Int32) then some (0 : Int64) else (if x3 < (fxA o) then (if x2 < x1 then some (0 : Int64) else (F26 o x1 x2 x3 (if x3 = (fxF o) then (1:Int32) else (0:Int32))).bind fun r329 => (if (if x3 = (fxF o) then (1:Int32) else (0:Int32)) = (0:Int32) then some r329 else some ((((x2.toInt64) - (x1.toInt64)) + (1 : Int64)) - r329))) else some (0 : Int64))))
theorem tF25 (Ad : QAd n0 ad) (W : QW Z a0) (s : List Int32) (o : Ob) (x1 x2 x3 : Int32) {r : Int64} (h : F25 o x1 x2 x3 = some r) : QTri l Z n0 ad 25 (0, qentry [.ref 1, .int x1, .int x2, .int x3] (pMaxL 25), [], (H0 s o)) (some (Value.long r)) (H0 s o) := by
 unfold F25 at h
 refine yS Ad W 2 (4, [vR 1, vI x1, vI x2, vI x3, nN, nN, nN, nN, nN], [.int (fxG o)], (H0 s o)) rfl ?_
 rcases qite h with ⟨c300, h⟩ | ⟨c300, h⟩
 ·refine yT Ad W 24 7 rfl (XT.i0_eq_t c300) ?_
  refine yS Ad W 1 (25, [vR 1, vI x1, vI x2, vI x3, nN, nN, nN, nN, nN], [.long (0 : Int64)], (H0 s o)) rfl ?_
  obtain rfl := sj h
  exact retJ rfl rfl
 ·refine yF Ad W 24 7 rfl (XT.i0_eq_f c300) ?_
  refine yS Ad W 1 (8, [vR 1, vI x1, vI x2, vI x3, nN, nN, nN, nN, nN], [.int x3], (H0 s o)) rfl ?_
  rcases qite h with ⟨c301, h⟩ | ⟨c301, h⟩
  ·refine yT Ad W 24 11 rfl (XT.i0_lt_t c301) ?_
   refine yS Ad W 1 (25, [vR 1, vI x1, vI x2, vI x3, nN, nN, nN, nN, nN], [.long (0 : Int64)], (H0 s o)) rfl ?_
   obtain rfl := sj h
   exact retJ rfl rfl
  ·refine yF Ad W 24 11 rfl (XT.i0_lt_f c301) ?_
   refine yS Ad W 3 (16, [vR 1, vI x1, vI x2, vI x3, nN, nN, nN, nN, nN], [.int (fxA o), .int x3], (H0 s o)) rfl ?_
   rcases qite h with ⟨c302, h⟩ | ⟨c302, h⟩
   ·refine yF Ad W 24 19 rfl (XT.ii_ge_f c302) ?_
    refine yS Ad W 2 (21, [vR 1, vI x1, vI x2, vI x3, nN, nN, nN, nN, nN], [.int x2, .int x1], (H0 s o)) rfl ?_
    rcases qite h with ⟨c303, h⟩ | ⟨c303, h⟩
    ·refine yF Ad W 26 24 rfl (XT.ii_le_f c303) ?_
     refine yS Ad W 1 (25, [vR 1, vI x1, vI x2, vI x3, nN, nN, nN, nN, nN], [.long (0 : Int64)], (H0 s o)) rfl ?_
     obtain rfl := sj h
     exact retJ rfl rfl
    ·refine yT Ad W 26 24 rfl (XT.ii_le_t c303) ?_
     refine yS Ad W 3 (31, [vR 1, vI x1, vI x2, vI x3, nN, nN, nN, nN, nN], [.int (fxF o), .int x3], (H0 s o)) rfl ?_
     have K305 : ∀ z304 : Int32, z304 = (if x3 = (fxF o) then (1:Int32) else (0:Int32)) → QTri l Z n0 ad 25 (39, [vR 1, vI x1, vI x2, vI x3, nN, nN, nN, nN, nN], [.int z304], (H0 s o)) (some (Value.long r)) (H0 s o) := by
      intro z304 ez304
      subst ez304
      refine yS Ad W 6 (47, [vR 1, vI x1, vI x2, vI x3, vI (if x3 = (fxF o) then (1:Int32) else (0:Int32)), nN, nN, nN, nN], [.int (if x3 = (fxF o) then (1:Int32) else (0:Int32)), .int x3, .int x2, .int x1, .ref 1], (H0 s o)) rfl ?_
      obtain ⟨r329, hr329, h⟩ := be h
      refine callP W (a := 1) (as := [.int x1, .int x2, .int x3, .int (if x3 = (fxF o) then (1:Int32) else (0:Int32))]) (rest := []) (w := (some (.long r329))) (σ₁ := (H0 s o)) rfl rfl rfl rfl rfl rfl rfl rfl (tF26 Ad W s o x1 x2 x3 (if x3 = (fxF o) then (1:Int32) else (0:Int32)) hr329) ?_
      refine yS Ad W 2 (54, [vR 1, vI x1, vI x2, vI x3, vI (if x3 = (fxF o) then (1:Int32) else (0:Int32)), vL r329, nN, nN, nN], [.int (if x3 = (fxF o) then (1:Int32) else (0:Int32))], (H0 s o)) rfl ?_
      rcases qite h with ⟨c330, h⟩ | ⟨c330, h⟩
      ·refine yF Ad W 60 57 rfl (XT.i0_ne_f c330) ?_
       refine yS Ad W 1 (59, [vR 1, vI x1, vI x2, vI x3, vI (if x3 = (fxF o) then (1:Int32) else (0:Int32)), vL r329, nN, nN, nN], [.long r329], (H0 s o)) rfl ?_
       obtain rfl := sj h
       exact retJ rfl rfl
      ·refine yT Ad W 60 57 rfl (XT.i0_ne_t c330) ?_
       refine yS Ad W 11 (74, [vR 1, vI x1, vI x2, vI x3, vI (if x3 = (fxF o) then (1:Int32) else (0:Int32)), vL r329, nN, vL (((x2.toInt64) - (x1.toInt64)) + (1 : Int64)), nN], [.long ((((x2.toInt64) - (x1.toInt64)) + (1 : Int64)) - r329)], (H0 s o)) rfl ?_
       obtain rfl := sj h
       exact retJ rfl rfl
     rcases em (x3 = (fxF o)) with c306 | c306
     ·refine yF Ad W 38 34 rfl (XT.ii_ne_f c306) ?_
      refine yS Ad W 2 (39, [vR 1, vI x1, vI x2, vI x3, nN, nN, nN, nN, nN], [.int 1], (H0 s o)) rfl ?_
      exact zM [tt,tt,tt,tt,ff,ff,ff,ff,ff] (K305 _ (if_pos c306).symm)
     ·refine yT Ad W 38 34 rfl (XT.ii_ne_t c306) ?_
      refine yS Ad W 1 (39, [vR 1, vI x1, vI x2, vI x3, nN, nN, nN, nN, nN], [.int 0], (H0 s o)) rfl ?_
      exact zM [tt,tt,tt,tt,ff,ff,ff,ff,ff] (K305 _ (if_neg c306).symm)
   ·refine yT Ad W 24 19 rfl (XT.ii_ge_t c302) ?_
    refine yS Ad W 1 (25, [vR 1, vI x1, vI x2, vI x3, nN, nN, nN, nN, nN], [.long (0 : Int64)], (H0 s o)) rfl ?_
    obtain rfl := sj h
    exact retJ rfl rfl
def B0_361 (s : List Int32) (p0 : Ob) (x2 : Int32) (x3 : Int64) (x5 : Int32) (x6 x10 : Int64) (v : Int64 × Int32) : Option (((Int64)) ⊕ (Int64 × Int32)) :=
  (if (7 : Int32) < v.2 then some (.inl v.1) else (F7 p0 v.2).bind fun r340 => some (.inr ((if r340 = x5 then (v.1 + (1 : Int64)) else v.1), (v.2 + (1 : Int32)))))
theorem tB0_361 (Ad : QAd n0 ad) (W : QW Z a0) (s : List Int32) (p0 : Ob) (x2 : Int32) (x3 : Int64) (x5 : Int32) (x6 x10 : Int64) (v : Int64 × Int32) {r : ((Int64)) ⊕ (Int64 × Int32)} {u : Option Value} {τ : QHeap} (h : B0_361 s p0 x2 x3 x5 x6 x10 v = some r) (hx0 : ∀ x : Int64, r = .inl x → QTri l Z n0 ad 0 (395, [nN, vR 1, vI x2, vL x3, nN, vI x5, vL x6, nN, nN, nN, vL x10, nN, nN, nN, nN, nN, nN, nN, vL x, nN, nN, nN, nN], [], (H0 s p0)) u τ) (hc : ∀ x : Int64 × Int32, r = .inr x → QTri l Z n0 ad 0 (361, [nN, vR 1, vI x2, vL x3, nN, vI x5, vL x6, nN, nN, nN, vL x10, nN, nN, nN, nN, nN, nN, nN, vL x.1, nN, vI x.2, nN, nN], [], (H0 s p0)) u τ) : QTri l Z n0 ad 0 (361, [nN, vR 1, vI x2, vL x3, nN, vI x5, vL x6, nN, nN, nN, vL x10, nN, nN, nN, nN, nN, nN, nN, vL v.1, nN, vI v.2, nN, nN], [], (H0 s p0)) u τ := by
 unfold B0_361 at h
 refine yS Ad W 2 (365, [nN, vR 1, vI x2, vL x3, nN, vI x5, vL x6, nN, nN, nN, vL x10, nN, nN, nN, nN, nN, nN, nN, vL v.1, nN, vI v.2, nN, nN], [.int 7, .int v.2], (H0 s p0)) rfl ?_
 rcases qite h with ⟨c339, h⟩ | ⟨c339, h⟩
 ·refine yT Ad W 395 368 rfl (XT.ii_gt_t c339) ?_
  obtain rfl := sj h
  exact zM [ff,tt,tt,tt,ff,tt,tt,ff,ff,ff,tt,ff,ff,ff,ff,ff,ff,ff,tt,ff,ff,ff,ff] (hx0 v.1 rfl)
 ·refine yF Ad W 395 368 rfl (XT.ii_gt_f c339) ?_
  refine yS Ad W 2 (371, [nN, vR 1, vI x2, vL x3, nN, vI x5, vL x6, nN, nN, nN, vL x10, nN, nN, nN, nN, nN, nN, nN, vL v.1, nN, vI v.2, nN, nN], [.int v.2, .ref 1], (H0 s p0)) rfl ?_
  obtain ⟨r340, hr340, h⟩ := be h
  refine callV W (a := 1) (as := [.int v.2]) (rest := []) (w := (some (.int r340))) (σ₁ := (H0 s p0)) rfl rfl rfl rfl rfl rfl rfl rfl (tF7 Ad W s p0 v.2 hr340) ?_
  refine yS Ad W 3 (380, [nN, vR 1, vI x2, vL x3, nN, vI x5, vL x6, nN, nN, nN, vL x10, nN, nN, nN, nN, nN, nN, nN, vL v.1, nN, vI v.2, vI r340, nN], [.int x5, .int r340], (H0 s p0)) rfl ?_
  have K342 : ∀ z341 : Int64, z341 = (if r340 = x5 then (v.1 + (1 : Int64)) else v.1) → QTri l Z n0 ad 0 (389, [nN, vR 1, vI x2, vL x3, nN, vI x5, vL x6, nN, nN, nN, vL x10, nN, nN, nN, nN, nN, nN, nN, vL z341, nN, vI v.2, nN, nN], [], (H0 s p0)) u τ := by
   intro z341 ez341
   subst ez341
   refine yS Ad W 2 (361, [nN, vR 1, vI x2, vL x3, nN, vI x5, vL x6, nN, nN, nN, vL x10, nN, nN, nN, nN, nN, nN, nN, vL (if r340 = x5 then (v.1 + (1 : Int64)) else v.1), nN, vI (v.2 + (1:Int32)), nN, nN], [], (H0 s p0)) rfl ?_
   obtain rfl := sj h
   exact zM [ff,tt,tt,tt,ff,tt,tt,ff,ff,ff,tt,ff,ff,ff,ff,ff,ff,ff,tt,ff,tt,ff,ff] (hc ((if r340 = x5 then (v.1 + (1 : Int64)) else v.1), (v.2 + (1:Int32))) rfl)
  rcases em (r340 = x5) with c343 | c343
  ·refine yF Ad W 389 383 rfl (XT.ii_ne_f c343) ?_
   refine yS Ad W 4 (389, [nN, vR 1, vI x2, vL x3, nN, vI x5, vL x6, nN, nN, nN, vL x10, nN, nN, nN, nN, nN, nN, nN, vL (v.1 + (1 : Int64)), nN, vI v.2, vI r340, nN], [], (H0 s p0)) rfl ?_
   exact zM [ff,tt,tt,tt,ff,tt,tt,ff,ff,ff,tt,ff,ff,ff,ff,ff,ff,ff,tt,ff,tt,ff,ff] (K342 _ (if_pos c343).symm)
  ·refine yT Ad W 389 383 rfl (XT.ii_ne_t c343) ?_
   exact zM [ff,tt,tt,tt,ff,tt,tt,ff,ff,ff,tt,ff,ff,ff,ff,ff,ff,ff,tt,ff,tt,ff,ff] (K342 _ (if_neg c343).symm)
def J32_19 (o : Ob) : Option (Int64) :=
  some (4294967296 : Int64)
theorem tJ32_19 (Ad : QAd n0 ad) (W : QW Z a0) (s : List Int32) (o : Ob) {r : Int64} (h : J32_19 o = some r) : QTri l Z n0 ad 32 (19, [nN, nN, nN], [], (H0 s o)) (some (Value.long r)) (H0 s o) := by
 unfold J32_19 at h
 refine yS Ad W 1 (22, [nN, nN, nN], [.long (4294967296 : Int64)], (H0 s o)) rfl ?_
 obtain rfl := sj h
 exact retJ rfl rfl
def B33_4 (o : Ob) (v : Int32 × Int32) : Option (((Int64)) ⊕ (Int32 × Int32)) :=
  (if (65 : Int32) < v.2 then some (.inl (4294967296 : Int64)) else (F28 o v.1).bind fun r352 => (if r352 = (fxF o) then some (.inl (v.1.toInt64)) else (if v.1 = (2147483647 : Int32) then some (.inl (4294967296 : Int64)) else some (.inr ((v.1 + (1 : Int32)), (v.2 + (1 : Int32)))))))
theorem tB33_4 (Ad : QAd n0 ad) (W : QW Z a0) (s : List Int32) (o : Ob) (v : Int32 × Int32) {r : ((Int64)) ⊕ (Int32 × Int32)} {u : Option Value} {τ : QHeap} (h : B33_4 o v = some r) (hx0 : ∀ x : Int64, r = .inl x → u = (some (Value.long x)) ∧ τ = (H0 s o)) (hc : ∀ x : Int32 × Int32, r = .inr x → QTri l Z n0 ad 33 (4, [vR 1, nN, vI x.1, vI x.2], [], (H0 s o)) u τ) : QTri l Z n0 ad 33 (4, [vR 1, nN, vI v.1, vI v.2], [], (H0 s o)) u τ := by
 unfold B33_4 at h
 refine yS Ad W 2 (7, [vR 1, nN, vI v.1, vI v.2], [.int 65, .int v.2], (H0 s o)) rfl ?_
 rcases qite h with ⟨c351, h⟩ | ⟨c351, h⟩
 ·refine yT Ad W 44 10 rfl (XT.ii_gt_t c351) ?_
  refine yS Ad W 1 (47, [vR 1, nN, vI v.1, vI v.2], [.long (4294967296 : Int64)], (H0 s o)) rfl ?_
  obtain rfl := sj h
  obtain ⟨rfl, rfl⟩ := hx0 (4294967296 : Int64) rfl
  exact retJ rfl rfl
 ·refine yF Ad W 44 10 rfl (XT.ii_gt_f c351) ?_
  refine yS Ad W 2 (12, [vR 1, nN, vI v.1, vI v.2], [.int v.1, .ref 1], (H0 s o)) rfl ?_
  obtain ⟨r352, hr352, h⟩ := be h
  refine callP W (a := 1) (as := [.int v.1]) (rest := []) (w := (some (.int r352))) (σ₁ := (H0 s o)) rfl rfl rfl rfl rfl rfl rfl rfl (tF28 Ad W s o v.1 hr352) ?_
  refine yS Ad W 2 (19, [vR 1, nN, vI v.1, vI v.2], [.int (fxF o), .int r352], (H0 s o)) rfl ?_
  rcases qite h with ⟨c353, h⟩ | ⟨c353, h⟩
  ·refine yF Ad W 25 22 rfl (XT.ii_ne_f c353) ?_
   refine yS Ad W 2 (24, [vR 1, nN, vI v.1, vI v.2], [.long (v.1.toInt64)], (H0 s o)) rfl ?_
   obtain rfl := sj h
   obtain ⟨rfl, rfl⟩ := hx0 (v.1.toInt64) rfl
   exact retJ rfl rfl
  ·refine yT Ad W 25 22 rfl (XT.ii_ne_t c353) ?_
   refine yS Ad W 2 (28, [vR 1, nN, vI v.1, vI v.2], [.int 2147483647, .int v.1], (H0 s o)) rfl ?_
   rcases qite h with ⟨c354, h⟩ | ⟨c354, h⟩
   ·refine yF Ad W 35 31 rfl (XT.ii_ne_f c354) ?_
    refine yS Ad W 1 (34, [vR 1, nN, vI v.1, vI v.2], [.long (4294967296 : Int64)], (H0 s o)) rfl ?_
    obtain rfl := sj h
    obtain ⟨rfl, rfl⟩ := hx0 (4294967296 : Int64) rfl
    exact retJ rfl rfl
   ·refine yT Ad W 35 31 rfl (XT.ii_ne_t c354) ?_
    refine yS Ad W 3 (4, [vR 1, nN, vI (v.1 + (1:Int32)), vI (v.2 + (1:Int32))], [], (H0 s o)) rfl ?_
    obtain rfl := sj h
    exact zM [tt,ff,tt,tt] (hc ((v.1 + (1:Int32)), (v.2 + (1:Int32))) rfl)
/-- nextDefaultRouted(I)J -/
def F33 (o : Ob) (x1 : Int32) : Option (Int64) :=
 (loopN (B33_4 o) qN (x1, (0:Int32))).bind fun e355 => some e355
theorem tF33 (Ad : QAd n0 ad) (W : QW Z a0) (s : List Int32) (o : Ob) (x1 : Int32) {r : Int64} (h : F33 o x1 = some r) : QTri l Z n0 ad 33 (0, qentry [.ref 1, .int x1] (pMaxL 33), [], (H0 s o)) (some (Value.long r)) (H0 s o) := by
 unfold F33 at h
 refine yS Ad W 4 (4, [vR 1, vI x1, vI x1, vI 0], [], (H0 s o)) rfl ?_
 obtain ⟨e355, he355, h⟩ := be h
 refine zM [tt,ff,tt,tt] (loopN_tri (B := B33_4 o) (T := fun lv356 => QTri l Z n0 ad 33 (4, [vR 1, nN, vI lv356.1, vI lv356.2], [], (H0 s o)) (some (Value.long r)) (H0 s o)) (KE := fun e355a => (some (Value.long r)) = (some (Value.long e355a)) ∧ (H0 s o) = (H0 s o)) (fun lv356 r hB hE hC => tB33_4 Ad W s o lv356 hB (fun x q => hE _ q) (fun x q => hC x q)) qN (x1, (0:Int32)) e355 he355 ?_)
 obtain rfl := sj h
 exact ⟨rfl, rfl⟩
def B34_9 (o : Ob) (x2 v : Int32) : Option (((Int64)) ⊕ (Int32)) :=
  (if v < (fxE o) then (aget (fQ o) v).bind fun y360 => (F28 o y360).bind fun r361 => (if r361 = x2 then some (.inl (y360.toInt64)) else some (.inr (v + (1 : Int32)))) else some (.inl (4294967296 : Int64)))
theorem tB34_9 (Ad : QAd n0 ad) (W : QW Z a0) (s : List Int32) (o : Ob) (x2 v : Int32) {r : ((Int64)) ⊕ (Int32)} {u : Option Value} {τ : QHeap} (h : B34_9 o x2 v = some r) (hx0 : ∀ x : Int64, r = .inl x → u = (some (Value.long x)) ∧ τ = (H0 s o)) (hc : ∀ x : Int32, r = .inr x → QTri l Z n0 ad 34 (9, [vR 1, nN, vI x2, nN, vI x, nN], [], (H0 s o)) u τ) : QTri l Z n0 ad 34 (9, [vR 1, nN, vI x2, nN, vI v, nN], [], (H0 s o)) u τ := by
 unfold B34_9 at h
 refine yS Ad W 3 (15, [vR 1, nN, vI x2, nN, vI v, nN], [.int (fxE o), .int v], (H0 s o)) rfl ?_
 rcases qite h with ⟨c359, h⟩ | ⟨c359, h⟩
 ·refine yF Ad W 47 18 rfl (XT.ii_ge_f c359) ?_
  refine yS Ad W 3 (24, [vR 1, nN, vI x2, nN, vI v, nN], [.int v, .ref 4], (H0 s o)) rfl ?_
  obtain ⟨y360, hy360, h⟩ := be h
  refine zB Ad W (f := fun y360 => (25, [vR 1, nN, vI x2, nN, vI v, nN], [.int y360], (H0 s o))) rfl hy360 ?_
  refine yS Ad W 3 (30, [vR 1, nN, vI x2, nN, vI v, vI y360], [.int y360, .ref 1], (H0 s o)) rfl ?_
  obtain ⟨r361, hr361, h⟩ := be h
  refine callP W (a := 1) (as := [.int y360]) (rest := []) (w := (some (.int r361))) (σ₁ := (H0 s o)) rfl rfl rfl rfl rfl rfl rfl rfl (tF28 Ad W s o y360 hr361) ?_
  refine yS Ad W 1 (34, [vR 1, nN, vI x2, nN, vI v, vI y360], [.int x2, .int r361], (H0 s o)) rfl ?_
  rcases qite h with ⟨c362, h⟩ | ⟨c362, h⟩
  ·refine yF Ad W 41 37 rfl (XT.ii_ne_f c362) ?_
   refine yS Ad W 2 (40, [vR 1, nN, vI x2, nN, vI v, vI y360], [.long (y360.toInt64)], (H0 s o)) rfl ?_
   obtain rfl := sj h
   obtain ⟨rfl, rfl⟩ := hx0 (y360.toInt64) rfl
   exact retJ rfl rfl
  ·refine yT Ad W 41 37 rfl (XT.ii_ne_t c362) ?_
   refine yS Ad W 2 (9, [vR 1, nN, vI x2, nN, vI (v + (1:Int32)), vI y360], [], (H0 s o)) rfl ?_
   obtain rfl := sj h
   exact zM [tt,ff,tt,ff,tt,ff] (hc (v + (1:Int32)) rfl)
 ·refine yT Ad W 47 18 rfl (XT.ii_ge_t c359) ?_
  refine yS Ad W 1 (50, [vR 1, nN, vI x2, nN, vI v, nN], [.long (4294967296 : Int64)], (H0 s o)) rfl ?_
  obtain rfl := sj h
  obtain ⟨rfl, rfl⟩ := hx0 (4294967296 : Int64) rfl
  exact retJ rfl rfl
/-- nextCaseRouted(II)J -/
def F34 (o : Ob) (x1 x2 : Int32) : Option (Int64) :=
 (F27 o x1).bind fun r358 => (loopN (B34_9 o x2) qN r358).bind fun e363 => some e363
theorem tF34 (Ad : QAd n0 ad) (W : QW Z a0) (s : List Int32) (o : Ob) (x1 x2 : Int32) {r : Int64} (h : F34 o x1 x2 = some r) : QTri l Z n0 ad 34 (0, qentry [.ref 1, .int x1, .int x2] (pMaxL 34), [], (H0 s o)) (some (Value.long r)) (H0 s o) := by
 unfold F34 at h
 refine yS Ad W 2 (2, [vR 1, vI x1, vI x2, nN, nN, nN], [.int x1, .ref 1], (H0 s o)) rfl ?_
 obtain ⟨r358, hr358, h⟩ := be h
 refine callP W (a := 1) (as := [.int x1]) (rest := []) (w := (some (.int r358))) (σ₁ := (H0 s o)) rfl rfl rfl rfl rfl rfl rfl rfl (tF27 Ad W s o x1 hr358) ?_
 refine yS Ad W 3 (9, [vR 1, vI x1, vI x2, vI r358, vI r358, nN], [], (H0 s o)) rfl ?_
 obtain ⟨e363, he363, h⟩ := be h
 refine zM [tt,ff,tt,ff,tt,ff] (loopN_tri (B := B34_9 o x2) (T := fun lv364 => QTri l Z n0 ad 34 (9, [vR 1, nN, vI x2, nN, vI lv364, nN], [], (H0 s o)) (some (Value.long r)) (H0 s o)) (KE := fun e363a => (some (Value.long r)) = (some (Value.long e363a)) ∧ (H0 s o) = (H0 s o)) (fun lv364 r hB hE hC => tB34_9 Ad W s o x2 lv364 hB (fun x q => hE _ q) (fun x q => hC x q)) qN r358 e363 he363 ?_)
 obtain rfl := sj h
 exact ⟨rfl, rfl⟩
/-- nextRouted(II)J -/
def F32 (o : Ob) (x1 x2 : Int32) : Option (Int64) :=
 (if (fxG o) = (0:Int32) then (J32_19 o) else (if x2 < (0:Int32) then (J32_19 o) else (if x2 < (fxA o) then (if x2 = (fxF o) then (F33 o x1).bind fun r357 => some r357 else (F34 o x1 x2).bind fun r365 => some r365) else (J32_19 o))))
theorem tF32 (Ad : QAd n0 ad) (W : QW Z a0) (s : List Int32) (o : Ob) (x1 x2 : Int32) {r : Int64} (h : F32 o x1 x2 = some r) : QTri l Z n0 ad 32 (0, qentry [.ref 1, .int x1, .int x2] (pMaxL 32), [], (H0 s o)) (some (Value.long r)) (H0 s o) := by
 unfold F32 at h
 refine yS Ad W 2 (4, [vR 1, vI x1, vI x2], [.int (fxG o)], (H0 s o)) rfl ?_
 rcases qite h with ⟨c347, h⟩ | ⟨c347, h⟩
 ·refine yT Ad W 19 7 rfl (XT.i0_eq_t c347) ?_
  exact zM [ff,ff,ff] (tJ32_19 Ad W s o h)
 ·refine yF Ad W 19 7 rfl (XT.i0_eq_f c347) ?_
  refine yS Ad W 1 (8, [vR 1, vI x1, vI x2], [.int x2], (H0 s o)) rfl ?_
  rcases qite h with ⟨c348, h⟩ | ⟨c348, h⟩
  ·refine yT Ad W 19 11 rfl (XT.i0_lt_t c348) ?_
   exact zM [ff,ff,ff] (tJ32_19 Ad W s o h)
  ·refine yF Ad W 19 11 rfl (XT.i0_lt_f c348) ?_
   refine yS Ad W 3 (16, [vR 1, vI x1, vI x2], [.int (fxA o), .int x2], (H0 s o)) rfl ?_
   rcases qite h with ⟨c349, h⟩ | ⟨c349, h⟩
   ·refine yT Ad W 23 19 rfl (XT.ii_lt_t c349) ?_
    refine yS Ad W 3 (28, [vR 1, vI x1, vI x2], [.int (fxF o), .int x2], (H0 s o)) rfl ?_
    rcases qite h with ⟨c350, h⟩ | ⟨c350, h⟩
    ·refine yF Ad W 37 31 rfl (XT.ii_ne_f c350) ?_
     refine yS Ad W 2 (33, [vR 1, vI x1, vI x2], [.int x1, .ref 1], (H0 s o)) rfl ?_
     obtain ⟨r357, hr357, h⟩ := be h
     refine callP W (a := 1) (as := [.int x1]) (rest := []) (w := (some (.long r357))) (σ₁ := (H0 s o)) rfl rfl rfl rfl rfl rfl rfl rfl (tF33 Ad W s o x1 hr357) ?_
     obtain rfl := sj h
     exact retJ rfl rfl
    ·refine yT Ad W 37 31 rfl (XT.ii_ne_t c350) ?_
     refine yS Ad W 3 (40, [vR 1, vI x1, vI x2], [.int x2, .int x1, .ref 1], (H0 s o)) rfl ?_
     obtain ⟨r365, hr365, h⟩ := be h
     refine callP W (a := 1) (as := [.int x1, .int x2]) (rest := []) (w := (some (.long r365))) (σ₁ := (H0 s o)) rfl rfl rfl rfl rfl rfl rfl rfl (tF34 Ad W s o x1 x2 hr365) ?_
     obtain rfl := sj h
     exact retJ rfl rfl
   ·refine yF Ad W 23 19 rfl (XT.ii_lt_f c349) ?_
    exact zM [ff,ff,ff] (tJ32_19 Ad W s o h)
def J0_474 (s : List Int32) (p0 : Ob) (x2 : Int32) (x3 : Int64) (x5 : Int32) (x6 : Int64) : Option (((Int64) ⊕ (Int32 × QHeap)) ⊕ (Int64 × Int32)) :=
  some (.inr ((x3 + x6), (x5 + (1 : Int32))))
theorem tJ0_474 (Ad : QAd n0 ad) (W : QW Z a0) (s : List Int32) (p0 : Ob) (x2 : Int32) (x3 : Int64) (x5 : Int32) (x6 : Int64) {r : ((Int64) ⊕ (Int32 × QHeap)) ⊕ (Int64 × Int32)} {u : Option Value} {τ : QHeap} (h : J0_474 s p0 x2 x3 x5 x6 = some r) (hx0 : ∀ x : Int64, r = .inl (Sum.inl x) → QTri l Z n0 ad 0 (485, [nN, vR 1, nN, vL x, nN, nN, nN, nN, nN, nN, nN, nN, nN, nN, nN, nN, nN, nN, nN, nN, nN, nN, nN], [], (H0 s p0)) u τ) (hx1 : ∀ x : Int32 × QHeap, r = .inl (Sum.inr x) → u = (some (Value.int x.1)) ∧ τ = x.2) (hc : ∀ x : Int64 × Int32, r = .inr x → QTri l Z n0 ad 0 (247, [nN, vR 1, vI x2, vL x.1, nN, vI x.2, nN, nN, nN, nN, nN, nN, nN, nN, nN, nN, nN, nN, nN, nN, nN, nN, nN], [], (H0 s p0)) u τ) : QTri l Z n0 ad 0 (474, [nN, vR 1, vI x2, vL x3, nN, vI x5, vL x6, nN, nN, nN, nN, nN, nN, nN, nN, nN, nN, nN, nN, nN, nN, nN, nN], [], (H0 s p0)) u τ := by
 unfold J0_474 at h
 refine yS Ad W 5 (482, [nN, vR 1, vI x2, vL (x3 + x6), nN, vI (x5 + (1:Int32)), vL x6, nN, nN, nN, nN, nN, nN, nN, nN, nN, nN, nN, nN, nN, nN, nN, nN], [], (H0 s p0)) rfl ?_
 refine yS Ad W 1 (247, [nN, vR 1, vI x2, vL (x3 + x6), nN, vI (x5 + (1:Int32)), vL x6, nN, nN, nN, nN, nN, nN, nN, nN, nN, nN, nN, nN, nN, nN, nN, nN], [], (H0 s p0)) rfl ?_
 obtain rfl := sj h
 exact zM [ff,tt,tt,tt,ff,tt,ff,ff,ff,ff,ff,ff,ff,ff,ff,ff,ff,ff,ff,ff,ff,ff,ff] (hc ((x3 + x6), (x5 + (1:Int32))) rfl)
def B0_247 (s : List Int32) (p0 : Ob) (x2 : Int32) (v : Int64 × Int32) : Option (((Int64) ⊕ (Int32 × QHeap)) ⊕ (Int64 × Int32)) :=
  (if v.2 < (4 : Int32) then (F25 p0 (-2147483648 : Int32) (2147483647 : Int32) v.2).bind fun r331 => (F25 p0 (-2147483648 : Int32) (-9 : Int32) v.2).bind fun r332 => (F25 p0 (-8 : Int32) (7 : Int32) v.2).bind fun r333 => (F25 p0 (8 : Int32) (2147483647 : Int32) v.2).bind fun r334 => (if r331 = ((r332 + r333) + r334) then (F25 p0 (-2147483648 : Int32) x2 v.2).bind fun r336 => (F25 p0 (x2 + (1 : Int32)) (2147483647 : Int32) v.2).bind fun r337 => (if r331 = (r336 + r337) then (loopN (B0_361 s p0 x2 v.1 v.2 r331 r333) qN ((0 : Int64), (-8 : Int32))).bind fun e344 => (if e344 = r333 then (F32 p0 (-8 : Int32) v.2).bind fun r366 => (if (0 : Int64) < r333 then (if r366 < (-8 : Int64) then some (.inl (Sum.inr ((0 : Int32), (H0 s p0)))) else (if (7 : Int64) < r366 then some (.inl (Sum.inr ((0 : Int32), (H0 s p0)))) else (F7 p0 (r366.toInt32)).bind fun r370 => (if r370 = v.2 then (J0_474 s p0 x2 v.1 v.2 r331) else some (.inl (Sum.inr ((0 : Int32), (H0 s p0))))))) else (if r366 < (8 : Int64) then some (.inl (Sum.inr ((0 : Int32), (H0 s p0)))) else (J0_474 s p0 x2 v.1 v.2 r331))) else some (.inl (Sum.inr ((0 : Int32), (H0 s p0))))) else some (.inl (Sum.inr ((0 : Int32), (H0 s p0))))) else some (.inl (Sum.inr ((0 : Int32), (H0 s p0))))) else some (.inl (Sum.inl v.1)))
theorem tB0_247 (Ad : QAd n0 ad) (W : QW Z a0) (s : List Int32) (p0 : Ob) (x2 : Int32) (v : Int64 × Int32) {r : ((Int64) ⊕ (Int32 × QHeap)) ⊕ (Int64 × Int32)} {u : Option Value} {τ : QHeap} (h : B0_247 s p0 x2 v = some r) (hx0 : ∀ x : Int64, r = .inl (Sum.inl x) → QTri l Z n0 ad 0 (485, [nN, vR 1, nN, vL x, nN, nN, nN, nN, nN, nN, nN, nN, nN, nN, nN, nN, nN, nN, nN, nN, nN, nN, nN], [], (H0 s p0)) u τ) (hx1 : ∀ x : Int32 × QHeap, r = .inl (Sum.inr x) → u = (some (Value.int x.1)) ∧ τ = x.2) (hc : ∀ x : Int64 × Int32, r = .inr x → QTri l Z n0 ad 0 (247, [nN, vR 1, vI x2, vL x.1, nN, vI x.2, nN, nN, nN, nN, nN, nN, nN, nN, nN, nN, nN, nN, nN, nN, nN, nN, nN], [], (H0 s p0)) u τ) : QTri l Z n0 ad 0 (247, [nN, vR 1, vI x2, vL v.1, nN, vI v.2, nN, nN, nN, nN, nN, nN, nN, nN, nN, nN, nN, nN, nN, nN, nN, nN, nN], [], (H0 s p0)) u τ := by
 unfold B0_247 at h
 refine yS Ad W 2 (250, [nN, vR 1, vI x2, vL v.1, nN, vI v.2, nN, nN, nN, nN, nN, nN, nN, nN, nN, nN, nN, nN, nN, nN, nN, nN, nN], [.int 4, .int v.2], (H0 s p0)) rfl ?_
 rcases qite h with ⟨c299, h⟩ | ⟨c299, h⟩
 ·refine yF Ad W 485 253 rfl (XT.ii_ge_f c299) ?_
  refine yS Ad W 4 (260, [nN, vR 1, vI x2, vL v.1, nN, vI v.2, nN, nN, nN, nN, nN, nN, nN, nN, nN, nN, nN, nN, nN, nN, nN, nN, nN], [.int v.2, .int 2147483647, .int (-2147483648:Int32), .ref 1], (H0 s p0)) rfl ?_
  obtain ⟨r331, hr331, h⟩ := be h
  refine callV W (a := 1) (as := [.int (-2147483648:Int32), .int 2147483647, .int v.2]) (rest := []) (w := (some (.long r331))) (σ₁ := (H0 s p0)) rfl rfl rfl rfl rfl rfl rfl rfl (tF25 Ad W s p0 (-2147483648:Int32) (2147483647:Int32) v.2 hr331) ?_
  refine yS Ad W 5 (272, [nN, vR 1, vI x2, vL v.1, nN, vI v.2, vL r331, nN, nN, nN, nN, nN, nN, nN, nN, nN, nN, nN, nN, nN, nN, nN, nN], [.int v.2, .int (-9:Int32), .int (-2147483648:Int32), .ref 1], (H0 s p0)) rfl ?_
  obtain ⟨r332, hr332, h⟩ := be h
  refine callV W (a := 1) (as := [.int (-2147483648:Int32), .int (-9:Int32), .int v.2]) (rest := []) (w := (some (.long r332))) (σ₁ := (H0 s p0)) rfl rfl rfl rfl rfl rfl rfl rfl (tF25 Ad W s p0 (-2147483648:Int32) (-9:Int32) v.2 hr332) ?_
  refine yS Ad W 5 (284, [nN, vR 1, vI x2, vL v.1, nN, vI v.2, vL r331, nN, vL r332, nN, nN, nN, nN, nN, nN, nN, nN, nN, nN, nN, nN, nN, nN], [.int v.2, .int 7, .int (-8:Int32), .ref 1], (H0 s p0)) rfl ?_
  obtain ⟨r333, hr333, h⟩ := be h
  refine callV W (a := 1) (as := [.int (-8:Int32), .int 7, .int v.2]) (rest := []) (w := (some (.long r333))) (σ₁ := (H0 s p0)) rfl rfl rfl rfl rfl rfl rfl rfl (tF25 Ad W s p0 (-8:Int32) (7:Int32) v.2 hr333) ?_
  refine yS Ad W 5 (296, [nN, vR 1, vI x2, vL v.1, nN, vI v.2, vL r331, nN, vL r332, nN, vL r333, nN, nN, nN, nN, nN, nN, nN, nN, nN, nN, nN, nN], [.int v.2, .int 2147483647, .int 8, .ref 1], (H0 s p0)) rfl ?_
  obtain ⟨r334, hr334, h⟩ := be h
  refine callV W (a := 1) (as := [.int 8, .int 2147483647, .int v.2]) (rest := []) (w := (some (.long r334))) (σ₁ := (H0 s p0)) rfl rfl rfl rfl rfl rfl rfl rfl (tF25 Ad W s p0 (8:Int32) (2147483647:Int32) v.2 hr334) ?_
  refine yS Ad W 8 (312, [nN, vR 1, vI x2, vL v.1, nN, vI v.2, vL r331, nN, vL r332, nN, vL r333, nN, vL r334, nN, nN, nN, nN, nN, nN, nN, nN, nN, nN], [.int (XT.cmpL r331 ((r332 + r333) + r334))], (H0 s p0)) rfl ?_
  rcases qite h with ⟨c335, h⟩ | ⟨c335, h⟩
  ·refine yT Ad W 317 315 rfl (XT.ll_eq_t c335) ?_
   refine yS Ad W 4 (323, [nN, vR 1, vI x2, vL v.1, nN, vI v.2, vL r331, nN, vL r332, nN, vL r333, nN, vL r334, nN, nN, nN, nN, nN, nN, nN, nN, nN, nN], [.int v.2, .int x2, .int (-2147483648:Int32), .ref 1], (H0 s p0)) rfl ?_
   obtain ⟨r336, hr336, h⟩ := be h
   refine callV W (a := 1) (as := [.int (-2147483648:Int32), .int x2, .int v.2]) (rest := []) (w := (some (.long r336))) (σ₁ := (H0 s p0)) rfl rfl rfl rfl rfl rfl rfl rfl (tF25 Ad W s p0 (-2147483648:Int32) x2 v.2 hr336) ?_
   refine yS Ad W 7 (336, [nN, vR 1, vI x2, vL v.1, nN, vI v.2, vL r331, nN, vL r332, nN, vL r333, nN, vL r334, nN, vL r336, nN, nN, nN, nN, nN, nN, nN, nN], [.int v.2, .int 2147483647, .int (x2 + (1:Int32)), .ref 1], (H0 s p0)) rfl ?_
   obtain ⟨r337, hr337, h⟩ := be h
   refine callV W (a := 1) (as := [.int (x2 + (1:Int32)), .int 2147483647, .int v.2]) (rest := []) (w := (some (.long r337))) (σ₁ := (H0 s p0)) rfl rfl rfl rfl rfl rfl rfl rfl (tF25 Ad W s p0 (x2 + (1:Int32)) (2147483647:Int32) v.2 hr337) ?_
   refine yS Ad W 6 (349, [nN, vR 1, vI x2, vL v.1, nN, vI v.2, vL r331, nN, vL r332, nN, vL r333, nN, vL r334, nN, vL r336, nN, vL r337, nN, nN, nN, nN, nN, nN], [.int (XT.cmpL r331 (r336 + r337))], (H0 s p0)) rfl ?_
   rcases qite h with ⟨c338, h⟩ | ⟨c338, h⟩
   ·refine yT Ad W 354 352 rfl (XT.ll_eq_t c338) ?_
    refine yS Ad W 4 (361, [nN, vR 1, vI x2, vL v.1, nN, vI v.2, vL r331, nN, vL r332, nN, vL r333, nN, vL r334, nN, vL r336, nN, vL r337, nN, vL (0 : Int64), nN, vI (-8:Int32), nN, nN], [], (H0 s p0)) rfl ?_
    obtain ⟨e344, he344, h⟩ := be h
    refine zM [ff,tt,tt,tt,ff,tt,tt,ff,ff,ff,tt,ff,ff,ff,ff,ff,ff,ff,tt,ff,tt,ff,ff] (loopN_tri (B := B0_361 s p0 x2 v.1 v.2 r331 r333) (T := fun lv345 => QTri l Z n0 ad 0 (361, [nN, vR 1, vI x2, vL v.1, nN, vI v.2, vL r331, nN, nN, nN, vL r333, nN, nN, nN, nN, nN, nN, nN, vL lv345.1, nN, vI lv345.2, nN, nN], [], (H0 s p0)) u τ) (KE := fun e344a => QTri l Z n0 ad 0 (395, [nN, vR 1, vI x2, vL v.1, nN, vI v.2, vL r331, nN, nN, nN, vL r333, nN, nN, nN, nN, nN, nN, nN, vL e344a, nN, nN, nN, nN], [], (H0 s p0)) u τ) (fun lv345 r hB hE hC => tB0_361 Ad W s p0 x2 v.1 v.2 r331 r333 lv345 hB (fun x q => hE _ q) (fun x q => hC x q)) qN ((0 : Int64), (-8:Int32)) e344 he344 ?_)
    refine yS Ad W 3 (400, [nN, vR 1, vI x2, vL v.1, nN, vI v.2, vL r331, nN, nN, nN, vL r333, nN, nN, nN, nN, nN, nN, nN, vL e344, nN, nN, nN, nN], [.int (XT.cmpL e344 r333)], (H0 s p0)) rfl ?_
    rcases qite h with ⟨c346, h⟩ | ⟨c346, h⟩
    ·refine yT Ad W 405 403 rfl (XT.ll_eq_t c346) ?_
     refine yS Ad W 3 (410, [nN, vR 1, vI x2, vL v.1, nN, vI v.2, vL r331, nN, nN, nN, vL r333, nN, nN, nN, nN, nN, nN, nN, vL e344, nN, nN, nN, nN], [.int v.2, .int (-8:Int32), .ref 1], (H0 s p0)) rfl ?_
     obtain ⟨r366, hr366, h⟩ := be h
     refine callV W (a := 1) (as := [.int (-8:Int32), .int v.2]) (rest := []) (w := (some (.long r366))) (σ₁ := (H0 s p0)) rfl rfl rfl rfl rfl rfl rfl rfl (tF32 Ad W s p0 (-8:Int32) v.2 hr366) ?_
     refine yS Ad W 4 (419, [nN, vR 1, vI x2, vL v.1, nN, vI v.2, vL r331, nN, nN, nN, vL r333, nN, nN, nN, nN, nN, nN, nN, vL e344, nN, vL r366, nN, nN], [.int (XT.cmpL r333 (0 : Int64))], (H0 s p0)) rfl ?_
     rcases qite h with ⟨c367, h⟩ | ⟨c367, h⟩
     ·refine yF Ad W 463 422 rfl (XT.ll_le_f c367) ?_
      refine yS Ad W 3 (428, [nN, vR 1, vI x2, vL v.1, nN, vI v.2, vL r331, nN, nN, nN, vL r333, nN, nN, nN, nN, nN, nN, nN, vL e344, nN, vL r366, nN, nN], [.int (XT.cmpL r366 (-8 : Int64))], (H0 s p0)) rfl ?_
      rcases qite h with ⟨c368, h⟩ | ⟨c368, h⟩
      ·refine yT Ad W 440 431 rfl (XT.ll_lt_t c368) ?_
       refine yS Ad W 1 (441, [nN, vR 1, vI x2, vL v.1, nN, vI v.2, vL r331, nN, nN, nN, vL r333, nN, nN, nN, nN, nN, nN, nN, vL e344, nN, vL r366, nN, nN], [.int 0], (H0 s p0)) rfl ?_
       obtain rfl := sj h
       obtain ⟨rfl, rfl⟩ := hx1 ((0:Int32), (H0 s p0)) rfl
       exact retZ rfl rfl
      ·refine yF Ad W 440 431 rfl (XT.ll_lt_f c368) ?_
       refine yS Ad W 3 (437, [nN, vR 1, vI x2, vL v.1, nN, vI v.2, vL r331, nN, nN, nN, vL r333, nN, nN, nN, nN, nN, nN, nN, vL e344, nN, vL r366, nN, nN], [.int (XT.cmpL r366 (7 : Int64))], (H0 s p0)) rfl ?_
       rcases qite h with ⟨c369, h⟩ | ⟨c369, h⟩
       ·refine yF Ad W 442 440 rfl (XT.ll_le_f c369) ?_
        refine yS Ad W 1 (441, [nN, vR 1, vI x2, vL v.1, nN, vI v.2, vL r331, nN, nN, nN, vL r333, nN, nN, nN, nN, nN, nN, nN, vL e344, nN, vL r366, nN, nN], [.int 0], (H0 s p0)) rfl ?_
        obtain rfl := sj h
        obtain ⟨rfl, rfl⟩ := hx1 ((0:Int32), (H0 s p0)) rfl
        exact retZ rfl rfl
       ·refine yT Ad W 442 440 rfl (XT.ll_le_t c369) ?_
        refine yS Ad W 3 (446, [nN, vR 1, vI x2, vL v.1, nN, vI v.2, vL r331, nN, nN, nN, vL r333, nN, nN, nN, nN, nN, nN, nN, vL e344, nN, vL r366, nN, nN], [.int (r366.toInt32), .ref 1], (H0 s p0)) rfl ?_
        obtain ⟨r370, hr370, h⟩ := be h
        refine callV W (a := 1) (as := [.int (r366.toInt32)]) (rest := []) (w := (some (.int r370))) (σ₁ := (H0 s p0)) rfl rfl rfl rfl rfl rfl rfl rfl (tF7 Ad W s p0 (r366.toInt32) hr370) ?_
        refine yS Ad W 3 (455, [nN, vR 1, vI x2, vL v.1, nN, vI v.2, vL r331, nN, nN, nN, vL r333, nN, nN, nN, nN, nN, nN, nN, vL e344, nN, vL r366, nN, vI r370], [.int v.2, .int r370], (H0 s p0)) rfl ?_
        rcases qite h with ⟨c371, h⟩ | ⟨c371, h⟩
        ·refine yT Ad W 460 458 rfl (XT.ii_eq_t c371) ?_
         refine yS Ad W 1 (474, [nN, vR 1, vI x2, vL v.1, nN, vI v.2, vL r331, nN, nN, nN, vL r333, nN, nN, nN, nN, nN, nN, nN, vL e344, nN, vL r366, nN, vI r370], [], (H0 s p0)) rfl ?_
         exact zM [ff,tt,tt,tt,ff,tt,tt,ff,ff,ff,ff,ff,ff,ff,ff,ff,ff,ff,ff,ff,ff,ff,ff] (tJ0_474 Ad W s p0 x2 v.1 v.2 r331 h hx0 hx1 hc)
        ·refine yF Ad W 460 458 rfl (XT.ii_eq_f c371) ?_
         refine yS Ad W 1 (459, [nN, vR 1, vI x2, vL v.1, nN, vI v.2, vL r331, nN, nN, nN, vL r333, nN, nN, nN, nN, nN, nN, nN, vL e344, nN, vL r366, nN, vI r370], [.int 0], (H0 s p0)) rfl ?_
         obtain rfl := sj h
         obtain ⟨rfl, rfl⟩ := hx1 ((0:Int32), (H0 s p0)) rfl
         exact retZ rfl rfl
     ·refine yT Ad W 463 422 rfl (XT.ll_le_t c367) ?_
      refine yS Ad W 3 (469, [nN, vR 1, vI x2, vL v.1, nN, vI v.2, vL r331, nN, nN, nN, vL r333, nN, nN, nN, nN, nN, nN, nN, vL e344, nN, vL r366, nN, nN], [.int (XT.cmpL r366 (8 : Int64))], (H0 s p0)) rfl ?_
      rcases qite h with ⟨c372, h⟩ | ⟨c372, h⟩
      ·refine yF Ad W 474 472 rfl (XT.ll_ge_f c372) ?_
       refine yS Ad W 1 (473, [nN, vR 1, vI x2, vL v.1, nN, vI v.2, vL r331, nN, nN, nN, vL r333, nN, nN, nN, nN, nN, nN, nN, vL e344, nN, vL r366, nN, nN], [.int 0], (H0 s p0)) rfl ?_
       obtain rfl := sj h
       obtain ⟨rfl, rfl⟩ := hx1 ((0:Int32), (H0 s p0)) rfl
       exact retZ rfl rfl
      ·refine yT Ad W 474 472 rfl (XT.ll_ge_t c372) ?_
       exact zM [ff,tt,tt,tt,ff,tt,tt,ff,ff,ff,ff,ff,ff,ff,ff,ff,ff,ff,ff,ff,ff,ff,ff] (tJ0_474 Ad W s p0 x2 v.1 v.2 r331 h hx0 hx1 hc)
    ·refine yF Ad W 405 403 rfl (XT.ll_eq_f c346) ?_
     refine yS Ad W 1 (404, [nN, vR 1, vI x2, vL v.1, nN, vI v.2, vL r331, nN, nN, nN, vL r333, nN, nN, nN, nN, nN, nN, nN, vL e344, nN, nN, nN, nN], [.int 0], (H0 s p0)) rfl ?_
     obtain rfl := sj h
     obtain ⟨rfl, rfl⟩ := hx1 ((0:Int32), (H0 s p0)) rfl
     exact retZ rfl rfl
   ·refine yF Ad W 354 352 rfl (XT.ll_eq_f c338) ?_
    refine yS Ad W 1 (353, [nN, vR 1, vI x2, vL v.1, nN, vI v.2, vL r331, nN, vL r332, nN, vL r333, nN, vL r334, nN, vL r336, nN, vL r337, nN, nN, nN, nN, nN, nN], [.int 0], (H0 s p0)) rfl ?_
    obtain rfl := sj h
    obtain ⟨rfl, rfl⟩ := hx1 ((0:Int32), (H0 s p0)) rfl
    exact retZ rfl rfl
  ·refine yF Ad W 317 315 rfl (XT.ll_eq_f c335) ?_
   refine yS Ad W 1 (316, [nN, vR 1, vI x2, vL v.1, nN, vI v.2, vL r331, nN, vL r332, nN, vL r333, nN, vL r334, nN, nN, nN, nN, nN, nN, nN, nN, nN, nN], [.int 0], (H0 s p0)) rfl ?_
   obtain rfl := sj h
   obtain ⟨rfl, rfl⟩ := hx1 ((0:Int32), (H0 s p0)) rfl
   exact retZ rfl rfl
 ·refine yT Ad W 485 253 rfl (XT.ii_ge_t c299) ?_
  obtain rfl := sj h
  exact zM [ff,tt,ff,tt,ff,ff,ff,ff,ff,ff,ff,ff,ff,ff,ff,ff,ff,ff,ff,ff,ff,ff,ff] (hx0 v.1 rfl)
def B0_499 (s : List Int32) (p0 : Ob) (v : Int32) : Option (((Int32 × QHeap)) ⊕ (Int32)) :=
  (if (7 : Int32) < v then some (.inl ((1 : Int32), (H0 s p0))) else (F7 p0 v).bind fun r377 => (F32 p0 v r377).bind fun r378 => (if r378 = (v.toInt64) then some (.inr (v + (1 : Int32))) else some (.inl ((0 : Int32), (H0 s p0)))))
theorem tB0_499 (Ad : QAd n0 ad) (W : QW Z a0) (s : List Int32) (p0 : Ob) (v : Int32) {r : ((Int32 × QHeap)) ⊕ (Int32)} {u : Option Value} {τ : QHeap} (h : B0_499 s p0 v = some r) (hx0 : ∀ x : Int32 × QHeap, r = .inl x → u = (some (Value.int x.1)) ∧ τ = x.2) (hc : ∀ x : Int32, r = .inr x → QTri l Z n0 ad 0 (499, [nN, vR 1, nN, nN, nN, vI x, nN, nN, nN, nN, nN, nN, nN, nN, nN, nN, nN, nN, nN, nN, nN, nN, nN], [], (H0 s p0)) u τ) : QTri l Z n0 ad 0 (499, [nN, vR 1, nN, nN, nN, vI v, nN, nN, nN, nN, nN, nN, nN, nN, nN, nN, nN, nN, nN, nN, nN, nN, nN], [], (H0 s p0)) u τ := by
 unfold B0_499 at h
 refine yS Ad W 2 (503, [nN, vR 1, nN, nN, nN, vI v, nN, nN, nN, nN, nN, nN, nN, nN, nN, nN, nN, nN, nN, nN, nN, nN, nN], [.int 7, .int v], (H0 s p0)) rfl ?_
 rcases qite h with ⟨c376, h⟩ | ⟨c376, h⟩
 ·refine yT Ad W 541 506 rfl (XT.ii_gt_t c376) ?_
  refine yS Ad W 1 (542, [nN, vR 1, nN, nN, nN, vI v, nN, nN, nN, nN, nN, nN, nN, nN, nN, nN, nN, nN, nN, nN, nN, nN, nN], [.int 1], (H0 s p0)) rfl ?_
  obtain rfl := sj h
  obtain ⟨rfl, rfl⟩ := hx0 ((1:Int32), (H0 s p0)) rfl
  exact retZ rfl rfl
 ·refine yF Ad W 541 506 rfl (XT.ii_gt_f c376) ?_
  refine yS Ad W 2 (509, [nN, vR 1, nN, nN, nN, vI v, nN, nN, nN, nN, nN, nN, nN, nN, nN, nN, nN, nN, nN, nN, nN, nN, nN], [.int v, .ref 1], (H0 s p0)) rfl ?_
  obtain ⟨r377, hr377, h⟩ := be h
  refine callV W (a := 1) (as := [.int v]) (rest := []) (w := (some (.int r377))) (σ₁ := (H0 s p0)) rfl rfl rfl rfl rfl rfl rfl rfl (tF7 Ad W s p0 v hr377) ?_
  refine yS Ad W 4 (519, [nN, vR 1, nN, nN, nN, vI v, vI r377, nN, nN, nN, nN, nN, nN, nN, nN, nN, nN, nN, nN, nN, nN, nN, nN], [.int r377, .int v, .ref 1], (H0 s p0)) rfl ?_
  obtain ⟨r378, hr378, h⟩ := be h
  refine callV W (a := 1) (as := [.int v, .int r377]) (rest := []) (w := (some (.long r378))) (σ₁ := (H0 s p0)) rfl rfl rfl rfl rfl rfl rfl rfl (tF32 Ad W s p0 v r377 hr378) ?_
  refine yS Ad W 5 (530, [nN, vR 1, nN, nN, nN, vI v, vI r377, vL r378, nN, nN, nN, nN, nN, nN, nN, nN, nN, nN, nN, nN, nN, nN, nN], [.int (XT.cmpL r378 (v.toInt64))], (H0 s p0)) rfl ?_
  rcases qite h with ⟨c379, h⟩ | ⟨c379, h⟩
  ·refine yT Ad W 535 533 rfl (XT.ll_eq_t c379) ?_
   refine yS Ad W 2 (499, [nN, vR 1, nN, nN, nN, vI (v + (1:Int32)), vI r377, vL r378, nN, nN, nN, nN, nN, nN, nN, nN, nN, nN, nN, nN, nN, nN, nN], [], (H0 s p0)) rfl ?_
   obtain rfl := sj h
   exact zM [ff,tt,ff,ff,ff,tt,ff,ff,ff,ff,ff,ff,ff,ff,ff,ff,ff,ff,ff,ff,ff,ff,ff] (hc (v + (1:Int32)) rfl)
  ·refine yF Ad W 535 533 rfl (XT.ll_eq_f c379) ?_
   refine yS Ad W 1 (534, [nN, vR 1, nN, nN, nN, vI v, vI r377, vL r378, nN, nN, nN, nN, nN, nN, nN, nN, nN, nN, nN, nN, nN, nN, nN], [.int 0], (H0 s p0)) rfl ?_
   obtain rfl := sj h
   obtain ⟨rfl, rfl⟩ := hx0 ((0:Int32), (H0 s p0)) rfl
   exact retZ rfl rfl
def J0_241 (s : List Int32) (p0 : Ob) (w0 : Int32) : Option (Int32 × QHeap) :=
  ((loopN (B0_247 s p0 w0) qN ((0 : Int64), (0 : Int32))).bind fun e373 => match e373 with | .inl e373a => (if e373a = (4294967296 : Int64) then (loopN (B0_499 s p0) qN (-8 : Int32)).bind fun e380 => some e380 else some ((0 : Int32), (H0 s p0))) | .inr e373a => some e373a)
theorem tJ0_241 (Ad : QAd n0 ad) (W : QW Z a0) (s : List Int32) (p0 : Ob) (w0 : Int32) {r : Int32 × QHeap} (h : J0_241 s p0 w0 = some r) : QTri l Z n0 ad 0 (241, [nN, vR 1, nN, nN, nN, nN, nN, nN, nN, nN, nN, nN, nN, nN, nN, nN, nN, nN, nN, nN, nN, nN, nN], [.int w0], (H0 s p0)) (some (Value.int r.1)) r.2 := by
 unfold J0_241 at h
 refine yS Ad W 3 (244, [nN, vR 1, vI w0, vL (0 : Int64), nN, nN, nN, nN, nN, nN, nN, nN, nN, nN, nN, nN, nN, nN, nN, nN, nN, nN, nN], [], (H0 s p0)) rfl ?_
 refine yS Ad W 2 (247, [nN, vR 1, vI w0, vL (0 : Int64), nN, vI 0, nN, nN, nN, nN, nN, nN, nN, nN, nN, nN, nN, nN, nN, nN, nN, nN, nN], [], (H0 s p0)) rfl ?_
 obtain ⟨e373, he373, h⟩ := be h
 refine zM [ff,tt,tt,tt,ff,tt,ff,ff,ff,ff,ff,ff,ff,ff,ff,ff,ff,ff,ff,ff,ff,ff,ff] (loopN_tri (B := B0_247 s p0 w0) (T := fun lv374 => QTri l Z n0 ad 0 (247, [nN, vR 1, vI w0, vL lv374.1, nN, vI lv374.2, nN, nN, nN, nN, nN, nN, nN, nN, nN, nN, nN, nN, nN, nN, nN, nN, nN], [], (H0 s p0)) (some (Value.int r.1)) r.2) (KE := fun e => match e with | .inl e373a => QTri l Z n0 ad 0 (485, [nN, vR 1, nN, vL e373a, nN, nN, nN, nN, nN, nN, nN, nN, nN, nN, nN, nN, nN, nN, nN, nN, nN, nN, nN], [], (H0 s p0)) (some (Value.int r.1)) r.2 | .inr e373a => (some (Value.int r.1)) = (some (Value.int e373a.1)) ∧ r.2 = e373a.2) (fun lv374 r hB hE hC => tB0_247 Ad W s p0 w0 lv374 hB (fun x q => hE _ q) (fun x q => hE _ q) (fun x q => hC x q)) qN ((0 : Int64), (0:Int32)) e373 he373 ?_)
 rcases e373 with e373a | e373a
 ·refine yS Ad W 3 (490, [nN, vR 1, nN, vL e373a, nN, nN, nN, nN, nN, nN, nN, nN, nN, nN, nN, nN, nN, nN, nN, nN, nN, nN, nN], [.int (XT.cmpL e373a (4294967296 : Int64))], (H0 s p0)) rfl ?_
  rcases qite h with ⟨c375, h⟩ | ⟨c375, h⟩
  ·refine yT Ad W 495 493 rfl (XT.ll_eq_t c375) ?_
   refine yS Ad W 2 (499, [nN, vR 1, nN, vL e373a, nN, vI (-8:Int32), nN, nN, nN, nN, nN, nN, nN, nN, nN, nN, nN, nN, nN, nN, nN, nN, nN], [], (H0 s p0)) rfl ?_
   obtain ⟨e380, he380, h⟩ := be h
   refine zM [ff,tt,ff,ff,ff,tt,ff,ff,ff,ff,ff,ff,ff,ff,ff,ff,ff,ff,ff,ff,ff,ff,ff] (loopN_tri (B := B0_499 s p0) (T := fun lv381 => QTri l Z n0 ad 0 (499, [nN, vR 1, nN, nN, nN, vI lv381, nN, nN, nN, nN, nN, nN, nN, nN, nN, nN, nN, nN, nN, nN, nN, nN, nN], [], (H0 s p0)) (some (Value.int r.1)) r.2) (KE := fun e380a => (some (Value.int r.1)) = (some (Value.int e380a.1)) ∧ r.2 = e380a.2) (fun lv381 r hB hE hC => tB0_499 Ad W s p0 lv381 hB (fun x q => hE _ q) (fun x q => hC x q)) qN (-8:Int32) e380 he380 ?_)
   obtain rfl := sj h
   exact ⟨rfl, rfl⟩
  ·refine yF Ad W 495 493 rfl (XT.ll_eq_f c375) ?_
   refine yS Ad W 1 (494, [nN, vR 1, nN, vL e373a, nN, nN, nN, nN, nN, nN, nN, nN, nN, nN, nN, nN, nN, nN, nN, nN, nN, nN, nN], [.int 0], (H0 s p0)) rfl ?_
   obtain rfl := sj h
   exact retZ rfl rfl
 ·obtain rfl := sj h
  exact ⟨rfl, rfl⟩
/-- the law -/
def F0 (s : List Int32) : Option (Int32 × QHeap) :=
 (F1 (12:Int32) (4:Int32)).bind fun r8 => ((loopN (B0_13 s) qN ((0:Int32), r8)).bind fun e294 => match e294 with | .inl e294a => (F12 e294a).bind fun r296 => (if (0:Int32) < (s.length.toInt32) then (aget s (0:Int32)).bind fun y298 => (J0_241 s r296.2 (y298 >>> ((1:Int32) &&& 31))) else (J0_241 s r296.2 (0:Int32))) | .inr e294a => some e294a)
theorem tF0 (Ad : QAd n0 ad) (W : QW Z a0) (s : List Int32) {r : Int32 × QHeap} (h : F0 s = some r) : QTri l Z n0 ad 0 (0, qentry [.ref 0] (pMaxL 0), [], [iC s]) (some (Value.int r.1)) r.2 := by
 unfold F0 at h
 refine yS Ad W 1 (3, [vR 0, nN, nN, nN, nN, nN, nN, nN, nN, nN, nN, nN, nN, nN, nN, nN, nN, nN, nN, nN, nN, nN, nN], [.ref 1], [iC s, .inl [.int (fA ob0), .int (fB ob0), .int (fC ob0), .int (fD ob0), .int (fE ob0), .int (fF ob0), .int (fG ob0), .int (fH ob0), .int (fI ob0), .int (fJ ob0), .int (fK ob0), .int (fL ob0), .long (fM ob0), .int (fN ob0), .null, .null, .null, .null, .null, .null, .null, .null, .null, .null, .null, .null, .null, .null, .null, .null, .null, .null, .null, .null, .int (fz ob0), .int (fxA ob0), .int (fxB ob0), .int (fxC ob0), .int (fxD ob0), .int (fxE ob0), .int (fxF ob0), .int (fxG ob0), .int (fxH ob0), .int (fxI ob0), .int (fxJ ob0), .int (fxK ob0), .int (fxL ob0), .int (fxM ob0)]]) rfl ?_
 refine yS Ad W 3 (7, [vR 0, nN, nN, nN, nN, nN, nN, nN, nN, nN, nN, nN, nN, nN, nN, nN, nN, nN, nN, nN, nN, nN, nN], [.int 4, .int 12, .ref 1, .ref 1], [iC s, .inl [.int (fA ob0), .int (fB ob0), .int (fC ob0), .int (fD ob0), .int (fE ob0), .int (fF ob0), .int (fG ob0), .int (fH ob0), .int (fI ob0), .int (fJ ob0), .int (fK ob0), .int (fL ob0), .long (fM ob0), .int (fN ob0), .null, .null, .null, .null, .null, .null, .null, .null, .null, .null, .null, .null, .null, .null, .null, .null, .null, .null, .null, .null, .int (fz ob0), .int (fxA ob0), .int (fxB ob0), .int (fxC ob0), .int (fxD ob0), .int (fxE ob0), .int (fxF ob0), .int (fxG ob0), .int (fxH ob0), .int (fxI ob0), .int (fxJ ob0), .int (fxK ob0), .int (fxL ob0), .int (fxM ob0)]]) rfl ?_
 obtain ⟨r8, hr8, h⟩ := be h
 refine callI W (a := 1) (as := [.int 12, .int 4]) (rest := [.ref 1]) (σ₁ := (H0 s r8)) rfl rfl rfl rfl rfl rfl (tF1 Ad W s (12:Int32) (4:Int32) hr8) ?_
 refine yS Ad W 3 (13, [vR 0, vR 1, vI 0, nN, nN, nN, nN, nN, nN, nN, nN, nN, nN, nN, nN, nN, nN, nN, nN, nN, nN, nN, nN], [], (H0 s r8)) rfl ?_
 obtain ⟨e294, he294, h⟩ := be h
 refine zM [tt,tt,tt,ff,ff,ff,ff,ff,ff,ff,ff,ff,ff,ff,ff,ff,ff,ff,ff,ff,ff,ff,ff] (loopN_tri (B := B0_13 s) (T := fun lv295 => QTri l Z n0 ad 0 (13, [vR 0, vR 1, vI lv295.1, nN, nN, nN, nN, nN, nN, nN, nN, nN, nN, nN, nN, nN, nN, nN, nN, nN, nN, nN, nN], [], (H0 s lv295.2)) (some (Value.int r.1)) r.2) (KE := fun e => match e with | .inl e294a => QTri l Z n0 ad 0 (222, [vR 0, vR 1, nN, nN, nN, nN, nN, nN, nN, nN, nN, nN, nN, nN, nN, nN, nN, nN, nN, nN, nN, nN, nN], [], (H0 s e294a)) (some (Value.int r.1)) r.2 | .inr e294a => (some (Value.int r.1)) = (some (Value.int e294a.1)) ∧ r.2 = e294a.2) (fun lv295 r hB hE hC => tB0_13 Ad W s lv295 hB (fun x q => hE _ q) (fun x q => hE _ q) (fun x q => hC x q)) qN ((0:Int32), r8) e294 he294 ?_)
 rcases e294 with e294a | e294a
 ·refine yS Ad W 1 (223, [vR 0, vR 1, nN, nN, nN, nN, nN, nN, nN, nN, nN, nN, nN, nN, nN, nN, nN, nN, nN, nN, nN, nN, nN], [.ref 1], (H0 s e294a)) rfl ?_
  obtain ⟨r296, hr296, h⟩ := be h
  refine callV W (a := 1) (as := []) (rest := []) (w := (some (.int r296.1))) (σ₁ := (H0 s r296.2)) rfl rfl rfl rfl rfl rfl rfl rfl (tF12 Ad W s e294a hr296) ?_
  refine yS Ad W 3 (229, [vR 0, vR 1, nN, nN, nN, nN, nN, nN, nN, nN, nN, nN, nN, nN, nN, nN, nN, nN, nN, nN, nN, nN, nN], [.int (s.length.toInt32)], (H0 s r296.2)) rfl ?_
  rcases qite h with ⟨c297, h⟩ | ⟨c297, h⟩
  ·refine yF Ad W 240 232 rfl (XT.i0_le_f c297) ?_
   refine yS Ad W 2 (234, [vR 0, vR 1, nN, nN, nN, nN, nN, nN, nN, nN, nN, nN, nN, nN, nN, nN, nN, nN, nN, nN, nN, nN, nN], [.int 0, .ref 0], (H0 s r296.2)) rfl ?_
   obtain ⟨y298, hy298, h⟩ := be h
   refine zB Ad W (f := fun y298 => (235, [vR 0, vR 1, nN, nN, nN, nN, nN, nN, nN, nN, nN, nN, nN, nN, nN, nN, nN, nN, nN, nN, nN, nN, nN], [.int y298], (H0 s r296.2))) rfl hy298 ?_
   refine yS Ad W 3 (241, [vR 0, vR 1, nN, nN, nN, nN, nN, nN, nN, nN, nN, nN, nN, nN, nN, nN, nN, nN, nN, nN, nN, nN, nN], [.int (y298 >>> ((1:Int32) &&& 31))], (H0 s r296.2)) rfl ?_
   exact zM [ff,tt,ff,ff,ff,ff,ff,ff,ff,ff,ff,ff,ff,ff,ff,ff,ff,ff,ff,ff,ff,ff,ff] (tJ0_241 Ad W s r296.2 (y298 >>> ((1:Int32) &&& 31)) h)
  ·refine yT Ad W 240 232 rfl (XT.i0_le_t c297) ?_
   refine yS Ad W 1 (241, [vR 0, vR 1, nN, nN, nN, nN, nN, nN, nN, nN, nN, nN, nN, nN, nN, nN, nN, nN, nN, nN, nN, nN, nN], [.int 0], (H0 s r296.2)) rfl ?_
   exact zM [ff,tt,ff,ff,ff,ff,ff,ff,ff,ff,ff,ff,ff,ff,ff,ff,ff,ff,ff,ff,ff,ff,ff] (tJ0_241 Ad W s r296.2 (0:Int32) h)
 ·obtain rfl := sj h
  exact ⟨rfl, rfl⟩
end Walks
theorem script_ok {s : State} {w : Value} (hfit : Fit s) (h1 : (Jvm.Cond.arrayOf (Jvm.Term.arg 0) Jvm.ClassFile.FieldType.int).value #[w] s none s [] = some true) (h2 : (Jvm.Cond.le (Jvm.Term.length (Jvm.Term.arg 0)) (Jvm.Term.int 260)).value #[w] s none s [] = some true) :
    ∃ (a : Addr) (c : Cell) (xs : List Int32), w = .ref a ∧ Arr s s.heap a c .int ∧ c.slots = (xs.map Value.int).toArray ∧ xs.length ≤ 260 := by
  obtain ⟨a, ha⟩ := arr_v h1
  obtain ⟨c, A⟩ := Arr.start ha h1
  have hw : w = .ref a := by simpa [Term.eval] using ha
  subst hw
  have hel : ∀ i, i < c.slots.size → ∃ x, c.slots[i]? = some (.int x) := fun i hi => by
    have q := hfit A.1 hi
    obtain ⟨hs, k, hk, comp, hkind⟩ := A.2.1
    have e : s.slotType? c.cls c.vm i = some .int := by
      cases hq : c.vm <;> first | exact absurd hq (hs _) | simp [State.slotType?, hk, hkind]
    have q2 : fits .int c.slots[i] = true := by simpa [State.fitsSlot, e] using q
    obtain ⟨x, hx⟩ := fit_I q2 (Or.inl rfl)
    exact ⟨x, by rw [Array.getElem?_eq_getElem hi, hx]⟩
  refine ⟨a, c, c.slots.toList.map (fun v => match v with | .int x => x | _ => 0), rfl, A, ?_, ?_⟩
  · apply Array.ext'
    rw [List.map_map]
    have : c.slots.toList.map (Value.int ∘ fun v => match v with | .int x => x | _ => 0) = c.slots.toList := by
      conv => rhs; rw [← List.map_id c.slots.toList]
      refine List.map_congr_left fun v hv => ?_
      obtain ⟨i, hi⟩ := List.mem_iff_getElem?.mp hv
      rw [Array.getElem?_toList] at hi
      obtain ⟨x, hx⟩ := hel i (Array.getElem?_eq_some_iff.mp hi).1
      rw [hi] at hx
      cases hx
      rfl
    exact this.symm
  · have hl := A.fin (Vm.Alike.refl _)
    simp only [List.length_map, Array.length_toList]
    simp only [Cond.value, Term.eval] at h2
    simp [hl] at h2
    by_cases hs : c.slots.size < 2147483648
    · rw [if_pos hs] at h2
      have h3 : c.slots.size.toInt32 ≤ 260 := by simpa using h2
      rw [Int32.le_iff_toInt_le] at h3
      have h4 : (c.slots.size.toInt32).toInt = c.slots.size := Int32.toInt_ofNat_of_lt (by omega)
      rw [h4] at h3
      have h5 : (260 : Int32).toInt = 260 := rfl
      rw [h5] at h3
      omega
    · rw [if_neg hs] at h2
      simp at h2
set_option maxHeartbeats 4000000
theorem i_lt {x y : Int32} : x < y ↔ x.toInt < y.toInt := Int32.lt_iff_toInt_lt
theorem i_eq {x y : Int32} : x = y ↔ x.toInt = y.toInt := Int32.toInt_inj.symm
theorem i_lo (x : Int32) : -2147483648 ≤ x.toInt := Int32.le_toInt x
theorem i_hi (x : Int32) : x.toInt < 2147483648 := Int32.toInt_lt x
theorem i_add {x y : Int32} (h1 : -2147483648 ≤ x.toInt + y.toInt) (h2 : x.toInt + y.toInt < 2147483648) : (x + y).toInt = x.toInt + y.toInt := XT.add32 ⟨h1, by omega⟩
theorem i_sub {x y : Int32} (h1 : -2147483648 ≤ x.toInt - y.toInt) (h2 : x.toInt - y.toInt < 2147483648) : (x - y).toInt = x.toInt - y.toInt := XT.sub32 ⟨h1, by omega⟩
theorem i_nat (x : Int32) : x.toNatClampNeg = x.toInt.toNat := rfl
theorem aget_at {α : Type} {xs : List α} {j : Int32} {n : Nat} (hj : j.toInt = n) (hn : n < xs.length) : aget xs j = some xs[n] := by
 have h0 : ¬ j < 0 := by rw [i_lt]; show ¬ j.toInt < 0; omega
 unfold aget
 rw [if_neg h0, i_nat, hj]
 simp [hn]
theorem aset_at {α : Type} {xs : List α} {j : Int32} {n : Nat} {v : α} (hj : j.toInt = n) (hn : n < xs.length) : aset xs j v = some (xs.set n v) := by
 have h0 : ¬ j < 0 := by rw [i_lt]; show ¬ j.toInt < 0; omega
 unfold aset
 have e : j.toNatClampNeg = n := by rw [i_nat, hj]; simp
 rw [if_neg h0, e, if_pos hn]
theorem small_cases {x : Int32} (h0 : 0 ≤ x.toInt) {n : Nat} (h1 : x.toInt < n) {P : Int32 → Prop} (h : ∀ m : Nat, m < n → P (Int32.ofInt m)) : P x := by
 have e : Int32.ofInt (x.toInt.toNat : Nat) = x := by
  rw [Int.toNat_of_nonneg h0, Int32.ofInt_toInt]
 rw [← e]
 exact h _ (by omega)
def okP {α : Type} (m : Option α) (P : α → Prop) : Prop := ∃ a, m = some a ∧ P a
theorem okP.some {α : Type} {a : α} {P : α → Prop} (h : P a) : okP (some a) P := ⟨a, rfl, h⟩
theorem okP.bind {α β : Type} {m : Option α} {f : α → Option β} {P : β → Prop} (h : okP m fun a => okP (f a) P) : okP (m.bind f) P := by
 obtain ⟨a, e, b, e2, h2⟩ := h
 exact ⟨b, by rw [e]; exact e2, h2⟩
theorem okP.ite {α : Type} {c : Prop} [Decidable c] {a b : Option α} {P : α → Prop} (h1 : c → okP a P) (h2 : ¬ c → okP b P) : okP (if c then a else b) P := by
 by_cases h : c
 ·rw [if_pos h]; exact h1 h
 ·rw [if_neg h]; exact h2 h
theorem okP.mono {α : Type} {m : Option α} {P Q : α → Prop} (h : okP m P) (k : ∀ a, P a → Q a) : okP m Q := by
 obtain ⟨a, e, h⟩ := h
 exact ⟨a, e, k a h⟩
theorem okP.of {α : Type} {m : Option α} {a : α} {P : α → Prop} (e : m = Option.some a) (h : P a) : okP m P := ⟨a, e, h⟩
theorem okP.aget {α : Type} {xs : List α} {j : Int32} {P : α → Prop} (h0 : 0 ≤ j.toInt) (h1 : j.toInt < xs.length) (k : ∀ v, xs[j.toInt.toNat]? = Option.some v → P v) : okP (aget xs j) P :=
 ⟨_, aget_at (n := j.toInt.toNat) (by omega) (by omega), k _ (List.getElem?_eq_getElem _)⟩
theorem okP.aset {α : Type} {xs : List α} {j : Int32} {v : α} {P : List α → Prop} (h0 : 0 ≤ j.toInt) (h1 : j.toInt < xs.length) (k : P (xs.set j.toInt.toNat v)) : okP (aset xs j v) P :=
 ⟨_, aset_at (n := j.toInt.toNat) (by omega) (by omega), k⟩
theorem okP.loop {V E : Type} {B : V → Option (E ⊕ V)} {P : E → Prop} {n : Nat} {v : V} (I : V → Prop) (μ : V → Nat) (hv : I v) (hm : μ v < n) (hB : ∀ v, I v → okP (B v) (fun r => Sum.elim P (fun v' => I v' ∧ μ v' < μ v) r)) : okP (loopN B n v) P := by
 refine loopN_inv I P μ ?_ n v hv hm
 intro v hv
 obtain ⟨r, e, h⟩ := hB v hv
 cases r with
 | inl x => exact Or.inl ⟨x, e, h⟩
 | inr x => exact Or.inr ⟨x, e, h⟩
theorem len_i {n : Nat} (h : n ≤ 1000) : (n.toInt32).toInt = n := by
 have e : n.toInt32 = Int32.ofInt n := rfl
 rw [e, Int32.toInt_ofInt_of_le (by show _ ≤ (n : Int); omega) (by show (n : Int) < _; omega)]
theorem and_rng {x m : Int32} (hm : 0 ≤ m.toInt) : 0 ≤ (x &&& m).toInt ∧ (x &&& m).toInt ≤ m.toInt := by
 have e : (x &&& m).toBitVec.toNat = x.toBitVec.toNat &&& m.toBitVec.toNat := BitVec.toNat_and ..
 have l : (x &&& m).toBitVec.toNat ≤ m.toBitVec.toNat := by rw [e]; exact Nat.and_le_right
 have c1 : m.toInt = if 2 * m.toBitVec.toNat < 2 ^ 32 then (m.toBitVec.toNat : Int) else m.toBitVec.toNat - (2 ^ 32 : Nat) := BitVec.toInt_eq_toNat_cond m.toBitVec
 have c2 : (x &&& m).toInt = if 2 * (x &&& m).toBitVec.toNat < 2 ^ 32 then ((x &&& m).toBitVec.toNat : Int) else (x &&& m).toBitVec.toNat - (2 ^ 32 : Nat) := BitVec.toInt_eq_toNat_cond (x &&& m).toBitVec
 have b : m.toBitVec.toNat < 2 ^ 32 := m.toBitVec.isLt
 by_cases h : 2 * m.toBitVec.toNat < 2 ^ 32
 ·rw [if_pos h] at c1
  rw [if_pos (by omega)] at c2
  omega
 ·rw [if_neg h] at c1
  omega
def sFit (s : List Int32) (τ : QHeap) : Prop := τ.length - List.length ([Sum.inr (Sum.inl (FieldType.int, s))] : QHeap) ≤ room_1.cells ∧ qhs τ - qhs [Sum.inr (Sum.inl (FieldType.int, s))] ≤ room_1.slots
theorem inc1 {x : Int32} (h : x.toInt < 2147483647) : (x + 1).toInt = x.toInt + 1 := by
 have := i_lo x
 have e1 : (1 : Int32).toInt = 1 := rfl
 rw [i_add (by omega) (by omega), e1]
theorem J_lt {x y : Int64} : x < y ↔ x.toInt < y.toInt := Int64.lt_iff_toInt_lt
theorem J_e (x : Int32) : x.toInt64.toInt = x.toInt := Int32.toInt_toInt64 x
theorem J_add {x y : Int64} (h1 : -9223372036854775808 ≤ x.toInt + y.toInt) (h2 : x.toInt + y.toInt < 9223372036854775808) : (x + y).toInt = x.toInt + y.toInt := by
 rw [Int64.toInt_add, Int.bmod_eq_of_le (by omega) (by omega)]
theorem J_sub {x y : Int64} (h1 : -9223372036854775808 ≤ x.toInt - y.toInt) (h2 : x.toInt - y.toInt < 9223372036854775808) : (x - y).toInt = x.toInt - y.toInt := by
 rw [Int64.toInt_sub, Int.bmod_eq_of_le (by omega) (by omega)]
theorem J_mul {x y : Int64} (h1 : -9223372036854775808 ≤ x.toInt * y.toInt) (h2 : x.toInt * y.toInt < 9223372036854775808) : (x * y).toInt = x.toInt * y.toInt := by
 rw [Int64.toInt_mul, Int.bmod_eq_of_le (by omega) (by omega)]
def at' (l : List Int32) (j : Nat) : Int32 := l.getD j 0
def gd (l : List Int32) (j : Nat) : Int := (at' l j).toInt
theorem at_set {l : List Int32} {i k : Nat} {v : Int32} (hi : i < l.length) : at' (l.set i v) k = if k = i then v else at' l k := by
 unfold at'
 rw [List.getD_eq_getElem?_getD, List.getD_eq_getElem?_getD, List.getElem?_set]
 by_cases h : i = k
 ·rw [if_pos h, if_pos h.symm, if_pos hi]; rfl
 ·rw [if_neg h, if_neg (fun w => h w.symm)]
theorem gd_set {l : List Int32} {i k : Nat} {v : Int32} (hi : i < l.length) : gd (l.set i v) k = if k = i then v.toInt else gd l k := by
 unfold gd
 rw [at_set hi]
 split <;> rfl
theorem ag {l : List Int32} {x : Int32} {a : Nat} (hx : x.toInt = a) (ha : a < l.length) : aget l x = some (at' l a) := by
 unfold at'
 rw [aget_at hx ha, List.getD_eq_getElem?_getD, List.getElem?_eq_getElem ha]; rfl
theorem ls {α : Type} {l : List α} {m n : Nat} {v : α} (h : l.length = n) : (l.set m v).length = n := by rw [List.length_set]; exact h
abbrev CT := List Int32 × List Int32 × Int32 × Int32 × Int32
abbrev FT := Int32 × Int32 × List Int32 × Int32
abbrev PT := List Int32 × List Int32
abbrev KT := List Int32 × List Int32 × Int32
abbrev DT := List Int32 × List Int32 × List Int32 × List Int32 × List Int32 × Int32 × Int32
abbrev MT := List Int64 × List Int32 × Int32
abbrev BT := List Int32 × List Int32 × List Int32 × List Int32 × Int32
abbrev AT := CT × CT × FT × PT × KT × DT × MT × BT
def A (o : Ob) : AT := ((fO o, fP o, fxB o, fxC o, fxD o), (fQ o, fR o, fxE o, fxF o, fxG o), (fz o, fxA o, fb o, fxK o), (fS o, fT o), (fU o, fV o, fxH o), (fW o, fX o, fY o, fZ o, fa o, fxI o, fxJ o), (fd o, fh o, fxL o), (fi o, fq o, fu o, fy o, fxM o))
theorem g_curVal {c : CT} {s : CT} {f : FT} {p : PT} {k : KT} {d : DT} {m : MT} {b : BT} {o : Ob} (h : A o = (c, s, f, p, k, d, m, b)) : fO o = c.1 := congrArg (fun x : AT => x.1.1) h
theorem g_curTgt {c : CT} {s : CT} {f : FT} {p : PT} {k : KT} {d : DT} {m : MT} {b : BT} {o : Ob} (h : A o = (c, s, f, p, k, d, m, b)) : fP o = c.2.1 := congrArg (fun x : AT => x.1.2.1) h
theorem g_curCount {c : CT} {s : CT} {f : FT} {p : PT} {k : KT} {d : DT} {m : MT} {b : BT} {o : Ob} (h : A o = (c, s, f, p, k, d, m, b)) : fxB o = c.2.2.1 := congrArg (fun x : AT => x.1.2.2.1) h
theorem g_curDefault {c : CT} {s : CT} {f : FT} {p : PT} {k : KT} {d : DT} {m : MT} {b : BT} {o : Ob} (h : A o = (c, s, f, p, k, d, m, b)) : fxC o = c.2.2.2.1 := congrArg (fun x : AT => x.1.2.2.2.1) h
theorem g_dirty {c : CT} {s : CT} {f : FT} {p : PT} {k : KT} {d : DT} {m : MT} {b : BT} {o : Ob} (h : A o = (c, s, f, p, k, d, m, b)) : fxD o = c.2.2.2.2 := congrArg (fun x : AT => x.1.2.2.2.2) h
theorem g_snapVal {c : CT} {s : CT} {f : FT} {p : PT} {k : KT} {d : DT} {m : MT} {b : BT} {o : Ob} (h : A o = (c, s, f, p, k, d, m, b)) : fQ o = s.1 := congrArg (fun x : AT => x.2.1.1) h
theorem g_snapTgt {c : CT} {s : CT} {f : FT} {p : PT} {k : KT} {d : DT} {m : MT} {b : BT} {o : Ob} (h : A o = (c, s, f, p, k, d, m, b)) : fR o = s.2.1 := congrArg (fun x : AT => x.2.1.2.1) h
theorem g_snapCount {c : CT} {s : CT} {f : FT} {p : PT} {k : KT} {d : DT} {m : MT} {b : BT} {o : Ob} (h : A o = (c, s, f, p, k, d, m, b)) : fxE o = s.2.2.1 := congrArg (fun x : AT => x.2.1.2.2.1) h
theorem g_snapDefault {c : CT} {s : CT} {f : FT} {p : PT} {k : KT} {d : DT} {m : MT} {b : BT} {o : Ob} (h : A o = (c, s, f, p, k, d, m, b)) : fxF o = s.2.2.2.1 := congrArg (fun x : AT => x.2.1.2.2.2.1) h
theorem g_hasSnap {c : CT} {s : CT} {f : FT} {p : PT} {k : KT} {d : DT} {m : MT} {b : BT} {o : Ob} (h : A o = (c, s, f, p, k, d, m, b)) : fxG o = s.2.2.2.2 := congrArg (fun x : AT => x.2.1.2.2.2.2) h
theorem g_cap {c : CT} {s : CT} {f : FT} {p : PT} {k : KT} {d : DT} {m : MT} {b : BT} {o : Ob} (h : A o = (c, s, f, p, k, d, m, b)) : fz o = f.1 := congrArg (fun x : AT => x.2.2.1.1) h
theorem g_targets {c : CT} {s : CT} {f : FT} {p : PT} {k : KT} {d : DT} {m : MT} {b : BT} {o : Ob} (h : A o = (c, s, f, p, k, d, m, b)) : fxA o = f.2.1 := congrArg (fun x : AT => x.2.2.1.2.1) h
theorem g_bestCost {c : CT} {s : CT} {f : FT} {p : PT} {k : KT} {d : DT} {m : MT} {b : BT} {o : Ob} (h : A o = (c, s, f, p, k, d, m, b)) : fS o = p.1 := congrArg (fun x : AT => x.2.2.2.1.1) h
theorem g_bestCut {c : CT} {s : CT} {f : FT} {p : PT} {k : KT} {d : DT} {m : MT} {b : BT} {o : Ob} (h : A o = (c, s, f, p, k, d, m, b)) : fT o = p.2 := congrArg (fun x : AT => x.2.2.2.1.2) h
theorem g_clStart {c : CT} {s : CT} {f : FT} {p : PT} {k : KT} {d : DT} {m : MT} {b : BT} {o : Ob} (h : A o = (c, s, f, p, k, d, m, b)) : fU o = k.1 := congrArg (fun x : AT => x.2.2.2.2.1.1) h
theorem g_clEnd {c : CT} {s : CT} {f : FT} {p : PT} {k : KT} {d : DT} {m : MT} {b : BT} {o : Ob} (h : A o = (c, s, f, p, k, d, m, b)) : fV o = k.2.1 := congrArg (fun x : AT => x.2.2.2.2.1.2.1) h
theorem g_clCount {c : CT} {s : CT} {f : FT} {p : PT} {k : KT} {d : DT} {m : MT} {b : BT} {o : Ob} (h : A o = (c, s, f, p, k, d, m, b)) : fxH o = k.2.2 := congrArg (fun x : AT => x.2.2.2.2.1.2.2) h
theorem g_opc {c : CT} {s : CT} {f : FT} {p : PT} {k : KT} {d : DT} {m : MT} {b : BT} {o : Ob} (h : A o = (c, s, f, p, k, d, m, b)) : fW o = d.1 := congrArg (fun x : AT => x.2.2.2.2.2.1.1) h
theorem g_argA {c : CT} {s : CT} {f : FT} {p : PT} {k : KT} {d : DT} {m : MT} {b : BT} {o : Ob} (h : A o = (c, s, f, p, k, d, m, b)) : fX o = d.2.1 := congrArg (fun x : AT => x.2.2.2.2.2.1.2.1) h
theorem g_argB {c : CT} {s : CT} {f : FT} {p : PT} {k : KT} {d : DT} {m : MT} {b : BT} {o : Ob} (h : A o = (c, s, f, p, k, d, m, b)) : fY o = d.2.2.1 := congrArg (fun x : AT => x.2.2.2.2.2.1.2.2.1) h
theorem g_argC {c : CT} {s : CT} {f : FT} {p : PT} {k : KT} {d : DT} {m : MT} {b : BT} {o : Ob} (h : A o = (c, s, f, p, k, d, m, b)) : fZ o = d.2.2.2.1 := congrArg (fun x : AT => x.2.2.2.2.2.1.2.2.2.1) h
theorem g_argD {c : CT} {s : CT} {f : FT} {p : PT} {k : KT} {d : DT} {m : MT} {b : BT} {o : Ob} (h : A o = (c, s, f, p, k, d, m, b)) : fa o = d.2.2.2.2.1 := congrArg (fun x : AT => x.2.2.2.2.2.1.2.2.2.2.1) h
theorem g_codeLen {c : CT} {s : CT} {f : FT} {p : PT} {k : KT} {d : DT} {m : MT} {b : BT} {o : Ob} (h : A o = (c, s, f, p, k, d, m, b)) : fxI o = d.2.2.2.2.2.1 := congrArg (fun x : AT => x.2.2.2.2.2.1.2.2.2.2.2.1) h
theorem g_rootPc {c : CT} {s : CT} {f : FT} {p : PT} {k : KT} {d : DT} {m : MT} {b : BT} {o : Ob} (h : A o = (c, s, f, p, k, d, m, b)) : fxJ o = d.2.2.2.2.2.2 := congrArg (fun x : AT => x.2.2.2.2.2.1.2.2.2.2.2.2) h
theorem g_maskPool {c : CT} {s : CT} {f : FT} {p : PT} {k : KT} {d : DT} {m : MT} {b : BT} {o : Ob} (h : A o = (c, s, f, p, k, d, m, b)) : fd o = m.1 := congrArg (fun x : AT => x.2.2.2.2.2.2.1.1) h
theorem g_maskTarget {c : CT} {s : CT} {f : FT} {p : PT} {k : KT} {d : DT} {m : MT} {b : BT} {o : Ob} (h : A o = (c, s, f, p, k, d, m, b)) : fh o = m.2.1 := congrArg (fun x : AT => x.2.2.2.2.2.2.1.2.1) h
theorem g_maskUsed {c : CT} {s : CT} {f : FT} {p : PT} {k : KT} {d : DT} {m : MT} {b : BT} {o : Ob} (h : A o = (c, s, f, p, k, d, m, b)) : fxL o = m.2.2 := congrArg (fun x : AT => x.2.2.2.2.2.2.1.2.2) h
theorem g_stLo {c : CT} {s : CT} {f : FT} {p : PT} {k : KT} {d : DT} {m : MT} {b : BT} {o : Ob} (h : A o = (c, s, f, p, k, d, m, b)) : fi o = b.1 := congrArg (fun x : AT => x.2.2.2.2.2.2.2.1) h
theorem g_stHi {c : CT} {s : CT} {f : FT} {p : PT} {k : KT} {d : DT} {m : MT} {b : BT} {o : Ob} (h : A o = (c, s, f, p, k, d, m, b)) : fq o = b.2.1 := congrArg (fun x : AT => x.2.2.2.2.2.2.2.2.1) h
theorem g_stParent {c : CT} {s : CT} {f : FT} {p : PT} {k : KT} {d : DT} {m : MT} {b : BT} {o : Ob} (h : A o = (c, s, f, p, k, d, m, b)) : fu o = b.2.2.1 := congrArg (fun x : AT => x.2.2.2.2.2.2.2.2.2.1) h
theorem g_stSlot {c : CT} {s : CT} {f : FT} {p : PT} {k : KT} {d : DT} {m : MT} {b : BT} {o : Ob} (h : A o = (c, s, f, p, k, d, m, b)) : fy o = b.2.2.2.1 := congrArg (fun x : AT => x.2.2.2.2.2.2.2.2.2.2.1) h
theorem g_sp {c : CT} {s : CT} {f : FT} {p : PT} {k : KT} {d : DT} {m : MT} {b : BT} {o : Ob} (h : A o = (c, s, f, p, k, d, m, b)) : fxM o = b.2.2.2.2 := congrArg (fun x : AT => x.2.2.2.2.2.2.2.2.2.2.2) h
theorem w_best {c : CT} {s : CT} {f : FT} {p : PT} {k : KT} {d : DT} {m : MT} {b : BT} {o : Ob} (h : A o = (c, s, f, p, k, d, m, b)) (u v : List Int32) : A (sT (sS o u) v) = (c, s, f, (u, v), k, d, m, b) := by
 have : A (sT (sS o u) v) = ((A o).1, (A o).2.1, (A o).2.2.1, (u, v), (A o).2.2.2.2) := by dsimp only [A, fA, fB, fC, fD, fE, fF, fG, fH, fI, fJ, fK, fL, fM, fN, fO, fP, fQ, fR, fS, fT, fU, fV, fW, fX, fY, fZ, fa, fb, fd, fh, fi, fq, fu, fy, fz, fxA, fxB, fxC, fxD, fxE, fxF, fxG, fxH, fxI, fxJ, fxK, fxL, fxM, sA, sB, sC, sD, sE, sF, sG, sH, sI, sJ, sK, sL, sM, sN, sO, sP, sQ, sR, sS, sT, sU, sV, sW, sX, sY, sZ, sa, sb, sd, sh, si, sq, su, sy, sz, sxA, sxB, sxC, sxD, sxE, sxF, sxG, sxH, sxI, sxJ, sxK, sxL, sxM]
 rw [this, h]
theorem w_cost {c : CT} {s : CT} {f : FT} {p : PT} {k : KT} {d : DT} {m : MT} {b : BT} {o : Ob} (h : A o = (c, s, f, p, k, d, m, b)) (u : List Int32) : A (sS o u) = (c, s, f, (u, p.2), k, d, m, b) := by
 have : A (sS o u) = ((A o).1, (A o).2.1, (A o).2.2.1, (u, (A o).2.2.2.1.2), (A o).2.2.2.2) := by dsimp only [A, fA, fB, fC, fD, fE, fF, fG, fH, fI, fJ, fK, fL, fM, fN, fO, fP, fQ, fR, fS, fT, fU, fV, fW, fX, fY, fZ, fa, fb, fd, fh, fi, fq, fu, fy, fz, fxA, fxB, fxC, fxD, fxE, fxF, fxG, fxH, fxI, fxJ, fxK, fxL, fxM, sA, sB, sC, sD, sE, sF, sG, sH, sI, sJ, sK, sL, sM, sN, sO, sP, sQ, sR, sS, sT, sU, sV, sW, sX, sY, sZ, sa, sb, sd, sh, si, sq, su, sy, sz, sxA, sxB, sxC, sxD, sxE, sxF, sxG, sxH, sxI, sxJ, sxK, sxL, sxM]
 rw [this, h]
theorem w_cl {c : CT} {s : CT} {f : FT} {p : PT} {k : KT} {d : DT} {m : MT} {b : BT} {o : Ob} (h : A o = (c, s, f, p, k, d, m, b)) (u v : List Int32) : A (sV (sU o u) v) = (c, s, f, p, (u, v, k.2.2), d, m, b) := by
 have : A (sV (sU o u) v) = ((A o).1, (A o).2.1, (A o).2.2.1, (A o).2.2.2.1, (u, v, (A o).2.2.2.2.1.2.2), (A o).2.2.2.2.2) := by dsimp only [A, fA, fB, fC, fD, fE, fF, fG, fH, fI, fJ, fK, fL, fM, fN, fO, fP, fQ, fR, fS, fT, fU, fV, fW, fX, fY, fZ, fa, fb, fd, fh, fi, fq, fu, fy, fz, fxA, fxB, fxC, fxD, fxE, fxF, fxG, fxH, fxI, fxJ, fxK, fxL, fxM, sA, sB, sC, sD, sE, sF, sG, sH, sI, sJ, sK, sL, sM, sN, sO, sP, sQ, sR, sS, sT, sU, sV, sW, sX, sY, sZ, sa, sb, sd, sh, si, sq, su, sy, sz, sxA, sxB, sxC, sxD, sxE, sxF, sxG, sxH, sxI, sxJ, sxK, sxL, sxM]
 rw [this, h]
theorem w_clc {c : CT} {s : CT} {f : FT} {p : PT} {k : KT} {d : DT} {m : MT} {b : BT} {o : Ob} (h : A o = (c, s, f, p, k, d, m, b)) (u : Int32) : A (sxH o u) = (c, s, f, p, (k.1, k.2.1, u), d, m, b) := by
 have : A (sxH o u) = ((A o).1, (A o).2.1, (A o).2.2.1, (A o).2.2.2.1, ((A o).2.2.2.2.1.1, (A o).2.2.2.2.1.2.1, u), (A o).2.2.2.2.2) := by dsimp only [A, fA, fB, fC, fD, fE, fF, fG, fH, fI, fJ, fK, fL, fM, fN, fO, fP, fQ, fR, fS, fT, fU, fV, fW, fX, fY, fZ, fa, fb, fd, fh, fi, fq, fu, fy, fz, fxA, fxB, fxC, fxD, fxE, fxF, fxG, fxH, fxI, fxJ, fxK, fxL, fxM, sA, sB, sC, sD, sE, sF, sG, sH, sI, sJ, sK, sL, sM, sN, sO, sP, sQ, sR, sS, sT, sU, sV, sW, sX, sY, sZ, sa, sb, sd, sh, si, sq, su, sy, sz, sxA, sxB, sxC, sxD, sxE, sxF, sxG, sxH, sxI, sxJ, sxK, sxL, sxM]
 rw [this, h]
theorem w_snap {c : CT} {s : CT} {f : FT} {p : PT} {k : KT} {d : DT} {m : MT} {b : BT} {o : Ob} (h : A o = (c, s, f, p, k, d, m, b)) (u v : List Int32) : A (sR (sQ o u) v) = (c, (u, v, s.2.2), f, p, k, d, m, b) := by
 have : A (sR (sQ o u) v) = ((A o).1, (u, v, (A o).2.1.2.2), (A o).2.2) := by dsimp only [A, fA, fB, fC, fD, fE, fF, fG, fH, fI, fJ, fK, fL, fM, fN, fO, fP, fQ, fR, fS, fT, fU, fV, fW, fX, fY, fZ, fa, fb, fd, fh, fi, fq, fu, fy, fz, fxA, fxB, fxC, fxD, fxE, fxF, fxG, fxH, fxI, fxJ, fxK, fxL, fxM, sA, sB, sC, sD, sE, sF, sG, sH, sI, sJ, sK, sL, sM, sN, sO, sP, sQ, sR, sS, sT, sU, sV, sW, sX, sY, sZ, sa, sb, sd, sh, si, sq, su, sy, sz, sxA, sxB, sxC, sxD, sxE, sxF, sxG, sxH, sxI, sxJ, sxK, sxL, sxM]
 rw [this, h]
theorem w_sc {c : CT} {s : CT} {f : FT} {p : PT} {k : KT} {d : DT} {m : MT} {b : BT} {o : Ob} (h : A o = (c, s, f, p, k, d, m, b)) (u v : Int32) : A (sxF (sxE o u) v) = (c, (s.1, s.2.1, u, v, s.2.2.2.2), f, p, k, d, m, b) := by
 have : A (sxF (sxE o u) v) = ((A o).1, ((A o).2.1.1, (A o).2.1.2.1, u, v, (A o).2.1.2.2.2.2), (A o).2.2) := by dsimp only [A, fA, fB, fC, fD, fE, fF, fG, fH, fI, fJ, fK, fL, fM, fN, fO, fP, fQ, fR, fS, fT, fU, fV, fW, fX, fY, fZ, fa, fb, fd, fh, fi, fq, fu, fy, fz, fxA, fxB, fxC, fxD, fxE, fxF, fxG, fxH, fxI, fxJ, fxK, fxL, fxM, sA, sB, sC, sD, sE, sF, sG, sH, sI, sJ, sK, sL, sM, sN, sO, sP, sQ, sR, sS, sT, sU, sV, sW, sX, sY, sZ, sa, sb, sd, sh, si, sq, su, sy, sz, sxA, sxB, sxC, sxD, sxE, sxF, sxG, sxH, sxI, sxJ, sxK, sxL, sxM]
 rw [this, h]
theorem w_hs {c : CT} {s : CT} {f : FT} {p : PT} {k : KT} {d : DT} {m : MT} {b : BT} {o : Ob} (h : A o = (c, s, f, p, k, d, m, b)) (u v : Int32) : A (sxD (sxG o u) v) = ((c.1, c.2.1, c.2.2.1, c.2.2.2.1, v), (s.1, s.2.1, s.2.2.1, s.2.2.2.1, u), f, p, k, d, m, b) := by
 have : A (sxD (sxG o u) v) = (((A o).1.1, (A o).1.2.1, (A o).1.2.2.1, (A o).1.2.2.2.1, v), ((A o).2.1.1, (A o).2.1.2.1, (A o).2.1.2.2.1, (A o).2.1.2.2.2.1, u), (A o).2.2) := by dsimp only [A, fA, fB, fC, fD, fE, fF, fG, fH, fI, fJ, fK, fL, fM, fN, fO, fP, fQ, fR, fS, fT, fU, fV, fW, fX, fY, fZ, fa, fb, fd, fh, fi, fq, fu, fy, fz, fxA, fxB, fxC, fxD, fxE, fxF, fxG, fxH, fxI, fxJ, fxK, fxL, fxM, sA, sB, sC, sD, sE, sF, sG, sH, sI, sJ, sK, sL, sM, sN, sO, sP, sQ, sR, sS, sT, sU, sV, sW, sX, sY, sZ, sa, sb, sd, sh, si, sq, su, sy, sz, sxA, sxB, sxC, sxD, sxE, sxF, sxG, sxH, sxI, sxJ, sxK, sxL, sxM]
 rw [this, h]
def vv (s : CT) (j : Nat) : Int := gd s.1 j
def tt' (s : CT) (j : Nat) : Int32 := at' s.2.1 j
def df (s : CT) : Int32 := s.2.2.2.1
def Sw (T : Int) (n : Nat) (s : CT) : Prop := s.1.length = 64 ∧ s.2.1.length = 64 ∧ n ≤ 64 ∧ s.2.2.1.toInt = (n : Nat) ∧ (∀ i j, i < j → j < n → vv s i < vv s j) ∧ (∀ j, j < n → 0 ≤ (tt' s j).toInt ∧ (tt' s j).toInt < T) ∧ 0 ≤ s.2.2.2.1.toInt ∧ s.2.2.2.1.toInt < T
theorem Sw.a_v {T : Int} {n j : Nat} {s : CT} (S : Sw T n s) (hj : j < n) {x : Int32} (hx : x.toInt = j) : aget s.1 x = some (at' s.1 j) := ag hx (by rw [S.1]; have := S.2.2.1; omega)
theorem Sw.a_t {T : Int} {n j : Nat} {s : CT} (S : Sw T n s) (hj : j < n) {x : Int32} (hx : x.toInt = j) : aget s.2.1 x = some (tt' s j) := ag hx (by rw [S.2.1]; have := S.2.2.1; omega)
theorem ofI {x : Int32} {n : Nat} (h : x.toInt = n) : x = Int32.ofInt n := by rw [← h, Int32.ofInt_toInt]
def pc4 (x : Int32) : Int32 := (x &&& (1 : Int32)) + ((x >>> (1 : Int32)) &&& (1 : Int32)) + ((x >>> (2 : Int32)) &&& (1 : Int32)) + ((x >>> (3 : Int32)) &&& (1 : Int32))
theorem d4a : ∀ (d t : Fin 4) (z : Fin 16), ¬ (Int32.ofInt t.1 = Int32.ofInt d.1) → (Int32.ofInt z.1 &&& ((1 : Int32) <<< (Int32.ofInt d.1 &&& 31))) = 0 → (Int32.ofInt z.1 &&& ((1 : Int32) <<< (Int32.ofInt t.1 &&& 31))) = 0 → (0 ≤ (Int32.ofInt z.1 ||| ((1 : Int32) <<< (Int32.ofInt t.1 &&& 31))).toInt ∧ (Int32.ofInt z.1 ||| ((1 : Int32) <<< (Int32.ofInt t.1 &&& 31))).toInt < 16) ∧ ((Int32.ofInt z.1 ||| ((1 : Int32) <<< (Int32.ofInt t.1 &&& 31))) &&& ((1 : Int32) <<< (Int32.ofInt d.1 &&& 31))) = 0 ∧ pc4 (Int32.ofInt z.1 ||| ((1 : Int32) <<< (Int32.ofInt t.1 &&& 31))) = pc4 (Int32.ofInt z.1) + 1 := by decide +kernel
theorem d4b : ∀ (d : Fin 4) (z : Fin 16), (Int32.ofInt z.1 &&& ((1 : Int32) <<< (Int32.ofInt d.1 &&& 31))) = 0 → (pc4 (Int32.ofInt z.1)).toInt ≤ 3 := by decide +kernel
def Q4 (d se di : Int32) : Prop := (0 ≤ se.toInt ∧ se.toInt < 16) ∧ (se &&& ((1 : Int32) <<< (d &&& 31))) = 0 ∧ di = pc4 se
theorem Q4.top {d se di : Int32} (Q : Q4 d se di) (d0 : 0 ≤ d.toInt) (d4 : d.toInt < 4) : di.toInt ≤ 3 := by
 obtain ⟨⟨s0, s1⟩, s2, s3⟩ := Q
 obtain ⟨dn, hd⟩ : ∃ dn : Nat, d.toInt = dn := ⟨d.toInt.toNat, by omega⟩
 obtain ⟨sn, hs⟩ : ∃ sn : Nat, se.toInt = sn := ⟨se.toInt.toNat, by omega⟩
 have := d4b ⟨dn, by omega⟩ ⟨sn, by omega⟩
 rw [ofI hd, ofI hs] at s2
 rw [s3, ofI hs]
 exact this s2
theorem Q4.step {d se di t : Int32} (Q : Q4 d se di) (d0 : 0 ≤ d.toInt) (d4 : d.toInt < 4) (t0 : 0 ≤ t.toInt) (t4 : t.toInt < 4) : Q4 d (if t = d then se else (if (se &&& ((1 : Int32) <<< (t &&& 31))) = 0 then (se ||| ((1 : Int32) <<< (t &&& 31))) else se)) (if t = d then di else (if (se &&& ((1 : Int32) <<< (t &&& 31))) = 0 then (di + 1) else di)) := by
 obtain ⟨⟨s0, s1⟩, s2, s3⟩ := id Q
 by_cases e1 : t = d
 ·rw [if_pos e1, if_pos e1]; exact Q
 ·rw [if_neg e1, if_neg e1]
  by_cases e2 : (se &&& ((1 : Int32) <<< (t &&& 31))) = 0
  ·rw [if_pos e2, if_pos e2]
   obtain ⟨dn, hd⟩ : ∃ dn : Nat, d.toInt = dn := ⟨d.toInt.toNat, by omega⟩
   obtain ⟨sn, hs⟩ : ∃ sn : Nat, se.toInt = sn := ⟨se.toInt.toNat, by omega⟩
   obtain ⟨tn, ht⟩ : ∃ tn : Nat, t.toInt = tn := ⟨t.toInt.toNat, by omega⟩
   have := d4a ⟨dn, by omega⟩ ⟨tn, by omega⟩ ⟨sn, by omega⟩
   unfold Q4
   rw [s3]
   rw [ofI hd, ofI ht] at e1
   rw [ofI hd, ofI hs] at s2
   rw [ofI ht, ofI hs] at e2
   rw [ofI hd, ofI ht, ofI hs]
   obtain ⟨r1, r2, r3⟩ := this e1 s2 e2
   exact ⟨r1, r2, r3.symm⟩
  ·rw [if_neg e2, if_neg e2]; exact Q
theorem Q4.zero (d : Int32) : Q4 d 0 0 := ⟨by show (0 : Int) ≤ 0 ∧ (0 : Int) < 16; decide, Int32.zero_and, by decide⟩
def Nar (T : Int) (n : Nat) (s : CT) : Prop := T ≤ 4 ∧ ∀ i j, i < n → j < n → vv s j - vv s i + 1 ≤ 64
theorem fits_ok {x : Int64} {n d : Int32} (n0 : 0 ≤ n.toInt) (n16 : n.toInt ≤ 16) : okP (F15 x n d) (fun r => (r ≠ 0 → x.toInt ≤ 64) ∧ (2 ≤ n.toInt → x.toInt ≤ 64 → d.toInt ≤ 3 → r ≠ 0)) := by
 have z3 : (3 : Int32).toInt = 3 := rfl
 have z2 : (2 : Int32).toInt = 2 := rfl
 have z64 : (64 : Int64).toInt = 64 := rfl
 have z4 : (4 : Int64).toInt = 4 := rfl
 have m : ((4 : Int64) * n.toInt64).toInt = 4 * n.toInt := by
  rw [J_mul (by rw [J_e, z4]; omega) (by rw [J_e, z4]; omega), J_e, z4]
 unfold F15
 refine okP.ite (fun w => okP.some ⟨fun w => absurd rfl w, fun q => by rw [i_lt, z2] at w; omega⟩) (fun _ => ?_)
 by_cases a1 : (64 : Int64) < x
 ·have nx : ¬ x.toInt ≤ 64 := by rw [J_lt, z64] at a1; omega
  rw [if_pos a1, if_pos rfl]
  by_cases a2 : (4 : Int64) * n.toInt64 < x
  ·rw [if_pos a2, if_pos rfl]
   exact okP.some ⟨fun w => absurd rfl w, fun _ q => absurd q nx⟩
  ·rw [if_neg a2, if_neg (by decide)]
   rw [J_lt, m] at a2
   exact okP.some ⟨fun _ => by omega, fun _ q => absurd q nx⟩
 ·have x64 : x.toInt ≤ 64 := by rw [J_lt, z64] at a1; omega
  rw [if_neg a1]
  by_cases a3 : (3 : Int32) < d
  ·rw [if_pos a3, if_pos rfl]
   have nd : ¬ d.toInt ≤ 3 := by rw [i_lt, z3] at a3; omega
   refine okP.ite (fun _ => okP.some ⟨fun _ => x64, fun _ _ q => absurd q nd⟩) (fun _ => okP.some ⟨fun _ => x64, fun _ _ q => absurd q nd⟩)
  ·rw [if_neg a3, if_neg (by decide)]
   exact okP.some ⟨fun _ => x64, fun _ _ _ => by decide⟩
def Cut (s : CT) (p : PT) (j : Nat) : Prop := ∃ c : Nat, c ≤ j ∧ gd p.2 (j + 1) = (c : Nat) ∧ gd p.1 (j + 1) = gd p.1 c + 1 ∧ (c = j ∨ vv s j - vv s c + 1 ≤ 64)
def Plan (s : CT) (p : PT) (n : Nat) : Prop := p.1.length = 65 ∧ p.2.length = 65 ∧ gd p.1 0 = 0 ∧ ∀ j, j < n → Cut s p j ∧ 1 ≤ gd p.1 (j + 1) ∧ gd p.1 (j + 1) ≤ j + 1
theorem span_m (x y : Int32) : ((x.toInt64 - y.toInt64) + (1 : Int64)).toInt = x.toInt - y.toInt + 1 := by
 have a1 := i_lo x
 have a2 := i_hi x
 have a3 := i_lo y
 have a4 := i_hi y
 have z1 : (1 : Int64).toInt = 1 := rfl
 have e : (x.toInt64 - y.toInt64).toInt = x.toInt - y.toInt := by
  rw [J_sub (by rw [J_e, J_e]; omega) (by rw [J_e, J_e]; omega), J_e, J_e]
 rw [J_add (by rw [e, z1]; omega) (by rw [e, z1]; omega), e, z1]
theorem plan_in {c : CT} {s : CT} {f : FT} {p : PT} {k : KT} {d : DT} {m : MT} {b : BT} {o : Ob} (h : A o = (c, s, f, p, k, d, m, b)) {T : Int} {n j : Nat} (S : Sw T n s) (n16 : n ≤ 16) (hj : j < n) {x1 x2 : Int32} (hx : x2.toInt = j) (P : Plan s p j) (C : Cut s p j) (c1 : 1 ≤ gd p.1 (j + 1)) (c2 : gd p.1 (j + 1) ≤ j + 1) : okP (loopN (B14_52 x1 x2) qN (0, 0, x2, o)) (fun e => ∃ q p', (e = .inl q ∨ e = .inr q) ∧ A q = (c, s, f, p', k, d, m, b) ∧ Plan s p' (j + 1) ∧ (Nar T n s → gd p'.1 (j + 1) ≤ 1)) := by
 have z0 : (0 : Int32).toInt = 0 := rfl
 have z1 : (1 : Int32).toInt = 1 := rfl
 have zm : (-1 : Int32).toInt = -1 := rfl
 have ej : (x2 + 1).toInt = x2.toInt + 1 := inc1 (by omega)
 have sx := S.a_v hj hx
 refine okP.loop (fun w : Int32 × Int32 × Int32 × Ob => -1 ≤ w.2.2.1.toInt ∧ w.2.2.1.toInt ≤ j ∧ (T ≤ 4 → Q4 (df s) w.1 w.2.1) ∧ ∃ p', A w.2.2.2 = (c, s, f, p', k, d, m, b) ∧ Plan s p' (j + 1) ∧ (Nar T n s → w.2.2.1.toInt = -1 → gd p'.1 (j + 1) ≤ 1)) (fun w => (w.2.2.1.toInt + 1).toNat) ⟨by show -1 ≤ x2.toInt; omega, by show x2.toInt ≤ j; omega, fun _ => Q4.zero _, p, h, ⟨P.1, P.2.1, P.2.2.1, fun i hi => by
  by_cases e : i = j
  ·subst e; exact ⟨C, c1, c2⟩
  ·exact P.2.2.2 i (by omega)⟩, fun _ w => by have w : x2.toInt = -1 := w; omega⟩ (by show (x2.toInt + 1).toNat < 4000; omega) ?_
 rintro ⟨se, di, y, q⟩ ⟨y0, y1, Q, p', hq, P', O1⟩
 simp only at y0 y1 Q hq O1
 unfold B14_52
 simp only
 refine okP.ite (fun cy => okP.some ⟨q, p', Or.inr rfl, hq, P', fun w => O1 w (by rw [i_lt, z0] at cy; omega)⟩) (fun cy => ?_)
 rw [i_lt, z0] at cy
 obtain ⟨i, hi⟩ : ∃ i : Nat, y.toInt = i := ⟨y.toInt.toNat, by omega⟩
 have ij : i ≤ j := by omega
 have em : (y + -1).toInt = y.toInt + -1 := by rw [i_add (by omega) (by omega), zm]
 generalize hym : y + -1 = ym at em
 generalize hxp : x2 + 1 = xp at ej ⊢
 rw [g_snapTgt hq, S.a_t (by omega) hi, Option.bind_some, g_snapVal hq, sx, Option.bind_some, S.a_v (by omega) hi, Option.bind_some]
 have z256 : (256 : Int64).toInt = 256 := rfl
 refine okP.ite (fun c9 => okP.some ⟨q, p', Or.inl rfl, hq, P', fun w => ?_⟩) (fun _ => ?_)
 ·rw [J_lt, z256, span_m] at c9
  have := w.2 i j (by omega) hj
  have e1 : vv s j = (at' s.1 j).toInt := rfl
  have e2 : vv s i = (at' s.1 i).toInt := rfl
  omega
 have dt : 0 ≤ (df s).toInt ∧ (df s).toInt < T := S.2.2.2.2.2.2
 have ti := S.2.2.2.2.2.1 i (by omega)
 rw [g_snapDefault hq]
 have Q' : T ≤ 4 → Q4 (df s) (if tt' s i = s.2.2.2.1 then se else (if (se &&& ((1 : Int32) <<< (tt' s i &&& 31))) = (0 : Int32) then (se ||| ((1 : Int32) <<< (tt' s i &&& 31))) else se)) (if tt' s i = s.2.2.2.1 then di else (if (se &&& ((1 : Int32) <<< (tt' s i &&& 31))) = (0 : Int32) then (di + (1 : Int32)) else di)) := fun w => (Q w).step dt.1 (by omega) ti.1 (by omega)
 generalize (if tt' s i = s.2.2.2.1 then se else (if (se &&& ((1 : Int32) <<< (tt' s i &&& 31))) = (0 : Int32) then (se ||| ((1 : Int32) <<< (tt' s i &&& 31))) else se)) = se' at Q' ⊢
 generalize (if tt' s i = s.2.2.2.1 then di else (if (se &&& ((1 : Int32) <<< (tt' s i &&& 31))) = (0 : Int32) then (di + (1 : Int32)) else di)) = di' at Q' ⊢
 have ec1 : 0 ≤ (x2 - y + 1).toInt ∧ (x2 - y + 1).toInt ≤ 16 ∧ (x2 - y + 1).toInt = x2.toInt - y.toInt + 1 := by
  clear em ej
  have ec : (x2 - y).toInt = x2.toInt - y.toInt := i_sub (by omega) (by omega)
  rw [inc1 (by omega), ec]; omega
 generalize x2 - y + 1 = cn at ec1 ⊢
 apply okP.bind
 refine okP.mono (fits_ok ec1.1 ec1.2.1) (fun r hr => ?_)
 have go : ∀ (q' : Ob) (p2 : PT), A q' = (c, s, f, p2, k, d, m, b) → Plan s p2 (j + 1) → (Nar T n s → i = 0 → gd p2.1 (j + 1) ≤ 1) → okP (J14_194 q' x1 x2 se' di' y) (fun r' => Sum.elim (fun e => ∃ q p', (e = .inl q ∨ e = .inr q) ∧ A q = (c, s, f, p', k, d, m, b) ∧ Plan s p' (j + 1) ∧ (Nar T n s → gd p'.1 (j + 1) ≤ 1)) (fun w : Int32 × Int32 × Int32 × Ob => (-1 ≤ w.2.2.1.toInt ∧ w.2.2.1.toInt ≤ j ∧ (T ≤ 4 → Q4 (df s) w.1 w.2.1) ∧ ∃ p', A w.2.2.2 = (c, s, f, p', k, d, m, b) ∧ Plan s p' (j + 1) ∧ (Nar T n s → w.2.2.1.toInt = -1 → gd p'.1 (j + 1) ≤ 1)) ∧ (w.2.2.1.toInt + 1).toNat < (y.toInt + 1).toNat) r') := by
  intro q' p2 hq' P2 o1
  unfold J14_194
  rw [hym]
  exact okP.some ⟨⟨by simp only; omega, by simp only; omega, Q', p2, hq', P2, fun w z => o1 w (by have z : ym.toInt = -1 := z; omega)⟩, by simp only; omega⟩
 have few : T ≤ 4 → di'.toInt ≤ 3 := fun w => (Q' w).top dt.1 (by omega)
 refine okP.ite (fun r0 => go q p' hq P' (fun w i0 => ?_)) (fun r1 => ?_)
 ·-- a cluster from the first case on fits
  rcases Nat.eq_zero_or_pos j with w' | w'
  ·have := P'.2.2.2 0 (by omega)
   rw [w']; omega
  ·refine absurd r0 (hr.2 (by omega) ?_ (few w.1))
   rw [span_m]
   exact w.2 i j (by omega) hj
 have l1 := P'.1
 have l2 := P'.2.1
 have n64 := S.2.2.1
 rw [g_bestCost hq, ag hi (by omega), Option.bind_some, ag (a := j + 1) (by omega) (by omega), Option.bind_some]
 refine okP.ite (fun lt => ?_) (fun lt => go q p' hq P' (fun _ i0 => ?_))
 rotate_left
 ·subst i0
  have e0 := P'.2.2.1
  have e1 : (at' p'.1 0 + 1).toInt = gd p'.1 0 + 1 := inc1 (by show gd p'.1 0 < _; omega)
  rw [i_lt, e1] at lt
  have lt' : ¬ gd p'.1 0 + 1 < gd p'.1 (j + 1) := lt
  omega
 have ci : gd p'.1 i + 1 ≤ i + 1 ∧ 0 ≤ gd p'.1 i := by
  rcases Nat.eq_zero_or_pos i with w | w
  ·subst w; have := P'.2.2.1; omega
  ·obtain ⟨i', e⟩ : ∃ i', i = i' + 1 := ⟨i - 1, by omega⟩
   subst e
   have := P'.2.2.2 i' (by omega)
   omega
 have e1 : (at' p'.1 i + 1).toInt = gd p'.1 i + 1 := inc1 (by show gd p'.1 i < _; omega)
 rw [Option.bind_some, aset_at (n := j + 1) (by omega) (by omega), Option.bind_some, g_bestCut hq, aset_at (n := j + 1) (by omega) (by omega), Option.bind_some]
 have sp : at' s.1 j = at' s.1 j := rfl
 have hspan := hr.1 r1
 rw [span_m] at hspan
 have hs : vv s j - vv s i + 1 ≤ 64 := hspan
 refine go _ _ (w_best hq _ _) ⟨ls l1, ls l2, ?_, fun a ha => ?_⟩ (fun _ i0 => ?_)
 rotate_right
 ·simp only
  rw [gd_set (by omega), if_pos rfl, e1, i0]
  have := P'.2.2.1
  omega
 ·simp only
  rw [gd_set (by omega), if_neg (by omega)]; exact P'.2.2.1
 ·have key : ∀ a, a ≤ j → gd (p'.1.set (j + 1) (at' p'.1 i + 1)) a = gd p'.1 a := fun a ha => by rw [gd_set (by omega), if_neg (by omega)]
  by_cases e : a = j
  ·subst e
   have k1 : gd (p'.1.set (a + 1) (at' p'.1 i + 1)) (a + 1) = gd p'.1 i + 1 := by rw [gd_set (by omega), if_pos rfl]; exact e1
   refine ⟨⟨i, ij, ?_, ?_, Or.inr hs⟩, ?_, ?_⟩
   ·simp only
    rw [gd_set (by omega), if_pos rfl]; exact hi
   ·simp only
    rw [k1, key i ij]
   ·simp only; rw [k1]; omega
   ·simp only; rw [k1]; omega
  ·obtain ⟨⟨cc, q1, q2, q3, q4⟩, q5, q6⟩ := P'.2.2.2 a (by omega)
   refine ⟨⟨cc, q1, ?_, ?_, q4⟩, ?_, ?_⟩
   ·simp only
    rw [gd_set (by omega), if_neg (by omega)]; exact q2
   ·simp only
    rw [key _ (by omega), key _ (by omega)]; exact q3
   ·simp only; rw [key _ (by omega)]; exact q5
   ·simp only; rw [key _ (by omega)]; exact q6
theorem plan_ok {c : CT} {s : CT} {f : FT} {p : PT} {k : KT} {d : DT} {m : MT} {b : BT} {o : Ob} (h : A o = (c, s, f, p, k, d, m, b)) {T : Int} {n : Nat} (S : Sw T n s) (n16 : n ≤ 16) (l1 : p.1.length = 65) (l2 : p.2.length = 65) : okP (F14 o) (fun q => ∃ p', A q = (c, s, f, p', k, d, m, b) ∧ Plan s p' n ∧ (Nar T n s → gd p'.1 n ≤ 1)) := by
 unfold F14
 rw [g_bestCost h, aset_at (n := 0) rfl (by omega), Option.bind_some, g_snapCount h]
 apply okP.bind
 refine okP.mono (P := fun q => ∃ p', A q = (c, s, f, p', k, d, m, b) ∧ Plan s p' n ∧ (Nar T n s → gd p'.1 n ≤ 1)) ?_ (fun q hq => okP.some hq)
 refine okP.loop (fun w : Int32 × Ob => ∃ j : Nat, w.1.toInt = (j : Int) ∧ j ≤ n ∧ ∃ p', A w.2 = (c, s, f, p', k, d, m, b) ∧ Plan s p' j ∧ (Nar T n s → gd p'.1 j ≤ 1)) (fun w => (100 - w.1.toInt).toNat) ⟨0, rfl, by omega, _, w_cost h _, ⟨ls l1, l2, by simp only; rw [gd_set (by omega), if_pos rfl]; rfl, fun j hj => absurd hj (by omega)⟩, fun _ => by simp only; rw [gd_set (by omega), if_pos rfl]; decide⟩ (by show (100 - (0 : Int)).toNat < 4000; decide) ?_
 rintro ⟨x, q⟩ ⟨j, hj, jn, p', hq, P, O1⟩
 simp only at hj hq
 unfold B14_14
 simp only
 refine okP.ite (fun cx => ?_) (fun cx => ?_)
 ·rw [i_lt, S.2.2.2.1] at cx
  have l1 := P.1
  have l2 := P.2.1
  have ej : (x + 1).toInt = x.toInt + 1 := inc1 (by omega)
  have cj : 0 ≤ gd p'.1 j ∧ gd p'.1 j ≤ j := by
   rcases Nat.eq_zero_or_pos j with w | w
   ·subst w; have := P.2.2.1; omega
   ·obtain ⟨j', e⟩ : ∃ j', j = j' + 1 := ⟨j - 1, by omega⟩
    subst e
    have := P.2.2.2 j' (by omega)
    omega
  have e1 : (at' p'.1 j + 1).toInt = gd p'.1 j + 1 := inc1 (by show gd p'.1 j < _; omega)
  rw [g_bestCost hq, ag hj (by omega), Option.bind_some, aset_at (n := j + 1) (by omega) (by omega), Option.bind_some, g_bestCut hq, aset_at (n := j + 1) (by omega) (by omega), Option.bind_some]
  have key : ∀ a, a ≤ j → gd (p'.1.set (j + 1) (at' p'.1 j + 1)) a = gd p'.1 a := fun a ha => by rw [gd_set (by omega), if_neg (by omega)]
  have k1 : gd (p'.1.set (j + 1) (at' p'.1 j + 1)) (j + 1) = gd p'.1 j + 1 := by rw [gd_set (by omega), if_pos rfl]; exact e1
  have k2 : gd (p'.2.set (j + 1) x) (j + 1) = (j : Nat) := by rw [gd_set (by omega), if_pos rfl]; exact hj
  have P2 : Plan s (p'.1.set (j + 1) (at' p'.1 j + 1), p'.2.set (j + 1) x) j := by
   refine ⟨ls l1, ls l2, ?_, fun a ha => ?_⟩
   ·simp only; rw [key 0 (by omega)]; exact P.2.2.1
   ·obtain ⟨⟨cc, q1, q2, q3, q4⟩, q5, q6⟩ := P.2.2.2 a (by omega)
    refine ⟨⟨cc, q1, ?_, ?_, q4⟩, ?_, ?_⟩
    ·simp only
     rw [gd_set (by omega), if_neg (by omega)]; exact q2
    ·simp only
     rw [key _ (by omega), key _ (by omega)]; exact q3
    ·simp only; rw [key _ (by omega)]; exact q5
    ·simp only; rw [key _ (by omega)]; exact q6
  apply okP.bind
  refine okP.mono (plan_in (w_best hq _ _) S n16 (by omega) hj P2 ⟨j, Nat.le_refl _, k2, by simp only; rw [k1, key j (Nat.le_refl _)], Or.inl rfl⟩ (by simp only; rw [k1]; omega) (by simp only; rw [k1]; omega)) ?_
  rintro e ⟨q', p2, he, hq', P3, O3⟩
  have fin : okP (J14_200 q' s.2.2.1 x) (fun r' => Sum.elim (fun q => ∃ p', A q = (c, s, f, p', k, d, m, b) ∧ Plan s p' n ∧ (Nar T n s → gd p'.1 n ≤ 1)) (fun w : Int32 × Ob => (∃ j : Nat, w.1.toInt = (j : Int) ∧ j ≤ n ∧ ∃ p', A w.2 = (c, s, f, p', k, d, m, b) ∧ Plan s p' j ∧ (Nar T n s → gd p'.1 j ≤ 1)) ∧ (100 - w.1.toInt).toNat < (100 - x.toInt).toNat) r') := okP.some ⟨⟨j + 1, by simp only; omega, by omega, p2, hq', P3, O3⟩, by simp only; omega⟩
  rcases he with he | he <;> rw [he] <;> exact fin
 ·rw [i_lt, S.2.2.2.1] at cx
  have : j = n := by omega
  subst this
  exact okP.some ⟨p', hq, P, O1⟩
def Cls (s : CT) (n K : Nat) (β : Nat → Nat) (k : KT) : Prop := k.1.length = 64 ∧ k.2.1.length = 64 ∧ k.2.2.toInt = (K : Nat) ∧ K ≤ n ∧ β 0 = 0 ∧ β K = n ∧ ∀ a, a < K → β a < β (a + 1) ∧ β (a + 1) ≤ n ∧ gd k.1 a = (β a : Nat) ∧ gd k.2.1 a = (β (a + 1) : Int) - 1 ∧ (β (a + 1) = β a + 1 ∨ vv s (β (a + 1) - 1) - vv s (β a) + 1 ≤ 64)
theorem coll_ok {c : CT} {s : CT} {f : FT} {p : PT} {k : KT} {d : DT} {m : MT} {b : BT} {o : Ob} (h : A o = (c, s, f, p, k, d, m, b)) {n : Nat} (n64 : n ≤ 64) (hn : s.2.2.1.toInt = (n : Nat)) (P : Plan s p n) (l1 : k.1.length = 64) (l2 : k.2.1.length = 64) : okP (F16 o) (fun q => ∃ k' K β, A q = (c, s, f, p, k', d, m, b) ∧ Cls s n K β k' ∧ (K : Int) = gd p.1 n) := by
 have z0 : (0 : Int32).toInt = 0 := rfl
 have z1 : (1 : Int32).toInt = 1 := rfl
 have z65 : (65 : Int32).toInt = 65 := rfl
 have zm : (-1 : Int32).toInt = -1 := rfl
 have p1 := P.1
 have p2 := P.2.1
 have cb : ∀ a, a ≤ n → 0 ≤ gd p.1 a ∧ gd p.1 a ≤ a ∧ (a ≠ 0 → 1 ≤ gd p.1 a) := by
  intro a ha
  rcases Nat.eq_zero_or_pos a with w | w
  ·subst w; have := P.2.2.1; omega
  ·obtain ⟨a', e⟩ : ∃ a', a = a' + 1 := ⟨a - 1, by omega⟩
   subst e
   have := P.2.2.2 a' (by omega)
   omega
 unfold F16
 rw [g_bestCost h, g_snapCount h, ag hn (by omega), Option.bind_some]
 obtain ⟨K, hK⟩ : ∃ K : Nat, gd p.1 n = (K : Nat) := ⟨(gd p.1 n).toNat, by have := cb n (Nat.le_refl _); omega⟩
 have hK' : (at' p.1 n).toInt = (K : Nat) := hK
 have Kn : K ≤ n := by have := cb n (Nat.le_refl _); omega
 generalize at' p.1 n = kv at *
 have h' := w_clc h kv
 apply okP.bind
 refine okP.mono (P := fun q => ∃ k' K β, A q = (c, s, f, p, k', d, m, b) ∧ Cls s n K β k' ∧ (K : Int) = gd p.1 n) ?_ (fun q hq => okP.some hq)
 refine okP.loop (fun w : Int32 × Int32 × Int32 × Ob => ∃ (kk pos st : Nat) (β : Nat → Nat) (u v : List Int32), w.1.toInt = (kk : Int) ∧ w.2.1.toInt = (pos : Int) ∧ w.2.2.1.toInt = (st : Int) ∧ st + pos ≤ n ∧ kk ≤ K ∧ gd p.1 pos = (kk : Nat) ∧ A w.2.2.2 = (c, s, f, p, (u, v, kv), d, m, b) ∧ u.length = 64 ∧ v.length = 64 ∧ β K = n ∧ β kk = pos ∧ ∀ a, kk ≤ a → a < K → β a < β (a + 1) ∧ β (a + 1) ≤ n ∧ gd u a = (β a : Nat) ∧ gd v a = (β (a + 1) : Int) - 1 ∧ (β (a + 1) = β a + 1 ∨ vv s (β (a + 1) - 1) - vv s (β a) + 1 ≤ 64)) (fun w => w.2.1.toInt.toNat) ⟨K, n, 0, fun _ => n, k.1, k.2.1, hK', hn, rfl, by omega, Nat.le_refl _, hK, h', l1, l2, rfl, rfl, fun a h1 h2 => absurd h2 (by omega)⟩ (by show s.2.2.1.toInt.toNat < 4000; omega) ?_
 rintro ⟨x, y, z, q⟩ ⟨kk, pos, st, β, u, v, hx, hy, hz, sp, kK, hc, hq, lu, lv, bK, bk, hb⟩
 simp only at hx hy hz hq
 unfold B16_22
 simp only
 rw [if_pos (by rw [i_lt, z65]; omega)]
 refine okP.ite (fun cy => ?_) (fun cy => ?_)
 ·rw [i_lt, z0] at cy
  obtain ⟨j, ej⟩ : ∃ j, pos = j + 1 := ⟨pos - 1, by omega⟩
  subst ej
  obtain ⟨⟨cc, q1, q2, q3, q4⟩, q5, q6⟩ := P.2.2.2 j (by omega)
  have cbc := cb cc (by omega)
  have k1 : 1 ≤ kk := by omega
  obtain ⟨kj, ek⟩ : ∃ kj, kk = kj + 1 := ⟨kk - 1, by omega⟩
  subst ek
  have em : (x + -1).toInt = x.toInt + -1 := by rw [i_add (by omega) (by omega), zm]
  have ey : (y - 1).toInt = y.toInt - 1 := by rw [i_sub (by omega) (by omega), z1]
  have ez : (z + 1).toInt = z.toInt + 1 := inc1 (by omega)
  have hcc : (at' p.2 (j + 1)).toInt = (cc : Nat) := q2
  generalize x + -1 = xm at em ⊢
  rw [g_bestCut hq, ag hy (by omega), Option.bind_some, if_neg (by rw [i_lt, z0]; omega), if_neg (by rw [i_lt, z0]; omega), if_pos (by rw [i_lt]; omega), g_clStart hq, g_clEnd hq]
  generalize y - 1 = ym at ey ⊢
  generalize at' p.2 (j + 1) = cv at hcc ⊢
  rw [aset_at (n := kj) (by omega) (by show kj < u.length; omega), Option.bind_some, aset_at (n := kj) (by omega) (by show kj < v.length; omega), Option.bind_some]
  have hw := w_cl hq (u.set kj cv) (v.set kj ym)
  refine okP.some ⟨⟨kj, cc, st + 1, (fun a => if a = kj then cc else β a), u.set kj cv, v.set kj ym, by simp only; omega, hcc, by simp only; omega, by omega, by omega, by omega, hw, ls lu, ls lv, ?_, ?_, fun a h1 h2 => ?_⟩, by simp only; omega⟩
  ·simp only; rw [if_neg (by omega)]; exact bK
  ·simp only [if_true]
  ·simp only
   rw [gd_set (by omega), gd_set (by omega), if_neg (show ¬ a + 1 = kj by omega)]
   by_cases e : a = kj
   ·subst e
    simp only [if_true]
    rw [bk]
    refine ⟨by omega, by omega, hcc, by omega, ?_⟩
    rcases q4 with w | w
    ·left; omega
    ·right
     show vv s (j + 1 - 1) - vv s cc + 1 ≤ 64
     rw [show j + 1 - 1 = j by omega]; exact w
   ·simp only [if_neg e]
    exact hb a (by omega) h2
 ·rw [i_lt, z0] at cy
  have p0 : pos = 0 := by omega
  subst p0
  have k0 : kk = 0 := by have := P.2.2.1; omega
  subst k0
  exact okP.some ⟨_, K, β, hq, ⟨lu, lv, hK', Kn, bk, bK, fun a ha => hb a (by omega) ha⟩, hK.symm⟩

theorem mskbit {w : Nat} (hw : w < 64) (i : Nat) : (BitVec.ofNat 64 (2 ^ w - 1)).getLsbD i = decide (i < w) := by
 rw [BitVec.getLsbD_ofNat, Nat.testBit_two_pow_sub_one]
 by_cases h : i < w
 ·have : i < 64 := by omega
  simp [h, this]
 ·simp [h]
theorem shl64 (v : Int64) {y : Int32} {n : Nat} (h : y.toInt = n) (hn : n < 64) : (v <<< (y.toInt64 &&& 63)).toBitVec = v.toBitVec <<< n := by
 have : ∀ n : Fin 64, (((Int32.ofInt n.1).toInt64 &&& 63).toBitVec.smod 64) = BitVec.ofNat 64 n.1 := by decide
 rw [ofI h]
 show v.toBitVec <<< (((Int32.ofInt n).toInt64 &&& 63).toBitVec.smod 64) = _
 rw [this ⟨n, hn⟩, BitVec.shiftLeft_eq']
 congr 1
 simp; omega
theorem ushr64 (v : Int64) {y : Int32} {n : Nat} (h : y.toInt = n) (hn : n < 64) : (XT.ushrL v y).toBitVec = v.toBitVec >>> n := by
 have : ∀ n : Fin 64, (((Int32.ofInt n.1).toInt64.toUInt64 &&& Int64.toUInt64 63) % 64).toBitVec = BitVec.ofNat 64 n.1 := by decide
 rw [ofI h]
 show v.toBitVec >>> (((Int32.ofInt n).toInt64.toUInt64 &&& Int64.toUInt64 63) % 64).toBitVec = _
 rw [this ⟨n, hn⟩, BitVec.ushiftRight_eq']
 congr 1
 simp; omega
def bt6 (x : Int64) (n : Nat) : Bool := x.toBitVec.getLsbD n
theorem bt6_or (x y : Int64) (n : Nat) : bt6 (x ||| y) n = (bt6 x n || bt6 y n) := by
 show (x.toBitVec ||| y.toBitVec).getLsbD n = _
 rw [BitVec.getLsbD_or]; rfl
theorem bt6_0 (n : Nat) : bt6 0 n = false := by
 show (0#64).getLsbD n = false
 simp
theorem bt6_one {y : Int32} {k : Nat} (h : y.toInt = k) (hk : k < 64) {n : Nat} (hn : n < 64) : bt6 ((1 : Int64) <<< (y.toInt64 &&& 63)) n = decide (n = k) := by
 unfold bt6
 rw [shl64 1 h hk]
 show (1#64 <<< k).getLsbD n = _
 rw [BitVec.getLsbD_shiftLeft]
 by_cases c : n < k
 ·have : ¬ n = k := by omega
  simp [c, this]
 ·by_cases e : n = k
  ·subst e; simp [hn]
  ·have : ¬ (n - k = 0) := by omega
   simp [hn, c, e, this]
theorem bt6_ushr (x : Int64) {y : Int32} {k : Nat} (h : y.toInt = k) (hk : k < 64) : (XT.ushrL x y &&& (1 : Int64)) = 0 ↔ bt6 x k = false := by
 have e : (XT.ushrL x y &&& (1 : Int64)).toBitVec = (x.toBitVec >>> k) &&& 1#64 := by
  show (XT.ushrL x y).toBitVec &&& (1 : Int64).toBitVec = _
  rw [ushr64 x h hk]; rfl
 have e2 : (XT.ushrL x y &&& (1 : Int64)).toBitVec = if bt6 x k then 1#64 else 0#64 := by
  rw [e]
  apply BitVec.eq_of_getLsbD_eq
  intro i hi
  rw [BitVec.getLsbD_and, BitVec.getLsbD_ushiftRight]
  by_cases i0 : i = 0
  ·subst i0
   show (x.toBitVec.getLsbD (k + 0) && true) = _
   unfold bt6
   rw [Nat.add_zero, Bool.and_true]
   cases x.toBitVec.getLsbD k <;> rfl
  ·have a : (1#64).getLsbD i = false := by
    rw [BitVec.getLsbD_one]; simp [i0]
   rw [a, Bool.and_false]
   cases bt6 x k
   ·simp
   ·simp [i0]
 constructor
 ·intro z
  have := congrArg Int64.toBitVec z
  rw [e2] at this
  cases q : bt6 x k
  ·rfl
  ·rw [q] at this; exact absurd this (by decide)
 ·intro q
  apply Int64.toBitVec_inj.1
  rw [e2, q]; rfl
theorem off_m (x y : Int32) : (((x - y).toInt64) &&& (4294967295 : Int64)).toInt = (x.toInt - y.toInt) % 4294967296 := by
 have a1 := i_lo (x - y)
 have a2 := i_hi (x - y)
 have e : (((x - y).toInt64) &&& (4294967295 : Int64)).toBitVec = (x - y).toBitVec.setWidth 64 := by
  show ((x - y).toInt64).toBitVec &&& BitVec.ofNat 64 (2 ^ 32 - 1) = _
  rw [Int32.toBitVec_toInt64]
  apply BitVec.eq_of_getLsbD_eq
  intro i hi
  rw [BitVec.getLsbD_and, BitVec.getLsbD_signExtend, mskbit (by decide), BitVec.getLsbD_setWidth]
  by_cases c : i < 32
  ·simp [c, hi]
  ·have : (x - y).toBitVec.getLsbD i = false := BitVec.getLsbD_of_ge _ _ (by omega)
   rw [this, decide_eq_false c, Bool.and_false, Bool.and_false]
 have w1 : (x - y).toInt = (x - y).toBitVec.toInt := rfl
 have w2 : (((x - y).toInt64) &&& (4294967295 : Int64)).toInt = ((x - y).toBitVec.setWidth 64).toInt := by
  show (((x - y).toInt64) &&& (4294967295 : Int64)).toBitVec.toInt = _
  rw [e]
 have lt := (x - y).toBitVec.isLt
 have w3 : ((x - y).toBitVec.setWidth 64).toNat = (x - y).toBitVec.toNat := by
  rw [BitVec.toNat_setWidth, Nat.mod_eq_of_lt (by omega)]
 have w4 : ((x - y).toBitVec.setWidth 64).toInt = ((x - y).toBitVec.toNat : Int) := by
  rw [BitVec.toInt_eq_toNat_cond, w3, if_pos (by omega)]
 have w5 : (x - y).toBitVec.toInt = if 2 * (x - y).toBitVec.toNat < 2 ^ 32 then ((x - y).toBitVec.toNat : Int) else (x - y).toBitVec.toNat - (2 ^ 32 : Nat) := BitVec.toInt_eq_toNat_cond _
 have w6 : (x - y).toInt = (x.toInt - y.toInt).bmod (2 ^ 32) := Int32.toInt_sub ..
 rw [w2, w4]
 rw [← w1, w6] at w5
 have e32 : ((2 ^ 32 : Nat) : Int) = 4294967296 := rfl
 simp only [Int.bmod, e32] at w5
 split at w5 <;> split at w5 <;> omega
theorem t32_m {x : Int64} (h0 : 0 ≤ x.toInt) (h1 : x.toInt < 64) : x.toInt32.toInt = x.toInt := by
 rw [Int64.toInt_toInt32, Int.bmod_eq_of_le (by omega) (by omega)]
def am (l : List Int64) (j : Nat) : Int64 := l.getD j 0
theorem am_set {l : List Int64} {i k : Nat} {v : Int64} (hi : i < l.length) : am (l.set i v) k = if k = i then v else am l k := by
 unfold am
 rw [List.getD_eq_getElem?_getD, List.getD_eq_getElem?_getD, List.getElem?_set]
 by_cases h : i = k
 ·rw [if_pos h, if_pos h.symm, if_pos hi]; rfl
 ·rw [if_neg h, if_neg (fun w => h w.symm)]
theorem agm {l : List Int64} {x : Int32} {a : Nat} (hx : x.toInt = a) (ha : a < l.length) : aget l x = some (am l a) := by
 unfold am
 rw [aget_at hx ha, List.getD_eq_getElem?_getD, List.getElem?_eq_getElem ha]; rfl
theorem b8 {x : Int32} (h0 : 0 ≤ x.toInt) (h1 : x.toInt < 16) : (x.toInt8.toInt32).toInt8.toInt32 = x ∧ x.toInt8.toInt32 = x := small_cases (P := fun x => (x.toInt8.toInt32).toInt8.toInt32 = x ∧ x.toInt8.toInt32 = x) h0 (n := 16) h1 (by decide)
theorem pig : ∀ (n p : Nat) (f : Nat → Nat), (∀ q, q < p → f q < n) → (∀ q r, q < p → r < p → f q = f r → q = r) → p ≤ n
 | 0, p, f, h, _ => by
  rcases Nat.eq_zero_or_pos p with w | w
  ·omega
  ·exact absurd (h 0 w) (by omega)
 | n + 1, 0, f, _, _ => by omega
 | n + 1, p + 1, f, h, inj => by
  have := pig n p (fun q => if f q = n then f p else f q) (by
   intro q hq
   have a1 := h q (by omega)
   have a2 := h p (by omega)
   have a3 := inj q p (by omega) (by omega)
   show (if f q = n then f p else f q) < n
   split
   ·rename_i w
    have : f p ≠ n := fun z => absurd (a3 (by omega)) (by omega)
    omega
   ·omega) (by
   intro q r hq hr
   have a3 := inj q p (by omega) (by omega)
   have a4 := inj r p (by omega) (by omega)
   have a5 := inj q r (by omega) (by omega)
   show (if f q = n then f p else f q) = (if f r = n then f p else f r) → q = r
   intro e
   split at e <;> split at e
   ·exact a5 (by omega)
   ·have := a4 e.symm; omega
   ·have := a3 e; omega
   ·exact a5 e)
  omega
def Rv (s : CT) (a b : Nat) (x : Int) (r : Int32) : Prop := (∃ i, a ≤ i ∧ i < b ∧ vv s i = x ∧ r = tt' s i) ∨ ((∀ i, a ≤ i → i < b → vv s i ≠ x) ∧ r = df s)
theorem vv_inj {T : Int} {n : Nat} {s : CT} (S : Sw T n s) {i j : Nat} (hi : i < n) (hj : j < n) (h : vv s i = vv s j) : i = j := by
 rcases Nat.lt_trichotomy i j with w | w | w
 ·have := S.2.2.2.2.1 i j w hj; omega
 ·exact w
 ·have := S.2.2.2.2.1 j i w hi; omega
def Msk (s : CT) (m : MT) (a b base used : Nat) : Prop :=
 (∀ j, j < used → ∀ n, n < 64 → (bt6 (am m.1 (base + j)) n = true ↔ ∃ i, a ≤ i ∧ i < b ∧ tt' s i ≠ df s ∧ tt' s i = at' m.2.1 (base + j) ∧ vv s i = vv s a + n)) ∧
 (∀ i, a ≤ i → i < b → tt' s i ≠ df s → ∃ j, j < used ∧ at' m.2.1 (base + j) = tt' s i) ∧
 (∀ j, j < used → ∃ i, a ≤ i ∧ i < b ∧ at' m.2.1 (base + j) = tt' s i ∧ tt' s i ≠ df s) ∧
 ∀ j j', j < used → j' < used → at' m.2.1 (base + j) = at' m.2.1 (base + j') → j = j'
theorem Msk.congr {s : CT} {m m' : MT} {a b base used : Nat} (M : Msk s m a b base used) (h : ∀ j, j < base + used → am m'.1 j = am m.1 j ∧ at' m'.2.1 j = at' m.2.1 j) : Msk s m' a b base used := by
 obtain ⟨M1, M2, M3, M4⟩ := M
 refine ⟨fun j hj n hn => ?_, fun i h1 h2 h3 => ?_, fun j hj => ?_, fun j j' hj hj' e => ?_⟩
 ·rw [(h (base + j) (by omega)).1, (h (base + j) (by omega)).2]
  exact M1 j hj n hn
 ·obtain ⟨j, j1, j2⟩ := M2 i h1 h2 h3
  exact ⟨j, j1, by rw [(h (base + j) (by omega)).2]; exact j2⟩
 ·rw [(h (base + j) (by omega)).2]
  exact M3 j hj
 ·rw [(h (base + j) (by omega)).2, (h (base + j') (by omega)).2] at e
  exact M4 j j' hj hj' e
def Leaf (s : CT) (d : DT) (m : MT) (a b pc : Nat) : Prop :=
 (at' d.1 pc = 2 ∧ b = a + 1 ∧ gd d.2.1 pc = vv s a ∧ at' d.2.2.1 pc = tt' s a) ∨
 (at' d.1 pc = 4 ∧ gd d.2.1 pc = vv s a ∧ ∃ base used : Nat, gd d.2.2.1 pc = (base : Nat) ∧ gd d.2.2.2.1 pc = (used : Nat) ∧ used ≤ 3 ∧ base + used ≤ m.2.2.toInt.toNat ∧ gd d.2.2.2.2.1 pc = vv s (b - 1) - vv s a + 1 ∧ vv s (b - 1) - vv s a + 1 ≤ 64 ∧ Msk s m a b base used)
def LD (d : DT) : Prop := d.1.length = 160 ∧ d.2.1.length = 160 ∧ d.2.2.1.length = 160 ∧ d.2.2.2.1.length = 160 ∧ d.2.2.2.2.1.length = 160
def LM (m : MT) : Prop := m.1.length = 192 ∧ m.2.1.length = 192 ∧ 0 ≤ m.2.2.toInt ∧ m.2.2.toInt ≤ 192
theorem bits_m {c : CT} {s : CT} {f : FT} {p : PT} {k : KT} {d : DT} {m : MT} {b : BT} {o : Ob} (h : A o = (c, s, f, p, k, d, m, b)) {T : Int} {n a e pc : Nat} (S : Sw T n s) (D : LD d) (M : LM m) (ab : a < e) (bn : e ≤ n) (h4 : gd d.2.1 pc = vv s a) {base used : Nat} (hb : gd d.2.2.1 pc = (base : Nat)) (hu : gd d.2.2.2.1 pc = (used : Nat)) (u3 : used ≤ 3) (bu : base + used ≤ m.2.2.toInt.toNat) (hd : gd d.2.2.2.2.1 pc = vv s (e - 1) - vv s a + 1) (h64 : vv s (e - 1) - vv s a + 1 ≤ 64) (K : Msk s m a e base used) {y x : Int32} (hy : y.toInt = pc) (p160 : pc < 160) : okP (F30 o y x) (fun r => (0 ≤ r.toInt ∧ Rv s a e x.toInt r) ∨ (r = -1 ∧ Rv s a e x.toInt (df s))) := by
 have z0 : (0 : Int32).toInt = 0 := rfl
 have z3 : (3 : Int32).toInt = 3 := rfl
 have z64 : (64 : Int64).toInt = 64 := rfl
 obtain ⟨d1, d2, d3, d4, d5⟩ := D
 obtain ⟨m1, m2, m3, m4⟩ := M
 obtain ⟨K1, K2, K3, K4⟩ := K
 have x1 := i_lo x
 have x2 := i_hi x
 have hi := i_hi (at' s.1 (e - 1))
 have hlo := i_lo (at' s.1 a)
 have hlo2 := i_hi (at' s.1 a)
 have va : vv s a = (at' s.1 a).toInt := rfl
 have ve : vv s (e - 1) = (at' s.1 (e - 1)).toInt := rfl
 have mono : ∀ i, a ≤ i → i < e → vv s a ≤ vv s i ∧ vv s i ≤ vv s (e - 1) := by
  intro i h1 h2
  constructor
  ·rcases Nat.eq_or_lt_of_le h1 with w | w
   ·rw [w]; omega
   ·have := S.2.2.2.2.1 a i w (by omega); omega
  ·by_cases w : i = e - 1
   ·rw [w]; omega
   ·have := S.2.2.2.2.1 i (e - 1) (by omega) (by omega); omega
 unfold F30 F31
 rw [g_argA h, g_argB h, g_argC h, g_argD h, ag hy (by omega), Option.bind_some, Option.bind_some, ag hy (by omega), Option.bind_some]
 have eo := off_m x (at' d.2.1 pc)
 have h4' : (at' d.2.1 pc).toInt = vv s a := h4
 rw [h4'] at eo
 generalize ((x - at' d.2.1 pc).toInt64) &&& (4294967295 : Int64) = off at *
 have ds : (at' d.2.2.2.2.1 pc).toInt64.toInt = vv s (e - 1) - vv s a + 1 := by rw [J_e]; exact hd
 have out : ¬ (vv s a ≤ x.toInt ∧ x.toInt ≤ vv s (e - 1)) → Rv s a e x.toInt (df s) := by
  intro w
  right
  refine ⟨fun i h1 h2 z => ?_, rfl⟩
  have := mono i h1 h2
  omega
 refine okP.ite (fun c1 => ?_) (fun c1 => ?_)
 ·rw [J_lt, ds] at c1
  rw [if_pos (by rw [J_lt, z64]; omega), ag hy (by omega), Option.bind_some, ag hy (by omega), Option.bind_some]
  have xo : x.toInt = vv s a + off.toInt := by omega
  have o0 : 0 ≤ off.toInt := by omega
  obtain ⟨q, hq⟩ : ∃ q : Nat, off.toInt = q := ⟨off.toInt.toNat, by omega⟩
  have q64 : q < 64 := by omega
  have t32 : off.toInt32.toInt = q := by rw [t32_m o0 (by omega)]; exact hq
  have hb' : (at' d.2.2.1 pc).toInt = (base : Nat) := hb
  have hu' : (at' d.2.2.2.1 pc).toInt = (used : Nat) := hu
  generalize at' d.2.2.1 pc = bv at *
  generalize at' d.2.2.2.1 pc = uv at *
  generalize off.toInt32 = ov at *
  have miss : (∀ j, j < used → bt6 (am m.1 (base + j)) q = false) → Rv s a e x.toInt (df s) := by
   intro w
   by_cases z : ∃ i, a ≤ i ∧ i < e ∧ vv s i = x.toInt
   ·obtain ⟨i, i1, i2, i3⟩ := z
    left
    refine ⟨i, i1, i2, i3, ?_⟩
    rcases Classical.em (tt' s i = df s) with t | t
    ·exact t.symm
    ·obtain ⟨j, j1, j2⟩ := K2 i i1 i2 t
     have := (K1 j j1 q q64).2 ⟨i, i1, i2, t, j2.symm, by omega⟩
     rw [w j j1] at this
     exact absurd this (by decide)
   ·right
    exact ⟨fun i h1 h2 e => z ⟨i, h1, h2, e⟩, rfl⟩
  apply okP.bind
  refine okP.mono (P := fun r => (0 ≤ r.toInt ∧ Rv s a e x.toInt r) ∨ (r = -1 ∧ Rv s a e x.toInt (df s))) ?_ (fun r hr => okP.some hr)
  refine okP.loop (fun w : Int32 => ∃ j : Nat, w.toInt = (j : Int) ∧ j ≤ used ∧ ∀ j', j' < j → bt6 (am m.1 (base + j')) q = false) (fun w => (10 - w.toInt).toNat) ⟨0, rfl, by omega, fun j hj => absurd hj (by omega)⟩ (by show (10 - (0 : Int)).toNat < 4000; decide) ?_
  rintro w ⟨j, hj, ju, hm⟩
  unfold B30_57
  have ew : (w + 1).toInt = w.toInt + 1 := inc1 (by omega)
  have ebw : (bv + w).toInt = bv.toInt + w.toInt := i_add (by omega) (by omega)
  have lm : ((fd o).length.toInt32).toInt = 192 := by rw [g_maskPool h, m1]; rfl
  refine okP.ite (fun c2 => ?_) (fun c2 => ?_)
  ·rw [i_lt] at c2
   rw [if_pos (by rw [i_lt, z3]; omega), if_neg (by rw [i_lt, z0]; omega), if_pos (by rw [i_lt, lm]; omega), g_maskPool h, agm (a := base + j) (by omega) (by omega), Option.bind_some]
   refine okP.ite (fun c3 => ?_) (fun c3 => ?_)
   ·have c3' := (bt6_ushr _ t32 q64).1 c3
    refine okP.some ⟨⟨j + 1, by omega, by omega, fun j' hj' => ?_⟩, by omega⟩
    by_cases z : j' = j
    ·rw [z]; exact c3'
    ·exact hm j' (by omega)
   ·have c3' : bt6 (am m.1 (base + j)) q = true := by
     cases z : bt6 (am m.1 (base + j)) q
     ·exact absurd ((bt6_ushr _ t32 q64).2 z) c3
     ·rfl
    rw [g_maskTarget h, ag (a := base + j) (by omega) (by omega), Option.bind_some]
    obtain ⟨i, i1, i2, i3, i4, i5⟩ := (K1 j (by omega) q q64).1 c3'
    refine okP.some (Or.inl ⟨?_, Or.inl ⟨i, i1, i2, by omega, i4.symm⟩⟩)
    rw [← i4]
    exact (S.2.2.2.2.2.1 i (by omega)).1
  ·rw [i_lt] at c2
   refine okP.some (Or.inr ⟨rfl, miss (fun j' hj' => hm j' (by omega))⟩)
 ·rw [J_lt, ds] at c1
  exact okP.some (Or.inr ⟨rfl, out (by omega)⟩)
theorem leaf_m {c : CT} {s : CT} {f : FT} {p : PT} {k : KT} {d : DT} {m : MT} {b : BT} {o : Ob} (h : A o = (c, s, f, p, k, d, m, b)) {T : Int} {n a e pc : Nat} (S : Sw T n s) (D : LD d) (M : LM m) (ab : a < e) (bn : e ≤ n) (L : Leaf s d m a e pc) {y x : Int32} (hy : y.toInt = pc) (p160 : pc < 160) : okP (F29 o y x) (fun r => (0 ≤ r.toInt ∧ Rv s a e x.toInt r) ∨ (r = -1 ∧ Rv s a e x.toInt (df s))) := by
 have dl := D.1
 have d2 := D.2.1
 have d3 := D.2.2.1
 unfold F29
 rw [g_opc h, ag hy (by omega), Option.bind_some]
 rcases L with ⟨o2, eb, h4, h5⟩ | ⟨o4, h4, base, used, hb, hu, u3, bu, hd, h64, K⟩
 ·rw [if_pos o2, g_argA h, ag hy (by omega), Option.bind_some]
  subst eb
  refine okP.ite (fun xe => ?_) (fun xe => ?_)
  ·rw [g_argB h, ag hy (by omega), Option.bind_some, h5]
   refine okP.some (Or.inl ⟨(S.2.2.2.2.2.1 a (by omega)).1, Or.inl ⟨a, Nat.le_refl _, by omega, ?_, rfl⟩⟩)
   rw [xe]; exact h4.symm
  ·refine okP.some (Or.inr ⟨rfl, Or.inr ⟨fun i h1 h2 z => ?_, rfl⟩⟩)
   have : i = a := by omega
   subst this
   exact xe (i_eq.2 (by rw [← z]; exact h4.symm))
 ·rw [if_neg (by rw [o4]; decide), if_neg (by rw [o4]; decide), if_pos o4]
  exact okP.bind (okP.mono (bits_m h S D M ab bn h4 hb hu u3 bu hd h64 K hy p160) (fun r hr => okP.some hr))
def Kid (γ : Nat → Nat × Nat) (L pc : Nat) (z : Int32) (l r : Nat) : Prop := ∃ q : Nat, z.toInt = q ∧ pc < q ∧ q < L ∧ γ q = (l, r)
def Inn (s : CT) (β : Nat → Nat) (d : DT) (pc l r mid : Nat) : Prop := l < mid ∧ mid ≤ r ∧ at' d.1 pc = 1 ∧ gd d.2.1 pc = vv s (β mid)
def Tree (s : CT) (β : Nat → Nat) (K : Nat) (d : DT) (m : MT) (γ : Nat → Nat × Nat) (L : Nat) : Prop := ∀ pc, 1 ≤ pc → pc < L → (γ pc).1 ≤ (γ pc).2 ∧ (γ pc).2 < K ∧ (((γ pc).1 = (γ pc).2 ∧ Leaf s d m (β (γ pc).1) (β ((γ pc).1 + 1)) pc) ∨ ∃ mid, Inn s β d pc (γ pc).1 (γ pc).2 mid ∧ Kid γ L pc (at' d.2.2.1 pc) (γ pc).1 (mid - 1) ∧ Kid γ L pc (at' d.2.2.2.1 pc) mid (γ pc).2)
def Bd (n K : Nat) (β : Nat → Nat) : Prop := β K = n ∧ ∀ a, a < K → β a < β (a + 1)
theorem Bd.le {n K : Nat} {β : Nat → Nat} (B : Bd n K β) : ∀ (j a : Nat), a + j ≤ K → β a + j ≤ β (a + j)
 | 0, a, _ => by simp
 | j + 1, a, h => by
  have := B.le j a (by omega)
  have := B.2 (a + j) (by omega)
  rw [show a + (j + 1) = a + j + 1 from rfl]
  omega
theorem Bd.lt {n K : Nat} {β : Nat → Nat} (B : Bd n K β) {a c : Nat} (h1 : a < c) (h2 : c ≤ K) : β a < β c := by
 have := B.le (c - a) a (by omega)
 rw [show a + (c - a) = c by omega] at this
 omega
theorem Bd.top {n K : Nat} {β : Nat → Nat} (B : Bd n K β) {a : Nat} (h : a ≤ K) : β a ≤ n := by
 have := B.le (K - a) a (by omega)
 rw [show a + (K - a) = K by omega, B.1] at this
 omega
theorem Rv.left {T : Int} {n : Nat} {s : CT} (S : Sw T n s) {a c e : Nat} (ac : a ≤ c) (ce : c < e) (en : e ≤ n) {x : Int} (hx : x < vv s c) {r : Int32} (h : Rv s a c x r) : Rv s a e x r := by
 rcases h with ⟨i, i1, i2, i3, i4⟩ | ⟨h1, h2⟩
 ·exact Or.inl ⟨i, i1, by omega, i3, i4⟩
 ·right
  refine ⟨fun i i1 i2 z => ?_, h2⟩
  rcases Nat.lt_or_ge i c with w | w
  ·exact h1 i i1 w z
  ·rcases Nat.eq_or_lt_of_le w with q | q
   ·rw [q] at hx; omega
   ·have := S.2.2.2.2.1 c i q (by omega); omega
theorem Rv.right {T : Int} {n : Nat} {s : CT} (S : Sw T n s) {a c e : Nat} (ac : a ≤ c) (ce : c < e) (en : e ≤ n) {x : Int} (hx : vv s c ≤ x) {r : Int32} (h : Rv s c e x r) : Rv s a e x r := by
 rcases h with ⟨i, i1, i2, i3, i4⟩ | ⟨h1, h2⟩
 ·exact Or.inl ⟨i, by omega, i2, i3, i4⟩
 ·right
  refine ⟨fun i i1 i2 z => ?_, h2⟩
  rcases Nat.lt_or_ge i c with w | w
  ·have := S.2.2.2.2.1 i c w (by omega); omega
  ·exact h1 i w i2 z
theorem run_in {c : CT} {s : CT} {f : FT} {p : PT} {k : KT} {d : DT} {m : MT} {b : BT} {o : Ob} (h : A o = (c, s, f, p, k, d, m, b)) {T : Int} {n K : Nat} (S : Sw T n s) (D : LD d) (M : LM m) {β : Nat → Nat} (B : Bd n K β) {γ : Nat → Nat × Nat} {L : Nat} (l160 : L ≤ 60) (hL : d.2.2.2.2.2.1.toInt = (L : Nat)) (r0 : at' d.1 0 = 0) (r1 : at' d.2.1 0 = df s) (L1 : 1 ≤ L) (Tr : Tree s β K d m γ L) (x : Int32) : ∀ (f pc : Nat) (y t : Int32) (N : Nat), f = L - pc → f + 1 < N → y.toInt = pc → 1 ≤ pc → pc < L → 0 ≤ t.toInt → t.toInt + f + 1 < 64 → okP (loopN (B28_7 o x) N (y, t)) (fun r => Rv s (β (γ pc).1) (β ((γ pc).2 + 1)) x.toInt r)
 | 0, pc, y, t, N, hf, _, _, _, _, _, _ => absurd hf (by omega)
 | f + 1, pc, y, t, 0, _, h2, _, _, _, _, _ => absurd h2 (by omega)
 | f + 1, pc, y, t, N + 1, hf, hN, hy, p1, pL, t0, tf => by
  have z0 : (0 : Int32).toInt = 0 := rfl
  have z64 : (64 : Int32).toInt = 64 := rfl
  have et : (t + 1).toInt = t.toInt + 1 := inc1 (by omega)
  have dl := D.1
  have d2 := D.2.1
  have d3 := D.2.2.1
  have d4 := D.2.2.2.1
  obtain ⟨g1, g2, g3⟩ := Tr pc p1 pL
  have cl : (fxI o).toInt = L := by rw [g_codeLen h]; exact hL
  have head : B28_7 o x (y, t) = (if at' d.1 pc = 0 then (aget (fX o) y).bind fun y82 => some (.inl y82) else (if at' d.1 pc = 1 then (aget (fX o) y).bind fun y84 => (if x < y84 then (aget (fY o) y).bind fun y86 => (J28_81 o x t y86) else (aget (fZ o) y).bind fun y87 => (J28_81 o x t y87)) else (F29 o y x).bind fun r112 => (if r112 < (0 : Int32) then (J28_103 o x (0 : Int32) t) else some (.inl r112)))) := by
   unfold B28_7
   simp only
   rw [if_pos (by rw [i_lt, z64]; omega), if_neg (by rw [i_lt, z0]; omega), if_pos (by rw [i_lt, cl]; omega), g_opc h, ag hy (by omega), Option.bind_some]
  rcases g3 with ⟨ge, lf⟩ | ⟨mid, ⟨lm, mr, o1, ap⟩, kb, kc⟩
  ·-- a leaf
   have o12 : at' d.1 pc = 2 ∨ at' d.1 pc = 4 := lf.imp (fun z => z.1) (fun z => z.1)
   have n0 : ¬ at' d.1 pc = 0 := by rcases o12 with w | w <;> rw [w] <;> decide
   have n1 : ¬ at' d.1 pc = 1 := by rcases o12 with w | w <;> rw [w] <;> decide
   rw [if_neg n0, if_neg n1] at head
   have b1 := B.2 (γ pc).1 (by omega)
   have b2 := B.top (a := (γ pc).1 + 1) (by omega)
   obtain ⟨r, q1, q2⟩ := leaf_m h S D M b1 b2 lf hy (by omega)
   rw [q1, Option.bind_some] at head
   rw [← ge]
   rcases q2 with ⟨r0', rv⟩ | ⟨rm, rv⟩
   ·rw [if_neg (by rw [i_lt, z0]; omega)] at head
    refine ⟨r, by simp only [loopN, head], rv⟩
   ·rw [rm, if_pos (by decide)] at head
    unfold J28_103 at head
    obtain ⟨N', eN⟩ : ∃ N', N = N' + 1 := ⟨N - 1, by omega⟩
    have head2 : B28_7 o x (0, t + 1) = some (.inl (df s)) := by
     unfold B28_7
     simp only
     rw [if_pos (by rw [i_lt, z64]; omega), if_neg (by decide), if_pos (by rw [i_lt, cl, z0]; omega), g_opc h, ag (a := 0) rfl (by omega), Option.bind_some, if_pos r0, g_argA h, ag (a := 0) rfl (by omega), Option.bind_some, r1]
    refine ⟨df s, ?_, rv⟩
    rw [eN]
    simp only [loopN, head, head2]
  ·-- a comparison
   have n0 : ¬ at' d.1 pc = 0 := by rw [o1]; decide
   rw [if_neg n0, if_pos o1, g_argA h, ag hy (by omega), Option.bind_some] at head
   have lo := B.lt (a := (γ pc).1) (c := mid) (by omega) (by omega)
   have hi := B.lt (a := mid) (c := (γ pc).2 + 1) (by omega) (by omega)
   have top := B.top (a := (γ pc).2 + 1) (by omega)
   have ap' : (at' d.2.1 pc).toInt = vv s (β mid) := ap
   by_cases c : x < at' d.2.1 pc
   ·rw [if_pos c, g_argB h, ag hy (by omega), Option.bind_some] at head
    unfold J28_81 J28_103 at head
    obtain ⟨q, q1, q2, q3, q4⟩ := kb
    rw [i_lt, ap'] at c
    have ih := run_in h S D M B l160 hL r0 r1 L1 Tr x (L - q) q (at' d.2.2.1 pc) (t + 1) N rfl (by omega) q1 (by omega) q3 (by omega) (by omega)
    rw [q4] at ih
    simp only at ih
    rw [show mid - 1 + 1 = mid by omega] at ih
    obtain ⟨r, r2, r3⟩ := ih
    exact ⟨r, by simp only [loopN, head]; exact r2, Rv.left S (by omega) hi top c r3⟩
   ·rw [if_neg c, g_argC h, ag hy (by omega), Option.bind_some] at head
    unfold J28_81 J28_103 at head
    obtain ⟨q, q1, q2, q3, q4⟩ := kc
    rw [i_lt, ap'] at c
    have ih := run_in h S D M B l160 hL r0 r1 L1 Tr x (L - q) q (at' d.2.2.2.1 pc) (t + 1) N rfl (by omega) q1 (by omega) q3 (by omega) (by omega)
    rw [q4] at ih
    simp only at ih
    obtain ⟨r, r2, r3⟩ := ih
    exact ⟨r, by simp only [loopN, head]; exact r2, Rv.right S (by omega) hi top (by omega) r3⟩
 termination_by f => f
def Cde (s : CT) (n : Nat) (d : DT) (m : MT) : Prop := LD d ∧ LM m ∧ ∃ (K L : Nat) (β : Nat → Nat) (γ : Nat → Nat × Nat), Bd n K β ∧ β 0 = 0 ∧ L ≤ 60 ∧ 1 ≤ L ∧ d.2.2.2.2.2.1.toInt = (L : Nat) ∧ at' d.1 0 = 0 ∧ at' d.2.1 0 = df s ∧ Tree s β K d m γ L ∧ ((K = 0 ∧ d.2.2.2.2.2.2 = 0) ∨ (0 < K ∧ Kid γ L 0 d.2.2.2.2.2.2 0 (K - 1)))
theorem run_ok {c : CT} {s : CT} {f : FT} {p : PT} {k : KT} {d : DT} {m : MT} {b : BT} {o : Ob} (h : A o = (c, s, f, p, k, d, m, b)) {T : Int} {n : Nat} (S : Sw T n s) (C : Cde s n d m) (x : Int32) : okP (F28 o x) (fun r => Rv s 0 n x.toInt r) := by
 obtain ⟨D, M, K, L, β, γ, B, b0, l60, L1, hL, r0, r1, Tr, root⟩ := C
 have z64 : (64 : Int32).toInt = 64 := rfl
 have z0 : (0 : Int32).toInt = 0 := rfl
 have dl := D.1
 have d2 := D.2.1
 unfold F28
 rw [g_rootPc h]
 apply okP.bind
 refine okP.mono (P := fun r => Rv s 0 n x.toInt r) ?_ (fun r hr => okP.some hr)
 rcases root with ⟨K0, rp⟩ | ⟨K0, q, q1, q2, q3, q4⟩
 ·have n0 : n = 0 := by rw [← B.1, K0]; exact b0
  have cl : (fxI o).toInt = L := by rw [g_codeLen h]; exact hL
  have head2 : B28_7 o x (0, 0) = some (.inl (df s)) := by
   unfold B28_7
   simp only
   rw [if_pos (by decide), if_neg (by decide), if_pos (by rw [i_lt, cl, z0]; omega), g_opc h, ag (a := 0) rfl (by omega), Option.bind_some, if_pos r0, g_argA h, ag (a := 0) rfl (by omega), Option.bind_some, r1]
  rw [rp]
  refine ⟨df s, by show loopN _ (3999 + 1) _ = _; simp only [loopN, head2], Or.inr ⟨fun i h1 h2 => absurd h2 (by omega), rfl⟩⟩
 ·have := run_in h S D M B l60 hL r0 r1 L1 Tr x (L - q) q _ 0 qN rfl (by show _ < 4000; omega) q1 (by omega) q3 (by decide) (by rw [z0]; omega)
  rw [q4] at this
  simp only at this
  rw [b0, show K - 1 + 1 = K by omega, B.1] at this
  exact this

theorem w_code {c : CT} {s : CT} {f : FT} {p : PT} {k : KT} {d : DT} {m : MT} {b : BT} {o : Ob} (h : A o = (c, s, f, p, k, d, m, b)) (u1 u2 u3 u4 u5 : List Int32) (N : Int32) : A (sxI (sa (sZ (sY (sX (sW o u1) u2) u3) u4) u5) N) = (c, s, f, p, k, (u1, u2, u3, u4, u5, N, d.2.2.2.2.2.2), m, b) := by
 have : A (sxI (sa (sZ (sY (sX (sW o u1) u2) u3) u4) u5) N) = ((A o).1, (A o).2.1, (A o).2.2.1, (A o).2.2.2.1, (A o).2.2.2.2.1, (u1, u2, u3, u4, u5, N, (A o).2.2.2.2.2.1.2.2.2.2.2.2), (A o).2.2.2.2.2.2) := by dsimp only [A, fA, fB, fC, fD, fE, fF, fG, fH, fI, fJ, fK, fL, fM, fN, fO, fP, fQ, fR, fS, fT, fU, fV, fW, fX, fY, fZ, fa, fb, fd, fh, fi, fq, fu, fy, fz, fxA, fxB, fxC, fxD, fxE, fxF, fxG, fxH, fxI, fxJ, fxK, fxL, fxM, sA, sB, sC, sD, sE, sF, sG, sH, sI, sJ, sK, sL, sM, sN, sO, sP, sQ, sR, sS, sT, sU, sV, sW, sX, sY, sZ, sa, sb, sd, sh, si, sq, su, sy, sz, sxA, sxB, sxC, sxD, sxE, sxF, sxG, sxH, sxI, sxJ, sxK, sxL, sxM]
 rw [this, h]
theorem w_argB {c : CT} {s : CT} {f : FT} {p : PT} {k : KT} {d : DT} {m : MT} {b : BT} {o : Ob} (h : A o = (c, s, f, p, k, d, m, b)) (u : List Int32) : A (sY o u) = (c, s, f, p, k, (d.1, d.2.1, u, d.2.2.2), m, b) := by
 have : A (sY o u) = ((A o).1, (A o).2.1, (A o).2.2.1, (A o).2.2.2.1, (A o).2.2.2.2.1, ((A o).2.2.2.2.2.1.1, (A o).2.2.2.2.2.1.2.1, u, (A o).2.2.2.2.2.1.2.2.2), (A o).2.2.2.2.2.2) := by dsimp only [A, fA, fB, fC, fD, fE, fF, fG, fH, fI, fJ, fK, fL, fM, fN, fO, fP, fQ, fR, fS, fT, fU, fV, fW, fX, fY, fZ, fa, fb, fd, fh, fi, fq, fu, fy, fz, fxA, fxB, fxC, fxD, fxE, fxF, fxG, fxH, fxI, fxJ, fxK, fxL, fxM, sA, sB, sC, sD, sE, sF, sG, sH, sI, sJ, sK, sL, sM, sN, sO, sP, sQ, sR, sS, sT, sU, sV, sW, sX, sY, sZ, sa, sb, sd, sh, si, sq, su, sy, sz, sxA, sxB, sxC, sxD, sxE, sxF, sxG, sxH, sxI, sxJ, sxK, sxL, sxM]
 rw [this, h]
theorem w_argC {c : CT} {s : CT} {f : FT} {p : PT} {k : KT} {d : DT} {m : MT} {b : BT} {o : Ob} (h : A o = (c, s, f, p, k, d, m, b)) (u : List Int32) : A (sZ o u) = (c, s, f, p, k, (d.1, d.2.1, d.2.2.1, u, d.2.2.2.2), m, b) := by
 have : A (sZ o u) = ((A o).1, (A o).2.1, (A o).2.2.1, (A o).2.2.2.1, (A o).2.2.2.2.1, ((A o).2.2.2.2.2.1.1, (A o).2.2.2.2.2.1.2.1, (A o).2.2.2.2.2.1.2.2.1, u, (A o).2.2.2.2.2.1.2.2.2.2), (A o).2.2.2.2.2.2) := by dsimp only [A, fA, fB, fC, fD, fE, fF, fG, fH, fI, fJ, fK, fL, fM, fN, fO, fP, fQ, fR, fS, fT, fU, fV, fW, fX, fY, fZ, fa, fb, fd, fh, fi, fq, fu, fy, fz, fxA, fxB, fxC, fxD, fxE, fxF, fxG, fxH, fxI, fxJ, fxK, fxL, fxM, sA, sB, sC, sD, sE, sF, sG, sH, sI, sJ, sK, sL, sM, sN, sO, sP, sQ, sR, sS, sT, sU, sV, sW, sX, sY, sZ, sa, sb, sd, sh, si, sq, su, sy, sz, sxA, sxB, sxC, sxD, sxE, sxF, sxG, sxH, sxI, sxJ, sxK, sxL, sxM]
 rw [this, h]
theorem w_root {c : CT} {s : CT} {f : FT} {p : PT} {k : KT} {d : DT} {m : MT} {b : BT} {o : Ob} (h : A o = (c, s, f, p, k, d, m, b)) (u : Int32) : A (sxJ o u) = (c, s, f, p, k, (d.1, d.2.1, d.2.2.1, d.2.2.2.1, d.2.2.2.2.1, d.2.2.2.2.2.1, u), m, b) := by
 have : A (sxJ o u) = ((A o).1, (A o).2.1, (A o).2.2.1, (A o).2.2.2.1, (A o).2.2.2.2.1, ((A o).2.2.2.2.2.1.1, (A o).2.2.2.2.2.1.2.1, (A o).2.2.2.2.2.1.2.2.1, (A o).2.2.2.2.2.1.2.2.2.1, (A o).2.2.2.2.2.1.2.2.2.2.1, (A o).2.2.2.2.2.1.2.2.2.2.2.1, u), (A o).2.2.2.2.2.2) := by dsimp only [A, fA, fB, fC, fD, fE, fF, fG, fH, fI, fJ, fK, fL, fM, fN, fO, fP, fQ, fR, fS, fT, fU, fV, fW, fX, fY, fZ, fa, fb, fd, fh, fi, fq, fu, fy, fz, fxA, fxB, fxC, fxD, fxE, fxF, fxG, fxH, fxI, fxJ, fxK, fxL, fxM, sA, sB, sC, sD, sE, sF, sG, sH, sI, sJ, sK, sL, sM, sN, sO, sP, sQ, sR, sS, sT, sU, sV, sW, sX, sY, sZ, sa, sb, sd, sh, si, sq, su, sy, sz, sxA, sxB, sxC, sxD, sxE, sxF, sxG, sxH, sxI, sxJ, sxK, sxL, sxM]
 rw [this, h]
theorem w_st {c : CT} {s : CT} {f : FT} {p : PT} {k : KT} {d : DT} {m : MT} {b : BT} {o : Ob} (h : A o = (c, s, f, p, k, d, m, b)) (u1 u2 u3 u4 : List Int32) (N : Int32) : A (sxM (sy (su (sq (si o u1) u2) u3) u4) N) = (c, s, f, p, k, d, m, (u1, u2, u3, u4, N)) := by
 have : A (sxM (sy (su (sq (si o u1) u2) u3) u4) N) = ((A o).1, (A o).2.1, (A o).2.2.1, (A o).2.2.2.1, (A o).2.2.2.2.1, (A o).2.2.2.2.2.1, (A o).2.2.2.2.2.2.1, (u1, u2, u3, u4, N)) := by dsimp only [A, fA, fB, fC, fD, fE, fF, fG, fH, fI, fJ, fK, fL, fM, fN, fO, fP, fQ, fR, fS, fT, fU, fV, fW, fX, fY, fZ, fa, fb, fd, fh, fi, fq, fu, fy, fz, fxA, fxB, fxC, fxD, fxE, fxF, fxG, fxH, fxI, fxJ, fxK, fxL, fxM, sA, sB, sC, sD, sE, sF, sG, sH, sI, sJ, sK, sL, sM, sN, sO, sP, sQ, sR, sS, sT, sU, sV, sW, sX, sY, sZ, sa, sb, sd, sh, si, sq, su, sy, sz, sxA, sxB, sxC, sxD, sxE, sxF, sxG, sxH, sxI, sxJ, sxK, sxL, sxM]
 rw [this, h]
theorem w_sp {c : CT} {s : CT} {f : FT} {p : PT} {k : KT} {d : DT} {m : MT} {b : BT} {o : Ob} (h : A o = (c, s, f, p, k, d, m, b)) (N : Int32) : A (sxM o N) = (c, s, f, p, k, d, m, (b.1, b.2.1, b.2.2.1, b.2.2.2.1, N)) := by
 have : A (sxM o N) = ((A o).1, (A o).2.1, (A o).2.2.1, (A o).2.2.2.1, (A o).2.2.2.2.1, (A o).2.2.2.2.2.1, (A o).2.2.2.2.2.2.1, ((A o).2.2.2.2.2.2.2.1, (A o).2.2.2.2.2.2.2.2.1, (A o).2.2.2.2.2.2.2.2.2.1, (A o).2.2.2.2.2.2.2.2.2.2.1, N)) := by dsimp only [A, fA, fB, fC, fD, fE, fF, fG, fH, fI, fJ, fK, fL, fM, fN, fO, fP, fQ, fR, fS, fT, fU, fV, fW, fX, fY, fZ, fa, fb, fd, fh, fi, fq, fu, fy, fz, fxA, fxB, fxC, fxD, fxE, fxF, fxG, fxH, fxI, fxJ, fxK, fxL, fxM, sA, sB, sC, sD, sE, sF, sG, sH, sI, sJ, sK, sL, sM, sN, sO, sP, sQ, sR, sS, sT, sU, sV, sW, sX, sY, sZ, sa, sb, sd, sh, si, sq, su, sy, sz, sxA, sxB, sxC, sxD, sxE, sxF, sxG, sxH, sxI, sxJ, sxK, sxL, sxM]
 rw [this, h]
theorem w_mask {c : CT} {s : CT} {f : FT} {p : PT} {k : KT} {d : DT} {m : MT} {b : BT} {o : Ob} (h : A o = (c, s, f, p, k, d, m, b)) (u : List Int64) : A (sd o u) = (c, s, f, p, k, d, (u, m.2), b) := by
 have : A (sd o u) = ((A o).1, (A o).2.1, (A o).2.2.1, (A o).2.2.2.1, (A o).2.2.2.2.1, (A o).2.2.2.2.2.1, (u, (A o).2.2.2.2.2.2.1.2), (A o).2.2.2.2.2.2.2) := by dsimp only [A, fA, fB, fC, fD, fE, fF, fG, fH, fI, fJ, fK, fL, fM, fN, fO, fP, fQ, fR, fS, fT, fU, fV, fW, fX, fY, fZ, fa, fb, fd, fh, fi, fq, fu, fy, fz, fxA, fxB, fxC, fxD, fxE, fxF, fxG, fxH, fxI, fxJ, fxK, fxL, fxM, sA, sB, sC, sD, sE, sF, sG, sH, sI, sJ, sK, sL, sM, sN, sO, sP, sQ, sR, sS, sT, sU, sV, sW, sX, sY, sZ, sa, sb, sd, sh, si, sq, su, sy, sz, sxA, sxB, sxC, sxD, sxE, sxF, sxG, sxH, sxI, sxJ, sxK, sxL, sxM]
 rw [this, h]
theorem w_mtgt {c : CT} {s : CT} {f : FT} {p : PT} {k : KT} {d : DT} {m : MT} {b : BT} {o : Ob} (h : A o = (c, s, f, p, k, d, m, b)) (u : List Int32) : A (sh o u) = (c, s, f, p, k, d, (m.1, u, m.2.2), b) := by
 have : A (sh o u) = ((A o).1, (A o).2.1, (A o).2.2.1, (A o).2.2.2.1, (A o).2.2.2.2.1, (A o).2.2.2.2.2.1, ((A o).2.2.2.2.2.2.1.1, u, (A o).2.2.2.2.2.2.1.2.2), (A o).2.2.2.2.2.2.2) := by dsimp only [A, fA, fB, fC, fD, fE, fF, fG, fH, fI, fJ, fK, fL, fM, fN, fO, fP, fQ, fR, fS, fT, fU, fV, fW, fX, fY, fZ, fa, fb, fd, fh, fi, fq, fu, fy, fz, fxA, fxB, fxC, fxD, fxE, fxF, fxG, fxH, fxI, fxJ, fxK, fxL, fxM, sA, sB, sC, sD, sE, sF, sG, sH, sI, sJ, sK, sL, sM, sN, sO, sP, sQ, sR, sS, sT, sU, sV, sW, sX, sY, sZ, sa, sb, sd, sh, si, sq, su, sy, sz, sxA, sxB, sxC, sxD, sxE, sxF, sxG, sxH, sxI, sxJ, sxK, sxL, sxM]
 rw [this, h]
theorem w_mu {c : CT} {s : CT} {f : FT} {p : PT} {k : KT} {d : DT} {m : MT} {b : BT} {o : Ob} (h : A o = (c, s, f, p, k, d, m, b)) (u : Int32) : A (sxL o u) = (c, s, f, p, k, d, (m.1, m.2.1, u), b) := by
 have : A (sxL o u) = ((A o).1, (A o).2.1, (A o).2.2.1, (A o).2.2.2.1, (A o).2.2.2.2.1, (A o).2.2.2.2.2.1, ((A o).2.2.2.2.2.2.1.1, (A o).2.2.2.2.2.2.1.2.1, u), (A o).2.2.2.2.2.2.2) := by dsimp only [A, fA, fB, fC, fD, fE, fF, fG, fH, fI, fJ, fK, fL, fM, fN, fO, fP, fQ, fR, fS, fT, fU, fV, fW, fX, fY, fZ, fa, fb, fd, fh, fi, fq, fu, fy, fz, fxA, fxB, fxC, fxD, fxE, fxF, fxG, fxH, fxI, fxJ, fxK, fxL, fxM, sA, sB, sC, sD, sE, sF, sG, sH, sI, sJ, sK, sL, sM, sN, sO, sP, sQ, sR, sS, sT, sU, sV, sW, sX, sY, sZ, sa, sb, sd, sh, si, sq, su, sy, sz, sxA, sxB, sxC, sxD, sxE, sxF, sxG, sxH, sxI, sxJ, sxK, sxL, sxM]
 rw [this, h]
theorem w_cln {c : CT} {s : CT} {f : FT} {p : PT} {k : KT} {d : DT} {m : MT} {b : BT} {o : Ob} (h : A o = (c, s, f, p, k, d, m, b)) : A (sxM (sxL (sxK (sxI o 0) 0) 0) 0) = (c, s, (f.1, f.2.1, f.2.2.1, 0), p, k, (d.1, d.2.1, d.2.2.1, d.2.2.2.1, d.2.2.2.2.1, 0, d.2.2.2.2.2.2), (m.1, m.2.1, 0), (b.1, b.2.1, b.2.2.1, b.2.2.2.1, 0)) := by
 have : A (sxM (sxL (sxK (sxI o 0) 0) 0) 0) = ((A o).1, (A o).2.1, ((A o).2.2.1.1, (A o).2.2.1.2.1, (A o).2.2.1.2.2.1, 0), (A o).2.2.2.1, (A o).2.2.2.2.1, ((A o).2.2.2.2.2.1.1, (A o).2.2.2.2.2.1.2.1, (A o).2.2.2.2.2.1.2.2.1, (A o).2.2.2.2.2.1.2.2.2.1, (A o).2.2.2.2.2.1.2.2.2.2.1, 0, (A o).2.2.2.2.2.1.2.2.2.2.2.2), ((A o).2.2.2.2.2.2.1.1, (A o).2.2.2.2.2.2.1.2.1, 0), ((A o).2.2.2.2.2.2.2.1, (A o).2.2.2.2.2.2.2.2.1, (A o).2.2.2.2.2.2.2.2.2.1, (A o).2.2.2.2.2.2.2.2.2.2.1, 0)) := by dsimp only [A, fA, fB, fC, fD, fE, fF, fG, fH, fI, fJ, fK, fL, fM, fN, fO, fP, fQ, fR, fS, fT, fU, fV, fW, fX, fY, fZ, fa, fb, fd, fh, fi, fq, fu, fy, fz, fxA, fxB, fxC, fxD, fxE, fxF, fxG, fxH, fxI, fxJ, fxK, fxL, fxM, sA, sB, sC, sD, sE, sF, sG, sH, sI, sJ, sK, sL, sM, sN, sO, sP, sQ, sR, sS, sT, sU, sV, sW, sX, sY, sZ, sa, sb, sd, sh, si, sq, su, sy, sz, sxA, sxB, sxC, sxD, sxE, sxF, sxG, sxH, sxI, sxJ, sxK, sxL, sxM]
 rw [this, h]
theorem emit_m {c : CT} {s : CT} {f : FT} {p : PT} {k : KT} {d : DT} {m : MT} {b : BT} {o : Ob} (h : A o = (c, s, f, p, k, d, m, b)) (D : LD d) {L : Nat} (hL : d.2.2.2.2.2.1.toInt = (L : Nat)) (l160 : L < 160) {op a1 a2 a3 a4 : Int32} (o8 : (op.toInt8.toInt32).toInt8.toInt32 = op) : ∃ q N, F18 o op a1 a2 a3 a4 = some (d.2.2.2.2.2.1, q) ∧ N.toInt = ((L + 1 : Nat) : Int) ∧ A q = (c, s, f, p, k, (d.1.set L op, d.2.1.set L a1, d.2.2.1.set L a2, d.2.2.2.1.set L a3, d.2.2.2.2.1.set L a4, N, d.2.2.2.2.2.2), m, b) := by
 have z0 : (0 : Int32).toInt = 0 := rfl
 obtain ⟨d1, d2, d3, d4, d5⟩ := D
 have lo : ((fW o).length.toInt32).toInt = 160 := by rw [g_opc h, d1]; rfl
 have e1 : (d.2.2.2.2.2.1 + 1).toInt = d.2.2.2.2.2.1.toInt + 1 := inc1 (by omega)
 unfold F18
 rw [g_codeLen h, if_neg (by rw [i_lt, z0]; omega), if_pos (by rw [i_lt, lo]; omega), g_opc h, g_argA h, g_argB h, g_argC h, g_argD h, o8, aset_at hL (by omega), Option.bind_some, aset_at hL (by omega), Option.bind_some, aset_at hL (by omega), Option.bind_some, aset_at hL (by omega), Option.bind_some, aset_at hL (by omega), Option.bind_some]
 exact ⟨_, _, rfl, by omega, w_code h _ _ _ _ _ _⟩
def LS (b : BT) : Prop := b.1.length = 130 ∧ b.2.1.length = 130 ∧ b.2.2.1.length = 130 ∧ b.2.2.2.1.length = 130
theorem push_m {c : CT} {s : CT} {f : FT} {p : PT} {k : KT} {d : DT} {m : MT} {b : BT} {o : Ob} (h : A o = (c, s, f, p, k, d, m, b)) (B : LS b) {P : Nat} (hP : b.2.2.2.2.toInt = (P : Nat)) (l130 : P < 130) (a1 a2 a3 a4 : Int32) : ∃ q N, F19 o a1 a2 a3 a4 = some q ∧ N.toInt = ((P + 1 : Nat) : Int) ∧ A q = (c, s, f, p, k, d, m, (b.1.set P a1, b.2.1.set P a2, b.2.2.1.set P a3, b.2.2.2.1.set P a4, N)) := by
 have z0 : (0 : Int32).toInt = 0 := rfl
 obtain ⟨d1, d2, d3, d4⟩ := B
 have lo : ((fi o).length.toInt32).toInt = 130 := by rw [g_stLo h, d1]; rfl
 have e1 : (b.2.2.2.2 + 1).toInt = b.2.2.2.2.toInt + 1 := inc1 (by omega)
 unfold F19
 rw [g_sp h, if_neg (by rw [i_lt, z0]; omega), if_pos (by rw [i_lt, lo]; omega), g_stLo h, g_stHi h, g_stParent h, g_stSlot h, aset_at hP (by omega), Option.bind_some, aset_at hP (by omega), Option.bind_some, aset_at hP (by omega), Option.bind_some, aset_at hP (by omega), Option.bind_some]
 exact ⟨_, _, rfl, by omega, w_st h _ _ _ _ _⟩
theorem patch_m {c : CT} {s : CT} {f : FT} {p : PT} {k : KT} {d : DT} {m : MT} {b : BT} {o : Ob} (h : A o = (c, s, f, p, k, d, m, b)) (D : LD d) {L : Nat} (hL : d.2.2.2.2.2.1.toInt = (L : Nat)) (l160 : L ≤ 160) {x y z : Int32} : ∃ q, F24 o x y z = some q ∧ ((x.toInt < 0 → A q = (c, s, f, p, k, (d.1, d.2.1, d.2.2.1, d.2.2.2.1, d.2.2.2.2.1, d.2.2.2.2.2.1, z), m, b)) ∧ ∀ j : Nat, x.toInt = j → j < L → (y = 0 → A q = (c, s, f, p, k, (d.1, d.2.1, d.2.2.1.set j z, d.2.2.2), m, b)) ∧ (y ≠ 0 → A q = (c, s, f, p, k, (d.1, d.2.1, d.2.2.1, d.2.2.2.1.set j z, d.2.2.2.2), m, b))) := by
 have z0 : (0 : Int32).toInt = 0 := rfl
 obtain ⟨d1, d2, d3, d4, d5⟩ := D
 unfold F24 J24_12
 by_cases x0 : x < 0
 ·rw [if_pos x0]
  rw [i_lt, z0] at x0
  exact ⟨_, rfl, fun _ => w_root h z, fun j hj _ => by omega⟩
 rw [if_neg x0]
 rw [i_lt, z0] at x0
 rw [g_codeLen h]
 by_cases x1 : x < d.2.2.2.2.2.1
 ·rw [if_pos x1]
  rw [i_lt] at x1
  obtain ⟨j, hj⟩ : ∃ j : Nat, x.toInt = j := ⟨x.toInt.toNat, by omega⟩
  by_cases y0 : y = 0
  ·rw [if_pos y0, g_argB h, aset_at hj (by omega), Option.bind_some]
   refine ⟨_, rfl, fun w => absurd w (by omega), fun j' hj' _ => ⟨fun _ => ?_, fun w => absurd y0 w⟩⟩
   have : j' = j := by omega
   subst this
   exact w_argB h _
  ·rw [if_neg y0, g_argC h, aset_at hj (by omega), Option.bind_some]
   refine ⟨_, rfl, fun w => absurd w (by omega), fun j' hj' _ => ⟨fun w => absurd w y0, fun _ => ?_⟩⟩
   have : j' = j := by omega
   subst this
   exact w_argC h _
 ·rw [if_neg x1]
  rw [i_lt] at x1
  exact ⟨_, rfl, fun w => absurd w (by omega), fun j' hj' w => by omega⟩
def Few (T : Int) (n : Nat) : Prop := (T ≤ 4 ∨ n ≤ 3) ∧ T ≤ 16
theorem dist_ok {c : CT} {s : CT} {f : FT} {p : PT} {k : KT} {d : DT} {m : MT} {b : BT} {o : Ob} (h : A o = (c, s, f, p, k, d, m, b)) {T : Int} {n a e : Nat} (S : Sw T n s) (F : Few T n) (ae : a ≤ e) (en : e < n) {x y : Int32} (hx : x.toInt = a) (hy : y.toInt = e) : okP (F21 o x y) (fun r => r.toInt ≤ 3) := by
 have n64 := S.2.2.1
 have dd0 := S.2.2.2.2.2.2.1
 have dd1 := S.2.2.2.2.2.2.2
 unfold F21
 apply okP.bind
 refine okP.mono (P := fun r : Int32 => r.toInt ≤ 3) ?_ (fun r hr => okP.some hr)
 refine okP.loop (fun w : Int32 × Int32 × Int32 => ∃ i : Nat, w.2.2.toInt = (i : Int) ∧ a ≤ i ∧ i ≤ n ∧ (T ≤ 4 → Q4 (df s) w.1 w.2.1) ∧ (n ≤ 3 → 0 ≤ w.2.1.toInt ∧ w.2.1.toInt ≤ i - a)) (fun w => (100 - w.2.2.toInt).toNat) ⟨a, hx, Nat.le_refl _, by omega, fun _ => Q4.zero _, fun _ => by show (0 : Int) ≤ 0 ∧ (0 : Int) ≤ _; omega⟩ (by show (100 - x.toInt).toNat < 4000; omega) ?_
 rintro ⟨se, di, z⟩ ⟨i, hi, ai, iN, H4, H3⟩
 simp only at hi H4 H3
 have fin : di.toInt ≤ 3 := by
  rcases F.1 with w | w
  ·exact (H4 w).top dd0 (by have : (df s).toInt < T := dd1; omega)
  ·have := H3 w; omega
 unfold B21_8
 simp only
 refine okP.ite (fun _ => okP.some fin) (fun c1 => ?_)
 rw [g_snapCount h]
 refine okP.ite (fun c2 => ?_) (fun _ => okP.some fin)
 rw [i_lt, S.2.2.2.1] at c2
 have ez : (z + 1).toInt = z.toInt + 1 := inc1 (by omega)
 rw [g_snapTgt h, S.a_t (by omega) hi, Option.bind_some, g_snapDefault h]
 have ti := S.2.2.2.2.2.1 i (by omega)
 refine okP.some ⟨⟨i + 1, by simp only; omega, by omega, by omega, fun w => ?_, fun w => ?_⟩, by simp only; omega⟩
 ·exact (H4 w).step dd0 (by have : (df s).toInt < T := dd1; omega) ti.1 (by omega)
 ·simp only
  have := H3 w
  have ed : (di + 1).toInt = di.toInt + 1 := inc1 (by omega)
  by_cases e1 : tt' s i = s.2.2.2.1
  ·rw [if_pos e1]; omega
  ·rw [if_neg e1]
   split
   ·omega
   ·omega
theorem find_ok {c : CT} {s : CT} {f : FT} {p : PT} {k : KT} {d : DT} {m : MT} {b : BT} {o : Ob} (h : A o = (c, s, f, p, k, d, m, b)) (M : LM m) {base used : Nat} (bu : base + used ≤ 190) {x y t : Int32} (hx : x.toInt = base) (hy : y.toInt = used) : okP (F23 o x y t) (fun r => (r = -1 ∧ ∀ j, j < used → at' m.2.1 (base + j) ≠ t) ∨ ∃ j, j < used ∧ at' m.2.1 (base + j) = t ∧ r.toInt = ((base + j : Nat) : Int)) := by
 have z0 : (0 : Int32).toInt = 0 := rfl
 have l2 := M.2.1
 have lo : ((fh o).length.toInt32).toInt = 192 := by rw [g_maskTarget h, l2]; rfl
 unfold F23
 apply okP.bind
 refine okP.mono (P := fun r => (r = -1 ∧ ∀ j, j < used → at' m.2.1 (base + j) ≠ t) ∨ ∃ j, j < used ∧ at' m.2.1 (base + j) = t ∧ r.toInt = ((base + j : Nat) : Int)) ?_ (fun r hr => okP.some hr)
 refine okP.loop (fun w : Int32 => ∃ j : Nat, w.toInt = (j : Int) ∧ j ≤ used ∧ ∀ j', j' < j → at' m.2.1 (base + j') ≠ t) (fun w => (200 - w.toInt).toNat) ⟨0, rfl, by omega, fun j hj => absurd hj (by omega)⟩ (by show (200 - (0 : Int)).toNat < 4000; decide) ?_
 rintro w ⟨j, hj, ju, hm⟩
 unfold B23_3
 have ew : (w + 1).toInt = w.toInt + 1 := inc1 (by omega)
 have ebw : (x + w).toInt = x.toInt + w.toInt := i_add (by omega) (by omega)
 refine okP.ite (fun c2 => ?_) (fun c2 => ?_)
 ·rw [i_lt] at c2
  rw [if_neg (by rw [i_lt, z0]; omega), if_pos (by rw [i_lt, lo]; omega), g_maskTarget h, ag (a := base + j) (by omega) (by omega), Option.bind_some]
  refine okP.ite (fun e => ?_) (fun e => ?_)
  ·exact okP.some (Or.inr ⟨j, by omega, e, by omega⟩)
  ·unfold J23_44
   refine okP.some ⟨⟨j + 1, by omega, by omega, fun j' hj' => ?_⟩, by omega⟩
   by_cases z : j' = j
   ·rw [z]; exact e
   ·exact hm j' (by omega)
 ·rw [i_lt] at c2
  exact okP.some (Or.inl ⟨rfl, fun j' hj' => hm j' (by omega)⟩)
theorem bits_e {c : CT} {s : CT} {f : FT} {p : PT} {k : KT} {d : DT} {m : MT} {b : BT} {o : Ob} (h : A o = (c, s, f, p, k, d, m, b)) {T : Int} {n a e : Nat} (S : Sw T n s) (F : Few T n) (ae : a < e) (en : e < n) (h64 : vv s e - vv s a + 1 ≤ 64) (D : LD d) (M : LM m) {L base : Nat} (hL : d.2.2.2.2.2.1.toInt = (L : Nat)) (l160 : L < 160) (hb : m.2.2.toInt = (base : Nat)) (b150 : base ≤ 150) {x y z : Int32} (hx : x.toInt = a) (hy : y.toInt = e) (hz : z.toInt = vv s e - vv s a + 1) : okP (F22 o x y z) (fun w => w.1 = d.2.2.2.2.2.1 ∧ ∃ (m' : MT) (used : Nat) (x1 x2 x3 N : Int32), N.toInt = ((L + 1 : Nat) : Int) ∧ A w.2 = (c, s, f, p, k, (d.1.set L 4, d.2.1.set L x1, d.2.2.1.set L x2, d.2.2.2.1.set L x3, d.2.2.2.2.1.set L z, N, d.2.2.2.2.2.2), m', b) ∧ x1.toInt = vv s a ∧ x2.toInt = (base : Nat) ∧ x3.toInt = (used : Nat) ∧ used ≤ 3 ∧ LM m' ∧ m'.2.2.toInt = ((base + used : Nat) : Int) ∧ Msk s m' a (e + 1) base used ∧ ∀ j, j < base → am m'.1 j = am m.1 j ∧ at' m'.2.1 j = at' m.2.1 j) := by
 have z0 : (0 : Int32).toInt = 0 := rfl
 have z3 : (3 : Int32).toInt = 3 := rfl
 have n64 := S.2.2.1
 have dd0 : 0 ≤ (df s).toInt := S.2.2.2.2.2.2.1
 have dd1 : (df s).toInt < T := S.2.2.2.2.2.2.2
 unfold F22
 rw [g_snapVal h, S.a_v (by omega) hx, Option.bind_some, g_maskUsed h]
 apply okP.bind
 refine okP.mono (P := fun w : Int32 × Ob => ∃ (m' : MT) (used : Nat), w.1.toInt = (used : Nat) ∧ used ≤ 3 ∧ A w.2 = (c, s, f, p, k, d, m', b) ∧ LM m' ∧ Msk s m' a (e + 1) base used ∧ ∀ j, j < base → am m'.1 j = am m.1 j ∧ at' m'.2.1 j = at' m.2.1 j) ?_ ?_
 ·refine okP.loop (fun w : Int32 × Int32 × Ob => ∃ (i used : Nat) (m' : MT), w.2.1.toInt = (i : Int) ∧ a ≤ i ∧ i ≤ e + 1 ∧ w.1.toInt = (used : Nat) ∧ used ≤ 3 ∧ used ≤ i - a ∧ A w.2.2 = (c, s, f, p, k, d, m', b) ∧ LM m' ∧ m'.2.2 = m.2.2 ∧ Msk s m' a i base used ∧ ∀ j, j < base → am m'.1 j = am m.1 j ∧ at' m'.2.1 j = at' m.2.1 j) (fun w => (100 - w.2.1.toInt).toNat) ⟨a, 0, m, hx, Nat.le_refl _, by omega, rfl, by omega, by omega, h, M, rfl, ⟨fun j hj => absurd hj (by omega), fun i h1 h2 => absurd h2 (by omega), fun j hj => absurd hj (by omega), fun j j' hj => absurd hj (by omega)⟩, fun _ _ => ⟨rfl, rfl⟩⟩ (by show (100 - x.toInt).toNat < 4000; omega) ?_
  rintro ⟨uw, iw, q⟩ ⟨i, used, m', hi, ai, ie, hu, u3, ui, hq, M', mu, K, old⟩
  simp only at hi hu hq
  unfold B22_20
  simp only
  rw [g_snapCount hq]
  refine okP.ite (fun c1 => ?_) (fun c1 => ?_)
  ·rw [i_lt] at c1
   have : i = e + 1 := by omega
   subst this
   exact okP.some ⟨m', used, hu, u3, hq, M', K, old⟩
  rw [i_lt] at c1
  rw [if_pos (by rw [i_lt, S.2.2.2.1]; omega)]
  have ei : (iw + 1).toInt = iw.toInt + 1 := inc1 (by omega)
  have ti := S.2.2.2.2.2.1 i (by omega)
  rw [g_snapTgt hq, S.a_t (by omega) hi, Option.bind_some, g_snapDefault hq]
  obtain ⟨K1, K2, K3, K4⟩ := id K
  have done : ∀ (q' : Ob) (m2 : MT) (u2 : Nat) (uw2 : Int32), uw2.toInt = (u2 : Nat) → u2 ≤ 3 → u2 ≤ i + 1 - a → A q' = (c, s, f, p, k, d, m2, b) → LM m2 → m2.2.2 = m.2.2 → Msk s m2 a (i + 1) base u2 → (∀ j, j < base → am m2.1 j = am m.1 j ∧ at' m2.2.1 j = at' m.2.1 j) → okP (J22_151 q' y z (at' s.1 a) m.2.2 uw2 iw) (fun r' => Sum.elim (fun w : Int32 × Ob => ∃ (m' : MT) (used : Nat), w.1.toInt = (used : Nat) ∧ used ≤ 3 ∧ A w.2 = (c, s, f, p, k, d, m', b) ∧ LM m' ∧ Msk s m' a (e + 1) base used ∧ ∀ j, j < base → am m'.1 j = am m.1 j ∧ at' m'.2.1 j = at' m.2.1 j) (fun w : Int32 × Int32 × Ob => (∃ (i used : Nat) (m' : MT), w.2.1.toInt = (i : Int) ∧ a ≤ i ∧ i ≤ e + 1 ∧ w.1.toInt = (used : Nat) ∧ used ≤ 3 ∧ used ≤ i - a ∧ A w.2.2 = (c, s, f, p, k, d, m', b) ∧ LM m' ∧ m'.2.2 = m.2.2 ∧ Msk s m' a i base used ∧ ∀ j, j < base → am m'.1 j = am m.1 j ∧ at' m'.2.1 j = at' m.2.1 j) ∧ (100 - w.2.1.toInt).toNat < (100 - iw.toInt).toNat) r') := by
   intro q' m2 u2 uw2 k1 k2 k3 k4 k5 k6 k7 k8
   unfold J22_151
   exact okP.some ⟨⟨i + 1, u2, m2, by simp only; omega, by omega, by omega, k1, k2, k3, k4, k5, k6, k7, k8⟩, by simp only; omega⟩
  refine okP.ite (fun td => ?_) (fun td => ?_)
  ·-- the default's own: no mask
   refine done q m' used uw hu u3 (by omega) hq M' mu ⟨fun j hj n hn => ?_, fun i' h1 h2 h3 => ?_, fun j hj => ?_, K4⟩ old
   ·rw [K1 j hj n hn]
    constructor
    ·rintro ⟨i', a1, a2, a3⟩; exact ⟨i', a1, by omega, a3⟩
    ·rintro ⟨i', a1, a2, a3, a4⟩
     refine ⟨i', a1, ?_, a3, a4⟩
     by_cases w : i' = i
     ·subst w; exact absurd td a3
     ·omega
   ·by_cases w : i' = i
    ·subst w; exact absurd td h3
    ·exact K2 i' h1 (by omega) h3
   ·obtain ⟨i', a1, a2, a3⟩ := K3 j hj
    exact ⟨i', a1, by omega, a3⟩
  have td' : tt' s i ≠ df s := td
  have vmono : vv s a ≤ vv s i := by
   rcases Nat.eq_or_lt_of_le ai with w | w
   ·rw [w]; omega
   ·have := S.2.2.2.2.1 a i w (by omega); omega
  have vtop : vv s i ≤ vv s e := by
   by_cases w : i = e
   ·rw [w]; omega
   ·have := S.2.2.2.2.1 i e (by omega) (by omega); omega
  have put : ∀ (q' : Ob) (m2 : MT) (u2 j0 : Nat) (uw2 sw : Int32), uw2.toInt = (u2 : Nat) → u2 ≤ 3 → u2 ≤ i + 1 - a → A q' = (c, s, f, p, k, d, m2, b) → LM m2 → m2.2.2 = m.2.2 → j0 < u2 → sw.toInt = ((base + j0 : Nat) : Int) → at' m2.2.1 (base + j0) = tt' s i → (∀ j, j < u2 → ∀ n, n < 64 → (bt6 (am m2.1 (base + j)) n = true ↔ ∃ i', a ≤ i' ∧ i' < i ∧ tt' s i' ≠ df s ∧ tt' s i' = at' m2.2.1 (base + j) ∧ vv s i' = vv s a + n)) → (∀ i', a ≤ i' → i' < i → tt' s i' ≠ df s → ∃ j, j < u2 ∧ at' m2.2.1 (base + j) = tt' s i') → (∀ j, j < u2 → ∃ i', a ≤ i' ∧ i' < i + 1 ∧ at' m2.2.1 (base + j) = tt' s i' ∧ tt' s i' ≠ df s) → (∀ j j', j < u2 → j' < u2 → at' m2.2.1 (base + j) = at' m2.2.1 (base + j') → j = j') → (∀ j, j < base → am m2.1 j = am m.1 j ∧ at' m2.2.1 j = at' m.2.1 j) → okP (J22_120 q' y z (at' s.1 a) m.2.2 uw2 iw sw) (fun r' => Sum.elim (fun w : Int32 × Ob => ∃ (m' : MT) (used : Nat), w.1.toInt = (used : Nat) ∧ used ≤ 3 ∧ A w.2 = (c, s, f, p, k, d, m', b) ∧ LM m' ∧ Msk s m' a (e + 1) base used ∧ ∀ j, j < base → am m'.1 j = am m.1 j ∧ at' m'.2.1 j = at' m.2.1 j) (fun w : Int32 × Int32 × Ob => (∃ (i used : Nat) (m' : MT), w.2.1.toInt = (i : Int) ∧ a ≤ i ∧ i ≤ e + 1 ∧ w.1.toInt = (used : Nat) ∧ used ≤ 3 ∧ used ≤ i - a ∧ A w.2.2 = (c, s, f, p, k, d, m', b) ∧ LM m' ∧ m'.2.2 = m.2.2 ∧ Msk s m' a i base used ∧ ∀ j, j < base → am m'.1 j = am m.1 j ∧ at' m'.2.1 j = at' m.2.1 j) ∧ (100 - w.2.1.toInt).toNat < (100 - iw.toInt).toNat) r') := by
   intro q' m2 u2 j0 uw2 sw k1 k2 k3 hq' LM2 mu2 j0u hsw tg P1 P2 P3 P4 old2
   obtain ⟨lp, lt, _⟩ := id LM2
   unfold J22_120
   have ev : (at' s.1 i - at' s.1 a).toInt = vv s i - vv s a := i_sub (by show -2147483648 ≤ vv s i - vv s a; omega) (by show vv s i - vv s a < 2147483648; omega)
   obtain ⟨bn, hbn⟩ : ∃ bn : Nat, (at' s.1 i - at' s.1 a).toInt = bn := ⟨(vv s i - vv s a).toNat, by omega⟩
   have b64 : bn < 64 := by omega
   rw [if_neg (by rw [i_lt, z0]; omega), g_snapVal hq', S.a_v (by omega) hi, Option.bind_some, g_maskPool hq', agm hsw (by omega), Option.bind_some, aset_at hsw (by omega), Option.bind_some]
   have hw := w_mask hq' (m2.1.set (base + j0) (am m2.1 (base + j0) ||| ((1 : Int64) <<< ((at' s.1 i - at' s.1 a).toInt64 &&& 63))))
   refine done _ _ u2 uw2 k1 k2 k3 hw ⟨ls lp, lt, LM2.2.2⟩ mu2 ⟨fun j hj n hn => ?_, fun i' h1 h2 h3 => ?_, P3, P4⟩ (fun j hj => ?_)
   ·simp only
    rw [am_set (by omega)]
    by_cases w : j = j0
    ·subst w
     rw [if_pos rfl, bt6_or, bt6_one hbn b64 hn, Bool.or_eq_true, P1 j hj n hn, decide_eq_true_eq]
     constructor
     ·rintro (⟨i', a1, a2, a3, a4, a5⟩ | w)
      ·exact ⟨i', a1, by omega, a3, a4, a5⟩
      ·exact ⟨i, ai, by omega, td', tg.symm, by omega⟩
     ·rintro ⟨i', a1, a2, a3, a4, a5⟩
      by_cases w : i' = i
      ·subst w; right; omega
      ·exact Or.inl ⟨i', a1, by omega, a3, a4, a5⟩
    ·rw [if_neg (by omega), P1 j hj n hn]
     constructor
     ·rintro ⟨i', a1, a2, a3⟩; exact ⟨i', a1, by omega, a3⟩
     ·rintro ⟨i', a1, a2, a3, a4, a5⟩
      refine ⟨i', a1, ?_, a3, a4, a5⟩
      by_cases w' : i' = i
      ·subst w'
       exact absurd (P4 j j0 hj j0u (by rw [← a4, tg])) w
      ·omega
   ·by_cases w : i' = i
    ·subst w; exact ⟨j0, j0u, tg⟩
    ·exact P2 i' h1 (by omega) h3
   ·simp only
    rw [am_set (by omega), if_neg (by omega)]
    exact old2 j hj
  have hbase : m.2.2.toInt = (base : Nat) := hb
  apply okP.bind
  refine okP.mono (find_ok hq M' (base := base) (used := used) (by omega) hbase hu) ?_
  rintro r (⟨r1, nf⟩ | ⟨j0, j1, j2, j3⟩)
  ·-- a new target
   have u2 : used ≤ 2 := by
    rcases F.1 with w | w
    ·have := pig 4 (used + 2) (fun x => if x = used then (tt' s i).toInt.toNat else if x = used + 1 then (df s).toInt.toNat else (at' m'.2.1 (base + x)).toInt.toNat) (fun x hx => ?_) (fun x x' hx hx' e' => ?_)
     ·omega
     ·show (if x = used then (tt' s i).toInt.toNat else if x = used + 1 then (df s).toInt.toNat else (at' m'.2.1 (base + x)).toInt.toNat) < 4
      split
      ·omega
      ·split
       ·omega
       ·obtain ⟨i', a1, a2, a3, _⟩ := K3 x (by omega)
        have := S.2.2.2.2.2.1 i' (by omega)
        rw [a3]; omega
     ·have e' : (if x = used then (tt' s i).toInt.toNat else if x = used + 1 then (df s).toInt.toNat else (at' m'.2.1 (base + x)).toInt.toNat) = (if x' = used then (tt' s i).toInt.toNat else if x' = used + 1 then (df s).toInt.toNat else (at' m'.2.1 (base + x')).toInt.toNat) := e'
      have nn : ∀ x, x < used → 0 ≤ (at' m'.2.1 (base + x)).toInt ∧ (at' m'.2.1 (base + x)).toInt ≠ (df s).toInt ∧ (at' m'.2.1 (base + x)).toInt ≠ (tt' s i).toInt := by
       intro x hx
       obtain ⟨i', a1, a2, a3, a4⟩ := K3 x hx
       have := S.2.2.2.2.2.1 i' (by omega)
       refine ⟨by rw [a3]; omega, fun z => a4 (by rw [← a3]; exact i_eq.2 z), fun z => nf x hx (i_eq.2 z)⟩
      have tdn : (tt' s i).toInt ≠ (df s).toInt := fun z => td' (i_eq.2 z)
      by_cases c1 : x = used
      ·rw [if_pos c1] at e'
       by_cases c2 : x' = used
       ·omega
       ·rw [if_neg c2] at e'
        by_cases c3 : x' = used + 1
        ·rw [if_pos c3] at e'; omega
        ·rw [if_neg c3] at e'
         have := nn x' (by omega); omega
      ·rw [if_neg c1] at e'
       by_cases c1' : x = used + 1
       ·rw [if_pos c1'] at e'
        by_cases c2 : x' = used
        ·rw [if_pos c2] at e'; omega
        ·rw [if_neg c2] at e'
         by_cases c3 : x' = used + 1
         ·omega
         ·rw [if_neg c3] at e'
          have := nn x' (by omega); omega
       ·rw [if_neg c1'] at e'
        have n1 := nn x (by omega)
        by_cases c2 : x' = used
        ·rw [if_pos c2] at e'; omega
        ·rw [if_neg c2] at e'
         by_cases c3 : x' = used + 1
         ·rw [if_pos c3] at e'; omega
         ·rw [if_neg c3] at e'
          have n2 := nn x' (by omega)
          exact K4 x x' (by omega) (by omega) (i_eq.2 (by omega))
    ·omega
   have lo : ((fd q).length.toInt32).toInt = 192 := by rw [g_maskPool hq, M'.1]; rfl
   have eu : (uw + 1).toInt = uw.toInt + 1 := inc1 (by omega)
   have ebu : (m.2.2 + uw).toInt = m.2.2.toInt + uw.toInt := i_add (by omega) (by omega)
   have b8' := (b8 ti.1 (by have := F.2; omega)).1
   obtain ⟨lp, lt, lb1, lb2⟩ := id M'
   rw [r1, if_pos (by decide), if_pos (by rw [i_lt, z3]; omega), if_pos (by rw [i_lt, lo]; omega), g_maskTarget hq, g_maskPool hq, b8']
   generalize hsw : m.2.2 + uw = sw at ebu ⊢
   rw [aset_at (n := base + used) (by omega) (by omega), Option.bind_some, aset_at (n := base + used) (by omega) (by omega), Option.bind_some]
   have hw := w_mask (w_mtgt hq (m'.2.1.set (base + used) (tt' s i))) (m'.1.set (base + used) 0)
   have tE : ∀ j, at' (m'.2.1.set (base + used) (tt' s i)) (base + j) = if j = used then tt' s i else at' m'.2.1 (base + j) := by
    intro j
    rw [at_set (by omega)]
    by_cases w : j = used
    ·rw [if_pos (by omega), if_pos w]
    ·rw [if_neg (by omega), if_neg w]
   refine put _ _ (used + 1) used (uw + 1) sw (by omega) (by omega) (by omega) hw ⟨ls lp, ls lt, lb1, lb2⟩ mu (by omega) (by omega) (by simp only; rw [tE, if_pos rfl]) (fun j hj n hn => ?_) (fun i' h1 h2 h3 => ?_) (fun j hj => ?_) (fun j j' hj hj' e' => ?_) (fun j hj => ?_)
   ·simp only
    rw [tE, am_set (by omega)]
    by_cases w : j = used
    ·rw [if_pos (by omega), if_pos w, bt6_0]
     constructor
     ·intro z; exact absurd z (by decide)
     ·rintro ⟨i', a1, a2, a3, a4, a5⟩
      obtain ⟨j', j1, j2⟩ := K2 i' a1 a2 a3
      exact absurd (by rw [j2, a4]) (nf j' j1)
    ·rw [if_neg (by omega), if_neg w]
     exact K1 j (by omega) n hn
   ·obtain ⟨j, j1, j2⟩ := K2 i' h1 h2 h3
    refine ⟨j, by omega, ?_⟩
    simp only
    rw [tE, if_neg (by omega)]; exact j2
   ·simp only
    rw [tE]
    by_cases w : j = used
    ·rw [if_pos w]; exact ⟨i, ai, by omega, rfl, td'⟩
    ·rw [if_neg w]
     obtain ⟨i', a1, a2, a3⟩ := K3 j (by omega)
     exact ⟨i', a1, by omega, a3⟩
   ·simp only at e'
    rw [tE, tE] at e'
    by_cases w : j = used
    ·rw [if_pos w] at e'
     by_cases w' : j' = used
     ·omega
     ·rw [if_neg w'] at e'
      exact absurd e'.symm (nf j' (by omega))
    ·rw [if_neg w] at e'
     by_cases w' : j' = used
     ·rw [if_pos w'] at e'
      exact absurd e' (nf j (by omega))
     ·rw [if_neg w'] at e'
      exact K4 j j' (by omega) (by omega) e'
   ·simp only
    rw [at_set (by omega), if_neg (by omega), am_set (by omega), if_neg (by omega)]
    exact old j hj
  ·-- a target known
   rw [if_neg (by rw [i_lt, z0]; omega)]
   exact put q m' used j0 uw r hu u3 (by omega) hq M' mu j1 j3 j2 K1 K2 (fun j hj => by obtain ⟨i', a1, a2, a3⟩ := K3 j hj; exact ⟨i', a1, by omega, a3⟩) K4 old
 ·rintro ⟨uw, q⟩ ⟨m', used, hu, u3, hq, M', K, old⟩
  simp only at hu hq ⊢
  unfold J22_157
  have eb : (m.2.2 + uw).toInt = m.2.2.toInt + uw.toInt := i_add (by omega) (by omega)
  generalize m.2.2 + uw = sw at eb ⊢
  obtain ⟨q', N, e1, e2, e3⟩ := emit_m (w_mu hq sw) D hL l160 (op := 4) (a1 := at' s.1 a) (a2 := m.2.2) (a3 := uw) (a4 := z) (by decide)
  rw [e1, Option.bind_some]
  obtain ⟨lp, lt, lb1, lb2⟩ := M'
  refine okP.some ⟨rfl, _, used, at' s.1 a, m.2.2, uw, N, e2, e3, rfl, hb, hu, u3, ⟨lp, lt, by simp only; omega, by simp only; omega⟩, by simp only; omega, ?_, old⟩
  exact K.congr (m' := (m'.1, m'.2.1, sw)) (fun j _ => ⟨rfl, rfl⟩)

theorem Leaf.congr {s : CT} {d d' : DT} {m m' : MT} {a b pc : Nat} (L : Leaf s d m a b pc) (h1 : at' d'.1 pc = at' d.1 pc) (h2 : at' d'.2.1 pc = at' d.2.1 pc) (h3 : at' d'.2.2.1 pc = at' d.2.2.1 pc) (h4 : at' d'.2.2.2.1 pc = at' d.2.2.2.1 pc) (h5 : at' d'.2.2.2.2.1 pc = at' d.2.2.2.2.1 pc) (hm : ∀ j, j < m.2.2.toInt.toNat → am m'.1 j = am m.1 j ∧ at' m'.2.1 j = at' m.2.1 j) (hu : m.2.2.toInt.toNat ≤ m'.2.2.toInt.toNat) : Leaf s d' m' a b pc := by
 unfold Leaf gd at *
 rw [h1, h2, h3, h4, h5]
 rcases L with L | ⟨q1, q2, base, used, q3, q4, q5, q6, q7, q8, q9⟩
 ·exact Or.inl L
 ·exact Or.inr ⟨q1, q2, base, used, q3, q4, q5, by omega, q7, q8, q9.congr (fun j hj => hm j (by omega))⟩
theorem leaf_e {c : CT} {s : CT} {f : FT} {p : PT} {k : KT} {d : DT} {m : MT} {b : BT} {o : Ob} (h : A o = (c, s, f, p, k, d, m, b)) {T : Int} {n K a : Nat} {β : Nat → Nat} (S : Sw T n s) (F : Few T n) (C : Cls s n K β k) (ha : a < K) (D : LD d) (M : LM m) {L : Nat} (hL : d.2.2.2.2.2.1.toInt = (L : Nat)) (l160 : L < 160) (b150 : m.2.2.toInt ≤ 150) {x : Int32} (hx : x.toInt = a) : okP (F20 o x) (fun w => w.1 = d.2.2.2.2.2.1 ∧ ∃ (m' : MT) (op x1 x2 x3 x4 N : Int32), N.toInt = ((L + 1 : Nat) : Int) ∧ A w.2 = (c, s, f, p, k, (d.1.set L op, d.2.1.set L x1, d.2.2.1.set L x2, d.2.2.2.1.set L x3, d.2.2.2.2.1.set L x4, N, d.2.2.2.2.2.2), m', b) ∧ Leaf s (d.1.set L op, d.2.1.set L x1, d.2.2.1.set L x2, d.2.2.2.1.set L x3, d.2.2.2.2.1.set L x4, N, d.2.2.2.2.2.2) m' (β a) (β (a + 1)) L ∧ LM m' ∧ m.2.2.toInt ≤ m'.2.2.toInt ∧ m'.2.2.toInt ≤ m.2.2.toInt + 3 ∧ ∀ j, j < m.2.2.toInt.toNat → am m'.1 j = am m.1 j ∧ at' m'.2.1 j = at' m.2.1 j) := by
 have z0 : (0 : Int32).toInt = 0 := rfl
 have z3 : (3 : Int32).toInt = 3 := rfl
 have z64 : (64 : Int64).toInt = 64 := rfl
 have n64 := S.2.2.1
 obtain ⟨c1, c2, c3, Kn, b0, bK, hc⟩ := C
 obtain ⟨b1, b2, b3, b4, b5⟩ := hc a ha
 obtain ⟨d1, d2, d3, d4, d5⟩ := id D
 have hs : (at' k.1 a).toInt = (β a : Nat) := b3
 have he : (at' k.2.1 a).toInt = ((β (a + 1) - 1 : Nat) : Int) := by
  have : (at' k.2.1 a).toInt = (β (a + 1) : Int) - 1 := b4
  omega
 unfold F20
 rw [if_neg (by rw [i_lt, z0]; omega), if_pos (by rw [i_lt, g_clCount h]; omega), g_clStart h, ag hx (by omega), Option.bind_some, g_clEnd h, ag hx (by omega), Option.bind_some]
 generalize at' k.1 a = sv at hs ⊢
 generalize at' k.2.1 a = ev at he ⊢
 rw [if_neg (by rw [i_lt, z0]; omega), if_pos (by rw [i_lt, g_snapCount h, S.2.2.2.1]; omega), if_neg (by rw [i_lt]; omega)]
 refine okP.ite (fun se => ?_) (fun se => ?_)
 ·rw [i_eq] at se
  have t1 := S.2.2.2.2.2.1 (β a) (by omega)
  rw [g_snapVal h, S.a_v (j := β a) (by omega) hs, Option.bind_some, g_snapTgt h, S.a_t (j := β a) (by omega) hs, Option.bind_some]
  obtain ⟨q, N, e1, e2, e3⟩ := emit_m h D hL l160 (op := 2) (a1 := at' s.1 (β a)) (a2 := tt' s (β a)) (a3 := 0) (a4 := 0) (by decide)
  rw [e1, Option.bind_some]
  refine okP.some ⟨rfl, m, 2, at' s.1 (β a), tt' s (β a), 0, 0, N, e2, e3, Or.inl ⟨?_, by omega, ?_, ?_⟩, M, by omega, by omega, fun _ _ => ⟨rfl, rfl⟩⟩
  ·simp only; rw [at_set (by omega), if_pos rfl]
  ·simp only; rw [gd_set (by omega), if_pos rfl]; rfl
  ·simp only; rw [at_set (by omega), if_pos rfl]
 ·rw [i_eq] at se
  have ae : β a < β (a + 1) - 1 := by omega
  have h64 : vv s (β (a + 1) - 1) - vv s (β a) + 1 ≤ 64 := by
   rcases b5 with w | w
   ·omega
   ·exact w
  have vlt := S.2.2.2.2.1 (β a) (β (a + 1) - 1) ae (by omega)
  rw [g_snapVal h, S.a_v (j := β (a + 1) - 1) (by omega) he, Option.bind_some, S.a_v (j := β a) (by omega) hs, Option.bind_some]
  apply okP.bind
  refine okP.mono (dist_ok h S F (by omega) (by omega) hs he) (fun r hr => ?_)
  have sp := span_m (at' s.1 (β (a + 1) - 1)) (at' s.1 (β a))
  have sp' : ((at' s.1 (β (a + 1) - 1)).toInt64 - (at' s.1 (β a)).toInt64 + (1 : Int64)).toInt = vv s (β (a + 1) - 1) - vv s (β a) + 1 := sp
  generalize (at' s.1 (β (a + 1) - 1)).toInt64 - (at' s.1 (β a)).toInt64 + (1 : Int64) = sv64 at sp' ⊢
  rw [if_neg (by rw [J_lt, z64]; omega), if_neg (by rw [i_lt, z3]; omega)]
  have t32 : sv64.toInt32.toInt = vv s (β (a + 1) - 1) - vv s (β a) + 1 := by
   rw [Int64.toInt_toInt32, Int.bmod_eq_of_le (by omega) (by omega)]; exact sp'
  obtain ⟨base, hb⟩ : ∃ base : Nat, m.2.2.toInt = (base : Nat) := ⟨m.2.2.toInt.toNat, by have := M.2.2.1; omega⟩
  apply okP.bind
  refine okP.mono (bits_e h S F ae (by omega) h64 D M hL l160 hb (by omega) hs he t32) ?_
  rintro ⟨r1, q⟩ ⟨w1, m', used, x1, x2, x3, N, w2, w3, w4, w5, w6, w7, w8, w9, w10, w11⟩
  simp only at w1 w3 ⊢
  refine okP.some ⟨w1, m', 4, x1, x2, x3, sv64.toInt32, N, w2, w3, Or.inr ⟨?_, ?_, base, used, ?_, ?_, w7, by omega, ?_, h64, ?_⟩, w8, by omega, by omega, fun j hj => w11 j (by omega)⟩
  ·simp only; rw [at_set (by omega), if_pos rfl]
  ·simp only; rw [gd_set (by omega), if_pos rfl]; exact w4
  ·simp only; rw [gd_set (by omega), if_pos rfl]; exact w5
  ·simp only; rw [gd_set (by omega), if_pos rfl]; exact w6
  ·simp only; rw [gd_set (by omega), if_pos rfl]; exact t32
  ·rw [show β (a + 1) = β (a + 1) - 1 + 1 by omega]; exact w10
abbrev En := Nat × Nat × Int × Nat
def Pend (σ : Nat → En) (P : Nat) (e : En) : Prop := ∃ i, i < P ∧ σ i = e
def Nod (s : CT) (β : Nat → Nat) (K : Nat) (d : DT) (m : MT) (γ : Nat → Nat × Nat) (μ : Nat → Nat) (L : Nat) (σ : Nat → En) (P pc : Nat) : Prop :=
 (γ pc).1 ≤ (γ pc).2 ∧ (γ pc).2 < K ∧ (((γ pc).1 = (γ pc).2 ∧ Leaf s d m (β (γ pc).1) (β ((γ pc).1 + 1)) pc) ∨ (Inn s β d pc (γ pc).1 (γ pc).2 (μ pc) ∧ (Kid γ L pc (at' d.2.2.1 pc) (γ pc).1 (μ pc - 1) ∨ Pend σ P ((γ pc).1, μ pc - 1, (pc : Int), 0)) ∧ (Kid γ L pc (at' d.2.2.2.1 pc) (μ pc) (γ pc).2 ∨ Pend σ P (μ pc, (γ pc).2, (pc : Int), 1))))
def EnOk (K : Nat) (γ : Nat → Nat × Nat) (μ : Nat → Nat) (L : Nat) (e : En) : Prop := e.1 ≤ e.2.1 ∧ e.2.1 < K ∧ ((e.2.2.1 = -1 ∧ e.2.2.2 = 0 ∧ e.1 = 0 ∧ e.2.1 = K - 1) ∨ ∃ pc : Nat, e.2.2.1 = (pc : Int) ∧ 1 ≤ pc ∧ pc < L ∧ (γ pc).1 < (γ pc).2 ∧ ((e.2.2.2 = 0 ∧ e.1 = (γ pc).1 ∧ e.2.1 = μ pc - 1) ∨ (e.2.2.2 = 1 ∧ e.1 = μ pc ∧ e.2.1 = (γ pc).2)))
def wk (σ : Nat → En) : Nat → Nat
 | 0 => 0
 | P + 1 => wk σ P + (2 * ((σ P).2.1 - (σ P).1) + 1)
theorem wk_le (σ : Nat → En) : ∀ P, P ≤ wk σ P
 | 0 => Nat.le_refl _
 | P + 1 => by
  have := wk_le σ P
  show P + 1 ≤ wk σ P + _
  omega
theorem Nod.next {s : CT} {β : Nat → Nat} {K : Nat} {d d' : DT} {m m' : MT} {γ γ' : Nat → Nat × Nat} {μ μ' : Nat → Nat} {L : Nat} {σ σ' : Nat → En} {P P' pc : Nat} (N : Nod s β K d m γ μ L σ (P + 1) pc) (p1 : 1 ≤ pc) (pL : pc < L) (E : EnOk K γ μ L (σ P)) (hg : ∀ q, q < L → γ' q = γ q ∧ μ' q = μ q) (gL : γ' L = ((σ P).1, (σ P).2.1)) (hσ : ∀ i, i < P → i < P' ∧ σ' i = σ i) {lv : Int32} (hlv : lv.toInt = (L : Nat)) (h1 : at' d'.1 pc = at' d.1 pc) (h2 : at' d'.2.1 pc = at' d.2.1 pc) (h3 : at' d'.2.2.1 pc = if (σ P).2.2.1 = (pc : Int) ∧ (σ P).2.2.2 = 0 then lv else at' d.2.2.1 pc) (h4 : at' d'.2.2.2.1 pc = if (σ P).2.2.1 = (pc : Int) ∧ (σ P).2.2.2 = 1 then lv else at' d.2.2.2.1 pc) (h5 : at' d'.2.2.2.2.1 pc = at' d.2.2.2.2.1 pc) (hm : ∀ j, j < m.2.2.toInt.toNat → am m'.1 j = am m.1 j ∧ at' m'.2.1 j = at' m.2.1 j) (hu : m.2.2.toInt.toNat ≤ m'.2.2.toInt.toNat) : Nod s β K d' m' γ' μ' (L + 1) σ' P' pc := by
 obtain ⟨N1, N2, N3⟩ := N
 have g := hg pc pL
 unfold Nod
 rw [g.1, g.2]
 have kid : ∀ {z : Int32} {l r : Nat}, Kid γ L pc z l r → Kid γ' (L + 1) pc z l r := by
  rintro z l r ⟨q, q1, q2, q3, q4⟩
  exact ⟨q, q1, q2, by omega, by rw [(hg q q3).1]; exact q4⟩
 have pend : ∀ {e : En}, Pend σ (P + 1) e → e ≠ σ P → Pend σ' P' e := by
  rintro e ⟨i, i1, i2⟩ ne
  have : i < P := by
   rcases Nat.lt_or_ge i P with w | w
   ·exact w
   ·have : i = P := by omega
    subst this
    exact absurd i2.symm ne
  exact ⟨i, (hσ i this).1, by rw [(hσ i this).2]; exact i2⟩
 refine ⟨N1, N2, ?_⟩
 rcases N3 with ⟨ge, lf⟩ | ⟨⟨n1, n2, n3, n4⟩, kb, kc⟩
 ·left
  have ne : ¬ (σ P).2.2.1 = (pc : Int) := by
   intro w
   rcases E.2.2 with ⟨e1, _⟩ | ⟨q, e1, e2, e3, e4, _⟩
   ·omega
   ·have : q = pc := by omega
    subst this
    omega
  exact ⟨ge, lf.congr h1 h2 (by rw [h3, if_neg (fun w => ne w.1)]) (by rw [h4, if_neg (fun w => ne w.1)]) h5 hm hu⟩
 ·right
  refine ⟨⟨n1, n2, by rw [h1]; exact n3, ?_⟩, ?_, ?_⟩
  ·unfold gd at *; rw [h2]; exact n4
  ·by_cases w : (σ P).2.2.1 = (pc : Int) ∧ (σ P).2.2.2 = 0
   ·left
    rw [h3, if_pos w]
    refine ⟨L, hlv, pL, by omega, ?_⟩
    rw [gL]
    rcases E.2.2 with ⟨e1, _⟩ | ⟨q, e1, e2, e3, e4, e5⟩
    ·omega
    ·have : q = pc := by omega
     subst this
     rcases e5 with ⟨_, e6, e7⟩ | ⟨e6, _⟩
     ·rw [e6, e7]
     ·omega
   ·rw [h3, if_neg w]
    refine kb.imp kid (fun z => pend z (fun e => w ?_))
    rw [← e]
    exact ⟨rfl, rfl⟩
  ·by_cases w : (σ P).2.2.1 = (pc : Int) ∧ (σ P).2.2.2 = 1
   ·left
    rw [h4, if_pos w]
    refine ⟨L, hlv, pL, by omega, ?_⟩
    rw [gL]
    rcases E.2.2 with ⟨e1, _⟩ | ⟨q, e1, e2, e3, e4, e5⟩
    ·omega
    ·have : q = pc := by omega
     subst this
     rcases e5 with ⟨e6, _⟩ | ⟨_, e6, e7⟩
     ·omega
     ·rw [e6, e7]
   ·rw [h4, if_neg w]
    refine kc.imp kid (fun z => pend z (fun e => w ?_))
    rw [← e]
    exact ⟨rfl, rfl⟩
theorem EnOk.next {K : Nat} {γ γ' : Nat → Nat × Nat} {μ μ' : Nat → Nat} {L : Nat} {e : En} (E : EnOk K γ μ L e) (hg : ∀ q, q < L → γ' q = γ q ∧ μ' q = μ q) : EnOk K γ' μ' (L + 1) e := by
 refine ⟨E.1, E.2.1, E.2.2.imp id ?_⟩
 rintro ⟨pc, e1, e2, e3, e4, e5⟩
 refine ⟨pc, e1, e2, by omega, ?_⟩
 rw [(hg pc e3).1, (hg pc e3).2]
 exact ⟨e4, e5⟩
def Bu (T : Int) (n K : Nat) (β : Nat → Nat) (s : CT) (d : DT) (m : MT) (b : BT) (L P : Nat) : Prop := LD d ∧ LM m ∧ LS b ∧ d.2.2.2.2.2.1.toInt = (L : Nat) ∧ b.2.2.2.2.toInt = (P : Nat) ∧ 1 ≤ L ∧ m.2.2.toInt ≤ 3 * L ∧ at' d.1 0 = 0 ∧ at' d.2.1 0 = df s ∧ ∃ (γ : Nat → Nat × Nat) (μ : Nat → Nat) (σ : Nat → En), wk σ P + L = 2 * K ∧ (∀ i, i < P → gd b.1 i = ((σ i).1 : Nat) ∧ gd b.2.1 i = ((σ i).2.1 : Nat) ∧ gd b.2.2.1 i = (σ i).2.2.1 ∧ gd b.2.2.2.1 i = ((σ i).2.2.2 : Nat) ∧ EnOk K γ μ L (σ i)) ∧ (∀ pc, 1 ≤ pc → pc < L → Nod s β K d m γ μ L σ P pc) ∧ (Kid γ L 0 d.2.2.2.2.2.2 0 (K - 1) ∨ Pend σ P (0, K - 1, -1, 0))
theorem ushr32 (v : Int32) {y : Int32} {n : Nat} (h : y.toInt = n) (hn : n < 32) : (XT.ushr v y).toBitVec = v.toBitVec >>> n := by
 have : ∀ n : Fin 32, ((Int32.ofInt n.1 &&& 31).toUInt32 % 32).toBitVec = BitVec.ofNat 32 n.1 := by decide
 rw [ofI h]
 show v.toBitVec >>> ((Int32.ofInt n &&& 31).toUInt32 % 32).toBitVec = _
 rw [this ⟨n, hn⟩, BitVec.ushiftRight_eq']
 congr 1
 simp; omega
theorem ush1 {z : Int32} {q : Nat} (h : z.toInt = q) : (XT.ushr z (1 : Int32)).toInt = ((q / 2 : Nat) : Int) := by
 have hi := i_hi z
 have e : (XT.ushr z (1 : Int32)).toBitVec = z.toBitVec >>> 1 := ushr32 z (n := 1) rfl (by decide)
 have zn : z.toBitVec.toNat = q := by
  have w : z.toInt = z.toBitVec.toInt := rfl
  have lt := z.toBitVec.isLt
  rw [w, BitVec.toInt_eq_toNat_cond] at h
  split at h <;> omega
 show (XT.ushr z (1 : Int32)).toBitVec.toInt = _
 rw [e, BitVec.toInt_eq_toNat_cond, BitVec.toNat_ushiftRight, zn, Nat.shiftRight_eq_div_pow, if_pos (by omega)]
def One (K : Nat) : Prop := K ≤ 1
theorem served {Ex : Type} {c s : CT} {f : FT} {p : PT} {k : KT} {d : DT} {m m1 : MT} {b b1 : BT} {o : Ob} {T : Int} {n K L P P' mid : Nat} {β : Nat → Nat} {γ : Nat → Nat × Nat} {μ : Nat → Nat} {σ σ' : Nat → En} {op x1 x2 x3 x4 N lv pv sv g : Int32}
  (h : A o = (c, s, f, p, k, (d.1.set L op, d.2.1.set L x1, d.2.2.1.set L x2, d.2.2.2.1.set L x3, d.2.2.2.2.1.set L x4, N, d.2.2.2.2.2.2), m1, b1)) (D : LD d) (hL : lv.toInt = (L : Nat)) (hN : N.toInt = ((L + 1 : Nat) : Int)) (L1 : 1 ≤ L) (L60 : L < 60) (r0 : at' d.1 0 = 0) (r1 : at' d.2.1 0 = df s)
  (wE : wk σ (P + 1) + L = 2 * K) (ent : ∀ i, i < P + 1 → gd b.1 i = ((σ i).1 : Nat) ∧ gd b.2.1 i = ((σ i).2.1 : Nat) ∧ gd b.2.2.1 i = (σ i).2.2.1 ∧ gd b.2.2.2.1 i = ((σ i).2.2.2 : Nat) ∧ EnOk K γ μ L (σ i))
  (nods : ∀ pc, 1 ≤ pc → pc < L → Nod s β K d m γ μ L σ (P + 1) pc) (root : Kid γ L 0 d.2.2.2.2.2.2 0 (K - 1) ∨ Pend σ (P + 1) (0, K - 1, -1, 0))
  (M1 : LM m1) (mu : m1.2.2.toInt ≤ 3 * ((L + 1 : Nat) : Int)) (hm : ∀ j, j < m.2.2.toInt.toNat → am m1.1 j = am m.1 j ∧ at' m1.2.1 j = at' m.2.1 j) (hu : m.2.2.toInt.toNat ≤ m1.2.2.toInt.toNat)
  (B1 : LS b1) (hP : b1.2.2.2.2.toInt = (P' : Nat)) (hσ : ∀ i, i < P → i < P' ∧ σ' i = σ i) (wE' : wk σ' P' + 1 = wk σ (P + 1))
  (old : ∀ i, i < P → gd b1.1 i = gd b.1 i ∧ gd b1.2.1 i = gd b.2.1 i ∧ gd b1.2.2.1 i = gd b.2.2.1 i ∧ gd b1.2.2.2.1 i = gd b.2.2.2.1 i)
  (new : ∀ i, P ≤ i → i < P' → gd b1.1 i = ((σ' i).1 : Nat) ∧ gd b1.2.1 i = ((σ' i).2.1 : Nat) ∧ gd b1.2.2.1 i = (σ' i).2.2.1 ∧ gd b1.2.2.2.1 i = ((σ' i).2.2.2 : Nat) ∧ EnOk K (fun q => if q = L then ((σ P).1, (σ P).2.1) else γ q) (fun q => if q = L then mid else μ q) (L + 1) (σ' i))
  (nodL : ∀ d2 : DT, at' d2.1 L = op → at' d2.2.1 L = x1 → at' d2.2.2.1 L = x2 → at' d2.2.2.2.1 L = x3 → at' d2.2.2.2.2.1 L = x4 → Nod s β K d2 m1 (fun q => if q = L then ((σ P).1, (σ P).2.1) else γ q) (fun q => if q = L then mid else μ q) (L + 1) σ' P' L)
  (hpv : pv.toInt = (σ P).2.2.1) (hsv : sv.toInt = ((σ P).2.2.2 : Nat)) (g0 : 0 ≤ g.toInt) (g1 : g.toInt < 1000) :
  okP ((F24 o pv sv lv).bind fun r268 => some (.inr ((g + (1 : Int32)), r268) : Ex ⊕ (Int32 × Ob))) (fun r => ∃ g' q d' m' b', r = .inr (g', q) ∧ g'.toInt = g.toInt + 1 ∧ A q = (c, s, f, p, k, d', m', b') ∧ Bu T n K β s d' m' b' (L + 1) P') := by
 have z0 : (0 : Int32).toInt = 0 := rfl
 have eg : (g + 1).toInt = g.toInt + 1 := inc1 (by omega)
 obtain ⟨d1, d2, d3, d4, d5⟩ := D
 have Dn : LD (d.1.set L op, d.2.1.set L x1, d.2.2.1.set L x2, d.2.2.2.1.set L x3, d.2.2.2.2.1.set L x4, N, d.2.2.2.2.2.2) := ⟨ls d1, ls d2, ls d3, ls d4, ls d5⟩
 obtain ⟨q, q1, q2, q3⟩ := patch_m h Dn (L := L + 1) hN (by omega) (x := pv) (y := sv) (z := lv)
 rw [q1, Option.bind_some]
 generalize hγ : (fun q => if q = L then ((σ P).1, (σ P).2.1) else γ q) = γ' at *
 generalize hμ : (fun q => if q = L then mid else μ q) = μ' at *
 have hg : ∀ q, q < L → γ' q = γ q ∧ μ' q = μ q := by
  intro q hq
  rw [← hγ, ← hμ]
  exact ⟨if_neg (by omega), if_neg (by omega)⟩
 have gL : γ' L = ((σ P).1, (σ P).2.1) := by rw [← hγ]; exact if_pos rfl
 obtain ⟨_, _, _, _, E⟩ := ent P (by omega)
 have kid0 : ∀ {z : Int32}, Kid γ L 0 z 0 (K - 1) → Kid γ' (L + 1) 0 z 0 (K - 1) := by
  rintro z ⟨w, w1, w2, w3, w4⟩
  exact ⟨w, w1, w2, by omega, by rw [(hg w w3).1]; exact w4⟩
 have ents : ∀ i, i < P' → gd b1.1 i = ((σ' i).1 : Nat) ∧ gd b1.2.1 i = ((σ' i).2.1 : Nat) ∧ gd b1.2.2.1 i = (σ' i).2.2.1 ∧ gd b1.2.2.2.1 i = ((σ' i).2.2.2 : Nat) ∧ EnOk K γ' μ' (L + 1) (σ' i) := by
  intro i hi
  rcases Nat.lt_or_ge i P with w | w
  ·obtain ⟨e1, e2, e3, e4, e5⟩ := ent i (by omega)
   obtain ⟨f1, f2, f3, f4⟩ := old i w
   rw [(hσ i w).2, f1, f2, f3, f4]
   exact ⟨e1, e2, e3, e4, e5.next hg⟩
  ·exact new i w hi
 have fin : ∀ d' : DT, A q = (c, s, f, p, k, d', m1, b1) → LD d' → d'.2.2.2.2.2.1 = N → (∀ j, at' d'.1 j = at' (d.1.set L op) j ∧ at' d'.2.1 j = at' (d.2.1.set L x1) j ∧ at' d'.2.2.2.2.1 j = at' (d.2.2.2.2.1.set L x4) j) → (∀ j, j ≤ L → at' d'.2.2.1 j = if (σ P).2.2.1 = (j : Int) ∧ (σ P).2.2.2 = 0 then lv else at' (d.2.2.1.set L x2) j) → (∀ j, j ≤ L → at' d'.2.2.2.1 j = if (σ P).2.2.1 = (j : Int) ∧ (σ P).2.2.2 = 1 then lv else at' (d.2.2.2.1.set L x3) j) → (Kid γ' (L + 1) 0 d'.2.2.2.2.2.2 0 (K - 1) ∨ Pend σ' P' (0, K - 1, -1, 0)) → okP (some (.inr (g + 1, q) : Ex ⊕ (Int32 × Ob))) (fun r => ∃ g' q d' m' b', r = .inr (g', q) ∧ g'.toInt = g.toInt + 1 ∧ A q = (c, s, f, p, k, d', m', b') ∧ Bu T n K β s d' m' b' (L + 1) P') := by
  intro d' hq D' cN same cB cC rt
  have parL : ¬ (σ P).2.2.1 = (L : Int) := by
   intro w
   rcases E.2.2 with ⟨e1, _⟩ | ⟨pc, e1, e2, e3, _⟩ <;> omega
  refine okP.some ⟨g + 1, q, d', m1, b1, rfl, eg, hq, D', M1, B1, by rw [cN]; exact hN, hP, by omega, mu, ?_, ?_, γ', μ', σ', by omega, ents, fun pc p1 pL => ?_, rt⟩
  ·rw [(same 0).1, at_set (by omega), if_neg (by omega)]; exact r0
  ·rw [(same 0).2.1, at_set (by omega), if_neg (by omega)]; exact r1
  ·by_cases w : pc = L
   ·subst w
    refine nodL d' ?_ ?_ ?_ ?_ ?_
    ·rw [(same pc).1, at_set (by omega), if_pos rfl]
    ·rw [(same pc).2.1, at_set (by omega), if_pos rfl]
    ·rw [cB pc (by omega), if_neg (fun w => parL w.1), at_set (by omega), if_pos rfl]
    ·rw [cC pc (by omega), if_neg (fun w => parL w.1), at_set (by omega), if_pos rfl]
    ·rw [(same pc).2.2, at_set (by omega), if_pos rfl]
   ·refine (nods pc p1 (by omega)).next p1 (by omega) E hg gL hσ hL ?_ ?_ ?_ ?_ ?_ hm hu
    ·rw [(same pc).1, at_set (by omega), if_neg w]
    ·rw [(same pc).2.1, at_set (by omega), if_neg w]
    ·rw [cB pc (by omega), at_set (by omega), if_neg w]
    ·rw [cC pc (by omega), at_set (by omega), if_neg w]
    ·rw [(same pc).2.2, at_set (by omega), if_neg w]
 have rootOld : (σ P).2.2.1 ≠ -1 → Kid γ' (L + 1) 0 d.2.2.2.2.2.2 0 (K - 1) ∨ Pend σ' P' (0, K - 1, -1, 0) := by
  intro ne
  refine root.imp kid0 ?_
  rintro ⟨i, i1, i2⟩
  have : i < P := by
   rcases Nat.lt_or_ge i P with w | w
   ·exact w
   ·have : i = P := by omega
    subst this
    rw [i2] at ne
    exact absurd rfl ne
  exact ⟨i, (hσ i this).1, by rw [(hσ i this).2]; exact i2⟩
 rcases E.2.2 with ⟨e1, e2, e3, e4⟩ | ⟨pc, e1, e2, e3, e4, e5⟩
 ·have hq := q2 (by omega)
  refine fin _ hq Dn rfl (fun j => ⟨rfl, rfl, rfl⟩) (fun j hj => ?_) (fun j hj => ?_) (Or.inl ⟨L, hL, by omega, by omega, ?_⟩)
  ·rw [if_neg (fun w => by omega)]
  ·rw [if_neg (fun w => by omega)]
  ·rw [gL, e3, e4]
 ·obtain ⟨qa, qb⟩ := q3 pc (by omega) (by omega)
  rcases e5 with ⟨s0, _⟩ | ⟨s1, _⟩
  ·have hq := qa (by rw [i_eq, hsv, s0]; rfl)
   refine fin _ hq ⟨ls d1, ls d2, ls (ls d3), ls d4, ls d5⟩ rfl (fun j => ⟨rfl, rfl, rfl⟩) (fun j hj => ?_) (fun j hj => ?_) (rootOld (by omega))
   ·simp only
    rw [at_set (by rw [List.length_set]; omega)]
    by_cases w : j = pc
    ·rw [if_pos w, if_pos ⟨by omega, s0⟩]
    ·rw [if_neg w, if_neg (fun z => by omega)]
   ·rw [if_neg (fun w => by omega)]
  ·have hq := qb (by rw [Ne, i_eq, hsv, s1]; decide)
   refine fin _ hq ⟨ls d1, ls d2, ls d3, ls (ls d4), ls d5⟩ rfl (fun j => ⟨rfl, rfl, rfl⟩) (fun j hj => ?_) (fun j hj => ?_) (rootOld (by omega))
   ·rw [if_neg (fun w => by omega)]
   ·simp only
    rw [at_set (by rw [List.length_set]; omega)]
    by_cases w : j = pc
    ·rw [if_pos w, if_pos ⟨by omega, s1⟩]
    ·rw [if_neg w, if_neg (fun z => by omega)]
theorem grow {c : CT} {s : CT} {f : FT} {p : PT} {k : KT} {d : DT} {m : MT} {b : BT} {o : Ob} (h : A o = (c, s, f, p, k, d, m, b)) {T : Int} {n K L P : Nat} {β : Nat → Nat} (S : Sw T n s) (F : Few T n) (C : Cls s n K β k) (K16 : K ≤ 16) (K1 : One K) (U : Bu T n K β s d m b L (P + 1)) {g : Int32} (g0 : 0 ≤ g.toInt) (g1 : g.toInt < 160) : okP (B17_59 (g, o)) (fun r => ∃ g' q d' m' b' P', r = .inr (g', q) ∧ g'.toInt = g.toInt + 1 ∧ A q = (c, s, f, p, k, d', m', b') ∧ Bu T n K β s d' m' b' (L + 1) P') := by
 have z0 : (0 : Int32).toInt = 0 := rfl
 have z1 : (1 : Int32).toInt = 1 := rfl
 obtain ⟨D, M, B, hL, hP, L1, mu, r0, r1, γ, μ, σ, wE, ent, nods, root⟩ := U
 obtain ⟨d1, d2, d3, d4, d5⟩ := id D
 obtain ⟨b1, b2, b3, b4⟩ := id B
 have wl := wk_le σ (P + 1)
 have P130 : P + 1 < 100 := by omega
 have lo : ((fW o).length.toInt32).toInt = 160 := by rw [g_opc h, d1]; rfl
 have es : (b.2.2.2.2 - 1).toInt = (P : Nat) := by rw [i_sub (by omega) (by omega), z1]; omega
 obtain ⟨en1, en2, en3, en4, E⟩ := ent P (by omega)
 unfold B17_59
 simp only
 rw [if_pos (by rw [i_lt, lo]; omega), if_pos (by rw [i_lt, z0, g_sp h]; omega), g_sp h]
 generalize b.2.2.2.2 - 1 = sp' at es ⊢
 rw [g_stLo h, ag es (by omega), Option.bind_some, g_stHi h, ag es (by omega), Option.bind_some, g_stParent h, ag es (by omega), Option.bind_some, g_stSlot h, ag es (by omega), Option.bind_some]
 have v1 : (at' b.1 P).toInt = ((σ P).1 : Nat) := en1
 have v2 : (at' b.2.1 P).toInt = ((σ P).2.1 : Nat) := en2
 have v3 : (at' b.2.2.1 P).toInt = (σ P).2.2.1 := en3
 have v4 : (at' b.2.2.2.1 P).toInt = ((σ P).2.2.2 : Nat) := en4
 generalize at' b.1 P = lv at v1 ⊢
 generalize at' b.2.1 P = hv at v2 ⊢
 generalize at' b.2.2.1 P = pv at v3 ⊢
 generalize at' b.2.2.2.1 P = sv at v4 ⊢
 have h1 := w_sp h sp'
 generalize sxM o sp' = o1 at h1 ⊢
 have E1 := E.1
 have E2 := E.2.1
 have wP : wk σ (P + 1) = wk σ P + (2 * ((σ P).2.1 - (σ P).1) + 1) := rfl
 have Bd' := C.2.2.2.2
 refine okP.ite (fun lt => ?_) (fun lt => ?_)
 ·rw [i_lt] at lt
  have K1' : K ≤ 1 := K1
  omega
 ·rw [i_lt] at lt
  have lh : (σ P).1 = (σ P).2.1 := by omega
  apply okP.bind
  refine okP.mono (leaf_e h1 S F C (a := (σ P).1) (by omega) D M hL (by omega) (by omega) v1) ?_
  rintro ⟨rv, q⟩ ⟨w1, m', op, x1, x2, x3, x4, N, w2, w3, w4, w5, w6, w7, w8⟩
  simp only at w1 w3 ⊢
  subst w1
  refine okP.mono (served (L := L) (P := P) (P' := P) (mid := 0) (γ := γ) (μ := μ) (σ := σ) (σ' := σ) (T := T) (n := n) (β := β) (m := m) (b := b) w3 D hL w2 L1 (by omega) r0 r1 wE ent nods root w5 (by omega) w8 (by omega) ⟨b1, b2, b3, b4⟩ es (fun i hi => ⟨hi, rfl⟩) (by rw [wP]; omega) (fun i hi => ⟨rfl, rfl, rfl, rfl⟩) (fun i i1 i2 => absurd i1 (by omega)) (fun dd q1 q2 q3 q4 q5 => ?_) v3 v4 g0 (by omega)) ?_
  ·have ge1 : (fun q => if q = L then ((σ P).1, (σ P).2.1) else γ q) L = ((σ P).1, (σ P).2.1) := if_pos rfl
   unfold Nod
   rw [ge1]
   simp only
   refine ⟨by omega, by omega, Or.inl ⟨lh, w4.congr ?_ ?_ ?_ ?_ ?_ (fun _ _ => ⟨rfl, rfl⟩) (Nat.le_refl _)⟩⟩
   ·simp only; rw [at_set (by omega), if_pos rfl]; exact q1
   ·simp only; rw [at_set (by omega), if_pos rfl]; exact q2
   ·simp only; rw [at_set (by omega), if_pos rfl]; exact q3
   ·simp only; rw [at_set (by omega), if_pos rfl]; exact q4
   ·simp only; rw [at_set (by omega), if_pos rfl]; exact q5
  ·rintro r ⟨g', q, d', m', b', w⟩
   exact ⟨g', q, d', m', b', P, w⟩
theorem build_ok {c : CT} {s : CT} {f : FT} {p : PT} {k : KT} {d : DT} {m : MT} {b : BT} {o : Ob} (h : A o = (c, s, f, p, k, d, m, b)) {T : Int} {n K : Nat} {β : Nat → Nat} (S : Sw T n s) (F : Few T n) (C : Cls s n K β k) (K16 : K ≤ 16) (K1 : One K) (D : LD d) (M : m.1.length = 192 ∧ m.2.1.length = 192) (B : LS b) : okP (F17 o) (fun q => ∃ f' d' m' b', A q = (c, s, f', p, k, d', m', b') ∧ Cde s n d' m' ∧ LS b' ∧ f'.1 = f.1 ∧ f'.2.1 = f.2.1 ∧ f'.2.2.1 = f.2.2.1) := by
 have z0 : (0 : Int32).toInt = 0 := rfl
 have z1 : (1 : Int32).toInt = 1 := rfl
 have h0 := w_cln h
 obtain ⟨c1, c2, c3, Kn, b0, bK, hc⟩ := id C
 obtain ⟨d1, d2, d3, d4, d5⟩ := id D
 have Bd' : Bd n K β := ⟨bK, fun a ha => (hc a ha).1⟩
 unfold F17
 rw [g_snapDefault h]
 obtain ⟨o1, N, e1, e2, e3⟩ := emit_m h0 D (L := 0) rfl (by omega) (op := 0) (a1 := s.2.2.2.1) (a2 := 0) (a3 := 0) (a4 := 0) (by decide)
 rw [e1, Option.bind_some]
 simp only
 rw [g_clCount e3]
 have D1 : LD (d.1.set 0 0, d.2.1.set 0 s.2.2.2.1, d.2.2.1.set 0 0, d.2.2.2.1.set 0 0, d.2.2.2.2.1.set 0 0, N, d.2.2.2.2.2.2) := ⟨ls d1, ls d2, ls d3, ls d4, ls d5⟩
 have h2 := w_root e3 0
 simp only at h2
 have r0 : at' (d.1.set 0 0) 0 = 0 := by rw [at_set (by omega), if_pos rfl]
 have r1 : at' (d.2.1.set 0 s.2.2.2.1) 0 = df s := by rw [at_set (by omega), if_pos rfl]; rfl
 refine okP.ite (fun K0 => ?_) (fun K0 => ?_)
 ·rw [i_lt, z0, c3] at K0
  have ek : (k.2.2 - 1).toInt = ((K - 1 : Nat) : Int) := by rw [i_sub (by omega) (by omega), z1]; omega
  obtain ⟨o2, N2, p1, p2, p3⟩ := push_m h2 (P := 0) B rfl (by omega) 0 (k.2.2 - 1) (-1) 0
  rw [p1, Option.bind_some]
  apply okP.bind
  refine okP.mono (P := fun e => ∃ q, e = .inr q ∧ ∃ f' d' m' b', A q = (c, s, f', p, k, d', m', b') ∧ Cde s n d' m' ∧ LS b' ∧ f'.1 = f.1 ∧ f'.2.1 = f.2.1 ∧ f'.2.2.1 = f.2.2.1) ?_ (by rintro e ⟨q, rfl, hq⟩; exact okP.some hq)
  obtain ⟨b1, b2, b3, b4⟩ := id B
  have U0 : Bu T n K β s (d.1.set 0 0, d.2.1.set 0 s.2.2.2.1, d.2.2.1.set 0 0, d.2.2.2.1.set 0 0, d.2.2.2.2.1.set 0 0, N, 0) (m.1, m.2.1, 0) (b.1.set 0 0, b.2.1.set 0 (k.2.2 - 1), b.2.2.1.set 0 (-1), b.2.2.2.1.set 0 0, N2) 1 1 := by
   refine ⟨⟨ls d1, ls d2, ls d3, ls d4, ls d5⟩, ⟨M.1, M.2, by show (0 : Int) ≤ 0; decide, by show (0 : Int) ≤ 192; decide⟩, ⟨ls b1, ls b2, ls b3, ls b4⟩, e2, p2, by omega, by show (0 : Int) ≤ 3 * 1; decide, r0, r1, fun _ => (0, 0), fun _ => 0, fun _ => (0, K - 1, -1, 0), ?_, fun i hi => ?_, fun pc q1 q2 => absurd q2 (by omega), Or.inr ⟨0, by omega, rfl⟩⟩
   ·show 0 + (2 * (K - 1 - 0) + 1) + 1 = 2 * K
    omega
   ·have : i = 0 := by omega
    subst this
    simp only
    rw [gd_set (by omega), gd_set (by omega), gd_set (by omega), gd_set (by omega), if_pos rfl, if_pos rfl, if_pos rfl, if_pos rfl]
    exact ⟨rfl, ek, rfl, rfl, by simp only; omega, by simp only; omega, Or.inl ⟨rfl, rfl, rfl, rfl⟩⟩
  refine okP.loop (fun w : Int32 × Ob => ∃ (d' : DT) (m' : MT) (b' : BT) (L P : Nat), A w.2 = (c, s, (f.1, f.2.1, f.2.2.1, 0), p, k, d', m', b') ∧ Bu T n K β s d' m' b' L P ∧ w.1.toInt = (L : Int) - 1) (fun w => (200 - w.1.toInt).toNat) ⟨_, _, _, 1, 1, p3, U0, rfl⟩ (by show (200 - (0 : Int)).toNat < 4000; decide) ?_
  rintro ⟨g, q⟩ ⟨d', m', b', L, P, hq, U, hg⟩
  simp only at hq hg
  have L1 := U.2.2.2.2.2.1
  have wl : L ≤ 2 * K := by
   obtain ⟨_, _, _, _, _, _, _, _, _, γ, μ, σ, wE, _⟩ := U
   omega
  rcases Nat.eq_zero_or_pos P with P0 | P0
  ·subst P0
   obtain ⟨D', M', B', hL, hP, L1', mu, r0', r1', γ, μ, σ, wE, ent, nods, root⟩ := U
   have lo : ((fW q).length.toInt32).toInt = 160 := by rw [g_opc hq, D'.1]; rfl
   unfold B17_59
   simp only
   rw [if_pos (by rw [i_lt, lo]; omega), if_neg (by rw [i_lt, z0, g_sp hq]; omega)]
   have noP : ∀ e, ¬ Pend σ 0 e := fun e ⟨i, i1, _⟩ => absurd i1 (by omega)
   refine okP.some ⟨_, rfl, _, d', m', b', hq, ⟨D', M', K, L, β, γ, Bd', b0, by omega, L1', hL, r0', r1', fun pc q1 q2 => ?_, Or.inr ⟨by omega, root.resolve_right (noP _)⟩⟩, B', rfl, rfl, rfl⟩
   obtain ⟨n1, n2, n3⟩ := nods pc q1 q2
   refine ⟨n1, n2, n3.imp id ?_⟩
   rintro ⟨w1, w2, w3⟩
   exact ⟨μ pc, w1, w2.resolve_right (noP _), w3.resolve_right (noP _)⟩
  ·obtain ⟨P1, eP⟩ : ∃ P1, P = P1 + 1 := ⟨P - 1, by omega⟩
   subst eP
   refine okP.mono (grow hq S F C K16 K1 U (g := g) (by omega) (by omega)) ?_
   rintro r ⟨g', q', d2', m2, b2', P', rfl, w1, w2, w3⟩
   exact ⟨⟨d2', m2, b2', L + 1, P', w2, w3, by simp only; omega⟩, by simp only; omega⟩
 ·rw [i_lt, z0, c3] at K0
  have k0 : K = 0 := by omega
  refine okP.some ⟨_, _, _, _, h2, ⟨⟨ls d1, ls d2, ls d3, ls d4, ls d5⟩, ⟨M.1, M.2, by show (0 : Int) ≤ 0; decide, by show (0 : Int) ≤ 192; decide⟩, K, 1, β, fun _ => (0, 0), Bd', b0, by omega, by omega, e2, r0, r1, fun pc q1 q2 => absurd q2 (by omega), Or.inl ⟨k0, rfl⟩⟩, B, rfl, rfl, rfl⟩

def Same (n : Nat) (a b : CT) : Prop := (∀ j, j < n → at' b.1 j = at' a.1 j ∧ at' b.2.1 j = at' a.2.1 j) ∧ b.2.2.1 = a.2.2.1 ∧ b.2.2.2.1 = a.2.2.2.1
theorem Same.sw {T : Int} {n : Nat} {a b : CT} (S : Sw T n a) (E : Same n a b) (l1 : b.1.length = 64) (l2 : b.2.1.length = 64) : Sw T n b := by
 obtain ⟨_, _, s3, s4, s5, s6, s7⟩ := S
 obtain ⟨e1, e2, e3⟩ := E
 refine ⟨l1, l2, s3, by rw [e2]; exact s4, fun i j hi hj => ?_, fun j hj => ?_, by rw [e3]; exact s7⟩
 ·unfold vv gd at *
  rw [(e1 i (by omega)).1, (e1 j hj).1]; exact s5 i j hi hj
 ·unfold tt' at *
  rw [(e1 j hj).2]; exact s6 j hj
theorem Same.rv {n : Nat} {a b : CT} (E : Same n a b) {x : Int} {r : Int32} : Rv b 0 n x r ↔ Rv a 0 n x r := by
 obtain ⟨e1, e2, e3⟩ := E
 unfold Rv df vv gd tt'
 rw [e3]
 constructor
 ·rintro (⟨i, i1, i2, i3, i4⟩ | ⟨h1, h2⟩)
  ·rw [(e1 i i2).1] at i3
   rw [(e1 i i2).2] at i4
   exact Or.inl ⟨i, i1, i2, i3, i4⟩
  ·exact Or.inr ⟨fun i i1 i2 => by rw [← (e1 i i2).1]; exact h1 i i1 i2, h2⟩
 ·rintro (⟨i, i1, i2, i3, i4⟩ | ⟨h1, h2⟩)
  ·exact Or.inl ⟨i, i1, i2, by rw [(e1 i i2).1]; exact i3, by rw [(e1 i i2).2]; exact i4⟩
  ·exact Or.inr ⟨fun i i1 i2 => by rw [(e1 i i2).1]; exact h1 i i1 i2, h2⟩
theorem snap_ok {c : CT} {s : CT} {f : FT} {p : PT} {k : KT} {d : DT} {m : MT} {b : BT} {o : Ob} (h : A o = (c, s, f, p, k, d, m, b)) {T : Int} {n : Nat} (S : Sw T n c) (T16 : T ≤ 16) (l1 : s.1.length = 64) (l2 : s.2.1.length = 64) : okP (F13 o) (fun q => ∃ s', A q = ((c.1, c.2.1, c.2.2.1, c.2.2.2.1, 0), s', f, p, k, d, m, b) ∧ s'.1.length = 64 ∧ s'.2.1.length = 64 ∧ Same n c s' ∧ s'.2.2.2.2 = 1) := by
 have n64 := S.2.2.1
 obtain ⟨c1, c2, _⟩ := id S
 unfold F13
 rw [g_curCount h, g_curDefault h]
 have h0 := w_sc h c.2.2.1 c.2.2.2.1
 apply okP.bind
 refine okP.mono (P := fun q => ∃ s', A q = ((c.1, c.2.1, c.2.2.1, c.2.2.2.1, 0), s', f, p, k, d, m, b) ∧ s'.1.length = 64 ∧ s'.2.1.length = 64 ∧ Same n c s' ∧ s'.2.2.2.2 = 1) ?_ (fun q hq => okP.some hq)
 refine okP.loop (fun w : Int32 × Ob => ∃ (i : Nat) (u v : List Int32), w.1.toInt = (i : Int) ∧ i ≤ n ∧ A w.2 = (c, (u, v, c.2.2.1, c.2.2.2.1, s.2.2.2.2), f, p, k, d, m, b) ∧ u.length = 64 ∧ v.length = 64 ∧ ∀ j, j < i → at' u j = at' c.1 j ∧ at' v j = at' c.2.1 j) (fun w => (100 - w.1.toInt).toNat) ⟨0, s.1, s.2.1, rfl, by omega, h0, l1, l2, fun j hj => absurd hj (by omega)⟩ (by show (100 - (0 : Int)).toNat < 4000; decide) ?_
 rintro ⟨x, q⟩ ⟨i, u, v, hx, iN, hq, lu, lv, hc⟩
 simp only at hx hq
 unfold B13_18
 simp only
 refine okP.ite (fun cx => ?_) (fun cx => ?_)
 ·rw [i_lt, g_curCount hq, S.2.2.2.1] at cx
  have ex : (x + 1).toInt = x.toInt + 1 := inc1 (by omega)
  have ti := S.2.2.2.2.2.1 i (by omega)
  rw [g_curVal hq, S.a_v (by omega) hx, Option.bind_some, g_snapVal hq, aset_at hx (by show i < u.length; omega), Option.bind_some, g_curTgt hq, S.a_t (by omega) hx, Option.bind_some, g_snapTgt hq, (b8 ti.1 (by omega)).2, aset_at hx (by show i < v.length; omega), Option.bind_some]
  refine okP.some ⟨⟨i + 1, u.set i (at' c.1 i), v.set i (tt' c i), by simp only; omega, by omega, w_snap hq _ _, ls lu, ls lv, fun j hj => ?_⟩, by simp only; omega⟩
  rw [at_set (by omega), at_set (by omega)]
  by_cases e : j = i
  ·rw [if_pos e, if_pos e, e]; exact ⟨rfl, rfl⟩
  ·rw [if_neg e, if_neg e]; exact hc j (by omega)
 ·rw [i_lt, g_curCount hq, S.2.2.2.1] at cx
  have : i = n := by omega
  subst this
  exact okP.some ⟨(u, v, c.2.2.1, c.2.2.2.1, 1), w_hs hq 1 0, lu, lv, ⟨hc, rfl, rfl⟩, rfl⟩
def LA (f : FT) (p : PT) (k : KT) (d : DT) (m : MT) (b : BT) : Prop := f.2.2.1.length = 256 ∧ (p.1.length = 65 ∧ p.2.length = 65) ∧ (k.1.length = 64 ∧ k.2.1.length = 64) ∧ LD d ∧ (m.1.length = 192 ∧ m.2.1.length = 192) ∧ LS b
def Nr (T : Int) (n : Nat) (c : CT) : Prop := Nar T n c
theorem lower_ok {c : CT} {s : CT} {f : FT} {p : PT} {k : KT} {d : DT} {m : MT} {b : BT} {o : Ob} (h : A o = (c, s, f, p, k, d, m, b)) {T : Int} {n : Nat} (S : Sw T n c) (n16 : n ≤ 16) (F : Few T n) (Na : Nr T n c) (l1 : s.1.length = 64) (l2 : s.2.1.length = 64) (La : LA f p k d m b) : okP (F12 o) (fun w => w.1 = c.2.2.1 ∧ ∃ s' f' p' k' d' m' b', A w.2 = ((c.1, c.2.1, c.2.2.1, c.2.2.2.1, 0), s', f', p', k', d', m', b') ∧ Same n c s' ∧ Sw T n s' ∧ s'.2.2.2.2 = 1 ∧ Cde s' n d' m' ∧ LA f' p' k' d' m' b' ∧ f'.1 = f.1 ∧ f'.2.1 = f.2.1) := by
 obtain ⟨La1, La2, La3, La4, La5, La6⟩ := La
 unfold F12
 apply okP.bind
 refine okP.mono (snap_ok h S F.2 l1 l2) ?_
 rintro q1 ⟨s', h1, m1, m2, E, hs⟩
 have S' := E.sw S m1 m2
 apply okP.bind
 refine okP.mono (plan_ok h1 S' n16 La2.1 La2.2) ?_
 rintro q2 ⟨p', h2, P, O1⟩
 apply okP.bind
 refine okP.mono (coll_ok h2 (by omega) S'.2.2.2.1 P La3.1 La3.2) ?_
 rintro q3 ⟨k', K, β, h3, C, hK⟩
 have K1 : One K := by
  have Na' : Nar T n s' := by
   refine ⟨Na.1, fun i j hi hj => ?_⟩
   have := Na.2 i j hi hj
   unfold vv gd at *
   rw [(E.1 i hi).1, (E.1 j hj).1]; exact this
  have := O1 Na'
  show K ≤ 1
  omega
 apply okP.bind
 refine okP.mono (build_ok h3 S' F C (by have := C.2.2.2.1; omega) K1 La4 La5 La6) ?_
 rintro q4 ⟨f', d', m', b', h4, Cd, B', f1, f2, f3⟩
 refine okP.some ⟨?_, s', f', p', k', d', m', b', h4, E, S', hs, Cd, ⟨by rw [f3]; exact La1, ⟨P.1, P.2.1⟩, ⟨C.1, C.2.1⟩, Cd.1, ⟨Cd.2.1.1, Cd.2.1.2.1⟩, B'⟩, f1, f2⟩
 rw [g_snapCount h4, E.2.1]
theorem lb_ok {c : CT} {s : CT} {f : FT} {p : PT} {k : KT} {d : DT} {m : MT} {b : BT} {o : Ob} (h : A o = (c, s, f, p, k, d, m, b)) {T : Int} {n : Nat} (S : Sw T n c) (n15 : n ≤ 15) (x : Int32) : okP (F10 o x) (fun r => ∃ j : Nat, r.toInt = (j : Int) ∧ j ≤ n ∧ (∀ i, i < j → vv c i < x.toInt) ∧ ∀ i, j ≤ i → i < n → x.toInt ≤ vv c i) := by
 have z16 : (16 : Int32).toInt = 16 := rfl
 have cc := S.2.2.2.1
 unfold F10
 rw [g_curCount h]
 apply okP.bind
 refine okP.mono (P := fun r => ∃ j : Nat, r.toInt = (j : Int) ∧ j ≤ n ∧ (∀ i, i < j → vv c i < x.toInt) ∧ ∀ i, j ≤ i → i < n → x.toInt ≤ vv c i) ?_ (fun r hr => okP.some hr)
 refine okP.loop (fun w : Int32 × Int32 × Int32 => ∃ lo hi st : Nat, w.1.toInt = (lo : Int) ∧ w.2.1.toInt = (hi : Int) ∧ w.2.2.toInt = (st : Int) ∧ lo ≤ hi ∧ hi ≤ n ∧ hi - lo + st ≤ n ∧ (∀ i, i < lo → vv c i < x.toInt) ∧ ∀ i, hi ≤ i → i < n → x.toInt ≤ vv c i) (fun w => (100 - w.2.2.toInt).toNat) ⟨0, n, 0, rfl, cc, rfl, by omega, by omega, by omega, fun i hi => absurd hi (by omega), fun i h1 h2 => absurd h2 (by omega)⟩ (by show (100 - (0 : Int)).toNat < 4000; decide) ?_
 rintro ⟨a, e, z⟩ ⟨lo, hi, st, ha, he, hz, lh, hn, ms, H1, H2⟩
 simp only at ha he hz
 unfold B10_10
 simp only
 rw [if_pos (by rw [i_lt, z16]; omega)]
 refine okP.ite (fun c1 => ?_) (fun c1 => ?_)
 ·rw [i_lt] at c1
  have es : (a + e).toInt = ((lo + hi : Nat) : Int) := by rw [i_add (by omega) (by omega)]; omega
  have em := ush1 es
  generalize XT.ushr (a + e) (1 : Int32) = mv at em ⊢
  obtain ⟨mid, emid⟩ : ∃ mid, mid = (lo + hi) / 2 := ⟨_, rfl⟩
  rw [← emid] at em
  have ez : (z + 1).toInt = z.toInt + 1 := inc1 (by omega)
  have em1 : (mv + 1).toInt = mv.toInt + 1 := inc1 (by omega)
  rw [g_curVal h, S.a_v (j := mid) (by omega) em, Option.bind_some]
  have vm : vv c mid = (at' c.1 mid).toInt := rfl
  by_cases c2 : at' c.1 mid < x
  ·rw [if_pos c2, if_pos c2]
   rw [i_lt] at c2
   refine okP.some ⟨⟨mid + 1, hi, st + 1, by simp only; omega, he, by simp only; omega, by omega, hn, by omega, fun i hi' => ?_, H2⟩, by simp only; omega⟩
   rcases Nat.lt_or_ge i mid with w | w
   ·have := S.2.2.2.2.1 i mid w (by omega); omega
   ·have : i = mid := by omega
    subst this; omega
  ·rw [if_neg c2, if_neg c2]
   rw [i_lt] at c2
   refine okP.some ⟨⟨lo, mid, st + 1, ha, em, by simp only; omega, by omega, by omega, by omega, H1, fun i i1 i2 => ?_⟩, by simp only; omega⟩
   rcases Nat.lt_or_ge mid i with w | w
   ·have := S.2.2.2.2.1 mid i w i2; omega
   ·have : i = mid := by omega
    subst this; omega
 ·rw [i_lt] at c1
  have : lo = hi := by omega
  subst this
  exact okP.some ⟨lo, ha, hn, H1, H2⟩
theorem io_ok {c : CT} {s : CT} {f : FT} {p : PT} {k : KT} {d : DT} {m : MT} {b : BT} {o : Ob} (h : A o = (c, s, f, p, k, d, m, b)) {T : Int} {n : Nat} (S : Sw T n c) (n15 : n ≤ 15) (x : Int32) : okP (F9 o x) (fun r => (r = -1 ∧ ∀ i, i < n → vv c i ≠ x.toInt) ∨ ∃ j : Nat, r.toInt = (j : Int) ∧ j < n ∧ vv c j = x.toInt) := by
 unfold F9
 apply okP.bind
 refine okP.mono (lb_ok h S n15 x) ?_
 rintro r ⟨j, hj, jn, H1, H2⟩
 have no : (∀ w : j < n, vv c j ≠ x.toInt) → ∀ i, i < n → vv c i ≠ x.toInt := by
  intro w i hi e
  rcases Nat.lt_trichotomy i j with q | q | q
  ·have := H1 i q; omega
  ·subst q; exact w hi e
  ·have a1 := S.2.2.2.2.1 j i q hi
   have a2 := H2 j (Nat.le_refl _) (by omega)
   omega
 refine okP.ite (fun c1 => ?_) (fun c1 => ?_)
 ·rw [i_lt, g_curCount h, S.2.2.2.1] at c1
  rw [g_curVal h, S.a_v (by omega) hj, Option.bind_some]
  refine okP.ite (fun e => okP.some (Or.inr ⟨j, hj, by omega, ?_⟩)) (fun e => okP.some (Or.inl ⟨rfl, no (fun _ w => e (i_eq.2 w))⟩))
  rw [← e]; rfl
 ·rw [i_lt, g_curCount h, S.2.2.2.1] at c1
  exact okP.some (Or.inl ⟨rfl, no (fun w => absurd w (by omega))⟩)
theorem look_ok {c : CT} {s : CT} {f : FT} {p : PT} {k : KT} {d : DT} {m : MT} {b : BT} {o : Ob} (h : A o = (c, s, f, p, k, d, m, b)) {T : Int} {n : Nat} (S : Sw T n c) (n15 : n ≤ 15) (x : Int32) : okP (F8 o x) (fun r => Rv c 0 n x.toInt r) := by
 have z0 : (0 : Int32).toInt = 0 := rfl
 unfold F8
 apply okP.bind
 refine okP.mono (io_ok h S n15 x) ?_
 rintro r (⟨r1, no⟩ | ⟨j, hj, jn, e⟩)
 ·rw [r1, if_pos (by decide), g_curDefault h]
  exact okP.some (Or.inr ⟨fun i _ hi => no i hi, rfl⟩)
 ·rw [if_neg (by rw [i_lt, z0]; omega), g_curTgt h, S.a_t jn hj, Option.bind_some]
  exact okP.some (Or.inl ⟨j, by omega, jn, e, rfl⟩)
theorem w_cur {c : CT} {s : CT} {f : FT} {p : PT} {k : KT} {d : DT} {m : MT} {b : BT} {o : Ob} (h : A o = (c, s, f, p, k, d, m, b)) (u v : List Int32) : A (sP (sO o u) v) = ((u, v, c.2.2), s, f, p, k, d, m, b) := by
 have : A (sP (sO o u) v) = ((u, v, (A o).1.2.2), (A o).2) := by dsimp only [A, fA, fB, fC, fD, fE, fF, fG, fH, fI, fJ, fK, fL, fM, fN, fO, fP, fQ, fR, fS, fT, fU, fV, fW, fX, fY, fZ, fa, fb, fd, fh, fi, fq, fu, fy, fz, fxA, fxB, fxC, fxD, fxE, fxF, fxG, fxH, fxI, fxJ, fxK, fxL, fxM, sA, sB, sC, sD, sE, sF, sG, sH, sI, sJ, sK, sL, sM, sN, sO, sP, sQ, sR, sS, sT, sU, sV, sW, sX, sY, sZ, sa, sb, sd, sh, si, sq, su, sy, sz, sxA, sxB, sxC, sxD, sxE, sxF, sxG, sxH, sxI, sxJ, sxK, sxL, sxM]
 rw [this, h]
theorem w_cnt {c : CT} {s : CT} {f : FT} {p : PT} {k : KT} {d : DT} {m : MT} {b : BT} {o : Ob} (h : A o = (c, s, f, p, k, d, m, b)) (u v : Int32) : A (sxD (sxB o u) v) = ((c.1, c.2.1, u, c.2.2.2.1, v), s, f, p, k, d, m, b) := by
 have : A (sxD (sxB o u) v) = (((A o).1.1, (A o).1.2.1, u, (A o).1.2.2.2.1, v), (A o).2) := by dsimp only [A, fA, fB, fC, fD, fE, fF, fG, fH, fI, fJ, fK, fL, fM, fN, fO, fP, fQ, fR, fS, fT, fU, fV, fW, fX, fY, fZ, fa, fb, fd, fh, fi, fq, fu, fy, fz, fxA, fxB, fxC, fxD, fxE, fxF, fxG, fxH, fxI, fxJ, fxK, fxL, fxM, sA, sB, sC, sD, sE, sF, sG, sH, sI, sJ, sK, sL, sM, sN, sO, sP, sQ, sR, sS, sT, sU, sV, sW, sX, sY, sZ, sa, sb, sd, sh, si, sq, su, sy, sz, sxA, sxB, sxC, sxD, sxE, sxF, sxG, sxH, sxI, sxJ, sxK, sxL, sxM]
 rw [this, h]
theorem w_def {c : CT} {s : CT} {f : FT} {p : PT} {k : KT} {d : DT} {m : MT} {b : BT} {o : Ob} (h : A o = (c, s, f, p, k, d, m, b)) (u v : Int32) : A (sxD (sxC o u) v) = ((c.1, c.2.1, c.2.2.1, u, v), s, f, p, k, d, m, b) := by
 have : A (sxD (sxC o u) v) = (((A o).1.1, (A o).1.2.1, (A o).1.2.2.1, u, v), (A o).2) := by dsimp only [A, fA, fB, fC, fD, fE, fF, fG, fH, fI, fJ, fK, fL, fM, fN, fO, fP, fQ, fR, fS, fT, fU, fV, fW, fX, fY, fZ, fa, fb, fd, fh, fi, fq, fu, fy, fz, fxA, fxB, fxC, fxD, fxE, fxF, fxG, fxH, fxI, fxJ, fxK, fxL, fxM, sA, sB, sC, sD, sE, sF, sG, sH, sI, sJ, sK, sL, sM, sN, sO, sP, sQ, sR, sS, sT, sU, sV, sW, sX, sY, sZ, sa, sb, sd, sh, si, sq, su, sy, sz, sxA, sxB, sxC, sxD, sxE, sxF, sxG, sxH, sxI, sxJ, sxK, sxL, sxM]
 rw [this, h]
def Ins (c c' : CT) (n j : Nat) (x t : Int32) : Prop := (∀ i, i < j → at' c'.1 i = at' c.1 i ∧ at' c'.2.1 i = at' c.2.1 i) ∧ (at' c'.1 j = x ∧ at' c'.2.1 j = t) ∧ ∀ i, j < i → i ≤ n → at' c'.1 i = at' c.1 (i - 1) ∧ at' c'.2.1 i = at' c.2.1 (i - 1)
theorem Ins.sw {T : Int} {n j : Nat} {c c' : CT} {x t : Int32} (S : Sw T n c) (I : Ins c c' n j x t) (jn : j ≤ n) (n63 : n < 64) (H1 : ∀ i, i < j → vv c i < x.toInt) (H2 : ∀ i, j ≤ i → i < n → x.toInt < vv c i) (t0 : 0 ≤ t.toInt) (t1 : t.toInt < T) (l1 : c'.1.length = 64) (l2 : c'.2.1.length = 64) (hc : c'.2.2.1.toInt = ((n + 1 : Nat) : Int)) (hd : c'.2.2.2.1 = c.2.2.2.1) : Sw T (n + 1) c' := by
 obtain ⟨I1, I2, I3⟩ := I
 have vE : ∀ i, i ≤ n → vv c' i = if i < j then vv c i else if i = j then x.toInt else vv c (i - 1) := by
  intro i hi
  unfold vv gd
  by_cases w : i < j
  ·rw [if_pos w, (I1 i w).1]
  ·rw [if_neg w]
   by_cases w2 : i = j
   ·rw [if_pos w2, w2, I2.1]
   ·rw [if_neg w2, (I3 i (by omega) hi).1]
 refine ⟨l1, l2, by omega, hc, fun i i' hi hi' => ?_, fun i hi => ?_, by rw [hd]; exact S.2.2.2.2.2.2⟩
 ·have so := S.2.2.2.2.1
  rw [vE i (by omega), vE i' (by omega)]
  by_cases a1 : i < j
  ·rw [if_pos a1]
   by_cases a2 : i' < j
   ·rw [if_pos a2]; exact so i i' hi (by omega)
   ·rw [if_neg a2]
    by_cases a3 : i' = j
    ·rw [if_pos a3]; exact H1 i a1
    ·rw [if_neg a3]; exact so i (i' - 1) (by omega) (by omega)
  ·rw [if_neg a1, if_neg (show ¬ i' < j by omega), if_neg (show ¬ i' = j by omega)]
   by_cases a3 : i = j
   ·rw [if_pos a3]; exact H2 (i' - 1) (by omega) (by omega)
   ·rw [if_neg a3]; exact so (i - 1) (i' - 1) (by omega) (by omega)
 ·have ta := S.2.2.2.2.2.1
  unfold tt' at *
  rcases Nat.lt_trichotomy i j with w | w | w
  ·rw [(I1 i w).2]; exact ta i (by omega)
  ·rw [w, I2.2]; exact ⟨t0, t1⟩
  ·rw [(I3 i w (by omega)).2]; exact ta (i - 1) (by omega)
theorem Ins.rv {n j : Nat} {c c' : CT} {x t : Int32} (I : Ins c c' n j x t) (jn : j ≤ n) (hd : c'.2.2.2.1 = c.2.2.2.1) (nx : ∀ i, i < n → vv c i ≠ x.toInt) {y : Int} {r : Int32} : Rv c' 0 (n + 1) y r ↔ if y = x.toInt then r = t else Rv c 0 n y r := by
 obtain ⟨I1, I2, I3⟩ := I
 have key : (∃ i, 0 ≤ i ∧ i < n + 1 ∧ vv c' i = y ∧ r = tt' c' i) ↔ (y = x.toInt ∧ r = t) ∨ ∃ i, 0 ≤ i ∧ i < n ∧ vv c i = y ∧ r = tt' c i := by
  unfold vv gd tt'
  constructor
  ·rintro ⟨i, i1, i2, i3, i4⟩
   rcases Nat.lt_trichotomy i j with w | w | w
   ·rw [(I1 i w).1] at i3
    rw [(I1 i w).2] at i4
    exact Or.inr ⟨i, i1, by omega, i3, i4⟩
   ·rw [w, I2.1] at i3
    rw [w, I2.2] at i4
    exact Or.inl ⟨i3.symm, i4⟩
   ·rw [(I3 i w (by omega)).1] at i3
    rw [(I3 i w (by omega)).2] at i4
    exact Or.inr ⟨i - 1, by omega, by omega, i3, i4⟩
  ·rintro (⟨e1, e2⟩ | ⟨i, i1, i2, i3, i4⟩)
   ·exact ⟨j, by omega, by omega, by rw [I2.1]; exact e1.symm, by rw [I2.2]; exact e2⟩
   ·rcases Nat.lt_or_ge i j with w | w
    ·exact ⟨i, i1, by omega, by rw [(I1 i w).1]; exact i3, by rw [(I1 i w).2]; exact i4⟩
    ·exact ⟨i + 1, by omega, by omega, by rw [(I3 (i + 1) (by omega) (by omega)).1]; exact i3, by rw [(I3 (i + 1) (by omega) (by omega)).2]; exact i4⟩
 have no : (∀ i, 0 ≤ i → i < n + 1 → vv c' i ≠ y) ↔ y ≠ x.toInt ∧ ∀ i, 0 ≤ i → i < n → vv c i ≠ y := by
  unfold vv gd
  constructor
  ·intro w
   refine ⟨fun e => w j (by omega) (by omega) (by rw [I2.1]; exact e.symm), fun i i1 i2 i3 => ?_⟩
   rcases Nat.lt_or_ge i j with q | q
   ·exact w i i1 (by omega) (by rw [(I1 i q).1]; exact i3)
   ·exact w (i + 1) (by omega) (by omega) (by rw [(I3 (i + 1) (by omega) (by omega)).1]; exact i3)
  ·rintro ⟨w1, w2⟩ i i1 i2 i3
   rcases Nat.lt_trichotomy i j with w | w | w
   ·rw [(I1 i w).1] at i3; exact w2 i i1 (by omega) i3
   ·rw [w, I2.1] at i3; exact w1 i3.symm
   ·rw [(I3 i w (by omega)).1] at i3; exact w2 (i - 1) (by omega) (by omega) i3
 have dd' : df c' = df c := hd
 unfold Rv
 rw [key, no, dd']
 by_cases e : y = x.toInt
 ·rw [if_pos e]
  constructor
  ·rintro ((⟨_, z⟩ | ⟨i, _, i2, i3, _⟩) | ⟨⟨z, _⟩, _⟩)
   ·exact z
   ·exact absurd (i3.trans e) (nx i i2)
   ·exact absurd e z
  ·intro z; exact Or.inl (Or.inl ⟨e, z⟩)
 ·rw [if_neg e]
  constructor
  ·rintro ((⟨z, _⟩ | z) | ⟨⟨_, z⟩, z2⟩)
   ·exact absurd z e
   ·exact Or.inl z
   ·exact Or.inr ⟨z, z2⟩
  ·rintro (z | ⟨z, z2⟩)
   ·exact Or.inl (Or.inr z)
   ·exact Or.inr ⟨⟨e, z⟩, z2⟩
theorem add_ok {c : CT} {s : CT} {f : FT} {p : PT} {k : KT} {d : DT} {m : MT} {b : BT} {o : Ob} (h : A o = (c, s, f, p, k, d, m, b)) {T : Int} {n : Nat} (S : Sw T n c) (T16 : T ≤ 16) (n15 : n ≤ 14) (hT : f.2.1.toInt = T) (x t : Int32) : okP (F11 o x t) (fun w => (w = (3, o) ∧ ¬ (0 ≤ t.toInt ∧ t.toInt < T)) ∨ ((0 ≤ t.toInt ∧ t.toInt < T) ∧ ((w = (2, o) ∧ ∃ i, i < n ∧ vv c i = x.toInt) ∨ ((∀ i, i < n → vv c i ≠ x.toInt) ∧ ((w = (1, o) ∧ f.1.toInt ≤ n) ∨ ((n : Int) < f.1.toInt ∧ w.1 = 0 ∧ ∃ c' j, A w.2 = (c', s, f, p, k, d, m, b) ∧ j ≤ n ∧ Ins c c' n j x t ∧ Sw T (n + 1) c' ∧ c'.2.2.2.1 = c.2.2.2.1 ∧ c'.2.2.2.2 = 1)))))) := by
 have z0 : (0 : Int32).toInt = 0 := rfl
 have z1 : (1 : Int32).toInt = 1 := rfl
 have zm : (-1 : Int32).toInt = -1 := rfl
 obtain ⟨l1, l2, n64, cc, so, ta, de⟩ := id S
 unfold F11
 refine okP.ite (fun c1 => okP.some (Or.inl ⟨rfl, by rw [i_lt, z0] at c1; omega⟩)) (fun c1 => ?_)
 rw [g_targets h]
 refine okP.ite (fun c2 => ?_) (fun c2 => okP.some (Or.inl ⟨rfl, by rw [i_lt] at c2; omega⟩))
 rw [i_lt, z0] at c1
 rw [i_lt, hT] at c2
 have tt0 : 0 ≤ t.toInt ∧ t.toInt < T := ⟨by omega, c2⟩
 refine okP.mono (P := fun w => ((w = (2, o) ∧ ∃ i, i < n ∧ vv c i = x.toInt) ∨ ((∀ i, i < n → vv c i ≠ x.toInt) ∧ ((w = (1, o) ∧ f.1.toInt ≤ n) ∨ ((n : Int) < f.1.toInt ∧ w.1 = 0 ∧ ∃ c' j, A w.2 = (c', s, f, p, k, d, m, b) ∧ j ≤ n ∧ Ins c c' n j x t ∧ Sw T (n + 1) c' ∧ c'.2.2.2.1 = c.2.2.2.1 ∧ c'.2.2.2.2 = 1))))) ?_ (fun w hw => Or.inr ⟨tt0, hw⟩)
 apply okP.bind
 refine okP.mono (lb_ok h S (by omega) x) ?_
 rintro r ⟨j, hj, jn, H1, H2⟩
 have no : (∀ w : j < n, vv c j ≠ x.toInt) → ∀ i, i < n → vv c i ≠ x.toInt := by
  intro w i hi e
  rcases Nat.lt_trichotomy i j with q | q | q
  ·have := H1 i q; omega
  ·subst q; exact w hi e
  ·have a1 := so j i q hi
   have a2 := H2 j (Nat.le_refl _) (by omega)
   omega
 have go : (∀ w : j < n, vv c j ≠ x.toInt) → okP (J11_40 o x t r) (fun w => ((w = (2, o) ∧ ∃ i, i < n ∧ vv c i = x.toInt) ∨ ((∀ i, i < n → vv c i ≠ x.toInt) ∧ ((w = (1, o) ∧ f.1.toInt ≤ n) ∨ ((n : Int) < f.1.toInt ∧ w.1 = 0 ∧ ∃ c' j, A w.2 = (c', s, f, p, k, d, m, b) ∧ j ≤ n ∧ Ins c c' n j x t ∧ Sw T (n + 1) c' ∧ c'.2.2.2.1 = c.2.2.2.1 ∧ c'.2.2.2.2 = 1))))) := by
  intro nj
  have nx := no nj
  have H2' : ∀ i, j ≤ i → i < n → x.toInt < vv c i := by
   intro i i1 i2
   have a1 := H2 i i1 i2
   have a2 := nx i i2
   omega
  unfold J11_40
  rw [g_curCount h, g_cap h]
  refine okP.ite (fun c3 => ?_) (fun c3 => okP.some (Or.inr ⟨nx, Or.inl ⟨rfl, by rw [i_lt, cc] at c3; omega⟩⟩))
  rw [i_lt, cc] at c3
  apply okP.bind
  refine okP.mono (P := fun q => ∃ u v, A q = ((u, v, c.2.2), s, f, p, k, d, m, b) ∧ u.length = 64 ∧ v.length = 64 ∧ (∀ i, i < j → at' u i = at' c.1 i ∧ at' v i = at' c.2.1 i) ∧ ∀ i, j < i → i ≤ n → at' u i = at' c.1 (i - 1) ∧ at' v i = at' c.2.1 (i - 1)) ?_ ?_
  ·refine okP.loop (fun w : Int32 × Ob => ∃ (i : Nat) (u v : List Int32), w.1.toInt = (i : Int) ∧ j ≤ i ∧ i ≤ n ∧ A w.2 = ((u, v, c.2.2), s, f, p, k, d, m, b) ∧ u.length = 64 ∧ v.length = 64 ∧ (∀ a, a ≤ i → a < n → at' u a = at' c.1 a ∧ at' v a = at' c.2.1 a) ∧ ∀ a, i < a → a ≤ n → at' u a = at' c.1 (a - 1) ∧ at' v a = at' c.2.1 (a - 1)) (fun w => w.1.toInt.toNat) ⟨n, c.1, c.2.1, cc, jn, Nat.le_refl _, h, l1, l2, fun a _ _ => ⟨rfl, rfl⟩, fun a a1 a2 => absurd a2 (by omega)⟩ (by show c.2.2.1.toInt.toNat < 4000; omega) ?_
   rintro ⟨y, q⟩ ⟨i, u, v, hy, ji, iN, hq, lu, lv, U1, U2⟩
   simp only at hy hq
   unfold B11_59
   simp only
   refine okP.ite (fun c4 => ?_) (fun c4 => ?_)
   ·rw [i_lt] at c4
    have e1 : (y - 1).toInt = ((i - 1 : Nat) : Int) := by rw [i_sub (by omega) (by omega), z1]; omega
    have e2 : (y + -1).toInt = ((i - 1 : Nat) : Int) := by rw [i_add (by omega) (by omega), zm]; omega
    generalize y - 1 = y1 at e1 ⊢
    generalize y + -1 = y2 at e2 ⊢
    have ti := ta (i - 1) (by omega)
    have ut := (U1 (i - 1) (by omega) (by omega)).2
    have ut' : at' v (i - 1) = tt' c (i - 1) := ut
    rw [g_curVal hq, ag e1 (by show i - 1 < u.length; omega), Option.bind_some, aset_at hy (by show i < u.length; omega), Option.bind_some, g_curTgt hq, ag e1 (by show i - 1 < v.length; omega), Option.bind_some]
    simp only
    rw [ut', (b8 ti.1 (by omega)).2, aset_at hy (by omega), Option.bind_some]
    refine okP.some ⟨⟨i - 1, u.set i (at' u (i - 1)), v.set i (tt' c (i - 1)), e2, by omega, by omega, w_cur hq _ _, ls lu, ls lv, fun a a1 a2 => ?_, fun a a1 a2 => ?_⟩, by simp only; omega⟩
    ·rw [at_set (by omega), at_set (by omega), if_neg (by omega), if_neg (by omega)]
     exact U1 a (by omega) a2
    ·rw [at_set (by omega), at_set (by omega)]
     by_cases e : a = i
     ·rw [if_pos e, if_pos e, e]
      exact ⟨(U1 (i - 1) (by omega) (by omega)).1, rfl⟩
     ·rw [if_neg e, if_neg e]
      exact U2 a (by omega) a2
   ·rw [i_lt] at c4
    have : i = j := by omega
    subst this
    exact okP.some ⟨u, v, hq, lu, lv, fun a ha => U1 a (by omega) (by omega), U2⟩
  ·rintro q ⟨u, v, hq, lu, lv, U1, U2⟩
   have ec : (c.2.2.1 + 1).toInt = c.2.2.1.toInt + 1 := inc1 (by omega)
   rw [g_curVal hq, aset_at hj (by show j < u.length; omega), Option.bind_some, g_curTgt hq, (b8 tt0.1 (by omega)).1, aset_at hj (by show j < v.length; omega), Option.bind_some, g_curCount hq]
   simp only
   generalize hN : c.2.2.1 + 1 = N at ec ⊢
   have hw := w_cnt (w_cur hq (u.set j x) (v.set j t)) N 1
   simp only at hw
   have I : Ins c (u.set j x, v.set j t, N, c.2.2.2.1, 1) n j x t := by
    refine ⟨fun i hi => ?_, ⟨?_, ?_⟩, fun i i1 i2 => ?_⟩
    ·simp only
     rw [at_set (by omega), at_set (by omega), if_neg (by omega), if_neg (by omega)]
     exact U1 i hi
    ·simp only; rw [at_set (by omega), if_pos rfl]
    ·simp only; rw [at_set (by omega), if_pos rfl]
    ·simp only
     rw [at_set (by omega), at_set (by omega), if_neg (by omega), if_neg (by omega)]
     exact U2 i i1 i2
   exact okP.some (Or.inr ⟨nx, Or.inr ⟨by omega, rfl, _, j, hw, jn, I, I.sw S jn (by omega) H1 H2' tt0.1 tt0.2 (ls lu) (ls lv) (by simp only; omega) rfl, rfl, rfl⟩⟩)
 refine okP.ite (fun c3 => ?_) (fun c3 => ?_)
 ·rw [i_lt, g_curCount h, cc] at c3
  rw [g_curVal h, S.a_v (by omega) hj, Option.bind_some]
  refine okP.ite (fun e => okP.some (Or.inl ⟨rfl, j, by omega, by rw [← e]; rfl⟩)) (fun e => go (fun _ w => e (i_eq.2 w)))
 ·rw [i_lt, g_curCount h, cc] at c3
  exact go (fun w => absurd w (by omega))

theorem Rv.det {T : Int} {n : Nat} {s : CT} (S : Sw T n s) {x : Int} {r r' : Int32} (h : Rv s 0 n x r) (h' : Rv s 0 n x r') : r = r' := by
 rcases h with ⟨i, i1, i2, i3, i4⟩ | ⟨h1, h2⟩
 ·rcases h' with ⟨j, j1, j2, j3, j4⟩ | ⟨h1', h2'⟩
  ·have := vv_inj S i2 j2 (i3.trans j3.symm)
   rw [i4, j4, this]
  ·exact absurd i3 (h1' i i1 i2)
 ·rcases h' with ⟨j, j1, j2, j3, j4⟩ | ⟨h1', h2'⟩
  ·exact absurd j3 (h1 j j1 j2)
  ·rw [h2, h2']
theorem Rv.rng {T : Int} {n : Nat} {s : CT} (S : Sw T n s) {x : Int} {r : Int32} (h : Rv s 0 n x r) : 0 ≤ r.toInt ∧ r.toInt < T := by
 rcases h with ⟨i, i1, i2, i3, i4⟩ | ⟨h1, h2⟩
 ·rw [i4]; exact S.2.2.2.2.2.1 i i2
 ·rw [h2]; exact S.2.2.2.2.2.2
def Rem (c c' : CT) (n j : Nat) : Prop := (∀ i, i < j → at' c'.1 i = at' c.1 i ∧ at' c'.2.1 i = at' c.2.1 i) ∧ ∀ i, j ≤ i → i + 1 < n → at' c'.1 i = at' c.1 (i + 1) ∧ at' c'.2.1 i = at' c.2.1 (i + 1)
theorem Rem.sw {T : Int} {n j : Nat} {c c' : CT} (S : Sw T (n + 1) c) (I : Rem c c' (n + 1) j) (l1 : c'.1.length = 64) (l2 : c'.2.1.length = 64) (hc : c'.2.2.1.toInt = (n : Nat)) (hd : c'.2.2.2.1 = c.2.2.2.1) : Sw T n c' := by
 obtain ⟨I1, I2⟩ := I
 have so := S.2.2.2.2.1
 have vE : ∀ i, i < n → vv c' i = if i < j then vv c i else vv c (i + 1) := by
  intro i hi
  unfold vv gd
  by_cases w : i < j
  ·rw [if_pos w, (I1 i w).1]
  ·rw [if_neg w, (I2 i (by omega) (by omega)).1]
 refine ⟨l1, l2, by have := S.2.2.1; omega, hc, fun i i' hi hi' => ?_, fun i hi => ?_, by rw [hd]; exact S.2.2.2.2.2.2⟩
 ·rw [vE i (by omega), vE i' hi']
  by_cases a1 : i < j
  ·rw [if_pos a1]
   split
   ·exact so i i' hi (by omega)
   ·exact so i (i' + 1) (by omega) (by omega)
  ·rw [if_neg a1, if_neg (by omega)]
   exact so (i + 1) (i' + 1) (by omega) (by omega)
 ·have ta := S.2.2.2.2.2.1
  unfold tt' at *
  by_cases w : i < j
  ·rw [(I1 i w).2]; exact ta i (by omega)
  ·rw [(I2 i (by omega) (by omega)).2]; exact ta (i + 1) (by omega)
theorem Rem.rv {T : Int} {n j : Nat} {c c' : CT} (S : Sw T (n + 1) c) (I : Rem c c' (n + 1) j) (jn : j < n + 1) (hd : c'.2.2.2.1 = c.2.2.2.1) {y : Int} {r : Int32} : Rv c' 0 n y r ↔ if y = vv c j then r = df c else Rv c 0 (n + 1) y r := by
 obtain ⟨I1, I2⟩ := I
 have key : ∀ (Q : Int → Int32 → Prop), (∃ i, i < n ∧ Q (vv c' i) (tt' c' i)) ↔ ∃ i, i < n + 1 ∧ i ≠ j ∧ Q (vv c i) (tt' c i) := by
  intro Q
  unfold vv gd tt'
  constructor
  ·rintro ⟨i, i1, i2⟩
   by_cases w : i < j
   ·rw [(I1 i w).1, (I1 i w).2] at i2
    exact ⟨i, by omega, by omega, i2⟩
   ·rw [(I2 i (by omega) (by omega)).1, (I2 i (by omega) (by omega)).2] at i2
    exact ⟨i + 1, by omega, by omega, i2⟩
  ·rintro ⟨i, i1, i2, i3⟩
   by_cases w : i < j
   ·exact ⟨i, by omega, by rw [(I1 i w).1, (I1 i w).2]; exact i3⟩
   ·obtain ⟨i', e⟩ : ∃ i', i = i' + 1 := ⟨i - 1, by omega⟩
    subst e
    exact ⟨i', by omega, by rw [(I2 i' (by omega) (by omega)).1, (I2 i' (by omega) (by omega)).2]; exact i3⟩
 have k1 : (∃ i, 0 ≤ i ∧ i < n ∧ vv c' i = y ∧ r = tt' c' i) ↔ ∃ i, i < n + 1 ∧ i ≠ j ∧ vv c i = y ∧ r = tt' c i := by
  have := key (fun v t => v = y ∧ r = t)
  constructor
  ·rintro ⟨i, _, i2⟩; exact this.1 ⟨i, i2⟩
  ·intro w
   obtain ⟨i, i2⟩ := this.2 w
   exact ⟨i, by omega, i2⟩
 have k2 : (∀ i, 0 ≤ i → i < n → vv c' i ≠ y) ↔ ∀ i, i < n + 1 → i ≠ j → vv c i ≠ y := by
  have := key (fun v _ => v = y)
  constructor
  ·intro w i i1 i2 i3
   obtain ⟨i', a1, a2⟩ := this.2 ⟨i, i1, i2, i3⟩
   exact w i' (by omega) a1 a2
  ·intro w i _ i2 i3
   obtain ⟨i', a1, a2, a3⟩ := this.1 ⟨i, i2, i3⟩
   exact w i' a1 a2 a3
 have dd' : df c' = df c := hd
 unfold Rv
 rw [k1, k2, dd']
 by_cases e : y = vv c j
 ·rw [if_pos e]
  have un : ∀ i, i < n + 1 → i ≠ j → vv c i ≠ y := fun i i1 i2 i3 => i2 (vv_inj S i1 jn (i3.trans e))
  constructor
  ·rintro (⟨i, i1, i2, i3, _⟩ | ⟨_, z⟩)
   ·exact absurd i3 (un i i1 i2)
   ·exact z
  ·intro z; exact Or.inr ⟨un, z⟩
 ·rw [if_neg e]
  constructor
  ·rintro (⟨i, i1, i2, i3, i4⟩ | ⟨z1, z2⟩)
   ·exact Or.inl ⟨i, by omega, i1, i3, i4⟩
   ·refine Or.inr ⟨fun i _ i2 i3 => ?_, z2⟩
    by_cases w : i = j
    ·subst w; exact e i3.symm
    ·exact z1 i i2 w i3
  ·rintro (⟨i, i1, i2, i3, i4⟩ | ⟨z1, z2⟩)
   ·exact Or.inl ⟨i, i2, fun w => by subst w; exact e i3.symm, i3, i4⟩
   ·exact Or.inr ⟨fun i i1 _ => z1 i (by omega) i1, z2⟩
theorem rem_ok {c : CT} {s : CT} {f : FT} {p : PT} {k : KT} {d : DT} {m : MT} {b : BT} {o : Ob} (h : A o = (c, s, f, p, k, d, m, b)) {T : Int} {n : Nat} (S : Sw T n c) (T16 : T ≤ 16) (n15 : n ≤ 15) (x : Int32) : okP (F36 o x) (fun w => (w = (4, o) ∧ ∀ i, i < n → vv c i ≠ x.toInt) ∨ (w.1 = 0 ∧ ∃ c' j n', n = n' + 1 ∧ A w.2 = (c', s, f, p, k, d, m, b) ∧ j < n ∧ vv c j = x.toInt ∧ Rem c c' n j ∧ Sw T n' c' ∧ c'.2.2.2.1 = c.2.2.2.1 ∧ c'.2.2.2.2 = 1)) := by
 have z0 : (0 : Int32).toInt = 0 := rfl
 have z1 : (1 : Int32).toInt = 1 := rfl
 obtain ⟨l1, l2, n64, cc, so, ta, de⟩ := id S
 unfold F36
 apply okP.bind
 refine okP.mono (io_ok h S n15 x) ?_
 rintro r (⟨r1, no⟩ | ⟨j, hj, jn, e⟩)
 ·rw [r1, if_pos (by decide)]
  exact okP.some (Or.inl ⟨rfl, no⟩)
 ·rw [if_neg (by rw [i_lt, z0]; omega)]
  apply okP.bind
  refine okP.mono (P := fun q => ∃ u v, A q = ((u, v, c.2.2), s, f, p, k, d, m, b) ∧ u.length = 64 ∧ v.length = 64 ∧ (∀ i, i < j → at' u i = at' c.1 i ∧ at' v i = at' c.2.1 i) ∧ ∀ i, j ≤ i → i + 1 < n → at' u i = at' c.1 (i + 1) ∧ at' v i = at' c.2.1 (i + 1)) ?_ ?_
  ·refine okP.loop (fun w : Int32 × Ob => ∃ (i : Nat) (u v : List Int32), w.1.toInt = (i : Int) ∧ j ≤ i ∧ i < n ∧ A w.2 = ((u, v, c.2.2), s, f, p, k, d, m, b) ∧ u.length = 64 ∧ v.length = 64 ∧ (∀ a, a < j → at' u a = at' c.1 a ∧ at' v a = at' c.2.1 a) ∧ (∀ a, j ≤ a → a < i → at' u a = at' c.1 (a + 1) ∧ at' v a = at' c.2.1 (a + 1)) ∧ ∀ a, i ≤ a → a < n → at' u a = at' c.1 a ∧ at' v a = at' c.2.1 a) (fun w => (100 - w.1.toInt).toNat) ⟨j, c.1, c.2.1, hj, Nat.le_refl _, jn, h, l1, l2, fun a _ => ⟨rfl, rfl⟩, fun a a1 a2 => absurd a2 (by omega), fun a _ _ => ⟨rfl, rfl⟩⟩ (by show (100 - r.toInt).toNat < 4000; omega) ?_
   rintro ⟨y, q⟩ ⟨i, u, v, hy, ji, iN, hq, lu, lv, U0, U1, U2⟩
   simp only at hy hq
   unfold B36_14
   simp only
   have e1 : (y + 1).toInt = ((i + 1 : Nat) : Int) := by rw [inc1 (by omega)]; omega
   generalize y + 1 = y1 at e1 ⊢
   refine okP.ite (fun c4 => ?_) (fun c4 => ?_)
   ·rw [i_lt, g_curCount hq] at c4
    have c4' : y1.toInt < c.2.2.1.toInt := c4
    have ti := ta (i + 1) (by omega)
    have ut' : at' v (i + 1) = tt' c (i + 1) := (U2 (i + 1) (by omega) (by omega)).2
    rw [g_curVal hq, ag e1 (by show i + 1 < u.length; omega), Option.bind_some, aset_at hy (by show i < u.length; omega), Option.bind_some, g_curTgt hq, ag e1 (by show i + 1 < v.length; omega), Option.bind_some]
    simp only
    rw [ut', (b8 ti.1 (by omega)).2, aset_at hy (by omega), Option.bind_some]
    refine okP.some ⟨⟨i + 1, u.set i (at' u (i + 1)), v.set i (tt' c (i + 1)), e1, by omega, by omega, w_cur hq _ _, ls lu, ls lv, fun a a1 => ?_, fun a a1 a2 => ?_, fun a a1 a2 => ?_⟩, by simp only; omega⟩
    ·rw [at_set (by omega), at_set (by omega), if_neg (by omega), if_neg (by omega)]
     exact U0 a a1
    ·rw [at_set (by omega), at_set (by omega)]
     by_cases e : a = i
     ·rw [if_pos e, if_pos e, e]
      exact ⟨(U2 (i + 1) (by omega) (by omega)).1, rfl⟩
     ·rw [if_neg e, if_neg e]
      exact U1 a a1 (by omega)
    ·rw [at_set (by omega), at_set (by omega), if_neg (by omega), if_neg (by omega)]
     exact U2 a (by omega) a2
   ·rw [i_lt, g_curCount hq] at c4
    have c4' : ¬ y1.toInt < c.2.2.1.toInt := c4
    exact okP.some ⟨u, v, hq, lu, lv, U0, fun a a1 a2 => U1 a a1 (by omega)⟩
  ·rintro q ⟨u, v, hq, lu, lv, U1, U2⟩
   obtain ⟨n', en⟩ : ∃ n', n = n' + 1 := ⟨n - 1, by omega⟩
   subst en
   have ec : (c.2.2.1 - 1).toInt = (n' : Nat) := by rw [i_sub (by omega) (by omega), z1]; omega
   rw [g_curCount hq]
   simp only
   generalize c.2.2.1 - 1 = N at ec ⊢
   have hw := w_cnt hq N 1
   simp only at hw
   have I : Rem c (u, v, N, c.2.2.2.1, 1) (n' + 1) j := ⟨U1, U2⟩
   exact okP.some (Or.inr ⟨rfl, _, j, n', rfl, hw, jn, e, I, I.sw S lu lv ec rfl, rfl, rfl⟩)
def Ok (T cp : Int) (n : Nat) (c s : CT) (o : Ob) : Prop := ∃ f p k d m b, A o = (c, s, f, p, k, d, m, b) ∧ Sw T n c ∧ LA f p k d m b ∧ f.1.toInt = cp ∧ f.2.1.toInt = T ∧ (n : Int) ≤ cp ∧ (c.2.2.2.2 = 0 ∨ c.2.2.2.2 = 1) ∧ (s.1.length = 64 ∧ s.2.1.length = 64) ∧ (s.2.2.2.2 = 0 ∨ (s.2.2.2.2 = 1 ∧ (∃ ns : Nat, (ns : Int) ≤ cp ∧ Sw T ns s ∧ Cde s ns d m) ∧ (c.2.2.2.2 = 0 → Same n c s)))
def Rst (T cp : Int) (s : CT) (f : FT) (p : PT) (k : KT) (d : DT) (m : MT) (b : BT) : Prop := LA f p k d m b ∧ f.1.toInt = cp ∧ f.2.1.toInt = T ∧ (s.1.length = 64 ∧ s.2.1.length = 64) ∧ (s.2.2.2.2 = 0 ∨ (s.2.2.2.2 = 1 ∧ ∃ ns : Nat, (ns : Int) ≤ cp ∧ Sw T ns s ∧ Cde s ns d m))
theorem Ok.rst {T cp : Int} {n : Nat} {c s : CT} {o : Ob} (O : Ok T cp n c s o) : ∃ f p k d m b, A o = (c, s, f, p, k, d, m, b) ∧ Sw T n c ∧ (n : Int) ≤ cp ∧ Rst T cp s f p k d m b := by
 obtain ⟨f, p, k, d, m, b, h, S, La, f1, f2, nc, _, sl, hs⟩ := O
 exact ⟨f, p, k, d, m, b, h, S, nc, La, f1, f2, sl, hs.imp id (fun w => ⟨w.1, w.2.1⟩)⟩
theorem Rst.ok {T cp : Int} {n : Nat} {c s : CT} {o : Ob} {f : FT} {p : PT} {k : KT} {d : DT} {m : MT} {b : BT} (R : Rst T cp s f p k d m b) (h : A o = (c, s, f, p, k, d, m, b)) (S : Sw T n c) (nc : (n : Int) ≤ cp) (h1 : c.2.2.2.2 = 1) : Ok T cp n c s o := by
 obtain ⟨La, f1, f2, sl, hs⟩ := R
 refine ⟨f, p, k, d, m, b, h, S, La, f1, f2, nc, Or.inr h1, sl, hs.imp id (fun w => ⟨w.1, w.2, fun z => ?_⟩)⟩
 rw [h1] at z
 exact absurd z (by decide)
theorem Ok.add {T cp : Int} {n : Nat} {c s : CT} {o : Ob} (O : Ok T cp n c s o) (T16 : T ≤ 16) (n14 : n ≤ 14) (x t : Int32) : okP (F11 o x t) (fun w => (w = (3, o) ∧ ¬ (0 ≤ t.toInt ∧ t.toInt < T)) ∨ ((0 ≤ t.toInt ∧ t.toInt < T) ∧ ((w = (2, o) ∧ ∃ i, i < n ∧ vv c i = x.toInt) ∨ ((∀ i, i < n → vv c i ≠ x.toInt) ∧ ((w = (1, o) ∧ cp ≤ n) ∨ ((n : Int) < cp ∧ w.1 = 0 ∧ ∃ c' j, Ok T cp (n + 1) c' s w.2 ∧ j ≤ n ∧ Ins c c' n j x t ∧ c'.2.2.2.1 = c.2.2.2.1 ∧ c'.2.2.2.2 = 1)))))) := by
 obtain ⟨f, p, k, d, m, b, h, S, nc, R⟩ := O.rst
 have f1 := R.2.1
 refine okP.mono (add_ok h S T16 n14 R.2.2.1 x t) ?_
 rintro w (w1 | ⟨w1, w2 | ⟨w2, ⟨w3, w4⟩ | ⟨w3, w4, c', j, w5, w6, w7, w8, w9, w10⟩⟩⟩)
 ·exact Or.inl w1
 ·exact Or.inr ⟨w1, Or.inl w2⟩
 ·exact Or.inr ⟨w1, Or.inr ⟨w2, Or.inl ⟨w3, by omega⟩⟩⟩
 ·exact Or.inr ⟨w1, Or.inr ⟨w2, Or.inr ⟨by omega, w4, c', j, R.ok w5 w8 (by omega) w10, w6, w7, w9, w10⟩⟩⟩
theorem Ok.rem {T cp : Int} {n : Nat} {c s : CT} {o : Ob} (O : Ok T cp n c s o) (T16 : T ≤ 16) (n15 : n ≤ 15) (x : Int32) : okP (F36 o x) (fun w => (w = (4, o) ∧ ∀ i, i < n → vv c i ≠ x.toInt) ∨ (w.1 = 0 ∧ ∃ c' j n', n = n' + 1 ∧ Ok T cp n' c' s w.2 ∧ j < n ∧ vv c j = x.toInt ∧ Rem c c' n j ∧ c'.2.2.2.1 = c.2.2.2.1 ∧ c'.2.2.2.2 = 1)) := by
 obtain ⟨f, p, k, d, m, b, h, S, nc, R⟩ := O.rst
 refine okP.mono (rem_ok h S T16 n15 x) ?_
 rintro w (w1 | ⟨w1, c', j, n', w2, w3, w4, w5, w6, w7, w8, w9⟩)
 ·exact Or.inl w1
 ·exact Or.inr ⟨w1, c', j, n', w2, R.ok w3 w7 (by omega) w9, w4, w5, w6, w8, w9⟩
theorem Ok.fit0 {T cp : Int} {n : Nat} {c s : CT} {o : Ob} (O : Ok T cp n c s o) : ((fO o).length = 64 ∧ (fP o).length = 64 ∧ (fQ o).length = 64 ∧ (fR o).length = 64) ∧ ((fS o).length = 65 ∧ (fT o).length = 65 ∧ (fU o).length = 64 ∧ (fV o).length = 64 ∧ (fb o).length = 256) ∧ ((fW o).length = 160 ∧ (fX o).length = 160 ∧ (fY o).length = 160 ∧ (fZ o).length = 160 ∧ (fa o).length = 160) ∧ ((fd o).length = 192 ∧ (fh o).length = 192) ∧ (fi o).length = 130 ∧ (fq o).length = 130 ∧ (fu o).length = 130 ∧ (fy o).length = 130 := by
 obtain ⟨f, p, k, d, m, b, h, S, ⟨La1, La2, La3, La4, La5, La6⟩, f1, f2, nc, _, sl, hs⟩ := O
 rw [g_curVal h, g_curTgt h, g_snapVal h, g_snapTgt h, g_bestCost h, g_bestCut h, g_clStart h, g_clEnd h, show fb o = f.2.2.1 from congrArg (fun x : AT => x.2.2.1.2.2.1) h, g_opc h, g_argA h, g_argB h, g_argC h, g_argD h, g_maskPool h, g_maskTarget h, g_stLo h, g_stHi h, g_stParent h, g_stSlot h]
 exact ⟨⟨S.1, S.2.1, sl.1, sl.2⟩, ⟨La2.1, La2.2, La3.1, La3.2, La1⟩, La4, La5, La6⟩
theorem Ok.deflt {T cp : Int} {n : Nat} {c s : CT} {o : Ob} (O : Ok T cp n c s o) (x : Int32) : okP (F35 o x) (fun w => (w = (3, o) ∧ ¬ (0 ≤ x.toInt ∧ x.toInt < T)) ∨ ((0 ≤ x.toInt ∧ x.toInt < T) ∧ w.1 = 0 ∧ Ok T cp n (c.1, c.2.1, c.2.2.1, x, 1) s w.2)) := by
 have z0 : (0 : Int32).toInt = 0 := rfl
 obtain ⟨f, p, k, d, m, b, h, S, nc, R⟩ := O.rst
 have f2 := R.2.2.1
 unfold F35
 refine okP.ite (fun c1 => okP.some (Or.inl ⟨rfl, by rw [i_lt, z0] at c1; omega⟩)) (fun c1 => ?_)
 rw [g_targets h]
 refine okP.ite (fun c2 => ?_) (fun c2 => okP.some (Or.inl ⟨rfl, by rw [i_lt] at c2; omega⟩))
 rw [i_lt, z0] at c1
 rw [i_lt, f2] at c2
 refine okP.some (Or.inr ⟨⟨by omega, c2⟩, rfl, R.ok (w_def h x 1) ?_ nc rfl⟩)
 obtain ⟨s1, s2, s3, s4, s5, s6, s7⟩ := S
 exact ⟨s1, s2, s3, s4, s5, s6, by show 0 ≤ x.toInt; omega, c2⟩
theorem Ok.reset {T cp : Int} {n : Nat} {c s : CT} {o : Ob} (O : Ok T cp n c s o) (T0 : 0 < T) : okP (F3 o) (fun q => ∃ c' s', Ok T cp 0 c' s' q ∧ c'.2.2.1 = 0 ∧ c'.2.2.2.1 = 0 ∧ c'.2.2.2.2 = 0 ∧ s'.2.2.2.2 = 0) := by
 obtain ⟨f, p, k, d, m, b, h, S, La, f1, f2, nc, cd, sl, hs⟩ := id O
 unfold F3
 obtain ⟨La1, La2, La3, La4, La5, La6⟩ := La
 obtain ⟨q, hq⟩ : ∃ q, F3 o = some q := ⟨_, rfl⟩
 have e : A q = ((c.1, c.2.1, 0, 0, 0), (s.1, s.2.1, 0, 0, 0), (f.1, f.2.1, f.2.2.1, 0), p, (k.1, k.2.1, 0), (d.1, d.2.1, d.2.2.1, d.2.2.2.1, d.2.2.2.2.1, 0, 0), (m.1, m.2.1, 0), (b.1, b.2.1, b.2.2.1, b.2.2.2.1, 0)) := by
  unfold F3 at hq
  have := Option.some.inj hq
  rw [← this]
  have t : ∀ o, A o = ((fO o, fP o, fxB o, fxC o, fxD o), (fQ o, fR o, fxE o, fxF o, fxG o), (fz o, fxA o, fb o, fxK o), (fS o, fT o), (fU o, fV o, fxH o), (fW o, fX o, fY o, fZ o, fa o, fxI o, fxJ o), (fd o, fh o, fxL o), (fi o, fq o, fu o, fy o, fxM o)) := fun _ => rfl
  rw [← g_curVal h, ← g_curTgt h, ← g_snapVal h, ← g_snapTgt h, ← g_cap h, ← g_targets h, ← (show fb o = f.2.2.1 from congrArg (fun x : AT => x.2.2.1.2.2.1) h), ← (show (fS o, fT o) = p from congrArg (fun x : AT => x.2.2.2.1) h), ← g_clStart h, ← g_clEnd h, ← g_opc h, ← g_argA h, ← g_argB h, ← g_argC h, ← g_argD h, ← g_maskPool h, ← g_maskTarget h, ← g_stLo h, ← g_stHi h, ← g_stParent h, ← g_stSlot h]
  dsimp only [A, fA, fB, fC, fD, fE, fF, fG, fH, fI, fJ, fK, fL, fM, fN, fO, fP, fQ, fR, fS, fT, fU, fV, fW, fX, fY, fZ, fa, fb, fd, fh, fi, fq, fu, fy, fz, fxA, fxB, fxC, fxD, fxE, fxF, fxG, fxH, fxI, fxJ, fxK, fxL, fxM, sA, sB, sC, sD, sE, sF, sG, sH, sI, sJ, sK, sL, sM, sN, sO, sP, sQ, sR, sS, sT, sU, sV, sW, sX, sY, sZ, sa, sb, sd, sh, si, sq, su, sy, sz, sxA, sxB, sxC, sxD, sxE, sxF, sxG, sxH, sxI, sxJ, sxK, sxL, sxM]
 unfold F3 at hq
 rw [hq]
 refine okP.some ⟨_, _, ⟨_, _, _, _, _, _, e, ⟨S.1, S.2.1, by omega, rfl, fun i j _ hj => absurd hj (by omega), fun j hj => absurd hj (by omega), by show (0 : Int) ≤ 0; decide, T0⟩, ⟨La1, La2, La3, La4, La5, La6⟩, f1, f2, by show (0 : Int) ≤ cp; omega, Or.inl rfl, sl, Or.inl rfl⟩, rfl, rfl, rfl, rfl⟩
theorem Ok.lower {T cp : Int} {n : Nat} {c s : CT} {o : Ob} (O : Ok T cp n c s o) (n16 : n ≤ 16) (F : Few T n) (Na : Nr T n c) : okP (F12 o) (fun w => w.1 = c.2.2.1 ∧ ∃ s', Ok T cp n (c.1, c.2.1, c.2.2.1, c.2.2.2.1, 0) s' w.2 ∧ Same n c s' ∧ s'.2.2.2.2 = 1) := by
 obtain ⟨f, p, k, d, m, b, h, S, La, f1, f2, nc, cd, sl, hs⟩ := id O
 refine okP.mono (lower_ok h S n16 F Na sl.1 sl.2 La) ?_
 rintro w ⟨w1, s', f', p', k', d', m', b', w2, E, S', hs', Cd, La', g1, g2⟩
 refine ⟨w1, s', ⟨f', p', k', d', m', b', w2, S, La', by rw [g1]; exact f1, by rw [g2]; exact f2, nc, Or.inl rfl, ⟨S'.1, S'.2.1⟩, Or.inr ⟨hs', ⟨n, nc, S', Cd⟩, fun _ => E⟩⟩, E, hs'⟩
theorem Ok.route {T cp : Int} {n : Nat} {c s : CT} {o : Ob} (O : Ok T cp n c s o) (x : Int32) : okP (F7 o x) (fun r => (s.2.2.2.2 = 0 ∧ r = -1) ∨ (s.2.2.2.2 = 1 ∧ ∃ ns : Nat, Sw T ns s ∧ Rv s 0 ns x.toInt r)) := by
 obtain ⟨f, p, k, d, m, b, h, S, La, f1, f2, nc, cd, sl, hs⟩ := O
 unfold F7
 rw [g_hasSnap h]
 rcases hs with hs | ⟨hs, ⟨ns, n1, n2, n3⟩, _⟩
 ·rw [hs, if_pos rfl]
  exact okP.some (Or.inl ⟨rfl, rfl⟩)
 ·rw [hs, if_neg (by decide)]
  apply okP.bind
  exact okP.mono (run_ok h n2 n3 x) (fun r hr => okP.some (Or.inr ⟨rfl, ns, n2, hr⟩))
theorem Ok.look {T cp : Int} {n : Nat} {c s : CT} {o : Ob} (O : Ok T cp n c s o) (n15 : n ≤ 15) (x : Int32) : okP (F8 o x) (fun r => Rv c 0 n x.toInt r) := by
 obtain ⟨f, p, k, d, m, b, h, S, _⟩ := O
 exact look_ok h S n15 x
theorem isc_m {T cp : Int} {n : Nat} {c s : CT} {o : Ob} (O : Ok T cp n c s o) : (F6 o = some 0 ∧ (s.2.2.2.2 = 0 ∨ c.2.2.2.2 = 1)) ∨ (F6 o = some 1 ∧ s.2.2.2.2 = 1 ∧ Same n c s) := by
 obtain ⟨f, p, k, d, m, b, h, S, La, f1, f2, nc, cd, sl, hs⟩ := O
 unfold F6
 rw [g_hasSnap h, g_dirty h]
 rcases hs with hs | ⟨hs, _, E⟩
 ·rw [hs, if_pos rfl]; exact Or.inl ⟨rfl, Or.inl rfl⟩
 ·rw [hs, if_neg (by decide)]
  rcases cd with w | w
  ·rw [w, if_pos rfl]; exact Or.inr ⟨rfl, rfl, E w⟩
  ·rw [w, if_neg (by decide)]; exact Or.inl ⟨rfl, Or.inr rfl⟩
theorem Same.rt {T : Int} {n ns : Nat} {c s : CT} (S : Sw T n c) (S' : Sw T ns s) (E : Same n c s) {x : Int} {r : Int32} (h : Rv s 0 ns x r) : Rv c 0 n x r := by
 have : ns = n := by
  have a1 := S.2.2.2.1
  have a2 := S'.2.2.2.1
  rw [E.2.1] at a2
  omega
 subst this
 exact E.rv.1 h

def kc (P : Nat → Bool) : Nat → Nat
 | 0 => 0
 | n + 1 => kc P n + (if P n then 1 else 0)
theorem kc_le (P : Nat → Bool) : ∀ n, kc P n ≤ n
 | 0 => Nat.le_refl _
 | n + 1 => by
  have := kc_le P n
  show kc P n + (if P n then 1 else 0) ≤ n + 1
  split <;> omega
theorem kc_congr {P Q : Nat → Bool} : ∀ {n : Nat}, (∀ i, i < n → P i = Q i) → kc P n = kc Q n
 | 0, _ => rfl
 | n + 1, h => by
  show kc P n + (if P n then 1 else 0) = kc Q n + (if Q n then 1 else 0)
  rw [kc_congr (fun i hi => h i (by omega)), h n (by omega)]
theorem kc_stop {P : Nat → Bool} {a : Nat} : ∀ n, (∀ i, a ≤ i → i < a + n → P i = false) → kc P (a + n) = kc P a
 | 0, _ => rfl
 | n + 1, h => by
  show kc P (a + n) + (if P (a + n) then 1 else 0) = kc P a
  rw [h (a + n) (by omega) (by omega), kc_stop n (fun i i1 i2 => h i i1 (by omega))]; rfl
theorem slb_ok {c : CT} {s : CT} {f : FT} {p : PT} {k : KT} {d : DT} {m : MT} {b : BT} {o : Ob} (h : A o = (c, s, f, p, k, d, m, b)) {T : Int} {n : Nat} (S : Sw T n s) (n15 : n ≤ 15) (x : Int32) : okP (F27 o x) (fun r => ∃ j : Nat, r.toInt = (j : Int) ∧ j ≤ n ∧ (∀ i, i < j → vv s i < x.toInt) ∧ ∀ i, j ≤ i → i < n → x.toInt ≤ vv s i) := by
 have z16 : (16 : Int32).toInt = 16 := rfl
 have cc := S.2.2.2.1
 unfold F27
 rw [g_snapCount h]
 apply okP.bind
 refine okP.mono (P := fun r => ∃ j : Nat, r.toInt = (j : Int) ∧ j ≤ n ∧ (∀ i, i < j → vv s i < x.toInt) ∧ ∀ i, j ≤ i → i < n → x.toInt ≤ vv s i) ?_ (fun r hr => okP.some hr)
 refine okP.loop (fun w : Int32 × Int32 × Int32 => ∃ lo hi st : Nat, w.1.toInt = (lo : Int) ∧ w.2.1.toInt = (hi : Int) ∧ w.2.2.toInt = (st : Int) ∧ lo ≤ hi ∧ hi ≤ n ∧ hi - lo + st ≤ n ∧ (∀ i, i < lo → vv s i < x.toInt) ∧ ∀ i, hi ≤ i → i < n → x.toInt ≤ vv s i) (fun w => (100 - w.2.2.toInt).toNat) ⟨0, n, 0, rfl, cc, rfl, by omega, by omega, by omega, fun i hi => absurd hi (by omega), fun i h1 h2 => absurd h2 (by omega)⟩ (by show (100 - (0 : Int)).toNat < 4000; decide) ?_
 rintro ⟨a, e, z⟩ ⟨lo, hi, st, ha, he, hz, lh, hn, ms, H1, H2⟩
 simp only at ha he hz
 unfold B27_10
 simp only
 rw [if_pos (by rw [i_lt, z16]; omega)]
 refine okP.ite (fun c1 => ?_) (fun c1 => ?_)
 ·rw [i_lt] at c1
  have es : (a + e).toInt = ((lo + hi : Nat) : Int) := by rw [i_add (by omega) (by omega)]; omega
  have em := ush1 es
  generalize XT.ushr (a + e) (1 : Int32) = mv at em ⊢
  obtain ⟨mid, emid⟩ : ∃ mid, mid = (lo + hi) / 2 := ⟨_, rfl⟩
  rw [← emid] at em
  have ez : (z + 1).toInt = z.toInt + 1 := inc1 (by omega)
  have em1 : (mv + 1).toInt = mv.toInt + 1 := inc1 (by omega)
  rw [g_snapVal h, S.a_v (j := mid) (by omega) em, Option.bind_some]
  have vm : vv s mid = (at' s.1 mid).toInt := rfl
  by_cases c2 : at' s.1 mid < x
  ·rw [if_pos c2, if_pos c2]
   rw [i_lt] at c2
   refine okP.some ⟨⟨mid + 1, hi, st + 1, by simp only; omega, he, by simp only; omega, by omega, hn, by omega, fun i hi' => ?_, H2⟩, by simp only; omega⟩
   rcases Nat.lt_or_ge i mid with w | w
   ·have := S.2.2.2.2.1 i mid w (by omega); omega
   ·have : i = mid := by omega
    subst this; omega
  ·rw [if_neg c2, if_neg c2]
   rw [i_lt] at c2
   refine okP.some ⟨⟨lo, mid, st + 1, ha, em, by simp only; omega, by omega, by omega, by omega, H1, fun i i1 i2 => ?_⟩, by simp only; omega⟩
   rcases Nat.lt_or_ge mid i with w | w
   ·have := S.2.2.2.2.1 mid i w i2; omega
   ·have : i = mid := by omega
    subst this; omega
 ·rw [i_lt] at c1
  have : lo = hi := by omega
  subst this
  exact okP.some ⟨lo, ha, hn, H1, H2⟩
def hit (s : CT) (lo hi : Int) (t : Int32) (ms : Bool) (i : Nat) : Bool := decide (lo ≤ vv s i) && decide (vv s i ≤ hi) && (decide (tt' s i = t) != ms)
theorem cnt_ok {c : CT} {s : CT} {f : FT} {p : PT} {k : KT} {d : DT} {m : MT} {b : BT} {o : Ob} (h : A o = (c, s, f, p, k, d, m, b)) {T : Int} {n : Nat} (S : Sw T n s) (C : Cde s n d m) (n15 : n ≤ 15) (lo hi t y : Int32) {ms : Bool} (hy : y = if ms then 1 else 0) : okP (F26 o lo hi t y) (fun r => r.toInt = (kc (hit s lo.toInt hi.toInt t ms) n : Nat)) := by
 have sc := S.2.2.2.1
 unfold F26
 apply okP.bind
 refine okP.mono (slb_ok h S n15 lo) ?_
 rintro r ⟨j, hj, jn, H1, H2⟩
 apply okP.bind
 refine okP.mono (P := fun r : Int64 => r.toInt = (kc (hit s lo.toInt hi.toInt t ms) n : Nat)) ?_ (fun r hr => okP.some hr)
 have k0 : kc (hit s lo.toInt hi.toInt t ms) j = 0 := by
  have := kc_stop (P := hit s lo.toInt hi.toInt t ms) (a := 0) j (fun i _ i2 => by
   have := H1 i (by omega)
   unfold hit
   rw [decide_eq_false (show ¬ lo.toInt ≤ vv s i by omega)]; rfl)
  rw [Nat.zero_add] at this
  exact this
 refine okP.loop (fun w : Int64 × Int32 => ∃ i : Nat, w.2.toInt = (i : Int) ∧ j ≤ i ∧ i ≤ n ∧ w.1.toInt = (kc (hit s lo.toInt hi.toInt t ms) i : Nat)) (fun w => (100 - w.2.toInt).toNat) ⟨j, hj, Nat.le_refl _, jn, by show (0 : Int) = _; rw [k0]; rfl⟩ (by show (100 - r.toInt).toNat < 4000; omega) ?_
 rintro ⟨u, x⟩ ⟨i, hx, ji, iN, hu⟩
 simp only at hx hu
 have kl := kc_le (hit s lo.toInt hi.toInt t ms) i
 unfold B26_14
 simp only
 rw [g_snapCount h]
 refine okP.ite (fun c1 => ?_) (fun c1 => ?_)
 ·rw [i_lt] at c1
  have hi' : i < n := by omega
  have ex : (x + 1).toInt = x.toInt + 1 := inc1 (by omega)
  have z1 : (1 : Int64).toInt = 1 := rfl
  have eu : (u + 1).toInt = u.toInt + 1 := by rw [J_add (by rw [z1]; omega) (by rw [z1]; omega), z1]
  have lv := H2 i ji hi'
  rw [g_snapVal h, S.a_v hi' hx, Option.bind_some]
  have vE : vv s i = (at' s.1 i).toInt := rfl
  refine okP.ite (fun c2 => okP.some ?_) (fun c2 => ?_)
  ·rw [i_lt] at c2
   obtain ⟨e, he⟩ : ∃ e, n = i + e := ⟨n - i, by omega⟩
   show u.toInt = _
   rw [he, kc_stop e (fun a a1 a2 => ?_)]
   ·exact hu
   ·unfold hit
    have : hi.toInt < vv s a := by
     rcases Nat.eq_or_lt_of_le a1 with w | w
     ·rw [← w]; omega
     ·have := S.2.2.2.2.1 i a w (by omega); omega
    rw [decide_eq_false (show ¬ vv s a ≤ hi.toInt by omega), Bool.and_false]; rfl
  ·rw [i_lt] at c2
   apply okP.bind
   refine okP.mono (run_ok h S C (at' s.1 i)) (fun q hq => ?_)
   have qe : q = tt' s i := by
    rcases hq with ⟨a, a1, a2, a3, a4⟩ | ⟨a1, _⟩
    ·rw [a4, vv_inj S a2 hi' a3]
    ·exact absurd rfl (a1 i (by omega) hi')
   have hE : hit s lo.toInt hi.toInt t ms i = (decide (tt' s i = t) != ms) := by
    unfold hit
    rw [decide_eq_true lv, decide_eq_true (show vv s i ≤ hi.toInt by omega)]; rfl
   refine okP.some ⟨⟨i + 1, by simp only; omega, by omega, by omega, ?_⟩, by simp only; omega⟩
   simp only
   show _ = ((kc (hit s lo.toInt hi.toInt t ms) i + (if hit s lo.toInt hi.toInt t ms i then 1 else 0) : Nat) : Int)
   rw [hE, qe, hy]
   by_cases e : tt' s i = t
   ·rw [if_pos e, decide_eq_true e]
    cases ms
    ·rw [if_neg (by decide), eu, hu]; rfl
    ·rw [if_pos (by decide), hu]; rfl
   ·rw [if_neg e, decide_eq_false e]
    cases ms
    ·rw [if_pos (by decide), hu]; rfl
    ·rw [if_neg (by decide), eu, hu]; rfl
 ·rw [i_lt] at c1
  have : i = n := by omega
  subst this
  exact okP.some hu
def RC (s : CT) (n : Nat) (lo hi : Int) (t : Int32) : Int := if hi < lo then 0 else if t = df s then (hi - lo + 1) - (kc (hit s lo hi t true) n : Nat) else (kc (hit s lo hi t false) n : Nat)
theorem rc_ok {c : CT} {s : CT} {f : FT} {p : PT} {k : KT} {d : DT} {m : MT} {b : BT} {o : Ob} (h : A o = (c, s, f, p, k, d, m, b)) {T : Int} {n : Nat} (S : Sw T n s) (C : Cde s n d m) (n15 : n ≤ 15) (hs : s.2.2.2.2 = 1) (hT : f.2.1.toInt = T) (lo hi : Int32) {t : Int32} (t0 : 0 ≤ t.toInt) (t1 : t.toInt < T) : okP (F25 o lo hi t) (fun r => r.toInt = RC s n lo.toInt hi.toInt t) := by
 have z0 : (0 : Int32).toInt = 0 := rfl
 have a1 := i_lo lo
 have a2 := i_hi lo
 have a3 := i_lo hi
 have a4 := i_hi hi
 unfold F25 RC
 rw [g_hasSnap h, hs, if_neg (by decide), if_neg (by rw [i_lt, z0]; omega), g_targets h, if_pos (by rw [i_lt, hT]; exact t1)]
 by_cases c1 : hi < lo
 ·rw [if_pos c1, if_pos (by rw [i_lt] at c1; exact c1)]
  exact okP.some rfl
 have c1' : ¬ hi.toInt < lo.toInt := by rw [i_lt] at c1; exact c1
 rw [if_neg c1, if_neg c1', g_snapDefault h]
 by_cases c2 : t = s.2.2.2.1
 ·have c2' : t = df s := c2
  rw [if_pos c2, if_pos c2']
  apply okP.bind
  refine okP.mono (cnt_ok h S C n15 lo hi t 1 (ms := true) rfl) (fun r hr => ?_)
  rw [if_neg (by decide)]
  have kl := kc_le (hit s lo.toInt hi.toInt t true) n
  have sp := span_m hi lo
  refine okP.some ?_
  rw [J_sub (by rw [sp, hr]; omega) (by rw [sp, hr]; omega), sp, hr]
 ·have c2' : ¬ t = df s := c2
  rw [if_neg c2, if_neg c2']
  apply okP.bind
  refine okP.mono (cnt_ok h S C n15 lo hi t 0 (ms := false) rfl) (fun r hr => ?_)
  rw [if_pos rfl]
  exact okP.some hr
def NR (s : CT) (n : Nat) (fr : Int) (t : Int32) (r : Int64) : Prop := (∃ x : Int, r.toInt = x ∧ fr ≤ x ∧ x ≤ 2147483647 ∧ Rv s 0 n x t ∧ ∀ y, fr ≤ y → y < x → ¬ Rv s 0 n y t) ∨ (r = 4294967296 ∧ ∀ y, fr ≤ y → y ≤ 2147483647 → ¬ Rv s 0 n y t)
theorem nc_ok {c : CT} {s : CT} {f : FT} {p : PT} {k : KT} {d : DT} {m : MT} {b : BT} {o : Ob} (h : A o = (c, s, f, p, k, d, m, b)) {T : Int} {n : Nat} (S : Sw T n s) (C : Cde s n d m) (n15 : n ≤ 15) (fr t : Int32) (td : t ≠ df s) : okP (F34 o fr t) (fun r => NR s n fr.toInt t r) := by
 have sc := S.2.2.2.1
 unfold F34
 apply okP.bind
 refine okP.mono (slb_ok h S n15 fr) ?_
 rintro r ⟨j, hj, jn, H1, H2⟩
 apply okP.bind
 refine okP.mono (P := fun r => NR s n fr.toInt t r) ?_ (fun r hr => okP.some hr)
 have no : ∀ {i : Nat} {y : Int}, (∀ a, j ≤ a → a < i → tt' s a ≠ t) → fr.toInt ≤ y → (∀ a, i ≤ a → a < n → vv s a ≠ y) → ¬ Rv s 0 n y t := by
  intro i y q1 q2 q3 q4
  rcases q4 with ⟨a, _, a2, a3, a4⟩ | ⟨_, a2⟩
  ·rcases Nat.lt_or_ge a j with w | w
   ·have := H1 a w; omega
   ·rcases Nat.lt_or_ge a i with w' | w'
    ·exact q1 a w w' a4.symm
    ·exact q3 a w' a2 a3
  ·exact td a2
 refine okP.loop (fun w : Int32 => ∃ i : Nat, w.toInt = (i : Int) ∧ j ≤ i ∧ i ≤ n ∧ ∀ a, j ≤ a → a < i → tt' s a ≠ t) (fun w => (100 - w.toInt).toNat) ⟨j, hj, Nat.le_refl _, jn, fun a a1 a2 => absurd a2 (by omega)⟩ (by show (100 - r.toInt).toNat < 4000; omega) ?_
 rintro x ⟨i, hx, ji, iN, hm⟩
 unfold B34_9
 rw [g_snapCount h]
 refine okP.ite (fun c1 => ?_) (fun c1 => ?_)
 ·rw [i_lt] at c1
  have hi' : i < n := by omega
  have ex : (x + 1).toInt = x.toInt + 1 := inc1 (by omega)
  rw [g_snapVal h, S.a_v hi' hx, Option.bind_some]
  apply okP.bind
  refine okP.mono (run_ok h S C (at' s.1 i)) (fun q hq => ?_)
  have qe : q = tt' s i := by
   rcases hq with ⟨a, a1, a2, a3, a4⟩ | ⟨a1, _⟩
   ·rw [a4, vv_inj S a2 hi' a3]
   ·exact absurd rfl (a1 i (by omega) hi')
  refine okP.ite (fun e => okP.some ?_) (fun e => okP.some ⟨⟨i + 1, by omega, by omega, by omega, fun a a1 a2 => ?_⟩, by omega⟩)
  ·have up := i_hi (at' s.1 i)
   refine Or.inl ⟨vv s i, J_e _, H2 i ji hi', ?_, Or.inl ⟨i, by omega, hi', rfl, by rw [← e, qe]⟩, fun y y1 y2 => no hm y1 (fun a a1 a2 a3 => ?_)⟩
   ·show (at' s.1 i).toInt ≤ _; omega
   ·rcases Nat.eq_or_lt_of_le a1 with w | w
    ·rw [← w] at a3; omega
    ·have := S.2.2.2.2.1 i a w a2; omega
  ·by_cases w : a = i
   ·rw [w]; rw [qe] at e; exact e
   ·exact hm a a1 (by omega)
 ·rw [i_lt] at c1
  have : i = n := by omega
  subst this
  exact okP.some (Or.inr ⟨rfl, fun y y1 _ => no hm y1 (fun a a1 a2 => absurd a2 (by omega))⟩)
theorem nd_ok {c : CT} {s : CT} {f : FT} {p : PT} {k : KT} {d : DT} {m : MT} {b : BT} {o : Ob} (h : A o = (c, s, f, p, k, d, m, b)) {T : Int} {n : Nat} (S : Sw T n s) (C : Cde s n d m) (n15 : n ≤ 15) (fr : Int32) : okP (F33 o fr) (fun r => NR s n fr.toInt (df s) r) := by
 have z65 : (65 : Int32).toInt = 65 := rfl
 have zmx : (2147483647 : Int32).toInt = 2147483647 := rfl
 unfold F33
 apply okP.bind
 refine okP.mono (P := fun r => NR s n fr.toInt (df s) r) ?_ (fun r hr => okP.some hr)
 refine okP.loop (fun w : Int32 × Int32 => ∃ st : Nat, w.2.toInt = (st : Int) ∧ w.1.toInt = fr.toInt + st ∧ ∀ y : Nat, y < st → ¬ Rv s 0 n (fr.toInt + y) (df s)) (fun w => (100 - w.2.toInt).toNat) ⟨0, rfl, by show fr.toInt = fr.toInt + ((0 : Nat) : Int); omega, fun y hy => absurd hy (by omega)⟩ (by show (100 - (0 : Int)).toNat < 4000; decide) ?_
 rintro ⟨x, z⟩ ⟨st, hz, hx, hm⟩
 simp only at hz hx
 have few : st ≤ n := by
  have key : ∀ y, y < st → ∃ i, i < n ∧ vv s i = fr.toInt + y := by
   intro y hy
   rcases Classical.em (∃ i, i < n ∧ vv s i = fr.toInt + y) with w | w
   ·exact w
   ·exact absurd (Or.inr ⟨fun i _ i2 i3 => w ⟨i, i2, i3⟩, rfl⟩) (hm y hy)
  have sk : ∃ g : Nat → Nat, ∀ y, y < st → g y < n ∧ vv s (g y) = fr.toInt + y := by
   refine ⟨fun y => if q : y < st then Classical.choose (key y q) else 0, fun y hy => ?_⟩
   show (if q : y < st then Classical.choose (key y q) else 0) < n ∧ vv s (if q : y < st then Classical.choose (key y q) else 0) = fr.toInt + y
   rw [dif_pos hy]
   exact Classical.choose_spec (key y hy)
  obtain ⟨g, hg⟩ := sk
  refine pig n st g (fun q hq => (hg q hq).1) (fun q q' hq hq' e => ?_)
  have a1 := (hg q hq).2
  have a2 := (hg q' hq').2
  rw [e] at a1
  omega
 unfold B33_4
 simp only
 rw [if_neg (by rw [i_lt, z65]; omega)]
 have xh := i_hi x
 have before : ∀ y, fr.toInt ≤ y → y < x.toInt → ¬ Rv s 0 n y (df s) := by
  intro y y1 y2
  have := hm (y - fr.toInt).toNat (by omega)
  rw [show fr.toInt + ((y - fr.toInt).toNat : Int) = y by omega] at this
  exact this
 apply okP.bind
 refine okP.mono (run_ok h S C x) (fun q hq => ?_)
 rw [g_snapDefault h]
 refine okP.ite (fun e => okP.some (Or.inl ⟨x.toInt, J_e x, by omega, by omega, ?_, before⟩)) (fun e => ?_)
 ·have e' : q = df s := e
  rw [← e']; exact hq
 have nx : ¬ Rv s 0 n x.toInt (df s) := fun w => e (Rv.det S hq w)
 refine okP.ite (fun mx => okP.some (Or.inr ⟨rfl, fun y y1 y2 => ?_⟩)) (fun mx => ?_)
 ·rw [i_eq, zmx] at mx
  rcases Int.lt_or_le y x.toInt with w | w
  ·exact before y y1 w
  ·have : y = x.toInt := by omega
   rw [this]; exact nx
 ·rw [i_eq, zmx] at mx
  have ex : (x + 1).toInt = x.toInt + 1 := inc1 (by omega)
  have ez : (z + 1).toInt = z.toInt + 1 := inc1 (by omega)
  refine okP.some ⟨⟨st + 1, by simp only; omega, by simp only; omega, fun y hy => ?_⟩, by simp only; omega⟩
  by_cases w : y = st
  ·rw [w, ← hx]; exact nx
  ·exact hm y (by omega)
theorem nr_ok {c : CT} {s : CT} {f : FT} {p : PT} {k : KT} {d : DT} {m : MT} {b : BT} {o : Ob} (h : A o = (c, s, f, p, k, d, m, b)) {T : Int} {n : Nat} (S : Sw T n s) (C : Cde s n d m) (n15 : n ≤ 15) (hs : s.2.2.2.2 = 1) (hT : f.2.1.toInt = T) (fr : Int32) {t : Int32} (t0 : 0 ≤ t.toInt) (t1 : t.toInt < T) : okP (F32 o fr t) (fun r => NR s n fr.toInt t r) := by
 have z0 : (0 : Int32).toInt = 0 := rfl
 unfold F32
 rw [g_hasSnap h, hs, if_neg (by decide), if_neg (by rw [i_lt, z0]; omega), g_targets h, if_pos (by rw [i_lt, hT]; exact t1), g_snapDefault h]
 refine okP.ite (fun e => ?_) (fun e => ?_)
 ·apply okP.bind
  refine okP.mono (nd_ok h S C n15 fr) (fun r hr => okP.some ?_)
  have e' : t = df s := e
  rw [e']; exact hr
 ·apply okP.bind
  exact okP.mono (nc_ok h S C n15 fr t e) (fun r hr => okP.some hr)

theorem kc_add {P Q R : Nat → Bool} (h : ∀ i, (if P i then 1 else 0) = (if Q i then 1 else 0) + (if R i then 1 else 0)) : ∀ n, kc P n = kc Q n + kc R n
 | 0 => rfl
 | n + 1 => by
  show kc P n + (if P n then 1 else 0) = kc Q n + (if Q n then 1 else 0) + (kc R n + (if R n then 1 else 0))
  rw [kc_add h n, h n]; omega
theorem kc_not (P : Nat → Bool) : ∀ n, kc P n + kc (fun i => !P i) n = n
 | 0 => rfl
 | n + 1 => by
  have := kc_not P n
  show kc P n + (if P n then 1 else 0) + (kc (fun i => !P i) n + (if !P n then 1 else 0)) = n + 1
  cases P n <;> simp <;> omega
theorem kc_one {P : Nat → Bool} {i : Nat} : ∀ {n : Nat}, i < n → (∀ a, a < n → a ≠ i → P a = false) → kc P n = if P i then 1 else 0
 | 0, h, _ => absurd h (by omega)
 | n + 1, h, z => by
  show kc P n + (if P n then 1 else 0) = _
  by_cases e : i = n
  ·subst e
   have : kc P i = 0 := by
    have := kc_stop (P := P) (a := 0) i (fun a _ a2 => z a (by omega) (by omega))
    rw [Nat.zero_add] at this
    exact this
   rw [this]; omega
  ·rw [kc_one (by omega) (fun a a1 a2 => z a (by omega) a2), z n (by omega) (fun w => e w.symm)]; rfl
theorem kc_four {τ : Nat → Int32} : ∀ n, (∀ i, i < n → 0 ≤ (τ i).toInt ∧ (τ i).toInt < 4) → kc (fun i => decide (τ i = 0)) n + kc (fun i => decide (τ i = 1)) n + kc (fun i => decide (τ i = 2)) n + kc (fun i => decide (τ i = 3)) n = n
 | 0, _ => rfl
 | n + 1, h => by
  have ih := kc_four n (fun i hi => h i (by omega))
  have c := small_cases (P := fun t => t = 0 ∨ t = 1 ∨ t = 2 ∨ t = 3) (h n (by omega)).1 (n := 4) (h n (by omega)).2 (by decide)
  show kc _ n + (if decide (τ n = 0) then 1 else 0) + (kc _ n + (if decide (τ n = 1) then 1 else 0)) + (kc _ n + (if decide (τ n = 2) then 1 else 0)) + (kc _ n + (if decide (τ n = 3) then 1 else 0)) = n + 1
  rcases c with w | w | w | w <;> rw [w] <;> simp <;> omega
theorem RC_add {s : CT} {n : Nat} {lo a hi : Int} (h1 : lo ≤ a) (h2 : a + 1 ≤ hi) (t : Int32) : RC s n lo hi t = RC s n lo a t + RC s n (a + 1) hi t := by
 have k : ∀ ms, kc (hit s lo hi t ms) n = kc (hit s lo a t ms) n + kc (hit s (a + 1) hi t ms) n := by
  intro ms
  refine kc_add (fun i => ?_) n
  unfold hit
  by_cases q : vv s i ≤ a
  ·rw [decide_eq_true (show vv s i ≤ hi by omega), decide_eq_true q, decide_eq_false (show ¬ a + 1 ≤ vv s i by omega)]
   simp
  ·rw [decide_eq_false q, decide_eq_true (show a + 1 ≤ vv s i by omega), decide_eq_true (show lo ≤ vv s i by omega)]
   simp
 unfold RC
 have q1 : ¬ hi < lo := by omega
 have q2 : ¬ a < lo := by omega
 have q3 : ¬ hi < a + 1 := by omega
 simp only [if_neg q1, if_neg q2, if_neg q3]
 by_cases e : t = df s
 ·simp only [if_pos e]; rw [k true]; omega
 ·simp only [if_neg e]; rw [k false]; omega
theorem RC_one {T : Int} {n : Nat} {s : CT} (S : Sw T n s) (x : Int) (t : Int32) : (Rv s 0 n x t → RC s n x x t = 1) ∧ (¬ Rv s 0 n x t → RC s n x x t = 0) := by
 unfold RC
 rw [if_neg (by omega)]
 by_cases z : ∃ i, i < n ∧ vv s i = x
 ·obtain ⟨i, i1, i2⟩ := z
  have rv : Rv s 0 n x t ↔ t = tt' s i := ⟨fun w => Rv.det S w (Or.inl ⟨i, by omega, i1, i2, rfl⟩), fun w => Or.inl ⟨i, by omega, i1, i2, w⟩⟩
  have k : ∀ ms, kc (hit s x x t ms) n = if (decide (tt' s i = t) != ms) then 1 else 0 := by
   intro ms
   have e : hit s x x t ms i = (decide (tt' s i = t) != ms) := by
    unfold hit
    rw [decide_eq_true (show x ≤ vv s i by omega), decide_eq_true (show vv s i ≤ x by omega)]; rfl
   rw [kc_one i1 (fun a a1 a2 => ?_), e]
   unfold hit
   have ne : vv s a ≠ x := fun w => a2 (vv_inj S a1 i1 (by omega))
   by_cases q : x ≤ vv s a
   ·rw [decide_eq_false (show ¬ vv s a ≤ x by omega), Bool.and_false]; rfl
   ·rw [decide_eq_false q]; rfl
  rw [k true, k false, rv]
  by_cases e : t = tt' s i
  ·rw [decide_eq_true e.symm]
   refine ⟨fun _ => ?_, fun w => absurd e w⟩
   split <;> simp
  ·rw [decide_eq_false (fun w => e w.symm)]
   refine ⟨fun w => absurd w e, fun _ => ?_⟩
   split <;> simp
 ·have no : ∀ i, i < n → vv s i ≠ x := fun i hi w => z ⟨i, hi, w⟩
  have rv : Rv s 0 n x t ↔ t = df s := ⟨fun w => by
   rcases w with ⟨i, _, i2, i3, _⟩ | ⟨_, w⟩
   ·exact absurd i3 (no i i2)
   ·exact w, fun w => Or.inr ⟨fun i _ hi => no i hi, w⟩⟩
  have k : ∀ ms, kc (hit s x x t ms) n = 0 := by
   intro ms
   have := kc_stop (P := hit s x x t ms) (a := 0) n (fun a _ a2 => by
    unfold hit
    have ne := no a (by omega)
    by_cases q : x ≤ vv s a
    ·rw [decide_eq_false (show ¬ vv s a ≤ x by omega), Bool.and_false]; rfl
    ·rw [decide_eq_false q]; rfl)
   rw [Nat.zero_add] at this
   exact this
  rw [k true, k false, rv]
  by_cases e : t = df s
  ·rw [if_pos e]; exact ⟨fun _ => by omega, fun w => absurd e w⟩
  ·rw [if_neg e]; exact ⟨fun w => absurd w e, fun _ => rfl⟩
theorem RC_b (s : CT) {n : Nat} (n15 : n ≤ 15) {lo hi : Int} (h1 : -2147483648 ≤ lo) (h2 : hi ≤ 2147483647) (t : Int32) : -15 ≤ RC s n lo hi t ∧ RC s n lo hi t ≤ 4294967296 := by
 have a := kc_le (hit s lo hi t true) n
 have b := kc_le (hit s lo hi t false) n
 unfold RC
 split
 ·omega
 ·split <;> omega
theorem RC_all {n : Nat} {s : CT} (S : Sw 4 n s) : RC s n (-2147483648) 2147483647 0 + RC s n (-2147483648) 2147483647 1 + RC s n (-2147483648) 2147483647 2 + RC s n (-2147483648) 2147483647 3 = 4294967296 := by
 have he : ∀ t ms i, hit s (-2147483648) 2147483647 t ms i = (decide (tt' s i = t) != ms) := by
  intro t ms i
  unfold hit
  have a1 := i_lo (at' s.1 i)
  have a2 := i_hi (at' s.1 i)
  have e : vv s i = (at' s.1 i).toInt := rfl
  rw [decide_eq_true (show -2147483648 ≤ vv s i by omega), decide_eq_true (show vv s i ≤ 2147483647 by omega)]; rfl
 have kF : ∀ t, kc (hit s (-2147483648) 2147483647 t false) n = kc (fun i => decide (tt' s i = t)) n := fun t => kc_congr (fun i _ => by rw [he]; cases decide (tt' s i = t) <;> rfl)
 have kT : ∀ t, kc (hit s (-2147483648) 2147483647 t true) n + kc (fun i => decide (tt' s i = t)) n = n := by
  intro t
  have := kc_not (fun i => decide (tt' s i = t)) n
  have e : kc (hit s (-2147483648) 2147483647 t true) n = kc (fun i => !decide (tt' s i = t)) n := kc_congr (fun i _ => by rw [he]; cases decide (tt' s i = t) <;> rfl)
  rw [e]; omega
 have k4 := kc_four (τ := tt' s) n (fun i hi => S.2.2.2.2.2.1 i hi)
 have d0 : 0 ≤ (df s).toInt := S.2.2.2.2.2.2.1
 have d4 : (df s).toInt < 4 := S.2.2.2.2.2.2.2
 have c := small_cases (P := fun t => t = 0 ∨ t = 1 ∨ t = 2 ∨ t = 3) d0 (n := 4) d4 (by decide)
 have r : ∀ t, RC s n (-2147483648) 2147483647 t = if t = df s then (4294967296 : Int) - ((kc (hit s (-2147483648) 2147483647 t true) n : Nat) : Int) else ((kc (hit s (-2147483648) 2147483647 t false) n : Nat) : Int) := by
  intro t
  unfold RC
  have q1 : ¬ (2147483647 : Int) < -2147483648 := by omega
  by_cases e : t = df s
  ·simp only [if_neg q1, if_pos e]; omega
  ·simp only [if_neg q1, if_neg e]
 rw [r, r, r, r, kF, kF, kF, kF]
 have t0 := kT 0
 have t1 := kT 1
 have t2 := kT 2
 have t3 := kT 3
 rcases c with w | w | w | w <;> rw [w] <;> simp only [if_true, if_neg (show ¬ (0 : Int32) = 1 by decide), if_neg (show ¬ (0 : Int32) = 2 by decide), if_neg (show ¬ (0 : Int32) = 3 by decide), if_neg (show ¬ (1 : Int32) = 0 by decide), if_neg (show ¬ (1 : Int32) = 2 by decide), if_neg (show ¬ (1 : Int32) = 3 by decide), if_neg (show ¬ (2 : Int32) = 0 by decide), if_neg (show ¬ (2 : Int32) = 1 by decide), if_neg (show ¬ (2 : Int32) = 3 by decide), if_neg (show ¬ (3 : Int32) = 0 by decide), if_neg (show ¬ (3 : Int32) = 1 by decide), if_neg (show ¬ (3 : Int32) = 2 by decide)] <;> omega
theorem Ok.fit {T cp : Int} {n : Nat} {c s' : CT} {o : Ob} (O : Ok T cp n c s' o) (s : List Int32) : sFit s (H0 s o) := by
 obtain ⟨⟨a1, a2, a3, a4⟩, ⟨a5, a6, a7, a8, a9⟩, ⟨b1, b2, b3, b4, b5⟩, ⟨b6, b7⟩, b8, b9, b10, b11⟩ := O.fit0
 refine ⟨by show 22 - 1 ≤ _; decide, ?_⟩
 simp only [H0, qhs, qsz, a1, a2, a3, a4, a5, a6, a7, a8, a9, b1, b2, b3, b4, b5, b6, b7, b8, b9, b10, b11]
 simp only [cN, room_1]
 omega
theorem J_eq {x y : Int64} (h : x.toInt = y.toInt) : x = y := Int64.toInt_inj.1 h
theorem end_ok {s : List Int32} {n : Nat} {c t : CT} {o : Ob} (O : Ok 4 12 n c t o) (ht : t.2.2.2.2 = 1) {w : Int32} (w0 : -1073741824 ≤ w.toInt) (w1 : w.toInt < 1073741824) : okP (J0_241 s o w) (fun e => e.1 = 1 ∧ sFit s e.2) := by
 obtain ⟨f, p, k, d, m, b, h, S0, La, f1, f2, nc, cd, sl, hs⟩ := id O
 obtain ⟨ns, n1, S, C⟩ : ∃ ns : Nat, (ns : Int) ≤ 12 ∧ Sw 4 ns t ∧ Cde t ns d m := by
  rcases hs with w | ⟨_, w, _⟩
  ·rw [ht] at w; exact absurd w (by decide)
  ·exact w
 have n15 : ns ≤ 15 := by omega
 have z0 : (0 : Int32).toInt = 0 := rfl
 have z1 : (1 : Int32).toInt = 1 := rfl
 have z4 : (4 : Int32).toInt = 4 := rfl
 have z7 : (7 : Int32).toInt = 7 := rfl
 have z8 : (8 : Int32).toInt = 8 := rfl
 have zm8 : (-8 : Int32).toInt = -8 := rfl
 have zm9 : (-9 : Int32).toInt = -9 := rfl
 have zmn : (-2147483648 : Int32).toInt = -2147483648 := rfl
 have zmx : (2147483647 : Int32).toInt = 2147483647 := rfl
 have y0 : (0 : Int64).toInt = 0 := rfl
 have y1 : (1 : Int64).toInt = 1 := rfl
 have y7 : (7 : Int64).toInt = 7 := rfl
 have y8 : (8 : Int64).toInt = 8 := rfl
 have ym8 : (-8 : Int64).toInt = -8 := rfl
 have yN : (4294967296 : Int64).toInt = 4294967296 := rfl
 have ew : (w + 1).toInt = w.toInt + 1 := inc1 (by omega)
 have rt : ∀ x : Int32, okP (F7 o x) (fun r => Rv t 0 ns x.toInt r) := by
  intro x
  unfold F7
  rw [g_hasSnap h, ht, if_neg (by decide)]
  apply okP.bind
  exact okP.mono (run_ok h S C x) (fun r hr => okP.some hr)
 have rc : ∀ (lo hi : Int32) {x : Int32}, 0 ≤ x.toInt → x.toInt < 4 → okP (F25 o lo hi x) (fun r => r.toInt = RC t ns lo.toInt hi.toInt x) := fun lo hi x x0 x4 => rc_ok h S C n15 ht f2 lo hi x0 x4
 unfold J0_241
 apply okP.bind
 refine okP.mono (P := fun e : Int64 ⊕ (Int32 × QHeap) => ∃ a : Int64, e = .inl a ∧ a.toInt = 4294967296) ?_ ?_
 ·refine okP.loop (fun v : Int64 × Int32 => (v.2.toInt = 0 ∧ v.1.toInt = 0) ∨ (v.2.toInt = 1 ∧ v.1.toInt = RC t ns (-2147483648) 2147483647 0) ∨ (v.2.toInt = 2 ∧ v.1.toInt = RC t ns (-2147483648) 2147483647 0 + RC t ns (-2147483648) 2147483647 1) ∨ (v.2.toInt = 3 ∧ v.1.toInt = RC t ns (-2147483648) 2147483647 0 + RC t ns (-2147483648) 2147483647 1 + RC t ns (-2147483648) 2147483647 2) ∨ (v.2.toInt = 4 ∧ v.1.toInt = RC t ns (-2147483648) 2147483647 0 + RC t ns (-2147483648) 2147483647 1 + RC t ns (-2147483648) 2147483647 2 + RC t ns (-2147483648) 2147483647 3)) (fun v => (20 - v.2.toInt).toNat) (Or.inl ⟨rfl, rfl⟩) (by show (20 - (0 : Int)).toNat < 4000; decide) ?_
  rintro ⟨al, x⟩ I
  simp only at I
  unfold B0_247
  simp only
  refine okP.ite (fun c1 => ?_) (fun c1 => ?_)
  ·rw [i_lt, z4] at c1
   have x0 : 0 ≤ x.toInt := by omega
   have ex : (x + 1).toInt = x.toInt + 1 := inc1 (by omega)
   apply okP.bind; refine okP.mono (rc (-2147483648) 2147483647 x0 c1) (fun rw' hw => ?_)
   apply okP.bind; refine okP.mono (rc (-2147483648) (-9) x0 c1) (fun rl hl => ?_)
   apply okP.bind; refine okP.mono (rc (-8) 7 x0 c1) (fun rm hm => ?_)
   apply okP.bind; refine okP.mono (rc 8 2147483647 x0 c1) (fun rh hh => ?_)
   rw [zmn, zmx] at hw
   rw [zmn, zm9] at hl
   rw [zm8, z7] at hm
   rw [z8, zmx] at hh
   have b1 := RC_b t n15 (lo := -2147483648) (hi := 2147483647) (by omega) (by omega) x
   have b2 := RC_b t n15 (lo := -2147483648) (hi := -9) (by omega) (by omega) x
   have b3 := RC_b t n15 (lo := -8) (hi := 7) (by omega) (by omega) x
   have b4 := RC_b t n15 (lo := 8) (hi := 2147483647) (by omega) (by omega) x
   have a1 := RC_add (s := t) (n := ns) (lo := -2147483648) (a := -9) (hi := 2147483647) (by omega) (by omega) x
   have a2 := RC_add (s := t) (n := ns) (lo := -9 + 1) (a := 7) (hi := 2147483647) (by omega) (by omega) x
   rw [show (-9 : Int) + 1 = -8 by omega] at a1 a2
   rw [show (7 : Int) + 1 = 8 by omega] at a2
   have e1 : (rl + rm).toInt = rl.toInt + rm.toInt := J_add (by omega) (by omega)
   have e2 : (rl + rm + rh).toInt = rl.toInt + rm.toInt + rh.toInt := by rw [J_add (by omega) (by omega), e1]
   rw [if_pos (J_eq (by omega))]
   apply okP.bind; refine okP.mono (rc (-2147483648) w x0 c1) (fun ra ha => ?_)
   apply okP.bind; refine okP.mono (rc (w + 1) 2147483647 x0 c1) (fun rb hb => ?_)
   rw [zmn] at ha
   rw [ew, zmx] at hb
   have b5 := RC_b t n15 (lo := -2147483648) (hi := w.toInt) (by omega) (by omega) x
   have b6 := RC_b t n15 (lo := w.toInt + 1) (hi := 2147483647) (by omega) (by omega) x
   have a3 := RC_add (s := t) (n := ns) (lo := -2147483648) (a := w.toInt) (hi := 2147483647) (by omega) (by omega) x
   have e3 : (ra + rb).toInt = ra.toInt + rb.toInt := J_add (by omega) (by omega)
   rw [if_pos (J_eq (by omega))]
   apply okP.bind
   refine okP.mono (P := fun u : Int64 => u.toInt = RC t ns (-8) 7 x) ?_ ?_
   ·refine okP.loop (fun v : Int64 × Int32 => -8 ≤ v.2.toInt ∧ v.2.toInt ≤ 8 ∧ v.1.toInt = RC t ns (-8) (v.2.toInt - 1) x) (fun v => (20 - v.2.toInt).toNat) ⟨by show (-8 : Int) ≤ -8; decide, by show (-8 : Int) ≤ 8; decide, by show (0 : Int) = RC t ns (-8) (-8 - 1) x; unfold RC; rw [if_pos (by omega)]⟩ (by show (20 - (-8 : Int)).toNat < 4000; decide) ?_
    rintro ⟨u, y⟩ ⟨l1, l2, l3⟩
    simp only at l1 l2 l3
    unfold B0_361
    simp only
    refine okP.ite (fun c2 => ?_) (fun c2 => ?_)
    ·rw [i_lt, z7] at c2
     refine okP.some ?_
     show u.toInt = _
     rw [l3, show y.toInt - 1 = 7 by omega]
    ·rw [i_lt, z7] at c2
     have ey : (y + 1).toInt = y.toInt + 1 := inc1 (by omega)
     have b7 := RC_b t n15 (lo := -8) (hi := y.toInt - 1) (by omega) (by omega) x
     have eu : (u + 1).toInt = u.toInt + 1 := by rw [J_add (by rw [y1]; omega) (by rw [y1]; omega), y1]
     apply okP.bind
     refine okP.mono (rt y) (fun r hr => ?_)
     have one := RC_one S y.toInt x
     have step : RC t ns (-8) y.toInt x = RC t ns (-8) (y.toInt - 1) x + RC t ns y.toInt y.toInt x := by
      by_cases q : y.toInt = -8
      ·rw [q]
       have : RC t ns (-8) (-8 - 1) x = 0 := by unfold RC; rw [if_pos (by omega)]
       rw [this]; omega
      ·have := RC_add (s := t) (n := ns) (lo := -8) (a := y.toInt - 1) (hi := y.toInt) (by omega) (by omega) x
       rw [show y.toInt - 1 + 1 = y.toInt by omega] at this
       exact this
     refine okP.some ⟨⟨by simp only; omega, by simp only; omega, ?_⟩, by simp only; omega⟩
     simp only
     rw [ey, show y.toInt + 1 - 1 = y.toInt by omega, step]
     by_cases q : r = x
     ·rw [if_pos q, eu, l3, one.1 (by rw [← q]; exact hr)]
     ·rw [if_neg q, l3, one.2 (fun z => q (Rv.det S hr z))]; omega
   ·intro u hu
    rw [if_pos (J_eq (by omega))]
    have nx : okP (J0_474 s o w al x rw') (fun r => Sum.elim (fun e : Int64 ⊕ (Int32 × QHeap) => ∃ a : Int64, e = .inl a ∧ a.toInt = 4294967296) (fun v : Int64 × Int32 => ((v.2.toInt = 0 ∧ v.1.toInt = 0) ∨ (v.2.toInt = 1 ∧ v.1.toInt = RC t ns (-2147483648) 2147483647 0) ∨ (v.2.toInt = 2 ∧ v.1.toInt = RC t ns (-2147483648) 2147483647 0 + RC t ns (-2147483648) 2147483647 1) ∨ (v.2.toInt = 3 ∧ v.1.toInt = RC t ns (-2147483648) 2147483647 0 + RC t ns (-2147483648) 2147483647 1 + RC t ns (-2147483648) 2147483647 2) ∨ (v.2.toInt = 4 ∧ v.1.toInt = RC t ns (-2147483648) 2147483647 0 + RC t ns (-2147483648) 2147483647 1 + RC t ns (-2147483648) 2147483647 2 + RC t ns (-2147483648) 2147483647 3)) ∧ (20 - v.2.toInt).toNat < (20 - x.toInt).toNat) r) := by
     have c0 := RC_b t n15 (lo := -2147483648) (hi := 2147483647) (by omega) (by omega) 0
     have c1' := RC_b t n15 (lo := -2147483648) (hi := 2147483647) (by omega) (by omega) 1
     have c2' := RC_b t n15 (lo := -2147483648) (hi := 2147483647) (by omega) (by omega) 2
     have es : (al + rw').toInt = al.toInt + rw'.toInt := J_add (by omega) (by omega)
     refine okP.some ⟨?_, by simp only; omega⟩
     simp only
     rw [es, hw, ex]
     rcases I with ⟨i1, i2⟩ | ⟨i1, i2⟩ | ⟨i1, i2⟩ | ⟨i1, i2⟩ | ⟨i1, i2⟩
     ·have : x = 0 := i_eq.2 (by rw [i1]; rfl)
      rw [this] at *
      exact Or.inr (Or.inl ⟨rfl, by omega⟩)
     ·have : x = 1 := i_eq.2 (by rw [i1]; rfl)
      rw [this] at *
      exact Or.inr (Or.inr (Or.inl ⟨rfl, by omega⟩))
     ·have : x = 2 := i_eq.2 (by rw [i1]; rfl)
      rw [this] at *
      exact Or.inr (Or.inr (Or.inr (Or.inl ⟨rfl, by omega⟩)))
     ·have : x = 3 := i_eq.2 (by rw [i1]; rfl)
      rw [this] at *
      exact Or.inr (Or.inr (Or.inr (Or.inr ⟨rfl, by omega⟩)))
     ·omega
    have mid : ∀ q : Nat, (q : Int) ≤ 16 → (0 < RC t ns (-8) ((q : Int) - 9) x ∨ RC t ns (-8) ((q : Int) - 9) x = 0) ∧ (0 < RC t ns (-8) ((q : Int) - 9) x ↔ ∃ y : Int, -8 ≤ y ∧ y ≤ (q : Int) - 9 ∧ Rv t 0 ns y x) := by
     intro q
     induction q with
     | zero =>
      intro _
      have : RC t ns (-8) (((0 : Nat) : Int) - 9) x = 0 := by unfold RC; rw [if_pos (by omega)]
      rw [this]
      refine ⟨Or.inr rfl, fun z => absurd z (by omega), ?_⟩
      rintro ⟨y, _, _, _⟩
      omega
     | succ q ih =>
      intro hq
      obtain ⟨ih1, ih2⟩ := ih (by omega)
      have one := RC_one S ((q : Int) - 8) x
      have step : RC t ns (-8) (((q + 1 : Nat) : Int) - 9) x = RC t ns (-8) ((q : Int) - 9) x + RC t ns ((q : Int) - 8) ((q : Int) - 8) x := by
       rw [show ((q + 1 : Nat) : Int) - 9 = (q : Int) - 8 by omega]
       by_cases q0 : q = 0
       ·subst q0
        have : RC t ns (-8) (((0 : Nat) : Int) - 9) x = 0 := by unfold RC; rw [if_pos (by omega)]
        rw [this]
        show RC t ns (-8) (0 - 8) x = 0 + RC t ns (0 - 8) (0 - 8) x
        rw [show (0 : Int) - 8 = -8 by omega]; omega
       ·have := RC_add (s := t) (n := ns) (lo := -8) (a := (q : Int) - 9) (hi := (q : Int) - 8) (by omega) (by omega) x
        rw [show (q : Int) - 9 + 1 = (q : Int) - 8 by omega] at this
        exact this
      rw [step]
      rcases Classical.em (Rv t 0 ns ((q : Int) - 8) x) with z | z
      ·rw [one.1 z]
       refine ⟨by omega, fun _ => ⟨(q : Int) - 8, by omega, by omega, z⟩, fun _ => by omega⟩
      ·rw [one.2 z, Int.add_zero]
       refine ⟨ih1, fun w => ?_, fun ⟨y, p1, p2, p3⟩ => ih2.2 ⟨y, p1, ?_, p3⟩⟩
       ·obtain ⟨y, p1, p2, p3⟩ := ih2.1 w
        exact ⟨y, p1, by omega, p3⟩
       ·rcases Int.lt_or_le ((q : Int) - 9) y with w | w
        ·have : y = (q : Int) - 8 := by omega
         rw [this] at p3; exact absurd p3 z
        ·exact w
    obtain ⟨_, md⟩ := mid 16 (by omega)
    have e7 : ((16 : Nat) : Int) - 9 = 7 := by omega
    rw [e7] at md
    apply okP.bind
    refine okP.mono (nr_ok h S C n15 ht f2 (-8) x0 c1) (fun nr hn => ?_)
    rw [zm8] at *
    refine okP.ite (fun g0 => ?_) (fun g0 => ?_)
    ·rw [J_lt, y0, hm] at g0
     obtain ⟨y, p1, p2, p3⟩ := md.1 g0
     rcases hn with ⟨v, v1, v2, v3, v4, v5⟩ | ⟨_, v1⟩
     ·have vy : v ≤ y := by
       rcases Int.lt_or_le y v with q | q
       ·exact absurd p3 (v5 y p1 q)
       ·exact q
      rw [if_neg (by rw [J_lt, ym8]; omega), if_neg (by rw [J_lt, y7]; omega)]
      have t32 : nr.toInt32.toInt = v := by rw [Int64.toInt_toInt32, Int.bmod_eq_of_le (by omega) (by omega)]; exact v1
      apply okP.bind
      refine okP.mono (rt nr.toInt32) (fun r hr => ?_)
      rw [t32] at hr
      rw [if_pos (Rv.det S hr v4)]
      exact nx
     ·exact absurd p3 (v1 y p1 (by omega))
    ·rw [J_lt, y0, hm] at g0
     rw [if_neg]
     ·exact nx
     ·rw [J_lt, y8]
      rcases hn with ⟨v, v1, v2, v3, v4, v5⟩ | ⟨v1, _⟩
      ·rcases Int.lt_or_le 7 v with q | q
       ·omega
       ·exact absurd (md.2 ⟨v, v2, q, v4⟩) g0
      ·rw [v1, yN]; omega
  ·rw [i_lt, z4] at c1
   have all := RC_all S
   refine okP.some ⟨al, rfl, ?_⟩
   omega
 ·rintro e ⟨a, rfl, ha⟩
  simp only
  rw [if_pos (J_eq (by rw [ha]; rfl))]
  apply okP.bind
  refine okP.mono (P := fun e : Int32 × QHeap => e.1 = 1 ∧ sFit s e.2) ?_ (fun e he => okP.some he)
  refine okP.loop (fun v : Int32 => -8 ≤ v.toInt ∧ v.toInt ≤ 8) (fun v => (20 - v.toInt).toNat) ⟨by show (-8 : Int) ≤ -8; decide, by show (-8 : Int) ≤ 8; decide⟩ (by show (20 - (-8 : Int)).toNat < 4000; decide) ?_
  rintro y ⟨l1, l2⟩
  unfold B0_499
  refine okP.ite (fun _ => okP.some ⟨rfl, O.fit s⟩) (fun c2 => ?_)
  rw [i_lt, z7] at c2
  have ey : (y + 1).toInt = y.toInt + 1 := inc1 (by omega)
  apply okP.bind
  refine okP.mono (rt y) (fun r hr => ?_)
  have rg := Rv.rng S hr
  apply okP.bind
  refine okP.mono (nr_ok h S C n15 ht f2 y rg.1 rg.2) (fun nr hn => ?_)
  rw [if_pos]
  ·exact okP.some ⟨⟨by omega, by omega⟩, by omega⟩
  ·apply J_eq
   rw [J_e]
   rcases hn with ⟨v, v1, v2, v3, v4, v5⟩ | ⟨_, v1⟩
   ·rcases Int.lt_or_le y.toInt v with q | q
    ·exact absurd hr (v5 y.toInt (by omega) q)
    ·omega
   ·exact absurd hr (v1 y.toInt (by omega) (by omega))
def Vs (n : Nat) (c : CT) : Prop := ∀ i, i < n → -8 ≤ vv c i ∧ vv c i ≤ 7
theorem Vs.ins {n j : Nat} {c c' : CT} {x t : Int32} (jn : j ≤ n) (V : Vs n c) (I : Ins c c' n j x t) (x0 : -8 ≤ x.toInt) (x1 : x.toInt ≤ 7) : Vs (n + 1) c' := by
 intro i hi
 unfold Vs vv gd at *
 rcases Nat.lt_trichotomy i j with w | w | w
 ·rw [(I.1 i w).1]
  exact V i (by omega)
 ·rw [w, I.2.1.1]; exact ⟨x0, x1⟩
 ·rw [(I.2.2 i w (by omega)).1]; exact V (i - 1) (by omega)
theorem Vs.rem {n j : Nat} {c c' : CT} (V : Vs (n + 1) c) (I : Rem c c' (n + 1) j) : Vs n c' := by
 intro i hi
 unfold Vs vv gd at *
 rcases Nat.lt_or_ge i j with w | w
 ·rw [(I.1 i w).1]; exact V i (by omega)
 ·rw [(I.2 i w (by omega)).1]; exact V (i + 1) (by omega)
theorem shr1 (y : Int32) : -1073741824 ≤ (y >>> ((1 : Int32) &&& 31)).toInt ∧ (y >>> ((1 : Int32) &&& 31)).toInt < 1073741824 := by
 have e : (y >>> ((1 : Int32) &&& 31)).toInt = y.toInt / 2 := by
  show (y.toBitVec.sshiftRight 1).toInt = y.toBitVec.toInt / 2
  rw [BitVec.toInt_sshiftRight, Int.shiftRight_eq_div_pow]; rfl
 have a := i_lo y
 have b := i_hi y
 omega
abbrev V9 := Int32 × Ob
def I9 (w : V9) : Prop := (∃ n c s', Ok 4 12 n c s' w.2 ∧ Vs n c) ∧ 0 ≤ w.1.toInt ∧ w.1.toInt ≤ 1000
def P9 (s : List Int32) (x : Int32) (r : (Ob ⊕ (Int32 × QHeap)) ⊕ V9) : Prop := Sum.elim (fun e : Ob ⊕ (Int32 × QHeap) => ∃ q n c s', e = .inl q ∧ Ok 4 12 n c s' q ∧ Vs n c) (fun w : V9 => I9 w ∧ (1000 - w.1.toInt).toNat < (1000 - x.toInt).toNat) r
theorem low9 {n : Nat} {c t : CT} {q : Ob} (O : Ok 4 12 n c t q) (V : Vs n c) : okP (F12 q) (fun w => ∃ c' t', Ok 4 12 n c' t' w.2 ∧ Vs n c' ∧ t'.2.2.2.2 = 1) := by
 obtain ⟨f, p, kk, d, m, b, h, S, nc, R⟩ := O.rst
 refine okP.mono (O.lower (by omega) ⟨Or.inl (by decide), by decide⟩ ⟨by decide, fun i j hi hj => by
  have a1 := V i hi
  have a2 := V j hj
  omega⟩) ?_
 rintro w ⟨w1, t', O', E, ht⟩
 exact ⟨_, t', O', V, ht⟩
theorem law_ok (s : List Int32) (hs : s.length ≤ 260) : ∃ τ, F0 s = some (1, τ) ∧ τ.length - List.length ([Sum.inr (Sum.inl (FieldType.int, s))] : QHeap) ≤ room_1.cells ∧ qhs τ - qhs [Sum.inr (Sum.inl (FieldType.int, s))] ≤ room_1.slots := by
 have hl := len_i (n := s.length) (by omega)
 have z0 : (0 : Int32).toInt = 0 := rfl
 have z2 : (2 : Int32).toInt = 2 := rfl
 have z3 : (3 : Int32).toInt = 3 := rfl
 have z8 : (8 : Int32).toInt = 8 := rfl
 have : okP (F0 s) (fun e => e.1 = 1 ∧ sFit s e.2) := by
  unfold F0
  have i0 : okP (F1 12 4) (fun o => ∃ c s', Ok 4 12 0 c s' o) := by
   have L : ∀ {α : Type} (n : Nat) (a : α), (List.replicate n a).length = n := fun n a => List.length_replicate
   have e1 : F2 12 1 64 = some 12 := rfl
   have e2 : F2 4 1 16 = some 4 := rfl
   unfold F1 F3
   rw [e1, Option.bind_some, e2, Option.bind_some, Option.bind_some]
   refine okP.some ⟨(List.replicate 64 0, List.replicate 64 0, 0, 0, 0), (List.replicate 64 0, List.replicate 64 0, 0, 0, 0), ⟨(12, 4, List.replicate 256 0, 0), (List.replicate 65 0, List.replicate 65 0), (List.replicate 64 0, List.replicate 64 0, 0), (List.replicate 160 0, List.replicate 160 0, List.replicate 160 0, List.replicate 160 0, List.replicate 160 0, 0, 0), (List.replicate 192 0, List.replicate 192 0, 0), (List.replicate 130 0, List.replicate 130 0, List.replicate 130 0, List.replicate 130 0, 0), ?_, ⟨L _ _, L _ _, by omega, rfl, fun i j _ hj => absurd hj (by omega), fun j hj => absurd hj (by omega), by decide, by decide⟩, ⟨L _ _, ⟨L _ _, L _ _⟩, ⟨L _ _, L _ _⟩, ⟨L _ _, L _ _, L _ _, L _ _, L _ _⟩, ⟨L _ _, L _ _⟩, L _ _, L _ _, L _ _, L _ _⟩, rfl, rfl, by decide, Or.inl rfl, ⟨L _ _, L _ _⟩, Or.inl rfl⟩⟩
   dsimp only [A, fA, fB, fC, fD, fE, fF, fG, fH, fI, fJ, fK, fL, fM, fN, fO, fP, fQ, fR, fS, fT, fU, fV, fW, fX, fY, fZ, fa, fb, fd, fh, fi, fq, fu, fy, fz, fxA, fxB, fxC, fxD, fxE, fxF, fxG, fxH, fxI, fxJ, fxK, fxL, fxM, sA, sB, sC, sD, sE, sF, sG, sH, sI, sJ, sK, sL, sM, sN, sO, sP, sQ, sR, sS, sT, sU, sV, sW, sX, sY, sZ, sa, sb, sd, sh, si, sq, su, sy, sz, sxA, sxB, sxC, sxD, sxE, sxF, sxG, sxH, sxI, sxJ, sxK, sxL, sxM]
  apply okP.bind
  refine okP.mono i0 ?_
  rintro o ⟨c, s0, O⟩
  apply okP.bind
  refine okP.mono (P := fun e : Ob ⊕ (Int32 × QHeap) => ∃ q n c s', e = .inl q ∧ Ok 4 12 n c s' q ∧ Vs n c) ?_ ?_
  ·refine okP.loop I9 (fun w => (1000 - w.1.toInt).toNat) ⟨⟨0, c, s0, O, fun i hi => absurd hi (by omega)⟩, by show (0 : Int) ≤ 0; decide, by show (0 : Int) ≤ 1000; decide⟩ (by show (1000 - (0 : Int)).toNat < 4000; decide) ?_
   rintro ⟨x, q⟩ ⟨⟨n, c, t, O, V⟩, x0, xL⟩
   simp only at O x0 xL
   show okP _ (P9 s x)
   unfold B0_13
   simp only
   have a2 : (x + 2).toInt = x.toInt + 2 := by rw [i_add (by omega) (by omega), z2]
   refine okP.ite (fun cc => ?_) (fun _ => okP.some ⟨q, n, c, t, rfl, O, V⟩)
   rw [i_lt, a2, hl] at cc
   have a1 : (x + 1).toInt = x.toInt + 1 := inc1 (by omega)
   have a3 : (x + 3).toInt = x.toInt + 3 := by rw [i_add (by omega) (by omega), z3]
   obtain ⟨f, p, kk, d, m, b, h, S, nc, R⟩ := O.rst
   apply okP.bind; refine okP.aget (by omega) (by omega) (fun y0 _ => ?_)
   apply okP.bind; refine okP.aget (by omega) (by omega) (fun y1 _ => ?_)
   apply okP.bind; refine okP.aget (by omega) (by omega) (fun y2 _ => ?_)
   have kr := and_rng (x := y1) (m := 15) (by decide)
   have z15 : (15 : Int32).toInt = 15 := rfl
   generalize y1 &&& 15 = k at kr ⊢
   generalize (y2 &&& 2147483647) % 5 = tv
   have hv : (k - 8).toInt = k.toInt - 8 := by rw [i_sub (by rw [z8]; omega) (by rw [z8]; omega), z8]
   generalize k - 8 = v at hv ⊢
   have v0 : -8 ≤ v.toInt := by omega
   have v1 : v.toInt ≤ 7 := by omega
   obtain ⟨r14, h14⟩ : ∃ r, F4 q = some r := ⟨_, rfl⟩
   obtain ⟨r15, h15⟩ : ∃ r, F5 q = some r := ⟨_, rfl⟩
   obtain ⟨r18, h18⟩ : ∃ r, F6 q = some r := by
    rcases isc_m O with ⟨w, _⟩ | ⟨w, _⟩
    ·exact ⟨_, w⟩
    ·exact ⟨_, w⟩
   obtain ⟨r60, h60, _⟩ := O.route v
   obtain ⟨r77, h77, _⟩ := O.look (by omega) v
   rw [h14, Option.bind_some, h15, Option.bind_some, h18, Option.bind_some, h60, Option.bind_some, h77, Option.bind_some]
   have nx : ∀ {n' : Nat} {c' t' : CT} {q' : Ob}, Ok 4 12 n' c' t' q' → Vs n' c' → okP (J0_216 s q' x) (P9 s x) := by
    intro n' c' t' q' O' V'
    unfold J0_216
    exact okP.some ⟨⟨⟨n', c', t', O', V'⟩, by simp only; omega, by simp only; omega⟩, by simp only; omega⟩
   have ne : ∀ {n' : Nat} {c' t' : CT} {q' : Ob} {e : Int32}, e = 0 → Ok 4 12 n' c' t' q' → Vs n' c' → okP (J0_158 s q' x v r14 r15 r18 r60 r77 e) (P9 s x) := by
    intro n' c' t' q' e e0 O' V'
    unfold J0_158
    rw [if_pos e0]
    exact nx O' V'
   have sm : ∀ {w : Int32 × Ob} {e : Int32}, w = (e, q) → okP (J0_158 s w.2 x v r14 r15 r18 r60 r77 w.1) (P9 s x) := by
    intro w e ew
    subst ew
    unfold J0_158
    simp only
    by_cases e0 : e = 0
    ·rw [if_pos e0]; exact nx O V
    ·rw [if_neg e0, h14, Option.bind_some, if_pos rfl, h15, Option.bind_some, if_pos rfl, h18, Option.bind_some, if_pos rfl, h60, Option.bind_some, if_pos rfl, h77, Option.bind_some, if_pos rfl]
     exact nx O V
   refine okP.ite (fun _ => ?_) (fun _ => ?_)
   ·refine okP.ite (fun _ => ?_) (fun _ => ?_)
    ·apply okP.bind
     refine okP.mono (O.rem (by decide) (by omega) v) ?_
     rintro w (⟨e, no⟩ | ⟨w1, c', j, n', en, O', jn, vj, I, d1, d2⟩)
     ·exact sm e
     ·subst en
      exact ne w1 O' (V.rem I)
    refine okP.ite (fun _ => ?_) (fun _ => ?_)
    ·apply okP.bind
     refine okP.mono (O.deflt tv) ?_
     rintro w (⟨e, bad⟩ | ⟨good, w1, O'⟩)
     ·exact sm e
     ·exact ne w1 O' V
    refine okP.ite (fun _ => ?_) (fun _ => ?_)
    ·apply okP.bind
     refine okP.mono (low9 O V) ?_
     rintro w ⟨c', t', O', V', _⟩
     exact ne rfl O' V'
    ·apply okP.bind
     refine okP.mono (O.reset (by decide)) ?_
     rintro w ⟨c', t', O', _⟩
     exact ne rfl O' (fun i hi => absurd hi (by omega))
   ·apply okP.bind
    refine okP.mono (O.add (by decide) (by omega) v tv) ?_
    rintro w (⟨e, bad⟩ | ⟨good, ⟨e, dup⟩ | ⟨nd, ⟨e, full⟩ | ⟨lt, w1, c', j, O', jn, I, d1, d2⟩⟩⟩)
    ·exact sm e
    ·exact sm e
    ·exact sm e
    ·exact ne w1 O' (V.ins jn I v0 v1)
  ·rintro e ⟨q, n, c, t, rfl, O, V⟩
   simp only
   apply okP.bind
   refine okP.mono (low9 O V) ?_
   rintro w ⟨c', t', O', V', ht⟩
   refine okP.ite (fun l0 => ?_) (fun _ => ?_)
   ·rw [i_lt, z0, hl] at l0
    apply okP.bind; refine okP.aget (by rw [z0]; omega) (by rw [z0]; omega) (fun y _ => ?_)
    have := shr1 y
    exact end_ok O' ht this.1 this.2
   ·exact end_ok O' ht (by rw [z0]; omega) (by rw [z0]; omega)
 obtain ⟨⟨r, τ⟩, q1, q2, q3⟩ := this
 simp only at q2
 subst q2
 exact ⟨τ, q1, q3⟩
set_option maxRecDepth 65536 in
theorem comes_1 {Post : Tables → Env → Array Value → State → Outcome → State → Prop} (hpost : ∀ tb e args s v u, (limb_1_1.after args s (.returned v) u = true ∧ limb_1_2.after args s (.returned v) u = true ∧ True) → FrameEnd s (.returned v) u (Jvm.fieldLocs frame_1_writes args s ++ Jvm.arrayLocs frame_1_arrays args s ++ Jvm.staticLocs frame_1_statics s) 56 5120 → Post tb e args s (.returned v) u) :
    ArmFor flags0 classFile x code maxLocals ret World_1 tables_1 room_1 Calls_1 rest_1 Pre_1 Post := by
  intro l hfl _ _ p e ha hc hk s m args below hf hA hF happ hP
  obtain ⟨hcalls, hrest, hpre⟩ := hP
  obtain ⟨-, -, -, hnamed, -, -, -, hat⟩ := (Spec.applies_iff hf).mp happ
  obtain ⟨hg, hn⟩ := and_e (Cond.before_iff.mp (show (Jvm.Cond.and given_1 narrow_1).before args s = true from hpre))
  obtain ⟨g0, g1⟩ := and_e hg
  obtain ⟨w0, rfl⟩ : ∃ w0 : Value, args = #[w0] := by
    have hs : args.size = 1 := by simpa [Cond.value, given_1] using g0
    obtain ⟨L⟩ := args
    match L, hs with
    | [w0], _ => exact ⟨w0, rfl⟩
  have hw := fun d (hd : d ∈ tables_1) => atoms_spec (ws := Jvm.Cond.code x code maxLocals ret :: tables_1) hat d (List.mem_cons_of_mem _ hd)
  have hfit : Fit s := fun {y c} hc i hi => by
    obtain ⟨ha, rfl⟩ := Array.getElem?_eq_some_iff.mp hc
    have q := List.all_eq_true.mp ((Array.all_eq_true_iff_forall_mem.mp hF) _ (Array.getElem_mem ha)) i (List.mem_range.mpr hi)
    simpa [Array.getElem?_eq_getElem hi] using q
  obtain ⟨n1, n2⟩ := and_e hn
  obtain ⟨a, cl, xs, rfl, hA1, hA2, hlen⟩ := script_ok hfit n1 n2
  obtain ⟨τ, hF0, hc1, hs1⟩ := law_ok xs hlen
  have hlt := hA1.lt
  have Ad : QAd s.heap.size (fun k => match k with | 0 => a | k + 1 => s.heap.size + k) := ⟨fun k hk => by cases k with | zero => exact absurd hk (by decide) | succ k => rfl, fun i j h => by
    cases i with
    | zero => cases j with
      | zero => rfl
      | succ j => have h' : a = s.heap.size + j := h; exact absurd hA1.lt (by rw [h']; exact Nat.not_lt.mpr (Nat.le_add_right _ _))
    | succ i => cases j with
      | zero => have h' : s.heap.size + i = a := h; exact absurd hA1.lt (by rw [← h']; exact Nat.not_lt.mpr (Nat.le_add_right _ _))
      | succ j => have h' : s.heap.size + i = s.heap.size + j := h; omega⟩
  have hR : QRep s s.heap.size (fun k => match k with | 0 => a | k + 1 => s.heap.size + k) s.heap [iC xs] := ⟨Nat.le_refl _, rfl, fun k c h => by
    cases k with
    | zero => cases h; exact ⟨cl, hA1, hA2⟩
    | succ k => cases h⟩
  have T := tF0 (l := l) (Z := s) Ad (QW_ok hw) xs hF0
  have M := QTri.met (k := 0) (as := [.ref 0]) (by decide) T hR (Nat.le_of_ble_eq_true rfl) (fun q => by cases q) tables_1 (rm := room_1) (by decide) (by decide) hc1 hs1
  obtain ⟨n, o, h1, h2, h3, _, L, rfl, ⟨rfl, R', N⟩, hq⟩ := M p e ha hc hk s m _ below hf ((Spec.applies_iff_loose hf).mp happ).1 ⟨rfl, State.Warmed39.refl s, rfl⟩ trivial
  refine ⟨n, _, h1, h2, h3, hpost _ _ _ _ _ _ ⟨Cond.after_iff.mpr rfl, Cond.after_iff.mpr (eq_i res_at (Term.int_eval (1)) rfl), trivial⟩ ⟨hq.1, hq.2.1, (hq.2.2.sift fun y hy => Or.inr (N y hy)).mono hc1 hs1⟩⟩
theorem main_1_1 : Claimed_1_1 := comes_1 fun _ _ _ _ _ _ h hF => ⟨h.1, hF⟩
theorem main_1_2 : Claimed_1_2 := comes_1 fun _ _ _ _ _ _ h hF => ⟨h.2.1, hF⟩
end Jvm.Pilot.@@N@@
namespace Jvm.Pilot.@@N@@
open Jvm Jvm.ClassFile Sem Op Lib Jvm.Free Jvm.Stand Jvm.Pilot.@@N@@.Jvm.D
/-! MADE BY PROGRAM (witnessworld.py) out of the Statement's table words and the real class files: 11 classes; the members and pool entries that the words name. The judged class is class 1, her method 1. -/
namespace start1
open Jvm.ClassFile
def u (s : String) : CpInfo := .utf8 (stringToUtf16 s)
/-- a pool by its gaps: so many unusable entries, then the entry; so many at the end -/
def gap : Nat → List CpInfo → List CpInfo
  | 0, r => r
  | n + 1, r => .unusable :: gap n r
def poolList (es : List (Nat × CpInfo)) (last : Nat) : List CpInfo := es.foldr (fun e r => gap e.1 (e.2 :: r)) (gap last [])
def pool (es : List (Nat × CpInfo)) (last : Nat) : Array CpInfo := ⟨poolList es last⟩
def fileOf (pool : Array CpInfo) (this : Nat) (attrs : Array Attribute := #[]) (ms : Array MethodInfo := #[]) (fl : Nat := 33) (sup : Nat := 0) (ifs : Array Nat := #[]) (fds : Array FieldInfo := #[]) : ClassFile where
  minorVersion := 0
  majorVersion := 65
  constantPool := pool
  accessFlags := fl
  thisClass := this
  superClass := sup
  interfaces := ifs
  fields := fds
  methods := ms
  attributes := attrs
def plain (name : String) (sup : Option ClassId) : Class where
  name := name
  kind := .ordinary
  loader := none
  accessFlags := 33
  super := sup
  interfaces := #[]
  cf := none
  fields := #[]
  methods := #[]
  instanceTypes := #[]
  staticTypes := #[]
  resolved := #[]
  callSites := []
  init := .initialized
  statics := none
  mirror := none

def pool0 : Array CpInfo := pool [(5, u "<init>"), (0, u "()V"), (1, .class_ 10), (1, u "java/lang/Object")] 113

def k0c0 : Code := { maxStack := 0, maxLocals := 1, code := object_method_1_code, exceptionTable := #[], attributes := #[] }
def k0m0 : Method := { name := "<init>", desc := "()V", sig := { parameters := [], returnType := none }, accessFlags := 1, code := some k0c0 }
/-- java/lang/Object -/
def k0 : Class := { plain "java/lang/Object" none with
  accessFlags := 33
  interfaces := #[]
  cf := some (fileOf pool0 8 #[] #[{ accessFlags := 1, nameIndex := 5, descriptorIndex := 6, attributes := #[] }] 33 0 #[] #[])
  fields := #[]
  methods := #[k0m0]
  instanceTypes := #[]
  staticTypes := #[]
  resolved := Array.replicate 124 none
  statics := none }

def pool1 : Array CpInfo := pool [(2, .class_ 4), (1, u "java/lang/Object"), (0, u "<init>"), (0, u "()V"), (0, .class_ 8), (0, u "SwitchLowererX"), (0, .methodref 7 10), (0, .nameAndType 5 11), (0, u "(II)V"), (0, .integer 2147483647), (0, .methodref 7 14), (0, .nameAndType 15 16), (0, u "caseCount"), (0, u "()I"), (0, .methodref 7 18), (0, .nameAndType 19 16), (0, u "defaultTarget"), (0, .methodref 7 21), (0, .nameAndType 22 23), (0, u "isCurrent"), (0, u "()Z"), (0, .methodref 7 25), (0, .nameAndType 26 27), (0, u "route"), (0, u "(I)I"), (0, .methodref 7 29), (0, .nameAndType 30 27), (0, u "lookup"), (0, .methodref 7 32), (0, .nameAndType 33 34), (0, u "addCase"), (0, u "(II)I"), (0, .methodref 7 36), (0, .nameAndType 37 27), (0, u "removeCase"), (0, .methodref 7 39), (0, .nameAndType 40 27), (0, u "setDefault"), (0, .methodref 7 42), (0, .nameAndType 43 16), (0, u "lower"), (0, .methodref 7 45), (0, .nameAndType 46 6), (0, u "reset"), (0, .integer 2147483648), (0, .methodref 7 49), (0, .nameAndType 50 51), (0, u "routedCount"), (0, u "(III)J"), (0, .methodref 7 53), (0, .nameAndType 54 55), (0, u "nextRouted"), (0, u "(II)J"), (0, .long 18446744073709551608), (1, .long 7), (1, .long 8), (1, .long 4294967296), (1, .class_ 65), (0, u "SwitchLowererXL7"), (2, u "law"), (0, u "([I)Z")] 5

def k1m0 : Method := { name := "<init>", desc := "()V", sig := { parameters := [], returnType := none }, accessFlags := 1, code := none }
def k1c1 : Code := { maxStack := 6, maxLocals := 23, code := code, exceptionTable := #[], attributes := #[] }
def k1m1 : Method := { name := "law", desc := "([I)Z", sig := { parameters := [(.array .int)], returnType := some .boolean }, accessFlags := 9, code := some k1c1 }
/-- SwitchLowererXL7 -/
def k1 : Class := { plain "SwitchLowererXL7" (some 0) with
  accessFlags := 33
  interfaces := #[]
  cf := some (fileOf pool1 64 #[] #[{ accessFlags := 1, nameIndex := 5, descriptorIndex := 6, attributes := #[] }, { accessFlags := 9, nameIndex := 68, descriptorIndex := 69, attributes := #[] }] 33 2 #[] #[])
  fields := #[]
  methods := #[k1m0, k1m1]
  instanceTypes := #[]
  staticTypes := #[]
  resolved := Array.replicate 75 none
  statics := none }

def pool2 : Array CpInfo := pool [(1, .methodref 2 3), (0, .class_ 4), (0, .nameAndType 5 6), (0, u "java/lang/Object"), (0, u "<init>"), (0, u "()V"), (0, .fieldref 8 9), (0, .class_ 10), (0, .nameAndType 11 12), (0, u "SwitchLowererX"), (0, u "opRet"), (0, u "I"), (0, .fieldref 8 14), (0, .nameAndType 15 12), (0, u "opLess"), (0, .fieldref 8 17), (0, .nameAndType 18 12), (0, u "opEq"), (0, .fieldref 8 20), (0, .nameAndType 21 12), (0, u "opTable"), (0, .fieldref 8 23), (0, .nameAndType 24 12), (0, u "opBits"), (0, .fieldref 8 26), (0, .nameAndType 27 12), (0, u "maxCap"), (0, .fieldref 8 29), (0, .nameAndType 30 12), (0, u "maxTargets"), (0, .fieldref 8 32), (0, .nameAndType 33 12), (0, u "maxSteps"), (0, .fieldref 8 35), (0, .nameAndType 36 12), (0, u "tableSpanPerCase"), (0, .fieldref 8 38), (0, .nameAndType 39 12), (0, u "maxTableSpan"), (0, .fieldref 8 41), (0, .nameAndType 42 12), (0, u "maxBitSpan"), (0, .fieldref 8 44), (0, .nameAndType 45 12), (0, u "maxBitTargets"), (0, .long 4294967295), (1, .fieldref 8 49), (0, .nameAndType 50 51), (0, u "unsignedMask"), (0, u "J"), (0, .integer 2147483647), (0, .fieldref 8 54), (0, .nameAndType 55 12), (0, u "maxInt"), (0, .fieldref 8 57), (0, .nameAndType 58 59), (0, u "curVal"), (0, u "[I"), (0, .fieldref 8 61), (0, .nameAndType 62 63), (0, u "curTgt"), (0, u "[B"), (0, .fieldref 8 65), (0, .nameAndType 66 59), (0, u "snapVal"), (0, .fieldref 8 68), (0, .nameAndType 69 63), (0, u "snapTgt"), (0, .fieldref 8 71), (0, .nameAndType 72 59), (0, u "bestCost"), (0, .fieldref 8 74), (0, .nameAndType 75 59), (0, u "bestCut"), (0, .fieldref 8 77), (0, .nameAndType 78 59), (0, u "clStart"), (0, .fieldref 8 80), (0, .nameAndType 81 59), (0, u "clEnd"), (0, .fieldref 8 83), (0, .nameAndType 84 63), (0, u "opc"), (0, .fieldref 8 86), (0, .nameAndType 87 59), (0, u "argA"), (0, .fieldref 8 89), (0, .nameAndType 90 59), (0, u "argB"), (0, .fieldref 8 92), (0, .nameAndType 93 59), (0, u "argC"), (0, .fieldref 8 95), (0, .nameAndType 96 59), (0, u "argD"), (0, .fieldref 8 98), (0, .nameAndType 99 63), (0, u "tablePool"), (0, .fieldref 8 101), (0, .nameAndType 102 103), (0, u "maskPool"), (0, u "[J"), (0, .fieldref 8 105), (0, .nameAndType 106 63), (0, u "maskTarget"), (0, .fieldref 8 108), (0, .nameAndType 109 59), (0, u "stLo"), (0, .fieldref 8 111), (0, .nameAndType 112 59), (0, u "stHi"), (0, .fieldref 8 114), (0, .nameAndType 115 59), (0, u "stParent"), (0, .fieldref 8 117), (0, .nameAndType 118 59), (0, u "stSlot"), (0, .methodref 8 120), (0, .nameAndType 121 122), (0, u "clamp"), (0, u "(III)I"), (0, .fieldref 8 124), (0, .nameAndType 125 12), (0, u "cap"), (0, .fieldref 8 127), (0, .nameAndType 128 12), (0, u "targets"), (0, .methodref 8 130), (0, .nameAndType 131 6), (0, u "reset"), (0, .fieldref 8 133), (0, .nameAndType 134 12), (0, u "curCount"), (0, .fieldref 8 136), (0, .nameAndType 137 12), (0, u "curDefault"), (0, .fieldref 8 139), (0, .nameAndType 140 141), (0, u "dirty"), (0, u "Z"), (0, .fieldref 8 143), (0, .nameAndType 144 12), (0, u "snapCount"), (0, .fieldref 8 146), (0, .nameAndType 147 12), (0, u "snapDefault"), (0, .fieldref 8 149), (0, .nameAndType 150 141), (0, u "hasSnap"), (0, .fieldref 8 152), (0, .nameAndType 153 12), (0, u "clCount"), (0, .fieldref 8 155), (0, .nameAndType 156 12), (0, u "codeLen"), (0, .fieldref 8 158), (0, .nameAndType 159 12), (0, u "rootPc"), (0, .fieldref 8 161), (0, .nameAndType 162 12), (0, u "tableUsed"), (0, .fieldref 8 164), (0, .nameAndType 165 12), (0, u "maskUsed"), (0, .fieldref 8 167), (0, .nameAndType 168 12), (0, u "sp"), (0, .methodref 8 170), (0, .nameAndType 171 172), (0, u "curLowerBound"), (0, u "(I)I"), (0, .methodref 8 174), (0, .nameAndType 175 172), (0, u "curIndexOf"), (0, .methodref 8 177), (0, .nameAndType 178 6), (0, u "takeSnapshot"), (0, .methodref 8 180), (0, .nameAndType 181 6), (0, u "planClusters"), (0, .methodref 8 183), (0, .nameAndType 184 6), (0, u "collectClusters"), (0, .methodref 8 186), (0, .nameAndType 187 6), (0, u "buildTree"), (0, .methodref 8 189), (0, .nameAndType 190 172), (0, u "run"), (0, .long 4294967296), (1, .methodref 8 194), (0, .nameAndType 195 196), (0, u "nextDefaultRouted"), (0, u "(I)J"), (0, .methodref 8 198), (0, .nameAndType 199 200), (0, u "nextCaseRouted"), (0, u "(II)J"), (0, .methodref 8 202), (0, .nameAndType 203 204), (0, u "countCaseHits"), (0, u "(IIIZ)J"), (0, .long 256), (1, .methodref 8 208), (0, .nameAndType 209 210), (0, u "clusterFits"), (0, u "(JII)Z"), (0, .long 64), (1, .long 4), (1, .methodref 8 216), (0, .nameAndType 217 218), (0, u "emit"), (0, u "(IIIII)I"), (0, .methodref 8 220), (0, .nameAndType 221 222), (0, u "push"), (0, u "(IIII)V"), (0, .methodref 8 224), (0, .nameAndType 225 172), (0, u "emitLeaf"), (3, .methodref 8 230), (0, .nameAndType 231 232), (0, u "patch"), (0, u "(III)V"), (0, .methodref 8 234), (0, .nameAndType 235 236), (0, u "distinctTargets"), (0, u "(II)I"), (0, .methodref 8 238), (0, .nameAndType 239 122), (0, u "emitBits"), (3, .methodref 8 244), (0, .nameAndType 245 122), (0, u "findMaskSlot"), (0, .methodref 8 247), (0, .nameAndType 248 236), (0, u "runLeaf"), (3, .methodref 8 253), (0, .nameAndType 254 236), (0, u "runBits"), (0, .methodref 8 256), (0, .nameAndType 257 200), (0, u "unsignedOffset"), (0, .methodref 8 259), (0, .nameAndType 260 172), (0, u "snapLowerBound"), (0, u "OK"), (2, u "FULL"), (1, u "DUPLICATE"), (1, u "BAD_TARGET"), (1, u "ABSENT"), (1, u "NOT_LOWERED"), (1, u "NO_CASE"), (0, u "NONE"), (3, u "(II)V"), (3, u "()I"), (1, u "addCase"), (1, u "removeCase"), (0, u "setDefault"), (0, u "caseCount"), (2, u "defaultTarget"), (0, u "lookup"), (0, u "lower"), (0, u "isCurrent"), (0, u "()Z"), (0, u "route"), (0, u "nextRouted"), (0, u "routedCount"), (0, u "(III)J")] 2

def k2c0 : Code := { maxStack := 5, maxLocals := 3, code := prog_1_method_1_code, exceptionTable := #[], attributes := #[] }
def k2m0 : Method := { name := "<init>", desc := "(II)V", sig := { parameters := [.int, .int], returnType := none }, accessFlags := 1, code := some k2c0 }
def k2c1 : Code := { maxStack := 2, maxLocals := 1, code := prog_1_method_4_code, exceptionTable := #[], attributes := #[] }
def k2m1 : Method := { name := "reset", desc := "()V", sig := { parameters := [], returnType := none }, accessFlags := 1, code := some k2c1 }
def k2c2 : Code := { maxStack := 5, maxLocals := 5, code := prog_1_method_5_code, exceptionTable := #[], attributes := #[] }
def k2m2 : Method := { name := "addCase", desc := "(II)I", sig := { parameters := [.int, .int], returnType := some .int }, accessFlags := 1, code := some k2c2 }
def k2c3 : Code := { maxStack := 5, maxLocals := 4, code := prog_1_method_6_code, exceptionTable := #[], attributes := #[] }
def k2m3 : Method := { name := "removeCase", desc := "(I)I", sig := { parameters := [.int], returnType := some .int }, accessFlags := 1, code := some k2c3 }
def k2c4 : Code := { maxStack := 2, maxLocals := 2, code := prog_1_method_7_code, exceptionTable := #[], attributes := #[] }
def k2m4 : Method := { name := "setDefault", desc := "(I)I", sig := { parameters := [.int], returnType := some .int }, accessFlags := 1, code := some k2c4 }
def k2c5 : Code := { maxStack := 1, maxLocals := 1, code := prog_1_method_8_code, exceptionTable := #[], attributes := #[] }
def k2m5 : Method := { name := "caseCount", desc := "()I", sig := { parameters := [], returnType := some .int }, accessFlags := 1, code := some k2c5 }
def k2c6 : Code := { maxStack := 1, maxLocals := 1, code := prog_1_method_11_code, exceptionTable := #[], attributes := #[] }
def k2m6 : Method := { name := "defaultTarget", desc := "()I", sig := { parameters := [], returnType := some .int }, accessFlags := 1, code := some k2c6 }
def k2c7 : Code := { maxStack := 2, maxLocals := 3, code := prog_1_method_12_code, exceptionTable := #[], attributes := #[] }
def k2m7 : Method := { name := "lookup", desc := "(I)I", sig := { parameters := [.int], returnType := some .int }, accessFlags := 1, code := some k2c7 }
def k2c8 : Code := { maxStack := 1, maxLocals := 1, code := prog_1_method_13_code, exceptionTable := #[], attributes := #[] }
def k2m8 : Method := { name := "lower", desc := "()I", sig := { parameters := [], returnType := some .int }, accessFlags := 1, code := some k2c8 }
def k2c9 : Code := { maxStack := 1, maxLocals := 1, code := prog_1_method_14_code, exceptionTable := #[], attributes := #[] }
def k2m9 : Method := { name := "isCurrent", desc := "()Z", sig := { parameters := [], returnType := some .boolean }, accessFlags := 1, code := some k2c9 }
def k2c10 : Code := { maxStack := 2, maxLocals := 2, code := prog_1_method_15_code, exceptionTable := #[], attributes := #[] }
def k2m10 : Method := { name := "route", desc := "(I)I", sig := { parameters := [.int], returnType := some .int }, accessFlags := 1, code := some k2c10 }
def k2c11 : Code := { maxStack := 3, maxLocals := 3, code := prog_1_method_16_code, exceptionTable := #[], attributes := #[] }
def k2m11 : Method := { name := "nextRouted", desc := "(II)J", sig := { parameters := [.int, .int], returnType := some .long }, accessFlags := 1, code := some k2c11 }
def k2c12 : Code := { maxStack := 5, maxLocals := 9, code := prog_1_method_17_code, exceptionTable := #[], attributes := #[] }
def k2m12 : Method := { name := "routedCount", desc := "(III)J", sig := { parameters := [.int, .int, .int], returnType := some .long }, accessFlags := 1, code := some k2c12 }
def k2c13 : Code := { maxStack := 2, maxLocals := 4, code := prog_1_method_18_code, exceptionTable := #[], attributes := #[] }
def k2m13 : Method := { name := "clamp", desc := "(III)I", sig := { parameters := [.int, .int, .int], returnType := some .int }, accessFlags := 2, code := some k2c13 }
def k2c14 : Code := { maxStack := 2, maxLocals := 6, code := prog_1_method_19_code, exceptionTable := #[], attributes := #[] }
def k2m14 : Method := { name := "curLowerBound", desc := "(I)I", sig := { parameters := [.int], returnType := some .int }, accessFlags := 2, code := some k2c14 }
def k2c15 : Code := { maxStack := 2, maxLocals := 3, code := prog_1_method_20_code, exceptionTable := #[], attributes := #[] }
def k2m15 : Method := { name := "curIndexOf", desc := "(I)I", sig := { parameters := [.int], returnType := some .int }, accessFlags := 2, code := some k2c15 }
def k2c16 : Code := { maxStack := 2, maxLocals := 6, code := prog_1_method_21_code, exceptionTable := #[], attributes := #[] }
def k2m16 : Method := { name := "snapLowerBound", desc := "(I)I", sig := { parameters := [.int], returnType := some .int }, accessFlags := 2, code := some k2c16 }
def k2c17 : Code := { maxStack := 4, maxLocals := 2, code := prog_1_method_22_code, exceptionTable := #[], attributes := #[] }
def k2m17 : Method := { name := "takeSnapshot", desc := "()V", sig := { parameters := [], returnType := none }, accessFlags := 2, code := some k2c17 }
def k2c18 : Code := { maxStack := 5, maxLocals := 10, code := prog_1_method_23_code, exceptionTable := #[], attributes := #[] }
def k2m18 : Method := { name := "planClusters", desc := "()V", sig := { parameters := [], returnType := none }, accessFlags := 2, code := some k2c18 }
def k2c19 : Code := { maxStack := 6, maxLocals := 7, code := prog_1_method_24_code, exceptionTable := #[], attributes := #[] }
def k2m19 : Method := { name := "clusterFits", desc := "(JII)Z", sig := { parameters := [.long, .int, .int], returnType := some .boolean }, accessFlags := 2, code := some k2c19 }
def k2c20 : Code := { maxStack := 4, maxLocals := 6, code := prog_1_method_25_code, exceptionTable := #[], attributes := #[] }
def k2m20 : Method := { name := "collectClusters", desc := "()V", sig := { parameters := [], returnType := none }, accessFlags := 2, code := some k2c20 }
def k2c21 : Code := { maxStack := 7, maxLocals := 9, code := prog_1_method_26_code, exceptionTable := #[], attributes := #[] }
def k2m21 : Method := { name := "buildTree", desc := "()V", sig := { parameters := [], returnType := none }, accessFlags := 2, code := some k2c21 }
def k2c22 : Code := { maxStack := 3, maxLocals := 5, code := prog_1_method_27_code, exceptionTable := #[], attributes := #[] }
def k2m22 : Method := { name := "push", desc := "(IIII)V", sig := { parameters := [.int, .int, .int, .int], returnType := none }, accessFlags := 2, code := some k2c22 }
def k2c23 : Code := { maxStack := 3, maxLocals := 4, code := prog_1_method_28_code, exceptionTable := #[], attributes := #[] }
def k2m23 : Method := { name := "patch", desc := "(III)V", sig := { parameters := [.int, .int, .int], returnType := none }, accessFlags := 2, code := some k2c23 }
def k2c24 : Code := { maxStack := 3, maxLocals := 7, code := prog_1_method_29_code, exceptionTable := #[], attributes := #[] }
def k2m24 : Method := { name := "emit", desc := "(IIIII)I", sig := { parameters := [.int, .int, .int, .int, .int], returnType := some .int }, accessFlags := 2, code := some k2c24 }
def k2c25 : Code := { maxStack := 6, maxLocals := 7, code := prog_1_method_31_code, exceptionTable := #[], attributes := #[] }
def k2m25 : Method := { name := "emitLeaf", desc := "(I)I", sig := { parameters := [.int], returnType := some .int }, accessFlags := 2, code := some k2c25 }
def k2c26 : Code := { maxStack := 3, maxLocals := 7, code := prog_1_method_32_code, exceptionTable := #[], attributes := #[] }
def k2m26 : Method := { name := "distinctTargets", desc := "(II)I", sig := { parameters := [.int, .int], returnType := some .int }, accessFlags := 2, code := some k2c26 }
def k2c27 : Code := { maxStack := 7, maxLocals := 11, code := prog_1_method_33_code, exceptionTable := #[], attributes := #[] }
def k2m27 : Method := { name := "emitBits", desc := "(III)I", sig := { parameters := [.int, .int, .int], returnType := some .int }, accessFlags := 2, code := some k2c27 }
def k2c28 : Code := { maxStack := 2, maxLocals := 6, code := prog_1_method_34_code, exceptionTable := #[], attributes := #[] }
def k2m28 : Method := { name := "findMaskSlot", desc := "(III)I", sig := { parameters := [.int, .int, .int], returnType := some .int }, accessFlags := 2, code := some k2c28 }
def k2c29 : Code := { maxStack := 3, maxLocals := 6, code := prog_1_method_36_code, exceptionTable := #[], attributes := #[] }
def k2m29 : Method := { name := "run", desc := "(I)I", sig := { parameters := [.int], returnType := some .int }, accessFlags := 2, code := some k2c29 }
def k2c30 : Code := { maxStack := 3, maxLocals := 4, code := prog_1_method_37_code, exceptionTable := #[], attributes := #[] }
def k2m30 : Method := { name := "runLeaf", desc := "(II)I", sig := { parameters := [.int, .int], returnType := some .int }, accessFlags := 2, code := some k2c30 }
def k2c31 : Code := { maxStack := 4, maxLocals := 3, code := prog_1_method_38_code, exceptionTable := #[], attributes := #[] }
def k2m31 : Method := { name := "unsignedOffset", desc := "(II)J", sig := { parameters := [.int, .int], returnType := some .long }, accessFlags := 2, code := some k2c31 }
def k2c32 : Code := { maxStack := 4, maxLocals := 10, code := prog_1_method_40_code, exceptionTable := #[], attributes := #[] }
def k2m32 : Method := { name := "runBits", desc := "(II)I", sig := { parameters := [.int, .int], returnType := some .int }, accessFlags := 2, code := some k2c32 }
def k2c33 : Code := { maxStack := 2, maxLocals := 6, code := prog_1_method_41_code, exceptionTable := #[], attributes := #[] }
def k2m33 : Method := { name := "nextCaseRouted", desc := "(II)J", sig := { parameters := [.int, .int], returnType := some .long }, accessFlags := 2, code := some k2c33 }
def k2c34 : Code := { maxStack := 2, maxLocals := 4, code := prog_1_method_42_code, exceptionTable := #[], attributes := #[] }
def k2m34 : Method := { name := "nextDefaultRouted", desc := "(I)J", sig := { parameters := [.int], returnType := some .long }, accessFlags := 2, code := some k2c34 }
def k2c35 : Code := { maxStack := 4, maxLocals := 11, code := prog_1_method_43_code, exceptionTable := #[], attributes := #[] }
def k2m35 : Method := { name := "countCaseHits", desc := "(IIIZ)J", sig := { parameters := [.int, .int, .int, .boolean], returnType := some .long }, accessFlags := 2, code := some k2c35 }
/-- SwitchLowererX -/
def k2 : Class := { plain "SwitchLowererX" (some 0) with
  accessFlags := 49
  interfaces := #[]
  cf := some (fileOf pool2 8 #[] #[{ accessFlags := 1, nameIndex := 5, descriptorIndex := 279, attributes := #[] }, { accessFlags := 1, nameIndex := 131, descriptorIndex := 6, attributes := #[] }, { accessFlags := 1, nameIndex := 285, descriptorIndex := 236, attributes := #[] }, { accessFlags := 1, nameIndex := 287, descriptorIndex := 172, attributes := #[] }, { accessFlags := 1, nameIndex := 288, descriptorIndex := 172, attributes := #[] }, { accessFlags := 1, nameIndex := 289, descriptorIndex := 283, attributes := #[] }, { accessFlags := 1, nameIndex := 292, descriptorIndex := 283, attributes := #[] }, { accessFlags := 1, nameIndex := 293, descriptorIndex := 172, attributes := #[] }, { accessFlags := 1, nameIndex := 294, descriptorIndex := 283, attributes := #[] }, { accessFlags := 1, nameIndex := 295, descriptorIndex := 296, attributes := #[] }, { accessFlags := 1, nameIndex := 297, descriptorIndex := 172, attributes := #[] }, { accessFlags := 1, nameIndex := 298, descriptorIndex := 200, attributes := #[] }, { accessFlags := 1, nameIndex := 299, descriptorIndex := 300, attributes := #[] }, { accessFlags := 2, nameIndex := 121, descriptorIndex := 122, attributes := #[] }, { accessFlags := 2, nameIndex := 171, descriptorIndex := 172, attributes := #[] }, { accessFlags := 2, nameIndex := 175, descriptorIndex := 172, attributes := #[] }, { accessFlags := 2, nameIndex := 260, descriptorIndex := 172, attributes := #[] }, { accessFlags := 2, nameIndex := 178, descriptorIndex := 6, attributes := #[] }, { accessFlags := 2, nameIndex := 181, descriptorIndex := 6, attributes := #[] }, { accessFlags := 2, nameIndex := 209, descriptorIndex := 210, attributes := #[] }, { accessFlags := 2, nameIndex := 184, descriptorIndex := 6, attributes := #[] }, { accessFlags := 2, nameIndex := 187, descriptorIndex := 6, attributes := #[] }, { accessFlags := 2, nameIndex := 221, descriptorIndex := 222, attributes := #[] }, { accessFlags := 2, nameIndex := 231, descriptorIndex := 232, attributes := #[] }, { accessFlags := 2, nameIndex := 217, descriptorIndex := 218, attributes := #[] }, { accessFlags := 2, nameIndex := 225, descriptorIndex := 172, attributes := #[] }, { accessFlags := 2, nameIndex := 235, descriptorIndex := 236, attributes := #[] }, { accessFlags := 2, nameIndex := 239, descriptorIndex := 122, attributes := #[] }, { accessFlags := 2, nameIndex := 245, descriptorIndex := 122, attributes := #[] }, { accessFlags := 2, nameIndex := 190, descriptorIndex := 172, attributes := #[] }, { accessFlags := 2, nameIndex := 248, descriptorIndex := 236, attributes := #[] }, { accessFlags := 2, nameIndex := 257, descriptorIndex := 200, attributes := #[] }, { accessFlags := 2, nameIndex := 254, descriptorIndex := 236, attributes := #[] }, { accessFlags := 2, nameIndex := 199, descriptorIndex := 200, attributes := #[] }, { accessFlags := 2, nameIndex := 195, descriptorIndex := 196, attributes := #[] }, { accessFlags := 2, nameIndex := 203, descriptorIndex := 204, attributes := #[] }] 49 2 #[] #[{ accessFlags := 25, nameIndex := 261, descriptorIndex := 12, attributes := #[] }, { accessFlags := 25, nameIndex := 264, descriptorIndex := 12, attributes := #[] }, { accessFlags := 25, nameIndex := 266, descriptorIndex := 12, attributes := #[] }, { accessFlags := 25, nameIndex := 268, descriptorIndex := 12, attributes := #[] }, { accessFlags := 25, nameIndex := 270, descriptorIndex := 12, attributes := #[] }, { accessFlags := 25, nameIndex := 272, descriptorIndex := 12, attributes := #[] }, { accessFlags := 25, nameIndex := 274, descriptorIndex := 12, attributes := #[] }, { accessFlags := 25, nameIndex := 275, descriptorIndex := 51, attributes := #[] }, { accessFlags := 18, nameIndex := 11, descriptorIndex := 12, attributes := #[] }, { accessFlags := 18, nameIndex := 15, descriptorIndex := 12, attributes := #[] }, { accessFlags := 18, nameIndex := 18, descriptorIndex := 12, attributes := #[] }, { accessFlags := 18, nameIndex := 21, descriptorIndex := 12, attributes := #[] }, { accessFlags := 18, nameIndex := 24, descriptorIndex := 12, attributes := #[] }, { accessFlags := 18, nameIndex := 27, descriptorIndex := 12, attributes := #[] }, { accessFlags := 18, nameIndex := 30, descriptorIndex := 12, attributes := #[] }, { accessFlags := 18, nameIndex := 33, descriptorIndex := 12, attributes := #[] }, { accessFlags := 18, nameIndex := 36, descriptorIndex := 12, attributes := #[] }, { accessFlags := 18, nameIndex := 39, descriptorIndex := 12, attributes := #[] }, { accessFlags := 18, nameIndex := 42, descriptorIndex := 12, attributes := #[] }, { accessFlags := 18, nameIndex := 45, descriptorIndex := 12, attributes := #[] }, { accessFlags := 18, nameIndex := 50, descriptorIndex := 51, attributes := #[] }, { accessFlags := 18, nameIndex := 55, descriptorIndex := 12, attributes := #[] }, { accessFlags := 2, nameIndex := 125, descriptorIndex := 12, attributes := #[] }, { accessFlags := 2, nameIndex := 128, descriptorIndex := 12, attributes := #[] }, { accessFlags := 18, nameIndex := 58, descriptorIndex := 59, attributes := #[] }, { accessFlags := 18, nameIndex := 62, descriptorIndex := 63, attributes := #[] }, { accessFlags := 2, nameIndex := 134, descriptorIndex := 12, attributes := #[] }, { accessFlags := 2, nameIndex := 137, descriptorIndex := 12, attributes := #[] }, { accessFlags := 2, nameIndex := 140, descriptorIndex := 141, attributes := #[] }, { accessFlags := 18, nameIndex := 66, descriptorIndex := 59, attributes := #[] }, { accessFlags := 18, nameIndex := 69, descriptorIndex := 63, attributes := #[] }, { accessFlags := 2, nameIndex := 144, descriptorIndex := 12, attributes := #[] }, { accessFlags := 2, nameIndex := 147, descriptorIndex := 12, attributes := #[] }, { accessFlags := 2, nameIndex := 150, descriptorIndex := 141, attributes := #[] }, { accessFlags := 18, nameIndex := 72, descriptorIndex := 59, attributes := #[] }, { accessFlags := 18, nameIndex := 75, descriptorIndex := 59, attributes := #[] }, { accessFlags := 18, nameIndex := 78, descriptorIndex := 59, attributes := #[] }, { accessFlags := 18, nameIndex := 81, descriptorIndex := 59, attributes := #[] }, { accessFlags := 2, nameIndex := 153, descriptorIndex := 12, attributes := #[] }, { accessFlags := 18, nameIndex := 84, descriptorIndex := 63, attributes := #[] }, { accessFlags := 18, nameIndex := 87, descriptorIndex := 59, attributes := #[] }, { accessFlags := 18, nameIndex := 90, descriptorIndex := 59, attributes := #[] }, { accessFlags := 18, nameIndex := 93, descriptorIndex := 59, attributes := #[] }, { accessFlags := 18, nameIndex := 96, descriptorIndex := 59, attributes := #[] }, { accessFlags := 2, nameIndex := 156, descriptorIndex := 12, attributes := #[] }, { accessFlags := 2, nameIndex := 159, descriptorIndex := 12, attributes := #[] }, { accessFlags := 18, nameIndex := 99, descriptorIndex := 63, attributes := #[] }, { accessFlags := 2, nameIndex := 162, descriptorIndex := 12, attributes := #[] }, { accessFlags := 18, nameIndex := 102, descriptorIndex := 103, attributes := #[] }, { accessFlags := 18, nameIndex := 106, descriptorIndex := 63, attributes := #[] }, { accessFlags := 2, nameIndex := 165, descriptorIndex := 12, attributes := #[] }, { accessFlags := 18, nameIndex := 109, descriptorIndex := 59, attributes := #[] }, { accessFlags := 18, nameIndex := 112, descriptorIndex := 59, attributes := #[] }, { accessFlags := 18, nameIndex := 115, descriptorIndex := 59, attributes := #[] }, { accessFlags := 18, nameIndex := 118, descriptorIndex := 59, attributes := #[] }, { accessFlags := 2, nameIndex := 168, descriptorIndex := 12, attributes := #[] }])
  fields := #[{ name := "OK", type := .int, accessFlags := 25, slot := 0, constantValue := 0 }, { name := "FULL", type := .int, accessFlags := 25, slot := 1, constantValue := 0 }, { name := "DUPLICATE", type := .int, accessFlags := 25, slot := 2, constantValue := 0 }, { name := "BAD_TARGET", type := .int, accessFlags := 25, slot := 3, constantValue := 0 }, { name := "ABSENT", type := .int, accessFlags := 25, slot := 4, constantValue := 0 }, { name := "NOT_LOWERED", type := .int, accessFlags := 25, slot := 5, constantValue := 0 }, { name := "NO_CASE", type := .int, accessFlags := 25, slot := 6, constantValue := 0 }, { name := "NONE", type := .long, accessFlags := 25, slot := 7, constantValue := 0 }, { name := "opRet", type := .int, accessFlags := 18, slot := 0, constantValue := 0 }, { name := "opLess", type := .int, accessFlags := 18, slot := 1, constantValue := 0 }, { name := "opEq", type := .int, accessFlags := 18, slot := 2, constantValue := 0 }, { name := "opTable", type := .int, accessFlags := 18, slot := 3, constantValue := 0 }, { name := "opBits", type := .int, accessFlags := 18, slot := 4, constantValue := 0 }, { name := "maxCap", type := .int, accessFlags := 18, slot := 5, constantValue := 0 }, { name := "maxTargets", type := .int, accessFlags := 18, slot := 6, constantValue := 0 }, { name := "maxSteps", type := .int, accessFlags := 18, slot := 7, constantValue := 0 }, { name := "tableSpanPerCase", type := .int, accessFlags := 18, slot := 8, constantValue := 0 }, { name := "maxTableSpan", type := .int, accessFlags := 18, slot := 9, constantValue := 0 }, { name := "maxBitSpan", type := .int, accessFlags := 18, slot := 10, constantValue := 0 }, { name := "maxBitTargets", type := .int, accessFlags := 18, slot := 11, constantValue := 0 }, { name := "unsignedMask", type := .long, accessFlags := 18, slot := 12, constantValue := 0 }, { name := "maxInt", type := .int, accessFlags := 18, slot := 13, constantValue := 0 }, { name := "cap", type := .int, accessFlags := 2, slot := 14, constantValue := 0 }, { name := "targets", type := .int, accessFlags := 2, slot := 15, constantValue := 0 }, { name := "curVal", type := (.array .int), accessFlags := 18, slot := 16, constantValue := 0 }, { name := "curTgt", type := (.array .byte), accessFlags := 18, slot := 17, constantValue := 0 }, { name := "curCount", type := .int, accessFlags := 2, slot := 18, constantValue := 0 }, { name := "curDefault", type := .int, accessFlags := 2, slot := 19, constantValue := 0 }, { name := "dirty", type := .boolean, accessFlags := 2, slot := 20, constantValue := 0 }, { name := "snapVal", type := (.array .int), accessFlags := 18, slot := 21, constantValue := 0 }, { name := "snapTgt", type := (.array .byte), accessFlags := 18, slot := 22, constantValue := 0 }, { name := "snapCount", type := .int, accessFlags := 2, slot := 23, constantValue := 0 }, { name := "snapDefault", type := .int, accessFlags := 2, slot := 24, constantValue := 0 }, { name := "hasSnap", type := .boolean, accessFlags := 2, slot := 25, constantValue := 0 }, { name := "bestCost", type := (.array .int), accessFlags := 18, slot := 26, constantValue := 0 }, { name := "bestCut", type := (.array .int), accessFlags := 18, slot := 27, constantValue := 0 }, { name := "clStart", type := (.array .int), accessFlags := 18, slot := 28, constantValue := 0 }, { name := "clEnd", type := (.array .int), accessFlags := 18, slot := 29, constantValue := 0 }, { name := "clCount", type := .int, accessFlags := 2, slot := 30, constantValue := 0 }, { name := "opc", type := (.array .byte), accessFlags := 18, slot := 31, constantValue := 0 }, { name := "argA", type := (.array .int), accessFlags := 18, slot := 32, constantValue := 0 }, { name := "argB", type := (.array .int), accessFlags := 18, slot := 33, constantValue := 0 }, { name := "argC", type := (.array .int), accessFlags := 18, slot := 34, constantValue := 0 }, { name := "argD", type := (.array .int), accessFlags := 18, slot := 35, constantValue := 0 }, { name := "codeLen", type := .int, accessFlags := 2, slot := 36, constantValue := 0 }, { name := "rootPc", type := .int, accessFlags := 2, slot := 37, constantValue := 0 }, { name := "tablePool", type := (.array .byte), accessFlags := 18, slot := 38, constantValue := 0 }, { name := "tableUsed", type := .int, accessFlags := 2, slot := 39, constantValue := 0 }, { name := "maskPool", type := (.array .long), accessFlags := 18, slot := 40, constantValue := 0 }, { name := "maskTarget", type := (.array .byte), accessFlags := 18, slot := 41, constantValue := 0 }, { name := "maskUsed", type := .int, accessFlags := 2, slot := 42, constantValue := 0 }, { name := "stLo", type := (.array .int), accessFlags := 18, slot := 43, constantValue := 0 }, { name := "stHi", type := (.array .int), accessFlags := 18, slot := 44, constantValue := 0 }, { name := "stParent", type := (.array .int), accessFlags := 18, slot := 45, constantValue := 0 }, { name := "stSlot", type := (.array .int), accessFlags := 18, slot := 46, constantValue := 0 }, { name := "sp", type := .int, accessFlags := 2, slot := 47, constantValue := 0 }]
  methods := #[k2m0, k2m1, k2m2, k2m3, k2m4, k2m5, k2m6, k2m7, k2m8, k2m9, k2m10, k2m11, k2m12, k2m13, k2m14, k2m15, k2m16, k2m17, k2m18, k2m19, k2m20, k2m21, k2m22, k2m23, k2m24, k2m25, k2m26, k2m27, k2m28, k2m29, k2m30, k2m31, k2m32, k2m33, k2m34, k2m35]
  instanceTypes := #[.int, .int, .int, .int, .int, .int, .int, .int, .int, .int, .int, .int, .long, .int, .int, .int, (.array .int), (.array .byte), .int, .int, .boolean, (.array .int), (.array .byte), .int, .int, .boolean, (.array .int), (.array .int), (.array .int), (.array .int), .int, (.array .byte), (.array .int), (.array .int), (.array .int), (.array .int), .int, .int, (.array .byte), .int, (.array .long), (.array .byte), .int, (.array .int), (.array .int), (.array .int), (.array .int), .int]
  staticTypes := #[.int, .int, .int, .int, .int, .int, .int, .long]
  resolved := Array.replicate 303 none
  statics := none }

def pool3 : Array CpInfo := pool [(1, u "java/lang/Cloneable"), (0, .class_ 1), (0, u "java/lang/Object"), (0, .class_ 3)] 3

/-- java/lang/Cloneable -/
def k3 : Class := { plain "java/lang/Cloneable" (some 0) with
  accessFlags := 1537
  interfaces := #[]
  cf := some (fileOf pool3 2 #[] #[] 1537 4 #[] #[])
  fields := #[]
  methods := #[]
  instanceTypes := #[]
  staticTypes := #[]
  resolved := Array.replicate 8 none
  statics := none }

def pool4 : Array CpInfo := pool [(1, u "java/io/Serializable"), (0, .class_ 1), (0, u "java/lang/Object"), (0, .class_ 3)] 3

/-- java/io/Serializable -/
def k4 : Class := { plain "java/io/Serializable" (some 0) with
  accessFlags := 1537
  interfaces := #[]
  cf := some (fileOf pool4 2 #[] #[] 1537 4 #[] #[])
  fields := #[]
  methods := #[]
  instanceTypes := #[]
  staticTypes := #[]
  resolved := Array.replicate 8 none
  statics := none }

/-- the primitive byte -/
def k5 : Class := { plain "byte" none with kind := .primitive 'B', accessFlags := 0x411 }
/-- [B -/
def k6 : Class := { plain "[B" (some 0) with kind := .array 5 .byte, interfaces := #[3, 4], accessFlags := 1041 }

/-- the primitive int -/
def k7 : Class := { plain "int" none with kind := .primitive 'I', accessFlags := 0x411 }
/-- [I -/
def k8 : Class := { plain "[I" (some 0) with kind := .array 7 .int, interfaces := #[3, 4], accessFlags := 1041 }

/-- the primitive long -/
def k9 : Class := { plain "long" none with kind := .primitive 'J', accessFlags := 0x411 }
/-- [J -/
def k10 : Class := { plain "[J" (some 0) with kind := .array 9 .long, interfaces := #[3, 4], accessFlags := 1041 }

def heap : Heap := #[{ cls := 8, slots := #[.int 1, .int 2, .int 3], vm := .none }]
def classes : Array Class := #[k0, k1, k2, k3, k4, k5, k6, k7, k8, k9, k10]
def interned : List (Array UInt16 × Addr) := []
def slotsUsed : Nat := 3
def theMethod : MethodId := ⟨1, 1⟩
def args0 : Array Value := #[.ref 0]
def aboutOver (below : List Frame) : State where
  vm := { classes := classes, interned := interned.toArray }
  heap := heap
  slotsUsed := slotsUsed
  threads := #[{ frames := .invoking theMethod args0 :: below }]
def below0 : List Frame := [.native { method := ⟨0, 0⟩, args := #[] }]
def about1 : State := aboutOver below0
def p0 : Program := .bare "" "" ""
def e0 : Env := launch0.env 0 0 0
theorem w_frames : about1.frames = Frame.invoking theMethod args0 :: below0 := rfl
set_option maxRecDepth 65536 in
theorem w_args : argsFit about1.vm theMethod args0 = true := by decide +kernel
set_option maxRecDepth 65536 in
theorem w_heap : heapFits about1 = true := by decide +kernel
set_option maxRecDepth 65536 in
theorem w_runnable : about1.curStatus? = some .runnable := by decide +kernel
set_option maxRecDepth 65536 in
theorem w_alone : about1.alone = true := by decide +kernel
set_option maxRecDepth 65536 in
theorem w_named : about1.methodNamed? x = some theMethod := by decide +kernel
set_option maxRecDepth 65536 in
theorem w_hears : about1.hears theMethod below0 = true := by decide +kernel
set_option maxRecDepth 65536 in
theorem w_ripe : about1.ripe theMethod args0 below0 = true := by decide +kernel
theorem w_running : about1.status = .running := rfl
set_option maxRecDepth 65536 in
theorem w_room : about1.hasRoom e0.platform room_1 = true :=
  launch0.hasRoom_least _ room_1 (by decide +kernel) (by decide +kernel) (by decide +kernel) (by decide +kernel) (by decide +kernel) (by decide +kernel)
theorem allAtoms_all (ts : List Jvm.Cond) (a : Array Jvm.Value) (st : Jvm.State) : (allAtoms ts).before a st = ts.all (fun c => c.before a st) := by
  induction ts with
  | nil => rfl
  | cons c t ih =>
    show (Jvm.Cond.and c (allAtoms t)).before a st = _
    rw [Jvm.Cond.before_and, ih, List.all_cons]
def words1 : List Jvm.Cond := Jvm.Cond.code x code maxLocals ret :: tables_1
/-- a 'code' word, met by the world's own term for the bytes: nothing is compared byte by byte -/
theorem code_word {y : MethodName} {bytes : ByteArray} {mx : Nat} {rt : Option FieldType} {a : Array Value} {s : State} {m : MethodId} {meth : Method} {c : Code} (h1 : s.methodNamed? y = some m) (h2 : s.vm.method? m = some meth) (h3 : meth.code = some c) (h4 : c.code = bytes)
    (h5 : (c.maxLocals == mx && c.exceptionTable.isEmpty && decide (c.maxStack ≤ mostOperands) && decide (meth.sig.returnType = rt) && !meth.locks && decide (parseMethodDescriptor y.desc = some meth.sig)) = true) : (Jvm.Cond.code y bytes mx rt).before a s = true := by
  simp only [Bool.and_eq_true, beq_iff_eq, Bool.not_eq_true', decide_eq_true_eq] at h5
  obtain ⟨⟨⟨⟨⟨g1, g2⟩, g3⟩, g4⟩, g5⟩, g6⟩ := h5
  simp [Cond.before, Cond.holds, Cond.value, h1, h2, h3, h4, g1, g2, g3, g4, g5, g6]
def isCode : Jvm.Cond → Bool
  | .code _ _ _ _ => true
  | _ => false
theorem all_split {L : List Jvm.Cond} {P : Jvm.Cond → Bool} (h1 : L.all (fun c => isCode c || P c) = true) (h2 : ∀ c ∈ L.filter isCode, P c = true) : L.all P = true := by
  refine List.all_eq_true.mpr fun c hc => ?_
  have h := List.all_eq_true.mp h1 c hc
  rcases Bool.eq_false_or_eq_true (isCode c) with hi | hi
  · exact h2 c (List.mem_filter.mpr ⟨hc, hi⟩)
  · simpa [hi] using h
set_option maxRecDepth 65536 in
theorem w_c0 : (Jvm.Cond.code x code maxLocals ret).before args0 about1 = true := code_word (m := ⟨1, 1⟩) (meth := k1m1) (c := k1c1) (by decide +kernel) rfl rfl rfl (by decide +kernel)
set_option maxRecDepth 65536 in
theorem w_c1 : (Jvm.Cond.code ({ cls := "SwitchLowererX", name := "<init>", desc := "(II)V" } : Jvm.MethodName) prog_1_method_1_code (3 : Nat) (Option.none : Option Jvm.ClassFile.FieldType)).before args0 about1 = true := code_word (m := ⟨2, 0⟩) (meth := k2m0) (c := k2c0) (by decide +kernel) rfl rfl rfl (by decide +kernel)
set_option maxRecDepth 65536 in
theorem w_c2 : (Jvm.Cond.code ({ cls := "java/lang/Object", name := "<init>", desc := "()V" } : Jvm.MethodName) object_method_1_code (1 : Nat) (Option.none : Option Jvm.ClassFile.FieldType)).before args0 about1 = true := code_word (m := ⟨0, 0⟩) (meth := k0m0) (c := k0c0) (by decide +kernel) rfl rfl rfl (by decide +kernel)
set_option maxRecDepth 65536 in
theorem w_c3 : (Jvm.Cond.code ({ cls := "SwitchLowererX", name := "clamp", desc := "(III)I" } : Jvm.MethodName) prog_1_method_18_code (4 : Nat) (Option.some Jvm.ClassFile.FieldType.int)).before args0 about1 = true := code_word (m := ⟨2, 13⟩) (meth := k2m13) (c := k2c13) (by decide +kernel) rfl rfl rfl (by decide +kernel)
set_option maxRecDepth 65536 in
theorem w_c4 : (Jvm.Cond.code ({ cls := "SwitchLowererX", name := "reset", desc := "()V" } : Jvm.MethodName) prog_1_method_4_code (1 : Nat) (Option.none : Option Jvm.ClassFile.FieldType)).before args0 about1 = true := code_word (m := ⟨2, 1⟩) (meth := k2m1) (c := k2c1) (by decide +kernel) rfl rfl rfl (by decide +kernel)
set_option maxRecDepth 65536 in
theorem w_c5 : (Jvm.Cond.code ({ cls := "SwitchLowererX", name := "caseCount", desc := "()I" } : Jvm.MethodName) prog_1_method_8_code (1 : Nat) (Option.some Jvm.ClassFile.FieldType.int)).before args0 about1 = true := code_word (m := ⟨2, 5⟩) (meth := k2m5) (c := k2c5) (by decide +kernel) rfl rfl rfl (by decide +kernel)
set_option maxRecDepth 65536 in
theorem w_c6 : (Jvm.Cond.code ({ cls := "SwitchLowererX", name := "defaultTarget", desc := "()I" } : Jvm.MethodName) prog_1_method_11_code (1 : Nat) (Option.some Jvm.ClassFile.FieldType.int)).before args0 about1 = true := code_word (m := ⟨2, 6⟩) (meth := k2m6) (c := k2c6) (by decide +kernel) rfl rfl rfl (by decide +kernel)
set_option maxRecDepth 65536 in
theorem w_c7 : (Jvm.Cond.code ({ cls := "SwitchLowererX", name := "isCurrent", desc := "()Z" } : Jvm.MethodName) prog_1_method_14_code (1 : Nat) (Option.some Jvm.ClassFile.FieldType.boolean)).before args0 about1 = true := code_word (m := ⟨2, 9⟩) (meth := k2m9) (c := k2c9) (by decide +kernel) rfl rfl rfl (by decide +kernel)
set_option maxRecDepth 65536 in
theorem w_c8 : (Jvm.Cond.code ({ cls := "SwitchLowererX", name := "route", desc := "(I)I" } : Jvm.MethodName) prog_1_method_15_code (2 : Nat) (Option.some Jvm.ClassFile.FieldType.int)).before args0 about1 = true := code_word (m := ⟨2, 10⟩) (meth := k2m10) (c := k2c10) (by decide +kernel) rfl rfl rfl (by decide +kernel)
set_option maxRecDepth 65536 in
theorem w_c9 : (Jvm.Cond.code ({ cls := "SwitchLowererX", name := "lookup", desc := "(I)I" } : Jvm.MethodName) prog_1_method_12_code (3 : Nat) (Option.some Jvm.ClassFile.FieldType.int)).before args0 about1 = true := code_word (m := ⟨2, 7⟩) (meth := k2m7) (c := k2c7) (by decide +kernel) rfl rfl rfl (by decide +kernel)
set_option maxRecDepth 65536 in
theorem w_c10 : (Jvm.Cond.code ({ cls := "SwitchLowererX", name := "curIndexOf", desc := "(I)I" } : Jvm.MethodName) prog_1_method_20_code (3 : Nat) (Option.some Jvm.ClassFile.FieldType.int)).before args0 about1 = true := code_word (m := ⟨2, 15⟩) (meth := k2m15) (c := k2c15) (by decide +kernel) rfl rfl rfl (by decide +kernel)
set_option maxRecDepth 65536 in
theorem w_c11 : (Jvm.Cond.code ({ cls := "SwitchLowererX", name := "curLowerBound", desc := "(I)I" } : Jvm.MethodName) prog_1_method_19_code (6 : Nat) (Option.some Jvm.ClassFile.FieldType.int)).before args0 about1 = true := code_word (m := ⟨2, 14⟩) (meth := k2m14) (c := k2c14) (by decide +kernel) rfl rfl rfl (by decide +kernel)
set_option maxRecDepth 65536 in
theorem w_c12 : (Jvm.Cond.code ({ cls := "SwitchLowererX", name := "addCase", desc := "(II)I" } : Jvm.MethodName) prog_1_method_5_code (5 : Nat) (Option.some Jvm.ClassFile.FieldType.int)).before args0 about1 = true := code_word (m := ⟨2, 2⟩) (meth := k2m2) (c := k2c2) (by decide +kernel) rfl rfl rfl (by decide +kernel)
set_option maxRecDepth 65536 in
theorem w_c13 : (Jvm.Cond.code ({ cls := "SwitchLowererX", name := "lower", desc := "()I" } : Jvm.MethodName) prog_1_method_13_code (1 : Nat) (Option.some Jvm.ClassFile.FieldType.int)).before args0 about1 = true := code_word (m := ⟨2, 8⟩) (meth := k2m8) (c := k2c8) (by decide +kernel) rfl rfl rfl (by decide +kernel)
set_option maxRecDepth 65536 in
theorem w_c14 : (Jvm.Cond.code ({ cls := "SwitchLowererX", name := "takeSnapshot", desc := "()V" } : Jvm.MethodName) prog_1_method_22_code (2 : Nat) (Option.none : Option Jvm.ClassFile.FieldType)).before args0 about1 = true := code_word (m := ⟨2, 17⟩) (meth := k2m17) (c := k2c17) (by decide +kernel) rfl rfl rfl (by decide +kernel)
set_option maxRecDepth 65536 in
theorem w_c15 : (Jvm.Cond.code ({ cls := "SwitchLowererX", name := "planClusters", desc := "()V" } : Jvm.MethodName) prog_1_method_23_code (10 : Nat) (Option.none : Option Jvm.ClassFile.FieldType)).before args0 about1 = true := code_word (m := ⟨2, 18⟩) (meth := k2m18) (c := k2c18) (by decide +kernel) rfl rfl rfl (by decide +kernel)
set_option maxRecDepth 65536 in
theorem w_c16 : (Jvm.Cond.code ({ cls := "SwitchLowererX", name := "clusterFits", desc := "(JII)Z" } : Jvm.MethodName) prog_1_method_24_code (7 : Nat) (Option.some Jvm.ClassFile.FieldType.boolean)).before args0 about1 = true := code_word (m := ⟨2, 19⟩) (meth := k2m19) (c := k2c19) (by decide +kernel) rfl rfl rfl (by decide +kernel)
set_option maxRecDepth 65536 in
theorem w_c17 : (Jvm.Cond.code ({ cls := "SwitchLowererX", name := "collectClusters", desc := "()V" } : Jvm.MethodName) prog_1_method_25_code (6 : Nat) (Option.none : Option Jvm.ClassFile.FieldType)).before args0 about1 = true := code_word (m := ⟨2, 20⟩) (meth := k2m20) (c := k2c20) (by decide +kernel) rfl rfl rfl (by decide +kernel)
set_option maxRecDepth 65536 in
theorem w_c18 : (Jvm.Cond.code ({ cls := "SwitchLowererX", name := "buildTree", desc := "()V" } : Jvm.MethodName) prog_1_method_26_code (9 : Nat) (Option.none : Option Jvm.ClassFile.FieldType)).before args0 about1 = true := code_word (m := ⟨2, 21⟩) (meth := k2m21) (c := k2c21) (by decide +kernel) rfl rfl rfl (by decide +kernel)
set_option maxRecDepth 65536 in
theorem w_c19 : (Jvm.Cond.code ({ cls := "SwitchLowererX", name := "emit", desc := "(IIIII)I" } : Jvm.MethodName) prog_1_method_29_code (7 : Nat) (Option.some Jvm.ClassFile.FieldType.int)).before args0 about1 = true := code_word (m := ⟨2, 24⟩) (meth := k2m24) (c := k2c24) (by decide +kernel) rfl rfl rfl (by decide +kernel)
set_option maxRecDepth 65536 in
theorem w_c20 : (Jvm.Cond.code ({ cls := "SwitchLowererX", name := "push", desc := "(IIII)V" } : Jvm.MethodName) prog_1_method_27_code (5 : Nat) (Option.none : Option Jvm.ClassFile.FieldType)).before args0 about1 = true := code_word (m := ⟨2, 22⟩) (meth := k2m22) (c := k2c22) (by decide +kernel) rfl rfl rfl (by decide +kernel)
set_option maxRecDepth 65536 in
theorem w_c21 : (Jvm.Cond.code ({ cls := "SwitchLowererX", name := "emitLeaf", desc := "(I)I" } : Jvm.MethodName) prog_1_method_31_code (7 : Nat) (Option.some Jvm.ClassFile.FieldType.int)).before args0 about1 = true := code_word (m := ⟨2, 25⟩) (meth := k2m25) (c := k2c25) (by decide +kernel) rfl rfl rfl (by decide +kernel)
set_option maxRecDepth 65536 in
theorem w_c22 : (Jvm.Cond.code ({ cls := "SwitchLowererX", name := "distinctTargets", desc := "(II)I" } : Jvm.MethodName) prog_1_method_32_code (7 : Nat) (Option.some Jvm.ClassFile.FieldType.int)).before args0 about1 = true := code_word (m := ⟨2, 26⟩) (meth := k2m26) (c := k2c26) (by decide +kernel) rfl rfl rfl (by decide +kernel)
set_option maxRecDepth 65536 in
theorem w_c23 : (Jvm.Cond.code ({ cls := "SwitchLowererX", name := "emitBits", desc := "(III)I" } : Jvm.MethodName) prog_1_method_33_code (11 : Nat) (Option.some Jvm.ClassFile.FieldType.int)).before args0 about1 = true := code_word (m := ⟨2, 27⟩) (meth := k2m27) (c := k2c27) (by decide +kernel) rfl rfl rfl (by decide +kernel)
set_option maxRecDepth 65536 in
theorem w_c24 : (Jvm.Cond.code ({ cls := "SwitchLowererX", name := "findMaskSlot", desc := "(III)I" } : Jvm.MethodName) prog_1_method_34_code (6 : Nat) (Option.some Jvm.ClassFile.FieldType.int)).before args0 about1 = true := code_word (m := ⟨2, 28⟩) (meth := k2m28) (c := k2c28) (by decide +kernel) rfl rfl rfl (by decide +kernel)
set_option maxRecDepth 65536 in
theorem w_c25 : (Jvm.Cond.code ({ cls := "SwitchLowererX", name := "patch", desc := "(III)V" } : Jvm.MethodName) prog_1_method_28_code (4 : Nat) (Option.none : Option Jvm.ClassFile.FieldType)).before args0 about1 = true := code_word (m := ⟨2, 23⟩) (meth := k2m23) (c := k2c23) (by decide +kernel) rfl rfl rfl (by decide +kernel)
set_option maxRecDepth 65536 in
theorem w_c26 : (Jvm.Cond.code ({ cls := "SwitchLowererX", name := "routedCount", desc := "(III)J" } : Jvm.MethodName) prog_1_method_17_code (9 : Nat) (Option.some Jvm.ClassFile.FieldType.long)).before args0 about1 = true := code_word (m := ⟨2, 12⟩) (meth := k2m12) (c := k2c12) (by decide +kernel) rfl rfl rfl (by decide +kernel)
set_option maxRecDepth 65536 in
theorem w_c27 : (Jvm.Cond.code ({ cls := "SwitchLowererX", name := "countCaseHits", desc := "(IIIZ)J" } : Jvm.MethodName) prog_1_method_43_code (11 : Nat) (Option.some Jvm.ClassFile.FieldType.long)).before args0 about1 = true := code_word (m := ⟨2, 35⟩) (meth := k2m35) (c := k2c35) (by decide +kernel) rfl rfl rfl (by decide +kernel)
set_option maxRecDepth 65536 in
theorem w_c28 : (Jvm.Cond.code ({ cls := "SwitchLowererX", name := "snapLowerBound", desc := "(I)I" } : Jvm.MethodName) prog_1_method_21_code (6 : Nat) (Option.some Jvm.ClassFile.FieldType.int)).before args0 about1 = true := code_word (m := ⟨2, 16⟩) (meth := k2m16) (c := k2c16) (by decide +kernel) rfl rfl rfl (by decide +kernel)
set_option maxRecDepth 65536 in
theorem w_c29 : (Jvm.Cond.code ({ cls := "SwitchLowererX", name := "run", desc := "(I)I" } : Jvm.MethodName) prog_1_method_36_code (6 : Nat) (Option.some Jvm.ClassFile.FieldType.int)).before args0 about1 = true := code_word (m := ⟨2, 29⟩) (meth := k2m29) (c := k2c29) (by decide +kernel) rfl rfl rfl (by decide +kernel)
set_option maxRecDepth 65536 in
theorem w_c30 : (Jvm.Cond.code ({ cls := "SwitchLowererX", name := "runLeaf", desc := "(II)I" } : Jvm.MethodName) prog_1_method_37_code (4 : Nat) (Option.some Jvm.ClassFile.FieldType.int)).before args0 about1 = true := code_word (m := ⟨2, 30⟩) (meth := k2m30) (c := k2c30) (by decide +kernel) rfl rfl rfl (by decide +kernel)
set_option maxRecDepth 65536 in
theorem w_c31 : (Jvm.Cond.code ({ cls := "SwitchLowererX", name := "runBits", desc := "(II)I" } : Jvm.MethodName) prog_1_method_40_code (10 : Nat) (Option.some Jvm.ClassFile.FieldType.int)).before args0 about1 = true := code_word (m := ⟨2, 32⟩) (meth := k2m32) (c := k2c32) (by decide +kernel) rfl rfl rfl (by decide +kernel)
set_option maxRecDepth 65536 in
theorem w_c32 : (Jvm.Cond.code ({ cls := "SwitchLowererX", name := "unsignedOffset", desc := "(II)J" } : Jvm.MethodName) prog_1_method_38_code (3 : Nat) (Option.some Jvm.ClassFile.FieldType.long)).before args0 about1 = true := code_word (m := ⟨2, 31⟩) (meth := k2m31) (c := k2c31) (by decide +kernel) rfl rfl rfl (by decide +kernel)
set_option maxRecDepth 65536 in
theorem w_c33 : (Jvm.Cond.code ({ cls := "SwitchLowererX", name := "nextRouted", desc := "(II)J" } : Jvm.MethodName) prog_1_method_16_code (3 : Nat) (Option.some Jvm.ClassFile.FieldType.long)).before args0 about1 = true := code_word (m := ⟨2, 11⟩) (meth := k2m11) (c := k2c11) (by decide +kernel) rfl rfl rfl (by decide +kernel)
set_option maxRecDepth 65536 in
theorem w_c34 : (Jvm.Cond.code ({ cls := "SwitchLowererX", name := "nextDefaultRouted", desc := "(I)J" } : Jvm.MethodName) prog_1_method_42_code (4 : Nat) (Option.some Jvm.ClassFile.FieldType.long)).before args0 about1 = true := code_word (m := ⟨2, 34⟩) (meth := k2m34) (c := k2c34) (by decide +kernel) rfl rfl rfl (by decide +kernel)
set_option maxRecDepth 65536 in
theorem w_c35 : (Jvm.Cond.code ({ cls := "SwitchLowererX", name := "nextCaseRouted", desc := "(II)J" } : Jvm.MethodName) prog_1_method_41_code (6 : Nat) (Option.some Jvm.ClassFile.FieldType.long)).before args0 about1 = true := code_word (m := ⟨2, 33⟩) (meth := k2m33) (c := k2c33) (by decide +kernel) rfl rfl rfl (by decide +kernel)
set_option maxRecDepth 65536 in
theorem w_c36 : (Jvm.Cond.code ({ cls := "SwitchLowererX", name := "setDefault", desc := "(I)I" } : Jvm.MethodName) prog_1_method_7_code (2 : Nat) (Option.some Jvm.ClassFile.FieldType.int)).before args0 about1 = true := code_word (m := ⟨2, 4⟩) (meth := k2m4) (c := k2c4) (by decide +kernel) rfl rfl rfl (by decide +kernel)
set_option maxRecDepth 65536 in
theorem w_c37 : (Jvm.Cond.code ({ cls := "SwitchLowererX", name := "removeCase", desc := "(I)I" } : Jvm.MethodName) prog_1_method_6_code (4 : Nat) (Option.some Jvm.ClassFile.FieldType.int)).before args0 about1 = true := code_word (m := ⟨2, 3⟩) (meth := k2m3) (c := k2c3) (by decide +kernel) rfl rfl rfl (by decide +kernel)
def codes1 : List Jvm.Cond := [Jvm.Cond.code x code maxLocals ret, Jvm.Cond.code ({ cls := "SwitchLowererX", name := "<init>", desc := "(II)V" } : Jvm.MethodName) prog_1_method_1_code (3 : Nat) (Option.none : Option Jvm.ClassFile.FieldType), Jvm.Cond.code ({ cls := "java/lang/Object", name := "<init>", desc := "()V" } : Jvm.MethodName) object_method_1_code (1 : Nat) (Option.none : Option Jvm.ClassFile.FieldType), Jvm.Cond.code ({ cls := "SwitchLowererX", name := "clamp", desc := "(III)I" } : Jvm.MethodName) prog_1_method_18_code (4 : Nat) (Option.some Jvm.ClassFile.FieldType.int), Jvm.Cond.code ({ cls := "SwitchLowererX", name := "reset", desc := "()V" } : Jvm.MethodName) prog_1_method_4_code (1 : Nat) (Option.none : Option Jvm.ClassFile.FieldType), Jvm.Cond.code ({ cls := "SwitchLowererX", name := "caseCount", desc := "()I" } : Jvm.MethodName) prog_1_method_8_code (1 : Nat) (Option.some Jvm.ClassFile.FieldType.int), Jvm.Cond.code ({ cls := "SwitchLowererX", name := "defaultTarget", desc := "()I" } : Jvm.MethodName) prog_1_method_11_code (1 : Nat) (Option.some Jvm.ClassFile.FieldType.int), Jvm.Cond.code ({ cls := "SwitchLowererX", name := "isCurrent", desc := "()Z" } : Jvm.MethodName) prog_1_method_14_code (1 : Nat) (Option.some Jvm.ClassFile.FieldType.boolean), Jvm.Cond.code ({ cls := "SwitchLowererX", name := "route", desc := "(I)I" } : Jvm.MethodName) prog_1_method_15_code (2 : Nat) (Option.some Jvm.ClassFile.FieldType.int), Jvm.Cond.code ({ cls := "SwitchLowererX", name := "lookup", desc := "(I)I" } : Jvm.MethodName) prog_1_method_12_code (3 : Nat) (Option.some Jvm.ClassFile.FieldType.int), Jvm.Cond.code ({ cls := "SwitchLowererX", name := "curIndexOf", desc := "(I)I" } : Jvm.MethodName) prog_1_method_20_code (3 : Nat) (Option.some Jvm.ClassFile.FieldType.int), Jvm.Cond.code ({ cls := "SwitchLowererX", name := "curLowerBound", desc := "(I)I" } : Jvm.MethodName) prog_1_method_19_code (6 : Nat) (Option.some Jvm.ClassFile.FieldType.int), Jvm.Cond.code ({ cls := "SwitchLowererX", name := "addCase", desc := "(II)I" } : Jvm.MethodName) prog_1_method_5_code (5 : Nat) (Option.some Jvm.ClassFile.FieldType.int), Jvm.Cond.code ({ cls := "SwitchLowererX", name := "lower", desc := "()I" } : Jvm.MethodName) prog_1_method_13_code (1 : Nat) (Option.some Jvm.ClassFile.FieldType.int), Jvm.Cond.code ({ cls := "SwitchLowererX", name := "takeSnapshot", desc := "()V" } : Jvm.MethodName) prog_1_method_22_code (2 : Nat) (Option.none : Option Jvm.ClassFile.FieldType), Jvm.Cond.code ({ cls := "SwitchLowererX", name := "planClusters", desc := "()V" } : Jvm.MethodName) prog_1_method_23_code (10 : Nat) (Option.none : Option Jvm.ClassFile.FieldType), Jvm.Cond.code ({ cls := "SwitchLowererX", name := "clusterFits", desc := "(JII)Z" } : Jvm.MethodName) prog_1_method_24_code (7 : Nat) (Option.some Jvm.ClassFile.FieldType.boolean), Jvm.Cond.code ({ cls := "SwitchLowererX", name := "collectClusters", desc := "()V" } : Jvm.MethodName) prog_1_method_25_code (6 : Nat) (Option.none : Option Jvm.ClassFile.FieldType), Jvm.Cond.code ({ cls := "SwitchLowererX", name := "buildTree", desc := "()V" } : Jvm.MethodName) prog_1_method_26_code (9 : Nat) (Option.none : Option Jvm.ClassFile.FieldType), Jvm.Cond.code ({ cls := "SwitchLowererX", name := "emit", desc := "(IIIII)I" } : Jvm.MethodName) prog_1_method_29_code (7 : Nat) (Option.some Jvm.ClassFile.FieldType.int), Jvm.Cond.code ({ cls := "SwitchLowererX", name := "push", desc := "(IIII)V" } : Jvm.MethodName) prog_1_method_27_code (5 : Nat) (Option.none : Option Jvm.ClassFile.FieldType), Jvm.Cond.code ({ cls := "SwitchLowererX", name := "emitLeaf", desc := "(I)I" } : Jvm.MethodName) prog_1_method_31_code (7 : Nat) (Option.some Jvm.ClassFile.FieldType.int), Jvm.Cond.code ({ cls := "SwitchLowererX", name := "distinctTargets", desc := "(II)I" } : Jvm.MethodName) prog_1_method_32_code (7 : Nat) (Option.some Jvm.ClassFile.FieldType.int), Jvm.Cond.code ({ cls := "SwitchLowererX", name := "emitBits", desc := "(III)I" } : Jvm.MethodName) prog_1_method_33_code (11 : Nat) (Option.some Jvm.ClassFile.FieldType.int), Jvm.Cond.code ({ cls := "SwitchLowererX", name := "findMaskSlot", desc := "(III)I" } : Jvm.MethodName) prog_1_method_34_code (6 : Nat) (Option.some Jvm.ClassFile.FieldType.int), Jvm.Cond.code ({ cls := "SwitchLowererX", name := "patch", desc := "(III)V" } : Jvm.MethodName) prog_1_method_28_code (4 : Nat) (Option.none : Option Jvm.ClassFile.FieldType), Jvm.Cond.code ({ cls := "SwitchLowererX", name := "routedCount", desc := "(III)J" } : Jvm.MethodName) prog_1_method_17_code (9 : Nat) (Option.some Jvm.ClassFile.FieldType.long), Jvm.Cond.code ({ cls := "SwitchLowererX", name := "countCaseHits", desc := "(IIIZ)J" } : Jvm.MethodName) prog_1_method_43_code (11 : Nat) (Option.some Jvm.ClassFile.FieldType.long), Jvm.Cond.code ({ cls := "SwitchLowererX", name := "snapLowerBound", desc := "(I)I" } : Jvm.MethodName) prog_1_method_21_code (6 : Nat) (Option.some Jvm.ClassFile.FieldType.int), Jvm.Cond.code ({ cls := "SwitchLowererX", name := "run", desc := "(I)I" } : Jvm.MethodName) prog_1_method_36_code (6 : Nat) (Option.some Jvm.ClassFile.FieldType.int), Jvm.Cond.code ({ cls := "SwitchLowererX", name := "runLeaf", desc := "(II)I" } : Jvm.MethodName) prog_1_method_37_code (4 : Nat) (Option.some Jvm.ClassFile.FieldType.int), Jvm.Cond.code ({ cls := "SwitchLowererX", name := "runBits", desc := "(II)I" } : Jvm.MethodName) prog_1_method_40_code (10 : Nat) (Option.some Jvm.ClassFile.FieldType.int), Jvm.Cond.code ({ cls := "SwitchLowererX", name := "unsignedOffset", desc := "(II)J" } : Jvm.MethodName) prog_1_method_38_code (3 : Nat) (Option.some Jvm.ClassFile.FieldType.long), Jvm.Cond.code ({ cls := "SwitchLowererX", name := "nextRouted", desc := "(II)J" } : Jvm.MethodName) prog_1_method_16_code (3 : Nat) (Option.some Jvm.ClassFile.FieldType.long), Jvm.Cond.code ({ cls := "SwitchLowererX", name := "nextDefaultRouted", desc := "(I)J" } : Jvm.MethodName) prog_1_method_42_code (4 : Nat) (Option.some Jvm.ClassFile.FieldType.long), Jvm.Cond.code ({ cls := "SwitchLowererX", name := "nextCaseRouted", desc := "(II)J" } : Jvm.MethodName) prog_1_method_41_code (6 : Nat) (Option.some Jvm.ClassFile.FieldType.long), Jvm.Cond.code ({ cls := "SwitchLowererX", name := "setDefault", desc := "(I)I" } : Jvm.MethodName) prog_1_method_7_code (2 : Nat) (Option.some Jvm.ClassFile.FieldType.int), Jvm.Cond.code ({ cls := "SwitchLowererX", name := "removeCase", desc := "(I)I" } : Jvm.MethodName) prog_1_method_6_code (4 : Nat) (Option.some Jvm.ClassFile.FieldType.int)]
set_option maxRecDepth 65536 in
theorem codes_eq : words1.filter isCode = codes1 := rfl
theorem w_codes : ∀ c ∈ words1.filter isCode, c.before args0 about1 = true := by
  rw [codes_eq]
  intro c hc
  simp only [codes1, List.mem_cons, List.not_mem_nil, or_false] at hc
  rcases hc with rfl | rfl | rfl | rfl | rfl | rfl | rfl | rfl | rfl | rfl | rfl | rfl | rfl | rfl | rfl | rfl | rfl | rfl | rfl | rfl | rfl | rfl | rfl | rfl | rfl | rfl | rfl | rfl | rfl | rfl | rfl | rfl | rfl | rfl | rfl | rfl | rfl | rfl
  · exact w_c0
  · exact w_c1
  · exact w_c2
  · exact w_c3
  · exact w_c4
  · exact w_c5
  · exact w_c6
  · exact w_c7
  · exact w_c8
  · exact w_c9
  · exact w_c10
  · exact w_c11
  · exact w_c12
  · exact w_c13
  · exact w_c14
  · exact w_c15
  · exact w_c16
  · exact w_c17
  · exact w_c18
  · exact w_c19
  · exact w_c20
  · exact w_c21
  · exact w_c22
  · exact w_c23
  · exact w_c24
  · exact w_c25
  · exact w_c26
  · exact w_c27
  · exact w_c28
  · exact w_c29
  · exact w_c30
  · exact w_c31
  · exact w_c32
  · exact w_c33
  · exact w_c34
  · exact w_c35
  · exact w_c36
  · exact w_c37
set_option maxRecDepth 65536 in
theorem w_t1 : (words1.take 24).all (fun c => isCode c || c.before args0 about1) = true := by decide +kernel
set_option maxRecDepth 65536 in
theorem w_t2 : ((words1.drop 24).take 24).all (fun c => isCode c || c.before args0 about1) = true := by decide +kernel
set_option maxRecDepth 65536 in
theorem w_t3 : (((words1.drop 24).drop 24).take 24).all (fun c => isCode c || c.before args0 about1) = true := by decide +kernel
set_option maxRecDepth 65536 in
theorem w_t4 : ((((words1.drop 24).drop 24).drop 24).take 24).all (fun c => isCode c || c.before args0 about1) = true := by decide +kernel
set_option maxRecDepth 65536 in
theorem w_t5 : (((((words1.drop 24).drop 24).drop 24).drop 24).take 24).all (fun c => isCode c || c.before args0 about1) = true := by decide +kernel
set_option maxRecDepth 65536 in
theorem w_t6 : ((((((words1.drop 24).drop 24).drop 24).drop 24).drop 24).take 24).all (fun c => isCode c || c.before args0 about1) = true := by decide +kernel
set_option maxRecDepth 65536 in
theorem w_t7 : (((((((words1.drop 24).drop 24).drop 24).drop 24).drop 24).drop 24).take 24).all (fun c => isCode c || c.before args0 about1) = true := by decide +kernel
set_option maxRecDepth 65536 in
theorem w_t8 : ((((((((words1.drop 24).drop 24).drop 24).drop 24).drop 24).drop 24).drop 24).take 24).all (fun c => isCode c || c.before args0 about1) = true := by decide +kernel
set_option maxRecDepth 65536 in
theorem w_t9 : (((((((((words1.drop 24).drop 24).drop 24).drop 24).drop 24).drop 24).drop 24).drop 24).take 24).all (fun c => isCode c || c.before args0 about1) = true := by decide +kernel
set_option maxRecDepth 65536 in
theorem w_t10 : ((((((((((words1.drop 24).drop 24).drop 24).drop 24).drop 24).drop 24).drop 24).drop 24).drop 24).take 24).all (fun c => isCode c || c.before args0 about1) = true := by decide +kernel
set_option maxRecDepth 65536 in
theorem w_t11 : (((((((((((words1.drop 24).drop 24).drop 24).drop 24).drop 24).drop 24).drop 24).drop 24).drop 24).drop 24).take 24).all (fun c => isCode c || c.before args0 about1) = true := by decide +kernel
set_option maxRecDepth 65536 in
theorem w_t12 : (((((((((((words1.drop 24).drop 24).drop 24).drop 24).drop 24).drop 24).drop 24).drop 24).drop 24).drop 24).drop 24).all (fun c => isCode c || c.before args0 about1) = true := by decide +kernel
theorem w_tables : (allAtoms (Jvm.Cond.code x code maxLocals ret :: tables_1)).before args0 about1 = true := by
  rw [allAtoms_all]
  show words1.all (fun c => c.before args0 about1) = true
  refine all_split ?_ w_codes
  rw [← List.take_append_drop 24 words1, List.all_append, w_t1, ← List.take_append_drop 24 (words1.drop 24), List.all_append, w_t2, ← List.take_append_drop 24 ((words1.drop 24).drop 24), List.all_append, w_t3, ← List.take_append_drop 24 (((words1.drop 24).drop 24).drop 24), List.all_append, w_t4, ← List.take_append_drop 24 ((((words1.drop 24).drop 24).drop 24).drop 24), List.all_append, w_t5, ← List.take_append_drop 24 (((((words1.drop 24).drop 24).drop 24).drop 24).drop 24), List.all_append, w_t6, ← List.take_append_drop 24 ((((((words1.drop 24).drop 24).drop 24).drop 24).drop 24).drop 24), List.all_append, w_t7, ← List.take_append_drop 24 (((((((words1.drop 24).drop 24).drop 24).drop 24).drop 24).drop 24).drop 24), List.all_append, w_t8, ← List.take_append_drop 24 ((((((((words1.drop 24).drop 24).drop 24).drop 24).drop 24).drop 24).drop 24).drop 24), List.all_append, w_t9, ← List.take_append_drop 24 (((((((((words1.drop 24).drop 24).drop 24).drop 24).drop 24).drop 24).drop 24).drop 24).drop 24), List.all_append, w_t10, ← List.take_append_drop 24 ((((((((((words1.drop 24).drop 24).drop 24).drop 24).drop 24).drop 24).drop 24).drop 24).drop 24).drop 24), List.all_append, w_t11, w_t12]
  rfl
set_option maxRecDepth 65536 in
theorem w_rest : rest_1_c.before args0 about1 = true := by decide +kernel
set_option maxRecDepth 65536 in
theorem w_case : (Jvm.Cond.and given_1 narrow_1).before args0 about1 = true := by decide +kernel
theorem w_applies : (headSpec (Jvm.Cond.code x code maxLocals ret :: tables_1) room_1).applies x e0.platform about1 = true :=
  (Spec.applies_iff w_frames).mpr ⟨w_running, w_runnable, w_alone, w_named, w_hears, w_ripe, w_room, w_tables⟩
theorem atStart : AtStart classFile x code maxLocals ret World_1 tables_1 room_1 Calls_1 rest_1 Pre_1 launch0 p0 e0 about1 theMethod args0 below0 :=
  ⟨lists_1, trivial, launch0.admits_env _ _ _, launch0.least_env, fairChoices_fair.cas, fairChoices_fair.clock, w_frames, w_args, w_heap, w_applies, trivial, w_rest, w_case⟩
end start1
theorem witness_1 : WitnessClaimed_1 := ⟨start1.p0, start1.e0, start1.about1, start1.theMethod, start1.args0, start1.below0, start1.atStart⟩
end Jvm.Pilot.@@N@@
