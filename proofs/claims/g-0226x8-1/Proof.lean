import JvmDerived
import JvmDerived.Pilot.@@N@@Statement
import JvmDerived.Pilot.@@N@@Code
set_option linter.unusedVariables false
set_option linter.unusedSimpArgs false
namespace Jvm.RoadKit
open Sem ClassFile Op Lib Jvm.Stand Jvm.Free Jvm.LawKit
section New
variable {p : Program} {l : Launch} {e : Env} {R : Room} {s : State} {m : MethodId} {args : Array Value} {below : List Frame} {meth : Method} {c : Code} {T : State} {locs : List Loc} {cells slots : Nat}
theorem retI (X : Stand p l e R s m args below meth c T locs cells slots) (hx : p.tables.exec = Jvm.exec) {pc : Nat} {Ls : Array Slot} {z : Int32} {rest : List Value} (hret : meth.sig.returnType = some .int) (hd : decode c.code pc = .ok (.ireturn, 1)) {fs : List Frame}
    (hl : ∀ (f : JFrame) (acts : List Action), f.method = m → f.locked = none → f.entered = [] → (doReturn e (T.setTop f) acts (some (.int z))).1 = T.setFrames fs) : Steps p.tables e below (T.setTop (mkF m pc Ls (.int z :: rest))) (T.setFrames fs) := by
  have hm' : T.vm.method? m = some meth := X.method'
  have hn : narrow .int (.int z) = .int z := rfl
  show Steps p.tables e below (T.setTop { method := m, pc := pc, locals := Ls, stack := _ :: rest, locked := none }) _
  jvm_step X.here [X.here.top, hx, hd, hm', hret, hn]
  first | (intro acts; rw [hl _ acts rfl rfl rfl]) | rw [hl _ _ rfl rfl rfl]
  exact Steps.refl _
end New
end Jvm.RoadKit
namespace Jvm.Pilot.@@N@@
open Jvm Jvm.ClassFile Sem Op Lib Jvm.Free Jvm.Stand Jvm.LawKit Jvm.RoadKit Bundle Jvm.Pilot.@@N@@.Jvm.D
/-! TABLES of this claim: printed by claim.py -/
def k0 : Nat := 1
def cName : String := "WindowFuncEngine"
def cN : Nat := 27
def nF : Nat := 27
def kName (k : Nat) : String := bif Nat.beq k 0 then "WindowFuncEngineL6" else "WindowFuncEngine"
def fNm (k : Nat) : String := (bif Nat.ble 13 k then (bif Nat.ble 20 k then (bif Nat.ble 23 k then (bif Nat.ble 25 k then (bif Nat.ble 26 k then "aggMax" else "aggMin") else (bif Nat.ble 24 k then "aggRows" else "aggCount")) else (bif Nat.ble 21 k then (bif Nat.ble 22 k then "aggSum" else "curPos") else "sortedLen")) else (bif Nat.ble 16 k then (bif Nat.ble 18 k then (bif Nat.ble 19 k then "computed" else "fnArg") else (bif Nat.ble 17 k then "fn" else "endOff")) else (bif Nat.ble 14 k then (bif Nat.ble 15 k then "endKind" else "startOff") else "startKind"))) else (bif Nat.ble 6 k then (bif Nat.ble 9 k then (bif Nat.ble 11 k then (bif Nat.ble 12 k then "mode" else "nulls") else (bif Nat.ble 10 k then "direction" else "rows")) else (bif Nat.ble 7 k then (bif Nat.ble 8 k then "cap" else "sorted") else "frameCnt")) else (bif Nat.ble 3 k then (bif Nat.ble 4 k then (bif Nat.ble 5 k then "resNull" else "res") else "flg") else (bif Nat.ble 1 k then (bif Nat.ble 2 k then "vals" else "keys") else "part"))))
def fDs (k : Nat) : String := (bif Nat.ble 13 k then (bif Nat.ble 20 k then (bif Nat.ble 23 k then (bif Nat.ble 25 k then (bif Nat.ble 26 k then "I" else "I") else (bif Nat.ble 24 k then "I" else "I")) else (bif Nat.ble 21 k then (bif Nat.ble 22 k then "J" else "I") else "I")) else (bif Nat.ble 16 k then (bif Nat.ble 18 k then (bif Nat.ble 19 k then "Z" else "I") else (bif Nat.ble 17 k then "I" else "I")) else (bif Nat.ble 14 k then (bif Nat.ble 15 k then "I" else "I") else "I"))) else (bif Nat.ble 6 k then (bif Nat.ble 9 k then (bif Nat.ble 11 k then (bif Nat.ble 12 k then "I" else "I") else (bif Nat.ble 10 k then "I" else "I")) else (bif Nat.ble 7 k then (bif Nat.ble 8 k then "I" else "[I") else "[I")) else (bif Nat.ble 3 k then (bif Nat.ble 4 k then (bif Nat.ble 5 k then "[Z" else "[J") else "[I") else (bif Nat.ble 1 k then (bif Nat.ble 2 k then "[I" else "[I") else "[I"))))
def fTy (k : Nat) : FieldType := (bif Nat.ble 13 k then (bif Nat.ble 20 k then (bif Nat.ble 23 k then (bif Nat.ble 25 k then (bif Nat.ble 26 k then .int else .int) else (bif Nat.ble 24 k then .int else .int)) else (bif Nat.ble 21 k then (bif Nat.ble 22 k then .long else .int) else .int)) else (bif Nat.ble 16 k then (bif Nat.ble 18 k then (bif Nat.ble 19 k then .boolean else .int) else (bif Nat.ble 17 k then .int else .int)) else (bif Nat.ble 14 k then (bif Nat.ble 15 k then .int else .int) else .int))) else (bif Nat.ble 6 k then (bif Nat.ble 9 k then (bif Nat.ble 11 k then (bif Nat.ble 12 k then .int else .int) else (bif Nat.ble 10 k then .int else .int)) else (bif Nat.ble 7 k then (bif Nat.ble 8 k then .int else (.array .int)) else (.array .int))) else (bif Nat.ble 3 k then (bif Nat.ble 4 k then (bif Nat.ble 5 k then (.array .boolean) else (.array .long)) else (.array .int)) else (bif Nat.ble 1 k then (bif Nat.ble 2 k then (.array .int) else (.array .int)) else (.array .int)))))
def fFin (k : Nat) : Bool := (bif Nat.ble 13 k then (bif Nat.ble 20 k then (bif Nat.ble 23 k then (bif Nat.ble 25 k then (bif Nat.ble 26 k then false else false) else (bif Nat.ble 24 k then false else false)) else (bif Nat.ble 21 k then (bif Nat.ble 22 k then false else false) else false)) else (bif Nat.ble 16 k then (bif Nat.ble 18 k then (bif Nat.ble 19 k then false else false) else (bif Nat.ble 17 k then false else false)) else (bif Nat.ble 14 k then (bif Nat.ble 15 k then false else false) else false))) else (bif Nat.ble 6 k then (bif Nat.ble 9 k then (bif Nat.ble 11 k then (bif Nat.ble 12 k then false else false) else (bif Nat.ble 10 k then false else false)) else (bif Nat.ble 7 k then (bif Nat.ble 8 k then false else false) else false)) else (bif Nat.ble 3 k then (bif Nat.ble 4 k then (bif Nat.ble 5 k then false else false) else false) else (bif Nat.ble 1 k then (bif Nat.ble 2 k then false else false) else false))))
def cDef : List Value := [.null, .null, .null, .null, .null, .null, .null, .null, .int 0, .int 0, .int 0, .int 0, .int 0, .int 0, .int 0, .int 0, .int 0, .int 0, .int 0, .int 0, .int 0, .int 0, .long 0, .int 0, .int 0, .int 0, .int 0]
def cK : List Value := []
def pN : Nat := 38
def pTop (m : Nat) : Nat := (bif Nat.ble 19 m then (bif Nat.ble 28 m then (bif Nat.ble 33 m then (bif Nat.ble 35 m then (bif Nat.ble 36 m then (bif Nat.ble 37 m then 97 else 77) else 85) else (bif Nat.ble 34 m then 85 else 47)) else (bif Nat.ble 30 m then (bif Nat.ble 31 m then (bif Nat.ble 32 m then 50 else 37) else 23) else (bif Nat.ble 29 m then 63 else 25))) else (bif Nat.ble 23 m then (bif Nat.ble 25 m then (bif Nat.ble 26 m then (bif Nat.ble 27 m then 240 else 17) else 65) else (bif Nat.ble 24 m then 131 else 132)) else (bif Nat.ble 21 m then (bif Nat.ble 22 m then 63 else 173) else (bif Nat.ble 20 m then 17 else 163)))) else (bif Nat.ble 9 m then (bif Nat.ble 14 m then (bif Nat.ble 16 m then (bif Nat.ble 17 m then (bif Nat.ble 18 m then 144 else 26) else 62) else (bif Nat.ble 15 m then 11 else 75)) else (bif Nat.ble 11 m then (bif Nat.ble 12 m then (bif Nat.ble 13 m then 37 else 65) else 28) else (bif Nat.ble 10 m then 39 else 28))) else (bif Nat.ble 4 m then (bif Nat.ble 6 m then (bif Nat.ble 7 m then (bif Nat.ble 8 m then 63 else 105) else 117) else (bif Nat.ble 5 m then 5 else 5)) else (bif Nat.ble 2 m then (bif Nat.ble 3 m then 103 else 46) else (bif Nat.ble 1 m then 108 else 1112)))))
def pK (m : Nat) : Nat := (bif Nat.ble 19 m then (bif Nat.ble 28 m then (bif Nat.ble 33 m then (bif Nat.ble 35 m then (bif Nat.ble 36 m then (bif Nat.ble 37 m then 1 else 1) else 1) else (bif Nat.ble 34 m then 1 else 1)) else (bif Nat.ble 30 m then (bif Nat.ble 31 m then (bif Nat.ble 32 m then 1 else 1) else 1) else (bif Nat.ble 29 m then 1 else 1))) else (bif Nat.ble 23 m then (bif Nat.ble 25 m then (bif Nat.ble 26 m then (bif Nat.ble 27 m then 1 else 1) else 1) else (bif Nat.ble 24 m then 1 else 1)) else (bif Nat.ble 21 m then (bif Nat.ble 22 m then 1 else 1) else (bif Nat.ble 20 m then 1 else 1)))) else (bif Nat.ble 9 m then (bif Nat.ble 14 m then (bif Nat.ble 16 m then (bif Nat.ble 17 m then (bif Nat.ble 18 m then 1 else 1) else 1) else (bif Nat.ble 15 m then 1 else 1)) else (bif Nat.ble 11 m then (bif Nat.ble 12 m then (bif Nat.ble 13 m then 1 else 1) else 1) else (bif Nat.ble 10 m then 1 else 1))) else (bif Nat.ble 4 m then (bif Nat.ble 6 m then (bif Nat.ble 7 m then (bif Nat.ble 8 m then 1 else 1) else 0) else (bif Nat.ble 5 m then 1 else 1)) else (bif Nat.ble 2 m then (bif Nat.ble 3 m then 1 else 1) else (bif Nat.ble 1 m then 1 else 0)))))
def pNm (m : Nat) : String := (bif Nat.ble 19 m then (bif Nat.ble 28 m then (bif Nat.ble 33 m then (bif Nat.ble 35 m then (bif Nat.ble 36 m then (bif Nat.ble 37 m then "shiftValue" else "denseRankOf") else "rowsEndHolds") else (bif Nat.ble 34 m then "rowsStartHolds" else "rankOf")) else (bif Nat.ble 30 m then (bif Nat.ble 31 m then (bif Nat.ble 32 m then "distance" else "setOrder") else "setFrameMode") else (bif Nat.ble 29 m then "setFrameEnd" else "setRes"))) else (bif Nat.ble 23 m then (bif Nat.ble 25 m then (bif Nat.ble 26 m then (bif Nat.ble 27 m then "applyFunction" else "valNull") else "peer") else (bif Nat.ble 24 m then "rangeEndHolds" else "rangeStartHolds")) else (bif Nat.ble 21 m then (bif Nat.ble 22 m then "inFrame" else "aggregateFrame") else (bif Nat.ble 20 m then "keyNull" else "before")))) else (bif Nat.ble 9 m then (bif Nat.ble 14 m then (bif Nat.ble 16 m then (bif Nat.ble 17 m then (bif Nat.ble 18 m then "buildPartition" else "computeRow") else "setFrameStart") else (bif Nat.ble 15 m then "clear" else "needsOrder")) else (bif Nat.ble 11 m then (bif Nat.ble 12 m then (bif Nat.ble 13 m then "compute" else "setFunction") else "isResultNull") else (bif Nat.ble 10 m then "getResult" else "getFrameCount"))) else (bif Nat.ble 4 m then (bif Nat.ble 6 m then (bif Nat.ble 7 m then (bif Nat.ble 8 m then "getRowField" else "getSpec") else "spec") else (bif Nat.ble 5 m then "isComputed" else "rowCount")) else (bif Nat.ble 2 m then (bif Nat.ble 3 m then "addRow" else "resetSpec") else (bif Nat.ble 1 m then "<init>" else "law")))))
def pDs (m : Nat) : String := (bif Nat.ble 19 m then (bif Nat.ble 28 m then (bif Nat.ble 33 m then (bif Nat.ble 35 m then (bif Nat.ble 36 m then (bif Nat.ble 37 m then "(IIZ)V" else "(II)J") else "(II)Z") else (bif Nat.ble 34 m then "(II)Z" else "(II)J")) else (bif Nat.ble 30 m then (bif Nat.ble 31 m then (bif Nat.ble 32 m then "(II)J" else "(II)Z") else "(I)Z") else (bif Nat.ble 29 m then "(II)Z" else "(IJZ)V"))) else (bif Nat.ble 23 m then (bif Nat.ble 25 m then (bif Nat.ble 26 m then (bif Nat.ble 27 m then "(I)V" else "(I)Z") else "(II)Z") else (bif Nat.ble 24 m then "(IIII)Z" else "(IIII)Z")) else (bif Nat.ble 21 m then (bif Nat.ble 22 m then "(IIII)Z" else "(I)V") else (bif Nat.ble 20 m then "(I)Z" else "(II)Z")))) else (bif Nat.ble 9 m then (bif Nat.ble 14 m then (bif Nat.ble 16 m then (bif Nat.ble 17 m then (bif Nat.ble 18 m then "(I)V" else "(I)V") else "(II)Z") else (bif Nat.ble 15 m then "()V" else "()Z")) else (bif Nat.ble 11 m then (bif Nat.ble 12 m then (bif Nat.ble 13 m then "()I" else "(II)Z") else "(I)Z") else (bif Nat.ble 10 m then "(I)J" else "(I)I"))) else (bif Nat.ble 4 m then (bif Nat.ble 6 m then (bif Nat.ble 7 m then (bif Nat.ble 8 m then "(II)I" else "(I)I") else "(LWindowFuncEngine;IIIIIIIIII)Z") else (bif Nat.ble 5 m then "()Z" else "()I")) else (bif Nat.ble 2 m then (bif Nat.ble 3 m then "(IIII)I" else "()V") else (bif Nat.ble 1 m then "(I)V" else "([I)Z")))))
def pName (m : Nat) : MethodName := ⟨kName (pK m), pNm m, pDs m⟩
def pBytes (m : Nat) : ByteArray := (bif Nat.ble 19 m then (bif Nat.ble 28 m then (bif Nat.ble 33 m then (bif Nat.ble 35 m then (bif Nat.ble 36 m then (bif Nat.ble 37 m then prog_1_method_36_code else prog_1_method_35_code) else prog_1_method_26_code) else (bif Nat.ble 34 m then prog_1_method_25_code else prog_1_method_34_code)) else (bif Nat.ble 30 m then (bif Nat.ble 31 m then (bif Nat.ble 32 m then prog_1_method_27_code else prog_1_method_6_code) else prog_1_method_7_code) else (bif Nat.ble 29 m then prog_1_method_9_code else prog_1_method_32_code))) else (bif Nat.ble 23 m then (bif Nat.ble 25 m then (bif Nat.ble 26 m then (bif Nat.ble 27 m then prog_1_method_33_code else prog_1_method_20_code) else prog_1_method_22_code) else (bif Nat.ble 24 m then prog_1_method_29_code else prog_1_method_28_code)) else (bif Nat.ble 21 m then (bif Nat.ble 22 m then prog_1_method_24_code else prog_1_method_31_code) else (bif Nat.ble 20 m then prog_1_method_19_code else prog_1_method_21_code)))) else (bif Nat.ble 9 m then (bif Nat.ble 14 m then (bif Nat.ble 16 m then (bif Nat.ble 17 m then (bif Nat.ble 18 m then prog_1_method_23_code else prog_1_method_30_code) else prog_1_method_8_code) else (bif Nat.ble 15 m then prog_1_method_4_code else prog_1_method_12_code)) else (bif Nat.ble 11 m then (bif Nat.ble 12 m then (bif Nat.ble 13 m then prog_1_method_11_code else prog_1_method_10_code) else prog_1_method_15_code) else (bif Nat.ble 10 m then prog_1_method_14_code else prog_1_method_16_code))) else (bif Nat.ble 4 m then (bif Nat.ble 6 m then (bif Nat.ble 7 m then (bif Nat.ble 8 m then prog_1_method_17_code else prog_1_method_18_code) else method_3_code) else (bif Nat.ble 5 m then prog_1_method_13_code else prog_1_method_5_code)) else (bif Nat.ble 2 m then (bif Nat.ble 3 m then prog_1_method_3_code else prog_1_method_2_code) else (bif Nat.ble 1 m then prog_1_method_1_code else code)))))
def pMaxL (m : Nat) : Nat := (bif Nat.ble 19 m then (bif Nat.ble 28 m then (bif Nat.ble 33 m then (bif Nat.ble 35 m then (bif Nat.ble 36 m then (bif Nat.ble 37 m then 7 else 7) else 9) else (bif Nat.ble 34 m then 9 else 6)) else (bif Nat.ble 30 m then (bif Nat.ble 31 m then (bif Nat.ble 32 m then 3 else 3) else 2) else (bif Nat.ble 29 m then 4 else 5))) else (bif Nat.ble 23 m then (bif Nat.ble 25 m then (bif Nat.ble 26 m then (bif Nat.ble 27 m then 5 else 2) else 5) else (bif Nat.ble 24 m then 10 else 10)) else (bif Nat.ble 21 m then (bif Nat.ble 22 m then 5 else 7) else (bif Nat.ble 20 m then 2 else 5)))) else (bif Nat.ble 9 m then (bif Nat.ble 14 m then (bif Nat.ble 16 m then (bif Nat.ble 17 m then (bif Nat.ble 18 m then 6 else 2) else 4) else (bif Nat.ble 15 m then 1 else 3)) else (bif Nat.ble 11 m then (bif Nat.ble 12 m then (bif Nat.ble 13 m then 2 else 4) else 2) else (bif Nat.ble 10 m then 2 else 2))) else (bif Nat.ble 4 m then (bif Nat.ble 6 m then (bif Nat.ble 7 m then (bif Nat.ble 8 m then 3 else 2) else 11) else (bif Nat.ble 5 m then 1 else 1)) else (bif Nat.ble 2 m then (bif Nat.ble 3 m then 6 else 1) else (bif Nat.ble 1 m then 3 else 30)))))
def pRet (m : Nat) : Option FieldType := (bif Nat.ble 19 m then (bif Nat.ble 28 m then (bif Nat.ble 33 m then (bif Nat.ble 35 m then (bif Nat.ble 36 m then (bif Nat.ble 37 m then none else (some .long)) else (some .boolean)) else (bif Nat.ble 34 m then (some .boolean) else (some .long))) else (bif Nat.ble 30 m then (bif Nat.ble 31 m then (bif Nat.ble 32 m then (some .long) else (some .boolean)) else (some .boolean)) else (bif Nat.ble 29 m then (some .boolean) else none))) else (bif Nat.ble 23 m then (bif Nat.ble 25 m then (bif Nat.ble 26 m then (bif Nat.ble 27 m then none else (some .boolean)) else (some .boolean)) else (bif Nat.ble 24 m then (some .boolean) else (some .boolean))) else (bif Nat.ble 21 m then (bif Nat.ble 22 m then (some .boolean) else none) else (bif Nat.ble 20 m then (some .boolean) else (some .boolean))))) else (bif Nat.ble 9 m then (bif Nat.ble 14 m then (bif Nat.ble 16 m then (bif Nat.ble 17 m then (bif Nat.ble 18 m then none else none) else (some .boolean)) else (bif Nat.ble 15 m then none else (some .boolean))) else (bif Nat.ble 11 m then (bif Nat.ble 12 m then (bif Nat.ble 13 m then (some .int) else (some .boolean)) else (some .boolean)) else (bif Nat.ble 10 m then (some .long) else (some .int)))) else (bif Nat.ble 4 m then (bif Nat.ble 6 m then (bif Nat.ble 7 m then (bif Nat.ble 8 m then (some .int) else (some .int)) else (some .boolean)) else (bif Nat.ble 5 m then (some .boolean) else (some .int))) else (bif Nat.ble 2 m then (bif Nat.ble 3 m then (some .int) else none) else (bif Nat.ble 1 m then none else (some .boolean))))))
def pNA (m : Nat) : Nat := (bif Nat.ble 19 m then (bif Nat.ble 28 m then (bif Nat.ble 33 m then (bif Nat.ble 35 m then (bif Nat.ble 36 m then (bif Nat.ble 37 m then 3 else 2) else 2) else (bif Nat.ble 34 m then 2 else 2)) else (bif Nat.ble 30 m then (bif Nat.ble 31 m then (bif Nat.ble 32 m then 2 else 2) else 1) else (bif Nat.ble 29 m then 2 else 3))) else (bif Nat.ble 23 m then (bif Nat.ble 25 m then (bif Nat.ble 26 m then (bif Nat.ble 27 m then 1 else 1) else 2) else (bif Nat.ble 24 m then 4 else 4)) else (bif Nat.ble 21 m then (bif Nat.ble 22 m then 4 else 1) else (bif Nat.ble 20 m then 1 else 2)))) else (bif Nat.ble 9 m then (bif Nat.ble 14 m then (bif Nat.ble 16 m then (bif Nat.ble 17 m then (bif Nat.ble 18 m then 1 else 1) else 2) else (bif Nat.ble 15 m then 0 else 0)) else (bif Nat.ble 11 m then (bif Nat.ble 12 m then (bif Nat.ble 13 m then 0 else 2) else 1) else (bif Nat.ble 10 m then 1 else 1))) else (bif Nat.ble 4 m then (bif Nat.ble 6 m then (bif Nat.ble 7 m then (bif Nat.ble 8 m then 2 else 1) else 11) else (bif Nat.ble 5 m then 0 else 0)) else (bif Nat.ble 2 m then (bif Nat.ble 3 m then 4 else 0) else (bif Nat.ble 1 m then 1 else 1)))))
def pFr (m : Nat) : Nat := (bif Nat.ble 19 m then (bif Nat.ble 28 m then (bif Nat.ble 33 m then (bif Nat.ble 35 m then (bif Nat.ble 36 m then (bif Nat.ble 37 m then 1 else 2) else 0) else (bif Nat.ble 34 m then 0 else 2)) else (bif Nat.ble 30 m then (bif Nat.ble 31 m then (bif Nat.ble 32 m then 0 else 0) else 0) else (bif Nat.ble 29 m then 0 else 0))) else (bif Nat.ble 23 m then (bif Nat.ble 25 m then (bif Nat.ble 26 m then (bif Nat.ble 27 m then 3 else 0) else 1) else (bif Nat.ble 24 m then 2 else 2)) else (bif Nat.ble 21 m then (bif Nat.ble 22 m then 3 else 4) else (bif Nat.ble 20 m then 0 else 1)))) else (bif Nat.ble 9 m then (bif Nat.ble 14 m then (bif Nat.ble 16 m then (bif Nat.ble 17 m then (bif Nat.ble 18 m then 2 else 5) else 0) else (bif Nat.ble 15 m then 0 else 0)) else (bif Nat.ble 11 m then (bif Nat.ble 12 m then (bif Nat.ble 13 m then 6 else 0) else 0) else (bif Nat.ble 10 m then 0 else 0))) else (bif Nat.ble 4 m then (bif Nat.ble 6 m then (bif Nat.ble 7 m then (bif Nat.ble 8 m then 0 else 0) else 1) else (bif Nat.ble 5 m then 0 else 0)) else (bif Nat.ble 2 m then (bif Nat.ble 3 m then 0 else 0) else (bif Nat.ble 1 m then 1 else 7)))))
def pLo (m : Nat) : Nat := (bif Nat.ble 19 m then (bif Nat.ble 28 m then (bif Nat.ble 33 m then (bif Nat.ble 35 m then (bif Nat.ble 36 m then (bif Nat.ble 37 m then 16 else 29) else 0) else (bif Nat.ble 34 m then 0 else 29)) else (bif Nat.ble 30 m then (bif Nat.ble 31 m then (bif Nat.ble 32 m then 0 else 0) else 0) else (bif Nat.ble 29 m then 0 else 0))) else (bif Nat.ble 23 m then (bif Nat.ble 25 m then (bif Nat.ble 26 m then (bif Nat.ble 27 m then 47 else 0) else 13) else (bif Nat.ble 24 m then 29 else 29)) else (bif Nat.ble 21 m then (bif Nat.ble 22 m then 50 else 66) else (bif Nat.ble 20 m then 0 else 13)))) else (bif Nat.ble 9 m then (bif Nat.ble 14 m then (bif Nat.ble 16 m then (bif Nat.ble 17 m then (bif Nat.ble 18 m then 29 else 84) else 0) else (bif Nat.ble 15 m then 0 else 0)) else (bif Nat.ble 11 m then (bif Nat.ble 12 m then (bif Nat.ble 13 m then 97 else 0) else 0) else (bif Nat.ble 10 m then 0 else 0))) else (bif Nat.ble 4 m then (bif Nat.ble 6 m then (bif Nat.ble 7 m then (bif Nat.ble 8 m then 0 else 0) else 13) else (bif Nat.ble 5 m then 0 else 0)) else (bif Nat.ble 2 m then (bif Nat.ble 3 m then 0 else 0) else (bif Nat.ble 1 m then 12 else 110)))))
def tB (k p : Nat) (a b : Option (Instr × Nat)) : Option (Instr × Nat) := bif Nat.ble k p then a else b
def tL (k p : Nat) (i : Instr) (x : Nat) : Option (Instr × Nat) := bif Nat.beq p k then some (i, x) else none
set_option maxHeartbeats 4000000 in
def cd0 (p : Nat) : Option (Instr × Nat) := (tB 524 p (tB 830 p (tB 968 p (tB 1040 p (tB 1076 p (tB 1092 p (tB 1101 p (tB 1107 p (tB 1110 p (tB 1111 p (tL 1111 p .ireturn 0) (tL 1110 p (.iconst 1) 0)) (tL 1107 p (.goto (-1022)) 85)) (tB 1104 p (tL 1104 p (.iinc 19 5) 0) (tL 1101 p (.goto (-154)) 947))) (tB 1096 p (tB 1097 p (tB 1098 p (tL 1098 p (.iinc 25 1) 0) (tL 1097 p .ireturn 0)) (tL 1096 p (.iconst 0) 0)) (tB 1093 p (tL 1093 p (.ifCond .le 5) 1098) (tL 1092 p .lcmp 0)))) (tB 1083 p (tB 1087 p (tB 1089 p (tB 1091 p (tL 1091 p .i2l 0) (tL 1089 p (.iload 4) 0)) (tL 1087 p (.lload 27) 0)) (tB 1084 p (tL 1084 p (.ifCond .lt 12) 1096) (tL 1083 p .lcmp 0))) (tB 1080 p (tB 1082 p (tL 1082 p (.lconst 1) 0) (tL 1080 p (.lload 27) 0)) (tB 1077 p (tL 1077 p (.if_icmp .ne 21) 1098) (tL 1076 p (.iconst 5) 0))))) (tB 1058 p (tB 1067 p (tB 1069 p (tB 1071 p (tB 1074 p (tL 1074 p (.iload 12) 0) (tL 1071 p (.ifCond .eq 27) 1098)) (tL 1069 p (.iload 18) 0)) (tB 1068 p (tL 1068 p .ireturn 0) (tL 1067 p (.iconst 0) 0))) (tB 1062 p (tB 1063 p (tB 1064 p (tL 1064 p (.ifCond .le 5) 1069) (tL 1063 p .lcmp 0)) (tL 1062 p .i2l 0)) (tB 1060 p (tL 1060 p (.iload 26) 0) (tL 1058 p (.lload 27) 0)))) (tB 1048 p (tB 1053 p (tB 1054 p (tB 1055 p (tL 1055 p (.ifCond .lt 12) 1067) (tL 1054 p .lcmp 0)) (tL 1053 p (.lconst 0) 0)) (tB 1051 p (tL 1051 p (.lload 27) 0) (tL 1048 p (.if_icmp .ne 21) 1069))) (tB 1045 p (tB 1047 p (tL 1047 p (.iconst 1) 0) (tL 1045 p (.iload 12) 0)) (tB 1042 p (tL 1042 p (.ifCond .eq 27) 1069) (tL 1040 p (.iload 18) 0)))))) (tB 1004 p (tB 1023 p (tB 1033 p (tB 1035 p (tB 1038 p (tB 1039 p (tL 1039 p .ireturn 0) (tL 1038 p (.iconst 0) 0)) (tL 1035 p (.ifCond .eq 5) 1040)) (tB 1034 p (tL 1034 p .lcmp 0) (tL 1033 p .i2l 0))) (tB 1026 p (tB 1029 p (tB 1031 p (tL 1031 p (.iload 26) 0) (tL 1029 p (.lload 27) 0)) (tL 1026 p (.if_icmp .ne 14) 1040)) (tB 1025 p (tL 1025 p (.iconst 2) 0) (tL 1023 p (.iload 12) 0)))) (tB 1013 p (tB 1017 p (tB 1018 p (tB 1020 p (tL 1020 p (.ifCond .eq 20) 1040) (tL 1018 p (.iload 18) 0)) (tL 1017 p .ireturn 0)) (tB 1016 p (tL 1016 p (.iconst 0) 0) (tL 1013 p (.if_icmp .le 5) 1018))) (tB 1009 p (tB 1011 p (tL 1011 p (.iload 4) 0) (tL 1009 p (.iload 26) 0)) (tB 1006 p (tL 1006 p (.ifCond .lt 10) 1016) (tL 1004 p (.iload 26) 0))))) (tB 985 p (tB 994 p (tB 998 p (tB 999 p (tB 1001 p (tL 1001 p (.ifCond .eq 17) 1018) (tL 999 p (.iload 18) 0)) (tL 998 p .ireturn 0)) (tB 997 p (tL 997 p (.iconst 0) 0) (tL 994 p (.ifCond .eq 5) 999))) (tB 989 p (tB 991 p (tL 991 p (.invokevirtual 65) 11) (tL 989 p (.iload 25) 0)) (tB 988 p (tL 988 p (.aload_n 2) 0) (tL 985 p (.ifCond .ne 12) 997)))) (tB 977 p (tB 981 p (tB 983 p (tB 984 p (tL 984 p .lcmp 0) (tL 983 p (.lconst 0) 0)) (tL 981 p (.lload 27) 0)) (tB 978 p (tL 978 p (.if_icmp .ne 19) 997) (tL 977 p (.iconst (-1)) 0))) (tB 972 p (tB 975 p (tL 975 p (.iload 26) 0) (tL 972 p (.ifCond .ne 27) 999)) (tB 970 p (tL 970 p (.iload 18) 0) (tL 968 p (.lstore 27) 0))))))) (tB 895 p (tB 930 p (tB 947 p (tB 957 p (tB 962 p (tB 963 p (tB 965 p (tL 965 p (.invokevirtual 61) 10) (tL 963 p (.iload 25) 0)) (tL 962 p (.aload_n 2) 0)) (tB 960 p (tL 960 p (.istore 26) 0) (tL 957 p (.invokevirtual 57) 9))) (tB 951 p (tB 954 p (tB 955 p (tL 955 p (.iload 25) 0) (tL 954 p (.aload_n 2) 0)) (tL 951 p (.if_icmp .ge 153) 1104)) (tB 949 p (tL 949 p (.iload 4) 0) (tL 947 p (.iload 25) 0)))) (tB 939 p (tB 943 p (tB 944 p (tB 945 p (tL 945 p (.istore 25) 0) (tL 944 p (.iconst 0) 0)) (tL 943 p .ireturn 0)) (tB 942 p (tL 942 p (.iconst 0) 0) (tL 939 p (.ifCond .eq 5) 944))) (tB 934 p (tB 936 p (tL 936 p (.invokevirtual 65) 11) (tL 934 p (.iload 4) 0)) (tB 933 p (tL 933 p (.aload_n 2) 0) (tL 930 p (.ifCond .ne 12) 942))))) (tB 912 p (tB 922 p (tB 925 p (tB 928 p (tB 929 p (tL 929 p .lcmp 0) (tL 928 p (.lconst 0) 0)) (tL 925 p (.invokevirtual 61) 10)) (tB 923 p (tL 923 p (.iload 4) 0) (tL 922 p (.aload_n 2) 0))) (tB 915 p (tB 918 p (tB 919 p (tL 919 p (.if_icmp .ne 23) 942) (tL 918 p (.iconst (-1)) 0)) (tL 915 p (.invokevirtual 57) 9)) (tB 913 p (tL 913 p (.iload 4) 0) (tL 912 p (.aload_n 2) 0)))) (tB 902 p (tB 905 p (tB 906 p (tB 909 p (tL 909 p (.ifCond .ne 33) 942) (tL 906 p (.invokevirtual 53) 8)) (tL 905 p (.iconst 0) 0)) (tB 903 p (tL 903 p (.iload 4) 0) (tL 902 p (.aload_n 2) 0))) (tB 900 p (tB 901 p (tL 901 p .ireturn 0) (tL 900 p (.iconst 0) 0)) (tB 897 p (tL 897 p (.if_icmp .eq 5) 902) (tL 895 p (.iload 17) 0)))))) (tB 862 p (tB 877 p (tB 887 p (tB 890 p (tB 891 p (tB 892 p (tL 892 p (.invokevirtual 53) 8) (tL 891 p (.iconst 3) 0)) (tL 890 p .isub 0)) (tB 889 p (tL 889 p (.iconst 1) 0) (tL 887 p (.iload 4) 0))) (tB 881 p (tB 883 p (tB 886 p (tL 886 p (.aload_n 2) 0) (tL 883 p (.if_icmp .ne 17) 900)) (tL 881 p (.iload 16) 0)) (tB 878 p (tL 878 p (.invokevirtual 53) 8) (tL 877 p (.iconst 2) 0)))) (tB 869 p (tB 873 p (tB 875 p (tB 876 p (tL 876 p .isub 0) (tL 875 p (.iconst 1) 0)) (tL 873 p (.iload 4) 0)) (tB 872 p (tL 872 p (.aload_n 2) 0) (tL 869 p (.if_icmp .ne 31) 900))) (tB 864 p (tB 867 p (tL 867 p (.iload 15) 0) (tL 864 p (.invokevirtual 53) 8)) (tB 863 p (tL 863 p (.iconst 1) 0) (tL 862 p .isub 0))))) (tB 847 p (tB 853 p (tB 858 p (tB 859 p (tB 861 p (tL 861 p (.iconst 1) 0) (tL 859 p (.iload 4) 0)) (tL 858 p (.aload_n 2) 0)) (tB 855 p (tL 855 p (.if_icmp .ne 45) 900) (tL 853 p (.iload 14) 0))) (tB 849 p (tB 850 p (tL 850 p (.invokevirtual 53) 8) (tL 849 p (.iconst 0) 0)) (tB 848 p (tL 848 p .isub 0) (tL 847 p (.iconst 1) 0)))) (tB 838 p (tB 841 p (tB 844 p (tB 845 p (tL 845 p (.iload 4) 0) (tL 844 p (.aload_n 2) 0)) (tL 841 p (.ifCond .le 61) 902)) (tB 839 p (tL 839 p (.iload 4) 0) (tL 838 p .ireturn 0))) (tB 834 p (tB 837 p (tL 837 p (.iconst 0) 0) (tL 834 p (.ifCond .ne 5) 839)) (tB 831 p (tL 831 p (.invokestatic 47) 6) (tL 830 p (.iload_n 3) 0)))))))) (tB 681 p (tB 757 p (tB 792 p (tB 811 p (tB 820 p (tB 824 p (tB 826 p (tB 828 p (tL 828 p (.iload 13) 0) (tL 826 p (.iload 12) 0)) (tL 824 p (.iload 11) 0)) (tB 822 p (tL 822 p (.iload 10) 0) (tL 820 p (.iload 9) 0))) (tB 814 p (tB 816 p (tB 818 p (tL 818 p (.iload 8) 0) (tL 816 p (.iload 7) 0)) (tL 814 p (.iload 6) 0)) (tB 812 p (tL 812 p (.iload 5) 0) (tL 811 p (.aload_n 2) 0)))) (tB 801 p (tB 806 p (tB 809 p (tB 810 p (tL 810 p .ireturn 0) (tL 809 p (.iconst 0) 0)) (tL 806 p (.if_icmp .eq 5) 811)) (tB 804 p (tL 804 p (.iload 18) 0) (tL 801 p (.invokevirtual 43) 5))) (tB 797 p (tB 800 p (tL 800 p (.aload_n 2) 0) (tL 797 p (.if_icmp .ne 12) 809)) (tB 795 p (tL 795 p (.iload 4) 0) (tL 792 p (.invokevirtual 40) 4))))) (tB 774 p (tB 783 p (tB 788 p (tB 789 p (tB 791 p (tL 791 p (.aload_n 2) 0) (tL 789 p (.istore 18) 0)) (tL 788 p (.iconst 1) 0)) (tB 785 p (tL 785 p (.ifCond .ne 6) 791) (tL 783 p (.iload 25) 0))) (tB 778 p (tB 781 p (tB 782 p (tL 782 p .ireturn 0) (tL 781 p (.iconst 0) 0)) (tL 778 p (.if_icmp .eq 5) 783)) (tB 777 p (tL 777 p (.iconst 0) 0) (tL 774 p (.goto 4) 778)))) (tB 764 p (tB 768 p (tB 770 p (tB 773 p (tL 773 p (.iconst (-1)) 0) (tL 770 p (.ifCond .eq 7) 777)) (tL 768 p (.iload 25) 0)) (tB 766 p (tL 766 p (.iload 26) 0) (tL 764 p (.istore 26) 0))) (tB 760 p (tB 761 p (tL 761 p (.invokevirtual 36) 13) (tL 760 p (.aload_n 2) 0)) (tB 758 p (tL 758 p (.istore 25) 0) (tL 757 p (.iconst 0) 0)))))) (tB 718 p (tB 737 p (tB 747 p (tB 750 p (tB 753 p (tB 754 p (tL 754 p (.goto 4) 758) (tL 753 p (.iconst 1) 0)) (tL 750 p (.if_icmp .ne 7) 757)) (tB 749 p (tL 749 p (.iconst 3) 0) (tL 747 p (.iload 10) 0))) (tB 741 p (tB 743 p (tB 744 p (tL 744 p (.if_icmp .eq 9) 753) (tL 743 p (.iconst 1) 0)) (tL 741 p (.iload 10) 0)) (tB 738 p (tL 738 p (.if_icmp .eq 15) 753) (tL 737 p (.iconst 3) 0)))) (tB 726 p (tB 731 p (tB 732 p (tB 735 p (tL 735 p (.iload 8) 0) (tL 732 p (.if_icmp .eq 21) 753)) (tL 731 p (.iconst 1) 0)) (tB 729 p (tL 729 p (.iload 8) 0) (tL 726 p (.ifCond .ne 31) 757))) (tB 721 p (tB 724 p (tL 724 p (.iload 5) 0) (tL 721 p (.if_icmp .ne 36) 757)) (tB 720 p (tL 720 p (.iconst 1) 0) (tL 718 p (.iload 7) 0))))) (tB 699 p (tB 709 p (tB 712 p (tB 713 p (tB 715 p (tL 715 p (.goto 76) 791) (tL 713 p (.istore 18) 0)) (tL 712 p (.iconst 0) 0)) (tB 710 p (tL 710 p (.istore 13) 0) (tL 709 p (.iconst 0) 0))) (tB 704 p (tB 706 p (tL 706 p (.goto 4) 710) (tL 704 p (.iload 26) 0)) (tB 701 p (tL 701 p (.ifCond .eq 8) 709) (tL 699 p (.iload 27) 0)))) (tB 689 p (tB 692 p (tB 695 p (tB 697 p (tL 697 p (.istore 12) 0) (tL 695 p (.iload 25) 0)) (tL 692 p (.ifCond .eq 23) 715)) (tB 690 p (tL 690 p (.iload 28) 0) (tL 689 p .ireturn 0))) (tB 685 p (tB 688 p (tL 688 p (.iconst 0) 0) (tL 685 p (.if_icmp .eq 5) 690)) (tB 684 p (tL 684 p (.iconst 0) 0) (tL 681 p (.goto 4) 685))))))) (tB 604 p (tB 641 p (tB 659 p (tB 670 p (tB 675 p (tB 677 p (tB 680 p (tL 680 p (.iconst 1) 0) (tL 677 p (.ifCond .lt 7) 684)) (tL 675 p (.iload 26) 0)) (tB 672 p (tL 672 p (.ifCond .eq 8) 680) (tL 670 p (.iload 27) 0))) (tB 663 p (tB 665 p (tB 667 p (tL 667 p (.if_icmp .gt 17) 684) (tL 665 p (.bipush 9) 0)) (tL 663 p (.iload 25) 0)) (tB 661 p (tL 661 p (.iload 28) 0) (tL 659 p (.istore 28) 0)))) (tB 649 p (tB 652 p (tB 654 p (tB 656 p (tL 656 p (.invokevirtual 33) 12) (tL 654 p (.iload 26) 0)) (tL 652 p (.iload 25) 0)) (tB 651 p (tL 651 p (.aload_n 2) 0) (tL 649 p (.istore 27) 0))) (tB 645 p (tB 648 p (tL 648 p (.iconst 0) 0) (tL 645 p (.goto 4) 649)) (tB 644 p (tL 644 p (.iconst 1) 0) (tL 641 p (.if_icmp .ne 7) 648))))) (tB 623 p (tB 630 p (tB 634 p (tB 637 p (tB 639 p (tL 639 p (.bipush 9) 0) (tL 637 p (.iload 25) 0)) (tL 634 p (.if_icmp .eq 10) 644)) (tB 632 p (tL 632 p (.bipush 8) 0) (tL 630 p (.iload 25) 0))) (tB 626 p (tB 627 p (tB 628 p (tL 628 p (.istore 26) 0) (tL 627 p .isub 0)) (tL 626 p (.iconst 1) 0)) (tB 625 p (tL 625 p .iand 0) (tL 623 p (.bipush 7) 0)))) (tB 614 p (tB 618 p (tB 619 p (tB 621 p (tL 621 p (.iload 22) 0) (tL 619 p (.istore 25) 0)) (tL 618 p .irem 0)) (tB 616 p (tL 616 p (.bipush 11) 0) (tL 614 p (.iload 21) 0))) (tB 609 p (tB 611 p (tL 611 p (.if_icmp .ne 107) 718) (tL 609 p (.bipush 12) 0)) (tB 607 p (tL 607 p (.iload 20) 0) (tL 604 p (.goto 187) 791)))))) (tB 564 p (tB 583 p (tB 594 p (tB 598 p (tB 601 p (tB 602 p (tL 602 p (.istore 18) 0) (tL 601 p (.iconst 0) 0)) (tL 598 p (.ifCond .eq 6) 604)) (tB 596 p (tL 596 p (.iload 29) 0) (tL 594 p (.istore 11) 0))) (tB 588 p (tB 590 p (tB 593 p (tL 593 p (.iconst 0) 0) (tL 590 p (.goto 4) 594)) (tL 588 p (.iload 26) 0)) (tB 585 p (tL 585 p (.ifCond .eq 8) 593) (tL 583 p (.iload 27) 0)))) (tB 572 p (tB 576 p (tB 579 p (tB 581 p (tL 581 p (.istore 10) 0) (tL 579 p (.iload 25) 0)) (tL 576 p (.if_icmp .ne 20) 596)) (tB 574 p (tL 574 p (.bipush 11) 0) (tL 572 p (.iload 20) 0))) (tB 567 p (tB 569 p (tL 569 p (.ifCond .eq 27) 596) (tL 567 p (.iload 29) 0)) (tB 565 p (tL 565 p (.istore 9) 0) (tL 564 p (.iconst 0) 0))))) (tB 543 p (tB 552 p (tB 556 p (tB 559 p (tB 561 p (tL 561 p (.goto 4) 565) (tL 559 p (.iload 26) 0)) (tL 556 p (.ifCond .eq 8) 564)) (tB 554 p (tL 554 p (.iload 27) 0) (tL 552 p (.istore 8) 0))) (tB 547 p (tB 550 p (tL 550 p (.iload 25) 0) (tL 547 p (.if_icmp .ne 20) 567)) (tB 545 p (tL 545 p (.bipush 10) 0) (tL 543 p (.iload 20) 0)))) (tB 533 p (tB 537 p (tB 538 p (tB 540 p (tL 540 p (.ifCond .eq 27) 567) (tL 538 p (.iload 29) 0)) (tL 537 p .ireturn 0)) (tB 536 p (tL 536 p (.iconst 0) 0) (tL 533 p (.if_icmp .eq 5) 538))) (tB 529 p (tB 531 p (tL 531 p (.iload 28) 0) (tL 529 p (.iload 29) 0)) (tB 527 p (tL 527 p (.istore 29) 0) (tL 524 p (.invokevirtual 30) 29))))))))) (tB 241 p (tB 379 p (tB 444 p (tB 484 p (tB 503 p (tB 514 p (tB 519 p (tB 520 p (tB 522 p (tL 522 p (.iload 26) 0) (tL 520 p (.iload 25) 0)) (tL 519 p (.aload_n 2) 0)) (tB 516 p (tL 516 p (.goto 13) 529) (tL 514 p (.istore 29) 0))) (tB 507 p (tB 509 p (tB 511 p (tL 511 p (.invokevirtual 27) 16) (tL 509 p (.iload 26) 0)) (tL 507 p (.iload 25) 0)) (tB 506 p (tL 506 p (.aload_n 2) 0) (tL 503 p (.if_icmp .ne 16) 519)))) (tB 493 p (tB 497 p (tB 499 p (tB 501 p (tL 501 p (.bipush 10) 0) (tL 499 p (.iload 20) 0)) (tL 497 p (.istore 28) 0)) (tB 496 p (tL 496 p (.iconst 0) 0) (tL 493 p (.goto 4) 497))) (tB 489 p (tB 492 p (tL 492 p (.iconst 1) 0) (tL 489 p (.ifCond .lt 7) 496)) (tB 487 p (tL 487 p (.iload 26) 0) (tL 484 p (.ifCond .eq 8) 492))))) (tB 462 p (tB 473 p (tB 478 p (tB 479 p (tB 482 p (tL 482 p (.iload 27) 0) (tL 479 p (.if_icmp .lt 17) 496)) (tL 478 p (.iconst 1) 0)) (tB 476 p (tL 476 p (.iload 25) 0) (tL 473 p (.goto 9) 482))) (tB 467 p (tB 469 p (tB 470 p (tL 470 p (.if_icmp .gt 26) 496) (tL 469 p (.iconst 3) 0)) (tL 467 p (.iload 25) 0)) (tB 464 p (tL 464 p (.if_icmp .ne 12) 476) (tL 462 p (.bipush 10) 0)))) (tB 453 p (tB 457 p (tB 458 p (tB 460 p (tL 460 p (.iload 20) 0) (tL 458 p (.istore 27) 0)) (tL 457 p (.iconst 0) 0)) (tB 454 p (tL 454 p (.goto 4) 458) (tL 453 p (.iconst 1) 0))) (tB 449 p (tB 450 p (tL 450 p (.if_icmp .ne 7) 457) (tL 449 p (.iconst 3) 0)) (tB 447 p (tL 447 p (.iload 25) 0) (tL 444 p (.if_icmp .eq 9) 453)))))) (tB 409 p (tB 429 p (tB 437 p (tB 439 p (tB 441 p (tB 443 p (tL 443 p (.iconst 1) 0) (tL 441 p (.iload 25) 0)) (tL 439 p (.istore 26) 0)) (tB 438 p (tL 438 p .isub 0) (tL 437 p (.iconst 1) 0))) (tB 432 p (tB 434 p (tB 436 p (tL 436 p .iand 0) (tL 434 p (.bipush 7) 0)) (tL 432 p (.iload 22) 0)) (tB 430 p (tL 430 p (.istore 25) 0) (tL 429 p .irem 0)))) (tB 419 p (tB 423 p (tB 426 p (tB 428 p (tL 428 p (.iconst 5) 0) (tL 426 p (.iload 21) 0)) (tL 423 p (.if_icmp .ne 184) 607)) (tB 421 p (tL 421 p (.bipush 11) 0) (tL 419 p (.iload 20) 0))) (tB 414 p (tB 416 p (tL 416 p (.if_icmp .eq 10) 426) (tL 414 p (.bipush 10) 0)) (tB 412 p (tL 412 p (.iload 20) 0) (tL 409 p (.goto 382) 791))))) (tB 394 p (tB 402 p (tB 404 p (tB 406 p (tB 407 p (tL 407 p (.istore 18) 0) (tL 406 p (.iconst 0) 0)) (tL 404 p (.istore 7) 0)) (tB 403 p (tL 403 p .irem 0) (tL 402 p (.iconst 3) 0))) (tB 397 p (tB 400 p (tL 400 p (.iload 21) 0) (tL 397 p (.ifCond .eq 12) 409)) (tB 395 p (tL 395 p (.iload 25) 0) (tL 394 p .ireturn 0)))) (tB 385 p (tB 389 p (tB 390 p (tB 393 p (tL 393 p (.iconst 0) 0) (tL 390 p (.if_icmp .eq 5) 395)) (tL 389 p (.iconst 0) 0)) (tB 386 p (tL 386 p (.goto 4) 390) (tL 385 p (.iconst 1) 0))) (tB 381 p (tB 382 p (tL 382 p (.if_icmp .gt 7) 389) (tL 381 p (.iconst 1) 0)) (tB 380 p (tL 380 p .irem 0) (tL 379 p (.iconst 3) 0))))))) (tB 310 p (tB 344 p (tB 360 p (tB 369 p (tB 373 p (tB 375 p (tB 377 p (tL 377 p (.iload 21) 0) (tL 375 p (.iload 25) 0)) (tL 373 p (.istore 25) 0)) (tB 370 p (tL 370 p (.invokevirtual 23) 30) (tL 369 p .irem 0))) (tB 365 p (tB 366 p (tB 368 p (tL 368 p (.iconst 3) 0) (tL 366 p (.iload 21) 0)) (tL 365 p (.aload_n 2) 0)) (tB 362 p (tL 362 p (.if_icmp .ne 50) 412) (tL 360 p (.bipush 9) 0)))) (tB 350 p (tB 353 p (tB 355 p (tB 358 p (tL 358 p (.iload 20) 0) (tL 355 p (.goto 436) 791)) (tL 353 p (.istore 18) 0)) (tB 352 p (tL 352 p (.iconst 0) 0) (tL 350 p (.istore 6) 0))) (tB 348 p (tB 349 p (tL 349 p .iand 0) (tL 348 p (.iconst 1) 0)) (tB 346 p (tL 346 p (.iload 22) 0) (tL 344 p (.istore 5) 0))))) (tB 326 p (tB 335 p (tB 340 p (tB 342 p (tB 343 p (tL 343 p .iand 0) (tL 342 p (.iconst 3) 0)) (tL 340 p (.iload 21) 0)) (tB 337 p (tL 337 p (.ifCond .eq 18) 355) (tL 335 p (.iload 25) 0))) (tB 330 p (tB 333 p (tB 334 p (tL 334 p .ireturn 0) (tL 333 p (.iconst 0) 0)) (tL 330 p (.if_icmp .eq 5) 335)) (tB 329 p (tL 329 p (.iconst 0) 0) (tL 326 p (.goto 4) 330)))) (tB 319 p (tB 321 p (tB 322 p (tB 325 p (tL 325 p (.iconst 1) 0) (tL 322 p (.if_icmp .gt 7) 329)) (tL 321 p (.iconst 2) 0)) (tB 320 p (tL 320 p .iand 0) (tL 319 p (.iconst 3) 0))) (tB 315 p (tB 317 p (tL 317 p (.iload 21) 0) (tL 315 p (.iload 25) 0)) (tB 313 p (tL 313 p (.istore 25) 0) (tL 310 p (.invokevirtual 19) 31)))))) (tB 276 p (tB 294 p (tB 304 p (tB 306 p (tB 308 p (tB 309 p (tL 309 p .iand 0) (tL 308 p (.iconst 1) 0)) (tL 306 p (.iload 22) 0)) (tB 305 p (tL 305 p .iand 0) (tL 304 p (.iconst 3) 0))) (tB 298 p (tB 301 p (tB 302 p (tL 302 p (.iload 21) 0) (tL 301 p (.aload_n 2) 0)) (tL 298 p (.if_icmp .ne 60) 358)) (tB 296 p (tL 296 p (.bipush 8) 0) (tL 294 p (.iload 20) 0)))) (tB 285 p (tB 288 p (tB 289 p (tB 291 p (tL 291 p (.goto 500) 791) (tL 289 p (.istore 18) 0)) (tL 288 p (.iconst 0) 0)) (tB 286 p (tL 286 p (.istore 4) 0) (tL 285 p (.iconst 0) 0))) (tB 281 p (tB 282 p (tL 282 p (.invokevirtual 16) 15) (tL 281 p (.aload_n 2) 0)) (tB 278 p (tL 278 p (.if_icmp .ne 16) 294) (tL 276 p (.bipush 7) 0))))) (tB 258 p (tB 264 p (tB 269 p (tB 271 p (tB 274 p (tL 274 p (.iload 20) 0) (tL 271 p (.goto 520) 791)) (tL 269 p (.istore 16) 0)) (tB 267 p (tL 267 p (.iload 27) 0) (tL 264 p (.goto 5) 269))) (tB 260 p (tB 263 p (tL 263 p (.iconst 0) 0) (tL 260 p (.ifCond .eq 7) 267)) (tB 259 p (tL 259 p .iand 0) (tL 258 p (.iconst 2) 0)))) (tB 248 p (tB 252 p (tB 254 p (tB 256 p (tL 256 p (.iload 25) 0) (tL 254 p (.istore 15) 0)) (tL 252 p (.iload 26) 0)) (tB 249 p (tL 249 p (.goto 5) 254) (tL 248 p (.iconst 0) 0))) (tB 244 p (tB 245 p (tL 245 p (.ifCond .eq 7) 252) (tL 244 p .iand 0)) (tB 243 p (tL 243 p (.iconst 1) 0) (tL 241 p (.iload 25) 0)))))))) (tB 115 p (tB 173 p (tB 208 p (tB 224 p (tB 233 p (tB 235 p (tB 237 p (tB 239 p (tL 239 p (.istore 17) 0) (tL 237 p (.iload 25) 0)) (tL 235 p (.istore 14) 0)) (tB 234 p (tL 234 p .iand 0) (tL 233 p (.iconst 3) 0))) (tB 228 p (tB 229 p (tB 231 p (tL 231 p (.iload 21) 0) (tL 229 p (.istore 18) 0)) (tL 228 p (.iconst 0) 0)) (tB 225 p (tL 225 p (.iinc 4 1) 0) (tL 224 p .ireturn 0)))) (tB 215 p (tB 218 p (tB 220 p (tB 223 p (tL 223 p (.iconst 0) 0) (tL 220 p (.if_icmp .eq 5) 225)) (tL 218 p (.iload 4) 0)) (tB 216 p (tL 216 p (.iload 28) 0) (tL 215 p .ireturn 0))) (tB 211 p (tB 214 p (tL 214 p (.iconst 0) 0) (tL 211 p (.if_icmp .eq 60) 271)) (tB 210 p (tL 210 p (.iconst (-1)) 0) (tL 208 p (.iload 28) 0))))) (tB 187 p (tB 198 p (tB 202 p (tB 204 p (tB 205 p (tL 205 p (.if_icmp .ne 11) 216) (tL 204 p (.iload_n 3) 0)) (tL 202 p (.iload 4) 0)) (tB 199 p (tL 199 p (.if_icmp .gt 9) 208) (tL 198 p (.iconst 3) 0))) (tB 191 p (tB 194 p (tB 196 p (tL 196 p (.iload 25) 0) (tL 194 p (.istore 28) 0)) (tL 191 p (.invokevirtual 12) 3)) (tB 189 p (tL 189 p (.iload 25) 0) (tL 187 p (.iload 27) 0)))) (tB 180 p (tB 183 p (tB 184 p (tB 185 p (tL 185 p (.iload 26) 0) (tL 184 p .iand 0)) (tL 183 p (.iconst 3) 0)) (tB 181 p (tL 181 p (.iload 21) 0) (tL 180 p (.aload_n 2) 0))) (tB 177 p (tB 178 p (tL 178 p (.istore 27) 0) (tL 177 p .isub 0)) (tB 175 p (tL 175 p (.bipush 100) 0) (tL 173 p (.iload 23) 0)))))) (tB 142 p (tB 158 p (tB 166 p (tB 169 p (tB 170 p (tB 171 p (tL 171 p (.istore 26) 0) (tL 170 p .isub 0)) (tL 169 p (.iconst 3) 0)) (tB 168 p (tL 168 p .iand 0) (tL 166 p (.bipush 7) 0))) (tB 161 p (tB 162 p (tB 164 p (tL 164 p (.iload 22) 0) (tL 162 p (.istore 25) 0)) (tL 161 p .irem 0)) (tB 160 p (tL 160 p (.iconst 5) 0) (tL 158 p (.iload 24) 0)))) (tB 148 p (tB 151 p (tB 153 p (tB 155 p (tL 155 p (.if_icmp .gt 119) 274) (tL 153 p (.bipush 6) 0)) (tL 151 p (.iload 20) 0)) (tB 149 p (tL 149 p (.istore 24) 0) (tL 148 p .iand 0))) (tB 144 p (tB 145 p (tL 145 p (.sipush 255) 0) (tL 144 p .iaload 0)) (tB 143 p (tL 143 p .iadd 0) (tL 142 p (.iconst 4) 0))))) (tB 128 p (tB 133 p (tB 137 p (tB 139 p (tB 140 p (tL 140 p (.iload 19) 0) (tL 139 p (.aload_n 0) 0)) (tL 137 p (.istore 23) 0)) (tB 136 p (tL 136 p .iand 0) (tL 133 p (.sipush 255) 0))) (tB 131 p (tB 132 p (tL 132 p .iaload 0) (tL 131 p .iadd 0)) (tB 130 p (tL 130 p (.iconst 3) 0) (tL 128 p (.iload 19) 0)))) (tB 120 p (tB 124 p (tB 125 p (tB 127 p (tL 127 p (.aload_n 0) 0) (tL 125 p (.istore 22) 0)) (tL 124 p .iand 0)) (tB 121 p (tL 121 p (.sipush 255) 0) (tL 120 p .iaload 0))) (tB 118 p (tB 119 p (tL 119 p .iadd 0) (tL 118 p (.iconst 2) 0)) (tB 116 p (tL 116 p (.iload 19) 0) (tL 115 p (.aload_n 0) 0))))))) (tB 58 p (tB 87 p (tB 100 p (tB 107 p (tB 109 p (tB 112 p (tB 113 p (tL 113 p (.istore 21) 0) (tL 112 p .iand 0)) (tL 109 p (.sipush 255) 0)) (tB 108 p (tL 108 p .iaload 0) (tL 107 p .iadd 0))) (tB 103 p (tB 104 p (tB 106 p (tL 106 p (.iconst 1) 0) (tL 104 p (.iload 19) 0)) (tL 103 p (.aload_n 0) 0)) (tB 101 p (tL 101 p (.istore 20) 0) (tL 100 p .iand 0)))) (tB 91 p (tB 95 p (tB 97 p (tB 98 p (tL 98 p (.bipush 15) 0) (tL 97 p .iaload 0)) (tL 95 p (.iload 19) 0)) (tB 94 p (tL 94 p (.aload_n 0) 0) (tL 91 p (.if_icmp .ge 1019) 1110))) (tB 89 p (tB 90 p (tL 90 p .arraylength 0) (tL 89 p (.aload_n 0) 0)) (tB 88 p (tL 88 p .iadd 0) (tL 87 p (.iconst 4) 0))))) (tB 71 p (tB 79 p (tB 82 p (tB 83 p (tB 85 p (tL 85 p (.iload 19) 0) (tL 83 p (.istore 19) 0)) (tL 82 p (.iconst 1) 0)) (tB 80 p (tL 80 p (.istore 18) 0) (tL 79 p (.iconst 0) 0))) (tB 74 p (tB 76 p (tB 77 p (tL 77 p (.istore 17) 0) (tL 76 p (.iconst 0) 0)) (tL 74 p (.istore 16) 0)) (tB 73 p (tL 73 p (.iconst 0) 0) (tL 71 p (.istore 15) 0)))) (tB 64 p (tB 67 p (tB 68 p (tB 70 p (tL 70 p (.iconst 0) 0) (tL 68 p (.istore 14) 0)) (tL 67 p (.iconst 0) 0)) (tB 65 p (tL 65 p (.istore 13) 0) (tL 64 p (.iconst 0) 0))) (tB 61 p (tB 62 p (tL 62 p (.istore 12) 0) (tL 61 p (.iconst 0) 0)) (tB 59 p (tL 59 p (.istore 11) 0) (tL 58 p (.iconst 0) 0)))))) (tB 27 p (tB 43 p (tB 50 p (tB 53 p (tB 55 p (tB 56 p (tL 56 p (.istore 10) 0) (tL 55 p (.iconst 2) 0)) (tL 53 p (.istore 9) 0)) (tB 52 p (tL 52 p (.iconst 0) 0) (tL 50 p (.istore 8) 0))) (tB 46 p (tB 47 p (tB 49 p (tL 49 p (.iconst 0) 0) (tL 47 p (.istore 7) 0)) (tL 46 p (.iconst 1) 0)) (tB 44 p (tL 44 p (.istore 6) 0) (tL 43 p (.iconst 1) 0)))) (tB 36 p (tB 38 p (tB 40 p (tB 41 p (tL 41 p (.istore 5) 0) (tL 40 p (.iconst 1) 0)) (tL 38 p (.istore 4) 0)) (tB 37 p (tL 37 p (.iconst 0) 0) (tL 36 p (.istore_n 3) 0))) (tB 32 p (tB 35 p (tL 35 p (.iload_n 1) 0) (tL 32 p (.goto 4) 36)) (tB 30 p (tL 30 p (.bipush 8) 0) (tL 27 p (.if_icmp .ge 8) 35))))) (tB 13 p (tB 19 p (tB 23 p (tB 24 p (tB 25 p (tL 25 p (.bipush 8) 0) (tL 24 p (.iload_n 1) 0)) (tL 23 p (.astore_n 2) 0)) (tB 20 p (tL 20 p (.invokespecial 9) 1) (tL 19 p (.iload_n 1) 0))) (tB 15 p (tB 18 p (tL 18 p .dup 0) (tL 15 p (.new 7) 0)) (tB 14 p (tL 14 p (.istore_n 1) 0) (tL 13 p .iand 0)))) (tB 5 p (tB 9 p (tB 10 p (tB 11 p (tL 11 p (.bipush 15) 0) (tL 10 p .iaload 0)) (tL 9 p (.iconst 0) 0)) (tB 8 p (tL 8 p (.aload_n 0) 0) (tL 5 p (.ifCond .le 10) 15))) (tB 3 p (tB 4 p (tL 4 p .arraylength 0) (tL 3 p (.aload_n 0) 0)) (tB 2 p (tL 2 p (.istore_n 1) 0) (tL 0 p (.bipush 8) 0))))))))))
set_option maxHeartbeats 4000000 in
def cd1 (p : Nat) : Option (Instr × Nat) := (tB 57 p (tB 82 p (tB 94 p (tB 102 p (tB 104 p (tB 107 p (tL 107 p .return_ 0) (tL 104 p (.putfield 46) 19)) (tB 103 p (tL 103 p (.iconst 0) 0) (tL 102 p (.aload_n 0) 0))) (tB 98 p (tB 99 p (tL 99 p (.invokevirtual 43) 2) (tL 98 p (.aload_n 0) 0)) (tB 95 p (tL 95 p (.putfield 40) 9) (tL 94 p (.iconst 0) 0)))) (tB 88 p (tB 90 p (tB 93 p (tL 93 p (.aload_n 0) 0) (tL 90 p (.putfield 36) 8)) (tB 89 p (tL 89 p (.iload_n 2) 0) (tL 88 p (.aload_n 0) 0))) (tB 85 p (tB 87 p (tL 87 p (.istore_n 2) 0) (tL 85 p (.bipush 32) 0)) (tL 82 p (.if_icmp .le 6) 88)))) (tB 70 p (tB 76 p (tB 79 p (tB 80 p (tL 80 p (.bipush 32) 0) (tL 79 p (.iload_n 2) 0)) (tB 78 p (tL 78 p (.istore_n 2) 0) (tL 76 p (.bipush 8) 0))) (tB 71 p (tB 73 p (tL 73 p (.if_icmp .ge 6) 79) (tL 71 p (.bipush 8) 0)) (tL 70 p (.iload_n 2) 0))) (tB 63 p (tB 68 p (tB 69 p (tL 69 p (.istore_n 2) 0) (tL 68 p (.iload_n 1) 0)) (tB 65 p (tL 65 p (.putfield 33) 7) (tL 63 p (.newarray .int) 0))) (tB 60 p (tB 61 p (tL 61 p (.bipush 32) 0) (tL 60 p (.aload_n 0) 0)) (tL 57 p (.putfield 30) 6))))) (tB 28 p (tB 41 p (tB 49 p (tB 53 p (tB 55 p (tL 55 p (.newarray .int) 0) (tL 53 p (.bipush 32) 0)) (tB 52 p (tL 52 p (.aload_n 0) 0) (tL 49 p (.putfield 26) 5))) (tB 45 p (tB 47 p (tL 47 p (.newarray .boolean) 0) (tL 45 p (.bipush 32) 0)) (tB 44 p (tL 44 p (.aload_n 0) 0) (tL 41 p (.putfield 22) 4)))) (tB 33 p (tB 37 p (tB 39 p (tL 39 p (.newarray .long) 0) (tL 37 p (.bipush 32) 0)) (tB 36 p (tL 36 p (.aload_n 0) 0) (tL 33 p (.putfield 19) 3))) (tB 29 p (tB 31 p (tL 31 p (.newarray .int) 0) (tL 29 p (.bipush 32) 0)) (tL 28 p (.aload_n 0) 0)))) (tB 13 p (tB 20 p (tB 23 p (tB 25 p (tL 25 p (.putfield 16) 2) (tL 23 p (.newarray .int) 0)) (tB 21 p (tL 21 p (.bipush 32) 0) (tL 20 p (.aload_n 0) 0))) (tB 15 p (tB 17 p (tL 17 p (.putfield 13) 1) (tL 15 p (.newarray .int) 0)) (tL 13 p (.bipush 32) 0))) (tB 5 p (tB 9 p (tB 12 p (tL 12 p (.aload_n 0) 0) (tL 9 p (.putfield 7) 0)) (tB 7 p (tL 7 p (.newarray .int) 0) (tL 5 p (.bipush 32) 0))) (tB 1 p (tB 4 p (tL 4 p (.aload_n 0) 0) (tL 1 p (.invokespecial 1) 0)) (tL 0 p (.aload_n 0) 0))))))
set_option maxHeartbeats 4000000 in
def cd2 (p : Nat) : Option (Instr × Nat) := (tB 22 p (tB 35 p (tB 40 p (tB 42 p (tB 45 p (tL 45 p .return_ 0) (tL 42 p (.putfield 74) 18)) (tB 41 p (tL 41 p (.iconst 0) 0) (tL 40 p (.aload_n 0) 0))) (tB 36 p (tB 37 p (tL 37 p (.putfield 71) 17) (tL 36 p (.iconst 0) 0)) (tL 35 p (.aload_n 0) 0))) (tB 27 p (tB 31 p (tB 32 p (tL 32 p (.putfield 68) 16) (tL 31 p (.iconst 0) 0)) (tB 30 p (tL 30 p (.aload_n 0) 0) (tL 27 p (.putfield 65) 15))) (tB 25 p (tB 26 p (tL 26 p (.iconst 2) 0) (tL 25 p (.aload_n 0) 0)) (tL 22 p (.putfield 62) 14)))) (tB 11 p (tB 16 p (tB 20 p (tB 21 p (tL 21 p (.iconst 0) 0) (tL 20 p (.aload_n 0) 0)) (tB 17 p (tL 17 p (.putfield 59) 13) (tL 16 p (.iconst 0) 0))) (tB 12 p (tB 15 p (tL 15 p (.aload_n 0) 0) (tL 12 p (.putfield 56) 12)) (tL 11 p (.iconst 1) 0))) (tB 5 p (tB 7 p (tB 10 p (tL 10 p (.aload_n 0) 0) (tL 7 p (.putfield 53) 11)) (tB 6 p (tL 6 p (.iconst 1) 0) (tL 5 p (.aload_n 0) 0))) (tB 1 p (tB 2 p (tL 2 p (.putfield 50) 10) (tL 1 p (.iconst 1) 0)) (tL 0 p (.aload_n 0) 0)))))
set_option maxHeartbeats 4000000 in
def cd3 (p : Nat) : Option (Instr × Nat) := (tB 53 p (tB 78 p (tB 90 p (tB 96 p (tB 100 p (tB 102 p (tL 102 p .ireturn 0) (tL 100 p (.iload 5) 0)) (tB 97 p (tL 97 p (.putfield 46) 19) (tL 96 p (.iconst 0) 0))) (tB 92 p (tB 95 p (tL 95 p (.aload_n 0) 0) (tL 92 p (.putfield 40) 9)) (tB 91 p (tL 91 p .iadd 0) (tL 90 p (.iconst 1) 0)))) (tB 84 p (tB 87 p (tB 88 p (tL 88 p (.iload 5) 0) (tL 87 p (.aload_n 0) 0)) (tB 86 p (tL 86 p .iastore 0) (tL 84 p (.iload 4) 0))) (tB 79 p (tB 82 p (tL 82 p (.iload 5) 0) (tL 79 p (.getfield 19) 3)) (tL 78 p (.aload_n 0) 0)))) (tB 65 p (tB 72 p (tB 76 p (tB 77 p (tL 77 p .iastore 0) (tL 76 p (.iload_n 3) 0)) (tB 73 p (tL 73 p (.goto 4) 77) (tL 72 p (.iconst 0) 0))) (tB 68 p (tB 69 p (tL 69 p (.ifCond .eq 7) 76) (tL 68 p .iand 0)) (tB 67 p (tL 67 p (.iconst 2) 0) (tL 65 p (.iload 4) 0)))) (tB 58 p (tB 60 p (tB 63 p (tL 63 p (.iload 5) 0) (tL 60 p (.getfield 16) 2)) (tB 59 p (tL 59 p (.aload_n 0) 0) (tL 58 p .iastore 0))) (tB 54 p (tB 57 p (tL 57 p (.iload_n 2) 0) (tL 54 p (.goto 4) 58)) (tL 53 p (.iconst 0) 0))))) (tB 26 p (tB 39 p (tB 46 p (tB 49 p (tB 50 p (tL 50 p (.ifCond .eq 7) 57) (tL 49 p .iand 0)) (tB 48 p (tL 48 p (.iconst 1) 0) (tL 46 p (.iload 4) 0))) (tB 41 p (tB 44 p (tL 44 p (.iload 5) 0) (tL 41 p (.getfield 13) 1)) (tB 40 p (tL 40 p (.aload_n 0) 0) (tL 39 p .iastore 0)))) (tB 32 p (tB 36 p (tB 38 p (tL 38 p (.iload_n 1) 0) (tL 36 p (.iload 5) 0)) (tB 33 p (tL 33 p (.getfield 7) 0) (tL 32 p (.aload_n 0) 0))) (tB 27 p (tB 30 p (tL 30 p (.istore 5) 0) (tL 27 p (.getfield 40) 9)) (tL 26 p (.aload_n 0) 0)))) (tB 13 p (tB 18 p (tB 24 p (tB 25 p (tL 25 p .ireturn 0) (tL 24 p (.iconst (-1)) 0)) (tB 21 p (tL 21 p (.if_icmp .lt 5) 26) (tL 18 p (.getfield 36) 8))) (tB 14 p (tB 17 p (tL 17 p (.aload_n 0) 0) (tL 14 p (.getfield 40) 9)) (tL 13 p (.aload_n 0) 0))) (tB 7 p (tB 11 p (tB 12 p (tL 12 p .ireturn 0) (tL 11 p (.iconst (-1)) 0)) (tB 8 p (tL 8 p (.if_icmp .le 5) 13) (tL 7 p (.iconst 3) 0))) (tB 2 p (tB 5 p (tL 5 p (.iload 4) 0) (tL 2 p (.ifCond .lt 9) 11)) (tL 0 p (.iload 4) 0))))))
set_option maxHeartbeats 4000000 in
def cd4 (p : Nat) : Option (Instr × Nat) := (tB 1 p (tB 4 p (tL 4 p .ireturn 0) (tL 1 p (.getfield 40) 9)) (tL 0 p (.aload_n 0) 0))
set_option maxHeartbeats 4000000 in
def cd5 (p : Nat) : Option (Instr × Nat) := (tB 1 p (tB 4 p (tL 4 p .ireturn 0) (tL 1 p (.getfield 46) 19)) (tL 0 p (.aload_n 0) 0))
set_option maxHeartbeats 4000000 in
def cd6 (p : Nat) : Option (Instr × Nat) := (tB 54 p (tB 87 p (tB 102 p (tB 111 p (tB 115 p (tB 116 p (tL 116 p .ireturn 0) (tL 115 p (.iconst 0) 0)) (tB 112 p (tL 112 p (.goto 4) 116) (tL 111 p (.iconst 1) 0))) (tB 107 p (tB 108 p (tL 108 p (.if_icmp .ne 7) 115) (tL 107 p (.iconst (-1)) 0)) (tB 104 p (tL 104 p (.invokevirtual 68) 7) (tL 102 p (.bipush 10) 0)))) (tB 93 p (tB 98 p (tB 101 p (tL 101 p (.aload_n 0) 0) (tL 98 p (.if_icmp .ne 17) 115)) (tB 96 p (tL 96 p (.iload 10) 0) (tL 93 p (.invokevirtual 68) 7))) (tB 90 p (tB 91 p (tL 91 p (.bipush 9) 0) (tL 90 p (.aload_n 0) 0)) (tL 87 p (.if_icmp .ne 28) 115)))) (tB 69 p (tB 79 p (tB 82 p (tB 85 p (tL 85 p (.iload 9) 0) (tL 82 p (.invokevirtual 68) 7)) (tB 80 p (tL 80 p (.bipush 8) 0) (tL 79 p (.aload_n 0) 0))) (tB 74 p (tB 76 p (tL 76 p (.if_icmp .ne 39) 115) (tL 74 p (.iload 8) 0)) (tB 71 p (tL 71 p (.invokevirtual 68) 7) (tL 69 p (.bipush 7) 0)))) (tB 60 p (tB 65 p (tB 68 p (tL 68 p (.aload_n 0) 0) (tL 65 p (.if_icmp .ne 50) 115)) (tB 63 p (tL 63 p (.iload 7) 0) (tL 60 p (.invokevirtual 68) 7))) (tB 57 p (tB 58 p (tL 58 p (.bipush 6) 0) (tL 57 p (.aload_n 0) 0)) (tL 54 p (.if_icmp .ne 61) 115))))) (tB 24 p (tB 38 p (tB 47 p (tB 49 p (tB 52 p (tL 52 p (.iload 6) 0) (tL 49 p (.invokevirtual 68) 7)) (tB 48 p (tL 48 p (.iconst 5) 0) (tL 47 p (.aload_n 0) 0))) (tB 42 p (tB 44 p (tL 44 p (.if_icmp .ne 71) 115) (tL 42 p (.iload 5) 0)) (tB 39 p (tL 39 p (.invokevirtual 68) 7) (tL 38 p (.iconst 4) 0)))) (tB 29 p (tB 34 p (tB 37 p (tL 37 p (.aload_n 0) 0) (tL 34 p (.if_icmp .ne 81) 115)) (tB 32 p (tL 32 p (.iload 4) 0) (tL 29 p (.invokevirtual 68) 7))) (tB 27 p (tB 28 p (tL 28 p (.iconst 3) 0) (tL 27 p (.aload_n 0) 0)) (tL 24 p (.if_icmp .ne 91) 115)))) (tB 11 p (tB 18 p (tB 20 p (tB 23 p (tL 23 p (.iload_n 3) 0) (tL 20 p (.invokevirtual 68) 7)) (tB 19 p (tL 19 p (.iconst 2) 0) (tL 18 p (.aload_n 0) 0))) (tB 14 p (tB 15 p (tL 15 p (.if_icmp .ne 100) 115) (tL 14 p (.iload_n 2) 0)) (tL 11 p (.invokevirtual 68) 7))) (tB 5 p (tB 9 p (tB 10 p (tL 10 p (.iconst 1) 0) (tL 9 p (.aload_n 0) 0)) (tB 6 p (tL 6 p (.if_icmp .ne 109) 115) (tL 5 p (.iload_n 1) 0))) (tB 1 p (tB 2 p (tL 2 p (.invokevirtual 68) 7) (tL 1 p (.iconst 0) 0)) (tL 0 p (.aload_n 0) 0))))))
set_option maxHeartbeats 4000000 in
def cd7 (p : Nat) : Option (Instr × Nat) := (tB 50 p (tB 77 p (tB 92 p (tB 99 p (tB 103 p (tB 104 p (tL 104 p .ireturn 0) (tL 103 p (.iconst (-1)) 0)) (tB 102 p (tL 102 p .ireturn 0) (tL 99 p (.getfield 36) 8))) (tB 95 p (tB 98 p (tL 98 p (.aload_n 0) 0) (tL 95 p (.if_icmp .ne 8) 103)) (tB 93 p (tL 93 p (.bipush 9) 0) (tL 92 p (.iload_n 1) 0)))) (tB 84 p (tB 88 p (tB 91 p (tL 91 p .ireturn 0) (tL 88 p (.getfield 74) 18)) (tB 87 p (tL 87 p (.aload_n 0) 0) (tL 84 p (.if_icmp .ne 8) 92))) (tB 81 p (tB 82 p (tL 82 p (.bipush 8) 0) (tL 81 p (.iload_n 1) 0)) (tB 80 p (tL 80 p .ireturn 0) (tL 77 p (.getfield 71) 17))))) (tB 62 p (tB 70 p (tB 73 p (tB 76 p (tL 76 p (.aload_n 0) 0) (tL 73 p (.if_icmp .ne 8) 81)) (tB 71 p (tL 71 p (.bipush 7) 0) (tL 70 p (.iload_n 1) 0))) (tB 66 p (tB 69 p (tL 69 p .ireturn 0) (tL 66 p (.getfield 68) 16)) (tB 65 p (tL 65 p (.aload_n 0) 0) (tL 62 p (.if_icmp .ne 8) 70)))) (tB 55 p (tB 59 p (tB 60 p (tL 60 p (.bipush 6) 0) (tL 59 p (.iload_n 1) 0)) (tB 58 p (tL 58 p .ireturn 0) (tL 55 p (.getfield 65) 15))) (tB 51 p (tB 54 p (tL 54 p (.aload_n 0) 0) (tL 51 p (.if_icmp .ne 8) 59)) (tL 50 p (.iconst 5) 0))))) (tB 25 p (tB 38 p (tB 44 p (tB 48 p (tB 49 p (tL 49 p (.iload_n 1) 0) (tL 48 p .ireturn 0)) (tB 45 p (tL 45 p (.getfield 62) 14) (tL 44 p (.aload_n 0) 0))) (tB 40 p (tB 41 p (tL 41 p (.if_icmp .ne 8) 49) (tL 40 p (.iconst 4) 0)) (tB 39 p (tL 39 p (.iload_n 1) 0) (tL 38 p .ireturn 0)))) (tB 30 p (tB 34 p (tB 35 p (tL 35 p (.getfield 59) 13) (tL 34 p (.aload_n 0) 0)) (tB 31 p (tL 31 p (.if_icmp .ne 8) 39) (tL 30 p (.iconst 3) 0))) (tB 28 p (tB 29 p (tL 29 p (.iload_n 1) 0) (tL 28 p .ireturn 0)) (tL 25 p (.getfield 56) 12)))) (tB 11 p (tB 19 p (tB 21 p (tB 24 p (tL 24 p (.aload_n 0) 0) (tL 21 p (.if_icmp .ne 8) 29)) (tB 20 p (tL 20 p (.iconst 2) 0) (tL 19 p (.iload_n 1) 0))) (tB 15 p (tB 18 p (tL 18 p .ireturn 0) (tL 15 p (.getfield 53) 11)) (tB 14 p (tL 14 p (.aload_n 0) 0) (tL 11 p (.if_icmp .ne 8) 19)))) (tB 5 p (tB 9 p (tB 10 p (tL 10 p (.iconst 1) 0) (tL 9 p (.iload_n 1) 0)) (tB 8 p (tL 8 p .ireturn 0) (tL 5 p (.getfield 50) 10))) (tB 1 p (tB 4 p (tL 4 p (.aload_n 0) 0) (tL 1 p (.ifCond .ne 8) 9)) (tL 0 p (.iload_n 1) 0))))))
set_option maxHeartbeats 4000000 in
def cd8 (p : Nat) : Option (Instr × Nat) := (tB 34 p (tB 48 p (tB 55 p (tB 60 p (tB 61 p (tB 62 p (tL 62 p .ireturn 0) (tL 61 p (.iconst 0) 0)) (tL 60 p .ireturn 0)) (tB 58 p (tB 59 p (tL 59 p .iaload 0) (tL 58 p (.iload_n 1) 0)) (tL 55 p (.getfield 19) 3))) (tB 50 p (tB 51 p (tB 54 p (tL 54 p (.aload_n 0) 0) (tL 51 p (.if_icmp .ne 10) 61)) (tL 50 p (.iconst 3) 0)) (tB 49 p (tL 49 p (.iload_n 2) 0) (tL 48 p .ireturn 0)))) (tB 39 p (tB 43 p (tB 46 p (tB 47 p (tL 47 p .iaload 0) (tL 46 p (.iload_n 1) 0)) (tL 43 p (.getfield 16) 2)) (tB 42 p (tL 42 p (.aload_n 0) 0) (tL 39 p (.if_icmp .ne 10) 49))) (tB 36 p (tB 37 p (tB 38 p (tL 38 p (.iconst 2) 0) (tL 37 p (.iload_n 2) 0)) (tL 36 p .ireturn 0)) (tB 35 p (tL 35 p .iaload 0) (tL 34 p (.iload_n 1) 0))))) (tB 18 p (tB 25 p (tB 27 p (tB 30 p (tB 31 p (tL 31 p (.getfield 13) 1) (tL 30 p (.aload_n 0) 0)) (tL 27 p (.if_icmp .ne 10) 37)) (tB 26 p (tL 26 p (.iconst 1) 0) (tL 25 p (.iload_n 2) 0))) (tB 22 p (tB 23 p (tB 24 p (tL 24 p .ireturn 0) (tL 23 p .iaload 0)) (tL 22 p (.iload_n 1) 0)) (tB 19 p (tL 19 p (.getfield 7) 0) (tL 18 p (.aload_n 0) 0)))) (tB 9 p (tB 13 p (tB 14 p (tB 15 p (tL 15 p (.ifCond .ne 10) 25) (tL 14 p (.iload_n 2) 0)) (tL 13 p .ireturn 0)) (tB 12 p (tL 12 p (.iconst 0) 0) (tL 9 p (.if_icmp .lt 5) 14))) (tB 4 p (tB 5 p (tB 6 p (tL 6 p (.getfield 40) 9) (tL 5 p (.aload_n 0) 0)) (tL 4 p (.iload_n 1) 0)) (tB 1 p (tL 1 p (.ifCond .lt 11) 12) (tL 0 p (.iload_n 1) 0))))))
set_option maxHeartbeats 4000000 in
def cd9 (p : Nat) : Option (Instr × Nat) := (tB 16 p (tB 22 p (tB 26 p (tB 27 p (tL 27 p .ireturn 0) (tL 26 p .iaload 0)) (tB 25 p (tL 25 p (.iload_n 1) 0) (tL 22 p (.getfield 30) 6))) (tB 20 p (tB 21 p (tL 21 p (.aload_n 0) 0) (tL 20 p .ireturn 0)) (tB 19 p (tL 19 p (.iconst (-1)) 0) (tL 16 p (.if_icmp .lt 5) 21)))) (tB 8 p (tB 12 p (tB 13 p (tL 13 p (.getfield 40) 9) (tL 12 p (.aload_n 0) 0)) (tB 11 p (tL 11 p (.iload_n 1) 0) (tL 8 p (.ifCond .lt 11) 19))) (tB 4 p (tB 7 p (tL 7 p (.iload_n 1) 0) (tL 4 p (.ifCond .eq 15) 19)) (tB 1 p (tL 1 p (.getfield 46) 19) (tL 0 p (.aload_n 0) 0)))))
set_option maxHeartbeats 4000000 in
def cd10 (p : Nat) : Option (Instr × Nat) := (tB 21 p (tB 31 p (tB 36 p (tB 37 p (tB 38 p (tL 38 p .lreturn 0) (tL 37 p .laload 0)) (tL 36 p (.iload_n 1) 0)) (tB 32 p (tB 33 p (tL 33 p (.getfield 22) 4) (tL 32 p (.aload_n 0) 0)) (tL 31 p .lreturn 0))) (tB 26 p (tB 27 p (tB 30 p (tL 30 p (.lconst 0) 0) (tL 27 p (.ifCond .eq 5) 32)) (tL 26 p .baload 0)) (tB 22 p (tB 25 p (tL 25 p (.iload_n 1) 0) (tL 22 p (.getfield 26) 5)) (tL 21 p (.aload_n 0) 0)))) (tB 11 p (tB 16 p (tB 19 p (tB 20 p (tL 20 p .lreturn 0) (tL 19 p (.lconst 0) 0)) (tL 16 p (.if_icmp .lt 5) 21)) (tB 12 p (tB 13 p (tL 13 p (.getfield 40) 9) (tL 12 p (.aload_n 0) 0)) (tL 11 p (.iload_n 1) 0))) (tB 4 p (tB 7 p (tB 8 p (tL 8 p (.ifCond .lt 11) 19) (tL 7 p (.iload_n 1) 0)) (tL 4 p (.ifCond .eq 15) 19)) (tB 1 p (tL 1 p (.getfield 46) 19) (tL 0 p (.aload_n 0) 0)))))
set_option maxHeartbeats 4000000 in
def cd11 (p : Nat) : Option (Instr × Nat) := (tB 16 p (tB 22 p (tB 26 p (tB 27 p (tL 27 p .ireturn 0) (tL 26 p .baload 0)) (tB 25 p (tL 25 p (.iload_n 1) 0) (tL 22 p (.getfield 26) 5))) (tB 20 p (tB 21 p (tL 21 p (.aload_n 0) 0) (tL 20 p .ireturn 0)) (tB 19 p (tL 19 p (.iconst 0) 0) (tL 16 p (.if_icmp .lt 5) 21)))) (tB 8 p (tB 12 p (tB 13 p (tL 13 p (.getfield 40) 9) (tL 12 p (.aload_n 0) 0)) (tB 11 p (tL 11 p (.iload_n 1) 0) (tL 8 p (.ifCond .lt 11) 19))) (tB 4 p (tB 7 p (tL 7 p (.iload_n 1) 0) (tL 4 p (.ifCond .eq 15) 19)) (tB 1 p (tL 1 p (.getfield 46) 19) (tL 0 p (.aload_n 0) 0)))))
set_option maxHeartbeats 4000000 in
def cd12 (p : Nat) : Option (Instr × Nat) := (tB 34 p (tB 47 p (tB 58 p (tB 60 p (tB 63 p (tB 64 p (tL 64 p .ireturn 0) (tL 63 p (.iconst 1) 0)) (tL 60 p (.putfield 46) 19)) (tB 59 p (tL 59 p (.iconst 0) 0) (tL 58 p (.aload_n 0) 0))) (tB 51 p (tB 54 p (tB 55 p (tL 55 p (.putfield 74) 18) (tL 54 p (.iconst 0) 0)) (tL 51 p (.goto 4) 55)) (tB 50 p (tL 50 p (.iload_n 2) 0) (tL 47 p (.ifCond .eq 7) 54)))) (tB 40 p (tB 42 p (tB 45 p (tB 46 p (tL 46 p (.iload_n 3) 0) (tL 45 p (.aload_n 0) 0)) (tL 42 p (.putfield 71) 17)) (tB 41 p (tL 41 p (.iload_n 1) 0) (tL 40 p (.aload_n 0) 0))) (tB 38 p (tB 39 p (tL 39 p .ireturn 0) (tL 38 p (.iconst 0) 0)) (tB 35 p (tL 35 p (.ifCond .ge 5) 40) (tL 34 p (.iload_n 2) 0))))) (tB 15 p (tB 25 p (tB 29 p (tB 30 p (tB 31 p (tL 31 p (.ifCond .eq 9) 40) (tL 30 p (.iload_n 3) 0)) (tL 29 p (.istore_n 3) 0)) (tB 28 p (tL 28 p (.iconst 0) 0) (tL 25 p (.goto 4) 29))) (tB 19 p (tB 21 p (tB 24 p (tL 24 p (.iconst 1) 0) (tL 21 p (.if_icmp .ne 7) 28)) (tL 19 p (.bipush 9) 0)) (tB 18 p (tL 18 p (.iload_n 1) 0) (tL 15 p (.if_icmp .eq 9) 24)))) (tB 7 p (tB 11 p (tB 12 p (tB 13 p (tL 13 p (.bipush 8) 0) (tL 12 p (.iload_n 1) 0)) (tL 11 p .ireturn 0)) (tB 10 p (tL 10 p (.iconst 0) 0) (tL 7 p (.if_icmp .le 5) 12))) (tB 4 p (tB 5 p (tL 5 p (.bipush 9) 0) (tL 4 p (.iload_n 1) 0)) (tB 1 p (tL 1 p (.ifCond .lt 9) 10) (tL 0 p (.iload_n 1) 0))))))
set_option maxHeartbeats 4000000 in
def cd13 (p : Nat) : Option (Instr × Nat) := (tB 16 p (tB 27 p (tB 32 p (tB 35 p (tB 36 p (tL 36 p .ireturn 0) (tL 35 p (.iconst 0) 0)) (tL 32 p (.putfield 46) 19)) (tB 30 p (tB 31 p (tL 31 p (.iconst 1) 0) (tL 30 p (.aload_n 0) 0)) (tL 27 p (.goto (-16)) 11))) (tB 20 p (tB 21 p (tB 24 p (tL 24 p (.iinc 1 1) 0) (tL 21 p (.invokevirtual 81) 17)) (tL 20 p (.iload_n 1) 0)) (tB 19 p (tL 19 p (.aload_n 0) 0) (tL 16 p (.if_icmp .ge 14) 30)))) (tB 9 p (tB 11 p (tB 12 p (tB 13 p (tL 13 p (.getfield 40) 9) (tL 12 p (.aload_n 0) 0)) (tL 11 p (.iload_n 1) 0)) (tB 10 p (tL 10 p (.istore_n 1) 0) (tL 9 p (.iconst 0) 0))) (tB 4 p (tB 7 p (tB 8 p (tL 8 p .ireturn 0) (tL 7 p (.iconst (-1)) 0)) (tL 4 p (.ifCond .eq 5) 9)) (tB 1 p (tL 1 p (.invokevirtual 77) 14) (tL 0 p (.aload_n 0) 0)))))
set_option maxHeartbeats 4000000 in
def cd14 (p : Nat) : Option (Instr × Nat) := (tB 38 p (tB 56 p (tB 65 p (tB 70 p (tB 73 p (tB 74 p (tL 74 p .ireturn 0) (tL 73 p (.iconst 0) 0)) (tL 70 p (.goto 4) 74)) (tB 66 p (tB 69 p (tL 69 p (.iconst 1) 0) (tL 66 p (.ifCond .eq 7) 73)) (tL 65 p (.iload_n 2) 0))) (tB 60 p (tB 61 p (tB 62 p (tL 62 p (.ifCond .ne 7) 69) (tL 61 p (.iload_n 1) 0)) (tL 60 p (.istore_n 2) 0)) (tB 59 p (tL 59 p (.iconst 0) 0) (tL 56 p (.goto 4) 60)))) (tB 47 p (tB 51 p (tB 52 p (tB 55 p (tL 55 p (.iconst 1) 0) (tL 52 p (.if_icmp .ne 7) 59)) (tL 51 p (.iconst 3) 0)) (tB 48 p (tL 48 p (.getfield 65) 15) (tL 47 p (.aload_n 0) 0))) (tB 40 p (tB 43 p (tB 44 p (tL 44 p (.if_icmp .eq 11) 55) (tL 43 p (.iconst 1) 0)) (tL 40 p (.getfield 65) 15)) (tB 39 p (tL 39 p (.aload_n 0) 0) (tL 38 p (.istore_n 1) 0))))) (tB 18 p (tB 29 p (tB 33 p (tB 34 p (tB 37 p (tL 37 p (.iconst 0) 0) (tL 34 p (.goto 4) 38)) (tL 33 p (.iconst 1) 0)) (tB 30 p (tL 30 p (.if_icmp .ne 7) 37) (tL 29 p (.iconst 3) 0))) (tB 22 p (tB 25 p (tB 26 p (tL 26 p (.getfield 59) 13) (tL 25 p (.aload_n 0) 0)) (tL 22 p (.if_icmp .eq 11) 33)) (tB 21 p (tL 21 p (.iconst 1) 0) (tL 18 p (.getfield 59) 13)))) (tB 9 p (tB 15 p (tB 16 p (tB 17 p (tL 17 p (.aload_n 0) 0) (tL 16 p .ireturn 0)) (tL 15 p (.iconst 0) 0)) (tB 12 p (tL 12 p (.ifCond .eq 5) 17) (tL 9 p (.getfield 50) 10))) (tB 4 p (tB 5 p (tB 8 p (tL 8 p (.aload_n 0) 0) (tL 5 p (.if_icmp .ne 10) 15)) (tL 4 p (.iconst 1) 0)) (tB 1 p (tL 1 p (.getfield 56) 12) (tL 0 p (.aload_n 0) 0))))))
set_option maxHeartbeats 4000000 in
def cd15 (p : Nat) : Option (Instr × Nat) := (tB 5 p (tB 7 p (tB 10 p (tL 10 p .return_ 0) (tL 7 p (.putfield 46) 19)) (tB 6 p (tL 6 p (.iconst 0) 0) (tL 5 p (.aload_n 0) 0))) (tB 1 p (tB 2 p (tL 2 p (.putfield 40) 9) (tL 1 p (.iconst 0) 0)) (tL 0 p (.aload_n 0) 0)))
set_option maxHeartbeats 4000000 in
def cd16 (p : Nat) : Option (Instr × Nat) := (tB 31 p (tB 44 p (tB 55 p (tB 57 p (tB 60 p (tB 61 p (tL 61 p .ireturn 0) (tL 60 p (.iconst 1) 0)) (tL 57 p (.putfield 46) 19)) (tB 56 p (tL 56 p (.iconst 0) 0) (tL 55 p (.aload_n 0) 0))) (tB 48 p (tB 51 p (tB 52 p (tL 52 p (.putfield 62) 14) (tL 51 p (.iconst 0) 0)) (tL 48 p (.goto 4) 52)) (tB 47 p (tL 47 p (.iload_n 2) 0) (tL 44 p (.ifCond .eq 7) 51)))) (tB 37 p (tB 39 p (tB 42 p (tB 43 p (tL 43 p (.iload_n 3) 0) (tL 42 p (.aload_n 0) 0)) (tL 39 p (.putfield 59) 13)) (tB 38 p (tL 38 p (.iload_n 1) 0) (tL 37 p (.aload_n 0) 0))) (tB 35 p (tB 36 p (tL 36 p .ireturn 0) (tL 35 p (.iconst 0) 0)) (tB 32 p (tL 32 p (.ifCond .ge 5) 37) (tL 31 p (.iload_n 2) 0))))) (tB 13 p (tB 22 p (tB 26 p (tB 27 p (tB 28 p (tL 28 p (.ifCond .eq 9) 37) (tL 27 p (.iload_n 3) 0)) (tL 26 p (.istore_n 3) 0)) (tB 25 p (tL 25 p (.iconst 0) 0) (tL 22 p (.goto 4) 26))) (tB 17 p (tB 18 p (tB 21 p (tL 21 p (.iconst 1) 0) (tL 18 p (.if_icmp .ne 7) 25)) (tL 17 p (.iconst 3) 0)) (tB 16 p (tL 16 p (.iload_n 1) 0) (tL 13 p (.if_icmp .eq 8) 21)))) (tB 6 p (tB 10 p (tB 11 p (tB 12 p (tL 12 p (.iconst 1) 0) (tL 11 p (.iload_n 1) 0)) (tL 10 p .ireturn 0)) (tB 9 p (tL 9 p (.iconst 0) 0) (tL 6 p (.if_icmp .le 5) 11))) (tB 4 p (tB 5 p (tL 5 p (.iconst 3) 0) (tL 4 p (.iload_n 1) 0)) (tB 1 p (tL 1 p (.ifCond .lt 8) 9) (tL 0 p (.iload_n 1) 0))))))
set_option maxHeartbeats 4000000 in
def cd17 (p : Nat) : Option (Instr × Nat) := (tB 14 p (tB 20 p (tB 22 p (tB 25 p (tL 25 p .return_ 0) (tL 22 p (.invokevirtual 128) 27)) (tB 21 p (tL 21 p (.iload_n 1) 0) (tL 20 p (.aload_n 0) 0))) (tB 16 p (tB 19 p (tL 19 p .iastore 0) (tL 16 p (.getfield 125) 24)) (tB 15 p (tL 15 p (.aload_n 0) 0) (tL 14 p (.iload_n 1) 0)))) (tB 6 p (tB 10 p (tB 11 p (tL 11 p (.getfield 30) 6) (tL 10 p (.aload_n 0) 0)) (tB 7 p (tL 7 p (.invokevirtual 122) 21) (tL 6 p (.iload_n 1) 0))) (tB 2 p (tB 5 p (tL 5 p (.aload_n 0) 0) (tL 2 p (.invokevirtual 119) 18)) (tB 1 p (tL 1 p (.iload_n 1) 0) (tL 0 p (.aload_n 0) 0)))))
set_option maxHeartbeats 4000000 in
def cd18 (p : Nat) : Option (Instr × Nat) := (tB 68 p (tB 106 p (tB 124 p (tB 132 p (tB 137 p (tB 140 p (tB 143 p (tL 143 p .return_ 0) (tL 140 p (.goto (-26)) 114)) (tL 137 p (.iinc 4 1) 0)) (tB 134 p (tL 134 p (.putfield 96) 21) (tL 132 p (.iload 4) 0))) (tB 127 p (tB 128 p (tB 131 p (tL 131 p (.aload_n 0) 0) (tL 128 p (.if_icmp .ne 9) 137)) (tL 127 p (.iload_n 1) 0)) (tB 126 p (tL 126 p .iaload 0) (tL 124 p (.iload 4) 0)))) (tB 114 p (tB 117 p (tB 120 p (tB 121 p (tL 121 p (.getfield 33) 7) (tL 120 p (.aload_n 0) 0)) (tL 117 p (.if_icmp .ge 26) 143)) (tB 116 p (tL 116 p (.iload_n 2) 0) (tL 114 p (.iload 4) 0))) (tB 108 p (tB 111 p (tB 112 p (tL 112 p (.istore 4) 0) (tL 111 p (.iconst 0) 0)) (tL 108 p (.putfield 96) 21)) (tB 107 p (tL 107 p (.iconst 0) 0) (tL 106 p (.aload_n 0) 0))))) (tB 84 p (tB 95 p (tB 101 p (tB 102 p (tB 103 p (tL 103 p (.putfield 93) 20) (tL 102 p (.iload_n 2) 0)) (tL 101 p (.aload_n 0) 0)) (tB 98 p (tL 98 p (.goto (-86)) 12) (tL 95 p (.iinc 4 1) 0))) (tB 89 p (tB 91 p (tB 92 p (tL 92 p (.iinc 2 1) 0) (tL 91 p .iastore 0)) (tL 89 p (.iload 4) 0)) (tB 87 p (tL 87 p (.iload 5) 0) (tL 84 p (.getfield 33) 7)))) (tB 75 p (tB 77 p (tB 80 p (tB 83 p (tL 83 p (.aload_n 0) 0) (tL 80 p (.goto (-42)) 38)) (tL 77 p (.iinc 5 (-1)) 0)) (tB 76 p (tL 76 p .iastore 0) (tL 75 p .iaload 0))) (tB 73 p (tB 74 p (tL 74 p .isub 0) (tL 73 p (.iconst 1) 0)) (tB 71 p (tL 71 p (.iload 5) 0) (tL 68 p (.getfield 33) 7)))))) (tB 32 p (tB 50 p (tB 58 p (tB 62 p (tB 65 p (tB 67 p (tL 67 p (.aload_n 0) 0) (tL 65 p (.iload 5) 0)) (tL 62 p (.getfield 33) 7)) (tB 61 p (tL 61 p (.aload_n 0) 0) (tL 58 p (.ifCond .eq 25) 83))) (tB 53 p (tB 54 p (tB 55 p (tL 55 p (.invokevirtual 89) 19) (tL 54 p .iaload 0)) (tL 53 p .isub 0)) (tB 52 p (tL 52 p (.iconst 1) 0) (tL 50 p (.iload 5) 0)))) (tB 40 p (tB 44 p (tB 46 p (tB 47 p (tL 47 p (.getfield 33) 7) (tL 46 p (.aload_n 0) 0)) (tL 44 p (.iload 4) 0)) (tB 43 p (tL 43 p (.aload_n 0) 0) (tL 40 p (.ifCond .le 43) 83))) (tB 36 p (tB 38 p (tL 38 p (.iload 5) 0) (tL 36 p (.istore 5) 0)) (tB 35 p (tL 35 p (.iload_n 2) 0) (tL 32 p (.goto 63) 95))))) (tB 12 p (tB 22 p (tB 27 p (tB 28 p (tB 29 p (tL 29 p (.if_icmp .eq 6) 35) (tL 28 p (.iload_n 3) 0)) (tL 27 p .iaload 0)) (tB 25 p (tL 25 p (.iload 4) 0) (tL 22 p (.getfield 7) 0))) (tB 15 p (tB 18 p (tB 21 p (tL 21 p (.aload_n 0) 0) (tL 18 p (.if_icmp .ge 83) 101)) (tL 15 p (.getfield 40) 9)) (tB 14 p (tL 14 p (.aload_n 0) 0) (tL 12 p (.iload 4) 0)))) (tB 6 p (tB 8 p (tB 9 p (tB 10 p (tL 10 p (.istore 4) 0) (tL 9 p (.iconst 0) 0)) (tL 8 p (.istore_n 3) 0)) (tB 7 p (tL 7 p .iaload 0) (tL 6 p (.iload_n 1) 0))) (tB 2 p (tB 3 p (tL 3 p (.getfield 7) 0) (tL 2 p (.aload_n 0) 0)) (tB 1 p (tL 1 p (.istore_n 2) 0) (tL 0 p (.iconst 0) 0)))))))
set_option maxHeartbeats 4000000 in
def cd19 (p : Nat) : Option (Instr × Nat) := (tB 86 p (tB 125 p (tB 143 p (tB 153 p (tB 158 p (tB 161 p (tB 162 p (tL 162 p .ireturn 0) (tL 161 p (.iconst 0) 0)) (tL 158 p (.goto 4) 162)) (tB 154 p (tB 157 p (tL 157 p (.iconst 1) 0) (tL 154 p (.if_icmp .le 7) 161)) (tL 153 p .iaload 0))) (tB 148 p (tB 149 p (tB 152 p (tL 152 p (.iload_n 2) 0) (tL 149 p (.getfield 13) 1)) (tL 148 p (.aload_n 0) 0)) (tB 146 p (tB 147 p (tL 147 p .iaload 0) (tL 146 p (.iload_n 1) 0)) (tL 143 p (.getfield 13) 1)))) (tB 133 p (tB 140 p (tB 141 p (tB 142 p (tL 142 p (.aload_n 0) 0) (tL 141 p .ireturn 0)) (tL 140 p (.iconst 0) 0)) (tB 136 p (tB 137 p (tL 137 p (.goto 4) 141) (tL 136 p (.iconst 1) 0)) (tL 133 p (.if_icmp .ge 7) 140))) (tB 128 p (tB 131 p (tB 132 p (tL 132 p .iaload 0) (tL 131 p (.iload_n 2) 0)) (tL 128 p (.getfield 13) 1)) (tB 126 p (tB 127 p (tL 127 p (.aload_n 0) 0) (tL 126 p .iaload 0)) (tL 125 p (.iload_n 1) 0))))) (tB 103 p (tB 113 p (tB 118 p (tB 121 p (tB 122 p (tL 122 p (.getfield 13) 1) (tL 121 p (.aload_n 0) 0)) (tL 118 p (.if_icmp .ne 24) 142)) (tB 114 p (tB 117 p (tL 117 p (.iconst 1) 0) (tL 114 p (.getfield 50) 10)) (tL 113 p (.aload_n 0) 0))) (tB 108 p (tB 111 p (tB 112 p (tL 112 p .ireturn 0) (tL 111 p (.iconst 0) 0)) (tL 108 p (.goto 4) 112)) (tB 104 p (tB 107 p (tL 107 p (.iconst 1) 0) (tL 104 p (.if_icmp .ge 7) 111)) (tL 103 p (.iload_n 2) 0)))) (tB 93 p (tB 98 p (tB 99 p (tB 102 p (tL 102 p (.iload_n 1) 0) (tL 99 p (.if_icmp .ne 14) 113)) (tL 98 p .iaload 0)) (tB 94 p (tB 97 p (tL 97 p (.iload_n 2) 0) (tL 94 p (.getfield 13) 1)) (tL 93 p (.aload_n 0) 0))) (tB 88 p (tB 91 p (tB 92 p (tL 92 p .iaload 0) (tL 91 p (.iload_n 1) 0)) (tL 88 p (.getfield 13) 1)) (tB 87 p (tL 87 p (.aload_n 0) 0) (tL 86 p .ireturn 0)))))) (tB 41 p (tB 63 p (tB 74 p (tB 81 p (tB 82 p (tB 85 p (tL 85 p (.iconst 0) 0) (tL 82 p (.goto 4) 86)) (tL 81 p (.iconst 1) 0)) (tB 77 p (tB 78 p (tL 78 p (.if_icmp .ne 7) 85) (tL 77 p (.iconst 1) 0)) (tL 74 p (.getfield 53) 11))) (tB 68 p (tB 70 p (tB 73 p (tL 73 p (.aload_n 0) 0) (tL 70 p (.ifCond .eq 17) 87)) (tL 68 p (.iload 4) 0)) (tB 66 p (tB 67 p (tL 67 p .ireturn 0) (tL 66 p (.iconst 0) 0)) (tL 63 p (.goto 4) 67)))) (tB 51 p (tB 56 p (tB 59 p (tB 62 p (tL 62 p (.iconst 1) 0) (tL 59 p (.ifCond .ne 7) 66)) (tL 56 p (.getfield 53) 11)) (tB 52 p (tB 55 p (tL 55 p (.aload_n 0) 0) (tL 52 p (.ifCond .eq 16) 68)) (tL 51 p (.iload_n 3) 0))) (tB 46 p (tB 49 p (tB 50 p (tL 50 p .ireturn 0) (tL 49 p (.iconst 0) 0)) (tL 46 p (.goto 4) 50)) (tB 42 p (tB 45 p (tL 45 p (.iconst 1) 0) (tL 42 p (.if_icmp .ge 7) 49)) (tL 41 p (.iload_n 2) 0))))) (tB 19 p (tB 29 p (tB 35 p (tB 37 p (tB 40 p (tL 40 p (.iload_n 1) 0) (tL 37 p (.ifCond .eq 14) 51)) (tL 35 p (.iload 4) 0)) (tB 31 p (tB 32 p (tL 32 p (.ifCond .eq 19) 51) (tL 31 p (.iload_n 3) 0)) (tL 29 p (.istore 4) 0))) (tB 24 p (tB 25 p (tB 26 p (tL 26 p (.invokevirtual 85) 20) (tL 25 p (.iload_n 2) 0)) (tL 24 p (.aload_n 0) 0)) (tB 20 p (tB 23 p (tL 23 p (.istore_n 3) 0) (tL 20 p (.invokevirtual 85) 20)) (tL 19 p (.iload_n 1) 0)))) (tB 9 p (tB 16 p (tB 17 p (tB 18 p (tL 18 p (.aload_n 0) 0) (tL 17 p .ireturn 0)) (tL 16 p (.iconst 0) 0)) (tB 12 p (tB 13 p (tL 13 p (.goto 4) 17) (tL 12 p (.iconst 1) 0)) (tL 9 p (.if_icmp .ge 7) 16))) (tB 4 p (tB 7 p (tB 8 p (tL 8 p (.iload_n 2) 0) (tL 7 p (.iload_n 1) 0)) (tL 4 p (.ifCond .ne 14) 18)) (tB 1 p (tL 1 p (.getfield 50) 10) (tL 0 p (.aload_n 0) 0)))))))
set_option maxHeartbeats 4000000 in
def cd20 (p : Nat) : Option (Instr × Nat) := (tB 7 p (tB 12 p (tB 15 p (tB 16 p (tL 16 p .ireturn 0) (tL 15 p (.iconst 0) 0)) (tL 12 p (.goto 4) 16)) (tB 8 p (tB 11 p (tL 11 p (.iconst 1) 0) (tL 8 p (.ifCond .eq 7) 15)) (tL 7 p .iand 0))) (tB 4 p (tB 5 p (tB 6 p (tL 6 p (.iconst 1) 0) (tL 5 p .iaload 0)) (tL 4 p (.iload_n 1) 0)) (tB 1 p (tL 1 p (.getfield 19) 3) (tL 0 p (.aload_n 0) 0))))
set_option maxHeartbeats 4000000 in
def cd21 (p : Nat) : Option (Instr × Nat) := (tB 79 p (tB 129 p (tB 150 p (tB 161 p (tB 166 p (tB 169 p (tB 172 p (tL 172 p .return_ 0) (tL 169 p (.goto (-131)) 38)) (tL 166 p (.iinc 4 1) 0)) (tB 162 p (tB 163 p (tL 163 p (.putfield 131) 22) (tL 162 p .ladd 0)) (tL 161 p .i2l 0))) (tB 155 p (tB 156 p (tB 159 p (tL 159 p (.iload 6) 0) (tL 156 p (.getfield 131) 22)) (tL 155 p .dup 0)) (tB 151 p (tB 154 p (tL 154 p (.aload_n 0) 0) (tL 151 p (.putfield 135) 23)) (tL 150 p .iadd 0)))) (tB 139 p (tB 145 p (tB 146 p (tB 149 p (tL 149 p (.iconst 1) 0) (tL 146 p (.getfield 135) 23)) (tL 145 p .dup 0)) (tB 141 p (tB 144 p (tL 144 p (.aload_n 0) 0) (tL 141 p (.putfield 141) 26)) (tL 139 p (.iload 6) 0))) (tB 132 p (tB 135 p (tB 138 p (tL 138 p (.aload_n 0) 0) (tL 135 p (.if_icmp .le 9) 144)) (tL 132 p (.getfield 141) 26)) (tB 131 p (tL 131 p (.aload_n 0) 0) (tL 129 p (.iload 6) 0))))) (tB 101 p (tB 116 p (tB 122 p (tB 123 p (tB 126 p (tL 126 p (.ifCond .eq 12) 138) (tL 123 p (.getfield 135) 23)) (tL 122 p (.aload_n 0) 0)) (tB 117 p (tB 119 p (tL 119 p (.putfield 138) 25) (tL 117 p (.iload 6) 0)) (tL 116 p (.aload_n 0) 0))) (tB 109 p (tB 110 p (tB 113 p (tL 113 p (.if_icmp .ge 9) 122) (tL 110 p (.getfield 138) 25)) (tL 109 p (.aload_n 0) 0)) (tB 104 p (tB 107 p (tL 107 p (.iload 6) 0) (tL 104 p (.ifCond .eq 12) 116)) (tL 101 p (.getfield 135) 23)))) (tB 91 p (tB 97 p (tB 98 p (tB 100 p (tL 100 p (.aload_n 0) 0) (tL 98 p (.istore 6) 0)) (tL 97 p .iaload 0)) (tB 92 p (tB 95 p (tL 95 p (.iload 5) 0) (tL 92 p (.getfield 16) 2)) (tL 91 p (.aload_n 0) 0))) (tB 82 p (tB 85 p (tB 88 p (tL 88 p (.goto 78) 166) (tL 85 p (.ifCond .eq 6) 91)) (tL 82 p (.invokevirtual 147) 26)) (tB 80 p (tL 80 p (.iload 5) 0) (tL 79 p (.aload_n 0) 0)))))) (tB 36 p (tB 55 p (tB 69 p (tB 74 p (tB 75 p (tB 76 p (tL 76 p (.putfield 125) 24) (tL 75 p .iadd 0)) (tL 74 p (.iconst 1) 0)) (tB 70 p (tB 71 p (tL 71 p (.getfield 125) 24) (tL 70 p .dup 0)) (tL 69 p (.aload_n 0) 0))) (tB 60 p (tB 63 p (tB 66 p (tL 66 p (.goto 100) 166) (tL 63 p (.ifCond .ne 6) 69)) (tL 60 p (.invokevirtual 144) 22)) (tB 57 p (tB 58 p (tL 58 p (.iload 4) 0) (tL 57 p (.iload_n 3) 0)) (tL 55 p (.iload 5) 0)))) (tB 45 p (tB 51 p (tB 53 p (tB 54 p (tL 54 p (.iload_n 1) 0) (tL 53 p (.aload_n 0) 0)) (tL 51 p (.istore 5) 0)) (tB 48 p (tB 50 p (tL 50 p .iaload 0) (tL 48 p (.iload 4) 0)) (tL 45 p (.getfield 33) 7))) (tB 40 p (tB 41 p (tB 44 p (tL 44 p (.aload_n 0) 0) (tL 41 p (.if_icmp .ge 131) 172)) (tL 40 p (.iload_n 2) 0)) (tB 38 p (tL 38 p (.iload 4) 0) (tL 36 p (.istore 4) 0))))) (tB 17 p (tB 26 p (tB 31 p (tB 32 p (tB 35 p (tL 35 p (.iconst 0) 0) (tL 32 p (.putfield 141) 26)) (tL 31 p (.iconst 0) 0)) (tB 27 p (tB 30 p (tL 30 p (.aload_n 0) 0) (tL 27 p (.putfield 138) 25)) (tL 26 p (.iconst 0) 0))) (tB 21 p (tB 22 p (tB 25 p (tL 25 p (.aload_n 0) 0) (tL 22 p (.putfield 125) 24)) (tL 21 p (.iconst 0) 0)) (tB 20 p (tL 20 p (.aload_n 0) 0) (tL 17 p (.putfield 135) 23)))) (tB 9 p (tB 12 p (tB 15 p (tB 16 p (tL 16 p (.iconst 0) 0) (tL 15 p (.aload_n 0) 0)) (tL 12 p (.putfield 131) 22)) (tB 10 p (tB 11 p (tL 11 p (.lconst 0) 0) (tL 10 p (.aload_n 0) 0)) (tL 9 p (.istore_n 3) 0))) (tB 4 p (tB 5 p (tB 6 p (tL 6 p (.getfield 96) 21) (tL 5 p (.aload_n 0) 0)) (tL 4 p (.istore_n 2) 0)) (tB 1 p (tL 1 p (.getfield 93) 20) (tL 0 p (.aload_n 0) 0)))))))
set_option maxHeartbeats 4000000 in
def cd22 (p : Nat) : Option (Instr × Nat) := (tB 33 p (tB 47 p (tB 54 p (tB 58 p (tB 61 p (tB 62 p (tL 62 p .ireturn 0) (tL 61 p (.iconst 0) 0)) (tL 58 p (.goto 4) 62)) (tB 57 p (tL 57 p (.iconst 1) 0) (tL 54 p (.ifCond .eq 7) 61))) (tB 49 p (tB 51 p (tL 51 p (.invokevirtual 109) 24) (tL 49 p (.iload 4) 0)) (tB 48 p (tL 48 p (.iload_n 3) 0) (tL 47 p (.iload_n 2) 0)))) (tB 37 p (tB 42 p (tB 45 p (tB 46 p (tL 46 p (.iload_n 1) 0) (tL 45 p (.aload_n 0) 0)) (tL 42 p (.ifCond .eq 19) 61)) (tB 39 p (tL 39 p (.invokevirtual 105) 23) (tL 37 p (.iload 4) 0))) (tB 35 p (tB 36 p (tL 36 p (.iload_n 3) 0) (tL 35 p (.iload_n 2) 0)) (tB 34 p (tL 34 p (.iload_n 1) 0) (tL 33 p (.aload_n 0) 0))))) (tB 17 p (tB 24 p (tB 28 p (tB 31 p (tB 32 p (tL 32 p .ireturn 0) (tL 31 p (.iconst 0) 0)) (tL 28 p (.goto 4) 32)) (tB 27 p (tL 27 p (.iconst 1) 0) (tL 24 p (.ifCond .eq 7) 31))) (tB 19 p (tB 21 p (tL 21 p (.invokevirtual 102) 35) (tL 19 p (.iload 4) 0)) (tB 18 p (tL 18 p (.iload_n 3) 0) (tL 17 p (.aload_n 0) 0)))) (tB 8 p (tB 11 p (tB 14 p (tL 14 p (.ifCond .eq 17) 31) (tL 11 p (.invokevirtual 99) 34)) (tB 9 p (tL 9 p (.iload 4) 0) (tL 8 p (.iload_n 3) 0))) (tB 4 p (tB 7 p (tL 7 p (.aload_n 0) 0) (tL 4 p (.ifCond .ne 29) 33)) (tB 1 p (tL 1 p (.getfield 56) 12) (tL 0 p (.aload_n 0) 0))))))
set_option maxHeartbeats 4000000 in
def cd23 (p : Nat) : Option (Instr × Nat) := (tB 67 p (tB 99 p (tB 116 p (tB 123 p (tB 127 p (tB 130 p (tB 131 p (tL 131 p .ireturn 0) (tL 130 p (.iconst 0) 0)) (tL 127 p (.goto 4) 131)) (tB 126 p (tL 126 p (.iconst 1) 0) (tL 123 p (.ifCond .lt 7) 130))) (tB 118 p (tB 120 p (tB 122 p (tL 122 p .lcmp 0) (tL 120 p (.lload 8) 0)) (tL 118 p (.lload 6) 0)) (tB 117 p (tL 117 p .ireturn 0) (tL 116 p (.iconst 0) 0)))) (tB 107 p (tB 109 p (tB 112 p (tB 113 p (tL 113 p (.goto 4) 117) (tL 112 p (.iconst 1) 0)) (tL 109 p (.ifCond .lt 7) 116)) (tB 108 p (tL 108 p .lcmp 0) (tL 107 p .lneg 0))) (tB 103 p (tB 105 p (tL 105 p (.lload 8) 0) (tL 103 p (.lload 6) 0)) (tB 100 p (tL 100 p (.if_icmp .ne 18) 118) (tL 99 p (.iconst 1) 0))))) (tB 82 p (tB 89 p (tB 93 p (tB 95 p (tB 96 p (tL 96 p (.getfield 59) 13) (tL 95 p (.aload_n 0) 0)) (tL 93 p (.lstore 8) 0)) (tB 92 p (tL 92 p .i2l 0) (tL 89 p (.getfield 62) 14))) (tB 86 p (tB 88 p (tL 88 p (.aload_n 0) 0) (tL 86 p (.lstore 6) 0)) (tB 83 p (tL 83 p (.invokevirtual 115) 32) (tL 82 p (.iload_n 2) 0)))) (tB 75 p (tB 79 p (tB 80 p (tB 81 p (tL 81 p (.iload_n 1) 0) (tL 80 p (.aload_n 0) 0)) (tL 79 p .ireturn 0)) (tB 78 p (tL 78 p (.iconst 0) 0) (tL 75 p (.goto 4) 79))) (tB 71 p (tB 74 p (tL 74 p (.iconst 1) 0) (tL 71 p (.if_icmp .ne 7) 78)) (tB 70 p (tL 70 p (.iconst 1) 0) (tL 67 p (.getfield 53) 11)))))) (tB 33 p (tB 49 p (tB 58 p (tB 60 p (tB 63 p (tB 66 p (tL 66 p (.aload_n 0) 0) (tL 63 p (.ifCond .eq 17) 80)) (tL 60 p (.invokevirtual 85) 20)) (tB 59 p (tL 59 p (.iload_n 2) 0) (tL 58 p (.aload_n 0) 0))) (tB 55 p (tB 57 p (tL 57 p .ireturn 0) (tL 55 p (.iload 5) 0)) (tB 52 p (tL 52 p (.ifCond .eq 6) 58) (tL 49 p (.invokevirtual 85) 20)))) (tB 40 p (tB 44 p (tB 47 p (tB 48 p (tL 48 p (.iload_n 1) 0) (tL 47 p (.aload_n 0) 0)) (tL 44 p (.if_icmp .eq 11) 55)) (tB 43 p (tL 43 p (.iconst 2) 0) (tL 40 p (.getfield 59) 13))) (tB 37 p (tB 39 p (tL 39 p (.aload_n 0) 0) (tL 37 p (.istore 5) 0)) (tB 36 p (tL 36 p (.iconst 0) 0) (tL 33 p (.goto 4) 37))))) (tB 17 p (tB 23 p (tB 28 p (tB 29 p (tB 32 p (tL 32 p (.iconst 1) 0) (tL 29 p (.if_icmp .le 7) 36)) (tL 28 p (.iload_n 3) 0)) (tB 26 p (tL 26 p (.iload 4) 0) (tL 23 p (.ifCond .ne 9) 32))) (tB 19 p (tB 20 p (tL 20 p (.invokevirtual 112) 25) (tL 19 p (.iload_n 2) 0)) (tB 18 p (tL 18 p (.iload_n 1) 0) (tL 17 p (.aload_n 0) 0)))) (tB 8 p (tB 12 p (tB 15 p (tB 16 p (tL 16 p .ireturn 0) (tL 15 p (.iconst 1) 0)) (tL 12 p (.if_icmp .ne 5) 17)) (tB 11 p (tL 11 p (.iconst 4) 0) (tL 8 p (.getfield 59) 13))) (tB 4 p (tB 7 p (tL 7 p (.aload_n 0) 0) (tL 4 p (.ifCond .eq 11) 15)) (tB 1 p (tL 1 p (.getfield 59) 13) (tL 0 p (.aload_n 0) 0)))))))
set_option maxHeartbeats 4000000 in
def cd24 (p : Nat) : Option (Instr × Nat) := (tB 67 p (tB 99 p (tB 116 p (tB 122 p (tB 126 p (tB 129 p (tB 130 p (tL 130 p .ireturn 0) (tL 129 p (.iconst 0) 0)) (tL 126 p (.goto 4) 130)) (tB 125 p (tL 125 p (.iconst 1) 0) (tL 122 p (.ifCond .gt 7) 129))) (tB 119 p (tB 121 p (tL 121 p .lcmp 0) (tL 119 p (.lload 8) 0)) (tB 117 p (tL 117 p (.lload 6) 0) (tL 116 p .ireturn 0)))) (tB 107 p (tB 111 p (tB 112 p (tB 115 p (tL 115 p (.iconst 0) 0) (tL 112 p (.goto 4) 116)) (tL 111 p (.iconst 1) 0)) (tB 108 p (tL 108 p (.ifCond .gt 7) 115) (tL 107 p .lcmp 0))) (tB 104 p (tB 106 p (tL 106 p .lneg 0) (tL 104 p (.lload 8) 0)) (tB 102 p (tL 102 p (.lload 6) 0) (tL 99 p (.if_icmp .ne 18) 117))))) (tB 82 p (tB 91 p (tB 94 p (tB 95 p (tB 98 p (tL 98 p (.iconst 1) 0) (tL 95 p (.getfield 65) 15)) (tL 94 p (.aload_n 0) 0)) (tB 92 p (tL 92 p (.lstore 8) 0) (tL 91 p .i2l 0))) (tB 87 p (tB 88 p (tL 88 p (.getfield 68) 16) (tL 87 p (.aload_n 0) 0)) (tB 85 p (tL 85 p (.lstore 6) 0) (tL 82 p (.invokevirtual 115) 32)))) (tB 77 p (tB 79 p (tB 80 p (tB 81 p (tL 81 p (.iload_n 2) 0) (tL 80 p (.iload_n 1) 0)) (tL 79 p (.aload_n 0) 0)) (tB 78 p (tL 78 p .ireturn 0) (tL 77 p (.iconst 0) 0))) (tB 73 p (tB 74 p (tL 74 p (.goto 4) 78) (tL 73 p (.iconst 1) 0)) (tB 70 p (tL 70 p (.ifCond .ne 7) 77) (tL 67 p (.getfield 53) 11)))))) (tB 33 p (tB 49 p (tB 58 p (tB 60 p (tB 63 p (tB 66 p (tL 66 p (.aload_n 0) 0) (tL 63 p (.ifCond .eq 16) 79)) (tL 60 p (.invokevirtual 85) 20)) (tB 59 p (tL 59 p (.iload_n 2) 0) (tL 58 p (.aload_n 0) 0))) (tB 55 p (tB 57 p (tL 57 p .ireturn 0) (tL 55 p (.iload 5) 0)) (tB 52 p (tL 52 p (.ifCond .eq 6) 58) (tL 49 p (.invokevirtual 85) 20)))) (tB 40 p (tB 44 p (tB 47 p (tB 48 p (tL 48 p (.iload_n 1) 0) (tL 47 p (.aload_n 0) 0)) (tL 44 p (.if_icmp .eq 11) 55)) (tB 43 p (tL 43 p (.iconst 2) 0) (tL 40 p (.getfield 65) 15))) (tB 37 p (tB 39 p (tL 39 p (.aload_n 0) 0) (tL 37 p (.istore 5) 0)) (tB 36 p (tL 36 p (.iconst 0) 0) (tL 33 p (.goto 4) 37))))) (tB 17 p (tB 23 p (tB 28 p (tB 29 p (tB 32 p (tL 32 p (.iconst 1) 0) (tL 29 p (.if_icmp .ge 7) 36)) (tL 28 p (.iload_n 3) 0)) (tB 26 p (tL 26 p (.iload 4) 0) (tL 23 p (.ifCond .ne 9) 32))) (tB 19 p (tB 20 p (tL 20 p (.invokevirtual 112) 25) (tL 19 p (.iload_n 2) 0)) (tB 18 p (tL 18 p (.iload_n 1) 0) (tL 17 p (.aload_n 0) 0)))) (tB 8 p (tB 12 p (tB 15 p (tB 16 p (tL 16 p .ireturn 0) (tL 15 p (.iconst 1) 0)) (tL 12 p (.ifCond .ne 5) 17)) (tB 9 p (tL 9 p (.getfield 65) 15) (tL 8 p (.aload_n 0) 0))) (tB 4 p (tB 5 p (tL 5 p (.if_icmp .eq 10) 15) (tL 4 p (.iconst 4) 0)) (tB 1 p (tL 1 p (.getfield 65) 15) (tL 0 p (.aload_n 0) 0)))))))
set_option maxHeartbeats 4000000 in
def cd25 (p : Nat) : Option (Instr × Nat) := (tB 33 p (tB 49 p (tB 56 p (tB 60 p (tB 63 p (tB 64 p (tL 64 p .ireturn 0) (tL 63 p (.iconst 0) 0)) (tL 60 p (.goto 4) 64)) (tB 59 p (tL 59 p (.iconst 1) 0) (tL 56 p (.if_icmp .ne 7) 63))) (tB 51 p (tB 54 p (tB 55 p (tL 55 p .iaload 0) (tL 54 p (.iload_n 2) 0)) (tL 51 p (.getfield 13) 1)) (tB 50 p (tL 50 p (.aload_n 0) 0) (tL 49 p .iaload 0)))) (tB 42 p (tB 44 p (tB 45 p (tB 48 p (tL 48 p (.iload_n 1) 0) (tL 45 p (.getfield 13) 1)) (tL 44 p (.aload_n 0) 0)) (tB 43 p (tL 43 p .ireturn 0) (tL 42 p (.iconst 0) 0))) (tB 37 p (tB 39 p (tL 39 p (.ifCond .eq 5) 44) (tL 37 p (.iload 4) 0)) (tB 34 p (tL 34 p (.ifCond .ne 8) 42) (tL 33 p (.iload_n 3) 0))))) (tB 15 p (tB 23 p (tB 28 p (tB 31 p (tB 32 p (tL 32 p .ireturn 0) (tL 31 p (.iconst 1) 0)) (tL 28 p (.ifCond .eq 5) 33)) (tB 26 p (tL 26 p (.iload 4) 0) (tL 23 p (.ifCond .eq 10) 33))) (tB 17 p (tB 20 p (tB 22 p (tL 22 p (.iload_n 3) 0) (tL 20 p (.istore 4) 0)) (tL 17 p (.invokevirtual 85) 20)) (tB 16 p (tL 16 p (.iload_n 2) 0) (tL 15 p (.aload_n 0) 0)))) (tB 8 p (tB 10 p (tB 11 p (tB 14 p (tL 14 p (.istore_n 3) 0) (tL 11 p (.invokevirtual 85) 20)) (tL 10 p (.iload_n 1) 0)) (tB 9 p (tL 9 p (.aload_n 0) 0) (tL 8 p .ireturn 0))) (tB 4 p (tB 7 p (tL 7 p (.iconst 1) 0) (tL 4 p (.ifCond .ne 5) 9)) (tB 1 p (tL 1 p (.getfield 50) 10) (tL 0 p (.aload_n 0) 0))))))
set_option maxHeartbeats 4000000 in
def cd26 (p : Nat) : Option (Instr × Nat) := (tB 7 p (tB 12 p (tB 15 p (tB 16 p (tL 16 p .ireturn 0) (tL 15 p (.iconst 0) 0)) (tL 12 p (.goto 4) 16)) (tB 8 p (tB 11 p (tL 11 p (.iconst 1) 0) (tL 8 p (.ifCond .eq 7) 15)) (tL 7 p .iand 0))) (tB 4 p (tB 5 p (tB 6 p (tL 6 p (.iconst 2) 0) (tL 5 p .iaload 0)) (tL 4 p (.iload_n 1) 0)) (tB 1 p (tL 1 p (.getfield 19) 3) (tL 0 p (.aload_n 0) 0))))
set_option maxHeartbeats 4000000 in
def cd27 (p : Nat) : Option (Instr × Nat) := (tB 123 p (tB 183 p (tB 210 p (tB 222 p (tB 231 p (tB 235 p (tB 236 p (tB 239 p (tL 239 p .return_ 0) (tL 236 p (.invokevirtual 160) 37)) (tL 235 p (.iconst 0) 0)) (tB 232 p (tL 232 p (.goto 4) 236) (tL 231 p (.iconst 1) 0))) (tB 226 p (tB 228 p (tL 228 p (.if_icmp .ne 7) 235) (tL 226 p (.bipush 8) 0)) (tB 223 p (tL 223 p (.getfield 71) 17) (tL 222 p (.aload_n 0) 0)))) (tB 216 p (tB 220 p (tB 221 p (tL 221 p (.iload_n 2) 0) (tL 220 p (.iload_n 1) 0)) (tB 219 p (tL 219 p (.aload_n 0) 0) (tL 216 p (.goto 23) 239))) (tB 212 p (tB 213 p (tL 213 p (.invokevirtual 150) 28) (tL 212 p (.iconst 0) 0)) (tB 211 p (tL 211 p (.lload_n 3) 0) (tL 210 p (.iload_n 1) 0))))) (tB 197 p (tB 204 p (tB 208 p (tB 209 p (tL 209 p (.aload_n 0) 0) (tL 208 p (.lstore_n 3) 0)) (tB 205 p (tL 205 p (.invokevirtual 157) 36) (tL 204 p (.iload_n 2) 0))) (tB 202 p (tB 203 p (tL 203 p (.iload_n 1) 0) (tL 202 p (.aload_n 0) 0)) (tB 199 p (tL 199 p (.if_icmp .ne 20) 219) (tL 197 p (.bipush 7) 0)))) (tB 187 p (tB 193 p (tB 194 p (tL 194 p (.getfield 71) 17) (tL 193 p (.aload_n 0) 0)) (tB 190 p (tL 190 p (.goto 49) 239) (tL 187 p (.invokevirtual 150) 28))) (tB 185 p (tB 186 p (tL 186 p (.iconst 0) 0) (tL 185 p (.lload_n 3) 0)) (tB 184 p (tL 184 p (.iload_n 1) 0) (tL 183 p (.aload_n 0) 0)))))) (tB 155 p (tB 167 p (tB 176 p (tB 178 p (tB 179 p (tB 182 p (tL 182 p (.lstore_n 3) 0) (tL 179 p (.invokevirtual 154) 33)) (tL 178 p (.iload_n 2) 0)) (tB 177 p (tL 177 p (.iload_n 1) 0) (tL 176 p (.aload_n 0) 0))) (tB 171 p (tB 173 p (tL 173 p (.if_icmp .ne 20) 193) (tL 171 p (.bipush 6) 0)) (tB 168 p (tL 168 p (.getfield 71) 17) (tL 167 p (.aload_n 0) 0)))) (tB 159 p (tB 161 p (tB 164 p (tL 164 p (.goto 75) 239) (tL 161 p (.invokevirtual 150) 28)) (tB 160 p (tL 160 p (.iconst 0) 0) (tL 159 p .ladd 0))) (tB 157 p (tB 158 p (tL 158 p (.lconst 1) 0) (tL 157 p .i2l 0)) (tB 156 p (tL 156 p (.iload_n 2) 0) (tL 155 p (.iload_n 1) 0))))) (tB 139 p (tB 147 p (tB 151 p (tB 154 p (tL 154 p (.aload_n 0) 0) (tL 151 p (.if_icmp .ne 16) 167)) (tB 150 p (tL 150 p (.iconst 5) 0) (tL 147 p (.getfield 71) 17))) (tB 143 p (tB 146 p (tL 146 p (.aload_n 0) 0) (tL 143 p (.goto 96) 239)) (tB 140 p (tL 140 p (.invokevirtual 150) 28) (tL 139 p (.iconst 0) 0)))) (tB 129 p (tB 135 p (tB 136 p (tL 136 p (.goto 4) 140) (tL 135 p (.iconst 1) 0)) (tB 132 p (tL 132 p (.ifCond .ne 7) 139) (tL 129 p (.getfield 135) 23))) (tB 127 p (tB 128 p (tL 128 p (.aload_n 0) 0) (tL 127 p .i2l 0)) (tB 124 p (tL 124 p (.getfield 141) 26) (tL 123 p (.aload_n 0) 0))))))) (tB 62 p (tB 90 p (tB 106 p (tB 114 p (tB 118 p (tB 121 p (tB 122 p (tL 122 p (.iload_n 1) 0) (tL 121 p (.aload_n 0) 0)) (tL 118 p (.if_icmp .ne 28) 146)) (tB 117 p (tL 117 p (.iconst 4) 0) (tL 114 p (.getfield 71) 17))) (tB 110 p (tB 113 p (tL 113 p (.aload_n 0) 0) (tL 110 p (.goto 129) 239)) (tB 107 p (tL 107 p (.invokevirtual 150) 28) (tL 106 p (.iconst 0) 0)))) (tB 96 p (tB 102 p (tB 103 p (tL 103 p (.goto 4) 107) (tL 102 p (.iconst 1) 0)) (tB 99 p (tL 99 p (.ifCond .ne 7) 106) (tL 96 p (.getfield 135) 23))) (tB 94 p (tB 95 p (tL 95 p (.aload_n 0) 0) (tL 94 p .i2l 0)) (tB 91 p (tL 91 p (.getfield 138) 25) (tL 90 p (.aload_n 0) 0))))) (tB 74 p (tB 84 p (tB 88 p (tB 89 p (tL 89 p (.iload_n 1) 0) (tL 88 p (.aload_n 0) 0)) (tB 85 p (tL 85 p (.if_icmp .ne 28) 113) (tL 84 p (.iconst 3) 0))) (tB 80 p (tB 81 p (tL 81 p (.getfield 71) 17) (tL 80 p (.aload_n 0) 0)) (tB 77 p (tL 77 p (.goto 162) 239) (tL 74 p (.invokevirtual 150) 28)))) (tB 68 p (tB 72 p (tB 73 p (tL 73 p (.iconst 0) 0) (tL 72 p .i2l 0)) (tB 69 p (tL 69 p (.getfield 125) 24) (tL 68 p (.aload_n 0) 0))) (tB 66 p (tB 67 p (tL 67 p (.iload_n 1) 0) (tL 66 p (.aload_n 0) 0)) (tB 63 p (tL 63 p (.if_icmp .ne 17) 80) (tL 62 p (.iconst 2) 0)))))) (tB 30 p (tB 46 p (tB 52 p (tB 58 p (tB 59 p (tL 59 p (.getfield 71) 17) (tL 58 p (.aload_n 0) 0)) (tB 55 p (tL 55 p (.goto 184) 239) (tL 52 p (.invokevirtual 150) 28))) (tB 50 p (tB 51 p (tL 51 p (.iconst 0) 0) (tL 50 p .i2l 0)) (tB 47 p (tL 47 p (.getfield 135) 23) (tL 46 p (.aload_n 0) 0)))) (tB 40 p (tB 44 p (tB 45 p (tL 45 p (.iload_n 1) 0) (tL 44 p (.aload_n 0) 0)) (tB 41 p (tL 41 p (.if_icmp .ne 17) 58) (tL 40 p (.iconst 1) 0))) (tB 36 p (tB 37 p (tL 37 p (.getfield 71) 17) (tL 36 p (.aload_n 0) 0)) (tB 33 p (tL 33 p (.goto 206) 239) (tL 30 p (.invokevirtual 150) 28))))) (tB 14 p (tB 22 p (tB 26 p (tB 29 p (tL 29 p (.iconst 0) 0) (tL 26 p (.goto 4) 30)) (tB 25 p (tL 25 p (.iconst 1) 0) (tL 22 p (.ifCond .ne 7) 29))) (tB 18 p (tB 19 p (tL 19 p (.getfield 135) 23) (tL 18 p (.aload_n 0) 0)) (tB 15 p (tL 15 p (.getfield 131) 22) (tL 14 p (.aload_n 0) 0)))) (tB 6 p (tB 12 p (tB 13 p (tL 13 p (.iload_n 1) 0) (tL 12 p (.aload_n 0) 0)) (tB 9 p (tL 9 p (.ifCond .ne 27) 36) (tL 6 p (.getfield 71) 17))) (tB 4 p (tB 5 p (tL 5 p (.aload_n 0) 0) (tL 4 p (.istore_n 2) 0)) (tB 1 p (tL 1 p (.getfield 96) 21) (tL 0 p (.aload_n 0) 0))))))))
set_option maxHeartbeats 4000000 in
def cd28 (p : Nat) : Option (Instr × Nat) := (tB 12 p (tB 19 p (tB 23 p (tB 24 p (tL 24 p .return_ 0) (tL 23 p .lastore 0)) (tB 22 p (tL 22 p (.lload_n 2) 0) (tL 19 p (.goto 4) 23))) (tB 15 p (tB 18 p (tL 18 p (.lconst 0) 0) (tL 15 p (.ifCond .eq 7) 22)) (tB 13 p (tL 13 p (.iload 4) 0) (tL 12 p (.iload_n 1) 0)))) (tB 5 p (tB 8 p (tB 9 p (tL 9 p (.getfield 22) 4) (tL 8 p (.aload_n 0) 0)) (tB 7 p (tL 7 p .bastore 0) (tL 5 p (.iload 4) 0))) (tB 1 p (tB 4 p (tL 4 p (.iload_n 1) 0) (tL 1 p (.getfield 26) 5)) (tL 0 p (.aload_n 0) 0))))
set_option maxHeartbeats 4000000 in
def cd29 (p : Nat) : Option (Instr × Nat) := (tB 29 p (tB 45 p (tB 56 p (tB 58 p (tB 61 p (tB 62 p (tL 62 p .ireturn 0) (tL 61 p (.iconst 1) 0)) (tL 58 p (.putfield 46) 19)) (tB 57 p (tL 57 p (.iconst 0) 0) (tL 56 p (.aload_n 0) 0))) (tB 49 p (tB 52 p (tB 53 p (tL 53 p (.putfield 68) 16) (tL 52 p (.iconst 0) 0)) (tL 49 p (.goto 4) 53)) (tB 48 p (tL 48 p (.iload_n 2) 0) (tL 45 p (.ifCond .eq 7) 52)))) (tB 38 p (tB 40 p (tB 43 p (tB 44 p (tL 44 p (.iload_n 3) 0) (tL 43 p (.aload_n 0) 0)) (tL 40 p (.putfield 65) 15)) (tB 39 p (tL 39 p (.iload_n 1) 0) (tL 38 p (.aload_n 0) 0))) (tB 33 p (tB 36 p (tB 37 p (tL 37 p .ireturn 0) (tL 36 p (.iconst 0) 0)) (tL 33 p (.ifCond .ge 5) 38)) (tB 32 p (tL 32 p (.iload_n 2) 0) (tL 29 p (.ifCond .eq 9) 38))))) (tB 13 p (tB 22 p (tB 26 p (tB 27 p (tB 28 p (tL 28 p (.iload_n 3) 0) (tL 27 p (.istore_n 3) 0)) (tL 26 p (.iconst 0) 0)) (tB 23 p (tL 23 p (.goto 4) 27) (tL 22 p (.iconst 1) 0))) (tB 17 p (tB 18 p (tB 19 p (tL 19 p (.if_icmp .ne 7) 26) (tL 18 p (.iconst 3) 0)) (tL 17 p (.iload_n 1) 0)) (tB 14 p (tL 14 p (.if_icmp .eq 8) 22) (tL 13 p (.iconst 1) 0)))) (tB 6 p (tB 10 p (tB 11 p (tB 12 p (tL 12 p (.iload_n 1) 0) (tL 11 p .ireturn 0)) (tL 10 p (.iconst 0) 0)) (tB 7 p (tL 7 p (.if_icmp .le 5) 12) (tL 6 p (.iconst 4) 0))) (tB 2 p (tB 5 p (tL 5 p (.iload_n 1) 0) (tL 2 p (.if_icmp .lt 8) 10)) (tB 1 p (tL 1 p (.iconst 1) 0) (tL 0 p (.iload_n 1) 0))))))
set_option maxHeartbeats 4000000 in
def cd30 (p : Nat) : Option (Instr × Nat) := (tB 11 p (tB 17 p (tB 21 p (tB 22 p (tL 22 p .ireturn 0) (tL 21 p (.iconst 1) 0)) (tB 18 p (tL 18 p (.putfield 46) 19) (tL 17 p (.iconst 0) 0))) (tB 13 p (tB 16 p (tL 16 p (.aload_n 0) 0) (tL 13 p (.putfield 56) 12)) (tB 12 p (tL 12 p (.iload_n 1) 0) (tL 11 p (.aload_n 0) 0)))) (tB 5 p (tB 9 p (tB 10 p (tL 10 p .ireturn 0) (tL 9 p (.iconst 0) 0)) (tB 6 p (tL 6 p (.if_icmp .le 5) 11) (tL 5 p (.iconst 1) 0))) (tB 1 p (tB 4 p (tL 4 p (.iload_n 1) 0) (tL 1 p (.ifCond .lt 8) 9)) (tL 0 p (.iload_n 1) 0))))
set_option maxHeartbeats 4000000 in
def cd31 (p : Nat) : Option (Instr × Nat) := (tB 19 p (tB 27 p (tB 32 p (tB 35 p (tB 36 p (tL 36 p .ireturn 0) (tL 35 p (.iconst 1) 0)) (tL 32 p (.putfield 46) 19)) (tB 30 p (tB 31 p (tL 31 p (.iconst 0) 0) (tL 30 p (.aload_n 0) 0)) (tL 27 p (.putfield 53) 11))) (tB 22 p (tB 25 p (tB 26 p (tL 26 p (.iload_n 2) 0) (tL 25 p (.aload_n 0) 0)) (tL 22 p (.putfield 50) 10)) (tB 20 p (tB 21 p (tL 21 p (.iload_n 1) 0) (tL 20 p (.aload_n 0) 0)) (tL 19 p .ireturn 0)))) (tB 9 p (tB 14 p (tB 15 p (tB 18 p (tL 18 p (.iconst 0) 0) (tL 15 p (.if_icmp .le 5) 20)) (tL 14 p (.iconst 1) 0)) (tB 10 p (tB 13 p (tL 13 p (.iload_n 2) 0) (tL 10 p (.ifCond .lt 8) 18)) (tL 9 p (.iload_n 2) 0))) (tB 4 p (tB 5 p (tB 6 p (tL 6 p (.if_icmp .gt 12) 18) (tL 5 p (.iconst 2) 0)) (tL 4 p (.iload_n 1) 0)) (tB 1 p (tL 1 p (.ifCond .lt 17) 18) (tL 0 p (.iload_n 1) 0)))))
set_option maxHeartbeats 4000000 in
def cd32 (p : Nat) : Option (Instr × Nat) := (tB 25 p (tB 39 p (tB 45 p (tB 47 p (tB 48 p (tB 49 p (tL 49 p .lreturn 0) (tL 48 p (.lconst 0) 0)) (tL 47 p .lreturn 0)) (tB 46 p (tL 46 p .lsub 0) (tL 45 p .i2l 0))) (tB 43 p (tB 44 p (tL 44 p .iaload 0) (tL 43 p (.iload_n 2) 0)) (tB 40 p (tL 40 p (.getfield 13) 1) (tL 39 p (.aload_n 0) 0)))) (tB 33 p (tB 37 p (tB 38 p (tL 38 p .i2l 0) (tL 37 p .iaload 0)) (tB 36 p (tL 36 p (.iload_n 1) 0) (tL 33 p (.getfield 13) 1))) (tB 29 p (tB 32 p (tL 32 p (.aload_n 0) 0) (tL 29 p (.if_icmp .ne 19) 48)) (tB 28 p (tL 28 p (.iconst 2) 0) (tL 25 p (.getfield 50) 10))))) (tB 14 p (tB 20 p (tB 22 p (tB 23 p (tB 24 p (tL 24 p (.aload_n 0) 0) (tL 23 p .lreturn 0)) (tL 22 p .lsub 0)) (tB 21 p (tL 21 p .i2l 0) (tL 20 p .iaload 0))) (tB 16 p (tB 19 p (tL 19 p (.iload_n 1) 0) (tL 16 p (.getfield 13) 1)) (tB 15 p (tL 15 p (.aload_n 0) 0) (tL 14 p .i2l 0)))) (tB 8 p (tB 12 p (tB 13 p (tL 13 p .iaload 0) (tL 12 p (.iload_n 2) 0)) (tB 9 p (tL 9 p (.getfield 13) 1) (tL 8 p (.aload_n 0) 0))) (tB 4 p (tB 5 p (tL 5 p (.if_icmp .ne 19) 24) (tL 4 p (.iconst 1) 0)) (tB 1 p (tL 1 p (.getfield 50) 10) (tL 0 p (.aload_n 0) 0))))))
set_option maxHeartbeats 4000000 in
def cd33 (p : Nat) : Option (Instr × Nat) := (tB 22 p (tB 36 p (tB 39 p (tB 45 p (tB 46 p (tL 46 p .lreturn 0) (tL 45 p (.lload_n 3) 0)) (tB 42 p (tL 42 p (.goto (-37)) 5) (tL 39 p (.iinc 5 1) 0))) (tB 37 p (tB 38 p (tL 38 p (.lstore_n 3) 0) (tL 37 p .ladd 0)) (tL 36 p (.lconst 1) 0))) (tB 28 p (tB 32 p (tB 35 p (tL 35 p (.lload_n 3) 0) (tL 32 p (.ifCond .ne 7) 39)) (tB 29 p (tL 29 p (.invokevirtual 112) 25) (tL 28 p (.iload_n 1) 0))) (tB 25 p (tB 27 p (tL 27 p .iaload 0) (tL 25 p (.iload 5) 0)) (tL 22 p (.getfield 33) 7)))) (tB 8 p (tB 14 p (tB 20 p (tB 21 p (tL 21 p (.aload_n 0) 0) (tL 20 p (.aload_n 0) 0)) (tB 17 p (tL 17 p (.if_icmp .ge 28) 45) (tL 14 p (.getfield 93) 20))) (tB 11 p (tB 13 p (tL 13 p (.aload_n 0) 0) (tL 11 p (.iload 5) 0)) (tL 8 p (.if_icmp .ge 37) 45))) (tB 3 p (tB 5 p (tB 7 p (tL 7 p (.iload_n 2) 0) (tL 5 p (.iload 5) 0)) (tL 3 p (.istore 5) 0)) (tB 1 p (tB 2 p (tL 2 p (.iconst 0) 0) (tL 1 p (.lstore_n 3) 0)) (tL 0 p (.lconst 1) 0)))))
set_option maxHeartbeats 4000000 in
def cd34 (p : Nat) : Option (Instr × Nat) := (tB 42 p (tB 64 p (tB 74 p (tB 81 p (tB 83 p (tB 84 p (tL 84 p .ireturn 0) (tL 83 p (.iconst 1) 0)) (tB 82 p (tL 82 p .ireturn 0) (tL 81 p (.iconst 0) 0))) (tB 77 p (tB 78 p (tL 78 p (.goto 4) 82) (tL 77 p (.iconst 1) 0)) (tL 74 p (.ifCond .lt 7) 81))) (tB 70 p (tB 72 p (tB 73 p (tL 73 p .lcmp 0) (tL 72 p .ladd 0)) (tL 70 p (.lload 7) 0)) (tB 67 p (tB 69 p (tL 69 p (.lload_n 3) 0) (tL 67 p (.lload 5) 0)) (tL 64 p (.if_icmp .ne 19) 83)))) (tB 53 p (tB 58 p (tB 60 p (tB 63 p (tL 63 p (.iconst 3) 0) (tL 60 p (.getfield 59) 13)) (tB 59 p (tL 59 p (.aload_n 0) 0) (tL 58 p .ireturn 0))) (tB 54 p (tB 57 p (tL 57 p (.iconst 0) 0) (tL 54 p (.goto 4) 58)) (tL 53 p (.iconst 1) 0))) (tB 48 p (tB 49 p (tB 50 p (tL 50 p (.ifCond .lt 7) 57) (tL 49 p .lcmp 0)) (tL 48 p (.lload_n 3) 0)) (tB 43 p (tB 46 p (tL 46 p (.lload 5) 0) (tL 43 p (.if_icmp .ne 16) 59)) (tL 42 p (.iconst 2) 0))))) (tB 19 p (tB 29 p (tB 36 p (tB 38 p (tB 39 p (tL 39 p (.getfield 59) 13) (tL 38 p (.aload_n 0) 0)) (tB 37 p (tL 37 p .ireturn 0) (tL 36 p (.iconst 0) 0))) (tB 32 p (tB 33 p (tL 33 p (.goto 4) 37) (tL 32 p (.iconst 1) 0)) (tL 29 p (.ifCond .lt 7) 36))) (tB 25 p (tB 27 p (tB 28 p (tL 28 p .lcmp 0) (tL 27 p .lsub 0)) (tL 25 p (.lload 7) 0)) (tB 22 p (tB 24 p (tL 24 p (.lload_n 3) 0) (tL 22 p (.lload 5) 0)) (tL 19 p (.if_icmp .ne 19) 38)))) (tB 7 p (tB 12 p (tB 15 p (tB 18 p (tL 18 p (.iconst 1) 0) (tL 15 p (.getfield 59) 13)) (tB 14 p (tL 14 p (.aload_n 0) 0) (tL 12 p (.lstore 7) 0))) (tB 8 p (tB 11 p (tL 11 p .i2l 0) (tL 8 p (.getfield 62) 14)) (tL 7 p (.aload_n 0) 0))) (tB 3 p (tB 4 p (tB 5 p (tL 5 p (.lstore 5) 0) (tL 4 p .i2l 0)) (tL 3 p (.iload_n 2) 0)) (tB 1 p (tB 2 p (tL 2 p (.lstore_n 3) 0) (tL 1 p .i2l 0)) (tL 0 p (.iload_n 1) 0))))))
set_option maxHeartbeats 4000000 in
def cd35 (p : Nat) : Option (Instr × Nat) := (tB 42 p (tB 64 p (tB 74 p (tB 81 p (tB 83 p (tB 84 p (tL 84 p .ireturn 0) (tL 83 p (.iconst 1) 0)) (tB 82 p (tL 82 p .ireturn 0) (tL 81 p (.iconst 0) 0))) (tB 77 p (tB 78 p (tL 78 p (.goto 4) 82) (tL 77 p (.iconst 1) 0)) (tL 74 p (.ifCond .gt 7) 81))) (tB 70 p (tB 72 p (tB 73 p (tL 73 p .lcmp 0) (tL 72 p .ladd 0)) (tL 70 p (.lload 7) 0)) (tB 67 p (tB 69 p (tL 69 p (.lload_n 3) 0) (tL 67 p (.lload 5) 0)) (tL 64 p (.if_icmp .ne 19) 83)))) (tB 53 p (tB 58 p (tB 60 p (tB 63 p (tL 63 p (.iconst 3) 0) (tL 60 p (.getfield 65) 15)) (tB 59 p (tL 59 p (.aload_n 0) 0) (tL 58 p .ireturn 0))) (tB 54 p (tB 57 p (tL 57 p (.iconst 0) 0) (tL 54 p (.goto 4) 58)) (tL 53 p (.iconst 1) 0))) (tB 48 p (tB 49 p (tB 50 p (tL 50 p (.ifCond .gt 7) 57) (tL 49 p .lcmp 0)) (tL 48 p (.lload_n 3) 0)) (tB 43 p (tB 46 p (tL 46 p (.lload 5) 0) (tL 43 p (.if_icmp .ne 16) 59)) (tL 42 p (.iconst 2) 0))))) (tB 19 p (tB 29 p (tB 36 p (tB 38 p (tB 39 p (tL 39 p (.getfield 65) 15) (tL 38 p (.aload_n 0) 0)) (tB 37 p (tL 37 p .ireturn 0) (tL 36 p (.iconst 0) 0))) (tB 32 p (tB 33 p (tL 33 p (.goto 4) 37) (tL 32 p (.iconst 1) 0)) (tL 29 p (.ifCond .gt 7) 36))) (tB 25 p (tB 27 p (tB 28 p (tL 28 p .lcmp 0) (tL 27 p .lsub 0)) (tL 25 p (.lload 7) 0)) (tB 22 p (tB 24 p (tL 24 p (.lload_n 3) 0) (tL 22 p (.lload 5) 0)) (tL 19 p (.if_icmp .ne 19) 38)))) (tB 7 p (tB 12 p (tB 15 p (tB 18 p (tL 18 p (.iconst 1) 0) (tL 15 p (.getfield 65) 15)) (tB 14 p (tL 14 p (.aload_n 0) 0) (tL 12 p (.lstore 7) 0))) (tB 8 p (tB 11 p (tL 11 p .i2l 0) (tL 8 p (.getfield 68) 16)) (tL 7 p (.aload_n 0) 0))) (tB 3 p (tB 4 p (tB 5 p (tL 5 p (.lstore 5) 0) (tL 4 p .i2l 0)) (tL 3 p (.iload_n 2) 0)) (tB 1 p (tB 2 p (tL 2 p (.lstore_n 3) 0) (tL 1 p .i2l 0)) (tL 0 p (.iload_n 1) 0))))))
set_option maxHeartbeats 4000000 in
def cd36 (p : Nat) : Option (Instr × Nat) := (tB 39 p (tB 58 p (tB 67 p (tB 72 p (tB 75 p (tB 76 p (tL 76 p .lreturn 0) (tL 75 p (.lload_n 3) 0)) (tL 72 p (.goto (-67)) 5)) (tB 68 p (tB 69 p (tL 69 p (.iinc 5 1) 0) (tL 68 p (.lstore_n 3) 0)) (tL 67 p .ladd 0))) (tB 62 p (tB 65 p (tB 66 p (tL 66 p (.lconst 1) 0) (tL 65 p (.lload_n 3) 0)) (tL 62 p (.ifCond .ne 7) 69)) (tB 59 p (tL 59 p (.invokevirtual 112) 25) (tL 58 p .iaload 0)))) (tB 50 p (tB 54 p (tB 56 p (tB 57 p (tL 57 p .isub 0) (tL 56 p (.iconst 1) 0)) (tL 54 p (.iload 5) 0)) (tB 51 p (tL 51 p (.getfield 33) 7) (tL 50 p (.aload_n 0) 0))) (tB 44 p (tB 47 p (tB 48 p (tL 48 p (.iload 6) 0) (tL 47 p (.aload_n 0) 0)) (tL 44 p (.ifCond .eq 21) 65)) (tB 42 p (tL 42 p (.iload 5) 0) (tL 39 p (.goto 30) 69))))) (tB 17 p (tB 27 p (tB 32 p (tB 33 p (tB 36 p (tL 36 p (.ifCond .eq 6) 42) (tL 33 p (.invokevirtual 112) 25)) (tL 32 p (.iload_n 1) 0)) (tB 29 p (tB 30 p (tL 30 p (.iload 6) 0) (tL 29 p (.aload_n 0) 0)) (tL 27 p (.istore 6) 0))) (tB 21 p (tB 24 p (tB 26 p (tL 26 p .iaload 0) (tL 24 p (.iload 5) 0)) (tL 21 p (.getfield 33) 7)) (tB 20 p (tL 20 p (.aload_n 0) 0) (tL 17 p (.if_icmp .ge 58) 75)))) (tB 7 p (tB 11 p (tB 13 p (tB 14 p (tL 14 p (.getfield 93) 20) (tL 13 p (.aload_n 0) 0)) (tL 11 p (.iload 5) 0)) (tB 8 p (tL 8 p (.if_icmp .ge 67) 75) (tL 7 p (.iload_n 2) 0))) (tB 2 p (tB 3 p (tB 5 p (tL 5 p (.iload 5) 0) (tL 3 p (.istore 5) 0)) (tL 2 p (.iconst 0) 0)) (tB 1 p (tL 1 p (.lstore_n 3) 0) (tL 0 p (.lconst 1) 0))))))
set_option maxHeartbeats 4000000 in
def cd37 (p : Nat) : Option (Instr × Nat) := (tB 47 p (tB 73 p (tB 84 p (tB 91 p (tB 93 p (tB 96 p (tL 96 p .return_ 0) (tL 93 p (.invokevirtual 150) 28)) (tB 92 p (tL 92 p (.iconst 0) 0) (tL 91 p .i2l 0))) (tB 88 p (tB 90 p (tL 90 p .iaload 0) (tL 88 p (.iload 6) 0)) (tB 85 p (tL 85 p (.getfield 16) 2) (tL 84 p (.aload_n 0) 0)))) (tB 76 p (tB 82 p (tB 83 p (tL 83 p (.iload_n 1) 0) (tL 82 p (.aload_n 0) 0)) (tB 79 p (tL 79 p (.goto 17) 96) (tL 76 p (.invokevirtual 150) 28))) (tB 74 p (tB 75 p (tL 75 p (.iconst 1) 0) (tL 74 p (.lconst 0) 0)) (tL 73 p (.iload_n 1) 0)))) (tB 59 p (tB 64 p (tB 69 p (tB 72 p (tL 72 p (.aload_n 0) 0) (tL 69 p (.ifCond .eq 13) 82)) (tB 66 p (tL 66 p (.invokevirtual 147) 26) (tL 64 p (.iload 6) 0))) (tB 61 p (tB 63 p (tL 63 p (.aload_n 0) 0) (tL 61 p (.istore 6) 0)) (tB 60 p (tL 60 p .iaload 0) (tL 59 p .l2i 0)))) (tB 52 p (tB 54 p (tB 57 p (tL 57 p (.lload 4) 0) (tL 54 p (.getfield 33) 7)) (tB 53 p (tL 53 p (.aload_n 0) 0) (tL 52 p .return_ 0))) (tB 48 p (tB 49 p (tL 49 p (.invokevirtual 150) 28) (tL 48 p (.iconst 1) 0)) (tL 47 p (.lconst 0) 0))))) (tB 23 p (tB 35 p (tB 41 p (tB 45 p (tB 46 p (tL 46 p (.iload_n 1) 0) (tL 45 p (.aload_n 0) 0)) (tB 42 p (tL 42 p (.ifCond .le 11) 53) (tL 41 p .lcmp 0))) (tB 39 p (tB 40 p (tL 40 p .lsub 0) (tL 39 p (.lconst 1) 0)) (tB 38 p (tL 38 p .i2l 0) (tL 35 p (.getfield 93) 20)))) (tB 28 p (tB 32 p (tB 34 p (tL 34 p (.aload_n 0) 0) (tL 32 p (.lload 4) 0)) (tB 29 p (tL 29 p (.ifCond .lt 16) 45) (tL 28 p .lcmp 0))) (tB 25 p (tB 27 p (tL 27 p (.lconst 0) 0) (tL 25 p (.lload 4) 0)) (tL 23 p (.lstore 4) 0)))) (tB 11 p (tB 17 p (tB 21 p (tB 22 p (tL 22 p .ladd 0) (tL 21 p .i2l 0)) (tB 18 p (tL 18 p (.getfield 74) 18) (tL 17 p (.aload_n 0) 0))) (tB 15 p (tB 16 p (tL 16 p .i2l 0) (tL 15 p (.iload_n 2) 0)) (tB 12 p (tL 12 p (.goto 11) 23) (tL 11 p .lsub 0)))) (tB 5 p (tB 7 p (tB 10 p (tL 10 p .i2l 0) (tL 7 p (.getfield 74) 18)) (tB 6 p (tL 6 p (.aload_n 0) 0) (tL 5 p .i2l 0))) (tB 1 p (tB 4 p (tL 4 p (.iload_n 2) 0) (tL 1 p (.ifCond .eq 14) 15)) (tL 0 p (.iload_n 3) 0))))))
def pCode (m pc : Nat) : Option (Instr × Nat) := bif Nat.ble pN m then none else bif Nat.ble (pTop m) pc then none else (bif Nat.ble 19 m then (bif Nat.ble 28 m then (bif Nat.ble 33 m then (bif Nat.ble 35 m then (bif Nat.ble 36 m then (bif Nat.ble 37 m then cd37 pc else cd36 pc) else cd35 pc) else (bif Nat.ble 34 m then cd34 pc else cd33 pc)) else (bif Nat.ble 30 m then (bif Nat.ble 31 m then (bif Nat.ble 32 m then cd32 pc else cd31 pc) else cd30 pc) else (bif Nat.ble 29 m then cd29 pc else cd28 pc))) else (bif Nat.ble 23 m then (bif Nat.ble 25 m then (bif Nat.ble 26 m then (bif Nat.ble 27 m then cd27 pc else cd26 pc) else cd25 pc) else (bif Nat.ble 24 m then cd24 pc else cd23 pc)) else (bif Nat.ble 21 m then (bif Nat.ble 22 m then cd22 pc else cd21 pc) else (bif Nat.ble 20 m then cd20 pc else cd19 pc)))) else (bif Nat.ble 9 m then (bif Nat.ble 14 m then (bif Nat.ble 16 m then (bif Nat.ble 17 m then (bif Nat.ble 18 m then cd18 pc else cd17 pc) else cd16 pc) else (bif Nat.ble 15 m then cd15 pc else cd14 pc)) else (bif Nat.ble 11 m then (bif Nat.ble 12 m then (bif Nat.ble 13 m then cd13 pc else cd12 pc) else cd11 pc) else (bif Nat.ble 10 m then cd10 pc else cd9 pc))) else (bif Nat.ble 4 m then (bif Nat.ble 6 m then (bif Nat.ble 7 m then (bif Nat.ble 8 m then cd8 pc else cd7 pc) else cd6 pc) else (bif Nat.ble 5 m then cd5 pc else cd4 pc)) else (bif Nat.ble 2 m then (bif Nat.ble 3 m then cd3 pc else cd2 pc) else (bif Nat.ble 1 m then cd1 pc else cd0 pc)))))
def lkF : List (Nat × Nat × Nat) := [(1, 7, 0), (1, 13, 1), (1, 16, 2), (1, 19, 3), (1, 22, 4), (1, 26, 5), (1, 30, 6), (1, 33, 7), (1, 36, 8), (1, 40, 9), (1, 50, 10), (1, 53, 11), (1, 56, 12), (1, 59, 13), (1, 62, 14), (1, 65, 15), (1, 68, 16), (1, 71, 17), (1, 74, 18), (1, 46, 19), (1, 93, 20), (1, 96, 21), (1, 131, 22), (1, 135, 23), (1, 125, 24), (1, 138, 25), (1, 141, 26)]
def lkN : List (Nat × Nat) := [(0, 7)]
def lkC : List (Nat × Nat × Nat) := []
def lkD : List (Nat × Nat × Nat) := []
def lkV : List (Nat × Nat × Nat) := [(0, 9, 1), (1, 43, 2), (0, 12, 3), (0, 40, 4), (0, 43, 5), (0, 47, 6), (0, 68, 7), (0, 53, 8), (0, 57, 9), (0, 61, 10), (0, 65, 11), (0, 33, 12), (0, 36, 13), (1, 77, 14), (0, 16, 15), (0, 27, 16), (1, 81, 17), (1, 119, 18), (1, 89, 19), (1, 85, 20), (1, 122, 21), (1, 144, 22), (1, 105, 23), (1, 109, 24), (1, 112, 25), (1, 147, 26), (1, 128, 27), (1, 150, 28), (0, 30, 29), (0, 23, 30), (0, 19, 31), (1, 115, 32), (1, 154, 33), (1, 99, 34), (1, 102, 35), (1, 157, 36), (1, 160, 37)]
def lkO : List (Nat × Nat) := [(1, 1)]
def mV : List Nat := [3, 4, 5, 7, 8, 9, 10, 11, 12, 13, 15, 16, 29, 30, 31]
def mP : List Nat := [2, 14, 17, 18, 19, 20, 21, 22, 23, 24, 25, 26, 27, 28, 32, 33, 34, 35, 36, 37]
def mS : List Nat := [6]
def mI : List Nat := [1]
def mA : List Nat := [1, 2, 3, 4, 5, 6, 7, 8, 9, 10, 11, 12, 13, 14, 15, 16, 17, 18, 19, 20, 21, 22, 23, 24, 25, 26, 27, 28, 29, 30, 31, 32, 33, 34, 35, 36, 37]
def aTys : List FieldType := [.int, .long, .boolean]
abbrev QCell := List Value ⊕ ((FieldType × List Int32) ⊕ List Int64)
abbrev QHeap := List QCell
abbrev QLoc := List (Option Value)
abbrev vI (x : Int32) : Option Value := some (.int x)
abbrev vR (a : Addr) : Option Value := some (.ref a)
abbrev QSt := Nat × QLoc × List Value × QHeap
def qv (ad : Nat → Addr) : Value → Value
 | .ref k => .ref (ad k)
 | v => v
def qsz : QCell → Nat
 | .inl _ => cN
 | .inr (.inl x) => x.2.length
 | .inr (.inr x) => x.length
def qhs : QHeap → Nat
 | [] => 0
 | c :: t => qsz c + qhs t
def aget {α : Type} (xs : List α) (j : Int32) : Option α := if j < 0 then none else xs[j.toNatClampNeg]?
def aset {α : Type} (xs : List α) (j : Int32) (v : α) : Option (List α) := if j < 0 then none else if j.toNatClampNeg < xs.length then some (xs.set j.toNatClampNeg v) else none
def qnew (n : Int32) : Option Nat := if n < 0 then none else if n.toNatClampNeg ≤ 67108864 then some n.toNatClampNeg else none
def qdiv (x y : Int32) : Option Int32 := if y = 0 then none else some (x / y)
def qrem (x y : Int32) : Option Int32 := if y = 0 then none else some (x % y)
def qboo (x : Int32) : Option Int32 := if x = 0 then some x else if x = 1 then some x else none
def lget : QLoc → Nat → Option Value
 | [], _ => none
 | v :: _, 0 => v
 | _ :: t, k + 1 => lget t k
def hget : QHeap → Nat → Option QCell
 | [], _ => none
 | v :: _, 0 => some v
 | _ :: t, k + 1 => hget t k
def vget : List Value → Nat → Option Value
 | [], _ => none
 | v :: _, 0 => some v
 | _ :: t, k + 1 => vget t k
def lkill (L : QLoc) : Nat → QLoc
 | 0 => L
 | k + 1 => match lget L k with
  | some (.long _) => L.set k none
  | some (.double _) => L.set k none
  | _ => L
def lput (L : QLoc) (k : Nat) (v : Value) : Option QLoc :=
 match v with
 | .long x => bif Nat.ble (k + 2) L.length then some (((lkill L k).set k (some (.long x))).set (k + 1) none) else none
 | .double _ => none
 | v => bif Nat.ble (k + 1) L.length then some ((lkill L k).set k (some v)) else none
def qload (pc : Nat) (L : QLoc) (S : List Value) (σ : QHeap) (k : Nat) (ok : Value → Bool) : Option QSt :=
 match lget L k with
 | some v => bif ok v then some (pc, L, v :: S, σ) else none
 | none => none
def isI : Value → Bool | .int _ => true | _ => false
def isJ : Value → Bool | .long _ => true | _ => false
def isR : Value → Bool | .ref _ => true | _ => false
def qstore (pc : Nat) (L : QLoc) (S : List Value) (σ : QHeap) (k : Nat) (ok : Value → Bool) : Option QSt :=
 match S with
 | v :: S' => bif ok v then (match lput L k v with | some L' => some (pc, L', S', σ) | none => none) else none
 | [] => none
def qbin (pc : Nat) (L : QLoc) (S : List Value) (σ : QHeap) (f : Int32 → Int32 → Int32) : Option QSt :=
 match S with
 | .int y :: .int x :: S' => some (pc, L, .int (f x y) :: S', σ)
 | _ => none
def qbino (pc : Nat) (L : QLoc) (S : List Value) (σ : QHeap) (f : Int32 → Int32 → Option Int32) : Option QSt :=
 match S with
 | .int y :: .int x :: S' => (f x y).bind fun z => some (pc, L, .int z :: S', σ)
 | _ => none
def qbinJ (pc : Nat) (L : QLoc) (S : List Value) (σ : QHeap) (f : Int64 → Int64 → Int64) : Option QSt :=
 match S with
 | .long y :: .long x :: S' => some (pc, L, .long (f x y) :: S', σ)
 | _ => none
def qshJ (pc : Nat) (L : QLoc) (S : List Value) (σ : QHeap) (f : Int64 → Int32 → Int64) : Option QSt :=
 match S with
 | .int y :: .long x :: S' => some (pc, L, .long (f x y) :: S', σ)
 | _ => none
def quni (pc : Nat) (L : QLoc) (S : List Value) (σ : QHeap) (f : Int32 → Value) : Option QSt :=
 match S with
 | .int x :: S' => some (pc, L, f x :: S', σ)
 | _ => none
def quniJ (pc : Nat) (L : QLoc) (S : List Value) (σ : QHeap) (f : Int64 → Value) : Option QSt :=
 match S with
 | .long x :: S' => some (pc, L, f x :: S', σ)
 | _ => none
def qald (pc : Nat) (L : QLoc) (S : List Value) (σ : QHeap) (ok : FieldType → Bool) : Option QSt :=
 match S with
 | .int j :: .ref a :: S' => (match hget σ a with
  | some (.inr (.inl x)) => bif ok x.1 then (aget x.2 j).bind fun v => some (pc, L, .int v :: S', σ) else none
  | _ => none)
 | _ => none
def qaldJ (pc : Nat) (L : QLoc) (S : List Value) (σ : QHeap) : Option QSt :=
 match S with
 | .int j :: .ref a :: S' => (match hget σ a with
  | some (.inr (.inr x)) => (aget x j).bind fun v => some (pc, L, .long v :: S', σ)
  | _ => none)
 | _ => none
def qnar : FieldType → Int32 → Int32
 | .boolean, x => x &&& 1
 | .byte, x => x.toInt8.toInt32
 | _, x => x
def qast (pc : Nat) (L : QLoc) (S : List Value) (σ : QHeap) (ok : FieldType → Bool) : Option QSt :=
 match S with
 | .int v :: .int j :: .ref a :: S' => (match hget σ a with
  | some (.inr (.inl x)) => bif ok x.1 && Nat.ble k0 a then (aset x.2 j (qnar x.1 v)).bind fun y => some (pc, L, S', σ.set a (.inr (.inl (x.1, y)))) else none
  | _ => none)
 | _ => none
def qastJ (pc : Nat) (L : QLoc) (S : List Value) (σ : QHeap) : Option QSt :=
 match S with
 | .long v :: .int j :: .ref a :: S' => (match hget σ a with
  | some (.inr (.inr x)) => bif Nat.ble k0 a then (aset x j v).bind fun y => some (pc, L, S', σ.set a (.inr (.inr y))) else none
  | _ => none)
 | _ => none
def tyI : FieldType → Bool | .int => true | _ => false
def tyB : FieldType → Bool | .boolean => true | .byte => true | _ => false
def qfit : FieldType → Value → Option Value
 | .int, .int x => some (.int x)
 | .boolean, .int x => (qboo x).bind fun y => some (.int y)
 | .long, .long x => some (.long x)
 | .array t, .ref a => some (.ref a)
 | _, _ => none
def qget (pc : Nat) (L : QLoc) (S : List Value) (σ : QHeap) (k : Nat) : Option QSt :=
 match S with
 | .ref a :: S' => (match hget σ a with
  | some (.inl vs) => (match vget vs k with | some v => some (pc, L, v :: S', σ) | none => none)
  | _ => none)
 | _ => none
def qput (pc : Nat) (L : QLoc) (S : List Value) (σ : QHeap) (k : Nat) : Option QSt :=
 match S with
 | v :: .ref a :: S' => (match hget σ a with
  | some (.inl vs) => bif Nat.ble k0 a && Nat.ble (k + 1) vs.length then (qfit (fTy k) v).bind fun w => some (pc, L, S', σ.set a (.inl (vs.set k w))) else none
  | _ => none)
 | _ => none
def qnewA (pc : Nat) (L : QLoc) (S : List Value) (σ : QHeap) (t : ArrayType) : Option QSt :=
 match S with
 | .int n :: S' => (match t with
  | .int => (qnew n).bind fun k => some (pc, L, .ref σ.length :: S', σ ++ [.inr (.inl (.int, List.replicate k 0))])
  | .boolean => (qnew n).bind fun k => some (pc, L, .ref σ.length :: S', σ ++ [.inr (.inl (.boolean, List.replicate k 0))])
  | .byte => (qnew n).bind fun k => some (pc, L, .ref σ.length :: S', σ ++ [.inr (.inl (.byte, List.replicate k 0))])
  | .long => (qnew n).bind fun k => some (pc, L, .ref σ.length :: S', σ ++ [.inr (.inr (List.replicate k 0))])
  | _ => none)
 | _ => none
def qlen (pc : Nat) (L : QLoc) (S : List Value) (σ : QHeap) : Option QSt :=
 match S with
 | .ref a :: S' => (match hget σ a with
  | some (.inr (.inl x)) => some (pc, L, .int x.2.length.toInt32 :: S', σ)
  | some (.inr (.inr x)) => some (pc, L, .int x.length.toInt32 :: S', σ)
  | _ => none)
 | _ => none
def qdup (pc : Nat) (L : QLoc) (S : List Value) (σ : QHeap) : Option QSt :=
 match S with
 | .int x :: S' => some (pc, L, .int x :: .int x :: S', σ)
 | .ref x :: S' => some (pc, L, .ref x :: .ref x :: S', σ)
 | _ => none
def qdup2 (pc : Nat) (L : QLoc) (S : List Value) (σ : QHeap) : Option QSt :=
 match S with
 | .int x :: .ref y :: S' => some (pc, L, .int x :: .ref y :: .int x :: .ref y :: S', σ)
 | .int x :: .int y :: S' => some (pc, L, .int x :: .int y :: .int x :: .int y :: S', σ)
 | .long x :: S' => some (pc, L, .long x :: .long x :: S', σ)
 | _ => none
def qpop (pc : Nat) (L : QLoc) (S : List Value) (σ : QHeap) : Option QSt :=
 match S with
 | .int _ :: S' => some (pc, L, S', σ)
 | .ref _ :: S' => some (pc, L, S', σ)
 | _ => none
def qif (pc : Nat) (L : QLoc) (S : List Value) (σ : QHeap) (cd : ClassFile.Cond) (tgt : Nat) : Option QSt :=
 match S with
 | .int x :: S' => some (bif ifCond.holds cd x then tgt else pc, L, S', σ)
 | _ => none
def qicmp (pc : Nat) (L : QLoc) (S : List Value) (σ : QHeap) (cd : ClassFile.Cond) (tgt : Nat) : Option QSt :=
 match S with
 | .int y :: .int x :: S' => some (bif if_icmp.holds cd x y then tgt else pc, L, S', σ)
 | _ => none
def qinc (pc : Nat) (L : QLoc) (S : List Value) (σ : QHeap) (k : Nat) (i : Int) : Option QSt :=
 match lget L k with
 | some (.int x) => (match lput L k (.int (x + Int32.ofInt i)) with | some L' => some (pc, L', S, σ) | none => none)
 | _ => none
def qldc (pc : Nat) (L : QLoc) (S : List Value) (σ : QHeap) (k : Nat) : Option QSt :=
 match vget cK k with
 | some v => some (pc, L, v :: S, σ)
 | none => none
def qexec (pc : Nat) (L : QLoc) (S : List Value) (σ : QHeap) (aux : Nat) : Instr → Option QSt
 | .aload_n k => qload (pc + 1) L S σ k.val isR
 | .aload k => qload (pc + 2) L S σ k isR
 | .iload_n k => qload (pc + 1) L S σ k.val isI
 | .iload k => qload (pc + 2) L S σ k isI
 | .lload_n k => qload (pc + 1) L S σ k.val isJ
 | .lload k => qload (pc + 2) L S σ k isJ
 | .iconst i => some (pc + 1, L, .int (Int32.ofInt i) :: S, σ)
 | .bipush i => some (pc + 2, L, .int (Int8.ofInt i).toInt32 :: S, σ)
 | .sipush i => some (pc + 3, L, .int (Int16.ofInt i).toInt32 :: S, σ)
 | .lconst k => some (pc + 1, L, .long (Int64.ofNat k.val) :: S, σ)
 | .ldc _ => qldc (pc + 2) L S σ aux
 | .ldc2_w _ => qldc (pc + 3) L S σ aux
 | .istore_n k => qstore (pc + 1) L S σ k.val isI
 | .istore k => qstore (pc + 2) L S σ k isI
 | .lstore_n k => qstore (pc + 1) L S σ k.val isJ
 | .lstore k => qstore (pc + 2) L S σ k isJ
 | .astore_n k => qstore (pc + 1) L S σ k.val isR
 | .astore k => qstore (pc + 2) L S σ k isR
 | .iinc k i => qinc (pc + 3) L S σ k i
 | .iadd => qbin (pc + 1) L S σ fun x y => x + y
 | .isub => qbin (pc + 1) L S σ fun x y => x - y
 | .imul => qbin (pc + 1) L S σ fun x y => x * y
 | .iand => qbin (pc + 1) L S σ fun x y => x &&& y
 | .ior => qbin (pc + 1) L S σ fun x y => x ||| y
 | .ixor => qbin (pc + 1) L S σ fun x y => x ^^^ y
 | .ishl => qbin (pc + 1) L S σ fun x y => x <<< (y &&& 31)
 | .ishr => qbin (pc + 1) L S σ fun x y => x >>> (y &&& 31)
 | .iushr => qbin (pc + 1) L S σ fun x y => XT.ushr x y
 | .idiv => qbino (pc + 1) L S σ qdiv
 | .irem => qbino (pc + 1) L S σ qrem
 | .ineg => quni (pc + 1) L S σ fun x => .int (-x)
 | .i2l => quni (pc + 1) L S σ fun x => .long x.toInt64
 | .i2b => quni (pc + 1) L S σ fun x => .int x.toInt8.toInt32
 | .l2i => quniJ (pc + 1) L S σ fun x => .int x.toInt32
 | .lneg => quniJ (pc + 1) L S σ fun x => .long (-x)
 | .ladd => qbinJ (pc + 1) L S σ fun x y => x + y
 | .lsub => qbinJ (pc + 1) L S σ fun x y => x - y
 | .lmul => qbinJ (pc + 1) L S σ fun x y => x * y
 | .land => qbinJ (pc + 1) L S σ fun x y => x &&& y
 | .lor => qbinJ (pc + 1) L S σ fun x y => x ||| y
 | .lxor => qbinJ (pc + 1) L S σ fun x y => x ^^^ y
 | .lshl => qshJ (pc + 1) L S σ fun x y => x <<< (y.toInt64 &&& 63)
 | .lshr => qshJ (pc + 1) L S σ fun x y => x >>> (y.toInt64 &&& 63)
 | .lushr => qshJ (pc + 1) L S σ fun x y => XT.ushrL x y
 | .lcmp => (match S with
  | .long y :: .long x :: S' => some (pc + 1, L, .int (XT.cmpL x y) :: S', σ)
  | _ => none)
 | .goto _ => some (aux, L, S, σ)
 | .ifCond cd _ => qif (pc + 3) L S σ cd aux
 | .if_icmp cd _ => qicmp (pc + 3) L S σ cd aux
 | .dup => qdup (pc + 1) L S σ
 | .dup2 => qdup2 (pc + 1) L S σ
 | .pop => qpop (pc + 1) L S σ
 | .getfield _ => qget (pc + 3) L S σ aux
 | .putfield _ => qput (pc + 3) L S σ aux
 | .iaload => qald (pc + 1) L S σ tyI
 | .baload => qald (pc + 1) L S σ tyB
 | .laload => qaldJ (pc + 1) L S σ
 | .iastore => qast (pc + 1) L S σ tyI
 | .bastore => qast (pc + 1) L S σ tyB
 | .lastore => qastJ (pc + 1) L S σ
 | .arraylength => qlen (pc + 1) L S σ
 | .newarray t => qnewA (pc + 2) L S σ t
 | .new _ => some (pc + 3, L, .ref σ.length :: S, σ ++ [.inl cDef])
 | _ => none
def qstep (m : Nat) (st : QSt) : Option QSt :=
 match pCode m st.1 with
 | some (i, aux) => qexec st.1 st.2.1 st.2.2.1 st.2.2.2 aux i
 | none => none
def qsteps (m : Nat) : Nat → QSt → Option QSt
 | 0, st => some st
 | n + 1, st => match qstep m st with | some st' => qsteps m n st' | none => none
def qentry (args : List Value) (mx : Nat) : QLoc := (args.flatMap fun v => match v with | .long x => [some (.long x), none] | .double x => [some (.double x), none] | v => [some v]) ++ List.replicate (mx - (args.map fun v => v.category).sum) none
def ilen : Instr → Nat
 | .aload _ | .iload _ | .lload _ | .istore _ | .lstore _ | .astore _ | .bipush _ | .ldc _ | .newarray _ => 2
 | .sipush _ | .ldc2_w _ | .iinc _ _ | .goto _ | .ifCond _ _ | .if_icmp _ _ | .getfield _ | .putfield _ | .new _ | .invokevirtual _ | .invokespecial _ | .invokestatic _ => 3
 | _ => 1
def qtgt (pc : Nat) (o : Int) (aux : Nat) : Bool := decide (0 ≤ (pc : Int) + o) && decide (((pc : Int) + o).toNat = aux)
def qlk (m pc : Nat) (i : Instr) (aux : Nat) : Bool :=
 match i with
 | .goto o => qtgt pc o aux
 | .ifCond _ o => qtgt pc o aux
 | .if_icmp _ o => qtgt pc o aux
 | .getfield idx => lkF.contains (pK m, idx, aux)
 | .putfield idx => lkF.contains (pK m, idx, aux) && (!fFin aux || (pK m == 1 && pNm m == "<init>"))
 | .new idx => lkN.contains (pK m, idx)
 | .newarray t => aTys.contains (newarray.typeOf t)
 | .ldc idx => lkC.contains (pK m, idx, aux)
 | .ldc2_w idx => lkD.contains (pK m, idx, aux)
 | _ => true
def qchk (m pc : Nat) (i : Instr) (aux : Nat) : Bool := decide (decode (pBytes m) pc = .ok (i, ilen i)) && qlk m pc i aux
def QCellOk (Z : State) (ad : Nat → Addr) (h : Heap) (a : Addr) : QCell → Prop
 | .inl vs => Exa Z h a cName ∧ vs.length = nF ∧ ∀ (k : Nat) (v : Value), k < nF → vget vs k = some v → Fld Z h a cName (fNm k) (fDs k) (qv ad v)
 | .inr (.inl x) => ∃ c : Cell, Arr Z h a c x.1 ∧ c.slots = (x.2.map Value.int).toArray
 | .inr (.inr x) => ∃ c : Cell, Arr Z h a c .long ∧ c.slots = (x.map Value.long).toArray
def QAd (n0 : Nat) (ad : Nat → Addr) : Prop := (∀ k, k0 ≤ k → ad k = n0 + (k - k0)) ∧ ∀ i j, ad i = ad j → i = j
def QRep (Z : State) (n0 : Nat) (ad : Nat → Addr) (h : Heap) (σ : QHeap) : Prop := k0 ≤ σ.length ∧ h.size = n0 + (σ.length - k0) ∧ ∀ k c, hget σ k = some c → QCellOk Z ad h (ad k) c
def QLocOk (ad : Nat → Addr) (L : QLoc) (C : Array Slot) : Prop :=
 L.length = C.size ∧ (∀ k v, lget L k = some v → C[k]? = some (.val (qv ad v))) ∧ (∀ k w, C[k]? = some (.val w) → w.category = 2 → C[k + 1]? = some .second) ∧ ∀ k, C[k]? = some .second → ∃ j w, k = j + 1 ∧ C[j]? = some (.val w) ∧ w.category = 2
def QW (Z : State) (a0 : Array Value) : Prop :=
 (∀ t ∈ lkF, (Cond.fieldLink (kName t.1) t.2.1 cName (fNm t.2.2) (fDs t.2.2)).before a0 Z = true) ∧
 (∀ t ∈ lkN, (Cond.classLink (kName t.1) t.2 cName).before a0 Z = true) ∧
 (∀ t ∈ lkC, ∃ v, vget cK t.2.2 = some (.int v) ∧ (Cond.constant (kName t.1) t.2.1 v).before a0 Z = true) ∧
 (∀ t ∈ lkD, ∃ v, vget cK t.2.2 = some (.long v) ∧ (Cond.constantLong (kName t.1) t.2.1 v).before a0 Z = true) ∧
 (∀ t ∈ lkV, (Cond.methodLink (kName t.1) t.2.1 (pName t.2.2)).before a0 Z = true) ∧
 (∀ t ∈ lkO, (Cond.methodLink (kName t.1) t.2 Lib.objectInit).before a0 Z = true) ∧
 (∀ m ∈ mV, (Cond.declares (pName m)).before a0 Z = true ∧ (Cond.selects cName (pName m) (pName m)).before a0 Z = true ∧ (Cond.instanceMethod (pName m)).before a0 Z = true) ∧
 (∀ m ∈ mP, (Cond.instanceMethod (pName m)).before a0 Z = true ∧ (Cond.privateMethod (pName m)).before a0 Z = true) ∧
 (∀ m ∈ mS, (Cond.static (pName m)).before a0 Z = true) ∧
 (∀ m ∈ mI, (Cond.instanceMethod (pName m)).before a0 Z = true) ∧
 (∀ m ∈ mA, (Cond.code (pName m) (pBytes m) (pMaxL m) (pRet m)).before a0 Z = true ∧ (Cond.initialized (kName (pK m))).before a0 Z = true) ∧
 (Cond.instanceMethod Lib.objectInit).before a0 Z = true ∧ (Cond.code Lib.objectInit ⟨#[0xb1]⟩ 1 none).before a0 Z = true ∧
 (∀ k, k < nF → bif fFin k then (Cond.laysFinal cName cName (fNm k) (fDs k)).before a0 Z = true else (Cond.lays cName cName (fNm k) (fDs k)).before a0 Z = true) ∧
 (Cond.instantiable cName cN).before a0 Z = true ∧ (Cond.initialized cName).before a0 Z = true ∧
 ∀ ty ∈ aTys, (Cond.arrayClass ty).before a0 Z = true
section Words
variable {Z : State} {a0 : Array Value}
theorem qw_fl (W : QW Z a0) : ∀ t ∈ lkF, (Cond.fieldLink (kName t.1) t.2.1 cName (fNm t.2.2) (fDs t.2.2)).before a0 Z = true := W.1
theorem qw_nw (W : QW Z a0) : ∀ t ∈ lkN, (Cond.classLink (kName t.1) t.2 cName).before a0 Z = true := W.2.1
theorem qw_cI (W : QW Z a0) : ∀ t ∈ lkC, ∃ v, vget cK t.2.2 = some (.int v) ∧ (Cond.constant (kName t.1) t.2.1 v).before a0 Z = true := W.2.2.1
theorem qw_cJ (W : QW Z a0) : ∀ t ∈ lkD, ∃ v, vget cK t.2.2 = some (.long v) ∧ (Cond.constantLong (kName t.1) t.2.1 v).before a0 Z = true := W.2.2.2.1
theorem qw_ml (W : QW Z a0) : ∀ t ∈ lkV, (Cond.methodLink (kName t.1) t.2.1 (pName t.2.2)).before a0 Z = true := W.2.2.2.2.1
theorem qw_mo (W : QW Z a0) : ∀ t ∈ lkO, (Cond.methodLink (kName t.1) t.2 Lib.objectInit).before a0 Z = true := W.2.2.2.2.2.1
theorem qw_vi (W : QW Z a0) : ∀ m ∈ mV, (Cond.declares (pName m)).before a0 Z = true ∧ (Cond.selects cName (pName m) (pName m)).before a0 Z = true ∧ (Cond.instanceMethod (pName m)).before a0 Z = true := W.2.2.2.2.2.2.1
theorem qw_pr (W : QW Z a0) : ∀ m ∈ mP, (Cond.instanceMethod (pName m)).before a0 Z = true ∧ (Cond.privateMethod (pName m)).before a0 Z = true := W.2.2.2.2.2.2.2.1
theorem qw_st (W : QW Z a0) : ∀ m ∈ mS, (Cond.static (pName m)).before a0 Z = true := W.2.2.2.2.2.2.2.2.1
theorem qw_ini (W : QW Z a0) : ∀ m ∈ mI, (Cond.instanceMethod (pName m)).before a0 Z = true := W.2.2.2.2.2.2.2.2.2.1
theorem qw_cod (W : QW Z a0) : ∀ m ∈ mA, (Cond.code (pName m) (pBytes m) (pMaxL m) (pRet m)).before a0 Z = true ∧ (Cond.initialized (kName (pK m))).before a0 Z = true := W.2.2.2.2.2.2.2.2.2.2.1
theorem qw_oi (W : QW Z a0) : (Cond.instanceMethod Lib.objectInit).before a0 Z = true := W.2.2.2.2.2.2.2.2.2.2.2.1
theorem qw_oc (W : QW Z a0) : (Cond.code Lib.objectInit ⟨#[0xb1]⟩ 1 none).before a0 Z = true := W.2.2.2.2.2.2.2.2.2.2.2.2.1
theorem qw_lay (W : QW Z a0) : ∀ k, k < nF → bif fFin k then (Cond.laysFinal cName cName (fNm k) (fDs k)).before a0 Z = true else (Cond.lays cName cName (fNm k) (fDs k)).before a0 Z = true := W.2.2.2.2.2.2.2.2.2.2.2.2.2.1
theorem qw_inst (W : QW Z a0) : (Cond.instantiable cName cN).before a0 Z = true := W.2.2.2.2.2.2.2.2.2.2.2.2.2.2.1
theorem qw_init (W : QW Z a0) : (Cond.initialized cName).before a0 Z = true := W.2.2.2.2.2.2.2.2.2.2.2.2.2.2.2.1
theorem qw_arr (W : QW Z a0) : ∀ ty ∈ aTys, (Cond.arrayClass ty).before a0 Z = true := W.2.2.2.2.2.2.2.2.2.2.2.2.2.2.2.2
end Words
theorem hget_eq : ∀ (σ : QHeap) k, hget σ k = σ[k]?
 | [], _ => by simp [hget]
 | _ :: _, 0 => by simp [hget]
 | _ :: t, k + 1 => by simp [hget, hget_eq t k]
theorem vget_eq : ∀ (σ : List Value) k, vget σ k = σ[k]?
 | [], _ => by simp [vget]
 | _ :: _, 0 => by simp [vget]
 | _ :: t, k + 1 => by simp [vget, vget_eq t k]
theorem lget_eq : ∀ (L : QLoc) k, lget L k = (L[k]?).getD none
 | [], _ => by simp [lget]
 | _ :: _, 0 => by simp [lget]
 | _ :: t, k + 1 => by simp [lget, lget_eq t k]
theorem lget_lt {L : QLoc} {k : Nat} {v : Value} (h : lget L k = some v) : k < L.length := by
 rw [lget_eq] at h
 rcases Nat.lt_or_ge k L.length with q | q
 ·exact q
 ·simp [List.getElem?_eq_none q] at h
theorem lget_set {L : QLoc} {k j : Nat} {o : Option Value} (hk : k < L.length) : lget (L.set k o) j = if j = k then o else lget L j := by
 simp only [lget_eq, List.getElem?_set]
 by_cases e : k = j
 ·subst e; simp [hk]
 ·simp [e, Ne.symm e]
theorem qhs_app (σ τ : QHeap) : qhs (σ ++ τ) = qhs σ + qhs τ := by
 induction σ with
 | nil => simp [qhs]
 | cons c t ih => simp [qhs, ih, Nat.add_assoc]
theorem qhs_set {σ : QHeap} {k : Nat} {c d : QCell} (h : hget σ k = some c) (hs : qsz d = qsz c) : qhs (σ.set k d) = qhs σ := by
 induction σ generalizing k with
 | nil => simp [hget] at h
 | cons x t ih =>
  cases k with
  | zero => simp only [hget, Option.some.injEq] at h; subst h; simp [qhs, hs]
  | succ k => simp only [hget] at h; simp [qhs, ih h]
theorem hget_set {σ : QHeap} {k j : Nat} {c d : QCell} (h : hget σ k = some c) : hget (σ.set k d) j = if j = k then some d else hget σ j := by
 rw [hget_eq] at h
 have hk := (List.getElem?_eq_some_iff.mp h).1
 simp only [hget_eq, List.getElem?_set]
 by_cases e : k = j
 ·subst e; simp [hk]
 ·simp [e, Ne.symm e]
theorem lkill_len (L : QLoc) (k : Nat) : (lkill L k).length = L.length := by
 cases k with
 | zero => rfl
 | succ k => simp only [lkill]; split <;> simp
theorem lget_kill {L : QLoc} {k j : Nat} {v : Value} (h : lget (lkill L k) j = some v) : lget L j = some v ∧ (k = j + 1 → v.category ≠ 2) := by
 cases k with
 | zero => exact ⟨h, fun e => by omega⟩
 | succ k =>
  simp only [lkill] at h
  split at h
  ·rename_i x q
   rw [lget_set (lget_lt q)] at h
   split at h
   ·cases h
   ·rename_i ne; exact ⟨h, fun e => absurd (by omega) ne⟩
  ·rename_i x q
   rw [lget_set (lget_lt q)] at h
   split at h
   ·cases h
   ·rename_i ne; exact ⟨h, fun e => absurd (by omega) ne⟩
  ·rename_i q1 q2
   refine ⟨h, fun e hc => ?_⟩
   obtain rfl : j = k := by omega
   cases v with
   | long x => exact q1 _ h
   | double x => exact q2 _ h
   | _ => simp [Value.category] at hc
theorem qv_cat (ad : Nat → Addr) (v : Value) : (qv ad v).category = v.category := by cases v <;> rfl
def kA (C : Array Slot) (k j : Nat) : Prop := k = j + 1 ∧ C[k]? = some .second
def kB (C : Array Slot) (k j : Nat) : Prop := j = k + 1 ∧ ∃ u, C[k]? = some (.val u) ∧ u.category = 2
def kD (C : Array Slot) (k j : Nat) : Prop := j = k + 2 ∧ ∃ u, C[k + 1]? = some (.val u) ∧ u.category = 2
theorem set1_at {C D : Array Slot} {k : Nat} {w : Value} (hk : k < C.size) (hw : w.category = 1) (h : storeLocals C k w = some D) :
  D.size = C.size ∧ D[k]? = some (.val w) ∧ ∀ j, j ≠ k → (D[j]? = C[j]? ∧ ¬ kA C k j ∧ ¬ kB C k j) ∨ D[j]? = some .unset ∧ (kA C k j ∨ kB C k j) := by
 have hck : C[k]? = some C[k] := Array.getElem?_eq_getElem hk
 unfold storeLocals at h
 simp only [hck, Option.bind_eq_bind, Option.bind_some] at h
 have self : ∀ {E : Array Slot}, k < E.size → storeSelf E k w = some D → D = E.setIfInBounds k (.val w) := by
  intro E hE q
  simp only [storeSelf, setAt, hE, if_true, Option.bind_eq_bind, Option.bind_some, hw] at q
  simpa using q.symm
 split at h
 ·rename_i q
  have hk1 : k - 1 < C.size := by omega
  simp only [setAt, hk1, if_true, Option.bind_some] at h
  have e := self (by simpa using hk) h
  subst e
  refine ⟨by simp, by simp [hk], fun j hj => ?_⟩
  by_cases ej : k = j + 1
  ·refine Or.inr ⟨?_, Or.inl ⟨ej, by rw [hck, q]⟩⟩
   rw [Array.getElem?_setIfInBounds_ne (Ne.symm hj), show j = k - 1 by omega]
   simp [hk1]
  ·refine Or.inl ⟨?_, fun x => ej x.1, fun x => ?_⟩
   ·rw [Array.getElem?_setIfInBounds_ne (Ne.symm hj), Array.getElem?_setIfInBounds_ne (by omega)]
   ·obtain ⟨-, u, x1, -⟩ := x
    rw [hck, q] at x1; cases x1
 ·rename_i u q
  split at h
  ·rename_i hu
   by_cases hk1 : k + 1 < C.size
   ·simp only [setAt, hk1, if_true, Option.bind_some] at h
    have e := self (by simpa using hk) h
    subst e
    refine ⟨by simp, by simp [hk], fun j hj => ?_⟩
    by_cases ej : j = k + 1
    ·refine Or.inr ⟨?_, Or.inr ⟨ej, u, by rw [hck, q], hu⟩⟩
     rw [Array.getElem?_setIfInBounds_ne (Ne.symm hj), ej]
     simp [hk1]
    ·refine Or.inl ⟨?_, fun x => ?_, fun x => ej x.1⟩
     ·rw [Array.getElem?_setIfInBounds_ne (Ne.symm hj), Array.getElem?_setIfInBounds_ne (by omega)]
     ·obtain ⟨-, x1⟩ := x
      rw [hck, q] at x1; cases x1
   ·simp [setAt, hk1] at h
  ·rename_i hu
   have e := self hk h
   subst e
   refine ⟨by simp, by simp [hk], fun j hj => Or.inl ⟨Array.getElem?_setIfInBounds_ne (Ne.symm hj), fun x => ?_, fun x => ?_⟩⟩
   ·obtain ⟨-, x1⟩ := x
    rw [hck, q] at x1; cases x1
   ·obtain ⟨-, u', x1, x2⟩ := x
    rw [hck, q] at x1; cases x1; exact hu x2
 ·rename_i q
  have e := self hk h
  subst e
  refine ⟨by simp, by simp [hk], fun j hj => Or.inl ⟨Array.getElem?_setIfInBounds_ne (Ne.symm hj), fun x => ?_, fun x => ?_⟩⟩
  ·obtain ⟨-, x1⟩ := x
   rw [hck, q] at x1; cases x1
  ·obtain ⟨-, u', x1, x2⟩ := x
   rw [hck, q] at x1; cases x1
theorem set2_at {C D : Array Slot} {k : Nat} {w : Value} (hk : k + 1 < C.size) (hw : w.category = 2) (wf : ∀ k w, C[k]? = some (.val w) → w.category = 2 → C[k + 1]? = some .second) (h : storeLocals C k w = some D) :
  D.size = C.size ∧ D[k]? = some (.val w) ∧ D[k + 1]? = some .second ∧ ∀ j, j ≠ k → j ≠ k + 1 → (D[j]? = C[j]? ∧ ¬ kA C k j ∧ ¬ kD C k j) ∨ D[j]? = some .unset ∧ (kA C k j ∨ kD C k j) := by
 have hk0 : k < C.size := by omega
 have hck : C[k]? = some C[k] := Array.getElem?_eq_getElem hk0
 unfold storeLocals at h
 simp only [hck, Option.bind_eq_bind, Option.bind_some] at h
 have self : ∀ {E : Array Slot}, E.size = C.size → storeSelf E k w = some D → D.size = C.size ∧ D[k]? = some (.val w) ∧ D[k + 1]? = some .second ∧ ∀ j, j ≠ k → j ≠ k + 1 → (D[j]? = E[j]? ∧ ¬ kD E k j) ∨ D[j]? = some .unset ∧ kD E k j := by
  intro E hs q
  have h1 : k < E.size := by omega
  have h2 : k + 1 < E.size := by omega
  have h3 : (E.setIfInBounds k (.val w))[k + 1]? = some E[k + 1] := by rw [Array.getElem?_setIfInBounds_ne (by omega)]; exact Array.getElem?_eq_getElem h2
  simp only [storeSelf, setAt, h1, if_true, Option.bind_eq_bind, Option.bind_some, hw, h3] at q
  have plain : (¬ ∃ u, E[k + 1]? = some (.val u) ∧ u.category = 2) → some ((E.setIfInBounds k (.val w)).setIfInBounds (k + 1) .second) = some D → D.size = C.size ∧ D[k]? = some (.val w) ∧ D[k + 1]? = some .second ∧ ∀ j, j ≠ k → j ≠ k + 1 → (D[j]? = E[j]? ∧ ¬ kD E k j) ∨ D[j]? = some .unset ∧ kD E k j := by
   intro no q
   cases q
   refine ⟨by simp [hs], ?_, ?_, fun j hj hj1 => Or.inl ⟨?_, fun x => no x.2⟩⟩
   ·rw [Array.getElem?_setIfInBounds_ne (by omega)]; simp [h1]
   ·simp [h2]
   ·rw [Array.getElem?_setIfInBounds_ne (by omega), Array.getElem?_setIfInBounds_ne (by omega)]
  split at q
  ·rename_i u hu
   split at q
   ·rename_i hu2
    by_cases h5 : k + 2 < E.size
    ·simp [h5, h2] at q
     cases q
     refine ⟨by simp [hs], ?_, ?_, fun j hj hj1 => ?_⟩
     ·rw [Array.getElem?_setIfInBounds_ne (by omega), Array.getElem?_setIfInBounds_ne (by omega)]; simp [h1]
     ·simp [h2]
     ·by_cases e : j = k + 2
      ·refine Or.inr ⟨?_, e, u, by rw [Array.getElem?_eq_getElem h2, hu], hu2⟩
       rw [Array.getElem?_setIfInBounds_ne (by omega), e]
       simp [h5]
      ·refine Or.inl ⟨?_, fun x => e x.1⟩
       rw [Array.getElem?_setIfInBounds_ne (by omega), Array.getElem?_setIfInBounds_ne (by omega), Array.getElem?_setIfInBounds_ne (by omega)]
    ·simp [h5] at q
   ·rename_i hu2
    refine plain ?_ (by simpa [h2] using q)
    rintro ⟨u', x1, x2⟩
    rw [Array.getElem?_eq_getElem h2, hu] at x1; cases x1; exact hu2 x2
  ·rename_i hu
   refine plain ?_ (by simpa [h2] using q)
   rintro ⟨u', x1, x2⟩
   rw [Array.getElem?_eq_getElem h2] at x1; exact hu _ (Option.some.inj x1)
 split at h
 ·rename_i q
  have hk1 : k - 1 < C.size := by omega
  simp only [setAt, hk1, if_true, Option.bind_some] at h
  obtain ⟨e1, e2, e3, e4⟩ := self (by simp) h
  refine ⟨e1, e2, e3, fun j hj hj1 => ?_⟩
  have h6 : ∀ i, i + 1 ≠ k ∨ k = 0 → i ≠ k ∨ k ≠ 0 → (C.setIfInBounds (k - 1) Slot.unset)[i]? = C[i]? := fun i hi hi2 => Array.getElem?_setIfInBounds_ne (by omega)
  have h7 : (C.setIfInBounds (k - 1) Slot.unset)[k + 1]? = C[k + 1]? := Array.getElem?_setIfInBounds_ne (by omega)
  rcases e4 j hj hj1 with ⟨r, r'⟩ | ⟨r, r1, u, r2, r3⟩
  ·by_cases ej : k = j + 1
   ·refine Or.inr ⟨?_, Or.inl ⟨ej, by rw [hck, q]⟩⟩
    rw [r, show j = k - 1 by omega]; simp [hk1]
   ·refine Or.inl ⟨by rw [r]; exact h6 _ (by omega) (by omega), fun x => ej x.1, fun x => r' ⟨x.1, ?_⟩⟩
    rw [h7]; exact x.2
  ·exact Or.inr ⟨r, Or.inr ⟨r1, u, by rw [← h7]; exact r2, r3⟩⟩
 ·rename_i u q
  split at h
  ·rename_i hu
   simp only [setAt, hk, if_true, Option.bind_some] at h
   obtain ⟨e1, e2, e3, e4⟩ := self (by simp) h
   have hsec := wf k u (by rw [hck, q]) hu
   refine ⟨e1, e2, e3, fun j hj hj1 => ?_⟩
   rcases e4 j hj hj1 with ⟨r, r'⟩ | ⟨r, r1, u', r2, r3⟩
   ·refine Or.inl ⟨by rw [r]; exact Array.getElem?_setIfInBounds_ne (by omega), fun x => ?_, fun x => ?_⟩
    ·obtain ⟨-, x1⟩ := x
     rw [hck, q] at x1; cases x1
    ·obtain ⟨-, u', x1, x2⟩ := x
     rw [hsec] at x1; cases x1
   ·simp [hk] at r2
  ·rename_i hu
   obtain ⟨e1, e2, e3, e4⟩ := self rfl h
   refine ⟨e1, e2, e3, fun j hj hj1 => ?_⟩
   rcases e4 j hj hj1 with ⟨r, r'⟩ | ⟨r, r'⟩
   ·refine Or.inl ⟨r, fun x => ?_, r'⟩
    obtain ⟨-, x1⟩ := x
    rw [hck, q] at x1; cases x1
   ·exact Or.inr ⟨r, Or.inr r'⟩
 ·rename_i q
  obtain ⟨e1, e2, e3, e4⟩ := self rfl h
  refine ⟨e1, e2, e3, fun j hj hj1 => ?_⟩
  rcases e4 j hj hj1 with ⟨r, r'⟩ | ⟨r, r'⟩
  ·refine Or.inl ⟨r, fun x => ?_, r'⟩
   obtain ⟨-, x1⟩ := x
   rw [hck, q] at x1; cases x1
  ·exact Or.inr ⟨r, Or.inr r'⟩
theorem store_some {C : Array Slot} {k : Nat} {w : Value} (hk : k + (w.category - 1) < C.size) (hc : w.category = 1 ∨ w.category = 2) (wf : ∀ k w, C[k]? = some (.val w) → w.category = 2 → C[k + 1]? = some .second) :
  ∃ D, storeLocals C k w = some D := by
 have hk0 : k < C.size := by omega
 have hck : C[k]? = some C[k] := Array.getElem?_eq_getElem hk0
 have self : ∀ {E : Array Slot}, E.size = C.size → (∀ u, E[k + 1]? = some (.val u) → u.category = 2 → k + 2 < E.size) → ∃ D, storeSelf E k w = some D := by
  intro E hs hn
  have h1 : k < E.size := by omega
  simp only [storeSelf, setAt, h1, if_true, Option.bind_eq_bind, Option.bind_some]
  rcases hc with hc | hc
  ·exact ⟨E.setIfInBounds k (.val w), by simp [hc]⟩
  ·have h2 : k + 1 < E.size := by omega
   have h3 : (E.setIfInBounds k (.val w))[k + 1]? = some E[k + 1] := by rw [Array.getElem?_setIfInBounds_ne (by omega)]; exact Array.getElem?_eq_getElem h2
   simp only [hc, if_true, h3, Option.bind_some]
   split
   ·rename_i u hu
    split
    ·rename_i hu2
     have h5 := hn u (by rw [Array.getElem?_eq_getElem h2, hu]) hu2
     exact ⟨_, by simp [h5, h2]; rfl⟩
    ·exact ⟨_, by simp [h2]; rfl⟩
   ·exact ⟨_, by simp [h2]; rfl⟩
 have next : ∀ u, C[k + 1]? = some (.val u) → u.category = 2 → k + 2 < C.size := fun u h1 h2 => (Array.getElem?_eq_some_iff.mp (wf _ _ h1 h2)).1
 unfold storeLocals
 simp only [hck, Option.bind_eq_bind, Option.bind_some]
 split
 ·have hk1 : k - 1 < C.size := by omega
  simp only [setAt, hk1, if_true, Option.bind_some]
  refine self (by simp) fun u h1 h2 => ?_
  rw [Array.getElem?_setIfInBounds_ne (by omega)] at h1
  simpa using next u h1 h2
 ·rename_i u q
  split
  ·rename_i hu
   have h5 := (Array.getElem?_eq_some_iff.mp (wf k u (by rw [hck, q]) hu)).1
   simp only [setAt, h5, if_true, Option.bind_some]
   refine self (by simp) fun u h1 h2 => ?_
   simp [h5] at h1
  ·exact self rfl next
 ·exact self rfl next
theorem store_ok1 {ad : Nat → Addr} {L : QLoc} {C : Array Slot} {k : Nat} {v : Value} (H : QLocOk ad L C) (hv : v.category = 1) (hk : k < L.length) :
  ∃ D, storeLocals C k (qv ad v) = some D ∧ QLocOk ad ((lkill L k).set k (some v)) D ∧ D.size = C.size := by
 obtain ⟨H1, H2, H3, H4⟩ := H
 have hc : (qv ad v).category = 1 := by rw [qv_cat, hv]
 obtain ⟨D, hD⟩ := store_some (C := C) (k := k) (w := qv ad v) (by rw [hc]; omega) (Or.inl hc) H3
 obtain ⟨d1, d2, d3⟩ := set1_at (by omega) hc hD
 refine ⟨D, hD, ⟨by simp [lkill_len, H1, d1], fun j u hj => ?_, fun j w hj hw => ?_, fun j hj => ?_⟩, d1⟩
 ·rw [lget_set (by rw [lkill_len]; exact hk)] at hj
  split at hj
  ·rename_i e; cases hj; rw [e]; exact d2
  ·rename_i ne
   obtain ⟨g1, g2⟩ := lget_kill hj
   have g3 := H2 j u g1
   rcases d3 j ne with ⟨r, -, -⟩ | ⟨-, ⟨r1, r2⟩ | ⟨r1, w, r2, r3⟩⟩
   ·rw [r]; exact g3
   ·obtain ⟨i, w, z1, z2, z3⟩ := H4 k r2
    obtain rfl : i = j := by omega
    rw [g3] at z2
    cases z2
    rw [qv_cat] at z3
    exact absurd z3 (g2 r1)
   ·have := H3 k w r2 r3
    rw [← r1, g3] at this
    cases this
 ·by_cases e : j = k
  ·subst e; rw [d2] at hj; cases hj; rw [hc] at hw; cases hw
  ·rcases d3 j e with ⟨r, nA, nB⟩ | ⟨r, -⟩
   ·rw [r] at hj
    have g := H3 j w hj hw
    have e2 : j + 1 ≠ k := fun q => nA ⟨q.symm, by rw [← q]; exact g⟩
    rcases d3 (j + 1) e2 with ⟨z, -, -⟩ | ⟨-, ⟨z1, z2⟩ | ⟨z1, -⟩⟩
    ·rw [z]; exact g
    ·obtain ⟨i, u, y1, y2, y3⟩ := H4 k z2
     obtain rfl : i = j + 1 := by omega
     rw [g] at y2; cases y2
    ·omega
   ·rw [r] at hj; cases hj
 ·by_cases e : j = k
  ·subst e; rw [d2] at hj; cases hj
  ·rcases d3 j e with ⟨r, nA, nB⟩ | ⟨r, -⟩
   ·rw [r] at hj
    obtain ⟨i, w, y1, y2, y3⟩ := H4 j hj
    refine ⟨i, w, y1, ?_, y3⟩
    have ei : i ≠ k := fun q => nB ⟨by omega, w, by rw [← q]; exact y2, y3⟩
    rcases d3 i ei with ⟨z, -, -⟩ | ⟨-, ⟨z1, z2⟩ | ⟨z1, u, z2, z3⟩⟩
    ·rw [z]; exact y2
    ·omega
    ·have := H3 k u z2 z3
     rw [← z1, y2] at this; cases this
   ·rw [r] at hj; cases hj
theorem store_ok2 {ad : Nat → Addr} {L : QLoc} {C : Array Slot} {k : Nat} {x : Int64} (H : QLocOk ad L C) (hk : k + 1 < L.length) :
  ∃ D, storeLocals C k (.long x) = some D ∧ QLocOk ad (((lkill L k).set k (some (.long x))).set (k + 1) none) D ∧ D.size = C.size := by
 obtain ⟨H1, H2, H3, H4⟩ := H
 have hc : (Value.long x).category = 2 := rfl
 obtain ⟨D, hD⟩ := store_some (C := C) (k := k) (w := .long x) (by rw [hc]; omega) (Or.inr hc) H3
 obtain ⟨d1, d2, d2', d3⟩ := set2_at (by omega) hc H3 hD
 refine ⟨D, hD, ⟨by simp [lkill_len, H1, d1], fun j u hj => ?_, fun j w hj hw => ?_, fun j hj => ?_⟩, d1⟩
 ·rw [lget_set (by simp [lkill_len]; exact hk)] at hj
  split at hj
  ·cases hj
  ·rename_i ne1
   rw [lget_set (by rw [lkill_len]; omega)] at hj
   split at hj
   ·rename_i e; cases hj; rw [e]; exact d2
   ·rename_i ne
    obtain ⟨g1, g2⟩ := lget_kill hj
    have g3 := H2 j u g1
    rcases d3 j ne ne1 with ⟨r, -, -⟩ | ⟨-, ⟨r1, r2⟩ | ⟨r1, w, r2, r3⟩⟩
    ·rw [r]; exact g3
    ·obtain ⟨i, w, z1, z2, z3⟩ := H4 k r2
     obtain rfl : i = j := by omega
     rw [g3] at z2
     cases z2
     rw [qv_cat] at z3
     exact absurd z3 (g2 r1)
    ·have := H3 (k + 1) w r2 r3
     rw [show k + 1 + 1 = j by omega, g3] at this
     cases this
 ·by_cases e : j = k
  ·rw [e]; exact d2'
  ·by_cases e1 : j = k + 1
   ·rw [e1, d2'] at hj; cases hj
   ·rcases d3 j e e1 with ⟨r, nA, nB⟩ | ⟨r, -⟩
    ·rw [r] at hj
     have g := H3 j w hj hw
     have e2 : j + 1 ≠ k := fun q => nA ⟨q.symm, by rw [← q]; exact g⟩
     rcases d3 (j + 1) e2 (by omega) with ⟨z, -, -⟩ | ⟨-, ⟨z1, z2⟩ | ⟨z1, -⟩⟩
     ·rw [z]; exact g
     ·obtain ⟨i, u, y1, y2, y3⟩ := H4 k z2
      obtain rfl : i = j + 1 := by omega
      rw [g] at y2; cases y2
     ·omega
    ·rw [r] at hj; cases hj
 ·by_cases e : j = k
  ·rw [e, d2] at hj; cases hj
  ·by_cases e1 : j = k + 1
   ·exact ⟨k, _, e1, d2, hc⟩
   ·rcases d3 j e e1 with ⟨r, nA, nB⟩ | ⟨r, -⟩
    ·rw [r] at hj
     obtain ⟨i, w, y1, y2, y3⟩ := H4 j hj
     refine ⟨i, w, y1, ?_, y3⟩
     have ei : i ≠ k := fun q => e1 (by omega)
     have ei1 : i ≠ k + 1 := fun q => nB ⟨by omega, w, by rw [← q]; exact y2, y3⟩
     rcases d3 i ei ei1 with ⟨z, -, -⟩ | ⟨-, ⟨z1, z2⟩ | ⟨z1, u, z2, z3⟩⟩
     ·rw [z]; exact y2
     ·omega
     ·have := H3 (k + 1) u z2 z3
      rw [show k + 1 + 1 = i by omega, y2] at this; cases this
    ·rw [r] at hj; cases hj
theorem store_ok {ad : Nat → Addr} {L L' : QLoc} {C : Array Slot} {k : Nat} {v : Value} (H : QLocOk ad L C) (h : lput L k v = some L') :
  ∃ D, storeLocals C k (qv ad v) = some D ∧ QLocOk ad L' D ∧ D.size = C.size := by
 have one : v.category = 1 → (bif Nat.ble (k + 1) L.length then some ((lkill L k).set k (some v)) else none) = some L' → ∃ D, storeLocals C k (qv ad v) = some D ∧ QLocOk ad L' D ∧ D.size = C.size := by
  intro hv h
  cases hb : Nat.ble (k + 1) L.length with
  | false => rw [hb] at h; cases h
  | true => rw [hb] at h; cases h; exact store_ok1 H hv (Nat.le_of_ble_eq_true hb)
 cases v with
 | long x =>
  simp only [lput] at h
  cases hb : Nat.ble (k + 2) L.length with
  | false => rw [hb] at h; cases h
  | true => rw [hb] at h; cases h; exact store_ok2 H (Nat.le_of_ble_eq_true hb)
 | double x => simp [lput] at h
 | int x => exact one rfl h
 | float x => exact one rfl h
 | null => exact one rfl h
 | ref x => exact one rfl h
 | retAddr x => exact one rfl h
theorem fInj : ∀ i, i < nF → ∀ j, j < nF → fNm i = fNm j → i = j := by decide +kernel
theorem fPrs : ∀ i, i < nF → parseFieldDescriptor (fDs i) = some (fTy i) := by decide +kernel
theorem cDefs : ∀ i, i < nF → vget cDef i = some (defaultValue (fTy i)) := by decide +kernel
theorem cDefL : cDef.length = nF := by decide +kernel
theorem fDef : ∀ i, i < nF → ∀ a, defaultValue (fTy i) ≠ .ref a := by
 intro i _ a
 cases fTy i <;> simp [defaultValue]
theorem kPlain : ∀ k, k < 2 → plainName (kName k) = true := by
 intro k hk
 rcases k with _ | _ | k
 ·first | decide +kernel | (simp [kName, plainName, overriddenIn]; done)
 ·first | decide +kernel | (simp [kName, plainName, overriddenIn]; done)
 ·omega
theorem pKlt : ∀ m, m < pN → pK m < 2 := by decide +kernel
theorem pSig : ∀ m, m < pN → (parseMethodDescriptor (pDs m)).map (fun sg => sg.parameters.length) = some (pNA m) := by decide +kernel
theorem pOwn : ∀ k, k < 2 → kName k ≠ "java/lang/invoke/MethodHandle" ∧ kName k ≠ "java/lang/invoke/VarHandle" := by decide +kernel
theorem mAlt : ∀ m ∈ mA, m < pN := by decide +kernel
theorem mVlt : ∀ m ∈ mV, m ∈ mA ∧ pK m = 1 := by decide +kernel
theorem mPlt : ∀ m ∈ mP, m ∈ mA ∧ pK m = 1 := by decide +kernel
theorem mSlt : ∀ m ∈ mS, m ∈ mA := by decide +kernel
theorem mIlt : ∀ m ∈ mI, m ∈ mA ∧ pK m = 1 ∧ pNm m = "<init>" ∧ pRet m = none := by decide +kernel
theorem kOne : kName 1 = cName := rfl
def pX (m pc : Nat) : Bool := match pCode m pc with | some t => qchk m pc t.1 t.2 | none => true
set_option maxRecDepth 100000 in
set_option maxHeartbeats 4000000 in
theorem pC0_0 : ∀ q, q < 128 → pX 0 (0 + q) = true := by decide +kernel
set_option maxRecDepth 100000 in
set_option maxHeartbeats 4000000 in
theorem pC0_128 : ∀ q, q < 128 → pX 0 (128 + q) = true := by decide +kernel
set_option maxRecDepth 100000 in
set_option maxHeartbeats 4000000 in
theorem pC0_256 : ∀ q, q < 128 → pX 0 (256 + q) = true := by decide +kernel
set_option maxRecDepth 100000 in
set_option maxHeartbeats 4000000 in
theorem pC0_384 : ∀ q, q < 128 → pX 0 (384 + q) = true := by decide +kernel
set_option maxRecDepth 100000 in
set_option maxHeartbeats 4000000 in
theorem pC0_512 : ∀ q, q < 128 → pX 0 (512 + q) = true := by decide +kernel
set_option maxRecDepth 100000 in
set_option maxHeartbeats 4000000 in
theorem pC0_640 : ∀ q, q < 128 → pX 0 (640 + q) = true := by decide +kernel
set_option maxRecDepth 100000 in
set_option maxHeartbeats 4000000 in
theorem pC0_768 : ∀ q, q < 128 → pX 0 (768 + q) = true := by decide +kernel
set_option maxRecDepth 100000 in
set_option maxHeartbeats 4000000 in
theorem pC0_896 : ∀ q, q < 128 → pX 0 (896 + q) = true := by decide +kernel
set_option maxRecDepth 100000 in
set_option maxHeartbeats 4000000 in
theorem pC0_1024 : ∀ q, q < 88 → pX 0 (1024 + q) = true := by decide +kernel
theorem pCm0 (pc : Nat) (h : pc < pTop 0) : pX 0 pc = true := by
 replace h : pc < 1112 := h
 by_cases h0 : pc < 128
 ·have q := pC0_0 (pc - 0) (by omega)
  rwa [show 0 + (pc - 0) = pc from by omega] at q
 by_cases h128 : pc < 256
 ·have q := pC0_128 (pc - 128) (by omega)
  rwa [show 128 + (pc - 128) = pc from by omega] at q
 by_cases h256 : pc < 384
 ·have q := pC0_256 (pc - 256) (by omega)
  rwa [show 256 + (pc - 256) = pc from by omega] at q
 by_cases h384 : pc < 512
 ·have q := pC0_384 (pc - 384) (by omega)
  rwa [show 384 + (pc - 384) = pc from by omega] at q
 by_cases h512 : pc < 640
 ·have q := pC0_512 (pc - 512) (by omega)
  rwa [show 512 + (pc - 512) = pc from by omega] at q
 by_cases h640 : pc < 768
 ·have q := pC0_640 (pc - 640) (by omega)
  rwa [show 640 + (pc - 640) = pc from by omega] at q
 by_cases h768 : pc < 896
 ·have q := pC0_768 (pc - 768) (by omega)
  rwa [show 768 + (pc - 768) = pc from by omega] at q
 by_cases h896 : pc < 1024
 ·have q := pC0_896 (pc - 896) (by omega)
  rwa [show 896 + (pc - 896) = pc from by omega] at q
 have q := pC0_1024 (pc - 1024) (by omega)
 rwa [show 1024 + (pc - 1024) = pc from by omega] at q
set_option maxRecDepth 100000 in
set_option maxHeartbeats 4000000 in
theorem pC1_0 : ∀ q, q < 108 → pX 1 (0 + q) = true := by decide +kernel
theorem pCm1 (pc : Nat) (h : pc < pTop 1) : pX 1 pc = true := by
 replace h : pc < 108 := h
 have q := pC1_0 (pc - 0) (by omega)
 rwa [show 0 + (pc - 0) = pc from by omega] at q
set_option maxRecDepth 100000 in
set_option maxHeartbeats 4000000 in
theorem pC2_0 : ∀ q, q < 46 → pX 2 (0 + q) = true := by decide +kernel
theorem pCm2 (pc : Nat) (h : pc < pTop 2) : pX 2 pc = true := by
 replace h : pc < 46 := h
 have q := pC2_0 (pc - 0) (by omega)
 rwa [show 0 + (pc - 0) = pc from by omega] at q
set_option maxRecDepth 100000 in
set_option maxHeartbeats 4000000 in
theorem pC3_0 : ∀ q, q < 103 → pX 3 (0 + q) = true := by decide +kernel
theorem pCm3 (pc : Nat) (h : pc < pTop 3) : pX 3 pc = true := by
 replace h : pc < 103 := h
 have q := pC3_0 (pc - 0) (by omega)
 rwa [show 0 + (pc - 0) = pc from by omega] at q
set_option maxRecDepth 100000 in
set_option maxHeartbeats 4000000 in
theorem pC4_0 : ∀ q, q < 5 → pX 4 (0 + q) = true := by decide +kernel
theorem pCm4 (pc : Nat) (h : pc < pTop 4) : pX 4 pc = true := by
 replace h : pc < 5 := h
 have q := pC4_0 (pc - 0) (by omega)
 rwa [show 0 + (pc - 0) = pc from by omega] at q
set_option maxRecDepth 100000 in
set_option maxHeartbeats 4000000 in
theorem pC5_0 : ∀ q, q < 5 → pX 5 (0 + q) = true := by decide +kernel
theorem pCm5 (pc : Nat) (h : pc < pTop 5) : pX 5 pc = true := by
 replace h : pc < 5 := h
 have q := pC5_0 (pc - 0) (by omega)
 rwa [show 0 + (pc - 0) = pc from by omega] at q
set_option maxRecDepth 100000 in
set_option maxHeartbeats 4000000 in
theorem pC6_0 : ∀ q, q < 117 → pX 6 (0 + q) = true := by decide +kernel
theorem pCm6 (pc : Nat) (h : pc < pTop 6) : pX 6 pc = true := by
 replace h : pc < 117 := h
 have q := pC6_0 (pc - 0) (by omega)
 rwa [show 0 + (pc - 0) = pc from by omega] at q
set_option maxRecDepth 100000 in
set_option maxHeartbeats 4000000 in
theorem pC7_0 : ∀ q, q < 105 → pX 7 (0 + q) = true := by decide +kernel
theorem pCm7 (pc : Nat) (h : pc < pTop 7) : pX 7 pc = true := by
 replace h : pc < 105 := h
 have q := pC7_0 (pc - 0) (by omega)
 rwa [show 0 + (pc - 0) = pc from by omega] at q
set_option maxRecDepth 100000 in
set_option maxHeartbeats 4000000 in
theorem pC8_0 : ∀ q, q < 63 → pX 8 (0 + q) = true := by decide +kernel
theorem pCm8 (pc : Nat) (h : pc < pTop 8) : pX 8 pc = true := by
 replace h : pc < 63 := h
 have q := pC8_0 (pc - 0) (by omega)
 rwa [show 0 + (pc - 0) = pc from by omega] at q
set_option maxRecDepth 100000 in
set_option maxHeartbeats 4000000 in
theorem pC9_0 : ∀ q, q < 28 → pX 9 (0 + q) = true := by decide +kernel
theorem pCm9 (pc : Nat) (h : pc < pTop 9) : pX 9 pc = true := by
 replace h : pc < 28 := h
 have q := pC9_0 (pc - 0) (by omega)
 rwa [show 0 + (pc - 0) = pc from by omega] at q
set_option maxRecDepth 100000 in
set_option maxHeartbeats 4000000 in
theorem pC10_0 : ∀ q, q < 39 → pX 10 (0 + q) = true := by decide +kernel
theorem pCm10 (pc : Nat) (h : pc < pTop 10) : pX 10 pc = true := by
 replace h : pc < 39 := h
 have q := pC10_0 (pc - 0) (by omega)
 rwa [show 0 + (pc - 0) = pc from by omega] at q
set_option maxRecDepth 100000 in
set_option maxHeartbeats 4000000 in
theorem pC11_0 : ∀ q, q < 28 → pX 11 (0 + q) = true := by decide +kernel
theorem pCm11 (pc : Nat) (h : pc < pTop 11) : pX 11 pc = true := by
 replace h : pc < 28 := h
 have q := pC11_0 (pc - 0) (by omega)
 rwa [show 0 + (pc - 0) = pc from by omega] at q
set_option maxRecDepth 100000 in
set_option maxHeartbeats 4000000 in
theorem pC12_0 : ∀ q, q < 65 → pX 12 (0 + q) = true := by decide +kernel
theorem pCm12 (pc : Nat) (h : pc < pTop 12) : pX 12 pc = true := by
 replace h : pc < 65 := h
 have q := pC12_0 (pc - 0) (by omega)
 rwa [show 0 + (pc - 0) = pc from by omega] at q
set_option maxRecDepth 100000 in
set_option maxHeartbeats 4000000 in
theorem pC13_0 : ∀ q, q < 37 → pX 13 (0 + q) = true := by decide +kernel
theorem pCm13 (pc : Nat) (h : pc < pTop 13) : pX 13 pc = true := by
 replace h : pc < 37 := h
 have q := pC13_0 (pc - 0) (by omega)
 rwa [show 0 + (pc - 0) = pc from by omega] at q
set_option maxRecDepth 100000 in
set_option maxHeartbeats 4000000 in
theorem pC14_0 : ∀ q, q < 75 → pX 14 (0 + q) = true := by decide +kernel
theorem pCm14 (pc : Nat) (h : pc < pTop 14) : pX 14 pc = true := by
 replace h : pc < 75 := h
 have q := pC14_0 (pc - 0) (by omega)
 rwa [show 0 + (pc - 0) = pc from by omega] at q
set_option maxRecDepth 100000 in
set_option maxHeartbeats 4000000 in
theorem pC15_0 : ∀ q, q < 11 → pX 15 (0 + q) = true := by decide +kernel
theorem pCm15 (pc : Nat) (h : pc < pTop 15) : pX 15 pc = true := by
 replace h : pc < 11 := h
 have q := pC15_0 (pc - 0) (by omega)
 rwa [show 0 + (pc - 0) = pc from by omega] at q
set_option maxRecDepth 100000 in
set_option maxHeartbeats 4000000 in
theorem pC16_0 : ∀ q, q < 62 → pX 16 (0 + q) = true := by decide +kernel
theorem pCm16 (pc : Nat) (h : pc < pTop 16) : pX 16 pc = true := by
 replace h : pc < 62 := h
 have q := pC16_0 (pc - 0) (by omega)
 rwa [show 0 + (pc - 0) = pc from by omega] at q
set_option maxRecDepth 100000 in
set_option maxHeartbeats 4000000 in
theorem pC17_0 : ∀ q, q < 26 → pX 17 (0 + q) = true := by decide +kernel
theorem pCm17 (pc : Nat) (h : pc < pTop 17) : pX 17 pc = true := by
 replace h : pc < 26 := h
 have q := pC17_0 (pc - 0) (by omega)
 rwa [show 0 + (pc - 0) = pc from by omega] at q
set_option maxRecDepth 100000 in
set_option maxHeartbeats 4000000 in
theorem pC18_0 : ∀ q, q < 128 → pX 18 (0 + q) = true := by decide +kernel
set_option maxRecDepth 100000 in
set_option maxHeartbeats 4000000 in
theorem pC18_128 : ∀ q, q < 16 → pX 18 (128 + q) = true := by decide +kernel
theorem pCm18 (pc : Nat) (h : pc < pTop 18) : pX 18 pc = true := by
 replace h : pc < 144 := h
 by_cases h0 : pc < 128
 ·have q := pC18_0 (pc - 0) (by omega)
  rwa [show 0 + (pc - 0) = pc from by omega] at q
 have q := pC18_128 (pc - 128) (by omega)
 rwa [show 128 + (pc - 128) = pc from by omega] at q
set_option maxRecDepth 100000 in
set_option maxHeartbeats 4000000 in
theorem pC19_0 : ∀ q, q < 128 → pX 19 (0 + q) = true := by decide +kernel
set_option maxRecDepth 100000 in
set_option maxHeartbeats 4000000 in
theorem pC19_128 : ∀ q, q < 35 → pX 19 (128 + q) = true := by decide +kernel
theorem pCm19 (pc : Nat) (h : pc < pTop 19) : pX 19 pc = true := by
 replace h : pc < 163 := h
 by_cases h0 : pc < 128
 ·have q := pC19_0 (pc - 0) (by omega)
  rwa [show 0 + (pc - 0) = pc from by omega] at q
 have q := pC19_128 (pc - 128) (by omega)
 rwa [show 128 + (pc - 128) = pc from by omega] at q
set_option maxRecDepth 100000 in
set_option maxHeartbeats 4000000 in
theorem pC20_0 : ∀ q, q < 17 → pX 20 (0 + q) = true := by decide +kernel
theorem pCm20 (pc : Nat) (h : pc < pTop 20) : pX 20 pc = true := by
 replace h : pc < 17 := h
 have q := pC20_0 (pc - 0) (by omega)
 rwa [show 0 + (pc - 0) = pc from by omega] at q
set_option maxRecDepth 100000 in
set_option maxHeartbeats 4000000 in
theorem pC21_0 : ∀ q, q < 128 → pX 21 (0 + q) = true := by decide +kernel
set_option maxRecDepth 100000 in
set_option maxHeartbeats 4000000 in
theorem pC21_128 : ∀ q, q < 45 → pX 21 (128 + q) = true := by decide +kernel
theorem pCm21 (pc : Nat) (h : pc < pTop 21) : pX 21 pc = true := by
 replace h : pc < 173 := h
 by_cases h0 : pc < 128
 ·have q := pC21_0 (pc - 0) (by omega)
  rwa [show 0 + (pc - 0) = pc from by omega] at q
 have q := pC21_128 (pc - 128) (by omega)
 rwa [show 128 + (pc - 128) = pc from by omega] at q
set_option maxRecDepth 100000 in
set_option maxHeartbeats 4000000 in
theorem pC22_0 : ∀ q, q < 63 → pX 22 (0 + q) = true := by decide +kernel
theorem pCm22 (pc : Nat) (h : pc < pTop 22) : pX 22 pc = true := by
 replace h : pc < 63 := h
 have q := pC22_0 (pc - 0) (by omega)
 rwa [show 0 + (pc - 0) = pc from by omega] at q
set_option maxRecDepth 100000 in
set_option maxHeartbeats 4000000 in
theorem pC23_0 : ∀ q, q < 128 → pX 23 (0 + q) = true := by decide +kernel
set_option maxRecDepth 100000 in
set_option maxHeartbeats 4000000 in
theorem pC23_128 : ∀ q, q < 4 → pX 23 (128 + q) = true := by decide +kernel
theorem pCm23 (pc : Nat) (h : pc < pTop 23) : pX 23 pc = true := by
 replace h : pc < 132 := h
 by_cases h0 : pc < 128
 ·have q := pC23_0 (pc - 0) (by omega)
  rwa [show 0 + (pc - 0) = pc from by omega] at q
 have q := pC23_128 (pc - 128) (by omega)
 rwa [show 128 + (pc - 128) = pc from by omega] at q
set_option maxRecDepth 100000 in
set_option maxHeartbeats 4000000 in
theorem pC24_0 : ∀ q, q < 128 → pX 24 (0 + q) = true := by decide +kernel
set_option maxRecDepth 100000 in
set_option maxHeartbeats 4000000 in
theorem pC24_128 : ∀ q, q < 3 → pX 24 (128 + q) = true := by decide +kernel
theorem pCm24 (pc : Nat) (h : pc < pTop 24) : pX 24 pc = true := by
 replace h : pc < 131 := h
 by_cases h0 : pc < 128
 ·have q := pC24_0 (pc - 0) (by omega)
  rwa [show 0 + (pc - 0) = pc from by omega] at q
 have q := pC24_128 (pc - 128) (by omega)
 rwa [show 128 + (pc - 128) = pc from by omega] at q
set_option maxRecDepth 100000 in
set_option maxHeartbeats 4000000 in
theorem pC25_0 : ∀ q, q < 65 → pX 25 (0 + q) = true := by decide +kernel
theorem pCm25 (pc : Nat) (h : pc < pTop 25) : pX 25 pc = true := by
 replace h : pc < 65 := h
 have q := pC25_0 (pc - 0) (by omega)
 rwa [show 0 + (pc - 0) = pc from by omega] at q
set_option maxRecDepth 100000 in
set_option maxHeartbeats 4000000 in
theorem pC26_0 : ∀ q, q < 17 → pX 26 (0 + q) = true := by decide +kernel
theorem pCm26 (pc : Nat) (h : pc < pTop 26) : pX 26 pc = true := by
 replace h : pc < 17 := h
 have q := pC26_0 (pc - 0) (by omega)
 rwa [show 0 + (pc - 0) = pc from by omega] at q
set_option maxRecDepth 100000 in
set_option maxHeartbeats 4000000 in
theorem pC27_0 : ∀ q, q < 128 → pX 27 (0 + q) = true := by decide +kernel
set_option maxRecDepth 100000 in
set_option maxHeartbeats 4000000 in
theorem pC27_128 : ∀ q, q < 112 → pX 27 (128 + q) = true := by decide +kernel
theorem pCm27 (pc : Nat) (h : pc < pTop 27) : pX 27 pc = true := by
 replace h : pc < 240 := h
 by_cases h0 : pc < 128
 ·have q := pC27_0 (pc - 0) (by omega)
  rwa [show 0 + (pc - 0) = pc from by omega] at q
 have q := pC27_128 (pc - 128) (by omega)
 rwa [show 128 + (pc - 128) = pc from by omega] at q
set_option maxRecDepth 100000 in
set_option maxHeartbeats 4000000 in
theorem pC28_0 : ∀ q, q < 25 → pX 28 (0 + q) = true := by decide +kernel
theorem pCm28 (pc : Nat) (h : pc < pTop 28) : pX 28 pc = true := by
 replace h : pc < 25 := h
 have q := pC28_0 (pc - 0) (by omega)
 rwa [show 0 + (pc - 0) = pc from by omega] at q
set_option maxRecDepth 100000 in
set_option maxHeartbeats 4000000 in
theorem pC29_0 : ∀ q, q < 63 → pX 29 (0 + q) = true := by decide +kernel
theorem pCm29 (pc : Nat) (h : pc < pTop 29) : pX 29 pc = true := by
 replace h : pc < 63 := h
 have q := pC29_0 (pc - 0) (by omega)
 rwa [show 0 + (pc - 0) = pc from by omega] at q
set_option maxRecDepth 100000 in
set_option maxHeartbeats 4000000 in
theorem pC30_0 : ∀ q, q < 23 → pX 30 (0 + q) = true := by decide +kernel
theorem pCm30 (pc : Nat) (h : pc < pTop 30) : pX 30 pc = true := by
 replace h : pc < 23 := h
 have q := pC30_0 (pc - 0) (by omega)
 rwa [show 0 + (pc - 0) = pc from by omega] at q
set_option maxRecDepth 100000 in
set_option maxHeartbeats 4000000 in
theorem pC31_0 : ∀ q, q < 37 → pX 31 (0 + q) = true := by decide +kernel
theorem pCm31 (pc : Nat) (h : pc < pTop 31) : pX 31 pc = true := by
 replace h : pc < 37 := h
 have q := pC31_0 (pc - 0) (by omega)
 rwa [show 0 + (pc - 0) = pc from by omega] at q
set_option maxRecDepth 100000 in
set_option maxHeartbeats 4000000 in
theorem pC32_0 : ∀ q, q < 50 → pX 32 (0 + q) = true := by decide +kernel
theorem pCm32 (pc : Nat) (h : pc < pTop 32) : pX 32 pc = true := by
 replace h : pc < 50 := h
 have q := pC32_0 (pc - 0) (by omega)
 rwa [show 0 + (pc - 0) = pc from by omega] at q
set_option maxRecDepth 100000 in
set_option maxHeartbeats 4000000 in
theorem pC33_0 : ∀ q, q < 47 → pX 33 (0 + q) = true := by decide +kernel
theorem pCm33 (pc : Nat) (h : pc < pTop 33) : pX 33 pc = true := by
 replace h : pc < 47 := h
 have q := pC33_0 (pc - 0) (by omega)
 rwa [show 0 + (pc - 0) = pc from by omega] at q
set_option maxRecDepth 100000 in
set_option maxHeartbeats 4000000 in
theorem pC34_0 : ∀ q, q < 85 → pX 34 (0 + q) = true := by decide +kernel
theorem pCm34 (pc : Nat) (h : pc < pTop 34) : pX 34 pc = true := by
 replace h : pc < 85 := h
 have q := pC34_0 (pc - 0) (by omega)
 rwa [show 0 + (pc - 0) = pc from by omega] at q
set_option maxRecDepth 100000 in
set_option maxHeartbeats 4000000 in
theorem pC35_0 : ∀ q, q < 85 → pX 35 (0 + q) = true := by decide +kernel
theorem pCm35 (pc : Nat) (h : pc < pTop 35) : pX 35 pc = true := by
 replace h : pc < 85 := h
 have q := pC35_0 (pc - 0) (by omega)
 rwa [show 0 + (pc - 0) = pc from by omega] at q
set_option maxRecDepth 100000 in
set_option maxHeartbeats 4000000 in
theorem pC36_0 : ∀ q, q < 77 → pX 36 (0 + q) = true := by decide +kernel
theorem pCm36 (pc : Nat) (h : pc < pTop 36) : pX 36 pc = true := by
 replace h : pc < 77 := h
 have q := pC36_0 (pc - 0) (by omega)
 rwa [show 0 + (pc - 0) = pc from by omega] at q
set_option maxRecDepth 100000 in
set_option maxHeartbeats 4000000 in
theorem pC37_0 : ∀ q, q < 97 → pX 37 (0 + q) = true := by decide +kernel
theorem pCm37 (pc : Nat) (h : pc < pTop 37) : pX 37 pc = true := by
 replace h : pc < 97 := h
 have q := pC37_0 (pc - 0) (by omega)
 rwa [show 0 + (pc - 0) = pc from by omega] at q
theorem pChk0 : ∀ m, m < pN → ∀ pc, pc < pTop m → (match pCode m pc with | some t => qchk m pc t.1 t.2 | none => true) = true := by
 intro m hm pc hp
 change pX m pc = true
 match m, hm, hp with
 | 0, _, hp => exact pCm0 pc hp
 | 1, _, hp => exact pCm1 pc hp
 | 2, _, hp => exact pCm2 pc hp
 | 3, _, hp => exact pCm3 pc hp
 | 4, _, hp => exact pCm4 pc hp
 | 5, _, hp => exact pCm5 pc hp
 | 6, _, hp => exact pCm6 pc hp
 | 7, _, hp => exact pCm7 pc hp
 | 8, _, hp => exact pCm8 pc hp
 | 9, _, hp => exact pCm9 pc hp
 | 10, _, hp => exact pCm10 pc hp
 | 11, _, hp => exact pCm11 pc hp
 | 12, _, hp => exact pCm12 pc hp
 | 13, _, hp => exact pCm13 pc hp
 | 14, _, hp => exact pCm14 pc hp
 | 15, _, hp => exact pCm15 pc hp
 | 16, _, hp => exact pCm16 pc hp
 | 17, _, hp => exact pCm17 pc hp
 | 18, _, hp => exact pCm18 pc hp
 | 19, _, hp => exact pCm19 pc hp
 | 20, _, hp => exact pCm20 pc hp
 | 21, _, hp => exact pCm21 pc hp
 | 22, _, hp => exact pCm22 pc hp
 | 23, _, hp => exact pCm23 pc hp
 | 24, _, hp => exact pCm24 pc hp
 | 25, _, hp => exact pCm25 pc hp
 | 26, _, hp => exact pCm26 pc hp
 | 27, _, hp => exact pCm27 pc hp
 | 28, _, hp => exact pCm28 pc hp
 | 29, _, hp => exact pCm29 pc hp
 | 30, _, hp => exact pCm30 pc hp
 | 31, _, hp => exact pCm31 pc hp
 | 32, _, hp => exact pCm32 pc hp
 | 33, _, hp => exact pCm33 pc hp
 | 34, _, hp => exact pCm34 pc hp
 | 35, _, hp => exact pCm35 pc hp
 | 36, _, hp => exact pCm36 pc hp
 | 37, _, hp => exact pCm37 pc hp
 | m + 38, hm, _ => exact absurd hm (by unfold pN; omega)
theorem pIn {m pc : Nat} {t : Instr × Nat} (h : pCode m pc = some t) : m < pN ∧ pc < pTop m := by
 unfold pCode at h
 cases h1 : Nat.ble pN m with
 | true => rw [h1] at h; cases h
 | false =>
  cases h2 : Nat.ble (pTop m) pc with
  | true => rw [h1, h2] at h; cases h
  | false => exact ⟨Nat.lt_of_not_le (fun q => by rw [Nat.ble_eq_true_of_le q] at h1; cases h1), Nat.lt_of_not_le (fun q => by rw [Nat.ble_eq_true_of_le q] at h2; cases h2)⟩
theorem pChk {m pc : Nat} {i : Instr} {aux : Nat} (h : pCode m pc = some (i, aux)) : qchk m pc i aux = true := by
 have q := pChk0 m (pIn h).1 pc (pIn h).2
 rw [h] at q
 exact q
theorem pDec {m pc : Nat} {i : Instr} {aux : Nat} (h : pCode m pc = some (i, aux)) : decode (pBytes m) pc = .ok (i, ilen i) := by
 have q := pChk h
 unfold qchk at q
 exact of_decide_eq_true (Bool.and_eq_true_iff.mp q).1
theorem pDecN {m pc n : Nat} {i : Instr} {aux : Nat} (h : pCode m pc = some (i, aux)) (hn : ilen i = n) : decode (pBytes m) pc = .ok (i, n) := by
 rw [← hn]; exact pDec h
theorem pRest {m pc : Nat} {i : Instr} {aux : Nat} (h : pCode m pc = some (i, aux)) : qlk m pc i aux = true := by
 have q := pChk h
 unfold qchk at q
 exact (Bool.and_eq_true_iff.mp q).2
theorem qtgt_spec {pc : Nat} {o : Int} {aux : Nat} (h : qtgt pc o aux = true) : 0 ≤ (pc : Int) + o ∧ ((pc : Int) + o).toNat = aux := by
 unfold qtgt at h
 have h2 := Bool.and_eq_true_iff.mp h
 exact ⟨of_decide_eq_true h2.1, of_decide_eq_true h2.2⟩
def QCx (Z : State) (p : Program) (R : Room) (s : State) (mid : MethodId) (meth : Method) (c : Code) (m : Nat) : Prop :=
 p.tables.exec = Jvm.exec ∧ Z.Warmed39 s.vm ∧ c.code = pBytes m ∧ c.maxLocals = pMaxL m ∧ meth.sig.returnType = pRet m ∧ s.vm.findClass (kName (pK m)) = some mid.cls ∧ meth.name = pNm m ∧ pFr m ≤ R.frames ∧ pLo m ≤ R.locals
def QTri (l : Launch) (Z : State) (n0 : Nat) (ad : Nat → Addr) (m : Nat) (st : QSt) (v : Option Value) (σ' : QHeap) : Prop :=
 st.2.2.2.length ≤ σ'.length ∧ qhs st.2.2.2 ≤ qhs σ' ∧
 ∀ (p : Program) (e : Env) (R : Room) (s : State) (mid : MethodId) (args : Array Value) (below : List Frame) (meth : Method) (c : Code) (T : State) (locs : List Loc) (cells slots : Nat) (C : Array Slot),
  QCx Z p R s mid meth c m → Stand p l e R s mid args below meth c T locs cells slots → QRep Z n0 ad T.heap st.2.2.2 → Fr n0 locs → QLocOk ad st.2.1 C → C.size = c.maxLocals →
  n0 + (st.2.2.2.length - k0) = s.heap.size + cells → cells + (σ'.length - st.2.2.2.length) ≤ R.cells → slots + (qhs σ' - qhs st.2.2.2) ≤ R.slots →
  ∃ T' locs', Stand p l e R s mid args below meth c T' locs' (cells + (σ'.length - st.2.2.2.length)) (slots + (qhs σ' - qhs st.2.2.2)) ∧ QRep Z n0 ad T'.heap σ' ∧ Fr n0 locs' ∧
   ∀ fs, (∀ (f : JFrame) (acts : List Action), f.method = mid → f.locked = none → f.entered = [] → (doReturn e (T'.setTop f) acts (v.map (qv ad))).1 = T'.setFrames fs) →
    Steps p.tables e below (T.setTop (mkF mid st.1 C (st.2.2.1.map (qv ad)))) (T'.setFrames fs)
section Triples
variable {l : Launch} {Z : State} {n0 : Nat} {ad : Nat → Addr} {a0 : Array Value} {m : Nat} {v : Option Value} {σ' : QHeap}
theorem QTri.gen {st st' : QSt} (h : QTri l Z n0 ad m st' v σ') (g1 : st.2.2.2.length ≤ st'.2.2.2.length) (g2 : qhs st.2.2.2 ≤ qhs st'.2.2.2)
  (hs : ∀ (p : Program) (e : Env) (R : Room) (s : State) (mid : MethodId) (args : Array Value) (below : List Frame) (meth : Method) (c : Code) (T : State) (locs : List Loc) (cells slots : Nat) (C : Array Slot),
   QCx Z p R s mid meth c m → Stand p l e R s mid args below meth c T locs cells slots → QRep Z n0 ad T.heap st.2.2.2 → Fr n0 locs → QLocOk ad st.2.1 C → C.size = c.maxLocals →
   n0 + (st.2.2.2.length - k0) = s.heap.size + cells → cells + (st'.2.2.2.length - st.2.2.2.length) ≤ R.cells → slots + (qhs st'.2.2.2 - qhs st.2.2.2) ≤ R.slots →
   ∃ T₁ locs₁ C₁, Stand p l e R s mid args below meth c T₁ locs₁ (cells + (st'.2.2.2.length - st.2.2.2.length)) (slots + (qhs st'.2.2.2 - qhs st.2.2.2)) ∧ QRep Z n0 ad T₁.heap st'.2.2.2 ∧ Fr n0 locs₁ ∧ QLocOk ad st'.2.1 C₁ ∧ C₁.size = c.maxLocals ∧
    ∀ target, Steps p.tables e below (T₁.setTop (mkF mid st'.1 C₁ (st'.2.2.1.map (qv ad)))) target → Steps p.tables e below (T.setTop (mkF mid st.1 C (st.2.2.1.map (qv ad)))) target) :
  QTri l Z n0 ad m st v σ' := by
 obtain ⟨h1, h2, h3⟩ := h
 refine ⟨Nat.le_trans g1 h1, Nat.le_trans g2 h2, fun p e R s mid args below meth c T locs cells slots C hcx X hR hF hL hC hn hc hsl => ?_⟩
 obtain ⟨T₁, locs₁, C₁, X₁, R₁, F₁, L₁, C1, S₁⟩ := hs p e R s mid args below meth c T locs cells slots C hcx X hR hF hL hC hn (by omega) (by omega)
 have hk := hR.1
 obtain ⟨T', locs', X', R', F', S'⟩ := h3 p e R s mid args below meth c T₁ locs₁ _ _ C₁ hcx X₁ R₁ F₁ L₁ C1 (by omega) (by omega) (by omega)
 have e1 : cells + (st'.2.2.2.length - st.2.2.2.length) + (σ'.length - st'.2.2.2.length) = cells + (σ'.length - st.2.2.2.length) := by omega
 have e2 : slots + (qhs st'.2.2.2 - qhs st.2.2.2) + (qhs σ' - qhs st'.2.2.2) = slots + (qhs σ' - qhs st.2.2.2) := by omega
 rw [e1, e2] at X'
 exact ⟨T', locs', X', R', F', fun fs hf => S₁ _ (S' fs hf)⟩
theorem QTri.pure {st st' : QSt} (h : QTri l Z n0 ad m st' v σ') (hσ : st'.2.2.2 = st.2.2.2)
  (hs : ∀ (p : Program) (e : Env) (R : Room) (s : State) (mid : MethodId) (args : Array Value) (below : List Frame) (meth : Method) (c : Code) (T : State) (locs : List Loc) (cells slots : Nat) (C : Array Slot),
   QCx Z p R s mid meth c m → Stand p l e R s mid args below meth c T locs cells slots → QRep Z n0 ad T.heap st.2.2.2 → QLocOk ad st.2.1 C → C.size = c.maxLocals →
   ∃ T₁ C₁, Stand p l e R s mid args below meth c T₁ locs cells slots ∧ T₁.heap = T.heap ∧ QLocOk ad st'.2.1 C₁ ∧ C₁.size = c.maxLocals ∧
    ∀ target, Steps p.tables e below (T₁.setTop (mkF mid st'.1 C₁ (st'.2.2.1.map (qv ad)))) target → Steps p.tables e below (T.setTop (mkF mid st.1 C (st.2.2.1.map (qv ad)))) target) :
  QTri l Z n0 ad m st v σ' := by
 refine QTri.gen h (by rw [hσ]; exact Nat.le_refl _) (by rw [hσ]; exact Nat.le_refl _) fun p e R s mid args below meth c T locs cells slots C hcx X hR hF hL hC hn hc hsl => ?_
 obtain ⟨T₁, C₁, X₁, hh, L₁, C1, S₁⟩ := hs p e R s mid args below meth c T locs cells slots C hcx X hR hL hC
 refine ⟨T₁, locs, C₁, ?_, by rw [hσ, hh]; exact hR, hF, L₁, C1, S₁⟩
 rw [hσ, Nat.sub_self, Nat.sub_self]
 exact X₁
theorem QTri.frame {pc pc' : Nat} {L L' : QLoc} {S S' : List Value} {σ : QHeap} (h : QTri l Z n0 ad m (pc', L', S', σ) v σ')
  (hs : ∀ (p : Program) (e : Env) (R : Room) (s : State) (mid : MethodId) (args : Array Value) (below : List Frame) (meth : Method) (c : Code) (T : State) (locs : List Loc) (cells slots : Nat) (C : Array Slot),
   QCx Z p R s mid meth c m → Stand p l e R s mid args below meth c T locs cells slots → QRep Z n0 ad T.heap σ → QLocOk ad L C → C.size = c.maxLocals →
   ∃ C₁, QLocOk ad L' C₁ ∧ C₁.size = c.maxLocals ∧ ∀ target, Steps p.tables e below (T.setTop (mkF mid pc' C₁ (S'.map (qv ad)))) target → Steps p.tables e below (T.setTop (mkF mid pc C (S.map (qv ad)))) target) :
  QTri l Z n0 ad m (pc, L, S, σ) v σ' :=
 QTri.pure h rfl fun p e R s mid args below meth c T locs cells slots C hcx X hR hL hC => by
  obtain ⟨C₁, h1, h2, h3⟩ := hs p e R s mid args below meth c T locs cells slots C hcx X hR hL hC
  exact ⟨T, C₁, X, rfl, h1, h2, h3⟩
theorem QTri.stack {pc pc' : Nat} {L : QLoc} {S S' : List Value} {σ : QHeap} (h : QTri l Z n0 ad m (pc', L, S', σ) v σ')
  (hs : ∀ (p : Program) (e : Env) (R : Room) (s : State) (mid : MethodId) (args : Array Value) (below : List Frame) (meth : Method) (c : Code) (T : State) (locs : List Loc) (cells slots : Nat) (C : Array Slot) (target : State),
   p.tables.exec = Jvm.exec → Z.Warmed39 s.vm → c.code = pBytes m → s.vm.findClass (kName (pK m)) = some mid.cls → Stand p l e R s mid args below meth c T locs cells slots → QRep Z n0 ad T.heap σ → QLocOk ad L C →
   Steps p.tables e below (T.setTop (mkF mid pc' C (S'.map (qv ad)))) target → Steps p.tables e below (T.setTop (mkF mid pc C (S.map (qv ad)))) target) :
  QTri l Z n0 ad m (pc, L, S, σ) v σ' :=
 QTri.frame h fun p e R s mid args below meth c T locs cells slots C hcx X hR hL hC => ⟨C, hL, hC, fun target k => hs p e R s mid args below meth c T locs cells slots C target hcx.1 hcx.2.1 hcx.2.2.1 hcx.2.2.2.2.2.1 X hR hL k⟩
theorem qload_inv {pc : Nat} {L : QLoc} {S : List Value} {σ : QHeap} {k : Nat} {ok : Value → Bool} {st' : QSt} (h : qload pc L S σ k ok = some st') : ∃ v, lget L k = some v ∧ ok v = true ∧ st' = (pc, L, v :: S, σ) := by
 unfold qload at h
 split at h
 ·rename_i v hv
  cases ho : ok v with
  | true => rw [ho] at h; cases h; exact ⟨v, hv, ho, rfl⟩
  | false => rw [ho] at h; cases h
 ·cases h
theorem qstore_inv {pc : Nat} {L : QLoc} {S : List Value} {σ : QHeap} {k : Nat} {ok : Value → Bool} {st' : QSt} (h : qstore pc L S σ k ok = some st') : ∃ v S' L', S = v :: S' ∧ ok v = true ∧ lput L k v = some L' ∧ st' = (pc, L', S', σ) := by
 unfold qstore at h
 split at h
 ·rename_i v S'
  cases ho : ok v with
  | true =>
   rw [ho] at h
   simp only [cond_true] at h
   split at h
   ·rename_i L' hL'
    cases h; exact ⟨v, S', L', rfl, ho, hL', rfl⟩
   ·cases h
  | false => rw [ho] at h; cases h
 ·cases h
theorem qbin_inv {pc : Nat} {L : QLoc} {S : List Value} {σ : QHeap} {f : Int32 → Int32 → Int32} {st' : QSt} (h : qbin pc L S σ f = some st') : ∃ x y S', S = .int y :: .int x :: S' ∧ st' = (pc, L, .int (f x y) :: S', σ) := by
 unfold qbin at h
 split at h
 ·cases h; exact ⟨_, _, _, rfl, rfl⟩
 ·cases h
theorem qbino_inv {pc : Nat} {L : QLoc} {S : List Value} {σ : QHeap} {f : Int32 → Int32 → Option Int32} {st' : QSt} (h : qbino pc L S σ f = some st') : ∃ x y z S', S = .int y :: .int x :: S' ∧ f x y = some z ∧ st' = (pc, L, .int z :: S', σ) := by
 unfold qbino at h
 split at h
 ·obtain ⟨z, hz, h⟩ := Option.bind_eq_some_iff.mp h
  cases h; exact ⟨_, _, _, _, rfl, hz, rfl⟩
 ·cases h
theorem qbinJ_inv {pc : Nat} {L : QLoc} {S : List Value} {σ : QHeap} {f : Int64 → Int64 → Int64} {st' : QSt} (h : qbinJ pc L S σ f = some st') : ∃ x y S', S = .long y :: .long x :: S' ∧ st' = (pc, L, .long (f x y) :: S', σ) := by
 unfold qbinJ at h
 split at h
 ·cases h; exact ⟨_, _, _, rfl, rfl⟩
 ·cases h
theorem qshJ_inv {pc : Nat} {L : QLoc} {S : List Value} {σ : QHeap} {f : Int64 → Int32 → Int64} {st' : QSt} (h : qshJ pc L S σ f = some st') : ∃ x y S', S = .int y :: .long x :: S' ∧ st' = (pc, L, .long (f x y) :: S', σ) := by
 unfold qshJ at h
 split at h
 ·cases h; exact ⟨_, _, _, rfl, rfl⟩
 ·cases h
theorem quni_inv {pc : Nat} {L : QLoc} {S : List Value} {σ : QHeap} {f : Int32 → Value} {st' : QSt} (h : quni pc L S σ f = some st') : ∃ x S', S = .int x :: S' ∧ st' = (pc, L, f x :: S', σ) := by
 unfold quni at h
 split at h
 ·cases h; exact ⟨_, _, rfl, rfl⟩
 ·cases h
theorem quniJ_inv {pc : Nat} {L : QLoc} {S : List Value} {σ : QHeap} {f : Int64 → Value} {st' : QSt} (h : quniJ pc L S σ f = some st') : ∃ x S', S = .long x :: S' ∧ st' = (pc, L, f x :: S', σ) := by
 unfold quniJ at h
 split at h
 ·cases h; exact ⟨_, _, rfl, rfl⟩
 ·cases h
theorem qif_inv {pc : Nat} {L : QLoc} {S : List Value} {σ : QHeap} {cd : ClassFile.Cond} {t : Nat} {st' : QSt} (h : qif pc L S σ cd t = some st') : ∃ x S', S = .int x :: S' ∧ st' = (bif ifCond.holds cd x then t else pc, L, S', σ) := by
 unfold qif at h
 split at h
 ·cases h; exact ⟨_, _, rfl, rfl⟩
 ·cases h
theorem qicmp_inv {pc : Nat} {L : QLoc} {S : List Value} {σ : QHeap} {cd : ClassFile.Cond} {t : Nat} {st' : QSt} (h : qicmp pc L S σ cd t = some st') : ∃ x y S', S = .int y :: .int x :: S' ∧ st' = (bif if_icmp.holds cd x y then t else pc, L, S', σ) := by
 unfold qicmp at h
 split at h
 ·cases h; exact ⟨_, _, _, rfl, rfl⟩
 ·cases h
theorem qget_inv {pc : Nat} {L : QLoc} {S : List Value} {σ : QHeap} {k : Nat} {st' : QSt} (h : qget pc L S σ k = some st') : ∃ a S' vs v, S = .ref a :: S' ∧ hget σ a = some (.inl vs) ∧ vget vs k = some v ∧ st' = (pc, L, v :: S', σ) := by
 unfold qget at h
 split at h
 ·split at h
  ·split at h
   ·cases h; exact ⟨_, _, _, _, rfl, by assumption, by assumption, rfl⟩
   ·cases h
  ·cases h
 ·cases h
theorem qput_inv {pc : Nat} {L : QLoc} {S : List Value} {σ : QHeap} {k : Nat} {st' : QSt} (h : qput pc L S σ k = some st') : ∃ v a S' vs w, S = v :: .ref a :: S' ∧ hget σ a = some (.inl vs) ∧ k0 ≤ a ∧ k < vs.length ∧ qfit (fTy k) v = some w ∧ st' = (pc, L, S', σ.set a (.inl (vs.set k w))) := by
 unfold qput at h
 split at h
 ·rename_i v a S'
  split at h
  ·rename_i vs hvs
   cases hbb : (Nat.ble k0 a && Nat.ble (k + 1) vs.length) with
   | false => rw [hbb] at h; cases h
   | true =>
    rw [hbb] at h
    simp only [cond_true] at h
    obtain ⟨u, hu, h⟩ := Option.bind_eq_some_iff.mp h
    cases h
    obtain ⟨b1, b2⟩ := Bool.and_eq_true_iff.mp hbb
    exact ⟨v, a, S', vs, u, rfl, hvs, Nat.le_of_ble_eq_true b1, Nat.le_of_ble_eq_true b2, hu, rfl⟩
  ·cases h
 ·cases h
theorem qald_inv {pc : Nat} {L : QLoc} {S : List Value} {σ : QHeap} {ok : FieldType → Bool} {st' : QSt} (h : qald pc L S σ ok = some st') : ∃ j a S' ty xs v, S = .int j :: .ref a :: S' ∧ hget σ a = some (.inr (.inl (ty, xs))) ∧ ok ty = true ∧ aget xs j = some v ∧ st' = (pc, L, .int v :: S', σ) := by
 unfold qald at h
 split at h
 ·rename_i j a S'
  split at h
  ·rename_i x hx
   cases ht : ok x.1 with
   | false => rw [ht] at h; cases h
   | true =>
    rw [ht] at h
    simp only [cond_true] at h
    obtain ⟨u, hu, h⟩ := Option.bind_eq_some_iff.mp h
    cases h
    exact ⟨j, a, S', x.1, x.2, u, rfl, hx, ht, hu, rfl⟩
  ·cases h
 ·cases h
theorem qaldJ_inv {pc : Nat} {L : QLoc} {S : List Value} {σ : QHeap} {st' : QSt} (h : qaldJ pc L S σ = some st') : ∃ j a S' xs v, S = .int j :: .ref a :: S' ∧ hget σ a = some (.inr (.inr xs)) ∧ aget xs j = some v ∧ st' = (pc, L, .long v :: S', σ) := by
 unfold qaldJ at h
 split at h
 ·rename_i j a S'
  split at h
  ·rename_i x hx
   obtain ⟨u, hu, h⟩ := Option.bind_eq_some_iff.mp h
   cases h
   exact ⟨j, a, S', x, u, rfl, hx, hu, rfl⟩
  ·cases h
 ·cases h
theorem qast_inv {pc : Nat} {L : QLoc} {S : List Value} {σ : QHeap} {ok : FieldType → Bool} {st' : QSt} (h : qast pc L S σ ok = some st') : ∃ v j a S' ty xs ys, S = .int v :: .int j :: .ref a :: S' ∧ hget σ a = some (.inr (.inl (ty, xs))) ∧ ok ty = true ∧ k0 ≤ a ∧ aset xs j (qnar ty v) = some ys ∧ st' = (pc, L, S', σ.set a (.inr (.inl (ty, ys)))) := by
 unfold qast at h
 split at h
 ·rename_i v j a S'
  split at h
  ·rename_i x hx
   cases ht : (ok x.1 && Nat.ble k0 a) with
   | false => rw [ht] at h; cases h
   | true =>
    rw [ht] at h
    simp only [cond_true] at h
    obtain ⟨u, hu, h⟩ := Option.bind_eq_some_iff.mp h
    cases h
    obtain ⟨b1, b2⟩ := Bool.and_eq_true_iff.mp ht
    exact ⟨v, j, a, S', x.1, x.2, u, rfl, hx, b1, Nat.le_of_ble_eq_true b2, hu, rfl⟩
  ·cases h
 ·cases h
theorem qastJ_inv {pc : Nat} {L : QLoc} {S : List Value} {σ : QHeap} {st' : QSt} (h : qastJ pc L S σ = some st') : ∃ v j a S' xs ys, S = .long v :: .int j :: .ref a :: S' ∧ hget σ a = some (.inr (.inr xs)) ∧ k0 ≤ a ∧ aset xs j v = some ys ∧ st' = (pc, L, S', σ.set a (.inr (.inr ys))) := by
 unfold qastJ at h
 split at h
 ·rename_i v j a S'
  split at h
  ·rename_i x hx
   cases ht : (Nat.ble k0 a) with
   | false => rw [ht] at h; cases h
   | true =>
    rw [ht] at h
    simp only [cond_true] at h
    obtain ⟨u, hu, h⟩ := Option.bind_eq_some_iff.mp h
    cases h
    exact ⟨v, j, a, S', x, u, rfl, hx, Nat.le_of_ble_eq_true ht, hu, rfl⟩
  ·cases h
 ·cases h
theorem qlen_inv {pc : Nat} {L : QLoc} {S : List Value} {σ : QHeap} {st' : QSt} (h : qlen pc L S σ = some st') : ∃ a S' n, S = .ref a :: S' ∧ ((∃ ty xs, hget σ a = some (.inr (.inl (ty, xs))) ∧ n = xs.length) ∨ ∃ xs, hget σ a = some (.inr (.inr xs)) ∧ n = xs.length) ∧ st' = (pc, L, .int n.toInt32 :: S', σ) := by
 unfold qlen at h
 split at h
 ·rename_i a S'
  split at h
  ·rename_i x hx
   cases h; exact ⟨a, S', _, rfl, Or.inl ⟨x.1, x.2, hx, rfl⟩, rfl⟩
  ·rename_i x hx
   cases h; exact ⟨a, S', _, rfl, Or.inr ⟨x, hx, rfl⟩, rfl⟩
  ·cases h
 ·cases h
theorem isI_inv {v : Value} (h : isI v = true) : ∃ x, v = .int x := by cases v <;> simp [isI] at h; exact ⟨_, rfl⟩
theorem isJ_inv {v : Value} (h : isJ v = true) : ∃ x, v = .long x := by cases v <;> simp [isJ] at h; exact ⟨_, rfl⟩
theorem isR_inv {v : Value} (h : isR v = true) : ∃ x, v = .ref x := by cases v <;> simp [isR] at h; exact ⟨_, rfl⟩
theorem aget_inv {α : Type} {xs : List α} {j : Int32} {x : α} (h : aget xs j = some x) : ¬ j < 0 ∧ xs[j.toNatClampNeg]? = some x := by
 unfold aget at h
 split at h
 ·cases h
 ·rename_i q; exact ⟨q, h⟩
theorem aset_inv {α : Type} {xs ys : List α} {j : Int32} {x : α} (h : aset xs j x = some ys) : ¬ j < 0 ∧ j.toNatClampNeg < xs.length ∧ ys = xs.set j.toNatClampNeg x := by
 unfold aset at h
 split at h
 ·cases h
 ·rename_i q
  split at h
  ·rename_i q2; cases h; exact ⟨q, q2, rfl⟩
  ·cases h
theorem qnew_inv {n : Int32} {k : Nat} (h : qnew n = some k) : ¬ n < 0 ∧ n.toNatClampNeg = k ∧ k ≤ 67108864 := by
 unfold qnew at h
 split at h
 ·cases h
 ·rename_i q
  split at h
  ·rename_i q2; cases h; exact ⟨q, rfl, q2⟩
  ·cases h
theorem QCellOk.other {h h' : Heap} {a b : Addr} {sl : Nat} {w : Value} {c : QCell} (H : QCellOk Z ad h b c) (W : Wr h h' a sl w) (ne : b ≠ a) : QCellOk Z ad h' b c := by
 rcases c with vs | ⟨ty, xs⟩ | xs
 ·obtain ⟨h1, h2, h3⟩ := H
  exact ⟨h1.wr W, h2, fun k u hk hu => (h3 k u hk hu).other W (Or.inl ne)⟩
 ·obtain ⟨c, h1, h2⟩ := H
  exact ⟨c, h1.other W ne, h2⟩
 ·obtain ⟨c, h1, h2⟩ := H
  exact ⟨c, h1.other W ne, h2⟩
theorem QCellOk.ext {h h' : Heap} {b : Addr} {c : QCell} (H : QCellOk Z ad h b c) (E : Ext h h') : QCellOk Z ad h' b c := by
 rcases c with vs | ⟨ty, xs⟩ | xs
 ·obtain ⟨h1, h2, h3⟩ := H
  exact ⟨h1.ext E, h2, fun k u hk hu => (h3 k u hk hu).ext E⟩
 ·obtain ⟨c, h1, h2⟩ := H
  exact ⟨c, h1.ext E, h2⟩
 ·obtain ⟨c, h1, h2⟩ := H
  exact ⟨c, h1.ext E, h2⟩
theorem QRep.set {h h' : Heap} {σ : QHeap} {a : Nat} {sl : Nat} {w : Value} {c d : QCell} (H : QRep Z n0 ad h σ) (Ad : QAd n0 ad) (W : Wr h h' (ad a) sl w) (hc : hget σ a = some c) (hd : QCellOk Z ad h' (ad a) d) : QRep Z n0 ad h' (σ.set a d) := by
 obtain ⟨h1, h2, h3⟩ := H
 refine ⟨by simpa using h1, by rw [W.size, h2]; simp, fun k e he => ?_⟩
 rw [hget_set hc] at he
 split at he
 ·rename_i q; cases he; rw [q]; exact hd
 ·rename_i q; exact (h3 k e he).other W fun z => q (Ad.2 _ _ z)
theorem QRep.push {h h' : Heap} {σ : QHeap} {c : QCell} (H : QRep Z n0 ad h σ) (Ad : QAd n0 ad) (E : Ext h h') (hs : h'.size = h.size + 1) (hc : QCellOk Z ad h' h.size c) : QRep Z n0 ad h' (σ ++ [c]) := by
 obtain ⟨h1, h2, h3⟩ := H
 refine ⟨by simp; omega, by rw [hs, h2]; simp; omega, fun k e he => ?_⟩
 rw [hget_eq] at he
 rcases Nat.lt_or_ge k σ.length with q | q
 ·rw [List.getElem?_append_left q, ← hget_eq] at he
  exact (h3 k e he).ext E
 ·rw [List.getElem?_append_right q] at he
  obtain rfl : k = σ.length := by
   rcases Nat.lt_or_ge (k - σ.length) 1 with z | z
   ·omega
   ·rw [List.getElem?_eq_none (by simpa using z)] at he; cases he
  simp at he
  rw [← he, Ad.1 _ h1, ← h2]
  exact hc
theorem mem_of_contains {α : Type} [BEq α] [LawfulBEq α] {L : List α} {a : α} (h : L.contains a = true) : a ∈ L := by simpa using h
theorem lkF_lt : ∀ t ∈ lkF, t.2.2 < nF := by decide +kernel
theorem laid_of (W : QW Z a0) {k : Nat} (hk : k < nF) : Laid Z a0 cName cName (fNm k) (fDs k) := by
 have q := (qw_lay W) k hk
 cases hf : fFin k with
 | true => rw [hf] at q; exact Or.inr q
 | false => rw [hf] at q; exact Or.inl q
theorem qfit_inv {ty : FieldType} {v w : Value} (h : qfit ty v = some w) : v = w ∧ narrow ty (qv ad w) = qv ad w ∧ fits ty (qv ad w) = true := by
 unfold qfit at h
 split at h
 ·cases h; exact ⟨rfl, rfl, rfl⟩
 ·rename_i x
  obtain ⟨y, hy, h⟩ := Option.bind_eq_some_iff.mp h
  cases h
  unfold qboo at hy
  split at hy
  ·rename_i e; cases hy; subst e; exact ⟨rfl, rfl, rfl⟩
  ·split at hy
   ·rename_i e; cases hy; subst e; exact ⟨rfl, rfl, rfl⟩
   ·cases hy
 ·cases h; exact ⟨rfl, rfl, rfl⟩
 ·cases h; exact ⟨rfl, rfl, rfl⟩
 ·cases h
theorem vget_set {vs : List Value} {k j : Nat} {w : Value} (hk : k < vs.length) : vget (vs.set k w) j = if j = k then some w else vget vs j := by
 simp only [vget_eq, List.getElem?_set]
 by_cases e : k = j
 ·subst e; simp [hk]
 ·simp [e, Ne.symm e]
theorem ald_in {α : Type} {f : α → Value} {xs : List α} {c : Cell} {j : Int32} {x : α} (hc : c.slots = (xs.map f).toArray) (h : aget xs j = some x) : ¬ (j < 0 ∨ c.slots.size ≤ j.toNatClampNeg) ∧ c.slots[j.toNatClampNeg]? = some (f x) := by
 obtain ⟨h1, h2⟩ := aget_inv h
 have h3 := (List.getElem?_eq_some_iff.mp h2).1
 refine ⟨fun q => ?_, by rw [hc]; simp [h2]⟩
 rcases q with q | q
 ·exact h1 q
 ·rw [hc] at q; simp at q; omega
theorem ast_in {α : Type} {f : α → Value} {xs ys : List α} {c : Cell} {j : Int32} {x : α} (hc : c.slots = (xs.map f).toArray) (h : aset xs j x = some ys) : ¬ (j < 0 ∨ c.slots.size ≤ j.toNatClampNeg) ∧ (c.setSlot j.toNatClampNeg (f x)).slots = (ys.map f).toArray := by
 obtain ⟨h1, h2, rfl⟩ := aset_inv h
 refine ⟨fun q => ?_, by simp [Cell.setSlot, hc, List.map_set]⟩
 rcases q with q | q
 ·exact h1 q
 ·rw [hc] at q; simp at q; omega
theorem qgrow {σ : QHeap} {c : QCell} : qhs (σ ++ [c]) - qhs σ = qsz c := by rw [qhs_app]; simp [qhs]
set_option maxHeartbeats 4000000 in
theorem QTri.newArr (Ad : QAd n0 ad) (W : QW Z a0) {pc aux : Nat} {L : QLoc} {S : List Value} {σ : QHeap} {aty : ArrayType} {n : Int32} {k : Nat} {c : QCell} (hk : qnew n = some k) (hc : pCode m pc = some (.newarray aty, aux)) (hz : qsz c = k)
  (hq : ∀ (h' : Heap) (a : Addr) (cA : ClassId), Arr Z h' a (newA cA (newarray.typeOf aty) n) (newarray.typeOf aty) → QCellOk Z ad h' a c)
  (h : QTri l Z n0 ad m (pc + 2, L, .ref σ.length :: S, σ ++ [c]) v σ') : QTri l Z n0 ad m (pc, L, .int n :: S, σ) v σ' := by
 have hd : decode (pBytes m) pc = .ok (.newarray aty, 2) := pDecN hc rfl
 obtain ⟨n1, n2, n3⟩ := qnew_inv hk
 refine QTri.gen h (by simp) (by simp [qhs_app]) fun p e R s mid args below meth c' T locs cells slots C hcx X hR hF hL hC hn hc1 hsl => ?_
 obtain ⟨hx, hZ, hby, hml, hret, hown, hnm, hfr, hlo⟩ := hcx
 have hd2 : decode c'.code pc = .ok (.newarray aty, 2) := by rw [hby]; exact hd
 simp only [List.length_append, List.length_singleton, Nat.add_sub_cancel_left, qgrow, hz] at hc1 hsl ⊢
 obtain ⟨T₁, h₁, cA, X₁, e₁, E₁, A₁, st⟩ := newP X hx hZ (aty := aty) (qw_arr W (newarray.typeOf aty) (mem_of_contains (show aTys.contains (newarray.typeOf aty) = true from pRest hc))) rfl (g := mkF mid pc C (.int n :: S.map (qv ad))) rfl hd2 rfl n1 (cap := k) (by omega) (by omega) hc1 hsl
 have hsz : h₁.size = T.heap.size + 1 := by
  have q1 := X₁.heapSize
  have q2 : T.heap.size < h₁.size := A₁.lt
  have q3 := hR.2.1
  rw [e₁] at q1
  have : n0 + (σ.length - k0) = s.heap.size + cells := hn
  have q3' : T.heap.size = n0 + (σ.length - k0) := q3
  omega
 refine ⟨T₁, locs, C, X₁, ?_, hF, hL, hC, fun target q => ?_⟩
 ·rw [e₁]; exact QRep.push hR Ad E₁ hsz (hq _ _ _ A₁)
 ·refine st _ ?_
  have e2 : ad σ.length = T.heap.size := by rw [Ad.1 _ hR.1]; exact hR.2.1.symm
  simp only [List.map_cons, qv, e2] at q
  exact q
set_option maxHeartbeats 4000000 in
theorem QTri.getfield (W : QW Z a0) {pc idx aux : Nat} {L : QLoc} {S : List Value} {σ : QHeap} {st' : QSt} (h : QTri l Z n0 ad m st' v σ') (hc : pCode m pc = some (.getfield idx, aux)) (hs : qget (pc + 3) L S σ aux = some st') : QTri l Z n0 ad m (pc, L, S, σ) v σ' := by
 have hd : decode (pBytes m) pc = .ok (.getfield idx, 3) := pDecN hc rfl
 obtain ⟨a, S', vs, w, rfl, hvs, hw, rfl⟩ := qget_inv hs
 have hm := mem_of_contains (show lkF.contains (pK m, idx, aux) = true from pRest hc)
 have hlt := lkF_lt _ hm
 refine QTri.pure h rfl fun p e R s mid args below meth c T locs cells slots C hcx X hR hL hC => ?_
 obtain ⟨hx, hZ, hby, hml, hret, hown, hnm, hfr, hlo⟩ := hcx
 have hd2 : decode c.code pc = .ok (.getfield idx, 3) := by rw [hby]; exact hd
 have F := (hR.2.2 _ _ hvs).2.2 aux w hlt hw
 obtain ⟨T₁, X₁, e₁, st⟩ := getF X hx hZ hown (host := "") (index := idx) (Or.inl (qw_fl W (pK m, idx, aux) hm)) Via.refl rfl F (g := mkF mid pc C (List.map (qv ad) (.ref a :: S'))) rfl rfl hd2
 exact ⟨T₁, C, X₁, e₁, hL, hC, st⟩
set_option maxHeartbeats 4000000 in
theorem QTri.putfield (Ad : QAd n0 ad) (W : QW Z a0) {pc idx aux : Nat} {L : QLoc} {S : List Value} {σ : QHeap} {st' : QSt} (h : QTri l Z n0 ad m st' v σ') (hc : pCode m pc = some (.putfield idx, aux)) (hs : qput (pc + 3) L S σ aux = some st') : QTri l Z n0 ad m (pc, L, S, σ) v σ' := by
 have hd : decode (pBytes m) pc = .ok (.putfield idx, 3) := pDecN hc rfl
 obtain ⟨w, a, S', vs, u, rfl, hvs, b1, b2, hu, rfl⟩ := qput_inv hs
 obtain ⟨r1, r2⟩ := Bool.and_eq_true_iff.mp (show (lkF.contains (pK m, idx, aux) && (!fFin aux || (pK m == 1 && pNm m == "<init>"))) = true from pRest hc)
 have hm := mem_of_contains r1
 have hlt := lkF_lt _ hm
 obtain ⟨rfl, q2, q3⟩ := qfit_inv (ad := ad) hu
 have hsz : qhs (σ.set a (Sum.inl (vs.set aux w))) = qhs σ := qhs_set hvs rfl
 refine QTri.gen h (by simp) (by show qhs σ ≤ qhs (σ.set a (Sum.inl (vs.set aux w))); rw [hsz]; exact Nat.le_refl _) fun p e R s mid args below meth c T locs cells slots C hcx X hR hF hL hC hn hc1 hsl => ?_
 obtain ⟨hx, hZ, hby, hml, hret, hown, hnm, hfr, hlo⟩ := hcx
 have hd2 : decode c.code pc = .ok (.putfield idx, 3) := by rw [hby]; exact hd
 obtain ⟨E, l1, Fs⟩ := hR.2.2 _ _ hvs
 obtain ⟨old, hold⟩ : ∃ old, vget vs aux = some old := by rw [vget_eq]; exact ⟨_, List.getElem?_eq_getElem b2⟩
 have lay : (Cond.lays cName cName (fNm aux) (fDs aux)).before a0 Z = true ∨ ((Cond.laysFinal cName cName (fNm aux) (fDs aux)).before a0 Z = true ∧ kName (pK m) = cName ∧ meth.name = "<init>") := by
  have q := (qw_lay W) aux hlt
  cases hf : fFin aux with
  | false => rw [hf] at q; exact Or.inl q
  | true =>
   rw [hf] at q r2
   simp at r2
   exact Or.inr ⟨q, by rw [r2.1]; exact kOne, by rw [hnm]; exact r2.2⟩
 obtain ⟨T₁, h₁, X₁, e₁, W₁, st⟩ := putF X hx hZ hown (host := "") (index := idx) (Or.inl (qw_fl W (pK m, idx, aux) hm)) Via.refl rfl (Fs aux old hlt hold) E lay ((qw_inst W)) (fPrs aux hlt) q2 q3 (g := mkF mid pc C (List.map (qv ad) (w :: .ref a :: S'))) rfl rfl hd2
 refine ⟨T₁, _, C, ?_, ?_, Fr.snoc X₁ hF (by rw [Ad.1 a b1]; exact Nat.le_add_right _ _), hL, hC, st⟩
 ·show Stand _ _ _ _ _ _ _ _ _ _ _ _ (cells + ((σ.set a (Sum.inl (vs.set aux w))).length - σ.length)) (slots + (qhs (σ.set a (Sum.inl (vs.set aux w))) - qhs σ))
  rw [hsz, Nat.sub_self, List.length_set, Nat.sub_self]
  exact X₁
 ·rw [e₁]
  refine QRep.set hR Ad W₁ hvs ⟨E.wr W₁, by simpa using l1, fun k u hk hu => ?_⟩
  rw [vget_set b2] at hu
  split at hu
  ·rename_i e; cases hu; rw [e]; exact (Fs aux old hlt hold).same W₁
  ·rename_i ne
   exact (Fs k u hk hu).other W₁ (Or.inr (slot_ne (laid_of W hk) (laid_of W hlt) (fun z => ne (fInj _ hk _ hlt z)) (fPrs _ hk) (fPrs _ hlt)))
theorem tyI_inv {ty : FieldType} (h : tyI ty = true) : ty = .int := by cases ty <;> simp [tyI] at h; rfl
theorem tyB_inv {ty : FieldType} (h : tyB ty = true) : ty = .boolean ∨ ty = .byte := by cases ty <;> simp [tyB] at h <;> simp
set_option maxHeartbeats 4000000 in
theorem QTri.iaload {pc aux : Nat} {L : QLoc} {S : List Value} {σ : QHeap} {st' : QSt} (h : QTri l Z n0 ad m st' v σ') (hc : pCode m pc = some (.iaload, aux)) (hs : qald (pc + 1) L S σ tyI = some st') : QTri l Z n0 ad m (pc, L, S, σ) v σ' := by
 have hd : decode (pBytes m) pc = .ok (.iaload, 1) := pDecN hc rfl
 obtain ⟨j, a, S', ty, xs, w, rfl, hx1, ht, hw, rfl⟩ := qald_inv hs
 obtain rfl := tyI_inv ht
 refine QTri.stack h fun p e R s mid args below meth c T locs cells slots C target hx hZ hby hown X hR hL k => ?_
 have hd2 : decode c.code pc = .ok (.iaload, 1) := by rw [hby]; exact hd
 obtain ⟨cl, A, hsl⟩ := hR.2.2 _ _ hx1
 obtain ⟨i1, i2⟩ := ald_in hsl hw
 exact X.iaload hx A.1 (State.isArrayOf_alike hZ.alike A.2.1) A.2.2 i1 i2 (g := mkF mid pc C (List.map (qv ad) (.int j :: .ref a :: S'))) rfl rfl hd2 _ k
set_option maxHeartbeats 4000000 in
theorem QTri.baload {pc aux : Nat} {L : QLoc} {S : List Value} {σ : QHeap} {st' : QSt} (h : QTri l Z n0 ad m st' v σ') (hc : pCode m pc = some (.baload, aux)) (hs : qald (pc + 1) L S σ tyB = some st') : QTri l Z n0 ad m (pc, L, S, σ) v σ' := by
 have hd : decode (pBytes m) pc = .ok (.baload, 1) := pDecN hc rfl
 obtain ⟨j, a, S', ty, xs, w, rfl, hx1, ht, hw, rfl⟩ := qald_inv hs
 refine QTri.stack h fun p e R s mid args below meth c T locs cells slots C target hx hZ hby hown X hR hL k => ?_
 have hd2 : decode c.code pc = .ok (.baload, 1) := by rw [hby]; exact hd
 obtain ⟨cl, A, hsl⟩ := hR.2.2 _ _ hx1
 obtain ⟨i1, i2⟩ := ald_in hsl hw
 rcases tyB_inv ht with rfl | rfl
 ·exact X.baloadBooleans hx A.1 (State.isArrayOf_alike hZ.alike A.2.1) A.2.2 i1 i2 (g := mkF mid pc C (List.map (qv ad) (.int j :: .ref a :: S'))) rfl rfl hd2 _ k
 ·exact X.baloadBytes hx A.1 (State.isArrayOf_alike hZ.alike A.2.1) A.2.2 i1 i2 (g := mkF mid pc C (List.map (qv ad) (.int j :: .ref a :: S'))) rfl rfl hd2 _ k
set_option maxHeartbeats 4000000 in
theorem QTri.laload {pc aux : Nat} {L : QLoc} {S : List Value} {σ : QHeap} {st' : QSt} (h : QTri l Z n0 ad m st' v σ') (hc : pCode m pc = some (.laload, aux)) (hs : qaldJ (pc + 1) L S σ = some st') : QTri l Z n0 ad m (pc, L, S, σ) v σ' := by
 have hd : decode (pBytes m) pc = .ok (.laload, 1) := pDecN hc rfl
 obtain ⟨j, a, S', xs, w, rfl, hx1, hw, rfl⟩ := qaldJ_inv hs
 refine QTri.stack h fun p e R s mid args below meth c T locs cells slots C target hx hZ hby hown X hR hL k => ?_
 have hd2 : decode c.code pc = .ok (.laload, 1) := by rw [hby]; exact hd
 obtain ⟨cl, A, hsl⟩ := hR.2.2 _ _ hx1
 obtain ⟨i1, i2⟩ := ald_in hsl hw
 exact X.laload hx A.1 (State.isArrayOf_alike hZ.alike A.2.1) A.2.2 i1 i2 (g := mkF mid pc C (List.map (qv ad) (.int j :: .ref a :: S'))) rfl rfl hd2 _ k
theorem QTri.stored (Ad : QAd n0 ad) {pc : Nat} {L : QLoc} {S S' : List Value} {σ : QHeap} {a j : Nat} {w : Value} {c d : QCell} (hx1 : hget σ a = some c) (b1 : k0 ≤ a) (hz : qsz d = qsz c) (h : QTri l Z n0 ad m (pc + 1, L, S', σ.set a d) v σ')
  (hs : ∀ (p : Program) (e : Env) (R : Room) (s : State) (mid : MethodId) (args : Array Value) (below : List Frame) (meth : Method) (c : Code) (T : State) (locs : List Loc) (cells slots : Nat) (C : Array Slot),
   QCx Z p R s mid meth c m → Stand p l e R s mid args below meth c T locs cells slots → QRep Z n0 ad T.heap σ →
   ∃ T' h', Stand p l e R s mid args below meth c T' (locs ++ [⟨ad a, j⟩]) cells slots ∧ T'.heap = h' ∧ Wr T.heap h' (ad a) j w ∧ QCellOk Z ad h' (ad a) d ∧ ∀ target, Steps p.tables e below (T'.setTop (mkF mid (pc + 1) C (S'.map (qv ad)))) target → Steps p.tables e below (T.setTop (mkF mid pc C (S.map (qv ad)))) target) :
  QTri l Z n0 ad m (pc, L, S, σ) v σ' := by
 have hsz : qhs (σ.set a d) = qhs σ := qhs_set hx1 hz
 refine QTri.gen h (by simp) (by show qhs σ ≤ qhs (σ.set a d); rw [hsz]; exact Nat.le_refl _) fun p e R s mid args below meth c T locs cells slots C hcx X hR hF hL hC hn hc1 hsl => ?_
 obtain ⟨T₁, h₁, X₁, e₁, W₁, Q₁, st⟩ := hs p e R s mid args below meth c T locs cells slots C hcx X hR
 refine ⟨T₁, _, C, ?_, ?_, Fr.snoc X₁ hF (by rw [Ad.1 a b1]; exact Nat.le_add_right _ _), hL, hC, st⟩
 ·show Stand _ _ _ _ _ _ _ _ _ _ _ _ (cells + ((σ.set a d).length - σ.length)) (slots + (qhs (σ.set a d) - qhs σ))
  rw [hsz, Nat.sub_self, List.length_set, Nat.sub_self]
  exact X₁
 ·rw [e₁]
  exact QRep.set hR Ad W₁ hx1 Q₁
set_option maxHeartbeats 4000000 in
theorem QTri.iastore (Ad : QAd n0 ad) {pc aux : Nat} {L : QLoc} {S : List Value} {σ : QHeap} {st' : QSt} (h : QTri l Z n0 ad m st' v σ') (hc : pCode m pc = some (.iastore, aux)) (hs : qast (pc + 1) L S σ tyI = some st') : QTri l Z n0 ad m (pc, L, S, σ) v σ' := by
 have hd : decode (pBytes m) pc = .ok (.iastore, 1) := pDecN hc rfl
 obtain ⟨w, j, a, S', ty, xs, ys, rfl, hx1, ht, b1, hw, rfl⟩ := qast_inv hs
 obtain rfl := tyI_inv ht
 refine QTri.stored Ad (j := j.toNatClampNeg) (w := .int w) hx1 b1 (by rw [(aset_inv hw).2.2]; simp [qsz]) h fun p e R s mid args below meth c T locs cells slots C hcx X hR => ?_
 have hd2 : decode c.code pc = .ok (.iastore, 1) := by rw [hcx.2.2.1]; exact hd
 obtain ⟨cl, A, hsl⟩ := hR.2.2 _ _ hx1
 obtain ⟨i1, i2⟩ := ast_in hsl hw
 obtain ⟨T₁, h₁, X₁, e₁, W₁, st⟩ := stI X hcx.1 hcx.2.1 rfl A i1 (g := mkF mid pc C (List.map (qv ad) (.int w :: .int j :: .ref a :: S'))) rfl rfl hd2
 exact ⟨T₁, h₁, X₁, e₁, W₁, ⟨_, A.same W₁, i2⟩, st⟩
set_option maxHeartbeats 4000000 in
theorem QTri.bastore (Ad : QAd n0 ad) {pc aux : Nat} {L : QLoc} {S : List Value} {σ : QHeap} {st' : QSt} (h : QTri l Z n0 ad m st' v σ') (hc : pCode m pc = some (.bastore, aux)) (hs : qast (pc + 1) L S σ tyB = some st') : QTri l Z n0 ad m (pc, L, S, σ) v σ' := by
 have hd : decode (pBytes m) pc = .ok (.bastore, 1) := pDecN hc rfl
 obtain ⟨w, j, a, S', ty, xs, ys, rfl, hx1, ht, b1, hw, rfl⟩ := qast_inv hs
 refine QTri.stored Ad (j := j.toNatClampNeg) (w := .int (qnar ty w)) hx1 b1 (by rw [(aset_inv hw).2.2]; simp [qsz]) h fun p e R s mid args below meth c T locs cells slots C hcx X hR => ?_
 have hd2 : decode c.code pc = .ok (.bastore, 1) := by rw [hcx.2.2.1]; exact hd
 obtain ⟨cl, A, hsl⟩ := hR.2.2 _ _ hx1
 obtain ⟨i1, i2⟩ := ast_in hsl hw
 rcases tyB_inv ht with rfl | rfl
 ·obtain ⟨T₁, h₁, X₁, e₁, W₁, st⟩ := stZ X hcx.1 hcx.2.1 rfl A i1 (g := mkF mid pc C (List.map (qv ad) (.int w :: .int j :: .ref a :: S'))) rfl rfl hd2
  exact ⟨T₁, h₁, X₁, e₁, W₁, ⟨_, A.same W₁, i2⟩, st⟩
 ·obtain ⟨T₁, h₁, X₁, e₁, W₁, st⟩ := stB X hcx.1 hcx.2.1 rfl A i1 (g := mkF mid pc C (List.map (qv ad) (.int w :: .int j :: .ref a :: S'))) rfl rfl hd2
  exact ⟨T₁, h₁, X₁, e₁, W₁, ⟨_, A.same W₁, i2⟩, st⟩
set_option maxHeartbeats 4000000 in
theorem QTri.lastore (Ad : QAd n0 ad) {pc aux : Nat} {L : QLoc} {S : List Value} {σ : QHeap} {st' : QSt} (h : QTri l Z n0 ad m st' v σ') (hc : pCode m pc = some (.lastore, aux)) (hs : qastJ (pc + 1) L S σ = some st') : QTri l Z n0 ad m (pc, L, S, σ) v σ' := by
 have hd : decode (pBytes m) pc = .ok (.lastore, 1) := pDecN hc rfl
 obtain ⟨w, j, a, S', xs, ys, rfl, hx1, b1, hw, rfl⟩ := qastJ_inv hs
 refine QTri.stored Ad (j := j.toNatClampNeg) (w := .long w) hx1 b1 (by rw [(aset_inv hw).2.2]; simp [qsz]) h fun p e R s mid args below meth c T locs cells slots C hcx X hR => ?_
 have hd2 : decode c.code pc = .ok (.lastore, 1) := by rw [hcx.2.2.1]; exact hd
 obtain ⟨cl, A, hsl⟩ := hR.2.2 _ _ hx1
 obtain ⟨i1, i2⟩ := ast_in hsl hw
 obtain ⟨T₁, h₁, X₁, e₁, W₁, st⟩ := stJ X hcx.1 hcx.2.1 rfl A i1 (g := mkF mid pc C (List.map (qv ad) (.long w :: .int j :: .ref a :: S'))) rfl rfl hd2
 exact ⟨T₁, h₁, X₁, e₁, W₁, ⟨_, A.same W₁, i2⟩, st⟩
set_option maxHeartbeats 4000000 in
theorem QTri.alen {pc aux : Nat} {L : QLoc} {S : List Value} {σ : QHeap} {st' : QSt} (h : QTri l Z n0 ad m st' v σ') (hc : pCode m pc = some (.arraylength, aux)) (hs : qlen (pc + 1) L S σ = some st') : QTri l Z n0 ad m (pc, L, S, σ) v σ' := by
 have hd : decode (pBytes m) pc = .ok (.arraylength, 1) := pDecN hc rfl
 obtain ⟨a, S', n, rfl, hx1, rfl⟩ := qlen_inv hs
 refine QTri.stack h fun p e R s mid args below meth c T locs cells slots C target hx hZ hby hown X hR hL k => ?_
 have hd2 : decode c.code pc = .ok (.arraylength, 1) := by rw [hby]; exact hd
 rcases hx1 with ⟨ty, xs, hx1, rfl⟩ | ⟨xs, hx1, rfl⟩
 ·obtain ⟨cl, A, hsl⟩ := hR.2.2 _ _ hx1
  have e1 : cl.slots.size = xs.length := by rw [hsl]; simp
  rw [← e1] at k
  exact X.arraylength hx A.1 (State.isArrayOf_alike hZ.alike A.2.1) (g := mkF mid pc C (List.map (qv ad) (.ref a :: S'))) rfl rfl hd2 _ k
 ·obtain ⟨cl, A, hsl⟩ := hR.2.2 _ _ hx1
  have e1 : cl.slots.size = xs.length := by rw [hsl]; simp
  rw [← e1] at k
  exact X.arraylength hx A.1 (State.isArrayOf_alike hZ.alike A.2.1) (g := mkF mid pc C (List.map (qv ad) (.ref a :: S'))) rfl rfl hd2 _ k
set_option maxHeartbeats 4000000 in
theorem QTri.newObj (Ad : QAd n0 ad) (W : QW Z a0) {pc idx aux : Nat} {L : QLoc} {S : List Value} {σ : QHeap} (h : QTri l Z n0 ad m (pc + 3, L, .ref σ.length :: S, σ ++ [.inl cDef]) v σ') (hc : pCode m pc = some (.new idx, aux)) : QTri l Z n0 ad m (pc, L, S, σ) v σ' := by
 have hd : decode (pBytes m) pc = .ok (.new idx, 3) := pDecN hc rfl
 have hm := mem_of_contains (show lkN.contains (pK m, idx) = true from pRest hc)
 refine QTri.gen h (by simp) (by simp [qhs_app]) fun p e R s mid args below meth c T locs cells slots C hcx X hR hF hL hC hn hc1 hsl => ?_
 obtain ⟨hx, hZ, hby, hml, hret, hown, hnm, hfr, hlo⟩ := hcx
 have hd2 : decode c.code pc = .ok (.new idx, 3) := by rw [hby]; exact hd
 simp only [List.length_append, List.length_singleton, Nat.add_sub_cancel_left, qgrow, qsz] at hc1 hsl ⊢
 obtain ⟨T₁, h₁, X₁, e₁, E₁, A₁, D₁, -, st⟩ := newO X hx hZ hown (index := idx) (qw_nw W (pK m, idx) hm) ((qw_inst W)) ((qw_init W)) rfl (g := mkF mid pc C (S.map (qv ad))) rfl hd2 hc1 hsl
 have hsz : h₁.size = T.heap.size + 1 := by
  have q1 := X₁.heapSize
  have q2 : T.heap.size < h₁.size := A₁.lt
  have q3 : T.heap.size = n0 + (σ.length - k0) := hR.2.1
  rw [e₁] at q1
  have : n0 + (σ.length - k0) = s.heap.size + cells := hn
  omega
 refine ⟨T₁, locs, C, X₁, ?_, hF, hL, hC, fun target q => ?_⟩
 ·rw [e₁]
  refine QRep.push hR Ad E₁ hsz ⟨A₁, cDefL, fun k u hk hu => ?_⟩
  rw [cDefs k hk] at hu
  cases hu
  have e3 : qv ad (defaultValue (fTy k)) = defaultValue (fTy k) := by
   cases hq : defaultValue (fTy k) with
   | ref a => exact absurd hq (fDef k hk a)
   | _ => rfl
  rw [e3]
  exact D₁ (laid_of W hk) (fPrs k hk)
 ·refine st _ ?_
  have e2 : ad σ.length = T.heap.size := by rw [Ad.1 _ hR.1]; exact hR.2.1.symm
  simp only [List.map_cons, qv, e2] at q
  exact q
set_option maxHeartbeats 8000000 in
theorem QTri.step (Ad : QAd n0 ad) (W : QW Z a0) {st st' : QSt} (h : QTri l Z n0 ad m st' v σ') (hs : qstep m st = some st') : QTri l Z n0 ad m st v σ' := by
 obtain ⟨pc, L, S, σ⟩ := st
 unfold qstep at hs
 dsimp only at hs
 split at hs
 rotate_left
 ·cases hs
 rename_i i aux hc
 have hd := pDecN hc rfl
 have hr := pRest hc
 unfold qexec at hs
 split at hs
 ·-- aload_n
  obtain ⟨w, h1, h2, rfl⟩ := qload_inv hs
  obtain ⟨a, rfl⟩ := isR_inv h2
  exact QTri.stack h fun p e R s mid args below meth c T locs cells slots C target hx hZ hby hown X hR hL k => XS.aloadN X.here hx rfl (hb hby hd) (hL.2.1 _ _ h1) rfl k
 ·obtain ⟨w, h1, h2, rfl⟩ := qload_inv hs
  obtain ⟨a, rfl⟩ := isR_inv h2
  exact QTri.stack h fun p e R s mid args below meth c T locs cells slots C target hx hZ hby hown X hR hL k => XS.aload X.here hx rfl (hb hby hd) (hL.2.1 _ _ h1) rfl k
 ·obtain ⟨w, h1, h2, rfl⟩ := qload_inv hs
  obtain ⟨a, rfl⟩ := isI_inv h2
  exact QTri.stack h fun p e R s mid args below meth c T locs cells slots C target hx hZ hby hown X hR hL k => XS.iloadN X.here hx rfl (hb hby hd) (hL.2.1 _ _ h1) k
 ·obtain ⟨w, h1, h2, rfl⟩ := qload_inv hs
  obtain ⟨a, rfl⟩ := isI_inv h2
  exact QTri.stack h fun p e R s mid args below meth c T locs cells slots C target hx hZ hby hown X hR hL k => XS.iload X.here hx rfl (hb hby hd) (hL.2.1 _ _ h1) k
 ·obtain ⟨w, h1, h2, rfl⟩ := qload_inv hs
  obtain ⟨a, rfl⟩ := isJ_inv h2
  exact QTri.stack h fun p e R s mid args below meth c T locs cells slots C target hx hZ hby hown X hR hL k => XT.lloadN X.here hx rfl (hb hby hd) (hL.2.1 _ _ h1) k
 ·obtain ⟨w, h1, h2, rfl⟩ := qload_inv hs
  obtain ⟨a, rfl⟩ := isJ_inv h2
  exact QTri.stack h fun p e R s mid args below meth c T locs cells slots C target hx hZ hby hown X hR hL k => XT.lload X.here hx rfl (hb hby hd) (hL.2.1 _ _ h1) k
 ·cases hs -- iconst
  exact QTri.stack h fun p e R s mid args below meth c T locs cells slots C target hx hZ hby hown X hR hL k => XS.iconst X.here hx rfl (hb hby hd) k
 ·cases hs
  exact QTri.stack h fun p e R s mid args below meth c T locs cells slots C target hx hZ hby hown X hR hL k => XS.bipush X.here hx rfl (hb hby hd) k
 ·cases hs
  exact QTri.stack h fun p e R s mid args below meth c T locs cells slots C target hx hZ hby hown X hR hL k => XS.sipush X.here hx rfl (hb hby hd) k
 ·cases hs
  exact QTri.stack h fun p e R s mid args below meth c T locs cells slots C target hx hZ hby hown X hR hL k => XT.lconst X.here hx rfl (hb hby hd) k
 ·-- ldc
  unfold qldc at hs
  split at hs
  ·rename_i w hw
   cases hs
   obtain ⟨x, hx1, hx2⟩ := qw_cI W (pK m, _, aux) (mem_of_contains (show lkC.contains (pK m, _, aux) = true from hr))
   rw [show vget cK aux = some w from hw] at hx1
   cases hx1
   exact QTri.stack h fun p e R s mid args below meth c T locs cells slots C target hx hZ hby hown X hR hL k => X.ldcI hx hown (mv hZ hx2) rfl (hb hby hd) k
  ·cases hs
 ·unfold qldc at hs
  split at hs
  ·rename_i w hw
   cases hs
   obtain ⟨x, hx1, hx2⟩ := qw_cJ W (pK m, _, aux) (mem_of_contains (show lkD.contains (pK m, _, aux) = true from hr))
   rw [show vget cK aux = some w from hw] at hx1
   cases hx1
   exact QTri.stack h fun p e R s mid args below meth c T locs cells slots C target hx hZ hby hown X hR hL k => X.ldc2J hx hown (mv hZ hx2) rfl (hb hby hd) k
  ·cases hs
 ·-- istore_n
  obtain ⟨w, S', L', rfl, h2, h3, rfl⟩ := qstore_inv hs
  obtain ⟨a, rfl⟩ := isI_inv h2
  exact QTri.frame h fun p e R s mid args below meth c T locs cells slots C hcx X hR hL hC => by
   obtain ⟨D, d1, d2, d3⟩ := store_ok hL h3
   exact ⟨D, d2, d3.trans hC, fun target k => XS.istoreN X.here hcx.1 rfl (hb hcx.2.2.1 hd) rfl d1 k⟩
 ·obtain ⟨w, S', L', rfl, h2, h3, rfl⟩ := qstore_inv hs
  obtain ⟨a, rfl⟩ := isI_inv h2
  exact QTri.frame h fun p e R s mid args below meth c T locs cells slots C hcx X hR hL hC => by
   obtain ⟨D, d1, d2, d3⟩ := store_ok hL h3
   exact ⟨D, d2, d3.trans hC, fun target k => XS.istore X.here hcx.1 rfl (hb hcx.2.2.1 hd) rfl d1 k⟩
 ·obtain ⟨w, S', L', rfl, h2, h3, rfl⟩ := qstore_inv hs
  obtain ⟨a, rfl⟩ := isJ_inv h2
  exact QTri.frame h fun p e R s mid args below meth c T locs cells slots C hcx X hR hL hC => by
   obtain ⟨D, d1, d2, d3⟩ := store_ok hL h3
   exact ⟨D, d2, d3.trans hC, fun target k => XT.lstoreN X.here hcx.1 rfl (hb hcx.2.2.1 hd) rfl d1 k⟩
 ·obtain ⟨w, S', L', rfl, h2, h3, rfl⟩ := qstore_inv hs
  obtain ⟨a, rfl⟩ := isJ_inv h2
  exact QTri.frame h fun p e R s mid args below meth c T locs cells slots C hcx X hR hL hC => by
   obtain ⟨D, d1, d2, d3⟩ := store_ok hL h3
   exact ⟨D, d2, d3.trans hC, fun target k => XT.lstore X.here hcx.1 rfl (hb hcx.2.2.1 hd) rfl d1 k⟩
 ·obtain ⟨w, S', L', rfl, h2, h3, rfl⟩ := qstore_inv hs
  obtain ⟨a, rfl⟩ := isR_inv h2
  exact QTri.frame h fun p e R s mid args below meth c T locs cells slots C hcx X hR hL hC => by
   obtain ⟨D, d1, d2, d3⟩ := store_ok hL h3
   exact ⟨D, d2, d3.trans hC, fun target k => XS.astoreN X.here hcx.1 rfl (hb hcx.2.2.1 hd) rfl rfl d1 k⟩
 ·obtain ⟨w, S', L', rfl, h2, h3, rfl⟩ := qstore_inv hs
  obtain ⟨a, rfl⟩ := isR_inv h2
  exact QTri.frame h fun p e R s mid args below meth c T locs cells slots C hcx X hR hL hC => by
   obtain ⟨D, d1, d2, d3⟩ := store_ok hL h3
   exact ⟨D, d2, d3.trans hC, fun target k => XS.astore X.here hcx.1 rfl (hb hcx.2.2.1 hd) rfl rfl d1 k⟩
 ·-- iinc
  unfold qinc at hs
  split at hs
  ·rename_i x hx1
   split at hs
   ·rename_i L' hL'
    cases hs
    exact QTri.frame h fun p e R s mid args below meth c T locs cells slots C hcx X hR hL hC => by
     obtain ⟨D, d1, d2, d3⟩ := store_ok hL hL'
     exact ⟨D, d2, d3.trans hC, fun target k => XS.iinc X.here hcx.1 rfl (hb hcx.2.2.1 hd) (hL.2.1 _ _ hx1) d1 k⟩
   ·cases hs
  ·cases hs
 ·obtain ⟨x, y, S', rfl, rfl⟩ := qbin_inv hs -- iadd
  exact QTri.stack h fun p e R s mid args below meth c T locs cells slots C target hx hZ hby hown X hR hL k => XS.iadd X.here hx rfl (hb hby hd) rfl k
 ·obtain ⟨x, y, S', rfl, rfl⟩ := qbin_inv hs
  exact QTri.stack h fun p e R s mid args below meth c T locs cells slots C target hx hZ hby hown X hR hL k => XS.isub X.here hx rfl (hb hby hd) rfl k
 ·obtain ⟨x, y, S', rfl, rfl⟩ := qbin_inv hs
  exact QTri.stack h fun p e R s mid args below meth c T locs cells slots C target hx hZ hby hown X hR hL k => XS.imul X.here hx rfl (hb hby hd) rfl k
 ·obtain ⟨x, y, S', rfl, rfl⟩ := qbin_inv hs
  exact QTri.stack h fun p e R s mid args below meth c T locs cells slots C target hx hZ hby hown X hR hL k => XS.iand X.here hx rfl (hb hby hd) rfl k
 ·obtain ⟨x, y, S', rfl, rfl⟩ := qbin_inv hs
  exact QTri.stack h fun p e R s mid args below meth c T locs cells slots C target hx hZ hby hown X hR hL k => XT.ior X.here hx rfl (hb hby hd) rfl k
 ·obtain ⟨x, y, S', rfl, rfl⟩ := qbin_inv hs
  exact QTri.stack h fun p e R s mid args below meth c T locs cells slots C target hx hZ hby hown X hR hL k => XT.ixor X.here hx rfl (hb hby hd) rfl k
 ·obtain ⟨x, y, S', rfl, rfl⟩ := qbin_inv hs
  exact QTri.stack h fun p e R s mid args below meth c T locs cells slots C target hx hZ hby hown X hR hL k => XT.ishl X.here hx rfl (hb hby hd) rfl k
 ·obtain ⟨x, y, S', rfl, rfl⟩ := qbin_inv hs
  exact QTri.stack h fun p e R s mid args below meth c T locs cells slots C target hx hZ hby hown X hR hL k => XT.ishr X.here hx rfl (hb hby hd) rfl k
 ·obtain ⟨x, y, S', rfl, rfl⟩ := qbin_inv hs
  exact QTri.stack h fun p e R s mid args below meth c T locs cells slots C target hx hZ hby hown X hR hL k => XT.iushr X.here hx rfl (hb hby hd) rfl k
 ·obtain ⟨x, y, z, S', rfl, hz, rfl⟩ := qbino_inv hs -- idiv
  unfold qdiv at hz
  split at hz
  ·cases hz
  ·rename_i hy
   cases hz
   exact QTri.stack h fun p e R s mid args below meth c T locs cells slots C target hx hZ hby hown X hR hL k => XS.idiv X.here hx rfl (hb hby hd) rfl hy k
 ·obtain ⟨x, y, z, S', rfl, hz, rfl⟩ := qbino_inv hs
  unfold qrem at hz
  split at hz
  ·cases hz
  ·rename_i hy
   cases hz
   exact QTri.stack h fun p e R s mid args below meth c T locs cells slots C target hx hZ hby hown X hR hL k => iremM X hx rfl (hb hby hd) rfl hy k
 ·obtain ⟨x, S', rfl, rfl⟩ := quni_inv hs -- ineg
  exact QTri.stack h fun p e R s mid args below meth c T locs cells slots C target hx hZ hby hown X hR hL k => XS.ineg X.here hx rfl (hb hby hd) rfl k
 ·obtain ⟨x, S', rfl, rfl⟩ := quni_inv hs
  exact QTri.stack h fun p e R s mid args below meth c T locs cells slots C target hx hZ hby hown X hR hL k => XT.i2l X.here hx rfl (hb hby hd) rfl k
 ·obtain ⟨x, S', rfl, rfl⟩ := quni_inv hs
  exact QTri.stack h fun p e R s mid args below meth c T locs cells slots C target hx hZ hby hown X hR hL k => XT.i2b X.here hx rfl (hb hby hd) rfl k
 ·obtain ⟨x, S', rfl, rfl⟩ := quniJ_inv hs
  exact QTri.stack h fun p e R s mid args below meth c T locs cells slots C target hx hZ hby hown X hR hL k => XT.l2i X.here hx rfl (hb hby hd) rfl k
 ·obtain ⟨x, S', rfl, rfl⟩ := quniJ_inv hs
  exact QTri.stack h fun p e R s mid args below meth c T locs cells slots C target hx hZ hby hown X hR hL k => XT.lneg X.here hx rfl (hb hby hd) rfl k
 ·obtain ⟨x, y, S', rfl, rfl⟩ := qbinJ_inv hs
  exact QTri.stack h fun p e R s mid args below meth c T locs cells slots C target hx hZ hby hown X hR hL k => XT.ladd X.here hx rfl (hb hby hd) rfl k
 ·obtain ⟨x, y, S', rfl, rfl⟩ := qbinJ_inv hs
  exact QTri.stack h fun p e R s mid args below meth c T locs cells slots C target hx hZ hby hown X hR hL k => XT.lsub X.here hx rfl (hb hby hd) rfl k
 ·obtain ⟨x, y, S', rfl, rfl⟩ := qbinJ_inv hs
  exact QTri.stack h fun p e R s mid args below meth c T locs cells slots C target hx hZ hby hown X hR hL k => XT.lmul X.here hx rfl (hb hby hd) rfl k
 ·obtain ⟨x, y, S', rfl, rfl⟩ := qbinJ_inv hs
  exact QTri.stack h fun p e R s mid args below meth c T locs cells slots C target hx hZ hby hown X hR hL k => XT.land X.here hx rfl (hb hby hd) rfl k
 ·obtain ⟨x, y, S', rfl, rfl⟩ := qbinJ_inv hs
  exact QTri.stack h fun p e R s mid args below meth c T locs cells slots C target hx hZ hby hown X hR hL k => XT.lor X.here hx rfl (hb hby hd) rfl k
 ·obtain ⟨x, y, S', rfl, rfl⟩ := qbinJ_inv hs
  exact QTri.stack h fun p e R s mid args below meth c T locs cells slots C target hx hZ hby hown X hR hL k => XT.lxor X.here hx rfl (hb hby hd) rfl k
 ·obtain ⟨x, y, S', rfl, rfl⟩ := qshJ_inv hs
  exact QTri.stack h fun p e R s mid args below meth c T locs cells slots C target hx hZ hby hown X hR hL k => XT.lshl X.here hx rfl (hb hby hd) rfl k
 ·obtain ⟨x, y, S', rfl, rfl⟩ := qshJ_inv hs
  exact QTri.stack h fun p e R s mid args below meth c T locs cells slots C target hx hZ hby hown X hR hL k => XT.lshr X.here hx rfl (hb hby hd) rfl k
 ·obtain ⟨x, y, S', rfl, rfl⟩ := qshJ_inv hs
  exact QTri.stack h fun p e R s mid args below meth c T locs cells slots C target hx hZ hby hown X hR hL k => XT.lushr X.here hx rfl (hb hby hd) rfl k
 ·split at hs -- lcmp
  ·cases hs
   exact QTri.stack h fun p e R s mid args below meth c T locs cells slots C target hx hZ hby hown X hR hL k => XT.lcmp X.here hx rfl (hb hby hd) rfl k
  ·cases hs
 ·cases hs -- goto
  obtain ⟨t1, t2⟩ := qtgt_spec hr
  exact QTri.stack h fun p e R s mid args below meth c T locs cells slots C target hx hZ hby hown X hR hL k => XS.goto X.here hx rfl rfl (hb hby hd) t1 t2 k
 ·obtain ⟨x, S', rfl, rfl⟩ := qif_inv hs
  obtain ⟨t1, t2⟩ := qtgt_spec hr
  cases hh : ifCond.holds _ x with
  | true => rw [hh] at h; exact QTri.stack h fun p e R s mid args below meth c T locs cells slots C target hx hZ hby hown X hR hL k => XS.ifYes X.here hx rfl rfl (hb hby hd) rfl hh t1 t2 k
  | false => rw [hh] at h; exact QTri.stack h fun p e R s mid args below meth c T locs cells slots C target hx hZ hby hown X hR hL k => XS.ifNo X.here hx rfl (hb hby hd) rfl hh k
 ·obtain ⟨x, y, S', rfl, rfl⟩ := qicmp_inv hs
  obtain ⟨t1, t2⟩ := qtgt_spec hr
  cases hh : if_icmp.holds _ x y with
  | true => rw [hh] at h; exact QTri.stack h fun p e R s mid args below meth c T locs cells slots C target hx hZ hby hown X hR hL k => XS.icmpYes X.here hx rfl rfl (hb hby hd) rfl hh t1 t2 k
  | false => rw [hh] at h; exact QTri.stack h fun p e R s mid args below meth c T locs cells slots C target hx hZ hby hown X hR hL k => XS.icmpNo X.here hx rfl (hb hby hd) rfl hh k
 ·unfold qdup at hs
  split at hs
  ·cases hs
   exact QTri.stack h fun p e R s mid args below meth c T locs cells slots C target hx hZ hby hown X hR hL k => XS.dup X.here hx rfl (hb hby hd) rfl rfl k
  ·cases hs
   exact QTri.stack h fun p e R s mid args below meth c T locs cells slots C target hx hZ hby hown X hR hL k => XS.dup X.here hx rfl (hb hby hd) rfl rfl k
  ·cases hs
 ·unfold qdup2 at hs
  split at hs
  ·cases hs
   exact QTri.stack h fun p e R s mid args below meth c T locs cells slots C target hx hZ hby hown X hR hL k => XT.dup2 X.here hx rfl (hb hby hd) rfl rfl rfl k
  ·cases hs
   exact QTri.stack h fun p e R s mid args below meth c T locs cells slots C target hx hZ hby hown X hR hL k => XT.dup2 X.here hx rfl (hb hby hd) rfl rfl rfl k
  ·cases hs
   exact QTri.stack h fun p e R s mid args below meth c T locs cells slots C target hx hZ hby hown X hR hL k => XT.dup2L X.here hx rfl (hb hby hd) rfl k
  ·cases hs
 ·unfold qpop at hs
  split at hs
  ·cases hs
   exact QTri.stack h fun p e R s mid args below meth c T locs cells slots C target hx hZ hby hown X hR hL k => XT.pop X.here hx rfl (hb hby hd) rfl rfl k
  ·cases hs
   exact QTri.stack h fun p e R s mid args below meth c T locs cells slots C target hx hZ hby hown X hR hL k => XT.pop X.here hx rfl (hb hby hd) rfl rfl k
  ·cases hs
 ·exact QTri.getfield W h hc hs
 ·exact QTri.putfield Ad W h hc hs
 ·exact QTri.iaload h hc hs
 ·exact QTri.baload h hc hs
 ·exact QTri.laload h hc hs
 ·exact QTri.iastore Ad h hc hs
 ·exact QTri.bastore Ad h hc hs
 ·exact QTri.lastore Ad h hc hs
 ·exact QTri.alen h hc hs
 ·-- newarray
  unfold qnewA at hs
  split at hs
  ·split at hs
   ·obtain ⟨k, hk, hs⟩ := Option.bind_eq_some_iff.mp hs
    cases hs
    exact QTri.newArr (c := .inr (.inl (.int, List.replicate k 0))) Ad W hk hc (by simp [qsz]) (fun h' a cA A => ⟨_, A, by simp [newA, (qnew_inv hk).2.1]; exact Or.inr rfl⟩) h
   ·obtain ⟨k, hk, hs⟩ := Option.bind_eq_some_iff.mp hs
    cases hs
    exact QTri.newArr (c := .inr (.inl (.boolean, List.replicate k 0))) Ad W hk hc (by simp [qsz]) (fun h' a cA A => ⟨_, A, by simp [newA, (qnew_inv hk).2.1]; exact Or.inr rfl⟩) h
   ·obtain ⟨k, hk, hs⟩ := Option.bind_eq_some_iff.mp hs
    cases hs
    exact QTri.newArr (c := .inr (.inl (.byte, List.replicate k 0))) Ad W hk hc (by simp [qsz]) (fun h' a cA A => ⟨_, A, by simp [newA, (qnew_inv hk).2.1]; exact Or.inr rfl⟩) h
   ·obtain ⟨k, hk, hs⟩ := Option.bind_eq_some_iff.mp hs
    cases hs
    exact QTri.newArr (c := .inr (.inr (List.replicate k 0))) Ad W hk hc (by simp [qsz]) (fun h' a cA A => ⟨_, A, by simp [newA, (qnew_inv hk).2.1]; exact Or.inr rfl⟩) h
   ·cases hs
  ·cases hs
 ·cases hs; exact QTri.newObj Ad W h hc
 ·cases hs
theorem QTri.steps (Ad : QAd n0 ad) (W : QW Z a0) : ∀ (n : Nat) {st st' : QSt}, qsteps m n st = some st' → QTri l Z n0 ad m st' v σ' → QTri l Z n0 ad m st v σ'
 | 0, st, st', h, k => by cases h; exact k
 | n + 1, st, st', h, k => by
  simp only [qsteps] at h
  split at h
  ·rename_i st₁ h1
   exact QTri.step Ad W (QTri.steps Ad W n h k) h1
  ·cases h
def lmask : List Bool → QLoc → QLoc
 | b :: t, x :: u => (bif b then x else none) :: lmask t u
 | _, L => L.map fun _ => none
theorem lmask_len : ∀ (b : List Bool) (L : QLoc), (lmask b L).length = L.length
 | [], L => by simp [lmask]
 | _ :: _, [] => by simp [lmask]
 | _ :: t, _ :: u => by simp [lmask, lmask_len t u]
theorem lmask_get : ∀ (b : List Bool) (L : QLoc) (k : Nat) (v : Value), lget (lmask b L) k = some v → lget L k = some v
 | [], L, k, v, h => by
  simp only [lmask, lget_eq, List.getElem?_map] at h
  cases hq : L[k]? <;> simp [hq] at h
 | _ :: _, [], k, v, h => by simp [lmask, lget] at h
 | b :: t, x :: u, 0, v, h => by
  simp only [lmask, lget] at h ⊢
  cases b
  ·cases h
  ·exact h
 | b :: t, x :: u, k + 1, v, h => by
  simp only [lmask, lget] at h ⊢
  exact lmask_get t u k v h
theorem QTri.mask {pc : Nat} {L : QLoc} {S : List Value} {σ : QHeap} (b : List Bool) (h : QTri l Z n0 ad m (pc, lmask b L, S, σ) v σ') : QTri l Z n0 ad m (pc, L, S, σ) v σ' :=
 QTri.frame h fun p e R s mid args below meth c T locs cells slots C hcx X hR hL hC => ⟨C, ⟨by rw [lmask_len]; exact hL.1, fun k u hk => hL.2.1 k u (lmask_get b L k u hk), hL.2.2⟩, hC, fun target k => k⟩
theorem QTri.ret0 {pc aux : Nat} {L : QLoc} {σ : QHeap} (hc : pCode m pc = some (.return_, aux)) (hr : pRet m = none) : QTri l Z n0 ad m (pc, L, [], σ) none σ :=
 have hd : decode (pBytes m) pc = .ok (.return_, 1) := pDecN hc rfl
 ⟨Nat.le_refl _, Nat.le_refl _, fun p e R s mid args below meth c T locs cells slots C hcx X hR hF hL hC hn hc1 hsl => ⟨T, locs, by simpa using X, hR, hF, fun fs hf => X.returnOut hcx.1 (hcx.2.2.2.2.1.trans hr) (hb hcx.2.2.1 hd) hf⟩⟩
theorem QTri.retI {pc aux : Nat} {L : QLoc} {S : List Value} {σ : QHeap} {x : Int32} (hc : pCode m pc = some (.ireturn, aux)) (hr : pRet m = some .int) : QTri l Z n0 ad m (pc, L, .int x :: S, σ) (some (.int x)) σ :=
 have hd : decode (pBytes m) pc = .ok (.ireturn, 1) := pDecN hc rfl
 ⟨Nat.le_refl _, Nat.le_refl _, fun p e R s mid args below meth c T locs cells slots C hcx X hR hF hL hC hn hc1 hsl => ⟨T, locs, by simpa using X, hR, hF, fun fs hf => Jvm.RoadKit.retI X hcx.1 (hcx.2.2.2.2.1.trans hr) (hb hcx.2.2.1 hd) hf⟩⟩
theorem QTri.retZ {pc aux : Nat} {L : QLoc} {S : List Value} {σ : QHeap} {x : Int32} (hc : pCode m pc = some (.ireturn, aux)) (hr : pRet m = some .boolean) : QTri l Z n0 ad m (pc, L, .int x :: S, σ) (some (.int (x &&& 1))) σ :=
 have hd : decode (pBytes m) pc = .ok (.ireturn, 1) := pDecN hc rfl
 ⟨Nat.le_refl _, Nat.le_refl _, fun p e R s mid args below meth c T locs cells slots C hcx X hR hF hL hC hn hc1 hsl => ⟨T, locs, by simpa using X, hR, hF, fun fs hf => retN X hcx.1 (t := .boolean) (hcx.2.2.2.2.1.trans hr) (by simp) (hb hcx.2.2.1 hd) hf⟩⟩
theorem QTri.retJ {pc aux : Nat} {L : QLoc} {S : List Value} {σ : QHeap} {x : Int64} (hc : pCode m pc = some (.lreturn, aux)) (hr : pRet m = some .long) : QTri l Z n0 ad m (pc, L, .long x :: S, σ) (some (.long x)) σ :=
 have hd : decode (pBytes m) pc = .ok (.lreturn, 1) := pDecN hc rfl
 ⟨Nat.le_refl _, Nat.le_refl _, fun p e R s mid args below meth c T locs cells slots C hcx X hR hF hL hC hn hc1 hsl => ⟨T, locs, by simpa using X, hR, hF, fun fs hf => retOut X hcx.1 (t := .long) (hcx.2.2.2.2.1.trans hr) rfl (Or.inr (Or.inl ⟨rfl, rfl, _, rfl⟩)) (hb hcx.2.2.1 hd) hf⟩⟩
def LOk (ad : Nat → Addr) (L : QLoc) (C : List Slot) : Prop :=
 L.length = C.length ∧ (∀ k v, lget L k = some v → C[k]? = some (.val (qv ad v))) ∧ (∀ k w, C[k]? = some (.val w) → w.category = 2 → C[k + 1]? = some .second) ∧ ∀ k, C[k]? = some .second → ∃ j w, k = j + 1 ∧ C[j]? = some (.val w) ∧ w.category = 2
theorem LOk.base (ad : Nat → Addr) (n : Nat) : LOk ad (List.replicate n none) (List.replicate n .unset) := by
 refine ⟨by simp, fun k u h => ?_, fun k w h => ?_, fun k h => ?_⟩
 ·rw [lget_eq] at h
  rcases Nat.lt_or_ge k n with q | q
  ·simp [List.getElem?_replicate, q] at h
  ·simp [List.getElem?_eq_none, q] at h
 ·rcases Nat.lt_or_ge k n with q | q
  ·simp [List.getElem?_replicate, q] at h
  ·simp [List.getElem?_eq_none, q] at h
 ·rcases Nat.lt_or_ge k n with q | q
  ·simp [List.getElem?_replicate, q] at h
  ·simp [List.getElem?_eq_none, q] at h
theorem LOk.one {L : QLoc} {C : List Slot} (H : LOk ad L C) {u : Value} (hu : u.category = 1) : LOk ad (some u :: L) (.val (qv ad u) :: C) := by
 obtain ⟨h1, h2, h3, h4⟩ := H
 refine ⟨by simp [h1], fun k w h => ?_, fun k w h hw => ?_, fun k h => ?_⟩
 ·cases k with
  | zero => simp only [lget] at h; cases h; simp
  | succ k => simp only [lget] at h; simpa using h2 k w h
 ·cases k with
  | zero => simp at h; rw [← h, qv_cat, hu] at hw; cases hw
  | succ k => simpa using h3 k w (by simpa using h) hw
 ·cases k with
  | zero => simp at h
  | succ k =>
   obtain ⟨j, w, z1, z2, z3⟩ := h4 k (by simpa using h)
   exact ⟨j + 1, w, by omega, by simpa using z2, z3⟩
theorem LOk.two {L : QLoc} {C : List Slot} (H : LOk ad L C) {u : Value} (hu : u.category = 2) : LOk ad (some u :: none :: L) (.val (qv ad u) :: .second :: C) := by
 obtain ⟨h1, h2, h3, h4⟩ := H
 refine ⟨by simp [h1], fun k w h => ?_, fun k w h hw => ?_, fun k h => ?_⟩
 ·rcases k with _ | _ | k
  ·simp only [lget] at h; cases h; simp
  ·simp [lget] at h
  ·simp only [lget] at h; simpa using h2 k w h
 ·rcases k with _ | _ | k
  ·simp
  ·simp at h
  ·simpa using h3 k w (by simpa using h) hw
 ·rcases k with _ | _ | k
  ·simp at h
  ·exact ⟨0, qv ad u, rfl, by simp, by rw [qv_cat]; exact hu⟩
  ·obtain ⟨j, w, z1, z2, z3⟩ := h4 k (by simpa using h)
   exact ⟨j + 2, w, by omega, by simpa using z2, z3⟩
def slotsOf (u : Value) : List Slot := if u.category = 2 then [.val u, .second] else [.val u]
theorem fold_slots : ∀ (as : List Value) (acc : Array Slot), (as.foldl (fun acc v => if v.category = 2 then (acc.push (.val v)).push .second else acc.push (.val v)) acc).toList = acc.toList ++ as.flatMap slotsOf
 | [], acc => by simp
 | u :: t, acc => by
  rw [List.foldl_cons, fold_slots t]
  by_cases hc : u.category = 2 <;> simp [slotsOf, hc]
theorem slots_len : ∀ (as : List Value), (as.flatMap slotsOf).length = (as.map fun v => v.category).sum
 | [] => rfl
 | u :: t => by
  rw [List.flatMap_cons, List.length_append, slots_len t, List.map_cons, List.sum_cons]
  cases u <;> simp [slotsOf, Value.category]
theorem cats_qv (as : List Value) : ((as.map (qv ad)).map fun v => v.category).sum = (as.map fun v => v.category).sum := by
 rw [List.map_map]
 congr 1
 exact List.map_congr_left fun x _ => qv_cat ad x
theorem entry_list : ∀ (as : List Value) (n : Nat), LOk ad ((as.flatMap fun v => match v with | .long x => [some (.long x), none] | .double x => [some (.double x), none] | v => [some v]) ++ List.replicate n none) ((as.map (qv ad)).flatMap slotsOf ++ List.replicate n .unset)
 | [], n => by simpa using LOk.base ad n
 | u :: t, n => by
  have ih := entry_list t n
  cases u with
  | long x => exact LOk.two ih rfl
  | double x => exact LOk.two ih rfl
  | int x => exact LOk.one ih rfl
  | float x => exact LOk.one ih rfl
  | null => exact LOk.one ih rfl
  | ref x => exact LOk.one ih rfl
  | retAddr x => exact LOk.one ih rfl
theorem qentry_ok (as : List Value) (mx : Nat) (h : (as.map fun v => v.category).sum ≤ mx) : QLocOk ad (qentry as mx) (argsToLocals (as.map (qv ad)).toArray mx) ∧ (argsToLocals (as.map (qv ad)).toArray mx).size = mx := by
 have e : (argsToLocals (as.map (qv ad)).toArray mx).toList = (as.map (qv ad)).flatMap slotsOf ++ List.replicate (mx - (as.map fun v => v.category).sum) .unset := by
  unfold argsToLocals
  have q := fold_slots (as.map (qv ad)) #[]
  simp only [List.foldl_toArray', Array.toList_append, Array.toList_replicate]
  have q2 : ((as.map (qv ad)).foldl (fun (acc : Array Slot) (v : Value) => if v.category = 2 then (acc.push (.val v)).push .second else acc.push (.val v)) #[]).size = (as.map fun v => v.category).sum := by
   rw [← Array.length_toList, q]
   simp only [List.nil_append]
   rw [slots_len, cats_qv]
  rw [q, q2]
  simp
 have H := entry_list (ad := ad) as (mx - (as.map fun v => v.category).sum)
 rw [← e] at H
 obtain ⟨h1, h2, h3, h4⟩ := H
 have hs : (argsToLocals (as.map (qv ad)).toArray mx).size = mx := by
  rw [← Array.length_toList, e, List.length_append, slots_len, cats_qv, List.length_replicate]
  omega
 refine ⟨⟨h1.trans Array.length_toList, fun k u hk => ?_, fun k w hk hw => ?_, fun k hk => ?_⟩, hs⟩
 ·have := h2 k u hk; rwa [Array.getElem?_toList] at this
 ·have := h3 k w (by rw [Array.getElem?_toList]; exact hk) hw; rwa [Array.getElem?_toList] at this
 ·obtain ⟨j, w, z1, z2, z3⟩ := h4 k (by rw [Array.getElem?_toList]; exact hk)
  exact ⟨j, w, z1, by rwa [Array.getElem?_toList] at z2, z3⟩
set_option maxHeartbeats 4000000 in
theorem QTri.met {k : Nat} {as : List Value} {σ σ₁ : QHeap} {w : Option Value} {h0 : Heap} (hk : k < pN) (h : QTri l Z n0 ad k (0, qentry as (pMaxL k), [], σ) w σ₁) (hR : QRep Z n0 ad h0 σ) (hlen : (as.map fun v => v.category).sum ≤ pMaxL k) (hret : pRet k = none → w = none) (ws : List Jvm.Cond) {rm : Room}
  (r1 : pFr k ≤ rm.frames) (r2 : pLo k ≤ rm.locals) (r3 : σ₁.length - σ.length ≤ rm.cells) (r4 : qhs σ₁ - qhs σ ≤ rm.slots) :
  MetFree l (pName k) (head1 (Jvm.Cond.code (pName k) (pBytes k) (pMaxL k) (pRet k) :: ws) rm) (fun a U => a = (as.map (qv ad)).toArray ∧ Z.Warmed39 U.vm ∧ U.heap = h0) (fun _ _ _ _ _ => True)
   (fun _ U o U' => ∃ v L, o = .returned v ∧ (v = w.map (qv ad) ∧ QRep Z n0 ad U'.heap σ₁ ∧ Fr n0 L) ∧ FrameEnd U o U' L (σ₁.length - σ.length) (qhs σ₁ - qhs σ)) := by
 refine MetFree.of_bodySF (plainFor_of_name (kPlain _ (pKlt k hk))) hisR ?_
 intro p e s mid args below meth c s₁ Bd hml0 hP hK
 obtain ⟨rfl, hZ, hh⟩ := hP
 have e0 : s₁.heap = h0 := by rw [← hh, Bd.state]; rfl
 obtain ⟨hl1, hl2⟩ := qentry_ok (ad := ad) as (pMaxL k) hlen
 have hX : Stand p l e rm s mid (as.map (qv ad)).toArray below meth c s₁ [] 0 0 := Stand.of_body Bd
 obtain ⟨T', locs', X', R', F', S'⟩ := h.2.2 p e rm s mid _ below meth c s₁ [] 0 0 _ ⟨Bd.exec, hZ, Bd.bytes, hml0, Bd.returns, findClass_of_methodNamed Bd.named, (name_of_methodNamed Bd.named Bd.method).1, r1, r2⟩ hX (by rw [e0]; exact hR) (Fr.nil _) hl1 (hl2.trans hml0.symm) (by rw [hh, Nat.add_zero]; exact hR.2.1.symm) (by rw [Nat.zero_add]; exact r3) (by rw [Nat.zero_add]; exact r4)
 obtain ⟨fs, hr, hrun, hended, hW, hsame⟩ := X'.leave (v := w.map (qv ad)) (fun q => by rw [hret (Bd.returns.symm.trans q)]; rfl)
 refine ⟨_, _, S' fs hr, hrun, hended, _, _, rfl, ⟨rfl, R', F'⟩, ⟨_, rfl⟩, hW, ?_⟩
 simp only [Nat.zero_add] at hsame
 exact hsame
theorem QTri.room {k : Nat} {σ σ₁ : QHeap} {rest : List Value} {R : Room} (hroom : (Nat.ble (pFr k + 1) (pFr m) && Nat.ble ((rest.map fun v => v.category).sum + (pMaxL k + 11) + pLo k) (pLo m)) = true) (hfr : pFr m ≤ R.frames) (hlo : pLo m ≤ R.locals) :
  pFr k + 1 ≤ R.frames ∧ (rest.map fun v => v.category).sum + (pMaxL k + 11) + pLo k ≤ R.locals := by
 obtain ⟨q1, q2⟩ := Bool.and_eq_true_iff.mp hroom
 exact ⟨Nat.le_trans (Nat.le_of_ble_eq_true q1) hfr, Nat.le_trans (Nat.le_of_ble_eq_true q2) hlo⟩
theorem sig_len {k : Nat} (hk : k < pN) {as : List Value} (hna : as.length = pNA k) : ∀ sig, parseMethodDescriptor (pName k).desc = some sig → (as.map (qv ad)).length = sig.parameters.length := fun sig hs => by
 have q := pSig k hk
 rw [show parseMethodDescriptor (pDs k) = some sig from hs] at q
 simp at q
 simp [hna, q]
theorem ret_map (w : Option Value) (rest : List Value) : (w.toList ++ rest).map (qv ad) = (w.map (qv ad)).toList ++ rest.map (qv ad) := by cases w <;> simp
theorem QTri.after {as0 : List Value} {pc : Nat} {L : QLoc} {S rest : List Value} {σ σ₁ : QHeap} {w : Option Value} {k : Nat} (hcal : QTri l Z n0 ad k (0, qentry as0 (pMaxL k), [], σ) w σ₁) (h : QTri l Z n0 ad m (pc + 3, L, w.toList ++ rest, σ₁) v σ')
  (hs : ∀ (p : Program) (e : Env) (R : Room) (s : State) (mid : MethodId) (args : Array Value) (below : List Frame) (meth : Method) (c : Code) (T : State) (locs : List Loc) (cells slots : Nat) (C : Array Slot),
   QCx Z p R s mid meth c m → Stand p l e R s mid args below meth c T locs cells slots → QRep Z n0 ad T.heap σ → C.size = c.maxLocals → cells + (σ₁.length - σ.length) ≤ R.cells → slots + (qhs σ₁ - qhs σ) ≤ R.slots →
   ∃ T₁ Lc, Stand p l e R s mid args below meth c T₁ (locs ++ Lc) (cells + (σ₁.length - σ.length)) (slots + (qhs σ₁ - qhs σ)) ∧ QRep Z n0 ad T₁.heap σ₁ ∧ Fr n0 Lc ∧
    ∀ target, Steps p.tables e below (T₁.setTop (mkF mid (pc + 3) C ((w.map (qv ad)).toList ++ rest.map (qv ad)))) target → Steps p.tables e below (T.setTop (mkF mid pc C (S.map (qv ad)))) target) :
  QTri l Z n0 ad m (pc, L, S, σ) v σ' := by
 refine QTri.gen h hcal.1 hcal.2.1 fun p e R s mid args below meth c T locs cells slots C hcx X hR hF hL hC hn hc1 hsl => ?_
 obtain ⟨T₁, Lc, X₁, R₁, F₁, st⟩ := hs p e R s mid args below meth c T locs cells slots C hcx X hR hC hc1 hsl
 refine ⟨T₁, locs ++ Lc, C, X₁, R₁, hF.app F₁, hL, hC, fun target q => st target ?_⟩
 rw [← ret_map]
 exact q
set_option maxHeartbeats 4000000 in
theorem QTri.callV (W : QW Z a0) {pc idx k a : Nat} {L : QLoc} {S as rest vs : List Value} {σ σ₁ : QHeap} {w : Option Value} (hc : pCode m pc = some (.invokevirtual idx, k)) (hm : (lkV.contains (pK m, idx, k) && mV.contains k) = true) (hcell : hget σ a = some (.inl vs)) (hS : S = as.reverse ++ .ref a :: rest)
  (hna : as.length = pNA k) (hlen : Nat.ble (((Value.ref a :: as).map fun v => v.category).sum) (pMaxL k) = true) (hroom : (Nat.ble (pFr k + 1) (pFr m) && Nat.ble ((rest.map fun v => v.category).sum + (pMaxL k + 11) + pLo k) (pLo m)) = true) (hrb : (w.isNone || (pRet k).isSome) = true)
  (hcal : QTri l Z n0 ad k (0, qentry (.ref a :: as) (pMaxL k), [], σ) w σ₁) (h : QTri l Z n0 ad m (pc + 3, L, w.toList ++ rest, σ₁) v σ') : QTri l Z n0 ad m (pc, L, S, σ) v σ' := by
 have hd : decode (pBytes m) pc = .ok (.invokevirtual idx, 3) := pDecN hc rfl
 subst hS
 obtain ⟨m1, m2⟩ := Bool.and_eq_true_iff.mp hm
 have m1 := mem_of_contains m1
 have m2 := mem_of_contains m2
 have hkA := (mVlt k m2).1
 have hkN := mAlt k hkA
 have hret : pRet k = none → w = none := fun q => by
  rw [q] at hrb
  cases w with
  | none => rfl
  | some w => simp at hrb
 refine QTri.after hcal h fun p e R s mid args below meth c T locs cells slots C hcx X hR hC hc1 hsl => ?_
 obtain ⟨hx, hZ, hby, hml, hret', hown, hnm, hfr, hlo⟩ := hcx
 have hd2 : decode c.code pc = .ok (.invokevirtual idx, 3) := by rw [hby]; exact hd
 obtain ⟨f1, f2⟩ := QTri.room (σ := σ) (σ₁ := σ₁) hroom hfr hlo
 obtain ⟨cq, kq, q1, q2, q3⟩ := isOf hZ rfl (hR.2.2 _ _ hcell).1
 obtain ⟨w1, w2, w3⟩ := (qw_vi W) k m2
 obtain ⟨c1, c2⟩ := (qw_cod W) k hkA
 obtain ⟨_, _, ⟨T₁, L₁, k₁, n₁⟩, -, X₁, ⟨Lc, ⟨rfl, hR1, hF1⟩, l₁, y₁, z₁⟩, st⟩ := X.virtualBack hx (own := kName (pK m)) (index := idx) (y := pName k) (z := pName k) hown (mvT hZ (qw_ml W (pK m, idx, k) m1)) (mvT hZ w1) (notFace_of_selects (args := #[]) (mvT hZ w2)) (mvT hZ w2) (mvT hZ w3) (pOwn _ (pKlt k hkN))
  (backOf (W := (rest.map fun v => v.category).sum) (rm := ⟨pFr k, σ₁.length - σ.length, qhs σ₁ - qhs σ, pLo k⟩) (Q := fun v h L => v = Option.map (qv ad) w ∧ QRep Z n0 ad h σ₁ ∧ Fr n0 L) (QTri.met hkN hcal hR (Nat.le_of_ble_eq_true hlen) hret [] (Nat.le_refl _) (Nat.le_refl _) (Nat.le_refl _) (Nat.le_refl _)) hZ c1 c2 f1 f2) q1 q3 (g := mkF mid pc C (List.map (qv ad) (as.reverse ++ .ref a :: rest))) rfl hC (Steps.refl _) (argsL := as.map (qv ad)) (rest := rest.map (qv ad)) (sig_len hkN hna) (by simp [qv]) (by show 2 * 0 + _ ≤ _; rw [cats_qv]; omega) hd2 (fun _ _ => ⟨rfl, rfl, hc1, hsl⟩)
 dsimp only [Pt.U, Pt.locs, Pt.cells, Pt.slots] at X₁ l₁ y₁ z₁ st hR1
 subst l₁ y₁ z₁
 exact ⟨T₁, Lc, X₁, hR1, hF1, fun target q => st.trans q⟩
set_option maxHeartbeats 4000000 in
theorem QTri.callI (W : QW Z a0) {pc idx k a : Nat} {L : QLoc} {S as rest : List Value} {σ σ₁ : QHeap} (hc : pCode m pc = some (.invokespecial idx, k)) (hm : (lkV.contains (pK m, idx, k) && mI.contains k) = true) (hS : S = as.reverse ++ .ref a :: rest)
  (hna : as.length = pNA k) (hlen : Nat.ble (((Value.ref a :: as).map fun v => v.category).sum) (pMaxL k) = true) (hroom : (Nat.ble (pFr k + 1) (pFr m) && Nat.ble ((rest.map fun v => v.category).sum + (pMaxL k + 11) + pLo k) (pLo m)) = true)
  (hcal : QTri l Z n0 ad k (0, qentry (.ref a :: as) (pMaxL k), [], σ) none σ₁) (h : QTri l Z n0 ad m (pc + 3, L, rest, σ₁) v σ') : QTri l Z n0 ad m (pc, L, S, σ) v σ' := by
 have hd : decode (pBytes m) pc = .ok (.invokespecial idx, 3) := pDecN hc rfl
 subst hS
 obtain ⟨m1, m2⟩ := Bool.and_eq_true_iff.mp hm
 have m1 := mem_of_contains m1
 have m2 := mem_of_contains m2
 obtain ⟨hkA, -, hin, hrt⟩ := mIlt k m2
 have hkN := mAlt k hkA
 refine QTri.after (w := none) hcal h fun p e R s mid args below meth c T locs cells slots C hcx X hR hC hc1 hsl => ?_
 obtain ⟨hx, hZ, hby, hml, hret', hown, hnm, hfr, hlo⟩ := hcx
 have hd2 : decode c.code pc = .ok (.invokespecial idx, 3) := by rw [hby]; exact hd
 obtain ⟨f1, f2⟩ := QTri.room (σ := σ) (σ₁ := σ₁) hroom hfr hlo
 obtain ⟨c1, c2⟩ := (qw_cod W) k hkA
 have c1' := c1
 rw [hrt] at c1'
 obtain ⟨_, _, ⟨T₁, L₁, k₁, n₁⟩, -, X₁, ⟨Lc, ⟨rfl, hR1, hF1⟩, l₁, y₁, z₁⟩, st⟩ := X.specialBack hx (own := kName (pK m)) (index := idx) (y := pName k) hin hown (mvT hZ (qw_ml W (pK m, idx, k) m1)) (mvT hZ ((qw_ini W) k m2)) (mvT hZ c1') (pOwn _ (pKlt k hkN))
  (backOf (W := (rest.map fun v => v.category).sum) (rm := ⟨pFr k, σ₁.length - σ.length, qhs σ₁ - qhs σ, pLo k⟩) (Q := fun v h L => v = Option.map (qv ad) none ∧ QRep Z n0 ad h σ₁ ∧ Fr n0 L) (QTri.met hkN hcal hR (Nat.le_of_ble_eq_true hlen) (fun _ => rfl) [] (Nat.le_refl _) (Nat.le_refl _) (Nat.le_refl _) (Nat.le_refl _)) hZ c1 c2 f1 f2) (g := mkF mid pc C (List.map (qv ad) (as.reverse ++ .ref a :: rest))) rfl hC (Steps.refl _) (a := ad a) (argsL := as.map (qv ad)) (rest := rest.map (qv ad)) (sig_len hkN hna) (by simp [qv]) (by show 2 * 0 + _ ≤ _; rw [cats_qv]; omega) hd2 (fun _ _ => ⟨rfl, rfl, hc1, hsl⟩)
 dsimp only [Pt.U, Pt.locs, Pt.cells, Pt.slots] at X₁ l₁ y₁ z₁ st hR1
 subst l₁ y₁ z₁
 exact ⟨T₁, Lc, X₁, hR1, hF1, fun target q => st.trans q⟩
set_option maxHeartbeats 4000000 in
theorem QTri.callP (W : QW Z a0) {pc idx k a : Nat} {L : QLoc} {S as rest vs : List Value} {σ σ₁ : QHeap} {w : Option Value} (hc : pCode m pc = some (.invokevirtual idx, k)) (hm : (lkV.contains (pK m, idx, k) && mP.contains k) = true) (hcell : hget σ a = some (.inl vs)) (hS : S = as.reverse ++ .ref a :: rest)
  (hna : as.length = pNA k) (hlen : Nat.ble (((Value.ref a :: as).map fun v => v.category).sum) (pMaxL k) = true) (hroom : (Nat.ble (pFr k + 1) (pFr m) && Nat.ble ((rest.map fun v => v.category).sum + (pMaxL k + 11) + pLo k) (pLo m)) = true) (hrb : (w.isNone || (pRet k).isSome) = true)
  (hcal : QTri l Z n0 ad k (0, qentry (.ref a :: as) (pMaxL k), [], σ) w σ₁) (h : QTri l Z n0 ad m (pc + 3, L, w.toList ++ rest, σ₁) v σ') : QTri l Z n0 ad m (pc, L, S, σ) v σ' := by
 have hd : decode (pBytes m) pc = .ok (.invokevirtual idx, 3) := pDecN hc rfl
 subst hS
 obtain ⟨m1, m2⟩ := Bool.and_eq_true_iff.mp hm
 have m1 := mem_of_contains m1
 have m2 := mem_of_contains m2
 obtain ⟨hkA, hk1⟩ := mPlt k m2
 have hkN := mAlt k hkA
 have hret : pRet k = none → w = none := fun q => by
  rw [q] at hrb
  cases w with
  | none => rfl
  | some w => simp at hrb
 refine QTri.after hcal h fun p e R s mid args below meth c T locs cells slots C hcx X hR hC hc1 hsl => ?_
 obtain ⟨hx, hZ, hby, hml, hret', hown, hnm, hfr, hlo⟩ := hcx
 have hd2 : decode c.code pc = .ok (.invokevirtual idx, 3) := by rw [hby]; exact hd
 obtain ⟨f1, f2⟩ := QTri.room (σ := σ) (σ₁ := σ₁) hroom hfr hlo
 obtain ⟨cell, h1, h2⟩ := (hR.2.2 _ _ hcell).1.cell
 obtain ⟨w1, w2⟩ := (qw_pr W) k m2
 obtain ⟨c1, c2⟩ := (qw_cod W) k hkA
 have hpr : s.PrivateAt (pName k) := Cond.privateMethod_at (mvP hZ w2 (args := #[]))
 obtain ⟨cC, kC, i1, i2, i3, i4⟩ := Cond.instantiable_spec (args := #[]) (mvT hZ (qw_inst W))
 have hsel : (Cond.selects (pName k).cls (pName k) (pName k)).before args s = true := selects_self_of_private (c := cC) (k := kC) (by show s.vm.findClass (kName (pK k)) = _; rw [hk1]; exact i1) i2 (by have q := i4.1; cases hq : kC.isInterface with | false => rfl | true => rw [hq] at q; simp at q) hpr (mvT hZ w1) (pOwn _ (pKlt k hkN))
 obtain ⟨_, _, ⟨T₁, L₁, k₁, n₁⟩, -, X₁, ⟨Lc, ⟨rfl, hR1, hF1⟩, l₁, y₁, z₁⟩, st⟩ := X.privateBack hx (own := kName (pK m)) (index := idx) (y := pName k) hown (mvT hZ (qw_ml W (pK m, idx, k) m1)) (mvT hZ w1) hsel hpr (mvT hZ c1) (pOwn _ (pKlt k hkN))
  (backOf (W := (rest.map fun v => v.category).sum) (rm := ⟨pFr k, σ₁.length - σ.length, qhs σ₁ - qhs σ, pLo k⟩) (Q := fun v h L => v = Option.map (qv ad) w ∧ QRep Z n0 ad h σ₁ ∧ Fr n0 L) (QTri.met hkN hcal hR (Nat.le_of_ble_eq_true hlen) hret [] (Nat.le_refl _) (Nat.le_refl _) (Nat.le_refl _) (Nat.le_refl _)) hZ c1 c2 f1 f2) (g := mkF mid pc C (List.map (qv ad) (as.reverse ++ .ref a :: rest))) rfl hC (Steps.refl _) (a := ad a) h1 h2 (argsL := as.map (qv ad)) (rest := rest.map (qv ad)) (sig_len hkN hna) (by simp [qv]) (by show 2 * 0 + _ ≤ _; rw [cats_qv]; omega) hd2 (fun _ _ => ⟨rfl, rfl, hc1, hsl⟩)
 dsimp only [Pt.U, Pt.locs, Pt.cells, Pt.slots] at X₁ l₁ y₁ z₁ st hR1
 subst l₁ y₁ z₁
 exact ⟨T₁, Lc, X₁, hR1, hF1, fun target q => st.trans q⟩
set_option maxHeartbeats 4000000 in
theorem QTri.callS (W : QW Z a0) {pc idx k : Nat} {L : QLoc} {S as rest : List Value} {σ σ₁ : QHeap} {w : Option Value} (hc : pCode m pc = some (.invokestatic idx, k)) (hm : (lkV.contains (pK m, idx, k) && mS.contains k) = true) (hS : S = as.reverse ++ rest)
  (hna : as.length = pNA k) (hlen : Nat.ble ((as.map fun v => v.category).sum) (pMaxL k) = true) (hroom : (Nat.ble (pFr k + 1) (pFr m) && Nat.ble ((rest.map fun v => v.category).sum + (pMaxL k + 11) + pLo k) (pLo m)) = true) (hrb : (w.isNone || (pRet k).isSome) = true)
  (hcal : QTri l Z n0 ad k (0, qentry as (pMaxL k), [], σ) w σ₁) (h : QTri l Z n0 ad m (pc + 3, L, w.toList ++ rest, σ₁) v σ') : QTri l Z n0 ad m (pc, L, S, σ) v σ' := by
 have hd : decode (pBytes m) pc = .ok (.invokestatic idx, 3) := pDecN hc rfl
 subst hS
 obtain ⟨m1, m2⟩ := Bool.and_eq_true_iff.mp hm
 have m1 := mem_of_contains m1
 have m2 := mem_of_contains m2
 have hkA := mSlt k m2
 have hkN := mAlt k hkA
 have hret : pRet k = none → w = none := fun q => by
  rw [q] at hrb
  cases w with
  | none => rfl
  | some w => simp at hrb
 refine QTri.after hcal h fun p e R s mid args below meth c T locs cells slots C hcx X hR hC hc1 hsl => ?_
 obtain ⟨hx, hZ, hby, hml, hret', hown, hnm, hfr, hlo⟩ := hcx
 have hd2 : decode c.code pc = .ok (.invokestatic idx, 3) := by rw [hby]; exact hd
 obtain ⟨f1, f2⟩ := QTri.room (σ := σ) (σ₁ := σ₁) hroom hfr hlo
 obtain ⟨c1, c2⟩ := (qw_cod W) k hkA
 obtain ⟨_, _, ⟨T₁, L₁, k₁, n₁⟩, -, X₁, ⟨Lc, ⟨rfl, hR1, hF1⟩, l₁, y₁, z₁⟩, st⟩ := Jvm.LawKit.callS X hx (own := kName (pK m)) (index := idx) (y := pName k) hown (mvT hZ (qw_ml W (pK m, idx, k) m1)) (mvT hZ ((qw_st W) k m2)) (mvT hZ c2) (mvT hZ c1) (pOwn _ (pKlt k hkN))
  (backOf (W := (rest.map fun v => v.category).sum) (rm := ⟨pFr k, σ₁.length - σ.length, qhs σ₁ - qhs σ, pLo k⟩) (Q := fun v h L => v = Option.map (qv ad) w ∧ QRep Z n0 ad h σ₁ ∧ Fr n0 L) (QTri.met hkN hcal hR (Nat.le_of_ble_eq_true hlen) hret [] (Nat.le_refl _) (Nat.le_refl _) (Nat.le_refl _) (Nat.le_refl _)) hZ c1 c2 f1 f2) (g := mkF mid pc C (List.map (qv ad) (as.reverse ++ rest))) rfl hC (argsL := as.map (qv ad)) (rest := rest.map (qv ad)) (sig_len hkN hna) (by simp) (by show 2 * 0 + _ ≤ _; rw [cats_qv]; omega) hd2 (fun _ _ => ⟨rfl, rfl, hc1, hsl⟩)
 dsimp only [Pt.U, Pt.locs, Pt.cells, Pt.slots] at X₁ l₁ y₁ z₁ st hR1
 subst l₁ y₁ z₁
 exact ⟨T₁, Lc, X₁, hR1, hF1, fun target q => st target q⟩
set_option maxHeartbeats 4000000 in
theorem QTri.callO (W : QW Z a0) {pc idx k a : Nat} {L : QLoc} {rest : List Value} {σ : QHeap} (hc : pCode m pc = some (.invokespecial idx, k)) (hm : lkO.contains (pK m, idx) = true) (hroom : (Nat.ble 1 (pFr m) && Nat.ble ((rest.map fun v => v.category).sum + 12) (pLo m)) = true)
  (h : QTri l Z n0 ad m (pc + 3, L, rest, σ) v σ') : QTri l Z n0 ad m (pc, L, .ref a :: rest, σ) v σ' :=
 have hd : decode (pBytes m) pc = .ok (.invokespecial idx, 3) := pDecN hc rfl
 QTri.pure h rfl fun p e R s mid args below meth c T locs cells slots C hcx X hR hL hC => by
  obtain ⟨hx, hZ, hby, hml, hret', hown, hnm, hfr, hlo⟩ := hcx
  have hd2 : decode c.code pc = .ok (.invokespecial idx, 3) := by rw [hby]; exact hd
  obtain ⟨q1, q2⟩ := Bool.and_eq_true_iff.mp hroom
  obtain ⟨T₁, X₁, e₁, st⟩ := initO X hx hZ hown (idx := idx) (qw_mo W (pK m, idx) (mem_of_contains hm)) ((qw_oi W)) ((qw_oc W)) rfl (g := mkF mid pc C (List.map (qv ad) (.ref a :: rest))) rfl hC rfl hd2 (Nat.le_trans (Nat.le_of_ble_eq_true q1) hfr) (W := (rest.map fun v => v.category).sum) (by show 2 * 0 + _ ≤ _; rw [cats_qv]; omega) (Nat.le_trans (Nat.le_of_ble_eq_true q2) hlo)
  exact ⟨T₁, C, X₁, e₁, hL, hC, st⟩
theorem QTri.brT (Ad : QAd n0 ad) (W : QW Z a0) {st : QSt} {t f : Nat} {L : QLoc} {S : List Value} {σ : QHeap} {b : Bool} (hs : qstep m st = some (bif b then t else f, L, S, σ)) (hb : b = true) (h : QTri l Z n0 ad m (t, L, S, σ) v σ') : QTri l Z n0 ad m st v σ' := by
 subst hb; exact QTri.step Ad W h hs
theorem QTri.brF (Ad : QAd n0 ad) (W : QW Z a0) {st : QSt} {t f : Nat} {L : QLoc} {S : List Value} {σ : QHeap} {b : Bool} (hs : qstep m st = some (bif b then t else f, L, S, σ)) (hb : b = false) (h : QTri l Z n0 ad m (f, L, S, σ) v σ') : QTri l Z n0 ad m st v σ' := by
 subst hb; exact QTri.step Ad W h hs
theorem QTri.bnd {α : Type} (Ad : QAd n0 ad) (W : QW Z a0) {st : QSt} {x : Option α} {f : α → QSt} {a : α} (hs : qstep m st = x.bind fun v => some (f v)) (hx : x = some a) (h : QTri l Z n0 ad m (f a) v σ') : QTri l Z n0 ad m st v σ' :=
 QTri.step Ad W h (by rw [hs, hx]; rfl)
theorem QTri.bndB (Ad : QAd n0 ad) (W : QW Z a0) {st : QSt} {x y : Int32} {g : Value → QSt} (hs : qstep m st = ((qboo x).bind fun y => some (Value.int y)).bind fun w => some (g w)) (hx : qboo x = some y) (h : QTri l Z n0 ad m (g (.int y)) v σ') : QTri l Z n0 ad m st v σ' :=
 QTri.step Ad W h (by rw [hs, hx]; rfl)
end Triples
theorem qite {α : Type} {c : Prop} [Decidable c] {a b : Option α} {r : α} (h : (if c then a else b) = some r) : (c ∧ a = some r) ∨ (¬ c ∧ b = some r) := by
 by_cases hc : c
 ·exact Or.inl ⟨hc, by rwa [if_pos hc] at h⟩
 ·exact Or.inr ⟨hc, by rwa [if_neg hc] at h⟩
def qN : Nat := 4000
def loopN {V E : Type} (B : V → Option (E ⊕ V)) : Nat → V → Option E
 | 0, _ => none
 | n + 1, v => match B v with
  | none => none
  | some (.inl e) => some e
  | some (.inr v') => loopN B n v'
theorem loopN_tri {V E : Type} {B : V → Option (E ⊕ V)} {T : V → Prop} {KE : E → Prop} (hB : ∀ v r, B v = some r → (∀ e, r = .inl e → KE e) → (∀ v', r = .inr v' → T v') → T v) : ∀ (n : Nat) (v : V) (e : E), loopN B n v = some e → KE e → T v
 | 0, _, _, h, _ => by cases h
 | n + 1, v, e, h, k => by
  simp only [loopN] at h
  split at h
  ·cases h
  ·rename_i e' he
   cases h
   exact hB v _ he (fun e q => by cases q; exact k) (fun v' q => by cases q)
  ·rename_i v' he
   exact hB v _ he (fun e q => by cases q) (fun v'' q => by cases q; exact loopN_tri hB n v' e h k)
theorem loopN_inv {V E : Type} {B : V → Option (E ⊕ V)} (I : V → Prop) (P : E → Prop) (μ : V → Nat) (hB : ∀ v, I v → (∃ e, B v = some (.inl e) ∧ P e) ∨ ∃ v', B v = some (.inr v') ∧ I v' ∧ μ v' < μ v) : ∀ (n : Nat) (v : V), I v → μ v < n → ∃ e, loopN B n v = some e ∧ P e
 | 0, _, _, h => absurd h (Nat.not_lt_zero _)
 | n + 1, v, hv, hm => by
  rcases hB v hv with ⟨e, h1, h2⟩ | ⟨v', h1, h2, h3⟩
  ·exact ⟨e, by simp only [loopN, h1], h2⟩
  ·obtain ⟨e, g1, g2⟩ := loopN_inv I P μ hB n v' h2 (by omega)
   exact ⟨e, by simp only [loopN, h1]; exact g1, g2⟩
theorem qfn {α : Type} {P : α → Prop} : ∀ t ∈ ([] : List α), P t := fun _ h => nomatch h
theorem qfc {α : Type} {P : α → Prop} {a : α} {t : List α} (h : P a) (ht : ∀ x ∈ t, P x) : ∀ x ∈ a :: t, P x := fun x hx => by rcases List.mem_cons.mp hx with rfl | q; exact h; exact ht x q
theorem QW_ok {Z : State} {a0 : Array Value} (hw : ∀ d ∈ tables_1, d.before a0 Z = true) : QW Z a0 := by
  have w0 : ∀ k ∈ List.range nF, bif fFin k then (Jvm.Cond.laysFinal cName cName (fNm k) (fDs k)).before a0 Z = true else (Jvm.Cond.lays cName cName (fNm k) (fDs k)).before a0 Z = true :=
    show ∀ k ∈ [0, 1, 2, 3, 4, 5, 6, 7, 8, 9, 10, 11, 12, 13, 14, 15, 16, 17, 18, 19, 20, 21, 22, 23, 24, 25, 26], bif fFin k then (Jvm.Cond.laysFinal cName cName (fNm k) (fDs k)).before a0 Z = true else (Jvm.Cond.lays cName cName (fNm k) (fDs k)).before a0 Z = true from
    (qfc (hw _ (List.mem_of_getElem? (i := 11) rfl)) (qfc (hw _ (List.mem_of_getElem? (i := 13) rfl)) (qfc (hw _ (List.mem_of_getElem? (i := 15) rfl)) (qfc (hw _ (List.mem_of_getElem? (i := 17) rfl)) (qfc (hw _ (List.mem_of_getElem? (i := 20) rfl)) (qfc (hw _ (List.mem_of_getElem? (i := 23) rfl)) (qfc (hw _ (List.mem_of_getElem? (i := 25) rfl)) (qfc (hw _ (List.mem_of_getElem? (i := 27) rfl)) (qfc (hw _ (List.mem_of_getElem? (i := 29) rfl)) (qfc (hw _ (List.mem_of_getElem? (i := 31) rfl)) (qfc (hw _ (List.mem_of_getElem? (i := 37) rfl)) (qfc (hw _ (List.mem_of_getElem? (i := 39) rfl)) (qfc (hw _ (List.mem_of_getElem? (i := 41) rfl)) (qfc (hw _ (List.mem_of_getElem? (i := 43) rfl)) (qfc (hw _ (List.mem_of_getElem? (i := 45) rfl)) (qfc (hw _ (List.mem_of_getElem? (i := 47) rfl)) (qfc (hw _ (List.mem_of_getElem? (i := 49) rfl)) (qfc (hw _ (List.mem_of_getElem? (i := 51) rfl)) (qfc (hw _ (List.mem_of_getElem? (i := 53) rfl)) (qfc (hw _ (List.mem_of_getElem? (i := 55) rfl)) (qfc (hw _ (List.mem_of_getElem? (i := 141) rfl)) (qfc (hw _ (List.mem_of_getElem? (i := 143) rfl)) (qfc (hw _ (List.mem_of_getElem? (i := 149) rfl)) (qfc (hw _ (List.mem_of_getElem? (i := 151) rfl)) (qfc (hw _ (List.mem_of_getElem? (i := 153) rfl)) (qfc (hw _ (List.mem_of_getElem? (i := 155) rfl)) (qfc (hw _ (List.mem_of_getElem? (i := 157) rfl)) qfn)))))))))))))))))))))))))))
  refine ⟨?_, ?_, ?_, ?_, ?_, ?_, ?_, ?_, ?_, ?_, ?_, ?_, ?_, (fun k hk => w0 k (List.mem_range.mpr hk)), ?_, ?_, ?_⟩
  · exact (qfc (hw _ (List.mem_of_getElem? (i := 10) rfl)) (qfc (hw _ (List.mem_of_getElem? (i := 12) rfl)) (qfc (hw _ (List.mem_of_getElem? (i := 14) rfl)) (qfc (hw _ (List.mem_of_getElem? (i := 16) rfl)) (qfc (hw _ (List.mem_of_getElem? (i := 19) rfl)) (qfc (hw _ (List.mem_of_getElem? (i := 22) rfl)) (qfc (hw _ (List.mem_of_getElem? (i := 24) rfl)) (qfc (hw _ (List.mem_of_getElem? (i := 26) rfl)) (qfc (hw _ (List.mem_of_getElem? (i := 28) rfl)) (qfc (hw _ (List.mem_of_getElem? (i := 30) rfl)) (qfc (hw _ (List.mem_of_getElem? (i := 36) rfl)) (qfc (hw _ (List.mem_of_getElem? (i := 38) rfl)) (qfc (hw _ (List.mem_of_getElem? (i := 40) rfl)) (qfc (hw _ (List.mem_of_getElem? (i := 42) rfl)) (qfc (hw _ (List.mem_of_getElem? (i := 44) rfl)) (qfc (hw _ (List.mem_of_getElem? (i := 46) rfl)) (qfc (hw _ (List.mem_of_getElem? (i := 48) rfl)) (qfc (hw _ (List.mem_of_getElem? (i := 50) rfl)) (qfc (hw _ (List.mem_of_getElem? (i := 52) rfl)) (qfc (hw _ (List.mem_of_getElem? (i := 54) rfl)) (qfc (hw _ (List.mem_of_getElem? (i := 140) rfl)) (qfc (hw _ (List.mem_of_getElem? (i := 142) rfl)) (qfc (hw _ (List.mem_of_getElem? (i := 148) rfl)) (qfc (hw _ (List.mem_of_getElem? (i := 150) rfl)) (qfc (hw _ (List.mem_of_getElem? (i := 152) rfl)) (qfc (hw _ (List.mem_of_getElem? (i := 154) rfl)) (qfc (hw _ (List.mem_of_getElem? (i := 156) rfl)) qfn)))))))))))))))))))))))))))
  · exact (qfc (hw _ (List.mem_of_getElem? (i := 0) rfl)) qfn)
  · exact qfn
  · exact qfn
  · exact (qfc (hw _ (List.mem_of_getElem? (i := 3) rfl)) (qfc (hw _ (List.mem_of_getElem? (i := 32) rfl)) (qfc (hw _ (List.mem_of_getElem? (i := 56) rfl)) (qfc (hw _ (List.mem_of_getElem? (i := 61) rfl)) (qfc (hw _ (List.mem_of_getElem? (i := 66) rfl)) (qfc (hw _ (List.mem_of_getElem? (i := 71) rfl)) (qfc (hw _ (List.mem_of_getElem? (i := 75) rfl)) (qfc (hw _ (List.mem_of_getElem? (i := 80) rfl)) (qfc (hw _ (List.mem_of_getElem? (i := 85) rfl)) (qfc (hw _ (List.mem_of_getElem? (i := 90) rfl)) (qfc (hw _ (List.mem_of_getElem? (i := 95) rfl)) (qfc (hw _ (List.mem_of_getElem? (i := 100) rfl)) (qfc (hw _ (List.mem_of_getElem? (i := 105) rfl)) (qfc (hw _ (List.mem_of_getElem? (i := 110) rfl)) (qfc (hw _ (List.mem_of_getElem? (i := 114) rfl)) (qfc (hw _ (List.mem_of_getElem? (i := 119) rfl)) (qfc (hw _ (List.mem_of_getElem? (i := 124) rfl)) (qfc (hw _ (List.mem_of_getElem? (i := 128) rfl)) (qfc (hw _ (List.mem_of_getElem? (i := 132) rfl)) (qfc (hw _ (List.mem_of_getElem? (i := 136) rfl)) (qfc (hw _ (List.mem_of_getElem? (i := 144) rfl)) (qfc (hw _ (List.mem_of_getElem? (i := 158) rfl)) (qfc (hw _ (List.mem_of_getElem? (i := 162) rfl)) (qfc (hw _ (List.mem_of_getElem? (i := 166) rfl)) (qfc (hw _ (List.mem_of_getElem? (i := 170) rfl)) (qfc (hw _ (List.mem_of_getElem? (i := 174) rfl)) (qfc (hw _ (List.mem_of_getElem? (i := 178) rfl)) (qfc (hw _ (List.mem_of_getElem? (i := 182) rfl)) (qfc (hw _ (List.mem_of_getElem? (i := 186) rfl)) (qfc (hw _ (List.mem_of_getElem? (i := 191) rfl)) (qfc (hw _ (List.mem_of_getElem? (i := 196) rfl)) (qfc (hw _ (List.mem_of_getElem? (i := 201) rfl)) (qfc (hw _ (List.mem_of_getElem? (i := 205) rfl)) (qfc (hw _ (List.mem_of_getElem? (i := 209) rfl)) (qfc (hw _ (List.mem_of_getElem? (i := 213) rfl)) (qfc (hw _ (List.mem_of_getElem? (i := 217) rfl)) (qfc (hw _ (List.mem_of_getElem? (i := 221) rfl)) qfn)))))))))))))))))))))))))))))))))))))
  · exact (qfc (hw _ (List.mem_of_getElem? (i := 6) rfl)) qfn)
  · exact (qfc ⟨(hw _ (List.mem_of_getElem? (i := 57) rfl)), (hw _ (List.mem_of_getElem? (i := 59) rfl)), (hw _ (List.mem_of_getElem? (i := 58) rfl))⟩ (qfc ⟨(hw _ (List.mem_of_getElem? (i := 62) rfl)), (hw _ (List.mem_of_getElem? (i := 64) rfl)), (hw _ (List.mem_of_getElem? (i := 63) rfl))⟩ (qfc ⟨(hw _ (List.mem_of_getElem? (i := 67) rfl)), (hw _ (List.mem_of_getElem? (i := 69) rfl)), (hw _ (List.mem_of_getElem? (i := 68) rfl))⟩ (qfc ⟨(hw _ (List.mem_of_getElem? (i := 76) rfl)), (hw _ (List.mem_of_getElem? (i := 78) rfl)), (hw _ (List.mem_of_getElem? (i := 77) rfl))⟩ (qfc ⟨(hw _ (List.mem_of_getElem? (i := 81) rfl)), (hw _ (List.mem_of_getElem? (i := 83) rfl)), (hw _ (List.mem_of_getElem? (i := 82) rfl))⟩ (qfc ⟨(hw _ (List.mem_of_getElem? (i := 86) rfl)), (hw _ (List.mem_of_getElem? (i := 88) rfl)), (hw _ (List.mem_of_getElem? (i := 87) rfl))⟩ (qfc ⟨(hw _ (List.mem_of_getElem? (i := 91) rfl)), (hw _ (List.mem_of_getElem? (i := 93) rfl)), (hw _ (List.mem_of_getElem? (i := 92) rfl))⟩ (qfc ⟨(hw _ (List.mem_of_getElem? (i := 96) rfl)), (hw _ (List.mem_of_getElem? (i := 98) rfl)), (hw _ (List.mem_of_getElem? (i := 97) rfl))⟩ (qfc ⟨(hw _ (List.mem_of_getElem? (i := 101) rfl)), (hw _ (List.mem_of_getElem? (i := 103) rfl)), (hw _ (List.mem_of_getElem? (i := 102) rfl))⟩ (qfc ⟨(hw _ (List.mem_of_getElem? (i := 106) rfl)), (hw _ (List.mem_of_getElem? (i := 108) rfl)), (hw _ (List.mem_of_getElem? (i := 107) rfl))⟩ (qfc ⟨(hw _ (List.mem_of_getElem? (i := 115) rfl)), (hw _ (List.mem_of_getElem? (i := 117) rfl)), (hw _ (List.mem_of_getElem? (i := 116) rfl))⟩ (qfc ⟨(hw _ (List.mem_of_getElem? (i := 120) rfl)), (hw _ (List.mem_of_getElem? (i := 122) rfl)), (hw _ (List.mem_of_getElem? (i := 121) rfl))⟩ (qfc ⟨(hw _ (List.mem_of_getElem? (i := 187) rfl)), (hw _ (List.mem_of_getElem? (i := 189) rfl)), (hw _ (List.mem_of_getElem? (i := 188) rfl))⟩ (qfc ⟨(hw _ (List.mem_of_getElem? (i := 192) rfl)), (hw _ (List.mem_of_getElem? (i := 194) rfl)), (hw _ (List.mem_of_getElem? (i := 193) rfl))⟩ (qfc ⟨(hw _ (List.mem_of_getElem? (i := 197) rfl)), (hw _ (List.mem_of_getElem? (i := 199) rfl)), (hw _ (List.mem_of_getElem? (i := 198) rfl))⟩ qfn)))))))))))))))
  · exact (qfc ⟨(hw _ (List.mem_of_getElem? (i := 33) rfl)), (hw _ (List.mem_of_getElem? (i := 34) rfl))⟩ (qfc ⟨(hw _ (List.mem_of_getElem? (i := 111) rfl)), (hw _ (List.mem_of_getElem? (i := 112) rfl))⟩ (qfc ⟨(hw _ (List.mem_of_getElem? (i := 125) rfl)), (hw _ (List.mem_of_getElem? (i := 126) rfl))⟩ (qfc ⟨(hw _ (List.mem_of_getElem? (i := 129) rfl)), (hw _ (List.mem_of_getElem? (i := 130) rfl))⟩ (qfc ⟨(hw _ (List.mem_of_getElem? (i := 133) rfl)), (hw _ (List.mem_of_getElem? (i := 134) rfl))⟩ (qfc ⟨(hw _ (List.mem_of_getElem? (i := 137) rfl)), (hw _ (List.mem_of_getElem? (i := 138) rfl))⟩ (qfc ⟨(hw _ (List.mem_of_getElem? (i := 145) rfl)), (hw _ (List.mem_of_getElem? (i := 146) rfl))⟩ (qfc ⟨(hw _ (List.mem_of_getElem? (i := 159) rfl)), (hw _ (List.mem_of_getElem? (i := 160) rfl))⟩ (qfc ⟨(hw _ (List.mem_of_getElem? (i := 163) rfl)), (hw _ (List.mem_of_getElem? (i := 164) rfl))⟩ (qfc ⟨(hw _ (List.mem_of_getElem? (i := 167) rfl)), (hw _ (List.mem_of_getElem? (i := 168) rfl))⟩ (qfc ⟨(hw _ (List.mem_of_getElem? (i := 171) rfl)), (hw _ (List.mem_of_getElem? (i := 172) rfl))⟩ (qfc ⟨(hw _ (List.mem_of_getElem? (i := 175) rfl)), (hw _ (List.mem_of_getElem? (i := 176) rfl))⟩ (qfc ⟨(hw _ (List.mem_of_getElem? (i := 179) rfl)), (hw _ (List.mem_of_getElem? (i := 180) rfl))⟩ (qfc ⟨(hw _ (List.mem_of_getElem? (i := 183) rfl)), (hw _ (List.mem_of_getElem? (i := 184) rfl))⟩ (qfc ⟨(hw _ (List.mem_of_getElem? (i := 202) rfl)), (hw _ (List.mem_of_getElem? (i := 203) rfl))⟩ (qfc ⟨(hw _ (List.mem_of_getElem? (i := 206) rfl)), (hw _ (List.mem_of_getElem? (i := 207) rfl))⟩ (qfc ⟨(hw _ (List.mem_of_getElem? (i := 210) rfl)), (hw _ (List.mem_of_getElem? (i := 211) rfl))⟩ (qfc ⟨(hw _ (List.mem_of_getElem? (i := 214) rfl)), (hw _ (List.mem_of_getElem? (i := 215) rfl))⟩ (qfc ⟨(hw _ (List.mem_of_getElem? (i := 218) rfl)), (hw _ (List.mem_of_getElem? (i := 219) rfl))⟩ (qfc ⟨(hw _ (List.mem_of_getElem? (i := 222) rfl)), (hw _ (List.mem_of_getElem? (i := 223) rfl))⟩ qfn))))))))))))))))))))
  · exact (qfc (hw _ (List.mem_of_getElem? (i := 72) rfl)) qfn)
  · exact (qfc (hw _ (List.mem_of_getElem? (i := 4) rfl)) qfn)
  · exact (qfc ⟨(hw _ (List.mem_of_getElem? (i := 5) rfl)), (hw _ (List.mem_of_getElem? (i := 2) rfl))⟩ (qfc ⟨(hw _ (List.mem_of_getElem? (i := 35) rfl)), (hw _ (List.mem_of_getElem? (i := 2) rfl))⟩ (qfc ⟨(hw _ (List.mem_of_getElem? (i := 60) rfl)), (hw _ (List.mem_of_getElem? (i := 2) rfl))⟩ (qfc ⟨(hw _ (List.mem_of_getElem? (i := 65) rfl)), (hw _ (List.mem_of_getElem? (i := 2) rfl))⟩ (qfc ⟨(hw _ (List.mem_of_getElem? (i := 70) rfl)), (hw _ (List.mem_of_getElem? (i := 2) rfl))⟩ (qfc ⟨(hw _ (List.mem_of_getElem? (i := 74) rfl)), (hw _ (List.mem_of_getElem? (i := 73) rfl))⟩ (qfc ⟨(hw _ (List.mem_of_getElem? (i := 79) rfl)), (hw _ (List.mem_of_getElem? (i := 2) rfl))⟩ (qfc ⟨(hw _ (List.mem_of_getElem? (i := 84) rfl)), (hw _ (List.mem_of_getElem? (i := 2) rfl))⟩ (qfc ⟨(hw _ (List.mem_of_getElem? (i := 89) rfl)), (hw _ (List.mem_of_getElem? (i := 2) rfl))⟩ (qfc ⟨(hw _ (List.mem_of_getElem? (i := 94) rfl)), (hw _ (List.mem_of_getElem? (i := 2) rfl))⟩ (qfc ⟨(hw _ (List.mem_of_getElem? (i := 99) rfl)), (hw _ (List.mem_of_getElem? (i := 2) rfl))⟩ (qfc ⟨(hw _ (List.mem_of_getElem? (i := 104) rfl)), (hw _ (List.mem_of_getElem? (i := 2) rfl))⟩ (qfc ⟨(hw _ (List.mem_of_getElem? (i := 109) rfl)), (hw _ (List.mem_of_getElem? (i := 2) rfl))⟩ (qfc ⟨(hw _ (List.mem_of_getElem? (i := 113) rfl)), (hw _ (List.mem_of_getElem? (i := 2) rfl))⟩ (qfc ⟨(hw _ (List.mem_of_getElem? (i := 118) rfl)), (hw _ (List.mem_of_getElem? (i := 2) rfl))⟩ (qfc ⟨(hw _ (List.mem_of_getElem? (i := 123) rfl)), (hw _ (List.mem_of_getElem? (i := 2) rfl))⟩ (qfc ⟨(hw _ (List.mem_of_getElem? (i := 127) rfl)), (hw _ (List.mem_of_getElem? (i := 2) rfl))⟩ (qfc ⟨(hw _ (List.mem_of_getElem? (i := 131) rfl)), (hw _ (List.mem_of_getElem? (i := 2) rfl))⟩ (qfc ⟨(hw _ (List.mem_of_getElem? (i := 135) rfl)), (hw _ (List.mem_of_getElem? (i := 2) rfl))⟩ (qfc ⟨(hw _ (List.mem_of_getElem? (i := 139) rfl)), (hw _ (List.mem_of_getElem? (i := 2) rfl))⟩ (qfc ⟨(hw _ (List.mem_of_getElem? (i := 147) rfl)), (hw _ (List.mem_of_getElem? (i := 2) rfl))⟩ (qfc ⟨(hw _ (List.mem_of_getElem? (i := 161) rfl)), (hw _ (List.mem_of_getElem? (i := 2) rfl))⟩ (qfc ⟨(hw _ (List.mem_of_getElem? (i := 165) rfl)), (hw _ (List.mem_of_getElem? (i := 2) rfl))⟩ (qfc ⟨(hw _ (List.mem_of_getElem? (i := 169) rfl)), (hw _ (List.mem_of_getElem? (i := 2) rfl))⟩ (qfc ⟨(hw _ (List.mem_of_getElem? (i := 173) rfl)), (hw _ (List.mem_of_getElem? (i := 2) rfl))⟩ (qfc ⟨(hw _ (List.mem_of_getElem? (i := 177) rfl)), (hw _ (List.mem_of_getElem? (i := 2) rfl))⟩ (qfc ⟨(hw _ (List.mem_of_getElem? (i := 181) rfl)), (hw _ (List.mem_of_getElem? (i := 2) rfl))⟩ (qfc ⟨(hw _ (List.mem_of_getElem? (i := 185) rfl)), (hw _ (List.mem_of_getElem? (i := 2) rfl))⟩ (qfc ⟨(hw _ (List.mem_of_getElem? (i := 190) rfl)), (hw _ (List.mem_of_getElem? (i := 2) rfl))⟩ (qfc ⟨(hw _ (List.mem_of_getElem? (i := 195) rfl)), (hw _ (List.mem_of_getElem? (i := 2) rfl))⟩ (qfc ⟨(hw _ (List.mem_of_getElem? (i := 200) rfl)), (hw _ (List.mem_of_getElem? (i := 2) rfl))⟩ (qfc ⟨(hw _ (List.mem_of_getElem? (i := 204) rfl)), (hw _ (List.mem_of_getElem? (i := 2) rfl))⟩ (qfc ⟨(hw _ (List.mem_of_getElem? (i := 208) rfl)), (hw _ (List.mem_of_getElem? (i := 2) rfl))⟩ (qfc ⟨(hw _ (List.mem_of_getElem? (i := 212) rfl)), (hw _ (List.mem_of_getElem? (i := 2) rfl))⟩ (qfc ⟨(hw _ (List.mem_of_getElem? (i := 216) rfl)), (hw _ (List.mem_of_getElem? (i := 2) rfl))⟩ (qfc ⟨(hw _ (List.mem_of_getElem? (i := 220) rfl)), (hw _ (List.mem_of_getElem? (i := 2) rfl))⟩ (qfc ⟨(hw _ (List.mem_of_getElem? (i := 224) rfl)), (hw _ (List.mem_of_getElem? (i := 2) rfl))⟩ qfn)))))))))))))))))))))))))))))))))))))
  · exact (hw _ (List.mem_of_getElem? (i := 7) rfl))
  · exact (hw _ (List.mem_of_getElem? (i := 8) rfl))
  · exact (hw _ (List.mem_of_getElem? (i := 1) rfl))
  · exact (hw _ (List.mem_of_getElem? (i := 2) rfl))
  · exact (qfc (hw _ (List.mem_of_getElem? (i := 9) rfl)) (qfc (hw _ (List.mem_of_getElem? (i := 18) rfl)) (qfc (hw _ (List.mem_of_getElem? (i := 21) rfl)) qfn)))
abbrev Ob := List Int32 × List Int32 × List Int32 × List Int32 × List Int64 × List Int32 × List Int32 × List Int32 × Int32 × Int32 × Int32 × Int32 × Int32 × Int32 × Int32 × Int32 × Int32 × Int32 × Int32 × Int32 × Int32 × Int32 × Int64 × Int32 × Int32 × Int32 × Int32
def f_part (o : Ob) : List Int32 := o.1
def f_keys (o : Ob) : List Int32 := o.2.1
def f_vals (o : Ob) : List Int32 := o.2.2.1
def f_flg (o : Ob) : List Int32 := o.2.2.2.1
def f_res (o : Ob) : List Int64 := o.2.2.2.2.1
def f_resNull (o : Ob) : List Int32 := o.2.2.2.2.2.1
def f_frameCnt (o : Ob) : List Int32 := o.2.2.2.2.2.2.1
def f_sorted (o : Ob) : List Int32 := o.2.2.2.2.2.2.2.1
def f_cap (o : Ob) : Int32 := o.2.2.2.2.2.2.2.2.1
def f_rows (o : Ob) : Int32 := o.2.2.2.2.2.2.2.2.2.1
def f_direction (o : Ob) : Int32 := o.2.2.2.2.2.2.2.2.2.2.1
def f_nulls (o : Ob) : Int32 := o.2.2.2.2.2.2.2.2.2.2.2.1
def f_mode (o : Ob) : Int32 := o.2.2.2.2.2.2.2.2.2.2.2.2.1
def f_startKind (o : Ob) : Int32 := o.2.2.2.2.2.2.2.2.2.2.2.2.2.1
def f_startOff (o : Ob) : Int32 := o.2.2.2.2.2.2.2.2.2.2.2.2.2.2.1
def f_endKind (o : Ob) : Int32 := o.2.2.2.2.2.2.2.2.2.2.2.2.2.2.2.1
def f_endOff (o : Ob) : Int32 := o.2.2.2.2.2.2.2.2.2.2.2.2.2.2.2.2.1
def f_fn (o : Ob) : Int32 := o.2.2.2.2.2.2.2.2.2.2.2.2.2.2.2.2.2.1
def f_fnArg (o : Ob) : Int32 := o.2.2.2.2.2.2.2.2.2.2.2.2.2.2.2.2.2.2.1
def f_computed (o : Ob) : Int32 := o.2.2.2.2.2.2.2.2.2.2.2.2.2.2.2.2.2.2.2.1
def f_sortedLen (o : Ob) : Int32 := o.2.2.2.2.2.2.2.2.2.2.2.2.2.2.2.2.2.2.2.2.1
def f_curPos (o : Ob) : Int32 := o.2.2.2.2.2.2.2.2.2.2.2.2.2.2.2.2.2.2.2.2.2.1
def f_aggSum (o : Ob) : Int64 := o.2.2.2.2.2.2.2.2.2.2.2.2.2.2.2.2.2.2.2.2.2.2.1
def f_aggCount (o : Ob) : Int32 := o.2.2.2.2.2.2.2.2.2.2.2.2.2.2.2.2.2.2.2.2.2.2.2.1
def f_aggRows (o : Ob) : Int32 := o.2.2.2.2.2.2.2.2.2.2.2.2.2.2.2.2.2.2.2.2.2.2.2.2.1
def f_aggMin (o : Ob) : Int32 := o.2.2.2.2.2.2.2.2.2.2.2.2.2.2.2.2.2.2.2.2.2.2.2.2.2.1
def f_aggMax (o : Ob) : Int32 := o.2.2.2.2.2.2.2.2.2.2.2.2.2.2.2.2.2.2.2.2.2.2.2.2.2.2
def s_part (o : Ob) (v : List Int32) : Ob := (v, o.2.1, o.2.2.1, o.2.2.2.1, o.2.2.2.2.1, o.2.2.2.2.2.1, o.2.2.2.2.2.2.1, o.2.2.2.2.2.2.2.1, o.2.2.2.2.2.2.2.2.1, o.2.2.2.2.2.2.2.2.2.1, o.2.2.2.2.2.2.2.2.2.2.1, o.2.2.2.2.2.2.2.2.2.2.2.1, o.2.2.2.2.2.2.2.2.2.2.2.2.1, o.2.2.2.2.2.2.2.2.2.2.2.2.2.1, o.2.2.2.2.2.2.2.2.2.2.2.2.2.2.1, o.2.2.2.2.2.2.2.2.2.2.2.2.2.2.2.1, o.2.2.2.2.2.2.2.2.2.2.2.2.2.2.2.2.1, o.2.2.2.2.2.2.2.2.2.2.2.2.2.2.2.2.2.1, o.2.2.2.2.2.2.2.2.2.2.2.2.2.2.2.2.2.2.1, o.2.2.2.2.2.2.2.2.2.2.2.2.2.2.2.2.2.2.2.1, o.2.2.2.2.2.2.2.2.2.2.2.2.2.2.2.2.2.2.2.2.1, o.2.2.2.2.2.2.2.2.2.2.2.2.2.2.2.2.2.2.2.2.2.1, o.2.2.2.2.2.2.2.2.2.2.2.2.2.2.2.2.2.2.2.2.2.2.1, o.2.2.2.2.2.2.2.2.2.2.2.2.2.2.2.2.2.2.2.2.2.2.2.1, o.2.2.2.2.2.2.2.2.2.2.2.2.2.2.2.2.2.2.2.2.2.2.2.2.1, o.2.2.2.2.2.2.2.2.2.2.2.2.2.2.2.2.2.2.2.2.2.2.2.2.2.1, o.2.2.2.2.2.2.2.2.2.2.2.2.2.2.2.2.2.2.2.2.2.2.2.2.2.2)
def s_keys (o : Ob) (v : List Int32) : Ob := (o.1, v, o.2.2.1, o.2.2.2.1, o.2.2.2.2.1, o.2.2.2.2.2.1, o.2.2.2.2.2.2.1, o.2.2.2.2.2.2.2.1, o.2.2.2.2.2.2.2.2.1, o.2.2.2.2.2.2.2.2.2.1, o.2.2.2.2.2.2.2.2.2.2.1, o.2.2.2.2.2.2.2.2.2.2.2.1, o.2.2.2.2.2.2.2.2.2.2.2.2.1, o.2.2.2.2.2.2.2.2.2.2.2.2.2.1, o.2.2.2.2.2.2.2.2.2.2.2.2.2.2.1, o.2.2.2.2.2.2.2.2.2.2.2.2.2.2.2.1, o.2.2.2.2.2.2.2.2.2.2.2.2.2.2.2.2.1, o.2.2.2.2.2.2.2.2.2.2.2.2.2.2.2.2.2.1, o.2.2.2.2.2.2.2.2.2.2.2.2.2.2.2.2.2.2.1, o.2.2.2.2.2.2.2.2.2.2.2.2.2.2.2.2.2.2.2.1, o.2.2.2.2.2.2.2.2.2.2.2.2.2.2.2.2.2.2.2.2.1, o.2.2.2.2.2.2.2.2.2.2.2.2.2.2.2.2.2.2.2.2.2.1, o.2.2.2.2.2.2.2.2.2.2.2.2.2.2.2.2.2.2.2.2.2.2.1, o.2.2.2.2.2.2.2.2.2.2.2.2.2.2.2.2.2.2.2.2.2.2.2.1, o.2.2.2.2.2.2.2.2.2.2.2.2.2.2.2.2.2.2.2.2.2.2.2.2.1, o.2.2.2.2.2.2.2.2.2.2.2.2.2.2.2.2.2.2.2.2.2.2.2.2.2.1, o.2.2.2.2.2.2.2.2.2.2.2.2.2.2.2.2.2.2.2.2.2.2.2.2.2.2)
def s_vals (o : Ob) (v : List Int32) : Ob := (o.1, o.2.1, v, o.2.2.2.1, o.2.2.2.2.1, o.2.2.2.2.2.1, o.2.2.2.2.2.2.1, o.2.2.2.2.2.2.2.1, o.2.2.2.2.2.2.2.2.1, o.2.2.2.2.2.2.2.2.2.1, o.2.2.2.2.2.2.2.2.2.2.1, o.2.2.2.2.2.2.2.2.2.2.2.1, o.2.2.2.2.2.2.2.2.2.2.2.2.1, o.2.2.2.2.2.2.2.2.2.2.2.2.2.1, o.2.2.2.2.2.2.2.2.2.2.2.2.2.2.1, o.2.2.2.2.2.2.2.2.2.2.2.2.2.2.2.1, o.2.2.2.2.2.2.2.2.2.2.2.2.2.2.2.2.1, o.2.2.2.2.2.2.2.2.2.2.2.2.2.2.2.2.2.1, o.2.2.2.2.2.2.2.2.2.2.2.2.2.2.2.2.2.2.1, o.2.2.2.2.2.2.2.2.2.2.2.2.2.2.2.2.2.2.2.1, o.2.2.2.2.2.2.2.2.2.2.2.2.2.2.2.2.2.2.2.2.1, o.2.2.2.2.2.2.2.2.2.2.2.2.2.2.2.2.2.2.2.2.2.1, o.2.2.2.2.2.2.2.2.2.2.2.2.2.2.2.2.2.2.2.2.2.2.1, o.2.2.2.2.2.2.2.2.2.2.2.2.2.2.2.2.2.2.2.2.2.2.2.1, o.2.2.2.2.2.2.2.2.2.2.2.2.2.2.2.2.2.2.2.2.2.2.2.2.1, o.2.2.2.2.2.2.2.2.2.2.2.2.2.2.2.2.2.2.2.2.2.2.2.2.2.1, o.2.2.2.2.2.2.2.2.2.2.2.2.2.2.2.2.2.2.2.2.2.2.2.2.2.2)
def s_flg (o : Ob) (v : List Int32) : Ob := (o.1, o.2.1, o.2.2.1, v, o.2.2.2.2.1, o.2.2.2.2.2.1, o.2.2.2.2.2.2.1, o.2.2.2.2.2.2.2.1, o.2.2.2.2.2.2.2.2.1, o.2.2.2.2.2.2.2.2.2.1, o.2.2.2.2.2.2.2.2.2.2.1, o.2.2.2.2.2.2.2.2.2.2.2.1, o.2.2.2.2.2.2.2.2.2.2.2.2.1, o.2.2.2.2.2.2.2.2.2.2.2.2.2.1, o.2.2.2.2.2.2.2.2.2.2.2.2.2.2.1, o.2.2.2.2.2.2.2.2.2.2.2.2.2.2.2.1, o.2.2.2.2.2.2.2.2.2.2.2.2.2.2.2.2.1, o.2.2.2.2.2.2.2.2.2.2.2.2.2.2.2.2.2.1, o.2.2.2.2.2.2.2.2.2.2.2.2.2.2.2.2.2.2.1, o.2.2.2.2.2.2.2.2.2.2.2.2.2.2.2.2.2.2.2.1, o.2.2.2.2.2.2.2.2.2.2.2.2.2.2.2.2.2.2.2.2.1, o.2.2.2.2.2.2.2.2.2.2.2.2.2.2.2.2.2.2.2.2.2.1, o.2.2.2.2.2.2.2.2.2.2.2.2.2.2.2.2.2.2.2.2.2.2.1, o.2.2.2.2.2.2.2.2.2.2.2.2.2.2.2.2.2.2.2.2.2.2.2.1, o.2.2.2.2.2.2.2.2.2.2.2.2.2.2.2.2.2.2.2.2.2.2.2.2.1, o.2.2.2.2.2.2.2.2.2.2.2.2.2.2.2.2.2.2.2.2.2.2.2.2.2.1, o.2.2.2.2.2.2.2.2.2.2.2.2.2.2.2.2.2.2.2.2.2.2.2.2.2.2)
def s_res (o : Ob) (v : List Int64) : Ob := (o.1, o.2.1, o.2.2.1, o.2.2.2.1, v, o.2.2.2.2.2.1, o.2.2.2.2.2.2.1, o.2.2.2.2.2.2.2.1, o.2.2.2.2.2.2.2.2.1, o.2.2.2.2.2.2.2.2.2.1, o.2.2.2.2.2.2.2.2.2.2.1, o.2.2.2.2.2.2.2.2.2.2.2.1, o.2.2.2.2.2.2.2.2.2.2.2.2.1, o.2.2.2.2.2.2.2.2.2.2.2.2.2.1, o.2.2.2.2.2.2.2.2.2.2.2.2.2.2.1, o.2.2.2.2.2.2.2.2.2.2.2.2.2.2.2.1, o.2.2.2.2.2.2.2.2.2.2.2.2.2.2.2.2.1, o.2.2.2.2.2.2.2.2.2.2.2.2.2.2.2.2.2.1, o.2.2.2.2.2.2.2.2.2.2.2.2.2.2.2.2.2.2.1, o.2.2.2.2.2.2.2.2.2.2.2.2.2.2.2.2.2.2.2.1, o.2.2.2.2.2.2.2.2.2.2.2.2.2.2.2.2.2.2.2.2.1, o.2.2.2.2.2.2.2.2.2.2.2.2.2.2.2.2.2.2.2.2.2.1, o.2.2.2.2.2.2.2.2.2.2.2.2.2.2.2.2.2.2.2.2.2.2.1, o.2.2.2.2.2.2.2.2.2.2.2.2.2.2.2.2.2.2.2.2.2.2.2.1, o.2.2.2.2.2.2.2.2.2.2.2.2.2.2.2.2.2.2.2.2.2.2.2.2.1, o.2.2.2.2.2.2.2.2.2.2.2.2.2.2.2.2.2.2.2.2.2.2.2.2.2.1, o.2.2.2.2.2.2.2.2.2.2.2.2.2.2.2.2.2.2.2.2.2.2.2.2.2.2)
def s_resNull (o : Ob) (v : List Int32) : Ob := (o.1, o.2.1, o.2.2.1, o.2.2.2.1, o.2.2.2.2.1, v, o.2.2.2.2.2.2.1, o.2.2.2.2.2.2.2.1, o.2.2.2.2.2.2.2.2.1, o.2.2.2.2.2.2.2.2.2.1, o.2.2.2.2.2.2.2.2.2.2.1, o.2.2.2.2.2.2.2.2.2.2.2.1, o.2.2.2.2.2.2.2.2.2.2.2.2.1, o.2.2.2.2.2.2.2.2.2.2.2.2.2.1, o.2.2.2.2.2.2.2.2.2.2.2.2.2.2.1, o.2.2.2.2.2.2.2.2.2.2.2.2.2.2.2.1, o.2.2.2.2.2.2.2.2.2.2.2.2.2.2.2.2.1, o.2.2.2.2.2.2.2.2.2.2.2.2.2.2.2.2.2.1, o.2.2.2.2.2.2.2.2.2.2.2.2.2.2.2.2.2.2.1, o.2.2.2.2.2.2.2.2.2.2.2.2.2.2.2.2.2.2.2.1, o.2.2.2.2.2.2.2.2.2.2.2.2.2.2.2.2.2.2.2.2.1, o.2.2.2.2.2.2.2.2.2.2.2.2.2.2.2.2.2.2.2.2.2.1, o.2.2.2.2.2.2.2.2.2.2.2.2.2.2.2.2.2.2.2.2.2.2.1, o.2.2.2.2.2.2.2.2.2.2.2.2.2.2.2.2.2.2.2.2.2.2.2.1, o.2.2.2.2.2.2.2.2.2.2.2.2.2.2.2.2.2.2.2.2.2.2.2.2.1, o.2.2.2.2.2.2.2.2.2.2.2.2.2.2.2.2.2.2.2.2.2.2.2.2.2.1, o.2.2.2.2.2.2.2.2.2.2.2.2.2.2.2.2.2.2.2.2.2.2.2.2.2.2)
def s_frameCnt (o : Ob) (v : List Int32) : Ob := (o.1, o.2.1, o.2.2.1, o.2.2.2.1, o.2.2.2.2.1, o.2.2.2.2.2.1, v, o.2.2.2.2.2.2.2.1, o.2.2.2.2.2.2.2.2.1, o.2.2.2.2.2.2.2.2.2.1, o.2.2.2.2.2.2.2.2.2.2.1, o.2.2.2.2.2.2.2.2.2.2.2.1, o.2.2.2.2.2.2.2.2.2.2.2.2.1, o.2.2.2.2.2.2.2.2.2.2.2.2.2.1, o.2.2.2.2.2.2.2.2.2.2.2.2.2.2.1, o.2.2.2.2.2.2.2.2.2.2.2.2.2.2.2.1, o.2.2.2.2.2.2.2.2.2.2.2.2.2.2.2.2.1, o.2.2.2.2.2.2.2.2.2.2.2.2.2.2.2.2.2.1, o.2.2.2.2.2.2.2.2.2.2.2.2.2.2.2.2.2.2.1, o.2.2.2.2.2.2.2.2.2.2.2.2.2.2.2.2.2.2.2.1, o.2.2.2.2.2.2.2.2.2.2.2.2.2.2.2.2.2.2.2.2.1, o.2.2.2.2.2.2.2.2.2.2.2.2.2.2.2.2.2.2.2.2.2.1, o.2.2.2.2.2.2.2.2.2.2.2.2.2.2.2.2.2.2.2.2.2.2.1, o.2.2.2.2.2.2.2.2.2.2.2.2.2.2.2.2.2.2.2.2.2.2.2.1, o.2.2.2.2.2.2.2.2.2.2.2.2.2.2.2.2.2.2.2.2.2.2.2.2.1, o.2.2.2.2.2.2.2.2.2.2.2.2.2.2.2.2.2.2.2.2.2.2.2.2.2.1, o.2.2.2.2.2.2.2.2.2.2.2.2.2.2.2.2.2.2.2.2.2.2.2.2.2.2)
def s_sorted (o : Ob) (v : List Int32) : Ob := (o.1, o.2.1, o.2.2.1, o.2.2.2.1, o.2.2.2.2.1, o.2.2.2.2.2.1, o.2.2.2.2.2.2.1, v, o.2.2.2.2.2.2.2.2.1, o.2.2.2.2.2.2.2.2.2.1, o.2.2.2.2.2.2.2.2.2.2.1, o.2.2.2.2.2.2.2.2.2.2.2.1, o.2.2.2.2.2.2.2.2.2.2.2.2.1, o.2.2.2.2.2.2.2.2.2.2.2.2.2.1, o.2.2.2.2.2.2.2.2.2.2.2.2.2.2.1, o.2.2.2.2.2.2.2.2.2.2.2.2.2.2.2.1, o.2.2.2.2.2.2.2.2.2.2.2.2.2.2.2.2.1, o.2.2.2.2.2.2.2.2.2.2.2.2.2.2.2.2.2.1, o.2.2.2.2.2.2.2.2.2.2.2.2.2.2.2.2.2.2.1, o.2.2.2.2.2.2.2.2.2.2.2.2.2.2.2.2.2.2.2.1, o.2.2.2.2.2.2.2.2.2.2.2.2.2.2.2.2.2.2.2.2.1, o.2.2.2.2.2.2.2.2.2.2.2.2.2.2.2.2.2.2.2.2.2.1, o.2.2.2.2.2.2.2.2.2.2.2.2.2.2.2.2.2.2.2.2.2.2.1, o.2.2.2.2.2.2.2.2.2.2.2.2.2.2.2.2.2.2.2.2.2.2.2.1, o.2.2.2.2.2.2.2.2.2.2.2.2.2.2.2.2.2.2.2.2.2.2.2.2.1, o.2.2.2.2.2.2.2.2.2.2.2.2.2.2.2.2.2.2.2.2.2.2.2.2.2.1, o.2.2.2.2.2.2.2.2.2.2.2.2.2.2.2.2.2.2.2.2.2.2.2.2.2.2)
def s_cap (o : Ob) (v : Int32) : Ob := (o.1, o.2.1, o.2.2.1, o.2.2.2.1, o.2.2.2.2.1, o.2.2.2.2.2.1, o.2.2.2.2.2.2.1, o.2.2.2.2.2.2.2.1, v, o.2.2.2.2.2.2.2.2.2.1, o.2.2.2.2.2.2.2.2.2.2.1, o.2.2.2.2.2.2.2.2.2.2.2.1, o.2.2.2.2.2.2.2.2.2.2.2.2.1, o.2.2.2.2.2.2.2.2.2.2.2.2.2.1, o.2.2.2.2.2.2.2.2.2.2.2.2.2.2.1, o.2.2.2.2.2.2.2.2.2.2.2.2.2.2.2.1, o.2.2.2.2.2.2.2.2.2.2.2.2.2.2.2.2.1, o.2.2.2.2.2.2.2.2.2.2.2.2.2.2.2.2.2.1, o.2.2.2.2.2.2.2.2.2.2.2.2.2.2.2.2.2.2.1, o.2.2.2.2.2.2.2.2.2.2.2.2.2.2.2.2.2.2.2.1, o.2.2.2.2.2.2.2.2.2.2.2.2.2.2.2.2.2.2.2.2.1, o.2.2.2.2.2.2.2.2.2.2.2.2.2.2.2.2.2.2.2.2.2.1, o.2.2.2.2.2.2.2.2.2.2.2.2.2.2.2.2.2.2.2.2.2.2.1, o.2.2.2.2.2.2.2.2.2.2.2.2.2.2.2.2.2.2.2.2.2.2.2.1, o.2.2.2.2.2.2.2.2.2.2.2.2.2.2.2.2.2.2.2.2.2.2.2.2.1, o.2.2.2.2.2.2.2.2.2.2.2.2.2.2.2.2.2.2.2.2.2.2.2.2.2.1, o.2.2.2.2.2.2.2.2.2.2.2.2.2.2.2.2.2.2.2.2.2.2.2.2.2.2)
def s_rows (o : Ob) (v : Int32) : Ob := (o.1, o.2.1, o.2.2.1, o.2.2.2.1, o.2.2.2.2.1, o.2.2.2.2.2.1, o.2.2.2.2.2.2.1, o.2.2.2.2.2.2.2.1, o.2.2.2.2.2.2.2.2.1, v, o.2.2.2.2.2.2.2.2.2.2.1, o.2.2.2.2.2.2.2.2.2.2.2.1, o.2.2.2.2.2.2.2.2.2.2.2.2.1, o.2.2.2.2.2.2.2.2.2.2.2.2.2.1, o.2.2.2.2.2.2.2.2.2.2.2.2.2.2.1, o.2.2.2.2.2.2.2.2.2.2.2.2.2.2.2.1, o.2.2.2.2.2.2.2.2.2.2.2.2.2.2.2.2.1, o.2.2.2.2.2.2.2.2.2.2.2.2.2.2.2.2.2.1, o.2.2.2.2.2.2.2.2.2.2.2.2.2.2.2.2.2.2.1, o.2.2.2.2.2.2.2.2.2.2.2.2.2.2.2.2.2.2.2.1, o.2.2.2.2.2.2.2.2.2.2.2.2.2.2.2.2.2.2.2.2.1, o.2.2.2.2.2.2.2.2.2.2.2.2.2.2.2.2.2.2.2.2.2.1, o.2.2.2.2.2.2.2.2.2.2.2.2.2.2.2.2.2.2.2.2.2.2.1, o.2.2.2.2.2.2.2.2.2.2.2.2.2.2.2.2.2.2.2.2.2.2.2.1, o.2.2.2.2.2.2.2.2.2.2.2.2.2.2.2.2.2.2.2.2.2.2.2.2.1, o.2.2.2.2.2.2.2.2.2.2.2.2.2.2.2.2.2.2.2.2.2.2.2.2.2.1, o.2.2.2.2.2.2.2.2.2.2.2.2.2.2.2.2.2.2.2.2.2.2.2.2.2.2)
def s_direction (o : Ob) (v : Int32) : Ob := (o.1, o.2.1, o.2.2.1, o.2.2.2.1, o.2.2.2.2.1, o.2.2.2.2.2.1, o.2.2.2.2.2.2.1, o.2.2.2.2.2.2.2.1, o.2.2.2.2.2.2.2.2.1, o.2.2.2.2.2.2.2.2.2.1, v, o.2.2.2.2.2.2.2.2.2.2.2.1, o.2.2.2.2.2.2.2.2.2.2.2.2.1, o.2.2.2.2.2.2.2.2.2.2.2.2.2.1, o.2.2.2.2.2.2.2.2.2.2.2.2.2.2.1, o.2.2.2.2.2.2.2.2.2.2.2.2.2.2.2.1, o.2.2.2.2.2.2.2.2.2.2.2.2.2.2.2.2.1, o.2.2.2.2.2.2.2.2.2.2.2.2.2.2.2.2.2.1, o.2.2.2.2.2.2.2.2.2.2.2.2.2.2.2.2.2.2.1, o.2.2.2.2.2.2.2.2.2.2.2.2.2.2.2.2.2.2.2.1, o.2.2.2.2.2.2.2.2.2.2.2.2.2.2.2.2.2.2.2.2.1, o.2.2.2.2.2.2.2.2.2.2.2.2.2.2.2.2.2.2.2.2.2.1, o.2.2.2.2.2.2.2.2.2.2.2.2.2.2.2.2.2.2.2.2.2.2.1, o.2.2.2.2.2.2.2.2.2.2.2.2.2.2.2.2.2.2.2.2.2.2.2.1, o.2.2.2.2.2.2.2.2.2.2.2.2.2.2.2.2.2.2.2.2.2.2.2.2.1, o.2.2.2.2.2.2.2.2.2.2.2.2.2.2.2.2.2.2.2.2.2.2.2.2.2.1, o.2.2.2.2.2.2.2.2.2.2.2.2.2.2.2.2.2.2.2.2.2.2.2.2.2.2)
def s_nulls (o : Ob) (v : Int32) : Ob := (o.1, o.2.1, o.2.2.1, o.2.2.2.1, o.2.2.2.2.1, o.2.2.2.2.2.1, o.2.2.2.2.2.2.1, o.2.2.2.2.2.2.2.1, o.2.2.2.2.2.2.2.2.1, o.2.2.2.2.2.2.2.2.2.1, o.2.2.2.2.2.2.2.2.2.2.1, v, o.2.2.2.2.2.2.2.2.2.2.2.2.1, o.2.2.2.2.2.2.2.2.2.2.2.2.2.1, o.2.2.2.2.2.2.2.2.2.2.2.2.2.2.1, o.2.2.2.2.2.2.2.2.2.2.2.2.2.2.2.1, o.2.2.2.2.2.2.2.2.2.2.2.2.2.2.2.2.1, o.2.2.2.2.2.2.2.2.2.2.2.2.2.2.2.2.2.1, o.2.2.2.2.2.2.2.2.2.2.2.2.2.2.2.2.2.2.1, o.2.2.2.2.2.2.2.2.2.2.2.2.2.2.2.2.2.2.2.1, o.2.2.2.2.2.2.2.2.2.2.2.2.2.2.2.2.2.2.2.2.1, o.2.2.2.2.2.2.2.2.2.2.2.2.2.2.2.2.2.2.2.2.2.1, o.2.2.2.2.2.2.2.2.2.2.2.2.2.2.2.2.2.2.2.2.2.2.1, o.2.2.2.2.2.2.2.2.2.2.2.2.2.2.2.2.2.2.2.2.2.2.2.1, o.2.2.2.2.2.2.2.2.2.2.2.2.2.2.2.2.2.2.2.2.2.2.2.2.1, o.2.2.2.2.2.2.2.2.2.2.2.2.2.2.2.2.2.2.2.2.2.2.2.2.2.1, o.2.2.2.2.2.2.2.2.2.2.2.2.2.2.2.2.2.2.2.2.2.2.2.2.2.2)
def s_mode (o : Ob) (v : Int32) : Ob := (o.1, o.2.1, o.2.2.1, o.2.2.2.1, o.2.2.2.2.1, o.2.2.2.2.2.1, o.2.2.2.2.2.2.1, o.2.2.2.2.2.2.2.1, o.2.2.2.2.2.2.2.2.1, o.2.2.2.2.2.2.2.2.2.1, o.2.2.2.2.2.2.2.2.2.2.1, o.2.2.2.2.2.2.2.2.2.2.2.1, v, o.2.2.2.2.2.2.2.2.2.2.2.2.2.1, o.2.2.2.2.2.2.2.2.2.2.2.2.2.2.1, o.2.2.2.2.2.2.2.2.2.2.2.2.2.2.2.1, o.2.2.2.2.2.2.2.2.2.2.2.2.2.2.2.2.1, o.2.2.2.2.2.2.2.2.2.2.2.2.2.2.2.2.2.1, o.2.2.2.2.2.2.2.2.2.2.2.2.2.2.2.2.2.2.1, o.2.2.2.2.2.2.2.2.2.2.2.2.2.2.2.2.2.2.2.1, o.2.2.2.2.2.2.2.2.2.2.2.2.2.2.2.2.2.2.2.2.1, o.2.2.2.2.2.2.2.2.2.2.2.2.2.2.2.2.2.2.2.2.2.1, o.2.2.2.2.2.2.2.2.2.2.2.2.2.2.2.2.2.2.2.2.2.2.1, o.2.2.2.2.2.2.2.2.2.2.2.2.2.2.2.2.2.2.2.2.2.2.2.1, o.2.2.2.2.2.2.2.2.2.2.2.2.2.2.2.2.2.2.2.2.2.2.2.2.1, o.2.2.2.2.2.2.2.2.2.2.2.2.2.2.2.2.2.2.2.2.2.2.2.2.2.1, o.2.2.2.2.2.2.2.2.2.2.2.2.2.2.2.2.2.2.2.2.2.2.2.2.2.2)
def s_startKind (o : Ob) (v : Int32) : Ob := (o.1, o.2.1, o.2.2.1, o.2.2.2.1, o.2.2.2.2.1, o.2.2.2.2.2.1, o.2.2.2.2.2.2.1, o.2.2.2.2.2.2.2.1, o.2.2.2.2.2.2.2.2.1, o.2.2.2.2.2.2.2.2.2.1, o.2.2.2.2.2.2.2.2.2.2.1, o.2.2.2.2.2.2.2.2.2.2.2.1, o.2.2.2.2.2.2.2.2.2.2.2.2.1, v, o.2.2.2.2.2.2.2.2.2.2.2.2.2.2.1, o.2.2.2.2.2.2.2.2.2.2.2.2.2.2.2.1, o.2.2.2.2.2.2.2.2.2.2.2.2.2.2.2.2.1, o.2.2.2.2.2.2.2.2.2.2.2.2.2.2.2.2.2.1, o.2.2.2.2.2.2.2.2.2.2.2.2.2.2.2.2.2.2.1, o.2.2.2.2.2.2.2.2.2.2.2.2.2.2.2.2.2.2.2.1, o.2.2.2.2.2.2.2.2.2.2.2.2.2.2.2.2.2.2.2.2.1, o.2.2.2.2.2.2.2.2.2.2.2.2.2.2.2.2.2.2.2.2.2.1, o.2.2.2.2.2.2.2.2.2.2.2.2.2.2.2.2.2.2.2.2.2.2.1, o.2.2.2.2.2.2.2.2.2.2.2.2.2.2.2.2.2.2.2.2.2.2.2.1, o.2.2.2.2.2.2.2.2.2.2.2.2.2.2.2.2.2.2.2.2.2.2.2.2.1, o.2.2.2.2.2.2.2.2.2.2.2.2.2.2.2.2.2.2.2.2.2.2.2.2.2.1, o.2.2.2.2.2.2.2.2.2.2.2.2.2.2.2.2.2.2.2.2.2.2.2.2.2.2)
def s_startOff (o : Ob) (v : Int32) : Ob := (o.1, o.2.1, o.2.2.1, o.2.2.2.1, o.2.2.2.2.1, o.2.2.2.2.2.1, o.2.2.2.2.2.2.1, o.2.2.2.2.2.2.2.1, o.2.2.2.2.2.2.2.2.1, o.2.2.2.2.2.2.2.2.2.1, o.2.2.2.2.2.2.2.2.2.2.1, o.2.2.2.2.2.2.2.2.2.2.2.1, o.2.2.2.2.2.2.2.2.2.2.2.2.1, o.2.2.2.2.2.2.2.2.2.2.2.2.2.1, v, o.2.2.2.2.2.2.2.2.2.2.2.2.2.2.2.1, o.2.2.2.2.2.2.2.2.2.2.2.2.2.2.2.2.1, o.2.2.2.2.2.2.2.2.2.2.2.2.2.2.2.2.2.1, o.2.2.2.2.2.2.2.2.2.2.2.2.2.2.2.2.2.2.1, o.2.2.2.2.2.2.2.2.2.2.2.2.2.2.2.2.2.2.2.1, o.2.2.2.2.2.2.2.2.2.2.2.2.2.2.2.2.2.2.2.2.1, o.2.2.2.2.2.2.2.2.2.2.2.2.2.2.2.2.2.2.2.2.2.1, o.2.2.2.2.2.2.2.2.2.2.2.2.2.2.2.2.2.2.2.2.2.2.1, o.2.2.2.2.2.2.2.2.2.2.2.2.2.2.2.2.2.2.2.2.2.2.2.1, o.2.2.2.2.2.2.2.2.2.2.2.2.2.2.2.2.2.2.2.2.2.2.2.2.1, o.2.2.2.2.2.2.2.2.2.2.2.2.2.2.2.2.2.2.2.2.2.2.2.2.2.1, o.2.2.2.2.2.2.2.2.2.2.2.2.2.2.2.2.2.2.2.2.2.2.2.2.2.2)
def s_endKind (o : Ob) (v : Int32) : Ob := (o.1, o.2.1, o.2.2.1, o.2.2.2.1, o.2.2.2.2.1, o.2.2.2.2.2.1, o.2.2.2.2.2.2.1, o.2.2.2.2.2.2.2.1, o.2.2.2.2.2.2.2.2.1, o.2.2.2.2.2.2.2.2.2.1, o.2.2.2.2.2.2.2.2.2.2.1, o.2.2.2.2.2.2.2.2.2.2.2.1, o.2.2.2.2.2.2.2.2.2.2.2.2.1, o.2.2.2.2.2.2.2.2.2.2.2.2.2.1, o.2.2.2.2.2.2.2.2.2.2.2.2.2.2.1, v, o.2.2.2.2.2.2.2.2.2.2.2.2.2.2.2.2.1, o.2.2.2.2.2.2.2.2.2.2.2.2.2.2.2.2.2.1, o.2.2.2.2.2.2.2.2.2.2.2.2.2.2.2.2.2.2.1, o.2.2.2.2.2.2.2.2.2.2.2.2.2.2.2.2.2.2.2.1, o.2.2.2.2.2.2.2.2.2.2.2.2.2.2.2.2.2.2.2.2.1, o.2.2.2.2.2.2.2.2.2.2.2.2.2.2.2.2.2.2.2.2.2.1, o.2.2.2.2.2.2.2.2.2.2.2.2.2.2.2.2.2.2.2.2.2.2.1, o.2.2.2.2.2.2.2.2.2.2.2.2.2.2.2.2.2.2.2.2.2.2.2.1, o.2.2.2.2.2.2.2.2.2.2.2.2.2.2.2.2.2.2.2.2.2.2.2.2.1, o.2.2.2.2.2.2.2.2.2.2.2.2.2.2.2.2.2.2.2.2.2.2.2.2.2.1, o.2.2.2.2.2.2.2.2.2.2.2.2.2.2.2.2.2.2.2.2.2.2.2.2.2.2)
def s_endOff (o : Ob) (v : Int32) : Ob := (o.1, o.2.1, o.2.2.1, o.2.2.2.1, o.2.2.2.2.1, o.2.2.2.2.2.1, o.2.2.2.2.2.2.1, o.2.2.2.2.2.2.2.1, o.2.2.2.2.2.2.2.2.1, o.2.2.2.2.2.2.2.2.2.1, o.2.2.2.2.2.2.2.2.2.2.1, o.2.2.2.2.2.2.2.2.2.2.2.1, o.2.2.2.2.2.2.2.2.2.2.2.2.1, o.2.2.2.2.2.2.2.2.2.2.2.2.2.1, o.2.2.2.2.2.2.2.2.2.2.2.2.2.2.1, o.2.2.2.2.2.2.2.2.2.2.2.2.2.2.2.1, v, o.2.2.2.2.2.2.2.2.2.2.2.2.2.2.2.2.2.1, o.2.2.2.2.2.2.2.2.2.2.2.2.2.2.2.2.2.2.1, o.2.2.2.2.2.2.2.2.2.2.2.2.2.2.2.2.2.2.2.1, o.2.2.2.2.2.2.2.2.2.2.2.2.2.2.2.2.2.2.2.2.1, o.2.2.2.2.2.2.2.2.2.2.2.2.2.2.2.2.2.2.2.2.2.1, o.2.2.2.2.2.2.2.2.2.2.2.2.2.2.2.2.2.2.2.2.2.2.1, o.2.2.2.2.2.2.2.2.2.2.2.2.2.2.2.2.2.2.2.2.2.2.2.1, o.2.2.2.2.2.2.2.2.2.2.2.2.2.2.2.2.2.2.2.2.2.2.2.2.1, o.2.2.2.2.2.2.2.2.2.2.2.2.2.2.2.2.2.2.2.2.2.2.2.2.2.1, o.2.2.2.2.2.2.2.2.2.2.2.2.2.2.2.2.2.2.2.2.2.2.2.2.2.2)
def s_fn (o : Ob) (v : Int32) : Ob := (o.1, o.2.1, o.2.2.1, o.2.2.2.1, o.2.2.2.2.1, o.2.2.2.2.2.1, o.2.2.2.2.2.2.1, o.2.2.2.2.2.2.2.1, o.2.2.2.2.2.2.2.2.1, o.2.2.2.2.2.2.2.2.2.1, o.2.2.2.2.2.2.2.2.2.2.1, o.2.2.2.2.2.2.2.2.2.2.2.1, o.2.2.2.2.2.2.2.2.2.2.2.2.1, o.2.2.2.2.2.2.2.2.2.2.2.2.2.1, o.2.2.2.2.2.2.2.2.2.2.2.2.2.2.1, o.2.2.2.2.2.2.2.2.2.2.2.2.2.2.2.1, o.2.2.2.2.2.2.2.2.2.2.2.2.2.2.2.2.1, v, o.2.2.2.2.2.2.2.2.2.2.2.2.2.2.2.2.2.2.1, o.2.2.2.2.2.2.2.2.2.2.2.2.2.2.2.2.2.2.2.1, o.2.2.2.2.2.2.2.2.2.2.2.2.2.2.2.2.2.2.2.2.1, o.2.2.2.2.2.2.2.2.2.2.2.2.2.2.2.2.2.2.2.2.2.1, o.2.2.2.2.2.2.2.2.2.2.2.2.2.2.2.2.2.2.2.2.2.2.1, o.2.2.2.2.2.2.2.2.2.2.2.2.2.2.2.2.2.2.2.2.2.2.2.1, o.2.2.2.2.2.2.2.2.2.2.2.2.2.2.2.2.2.2.2.2.2.2.2.2.1, o.2.2.2.2.2.2.2.2.2.2.2.2.2.2.2.2.2.2.2.2.2.2.2.2.2.1, o.2.2.2.2.2.2.2.2.2.2.2.2.2.2.2.2.2.2.2.2.2.2.2.2.2.2)
def s_fnArg (o : Ob) (v : Int32) : Ob := (o.1, o.2.1, o.2.2.1, o.2.2.2.1, o.2.2.2.2.1, o.2.2.2.2.2.1, o.2.2.2.2.2.2.1, o.2.2.2.2.2.2.2.1, o.2.2.2.2.2.2.2.2.1, o.2.2.2.2.2.2.2.2.2.1, o.2.2.2.2.2.2.2.2.2.2.1, o.2.2.2.2.2.2.2.2.2.2.2.1, o.2.2.2.2.2.2.2.2.2.2.2.2.1, o.2.2.2.2.2.2.2.2.2.2.2.2.2.1, o.2.2.2.2.2.2.2.2.2.2.2.2.2.2.1, o.2.2.2.2.2.2.2.2.2.2.2.2.2.2.2.1, o.2.2.2.2.2.2.2.2.2.2.2.2.2.2.2.2.1, o.2.2.2.2.2.2.2.2.2.2.2.2.2.2.2.2.2.1, v, o.2.2.2.2.2.2.2.2.2.2.2.2.2.2.2.2.2.2.2.1, o.2.2.2.2.2.2.2.2.2.2.2.2.2.2.2.2.2.2.2.2.1, o.2.2.2.2.2.2.2.2.2.2.2.2.2.2.2.2.2.2.2.2.2.1, o.2.2.2.2.2.2.2.2.2.2.2.2.2.2.2.2.2.2.2.2.2.2.1, o.2.2.2.2.2.2.2.2.2.2.2.2.2.2.2.2.2.2.2.2.2.2.2.1, o.2.2.2.2.2.2.2.2.2.2.2.2.2.2.2.2.2.2.2.2.2.2.2.2.1, o.2.2.2.2.2.2.2.2.2.2.2.2.2.2.2.2.2.2.2.2.2.2.2.2.2.1, o.2.2.2.2.2.2.2.2.2.2.2.2.2.2.2.2.2.2.2.2.2.2.2.2.2.2)
def s_computed (o : Ob) (v : Int32) : Ob := (o.1, o.2.1, o.2.2.1, o.2.2.2.1, o.2.2.2.2.1, o.2.2.2.2.2.1, o.2.2.2.2.2.2.1, o.2.2.2.2.2.2.2.1, o.2.2.2.2.2.2.2.2.1, o.2.2.2.2.2.2.2.2.2.1, o.2.2.2.2.2.2.2.2.2.2.1, o.2.2.2.2.2.2.2.2.2.2.2.1, o.2.2.2.2.2.2.2.2.2.2.2.2.1, o.2.2.2.2.2.2.2.2.2.2.2.2.2.1, o.2.2.2.2.2.2.2.2.2.2.2.2.2.2.1, o.2.2.2.2.2.2.2.2.2.2.2.2.2.2.2.1, o.2.2.2.2.2.2.2.2.2.2.2.2.2.2.2.2.1, o.2.2.2.2.2.2.2.2.2.2.2.2.2.2.2.2.2.1, o.2.2.2.2.2.2.2.2.2.2.2.2.2.2.2.2.2.2.1, v, o.2.2.2.2.2.2.2.2.2.2.2.2.2.2.2.2.2.2.2.2.1, o.2.2.2.2.2.2.2.2.2.2.2.2.2.2.2.2.2.2.2.2.2.1, o.2.2.2.2.2.2.2.2.2.2.2.2.2.2.2.2.2.2.2.2.2.2.1, o.2.2.2.2.2.2.2.2.2.2.2.2.2.2.2.2.2.2.2.2.2.2.2.1, o.2.2.2.2.2.2.2.2.2.2.2.2.2.2.2.2.2.2.2.2.2.2.2.2.1, o.2.2.2.2.2.2.2.2.2.2.2.2.2.2.2.2.2.2.2.2.2.2.2.2.2.1, o.2.2.2.2.2.2.2.2.2.2.2.2.2.2.2.2.2.2.2.2.2.2.2.2.2.2)
def s_sortedLen (o : Ob) (v : Int32) : Ob := (o.1, o.2.1, o.2.2.1, o.2.2.2.1, o.2.2.2.2.1, o.2.2.2.2.2.1, o.2.2.2.2.2.2.1, o.2.2.2.2.2.2.2.1, o.2.2.2.2.2.2.2.2.1, o.2.2.2.2.2.2.2.2.2.1, o.2.2.2.2.2.2.2.2.2.2.1, o.2.2.2.2.2.2.2.2.2.2.2.1, o.2.2.2.2.2.2.2.2.2.2.2.2.1, o.2.2.2.2.2.2.2.2.2.2.2.2.2.1, o.2.2.2.2.2.2.2.2.2.2.2.2.2.2.1, o.2.2.2.2.2.2.2.2.2.2.2.2.2.2.2.1, o.2.2.2.2.2.2.2.2.2.2.2.2.2.2.2.2.1, o.2.2.2.2.2.2.2.2.2.2.2.2.2.2.2.2.2.1, o.2.2.2.2.2.2.2.2.2.2.2.2.2.2.2.2.2.2.1, o.2.2.2.2.2.2.2.2.2.2.2.2.2.2.2.2.2.2.2.1, v, o.2.2.2.2.2.2.2.2.2.2.2.2.2.2.2.2.2.2.2.2.2.1, o.2.2.2.2.2.2.2.2.2.2.2.2.2.2.2.2.2.2.2.2.2.2.1, o.2.2.2.2.2.2.2.2.2.2.2.2.2.2.2.2.2.2.2.2.2.2.2.1, o.2.2.2.2.2.2.2.2.2.2.2.2.2.2.2.2.2.2.2.2.2.2.2.2.1, o.2.2.2.2.2.2.2.2.2.2.2.2.2.2.2.2.2.2.2.2.2.2.2.2.2.1, o.2.2.2.2.2.2.2.2.2.2.2.2.2.2.2.2.2.2.2.2.2.2.2.2.2.2)
def s_curPos (o : Ob) (v : Int32) : Ob := (o.1, o.2.1, o.2.2.1, o.2.2.2.1, o.2.2.2.2.1, o.2.2.2.2.2.1, o.2.2.2.2.2.2.1, o.2.2.2.2.2.2.2.1, o.2.2.2.2.2.2.2.2.1, o.2.2.2.2.2.2.2.2.2.1, o.2.2.2.2.2.2.2.2.2.2.1, o.2.2.2.2.2.2.2.2.2.2.2.1, o.2.2.2.2.2.2.2.2.2.2.2.2.1, o.2.2.2.2.2.2.2.2.2.2.2.2.2.1, o.2.2.2.2.2.2.2.2.2.2.2.2.2.2.1, o.2.2.2.2.2.2.2.2.2.2.2.2.2.2.2.1, o.2.2.2.2.2.2.2.2.2.2.2.2.2.2.2.2.1, o.2.2.2.2.2.2.2.2.2.2.2.2.2.2.2.2.2.1, o.2.2.2.2.2.2.2.2.2.2.2.2.2.2.2.2.2.2.1, o.2.2.2.2.2.2.2.2.2.2.2.2.2.2.2.2.2.2.2.1, o.2.2.2.2.2.2.2.2.2.2.2.2.2.2.2.2.2.2.2.2.1, v, o.2.2.2.2.2.2.2.2.2.2.2.2.2.2.2.2.2.2.2.2.2.2.1, o.2.2.2.2.2.2.2.2.2.2.2.2.2.2.2.2.2.2.2.2.2.2.2.1, o.2.2.2.2.2.2.2.2.2.2.2.2.2.2.2.2.2.2.2.2.2.2.2.2.1, o.2.2.2.2.2.2.2.2.2.2.2.2.2.2.2.2.2.2.2.2.2.2.2.2.2.1, o.2.2.2.2.2.2.2.2.2.2.2.2.2.2.2.2.2.2.2.2.2.2.2.2.2.2)
def s_aggSum (o : Ob) (v : Int64) : Ob := (o.1, o.2.1, o.2.2.1, o.2.2.2.1, o.2.2.2.2.1, o.2.2.2.2.2.1, o.2.2.2.2.2.2.1, o.2.2.2.2.2.2.2.1, o.2.2.2.2.2.2.2.2.1, o.2.2.2.2.2.2.2.2.2.1, o.2.2.2.2.2.2.2.2.2.2.1, o.2.2.2.2.2.2.2.2.2.2.2.1, o.2.2.2.2.2.2.2.2.2.2.2.2.1, o.2.2.2.2.2.2.2.2.2.2.2.2.2.1, o.2.2.2.2.2.2.2.2.2.2.2.2.2.2.1, o.2.2.2.2.2.2.2.2.2.2.2.2.2.2.2.1, o.2.2.2.2.2.2.2.2.2.2.2.2.2.2.2.2.1, o.2.2.2.2.2.2.2.2.2.2.2.2.2.2.2.2.2.1, o.2.2.2.2.2.2.2.2.2.2.2.2.2.2.2.2.2.2.1, o.2.2.2.2.2.2.2.2.2.2.2.2.2.2.2.2.2.2.2.1, o.2.2.2.2.2.2.2.2.2.2.2.2.2.2.2.2.2.2.2.2.1, o.2.2.2.2.2.2.2.2.2.2.2.2.2.2.2.2.2.2.2.2.2.1, v, o.2.2.2.2.2.2.2.2.2.2.2.2.2.2.2.2.2.2.2.2.2.2.2.1, o.2.2.2.2.2.2.2.2.2.2.2.2.2.2.2.2.2.2.2.2.2.2.2.2.1, o.2.2.2.2.2.2.2.2.2.2.2.2.2.2.2.2.2.2.2.2.2.2.2.2.2.1, o.2.2.2.2.2.2.2.2.2.2.2.2.2.2.2.2.2.2.2.2.2.2.2.2.2.2)
def s_aggCount (o : Ob) (v : Int32) : Ob := (o.1, o.2.1, o.2.2.1, o.2.2.2.1, o.2.2.2.2.1, o.2.2.2.2.2.1, o.2.2.2.2.2.2.1, o.2.2.2.2.2.2.2.1, o.2.2.2.2.2.2.2.2.1, o.2.2.2.2.2.2.2.2.2.1, o.2.2.2.2.2.2.2.2.2.2.1, o.2.2.2.2.2.2.2.2.2.2.2.1, o.2.2.2.2.2.2.2.2.2.2.2.2.1, o.2.2.2.2.2.2.2.2.2.2.2.2.2.1, o.2.2.2.2.2.2.2.2.2.2.2.2.2.2.1, o.2.2.2.2.2.2.2.2.2.2.2.2.2.2.2.1, o.2.2.2.2.2.2.2.2.2.2.2.2.2.2.2.2.1, o.2.2.2.2.2.2.2.2.2.2.2.2.2.2.2.2.2.1, o.2.2.2.2.2.2.2.2.2.2.2.2.2.2.2.2.2.2.1, o.2.2.2.2.2.2.2.2.2.2.2.2.2.2.2.2.2.2.2.1, o.2.2.2.2.2.2.2.2.2.2.2.2.2.2.2.2.2.2.2.2.1, o.2.2.2.2.2.2.2.2.2.2.2.2.2.2.2.2.2.2.2.2.2.1, o.2.2.2.2.2.2.2.2.2.2.2.2.2.2.2.2.2.2.2.2.2.2.1, v, o.2.2.2.2.2.2.2.2.2.2.2.2.2.2.2.2.2.2.2.2.2.2.2.2.1, o.2.2.2.2.2.2.2.2.2.2.2.2.2.2.2.2.2.2.2.2.2.2.2.2.2.1, o.2.2.2.2.2.2.2.2.2.2.2.2.2.2.2.2.2.2.2.2.2.2.2.2.2.2)
def s_aggRows (o : Ob) (v : Int32) : Ob := (o.1, o.2.1, o.2.2.1, o.2.2.2.1, o.2.2.2.2.1, o.2.2.2.2.2.1, o.2.2.2.2.2.2.1, o.2.2.2.2.2.2.2.1, o.2.2.2.2.2.2.2.2.1, o.2.2.2.2.2.2.2.2.2.1, o.2.2.2.2.2.2.2.2.2.2.1, o.2.2.2.2.2.2.2.2.2.2.2.1, o.2.2.2.2.2.2.2.2.2.2.2.2.1, o.2.2.2.2.2.2.2.2.2.2.2.2.2.1, o.2.2.2.2.2.2.2.2.2.2.2.2.2.2.1, o.2.2.2.2.2.2.2.2.2.2.2.2.2.2.2.1, o.2.2.2.2.2.2.2.2.2.2.2.2.2.2.2.2.1, o.2.2.2.2.2.2.2.2.2.2.2.2.2.2.2.2.2.1, o.2.2.2.2.2.2.2.2.2.2.2.2.2.2.2.2.2.2.1, o.2.2.2.2.2.2.2.2.2.2.2.2.2.2.2.2.2.2.2.1, o.2.2.2.2.2.2.2.2.2.2.2.2.2.2.2.2.2.2.2.2.1, o.2.2.2.2.2.2.2.2.2.2.2.2.2.2.2.2.2.2.2.2.2.1, o.2.2.2.2.2.2.2.2.2.2.2.2.2.2.2.2.2.2.2.2.2.2.1, o.2.2.2.2.2.2.2.2.2.2.2.2.2.2.2.2.2.2.2.2.2.2.2.1, v, o.2.2.2.2.2.2.2.2.2.2.2.2.2.2.2.2.2.2.2.2.2.2.2.2.2.1, o.2.2.2.2.2.2.2.2.2.2.2.2.2.2.2.2.2.2.2.2.2.2.2.2.2.2)
def s_aggMin (o : Ob) (v : Int32) : Ob := (o.1, o.2.1, o.2.2.1, o.2.2.2.1, o.2.2.2.2.1, o.2.2.2.2.2.1, o.2.2.2.2.2.2.1, o.2.2.2.2.2.2.2.1, o.2.2.2.2.2.2.2.2.1, o.2.2.2.2.2.2.2.2.2.1, o.2.2.2.2.2.2.2.2.2.2.1, o.2.2.2.2.2.2.2.2.2.2.2.1, o.2.2.2.2.2.2.2.2.2.2.2.2.1, o.2.2.2.2.2.2.2.2.2.2.2.2.2.1, o.2.2.2.2.2.2.2.2.2.2.2.2.2.2.1, o.2.2.2.2.2.2.2.2.2.2.2.2.2.2.2.1, o.2.2.2.2.2.2.2.2.2.2.2.2.2.2.2.2.1, o.2.2.2.2.2.2.2.2.2.2.2.2.2.2.2.2.2.1, o.2.2.2.2.2.2.2.2.2.2.2.2.2.2.2.2.2.2.1, o.2.2.2.2.2.2.2.2.2.2.2.2.2.2.2.2.2.2.2.1, o.2.2.2.2.2.2.2.2.2.2.2.2.2.2.2.2.2.2.2.2.1, o.2.2.2.2.2.2.2.2.2.2.2.2.2.2.2.2.2.2.2.2.2.1, o.2.2.2.2.2.2.2.2.2.2.2.2.2.2.2.2.2.2.2.2.2.2.1, o.2.2.2.2.2.2.2.2.2.2.2.2.2.2.2.2.2.2.2.2.2.2.2.1, o.2.2.2.2.2.2.2.2.2.2.2.2.2.2.2.2.2.2.2.2.2.2.2.2.1, v, o.2.2.2.2.2.2.2.2.2.2.2.2.2.2.2.2.2.2.2.2.2.2.2.2.2.2)
def s_aggMax (o : Ob) (v : Int32) : Ob := (o.1, o.2.1, o.2.2.1, o.2.2.2.1, o.2.2.2.2.1, o.2.2.2.2.2.1, o.2.2.2.2.2.2.1, o.2.2.2.2.2.2.2.1, o.2.2.2.2.2.2.2.2.1, o.2.2.2.2.2.2.2.2.2.1, o.2.2.2.2.2.2.2.2.2.2.1, o.2.2.2.2.2.2.2.2.2.2.2.1, o.2.2.2.2.2.2.2.2.2.2.2.2.1, o.2.2.2.2.2.2.2.2.2.2.2.2.2.1, o.2.2.2.2.2.2.2.2.2.2.2.2.2.2.1, o.2.2.2.2.2.2.2.2.2.2.2.2.2.2.2.1, o.2.2.2.2.2.2.2.2.2.2.2.2.2.2.2.2.1, o.2.2.2.2.2.2.2.2.2.2.2.2.2.2.2.2.2.1, o.2.2.2.2.2.2.2.2.2.2.2.2.2.2.2.2.2.2.1, o.2.2.2.2.2.2.2.2.2.2.2.2.2.2.2.2.2.2.2.1, o.2.2.2.2.2.2.2.2.2.2.2.2.2.2.2.2.2.2.2.2.1, o.2.2.2.2.2.2.2.2.2.2.2.2.2.2.2.2.2.2.2.2.2.1, o.2.2.2.2.2.2.2.2.2.2.2.2.2.2.2.2.2.2.2.2.2.2.1, o.2.2.2.2.2.2.2.2.2.2.2.2.2.2.2.2.2.2.2.2.2.2.2.1, o.2.2.2.2.2.2.2.2.2.2.2.2.2.2.2.2.2.2.2.2.2.2.2.2.1, o.2.2.2.2.2.2.2.2.2.2.2.2.2.2.2.2.2.2.2.2.2.2.2.2.2.1, v)
theorem fs (o : Ob) : f_part o = o.1 ∧ f_keys o = o.2.1 ∧ f_vals o = o.2.2.1 ∧ f_flg o = o.2.2.2.1 ∧ f_res o = o.2.2.2.2.1 ∧ f_resNull o = o.2.2.2.2.2.1 ∧ f_frameCnt o = o.2.2.2.2.2.2.1 ∧ f_sorted o = o.2.2.2.2.2.2.2.1 ∧ f_cap o = o.2.2.2.2.2.2.2.2.1 ∧ f_rows o = o.2.2.2.2.2.2.2.2.2.1 ∧ f_direction o = o.2.2.2.2.2.2.2.2.2.2.1 ∧ f_nulls o = o.2.2.2.2.2.2.2.2.2.2.2.1 ∧ f_mode o = o.2.2.2.2.2.2.2.2.2.2.2.2.1 ∧ f_startKind o = o.2.2.2.2.2.2.2.2.2.2.2.2.2.1 ∧ f_startOff o = o.2.2.2.2.2.2.2.2.2.2.2.2.2.2.1 ∧ f_endKind o = o.2.2.2.2.2.2.2.2.2.2.2.2.2.2.2.1 ∧ f_endOff o = o.2.2.2.2.2.2.2.2.2.2.2.2.2.2.2.2.1 ∧ f_fn o = o.2.2.2.2.2.2.2.2.2.2.2.2.2.2.2.2.2.1 ∧ f_fnArg o = o.2.2.2.2.2.2.2.2.2.2.2.2.2.2.2.2.2.2.1 ∧ f_computed o = o.2.2.2.2.2.2.2.2.2.2.2.2.2.2.2.2.2.2.2.1 ∧ f_sortedLen o = o.2.2.2.2.2.2.2.2.2.2.2.2.2.2.2.2.2.2.2.2.1 ∧ f_curPos o = o.2.2.2.2.2.2.2.2.2.2.2.2.2.2.2.2.2.2.2.2.2.1 ∧ f_aggSum o = o.2.2.2.2.2.2.2.2.2.2.2.2.2.2.2.2.2.2.2.2.2.2.1 ∧ f_aggCount o = o.2.2.2.2.2.2.2.2.2.2.2.2.2.2.2.2.2.2.2.2.2.2.2.1 ∧ f_aggRows o = o.2.2.2.2.2.2.2.2.2.2.2.2.2.2.2.2.2.2.2.2.2.2.2.2.1 ∧ f_aggMin o = o.2.2.2.2.2.2.2.2.2.2.2.2.2.2.2.2.2.2.2.2.2.2.2.2.2.1 ∧ f_aggMax o = o.2.2.2.2.2.2.2.2.2.2.2.2.2.2.2.2.2.2.2.2.2.2.2.2.2.2 := by simp only [f_part, f_keys, f_vals, f_flg, f_res, f_resNull, f_frameCnt, f_sorted, f_cap, f_rows, f_direction, f_nulls, f_mode, f_startKind, f_startOff, f_endKind, f_endOff, f_fn, f_fnArg, f_computed, f_sortedLen, f_curPos, f_aggSum, f_aggCount, f_aggRows, f_aggMin, f_aggMax, and_self]
def ob0 : Ob := ([], [], [], [], [], [], [], [], 0, 0, 0, 0, 0, 0, 0, 0, 0, 0, 0, 0, 0, 0, 0, 0, 0, 0, 0)
section Walks
variable {l : Launch} {Z : State} {n0 : Nat} {ad : Nat → Addr} {a0 : Array Value}
set_option maxRecDepth 20000
abbrev tt : Bool := true
abbrev ff : Bool := false
open QTri renaming steps → zS, brT → zT, brF → zF, bnd → zB, mask → zM
open Option (bind_eq_some_iff)
open Classical (em)
def H0 (s : List Int32) (o0 : Ob) : QHeap := [.inr (.inl (.int, s)), .inl [.ref 2, .ref 3, .ref 4, .ref 5, .ref 6, .ref 7, .ref 8, .ref 9, .int (f_cap o0), .int (f_rows o0), .int (f_direction o0), .int (f_nulls o0), .int (f_mode o0), .int (f_startKind o0), .int (f_startOff o0), .int (f_endKind o0), .int (f_endOff o0), .int (f_fn o0), .int (f_fnArg o0), .int (f_computed o0), .int (f_sortedLen o0), .int (f_curPos o0), .long (f_aggSum o0), .int (f_aggCount o0), .int (f_aggRows o0), .int (f_aggMin o0), .int (f_aggMax o0)], .inr (.inl (.int, (f_part o0))), .inr (.inl (.int, (f_keys o0))), .inr (.inl (.int, (f_vals o0))), .inr (.inl (.int, (f_flg o0))), .inr (.inr (f_res o0)), .inr (.inl (.boolean, (f_resNull o0))), .inr (.inl (.int, (f_frameCnt o0))), .inr (.inl (.int, (f_sorted o0)))]
def H0v (s : List Int32) (a0_0 : List Int32) (a0_1 : List Int32) (a0_2 : List Int32) (a0_3 : List Int32) (a0_4 : List Int64) (a0_5 : List Int32) (a0_6 : List Int32) (a0_7 : List Int32) (a0_8 : Int32) (a0_9 : Int32) (a0_10 : Int32) (a0_11 : Int32) (a0_12 : Int32) (a0_13 : Int32) (a0_14 : Int32) (a0_15 : Int32) (a0_16 : Int32) (a0_17 : Int32) (a0_18 : Int32) (a0_19 : Int32) (a0_20 : Int32) (a0_21 : Int32) (a0_22 : Int64) (a0_23 : Int32) (a0_24 : Int32) (a0_25 : Int32) (a0_26 : Int32) : QHeap := [.inr (.inl (.int, s)), .inl [.ref 2, .ref 3, .ref 4, .ref 5, .ref 6, .ref 7, .ref 8, .ref 9, .int a0_8, .int a0_9, .int a0_10, .int a0_11, .int a0_12, .int a0_13, .int a0_14, .int a0_15, .int a0_16, .int a0_17, .int a0_18, .int a0_19, .int a0_20, .int a0_21, .long a0_22, .int a0_23, .int a0_24, .int a0_25, .int a0_26], .inr (.inl (.int, a0_0)), .inr (.inl (.int, a0_1)), .inr (.inl (.int, a0_2)), .inr (.inl (.int, a0_3)), .inr (.inr a0_4), .inr (.inl (.boolean, a0_5)), .inr (.inl (.int, a0_6)), .inr (.inl (.int, a0_7))]
def H0x0 (s : List Int32) (o0 : Ob) (a0_0 : List Int32) (a0_1 : List Int32) (a0_2 : List Int32) (a0_3 : List Int32) (a0_4 : List Int64) (a0_5 : List Int32) (a0_6 : List Int32) (a0_7 : List Int32) : QHeap := H0v s a0_0 a0_1 a0_2 a0_3 a0_4 a0_5 a0_6 a0_7 (f_cap o0) (f_rows o0) (f_direction o0) (f_nulls o0) (f_mode o0) (f_startKind o0) (f_startOff o0) (f_endKind o0) (f_endOff o0) (f_fn o0) (f_fnArg o0) (f_computed o0) (f_sortedLen o0) (f_curPos o0) (f_aggSum o0) (f_aggCount o0) (f_aggRows o0) (f_aggMin o0) (f_aggMax o0)
def H0x1 (s : List Int32) (o0 : Ob) (a0_0 : List Int32) (a0_1 : List Int32) (a0_2 : List Int32) (a0_3 : List Int32) (a0_4 : List Int64) (a0_5 : List Int32) (a0_6 : List Int32) (a0_7 : List Int32) (a0_8 : Int32) : QHeap := H0v s a0_0 a0_1 a0_2 a0_3 a0_4 a0_5 a0_6 a0_7 a0_8 (f_rows o0) (f_direction o0) (f_nulls o0) (f_mode o0) (f_startKind o0) (f_startOff o0) (f_endKind o0) (f_endOff o0) (f_fn o0) (f_fnArg o0) (f_computed o0) (f_sortedLen o0) (f_curPos o0) (f_aggSum o0) (f_aggCount o0) (f_aggRows o0) (f_aggMin o0) (f_aggMax o0)
def H0x2 (s : List Int32) (o0 : Ob) (a0_0 : List Int32) (a0_1 : List Int32) (a0_2 : List Int32) (a0_3 : List Int32) (a0_4 : List Int64) (a0_5 : List Int32) (a0_6 : List Int32) (a0_7 : List Int32) (a0_8 : Int32) (a0_9 : Int32) : QHeap := H0v s a0_0 a0_1 a0_2 a0_3 a0_4 a0_5 a0_6 a0_7 a0_8 a0_9 (f_direction o0) (f_nulls o0) (f_mode o0) (f_startKind o0) (f_startOff o0) (f_endKind o0) (f_endOff o0) (f_fn o0) (f_fnArg o0) (f_computed o0) (f_sortedLen o0) (f_curPos o0) (f_aggSum o0) (f_aggCount o0) (f_aggRows o0) (f_aggMin o0) (f_aggMax o0)
def H0x3 (s : List Int32) (o0 : Ob) (a0_10 : Int32) : QHeap := H0v s (f_part o0) (f_keys o0) (f_vals o0) (f_flg o0) (f_res o0) (f_resNull o0) (f_frameCnt o0) (f_sorted o0) (f_cap o0) (f_rows o0) a0_10 (f_nulls o0) (f_mode o0) (f_startKind o0) (f_startOff o0) (f_endKind o0) (f_endOff o0) (f_fn o0) (f_fnArg o0) (f_computed o0) (f_sortedLen o0) (f_curPos o0) (f_aggSum o0) (f_aggCount o0) (f_aggRows o0) (f_aggMin o0) (f_aggMax o0)
def H0x4 (s : List Int32) (o0 : Ob) (a0_10 : Int32) (a0_11 : Int32) : QHeap := H0v s (f_part o0) (f_keys o0) (f_vals o0) (f_flg o0) (f_res o0) (f_resNull o0) (f_frameCnt o0) (f_sorted o0) (f_cap o0) (f_rows o0) a0_10 a0_11 (f_mode o0) (f_startKind o0) (f_startOff o0) (f_endKind o0) (f_endOff o0) (f_fn o0) (f_fnArg o0) (f_computed o0) (f_sortedLen o0) (f_curPos o0) (f_aggSum o0) (f_aggCount o0) (f_aggRows o0) (f_aggMin o0) (f_aggMax o0)
def H0x5 (s : List Int32) (o0 : Ob) (a0_10 : Int32) (a0_11 : Int32) (a0_12 : Int32) : QHeap := H0v s (f_part o0) (f_keys o0) (f_vals o0) (f_flg o0) (f_res o0) (f_resNull o0) (f_frameCnt o0) (f_sorted o0) (f_cap o0) (f_rows o0) a0_10 a0_11 a0_12 (f_startKind o0) (f_startOff o0) (f_endKind o0) (f_endOff o0) (f_fn o0) (f_fnArg o0) (f_computed o0) (f_sortedLen o0) (f_curPos o0) (f_aggSum o0) (f_aggCount o0) (f_aggRows o0) (f_aggMin o0) (f_aggMax o0)
def H0x6 (s : List Int32) (o0 : Ob) (a0_10 : Int32) (a0_11 : Int32) (a0_12 : Int32) (a0_13 : Int32) : QHeap := H0v s (f_part o0) (f_keys o0) (f_vals o0) (f_flg o0) (f_res o0) (f_resNull o0) (f_frameCnt o0) (f_sorted o0) (f_cap o0) (f_rows o0) a0_10 a0_11 a0_12 a0_13 (f_startOff o0) (f_endKind o0) (f_endOff o0) (f_fn o0) (f_fnArg o0) (f_computed o0) (f_sortedLen o0) (f_curPos o0) (f_aggSum o0) (f_aggCount o0) (f_aggRows o0) (f_aggMin o0) (f_aggMax o0)
def H0x7 (s : List Int32) (o0 : Ob) (a0_10 : Int32) (a0_11 : Int32) (a0_12 : Int32) (a0_13 : Int32) (a0_14 : Int32) : QHeap := H0v s (f_part o0) (f_keys o0) (f_vals o0) (f_flg o0) (f_res o0) (f_resNull o0) (f_frameCnt o0) (f_sorted o0) (f_cap o0) (f_rows o0) a0_10 a0_11 a0_12 a0_13 a0_14 (f_endKind o0) (f_endOff o0) (f_fn o0) (f_fnArg o0) (f_computed o0) (f_sortedLen o0) (f_curPos o0) (f_aggSum o0) (f_aggCount o0) (f_aggRows o0) (f_aggMin o0) (f_aggMax o0)
def H0x8 (s : List Int32) (o0 : Ob) (a0_10 : Int32) (a0_11 : Int32) (a0_12 : Int32) (a0_13 : Int32) (a0_14 : Int32) (a0_15 : Int32) : QHeap := H0v s (f_part o0) (f_keys o0) (f_vals o0) (f_flg o0) (f_res o0) (f_resNull o0) (f_frameCnt o0) (f_sorted o0) (f_cap o0) (f_rows o0) a0_10 a0_11 a0_12 a0_13 a0_14 a0_15 (f_endOff o0) (f_fn o0) (f_fnArg o0) (f_computed o0) (f_sortedLen o0) (f_curPos o0) (f_aggSum o0) (f_aggCount o0) (f_aggRows o0) (f_aggMin o0) (f_aggMax o0)
def H0x9 (s : List Int32) (o0 : Ob) (a0_10 : Int32) (a0_11 : Int32) (a0_12 : Int32) (a0_13 : Int32) (a0_14 : Int32) (a0_15 : Int32) (a0_16 : Int32) : QHeap := H0v s (f_part o0) (f_keys o0) (f_vals o0) (f_flg o0) (f_res o0) (f_resNull o0) (f_frameCnt o0) (f_sorted o0) (f_cap o0) (f_rows o0) a0_10 a0_11 a0_12 a0_13 a0_14 a0_15 a0_16 (f_fn o0) (f_fnArg o0) (f_computed o0) (f_sortedLen o0) (f_curPos o0) (f_aggSum o0) (f_aggCount o0) (f_aggRows o0) (f_aggMin o0) (f_aggMax o0)
def H0x10 (s : List Int32) (o0 : Ob) (a0_10 : Int32) (a0_11 : Int32) (a0_12 : Int32) (a0_13 : Int32) (a0_14 : Int32) (a0_15 : Int32) (a0_16 : Int32) (a0_17 : Int32) : QHeap := H0v s (f_part o0) (f_keys o0) (f_vals o0) (f_flg o0) (f_res o0) (f_resNull o0) (f_frameCnt o0) (f_sorted o0) (f_cap o0) (f_rows o0) a0_10 a0_11 a0_12 a0_13 a0_14 a0_15 a0_16 a0_17 (f_fnArg o0) (f_computed o0) (f_sortedLen o0) (f_curPos o0) (f_aggSum o0) (f_aggCount o0) (f_aggRows o0) (f_aggMin o0) (f_aggMax o0)
def H0x11 (s : List Int32) (o0 : Ob) (a0_10 : Int32) (a0_11 : Int32) (a0_12 : Int32) (a0_13 : Int32) (a0_14 : Int32) (a0_15 : Int32) (a0_16 : Int32) (a0_17 : Int32) (a0_18 : Int32) : QHeap := H0v s (f_part o0) (f_keys o0) (f_vals o0) (f_flg o0) (f_res o0) (f_resNull o0) (f_frameCnt o0) (f_sorted o0) (f_cap o0) (f_rows o0) a0_10 a0_11 a0_12 a0_13 a0_14 a0_15 a0_16 a0_17 a0_18 (f_computed o0) (f_sortedLen o0) (f_curPos o0) (f_aggSum o0) (f_aggCount o0) (f_aggRows o0) (f_aggMin o0) (f_aggMax o0)
/-- resetSpec()V -/
def F2 (o : Ob) : Option (Ob) :=
 some (s_fnArg (s_fn (s_endOff (s_endKind (s_startOff (s_startKind (s_mode (s_nulls (s_direction o (1:Int32)) (1:Int32)) (1:Int32)) (0:Int32)) (0:Int32)) (2:Int32)) (0:Int32)) (0:Int32)) (0:Int32))
theorem tF2 (Ad : QAd n0 ad) (W : QW Z a0) (s : List Int32) (o : Ob) {r : Ob} (h : F2 o = some r) : QTri l Z n0 ad 2 (0, qentry [.ref 1] (pMaxL 2), [], (H0 s o)) (none : Option Value) (H0 s r) := by
 unfold F2 at h
 refine zS Ad W 3 (st' := (5, [vR 1], [], (H0x3 s o (1:Int32)))) rfl ?_
 refine zS Ad W 3 (st' := (10, [vR 1], [], (H0x4 s o (1:Int32) (1:Int32)))) rfl ?_
 refine zS Ad W 3 (st' := (15, [vR 1], [], (H0x5 s o (1:Int32) (1:Int32) (1:Int32)))) rfl ?_
 refine zS Ad W 3 (st' := (20, [vR 1], [], (H0x6 s o (1:Int32) (1:Int32) (1:Int32) (0:Int32)))) rfl ?_
 refine zS Ad W 3 (st' := (25, [vR 1], [], (H0x7 s o (1:Int32) (1:Int32) (1:Int32) (0:Int32) (0:Int32)))) rfl ?_
 refine zS Ad W 3 (st' := (30, [vR 1], [], (H0x8 s o (1:Int32) (1:Int32) (1:Int32) (0:Int32) (0:Int32) (2:Int32)))) rfl ?_
 refine zS Ad W 3 (st' := (35, [vR 1], [], (H0x9 s o (1:Int32) (1:Int32) (1:Int32) (0:Int32) (0:Int32) (2:Int32) (0:Int32)))) rfl ?_
 refine zS Ad W 3 (st' := (40, [vR 1], [], (H0x10 s o (1:Int32) (1:Int32) (1:Int32) (0:Int32) (0:Int32) (2:Int32) (0:Int32) (0:Int32)))) rfl ?_
 refine zS Ad W 3 (st' := (45, [vR 1], [], (H0x11 s o (1:Int32) (1:Int32) (1:Int32) (0:Int32) (0:Int32) (2:Int32) (0:Int32) (0:Int32) (0:Int32)))) rfl ?_
 have E10 : ((H0x11 s o (1:Int32) (1:Int32) (1:Int32) (0:Int32) (0:Int32) (2:Int32) (0:Int32) (0:Int32) (0:Int32)) : QHeap) = (H0 s (s_fnArg (s_fn (s_endOff (s_endKind (s_startOff (s_startKind (s_mode (s_nulls (s_direction o (1:Int32)) (1:Int32)) (1:Int32)) (0:Int32)) (0:Int32)) (2:Int32)) (0:Int32)) (0:Int32)) (0:Int32))) := by simp only [fs, H0, H0v, H0x11, s_direction, s_nulls, s_mode, s_startKind, s_startOff, s_endKind, s_endOff, s_fn, s_fnArg]
 rw [E10]
 obtain rfl := Option.some.inj h
 exact QTri.ret0 rfl rfl
def H0x12 (s : List Int32) (o0 : Ob) (a0_19 : Int32) : QHeap := H0v s (f_part o0) (f_keys o0) (f_vals o0) (f_flg o0) (f_res o0) (f_resNull o0) (f_frameCnt o0) (f_sorted o0) (f_cap o0) (f_rows o0) (f_direction o0) (f_nulls o0) (f_mode o0) (f_startKind o0) (f_startOff o0) (f_endKind o0) (f_endOff o0) (f_fn o0) (f_fnArg o0) a0_19 (f_sortedLen o0) (f_curPos o0) (f_aggSum o0) (f_aggCount o0) (f_aggRows o0) (f_aggMin o0) (f_aggMax o0)
/-- init(I)V -/
def F1 (x1 : Int32) : Option (Ob) :=
 (F2 (s_rows (s_cap (s_sorted (s_frameCnt (s_resNull (s_res (s_flg (s_vals (s_keys (s_part ob0 (List.replicate 32 0)) (List.replicate 32 0)) (List.replicate 32 0)) (List.replicate 32 0)) (List.replicate 32 0)) (List.replicate 32 0)) (List.replicate 32 0)) (List.replicate 32 0)) (if (32:Int32) < (if x1 < (8:Int32) then (8:Int32) else x1) then (32:Int32) else (if x1 < (8:Int32) then (8:Int32) else x1))) (0:Int32))).bind fun r11 => some (s_computed r11 (0:Int32))
theorem tF1 (Ad : QAd n0 ad) (W : QW Z a0) (s : List Int32) (x1 : Int32) {r : Ob} (h : F1 x1 = some r) : QTri l Z n0 ad 1 (0, qentry [.ref 1, .int x1] (pMaxL 1), [], [.inr (.inl (.int, s)), .inl [.null, .null, .null, .null, .null, .null, .null, .null, .int (f_cap ob0), .int (f_rows ob0), .int (f_direction ob0), .int (f_nulls ob0), .int (f_mode ob0), .int (f_startKind ob0), .int (f_startOff ob0), .int (f_endKind ob0), .int (f_endOff ob0), .int (f_fn ob0), .int (f_fnArg ob0), .int (f_computed ob0), .int (f_sortedLen ob0), .int (f_curPos ob0), .long (f_aggSum ob0), .int (f_aggCount ob0), .int (f_aggRows ob0), .int (f_aggMin ob0), .int (f_aggMax ob0)]]) (none : Option Value) (H0 s r) := by
 unfold F1 at h
 refine zS Ad W 1 (st' := (1, [vR 1, vI x1, none], [.ref 1], [.inr (.inl (.int, s)), .inl [.null, .null, .null, .null, .null, .null, .null, .null, .int (f_cap ob0), .int (f_rows ob0), .int (f_direction ob0), .int (f_nulls ob0), .int (f_mode ob0), .int (f_startKind ob0), .int (f_startOff ob0), .int (f_endKind ob0), .int (f_endOff ob0), .int (f_fn ob0), .int (f_fnArg ob0), .int (f_computed ob0), .int (f_sortedLen ob0), .int (f_curPos ob0), .long (f_aggSum ob0), .int (f_aggCount ob0), .int (f_aggRows ob0), .int (f_aggMin ob0), .int (f_aggMax ob0)]])) rfl ?_
 refine QTri.callO W rfl rfl rfl ?_
 refine zS Ad W 3 (st' := (9, [vR 1, vI x1, none], [.ref 2, .ref 1], [.inr (.inl (.int, s)), .inl [.null, .null, .null, .null, .null, .null, .null, .null, .int (f_cap ob0), .int (f_rows ob0), .int (f_direction ob0), .int (f_nulls ob0), .int (f_mode ob0), .int (f_startKind ob0), .int (f_startOff ob0), .int (f_endKind ob0), .int (f_endOff ob0), .int (f_fn ob0), .int (f_fnArg ob0), .int (f_computed ob0), .int (f_sortedLen ob0), .int (f_curPos ob0), .long (f_aggSum ob0), .int (f_aggCount ob0), .int (f_aggRows ob0), .int (f_aggMin ob0), .int (f_aggMax ob0)], .inr (.inl (.int, (List.replicate 32 0)))])) rfl ?_
 refine zS Ad W 1 (st' := (12, [vR 1, vI x1, none], [], [.inr (.inl (.int, s)), .inl [.ref 2, .null, .null, .null, .null, .null, .null, .null, .int (f_cap ob0), .int (f_rows ob0), .int (f_direction ob0), .int (f_nulls ob0), .int (f_mode ob0), .int (f_startKind ob0), .int (f_startOff ob0), .int (f_endKind ob0), .int (f_endOff ob0), .int (f_fn ob0), .int (f_fnArg ob0), .int (f_computed ob0), .int (f_sortedLen ob0), .int (f_curPos ob0), .long (f_aggSum ob0), .int (f_aggCount ob0), .int (f_aggRows ob0), .int (f_aggMin ob0), .int (f_aggMax ob0)], .inr (.inl (.int, (List.replicate 32 0)))])) rfl ?_
 refine zS Ad W 3 (st' := (17, [vR 1, vI x1, none], [.ref 3, .ref 1], [.inr (.inl (.int, s)), .inl [.ref 2, .null, .null, .null, .null, .null, .null, .null, .int (f_cap ob0), .int (f_rows ob0), .int (f_direction ob0), .int (f_nulls ob0), .int (f_mode ob0), .int (f_startKind ob0), .int (f_startOff ob0), .int (f_endKind ob0), .int (f_endOff ob0), .int (f_fn ob0), .int (f_fnArg ob0), .int (f_computed ob0), .int (f_sortedLen ob0), .int (f_curPos ob0), .long (f_aggSum ob0), .int (f_aggCount ob0), .int (f_aggRows ob0), .int (f_aggMin ob0), .int (f_aggMax ob0)], .inr (.inl (.int, (List.replicate 32 0))), .inr (.inl (.int, (List.replicate 32 0)))])) rfl ?_
 refine zS Ad W 1 (st' := (20, [vR 1, vI x1, none], [], [.inr (.inl (.int, s)), .inl [.ref 2, .ref 3, .null, .null, .null, .null, .null, .null, .int (f_cap ob0), .int (f_rows ob0), .int (f_direction ob0), .int (f_nulls ob0), .int (f_mode ob0), .int (f_startKind ob0), .int (f_startOff ob0), .int (f_endKind ob0), .int (f_endOff ob0), .int (f_fn ob0), .int (f_fnArg ob0), .int (f_computed ob0), .int (f_sortedLen ob0), .int (f_curPos ob0), .long (f_aggSum ob0), .int (f_aggCount ob0), .int (f_aggRows ob0), .int (f_aggMin ob0), .int (f_aggMax ob0)], .inr (.inl (.int, (List.replicate 32 0))), .inr (.inl (.int, (List.replicate 32 0)))])) rfl ?_
 refine zS Ad W 3 (st' := (25, [vR 1, vI x1, none], [.ref 4, .ref 1], [.inr (.inl (.int, s)), .inl [.ref 2, .ref 3, .null, .null, .null, .null, .null, .null, .int (f_cap ob0), .int (f_rows ob0), .int (f_direction ob0), .int (f_nulls ob0), .int (f_mode ob0), .int (f_startKind ob0), .int (f_startOff ob0), .int (f_endKind ob0), .int (f_endOff ob0), .int (f_fn ob0), .int (f_fnArg ob0), .int (f_computed ob0), .int (f_sortedLen ob0), .int (f_curPos ob0), .long (f_aggSum ob0), .int (f_aggCount ob0), .int (f_aggRows ob0), .int (f_aggMin ob0), .int (f_aggMax ob0)], .inr (.inl (.int, (List.replicate 32 0))), .inr (.inl (.int, (List.replicate 32 0))), .inr (.inl (.int, (List.replicate 32 0)))])) rfl ?_
 refine zS Ad W 1 (st' := (28, [vR 1, vI x1, none], [], [.inr (.inl (.int, s)), .inl [.ref 2, .ref 3, .ref 4, .null, .null, .null, .null, .null, .int (f_cap ob0), .int (f_rows ob0), .int (f_direction ob0), .int (f_nulls ob0), .int (f_mode ob0), .int (f_startKind ob0), .int (f_startOff ob0), .int (f_endKind ob0), .int (f_endOff ob0), .int (f_fn ob0), .int (f_fnArg ob0), .int (f_computed ob0), .int (f_sortedLen ob0), .int (f_curPos ob0), .long (f_aggSum ob0), .int (f_aggCount ob0), .int (f_aggRows ob0), .int (f_aggMin ob0), .int (f_aggMax ob0)], .inr (.inl (.int, (List.replicate 32 0))), .inr (.inl (.int, (List.replicate 32 0))), .inr (.inl (.int, (List.replicate 32 0)))])) rfl ?_
 refine zS Ad W 3 (st' := (33, [vR 1, vI x1, none], [.ref 5, .ref 1], [.inr (.inl (.int, s)), .inl [.ref 2, .ref 3, .ref 4, .null, .null, .null, .null, .null, .int (f_cap ob0), .int (f_rows ob0), .int (f_direction ob0), .int (f_nulls ob0), .int (f_mode ob0), .int (f_startKind ob0), .int (f_startOff ob0), .int (f_endKind ob0), .int (f_endOff ob0), .int (f_fn ob0), .int (f_fnArg ob0), .int (f_computed ob0), .int (f_sortedLen ob0), .int (f_curPos ob0), .long (f_aggSum ob0), .int (f_aggCount ob0), .int (f_aggRows ob0), .int (f_aggMin ob0), .int (f_aggMax ob0)], .inr (.inl (.int, (List.replicate 32 0))), .inr (.inl (.int, (List.replicate 32 0))), .inr (.inl (.int, (List.replicate 32 0))), .inr (.inl (.int, (List.replicate 32 0)))])) rfl ?_
 refine zS Ad W 1 (st' := (36, [vR 1, vI x1, none], [], [.inr (.inl (.int, s)), .inl [.ref 2, .ref 3, .ref 4, .ref 5, .null, .null, .null, .null, .int (f_cap ob0), .int (f_rows ob0), .int (f_direction ob0), .int (f_nulls ob0), .int (f_mode ob0), .int (f_startKind ob0), .int (f_startOff ob0), .int (f_endKind ob0), .int (f_endOff ob0), .int (f_fn ob0), .int (f_fnArg ob0), .int (f_computed ob0), .int (f_sortedLen ob0), .int (f_curPos ob0), .long (f_aggSum ob0), .int (f_aggCount ob0), .int (f_aggRows ob0), .int (f_aggMin ob0), .int (f_aggMax ob0)], .inr (.inl (.int, (List.replicate 32 0))), .inr (.inl (.int, (List.replicate 32 0))), .inr (.inl (.int, (List.replicate 32 0))), .inr (.inl (.int, (List.replicate 32 0)))])) rfl ?_
 refine zS Ad W 3 (st' := (41, [vR 1, vI x1, none], [.ref 6, .ref 1], [.inr (.inl (.int, s)), .inl [.ref 2, .ref 3, .ref 4, .ref 5, .null, .null, .null, .null, .int (f_cap ob0), .int (f_rows ob0), .int (f_direction ob0), .int (f_nulls ob0), .int (f_mode ob0), .int (f_startKind ob0), .int (f_startOff ob0), .int (f_endKind ob0), .int (f_endOff ob0), .int (f_fn ob0), .int (f_fnArg ob0), .int (f_computed ob0), .int (f_sortedLen ob0), .int (f_curPos ob0), .long (f_aggSum ob0), .int (f_aggCount ob0), .int (f_aggRows ob0), .int (f_aggMin ob0), .int (f_aggMax ob0)], .inr (.inl (.int, (List.replicate 32 0))), .inr (.inl (.int, (List.replicate 32 0))), .inr (.inl (.int, (List.replicate 32 0))), .inr (.inl (.int, (List.replicate 32 0))), .inr (.inr (List.replicate 32 0))])) rfl ?_
 refine zS Ad W 1 (st' := (44, [vR 1, vI x1, none], [], [.inr (.inl (.int, s)), .inl [.ref 2, .ref 3, .ref 4, .ref 5, .ref 6, .null, .null, .null, .int (f_cap ob0), .int (f_rows ob0), .int (f_direction ob0), .int (f_nulls ob0), .int (f_mode ob0), .int (f_startKind ob0), .int (f_startOff ob0), .int (f_endKind ob0), .int (f_endOff ob0), .int (f_fn ob0), .int (f_fnArg ob0), .int (f_computed ob0), .int (f_sortedLen ob0), .int (f_curPos ob0), .long (f_aggSum ob0), .int (f_aggCount ob0), .int (f_aggRows ob0), .int (f_aggMin ob0), .int (f_aggMax ob0)], .inr (.inl (.int, (List.replicate 32 0))), .inr (.inl (.int, (List.replicate 32 0))), .inr (.inl (.int, (List.replicate 32 0))), .inr (.inl (.int, (List.replicate 32 0))), .inr (.inr (List.replicate 32 0))])) rfl ?_
 refine zS Ad W 3 (st' := (49, [vR 1, vI x1, none], [.ref 7, .ref 1], [.inr (.inl (.int, s)), .inl [.ref 2, .ref 3, .ref 4, .ref 5, .ref 6, .null, .null, .null, .int (f_cap ob0), .int (f_rows ob0), .int (f_direction ob0), .int (f_nulls ob0), .int (f_mode ob0), .int (f_startKind ob0), .int (f_startOff ob0), .int (f_endKind ob0), .int (f_endOff ob0), .int (f_fn ob0), .int (f_fnArg ob0), .int (f_computed ob0), .int (f_sortedLen ob0), .int (f_curPos ob0), .long (f_aggSum ob0), .int (f_aggCount ob0), .int (f_aggRows ob0), .int (f_aggMin ob0), .int (f_aggMax ob0)], .inr (.inl (.int, (List.replicate 32 0))), .inr (.inl (.int, (List.replicate 32 0))), .inr (.inl (.int, (List.replicate 32 0))), .inr (.inl (.int, (List.replicate 32 0))), .inr (.inr (List.replicate 32 0)), .inr (.inl (.boolean, (List.replicate 32 0)))])) rfl ?_
 refine zS Ad W 1 (st' := (52, [vR 1, vI x1, none], [], [.inr (.inl (.int, s)), .inl [.ref 2, .ref 3, .ref 4, .ref 5, .ref 6, .ref 7, .null, .null, .int (f_cap ob0), .int (f_rows ob0), .int (f_direction ob0), .int (f_nulls ob0), .int (f_mode ob0), .int (f_startKind ob0), .int (f_startOff ob0), .int (f_endKind ob0), .int (f_endOff ob0), .int (f_fn ob0), .int (f_fnArg ob0), .int (f_computed ob0), .int (f_sortedLen ob0), .int (f_curPos ob0), .long (f_aggSum ob0), .int (f_aggCount ob0), .int (f_aggRows ob0), .int (f_aggMin ob0), .int (f_aggMax ob0)], .inr (.inl (.int, (List.replicate 32 0))), .inr (.inl (.int, (List.replicate 32 0))), .inr (.inl (.int, (List.replicate 32 0))), .inr (.inl (.int, (List.replicate 32 0))), .inr (.inr (List.replicate 32 0)), .inr (.inl (.boolean, (List.replicate 32 0)))])) rfl ?_
 refine zS Ad W 3 (st' := (57, [vR 1, vI x1, none], [.ref 8, .ref 1], [.inr (.inl (.int, s)), .inl [.ref 2, .ref 3, .ref 4, .ref 5, .ref 6, .ref 7, .null, .null, .int (f_cap ob0), .int (f_rows ob0), .int (f_direction ob0), .int (f_nulls ob0), .int (f_mode ob0), .int (f_startKind ob0), .int (f_startOff ob0), .int (f_endKind ob0), .int (f_endOff ob0), .int (f_fn ob0), .int (f_fnArg ob0), .int (f_computed ob0), .int (f_sortedLen ob0), .int (f_curPos ob0), .long (f_aggSum ob0), .int (f_aggCount ob0), .int (f_aggRows ob0), .int (f_aggMin ob0), .int (f_aggMax ob0)], .inr (.inl (.int, (List.replicate 32 0))), .inr (.inl (.int, (List.replicate 32 0))), .inr (.inl (.int, (List.replicate 32 0))), .inr (.inl (.int, (List.replicate 32 0))), .inr (.inr (List.replicate 32 0)), .inr (.inl (.boolean, (List.replicate 32 0))), .inr (.inl (.int, (List.replicate 32 0)))])) rfl ?_
 refine zS Ad W 1 (st' := (60, [vR 1, vI x1, none], [], [.inr (.inl (.int, s)), .inl [.ref 2, .ref 3, .ref 4, .ref 5, .ref 6, .ref 7, .ref 8, .null, .int (f_cap ob0), .int (f_rows ob0), .int (f_direction ob0), .int (f_nulls ob0), .int (f_mode ob0), .int (f_startKind ob0), .int (f_startOff ob0), .int (f_endKind ob0), .int (f_endOff ob0), .int (f_fn ob0), .int (f_fnArg ob0), .int (f_computed ob0), .int (f_sortedLen ob0), .int (f_curPos ob0), .long (f_aggSum ob0), .int (f_aggCount ob0), .int (f_aggRows ob0), .int (f_aggMin ob0), .int (f_aggMax ob0)], .inr (.inl (.int, (List.replicate 32 0))), .inr (.inl (.int, (List.replicate 32 0))), .inr (.inl (.int, (List.replicate 32 0))), .inr (.inl (.int, (List.replicate 32 0))), .inr (.inr (List.replicate 32 0)), .inr (.inl (.boolean, (List.replicate 32 0))), .inr (.inl (.int, (List.replicate 32 0)))])) rfl ?_
 refine zS Ad W 3 (st' := (65, [vR 1, vI x1, none], [.ref 9, .ref 1], [.inr (.inl (.int, s)), .inl [.ref 2, .ref 3, .ref 4, .ref 5, .ref 6, .ref 7, .ref 8, .null, .int (f_cap ob0), .int (f_rows ob0), .int (f_direction ob0), .int (f_nulls ob0), .int (f_mode ob0), .int (f_startKind ob0), .int (f_startOff ob0), .int (f_endKind ob0), .int (f_endOff ob0), .int (f_fn ob0), .int (f_fnArg ob0), .int (f_computed ob0), .int (f_sortedLen ob0), .int (f_curPos ob0), .long (f_aggSum ob0), .int (f_aggCount ob0), .int (f_aggRows ob0), .int (f_aggMin ob0), .int (f_aggMax ob0)], .inr (.inl (.int, (List.replicate 32 0))), .inr (.inl (.int, (List.replicate 32 0))), .inr (.inl (.int, (List.replicate 32 0))), .inr (.inl (.int, (List.replicate 32 0))), .inr (.inr (List.replicate 32 0)), .inr (.inl (.boolean, (List.replicate 32 0))), .inr (.inl (.int, (List.replicate 32 0))), .inr (.inl (.int, (List.replicate 32 0)))])) rfl ?_
 refine zS Ad W 1 (st' := (68, [vR 1, vI x1, none], [], (H0x0 s ob0 (List.replicate 32 0) (List.replicate 32 0) (List.replicate 32 0) (List.replicate 32 0) (List.replicate 32 0) (List.replicate 32 0) (List.replicate 32 0) (List.replicate 32 0)))) rfl ?_
 refine zS Ad W 4 (st' := (73, [vR 1, vI x1, vI x1], [.int (8:Int32), .int x1], (H0x0 s ob0 (List.replicate 32 0) (List.replicate 32 0) (List.replicate 32 0) (List.replicate 32 0) (List.replicate 32 0) (List.replicate 32 0) (List.replicate 32 0) (List.replicate 32 0)))) rfl ?_
 have K4 : ∀ z3 : Int32, z3 = (if x1 < (8:Int32) then (8:Int32) else x1) → QTri l Z n0 ad 1 (79, [vR 1, none, vI z3], [], (H0x0 s ob0 (List.replicate 32 0) (List.replicate 32 0) (List.replicate 32 0) (List.replicate 32 0) (List.replicate 32 0) (List.replicate 32 0) (List.replicate 32 0) (List.replicate 32 0))) (none : Option Value) (H0 s r) := by
  intro z3 ez3
  subst ez3
  refine zS Ad W 2 (st' := (82, [vR 1, none, vI (if x1 < (8:Int32) then (8:Int32) else x1)], [.int (32:Int32), .int (if x1 < (8:Int32) then (8:Int32) else x1)], (H0x0 s ob0 (List.replicate 32 0) (List.replicate 32 0) (List.replicate 32 0) (List.replicate 32 0) (List.replicate 32 0) (List.replicate 32 0) (List.replicate 32 0) (List.replicate 32 0)))) rfl ?_
  have K7 : ∀ z6 : Int32, z6 = (if (32:Int32) < (if x1 < (8:Int32) then (8:Int32) else x1) then (32:Int32) else (if x1 < (8:Int32) then (8:Int32) else x1)) → QTri l Z n0 ad 1 (88, [vR 1, none, vI z6], [], (H0x0 s ob0 (List.replicate 32 0) (List.replicate 32 0) (List.replicate 32 0) (List.replicate 32 0) (List.replicate 32 0) (List.replicate 32 0) (List.replicate 32 0) (List.replicate 32 0))) (none : Option Value) (H0 s r) := by
   intro z6 ez6
   subst ez6
   refine zS Ad W 3 (st' := (93, [vR 1, none, vI (if (32:Int32) < (if x1 < (8:Int32) then (8:Int32) else x1) then (32:Int32) else (if x1 < (8:Int32) then (8:Int32) else x1))], [], (H0x1 s ob0 (List.replicate 32 0) (List.replicate 32 0) (List.replicate 32 0) (List.replicate 32 0) (List.replicate 32 0) (List.replicate 32 0) (List.replicate 32 0) (List.replicate 32 0) (if (32:Int32) < (if x1 < (8:Int32) then (8:Int32) else x1) then (32:Int32) else (if x1 < (8:Int32) then (8:Int32) else x1))))) rfl ?_
   refine zS Ad W 3 (st' := (98, [vR 1, none, vI (if (32:Int32) < (if x1 < (8:Int32) then (8:Int32) else x1) then (32:Int32) else (if x1 < (8:Int32) then (8:Int32) else x1))], [], (H0x2 s ob0 (List.replicate 32 0) (List.replicate 32 0) (List.replicate 32 0) (List.replicate 32 0) (List.replicate 32 0) (List.replicate 32 0) (List.replicate 32 0) (List.replicate 32 0) (if (32:Int32) < (if x1 < (8:Int32) then (8:Int32) else x1) then (32:Int32) else (if x1 < (8:Int32) then (8:Int32) else x1)) (0:Int32)))) rfl ?_
   refine zS Ad W 1 (st' := (99, [vR 1, none, vI (if (32:Int32) < (if x1 < (8:Int32) then (8:Int32) else x1) then (32:Int32) else (if x1 < (8:Int32) then (8:Int32) else x1))], [.ref 1], (H0x2 s ob0 (List.replicate 32 0) (List.replicate 32 0) (List.replicate 32 0) (List.replicate 32 0) (List.replicate 32 0) (List.replicate 32 0) (List.replicate 32 0) (List.replicate 32 0) (if (32:Int32) < (if x1 < (8:Int32) then (8:Int32) else x1) then (32:Int32) else (if x1 < (8:Int32) then (8:Int32) else x1)) (0:Int32)))) rfl ?_
   have E9 : ((H0x2 s ob0 (List.replicate 32 0) (List.replicate 32 0) (List.replicate 32 0) (List.replicate 32 0) (List.replicate 32 0) (List.replicate 32 0) (List.replicate 32 0) (List.replicate 32 0) (if (32:Int32) < (if x1 < (8:Int32) then (8:Int32) else x1) then (32:Int32) else (if x1 < (8:Int32) then (8:Int32) else x1)) (0:Int32)) : QHeap) = (H0 s (s_rows (s_cap (s_sorted (s_frameCnt (s_resNull (s_res (s_flg (s_vals (s_keys (s_part ob0 (List.replicate 32 0)) (List.replicate 32 0)) (List.replicate 32 0)) (List.replicate 32 0)) (List.replicate 32 0)) (List.replicate 32 0)) (List.replicate 32 0)) (List.replicate 32 0)) (if (32:Int32) < (if x1 < (8:Int32) then (8:Int32) else x1) then (32:Int32) else (if x1 < (8:Int32) then (8:Int32) else x1))) (0:Int32))) := by simp only [fs, H0, H0v, H0x2, s_part, s_keys, s_vals, s_flg, s_res, s_resNull, s_frameCnt, s_sorted, s_cap, s_rows, ob0]
   rw [E9]
   obtain ⟨r11, hr11, h⟩ := bind_eq_some_iff.mp h
   refine QTri.callP W (a := 1) (as := []) (rest := []) (w := none) (σ₁ := (H0 s r11)) rfl rfl rfl rfl rfl rfl rfl rfl (tF2 Ad W s (s_rows (s_cap (s_sorted (s_frameCnt (s_resNull (s_res (s_flg (s_vals (s_keys (s_part ob0 (List.replicate 32 0)) (List.replicate 32 0)) (List.replicate 32 0)) (List.replicate 32 0)) (List.replicate 32 0)) (List.replicate 32 0)) (List.replicate 32 0)) (List.replicate 32 0)) (if (32:Int32) < (if x1 < (8:Int32) then (8:Int32) else x1) then (32:Int32) else (if x1 < (8:Int32) then (8:Int32) else x1))) (0:Int32)) hr11) ?_
   refine zS Ad W 3 (st' := (107, [vR 1, none, vI (if (32:Int32) < (if x1 < (8:Int32) then (8:Int32) else x1) then (32:Int32) else (if x1 < (8:Int32) then (8:Int32) else x1))], [], (H0x12 s r11 (0:Int32)))) rfl ?_
   have E12 : ((H0x12 s r11 (0:Int32)) : QHeap) = (H0 s (s_computed r11 (0:Int32))) := by simp only [fs, H0, H0v, H0x12, s_computed]
   rw [E12]
   obtain rfl := Option.some.inj h
   exact QTri.ret0 rfl rfl
  rcases em ((32:Int32) < (if x1 < (8:Int32) then (8:Int32) else x1)) with hc8 | hc8
  ·refine zF Ad W (t := 88) (f := 85) rfl (XT.ii_le_f hc8) ?_
   refine zS Ad W 2 (st' := (88, [vR 1, none, vI (32:Int32)], [], (H0x0 s ob0 (List.replicate 32 0) (List.replicate 32 0) (List.replicate 32 0) (List.replicate 32 0) (List.replicate 32 0) (List.replicate 32 0) (List.replicate 32 0) (List.replicate 32 0)))) rfl ?_
   exact zM [tt,ff,tt] (K7 _ (if_pos hc8).symm)
  ·refine zT Ad W (t := 88) (f := 85) rfl (XT.ii_le_t hc8) ?_
   exact zM [tt,ff,tt] (K7 _ (if_neg hc8).symm)
 rcases em (x1 < (8:Int32)) with hc5 | hc5
 ·refine zF Ad W (t := 79) (f := 76) rfl (XT.ii_ge_f hc5) ?_
  refine zS Ad W 2 (st' := (79, [vR 1, vI x1, vI (8:Int32)], [], (H0x0 s ob0 (List.replicate 32 0) (List.replicate 32 0) (List.replicate 32 0) (List.replicate 32 0) (List.replicate 32 0) (List.replicate 32 0) (List.replicate 32 0) (List.replicate 32 0)))) rfl ?_
  exact zM [tt,ff,tt] (K4 _ (if_pos hc5).symm)
 ·refine zT Ad W (t := 79) (f := 76) rfl (XT.ii_ge_t hc5) ?_
  exact zM [tt,ff,tt] (K4 _ (if_neg hc5).symm)
def H0x13 (s : List Int32) (o0 : Ob) (a0_9 : Int32) : QHeap := H0v s (f_part o0) (f_keys o0) (f_vals o0) (f_flg o0) (f_res o0) (f_resNull o0) (f_frameCnt o0) (f_sorted o0) (f_cap o0) a0_9 (f_direction o0) (f_nulls o0) (f_mode o0) (f_startKind o0) (f_startOff o0) (f_endKind o0) (f_endOff o0) (f_fn o0) (f_fnArg o0) (f_computed o0) (f_sortedLen o0) (f_curPos o0) (f_aggSum o0) (f_aggCount o0) (f_aggRows o0) (f_aggMin o0) (f_aggMax o0)
def H0x14 (s : List Int32) (o0 : Ob) (a0_9 : Int32) (a0_19 : Int32) : QHeap := H0v s (f_part o0) (f_keys o0) (f_vals o0) (f_flg o0) (f_res o0) (f_resNull o0) (f_frameCnt o0) (f_sorted o0) (f_cap o0) a0_9 (f_direction o0) (f_nulls o0) (f_mode o0) (f_startKind o0) (f_startOff o0) (f_endKind o0) (f_endOff o0) (f_fn o0) (f_fnArg o0) a0_19 (f_sortedLen o0) (f_curPos o0) (f_aggSum o0) (f_aggCount o0) (f_aggRows o0) (f_aggMin o0) (f_aggMax o0)
/-- clear()V -/
def F15 (o : Ob) : Option (Ob) :=
 some (s_computed (s_rows o (0:Int32)) (0:Int32))
theorem tF15 (Ad : QAd n0 ad) (W : QW Z a0) (s : List Int32) (o : Ob) {r : Ob} (h : F15 o = some r) : QTri l Z n0 ad 15 (0, qentry [.ref 1] (pMaxL 15), [], (H0 s o)) (none : Option Value) (H0 s r) := by
 unfold F15 at h
 refine zS Ad W 3 (st' := (5, [vR 1], [], (H0x13 s o (0:Int32)))) rfl ?_
 refine zS Ad W 3 (st' := (10, [vR 1], [], (H0x14 s o (0:Int32) (0:Int32)))) rfl ?_
 have E25 : ((H0x14 s o (0:Int32) (0:Int32)) : QHeap) = (H0 s (s_computed (s_rows o (0:Int32)) (0:Int32))) := by simp only [fs, H0, H0v, H0x14, s_rows, s_computed]
 rw [E25]
 obtain rfl := Option.some.inj h
 exact QTri.ret0 rfl rfl
/-- rowCount()I -/
def F4 (o : Ob) : Option (Int32) :=
 some (f_rows o)
theorem tF4 (Ad : QAd n0 ad) (W : QW Z a0) (s : List Int32) (o : Ob) {r : Int32} (h : F4 o = some r) : QTri l Z n0 ad 4 (0, qentry [.ref 1] (pMaxL 4), [], (H0 s o)) (some (Value.int r)) (H0 s o) := by
 unfold F4 at h
 refine zS Ad W 2 (st' := (4, [vR 1], [.int (f_rows o)], (H0 s o))) rfl ?_
 obtain rfl := Option.some.inj h
 exact QTri.retI rfl rfl
/-- isComputed()Z -/
def F5 (o : Ob) : Option (Int32) :=
 some ((f_computed o) &&& 1)
theorem tF5 (Ad : QAd n0 ad) (W : QW Z a0) (s : List Int32) (o : Ob) {r : Int32} (h : F5 o = some r) : QTri l Z n0 ad 5 (0, qentry [.ref 1] (pMaxL 5), [], (H0 s o)) (some (Value.int r)) (H0 s o) := by
 unfold F5 at h
 refine zS Ad W 2 (st' := (4, [vR 1], [.int (f_computed o)], (H0 s o))) rfl ?_
 obtain rfl := Option.some.inj h
 exact QTri.retZ rfl rfl
/-- getSpec(I)I -/
def F7 (o : Ob) (x1 : Int32) : Option (Int32) :=
 (if x1 = (0:Int32) then some (f_direction o) else (if x1 = (1:Int32) then some (f_nulls o) else (if x1 = (2:Int32) then some (f_mode o) else (if x1 = (3:Int32) then some (f_startKind o) else (if x1 = (4:Int32) then some (f_startOff o) else (if x1 = (5:Int32) then some (f_endKind o) else (if x1 = (6:Int32) then some (f_endOff o) else (if x1 = (7:Int32) then some (f_fn o) else (if x1 = (8:Int32) then some (f_fnArg o) else (if x1 = (9:Int32) then some (f_cap o) else some (-1:Int32)))))))))))
theorem tF7 (Ad : QAd n0 ad) (W : QW Z a0) (s : List Int32) (o : Ob) (x1 : Int32) {r : Int32} (h : F7 o x1 = some r) : QTri l Z n0 ad 7 (0, qentry [.ref 1, .int x1] (pMaxL 7), [], (H0 s o)) (some (Value.int r)) (H0 s o) := by
 unfold F7 at h
 refine zS Ad W 1 (st' := (1, [vR 1, vI x1], [.int x1], (H0 s o))) rfl ?_
 rcases qite h with ⟨hc31, h⟩ | ⟨hc31, h⟩
 ·refine zF Ad W (t := 9) (f := 4) rfl (XT.i0_ne_f hc31) ?_
  refine zS Ad W 2 (st' := (8, [vR 1, vI x1], [.int (f_direction o)], (H0 s o))) rfl ?_
  obtain rfl := Option.some.inj h
  exact QTri.retI rfl rfl
 ·refine zT Ad W (t := 9) (f := 4) rfl (XT.i0_ne_t hc31) ?_
  refine zS Ad W 2 (st' := (11, [vR 1, vI x1], [.int (1:Int32), .int x1], (H0 s o))) rfl ?_
  rcases qite h with ⟨hc32, h⟩ | ⟨hc32, h⟩
  ·refine zF Ad W (t := 19) (f := 14) rfl (XT.ii_ne_f hc32) ?_
   refine zS Ad W 2 (st' := (18, [vR 1, vI x1], [.int (f_nulls o)], (H0 s o))) rfl ?_
   obtain rfl := Option.some.inj h
   exact QTri.retI rfl rfl
  ·refine zT Ad W (t := 19) (f := 14) rfl (XT.ii_ne_t hc32) ?_
   refine zS Ad W 2 (st' := (21, [vR 1, vI x1], [.int (2:Int32), .int x1], (H0 s o))) rfl ?_
   rcases qite h with ⟨hc33, h⟩ | ⟨hc33, h⟩
   ·refine zF Ad W (t := 29) (f := 24) rfl (XT.ii_ne_f hc33) ?_
    refine zS Ad W 2 (st' := (28, [vR 1, vI x1], [.int (f_mode o)], (H0 s o))) rfl ?_
    obtain rfl := Option.some.inj h
    exact QTri.retI rfl rfl
   ·refine zT Ad W (t := 29) (f := 24) rfl (XT.ii_ne_t hc33) ?_
    refine zS Ad W 2 (st' := (31, [vR 1, vI x1], [.int (3:Int32), .int x1], (H0 s o))) rfl ?_
    rcases qite h with ⟨hc34, h⟩ | ⟨hc34, h⟩
    ·refine zF Ad W (t := 39) (f := 34) rfl (XT.ii_ne_f hc34) ?_
     refine zS Ad W 2 (st' := (38, [vR 1, vI x1], [.int (f_startKind o)], (H0 s o))) rfl ?_
     obtain rfl := Option.some.inj h
     exact QTri.retI rfl rfl
    ·refine zT Ad W (t := 39) (f := 34) rfl (XT.ii_ne_t hc34) ?_
     refine zS Ad W 2 (st' := (41, [vR 1, vI x1], [.int (4:Int32), .int x1], (H0 s o))) rfl ?_
     rcases qite h with ⟨hc35, h⟩ | ⟨hc35, h⟩
     ·refine zF Ad W (t := 49) (f := 44) rfl (XT.ii_ne_f hc35) ?_
      refine zS Ad W 2 (st' := (48, [vR 1, vI x1], [.int (f_startOff o)], (H0 s o))) rfl ?_
      obtain rfl := Option.some.inj h
      exact QTri.retI rfl rfl
     ·refine zT Ad W (t := 49) (f := 44) rfl (XT.ii_ne_t hc35) ?_
      refine zS Ad W 2 (st' := (51, [vR 1, vI x1], [.int (5:Int32), .int x1], (H0 s o))) rfl ?_
      rcases qite h with ⟨hc36, h⟩ | ⟨hc36, h⟩
      ·refine zF Ad W (t := 59) (f := 54) rfl (XT.ii_ne_f hc36) ?_
       refine zS Ad W 2 (st' := (58, [vR 1, vI x1], [.int (f_endKind o)], (H0 s o))) rfl ?_
       obtain rfl := Option.some.inj h
       exact QTri.retI rfl rfl
      ·refine zT Ad W (t := 59) (f := 54) rfl (XT.ii_ne_t hc36) ?_
       refine zS Ad W 2 (st' := (62, [vR 1, vI x1], [.int (6:Int32), .int x1], (H0 s o))) rfl ?_
       rcases qite h with ⟨hc37, h⟩ | ⟨hc37, h⟩
       ·refine zF Ad W (t := 70) (f := 65) rfl (XT.ii_ne_f hc37) ?_
        refine zS Ad W 2 (st' := (69, [vR 1, vI x1], [.int (f_endOff o)], (H0 s o))) rfl ?_
        obtain rfl := Option.some.inj h
        exact QTri.retI rfl rfl
       ·refine zT Ad W (t := 70) (f := 65) rfl (XT.ii_ne_t hc37) ?_
        refine zS Ad W 2 (st' := (73, [vR 1, vI x1], [.int (7:Int32), .int x1], (H0 s o))) rfl ?_
        rcases qite h with ⟨hc38, h⟩ | ⟨hc38, h⟩
        ·refine zF Ad W (t := 81) (f := 76) rfl (XT.ii_ne_f hc38) ?_
         refine zS Ad W 2 (st' := (80, [vR 1, vI x1], [.int (f_fn o)], (H0 s o))) rfl ?_
         obtain rfl := Option.some.inj h
         exact QTri.retI rfl rfl
        ·refine zT Ad W (t := 81) (f := 76) rfl (XT.ii_ne_t hc38) ?_
         refine zS Ad W 2 (st' := (84, [vR 1, vI x1], [.int (8:Int32), .int x1], (H0 s o))) rfl ?_
         rcases qite h with ⟨hc39, h⟩ | ⟨hc39, h⟩
         ·refine zF Ad W (t := 92) (f := 87) rfl (XT.ii_ne_f hc39) ?_
          refine zS Ad W 2 (st' := (91, [vR 1, vI x1], [.int (f_fnArg o)], (H0 s o))) rfl ?_
          obtain rfl := Option.some.inj h
          exact QTri.retI rfl rfl
         ·refine zT Ad W (t := 92) (f := 87) rfl (XT.ii_ne_t hc39) ?_
          refine zS Ad W 2 (st' := (95, [vR 1, vI x1], [.int (9:Int32), .int x1], (H0 s o))) rfl ?_
          rcases qite h with ⟨hc40, h⟩ | ⟨hc40, h⟩
          ·refine zF Ad W (t := 103) (f := 98) rfl (XT.ii_ne_f hc40) ?_
           refine zS Ad W 2 (st' := (102, [vR 1, vI x1], [.int (f_cap o)], (H0 s o))) rfl ?_
           obtain rfl := Option.some.inj h
           exact QTri.retI rfl rfl
          ·refine zT Ad W (t := 103) (f := 98) rfl (XT.ii_ne_t hc40) ?_
           refine zS Ad W 1 (st' := (104, [vR 1, vI x1], [.int (-1:Int32)], (H0 s o))) rfl ?_
           obtain rfl := Option.some.inj h
           exact QTri.retI rfl rfl
/-- spec(LWindowFuncEngine;IIIIIIIIII)Z -/
def F6 (o : Ob) (x1 : Int32) (x2 : Int32) (x3 : Int32) (x4 : Int32) (x5 : Int32) (x6 : Int32) (x7 : Int32) (x8 : Int32) (x9 : Int32) (x10 : Int32) : Option (Int32) :=
 (F7 o (0:Int32)).bind fun r41 => (if r41 = x1 then (F7 o (1:Int32)).bind fun r43 => (if r43 = x2 then (F7 o (2:Int32)).bind fun r45 => (if r45 = x3 then (F7 o (3:Int32)).bind fun r47 => (if r47 = x4 then (F7 o (4:Int32)).bind fun r49 => (if r49 = x5 then (F7 o (5:Int32)).bind fun r51 => (if r51 = x6 then (F7 o (6:Int32)).bind fun r53 => (if r53 = x7 then (F7 o (7:Int32)).bind fun r55 => (if r55 = x8 then (F7 o (8:Int32)).bind fun r57 => (if r57 = x9 then (F7 o (9:Int32)).bind fun r59 => (if r59 = x10 then (F7 o (10:Int32)).bind fun r61 => (if r61 = (-1:Int32) then some (1:Int32) else some (0:Int32)) else some (0:Int32)) else some (0:Int32)) else some (0:Int32)) else some (0:Int32)) else some (0:Int32)) else some (0:Int32)) else some (0:Int32)) else some (0:Int32)) else some (0:Int32)) else some (0:Int32))
theorem tF6 (Ad : QAd n0 ad) (W : QW Z a0) (s : List Int32) (o : Ob) (x1 : Int32) (x2 : Int32) (x3 : Int32) (x4 : Int32) (x5 : Int32) (x6 : Int32) (x7 : Int32) (x8 : Int32) (x9 : Int32) (x10 : Int32) {r : Int32} (h : F6 o x1 x2 x3 x4 x5 x6 x7 x8 x9 x10 = some r) : QTri l Z n0 ad 6 (0, qentry [.ref 1, .int x1, .int x2, .int x3, .int x4, .int x5, .int x6, .int x7, .int x8, .int x9, .int x10] (pMaxL 6), [], (H0 s o)) (some (Value.int r)) (H0 s o) := by
 unfold F6 at h
 refine zS Ad W 2 (st' := (2, [vR 1, vI x1, vI x2, vI x3, vI x4, vI x5, vI x6, vI x7, vI x8, vI x9, vI x10], [.int (0:Int32), .ref 1], (H0 s o))) rfl ?_
 obtain ⟨r41, hr41, h⟩ := bind_eq_some_iff.mp h
 refine QTri.callV W (a := 1) (as := [.int (0:Int32)]) (rest := []) (w := (some (.int r41))) (σ₁ := (H0 s o)) rfl rfl rfl rfl rfl rfl rfl rfl (tF7 Ad W s o (0:Int32) hr41) ?_
 refine zS Ad W 1 (st' := (6, [vR 1, vI x1, vI x2, vI x3, vI x4, vI x5, vI x6, vI x7, vI x8, vI x9, vI x10], [.int x1, .int r41], (H0 s o))) rfl ?_
 rcases qite h with ⟨hc42, h⟩ | ⟨hc42, h⟩
 ·refine zF Ad W (t := 115) (f := 9) rfl (XT.ii_ne_f hc42) ?_
  refine zS Ad W 2 (st' := (11, [vR 1, vI x1, vI x2, vI x3, vI x4, vI x5, vI x6, vI x7, vI x8, vI x9, vI x10], [.int (1:Int32), .ref 1], (H0 s o))) rfl ?_
  obtain ⟨r43, hr43, h⟩ := bind_eq_some_iff.mp h
  refine QTri.callV W (a := 1) (as := [.int (1:Int32)]) (rest := []) (w := (some (.int r43))) (σ₁ := (H0 s o)) rfl rfl rfl rfl rfl rfl rfl rfl (tF7 Ad W s o (1:Int32) hr43) ?_
  refine zS Ad W 1 (st' := (15, [vR 1, vI x1, vI x2, vI x3, vI x4, vI x5, vI x6, vI x7, vI x8, vI x9, vI x10], [.int x2, .int r43], (H0 s o))) rfl ?_
  rcases qite h with ⟨hc44, h⟩ | ⟨hc44, h⟩
  ·refine zF Ad W (t := 115) (f := 18) rfl (XT.ii_ne_f hc44) ?_
   refine zS Ad W 2 (st' := (20, [vR 1, vI x1, vI x2, vI x3, vI x4, vI x5, vI x6, vI x7, vI x8, vI x9, vI x10], [.int (2:Int32), .ref 1], (H0 s o))) rfl ?_
   obtain ⟨r45, hr45, h⟩ := bind_eq_some_iff.mp h
   refine QTri.callV W (a := 1) (as := [.int (2:Int32)]) (rest := []) (w := (some (.int r45))) (σ₁ := (H0 s o)) rfl rfl rfl rfl rfl rfl rfl rfl (tF7 Ad W s o (2:Int32) hr45) ?_
   refine zS Ad W 1 (st' := (24, [vR 1, vI x1, vI x2, vI x3, vI x4, vI x5, vI x6, vI x7, vI x8, vI x9, vI x10], [.int x3, .int r45], (H0 s o))) rfl ?_
   rcases qite h with ⟨hc46, h⟩ | ⟨hc46, h⟩
   ·refine zF Ad W (t := 115) (f := 27) rfl (XT.ii_ne_f hc46) ?_
    refine zS Ad W 2 (st' := (29, [vR 1, vI x1, vI x2, vI x3, vI x4, vI x5, vI x6, vI x7, vI x8, vI x9, vI x10], [.int (3:Int32), .ref 1], (H0 s o))) rfl ?_
    obtain ⟨r47, hr47, h⟩ := bind_eq_some_iff.mp h
    refine QTri.callV W (a := 1) (as := [.int (3:Int32)]) (rest := []) (w := (some (.int r47))) (σ₁ := (H0 s o)) rfl rfl rfl rfl rfl rfl rfl rfl (tF7 Ad W s o (3:Int32) hr47) ?_
    refine zS Ad W 1 (st' := (34, [vR 1, vI x1, vI x2, vI x3, vI x4, vI x5, vI x6, vI x7, vI x8, vI x9, vI x10], [.int x4, .int r47], (H0 s o))) rfl ?_
    rcases qite h with ⟨hc48, h⟩ | ⟨hc48, h⟩
    ·refine zF Ad W (t := 115) (f := 37) rfl (XT.ii_ne_f hc48) ?_
     refine zS Ad W 2 (st' := (39, [vR 1, vI x1, vI x2, vI x3, vI x4, vI x5, vI x6, vI x7, vI x8, vI x9, vI x10], [.int (4:Int32), .ref 1], (H0 s o))) rfl ?_
     obtain ⟨r49, hr49, h⟩ := bind_eq_some_iff.mp h
     refine QTri.callV W (a := 1) (as := [.int (4:Int32)]) (rest := []) (w := (some (.int r49))) (σ₁ := (H0 s o)) rfl rfl rfl rfl rfl rfl rfl rfl (tF7 Ad W s o (4:Int32) hr49) ?_
     refine zS Ad W 1 (st' := (44, [vR 1, vI x1, vI x2, vI x3, vI x4, vI x5, vI x6, vI x7, vI x8, vI x9, vI x10], [.int x5, .int r49], (H0 s o))) rfl ?_
     rcases qite h with ⟨hc50, h⟩ | ⟨hc50, h⟩
     ·refine zF Ad W (t := 115) (f := 47) rfl (XT.ii_ne_f hc50) ?_
      refine zS Ad W 2 (st' := (49, [vR 1, vI x1, vI x2, vI x3, vI x4, vI x5, vI x6, vI x7, vI x8, vI x9, vI x10], [.int (5:Int32), .ref 1], (H0 s o))) rfl ?_
      obtain ⟨r51, hr51, h⟩ := bind_eq_some_iff.mp h
      refine QTri.callV W (a := 1) (as := [.int (5:Int32)]) (rest := []) (w := (some (.int r51))) (σ₁ := (H0 s o)) rfl rfl rfl rfl rfl rfl rfl rfl (tF7 Ad W s o (5:Int32) hr51) ?_
      refine zS Ad W 1 (st' := (54, [vR 1, vI x1, vI x2, vI x3, vI x4, vI x5, vI x6, vI x7, vI x8, vI x9, vI x10], [.int x6, .int r51], (H0 s o))) rfl ?_
      rcases qite h with ⟨hc52, h⟩ | ⟨hc52, h⟩
      ·refine zF Ad W (t := 115) (f := 57) rfl (XT.ii_ne_f hc52) ?_
       refine zS Ad W 2 (st' := (60, [vR 1, vI x1, vI x2, vI x3, vI x4, vI x5, vI x6, vI x7, vI x8, vI x9, vI x10], [.int (6:Int32), .ref 1], (H0 s o))) rfl ?_
       obtain ⟨r53, hr53, h⟩ := bind_eq_some_iff.mp h
       refine QTri.callV W (a := 1) (as := [.int (6:Int32)]) (rest := []) (w := (some (.int r53))) (σ₁ := (H0 s o)) rfl rfl rfl rfl rfl rfl rfl rfl (tF7 Ad W s o (6:Int32) hr53) ?_
       refine zS Ad W 1 (st' := (65, [vR 1, vI x1, vI x2, vI x3, vI x4, vI x5, vI x6, vI x7, vI x8, vI x9, vI x10], [.int x7, .int r53], (H0 s o))) rfl ?_
       rcases qite h with ⟨hc54, h⟩ | ⟨hc54, h⟩
       ·refine zF Ad W (t := 115) (f := 68) rfl (XT.ii_ne_f hc54) ?_
        refine zS Ad W 2 (st' := (71, [vR 1, vI x1, vI x2, vI x3, vI x4, vI x5, vI x6, vI x7, vI x8, vI x9, vI x10], [.int (7:Int32), .ref 1], (H0 s o))) rfl ?_
        obtain ⟨r55, hr55, h⟩ := bind_eq_some_iff.mp h
        refine QTri.callV W (a := 1) (as := [.int (7:Int32)]) (rest := []) (w := (some (.int r55))) (σ₁ := (H0 s o)) rfl rfl rfl rfl rfl rfl rfl rfl (tF7 Ad W s o (7:Int32) hr55) ?_
        refine zS Ad W 1 (st' := (76, [vR 1, vI x1, vI x2, vI x3, vI x4, vI x5, vI x6, vI x7, vI x8, vI x9, vI x10], [.int x8, .int r55], (H0 s o))) rfl ?_
        rcases qite h with ⟨hc56, h⟩ | ⟨hc56, h⟩
        ·refine zF Ad W (t := 115) (f := 79) rfl (XT.ii_ne_f hc56) ?_
         refine zS Ad W 2 (st' := (82, [vR 1, vI x1, vI x2, vI x3, vI x4, vI x5, vI x6, vI x7, vI x8, vI x9, vI x10], [.int (8:Int32), .ref 1], (H0 s o))) rfl ?_
         obtain ⟨r57, hr57, h⟩ := bind_eq_some_iff.mp h
         refine QTri.callV W (a := 1) (as := [.int (8:Int32)]) (rest := []) (w := (some (.int r57))) (σ₁ := (H0 s o)) rfl rfl rfl rfl rfl rfl rfl rfl (tF7 Ad W s o (8:Int32) hr57) ?_
         refine zS Ad W 1 (st' := (87, [vR 1, vI x1, vI x2, vI x3, vI x4, vI x5, vI x6, vI x7, vI x8, vI x9, vI x10], [.int x9, .int r57], (H0 s o))) rfl ?_
         rcases qite h with ⟨hc58, h⟩ | ⟨hc58, h⟩
         ·refine zF Ad W (t := 115) (f := 90) rfl (XT.ii_ne_f hc58) ?_
          refine zS Ad W 2 (st' := (93, [vR 1, vI x1, vI x2, vI x3, vI x4, vI x5, vI x6, vI x7, vI x8, vI x9, vI x10], [.int (9:Int32), .ref 1], (H0 s o))) rfl ?_
          obtain ⟨r59, hr59, h⟩ := bind_eq_some_iff.mp h
          refine QTri.callV W (a := 1) (as := [.int (9:Int32)]) (rest := []) (w := (some (.int r59))) (σ₁ := (H0 s o)) rfl rfl rfl rfl rfl rfl rfl rfl (tF7 Ad W s o (9:Int32) hr59) ?_
          refine zS Ad W 1 (st' := (98, [vR 1, vI x1, vI x2, vI x3, vI x4, vI x5, vI x6, vI x7, vI x8, vI x9, vI x10], [.int x10, .int r59], (H0 s o))) rfl ?_
          rcases qite h with ⟨hc60, h⟩ | ⟨hc60, h⟩
          ·refine zF Ad W (t := 115) (f := 101) rfl (XT.ii_ne_f hc60) ?_
           refine zS Ad W 2 (st' := (104, [vR 1, vI x1, vI x2, vI x3, vI x4, vI x5, vI x6, vI x7, vI x8, vI x9, vI x10], [.int (10:Int32), .ref 1], (H0 s o))) rfl ?_
           obtain ⟨r61, hr61, h⟩ := bind_eq_some_iff.mp h
           refine QTri.callV W (a := 1) (as := [.int (10:Int32)]) (rest := []) (w := (some (.int r61))) (σ₁ := (H0 s o)) rfl rfl rfl rfl rfl rfl rfl rfl (tF7 Ad W s o (10:Int32) hr61) ?_
           refine zS Ad W 1 (st' := (108, [vR 1, vI x1, vI x2, vI x3, vI x4, vI x5, vI x6, vI x7, vI x8, vI x9, vI x10], [.int (-1:Int32), .int r61], (H0 s o))) rfl ?_
           rcases qite h with ⟨hc62, h⟩ | ⟨hc62, h⟩
           ·refine zF Ad W (t := 115) (f := 111) rfl (XT.ii_ne_f hc62) ?_
            refine zS Ad W 2 (st' := (116, [vR 1, vI x1, vI x2, vI x3, vI x4, vI x5, vI x6, vI x7, vI x8, vI x9, vI x10], [.int (1:Int32)], (H0 s o))) rfl ?_
            obtain rfl := Option.some.inj h
            exact QTri.retZ rfl rfl
           ·refine zT Ad W (t := 115) (f := 111) rfl (XT.ii_ne_t hc62) ?_
            refine zS Ad W 1 (st' := (116, [vR 1, vI x1, vI x2, vI x3, vI x4, vI x5, vI x6, vI x7, vI x8, vI x9, vI x10], [.int (0:Int32)], (H0 s o))) rfl ?_
            obtain rfl := Option.some.inj h
            exact QTri.retZ rfl rfl
          ·refine zT Ad W (t := 115) (f := 101) rfl (XT.ii_ne_t hc60) ?_
           refine zS Ad W 1 (st' := (116, [vR 1, vI x1, vI x2, vI x3, vI x4, vI x5, vI x6, vI x7, vI x8, vI x9, vI x10], [.int (0:Int32)], (H0 s o))) rfl ?_
           obtain rfl := Option.some.inj h
           exact QTri.retZ rfl rfl
         ·refine zT Ad W (t := 115) (f := 90) rfl (XT.ii_ne_t hc58) ?_
          refine zS Ad W 1 (st' := (116, [vR 1, vI x1, vI x2, vI x3, vI x4, vI x5, vI x6, vI x7, vI x8, vI x9, vI x10], [.int (0:Int32)], (H0 s o))) rfl ?_
          obtain rfl := Option.some.inj h
          exact QTri.retZ rfl rfl
        ·refine zT Ad W (t := 115) (f := 79) rfl (XT.ii_ne_t hc56) ?_
         refine zS Ad W 1 (st' := (116, [vR 1, vI x1, vI x2, vI x3, vI x4, vI x5, vI x6, vI x7, vI x8, vI x9, vI x10], [.int (0:Int32)], (H0 s o))) rfl ?_
         obtain rfl := Option.some.inj h
         exact QTri.retZ rfl rfl
       ·refine zT Ad W (t := 115) (f := 68) rfl (XT.ii_ne_t hc54) ?_
        refine zS Ad W 1 (st' := (116, [vR 1, vI x1, vI x2, vI x3, vI x4, vI x5, vI x6, vI x7, vI x8, vI x9, vI x10], [.int (0:Int32)], (H0 s o))) rfl ?_
        obtain rfl := Option.some.inj h
        exact QTri.retZ rfl rfl
      ·refine zT Ad W (t := 115) (f := 57) rfl (XT.ii_ne_t hc52) ?_
       refine zS Ad W 1 (st' := (116, [vR 1, vI x1, vI x2, vI x3, vI x4, vI x5, vI x6, vI x7, vI x8, vI x9, vI x10], [.int (0:Int32)], (H0 s o))) rfl ?_
       obtain rfl := Option.some.inj h
       exact QTri.retZ rfl rfl
     ·refine zT Ad W (t := 115) (f := 47) rfl (XT.ii_ne_t hc50) ?_
      refine zS Ad W 1 (st' := (116, [vR 1, vI x1, vI x2, vI x3, vI x4, vI x5, vI x6, vI x7, vI x8, vI x9, vI x10], [.int (0:Int32)], (H0 s o))) rfl ?_
      obtain rfl := Option.some.inj h
      exact QTri.retZ rfl rfl
    ·refine zT Ad W (t := 115) (f := 37) rfl (XT.ii_ne_t hc48) ?_
     refine zS Ad W 1 (st' := (116, [vR 1, vI x1, vI x2, vI x3, vI x4, vI x5, vI x6, vI x7, vI x8, vI x9, vI x10], [.int (0:Int32)], (H0 s o))) rfl ?_
     obtain rfl := Option.some.inj h
     exact QTri.retZ rfl rfl
   ·refine zT Ad W (t := 115) (f := 27) rfl (XT.ii_ne_t hc46) ?_
    refine zS Ad W 1 (st' := (116, [vR 1, vI x1, vI x2, vI x3, vI x4, vI x5, vI x6, vI x7, vI x8, vI x9, vI x10], [.int (0:Int32)], (H0 s o))) rfl ?_
    obtain rfl := Option.some.inj h
    exact QTri.retZ rfl rfl
  ·refine zT Ad W (t := 115) (f := 18) rfl (XT.ii_ne_t hc44) ?_
   refine zS Ad W 1 (st' := (116, [vR 1, vI x1, vI x2, vI x3, vI x4, vI x5, vI x6, vI x7, vI x8, vI x9, vI x10], [.int (0:Int32)], (H0 s o))) rfl ?_
   obtain rfl := Option.some.inj h
   exact QTri.retZ rfl rfl
 ·refine zT Ad W (t := 115) (f := 9) rfl (XT.ii_ne_t hc42) ?_
  refine zS Ad W 1 (st' := (116, [vR 1, vI x1, vI x2, vI x3, vI x4, vI x5, vI x6, vI x7, vI x8, vI x9, vI x10], [.int (0:Int32)], (H0 s o))) rfl ?_
  obtain rfl := Option.some.inj h
  exact QTri.retZ rfl rfl
/-- getRowField(II)I -/
def F8 (o : Ob) (x1 : Int32) (x2 : Int32) : Option (Int32) :=
 (if x1 < (0:Int32) then some (0:Int32) else (if x1 < (f_rows o) then (if x2 = (0:Int32) then (aget (f_part o) x1).bind fun y69 => some y69 else (if x2 = (1:Int32) then (aget (f_keys o) x1).bind fun y71 => some y71 else (if x2 = (2:Int32) then (aget (f_vals o) x1).bind fun y73 => some y73 else (if x2 = (3:Int32) then (aget (f_flg o) x1).bind fun y75 => some y75 else some (0:Int32))))) else some (0:Int32)))
theorem tF8 (Ad : QAd n0 ad) (W : QW Z a0) (s : List Int32) (o : Ob) (x1 : Int32) (x2 : Int32) {r : Int32} (h : F8 o x1 x2 = some r) : QTri l Z n0 ad 8 (0, qentry [.ref 1, .int x1, .int x2] (pMaxL 8), [], (H0 s o)) (some (Value.int r)) (H0 s o) := by
 unfold F8 at h
 refine zS Ad W 1 (st' := (1, [vR 1, vI x1, vI x2], [.int x1], (H0 s o))) rfl ?_
 rcases qite h with ⟨hc66, h⟩ | ⟨hc66, h⟩
 ·refine zT Ad W (t := 12) (f := 4) rfl (XT.i0_lt_t hc66) ?_
  refine zS Ad W 1 (st' := (13, [vR 1, vI x1, vI x2], [.int (0:Int32)], (H0 s o))) rfl ?_
  obtain rfl := Option.some.inj h
  exact QTri.retI rfl rfl
 ·refine zF Ad W (t := 12) (f := 4) rfl (XT.i0_lt_f hc66) ?_
  refine zS Ad W 3 (st' := (9, [vR 1, vI x1, vI x2], [.int (f_rows o), .int x1], (H0 s o))) rfl ?_
  rcases qite h with ⟨hc67, h⟩ | ⟨hc67, h⟩
  ·refine zT Ad W (t := 14) (f := 12) rfl (XT.ii_lt_t hc67) ?_
   refine zS Ad W 1 (st' := (15, [vR 1, vI x1, vI x2], [.int x2], (H0 s o))) rfl ?_
   rcases qite h with ⟨hc68, h⟩ | ⟨hc68, h⟩
   ·refine zF Ad W (t := 25) (f := 18) rfl (XT.i0_ne_f hc68) ?_
    refine zS Ad W 3 (st' := (23, [vR 1, vI x1, vI x2], [.int x1, .ref 2], (H0 s o))) rfl ?_
    obtain ⟨y69, hy69, h⟩ := bind_eq_some_iff.mp h
    refine zB Ad W (f := fun y69 => (24, [vR 1, vI x1, vI x2], [.int y69], (H0 s o))) rfl hy69 ?_
    obtain rfl := Option.some.inj h
    exact QTri.retI rfl rfl
   ·refine zT Ad W (t := 25) (f := 18) rfl (XT.i0_ne_t hc68) ?_
    refine zS Ad W 2 (st' := (27, [vR 1, vI x1, vI x2], [.int (1:Int32), .int x2], (H0 s o))) rfl ?_
    rcases qite h with ⟨hc70, h⟩ | ⟨hc70, h⟩
    ·refine zF Ad W (t := 37) (f := 30) rfl (XT.ii_ne_f hc70) ?_
     refine zS Ad W 3 (st' := (35, [vR 1, vI x1, vI x2], [.int x1, .ref 3], (H0 s o))) rfl ?_
     obtain ⟨y71, hy71, h⟩ := bind_eq_some_iff.mp h
     refine zB Ad W (f := fun y71 => (36, [vR 1, vI x1, vI x2], [.int y71], (H0 s o))) rfl hy71 ?_
     obtain rfl := Option.some.inj h
     exact QTri.retI rfl rfl
    ·refine zT Ad W (t := 37) (f := 30) rfl (XT.ii_ne_t hc70) ?_
     refine zS Ad W 2 (st' := (39, [vR 1, vI x1, vI x2], [.int (2:Int32), .int x2], (H0 s o))) rfl ?_
     rcases qite h with ⟨hc72, h⟩ | ⟨hc72, h⟩
     ·refine zF Ad W (t := 49) (f := 42) rfl (XT.ii_ne_f hc72) ?_
      refine zS Ad W 3 (st' := (47, [vR 1, vI x1, vI x2], [.int x1, .ref 4], (H0 s o))) rfl ?_
      obtain ⟨y73, hy73, h⟩ := bind_eq_some_iff.mp h
      refine zB Ad W (f := fun y73 => (48, [vR 1, vI x1, vI x2], [.int y73], (H0 s o))) rfl hy73 ?_
      obtain rfl := Option.some.inj h
      exact QTri.retI rfl rfl
     ·refine zT Ad W (t := 49) (f := 42) rfl (XT.ii_ne_t hc72) ?_
      refine zS Ad W 2 (st' := (51, [vR 1, vI x1, vI x2], [.int (3:Int32), .int x2], (H0 s o))) rfl ?_
      rcases qite h with ⟨hc74, h⟩ | ⟨hc74, h⟩
      ·refine zF Ad W (t := 61) (f := 54) rfl (XT.ii_ne_f hc74) ?_
       refine zS Ad W 3 (st' := (59, [vR 1, vI x1, vI x2], [.int x1, .ref 5], (H0 s o))) rfl ?_
       obtain ⟨y75, hy75, h⟩ := bind_eq_some_iff.mp h
       refine zB Ad W (f := fun y75 => (60, [vR 1, vI x1, vI x2], [.int y75], (H0 s o))) rfl hy75 ?_
       obtain rfl := Option.some.inj h
       exact QTri.retI rfl rfl
      ·refine zT Ad W (t := 61) (f := 54) rfl (XT.ii_ne_t hc74) ?_
       refine zS Ad W 1 (st' := (62, [vR 1, vI x1, vI x2], [.int (0:Int32)], (H0 s o))) rfl ?_
       obtain rfl := Option.some.inj h
       exact QTri.retI rfl rfl
  ·refine zF Ad W (t := 14) (f := 12) rfl (XT.ii_lt_f hc67) ?_
   refine zS Ad W 1 (st' := (13, [vR 1, vI x1, vI x2], [.int (0:Int32)], (H0 s o))) rfl ?_
   obtain rfl := Option.some.inj h
   exact QTri.retI rfl rfl
/-- getFrameCount(I)I -/
def F9 (o : Ob) (x1 : Int32) : Option (Int32) :=
 (if (f_computed o) = (0:Int32) then some (-1:Int32) else (if x1 < (0:Int32) then some (-1:Int32) else (if x1 < (f_rows o) then (aget (f_frameCnt o) x1).bind fun y89 => some y89 else some (-1:Int32))))
theorem tF9 (Ad : QAd n0 ad) (W : QW Z a0) (s : List Int32) (o : Ob) (x1 : Int32) {r : Int32} (h : F9 o x1 = some r) : QTri l Z n0 ad 9 (0, qentry [.ref 1, .int x1] (pMaxL 9), [], (H0 s o)) (some (Value.int r)) (H0 s o) := by
 unfold F9 at h
 refine zS Ad W 2 (st' := (4, [vR 1, vI x1], [.int (f_computed o)], (H0 s o))) rfl ?_
 rcases qite h with ⟨hc86, h⟩ | ⟨hc86, h⟩
 ·refine zT Ad W (t := 19) (f := 7) rfl (XT.i0_eq_t hc86) ?_
  refine zS Ad W 1 (st' := (20, [vR 1, vI x1], [.int (-1:Int32)], (H0 s o))) rfl ?_
  obtain rfl := Option.some.inj h
  exact QTri.retI rfl rfl
 ·refine zF Ad W (t := 19) (f := 7) rfl (XT.i0_eq_f hc86) ?_
  refine zS Ad W 1 (st' := (8, [vR 1, vI x1], [.int x1], (H0 s o))) rfl ?_
  rcases qite h with ⟨hc87, h⟩ | ⟨hc87, h⟩
  ·refine zT Ad W (t := 19) (f := 11) rfl (XT.i0_lt_t hc87) ?_
   refine zS Ad W 1 (st' := (20, [vR 1, vI x1], [.int (-1:Int32)], (H0 s o))) rfl ?_
   obtain rfl := Option.some.inj h
   exact QTri.retI rfl rfl
  ·refine zF Ad W (t := 19) (f := 11) rfl (XT.i0_lt_f hc87) ?_
   refine zS Ad W 3 (st' := (16, [vR 1, vI x1], [.int (f_rows o), .int x1], (H0 s o))) rfl ?_
   rcases qite h with ⟨hc88, h⟩ | ⟨hc88, h⟩
   ·refine zT Ad W (t := 21) (f := 19) rfl (XT.ii_lt_t hc88) ?_
    refine zS Ad W 3 (st' := (26, [vR 1, vI x1], [.int x1, .ref 8], (H0 s o))) rfl ?_
    obtain ⟨y89, hy89, h⟩ := bind_eq_some_iff.mp h
    refine zB Ad W (f := fun y89 => (27, [vR 1, vI x1], [.int y89], (H0 s o))) rfl hy89 ?_
    obtain rfl := Option.some.inj h
    exact QTri.retI rfl rfl
   ·refine zF Ad W (t := 21) (f := 19) rfl (XT.ii_lt_f hc88) ?_
    refine zS Ad W 1 (st' := (20, [vR 1, vI x1], [.int (-1:Int32)], (H0 s o))) rfl ?_
    obtain rfl := Option.some.inj h
    exact QTri.retI rfl rfl
/-- getResult(I)J -/
def F10 (o : Ob) (x1 : Int32) : Option (Int64) :=
 (if (f_computed o) = (0:Int32) then some (0 : Int64) else (if x1 < (0:Int32) then some (0 : Int64) else (if x1 < (f_rows o) then (aget (f_resNull o) x1).bind fun y95 => (if y95 = (0:Int32) then (aget (f_res o) x1).bind fun y97 => some y97 else some (0 : Int64)) else some (0 : Int64))))
theorem tF10 (Ad : QAd n0 ad) (W : QW Z a0) (s : List Int32) (o : Ob) (x1 : Int32) {r : Int64} (h : F10 o x1 = some r) : QTri l Z n0 ad 10 (0, qentry [.ref 1, .int x1] (pMaxL 10), [], (H0 s o)) (some (Value.long r)) (H0 s o) := by
 unfold F10 at h
 refine zS Ad W 2 (st' := (4, [vR 1, vI x1], [.int (f_computed o)], (H0 s o))) rfl ?_
 rcases qite h with ⟨hc92, h⟩ | ⟨hc92, h⟩
 ·refine zT Ad W (t := 19) (f := 7) rfl (XT.i0_eq_t hc92) ?_
  refine zS Ad W 1 (st' := (20, [vR 1, vI x1], [.long (0 : Int64)], (H0 s o))) rfl ?_
  obtain rfl := Option.some.inj h
  exact QTri.retJ rfl rfl
 ·refine zF Ad W (t := 19) (f := 7) rfl (XT.i0_eq_f hc92) ?_
  refine zS Ad W 1 (st' := (8, [vR 1, vI x1], [.int x1], (H0 s o))) rfl ?_
  rcases qite h with ⟨hc93, h⟩ | ⟨hc93, h⟩
  ·refine zT Ad W (t := 19) (f := 11) rfl (XT.i0_lt_t hc93) ?_
   refine zS Ad W 1 (st' := (20, [vR 1, vI x1], [.long (0 : Int64)], (H0 s o))) rfl ?_
   obtain rfl := Option.some.inj h
   exact QTri.retJ rfl rfl
  ·refine zF Ad W (t := 19) (f := 11) rfl (XT.i0_lt_f hc93) ?_
   refine zS Ad W 3 (st' := (16, [vR 1, vI x1], [.int (f_rows o), .int x1], (H0 s o))) rfl ?_
   rcases qite h with ⟨hc94, h⟩ | ⟨hc94, h⟩
   ·refine zT Ad W (t := 21) (f := 19) rfl (XT.ii_lt_t hc94) ?_
    refine zS Ad W 3 (st' := (26, [vR 1, vI x1], [.int x1, .ref 7], (H0 s o))) rfl ?_
    obtain ⟨y95, hy95, h⟩ := bind_eq_some_iff.mp h
    refine zB Ad W (f := fun y95 => (27, [vR 1, vI x1], [.int y95], (H0 s o))) rfl hy95 ?_
    rcases qite h with ⟨hc96, h⟩ | ⟨hc96, h⟩
    ·refine zT Ad W (t := 32) (f := 30) rfl (XT.i0_eq_t hc96) ?_
     refine zS Ad W 3 (st' := (37, [vR 1, vI x1], [.int x1, .ref 6], (H0 s o))) rfl ?_
     obtain ⟨y97, hy97, h⟩ := bind_eq_some_iff.mp h
     refine zB Ad W (f := fun y97 => (38, [vR 1, vI x1], [.long y97], (H0 s o))) rfl hy97 ?_
     obtain rfl := Option.some.inj h
     exact QTri.retJ rfl rfl
    ·refine zF Ad W (t := 32) (f := 30) rfl (XT.i0_eq_f hc96) ?_
     refine zS Ad W 1 (st' := (31, [vR 1, vI x1], [.long (0 : Int64)], (H0 s o))) rfl ?_
     obtain rfl := Option.some.inj h
     exact QTri.retJ rfl rfl
   ·refine zF Ad W (t := 21) (f := 19) rfl (XT.ii_lt_f hc94) ?_
    refine zS Ad W 1 (st' := (20, [vR 1, vI x1], [.long (0 : Int64)], (H0 s o))) rfl ?_
    obtain rfl := Option.some.inj h
    exact QTri.retJ rfl rfl
/-- isResultNull(I)Z -/
def F11 (o : Ob) (x1 : Int32) : Option (Int32) :=
 (if (f_computed o) = (0:Int32) then some (0:Int32) else (if x1 < (0:Int32) then some (0:Int32) else (if x1 < (f_rows o) then (aget (f_resNull o) x1).bind fun y103 => some (y103 &&& 1) else some (0:Int32))))
theorem tF11 (Ad : QAd n0 ad) (W : QW Z a0) (s : List Int32) (o : Ob) (x1 : Int32) {r : Int32} (h : F11 o x1 = some r) : QTri l Z n0 ad 11 (0, qentry [.ref 1, .int x1] (pMaxL 11), [], (H0 s o)) (some (Value.int r)) (H0 s o) := by
 unfold F11 at h
 refine zS Ad W 2 (st' := (4, [vR 1, vI x1], [.int (f_computed o)], (H0 s o))) rfl ?_
 rcases qite h with ⟨hc100, h⟩ | ⟨hc100, h⟩
 ·refine zT Ad W (t := 19) (f := 7) rfl (XT.i0_eq_t hc100) ?_
  refine zS Ad W 1 (st' := (20, [vR 1, vI x1], [.int (0:Int32)], (H0 s o))) rfl ?_
  obtain rfl := Option.some.inj h
  exact QTri.retZ rfl rfl
 ·refine zF Ad W (t := 19) (f := 7) rfl (XT.i0_eq_f hc100) ?_
  refine zS Ad W 1 (st' := (8, [vR 1, vI x1], [.int x1], (H0 s o))) rfl ?_
  rcases qite h with ⟨hc101, h⟩ | ⟨hc101, h⟩
  ·refine zT Ad W (t := 19) (f := 11) rfl (XT.i0_lt_t hc101) ?_
   refine zS Ad W 1 (st' := (20, [vR 1, vI x1], [.int (0:Int32)], (H0 s o))) rfl ?_
   obtain rfl := Option.some.inj h
   exact QTri.retZ rfl rfl
  ·refine zF Ad W (t := 19) (f := 11) rfl (XT.i0_lt_f hc101) ?_
   refine zS Ad W 3 (st' := (16, [vR 1, vI x1], [.int (f_rows o), .int x1], (H0 s o))) rfl ?_
   rcases qite h with ⟨hc102, h⟩ | ⟨hc102, h⟩
   ·refine zT Ad W (t := 21) (f := 19) rfl (XT.ii_lt_t hc102) ?_
    refine zS Ad W 3 (st' := (26, [vR 1, vI x1], [.int x1, .ref 7], (H0 s o))) rfl ?_
    obtain ⟨y103, hy103, h⟩ := bind_eq_some_iff.mp h
    refine zB Ad W (f := fun y103 => (27, [vR 1, vI x1], [.int y103], (H0 s o))) rfl hy103 ?_
    obtain rfl := Option.some.inj h
    exact QTri.retZ rfl rfl
   ·refine zF Ad W (t := 21) (f := 19) rfl (XT.ii_lt_f hc102) ?_
    refine zS Ad W 1 (st' := (20, [vR 1, vI x1], [.int (0:Int32)], (H0 s o))) rfl ?_
    obtain rfl := Option.some.inj h
    exact QTri.retZ rfl rfl
def J0_1098 (s : List Int32) (p0 : Ob) (x3 : Int32) (x4 : Int32) (x5 : Int32) (x6 : Int32) (x7 : Int32) (x8 : Int32) (x9 : Int32) (x10 : Int32) (x11 : Int32) (x12 : Int32) (x13 : Int32) (x14 : Int32) (x15 : Int32) (x16 : Int32) (x17 : Int32) (x18 : Int32) (x19 : Int32) (x25 : Int32) : Option (((Unit) ⊕ (Int32 × QHeap)) ⊕ (Int32)) :=
  some (.inr (x25 + (1 : Int32)))
theorem tJ0_1098 (Ad : QAd n0 ad) (W : QW Z a0) (s : List Int32) (p0 : Ob) (x3 : Int32) (x4 : Int32) (x5 : Int32) (x6 : Int32) (x7 : Int32) (x8 : Int32) (x9 : Int32) (x10 : Int32) (x11 : Int32) (x12 : Int32) (x13 : Int32) (x14 : Int32) (x15 : Int32) (x16 : Int32) (x17 : Int32) (x18 : Int32) (x19 : Int32) (x25 : Int32) {r : ((Unit) ⊕ (Int32 × QHeap)) ⊕ (Int32)} {u : Option Value} {τ : QHeap} (h : J0_1098 s p0 x3 x4 x5 x6 x7 x8 x9 x10 x11 x12 x13 x14 x15 x16 x17 x18 x19 x25 = some r) (hx0 : ∀ x : Unit, r = .inl (Sum.inl x) → QTri l Z n0 ad 0 (1104, [vR 0, none, vR 1, vI x3, vI x4, vI x5, vI x6, vI x7, vI x8, vI x9, vI x10, vI x11, vI x12, vI x13, vI x14, vI x15, vI x16, vI x17, vI x18, vI x19, none, none, none, none, none, none, none, none, none, none], [], (H0 s p0)) u τ) (hx1 : ∀ x : Int32 × QHeap, r = .inl (Sum.inr x) → u = (some (Value.int x.1)) ∧ τ = x.2) (hc : ∀ x : Int32, r = .inr x → QTri l Z n0 ad 0 (947, [vR 0, none, vR 1, vI x3, vI x4, vI x5, vI x6, vI x7, vI x8, vI x9, vI x10, vI x11, vI x12, vI x13, vI x14, vI x15, vI x16, vI x17, vI x18, vI x19, none, none, none, none, none, vI x, none, none, none, none], [], (H0 s p0)) u τ) : QTri l Z n0 ad 0 (1098, [vR 0, none, vR 1, vI x3, vI x4, vI x5, vI x6, vI x7, vI x8, vI x9, vI x10, vI x11, vI x12, vI x13, vI x14, vI x15, vI x16, vI x17, vI x18, vI x19, none, none, none, none, none, vI x25, none, none, none, none], [], (H0 s p0)) u τ := by
 unfold J0_1098 at h
 refine zS Ad W 2 (st' := (947, [vR 0, none, vR 1, vI x3, vI x4, vI x5, vI x6, vI x7, vI x8, vI x9, vI x10, vI x11, vI x12, vI x13, vI x14, vI x15, vI x16, vI x17, vI x18, vI x19, none, none, none, none, none, vI (x25 + (1:Int32)), none, none, none, none], [], (H0 s p0))) rfl ?_
 obtain rfl := Option.some.inj h
 exact zM [tt,ff,tt,tt,tt,tt,tt,tt,tt,tt,tt,tt,tt,tt,tt,tt,tt,tt,tt,tt,ff,ff,ff,ff,ff,tt,ff,ff,ff,ff] (hc (x25 + (1:Int32)) rfl)
def J0_1069 (s : List Int32) (p0 : Ob) (x3 : Int32) (x4 : Int32) (x5 : Int32) (x6 : Int32) (x7 : Int32) (x8 : Int32) (x9 : Int32) (x10 : Int32) (x11 : Int32) (x12 : Int32) (x13 : Int32) (x14 : Int32) (x15 : Int32) (x16 : Int32) (x17 : Int32) (x18 : Int32) (x19 : Int32) (x25 : Int32) (x27 : Int64) : Option (((Unit) ⊕ (Int32 × QHeap)) ⊕ (Int32)) :=
  (if x18 = (0 : Int32) then (J0_1098 s p0 x3 x4 x5 x6 x7 x8 x9 x10 x11 x12 x13 x14 x15 x16 x17 x18 x19 x25) else (if x12 = (5 : Int32) then (if x27 < (1 : Int64) then some (.inl (Sum.inr ((0 : Int32), (H0 s p0)))) else (if (x4.toInt64) < x27 then some (.inl (Sum.inr ((0 : Int32), (H0 s p0)))) else (J0_1098 s p0 x3 x4 x5 x6 x7 x8 x9 x10 x11 x12 x13 x14 x15 x16 x17 x18 x19 x25))) else (J0_1098 s p0 x3 x4 x5 x6 x7 x8 x9 x10 x11 x12 x13 x14 x15 x16 x17 x18 x19 x25)))
theorem tJ0_1069 (Ad : QAd n0 ad) (W : QW Z a0) (s : List Int32) (p0 : Ob) (x3 : Int32) (x4 : Int32) (x5 : Int32) (x6 : Int32) (x7 : Int32) (x8 : Int32) (x9 : Int32) (x10 : Int32) (x11 : Int32) (x12 : Int32) (x13 : Int32) (x14 : Int32) (x15 : Int32) (x16 : Int32) (x17 : Int32) (x18 : Int32) (x19 : Int32) (x25 : Int32) (x27 : Int64) {r : ((Unit) ⊕ (Int32 × QHeap)) ⊕ (Int32)} {u : Option Value} {τ : QHeap} (h : J0_1069 s p0 x3 x4 x5 x6 x7 x8 x9 x10 x11 x12 x13 x14 x15 x16 x17 x18 x19 x25 x27 = some r) (hx0 : ∀ x : Unit, r = .inl (Sum.inl x) → QTri l Z n0 ad 0 (1104, [vR 0, none, vR 1, vI x3, vI x4, vI x5, vI x6, vI x7, vI x8, vI x9, vI x10, vI x11, vI x12, vI x13, vI x14, vI x15, vI x16, vI x17, vI x18, vI x19, none, none, none, none, none, none, none, none, none, none], [], (H0 s p0)) u τ) (hx1 : ∀ x : Int32 × QHeap, r = .inl (Sum.inr x) → u = (some (Value.int x.1)) ∧ τ = x.2) (hc : ∀ x : Int32, r = .inr x → QTri l Z n0 ad 0 (947, [vR 0, none, vR 1, vI x3, vI x4, vI x5, vI x6, vI x7, vI x8, vI x9, vI x10, vI x11, vI x12, vI x13, vI x14, vI x15, vI x16, vI x17, vI x18, vI x19, none, none, none, none, none, vI x, none, none, none, none], [], (H0 s p0)) u τ) : QTri l Z n0 ad 0 (1069, [vR 0, none, vR 1, vI x3, vI x4, vI x5, vI x6, vI x7, vI x8, vI x9, vI x10, vI x11, vI x12, vI x13, vI x14, vI x15, vI x16, vI x17, vI x18, vI x19, none, none, none, none, none, vI x25, none, some (.long x27), none, none], [], (H0 s p0)) u τ := by
 unfold J0_1069 at h
 refine zS Ad W 1 (st' := (1071, [vR 0, none, vR 1, vI x3, vI x4, vI x5, vI x6, vI x7, vI x8, vI x9, vI x10, vI x11, vI x12, vI x13, vI x14, vI x15, vI x16, vI x17, vI x18, vI x19, none, none, none, none, none, vI x25, none, some (.long x27), none, none], [.int x18], (H0 s p0))) rfl ?_
 rcases qite h with ⟨hc117, h⟩ | ⟨hc117, h⟩
 ·refine zT Ad W (t := 1098) (f := 1074) rfl (XT.i0_eq_t hc117) ?_
  exact zM [tt,ff,tt,tt,tt,tt,tt,tt,tt,tt,tt,tt,tt,tt,tt,tt,tt,tt,tt,tt,ff,ff,ff,ff,ff,tt,ff,ff,ff,ff] (tJ0_1098 Ad W s p0 x3 x4 x5 x6 x7 x8 x9 x10 x11 x12 x13 x14 x15 x16 x17 x18 x19 x25 h hx0 hx1 hc)
 ·refine zF Ad W (t := 1098) (f := 1074) rfl (XT.i0_eq_f hc117) ?_
  refine zS Ad W 2 (st' := (1077, [vR 0, none, vR 1, vI x3, vI x4, vI x5, vI x6, vI x7, vI x8, vI x9, vI x10, vI x11, vI x12, vI x13, vI x14, vI x15, vI x16, vI x17, vI x18, vI x19, none, none, none, none, none, vI x25, none, some (.long x27), none, none], [.int (5:Int32), .int x12], (H0 s p0))) rfl ?_
  rcases qite h with ⟨hc118, h⟩ | ⟨hc118, h⟩
  ·refine zF Ad W (t := 1098) (f := 1080) rfl (XT.ii_ne_f hc118) ?_
   refine zS Ad W 3 (st' := (1084, [vR 0, none, vR 1, vI x3, vI x4, vI x5, vI x6, vI x7, vI x8, vI x9, vI x10, vI x11, vI x12, vI x13, vI x14, vI x15, vI x16, vI x17, vI x18, vI x19, none, none, none, none, none, vI x25, none, some (.long x27), none, none], [.int (XT.cmpL x27 (1 : Int64))], (H0 s p0))) rfl ?_
   rcases qite h with ⟨hc119, h⟩ | ⟨hc119, h⟩
   ·refine zT Ad W (t := 1096) (f := 1087) rfl (XT.ll_lt_t hc119) ?_
    refine zS Ad W 1 (st' := (1097, [vR 0, none, vR 1, vI x3, vI x4, vI x5, vI x6, vI x7, vI x8, vI x9, vI x10, vI x11, vI x12, vI x13, vI x14, vI x15, vI x16, vI x17, vI x18, vI x19, none, none, none, none, none, vI x25, none, some (.long x27), none, none], [.int (0:Int32)], (H0 s p0))) rfl ?_
    obtain rfl := Option.some.inj h
    obtain ⟨rfl, rfl⟩ := hx1 ((0:Int32), (H0 s p0)) rfl
    exact QTri.retZ rfl rfl
   ·refine zF Ad W (t := 1096) (f := 1087) rfl (XT.ll_lt_f hc119) ?_
    refine zS Ad W 4 (st' := (1093, [vR 0, none, vR 1, vI x3, vI x4, vI x5, vI x6, vI x7, vI x8, vI x9, vI x10, vI x11, vI x12, vI x13, vI x14, vI x15, vI x16, vI x17, vI x18, vI x19, none, none, none, none, none, vI x25, none, some (.long x27), none, none], [.int (XT.cmpL x27 (x4.toInt64))], (H0 s p0))) rfl ?_
    rcases qite h with ⟨hc120, h⟩ | ⟨hc120, h⟩
    ·refine zF Ad W (t := 1098) (f := 1096) rfl (XT.ll_le_f hc120) ?_
     refine zS Ad W 1 (st' := (1097, [vR 0, none, vR 1, vI x3, vI x4, vI x5, vI x6, vI x7, vI x8, vI x9, vI x10, vI x11, vI x12, vI x13, vI x14, vI x15, vI x16, vI x17, vI x18, vI x19, none, none, none, none, none, vI x25, none, some (.long x27), none, none], [.int (0:Int32)], (H0 s p0))) rfl ?_
     obtain rfl := Option.some.inj h
     obtain ⟨rfl, rfl⟩ := hx1 ((0:Int32), (H0 s p0)) rfl
     exact QTri.retZ rfl rfl
    ·refine zT Ad W (t := 1098) (f := 1096) rfl (XT.ll_le_t hc120) ?_
     exact zM [tt,ff,tt,tt,tt,tt,tt,tt,tt,tt,tt,tt,tt,tt,tt,tt,tt,tt,tt,tt,ff,ff,ff,ff,ff,tt,ff,ff,ff,ff] (tJ0_1098 Ad W s p0 x3 x4 x5 x6 x7 x8 x9 x10 x11 x12 x13 x14 x15 x16 x17 x18 x19 x25 h hx0 hx1 hc)
  ·refine zT Ad W (t := 1098) (f := 1080) rfl (XT.ii_ne_t hc118) ?_
   exact zM [tt,ff,tt,tt,tt,tt,tt,tt,tt,tt,tt,tt,tt,tt,tt,tt,tt,tt,tt,tt,ff,ff,ff,ff,ff,tt,ff,ff,ff,ff] (tJ0_1098 Ad W s p0 x3 x4 x5 x6 x7 x8 x9 x10 x11 x12 x13 x14 x15 x16 x17 x18 x19 x25 h hx0 hx1 hc)
def J0_1040 (s : List Int32) (p0 : Ob) (x3 : Int32) (x4 : Int32) (x5 : Int32) (x6 : Int32) (x7 : Int32) (x8 : Int32) (x9 : Int32) (x10 : Int32) (x11 : Int32) (x12 : Int32) (x13 : Int32) (x14 : Int32) (x15 : Int32) (x16 : Int32) (x17 : Int32) (x18 : Int32) (x19 : Int32) (x25 : Int32) (x26 : Int32) (x27 : Int64) : Option (((Unit) ⊕ (Int32 × QHeap)) ⊕ (Int32)) :=
  (if x18 = (0 : Int32) then (J0_1069 s p0 x3 x4 x5 x6 x7 x8 x9 x10 x11 x12 x13 x14 x15 x16 x17 x18 x19 x25 x27) else (if x12 = (1 : Int32) then (if x27 < (0 : Int64) then some (.inl (Sum.inr ((0 : Int32), (H0 s p0)))) else (if (x26.toInt64) < x27 then some (.inl (Sum.inr ((0 : Int32), (H0 s p0)))) else (J0_1069 s p0 x3 x4 x5 x6 x7 x8 x9 x10 x11 x12 x13 x14 x15 x16 x17 x18 x19 x25 x27))) else (J0_1069 s p0 x3 x4 x5 x6 x7 x8 x9 x10 x11 x12 x13 x14 x15 x16 x17 x18 x19 x25 x27)))
theorem tJ0_1040 (Ad : QAd n0 ad) (W : QW Z a0) (s : List Int32) (p0 : Ob) (x3 : Int32) (x4 : Int32) (x5 : Int32) (x6 : Int32) (x7 : Int32) (x8 : Int32) (x9 : Int32) (x10 : Int32) (x11 : Int32) (x12 : Int32) (x13 : Int32) (x14 : Int32) (x15 : Int32) (x16 : Int32) (x17 : Int32) (x18 : Int32) (x19 : Int32) (x25 : Int32) (x26 : Int32) (x27 : Int64) {r : ((Unit) ⊕ (Int32 × QHeap)) ⊕ (Int32)} {u : Option Value} {τ : QHeap} (h : J0_1040 s p0 x3 x4 x5 x6 x7 x8 x9 x10 x11 x12 x13 x14 x15 x16 x17 x18 x19 x25 x26 x27 = some r) (hx0 : ∀ x : Unit, r = .inl (Sum.inl x) → QTri l Z n0 ad 0 (1104, [vR 0, none, vR 1, vI x3, vI x4, vI x5, vI x6, vI x7, vI x8, vI x9, vI x10, vI x11, vI x12, vI x13, vI x14, vI x15, vI x16, vI x17, vI x18, vI x19, none, none, none, none, none, none, none, none, none, none], [], (H0 s p0)) u τ) (hx1 : ∀ x : Int32 × QHeap, r = .inl (Sum.inr x) → u = (some (Value.int x.1)) ∧ τ = x.2) (hc : ∀ x : Int32, r = .inr x → QTri l Z n0 ad 0 (947, [vR 0, none, vR 1, vI x3, vI x4, vI x5, vI x6, vI x7, vI x8, vI x9, vI x10, vI x11, vI x12, vI x13, vI x14, vI x15, vI x16, vI x17, vI x18, vI x19, none, none, none, none, none, vI x, none, none, none, none], [], (H0 s p0)) u τ) : QTri l Z n0 ad 0 (1040, [vR 0, none, vR 1, vI x3, vI x4, vI x5, vI x6, vI x7, vI x8, vI x9, vI x10, vI x11, vI x12, vI x13, vI x14, vI x15, vI x16, vI x17, vI x18, vI x19, none, none, none, none, none, vI x25, vI x26, some (.long x27), none, none], [], (H0 s p0)) u τ := by
 unfold J0_1040 at h
 refine zS Ad W 1 (st' := (1042, [vR 0, none, vR 1, vI x3, vI x4, vI x5, vI x6, vI x7, vI x8, vI x9, vI x10, vI x11, vI x12, vI x13, vI x14, vI x15, vI x16, vI x17, vI x18, vI x19, none, none, none, none, none, vI x25, vI x26, some (.long x27), none, none], [.int x18], (H0 s p0))) rfl ?_
 rcases qite h with ⟨hc116, h⟩ | ⟨hc116, h⟩
 ·refine zT Ad W (t := 1069) (f := 1045) rfl (XT.i0_eq_t hc116) ?_
  exact zM [tt,ff,tt,tt,tt,tt,tt,tt,tt,tt,tt,tt,tt,tt,tt,tt,tt,tt,tt,tt,ff,ff,ff,ff,ff,tt,ff,tt,ff,ff] (tJ0_1069 Ad W s p0 x3 x4 x5 x6 x7 x8 x9 x10 x11 x12 x13 x14 x15 x16 x17 x18 x19 x25 x27 h hx0 hx1 hc)
 ·refine zF Ad W (t := 1069) (f := 1045) rfl (XT.i0_eq_f hc116) ?_
  refine zS Ad W 2 (st' := (1048, [vR 0, none, vR 1, vI x3, vI x4, vI x5, vI x6, vI x7, vI x8, vI x9, vI x10, vI x11, vI x12, vI x13, vI x14, vI x15, vI x16, vI x17, vI x18, vI x19, none, none, none, none, none, vI x25, vI x26, some (.long x27), none, none], [.int (1:Int32), .int x12], (H0 s p0))) rfl ?_
  rcases qite h with ⟨hc121, h⟩ | ⟨hc121, h⟩
  ·refine zF Ad W (t := 1069) (f := 1051) rfl (XT.ii_ne_f hc121) ?_
   refine zS Ad W 3 (st' := (1055, [vR 0, none, vR 1, vI x3, vI x4, vI x5, vI x6, vI x7, vI x8, vI x9, vI x10, vI x11, vI x12, vI x13, vI x14, vI x15, vI x16, vI x17, vI x18, vI x19, none, none, none, none, none, vI x25, vI x26, some (.long x27), none, none], [.int (XT.cmpL x27 (0 : Int64))], (H0 s p0))) rfl ?_
   rcases qite h with ⟨hc122, h⟩ | ⟨hc122, h⟩
   ·refine zT Ad W (t := 1067) (f := 1058) rfl (XT.ll_lt_t hc122) ?_
    refine zS Ad W 1 (st' := (1068, [vR 0, none, vR 1, vI x3, vI x4, vI x5, vI x6, vI x7, vI x8, vI x9, vI x10, vI x11, vI x12, vI x13, vI x14, vI x15, vI x16, vI x17, vI x18, vI x19, none, none, none, none, none, vI x25, vI x26, some (.long x27), none, none], [.int (0:Int32)], (H0 s p0))) rfl ?_
    obtain rfl := Option.some.inj h
    obtain ⟨rfl, rfl⟩ := hx1 ((0:Int32), (H0 s p0)) rfl
    exact QTri.retZ rfl rfl
   ·refine zF Ad W (t := 1067) (f := 1058) rfl (XT.ll_lt_f hc122) ?_
    refine zS Ad W 4 (st' := (1064, [vR 0, none, vR 1, vI x3, vI x4, vI x5, vI x6, vI x7, vI x8, vI x9, vI x10, vI x11, vI x12, vI x13, vI x14, vI x15, vI x16, vI x17, vI x18, vI x19, none, none, none, none, none, vI x25, vI x26, some (.long x27), none, none], [.int (XT.cmpL x27 (x26.toInt64))], (H0 s p0))) rfl ?_
    rcases qite h with ⟨hc123, h⟩ | ⟨hc123, h⟩
    ·refine zF Ad W (t := 1069) (f := 1067) rfl (XT.ll_le_f hc123) ?_
     refine zS Ad W 1 (st' := (1068, [vR 0, none, vR 1, vI x3, vI x4, vI x5, vI x6, vI x7, vI x8, vI x9, vI x10, vI x11, vI x12, vI x13, vI x14, vI x15, vI x16, vI x17, vI x18, vI x19, none, none, none, none, none, vI x25, vI x26, some (.long x27), none, none], [.int (0:Int32)], (H0 s p0))) rfl ?_
     obtain rfl := Option.some.inj h
     obtain ⟨rfl, rfl⟩ := hx1 ((0:Int32), (H0 s p0)) rfl
     exact QTri.retZ rfl rfl
    ·refine zT Ad W (t := 1069) (f := 1067) rfl (XT.ll_le_t hc123) ?_
     exact zM [tt,ff,tt,tt,tt,tt,tt,tt,tt,tt,tt,tt,tt,tt,tt,tt,tt,tt,tt,tt,ff,ff,ff,ff,ff,tt,ff,tt,ff,ff] (tJ0_1069 Ad W s p0 x3 x4 x5 x6 x7 x8 x9 x10 x11 x12 x13 x14 x15 x16 x17 x18 x19 x25 x27 h hx0 hx1 hc)
  ·refine zT Ad W (t := 1069) (f := 1051) rfl (XT.ii_ne_t hc121) ?_
   exact zM [tt,ff,tt,tt,tt,tt,tt,tt,tt,tt,tt,tt,tt,tt,tt,tt,tt,tt,tt,tt,ff,ff,ff,ff,ff,tt,ff,tt,ff,ff] (tJ0_1069 Ad W s p0 x3 x4 x5 x6 x7 x8 x9 x10 x11 x12 x13 x14 x15 x16 x17 x18 x19 x25 x27 h hx0 hx1 hc)
def J0_1018 (s : List Int32) (p0 : Ob) (x3 : Int32) (x4 : Int32) (x5 : Int32) (x6 : Int32) (x7 : Int32) (x8 : Int32) (x9 : Int32) (x10 : Int32) (x11 : Int32) (x12 : Int32) (x13 : Int32) (x14 : Int32) (x15 : Int32) (x16 : Int32) (x17 : Int32) (x18 : Int32) (x19 : Int32) (x25 : Int32) (x26 : Int32) (x27 : Int64) : Option (((Unit) ⊕ (Int32 × QHeap)) ⊕ (Int32)) :=
  (if x18 = (0 : Int32) then (J0_1040 s p0 x3 x4 x5 x6 x7 x8 x9 x10 x11 x12 x13 x14 x15 x16 x17 x18 x19 x25 x26 x27) else (if x12 = (2 : Int32) then (if x27 = (x26.toInt64) then (J0_1040 s p0 x3 x4 x5 x6 x7 x8 x9 x10 x11 x12 x13 x14 x15 x16 x17 x18 x19 x25 x26 x27) else some (.inl (Sum.inr ((0 : Int32), (H0 s p0))))) else (J0_1040 s p0 x3 x4 x5 x6 x7 x8 x9 x10 x11 x12 x13 x14 x15 x16 x17 x18 x19 x25 x26 x27)))
theorem tJ0_1018 (Ad : QAd n0 ad) (W : QW Z a0) (s : List Int32) (p0 : Ob) (x3 : Int32) (x4 : Int32) (x5 : Int32) (x6 : Int32) (x7 : Int32) (x8 : Int32) (x9 : Int32) (x10 : Int32) (x11 : Int32) (x12 : Int32) (x13 : Int32) (x14 : Int32) (x15 : Int32) (x16 : Int32) (x17 : Int32) (x18 : Int32) (x19 : Int32) (x25 : Int32) (x26 : Int32) (x27 : Int64) {r : ((Unit) ⊕ (Int32 × QHeap)) ⊕ (Int32)} {u : Option Value} {τ : QHeap} (h : J0_1018 s p0 x3 x4 x5 x6 x7 x8 x9 x10 x11 x12 x13 x14 x15 x16 x17 x18 x19 x25 x26 x27 = some r) (hx0 : ∀ x : Unit, r = .inl (Sum.inl x) → QTri l Z n0 ad 0 (1104, [vR 0, none, vR 1, vI x3, vI x4, vI x5, vI x6, vI x7, vI x8, vI x9, vI x10, vI x11, vI x12, vI x13, vI x14, vI x15, vI x16, vI x17, vI x18, vI x19, none, none, none, none, none, none, none, none, none, none], [], (H0 s p0)) u τ) (hx1 : ∀ x : Int32 × QHeap, r = .inl (Sum.inr x) → u = (some (Value.int x.1)) ∧ τ = x.2) (hc : ∀ x : Int32, r = .inr x → QTri l Z n0 ad 0 (947, [vR 0, none, vR 1, vI x3, vI x4, vI x5, vI x6, vI x7, vI x8, vI x9, vI x10, vI x11, vI x12, vI x13, vI x14, vI x15, vI x16, vI x17, vI x18, vI x19, none, none, none, none, none, vI x, none, none, none, none], [], (H0 s p0)) u τ) : QTri l Z n0 ad 0 (1018, [vR 0, none, vR 1, vI x3, vI x4, vI x5, vI x6, vI x7, vI x8, vI x9, vI x10, vI x11, vI x12, vI x13, vI x14, vI x15, vI x16, vI x17, vI x18, vI x19, none, none, none, none, none, vI x25, vI x26, some (.long x27), none, none], [], (H0 s p0)) u τ := by
 unfold J0_1018 at h
 refine zS Ad W 1 (st' := (1020, [vR 0, none, vR 1, vI x3, vI x4, vI x5, vI x6, vI x7, vI x8, vI x9, vI x10, vI x11, vI x12, vI x13, vI x14, vI x15, vI x16, vI x17, vI x18, vI x19, none, none, none, none, none, vI x25, vI x26, some (.long x27), none, none], [.int x18], (H0 s p0))) rfl ?_
 rcases qite h with ⟨hc115, h⟩ | ⟨hc115, h⟩
 ·refine zT Ad W (t := 1040) (f := 1023) rfl (XT.i0_eq_t hc115) ?_
  exact zM [tt,ff,tt,tt,tt,tt,tt,tt,tt,tt,tt,tt,tt,tt,tt,tt,tt,tt,tt,tt,ff,ff,ff,ff,ff,tt,tt,tt,ff,ff] (tJ0_1040 Ad W s p0 x3 x4 x5 x6 x7 x8 x9 x10 x11 x12 x13 x14 x15 x16 x17 x18 x19 x25 x26 x27 h hx0 hx1 hc)
 ·refine zF Ad W (t := 1040) (f := 1023) rfl (XT.i0_eq_f hc115) ?_
  refine zS Ad W 2 (st' := (1026, [vR 0, none, vR 1, vI x3, vI x4, vI x5, vI x6, vI x7, vI x8, vI x9, vI x10, vI x11, vI x12, vI x13, vI x14, vI x15, vI x16, vI x17, vI x18, vI x19, none, none, none, none, none, vI x25, vI x26, some (.long x27), none, none], [.int (2:Int32), .int x12], (H0 s p0))) rfl ?_
  rcases qite h with ⟨hc124, h⟩ | ⟨hc124, h⟩
  ·refine zF Ad W (t := 1040) (f := 1029) rfl (XT.ii_ne_f hc124) ?_
   refine zS Ad W 4 (st' := (1035, [vR 0, none, vR 1, vI x3, vI x4, vI x5, vI x6, vI x7, vI x8, vI x9, vI x10, vI x11, vI x12, vI x13, vI x14, vI x15, vI x16, vI x17, vI x18, vI x19, none, none, none, none, none, vI x25, vI x26, some (.long x27), none, none], [.int (XT.cmpL x27 (x26.toInt64))], (H0 s p0))) rfl ?_
   rcases qite h with ⟨hc125, h⟩ | ⟨hc125, h⟩
   ·refine zT Ad W (t := 1040) (f := 1038) rfl (XT.ll_eq_t hc125) ?_
    exact zM [tt,ff,tt,tt,tt,tt,tt,tt,tt,tt,tt,tt,tt,tt,tt,tt,tt,tt,tt,tt,ff,ff,ff,ff,ff,tt,tt,tt,ff,ff] (tJ0_1040 Ad W s p0 x3 x4 x5 x6 x7 x8 x9 x10 x11 x12 x13 x14 x15 x16 x17 x18 x19 x25 x26 x27 h hx0 hx1 hc)
   ·refine zF Ad W (t := 1040) (f := 1038) rfl (XT.ll_eq_f hc125) ?_
    refine zS Ad W 1 (st' := (1039, [vR 0, none, vR 1, vI x3, vI x4, vI x5, vI x6, vI x7, vI x8, vI x9, vI x10, vI x11, vI x12, vI x13, vI x14, vI x15, vI x16, vI x17, vI x18, vI x19, none, none, none, none, none, vI x25, vI x26, some (.long x27), none, none], [.int (0:Int32)], (H0 s p0))) rfl ?_
    obtain rfl := Option.some.inj h
    obtain ⟨rfl, rfl⟩ := hx1 ((0:Int32), (H0 s p0)) rfl
    exact QTri.retZ rfl rfl
  ·refine zT Ad W (t := 1040) (f := 1029) rfl (XT.ii_ne_t hc124) ?_
   exact zM [tt,ff,tt,tt,tt,tt,tt,tt,tt,tt,tt,tt,tt,tt,tt,tt,tt,tt,tt,tt,ff,ff,ff,ff,ff,tt,tt,tt,ff,ff] (tJ0_1040 Ad W s p0 x3 x4 x5 x6 x7 x8 x9 x10 x11 x12 x13 x14 x15 x16 x17 x18 x19 x25 x26 x27 h hx0 hx1 hc)
def J0_999 (s : List Int32) (p0 : Ob) (x3 : Int32) (x4 : Int32) (x5 : Int32) (x6 : Int32) (x7 : Int32) (x8 : Int32) (x9 : Int32) (x10 : Int32) (x11 : Int32) (x12 : Int32) (x13 : Int32) (x14 : Int32) (x15 : Int32) (x16 : Int32) (x17 : Int32) (x18 : Int32) (x19 : Int32) (x25 : Int32) (x26 : Int32) (x27 : Int64) : Option (((Unit) ⊕ (Int32 × QHeap)) ⊕ (Int32)) :=
  (if x18 = (0 : Int32) then (J0_1018 s p0 x3 x4 x5 x6 x7 x8 x9 x10 x11 x12 x13 x14 x15 x16 x17 x18 x19 x25 x26 x27) else (if x26 < (0 : Int32) then some (.inl (Sum.inr ((0 : Int32), (H0 s p0)))) else (if x4 < x26 then some (.inl (Sum.inr ((0 : Int32), (H0 s p0)))) else (J0_1018 s p0 x3 x4 x5 x6 x7 x8 x9 x10 x11 x12 x13 x14 x15 x16 x17 x18 x19 x25 x26 x27))))
theorem tJ0_999 (Ad : QAd n0 ad) (W : QW Z a0) (s : List Int32) (p0 : Ob) (x3 : Int32) (x4 : Int32) (x5 : Int32) (x6 : Int32) (x7 : Int32) (x8 : Int32) (x9 : Int32) (x10 : Int32) (x11 : Int32) (x12 : Int32) (x13 : Int32) (x14 : Int32) (x15 : Int32) (x16 : Int32) (x17 : Int32) (x18 : Int32) (x19 : Int32) (x25 : Int32) (x26 : Int32) (x27 : Int64) {r : ((Unit) ⊕ (Int32 × QHeap)) ⊕ (Int32)} {u : Option Value} {τ : QHeap} (h : J0_999 s p0 x3 x4 x5 x6 x7 x8 x9 x10 x11 x12 x13 x14 x15 x16 x17 x18 x19 x25 x26 x27 = some r) (hx0 : ∀ x : Unit, r = .inl (Sum.inl x) → QTri l Z n0 ad 0 (1104, [vR 0, none, vR 1, vI x3, vI x4, vI x5, vI x6, vI x7, vI x8, vI x9, vI x10, vI x11, vI x12, vI x13, vI x14, vI x15, vI x16, vI x17, vI x18, vI x19, none, none, none, none, none, none, none, none, none, none], [], (H0 s p0)) u τ) (hx1 : ∀ x : Int32 × QHeap, r = .inl (Sum.inr x) → u = (some (Value.int x.1)) ∧ τ = x.2) (hc : ∀ x : Int32, r = .inr x → QTri l Z n0 ad 0 (947, [vR 0, none, vR 1, vI x3, vI x4, vI x5, vI x6, vI x7, vI x8, vI x9, vI x10, vI x11, vI x12, vI x13, vI x14, vI x15, vI x16, vI x17, vI x18, vI x19, none, none, none, none, none, vI x, none, none, none, none], [], (H0 s p0)) u τ) : QTri l Z n0 ad 0 (999, [vR 0, none, vR 1, vI x3, vI x4, vI x5, vI x6, vI x7, vI x8, vI x9, vI x10, vI x11, vI x12, vI x13, vI x14, vI x15, vI x16, vI x17, vI x18, vI x19, none, none, none, none, none, vI x25, vI x26, some (.long x27), none, none], [], (H0 s p0)) u τ := by
 unfold J0_999 at h
 refine zS Ad W 1 (st' := (1001, [vR 0, none, vR 1, vI x3, vI x4, vI x5, vI x6, vI x7, vI x8, vI x9, vI x10, vI x11, vI x12, vI x13, vI x14, vI x15, vI x16, vI x17, vI x18, vI x19, none, none, none, none, none, vI x25, vI x26, some (.long x27), none, none], [.int x18], (H0 s p0))) rfl ?_
 rcases qite h with ⟨hc114, h⟩ | ⟨hc114, h⟩
 ·refine zT Ad W (t := 1018) (f := 1004) rfl (XT.i0_eq_t hc114) ?_
  exact zM [tt,ff,tt,tt,tt,tt,tt,tt,tt,tt,tt,tt,tt,tt,tt,tt,tt,tt,tt,tt,ff,ff,ff,ff,ff,tt,tt,tt,ff,ff] (tJ0_1018 Ad W s p0 x3 x4 x5 x6 x7 x8 x9 x10 x11 x12 x13 x14 x15 x16 x17 x18 x19 x25 x26 x27 h hx0 hx1 hc)
 ·refine zF Ad W (t := 1018) (f := 1004) rfl (XT.i0_eq_f hc114) ?_
  refine zS Ad W 1 (st' := (1006, [vR 0, none, vR 1, vI x3, vI x4, vI x5, vI x6, vI x7, vI x8, vI x9, vI x10, vI x11, vI x12, vI x13, vI x14, vI x15, vI x16, vI x17, vI x18, vI x19, none, none, none, none, none, vI x25, vI x26, some (.long x27), none, none], [.int x26], (H0 s p0))) rfl ?_
  rcases qite h with ⟨hc126, h⟩ | ⟨hc126, h⟩
  ·refine zT Ad W (t := 1016) (f := 1009) rfl (XT.i0_lt_t hc126) ?_
   refine zS Ad W 1 (st' := (1017, [vR 0, none, vR 1, vI x3, vI x4, vI x5, vI x6, vI x7, vI x8, vI x9, vI x10, vI x11, vI x12, vI x13, vI x14, vI x15, vI x16, vI x17, vI x18, vI x19, none, none, none, none, none, vI x25, vI x26, some (.long x27), none, none], [.int (0:Int32)], (H0 s p0))) rfl ?_
   obtain rfl := Option.some.inj h
   obtain ⟨rfl, rfl⟩ := hx1 ((0:Int32), (H0 s p0)) rfl
   exact QTri.retZ rfl rfl
  ·refine zF Ad W (t := 1016) (f := 1009) rfl (XT.i0_lt_f hc126) ?_
   refine zS Ad W 2 (st' := (1013, [vR 0, none, vR 1, vI x3, vI x4, vI x5, vI x6, vI x7, vI x8, vI x9, vI x10, vI x11, vI x12, vI x13, vI x14, vI x15, vI x16, vI x17, vI x18, vI x19, none, none, none, none, none, vI x25, vI x26, some (.long x27), none, none], [.int x4, .int x26], (H0 s p0))) rfl ?_
   rcases qite h with ⟨hc127, h⟩ | ⟨hc127, h⟩
   ·refine zF Ad W (t := 1018) (f := 1016) rfl (XT.ii_le_f hc127) ?_
    refine zS Ad W 1 (st' := (1017, [vR 0, none, vR 1, vI x3, vI x4, vI x5, vI x6, vI x7, vI x8, vI x9, vI x10, vI x11, vI x12, vI x13, vI x14, vI x15, vI x16, vI x17, vI x18, vI x19, none, none, none, none, none, vI x25, vI x26, some (.long x27), none, none], [.int (0:Int32)], (H0 s p0))) rfl ?_
    obtain rfl := Option.some.inj h
    obtain ⟨rfl, rfl⟩ := hx1 ((0:Int32), (H0 s p0)) rfl
    exact QTri.retZ rfl rfl
   ·refine zT Ad W (t := 1018) (f := 1016) rfl (XT.ii_le_t hc127) ?_
    exact zM [tt,ff,tt,tt,tt,tt,tt,tt,tt,tt,tt,tt,tt,tt,tt,tt,tt,tt,tt,tt,ff,ff,ff,ff,ff,tt,tt,tt,ff,ff] (tJ0_1018 Ad W s p0 x3 x4 x5 x6 x7 x8 x9 x10 x11 x12 x13 x14 x15 x16 x17 x18 x19 x25 x26 x27 h hx0 hx1 hc)
def B0_947 (s : List Int32) (p0 : Ob) (x3 : Int32) (x4 : Int32) (x5 : Int32) (x6 : Int32) (x7 : Int32) (x8 : Int32) (x9 : Int32) (x10 : Int32) (x11 : Int32) (x12 : Int32) (x13 : Int32) (x14 : Int32) (x15 : Int32) (x16 : Int32) (x17 : Int32) (x18 : Int32) (x19 : Int32) (v : Int32) : Option (((Unit) ⊕ (Int32 × QHeap)) ⊕ (Int32)) :=
  (if v < x4 then (F9 p0 v).bind fun r107 => (F10 p0 v).bind fun r108 => (if x18 = (0 : Int32) then (if r107 = (-1 : Int32) then (if r108 = (0 : Int64) then (F11 p0 v).bind fun r112 => (if r112 = (0 : Int32) then (J0_999 s p0 x3 x4 x5 x6 x7 x8 x9 x10 x11 x12 x13 x14 x15 x16 x17 x18 x19 v r107 r108) else some (.inl (Sum.inr ((0 : Int32), (H0 s p0))))) else some (.inl (Sum.inr ((0 : Int32), (H0 s p0))))) else some (.inl (Sum.inr ((0 : Int32), (H0 s p0))))) else (J0_999 s p0 x3 x4 x5 x6 x7 x8 x9 x10 x11 x12 x13 x14 x15 x16 x17 x18 x19 v r107 r108)) else some (.inl (Sum.inl ())))
theorem tB0_947 (Ad : QAd n0 ad) (W : QW Z a0) (s : List Int32) (p0 : Ob) (x3 : Int32) (x4 : Int32) (x5 : Int32) (x6 : Int32) (x7 : Int32) (x8 : Int32) (x9 : Int32) (x10 : Int32) (x11 : Int32) (x12 : Int32) (x13 : Int32) (x14 : Int32) (x15 : Int32) (x16 : Int32) (x17 : Int32) (x18 : Int32) (x19 : Int32) (v : Int32) {r : ((Unit) ⊕ (Int32 × QHeap)) ⊕ (Int32)} {u : Option Value} {τ : QHeap} (h : B0_947 s p0 x3 x4 x5 x6 x7 x8 x9 x10 x11 x12 x13 x14 x15 x16 x17 x18 x19 v = some r) (hx0 : ∀ x : Unit, r = .inl (Sum.inl x) → QTri l Z n0 ad 0 (1104, [vR 0, none, vR 1, vI x3, vI x4, vI x5, vI x6, vI x7, vI x8, vI x9, vI x10, vI x11, vI x12, vI x13, vI x14, vI x15, vI x16, vI x17, vI x18, vI x19, none, none, none, none, none, none, none, none, none, none], [], (H0 s p0)) u τ) (hx1 : ∀ x : Int32 × QHeap, r = .inl (Sum.inr x) → u = (some (Value.int x.1)) ∧ τ = x.2) (hc : ∀ x : Int32, r = .inr x → QTri l Z n0 ad 0 (947, [vR 0, none, vR 1, vI x3, vI x4, vI x5, vI x6, vI x7, vI x8, vI x9, vI x10, vI x11, vI x12, vI x13, vI x14, vI x15, vI x16, vI x17, vI x18, vI x19, none, none, none, none, none, vI x, none, none, none, none], [], (H0 s p0)) u τ) : QTri l Z n0 ad 0 (947, [vR 0, none, vR 1, vI x3, vI x4, vI x5, vI x6, vI x7, vI x8, vI x9, vI x10, vI x11, vI x12, vI x13, vI x14, vI x15, vI x16, vI x17, vI x18, vI x19, none, none, none, none, none, vI v, none, none, none, none], [], (H0 s p0)) u τ := by
 unfold B0_947 at h
 refine zS Ad W 2 (st' := (951, [vR 0, none, vR 1, vI x3, vI x4, vI x5, vI x6, vI x7, vI x8, vI x9, vI x10, vI x11, vI x12, vI x13, vI x14, vI x15, vI x16, vI x17, vI x18, vI x19, none, none, none, none, none, vI v, none, none, none, none], [.int x4, .int v], (H0 s p0))) rfl ?_
 rcases qite h with ⟨hc106, h⟩ | ⟨hc106, h⟩
 ·refine zF Ad W (t := 1104) (f := 954) rfl (XT.ii_ge_f hc106) ?_
  refine zS Ad W 2 (st' := (957, [vR 0, none, vR 1, vI x3, vI x4, vI x5, vI x6, vI x7, vI x8, vI x9, vI x10, vI x11, vI x12, vI x13, vI x14, vI x15, vI x16, vI x17, vI x18, vI x19, none, none, none, none, none, vI v, none, none, none, none], [.int v, .ref 1], (H0 s p0))) rfl ?_
  obtain ⟨r107, hr107, h⟩ := bind_eq_some_iff.mp h
  refine QTri.callV W (a := 1) (as := [.int v]) (rest := []) (w := (some (.int r107))) (σ₁ := (H0 s p0)) rfl rfl rfl rfl rfl rfl rfl rfl (tF9 Ad W s p0 v hr107) ?_
  refine zS Ad W 3 (st' := (965, [vR 0, none, vR 1, vI x3, vI x4, vI x5, vI x6, vI x7, vI x8, vI x9, vI x10, vI x11, vI x12, vI x13, vI x14, vI x15, vI x16, vI x17, vI x18, vI x19, none, none, none, none, none, vI v, vI r107, none, none, none], [.int v, .ref 1], (H0 s p0))) rfl ?_
  obtain ⟨r108, hr108, h⟩ := bind_eq_some_iff.mp h
  refine QTri.callV W (a := 1) (as := [.int v]) (rest := []) (w := (some (.long r108))) (σ₁ := (H0 s p0)) rfl rfl rfl rfl rfl rfl rfl rfl (tF10 Ad W s p0 v hr108) ?_
  refine zS Ad W 2 (st' := (972, [vR 0, none, vR 1, vI x3, vI x4, vI x5, vI x6, vI x7, vI x8, vI x9, vI x10, vI x11, vI x12, vI x13, vI x14, vI x15, vI x16, vI x17, vI x18, vI x19, none, none, none, none, none, vI v, vI r107, some (.long r108), none, none], [.int x18], (H0 s p0))) rfl ?_
  rcases qite h with ⟨hc109, h⟩ | ⟨hc109, h⟩
  ·refine zF Ad W (t := 999) (f := 975) rfl (XT.i0_ne_f hc109) ?_
   refine zS Ad W 2 (st' := (978, [vR 0, none, vR 1, vI x3, vI x4, vI x5, vI x6, vI x7, vI x8, vI x9, vI x10, vI x11, vI x12, vI x13, vI x14, vI x15, vI x16, vI x17, vI x18, vI x19, none, none, none, none, none, vI v, vI r107, some (.long r108), none, none], [.int (-1:Int32), .int r107], (H0 s p0))) rfl ?_
   rcases qite h with ⟨hc110, h⟩ | ⟨hc110, h⟩
   ·refine zF Ad W (t := 997) (f := 981) rfl (XT.ii_ne_f hc110) ?_
    refine zS Ad W 3 (st' := (985, [vR 0, none, vR 1, vI x3, vI x4, vI x5, vI x6, vI x7, vI x8, vI x9, vI x10, vI x11, vI x12, vI x13, vI x14, vI x15, vI x16, vI x17, vI x18, vI x19, none, none, none, none, none, vI v, vI r107, some (.long r108), none, none], [.int (XT.cmpL r108 (0 : Int64))], (H0 s p0))) rfl ?_
    rcases qite h with ⟨hc111, h⟩ | ⟨hc111, h⟩
    ·refine zF Ad W (t := 997) (f := 988) rfl (XT.ll_ne_f hc111) ?_
     refine zS Ad W 2 (st' := (991, [vR 0, none, vR 1, vI x3, vI x4, vI x5, vI x6, vI x7, vI x8, vI x9, vI x10, vI x11, vI x12, vI x13, vI x14, vI x15, vI x16, vI x17, vI x18, vI x19, none, none, none, none, none, vI v, vI r107, some (.long r108), none, none], [.int v, .ref 1], (H0 s p0))) rfl ?_
     obtain ⟨r112, hr112, h⟩ := bind_eq_some_iff.mp h
     refine QTri.callV W (a := 1) (as := [.int v]) (rest := []) (w := (some (.int r112))) (σ₁ := (H0 s p0)) rfl rfl rfl rfl rfl rfl rfl rfl (tF11 Ad W s p0 v hr112) ?_
     rcases qite h with ⟨hc113, h⟩ | ⟨hc113, h⟩
     ·refine zT Ad W (t := 999) (f := 997) rfl (XT.i0_eq_t hc113) ?_
      exact zM [tt,ff,tt,tt,tt,tt,tt,tt,tt,tt,tt,tt,tt,tt,tt,tt,tt,tt,tt,tt,ff,ff,ff,ff,ff,tt,tt,tt,ff,ff] (tJ0_999 Ad W s p0 x3 x4 x5 x6 x7 x8 x9 x10 x11 x12 x13 x14 x15 x16 x17 x18 x19 v r107 r108 h hx0 hx1 hc)
     ·refine zF Ad W (t := 999) (f := 997) rfl (XT.i0_eq_f hc113) ?_
      refine zS Ad W 1 (st' := (998, [vR 0, none, vR 1, vI x3, vI x4, vI x5, vI x6, vI x7, vI x8, vI x9, vI x10, vI x11, vI x12, vI x13, vI x14, vI x15, vI x16, vI x17, vI x18, vI x19, none, none, none, none, none, vI v, vI r107, some (.long r108), none, none], [.int (0:Int32)], (H0 s p0))) rfl ?_
      obtain rfl := Option.some.inj h
      obtain ⟨rfl, rfl⟩ := hx1 ((0:Int32), (H0 s p0)) rfl
      exact QTri.retZ rfl rfl
    ·refine zT Ad W (t := 997) (f := 988) rfl (XT.ll_ne_t hc111) ?_
     refine zS Ad W 1 (st' := (998, [vR 0, none, vR 1, vI x3, vI x4, vI x5, vI x6, vI x7, vI x8, vI x9, vI x10, vI x11, vI x12, vI x13, vI x14, vI x15, vI x16, vI x17, vI x18, vI x19, none, none, none, none, none, vI v, vI r107, some (.long r108), none, none], [.int (0:Int32)], (H0 s p0))) rfl ?_
     obtain rfl := Option.some.inj h
     obtain ⟨rfl, rfl⟩ := hx1 ((0:Int32), (H0 s p0)) rfl
     exact QTri.retZ rfl rfl
   ·refine zT Ad W (t := 997) (f := 981) rfl (XT.ii_ne_t hc110) ?_
    refine zS Ad W 1 (st' := (998, [vR 0, none, vR 1, vI x3, vI x4, vI x5, vI x6, vI x7, vI x8, vI x9, vI x10, vI x11, vI x12, vI x13, vI x14, vI x15, vI x16, vI x17, vI x18, vI x19, none, none, none, none, none, vI v, vI r107, some (.long r108), none, none], [.int (0:Int32)], (H0 s p0))) rfl ?_
    obtain rfl := Option.some.inj h
    obtain ⟨rfl, rfl⟩ := hx1 ((0:Int32), (H0 s p0)) rfl
    exact QTri.retZ rfl rfl
  ·refine zT Ad W (t := 999) (f := 975) rfl (XT.i0_ne_t hc109) ?_
   exact zM [tt,ff,tt,tt,tt,tt,tt,tt,tt,tt,tt,tt,tt,tt,tt,tt,tt,tt,tt,tt,ff,ff,ff,ff,ff,tt,tt,tt,ff,ff] (tJ0_999 Ad W s p0 x3 x4 x5 x6 x7 x8 x9 x10 x11 x12 x13 x14 x15 x16 x17 x18 x19 v r107 r108 h hx0 hx1 hc)
 ·refine zT Ad W (t := 1104) (f := 954) rfl (XT.ii_ge_t hc106) ?_
  obtain rfl := Option.some.inj h
  exact zM [tt,ff,tt,tt,tt,tt,tt,tt,tt,tt,tt,tt,tt,tt,tt,tt,tt,tt,tt,tt,ff,ff,ff,ff,ff,ff,ff,ff,ff,ff] (hx0 () rfl)
def J0_902 (s : List Int32) (p0 : Ob) (x3 : Int32) (x4 : Int32) (x5 : Int32) (x6 : Int32) (x7 : Int32) (x8 : Int32) (x9 : Int32) (x10 : Int32) (x11 : Int32) (x12 : Int32) (x13 : Int32) (x14 : Int32) (x15 : Int32) (x16 : Int32) (x17 : Int32) (x18 : Int32) (x19 : Int32) : Option (((Int32 × QHeap)) ⊕ (Int32 × Int32 × Int32 × Int32 × Int32 × Int32 × Int32 × Int32 × Int32 × Int32 × Int32 × Int32 × Int32 × Int32 × Int32 × Int32 × Ob)) :=
  (F8 p0 x4 (0 : Int32)).bind fun r84 => (if r84 = (0 : Int32) then (F9 p0 x4).bind fun r90 => (if r90 = (-1 : Int32) then (F10 p0 x4).bind fun r98 => (if r98 = (0 : Int64) then (F11 p0 x4).bind fun r104 => (if r104 = (0 : Int32) then ((loopN (B0_947 s p0 x3 x4 x5 x6 x7 x8 x9 x10 x11 x12 x13 x14 x15 x16 x17 x18 x19) qN (0 : Int32)).bind fun e128 => match e128 with | .inl e128a => some (.inr (x4, x5, x6, x7, x8, x9, x10, x11, x12, x13, x14, x15, x16, x17, x18, (x19 + (5 : Int32)), p0)) | .inr e128a => some (.inl e128a)) else some (.inl ((0 : Int32), (H0 s p0)))) else some (.inl ((0 : Int32), (H0 s p0)))) else some (.inl ((0 : Int32), (H0 s p0)))) else some (.inl ((0 : Int32), (H0 s p0))))
theorem tJ0_902 (Ad : QAd n0 ad) (W : QW Z a0) (s : List Int32) (p0 : Ob) (x3 : Int32) (x4 : Int32) (x5 : Int32) (x6 : Int32) (x7 : Int32) (x8 : Int32) (x9 : Int32) (x10 : Int32) (x11 : Int32) (x12 : Int32) (x13 : Int32) (x14 : Int32) (x15 : Int32) (x16 : Int32) (x17 : Int32) (x18 : Int32) (x19 : Int32) {r : ((Int32 × QHeap)) ⊕ (Int32 × Int32 × Int32 × Int32 × Int32 × Int32 × Int32 × Int32 × Int32 × Int32 × Int32 × Int32 × Int32 × Int32 × Int32 × Int32 × Ob)} {u : Option Value} {τ : QHeap} (h : J0_902 s p0 x3 x4 x5 x6 x7 x8 x9 x10 x11 x12 x13 x14 x15 x16 x17 x18 x19 = some r) (hx0 : ∀ x : Int32 × QHeap, r = .inl x → u = (some (Value.int x.1)) ∧ τ = x.2) (hc : ∀ x : Int32 × Int32 × Int32 × Int32 × Int32 × Int32 × Int32 × Int32 × Int32 × Int32 × Int32 × Int32 × Int32 × Int32 × Int32 × Int32 × Ob, r = .inr x → QTri l Z n0 ad 0 (85, [vR 0, none, vR 1, vI x3, vI x.1, vI x.2.1, vI x.2.2.1, vI x.2.2.2.1, vI x.2.2.2.2.1, vI x.2.2.2.2.2.1, vI x.2.2.2.2.2.2.1, vI x.2.2.2.2.2.2.2.1, vI x.2.2.2.2.2.2.2.2.1, vI x.2.2.2.2.2.2.2.2.2.1, vI x.2.2.2.2.2.2.2.2.2.2.1, vI x.2.2.2.2.2.2.2.2.2.2.2.1, vI x.2.2.2.2.2.2.2.2.2.2.2.2.1, vI x.2.2.2.2.2.2.2.2.2.2.2.2.2.1, vI x.2.2.2.2.2.2.2.2.2.2.2.2.2.2.1, vI x.2.2.2.2.2.2.2.2.2.2.2.2.2.2.2.1, none, none, none, none, none, none, none, none, none, none], [], (H0 s x.2.2.2.2.2.2.2.2.2.2.2.2.2.2.2.2)) u τ) : QTri l Z n0 ad 0 (902, [vR 0, none, vR 1, vI x3, vI x4, vI x5, vI x6, vI x7, vI x8, vI x9, vI x10, vI x11, vI x12, vI x13, vI x14, vI x15, vI x16, vI x17, vI x18, vI x19, none, none, none, none, none, none, none, none, none, none], [], (H0 s p0)) u τ := by
 unfold J0_902 at h
 refine zS Ad W 3 (st' := (906, [vR 0, none, vR 1, vI x3, vI x4, vI x5, vI x6, vI x7, vI x8, vI x9, vI x10, vI x11, vI x12, vI x13, vI x14, vI x15, vI x16, vI x17, vI x18, vI x19, none, none, none, none, none, none, none, none, none, none], [.int (0:Int32), .int x4, .ref 1], (H0 s p0))) rfl ?_
 obtain ⟨r84, hr84, h⟩ := bind_eq_some_iff.mp h
 refine QTri.callV W (a := 1) (as := [.int x4, .int (0:Int32)]) (rest := []) (w := (some (.int r84))) (σ₁ := (H0 s p0)) rfl rfl rfl rfl rfl rfl rfl rfl (tF8 Ad W s p0 x4 (0:Int32) hr84) ?_
 rcases qite h with ⟨hc85, h⟩ | ⟨hc85, h⟩
 ·refine zF Ad W (t := 942) (f := 912) rfl (XT.i0_ne_f hc85) ?_
  refine zS Ad W 2 (st' := (915, [vR 0, none, vR 1, vI x3, vI x4, vI x5, vI x6, vI x7, vI x8, vI x9, vI x10, vI x11, vI x12, vI x13, vI x14, vI x15, vI x16, vI x17, vI x18, vI x19, none, none, none, none, none, none, none, none, none, none], [.int x4, .ref 1], (H0 s p0))) rfl ?_
  obtain ⟨r90, hr90, h⟩ := bind_eq_some_iff.mp h
  refine QTri.callV W (a := 1) (as := [.int x4]) (rest := []) (w := (some (.int r90))) (σ₁ := (H0 s p0)) rfl rfl rfl rfl rfl rfl rfl rfl (tF9 Ad W s p0 x4 hr90) ?_
  refine zS Ad W 1 (st' := (919, [vR 0, none, vR 1, vI x3, vI x4, vI x5, vI x6, vI x7, vI x8, vI x9, vI x10, vI x11, vI x12, vI x13, vI x14, vI x15, vI x16, vI x17, vI x18, vI x19, none, none, none, none, none, none, none, none, none, none], [.int (-1:Int32), .int r90], (H0 s p0))) rfl ?_
  rcases qite h with ⟨hc91, h⟩ | ⟨hc91, h⟩
  ·refine zF Ad W (t := 942) (f := 922) rfl (XT.ii_ne_f hc91) ?_
   refine zS Ad W 2 (st' := (925, [vR 0, none, vR 1, vI x3, vI x4, vI x5, vI x6, vI x7, vI x8, vI x9, vI x10, vI x11, vI x12, vI x13, vI x14, vI x15, vI x16, vI x17, vI x18, vI x19, none, none, none, none, none, none, none, none, none, none], [.int x4, .ref 1], (H0 s p0))) rfl ?_
   obtain ⟨r98, hr98, h⟩ := bind_eq_some_iff.mp h
   refine QTri.callV W (a := 1) (as := [.int x4]) (rest := []) (w := (some (.long r98))) (σ₁ := (H0 s p0)) rfl rfl rfl rfl rfl rfl rfl rfl (tF10 Ad W s p0 x4 hr98) ?_
   refine zS Ad W 2 (st' := (930, [vR 0, none, vR 1, vI x3, vI x4, vI x5, vI x6, vI x7, vI x8, vI x9, vI x10, vI x11, vI x12, vI x13, vI x14, vI x15, vI x16, vI x17, vI x18, vI x19, none, none, none, none, none, none, none, none, none, none], [.int (XT.cmpL r98 (0 : Int64))], (H0 s p0))) rfl ?_
   rcases qite h with ⟨hc99, h⟩ | ⟨hc99, h⟩
   ·refine zF Ad W (t := 942) (f := 933) rfl (XT.ll_ne_f hc99) ?_
    refine zS Ad W 2 (st' := (936, [vR 0, none, vR 1, vI x3, vI x4, vI x5, vI x6, vI x7, vI x8, vI x9, vI x10, vI x11, vI x12, vI x13, vI x14, vI x15, vI x16, vI x17, vI x18, vI x19, none, none, none, none, none, none, none, none, none, none], [.int x4, .ref 1], (H0 s p0))) rfl ?_
    obtain ⟨r104, hr104, h⟩ := bind_eq_some_iff.mp h
    refine QTri.callV W (a := 1) (as := [.int x4]) (rest := []) (w := (some (.int r104))) (σ₁ := (H0 s p0)) rfl rfl rfl rfl rfl rfl rfl rfl (tF11 Ad W s p0 x4 hr104) ?_
    rcases qite h with ⟨hc105, h⟩ | ⟨hc105, h⟩
    ·refine zT Ad W (t := 944) (f := 942) rfl (XT.i0_eq_t hc105) ?_
     refine zS Ad W 2 (st' := (947, [vR 0, none, vR 1, vI x3, vI x4, vI x5, vI x6, vI x7, vI x8, vI x9, vI x10, vI x11, vI x12, vI x13, vI x14, vI x15, vI x16, vI x17, vI x18, vI x19, none, none, none, none, none, vI (0:Int32), none, none, none, none], [], (H0 s p0))) rfl ?_
     obtain ⟨e128, he128, h⟩ := bind_eq_some_iff.mp h
     refine zM [tt,ff,tt,tt,tt,tt,tt,tt,tt,tt,tt,tt,tt,tt,tt,tt,tt,tt,tt,tt,ff,ff,ff,ff,ff,tt,ff,ff,ff,ff] (loopN_tri (B := B0_947 s p0 x3 x4 x5 x6 x7 x8 x9 x10 x11 x12 x13 x14 x15 x16 x17 x18 x19) (T := fun lv129 => QTri l Z n0 ad 0 (947, [vR 0, none, vR 1, vI x3, vI x4, vI x5, vI x6, vI x7, vI x8, vI x9, vI x10, vI x11, vI x12, vI x13, vI x14, vI x15, vI x16, vI x17, vI x18, vI x19, none, none, none, none, none, vI lv129, none, none, none, none], [], (H0 s p0)) u τ) (KE := fun e => match e with | .inl e128a => QTri l Z n0 ad 0 (1104, [vR 0, none, vR 1, vI x3, vI x4, vI x5, vI x6, vI x7, vI x8, vI x9, vI x10, vI x11, vI x12, vI x13, vI x14, vI x15, vI x16, vI x17, vI x18, vI x19, none, none, none, none, none, none, none, none, none, none], [], (H0 s p0)) u τ | .inr e128a => u = (some (Value.int e128a.1)) ∧ τ = e128a.2) (fun lv129 r hB hE hC => tB0_947 Ad W s p0 x3 x4 x5 x6 x7 x8 x9 x10 x11 x12 x13 x14 x15 x16 x17 x18 x19 lv129 hB (fun x q => hE _ q) (fun x q => hE _ q) (fun x q => hC x q)) qN (0:Int32) e128 he128 ?_)
     rcases e128 with e128a | e128a
     ·refine zS Ad W 2 (st' := (85, [vR 0, none, vR 1, vI x3, vI x4, vI x5, vI x6, vI x7, vI x8, vI x9, vI x10, vI x11, vI x12, vI x13, vI x14, vI x15, vI x16, vI x17, vI x18, vI (x19 + (5:Int32)), none, none, none, none, none, none, none, none, none, none], [], (H0 s p0))) rfl ?_
      obtain rfl := Option.some.inj h
      exact zM [tt,ff,tt,tt,tt,tt,tt,tt,tt,tt,tt,tt,tt,tt,tt,tt,tt,tt,tt,tt,ff,ff,ff,ff,ff,ff,ff,ff,ff,ff] (hc (x4, x5, x6, x7, x8, x9, x10, x11, x12, x13, x14, x15, x16, x17, x18, (x19 + (5:Int32)), p0) rfl)
     ·obtain rfl := Option.some.inj h
      exact hx0 e128a rfl
    ·refine zF Ad W (t := 944) (f := 942) rfl (XT.i0_eq_f hc105) ?_
     refine zS Ad W 1 (st' := (943, [vR 0, none, vR 1, vI x3, vI x4, vI x5, vI x6, vI x7, vI x8, vI x9, vI x10, vI x11, vI x12, vI x13, vI x14, vI x15, vI x16, vI x17, vI x18, vI x19, none, none, none, none, none, none, none, none, none, none], [.int (0:Int32)], (H0 s p0))) rfl ?_
     obtain rfl := Option.some.inj h
     obtain ⟨rfl, rfl⟩ := hx0 ((0:Int32), (H0 s p0)) rfl
     exact QTri.retZ rfl rfl
   ·refine zT Ad W (t := 942) (f := 933) rfl (XT.ll_ne_t hc99) ?_
    refine zS Ad W 1 (st' := (943, [vR 0, none, vR 1, vI x3, vI x4, vI x5, vI x6, vI x7, vI x8, vI x9, vI x10, vI x11, vI x12, vI x13, vI x14, vI x15, vI x16, vI x17, vI x18, vI x19, none, none, none, none, none, none, none, none, none, none], [.int (0:Int32)], (H0 s p0))) rfl ?_
    obtain rfl := Option.some.inj h
    obtain ⟨rfl, rfl⟩ := hx0 ((0:Int32), (H0 s p0)) rfl
    exact QTri.retZ rfl rfl
  ·refine zT Ad W (t := 942) (f := 922) rfl (XT.ii_ne_t hc91) ?_
   refine zS Ad W 1 (st' := (943, [vR 0, none, vR 1, vI x3, vI x4, vI x5, vI x6, vI x7, vI x8, vI x9, vI x10, vI x11, vI x12, vI x13, vI x14, vI x15, vI x16, vI x17, vI x18, vI x19, none, none, none, none, none, none, none, none, none, none], [.int (0:Int32)], (H0 s p0))) rfl ?_
   obtain rfl := Option.some.inj h
   obtain ⟨rfl, rfl⟩ := hx0 ((0:Int32), (H0 s p0)) rfl
   exact QTri.retZ rfl rfl
 ·refine zT Ad W (t := 942) (f := 912) rfl (XT.i0_ne_t hc85) ?_
  refine zS Ad W 1 (st' := (943, [vR 0, none, vR 1, vI x3, vI x4, vI x5, vI x6, vI x7, vI x8, vI x9, vI x10, vI x11, vI x12, vI x13, vI x14, vI x15, vI x16, vI x17, vI x18, vI x19, none, none, none, none, none, none, none, none, none, none], [.int (0:Int32)], (H0 s p0))) rfl ?_
  obtain rfl := Option.some.inj h
  obtain ⟨rfl, rfl⟩ := hx0 ((0:Int32), (H0 s p0)) rfl
  exact QTri.retZ rfl rfl
def J0_791 (s : List Int32) (p0 : Ob) (x3 : Int32) (x4 : Int32) (x5 : Int32) (x6 : Int32) (x7 : Int32) (x8 : Int32) (x9 : Int32) (x10 : Int32) (x11 : Int32) (x12 : Int32) (x13 : Int32) (x14 : Int32) (x15 : Int32) (x16 : Int32) (x17 : Int32) (x18 : Int32) (x19 : Int32) : Option (((Int32 × QHeap)) ⊕ (Int32 × Int32 × Int32 × Int32 × Int32 × Int32 × Int32 × Int32 × Int32 × Int32 × Int32 × Int32 × Int32 × Int32 × Int32 × Int32 × Ob)) :=
  (F4 p0).bind fun r27 => (if r27 = x4 then (F5 p0).bind fun r29 => (if r29 = x18 then (F6 p0 x5 x6 x7 x8 x9 x10 x11 x12 x13 x3).bind fun r63 => (if r63 = (0 : Int32) then some (.inl ((0 : Int32), (H0 s p0))) else (if (0 : Int32) < x4 then (F8 p0 (x4 - (1 : Int32)) (0 : Int32)).bind fun r76 => (if r76 = x14 then (F8 p0 (x4 - (1 : Int32)) (1 : Int32)).bind fun r78 => (if r78 = x15 then (F8 p0 (x4 - (1 : Int32)) (2 : Int32)).bind fun r80 => (if r80 = x16 then (F8 p0 (x4 - (1 : Int32)) (3 : Int32)).bind fun r82 => (if r82 = x17 then (J0_902 s p0 x3 x4 x5 x6 x7 x8 x9 x10 x11 x12 x13 x14 x15 x16 x17 x18 x19) else some (.inl ((0 : Int32), (H0 s p0)))) else some (.inl ((0 : Int32), (H0 s p0)))) else some (.inl ((0 : Int32), (H0 s p0)))) else some (.inl ((0 : Int32), (H0 s p0)))) else (J0_902 s p0 x3 x4 x5 x6 x7 x8 x9 x10 x11 x12 x13 x14 x15 x16 x17 x18 x19))) else some (.inl ((0 : Int32), (H0 s p0)))) else some (.inl ((0 : Int32), (H0 s p0))))
theorem tJ0_791 (Ad : QAd n0 ad) (W : QW Z a0) (s : List Int32) (p0 : Ob) (x3 : Int32) (x4 : Int32) (x5 : Int32) (x6 : Int32) (x7 : Int32) (x8 : Int32) (x9 : Int32) (x10 : Int32) (x11 : Int32) (x12 : Int32) (x13 : Int32) (x14 : Int32) (x15 : Int32) (x16 : Int32) (x17 : Int32) (x18 : Int32) (x19 : Int32) {r : ((Int32 × QHeap)) ⊕ (Int32 × Int32 × Int32 × Int32 × Int32 × Int32 × Int32 × Int32 × Int32 × Int32 × Int32 × Int32 × Int32 × Int32 × Int32 × Int32 × Ob)} {u : Option Value} {τ : QHeap} (h : J0_791 s p0 x3 x4 x5 x6 x7 x8 x9 x10 x11 x12 x13 x14 x15 x16 x17 x18 x19 = some r) (hx0 : ∀ x : Int32 × QHeap, r = .inl x → u = (some (Value.int x.1)) ∧ τ = x.2) (hc : ∀ x : Int32 × Int32 × Int32 × Int32 × Int32 × Int32 × Int32 × Int32 × Int32 × Int32 × Int32 × Int32 × Int32 × Int32 × Int32 × Int32 × Ob, r = .inr x → QTri l Z n0 ad 0 (85, [vR 0, none, vR 1, vI x3, vI x.1, vI x.2.1, vI x.2.2.1, vI x.2.2.2.1, vI x.2.2.2.2.1, vI x.2.2.2.2.2.1, vI x.2.2.2.2.2.2.1, vI x.2.2.2.2.2.2.2.1, vI x.2.2.2.2.2.2.2.2.1, vI x.2.2.2.2.2.2.2.2.2.1, vI x.2.2.2.2.2.2.2.2.2.2.1, vI x.2.2.2.2.2.2.2.2.2.2.2.1, vI x.2.2.2.2.2.2.2.2.2.2.2.2.1, vI x.2.2.2.2.2.2.2.2.2.2.2.2.2.1, vI x.2.2.2.2.2.2.2.2.2.2.2.2.2.2.1, vI x.2.2.2.2.2.2.2.2.2.2.2.2.2.2.2.1, none, none, none, none, none, none, none, none, none, none], [], (H0 s x.2.2.2.2.2.2.2.2.2.2.2.2.2.2.2.2)) u τ) : QTri l Z n0 ad 0 (791, [vR 0, none, vR 1, vI x3, vI x4, vI x5, vI x6, vI x7, vI x8, vI x9, vI x10, vI x11, vI x12, vI x13, vI x14, vI x15, vI x16, vI x17, vI x18, vI x19, none, none, none, none, none, none, none, none, none, none], [], (H0 s p0)) u τ := by
 unfold J0_791 at h
 refine zS Ad W 1 (st' := (792, [vR 0, none, vR 1, vI x3, vI x4, vI x5, vI x6, vI x7, vI x8, vI x9, vI x10, vI x11, vI x12, vI x13, vI x14, vI x15, vI x16, vI x17, vI x18, vI x19, none, none, none, none, none, none, none, none, none, none], [.ref 1], (H0 s p0))) rfl ?_
 obtain ⟨r27, hr27, h⟩ := bind_eq_some_iff.mp h
 refine QTri.callV W (a := 1) (as := []) (rest := []) (w := (some (.int r27))) (σ₁ := (H0 s p0)) rfl rfl rfl rfl rfl rfl rfl rfl (tF4 Ad W s p0 hr27) ?_
 refine zS Ad W 1 (st' := (797, [vR 0, none, vR 1, vI x3, vI x4, vI x5, vI x6, vI x7, vI x8, vI x9, vI x10, vI x11, vI x12, vI x13, vI x14, vI x15, vI x16, vI x17, vI x18, vI x19, none, none, none, none, none, none, none, none, none, none], [.int x4, .int r27], (H0 s p0))) rfl ?_
 rcases qite h with ⟨hc28, h⟩ | ⟨hc28, h⟩
 ·refine zF Ad W (t := 809) (f := 800) rfl (XT.ii_ne_f hc28) ?_
  refine zS Ad W 1 (st' := (801, [vR 0, none, vR 1, vI x3, vI x4, vI x5, vI x6, vI x7, vI x8, vI x9, vI x10, vI x11, vI x12, vI x13, vI x14, vI x15, vI x16, vI x17, vI x18, vI x19, none, none, none, none, none, none, none, none, none, none], [.ref 1], (H0 s p0))) rfl ?_
  obtain ⟨r29, hr29, h⟩ := bind_eq_some_iff.mp h
  refine QTri.callV W (a := 1) (as := []) (rest := []) (w := (some (.int r29))) (σ₁ := (H0 s p0)) rfl rfl rfl rfl rfl rfl rfl rfl (tF5 Ad W s p0 hr29) ?_
  refine zS Ad W 1 (st' := (806, [vR 0, none, vR 1, vI x3, vI x4, vI x5, vI x6, vI x7, vI x8, vI x9, vI x10, vI x11, vI x12, vI x13, vI x14, vI x15, vI x16, vI x17, vI x18, vI x19, none, none, none, none, none, none, none, none, none, none], [.int x18, .int r29], (H0 s p0))) rfl ?_
  rcases qite h with ⟨hc30, h⟩ | ⟨hc30, h⟩
  ·refine zT Ad W (t := 811) (f := 809) rfl (XT.ii_eq_t hc30) ?_
   refine zS Ad W 11 (st' := (831, [vR 0, none, vR 1, vI x3, vI x4, vI x5, vI x6, vI x7, vI x8, vI x9, vI x10, vI x11, vI x12, vI x13, vI x14, vI x15, vI x16, vI x17, vI x18, vI x19, none, none, none, none, none, none, none, none, none, none], [.int x3, .int x13, .int x12, .int x11, .int x10, .int x9, .int x8, .int x7, .int x6, .int x5, .ref 1], (H0 s p0))) rfl ?_
   obtain ⟨r63, hr63, h⟩ := bind_eq_some_iff.mp h
   refine QTri.callS W (as := [.ref 1, .int x5, .int x6, .int x7, .int x8, .int x9, .int x10, .int x11, .int x12, .int x13, .int x3]) (rest := []) (w := (some (.int r63))) (σ₁ := (H0 s p0)) rfl rfl rfl rfl rfl rfl rfl (tF6 Ad W s p0 x5 x6 x7 x8 x9 x10 x11 x12 x13 x3 hr63) ?_
   rcases qite h with ⟨hc64, h⟩ | ⟨hc64, h⟩
   ·refine zF Ad W (t := 839) (f := 837) rfl (XT.i0_ne_f hc64) ?_
    refine zS Ad W 1 (st' := (838, [vR 0, none, vR 1, vI x3, vI x4, vI x5, vI x6, vI x7, vI x8, vI x9, vI x10, vI x11, vI x12, vI x13, vI x14, vI x15, vI x16, vI x17, vI x18, vI x19, none, none, none, none, none, none, none, none, none, none], [.int (0:Int32)], (H0 s p0))) rfl ?_
    obtain rfl := Option.some.inj h
    obtain ⟨rfl, rfl⟩ := hx0 ((0:Int32), (H0 s p0)) rfl
    exact QTri.retZ rfl rfl
   ·refine zT Ad W (t := 839) (f := 837) rfl (XT.i0_ne_t hc64) ?_
    refine zS Ad W 1 (st' := (841, [vR 0, none, vR 1, vI x3, vI x4, vI x5, vI x6, vI x7, vI x8, vI x9, vI x10, vI x11, vI x12, vI x13, vI x14, vI x15, vI x16, vI x17, vI x18, vI x19, none, none, none, none, none, none, none, none, none, none], [.int x4], (H0 s p0))) rfl ?_
    rcases qite h with ⟨hc65, h⟩ | ⟨hc65, h⟩
    ·refine zF Ad W (t := 902) (f := 844) rfl (XT.i0_le_f hc65) ?_
     refine zS Ad W 5 (st' := (850, [vR 0, none, vR 1, vI x3, vI x4, vI x5, vI x6, vI x7, vI x8, vI x9, vI x10, vI x11, vI x12, vI x13, vI x14, vI x15, vI x16, vI x17, vI x18, vI x19, none, none, none, none, none, none, none, none, none, none], [.int (0:Int32), .int (x4 - (1:Int32)), .ref 1], (H0 s p0))) rfl ?_
     obtain ⟨r76, hr76, h⟩ := bind_eq_some_iff.mp h
     refine QTri.callV W (a := 1) (as := [.int (x4 - (1:Int32)), .int (0:Int32)]) (rest := []) (w := (some (.int r76))) (σ₁ := (H0 s p0)) rfl rfl rfl rfl rfl rfl rfl rfl (tF8 Ad W s p0 (x4 - (1:Int32)) (0:Int32) hr76) ?_
     refine zS Ad W 1 (st' := (855, [vR 0, none, vR 1, vI x3, vI x4, vI x5, vI x6, vI x7, vI x8, vI x9, vI x10, vI x11, vI x12, vI x13, vI x14, vI x15, vI x16, vI x17, vI x18, vI x19, none, none, none, none, none, none, none, none, none, none], [.int x14, .int r76], (H0 s p0))) rfl ?_
     rcases qite h with ⟨hc77, h⟩ | ⟨hc77, h⟩
     ·refine zF Ad W (t := 900) (f := 858) rfl (XT.ii_ne_f hc77) ?_
      refine zS Ad W 5 (st' := (864, [vR 0, none, vR 1, vI x3, vI x4, vI x5, vI x6, vI x7, vI x8, vI x9, vI x10, vI x11, vI x12, vI x13, vI x14, vI x15, vI x16, vI x17, vI x18, vI x19, none, none, none, none, none, none, none, none, none, none], [.int (1:Int32), .int (x4 - (1:Int32)), .ref 1], (H0 s p0))) rfl ?_
      obtain ⟨r78, hr78, h⟩ := bind_eq_some_iff.mp h
      refine QTri.callV W (a := 1) (as := [.int (x4 - (1:Int32)), .int (1:Int32)]) (rest := []) (w := (some (.int r78))) (σ₁ := (H0 s p0)) rfl rfl rfl rfl rfl rfl rfl rfl (tF8 Ad W s p0 (x4 - (1:Int32)) (1:Int32) hr78) ?_
      refine zS Ad W 1 (st' := (869, [vR 0, none, vR 1, vI x3, vI x4, vI x5, vI x6, vI x7, vI x8, vI x9, vI x10, vI x11, vI x12, vI x13, vI x14, vI x15, vI x16, vI x17, vI x18, vI x19, none, none, none, none, none, none, none, none, none, none], [.int x15, .int r78], (H0 s p0))) rfl ?_
      rcases qite h with ⟨hc79, h⟩ | ⟨hc79, h⟩
      ·refine zF Ad W (t := 900) (f := 872) rfl (XT.ii_ne_f hc79) ?_
       refine zS Ad W 5 (st' := (878, [vR 0, none, vR 1, vI x3, vI x4, vI x5, vI x6, vI x7, vI x8, vI x9, vI x10, vI x11, vI x12, vI x13, vI x14, vI x15, vI x16, vI x17, vI x18, vI x19, none, none, none, none, none, none, none, none, none, none], [.int (2:Int32), .int (x4 - (1:Int32)), .ref 1], (H0 s p0))) rfl ?_
       obtain ⟨r80, hr80, h⟩ := bind_eq_some_iff.mp h
       refine QTri.callV W (a := 1) (as := [.int (x4 - (1:Int32)), .int (2:Int32)]) (rest := []) (w := (some (.int r80))) (σ₁ := (H0 s p0)) rfl rfl rfl rfl rfl rfl rfl rfl (tF8 Ad W s p0 (x4 - (1:Int32)) (2:Int32) hr80) ?_
       refine zS Ad W 1 (st' := (883, [vR 0, none, vR 1, vI x3, vI x4, vI x5, vI x6, vI x7, vI x8, vI x9, vI x10, vI x11, vI x12, vI x13, vI x14, vI x15, vI x16, vI x17, vI x18, vI x19, none, none, none, none, none, none, none, none, none, none], [.int x16, .int r80], (H0 s p0))) rfl ?_
       rcases qite h with ⟨hc81, h⟩ | ⟨hc81, h⟩
       ·refine zF Ad W (t := 900) (f := 886) rfl (XT.ii_ne_f hc81) ?_
        refine zS Ad W 5 (st' := (892, [vR 0, none, vR 1, vI x3, vI x4, vI x5, vI x6, vI x7, vI x8, vI x9, vI x10, vI x11, vI x12, vI x13, vI x14, vI x15, vI x16, vI x17, vI x18, vI x19, none, none, none, none, none, none, none, none, none, none], [.int (3:Int32), .int (x4 - (1:Int32)), .ref 1], (H0 s p0))) rfl ?_
        obtain ⟨r82, hr82, h⟩ := bind_eq_some_iff.mp h
        refine QTri.callV W (a := 1) (as := [.int (x4 - (1:Int32)), .int (3:Int32)]) (rest := []) (w := (some (.int r82))) (σ₁ := (H0 s p0)) rfl rfl rfl rfl rfl rfl rfl rfl (tF8 Ad W s p0 (x4 - (1:Int32)) (3:Int32) hr82) ?_
        refine zS Ad W 1 (st' := (897, [vR 0, none, vR 1, vI x3, vI x4, vI x5, vI x6, vI x7, vI x8, vI x9, vI x10, vI x11, vI x12, vI x13, vI x14, vI x15, vI x16, vI x17, vI x18, vI x19, none, none, none, none, none, none, none, none, none, none], [.int x17, .int r82], (H0 s p0))) rfl ?_
        rcases qite h with ⟨hc83, h⟩ | ⟨hc83, h⟩
        ·refine zT Ad W (t := 902) (f := 900) rfl (XT.ii_eq_t hc83) ?_
         exact zM [tt,ff,tt,tt,tt,tt,tt,tt,tt,tt,tt,tt,tt,tt,tt,tt,tt,tt,tt,tt,ff,ff,ff,ff,ff,ff,ff,ff,ff,ff] (tJ0_902 Ad W s p0 x3 x4 x5 x6 x7 x8 x9 x10 x11 x12 x13 x14 x15 x16 x17 x18 x19 h hx0 hc)
        ·refine zF Ad W (t := 902) (f := 900) rfl (XT.ii_eq_f hc83) ?_
         refine zS Ad W 1 (st' := (901, [vR 0, none, vR 1, vI x3, vI x4, vI x5, vI x6, vI x7, vI x8, vI x9, vI x10, vI x11, vI x12, vI x13, vI x14, vI x15, vI x16, vI x17, vI x18, vI x19, none, none, none, none, none, none, none, none, none, none], [.int (0:Int32)], (H0 s p0))) rfl ?_
         obtain rfl := Option.some.inj h
         obtain ⟨rfl, rfl⟩ := hx0 ((0:Int32), (H0 s p0)) rfl
         exact QTri.retZ rfl rfl
       ·refine zT Ad W (t := 900) (f := 886) rfl (XT.ii_ne_t hc81) ?_
        refine zS Ad W 1 (st' := (901, [vR 0, none, vR 1, vI x3, vI x4, vI x5, vI x6, vI x7, vI x8, vI x9, vI x10, vI x11, vI x12, vI x13, vI x14, vI x15, vI x16, vI x17, vI x18, vI x19, none, none, none, none, none, none, none, none, none, none], [.int (0:Int32)], (H0 s p0))) rfl ?_
        obtain rfl := Option.some.inj h
        obtain ⟨rfl, rfl⟩ := hx0 ((0:Int32), (H0 s p0)) rfl
        exact QTri.retZ rfl rfl
      ·refine zT Ad W (t := 900) (f := 872) rfl (XT.ii_ne_t hc79) ?_
       refine zS Ad W 1 (st' := (901, [vR 0, none, vR 1, vI x3, vI x4, vI x5, vI x6, vI x7, vI x8, vI x9, vI x10, vI x11, vI x12, vI x13, vI x14, vI x15, vI x16, vI x17, vI x18, vI x19, none, none, none, none, none, none, none, none, none, none], [.int (0:Int32)], (H0 s p0))) rfl ?_
       obtain rfl := Option.some.inj h
       obtain ⟨rfl, rfl⟩ := hx0 ((0:Int32), (H0 s p0)) rfl
       exact QTri.retZ rfl rfl
     ·refine zT Ad W (t := 900) (f := 858) rfl (XT.ii_ne_t hc77) ?_
      refine zS Ad W 1 (st' := (901, [vR 0, none, vR 1, vI x3, vI x4, vI x5, vI x6, vI x7, vI x8, vI x9, vI x10, vI x11, vI x12, vI x13, vI x14, vI x15, vI x16, vI x17, vI x18, vI x19, none, none, none, none, none, none, none, none, none, none], [.int (0:Int32)], (H0 s p0))) rfl ?_
      obtain rfl := Option.some.inj h
      obtain ⟨rfl, rfl⟩ := hx0 ((0:Int32), (H0 s p0)) rfl
      exact QTri.retZ rfl rfl
    ·refine zT Ad W (t := 902) (f := 844) rfl (XT.i0_le_t hc65) ?_
     exact zM [tt,ff,tt,tt,tt,tt,tt,tt,tt,tt,tt,tt,tt,tt,tt,tt,tt,tt,tt,tt,ff,ff,ff,ff,ff,ff,ff,ff,ff,ff] (tJ0_902 Ad W s p0 x3 x4 x5 x6 x7 x8 x9 x10 x11 x12 x13 x14 x15 x16 x17 x18 x19 h hx0 hc)
  ·refine zF Ad W (t := 811) (f := 809) rfl (XT.ii_eq_f hc30) ?_
   refine zS Ad W 1 (st' := (810, [vR 0, none, vR 1, vI x3, vI x4, vI x5, vI x6, vI x7, vI x8, vI x9, vI x10, vI x11, vI x12, vI x13, vI x14, vI x15, vI x16, vI x17, vI x18, vI x19, none, none, none, none, none, none, none, none, none, none], [.int (0:Int32)], (H0 s p0))) rfl ?_
   obtain rfl := Option.some.inj h
   obtain ⟨rfl, rfl⟩ := hx0 ((0:Int32), (H0 s p0)) rfl
   exact QTri.retZ rfl rfl
 ·refine zT Ad W (t := 809) (f := 800) rfl (XT.ii_ne_t hc28) ?_
  refine zS Ad W 1 (st' := (810, [vR 0, none, vR 1, vI x3, vI x4, vI x5, vI x6, vI x7, vI x8, vI x9, vI x10, vI x11, vI x12, vI x13, vI x14, vI x15, vI x16, vI x17, vI x18, vI x19, none, none, none, none, none, none, none, none, none, none], [.int (0:Int32)], (H0 s p0))) rfl ?_
  obtain rfl := Option.some.inj h
  obtain ⟨rfl, rfl⟩ := hx0 ((0:Int32), (H0 s p0)) rfl
  exact QTri.retZ rfl rfl
def H0x15 (s : List Int32) (o0 : Ob) (a0_10 : Int32) (a0_11 : Int32) (a0_19 : Int32) : QHeap := H0v s (f_part o0) (f_keys o0) (f_vals o0) (f_flg o0) (f_res o0) (f_resNull o0) (f_frameCnt o0) (f_sorted o0) (f_cap o0) (f_rows o0) a0_10 a0_11 (f_mode o0) (f_startKind o0) (f_startOff o0) (f_endKind o0) (f_endOff o0) (f_fn o0) (f_fnArg o0) a0_19 (f_sortedLen o0) (f_curPos o0) (f_aggSum o0) (f_aggCount o0) (f_aggRows o0) (f_aggMin o0) (f_aggMax o0)
/-- setOrder(II)Z -/
def F31 (o : Ob) (x1 : Int32) (x2 : Int32) : Option (Int32 × Ob) :=
 (if x1 < (0:Int32) then some ((0:Int32), o) else (if (2:Int32) < x1 then some ((0:Int32), o) else (if x2 < (0:Int32) then some ((0:Int32), o) else (if (1:Int32) < x2 then some ((0:Int32), o) else some ((1:Int32), (s_computed (s_nulls (s_direction o x1) x2) (0:Int32)))))))
theorem tF31 (Ad : QAd n0 ad) (W : QW Z a0) (s : List Int32) (o : Ob) (x1 : Int32) (x2 : Int32) {r : Int32 × Ob} (h : F31 o x1 x2 = some r) : QTri l Z n0 ad 31 (0, qentry [.ref 1, .int x1, .int x2] (pMaxL 31), [], (H0 s o)) (some (Value.int r.1)) (H0 s r.2) := by
 unfold F31 at h
 refine zS Ad W 1 (st' := (1, [vR 1, vI x1, vI x2], [.int x1], (H0 s o))) rfl ?_
 rcases qite h with ⟨hc131, h⟩ | ⟨hc131, h⟩
 ·refine zT Ad W (t := 18) (f := 4) rfl (XT.i0_lt_t hc131) ?_
  refine zS Ad W 1 (st' := (19, [vR 1, vI x1, vI x2], [.int (0:Int32)], (H0 s o))) rfl ?_
  obtain rfl := Option.some.inj h
  exact QTri.retZ rfl rfl
 ·refine zF Ad W (t := 18) (f := 4) rfl (XT.i0_lt_f hc131) ?_
  refine zS Ad W 2 (st' := (6, [vR 1, vI x1, vI x2], [.int (2:Int32), .int x1], (H0 s o))) rfl ?_
  rcases qite h with ⟨hc132, h⟩ | ⟨hc132, h⟩
  ·refine zT Ad W (t := 18) (f := 9) rfl (XT.ii_gt_t hc132) ?_
   refine zS Ad W 1 (st' := (19, [vR 1, vI x1, vI x2], [.int (0:Int32)], (H0 s o))) rfl ?_
   obtain rfl := Option.some.inj h
   exact QTri.retZ rfl rfl
  ·refine zF Ad W (t := 18) (f := 9) rfl (XT.ii_gt_f hc132) ?_
   refine zS Ad W 1 (st' := (10, [vR 1, vI x1, vI x2], [.int x2], (H0 s o))) rfl ?_
   rcases qite h with ⟨hc133, h⟩ | ⟨hc133, h⟩
   ·refine zT Ad W (t := 18) (f := 13) rfl (XT.i0_lt_t hc133) ?_
    refine zS Ad W 1 (st' := (19, [vR 1, vI x1, vI x2], [.int (0:Int32)], (H0 s o))) rfl ?_
    obtain rfl := Option.some.inj h
    exact QTri.retZ rfl rfl
   ·refine zF Ad W (t := 18) (f := 13) rfl (XT.i0_lt_f hc133) ?_
    refine zS Ad W 2 (st' := (15, [vR 1, vI x1, vI x2], [.int (1:Int32), .int x2], (H0 s o))) rfl ?_
    rcases qite h with ⟨hc134, h⟩ | ⟨hc134, h⟩
    ·refine zF Ad W (t := 20) (f := 18) rfl (XT.ii_le_f hc134) ?_
     refine zS Ad W 1 (st' := (19, [vR 1, vI x1, vI x2], [.int (0:Int32)], (H0 s o))) rfl ?_
     obtain rfl := Option.some.inj h
     exact QTri.retZ rfl rfl
    ·refine zT Ad W (t := 20) (f := 18) rfl (XT.ii_le_t hc134) ?_
     refine zS Ad W 3 (st' := (25, [vR 1, vI x1, vI x2], [], (H0x3 s o x1))) rfl ?_
     refine zS Ad W 3 (st' := (30, [vR 1, vI x1, vI x2], [], (H0x4 s o x1 x2))) rfl ?_
     refine zS Ad W 3 (st' := (35, [vR 1, vI x1, vI x2], [], (H0x15 s o x1 x2 (0:Int32)))) rfl ?_
     refine zS Ad W 1 (st' := (36, [vR 1, vI x1, vI x2], [.int (1:Int32)], (H0x15 s o x1 x2 (0:Int32)))) rfl ?_
     have E135 : ((H0x15 s o x1 x2 (0:Int32)) : QHeap) = (H0 s (s_computed (s_nulls (s_direction o x1) x2) (0:Int32))) := by simp only [fs, H0, H0v, H0x15, s_direction, s_nulls, s_computed]
     rw [E135]
     obtain rfl := Option.some.inj h
     exact QTri.retZ rfl rfl
def H0x16 (s : List Int32) (o0 : Ob) (a0_12 : Int32) : QHeap := H0v s (f_part o0) (f_keys o0) (f_vals o0) (f_flg o0) (f_res o0) (f_resNull o0) (f_frameCnt o0) (f_sorted o0) (f_cap o0) (f_rows o0) (f_direction o0) (f_nulls o0) a0_12 (f_startKind o0) (f_startOff o0) (f_endKind o0) (f_endOff o0) (f_fn o0) (f_fnArg o0) (f_computed o0) (f_sortedLen o0) (f_curPos o0) (f_aggSum o0) (f_aggCount o0) (f_aggRows o0) (f_aggMin o0) (f_aggMax o0)
def H0x17 (s : List Int32) (o0 : Ob) (a0_12 : Int32) (a0_19 : Int32) : QHeap := H0v s (f_part o0) (f_keys o0) (f_vals o0) (f_flg o0) (f_res o0) (f_resNull o0) (f_frameCnt o0) (f_sorted o0) (f_cap o0) (f_rows o0) (f_direction o0) (f_nulls o0) a0_12 (f_startKind o0) (f_startOff o0) (f_endKind o0) (f_endOff o0) (f_fn o0) (f_fnArg o0) a0_19 (f_sortedLen o0) (f_curPos o0) (f_aggSum o0) (f_aggCount o0) (f_aggRows o0) (f_aggMin o0) (f_aggMax o0)
/-- setFrameMode(I)Z -/
def F30 (o : Ob) (x1 : Int32) : Option (Int32 × Ob) :=
 (if x1 < (0:Int32) then some ((0:Int32), o) else (if (1:Int32) < x1 then some ((0:Int32), o) else some ((1:Int32), (s_computed (s_mode o x1) (0:Int32)))))
theorem tF30 (Ad : QAd n0 ad) (W : QW Z a0) (s : List Int32) (o : Ob) (x1 : Int32) {r : Int32 × Ob} (h : F30 o x1 = some r) : QTri l Z n0 ad 30 (0, qentry [.ref 1, .int x1] (pMaxL 30), [], (H0 s o)) (some (Value.int r.1)) (H0 s r.2) := by
 unfold F30 at h
 refine zS Ad W 1 (st' := (1, [vR 1, vI x1], [.int x1], (H0 s o))) rfl ?_
 rcases qite h with ⟨hc148, h⟩ | ⟨hc148, h⟩
 ·refine zT Ad W (t := 9) (f := 4) rfl (XT.i0_lt_t hc148) ?_
  refine zS Ad W 1 (st' := (10, [vR 1, vI x1], [.int (0:Int32)], (H0 s o))) rfl ?_
  obtain rfl := Option.some.inj h
  exact QTri.retZ rfl rfl
 ·refine zF Ad W (t := 9) (f := 4) rfl (XT.i0_lt_f hc148) ?_
  refine zS Ad W 2 (st' := (6, [vR 1, vI x1], [.int (1:Int32), .int x1], (H0 s o))) rfl ?_
  rcases qite h with ⟨hc149, h⟩ | ⟨hc149, h⟩
  ·refine zF Ad W (t := 11) (f := 9) rfl (XT.ii_le_f hc149) ?_
   refine zS Ad W 1 (st' := (10, [vR 1, vI x1], [.int (0:Int32)], (H0 s o))) rfl ?_
   obtain rfl := Option.some.inj h
   exact QTri.retZ rfl rfl
  ·refine zT Ad W (t := 11) (f := 9) rfl (XT.ii_le_t hc149) ?_
   refine zS Ad W 3 (st' := (16, [vR 1, vI x1], [], (H0x16 s o x1))) rfl ?_
   refine zS Ad W 3 (st' := (21, [vR 1, vI x1], [], (H0x17 s o x1 (0:Int32)))) rfl ?_
   refine zS Ad W 1 (st' := (22, [vR 1, vI x1], [.int (1:Int32)], (H0x17 s o x1 (0:Int32)))) rfl ?_
   have E150 : ((H0x17 s o x1 (0:Int32)) : QHeap) = (H0 s (s_computed (s_mode o x1) (0:Int32))) := by simp only [fs, H0, H0v, H0x17, s_mode, s_computed]
   rw [E150]
   obtain rfl := Option.some.inj h
   exact QTri.retZ rfl rfl
def J0_409 (s : List Int32) (p0 : Ob) (x3 : Int32) (x4 : Int32) (x5 : Int32) (x6 : Int32) (x7 : Int32) (x8 : Int32) (x9 : Int32) (x10 : Int32) (x11 : Int32) (x12 : Int32) (x13 : Int32) (x14 : Int32) (x15 : Int32) (x16 : Int32) (x17 : Int32) (x18 : Int32) (x19 : Int32) : Option (((Int32 × QHeap)) ⊕ (Int32 × Int32 × Int32 × Int32 × Int32 × Int32 × Int32 × Int32 × Int32 × Int32 × Int32 × Int32 × Int32 × Int32 × Int32 × Int32 × Ob)) :=
  (J0_791 s p0 x3 x4 x5 x6 x7 x8 x9 x10 x11 x12 x13 x14 x15 x16 x17 x18 x19)
theorem tJ0_409 (Ad : QAd n0 ad) (W : QW Z a0) (s : List Int32) (p0 : Ob) (x3 : Int32) (x4 : Int32) (x5 : Int32) (x6 : Int32) (x7 : Int32) (x8 : Int32) (x9 : Int32) (x10 : Int32) (x11 : Int32) (x12 : Int32) (x13 : Int32) (x14 : Int32) (x15 : Int32) (x16 : Int32) (x17 : Int32) (x18 : Int32) (x19 : Int32) {r : ((Int32 × QHeap)) ⊕ (Int32 × Int32 × Int32 × Int32 × Int32 × Int32 × Int32 × Int32 × Int32 × Int32 × Int32 × Int32 × Int32 × Int32 × Int32 × Int32 × Ob)} {u : Option Value} {τ : QHeap} (h : J0_409 s p0 x3 x4 x5 x6 x7 x8 x9 x10 x11 x12 x13 x14 x15 x16 x17 x18 x19 = some r) (hx0 : ∀ x : Int32 × QHeap, r = .inl x → u = (some (Value.int x.1)) ∧ τ = x.2) (hc : ∀ x : Int32 × Int32 × Int32 × Int32 × Int32 × Int32 × Int32 × Int32 × Int32 × Int32 × Int32 × Int32 × Int32 × Int32 × Int32 × Int32 × Ob, r = .inr x → QTri l Z n0 ad 0 (85, [vR 0, none, vR 1, vI x3, vI x.1, vI x.2.1, vI x.2.2.1, vI x.2.2.2.1, vI x.2.2.2.2.1, vI x.2.2.2.2.2.1, vI x.2.2.2.2.2.2.1, vI x.2.2.2.2.2.2.2.1, vI x.2.2.2.2.2.2.2.2.1, vI x.2.2.2.2.2.2.2.2.2.1, vI x.2.2.2.2.2.2.2.2.2.2.1, vI x.2.2.2.2.2.2.2.2.2.2.2.1, vI x.2.2.2.2.2.2.2.2.2.2.2.2.1, vI x.2.2.2.2.2.2.2.2.2.2.2.2.2.1, vI x.2.2.2.2.2.2.2.2.2.2.2.2.2.2.1, vI x.2.2.2.2.2.2.2.2.2.2.2.2.2.2.2.1, none, none, none, none, none, none, none, none, none, none], [], (H0 s x.2.2.2.2.2.2.2.2.2.2.2.2.2.2.2.2)) u τ) : QTri l Z n0 ad 0 (409, [vR 0, none, vR 1, vI x3, vI x4, vI x5, vI x6, vI x7, vI x8, vI x9, vI x10, vI x11, vI x12, vI x13, vI x14, vI x15, vI x16, vI x17, vI x18, vI x19, none, none, none, none, none, none, none, none, none, none], [], (H0 s p0)) u τ := by
 unfold J0_409 at h
 refine zS Ad W 1 (st' := (791, [vR 0, none, vR 1, vI x3, vI x4, vI x5, vI x6, vI x7, vI x8, vI x9, vI x10, vI x11, vI x12, vI x13, vI x14, vI x15, vI x16, vI x17, vI x18, vI x19, none, none, none, none, none, none, none, none, none, none], [], (H0 s p0))) rfl ?_
 exact zM [tt,ff,tt,tt,tt,tt,tt,tt,tt,tt,tt,tt,tt,tt,tt,tt,tt,tt,tt,tt,ff,ff,ff,ff,ff,ff,ff,ff,ff,ff] (tJ0_791 Ad W s p0 x3 x4 x5 x6 x7 x8 x9 x10 x11 x12 x13 x14 x15 x16 x17 x18 x19 h hx0 hc)
def H0x18 (s : List Int32) (o0 : Ob) (a0_13 : Int32) : QHeap := H0v s (f_part o0) (f_keys o0) (f_vals o0) (f_flg o0) (f_res o0) (f_resNull o0) (f_frameCnt o0) (f_sorted o0) (f_cap o0) (f_rows o0) (f_direction o0) (f_nulls o0) (f_mode o0) a0_13 (f_startOff o0) (f_endKind o0) (f_endOff o0) (f_fn o0) (f_fnArg o0) (f_computed o0) (f_sortedLen o0) (f_curPos o0) (f_aggSum o0) (f_aggCount o0) (f_aggRows o0) (f_aggMin o0) (f_aggMax o0)
def H0x19 (s : List Int32) (o0 : Ob) (a0_13 : Int32) (a0_14 : Int32) : QHeap := H0v s (f_part o0) (f_keys o0) (f_vals o0) (f_flg o0) (f_res o0) (f_resNull o0) (f_frameCnt o0) (f_sorted o0) (f_cap o0) (f_rows o0) (f_direction o0) (f_nulls o0) (f_mode o0) a0_13 a0_14 (f_endKind o0) (f_endOff o0) (f_fn o0) (f_fnArg o0) (f_computed o0) (f_sortedLen o0) (f_curPos o0) (f_aggSum o0) (f_aggCount o0) (f_aggRows o0) (f_aggMin o0) (f_aggMax o0)
def H0x20 (s : List Int32) (o0 : Ob) (a0_13 : Int32) (a0_14 : Int32) (a0_19 : Int32) : QHeap := H0v s (f_part o0) (f_keys o0) (f_vals o0) (f_flg o0) (f_res o0) (f_resNull o0) (f_frameCnt o0) (f_sorted o0) (f_cap o0) (f_rows o0) (f_direction o0) (f_nulls o0) (f_mode o0) a0_13 a0_14 (f_endKind o0) (f_endOff o0) (f_fn o0) (f_fnArg o0) a0_19 (f_sortedLen o0) (f_curPos o0) (f_aggSum o0) (f_aggCount o0) (f_aggRows o0) (f_aggMin o0) (f_aggMax o0)
def J16_37 (o : Ob) (x1 : Int32) (x2 : Int32) (x3 : Int32) : Option (Int32 × Ob) :=
  some ((1 : Int32), (s_computed (s_startOff (s_startKind o x1) (if x3 = (0 : Int32) then (0 : Int32) else x2)) (0 : Int32)))
theorem tJ16_37 (Ad : QAd n0 ad) (W : QW Z a0) (s : List Int32) (o : Ob) (x1 : Int32) (x2 : Int32) (x3 : Int32) {r : Int32 × Ob} (h : J16_37 o x1 x2 x3 = some r) : QTri l Z n0 ad 16 (37, [vR 1, vI x1, vI x2, vI x3], [], (H0 s o)) (some (Value.int r.1)) (H0 s r.2) := by
 unfold J16_37 at h
 refine zS Ad W 3 (st' := (42, [vR 1, vI x1, vI x2, vI x3], [], (H0x18 s o x1))) rfl ?_
 refine zS Ad W 2 (st' := (44, [vR 1, vI x1, vI x2, vI x3], [.int x3, .ref 1], (H0x18 s o x1))) rfl ?_
 have K183 : ∀ z182 : Int32, z182 = (if x3 = (0:Int32) then (0:Int32) else x2) → QTri l Z n0 ad 16 (52, [vR 1, none, none, none], [.int z182, .ref 1], (H0x18 s o x1)) (some (Value.int r.1)) (H0 s r.2) := by
  intro z182 ez182
  subst ez182
  refine zS Ad W 1 (st' := (55, [vR 1, none, none, none], [], (H0x19 s o x1 (if x3 = (0:Int32) then (0:Int32) else x2)))) rfl ?_
  refine zS Ad W 3 (st' := (60, [vR 1, none, none, none], [], (H0x20 s o x1 (if x3 = (0:Int32) then (0:Int32) else x2) (0:Int32)))) rfl ?_
  refine zS Ad W 1 (st' := (61, [vR 1, none, none, none], [.int (1:Int32)], (H0x20 s o x1 (if x3 = (0:Int32) then (0:Int32) else x2) (0:Int32)))) rfl ?_
  have E185 : ((H0x20 s o x1 (if x3 = (0:Int32) then (0:Int32) else x2) (0:Int32)) : QHeap) = (H0 s (s_computed (s_startOff (s_startKind o x1) (if x3 = (0:Int32) then (0:Int32) else x2)) (0:Int32))) := by simp only [fs, H0, H0v, H0x20, s_startKind, s_startOff, s_computed]
  rw [E185]
  obtain rfl := Option.some.inj h
  exact QTri.retZ rfl rfl
 rcases em (x3 = (0:Int32)) with hc184 | hc184
 ·refine zT Ad W (t := 51) (f := 47) rfl (XT.i0_eq_t hc184) ?_
  refine zS Ad W 1 (st' := (52, [vR 1, vI x1, vI x2, vI x3], [.int (0:Int32), .ref 1], (H0x18 s o x1))) rfl ?_
  exact zM [tt,ff,ff,ff] (K183 _ (if_pos hc184).symm)
 ·refine zF Ad W (t := 51) (f := 47) rfl (XT.i0_eq_f hc184) ?_
  refine zS Ad W 2 (st' := (52, [vR 1, vI x1, vI x2, vI x3], [.int x2, .ref 1], (H0x18 s o x1))) rfl ?_
  exact zM [tt,ff,ff,ff] (K183 _ (if_neg hc184).symm)
/-- setFrameStart(II)Z -/
def F16 (o : Ob) (x1 : Int32) (x2 : Int32) : Option (Int32 × Ob) :=
 (if x1 < (0:Int32) then some ((0:Int32), o) else (if (3:Int32) < x1 then some ((0:Int32), o) else (if (if x1 = (1:Int32) then (1:Int32) else (if x1 = (3:Int32) then (1:Int32) else (0:Int32))) = (0:Int32) then (J16_37 o x1 x2 (if x1 = (1:Int32) then (1:Int32) else (if x1 = (3:Int32) then (1:Int32) else (0:Int32)))) else (if x2 < (0:Int32) then some ((0:Int32), o) else (J16_37 o x1 x2 (if x1 = (1:Int32) then (1:Int32) else (if x1 = (3:Int32) then (1:Int32) else (0:Int32))))))))
theorem tF16 (Ad : QAd n0 ad) (W : QW Z a0) (s : List Int32) (o : Ob) (x1 : Int32) (x2 : Int32) {r : Int32 × Ob} (h : F16 o x1 x2 = some r) : QTri l Z n0 ad 16 (0, qentry [.ref 1, .int x1, .int x2] (pMaxL 16), [], (H0 s o)) (some (Value.int r.1)) (H0 s r.2) := by
 unfold F16 at h
 refine zS Ad W 1 (st' := (1, [vR 1, vI x1, vI x2, none], [.int x1], (H0 s o))) rfl ?_
 rcases qite h with ⟨hc175, h⟩ | ⟨hc175, h⟩
 ·refine zT Ad W (t := 9) (f := 4) rfl (XT.i0_lt_t hc175) ?_
  refine zS Ad W 1 (st' := (10, [vR 1, vI x1, vI x2, none], [.int (0:Int32)], (H0 s o))) rfl ?_
  obtain rfl := Option.some.inj h
  exact QTri.retZ rfl rfl
 ·refine zF Ad W (t := 9) (f := 4) rfl (XT.i0_lt_f hc175) ?_
  refine zS Ad W 2 (st' := (6, [vR 1, vI x1, vI x2, none], [.int (3:Int32), .int x1], (H0 s o))) rfl ?_
  rcases qite h with ⟨hc176, h⟩ | ⟨hc176, h⟩
  ·refine zF Ad W (t := 11) (f := 9) rfl (XT.ii_le_f hc176) ?_
   refine zS Ad W 1 (st' := (10, [vR 1, vI x1, vI x2, none], [.int (0:Int32)], (H0 s o))) rfl ?_
   obtain rfl := Option.some.inj h
   exact QTri.retZ rfl rfl
  ·refine zT Ad W (t := 11) (f := 9) rfl (XT.ii_le_t hc176) ?_
   refine zS Ad W 2 (st' := (13, [vR 1, vI x1, vI x2, none], [.int (1:Int32), .int x1], (H0 s o))) rfl ?_
   have K178 : ∀ z177 : Int32, z177 = (if x1 = (1:Int32) then (1:Int32) else (if x1 = (3:Int32) then (1:Int32) else (0:Int32))) → QTri l Z n0 ad 16 (26, [vR 1, vI x1, vI x2, none], [.int z177], (H0 s o)) (some (Value.int r.1)) (H0 s r.2) := by
    intro z177 ez177
    subst ez177
    refine zS Ad W 2 (st' := (28, [vR 1, vI x1, vI x2, vI (if x1 = (1:Int32) then (1:Int32) else (if x1 = (3:Int32) then (1:Int32) else (0:Int32)))], [.int (if x1 = (1:Int32) then (1:Int32) else (if x1 = (3:Int32) then (1:Int32) else (0:Int32)))], (H0 s o))) rfl ?_
    rcases qite h with ⟨hc181, h⟩ | ⟨hc181, h⟩
    ·refine zT Ad W (t := 37) (f := 31) rfl (XT.i0_eq_t hc181) ?_
     exact zM [tt,tt,tt,tt] (tJ16_37 Ad W s o x1 x2 (if x1 = (1:Int32) then (1:Int32) else (if x1 = (3:Int32) then (1:Int32) else (0:Int32))) h)
    ·refine zF Ad W (t := 37) (f := 31) rfl (XT.i0_eq_f hc181) ?_
     refine zS Ad W 1 (st' := (32, [vR 1, vI x1, vI x2, vI (if x1 = (1:Int32) then (1:Int32) else (if x1 = (3:Int32) then (1:Int32) else (0:Int32)))], [.int x2], (H0 s o))) rfl ?_
     rcases qite h with ⟨hc186, h⟩ | ⟨hc186, h⟩
     ·refine zF Ad W (t := 37) (f := 35) rfl (XT.i0_ge_f hc186) ?_
      refine zS Ad W 1 (st' := (36, [vR 1, vI x1, vI x2, vI (if x1 = (1:Int32) then (1:Int32) else (if x1 = (3:Int32) then (1:Int32) else (0:Int32)))], [.int (0:Int32)], (H0 s o))) rfl ?_
      obtain rfl := Option.some.inj h
      exact QTri.retZ rfl rfl
     ·refine zT Ad W (t := 37) (f := 35) rfl (XT.i0_ge_t hc186) ?_
      exact zM [tt,tt,tt,tt] (tJ16_37 Ad W s o x1 x2 (if x1 = (1:Int32) then (1:Int32) else (if x1 = (3:Int32) then (1:Int32) else (0:Int32))) h)
   rcases em (x1 = (1:Int32)) with hc179 | hc179
   ·refine zT Ad W (t := 21) (f := 16) rfl (XT.ii_eq_t hc179) ?_
    refine zS Ad W 2 (st' := (26, [vR 1, vI x1, vI x2, none], [.int (1:Int32)], (H0 s o))) rfl ?_
    exact zM [tt,tt,tt,ff] (K178 _ (if_pos hc179).symm)
   ·refine zF Ad W (t := 21) (f := 16) rfl (XT.ii_eq_f hc179) ?_
    refine zS Ad W 2 (st' := (18, [vR 1, vI x1, vI x2, none], [.int (3:Int32), .int x1], (H0 s o))) rfl ?_
    rcases em (x1 = (3:Int32)) with hc180 | hc180
    ·refine zF Ad W (t := 25) (f := 21) rfl (XT.ii_ne_f hc180) ?_
     refine zS Ad W 2 (st' := (26, [vR 1, vI x1, vI x2, none], [.int (1:Int32)], (H0 s o))) rfl ?_
     exact zM [tt,tt,tt,ff] (K178 _ ((if_neg hc179).trans (if_pos hc180)).symm)
    ·refine zT Ad W (t := 25) (f := 21) rfl (XT.ii_ne_t hc180) ?_
     refine zS Ad W 1 (st' := (26, [vR 1, vI x1, vI x2, none], [.int (0:Int32)], (H0 s o))) rfl ?_
     exact zM [tt,tt,tt,ff] (K178 _ ((if_neg hc179).trans (if_neg hc180)).symm)
def J0_529 (s : List Int32) (p0 : Ob) (x3 : Int32) (x4 : Int32) (x5 : Int32) (x6 : Int32) (x7 : Int32) (x8 : Int32) (x9 : Int32) (x10 : Int32) (x11 : Int32) (x12 : Int32) (x13 : Int32) (x14 : Int32) (x15 : Int32) (x16 : Int32) (x17 : Int32) (x18 : Int32) (x19 : Int32) (x20 : Int32) (x25 : Int32) (x26 : Int32) (x27 : Int32) (x28 : Int32) (x29 : Int32) : Option (((Int32 × QHeap)) ⊕ (Int32 × Int32 × Int32 × Int32 × Int32 × Int32 × Int32 × Int32 × Int32 × Int32 × Int32 × Int32 × Int32 × Int32 × Int32 × Int32 × Ob)) :=
  (if x29 = x28 then (J0_791 s p0 x3 x4 x5 x6 x7 (if x29 = (0 : Int32) then x8 else (if x20 = (10 : Int32) then x25 else x8)) (if x29 = (0 : Int32) then x9 else (if x20 = (10 : Int32) then (if x27 = (0 : Int32) then (0 : Int32) else x26) else x9)) (if x29 = (0 : Int32) then x10 else (if x20 = (11 : Int32) then x25 else x10)) (if x29 = (0 : Int32) then x11 else (if x20 = (11 : Int32) then (if x27 = (0 : Int32) then (0 : Int32) else x26) else x11)) x12 x13 x14 x15 x16 x17 (if x29 = (0 : Int32) then x18 else (0 : Int32)) x19) else some (.inl ((0 : Int32), (H0 s p0))))
theorem tJ0_529 (Ad : QAd n0 ad) (W : QW Z a0) (s : List Int32) (p0 : Ob) (x3 : Int32) (x4 : Int32) (x5 : Int32) (x6 : Int32) (x7 : Int32) (x8 : Int32) (x9 : Int32) (x10 : Int32) (x11 : Int32) (x12 : Int32) (x13 : Int32) (x14 : Int32) (x15 : Int32) (x16 : Int32) (x17 : Int32) (x18 : Int32) (x19 : Int32) (x20 : Int32) (x25 : Int32) (x26 : Int32) (x27 : Int32) (x28 : Int32) (x29 : Int32) {r : ((Int32 × QHeap)) ⊕ (Int32 × Int32 × Int32 × Int32 × Int32 × Int32 × Int32 × Int32 × Int32 × Int32 × Int32 × Int32 × Int32 × Int32 × Int32 × Int32 × Ob)} {u : Option Value} {τ : QHeap} (h : J0_529 s p0 x3 x4 x5 x6 x7 x8 x9 x10 x11 x12 x13 x14 x15 x16 x17 x18 x19 x20 x25 x26 x27 x28 x29 = some r) (hx0 : ∀ x : Int32 × QHeap, r = .inl x → u = (some (Value.int x.1)) ∧ τ = x.2) (hc : ∀ x : Int32 × Int32 × Int32 × Int32 × Int32 × Int32 × Int32 × Int32 × Int32 × Int32 × Int32 × Int32 × Int32 × Int32 × Int32 × Int32 × Ob, r = .inr x → QTri l Z n0 ad 0 (85, [vR 0, none, vR 1, vI x3, vI x.1, vI x.2.1, vI x.2.2.1, vI x.2.2.2.1, vI x.2.2.2.2.1, vI x.2.2.2.2.2.1, vI x.2.2.2.2.2.2.1, vI x.2.2.2.2.2.2.2.1, vI x.2.2.2.2.2.2.2.2.1, vI x.2.2.2.2.2.2.2.2.2.1, vI x.2.2.2.2.2.2.2.2.2.2.1, vI x.2.2.2.2.2.2.2.2.2.2.2.1, vI x.2.2.2.2.2.2.2.2.2.2.2.2.1, vI x.2.2.2.2.2.2.2.2.2.2.2.2.2.1, vI x.2.2.2.2.2.2.2.2.2.2.2.2.2.2.1, vI x.2.2.2.2.2.2.2.2.2.2.2.2.2.2.2.1, none, none, none, none, none, none, none, none, none, none], [], (H0 s x.2.2.2.2.2.2.2.2.2.2.2.2.2.2.2.2)) u τ) : QTri l Z n0 ad 0 (529, [vR 0, none, vR 1, vI x3, vI x4, vI x5, vI x6, vI x7, vI x8, vI x9, vI x10, vI x11, vI x12, vI x13, vI x14, vI x15, vI x16, vI x17, vI x18, vI x19, vI x20, none, none, none, none, vI x25, vI x26, vI x27, vI x28, vI x29], [], (H0 s p0)) u τ := by
 unfold J0_529 at h
 refine zS Ad W 2 (st' := (533, [vR 0, none, vR 1, vI x3, vI x4, vI x5, vI x6, vI x7, vI x8, vI x9, vI x10, vI x11, vI x12, vI x13, vI x14, vI x15, vI x16, vI x17, vI x18, vI x19, vI x20, none, none, none, none, vI x25, vI x26, vI x27, vI x28, vI x29], [.int x28, .int x29], (H0 s p0))) rfl ?_
 rcases qite h with ⟨hc188, h⟩ | ⟨hc188, h⟩
 ·refine zT Ad W (t := 538) (f := 536) rfl (XT.ii_eq_t hc188) ?_
  refine zS Ad W 1 (st' := (540, [vR 0, none, vR 1, vI x3, vI x4, vI x5, vI x6, vI x7, vI x8, vI x9, vI x10, vI x11, vI x12, vI x13, vI x14, vI x15, vI x16, vI x17, vI x18, vI x19, vI x20, none, none, none, none, vI x25, vI x26, vI x27, vI x28, vI x29], [.int x29], (H0 s p0))) rfl ?_
  have K191 : ∀ z189 : Int32, z189 = (if x29 = (0:Int32) then x8 else (if x20 = (10:Int32) then x25 else x8)) → ∀ z190 : Int32, z190 = (if x29 = (0:Int32) then x9 else (if x20 = (10:Int32) then (if x27 = (0:Int32) then (0:Int32) else x26) else x9)) → QTri l Z n0 ad 0 (567, [vR 0, none, vR 1, vI x3, vI x4, vI x5, vI x6, vI x7, vI z189, vI z190, vI x10, vI x11, vI x12, vI x13, vI x14, vI x15, vI x16, vI x17, vI x18, vI x19, vI x20, none, none, none, none, vI x25, vI x26, vI x27, none, vI x29], [], (H0 s p0)) u τ := by
   intro z189 ez189
   intro z190 ez190
   subst ez189
   subst ez190
   refine zS Ad W 1 (st' := (569, [vR 0, none, vR 1, vI x3, vI x4, vI x5, vI x6, vI x7, vI (if x29 = (0:Int32) then x8 else (if x20 = (10:Int32) then x25 else x8)), vI (if x29 = (0:Int32) then x9 else (if x20 = (10:Int32) then (if x27 = (0:Int32) then (0:Int32) else x26) else x9)), vI x10, vI x11, vI x12, vI x13, vI x14, vI x15, vI x16, vI x17, vI x18, vI x19, vI x20, none, none, none, none, vI x25, vI x26, vI x27, none, vI x29], [.int x29], (H0 s p0))) rfl ?_
   have K197 : ∀ z195 : Int32, z195 = (if x29 = (0:Int32) then x10 else (if x20 = (11:Int32) then x25 else x10)) → ∀ z196 : Int32, z196 = (if x29 = (0:Int32) then x11 else (if x20 = (11:Int32) then (if x27 = (0:Int32) then (0:Int32) else x26) else x11)) → QTri l Z n0 ad 0 (596, [vR 0, none, vR 1, vI x3, vI x4, vI x5, vI x6, vI x7, vI (if x29 = (0:Int32) then x8 else (if x20 = (10:Int32) then x25 else x8)), vI (if x29 = (0:Int32) then x9 else (if x20 = (10:Int32) then (if x27 = (0:Int32) then (0:Int32) else x26) else x9)), vI z195, vI z196, vI x12, vI x13, vI x14, vI x15, vI x16, vI x17, vI x18, vI x19, none, none, none, none, none, none, none, none, none, vI x29], [], (H0 s p0)) u τ := by
    intro z195 ez195
    intro z196 ez196
    subst ez195
    subst ez196
    refine zS Ad W 1 (st' := (598, [vR 0, none, vR 1, vI x3, vI x4, vI x5, vI x6, vI x7, vI (if x29 = (0:Int32) then x8 else (if x20 = (10:Int32) then x25 else x8)), vI (if x29 = (0:Int32) then x9 else (if x20 = (10:Int32) then (if x27 = (0:Int32) then (0:Int32) else x26) else x9)), vI (if x29 = (0:Int32) then x10 else (if x20 = (11:Int32) then x25 else x10)), vI (if x29 = (0:Int32) then x11 else (if x20 = (11:Int32) then (if x27 = (0:Int32) then (0:Int32) else x26) else x11)), vI x12, vI x13, vI x14, vI x15, vI x16, vI x17, vI x18, vI x19, none, none, none, none, none, none, none, none, none, vI x29], [.int x29], (H0 s p0))) rfl ?_
    have K202 : ∀ z201 : Int32, z201 = (if x29 = (0:Int32) then x18 else (0:Int32)) → QTri l Z n0 ad 0 (604, [vR 0, none, vR 1, vI x3, vI x4, vI x5, vI x6, vI x7, vI (if x29 = (0:Int32) then x8 else (if x20 = (10:Int32) then x25 else x8)), vI (if x29 = (0:Int32) then x9 else (if x20 = (10:Int32) then (if x27 = (0:Int32) then (0:Int32) else x26) else x9)), vI (if x29 = (0:Int32) then x10 else (if x20 = (11:Int32) then x25 else x10)), vI (if x29 = (0:Int32) then x11 else (if x20 = (11:Int32) then (if x27 = (0:Int32) then (0:Int32) else x26) else x11)), vI x12, vI x13, vI x14, vI x15, vI x16, vI x17, vI z201, vI x19, none, none, none, none, none, none, none, none, none, none], [], (H0 s p0)) u τ := by
     intro z201 ez201
     subst ez201
     refine zS Ad W 1 (st' := (791, [vR 0, none, vR 1, vI x3, vI x4, vI x5, vI x6, vI x7, vI (if x29 = (0:Int32) then x8 else (if x20 = (10:Int32) then x25 else x8)), vI (if x29 = (0:Int32) then x9 else (if x20 = (10:Int32) then (if x27 = (0:Int32) then (0:Int32) else x26) else x9)), vI (if x29 = (0:Int32) then x10 else (if x20 = (11:Int32) then x25 else x10)), vI (if x29 = (0:Int32) then x11 else (if x20 = (11:Int32) then (if x27 = (0:Int32) then (0:Int32) else x26) else x11)), vI x12, vI x13, vI x14, vI x15, vI x16, vI x17, vI (if x29 = (0:Int32) then x18 else (0:Int32)), vI x19, none, none, none, none, none, none, none, none, none, none], [], (H0 s p0))) rfl ?_
     exact zM [tt,ff,tt,tt,tt,tt,tt,tt,tt,tt,tt,tt,tt,tt,tt,tt,tt,tt,tt,tt,ff,ff,ff,ff,ff,ff,ff,ff,ff,ff] (tJ0_791 Ad W s p0 x3 x4 x5 x6 x7 (if x29 = (0:Int32) then x8 else (if x20 = (10:Int32) then x25 else x8)) (if x29 = (0:Int32) then x9 else (if x20 = (10:Int32) then (if x27 = (0:Int32) then (0:Int32) else x26) else x9)) (if x29 = (0:Int32) then x10 else (if x20 = (11:Int32) then x25 else x10)) (if x29 = (0:Int32) then x11 else (if x20 = (11:Int32) then (if x27 = (0:Int32) then (0:Int32) else x26) else x11)) x12 x13 x14 x15 x16 x17 (if x29 = (0:Int32) then x18 else (0:Int32)) x19 h hx0 hc)
    rcases em (x29 = (0:Int32)) with hc203 | hc203
    ·refine zT Ad W (t := 604) (f := 601) rfl (XT.i0_eq_t hc203) ?_
     exact zM [tt,ff,tt,tt,tt,tt,tt,tt,tt,tt,tt,tt,tt,tt,tt,tt,tt,tt,tt,tt,ff,ff,ff,ff,ff,ff,ff,ff,ff,ff] (K202 _ (if_pos hc203).symm)
    ·refine zF Ad W (t := 604) (f := 601) rfl (XT.i0_eq_f hc203) ?_
     refine zS Ad W 2 (st' := (604, [vR 0, none, vR 1, vI x3, vI x4, vI x5, vI x6, vI x7, vI (if x29 = (0:Int32) then x8 else (if x20 = (10:Int32) then x25 else x8)), vI (if x29 = (0:Int32) then x9 else (if x20 = (10:Int32) then (if x27 = (0:Int32) then (0:Int32) else x26) else x9)), vI (if x29 = (0:Int32) then x10 else (if x20 = (11:Int32) then x25 else x10)), vI (if x29 = (0:Int32) then x11 else (if x20 = (11:Int32) then (if x27 = (0:Int32) then (0:Int32) else x26) else x11)), vI x12, vI x13, vI x14, vI x15, vI x16, vI x17, vI (0:Int32), vI x19, none, none, none, none, none, none, none, none, none, vI x29], [], (H0 s p0))) rfl ?_
     exact zM [tt,ff,tt,tt,tt,tt,tt,tt,tt,tt,tt,tt,tt,tt,tt,tt,tt,tt,tt,tt,ff,ff,ff,ff,ff,ff,ff,ff,ff,ff] (K202 _ (if_neg hc203).symm)
   rcases em (x29 = (0:Int32)) with hc198 | hc198
   ·refine zT Ad W (t := 596) (f := 572) rfl (XT.i0_eq_t hc198) ?_
    exact zM [tt,ff,tt,tt,tt,tt,tt,tt,tt,tt,tt,tt,tt,tt,tt,tt,tt,tt,tt,tt,ff,ff,ff,ff,ff,ff,ff,ff,ff,tt] (K197 _ (if_pos hc198).symm _ (if_pos hc198).symm)
   ·refine zF Ad W (t := 596) (f := 572) rfl (XT.i0_eq_f hc198) ?_
    refine zS Ad W 2 (st' := (576, [vR 0, none, vR 1, vI x3, vI x4, vI x5, vI x6, vI x7, vI (if x29 = (0:Int32) then x8 else (if x20 = (10:Int32) then x25 else x8)), vI (if x29 = (0:Int32) then x9 else (if x20 = (10:Int32) then (if x27 = (0:Int32) then (0:Int32) else x26) else x9)), vI x10, vI x11, vI x12, vI x13, vI x14, vI x15, vI x16, vI x17, vI x18, vI x19, vI x20, none, none, none, none, vI x25, vI x26, vI x27, none, vI x29], [.int (11:Int32), .int x20], (H0 s p0))) rfl ?_
    rcases em (x20 = (11:Int32)) with hc199 | hc199
    ·refine zF Ad W (t := 596) (f := 579) rfl (XT.ii_ne_f hc199) ?_
     refine zS Ad W 3 (st' := (585, [vR 0, none, vR 1, vI x3, vI x4, vI x5, vI x6, vI x7, vI (if x29 = (0:Int32) then x8 else (if x20 = (10:Int32) then x25 else x8)), vI (if x29 = (0:Int32) then x9 else (if x20 = (10:Int32) then (if x27 = (0:Int32) then (0:Int32) else x26) else x9)), vI x25, vI x11, vI x12, vI x13, vI x14, vI x15, vI x16, vI x17, vI x18, vI x19, vI x20, none, none, none, none, vI x25, vI x26, vI x27, none, vI x29], [.int x27], (H0 s p0))) rfl ?_
     rcases em (x27 = (0:Int32)) with hc200 | hc200
     ·refine zT Ad W (t := 593) (f := 588) rfl (XT.i0_eq_t hc200) ?_
      refine zS Ad W 2 (st' := (596, [vR 0, none, vR 1, vI x3, vI x4, vI x5, vI x6, vI x7, vI (if x29 = (0:Int32) then x8 else (if x20 = (10:Int32) then x25 else x8)), vI (if x29 = (0:Int32) then x9 else (if x20 = (10:Int32) then (if x27 = (0:Int32) then (0:Int32) else x26) else x9)), vI x25, vI (0:Int32), vI x12, vI x13, vI x14, vI x15, vI x16, vI x17, vI x18, vI x19, vI x20, none, none, none, none, vI x25, vI x26, vI x27, none, vI x29], [], (H0 s p0))) rfl ?_
      exact zM [tt,ff,tt,tt,tt,tt,tt,tt,tt,tt,tt,tt,tt,tt,tt,tt,tt,tt,tt,tt,ff,ff,ff,ff,ff,ff,ff,ff,ff,tt] (K197 _ ((if_neg hc198).trans (if_pos hc199)).symm _ ((if_neg hc198).trans ((if_pos hc199).trans (if_pos hc200))).symm)
     ·refine zF Ad W (t := 593) (f := 588) rfl (XT.i0_eq_f hc200) ?_
      refine zS Ad W 3 (st' := (596, [vR 0, none, vR 1, vI x3, vI x4, vI x5, vI x6, vI x7, vI (if x29 = (0:Int32) then x8 else (if x20 = (10:Int32) then x25 else x8)), vI (if x29 = (0:Int32) then x9 else (if x20 = (10:Int32) then (if x27 = (0:Int32) then (0:Int32) else x26) else x9)), vI x25, vI x26, vI x12, vI x13, vI x14, vI x15, vI x16, vI x17, vI x18, vI x19, vI x20, none, none, none, none, vI x25, vI x26, vI x27, none, vI x29], [], (H0 s p0))) rfl ?_
      exact zM [tt,ff,tt,tt,tt,tt,tt,tt,tt,tt,tt,tt,tt,tt,tt,tt,tt,tt,tt,tt,ff,ff,ff,ff,ff,ff,ff,ff,ff,tt] (K197 _ ((if_neg hc198).trans (if_pos hc199)).symm _ ((if_neg hc198).trans ((if_pos hc199).trans (if_neg hc200))).symm)
    ·refine zT Ad W (t := 596) (f := 579) rfl (XT.ii_ne_t hc199) ?_
     exact zM [tt,ff,tt,tt,tt,tt,tt,tt,tt,tt,tt,tt,tt,tt,tt,tt,tt,tt,tt,tt,ff,ff,ff,ff,ff,ff,ff,ff,ff,tt] (K197 _ ((if_neg hc198).trans (if_neg hc199)).symm _ ((if_neg hc198).trans (if_neg hc199)).symm)
  rcases em (x29 = (0:Int32)) with hc192 | hc192
  ·refine zT Ad W (t := 567) (f := 543) rfl (XT.i0_eq_t hc192) ?_
   exact zM [tt,ff,tt,tt,tt,tt,tt,tt,tt,tt,tt,tt,tt,tt,tt,tt,tt,tt,tt,tt,tt,ff,ff,ff,ff,tt,tt,tt,ff,tt] (K191 _ (if_pos hc192).symm _ (if_pos hc192).symm)
  ·refine zF Ad W (t := 567) (f := 543) rfl (XT.i0_eq_f hc192) ?_
   refine zS Ad W 2 (st' := (547, [vR 0, none, vR 1, vI x3, vI x4, vI x5, vI x6, vI x7, vI x8, vI x9, vI x10, vI x11, vI x12, vI x13, vI x14, vI x15, vI x16, vI x17, vI x18, vI x19, vI x20, none, none, none, none, vI x25, vI x26, vI x27, vI x28, vI x29], [.int (10:Int32), .int x20], (H0 s p0))) rfl ?_
   rcases em (x20 = (10:Int32)) with hc193 | hc193
   ·refine zF Ad W (t := 567) (f := 550) rfl (XT.ii_ne_f hc193) ?_
    refine zS Ad W 3 (st' := (556, [vR 0, none, vR 1, vI x3, vI x4, vI x5, vI x6, vI x7, vI x25, vI x9, vI x10, vI x11, vI x12, vI x13, vI x14, vI x15, vI x16, vI x17, vI x18, vI x19, vI x20, none, none, none, none, vI x25, vI x26, vI x27, vI x28, vI x29], [.int x27], (H0 s p0))) rfl ?_
    rcases em (x27 = (0:Int32)) with hc194 | hc194
    ·refine zT Ad W (t := 564) (f := 559) rfl (XT.i0_eq_t hc194) ?_
     refine zS Ad W 2 (st' := (567, [vR 0, none, vR 1, vI x3, vI x4, vI x5, vI x6, vI x7, vI x25, vI (0:Int32), vI x10, vI x11, vI x12, vI x13, vI x14, vI x15, vI x16, vI x17, vI x18, vI x19, vI x20, none, none, none, none, vI x25, vI x26, vI x27, vI x28, vI x29], [], (H0 s p0))) rfl ?_
     exact zM [tt,ff,tt,tt,tt,tt,tt,tt,tt,tt,tt,tt,tt,tt,tt,tt,tt,tt,tt,tt,tt,ff,ff,ff,ff,tt,tt,tt,ff,tt] (K191 _ ((if_neg hc192).trans (if_pos hc193)).symm _ ((if_neg hc192).trans ((if_pos hc193).trans (if_pos hc194))).symm)
    ·refine zF Ad W (t := 564) (f := 559) rfl (XT.i0_eq_f hc194) ?_
     refine zS Ad W 3 (st' := (567, [vR 0, none, vR 1, vI x3, vI x4, vI x5, vI x6, vI x7, vI x25, vI x26, vI x10, vI x11, vI x12, vI x13, vI x14, vI x15, vI x16, vI x17, vI x18, vI x19, vI x20, none, none, none, none, vI x25, vI x26, vI x27, vI x28, vI x29], [], (H0 s p0))) rfl ?_
     exact zM [tt,ff,tt,tt,tt,tt,tt,tt,tt,tt,tt,tt,tt,tt,tt,tt,tt,tt,tt,tt,tt,ff,ff,ff,ff,tt,tt,tt,ff,tt] (K191 _ ((if_neg hc192).trans (if_pos hc193)).symm _ ((if_neg hc192).trans ((if_pos hc193).trans (if_neg hc194))).symm)
   ·refine zT Ad W (t := 567) (f := 550) rfl (XT.ii_ne_t hc193) ?_
    exact zM [tt,ff,tt,tt,tt,tt,tt,tt,tt,tt,tt,tt,tt,tt,tt,tt,tt,tt,tt,tt,tt,ff,ff,ff,ff,tt,tt,tt,ff,tt] (K191 _ ((if_neg hc192).trans (if_neg hc193)).symm _ ((if_neg hc192).trans (if_neg hc193)).symm)
 ·refine zF Ad W (t := 538) (f := 536) rfl (XT.ii_eq_f hc188) ?_
  refine zS Ad W 1 (st' := (537, [vR 0, none, vR 1, vI x3, vI x4, vI x5, vI x6, vI x7, vI x8, vI x9, vI x10, vI x11, vI x12, vI x13, vI x14, vI x15, vI x16, vI x17, vI x18, vI x19, vI x20, none, none, none, none, vI x25, vI x26, vI x27, vI x28, vI x29], [.int (0:Int32)], (H0 s p0))) rfl ?_
  obtain rfl := Option.some.inj h
  obtain ⟨rfl, rfl⟩ := hx0 ((0:Int32), (H0 s p0)) rfl
  exact QTri.retZ rfl rfl
def H0x21 (s : List Int32) (o0 : Ob) (a0_15 : Int32) : QHeap := H0v s (f_part o0) (f_keys o0) (f_vals o0) (f_flg o0) (f_res o0) (f_resNull o0) (f_frameCnt o0) (f_sorted o0) (f_cap o0) (f_rows o0) (f_direction o0) (f_nulls o0) (f_mode o0) (f_startKind o0) (f_startOff o0) a0_15 (f_endOff o0) (f_fn o0) (f_fnArg o0) (f_computed o0) (f_sortedLen o0) (f_curPos o0) (f_aggSum o0) (f_aggCount o0) (f_aggRows o0) (f_aggMin o0) (f_aggMax o0)
def H0x22 (s : List Int32) (o0 : Ob) (a0_15 : Int32) (a0_16 : Int32) : QHeap := H0v s (f_part o0) (f_keys o0) (f_vals o0) (f_flg o0) (f_res o0) (f_resNull o0) (f_frameCnt o0) (f_sorted o0) (f_cap o0) (f_rows o0) (f_direction o0) (f_nulls o0) (f_mode o0) (f_startKind o0) (f_startOff o0) a0_15 a0_16 (f_fn o0) (f_fnArg o0) (f_computed o0) (f_sortedLen o0) (f_curPos o0) (f_aggSum o0) (f_aggCount o0) (f_aggRows o0) (f_aggMin o0) (f_aggMax o0)
def H0x23 (s : List Int32) (o0 : Ob) (a0_15 : Int32) (a0_16 : Int32) (a0_19 : Int32) : QHeap := H0v s (f_part o0) (f_keys o0) (f_vals o0) (f_flg o0) (f_res o0) (f_resNull o0) (f_frameCnt o0) (f_sorted o0) (f_cap o0) (f_rows o0) (f_direction o0) (f_nulls o0) (f_mode o0) (f_startKind o0) (f_startOff o0) a0_15 a0_16 (f_fn o0) (f_fnArg o0) a0_19 (f_sortedLen o0) (f_curPos o0) (f_aggSum o0) (f_aggCount o0) (f_aggRows o0) (f_aggMin o0) (f_aggMax o0)
def J29_38 (o : Ob) (x1 : Int32) (x2 : Int32) (x3 : Int32) : Option (Int32 × Ob) :=
  some ((1 : Int32), (s_computed (s_endOff (s_endKind o x1) (if x3 = (0 : Int32) then (0 : Int32) else x2)) (0 : Int32)))
theorem tJ29_38 (Ad : QAd n0 ad) (W : QW Z a0) (s : List Int32) (o : Ob) (x1 : Int32) (x2 : Int32) (x3 : Int32) {r : Int32 × Ob} (h : J29_38 o x1 x2 x3 = some r) : QTri l Z n0 ad 29 (38, [vR 1, vI x1, vI x2, vI x3], [], (H0 s o)) (some (Value.int r.1)) (H0 s r.2) := by
 unfold J29_38 at h
 refine zS Ad W 3 (st' := (43, [vR 1, vI x1, vI x2, vI x3], [], (H0x21 s o x1))) rfl ?_
 refine zS Ad W 2 (st' := (45, [vR 1, vI x1, vI x2, vI x3], [.int x3, .ref 1], (H0x21 s o x1))) rfl ?_
 have K212 : ∀ z211 : Int32, z211 = (if x3 = (0:Int32) then (0:Int32) else x2) → QTri l Z n0 ad 29 (53, [vR 1, none, none, none], [.int z211, .ref 1], (H0x21 s o x1)) (some (Value.int r.1)) (H0 s r.2) := by
  intro z211 ez211
  subst ez211
  refine zS Ad W 1 (st' := (56, [vR 1, none, none, none], [], (H0x22 s o x1 (if x3 = (0:Int32) then (0:Int32) else x2)))) rfl ?_
  refine zS Ad W 3 (st' := (61, [vR 1, none, none, none], [], (H0x23 s o x1 (if x3 = (0:Int32) then (0:Int32) else x2) (0:Int32)))) rfl ?_
  refine zS Ad W 1 (st' := (62, [vR 1, none, none, none], [.int (1:Int32)], (H0x23 s o x1 (if x3 = (0:Int32) then (0:Int32) else x2) (0:Int32)))) rfl ?_
  have E214 : ((H0x23 s o x1 (if x3 = (0:Int32) then (0:Int32) else x2) (0:Int32)) : QHeap) = (H0 s (s_computed (s_endOff (s_endKind o x1) (if x3 = (0:Int32) then (0:Int32) else x2)) (0:Int32))) := by simp only [fs, H0, H0v, H0x23, s_endKind, s_endOff, s_computed]
  rw [E214]
  obtain rfl := Option.some.inj h
  exact QTri.retZ rfl rfl
 rcases em (x3 = (0:Int32)) with hc213 | hc213
 ·refine zT Ad W (t := 52) (f := 48) rfl (XT.i0_eq_t hc213) ?_
  refine zS Ad W 1 (st' := (53, [vR 1, vI x1, vI x2, vI x3], [.int (0:Int32), .ref 1], (H0x21 s o x1))) rfl ?_
  exact zM [tt,ff,ff,ff] (K212 _ (if_pos hc213).symm)
 ·refine zF Ad W (t := 52) (f := 48) rfl (XT.i0_eq_f hc213) ?_
  refine zS Ad W 2 (st' := (53, [vR 1, vI x1, vI x2, vI x3], [.int x2, .ref 1], (H0x21 s o x1))) rfl ?_
  exact zM [tt,ff,ff,ff] (K212 _ (if_neg hc213).symm)
/-- setFrameEnd(II)Z -/
def F29 (o : Ob) (x1 : Int32) (x2 : Int32) : Option (Int32 × Ob) :=
 (if x1 < (1:Int32) then some ((0:Int32), o) else (if (4:Int32) < x1 then some ((0:Int32), o) else (if (if x1 = (1:Int32) then (1:Int32) else (if x1 = (3:Int32) then (1:Int32) else (0:Int32))) = (0:Int32) then (J29_38 o x1 x2 (if x1 = (1:Int32) then (1:Int32) else (if x1 = (3:Int32) then (1:Int32) else (0:Int32)))) else (if x2 < (0:Int32) then some ((0:Int32), o) else (J29_38 o x1 x2 (if x1 = (1:Int32) then (1:Int32) else (if x1 = (3:Int32) then (1:Int32) else (0:Int32))))))))
theorem tF29 (Ad : QAd n0 ad) (W : QW Z a0) (s : List Int32) (o : Ob) (x1 : Int32) (x2 : Int32) {r : Int32 × Ob} (h : F29 o x1 x2 = some r) : QTri l Z n0 ad 29 (0, qentry [.ref 1, .int x1, .int x2] (pMaxL 29), [], (H0 s o)) (some (Value.int r.1)) (H0 s r.2) := by
 unfold F29 at h
 refine zS Ad W 2 (st' := (2, [vR 1, vI x1, vI x2, none], [.int (1:Int32), .int x1], (H0 s o))) rfl ?_
 rcases qite h with ⟨hc204, h⟩ | ⟨hc204, h⟩
 ·refine zT Ad W (t := 10) (f := 5) rfl (XT.ii_lt_t hc204) ?_
  refine zS Ad W 1 (st' := (11, [vR 1, vI x1, vI x2, none], [.int (0:Int32)], (H0 s o))) rfl ?_
  obtain rfl := Option.some.inj h
  exact QTri.retZ rfl rfl
 ·refine zF Ad W (t := 10) (f := 5) rfl (XT.ii_lt_f hc204) ?_
  refine zS Ad W 2 (st' := (7, [vR 1, vI x1, vI x2, none], [.int (4:Int32), .int x1], (H0 s o))) rfl ?_
  rcases qite h with ⟨hc205, h⟩ | ⟨hc205, h⟩
  ·refine zF Ad W (t := 12) (f := 10) rfl (XT.ii_le_f hc205) ?_
   refine zS Ad W 1 (st' := (11, [vR 1, vI x1, vI x2, none], [.int (0:Int32)], (H0 s o))) rfl ?_
   obtain rfl := Option.some.inj h
   exact QTri.retZ rfl rfl
  ·refine zT Ad W (t := 12) (f := 10) rfl (XT.ii_le_t hc205) ?_
   refine zS Ad W 2 (st' := (14, [vR 1, vI x1, vI x2, none], [.int (1:Int32), .int x1], (H0 s o))) rfl ?_
   have K207 : ∀ z206 : Int32, z206 = (if x1 = (1:Int32) then (1:Int32) else (if x1 = (3:Int32) then (1:Int32) else (0:Int32))) → QTri l Z n0 ad 29 (27, [vR 1, vI x1, vI x2, none], [.int z206], (H0 s o)) (some (Value.int r.1)) (H0 s r.2) := by
    intro z206 ez206
    subst ez206
    refine zS Ad W 2 (st' := (29, [vR 1, vI x1, vI x2, vI (if x1 = (1:Int32) then (1:Int32) else (if x1 = (3:Int32) then (1:Int32) else (0:Int32)))], [.int (if x1 = (1:Int32) then (1:Int32) else (if x1 = (3:Int32) then (1:Int32) else (0:Int32)))], (H0 s o))) rfl ?_
    rcases qite h with ⟨hc210, h⟩ | ⟨hc210, h⟩
    ·refine zT Ad W (t := 38) (f := 32) rfl (XT.i0_eq_t hc210) ?_
     exact zM [tt,tt,tt,tt] (tJ29_38 Ad W s o x1 x2 (if x1 = (1:Int32) then (1:Int32) else (if x1 = (3:Int32) then (1:Int32) else (0:Int32))) h)
    ·refine zF Ad W (t := 38) (f := 32) rfl (XT.i0_eq_f hc210) ?_
     refine zS Ad W 1 (st' := (33, [vR 1, vI x1, vI x2, vI (if x1 = (1:Int32) then (1:Int32) else (if x1 = (3:Int32) then (1:Int32) else (0:Int32)))], [.int x2], (H0 s o))) rfl ?_
     rcases qite h with ⟨hc215, h⟩ | ⟨hc215, h⟩
     ·refine zF Ad W (t := 38) (f := 36) rfl (XT.i0_ge_f hc215) ?_
      refine zS Ad W 1 (st' := (37, [vR 1, vI x1, vI x2, vI (if x1 = (1:Int32) then (1:Int32) else (if x1 = (3:Int32) then (1:Int32) else (0:Int32)))], [.int (0:Int32)], (H0 s o))) rfl ?_
      obtain rfl := Option.some.inj h
      exact QTri.retZ rfl rfl
     ·refine zT Ad W (t := 38) (f := 36) rfl (XT.i0_ge_t hc215) ?_
      exact zM [tt,tt,tt,tt] (tJ29_38 Ad W s o x1 x2 (if x1 = (1:Int32) then (1:Int32) else (if x1 = (3:Int32) then (1:Int32) else (0:Int32))) h)
   rcases em (x1 = (1:Int32)) with hc208 | hc208
   ·refine zT Ad W (t := 22) (f := 17) rfl (XT.ii_eq_t hc208) ?_
    refine zS Ad W 2 (st' := (27, [vR 1, vI x1, vI x2, none], [.int (1:Int32)], (H0 s o))) rfl ?_
    exact zM [tt,tt,tt,ff] (K207 _ (if_pos hc208).symm)
   ·refine zF Ad W (t := 22) (f := 17) rfl (XT.ii_eq_f hc208) ?_
    refine zS Ad W 2 (st' := (19, [vR 1, vI x1, vI x2, none], [.int (3:Int32), .int x1], (H0 s o))) rfl ?_
    rcases em (x1 = (3:Int32)) with hc209 | hc209
    ·refine zF Ad W (t := 26) (f := 22) rfl (XT.ii_ne_f hc209) ?_
     refine zS Ad W 2 (st' := (27, [vR 1, vI x1, vI x2, none], [.int (1:Int32)], (H0 s o))) rfl ?_
     exact zM [tt,tt,tt,ff] (K207 _ ((if_neg hc208).trans (if_pos hc209)).symm)
    ·refine zT Ad W (t := 26) (f := 22) rfl (XT.ii_ne_t hc209) ?_
     refine zS Ad W 1 (st' := (27, [vR 1, vI x1, vI x2, none], [.int (0:Int32)], (H0 s o))) rfl ?_
     exact zM [tt,tt,tt,ff] (K207 _ ((if_neg hc208).trans (if_neg hc209)).symm)
def J0_426 (s : List Int32) (p0 : Ob) (x3 : Int32) (x4 : Int32) (x5 : Int32) (x6 : Int32) (x7 : Int32) (x8 : Int32) (x9 : Int32) (x10 : Int32) (x11 : Int32) (x12 : Int32) (x13 : Int32) (x14 : Int32) (x15 : Int32) (x16 : Int32) (x17 : Int32) (x18 : Int32) (x19 : Int32) (x20 : Int32) (x21 : Int32) (x22 : Int32) : Option (((Int32 × QHeap)) ⊕ (Int32 × Int32 × Int32 × Int32 × Int32 × Int32 × Int32 × Int32 × Int32 × Int32 × Int32 × Int32 × Int32 × Int32 × Int32 × Int32 × Ob)) :=
  (if x20 = (10 : Int32) then (F16 p0 (x21 % (5 : Int32)) ((x22 &&& (7 : Int32)) - (1 : Int32))).bind fun r187 => (J0_529 s r187.2 x3 x4 x5 x6 x7 x8 x9 x10 x11 x12 x13 x14 x15 x16 x17 x18 x19 x20 (x21 % (5 : Int32)) ((x22 &&& (7 : Int32)) - (1 : Int32)) (if (x21 % (5 : Int32)) = (1 : Int32) then (1 : Int32) else (if (x21 % (5 : Int32)) = (3 : Int32) then (1 : Int32) else (0 : Int32))) (if x20 = (10 : Int32) then (if (3 : Int32) < (x21 % (5 : Int32)) then (0 : Int32) else (if (if (x21 % (5 : Int32)) = (1 : Int32) then (1 : Int32) else (if (x21 % (5 : Int32)) = (3 : Int32) then (1 : Int32) else (0 : Int32))) = (0 : Int32) then (1 : Int32) else (if ((x22 &&& (7 : Int32)) - (1 : Int32)) < (0 : Int32) then (0 : Int32) else (1 : Int32)))) else (if (x21 % (5 : Int32)) < (1 : Int32) then (0 : Int32) else (if (if (x21 % (5 : Int32)) = (1 : Int32) then (1 : Int32) else (if (x21 % (5 : Int32)) = (3 : Int32) then (1 : Int32) else (0 : Int32))) = (0 : Int32) then (1 : Int32) else (if ((x22 &&& (7 : Int32)) - (1 : Int32)) < (0 : Int32) then (0 : Int32) else (1 : Int32))))) r187.1) else (F29 p0 (x21 % (5 : Int32)) ((x22 &&& (7 : Int32)) - (1 : Int32))).bind fun r216 => (J0_529 s r216.2 x3 x4 x5 x6 x7 x8 x9 x10 x11 x12 x13 x14 x15 x16 x17 x18 x19 x20 (x21 % (5 : Int32)) ((x22 &&& (7 : Int32)) - (1 : Int32)) (if (x21 % (5 : Int32)) = (1 : Int32) then (1 : Int32) else (if (x21 % (5 : Int32)) = (3 : Int32) then (1 : Int32) else (0 : Int32))) (if x20 = (10 : Int32) then (if (3 : Int32) < (x21 % (5 : Int32)) then (0 : Int32) else (if (if (x21 % (5 : Int32)) = (1 : Int32) then (1 : Int32) else (if (x21 % (5 : Int32)) = (3 : Int32) then (1 : Int32) else (0 : Int32))) = (0 : Int32) then (1 : Int32) else (if ((x22 &&& (7 : Int32)) - (1 : Int32)) < (0 : Int32) then (0 : Int32) else (1 : Int32)))) else (if (x21 % (5 : Int32)) < (1 : Int32) then (0 : Int32) else (if (if (x21 % (5 : Int32)) = (1 : Int32) then (1 : Int32) else (if (x21 % (5 : Int32)) = (3 : Int32) then (1 : Int32) else (0 : Int32))) = (0 : Int32) then (1 : Int32) else (if ((x22 &&& (7 : Int32)) - (1 : Int32)) < (0 : Int32) then (0 : Int32) else (1 : Int32))))) r216.1))
theorem tJ0_426 (Ad : QAd n0 ad) (W : QW Z a0) (s : List Int32) (p0 : Ob) (x3 : Int32) (x4 : Int32) (x5 : Int32) (x6 : Int32) (x7 : Int32) (x8 : Int32) (x9 : Int32) (x10 : Int32) (x11 : Int32) (x12 : Int32) (x13 : Int32) (x14 : Int32) (x15 : Int32) (x16 : Int32) (x17 : Int32) (x18 : Int32) (x19 : Int32) (x20 : Int32) (x21 : Int32) (x22 : Int32) {r : ((Int32 × QHeap)) ⊕ (Int32 × Int32 × Int32 × Int32 × Int32 × Int32 × Int32 × Int32 × Int32 × Int32 × Int32 × Int32 × Int32 × Int32 × Int32 × Int32 × Ob)} {u : Option Value} {τ : QHeap} (h : J0_426 s p0 x3 x4 x5 x6 x7 x8 x9 x10 x11 x12 x13 x14 x15 x16 x17 x18 x19 x20 x21 x22 = some r) (hx0 : ∀ x : Int32 × QHeap, r = .inl x → u = (some (Value.int x.1)) ∧ τ = x.2) (hc : ∀ x : Int32 × Int32 × Int32 × Int32 × Int32 × Int32 × Int32 × Int32 × Int32 × Int32 × Int32 × Int32 × Int32 × Int32 × Int32 × Int32 × Ob, r = .inr x → QTri l Z n0 ad 0 (85, [vR 0, none, vR 1, vI x3, vI x.1, vI x.2.1, vI x.2.2.1, vI x.2.2.2.1, vI x.2.2.2.2.1, vI x.2.2.2.2.2.1, vI x.2.2.2.2.2.2.1, vI x.2.2.2.2.2.2.2.1, vI x.2.2.2.2.2.2.2.2.1, vI x.2.2.2.2.2.2.2.2.2.1, vI x.2.2.2.2.2.2.2.2.2.2.1, vI x.2.2.2.2.2.2.2.2.2.2.2.1, vI x.2.2.2.2.2.2.2.2.2.2.2.2.1, vI x.2.2.2.2.2.2.2.2.2.2.2.2.2.1, vI x.2.2.2.2.2.2.2.2.2.2.2.2.2.2.1, vI x.2.2.2.2.2.2.2.2.2.2.2.2.2.2.2.1, none, none, none, none, none, none, none, none, none, none], [], (H0 s x.2.2.2.2.2.2.2.2.2.2.2.2.2.2.2.2)) u τ) : QTri l Z n0 ad 0 (426, [vR 0, none, vR 1, vI x3, vI x4, vI x5, vI x6, vI x7, vI x8, vI x9, vI x10, vI x11, vI x12, vI x13, vI x14, vI x15, vI x16, vI x17, vI x18, vI x19, vI x20, vI x21, vI x22, none, none, none, none, none, none, none], [], (H0 s p0)) u τ := by
 unfold J0_426 at h
 refine zS Ad W 10 (st' := (441, [vR 0, none, vR 1, vI x3, vI x4, vI x5, vI x6, vI x7, vI x8, vI x9, vI x10, vI x11, vI x12, vI x13, vI x14, vI x15, vI x16, vI x17, vI x18, vI x19, vI x20, vI x21, vI x22, none, none, vI (x21 % (5:Int32)), vI ((x22 &&& (7:Int32)) - (1:Int32)), none, none, none], [], (H0 s p0))) rfl ?_
 refine zS Ad W 2 (st' := (444, [vR 0, none, vR 1, vI x3, vI x4, vI x5, vI x6, vI x7, vI x8, vI x9, vI x10, vI x11, vI x12, vI x13, vI x14, vI x15, vI x16, vI x17, vI x18, vI x19, vI x20, vI x21, vI x22, none, none, vI (x21 % (5:Int32)), vI ((x22 &&& (7:Int32)) - (1:Int32)), none, none, none], [.int (1:Int32), .int (x21 % (5:Int32))], (H0 s p0))) rfl ?_
 have K162 : ∀ z161 : Int32, z161 = (if (x21 % (5:Int32)) = (1:Int32) then (1:Int32) else (if (x21 % (5:Int32)) = (3:Int32) then (1:Int32) else (0:Int32))) → QTri l Z n0 ad 0 (458, [vR 0, none, vR 1, vI x3, vI x4, vI x5, vI x6, vI x7, vI x8, vI x9, vI x10, vI x11, vI x12, vI x13, vI x14, vI x15, vI x16, vI x17, vI x18, vI x19, vI x20, none, none, none, none, vI (x21 % (5:Int32)), vI ((x22 &&& (7:Int32)) - (1:Int32)), none, none, none], [.int z161], (H0 s p0)) u τ := by
  intro z161 ez161
  subst ez161
  refine zS Ad W 3 (st' := (464, [vR 0, none, vR 1, vI x3, vI x4, vI x5, vI x6, vI x7, vI x8, vI x9, vI x10, vI x11, vI x12, vI x13, vI x14, vI x15, vI x16, vI x17, vI x18, vI x19, vI x20, none, none, none, none, vI (x21 % (5:Int32)), vI ((x22 &&& (7:Int32)) - (1:Int32)), vI (if (x21 % (5:Int32)) = (1:Int32) then (1:Int32) else (if (x21 % (5:Int32)) = (3:Int32) then (1:Int32) else (0:Int32))), none, none], [.int (10:Int32), .int x20], (H0 s p0))) rfl ?_
  have K166 : ∀ z165 : Int32, z165 = (if x20 = (10:Int32) then (if (3:Int32) < (x21 % (5:Int32)) then (0:Int32) else (if (if (x21 % (5:Int32)) = (1:Int32) then (1:Int32) else (if (x21 % (5:Int32)) = (3:Int32) then (1:Int32) else (0:Int32))) = (0:Int32) then (1:Int32) else (if ((x22 &&& (7:Int32)) - (1:Int32)) < (0:Int32) then (0:Int32) else (1:Int32)))) else (if (x21 % (5:Int32)) < (1:Int32) then (0:Int32) else (if (if (x21 % (5:Int32)) = (1:Int32) then (1:Int32) else (if (x21 % (5:Int32)) = (3:Int32) then (1:Int32) else (0:Int32))) = (0:Int32) then (1:Int32) else (if ((x22 &&& (7:Int32)) - (1:Int32)) < (0:Int32) then (0:Int32) else (1:Int32))))) → QTri l Z n0 ad 0 (497, [vR 0, none, vR 1, vI x3, vI x4, vI x5, vI x6, vI x7, vI x8, vI x9, vI x10, vI x11, vI x12, vI x13, vI x14, vI x15, vI x16, vI x17, vI x18, vI x19, vI x20, none, none, none, none, vI (x21 % (5:Int32)), vI ((x22 &&& (7:Int32)) - (1:Int32)), vI (if (x21 % (5:Int32)) = (1:Int32) then (1:Int32) else (if (x21 % (5:Int32)) = (3:Int32) then (1:Int32) else (0:Int32))), none, none], [.int z165], (H0 s p0)) u τ := by
   intro z165 ez165
   subst ez165
   refine zS Ad W 3 (st' := (503, [vR 0, none, vR 1, vI x3, vI x4, vI x5, vI x6, vI x7, vI x8, vI x9, vI x10, vI x11, vI x12, vI x13, vI x14, vI x15, vI x16, vI x17, vI x18, vI x19, vI x20, none, none, none, none, vI (x21 % (5:Int32)), vI ((x22 &&& (7:Int32)) - (1:Int32)), vI (if (x21 % (5:Int32)) = (1:Int32) then (1:Int32) else (if (x21 % (5:Int32)) = (3:Int32) then (1:Int32) else (0:Int32))), vI (if x20 = (10:Int32) then (if (3:Int32) < (x21 % (5:Int32)) then (0:Int32) else (if (if (x21 % (5:Int32)) = (1:Int32) then (1:Int32) else (if (x21 % (5:Int32)) = (3:Int32) then (1:Int32) else (0:Int32))) = (0:Int32) then (1:Int32) else (if ((x22 &&& (7:Int32)) - (1:Int32)) < (0:Int32) then (0:Int32) else (1:Int32)))) else (if (x21 % (5:Int32)) < (1:Int32) then (0:Int32) else (if (if (x21 % (5:Int32)) = (1:Int32) then (1:Int32) else (if (x21 % (5:Int32)) = (3:Int32) then (1:Int32) else (0:Int32))) = (0:Int32) then (1:Int32) else (if ((x22 &&& (7:Int32)) - (1:Int32)) < (0:Int32) then (0:Int32) else (1:Int32))))), none], [.int (10:Int32), .int x20], (H0 s p0))) rfl ?_
   rcases qite h with ⟨hc174, h⟩ | ⟨hc174, h⟩
   ·refine zF Ad W (t := 519) (f := 506) rfl (XT.ii_ne_f hc174) ?_
    refine zS Ad W 3 (st' := (511, [vR 0, none, vR 1, vI x3, vI x4, vI x5, vI x6, vI x7, vI x8, vI x9, vI x10, vI x11, vI x12, vI x13, vI x14, vI x15, vI x16, vI x17, vI x18, vI x19, vI x20, none, none, none, none, vI (x21 % (5:Int32)), vI ((x22 &&& (7:Int32)) - (1:Int32)), vI (if (x21 % (5:Int32)) = (1:Int32) then (1:Int32) else (if (x21 % (5:Int32)) = (3:Int32) then (1:Int32) else (0:Int32))), vI (if x20 = (10:Int32) then (if (3:Int32) < (x21 % (5:Int32)) then (0:Int32) else (if (if (x21 % (5:Int32)) = (1:Int32) then (1:Int32) else (if (x21 % (5:Int32)) = (3:Int32) then (1:Int32) else (0:Int32))) = (0:Int32) then (1:Int32) else (if ((x22 &&& (7:Int32)) - (1:Int32)) < (0:Int32) then (0:Int32) else (1:Int32)))) else (if (x21 % (5:Int32)) < (1:Int32) then (0:Int32) else (if (if (x21 % (5:Int32)) = (1:Int32) then (1:Int32) else (if (x21 % (5:Int32)) = (3:Int32) then (1:Int32) else (0:Int32))) = (0:Int32) then (1:Int32) else (if ((x22 &&& (7:Int32)) - (1:Int32)) < (0:Int32) then (0:Int32) else (1:Int32))))), none], [.int ((x22 &&& (7:Int32)) - (1:Int32)), .int (x21 % (5:Int32)), .ref 1], (H0 s p0))) rfl ?_
    obtain ⟨r187, hr187, h⟩ := bind_eq_some_iff.mp h
    refine QTri.callV W (a := 1) (as := [.int (x21 % (5:Int32)), .int ((x22 &&& (7:Int32)) - (1:Int32))]) (rest := []) (w := (some (.int r187.1))) (σ₁ := (H0 s r187.2)) rfl rfl rfl rfl rfl rfl rfl rfl (tF16 Ad W s p0 (x21 % (5:Int32)) ((x22 &&& (7:Int32)) - (1:Int32)) hr187) ?_
    refine zS Ad W 2 (st' := (529, [vR 0, none, vR 1, vI x3, vI x4, vI x5, vI x6, vI x7, vI x8, vI x9, vI x10, vI x11, vI x12, vI x13, vI x14, vI x15, vI x16, vI x17, vI x18, vI x19, vI x20, none, none, none, none, vI (x21 % (5:Int32)), vI ((x22 &&& (7:Int32)) - (1:Int32)), vI (if (x21 % (5:Int32)) = (1:Int32) then (1:Int32) else (if (x21 % (5:Int32)) = (3:Int32) then (1:Int32) else (0:Int32))), vI (if x20 = (10:Int32) then (if (3:Int32) < (x21 % (5:Int32)) then (0:Int32) else (if (if (x21 % (5:Int32)) = (1:Int32) then (1:Int32) else (if (x21 % (5:Int32)) = (3:Int32) then (1:Int32) else (0:Int32))) = (0:Int32) then (1:Int32) else (if ((x22 &&& (7:Int32)) - (1:Int32)) < (0:Int32) then (0:Int32) else (1:Int32)))) else (if (x21 % (5:Int32)) < (1:Int32) then (0:Int32) else (if (if (x21 % (5:Int32)) = (1:Int32) then (1:Int32) else (if (x21 % (5:Int32)) = (3:Int32) then (1:Int32) else (0:Int32))) = (0:Int32) then (1:Int32) else (if ((x22 &&& (7:Int32)) - (1:Int32)) < (0:Int32) then (0:Int32) else (1:Int32))))), vI r187.1], [], (H0 s r187.2))) rfl ?_
    exact zM [tt,ff,tt,tt,tt,tt,tt,tt,tt,tt,tt,tt,tt,tt,tt,tt,tt,tt,tt,tt,tt,ff,ff,ff,ff,tt,tt,tt,tt,tt] (tJ0_529 Ad W s r187.2 x3 x4 x5 x6 x7 x8 x9 x10 x11 x12 x13 x14 x15 x16 x17 x18 x19 x20 (x21 % (5:Int32)) ((x22 &&& (7:Int32)) - (1:Int32)) (if (x21 % (5:Int32)) = (1:Int32) then (1:Int32) else (if (x21 % (5:Int32)) = (3:Int32) then (1:Int32) else (0:Int32))) (if x20 = (10:Int32) then (if (3:Int32) < (x21 % (5:Int32)) then (0:Int32) else (if (if (x21 % (5:Int32)) = (1:Int32) then (1:Int32) else (if (x21 % (5:Int32)) = (3:Int32) then (1:Int32) else (0:Int32))) = (0:Int32) then (1:Int32) else (if ((x22 &&& (7:Int32)) - (1:Int32)) < (0:Int32) then (0:Int32) else (1:Int32)))) else (if (x21 % (5:Int32)) < (1:Int32) then (0:Int32) else (if (if (x21 % (5:Int32)) = (1:Int32) then (1:Int32) else (if (x21 % (5:Int32)) = (3:Int32) then (1:Int32) else (0:Int32))) = (0:Int32) then (1:Int32) else (if ((x22 &&& (7:Int32)) - (1:Int32)) < (0:Int32) then (0:Int32) else (1:Int32))))) r187.1 h hx0 hc)
   ·refine zT Ad W (t := 519) (f := 506) rfl (XT.ii_ne_t hc174) ?_
    refine zS Ad W 3 (st' := (524, [vR 0, none, vR 1, vI x3, vI x4, vI x5, vI x6, vI x7, vI x8, vI x9, vI x10, vI x11, vI x12, vI x13, vI x14, vI x15, vI x16, vI x17, vI x18, vI x19, vI x20, none, none, none, none, vI (x21 % (5:Int32)), vI ((x22 &&& (7:Int32)) - (1:Int32)), vI (if (x21 % (5:Int32)) = (1:Int32) then (1:Int32) else (if (x21 % (5:Int32)) = (3:Int32) then (1:Int32) else (0:Int32))), vI (if x20 = (10:Int32) then (if (3:Int32) < (x21 % (5:Int32)) then (0:Int32) else (if (if (x21 % (5:Int32)) = (1:Int32) then (1:Int32) else (if (x21 % (5:Int32)) = (3:Int32) then (1:Int32) else (0:Int32))) = (0:Int32) then (1:Int32) else (if ((x22 &&& (7:Int32)) - (1:Int32)) < (0:Int32) then (0:Int32) else (1:Int32)))) else (if (x21 % (5:Int32)) < (1:Int32) then (0:Int32) else (if (if (x21 % (5:Int32)) = (1:Int32) then (1:Int32) else (if (x21 % (5:Int32)) = (3:Int32) then (1:Int32) else (0:Int32))) = (0:Int32) then (1:Int32) else (if ((x22 &&& (7:Int32)) - (1:Int32)) < (0:Int32) then (0:Int32) else (1:Int32))))), none], [.int ((x22 &&& (7:Int32)) - (1:Int32)), .int (x21 % (5:Int32)), .ref 1], (H0 s p0))) rfl ?_
    obtain ⟨r216, hr216, h⟩ := bind_eq_some_iff.mp h
    refine QTri.callV W (a := 1) (as := [.int (x21 % (5:Int32)), .int ((x22 &&& (7:Int32)) - (1:Int32))]) (rest := []) (w := (some (.int r216.1))) (σ₁ := (H0 s r216.2)) rfl rfl rfl rfl rfl rfl rfl rfl (tF29 Ad W s p0 (x21 % (5:Int32)) ((x22 &&& (7:Int32)) - (1:Int32)) hr216) ?_
    refine zS Ad W 1 (st' := (529, [vR 0, none, vR 1, vI x3, vI x4, vI x5, vI x6, vI x7, vI x8, vI x9, vI x10, vI x11, vI x12, vI x13, vI x14, vI x15, vI x16, vI x17, vI x18, vI x19, vI x20, none, none, none, none, vI (x21 % (5:Int32)), vI ((x22 &&& (7:Int32)) - (1:Int32)), vI (if (x21 % (5:Int32)) = (1:Int32) then (1:Int32) else (if (x21 % (5:Int32)) = (3:Int32) then (1:Int32) else (0:Int32))), vI (if x20 = (10:Int32) then (if (3:Int32) < (x21 % (5:Int32)) then (0:Int32) else (if (if (x21 % (5:Int32)) = (1:Int32) then (1:Int32) else (if (x21 % (5:Int32)) = (3:Int32) then (1:Int32) else (0:Int32))) = (0:Int32) then (1:Int32) else (if ((x22 &&& (7:Int32)) - (1:Int32)) < (0:Int32) then (0:Int32) else (1:Int32)))) else (if (x21 % (5:Int32)) < (1:Int32) then (0:Int32) else (if (if (x21 % (5:Int32)) = (1:Int32) then (1:Int32) else (if (x21 % (5:Int32)) = (3:Int32) then (1:Int32) else (0:Int32))) = (0:Int32) then (1:Int32) else (if ((x22 &&& (7:Int32)) - (1:Int32)) < (0:Int32) then (0:Int32) else (1:Int32))))), vI r216.1], [], (H0 s r216.2))) rfl ?_
    exact zM [tt,ff,tt,tt,tt,tt,tt,tt,tt,tt,tt,tt,tt,tt,tt,tt,tt,tt,tt,tt,tt,ff,ff,ff,ff,tt,tt,tt,tt,tt] (tJ0_529 Ad W s r216.2 x3 x4 x5 x6 x7 x8 x9 x10 x11 x12 x13 x14 x15 x16 x17 x18 x19 x20 (x21 % (5:Int32)) ((x22 &&& (7:Int32)) - (1:Int32)) (if (x21 % (5:Int32)) = (1:Int32) then (1:Int32) else (if (x21 % (5:Int32)) = (3:Int32) then (1:Int32) else (0:Int32))) (if x20 = (10:Int32) then (if (3:Int32) < (x21 % (5:Int32)) then (0:Int32) else (if (if (x21 % (5:Int32)) = (1:Int32) then (1:Int32) else (if (x21 % (5:Int32)) = (3:Int32) then (1:Int32) else (0:Int32))) = (0:Int32) then (1:Int32) else (if ((x22 &&& (7:Int32)) - (1:Int32)) < (0:Int32) then (0:Int32) else (1:Int32)))) else (if (x21 % (5:Int32)) < (1:Int32) then (0:Int32) else (if (if (x21 % (5:Int32)) = (1:Int32) then (1:Int32) else (if (x21 % (5:Int32)) = (3:Int32) then (1:Int32) else (0:Int32))) = (0:Int32) then (1:Int32) else (if ((x22 &&& (7:Int32)) - (1:Int32)) < (0:Int32) then (0:Int32) else (1:Int32))))) r216.1 h hx0 hc)
  rcases em (x20 = (10:Int32)) with hc167 | hc167
  ·refine zF Ad W (t := 476) (f := 467) rfl (XT.ii_ne_f hc167) ?_
   refine zS Ad W 2 (st' := (470, [vR 0, none, vR 1, vI x3, vI x4, vI x5, vI x6, vI x7, vI x8, vI x9, vI x10, vI x11, vI x12, vI x13, vI x14, vI x15, vI x16, vI x17, vI x18, vI x19, vI x20, none, none, none, none, vI (x21 % (5:Int32)), vI ((x22 &&& (7:Int32)) - (1:Int32)), vI (if (x21 % (5:Int32)) = (1:Int32) then (1:Int32) else (if (x21 % (5:Int32)) = (3:Int32) then (1:Int32) else (0:Int32))), none, none], [.int (3:Int32), .int (x21 % (5:Int32))], (H0 s p0))) rfl ?_
   rcases em ((3:Int32) < (x21 % (5:Int32))) with hc168 | hc168
   ·refine zT Ad W (t := 496) (f := 473) rfl (XT.ii_gt_t hc168) ?_
    refine zS Ad W 1 (st' := (497, [vR 0, none, vR 1, vI x3, vI x4, vI x5, vI x6, vI x7, vI x8, vI x9, vI x10, vI x11, vI x12, vI x13, vI x14, vI x15, vI x16, vI x17, vI x18, vI x19, vI x20, none, none, none, none, vI (x21 % (5:Int32)), vI ((x22 &&& (7:Int32)) - (1:Int32)), vI (if (x21 % (5:Int32)) = (1:Int32) then (1:Int32) else (if (x21 % (5:Int32)) = (3:Int32) then (1:Int32) else (0:Int32))), none, none], [.int (0:Int32)], (H0 s p0))) rfl ?_
    exact zM [tt,ff,tt,tt,tt,tt,tt,tt,tt,tt,tt,tt,tt,tt,tt,tt,tt,tt,tt,tt,tt,ff,ff,ff,ff,tt,tt,tt,ff,ff] (K166 _ ((if_pos hc167).trans (if_pos hc168)).symm)
   ·refine zF Ad W (t := 496) (f := 473) rfl (XT.ii_gt_f hc168) ?_
    refine zS Ad W 2 (st' := (484, [vR 0, none, vR 1, vI x3, vI x4, vI x5, vI x6, vI x7, vI x8, vI x9, vI x10, vI x11, vI x12, vI x13, vI x14, vI x15, vI x16, vI x17, vI x18, vI x19, vI x20, none, none, none, none, vI (x21 % (5:Int32)), vI ((x22 &&& (7:Int32)) - (1:Int32)), vI (if (x21 % (5:Int32)) = (1:Int32) then (1:Int32) else (if (x21 % (5:Int32)) = (3:Int32) then (1:Int32) else (0:Int32))), none, none], [.int (if (x21 % (5:Int32)) = (1:Int32) then (1:Int32) else (if (x21 % (5:Int32)) = (3:Int32) then (1:Int32) else (0:Int32)))], (H0 s p0))) rfl ?_
    rcases em ((if (x21 % (5:Int32)) = (1:Int32) then (1:Int32) else (if (x21 % (5:Int32)) = (3:Int32) then (1:Int32) else (0:Int32))) = (0:Int32)) with hc169 | hc169
    ·refine zT Ad W (t := 492) (f := 487) rfl (XT.i0_eq_t hc169) ?_
     refine zS Ad W 2 (st' := (497, [vR 0, none, vR 1, vI x3, vI x4, vI x5, vI x6, vI x7, vI x8, vI x9, vI x10, vI x11, vI x12, vI x13, vI x14, vI x15, vI x16, vI x17, vI x18, vI x19, vI x20, none, none, none, none, vI (x21 % (5:Int32)), vI ((x22 &&& (7:Int32)) - (1:Int32)), vI (if (x21 % (5:Int32)) = (1:Int32) then (1:Int32) else (if (x21 % (5:Int32)) = (3:Int32) then (1:Int32) else (0:Int32))), none, none], [.int (1:Int32)], (H0 s p0))) rfl ?_
     exact zM [tt,ff,tt,tt,tt,tt,tt,tt,tt,tt,tt,tt,tt,tt,tt,tt,tt,tt,tt,tt,tt,ff,ff,ff,ff,tt,tt,tt,ff,ff] (K166 _ ((if_pos hc167).trans ((if_neg hc168).trans (if_pos hc169))).symm)
    ·refine zF Ad W (t := 492) (f := 487) rfl (XT.i0_eq_f hc169) ?_
     refine zS Ad W 1 (st' := (489, [vR 0, none, vR 1, vI x3, vI x4, vI x5, vI x6, vI x7, vI x8, vI x9, vI x10, vI x11, vI x12, vI x13, vI x14, vI x15, vI x16, vI x17, vI x18, vI x19, vI x20, none, none, none, none, vI (x21 % (5:Int32)), vI ((x22 &&& (7:Int32)) - (1:Int32)), vI (if (x21 % (5:Int32)) = (1:Int32) then (1:Int32) else (if (x21 % (5:Int32)) = (3:Int32) then (1:Int32) else (0:Int32))), none, none], [.int ((x22 &&& (7:Int32)) - (1:Int32))], (H0 s p0))) rfl ?_
     rcases em (((x22 &&& (7:Int32)) - (1:Int32)) < (0:Int32)) with hc170 | hc170
     ·refine zT Ad W (t := 496) (f := 492) rfl (XT.i0_lt_t hc170) ?_
      refine zS Ad W 1 (st' := (497, [vR 0, none, vR 1, vI x3, vI x4, vI x5, vI x6, vI x7, vI x8, vI x9, vI x10, vI x11, vI x12, vI x13, vI x14, vI x15, vI x16, vI x17, vI x18, vI x19, vI x20, none, none, none, none, vI (x21 % (5:Int32)), vI ((x22 &&& (7:Int32)) - (1:Int32)), vI (if (x21 % (5:Int32)) = (1:Int32) then (1:Int32) else (if (x21 % (5:Int32)) = (3:Int32) then (1:Int32) else (0:Int32))), none, none], [.int (0:Int32)], (H0 s p0))) rfl ?_
      exact zM [tt,ff,tt,tt,tt,tt,tt,tt,tt,tt,tt,tt,tt,tt,tt,tt,tt,tt,tt,tt,tt,ff,ff,ff,ff,tt,tt,tt,ff,ff] (K166 _ ((if_pos hc167).trans ((if_neg hc168).trans ((if_neg hc169).trans (if_pos hc170)))).symm)
     ·refine zF Ad W (t := 496) (f := 492) rfl (XT.i0_lt_f hc170) ?_
      refine zS Ad W 2 (st' := (497, [vR 0, none, vR 1, vI x3, vI x4, vI x5, vI x6, vI x7, vI x8, vI x9, vI x10, vI x11, vI x12, vI x13, vI x14, vI x15, vI x16, vI x17, vI x18, vI x19, vI x20, none, none, none, none, vI (x21 % (5:Int32)), vI ((x22 &&& (7:Int32)) - (1:Int32)), vI (if (x21 % (5:Int32)) = (1:Int32) then (1:Int32) else (if (x21 % (5:Int32)) = (3:Int32) then (1:Int32) else (0:Int32))), none, none], [.int (1:Int32)], (H0 s p0))) rfl ?_
      exact zM [tt,ff,tt,tt,tt,tt,tt,tt,tt,tt,tt,tt,tt,tt,tt,tt,tt,tt,tt,tt,tt,ff,ff,ff,ff,tt,tt,tt,ff,ff] (K166 _ ((if_pos hc167).trans ((if_neg hc168).trans ((if_neg hc169).trans (if_neg hc170)))).symm)
  ·refine zT Ad W (t := 476) (f := 467) rfl (XT.ii_ne_t hc167) ?_
   refine zS Ad W 2 (st' := (479, [vR 0, none, vR 1, vI x3, vI x4, vI x5, vI x6, vI x7, vI x8, vI x9, vI x10, vI x11, vI x12, vI x13, vI x14, vI x15, vI x16, vI x17, vI x18, vI x19, vI x20, none, none, none, none, vI (x21 % (5:Int32)), vI ((x22 &&& (7:Int32)) - (1:Int32)), vI (if (x21 % (5:Int32)) = (1:Int32) then (1:Int32) else (if (x21 % (5:Int32)) = (3:Int32) then (1:Int32) else (0:Int32))), none, none], [.int (1:Int32), .int (x21 % (5:Int32))], (H0 s p0))) rfl ?_
   rcases em ((x21 % (5:Int32)) < (1:Int32)) with hc171 | hc171
   ·refine zT Ad W (t := 496) (f := 482) rfl (XT.ii_lt_t hc171) ?_
    refine zS Ad W 1 (st' := (497, [vR 0, none, vR 1, vI x3, vI x4, vI x5, vI x6, vI x7, vI x8, vI x9, vI x10, vI x11, vI x12, vI x13, vI x14, vI x15, vI x16, vI x17, vI x18, vI x19, vI x20, none, none, none, none, vI (x21 % (5:Int32)), vI ((x22 &&& (7:Int32)) - (1:Int32)), vI (if (x21 % (5:Int32)) = (1:Int32) then (1:Int32) else (if (x21 % (5:Int32)) = (3:Int32) then (1:Int32) else (0:Int32))), none, none], [.int (0:Int32)], (H0 s p0))) rfl ?_
    exact zM [tt,ff,tt,tt,tt,tt,tt,tt,tt,tt,tt,tt,tt,tt,tt,tt,tt,tt,tt,tt,tt,ff,ff,ff,ff,tt,tt,tt,ff,ff] (K166 _ ((if_neg hc167).trans (if_pos hc171)).symm)
   ·refine zF Ad W (t := 496) (f := 482) rfl (XT.ii_lt_f hc171) ?_
    refine zS Ad W 1 (st' := (484, [vR 0, none, vR 1, vI x3, vI x4, vI x5, vI x6, vI x7, vI x8, vI x9, vI x10, vI x11, vI x12, vI x13, vI x14, vI x15, vI x16, vI x17, vI x18, vI x19, vI x20, none, none, none, none, vI (x21 % (5:Int32)), vI ((x22 &&& (7:Int32)) - (1:Int32)), vI (if (x21 % (5:Int32)) = (1:Int32) then (1:Int32) else (if (x21 % (5:Int32)) = (3:Int32) then (1:Int32) else (0:Int32))), none, none], [.int (if (x21 % (5:Int32)) = (1:Int32) then (1:Int32) else (if (x21 % (5:Int32)) = (3:Int32) then (1:Int32) else (0:Int32)))], (H0 s p0))) rfl ?_
    rcases em ((if (x21 % (5:Int32)) = (1:Int32) then (1:Int32) else (if (x21 % (5:Int32)) = (3:Int32) then (1:Int32) else (0:Int32))) = (0:Int32)) with hc172 | hc172
    ·refine zT Ad W (t := 492) (f := 487) rfl (XT.i0_eq_t hc172) ?_
     refine zS Ad W 2 (st' := (497, [vR 0, none, vR 1, vI x3, vI x4, vI x5, vI x6, vI x7, vI x8, vI x9, vI x10, vI x11, vI x12, vI x13, vI x14, vI x15, vI x16, vI x17, vI x18, vI x19, vI x20, none, none, none, none, vI (x21 % (5:Int32)), vI ((x22 &&& (7:Int32)) - (1:Int32)), vI (if (x21 % (5:Int32)) = (1:Int32) then (1:Int32) else (if (x21 % (5:Int32)) = (3:Int32) then (1:Int32) else (0:Int32))), none, none], [.int (1:Int32)], (H0 s p0))) rfl ?_
     exact zM [tt,ff,tt,tt,tt,tt,tt,tt,tt,tt,tt,tt,tt,tt,tt,tt,tt,tt,tt,tt,tt,ff,ff,ff,ff,tt,tt,tt,ff,ff] (K166 _ ((if_neg hc167).trans ((if_neg hc171).trans (if_pos hc172))).symm)
    ·refine zF Ad W (t := 492) (f := 487) rfl (XT.i0_eq_f hc172) ?_
     refine zS Ad W 1 (st' := (489, [vR 0, none, vR 1, vI x3, vI x4, vI x5, vI x6, vI x7, vI x8, vI x9, vI x10, vI x11, vI x12, vI x13, vI x14, vI x15, vI x16, vI x17, vI x18, vI x19, vI x20, none, none, none, none, vI (x21 % (5:Int32)), vI ((x22 &&& (7:Int32)) - (1:Int32)), vI (if (x21 % (5:Int32)) = (1:Int32) then (1:Int32) else (if (x21 % (5:Int32)) = (3:Int32) then (1:Int32) else (0:Int32))), none, none], [.int ((x22 &&& (7:Int32)) - (1:Int32))], (H0 s p0))) rfl ?_
     rcases em (((x22 &&& (7:Int32)) - (1:Int32)) < (0:Int32)) with hc173 | hc173
     ·refine zT Ad W (t := 496) (f := 492) rfl (XT.i0_lt_t hc173) ?_
      refine zS Ad W 1 (st' := (497, [vR 0, none, vR 1, vI x3, vI x4, vI x5, vI x6, vI x7, vI x8, vI x9, vI x10, vI x11, vI x12, vI x13, vI x14, vI x15, vI x16, vI x17, vI x18, vI x19, vI x20, none, none, none, none, vI (x21 % (5:Int32)), vI ((x22 &&& (7:Int32)) - (1:Int32)), vI (if (x21 % (5:Int32)) = (1:Int32) then (1:Int32) else (if (x21 % (5:Int32)) = (3:Int32) then (1:Int32) else (0:Int32))), none, none], [.int (0:Int32)], (H0 s p0))) rfl ?_
      exact zM [tt,ff,tt,tt,tt,tt,tt,tt,tt,tt,tt,tt,tt,tt,tt,tt,tt,tt,tt,tt,tt,ff,ff,ff,ff,tt,tt,tt,ff,ff] (K166 _ ((if_neg hc167).trans ((if_neg hc171).trans ((if_neg hc172).trans (if_pos hc173)))).symm)
     ·refine zF Ad W (t := 496) (f := 492) rfl (XT.i0_lt_f hc173) ?_
      refine zS Ad W 2 (st' := (497, [vR 0, none, vR 1, vI x3, vI x4, vI x5, vI x6, vI x7, vI x8, vI x9, vI x10, vI x11, vI x12, vI x13, vI x14, vI x15, vI x16, vI x17, vI x18, vI x19, vI x20, none, none, none, none, vI (x21 % (5:Int32)), vI ((x22 &&& (7:Int32)) - (1:Int32)), vI (if (x21 % (5:Int32)) = (1:Int32) then (1:Int32) else (if (x21 % (5:Int32)) = (3:Int32) then (1:Int32) else (0:Int32))), none, none], [.int (1:Int32)], (H0 s p0))) rfl ?_
      exact zM [tt,ff,tt,tt,tt,tt,tt,tt,tt,tt,tt,tt,tt,tt,tt,tt,tt,tt,tt,tt,tt,ff,ff,ff,ff,tt,tt,tt,ff,ff] (K166 _ ((if_neg hc167).trans ((if_neg hc171).trans ((if_neg hc172).trans (if_neg hc173)))).symm)
 rcases em ((x21 % (5:Int32)) = (1:Int32)) with hc163 | hc163
 ·refine zT Ad W (t := 453) (f := 447) rfl (XT.ii_eq_t hc163) ?_
  refine zS Ad W 2 (st' := (458, [vR 0, none, vR 1, vI x3, vI x4, vI x5, vI x6, vI x7, vI x8, vI x9, vI x10, vI x11, vI x12, vI x13, vI x14, vI x15, vI x16, vI x17, vI x18, vI x19, vI x20, vI x21, vI x22, none, none, vI (x21 % (5:Int32)), vI ((x22 &&& (7:Int32)) - (1:Int32)), none, none, none], [.int (1:Int32)], (H0 s p0))) rfl ?_
  exact zM [tt,ff,tt,tt,tt,tt,tt,tt,tt,tt,tt,tt,tt,tt,tt,tt,tt,tt,tt,tt,tt,ff,ff,ff,ff,tt,tt,ff,ff,ff] (K162 _ (if_pos hc163).symm)
 ·refine zF Ad W (t := 453) (f := 447) rfl (XT.ii_eq_f hc163) ?_
  refine zS Ad W 2 (st' := (450, [vR 0, none, vR 1, vI x3, vI x4, vI x5, vI x6, vI x7, vI x8, vI x9, vI x10, vI x11, vI x12, vI x13, vI x14, vI x15, vI x16, vI x17, vI x18, vI x19, vI x20, vI x21, vI x22, none, none, vI (x21 % (5:Int32)), vI ((x22 &&& (7:Int32)) - (1:Int32)), none, none, none], [.int (3:Int32), .int (x21 % (5:Int32))], (H0 s p0))) rfl ?_
  rcases em ((x21 % (5:Int32)) = (3:Int32)) with hc164 | hc164
  ·refine zF Ad W (t := 457) (f := 453) rfl (XT.ii_ne_f hc164) ?_
   refine zS Ad W 2 (st' := (458, [vR 0, none, vR 1, vI x3, vI x4, vI x5, vI x6, vI x7, vI x8, vI x9, vI x10, vI x11, vI x12, vI x13, vI x14, vI x15, vI x16, vI x17, vI x18, vI x19, vI x20, vI x21, vI x22, none, none, vI (x21 % (5:Int32)), vI ((x22 &&& (7:Int32)) - (1:Int32)), none, none, none], [.int (1:Int32)], (H0 s p0))) rfl ?_
   exact zM [tt,ff,tt,tt,tt,tt,tt,tt,tt,tt,tt,tt,tt,tt,tt,tt,tt,tt,tt,tt,tt,ff,ff,ff,ff,tt,tt,ff,ff,ff] (K162 _ ((if_neg hc163).trans (if_pos hc164)).symm)
  ·refine zT Ad W (t := 457) (f := 453) rfl (XT.ii_ne_t hc164) ?_
   refine zS Ad W 1 (st' := (458, [vR 0, none, vR 1, vI x3, vI x4, vI x5, vI x6, vI x7, vI x8, vI x9, vI x10, vI x11, vI x12, vI x13, vI x14, vI x15, vI x16, vI x17, vI x18, vI x19, vI x20, vI x21, vI x22, none, none, vI (x21 % (5:Int32)), vI ((x22 &&& (7:Int32)) - (1:Int32)), none, none, none], [.int (0:Int32)], (H0 s p0))) rfl ?_
   exact zM [tt,ff,tt,tt,tt,tt,tt,tt,tt,tt,tt,tt,tt,tt,tt,tt,tt,tt,tt,tt,tt,ff,ff,ff,ff,tt,tt,ff,ff,ff] (K162 _ ((if_neg hc163).trans (if_neg hc164)).symm)
def H0x24 (s : List Int32) (o0 : Ob) (a0_17 : Int32) : QHeap := H0v s (f_part o0) (f_keys o0) (f_vals o0) (f_flg o0) (f_res o0) (f_resNull o0) (f_frameCnt o0) (f_sorted o0) (f_cap o0) (f_rows o0) (f_direction o0) (f_nulls o0) (f_mode o0) (f_startKind o0) (f_startOff o0) (f_endKind o0) (f_endOff o0) a0_17 (f_fnArg o0) (f_computed o0) (f_sortedLen o0) (f_curPos o0) (f_aggSum o0) (f_aggCount o0) (f_aggRows o0) (f_aggMin o0) (f_aggMax o0)
def H0x25 (s : List Int32) (o0 : Ob) (a0_17 : Int32) (a0_18 : Int32) : QHeap := H0v s (f_part o0) (f_keys o0) (f_vals o0) (f_flg o0) (f_res o0) (f_resNull o0) (f_frameCnt o0) (f_sorted o0) (f_cap o0) (f_rows o0) (f_direction o0) (f_nulls o0) (f_mode o0) (f_startKind o0) (f_startOff o0) (f_endKind o0) (f_endOff o0) a0_17 a0_18 (f_computed o0) (f_sortedLen o0) (f_curPos o0) (f_aggSum o0) (f_aggCount o0) (f_aggRows o0) (f_aggMin o0) (f_aggMax o0)
def H0x26 (s : List Int32) (o0 : Ob) (a0_17 : Int32) (a0_18 : Int32) (a0_19 : Int32) : QHeap := H0v s (f_part o0) (f_keys o0) (f_vals o0) (f_flg o0) (f_res o0) (f_resNull o0) (f_frameCnt o0) (f_sorted o0) (f_cap o0) (f_rows o0) (f_direction o0) (f_nulls o0) (f_mode o0) (f_startKind o0) (f_startOff o0) (f_endKind o0) (f_endOff o0) a0_17 a0_18 a0_19 (f_sortedLen o0) (f_curPos o0) (f_aggSum o0) (f_aggCount o0) (f_aggRows o0) (f_aggMin o0) (f_aggMax o0)
def J12_40 (o : Ob) (x1 : Int32) (x2 : Int32) (x3 : Int32) : Option (Int32 × Ob) :=
  some ((1 : Int32), (s_computed (s_fnArg (s_fn o x1) (if x3 = (0 : Int32) then (0 : Int32) else x2)) (0 : Int32)))
theorem tJ12_40 (Ad : QAd n0 ad) (W : QW Z a0) (s : List Int32) (o : Ob) (x1 : Int32) (x2 : Int32) (x3 : Int32) {r : Int32 × Ob} (h : J12_40 o x1 x2 x3 = some r) : QTri l Z n0 ad 12 (40, [vR 1, vI x1, vI x2, vI x3], [], (H0 s o)) (some (Value.int r.1)) (H0 s r.2) := by
 unfold J12_40 at h
 refine zS Ad W 3 (st' := (45, [vR 1, vI x1, vI x2, vI x3], [], (H0x24 s o x1))) rfl ?_
 refine zS Ad W 2 (st' := (47, [vR 1, vI x1, vI x2, vI x3], [.int x3, .ref 1], (H0x24 s o x1))) rfl ?_
 have K232 : ∀ z231 : Int32, z231 = (if x3 = (0:Int32) then (0:Int32) else x2) → QTri l Z n0 ad 12 (55, [vR 1, none, none, none], [.int z231, .ref 1], (H0x24 s o x1)) (some (Value.int r.1)) (H0 s r.2) := by
  intro z231 ez231
  subst ez231
  refine zS Ad W 1 (st' := (58, [vR 1, none, none, none], [], (H0x25 s o x1 (if x3 = (0:Int32) then (0:Int32) else x2)))) rfl ?_
  refine zS Ad W 3 (st' := (63, [vR 1, none, none, none], [], (H0x26 s o x1 (if x3 = (0:Int32) then (0:Int32) else x2) (0:Int32)))) rfl ?_
  refine zS Ad W 1 (st' := (64, [vR 1, none, none, none], [.int (1:Int32)], (H0x26 s o x1 (if x3 = (0:Int32) then (0:Int32) else x2) (0:Int32)))) rfl ?_
  have E234 : ((H0x26 s o x1 (if x3 = (0:Int32) then (0:Int32) else x2) (0:Int32)) : QHeap) = (H0 s (s_computed (s_fnArg (s_fn o x1) (if x3 = (0:Int32) then (0:Int32) else x2)) (0:Int32))) := by simp only [fs, H0, H0v, H0x26, s_fn, s_fnArg, s_computed]
  rw [E234]
  obtain rfl := Option.some.inj h
  exact QTri.retZ rfl rfl
 rcases em (x3 = (0:Int32)) with hc233 | hc233
 ·refine zT Ad W (t := 54) (f := 50) rfl (XT.i0_eq_t hc233) ?_
  refine zS Ad W 1 (st' := (55, [vR 1, vI x1, vI x2, vI x3], [.int (0:Int32), .ref 1], (H0x24 s o x1))) rfl ?_
  exact zM [tt,ff,ff,ff] (K232 _ (if_pos hc233).symm)
 ·refine zF Ad W (t := 54) (f := 50) rfl (XT.i0_eq_f hc233) ?_
  refine zS Ad W 2 (st' := (55, [vR 1, vI x1, vI x2, vI x3], [.int x2, .ref 1], (H0x24 s o x1))) rfl ?_
  exact zM [tt,ff,ff,ff] (K232 _ (if_neg hc233).symm)
/-- setFunction(II)Z -/
def F12 (o : Ob) (x1 : Int32) (x2 : Int32) : Option (Int32 × Ob) :=
 (if x1 < (0:Int32) then some ((0:Int32), o) else (if (9:Int32) < x1 then some ((0:Int32), o) else (if (if x1 = (8:Int32) then (1:Int32) else (if x1 = (9:Int32) then (1:Int32) else (0:Int32))) = (0:Int32) then (J12_40 o x1 x2 (if x1 = (8:Int32) then (1:Int32) else (if x1 = (9:Int32) then (1:Int32) else (0:Int32)))) else (if x2 < (0:Int32) then some ((0:Int32), o) else (J12_40 o x1 x2 (if x1 = (8:Int32) then (1:Int32) else (if x1 = (9:Int32) then (1:Int32) else (0:Int32))))))))
theorem tF12 (Ad : QAd n0 ad) (W : QW Z a0) (s : List Int32) (o : Ob) (x1 : Int32) (x2 : Int32) {r : Int32 × Ob} (h : F12 o x1 x2 = some r) : QTri l Z n0 ad 12 (0, qentry [.ref 1, .int x1, .int x2] (pMaxL 12), [], (H0 s o)) (some (Value.int r.1)) (H0 s r.2) := by
 unfold F12 at h
 refine zS Ad W 1 (st' := (1, [vR 1, vI x1, vI x2, none], [.int x1], (H0 s o))) rfl ?_
 rcases qite h with ⟨hc224, h⟩ | ⟨hc224, h⟩
 ·refine zT Ad W (t := 10) (f := 4) rfl (XT.i0_lt_t hc224) ?_
  refine zS Ad W 1 (st' := (11, [vR 1, vI x1, vI x2, none], [.int (0:Int32)], (H0 s o))) rfl ?_
  obtain rfl := Option.some.inj h
  exact QTri.retZ rfl rfl
 ·refine zF Ad W (t := 10) (f := 4) rfl (XT.i0_lt_f hc224) ?_
  refine zS Ad W 2 (st' := (7, [vR 1, vI x1, vI x2, none], [.int (9:Int32), .int x1], (H0 s o))) rfl ?_
  rcases qite h with ⟨hc225, h⟩ | ⟨hc225, h⟩
  ·refine zF Ad W (t := 12) (f := 10) rfl (XT.ii_le_f hc225) ?_
   refine zS Ad W 1 (st' := (11, [vR 1, vI x1, vI x2, none], [.int (0:Int32)], (H0 s o))) rfl ?_
   obtain rfl := Option.some.inj h
   exact QTri.retZ rfl rfl
  ·refine zT Ad W (t := 12) (f := 10) rfl (XT.ii_le_t hc225) ?_
   refine zS Ad W 2 (st' := (15, [vR 1, vI x1, vI x2, none], [.int (8:Int32), .int x1], (H0 s o))) rfl ?_
   have K227 : ∀ z226 : Int32, z226 = (if x1 = (8:Int32) then (1:Int32) else (if x1 = (9:Int32) then (1:Int32) else (0:Int32))) → QTri l Z n0 ad 12 (29, [vR 1, vI x1, vI x2, none], [.int z226], (H0 s o)) (some (Value.int r.1)) (H0 s r.2) := by
    intro z226 ez226
    subst ez226
    refine zS Ad W 2 (st' := (31, [vR 1, vI x1, vI x2, vI (if x1 = (8:Int32) then (1:Int32) else (if x1 = (9:Int32) then (1:Int32) else (0:Int32)))], [.int (if x1 = (8:Int32) then (1:Int32) else (if x1 = (9:Int32) then (1:Int32) else (0:Int32)))], (H0 s o))) rfl ?_
    rcases qite h with ⟨hc230, h⟩ | ⟨hc230, h⟩
    ·refine zT Ad W (t := 40) (f := 34) rfl (XT.i0_eq_t hc230) ?_
     exact zM [tt,tt,tt,tt] (tJ12_40 Ad W s o x1 x2 (if x1 = (8:Int32) then (1:Int32) else (if x1 = (9:Int32) then (1:Int32) else (0:Int32))) h)
    ·refine zF Ad W (t := 40) (f := 34) rfl (XT.i0_eq_f hc230) ?_
     refine zS Ad W 1 (st' := (35, [vR 1, vI x1, vI x2, vI (if x1 = (8:Int32) then (1:Int32) else (if x1 = (9:Int32) then (1:Int32) else (0:Int32)))], [.int x2], (H0 s o))) rfl ?_
     rcases qite h with ⟨hc235, h⟩ | ⟨hc235, h⟩
     ·refine zF Ad W (t := 40) (f := 38) rfl (XT.i0_ge_f hc235) ?_
      refine zS Ad W 1 (st' := (39, [vR 1, vI x1, vI x2, vI (if x1 = (8:Int32) then (1:Int32) else (if x1 = (9:Int32) then (1:Int32) else (0:Int32)))], [.int (0:Int32)], (H0 s o))) rfl ?_
      obtain rfl := Option.some.inj h
      exact QTri.retZ rfl rfl
     ·refine zT Ad W (t := 40) (f := 38) rfl (XT.i0_ge_t hc235) ?_
      exact zM [tt,tt,tt,tt] (tJ12_40 Ad W s o x1 x2 (if x1 = (8:Int32) then (1:Int32) else (if x1 = (9:Int32) then (1:Int32) else (0:Int32))) h)
   rcases em (x1 = (8:Int32)) with hc228 | hc228
   ·refine zT Ad W (t := 24) (f := 18) rfl (XT.ii_eq_t hc228) ?_
    refine zS Ad W 2 (st' := (29, [vR 1, vI x1, vI x2, none], [.int (1:Int32)], (H0 s o))) rfl ?_
    exact zM [tt,tt,tt,ff] (K227 _ (if_pos hc228).symm)
   ·refine zF Ad W (t := 24) (f := 18) rfl (XT.ii_eq_f hc228) ?_
    refine zS Ad W 2 (st' := (21, [vR 1, vI x1, vI x2, none], [.int (9:Int32), .int x1], (H0 s o))) rfl ?_
    rcases em (x1 = (9:Int32)) with hc229 | hc229
    ·refine zF Ad W (t := 28) (f := 24) rfl (XT.ii_ne_f hc229) ?_
     refine zS Ad W 2 (st' := (29, [vR 1, vI x1, vI x2, none], [.int (1:Int32)], (H0 s o))) rfl ?_
     exact zM [tt,tt,tt,ff] (K227 _ ((if_neg hc228).trans (if_pos hc229)).symm)
    ·refine zT Ad W (t := 28) (f := 24) rfl (XT.ii_ne_t hc229) ?_
     refine zS Ad W 1 (st' := (29, [vR 1, vI x1, vI x2, none], [.int (0:Int32)], (H0 s o))) rfl ?_
     exact zM [tt,tt,tt,ff] (K227 _ ((if_neg hc228).trans (if_neg hc229)).symm)
/-- needsOrder()Z -/
def F14 (o : Ob) : Option (Int32) :=
 (if (f_mode o) = (1:Int32) then (if (f_direction o) = (0:Int32) then (if (if (f_startKind o) = (1:Int32) then (1:Int32) else (if (f_startKind o) = (3:Int32) then (1:Int32) else (0:Int32))) = (0:Int32) then (if (if (f_endKind o) = (1:Int32) then (1:Int32) else (if (f_endKind o) = (3:Int32) then (1:Int32) else (0:Int32))) = (0:Int32) then some (0:Int32) else some (1:Int32)) else some (1:Int32)) else some (0:Int32)) else some (0:Int32))
theorem tF14 (Ad : QAd n0 ad) (W : QW Z a0) (s : List Int32) (o : Ob) {r : Int32} (h : F14 o = some r) : QTri l Z n0 ad 14 (0, qentry [.ref 1] (pMaxL 14), [], (H0 s o)) (some (Value.int r)) (H0 s o) := by
 unfold F14 at h
 refine zS Ad W 3 (st' := (5, [vR 1, none, none], [.int (1:Int32), .int (f_mode o)], (H0 s o))) rfl ?_
 rcases qite h with ⟨hc257, h⟩ | ⟨hc257, h⟩
 ·refine zF Ad W (t := 15) (f := 8) rfl (XT.ii_ne_f hc257) ?_
  refine zS Ad W 2 (st' := (12, [vR 1, none, none], [.int (f_direction o)], (H0 s o))) rfl ?_
  rcases qite h with ⟨hc258, h⟩ | ⟨hc258, h⟩
  ·refine zT Ad W (t := 17) (f := 15) rfl (XT.i0_eq_t hc258) ?_
   refine zS Ad W 3 (st' := (22, [vR 1, none, none], [.int (1:Int32), .int (f_startKind o)], (H0 s o))) rfl ?_
   have K260 : ∀ z259 : Int32, z259 = (if (f_startKind o) = (1:Int32) then (1:Int32) else (if (f_startKind o) = (3:Int32) then (1:Int32) else (0:Int32))) → QTri l Z n0 ad 14 (38, [vR 1, none, none], [.int z259], (H0 s o)) (some (Value.int r)) (H0 s o) := by
    intro z259 ez259
    subst ez259
    refine zS Ad W 4 (st' := (44, [vR 1, vI (if (f_startKind o) = (1:Int32) then (1:Int32) else (if (f_startKind o) = (3:Int32) then (1:Int32) else (0:Int32))), none], [.int (1:Int32), .int (f_endKind o)], (H0 s o))) rfl ?_
    have K264 : ∀ z263 : Int32, z263 = (if (f_endKind o) = (1:Int32) then (1:Int32) else (if (f_endKind o) = (3:Int32) then (1:Int32) else (0:Int32))) → QTri l Z n0 ad 14 (60, [none, vI (if (f_startKind o) = (1:Int32) then (1:Int32) else (if (f_startKind o) = (3:Int32) then (1:Int32) else (0:Int32))), none], [.int z263], (H0 s o)) (some (Value.int r)) (H0 s o) := by
     intro z263 ez263
     subst ez263
     refine zS Ad W 2 (st' := (62, [none, vI (if (f_startKind o) = (1:Int32) then (1:Int32) else (if (f_startKind o) = (3:Int32) then (1:Int32) else (0:Int32))), vI (if (f_endKind o) = (1:Int32) then (1:Int32) else (if (f_endKind o) = (3:Int32) then (1:Int32) else (0:Int32)))], [.int (if (f_startKind o) = (1:Int32) then (1:Int32) else (if (f_startKind o) = (3:Int32) then (1:Int32) else (0:Int32)))], (H0 s o))) rfl ?_
     rcases qite h with ⟨hc267, h⟩ | ⟨hc267, h⟩
     ·refine zF Ad W (t := 69) (f := 65) rfl (XT.i0_ne_f hc267) ?_
      refine zS Ad W 1 (st' := (66, [none, vI (if (f_startKind o) = (1:Int32) then (1:Int32) else (if (f_startKind o) = (3:Int32) then (1:Int32) else (0:Int32))), vI (if (f_endKind o) = (1:Int32) then (1:Int32) else (if (f_endKind o) = (3:Int32) then (1:Int32) else (0:Int32)))], [.int (if (f_endKind o) = (1:Int32) then (1:Int32) else (if (f_endKind o) = (3:Int32) then (1:Int32) else (0:Int32)))], (H0 s o))) rfl ?_
      rcases qite h with ⟨hc268, h⟩ | ⟨hc268, h⟩
      ·refine zT Ad W (t := 73) (f := 69) rfl (XT.i0_eq_t hc268) ?_
       refine zS Ad W 1 (st' := (74, [none, vI (if (f_startKind o) = (1:Int32) then (1:Int32) else (if (f_startKind o) = (3:Int32) then (1:Int32) else (0:Int32))), vI (if (f_endKind o) = (1:Int32) then (1:Int32) else (if (f_endKind o) = (3:Int32) then (1:Int32) else (0:Int32)))], [.int (0:Int32)], (H0 s o))) rfl ?_
       obtain rfl := Option.some.inj h
       exact QTri.retZ rfl rfl
      ·refine zF Ad W (t := 73) (f := 69) rfl (XT.i0_eq_f hc268) ?_
       refine zS Ad W 2 (st' := (74, [none, vI (if (f_startKind o) = (1:Int32) then (1:Int32) else (if (f_startKind o) = (3:Int32) then (1:Int32) else (0:Int32))), vI (if (f_endKind o) = (1:Int32) then (1:Int32) else (if (f_endKind o) = (3:Int32) then (1:Int32) else (0:Int32)))], [.int (1:Int32)], (H0 s o))) rfl ?_
       obtain rfl := Option.some.inj h
       exact QTri.retZ rfl rfl
     ·refine zT Ad W (t := 69) (f := 65) rfl (XT.i0_ne_t hc267) ?_
      refine zS Ad W 2 (st' := (74, [none, vI (if (f_startKind o) = (1:Int32) then (1:Int32) else (if (f_startKind o) = (3:Int32) then (1:Int32) else (0:Int32))), vI (if (f_endKind o) = (1:Int32) then (1:Int32) else (if (f_endKind o) = (3:Int32) then (1:Int32) else (0:Int32)))], [.int (1:Int32)], (H0 s o))) rfl ?_
      obtain rfl := Option.some.inj h
      exact QTri.retZ rfl rfl
    rcases em ((f_endKind o) = (1:Int32)) with hc265 | hc265
    ·refine zT Ad W (t := 55) (f := 47) rfl (XT.ii_eq_t hc265) ?_
     refine zS Ad W 2 (st' := (60, [vR 1, vI (if (f_startKind o) = (1:Int32) then (1:Int32) else (if (f_startKind o) = (3:Int32) then (1:Int32) else (0:Int32))), none], [.int (1:Int32)], (H0 s o))) rfl ?_
     exact zM [ff,tt,ff] (K264 _ (if_pos hc265).symm)
    ·refine zF Ad W (t := 55) (f := 47) rfl (XT.ii_eq_f hc265) ?_
     refine zS Ad W 3 (st' := (52, [vR 1, vI (if (f_startKind o) = (1:Int32) then (1:Int32) else (if (f_startKind o) = (3:Int32) then (1:Int32) else (0:Int32))), none], [.int (3:Int32), .int (f_endKind o)], (H0 s o))) rfl ?_
     rcases em ((f_endKind o) = (3:Int32)) with hc266 | hc266
     ·refine zF Ad W (t := 59) (f := 55) rfl (XT.ii_ne_f hc266) ?_
      refine zS Ad W 2 (st' := (60, [vR 1, vI (if (f_startKind o) = (1:Int32) then (1:Int32) else (if (f_startKind o) = (3:Int32) then (1:Int32) else (0:Int32))), none], [.int (1:Int32)], (H0 s o))) rfl ?_
      exact zM [ff,tt,ff] (K264 _ ((if_neg hc265).trans (if_pos hc266)).symm)
     ·refine zT Ad W (t := 59) (f := 55) rfl (XT.ii_ne_t hc266) ?_
      refine zS Ad W 1 (st' := (60, [vR 1, vI (if (f_startKind o) = (1:Int32) then (1:Int32) else (if (f_startKind o) = (3:Int32) then (1:Int32) else (0:Int32))), none], [.int (0:Int32)], (H0 s o))) rfl ?_
      exact zM [ff,tt,ff] (K264 _ ((if_neg hc265).trans (if_neg hc266)).symm)
   rcases em ((f_startKind o) = (1:Int32)) with hc261 | hc261
   ·refine zT Ad W (t := 33) (f := 25) rfl (XT.ii_eq_t hc261) ?_
    refine zS Ad W 2 (st' := (38, [vR 1, none, none], [.int (1:Int32)], (H0 s o))) rfl ?_
    exact zM [tt,ff,ff] (K260 _ (if_pos hc261).symm)
   ·refine zF Ad W (t := 33) (f := 25) rfl (XT.ii_eq_f hc261) ?_
    refine zS Ad W 3 (st' := (30, [vR 1, none, none], [.int (3:Int32), .int (f_startKind o)], (H0 s o))) rfl ?_
    rcases em ((f_startKind o) = (3:Int32)) with hc262 | hc262
    ·refine zF Ad W (t := 37) (f := 33) rfl (XT.ii_ne_f hc262) ?_
     refine zS Ad W 2 (st' := (38, [vR 1, none, none], [.int (1:Int32)], (H0 s o))) rfl ?_
     exact zM [tt,ff,ff] (K260 _ ((if_neg hc261).trans (if_pos hc262)).symm)
    ·refine zT Ad W (t := 37) (f := 33) rfl (XT.ii_ne_t hc262) ?_
     refine zS Ad W 1 (st' := (38, [vR 1, none, none], [.int (0:Int32)], (H0 s o))) rfl ?_
     exact zM [tt,ff,ff] (K260 _ ((if_neg hc261).trans (if_neg hc262)).symm)
  ·refine zF Ad W (t := 17) (f := 15) rfl (XT.i0_eq_f hc258) ?_
   refine zS Ad W 1 (st' := (16, [vR 1, none, none], [.int (0:Int32)], (H0 s o))) rfl ?_
   obtain rfl := Option.some.inj h
   exact QTri.retZ rfl rfl
 ·refine zT Ad W (t := 15) (f := 8) rfl (XT.ii_ne_t hc257) ?_
  refine zS Ad W 1 (st' := (16, [vR 1, none, none], [.int (0:Int32)], (H0 s o))) rfl ?_
  obtain rfl := Option.some.inj h
  exact QTri.retZ rfl rfl
/-- keyNull(I)Z -/
def F20 (o : Ob) (x1 : Int32) : Option (Int32) :=
 (aget (f_flg o) x1).bind fun y280 => (if (y280 &&& (1:Int32)) = (0:Int32) then some (0:Int32) else some (1:Int32))
theorem tF20 (Ad : QAd n0 ad) (W : QW Z a0) (s : List Int32) (o : Ob) (x1 : Int32) {r : Int32} (h : F20 o x1 = some r) : QTri l Z n0 ad 20 (0, qentry [.ref 1, .int x1] (pMaxL 20), [], (H0 s o)) (some (Value.int r)) (H0 s o) := by
 unfold F20 at h
 refine zS Ad W 3 (st' := (5, [vR 1, vI x1], [.int x1, .ref 5], (H0 s o))) rfl ?_
 obtain ⟨y280, hy280, h⟩ := bind_eq_some_iff.mp h
 refine zB Ad W (f := fun y280 => (6, [vR 1, vI x1], [.int y280], (H0 s o))) rfl hy280 ?_
 refine zS Ad W 2 (st' := (8, [vR 1, vI x1], [.int (y280 &&& (1:Int32))], (H0 s o))) rfl ?_
 rcases qite h with ⟨hc281, h⟩ | ⟨hc281, h⟩
 ·refine zT Ad W (t := 15) (f := 11) rfl (XT.i0_eq_t hc281) ?_
  refine zS Ad W 1 (st' := (16, [vR 1, vI x1], [.int (0:Int32)], (H0 s o))) rfl ?_
  obtain rfl := Option.some.inj h
  exact QTri.retZ rfl rfl
 ·refine zF Ad W (t := 15) (f := 11) rfl (XT.i0_eq_f hc281) ?_
  refine zS Ad W 2 (st' := (16, [vR 1, vI x1], [.int (1:Int32)], (H0 s o))) rfl ?_
  obtain rfl := Option.some.inj h
  exact QTri.retZ rfl rfl
def J19_51 (o : Ob) (x1 : Int32) (x2 : Int32) (x3 : Int32) (x4 : Int32) : Option (Int32) :=
  (if x3 = (0 : Int32) then (if x4 = (0 : Int32) then (aget (f_keys o) x1).bind fun y287 => (aget (f_keys o) x2).bind fun y288 => (if y287 = y288 then (if x1 < x2 then some (1 : Int32) else some (0 : Int32)) else (if (f_direction o) = (1 : Int32) then (aget (f_keys o) x1).bind fun y292 => (aget (f_keys o) x2).bind fun y293 => (if y292 < y293 then some (1 : Int32) else some (0 : Int32)) else (aget (f_keys o) x1).bind fun y295 => (aget (f_keys o) x2).bind fun y296 => (if y296 < y295 then some (1 : Int32) else some (0 : Int32)))) else (if (f_nulls o) = (1 : Int32) then some (1 : Int32) else some (0 : Int32))) else (if (f_nulls o) = (0 : Int32) then some (1 : Int32) else some (0 : Int32)))
theorem tJ19_51 (Ad : QAd n0 ad) (W : QW Z a0) (s : List Int32) (o : Ob) (x1 : Int32) (x2 : Int32) (x3 : Int32) (x4 : Int32) {r : Int32} (h : J19_51 o x1 x2 x3 x4 = some r) : QTri l Z n0 ad 19 (51, [vR 1, vI x1, vI x2, vI x3, vI x4], [], (H0 s o)) (some (Value.int r)) (H0 s o) := by
 unfold J19_51 at h
 refine zS Ad W 1 (st' := (52, [vR 1, vI x1, vI x2, vI x3, vI x4], [.int x3], (H0 s o))) rfl ?_
 rcases qite h with ⟨hc285, h⟩ | ⟨hc285, h⟩
 ·refine zT Ad W (t := 68) (f := 55) rfl (XT.i0_eq_t hc285) ?_
  refine zS Ad W 1 (st' := (70, [vR 1, vI x1, vI x2, vI x3, vI x4], [.int x4], (H0 s o))) rfl ?_
  rcases qite h with ⟨hc286, h⟩ | ⟨hc286, h⟩
  ·refine zT Ad W (t := 87) (f := 73) rfl (XT.i0_eq_t hc286) ?_
   refine zS Ad W 3 (st' := (92, [vR 1, vI x1, vI x2, vI x3, vI x4], [.int x1, .ref 3], (H0 s o))) rfl ?_
   obtain ⟨y287, hy287, h⟩ := bind_eq_some_iff.mp h
   refine zB Ad W (f := fun y287 => (93, [vR 1, vI x1, vI x2, vI x3, vI x4], [.int y287], (H0 s o))) rfl hy287 ?_
   refine zS Ad W 3 (st' := (98, [vR 1, vI x1, vI x2, vI x3, vI x4], [.int x2, .ref 3, .int y287], (H0 s o))) rfl ?_
   obtain ⟨y288, hy288, h⟩ := bind_eq_some_iff.mp h
   refine zB Ad W (f := fun y288 => (99, [vR 1, vI x1, vI x2, vI x3, vI x4], [.int y288, .int y287], (H0 s o))) rfl hy288 ?_
   rcases qite h with ⟨hc289, h⟩ | ⟨hc289, h⟩
   ·refine zF Ad W (t := 113) (f := 102) rfl (XT.ii_ne_f hc289) ?_
    refine zS Ad W 2 (st' := (104, [vR 1, vI x1, vI x2, vI x3, vI x4], [.int x2, .int x1], (H0 s o))) rfl ?_
    rcases qite h with ⟨hc290, h⟩ | ⟨hc290, h⟩
    ·refine zF Ad W (t := 111) (f := 107) rfl (XT.ii_ge_f hc290) ?_
     refine zS Ad W 2 (st' := (112, [vR 1, vI x1, vI x2, vI x3, vI x4], [.int (1:Int32)], (H0 s o))) rfl ?_
     obtain rfl := Option.some.inj h
     exact QTri.retZ rfl rfl
    ·refine zT Ad W (t := 111) (f := 107) rfl (XT.ii_ge_t hc290) ?_
     refine zS Ad W 1 (st' := (112, [vR 1, vI x1, vI x2, vI x3, vI x4], [.int (0:Int32)], (H0 s o))) rfl ?_
     obtain rfl := Option.some.inj h
     exact QTri.retZ rfl rfl
   ·refine zT Ad W (t := 113) (f := 102) rfl (XT.ii_ne_t hc289) ?_
    refine zS Ad W 3 (st' := (118, [vR 1, vI x1, vI x2, vI x3, vI x4], [.int (1:Int32), .int (f_direction o)], (H0 s o))) rfl ?_
    rcases qite h with ⟨hc291, h⟩ | ⟨hc291, h⟩
    ·refine zF Ad W (t := 142) (f := 121) rfl (XT.ii_ne_f hc291) ?_
     refine zS Ad W 3 (st' := (126, [vR 1, vI x1, vI x2, vI x3, vI x4], [.int x1, .ref 3], (H0 s o))) rfl ?_
     obtain ⟨y292, hy292, h⟩ := bind_eq_some_iff.mp h
     refine zB Ad W (f := fun y292 => (127, [vR 1, vI x1, vI x2, vI x3, vI x4], [.int y292], (H0 s o))) rfl hy292 ?_
     refine zS Ad W 3 (st' := (132, [vR 1, vI x1, vI x2, vI x3, vI x4], [.int x2, .ref 3, .int y292], (H0 s o))) rfl ?_
     obtain ⟨y293, hy293, h⟩ := bind_eq_some_iff.mp h
     refine zB Ad W (f := fun y293 => (133, [vR 1, vI x1, vI x2, vI x3, vI x4], [.int y293, .int y292], (H0 s o))) rfl hy293 ?_
     rcases qite h with ⟨hc294, h⟩ | ⟨hc294, h⟩
     ·refine zF Ad W (t := 140) (f := 136) rfl (XT.ii_ge_f hc294) ?_
      refine zS Ad W 2 (st' := (141, [vR 1, vI x1, vI x2, vI x3, vI x4], [.int (1:Int32)], (H0 s o))) rfl ?_
      obtain rfl := Option.some.inj h
      exact QTri.retZ rfl rfl
     ·refine zT Ad W (t := 140) (f := 136) rfl (XT.ii_ge_t hc294) ?_
      refine zS Ad W 1 (st' := (141, [vR 1, vI x1, vI x2, vI x3, vI x4], [.int (0:Int32)], (H0 s o))) rfl ?_
      obtain rfl := Option.some.inj h
      exact QTri.retZ rfl rfl
    ·refine zT Ad W (t := 142) (f := 121) rfl (XT.ii_ne_t hc291) ?_
     refine zS Ad W 3 (st' := (147, [vR 1, vI x1, vI x2, vI x3, vI x4], [.int x1, .ref 3], (H0 s o))) rfl ?_
     obtain ⟨y295, hy295, h⟩ := bind_eq_some_iff.mp h
     refine zB Ad W (f := fun y295 => (148, [vR 1, vI x1, vI x2, vI x3, vI x4], [.int y295], (H0 s o))) rfl hy295 ?_
     refine zS Ad W 3 (st' := (153, [vR 1, vI x1, vI x2, vI x3, vI x4], [.int x2, .ref 3, .int y295], (H0 s o))) rfl ?_
     obtain ⟨y296, hy296, h⟩ := bind_eq_some_iff.mp h
     refine zB Ad W (f := fun y296 => (154, [vR 1, vI x1, vI x2, vI x3, vI x4], [.int y296, .int y295], (H0 s o))) rfl hy296 ?_
     rcases qite h with ⟨hc297, h⟩ | ⟨hc297, h⟩
     ·refine zF Ad W (t := 161) (f := 157) rfl (XT.ii_le_f hc297) ?_
      refine zS Ad W 2 (st' := (162, [vR 1, vI x1, vI x2, vI x3, vI x4], [.int (1:Int32)], (H0 s o))) rfl ?_
      obtain rfl := Option.some.inj h
      exact QTri.retZ rfl rfl
     ·refine zT Ad W (t := 161) (f := 157) rfl (XT.ii_le_t hc297) ?_
      refine zS Ad W 1 (st' := (162, [vR 1, vI x1, vI x2, vI x3, vI x4], [.int (0:Int32)], (H0 s o))) rfl ?_
      obtain rfl := Option.some.inj h
      exact QTri.retZ rfl rfl
  ·refine zF Ad W (t := 87) (f := 73) rfl (XT.i0_eq_f hc286) ?_
   refine zS Ad W 3 (st' := (78, [vR 1, vI x1, vI x2, vI x3, vI x4], [.int (1:Int32), .int (f_nulls o)], (H0 s o))) rfl ?_
   rcases qite h with ⟨hc298, h⟩ | ⟨hc298, h⟩
   ·refine zF Ad W (t := 85) (f := 81) rfl (XT.ii_ne_f hc298) ?_
    refine zS Ad W 2 (st' := (86, [vR 1, vI x1, vI x2, vI x3, vI x4], [.int (1:Int32)], (H0 s o))) rfl ?_
    obtain rfl := Option.some.inj h
    exact QTri.retZ rfl rfl
   ·refine zT Ad W (t := 85) (f := 81) rfl (XT.ii_ne_t hc298) ?_
    refine zS Ad W 1 (st' := (86, [vR 1, vI x1, vI x2, vI x3, vI x4], [.int (0:Int32)], (H0 s o))) rfl ?_
    obtain rfl := Option.some.inj h
    exact QTri.retZ rfl rfl
 ·refine zF Ad W (t := 68) (f := 55) rfl (XT.i0_eq_f hc285) ?_
  refine zS Ad W 2 (st' := (59, [vR 1, vI x1, vI x2, vI x3, vI x4], [.int (f_nulls o)], (H0 s o))) rfl ?_
  rcases qite h with ⟨hc299, h⟩ | ⟨hc299, h⟩
  ·refine zF Ad W (t := 66) (f := 62) rfl (XT.i0_ne_f hc299) ?_
   refine zS Ad W 2 (st' := (67, [vR 1, vI x1, vI x2, vI x3, vI x4], [.int (1:Int32)], (H0 s o))) rfl ?_
   obtain rfl := Option.some.inj h
   exact QTri.retZ rfl rfl
  ·refine zT Ad W (t := 66) (f := 62) rfl (XT.i0_ne_t hc299) ?_
   refine zS Ad W 1 (st' := (67, [vR 1, vI x1, vI x2, vI x3, vI x4], [.int (0:Int32)], (H0 s o))) rfl ?_
   obtain rfl := Option.some.inj h
   exact QTri.retZ rfl rfl
/-- before(II)Z -/
def F19 (o : Ob) (x1 : Int32) (x2 : Int32) : Option (Int32) :=
 (if (f_direction o) = (0:Int32) then (if x1 < x2 then some (1:Int32) else some (0:Int32)) else (F20 o x1).bind fun r282 => (F20 o x2).bind fun r283 => (if r282 = (0:Int32) then (J19_51 o x1 x2 r282 r283) else (if r283 = (0:Int32) then (J19_51 o x1 x2 r282 r283) else (if x1 < x2 then some (1:Int32) else some (0:Int32)))))
theorem tF19 (Ad : QAd n0 ad) (W : QW Z a0) (s : List Int32) (o : Ob) (x1 : Int32) (x2 : Int32) {r : Int32} (h : F19 o x1 x2 = some r) : QTri l Z n0 ad 19 (0, qentry [.ref 1, .int x1, .int x2] (pMaxL 19), [], (H0 s o)) (some (Value.int r)) (H0 s o) := by
 unfold F19 at h
 refine zS Ad W 2 (st' := (4, [vR 1, vI x1, vI x2, none, none], [.int (f_direction o)], (H0 s o))) rfl ?_
 rcases qite h with ⟨hc278, h⟩ | ⟨hc278, h⟩
 ·refine zF Ad W (t := 18) (f := 7) rfl (XT.i0_ne_f hc278) ?_
  refine zS Ad W 2 (st' := (9, [vR 1, vI x1, vI x2, none, none], [.int x2, .int x1], (H0 s o))) rfl ?_
  rcases qite h with ⟨hc279, h⟩ | ⟨hc279, h⟩
  ·refine zF Ad W (t := 16) (f := 12) rfl (XT.ii_ge_f hc279) ?_
   refine zS Ad W 2 (st' := (17, [vR 1, vI x1, vI x2, none, none], [.int (1:Int32)], (H0 s o))) rfl ?_
   obtain rfl := Option.some.inj h
   exact QTri.retZ rfl rfl
  ·refine zT Ad W (t := 16) (f := 12) rfl (XT.ii_ge_t hc279) ?_
   refine zS Ad W 1 (st' := (17, [vR 1, vI x1, vI x2, none, none], [.int (0:Int32)], (H0 s o))) rfl ?_
   obtain rfl := Option.some.inj h
   exact QTri.retZ rfl rfl
 ·refine zT Ad W (t := 18) (f := 7) rfl (XT.i0_ne_t hc278) ?_
  refine zS Ad W 2 (st' := (20, [vR 1, vI x1, vI x2, none, none], [.int x1, .ref 1], (H0 s o))) rfl ?_
  obtain ⟨r282, hr282, h⟩ := bind_eq_some_iff.mp h
  refine QTri.callP W (a := 1) (as := [.int x1]) (rest := []) (w := (some (.int r282))) (σ₁ := (H0 s o)) rfl rfl rfl rfl rfl rfl rfl rfl (tF20 Ad W s o x1 hr282) ?_
  refine zS Ad W 3 (st' := (26, [vR 1, vI x1, vI x2, vI r282, none], [.int x2, .ref 1], (H0 s o))) rfl ?_
  obtain ⟨r283, hr283, h⟩ := bind_eq_some_iff.mp h
  refine QTri.callP W (a := 1) (as := [.int x2]) (rest := []) (w := (some (.int r283))) (σ₁ := (H0 s o)) rfl rfl rfl rfl rfl rfl rfl rfl (tF20 Ad W s o x2 hr283) ?_
  refine zS Ad W 2 (st' := (32, [vR 1, vI x1, vI x2, vI r282, vI r283], [.int r282], (H0 s o))) rfl ?_
  rcases qite h with ⟨hc284, h⟩ | ⟨hc284, h⟩
  ·refine zT Ad W (t := 51) (f := 35) rfl (XT.i0_eq_t hc284) ?_
   exact zM [tt,tt,tt,tt,tt] (tJ19_51 Ad W s o x1 x2 r282 r283 h)
  ·refine zF Ad W (t := 51) (f := 35) rfl (XT.i0_eq_f hc284) ?_
   refine zS Ad W 1 (st' := (37, [vR 1, vI x1, vI x2, vI r282, vI r283], [.int r283], (H0 s o))) rfl ?_
   rcases qite h with ⟨hc300, h⟩ | ⟨hc300, h⟩
   ·refine zT Ad W (t := 51) (f := 40) rfl (XT.i0_eq_t hc300) ?_
    exact zM [tt,tt,tt,tt,tt] (tJ19_51 Ad W s o x1 x2 r282 r283 h)
   ·refine zF Ad W (t := 51) (f := 40) rfl (XT.i0_eq_f hc300) ?_
    refine zS Ad W 2 (st' := (42, [vR 1, vI x1, vI x2, vI r282, vI r283], [.int x2, .int x1], (H0 s o))) rfl ?_
    rcases qite h with ⟨hc301, h⟩ | ⟨hc301, h⟩
    ·refine zF Ad W (t := 49) (f := 45) rfl (XT.ii_ge_f hc301) ?_
     refine zS Ad W 2 (st' := (50, [vR 1, vI x1, vI x2, vI r282, vI r283], [.int (1:Int32)], (H0 s o))) rfl ?_
     obtain rfl := Option.some.inj h
     exact QTri.retZ rfl rfl
    ·refine zT Ad W (t := 49) (f := 45) rfl (XT.ii_ge_t hc301) ?_
     refine zS Ad W 1 (st' := (50, [vR 1, vI x1, vI x2, vI r282, vI r283], [.int (0:Int32)], (H0 s o))) rfl ?_
     obtain rfl := Option.some.inj h
     exact QTri.retZ rfl rfl
def H0x27 (s : List Int32) (o0 : Ob) (a0_7 : List Int32) : QHeap := H0v s (f_part o0) (f_keys o0) (f_vals o0) (f_flg o0) (f_res o0) (f_resNull o0) (f_frameCnt o0) a0_7 (f_cap o0) (f_rows o0) (f_direction o0) (f_nulls o0) (f_mode o0) (f_startKind o0) (f_startOff o0) (f_endKind o0) (f_endOff o0) (f_fn o0) (f_fnArg o0) (f_computed o0) (f_sortedLen o0) (f_curPos o0) (f_aggSum o0) (f_aggCount o0) (f_aggRows o0) (f_aggMin o0) (f_aggMax o0)
def B18_38 (x1 : Int32) (x2 : Int32) (x3 : Int32) (x4 : Int32) (v : Int32 × Ob) : Option (((Int32 × Ob)) ⊕ (Int32 × Ob)) :=
  (if (0 : Int32) < v.1 then (aget (f_sorted v.2) (v.1 - (1 : Int32))).bind fun y277 => (F19 v.2 x4 y277).bind fun r302 => (if r302 = (0 : Int32) then some (.inl (v.1, v.2)) else (aget (f_sorted v.2) (v.1 - (1 : Int32))).bind fun y304 => (aset (f_sorted v.2) v.1 y304).bind fun y305 => some (.inr ((v.1 + (-1 : Int32)), (s_sorted v.2 y305)))) else some (.inl (v.1, v.2)))
theorem tB18_38 (Ad : QAd n0 ad) (W : QW Z a0) (s : List Int32) (x1 : Int32) (x2 : Int32) (x3 : Int32) (x4 : Int32) (v : Int32 × Ob) {r : ((Int32 × Ob)) ⊕ (Int32 × Ob)} {u : Option Value} {τ : QHeap} (h : B18_38 x1 x2 x3 x4 v = some r) (hx0 : ∀ x : Int32 × Ob, r = .inl x → QTri l Z n0 ad 18 (83, [vR 1, vI x1, vI x2, vI x3, vI x4, vI x.1], [], (H0 s x.2)) u τ) (hc : ∀ x : Int32 × Ob, r = .inr x → QTri l Z n0 ad 18 (38, [vR 1, vI x1, vI x2, vI x3, vI x4, vI x.1], [], (H0 s x.2)) u τ) : QTri l Z n0 ad 18 (38, [vR 1, vI x1, vI x2, vI x3, vI x4, vI v.1], [], (H0 s v.2)) u τ := by
 unfold B18_38 at h
 refine zS Ad W 1 (st' := (40, [vR 1, vI x1, vI x2, vI x3, vI x4, vI v.1], [.int v.1], (H0 s v.2))) rfl ?_
 rcases qite h with ⟨hc276, h⟩ | ⟨hc276, h⟩
 ·refine zF Ad W (t := 83) (f := 43) rfl (XT.i0_le_f hc276) ?_
  refine zS Ad W 7 (st' := (54, [vR 1, vI x1, vI x2, vI x3, vI x4, vI v.1], [.int (v.1 - (1:Int32)), .ref 9, .int x4, .ref 1], (H0 s v.2))) rfl ?_
  obtain ⟨y277, hy277, h⟩ := bind_eq_some_iff.mp h
  refine zB Ad W (f := fun y277 => (55, [vR 1, vI x1, vI x2, vI x3, vI x4, vI v.1], [.int y277, .int x4, .ref 1], (H0 s v.2))) rfl hy277 ?_
  obtain ⟨r302, hr302, h⟩ := bind_eq_some_iff.mp h
  refine QTri.callP W (a := 1) (as := [.int x4, .int y277]) (rest := []) (w := (some (.int r302))) (σ₁ := (H0 s v.2)) rfl rfl rfl rfl rfl rfl rfl rfl (tF19 Ad W s v.2 x4 y277 hr302) ?_
  rcases qite h with ⟨hc303, h⟩ | ⟨hc303, h⟩
  ·refine zT Ad W (t := 83) (f := 61) rfl (XT.i0_eq_t hc303) ?_
   obtain rfl := Option.some.inj h
   exact zM [tt,tt,tt,tt,tt,tt] (hx0 (v.1, v.2) rfl)
  ·refine zF Ad W (t := 83) (f := 61) rfl (XT.i0_eq_f hc303) ?_
   refine zS Ad W 8 (st' := (75, [vR 1, vI x1, vI x2, vI x3, vI x4, vI v.1], [.int (v.1 - (1:Int32)), .ref 9, .int v.1, .ref 9], (H0 s v.2))) rfl ?_
   obtain ⟨y304, hy304, h⟩ := bind_eq_some_iff.mp h
   refine zB Ad W (f := fun y304 => (76, [vR 1, vI x1, vI x2, vI x3, vI x4, vI v.1], [.int y304, .int v.1, .ref 9], (H0 s v.2))) rfl hy304 ?_
   obtain ⟨y305, hy305, h⟩ := bind_eq_some_iff.mp h
   refine zB Ad W (f := fun y305 => (77, [vR 1, vI x1, vI x2, vI x3, vI x4, vI v.1], [], (H0x27 s v.2 y305))) rfl hy305 ?_
   refine zS Ad W 2 (st' := (38, [vR 1, vI x1, vI x2, vI x3, vI x4, vI (v.1 + (-1:Int32))], [], (H0x27 s v.2 y305))) rfl ?_
   have E306 : ((H0x27 s v.2 y305) : QHeap) = (H0 s (s_sorted v.2 y305)) := by simp only [fs, H0, H0v, H0x27, s_sorted]
   rw [E306]
   obtain rfl := Option.some.inj h
   exact zM [tt,tt,tt,tt,tt,tt] (hc ((v.1 + (-1:Int32)), (s_sorted v.2 y305)) rfl)
 ·refine zT Ad W (t := 83) (f := 43) rfl (XT.i0_le_t hc276) ?_
  obtain rfl := Option.some.inj h
  exact zM [tt,tt,tt,tt,tt,tt] (hx0 (v.1, v.2) rfl)
def J18_95 (o : Ob) (x1 : Int32) (x2 : Int32) (x3 : Int32) (x4 : Int32) : Option (((Int32 × Ob)) ⊕ (Int32 × Int32 × Ob)) :=
  some (.inr (x2, (x4 + (1 : Int32)), o))
theorem tJ18_95 (Ad : QAd n0 ad) (W : QW Z a0) (s : List Int32) (o : Ob) (x1 : Int32) (x2 : Int32) (x3 : Int32) (x4 : Int32) {r : ((Int32 × Ob)) ⊕ (Int32 × Int32 × Ob)} {u : Option Value} {τ : QHeap} (h : J18_95 o x1 x2 x3 x4 = some r) (hx0 : ∀ x : Int32 × Ob, r = .inl x → QTri l Z n0 ad 18 (101, [vR 1, vI x1, vI x.1, none, none, none], [], (H0 s x.2)) u τ) (hc : ∀ x : Int32 × Int32 × Ob, r = .inr x → QTri l Z n0 ad 18 (12, [vR 1, vI x1, vI x.1, vI x3, vI x.2.1, none], [], (H0 s x.2.2)) u τ) : QTri l Z n0 ad 18 (95, [vR 1, vI x1, vI x2, vI x3, vI x4, none], [], (H0 s o)) u τ := by
 unfold J18_95 at h
 refine zS Ad W 2 (st' := (12, [vR 1, vI x1, vI x2, vI x3, vI (x4 + (1:Int32)), none], [], (H0 s o))) rfl ?_
 obtain rfl := Option.some.inj h
 exact zM [tt,tt,tt,tt,tt,ff] (hc (x2, (x4 + (1:Int32)), o) rfl)
def J18_83 (o : Ob) (x1 : Int32) (x2 : Int32) (x3 : Int32) (x4 : Int32) (x5 : Int32) : Option (((Int32 × Ob)) ⊕ (Int32 × Int32 × Ob)) :=
  (aset (f_sorted o) x5 x4).bind fun y309 => (J18_95 (s_sorted o y309) x1 (x2 + (1 : Int32)) x3 x4)
theorem tJ18_83 (Ad : QAd n0 ad) (W : QW Z a0) (s : List Int32) (o : Ob) (x1 : Int32) (x2 : Int32) (x3 : Int32) (x4 : Int32) (x5 : Int32) {r : ((Int32 × Ob)) ⊕ (Int32 × Int32 × Ob)} {u : Option Value} {τ : QHeap} (h : J18_83 o x1 x2 x3 x4 x5 = some r) (hx0 : ∀ x : Int32 × Ob, r = .inl x → QTri l Z n0 ad 18 (101, [vR 1, vI x1, vI x.1, none, none, none], [], (H0 s x.2)) u τ) (hc : ∀ x : Int32 × Int32 × Ob, r = .inr x → QTri l Z n0 ad 18 (12, [vR 1, vI x1, vI x.1, vI x3, vI x.2.1, none], [], (H0 s x.2.2)) u τ) : QTri l Z n0 ad 18 (83, [vR 1, vI x1, vI x2, vI x3, vI x4, vI x5], [], (H0 s o)) u τ := by
 unfold J18_83 at h
 refine zS Ad W 4 (st' := (91, [vR 1, vI x1, vI x2, vI x3, vI x4, vI x5], [.int x4, .int x5, .ref 9], (H0 s o))) rfl ?_
 obtain ⟨y309, hy309, h⟩ := bind_eq_some_iff.mp h
 refine zB Ad W (f := fun y309 => (92, [vR 1, vI x1, vI x2, vI x3, vI x4, vI x5], [], (H0x27 s o y309))) rfl hy309 ?_
 refine zS Ad W 1 (st' := (95, [vR 1, vI x1, vI (x2 + (1:Int32)), vI x3, vI x4, vI x5], [], (H0x27 s o y309))) rfl ?_
 have E310 : ((H0x27 s o y309) : QHeap) = (H0 s (s_sorted o y309)) := by simp only [fs, H0, H0v, H0x27, s_sorted]
 rw [E310]
 exact zM [tt,tt,tt,tt,tt,ff] (tJ18_95 Ad W s (s_sorted o y309) x1 (x2 + (1:Int32)) x3 x4 h hx0 hc)
def B18_12 (x1 : Int32) (x3 : Int32) (v : Int32 × Int32 × Ob) : Option (((Int32 × Ob)) ⊕ (Int32 × Int32 × Ob)) :=
  (if v.2.1 < (f_rows v.2.2) then (aget (f_part v.2.2) v.2.1).bind fun y274 => (if y274 = x3 then (loopN (B18_38 x1 v.1 x3 v.2.1) qN (v.1, v.2.2)).bind fun e307 => (J18_83 e307.2 x1 v.1 x3 v.2.1 e307.1) else (J18_95 v.2.2 x1 v.1 x3 v.2.1)) else some (.inl (v.1, v.2.2)))
theorem tB18_12 (Ad : QAd n0 ad) (W : QW Z a0) (s : List Int32) (x1 : Int32) (x3 : Int32) (v : Int32 × Int32 × Ob) {r : ((Int32 × Ob)) ⊕ (Int32 × Int32 × Ob)} {u : Option Value} {τ : QHeap} (h : B18_12 x1 x3 v = some r) (hx0 : ∀ x : Int32 × Ob, r = .inl x → QTri l Z n0 ad 18 (101, [vR 1, vI x1, vI x.1, none, none, none], [], (H0 s x.2)) u τ) (hc : ∀ x : Int32 × Int32 × Ob, r = .inr x → QTri l Z n0 ad 18 (12, [vR 1, vI x1, vI x.1, vI x3, vI x.2.1, none], [], (H0 s x.2.2)) u τ) : QTri l Z n0 ad 18 (12, [vR 1, vI x1, vI v.1, vI x3, vI v.2.1, none], [], (H0 s v.2.2)) u τ := by
 unfold B18_12 at h
 refine zS Ad W 3 (st' := (18, [vR 1, vI x1, vI v.1, vI x3, vI v.2.1, none], [.int (f_rows v.2.2), .int v.2.1], (H0 s v.2.2))) rfl ?_
 rcases qite h with ⟨hc273, h⟩ | ⟨hc273, h⟩
 ·refine zF Ad W (t := 101) (f := 21) rfl (XT.ii_ge_f hc273) ?_
  refine zS Ad W 3 (st' := (27, [vR 1, vI x1, vI v.1, vI x3, vI v.2.1, none], [.int v.2.1, .ref 2], (H0 s v.2.2))) rfl ?_
  obtain ⟨y274, hy274, h⟩ := bind_eq_some_iff.mp h
  refine zB Ad W (f := fun y274 => (28, [vR 1, vI x1, vI v.1, vI x3, vI v.2.1, none], [.int y274], (H0 s v.2.2))) rfl hy274 ?_
  refine zS Ad W 1 (st' := (29, [vR 1, vI x1, vI v.1, vI x3, vI v.2.1, none], [.int x3, .int y274], (H0 s v.2.2))) rfl ?_
  rcases qite h with ⟨hc275, h⟩ | ⟨hc275, h⟩
  ·refine zT Ad W (t := 35) (f := 32) rfl (XT.ii_eq_t hc275) ?_
   refine zS Ad W 2 (st' := (38, [vR 1, vI x1, vI v.1, vI x3, vI v.2.1, vI v.1], [], (H0 s v.2.2))) rfl ?_
   obtain ⟨e307, he307, h⟩ := bind_eq_some_iff.mp h
   refine zM [tt,tt,tt,tt,tt,tt] (loopN_tri (B := B18_38 x1 v.1 x3 v.2.1) (T := fun lv308 => QTri l Z n0 ad 18 (38, [vR 1, vI x1, vI v.1, vI x3, vI v.2.1, vI lv308.1], [], (H0 s lv308.2)) u τ) (KE := fun e307a => QTri l Z n0 ad 18 (83, [vR 1, vI x1, vI v.1, vI x3, vI v.2.1, vI e307a.1], [], (H0 s e307a.2)) u τ) (fun lv308 r hB hE hC => tB18_38 Ad W s x1 v.1 x3 v.2.1 lv308 hB (fun x q => hE _ q) (fun x q => hC x q)) qN (v.1, v.2.2) e307 he307 ?_)
   exact zM [tt,tt,tt,tt,tt,tt] (tJ18_83 Ad W s e307.2 x1 v.1 x3 v.2.1 e307.1 h hx0 hc)
  ·refine zF Ad W (t := 35) (f := 32) rfl (XT.ii_eq_f hc275) ?_
   refine zS Ad W 1 (st' := (95, [vR 1, vI x1, vI v.1, vI x3, vI v.2.1, none], [], (H0 s v.2.2))) rfl ?_
   exact zM [tt,tt,tt,tt,tt,ff] (tJ18_95 Ad W s v.2.2 x1 v.1 x3 v.2.1 h hx0 hc)
 ·refine zT Ad W (t := 101) (f := 21) rfl (XT.ii_ge_t hc273) ?_
  obtain rfl := Option.some.inj h
  exact zM [tt,tt,tt,ff,ff,ff] (hx0 (v.1, v.2.2) rfl)
def H0x28 (s : List Int32) (o0 : Ob) (a0_20 : Int32) : QHeap := H0v s (f_part o0) (f_keys o0) (f_vals o0) (f_flg o0) (f_res o0) (f_resNull o0) (f_frameCnt o0) (f_sorted o0) (f_cap o0) (f_rows o0) (f_direction o0) (f_nulls o0) (f_mode o0) (f_startKind o0) (f_startOff o0) (f_endKind o0) (f_endOff o0) (f_fn o0) (f_fnArg o0) (f_computed o0) a0_20 (f_curPos o0) (f_aggSum o0) (f_aggCount o0) (f_aggRows o0) (f_aggMin o0) (f_aggMax o0)
def H0x29 (s : List Int32) (o0 : Ob) (a0_20 : Int32) (a0_21 : Int32) : QHeap := H0v s (f_part o0) (f_keys o0) (f_vals o0) (f_flg o0) (f_res o0) (f_resNull o0) (f_frameCnt o0) (f_sorted o0) (f_cap o0) (f_rows o0) (f_direction o0) (f_nulls o0) (f_mode o0) (f_startKind o0) (f_startOff o0) (f_endKind o0) (f_endOff o0) (f_fn o0) (f_fnArg o0) (f_computed o0) a0_20 a0_21 (f_aggSum o0) (f_aggCount o0) (f_aggRows o0) (f_aggMin o0) (f_aggMax o0)
def H0x30 (s : List Int32) (o0 : Ob) (a0_21 : Int32) : QHeap := H0v s (f_part o0) (f_keys o0) (f_vals o0) (f_flg o0) (f_res o0) (f_resNull o0) (f_frameCnt o0) (f_sorted o0) (f_cap o0) (f_rows o0) (f_direction o0) (f_nulls o0) (f_mode o0) (f_startKind o0) (f_startOff o0) (f_endKind o0) (f_endOff o0) (f_fn o0) (f_fnArg o0) (f_computed o0) (f_sortedLen o0) a0_21 (f_aggSum o0) (f_aggCount o0) (f_aggRows o0) (f_aggMin o0) (f_aggMax o0)
def J18_137 (o : Ob) (x1 : Int32) (x2 : Int32) (x4 : Int32) : Option (((Ob)) ⊕ (Int32 × Ob)) :=
  some (.inr ((x4 + (1 : Int32)), o))
theorem tJ18_137 (Ad : QAd n0 ad) (W : QW Z a0) (s : List Int32) (o : Ob) (x1 : Int32) (x2 : Int32) (x4 : Int32) {r : ((Ob)) ⊕ (Int32 × Ob)} {u : Option Value} {τ : QHeap} (h : J18_137 o x1 x2 x4 = some r) (hx0 : ∀ x : Ob, r = .inl x → u = (none : Option Value) ∧ τ = (H0 s x)) (hc : ∀ x : Int32 × Ob, r = .inr x → QTri l Z n0 ad 18 (114, [vR 1, vI x1, vI x2, none, vI x.1, none], [], (H0 s x.2)) u τ) : QTri l Z n0 ad 18 (137, [vR 1, vI x1, vI x2, none, vI x4, none], [], (H0 s o)) u τ := by
 unfold J18_137 at h
 refine zS Ad W 2 (st' := (114, [vR 1, vI x1, vI x2, none, vI (x4 + (1:Int32)), none], [], (H0 s o))) rfl ?_
 obtain rfl := Option.some.inj h
 exact zM [tt,tt,tt,ff,tt,ff] (hc ((x4 + (1:Int32)), o) rfl)
def B18_114 (x1 : Int32) (x2 : Int32) (v : Int32 × Ob) : Option (((Ob)) ⊕ (Int32 × Ob)) :=
  (if v.1 < x2 then (aget (f_sorted v.2) v.1).bind fun y315 => (if y315 = x1 then (J18_137 (s_curPos v.2 v.1) x1 x2 v.1) else (J18_137 v.2 x1 x2 v.1)) else some (.inl v.2))
theorem tB18_114 (Ad : QAd n0 ad) (W : QW Z a0) (s : List Int32) (x1 : Int32) (x2 : Int32) (v : Int32 × Ob) {r : ((Ob)) ⊕ (Int32 × Ob)} {u : Option Value} {τ : QHeap} (h : B18_114 x1 x2 v = some r) (hx0 : ∀ x : Ob, r = .inl x → u = (none : Option Value) ∧ τ = (H0 s x)) (hc : ∀ x : Int32 × Ob, r = .inr x → QTri l Z n0 ad 18 (114, [vR 1, vI x1, vI x2, none, vI x.1, none], [], (H0 s x.2)) u τ) : QTri l Z n0 ad 18 (114, [vR 1, vI x1, vI x2, none, vI v.1, none], [], (H0 s v.2)) u τ := by
 unfold B18_114 at h
 refine zS Ad W 2 (st' := (117, [vR 1, vI x1, vI x2, none, vI v.1, none], [.int x2, .int v.1], (H0 s v.2))) rfl ?_
 rcases qite h with ⟨hc314, h⟩ | ⟨hc314, h⟩
 ·refine zF Ad W (t := 143) (f := 120) rfl (XT.ii_ge_f hc314) ?_
  refine zS Ad W 3 (st' := (126, [vR 1, vI x1, vI x2, none, vI v.1, none], [.int v.1, .ref 9], (H0 s v.2))) rfl ?_
  obtain ⟨y315, hy315, h⟩ := bind_eq_some_iff.mp h
  refine zB Ad W (f := fun y315 => (127, [vR 1, vI x1, vI x2, none, vI v.1, none], [.int y315], (H0 s v.2))) rfl hy315 ?_
  refine zS Ad W 1 (st' := (128, [vR 1, vI x1, vI x2, none, vI v.1, none], [.int x1, .int y315], (H0 s v.2))) rfl ?_
  rcases qite h with ⟨hc316, h⟩ | ⟨hc316, h⟩
  ·refine zF Ad W (t := 137) (f := 131) rfl (XT.ii_ne_f hc316) ?_
   refine zS Ad W 3 (st' := (137, [vR 1, vI x1, vI x2, none, vI v.1, none], [], (H0x30 s v.2 v.1))) rfl ?_
   have E317 : ((H0x30 s v.2 v.1) : QHeap) = (H0 s (s_curPos v.2 v.1)) := by simp only [fs, H0, H0v, H0x30, s_curPos]
   rw [E317]
   exact zM [tt,tt,tt,ff,tt,ff] (tJ18_137 Ad W s (s_curPos v.2 v.1) x1 x2 v.1 h hx0 hc)
  ·refine zT Ad W (t := 137) (f := 131) rfl (XT.ii_ne_t hc316) ?_
   exact zM [tt,tt,tt,ff,tt,ff] (tJ18_137 Ad W s v.2 x1 x2 v.1 h hx0 hc)
 ·refine zT Ad W (t := 143) (f := 120) rfl (XT.ii_ge_t hc314) ?_
  obtain rfl := Option.some.inj h
  obtain ⟨rfl, rfl⟩ := hx0 v.2 rfl
  exact QTri.ret0 rfl rfl
/-- buildPartition(I)V -/
def F18 (o : Ob) (x1 : Int32) : Option (Ob) :=
 (aget (f_part o) x1).bind fun y272 => (loopN (B18_12 x1 y272) qN ((0:Int32), (0:Int32), o)).bind fun e311 => (loopN (B18_114 x1 e311.1) qN ((0:Int32), (s_curPos (s_sortedLen e311.2 e311.1) (0:Int32)))).bind fun e318 => some e318
theorem tF18 (Ad : QAd n0 ad) (W : QW Z a0) (s : List Int32) (o : Ob) (x1 : Int32) {r : Ob} (h : F18 o x1 = some r) : QTri l Z n0 ad 18 (0, qentry [.ref 1, .int x1] (pMaxL 18), [], (H0 s o)) (none : Option Value) (H0 s r) := by
 unfold F18 at h
 refine zS Ad W 5 (st' := (7, [vR 1, vI x1, vI (0:Int32), none, none, none], [.int x1, .ref 2], (H0 s o))) rfl ?_
 obtain ⟨y272, hy272, h⟩ := bind_eq_some_iff.mp h
 refine zB Ad W (f := fun y272 => (8, [vR 1, vI x1, vI (0:Int32), none, none, none], [.int y272], (H0 s o))) rfl hy272 ?_
 refine zS Ad W 3 (st' := (12, [vR 1, vI x1, vI (0:Int32), vI y272, vI (0:Int32), none], [], (H0 s o))) rfl ?_
 obtain ⟨e311, he311, h⟩ := bind_eq_some_iff.mp h
 refine zM [tt,tt,tt,tt,tt,ff] (loopN_tri (B := B18_12 x1 y272) (T := fun lv312 => QTri l Z n0 ad 18 (12, [vR 1, vI x1, vI lv312.1, vI y272, vI lv312.2.1, none], [], (H0 s lv312.2.2)) (none : Option Value) (H0 s r)) (KE := fun e311a => QTri l Z n0 ad 18 (101, [vR 1, vI x1, vI e311a.1, none, none, none], [], (H0 s e311a.2)) (none : Option Value) (H0 s r)) (fun lv312 r hB hE hC => tB18_12 Ad W s x1 y272 lv312 hB (fun x q => hE _ q) (fun x q => hC x q)) qN ((0:Int32), (0:Int32), o) e311 he311 ?_)
 refine zS Ad W 3 (st' := (106, [vR 1, vI x1, vI e311.1, none, none, none], [], (H0x28 s e311.2 e311.1))) rfl ?_
 refine zS Ad W 3 (st' := (111, [vR 1, vI x1, vI e311.1, none, none, none], [], (H0x29 s e311.2 e311.1 (0:Int32)))) rfl ?_
 refine zS Ad W 2 (st' := (114, [vR 1, vI x1, vI e311.1, none, vI (0:Int32), none], [], (H0x29 s e311.2 e311.1 (0:Int32)))) rfl ?_
 have E313 : ((H0x29 s e311.2 e311.1 (0:Int32)) : QHeap) = (H0 s (s_curPos (s_sortedLen e311.2 e311.1) (0:Int32))) := by simp only [fs, H0, H0v, H0x29, s_sortedLen, s_curPos]
 rw [E313]
 obtain ⟨e318, he318, h⟩ := bind_eq_some_iff.mp h
 refine zM [tt,tt,tt,ff,tt,ff] (loopN_tri (B := B18_114 x1 e311.1) (T := fun lv319 => QTri l Z n0 ad 18 (114, [vR 1, vI x1, vI e311.1, none, vI lv319.1, none], [], (H0 s lv319.2)) (none : Option Value) (H0 s r)) (KE := fun e318a => (none : Option Value) = (none : Option Value) ∧ (H0 s r) = (H0 s e318a)) (fun lv319 r hB hE hC => tB18_114 Ad W s x1 e311.1 lv319 hB (fun x q => hE _ q) (fun x q => hC x q)) qN ((0:Int32), (s_curPos (s_sortedLen e311.2 e311.1) (0:Int32))) e318 he318 ?_)
 obtain rfl := Option.some.inj h
 exact ⟨rfl, rfl⟩
def H0x31 (s : List Int32) (o0 : Ob) (a0_22 : Int64) : QHeap := H0v s (f_part o0) (f_keys o0) (f_vals o0) (f_flg o0) (f_res o0) (f_resNull o0) (f_frameCnt o0) (f_sorted o0) (f_cap o0) (f_rows o0) (f_direction o0) (f_nulls o0) (f_mode o0) (f_startKind o0) (f_startOff o0) (f_endKind o0) (f_endOff o0) (f_fn o0) (f_fnArg o0) (f_computed o0) (f_sortedLen o0) (f_curPos o0) a0_22 (f_aggCount o0) (f_aggRows o0) (f_aggMin o0) (f_aggMax o0)
def H0x32 (s : List Int32) (o0 : Ob) (a0_22 : Int64) (a0_23 : Int32) : QHeap := H0v s (f_part o0) (f_keys o0) (f_vals o0) (f_flg o0) (f_res o0) (f_resNull o0) (f_frameCnt o0) (f_sorted o0) (f_cap o0) (f_rows o0) (f_direction o0) (f_nulls o0) (f_mode o0) (f_startKind o0) (f_startOff o0) (f_endKind o0) (f_endOff o0) (f_fn o0) (f_fnArg o0) (f_computed o0) (f_sortedLen o0) (f_curPos o0) a0_22 a0_23 (f_aggRows o0) (f_aggMin o0) (f_aggMax o0)
def H0x33 (s : List Int32) (o0 : Ob) (a0_22 : Int64) (a0_23 : Int32) (a0_24 : Int32) : QHeap := H0v s (f_part o0) (f_keys o0) (f_vals o0) (f_flg o0) (f_res o0) (f_resNull o0) (f_frameCnt o0) (f_sorted o0) (f_cap o0) (f_rows o0) (f_direction o0) (f_nulls o0) (f_mode o0) (f_startKind o0) (f_startOff o0) (f_endKind o0) (f_endOff o0) (f_fn o0) (f_fnArg o0) (f_computed o0) (f_sortedLen o0) (f_curPos o0) a0_22 a0_23 a0_24 (f_aggMin o0) (f_aggMax o0)
def H0x34 (s : List Int32) (o0 : Ob) (a0_22 : Int64) (a0_23 : Int32) (a0_24 : Int32) (a0_25 : Int32) : QHeap := H0v s (f_part o0) (f_keys o0) (f_vals o0) (f_flg o0) (f_res o0) (f_resNull o0) (f_frameCnt o0) (f_sorted o0) (f_cap o0) (f_rows o0) (f_direction o0) (f_nulls o0) (f_mode o0) (f_startKind o0) (f_startOff o0) (f_endKind o0) (f_endOff o0) (f_fn o0) (f_fnArg o0) (f_computed o0) (f_sortedLen o0) (f_curPos o0) a0_22 a0_23 a0_24 a0_25 (f_aggMax o0)
def H0x35 (s : List Int32) (o0 : Ob) (a0_22 : Int64) (a0_23 : Int32) (a0_24 : Int32) (a0_25 : Int32) (a0_26 : Int32) : QHeap := H0v s (f_part o0) (f_keys o0) (f_vals o0) (f_flg o0) (f_res o0) (f_resNull o0) (f_frameCnt o0) (f_sorted o0) (f_cap o0) (f_rows o0) (f_direction o0) (f_nulls o0) (f_mode o0) (f_startKind o0) (f_startOff o0) (f_endKind o0) (f_endOff o0) (f_fn o0) (f_fnArg o0) (f_computed o0) (f_sortedLen o0) (f_curPos o0) a0_22 a0_23 a0_24 a0_25 a0_26
/-- rowsStartHolds(II)Z -/
def F34 (o : Ob) (x1 : Int32) (x2 : Int32) : Option (Int32) :=
 (if (f_startKind o) = (1:Int32) then (if (x2.toInt64) < ((x1.toInt64) - ((f_startOff o).toInt64)) then some (0:Int32) else some (1:Int32)) else (if (f_startKind o) = (2:Int32) then (if (x2.toInt64) < (x1.toInt64) then some (0:Int32) else some (1:Int32)) else (if (f_startKind o) = (3:Int32) then (if (x2.toInt64) < ((x1.toInt64) + ((f_startOff o).toInt64)) then some (0:Int32) else some (1:Int32)) else some (1:Int32))))
theorem tF34 (Ad : QAd n0 ad) (W : QW Z a0) (s : List Int32) (o : Ob) (x1 : Int32) (x2 : Int32) {r : Int32} (h : F34 o x1 x2 = some r) : QTri l Z n0 ad 34 (0, qentry [.ref 1, .int x1, .int x2] (pMaxL 34), [], (H0 s o)) (some (Value.int r)) (H0 s o) := by
 unfold F34 at h
 refine zS Ad W 6 (st' := (7, [vR 1, vI x1, vI x2, some (.long (x1.toInt64)), none, some (.long (x2.toInt64)), none, none, none], [], (H0 s o))) rfl ?_
 refine zS Ad W 7 (st' := (19, [vR 1, vI x1, vI x2, some (.long (x1.toInt64)), none, some (.long (x2.toInt64)), none, some (.long ((f_startOff o).toInt64)), none], [.int (1:Int32), .int (f_startKind o)], (H0 s o))) rfl ?_
 rcases qite h with ⟨hc325, h⟩ | ⟨hc325, h⟩
 ·refine zF Ad W (t := 38) (f := 22) rfl (XT.ii_ne_f hc325) ?_
  refine zS Ad W 5 (st' := (29, [vR 1, vI x1, vI x2, some (.long (x1.toInt64)), none, some (.long (x2.toInt64)), none, some (.long ((f_startOff o).toInt64)), none], [.int (XT.cmpL (x2.toInt64) ((x1.toInt64) - ((f_startOff o).toInt64)))], (H0 s o))) rfl ?_
  rcases qite h with ⟨hc326, h⟩ | ⟨hc326, h⟩
  ·refine zT Ad W (t := 36) (f := 32) rfl (XT.ll_lt_t hc326) ?_
   refine zS Ad W 1 (st' := (37, [vR 1, vI x1, vI x2, some (.long (x1.toInt64)), none, some (.long (x2.toInt64)), none, some (.long ((f_startOff o).toInt64)), none], [.int (0:Int32)], (H0 s o))) rfl ?_
   obtain rfl := Option.some.inj h
   exact QTri.retZ rfl rfl
  ·refine zF Ad W (t := 36) (f := 32) rfl (XT.ll_lt_f hc326) ?_
   refine zS Ad W 2 (st' := (37, [vR 1, vI x1, vI x2, some (.long (x1.toInt64)), none, some (.long (x2.toInt64)), none, some (.long ((f_startOff o).toInt64)), none], [.int (1:Int32)], (H0 s o))) rfl ?_
   obtain rfl := Option.some.inj h
   exact QTri.retZ rfl rfl
 ·refine zT Ad W (t := 38) (f := 22) rfl (XT.ii_ne_t hc325) ?_
  refine zS Ad W 3 (st' := (43, [vR 1, vI x1, vI x2, some (.long (x1.toInt64)), none, some (.long (x2.toInt64)), none, some (.long ((f_startOff o).toInt64)), none], [.int (2:Int32), .int (f_startKind o)], (H0 s o))) rfl ?_
  rcases qite h with ⟨hc327, h⟩ | ⟨hc327, h⟩
  ·refine zF Ad W (t := 59) (f := 46) rfl (XT.ii_ne_f hc327) ?_
   refine zS Ad W 3 (st' := (50, [vR 1, vI x1, vI x2, some (.long (x1.toInt64)), none, some (.long (x2.toInt64)), none, some (.long ((f_startOff o).toInt64)), none], [.int (XT.cmpL (x2.toInt64) (x1.toInt64))], (H0 s o))) rfl ?_
   rcases qite h with ⟨hc328, h⟩ | ⟨hc328, h⟩
   ·refine zT Ad W (t := 57) (f := 53) rfl (XT.ll_lt_t hc328) ?_
    refine zS Ad W 1 (st' := (58, [vR 1, vI x1, vI x2, some (.long (x1.toInt64)), none, some (.long (x2.toInt64)), none, some (.long ((f_startOff o).toInt64)), none], [.int (0:Int32)], (H0 s o))) rfl ?_
    obtain rfl := Option.some.inj h
    exact QTri.retZ rfl rfl
   ·refine zF Ad W (t := 57) (f := 53) rfl (XT.ll_lt_f hc328) ?_
    refine zS Ad W 2 (st' := (58, [vR 1, vI x1, vI x2, some (.long (x1.toInt64)), none, some (.long (x2.toInt64)), none, some (.long ((f_startOff o).toInt64)), none], [.int (1:Int32)], (H0 s o))) rfl ?_
    obtain rfl := Option.some.inj h
    exact QTri.retZ rfl rfl
  ·refine zT Ad W (t := 59) (f := 46) rfl (XT.ii_ne_t hc327) ?_
   refine zS Ad W 3 (st' := (64, [vR 1, vI x1, vI x2, some (.long (x1.toInt64)), none, some (.long (x2.toInt64)), none, some (.long ((f_startOff o).toInt64)), none], [.int (3:Int32), .int (f_startKind o)], (H0 s o))) rfl ?_
   rcases qite h with ⟨hc329, h⟩ | ⟨hc329, h⟩
   ·refine zF Ad W (t := 83) (f := 67) rfl (XT.ii_ne_f hc329) ?_
    refine zS Ad W 5 (st' := (74, [vR 1, vI x1, vI x2, some (.long (x1.toInt64)), none, some (.long (x2.toInt64)), none, some (.long ((f_startOff o).toInt64)), none], [.int (XT.cmpL (x2.toInt64) ((x1.toInt64) + ((f_startOff o).toInt64)))], (H0 s o))) rfl ?_
    rcases qite h with ⟨hc330, h⟩ | ⟨hc330, h⟩
    ·refine zT Ad W (t := 81) (f := 77) rfl (XT.ll_lt_t hc330) ?_
     refine zS Ad W 1 (st' := (82, [vR 1, vI x1, vI x2, some (.long (x1.toInt64)), none, some (.long (x2.toInt64)), none, some (.long ((f_startOff o).toInt64)), none], [.int (0:Int32)], (H0 s o))) rfl ?_
     obtain rfl := Option.some.inj h
     exact QTri.retZ rfl rfl
    ·refine zF Ad W (t := 81) (f := 77) rfl (XT.ll_lt_f hc330) ?_
     refine zS Ad W 2 (st' := (82, [vR 1, vI x1, vI x2, some (.long (x1.toInt64)), none, some (.long (x2.toInt64)), none, some (.long ((f_startOff o).toInt64)), none], [.int (1:Int32)], (H0 s o))) rfl ?_
     obtain rfl := Option.some.inj h
     exact QTri.retZ rfl rfl
   ·refine zT Ad W (t := 83) (f := 67) rfl (XT.ii_ne_t hc329) ?_
    refine zS Ad W 1 (st' := (84, [vR 1, vI x1, vI x2, some (.long (x1.toInt64)), none, some (.long (x2.toInt64)), none, some (.long ((f_startOff o).toInt64)), none], [.int (1:Int32)], (H0 s o))) rfl ?_
    obtain rfl := Option.some.inj h
    exact QTri.retZ rfl rfl
/-- rowsEndHolds(II)Z -/
def F35 (o : Ob) (x1 : Int32) (x2 : Int32) : Option (Int32) :=
 (if (f_endKind o) = (1:Int32) then (if ((x1.toInt64) - ((f_endOff o).toInt64)) < (x2.toInt64) then some (0:Int32) else some (1:Int32)) else (if (f_endKind o) = (2:Int32) then (if (x1.toInt64) < (x2.toInt64) then some (0:Int32) else some (1:Int32)) else (if (f_endKind o) = (3:Int32) then (if ((x1.toInt64) + ((f_endOff o).toInt64)) < (x2.toInt64) then some (0:Int32) else some (1:Int32)) else some (1:Int32))))
theorem tF35 (Ad : QAd n0 ad) (W : QW Z a0) (s : List Int32) (o : Ob) (x1 : Int32) (x2 : Int32) {r : Int32} (h : F35 o x1 x2 = some r) : QTri l Z n0 ad 35 (0, qentry [.ref 1, .int x1, .int x2] (pMaxL 35), [], (H0 s o)) (some (Value.int r)) (H0 s o) := by
 unfold F35 at h
 refine zS Ad W 6 (st' := (7, [vR 1, vI x1, vI x2, some (.long (x1.toInt64)), none, some (.long (x2.toInt64)), none, none, none], [], (H0 s o))) rfl ?_
 refine zS Ad W 7 (st' := (19, [vR 1, vI x1, vI x2, some (.long (x1.toInt64)), none, some (.long (x2.toInt64)), none, some (.long ((f_endOff o).toInt64)), none], [.int (1:Int32), .int (f_endKind o)], (H0 s o))) rfl ?_
 rcases qite h with ⟨hc333, h⟩ | ⟨hc333, h⟩
 ·refine zF Ad W (t := 38) (f := 22) rfl (XT.ii_ne_f hc333) ?_
  refine zS Ad W 5 (st' := (29, [vR 1, vI x1, vI x2, some (.long (x1.toInt64)), none, some (.long (x2.toInt64)), none, some (.long ((f_endOff o).toInt64)), none], [.int (XT.cmpL (x2.toInt64) ((x1.toInt64) - ((f_endOff o).toInt64)))], (H0 s o))) rfl ?_
  rcases qite h with ⟨hc334, h⟩ | ⟨hc334, h⟩
  ·refine zT Ad W (t := 36) (f := 32) rfl (XT.ll_gt_t hc334) ?_
   refine zS Ad W 1 (st' := (37, [vR 1, vI x1, vI x2, some (.long (x1.toInt64)), none, some (.long (x2.toInt64)), none, some (.long ((f_endOff o).toInt64)), none], [.int (0:Int32)], (H0 s o))) rfl ?_
   obtain rfl := Option.some.inj h
   exact QTri.retZ rfl rfl
  ·refine zF Ad W (t := 36) (f := 32) rfl (XT.ll_gt_f hc334) ?_
   refine zS Ad W 2 (st' := (37, [vR 1, vI x1, vI x2, some (.long (x1.toInt64)), none, some (.long (x2.toInt64)), none, some (.long ((f_endOff o).toInt64)), none], [.int (1:Int32)], (H0 s o))) rfl ?_
   obtain rfl := Option.some.inj h
   exact QTri.retZ rfl rfl
 ·refine zT Ad W (t := 38) (f := 22) rfl (XT.ii_ne_t hc333) ?_
  refine zS Ad W 3 (st' := (43, [vR 1, vI x1, vI x2, some (.long (x1.toInt64)), none, some (.long (x2.toInt64)), none, some (.long ((f_endOff o).toInt64)), none], [.int (2:Int32), .int (f_endKind o)], (H0 s o))) rfl ?_
  rcases qite h with ⟨hc335, h⟩ | ⟨hc335, h⟩
  ·refine zF Ad W (t := 59) (f := 46) rfl (XT.ii_ne_f hc335) ?_
   refine zS Ad W 3 (st' := (50, [vR 1, vI x1, vI x2, some (.long (x1.toInt64)), none, some (.long (x2.toInt64)), none, some (.long ((f_endOff o).toInt64)), none], [.int (XT.cmpL (x2.toInt64) (x1.toInt64))], (H0 s o))) rfl ?_
   rcases qite h with ⟨hc336, h⟩ | ⟨hc336, h⟩
   ·refine zT Ad W (t := 57) (f := 53) rfl (XT.ll_gt_t hc336) ?_
    refine zS Ad W 1 (st' := (58, [vR 1, vI x1, vI x2, some (.long (x1.toInt64)), none, some (.long (x2.toInt64)), none, some (.long ((f_endOff o).toInt64)), none], [.int (0:Int32)], (H0 s o))) rfl ?_
    obtain rfl := Option.some.inj h
    exact QTri.retZ rfl rfl
   ·refine zF Ad W (t := 57) (f := 53) rfl (XT.ll_gt_f hc336) ?_
    refine zS Ad W 2 (st' := (58, [vR 1, vI x1, vI x2, some (.long (x1.toInt64)), none, some (.long (x2.toInt64)), none, some (.long ((f_endOff o).toInt64)), none], [.int (1:Int32)], (H0 s o))) rfl ?_
    obtain rfl := Option.some.inj h
    exact QTri.retZ rfl rfl
  ·refine zT Ad W (t := 59) (f := 46) rfl (XT.ii_ne_t hc335) ?_
   refine zS Ad W 3 (st' := (64, [vR 1, vI x1, vI x2, some (.long (x1.toInt64)), none, some (.long (x2.toInt64)), none, some (.long ((f_endOff o).toInt64)), none], [.int (3:Int32), .int (f_endKind o)], (H0 s o))) rfl ?_
   rcases qite h with ⟨hc337, h⟩ | ⟨hc337, h⟩
   ·refine zF Ad W (t := 83) (f := 67) rfl (XT.ii_ne_f hc337) ?_
    refine zS Ad W 5 (st' := (74, [vR 1, vI x1, vI x2, some (.long (x1.toInt64)), none, some (.long (x2.toInt64)), none, some (.long ((f_endOff o).toInt64)), none], [.int (XT.cmpL (x2.toInt64) ((x1.toInt64) + ((f_endOff o).toInt64)))], (H0 s o))) rfl ?_
    rcases qite h with ⟨hc338, h⟩ | ⟨hc338, h⟩
    ·refine zT Ad W (t := 81) (f := 77) rfl (XT.ll_gt_t hc338) ?_
     refine zS Ad W 1 (st' := (82, [vR 1, vI x1, vI x2, some (.long (x1.toInt64)), none, some (.long (x2.toInt64)), none, some (.long ((f_endOff o).toInt64)), none], [.int (0:Int32)], (H0 s o))) rfl ?_
     obtain rfl := Option.some.inj h
     exact QTri.retZ rfl rfl
    ·refine zF Ad W (t := 81) (f := 77) rfl (XT.ll_gt_f hc338) ?_
     refine zS Ad W 2 (st' := (82, [vR 1, vI x1, vI x2, some (.long (x1.toInt64)), none, some (.long (x2.toInt64)), none, some (.long ((f_endOff o).toInt64)), none], [.int (1:Int32)], (H0 s o))) rfl ?_
     obtain rfl := Option.some.inj h
     exact QTri.retZ rfl rfl
   ·refine zT Ad W (t := 83) (f := 67) rfl (XT.ii_ne_t hc337) ?_
    refine zS Ad W 1 (st' := (84, [vR 1, vI x1, vI x2, some (.long (x1.toInt64)), none, some (.long (x2.toInt64)), none, some (.long ((f_endOff o).toInt64)), none], [.int (1:Int32)], (H0 s o))) rfl ?_
    obtain rfl := Option.some.inj h
    exact QTri.retZ rfl rfl
def J25_33 (o : Ob) (x1 : Int32) (x2 : Int32) (x3 : Int32) (x4 : Int32) : Option (Int32) :=
  (if x3 = (0 : Int32) then (if x4 = (0 : Int32) then (aget (f_keys o) x1).bind fun y349 => (aget (f_keys o) x2).bind fun y350 => (if y349 = y350 then some (1 : Int32) else some (0 : Int32)) else some (0 : Int32)) else some (0 : Int32))
theorem tJ25_33 (Ad : QAd n0 ad) (W : QW Z a0) (s : List Int32) (o : Ob) (x1 : Int32) (x2 : Int32) (x3 : Int32) (x4 : Int32) {r : Int32} (h : J25_33 o x1 x2 x3 x4 = some r) : QTri l Z n0 ad 25 (33, [vR 1, vI x1, vI x2, vI x3, vI x4], [], (H0 s o)) (some (Value.int r)) (H0 s o) := by
 unfold J25_33 at h
 refine zS Ad W 1 (st' := (34, [vR 1, vI x1, vI x2, vI x3, vI x4], [.int x3], (H0 s o))) rfl ?_
 rcases qite h with ⟨hc347, h⟩ | ⟨hc347, h⟩
 ·refine zF Ad W (t := 42) (f := 37) rfl (XT.i0_ne_f hc347) ?_
  refine zS Ad W 1 (st' := (39, [vR 1, vI x1, vI x2, vI x3, vI x4], [.int x4], (H0 s o))) rfl ?_
  rcases qite h with ⟨hc348, h⟩ | ⟨hc348, h⟩
  ·refine zT Ad W (t := 44) (f := 42) rfl (XT.i0_eq_t hc348) ?_
   refine zS Ad W 3 (st' := (49, [vR 1, vI x1, vI x2, vI x3, vI x4], [.int x1, .ref 3], (H0 s o))) rfl ?_
   obtain ⟨y349, hy349, h⟩ := bind_eq_some_iff.mp h
   refine zB Ad W (f := fun y349 => (50, [vR 1, vI x1, vI x2, vI x3, vI x4], [.int y349], (H0 s o))) rfl hy349 ?_
   refine zS Ad W 3 (st' := (55, [vR 1, vI x1, vI x2, vI x3, vI x4], [.int x2, .ref 3, .int y349], (H0 s o))) rfl ?_
   obtain ⟨y350, hy350, h⟩ := bind_eq_some_iff.mp h
   refine zB Ad W (f := fun y350 => (56, [vR 1, vI x1, vI x2, vI x3, vI x4], [.int y350, .int y349], (H0 s o))) rfl hy350 ?_
   rcases qite h with ⟨hc351, h⟩ | ⟨hc351, h⟩
   ·refine zF Ad W (t := 63) (f := 59) rfl (XT.ii_ne_f hc351) ?_
    refine zS Ad W 2 (st' := (64, [vR 1, vI x1, vI x2, vI x3, vI x4], [.int (1:Int32)], (H0 s o))) rfl ?_
    obtain rfl := Option.some.inj h
    exact QTri.retZ rfl rfl
   ·refine zT Ad W (t := 63) (f := 59) rfl (XT.ii_ne_t hc351) ?_
    refine zS Ad W 1 (st' := (64, [vR 1, vI x1, vI x2, vI x3, vI x4], [.int (0:Int32)], (H0 s o))) rfl ?_
    obtain rfl := Option.some.inj h
    exact QTri.retZ rfl rfl
  ·refine zF Ad W (t := 44) (f := 42) rfl (XT.i0_eq_f hc348) ?_
   refine zS Ad W 1 (st' := (43, [vR 1, vI x1, vI x2, vI x3, vI x4], [.int (0:Int32)], (H0 s o))) rfl ?_
   obtain rfl := Option.some.inj h
   exact QTri.retZ rfl rfl
 ·refine zT Ad W (t := 42) (f := 37) rfl (XT.i0_ne_t hc347) ?_
  refine zS Ad W 1 (st' := (43, [vR 1, vI x1, vI x2, vI x3, vI x4], [.int (0:Int32)], (H0 s o))) rfl ?_
  obtain rfl := Option.some.inj h
  exact QTri.retZ rfl rfl
/-- peer(II)Z -/
def F25 (o : Ob) (x1 : Int32) (x2 : Int32) : Option (Int32) :=
 (if (f_direction o) = (0:Int32) then some (1:Int32) else (F20 o x1).bind fun r344 => (F20 o x2).bind fun r345 => (if r344 = (0:Int32) then (J25_33 o x1 x2 r344 r345) else (if r345 = (0:Int32) then (J25_33 o x1 x2 r344 r345) else some (1:Int32))))
theorem tF25 (Ad : QAd n0 ad) (W : QW Z a0) (s : List Int32) (o : Ob) (x1 : Int32) (x2 : Int32) {r : Int32} (h : F25 o x1 x2 = some r) : QTri l Z n0 ad 25 (0, qentry [.ref 1, .int x1, .int x2] (pMaxL 25), [], (H0 s o)) (some (Value.int r)) (H0 s o) := by
 unfold F25 at h
 refine zS Ad W 2 (st' := (4, [vR 1, vI x1, vI x2, none, none], [.int (f_direction o)], (H0 s o))) rfl ?_
 rcases qite h with ⟨hc343, h⟩ | ⟨hc343, h⟩
 ·refine zF Ad W (t := 9) (f := 7) rfl (XT.i0_ne_f hc343) ?_
  refine zS Ad W 1 (st' := (8, [vR 1, vI x1, vI x2, none, none], [.int (1:Int32)], (H0 s o))) rfl ?_
  obtain rfl := Option.some.inj h
  exact QTri.retZ rfl rfl
 ·refine zT Ad W (t := 9) (f := 7) rfl (XT.i0_ne_t hc343) ?_
  refine zS Ad W 2 (st' := (11, [vR 1, vI x1, vI x2, none, none], [.int x1, .ref 1], (H0 s o))) rfl ?_
  obtain ⟨r344, hr344, h⟩ := bind_eq_some_iff.mp h
  refine QTri.callP W (a := 1) (as := [.int x1]) (rest := []) (w := (some (.int r344))) (σ₁ := (H0 s o)) rfl rfl rfl rfl rfl rfl rfl rfl (tF20 Ad W s o x1 hr344) ?_
  refine zS Ad W 3 (st' := (17, [vR 1, vI x1, vI x2, vI r344, none], [.int x2, .ref 1], (H0 s o))) rfl ?_
  obtain ⟨r345, hr345, h⟩ := bind_eq_some_iff.mp h
  refine QTri.callP W (a := 1) (as := [.int x2]) (rest := []) (w := (some (.int r345))) (σ₁ := (H0 s o)) rfl rfl rfl rfl rfl rfl rfl rfl (tF20 Ad W s o x2 hr345) ?_
  refine zS Ad W 2 (st' := (23, [vR 1, vI x1, vI x2, vI r344, vI r345], [.int r344], (H0 s o))) rfl ?_
  rcases qite h with ⟨hc346, h⟩ | ⟨hc346, h⟩
  ·refine zT Ad W (t := 33) (f := 26) rfl (XT.i0_eq_t hc346) ?_
   exact zM [tt,tt,tt,tt,tt] (tJ25_33 Ad W s o x1 x2 r344 r345 h)
  ·refine zF Ad W (t := 33) (f := 26) rfl (XT.i0_eq_f hc346) ?_
   refine zS Ad W 1 (st' := (28, [vR 1, vI x1, vI x2, vI r344, vI r345], [.int r345], (H0 s o))) rfl ?_
   rcases qite h with ⟨hc352, h⟩ | ⟨hc352, h⟩
   ·refine zT Ad W (t := 33) (f := 31) rfl (XT.i0_eq_t hc352) ?_
    exact zM [tt,tt,tt,tt,tt] (tJ25_33 Ad W s o x1 x2 r344 r345 h)
   ·refine zF Ad W (t := 33) (f := 31) rfl (XT.i0_eq_f hc352) ?_
    refine zS Ad W 1 (st' := (32, [vR 1, vI x1, vI x2, vI r344, vI r345], [.int (1:Int32)], (H0 s o))) rfl ?_
    obtain rfl := Option.some.inj h
    exact QTri.retZ rfl rfl
/-- distance(II)J -/
def F32 (o : Ob) (x1 : Int32) (x2 : Int32) : Option (Int64) :=
 (if (f_direction o) = (1:Int32) then (aget (f_keys o) x2).bind fun y364 => (aget (f_keys o) x1).bind fun y365 => some ((y364.toInt64) - (y365.toInt64)) else (if (f_direction o) = (2:Int32) then (aget (f_keys o) x1).bind fun y367 => (aget (f_keys o) x2).bind fun y368 => some ((y367.toInt64) - (y368.toInt64)) else some (0 : Int64)))
theorem tF32 (Ad : QAd n0 ad) (W : QW Z a0) (s : List Int32) (o : Ob) (x1 : Int32) (x2 : Int32) {r : Int64} (h : F32 o x1 x2 = some r) : QTri l Z n0 ad 32 (0, qentry [.ref 1, .int x1, .int x2] (pMaxL 32), [], (H0 s o)) (some (Value.long r)) (H0 s o) := by
 unfold F32 at h
 refine zS Ad W 3 (st' := (5, [vR 1, vI x1, vI x2], [.int (1:Int32), .int (f_direction o)], (H0 s o))) rfl ?_
 rcases qite h with ⟨hc363, h⟩ | ⟨hc363, h⟩
 ·refine zF Ad W (t := 24) (f := 8) rfl (XT.ii_ne_f hc363) ?_
  refine zS Ad W 3 (st' := (13, [vR 1, vI x1, vI x2], [.int x2, .ref 3], (H0 s o))) rfl ?_
  obtain ⟨y364, hy364, h⟩ := bind_eq_some_iff.mp h
  refine zB Ad W (f := fun y364 => (14, [vR 1, vI x1, vI x2], [.int y364], (H0 s o))) rfl hy364 ?_
  refine zS Ad W 4 (st' := (20, [vR 1, vI x1, vI x2], [.int x1, .ref 3, .long (y364.toInt64)], (H0 s o))) rfl ?_
  obtain ⟨y365, hy365, h⟩ := bind_eq_some_iff.mp h
  refine zB Ad W (f := fun y365 => (21, [vR 1, vI x1, vI x2], [.int y365, .long (y364.toInt64)], (H0 s o))) rfl hy365 ?_
  refine zS Ad W 2 (st' := (23, [vR 1, vI x1, vI x2], [.long ((y364.toInt64) - (y365.toInt64))], (H0 s o))) rfl ?_
  obtain rfl := Option.some.inj h
  exact QTri.retJ rfl rfl
 ·refine zT Ad W (t := 24) (f := 8) rfl (XT.ii_ne_t hc363) ?_
  refine zS Ad W 3 (st' := (29, [vR 1, vI x1, vI x2], [.int (2:Int32), .int (f_direction o)], (H0 s o))) rfl ?_
  rcases qite h with ⟨hc366, h⟩ | ⟨hc366, h⟩
  ·refine zF Ad W (t := 48) (f := 32) rfl (XT.ii_ne_f hc366) ?_
   refine zS Ad W 3 (st' := (37, [vR 1, vI x1, vI x2], [.int x1, .ref 3], (H0 s o))) rfl ?_
   obtain ⟨y367, hy367, h⟩ := bind_eq_some_iff.mp h
   refine zB Ad W (f := fun y367 => (38, [vR 1, vI x1, vI x2], [.int y367], (H0 s o))) rfl hy367 ?_
   refine zS Ad W 4 (st' := (44, [vR 1, vI x1, vI x2], [.int x2, .ref 3, .long (y367.toInt64)], (H0 s o))) rfl ?_
   obtain ⟨y368, hy368, h⟩ := bind_eq_some_iff.mp h
   refine zB Ad W (f := fun y368 => (45, [vR 1, vI x1, vI x2], [.int y368, .long (y367.toInt64)], (H0 s o))) rfl hy368 ?_
   refine zS Ad W 2 (st' := (47, [vR 1, vI x1, vI x2], [.long ((y367.toInt64) - (y368.toInt64))], (H0 s o))) rfl ?_
   obtain rfl := Option.some.inj h
   exact QTri.retJ rfl rfl
  ·refine zT Ad W (t := 48) (f := 32) rfl (XT.ii_ne_t hc366) ?_
   refine zS Ad W 1 (st' := (49, [vR 1, vI x1, vI x2], [.long (0 : Int64)], (H0 s o))) rfl ?_
   obtain rfl := Option.some.inj h
   exact QTri.retJ rfl rfl
/-- rangeStartHolds(IIII)Z -/
def F23 (o : Ob) (x1 : Int32) (x2 : Int32) (x3 : Int32) (x4 : Int32) : Option (Int32) :=
 (if (f_startKind o) = (0:Int32) then some (1:Int32) else (if (f_startKind o) = (4:Int32) then some (1:Int32) else (F25 o x1 x2).bind fun r353 => (if (f_startKind o) = (2:Int32) then some ((if r353 = (0:Int32) then (if x3 < x4 then (1:Int32) else (0:Int32)) else (1:Int32)) &&& 1) else (F20 o x1).bind fun r359 => (if r359 = (0:Int32) then (F20 o x2).bind fun r361 => (if r361 = (0:Int32) then (F32 o x1 x2).bind fun r369 => (if (f_startKind o) = (1:Int32) then (if r369 < (-((f_startOff o).toInt64)) then some (0:Int32) else some (1:Int32)) else (if r369 < ((f_startOff o).toInt64) then some (0:Int32) else some (1:Int32))) else (if (f_nulls o) = (1:Int32) then some (1:Int32) else some (0:Int32))) else some ((if r353 = (0:Int32) then (if x3 < x4 then (1:Int32) else (0:Int32)) else (1:Int32)) &&& 1)))))
theorem tF23 (Ad : QAd n0 ad) (W : QW Z a0) (s : List Int32) (o : Ob) (x1 : Int32) (x2 : Int32) (x3 : Int32) (x4 : Int32) {r : Int32} (h : F23 o x1 x2 x3 x4 = some r) : QTri l Z n0 ad 23 (0, qentry [.ref 1, .int x1, .int x2, .int x3, .int x4] (pMaxL 23), [], (H0 s o)) (some (Value.int r)) (H0 s o) := by
 unfold F23 at h
 refine zS Ad W 2 (st' := (4, [vR 1, vI x1, vI x2, vI x3, vI x4, none, none, none, none, none], [.int (f_startKind o)], (H0 s o))) rfl ?_
 rcases qite h with ⟨hc341, h⟩ | ⟨hc341, h⟩
 ·refine zT Ad W (t := 15) (f := 7) rfl (XT.i0_eq_t hc341) ?_
  refine zS Ad W 1 (st' := (16, [vR 1, vI x1, vI x2, vI x3, vI x4, none, none, none, none, none], [.int (1:Int32)], (H0 s o))) rfl ?_
  obtain rfl := Option.some.inj h
  exact QTri.retZ rfl rfl
 ·refine zF Ad W (t := 15) (f := 7) rfl (XT.i0_eq_f hc341) ?_
  refine zS Ad W 3 (st' := (12, [vR 1, vI x1, vI x2, vI x3, vI x4, none, none, none, none, none], [.int (4:Int32), .int (f_startKind o)], (H0 s o))) rfl ?_
  rcases qite h with ⟨hc342, h⟩ | ⟨hc342, h⟩
  ·refine zF Ad W (t := 17) (f := 15) rfl (XT.ii_ne_f hc342) ?_
   refine zS Ad W 1 (st' := (16, [vR 1, vI x1, vI x2, vI x3, vI x4, none, none, none, none, none], [.int (1:Int32)], (H0 s o))) rfl ?_
   obtain rfl := Option.some.inj h
   exact QTri.retZ rfl rfl
  ·refine zT Ad W (t := 17) (f := 15) rfl (XT.ii_ne_t hc342) ?_
   refine zS Ad W 3 (st' := (20, [vR 1, vI x1, vI x2, vI x3, vI x4, none, none, none, none, none], [.int x2, .int x1, .ref 1], (H0 s o))) rfl ?_
   obtain ⟨r353, hr353, h⟩ := bind_eq_some_iff.mp h
   refine QTri.callP W (a := 1) (as := [.int x1, .int x2]) (rest := []) (w := (some (.int r353))) (σ₁ := (H0 s o)) rfl rfl rfl rfl rfl rfl rfl rfl (tF25 Ad W s o x1 x2 hr353) ?_
   have K355 : ∀ z354 : Int32, z354 = (if r353 = (0:Int32) then (if x3 < x4 then (1:Int32) else (0:Int32)) else (1:Int32)) → QTri l Z n0 ad 23 (37, [vR 1, vI x1, vI x2, none, none, none, none, none, none, none], [.int z354], (H0 s o)) (some (Value.int r)) (H0 s o) := by
    intro z354 ez354
    subst ez354
    refine zS Ad W 4 (st' := (44, [vR 1, vI x1, vI x2, none, none, vI (if r353 = (0:Int32) then (if x3 < x4 then (1:Int32) else (0:Int32)) else (1:Int32)), none, none, none, none], [.int (2:Int32), .int (f_startKind o)], (H0 s o))) rfl ?_
    rcases qite h with ⟨hc358, h⟩ | ⟨hc358, h⟩
    ·refine zT Ad W (t := 55) (f := 47) rfl (XT.ii_eq_t hc358) ?_
     refine zS Ad W 1 (st' := (57, [vR 1, vI x1, vI x2, none, none, vI (if r353 = (0:Int32) then (if x3 < x4 then (1:Int32) else (0:Int32)) else (1:Int32)), none, none, none, none], [.int (if r353 = (0:Int32) then (if x3 < x4 then (1:Int32) else (0:Int32)) else (1:Int32))], (H0 s o))) rfl ?_
     obtain rfl := Option.some.inj h
     exact QTri.retZ rfl rfl
    ·refine zF Ad W (t := 55) (f := 47) rfl (XT.ii_eq_f hc358) ?_
     refine zS Ad W 2 (st' := (49, [vR 1, vI x1, vI x2, none, none, vI (if r353 = (0:Int32) then (if x3 < x4 then (1:Int32) else (0:Int32)) else (1:Int32)), none, none, none, none], [.int x1, .ref 1], (H0 s o))) rfl ?_
     obtain ⟨r359, hr359, h⟩ := bind_eq_some_iff.mp h
     refine QTri.callP W (a := 1) (as := [.int x1]) (rest := []) (w := (some (.int r359))) (σ₁ := (H0 s o)) rfl rfl rfl rfl rfl rfl rfl rfl (tF20 Ad W s o x1 hr359) ?_
     rcases qite h with ⟨hc360, h⟩ | ⟨hc360, h⟩
     ·refine zT Ad W (t := 58) (f := 55) rfl (XT.i0_eq_t hc360) ?_
      refine zS Ad W 2 (st' := (60, [vR 1, vI x1, vI x2, none, none, vI (if r353 = (0:Int32) then (if x3 < x4 then (1:Int32) else (0:Int32)) else (1:Int32)), none, none, none, none], [.int x2, .ref 1], (H0 s o))) rfl ?_
      obtain ⟨r361, hr361, h⟩ := bind_eq_some_iff.mp h
      refine QTri.callP W (a := 1) (as := [.int x2]) (rest := []) (w := (some (.int r361))) (σ₁ := (H0 s o)) rfl rfl rfl rfl rfl rfl rfl rfl (tF20 Ad W s o x2 hr361) ?_
      rcases qite h with ⟨hc362, h⟩ | ⟨hc362, h⟩
      ·refine zT Ad W (t := 80) (f := 66) rfl (XT.i0_eq_t hc362) ?_
       refine zS Ad W 3 (st' := (83, [vR 1, vI x1, vI x2, none, none, vI (if r353 = (0:Int32) then (if x3 < x4 then (1:Int32) else (0:Int32)) else (1:Int32)), none, none, none, none], [.int x2, .int x1, .ref 1], (H0 s o))) rfl ?_
       obtain ⟨r369, hr369, h⟩ := bind_eq_some_iff.mp h
       refine QTri.callP W (a := 1) (as := [.int x1, .int x2]) (rest := []) (w := (some (.long r369))) (σ₁ := (H0 s o)) rfl rfl rfl rfl rfl rfl rfl rfl (tF32 Ad W s o x1 x2 hr369) ?_
       refine zS Ad W 5 (st' := (95, [vR 1, vI x1, vI x2, none, none, vI (if r353 = (0:Int32) then (if x3 < x4 then (1:Int32) else (0:Int32)) else (1:Int32)), some (.long r369), none, some (.long ((f_startOff o).toInt64)), none], [], (H0 s o))) rfl ?_
       refine zS Ad W 3 (st' := (100, [vR 1, vI x1, vI x2, none, none, vI (if r353 = (0:Int32) then (if x3 < x4 then (1:Int32) else (0:Int32)) else (1:Int32)), some (.long r369), none, some (.long ((f_startOff o).toInt64)), none], [.int (1:Int32), .int (f_startKind o)], (H0 s o))) rfl ?_
       rcases qite h with ⟨hc370, h⟩ | ⟨hc370, h⟩
       ·refine zF Ad W (t := 118) (f := 103) rfl (XT.ii_ne_f hc370) ?_
        refine zS Ad W 4 (st' := (109, [vR 1, vI x1, vI x2, none, none, vI (if r353 = (0:Int32) then (if x3 < x4 then (1:Int32) else (0:Int32)) else (1:Int32)), some (.long r369), none, some (.long ((f_startOff o).toInt64)), none], [.int (XT.cmpL r369 (-((f_startOff o).toInt64)))], (H0 s o))) rfl ?_
        rcases qite h with ⟨hc371, h⟩ | ⟨hc371, h⟩
        ·refine zT Ad W (t := 116) (f := 112) rfl (XT.ll_lt_t hc371) ?_
         refine zS Ad W 1 (st' := (117, [vR 1, vI x1, vI x2, none, none, vI (if r353 = (0:Int32) then (if x3 < x4 then (1:Int32) else (0:Int32)) else (1:Int32)), some (.long r369), none, some (.long ((f_startOff o).toInt64)), none], [.int (0:Int32)], (H0 s o))) rfl ?_
         obtain rfl := Option.some.inj h
         exact QTri.retZ rfl rfl
        ·refine zF Ad W (t := 116) (f := 112) rfl (XT.ll_lt_f hc371) ?_
         refine zS Ad W 2 (st' := (117, [vR 1, vI x1, vI x2, none, none, vI (if r353 = (0:Int32) then (if x3 < x4 then (1:Int32) else (0:Int32)) else (1:Int32)), some (.long r369), none, some (.long ((f_startOff o).toInt64)), none], [.int (1:Int32)], (H0 s o))) rfl ?_
         obtain rfl := Option.some.inj h
         exact QTri.retZ rfl rfl
       ·refine zT Ad W (t := 118) (f := 103) rfl (XT.ii_ne_t hc370) ?_
        refine zS Ad W 3 (st' := (123, [vR 1, vI x1, vI x2, none, none, vI (if r353 = (0:Int32) then (if x3 < x4 then (1:Int32) else (0:Int32)) else (1:Int32)), some (.long r369), none, some (.long ((f_startOff o).toInt64)), none], [.int (XT.cmpL r369 ((f_startOff o).toInt64))], (H0 s o))) rfl ?_
        rcases qite h with ⟨hc372, h⟩ | ⟨hc372, h⟩
        ·refine zT Ad W (t := 130) (f := 126) rfl (XT.ll_lt_t hc372) ?_
         refine zS Ad W 1 (st' := (131, [vR 1, vI x1, vI x2, none, none, vI (if r353 = (0:Int32) then (if x3 < x4 then (1:Int32) else (0:Int32)) else (1:Int32)), some (.long r369), none, some (.long ((f_startOff o).toInt64)), none], [.int (0:Int32)], (H0 s o))) rfl ?_
         obtain rfl := Option.some.inj h
         exact QTri.retZ rfl rfl
        ·refine zF Ad W (t := 130) (f := 126) rfl (XT.ll_lt_f hc372) ?_
         refine zS Ad W 2 (st' := (131, [vR 1, vI x1, vI x2, none, none, vI (if r353 = (0:Int32) then (if x3 < x4 then (1:Int32) else (0:Int32)) else (1:Int32)), some (.long r369), none, some (.long ((f_startOff o).toInt64)), none], [.int (1:Int32)], (H0 s o))) rfl ?_
         obtain rfl := Option.some.inj h
         exact QTri.retZ rfl rfl
      ·refine zF Ad W (t := 80) (f := 66) rfl (XT.i0_eq_f hc362) ?_
       refine zS Ad W 3 (st' := (71, [vR 1, vI x1, vI x2, none, none, vI (if r353 = (0:Int32) then (if x3 < x4 then (1:Int32) else (0:Int32)) else (1:Int32)), none, none, none, none], [.int (1:Int32), .int (f_nulls o)], (H0 s o))) rfl ?_
       rcases qite h with ⟨hc373, h⟩ | ⟨hc373, h⟩
       ·refine zF Ad W (t := 78) (f := 74) rfl (XT.ii_ne_f hc373) ?_
        refine zS Ad W 2 (st' := (79, [vR 1, vI x1, vI x2, none, none, vI (if r353 = (0:Int32) then (if x3 < x4 then (1:Int32) else (0:Int32)) else (1:Int32)), none, none, none, none], [.int (1:Int32)], (H0 s o))) rfl ?_
        obtain rfl := Option.some.inj h
        exact QTri.retZ rfl rfl
       ·refine zT Ad W (t := 78) (f := 74) rfl (XT.ii_ne_t hc373) ?_
        refine zS Ad W 1 (st' := (79, [vR 1, vI x1, vI x2, none, none, vI (if r353 = (0:Int32) then (if x3 < x4 then (1:Int32) else (0:Int32)) else (1:Int32)), none, none, none, none], [.int (0:Int32)], (H0 s o))) rfl ?_
        obtain rfl := Option.some.inj h
        exact QTri.retZ rfl rfl
     ·refine zF Ad W (t := 58) (f := 55) rfl (XT.i0_eq_f hc360) ?_
      refine zS Ad W 1 (st' := (57, [vR 1, vI x1, vI x2, none, none, vI (if r353 = (0:Int32) then (if x3 < x4 then (1:Int32) else (0:Int32)) else (1:Int32)), none, none, none, none], [.int (if r353 = (0:Int32) then (if x3 < x4 then (1:Int32) else (0:Int32)) else (1:Int32))], (H0 s o))) rfl ?_
      obtain rfl := Option.some.inj h
      exact QTri.retZ rfl rfl
   rcases em (r353 = (0:Int32)) with hc356 | hc356
   ·refine zF Ad W (t := 32) (f := 26) rfl (XT.i0_ne_f hc356) ?_
    refine zS Ad W 2 (st' := (29, [vR 1, vI x1, vI x2, vI x3, vI x4, none, none, none, none, none], [.int x3, .int x4], (H0 s o))) rfl ?_
    rcases em (x3 < x4) with hc357 | hc357
    ·refine zF Ad W (t := 36) (f := 32) rfl (XT.ii_le_f hc357) ?_
     refine zS Ad W 2 (st' := (37, [vR 1, vI x1, vI x2, vI x3, vI x4, none, none, none, none, none], [.int (1:Int32)], (H0 s o))) rfl ?_
     exact zM [tt,tt,tt,ff,ff,ff,ff,ff,ff,ff] (K355 _ ((if_pos hc356).trans (if_pos hc357)).symm)
    ·refine zT Ad W (t := 36) (f := 32) rfl (XT.ii_le_t hc357) ?_
     refine zS Ad W 1 (st' := (37, [vR 1, vI x1, vI x2, vI x3, vI x4, none, none, none, none, none], [.int (0:Int32)], (H0 s o))) rfl ?_
     exact zM [tt,tt,tt,ff,ff,ff,ff,ff,ff,ff] (K355 _ ((if_pos hc356).trans (if_neg hc357)).symm)
   ·refine zT Ad W (t := 32) (f := 26) rfl (XT.i0_ne_t hc356) ?_
    refine zS Ad W 2 (st' := (37, [vR 1, vI x1, vI x2, vI x3, vI x4, none, none, none, none, none], [.int (1:Int32)], (H0 s o))) rfl ?_
    exact zM [tt,tt,tt,ff,ff,ff,ff,ff,ff,ff] (K355 _ (if_neg hc356).symm)
/-- rangeEndHolds(IIII)Z -/
def F24 (o : Ob) (x1 : Int32) (x2 : Int32) (x3 : Int32) (x4 : Int32) : Option (Int32) :=
 (if (f_endKind o) = (4:Int32) then some (1:Int32) else (if (f_endKind o) = (0:Int32) then some (1:Int32) else (F25 o x1 x2).bind fun r378 => (if (f_endKind o) = (2:Int32) then some ((if r378 = (0:Int32) then (if x4 < x3 then (1:Int32) else (0:Int32)) else (1:Int32)) &&& 1) else (F20 o x1).bind fun r384 => (if r384 = (0:Int32) then (F20 o x2).bind fun r386 => (if r386 = (0:Int32) then (F32 o x1 x2).bind fun r388 => (if (f_endKind o) = (1:Int32) then (if (-((f_endOff o).toInt64)) < r388 then some (0:Int32) else some (1:Int32)) else (if ((f_endOff o).toInt64) < r388 then some (0:Int32) else some (1:Int32))) else (if (f_nulls o) = (0:Int32) then some (1:Int32) else some (0:Int32))) else some ((if r378 = (0:Int32) then (if x4 < x3 then (1:Int32) else (0:Int32)) else (1:Int32)) &&& 1)))))
theorem tF24 (Ad : QAd n0 ad) (W : QW Z a0) (s : List Int32) (o : Ob) (x1 : Int32) (x2 : Int32) (x3 : Int32) (x4 : Int32) {r : Int32} (h : F24 o x1 x2 x3 x4 = some r) : QTri l Z n0 ad 24 (0, qentry [.ref 1, .int x1, .int x2, .int x3, .int x4] (pMaxL 24), [], (H0 s o)) (some (Value.int r)) (H0 s o) := by
 unfold F24 at h
 refine zS Ad W 3 (st' := (5, [vR 1, vI x1, vI x2, vI x3, vI x4, none, none, none, none, none], [.int (4:Int32), .int (f_endKind o)], (H0 s o))) rfl ?_
 rcases qite h with ⟨hc376, h⟩ | ⟨hc376, h⟩
 ·refine zT Ad W (t := 15) (f := 8) rfl (XT.ii_eq_t hc376) ?_
  refine zS Ad W 1 (st' := (16, [vR 1, vI x1, vI x2, vI x3, vI x4, none, none, none, none, none], [.int (1:Int32)], (H0 s o))) rfl ?_
  obtain rfl := Option.some.inj h
  exact QTri.retZ rfl rfl
 ·refine zF Ad W (t := 15) (f := 8) rfl (XT.ii_eq_f hc376) ?_
  refine zS Ad W 2 (st' := (12, [vR 1, vI x1, vI x2, vI x3, vI x4, none, none, none, none, none], [.int (f_endKind o)], (H0 s o))) rfl ?_
  rcases qite h with ⟨hc377, h⟩ | ⟨hc377, h⟩
  ·refine zF Ad W (t := 17) (f := 15) rfl (XT.i0_ne_f hc377) ?_
   refine zS Ad W 1 (st' := (16, [vR 1, vI x1, vI x2, vI x3, vI x4, none, none, none, none, none], [.int (1:Int32)], (H0 s o))) rfl ?_
   obtain rfl := Option.some.inj h
   exact QTri.retZ rfl rfl
  ·refine zT Ad W (t := 17) (f := 15) rfl (XT.i0_ne_t hc377) ?_
   refine zS Ad W 3 (st' := (20, [vR 1, vI x1, vI x2, vI x3, vI x4, none, none, none, none, none], [.int x2, .int x1, .ref 1], (H0 s o))) rfl ?_
   obtain ⟨r378, hr378, h⟩ := bind_eq_some_iff.mp h
   refine QTri.callP W (a := 1) (as := [.int x1, .int x2]) (rest := []) (w := (some (.int r378))) (σ₁ := (H0 s o)) rfl rfl rfl rfl rfl rfl rfl rfl (tF25 Ad W s o x1 x2 hr378) ?_
   have K380 : ∀ z379 : Int32, z379 = (if r378 = (0:Int32) then (if x4 < x3 then (1:Int32) else (0:Int32)) else (1:Int32)) → QTri l Z n0 ad 24 (37, [vR 1, vI x1, vI x2, none, none, none, none, none, none, none], [.int z379], (H0 s o)) (some (Value.int r)) (H0 s o) := by
    intro z379 ez379
    subst ez379
    refine zS Ad W 4 (st' := (44, [vR 1, vI x1, vI x2, none, none, vI (if r378 = (0:Int32) then (if x4 < x3 then (1:Int32) else (0:Int32)) else (1:Int32)), none, none, none, none], [.int (2:Int32), .int (f_endKind o)], (H0 s o))) rfl ?_
    rcases qite h with ⟨hc383, h⟩ | ⟨hc383, h⟩
    ·refine zT Ad W (t := 55) (f := 47) rfl (XT.ii_eq_t hc383) ?_
     refine zS Ad W 1 (st' := (57, [vR 1, vI x1, vI x2, none, none, vI (if r378 = (0:Int32) then (if x4 < x3 then (1:Int32) else (0:Int32)) else (1:Int32)), none, none, none, none], [.int (if r378 = (0:Int32) then (if x4 < x3 then (1:Int32) else (0:Int32)) else (1:Int32))], (H0 s o))) rfl ?_
     obtain rfl := Option.some.inj h
     exact QTri.retZ rfl rfl
    ·refine zF Ad W (t := 55) (f := 47) rfl (XT.ii_eq_f hc383) ?_
     refine zS Ad W 2 (st' := (49, [vR 1, vI x1, vI x2, none, none, vI (if r378 = (0:Int32) then (if x4 < x3 then (1:Int32) else (0:Int32)) else (1:Int32)), none, none, none, none], [.int x1, .ref 1], (H0 s o))) rfl ?_
     obtain ⟨r384, hr384, h⟩ := bind_eq_some_iff.mp h
     refine QTri.callP W (a := 1) (as := [.int x1]) (rest := []) (w := (some (.int r384))) (σ₁ := (H0 s o)) rfl rfl rfl rfl rfl rfl rfl rfl (tF20 Ad W s o x1 hr384) ?_
     rcases qite h with ⟨hc385, h⟩ | ⟨hc385, h⟩
     ·refine zT Ad W (t := 58) (f := 55) rfl (XT.i0_eq_t hc385) ?_
      refine zS Ad W 2 (st' := (60, [vR 1, vI x1, vI x2, none, none, vI (if r378 = (0:Int32) then (if x4 < x3 then (1:Int32) else (0:Int32)) else (1:Int32)), none, none, none, none], [.int x2, .ref 1], (H0 s o))) rfl ?_
      obtain ⟨r386, hr386, h⟩ := bind_eq_some_iff.mp h
      refine QTri.callP W (a := 1) (as := [.int x2]) (rest := []) (w := (some (.int r386))) (σ₁ := (H0 s o)) rfl rfl rfl rfl rfl rfl rfl rfl (tF20 Ad W s o x2 hr386) ?_
      rcases qite h with ⟨hc387, h⟩ | ⟨hc387, h⟩
      ·refine zT Ad W (t := 79) (f := 66) rfl (XT.i0_eq_t hc387) ?_
       refine zS Ad W 3 (st' := (82, [vR 1, vI x1, vI x2, none, none, vI (if r378 = (0:Int32) then (if x4 < x3 then (1:Int32) else (0:Int32)) else (1:Int32)), none, none, none, none], [.int x2, .int x1, .ref 1], (H0 s o))) rfl ?_
       obtain ⟨r388, hr388, h⟩ := bind_eq_some_iff.mp h
       refine QTri.callP W (a := 1) (as := [.int x1, .int x2]) (rest := []) (w := (some (.long r388))) (σ₁ := (H0 s o)) rfl rfl rfl rfl rfl rfl rfl rfl (tF32 Ad W s o x1 x2 hr388) ?_
       refine zS Ad W 5 (st' := (94, [vR 1, vI x1, vI x2, none, none, vI (if r378 = (0:Int32) then (if x4 < x3 then (1:Int32) else (0:Int32)) else (1:Int32)), some (.long r388), none, some (.long ((f_endOff o).toInt64)), none], [], (H0 s o))) rfl ?_
       refine zS Ad W 3 (st' := (99, [vR 1, vI x1, vI x2, none, none, vI (if r378 = (0:Int32) then (if x4 < x3 then (1:Int32) else (0:Int32)) else (1:Int32)), some (.long r388), none, some (.long ((f_endOff o).toInt64)), none], [.int (1:Int32), .int (f_endKind o)], (H0 s o))) rfl ?_
       rcases qite h with ⟨hc389, h⟩ | ⟨hc389, h⟩
       ·refine zF Ad W (t := 117) (f := 102) rfl (XT.ii_ne_f hc389) ?_
        refine zS Ad W 4 (st' := (108, [vR 1, vI x1, vI x2, none, none, vI (if r378 = (0:Int32) then (if x4 < x3 then (1:Int32) else (0:Int32)) else (1:Int32)), some (.long r388), none, some (.long ((f_endOff o).toInt64)), none], [.int (XT.cmpL r388 (-((f_endOff o).toInt64)))], (H0 s o))) rfl ?_
        rcases qite h with ⟨hc390, h⟩ | ⟨hc390, h⟩
        ·refine zT Ad W (t := 115) (f := 111) rfl (XT.ll_gt_t hc390) ?_
         refine zS Ad W 1 (st' := (116, [vR 1, vI x1, vI x2, none, none, vI (if r378 = (0:Int32) then (if x4 < x3 then (1:Int32) else (0:Int32)) else (1:Int32)), some (.long r388), none, some (.long ((f_endOff o).toInt64)), none], [.int (0:Int32)], (H0 s o))) rfl ?_
         obtain rfl := Option.some.inj h
         exact QTri.retZ rfl rfl
        ·refine zF Ad W (t := 115) (f := 111) rfl (XT.ll_gt_f hc390) ?_
         refine zS Ad W 2 (st' := (116, [vR 1, vI x1, vI x2, none, none, vI (if r378 = (0:Int32) then (if x4 < x3 then (1:Int32) else (0:Int32)) else (1:Int32)), some (.long r388), none, some (.long ((f_endOff o).toInt64)), none], [.int (1:Int32)], (H0 s o))) rfl ?_
         obtain rfl := Option.some.inj h
         exact QTri.retZ rfl rfl
       ·refine zT Ad W (t := 117) (f := 102) rfl (XT.ii_ne_t hc389) ?_
        refine zS Ad W 3 (st' := (122, [vR 1, vI x1, vI x2, none, none, vI (if r378 = (0:Int32) then (if x4 < x3 then (1:Int32) else (0:Int32)) else (1:Int32)), some (.long r388), none, some (.long ((f_endOff o).toInt64)), none], [.int (XT.cmpL r388 ((f_endOff o).toInt64))], (H0 s o))) rfl ?_
        rcases qite h with ⟨hc391, h⟩ | ⟨hc391, h⟩
        ·refine zT Ad W (t := 129) (f := 125) rfl (XT.ll_gt_t hc391) ?_
         refine zS Ad W 1 (st' := (130, [vR 1, vI x1, vI x2, none, none, vI (if r378 = (0:Int32) then (if x4 < x3 then (1:Int32) else (0:Int32)) else (1:Int32)), some (.long r388), none, some (.long ((f_endOff o).toInt64)), none], [.int (0:Int32)], (H0 s o))) rfl ?_
         obtain rfl := Option.some.inj h
         exact QTri.retZ rfl rfl
        ·refine zF Ad W (t := 129) (f := 125) rfl (XT.ll_gt_f hc391) ?_
         refine zS Ad W 2 (st' := (130, [vR 1, vI x1, vI x2, none, none, vI (if r378 = (0:Int32) then (if x4 < x3 then (1:Int32) else (0:Int32)) else (1:Int32)), some (.long r388), none, some (.long ((f_endOff o).toInt64)), none], [.int (1:Int32)], (H0 s o))) rfl ?_
         obtain rfl := Option.some.inj h
         exact QTri.retZ rfl rfl
      ·refine zF Ad W (t := 79) (f := 66) rfl (XT.i0_eq_f hc387) ?_
       refine zS Ad W 2 (st' := (70, [vR 1, vI x1, vI x2, none, none, vI (if r378 = (0:Int32) then (if x4 < x3 then (1:Int32) else (0:Int32)) else (1:Int32)), none, none, none, none], [.int (f_nulls o)], (H0 s o))) rfl ?_
       rcases qite h with ⟨hc392, h⟩ | ⟨hc392, h⟩
       ·refine zF Ad W (t := 77) (f := 73) rfl (XT.i0_ne_f hc392) ?_
        refine zS Ad W 2 (st' := (78, [vR 1, vI x1, vI x2, none, none, vI (if r378 = (0:Int32) then (if x4 < x3 then (1:Int32) else (0:Int32)) else (1:Int32)), none, none, none, none], [.int (1:Int32)], (H0 s o))) rfl ?_
        obtain rfl := Option.some.inj h
        exact QTri.retZ rfl rfl
       ·refine zT Ad W (t := 77) (f := 73) rfl (XT.i0_ne_t hc392) ?_
        refine zS Ad W 1 (st' := (78, [vR 1, vI x1, vI x2, none, none, vI (if r378 = (0:Int32) then (if x4 < x3 then (1:Int32) else (0:Int32)) else (1:Int32)), none, none, none, none], [.int (0:Int32)], (H0 s o))) rfl ?_
        obtain rfl := Option.some.inj h
        exact QTri.retZ rfl rfl
     ·refine zF Ad W (t := 58) (f := 55) rfl (XT.i0_eq_f hc385) ?_
      refine zS Ad W 1 (st' := (57, [vR 1, vI x1, vI x2, none, none, vI (if r378 = (0:Int32) then (if x4 < x3 then (1:Int32) else (0:Int32)) else (1:Int32)), none, none, none, none], [.int (if r378 = (0:Int32) then (if x4 < x3 then (1:Int32) else (0:Int32)) else (1:Int32))], (H0 s o))) rfl ?_
      obtain rfl := Option.some.inj h
      exact QTri.retZ rfl rfl
   rcases em (r378 = (0:Int32)) with hc381 | hc381
   ·refine zF Ad W (t := 32) (f := 26) rfl (XT.i0_ne_f hc381) ?_
    refine zS Ad W 2 (st' := (29, [vR 1, vI x1, vI x2, vI x3, vI x4, none, none, none, none, none], [.int x3, .int x4], (H0 s o))) rfl ?_
    rcases em (x4 < x3) with hc382 | hc382
    ·refine zF Ad W (t := 36) (f := 32) rfl (XT.ii_ge_f hc382) ?_
     refine zS Ad W 2 (st' := (37, [vR 1, vI x1, vI x2, vI x3, vI x4, none, none, none, none, none], [.int (1:Int32)], (H0 s o))) rfl ?_
     exact zM [tt,tt,tt,ff,ff,ff,ff,ff,ff,ff] (K380 _ ((if_pos hc381).trans (if_pos hc382)).symm)
    ·refine zT Ad W (t := 36) (f := 32) rfl (XT.ii_ge_t hc382) ?_
     refine zS Ad W 1 (st' := (37, [vR 1, vI x1, vI x2, vI x3, vI x4, none, none, none, none, none], [.int (0:Int32)], (H0 s o))) rfl ?_
     exact zM [tt,tt,tt,ff,ff,ff,ff,ff,ff,ff] (K380 _ ((if_pos hc381).trans (if_neg hc382)).symm)
   ·refine zT Ad W (t := 32) (f := 26) rfl (XT.i0_ne_t hc381) ?_
    refine zS Ad W 2 (st' := (37, [vR 1, vI x1, vI x2, vI x3, vI x4, none, none, none, none, none], [.int (1:Int32)], (H0 s o))) rfl ?_
    exact zM [tt,tt,tt,ff,ff,ff,ff,ff,ff,ff] (K380 _ (if_neg hc381).symm)
/-- inFrame(IIII)Z -/
def F22 (o : Ob) (x1 : Int32) (x2 : Int32) (x3 : Int32) (x4 : Int32) : Option (Int32) :=
 (if (f_mode o) = (0:Int32) then (F34 o x3 x4).bind fun r331 => (if r331 = (0:Int32) then some (0:Int32) else (F35 o x3 x4).bind fun r339 => (if r339 = (0:Int32) then some (0:Int32) else some (1:Int32))) else (F23 o x1 x2 x3 x4).bind fun r374 => (if r374 = (0:Int32) then some (0:Int32) else (F24 o x1 x2 x3 x4).bind fun r393 => (if r393 = (0:Int32) then some (0:Int32) else some (1:Int32))))
theorem tF22 (Ad : QAd n0 ad) (W : QW Z a0) (s : List Int32) (o : Ob) (x1 : Int32) (x2 : Int32) (x3 : Int32) (x4 : Int32) {r : Int32} (h : F22 o x1 x2 x3 x4 = some r) : QTri l Z n0 ad 22 (0, qentry [.ref 1, .int x1, .int x2, .int x3, .int x4] (pMaxL 22), [], (H0 s o)) (some (Value.int r)) (H0 s o) := by
 unfold F22 at h
 refine zS Ad W 2 (st' := (4, [vR 1, vI x1, vI x2, vI x3, vI x4], [.int (f_mode o)], (H0 s o))) rfl ?_
 rcases qite h with ⟨hc324, h⟩ | ⟨hc324, h⟩
 ·refine zF Ad W (t := 33) (f := 7) rfl (XT.i0_ne_f hc324) ?_
  refine zS Ad W 3 (st' := (11, [vR 1, vI x1, vI x2, vI x3, vI x4], [.int x4, .int x3, .ref 1], (H0 s o))) rfl ?_
  obtain ⟨r331, hr331, h⟩ := bind_eq_some_iff.mp h
  refine QTri.callP W (a := 1) (as := [.int x3, .int x4]) (rest := []) (w := (some (.int r331))) (σ₁ := (H0 s o)) rfl rfl rfl rfl rfl rfl rfl rfl (tF34 Ad W s o x3 x4 hr331) ?_
  rcases qite h with ⟨hc332, h⟩ | ⟨hc332, h⟩
  ·refine zT Ad W (t := 31) (f := 17) rfl (XT.i0_eq_t hc332) ?_
   refine zS Ad W 1 (st' := (32, [vR 1, vI x1, vI x2, vI x3, vI x4], [.int (0:Int32)], (H0 s o))) rfl ?_
   obtain rfl := Option.some.inj h
   exact QTri.retZ rfl rfl
  ·refine zF Ad W (t := 31) (f := 17) rfl (XT.i0_eq_f hc332) ?_
   refine zS Ad W 3 (st' := (21, [vR 1, vI x1, vI x2, vI x3, vI x4], [.int x4, .int x3, .ref 1], (H0 s o))) rfl ?_
   obtain ⟨r339, hr339, h⟩ := bind_eq_some_iff.mp h
   refine QTri.callP W (a := 1) (as := [.int x3, .int x4]) (rest := []) (w := (some (.int r339))) (σ₁ := (H0 s o)) rfl rfl rfl rfl rfl rfl rfl rfl (tF35 Ad W s o x3 x4 hr339) ?_
   rcases qite h with ⟨hc340, h⟩ | ⟨hc340, h⟩
   ·refine zT Ad W (t := 31) (f := 27) rfl (XT.i0_eq_t hc340) ?_
    refine zS Ad W 1 (st' := (32, [vR 1, vI x1, vI x2, vI x3, vI x4], [.int (0:Int32)], (H0 s o))) rfl ?_
    obtain rfl := Option.some.inj h
    exact QTri.retZ rfl rfl
   ·refine zF Ad W (t := 31) (f := 27) rfl (XT.i0_eq_f hc340) ?_
    refine zS Ad W 2 (st' := (32, [vR 1, vI x1, vI x2, vI x3, vI x4], [.int (1:Int32)], (H0 s o))) rfl ?_
    obtain rfl := Option.some.inj h
    exact QTri.retZ rfl rfl
 ·refine zT Ad W (t := 33) (f := 7) rfl (XT.i0_ne_t hc324) ?_
  refine zS Ad W 5 (st' := (39, [vR 1, vI x1, vI x2, vI x3, vI x4], [.int x4, .int x3, .int x2, .int x1, .ref 1], (H0 s o))) rfl ?_
  obtain ⟨r374, hr374, h⟩ := bind_eq_some_iff.mp h
  refine QTri.callP W (a := 1) (as := [.int x1, .int x2, .int x3, .int x4]) (rest := []) (w := (some (.int r374))) (σ₁ := (H0 s o)) rfl rfl rfl rfl rfl rfl rfl rfl (tF23 Ad W s o x1 x2 x3 x4 hr374) ?_
  rcases qite h with ⟨hc375, h⟩ | ⟨hc375, h⟩
  ·refine zT Ad W (t := 61) (f := 45) rfl (XT.i0_eq_t hc375) ?_
   refine zS Ad W 1 (st' := (62, [vR 1, vI x1, vI x2, vI x3, vI x4], [.int (0:Int32)], (H0 s o))) rfl ?_
   obtain rfl := Option.some.inj h
   exact QTri.retZ rfl rfl
  ·refine zF Ad W (t := 61) (f := 45) rfl (XT.i0_eq_f hc375) ?_
   refine zS Ad W 5 (st' := (51, [vR 1, vI x1, vI x2, vI x3, vI x4], [.int x4, .int x3, .int x2, .int x1, .ref 1], (H0 s o))) rfl ?_
   obtain ⟨r393, hr393, h⟩ := bind_eq_some_iff.mp h
   refine QTri.callP W (a := 1) (as := [.int x1, .int x2, .int x3, .int x4]) (rest := []) (w := (some (.int r393))) (σ₁ := (H0 s o)) rfl rfl rfl rfl rfl rfl rfl rfl (tF24 Ad W s o x1 x2 x3 x4 hr393) ?_
   rcases qite h with ⟨hc394, h⟩ | ⟨hc394, h⟩
   ·refine zT Ad W (t := 61) (f := 57) rfl (XT.i0_eq_t hc394) ?_
    refine zS Ad W 1 (st' := (62, [vR 1, vI x1, vI x2, vI x3, vI x4], [.int (0:Int32)], (H0 s o))) rfl ?_
    obtain rfl := Option.some.inj h
    exact QTri.retZ rfl rfl
   ·refine zF Ad W (t := 61) (f := 57) rfl (XT.i0_eq_f hc394) ?_
    refine zS Ad W 2 (st' := (62, [vR 1, vI x1, vI x2, vI x3, vI x4], [.int (1:Int32)], (H0 s o))) rfl ?_
    obtain rfl := Option.some.inj h
    exact QTri.retZ rfl rfl
def J21_166 (o : Ob) (x1 : Int32) (x2 : Int32) (x3 : Int32) (x4 : Int32) : Option (((Ob)) ⊕ (Int32 × Ob)) :=
  some (.inr ((x4 + (1 : Int32)), o))
theorem tJ21_166 (Ad : QAd n0 ad) (W : QW Z a0) (s : List Int32) (o : Ob) (x1 : Int32) (x2 : Int32) (x3 : Int32) (x4 : Int32) {r : ((Ob)) ⊕ (Int32 × Ob)} {u : Option Value} {τ : QHeap} (h : J21_166 o x1 x2 x3 x4 = some r) (hx0 : ∀ x : Ob, r = .inl x → u = (none : Option Value) ∧ τ = (H0 s x)) (hc : ∀ x : Int32 × Ob, r = .inr x → QTri l Z n0 ad 21 (38, [vR 1, vI x1, vI x2, vI x3, vI x.1, none, none], [], (H0 s x.2)) u τ) : QTri l Z n0 ad 21 (166, [vR 1, vI x1, vI x2, vI x3, vI x4, none, none], [], (H0 s o)) u τ := by
 unfold J21_166 at h
 refine zS Ad W 2 (st' := (38, [vR 1, vI x1, vI x2, vI x3, vI (x4 + (1:Int32)), none, none], [], (H0 s o))) rfl ?_
 obtain rfl := Option.some.inj h
 exact zM [tt,tt,tt,tt,tt,ff,ff] (hc ((x4 + (1:Int32)), o) rfl)
def H0x36 (s : List Int32) (o0 : Ob) (a0_24 : Int32) : QHeap := H0v s (f_part o0) (f_keys o0) (f_vals o0) (f_flg o0) (f_res o0) (f_resNull o0) (f_frameCnt o0) (f_sorted o0) (f_cap o0) (f_rows o0) (f_direction o0) (f_nulls o0) (f_mode o0) (f_startKind o0) (f_startOff o0) (f_endKind o0) (f_endOff o0) (f_fn o0) (f_fnArg o0) (f_computed o0) (f_sortedLen o0) (f_curPos o0) (f_aggSum o0) (f_aggCount o0) a0_24 (f_aggMin o0) (f_aggMax o0)
/-- valNull(I)Z -/
def F26 (o : Ob) (x1 : Int32) : Option (Int32) :=
 (aget (f_flg o) x1).bind fun y398 => (if (y398 &&& (2:Int32)) = (0:Int32) then some (0:Int32) else some (1:Int32))
theorem tF26 (Ad : QAd n0 ad) (W : QW Z a0) (s : List Int32) (o : Ob) (x1 : Int32) {r : Int32} (h : F26 o x1 = some r) : QTri l Z n0 ad 26 (0, qentry [.ref 1, .int x1] (pMaxL 26), [], (H0 s o)) (some (Value.int r)) (H0 s o) := by
 unfold F26 at h
 refine zS Ad W 3 (st' := (5, [vR 1, vI x1], [.int x1, .ref 5], (H0 s o))) rfl ?_
 obtain ⟨y398, hy398, h⟩ := bind_eq_some_iff.mp h
 refine zB Ad W (f := fun y398 => (6, [vR 1, vI x1], [.int y398], (H0 s o))) rfl hy398 ?_
 refine zS Ad W 2 (st' := (8, [vR 1, vI x1], [.int (y398 &&& (2:Int32))], (H0 s o))) rfl ?_
 rcases qite h with ⟨hc399, h⟩ | ⟨hc399, h⟩
 ·refine zT Ad W (t := 15) (f := 11) rfl (XT.i0_eq_t hc399) ?_
  refine zS Ad W 1 (st' := (16, [vR 1, vI x1], [.int (0:Int32)], (H0 s o))) rfl ?_
  obtain rfl := Option.some.inj h
  exact QTri.retZ rfl rfl
 ·refine zF Ad W (t := 15) (f := 11) rfl (XT.i0_eq_f hc399) ?_
  refine zS Ad W 2 (st' := (16, [vR 1, vI x1], [.int (1:Int32)], (H0 s o))) rfl ?_
  obtain rfl := Option.some.inj h
  exact QTri.retZ rfl rfl
def H0x37 (s : List Int32) (o0 : Ob) (a0_25 : Int32) : QHeap := H0v s (f_part o0) (f_keys o0) (f_vals o0) (f_flg o0) (f_res o0) (f_resNull o0) (f_frameCnt o0) (f_sorted o0) (f_cap o0) (f_rows o0) (f_direction o0) (f_nulls o0) (f_mode o0) (f_startKind o0) (f_startOff o0) (f_endKind o0) (f_endOff o0) (f_fn o0) (f_fnArg o0) (f_computed o0) (f_sortedLen o0) (f_curPos o0) (f_aggSum o0) (f_aggCount o0) (f_aggRows o0) a0_25 (f_aggMax o0)
def H0x38 (s : List Int32) (o0 : Ob) (a0_26 : Int32) : QHeap := H0v s (f_part o0) (f_keys o0) (f_vals o0) (f_flg o0) (f_res o0) (f_resNull o0) (f_frameCnt o0) (f_sorted o0) (f_cap o0) (f_rows o0) (f_direction o0) (f_nulls o0) (f_mode o0) (f_startKind o0) (f_startOff o0) (f_endKind o0) (f_endOff o0) (f_fn o0) (f_fnArg o0) (f_computed o0) (f_sortedLen o0) (f_curPos o0) (f_aggSum o0) (f_aggCount o0) (f_aggRows o0) (f_aggMin o0) a0_26
def H0x39 (s : List Int32) (o0 : Ob) (a0_23 : Int32) : QHeap := H0v s (f_part o0) (f_keys o0) (f_vals o0) (f_flg o0) (f_res o0) (f_resNull o0) (f_frameCnt o0) (f_sorted o0) (f_cap o0) (f_rows o0) (f_direction o0) (f_nulls o0) (f_mode o0) (f_startKind o0) (f_startOff o0) (f_endKind o0) (f_endOff o0) (f_fn o0) (f_fnArg o0) (f_computed o0) (f_sortedLen o0) (f_curPos o0) (f_aggSum o0) a0_23 (f_aggRows o0) (f_aggMin o0) (f_aggMax o0)
def J21_144 (o : Ob) (x1 : Int32) (x2 : Int32) (x3 : Int32) (x4 : Int32) (x6 : Int32) : Option (((Ob)) ⊕ (Int32 × Ob)) :=
  (J21_166 (s_aggSum (s_aggCount o ((f_aggCount o) + (1 : Int32))) ((f_aggSum o) + (x6.toInt64))) x1 x2 x3 x4)
theorem tJ21_144 (Ad : QAd n0 ad) (W : QW Z a0) (s : List Int32) (o : Ob) (x1 : Int32) (x2 : Int32) (x3 : Int32) (x4 : Int32) (x6 : Int32) {r : ((Ob)) ⊕ (Int32 × Ob)} {u : Option Value} {τ : QHeap} (h : J21_144 o x1 x2 x3 x4 x6 = some r) (hx0 : ∀ x : Ob, r = .inl x → u = (none : Option Value) ∧ τ = (H0 s x)) (hc : ∀ x : Int32 × Ob, r = .inr x → QTri l Z n0 ad 21 (38, [vR 1, vI x1, vI x2, vI x3, vI x.1, none, none], [], (H0 s x.2)) u τ) : QTri l Z n0 ad 21 (144, [vR 1, vI x1, vI x2, vI x3, vI x4, none, vI x6], [], (H0 s o)) u τ := by
 unfold J21_144 at h
 refine zS Ad W 6 (st' := (154, [vR 1, vI x1, vI x2, vI x3, vI x4, none, vI x6], [], (H0x39 s o ((f_aggCount o) + (1:Int32))))) rfl ?_
 refine zS Ad W 7 (st' := (166, [vR 1, vI x1, vI x2, vI x3, vI x4, none, vI x6], [], (H0x32 s o ((f_aggSum o) + (x6.toInt64)) ((f_aggCount o) + (1:Int32))))) rfl ?_
 have E407 : ((H0x32 s o ((f_aggSum o) + (x6.toInt64)) ((f_aggCount o) + (1:Int32))) : QHeap) = (H0 s (s_aggSum (s_aggCount o ((f_aggCount o) + (1:Int32))) ((f_aggSum o) + (x6.toInt64)))) := by simp only [fs, H0, H0v, H0x32, s_aggSum, s_aggCount]
 rw [E407]
 exact zM [tt,tt,tt,tt,tt,ff,ff] (tJ21_166 Ad W s (s_aggSum (s_aggCount o ((f_aggCount o) + (1:Int32))) ((f_aggSum o) + (x6.toInt64))) x1 x2 x3 x4 h hx0 hc)
def J21_138 (o : Ob) (x1 : Int32) (x2 : Int32) (x3 : Int32) (x4 : Int32) (x6 : Int32) : Option (((Ob)) ⊕ (Int32 × Ob)) :=
  (J21_144 (s_aggMax o x6) x1 x2 x3 x4 x6)
theorem tJ21_138 (Ad : QAd n0 ad) (W : QW Z a0) (s : List Int32) (o : Ob) (x1 : Int32) (x2 : Int32) (x3 : Int32) (x4 : Int32) (x6 : Int32) {r : ((Ob)) ⊕ (Int32 × Ob)} {u : Option Value} {τ : QHeap} (h : J21_138 o x1 x2 x3 x4 x6 = some r) (hx0 : ∀ x : Ob, r = .inl x → u = (none : Option Value) ∧ τ = (H0 s x)) (hc : ∀ x : Int32 × Ob, r = .inr x → QTri l Z n0 ad 21 (38, [vR 1, vI x1, vI x2, vI x3, vI x.1, none, none], [], (H0 s x.2)) u τ) : QTri l Z n0 ad 21 (138, [vR 1, vI x1, vI x2, vI x3, vI x4, none, vI x6], [], (H0 s o)) u τ := by
 unfold J21_138 at h
 refine zS Ad W 3 (st' := (144, [vR 1, vI x1, vI x2, vI x3, vI x4, none, vI x6], [], (H0x38 s o x6))) rfl ?_
 have E406 : ((H0x38 s o x6) : QHeap) = (H0 s (s_aggMax o x6)) := by simp only [fs, H0, H0v, H0x38, s_aggMax]
 rw [E406]
 exact zM [tt,tt,tt,tt,tt,ff,tt] (tJ21_144 Ad W s (s_aggMax o x6) x1 x2 x3 x4 x6 h hx0 hc)
def J21_122 (o : Ob) (x1 : Int32) (x2 : Int32) (x3 : Int32) (x4 : Int32) (x6 : Int32) : Option (((Ob)) ⊕ (Int32 × Ob)) :=
  (if (f_aggCount o) = (0 : Int32) then (J21_138 o x1 x2 x3 x4 x6) else (if (f_aggMax o) < x6 then (J21_138 o x1 x2 x3 x4 x6) else (J21_144 o x1 x2 x3 x4 x6)))
theorem tJ21_122 (Ad : QAd n0 ad) (W : QW Z a0) (s : List Int32) (o : Ob) (x1 : Int32) (x2 : Int32) (x3 : Int32) (x4 : Int32) (x6 : Int32) {r : ((Ob)) ⊕ (Int32 × Ob)} {u : Option Value} {τ : QHeap} (h : J21_122 o x1 x2 x3 x4 x6 = some r) (hx0 : ∀ x : Ob, r = .inl x → u = (none : Option Value) ∧ τ = (H0 s x)) (hc : ∀ x : Int32 × Ob, r = .inr x → QTri l Z n0 ad 21 (38, [vR 1, vI x1, vI x2, vI x3, vI x.1, none, none], [], (H0 s x.2)) u τ) : QTri l Z n0 ad 21 (122, [vR 1, vI x1, vI x2, vI x3, vI x4, none, vI x6], [], (H0 s o)) u τ := by
 unfold J21_122 at h
 refine zS Ad W 2 (st' := (126, [vR 1, vI x1, vI x2, vI x3, vI x4, none, vI x6], [.int (f_aggCount o)], (H0 s o))) rfl ?_
 rcases qite h with ⟨hc405, h⟩ | ⟨hc405, h⟩
 ·refine zT Ad W (t := 138) (f := 129) rfl (XT.i0_eq_t hc405) ?_
  exact zM [tt,tt,tt,tt,tt,ff,tt] (tJ21_138 Ad W s o x1 x2 x3 x4 x6 h hx0 hc)
 ·refine zF Ad W (t := 138) (f := 129) rfl (XT.i0_eq_f hc405) ?_
  refine zS Ad W 3 (st' := (135, [vR 1, vI x1, vI x2, vI x3, vI x4, none, vI x6], [.int (f_aggMax o), .int x6], (H0 s o))) rfl ?_
  rcases qite h with ⟨hc408, h⟩ | ⟨hc408, h⟩
  ·refine zF Ad W (t := 144) (f := 138) rfl (XT.ii_le_f hc408) ?_
   exact zM [tt,tt,tt,tt,tt,ff,tt] (tJ21_138 Ad W s o x1 x2 x3 x4 x6 h hx0 hc)
  ·refine zT Ad W (t := 144) (f := 138) rfl (XT.ii_le_t hc408) ?_
   exact zM [tt,tt,tt,tt,tt,ff,tt] (tJ21_144 Ad W s o x1 x2 x3 x4 x6 h hx0 hc)
def J21_116 (o : Ob) (x1 : Int32) (x2 : Int32) (x3 : Int32) (x4 : Int32) (x6 : Int32) : Option (((Ob)) ⊕ (Int32 × Ob)) :=
  (J21_122 (s_aggMin o x6) x1 x2 x3 x4 x6)
theorem tJ21_116 (Ad : QAd n0 ad) (W : QW Z a0) (s : List Int32) (o : Ob) (x1 : Int32) (x2 : Int32) (x3 : Int32) (x4 : Int32) (x6 : Int32) {r : ((Ob)) ⊕ (Int32 × Ob)} {u : Option Value} {τ : QHeap} (h : J21_116 o x1 x2 x3 x4 x6 = some r) (hx0 : ∀ x : Ob, r = .inl x → u = (none : Option Value) ∧ τ = (H0 s x)) (hc : ∀ x : Int32 × Ob, r = .inr x → QTri l Z n0 ad 21 (38, [vR 1, vI x1, vI x2, vI x3, vI x.1, none, none], [], (H0 s x.2)) u τ) : QTri l Z n0 ad 21 (116, [vR 1, vI x1, vI x2, vI x3, vI x4, none, vI x6], [], (H0 s o)) u τ := by
 unfold J21_116 at h
 refine zS Ad W 3 (st' := (122, [vR 1, vI x1, vI x2, vI x3, vI x4, none, vI x6], [], (H0x37 s o x6))) rfl ?_
 have E404 : ((H0x37 s o x6) : QHeap) = (H0 s (s_aggMin o x6)) := by simp only [fs, H0, H0v, H0x37, s_aggMin]
 rw [E404]
 exact zM [tt,tt,tt,tt,tt,ff,tt] (tJ21_122 Ad W s (s_aggMin o x6) x1 x2 x3 x4 x6 h hx0 hc)
def B21_38 (x1 : Int32) (x2 : Int32) (x3 : Int32) (v : Int32 × Ob) : Option (((Ob)) ⊕ (Int32 × Ob)) :=
  (if v.1 < x2 then (aget (f_sorted v.2) v.1).bind fun y323 => (F22 v.2 x1 y323 x3 v.1).bind fun r395 => (if r395 = (0 : Int32) then (J21_166 v.2 x1 x2 x3 v.1) else (F26 (s_aggRows v.2 ((f_aggRows v.2) + (1 : Int32))) y323).bind fun r400 => (if r400 = (0 : Int32) then (aget (f_vals (s_aggRows v.2 ((f_aggRows v.2) + (1 : Int32)))) y323).bind fun y402 => (if (f_aggCount (s_aggRows v.2 ((f_aggRows v.2) + (1 : Int32)))) = (0 : Int32) then (J21_116 (s_aggRows v.2 ((f_aggRows v.2) + (1 : Int32))) x1 x2 x3 v.1 y402) else (if y402 < (f_aggMin (s_aggRows v.2 ((f_aggRows v.2) + (1 : Int32)))) then (J21_116 (s_aggRows v.2 ((f_aggRows v.2) + (1 : Int32))) x1 x2 x3 v.1 y402) else (J21_122 (s_aggRows v.2 ((f_aggRows v.2) + (1 : Int32))) x1 x2 x3 v.1 y402))) else (J21_166 (s_aggRows v.2 ((f_aggRows v.2) + (1 : Int32))) x1 x2 x3 v.1))) else some (.inl v.2))
theorem tB21_38 (Ad : QAd n0 ad) (W : QW Z a0) (s : List Int32) (x1 : Int32) (x2 : Int32) (x3 : Int32) (v : Int32 × Ob) {r : ((Ob)) ⊕ (Int32 × Ob)} {u : Option Value} {τ : QHeap} (h : B21_38 x1 x2 x3 v = some r) (hx0 : ∀ x : Ob, r = .inl x → u = (none : Option Value) ∧ τ = (H0 s x)) (hc : ∀ x : Int32 × Ob, r = .inr x → QTri l Z n0 ad 21 (38, [vR 1, vI x1, vI x2, vI x3, vI x.1, none, none], [], (H0 s x.2)) u τ) : QTri l Z n0 ad 21 (38, [vR 1, vI x1, vI x2, vI x3, vI v.1, none, none], [], (H0 s v.2)) u τ := by
 unfold B21_38 at h
 refine zS Ad W 2 (st' := (41, [vR 1, vI x1, vI x2, vI x3, vI v.1, none, none], [.int x2, .int v.1], (H0 s v.2))) rfl ?_
 rcases qite h with ⟨hc322, h⟩ | ⟨hc322, h⟩
 ·refine zF Ad W (t := 172) (f := 44) rfl (XT.ii_ge_f hc322) ?_
  refine zS Ad W 3 (st' := (50, [vR 1, vI x1, vI x2, vI x3, vI v.1, none, none], [.int v.1, .ref 9], (H0 s v.2))) rfl ?_
  obtain ⟨y323, hy323, h⟩ := bind_eq_some_iff.mp h
  refine zB Ad W (f := fun y323 => (51, [vR 1, vI x1, vI x2, vI x3, vI v.1, none, none], [.int y323], (H0 s v.2))) rfl hy323 ?_
  refine zS Ad W 6 (st' := (60, [vR 1, vI x1, vI x2, vI x3, vI v.1, vI y323, none], [.int v.1, .int x3, .int y323, .int x1, .ref 1], (H0 s v.2))) rfl ?_
  obtain ⟨r395, hr395, h⟩ := bind_eq_some_iff.mp h
  refine QTri.callP W (a := 1) (as := [.int x1, .int y323, .int x3, .int v.1]) (rest := []) (w := (some (.int r395))) (σ₁ := (H0 s v.2)) rfl rfl rfl rfl rfl rfl rfl rfl (tF22 Ad W s v.2 x1 y323 x3 v.1 hr395) ?_
  rcases qite h with ⟨hc396, h⟩ | ⟨hc396, h⟩
  ·refine zF Ad W (t := 69) (f := 66) rfl (XT.i0_ne_f hc396) ?_
   refine zS Ad W 1 (st' := (166, [vR 1, vI x1, vI x2, vI x3, vI v.1, vI y323, none], [], (H0 s v.2))) rfl ?_
   exact zM [tt,tt,tt,tt,tt,ff,ff] (tJ21_166 Ad W s v.2 x1 x2 x3 v.1 h hx0 hc)
  ·refine zT Ad W (t := 69) (f := 66) rfl (XT.i0_ne_t hc396) ?_
   refine zS Ad W 6 (st' := (79, [vR 1, vI x1, vI x2, vI x3, vI v.1, vI y323, none], [], (H0x36 s v.2 ((f_aggRows v.2) + (1:Int32))))) rfl ?_
   refine zS Ad W 2 (st' := (82, [vR 1, vI x1, vI x2, vI x3, vI v.1, vI y323, none], [.int y323, .ref 1], (H0x36 s v.2 ((f_aggRows v.2) + (1:Int32))))) rfl ?_
   have E397 : ((H0x36 s v.2 ((f_aggRows v.2) + (1:Int32))) : QHeap) = (H0 s (s_aggRows v.2 ((f_aggRows v.2) + (1:Int32)))) := by simp only [fs, H0, H0v, H0x36, s_aggRows]
   rw [E397]
   obtain ⟨r400, hr400, h⟩ := bind_eq_some_iff.mp h
   refine QTri.callP W (a := 1) (as := [.int y323]) (rest := []) (w := (some (.int r400))) (σ₁ := (H0 s (s_aggRows v.2 ((f_aggRows v.2) + (1:Int32))))) rfl rfl rfl rfl rfl rfl rfl rfl (tF26 Ad W s (s_aggRows v.2 ((f_aggRows v.2) + (1:Int32))) y323 hr400) ?_
   rcases qite h with ⟨hc401, h⟩ | ⟨hc401, h⟩
   ·refine zT Ad W (t := 91) (f := 88) rfl (XT.i0_eq_t hc401) ?_
    refine zS Ad W 3 (st' := (97, [vR 1, vI x1, vI x2, vI x3, vI v.1, vI y323, none], [.int y323, .ref 4], (H0 s (s_aggRows v.2 ((f_aggRows v.2) + (1:Int32)))))) rfl ?_
    obtain ⟨y402, hy402, h⟩ := bind_eq_some_iff.mp h
    refine zB Ad W (f := fun y402 => (98, [vR 1, vI x1, vI x2, vI x3, vI v.1, vI y323, none], [.int y402], (H0 s (s_aggRows v.2 ((f_aggRows v.2) + (1:Int32)))))) rfl hy402 ?_
    refine zS Ad W 3 (st' := (104, [vR 1, vI x1, vI x2, vI x3, vI v.1, vI y323, vI y402], [.int (f_aggCount (s_aggRows v.2 ((f_aggRows v.2) + (1:Int32))))], (H0 s (s_aggRows v.2 ((f_aggRows v.2) + (1:Int32)))))) rfl ?_
    rcases qite h with ⟨hc403, h⟩ | ⟨hc403, h⟩
    ·refine zT Ad W (t := 116) (f := 107) rfl (XT.i0_eq_t hc403) ?_
     exact zM [tt,tt,tt,tt,tt,ff,tt] (tJ21_116 Ad W s (s_aggRows v.2 ((f_aggRows v.2) + (1:Int32))) x1 x2 x3 v.1 y402 h hx0 hc)
    ·refine zF Ad W (t := 116) (f := 107) rfl (XT.i0_eq_f hc403) ?_
     refine zS Ad W 3 (st' := (113, [vR 1, vI x1, vI x2, vI x3, vI v.1, vI y323, vI y402], [.int (f_aggMin (s_aggRows v.2 ((f_aggRows v.2) + (1:Int32)))), .int y402], (H0 s (s_aggRows v.2 ((f_aggRows v.2) + (1:Int32)))))) rfl ?_
     rcases qite h with ⟨hc409, h⟩ | ⟨hc409, h⟩
     ·refine zF Ad W (t := 122) (f := 116) rfl (XT.ii_ge_f hc409) ?_
      exact zM [tt,tt,tt,tt,tt,ff,tt] (tJ21_116 Ad W s (s_aggRows v.2 ((f_aggRows v.2) + (1:Int32))) x1 x2 x3 v.1 y402 h hx0 hc)
     ·refine zT Ad W (t := 122) (f := 116) rfl (XT.ii_ge_t hc409) ?_
      exact zM [tt,tt,tt,tt,tt,ff,tt] (tJ21_122 Ad W s (s_aggRows v.2 ((f_aggRows v.2) + (1:Int32))) x1 x2 x3 v.1 y402 h hx0 hc)
   ·refine zF Ad W (t := 91) (f := 88) rfl (XT.i0_eq_f hc401) ?_
    refine zS Ad W 1 (st' := (166, [vR 1, vI x1, vI x2, vI x3, vI v.1, vI y323, none], [], (H0 s (s_aggRows v.2 ((f_aggRows v.2) + (1:Int32)))))) rfl ?_
    exact zM [tt,tt,tt,tt,tt,ff,ff] (tJ21_166 Ad W s (s_aggRows v.2 ((f_aggRows v.2) + (1:Int32))) x1 x2 x3 v.1 h hx0 hc)
 ·refine zT Ad W (t := 172) (f := 44) rfl (XT.ii_ge_t hc322) ?_
  obtain rfl := Option.some.inj h
  obtain ⟨rfl, rfl⟩ := hx0 v.2 rfl
  exact QTri.ret0 rfl rfl
/-- aggregateFrame(I)V -/
def F21 (o : Ob) (x1 : Int32) : Option (Ob) :=
 (loopN (B21_38 x1 (f_sortedLen o) (f_curPos o)) qN ((0:Int32), (s_aggMax (s_aggMin (s_aggRows (s_aggCount (s_aggSum o (0 : Int64)) (0:Int32)) (0:Int32)) (0:Int32)) (0:Int32)))).bind fun e410 => some e410
theorem tF21 (Ad : QAd n0 ad) (W : QW Z a0) (s : List Int32) (o : Ob) (x1 : Int32) {r : Ob} (h : F21 o x1 = some r) : QTri l Z n0 ad 21 (0, qentry [.ref 1, .int x1] (pMaxL 21), [], (H0 s o)) (none : Option Value) (H0 s r) := by
 unfold F21 at h
 refine zS Ad W 6 (st' := (10, [vR 1, vI x1, vI (f_sortedLen o), vI (f_curPos o), none, none, none], [], (H0 s o))) rfl ?_
 refine zS Ad W 3 (st' := (15, [vR 1, vI x1, vI (f_sortedLen o), vI (f_curPos o), none, none, none], [], (H0x31 s o (0 : Int64)))) rfl ?_
 refine zS Ad W 3 (st' := (20, [vR 1, vI x1, vI (f_sortedLen o), vI (f_curPos o), none, none, none], [], (H0x32 s o (0 : Int64) (0:Int32)))) rfl ?_
 refine zS Ad W 3 (st' := (25, [vR 1, vI x1, vI (f_sortedLen o), vI (f_curPos o), none, none, none], [], (H0x33 s o (0 : Int64) (0:Int32) (0:Int32)))) rfl ?_
 refine zS Ad W 3 (st' := (30, [vR 1, vI x1, vI (f_sortedLen o), vI (f_curPos o), none, none, none], [], (H0x34 s o (0 : Int64) (0:Int32) (0:Int32) (0:Int32)))) rfl ?_
 refine zS Ad W 3 (st' := (35, [vR 1, vI x1, vI (f_sortedLen o), vI (f_curPos o), none, none, none], [], (H0x35 s o (0 : Int64) (0:Int32) (0:Int32) (0:Int32) (0:Int32)))) rfl ?_
 refine zS Ad W 2 (st' := (38, [vR 1, vI x1, vI (f_sortedLen o), vI (f_curPos o), vI (0:Int32), none, none], [], (H0x35 s o (0 : Int64) (0:Int32) (0:Int32) (0:Int32) (0:Int32)))) rfl ?_
 have E321 : ((H0x35 s o (0 : Int64) (0:Int32) (0:Int32) (0:Int32) (0:Int32)) : QHeap) = (H0 s (s_aggMax (s_aggMin (s_aggRows (s_aggCount (s_aggSum o (0 : Int64)) (0:Int32)) (0:Int32)) (0:Int32)) (0:Int32))) := by simp only [fs, H0, H0v, H0x35, s_aggSum, s_aggCount, s_aggRows, s_aggMin, s_aggMax]
 rw [E321]
 obtain ⟨e410, he410, h⟩ := bind_eq_some_iff.mp h
 refine zM [tt,tt,tt,tt,tt,ff,ff] (loopN_tri (B := B21_38 x1 (f_sortedLen o) (f_curPos o)) (T := fun lv411 => QTri l Z n0 ad 21 (38, [vR 1, vI x1, vI (f_sortedLen o), vI (f_curPos o), vI lv411.1, none, none], [], (H0 s lv411.2)) (none : Option Value) (H0 s r)) (KE := fun e410a => (none : Option Value) = (none : Option Value) ∧ (H0 s r) = (H0 s e410a)) (fun lv411 r hB hE hC => tB21_38 Ad W s x1 (f_sortedLen o) (f_curPos o) lv411 hB (fun x q => hE _ q) (fun x q => hC x q)) qN ((0:Int32), (s_aggMax (s_aggMin (s_aggRows (s_aggCount (s_aggSum o (0 : Int64)) (0:Int32)) (0:Int32)) (0:Int32)) (0:Int32))) e410 he410 ?_)
 obtain rfl := Option.some.inj h
 exact ⟨rfl, rfl⟩
def H0x40 (s : List Int32) (o0 : Ob) (a0_6 : List Int32) : QHeap := H0v s (f_part o0) (f_keys o0) (f_vals o0) (f_flg o0) (f_res o0) (f_resNull o0) a0_6 (f_sorted o0) (f_cap o0) (f_rows o0) (f_direction o0) (f_nulls o0) (f_mode o0) (f_startKind o0) (f_startOff o0) (f_endKind o0) (f_endOff o0) (f_fn o0) (f_fnArg o0) (f_computed o0) (f_sortedLen o0) (f_curPos o0) (f_aggSum o0) (f_aggCount o0) (f_aggRows o0) (f_aggMin o0) (f_aggMax o0)
def H0x41 (s : List Int32) (o0 : Ob) (a0_5 : List Int32) : QHeap := H0v s (f_part o0) (f_keys o0) (f_vals o0) (f_flg o0) (f_res o0) a0_5 (f_frameCnt o0) (f_sorted o0) (f_cap o0) (f_rows o0) (f_direction o0) (f_nulls o0) (f_mode o0) (f_startKind o0) (f_startOff o0) (f_endKind o0) (f_endOff o0) (f_fn o0) (f_fnArg o0) (f_computed o0) (f_sortedLen o0) (f_curPos o0) (f_aggSum o0) (f_aggCount o0) (f_aggRows o0) (f_aggMin o0) (f_aggMax o0)
def H0x42 (s : List Int32) (o0 : Ob) (a0_4 : List Int64) (a0_5 : List Int32) : QHeap := H0v s (f_part o0) (f_keys o0) (f_vals o0) (f_flg o0) a0_4 a0_5 (f_frameCnt o0) (f_sorted o0) (f_cap o0) (f_rows o0) (f_direction o0) (f_nulls o0) (f_mode o0) (f_startKind o0) (f_startOff o0) (f_endKind o0) (f_endOff o0) (f_fn o0) (f_fnArg o0) (f_computed o0) (f_sortedLen o0) (f_curPos o0) (f_aggSum o0) (f_aggCount o0) (f_aggRows o0) (f_aggMin o0) (f_aggMax o0)
/-- setRes(IJZ)V -/
def F28 (o : Ob) (x1 : Int32) (x2 : Int64) (x4 : Int32) : Option (Ob) :=
 (aset (f_resNull o) x1 (x4 &&& 1)).bind fun y419 => (aset (f_res o) x1 (if x4 = (0:Int32) then x2 else (0 : Int64))).bind fun y423 => some (s_res (s_resNull o y419) y423)
theorem tF28 (Ad : QAd n0 ad) (W : QW Z a0) (s : List Int32) (o : Ob) (x1 : Int32) (x2 : Int64) (x4 : Int32) {r : Ob} (h : F28 o x1 x2 x4 = some r) : QTri l Z n0 ad 28 (0, qentry [.ref 1, .int x1, .long x2, .int x4] (pMaxL 28), [], (H0 s o)) (none : Option Value) (H0 s r) := by
 unfold F28 at h
 refine zS Ad W 4 (st' := (7, [vR 1, vI x1, some (.long x2), none, vI x4], [.int x4, .int x1, .ref 7], (H0 s o))) rfl ?_
 obtain ⟨y419, hy419, h⟩ := bind_eq_some_iff.mp h
 refine zB Ad W (f := fun y419 => (8, [vR 1, vI x1, some (.long x2), none, vI x4], [], (H0x41 s o y419))) rfl hy419 ?_
 refine zS Ad W 4 (st' := (15, [vR 1, vI x1, some (.long x2), none, vI x4], [.int x4, .int x1, .ref 6], (H0x41 s o y419))) rfl ?_
 have K421 : ∀ z420 : Int64, z420 = (if x4 = (0:Int32) then x2 else (0 : Int64)) → QTri l Z n0 ad 28 (23, [none, none, none, none, none], [.long z420, .int x1, .ref 6], (H0x41 s o y419)) (none : Option Value) (H0 s r) := by
  intro z420 ez420
  subst ez420
  obtain ⟨y423, hy423, h⟩ := bind_eq_some_iff.mp h
  refine zB Ad W (f := fun y423 => (24, [none, none, none, none, none], [], (H0x42 s o y423 y419))) rfl hy423 ?_
  have E424 : ((H0x42 s o y423 y419) : QHeap) = (H0 s (s_res (s_resNull o y419) y423)) := by simp only [fs, H0, H0v, H0x42, s_res, s_resNull]
  rw [E424]
  obtain rfl := Option.some.inj h
  exact QTri.ret0 rfl rfl
 rcases em (x4 = (0:Int32)) with hc422 | hc422
 ·refine zT Ad W (t := 22) (f := 18) rfl (XT.i0_eq_t hc422) ?_
  refine zS Ad W 1 (st' := (23, [vR 1, vI x1, some (.long x2), none, vI x4], [.long x2, .int x1, .ref 6], (H0x41 s o y419))) rfl ?_
  exact zM [ff,ff,ff,ff,ff] (K421 _ (if_pos hc422).symm)
 ·refine zF Ad W (t := 22) (f := 18) rfl (XT.i0_eq_f hc422) ?_
  refine zS Ad W 2 (st' := (23, [vR 1, vI x1, some (.long x2), none, vI x4], [.long (0 : Int64), .int x1, .ref 6], (H0x41 s o y419))) rfl ?_
  exact zM [ff,ff,ff,ff,ff] (K421 _ (if_neg hc422).symm)
def B33_5 (o : Ob) (x1 : Int32) (x2 : Int32) (v : Int64 × Int32) : Option (((Int64)) ⊕ (Int64 × Int32)) :=
  (if v.2 < x2 then (if v.2 < (f_sortedLen o) then (aget (f_sorted o) v.2).bind fun y445 => (F25 o y445 x1).bind fun r446 => some (.inr ((if r446 = (0 : Int32) then (v.1 + (1 : Int64)) else v.1), (v.2 + (1 : Int32)))) else some (.inl v.1)) else some (.inl v.1))
theorem tB33_5 (Ad : QAd n0 ad) (W : QW Z a0) (s : List Int32) (o : Ob) (x1 : Int32) (x2 : Int32) (v : Int64 × Int32) {r : ((Int64)) ⊕ (Int64 × Int32)} {u : Option Value} {τ : QHeap} (h : B33_5 o x1 x2 v = some r) (hx0 : ∀ x : Int64, r = .inl x → u = (some (Value.long x)) ∧ τ = (H0 s o)) (hc : ∀ x : Int64 × Int32, r = .inr x → QTri l Z n0 ad 33 (5, [vR 1, vI x1, vI x2, some (.long x.1), none, vI x.2], [], (H0 s o)) u τ) : QTri l Z n0 ad 33 (5, [vR 1, vI x1, vI x2, some (.long v.1), none, vI v.2], [], (H0 s o)) u τ := by
 unfold B33_5 at h
 refine zS Ad W 2 (st' := (8, [vR 1, vI x1, vI x2, some (.long v.1), none, vI v.2], [.int x2, .int v.2], (H0 s o))) rfl ?_
 rcases qite h with ⟨hc443, h⟩ | ⟨hc443, h⟩
 ·refine zF Ad W (t := 45) (f := 11) rfl (XT.ii_ge_f hc443) ?_
  refine zS Ad W 3 (st' := (17, [vR 1, vI x1, vI x2, some (.long v.1), none, vI v.2], [.int (f_sortedLen o), .int v.2], (H0 s o))) rfl ?_
  rcases qite h with ⟨hc444, h⟩ | ⟨hc444, h⟩
  ·refine zF Ad W (t := 45) (f := 20) rfl (XT.ii_ge_f hc444) ?_
   refine zS Ad W 4 (st' := (27, [vR 1, vI x1, vI x2, some (.long v.1), none, vI v.2], [.int v.2, .ref 9, .ref 1], (H0 s o))) rfl ?_
   obtain ⟨y445, hy445, h⟩ := bind_eq_some_iff.mp h
   refine zB Ad W (f := fun y445 => (28, [vR 1, vI x1, vI x2, some (.long v.1), none, vI v.2], [.int y445, .ref 1], (H0 s o))) rfl hy445 ?_
   refine zS Ad W 1 (st' := (29, [vR 1, vI x1, vI x2, some (.long v.1), none, vI v.2], [.int x1, .int y445, .ref 1], (H0 s o))) rfl ?_
   obtain ⟨r446, hr446, h⟩ := bind_eq_some_iff.mp h
   refine QTri.callP W (a := 1) (as := [.int y445, .int x1]) (rest := []) (w := (some (.int r446))) (σ₁ := (H0 s o)) rfl rfl rfl rfl rfl rfl rfl rfl (tF25 Ad W s o y445 x1 hr446) ?_
   have K448 : ∀ z447 : Int64, z447 = (if r446 = (0:Int32) then (v.1 + (1 : Int64)) else v.1) → QTri l Z n0 ad 33 (39, [vR 1, vI x1, vI x2, some (.long z447), none, vI v.2], [], (H0 s o)) u τ := by
    intro z447 ez447
    subst ez447
    refine zS Ad W 2 (st' := (5, [vR 1, vI x1, vI x2, some (.long (if r446 = (0:Int32) then (v.1 + (1 : Int64)) else v.1)), none, vI (v.2 + (1:Int32))], [], (H0 s o))) rfl ?_
    obtain rfl := Option.some.inj h
    exact zM [tt,tt,tt,tt,ff,tt] (hc ((if r446 = (0:Int32) then (v.1 + (1 : Int64)) else v.1), (v.2 + (1:Int32))) rfl)
   rcases em (r446 = (0:Int32)) with hc449 | hc449
   ·refine zF Ad W (t := 39) (f := 35) rfl (XT.i0_ne_f hc449) ?_
    refine zS Ad W 4 (st' := (39, [vR 1, vI x1, vI x2, some (.long (v.1 + (1 : Int64))), none, vI v.2], [], (H0 s o))) rfl ?_
    exact zM [tt,tt,tt,tt,ff,tt] (K448 _ (if_pos hc449).symm)
   ·refine zT Ad W (t := 39) (f := 35) rfl (XT.i0_ne_t hc449) ?_
    exact zM [tt,tt,tt,tt,ff,tt] (K448 _ (if_neg hc449).symm)
  ·refine zT Ad W (t := 45) (f := 20) rfl (XT.ii_ge_t hc444) ?_
   refine zS Ad W 1 (st' := (46, [vR 1, vI x1, vI x2, some (.long v.1), none, vI v.2], [.long v.1], (H0 s o))) rfl ?_
   obtain rfl := Option.some.inj h
   obtain ⟨rfl, rfl⟩ := hx0 v.1 rfl
   exact QTri.retJ rfl rfl
 ·refine zT Ad W (t := 45) (f := 11) rfl (XT.ii_ge_t hc443) ?_
  refine zS Ad W 1 (st' := (46, [vR 1, vI x1, vI x2, some (.long v.1), none, vI v.2], [.long v.1], (H0 s o))) rfl ?_
  obtain rfl := Option.some.inj h
  obtain ⟨rfl, rfl⟩ := hx0 v.1 rfl
  exact QTri.retJ rfl rfl
/-- rankOf(II)J -/
def F33 (o : Ob) (x1 : Int32) (x2 : Int32) : Option (Int64) :=
 (loopN (B33_5 o x1 x2) qN ((1 : Int64), (0:Int32))).bind fun e450 => some e450
theorem tF33 (Ad : QAd n0 ad) (W : QW Z a0) (s : List Int32) (o : Ob) (x1 : Int32) (x2 : Int32) {r : Int64} (h : F33 o x1 x2 = some r) : QTri l Z n0 ad 33 (0, qentry [.ref 1, .int x1, .int x2] (pMaxL 33), [], (H0 s o)) (some (Value.long r)) (H0 s o) := by
 unfold F33 at h
 refine zS Ad W 4 (st' := (5, [vR 1, vI x1, vI x2, some (.long (1 : Int64)), none, vI (0:Int32)], [], (H0 s o))) rfl ?_
 obtain ⟨e450, he450, h⟩ := bind_eq_some_iff.mp h
 refine zM [tt,tt,tt,tt,ff,tt] (loopN_tri (B := B33_5 o x1 x2) (T := fun lv451 => QTri l Z n0 ad 33 (5, [vR 1, vI x1, vI x2, some (.long lv451.1), none, vI lv451.2], [], (H0 s o)) (some (Value.long r)) (H0 s o)) (KE := fun e450a => (some (Value.long r)) = (some (Value.long e450a)) ∧ (H0 s o) = (H0 s o)) (fun lv451 r hB hE hC => tB33_5 Ad W s o x1 x2 lv451 hB (fun x q => hE _ q) (fun x q => hC x q)) qN ((1 : Int64), (0:Int32)) e450 he450 ?_)
 obtain rfl := Option.some.inj h
 exact ⟨rfl, rfl⟩
def J36_69 (o : Ob) (x1 : Int32) (x2 : Int32) (x3 : Int64) (x5 : Int32) : Option (((Int64)) ⊕ (Int64 × Int32)) :=
  some (.inr (x3, (x5 + (1 : Int32))))
theorem tJ36_69 (Ad : QAd n0 ad) (W : QW Z a0) (s : List Int32) (o : Ob) (x1 : Int32) (x2 : Int32) (x3 : Int64) (x5 : Int32) {r : ((Int64)) ⊕ (Int64 × Int32)} {u : Option Value} {τ : QHeap} (h : J36_69 o x1 x2 x3 x5 = some r) (hx0 : ∀ x : Int64, r = .inl x → u = (some (Value.long x)) ∧ τ = (H0 s o)) (hc : ∀ x : Int64 × Int32, r = .inr x → QTri l Z n0 ad 36 (5, [vR 1, vI x1, vI x2, some (.long x.1), none, vI x.2, none], [], (H0 s o)) u τ) : QTri l Z n0 ad 36 (69, [vR 1, vI x1, vI x2, some (.long x3), none, vI x5, none], [], (H0 s o)) u τ := by
 unfold J36_69 at h
 refine zS Ad W 2 (st' := (5, [vR 1, vI x1, vI x2, some (.long x3), none, vI (x5 + (1:Int32)), none], [], (H0 s o))) rfl ?_
 obtain rfl := Option.some.inj h
 exact zM [tt,tt,tt,tt,ff,tt,ff] (hc (x3, (x5 + (1:Int32))) rfl)
def J36_65 (o : Ob) (x1 : Int32) (x2 : Int32) (x3 : Int64) (x5 : Int32) : Option (((Int64)) ⊕ (Int64 × Int32)) :=
  (J36_69 o x1 x2 (x3 + (1 : Int64)) x5)
theorem tJ36_65 (Ad : QAd n0 ad) (W : QW Z a0) (s : List Int32) (o : Ob) (x1 : Int32) (x2 : Int32) (x3 : Int64) (x5 : Int32) {r : ((Int64)) ⊕ (Int64 × Int32)} {u : Option Value} {τ : QHeap} (h : J36_65 o x1 x2 x3 x5 = some r) (hx0 : ∀ x : Int64, r = .inl x → u = (some (Value.long x)) ∧ τ = (H0 s o)) (hc : ∀ x : Int64 × Int32, r = .inr x → QTri l Z n0 ad 36 (5, [vR 1, vI x1, vI x2, some (.long x.1), none, vI x.2, none], [], (H0 s o)) u τ) : QTri l Z n0 ad 36 (65, [vR 1, vI x1, vI x2, some (.long x3), none, vI x5, none], [], (H0 s o)) u τ := by
 unfold J36_65 at h
 refine zS Ad W 4 (st' := (69, [vR 1, vI x1, vI x2, some (.long (x3 + (1 : Int64))), none, vI x5, none], [], (H0 s o))) rfl ?_
 exact zM [tt,tt,tt,tt,ff,tt,ff] (tJ36_69 Ad W s o x1 x2 (x3 + (1 : Int64)) x5 h hx0 hc)
def B36_5 (o : Ob) (x1 : Int32) (x2 : Int32) (v : Int64 × Int32) : Option (((Int64)) ⊕ (Int64 × Int32)) :=
  (if v.2 < x2 then (if v.2 < (f_sortedLen o) then (aget (f_sorted o) v.2).bind fun y457 => (F25 o y457 x1).bind fun r458 => (if r458 = (0 : Int32) then (if v.2 = (0 : Int32) then (J36_65 o x1 x2 v.1 v.2) else (aget (f_sorted o) (v.2 - (1 : Int32))).bind fun y461 => (F25 o y457 y461).bind fun r462 => (J36_69 o x1 x2 (if r462 = (0 : Int32) then (v.1 + (1 : Int64)) else v.1) v.2)) else (J36_69 o x1 x2 v.1 v.2)) else some (.inl v.1)) else some (.inl v.1))
theorem tB36_5 (Ad : QAd n0 ad) (W : QW Z a0) (s : List Int32) (o : Ob) (x1 : Int32) (x2 : Int32) (v : Int64 × Int32) {r : ((Int64)) ⊕ (Int64 × Int32)} {u : Option Value} {τ : QHeap} (h : B36_5 o x1 x2 v = some r) (hx0 : ∀ x : Int64, r = .inl x → u = (some (Value.long x)) ∧ τ = (H0 s o)) (hc : ∀ x : Int64 × Int32, r = .inr x → QTri l Z n0 ad 36 (5, [vR 1, vI x1, vI x2, some (.long x.1), none, vI x.2, none], [], (H0 s o)) u τ) : QTri l Z n0 ad 36 (5, [vR 1, vI x1, vI x2, some (.long v.1), none, vI v.2, none], [], (H0 s o)) u τ := by
 unfold B36_5 at h
 refine zS Ad W 2 (st' := (8, [vR 1, vI x1, vI x2, some (.long v.1), none, vI v.2, none], [.int x2, .int v.2], (H0 s o))) rfl ?_
 rcases qite h with ⟨hc455, h⟩ | ⟨hc455, h⟩
 ·refine zF Ad W (t := 75) (f := 11) rfl (XT.ii_ge_f hc455) ?_
  refine zS Ad W 3 (st' := (17, [vR 1, vI x1, vI x2, some (.long v.1), none, vI v.2, none], [.int (f_sortedLen o), .int v.2], (H0 s o))) rfl ?_
  rcases qite h with ⟨hc456, h⟩ | ⟨hc456, h⟩
  ·refine zF Ad W (t := 75) (f := 20) rfl (XT.ii_ge_f hc456) ?_
   refine zS Ad W 3 (st' := (26, [vR 1, vI x1, vI x2, some (.long v.1), none, vI v.2, none], [.int v.2, .ref 9], (H0 s o))) rfl ?_
   obtain ⟨y457, hy457, h⟩ := bind_eq_some_iff.mp h
   refine zB Ad W (f := fun y457 => (27, [vR 1, vI x1, vI x2, some (.long v.1), none, vI v.2, none], [.int y457], (H0 s o))) rfl hy457 ?_
   refine zS Ad W 4 (st' := (33, [vR 1, vI x1, vI x2, some (.long v.1), none, vI v.2, vI y457], [.int x1, .int y457, .ref 1], (H0 s o))) rfl ?_
   obtain ⟨r458, hr458, h⟩ := bind_eq_some_iff.mp h
   refine QTri.callP W (a := 1) (as := [.int y457, .int x1]) (rest := []) (w := (some (.int r458))) (σ₁ := (H0 s o)) rfl rfl rfl rfl rfl rfl rfl rfl (tF25 Ad W s o y457 x1 hr458) ?_
   rcases qite h with ⟨hc459, h⟩ | ⟨hc459, h⟩
   ·refine zT Ad W (t := 42) (f := 39) rfl (XT.i0_eq_t hc459) ?_
    refine zS Ad W 1 (st' := (44, [vR 1, vI x1, vI x2, some (.long v.1), none, vI v.2, vI y457], [.int v.2], (H0 s o))) rfl ?_
    rcases qite h with ⟨hc460, h⟩ | ⟨hc460, h⟩
    ·refine zT Ad W (t := 65) (f := 47) rfl (XT.i0_eq_t hc460) ?_
     exact zM [tt,tt,tt,tt,ff,tt,ff] (tJ36_65 Ad W s o x1 x2 v.1 v.2 h hx0 hc)
    ·refine zF Ad W (t := 65) (f := 47) rfl (XT.i0_eq_f hc460) ?_
     refine zS Ad W 7 (st' := (58, [vR 1, vI x1, vI x2, some (.long v.1), none, vI v.2, vI y457], [.int (v.2 - (1:Int32)), .ref 9, .int y457, .ref 1], (H0 s o))) rfl ?_
     obtain ⟨y461, hy461, h⟩ := bind_eq_some_iff.mp h
     refine zB Ad W (f := fun y461 => (59, [vR 1, vI x1, vI x2, some (.long v.1), none, vI v.2, vI y457], [.int y461, .int y457, .ref 1], (H0 s o))) rfl hy461 ?_
     obtain ⟨r462, hr462, h⟩ := bind_eq_some_iff.mp h
     refine QTri.callP W (a := 1) (as := [.int y457, .int y461]) (rest := []) (w := (some (.int r462))) (σ₁ := (H0 s o)) rfl rfl rfl rfl rfl rfl rfl rfl (tF25 Ad W s o y457 y461 hr462) ?_
     have K464 : ∀ z463 : Int64, z463 = (if r462 = (0:Int32) then (v.1 + (1 : Int64)) else v.1) → QTri l Z n0 ad 36 (69, [vR 1, vI x1, vI x2, some (.long z463), none, vI v.2, none], [], (H0 s o)) u τ := by
      intro z463 ez463
      subst ez463
      exact zM [tt,tt,tt,tt,ff,tt,ff] (tJ36_69 Ad W s o x1 x2 (if r462 = (0:Int32) then (v.1 + (1 : Int64)) else v.1) v.2 h hx0 hc)
     rcases em (r462 = (0:Int32)) with hc465 | hc465
     ·refine zF Ad W (t := 69) (f := 65) rfl (XT.i0_ne_f hc465) ?_
      refine zS Ad W 4 (st' := (69, [vR 1, vI x1, vI x2, some (.long (v.1 + (1 : Int64))), none, vI v.2, vI y457], [], (H0 s o))) rfl ?_
      exact zM [tt,tt,tt,tt,ff,tt,ff] (K464 _ (if_pos hc465).symm)
     ·refine zT Ad W (t := 69) (f := 65) rfl (XT.i0_ne_t hc465) ?_
      exact zM [tt,tt,tt,tt,ff,tt,ff] (K464 _ (if_neg hc465).symm)
   ·refine zF Ad W (t := 42) (f := 39) rfl (XT.i0_eq_f hc459) ?_
    refine zS Ad W 1 (st' := (69, [vR 1, vI x1, vI x2, some (.long v.1), none, vI v.2, vI y457], [], (H0 s o))) rfl ?_
    exact zM [tt,tt,tt,tt,ff,tt,ff] (tJ36_69 Ad W s o x1 x2 v.1 v.2 h hx0 hc)
  ·refine zT Ad W (t := 75) (f := 20) rfl (XT.ii_ge_t hc456) ?_
   refine zS Ad W 1 (st' := (76, [vR 1, vI x1, vI x2, some (.long v.1), none, vI v.2, none], [.long v.1], (H0 s o))) rfl ?_
   obtain rfl := Option.some.inj h
   obtain ⟨rfl, rfl⟩ := hx0 v.1 rfl
   exact QTri.retJ rfl rfl
 ·refine zT Ad W (t := 75) (f := 11) rfl (XT.ii_ge_t hc455) ?_
  refine zS Ad W 1 (st' := (76, [vR 1, vI x1, vI x2, some (.long v.1), none, vI v.2, none], [.long v.1], (H0 s o))) rfl ?_
  obtain rfl := Option.some.inj h
  obtain ⟨rfl, rfl⟩ := hx0 v.1 rfl
  exact QTri.retJ rfl rfl
/-- denseRankOf(II)J -/
def F36 (o : Ob) (x1 : Int32) (x2 : Int32) : Option (Int64) :=
 (loopN (B36_5 o x1 x2) qN ((1 : Int64), (0:Int32))).bind fun e466 => some e466
theorem tF36 (Ad : QAd n0 ad) (W : QW Z a0) (s : List Int32) (o : Ob) (x1 : Int32) (x2 : Int32) {r : Int64} (h : F36 o x1 x2 = some r) : QTri l Z n0 ad 36 (0, qentry [.ref 1, .int x1, .int x2] (pMaxL 36), [], (H0 s o)) (some (Value.long r)) (H0 s o) := by
 unfold F36 at h
 refine zS Ad W 4 (st' := (5, [vR 1, vI x1, vI x2, some (.long (1 : Int64)), none, vI (0:Int32), none], [], (H0 s o))) rfl ?_
 obtain ⟨e466, he466, h⟩ := bind_eq_some_iff.mp h
 refine zM [tt,tt,tt,tt,ff,tt,ff] (loopN_tri (B := B36_5 o x1 x2) (T := fun lv467 => QTri l Z n0 ad 36 (5, [vR 1, vI x1, vI x2, some (.long lv467.1), none, vI lv467.2, none], [], (H0 s o)) (some (Value.long r)) (H0 s o)) (KE := fun e466a => (some (Value.long r)) = (some (Value.long e466a)) ∧ (H0 s o) = (H0 s o)) (fun lv467 r hB hE hC => tB36_5 Ad W s o x1 x2 lv467 hB (fun x q => hE _ q) (fun x q => hC x q)) qN ((1 : Int64), (0:Int32)) e466 he466 ?_)
 obtain rfl := Option.some.inj h
 exact ⟨rfl, rfl⟩
def J37_45 (o : Ob) (x1 : Int32) : Option (Ob) :=
  (F28 o x1 (0 : Int64) (1 : Int32)).bind fun r477 => some r477
theorem tJ37_45 (Ad : QAd n0 ad) (W : QW Z a0) (s : List Int32) (o : Ob) (x1 : Int32) {r : Ob} (h : J37_45 o x1 = some r) : QTri l Z n0 ad 37 (45, [vR 1, vI x1, none, none, none, none, none], [], (H0 s o)) (none : Option Value) (H0 s r) := by
 unfold J37_45 at h
 refine zS Ad W 4 (st' := (49, [vR 1, vI x1, none, none, none, none, none], [.int (1:Int32), .long (0 : Int64), .int x1, .ref 1], (H0 s o))) rfl ?_
 obtain ⟨r477, hr477, h⟩ := bind_eq_some_iff.mp h
 refine QTri.callP W (a := 1) (as := [.int x1, .long (0 : Int64), .int (1:Int32)]) (rest := []) (w := none) (σ₁ := (H0 s r477)) rfl rfl rfl rfl rfl rfl rfl rfl (tF28 Ad W s o x1 (0 : Int64) (1:Int32) hr477) ?_
 obtain rfl := Option.some.inj h
 exact QTri.ret0 rfl rfl
/-- shiftValue(IIZ)V -/
def F37 (o : Ob) (x1 : Int32) (x2 : Int32) (x3 : Int32) : Option (Ob) :=
 (if (if x3 = (0:Int32) then ((x2.toInt64) + ((f_fnArg o).toInt64)) else ((x2.toInt64) - ((f_fnArg o).toInt64))) < (0 : Int64) then (J37_45 o x1) else (if (((f_sortedLen o).toInt64) - (1 : Int64)) < (if x3 = (0:Int32) then ((x2.toInt64) + ((f_fnArg o).toInt64)) else ((x2.toInt64) - ((f_fnArg o).toInt64))) then (J37_45 o x1) else (aget (f_sorted o) ((if x3 = (0:Int32) then ((x2.toInt64) + ((f_fnArg o).toInt64)) else ((x2.toInt64) - ((f_fnArg o).toInt64))).toInt32)).bind fun y479 => (F26 o y479).bind fun r480 => (if r480 = (0:Int32) then (aget (f_vals o) y479).bind fun y482 => (F28 o x1 (y482.toInt64) (0:Int32)).bind fun r483 => some r483 else (F28 o x1 (0 : Int64) (1:Int32)).bind fun r484 => some r484)))
theorem tF37 (Ad : QAd n0 ad) (W : QW Z a0) (s : List Int32) (o : Ob) (x1 : Int32) (x2 : Int32) (x3 : Int32) {r : Ob} (h : F37 o x1 x2 x3 = some r) : QTri l Z n0 ad 37 (0, qentry [.ref 1, .int x1, .int x2, .int x3] (pMaxL 37), [], (H0 s o)) (none : Option Value) (H0 s r) := by
 unfold F37 at h
 refine zS Ad W 1 (st' := (1, [vR 1, vI x1, vI x2, vI x3, none, none, none], [.int x3], (H0 s o))) rfl ?_
 have K474 : ∀ z473 : Int64, z473 = (if x3 = (0:Int32) then ((x2.toInt64) + ((f_fnArg o).toInt64)) else ((x2.toInt64) - ((f_fnArg o).toInt64))) → QTri l Z n0 ad 37 (23, [vR 1, vI x1, none, none, none, none, none], [.long z473], (H0 s o)) (none : Option Value) (H0 s r) := by
  intro z473 ez473
  subst ez473
  refine zS Ad W 4 (st' := (29, [vR 1, vI x1, none, none, some (.long (if x3 = (0:Int32) then ((x2.toInt64) + ((f_fnArg o).toInt64)) else ((x2.toInt64) - ((f_fnArg o).toInt64)))), none, none], [.int (XT.cmpL (if x3 = (0:Int32) then ((x2.toInt64) + ((f_fnArg o).toInt64)) else ((x2.toInt64) - ((f_fnArg o).toInt64))) (0 : Int64))], (H0 s o))) rfl ?_
  rcases qite h with ⟨hc476, h⟩ | ⟨hc476, h⟩
  ·refine zT Ad W (t := 45) (f := 32) rfl (XT.ll_lt_t hc476) ?_
   exact zM [tt,tt,ff,ff,ff,ff,ff] (tJ37_45 Ad W s o x1 h)
  ·refine zF Ad W (t := 45) (f := 32) rfl (XT.ll_lt_f hc476) ?_
   refine zS Ad W 7 (st' := (42, [vR 1, vI x1, none, none, some (.long (if x3 = (0:Int32) then ((x2.toInt64) + ((f_fnArg o).toInt64)) else ((x2.toInt64) - ((f_fnArg o).toInt64)))), none, none], [.int (XT.cmpL (if x3 = (0:Int32) then ((x2.toInt64) + ((f_fnArg o).toInt64)) else ((x2.toInt64) - ((f_fnArg o).toInt64))) (((f_sortedLen o).toInt64) - (1 : Int64)))], (H0 s o))) rfl ?_
   rcases qite h with ⟨hc478, h⟩ | ⟨hc478, h⟩
   ·refine zF Ad W (t := 53) (f := 45) rfl (XT.ll_le_f hc478) ?_
    exact zM [tt,tt,ff,ff,ff,ff,ff] (tJ37_45 Ad W s o x1 h)
   ·refine zT Ad W (t := 53) (f := 45) rfl (XT.ll_le_t hc478) ?_
    refine zS Ad W 4 (st' := (60, [vR 1, vI x1, none, none, some (.long (if x3 = (0:Int32) then ((x2.toInt64) + ((f_fnArg o).toInt64)) else ((x2.toInt64) - ((f_fnArg o).toInt64)))), none, none], [.int ((if x3 = (0:Int32) then ((x2.toInt64) + ((f_fnArg o).toInt64)) else ((x2.toInt64) - ((f_fnArg o).toInt64))).toInt32), .ref 9], (H0 s o))) rfl ?_
    obtain ⟨y479, hy479, h⟩ := bind_eq_some_iff.mp h
    refine zB Ad W (f := fun y479 => (61, [vR 1, vI x1, none, none, some (.long (if x3 = (0:Int32) then ((x2.toInt64) + ((f_fnArg o).toInt64)) else ((x2.toInt64) - ((f_fnArg o).toInt64)))), none, none], [.int y479], (H0 s o))) rfl hy479 ?_
    refine zS Ad W 3 (st' := (66, [vR 1, vI x1, none, none, some (.long (if x3 = (0:Int32) then ((x2.toInt64) + ((f_fnArg o).toInt64)) else ((x2.toInt64) - ((f_fnArg o).toInt64)))), none, vI y479], [.int y479, .ref 1], (H0 s o))) rfl ?_
    obtain ⟨r480, hr480, h⟩ := bind_eq_some_iff.mp h
    refine QTri.callP W (a := 1) (as := [.int y479]) (rest := []) (w := (some (.int r480))) (σ₁ := (H0 s o)) rfl rfl rfl rfl rfl rfl rfl rfl (tF26 Ad W s o y479 hr480) ?_
    rcases qite h with ⟨hc481, h⟩ | ⟨hc481, h⟩
    ·refine zT Ad W (t := 82) (f := 72) rfl (XT.i0_eq_t hc481) ?_
     refine zS Ad W 5 (st' := (90, [vR 1, vI x1, none, none, some (.long (if x3 = (0:Int32) then ((x2.toInt64) + ((f_fnArg o).toInt64)) else ((x2.toInt64) - ((f_fnArg o).toInt64)))), none, vI y479], [.int y479, .ref 4, .int x1, .ref 1], (H0 s o))) rfl ?_
     obtain ⟨y482, hy482, h⟩ := bind_eq_some_iff.mp h
     refine zB Ad W (f := fun y482 => (91, [vR 1, vI x1, none, none, some (.long (if x3 = (0:Int32) then ((x2.toInt64) + ((f_fnArg o).toInt64)) else ((x2.toInt64) - ((f_fnArg o).toInt64)))), none, vI y479], [.int y482, .int x1, .ref 1], (H0 s o))) rfl hy482 ?_
     refine zS Ad W 2 (st' := (93, [vR 1, vI x1, none, none, some (.long (if x3 = (0:Int32) then ((x2.toInt64) + ((f_fnArg o).toInt64)) else ((x2.toInt64) - ((f_fnArg o).toInt64)))), none, vI y479], [.int (0:Int32), .long (y482.toInt64), .int x1, .ref 1], (H0 s o))) rfl ?_
     obtain ⟨r483, hr483, h⟩ := bind_eq_some_iff.mp h
     refine QTri.callP W (a := 1) (as := [.int x1, .long (y482.toInt64), .int (0:Int32)]) (rest := []) (w := none) (σ₁ := (H0 s r483)) rfl rfl rfl rfl rfl rfl rfl rfl (tF28 Ad W s o x1 (y482.toInt64) (0:Int32) hr483) ?_
     obtain rfl := Option.some.inj h
     exact QTri.ret0 rfl rfl
    ·refine zF Ad W (t := 82) (f := 72) rfl (XT.i0_eq_f hc481) ?_
     refine zS Ad W 4 (st' := (76, [vR 1, vI x1, none, none, some (.long (if x3 = (0:Int32) then ((x2.toInt64) + ((f_fnArg o).toInt64)) else ((x2.toInt64) - ((f_fnArg o).toInt64)))), none, vI y479], [.int (1:Int32), .long (0 : Int64), .int x1, .ref 1], (H0 s o))) rfl ?_
     obtain ⟨r484, hr484, h⟩ := bind_eq_some_iff.mp h
     refine QTri.callP W (a := 1) (as := [.int x1, .long (0 : Int64), .int (1:Int32)]) (rest := []) (w := none) (σ₁ := (H0 s r484)) rfl rfl rfl rfl rfl rfl rfl rfl (tF28 Ad W s o x1 (0 : Int64) (1:Int32) hr484) ?_
     refine zS Ad W 1 (st' := (96, [vR 1, vI x1, none, none, some (.long (if x3 = (0:Int32) then ((x2.toInt64) + ((f_fnArg o).toInt64)) else ((x2.toInt64) - ((f_fnArg o).toInt64)))), none, vI y479], [], (H0 s r484))) rfl ?_
     obtain rfl := Option.some.inj h
     exact QTri.ret0 rfl rfl
 rcases em (x3 = (0:Int32)) with hc475 | hc475
 ·refine zT Ad W (t := 15) (f := 4) rfl (XT.i0_eq_t hc475) ?_
  refine zS Ad W 6 (st' := (23, [vR 1, vI x1, vI x2, vI x3, none, none, none], [.long ((x2.toInt64) + ((f_fnArg o).toInt64))], (H0 s o))) rfl ?_
  exact zM [tt,tt,ff,ff,ff,ff,ff] (K474 _ (if_pos hc475).symm)
 ·refine zF Ad W (t := 15) (f := 4) rfl (XT.i0_eq_f hc475) ?_
  refine zS Ad W 7 (st' := (23, [vR 1, vI x1, vI x2, vI x3, none, none, none], [.long ((x2.toInt64) - ((f_fnArg o).toInt64))], (H0 s o))) rfl ?_
  exact zM [tt,tt,ff,ff,ff,ff,ff] (K474 _ (if_neg hc475).symm)
/-- applyFunction(I)V -/
def F27 (o : Ob) (x1 : Int32) : Option (Ob) :=
 (if (f_fn o) = (0:Int32) then (F28 o x1 (f_aggSum o) (if (f_aggCount o) = (0:Int32) then (1:Int32) else (0:Int32))).bind fun r425 => some r425 else (if (f_fn o) = (1:Int32) then (F28 o x1 ((f_aggCount o).toInt64) (0:Int32)).bind fun r427 => some r427 else (if (f_fn o) = (2:Int32) then (F28 o x1 ((f_aggRows o).toInt64) (0:Int32)).bind fun r429 => some r429 else (if (f_fn o) = (3:Int32) then (F28 o x1 ((f_aggMin o).toInt64) (if (f_aggCount o) = (0:Int32) then (1:Int32) else (0:Int32))).bind fun r434 => some r434 else (if (f_fn o) = (4:Int32) then (F28 o x1 ((f_aggMax o).toInt64) (if (f_aggCount o) = (0:Int32) then (1:Int32) else (0:Int32))).bind fun r439 => some r439 else (if (f_fn o) = (5:Int32) then (F28 o x1 (((f_curPos o).toInt64) + (1 : Int64)) (0:Int32)).bind fun r441 => some r441 else (if (f_fn o) = (6:Int32) then (F33 o x1 (f_curPos o)).bind fun r452 => (F28 o x1 r452 (0:Int32)).bind fun r453 => some r453 else (if (f_fn o) = (7:Int32) then (F36 o x1 (f_curPos o)).bind fun r468 => (F28 o x1 r468 (0:Int32)).bind fun r469 => some r469 else (F37 o x1 (f_curPos o) (if (f_fn o) = (8:Int32) then (1:Int32) else (0:Int32))).bind fun r485 => some r485))))))))
theorem tF27 (Ad : QAd n0 ad) (W : QW Z a0) (s : List Int32) (o : Ob) (x1 : Int32) {r : Ob} (h : F27 o x1 = some r) : QTri l Z n0 ad 27 (0, qentry [.ref 1, .int x1] (pMaxL 27), [], (H0 s o)) (none : Option Value) (H0 s r) := by
 unfold F27 at h
 refine zS Ad W 5 (st' := (9, [vR 1, vI x1, vI (f_curPos o), none, none], [.int (f_fn o)], (H0 s o))) rfl ?_
 rcases qite h with ⟨hc415, h⟩ | ⟨hc415, h⟩
 ·refine zF Ad W (t := 36) (f := 12) rfl (XT.i0_ne_f hc415) ?_
  refine zS Ad W 6 (st' := (22, [vR 1, vI x1, vI (f_curPos o), none, none], [.int (f_aggCount o), .long (f_aggSum o), .int x1, .ref 1], (H0 s o))) rfl ?_
  have K417 : ∀ z416 : Int32, z416 = (if (f_aggCount o) = (0:Int32) then (1:Int32) else (0:Int32)) → QTri l Z n0 ad 27 (30, [none, none, none, none, none], [.int z416, .long (f_aggSum o), .int x1, .ref 1], (H0 s o)) (none : Option Value) (H0 s r) := by
   intro z416 ez416
   subst ez416
   obtain ⟨r425, hr425, h⟩ := bind_eq_some_iff.mp h
   refine QTri.callP W (a := 1) (as := [.int x1, .long (f_aggSum o), .int (if (f_aggCount o) = (0:Int32) then (1:Int32) else (0:Int32))]) (rest := []) (w := none) (σ₁ := (H0 s r425)) rfl rfl rfl rfl rfl rfl rfl rfl (tF28 Ad W s o x1 (f_aggSum o) (if (f_aggCount o) = (0:Int32) then (1:Int32) else (0:Int32)) hr425) ?_
   refine zS Ad W 1 (st' := (239, [none, none, none, none, none], [], (H0 s r425))) rfl ?_
   obtain rfl := Option.some.inj h
   exact QTri.ret0 rfl rfl
  rcases em ((f_aggCount o) = (0:Int32)) with hc418 | hc418
  ·refine zF Ad W (t := 29) (f := 25) rfl (XT.i0_ne_f hc418) ?_
   refine zS Ad W 2 (st' := (30, [vR 1, vI x1, vI (f_curPos o), none, none], [.int (1:Int32), .long (f_aggSum o), .int x1, .ref 1], (H0 s o))) rfl ?_
   exact zM [ff,ff,ff,ff,ff] (K417 _ (if_pos hc418).symm)
  ·refine zT Ad W (t := 29) (f := 25) rfl (XT.i0_ne_t hc418) ?_
   refine zS Ad W 1 (st' := (30, [vR 1, vI x1, vI (f_curPos o), none, none], [.int (0:Int32), .long (f_aggSum o), .int x1, .ref 1], (H0 s o))) rfl ?_
   exact zM [ff,ff,ff,ff,ff] (K417 _ (if_neg hc418).symm)
 ·refine zT Ad W (t := 36) (f := 12) rfl (XT.i0_ne_t hc415) ?_
  refine zS Ad W 3 (st' := (41, [vR 1, vI x1, vI (f_curPos o), none, none], [.int (1:Int32), .int (f_fn o)], (H0 s o))) rfl ?_
  rcases qite h with ⟨hc426, h⟩ | ⟨hc426, h⟩
  ·refine zF Ad W (t := 58) (f := 44) rfl (XT.ii_ne_f hc426) ?_
   refine zS Ad W 6 (st' := (52, [vR 1, vI x1, vI (f_curPos o), none, none], [.int (0:Int32), .long ((f_aggCount o).toInt64), .int x1, .ref 1], (H0 s o))) rfl ?_
   obtain ⟨r427, hr427, h⟩ := bind_eq_some_iff.mp h
   refine QTri.callP W (a := 1) (as := [.int x1, .long ((f_aggCount o).toInt64), .int (0:Int32)]) (rest := []) (w := none) (σ₁ := (H0 s r427)) rfl rfl rfl rfl rfl rfl rfl rfl (tF28 Ad W s o x1 ((f_aggCount o).toInt64) (0:Int32) hr427) ?_
   refine zS Ad W 1 (st' := (239, [vR 1, vI x1, vI (f_curPos o), none, none], [], (H0 s r427))) rfl ?_
   obtain rfl := Option.some.inj h
   exact QTri.ret0 rfl rfl
  ·refine zT Ad W (t := 58) (f := 44) rfl (XT.ii_ne_t hc426) ?_
   refine zS Ad W 3 (st' := (63, [vR 1, vI x1, vI (f_curPos o), none, none], [.int (2:Int32), .int (f_fn o)], (H0 s o))) rfl ?_
   rcases qite h with ⟨hc428, h⟩ | ⟨hc428, h⟩
   ·refine zF Ad W (t := 80) (f := 66) rfl (XT.ii_ne_f hc428) ?_
    refine zS Ad W 6 (st' := (74, [vR 1, vI x1, vI (f_curPos o), none, none], [.int (0:Int32), .long ((f_aggRows o).toInt64), .int x1, .ref 1], (H0 s o))) rfl ?_
    obtain ⟨r429, hr429, h⟩ := bind_eq_some_iff.mp h
    refine QTri.callP W (a := 1) (as := [.int x1, .long ((f_aggRows o).toInt64), .int (0:Int32)]) (rest := []) (w := none) (σ₁ := (H0 s r429)) rfl rfl rfl rfl rfl rfl rfl rfl (tF28 Ad W s o x1 ((f_aggRows o).toInt64) (0:Int32) hr429) ?_
    refine zS Ad W 1 (st' := (239, [vR 1, vI x1, vI (f_curPos o), none, none], [], (H0 s r429))) rfl ?_
    obtain rfl := Option.some.inj h
    exact QTri.ret0 rfl rfl
   ·refine zT Ad W (t := 80) (f := 66) rfl (XT.ii_ne_t hc428) ?_
    refine zS Ad W 3 (st' := (85, [vR 1, vI x1, vI (f_curPos o), none, none], [.int (3:Int32), .int (f_fn o)], (H0 s o))) rfl ?_
    rcases qite h with ⟨hc430, h⟩ | ⟨hc430, h⟩
    ·refine zF Ad W (t := 113) (f := 88) rfl (XT.ii_ne_f hc430) ?_
     refine zS Ad W 7 (st' := (99, [vR 1, vI x1, vI (f_curPos o), none, none], [.int (f_aggCount o), .long ((f_aggMin o).toInt64), .int x1, .ref 1], (H0 s o))) rfl ?_
     have K432 : ∀ z431 : Int32, z431 = (if (f_aggCount o) = (0:Int32) then (1:Int32) else (0:Int32)) → QTri l Z n0 ad 27 (107, [none, none, none, none, none], [.int z431, .long ((f_aggMin o).toInt64), .int x1, .ref 1], (H0 s o)) (none : Option Value) (H0 s r) := by
      intro z431 ez431
      subst ez431
      obtain ⟨r434, hr434, h⟩ := bind_eq_some_iff.mp h
      refine QTri.callP W (a := 1) (as := [.int x1, .long ((f_aggMin o).toInt64), .int (if (f_aggCount o) = (0:Int32) then (1:Int32) else (0:Int32))]) (rest := []) (w := none) (σ₁ := (H0 s r434)) rfl rfl rfl rfl rfl rfl rfl rfl (tF28 Ad W s o x1 ((f_aggMin o).toInt64) (if (f_aggCount o) = (0:Int32) then (1:Int32) else (0:Int32)) hr434) ?_
      refine zS Ad W 1 (st' := (239, [none, none, none, none, none], [], (H0 s r434))) rfl ?_
      obtain rfl := Option.some.inj h
      exact QTri.ret0 rfl rfl
     rcases em ((f_aggCount o) = (0:Int32)) with hc433 | hc433
     ·refine zF Ad W (t := 106) (f := 102) rfl (XT.i0_ne_f hc433) ?_
      refine zS Ad W 2 (st' := (107, [vR 1, vI x1, vI (f_curPos o), none, none], [.int (1:Int32), .long ((f_aggMin o).toInt64), .int x1, .ref 1], (H0 s o))) rfl ?_
      exact zM [ff,ff,ff,ff,ff] (K432 _ (if_pos hc433).symm)
     ·refine zT Ad W (t := 106) (f := 102) rfl (XT.i0_ne_t hc433) ?_
      refine zS Ad W 1 (st' := (107, [vR 1, vI x1, vI (f_curPos o), none, none], [.int (0:Int32), .long ((f_aggMin o).toInt64), .int x1, .ref 1], (H0 s o))) rfl ?_
      exact zM [ff,ff,ff,ff,ff] (K432 _ (if_neg hc433).symm)
    ·refine zT Ad W (t := 113) (f := 88) rfl (XT.ii_ne_t hc430) ?_
     refine zS Ad W 3 (st' := (118, [vR 1, vI x1, vI (f_curPos o), none, none], [.int (4:Int32), .int (f_fn o)], (H0 s o))) rfl ?_
     rcases qite h with ⟨hc435, h⟩ | ⟨hc435, h⟩
     ·refine zF Ad W (t := 146) (f := 121) rfl (XT.ii_ne_f hc435) ?_
      refine zS Ad W 7 (st' := (132, [vR 1, vI x1, vI (f_curPos o), none, none], [.int (f_aggCount o), .long ((f_aggMax o).toInt64), .int x1, .ref 1], (H0 s o))) rfl ?_
      have K437 : ∀ z436 : Int32, z436 = (if (f_aggCount o) = (0:Int32) then (1:Int32) else (0:Int32)) → QTri l Z n0 ad 27 (140, [none, none, none, none, none], [.int z436, .long ((f_aggMax o).toInt64), .int x1, .ref 1], (H0 s o)) (none : Option Value) (H0 s r) := by
       intro z436 ez436
       subst ez436
       obtain ⟨r439, hr439, h⟩ := bind_eq_some_iff.mp h
       refine QTri.callP W (a := 1) (as := [.int x1, .long ((f_aggMax o).toInt64), .int (if (f_aggCount o) = (0:Int32) then (1:Int32) else (0:Int32))]) (rest := []) (w := none) (σ₁ := (H0 s r439)) rfl rfl rfl rfl rfl rfl rfl rfl (tF28 Ad W s o x1 ((f_aggMax o).toInt64) (if (f_aggCount o) = (0:Int32) then (1:Int32) else (0:Int32)) hr439) ?_
       refine zS Ad W 1 (st' := (239, [none, none, none, none, none], [], (H0 s r439))) rfl ?_
       obtain rfl := Option.some.inj h
       exact QTri.ret0 rfl rfl
      rcases em ((f_aggCount o) = (0:Int32)) with hc438 | hc438
      ·refine zF Ad W (t := 139) (f := 135) rfl (XT.i0_ne_f hc438) ?_
       refine zS Ad W 2 (st' := (140, [vR 1, vI x1, vI (f_curPos o), none, none], [.int (1:Int32), .long ((f_aggMax o).toInt64), .int x1, .ref 1], (H0 s o))) rfl ?_
       exact zM [ff,ff,ff,ff,ff] (K437 _ (if_pos hc438).symm)
      ·refine zT Ad W (t := 139) (f := 135) rfl (XT.i0_ne_t hc438) ?_
       refine zS Ad W 1 (st' := (140, [vR 1, vI x1, vI (f_curPos o), none, none], [.int (0:Int32), .long ((f_aggMax o).toInt64), .int x1, .ref 1], (H0 s o))) rfl ?_
       exact zM [ff,ff,ff,ff,ff] (K437 _ (if_neg hc438).symm)
     ·refine zT Ad W (t := 146) (f := 121) rfl (XT.ii_ne_t hc435) ?_
      refine zS Ad W 3 (st' := (151, [vR 1, vI x1, vI (f_curPos o), none, none], [.int (5:Int32), .int (f_fn o)], (H0 s o))) rfl ?_
      rcases qite h with ⟨hc440, h⟩ | ⟨hc440, h⟩
      ·refine zF Ad W (t := 167) (f := 154) rfl (XT.ii_ne_f hc440) ?_
       refine zS Ad W 7 (st' := (161, [vR 1, vI x1, vI (f_curPos o), none, none], [.int (0:Int32), .long (((f_curPos o).toInt64) + (1 : Int64)), .int x1, .ref 1], (H0 s o))) rfl ?_
       obtain ⟨r441, hr441, h⟩ := bind_eq_some_iff.mp h
       refine QTri.callP W (a := 1) (as := [.int x1, .long (((f_curPos o).toInt64) + (1 : Int64)), .int (0:Int32)]) (rest := []) (w := none) (σ₁ := (H0 s r441)) rfl rfl rfl rfl rfl rfl rfl rfl (tF28 Ad W s o x1 (((f_curPos o).toInt64) + (1 : Int64)) (0:Int32) hr441) ?_
       refine zS Ad W 1 (st' := (239, [vR 1, vI x1, vI (f_curPos o), none, none], [], (H0 s r441))) rfl ?_
       obtain rfl := Option.some.inj h
       exact QTri.ret0 rfl rfl
      ·refine zT Ad W (t := 167) (f := 154) rfl (XT.ii_ne_t hc440) ?_
       refine zS Ad W 3 (st' := (173, [vR 1, vI x1, vI (f_curPos o), none, none], [.int (6:Int32), .int (f_fn o)], (H0 s o))) rfl ?_
       rcases qite h with ⟨hc442, h⟩ | ⟨hc442, h⟩
       ·refine zF Ad W (t := 193) (f := 176) rfl (XT.ii_ne_f hc442) ?_
        refine zS Ad W 3 (st' := (179, [vR 1, vI x1, vI (f_curPos o), none, none], [.int (f_curPos o), .int x1, .ref 1], (H0 s o))) rfl ?_
        obtain ⟨r452, hr452, h⟩ := bind_eq_some_iff.mp h
        refine QTri.callP W (a := 1) (as := [.int x1, .int (f_curPos o)]) (rest := []) (w := (some (.long r452))) (σ₁ := (H0 s o)) rfl rfl rfl rfl rfl rfl rfl rfl (tF33 Ad W s o x1 (f_curPos o) hr452) ?_
        refine zS Ad W 5 (st' := (187, [vR 1, vI x1, vI (f_curPos o), some (.long r452), none], [.int (0:Int32), .long r452, .int x1, .ref 1], (H0 s o))) rfl ?_
        obtain ⟨r453, hr453, h⟩ := bind_eq_some_iff.mp h
        refine QTri.callP W (a := 1) (as := [.int x1, .long r452, .int (0:Int32)]) (rest := []) (w := none) (σ₁ := (H0 s r453)) rfl rfl rfl rfl rfl rfl rfl rfl (tF28 Ad W s o x1 r452 (0:Int32) hr453) ?_
        refine zS Ad W 1 (st' := (239, [vR 1, vI x1, vI (f_curPos o), some (.long r452), none], [], (H0 s r453))) rfl ?_
        obtain rfl := Option.some.inj h
        exact QTri.ret0 rfl rfl
       ·refine zT Ad W (t := 193) (f := 176) rfl (XT.ii_ne_t hc442) ?_
        refine zS Ad W 3 (st' := (199, [vR 1, vI x1, vI (f_curPos o), none, none], [.int (7:Int32), .int (f_fn o)], (H0 s o))) rfl ?_
        rcases qite h with ⟨hc454, h⟩ | ⟨hc454, h⟩
        ·refine zF Ad W (t := 219) (f := 202) rfl (XT.ii_ne_f hc454) ?_
         refine zS Ad W 3 (st' := (205, [vR 1, vI x1, vI (f_curPos o), none, none], [.int (f_curPos o), .int x1, .ref 1], (H0 s o))) rfl ?_
         obtain ⟨r468, hr468, h⟩ := bind_eq_some_iff.mp h
         refine QTri.callP W (a := 1) (as := [.int x1, .int (f_curPos o)]) (rest := []) (w := (some (.long r468))) (σ₁ := (H0 s o)) rfl rfl rfl rfl rfl rfl rfl rfl (tF36 Ad W s o x1 (f_curPos o) hr468) ?_
         refine zS Ad W 5 (st' := (213, [vR 1, vI x1, vI (f_curPos o), some (.long r468), none], [.int (0:Int32), .long r468, .int x1, .ref 1], (H0 s o))) rfl ?_
         obtain ⟨r469, hr469, h⟩ := bind_eq_some_iff.mp h
         refine QTri.callP W (a := 1) (as := [.int x1, .long r468, .int (0:Int32)]) (rest := []) (w := none) (σ₁ := (H0 s r469)) rfl rfl rfl rfl rfl rfl rfl rfl (tF28 Ad W s o x1 r468 (0:Int32) hr469) ?_
         refine zS Ad W 1 (st' := (239, [vR 1, vI x1, vI (f_curPos o), some (.long r468), none], [], (H0 s r469))) rfl ?_
         obtain rfl := Option.some.inj h
         exact QTri.ret0 rfl rfl
        ·refine zT Ad W (t := 219) (f := 202) rfl (XT.ii_ne_t hc454) ?_
         refine zS Ad W 6 (st' := (228, [vR 1, vI x1, vI (f_curPos o), none, none], [.int (8:Int32), .int (f_fn o), .int (f_curPos o), .int x1, .ref 1], (H0 s o))) rfl ?_
         have K471 : ∀ z470 : Int32, z470 = (if (f_fn o) = (8:Int32) then (1:Int32) else (0:Int32)) → QTri l Z n0 ad 27 (236, [none, none, none, none, none], [.int z470, .int (f_curPos o), .int x1, .ref 1], (H0 s o)) (none : Option Value) (H0 s r) := by
          intro z470 ez470
          subst ez470
          obtain ⟨r485, hr485, h⟩ := bind_eq_some_iff.mp h
          refine QTri.callP W (a := 1) (as := [.int x1, .int (f_curPos o), .int (if (f_fn o) = (8:Int32) then (1:Int32) else (0:Int32))]) (rest := []) (w := none) (σ₁ := (H0 s r485)) rfl rfl rfl rfl rfl rfl rfl rfl (tF37 Ad W s o x1 (f_curPos o) (if (f_fn o) = (8:Int32) then (1:Int32) else (0:Int32)) hr485) ?_
          obtain rfl := Option.some.inj h
          exact QTri.ret0 rfl rfl
         rcases em ((f_fn o) = (8:Int32)) with hc472 | hc472
         ·refine zF Ad W (t := 235) (f := 231) rfl (XT.ii_ne_f hc472) ?_
          refine zS Ad W 2 (st' := (236, [vR 1, vI x1, vI (f_curPos o), none, none], [.int (1:Int32), .int (f_curPos o), .int x1, .ref 1], (H0 s o))) rfl ?_
          exact zM [ff,ff,ff,ff,ff] (K471 _ (if_pos hc472).symm)
         ·refine zT Ad W (t := 235) (f := 231) rfl (XT.ii_ne_t hc472) ?_
          refine zS Ad W 1 (st' := (236, [vR 1, vI x1, vI (f_curPos o), none, none], [.int (0:Int32), .int (f_curPos o), .int x1, .ref 1], (H0 s o))) rfl ?_
          exact zM [ff,ff,ff,ff,ff] (K471 _ (if_neg hc472).symm)
/-- computeRow(I)V -/
def F17 (o : Ob) (x1 : Int32) : Option (Ob) :=
 (F18 o x1).bind fun r320 => (F21 r320 x1).bind fun r412 => (aset (f_frameCnt r412) x1 (f_aggRows r412)).bind fun y413 => (F27 (s_frameCnt r412 y413) x1).bind fun r486 => some r486
theorem tF17 (Ad : QAd n0 ad) (W : QW Z a0) (s : List Int32) (o : Ob) (x1 : Int32) {r : Ob} (h : F17 o x1 = some r) : QTri l Z n0 ad 17 (0, qentry [.ref 1, .int x1] (pMaxL 17), [], (H0 s o)) (none : Option Value) (H0 s r) := by
 unfold F17 at h
 refine zS Ad W 2 (st' := (2, [vR 1, vI x1], [.int x1, .ref 1], (H0 s o))) rfl ?_
 obtain ⟨r320, hr320, h⟩ := bind_eq_some_iff.mp h
 refine QTri.callP W (a := 1) (as := [.int x1]) (rest := []) (w := none) (σ₁ := (H0 s r320)) rfl rfl rfl rfl rfl rfl rfl rfl (tF18 Ad W s o x1 hr320) ?_
 refine zS Ad W 2 (st' := (7, [vR 1, vI x1], [.int x1, .ref 1], (H0 s r320))) rfl ?_
 obtain ⟨r412, hr412, h⟩ := bind_eq_some_iff.mp h
 refine QTri.callP W (a := 1) (as := [.int x1]) (rest := []) (w := none) (σ₁ := (H0 s r412)) rfl rfl rfl rfl rfl rfl rfl rfl (tF21 Ad W s r320 x1 hr412) ?_
 refine zS Ad W 5 (st' := (19, [vR 1, vI x1], [.int (f_aggRows r412), .int x1, .ref 8], (H0 s r412))) rfl ?_
 obtain ⟨y413, hy413, h⟩ := bind_eq_some_iff.mp h
 refine zB Ad W (f := fun y413 => (20, [vR 1, vI x1], [], (H0x40 s r412 y413))) rfl hy413 ?_
 refine zS Ad W 2 (st' := (22, [vR 1, vI x1], [.int x1, .ref 1], (H0x40 s r412 y413))) rfl ?_
 have E414 : ((H0x40 s r412 y413) : QHeap) = (H0 s (s_frameCnt r412 y413)) := by simp only [fs, H0, H0v, H0x40, s_frameCnt]
 rw [E414]
 obtain ⟨r486, hr486, h⟩ := bind_eq_some_iff.mp h
 refine QTri.callP W (a := 1) (as := [.int x1]) (rest := []) (w := none) (σ₁ := (H0 s r486)) rfl rfl rfl rfl rfl rfl rfl rfl (tF27 Ad W s (s_frameCnt r412 y413) x1 hr486) ?_
 obtain rfl := Option.some.inj h
 exact QTri.ret0 rfl rfl
def B13_11 (v : Int32 × Ob) : Option (((Int32 × Ob)) ⊕ (Int32 × Ob)) :=
  (if v.1 < (f_rows v.2) then (F17 v.2 v.1).bind fun r487 => some (.inr ((v.1 + (1 : Int32)), r487)) else some (.inl ((0 : Int32), (s_computed v.2 (1 : Int32)))))
theorem tB13_11 (Ad : QAd n0 ad) (W : QW Z a0) (s : List Int32) (v : Int32 × Ob) {r : ((Int32 × Ob)) ⊕ (Int32 × Ob)} {u : Option Value} {τ : QHeap} (h : B13_11 v = some r) (hx0 : ∀ x : Int32 × Ob, r = .inl x → u = (some (Value.int x.1)) ∧ τ = (H0 s x.2)) (hc : ∀ x : Int32 × Ob, r = .inr x → QTri l Z n0 ad 13 (11, [vR 1, vI x.1], [], (H0 s x.2)) u τ) : QTri l Z n0 ad 13 (11, [vR 1, vI v.1], [], (H0 s v.2)) u τ := by
 unfold B13_11 at h
 refine zS Ad W 3 (st' := (16, [vR 1, vI v.1], [.int (f_rows v.2), .int v.1], (H0 s v.2))) rfl ?_
 rcases qite h with ⟨hc271, h⟩ | ⟨hc271, h⟩
 ·refine zF Ad W (t := 30) (f := 19) rfl (XT.ii_ge_f hc271) ?_
  refine zS Ad W 2 (st' := (21, [vR 1, vI v.1], [.int v.1, .ref 1], (H0 s v.2))) rfl ?_
  obtain ⟨r487, hr487, h⟩ := bind_eq_some_iff.mp h
  refine QTri.callP W (a := 1) (as := [.int v.1]) (rest := []) (w := none) (σ₁ := (H0 s r487)) rfl rfl rfl rfl rfl rfl rfl rfl (tF17 Ad W s v.2 v.1 hr487) ?_
  refine zS Ad W 2 (st' := (11, [vR 1, vI (v.1 + (1:Int32))], [], (H0 s r487))) rfl ?_
  obtain rfl := Option.some.inj h
  exact zM [tt,tt] (hc ((v.1 + (1:Int32)), r487) rfl)
 ·refine zT Ad W (t := 30) (f := 19) rfl (XT.ii_ge_t hc271) ?_
  refine zS Ad W 3 (st' := (35, [vR 1, vI v.1], [], (H0x12 s v.2 (1:Int32)))) rfl ?_
  refine zS Ad W 1 (st' := (36, [vR 1, vI v.1], [.int (0:Int32)], (H0x12 s v.2 (1:Int32)))) rfl ?_
  have E488 : ((H0x12 s v.2 (1:Int32)) : QHeap) = (H0 s (s_computed v.2 (1:Int32))) := by simp only [fs, H0, H0v, H0x12, s_computed]
  rw [E488]
  obtain rfl := Option.some.inj h
  obtain ⟨rfl, rfl⟩ := hx0 ((0:Int32), (s_computed v.2 (1:Int32))) rfl
  exact QTri.retI rfl rfl
/-- compute()I -/
def F13 (o : Ob) : Option (Int32 × Ob) :=
 (F14 o).bind fun r269 => (if r269 = (0:Int32) then (loopN (B13_11) qN ((0:Int32), o)).bind fun e489 => some e489 else some ((-1:Int32), o))
theorem tF13 (Ad : QAd n0 ad) (W : QW Z a0) (s : List Int32) (o : Ob) {r : Int32 × Ob} (h : F13 o = some r) : QTri l Z n0 ad 13 (0, qentry [.ref 1] (pMaxL 13), [], (H0 s o)) (some (Value.int r.1)) (H0 s r.2) := by
 unfold F13 at h
 refine zS Ad W 1 (st' := (1, [vR 1, none], [.ref 1], (H0 s o))) rfl ?_
 obtain ⟨r269, hr269, h⟩ := bind_eq_some_iff.mp h
 refine QTri.callP W (a := 1) (as := []) (rest := []) (w := (some (.int r269))) (σ₁ := (H0 s o)) rfl rfl rfl rfl rfl rfl rfl rfl (tF14 Ad W s o hr269) ?_
 rcases qite h with ⟨hc270, h⟩ | ⟨hc270, h⟩
 ·refine zT Ad W (t := 9) (f := 7) rfl (XT.i0_eq_t hc270) ?_
  refine zS Ad W 2 (st' := (11, [vR 1, vI (0:Int32)], [], (H0 s o))) rfl ?_
  obtain ⟨e489, he489, h⟩ := bind_eq_some_iff.mp h
  refine zM [tt,tt] (loopN_tri (B := B13_11) (T := fun lv490 => QTri l Z n0 ad 13 (11, [vR 1, vI lv490.1], [], (H0 s lv490.2)) (some (Value.int r.1)) (H0 s r.2)) (KE := fun e489a => (some (Value.int r.1)) = (some (Value.int e489a.1)) ∧ (H0 s r.2) = (H0 s e489a.2)) (fun lv490 r hB hE hC => tB13_11 Ad W s lv490 hB (fun x q => hE _ q) (fun x q => hC x q)) qN ((0:Int32), o) e489 he489 ?_)
  obtain rfl := Option.some.inj h
  exact ⟨rfl, rfl⟩
 ·refine zF Ad W (t := 9) (f := 7) rfl (XT.i0_eq_f hc270) ?_
  refine zS Ad W 1 (st' := (8, [vR 1, none], [.int (-1:Int32)], (H0 s o))) rfl ?_
  obtain rfl := Option.some.inj h
  exact QTri.retI rfl rfl
def H0x43 (s : List Int32) (o0 : Ob) (a0_0 : List Int32) : QHeap := H0v s a0_0 (f_keys o0) (f_vals o0) (f_flg o0) (f_res o0) (f_resNull o0) (f_frameCnt o0) (f_sorted o0) (f_cap o0) (f_rows o0) (f_direction o0) (f_nulls o0) (f_mode o0) (f_startKind o0) (f_startOff o0) (f_endKind o0) (f_endOff o0) (f_fn o0) (f_fnArg o0) (f_computed o0) (f_sortedLen o0) (f_curPos o0) (f_aggSum o0) (f_aggCount o0) (f_aggRows o0) (f_aggMin o0) (f_aggMax o0)
def H0x44 (s : List Int32) (o0 : Ob) (a0_0 : List Int32) (a0_1 : List Int32) : QHeap := H0v s a0_0 a0_1 (f_vals o0) (f_flg o0) (f_res o0) (f_resNull o0) (f_frameCnt o0) (f_sorted o0) (f_cap o0) (f_rows o0) (f_direction o0) (f_nulls o0) (f_mode o0) (f_startKind o0) (f_startOff o0) (f_endKind o0) (f_endOff o0) (f_fn o0) (f_fnArg o0) (f_computed o0) (f_sortedLen o0) (f_curPos o0) (f_aggSum o0) (f_aggCount o0) (f_aggRows o0) (f_aggMin o0) (f_aggMax o0)
def H0x45 (s : List Int32) (o0 : Ob) (a0_0 : List Int32) (a0_1 : List Int32) (a0_2 : List Int32) : QHeap := H0v s a0_0 a0_1 a0_2 (f_flg o0) (f_res o0) (f_resNull o0) (f_frameCnt o0) (f_sorted o0) (f_cap o0) (f_rows o0) (f_direction o0) (f_nulls o0) (f_mode o0) (f_startKind o0) (f_startOff o0) (f_endKind o0) (f_endOff o0) (f_fn o0) (f_fnArg o0) (f_computed o0) (f_sortedLen o0) (f_curPos o0) (f_aggSum o0) (f_aggCount o0) (f_aggRows o0) (f_aggMin o0) (f_aggMax o0)
def H0x46 (s : List Int32) (o0 : Ob) (a0_0 : List Int32) (a0_1 : List Int32) (a0_2 : List Int32) (a0_3 : List Int32) : QHeap := H0v s a0_0 a0_1 a0_2 a0_3 (f_res o0) (f_resNull o0) (f_frameCnt o0) (f_sorted o0) (f_cap o0) (f_rows o0) (f_direction o0) (f_nulls o0) (f_mode o0) (f_startKind o0) (f_startOff o0) (f_endKind o0) (f_endOff o0) (f_fn o0) (f_fnArg o0) (f_computed o0) (f_sortedLen o0) (f_curPos o0) (f_aggSum o0) (f_aggCount o0) (f_aggRows o0) (f_aggMin o0) (f_aggMax o0)
def H0x47 (s : List Int32) (o0 : Ob) (a0_0 : List Int32) (a0_1 : List Int32) (a0_2 : List Int32) (a0_3 : List Int32) (a0_9 : Int32) : QHeap := H0v s a0_0 a0_1 a0_2 a0_3 (f_res o0) (f_resNull o0) (f_frameCnt o0) (f_sorted o0) (f_cap o0) a0_9 (f_direction o0) (f_nulls o0) (f_mode o0) (f_startKind o0) (f_startOff o0) (f_endKind o0) (f_endOff o0) (f_fn o0) (f_fnArg o0) (f_computed o0) (f_sortedLen o0) (f_curPos o0) (f_aggSum o0) (f_aggCount o0) (f_aggRows o0) (f_aggMin o0) (f_aggMax o0)
def H0x48 (s : List Int32) (o0 : Ob) (a0_0 : List Int32) (a0_1 : List Int32) (a0_2 : List Int32) (a0_3 : List Int32) (a0_9 : Int32) (a0_19 : Int32) : QHeap := H0v s a0_0 a0_1 a0_2 a0_3 (f_res o0) (f_resNull o0) (f_frameCnt o0) (f_sorted o0) (f_cap o0) a0_9 (f_direction o0) (f_nulls o0) (f_mode o0) (f_startKind o0) (f_startOff o0) (f_endKind o0) (f_endOff o0) (f_fn o0) (f_fnArg o0) a0_19 (f_sortedLen o0) (f_curPos o0) (f_aggSum o0) (f_aggCount o0) (f_aggRows o0) (f_aggMin o0) (f_aggMax o0)
/-- addRow(IIII)I -/
def F3 (o : Ob) (x1 : Int32) (x2 : Int32) (x3 : Int32) (x4 : Int32) : Option (Int32 × Ob) :=
 (if x4 < (0:Int32) then some ((-1:Int32), o) else (if (3:Int32) < x4 then some ((-1:Int32), o) else (if (f_rows o) < (f_cap o) then (aset (f_part o) (f_rows o) x1).bind fun y503 => (aset (f_keys o) (f_rows o) (if (x4 &&& (1:Int32)) = (0:Int32) then x2 else (0:Int32))).bind fun y507 => (aset (f_vals o) (f_rows o) (if (x4 &&& (2:Int32)) = (0:Int32) then x3 else (0:Int32))).bind fun y511 => (aset (f_flg o) (f_rows o) x4).bind fun y512 => some ((f_rows o), (s_computed (s_rows (s_flg (s_vals (s_keys (s_part o y503) y507) y511) y512) ((f_rows o) + (1:Int32))) (0:Int32))) else some ((-1:Int32), o))))
theorem tF3 (Ad : QAd n0 ad) (W : QW Z a0) (s : List Int32) (o : Ob) (x1 : Int32) (x2 : Int32) (x3 : Int32) (x4 : Int32) {r : Int32 × Ob} (h : F3 o x1 x2 x3 x4 = some r) : QTri l Z n0 ad 3 (0, qentry [.ref 1, .int x1, .int x2, .int x3, .int x4] (pMaxL 3), [], (H0 s o)) (some (Value.int r.1)) (H0 s r.2) := by
 unfold F3 at h
 refine zS Ad W 1 (st' := (2, [vR 1, vI x1, vI x2, vI x3, vI x4, none], [.int x4], (H0 s o))) rfl ?_
 rcases qite h with ⟨hc500, h⟩ | ⟨hc500, h⟩
 ·refine zT Ad W (t := 11) (f := 5) rfl (XT.i0_lt_t hc500) ?_
  refine zS Ad W 1 (st' := (12, [vR 1, vI x1, vI x2, vI x3, vI x4, none], [.int (-1:Int32)], (H0 s o))) rfl ?_
  obtain rfl := Option.some.inj h
  exact QTri.retI rfl rfl
 ·refine zF Ad W (t := 11) (f := 5) rfl (XT.i0_lt_f hc500) ?_
  refine zS Ad W 2 (st' := (8, [vR 1, vI x1, vI x2, vI x3, vI x4, none], [.int (3:Int32), .int x4], (H0 s o))) rfl ?_
  rcases qite h with ⟨hc501, h⟩ | ⟨hc501, h⟩
  ·refine zF Ad W (t := 13) (f := 11) rfl (XT.ii_le_f hc501) ?_
   refine zS Ad W 1 (st' := (12, [vR 1, vI x1, vI x2, vI x3, vI x4, none], [.int (-1:Int32)], (H0 s o))) rfl ?_
   obtain rfl := Option.some.inj h
   exact QTri.retI rfl rfl
  ·refine zT Ad W (t := 13) (f := 11) rfl (XT.ii_le_t hc501) ?_
   refine zS Ad W 4 (st' := (21, [vR 1, vI x1, vI x2, vI x3, vI x4, none], [.int (f_cap o), .int (f_rows o)], (H0 s o))) rfl ?_
   rcases qite h with ⟨hc502, h⟩ | ⟨hc502, h⟩
   ·refine zT Ad W (t := 26) (f := 24) rfl (XT.ii_lt_t hc502) ?_
    refine zS Ad W 7 (st' := (39, [vR 1, vI x1, vI x2, vI x3, vI x4, vI (f_rows o)], [.int x1, .int (f_rows o), .ref 2], (H0 s o))) rfl ?_
    obtain ⟨y503, hy503, h⟩ := bind_eq_some_iff.mp h
    refine zB Ad W (f := fun y503 => (40, [vR 1, vI x1, vI x2, vI x3, vI x4, vI (f_rows o)], [], (H0x43 s o y503))) rfl hy503 ?_
    refine zS Ad W 6 (st' := (50, [vR 1, vI x1, vI x2, vI x3, vI x4, vI (f_rows o)], [.int (x4 &&& (1:Int32)), .int (f_rows o), .ref 3], (H0x43 s o y503))) rfl ?_
    have K505 : ∀ z504 : Int32, z504 = (if (x4 &&& (1:Int32)) = (0:Int32) then x2 else (0:Int32)) → QTri l Z n0 ad 3 (58, [vR 1, none, none, vI x3, vI x4, vI (f_rows o)], [.int z504, .int (f_rows o), .ref 3], (H0x43 s o y503)) (some (Value.int r.1)) (H0 s r.2) := by
     intro z504 ez504
     subst ez504
     obtain ⟨y507, hy507, h⟩ := bind_eq_some_iff.mp h
     refine zB Ad W (f := fun y507 => (59, [vR 1, none, none, vI x3, vI x4, vI (f_rows o)], [], (H0x44 s o y503 y507))) rfl hy507 ?_
     refine zS Ad W 6 (st' := (69, [vR 1, none, none, vI x3, vI x4, vI (f_rows o)], [.int (x4 &&& (2:Int32)), .int (f_rows o), .ref 4], (H0x44 s o y503 y507))) rfl ?_
     have K509 : ∀ z508 : Int32, z508 = (if (x4 &&& (2:Int32)) = (0:Int32) then x3 else (0:Int32)) → QTri l Z n0 ad 3 (77, [vR 1, none, none, none, vI x4, vI (f_rows o)], [.int z508, .int (f_rows o), .ref 4], (H0x44 s o y503 y507)) (some (Value.int r.1)) (H0 s r.2) := by
      intro z508 ez508
      subst ez508
      obtain ⟨y511, hy511, h⟩ := bind_eq_some_iff.mp h
      refine zB Ad W (f := fun y511 => (78, [vR 1, none, none, none, vI x4, vI (f_rows o)], [], (H0x45 s o y503 y507 y511))) rfl hy511 ?_
      refine zS Ad W 4 (st' := (86, [vR 1, none, none, none, vI x4, vI (f_rows o)], [.int x4, .int (f_rows o), .ref 5], (H0x45 s o y503 y507 y511))) rfl ?_
      obtain ⟨y512, hy512, h⟩ := bind_eq_some_iff.mp h
      refine zB Ad W (f := fun y512 => (87, [vR 1, none, none, none, vI x4, vI (f_rows o)], [], (H0x46 s o y503 y507 y511 y512))) rfl hy512 ?_
      refine zS Ad W 5 (st' := (95, [vR 1, none, none, none, vI x4, vI (f_rows o)], [], (H0x47 s o y503 y507 y511 y512 ((f_rows o) + (1:Int32))))) rfl ?_
      refine zS Ad W 3 (st' := (100, [vR 1, none, none, none, vI x4, vI (f_rows o)], [], (H0x48 s o y503 y507 y511 y512 ((f_rows o) + (1:Int32)) (0:Int32)))) rfl ?_
      refine zS Ad W 1 (st' := (102, [vR 1, none, none, none, vI x4, vI (f_rows o)], [.int (f_rows o)], (H0x48 s o y503 y507 y511 y512 ((f_rows o) + (1:Int32)) (0:Int32)))) rfl ?_
      have E513 : ((H0x48 s o y503 y507 y511 y512 ((f_rows o) + (1:Int32)) (0:Int32)) : QHeap) = (H0 s (s_computed (s_rows (s_flg (s_vals (s_keys (s_part o y503) y507) y511) y512) ((f_rows o) + (1:Int32))) (0:Int32))) := by simp only [fs, H0, H0v, H0x48, s_part, s_keys, s_vals, s_flg, s_rows, s_computed]
      rw [E513]
      obtain rfl := Option.some.inj h
      exact QTri.retI rfl rfl
     rcases em ((x4 &&& (2:Int32)) = (0:Int32)) with hc510 | hc510
     ·refine zT Ad W (t := 76) (f := 72) rfl (XT.i0_eq_t hc510) ?_
      refine zS Ad W 1 (st' := (77, [vR 1, none, none, vI x3, vI x4, vI (f_rows o)], [.int x3, .int (f_rows o), .ref 4], (H0x44 s o y503 y507))) rfl ?_
      exact zM [tt,ff,ff,ff,tt,tt] (K509 _ (if_pos hc510).symm)
     ·refine zF Ad W (t := 76) (f := 72) rfl (XT.i0_eq_f hc510) ?_
      refine zS Ad W 2 (st' := (77, [vR 1, none, none, vI x3, vI x4, vI (f_rows o)], [.int (0:Int32), .int (f_rows o), .ref 4], (H0x44 s o y503 y507))) rfl ?_
      exact zM [tt,ff,ff,ff,tt,tt] (K509 _ (if_neg hc510).symm)
    rcases em ((x4 &&& (1:Int32)) = (0:Int32)) with hc506 | hc506
    ·refine zT Ad W (t := 57) (f := 53) rfl (XT.i0_eq_t hc506) ?_
     refine zS Ad W 1 (st' := (58, [vR 1, vI x1, vI x2, vI x3, vI x4, vI (f_rows o)], [.int x2, .int (f_rows o), .ref 3], (H0x43 s o y503))) rfl ?_
     exact zM [tt,ff,ff,tt,tt,tt] (K505 _ (if_pos hc506).symm)
    ·refine zF Ad W (t := 57) (f := 53) rfl (XT.i0_eq_f hc506) ?_
     refine zS Ad W 2 (st' := (58, [vR 1, vI x1, vI x2, vI x3, vI x4, vI (f_rows o)], [.int (0:Int32), .int (f_rows o), .ref 3], (H0x43 s o y503))) rfl ?_
     exact zM [tt,ff,ff,tt,tt,tt] (K505 _ (if_neg hc506).symm)
   ·refine zF Ad W (t := 26) (f := 24) rfl (XT.ii_lt_f hc502) ?_
    refine zS Ad W 1 (st' := (25, [vR 1, vI x1, vI x2, vI x3, vI x4, none], [.int (-1:Int32)], (H0 s o))) rfl ?_
    obtain rfl := Option.some.inj h
    exact QTri.retI rfl rfl
def J0_271 (s : List Int32) (p0 : Ob) (x3 : Int32) (x4 : Int32) (x5 : Int32) (x6 : Int32) (x7 : Int32) (x8 : Int32) (x9 : Int32) (x10 : Int32) (x11 : Int32) (x12 : Int32) (x13 : Int32) (x14 : Int32) (x15 : Int32) (x16 : Int32) (x17 : Int32) (x18 : Int32) (x19 : Int32) : Option (((Int32 × QHeap)) ⊕ (Int32 × Int32 × Int32 × Int32 × Int32 × Int32 × Int32 × Int32 × Int32 × Int32 × Int32 × Int32 × Int32 × Int32 × Int32 × Int32 × Ob)) :=
  (J0_791 s p0 x3 x4 x5 x6 x7 x8 x9 x10 x11 x12 x13 x14 x15 x16 x17 x18 x19)
theorem tJ0_271 (Ad : QAd n0 ad) (W : QW Z a0) (s : List Int32) (p0 : Ob) (x3 : Int32) (x4 : Int32) (x5 : Int32) (x6 : Int32) (x7 : Int32) (x8 : Int32) (x9 : Int32) (x10 : Int32) (x11 : Int32) (x12 : Int32) (x13 : Int32) (x14 : Int32) (x15 : Int32) (x16 : Int32) (x17 : Int32) (x18 : Int32) (x19 : Int32) {r : ((Int32 × QHeap)) ⊕ (Int32 × Int32 × Int32 × Int32 × Int32 × Int32 × Int32 × Int32 × Int32 × Int32 × Int32 × Int32 × Int32 × Int32 × Int32 × Int32 × Ob)} {u : Option Value} {τ : QHeap} (h : J0_271 s p0 x3 x4 x5 x6 x7 x8 x9 x10 x11 x12 x13 x14 x15 x16 x17 x18 x19 = some r) (hx0 : ∀ x : Int32 × QHeap, r = .inl x → u = (some (Value.int x.1)) ∧ τ = x.2) (hc : ∀ x : Int32 × Int32 × Int32 × Int32 × Int32 × Int32 × Int32 × Int32 × Int32 × Int32 × Int32 × Int32 × Int32 × Int32 × Int32 × Int32 × Ob, r = .inr x → QTri l Z n0 ad 0 (85, [vR 0, none, vR 1, vI x3, vI x.1, vI x.2.1, vI x.2.2.1, vI x.2.2.2.1, vI x.2.2.2.2.1, vI x.2.2.2.2.2.1, vI x.2.2.2.2.2.2.1, vI x.2.2.2.2.2.2.2.1, vI x.2.2.2.2.2.2.2.2.1, vI x.2.2.2.2.2.2.2.2.2.1, vI x.2.2.2.2.2.2.2.2.2.2.1, vI x.2.2.2.2.2.2.2.2.2.2.2.1, vI x.2.2.2.2.2.2.2.2.2.2.2.2.1, vI x.2.2.2.2.2.2.2.2.2.2.2.2.2.1, vI x.2.2.2.2.2.2.2.2.2.2.2.2.2.2.1, vI x.2.2.2.2.2.2.2.2.2.2.2.2.2.2.2.1, none, none, none, none, none, none, none, none, none, none], [], (H0 s x.2.2.2.2.2.2.2.2.2.2.2.2.2.2.2.2)) u τ) : QTri l Z n0 ad 0 (271, [vR 0, none, vR 1, vI x3, vI x4, vI x5, vI x6, vI x7, vI x8, vI x9, vI x10, vI x11, vI x12, vI x13, vI x14, vI x15, vI x16, vI x17, vI x18, vI x19, none, none, none, none, none, none, none, none, none, none], [], (H0 s p0)) u τ := by
 unfold J0_271 at h
 refine zS Ad W 1 (st' := (791, [vR 0, none, vR 1, vI x3, vI x4, vI x5, vI x6, vI x7, vI x8, vI x9, vI x10, vI x11, vI x12, vI x13, vI x14, vI x15, vI x16, vI x17, vI x18, vI x19, none, none, none, none, none, none, none, none, none, none], [], (H0 s p0))) rfl ?_
 exact zM [tt,ff,tt,tt,tt,tt,tt,tt,tt,tt,tt,tt,tt,tt,tt,tt,tt,tt,tt,tt,ff,ff,ff,ff,ff,ff,ff,ff,ff,ff] (tJ0_791 Ad W s p0 x3 x4 x5 x6 x7 x8 x9 x10 x11 x12 x13 x14 x15 x16 x17 x18 x19 h hx0 hc)
def J0_208 (s : List Int32) (p0 : Ob) (x3 : Int32) (x4 : Int32) (x5 : Int32) (x6 : Int32) (x7 : Int32) (x8 : Int32) (x9 : Int32) (x10 : Int32) (x11 : Int32) (x12 : Int32) (x13 : Int32) (x14 : Int32) (x15 : Int32) (x16 : Int32) (x17 : Int32) (x18 : Int32) (x19 : Int32) (x28 : Int32) : Option (((Int32 × QHeap)) ⊕ (Int32 × Int32 × Int32 × Int32 × Int32 × Int32 × Int32 × Int32 × Int32 × Int32 × Int32 × Int32 × Int32 × Int32 × Int32 × Int32 × Ob)) :=
  (if x28 = (-1 : Int32) then (J0_271 s p0 x3 x4 x5 x6 x7 x8 x9 x10 x11 x12 x13 x14 x15 x16 x17 x18 x19) else some (.inl ((0 : Int32), (H0 s p0))))
theorem tJ0_208 (Ad : QAd n0 ad) (W : QW Z a0) (s : List Int32) (p0 : Ob) (x3 : Int32) (x4 : Int32) (x5 : Int32) (x6 : Int32) (x7 : Int32) (x8 : Int32) (x9 : Int32) (x10 : Int32) (x11 : Int32) (x12 : Int32) (x13 : Int32) (x14 : Int32) (x15 : Int32) (x16 : Int32) (x17 : Int32) (x18 : Int32) (x19 : Int32) (x28 : Int32) {r : ((Int32 × QHeap)) ⊕ (Int32 × Int32 × Int32 × Int32 × Int32 × Int32 × Int32 × Int32 × Int32 × Int32 × Int32 × Int32 × Int32 × Int32 × Int32 × Int32 × Ob)} {u : Option Value} {τ : QHeap} (h : J0_208 s p0 x3 x4 x5 x6 x7 x8 x9 x10 x11 x12 x13 x14 x15 x16 x17 x18 x19 x28 = some r) (hx0 : ∀ x : Int32 × QHeap, r = .inl x → u = (some (Value.int x.1)) ∧ τ = x.2) (hc : ∀ x : Int32 × Int32 × Int32 × Int32 × Int32 × Int32 × Int32 × Int32 × Int32 × Int32 × Int32 × Int32 × Int32 × Int32 × Int32 × Int32 × Ob, r = .inr x → QTri l Z n0 ad 0 (85, [vR 0, none, vR 1, vI x3, vI x.1, vI x.2.1, vI x.2.2.1, vI x.2.2.2.1, vI x.2.2.2.2.1, vI x.2.2.2.2.2.1, vI x.2.2.2.2.2.2.1, vI x.2.2.2.2.2.2.2.1, vI x.2.2.2.2.2.2.2.2.1, vI x.2.2.2.2.2.2.2.2.2.1, vI x.2.2.2.2.2.2.2.2.2.2.1, vI x.2.2.2.2.2.2.2.2.2.2.2.1, vI x.2.2.2.2.2.2.2.2.2.2.2.2.1, vI x.2.2.2.2.2.2.2.2.2.2.2.2.2.1, vI x.2.2.2.2.2.2.2.2.2.2.2.2.2.2.1, vI x.2.2.2.2.2.2.2.2.2.2.2.2.2.2.2.1, none, none, none, none, none, none, none, none, none, none], [], (H0 s x.2.2.2.2.2.2.2.2.2.2.2.2.2.2.2.2)) u τ) : QTri l Z n0 ad 0 (208, [vR 0, none, vR 1, vI x3, vI x4, vI x5, vI x6, vI x7, vI x8, vI x9, vI x10, vI x11, vI x12, vI x13, vI x14, vI x15, vI x16, vI x17, vI x18, vI x19, none, none, none, none, none, none, none, none, vI x28, none], [], (H0 s p0)) u τ := by
 unfold J0_208 at h
 refine zS Ad W 2 (st' := (211, [vR 0, none, vR 1, vI x3, vI x4, vI x5, vI x6, vI x7, vI x8, vI x9, vI x10, vI x11, vI x12, vI x13, vI x14, vI x15, vI x16, vI x17, vI x18, vI x19, none, none, none, none, none, none, none, none, vI x28, none], [.int (-1:Int32), .int x28], (H0 s p0))) rfl ?_
 rcases qite h with ⟨hc516, h⟩ | ⟨hc516, h⟩
 ·refine zT Ad W (t := 271) (f := 214) rfl (XT.ii_eq_t hc516) ?_
  exact zM [tt,ff,tt,tt,tt,tt,tt,tt,tt,tt,tt,tt,tt,tt,tt,tt,tt,tt,tt,tt,ff,ff,ff,ff,ff,ff,ff,ff,ff,ff] (tJ0_271 Ad W s p0 x3 x4 x5 x6 x7 x8 x9 x10 x11 x12 x13 x14 x15 x16 x17 x18 x19 h hx0 hc)
 ·refine zF Ad W (t := 271) (f := 214) rfl (XT.ii_eq_f hc516) ?_
  refine zS Ad W 1 (st' := (215, [vR 0, none, vR 1, vI x3, vI x4, vI x5, vI x6, vI x7, vI x8, vI x9, vI x10, vI x11, vI x12, vI x13, vI x14, vI x15, vI x16, vI x17, vI x18, vI x19, none, none, none, none, none, none, none, none, vI x28, none], [.int (0:Int32)], (H0 s p0))) rfl ?_
  obtain rfl := Option.some.inj h
  obtain ⟨rfl, rfl⟩ := hx0 ((0:Int32), (H0 s p0)) rfl
  exact QTri.retZ rfl rfl
def B0_85 (s : List Int32) (x3 : Int32) (v : Int32 × Int32 × Int32 × Int32 × Int32 × Int32 × Int32 × Int32 × Int32 × Int32 × Int32 × Int32 × Int32 × Int32 × Int32 × Int32 × Ob) : Option (((Int32 × QHeap)) ⊕ (Int32 × Int32 × Int32 × Int32 × Int32 × Int32 × Int32 × Int32 × Int32 × Int32 × Int32 × Int32 × Int32 × Int32 × Int32 × Int32 × Ob)) :=
  (if (v.2.2.2.2.2.2.2.2.2.2.2.2.2.2.2.1 + (4 : Int32)) < (s.length.toInt32) then (aget s v.2.2.2.2.2.2.2.2.2.2.2.2.2.2.2.1).bind fun y18 => (aget s (v.2.2.2.2.2.2.2.2.2.2.2.2.2.2.2.1 + (1 : Int32))).bind fun y19 => (aget s (v.2.2.2.2.2.2.2.2.2.2.2.2.2.2.2.1 + (2 : Int32))).bind fun y20 => (aget s (v.2.2.2.2.2.2.2.2.2.2.2.2.2.2.2.1 + (3 : Int32))).bind fun y21 => (aget s (v.2.2.2.2.2.2.2.2.2.2.2.2.2.2.2.1 + (4 : Int32))).bind fun y22 => (if (6 : Int32) < (y18 &&& (15 : Int32)) then (if (y18 &&& (15 : Int32)) = (7 : Int32) then (F15 v.2.2.2.2.2.2.2.2.2.2.2.2.2.2.2.2).bind fun r26 => (J0_791 s r26 x3 (0 : Int32) v.2.1 v.2.2.1 v.2.2.2.1 v.2.2.2.2.1 v.2.2.2.2.2.1 v.2.2.2.2.2.2.1 v.2.2.2.2.2.2.2.1 v.2.2.2.2.2.2.2.2.1 v.2.2.2.2.2.2.2.2.2.1 v.2.2.2.2.2.2.2.2.2.2.1 v.2.2.2.2.2.2.2.2.2.2.2.1 v.2.2.2.2.2.2.2.2.2.2.2.2.1 v.2.2.2.2.2.2.2.2.2.2.2.2.2.1 (0 : Int32) v.2.2.2.2.2.2.2.2.2.2.2.2.2.2.2.1) else (if (y18 &&& (15 : Int32)) = (8 : Int32) then (F31 v.2.2.2.2.2.2.2.2.2.2.2.2.2.2.2.2 ((y19 &&& (255 : Int32)) &&& (3 : Int32)) ((y20 &&& (255 : Int32)) &&& (1 : Int32))).bind fun r136 => (if r136.1 = (if (2 : Int32) < ((y19 &&& (255 : Int32)) &&& (3 : Int32)) then (0 : Int32) else (1 : Int32)) then (J0_791 s r136.2 x3 v.1 (if r136.1 = (0 : Int32) then v.2.1 else ((y19 &&& (255 : Int32)) &&& (3 : Int32))) (if r136.1 = (0 : Int32) then v.2.2.1 else ((y20 &&& (255 : Int32)) &&& (1 : Int32))) v.2.2.2.1 v.2.2.2.2.1 v.2.2.2.2.2.1 v.2.2.2.2.2.2.1 v.2.2.2.2.2.2.2.1 v.2.2.2.2.2.2.2.2.1 v.2.2.2.2.2.2.2.2.2.1 v.2.2.2.2.2.2.2.2.2.2.1 v.2.2.2.2.2.2.2.2.2.2.2.1 v.2.2.2.2.2.2.2.2.2.2.2.2.1 v.2.2.2.2.2.2.2.2.2.2.2.2.2.1 (if r136.1 = (0 : Int32) then v.2.2.2.2.2.2.2.2.2.2.2.2.2.2.1 else (0 : Int32)) v.2.2.2.2.2.2.2.2.2.2.2.2.2.2.2.1) else some (.inl ((0 : Int32), (H0 s r136.2)))) else (if (y18 &&& (15 : Int32)) = (9 : Int32) then (F30 v.2.2.2.2.2.2.2.2.2.2.2.2.2.2.2.2 ((y19 &&& (255 : Int32)) % (3 : Int32))).bind fun r151 => (if r151.1 = (if (1 : Int32) < ((y19 &&& (255 : Int32)) % (3 : Int32)) then (0 : Int32) else (1 : Int32)) then (if r151.1 = (0 : Int32) then (J0_409 s r151.2 x3 v.1 v.2.1 v.2.2.1 v.2.2.2.1 v.2.2.2.2.1 v.2.2.2.2.2.1 v.2.2.2.2.2.2.1 v.2.2.2.2.2.2.2.1 v.2.2.2.2.2.2.2.2.1 v.2.2.2.2.2.2.2.2.2.1 v.2.2.2.2.2.2.2.2.2.2.1 v.2.2.2.2.2.2.2.2.2.2.2.1 v.2.2.2.2.2.2.2.2.2.2.2.2.1 v.2.2.2.2.2.2.2.2.2.2.2.2.2.1 v.2.2.2.2.2.2.2.2.2.2.2.2.2.2.1 v.2.2.2.2.2.2.2.2.2.2.2.2.2.2.2.1) else (J0_409 s r151.2 x3 v.1 v.2.1 v.2.2.1 ((y19 &&& (255 : Int32)) % (3 : Int32)) v.2.2.2.2.1 v.2.2.2.2.2.1 v.2.2.2.2.2.2.1 v.2.2.2.2.2.2.2.1 v.2.2.2.2.2.2.2.2.1 v.2.2.2.2.2.2.2.2.2.1 v.2.2.2.2.2.2.2.2.2.2.1 v.2.2.2.2.2.2.2.2.2.2.2.1 v.2.2.2.2.2.2.2.2.2.2.2.2.1 v.2.2.2.2.2.2.2.2.2.2.2.2.2.1 (0 : Int32) v.2.2.2.2.2.2.2.2.2.2.2.2.2.2.2.1)) else some (.inl ((0 : Int32), (H0 s r151.2)))) else (if (y18 &&& (15 : Int32)) = (10 : Int32) then (J0_426 s v.2.2.2.2.2.2.2.2.2.2.2.2.2.2.2.2 x3 v.1 v.2.1 v.2.2.1 v.2.2.2.1 v.2.2.2.2.1 v.2.2.2.2.2.1 v.2.2.2.2.2.2.1 v.2.2.2.2.2.2.2.1 v.2.2.2.2.2.2.2.2.1 v.2.2.2.2.2.2.2.2.2.1 v.2.2.2.2.2.2.2.2.2.2.1 v.2.2.2.2.2.2.2.2.2.2.2.1 v.2.2.2.2.2.2.2.2.2.2.2.2.1 v.2.2.2.2.2.2.2.2.2.2.2.2.2.1 v.2.2.2.2.2.2.2.2.2.2.2.2.2.2.1 v.2.2.2.2.2.2.2.2.2.2.2.2.2.2.2.1 (y18 &&& (15 : Int32)) (y19 &&& (255 : Int32)) (y20 &&& (255 : Int32))) else (if (y18 &&& (15 : Int32)) = (11 : Int32) then (J0_426 s v.2.2.2.2.2.2.2.2.2.2.2.2.2.2.2.2 x3 v.1 v.2.1 v.2.2.1 v.2.2.2.1 v.2.2.2.2.1 v.2.2.2.2.2.1 v.2.2.2.2.2.2.1 v.2.2.2.2.2.2.2.1 v.2.2.2.2.2.2.2.2.1 v.2.2.2.2.2.2.2.2.2.1 v.2.2.2.2.2.2.2.2.2.2.1 v.2.2.2.2.2.2.2.2.2.2.2.1 v.2.2.2.2.2.2.2.2.2.2.2.2.1 v.2.2.2.2.2.2.2.2.2.2.2.2.2.1 v.2.2.2.2.2.2.2.2.2.2.2.2.2.2.1 v.2.2.2.2.2.2.2.2.2.2.2.2.2.2.2.1 (y18 &&& (15 : Int32)) (y19 &&& (255 : Int32)) (y20 &&& (255 : Int32))) else (if (y18 &&& (15 : Int32)) = (12 : Int32) then (F12 v.2.2.2.2.2.2.2.2.2.2.2.2.2.2.2.2 ((y19 &&& (255 : Int32)) % (11 : Int32)) (((y20 &&& (255 : Int32)) &&& (7 : Int32)) - (1 : Int32))).bind fun r236 => (if r236.1 = (if (9 : Int32) < ((y19 &&& (255 : Int32)) % (11 : Int32)) then (0 : Int32) else (if (if ((y19 &&& (255 : Int32)) % (11 : Int32)) = (8 : Int32) then (1 : Int32) else (if ((y19 &&& (255 : Int32)) % (11 : Int32)) = (9 : Int32) then (1 : Int32) else (0 : Int32))) = (0 : Int32) then (1 : Int32) else (if (((y20 &&& (255 : Int32)) &&& (7 : Int32)) - (1 : Int32)) < (0 : Int32) then (0 : Int32) else (1 : Int32)))) then (J0_791 s r236.2 x3 v.1 v.2.1 v.2.2.1 v.2.2.2.1 v.2.2.2.2.1 v.2.2.2.2.2.1 v.2.2.2.2.2.2.1 v.2.2.2.2.2.2.2.1 (if r236.1 = (0 : Int32) then v.2.2.2.2.2.2.2.2.1 else ((y19 &&& (255 : Int32)) % (11 : Int32))) (if r236.1 = (0 : Int32) then v.2.2.2.2.2.2.2.2.2.1 else (if (if ((y19 &&& (255 : Int32)) % (11 : Int32)) = (8 : Int32) then (1 : Int32) else (if ((y19 &&& (255 : Int32)) % (11 : Int32)) = (9 : Int32) then (1 : Int32) else (0 : Int32))) = (0 : Int32) then (0 : Int32) else (((y20 &&& (255 : Int32)) &&& (7 : Int32)) - (1 : Int32)))) v.2.2.2.2.2.2.2.2.2.2.1 v.2.2.2.2.2.2.2.2.2.2.2.1 v.2.2.2.2.2.2.2.2.2.2.2.2.1 v.2.2.2.2.2.2.2.2.2.2.2.2.2.1 (if r236.1 = (0 : Int32) then v.2.2.2.2.2.2.2.2.2.2.2.2.2.2.1 else (0 : Int32)) v.2.2.2.2.2.2.2.2.2.2.2.2.2.2.2.1) else some (.inl ((0 : Int32), (H0 s r236.2)))) else (F13 v.2.2.2.2.2.2.2.2.2.2.2.2.2.2.2.2).bind fun r491 => (if r491.1 = (if (if v.2.2.2.1 = (1 : Int32) then (if v.2.1 = (0 : Int32) then (if v.2.2.2.2.1 = (1 : Int32) then (1 : Int32) else (if v.2.2.2.2.1 = (3 : Int32) then (1 : Int32) else (if v.2.2.2.2.2.2.1 = (1 : Int32) then (1 : Int32) else (if v.2.2.2.2.2.2.1 = (3 : Int32) then (1 : Int32) else (0 : Int32))))) else (0 : Int32)) else (0 : Int32)) = (0 : Int32) then (0 : Int32) else (-1 : Int32)) then (J0_791 s r491.2 x3 v.1 v.2.1 v.2.2.1 v.2.2.2.1 v.2.2.2.2.1 v.2.2.2.2.2.1 v.2.2.2.2.2.2.1 v.2.2.2.2.2.2.2.1 v.2.2.2.2.2.2.2.2.1 v.2.2.2.2.2.2.2.2.2.1 v.2.2.2.2.2.2.2.2.2.2.1 v.2.2.2.2.2.2.2.2.2.2.2.1 v.2.2.2.2.2.2.2.2.2.2.2.2.1 v.2.2.2.2.2.2.2.2.2.2.2.2.2.1 (if (if v.2.2.2.1 = (1 : Int32) then (if v.2.1 = (0 : Int32) then (if v.2.2.2.2.1 = (1 : Int32) then (1 : Int32) else (if v.2.2.2.2.1 = (3 : Int32) then (1 : Int32) else (if v.2.2.2.2.2.2.1 = (1 : Int32) then (1 : Int32) else (if v.2.2.2.2.2.2.1 = (3 : Int32) then (1 : Int32) else (0 : Int32))))) else (0 : Int32)) else (0 : Int32)) = (0 : Int32) then (1 : Int32) else v.2.2.2.2.2.2.2.2.2.2.2.2.2.2.1) v.2.2.2.2.2.2.2.2.2.2.2.2.2.2.2.1) else some (.inl ((0 : Int32), (H0 s r491.2)))))))))) else (F3 v.2.2.2.2.2.2.2.2.2.2.2.2.2.2.2.2 ((y19 &&& (255 : Int32)) &&& (3 : Int32)) (((y20 &&& (255 : Int32)) &&& (7 : Int32)) - (3 : Int32)) ((y21 &&& (255 : Int32)) - (100 : Int32)) ((y22 &&& (255 : Int32)) % (5 : Int32))).bind fun r514 => (if (3 : Int32) < ((y22 &&& (255 : Int32)) % (5 : Int32)) then (J0_208 s r514.2 x3 v.1 v.2.1 v.2.2.1 v.2.2.2.1 v.2.2.2.2.1 v.2.2.2.2.2.1 v.2.2.2.2.2.2.1 v.2.2.2.2.2.2.2.1 v.2.2.2.2.2.2.2.2.1 v.2.2.2.2.2.2.2.2.2.1 v.2.2.2.2.2.2.2.2.2.2.1 v.2.2.2.2.2.2.2.2.2.2.2.1 v.2.2.2.2.2.2.2.2.2.2.2.2.1 v.2.2.2.2.2.2.2.2.2.2.2.2.2.1 v.2.2.2.2.2.2.2.2.2.2.2.2.2.2.1 v.2.2.2.2.2.2.2.2.2.2.2.2.2.2.2.1 r514.1) else (if v.1 = x3 then (J0_208 s r514.2 x3 v.1 v.2.1 v.2.2.1 v.2.2.2.1 v.2.2.2.2.1 v.2.2.2.2.2.1 v.2.2.2.2.2.2.1 v.2.2.2.2.2.2.2.1 v.2.2.2.2.2.2.2.2.1 v.2.2.2.2.2.2.2.2.2.1 v.2.2.2.2.2.2.2.2.2.2.1 v.2.2.2.2.2.2.2.2.2.2.2.1 v.2.2.2.2.2.2.2.2.2.2.2.2.1 v.2.2.2.2.2.2.2.2.2.2.2.2.2.1 v.2.2.2.2.2.2.2.2.2.2.2.2.2.2.1 v.2.2.2.2.2.2.2.2.2.2.2.2.2.2.2.1 r514.1) else (if r514.1 = v.1 then (J0_271 s r514.2 x3 (v.1 + (1 : Int32)) v.2.1 v.2.2.1 v.2.2.2.1 v.2.2.2.2.1 v.2.2.2.2.2.1 v.2.2.2.2.2.2.1 v.2.2.2.2.2.2.2.1 v.2.2.2.2.2.2.2.2.1 v.2.2.2.2.2.2.2.2.2.1 ((y19 &&& (255 : Int32)) &&& (3 : Int32)) (if (((y22 &&& (255 : Int32)) % (5 : Int32)) &&& (1 : Int32)) = (0 : Int32) then (((y20 &&& (255 : Int32)) &&& (7 : Int32)) - (3 : Int32)) else (0 : Int32)) (if (((y22 &&& (255 : Int32)) % (5 : Int32)) &&& (2 : Int32)) = (0 : Int32) then ((y21 &&& (255 : Int32)) - (100 : Int32)) else (0 : Int32)) ((y22 &&& (255 : Int32)) % (5 : Int32)) (0 : Int32) v.2.2.2.2.2.2.2.2.2.2.2.2.2.2.2.1) else some (.inl ((0 : Int32), (H0 s r514.2))))))) else some (.inl ((1 : Int32), (H0 s v.2.2.2.2.2.2.2.2.2.2.2.2.2.2.2.2))))
theorem tB0_85 (Ad : QAd n0 ad) (W : QW Z a0) (s : List Int32) (x3 : Int32) (v : Int32 × Int32 × Int32 × Int32 × Int32 × Int32 × Int32 × Int32 × Int32 × Int32 × Int32 × Int32 × Int32 × Int32 × Int32 × Int32 × Ob) {r : ((Int32 × QHeap)) ⊕ (Int32 × Int32 × Int32 × Int32 × Int32 × Int32 × Int32 × Int32 × Int32 × Int32 × Int32 × Int32 × Int32 × Int32 × Int32 × Int32 × Ob)} {u : Option Value} {τ : QHeap} (h : B0_85 s x3 v = some r) (hx0 : ∀ x : Int32 × QHeap, r = .inl x → u = (some (Value.int x.1)) ∧ τ = x.2) (hc : ∀ x : Int32 × Int32 × Int32 × Int32 × Int32 × Int32 × Int32 × Int32 × Int32 × Int32 × Int32 × Int32 × Int32 × Int32 × Int32 × Int32 × Ob, r = .inr x → QTri l Z n0 ad 0 (85, [vR 0, none, vR 1, vI x3, vI x.1, vI x.2.1, vI x.2.2.1, vI x.2.2.2.1, vI x.2.2.2.2.1, vI x.2.2.2.2.2.1, vI x.2.2.2.2.2.2.1, vI x.2.2.2.2.2.2.2.1, vI x.2.2.2.2.2.2.2.2.1, vI x.2.2.2.2.2.2.2.2.2.1, vI x.2.2.2.2.2.2.2.2.2.2.1, vI x.2.2.2.2.2.2.2.2.2.2.2.1, vI x.2.2.2.2.2.2.2.2.2.2.2.2.1, vI x.2.2.2.2.2.2.2.2.2.2.2.2.2.1, vI x.2.2.2.2.2.2.2.2.2.2.2.2.2.2.1, vI x.2.2.2.2.2.2.2.2.2.2.2.2.2.2.2.1, none, none, none, none, none, none, none, none, none, none], [], (H0 s x.2.2.2.2.2.2.2.2.2.2.2.2.2.2.2.2)) u τ) : QTri l Z n0 ad 0 (85, [vR 0, none, vR 1, vI x3, vI v.1, vI v.2.1, vI v.2.2.1, vI v.2.2.2.1, vI v.2.2.2.2.1, vI v.2.2.2.2.2.1, vI v.2.2.2.2.2.2.1, vI v.2.2.2.2.2.2.2.1, vI v.2.2.2.2.2.2.2.2.1, vI v.2.2.2.2.2.2.2.2.2.1, vI v.2.2.2.2.2.2.2.2.2.2.1, vI v.2.2.2.2.2.2.2.2.2.2.2.1, vI v.2.2.2.2.2.2.2.2.2.2.2.2.1, vI v.2.2.2.2.2.2.2.2.2.2.2.2.2.1, vI v.2.2.2.2.2.2.2.2.2.2.2.2.2.2.1, vI v.2.2.2.2.2.2.2.2.2.2.2.2.2.2.2.1, none, none, none, none, none, none, none, none, none, none], [], (H0 s v.2.2.2.2.2.2.2.2.2.2.2.2.2.2.2.2)) u τ := by
 unfold B0_85 at h
 refine zS Ad W 5 (st' := (91, [vR 0, none, vR 1, vI x3, vI v.1, vI v.2.1, vI v.2.2.1, vI v.2.2.2.1, vI v.2.2.2.2.1, vI v.2.2.2.2.2.1, vI v.2.2.2.2.2.2.1, vI v.2.2.2.2.2.2.2.1, vI v.2.2.2.2.2.2.2.2.1, vI v.2.2.2.2.2.2.2.2.2.1, vI v.2.2.2.2.2.2.2.2.2.2.1, vI v.2.2.2.2.2.2.2.2.2.2.2.1, vI v.2.2.2.2.2.2.2.2.2.2.2.2.1, vI v.2.2.2.2.2.2.2.2.2.2.2.2.2.1, vI v.2.2.2.2.2.2.2.2.2.2.2.2.2.2.1, vI v.2.2.2.2.2.2.2.2.2.2.2.2.2.2.2.1, none, none, none, none, none, none, none, none, none, none], [.int (s.length.toInt32), .int (v.2.2.2.2.2.2.2.2.2.2.2.2.2.2.2.1 + (4:Int32))], (H0 s v.2.2.2.2.2.2.2.2.2.2.2.2.2.2.2.2))) rfl ?_
 rcases qite h with ⟨hc17, h⟩ | ⟨hc17, h⟩
 ·refine zF Ad W (t := 1110) (f := 94) rfl (XT.ii_ge_f hc17) ?_
  refine zS Ad W 2 (st' := (97, [vR 0, none, vR 1, vI x3, vI v.1, vI v.2.1, vI v.2.2.1, vI v.2.2.2.1, vI v.2.2.2.2.1, vI v.2.2.2.2.2.1, vI v.2.2.2.2.2.2.1, vI v.2.2.2.2.2.2.2.1, vI v.2.2.2.2.2.2.2.2.1, vI v.2.2.2.2.2.2.2.2.2.1, vI v.2.2.2.2.2.2.2.2.2.2.1, vI v.2.2.2.2.2.2.2.2.2.2.2.1, vI v.2.2.2.2.2.2.2.2.2.2.2.2.1, vI v.2.2.2.2.2.2.2.2.2.2.2.2.2.1, vI v.2.2.2.2.2.2.2.2.2.2.2.2.2.2.1, vI v.2.2.2.2.2.2.2.2.2.2.2.2.2.2.2.1, none, none, none, none, none, none, none, none, none, none], [.int v.2.2.2.2.2.2.2.2.2.2.2.2.2.2.2.1, .ref 0], (H0 s v.2.2.2.2.2.2.2.2.2.2.2.2.2.2.2.2))) rfl ?_
  obtain ⟨y18, hy18, h⟩ := bind_eq_some_iff.mp h
  refine zB Ad W (f := fun y18 => (98, [vR 0, none, vR 1, vI x3, vI v.1, vI v.2.1, vI v.2.2.1, vI v.2.2.2.1, vI v.2.2.2.2.1, vI v.2.2.2.2.2.1, vI v.2.2.2.2.2.2.1, vI v.2.2.2.2.2.2.2.1, vI v.2.2.2.2.2.2.2.2.1, vI v.2.2.2.2.2.2.2.2.2.1, vI v.2.2.2.2.2.2.2.2.2.2.1, vI v.2.2.2.2.2.2.2.2.2.2.2.1, vI v.2.2.2.2.2.2.2.2.2.2.2.2.1, vI v.2.2.2.2.2.2.2.2.2.2.2.2.2.1, vI v.2.2.2.2.2.2.2.2.2.2.2.2.2.2.1, vI v.2.2.2.2.2.2.2.2.2.2.2.2.2.2.2.1, none, none, none, none, none, none, none, none, none, none], [.int y18], (H0 s v.2.2.2.2.2.2.2.2.2.2.2.2.2.2.2.2))) rfl hy18 ?_
  refine zS Ad W 7 (st' := (108, [vR 0, none, vR 1, vI x3, vI v.1, vI v.2.1, vI v.2.2.1, vI v.2.2.2.1, vI v.2.2.2.2.1, vI v.2.2.2.2.2.1, vI v.2.2.2.2.2.2.1, vI v.2.2.2.2.2.2.2.1, vI v.2.2.2.2.2.2.2.2.1, vI v.2.2.2.2.2.2.2.2.2.1, vI v.2.2.2.2.2.2.2.2.2.2.1, vI v.2.2.2.2.2.2.2.2.2.2.2.1, vI v.2.2.2.2.2.2.2.2.2.2.2.2.1, vI v.2.2.2.2.2.2.2.2.2.2.2.2.2.1, vI v.2.2.2.2.2.2.2.2.2.2.2.2.2.2.1, vI v.2.2.2.2.2.2.2.2.2.2.2.2.2.2.2.1, vI (y18 &&& (15:Int32)), none, none, none, none, none, none, none, none, none], [.int (v.2.2.2.2.2.2.2.2.2.2.2.2.2.2.2.1 + (1:Int32)), .ref 0], (H0 s v.2.2.2.2.2.2.2.2.2.2.2.2.2.2.2.2))) rfl ?_
  obtain ⟨y19, hy19, h⟩ := bind_eq_some_iff.mp h
  refine zB Ad W (f := fun y19 => (109, [vR 0, none, vR 1, vI x3, vI v.1, vI v.2.1, vI v.2.2.1, vI v.2.2.2.1, vI v.2.2.2.2.1, vI v.2.2.2.2.2.1, vI v.2.2.2.2.2.2.1, vI v.2.2.2.2.2.2.2.1, vI v.2.2.2.2.2.2.2.2.1, vI v.2.2.2.2.2.2.2.2.2.1, vI v.2.2.2.2.2.2.2.2.2.2.1, vI v.2.2.2.2.2.2.2.2.2.2.2.1, vI v.2.2.2.2.2.2.2.2.2.2.2.2.1, vI v.2.2.2.2.2.2.2.2.2.2.2.2.2.1, vI v.2.2.2.2.2.2.2.2.2.2.2.2.2.2.1, vI v.2.2.2.2.2.2.2.2.2.2.2.2.2.2.2.1, vI (y18 &&& (15:Int32)), none, none, none, none, none, none, none, none, none], [.int y19], (H0 s v.2.2.2.2.2.2.2.2.2.2.2.2.2.2.2.2))) rfl hy19 ?_
  refine zS Ad W 7 (st' := (120, [vR 0, none, vR 1, vI x3, vI v.1, vI v.2.1, vI v.2.2.1, vI v.2.2.2.1, vI v.2.2.2.2.1, vI v.2.2.2.2.2.1, vI v.2.2.2.2.2.2.1, vI v.2.2.2.2.2.2.2.1, vI v.2.2.2.2.2.2.2.2.1, vI v.2.2.2.2.2.2.2.2.2.1, vI v.2.2.2.2.2.2.2.2.2.2.1, vI v.2.2.2.2.2.2.2.2.2.2.2.1, vI v.2.2.2.2.2.2.2.2.2.2.2.2.1, vI v.2.2.2.2.2.2.2.2.2.2.2.2.2.1, vI v.2.2.2.2.2.2.2.2.2.2.2.2.2.2.1, vI v.2.2.2.2.2.2.2.2.2.2.2.2.2.2.2.1, vI (y18 &&& (15:Int32)), vI (y19 &&& (255:Int32)), none, none, none, none, none, none, none, none], [.int (v.2.2.2.2.2.2.2.2.2.2.2.2.2.2.2.1 + (2:Int32)), .ref 0], (H0 s v.2.2.2.2.2.2.2.2.2.2.2.2.2.2.2.2))) rfl ?_
  obtain ⟨y20, hy20, h⟩ := bind_eq_some_iff.mp h
  refine zB Ad W (f := fun y20 => (121, [vR 0, none, vR 1, vI x3, vI v.1, vI v.2.1, vI v.2.2.1, vI v.2.2.2.1, vI v.2.2.2.2.1, vI v.2.2.2.2.2.1, vI v.2.2.2.2.2.2.1, vI v.2.2.2.2.2.2.2.1, vI v.2.2.2.2.2.2.2.2.1, vI v.2.2.2.2.2.2.2.2.2.1, vI v.2.2.2.2.2.2.2.2.2.2.1, vI v.2.2.2.2.2.2.2.2.2.2.2.1, vI v.2.2.2.2.2.2.2.2.2.2.2.2.1, vI v.2.2.2.2.2.2.2.2.2.2.2.2.2.1, vI v.2.2.2.2.2.2.2.2.2.2.2.2.2.2.1, vI v.2.2.2.2.2.2.2.2.2.2.2.2.2.2.2.1, vI (y18 &&& (15:Int32)), vI (y19 &&& (255:Int32)), none, none, none, none, none, none, none, none], [.int y20], (H0 s v.2.2.2.2.2.2.2.2.2.2.2.2.2.2.2.2))) rfl hy20 ?_
  refine zS Ad W 7 (st' := (132, [vR 0, none, vR 1, vI x3, vI v.1, vI v.2.1, vI v.2.2.1, vI v.2.2.2.1, vI v.2.2.2.2.1, vI v.2.2.2.2.2.1, vI v.2.2.2.2.2.2.1, vI v.2.2.2.2.2.2.2.1, vI v.2.2.2.2.2.2.2.2.1, vI v.2.2.2.2.2.2.2.2.2.1, vI v.2.2.2.2.2.2.2.2.2.2.1, vI v.2.2.2.2.2.2.2.2.2.2.2.1, vI v.2.2.2.2.2.2.2.2.2.2.2.2.1, vI v.2.2.2.2.2.2.2.2.2.2.2.2.2.1, vI v.2.2.2.2.2.2.2.2.2.2.2.2.2.2.1, vI v.2.2.2.2.2.2.2.2.2.2.2.2.2.2.2.1, vI (y18 &&& (15:Int32)), vI (y19 &&& (255:Int32)), vI (y20 &&& (255:Int32)), none, none, none, none, none, none, none], [.int (v.2.2.2.2.2.2.2.2.2.2.2.2.2.2.2.1 + (3:Int32)), .ref 0], (H0 s v.2.2.2.2.2.2.2.2.2.2.2.2.2.2.2.2))) rfl ?_
  obtain ⟨y21, hy21, h⟩ := bind_eq_some_iff.mp h
  refine zB Ad W (f := fun y21 => (133, [vR 0, none, vR 1, vI x3, vI v.1, vI v.2.1, vI v.2.2.1, vI v.2.2.2.1, vI v.2.2.2.2.1, vI v.2.2.2.2.2.1, vI v.2.2.2.2.2.2.1, vI v.2.2.2.2.2.2.2.1, vI v.2.2.2.2.2.2.2.2.1, vI v.2.2.2.2.2.2.2.2.2.1, vI v.2.2.2.2.2.2.2.2.2.2.1, vI v.2.2.2.2.2.2.2.2.2.2.2.1, vI v.2.2.2.2.2.2.2.2.2.2.2.2.1, vI v.2.2.2.2.2.2.2.2.2.2.2.2.2.1, vI v.2.2.2.2.2.2.2.2.2.2.2.2.2.2.1, vI v.2.2.2.2.2.2.2.2.2.2.2.2.2.2.2.1, vI (y18 &&& (15:Int32)), vI (y19 &&& (255:Int32)), vI (y20 &&& (255:Int32)), none, none, none, none, none, none, none], [.int y21], (H0 s v.2.2.2.2.2.2.2.2.2.2.2.2.2.2.2.2))) rfl hy21 ?_
  refine zS Ad W 7 (st' := (144, [vR 0, none, vR 1, vI x3, vI v.1, vI v.2.1, vI v.2.2.1, vI v.2.2.2.1, vI v.2.2.2.2.1, vI v.2.2.2.2.2.1, vI v.2.2.2.2.2.2.1, vI v.2.2.2.2.2.2.2.1, vI v.2.2.2.2.2.2.2.2.1, vI v.2.2.2.2.2.2.2.2.2.1, vI v.2.2.2.2.2.2.2.2.2.2.1, vI v.2.2.2.2.2.2.2.2.2.2.2.1, vI v.2.2.2.2.2.2.2.2.2.2.2.2.1, vI v.2.2.2.2.2.2.2.2.2.2.2.2.2.1, vI v.2.2.2.2.2.2.2.2.2.2.2.2.2.2.1, vI v.2.2.2.2.2.2.2.2.2.2.2.2.2.2.2.1, vI (y18 &&& (15:Int32)), vI (y19 &&& (255:Int32)), vI (y20 &&& (255:Int32)), vI (y21 &&& (255:Int32)), none, none, none, none, none, none], [.int (v.2.2.2.2.2.2.2.2.2.2.2.2.2.2.2.1 + (4:Int32)), .ref 0], (H0 s v.2.2.2.2.2.2.2.2.2.2.2.2.2.2.2.2))) rfl ?_
  obtain ⟨y22, hy22, h⟩ := bind_eq_some_iff.mp h
  refine zB Ad W (f := fun y22 => (145, [vR 0, none, vR 1, vI x3, vI v.1, vI v.2.1, vI v.2.2.1, vI v.2.2.2.1, vI v.2.2.2.2.1, vI v.2.2.2.2.2.1, vI v.2.2.2.2.2.2.1, vI v.2.2.2.2.2.2.2.1, vI v.2.2.2.2.2.2.2.2.1, vI v.2.2.2.2.2.2.2.2.2.1, vI v.2.2.2.2.2.2.2.2.2.2.1, vI v.2.2.2.2.2.2.2.2.2.2.2.1, vI v.2.2.2.2.2.2.2.2.2.2.2.2.1, vI v.2.2.2.2.2.2.2.2.2.2.2.2.2.1, vI v.2.2.2.2.2.2.2.2.2.2.2.2.2.2.1, vI v.2.2.2.2.2.2.2.2.2.2.2.2.2.2.2.1, vI (y18 &&& (15:Int32)), vI (y19 &&& (255:Int32)), vI (y20 &&& (255:Int32)), vI (y21 &&& (255:Int32)), none, none, none, none, none, none], [.int y22], (H0 s v.2.2.2.2.2.2.2.2.2.2.2.2.2.2.2.2))) rfl hy22 ?_
  refine zS Ad W 5 (st' := (155, [vR 0, none, vR 1, vI x3, vI v.1, vI v.2.1, vI v.2.2.1, vI v.2.2.2.1, vI v.2.2.2.2.1, vI v.2.2.2.2.2.1, vI v.2.2.2.2.2.2.1, vI v.2.2.2.2.2.2.2.1, vI v.2.2.2.2.2.2.2.2.1, vI v.2.2.2.2.2.2.2.2.2.1, vI v.2.2.2.2.2.2.2.2.2.2.1, vI v.2.2.2.2.2.2.2.2.2.2.2.1, vI v.2.2.2.2.2.2.2.2.2.2.2.2.1, vI v.2.2.2.2.2.2.2.2.2.2.2.2.2.1, vI v.2.2.2.2.2.2.2.2.2.2.2.2.2.2.1, vI v.2.2.2.2.2.2.2.2.2.2.2.2.2.2.2.1, vI (y18 &&& (15:Int32)), vI (y19 &&& (255:Int32)), vI (y20 &&& (255:Int32)), vI (y21 &&& (255:Int32)), vI (y22 &&& (255:Int32)), none, none, none, none, none], [.int (6:Int32), .int (y18 &&& (15:Int32))], (H0 s v.2.2.2.2.2.2.2.2.2.2.2.2.2.2.2.2))) rfl ?_
  rcases qite h with ⟨hc23, h⟩ | ⟨hc23, h⟩
  ·refine zT Ad W (t := 274) (f := 158) rfl (XT.ii_gt_t hc23) ?_
   refine zS Ad W 2 (st' := (278, [vR 0, none, vR 1, vI x3, vI v.1, vI v.2.1, vI v.2.2.1, vI v.2.2.2.1, vI v.2.2.2.2.1, vI v.2.2.2.2.2.1, vI v.2.2.2.2.2.2.1, vI v.2.2.2.2.2.2.2.1, vI v.2.2.2.2.2.2.2.2.1, vI v.2.2.2.2.2.2.2.2.2.1, vI v.2.2.2.2.2.2.2.2.2.2.1, vI v.2.2.2.2.2.2.2.2.2.2.2.1, vI v.2.2.2.2.2.2.2.2.2.2.2.2.1, vI v.2.2.2.2.2.2.2.2.2.2.2.2.2.1, vI v.2.2.2.2.2.2.2.2.2.2.2.2.2.2.1, vI v.2.2.2.2.2.2.2.2.2.2.2.2.2.2.2.1, vI (y18 &&& (15:Int32)), vI (y19 &&& (255:Int32)), vI (y20 &&& (255:Int32)), vI (y21 &&& (255:Int32)), vI (y22 &&& (255:Int32)), none, none, none, none, none], [.int (7:Int32), .int (y18 &&& (15:Int32))], (H0 s v.2.2.2.2.2.2.2.2.2.2.2.2.2.2.2.2))) rfl ?_
   rcases qite h with ⟨hc24, h⟩ | ⟨hc24, h⟩
   ·refine zF Ad W (t := 294) (f := 281) rfl (XT.ii_ne_f hc24) ?_
    refine zS Ad W 1 (st' := (282, [vR 0, none, vR 1, vI x3, vI v.1, vI v.2.1, vI v.2.2.1, vI v.2.2.2.1, vI v.2.2.2.2.1, vI v.2.2.2.2.2.1, vI v.2.2.2.2.2.2.1, vI v.2.2.2.2.2.2.2.1, vI v.2.2.2.2.2.2.2.2.1, vI v.2.2.2.2.2.2.2.2.2.1, vI v.2.2.2.2.2.2.2.2.2.2.1, vI v.2.2.2.2.2.2.2.2.2.2.2.1, vI v.2.2.2.2.2.2.2.2.2.2.2.2.1, vI v.2.2.2.2.2.2.2.2.2.2.2.2.2.1, vI v.2.2.2.2.2.2.2.2.2.2.2.2.2.2.1, vI v.2.2.2.2.2.2.2.2.2.2.2.2.2.2.2.1, vI (y18 &&& (15:Int32)), vI (y19 &&& (255:Int32)), vI (y20 &&& (255:Int32)), vI (y21 &&& (255:Int32)), vI (y22 &&& (255:Int32)), none, none, none, none, none], [.ref 1], (H0 s v.2.2.2.2.2.2.2.2.2.2.2.2.2.2.2.2))) rfl ?_
    obtain ⟨r26, hr26, h⟩ := bind_eq_some_iff.mp h
    refine QTri.callV W (a := 1) (as := []) (rest := []) (w := none) (σ₁ := (H0 s r26)) rfl rfl rfl rfl rfl rfl rfl rfl (tF15 Ad W s v.2.2.2.2.2.2.2.2.2.2.2.2.2.2.2.2 hr26) ?_
    refine zS Ad W 4 (st' := (291, [vR 0, none, vR 1, vI x3, vI (0:Int32), vI v.2.1, vI v.2.2.1, vI v.2.2.2.1, vI v.2.2.2.2.1, vI v.2.2.2.2.2.1, vI v.2.2.2.2.2.2.1, vI v.2.2.2.2.2.2.2.1, vI v.2.2.2.2.2.2.2.2.1, vI v.2.2.2.2.2.2.2.2.2.1, vI v.2.2.2.2.2.2.2.2.2.2.1, vI v.2.2.2.2.2.2.2.2.2.2.2.1, vI v.2.2.2.2.2.2.2.2.2.2.2.2.1, vI v.2.2.2.2.2.2.2.2.2.2.2.2.2.1, vI (0:Int32), vI v.2.2.2.2.2.2.2.2.2.2.2.2.2.2.2.1, vI (y18 &&& (15:Int32)), vI (y19 &&& (255:Int32)), vI (y20 &&& (255:Int32)), vI (y21 &&& (255:Int32)), vI (y22 &&& (255:Int32)), none, none, none, none, none], [], (H0 s r26))) rfl ?_
    refine zS Ad W 1 (st' := (791, [vR 0, none, vR 1, vI x3, vI (0:Int32), vI v.2.1, vI v.2.2.1, vI v.2.2.2.1, vI v.2.2.2.2.1, vI v.2.2.2.2.2.1, vI v.2.2.2.2.2.2.1, vI v.2.2.2.2.2.2.2.1, vI v.2.2.2.2.2.2.2.2.1, vI v.2.2.2.2.2.2.2.2.2.1, vI v.2.2.2.2.2.2.2.2.2.2.1, vI v.2.2.2.2.2.2.2.2.2.2.2.1, vI v.2.2.2.2.2.2.2.2.2.2.2.2.1, vI v.2.2.2.2.2.2.2.2.2.2.2.2.2.1, vI (0:Int32), vI v.2.2.2.2.2.2.2.2.2.2.2.2.2.2.2.1, vI (y18 &&& (15:Int32)), vI (y19 &&& (255:Int32)), vI (y20 &&& (255:Int32)), vI (y21 &&& (255:Int32)), vI (y22 &&& (255:Int32)), none, none, none, none, none], [], (H0 s r26))) rfl ?_
    exact zM [tt,ff,tt,tt,tt,tt,tt,tt,tt,tt,tt,tt,tt,tt,tt,tt,tt,tt,tt,tt,ff,ff,ff,ff,ff,ff,ff,ff,ff,ff] (tJ0_791 Ad W s r26 x3 (0:Int32) v.2.1 v.2.2.1 v.2.2.2.1 v.2.2.2.2.1 v.2.2.2.2.2.1 v.2.2.2.2.2.2.1 v.2.2.2.2.2.2.2.1 v.2.2.2.2.2.2.2.2.1 v.2.2.2.2.2.2.2.2.2.1 v.2.2.2.2.2.2.2.2.2.2.1 v.2.2.2.2.2.2.2.2.2.2.2.1 v.2.2.2.2.2.2.2.2.2.2.2.2.1 v.2.2.2.2.2.2.2.2.2.2.2.2.2.1 (0:Int32) v.2.2.2.2.2.2.2.2.2.2.2.2.2.2.2.1 h hx0 hc)
   ·refine zT Ad W (t := 294) (f := 281) rfl (XT.ii_ne_t hc24) ?_
    refine zS Ad W 2 (st' := (298, [vR 0, none, vR 1, vI x3, vI v.1, vI v.2.1, vI v.2.2.1, vI v.2.2.2.1, vI v.2.2.2.2.1, vI v.2.2.2.2.2.1, vI v.2.2.2.2.2.2.1, vI v.2.2.2.2.2.2.2.1, vI v.2.2.2.2.2.2.2.2.1, vI v.2.2.2.2.2.2.2.2.2.1, vI v.2.2.2.2.2.2.2.2.2.2.1, vI v.2.2.2.2.2.2.2.2.2.2.2.1, vI v.2.2.2.2.2.2.2.2.2.2.2.2.1, vI v.2.2.2.2.2.2.2.2.2.2.2.2.2.1, vI v.2.2.2.2.2.2.2.2.2.2.2.2.2.2.1, vI v.2.2.2.2.2.2.2.2.2.2.2.2.2.2.2.1, vI (y18 &&& (15:Int32)), vI (y19 &&& (255:Int32)), vI (y20 &&& (255:Int32)), vI (y21 &&& (255:Int32)), vI (y22 &&& (255:Int32)), none, none, none, none, none], [.int (8:Int32), .int (y18 &&& (15:Int32))], (H0 s v.2.2.2.2.2.2.2.2.2.2.2.2.2.2.2.2))) rfl ?_
    rcases qite h with ⟨hc130, h⟩ | ⟨hc130, h⟩
    ·refine zF Ad W (t := 358) (f := 301) rfl (XT.ii_ne_f hc130) ?_
     refine zS Ad W 7 (st' := (310, [vR 0, none, vR 1, vI x3, vI v.1, vI v.2.1, vI v.2.2.1, vI v.2.2.2.1, vI v.2.2.2.2.1, vI v.2.2.2.2.2.1, vI v.2.2.2.2.2.2.1, vI v.2.2.2.2.2.2.2.1, vI v.2.2.2.2.2.2.2.2.1, vI v.2.2.2.2.2.2.2.2.2.1, vI v.2.2.2.2.2.2.2.2.2.2.1, vI v.2.2.2.2.2.2.2.2.2.2.2.1, vI v.2.2.2.2.2.2.2.2.2.2.2.2.1, vI v.2.2.2.2.2.2.2.2.2.2.2.2.2.1, vI v.2.2.2.2.2.2.2.2.2.2.2.2.2.2.1, vI v.2.2.2.2.2.2.2.2.2.2.2.2.2.2.2.1, vI (y18 &&& (15:Int32)), vI (y19 &&& (255:Int32)), vI (y20 &&& (255:Int32)), vI (y21 &&& (255:Int32)), vI (y22 &&& (255:Int32)), none, none, none, none, none], [.int ((y20 &&& (255:Int32)) &&& (1:Int32)), .int ((y19 &&& (255:Int32)) &&& (3:Int32)), .ref 1], (H0 s v.2.2.2.2.2.2.2.2.2.2.2.2.2.2.2.2))) rfl ?_
     obtain ⟨r136, hr136, h⟩ := bind_eq_some_iff.mp h
     refine QTri.callV W (a := 1) (as := [.int ((y19 &&& (255:Int32)) &&& (3:Int32)), .int ((y20 &&& (255:Int32)) &&& (1:Int32))]) (rest := []) (w := (some (.int r136.1))) (σ₁ := (H0 s r136.2)) rfl rfl rfl rfl rfl rfl rfl rfl (tF31 Ad W s v.2.2.2.2.2.2.2.2.2.2.2.2.2.2.2.2 ((y19 &&& (255:Int32)) &&& (3:Int32)) ((y20 &&& (255:Int32)) &&& (1:Int32)) hr136) ?_
     refine zS Ad W 6 (st' := (322, [vR 0, none, vR 1, vI x3, vI v.1, vI v.2.1, vI v.2.2.1, vI v.2.2.2.1, vI v.2.2.2.2.1, vI v.2.2.2.2.2.1, vI v.2.2.2.2.2.2.1, vI v.2.2.2.2.2.2.2.1, vI v.2.2.2.2.2.2.2.2.1, vI v.2.2.2.2.2.2.2.2.2.1, vI v.2.2.2.2.2.2.2.2.2.2.1, vI v.2.2.2.2.2.2.2.2.2.2.2.1, vI v.2.2.2.2.2.2.2.2.2.2.2.2.1, vI v.2.2.2.2.2.2.2.2.2.2.2.2.2.1, vI v.2.2.2.2.2.2.2.2.2.2.2.2.2.2.1, vI v.2.2.2.2.2.2.2.2.2.2.2.2.2.2.2.1, vI (y18 &&& (15:Int32)), vI (y19 &&& (255:Int32)), vI (y20 &&& (255:Int32)), vI (y21 &&& (255:Int32)), vI (y22 &&& (255:Int32)), vI r136.1, none, none, none, none], [.int (2:Int32), .int ((y19 &&& (255:Int32)) &&& (3:Int32)), .int r136.1], (H0 s r136.2))) rfl ?_
     have K138 : ∀ z137 : Int32, z137 = (if (2:Int32) < ((y19 &&& (255:Int32)) &&& (3:Int32)) then (0:Int32) else (1:Int32)) → QTri l Z n0 ad 0 (330, [vR 0, none, vR 1, vI x3, vI v.1, vI v.2.1, vI v.2.2.1, vI v.2.2.2.1, vI v.2.2.2.2.1, vI v.2.2.2.2.2.1, vI v.2.2.2.2.2.2.1, vI v.2.2.2.2.2.2.2.1, vI v.2.2.2.2.2.2.2.2.1, vI v.2.2.2.2.2.2.2.2.2.1, vI v.2.2.2.2.2.2.2.2.2.2.1, vI v.2.2.2.2.2.2.2.2.2.2.2.1, vI v.2.2.2.2.2.2.2.2.2.2.2.2.1, vI v.2.2.2.2.2.2.2.2.2.2.2.2.2.1, vI v.2.2.2.2.2.2.2.2.2.2.2.2.2.2.1, vI v.2.2.2.2.2.2.2.2.2.2.2.2.2.2.2.1, none, vI (y19 &&& (255:Int32)), vI (y20 &&& (255:Int32)), none, none, vI r136.1, none, none, none, none], [.int z137, .int r136.1], (H0 s r136.2)) u τ := by
      intro z137 ez137
      subst ez137
      rcases qite h with ⟨hc140, h⟩ | ⟨hc140, h⟩
      ·refine zT Ad W (t := 335) (f := 333) rfl (XT.ii_eq_t hc140) ?_
       refine zS Ad W 1 (st' := (337, [vR 0, none, vR 1, vI x3, vI v.1, vI v.2.1, vI v.2.2.1, vI v.2.2.2.1, vI v.2.2.2.2.1, vI v.2.2.2.2.2.1, vI v.2.2.2.2.2.2.1, vI v.2.2.2.2.2.2.2.1, vI v.2.2.2.2.2.2.2.2.1, vI v.2.2.2.2.2.2.2.2.2.1, vI v.2.2.2.2.2.2.2.2.2.2.1, vI v.2.2.2.2.2.2.2.2.2.2.2.1, vI v.2.2.2.2.2.2.2.2.2.2.2.2.1, vI v.2.2.2.2.2.2.2.2.2.2.2.2.2.1, vI v.2.2.2.2.2.2.2.2.2.2.2.2.2.2.1, vI v.2.2.2.2.2.2.2.2.2.2.2.2.2.2.2.1, none, vI (y19 &&& (255:Int32)), vI (y20 &&& (255:Int32)), none, none, vI r136.1, none, none, none, none], [.int r136.1], (H0 s r136.2))) rfl ?_
       have K144 : ∀ z141 : Int32, z141 = (if r136.1 = (0:Int32) then v.2.1 else ((y19 &&& (255:Int32)) &&& (3:Int32))) → ∀ z142 : Int32, z142 = (if r136.1 = (0:Int32) then v.2.2.1 else ((y20 &&& (255:Int32)) &&& (1:Int32))) → ∀ z143 : Int32, z143 = (if r136.1 = (0:Int32) then v.2.2.2.2.2.2.2.2.2.2.2.2.2.2.1 else (0:Int32)) → QTri l Z n0 ad 0 (355, [vR 0, none, vR 1, vI x3, vI v.1, vI z141, vI z142, vI v.2.2.2.1, vI v.2.2.2.2.1, vI v.2.2.2.2.2.1, vI v.2.2.2.2.2.2.1, vI v.2.2.2.2.2.2.2.1, vI v.2.2.2.2.2.2.2.2.1, vI v.2.2.2.2.2.2.2.2.2.1, vI v.2.2.2.2.2.2.2.2.2.2.1, vI v.2.2.2.2.2.2.2.2.2.2.2.1, vI v.2.2.2.2.2.2.2.2.2.2.2.2.1, vI v.2.2.2.2.2.2.2.2.2.2.2.2.2.1, vI z143, vI v.2.2.2.2.2.2.2.2.2.2.2.2.2.2.2.1, none, none, none, none, none, none, none, none, none, none], [], (H0 s r136.2)) u τ := by
        intro z141 ez141
        intro z142 ez142
        intro z143 ez143
        subst ez141
        subst ez142
        subst ez143
        refine zS Ad W 1 (st' := (791, [vR 0, none, vR 1, vI x3, vI v.1, vI (if r136.1 = (0:Int32) then v.2.1 else ((y19 &&& (255:Int32)) &&& (3:Int32))), vI (if r136.1 = (0:Int32) then v.2.2.1 else ((y20 &&& (255:Int32)) &&& (1:Int32))), vI v.2.2.2.1, vI v.2.2.2.2.1, vI v.2.2.2.2.2.1, vI v.2.2.2.2.2.2.1, vI v.2.2.2.2.2.2.2.1, vI v.2.2.2.2.2.2.2.2.1, vI v.2.2.2.2.2.2.2.2.2.1, vI v.2.2.2.2.2.2.2.2.2.2.1, vI v.2.2.2.2.2.2.2.2.2.2.2.1, vI v.2.2.2.2.2.2.2.2.2.2.2.2.1, vI v.2.2.2.2.2.2.2.2.2.2.2.2.2.1, vI (if r136.1 = (0:Int32) then v.2.2.2.2.2.2.2.2.2.2.2.2.2.2.1 else (0:Int32)), vI v.2.2.2.2.2.2.2.2.2.2.2.2.2.2.2.1, none, none, none, none, none, none, none, none, none, none], [], (H0 s r136.2))) rfl ?_
        exact zM [tt,ff,tt,tt,tt,tt,tt,tt,tt,tt,tt,tt,tt,tt,tt,tt,tt,tt,tt,tt,ff,ff,ff,ff,ff,ff,ff,ff,ff,ff] (tJ0_791 Ad W s r136.2 x3 v.1 (if r136.1 = (0:Int32) then v.2.1 else ((y19 &&& (255:Int32)) &&& (3:Int32))) (if r136.1 = (0:Int32) then v.2.2.1 else ((y20 &&& (255:Int32)) &&& (1:Int32))) v.2.2.2.1 v.2.2.2.2.1 v.2.2.2.2.2.1 v.2.2.2.2.2.2.1 v.2.2.2.2.2.2.2.1 v.2.2.2.2.2.2.2.2.1 v.2.2.2.2.2.2.2.2.2.1 v.2.2.2.2.2.2.2.2.2.2.1 v.2.2.2.2.2.2.2.2.2.2.2.1 v.2.2.2.2.2.2.2.2.2.2.2.2.1 v.2.2.2.2.2.2.2.2.2.2.2.2.2.1 (if r136.1 = (0:Int32) then v.2.2.2.2.2.2.2.2.2.2.2.2.2.2.1 else (0:Int32)) v.2.2.2.2.2.2.2.2.2.2.2.2.2.2.2.1 h hx0 hc)
       rcases em (r136.1 = (0:Int32)) with hc145 | hc145
       ·refine zT Ad W (t := 355) (f := 340) rfl (XT.i0_eq_t hc145) ?_
        exact zM [tt,ff,tt,tt,tt,tt,tt,tt,tt,tt,tt,tt,tt,tt,tt,tt,tt,tt,tt,tt,ff,ff,ff,ff,ff,ff,ff,ff,ff,ff] (K144 _ (if_pos hc145).symm _ (if_pos hc145).symm _ (if_pos hc145).symm)
       ·refine zF Ad W (t := 355) (f := 340) rfl (XT.i0_eq_f hc145) ?_
        refine zS Ad W 8 (st' := (352, [vR 0, none, vR 1, vI x3, vI v.1, vI ((y19 &&& (255:Int32)) &&& (3:Int32)), vI ((y20 &&& (255:Int32)) &&& (1:Int32)), vI v.2.2.2.1, vI v.2.2.2.2.1, vI v.2.2.2.2.2.1, vI v.2.2.2.2.2.2.1, vI v.2.2.2.2.2.2.2.1, vI v.2.2.2.2.2.2.2.2.1, vI v.2.2.2.2.2.2.2.2.2.1, vI v.2.2.2.2.2.2.2.2.2.2.1, vI v.2.2.2.2.2.2.2.2.2.2.2.1, vI v.2.2.2.2.2.2.2.2.2.2.2.2.1, vI v.2.2.2.2.2.2.2.2.2.2.2.2.2.1, vI v.2.2.2.2.2.2.2.2.2.2.2.2.2.2.1, vI v.2.2.2.2.2.2.2.2.2.2.2.2.2.2.2.1, none, vI (y19 &&& (255:Int32)), vI (y20 &&& (255:Int32)), none, none, vI r136.1, none, none, none, none], [], (H0 s r136.2))) rfl ?_
        refine zS Ad W 2 (st' := (355, [vR 0, none, vR 1, vI x3, vI v.1, vI ((y19 &&& (255:Int32)) &&& (3:Int32)), vI ((y20 &&& (255:Int32)) &&& (1:Int32)), vI v.2.2.2.1, vI v.2.2.2.2.1, vI v.2.2.2.2.2.1, vI v.2.2.2.2.2.2.1, vI v.2.2.2.2.2.2.2.1, vI v.2.2.2.2.2.2.2.2.1, vI v.2.2.2.2.2.2.2.2.2.1, vI v.2.2.2.2.2.2.2.2.2.2.1, vI v.2.2.2.2.2.2.2.2.2.2.2.1, vI v.2.2.2.2.2.2.2.2.2.2.2.2.1, vI v.2.2.2.2.2.2.2.2.2.2.2.2.2.1, vI (0:Int32), vI v.2.2.2.2.2.2.2.2.2.2.2.2.2.2.2.1, none, vI (y19 &&& (255:Int32)), vI (y20 &&& (255:Int32)), none, none, vI r136.1, none, none, none, none], [], (H0 s r136.2))) rfl ?_
        exact zM [tt,ff,tt,tt,tt,tt,tt,tt,tt,tt,tt,tt,tt,tt,tt,tt,tt,tt,tt,tt,ff,ff,ff,ff,ff,ff,ff,ff,ff,ff] (K144 _ (if_neg hc145).symm _ (if_neg hc145).symm _ (if_neg hc145).symm)
      ·refine zF Ad W (t := 335) (f := 333) rfl (XT.ii_eq_f hc140) ?_
       refine zS Ad W 1 (st' := (334, [vR 0, none, vR 1, vI x3, vI v.1, vI v.2.1, vI v.2.2.1, vI v.2.2.2.1, vI v.2.2.2.2.1, vI v.2.2.2.2.2.1, vI v.2.2.2.2.2.2.1, vI v.2.2.2.2.2.2.2.1, vI v.2.2.2.2.2.2.2.2.1, vI v.2.2.2.2.2.2.2.2.2.1, vI v.2.2.2.2.2.2.2.2.2.2.1, vI v.2.2.2.2.2.2.2.2.2.2.2.1, vI v.2.2.2.2.2.2.2.2.2.2.2.2.1, vI v.2.2.2.2.2.2.2.2.2.2.2.2.2.1, vI v.2.2.2.2.2.2.2.2.2.2.2.2.2.2.1, vI v.2.2.2.2.2.2.2.2.2.2.2.2.2.2.2.1, none, vI (y19 &&& (255:Int32)), vI (y20 &&& (255:Int32)), none, none, vI r136.1, none, none, none, none], [.int (0:Int32)], (H0 s r136.2))) rfl ?_
       obtain rfl := Option.some.inj h
       obtain ⟨rfl, rfl⟩ := hx0 ((0:Int32), (H0 s r136.2)) rfl
       exact QTri.retZ rfl rfl
     rcases em ((2:Int32) < ((y19 &&& (255:Int32)) &&& (3:Int32))) with hc139 | hc139
     ·refine zT Ad W (t := 329) (f := 325) rfl (XT.ii_gt_t hc139) ?_
      refine zS Ad W 1 (st' := (330, [vR 0, none, vR 1, vI x3, vI v.1, vI v.2.1, vI v.2.2.1, vI v.2.2.2.1, vI v.2.2.2.2.1, vI v.2.2.2.2.2.1, vI v.2.2.2.2.2.2.1, vI v.2.2.2.2.2.2.2.1, vI v.2.2.2.2.2.2.2.2.1, vI v.2.2.2.2.2.2.2.2.2.1, vI v.2.2.2.2.2.2.2.2.2.2.1, vI v.2.2.2.2.2.2.2.2.2.2.2.1, vI v.2.2.2.2.2.2.2.2.2.2.2.2.1, vI v.2.2.2.2.2.2.2.2.2.2.2.2.2.1, vI v.2.2.2.2.2.2.2.2.2.2.2.2.2.2.1, vI v.2.2.2.2.2.2.2.2.2.2.2.2.2.2.2.1, vI (y18 &&& (15:Int32)), vI (y19 &&& (255:Int32)), vI (y20 &&& (255:Int32)), vI (y21 &&& (255:Int32)), vI (y22 &&& (255:Int32)), vI r136.1, none, none, none, none], [.int (0:Int32), .int r136.1], (H0 s r136.2))) rfl ?_
      exact zM [tt,ff,tt,tt,tt,tt,tt,tt,tt,tt,tt,tt,tt,tt,tt,tt,tt,tt,tt,tt,ff,tt,tt,ff,ff,tt,ff,ff,ff,ff] (K138 _ (if_pos hc139).symm)
     ·refine zF Ad W (t := 329) (f := 325) rfl (XT.ii_gt_f hc139) ?_
      refine zS Ad W 2 (st' := (330, [vR 0, none, vR 1, vI x3, vI v.1, vI v.2.1, vI v.2.2.1, vI v.2.2.2.1, vI v.2.2.2.2.1, vI v.2.2.2.2.2.1, vI v.2.2.2.2.2.2.1, vI v.2.2.2.2.2.2.2.1, vI v.2.2.2.2.2.2.2.2.1, vI v.2.2.2.2.2.2.2.2.2.1, vI v.2.2.2.2.2.2.2.2.2.2.1, vI v.2.2.2.2.2.2.2.2.2.2.2.1, vI v.2.2.2.2.2.2.2.2.2.2.2.2.1, vI v.2.2.2.2.2.2.2.2.2.2.2.2.2.1, vI v.2.2.2.2.2.2.2.2.2.2.2.2.2.2.1, vI v.2.2.2.2.2.2.2.2.2.2.2.2.2.2.2.1, vI (y18 &&& (15:Int32)), vI (y19 &&& (255:Int32)), vI (y20 &&& (255:Int32)), vI (y21 &&& (255:Int32)), vI (y22 &&& (255:Int32)), vI r136.1, none, none, none, none], [.int (1:Int32), .int r136.1], (H0 s r136.2))) rfl ?_
      exact zM [tt,ff,tt,tt,tt,tt,tt,tt,tt,tt,tt,tt,tt,tt,tt,tt,tt,tt,tt,tt,ff,tt,tt,ff,ff,tt,ff,ff,ff,ff] (K138 _ (if_neg hc139).symm)
    ·refine zT Ad W (t := 358) (f := 301) rfl (XT.ii_ne_t hc130) ?_
     refine zS Ad W 2 (st' := (362, [vR 0, none, vR 1, vI x3, vI v.1, vI v.2.1, vI v.2.2.1, vI v.2.2.2.1, vI v.2.2.2.2.1, vI v.2.2.2.2.2.1, vI v.2.2.2.2.2.2.1, vI v.2.2.2.2.2.2.2.1, vI v.2.2.2.2.2.2.2.2.1, vI v.2.2.2.2.2.2.2.2.2.1, vI v.2.2.2.2.2.2.2.2.2.2.1, vI v.2.2.2.2.2.2.2.2.2.2.2.1, vI v.2.2.2.2.2.2.2.2.2.2.2.2.1, vI v.2.2.2.2.2.2.2.2.2.2.2.2.2.1, vI v.2.2.2.2.2.2.2.2.2.2.2.2.2.2.1, vI v.2.2.2.2.2.2.2.2.2.2.2.2.2.2.2.1, vI (y18 &&& (15:Int32)), vI (y19 &&& (255:Int32)), vI (y20 &&& (255:Int32)), vI (y21 &&& (255:Int32)), vI (y22 &&& (255:Int32)), none, none, none, none, none], [.int (9:Int32), .int (y18 &&& (15:Int32))], (H0 s v.2.2.2.2.2.2.2.2.2.2.2.2.2.2.2.2))) rfl ?_
     rcases qite h with ⟨hc146, h⟩ | ⟨hc146, h⟩
     ·refine zF Ad W (t := 412) (f := 365) rfl (XT.ii_ne_f hc146) ?_
      refine zS Ad W 4 (st' := (370, [vR 0, none, vR 1, vI x3, vI v.1, vI v.2.1, vI v.2.2.1, vI v.2.2.2.1, vI v.2.2.2.2.1, vI v.2.2.2.2.2.1, vI v.2.2.2.2.2.2.1, vI v.2.2.2.2.2.2.2.1, vI v.2.2.2.2.2.2.2.2.1, vI v.2.2.2.2.2.2.2.2.2.1, vI v.2.2.2.2.2.2.2.2.2.2.1, vI v.2.2.2.2.2.2.2.2.2.2.2.1, vI v.2.2.2.2.2.2.2.2.2.2.2.2.1, vI v.2.2.2.2.2.2.2.2.2.2.2.2.2.1, vI v.2.2.2.2.2.2.2.2.2.2.2.2.2.2.1, vI v.2.2.2.2.2.2.2.2.2.2.2.2.2.2.2.1, vI (y18 &&& (15:Int32)), vI (y19 &&& (255:Int32)), vI (y20 &&& (255:Int32)), vI (y21 &&& (255:Int32)), vI (y22 &&& (255:Int32)), none, none, none, none, none], [.int ((y19 &&& (255:Int32)) % (3:Int32)), .ref 1], (H0 s v.2.2.2.2.2.2.2.2.2.2.2.2.2.2.2.2))) rfl ?_
      obtain ⟨r151, hr151, h⟩ := bind_eq_some_iff.mp h
      refine QTri.callV W (a := 1) (as := [.int ((y19 &&& (255:Int32)) % (3:Int32))]) (rest := []) (w := (some (.int r151.1))) (σ₁ := (H0 s r151.2)) rfl rfl rfl rfl rfl rfl rfl rfl (tF30 Ad W s v.2.2.2.2.2.2.2.2.2.2.2.2.2.2.2.2 ((y19 &&& (255:Int32)) % (3:Int32)) hr151) ?_
      refine zS Ad W 6 (st' := (382, [vR 0, none, vR 1, vI x3, vI v.1, vI v.2.1, vI v.2.2.1, vI v.2.2.2.1, vI v.2.2.2.2.1, vI v.2.2.2.2.2.1, vI v.2.2.2.2.2.2.1, vI v.2.2.2.2.2.2.2.1, vI v.2.2.2.2.2.2.2.2.1, vI v.2.2.2.2.2.2.2.2.2.1, vI v.2.2.2.2.2.2.2.2.2.2.1, vI v.2.2.2.2.2.2.2.2.2.2.2.1, vI v.2.2.2.2.2.2.2.2.2.2.2.2.1, vI v.2.2.2.2.2.2.2.2.2.2.2.2.2.1, vI v.2.2.2.2.2.2.2.2.2.2.2.2.2.2.1, vI v.2.2.2.2.2.2.2.2.2.2.2.2.2.2.2.1, vI (y18 &&& (15:Int32)), vI (y19 &&& (255:Int32)), vI (y20 &&& (255:Int32)), vI (y21 &&& (255:Int32)), vI (y22 &&& (255:Int32)), vI r151.1, none, none, none, none], [.int (1:Int32), .int ((y19 &&& (255:Int32)) % (3:Int32)), .int r151.1], (H0 s r151.2))) rfl ?_
      have K154 : ∀ z153 : Int32, z153 = (if (1:Int32) < ((y19 &&& (255:Int32)) % (3:Int32)) then (0:Int32) else (1:Int32)) → QTri l Z n0 ad 0 (390, [vR 0, none, vR 1, vI x3, vI v.1, vI v.2.1, vI v.2.2.1, vI v.2.2.2.1, vI v.2.2.2.2.1, vI v.2.2.2.2.2.1, vI v.2.2.2.2.2.2.1, vI v.2.2.2.2.2.2.2.1, vI v.2.2.2.2.2.2.2.2.1, vI v.2.2.2.2.2.2.2.2.2.1, vI v.2.2.2.2.2.2.2.2.2.2.1, vI v.2.2.2.2.2.2.2.2.2.2.2.1, vI v.2.2.2.2.2.2.2.2.2.2.2.2.1, vI v.2.2.2.2.2.2.2.2.2.2.2.2.2.1, vI v.2.2.2.2.2.2.2.2.2.2.2.2.2.2.1, vI v.2.2.2.2.2.2.2.2.2.2.2.2.2.2.2.1, none, vI (y19 &&& (255:Int32)), none, none, none, vI r151.1, none, none, none, none], [.int z153, .int r151.1], (H0 s r151.2)) u τ := by
       intro z153 ez153
       subst ez153
       rcases qite h with ⟨hc156, h⟩ | ⟨hc156, h⟩
       ·refine zT Ad W (t := 395) (f := 393) rfl (XT.ii_eq_t hc156) ?_
        refine zS Ad W 1 (st' := (397, [vR 0, none, vR 1, vI x3, vI v.1, vI v.2.1, vI v.2.2.1, vI v.2.2.2.1, vI v.2.2.2.2.1, vI v.2.2.2.2.2.1, vI v.2.2.2.2.2.2.1, vI v.2.2.2.2.2.2.2.1, vI v.2.2.2.2.2.2.2.2.1, vI v.2.2.2.2.2.2.2.2.2.1, vI v.2.2.2.2.2.2.2.2.2.2.1, vI v.2.2.2.2.2.2.2.2.2.2.2.1, vI v.2.2.2.2.2.2.2.2.2.2.2.2.1, vI v.2.2.2.2.2.2.2.2.2.2.2.2.2.1, vI v.2.2.2.2.2.2.2.2.2.2.2.2.2.2.1, vI v.2.2.2.2.2.2.2.2.2.2.2.2.2.2.2.1, none, vI (y19 &&& (255:Int32)), none, none, none, vI r151.1, none, none, none, none], [.int r151.1], (H0 s r151.2))) rfl ?_
        rcases qite h with ⟨hc157, h⟩ | ⟨hc157, h⟩
        ·refine zT Ad W (t := 409) (f := 400) rfl (XT.i0_eq_t hc157) ?_
         exact zM [tt,ff,tt,tt,tt,tt,tt,tt,tt,tt,tt,tt,tt,tt,tt,tt,tt,tt,tt,tt,ff,ff,ff,ff,ff,ff,ff,ff,ff,ff] (tJ0_409 Ad W s r151.2 x3 v.1 v.2.1 v.2.2.1 v.2.2.2.1 v.2.2.2.2.1 v.2.2.2.2.2.1 v.2.2.2.2.2.2.1 v.2.2.2.2.2.2.2.1 v.2.2.2.2.2.2.2.2.1 v.2.2.2.2.2.2.2.2.2.1 v.2.2.2.2.2.2.2.2.2.2.1 v.2.2.2.2.2.2.2.2.2.2.2.1 v.2.2.2.2.2.2.2.2.2.2.2.2.1 v.2.2.2.2.2.2.2.2.2.2.2.2.2.1 v.2.2.2.2.2.2.2.2.2.2.2.2.2.2.1 v.2.2.2.2.2.2.2.2.2.2.2.2.2.2.2.1 h hx0 hc)
        ·refine zF Ad W (t := 409) (f := 400) rfl (XT.i0_eq_f hc157) ?_
         refine zS Ad W 6 (st' := (409, [vR 0, none, vR 1, vI x3, vI v.1, vI v.2.1, vI v.2.2.1, vI ((y19 &&& (255:Int32)) % (3:Int32)), vI v.2.2.2.2.1, vI v.2.2.2.2.2.1, vI v.2.2.2.2.2.2.1, vI v.2.2.2.2.2.2.2.1, vI v.2.2.2.2.2.2.2.2.1, vI v.2.2.2.2.2.2.2.2.2.1, vI v.2.2.2.2.2.2.2.2.2.2.1, vI v.2.2.2.2.2.2.2.2.2.2.2.1, vI v.2.2.2.2.2.2.2.2.2.2.2.2.1, vI v.2.2.2.2.2.2.2.2.2.2.2.2.2.1, vI (0:Int32), vI v.2.2.2.2.2.2.2.2.2.2.2.2.2.2.2.1, none, vI (y19 &&& (255:Int32)), none, none, none, vI r151.1, none, none, none, none], [], (H0 s r151.2))) rfl ?_
         exact zM [tt,ff,tt,tt,tt,tt,tt,tt,tt,tt,tt,tt,tt,tt,tt,tt,tt,tt,tt,tt,ff,ff,ff,ff,ff,ff,ff,ff,ff,ff] (tJ0_409 Ad W s r151.2 x3 v.1 v.2.1 v.2.2.1 ((y19 &&& (255:Int32)) % (3:Int32)) v.2.2.2.2.1 v.2.2.2.2.2.1 v.2.2.2.2.2.2.1 v.2.2.2.2.2.2.2.1 v.2.2.2.2.2.2.2.2.1 v.2.2.2.2.2.2.2.2.2.1 v.2.2.2.2.2.2.2.2.2.2.1 v.2.2.2.2.2.2.2.2.2.2.2.1 v.2.2.2.2.2.2.2.2.2.2.2.2.1 v.2.2.2.2.2.2.2.2.2.2.2.2.2.1 (0:Int32) v.2.2.2.2.2.2.2.2.2.2.2.2.2.2.2.1 h hx0 hc)
       ·refine zF Ad W (t := 395) (f := 393) rfl (XT.ii_eq_f hc156) ?_
        refine zS Ad W 1 (st' := (394, [vR 0, none, vR 1, vI x3, vI v.1, vI v.2.1, vI v.2.2.1, vI v.2.2.2.1, vI v.2.2.2.2.1, vI v.2.2.2.2.2.1, vI v.2.2.2.2.2.2.1, vI v.2.2.2.2.2.2.2.1, vI v.2.2.2.2.2.2.2.2.1, vI v.2.2.2.2.2.2.2.2.2.1, vI v.2.2.2.2.2.2.2.2.2.2.1, vI v.2.2.2.2.2.2.2.2.2.2.2.1, vI v.2.2.2.2.2.2.2.2.2.2.2.2.1, vI v.2.2.2.2.2.2.2.2.2.2.2.2.2.1, vI v.2.2.2.2.2.2.2.2.2.2.2.2.2.2.1, vI v.2.2.2.2.2.2.2.2.2.2.2.2.2.2.2.1, none, vI (y19 &&& (255:Int32)), none, none, none, vI r151.1, none, none, none, none], [.int (0:Int32)], (H0 s r151.2))) rfl ?_
        obtain rfl := Option.some.inj h
        obtain ⟨rfl, rfl⟩ := hx0 ((0:Int32), (H0 s r151.2)) rfl
        exact QTri.retZ rfl rfl
      rcases em ((1:Int32) < ((y19 &&& (255:Int32)) % (3:Int32))) with hc155 | hc155
      ·refine zT Ad W (t := 389) (f := 385) rfl (XT.ii_gt_t hc155) ?_
       refine zS Ad W 1 (st' := (390, [vR 0, none, vR 1, vI x3, vI v.1, vI v.2.1, vI v.2.2.1, vI v.2.2.2.1, vI v.2.2.2.2.1, vI v.2.2.2.2.2.1, vI v.2.2.2.2.2.2.1, vI v.2.2.2.2.2.2.2.1, vI v.2.2.2.2.2.2.2.2.1, vI v.2.2.2.2.2.2.2.2.2.1, vI v.2.2.2.2.2.2.2.2.2.2.1, vI v.2.2.2.2.2.2.2.2.2.2.2.1, vI v.2.2.2.2.2.2.2.2.2.2.2.2.1, vI v.2.2.2.2.2.2.2.2.2.2.2.2.2.1, vI v.2.2.2.2.2.2.2.2.2.2.2.2.2.2.1, vI v.2.2.2.2.2.2.2.2.2.2.2.2.2.2.2.1, vI (y18 &&& (15:Int32)), vI (y19 &&& (255:Int32)), vI (y20 &&& (255:Int32)), vI (y21 &&& (255:Int32)), vI (y22 &&& (255:Int32)), vI r151.1, none, none, none, none], [.int (0:Int32), .int r151.1], (H0 s r151.2))) rfl ?_
       exact zM [tt,ff,tt,tt,tt,tt,tt,tt,tt,tt,tt,tt,tt,tt,tt,tt,tt,tt,tt,tt,ff,tt,ff,ff,ff,tt,ff,ff,ff,ff] (K154 _ (if_pos hc155).symm)
      ·refine zF Ad W (t := 389) (f := 385) rfl (XT.ii_gt_f hc155) ?_
       refine zS Ad W 2 (st' := (390, [vR 0, none, vR 1, vI x3, vI v.1, vI v.2.1, vI v.2.2.1, vI v.2.2.2.1, vI v.2.2.2.2.1, vI v.2.2.2.2.2.1, vI v.2.2.2.2.2.2.1, vI v.2.2.2.2.2.2.2.1, vI v.2.2.2.2.2.2.2.2.1, vI v.2.2.2.2.2.2.2.2.2.1, vI v.2.2.2.2.2.2.2.2.2.2.1, vI v.2.2.2.2.2.2.2.2.2.2.2.1, vI v.2.2.2.2.2.2.2.2.2.2.2.2.1, vI v.2.2.2.2.2.2.2.2.2.2.2.2.2.1, vI v.2.2.2.2.2.2.2.2.2.2.2.2.2.2.1, vI v.2.2.2.2.2.2.2.2.2.2.2.2.2.2.2.1, vI (y18 &&& (15:Int32)), vI (y19 &&& (255:Int32)), vI (y20 &&& (255:Int32)), vI (y21 &&& (255:Int32)), vI (y22 &&& (255:Int32)), vI r151.1, none, none, none, none], [.int (1:Int32), .int r151.1], (H0 s r151.2))) rfl ?_
       exact zM [tt,ff,tt,tt,tt,tt,tt,tt,tt,tt,tt,tt,tt,tt,tt,tt,tt,tt,tt,tt,ff,tt,ff,ff,ff,tt,ff,ff,ff,ff] (K154 _ (if_neg hc155).symm)
     ·refine zT Ad W (t := 412) (f := 365) rfl (XT.ii_ne_t hc146) ?_
      refine zS Ad W 2 (st' := (416, [vR 0, none, vR 1, vI x3, vI v.1, vI v.2.1, vI v.2.2.1, vI v.2.2.2.1, vI v.2.2.2.2.1, vI v.2.2.2.2.2.1, vI v.2.2.2.2.2.2.1, vI v.2.2.2.2.2.2.2.1, vI v.2.2.2.2.2.2.2.2.1, vI v.2.2.2.2.2.2.2.2.2.1, vI v.2.2.2.2.2.2.2.2.2.2.1, vI v.2.2.2.2.2.2.2.2.2.2.2.1, vI v.2.2.2.2.2.2.2.2.2.2.2.2.1, vI v.2.2.2.2.2.2.2.2.2.2.2.2.2.1, vI v.2.2.2.2.2.2.2.2.2.2.2.2.2.2.1, vI v.2.2.2.2.2.2.2.2.2.2.2.2.2.2.2.1, vI (y18 &&& (15:Int32)), vI (y19 &&& (255:Int32)), vI (y20 &&& (255:Int32)), vI (y21 &&& (255:Int32)), vI (y22 &&& (255:Int32)), none, none, none, none, none], [.int (10:Int32), .int (y18 &&& (15:Int32))], (H0 s v.2.2.2.2.2.2.2.2.2.2.2.2.2.2.2.2))) rfl ?_
      rcases qite h with ⟨hc159, h⟩ | ⟨hc159, h⟩
      ·refine zT Ad W (t := 426) (f := 419) rfl (XT.ii_eq_t hc159) ?_
       exact zM [tt,ff,tt,tt,tt,tt,tt,tt,tt,tt,tt,tt,tt,tt,tt,tt,tt,tt,tt,tt,tt,tt,tt,ff,ff,ff,ff,ff,ff,ff] (tJ0_426 Ad W s v.2.2.2.2.2.2.2.2.2.2.2.2.2.2.2.2 x3 v.1 v.2.1 v.2.2.1 v.2.2.2.1 v.2.2.2.2.1 v.2.2.2.2.2.1 v.2.2.2.2.2.2.1 v.2.2.2.2.2.2.2.1 v.2.2.2.2.2.2.2.2.1 v.2.2.2.2.2.2.2.2.2.1 v.2.2.2.2.2.2.2.2.2.2.1 v.2.2.2.2.2.2.2.2.2.2.2.1 v.2.2.2.2.2.2.2.2.2.2.2.2.1 v.2.2.2.2.2.2.2.2.2.2.2.2.2.1 v.2.2.2.2.2.2.2.2.2.2.2.2.2.2.1 v.2.2.2.2.2.2.2.2.2.2.2.2.2.2.2.1 (y18 &&& (15:Int32)) (y19 &&& (255:Int32)) (y20 &&& (255:Int32)) h hx0 hc)
      ·refine zF Ad W (t := 426) (f := 419) rfl (XT.ii_eq_f hc159) ?_
       refine zS Ad W 2 (st' := (423, [vR 0, none, vR 1, vI x3, vI v.1, vI v.2.1, vI v.2.2.1, vI v.2.2.2.1, vI v.2.2.2.2.1, vI v.2.2.2.2.2.1, vI v.2.2.2.2.2.2.1, vI v.2.2.2.2.2.2.2.1, vI v.2.2.2.2.2.2.2.2.1, vI v.2.2.2.2.2.2.2.2.2.1, vI v.2.2.2.2.2.2.2.2.2.2.1, vI v.2.2.2.2.2.2.2.2.2.2.2.1, vI v.2.2.2.2.2.2.2.2.2.2.2.2.1, vI v.2.2.2.2.2.2.2.2.2.2.2.2.2.1, vI v.2.2.2.2.2.2.2.2.2.2.2.2.2.2.1, vI v.2.2.2.2.2.2.2.2.2.2.2.2.2.2.2.1, vI (y18 &&& (15:Int32)), vI (y19 &&& (255:Int32)), vI (y20 &&& (255:Int32)), vI (y21 &&& (255:Int32)), vI (y22 &&& (255:Int32)), none, none, none, none, none], [.int (11:Int32), .int (y18 &&& (15:Int32))], (H0 s v.2.2.2.2.2.2.2.2.2.2.2.2.2.2.2.2))) rfl ?_
       rcases qite h with ⟨hc217, h⟩ | ⟨hc217, h⟩
       ·refine zF Ad W (t := 607) (f := 426) rfl (XT.ii_ne_f hc217) ?_
        exact zM [tt,ff,tt,tt,tt,tt,tt,tt,tt,tt,tt,tt,tt,tt,tt,tt,tt,tt,tt,tt,tt,tt,tt,ff,ff,ff,ff,ff,ff,ff] (tJ0_426 Ad W s v.2.2.2.2.2.2.2.2.2.2.2.2.2.2.2.2 x3 v.1 v.2.1 v.2.2.1 v.2.2.2.1 v.2.2.2.2.1 v.2.2.2.2.2.1 v.2.2.2.2.2.2.1 v.2.2.2.2.2.2.2.1 v.2.2.2.2.2.2.2.2.1 v.2.2.2.2.2.2.2.2.2.1 v.2.2.2.2.2.2.2.2.2.2.1 v.2.2.2.2.2.2.2.2.2.2.2.1 v.2.2.2.2.2.2.2.2.2.2.2.2.1 v.2.2.2.2.2.2.2.2.2.2.2.2.2.1 v.2.2.2.2.2.2.2.2.2.2.2.2.2.2.1 v.2.2.2.2.2.2.2.2.2.2.2.2.2.2.2.1 (y18 &&& (15:Int32)) (y19 &&& (255:Int32)) (y20 &&& (255:Int32)) h hx0 hc)
       ·refine zT Ad W (t := 607) (f := 426) rfl (XT.ii_ne_t hc217) ?_
        refine zS Ad W 2 (st' := (611, [vR 0, none, vR 1, vI x3, vI v.1, vI v.2.1, vI v.2.2.1, vI v.2.2.2.1, vI v.2.2.2.2.1, vI v.2.2.2.2.2.1, vI v.2.2.2.2.2.2.1, vI v.2.2.2.2.2.2.2.1, vI v.2.2.2.2.2.2.2.2.1, vI v.2.2.2.2.2.2.2.2.2.1, vI v.2.2.2.2.2.2.2.2.2.2.1, vI v.2.2.2.2.2.2.2.2.2.2.2.1, vI v.2.2.2.2.2.2.2.2.2.2.2.2.1, vI v.2.2.2.2.2.2.2.2.2.2.2.2.2.1, vI v.2.2.2.2.2.2.2.2.2.2.2.2.2.2.1, vI v.2.2.2.2.2.2.2.2.2.2.2.2.2.2.2.1, vI (y18 &&& (15:Int32)), vI (y19 &&& (255:Int32)), vI (y20 &&& (255:Int32)), vI (y21 &&& (255:Int32)), vI (y22 &&& (255:Int32)), none, none, none, none, none], [.int (12:Int32), .int (y18 &&& (15:Int32))], (H0 s v.2.2.2.2.2.2.2.2.2.2.2.2.2.2.2.2))) rfl ?_
        rcases qite h with ⟨hc218, h⟩ | ⟨hc218, h⟩
        ·refine zF Ad W (t := 718) (f := 614) rfl (XT.ii_ne_f hc218) ?_
         refine zS Ad W 10 (st' := (630, [vR 0, none, vR 1, vI x3, vI v.1, vI v.2.1, vI v.2.2.1, vI v.2.2.2.1, vI v.2.2.2.2.1, vI v.2.2.2.2.2.1, vI v.2.2.2.2.2.2.1, vI v.2.2.2.2.2.2.2.1, vI v.2.2.2.2.2.2.2.2.1, vI v.2.2.2.2.2.2.2.2.2.1, vI v.2.2.2.2.2.2.2.2.2.2.1, vI v.2.2.2.2.2.2.2.2.2.2.2.1, vI v.2.2.2.2.2.2.2.2.2.2.2.2.1, vI v.2.2.2.2.2.2.2.2.2.2.2.2.2.1, vI v.2.2.2.2.2.2.2.2.2.2.2.2.2.2.1, vI v.2.2.2.2.2.2.2.2.2.2.2.2.2.2.2.1, vI (y18 &&& (15:Int32)), vI (y19 &&& (255:Int32)), vI (y20 &&& (255:Int32)), vI (y21 &&& (255:Int32)), vI (y22 &&& (255:Int32)), vI ((y19 &&& (255:Int32)) % (11:Int32)), vI (((y20 &&& (255:Int32)) &&& (7:Int32)) - (1:Int32)), none, none, none], [], (H0 s v.2.2.2.2.2.2.2.2.2.2.2.2.2.2.2.2))) rfl ?_
         refine zS Ad W 2 (st' := (634, [vR 0, none, vR 1, vI x3, vI v.1, vI v.2.1, vI v.2.2.1, vI v.2.2.2.1, vI v.2.2.2.2.1, vI v.2.2.2.2.2.1, vI v.2.2.2.2.2.2.1, vI v.2.2.2.2.2.2.2.1, vI v.2.2.2.2.2.2.2.2.1, vI v.2.2.2.2.2.2.2.2.2.1, vI v.2.2.2.2.2.2.2.2.2.2.1, vI v.2.2.2.2.2.2.2.2.2.2.2.1, vI v.2.2.2.2.2.2.2.2.2.2.2.2.1, vI v.2.2.2.2.2.2.2.2.2.2.2.2.2.1, vI v.2.2.2.2.2.2.2.2.2.2.2.2.2.2.1, vI v.2.2.2.2.2.2.2.2.2.2.2.2.2.2.2.1, vI (y18 &&& (15:Int32)), vI (y19 &&& (255:Int32)), vI (y20 &&& (255:Int32)), vI (y21 &&& (255:Int32)), vI (y22 &&& (255:Int32)), vI ((y19 &&& (255:Int32)) % (11:Int32)), vI (((y20 &&& (255:Int32)) &&& (7:Int32)) - (1:Int32)), none, none, none], [.int (8:Int32), .int ((y19 &&& (255:Int32)) % (11:Int32))], (H0 s v.2.2.2.2.2.2.2.2.2.2.2.2.2.2.2.2))) rfl ?_
         have K221 : ∀ z220 : Int32, z220 = (if ((y19 &&& (255:Int32)) % (11:Int32)) = (8:Int32) then (1:Int32) else (if ((y19 &&& (255:Int32)) % (11:Int32)) = (9:Int32) then (1:Int32) else (0:Int32))) → QTri l Z n0 ad 0 (649, [vR 0, none, vR 1, vI x3, vI v.1, vI v.2.1, vI v.2.2.1, vI v.2.2.2.1, vI v.2.2.2.2.1, vI v.2.2.2.2.2.1, vI v.2.2.2.2.2.2.1, vI v.2.2.2.2.2.2.2.1, vI v.2.2.2.2.2.2.2.2.1, vI v.2.2.2.2.2.2.2.2.2.1, vI v.2.2.2.2.2.2.2.2.2.2.1, vI v.2.2.2.2.2.2.2.2.2.2.2.1, vI v.2.2.2.2.2.2.2.2.2.2.2.2.1, vI v.2.2.2.2.2.2.2.2.2.2.2.2.2.1, vI v.2.2.2.2.2.2.2.2.2.2.2.2.2.2.1, vI v.2.2.2.2.2.2.2.2.2.2.2.2.2.2.2.1, none, none, none, none, none, vI ((y19 &&& (255:Int32)) % (11:Int32)), vI (((y20 &&& (255:Int32)) &&& (7:Int32)) - (1:Int32)), none, none, none], [.int z220], (H0 s v.2.2.2.2.2.2.2.2.2.2.2.2.2.2.2.2)) u τ := by
          intro z220 ez220
          subst ez220
          refine zS Ad W 4 (st' := (656, [vR 0, none, vR 1, vI x3, vI v.1, vI v.2.1, vI v.2.2.1, vI v.2.2.2.1, vI v.2.2.2.2.1, vI v.2.2.2.2.2.1, vI v.2.2.2.2.2.2.1, vI v.2.2.2.2.2.2.2.1, vI v.2.2.2.2.2.2.2.2.1, vI v.2.2.2.2.2.2.2.2.2.1, vI v.2.2.2.2.2.2.2.2.2.2.1, vI v.2.2.2.2.2.2.2.2.2.2.2.1, vI v.2.2.2.2.2.2.2.2.2.2.2.2.1, vI v.2.2.2.2.2.2.2.2.2.2.2.2.2.1, vI v.2.2.2.2.2.2.2.2.2.2.2.2.2.2.1, vI v.2.2.2.2.2.2.2.2.2.2.2.2.2.2.2.1, none, none, none, none, none, vI ((y19 &&& (255:Int32)) % (11:Int32)), vI (((y20 &&& (255:Int32)) &&& (7:Int32)) - (1:Int32)), vI (if ((y19 &&& (255:Int32)) % (11:Int32)) = (8:Int32) then (1:Int32) else (if ((y19 &&& (255:Int32)) % (11:Int32)) = (9:Int32) then (1:Int32) else (0:Int32))), none, none], [.int (((y20 &&& (255:Int32)) &&& (7:Int32)) - (1:Int32)), .int ((y19 &&& (255:Int32)) % (11:Int32)), .ref 1], (H0 s v.2.2.2.2.2.2.2.2.2.2.2.2.2.2.2.2))) rfl ?_
          obtain ⟨r236, hr236, h⟩ := bind_eq_some_iff.mp h
          refine QTri.callV W (a := 1) (as := [.int ((y19 &&& (255:Int32)) % (11:Int32)), .int (((y20 &&& (255:Int32)) &&& (7:Int32)) - (1:Int32))]) (rest := []) (w := (some (.int r236.1))) (σ₁ := (H0 s r236.2)) rfl rfl rfl rfl rfl rfl rfl rfl (tF12 Ad W s v.2.2.2.2.2.2.2.2.2.2.2.2.2.2.2.2 ((y19 &&& (255:Int32)) % (11:Int32)) (((y20 &&& (255:Int32)) &&& (7:Int32)) - (1:Int32)) hr236) ?_
          refine zS Ad W 4 (st' := (667, [vR 0, none, vR 1, vI x3, vI v.1, vI v.2.1, vI v.2.2.1, vI v.2.2.2.1, vI v.2.2.2.2.1, vI v.2.2.2.2.2.1, vI v.2.2.2.2.2.2.1, vI v.2.2.2.2.2.2.2.1, vI v.2.2.2.2.2.2.2.2.1, vI v.2.2.2.2.2.2.2.2.2.1, vI v.2.2.2.2.2.2.2.2.2.2.1, vI v.2.2.2.2.2.2.2.2.2.2.2.1, vI v.2.2.2.2.2.2.2.2.2.2.2.2.1, vI v.2.2.2.2.2.2.2.2.2.2.2.2.2.1, vI v.2.2.2.2.2.2.2.2.2.2.2.2.2.2.1, vI v.2.2.2.2.2.2.2.2.2.2.2.2.2.2.2.1, none, none, none, none, none, vI ((y19 &&& (255:Int32)) % (11:Int32)), vI (((y20 &&& (255:Int32)) &&& (7:Int32)) - (1:Int32)), vI (if ((y19 &&& (255:Int32)) % (11:Int32)) = (8:Int32) then (1:Int32) else (if ((y19 &&& (255:Int32)) % (11:Int32)) = (9:Int32) then (1:Int32) else (0:Int32))), vI r236.1, none], [.int (9:Int32), .int ((y19 &&& (255:Int32)) % (11:Int32)), .int r236.1], (H0 s r236.2))) rfl ?_
          have K238 : ∀ z237 : Int32, z237 = (if (9:Int32) < ((y19 &&& (255:Int32)) % (11:Int32)) then (0:Int32) else (if (if ((y19 &&& (255:Int32)) % (11:Int32)) = (8:Int32) then (1:Int32) else (if ((y19 &&& (255:Int32)) % (11:Int32)) = (9:Int32) then (1:Int32) else (0:Int32))) = (0:Int32) then (1:Int32) else (if (((y20 &&& (255:Int32)) &&& (7:Int32)) - (1:Int32)) < (0:Int32) then (0:Int32) else (1:Int32)))) → QTri l Z n0 ad 0 (685, [vR 0, none, vR 1, vI x3, vI v.1, vI v.2.1, vI v.2.2.1, vI v.2.2.2.1, vI v.2.2.2.2.1, vI v.2.2.2.2.2.1, vI v.2.2.2.2.2.2.1, vI v.2.2.2.2.2.2.2.1, vI v.2.2.2.2.2.2.2.2.1, vI v.2.2.2.2.2.2.2.2.2.1, vI v.2.2.2.2.2.2.2.2.2.2.1, vI v.2.2.2.2.2.2.2.2.2.2.2.1, vI v.2.2.2.2.2.2.2.2.2.2.2.2.1, vI v.2.2.2.2.2.2.2.2.2.2.2.2.2.1, vI v.2.2.2.2.2.2.2.2.2.2.2.2.2.2.1, vI v.2.2.2.2.2.2.2.2.2.2.2.2.2.2.2.1, none, none, none, none, none, vI ((y19 &&& (255:Int32)) % (11:Int32)), vI (((y20 &&& (255:Int32)) &&& (7:Int32)) - (1:Int32)), vI (if ((y19 &&& (255:Int32)) % (11:Int32)) = (8:Int32) then (1:Int32) else (if ((y19 &&& (255:Int32)) % (11:Int32)) = (9:Int32) then (1:Int32) else (0:Int32))), vI r236.1, none], [.int z237, .int r236.1], (H0 s r236.2)) u τ := by
           intro z237 ez237
           subst ez237
           rcases qite h with ⟨hc242, h⟩ | ⟨hc242, h⟩
           ·refine zT Ad W (t := 690) (f := 688) rfl (XT.ii_eq_t hc242) ?_
            refine zS Ad W 1 (st' := (692, [vR 0, none, vR 1, vI x3, vI v.1, vI v.2.1, vI v.2.2.1, vI v.2.2.2.1, vI v.2.2.2.2.1, vI v.2.2.2.2.2.1, vI v.2.2.2.2.2.2.1, vI v.2.2.2.2.2.2.2.1, vI v.2.2.2.2.2.2.2.2.1, vI v.2.2.2.2.2.2.2.2.2.1, vI v.2.2.2.2.2.2.2.2.2.2.1, vI v.2.2.2.2.2.2.2.2.2.2.2.1, vI v.2.2.2.2.2.2.2.2.2.2.2.2.1, vI v.2.2.2.2.2.2.2.2.2.2.2.2.2.1, vI v.2.2.2.2.2.2.2.2.2.2.2.2.2.2.1, vI v.2.2.2.2.2.2.2.2.2.2.2.2.2.2.2.1, none, none, none, none, none, vI ((y19 &&& (255:Int32)) % (11:Int32)), vI (((y20 &&& (255:Int32)) &&& (7:Int32)) - (1:Int32)), vI (if ((y19 &&& (255:Int32)) % (11:Int32)) = (8:Int32) then (1:Int32) else (if ((y19 &&& (255:Int32)) % (11:Int32)) = (9:Int32) then (1:Int32) else (0:Int32))), vI r236.1, none], [.int r236.1], (H0 s r236.2))) rfl ?_
            have K246 : ∀ z243 : Int32, z243 = (if r236.1 = (0:Int32) then v.2.2.2.2.2.2.2.2.1 else ((y19 &&& (255:Int32)) % (11:Int32))) → ∀ z244 : Int32, z244 = (if r236.1 = (0:Int32) then v.2.2.2.2.2.2.2.2.2.1 else (if (if ((y19 &&& (255:Int32)) % (11:Int32)) = (8:Int32) then (1:Int32) else (if ((y19 &&& (255:Int32)) % (11:Int32)) = (9:Int32) then (1:Int32) else (0:Int32))) = (0:Int32) then (0:Int32) else (((y20 &&& (255:Int32)) &&& (7:Int32)) - (1:Int32)))) → ∀ z245 : Int32, z245 = (if r236.1 = (0:Int32) then v.2.2.2.2.2.2.2.2.2.2.2.2.2.2.1 else (0:Int32)) → QTri l Z n0 ad 0 (715, [vR 0, none, vR 1, vI x3, vI v.1, vI v.2.1, vI v.2.2.1, vI v.2.2.2.1, vI v.2.2.2.2.1, vI v.2.2.2.2.2.1, vI v.2.2.2.2.2.2.1, vI v.2.2.2.2.2.2.2.1, vI z243, vI z244, vI v.2.2.2.2.2.2.2.2.2.2.1, vI v.2.2.2.2.2.2.2.2.2.2.2.1, vI v.2.2.2.2.2.2.2.2.2.2.2.2.1, vI v.2.2.2.2.2.2.2.2.2.2.2.2.2.1, vI z245, vI v.2.2.2.2.2.2.2.2.2.2.2.2.2.2.2.1, none, none, none, none, none, none, none, none, none, none], [], (H0 s r236.2)) u τ := by
             intro z243 ez243
             intro z244 ez244
             intro z245 ez245
             subst ez243
             subst ez244
             subst ez245
             refine zS Ad W 1 (st' := (791, [vR 0, none, vR 1, vI x3, vI v.1, vI v.2.1, vI v.2.2.1, vI v.2.2.2.1, vI v.2.2.2.2.1, vI v.2.2.2.2.2.1, vI v.2.2.2.2.2.2.1, vI v.2.2.2.2.2.2.2.1, vI (if r236.1 = (0:Int32) then v.2.2.2.2.2.2.2.2.1 else ((y19 &&& (255:Int32)) % (11:Int32))), vI (if r236.1 = (0:Int32) then v.2.2.2.2.2.2.2.2.2.1 else (if (if ((y19 &&& (255:Int32)) % (11:Int32)) = (8:Int32) then (1:Int32) else (if ((y19 &&& (255:Int32)) % (11:Int32)) = (9:Int32) then (1:Int32) else (0:Int32))) = (0:Int32) then (0:Int32) else (((y20 &&& (255:Int32)) &&& (7:Int32)) - (1:Int32)))), vI v.2.2.2.2.2.2.2.2.2.2.1, vI v.2.2.2.2.2.2.2.2.2.2.2.1, vI v.2.2.2.2.2.2.2.2.2.2.2.2.1, vI v.2.2.2.2.2.2.2.2.2.2.2.2.2.1, vI (if r236.1 = (0:Int32) then v.2.2.2.2.2.2.2.2.2.2.2.2.2.2.1 else (0:Int32)), vI v.2.2.2.2.2.2.2.2.2.2.2.2.2.2.2.1, none, none, none, none, none, none, none, none, none, none], [], (H0 s r236.2))) rfl ?_
             exact zM [tt,ff,tt,tt,tt,tt,tt,tt,tt,tt,tt,tt,tt,tt,tt,tt,tt,tt,tt,tt,ff,ff,ff,ff,ff,ff,ff,ff,ff,ff] (tJ0_791 Ad W s r236.2 x3 v.1 v.2.1 v.2.2.1 v.2.2.2.1 v.2.2.2.2.1 v.2.2.2.2.2.1 v.2.2.2.2.2.2.1 v.2.2.2.2.2.2.2.1 (if r236.1 = (0:Int32) then v.2.2.2.2.2.2.2.2.1 else ((y19 &&& (255:Int32)) % (11:Int32))) (if r236.1 = (0:Int32) then v.2.2.2.2.2.2.2.2.2.1 else (if (if ((y19 &&& (255:Int32)) % (11:Int32)) = (8:Int32) then (1:Int32) else (if ((y19 &&& (255:Int32)) % (11:Int32)) = (9:Int32) then (1:Int32) else (0:Int32))) = (0:Int32) then (0:Int32) else (((y20 &&& (255:Int32)) &&& (7:Int32)) - (1:Int32)))) v.2.2.2.2.2.2.2.2.2.2.1 v.2.2.2.2.2.2.2.2.2.2.2.1 v.2.2.2.2.2.2.2.2.2.2.2.2.1 v.2.2.2.2.2.2.2.2.2.2.2.2.2.1 (if r236.1 = (0:Int32) then v.2.2.2.2.2.2.2.2.2.2.2.2.2.2.1 else (0:Int32)) v.2.2.2.2.2.2.2.2.2.2.2.2.2.2.2.1 h hx0 hc)
            rcases em (r236.1 = (0:Int32)) with hc247 | hc247
            ·refine zT Ad W (t := 715) (f := 695) rfl (XT.i0_eq_t hc247) ?_
             exact zM [tt,ff,tt,tt,tt,tt,tt,tt,tt,tt,tt,tt,tt,tt,tt,tt,tt,tt,tt,tt,ff,ff,ff,ff,ff,ff,ff,ff,ff,ff] (K246 _ (if_pos hc247).symm _ (if_pos hc247).symm _ (if_pos hc247).symm)
            ·refine zF Ad W (t := 715) (f := 695) rfl (XT.i0_eq_f hc247) ?_
             refine zS Ad W 3 (st' := (701, [vR 0, none, vR 1, vI x3, vI v.1, vI v.2.1, vI v.2.2.1, vI v.2.2.2.1, vI v.2.2.2.2.1, vI v.2.2.2.2.2.1, vI v.2.2.2.2.2.2.1, vI v.2.2.2.2.2.2.2.1, vI ((y19 &&& (255:Int32)) % (11:Int32)), vI v.2.2.2.2.2.2.2.2.2.1, vI v.2.2.2.2.2.2.2.2.2.2.1, vI v.2.2.2.2.2.2.2.2.2.2.2.1, vI v.2.2.2.2.2.2.2.2.2.2.2.2.1, vI v.2.2.2.2.2.2.2.2.2.2.2.2.2.1, vI v.2.2.2.2.2.2.2.2.2.2.2.2.2.2.1, vI v.2.2.2.2.2.2.2.2.2.2.2.2.2.2.2.1, none, none, none, none, none, vI ((y19 &&& (255:Int32)) % (11:Int32)), vI (((y20 &&& (255:Int32)) &&& (7:Int32)) - (1:Int32)), vI (if ((y19 &&& (255:Int32)) % (11:Int32)) = (8:Int32) then (1:Int32) else (if ((y19 &&& (255:Int32)) % (11:Int32)) = (9:Int32) then (1:Int32) else (0:Int32))), vI r236.1, none], [.int (if ((y19 &&& (255:Int32)) % (11:Int32)) = (8:Int32) then (1:Int32) else (if ((y19 &&& (255:Int32)) % (11:Int32)) = (9:Int32) then (1:Int32) else (0:Int32)))], (H0 s r236.2))) rfl ?_
             rcases em ((if ((y19 &&& (255:Int32)) % (11:Int32)) = (8:Int32) then (1:Int32) else (if ((y19 &&& (255:Int32)) % (11:Int32)) = (9:Int32) then (1:Int32) else (0:Int32))) = (0:Int32)) with hc248 | hc248
             ·refine zT Ad W (t := 709) (f := 704) rfl (XT.i0_eq_t hc248) ?_
              refine zS Ad W 4 (st' := (715, [vR 0, none, vR 1, vI x3, vI v.1, vI v.2.1, vI v.2.2.1, vI v.2.2.2.1, vI v.2.2.2.2.1, vI v.2.2.2.2.2.1, vI v.2.2.2.2.2.2.1, vI v.2.2.2.2.2.2.2.1, vI ((y19 &&& (255:Int32)) % (11:Int32)), vI (0:Int32), vI v.2.2.2.2.2.2.2.2.2.2.1, vI v.2.2.2.2.2.2.2.2.2.2.2.1, vI v.2.2.2.2.2.2.2.2.2.2.2.2.1, vI v.2.2.2.2.2.2.2.2.2.2.2.2.2.1, vI (0:Int32), vI v.2.2.2.2.2.2.2.2.2.2.2.2.2.2.2.1, none, none, none, none, none, vI ((y19 &&& (255:Int32)) % (11:Int32)), vI (((y20 &&& (255:Int32)) &&& (7:Int32)) - (1:Int32)), vI (if ((y19 &&& (255:Int32)) % (11:Int32)) = (8:Int32) then (1:Int32) else (if ((y19 &&& (255:Int32)) % (11:Int32)) = (9:Int32) then (1:Int32) else (0:Int32))), vI r236.1, none], [], (H0 s r236.2))) rfl ?_
              exact zM [tt,ff,tt,tt,tt,tt,tt,tt,tt,tt,tt,tt,tt,tt,tt,tt,tt,tt,tt,tt,ff,ff,ff,ff,ff,ff,ff,ff,ff,ff] (K246 _ (if_neg hc247).symm _ ((if_neg hc247).trans (if_pos hc248)).symm _ (if_neg hc247).symm)
             ·refine zF Ad W (t := 709) (f := 704) rfl (XT.i0_eq_f hc248) ?_
              refine zS Ad W 5 (st' := (715, [vR 0, none, vR 1, vI x3, vI v.1, vI v.2.1, vI v.2.2.1, vI v.2.2.2.1, vI v.2.2.2.2.1, vI v.2.2.2.2.2.1, vI v.2.2.2.2.2.2.1, vI v.2.2.2.2.2.2.2.1, vI ((y19 &&& (255:Int32)) % (11:Int32)), vI (((y20 &&& (255:Int32)) &&& (7:Int32)) - (1:Int32)), vI v.2.2.2.2.2.2.2.2.2.2.1, vI v.2.2.2.2.2.2.2.2.2.2.2.1, vI v.2.2.2.2.2.2.2.2.2.2.2.2.1, vI v.2.2.2.2.2.2.2.2.2.2.2.2.2.1, vI (0:Int32), vI v.2.2.2.2.2.2.2.2.2.2.2.2.2.2.2.1, none, none, none, none, none, vI ((y19 &&& (255:Int32)) % (11:Int32)), vI (((y20 &&& (255:Int32)) &&& (7:Int32)) - (1:Int32)), vI (if ((y19 &&& (255:Int32)) % (11:Int32)) = (8:Int32) then (1:Int32) else (if ((y19 &&& (255:Int32)) % (11:Int32)) = (9:Int32) then (1:Int32) else (0:Int32))), vI r236.1, none], [], (H0 s r236.2))) rfl ?_
              exact zM [tt,ff,tt,tt,tt,tt,tt,tt,tt,tt,tt,tt,tt,tt,tt,tt,tt,tt,tt,tt,ff,ff,ff,ff,ff,ff,ff,ff,ff,ff] (K246 _ (if_neg hc247).symm _ ((if_neg hc247).trans (if_neg hc248)).symm _ (if_neg hc247).symm)
           ·refine zF Ad W (t := 690) (f := 688) rfl (XT.ii_eq_f hc242) ?_
            refine zS Ad W 1 (st' := (689, [vR 0, none, vR 1, vI x3, vI v.1, vI v.2.1, vI v.2.2.1, vI v.2.2.2.1, vI v.2.2.2.2.1, vI v.2.2.2.2.2.1, vI v.2.2.2.2.2.2.1, vI v.2.2.2.2.2.2.2.1, vI v.2.2.2.2.2.2.2.2.1, vI v.2.2.2.2.2.2.2.2.2.1, vI v.2.2.2.2.2.2.2.2.2.2.1, vI v.2.2.2.2.2.2.2.2.2.2.2.1, vI v.2.2.2.2.2.2.2.2.2.2.2.2.1, vI v.2.2.2.2.2.2.2.2.2.2.2.2.2.1, vI v.2.2.2.2.2.2.2.2.2.2.2.2.2.2.1, vI v.2.2.2.2.2.2.2.2.2.2.2.2.2.2.2.1, none, none, none, none, none, vI ((y19 &&& (255:Int32)) % (11:Int32)), vI (((y20 &&& (255:Int32)) &&& (7:Int32)) - (1:Int32)), vI (if ((y19 &&& (255:Int32)) % (11:Int32)) = (8:Int32) then (1:Int32) else (if ((y19 &&& (255:Int32)) % (11:Int32)) = (9:Int32) then (1:Int32) else (0:Int32))), vI r236.1, none], [.int (0:Int32)], (H0 s r236.2))) rfl ?_
            obtain rfl := Option.some.inj h
            obtain ⟨rfl, rfl⟩ := hx0 ((0:Int32), (H0 s r236.2)) rfl
            exact QTri.retZ rfl rfl
          rcases em ((9:Int32) < ((y19 &&& (255:Int32)) % (11:Int32))) with hc239 | hc239
          ·refine zT Ad W (t := 684) (f := 670) rfl (XT.ii_gt_t hc239) ?_
           refine zS Ad W 1 (st' := (685, [vR 0, none, vR 1, vI x3, vI v.1, vI v.2.1, vI v.2.2.1, vI v.2.2.2.1, vI v.2.2.2.2.1, vI v.2.2.2.2.2.1, vI v.2.2.2.2.2.2.1, vI v.2.2.2.2.2.2.2.1, vI v.2.2.2.2.2.2.2.2.1, vI v.2.2.2.2.2.2.2.2.2.1, vI v.2.2.2.2.2.2.2.2.2.2.1, vI v.2.2.2.2.2.2.2.2.2.2.2.1, vI v.2.2.2.2.2.2.2.2.2.2.2.2.1, vI v.2.2.2.2.2.2.2.2.2.2.2.2.2.1, vI v.2.2.2.2.2.2.2.2.2.2.2.2.2.2.1, vI v.2.2.2.2.2.2.2.2.2.2.2.2.2.2.2.1, none, none, none, none, none, vI ((y19 &&& (255:Int32)) % (11:Int32)), vI (((y20 &&& (255:Int32)) &&& (7:Int32)) - (1:Int32)), vI (if ((y19 &&& (255:Int32)) % (11:Int32)) = (8:Int32) then (1:Int32) else (if ((y19 &&& (255:Int32)) % (11:Int32)) = (9:Int32) then (1:Int32) else (0:Int32))), vI r236.1, none], [.int (0:Int32), .int r236.1], (H0 s r236.2))) rfl ?_
           exact zM [tt,ff,tt,tt,tt,tt,tt,tt,tt,tt,tt,tt,tt,tt,tt,tt,tt,tt,tt,tt,ff,ff,ff,ff,ff,tt,tt,tt,tt,ff] (K238 _ (if_pos hc239).symm)
          ·refine zF Ad W (t := 684) (f := 670) rfl (XT.ii_gt_f hc239) ?_
           refine zS Ad W 1 (st' := (672, [vR 0, none, vR 1, vI x3, vI v.1, vI v.2.1, vI v.2.2.1, vI v.2.2.2.1, vI v.2.2.2.2.1, vI v.2.2.2.2.2.1, vI v.2.2.2.2.2.2.1, vI v.2.2.2.2.2.2.2.1, vI v.2.2.2.2.2.2.2.2.1, vI v.2.2.2.2.2.2.2.2.2.1, vI v.2.2.2.2.2.2.2.2.2.2.1, vI v.2.2.2.2.2.2.2.2.2.2.2.1, vI v.2.2.2.2.2.2.2.2.2.2.2.2.1, vI v.2.2.2.2.2.2.2.2.2.2.2.2.2.1, vI v.2.2.2.2.2.2.2.2.2.2.2.2.2.2.1, vI v.2.2.2.2.2.2.2.2.2.2.2.2.2.2.2.1, none, none, none, none, none, vI ((y19 &&& (255:Int32)) % (11:Int32)), vI (((y20 &&& (255:Int32)) &&& (7:Int32)) - (1:Int32)), vI (if ((y19 &&& (255:Int32)) % (11:Int32)) = (8:Int32) then (1:Int32) else (if ((y19 &&& (255:Int32)) % (11:Int32)) = (9:Int32) then (1:Int32) else (0:Int32))), vI r236.1, none], [.int (if ((y19 &&& (255:Int32)) % (11:Int32)) = (8:Int32) then (1:Int32) else (if ((y19 &&& (255:Int32)) % (11:Int32)) = (9:Int32) then (1:Int32) else (0:Int32))), .int r236.1], (H0 s r236.2))) rfl ?_
           rcases em ((if ((y19 &&& (255:Int32)) % (11:Int32)) = (8:Int32) then (1:Int32) else (if ((y19 &&& (255:Int32)) % (11:Int32)) = (9:Int32) then (1:Int32) else (0:Int32))) = (0:Int32)) with hc240 | hc240
           ·refine zT Ad W (t := 680) (f := 675) rfl (XT.i0_eq_t hc240) ?_
            refine zS Ad W 2 (st' := (685, [vR 0, none, vR 1, vI x3, vI v.1, vI v.2.1, vI v.2.2.1, vI v.2.2.2.1, vI v.2.2.2.2.1, vI v.2.2.2.2.2.1, vI v.2.2.2.2.2.2.1, vI v.2.2.2.2.2.2.2.1, vI v.2.2.2.2.2.2.2.2.1, vI v.2.2.2.2.2.2.2.2.2.1, vI v.2.2.2.2.2.2.2.2.2.2.1, vI v.2.2.2.2.2.2.2.2.2.2.2.1, vI v.2.2.2.2.2.2.2.2.2.2.2.2.1, vI v.2.2.2.2.2.2.2.2.2.2.2.2.2.1, vI v.2.2.2.2.2.2.2.2.2.2.2.2.2.2.1, vI v.2.2.2.2.2.2.2.2.2.2.2.2.2.2.2.1, none, none, none, none, none, vI ((y19 &&& (255:Int32)) % (11:Int32)), vI (((y20 &&& (255:Int32)) &&& (7:Int32)) - (1:Int32)), vI (if ((y19 &&& (255:Int32)) % (11:Int32)) = (8:Int32) then (1:Int32) else (if ((y19 &&& (255:Int32)) % (11:Int32)) = (9:Int32) then (1:Int32) else (0:Int32))), vI r236.1, none], [.int (1:Int32), .int r236.1], (H0 s r236.2))) rfl ?_
            exact zM [tt,ff,tt,tt,tt,tt,tt,tt,tt,tt,tt,tt,tt,tt,tt,tt,tt,tt,tt,tt,ff,ff,ff,ff,ff,tt,tt,tt,tt,ff] (K238 _ ((if_neg hc239).trans (if_pos hc240)).symm)
           ·refine zF Ad W (t := 680) (f := 675) rfl (XT.i0_eq_f hc240) ?_
            refine zS Ad W 1 (st' := (677, [vR 0, none, vR 1, vI x3, vI v.1, vI v.2.1, vI v.2.2.1, vI v.2.2.2.1, vI v.2.2.2.2.1, vI v.2.2.2.2.2.1, vI v.2.2.2.2.2.2.1, vI v.2.2.2.2.2.2.2.1, vI v.2.2.2.2.2.2.2.2.1, vI v.2.2.2.2.2.2.2.2.2.1, vI v.2.2.2.2.2.2.2.2.2.2.1, vI v.2.2.2.2.2.2.2.2.2.2.2.1, vI v.2.2.2.2.2.2.2.2.2.2.2.2.1, vI v.2.2.2.2.2.2.2.2.2.2.2.2.2.1, vI v.2.2.2.2.2.2.2.2.2.2.2.2.2.2.1, vI v.2.2.2.2.2.2.2.2.2.2.2.2.2.2.2.1, none, none, none, none, none, vI ((y19 &&& (255:Int32)) % (11:Int32)), vI (((y20 &&& (255:Int32)) &&& (7:Int32)) - (1:Int32)), vI (if ((y19 &&& (255:Int32)) % (11:Int32)) = (8:Int32) then (1:Int32) else (if ((y19 &&& (255:Int32)) % (11:Int32)) = (9:Int32) then (1:Int32) else (0:Int32))), vI r236.1, none], [.int (((y20 &&& (255:Int32)) &&& (7:Int32)) - (1:Int32)), .int r236.1], (H0 s r236.2))) rfl ?_
            rcases em ((((y20 &&& (255:Int32)) &&& (7:Int32)) - (1:Int32)) < (0:Int32)) with hc241 | hc241
            ·refine zT Ad W (t := 684) (f := 680) rfl (XT.i0_lt_t hc241) ?_
             refine zS Ad W 1 (st' := (685, [vR 0, none, vR 1, vI x3, vI v.1, vI v.2.1, vI v.2.2.1, vI v.2.2.2.1, vI v.2.2.2.2.1, vI v.2.2.2.2.2.1, vI v.2.2.2.2.2.2.1, vI v.2.2.2.2.2.2.2.1, vI v.2.2.2.2.2.2.2.2.1, vI v.2.2.2.2.2.2.2.2.2.1, vI v.2.2.2.2.2.2.2.2.2.2.1, vI v.2.2.2.2.2.2.2.2.2.2.2.1, vI v.2.2.2.2.2.2.2.2.2.2.2.2.1, vI v.2.2.2.2.2.2.2.2.2.2.2.2.2.1, vI v.2.2.2.2.2.2.2.2.2.2.2.2.2.2.1, vI v.2.2.2.2.2.2.2.2.2.2.2.2.2.2.2.1, none, none, none, none, none, vI ((y19 &&& (255:Int32)) % (11:Int32)), vI (((y20 &&& (255:Int32)) &&& (7:Int32)) - (1:Int32)), vI (if ((y19 &&& (255:Int32)) % (11:Int32)) = (8:Int32) then (1:Int32) else (if ((y19 &&& (255:Int32)) % (11:Int32)) = (9:Int32) then (1:Int32) else (0:Int32))), vI r236.1, none], [.int (0:Int32), .int r236.1], (H0 s r236.2))) rfl ?_
             exact zM [tt,ff,tt,tt,tt,tt,tt,tt,tt,tt,tt,tt,tt,tt,tt,tt,tt,tt,tt,tt,ff,ff,ff,ff,ff,tt,tt,tt,tt,ff] (K238 _ ((if_neg hc239).trans ((if_neg hc240).trans (if_pos hc241))).symm)
            ·refine zF Ad W (t := 684) (f := 680) rfl (XT.i0_lt_f hc241) ?_
             refine zS Ad W 2 (st' := (685, [vR 0, none, vR 1, vI x3, vI v.1, vI v.2.1, vI v.2.2.1, vI v.2.2.2.1, vI v.2.2.2.2.1, vI v.2.2.2.2.2.1, vI v.2.2.2.2.2.2.1, vI v.2.2.2.2.2.2.2.1, vI v.2.2.2.2.2.2.2.2.1, vI v.2.2.2.2.2.2.2.2.2.1, vI v.2.2.2.2.2.2.2.2.2.2.1, vI v.2.2.2.2.2.2.2.2.2.2.2.1, vI v.2.2.2.2.2.2.2.2.2.2.2.2.1, vI v.2.2.2.2.2.2.2.2.2.2.2.2.2.1, vI v.2.2.2.2.2.2.2.2.2.2.2.2.2.2.1, vI v.2.2.2.2.2.2.2.2.2.2.2.2.2.2.2.1, none, none, none, none, none, vI ((y19 &&& (255:Int32)) % (11:Int32)), vI (((y20 &&& (255:Int32)) &&& (7:Int32)) - (1:Int32)), vI (if ((y19 &&& (255:Int32)) % (11:Int32)) = (8:Int32) then (1:Int32) else (if ((y19 &&& (255:Int32)) % (11:Int32)) = (9:Int32) then (1:Int32) else (0:Int32))), vI r236.1, none], [.int (1:Int32), .int r236.1], (H0 s r236.2))) rfl ?_
             exact zM [tt,ff,tt,tt,tt,tt,tt,tt,tt,tt,tt,tt,tt,tt,tt,tt,tt,tt,tt,tt,ff,ff,ff,ff,ff,tt,tt,tt,tt,ff] (K238 _ ((if_neg hc239).trans ((if_neg hc240).trans (if_neg hc241))).symm)
         rcases em (((y19 &&& (255:Int32)) % (11:Int32)) = (8:Int32)) with hc222 | hc222
         ·refine zT Ad W (t := 644) (f := 637) rfl (XT.ii_eq_t hc222) ?_
          refine zS Ad W 2 (st' := (649, [vR 0, none, vR 1, vI x3, vI v.1, vI v.2.1, vI v.2.2.1, vI v.2.2.2.1, vI v.2.2.2.2.1, vI v.2.2.2.2.2.1, vI v.2.2.2.2.2.2.1, vI v.2.2.2.2.2.2.2.1, vI v.2.2.2.2.2.2.2.2.1, vI v.2.2.2.2.2.2.2.2.2.1, vI v.2.2.2.2.2.2.2.2.2.2.1, vI v.2.2.2.2.2.2.2.2.2.2.2.1, vI v.2.2.2.2.2.2.2.2.2.2.2.2.1, vI v.2.2.2.2.2.2.2.2.2.2.2.2.2.1, vI v.2.2.2.2.2.2.2.2.2.2.2.2.2.2.1, vI v.2.2.2.2.2.2.2.2.2.2.2.2.2.2.2.1, vI (y18 &&& (15:Int32)), vI (y19 &&& (255:Int32)), vI (y20 &&& (255:Int32)), vI (y21 &&& (255:Int32)), vI (y22 &&& (255:Int32)), vI ((y19 &&& (255:Int32)) % (11:Int32)), vI (((y20 &&& (255:Int32)) &&& (7:Int32)) - (1:Int32)), none, none, none], [.int (1:Int32)], (H0 s v.2.2.2.2.2.2.2.2.2.2.2.2.2.2.2.2))) rfl ?_
          exact zM [tt,ff,tt,tt,tt,tt,tt,tt,tt,tt,tt,tt,tt,tt,tt,tt,tt,tt,tt,tt,ff,ff,ff,ff,ff,tt,tt,ff,ff,ff] (K221 _ (if_pos hc222).symm)
         ·refine zF Ad W (t := 644) (f := 637) rfl (XT.ii_eq_f hc222) ?_
          refine zS Ad W 2 (st' := (641, [vR 0, none, vR 1, vI x3, vI v.1, vI v.2.1, vI v.2.2.1, vI v.2.2.2.1, vI v.2.2.2.2.1, vI v.2.2.2.2.2.1, vI v.2.2.2.2.2.2.1, vI v.2.2.2.2.2.2.2.1, vI v.2.2.2.2.2.2.2.2.1, vI v.2.2.2.2.2.2.2.2.2.1, vI v.2.2.2.2.2.2.2.2.2.2.1, vI v.2.2.2.2.2.2.2.2.2.2.2.1, vI v.2.2.2.2.2.2.2.2.2.2.2.2.1, vI v.2.2.2.2.2.2.2.2.2.2.2.2.2.1, vI v.2.2.2.2.2.2.2.2.2.2.2.2.2.2.1, vI v.2.2.2.2.2.2.2.2.2.2.2.2.2.2.2.1, vI (y18 &&& (15:Int32)), vI (y19 &&& (255:Int32)), vI (y20 &&& (255:Int32)), vI (y21 &&& (255:Int32)), vI (y22 &&& (255:Int32)), vI ((y19 &&& (255:Int32)) % (11:Int32)), vI (((y20 &&& (255:Int32)) &&& (7:Int32)) - (1:Int32)), none, none, none], [.int (9:Int32), .int ((y19 &&& (255:Int32)) % (11:Int32))], (H0 s v.2.2.2.2.2.2.2.2.2.2.2.2.2.2.2.2))) rfl ?_
          rcases em (((y19 &&& (255:Int32)) % (11:Int32)) = (9:Int32)) with hc223 | hc223
          ·refine zF Ad W (t := 648) (f := 644) rfl (XT.ii_ne_f hc223) ?_
           refine zS Ad W 2 (st' := (649, [vR 0, none, vR 1, vI x3, vI v.1, vI v.2.1, vI v.2.2.1, vI v.2.2.2.1, vI v.2.2.2.2.1, vI v.2.2.2.2.2.1, vI v.2.2.2.2.2.2.1, vI v.2.2.2.2.2.2.2.1, vI v.2.2.2.2.2.2.2.2.1, vI v.2.2.2.2.2.2.2.2.2.1, vI v.2.2.2.2.2.2.2.2.2.2.1, vI v.2.2.2.2.2.2.2.2.2.2.2.1, vI v.2.2.2.2.2.2.2.2.2.2.2.2.1, vI v.2.2.2.2.2.2.2.2.2.2.2.2.2.1, vI v.2.2.2.2.2.2.2.2.2.2.2.2.2.2.1, vI v.2.2.2.2.2.2.2.2.2.2.2.2.2.2.2.1, vI (y18 &&& (15:Int32)), vI (y19 &&& (255:Int32)), vI (y20 &&& (255:Int32)), vI (y21 &&& (255:Int32)), vI (y22 &&& (255:Int32)), vI ((y19 &&& (255:Int32)) % (11:Int32)), vI (((y20 &&& (255:Int32)) &&& (7:Int32)) - (1:Int32)), none, none, none], [.int (1:Int32)], (H0 s v.2.2.2.2.2.2.2.2.2.2.2.2.2.2.2.2))) rfl ?_
           exact zM [tt,ff,tt,tt,tt,tt,tt,tt,tt,tt,tt,tt,tt,tt,tt,tt,tt,tt,tt,tt,ff,ff,ff,ff,ff,tt,tt,ff,ff,ff] (K221 _ ((if_neg hc222).trans (if_pos hc223)).symm)
          ·refine zT Ad W (t := 648) (f := 644) rfl (XT.ii_ne_t hc223) ?_
           refine zS Ad W 1 (st' := (649, [vR 0, none, vR 1, vI x3, vI v.1, vI v.2.1, vI v.2.2.1, vI v.2.2.2.1, vI v.2.2.2.2.1, vI v.2.2.2.2.2.1, vI v.2.2.2.2.2.2.1, vI v.2.2.2.2.2.2.2.1, vI v.2.2.2.2.2.2.2.2.1, vI v.2.2.2.2.2.2.2.2.2.1, vI v.2.2.2.2.2.2.2.2.2.2.1, vI v.2.2.2.2.2.2.2.2.2.2.2.1, vI v.2.2.2.2.2.2.2.2.2.2.2.2.1, vI v.2.2.2.2.2.2.2.2.2.2.2.2.2.1, vI v.2.2.2.2.2.2.2.2.2.2.2.2.2.2.1, vI v.2.2.2.2.2.2.2.2.2.2.2.2.2.2.2.1, vI (y18 &&& (15:Int32)), vI (y19 &&& (255:Int32)), vI (y20 &&& (255:Int32)), vI (y21 &&& (255:Int32)), vI (y22 &&& (255:Int32)), vI ((y19 &&& (255:Int32)) % (11:Int32)), vI (((y20 &&& (255:Int32)) &&& (7:Int32)) - (1:Int32)), none, none, none], [.int (0:Int32)], (H0 s v.2.2.2.2.2.2.2.2.2.2.2.2.2.2.2.2))) rfl ?_
           exact zM [tt,ff,tt,tt,tt,tt,tt,tt,tt,tt,tt,tt,tt,tt,tt,tt,tt,tt,tt,tt,ff,ff,ff,ff,ff,tt,tt,ff,ff,ff] (K221 _ ((if_neg hc222).trans (if_neg hc223)).symm)
        ·refine zT Ad W (t := 718) (f := 614) rfl (XT.ii_ne_t hc218) ?_
         refine zS Ad W 2 (st' := (721, [vR 0, none, vR 1, vI x3, vI v.1, vI v.2.1, vI v.2.2.1, vI v.2.2.2.1, vI v.2.2.2.2.1, vI v.2.2.2.2.2.1, vI v.2.2.2.2.2.2.1, vI v.2.2.2.2.2.2.2.1, vI v.2.2.2.2.2.2.2.2.1, vI v.2.2.2.2.2.2.2.2.2.1, vI v.2.2.2.2.2.2.2.2.2.2.1, vI v.2.2.2.2.2.2.2.2.2.2.2.1, vI v.2.2.2.2.2.2.2.2.2.2.2.2.1, vI v.2.2.2.2.2.2.2.2.2.2.2.2.2.1, vI v.2.2.2.2.2.2.2.2.2.2.2.2.2.2.1, vI v.2.2.2.2.2.2.2.2.2.2.2.2.2.2.2.1, vI (y18 &&& (15:Int32)), vI (y19 &&& (255:Int32)), vI (y20 &&& (255:Int32)), vI (y21 &&& (255:Int32)), vI (y22 &&& (255:Int32)), none, none, none, none, none], [.int (1:Int32), .int v.2.2.2.1], (H0 s v.2.2.2.2.2.2.2.2.2.2.2.2.2.2.2.2))) rfl ?_
         have K250 : ∀ z249 : Int32, z249 = (if v.2.2.2.1 = (1:Int32) then (if v.2.1 = (0:Int32) then (if v.2.2.2.2.1 = (1:Int32) then (1:Int32) else (if v.2.2.2.2.1 = (3:Int32) then (1:Int32) else (if v.2.2.2.2.2.2.1 = (1:Int32) then (1:Int32) else (if v.2.2.2.2.2.2.1 = (3:Int32) then (1:Int32) else (0:Int32))))) else (0:Int32)) else (0:Int32)) → QTri l Z n0 ad 0 (758, [vR 0, none, vR 1, vI x3, vI v.1, vI v.2.1, vI v.2.2.1, vI v.2.2.2.1, vI v.2.2.2.2.1, vI v.2.2.2.2.2.1, vI v.2.2.2.2.2.2.1, vI v.2.2.2.2.2.2.2.1, vI v.2.2.2.2.2.2.2.2.1, vI v.2.2.2.2.2.2.2.2.2.1, vI v.2.2.2.2.2.2.2.2.2.2.1, vI v.2.2.2.2.2.2.2.2.2.2.2.1, vI v.2.2.2.2.2.2.2.2.2.2.2.2.1, vI v.2.2.2.2.2.2.2.2.2.2.2.2.2.1, vI v.2.2.2.2.2.2.2.2.2.2.2.2.2.2.1, vI v.2.2.2.2.2.2.2.2.2.2.2.2.2.2.2.1, none, none, none, none, none, none, none, none, none, none], [.int z249], (H0 s v.2.2.2.2.2.2.2.2.2.2.2.2.2.2.2.2)) u τ := by
          intro z249 ez249
          subst ez249
          refine zS Ad W 2 (st' := (761, [vR 0, none, vR 1, vI x3, vI v.1, vI v.2.1, vI v.2.2.1, vI v.2.2.2.1, vI v.2.2.2.2.1, vI v.2.2.2.2.2.1, vI v.2.2.2.2.2.2.1, vI v.2.2.2.2.2.2.2.1, vI v.2.2.2.2.2.2.2.2.1, vI v.2.2.2.2.2.2.2.2.2.1, vI v.2.2.2.2.2.2.2.2.2.2.1, vI v.2.2.2.2.2.2.2.2.2.2.2.1, vI v.2.2.2.2.2.2.2.2.2.2.2.2.1, vI v.2.2.2.2.2.2.2.2.2.2.2.2.2.1, vI v.2.2.2.2.2.2.2.2.2.2.2.2.2.2.1, vI v.2.2.2.2.2.2.2.2.2.2.2.2.2.2.2.1, none, none, none, none, none, vI (if v.2.2.2.1 = (1:Int32) then (if v.2.1 = (0:Int32) then (if v.2.2.2.2.1 = (1:Int32) then (1:Int32) else (if v.2.2.2.2.1 = (3:Int32) then (1:Int32) else (if v.2.2.2.2.2.2.1 = (1:Int32) then (1:Int32) else (if v.2.2.2.2.2.2.1 = (3:Int32) then (1:Int32) else (0:Int32))))) else (0:Int32)) else (0:Int32)), none, none, none, none], [.ref 1], (H0 s v.2.2.2.2.2.2.2.2.2.2.2.2.2.2.2.2))) rfl ?_
          obtain ⟨r491, hr491, h⟩ := bind_eq_some_iff.mp h
          refine QTri.callV W (a := 1) (as := []) (rest := []) (w := (some (.int r491.1))) (σ₁ := (H0 s r491.2)) rfl rfl rfl rfl rfl rfl rfl rfl (tF13 Ad W s v.2.2.2.2.2.2.2.2.2.2.2.2.2.2.2.2 hr491) ?_
          refine zS Ad W 3 (st' := (770, [vR 0, none, vR 1, vI x3, vI v.1, vI v.2.1, vI v.2.2.1, vI v.2.2.2.1, vI v.2.2.2.2.1, vI v.2.2.2.2.2.1, vI v.2.2.2.2.2.2.1, vI v.2.2.2.2.2.2.2.1, vI v.2.2.2.2.2.2.2.2.1, vI v.2.2.2.2.2.2.2.2.2.1, vI v.2.2.2.2.2.2.2.2.2.2.1, vI v.2.2.2.2.2.2.2.2.2.2.2.1, vI v.2.2.2.2.2.2.2.2.2.2.2.2.1, vI v.2.2.2.2.2.2.2.2.2.2.2.2.2.1, vI v.2.2.2.2.2.2.2.2.2.2.2.2.2.2.1, vI v.2.2.2.2.2.2.2.2.2.2.2.2.2.2.2.1, none, none, none, none, none, vI (if v.2.2.2.1 = (1:Int32) then (if v.2.1 = (0:Int32) then (if v.2.2.2.2.1 = (1:Int32) then (1:Int32) else (if v.2.2.2.2.1 = (3:Int32) then (1:Int32) else (if v.2.2.2.2.2.2.1 = (1:Int32) then (1:Int32) else (if v.2.2.2.2.2.2.1 = (3:Int32) then (1:Int32) else (0:Int32))))) else (0:Int32)) else (0:Int32)), vI r491.1, none, none, none], [.int (if v.2.2.2.1 = (1:Int32) then (if v.2.1 = (0:Int32) then (if v.2.2.2.2.1 = (1:Int32) then (1:Int32) else (if v.2.2.2.2.1 = (3:Int32) then (1:Int32) else (if v.2.2.2.2.2.2.1 = (1:Int32) then (1:Int32) else (if v.2.2.2.2.2.2.1 = (3:Int32) then (1:Int32) else (0:Int32))))) else (0:Int32)) else (0:Int32)), .int r491.1], (H0 s r491.2))) rfl ?_
          have K493 : ∀ z492 : Int32, z492 = (if (if v.2.2.2.1 = (1:Int32) then (if v.2.1 = (0:Int32) then (if v.2.2.2.2.1 = (1:Int32) then (1:Int32) else (if v.2.2.2.2.1 = (3:Int32) then (1:Int32) else (if v.2.2.2.2.2.2.1 = (1:Int32) then (1:Int32) else (if v.2.2.2.2.2.2.1 = (3:Int32) then (1:Int32) else (0:Int32))))) else (0:Int32)) else (0:Int32)) = (0:Int32) then (0:Int32) else (-1:Int32)) → QTri l Z n0 ad 0 (778, [vR 0, none, vR 1, vI x3, vI v.1, vI v.2.1, vI v.2.2.1, vI v.2.2.2.1, vI v.2.2.2.2.1, vI v.2.2.2.2.2.1, vI v.2.2.2.2.2.2.1, vI v.2.2.2.2.2.2.2.1, vI v.2.2.2.2.2.2.2.2.1, vI v.2.2.2.2.2.2.2.2.2.1, vI v.2.2.2.2.2.2.2.2.2.2.1, vI v.2.2.2.2.2.2.2.2.2.2.2.1, vI v.2.2.2.2.2.2.2.2.2.2.2.2.1, vI v.2.2.2.2.2.2.2.2.2.2.2.2.2.1, vI v.2.2.2.2.2.2.2.2.2.2.2.2.2.2.1, vI v.2.2.2.2.2.2.2.2.2.2.2.2.2.2.2.1, none, none, none, none, none, vI (if v.2.2.2.1 = (1:Int32) then (if v.2.1 = (0:Int32) then (if v.2.2.2.2.1 = (1:Int32) then (1:Int32) else (if v.2.2.2.2.1 = (3:Int32) then (1:Int32) else (if v.2.2.2.2.2.2.1 = (1:Int32) then (1:Int32) else (if v.2.2.2.2.2.2.1 = (3:Int32) then (1:Int32) else (0:Int32))))) else (0:Int32)) else (0:Int32)), none, none, none, none], [.int z492, .int r491.1], (H0 s r491.2)) u τ := by
           intro z492 ez492
           subst ez492
           rcases qite h with ⟨hc495, h⟩ | ⟨hc495, h⟩
           ·refine zT Ad W (t := 783) (f := 781) rfl (XT.ii_eq_t hc495) ?_
            refine zS Ad W 1 (st' := (785, [vR 0, none, vR 1, vI x3, vI v.1, vI v.2.1, vI v.2.2.1, vI v.2.2.2.1, vI v.2.2.2.2.1, vI v.2.2.2.2.2.1, vI v.2.2.2.2.2.2.1, vI v.2.2.2.2.2.2.2.1, vI v.2.2.2.2.2.2.2.2.1, vI v.2.2.2.2.2.2.2.2.2.1, vI v.2.2.2.2.2.2.2.2.2.2.1, vI v.2.2.2.2.2.2.2.2.2.2.2.1, vI v.2.2.2.2.2.2.2.2.2.2.2.2.1, vI v.2.2.2.2.2.2.2.2.2.2.2.2.2.1, vI v.2.2.2.2.2.2.2.2.2.2.2.2.2.2.1, vI v.2.2.2.2.2.2.2.2.2.2.2.2.2.2.2.1, none, none, none, none, none, vI (if v.2.2.2.1 = (1:Int32) then (if v.2.1 = (0:Int32) then (if v.2.2.2.2.1 = (1:Int32) then (1:Int32) else (if v.2.2.2.2.1 = (3:Int32) then (1:Int32) else (if v.2.2.2.2.2.2.1 = (1:Int32) then (1:Int32) else (if v.2.2.2.2.2.2.1 = (3:Int32) then (1:Int32) else (0:Int32))))) else (0:Int32)) else (0:Int32)), none, none, none, none], [.int (if v.2.2.2.1 = (1:Int32) then (if v.2.1 = (0:Int32) then (if v.2.2.2.2.1 = (1:Int32) then (1:Int32) else (if v.2.2.2.2.1 = (3:Int32) then (1:Int32) else (if v.2.2.2.2.2.2.1 = (1:Int32) then (1:Int32) else (if v.2.2.2.2.2.2.1 = (3:Int32) then (1:Int32) else (0:Int32))))) else (0:Int32)) else (0:Int32))], (H0 s r491.2))) rfl ?_
            have K497 : ∀ z496 : Int32, z496 = (if (if v.2.2.2.1 = (1:Int32) then (if v.2.1 = (0:Int32) then (if v.2.2.2.2.1 = (1:Int32) then (1:Int32) else (if v.2.2.2.2.1 = (3:Int32) then (1:Int32) else (if v.2.2.2.2.2.2.1 = (1:Int32) then (1:Int32) else (if v.2.2.2.2.2.2.1 = (3:Int32) then (1:Int32) else (0:Int32))))) else (0:Int32)) else (0:Int32)) = (0:Int32) then (1:Int32) else v.2.2.2.2.2.2.2.2.2.2.2.2.2.2.1) → QTri l Z n0 ad 0 (791, [vR 0, none, vR 1, vI x3, vI v.1, vI v.2.1, vI v.2.2.1, vI v.2.2.2.1, vI v.2.2.2.2.1, vI v.2.2.2.2.2.1, vI v.2.2.2.2.2.2.1, vI v.2.2.2.2.2.2.2.1, vI v.2.2.2.2.2.2.2.2.1, vI v.2.2.2.2.2.2.2.2.2.1, vI v.2.2.2.2.2.2.2.2.2.2.1, vI v.2.2.2.2.2.2.2.2.2.2.2.1, vI v.2.2.2.2.2.2.2.2.2.2.2.2.1, vI v.2.2.2.2.2.2.2.2.2.2.2.2.2.1, vI z496, vI v.2.2.2.2.2.2.2.2.2.2.2.2.2.2.2.1, none, none, none, none, none, none, none, none, none, none], [], (H0 s r491.2)) u τ := by
             intro z496 ez496
             subst ez496
             exact zM [tt,ff,tt,tt,tt,tt,tt,tt,tt,tt,tt,tt,tt,tt,tt,tt,tt,tt,tt,tt,ff,ff,ff,ff,ff,ff,ff,ff,ff,ff] (tJ0_791 Ad W s r491.2 x3 v.1 v.2.1 v.2.2.1 v.2.2.2.1 v.2.2.2.2.1 v.2.2.2.2.2.1 v.2.2.2.2.2.2.1 v.2.2.2.2.2.2.2.1 v.2.2.2.2.2.2.2.2.1 v.2.2.2.2.2.2.2.2.2.1 v.2.2.2.2.2.2.2.2.2.2.1 v.2.2.2.2.2.2.2.2.2.2.2.1 v.2.2.2.2.2.2.2.2.2.2.2.2.1 v.2.2.2.2.2.2.2.2.2.2.2.2.2.1 (if (if v.2.2.2.1 = (1:Int32) then (if v.2.1 = (0:Int32) then (if v.2.2.2.2.1 = (1:Int32) then (1:Int32) else (if v.2.2.2.2.1 = (3:Int32) then (1:Int32) else (if v.2.2.2.2.2.2.1 = (1:Int32) then (1:Int32) else (if v.2.2.2.2.2.2.1 = (3:Int32) then (1:Int32) else (0:Int32))))) else (0:Int32)) else (0:Int32)) = (0:Int32) then (1:Int32) else v.2.2.2.2.2.2.2.2.2.2.2.2.2.2.1) v.2.2.2.2.2.2.2.2.2.2.2.2.2.2.2.1 h hx0 hc)
            rcases em ((if v.2.2.2.1 = (1:Int32) then (if v.2.1 = (0:Int32) then (if v.2.2.2.2.1 = (1:Int32) then (1:Int32) else (if v.2.2.2.2.1 = (3:Int32) then (1:Int32) else (if v.2.2.2.2.2.2.1 = (1:Int32) then (1:Int32) else (if v.2.2.2.2.2.2.1 = (3:Int32) then (1:Int32) else (0:Int32))))) else (0:Int32)) else (0:Int32)) = (0:Int32)) with hc498 | hc498
            ·refine zF Ad W (t := 791) (f := 788) rfl (XT.i0_ne_f hc498) ?_
             refine zS Ad W 2 (st' := (791, [vR 0, none, vR 1, vI x3, vI v.1, vI v.2.1, vI v.2.2.1, vI v.2.2.2.1, vI v.2.2.2.2.1, vI v.2.2.2.2.2.1, vI v.2.2.2.2.2.2.1, vI v.2.2.2.2.2.2.2.1, vI v.2.2.2.2.2.2.2.2.1, vI v.2.2.2.2.2.2.2.2.2.1, vI v.2.2.2.2.2.2.2.2.2.2.1, vI v.2.2.2.2.2.2.2.2.2.2.2.1, vI v.2.2.2.2.2.2.2.2.2.2.2.2.1, vI v.2.2.2.2.2.2.2.2.2.2.2.2.2.1, vI (1:Int32), vI v.2.2.2.2.2.2.2.2.2.2.2.2.2.2.2.1, none, none, none, none, none, vI (if v.2.2.2.1 = (1:Int32) then (if v.2.1 = (0:Int32) then (if v.2.2.2.2.1 = (1:Int32) then (1:Int32) else (if v.2.2.2.2.1 = (3:Int32) then (1:Int32) else (if v.2.2.2.2.2.2.1 = (1:Int32) then (1:Int32) else (if v.2.2.2.2.2.2.1 = (3:Int32) then (1:Int32) else (0:Int32))))) else (0:Int32)) else (0:Int32)), none, none, none, none], [], (H0 s r491.2))) rfl ?_
             exact zM [tt,ff,tt,tt,tt,tt,tt,tt,tt,tt,tt,tt,tt,tt,tt,tt,tt,tt,tt,tt,ff,ff,ff,ff,ff,ff,ff,ff,ff,ff] (K497 _ (if_pos hc498).symm)
            ·refine zT Ad W (t := 791) (f := 788) rfl (XT.i0_ne_t hc498) ?_
             exact zM [tt,ff,tt,tt,tt,tt,tt,tt,tt,tt,tt,tt,tt,tt,tt,tt,tt,tt,tt,tt,ff,ff,ff,ff,ff,ff,ff,ff,ff,ff] (K497 _ (if_neg hc498).symm)
           ·refine zF Ad W (t := 783) (f := 781) rfl (XT.ii_eq_f hc495) ?_
            refine zS Ad W 1 (st' := (782, [vR 0, none, vR 1, vI x3, vI v.1, vI v.2.1, vI v.2.2.1, vI v.2.2.2.1, vI v.2.2.2.2.1, vI v.2.2.2.2.2.1, vI v.2.2.2.2.2.2.1, vI v.2.2.2.2.2.2.2.1, vI v.2.2.2.2.2.2.2.2.1, vI v.2.2.2.2.2.2.2.2.2.1, vI v.2.2.2.2.2.2.2.2.2.2.1, vI v.2.2.2.2.2.2.2.2.2.2.2.1, vI v.2.2.2.2.2.2.2.2.2.2.2.2.1, vI v.2.2.2.2.2.2.2.2.2.2.2.2.2.1, vI v.2.2.2.2.2.2.2.2.2.2.2.2.2.2.1, vI v.2.2.2.2.2.2.2.2.2.2.2.2.2.2.2.1, none, none, none, none, none, vI (if v.2.2.2.1 = (1:Int32) then (if v.2.1 = (0:Int32) then (if v.2.2.2.2.1 = (1:Int32) then (1:Int32) else (if v.2.2.2.2.1 = (3:Int32) then (1:Int32) else (if v.2.2.2.2.2.2.1 = (1:Int32) then (1:Int32) else (if v.2.2.2.2.2.2.1 = (3:Int32) then (1:Int32) else (0:Int32))))) else (0:Int32)) else (0:Int32)), none, none, none, none], [.int (0:Int32)], (H0 s r491.2))) rfl ?_
            obtain rfl := Option.some.inj h
            obtain ⟨rfl, rfl⟩ := hx0 ((0:Int32), (H0 s r491.2)) rfl
            exact QTri.retZ rfl rfl
          rcases em ((if v.2.2.2.1 = (1:Int32) then (if v.2.1 = (0:Int32) then (if v.2.2.2.2.1 = (1:Int32) then (1:Int32) else (if v.2.2.2.2.1 = (3:Int32) then (1:Int32) else (if v.2.2.2.2.2.2.1 = (1:Int32) then (1:Int32) else (if v.2.2.2.2.2.2.1 = (3:Int32) then (1:Int32) else (0:Int32))))) else (0:Int32)) else (0:Int32)) = (0:Int32)) with hc494 | hc494
          ·refine zT Ad W (t := 777) (f := 773) rfl (XT.i0_eq_t hc494) ?_
           refine zS Ad W 1 (st' := (778, [vR 0, none, vR 1, vI x3, vI v.1, vI v.2.1, vI v.2.2.1, vI v.2.2.2.1, vI v.2.2.2.2.1, vI v.2.2.2.2.2.1, vI v.2.2.2.2.2.2.1, vI v.2.2.2.2.2.2.2.1, vI v.2.2.2.2.2.2.2.2.1, vI v.2.2.2.2.2.2.2.2.2.1, vI v.2.2.2.2.2.2.2.2.2.2.1, vI v.2.2.2.2.2.2.2.2.2.2.2.1, vI v.2.2.2.2.2.2.2.2.2.2.2.2.1, vI v.2.2.2.2.2.2.2.2.2.2.2.2.2.1, vI v.2.2.2.2.2.2.2.2.2.2.2.2.2.2.1, vI v.2.2.2.2.2.2.2.2.2.2.2.2.2.2.2.1, none, none, none, none, none, vI (if v.2.2.2.1 = (1:Int32) then (if v.2.1 = (0:Int32) then (if v.2.2.2.2.1 = (1:Int32) then (1:Int32) else (if v.2.2.2.2.1 = (3:Int32) then (1:Int32) else (if v.2.2.2.2.2.2.1 = (1:Int32) then (1:Int32) else (if v.2.2.2.2.2.2.1 = (3:Int32) then (1:Int32) else (0:Int32))))) else (0:Int32)) else (0:Int32)), vI r491.1, none, none, none], [.int (0:Int32), .int r491.1], (H0 s r491.2))) rfl ?_
           exact zM [tt,ff,tt,tt,tt,tt,tt,tt,tt,tt,tt,tt,tt,tt,tt,tt,tt,tt,tt,tt,ff,ff,ff,ff,ff,tt,ff,ff,ff,ff] (K493 _ (if_pos hc494).symm)
          ·refine zF Ad W (t := 777) (f := 773) rfl (XT.i0_eq_f hc494) ?_
           refine zS Ad W 2 (st' := (778, [vR 0, none, vR 1, vI x3, vI v.1, vI v.2.1, vI v.2.2.1, vI v.2.2.2.1, vI v.2.2.2.2.1, vI v.2.2.2.2.2.1, vI v.2.2.2.2.2.2.1, vI v.2.2.2.2.2.2.2.1, vI v.2.2.2.2.2.2.2.2.1, vI v.2.2.2.2.2.2.2.2.2.1, vI v.2.2.2.2.2.2.2.2.2.2.1, vI v.2.2.2.2.2.2.2.2.2.2.2.1, vI v.2.2.2.2.2.2.2.2.2.2.2.2.1, vI v.2.2.2.2.2.2.2.2.2.2.2.2.2.1, vI v.2.2.2.2.2.2.2.2.2.2.2.2.2.2.1, vI v.2.2.2.2.2.2.2.2.2.2.2.2.2.2.2.1, none, none, none, none, none, vI (if v.2.2.2.1 = (1:Int32) then (if v.2.1 = (0:Int32) then (if v.2.2.2.2.1 = (1:Int32) then (1:Int32) else (if v.2.2.2.2.1 = (3:Int32) then (1:Int32) else (if v.2.2.2.2.2.2.1 = (1:Int32) then (1:Int32) else (if v.2.2.2.2.2.2.1 = (3:Int32) then (1:Int32) else (0:Int32))))) else (0:Int32)) else (0:Int32)), vI r491.1, none, none, none], [.int (-1:Int32), .int r491.1], (H0 s r491.2))) rfl ?_
           exact zM [tt,ff,tt,tt,tt,tt,tt,tt,tt,tt,tt,tt,tt,tt,tt,tt,tt,tt,tt,tt,ff,ff,ff,ff,ff,tt,ff,ff,ff,ff] (K493 _ (if_neg hc494).symm)
         rcases em (v.2.2.2.1 = (1:Int32)) with hc251 | hc251
         ·refine zF Ad W (t := 757) (f := 724) rfl (XT.ii_ne_f hc251) ?_
          refine zS Ad W 1 (st' := (726, [vR 0, none, vR 1, vI x3, vI v.1, vI v.2.1, vI v.2.2.1, vI v.2.2.2.1, vI v.2.2.2.2.1, vI v.2.2.2.2.2.1, vI v.2.2.2.2.2.2.1, vI v.2.2.2.2.2.2.2.1, vI v.2.2.2.2.2.2.2.2.1, vI v.2.2.2.2.2.2.2.2.2.1, vI v.2.2.2.2.2.2.2.2.2.2.1, vI v.2.2.2.2.2.2.2.2.2.2.2.1, vI v.2.2.2.2.2.2.2.2.2.2.2.2.1, vI v.2.2.2.2.2.2.2.2.2.2.2.2.2.1, vI v.2.2.2.2.2.2.2.2.2.2.2.2.2.2.1, vI v.2.2.2.2.2.2.2.2.2.2.2.2.2.2.2.1, vI (y18 &&& (15:Int32)), vI (y19 &&& (255:Int32)), vI (y20 &&& (255:Int32)), vI (y21 &&& (255:Int32)), vI (y22 &&& (255:Int32)), none, none, none, none, none], [.int v.2.1], (H0 s v.2.2.2.2.2.2.2.2.2.2.2.2.2.2.2.2))) rfl ?_
          rcases em (v.2.1 = (0:Int32)) with hc252 | hc252
          ·refine zF Ad W (t := 757) (f := 729) rfl (XT.i0_ne_f hc252) ?_
           refine zS Ad W 2 (st' := (732, [vR 0, none, vR 1, vI x3, vI v.1, vI v.2.1, vI v.2.2.1, vI v.2.2.2.1, vI v.2.2.2.2.1, vI v.2.2.2.2.2.1, vI v.2.2.2.2.2.2.1, vI v.2.2.2.2.2.2.2.1, vI v.2.2.2.2.2.2.2.2.1, vI v.2.2.2.2.2.2.2.2.2.1, vI v.2.2.2.2.2.2.2.2.2.2.1, vI v.2.2.2.2.2.2.2.2.2.2.2.1, vI v.2.2.2.2.2.2.2.2.2.2.2.2.1, vI v.2.2.2.2.2.2.2.2.2.2.2.2.2.1, vI v.2.2.2.2.2.2.2.2.2.2.2.2.2.2.1, vI v.2.2.2.2.2.2.2.2.2.2.2.2.2.2.2.1, vI (y18 &&& (15:Int32)), vI (y19 &&& (255:Int32)), vI (y20 &&& (255:Int32)), vI (y21 &&& (255:Int32)), vI (y22 &&& (255:Int32)), none, none, none, none, none], [.int (1:Int32), .int v.2.2.2.2.1], (H0 s v.2.2.2.2.2.2.2.2.2.2.2.2.2.2.2.2))) rfl ?_
           rcases em (v.2.2.2.2.1 = (1:Int32)) with hc253 | hc253
           ·refine zT Ad W (t := 753) (f := 735) rfl (XT.ii_eq_t hc253) ?_
            refine zS Ad W 2 (st' := (758, [vR 0, none, vR 1, vI x3, vI v.1, vI v.2.1, vI v.2.2.1, vI v.2.2.2.1, vI v.2.2.2.2.1, vI v.2.2.2.2.2.1, vI v.2.2.2.2.2.2.1, vI v.2.2.2.2.2.2.2.1, vI v.2.2.2.2.2.2.2.2.1, vI v.2.2.2.2.2.2.2.2.2.1, vI v.2.2.2.2.2.2.2.2.2.2.1, vI v.2.2.2.2.2.2.2.2.2.2.2.1, vI v.2.2.2.2.2.2.2.2.2.2.2.2.1, vI v.2.2.2.2.2.2.2.2.2.2.2.2.2.1, vI v.2.2.2.2.2.2.2.2.2.2.2.2.2.2.1, vI v.2.2.2.2.2.2.2.2.2.2.2.2.2.2.2.1, vI (y18 &&& (15:Int32)), vI (y19 &&& (255:Int32)), vI (y20 &&& (255:Int32)), vI (y21 &&& (255:Int32)), vI (y22 &&& (255:Int32)), none, none, none, none, none], [.int (1:Int32)], (H0 s v.2.2.2.2.2.2.2.2.2.2.2.2.2.2.2.2))) rfl ?_
            exact zM [tt,ff,tt,tt,tt,tt,tt,tt,tt,tt,tt,tt,tt,tt,tt,tt,tt,tt,tt,tt,ff,ff,ff,ff,ff,ff,ff,ff,ff,ff] (K250 _ ((if_pos hc251).trans ((if_pos hc252).trans (if_pos hc253))).symm)
           ·refine zF Ad W (t := 753) (f := 735) rfl (XT.ii_eq_f hc253) ?_
            refine zS Ad W 2 (st' := (738, [vR 0, none, vR 1, vI x3, vI v.1, vI v.2.1, vI v.2.2.1, vI v.2.2.2.1, vI v.2.2.2.2.1, vI v.2.2.2.2.2.1, vI v.2.2.2.2.2.2.1, vI v.2.2.2.2.2.2.2.1, vI v.2.2.2.2.2.2.2.2.1, vI v.2.2.2.2.2.2.2.2.2.1, vI v.2.2.2.2.2.2.2.2.2.2.1, vI v.2.2.2.2.2.2.2.2.2.2.2.1, vI v.2.2.2.2.2.2.2.2.2.2.2.2.1, vI v.2.2.2.2.2.2.2.2.2.2.2.2.2.1, vI v.2.2.2.2.2.2.2.2.2.2.2.2.2.2.1, vI v.2.2.2.2.2.2.2.2.2.2.2.2.2.2.2.1, vI (y18 &&& (15:Int32)), vI (y19 &&& (255:Int32)), vI (y20 &&& (255:Int32)), vI (y21 &&& (255:Int32)), vI (y22 &&& (255:Int32)), none, none, none, none, none], [.int (3:Int32), .int v.2.2.2.2.1], (H0 s v.2.2.2.2.2.2.2.2.2.2.2.2.2.2.2.2))) rfl ?_
            rcases em (v.2.2.2.2.1 = (3:Int32)) with hc254 | hc254
            ·refine zT Ad W (t := 753) (f := 741) rfl (XT.ii_eq_t hc254) ?_
             refine zS Ad W 2 (st' := (758, [vR 0, none, vR 1, vI x3, vI v.1, vI v.2.1, vI v.2.2.1, vI v.2.2.2.1, vI v.2.2.2.2.1, vI v.2.2.2.2.2.1, vI v.2.2.2.2.2.2.1, vI v.2.2.2.2.2.2.2.1, vI v.2.2.2.2.2.2.2.2.1, vI v.2.2.2.2.2.2.2.2.2.1, vI v.2.2.2.2.2.2.2.2.2.2.1, vI v.2.2.2.2.2.2.2.2.2.2.2.1, vI v.2.2.2.2.2.2.2.2.2.2.2.2.1, vI v.2.2.2.2.2.2.2.2.2.2.2.2.2.1, vI v.2.2.2.2.2.2.2.2.2.2.2.2.2.2.1, vI v.2.2.2.2.2.2.2.2.2.2.2.2.2.2.2.1, vI (y18 &&& (15:Int32)), vI (y19 &&& (255:Int32)), vI (y20 &&& (255:Int32)), vI (y21 &&& (255:Int32)), vI (y22 &&& (255:Int32)), none, none, none, none, none], [.int (1:Int32)], (H0 s v.2.2.2.2.2.2.2.2.2.2.2.2.2.2.2.2))) rfl ?_
             exact zM [tt,ff,tt,tt,tt,tt,tt,tt,tt,tt,tt,tt,tt,tt,tt,tt,tt,tt,tt,tt,ff,ff,ff,ff,ff,ff,ff,ff,ff,ff] (K250 _ ((if_pos hc251).trans ((if_pos hc252).trans ((if_neg hc253).trans (if_pos hc254)))).symm)
            ·refine zF Ad W (t := 753) (f := 741) rfl (XT.ii_eq_f hc254) ?_
             refine zS Ad W 2 (st' := (744, [vR 0, none, vR 1, vI x3, vI v.1, vI v.2.1, vI v.2.2.1, vI v.2.2.2.1, vI v.2.2.2.2.1, vI v.2.2.2.2.2.1, vI v.2.2.2.2.2.2.1, vI v.2.2.2.2.2.2.2.1, vI v.2.2.2.2.2.2.2.2.1, vI v.2.2.2.2.2.2.2.2.2.1, vI v.2.2.2.2.2.2.2.2.2.2.1, vI v.2.2.2.2.2.2.2.2.2.2.2.1, vI v.2.2.2.2.2.2.2.2.2.2.2.2.1, vI v.2.2.2.2.2.2.2.2.2.2.2.2.2.1, vI v.2.2.2.2.2.2.2.2.2.2.2.2.2.2.1, vI v.2.2.2.2.2.2.2.2.2.2.2.2.2.2.2.1, vI (y18 &&& (15:Int32)), vI (y19 &&& (255:Int32)), vI (y20 &&& (255:Int32)), vI (y21 &&& (255:Int32)), vI (y22 &&& (255:Int32)), none, none, none, none, none], [.int (1:Int32), .int v.2.2.2.2.2.2.1], (H0 s v.2.2.2.2.2.2.2.2.2.2.2.2.2.2.2.2))) rfl ?_
             rcases em (v.2.2.2.2.2.2.1 = (1:Int32)) with hc255 | hc255
             ·refine zT Ad W (t := 753) (f := 747) rfl (XT.ii_eq_t hc255) ?_
              refine zS Ad W 2 (st' := (758, [vR 0, none, vR 1, vI x3, vI v.1, vI v.2.1, vI v.2.2.1, vI v.2.2.2.1, vI v.2.2.2.2.1, vI v.2.2.2.2.2.1, vI v.2.2.2.2.2.2.1, vI v.2.2.2.2.2.2.2.1, vI v.2.2.2.2.2.2.2.2.1, vI v.2.2.2.2.2.2.2.2.2.1, vI v.2.2.2.2.2.2.2.2.2.2.1, vI v.2.2.2.2.2.2.2.2.2.2.2.1, vI v.2.2.2.2.2.2.2.2.2.2.2.2.1, vI v.2.2.2.2.2.2.2.2.2.2.2.2.2.1, vI v.2.2.2.2.2.2.2.2.2.2.2.2.2.2.1, vI v.2.2.2.2.2.2.2.2.2.2.2.2.2.2.2.1, vI (y18 &&& (15:Int32)), vI (y19 &&& (255:Int32)), vI (y20 &&& (255:Int32)), vI (y21 &&& (255:Int32)), vI (y22 &&& (255:Int32)), none, none, none, none, none], [.int (1:Int32)], (H0 s v.2.2.2.2.2.2.2.2.2.2.2.2.2.2.2.2))) rfl ?_
              exact zM [tt,ff,tt,tt,tt,tt,tt,tt,tt,tt,tt,tt,tt,tt,tt,tt,tt,tt,tt,tt,ff,ff,ff,ff,ff,ff,ff,ff,ff,ff] (K250 _ ((if_pos hc251).trans ((if_pos hc252).trans ((if_neg hc253).trans ((if_neg hc254).trans (if_pos hc255))))).symm)
             ·refine zF Ad W (t := 753) (f := 747) rfl (XT.ii_eq_f hc255) ?_
              refine zS Ad W 2 (st' := (750, [vR 0, none, vR 1, vI x3, vI v.1, vI v.2.1, vI v.2.2.1, vI v.2.2.2.1, vI v.2.2.2.2.1, vI v.2.2.2.2.2.1, vI v.2.2.2.2.2.2.1, vI v.2.2.2.2.2.2.2.1, vI v.2.2.2.2.2.2.2.2.1, vI v.2.2.2.2.2.2.2.2.2.1, vI v.2.2.2.2.2.2.2.2.2.2.1, vI v.2.2.2.2.2.2.2.2.2.2.2.1, vI v.2.2.2.2.2.2.2.2.2.2.2.2.1, vI v.2.2.2.2.2.2.2.2.2.2.2.2.2.1, vI v.2.2.2.2.2.2.2.2.2.2.2.2.2.2.1, vI v.2.2.2.2.2.2.2.2.2.2.2.2.2.2.2.1, vI (y18 &&& (15:Int32)), vI (y19 &&& (255:Int32)), vI (y20 &&& (255:Int32)), vI (y21 &&& (255:Int32)), vI (y22 &&& (255:Int32)), none, none, none, none, none], [.int (3:Int32), .int v.2.2.2.2.2.2.1], (H0 s v.2.2.2.2.2.2.2.2.2.2.2.2.2.2.2.2))) rfl ?_
              rcases em (v.2.2.2.2.2.2.1 = (3:Int32)) with hc256 | hc256
              ·refine zF Ad W (t := 757) (f := 753) rfl (XT.ii_ne_f hc256) ?_
               refine zS Ad W 2 (st' := (758, [vR 0, none, vR 1, vI x3, vI v.1, vI v.2.1, vI v.2.2.1, vI v.2.2.2.1, vI v.2.2.2.2.1, vI v.2.2.2.2.2.1, vI v.2.2.2.2.2.2.1, vI v.2.2.2.2.2.2.2.1, vI v.2.2.2.2.2.2.2.2.1, vI v.2.2.2.2.2.2.2.2.2.1, vI v.2.2.2.2.2.2.2.2.2.2.1, vI v.2.2.2.2.2.2.2.2.2.2.2.1, vI v.2.2.2.2.2.2.2.2.2.2.2.2.1, vI v.2.2.2.2.2.2.2.2.2.2.2.2.2.1, vI v.2.2.2.2.2.2.2.2.2.2.2.2.2.2.1, vI v.2.2.2.2.2.2.2.2.2.2.2.2.2.2.2.1, vI (y18 &&& (15:Int32)), vI (y19 &&& (255:Int32)), vI (y20 &&& (255:Int32)), vI (y21 &&& (255:Int32)), vI (y22 &&& (255:Int32)), none, none, none, none, none], [.int (1:Int32)], (H0 s v.2.2.2.2.2.2.2.2.2.2.2.2.2.2.2.2))) rfl ?_
               exact zM [tt,ff,tt,tt,tt,tt,tt,tt,tt,tt,tt,tt,tt,tt,tt,tt,tt,tt,tt,tt,ff,ff,ff,ff,ff,ff,ff,ff,ff,ff] (K250 _ ((if_pos hc251).trans ((if_pos hc252).trans ((if_neg hc253).trans ((if_neg hc254).trans ((if_neg hc255).trans (if_pos hc256)))))).symm)
              ·refine zT Ad W (t := 757) (f := 753) rfl (XT.ii_ne_t hc256) ?_
               refine zS Ad W 1 (st' := (758, [vR 0, none, vR 1, vI x3, vI v.1, vI v.2.1, vI v.2.2.1, vI v.2.2.2.1, vI v.2.2.2.2.1, vI v.2.2.2.2.2.1, vI v.2.2.2.2.2.2.1, vI v.2.2.2.2.2.2.2.1, vI v.2.2.2.2.2.2.2.2.1, vI v.2.2.2.2.2.2.2.2.2.1, vI v.2.2.2.2.2.2.2.2.2.2.1, vI v.2.2.2.2.2.2.2.2.2.2.2.1, vI v.2.2.2.2.2.2.2.2.2.2.2.2.1, vI v.2.2.2.2.2.2.2.2.2.2.2.2.2.1, vI v.2.2.2.2.2.2.2.2.2.2.2.2.2.2.1, vI v.2.2.2.2.2.2.2.2.2.2.2.2.2.2.2.1, vI (y18 &&& (15:Int32)), vI (y19 &&& (255:Int32)), vI (y20 &&& (255:Int32)), vI (y21 &&& (255:Int32)), vI (y22 &&& (255:Int32)), none, none, none, none, none], [.int (0:Int32)], (H0 s v.2.2.2.2.2.2.2.2.2.2.2.2.2.2.2.2))) rfl ?_
               exact zM [tt,ff,tt,tt,tt,tt,tt,tt,tt,tt,tt,tt,tt,tt,tt,tt,tt,tt,tt,tt,ff,ff,ff,ff,ff,ff,ff,ff,ff,ff] (K250 _ ((if_pos hc251).trans ((if_pos hc252).trans ((if_neg hc253).trans ((if_neg hc254).trans ((if_neg hc255).trans (if_neg hc256)))))).symm)
          ·refine zT Ad W (t := 757) (f := 729) rfl (XT.i0_ne_t hc252) ?_
           refine zS Ad W 1 (st' := (758, [vR 0, none, vR 1, vI x3, vI v.1, vI v.2.1, vI v.2.2.1, vI v.2.2.2.1, vI v.2.2.2.2.1, vI v.2.2.2.2.2.1, vI v.2.2.2.2.2.2.1, vI v.2.2.2.2.2.2.2.1, vI v.2.2.2.2.2.2.2.2.1, vI v.2.2.2.2.2.2.2.2.2.1, vI v.2.2.2.2.2.2.2.2.2.2.1, vI v.2.2.2.2.2.2.2.2.2.2.2.1, vI v.2.2.2.2.2.2.2.2.2.2.2.2.1, vI v.2.2.2.2.2.2.2.2.2.2.2.2.2.1, vI v.2.2.2.2.2.2.2.2.2.2.2.2.2.2.1, vI v.2.2.2.2.2.2.2.2.2.2.2.2.2.2.2.1, vI (y18 &&& (15:Int32)), vI (y19 &&& (255:Int32)), vI (y20 &&& (255:Int32)), vI (y21 &&& (255:Int32)), vI (y22 &&& (255:Int32)), none, none, none, none, none], [.int (0:Int32)], (H0 s v.2.2.2.2.2.2.2.2.2.2.2.2.2.2.2.2))) rfl ?_
           exact zM [tt,ff,tt,tt,tt,tt,tt,tt,tt,tt,tt,tt,tt,tt,tt,tt,tt,tt,tt,tt,ff,ff,ff,ff,ff,ff,ff,ff,ff,ff] (K250 _ ((if_pos hc251).trans (if_neg hc252)).symm)
         ·refine zT Ad W (t := 757) (f := 724) rfl (XT.ii_ne_t hc251) ?_
          refine zS Ad W 1 (st' := (758, [vR 0, none, vR 1, vI x3, vI v.1, vI v.2.1, vI v.2.2.1, vI v.2.2.2.1, vI v.2.2.2.2.1, vI v.2.2.2.2.2.1, vI v.2.2.2.2.2.2.1, vI v.2.2.2.2.2.2.2.1, vI v.2.2.2.2.2.2.2.2.1, vI v.2.2.2.2.2.2.2.2.2.1, vI v.2.2.2.2.2.2.2.2.2.2.1, vI v.2.2.2.2.2.2.2.2.2.2.2.1, vI v.2.2.2.2.2.2.2.2.2.2.2.2.1, vI v.2.2.2.2.2.2.2.2.2.2.2.2.2.1, vI v.2.2.2.2.2.2.2.2.2.2.2.2.2.2.1, vI v.2.2.2.2.2.2.2.2.2.2.2.2.2.2.2.1, vI (y18 &&& (15:Int32)), vI (y19 &&& (255:Int32)), vI (y20 &&& (255:Int32)), vI (y21 &&& (255:Int32)), vI (y22 &&& (255:Int32)), none, none, none, none, none], [.int (0:Int32)], (H0 s v.2.2.2.2.2.2.2.2.2.2.2.2.2.2.2.2))) rfl ?_
          exact zM [tt,ff,tt,tt,tt,tt,tt,tt,tt,tt,tt,tt,tt,tt,tt,tt,tt,tt,tt,tt,ff,ff,ff,ff,ff,ff,ff,ff,ff,ff] (K250 _ (if_neg hc251).symm)
  ·refine zF Ad W (t := 274) (f := 158) rfl (XT.ii_gt_f hc23) ?_
   refine zS Ad W 10 (st' := (173, [vR 0, none, vR 1, vI x3, vI v.1, vI v.2.1, vI v.2.2.1, vI v.2.2.2.1, vI v.2.2.2.2.1, vI v.2.2.2.2.2.1, vI v.2.2.2.2.2.2.1, vI v.2.2.2.2.2.2.2.1, vI v.2.2.2.2.2.2.2.2.1, vI v.2.2.2.2.2.2.2.2.2.1, vI v.2.2.2.2.2.2.2.2.2.2.1, vI v.2.2.2.2.2.2.2.2.2.2.2.1, vI v.2.2.2.2.2.2.2.2.2.2.2.2.1, vI v.2.2.2.2.2.2.2.2.2.2.2.2.2.1, vI v.2.2.2.2.2.2.2.2.2.2.2.2.2.2.1, vI v.2.2.2.2.2.2.2.2.2.2.2.2.2.2.2.1, vI (y18 &&& (15:Int32)), vI (y19 &&& (255:Int32)), vI (y20 &&& (255:Int32)), vI (y21 &&& (255:Int32)), vI (y22 &&& (255:Int32)), vI ((y22 &&& (255:Int32)) % (5:Int32)), vI (((y20 &&& (255:Int32)) &&& (7:Int32)) - (3:Int32)), none, none, none], [], (H0 s v.2.2.2.2.2.2.2.2.2.2.2.2.2.2.2.2))) rfl ?_
   refine zS Ad W 11 (st' := (191, [vR 0, none, vR 1, vI x3, vI v.1, vI v.2.1, vI v.2.2.1, vI v.2.2.2.1, vI v.2.2.2.2.1, vI v.2.2.2.2.2.1, vI v.2.2.2.2.2.2.1, vI v.2.2.2.2.2.2.2.1, vI v.2.2.2.2.2.2.2.2.1, vI v.2.2.2.2.2.2.2.2.2.1, vI v.2.2.2.2.2.2.2.2.2.2.1, vI v.2.2.2.2.2.2.2.2.2.2.2.1, vI v.2.2.2.2.2.2.2.2.2.2.2.2.1, vI v.2.2.2.2.2.2.2.2.2.2.2.2.2.1, vI v.2.2.2.2.2.2.2.2.2.2.2.2.2.2.1, vI v.2.2.2.2.2.2.2.2.2.2.2.2.2.2.2.1, vI (y18 &&& (15:Int32)), vI (y19 &&& (255:Int32)), vI (y20 &&& (255:Int32)), vI (y21 &&& (255:Int32)), vI (y22 &&& (255:Int32)), vI ((y22 &&& (255:Int32)) % (5:Int32)), vI (((y20 &&& (255:Int32)) &&& (7:Int32)) - (3:Int32)), vI ((y21 &&& (255:Int32)) - (100:Int32)), none, none], [.int ((y22 &&& (255:Int32)) % (5:Int32)), .int ((y21 &&& (255:Int32)) - (100:Int32)), .int (((y20 &&& (255:Int32)) &&& (7:Int32)) - (3:Int32)), .int ((y19 &&& (255:Int32)) &&& (3:Int32)), .ref 1], (H0 s v.2.2.2.2.2.2.2.2.2.2.2.2.2.2.2.2))) rfl ?_
   obtain ⟨r514, hr514, h⟩ := bind_eq_some_iff.mp h
   refine QTri.callV W (a := 1) (as := [.int ((y19 &&& (255:Int32)) &&& (3:Int32)), .int (((y20 &&& (255:Int32)) &&& (7:Int32)) - (3:Int32)), .int ((y21 &&& (255:Int32)) - (100:Int32)), .int ((y22 &&& (255:Int32)) % (5:Int32))]) (rest := []) (w := (some (.int r514.1))) (σ₁ := (H0 s r514.2)) rfl rfl rfl rfl rfl rfl rfl rfl (tF3 Ad W s v.2.2.2.2.2.2.2.2.2.2.2.2.2.2.2.2 ((y19 &&& (255:Int32)) &&& (3:Int32)) (((y20 &&& (255:Int32)) &&& (7:Int32)) - (3:Int32)) ((y21 &&& (255:Int32)) - (100:Int32)) ((y22 &&& (255:Int32)) % (5:Int32)) hr514) ?_
   refine zS Ad W 3 (st' := (199, [vR 0, none, vR 1, vI x3, vI v.1, vI v.2.1, vI v.2.2.1, vI v.2.2.2.1, vI v.2.2.2.2.1, vI v.2.2.2.2.2.1, vI v.2.2.2.2.2.2.1, vI v.2.2.2.2.2.2.2.1, vI v.2.2.2.2.2.2.2.2.1, vI v.2.2.2.2.2.2.2.2.2.1, vI v.2.2.2.2.2.2.2.2.2.2.1, vI v.2.2.2.2.2.2.2.2.2.2.2.1, vI v.2.2.2.2.2.2.2.2.2.2.2.2.1, vI v.2.2.2.2.2.2.2.2.2.2.2.2.2.1, vI v.2.2.2.2.2.2.2.2.2.2.2.2.2.2.1, vI v.2.2.2.2.2.2.2.2.2.2.2.2.2.2.2.1, vI (y18 &&& (15:Int32)), vI (y19 &&& (255:Int32)), vI (y20 &&& (255:Int32)), vI (y21 &&& (255:Int32)), vI (y22 &&& (255:Int32)), vI ((y22 &&& (255:Int32)) % (5:Int32)), vI (((y20 &&& (255:Int32)) &&& (7:Int32)) - (3:Int32)), vI ((y21 &&& (255:Int32)) - (100:Int32)), vI r514.1, none], [.int (3:Int32), .int ((y22 &&& (255:Int32)) % (5:Int32))], (H0 s r514.2))) rfl ?_
   rcases qite h with ⟨hc515, h⟩ | ⟨hc515, h⟩
   ·refine zT Ad W (t := 208) (f := 202) rfl (XT.ii_gt_t hc515) ?_
    exact zM [tt,ff,tt,tt,tt,tt,tt,tt,tt,tt,tt,tt,tt,tt,tt,tt,tt,tt,tt,tt,ff,ff,ff,ff,ff,ff,ff,ff,tt,ff] (tJ0_208 Ad W s r514.2 x3 v.1 v.2.1 v.2.2.1 v.2.2.2.1 v.2.2.2.2.1 v.2.2.2.2.2.1 v.2.2.2.2.2.2.1 v.2.2.2.2.2.2.2.1 v.2.2.2.2.2.2.2.2.1 v.2.2.2.2.2.2.2.2.2.1 v.2.2.2.2.2.2.2.2.2.2.1 v.2.2.2.2.2.2.2.2.2.2.2.1 v.2.2.2.2.2.2.2.2.2.2.2.2.1 v.2.2.2.2.2.2.2.2.2.2.2.2.2.1 v.2.2.2.2.2.2.2.2.2.2.2.2.2.2.1 v.2.2.2.2.2.2.2.2.2.2.2.2.2.2.2.1 r514.1 h hx0 hc)
   ·refine zF Ad W (t := 208) (f := 202) rfl (XT.ii_gt_f hc515) ?_
    refine zS Ad W 2 (st' := (205, [vR 0, none, vR 1, vI x3, vI v.1, vI v.2.1, vI v.2.2.1, vI v.2.2.2.1, vI v.2.2.2.2.1, vI v.2.2.2.2.2.1, vI v.2.2.2.2.2.2.1, vI v.2.2.2.2.2.2.2.1, vI v.2.2.2.2.2.2.2.2.1, vI v.2.2.2.2.2.2.2.2.2.1, vI v.2.2.2.2.2.2.2.2.2.2.1, vI v.2.2.2.2.2.2.2.2.2.2.2.1, vI v.2.2.2.2.2.2.2.2.2.2.2.2.1, vI v.2.2.2.2.2.2.2.2.2.2.2.2.2.1, vI v.2.2.2.2.2.2.2.2.2.2.2.2.2.2.1, vI v.2.2.2.2.2.2.2.2.2.2.2.2.2.2.2.1, vI (y18 &&& (15:Int32)), vI (y19 &&& (255:Int32)), vI (y20 &&& (255:Int32)), vI (y21 &&& (255:Int32)), vI (y22 &&& (255:Int32)), vI ((y22 &&& (255:Int32)) % (5:Int32)), vI (((y20 &&& (255:Int32)) &&& (7:Int32)) - (3:Int32)), vI ((y21 &&& (255:Int32)) - (100:Int32)), vI r514.1, none], [.int x3, .int v.1], (H0 s r514.2))) rfl ?_
    rcases qite h with ⟨hc517, h⟩ | ⟨hc517, h⟩
    ·refine zF Ad W (t := 216) (f := 208) rfl (XT.ii_ne_f hc517) ?_
     exact zM [tt,ff,tt,tt,tt,tt,tt,tt,tt,tt,tt,tt,tt,tt,tt,tt,tt,tt,tt,tt,ff,ff,ff,ff,ff,ff,ff,ff,tt,ff] (tJ0_208 Ad W s r514.2 x3 v.1 v.2.1 v.2.2.1 v.2.2.2.1 v.2.2.2.2.1 v.2.2.2.2.2.1 v.2.2.2.2.2.2.1 v.2.2.2.2.2.2.2.1 v.2.2.2.2.2.2.2.2.1 v.2.2.2.2.2.2.2.2.2.1 v.2.2.2.2.2.2.2.2.2.2.1 v.2.2.2.2.2.2.2.2.2.2.2.1 v.2.2.2.2.2.2.2.2.2.2.2.2.1 v.2.2.2.2.2.2.2.2.2.2.2.2.2.1 v.2.2.2.2.2.2.2.2.2.2.2.2.2.2.1 v.2.2.2.2.2.2.2.2.2.2.2.2.2.2.2.1 r514.1 h hx0 hc)
    ·refine zT Ad W (t := 216) (f := 208) rfl (XT.ii_ne_t hc517) ?_
     refine zS Ad W 2 (st' := (220, [vR 0, none, vR 1, vI x3, vI v.1, vI v.2.1, vI v.2.2.1, vI v.2.2.2.1, vI v.2.2.2.2.1, vI v.2.2.2.2.2.1, vI v.2.2.2.2.2.2.1, vI v.2.2.2.2.2.2.2.1, vI v.2.2.2.2.2.2.2.2.1, vI v.2.2.2.2.2.2.2.2.2.1, vI v.2.2.2.2.2.2.2.2.2.2.1, vI v.2.2.2.2.2.2.2.2.2.2.2.1, vI v.2.2.2.2.2.2.2.2.2.2.2.2.1, vI v.2.2.2.2.2.2.2.2.2.2.2.2.2.1, vI v.2.2.2.2.2.2.2.2.2.2.2.2.2.2.1, vI v.2.2.2.2.2.2.2.2.2.2.2.2.2.2.2.1, vI (y18 &&& (15:Int32)), vI (y19 &&& (255:Int32)), vI (y20 &&& (255:Int32)), vI (y21 &&& (255:Int32)), vI (y22 &&& (255:Int32)), vI ((y22 &&& (255:Int32)) % (5:Int32)), vI (((y20 &&& (255:Int32)) &&& (7:Int32)) - (3:Int32)), vI ((y21 &&& (255:Int32)) - (100:Int32)), vI r514.1, none], [.int v.1, .int r514.1], (H0 s r514.2))) rfl ?_
     rcases qite h with ⟨hc518, h⟩ | ⟨hc518, h⟩
     ·refine zT Ad W (t := 225) (f := 223) rfl (XT.ii_eq_t hc518) ?_
      refine zS Ad W 3 (st' := (231, [vR 0, none, vR 1, vI x3, vI (v.1 + (1:Int32)), vI v.2.1, vI v.2.2.1, vI v.2.2.2.1, vI v.2.2.2.2.1, vI v.2.2.2.2.2.1, vI v.2.2.2.2.2.2.1, vI v.2.2.2.2.2.2.2.1, vI v.2.2.2.2.2.2.2.2.1, vI v.2.2.2.2.2.2.2.2.2.1, vI v.2.2.2.2.2.2.2.2.2.2.1, vI v.2.2.2.2.2.2.2.2.2.2.2.1, vI v.2.2.2.2.2.2.2.2.2.2.2.2.1, vI v.2.2.2.2.2.2.2.2.2.2.2.2.2.1, vI (0:Int32), vI v.2.2.2.2.2.2.2.2.2.2.2.2.2.2.2.1, vI (y18 &&& (15:Int32)), vI (y19 &&& (255:Int32)), vI (y20 &&& (255:Int32)), vI (y21 &&& (255:Int32)), vI (y22 &&& (255:Int32)), vI ((y22 &&& (255:Int32)) % (5:Int32)), vI (((y20 &&& (255:Int32)) &&& (7:Int32)) - (3:Int32)), vI ((y21 &&& (255:Int32)) - (100:Int32)), vI r514.1, none], [], (H0 s r514.2))) rfl ?_
      refine zS Ad W 6 (st' := (241, [vR 0, none, vR 1, vI x3, vI (v.1 + (1:Int32)), vI v.2.1, vI v.2.2.1, vI v.2.2.2.1, vI v.2.2.2.2.1, vI v.2.2.2.2.2.1, vI v.2.2.2.2.2.2.1, vI v.2.2.2.2.2.2.2.1, vI v.2.2.2.2.2.2.2.2.1, vI v.2.2.2.2.2.2.2.2.2.1, vI ((y19 &&& (255:Int32)) &&& (3:Int32)), vI v.2.2.2.2.2.2.2.2.2.2.2.1, vI v.2.2.2.2.2.2.2.2.2.2.2.2.1, vI ((y22 &&& (255:Int32)) % (5:Int32)), vI (0:Int32), vI v.2.2.2.2.2.2.2.2.2.2.2.2.2.2.2.1, vI (y18 &&& (15:Int32)), vI (y19 &&& (255:Int32)), vI (y20 &&& (255:Int32)), vI (y21 &&& (255:Int32)), vI (y22 &&& (255:Int32)), vI ((y22 &&& (255:Int32)) % (5:Int32)), vI (((y20 &&& (255:Int32)) &&& (7:Int32)) - (3:Int32)), vI ((y21 &&& (255:Int32)) - (100:Int32)), vI r514.1, none], [], (H0 s r514.2))) rfl ?_
      refine zS Ad W 3 (st' := (245, [vR 0, none, vR 1, vI x3, vI (v.1 + (1:Int32)), vI v.2.1, vI v.2.2.1, vI v.2.2.2.1, vI v.2.2.2.2.1, vI v.2.2.2.2.2.1, vI v.2.2.2.2.2.2.1, vI v.2.2.2.2.2.2.2.1, vI v.2.2.2.2.2.2.2.2.1, vI v.2.2.2.2.2.2.2.2.2.1, vI ((y19 &&& (255:Int32)) &&& (3:Int32)), vI v.2.2.2.2.2.2.2.2.2.2.2.1, vI v.2.2.2.2.2.2.2.2.2.2.2.2.1, vI ((y22 &&& (255:Int32)) % (5:Int32)), vI (0:Int32), vI v.2.2.2.2.2.2.2.2.2.2.2.2.2.2.2.1, vI (y18 &&& (15:Int32)), vI (y19 &&& (255:Int32)), vI (y20 &&& (255:Int32)), vI (y21 &&& (255:Int32)), vI (y22 &&& (255:Int32)), vI ((y22 &&& (255:Int32)) % (5:Int32)), vI (((y20 &&& (255:Int32)) &&& (7:Int32)) - (3:Int32)), vI ((y21 &&& (255:Int32)) - (100:Int32)), vI r514.1, none], [.int (((y22 &&& (255:Int32)) % (5:Int32)) &&& (1:Int32))], (H0 s r514.2))) rfl ?_
      have K520 : ∀ z519 : Int32, z519 = (if (((y22 &&& (255:Int32)) % (5:Int32)) &&& (1:Int32)) = (0:Int32) then (((y20 &&& (255:Int32)) &&& (7:Int32)) - (3:Int32)) else (0:Int32)) → QTri l Z n0 ad 0 (254, [vR 0, none, vR 1, vI x3, vI (v.1 + (1:Int32)), vI v.2.1, vI v.2.2.1, vI v.2.2.2.1, vI v.2.2.2.2.1, vI v.2.2.2.2.2.1, vI v.2.2.2.2.2.2.1, vI v.2.2.2.2.2.2.2.1, vI v.2.2.2.2.2.2.2.2.1, vI v.2.2.2.2.2.2.2.2.2.1, vI ((y19 &&& (255:Int32)) &&& (3:Int32)), none, none, vI ((y22 &&& (255:Int32)) % (5:Int32)), vI (0:Int32), vI v.2.2.2.2.2.2.2.2.2.2.2.2.2.2.2.1, none, none, none, none, none, vI ((y22 &&& (255:Int32)) % (5:Int32)), none, vI ((y21 &&& (255:Int32)) - (100:Int32)), none, none], [.int z519], (H0 s r514.2)) u τ := by
       intro z519 ez519
       subst ez519
       refine zS Ad W 4 (st' := (260, [vR 0, none, vR 1, vI x3, vI (v.1 + (1:Int32)), vI v.2.1, vI v.2.2.1, vI v.2.2.2.1, vI v.2.2.2.2.1, vI v.2.2.2.2.2.1, vI v.2.2.2.2.2.2.1, vI v.2.2.2.2.2.2.2.1, vI v.2.2.2.2.2.2.2.2.1, vI v.2.2.2.2.2.2.2.2.2.1, vI ((y19 &&& (255:Int32)) &&& (3:Int32)), vI (if (((y22 &&& (255:Int32)) % (5:Int32)) &&& (1:Int32)) = (0:Int32) then (((y20 &&& (255:Int32)) &&& (7:Int32)) - (3:Int32)) else (0:Int32)), none, vI ((y22 &&& (255:Int32)) % (5:Int32)), vI (0:Int32), vI v.2.2.2.2.2.2.2.2.2.2.2.2.2.2.2.1, none, none, none, none, none, vI ((y22 &&& (255:Int32)) % (5:Int32)), none, vI ((y21 &&& (255:Int32)) - (100:Int32)), none, none], [.int (((y22 &&& (255:Int32)) % (5:Int32)) &&& (2:Int32))], (H0 s r514.2))) rfl ?_
       have K523 : ∀ z522 : Int32, z522 = (if (((y22 &&& (255:Int32)) % (5:Int32)) &&& (2:Int32)) = (0:Int32) then ((y21 &&& (255:Int32)) - (100:Int32)) else (0:Int32)) → QTri l Z n0 ad 0 (269, [vR 0, none, vR 1, vI x3, vI (v.1 + (1:Int32)), vI v.2.1, vI v.2.2.1, vI v.2.2.2.1, vI v.2.2.2.2.1, vI v.2.2.2.2.2.1, vI v.2.2.2.2.2.2.1, vI v.2.2.2.2.2.2.2.1, vI v.2.2.2.2.2.2.2.2.1, vI v.2.2.2.2.2.2.2.2.2.1, vI ((y19 &&& (255:Int32)) &&& (3:Int32)), vI (if (((y22 &&& (255:Int32)) % (5:Int32)) &&& (1:Int32)) = (0:Int32) then (((y20 &&& (255:Int32)) &&& (7:Int32)) - (3:Int32)) else (0:Int32)), none, vI ((y22 &&& (255:Int32)) % (5:Int32)), vI (0:Int32), vI v.2.2.2.2.2.2.2.2.2.2.2.2.2.2.2.1, none, none, none, none, none, none, none, none, none, none], [.int z522], (H0 s r514.2)) u τ := by
        intro z522 ez522
        subst ez522
        refine zS Ad W 1 (st' := (271, [vR 0, none, vR 1, vI x3, vI (v.1 + (1:Int32)), vI v.2.1, vI v.2.2.1, vI v.2.2.2.1, vI v.2.2.2.2.1, vI v.2.2.2.2.2.1, vI v.2.2.2.2.2.2.1, vI v.2.2.2.2.2.2.2.1, vI v.2.2.2.2.2.2.2.2.1, vI v.2.2.2.2.2.2.2.2.2.1, vI ((y19 &&& (255:Int32)) &&& (3:Int32)), vI (if (((y22 &&& (255:Int32)) % (5:Int32)) &&& (1:Int32)) = (0:Int32) then (((y20 &&& (255:Int32)) &&& (7:Int32)) - (3:Int32)) else (0:Int32)), vI (if (((y22 &&& (255:Int32)) % (5:Int32)) &&& (2:Int32)) = (0:Int32) then ((y21 &&& (255:Int32)) - (100:Int32)) else (0:Int32)), vI ((y22 &&& (255:Int32)) % (5:Int32)), vI (0:Int32), vI v.2.2.2.2.2.2.2.2.2.2.2.2.2.2.2.1, none, none, none, none, none, none, none, none, none, none], [], (H0 s r514.2))) rfl ?_
        exact zM [tt,ff,tt,tt,tt,tt,tt,tt,tt,tt,tt,tt,tt,tt,tt,tt,tt,tt,tt,tt,ff,ff,ff,ff,ff,ff,ff,ff,ff,ff] (tJ0_271 Ad W s r514.2 x3 (v.1 + (1:Int32)) v.2.1 v.2.2.1 v.2.2.2.1 v.2.2.2.2.1 v.2.2.2.2.2.1 v.2.2.2.2.2.2.1 v.2.2.2.2.2.2.2.1 v.2.2.2.2.2.2.2.2.1 v.2.2.2.2.2.2.2.2.2.1 ((y19 &&& (255:Int32)) &&& (3:Int32)) (if (((y22 &&& (255:Int32)) % (5:Int32)) &&& (1:Int32)) = (0:Int32) then (((y20 &&& (255:Int32)) &&& (7:Int32)) - (3:Int32)) else (0:Int32)) (if (((y22 &&& (255:Int32)) % (5:Int32)) &&& (2:Int32)) = (0:Int32) then ((y21 &&& (255:Int32)) - (100:Int32)) else (0:Int32)) ((y22 &&& (255:Int32)) % (5:Int32)) (0:Int32) v.2.2.2.2.2.2.2.2.2.2.2.2.2.2.2.1 h hx0 hc)
       rcases em ((((y22 &&& (255:Int32)) % (5:Int32)) &&& (2:Int32)) = (0:Int32)) with hc524 | hc524
       ·refine zT Ad W (t := 267) (f := 263) rfl (XT.i0_eq_t hc524) ?_
        refine zS Ad W 1 (st' := (269, [vR 0, none, vR 1, vI x3, vI (v.1 + (1:Int32)), vI v.2.1, vI v.2.2.1, vI v.2.2.2.1, vI v.2.2.2.2.1, vI v.2.2.2.2.2.1, vI v.2.2.2.2.2.2.1, vI v.2.2.2.2.2.2.2.1, vI v.2.2.2.2.2.2.2.2.1, vI v.2.2.2.2.2.2.2.2.2.1, vI ((y19 &&& (255:Int32)) &&& (3:Int32)), vI (if (((y22 &&& (255:Int32)) % (5:Int32)) &&& (1:Int32)) = (0:Int32) then (((y20 &&& (255:Int32)) &&& (7:Int32)) - (3:Int32)) else (0:Int32)), none, vI ((y22 &&& (255:Int32)) % (5:Int32)), vI (0:Int32), vI v.2.2.2.2.2.2.2.2.2.2.2.2.2.2.2.1, none, none, none, none, none, vI ((y22 &&& (255:Int32)) % (5:Int32)), none, vI ((y21 &&& (255:Int32)) - (100:Int32)), none, none], [.int ((y21 &&& (255:Int32)) - (100:Int32))], (H0 s r514.2))) rfl ?_
        exact zM [tt,ff,tt,tt,tt,tt,tt,tt,tt,tt,tt,tt,tt,tt,tt,tt,ff,tt,tt,tt,ff,ff,ff,ff,ff,ff,ff,ff,ff,ff] (K523 _ (if_pos hc524).symm)
       ·refine zF Ad W (t := 267) (f := 263) rfl (XT.i0_eq_f hc524) ?_
        refine zS Ad W 2 (st' := (269, [vR 0, none, vR 1, vI x3, vI (v.1 + (1:Int32)), vI v.2.1, vI v.2.2.1, vI v.2.2.2.1, vI v.2.2.2.2.1, vI v.2.2.2.2.2.1, vI v.2.2.2.2.2.2.1, vI v.2.2.2.2.2.2.2.1, vI v.2.2.2.2.2.2.2.2.1, vI v.2.2.2.2.2.2.2.2.2.1, vI ((y19 &&& (255:Int32)) &&& (3:Int32)), vI (if (((y22 &&& (255:Int32)) % (5:Int32)) &&& (1:Int32)) = (0:Int32) then (((y20 &&& (255:Int32)) &&& (7:Int32)) - (3:Int32)) else (0:Int32)), none, vI ((y22 &&& (255:Int32)) % (5:Int32)), vI (0:Int32), vI v.2.2.2.2.2.2.2.2.2.2.2.2.2.2.2.1, none, none, none, none, none, vI ((y22 &&& (255:Int32)) % (5:Int32)), none, vI ((y21 &&& (255:Int32)) - (100:Int32)), none, none], [.int (0:Int32)], (H0 s r514.2))) rfl ?_
        exact zM [tt,ff,tt,tt,tt,tt,tt,tt,tt,tt,tt,tt,tt,tt,tt,tt,ff,tt,tt,tt,ff,ff,ff,ff,ff,ff,ff,ff,ff,ff] (K523 _ (if_neg hc524).symm)
      rcases em ((((y22 &&& (255:Int32)) % (5:Int32)) &&& (1:Int32)) = (0:Int32)) with hc521 | hc521
      ·refine zT Ad W (t := 252) (f := 248) rfl (XT.i0_eq_t hc521) ?_
       refine zS Ad W 1 (st' := (254, [vR 0, none, vR 1, vI x3, vI (v.1 + (1:Int32)), vI v.2.1, vI v.2.2.1, vI v.2.2.2.1, vI v.2.2.2.2.1, vI v.2.2.2.2.2.1, vI v.2.2.2.2.2.2.1, vI v.2.2.2.2.2.2.2.1, vI v.2.2.2.2.2.2.2.2.1, vI v.2.2.2.2.2.2.2.2.2.1, vI ((y19 &&& (255:Int32)) &&& (3:Int32)), vI v.2.2.2.2.2.2.2.2.2.2.2.1, vI v.2.2.2.2.2.2.2.2.2.2.2.2.1, vI ((y22 &&& (255:Int32)) % (5:Int32)), vI (0:Int32), vI v.2.2.2.2.2.2.2.2.2.2.2.2.2.2.2.1, vI (y18 &&& (15:Int32)), vI (y19 &&& (255:Int32)), vI (y20 &&& (255:Int32)), vI (y21 &&& (255:Int32)), vI (y22 &&& (255:Int32)), vI ((y22 &&& (255:Int32)) % (5:Int32)), vI (((y20 &&& (255:Int32)) &&& (7:Int32)) - (3:Int32)), vI ((y21 &&& (255:Int32)) - (100:Int32)), vI r514.1, none], [.int (((y20 &&& (255:Int32)) &&& (7:Int32)) - (3:Int32))], (H0 s r514.2))) rfl ?_
       exact zM [tt,ff,tt,tt,tt,tt,tt,tt,tt,tt,tt,tt,tt,tt,tt,ff,ff,tt,tt,tt,ff,ff,ff,ff,ff,tt,ff,tt,ff,ff] (K520 _ (if_pos hc521).symm)
      ·refine zF Ad W (t := 252) (f := 248) rfl (XT.i0_eq_f hc521) ?_
       refine zS Ad W 2 (st' := (254, [vR 0, none, vR 1, vI x3, vI (v.1 + (1:Int32)), vI v.2.1, vI v.2.2.1, vI v.2.2.2.1, vI v.2.2.2.2.1, vI v.2.2.2.2.2.1, vI v.2.2.2.2.2.2.1, vI v.2.2.2.2.2.2.2.1, vI v.2.2.2.2.2.2.2.2.1, vI v.2.2.2.2.2.2.2.2.2.1, vI ((y19 &&& (255:Int32)) &&& (3:Int32)), vI v.2.2.2.2.2.2.2.2.2.2.2.1, vI v.2.2.2.2.2.2.2.2.2.2.2.2.1, vI ((y22 &&& (255:Int32)) % (5:Int32)), vI (0:Int32), vI v.2.2.2.2.2.2.2.2.2.2.2.2.2.2.2.1, vI (y18 &&& (15:Int32)), vI (y19 &&& (255:Int32)), vI (y20 &&& (255:Int32)), vI (y21 &&& (255:Int32)), vI (y22 &&& (255:Int32)), vI ((y22 &&& (255:Int32)) % (5:Int32)), vI (((y20 &&& (255:Int32)) &&& (7:Int32)) - (3:Int32)), vI ((y21 &&& (255:Int32)) - (100:Int32)), vI r514.1, none], [.int (0:Int32)], (H0 s r514.2))) rfl ?_
       exact zM [tt,ff,tt,tt,tt,tt,tt,tt,tt,tt,tt,tt,tt,tt,tt,ff,ff,tt,tt,tt,ff,ff,ff,ff,ff,tt,ff,tt,ff,ff] (K520 _ (if_neg hc521).symm)
     ·refine zF Ad W (t := 225) (f := 223) rfl (XT.ii_eq_f hc518) ?_
      refine zS Ad W 1 (st' := (224, [vR 0, none, vR 1, vI x3, vI v.1, vI v.2.1, vI v.2.2.1, vI v.2.2.2.1, vI v.2.2.2.2.1, vI v.2.2.2.2.2.1, vI v.2.2.2.2.2.2.1, vI v.2.2.2.2.2.2.2.1, vI v.2.2.2.2.2.2.2.2.1, vI v.2.2.2.2.2.2.2.2.2.1, vI v.2.2.2.2.2.2.2.2.2.2.1, vI v.2.2.2.2.2.2.2.2.2.2.2.1, vI v.2.2.2.2.2.2.2.2.2.2.2.2.1, vI v.2.2.2.2.2.2.2.2.2.2.2.2.2.1, vI v.2.2.2.2.2.2.2.2.2.2.2.2.2.2.1, vI v.2.2.2.2.2.2.2.2.2.2.2.2.2.2.2.1, vI (y18 &&& (15:Int32)), vI (y19 &&& (255:Int32)), vI (y20 &&& (255:Int32)), vI (y21 &&& (255:Int32)), vI (y22 &&& (255:Int32)), vI ((y22 &&& (255:Int32)) % (5:Int32)), vI (((y20 &&& (255:Int32)) &&& (7:Int32)) - (3:Int32)), vI ((y21 &&& (255:Int32)) - (100:Int32)), vI r514.1, none], [.int (0:Int32)], (H0 s r514.2))) rfl ?_
      obtain rfl := Option.some.inj h
      obtain ⟨rfl, rfl⟩ := hx0 ((0:Int32), (H0 s r514.2)) rfl
      exact QTri.retZ rfl rfl
 ·refine zT Ad W (t := 1110) (f := 94) rfl (XT.ii_ge_t hc17) ?_
  refine zS Ad W 1 (st' := (1111, [vR 0, none, vR 1, vI x3, vI v.1, vI v.2.1, vI v.2.2.1, vI v.2.2.2.1, vI v.2.2.2.2.1, vI v.2.2.2.2.2.1, vI v.2.2.2.2.2.2.1, vI v.2.2.2.2.2.2.2.1, vI v.2.2.2.2.2.2.2.2.1, vI v.2.2.2.2.2.2.2.2.2.1, vI v.2.2.2.2.2.2.2.2.2.2.1, vI v.2.2.2.2.2.2.2.2.2.2.2.1, vI v.2.2.2.2.2.2.2.2.2.2.2.2.1, vI v.2.2.2.2.2.2.2.2.2.2.2.2.2.1, vI v.2.2.2.2.2.2.2.2.2.2.2.2.2.2.1, vI v.2.2.2.2.2.2.2.2.2.2.2.2.2.2.2.1, none, none, none, none, none, none, none, none, none, none], [.int (1:Int32)], (H0 s v.2.2.2.2.2.2.2.2.2.2.2.2.2.2.2.2))) rfl ?_
  obtain rfl := Option.some.inj h
  obtain ⟨rfl, rfl⟩ := hx0 ((1:Int32), (H0 s v.2.2.2.2.2.2.2.2.2.2.2.2.2.2.2.2)) rfl
  exact QTri.retZ rfl rfl
def J0_15 (s : List Int32) (x1 : Int32) : Option (Int32 × QHeap) :=
  (F1 x1).bind fun r13 => (loopN (B0_85 s (if x1 < (8 : Int32) then (8 : Int32) else x1)) qN ((0 : Int32), (1 : Int32), (1 : Int32), (1 : Int32), (0 : Int32), (0 : Int32), (2 : Int32), (0 : Int32), (0 : Int32), (0 : Int32), (0 : Int32), (0 : Int32), (0 : Int32), (0 : Int32), (0 : Int32), (1 : Int32), r13)).bind fun e525 => some e525
theorem tJ0_15 (Ad : QAd n0 ad) (W : QW Z a0) (s : List Int32) (x1 : Int32) {r : Int32 × QHeap} (h : J0_15 s x1 = some r) : QTri l Z n0 ad 0 (15, [vR 0, vI x1, none, none, none, none, none, none, none, none, none, none, none, none, none, none, none, none, none, none, none, none, none, none, none, none, none, none, none, none], [], [.inr (.inl (.int, s))]) (some (Value.int r.1)) r.2 := by
 unfold J0_15 at h
 refine zS Ad W 1 (st' := (18, [vR 0, vI x1, none, none, none, none, none, none, none, none, none, none, none, none, none, none, none, none, none, none, none, none, none, none, none, none, none, none, none, none], [.ref 1], [.inr (.inl (.int, s)), .inl [.null, .null, .null, .null, .null, .null, .null, .null, .int (f_cap ob0), .int (f_rows ob0), .int (f_direction ob0), .int (f_nulls ob0), .int (f_mode ob0), .int (f_startKind ob0), .int (f_startOff ob0), .int (f_endKind ob0), .int (f_endOff ob0), .int (f_fn ob0), .int (f_fnArg ob0), .int (f_computed ob0), .int (f_sortedLen ob0), .int (f_curPos ob0), .long (f_aggSum ob0), .int (f_aggCount ob0), .int (f_aggRows ob0), .int (f_aggMin ob0), .int (f_aggMax ob0)]])) rfl ?_
 refine zS Ad W 2 (st' := (20, [vR 0, vI x1, none, none, none, none, none, none, none, none, none, none, none, none, none, none, none, none, none, none, none, none, none, none, none, none, none, none, none, none], [.int x1, .ref 1, .ref 1], [.inr (.inl (.int, s)), .inl [.null, .null, .null, .null, .null, .null, .null, .null, .int (f_cap ob0), .int (f_rows ob0), .int (f_direction ob0), .int (f_nulls ob0), .int (f_mode ob0), .int (f_startKind ob0), .int (f_startOff ob0), .int (f_endKind ob0), .int (f_endOff ob0), .int (f_fn ob0), .int (f_fnArg ob0), .int (f_computed ob0), .int (f_sortedLen ob0), .int (f_curPos ob0), .long (f_aggSum ob0), .int (f_aggCount ob0), .int (f_aggRows ob0), .int (f_aggMin ob0), .int (f_aggMax ob0)]])) rfl ?_
 obtain ⟨r13, hr13, h⟩ := bind_eq_some_iff.mp h
 refine QTri.callI W (a := 1) (as := [.int x1]) (rest := [.ref 1]) (σ₁ := (H0 s r13)) rfl rfl rfl rfl rfl rfl (tF1 Ad W s x1 hr13) ?_
 refine zS Ad W 3 (st' := (27, [vR 0, vI x1, vR 1, none, none, none, none, none, none, none, none, none, none, none, none, none, none, none, none, none, none, none, none, none, none, none, none, none, none, none], [.int (8:Int32), .int x1], (H0 s r13))) rfl ?_
 have K15 : ∀ z14 : Int32, z14 = (if x1 < (8:Int32) then (8:Int32) else x1) → QTri l Z n0 ad 0 (36, [vR 0, none, vR 1, none, none, none, none, none, none, none, none, none, none, none, none, none, none, none, none, none, none, none, none, none, none, none, none, none, none, none], [.int z14], (H0 s r13)) (some (Value.int r.1)) r.2 := by
  intro z14 ez14
  subst ez14
  refine zS Ad W 3 (st' := (40, [vR 0, none, vR 1, vI (if x1 < (8:Int32) then (8:Int32) else x1), vI (0:Int32), none, none, none, none, none, none, none, none, none, none, none, none, none, none, none, none, none, none, none, none, none, none, none, none, none], [], (H0 s r13))) rfl ?_
  refine zS Ad W 4 (st' := (46, [vR 0, none, vR 1, vI (if x1 < (8:Int32) then (8:Int32) else x1), vI (0:Int32), vI (1:Int32), vI (1:Int32), none, none, none, none, none, none, none, none, none, none, none, none, none, none, none, none, none, none, none, none, none, none, none], [], (H0 s r13))) rfl ?_
  refine zS Ad W 4 (st' := (52, [vR 0, none, vR 1, vI (if x1 < (8:Int32) then (8:Int32) else x1), vI (0:Int32), vI (1:Int32), vI (1:Int32), vI (1:Int32), vI (0:Int32), none, none, none, none, none, none, none, none, none, none, none, none, none, none, none, none, none, none, none, none, none], [], (H0 s r13))) rfl ?_
  refine zS Ad W 4 (st' := (58, [vR 0, none, vR 1, vI (if x1 < (8:Int32) then (8:Int32) else x1), vI (0:Int32), vI (1:Int32), vI (1:Int32), vI (1:Int32), vI (0:Int32), vI (0:Int32), vI (2:Int32), none, none, none, none, none, none, none, none, none, none, none, none, none, none, none, none, none, none, none], [], (H0 s r13))) rfl ?_
  refine zS Ad W 4 (st' := (64, [vR 0, none, vR 1, vI (if x1 < (8:Int32) then (8:Int32) else x1), vI (0:Int32), vI (1:Int32), vI (1:Int32), vI (1:Int32), vI (0:Int32), vI (0:Int32), vI (2:Int32), vI (0:Int32), vI (0:Int32), none, none, none, none, none, none, none, none, none, none, none, none, none, none, none, none, none], [], (H0 s r13))) rfl ?_
  refine zS Ad W 4 (st' := (70, [vR 0, none, vR 1, vI (if x1 < (8:Int32) then (8:Int32) else x1), vI (0:Int32), vI (1:Int32), vI (1:Int32), vI (1:Int32), vI (0:Int32), vI (0:Int32), vI (2:Int32), vI (0:Int32), vI (0:Int32), vI (0:Int32), vI (0:Int32), none, none, none, none, none, none, none, none, none, none, none, none, none, none, none], [], (H0 s r13))) rfl ?_
  refine zS Ad W 4 (st' := (76, [vR 0, none, vR 1, vI (if x1 < (8:Int32) then (8:Int32) else x1), vI (0:Int32), vI (1:Int32), vI (1:Int32), vI (1:Int32), vI (0:Int32), vI (0:Int32), vI (2:Int32), vI (0:Int32), vI (0:Int32), vI (0:Int32), vI (0:Int32), vI (0:Int32), vI (0:Int32), none, none, none, none, none, none, none, none, none, none, none, none, none], [], (H0 s r13))) rfl ?_
  refine zS Ad W 4 (st' := (82, [vR 0, none, vR 1, vI (if x1 < (8:Int32) then (8:Int32) else x1), vI (0:Int32), vI (1:Int32), vI (1:Int32), vI (1:Int32), vI (0:Int32), vI (0:Int32), vI (2:Int32), vI (0:Int32), vI (0:Int32), vI (0:Int32), vI (0:Int32), vI (0:Int32), vI (0:Int32), vI (0:Int32), vI (0:Int32), none, none, none, none, none, none, none, none, none, none, none], [], (H0 s r13))) rfl ?_
  refine zS Ad W 2 (st' := (85, [vR 0, none, vR 1, vI (if x1 < (8:Int32) then (8:Int32) else x1), vI (0:Int32), vI (1:Int32), vI (1:Int32), vI (1:Int32), vI (0:Int32), vI (0:Int32), vI (2:Int32), vI (0:Int32), vI (0:Int32), vI (0:Int32), vI (0:Int32), vI (0:Int32), vI (0:Int32), vI (0:Int32), vI (0:Int32), vI (1:Int32), none, none, none, none, none, none, none, none, none, none], [], (H0 s r13))) rfl ?_
  obtain ⟨e525, he525, h⟩ := bind_eq_some_iff.mp h
  refine zM [tt,ff,tt,tt,tt,tt,tt,tt,tt,tt,tt,tt,tt,tt,tt,tt,tt,tt,tt,tt,ff,ff,ff,ff,ff,ff,ff,ff,ff,ff] (loopN_tri (B := B0_85 s (if x1 < (8:Int32) then (8:Int32) else x1)) (T := fun lv526 => QTri l Z n0 ad 0 (85, [vR 0, none, vR 1, vI (if x1 < (8:Int32) then (8:Int32) else x1), vI lv526.1, vI lv526.2.1, vI lv526.2.2.1, vI lv526.2.2.2.1, vI lv526.2.2.2.2.1, vI lv526.2.2.2.2.2.1, vI lv526.2.2.2.2.2.2.1, vI lv526.2.2.2.2.2.2.2.1, vI lv526.2.2.2.2.2.2.2.2.1, vI lv526.2.2.2.2.2.2.2.2.2.1, vI lv526.2.2.2.2.2.2.2.2.2.2.1, vI lv526.2.2.2.2.2.2.2.2.2.2.2.1, vI lv526.2.2.2.2.2.2.2.2.2.2.2.2.1, vI lv526.2.2.2.2.2.2.2.2.2.2.2.2.2.1, vI lv526.2.2.2.2.2.2.2.2.2.2.2.2.2.2.1, vI lv526.2.2.2.2.2.2.2.2.2.2.2.2.2.2.2.1, none, none, none, none, none, none, none, none, none, none], [], (H0 s lv526.2.2.2.2.2.2.2.2.2.2.2.2.2.2.2.2)) (some (Value.int r.1)) r.2) (KE := fun e525a => (some (Value.int r.1)) = (some (Value.int e525a.1)) ∧ r.2 = e525a.2) (fun lv526 r hB hE hC => tB0_85 Ad W s (if x1 < (8:Int32) then (8:Int32) else x1) lv526 hB (fun x q => hE _ q) (fun x q => hC x q)) qN ((0:Int32), (1:Int32), (1:Int32), (1:Int32), (0:Int32), (0:Int32), (2:Int32), (0:Int32), (0:Int32), (0:Int32), (0:Int32), (0:Int32), (0:Int32), (0:Int32), (0:Int32), (1:Int32), r13) e525 he525 ?_)
  obtain rfl := Option.some.inj h
  exact ⟨rfl, rfl⟩
 rcases em (x1 < (8:Int32)) with hc16 | hc16
 ·refine zF Ad W (t := 35) (f := 30) rfl (XT.ii_ge_f hc16) ?_
  refine zS Ad W 2 (st' := (36, [vR 0, vI x1, vR 1, none, none, none, none, none, none, none, none, none, none, none, none, none, none, none, none, none, none, none, none, none, none, none, none, none, none, none], [.int (8:Int32)], (H0 s r13))) rfl ?_
  exact zM [tt,ff,tt,ff,ff,ff,ff,ff,ff,ff,ff,ff,ff,ff,ff,ff,ff,ff,ff,ff,ff,ff,ff,ff,ff,ff,ff,ff,ff,ff] (K15 _ (if_pos hc16).symm)
 ·refine zT Ad W (t := 35) (f := 30) rfl (XT.ii_ge_t hc16) ?_
  refine zS Ad W 1 (st' := (36, [vR 0, vI x1, vR 1, none, none, none, none, none, none, none, none, none, none, none, none, none, none, none, none, none, none, none, none, none, none, none, none, none, none, none], [.int x1], (H0 s r13))) rfl ?_
  exact zM [tt,ff,tt,ff,ff,ff,ff,ff,ff,ff,ff,ff,ff,ff,ff,ff,ff,ff,ff,ff,ff,ff,ff,ff,ff,ff,ff,ff,ff,ff] (K15 _ (if_neg hc16).symm)
/-- the law -/
def F0 (s : List Int32) : Option (Int32 × QHeap) :=
 (if (0:Int32) < (s.length.toInt32) then (aget s (0:Int32)).bind fun y2 => (J0_15 s (y2 &&& (15:Int32))) else (J0_15 s (8:Int32)))
theorem tF0 (Ad : QAd n0 ad) (W : QW Z a0) (s : List Int32) {r : Int32 × QHeap} (h : F0 s = some r) : QTri l Z n0 ad 0 (0, qentry [.ref 0] (pMaxL 0), [], [.inr (.inl (.int, s))]) (some (Value.int r.1)) r.2 := by
 unfold F0 at h
 refine zS Ad W 4 (st' := (5, [vR 0, vI (8:Int32), none, none, none, none, none, none, none, none, none, none, none, none, none, none, none, none, none, none, none, none, none, none, none, none, none, none, none, none], [.int (s.length.toInt32)], [.inr (.inl (.int, s))])) rfl ?_
 rcases qite h with ⟨hc1, h⟩ | ⟨hc1, h⟩
 ·refine zF Ad W (t := 15) (f := 8) rfl (XT.i0_le_f hc1) ?_
  refine zS Ad W 2 (st' := (10, [vR 0, vI (8:Int32), none, none, none, none, none, none, none, none, none, none, none, none, none, none, none, none, none, none, none, none, none, none, none, none, none, none, none, none], [.int (0:Int32), .ref 0], [.inr (.inl (.int, s))])) rfl ?_
  obtain ⟨y2, hy2, h⟩ := bind_eq_some_iff.mp h
  refine zB Ad W (f := fun y2 => (11, [vR 0, vI (8:Int32), none, none, none, none, none, none, none, none, none, none, none, none, none, none, none, none, none, none, none, none, none, none, none, none, none, none, none, none], [.int y2], [.inr (.inl (.int, s))])) rfl hy2 ?_
  refine zS Ad W 3 (st' := (15, [vR 0, vI (y2 &&& (15:Int32)), none, none, none, none, none, none, none, none, none, none, none, none, none, none, none, none, none, none, none, none, none, none, none, none, none, none, none, none], [], [.inr (.inl (.int, s))])) rfl ?_
  exact zM [tt,tt,ff,ff,ff,ff,ff,ff,ff,ff,ff,ff,ff,ff,ff,ff,ff,ff,ff,ff,ff,ff,ff,ff,ff,ff,ff,ff,ff,ff] (tJ0_15 Ad W s (y2 &&& (15:Int32)) h)
 ·refine zT Ad W (t := 15) (f := 8) rfl (XT.i0_le_t hc1) ?_
  exact zM [tt,tt,ff,ff,ff,ff,ff,ff,ff,ff,ff,ff,ff,ff,ff,ff,ff,ff,ff,ff,ff,ff,ff,ff,ff,ff,ff,ff,ff,ff] (tJ0_15 Ad W s (8:Int32) h)
end Walks
theorem script_ok {s : State} {w : Value} (hfit : Fit s) (h1 : (Jvm.Cond.arrayOf (Jvm.Term.arg 0) Jvm.ClassFile.FieldType.int).value #[w] s none s [] = some true) (h2 : (Jvm.Cond.le (Jvm.Term.length (Jvm.Term.arg 0)) (Jvm.Term.int 260)).value #[w] s none s [] = some true) :
    ∃ (a : Addr) (c : Cell) (xs : List Int32), w = .ref a ∧ Arr s s.heap a c .int ∧ c.slots = (xs.map Value.int).toArray ∧ xs.length ≤ 260 := by
  obtain ⟨a, ha⟩ := arr_v h1
  obtain ⟨c, A⟩ := Arr.start ha h1
  have hw : w = .ref a := by simpa [Term.eval] using ha
  subst hw
  have hel : ∀ i, i < c.slots.size → ∃ x, c.slots[i]? = some (.int x) := fun i hi => by
    have q := hfit A.1 hi
    obtain ⟨hs, k, hk, comp, hkind⟩ := A.2.1
    have e : s.slotType? c.cls c.vm i = some .int := by
      cases hq : c.vm <;> first | exact absurd hq (hs _) | simp [State.slotType?, hk, hkind]
    have q2 : fits .int c.slots[i] = true := by simpa [State.fitsSlot, e] using q
    obtain ⟨x, hx⟩ := fit_I q2 (Or.inl rfl)
    exact ⟨x, by rw [Array.getElem?_eq_getElem hi, hx]⟩
  refine ⟨a, c, c.slots.toList.map (fun v => match v with | .int x => x | _ => 0), rfl, A, ?_, ?_⟩
  · apply Array.ext'
    rw [List.map_map]
    have : c.slots.toList.map (Value.int ∘ fun v => match v with | .int x => x | _ => 0) = c.slots.toList := by
      conv => rhs; rw [← List.map_id c.slots.toList]
      refine List.map_congr_left fun v hv => ?_
      obtain ⟨i, hi⟩ := List.mem_iff_getElem?.mp hv
      rw [Array.getElem?_toList] at hi
      obtain ⟨x, hx⟩ := hel i (Array.getElem?_eq_some_iff.mp hi).1
      rw [hi] at hx
      cases hx
      rfl
    exact this.symm
  · have hl := A.fin (Vm.Alike.refl _)
    simp only [List.length_map, Array.length_toList]
    simp only [Cond.value, Term.eval] at h2
    simp [hl] at h2
    by_cases hs : c.slots.size < 2147483648
    · rw [if_pos hs] at h2
      have h3 : c.slots.size.toInt32 ≤ 260 := by simpa using h2
      rw [Int32.le_iff_toInt_le] at h3
      have h4 : (c.slots.size.toInt32).toInt = c.slots.size := Int32.toInt_ofNat_of_lt (by omega)
      rw [h4] at h3
      have h5 : (260 : Int32).toInt = 260 := rfl
      rw [h5] at h3
      omega
    · rw [if_neg hs] at h2
      simp at h2
set_option maxHeartbeats 4000000
theorem i_lt {x y : Int32} : x < y ↔ x.toInt < y.toInt := Int32.lt_iff_toInt_lt
theorem i_eq {x y : Int32} : x = y ↔ x.toInt = y.toInt := Int32.toInt_inj.symm
theorem i_lo (x : Int32) : -2147483648 ≤ x.toInt := Int32.le_toInt x
theorem i_hi (x : Int32) : x.toInt < 2147483648 := Int32.toInt_lt x
theorem i_add {x y : Int32} (h1 : -2147483648 ≤ x.toInt + y.toInt) (h2 : x.toInt + y.toInt < 2147483648) : (x + y).toInt = x.toInt + y.toInt := XT.add32 ⟨h1, by omega⟩
theorem i_sub {x y : Int32} (h1 : -2147483648 ≤ x.toInt - y.toInt) (h2 : x.toInt - y.toInt < 2147483648) : (x - y).toInt = x.toInt - y.toInt := XT.sub32 ⟨h1, by omega⟩
theorem i_mul {x y : Int32} (h1 : -2147483648 ≤ x.toInt * y.toInt) (h2 : x.toInt * y.toInt < 2147483648) : (x * y).toInt = x.toInt * y.toInt := XT.mul32 ⟨h1, by omega⟩
theorem i_nat (x : Int32) : x.toNatClampNeg = x.toInt.toNat := rfl
theorem aget_at {α : Type} {xs : List α} {j : Int32} {n : Nat} (hj : j.toInt = n) (hn : n < xs.length) : aget xs j = some xs[n] := by
 have h0 : ¬ j < 0 := by rw [i_lt]; show ¬ j.toInt < 0; omega
 unfold aget
 rw [if_neg h0, i_nat, hj]
 simp [hn]
theorem aget_rep {α : Type} {m : Nat} {a : α} {j : Int32} (h0 : 0 ≤ j.toInt) (h1 : j.toInt < m) : aget (List.replicate m a) j = some a := by
 rw [aget_at (n := j.toInt.toNat) (by omega) (by rw [List.length_replicate]; omega)]
 simp
theorem aset_at {α : Type} {xs : List α} {j : Int32} {n : Nat} {v : α} (hj : j.toInt = n) (hn : n < xs.length) : aset xs j v = some (xs.set n v) := by
 have h0 : ¬ j < 0 := by rw [i_lt]; show ¬ j.toInt < 0; omega
 unfold aset
 have e : j.toNatClampNeg = n := by rw [i_nat, hj]; simp
 rw [if_neg h0, e, if_pos hn]
theorem rep_set {α : Type} (m k : Nat) (a : α) : (List.replicate m a).set k a = List.replicate m a := by
 apply List.ext_getElem (by simp)
 intro i h1 h2
 rw [List.getElem_set]
 split <;> simp
theorem small_cases {x : Int32} (h0 : 0 ≤ x.toInt) {n : Nat} (h1 : x.toInt < n) {P : Int32 → Prop} (h : ∀ m : Nat, m < n → P (Int32.ofInt m)) : P x := by
 have e : Int32.ofInt (x.toInt.toNat : Nat) = x := by
  rw [Int.toNat_of_nonneg h0, Int32.ofInt_toInt]
 rw [← e]
 exact h _ (by omega)
theorem bit_ne {x : Int32} (h0 : 0 ≤ x.toInt) (h1 : x.toInt < 32) : ¬ (((1 : Int32) <<< (x &&& 31)) &&& ((1 : Int32) <<< (x &&& 31))) = 0 :=
 small_cases (P := fun x => ¬ (((1 : Int32) <<< (x &&& 31)) &&& ((1 : Int32) <<< (x &&& 31))) = 0) h0 (n := 32) h1 (by decide)
def okP {α : Type} (m : Option α) (P : α → Prop) : Prop := ∃ a, m = some a ∧ P a
theorem okP.some {α : Type} {a : α} {P : α → Prop} (h : P a) : okP (some a) P := ⟨a, rfl, h⟩
theorem okP.bind {α β : Type} {m : Option α} {f : α → Option β} {P : β → Prop} (h : okP m fun a => okP (f a) P) : okP (m.bind f) P := by
 obtain ⟨a, e, b, e2, h2⟩ := h
 exact ⟨b, by rw [e]; exact e2, h2⟩
theorem okP.ite {α : Type} {c : Prop} [Decidable c] {a b : Option α} {P : α → Prop} (h1 : c → okP a P) (h2 : ¬ c → okP b P) : okP (if c then a else b) P := by
 by_cases h : c
 ·rw [if_pos h]; exact h1 h
 ·rw [if_neg h]; exact h2 h
theorem okP.mono {α : Type} {m : Option α} {P Q : α → Prop} (h : okP m P) (k : ∀ a, P a → Q a) : okP m Q := by
 obtain ⟨a, e, h⟩ := h
 exact ⟨a, e, k a h⟩
theorem okP.of {α : Type} {m : Option α} {a : α} {P : α → Prop} (e : m = Option.some a) (h : P a) : okP m P := ⟨a, e, h⟩
theorem okP.aget {α : Type} {xs : List α} {j : Int32} {P : α → Prop} (h0 : 0 ≤ j.toInt) (h1 : j.toInt < xs.length) (k : ∀ v, xs[j.toInt.toNat]? = Option.some v → P v) : okP (aget xs j) P :=
 ⟨_, aget_at (n := j.toInt.toNat) (by omega) (by omega), k _ (List.getElem?_eq_getElem _)⟩
theorem okP.aset {α : Type} {xs : List α} {j : Int32} {v : α} {P : List α → Prop} (h0 : 0 ≤ j.toInt) (h1 : j.toInt < xs.length) (k : P (xs.set j.toInt.toNat v)) : okP (aset xs j v) P :=
 ⟨_, aset_at (n := j.toInt.toNat) (by omega) (by omega), k⟩
theorem okP.loop {V E : Type} {B : V → Option (E ⊕ V)} {P : E → Prop} {n : Nat} {v : V} (I : V → Prop) (μ : V → Nat) (hv : I v) (hm : μ v < n) (hB : ∀ v, I v → okP (B v) (fun r => Sum.elim P (fun v' => I v' ∧ μ v' < μ v) r)) : okP (loopN B n v) P := by
 refine loopN_inv I P μ ?_ n v hv hm
 intro v hv
 obtain ⟨r, e, h⟩ := hB v hv
 cases r with
 | inl x => exact Or.inl ⟨x, e, h⟩
 | inr x => exact Or.inr ⟨x, e, h⟩
theorem len_i {n : Nat} (h : n ≤ 1000) : (n.toInt32).toInt = n := by
 have e : n.toInt32 = Int32.ofInt n := rfl
 rw [e, Int32.toInt_ofInt_of_le (by show _ ≤ (n : Int); omega) (by show (n : Int) < _; omega)]
theorem and1 (x : Int32) : x &&& 1 = 0 ∨ x &&& 1 = 1 := by
 have e : (x &&& 1).toBitVec = x.toBitVec &&& 1#32 := rfl
 have h := BitVec.and_one_eq_setWidth_ofBool_getLsbD (x := x.toBitVec)
 cases g : x.toBitVec.getLsbD 0
 ·left; apply Int32.toBitVec_inj.1; rw [e, h, g]; rfl
 ·right; apply Int32.toBitVec_inj.1; rw [e, h, g]; rfl
theorem okP.not {α : Type} {m : Option α} {a : α} {P : α → Prop} (h : okP m P) (e : m = Option.some a) : P a := by
 obtain ⟨b, e2, h⟩ := h
 rw [e] at e2
 exact (Option.some.inj e2) ▸ h
theorem and_rng {x m : Int32} (hm : 0 ≤ m.toInt) : 0 ≤ (x &&& m).toInt ∧ (x &&& m).toInt ≤ m.toInt := by
 have e : (x &&& m).toBitVec.toNat = x.toBitVec.toNat &&& m.toBitVec.toNat := BitVec.toNat_and ..
 have l : (x &&& m).toBitVec.toNat ≤ m.toBitVec.toNat := by rw [e]; exact Nat.and_le_right
 have c1 : m.toInt = if 2 * m.toBitVec.toNat < 2 ^ 32 then (m.toBitVec.toNat : Int) else m.toBitVec.toNat - (2 ^ 32 : Nat) := BitVec.toInt_eq_toNat_cond m.toBitVec
 have c2 : (x &&& m).toInt = if 2 * (x &&& m).toBitVec.toNat < 2 ^ 32 then ((x &&& m).toBitVec.toNat : Int) else (x &&& m).toBitVec.toNat - (2 ^ 32 : Nat) := BitVec.toInt_eq_toNat_cond (x &&& m).toBitVec
 have b : m.toBitVec.toNat < 2 ^ 32 := m.toBitVec.isLt
 by_cases h : 2 * m.toBitVec.toNat < 2 ^ 32
 ·rw [if_pos h] at c1
  rw [if_pos (by omega)] at c2
  omega
 ·rw [if_neg h] at c1
  omega
theorem mod_rng {x m : Int32} (hx : 0 ≤ x.toInt) (hm : 0 < m.toInt) : 0 ≤ (x % m).toInt ∧ (x % m).toInt < m.toInt := by
 rw [Int32.toInt_mod, Int.tmod_eq_emod_of_nonneg hx]
 exact ⟨Int.emod_nonneg _ (by omega), Int.emod_lt_of_pos _ hm⟩
def sFit (s : List Int32) (τ : QHeap) : Prop := τ.length - List.length ([Sum.inr (Sum.inl (FieldType.int, s))] : QHeap) ≤ room_1.cells ∧ qhs τ - qhs [Sum.inr (Sum.inl (FieldType.int, s))] ≤ room_1.slots
def Sh (c : List Int32 × List Int32 × List Int32 × List Int32 × Int32 × Int32 × Int32 × Int32 × Int32 × Int32 × Int32 × Int32 × Int32 × Int32 × Int32) (d : List Int64 × List Int32 × List Int32) (e : List Int32 × Int32 × Int32) (o : Ob) : Prop := (f_part o, f_keys o, f_vals o, f_flg o, f_rows o, f_cap o, f_direction o, f_nulls o, f_mode o, f_startKind o, f_startOff o, f_endKind o, f_endOff o, f_fn o, f_fnArg o) = c ∧ (f_res o, f_resNull o, f_frameCnt o) = d ∧ (f_sorted o, f_sortedLen o, f_curPos o) = e
theorem Sh_computed {c : List Int32 × List Int32 × List Int32 × List Int32 × Int32 × Int32 × Int32 × Int32 × Int32 × Int32 × Int32 × Int32 × Int32 × Int32 × Int32} {d : List Int64 × List Int32 × List Int32} {e : List Int32 × Int32 × Int32} {o : Ob} {x : Int32} (h : Sh c d e o) : Sh c d e (s_computed o x) := by
 dsimp only [Sh, f_part, f_keys, f_vals, f_flg, f_res, f_resNull, f_frameCnt, f_sorted, f_cap, f_rows, f_direction, f_nulls, f_mode, f_startKind, f_startOff, f_endKind, f_endOff, f_fn, f_fnArg, f_sortedLen, f_curPos, s_computed] at h ⊢
 exact h
theorem Sh_aggSum {c : List Int32 × List Int32 × List Int32 × List Int32 × Int32 × Int32 × Int32 × Int32 × Int32 × Int32 × Int32 × Int32 × Int32 × Int32 × Int32} {d : List Int64 × List Int32 × List Int32} {e : List Int32 × Int32 × Int32} {o : Ob} {x : Int64} (h : Sh c d e o) : Sh c d e (s_aggSum o x) := by
 dsimp only [Sh, f_part, f_keys, f_vals, f_flg, f_res, f_resNull, f_frameCnt, f_sorted, f_cap, f_rows, f_direction, f_nulls, f_mode, f_startKind, f_startOff, f_endKind, f_endOff, f_fn, f_fnArg, f_sortedLen, f_curPos, s_aggSum] at h ⊢
 exact h
theorem Sh_aggCount {c : List Int32 × List Int32 × List Int32 × List Int32 × Int32 × Int32 × Int32 × Int32 × Int32 × Int32 × Int32 × Int32 × Int32 × Int32 × Int32} {d : List Int64 × List Int32 × List Int32} {e : List Int32 × Int32 × Int32} {o : Ob} {x : Int32} (h : Sh c d e o) : Sh c d e (s_aggCount o x) := by
 dsimp only [Sh, f_part, f_keys, f_vals, f_flg, f_res, f_resNull, f_frameCnt, f_sorted, f_cap, f_rows, f_direction, f_nulls, f_mode, f_startKind, f_startOff, f_endKind, f_endOff, f_fn, f_fnArg, f_sortedLen, f_curPos, s_aggCount] at h ⊢
 exact h
theorem Sh_aggRows {c : List Int32 × List Int32 × List Int32 × List Int32 × Int32 × Int32 × Int32 × Int32 × Int32 × Int32 × Int32 × Int32 × Int32 × Int32 × Int32} {d : List Int64 × List Int32 × List Int32} {e : List Int32 × Int32 × Int32} {o : Ob} {x : Int32} (h : Sh c d e o) : Sh c d e (s_aggRows o x) := by
 dsimp only [Sh, f_part, f_keys, f_vals, f_flg, f_res, f_resNull, f_frameCnt, f_sorted, f_cap, f_rows, f_direction, f_nulls, f_mode, f_startKind, f_startOff, f_endKind, f_endOff, f_fn, f_fnArg, f_sortedLen, f_curPos, s_aggRows] at h ⊢
 exact h
theorem Sh_aggMin {c : List Int32 × List Int32 × List Int32 × List Int32 × Int32 × Int32 × Int32 × Int32 × Int32 × Int32 × Int32 × Int32 × Int32 × Int32 × Int32} {d : List Int64 × List Int32 × List Int32} {e : List Int32 × Int32 × Int32} {o : Ob} {x : Int32} (h : Sh c d e o) : Sh c d e (s_aggMin o x) := by
 dsimp only [Sh, f_part, f_keys, f_vals, f_flg, f_res, f_resNull, f_frameCnt, f_sorted, f_cap, f_rows, f_direction, f_nulls, f_mode, f_startKind, f_startOff, f_endKind, f_endOff, f_fn, f_fnArg, f_sortedLen, f_curPos, s_aggMin] at h ⊢
 exact h
theorem Sh_aggMax {c : List Int32 × List Int32 × List Int32 × List Int32 × Int32 × Int32 × Int32 × Int32 × Int32 × Int32 × Int32 × Int32 × Int32 × Int32 × Int32} {d : List Int64 × List Int32 × List Int32} {e : List Int32 × Int32 × Int32} {o : Ob} {x : Int32} (h : Sh c d e o) : Sh c d e (s_aggMax o x) := by
 dsimp only [Sh, f_part, f_keys, f_vals, f_flg, f_res, f_resNull, f_frameCnt, f_sorted, f_cap, f_rows, f_direction, f_nulls, f_mode, f_startKind, f_startOff, f_endKind, f_endOff, f_fn, f_fnArg, f_sortedLen, f_curPos, s_aggMax] at h ⊢
 exact h
abbrev CC := List Int32 × List Int32 × List Int32 × List Int32 × Int32 × Int32 × Int32 × Int32 × Int32 × Int32 × Int32 × Int32 × Int32 × Int32 × Int32
abbrev DD := List Int64 × List Int32 × List Int32
abbrev EE := List Int32 × Int32 × Int32
theorem gs_part (o : Ob) (v : List Int32) : f_part (s_part o v) = v ∧ f_keys (s_part o v) = f_keys o ∧ f_vals (s_part o v) = f_vals o ∧ f_flg (s_part o v) = f_flg o ∧ f_res (s_part o v) = f_res o ∧ f_resNull (s_part o v) = f_resNull o ∧ f_frameCnt (s_part o v) = f_frameCnt o ∧ f_sorted (s_part o v) = f_sorted o ∧ f_cap (s_part o v) = f_cap o ∧ f_rows (s_part o v) = f_rows o ∧ f_direction (s_part o v) = f_direction o ∧ f_nulls (s_part o v) = f_nulls o ∧ f_mode (s_part o v) = f_mode o ∧ f_startKind (s_part o v) = f_startKind o ∧ f_startOff (s_part o v) = f_startOff o ∧ f_endKind (s_part o v) = f_endKind o ∧ f_endOff (s_part o v) = f_endOff o ∧ f_fn (s_part o v) = f_fn o ∧ f_fnArg (s_part o v) = f_fnArg o ∧ f_computed (s_part o v) = f_computed o ∧ f_sortedLen (s_part o v) = f_sortedLen o ∧ f_curPos (s_part o v) = f_curPos o ∧ f_aggSum (s_part o v) = f_aggSum o ∧ f_aggCount (s_part o v) = f_aggCount o ∧ f_aggRows (s_part o v) = f_aggRows o ∧ f_aggMin (s_part o v) = f_aggMin o ∧ f_aggMax (s_part o v) = f_aggMax o := by
 simp only [f_part, f_keys, f_vals, f_flg, f_res, f_resNull, f_frameCnt, f_sorted, f_cap, f_rows, f_direction, f_nulls, f_mode, f_startKind, f_startOff, f_endKind, f_endOff, f_fn, f_fnArg, f_computed, f_sortedLen, f_curPos, f_aggSum, f_aggCount, f_aggRows, f_aggMin, f_aggMax, s_part, and_self]
theorem gs_keys (o : Ob) (v : List Int32) : f_part (s_keys o v) = f_part o ∧ f_keys (s_keys o v) = v ∧ f_vals (s_keys o v) = f_vals o ∧ f_flg (s_keys o v) = f_flg o ∧ f_res (s_keys o v) = f_res o ∧ f_resNull (s_keys o v) = f_resNull o ∧ f_frameCnt (s_keys o v) = f_frameCnt o ∧ f_sorted (s_keys o v) = f_sorted o ∧ f_cap (s_keys o v) = f_cap o ∧ f_rows (s_keys o v) = f_rows o ∧ f_direction (s_keys o v) = f_direction o ∧ f_nulls (s_keys o v) = f_nulls o ∧ f_mode (s_keys o v) = f_mode o ∧ f_startKind (s_keys o v) = f_startKind o ∧ f_startOff (s_keys o v) = f_startOff o ∧ f_endKind (s_keys o v) = f_endKind o ∧ f_endOff (s_keys o v) = f_endOff o ∧ f_fn (s_keys o v) = f_fn o ∧ f_fnArg (s_keys o v) = f_fnArg o ∧ f_computed (s_keys o v) = f_computed o ∧ f_sortedLen (s_keys o v) = f_sortedLen o ∧ f_curPos (s_keys o v) = f_curPos o ∧ f_aggSum (s_keys o v) = f_aggSum o ∧ f_aggCount (s_keys o v) = f_aggCount o ∧ f_aggRows (s_keys o v) = f_aggRows o ∧ f_aggMin (s_keys o v) = f_aggMin o ∧ f_aggMax (s_keys o v) = f_aggMax o := by
 simp only [f_part, f_keys, f_vals, f_flg, f_res, f_resNull, f_frameCnt, f_sorted, f_cap, f_rows, f_direction, f_nulls, f_mode, f_startKind, f_startOff, f_endKind, f_endOff, f_fn, f_fnArg, f_computed, f_sortedLen, f_curPos, f_aggSum, f_aggCount, f_aggRows, f_aggMin, f_aggMax, s_keys, and_self]
theorem gs_vals (o : Ob) (v : List Int32) : f_part (s_vals o v) = f_part o ∧ f_keys (s_vals o v) = f_keys o ∧ f_vals (s_vals o v) = v ∧ f_flg (s_vals o v) = f_flg o ∧ f_res (s_vals o v) = f_res o ∧ f_resNull (s_vals o v) = f_resNull o ∧ f_frameCnt (s_vals o v) = f_frameCnt o ∧ f_sorted (s_vals o v) = f_sorted o ∧ f_cap (s_vals o v) = f_cap o ∧ f_rows (s_vals o v) = f_rows o ∧ f_direction (s_vals o v) = f_direction o ∧ f_nulls (s_vals o v) = f_nulls o ∧ f_mode (s_vals o v) = f_mode o ∧ f_startKind (s_vals o v) = f_startKind o ∧ f_startOff (s_vals o v) = f_startOff o ∧ f_endKind (s_vals o v) = f_endKind o ∧ f_endOff (s_vals o v) = f_endOff o ∧ f_fn (s_vals o v) = f_fn o ∧ f_fnArg (s_vals o v) = f_fnArg o ∧ f_computed (s_vals o v) = f_computed o ∧ f_sortedLen (s_vals o v) = f_sortedLen o ∧ f_curPos (s_vals o v) = f_curPos o ∧ f_aggSum (s_vals o v) = f_aggSum o ∧ f_aggCount (s_vals o v) = f_aggCount o ∧ f_aggRows (s_vals o v) = f_aggRows o ∧ f_aggMin (s_vals o v) = f_aggMin o ∧ f_aggMax (s_vals o v) = f_aggMax o := by
 simp only [f_part, f_keys, f_vals, f_flg, f_res, f_resNull, f_frameCnt, f_sorted, f_cap, f_rows, f_direction, f_nulls, f_mode, f_startKind, f_startOff, f_endKind, f_endOff, f_fn, f_fnArg, f_computed, f_sortedLen, f_curPos, f_aggSum, f_aggCount, f_aggRows, f_aggMin, f_aggMax, s_vals, and_self]
theorem gs_flg (o : Ob) (v : List Int32) : f_part (s_flg o v) = f_part o ∧ f_keys (s_flg o v) = f_keys o ∧ f_vals (s_flg o v) = f_vals o ∧ f_flg (s_flg o v) = v ∧ f_res (s_flg o v) = f_res o ∧ f_resNull (s_flg o v) = f_resNull o ∧ f_frameCnt (s_flg o v) = f_frameCnt o ∧ f_sorted (s_flg o v) = f_sorted o ∧ f_cap (s_flg o v) = f_cap o ∧ f_rows (s_flg o v) = f_rows o ∧ f_direction (s_flg o v) = f_direction o ∧ f_nulls (s_flg o v) = f_nulls o ∧ f_mode (s_flg o v) = f_mode o ∧ f_startKind (s_flg o v) = f_startKind o ∧ f_startOff (s_flg o v) = f_startOff o ∧ f_endKind (s_flg o v) = f_endKind o ∧ f_endOff (s_flg o v) = f_endOff o ∧ f_fn (s_flg o v) = f_fn o ∧ f_fnArg (s_flg o v) = f_fnArg o ∧ f_computed (s_flg o v) = f_computed o ∧ f_sortedLen (s_flg o v) = f_sortedLen o ∧ f_curPos (s_flg o v) = f_curPos o ∧ f_aggSum (s_flg o v) = f_aggSum o ∧ f_aggCount (s_flg o v) = f_aggCount o ∧ f_aggRows (s_flg o v) = f_aggRows o ∧ f_aggMin (s_flg o v) = f_aggMin o ∧ f_aggMax (s_flg o v) = f_aggMax o := by
 simp only [f_part, f_keys, f_vals, f_flg, f_res, f_resNull, f_frameCnt, f_sorted, f_cap, f_rows, f_direction, f_nulls, f_mode, f_startKind, f_startOff, f_endKind, f_endOff, f_fn, f_fnArg, f_computed, f_sortedLen, f_curPos, f_aggSum, f_aggCount, f_aggRows, f_aggMin, f_aggMax, s_flg, and_self]
theorem gs_rows (o : Ob) (v : Int32) : f_part (s_rows o v) = f_part o ∧ f_keys (s_rows o v) = f_keys o ∧ f_vals (s_rows o v) = f_vals o ∧ f_flg (s_rows o v) = f_flg o ∧ f_res (s_rows o v) = f_res o ∧ f_resNull (s_rows o v) = f_resNull o ∧ f_frameCnt (s_rows o v) = f_frameCnt o ∧ f_sorted (s_rows o v) = f_sorted o ∧ f_cap (s_rows o v) = f_cap o ∧ f_rows (s_rows o v) = v ∧ f_direction (s_rows o v) = f_direction o ∧ f_nulls (s_rows o v) = f_nulls o ∧ f_mode (s_rows o v) = f_mode o ∧ f_startKind (s_rows o v) = f_startKind o ∧ f_startOff (s_rows o v) = f_startOff o ∧ f_endKind (s_rows o v) = f_endKind o ∧ f_endOff (s_rows o v) = f_endOff o ∧ f_fn (s_rows o v) = f_fn o ∧ f_fnArg (s_rows o v) = f_fnArg o ∧ f_computed (s_rows o v) = f_computed o ∧ f_sortedLen (s_rows o v) = f_sortedLen o ∧ f_curPos (s_rows o v) = f_curPos o ∧ f_aggSum (s_rows o v) = f_aggSum o ∧ f_aggCount (s_rows o v) = f_aggCount o ∧ f_aggRows (s_rows o v) = f_aggRows o ∧ f_aggMin (s_rows o v) = f_aggMin o ∧ f_aggMax (s_rows o v) = f_aggMax o := by
 simp only [f_part, f_keys, f_vals, f_flg, f_res, f_resNull, f_frameCnt, f_sorted, f_cap, f_rows, f_direction, f_nulls, f_mode, f_startKind, f_startOff, f_endKind, f_endOff, f_fn, f_fnArg, f_computed, f_sortedLen, f_curPos, f_aggSum, f_aggCount, f_aggRows, f_aggMin, f_aggMax, s_rows, and_self]
theorem gs_direction (o : Ob) (v : Int32) : f_part (s_direction o v) = f_part o ∧ f_keys (s_direction o v) = f_keys o ∧ f_vals (s_direction o v) = f_vals o ∧ f_flg (s_direction o v) = f_flg o ∧ f_res (s_direction o v) = f_res o ∧ f_resNull (s_direction o v) = f_resNull o ∧ f_frameCnt (s_direction o v) = f_frameCnt o ∧ f_sorted (s_direction o v) = f_sorted o ∧ f_cap (s_direction o v) = f_cap o ∧ f_rows (s_direction o v) = f_rows o ∧ f_direction (s_direction o v) = v ∧ f_nulls (s_direction o v) = f_nulls o ∧ f_mode (s_direction o v) = f_mode o ∧ f_startKind (s_direction o v) = f_startKind o ∧ f_startOff (s_direction o v) = f_startOff o ∧ f_endKind (s_direction o v) = f_endKind o ∧ f_endOff (s_direction o v) = f_endOff o ∧ f_fn (s_direction o v) = f_fn o ∧ f_fnArg (s_direction o v) = f_fnArg o ∧ f_computed (s_direction o v) = f_computed o ∧ f_sortedLen (s_direction o v) = f_sortedLen o ∧ f_curPos (s_direction o v) = f_curPos o ∧ f_aggSum (s_direction o v) = f_aggSum o ∧ f_aggCount (s_direction o v) = f_aggCount o ∧ f_aggRows (s_direction o v) = f_aggRows o ∧ f_aggMin (s_direction o v) = f_aggMin o ∧ f_aggMax (s_direction o v) = f_aggMax o := by
 simp only [f_part, f_keys, f_vals, f_flg, f_res, f_resNull, f_frameCnt, f_sorted, f_cap, f_rows, f_direction, f_nulls, f_mode, f_startKind, f_startOff, f_endKind, f_endOff, f_fn, f_fnArg, f_computed, f_sortedLen, f_curPos, f_aggSum, f_aggCount, f_aggRows, f_aggMin, f_aggMax, s_direction, and_self]
theorem gs_nulls (o : Ob) (v : Int32) : f_part (s_nulls o v) = f_part o ∧ f_keys (s_nulls o v) = f_keys o ∧ f_vals (s_nulls o v) = f_vals o ∧ f_flg (s_nulls o v) = f_flg o ∧ f_res (s_nulls o v) = f_res o ∧ f_resNull (s_nulls o v) = f_resNull o ∧ f_frameCnt (s_nulls o v) = f_frameCnt o ∧ f_sorted (s_nulls o v) = f_sorted o ∧ f_cap (s_nulls o v) = f_cap o ∧ f_rows (s_nulls o v) = f_rows o ∧ f_direction (s_nulls o v) = f_direction o ∧ f_nulls (s_nulls o v) = v ∧ f_mode (s_nulls o v) = f_mode o ∧ f_startKind (s_nulls o v) = f_startKind o ∧ f_startOff (s_nulls o v) = f_startOff o ∧ f_endKind (s_nulls o v) = f_endKind o ∧ f_endOff (s_nulls o v) = f_endOff o ∧ f_fn (s_nulls o v) = f_fn o ∧ f_fnArg (s_nulls o v) = f_fnArg o ∧ f_computed (s_nulls o v) = f_computed o ∧ f_sortedLen (s_nulls o v) = f_sortedLen o ∧ f_curPos (s_nulls o v) = f_curPos o ∧ f_aggSum (s_nulls o v) = f_aggSum o ∧ f_aggCount (s_nulls o v) = f_aggCount o ∧ f_aggRows (s_nulls o v) = f_aggRows o ∧ f_aggMin (s_nulls o v) = f_aggMin o ∧ f_aggMax (s_nulls o v) = f_aggMax o := by
 simp only [f_part, f_keys, f_vals, f_flg, f_res, f_resNull, f_frameCnt, f_sorted, f_cap, f_rows, f_direction, f_nulls, f_mode, f_startKind, f_startOff, f_endKind, f_endOff, f_fn, f_fnArg, f_computed, f_sortedLen, f_curPos, f_aggSum, f_aggCount, f_aggRows, f_aggMin, f_aggMax, s_nulls, and_self]
theorem gs_mode (o : Ob) (v : Int32) : f_part (s_mode o v) = f_part o ∧ f_keys (s_mode o v) = f_keys o ∧ f_vals (s_mode o v) = f_vals o ∧ f_flg (s_mode o v) = f_flg o ∧ f_res (s_mode o v) = f_res o ∧ f_resNull (s_mode o v) = f_resNull o ∧ f_frameCnt (s_mode o v) = f_frameCnt o ∧ f_sorted (s_mode o v) = f_sorted o ∧ f_cap (s_mode o v) = f_cap o ∧ f_rows (s_mode o v) = f_rows o ∧ f_direction (s_mode o v) = f_direction o ∧ f_nulls (s_mode o v) = f_nulls o ∧ f_mode (s_mode o v) = v ∧ f_startKind (s_mode o v) = f_startKind o ∧ f_startOff (s_mode o v) = f_startOff o ∧ f_endKind (s_mode o v) = f_endKind o ∧ f_endOff (s_mode o v) = f_endOff o ∧ f_fn (s_mode o v) = f_fn o ∧ f_fnArg (s_mode o v) = f_fnArg o ∧ f_computed (s_mode o v) = f_computed o ∧ f_sortedLen (s_mode o v) = f_sortedLen o ∧ f_curPos (s_mode o v) = f_curPos o ∧ f_aggSum (s_mode o v) = f_aggSum o ∧ f_aggCount (s_mode o v) = f_aggCount o ∧ f_aggRows (s_mode o v) = f_aggRows o ∧ f_aggMin (s_mode o v) = f_aggMin o ∧ f_aggMax (s_mode o v) = f_aggMax o := by
 simp only [f_part, f_keys, f_vals, f_flg, f_res, f_resNull, f_frameCnt, f_sorted, f_cap, f_rows, f_direction, f_nulls, f_mode, f_startKind, f_startOff, f_endKind, f_endOff, f_fn, f_fnArg, f_computed, f_sortedLen, f_curPos, f_aggSum, f_aggCount, f_aggRows, f_aggMin, f_aggMax, s_mode, and_self]
theorem gs_startKind (o : Ob) (v : Int32) : f_part (s_startKind o v) = f_part o ∧ f_keys (s_startKind o v) = f_keys o ∧ f_vals (s_startKind o v) = f_vals o ∧ f_flg (s_startKind o v) = f_flg o ∧ f_res (s_startKind o v) = f_res o ∧ f_resNull (s_startKind o v) = f_resNull o ∧ f_frameCnt (s_startKind o v) = f_frameCnt o ∧ f_sorted (s_startKind o v) = f_sorted o ∧ f_cap (s_startKind o v) = f_cap o ∧ f_rows (s_startKind o v) = f_rows o ∧ f_direction (s_startKind o v) = f_direction o ∧ f_nulls (s_startKind o v) = f_nulls o ∧ f_mode (s_startKind o v) = f_mode o ∧ f_startKind (s_startKind o v) = v ∧ f_startOff (s_startKind o v) = f_startOff o ∧ f_endKind (s_startKind o v) = f_endKind o ∧ f_endOff (s_startKind o v) = f_endOff o ∧ f_fn (s_startKind o v) = f_fn o ∧ f_fnArg (s_startKind o v) = f_fnArg o ∧ f_computed (s_startKind o v) = f_computed o ∧ f_sortedLen (s_startKind o v) = f_sortedLen o ∧ f_curPos (s_startKind o v) = f_curPos o ∧ f_aggSum (s_startKind o v) = f_aggSum o ∧ f_aggCount (s_startKind o v) = f_aggCount o ∧ f_aggRows (s_startKind o v) = f_aggRows o ∧ f_aggMin (s_startKind o v) = f_aggMin o ∧ f_aggMax (s_startKind o v) = f_aggMax o := by
 simp only [f_part, f_keys, f_vals, f_flg, f_res, f_resNull, f_frameCnt, f_sorted, f_cap, f_rows, f_direction, f_nulls, f_mode, f_startKind, f_startOff, f_endKind, f_endOff, f_fn, f_fnArg, f_computed, f_sortedLen, f_curPos, f_aggSum, f_aggCount, f_aggRows, f_aggMin, f_aggMax, s_startKind, and_self]
theorem gs_startOff (o : Ob) (v : Int32) : f_part (s_startOff o v) = f_part o ∧ f_keys (s_startOff o v) = f_keys o ∧ f_vals (s_startOff o v) = f_vals o ∧ f_flg (s_startOff o v) = f_flg o ∧ f_res (s_startOff o v) = f_res o ∧ f_resNull (s_startOff o v) = f_resNull o ∧ f_frameCnt (s_startOff o v) = f_frameCnt o ∧ f_sorted (s_startOff o v) = f_sorted o ∧ f_cap (s_startOff o v) = f_cap o ∧ f_rows (s_startOff o v) = f_rows o ∧ f_direction (s_startOff o v) = f_direction o ∧ f_nulls (s_startOff o v) = f_nulls o ∧ f_mode (s_startOff o v) = f_mode o ∧ f_startKind (s_startOff o v) = f_startKind o ∧ f_startOff (s_startOff o v) = v ∧ f_endKind (s_startOff o v) = f_endKind o ∧ f_endOff (s_startOff o v) = f_endOff o ∧ f_fn (s_startOff o v) = f_fn o ∧ f_fnArg (s_startOff o v) = f_fnArg o ∧ f_computed (s_startOff o v) = f_computed o ∧ f_sortedLen (s_startOff o v) = f_sortedLen o ∧ f_curPos (s_startOff o v) = f_curPos o ∧ f_aggSum (s_startOff o v) = f_aggSum o ∧ f_aggCount (s_startOff o v) = f_aggCount o ∧ f_aggRows (s_startOff o v) = f_aggRows o ∧ f_aggMin (s_startOff o v) = f_aggMin o ∧ f_aggMax (s_startOff o v) = f_aggMax o := by
 simp only [f_part, f_keys, f_vals, f_flg, f_res, f_resNull, f_frameCnt, f_sorted, f_cap, f_rows, f_direction, f_nulls, f_mode, f_startKind, f_startOff, f_endKind, f_endOff, f_fn, f_fnArg, f_computed, f_sortedLen, f_curPos, f_aggSum, f_aggCount, f_aggRows, f_aggMin, f_aggMax, s_startOff, and_self]
theorem gs_endKind (o : Ob) (v : Int32) : f_part (s_endKind o v) = f_part o ∧ f_keys (s_endKind o v) = f_keys o ∧ f_vals (s_endKind o v) = f_vals o ∧ f_flg (s_endKind o v) = f_flg o ∧ f_res (s_endKind o v) = f_res o ∧ f_resNull (s_endKind o v) = f_resNull o ∧ f_frameCnt (s_endKind o v) = f_frameCnt o ∧ f_sorted (s_endKind o v) = f_sorted o ∧ f_cap (s_endKind o v) = f_cap o ∧ f_rows (s_endKind o v) = f_rows o ∧ f_direction (s_endKind o v) = f_direction o ∧ f_nulls (s_endKind o v) = f_nulls o ∧ f_mode (s_endKind o v) = f_mode o ∧ f_startKind (s_endKind o v) = f_startKind o ∧ f_startOff (s_endKind o v) = f_startOff o ∧ f_endKind (s_endKind o v) = v ∧ f_endOff (s_endKind o v) = f_endOff o ∧ f_fn (s_endKind o v) = f_fn o ∧ f_fnArg (s_endKind o v) = f_fnArg o ∧ f_computed (s_endKind o v) = f_computed o ∧ f_sortedLen (s_endKind o v) = f_sortedLen o ∧ f_curPos (s_endKind o v) = f_curPos o ∧ f_aggSum (s_endKind o v) = f_aggSum o ∧ f_aggCount (s_endKind o v) = f_aggCount o ∧ f_aggRows (s_endKind o v) = f_aggRows o ∧ f_aggMin (s_endKind o v) = f_aggMin o ∧ f_aggMax (s_endKind o v) = f_aggMax o := by
 simp only [f_part, f_keys, f_vals, f_flg, f_res, f_resNull, f_frameCnt, f_sorted, f_cap, f_rows, f_direction, f_nulls, f_mode, f_startKind, f_startOff, f_endKind, f_endOff, f_fn, f_fnArg, f_computed, f_sortedLen, f_curPos, f_aggSum, f_aggCount, f_aggRows, f_aggMin, f_aggMax, s_endKind, and_self]
theorem gs_endOff (o : Ob) (v : Int32) : f_part (s_endOff o v) = f_part o ∧ f_keys (s_endOff o v) = f_keys o ∧ f_vals (s_endOff o v) = f_vals o ∧ f_flg (s_endOff o v) = f_flg o ∧ f_res (s_endOff o v) = f_res o ∧ f_resNull (s_endOff o v) = f_resNull o ∧ f_frameCnt (s_endOff o v) = f_frameCnt o ∧ f_sorted (s_endOff o v) = f_sorted o ∧ f_cap (s_endOff o v) = f_cap o ∧ f_rows (s_endOff o v) = f_rows o ∧ f_direction (s_endOff o v) = f_direction o ∧ f_nulls (s_endOff o v) = f_nulls o ∧ f_mode (s_endOff o v) = f_mode o ∧ f_startKind (s_endOff o v) = f_startKind o ∧ f_startOff (s_endOff o v) = f_startOff o ∧ f_endKind (s_endOff o v) = f_endKind o ∧ f_endOff (s_endOff o v) = v ∧ f_fn (s_endOff o v) = f_fn o ∧ f_fnArg (s_endOff o v) = f_fnArg o ∧ f_computed (s_endOff o v) = f_computed o ∧ f_sortedLen (s_endOff o v) = f_sortedLen o ∧ f_curPos (s_endOff o v) = f_curPos o ∧ f_aggSum (s_endOff o v) = f_aggSum o ∧ f_aggCount (s_endOff o v) = f_aggCount o ∧ f_aggRows (s_endOff o v) = f_aggRows o ∧ f_aggMin (s_endOff o v) = f_aggMin o ∧ f_aggMax (s_endOff o v) = f_aggMax o := by
 simp only [f_part, f_keys, f_vals, f_flg, f_res, f_resNull, f_frameCnt, f_sorted, f_cap, f_rows, f_direction, f_nulls, f_mode, f_startKind, f_startOff, f_endKind, f_endOff, f_fn, f_fnArg, f_computed, f_sortedLen, f_curPos, f_aggSum, f_aggCount, f_aggRows, f_aggMin, f_aggMax, s_endOff, and_self]
theorem gs_fn (o : Ob) (v : Int32) : f_part (s_fn o v) = f_part o ∧ f_keys (s_fn o v) = f_keys o ∧ f_vals (s_fn o v) = f_vals o ∧ f_flg (s_fn o v) = f_flg o ∧ f_res (s_fn o v) = f_res o ∧ f_resNull (s_fn o v) = f_resNull o ∧ f_frameCnt (s_fn o v) = f_frameCnt o ∧ f_sorted (s_fn o v) = f_sorted o ∧ f_cap (s_fn o v) = f_cap o ∧ f_rows (s_fn o v) = f_rows o ∧ f_direction (s_fn o v) = f_direction o ∧ f_nulls (s_fn o v) = f_nulls o ∧ f_mode (s_fn o v) = f_mode o ∧ f_startKind (s_fn o v) = f_startKind o ∧ f_startOff (s_fn o v) = f_startOff o ∧ f_endKind (s_fn o v) = f_endKind o ∧ f_endOff (s_fn o v) = f_endOff o ∧ f_fn (s_fn o v) = v ∧ f_fnArg (s_fn o v) = f_fnArg o ∧ f_computed (s_fn o v) = f_computed o ∧ f_sortedLen (s_fn o v) = f_sortedLen o ∧ f_curPos (s_fn o v) = f_curPos o ∧ f_aggSum (s_fn o v) = f_aggSum o ∧ f_aggCount (s_fn o v) = f_aggCount o ∧ f_aggRows (s_fn o v) = f_aggRows o ∧ f_aggMin (s_fn o v) = f_aggMin o ∧ f_aggMax (s_fn o v) = f_aggMax o := by
 simp only [f_part, f_keys, f_vals, f_flg, f_res, f_resNull, f_frameCnt, f_sorted, f_cap, f_rows, f_direction, f_nulls, f_mode, f_startKind, f_startOff, f_endKind, f_endOff, f_fn, f_fnArg, f_computed, f_sortedLen, f_curPos, f_aggSum, f_aggCount, f_aggRows, f_aggMin, f_aggMax, s_fn, and_self]
theorem gs_fnArg (o : Ob) (v : Int32) : f_part (s_fnArg o v) = f_part o ∧ f_keys (s_fnArg o v) = f_keys o ∧ f_vals (s_fnArg o v) = f_vals o ∧ f_flg (s_fnArg o v) = f_flg o ∧ f_res (s_fnArg o v) = f_res o ∧ f_resNull (s_fnArg o v) = f_resNull o ∧ f_frameCnt (s_fnArg o v) = f_frameCnt o ∧ f_sorted (s_fnArg o v) = f_sorted o ∧ f_cap (s_fnArg o v) = f_cap o ∧ f_rows (s_fnArg o v) = f_rows o ∧ f_direction (s_fnArg o v) = f_direction o ∧ f_nulls (s_fnArg o v) = f_nulls o ∧ f_mode (s_fnArg o v) = f_mode o ∧ f_startKind (s_fnArg o v) = f_startKind o ∧ f_startOff (s_fnArg o v) = f_startOff o ∧ f_endKind (s_fnArg o v) = f_endKind o ∧ f_endOff (s_fnArg o v) = f_endOff o ∧ f_fn (s_fnArg o v) = f_fn o ∧ f_fnArg (s_fnArg o v) = v ∧ f_computed (s_fnArg o v) = f_computed o ∧ f_sortedLen (s_fnArg o v) = f_sortedLen o ∧ f_curPos (s_fnArg o v) = f_curPos o ∧ f_aggSum (s_fnArg o v) = f_aggSum o ∧ f_aggCount (s_fnArg o v) = f_aggCount o ∧ f_aggRows (s_fnArg o v) = f_aggRows o ∧ f_aggMin (s_fnArg o v) = f_aggMin o ∧ f_aggMax (s_fnArg o v) = f_aggMax o := by
 simp only [f_part, f_keys, f_vals, f_flg, f_res, f_resNull, f_frameCnt, f_sorted, f_cap, f_rows, f_direction, f_nulls, f_mode, f_startKind, f_startOff, f_endKind, f_endOff, f_fn, f_fnArg, f_computed, f_sortedLen, f_curPos, f_aggSum, f_aggCount, f_aggRows, f_aggMin, f_aggMax, s_fnArg, and_self]
theorem gs_computed (o : Ob) (v : Int32) : f_part (s_computed o v) = f_part o ∧ f_keys (s_computed o v) = f_keys o ∧ f_vals (s_computed o v) = f_vals o ∧ f_flg (s_computed o v) = f_flg o ∧ f_res (s_computed o v) = f_res o ∧ f_resNull (s_computed o v) = f_resNull o ∧ f_frameCnt (s_computed o v) = f_frameCnt o ∧ f_sorted (s_computed o v) = f_sorted o ∧ f_cap (s_computed o v) = f_cap o ∧ f_rows (s_computed o v) = f_rows o ∧ f_direction (s_computed o v) = f_direction o ∧ f_nulls (s_computed o v) = f_nulls o ∧ f_mode (s_computed o v) = f_mode o ∧ f_startKind (s_computed o v) = f_startKind o ∧ f_startOff (s_computed o v) = f_startOff o ∧ f_endKind (s_computed o v) = f_endKind o ∧ f_endOff (s_computed o v) = f_endOff o ∧ f_fn (s_computed o v) = f_fn o ∧ f_fnArg (s_computed o v) = f_fnArg o ∧ f_computed (s_computed o v) = v ∧ f_sortedLen (s_computed o v) = f_sortedLen o ∧ f_curPos (s_computed o v) = f_curPos o ∧ f_aggSum (s_computed o v) = f_aggSum o ∧ f_aggCount (s_computed o v) = f_aggCount o ∧ f_aggRows (s_computed o v) = f_aggRows o ∧ f_aggMin (s_computed o v) = f_aggMin o ∧ f_aggMax (s_computed o v) = f_aggMax o := by
 simp only [f_part, f_keys, f_vals, f_flg, f_res, f_resNull, f_frameCnt, f_sorted, f_cap, f_rows, f_direction, f_nulls, f_mode, f_startKind, f_startOff, f_endKind, f_endOff, f_fn, f_fnArg, f_computed, f_sortedLen, f_curPos, f_aggSum, f_aggCount, f_aggRows, f_aggMin, f_aggMax, s_computed, and_self]
theorem gs_aggSum (o : Ob) (v : Int64) : f_part (s_aggSum o v) = f_part o ∧ f_keys (s_aggSum o v) = f_keys o ∧ f_vals (s_aggSum o v) = f_vals o ∧ f_flg (s_aggSum o v) = f_flg o ∧ f_res (s_aggSum o v) = f_res o ∧ f_resNull (s_aggSum o v) = f_resNull o ∧ f_frameCnt (s_aggSum o v) = f_frameCnt o ∧ f_sorted (s_aggSum o v) = f_sorted o ∧ f_cap (s_aggSum o v) = f_cap o ∧ f_rows (s_aggSum o v) = f_rows o ∧ f_direction (s_aggSum o v) = f_direction o ∧ f_nulls (s_aggSum o v) = f_nulls o ∧ f_mode (s_aggSum o v) = f_mode o ∧ f_startKind (s_aggSum o v) = f_startKind o ∧ f_startOff (s_aggSum o v) = f_startOff o ∧ f_endKind (s_aggSum o v) = f_endKind o ∧ f_endOff (s_aggSum o v) = f_endOff o ∧ f_fn (s_aggSum o v) = f_fn o ∧ f_fnArg (s_aggSum o v) = f_fnArg o ∧ f_computed (s_aggSum o v) = f_computed o ∧ f_sortedLen (s_aggSum o v) = f_sortedLen o ∧ f_curPos (s_aggSum o v) = f_curPos o ∧ f_aggSum (s_aggSum o v) = v ∧ f_aggCount (s_aggSum o v) = f_aggCount o ∧ f_aggRows (s_aggSum o v) = f_aggRows o ∧ f_aggMin (s_aggSum o v) = f_aggMin o ∧ f_aggMax (s_aggSum o v) = f_aggMax o := by
 simp only [f_part, f_keys, f_vals, f_flg, f_res, f_resNull, f_frameCnt, f_sorted, f_cap, f_rows, f_direction, f_nulls, f_mode, f_startKind, f_startOff, f_endKind, f_endOff, f_fn, f_fnArg, f_computed, f_sortedLen, f_curPos, f_aggSum, f_aggCount, f_aggRows, f_aggMin, f_aggMax, s_aggSum, and_self]
theorem gs_aggCount (o : Ob) (v : Int32) : f_part (s_aggCount o v) = f_part o ∧ f_keys (s_aggCount o v) = f_keys o ∧ f_vals (s_aggCount o v) = f_vals o ∧ f_flg (s_aggCount o v) = f_flg o ∧ f_res (s_aggCount o v) = f_res o ∧ f_resNull (s_aggCount o v) = f_resNull o ∧ f_frameCnt (s_aggCount o v) = f_frameCnt o ∧ f_sorted (s_aggCount o v) = f_sorted o ∧ f_cap (s_aggCount o v) = f_cap o ∧ f_rows (s_aggCount o v) = f_rows o ∧ f_direction (s_aggCount o v) = f_direction o ∧ f_nulls (s_aggCount o v) = f_nulls o ∧ f_mode (s_aggCount o v) = f_mode o ∧ f_startKind (s_aggCount o v) = f_startKind o ∧ f_startOff (s_aggCount o v) = f_startOff o ∧ f_endKind (s_aggCount o v) = f_endKind o ∧ f_endOff (s_aggCount o v) = f_endOff o ∧ f_fn (s_aggCount o v) = f_fn o ∧ f_fnArg (s_aggCount o v) = f_fnArg o ∧ f_computed (s_aggCount o v) = f_computed o ∧ f_sortedLen (s_aggCount o v) = f_sortedLen o ∧ f_curPos (s_aggCount o v) = f_curPos o ∧ f_aggSum (s_aggCount o v) = f_aggSum o ∧ f_aggCount (s_aggCount o v) = v ∧ f_aggRows (s_aggCount o v) = f_aggRows o ∧ f_aggMin (s_aggCount o v) = f_aggMin o ∧ f_aggMax (s_aggCount o v) = f_aggMax o := by
 simp only [f_part, f_keys, f_vals, f_flg, f_res, f_resNull, f_frameCnt, f_sorted, f_cap, f_rows, f_direction, f_nulls, f_mode, f_startKind, f_startOff, f_endKind, f_endOff, f_fn, f_fnArg, f_computed, f_sortedLen, f_curPos, f_aggSum, f_aggCount, f_aggRows, f_aggMin, f_aggMax, s_aggCount, and_self]
theorem gs_aggRows (o : Ob) (v : Int32) : f_part (s_aggRows o v) = f_part o ∧ f_keys (s_aggRows o v) = f_keys o ∧ f_vals (s_aggRows o v) = f_vals o ∧ f_flg (s_aggRows o v) = f_flg o ∧ f_res (s_aggRows o v) = f_res o ∧ f_resNull (s_aggRows o v) = f_resNull o ∧ f_frameCnt (s_aggRows o v) = f_frameCnt o ∧ f_sorted (s_aggRows o v) = f_sorted o ∧ f_cap (s_aggRows o v) = f_cap o ∧ f_rows (s_aggRows o v) = f_rows o ∧ f_direction (s_aggRows o v) = f_direction o ∧ f_nulls (s_aggRows o v) = f_nulls o ∧ f_mode (s_aggRows o v) = f_mode o ∧ f_startKind (s_aggRows o v) = f_startKind o ∧ f_startOff (s_aggRows o v) = f_startOff o ∧ f_endKind (s_aggRows o v) = f_endKind o ∧ f_endOff (s_aggRows o v) = f_endOff o ∧ f_fn (s_aggRows o v) = f_fn o ∧ f_fnArg (s_aggRows o v) = f_fnArg o ∧ f_computed (s_aggRows o v) = f_computed o ∧ f_sortedLen (s_aggRows o v) = f_sortedLen o ∧ f_curPos (s_aggRows o v) = f_curPos o ∧ f_aggSum (s_aggRows o v) = f_aggSum o ∧ f_aggCount (s_aggRows o v) = f_aggCount o ∧ f_aggRows (s_aggRows o v) = v ∧ f_aggMin (s_aggRows o v) = f_aggMin o ∧ f_aggMax (s_aggRows o v) = f_aggMax o := by
 simp only [f_part, f_keys, f_vals, f_flg, f_res, f_resNull, f_frameCnt, f_sorted, f_cap, f_rows, f_direction, f_nulls, f_mode, f_startKind, f_startOff, f_endKind, f_endOff, f_fn, f_fnArg, f_computed, f_sortedLen, f_curPos, f_aggSum, f_aggCount, f_aggRows, f_aggMin, f_aggMax, s_aggRows, and_self]
theorem gs_aggMin (o : Ob) (v : Int32) : f_part (s_aggMin o v) = f_part o ∧ f_keys (s_aggMin o v) = f_keys o ∧ f_vals (s_aggMin o v) = f_vals o ∧ f_flg (s_aggMin o v) = f_flg o ∧ f_res (s_aggMin o v) = f_res o ∧ f_resNull (s_aggMin o v) = f_resNull o ∧ f_frameCnt (s_aggMin o v) = f_frameCnt o ∧ f_sorted (s_aggMin o v) = f_sorted o ∧ f_cap (s_aggMin o v) = f_cap o ∧ f_rows (s_aggMin o v) = f_rows o ∧ f_direction (s_aggMin o v) = f_direction o ∧ f_nulls (s_aggMin o v) = f_nulls o ∧ f_mode (s_aggMin o v) = f_mode o ∧ f_startKind (s_aggMin o v) = f_startKind o ∧ f_startOff (s_aggMin o v) = f_startOff o ∧ f_endKind (s_aggMin o v) = f_endKind o ∧ f_endOff (s_aggMin o v) = f_endOff o ∧ f_fn (s_aggMin o v) = f_fn o ∧ f_fnArg (s_aggMin o v) = f_fnArg o ∧ f_computed (s_aggMin o v) = f_computed o ∧ f_sortedLen (s_aggMin o v) = f_sortedLen o ∧ f_curPos (s_aggMin o v) = f_curPos o ∧ f_aggSum (s_aggMin o v) = f_aggSum o ∧ f_aggCount (s_aggMin o v) = f_aggCount o ∧ f_aggRows (s_aggMin o v) = f_aggRows o ∧ f_aggMin (s_aggMin o v) = v ∧ f_aggMax (s_aggMin o v) = f_aggMax o := by
 simp only [f_part, f_keys, f_vals, f_flg, f_res, f_resNull, f_frameCnt, f_sorted, f_cap, f_rows, f_direction, f_nulls, f_mode, f_startKind, f_startOff, f_endKind, f_endOff, f_fn, f_fnArg, f_computed, f_sortedLen, f_curPos, f_aggSum, f_aggCount, f_aggRows, f_aggMin, f_aggMax, s_aggMin, and_self]
theorem gs_aggMax (o : Ob) (v : Int32) : f_part (s_aggMax o v) = f_part o ∧ f_keys (s_aggMax o v) = f_keys o ∧ f_vals (s_aggMax o v) = f_vals o ∧ f_flg (s_aggMax o v) = f_flg o ∧ f_res (s_aggMax o v) = f_res o ∧ f_resNull (s_aggMax o v) = f_resNull o ∧ f_frameCnt (s_aggMax o v) = f_frameCnt o ∧ f_sorted (s_aggMax o v) = f_sorted o ∧ f_cap (s_aggMax o v) = f_cap o ∧ f_rows (s_aggMax o v) = f_rows o ∧ f_direction (s_aggMax o v) = f_direction o ∧ f_nulls (s_aggMax o v) = f_nulls o ∧ f_mode (s_aggMax o v) = f_mode o ∧ f_startKind (s_aggMax o v) = f_startKind o ∧ f_startOff (s_aggMax o v) = f_startOff o ∧ f_endKind (s_aggMax o v) = f_endKind o ∧ f_endOff (s_aggMax o v) = f_endOff o ∧ f_fn (s_aggMax o v) = f_fn o ∧ f_fnArg (s_aggMax o v) = f_fnArg o ∧ f_computed (s_aggMax o v) = f_computed o ∧ f_sortedLen (s_aggMax o v) = f_sortedLen o ∧ f_curPos (s_aggMax o v) = f_curPos o ∧ f_aggSum (s_aggMax o v) = f_aggSum o ∧ f_aggCount (s_aggMax o v) = f_aggCount o ∧ f_aggRows (s_aggMax o v) = f_aggRows o ∧ f_aggMin (s_aggMax o v) = f_aggMin o ∧ f_aggMax (s_aggMax o v) = v := by
 simp only [f_part, f_keys, f_vals, f_flg, f_res, f_resNull, f_frameCnt, f_sorted, f_cap, f_rows, f_direction, f_nulls, f_mode, f_startKind, f_startOff, f_endKind, f_endOff, f_fn, f_fnArg, f_computed, f_sortedLen, f_curPos, f_aggSum, f_aggCount, f_aggRows, f_aggMin, f_aggMax, s_aggMax, and_self]
theorem inc1 {x : Int32} (h : x.toInt < 2147483647) : (x + 1).toInt = x.toInt + 1 := by
 have := i_lo x
 have e1 : (1 : Int32).toInt = 1 := rfl
 rw [i_add (by omega) (by omega), e1]
theorem j_add {x y : Int64} (h1 : -9223372036854775808 ≤ x.toInt + y.toInt) (h2 : x.toInt + y.toInt < 9223372036854775808) : (x + y).toInt = x.toInt + y.toInt := by
 rw [Int64.toInt_add, Int.bmod_eq_of_le (by omega) (by omega)]
theorem j_sub {x y : Int64} (h1 : -9223372036854775808 ≤ x.toInt - y.toInt) (h2 : x.toInt - y.toInt < 9223372036854775808) : (x - y).toInt = x.toInt - y.toInt := by
 rw [Int64.toInt_sub, Int.bmod_eq_of_le (by omega) (by omega)]
def gd (l : List Int32) (k : Nat) : Int := (l.getD k 0).toInt
theorem gd_set {l : List Int32} {i k : Nat} {v : Int32} (hi : i < l.length) : gd (l.set i v) k = if i = k then v.toInt else gd l k := by
 unfold gd
 rw [List.getD_eq_getElem?_getD, List.getD_eq_getElem?_getD, List.getElem?_set]
 by_cases h : i = k
 ·rw [if_pos h, if_pos h, if_pos hi]; rfl
 ·rw [if_neg h, if_neg h]
theorem okP_agd {l : List Int32} {j : Int32} {P : Int32 → Prop} (h0 : 0 ≤ j.toInt) (h1 : j.toInt < l.length) (k : ∀ w : Int32, w.toInt = gd l j.toInt.toNat → P w) : okP (aget l j) P := by
 refine okP.aget h0 h1 (fun w hw => k w ?_)
 unfold gd
 rw [List.getD_eq_getElem?_getD, hw]; rfl
def GC (c : CC) : Prop := c.1.length = 32 ∧ c.2.1.length = 32 ∧ c.2.2.1.length = 32 ∧ c.2.2.2.1.length = 32 ∧ 0 ≤ c.2.2.2.2.1.toInt ∧ c.2.2.2.2.1.toInt ≤ 32
def GD (d : DD) : Prop := d.1.length = 32 ∧ d.2.1.length = 32 ∧ d.2.2.length = 32
def GE (c : CC) (e : EE) : Prop := e.1.length = 32 ∧ 0 ≤ e.2.1.toInt ∧ e.2.1.toInt ≤ c.2.2.2.2.1.toInt ∧ 0 ≤ e.2.2.toInt ∧ e.2.2.toInt < c.2.2.2.2.1.toInt ∧ ∀ k, k < e.2.1.toInt.toNat → 0 ≤ gd e.1 k ∧ gd e.1 k < c.2.2.2.2.1.toInt
theorem g_part {c : CC} {d : DD} {e : EE} {o : Ob} (h : Sh c d e o) : f_part o = c.1 := congrArg (fun x : CC => x.1) h.1
theorem g_keys {c : CC} {d : DD} {e : EE} {o : Ob} (h : Sh c d e o) : f_keys o = c.2.1 := congrArg (fun x : CC => x.2.1) h.1
theorem g_vals {c : CC} {d : DD} {e : EE} {o : Ob} (h : Sh c d e o) : f_vals o = c.2.2.1 := congrArg (fun x : CC => x.2.2.1) h.1
theorem g_flg {c : CC} {d : DD} {e : EE} {o : Ob} (h : Sh c d e o) : f_flg o = c.2.2.2.1 := congrArg (fun x : CC => x.2.2.2.1) h.1
theorem g_rows {c : CC} {d : DD} {e : EE} {o : Ob} (h : Sh c d e o) : f_rows o = c.2.2.2.2.1 := congrArg (fun x : CC => x.2.2.2.2.1) h.1
theorem g_fn {c : CC} {d : DD} {e : EE} {o : Ob} (h : Sh c d e o) : f_fn o = c.2.2.2.2.2.2.2.2.2.2.2.2.2.1 := congrArg (fun x : CC => x.2.2.2.2.2.2.2.2.2.2.2.2.2.1) h.1
theorem g_res {c : CC} {d : DD} {e : EE} {o : Ob} (h : Sh c d e o) : f_res o = d.1 := congrArg (fun x : DD => x.1) h.2.1
theorem g_nul {c : CC} {d : DD} {e : EE} {o : Ob} (h : Sh c d e o) : f_resNull o = d.2.1 := congrArg (fun x : DD => x.2.1) h.2.1
theorem g_fc {c : CC} {d : DD} {e : EE} {o : Ob} (h : Sh c d e o) : f_frameCnt o = d.2.2 := congrArg (fun x : DD => x.2.2) h.2.1
theorem g_so {c : CC} {d : DD} {e : EE} {o : Ob} (h : Sh c d e o) : f_sorted o = e.1 := congrArg (fun x : EE => x.1) h.2.2
theorem g_sl {c : CC} {d : DD} {e : EE} {o : Ob} (h : Sh c d e o) : f_sortedLen o = e.2.1 := congrArg (fun x : EE => x.2.1) h.2.2
theorem g_cp {c : CC} {d : DD} {e : EE} {o : Ob} (h : Sh c d e o) : f_curPos o = e.2.2 := congrArg (fun x : EE => x.2.2) h.2.2
theorem w_so {c : CC} {d : DD} {e : EE} {o : Ob} (h : Sh c d e o) (x : List Int32) : Sh c d (x, e.2) (s_sorted o x) := by
 obtain ⟨a, b, r⟩ := h
 subst r
 dsimp only [Sh, f_part, f_keys, f_vals, f_flg, f_res, f_resNull, f_frameCnt, f_sorted, f_cap, f_rows, f_direction, f_nulls, f_mode, f_startKind, f_startOff, f_endKind, f_endOff, f_fn, f_fnArg, f_computed, f_sortedLen, f_curPos, f_aggSum, f_aggCount, f_aggRows, f_aggMin, f_aggMax, s_sorted] at a b ⊢
 exact ⟨a, b, rfl⟩
theorem w_sl {c : CC} {d : DD} {e : EE} {o : Ob} (h : Sh c d e o) (x : Int32) : Sh c d (e.1, x, e.2.2) (s_sortedLen o x) := by
 obtain ⟨a, b, r⟩ := h
 subst r
 dsimp only [Sh, f_part, f_keys, f_vals, f_flg, f_res, f_resNull, f_frameCnt, f_sorted, f_cap, f_rows, f_direction, f_nulls, f_mode, f_startKind, f_startOff, f_endKind, f_endOff, f_fn, f_fnArg, f_computed, f_sortedLen, f_curPos, f_aggSum, f_aggCount, f_aggRows, f_aggMin, f_aggMax, s_sortedLen] at a b ⊢
 exact ⟨a, b, rfl⟩
theorem w_cp {c : CC} {d : DD} {e : EE} {o : Ob} (h : Sh c d e o) (x : Int32) : Sh c d (e.1, e.2.1, x) (s_curPos o x) := by
 obtain ⟨a, b, r⟩ := h
 subst r
 dsimp only [Sh, f_part, f_keys, f_vals, f_flg, f_res, f_resNull, f_frameCnt, f_sorted, f_cap, f_rows, f_direction, f_nulls, f_mode, f_startKind, f_startOff, f_endKind, f_endOff, f_fn, f_fnArg, f_computed, f_sortedLen, f_curPos, f_aggSum, f_aggCount, f_aggRows, f_aggMin, f_aggMax, s_curPos] at a b ⊢
 exact ⟨a, b, rfl⟩
theorem w_fc {c : CC} {d : DD} {e : EE} {o : Ob} (h : Sh c d e o) (x : List Int32) : Sh c (d.1, d.2.1, x) e (s_frameCnt o x) := by
 obtain ⟨a, b, r⟩ := h
 subst b
 dsimp only [Sh, f_part, f_keys, f_vals, f_flg, f_res, f_resNull, f_frameCnt, f_sorted, f_cap, f_rows, f_direction, f_nulls, f_mode, f_startKind, f_startOff, f_endKind, f_endOff, f_fn, f_fnArg, f_computed, f_sortedLen, f_curPos, f_aggSum, f_aggCount, f_aggRows, f_aggMin, f_aggMax, s_frameCnt] at a r ⊢
 exact ⟨a, rfl, r⟩
theorem w_rn {c : CC} {d : DD} {e : EE} {o : Ob} (h : Sh c d e o) (x : List Int64) (y : List Int32) : Sh c (x, y, d.2.2) e (s_res (s_resNull o y) x) := by
 obtain ⟨a, b, r⟩ := h
 subst b
 dsimp only [Sh, f_part, f_keys, f_vals, f_flg, f_res, f_resNull, f_frameCnt, f_sorted, f_cap, f_rows, f_direction, f_nulls, f_mode, f_startKind, f_startOff, f_endKind, f_endOff, f_fn, f_fnArg, f_computed, f_sortedLen, f_curPos, f_aggSum, f_aggCount, f_aggRows, f_aggMin, f_aggMax, s_res, s_resNull] at a r ⊢
 exact ⟨a, rfl, r⟩
theorem knull {c : CC} {d : DD} {e : EE} {o : Ob} (h : Sh c d e o) (G : GC c) {x : Int32} (x0 : 0 ≤ x.toInt) (x1 : x.toInt < 32) : okP (F20 o x) (fun _ => True) := by
 unfold F20
 rw [g_flg h]
 apply okP.bind
 refine okP.aget x0 (by rw [G.2.2.2.1]; omega) (fun y _ => ?_)
 apply okP.ite <;> intro _ <;> exact okP.some trivial
theorem vnull {c : CC} {d : DD} {e : EE} {o : Ob} (h : Sh c d e o) (G : GC c) {x : Int32} (x0 : 0 ≤ x.toInt) (x1 : x.toInt < 32) : okP (F26 o x) (fun _ => True) := by
 unfold F26
 rw [g_flg h]
 apply okP.bind
 refine okP.aget x0 (by rw [G.2.2.2.1]; omega) (fun y _ => ?_)
 apply okP.ite <;> intro _ <;> exact okP.some trivial
theorem key_at {c : CC} {d : DD} {e : EE} {o : Ob} (h : Sh c d e o) (G : GC c) {x : Int32} (x0 : 0 ≤ x.toInt) (x1 : x.toInt < 32) {P : Int32 → Prop} (k : ∀ w, P w) : okP (aget (f_keys o) x) P := by
 rw [g_keys h]
 exact okP.aget x0 (by rw [G.2.1]; omega) (fun w _ => k w)
theorem before_ok {c : CC} {d : DD} {e : EE} {o : Ob} (h : Sh c d e o) (G : GC c) {x y : Int32} (x0 : 0 ≤ x.toInt) (x1 : x.toInt < 32) (y0 : 0 ≤ y.toInt) (y1 : y.toInt < 32) : okP (F19 o x y) (fun _ => True) := by
 unfold F19 J19_51
 apply okP.ite <;> intro _
 ·repeat' with_reducible (first | exact okP.some trivial | (apply okP.ite <;> intro _) | (apply okP.bind; refine key_at h G (by assumption) (by assumption) (fun _ => ?_)))
 apply okP.bind
 refine okP.mono (knull h G x0 x1) (fun _ _ => ?_)
 apply okP.bind
 refine okP.mono (knull h G y0 y1) (fun _ _ => ?_)
 repeat' with_reducible (first | exact okP.some trivial | (apply okP.ite <;> intro _) | (apply okP.bind; refine key_at h G (by assumption) (by assumption) (fun _ => ?_)))
theorem peer_ok {c : CC} {d : DD} {e : EE} {o : Ob} (h : Sh c d e o) (G : GC c) {x y : Int32} (x0 : 0 ≤ x.toInt) (x1 : x.toInt < 32) (y0 : 0 ≤ y.toInt) (y1 : y.toInt < 32) : okP (F25 o x y) (fun _ => True) := by
 unfold F25 J25_33
 apply okP.ite <;> intro _
 ·repeat' with_reducible (first | exact okP.some trivial | (apply okP.ite <;> intro _) | (apply okP.bind; refine key_at h G (by assumption) (by assumption) (fun _ => ?_)))
 apply okP.bind
 refine okP.mono (knull h G x0 x1) (fun _ _ => ?_)
 apply okP.bind
 refine okP.mono (knull h G y0 y1) (fun _ _ => ?_)
 repeat' with_reducible (first | exact okP.some trivial | (apply okP.ite <;> intro _) | (apply okP.bind; refine key_at h G (by assumption) (by assumption) (fun _ => ?_)))
theorem dist_ok {c : CC} {d : DD} {e : EE} {o : Ob} (h : Sh c d e o) (G : GC c) {x y : Int32} (x0 : 0 ≤ x.toInt) (x1 : x.toInt < 32) (y0 : 0 ≤ y.toInt) (y1 : y.toInt < 32) : okP (F32 o x y) (fun _ => True) := by
 unfold F32
 repeat' with_reducible (first | exact okP.some trivial | (apply okP.ite <;> intro _) | (apply okP.bind; refine key_at h G (by assumption) (by assumption) (fun _ => ?_)))
theorem rs_ok {c : CC} {d : DD} {e : EE} {o : Ob} (h : Sh c d e o) (G : GC c) {x y : Int32} (x0 : 0 ≤ x.toInt) (x1 : x.toInt < 32) (y0 : 0 ≤ y.toInt) (y1 : y.toInt < 32) (a b : Int32) : okP (F23 o x y a b) (fun _ => True) := by
 unfold F23
 apply okP.ite <;> intro _
 ·repeat' with_reducible (first | exact okP.some trivial | (apply okP.ite <;> intro _) | (apply okP.bind; refine key_at h G (by assumption) (by assumption) (fun _ => ?_)))
 apply okP.ite <;> intro _
 ·repeat' with_reducible (first | exact okP.some trivial | (apply okP.ite <;> intro _) | (apply okP.bind; refine key_at h G (by assumption) (by assumption) (fun _ => ?_)))
 apply okP.bind
 refine okP.mono (peer_ok h G x0 x1 y0 y1) (fun _ _ => ?_)
 apply okP.ite <;> intro _
 ·repeat' with_reducible (first | exact okP.some trivial | (apply okP.ite <;> intro _) | (apply okP.bind; refine key_at h G (by assumption) (by assumption) (fun _ => ?_)))
 apply okP.bind
 refine okP.mono (knull h G x0 x1) (fun _ _ => ?_)
 apply okP.ite <;> intro _
 ·apply okP.bind
  refine okP.mono (knull h G y0 y1) (fun _ _ => ?_)
  apply okP.ite <;> intro _
  ·apply okP.bind
   refine okP.mono (dist_ok h G x0 x1 y0 y1) (fun _ _ => ?_)
   repeat' with_reducible (first | exact okP.some trivial | (apply okP.ite <;> intro _) | (apply okP.bind; refine key_at h G (by assumption) (by assumption) (fun _ => ?_)))
  ·repeat' with_reducible (first | exact okP.some trivial | (apply okP.ite <;> intro _) | (apply okP.bind; refine key_at h G (by assumption) (by assumption) (fun _ => ?_)))
 ·repeat' with_reducible (first | exact okP.some trivial | (apply okP.ite <;> intro _) | (apply okP.bind; refine key_at h G (by assumption) (by assumption) (fun _ => ?_)))
theorem re_ok {c : CC} {d : DD} {e : EE} {o : Ob} (h : Sh c d e o) (G : GC c) {x y : Int32} (x0 : 0 ≤ x.toInt) (x1 : x.toInt < 32) (y0 : 0 ≤ y.toInt) (y1 : y.toInt < 32) (a b : Int32) : okP (F24 o x y a b) (fun _ => True) := by
 unfold F24
 apply okP.ite <;> intro _
 ·repeat' with_reducible (first | exact okP.some trivial | (apply okP.ite <;> intro _) | (apply okP.bind; refine key_at h G (by assumption) (by assumption) (fun _ => ?_)))
 apply okP.ite <;> intro _
 ·repeat' with_reducible (first | exact okP.some trivial | (apply okP.ite <;> intro _) | (apply okP.bind; refine key_at h G (by assumption) (by assumption) (fun _ => ?_)))
 apply okP.bind
 refine okP.mono (peer_ok h G x0 x1 y0 y1) (fun _ _ => ?_)
 apply okP.ite <;> intro _
 ·repeat' with_reducible (first | exact okP.some trivial | (apply okP.ite <;> intro _) | (apply okP.bind; refine key_at h G (by assumption) (by assumption) (fun _ => ?_)))
 apply okP.bind
 refine okP.mono (knull h G x0 x1) (fun _ _ => ?_)
 apply okP.ite <;> intro _
 ·apply okP.bind
  refine okP.mono (knull h G y0 y1) (fun _ _ => ?_)
  apply okP.ite <;> intro _
  ·apply okP.bind
   refine okP.mono (dist_ok h G x0 x1 y0 y1) (fun _ _ => ?_)
   repeat' with_reducible (first | exact okP.some trivial | (apply okP.ite <;> intro _) | (apply okP.bind; refine key_at h G (by assumption) (by assumption) (fun _ => ?_)))
  ·repeat' with_reducible (first | exact okP.some trivial | (apply okP.ite <;> intro _) | (apply okP.bind; refine key_at h G (by assumption) (by assumption) (fun _ => ?_)))
 ·repeat' with_reducible (first | exact okP.some trivial | (apply okP.ite <;> intro _) | (apply okP.bind; refine key_at h G (by assumption) (by assumption) (fun _ => ?_)))
theorem frame_ok {c : CC} {d : DD} {e : EE} {o : Ob} (h : Sh c d e o) (G : GC c) {x y : Int32} (x0 : 0 ≤ x.toInt) (x1 : x.toInt < 32) (y0 : 0 ≤ y.toInt) (y1 : y.toInt < 32) (a b : Int32) : okP (F22 o x y a b) (fun _ => True) := by
 unfold F22
 have p1 : okP (F34 o a b) (fun _ => True) := by unfold F34; repeat' with_reducible (first | exact okP.some trivial | (apply okP.ite <;> intro _) | (apply okP.bind; refine key_at h G (by assumption) (by assumption) (fun _ => ?_)))
 have p2 : okP (F35 o a b) (fun _ => True) := by unfold F35; repeat' with_reducible (first | exact okP.some trivial | (apply okP.ite <;> intro _) | (apply okP.bind; refine key_at h G (by assumption) (by assumption) (fun _ => ?_)))
 apply okP.ite <;> intro _
 ·apply okP.bind
  refine okP.mono p1 (fun _ _ => ?_)
  apply okP.ite <;> intro _
  ·repeat' with_reducible (first | exact okP.some trivial | (apply okP.ite <;> intro _) | (apply okP.bind; refine key_at h G (by assumption) (by assumption) (fun _ => ?_)))
  apply okP.bind
  refine okP.mono p2 (fun _ _ => ?_)
  repeat' with_reducible (first | exact okP.some trivial | (apply okP.ite <;> intro _) | (apply okP.bind; refine key_at h G (by assumption) (by assumption) (fun _ => ?_)))
 ·apply okP.bind
  refine okP.mono (rs_ok h G x0 x1 y0 y1 a b) (fun _ _ => ?_)
  apply okP.ite <;> intro _
  ·repeat' with_reducible (first | exact okP.some trivial | (apply okP.ite <;> intro _) | (apply okP.bind; refine key_at h G (by assumption) (by assumption) (fun _ => ?_)))
  apply okP.bind
  refine okP.mono (re_ok h G x0 x1 y0 y1 a b) (fun _ _ => ?_)
  repeat' with_reducible (first | exact okP.some trivial | (apply okP.ite <;> intro _) | (apply okP.bind; refine key_at h G (by assumption) (by assumption) (fun _ => ?_)))
theorem build_ok {c : CC} {d : DD} {e : EE} {o : Ob} (h : Sh c d e o) (G : GC c) (hs : e.1.length = 32) {x : Int32} (x0 : 0 ≤ x.toInt) (x1 : x.toInt < c.2.2.2.2.1.toInt) : okP (F18 o x) (fun p => ∃ e', GE c e' ∧ Sh c d e' p) := by
 obtain ⟨G1, G2, G3, G4, r0, r1⟩ := id G
 have z0 : (0 : Int32).toInt = 0 := rfl
 have zm : (-1 : Int32).toInt = -1 := rfl
 have z1 : (1 : Int32).toInt = 1 := rfl
 unfold F18
 rw [g_part h]
 apply okP.bind
 refine okP.aget x0 (by omega) (fun pp _ => ?_)
 apply okP.bind
 refine okP.loop (fun w => 0 ≤ w.2.1.toInt ∧ w.2.1.toInt ≤ c.2.2.2.2.1.toInt ∧ 0 ≤ w.1.toInt ∧ w.1.toInt ≤ w.2.1.toInt ∧ ∃ s : List Int32, s.length = 32 ∧ (∀ k, k < w.1.toInt.toNat → 0 ≤ gd s k ∧ gd s k < c.2.2.2.2.1.toInt) ∧ Sh c d (s, e.2) w.2.2) (fun w => (32 - w.2.1.toInt).toNat) ⟨by show (0 : Int) ≤ 0; decide, r0, by show (0 : Int) ≤ 0; decide, by show (0 : Int) ≤ 0; decide, e.1, hs, fun k hk => absurd hk (Nat.not_lt_zero _), h⟩ (by show (32 - (0 : Int)).toNat < 4000; decide) ?_
 rintro ⟨n, i, p⟩ ⟨a1, a2, a3, a4, s, l, hv, hp⟩
 simp only at a1 a2 a3 a4 hv hp
 unfold B18_12
 simp only
 rw [g_rows hp, g_part hp]
 apply okP.ite <;> intro cc
 ·rw [i_lt] at cc
  have e2 : (i + 1).toInt = i.toInt + 1 := inc1 (by omega)
  apply okP.bind
  refine okP.aget a1 (by omega) (fun y _ => ?_)
  apply okP.ite <;> intro _
  ·have inner : okP (loopN (B18_38 x n pp i) qN (n, p)) (fun a => 0 ≤ a.1.toInt ∧ a.1.toInt ≤ n.toInt ∧ ∃ s : List Int32, s.length = 32 ∧ (∀ k, k < n.toInt.toNat + 1 → k ≠ a.1.toInt.toNat → 0 ≤ gd s k ∧ gd s k < c.2.2.2.2.1.toInt) ∧ Sh c d (s, e.2) a.2) := by
    refine okP.loop (fun w => 0 ≤ w.1.toInt ∧ w.1.toInt ≤ n.toInt ∧ ∃ s : List Int32, s.length = 32 ∧ (∀ k, k < n.toInt.toNat + 1 → k ≠ w.1.toInt.toNat → 0 ≤ gd s k ∧ gd s k < c.2.2.2.2.1.toInt) ∧ Sh c d (s, e.2) w.2) (fun w => w.1.toInt.toNat) ⟨a3, Int.le_refl _, s, l, fun k hk hne => hv k (by simp only at hne; omega), hp⟩ (by show n.toInt.toNat < 4000; omega) ?_
    rintro ⟨j, p⟩ ⟨b1, b2, s, l, hv, hp⟩
    simp only at b1 b2 hv hp
    unfold B18_38
    simp only
    apply okP.ite <;> intro jc
    ·rw [i_lt, z0] at jc
     obtain ⟨jm', hjm⟩ : ∃ m, m = j + -1 := ⟨_, rfl⟩
     rw [← hjm]
     have jm : jm'.toInt = j.toInt - 1 := by rw [hjm, i_add (by omega) (by omega), zm]; omega
     have j1 : (j - 1).toInt = j.toInt - 1 := by rw [i_sub (by omega) (by omega), z1]
     have v1 := hv (j.toInt.toNat - 1) (by omega) (by omega)
     rw [show f_sorted p = s from g_so hp]
     apply okP.bind
     refine okP_agd (by omega) (by omega) (fun y hy => ?_)
     have ej : (j - 1).toInt.toNat = j.toInt.toNat - 1 := by omega
     rw [ej] at hy
     apply okP.bind
     refine okP.mono (before_ok hp G a1 (by omega) (by omega) (by omega)) (fun r _ => ?_)
     apply okP.ite <;> intro _
     ·apply okP.some
      exact ⟨b1, b2, s, l, hv, hp⟩
     apply okP.bind
     refine okP_agd (by omega) (by omega) (fun y' hy' => ?_)
     rw [ej] at hy'
     apply okP.bind
     refine okP.aset b1 (by omega) ?_
     apply okP.some
     refine ⟨⟨by simp only; omega, by simp only; omega, s.set j.toInt.toNat y', by rw [List.length_set]; exact l, ?_, w_so hp _⟩, by simp only; omega⟩
     intro k hk hne
     simp only at hne
     rw [gd_set (by omega)]
     by_cases ek : j.toInt.toNat = k
     ·rw [if_pos ek]; omega
     ·rw [if_neg ek]; exact hv k hk (fun q => ek q.symm)
    ·apply okP.some
     exact ⟨b1, b2, s, l, hv, hp⟩
   apply okP.bind
   refine okP.mono inner ?_
   rintro ⟨j, p⟩ ⟨b1, b2, s, l, hv, hp⟩
   simp only at b1 b2 hv hp
   unfold J18_83 J18_95
   simp only
   rw [g_so hp]
   apply okP.bind
   refine okP.aset b1 (by simp only; omega) ?_
   apply okP.some
   have n2 : (n + 1).toInt = n.toInt + 1 := inc1 (by omega)
   refine ⟨⟨by simp only; omega, by simp only; omega, by simp only; omega, by simp only; omega, s.set j.toInt.toNat i, by rw [List.length_set]; exact l, ?_, w_so hp _⟩, by simp only; omega⟩
   intro k hk
   simp only at hk
   rw [gd_set (by omega)]
   by_cases ek : j.toInt.toNat = k
   ·rw [if_pos ek]; omega
   ·rw [if_neg ek]; exact hv k (by omega) (fun q => ek q.symm)
  ·unfold J18_95
   apply okP.some
   exact ⟨⟨by simp only; omega, by simp only; omega, by simp only; omega, by simp only; omega, s, l, hv, hp⟩, by simp only; omega⟩
 ·rw [i_lt] at cc
  apply okP.some
  simp only [Sum.elim_inl]
  apply okP.bind
  have hp2 := w_cp (w_sl hp n) 0
  refine okP.loop (fun w => 0 ≤ w.1.toInt ∧ w.1.toInt ≤ 32 ∧ ∃ u : Int32, 0 ≤ u.toInt ∧ u.toInt < c.2.2.2.2.1.toInt ∧ Sh c d (s, n, u) w.2) (fun w => (32 - w.1.toInt).toNat) ⟨by show (0 : Int) ≤ 0; decide, by show (0 : Int) ≤ 32; decide, 0, by decide, by rw [z0]; omega, hp2⟩ (by show (32 - (0 : Int)).toNat < 4000; decide) ?_
  rintro ⟨w, p⟩ ⟨b1, b2, u, u0, u1, hp⟩
  simp only at b1 b2 hp
  unfold B18_114 J18_137
  simp only
  apply okP.ite <;> intro wc
  ·rw [i_lt] at wc
   have e2 : (w + 1).toInt = w.toInt + 1 := inc1 (by omega)
   rw [g_so hp]
   apply okP.bind
   refine okP.aget b1 (by simp only; omega) (fun y _ => ?_)
   apply okP.ite <;> intro _
   ·apply okP.some
    exact ⟨⟨by simp only; omega, by simp only; omega, w, b1, by omega, w_cp hp w⟩, by simp only; omega⟩
   ·apply okP.some
    exact ⟨⟨by simp only; omega, by simp only; omega, u, u0, u1, hp⟩, by simp only; omega⟩
  ·apply okP.some
   apply okP.some
   exact ⟨(s, n, u), ⟨l, a3, by simp only; omega, u0, u1, hv⟩, hp⟩
theorem agg_ok {c : CC} {d : DD} {e : EE} {o : Ob} (h : Sh c d e o) (G : GC c) (E : GE c e) {x : Int32} (x0 : 0 ≤ x.toInt) (x1 : x.toInt < c.2.2.2.2.1.toInt) : okP (F21 o x) (fun p => Sh c d e p ∧ 0 ≤ (f_aggCount p).toInt ∧ (f_aggCount p).toInt ≤ (f_aggRows p).toInt ∧ (f_aggRows p).toInt ≤ c.2.2.2.2.1.toInt) := by
 obtain ⟨E1, E2, E3, E4, E5, E6⟩ := E
 obtain ⟨G1, G2, G3, G4, r0, r1⟩ := id G
 unfold F21
 rw [g_sl h, g_cp h]
 apply okP.bind
 have h' : Sh c d e (s_aggMax (s_aggMin (s_aggRows (s_aggCount (s_aggSum o 0) 0) 0) 0) 0) := Sh_aggMax (Sh_aggMin (Sh_aggRows (Sh_aggCount (Sh_aggSum h))))
 refine okP.loop (fun w => 0 ≤ w.1.toInt ∧ w.1.toInt ≤ e.2.1.toInt ∧ Sh c d e w.2 ∧ 0 ≤ (f_aggCount w.2).toInt ∧ (f_aggCount w.2).toInt ≤ (f_aggRows w.2).toInt ∧ (f_aggRows w.2).toInt ≤ w.1.toInt) (fun w => (32 - w.1.toInt).toNat) ⟨by show (0 : Int) ≤ 0; decide, E2, h', by simp only [gs_aggRows, gs_aggCount, gs_aggSum, gs_aggMin, gs_aggMax, gs_direction, gs_nulls, gs_mode, gs_startKind, gs_startOff, gs_endKind, gs_endOff, gs_fn, gs_fnArg, gs_computed, gs_rows, gs_part, gs_keys, gs_vals, gs_flg]; decide, by simp only [gs_aggRows, gs_aggCount, gs_aggSum, gs_aggMin, gs_aggMax, gs_direction, gs_nulls, gs_mode, gs_startKind, gs_startOff, gs_endKind, gs_endOff, gs_fn, gs_fnArg, gs_computed, gs_rows, gs_part, gs_keys, gs_vals, gs_flg]; decide, by simp only [gs_aggRows, gs_aggCount, gs_aggSum, gs_aggMin, gs_aggMax, gs_direction, gs_nulls, gs_mode, gs_startKind, gs_startOff, gs_endKind, gs_endOff, gs_fn, gs_fnArg, gs_computed, gs_rows, gs_part, gs_keys, gs_vals, gs_flg]; decide⟩ (by show (32 - (0 : Int)).toNat < 4000; decide) ?_
 rintro ⟨w, p⟩ ⟨a1, a2, hp, a3, a4, a5⟩
 simp only at a1 a2 hp a3 a4 a5
 unfold B21_38
 simp only
 apply okP.ite <;> intro wc
 ·rw [i_lt] at wc
  have e2 : (w + 1).toInt = w.toInt + 1 := inc1 (by omega)
  rw [g_so hp]
  have v1 := E6 w.toInt.toNat (by omega)
  apply okP.bind
  refine okP_agd a1 (by omega) (fun y hy => ?_)
  apply okP.bind
  refine okP.mono (frame_ok hp G x0 (by omega) (by omega) (by omega) _ _) (fun r _ => ?_)
  apply okP.ite <;> intro _
  ·unfold J21_166
   apply okP.some
   exact ⟨⟨by simp only; omega, by simp only; omega, hp, a3, a4, by simp only; omega⟩, by simp only; omega⟩
  have rr : (f_aggRows p + 1).toInt = (f_aggRows p).toInt + 1 := inc1 (by omega)
  obtain ⟨q, hq⟩ : ∃ q, q = s_aggRows p (f_aggRows p + 1) := ⟨_, rfl⟩
  rw [← hq]
  have hqS : Sh c d e q := by rw [hq]; exact Sh_aggRows hp
  have q1 : (f_aggRows q).toInt = (f_aggRows p).toInt + 1 := by rw [hq]; simp only [gs_aggRows, gs_aggCount, gs_aggSum, gs_aggMin, gs_aggMax, gs_direction, gs_nulls, gs_mode, gs_startKind, gs_startOff, gs_endKind, gs_endOff, gs_fn, gs_fnArg, gs_computed, gs_rows, gs_part, gs_keys, gs_vals, gs_flg]; exact rr
  have q2 : f_aggCount q = f_aggCount p := by rw [hq]; simp only [gs_aggRows, gs_aggCount, gs_aggSum, gs_aggMin, gs_aggMax, gs_direction, gs_nulls, gs_mode, gs_startKind, gs_startOff, gs_endKind, gs_endOff, gs_fn, gs_fnArg, gs_computed, gs_rows, gs_part, gs_keys, gs_vals, gs_flg]
  apply okP.bind
  refine okP.mono (vnull hqS G (by omega) (by omega)) (fun r _ => ?_)
  have j166 : ∀ t : Ob, Sh c d e t → 0 ≤ (f_aggCount t).toInt → (f_aggCount t).toInt ≤ (f_aggRows t).toInt → (f_aggRows t).toInt ≤ (w + 1).toInt → okP (J21_166 t x e.2.1 e.2.2 w) (fun r => Sum.elim (fun a => okP (some a) fun p => Sh c d e p ∧ 0 ≤ (f_aggCount p).toInt ∧ (f_aggCount p).toInt ≤ (f_aggRows p).toInt ∧ (f_aggRows p).toInt ≤ c.2.2.2.2.1.toInt) (fun v' => (0 ≤ v'.1.toInt ∧ v'.1.toInt ≤ e.2.1.toInt ∧ Sh c d e v'.2 ∧ 0 ≤ (f_aggCount v'.2).toInt ∧ (f_aggCount v'.2).toInt ≤ (f_aggRows v'.2).toInt ∧ (f_aggRows v'.2).toInt ≤ v'.1.toInt) ∧ (32 - v'.1.toInt).toNat < (32 - w.toInt).toNat) r) := by
   intro t t1 t2 t3 t4
   unfold J21_166
   apply okP.some
   exact ⟨⟨by simp only; omega, by simp only; omega, t1, t2, t3, t4⟩, by simp only; omega⟩
  have j144 : ∀ (t : Ob) (z : Int32), Sh c d e t → f_aggCount t = f_aggCount p → (f_aggRows t).toInt = (f_aggRows p).toInt + 1 → okP (J21_144 t x e.2.1 e.2.2 w z) (fun r => Sum.elim (fun a => okP (some a) fun p => Sh c d e p ∧ 0 ≤ (f_aggCount p).toInt ∧ (f_aggCount p).toInt ≤ (f_aggRows p).toInt ∧ (f_aggRows p).toInt ≤ c.2.2.2.2.1.toInt) (fun v' => (0 ≤ v'.1.toInt ∧ v'.1.toInt ≤ e.2.1.toInt ∧ Sh c d e v'.2 ∧ 0 ≤ (f_aggCount v'.2).toInt ∧ (f_aggCount v'.2).toInt ≤ (f_aggRows v'.2).toInt ∧ (f_aggRows v'.2).toInt ≤ v'.1.toInt) ∧ (32 - v'.1.toInt).toNat < (32 - w.toInt).toNat) r) := by
   intro t z t1 t2 t3
   unfold J21_144
   rw [t2]
   have cc1 : (f_aggCount p + 1).toInt = (f_aggCount p).toInt + 1 := inc1 (by omega)
   obtain ⟨m, hm⟩ : ∃ m, m = f_aggCount p + 1 := ⟨_, rfl⟩
   rw [← hm] at cc1 ⊢
   refine j166 _ (Sh_aggSum (Sh_aggCount t1)) ?_ ?_ ?_
   ·simp only [gs_aggRows, gs_aggCount, gs_aggSum, gs_aggMin, gs_aggMax, gs_direction, gs_nulls, gs_mode, gs_startKind, gs_startOff, gs_endKind, gs_endOff, gs_fn, gs_fnArg, gs_computed, gs_rows, gs_part, gs_keys, gs_vals, gs_flg]; omega
   ·simp only [gs_aggRows, gs_aggCount, gs_aggSum, gs_aggMin, gs_aggMax, gs_direction, gs_nulls, gs_mode, gs_startKind, gs_startOff, gs_endKind, gs_endOff, gs_fn, gs_fnArg, gs_computed, gs_rows, gs_part, gs_keys, gs_vals, gs_flg]; omega
   ·simp only [gs_aggRows, gs_aggCount, gs_aggSum, gs_aggMin, gs_aggMax, gs_direction, gs_nulls, gs_mode, gs_startKind, gs_startOff, gs_endKind, gs_endOff, gs_fn, gs_fnArg, gs_computed, gs_rows, gs_part, gs_keys, gs_vals, gs_flg]; omega
  have j122 : ∀ (t : Ob) (z : Int32), Sh c d e t → f_aggCount t = f_aggCount p → (f_aggRows t).toInt = (f_aggRows p).toInt + 1 → okP (J21_122 t x e.2.1 e.2.2 w z) (fun r => Sum.elim (fun a => okP (some a) fun p => Sh c d e p ∧ 0 ≤ (f_aggCount p).toInt ∧ (f_aggCount p).toInt ≤ (f_aggRows p).toInt ∧ (f_aggRows p).toInt ≤ c.2.2.2.2.1.toInt) (fun v' => (0 ≤ v'.1.toInt ∧ v'.1.toInt ≤ e.2.1.toInt ∧ Sh c d e v'.2 ∧ 0 ≤ (f_aggCount v'.2).toInt ∧ (f_aggCount v'.2).toInt ≤ (f_aggRows v'.2).toInt ∧ (f_aggRows v'.2).toInt ≤ v'.1.toInt) ∧ (32 - v'.1.toInt).toNat < (32 - w.toInt).toNat) r) := by
   intro t z t1 t2 t3
   unfold J21_122 J21_138
   have k : ∀ y : Int32, f_aggCount (s_aggMax t y) = f_aggCount t ∧ f_aggRows (s_aggMax t y) = f_aggRows t := by intro y; simp only [gs_aggRows, gs_aggCount, gs_aggSum, gs_aggMin, gs_aggMax, gs_direction, gs_nulls, gs_mode, gs_startKind, gs_startOff, gs_endKind, gs_endOff, gs_fn, gs_fnArg, gs_computed, gs_rows, gs_part, gs_keys, gs_vals, gs_flg, and_self]
   apply okP.ite <;> intro _
   ·exact j144 _ z (Sh_aggMax t1) (by rw [(k z).1]; exact t2) (by rw [(k z).2]; exact t3)
   apply okP.ite <;> intro _
   ·exact j144 _ z (Sh_aggMax t1) (by rw [(k z).1]; exact t2) (by rw [(k z).2]; exact t3)
   ·exact j144 t z t1 t2 t3
  have j116 : ∀ (z : Int32), okP (J21_116 q x e.2.1 e.2.2 w z) (fun r => Sum.elim (fun a => okP (some a) fun p => Sh c d e p ∧ 0 ≤ (f_aggCount p).toInt ∧ (f_aggCount p).toInt ≤ (f_aggRows p).toInt ∧ (f_aggRows p).toInt ≤ c.2.2.2.2.1.toInt) (fun v' => (0 ≤ v'.1.toInt ∧ v'.1.toInt ≤ e.2.1.toInt ∧ Sh c d e v'.2 ∧ 0 ≤ (f_aggCount v'.2).toInt ∧ (f_aggCount v'.2).toInt ≤ (f_aggRows v'.2).toInt ∧ (f_aggRows v'.2).toInt ≤ v'.1.toInt) ∧ (32 - v'.1.toInt).toNat < (32 - w.toInt).toNat) r) := by
   intro z
   unfold J21_116
   have k : ∀ y : Int32, f_aggCount (s_aggMin q y) = f_aggCount q ∧ f_aggRows (s_aggMin q y) = f_aggRows q := by intro y; simp only [gs_aggRows, gs_aggCount, gs_aggSum, gs_aggMin, gs_aggMax, gs_direction, gs_nulls, gs_mode, gs_startKind, gs_startOff, gs_endKind, gs_endOff, gs_fn, gs_fnArg, gs_computed, gs_rows, gs_part, gs_keys, gs_vals, gs_flg, and_self]
   exact j122 _ z (Sh_aggMin hqS) (by rw [(k z).1]; exact q2) (by rw [(k z).2]; exact q1)
  apply okP.ite <;> intro _
  ·rw [g_vals hqS]
   apply okP.bind
   refine okP.aget (by omega) (by omega) (fun z _ => ?_)
   apply okP.ite <;> intro _
   ·exact j116 z
   apply okP.ite <;> intro _
   ·exact j116 z
   ·exact j122 q z hqS q2 q1
  ·exact j166 q hqS (by rw [q2]; exact a3) (by rw [q2]; omega) (by omega)
 ·apply okP.some
  apply okP.some
  exact ⟨hp, a3, a4, by omega⟩
theorem setRes_ok {c : CC} {d : DD} {e : EE} {o : Ob} (h : Sh c d e o) (D : GD d) {x : Int32} (x0 : 0 ≤ x.toInt) (x1 : x.toInt < 32) (v : Int64) (b : Int32) : okP (F28 o x v b) (fun p => Sh c (d.1.set x.toInt.toNat (if b = 0 then v else 0), d.2.1.set x.toInt.toNat (b &&& 1), d.2.2) e p) := by
 unfold F28
 rw [g_nul h, g_res h]
 apply okP.bind
 refine okP.aset x0 (by rw [D.2.1]; omega) ?_
 apply okP.bind
 refine okP.aset x0 (by rw [D.1]; omega) ?_
 apply okP.some
 exact w_rn h _ _
theorem rank_ok {c : CC} {d : DD} {e : EE} {o : Ob} (h : Sh c d e o) (G : GC c) (E : GE c e) {x : Int32} (x0 : 0 ≤ x.toInt) (x1 : x.toInt < c.2.2.2.2.1.toInt) : okP (F33 o x (f_curPos o)) (fun r => 1 ≤ r.toInt ∧ r.toInt ≤ c.2.2.2.2.1.toInt) := by
 obtain ⟨E1, E2, E3, E4, E5, E6⟩ := E
 obtain ⟨G1, G2, G3, G4, r0, r1⟩ := id G
 unfold F33
 rw [g_cp h]
 apply okP.bind
 refine okP.loop (fun w => 0 ≤ w.2.toInt ∧ w.2.toInt ≤ e.2.2.toInt ∧ 1 ≤ w.1.toInt ∧ w.1.toInt ≤ 1 + w.2.toInt) (fun w => (32 - w.2.toInt).toNat) ⟨by show (0 : Int) ≤ 0; decide, E4, by show (1 : Int) ≤ 1; decide, by show (1 : Int) ≤ 1 + 0; decide⟩ (by show (32 - (0 : Int)).toNat < 4000; decide) ?_
 rintro ⟨a, w⟩ ⟨a1, a2, a3, a4⟩
 simp only at a1 a2 a3 a4
 unfold B33_5
 simp only
 rw [g_sl h, g_so h]
 apply okP.ite <;> intro wc
 ·rw [i_lt] at wc
  apply okP.ite <;> intro lc
  ·rw [i_lt] at lc
   have e2 : (w + 1).toInt = w.toInt + 1 := inc1 (by omega)
   have v1 := E6 w.toInt.toNat (by omega)
   apply okP.bind
   refine okP_agd a1 (by omega) (fun y hy => ?_)
   apply okP.bind
   refine okP.mono (peer_ok h G (by omega) (by omega) x0 (by omega)) (fun r _ => ?_)
   apply okP.some
   have ja : (a + 1).toInt = a.toInt + 1 := by rw [j_add (by show _ ≤ a.toInt + 1; omega) (by show a.toInt + 1 < _; omega)]; rfl
   have jb : 1 ≤ (if r = 0 then a + 1 else a).toInt ∧ (if r = 0 then a + 1 else a).toInt ≤ a.toInt + 1 := by split <;> omega
   exact ⟨⟨by simp only; omega, by simp only; omega, by simp only; omega, by simp only; omega⟩, by simp only; omega⟩
  ·exact okP.some (okP.some ⟨a3, by omega⟩)
 ·exact okP.some (okP.some ⟨a3, by omega⟩)
theorem dense_ok {c : CC} {d : DD} {e : EE} {o : Ob} (h : Sh c d e o) (G : GC c) (E : GE c e) {x : Int32} (x0 : 0 ≤ x.toInt) (x1 : x.toInt < c.2.2.2.2.1.toInt) : okP (F36 o x (f_curPos o)) (fun r => 1 ≤ r.toInt ∧ r.toInt ≤ c.2.2.2.2.1.toInt) := by
 obtain ⟨E1, E2, E3, E4, E5, E6⟩ := E
 obtain ⟨G1, G2, G3, G4, r0, r1⟩ := id G
 have z1 : (1 : Int32).toInt = 1 := rfl
 have z0 : (0 : Int32).toInt = 0 := rfl
 unfold F36
 rw [g_cp h]
 apply okP.bind
 refine okP.loop (fun w => 0 ≤ w.2.toInt ∧ w.2.toInt ≤ e.2.2.toInt ∧ 1 ≤ w.1.toInt ∧ w.1.toInt ≤ 1 + w.2.toInt) (fun w => (32 - w.2.toInt).toNat) ⟨by show (0 : Int) ≤ 0; decide, E4, by show (1 : Int) ≤ 1; decide, by show (1 : Int) ≤ 1 + 0; decide⟩ (by show (32 - (0 : Int)).toNat < 4000; decide) ?_
 rintro ⟨a, w⟩ ⟨a1, a2, a3, a4⟩
 simp only at a1 a2 a3 a4
 unfold B36_5 J36_65 J36_69
 simp only
 rw [g_sl h, g_so h]
 apply okP.ite <;> intro wc
 ·rw [i_lt] at wc
  apply okP.ite <;> intro lc
  ·rw [i_lt] at lc
   have e2 : (w + 1).toInt = w.toInt + 1 := inc1 (by omega)
   have v1 := E6 w.toInt.toNat (by omega)
   have ja : (a + 1).toInt = a.toInt + 1 := by rw [j_add (by show _ ≤ a.toInt + 1; omega) (by show a.toInt + 1 < _; omega)]; rfl
   apply okP.bind
   refine okP_agd a1 (by omega) (fun y hy => ?_)
   apply okP.bind
   refine okP.mono (peer_ok h G (by omega) (by omega) x0 (by omega)) (fun r _ => ?_)
   apply okP.ite <;> intro _
   ·apply okP.ite <;> intro w0
    ·apply okP.some
     exact ⟨⟨by simp only; omega, by simp only; omega, by simp only; omega, by simp only; omega⟩, by simp only; omega⟩
    ·have wn : 1 ≤ w.toInt := by rw [i_eq, z0] at w0; omega
     have w1 : (w - 1).toInt = w.toInt - 1 := by rw [i_sub (by omega) (by omega), z1]
     have v2 := E6 (w.toInt.toNat - 1) (by omega)
     apply okP.bind
     refine okP_agd (by omega) (by omega) (fun y' hy' => ?_)
     have ew : (w - 1).toInt.toNat = w.toInt.toNat - 1 := by omega
     rw [ew] at hy'
     apply okP.bind
     refine okP.mono (peer_ok h G (by omega) (by omega) (by omega) (by omega)) (fun r' _ => ?_)
     apply okP.some
     have jb : 1 ≤ (if r' = 0 then a + 1 else a).toInt ∧ (if r' = 0 then a + 1 else a).toInt ≤ a.toInt + 1 := by split <;> omega
     exact ⟨⟨by simp only; omega, by simp only; omega, by simp only; omega, by simp only; omega⟩, by simp only; omega⟩
   ·apply okP.some
    exact ⟨⟨by simp only; omega, by simp only; omega, by simp only; omega, by simp only; omega⟩, by simp only; omega⟩
  ·exact okP.some (okP.some ⟨a3, by omega⟩)
 ·exact okP.some (okP.some ⟨a3, by omega⟩)
def RowOK (fn n fc nl : Int32) (rs : Int64) : Prop := 0 ≤ fc.toInt ∧ fc.toInt ≤ n.toInt ∧ (nl = 0 ∨ nl = 1) ∧ (nl ≠ 0 → rs = 0) ∧ (fn = 2 → nl = 0 ∧ rs = fc.toInt64) ∧ (fn = 1 → nl = 0 ∧ 0 ≤ rs.toInt ∧ rs.toInt ≤ fc.toInt) ∧ (5 ≤ fn.toInt → fn.toInt ≤ 7 → nl = 0 ∧ 1 ≤ rs.toInt ∧ rs.toInt ≤ n.toInt)
theorem apply_ok {c : CC} {d : DD} {e : EE} {o : Ob} (h : Sh c d e o) (G : GC c) (D : GD d) (E : GE c e) {x : Int32} (x0 : 0 ≤ x.toInt) (x1 : x.toInt < c.2.2.2.2.1.toInt) (a1 : 0 ≤ (f_aggCount o).toInt) (a2 : (f_aggCount o).toInt ≤ (f_aggRows o).toInt) (a3 : (f_aggRows o).toInt ≤ c.2.2.2.2.1.toInt) : okP (F27 o x) (fun p => ∃ v nl, RowOK c.2.2.2.2.2.2.2.2.2.2.2.2.2.1 c.2.2.2.2.1 (f_aggRows o) nl v ∧ Sh c (d.1.set x.toInt.toNat v, d.2.1.set x.toInt.toNat nl, d.2.2) e p) := by
 obtain ⟨E1, E2, E3, E4, E5, E6⟩ := id E
 obtain ⟨G1, G2, G3, G4, r0, r1⟩ := id G
 have x32 : x.toInt < 32 := by omega
 have ag0 : 0 ≤ (f_aggRows o).toInt := by omega
 unfold F27
 rw [g_fn h]
 obtain ⟨fn, hfn⟩ : ∃ fn, fn = c.2.2.2.2.2.2.2.2.2.2.2.2.2.1 := ⟨_, rfl⟩
 rw [← hfn]
 have put : ∀ (v : Int64) (b : Int32), (b = 0 ∨ b = 1) → RowOK fn c.2.2.2.2.1 (f_aggRows o) b (if b = 0 then v else 0) → okP ((F28 o x v b).bind fun r => some r) (fun p => ∃ v nl, RowOK fn c.2.2.2.2.1 (f_aggRows o) nl v ∧ Sh c (d.1.set x.toInt.toNat v, d.2.1.set x.toInt.toNat nl, d.2.2) e p) := by
  intro v b hb hr
  apply okP.bind
  refine okP.mono (setRes_ok h D x0 x32 v b) (fun p hp => ?_)
  apply okP.some
  have b1 : b &&& 1 = b := by rcases hb with rfl | rfl <;> decide
  rw [b1] at hp
  exact ⟨_, _, hr, hp⟩
 have bit : ∀ {q : Prop} [Decidable q], (if q then (1 : Int32) else 0) = 0 ∨ (if q then (1 : Int32) else 0) = 1 := by
  intro q _; split
  ·exact Or.inr rfl
  ·exact Or.inl rfl
 have nz : ∀ {b : Int32} {v : Int64}, (b ≠ 0 → (if b = 0 then v else 0) = 0) := by
  intro b v hb; rw [if_neg hb]
 have k : ∀ {a b : Int32}, a = b → a.toInt = b.toInt := fun q => by rw [q]
 refine okP.ite (fun f => put _ _ bit ⟨ag0, a3, bit, nz, fun q => by rw [f] at q; exact absurd q (by decide), fun q => by rw [f] at q; exact absurd q (by decide), fun q _ => by rw [f] at q; exact absurd q (by decide)⟩) (fun f0 => ?_)
 refine okP.ite (fun f => put _ _ (Or.inl rfl) ⟨ag0, a3, Or.inl rfl, fun q => absurd rfl q, fun q => by rw [f] at q; exact absurd q (by decide), fun _ => ⟨rfl, by rw [if_pos rfl, Int32.toInt_toInt64]; exact ⟨a1, a2⟩⟩, fun q _ => by rw [f] at q; exact absurd q (by decide)⟩) (fun f1 => ?_)
 refine okP.ite (fun f => put _ _ (Or.inl rfl) ⟨ag0, a3, Or.inl rfl, fun q => absurd rfl q, fun _ => ⟨rfl, if_pos rfl⟩, fun q => absurd q f1, fun q _ => by rw [f] at q; exact absurd q (by decide)⟩) (fun f2 => ?_)
 refine okP.ite (fun f => put _ _ bit ⟨ag0, a3, bit, nz, fun q => absurd q f2, fun q => absurd q f1, fun q _ => by rw [f] at q; exact absurd q (by decide)⟩) (fun f3 => ?_)
 refine okP.ite (fun f => put _ _ bit ⟨ag0, a3, bit, nz, fun q => absurd q f2, fun q => absurd q f1, fun q _ => by rw [f] at q; exact absurd q (by decide)⟩) (fun f4 => ?_)
 refine okP.ite (fun f => put _ _ (Or.inl rfl) ⟨ag0, a3, Or.inl rfl, fun q => absurd rfl q, fun q => absurd q f2, fun q => absurd q f1, fun _ _ => ⟨rfl, ?_⟩⟩) (fun f5 => ?_)
 ·rw [if_pos rfl, g_cp h]
  have e64 := Int32.toInt_toInt64 e.2.2
  have : (e.2.2.toInt64 + 1).toInt = e.2.2.toInt + 1 := by
   rw [j_add (by rw [e64]; show _ ≤ e.2.2.toInt + 1; omega) (by rw [e64]; show e.2.2.toInt + 1 < _; omega), e64]; rfl
  omega
 refine okP.ite (fun f => ?_) (fun f6 => ?_)
 ·apply okP.bind
  refine okP.mono (rank_ok h G E x0 x1) (fun r hr => ?_)
  exact put _ _ (Or.inl rfl) ⟨ag0, a3, Or.inl rfl, fun q => absurd rfl q, fun q => absurd q f2, fun q => absurd q f1, fun _ _ => ⟨rfl, by rw [if_pos rfl]; exact hr⟩⟩
 refine okP.ite (fun f => ?_) (fun f7 => ?_)
 ·apply okP.bind
  refine okP.mono (dense_ok h G E x0 x1) (fun r hr => ?_)
  exact put _ _ (Or.inl rfl) ⟨ag0, a3, Or.inl rfl, fun q => absurd rfl q, fun q => absurd q f2, fun q => absurd q f1, fun _ _ => ⟨rfl, by rw [if_pos rfl]; exact hr⟩⟩
 have no : ∀ q : 5 ≤ fn.toInt, fn.toInt ≤ 7 → False := by
  intro q1 q2
  have : fn = 5 ∨ fn = 6 ∨ fn = 7 := by
   simp only [i_eq]
   have z5 : (5 : Int32).toInt = 5 := rfl
   have z6 : (6 : Int32).toInt = 6 := rfl
   have z7 : (7 : Int32).toInt = 7 := rfl
   omega
  rcases this with q | q | q
  ·exact f5 q
  ·exact f6 q
  ·exact f7 q
 have any : ∀ (v : Int64) (b : Int32), (b = 0 ∨ b = 1) → okP ((F28 o x v b).bind fun r => some r) (fun p => ∃ v nl, RowOK fn c.2.2.2.2.1 (f_aggRows o) nl v ∧ Sh c (d.1.set x.toInt.toNat v, d.2.1.set x.toInt.toNat nl, d.2.2) e p) := fun v b hb => put v b hb ⟨ag0, a3, hb, nz, fun q => absurd q f2, fun q => absurd q f1, fun q1 q2 => (no q1 q2).elim⟩
 apply okP.bind
 have sh : ∀ b : Int32, okP (F37 o x (f_curPos o) b) (fun p => ∃ v nl, RowOK fn c.2.2.2.2.1 (f_aggRows o) nl v ∧ Sh c (d.1.set x.toInt.toNat v, d.2.1.set x.toInt.toNat nl, d.2.2) e p) := by
  intro b
  unfold F37 J37_45
  obtain ⟨t, ht⟩ : ∃ t, t = (if b = 0 then (f_curPos o).toInt64 + (f_fnArg o).toInt64 else (f_curPos o).toInt64 - (f_fnArg o).toInt64) := ⟨_, rfl⟩
  rw [← ht]
  refine okP.ite (fun _ => any _ _ (Or.inr rfl)) (fun t0 => ?_)
  refine okP.ite (fun _ => any _ _ (Or.inr rfl)) (fun t1 => ?_)
  rw [Int64.lt_iff_toInt_lt] at t0 t1
  rw [g_sl h] at t1
  have e64 := Int32.toInt_toInt64 e.2.1
  have s1 : (e.2.1.toInt64 - 1).toInt = e.2.1.toInt - 1 := by
   rw [j_sub (by rw [e64]; show _ ≤ e.2.1.toInt - 1; omega) (by rw [e64]; show e.2.1.toInt - 1 < _; omega), e64]; rfl
  have t0' : 0 ≤ t.toInt := by have : (0 : Int64).toInt = 0 := rfl; omega
  have ti : t.toInt32.toInt = t.toInt := by
   rw [Int64.toInt_toInt32, Int.bmod_eq_of_le (by omega) (by omega)]
  rw [g_so h]
  have v1 := E6 t.toInt32.toInt.toNat (by omega)
  apply okP.bind
  refine okP_agd (by omega) (by omega) (fun y hy => ?_)
  apply okP.bind
  refine okP.mono (vnull h G (by omega) (by omega)) (fun r _ => ?_)
  refine okP.ite (fun _ => ?_) (fun _ => any _ _ (Or.inr rfl))
  rw [g_vals h]
  apply okP.bind
  refine okP.aget (by omega) (by omega) (fun z _ => ?_)
  exact any _ _ (Or.inl rfl)
 exact okP.mono (sh _) (fun p hp => okP.some hp)
def DOK (c : CC) (d : DD) (n : Nat) : Prop := GD d ∧ ∀ k, k < n → ∃ fc nl rs, d.2.2[k]? = some fc ∧ d.2.1[k]? = some nl ∧ d.1[k]? = some rs ∧ RowOK c.2.2.2.2.2.2.2.2.2.2.2.2.2.1 c.2.2.2.2.1 fc nl rs
theorem row_ok {c : CC} {d : DD} {e : EE} {o : Ob} (h : Sh c d e o) (G : GC c) (hs : e.1.length = 32) {x : Int32} (x0 : 0 ≤ x.toInt) (x1 : x.toInt < c.2.2.2.2.1.toInt) (D : DOK c d x.toInt.toNat) : okP (F17 o x) (fun p => ∃ d' e', DOK c d' (x.toInt.toNat + 1) ∧ e'.1.length = 32 ∧ Sh c d' e' p) := by
 obtain ⟨D0, D1⟩ := D
 obtain ⟨G1, G2, G3, G4, r0, r1⟩ := id G
 unfold F17
 apply okP.bind
 refine okP.mono (build_ok h G hs x0 x1) ?_
 rintro p ⟨e', E, hp⟩
 apply okP.bind
 refine okP.mono (agg_ok hp G E x0 x1) ?_
 rintro p ⟨hp, a1, a2, a3⟩
 rw [g_fc hp]
 apply okP.bind
 refine okP.aset x0 (by rw [D0.2.2]; omega) ?_
 have k1 : f_aggCount (s_frameCnt p (d.2.2.set x.toInt.toNat (f_aggRows p))) = f_aggCount p := by dsimp only [f_aggCount, s_frameCnt]
 have k2 : f_aggRows (s_frameCnt p (d.2.2.set x.toInt.toNat (f_aggRows p))) = f_aggRows p := by dsimp only [f_aggRows, s_frameCnt]
 have hq := w_fc hp (d.2.2.set x.toInt.toNat (f_aggRows p))
 obtain ⟨q, eq⟩ : ∃ q, q = s_frameCnt p (d.2.2.set x.toInt.toNat (f_aggRows p)) := ⟨_, rfl⟩
 rw [← eq] at k1 k2 hq ⊢
 apply okP.bind
 refine okP.mono (apply_ok hq G ⟨D0.1, D0.2.1, by simp only [List.length_set]; exact D0.2.2⟩ E x0 x1 (by rw [k1]; exact a1) (by rw [k1, k2]; exact a2) (by rw [k2]; exact a3)) ?_
 rintro t ⟨v, nl, hr, ht⟩
 rw [k2] at hr
 apply okP.some
 refine ⟨_, e', ⟨⟨by simp only [List.length_set]; exact D0.1, by simp only [List.length_set]; exact D0.2.1, by simp only [List.length_set]; exact D0.2.2⟩, ?_⟩, E.1, ht⟩
 intro k hk
 simp only [List.getElem?_set]
 by_cases ek : x.toInt.toNat = k
 ·simp only [if_pos ek]
  have l1 : k < d.1.length := by rw [D0.1]; omega
  have l2 : k < d.2.1.length := by rw [D0.2.1]; omega
  have l3 : k < d.2.2.length := by rw [D0.2.2]; omega
  subst ek
  simp only [if_pos l1, if_pos l2, if_pos l3]
  exact ⟨_, _, _, rfl, rfl, rfl, hr⟩
 ·simp only [if_neg ek]
  exact D1 k (by omega)
theorem compute_ok {c : CC} {d : DD} {e : EE} {o : Ob} (h : Sh c d e o) (G : GC c) (D : GD d) (hs : e.1.length = 32) : okP (F13 o) (fun r => r = (-1, o) ∨ (r.1 = 0 ∧ ∃ p d' e', DOK c d' c.2.2.2.2.1.toInt.toNat ∧ e'.1.length = 32 ∧ Sh c d' e' p ∧ r.2 = s_computed p 1)) := by
 obtain ⟨G1, G2, G3, G4, r0, r1⟩ := id G
 have no : okP (F14 o) (fun _ => True) := by
  unfold F14
  repeat' with_reducible (first | exact okP.some trivial | (apply okP.ite <;> intro _) | (apply okP.bind; refine key_at h G (by assumption) (by assumption) (fun _ => ?_)))
 unfold F13
 apply okP.bind
 refine okP.mono no (fun r _ => ?_)
 refine okP.ite (fun _ => ?_) (fun _ => okP.some (Or.inl rfl))
 apply okP.bind
 refine okP.loop (fun w => 0 ≤ w.1.toInt ∧ w.1.toInt ≤ c.2.2.2.2.1.toInt ∧ ∃ d' e', DOK c d' w.1.toInt.toNat ∧ e'.1.length = 32 ∧ Sh c d' e' w.2) (fun w => (32 - w.1.toInt).toNat) ⟨by show (0 : Int) ≤ 0; decide, r0, d, e, ⟨D, fun k hk => absurd hk (Nat.not_lt_zero _)⟩, hs, h⟩ (by show (32 - (0 : Int)).toNat < 4000; decide) ?_
 rintro ⟨w, p⟩ ⟨a1, a2, d', e', D', hs', hp⟩
 simp only at a1 a2 D' hp
 unfold B13_11
 simp only
 rw [g_rows hp]
 apply okP.ite <;> intro wc
 ·rw [i_lt] at wc
  have e2 : (w + 1).toInt = w.toInt + 1 := inc1 (by omega)
  have en : (w + 1).toInt.toNat = w.toInt.toNat + 1 := by omega
  apply okP.bind
  refine okP.mono (row_ok hp G hs' a1 wc D') ?_
  rintro q ⟨d2, e2', D2, hs2, hq⟩
  apply okP.some
  exact ⟨⟨by simp only; omega, by simp only; omega, d2, e2', by simp only; rw [en]; exact D2, hs2, hq⟩, by simp only; omega⟩
 ·rw [i_lt] at wc
  have en : w.toInt.toNat = c.2.2.2.2.1.toInt.toNat := by omega
  rw [en] at D'
  apply okP.some
  apply okP.some
  exact Or.inr ⟨rfl, p, d', e', D', hs', hp, rfl⟩
def Bs (n : Int32) (k : Int32) (o : Ob) : Prop := (f_part o).length = 32 ∧ (f_keys o).length = 32 ∧ (f_vals o).length = 32 ∧ (f_flg o).length = 32 ∧ (f_res o).length = 32 ∧ (f_resNull o).length = 32 ∧ (f_frameCnt o).length = 32 ∧ (f_sorted o).length = 32 ∧ f_rows o = n ∧ f_cap o = k
theorem Bs_part {n : Int32} {k : Int32} {o : Ob} {x : List Int32} (h : Bs n k o) (hx : x.length = 32) : Bs n k (s_part o x) := by
 dsimp only [Bs, f_part, f_keys, f_vals, f_flg, f_res, f_resNull, f_frameCnt, f_sorted, f_cap, f_rows, s_part] at h ⊢
 exact ⟨hx, h.2.1, h.2.2.1, h.2.2.2.1, h.2.2.2.2.1, h.2.2.2.2.2.1, h.2.2.2.2.2.2.1, h.2.2.2.2.2.2.2.1, h.2.2.2.2.2.2.2.2⟩
theorem Bs_l_part {n : Int32} {k : Int32} {o : Ob} (h : Bs n k o) : (f_part o).length = 32 := h.1
theorem Bs_keys {n : Int32} {k : Int32} {o : Ob} {x : List Int32} (h : Bs n k o) (hx : x.length = 32) : Bs n k (s_keys o x) := by
 dsimp only [Bs, f_part, f_keys, f_vals, f_flg, f_res, f_resNull, f_frameCnt, f_sorted, f_cap, f_rows, s_keys] at h ⊢
 exact ⟨h.1, hx, h.2.2.1, h.2.2.2.1, h.2.2.2.2.1, h.2.2.2.2.2.1, h.2.2.2.2.2.2.1, h.2.2.2.2.2.2.2.1, h.2.2.2.2.2.2.2.2⟩
theorem Bs_l_keys {n : Int32} {k : Int32} {o : Ob} (h : Bs n k o) : (f_keys o).length = 32 := h.2.1
theorem Bs_vals {n : Int32} {k : Int32} {o : Ob} {x : List Int32} (h : Bs n k o) (hx : x.length = 32) : Bs n k (s_vals o x) := by
 dsimp only [Bs, f_part, f_keys, f_vals, f_flg, f_res, f_resNull, f_frameCnt, f_sorted, f_cap, f_rows, s_vals] at h ⊢
 exact ⟨h.1, h.2.1, hx, h.2.2.2.1, h.2.2.2.2.1, h.2.2.2.2.2.1, h.2.2.2.2.2.2.1, h.2.2.2.2.2.2.2.1, h.2.2.2.2.2.2.2.2⟩
theorem Bs_l_vals {n : Int32} {k : Int32} {o : Ob} (h : Bs n k o) : (f_vals o).length = 32 := h.2.2.1
theorem Bs_flg {n : Int32} {k : Int32} {o : Ob} {x : List Int32} (h : Bs n k o) (hx : x.length = 32) : Bs n k (s_flg o x) := by
 dsimp only [Bs, f_part, f_keys, f_vals, f_flg, f_res, f_resNull, f_frameCnt, f_sorted, f_cap, f_rows, s_flg] at h ⊢
 exact ⟨h.1, h.2.1, h.2.2.1, hx, h.2.2.2.2.1, h.2.2.2.2.2.1, h.2.2.2.2.2.2.1, h.2.2.2.2.2.2.2.1, h.2.2.2.2.2.2.2.2⟩
theorem Bs_l_flg {n : Int32} {k : Int32} {o : Ob} (h : Bs n k o) : (f_flg o).length = 32 := h.2.2.2.1
theorem Bs_res {n : Int32} {k : Int32} {o : Ob} {x : List Int64} (h : Bs n k o) (hx : x.length = 32) : Bs n k (s_res o x) := by
 dsimp only [Bs, f_part, f_keys, f_vals, f_flg, f_res, f_resNull, f_frameCnt, f_sorted, f_cap, f_rows, s_res] at h ⊢
 exact ⟨h.1, h.2.1, h.2.2.1, h.2.2.2.1, hx, h.2.2.2.2.2.1, h.2.2.2.2.2.2.1, h.2.2.2.2.2.2.2.1, h.2.2.2.2.2.2.2.2⟩
theorem Bs_l_res {n : Int32} {k : Int32} {o : Ob} (h : Bs n k o) : (f_res o).length = 32 := h.2.2.2.2.1
theorem Bs_resNull {n : Int32} {k : Int32} {o : Ob} {x : List Int32} (h : Bs n k o) (hx : x.length = 32) : Bs n k (s_resNull o x) := by
 dsimp only [Bs, f_part, f_keys, f_vals, f_flg, f_res, f_resNull, f_frameCnt, f_sorted, f_cap, f_rows, s_resNull] at h ⊢
 exact ⟨h.1, h.2.1, h.2.2.1, h.2.2.2.1, h.2.2.2.2.1, hx, h.2.2.2.2.2.2.1, h.2.2.2.2.2.2.2.1, h.2.2.2.2.2.2.2.2⟩
theorem Bs_l_resNull {n : Int32} {k : Int32} {o : Ob} (h : Bs n k o) : (f_resNull o).length = 32 := h.2.2.2.2.2.1
theorem Bs_frameCnt {n : Int32} {k : Int32} {o : Ob} {x : List Int32} (h : Bs n k o) (hx : x.length = 32) : Bs n k (s_frameCnt o x) := by
 dsimp only [Bs, f_part, f_keys, f_vals, f_flg, f_res, f_resNull, f_frameCnt, f_sorted, f_cap, f_rows, s_frameCnt] at h ⊢
 exact ⟨h.1, h.2.1, h.2.2.1, h.2.2.2.1, h.2.2.2.2.1, h.2.2.2.2.2.1, hx, h.2.2.2.2.2.2.2.1, h.2.2.2.2.2.2.2.2⟩
theorem Bs_l_frameCnt {n : Int32} {k : Int32} {o : Ob} (h : Bs n k o) : (f_frameCnt o).length = 32 := h.2.2.2.2.2.2.1
theorem Bs_sorted {n : Int32} {k : Int32} {o : Ob} {x : List Int32} (h : Bs n k o) (hx : x.length = 32) : Bs n k (s_sorted o x) := by
 dsimp only [Bs, f_part, f_keys, f_vals, f_flg, f_res, f_resNull, f_frameCnt, f_sorted, f_cap, f_rows, s_sorted] at h ⊢
 exact ⟨h.1, h.2.1, h.2.2.1, h.2.2.2.1, h.2.2.2.2.1, h.2.2.2.2.2.1, h.2.2.2.2.2.2.1, hx, h.2.2.2.2.2.2.2.2⟩
theorem Bs_l_sorted {n : Int32} {k : Int32} {o : Ob} (h : Bs n k o) : (f_sorted o).length = 32 := h.2.2.2.2.2.2.2.1
theorem Bs_direction {n : Int32} {k : Int32} {o : Ob} {x : Int32} (h : Bs n k o) : Bs n k (s_direction o x) := by
 dsimp only [Bs, f_part, f_keys, f_vals, f_flg, f_res, f_resNull, f_frameCnt, f_sorted, f_cap, f_rows, s_direction] at h ⊢
 exact h
theorem Bs_nulls {n : Int32} {k : Int32} {o : Ob} {x : Int32} (h : Bs n k o) : Bs n k (s_nulls o x) := by
 dsimp only [Bs, f_part, f_keys, f_vals, f_flg, f_res, f_resNull, f_frameCnt, f_sorted, f_cap, f_rows, s_nulls] at h ⊢
 exact h
theorem Bs_mode {n : Int32} {k : Int32} {o : Ob} {x : Int32} (h : Bs n k o) : Bs n k (s_mode o x) := by
 dsimp only [Bs, f_part, f_keys, f_vals, f_flg, f_res, f_resNull, f_frameCnt, f_sorted, f_cap, f_rows, s_mode] at h ⊢
 exact h
theorem Bs_startKind {n : Int32} {k : Int32} {o : Ob} {x : Int32} (h : Bs n k o) : Bs n k (s_startKind o x) := by
 dsimp only [Bs, f_part, f_keys, f_vals, f_flg, f_res, f_resNull, f_frameCnt, f_sorted, f_cap, f_rows, s_startKind] at h ⊢
 exact h
theorem Bs_startOff {n : Int32} {k : Int32} {o : Ob} {x : Int32} (h : Bs n k o) : Bs n k (s_startOff o x) := by
 dsimp only [Bs, f_part, f_keys, f_vals, f_flg, f_res, f_resNull, f_frameCnt, f_sorted, f_cap, f_rows, s_startOff] at h ⊢
 exact h
theorem Bs_endKind {n : Int32} {k : Int32} {o : Ob} {x : Int32} (h : Bs n k o) : Bs n k (s_endKind o x) := by
 dsimp only [Bs, f_part, f_keys, f_vals, f_flg, f_res, f_resNull, f_frameCnt, f_sorted, f_cap, f_rows, s_endKind] at h ⊢
 exact h
theorem Bs_endOff {n : Int32} {k : Int32} {o : Ob} {x : Int32} (h : Bs n k o) : Bs n k (s_endOff o x) := by
 dsimp only [Bs, f_part, f_keys, f_vals, f_flg, f_res, f_resNull, f_frameCnt, f_sorted, f_cap, f_rows, s_endOff] at h ⊢
 exact h
theorem Bs_fn {n : Int32} {k : Int32} {o : Ob} {x : Int32} (h : Bs n k o) : Bs n k (s_fn o x) := by
 dsimp only [Bs, f_part, f_keys, f_vals, f_flg, f_res, f_resNull, f_frameCnt, f_sorted, f_cap, f_rows, s_fn] at h ⊢
 exact h
theorem Bs_fnArg {n : Int32} {k : Int32} {o : Ob} {x : Int32} (h : Bs n k o) : Bs n k (s_fnArg o x) := by
 dsimp only [Bs, f_part, f_keys, f_vals, f_flg, f_res, f_resNull, f_frameCnt, f_sorted, f_cap, f_rows, s_fnArg] at h ⊢
 exact h
theorem Bs_computed {n : Int32} {k : Int32} {o : Ob} {x : Int32} (h : Bs n k o) : Bs n k (s_computed o x) := by
 dsimp only [Bs, f_part, f_keys, f_vals, f_flg, f_res, f_resNull, f_frameCnt, f_sorted, f_cap, f_rows, s_computed] at h ⊢
 exact h
theorem Bs_sortedLen {n : Int32} {k : Int32} {o : Ob} {x : Int32} (h : Bs n k o) : Bs n k (s_sortedLen o x) := by
 dsimp only [Bs, f_part, f_keys, f_vals, f_flg, f_res, f_resNull, f_frameCnt, f_sorted, f_cap, f_rows, s_sortedLen] at h ⊢
 exact h
theorem Bs_curPos {n : Int32} {k : Int32} {o : Ob} {x : Int32} (h : Bs n k o) : Bs n k (s_curPos o x) := by
 dsimp only [Bs, f_part, f_keys, f_vals, f_flg, f_res, f_resNull, f_frameCnt, f_sorted, f_cap, f_rows, s_curPos] at h ⊢
 exact h
theorem Bs_aggSum {n : Int32} {k : Int32} {o : Ob} {x : Int64} (h : Bs n k o) : Bs n k (s_aggSum o x) := by
 dsimp only [Bs, f_part, f_keys, f_vals, f_flg, f_res, f_resNull, f_frameCnt, f_sorted, f_cap, f_rows, s_aggSum] at h ⊢
 exact h
theorem Bs_aggCount {n : Int32} {k : Int32} {o : Ob} {x : Int32} (h : Bs n k o) : Bs n k (s_aggCount o x) := by
 dsimp only [Bs, f_part, f_keys, f_vals, f_flg, f_res, f_resNull, f_frameCnt, f_sorted, f_cap, f_rows, s_aggCount] at h ⊢
 exact h
theorem Bs_aggRows {n : Int32} {k : Int32} {o : Ob} {x : Int32} (h : Bs n k o) : Bs n k (s_aggRows o x) := by
 dsimp only [Bs, f_part, f_keys, f_vals, f_flg, f_res, f_resNull, f_frameCnt, f_sorted, f_cap, f_rows, s_aggRows] at h ⊢
 exact h
theorem Bs_aggMin {n : Int32} {k : Int32} {o : Ob} {x : Int32} (h : Bs n k o) : Bs n k (s_aggMin o x) := by
 dsimp only [Bs, f_part, f_keys, f_vals, f_flg, f_res, f_resNull, f_frameCnt, f_sorted, f_cap, f_rows, s_aggMin] at h ⊢
 exact h
theorem Bs_aggMax {n : Int32} {k : Int32} {o : Ob} {x : Int32} (h : Bs n k o) : Bs n k (s_aggMax o x) := by
 dsimp only [Bs, f_part, f_keys, f_vals, f_flg, f_res, f_resNull, f_frameCnt, f_sorted, f_cap, f_rows, s_aggMax] at h ⊢
 exact h
def Cm (o : Ob) : Prop := f_computed o = 0 ∨ (f_computed o = 1 ∧ ∀ k : Nat, k < (f_rows o).toInt.toNat → ∃ fc nl rs, (f_frameCnt o)[k]? = some fc ∧ (f_resNull o)[k]? = some nl ∧ (f_res o)[k]? = some rs ∧ RowOK (f_fn o) (f_rows o) fc nl rs)
def tpl (o : Ob) : CC := (f_part o, f_keys o, f_vals o, f_flg o, f_rows o, f_cap o, f_direction o, f_nulls o, f_mode o, f_startKind o, f_startOff o, f_endKind o, f_endOff o, f_fn o, f_fnArg o)
theorem Bs_comp {n k : Int32} {o : Ob} (h : Bs n k o) (h0 : 0 ≤ n.toInt) (h1 : n.toInt ≤ 32) : okP (F13 o) (fun r => r = (-1, o) ∨ (r.1 = 0 ∧ Bs n k r.2 ∧ f_computed r.2 = 1 ∧ tpl r.2 = tpl o ∧ Cm r.2)) := by
 have S : Sh (tpl o) (f_res o, f_resNull o, f_frameCnt o) (f_sorted o, f_sortedLen o, f_curPos o) o := ⟨rfl, rfl, rfl⟩
 obtain ⟨b1, b2, b3, b4, b5, b6, b7, b8, b9, b10⟩ := h
 refine okP.mono (compute_ok S ⟨b1, b2, b3, b4, by show 0 ≤ (f_rows o).toInt; rw [b9]; exact h0, by show (f_rows o).toInt ≤ 32; rw [b9]; exact h1⟩ ⟨b5, b6, b7⟩ b8) ?_
 rintro r (rfl | ⟨r0, p, d', e', D, l, hp, hr⟩)
 ·exact Or.inl rfl
 ·right
  obtain ⟨t1, t2, t3⟩ := hp
  obtain ⟨⟨D1, D2, D3⟩, D4⟩ := D
  have q1 : tpl r.2 = tpl o := by
   rw [hr]
   have : tpl (s_computed p 1) = tpl p := by dsimp only [tpl, f_part, f_keys, f_vals, f_flg, f_res, f_resNull, f_frameCnt, f_sorted, f_cap, f_rows, f_direction, f_nulls, f_mode, f_startKind, f_startOff, f_endKind, f_endOff, f_fn, f_fnArg, f_computed, f_sortedLen, f_curPos, f_aggSum, f_aggCount, f_aggRows, f_aggMin, f_aggMax, s_computed]
   rw [this]; exact t1
  have q2 : (f_res r.2, f_resNull r.2, f_frameCnt r.2) = d' := by
   rw [hr]
   have : (f_res (s_computed p 1), f_resNull (s_computed p 1), f_frameCnt (s_computed p 1)) = (f_res p, f_resNull p, f_frameCnt p) := by dsimp only [f_part, f_keys, f_vals, f_flg, f_res, f_resNull, f_frameCnt, f_sorted, f_cap, f_rows, f_direction, f_nulls, f_mode, f_startKind, f_startOff, f_endKind, f_endOff, f_fn, f_fnArg, f_computed, f_sortedLen, f_curPos, f_aggSum, f_aggCount, f_aggRows, f_aggMin, f_aggMax, s_computed]
   rw [this]; exact t2
  have q3 : (f_sorted r.2, f_sortedLen r.2, f_curPos r.2) = e' := by
   rw [hr]
   have : (f_sorted (s_computed p 1), f_sortedLen (s_computed p 1), f_curPos (s_computed p 1)) = (f_sorted p, f_sortedLen p, f_curPos p) := by dsimp only [f_part, f_keys, f_vals, f_flg, f_res, f_resNull, f_frameCnt, f_sorted, f_cap, f_rows, f_direction, f_nulls, f_mode, f_startKind, f_startOff, f_endKind, f_endOff, f_fn, f_fnArg, f_computed, f_sortedLen, f_curPos, f_aggSum, f_aggCount, f_aggRows, f_aggMin, f_aggMax, s_computed]
   rw [this]; exact t3
  have q4 : f_computed r.2 = 1 := by rw [hr]; dsimp only [f_computed, s_computed]
  subst q2
  subst q3
  have er : f_rows r.2 = f_rows o := congrArg (fun x : CC => x.2.2.2.2.1) q1
  have ef : f_fn r.2 = f_fn o := congrArg (fun x : CC => x.2.2.2.2.2.2.2.2.2.2.2.2.2.1) q1
  refine ⟨r0, ⟨?_, ?_, ?_, ?_, D1, D2, D3, l, ?_, ?_⟩, q4, q1, Or.inr ⟨q4, ?_⟩⟩
  ·rw [show f_part r.2 = f_part o from congrArg (fun x : CC => x.1) q1]; exact b1
  ·rw [show f_keys r.2 = f_keys o from congrArg (fun x : CC => x.2.1) q1]; exact b2
  ·rw [show f_vals r.2 = f_vals o from congrArg (fun x : CC => x.2.2.1) q1]; exact b3
  ·rw [show f_flg r.2 = f_flg o from congrArg (fun x : CC => x.2.2.2.1) q1]; exact b4
  ·rw [er]; exact b9
  ·rw [show f_cap r.2 = f_cap o from congrArg (fun x : CC => x.2.2.2.2.2.1) q1]; exact b10
  ·rw [er, ef]; exact D4
theorem add_ok {n k : Int32} {o : Ob} (h : Bs n k o) (h0 : 0 ≤ n.toInt) (hk : k.toInt ≤ 32) (h1 : n.toInt ≤ k.toInt) (a b c d : Int32) : okP (F3 o a b c d) (fun r => r = (-1, o) ∨ (n.toInt < k.toInt ∧ r.1 = n ∧ Bs (n + 1) k r.2 ∧ f_computed r.2 = 0)) := by
 obtain ⟨b1, b2, b3, b4, b5, b6, b7, b8, b9, b10⟩ := id h
 unfold F3
 rw [b9, b10]
 refine okP.ite (fun _ => okP.some (Or.inl rfl)) (fun _ => ?_)
 refine okP.ite (fun _ => okP.some (Or.inl rfl)) (fun _ => ?_)
 refine okP.ite (fun lt => ?_) (fun _ => okP.some (Or.inl rfl))
 rw [i_lt] at lt
 apply okP.bind
 refine okP.aset h0 (by omega) ?_
 apply okP.bind
 refine okP.aset h0 (by omega) ?_
 apply okP.bind
 refine okP.aset h0 (by omega) ?_
 apply okP.bind
 refine okP.aset h0 (by omega) ?_
 apply okP.some
 refine Or.inr ⟨lt, rfl, ?_, by dsimp only [f_computed, s_computed]⟩
 obtain ⟨m, hm⟩ : ∃ m, m = n + 1 := ⟨_, rfl⟩
 rw [← hm]
 dsimp only [Bs, f_part, f_keys, f_vals, f_flg, f_res, f_resNull, f_frameCnt, f_sorted, f_cap, f_rows, f_direction, f_nulls, f_mode, f_startKind, f_startOff, f_endKind, f_endOff, f_fn, f_fnArg, f_computed, f_sortedLen, f_curPos, f_aggSum, f_aggCount, f_aggRows, f_aggMin, f_aggMax, s_computed, s_rows, s_flg, s_vals, s_keys, s_part] at h ⊢
 simp only [List.length_set]
 exact ⟨h.1, h.2.1, h.2.2.1, h.2.2.2.1, h.2.2.2.2.1, h.2.2.2.2.2.1, h.2.2.2.2.2.2.1, h.2.2.2.2.2.2.2.1, trivial, h.2.2.2.2.2.2.2.2.2⟩
theorem clear_ok {n k : Int32} {o : Ob} (h : Bs n k o) : okP (F15 o) (fun r => Bs 0 k r ∧ f_computed r = 0) := by
 unfold F15
 apply okP.some
 refine ⟨?_, by dsimp only [f_computed, s_computed]⟩
 dsimp only [Bs, f_part, f_keys, f_vals, f_flg, f_res, f_resNull, f_frameCnt, f_sorted, f_cap, f_rows, f_direction, f_nulls, f_mode, f_startKind, f_startOff, f_endKind, f_endOff, f_fn, f_fnArg, f_computed, f_sortedLen, f_curPos, f_aggSum, f_aggCount, f_aggRows, f_aggMin, f_aggMax, s_computed, s_rows] at h ⊢
 exact ⟨h.1, h.2.1, h.2.2.1, h.2.2.2.1, h.2.2.2.2.1, h.2.2.2.2.2.1, h.2.2.2.2.2.2.1, h.2.2.2.2.2.2.2.1, rfl, h.2.2.2.2.2.2.2.2.2⟩
theorem order_ok {n k : Int32} {o : Ob} (h : Bs n k o) (a b : Int32) : okP (F31 o a b) (fun r => r = (0, o) ∨ (r.1 = 1 ∧ Bs n k r.2 ∧ f_computed r.2 = 0)) := by
 unfold F31
 refine okP.ite (fun _ => okP.some (Or.inl rfl)) (fun _ => ?_)
 refine okP.ite (fun _ => okP.some (Or.inl rfl)) (fun _ => ?_)
 refine okP.ite (fun _ => okP.some (Or.inl rfl)) (fun _ => ?_)
 refine okP.ite (fun _ => okP.some (Or.inl rfl)) (fun _ => ?_)
 exact okP.some (Or.inr ⟨rfl, Bs_computed (Bs_nulls (Bs_direction h)), by dsimp only [f_computed, s_computed]⟩)
theorem mode_ok {n k : Int32} {o : Ob} (h : Bs n k o) (a : Int32) : okP (F30 o a) (fun r => r = (0, o) ∨ (r.1 = 1 ∧ Bs n k r.2 ∧ f_computed r.2 = 0)) := by
 unfold F30
 refine okP.ite (fun _ => okP.some (Or.inl rfl)) (fun _ => ?_)
 refine okP.ite (fun _ => okP.some (Or.inl rfl)) (fun _ => ?_)
 exact okP.some (Or.inr ⟨rfl, Bs_computed (Bs_mode h), by dsimp only [f_computed, s_computed]⟩)
theorem start_ok {n k : Int32} {o : Ob} (h : Bs n k o) (a b : Int32) : okP (F16 o a b) (fun r => r = (0, o) ∨ (r.1 = 1 ∧ Bs n k r.2 ∧ f_computed r.2 = 0)) := by
 have j : ∀ x : Int32, okP (J16_37 o a b x) (fun r => r = (0, o) ∨ (r.1 = 1 ∧ Bs n k r.2 ∧ f_computed r.2 = 0)) := fun x => okP.some (Or.inr ⟨rfl, Bs_computed (Bs_startOff (Bs_startKind h)), by dsimp only [f_computed, s_computed]⟩)
 unfold F16
 refine okP.ite (fun _ => okP.some (Or.inl rfl)) (fun _ => ?_)
 refine okP.ite (fun _ => okP.some (Or.inl rfl)) (fun _ => ?_)
 refine okP.ite (fun _ => j _) (fun _ => ?_)
 exact okP.ite (fun _ => okP.some (Or.inl rfl)) (fun _ => j _)
theorem end_ok {n k : Int32} {o : Ob} (h : Bs n k o) (a b : Int32) : okP (F29 o a b) (fun r => r = (0, o) ∨ (r.1 = 1 ∧ Bs n k r.2 ∧ f_computed r.2 = 0)) := by
 have j : ∀ x : Int32, okP (J29_38 o a b x) (fun r => r = (0, o) ∨ (r.1 = 1 ∧ Bs n k r.2 ∧ f_computed r.2 = 0)) := fun x => okP.some (Or.inr ⟨rfl, Bs_computed (Bs_endOff (Bs_endKind h)), by dsimp only [f_computed, s_computed]⟩)
 unfold F29
 refine okP.ite (fun _ => okP.some (Or.inl rfl)) (fun _ => ?_)
 refine okP.ite (fun _ => okP.some (Or.inl rfl)) (fun _ => ?_)
 refine okP.ite (fun _ => j _) (fun _ => ?_)
 exact okP.ite (fun _ => okP.some (Or.inl rfl)) (fun _ => j _)
theorem fun_ok {n k : Int32} {o : Ob} (h : Bs n k o) (a b : Int32) : okP (F12 o a b) (fun r => r = (0, o) ∨ (r.1 = 1 ∧ Bs n k r.2 ∧ f_computed r.2 = 0)) := by
 have j : ∀ x : Int32, okP (J12_40 o a b x) (fun r => r = (0, o) ∨ (r.1 = 1 ∧ Bs n k r.2 ∧ f_computed r.2 = 0)) := fun x => okP.some (Or.inr ⟨rfl, Bs_computed (Bs_fnArg (Bs_fn h)), by dsimp only [f_computed, s_computed]⟩)
 unfold F12
 refine okP.ite (fun _ => okP.some (Or.inl rfl)) (fun _ => ?_)
 refine okP.ite (fun _ => okP.some (Or.inl rfl)) (fun _ => ?_)
 refine okP.ite (fun _ => j _) (fun _ => ?_)
 exact okP.ite (fun _ => okP.some (Or.inl rfl)) (fun _ => j _)
theorem init_ok : okP (F1 8) (fun o => Bs 0 8 o ∧ f_computed o = 0) := by
 unfold F1 F2
 have e : (if (32 : Int32) < (if (8 : Int32) < 8 then 8 else 8) then (32 : Int32) else (if (8 : Int32) < 8 then 8 else 8)) = 8 := by decide
 rw [e]
 apply okP.bind
 apply okP.some
 apply okP.some
 refine ⟨?_, by dsimp only [f_computed, s_computed]⟩
 dsimp only [Bs, f_part, f_keys, f_vals, f_flg, f_res, f_resNull, f_frameCnt, f_sorted, f_cap, f_rows, f_direction, f_nulls, f_mode, f_startKind, f_startOff, f_endKind, f_endOff, f_fn, f_fnArg, f_computed, f_sortedLen, f_curPos, f_aggSum, f_aggCount, f_aggRows, f_aggMin, f_aggMax, s_part, s_keys, s_vals, s_flg, s_res, s_resNull, s_frameCnt, s_sorted, s_cap, s_rows, s_direction, s_nulls, s_mode, s_startKind, s_startOff, s_endKind, s_endOff, s_fn, s_fnArg, s_computed, s_sortedLen, s_curPos, s_aggSum, s_aggCount, s_aggRows, s_aggMin, s_aggMax]
 refine ⟨?_, ?_, ?_, ?_, ?_, ?_, ?_, ?_, ?_⟩ <;> first | exact List.length_replicate | exact ⟨trivial, trivial⟩ | exact ⟨rfl, rfl⟩ | trivial

def Mt (c r dr nu mo sk so ek eo fn fa lp lk lv lf cm : Int32) (o : Ob) : Prop := Bs r c o ∧ (0 ≤ r.toInt ∧ r.toInt ≤ c.toInt) ∧ f_direction o = dr ∧ f_nulls o = nu ∧ f_mode o = mo ∧ f_startKind o = sk ∧ f_startOff o = so ∧ f_endKind o = ek ∧ f_endOff o = eo ∧ f_fn o = fn ∧ f_fnArg o = fa ∧ (0 < r.toInt → (f_part o)[(r.toInt - 1).toNat]? = some lp ∧ (f_keys o)[(r.toInt - 1).toNat]? = some lk ∧ (f_vals o)[(r.toInt - 1).toNat]? = some lv ∧ (f_flg o)[(r.toInt - 1).toNat]? = some lf) ∧ f_computed o = cm ∧ Cm o
theorem g0 {α : Type} {l : List α} {x : Int32} {v : α} (h0 : 0 ≤ x.toInt) (h : l[x.toInt.toNat]? = some v) : aget l x = some v := by
 unfold aget
 rw [if_neg (by rw [i_lt]; show ¬ x.toInt < 0; omega)]
 exact h
abbrev QT := Int32 × Int32 × Int32 × Int32 × Int32 × Int32 × Int32 × Int32 × Int32 × Int32 × Int32 × Int32 × Int32 × Int32 × Int32 × Int32 × Ob
def Po (s : List Int32) (c i : Int32) : (Int32 × QHeap) ⊕ QT → Prop := fun r => Sum.elim (fun e => e.1 = 1 ∧ sFit s e.2) (fun v' : QT => (1 ≤ v'.2.2.2.2.2.2.2.2.2.2.2.2.2.2.2.1.toInt ∧ v'.2.2.2.2.2.2.2.2.2.2.2.2.2.2.2.1.toInt ≤ 261 ∧ Mt c v'.1 v'.2.1 v'.2.2.1 v'.2.2.2.1 v'.2.2.2.2.1 v'.2.2.2.2.2.1 v'.2.2.2.2.2.2.1 v'.2.2.2.2.2.2.2.1 v'.2.2.2.2.2.2.2.2.1 v'.2.2.2.2.2.2.2.2.2.1 v'.2.2.2.2.2.2.2.2.2.2.1 v'.2.2.2.2.2.2.2.2.2.2.2.1 v'.2.2.2.2.2.2.2.2.2.2.2.2.1 v'.2.2.2.2.2.2.2.2.2.2.2.2.2.1 v'.2.2.2.2.2.2.2.2.2.2.2.2.2.2.1 v'.2.2.2.2.2.2.2.2.2.2.2.2.2.2.2.2) ∧ (265 - v'.2.2.2.2.2.2.2.2.2.2.2.2.2.2.2.1.toInt).toNat < (265 - i.toInt).toNat) r
theorem chk {s : List Int32} {c r dr nu mo sk so ek eo fn fa lp lk lv lf cm i : Int32} {o : Ob} (hc : 8 ≤ c.toInt ∧ c.toInt ≤ 15) (M : Mt c r dr nu mo sk so ek eo fn fa lp lk lv lf cm o) (i1 : 1 ≤ i.toInt) (i2 : i.toInt ≤ 256) : okP (J0_791 s o c r dr nu mo sk so ek eo fn fa lp lk lv lf cm i) (Po s c i) := by
 obtain ⟨B, ⟨r0, r1⟩, m1, m2, m3, m4, m5, m6, m7, m8, m9, m10, m11, m12⟩ := id M
 obtain ⟨b1, b2, b3, b4, b5, b6, b7, b8, b9, b10⟩ := id B
 have z0 : (0 : Int32).toInt = 0 := rfl
 have z1 : (1 : Int32).toInt = 1 := rfl
 have y0 : (0 : Int64).toInt = 0 := rfl
 have y1 : (1 : Int64).toInt = 1 := rfl
 have cb : f_computed o &&& 1 = cm := by
  rw [m11]
  rcases m12 with q | ⟨q, _⟩
  ·rw [m11] at q; rw [q]; decide
  ·rw [m11] at q; rw [q]; decide
 have e5 : (5 : Int32).toInt = 5 := rfl
 have i5 : (i + 5).toInt = i.toInt + 5 := by rw [i_add (by omega) (by omega), e5]
 have sp : F6 o dr nu mo sk so ek eo fn fa c = some 1 := by
  unfold F6 F7
  simp only [m1, m2, m3, m4, m5, m6, m7, m8, m9, b10]
  simp +decide
 have rl : ¬ r < 0 := by rw [i_lt, z0]; omega
 have beyond : F8 o r 0 = some 0 ∧ F9 o r = some (-1) ∧ F10 o r = some 0 ∧ F11 o r = some 0 := by
  unfold F8 F9 F10 F11
  rw [b9]
  have rr : ¬ r < r := by rw [i_lt]; omega
  simp only [if_neg rl, if_neg rr]
  refine ⟨trivial, ?_, ?_, ?_⟩ <;> split <;> rfl
 have rows : okP (loopN (B0_947 s o c r dr nu mo sk so ek eo fn fa lp lk lv lf cm i) qN 0) (fun q => q = Sum.inl ()) := by
  refine okP.loop (fun w => 0 ≤ w.toInt ∧ w.toInt ≤ r.toInt) (fun w => (15 - w.toInt).toNat) ⟨by decide, r0⟩ (by show (15 - (0 : Int)).toNat < 4000; decide) ?_
  intro w ⟨a1, a2⟩
  unfold B0_947
  refine okP.ite (fun wl => ?_) (fun _ => okP.some rfl)
  rw [i_lt] at wl
  have e2 : (w + 1).toInt = w.toInt + 1 := inc1 (by omega)
  obtain ⟨Q, hQ⟩ : ∃ Q : ((Unit ⊕ (Int32 × QHeap)) ⊕ Int32) → Prop, Q = (fun q => Sum.elim (fun q => q = Sum.inl ()) (fun v' => (0 ≤ v'.toInt ∧ v'.toInt ≤ r.toInt) ∧ (15 - v'.toInt).toNat < (15 - w.toInt).toNat) q) := ⟨_, rfl⟩
  rw [← hQ]
  have nx : okP (J0_1098 s o c r dr nu mo sk so ek eo fn fa lp lk lv lf cm i w) Q := by
   unfold J0_1098
   rw [hQ]
   exact okP.some ⟨⟨by omega, by omega⟩, by omega⟩
  have w0 : ¬ w < 0 := by rw [i_lt, z0]; omega
  have wl' : w < r := by rw [i_lt]; exact wl
  unfold F9 F10 F11
  rw [b9, m11]
  rcases m12 with q | ⟨q, R⟩
  ·rw [m11] at q
   rw [q]
   simp only [Option.bind_some, if_true]
   unfold J0_999 J0_1018 J0_1040 J0_1069
   simp only [if_true]
   rw [q] at nx
   exact nx
  ·rw [m11] at q
   rw [b9, m8] at R
   obtain ⟨fc, nl, rs, r1', r2, r3, R1, R2, R3, R4, R5, R6, R7⟩ := R w.toInt.toNat (by omega)
   have n1 : ¬ cm = 0 := by rw [q]; decide
   simp only [if_neg n1, if_neg w0, if_pos wl', g0 a1 r1', g0 a1 r2, g0 a1 r3, Option.bind_some]
   have go : ∀ x : Int64, x = rs → okP (J0_999 s o c r dr nu mo sk so ek eo fn fa lp lk lv lf cm i w fc x) Q := by
    intro x hx
    subst hx
    unfold J0_999
    rw [if_neg n1, if_neg (by rw [i_lt, z0]; omega), if_neg (by rw [i_lt]; omega)]
    have j4 : okP (J0_1069 s o c r dr nu mo sk so ek eo fn fa lp lk lv lf cm i w x) Q := by
     unfold J0_1069
     rw [if_neg n1]
     refine okP.ite (fun f => ?_) (fun _ => nx)
     obtain ⟨_, q2, q3⟩ := R7 (by rw [f]; decide) (by rw [f]; decide)
     rw [if_neg (by rw [Int64.lt_iff_toInt_lt, y1]; omega), if_neg (by rw [Int64.lt_iff_toInt_lt, Int32.toInt_toInt64]; omega)]
     exact nx
    have j3 : okP (J0_1040 s o c r dr nu mo sk so ek eo fn fa lp lk lv lf cm i w fc x) Q := by
     unfold J0_1040
     rw [if_neg n1]
     refine okP.ite (fun f => ?_) (fun _ => j4)
     obtain ⟨_, q2, q3⟩ := R6 f
     rw [if_neg (by rw [Int64.lt_iff_toInt_lt, y0]; omega), if_neg (by rw [Int64.lt_iff_toInt_lt, Int32.toInt_toInt64]; omega)]
     exact j4
    unfold J0_1018
    rw [if_neg n1]
    refine okP.ite (fun f => ?_) (fun _ => j3)
    rw [if_pos (R5 f).2]
    exact j3
   by_cases nz : nl = 0
   ·simp only [if_pos nz, Option.bind_some]
    exact go rs rfl
   ·simp only [if_neg nz, Option.bind_some]
    exact go 0 (R4 nz).symm
 obtain ⟨_, hrows, rfl⟩ := rows
 have j902 : okP (J0_902 s o c r dr nu mo sk so ek eo fn fa lp lk lv lf cm i) (Po s c i) := by
  unfold J0_902
  rw [beyond.1, beyond.2.1, beyond.2.2.1, beyond.2.2.2]
  simp only [Option.bind_some, if_true, hrows]
  apply okP.some
  exact ⟨⟨by simp only; omega, by simp only; omega, M⟩, by simp only; omega⟩
 unfold J0_791 F4 F5
 rw [b9, cb, sp]
 simp only [Option.bind_some, if_true]
 rw [if_neg (by decide)]
 refine okP.ite (fun rp => ?_) (fun _ => j902)
 rw [i_lt, z0] at rp
 obtain ⟨t1, t2, t3, t4⟩ := m10 rp
 have rm : (r - 1).toInt = r.toInt - 1 := by rw [i_sub (by omega) (by omega), z1]
 obtain ⟨x, hx⟩ : ∃ x, x = r - 1 := ⟨_, rfl⟩
 rw [← hx] at rm ⊢
 rw [← rm] at t1 t2 t3 t4
 have x0 : ¬ x < 0 := by rw [i_lt, z0]; omega
 have x1 : x < r := by rw [i_lt]; omega
 have f0 : F8 o x 0 = some lp ∧ F8 o x 1 = some lk ∧ F8 o x 2 = some lv ∧ F8 o x 3 = some lf := by
  unfold F8
  rw [b9]
  simp only [if_neg x0, if_pos x1, g0 (x := x) (by omega) t1, g0 (x := x) (by omega) t2, g0 (x := x) (by omega) t3, g0 (x := x) (by omega) t4]
  simp +decide
 rw [f0.1, f0.2.1, f0.2.2.1, f0.2.2.2]
 simp only [Option.bind_some, if_true]
 exact j902
set_option maxHeartbeats 1000000 in
theorem turn {s : List Int32} {c r dr nu mo sk so ek eo fn fa lp lk lv lf cm i : Int32} {o : Ob} (hs : s.length ≤ 260) (hc : 8 ≤ c.toInt ∧ c.toInt ≤ 15) (M : Mt c r dr nu mo sk so ek eo fn fa lp lk lv lf cm o) (j1 : 1 ≤ i.toInt) (j2 : i.toInt ≤ 261) : okP (B0_85 s c (r, dr, nu, mo, sk, so, ek, eo, fn, fa, lp, lk, lv, lf, cm, i, o)) (Po s c i) := by
 have hl := len_i (n := s.length) (by omega)
 obtain ⟨B, ⟨r0, r1⟩, m1, m2, m3, m4, m5, m6, m7, m8, m9, m10, m11, m12⟩ := id M
 obtain ⟨b1, b2, b3, b4, b5, b6, b7, b8, b9, b10⟩ := id B
 have z0 : (0 : Int32).toInt = 0 := rfl
 have e1 : (1 : Int32).toInt = 1 := rfl
 have e2 : (2 : Int32).toInt = 2 := rfl
 have e3 : (3 : Int32).toInt = 3 := rfl
 have e4 : (4 : Int32).toInt = 4 := rfl
 have i1 : (i + 1).toInt = i.toInt + 1 := by rw [i_add (by omega) (by omega), e1]
 have i2 : (i + 2).toInt = i.toInt + 2 := by rw [i_add (by omega) (by omega), e2]
 have i3 : (i + 3).toInt = i.toInt + 3 := by rw [i_add (by omega) (by omega), e3]
 have i4 : (i + 4).toInt = i.toInt + 4 := by rw [i_add (by omega) (by omega), e4]
 unfold B0_85
 simp only
 apply okP.ite
 ·intro cc
  rw [i_lt, hl, i4] at cc
  have same : okP (J0_791 s o c r dr nu mo sk so ek eo fn fa lp lk lv lf cm i) (Po s c i) := chk hc M j1 (by omega)
  apply okP.bind
  refine okP.aget (by omega) (by omega) (fun w0 _ => ?_)
  apply okP.bind
  refine okP.aget (by omega) (by omega) (fun w1 _ => ?_)
  apply okP.bind
  refine okP.aget (by omega) (by omega) (fun w2 _ => ?_)
  apply okP.bind
  refine okP.aget (by omega) (by omega) (fun w3 _ => ?_)
  apply okP.bind
  refine okP.aget (by omega) (by omega) (fun w4 _ => ?_)
  have pa := (and_rng (x := w1) (m := 255) (by decide)).1
  have pb := (and_rng (x := w2) (m := 255) (by decide)).1
  have pd := (and_rng (x := w4) (m := 255) (by decide)).1
  obtain ⟨a, ha⟩ : ∃ a, a = w1 &&& 255 := ⟨_, rfl⟩
  obtain ⟨b, hb⟩ : ∃ a, a = w2 &&& 255 := ⟨_, rfl⟩
  obtain ⟨g, hg⟩ : ∃ a, a = w3 &&& 255 := ⟨_, rfl⟩
  obtain ⟨d, hd⟩ : ∃ a, a = w4 &&& 255 := ⟨_, rfl⟩
  rw [← ha] at pa
  rw [← hb] at pb
  rw [← hd] at pd
  simp only [← ha, ← hb, ← hg, ← hd]
  refine okP.ite (fun _ => ?_) (fun _ => ?_)
  ·refine okP.ite (fun _ => ?_) (fun _ => ?_)
   ·-- clear
    apply okP.bind
    unfold F15
    apply okP.some
    refine chk hc ⟨?_, ⟨by decide, by rw [z0]; omega⟩, ?_⟩ j1 (by omega)
    ·have := (clear_ok B)
     obtain ⟨_, e, q, _⟩ := this
     unfold F15 at e
     cases e
     exact q
    ·simp only [gs_aggRows, gs_aggCount, gs_aggSum, gs_aggMin, gs_aggMax, gs_direction, gs_nulls, gs_mode, gs_startKind, gs_startOff, gs_endKind, gs_endOff, gs_fn, gs_fnArg, gs_computed, gs_rows, gs_part, gs_keys, gs_vals, gs_flg]
     exact ⟨m1, m2, m3, m4, m5, m6, m7, m8, m9, fun q => absurd q (by decide), trivial, Or.inl (by simp only [gs_aggRows, gs_aggCount, gs_aggSum, gs_aggMin, gs_aggMax, gs_direction, gs_nulls, gs_mode, gs_startKind, gs_startOff, gs_endKind, gs_endOff, gs_fn, gs_fnArg, gs_computed, gs_rows, gs_part, gs_keys, gs_vals, gs_flg])⟩
   refine okP.ite (fun _ => ?_) (fun _ => ?_)
   ·-- order
    have k1 := and_rng (x := a) (m := 3) (by decide)
    have k2 := and_rng (x := b) (m := 1) (by decide)
    obtain ⟨u, hu⟩ : ∃ u, u = a &&& 3 := ⟨_, rfl⟩
    obtain ⟨v, hv⟩ : ∃ u, u = b &&& 1 := ⟨_, rfl⟩
    rw [← hu] at k1 ⊢
    rw [← hv] at k2 ⊢
    apply okP.bind
    unfold F31
    rw [if_neg (by rw [i_lt, z0]; omega)]
    by_cases bad : (2 : Int32) < u
    ·rw [if_pos bad]
     apply okP.some
     simp only [if_pos bad, if_true]
     exact same
    ·rw [if_neg bad, if_neg (by rw [i_lt, z0]; omega), if_neg (by rw [i_lt]; omega)]
     apply okP.some
     have n1 : ¬ (1 : Int32) = 0 := by decide
     simp only [if_neg bad, if_true, if_neg n1]
     refine chk hc ⟨Bs_computed (Bs_nulls (Bs_direction B)), ⟨r0, r1⟩, ?_⟩ j1 (by omega)
     simp only [gs_aggRows, gs_aggCount, gs_aggSum, gs_aggMin, gs_aggMax, gs_direction, gs_nulls, gs_mode, gs_startKind, gs_startOff, gs_endKind, gs_endOff, gs_fn, gs_fnArg, gs_computed, gs_rows, gs_part, gs_keys, gs_vals, gs_flg]
     exact ⟨trivial, trivial, m3, m4, m5, m6, m7, m8, m9, m10, trivial, Or.inl (by simp only [gs_aggRows, gs_aggCount, gs_aggSum, gs_aggMin, gs_aggMax, gs_direction, gs_nulls, gs_mode, gs_startKind, gs_startOff, gs_endKind, gs_endOff, gs_fn, gs_fnArg, gs_computed, gs_rows, gs_part, gs_keys, gs_vals, gs_flg])⟩
   refine okP.ite (fun _ => ?_) (fun _ => ?_)
   ·-- mode
    have k1 := mod_rng (x := a) (m := 3) pa (by decide)
    obtain ⟨u, hu⟩ : ∃ u, u = a % 3 := ⟨_, rfl⟩
    rw [← hu] at k1 ⊢
    apply okP.bind
    unfold F30 J0_409
    rw [if_neg (by rw [i_lt, z0]; omega)]
    by_cases bad : (1 : Int32) < u
    ·rw [if_pos bad]
     apply okP.some
     simp only [if_pos bad, if_true]
     exact same
    ·rw [if_neg bad]
     apply okP.some
     have n1 : ¬ (1 : Int32) = 0 := by decide
     simp only [if_neg bad, if_true, if_neg n1]
     refine chk hc ⟨Bs_computed (Bs_mode B), ⟨r0, r1⟩, ?_⟩ j1 (by omega)
     simp only [gs_aggRows, gs_aggCount, gs_aggSum, gs_aggMin, gs_aggMax, gs_direction, gs_nulls, gs_mode, gs_startKind, gs_startOff, gs_endKind, gs_endOff, gs_fn, gs_fnArg, gs_computed, gs_rows, gs_part, gs_keys, gs_vals, gs_flg]
     exact ⟨m1, m2, trivial, m4, m5, m6, m7, m8, m9, m10, trivial, Or.inl (by simp only [gs_aggRows, gs_aggCount, gs_aggSum, gs_aggMin, gs_aggMax, gs_direction, gs_nulls, gs_mode, gs_startKind, gs_startOff, gs_endKind, gs_endOff, gs_fn, gs_fnArg, gs_computed, gs_rows, gs_part, gs_keys, gs_vals, gs_flg])⟩
   have k1 := mod_rng (x := a) (m := 5) pa (by decide)
   refine okP.ite (fun t => ?_) (fun _ => ?_)
   ·-- start
    rw [t]
    unfold J0_426
    rw [if_pos rfl]
    obtain ⟨u, hu⟩ : ∃ u, u = a % 5 := ⟨_, rfl⟩
    obtain ⟨v, hv⟩ : ∃ u, u = (b &&& 7) - 1 := ⟨_, rfl⟩
    rw [← hu] at k1 ⊢
    rw [← hv]
    apply okP.bind
    unfold F16 J16_37 J0_529
    rw [if_neg (by rw [i_lt, z0]; omega)]
    have n1 : ¬ (1 : Int32) = 0 := by decide
    have n2 : ¬ (10 : Int32) = 11 := by decide
    by_cases bad : (3 : Int32) < u
    ·rw [if_pos bad]
     apply okP.some
     simp only [if_pos bad, if_true]
     exact same
    ·rw [if_neg bad]
     have good : okP (some ((1 : Int32), s_computed (s_startOff (s_startKind o u) (if (if u = 1 then (1 : Int32) else if u = 3 then 1 else 0) = 0 then 0 else v)) 0)) (fun x => okP (J0_791 s x.2 c r dr nu mo u (if (if u = 1 then (1 : Int32) else if u = 3 then 1 else 0) = 0 then 0 else v) ek eo fn fa lp lk lv lf 0 i) (Po s c i) ∧ x.1 = 1) := by
      refine okP.some ⟨chk hc ⟨Bs_computed (Bs_startOff (Bs_startKind B)), ⟨r0, r1⟩, ?_⟩ j1 (by omega), rfl⟩
      simp only [gs_aggRows, gs_aggCount, gs_aggSum, gs_aggMin, gs_aggMax, gs_direction, gs_nulls, gs_mode, gs_startKind, gs_startOff, gs_endKind, gs_endOff, gs_fn, gs_fnArg, gs_computed, gs_rows, gs_part, gs_keys, gs_vals, gs_flg]
      exact ⟨m1, m2, m3, trivial, trivial, m6, m7, m8, m9, m10, trivial, Or.inl (by simp only [gs_aggRows, gs_aggCount, gs_aggSum, gs_aggMin, gs_aggMax, gs_direction, gs_nulls, gs_mode, gs_startKind, gs_startOff, gs_endKind, gs_endOff, gs_fn, gs_fnArg, gs_computed, gs_rows, gs_part, gs_keys, gs_vals, gs_flg])⟩
     obtain ⟨_, e, g1, g2⟩ := good
     cases e
     simp only at g1
     by_cases k : (if u = 1 then (1 : Int32) else if u = 3 then 1 else 0) = 0
     ·rw [if_pos k]
      apply okP.some
      simp only [if_neg bad, if_true, if_pos k, if_neg n1, if_neg n2] at g1 ⊢
      exact g1
     ·rw [if_neg k]
      by_cases neg : v < 0
      ·rw [if_pos neg]
       apply okP.some
       simp only [if_neg bad, if_true, if_neg k, if_pos neg]
       exact same
      ·rw [if_neg neg]
       apply okP.some
       simp only [if_neg bad, if_true, if_neg k, if_neg neg, if_neg n1, if_neg n2] at g1 ⊢
       exact g1
   refine okP.ite (fun t => ?_) (fun _ => ?_)
   ·-- end
    rw [t]
    unfold J0_426
    have n3 : ¬ (11 : Int32) = 10 := by decide
    rw [if_neg n3]
    obtain ⟨u, hu⟩ : ∃ u, u = a % 5 := ⟨_, rfl⟩
    obtain ⟨v, hv⟩ : ∃ u, u = (b &&& 7) - 1 := ⟨_, rfl⟩
    rw [← hu] at k1 ⊢
    rw [← hv]
    apply okP.bind
    unfold F29 J29_38 J0_529
    have n1 : ¬ (1 : Int32) = 0 := by decide
    by_cases bad : u < 1
    ·rw [if_pos bad]
     apply okP.some
     simp only [if_pos bad, if_true, if_neg n3]
     exact same
    ·have e5 : (5 : Int32).toInt = 5 := rfl
     rw [if_neg bad, if_neg (by rw [i_lt, e4]; omega)]
     have good : okP (some ((1 : Int32), s_computed (s_endOff (s_endKind o u) (if (if u = 1 then (1 : Int32) else if u = 3 then 1 else 0) = 0 then 0 else v)) 0)) (fun x => okP (J0_791 s x.2 c r dr nu mo sk so u (if (if u = 1 then (1 : Int32) else if u = 3 then 1 else 0) = 0 then 0 else v) fn fa lp lk lv lf 0 i) (Po s c i) ∧ x.1 = 1) := by
      refine okP.some ⟨chk hc ⟨Bs_computed (Bs_endOff (Bs_endKind B)), ⟨r0, r1⟩, ?_⟩ j1 (by omega), rfl⟩
      simp only [gs_aggRows, gs_aggCount, gs_aggSum, gs_aggMin, gs_aggMax, gs_direction, gs_nulls, gs_mode, gs_startKind, gs_startOff, gs_endKind, gs_endOff, gs_fn, gs_fnArg, gs_computed, gs_rows, gs_part, gs_keys, gs_vals, gs_flg]
      exact ⟨m1, m2, m3, m4, m5, trivial, trivial, m8, m9, m10, trivial, Or.inl (by simp only [gs_aggRows, gs_aggCount, gs_aggSum, gs_aggMin, gs_aggMax, gs_direction, gs_nulls, gs_mode, gs_startKind, gs_startOff, gs_endKind, gs_endOff, gs_fn, gs_fnArg, gs_computed, gs_rows, gs_part, gs_keys, gs_vals, gs_flg])⟩
     obtain ⟨_, e, g1, g2⟩ := good
     cases e
     simp only at g1
     by_cases k : (if u = 1 then (1 : Int32) else if u = 3 then 1 else 0) = 0
     ·rw [if_pos k]
      apply okP.some
      simp only [if_neg bad, if_true, if_pos k, if_neg n1, if_neg n3] at g1 ⊢
      exact g1
     ·rw [if_neg k]
      by_cases neg : v < 0
      ·rw [if_pos neg]
       apply okP.some
       simp only [if_neg bad, if_true, if_neg k, if_pos neg, if_neg n3]
       exact same
      ·rw [if_neg neg]
       apply okP.some
       simp only [if_neg bad, if_true, if_neg k, if_neg neg, if_neg n1, if_neg n3] at g1 ⊢
       exact g1
   refine okP.ite (fun t => ?_) (fun _ => ?_)
   ·-- function
    have k1 := mod_rng (x := a) (m := 11) pa (by decide)
    obtain ⟨u, hu⟩ : ∃ u, u = a % 11 := ⟨_, rfl⟩
    obtain ⟨v, hv⟩ : ∃ u, u = (b &&& 7) - 1 := ⟨_, rfl⟩
    rw [← hu] at k1 ⊢
    rw [← hv]
    apply okP.bind
    unfold F12 J12_40
    rw [if_neg (by rw [i_lt, z0]; omega)]
    have n1 : ¬ (1 : Int32) = 0 := by decide
    by_cases bad : (9 : Int32) < u
    ·rw [if_pos bad]
     apply okP.some
     simp only [if_pos bad, if_true]
     exact same
    ·rw [if_neg bad]
     have good : okP (some ((1 : Int32), s_computed (s_fnArg (s_fn o u) (if (if u = 8 then (1 : Int32) else if u = 9 then 1 else 0) = 0 then 0 else v)) 0)) (fun x => okP (J0_791 s x.2 c r dr nu mo sk so ek eo u (if (if u = 8 then (1 : Int32) else if u = 9 then 1 else 0) = 0 then 0 else v) lp lk lv lf 0 i) (Po s c i) ∧ x.1 = 1) := by
      refine okP.some ⟨chk hc ⟨Bs_computed (Bs_fnArg (Bs_fn B)), ⟨r0, r1⟩, ?_⟩ j1 (by omega), rfl⟩
      simp only [gs_aggRows, gs_aggCount, gs_aggSum, gs_aggMin, gs_aggMax, gs_direction, gs_nulls, gs_mode, gs_startKind, gs_startOff, gs_endKind, gs_endOff, gs_fn, gs_fnArg, gs_computed, gs_rows, gs_part, gs_keys, gs_vals, gs_flg]
      exact ⟨m1, m2, m3, m4, m5, m6, m7, trivial, trivial, m10, trivial, Or.inl (by simp only [gs_aggRows, gs_aggCount, gs_aggSum, gs_aggMin, gs_aggMax, gs_direction, gs_nulls, gs_mode, gs_startKind, gs_startOff, gs_endKind, gs_endOff, gs_fn, gs_fnArg, gs_computed, gs_rows, gs_part, gs_keys, gs_vals, gs_flg])⟩
     obtain ⟨_, e, g1, g2⟩ := good
     cases e
     simp only at g1
     by_cases k : (if u = 8 then (1 : Int32) else if u = 9 then 1 else 0) = 0
     ·rw [if_pos k]
      apply okP.some
      simp only [if_neg bad, if_true, if_pos k, if_neg n1] at g1 ⊢
      exact g1
     ·rw [if_neg k]
      by_cases neg : v < 0
      ·rw [if_pos neg]
       apply okP.some
       simp only [if_neg bad, if_true, if_neg k, if_pos neg]
       exact same
      ·rw [if_neg neg]
       apply okP.some
       simp only [if_neg bad, if_true, if_neg k, if_neg neg, if_neg n1] at g1 ⊢
       exact g1
   ·-- compute
    obtain ⟨N, hN⟩ : ∃ N, N = (if mo = 1 then (if dr = 0 then (if sk = 1 then (1 : Int32) else if sk = 3 then 1 else if ek = 1 then 1 else if ek = 3 then 1 else 0) else 0) else 0) := ⟨_, rfl⟩
    rw [← hN]
    have no : ∃ x, F14 o = some x ∧ (x = 0 ↔ N = 0) := by
     unfold F14
     rw [m1, m3, m4, m6, hN]
     repeat' split
     all_goals first | exact ⟨_, rfl, by decide⟩ | (refine ⟨_, rfl, ?_⟩; simp_all)
    obtain ⟨x, hx, hxN⟩ := no
    have cp := Bs_comp B r0 (by omega)
    by_cases nz : N = 0
    ·have x0 : x = 0 := hxN.mpr nz
     obtain ⟨q, hq, hq'⟩ := cp
     have q0 : q.1 = 0 ∧ Bs r c q.2 ∧ f_computed q.2 = 1 ∧ tpl q.2 = tpl o ∧ Cm q.2 := by
      rcases hq' with rfl | h
      ·exfalso
       unfold F13 at hq
       rw [hx, x0] at hq
       simp only [Option.bind_some, if_true] at hq
       obtain ⟨e, he, h2⟩ := Option.bind_eq_some_iff.mp hq
       have : okP (loopN (B13_11) qN (0, o)) (fun e => e.1 = 0) := by
        refine ⟨e, he, ?_⟩
        have inv : ∀ (n : Nat) (v : Int32 × Ob) (e : Int32 × Ob), loopN (B13_11) n v = some e → e.1 = 0 := by
         intro n
         induction n with
         | zero => intro v e h; cases h
         | succ n ih =>
          intro v e h
          simp only [loopN] at h
          split at h
          ·cases h
          ·rename_i e' he
           cases h
           unfold B13_11 at he
           split at he
           ·obtain ⟨_, _, h3⟩ := Option.bind_eq_some_iff.mp he
            cases h3
           ·cases he; rfl
          ·exact ih _ _ h
        exact inv _ _ _ he
       have t := this.not he
       cases h2
       revert t
       show (-1 : Int32) = 0 → False
       decide
      ·exact h
     apply okP.bind
     refine okP.of hq ?_
     obtain ⟨q1, q2, q3, q4, q5⟩ := q0
     simp only [q1, nz, if_true]
     refine chk hc ⟨q2, ⟨r0, r1⟩, ?_⟩ j1 (by omega)
     have t : ∀ {β : Type} (f : CC → β), f (tpl q.2) = f (tpl o) := fun f => by rw [q4]
     refine ⟨?_, ?_, ?_, ?_, ?_, ?_, ?_, ?_, ?_, ?_, q3, q5⟩
     ·rw [← m1]; exact t (fun x => x.2.2.2.2.2.2.1)
     ·rw [← m2]; exact t (fun x => x.2.2.2.2.2.2.2.1)
     ·rw [← m3]; exact t (fun x => x.2.2.2.2.2.2.2.2.1)
     ·rw [← m4]; exact t (fun x => x.2.2.2.2.2.2.2.2.2.1)
     ·rw [← m5]; exact t (fun x => x.2.2.2.2.2.2.2.2.2.2.1)
     ·rw [← m6]; exact t (fun x => x.2.2.2.2.2.2.2.2.2.2.2.1)
     ·rw [← m7]; exact t (fun x => x.2.2.2.2.2.2.2.2.2.2.2.2.1)
     ·rw [← m8]; exact t (fun x => x.2.2.2.2.2.2.2.2.2.2.2.2.2.1)
     ·rw [← m9]; exact t (fun x => x.2.2.2.2.2.2.2.2.2.2.2.2.2.2)
     ·rw [show f_part q.2 = f_part o from t (fun x => x.1), show f_keys q.2 = f_keys o from t (fun x => x.2.1), show f_vals q.2 = f_vals o from t (fun x => x.2.2.1), show f_flg q.2 = f_flg o from t (fun x => x.2.2.2.1)]
      exact m10
    ·have hq : F13 o = some (-1, o) := by
      unfold F13
      rw [hx]
      simp only [Option.bind_some]
      rw [if_neg (fun q => nz (hxN.mp q))]
     rw [hq]
     simp only [Option.bind_some, if_neg nz, if_true]
     exact same
  ·-- a row
   have k1 := mod_rng (x := d) (m := 5) pd (by decide)
   obtain ⟨f, hf⟩ : ∃ u, u = d % 5 := ⟨_, rfl⟩
   obtain ⟨u, hu⟩ : ∃ u, u = a &&& 3 := ⟨_, rfl⟩
   obtain ⟨v, hv⟩ : ∃ u, u = (b &&& 7) - 3 := ⟨_, rfl⟩
   obtain ⟨x, hx⟩ : ∃ u, u = g - 100 := ⟨_, rfl⟩
   rw [← hf] at k1 ⊢
   rw [← hu, ← hv, ← hx]
   unfold J0_208 J0_271
   apply okP.bind
   unfold F3
   rw [if_neg (by rw [i_lt, z0]; omega), b9, b10]
   by_cases bad : (3 : Int32) < f
   ·rw [if_pos bad]
    apply okP.some
    simp only [if_pos bad, if_true]
    exact same
   rw [if_neg bad]
   by_cases full : r = c
   ·rw [if_neg (by rw [full, i_lt]; omega)]
    apply okP.some
    simp only [if_neg bad, if_pos full, if_true]
    exact same
   ·have lt : r.toInt < c.toInt := by
     have : r.toInt ≠ c.toInt := fun e => full (by rw [i_eq]; exact e)
     omega
    rw [if_pos (by rw [i_lt]; exact lt)]
    apply okP.bind
    refine okP.aset r0 (by omega) ?_
    apply okP.bind
    refine okP.aset r0 (by omega) ?_
    apply okP.bind
    refine okP.aset r0 (by omega) ?_
    apply okP.bind
    refine okP.aset r0 (by omega) ?_
    apply okP.some
    simp only [if_neg bad, if_neg full, if_true]
    have ri : (r + 1).toInt = r.toInt + 1 := inc1 (by omega)
    obtain ⟨m, hm⟩ : ∃ m, m = r + 1 := ⟨_, rfl⟩
    rw [← hm] at ri ⊢
    refine chk hc ⟨?_, ⟨by omega, by omega⟩, ?_⟩ j1 (by omega)
    ·dsimp only [Bs, f_part, f_keys, f_vals, f_flg, f_res, f_resNull, f_frameCnt, f_sorted, f_cap, f_rows, f_direction, f_nulls, f_mode, f_startKind, f_startOff, f_endKind, f_endOff, f_fn, f_fnArg, f_computed, f_sortedLen, f_curPos, f_aggSum, f_aggCount, f_aggRows, f_aggMin, f_aggMax, s_computed, s_rows, s_flg, s_vals, s_keys, s_part] at B ⊢
     simp only [List.length_set]
     exact ⟨B.1, B.2.1, B.2.2.1, B.2.2.2.1, B.2.2.2.2.1, B.2.2.2.2.2.1, B.2.2.2.2.2.2.1, B.2.2.2.2.2.2.2.1, trivial, B.2.2.2.2.2.2.2.2.2⟩
    ·simp only [gs_aggRows, gs_aggCount, gs_aggSum, gs_aggMin, gs_aggMax, gs_direction, gs_nulls, gs_mode, gs_startKind, gs_startOff, gs_endKind, gs_endOff, gs_fn, gs_fnArg, gs_computed, gs_rows, gs_part, gs_keys, gs_vals, gs_flg]
     refine ⟨m1, m2, m3, m4, m5, m6, m7, m8, m9, fun _ => ?_, trivial, Or.inl (by simp only [gs_aggRows, gs_aggCount, gs_aggSum, gs_aggMin, gs_aggMax, gs_direction, gs_nulls, gs_mode, gs_startKind, gs_startOff, gs_endKind, gs_endOff, gs_fn, gs_fnArg, gs_computed, gs_rows, gs_part, gs_keys, gs_vals, gs_flg])⟩
     have em : (m.toInt - 1).toNat = r.toInt.toNat := by omega
     rw [em]
     refine ⟨List.getElem?_set_self (by omega), List.getElem?_set_self (by omega), List.getElem?_set_self (by omega), List.getElem?_set_self (by omega)⟩
 ·intro _
  apply okP.some
  refine ⟨rfl, by show 10 - 1 ≤ _; decide, ?_⟩
  simp only [H0, qhs, qsz, b1, b2, b3, b4, b5, b6, b7, b8]
  simp only [cN, room_1]
  omega
theorem init2 {x c : Int32} (hx : 0 ≤ x.toInt ∧ x.toInt ≤ 15) (hc : c = (if x < 8 then 8 else x)) : okP (F1 x) (fun o => Mt c 0 1 1 1 0 0 2 0 0 0 0 0 0 0 0 o) := by
 have z8 : (8 : Int32).toInt = 8 := rfl
 have z32 : (32 : Int32).toInt = 32 := rfl
 unfold F1 F2
 rw [← hc]
 have cr : c.toInt ≤ 15 ∧ 8 ≤ c.toInt := by
  rw [hc]
  by_cases q : x < 8
  ·rw [if_pos q]; decide
  ·rw [if_neg q]; rw [i_lt, z8] at q; omega
 rw [if_neg (by rw [i_lt, z32]; omega)]
 apply okP.bind
 apply okP.some
 apply okP.some
 refine ⟨?_, ⟨by decide, by show (0 : Int) ≤ _; omega⟩, ?_⟩
 ·dsimp only [Bs, f_part, f_keys, f_vals, f_flg, f_res, f_resNull, f_frameCnt, f_sorted, f_cap, f_rows, f_direction, f_nulls, f_mode, f_startKind, f_startOff, f_endKind, f_endOff, f_fn, f_fnArg, f_computed, f_sortedLen, f_curPos, f_aggSum, f_aggCount, f_aggRows, f_aggMin, f_aggMax, s_part, s_keys, s_vals, s_flg, s_res, s_resNull, s_frameCnt, s_sorted, s_cap, s_rows, s_direction, s_nulls, s_mode, s_startKind, s_startOff, s_endKind, s_endOff, s_fn, s_fnArg, s_computed, s_sortedLen, s_curPos, s_aggSum, s_aggCount, s_aggRows, s_aggMin, s_aggMax]
  refine ⟨?_, ?_, ?_, ?_, ?_, ?_, ?_, ?_, ?_⟩ <;> first | exact List.length_replicate | exact ⟨trivial, trivial⟩ | exact ⟨rfl, rfl⟩ | trivial
 ·simp only [gs_aggRows, gs_aggCount, gs_aggSum, gs_aggMin, gs_aggMax, gs_direction, gs_nulls, gs_mode, gs_startKind, gs_startOff, gs_endKind, gs_endOff, gs_fn, gs_fnArg, gs_computed, gs_rows, gs_part, gs_keys, gs_vals, gs_flg]
  exact ⟨trivial, trivial, trivial, trivial, trivial, trivial, trivial, trivial, trivial, fun q => absurd q (by decide), trivial, Or.inl (by simp only [gs_aggRows, gs_aggCount, gs_aggSum, gs_aggMin, gs_aggMax, gs_direction, gs_nulls, gs_mode, gs_startKind, gs_startOff, gs_endKind, gs_endOff, gs_fn, gs_fnArg, gs_computed, gs_rows, gs_part, gs_keys, gs_vals, gs_flg])⟩
theorem law_ok (s : List Int32) (hs : s.length ≤ 260) : ∃ τ, F0 s = some (1, τ) ∧ τ.length - List.length ([Sum.inr (Sum.inl (FieldType.int, s))] : QHeap) ≤ room_1.cells ∧ qhs τ - qhs [Sum.inr (Sum.inl (FieldType.int, s))] ≤ room_1.slots := by
 have hl := len_i (n := s.length) (by omega)
 have z8 : (8 : Int32).toInt = 8 := rfl
 have main : ∀ x : Int32, 0 ≤ x.toInt ∧ x.toInt ≤ 15 → okP (J0_15 s x) (fun e => e.1 = 1 ∧ sFit s e.2) := by
  intro x hx
  unfold J0_15
  obtain ⟨c, hc⟩ : ∃ c, c = (if x < 8 then 8 else x) := ⟨_, rfl⟩
  rw [← hc]
  have cr : 8 ≤ c.toInt ∧ c.toInt ≤ 15 := by
   rw [hc]
   by_cases q : x < 8
   ·rw [if_pos q]; decide
   ·rw [if_neg q]; rw [i_lt, z8] at q; omega
  apply okP.bind
  refine okP.mono (init2 hx hc) (fun o hM => ?_)
  apply okP.bind
  refine okP.mono (P := fun e => e.1 = 1 ∧ sFit s e.2) ?_ (fun e he => okP.some he)
  refine okP.loop (fun v' : QT => 1 ≤ v'.2.2.2.2.2.2.2.2.2.2.2.2.2.2.2.1.toInt ∧ v'.2.2.2.2.2.2.2.2.2.2.2.2.2.2.2.1.toInt ≤ 261 ∧ Mt c v'.1 v'.2.1 v'.2.2.1 v'.2.2.2.1 v'.2.2.2.2.1 v'.2.2.2.2.2.1 v'.2.2.2.2.2.2.1 v'.2.2.2.2.2.2.2.1 v'.2.2.2.2.2.2.2.2.1 v'.2.2.2.2.2.2.2.2.2.1 v'.2.2.2.2.2.2.2.2.2.2.1 v'.2.2.2.2.2.2.2.2.2.2.2.1 v'.2.2.2.2.2.2.2.2.2.2.2.2.1 v'.2.2.2.2.2.2.2.2.2.2.2.2.2.1 v'.2.2.2.2.2.2.2.2.2.2.2.2.2.2.1 v'.2.2.2.2.2.2.2.2.2.2.2.2.2.2.2.2) (fun v' => (265 - v'.2.2.2.2.2.2.2.2.2.2.2.2.2.2.2.1.toInt).toNat) ⟨by show (1 : Int) ≤ 1; decide, by show (1 : Int) ≤ 261; decide, hM⟩ (by show (265 - (1 : Int)).toNat < 4000; decide) ?_
  rintro ⟨r, dr, nu, mo, sk, so, ek, eo, fn, fa, lp, lk, lv, lf, cm, i, o⟩ ⟨h1, h2, h3⟩
  exact turn hs cr h3 h1 h2
 have : okP (F0 s) (fun e => e.1 = 1 ∧ sFit s e.2) := by
  unfold F0
  refine okP.ite (fun q => ?_) (fun _ => main 8 (by decide))
  rw [i_lt, hl] at q
  have z0 : (0 : Int32).toInt = 0 := rfl
  apply okP.bind
  refine okP.aget (by decide) (by omega) (fun y _ => ?_)
  have k := and_rng (x := y) (m := 15) (by decide)
  exact main _ k
 obtain ⟨⟨r, τ⟩, q1, q2, q3⟩ := this
 simp only at q2
 subst q2
 exact ⟨τ, q1, q3⟩
set_option maxRecDepth 65536 in
theorem comes_1 {Post : Tables → Env → Array Value → State → Outcome → State → Prop} (hpost : ∀ tb e args s v u, (limb_1_1.after args s (.returned v) u = true ∧ limb_1_2.after args s (.returned v) u = true ∧ True) → FrameEnd s (.returned v) u (Jvm.fieldLocs frame_1_writes args s ++ Jvm.arrayLocs frame_1_arrays args s ++ Jvm.staticLocs frame_1_statics s) 32 640 → Post tb e args s (.returned v) u) :
    ArmFor flags0 classFile x code maxLocals ret World_1 tables_1 room_1 Calls_1 rest_1 Pre_1 Post := by
  intro l hfl _ _ p e ha hc hk s m args below hf hA hF happ hP
  obtain ⟨hcalls, hrest, hpre⟩ := hP
  obtain ⟨-, -, -, hnamed, -, -, -, hat⟩ := (Spec.applies_iff hf).mp happ
  obtain ⟨hg, hn⟩ := and_e (Cond.before_iff.mp (show (Jvm.Cond.and given_1 narrow_1).before args s = true from hpre))
  obtain ⟨g0, g1⟩ := and_e hg
  obtain ⟨w0, rfl⟩ : ∃ w0 : Value, args = #[w0] := by
    have hs : args.size = 1 := by simpa [Cond.value, given_1] using g0
    obtain ⟨L⟩ := args
    match L, hs with
    | [w0], _ => exact ⟨w0, rfl⟩
  have hw := fun d (hd : d ∈ tables_1) => atoms_spec (ws := Jvm.Cond.code x code maxLocals ret :: tables_1) hat d (List.mem_cons_of_mem _ hd)
  have hfit : Fit s := fun {y c} hc i hi => by
    obtain ⟨ha, rfl⟩ := Array.getElem?_eq_some_iff.mp hc
    have q := List.all_eq_true.mp ((Array.all_eq_true_iff_forall_mem.mp hF) _ (Array.getElem_mem ha)) i (List.mem_range.mpr hi)
    simpa [Array.getElem?_eq_getElem hi] using q
  obtain ⟨n1, n2⟩ := and_e hn
  obtain ⟨a, cl, xs, rfl, hA1, hA2, hlen⟩ := script_ok hfit n1 n2
  obtain ⟨τ, hF0, hc1, hs1⟩ := law_ok xs hlen
  have hlt := hA1.lt
  have Ad : QAd s.heap.size (fun k => match k with | 0 => a | k + 1 => s.heap.size + k) := ⟨fun k hk => by cases k with | zero => exact absurd hk (by decide) | succ k => rfl, fun i j h => by
    cases i with
    | zero => cases j with
      | zero => rfl
      | succ j => have h' : a = s.heap.size + j := h; exact absurd hA1.lt (by rw [h']; exact Nat.not_lt.mpr (Nat.le_add_right _ _))
    | succ i => cases j with
      | zero => have h' : s.heap.size + i = a := h; exact absurd hA1.lt (by rw [← h']; exact Nat.not_lt.mpr (Nat.le_add_right _ _))
      | succ j => have h' : s.heap.size + i = s.heap.size + j := h; omega⟩
  have hR : QRep s s.heap.size (fun k => match k with | 0 => a | k + 1 => s.heap.size + k) s.heap [.inr (.inl (.int, xs))] := ⟨Nat.le_refl _, rfl, fun k c h => by
    cases k with
    | zero => cases h; exact ⟨cl, hA1, hA2⟩
    | succ k => cases h⟩
  have T := tF0 (l := l) (Z := s) Ad (QW_ok hw) xs hF0
  have M := QTri.met (k := 0) (as := [.ref 0]) (by decide) T hR (Nat.le_of_ble_eq_true rfl) (fun q => by cases q) tables_1 (rm := room_1) (by decide) (by decide) hc1 hs1
  obtain ⟨n, o, h1, h2, h3, _, L, rfl, ⟨rfl, R', N⟩, hq⟩ := M p e ha hc hk s m _ below hf ((Spec.applies_iff_loose hf).mp happ).1 ⟨rfl, State.Warmed39.refl s, rfl⟩ trivial
  refine ⟨n, _, h1, h2, h3, hpost _ _ _ _ _ _ ⟨Cond.after_iff.mpr rfl, Cond.after_iff.mpr (eq_i res_at (Term.int_eval (1)) rfl), trivial⟩ ⟨hq.1, hq.2.1, (hq.2.2.sift fun y hy => Or.inr (N y hy)).mono hc1 hs1⟩⟩
theorem main_1_1 : Claimed_1_1 := comes_1 fun _ _ _ _ _ _ h hF => ⟨h.1, hF⟩
theorem main_1_2 : Claimed_1_2 := comes_1 fun _ _ _ _ _ _ h hF => ⟨h.2.1, hF⟩
end Jvm.Pilot.@@N@@
namespace Jvm.Pilot.@@N@@
open Jvm Jvm.ClassFile Sem Op Lib Jvm.Free Jvm.Stand Jvm.Pilot.@@N@@.Jvm.D
/-! MADE BY PROGRAM (witnessworld.py) out of the Statement's table words and the real class files: 13 classes; the members and pool entries that the words name. The judged class is class 1, her method 1. -/
namespace start1
open Jvm.ClassFile
def u (s : String) : CpInfo := .utf8 (stringToUtf16 s)
/-- a pool by its gaps: so many unusable entries, then the entry; so many at the end -/
def gap : Nat → List CpInfo → List CpInfo
  | 0, r => r
  | n + 1, r => .unusable :: gap n r
def poolList (es : List (Nat × CpInfo)) (last : Nat) : List CpInfo := es.foldr (fun e r => gap e.1 (e.2 :: r)) (gap last [])
def pool (es : List (Nat × CpInfo)) (last : Nat) : Array CpInfo := ⟨poolList es last⟩
def fileOf (pool : Array CpInfo) (this : Nat) (attrs : Array Attribute := #[]) (ms : Array MethodInfo := #[]) (fl : Nat := 33) (sup : Nat := 0) (ifs : Array Nat := #[]) (fds : Array FieldInfo := #[]) : ClassFile where
  minorVersion := 0
  majorVersion := 65
  constantPool := pool
  accessFlags := fl
  thisClass := this
  superClass := sup
  interfaces := ifs
  fields := fds
  methods := ms
  attributes := attrs
def plain (name : String) (sup : Option ClassId) : Class where
  name := name
  kind := .ordinary
  loader := none
  accessFlags := 33
  super := sup
  interfaces := #[]
  cf := none
  fields := #[]
  methods := #[]
  instanceTypes := #[]
  staticTypes := #[]
  resolved := #[]
  callSites := []
  init := .initialized
  statics := none
  mirror := none

def pool0 : Array CpInfo := pool [(5, u "<init>"), (0, u "()V"), (1, .class_ 10), (1, u "java/lang/Object")] 113

def k0c0 : Code := { maxStack := 0, maxLocals := 1, code := object_method_1_code, exceptionTable := #[], attributes := #[] }
def k0m0 : Method := { name := "<init>", desc := "()V", sig := { parameters := [], returnType := none }, accessFlags := 1, code := some k0c0 }
/-- java/lang/Object -/
def k0 : Class := { plain "java/lang/Object" none with
  accessFlags := 33
  interfaces := #[]
  cf := some (fileOf pool0 8 #[] #[{ accessFlags := 1, nameIndex := 5, descriptorIndex := 6, attributes := #[] }] 33 0 #[] #[])
  fields := #[]
  methods := #[k0m0]
  instanceTypes := #[]
  staticTypes := #[]
  resolved := Array.replicate 124 none
  statics := none }

def pool1 : Array CpInfo := pool [(2, .class_ 4), (1, u "java/lang/Object"), (0, u "<init>"), (0, u "()V"), (0, .class_ 8), (0, u "WindowFuncEngine"), (0, .methodref 7 10), (0, .nameAndType 5 11), (0, u "(I)V"), (0, .methodref 7 13), (0, .nameAndType 14 15), (0, u "addRow"), (0, u "(IIII)I"), (0, .methodref 7 17), (0, .nameAndType 18 6), (0, u "clear"), (0, .methodref 7 20), (0, .nameAndType 21 22), (0, u "setOrder"), (0, u "(II)Z"), (0, .methodref 7 24), (0, .nameAndType 25 26), (0, u "setFrameMode"), (0, u "(I)Z"), (0, .methodref 7 28), (0, .nameAndType 29 22), (0, u "setFrameStart"), (0, .methodref 7 31), (0, .nameAndType 32 22), (0, u "setFrameEnd"), (0, .methodref 7 34), (0, .nameAndType 35 22), (0, u "setFunction"), (0, .methodref 7 37), (0, .nameAndType 38 39), (0, u "compute"), (0, u "()I"), (0, .methodref 7 41), (0, .nameAndType 42 39), (0, u "rowCount"), (0, .methodref 7 44), (0, .nameAndType 45 46), (0, u "isComputed"), (0, u "()Z"), (0, .methodref 48 49), (0, .class_ 50), (0, .nameAndType 51 52), (0, u "WindowFuncEngineL6"), (0, u "spec"), (0, u "(LWindowFuncEngine;IIIIIIIIII)Z"), (0, .methodref 7 54), (0, .nameAndType 55 56), (0, u "getRowField"), (0, u "(II)I"), (0, .methodref 7 58), (0, .nameAndType 59 60), (0, u "getFrameCount"), (0, u "(I)I"), (0, .methodref 7 62), (0, .nameAndType 63 64), (0, u "getResult"), (0, u "(I)J"), (0, .methodref 7 66), (0, .nameAndType 67 26), (0, u "isResultNull"), (0, .methodref 7 69), (0, .nameAndType 70 60), (0, u "getSpec"), (2, u "law"), (0, u "([I)Z")] 5

def k1m0 : Method := { name := "<init>", desc := "()V", sig := { parameters := [], returnType := none }, accessFlags := 1, code := none }
def k1c1 : Code := { maxStack := 11, maxLocals := 30, code := code, exceptionTable := #[], attributes := #[] }
def k1m1 : Method := { name := "law", desc := "([I)Z", sig := { parameters := [(.array .int)], returnType := some .boolean }, accessFlags := 9, code := some k1c1 }
def k1c2 : Code := { maxStack := 2, maxLocals := 11, code := method_3_code, exceptionTable := #[], attributes := #[] }
def k1m2 : Method := { name := "spec", desc := "(LWindowFuncEngine;IIIIIIIIII)Z", sig := { parameters := [(.object "WindowFuncEngine"), .int, .int, .int, .int, .int, .int, .int, .int, .int, .int], returnType := some .boolean }, accessFlags := 10, code := some k1c2 }
/-- WindowFuncEngineL6 -/
def k1 : Class := { plain "WindowFuncEngineL6" (some 0) with
  accessFlags := 49
  interfaces := #[]
  cf := some (fileOf pool1 48 #[] #[{ accessFlags := 1, nameIndex := 5, descriptorIndex := 6, attributes := #[] }, { accessFlags := 9, nameIndex := 73, descriptorIndex := 74, attributes := #[] }, { accessFlags := 10, nameIndex := 51, descriptorIndex := 52, attributes := #[] }] 49 2 #[] #[])
  fields := #[]
  methods := #[k1m0, k1m1, k1m2]
  instanceTypes := #[]
  staticTypes := #[]
  resolved := Array.replicate 80 none
  statics := none }

def pool2 : Array CpInfo := pool [(1, .methodref 2 3), (0, .class_ 4), (0, .nameAndType 5 6), (0, u "java/lang/Object"), (0, u "<init>"), (0, u "()V"), (0, .fieldref 8 9), (0, .class_ 10), (0, .nameAndType 11 12), (0, u "WindowFuncEngine"), (0, u "part"), (0, u "[I"), (0, .fieldref 8 14), (0, .nameAndType 15 12), (0, u "keys"), (0, .fieldref 8 17), (0, .nameAndType 18 12), (0, u "vals"), (0, .fieldref 8 20), (0, .nameAndType 21 12), (0, u "flg"), (0, .fieldref 8 23), (0, .nameAndType 24 25), (0, u "res"), (0, u "[J"), (0, .fieldref 8 27), (0, .nameAndType 28 29), (0, u "resNull"), (0, u "[Z"), (0, .fieldref 8 31), (0, .nameAndType 32 12), (0, u "frameCnt"), (0, .fieldref 8 34), (0, .nameAndType 35 12), (0, u "sorted"), (0, .fieldref 8 37), (0, .nameAndType 38 39), (0, u "cap"), (0, u "I"), (0, .fieldref 8 41), (0, .nameAndType 42 39), (0, u "rows"), (0, .methodref 8 44), (0, .nameAndType 45 6), (0, u "resetSpec"), (0, .fieldref 8 47), (0, .nameAndType 48 49), (0, u "computed"), (0, u "Z"), (0, .fieldref 8 51), (0, .nameAndType 52 39), (0, u "direction"), (0, .fieldref 8 54), (0, .nameAndType 55 39), (0, u "nulls"), (0, .fieldref 8 57), (0, .nameAndType 58 39), (0, u "mode"), (0, .fieldref 8 60), (0, .nameAndType 61 39), (0, u "startKind"), (0, .fieldref 8 63), (0, .nameAndType 64 39), (0, u "startOff"), (0, .fieldref 8 66), (0, .nameAndType 67 39), (0, u "endKind"), (0, .fieldref 8 69), (0, .nameAndType 70 39), (0, u "endOff"), (0, .fieldref 8 72), (0, .nameAndType 73 39), (0, u "fn"), (0, .fieldref 8 75), (0, .nameAndType 76 39), (0, u "fnArg"), (0, .methodref 8 78), (0, .nameAndType 79 80), (0, u "needsOrder"), (0, u "()Z"), (0, .methodref 8 82), (0, .nameAndType 83 84), (0, u "computeRow"), (0, u "(I)V"), (0, .methodref 8 86), (0, .nameAndType 87 88), (0, u "keyNull"), (0, u "(I)Z"), (0, .methodref 8 90), (0, .nameAndType 91 92), (0, u "before"), (0, u "(II)Z"), (0, .fieldref 8 94), (0, .nameAndType 95 39), (0, u "sortedLen"), (0, .fieldref 8 97), (0, .nameAndType 98 39), (0, u "curPos"), (0, .methodref 8 100), (0, .nameAndType 101 92), (0, u "rowsStartHolds"), (0, .methodref 8 103), (0, .nameAndType 104 92), (0, u "rowsEndHolds"), (0, .methodref 8 106), (0, .nameAndType 107 108), (0, u "rangeStartHolds"), (0, u "(IIII)Z"), (0, .methodref 8 110), (0, .nameAndType 111 108), (0, u "rangeEndHolds"), (0, .methodref 8 113), (0, .nameAndType 114 92), (0, u "peer"), (0, .methodref 8 116), (0, .nameAndType 117 118), (0, u "distance"), (0, u "(II)J"), (0, .methodref 8 120), (0, .nameAndType 121 84), (0, u "buildPartition"), (0, .methodref 8 123), (0, .nameAndType 124 84), (0, u "aggregateFrame"), (0, .fieldref 8 126), (0, .nameAndType 127 39), (0, u "aggRows"), (0, .methodref 8 129), (0, .nameAndType 130 84), (0, u "applyFunction"), (0, .fieldref 8 132), (0, .nameAndType 133 134), (0, u "aggSum"), (0, u "J"), (0, .fieldref 8 136), (0, .nameAndType 137 39), (0, u "aggCount"), (0, .fieldref 8 139), (0, .nameAndType 140 39), (0, u "aggMin"), (0, .fieldref 8 142), (0, .nameAndType 143 39), (0, u "aggMax"), (0, .methodref 8 145), (0, .nameAndType 146 108), (0, u "inFrame"), (0, .methodref 8 148), (0, .nameAndType 149 88), (0, u "valNull"), (0, .methodref 8 151), (0, .nameAndType 152 153), (0, u "setRes"), (0, u "(IJZ)V"), (0, .methodref 8 155), (0, .nameAndType 156 118), (0, u "rankOf"), (0, .methodref 8 158), (0, .nameAndType 159 118), (0, u "denseRankOf"), (0, .methodref 8 161), (0, .nameAndType 162 163), (0, u "shiftValue"), (0, u "(IIZ)V"), (0, u "ERR"), (2, u "ORDER_NONE"), (1, u "ORDER_ASC"), (1, u "ORDER_DESC"), (1, u "NULLS_FIRST"), (0, u "NULLS_LAST"), (0, u "MODE_ROWS"), (0, u "MODE_RANGE"), (0, u "BOUND_UNBOUNDED_PRECEDING"), (0, u "BOUND_PRECEDING"), (0, u "BOUND_CURRENT_ROW"), (0, u "BOUND_FOLLOWING"), (1, u "BOUND_UNBOUNDED_FOLLOWING"), (1, u "FN_SUM"), (0, u "FN_COUNT"), (0, u "FN_COUNT_ROWS"), (0, u "FN_MIN"), (0, u "FN_MAX"), (0, u "FN_ROW_NUMBER"), (1, u "FN_RANK"), (1, u "FN_DENSE_RANK"), (1, u "FN_LAG"), (1, u "FN_LEAD"), (1, u "FLAG_KEY_NULL"), (0, u "FLAG_VALUE_NULL"), (0, u "STATUS_OK"), (0, u "STATUS_NEEDS_ORDER"), (0, u "FIELD_PARTITION"), (0, u "FIELD_KEY"), (0, u "FIELD_VALUE"), (0, u "FIELD_FLAGS"), (0, u "SPEC_DIRECTION"), (0, u "SPEC_NULLS"), (0, u "SPEC_MODE"), (0, u "SPEC_START_KIND"), (0, u "SPEC_START_OFFSET"), (0, u "SPEC_END_KIND"), (0, u "SPEC_END_OFFSET"), (0, u "SPEC_FUNCTION"), (0, u "SPEC_FUNCTION_ARG"), (0, u "SPEC_CAPACITY"), (3, u "addRow"), (0, u "(IIII)I"), (1, u "clear"), (0, u "rowCount"), (0, u "()I"), (0, u "setOrder"), (0, u "setFrameMode"), (0, u "setFrameStart"), (0, u "setFrameEnd"), (0, u "setFunction"), (0, u "compute"), (0, u "isComputed"), (0, u "getResult"), (0, u "(I)J"), (0, u "isResultNull"), (0, u "getFrameCount"), (0, u "(I)I"), (0, u "getRowField"), (0, u "(II)I"), (0, u "getSpec")] 3

def k2c0 : Code := { maxStack := 2, maxLocals := 3, code := prog_1_method_1_code, exceptionTable := #[], attributes := #[] }
def k2m0 : Method := { name := "<init>", desc := "(I)V", sig := { parameters := [.int], returnType := none }, accessFlags := 1, code := some k2c0 }
def k2c1 : Code := { maxStack := 2, maxLocals := 1, code := prog_1_method_2_code, exceptionTable := #[], attributes := #[] }
def k2m1 : Method := { name := "resetSpec", desc := "()V", sig := { parameters := [], returnType := none }, accessFlags := 2, code := some k2c1 }
def k2c2 : Code := { maxStack := 4, maxLocals := 6, code := prog_1_method_3_code, exceptionTable := #[], attributes := #[] }
def k2m2 : Method := { name := "addRow", desc := "(IIII)I", sig := { parameters := [.int, .int, .int, .int], returnType := some .int }, accessFlags := 1, code := some k2c2 }
def k2c3 : Code := { maxStack := 2, maxLocals := 1, code := prog_1_method_4_code, exceptionTable := #[], attributes := #[] }
def k2m3 : Method := { name := "clear", desc := "()V", sig := { parameters := [], returnType := none }, accessFlags := 1, code := some k2c3 }
def k2c4 : Code := { maxStack := 1, maxLocals := 1, code := prog_1_method_5_code, exceptionTable := #[], attributes := #[] }
def k2m4 : Method := { name := "rowCount", desc := "()I", sig := { parameters := [], returnType := some .int }, accessFlags := 1, code := some k2c4 }
def k2c5 : Code := { maxStack := 2, maxLocals := 3, code := prog_1_method_6_code, exceptionTable := #[], attributes := #[] }
def k2m5 : Method := { name := "setOrder", desc := "(II)Z", sig := { parameters := [.int, .int], returnType := some .boolean }, accessFlags := 1, code := some k2c5 }
def k2c6 : Code := { maxStack := 2, maxLocals := 2, code := prog_1_method_7_code, exceptionTable := #[], attributes := #[] }
def k2m6 : Method := { name := "setFrameMode", desc := "(I)Z", sig := { parameters := [.int], returnType := some .boolean }, accessFlags := 1, code := some k2c6 }
def k2c7 : Code := { maxStack := 2, maxLocals := 4, code := prog_1_method_8_code, exceptionTable := #[], attributes := #[] }
def k2m7 : Method := { name := "setFrameStart", desc := "(II)Z", sig := { parameters := [.int, .int], returnType := some .boolean }, accessFlags := 1, code := some k2c7 }
def k2c8 : Code := { maxStack := 2, maxLocals := 4, code := prog_1_method_9_code, exceptionTable := #[], attributes := #[] }
def k2m8 : Method := { name := "setFrameEnd", desc := "(II)Z", sig := { parameters := [.int, .int], returnType := some .boolean }, accessFlags := 1, code := some k2c8 }
def k2c9 : Code := { maxStack := 2, maxLocals := 4, code := prog_1_method_10_code, exceptionTable := #[], attributes := #[] }
def k2m9 : Method := { name := "setFunction", desc := "(II)Z", sig := { parameters := [.int, .int], returnType := some .boolean }, accessFlags := 1, code := some k2c9 }
def k2c10 : Code := { maxStack := 2, maxLocals := 2, code := prog_1_method_11_code, exceptionTable := #[], attributes := #[] }
def k2m10 : Method := { name := "compute", desc := "()I", sig := { parameters := [], returnType := some .int }, accessFlags := 1, code := some k2c10 }
def k2c11 : Code := { maxStack := 2, maxLocals := 3, code := prog_1_method_12_code, exceptionTable := #[], attributes := #[] }
def k2m11 : Method := { name := "needsOrder", desc := "()Z", sig := { parameters := [], returnType := some .boolean }, accessFlags := 2, code := some k2c11 }
def k2c12 : Code := { maxStack := 1, maxLocals := 1, code := prog_1_method_13_code, exceptionTable := #[], attributes := #[] }
def k2m12 : Method := { name := "isComputed", desc := "()Z", sig := { parameters := [], returnType := some .boolean }, accessFlags := 1, code := some k2c12 }
def k2c13 : Code := { maxStack := 2, maxLocals := 2, code := prog_1_method_14_code, exceptionTable := #[], attributes := #[] }
def k2m13 : Method := { name := "getResult", desc := "(I)J", sig := { parameters := [.int], returnType := some .long }, accessFlags := 1, code := some k2c13 }
def k2c14 : Code := { maxStack := 2, maxLocals := 2, code := prog_1_method_15_code, exceptionTable := #[], attributes := #[] }
def k2m14 : Method := { name := "isResultNull", desc := "(I)Z", sig := { parameters := [.int], returnType := some .boolean }, accessFlags := 1, code := some k2c14 }
def k2c15 : Code := { maxStack := 2, maxLocals := 2, code := prog_1_method_16_code, exceptionTable := #[], attributes := #[] }
def k2m15 : Method := { name := "getFrameCount", desc := "(I)I", sig := { parameters := [.int], returnType := some .int }, accessFlags := 1, code := some k2c15 }
def k2c16 : Code := { maxStack := 2, maxLocals := 3, code := prog_1_method_17_code, exceptionTable := #[], attributes := #[] }
def k2m16 : Method := { name := "getRowField", desc := "(II)I", sig := { parameters := [.int, .int], returnType := some .int }, accessFlags := 1, code := some k2c16 }
def k2c17 : Code := { maxStack := 2, maxLocals := 2, code := prog_1_method_18_code, exceptionTable := #[], attributes := #[] }
def k2m17 : Method := { name := "getSpec", desc := "(I)I", sig := { parameters := [.int], returnType := some .int }, accessFlags := 1, code := some k2c17 }
def k2c18 : Code := { maxStack := 2, maxLocals := 2, code := prog_1_method_19_code, exceptionTable := #[], attributes := #[] }
def k2m18 : Method := { name := "keyNull", desc := "(I)Z", sig := { parameters := [.int], returnType := some .boolean }, accessFlags := 2, code := some k2c18 }
def k2c19 : Code := { maxStack := 2, maxLocals := 2, code := prog_1_method_20_code, exceptionTable := #[], attributes := #[] }
def k2m19 : Method := { name := "valNull", desc := "(I)Z", sig := { parameters := [.int], returnType := some .boolean }, accessFlags := 2, code := some k2c19 }
def k2c20 : Code := { maxStack := 3, maxLocals := 5, code := prog_1_method_21_code, exceptionTable := #[], attributes := #[] }
def k2m20 : Method := { name := "before", desc := "(II)Z", sig := { parameters := [.int, .int], returnType := some .boolean }, accessFlags := 2, code := some k2c20 }
def k2c21 : Code := { maxStack := 3, maxLocals := 5, code := prog_1_method_22_code, exceptionTable := #[], attributes := #[] }
def k2m21 : Method := { name := "peer", desc := "(II)Z", sig := { parameters := [.int, .int], returnType := some .boolean }, accessFlags := 2, code := some k2c21 }
def k2c22 : Code := { maxStack := 5, maxLocals := 6, code := prog_1_method_23_code, exceptionTable := #[], attributes := #[] }
def k2m22 : Method := { name := "buildPartition", desc := "(I)V", sig := { parameters := [.int], returnType := none }, accessFlags := 2, code := some k2c22 }
def k2c23 : Code := { maxStack := 5, maxLocals := 5, code := prog_1_method_24_code, exceptionTable := #[], attributes := #[] }
def k2m23 : Method := { name := "inFrame", desc := "(IIII)Z", sig := { parameters := [.int, .int, .int, .int], returnType := some .boolean }, accessFlags := 2, code := some k2c23 }
def k2c24 : Code := { maxStack := 6, maxLocals := 9, code := prog_1_method_25_code, exceptionTable := #[], attributes := #[] }
def k2m24 : Method := { name := "rowsStartHolds", desc := "(II)Z", sig := { parameters := [.int, .int], returnType := some .boolean }, accessFlags := 2, code := some k2c24 }
def k2c25 : Code := { maxStack := 6, maxLocals := 9, code := prog_1_method_26_code, exceptionTable := #[], attributes := #[] }
def k2m25 : Method := { name := "rowsEndHolds", desc := "(II)Z", sig := { parameters := [.int, .int], returnType := some .boolean }, accessFlags := 2, code := some k2c25 }
def k2c26 : Code := { maxStack := 4, maxLocals := 3, code := prog_1_method_27_code, exceptionTable := #[], attributes := #[] }
def k2m26 : Method := { name := "distance", desc := "(II)J", sig := { parameters := [.int, .int], returnType := some .long }, accessFlags := 2, code := some k2c26 }
def k2c27 : Code := { maxStack := 4, maxLocals := 10, code := prog_1_method_28_code, exceptionTable := #[], attributes := #[] }
def k2m27 : Method := { name := "rangeStartHolds", desc := "(IIII)Z", sig := { parameters := [.int, .int, .int, .int], returnType := some .boolean }, accessFlags := 2, code := some k2c27 }
def k2c28 : Code := { maxStack := 4, maxLocals := 10, code := prog_1_method_29_code, exceptionTable := #[], attributes := #[] }
def k2m28 : Method := { name := "rangeEndHolds", desc := "(IIII)Z", sig := { parameters := [.int, .int, .int, .int], returnType := some .boolean }, accessFlags := 2, code := some k2c28 }
def k2c29 : Code := { maxStack := 3, maxLocals := 2, code := prog_1_method_30_code, exceptionTable := #[], attributes := #[] }
def k2m29 : Method := { name := "computeRow", desc := "(I)V", sig := { parameters := [.int], returnType := none }, accessFlags := 2, code := some k2c29 }
def k2c30 : Code := { maxStack := 5, maxLocals := 7, code := prog_1_method_31_code, exceptionTable := #[], attributes := #[] }
def k2m30 : Method := { name := "aggregateFrame", desc := "(I)V", sig := { parameters := [.int], returnType := none }, accessFlags := 2, code := some k2c30 }
def k2c31 : Code := { maxStack := 4, maxLocals := 5, code := prog_1_method_32_code, exceptionTable := #[], attributes := #[] }
def k2m31 : Method := { name := "setRes", desc := "(IJZ)V", sig := { parameters := [.int, .long, .boolean], returnType := none }, accessFlags := 2, code := some k2c31 }
def k2c32 : Code := { maxStack := 6, maxLocals := 5, code := prog_1_method_33_code, exceptionTable := #[], attributes := #[] }
def k2m32 : Method := { name := "applyFunction", desc := "(I)V", sig := { parameters := [.int], returnType := none }, accessFlags := 2, code := some k2c32 }
def k2c33 : Code := { maxStack := 4, maxLocals := 6, code := prog_1_method_34_code, exceptionTable := #[], attributes := #[] }
def k2m33 : Method := { name := "rankOf", desc := "(II)J", sig := { parameters := [.int, .int], returnType := some .long }, accessFlags := 2, code := some k2c33 }
def k2c34 : Code := { maxStack := 5, maxLocals := 7, code := prog_1_method_35_code, exceptionTable := #[], attributes := #[] }
def k2m34 : Method := { name := "denseRankOf", desc := "(II)J", sig := { parameters := [.int, .int], returnType := some .long }, accessFlags := 2, code := some k2c34 }
def k2c35 : Code := { maxStack := 6, maxLocals := 7, code := prog_1_method_36_code, exceptionTable := #[], attributes := #[] }
def k2m35 : Method := { name := "shiftValue", desc := "(IIZ)V", sig := { parameters := [.int, .int, .boolean], returnType := none }, accessFlags := 2, code := some k2c35 }
/-- WindowFuncEngine -/
def k2 : Class := { plain "WindowFuncEngine" (some 0) with
  accessFlags := 49
  interfaces := #[]
  cf := some (fileOf pool2 8 #[] #[{ accessFlags := 1, nameIndex := 5, descriptorIndex := 84, attributes := #[] }, { accessFlags := 2, nameIndex := 45, descriptorIndex := 6, attributes := #[] }, { accessFlags := 1, nameIndex := 220, descriptorIndex := 221, attributes := #[] }, { accessFlags := 1, nameIndex := 223, descriptorIndex := 6, attributes := #[] }, { accessFlags := 1, nameIndex := 224, descriptorIndex := 225, attributes := #[] }, { accessFlags := 1, nameIndex := 226, descriptorIndex := 92, attributes := #[] }, { accessFlags := 1, nameIndex := 227, descriptorIndex := 88, attributes := #[] }, { accessFlags := 1, nameIndex := 228, descriptorIndex := 92, attributes := #[] }, { accessFlags := 1, nameIndex := 229, descriptorIndex := 92, attributes := #[] }, { accessFlags := 1, nameIndex := 230, descriptorIndex := 92, attributes := #[] }, { accessFlags := 1, nameIndex := 231, descriptorIndex := 225, attributes := #[] }, { accessFlags := 2, nameIndex := 79, descriptorIndex := 80, attributes := #[] }, { accessFlags := 1, nameIndex := 232, descriptorIndex := 80, attributes := #[] }, { accessFlags := 1, nameIndex := 233, descriptorIndex := 234, attributes := #[] }, { accessFlags := 1, nameIndex := 235, descriptorIndex := 88, attributes := #[] }, { accessFlags := 1, nameIndex := 236, descriptorIndex := 237, attributes := #[] }, { accessFlags := 1, nameIndex := 238, descriptorIndex := 239, attributes := #[] }, { accessFlags := 1, nameIndex := 240, descriptorIndex := 237, attributes := #[] }, { accessFlags := 2, nameIndex := 87, descriptorIndex := 88, attributes := #[] }, { accessFlags := 2, nameIndex := 149, descriptorIndex := 88, attributes := #[] }, { accessFlags := 2, nameIndex := 91, descriptorIndex := 92, attributes := #[] }, { accessFlags := 2, nameIndex := 114, descriptorIndex := 92, attributes := #[] }, { accessFlags := 2, nameIndex := 121, descriptorIndex := 84, attributes := #[] }, { accessFlags := 2, nameIndex := 146, descriptorIndex := 108, attributes := #[] }, { accessFlags := 2, nameIndex := 101, descriptorIndex := 92, attributes := #[] }, { accessFlags := 2, nameIndex := 104, descriptorIndex := 92, attributes := #[] }, { accessFlags := 2, nameIndex := 117, descriptorIndex := 118, attributes := #[] }, { accessFlags := 2, nameIndex := 107, descriptorIndex := 108, attributes := #[] }, { accessFlags := 2, nameIndex := 111, descriptorIndex := 108, attributes := #[] }, { accessFlags := 2, nameIndex := 83, descriptorIndex := 84, attributes := #[] }, { accessFlags := 2, nameIndex := 124, descriptorIndex := 84, attributes := #[] }, { accessFlags := 2, nameIndex := 152, descriptorIndex := 153, attributes := #[] }, { accessFlags := 2, nameIndex := 130, descriptorIndex := 84, attributes := #[] }, { accessFlags := 2, nameIndex := 156, descriptorIndex := 118, attributes := #[] }, { accessFlags := 2, nameIndex := 159, descriptorIndex := 118, attributes := #[] }, { accessFlags := 2, nameIndex := 162, descriptorIndex := 163, attributes := #[] }] 49 2 #[] #[{ accessFlags := 25, nameIndex := 164, descriptorIndex := 39, attributes := #[] }, { accessFlags := 25, nameIndex := 167, descriptorIndex := 39, attributes := #[] }, { accessFlags := 25, nameIndex := 169, descriptorIndex := 39, attributes := #[] }, { accessFlags := 25, nameIndex := 171, descriptorIndex := 39, attributes := #[] }, { accessFlags := 25, nameIndex := 173, descriptorIndex := 39, attributes := #[] }, { accessFlags := 25, nameIndex := 174, descriptorIndex := 39, attributes := #[] }, { accessFlags := 25, nameIndex := 175, descriptorIndex := 39, attributes := #[] }, { accessFlags := 25, nameIndex := 176, descriptorIndex := 39, attributes := #[] }, { accessFlags := 25, nameIndex := 177, descriptorIndex := 39, attributes := #[] }, { accessFlags := 25, nameIndex := 178, descriptorIndex := 39, attributes := #[] }, { accessFlags := 25, nameIndex := 179, descriptorIndex := 39, attributes := #[] }, { accessFlags := 25, nameIndex := 180, descriptorIndex := 39, attributes := #[] }, { accessFlags := 25, nameIndex := 182, descriptorIndex := 39, attributes := #[] }, { accessFlags := 25, nameIndex := 184, descriptorIndex := 39, attributes := #[] }, { accessFlags := 25, nameIndex := 185, descriptorIndex := 39, attributes := #[] }, { accessFlags := 25, nameIndex := 186, descriptorIndex := 39, attributes := #[] }, { accessFlags := 25, nameIndex := 187, descriptorIndex := 39, attributes := #[] }, { accessFlags := 25, nameIndex := 188, descriptorIndex := 39, attributes := #[] }, { accessFlags := 25, nameIndex := 189, descriptorIndex := 39, attributes := #[] }, { accessFlags := 25, nameIndex := 191, descriptorIndex := 39, attributes := #[] }, { accessFlags := 25, nameIndex := 193, descriptorIndex := 39, attributes := #[] }, { accessFlags := 25, nameIndex := 195, descriptorIndex := 39, attributes := #[] }, { accessFlags := 25, nameIndex := 197, descriptorIndex := 39, attributes := #[] }, { accessFlags := 25, nameIndex := 199, descriptorIndex := 39, attributes := #[] }, { accessFlags := 25, nameIndex := 200, descriptorIndex := 39, attributes := #[] }, { accessFlags := 25, nameIndex := 201, descriptorIndex := 39, attributes := #[] }, { accessFlags := 25, nameIndex := 202, descriptorIndex := 39, attributes := #[] }, { accessFlags := 25, nameIndex := 203, descriptorIndex := 39, attributes := #[] }, { accessFlags := 25, nameIndex := 204, descriptorIndex := 39, attributes := #[] }, { accessFlags := 25, nameIndex := 205, descriptorIndex := 39, attributes := #[] }, { accessFlags := 25, nameIndex := 206, descriptorIndex := 39, attributes := #[] }, { accessFlags := 25, nameIndex := 207, descriptorIndex := 39, attributes := #[] }, { accessFlags := 25, nameIndex := 208, descriptorIndex := 39, attributes := #[] }, { accessFlags := 25, nameIndex := 209, descriptorIndex := 39, attributes := #[] }, { accessFlags := 25, nameIndex := 210, descriptorIndex := 39, attributes := #[] }, { accessFlags := 25, nameIndex := 211, descriptorIndex := 39, attributes := #[] }, { accessFlags := 25, nameIndex := 212, descriptorIndex := 39, attributes := #[] }, { accessFlags := 25, nameIndex := 213, descriptorIndex := 39, attributes := #[] }, { accessFlags := 25, nameIndex := 214, descriptorIndex := 39, attributes := #[] }, { accessFlags := 25, nameIndex := 215, descriptorIndex := 39, attributes := #[] }, { accessFlags := 25, nameIndex := 216, descriptorIndex := 39, attributes := #[] }, { accessFlags := 2, nameIndex := 38, descriptorIndex := 39, attributes := #[] }, { accessFlags := 2, nameIndex := 42, descriptorIndex := 39, attributes := #[] }, { accessFlags := 2, nameIndex := 11, descriptorIndex := 12, attributes := #[] }, { accessFlags := 2, nameIndex := 15, descriptorIndex := 12, attributes := #[] }, { accessFlags := 2, nameIndex := 18, descriptorIndex := 12, attributes := #[] }, { accessFlags := 2, nameIndex := 21, descriptorIndex := 12, attributes := #[] }, { accessFlags := 2, nameIndex := 52, descriptorIndex := 39, attributes := #[] }, { accessFlags := 2, nameIndex := 55, descriptorIndex := 39, attributes := #[] }, { accessFlags := 2, nameIndex := 58, descriptorIndex := 39, attributes := #[] }, { accessFlags := 2, nameIndex := 61, descriptorIndex := 39, attributes := #[] }, { accessFlags := 2, nameIndex := 64, descriptorIndex := 39, attributes := #[] }, { accessFlags := 2, nameIndex := 67, descriptorIndex := 39, attributes := #[] }, { accessFlags := 2, nameIndex := 70, descriptorIndex := 39, attributes := #[] }, { accessFlags := 2, nameIndex := 73, descriptorIndex := 39, attributes := #[] }, { accessFlags := 2, nameIndex := 76, descriptorIndex := 39, attributes := #[] }, { accessFlags := 2, nameIndex := 48, descriptorIndex := 49, attributes := #[] }, { accessFlags := 2, nameIndex := 24, descriptorIndex := 25, attributes := #[] }, { accessFlags := 2, nameIndex := 28, descriptorIndex := 29, attributes := #[] }, { accessFlags := 2, nameIndex := 32, descriptorIndex := 12, attributes := #[] }, { accessFlags := 2, nameIndex := 35, descriptorIndex := 12, attributes := #[] }, { accessFlags := 2, nameIndex := 95, descriptorIndex := 39, attributes := #[] }, { accessFlags := 2, nameIndex := 98, descriptorIndex := 39, attributes := #[] }, { accessFlags := 2, nameIndex := 133, descriptorIndex := 134, attributes := #[] }, { accessFlags := 2, nameIndex := 137, descriptorIndex := 39, attributes := #[] }, { accessFlags := 2, nameIndex := 127, descriptorIndex := 39, attributes := #[] }, { accessFlags := 2, nameIndex := 140, descriptorIndex := 39, attributes := #[] }, { accessFlags := 2, nameIndex := 143, descriptorIndex := 39, attributes := #[] }])
  fields := #[{ name := "ERR", type := .int, accessFlags := 25, slot := 0, constantValue := 0 }, { name := "ORDER_NONE", type := .int, accessFlags := 25, slot := 1, constantValue := 0 }, { name := "ORDER_ASC", type := .int, accessFlags := 25, slot := 2, constantValue := 0 }, { name := "ORDER_DESC", type := .int, accessFlags := 25, slot := 3, constantValue := 0 }, { name := "NULLS_FIRST", type := .int, accessFlags := 25, slot := 4, constantValue := 0 }, { name := "NULLS_LAST", type := .int, accessFlags := 25, slot := 5, constantValue := 0 }, { name := "MODE_ROWS", type := .int, accessFlags := 25, slot := 6, constantValue := 0 }, { name := "MODE_RANGE", type := .int, accessFlags := 25, slot := 7, constantValue := 0 }, { name := "BOUND_UNBOUNDED_PRECEDING", type := .int, accessFlags := 25, slot := 8, constantValue := 0 }, { name := "BOUND_PRECEDING", type := .int, accessFlags := 25, slot := 9, constantValue := 0 }, { name := "BOUND_CURRENT_ROW", type := .int, accessFlags := 25, slot := 10, constantValue := 0 }, { name := "BOUND_FOLLOWING", type := .int, accessFlags := 25, slot := 11, constantValue := 0 }, { name := "BOUND_UNBOUNDED_FOLLOWING", type := .int, accessFlags := 25, slot := 12, constantValue := 0 }, { name := "FN_SUM", type := .int, accessFlags := 25, slot := 13, constantValue := 0 }, { name := "FN_COUNT", type := .int, accessFlags := 25, slot := 14, constantValue := 0 }, { name := "FN_COUNT_ROWS", type := .int, accessFlags := 25, slot := 15, constantValue := 0 }, { name := "FN_MIN", type := .int, accessFlags := 25, slot := 16, constantValue := 0 }, { name := "FN_MAX", type := .int, accessFlags := 25, slot := 17, constantValue := 0 }, { name := "FN_ROW_NUMBER", type := .int, accessFlags := 25, slot := 18, constantValue := 0 }, { name := "FN_RANK", type := .int, accessFlags := 25, slot := 19, constantValue := 0 }, { name := "FN_DENSE_RANK", type := .int, accessFlags := 25, slot := 20, constantValue := 0 }, { name := "FN_LAG", type := .int, accessFlags := 25, slot := 21, constantValue := 0 }, { name := "FN_LEAD", type := .int, accessFlags := 25, slot := 22, constantValue := 0 }, { name := "FLAG_KEY_NULL", type := .int, accessFlags := 25, slot := 23, constantValue := 0 }, { name := "FLAG_VALUE_NULL", type := .int, accessFlags := 25, slot := 24, constantValue := 0 }, { name := "STATUS_OK", type := .int, accessFlags := 25, slot := 25, constantValue := 0 }, { name := "STATUS_NEEDS_ORDER", type := .int, accessFlags := 25, slot := 26, constantValue := 0 }, { name := "FIELD_PARTITION", type := .int, accessFlags := 25, slot := 27, constantValue := 0 }, { name := "FIELD_KEY", type := .int, accessFlags := 25, slot := 28, constantValue := 0 }, { name := "FIELD_VALUE", type := .int, accessFlags := 25, slot := 29, constantValue := 0 }, { name := "FIELD_FLAGS", type := .int, accessFlags := 25, slot := 30, constantValue := 0 }, { name := "SPEC_DIRECTION", type := .int, accessFlags := 25, slot := 31, constantValue := 0 }, { name := "SPEC_NULLS", type := .int, accessFlags := 25, slot := 32, constantValue := 0 }, { name := "SPEC_MODE", type := .int, accessFlags := 25, slot := 33, constantValue := 0 }, { name := "SPEC_START_KIND", type := .int, accessFlags := 25, slot := 34, constantValue := 0 }, { name := "SPEC_START_OFFSET", type := .int, accessFlags := 25, slot := 35, constantValue := 0 }, { name := "SPEC_END_KIND", type := .int, accessFlags := 25, slot := 36, constantValue := 0 }, { name := "SPEC_END_OFFSET", type := .int, accessFlags := 25, slot := 37, constantValue := 0 }, { name := "SPEC_FUNCTION", type := .int, accessFlags := 25, slot := 38, constantValue := 0 }, { name := "SPEC_FUNCTION_ARG", type := .int, accessFlags := 25, slot := 39, constantValue := 0 }, { name := "SPEC_CAPACITY", type := .int, accessFlags := 25, slot := 40, constantValue := 0 }, { name := "cap", type := .int, accessFlags := 2, slot := 0, constantValue := 0 }, { name := "rows", type := .int, accessFlags := 2, slot := 1, constantValue := 0 }, { name := "part", type := (.array .int), accessFlags := 2, slot := 2, constantValue := 0 }, { name := "keys", type := (.array .int), accessFlags := 2, slot := 3, constantValue := 0 }, { name := "vals", type := (.array .int), accessFlags := 2, slot := 4, constantValue := 0 }, { name := "flg", type := (.array .int), accessFlags := 2, slot := 5, constantValue := 0 }, { name := "direction", type := .int, accessFlags := 2, slot := 6, constantValue := 0 }, { name := "nulls", type := .int, accessFlags := 2, slot := 7, constantValue := 0 }, { name := "mode", type := .int, accessFlags := 2, slot := 8, constantValue := 0 }, { name := "startKind", type := .int, accessFlags := 2, slot := 9, constantValue := 0 }, { name := "startOff", type := .int, accessFlags := 2, slot := 10, constantValue := 0 }, { name := "endKind", type := .int, accessFlags := 2, slot := 11, constantValue := 0 }, { name := "endOff", type := .int, accessFlags := 2, slot := 12, constantValue := 0 }, { name := "fn", type := .int, accessFlags := 2, slot := 13, constantValue := 0 }, { name := "fnArg", type := .int, accessFlags := 2, slot := 14, constantValue := 0 }, { name := "computed", type := .boolean, accessFlags := 2, slot := 15, constantValue := 0 }, { name := "res", type := (.array .long), accessFlags := 2, slot := 16, constantValue := 0 }, { name := "resNull", type := (.array .boolean), accessFlags := 2, slot := 17, constantValue := 0 }, { name := "frameCnt", type := (.array .int), accessFlags := 2, slot := 18, constantValue := 0 }, { name := "sorted", type := (.array .int), accessFlags := 2, slot := 19, constantValue := 0 }, { name := "sortedLen", type := .int, accessFlags := 2, slot := 20, constantValue := 0 }, { name := "curPos", type := .int, accessFlags := 2, slot := 21, constantValue := 0 }, { name := "aggSum", type := .long, accessFlags := 2, slot := 22, constantValue := 0 }, { name := "aggCount", type := .int, accessFlags := 2, slot := 23, constantValue := 0 }, { name := "aggRows", type := .int, accessFlags := 2, slot := 24, constantValue := 0 }, { name := "aggMin", type := .int, accessFlags := 2, slot := 25, constantValue := 0 }, { name := "aggMax", type := .int, accessFlags := 2, slot := 26, constantValue := 0 }]
  methods := #[k2m0, k2m1, k2m2, k2m3, k2m4, k2m5, k2m6, k2m7, k2m8, k2m9, k2m10, k2m11, k2m12, k2m13, k2m14, k2m15, k2m16, k2m17, k2m18, k2m19, k2m20, k2m21, k2m22, k2m23, k2m24, k2m25, k2m26, k2m27, k2m28, k2m29, k2m30, k2m31, k2m32, k2m33, k2m34, k2m35]
  instanceTypes := #[.int, .int, (.array .int), (.array .int), (.array .int), (.array .int), .int, .int, .int, .int, .int, .int, .int, .int, .int, .boolean, (.array .long), (.array .boolean), (.array .int), (.array .int), .int, .int, .long, .int, .int, .int, .int]
  staticTypes := #[.int, .int, .int, .int, .int, .int, .int, .int, .int, .int, .int, .int, .int, .int, .int, .int, .int, .int, .int, .int, .int, .int, .int, .int, .int, .int, .int, .int, .int, .int, .int, .int, .int, .int, .int, .int, .int, .int, .int, .int, .int]
  resolved := Array.replicate 244 none
  statics := none }

def pool3 : Array CpInfo := pool [(1, u "java/lang/Cloneable"), (0, .class_ 1), (0, u "java/lang/Object"), (0, .class_ 3)] 3

/-- java/lang/Cloneable -/
def k3 : Class := { plain "java/lang/Cloneable" (some 0) with
  accessFlags := 1537
  interfaces := #[]
  cf := some (fileOf pool3 2 #[] #[] 1537 4 #[] #[])
  fields := #[]
  methods := #[]
  instanceTypes := #[]
  staticTypes := #[]
  resolved := Array.replicate 8 none
  statics := none }

def pool4 : Array CpInfo := pool [(1, u "java/io/Serializable"), (0, .class_ 1), (0, u "java/lang/Object"), (0, .class_ 3)] 3

/-- java/io/Serializable -/
def k4 : Class := { plain "java/io/Serializable" (some 0) with
  accessFlags := 1537
  interfaces := #[]
  cf := some (fileOf pool4 2 #[] #[] 1537 4 #[] #[])
  fields := #[]
  methods := #[]
  instanceTypes := #[]
  staticTypes := #[]
  resolved := Array.replicate 8 none
  statics := none }

/-- the primitive boolean -/
def k5 : Class := { plain "boolean" none with kind := .primitive 'Z', accessFlags := 0x411 }
/-- [Z -/
def k6 : Class := { plain "[Z" (some 0) with kind := .array 5 .boolean, interfaces := #[3, 4], accessFlags := 1041 }

/-- the primitive byte -/
def k7 : Class := { plain "byte" none with kind := .primitive 'B', accessFlags := 0x411 }
/-- [B -/
def k8 : Class := { plain "[B" (some 0) with kind := .array 7 .byte, interfaces := #[3, 4], accessFlags := 1041 }

/-- the primitive int -/
def k9 : Class := { plain "int" none with kind := .primitive 'I', accessFlags := 0x411 }
/-- [I -/
def k10 : Class := { plain "[I" (some 0) with kind := .array 9 .int, interfaces := #[3, 4], accessFlags := 1041 }

/-- the primitive long -/
def k11 : Class := { plain "long" none with kind := .primitive 'J', accessFlags := 0x411 }
/-- [J -/
def k12 : Class := { plain "[J" (some 0) with kind := .array 11 .long, interfaces := #[3, 4], accessFlags := 1041 }

def heap : Heap := #[{ cls := 10, slots := #[.int 1, .int 2, .int 3], vm := .none }]
def classes : Array Class := #[k0, k1, k2, k3, k4, k5, k6, k7, k8, k9, k10, k11, k12]
def interned : List (Array UInt16 × Addr) := []
def slotsUsed : Nat := 3
def theMethod : MethodId := ⟨1, 1⟩
def args0 : Array Value := #[.ref 0]
def aboutOver (below : List Frame) : State where
  vm := { classes := classes, interned := interned.toArray }
  heap := heap
  slotsUsed := slotsUsed
  threads := #[{ frames := .invoking theMethod args0 :: below }]
def below0 : List Frame := [.native { method := ⟨0, 0⟩, args := #[] }]
def about1 : State := aboutOver below0
def p0 : Program := .bare "" "" ""
def e0 : Env := launch0.env 0 0 0
theorem w_frames : about1.frames = Frame.invoking theMethod args0 :: below0 := rfl
set_option maxRecDepth 65536 in
theorem w_args : argsFit about1.vm theMethod args0 = true := by decide +kernel
set_option maxRecDepth 65536 in
theorem w_heap : heapFits about1 = true := by decide +kernel
set_option maxRecDepth 65536 in
theorem w_runnable : about1.curStatus? = some .runnable := by decide +kernel
set_option maxRecDepth 65536 in
theorem w_alone : about1.alone = true := by decide +kernel
set_option maxRecDepth 65536 in
theorem w_named : about1.methodNamed? x = some theMethod := by decide +kernel
set_option maxRecDepth 65536 in
theorem w_hears : about1.hears theMethod below0 = true := by decide +kernel
set_option maxRecDepth 65536 in
theorem w_ripe : about1.ripe theMethod args0 below0 = true := by decide +kernel
theorem w_running : about1.status = .running := rfl
set_option maxRecDepth 65536 in
theorem w_room : about1.hasRoom e0.platform room_1 = true :=
  launch0.hasRoom_least _ room_1 (by decide +kernel) (by decide +kernel) (by decide +kernel) (by decide +kernel) (by decide +kernel) (by decide +kernel)
theorem allAtoms_all (ts : List Jvm.Cond) (a : Array Jvm.Value) (st : Jvm.State) : (allAtoms ts).before a st = ts.all (fun c => c.before a st) := by
  induction ts with
  | nil => rfl
  | cons c t ih =>
    show (Jvm.Cond.and c (allAtoms t)).before a st = _
    rw [Jvm.Cond.before_and, ih, List.all_cons]
def words1 : List Jvm.Cond := Jvm.Cond.code x code maxLocals ret :: tables_1
/-- a 'code' word, met by the world's own term for the bytes: nothing is compared byte by byte -/
theorem code_word {y : MethodName} {bytes : ByteArray} {mx : Nat} {rt : Option FieldType} {a : Array Value} {s : State} {m : MethodId} {meth : Method} {c : Code} (h1 : s.methodNamed? y = some m) (h2 : s.vm.method? m = some meth) (h3 : meth.code = some c) (h4 : c.code = bytes)
    (h5 : (c.maxLocals == mx && c.exceptionTable.isEmpty && decide (c.maxStack ≤ mostOperands) && decide (meth.sig.returnType = rt) && !meth.locks && decide (parseMethodDescriptor y.desc = some meth.sig)) = true) : (Jvm.Cond.code y bytes mx rt).before a s = true := by
  simp only [Bool.and_eq_true, beq_iff_eq, Bool.not_eq_true', decide_eq_true_eq] at h5
  obtain ⟨⟨⟨⟨⟨g1, g2⟩, g3⟩, g4⟩, g5⟩, g6⟩ := h5
  simp [Cond.before, Cond.holds, Cond.value, h1, h2, h3, h4, g1, g2, g3, g4, g5, g6]
def isCode : Jvm.Cond → Bool
  | .code _ _ _ _ => true
  | _ => false
theorem all_split {L : List Jvm.Cond} {P : Jvm.Cond → Bool} (h1 : L.all (fun c => isCode c || P c) = true) (h2 : ∀ c ∈ L.filter isCode, P c = true) : L.all P = true := by
  refine List.all_eq_true.mpr fun c hc => ?_
  have h := List.all_eq_true.mp h1 c hc
  rcases Bool.eq_false_or_eq_true (isCode c) with hi | hi
  · exact h2 c (List.mem_filter.mpr ⟨hc, hi⟩)
  · simpa [hi] using h
set_option maxRecDepth 65536 in
theorem w_c0 : (Jvm.Cond.code x code maxLocals ret).before args0 about1 = true := code_word (m := ⟨1, 1⟩) (meth := k1m1) (c := k1c1) (by decide +kernel) rfl rfl rfl (by decide +kernel)
set_option maxRecDepth 65536 in
theorem w_c1 : (Jvm.Cond.code ({ cls := "WindowFuncEngine", name := "<init>", desc := "(I)V" } : Jvm.MethodName) prog_1_method_1_code (3 : Nat) (Option.none : Option Jvm.ClassFile.FieldType)).before args0 about1 = true := code_word (m := ⟨2, 0⟩) (meth := k2m0) (c := k2c0) (by decide +kernel) rfl rfl rfl (by decide +kernel)
set_option maxRecDepth 65536 in
theorem w_c2 : (Jvm.Cond.code ({ cls := "java/lang/Object", name := "<init>", desc := "()V" } : Jvm.MethodName) object_method_1_code (1 : Nat) (Option.none : Option Jvm.ClassFile.FieldType)).before args0 about1 = true := code_word (m := ⟨0, 0⟩) (meth := k0m0) (c := k0c0) (by decide +kernel) rfl rfl rfl (by decide +kernel)
set_option maxRecDepth 65536 in
theorem w_c3 : (Jvm.Cond.code ({ cls := "WindowFuncEngine", name := "resetSpec", desc := "()V" } : Jvm.MethodName) prog_1_method_2_code (1 : Nat) (Option.none : Option Jvm.ClassFile.FieldType)).before args0 about1 = true := code_word (m := ⟨2, 1⟩) (meth := k2m1) (c := k2c1) (by decide +kernel) rfl rfl rfl (by decide +kernel)
set_option maxRecDepth 65536 in
theorem w_c4 : (Jvm.Cond.code ({ cls := "WindowFuncEngine", name := "addRow", desc := "(IIII)I" } : Jvm.MethodName) prog_1_method_3_code (6 : Nat) (Option.some Jvm.ClassFile.FieldType.int)).before args0 about1 = true := code_word (m := ⟨2, 2⟩) (meth := k2m2) (c := k2c2) (by decide +kernel) rfl rfl rfl (by decide +kernel)
set_option maxRecDepth 65536 in
theorem w_c5 : (Jvm.Cond.code ({ cls := "WindowFuncEngine", name := "rowCount", desc := "()I" } : Jvm.MethodName) prog_1_method_5_code (1 : Nat) (Option.some Jvm.ClassFile.FieldType.int)).before args0 about1 = true := code_word (m := ⟨2, 4⟩) (meth := k2m4) (c := k2c4) (by decide +kernel) rfl rfl rfl (by decide +kernel)
set_option maxRecDepth 65536 in
theorem w_c6 : (Jvm.Cond.code ({ cls := "WindowFuncEngine", name := "isComputed", desc := "()Z" } : Jvm.MethodName) prog_1_method_13_code (1 : Nat) (Option.some Jvm.ClassFile.FieldType.boolean)).before args0 about1 = true := code_word (m := ⟨2, 12⟩) (meth := k2m12) (c := k2c12) (by decide +kernel) rfl rfl rfl (by decide +kernel)
set_option maxRecDepth 65536 in
theorem w_c7 : (Jvm.Cond.code ({ cls := "WindowFuncEngineL6", name := "spec", desc := "(LWindowFuncEngine;IIIIIIIIII)Z" } : Jvm.MethodName) method_3_code (11 : Nat) (Option.some Jvm.ClassFile.FieldType.boolean)).before args0 about1 = true := code_word (m := ⟨1, 2⟩) (meth := k1m2) (c := k1c2) (by decide +kernel) rfl rfl rfl (by decide +kernel)
set_option maxRecDepth 65536 in
theorem w_c8 : (Jvm.Cond.code ({ cls := "WindowFuncEngine", name := "getSpec", desc := "(I)I" } : Jvm.MethodName) prog_1_method_18_code (2 : Nat) (Option.some Jvm.ClassFile.FieldType.int)).before args0 about1 = true := code_word (m := ⟨2, 17⟩) (meth := k2m17) (c := k2c17) (by decide +kernel) rfl rfl rfl (by decide +kernel)
set_option maxRecDepth 65536 in
theorem w_c9 : (Jvm.Cond.code ({ cls := "WindowFuncEngine", name := "getRowField", desc := "(II)I" } : Jvm.MethodName) prog_1_method_17_code (3 : Nat) (Option.some Jvm.ClassFile.FieldType.int)).before args0 about1 = true := code_word (m := ⟨2, 16⟩) (meth := k2m16) (c := k2c16) (by decide +kernel) rfl rfl rfl (by decide +kernel)
set_option maxRecDepth 65536 in
theorem w_c10 : (Jvm.Cond.code ({ cls := "WindowFuncEngine", name := "getFrameCount", desc := "(I)I" } : Jvm.MethodName) prog_1_method_16_code (2 : Nat) (Option.some Jvm.ClassFile.FieldType.int)).before args0 about1 = true := code_word (m := ⟨2, 15⟩) (meth := k2m15) (c := k2c15) (by decide +kernel) rfl rfl rfl (by decide +kernel)
set_option maxRecDepth 65536 in
theorem w_c11 : (Jvm.Cond.code ({ cls := "WindowFuncEngine", name := "getResult", desc := "(I)J" } : Jvm.MethodName) prog_1_method_14_code (2 : Nat) (Option.some Jvm.ClassFile.FieldType.long)).before args0 about1 = true := code_word (m := ⟨2, 13⟩) (meth := k2m13) (c := k2c13) (by decide +kernel) rfl rfl rfl (by decide +kernel)
set_option maxRecDepth 65536 in
theorem w_c12 : (Jvm.Cond.code ({ cls := "WindowFuncEngine", name := "isResultNull", desc := "(I)Z" } : Jvm.MethodName) prog_1_method_15_code (2 : Nat) (Option.some Jvm.ClassFile.FieldType.boolean)).before args0 about1 = true := code_word (m := ⟨2, 14⟩) (meth := k2m14) (c := k2c14) (by decide +kernel) rfl rfl rfl (by decide +kernel)
set_option maxRecDepth 65536 in
theorem w_c13 : (Jvm.Cond.code ({ cls := "WindowFuncEngine", name := "setFunction", desc := "(II)Z" } : Jvm.MethodName) prog_1_method_10_code (4 : Nat) (Option.some Jvm.ClassFile.FieldType.boolean)).before args0 about1 = true := code_word (m := ⟨2, 9⟩) (meth := k2m9) (c := k2c9) (by decide +kernel) rfl rfl rfl (by decide +kernel)
set_option maxRecDepth 65536 in
theorem w_c14 : (Jvm.Cond.code ({ cls := "WindowFuncEngine", name := "compute", desc := "()I" } : Jvm.MethodName) prog_1_method_11_code (2 : Nat) (Option.some Jvm.ClassFile.FieldType.int)).before args0 about1 = true := code_word (m := ⟨2, 10⟩) (meth := k2m10) (c := k2c10) (by decide +kernel) rfl rfl rfl (by decide +kernel)
set_option maxRecDepth 65536 in
theorem w_c15 : (Jvm.Cond.code ({ cls := "WindowFuncEngine", name := "needsOrder", desc := "()Z" } : Jvm.MethodName) prog_1_method_12_code (3 : Nat) (Option.some Jvm.ClassFile.FieldType.boolean)).before args0 about1 = true := code_word (m := ⟨2, 11⟩) (meth := k2m11) (c := k2c11) (by decide +kernel) rfl rfl rfl (by decide +kernel)
set_option maxRecDepth 65536 in
theorem w_c16 : (Jvm.Cond.code ({ cls := "WindowFuncEngine", name := "clear", desc := "()V" } : Jvm.MethodName) prog_1_method_4_code (1 : Nat) (Option.none : Option Jvm.ClassFile.FieldType)).before args0 about1 = true := code_word (m := ⟨2, 3⟩) (meth := k2m3) (c := k2c3) (by decide +kernel) rfl rfl rfl (by decide +kernel)
set_option maxRecDepth 65536 in
theorem w_c17 : (Jvm.Cond.code ({ cls := "WindowFuncEngine", name := "setFrameStart", desc := "(II)Z" } : Jvm.MethodName) prog_1_method_8_code (4 : Nat) (Option.some Jvm.ClassFile.FieldType.boolean)).before args0 about1 = true := code_word (m := ⟨2, 7⟩) (meth := k2m7) (c := k2c7) (by decide +kernel) rfl rfl rfl (by decide +kernel)
set_option maxRecDepth 65536 in
theorem w_c18 : (Jvm.Cond.code ({ cls := "WindowFuncEngine", name := "computeRow", desc := "(I)V" } : Jvm.MethodName) prog_1_method_30_code (2 : Nat) (Option.none : Option Jvm.ClassFile.FieldType)).before args0 about1 = true := code_word (m := ⟨2, 29⟩) (meth := k2m29) (c := k2c29) (by decide +kernel) rfl rfl rfl (by decide +kernel)
set_option maxRecDepth 65536 in
theorem w_c19 : (Jvm.Cond.code ({ cls := "WindowFuncEngine", name := "buildPartition", desc := "(I)V" } : Jvm.MethodName) prog_1_method_23_code (6 : Nat) (Option.none : Option Jvm.ClassFile.FieldType)).before args0 about1 = true := code_word (m := ⟨2, 22⟩) (meth := k2m22) (c := k2c22) (by decide +kernel) rfl rfl rfl (by decide +kernel)
set_option maxRecDepth 65536 in
theorem w_c20 : (Jvm.Cond.code ({ cls := "WindowFuncEngine", name := "before", desc := "(II)Z" } : Jvm.MethodName) prog_1_method_21_code (5 : Nat) (Option.some Jvm.ClassFile.FieldType.boolean)).before args0 about1 = true := code_word (m := ⟨2, 20⟩) (meth := k2m20) (c := k2c20) (by decide +kernel) rfl rfl rfl (by decide +kernel)
set_option maxRecDepth 65536 in
theorem w_c21 : (Jvm.Cond.code ({ cls := "WindowFuncEngine", name := "keyNull", desc := "(I)Z" } : Jvm.MethodName) prog_1_method_19_code (2 : Nat) (Option.some Jvm.ClassFile.FieldType.boolean)).before args0 about1 = true := code_word (m := ⟨2, 18⟩) (meth := k2m18) (c := k2c18) (by decide +kernel) rfl rfl rfl (by decide +kernel)
set_option maxRecDepth 65536 in
theorem w_c22 : (Jvm.Cond.code ({ cls := "WindowFuncEngine", name := "aggregateFrame", desc := "(I)V" } : Jvm.MethodName) prog_1_method_31_code (7 : Nat) (Option.none : Option Jvm.ClassFile.FieldType)).before args0 about1 = true := code_word (m := ⟨2, 30⟩) (meth := k2m30) (c := k2c30) (by decide +kernel) rfl rfl rfl (by decide +kernel)
set_option maxRecDepth 65536 in
theorem w_c23 : (Jvm.Cond.code ({ cls := "WindowFuncEngine", name := "inFrame", desc := "(IIII)Z" } : Jvm.MethodName) prog_1_method_24_code (5 : Nat) (Option.some Jvm.ClassFile.FieldType.boolean)).before args0 about1 = true := code_word (m := ⟨2, 23⟩) (meth := k2m23) (c := k2c23) (by decide +kernel) rfl rfl rfl (by decide +kernel)
set_option maxRecDepth 65536 in
theorem w_c24 : (Jvm.Cond.code ({ cls := "WindowFuncEngine", name := "rangeStartHolds", desc := "(IIII)Z" } : Jvm.MethodName) prog_1_method_28_code (10 : Nat) (Option.some Jvm.ClassFile.FieldType.boolean)).before args0 about1 = true := code_word (m := ⟨2, 27⟩) (meth := k2m27) (c := k2c27) (by decide +kernel) rfl rfl rfl (by decide +kernel)
set_option maxRecDepth 65536 in
theorem w_c25 : (Jvm.Cond.code ({ cls := "WindowFuncEngine", name := "rangeEndHolds", desc := "(IIII)Z" } : Jvm.MethodName) prog_1_method_29_code (10 : Nat) (Option.some Jvm.ClassFile.FieldType.boolean)).before args0 about1 = true := code_word (m := ⟨2, 28⟩) (meth := k2m28) (c := k2c28) (by decide +kernel) rfl rfl rfl (by decide +kernel)
set_option maxRecDepth 65536 in
theorem w_c26 : (Jvm.Cond.code ({ cls := "WindowFuncEngine", name := "peer", desc := "(II)Z" } : Jvm.MethodName) prog_1_method_22_code (5 : Nat) (Option.some Jvm.ClassFile.FieldType.boolean)).before args0 about1 = true := code_word (m := ⟨2, 21⟩) (meth := k2m21) (c := k2c21) (by decide +kernel) rfl rfl rfl (by decide +kernel)
set_option maxRecDepth 65536 in
theorem w_c27 : (Jvm.Cond.code ({ cls := "WindowFuncEngine", name := "valNull", desc := "(I)Z" } : Jvm.MethodName) prog_1_method_20_code (2 : Nat) (Option.some Jvm.ClassFile.FieldType.boolean)).before args0 about1 = true := code_word (m := ⟨2, 19⟩) (meth := k2m19) (c := k2c19) (by decide +kernel) rfl rfl rfl (by decide +kernel)
set_option maxRecDepth 65536 in
theorem w_c28 : (Jvm.Cond.code ({ cls := "WindowFuncEngine", name := "applyFunction", desc := "(I)V" } : Jvm.MethodName) prog_1_method_33_code (5 : Nat) (Option.none : Option Jvm.ClassFile.FieldType)).before args0 about1 = true := code_word (m := ⟨2, 32⟩) (meth := k2m32) (c := k2c32) (by decide +kernel) rfl rfl rfl (by decide +kernel)
set_option maxRecDepth 65536 in
theorem w_c29 : (Jvm.Cond.code ({ cls := "WindowFuncEngine", name := "setRes", desc := "(IJZ)V" } : Jvm.MethodName) prog_1_method_32_code (5 : Nat) (Option.none : Option Jvm.ClassFile.FieldType)).before args0 about1 = true := code_word (m := ⟨2, 31⟩) (meth := k2m31) (c := k2c31) (by decide +kernel) rfl rfl rfl (by decide +kernel)
set_option maxRecDepth 65536 in
theorem w_c30 : (Jvm.Cond.code ({ cls := "WindowFuncEngine", name := "setFrameEnd", desc := "(II)Z" } : Jvm.MethodName) prog_1_method_9_code (4 : Nat) (Option.some Jvm.ClassFile.FieldType.boolean)).before args0 about1 = true := code_word (m := ⟨2, 8⟩) (meth := k2m8) (c := k2c8) (by decide +kernel) rfl rfl rfl (by decide +kernel)
set_option maxRecDepth 65536 in
theorem w_c31 : (Jvm.Cond.code ({ cls := "WindowFuncEngine", name := "setFrameMode", desc := "(I)Z" } : Jvm.MethodName) prog_1_method_7_code (2 : Nat) (Option.some Jvm.ClassFile.FieldType.boolean)).before args0 about1 = true := code_word (m := ⟨2, 6⟩) (meth := k2m6) (c := k2c6) (by decide +kernel) rfl rfl rfl (by decide +kernel)
set_option maxRecDepth 65536 in
theorem w_c32 : (Jvm.Cond.code ({ cls := "WindowFuncEngine", name := "setOrder", desc := "(II)Z" } : Jvm.MethodName) prog_1_method_6_code (3 : Nat) (Option.some Jvm.ClassFile.FieldType.boolean)).before args0 about1 = true := code_word (m := ⟨2, 5⟩) (meth := k2m5) (c := k2c5) (by decide +kernel) rfl rfl rfl (by decide +kernel)
set_option maxRecDepth 65536 in
theorem w_c33 : (Jvm.Cond.code ({ cls := "WindowFuncEngine", name := "distance", desc := "(II)J" } : Jvm.MethodName) prog_1_method_27_code (3 : Nat) (Option.some Jvm.ClassFile.FieldType.long)).before args0 about1 = true := code_word (m := ⟨2, 26⟩) (meth := k2m26) (c := k2c26) (by decide +kernel) rfl rfl rfl (by decide +kernel)
set_option maxRecDepth 65536 in
theorem w_c34 : (Jvm.Cond.code ({ cls := "WindowFuncEngine", name := "rankOf", desc := "(II)J" } : Jvm.MethodName) prog_1_method_34_code (6 : Nat) (Option.some Jvm.ClassFile.FieldType.long)).before args0 about1 = true := code_word (m := ⟨2, 33⟩) (meth := k2m33) (c := k2c33) (by decide +kernel) rfl rfl rfl (by decide +kernel)
set_option maxRecDepth 65536 in
theorem w_c35 : (Jvm.Cond.code ({ cls := "WindowFuncEngine", name := "rowsStartHolds", desc := "(II)Z" } : Jvm.MethodName) prog_1_method_25_code (9 : Nat) (Option.some Jvm.ClassFile.FieldType.boolean)).before args0 about1 = true := code_word (m := ⟨2, 24⟩) (meth := k2m24) (c := k2c24) (by decide +kernel) rfl rfl rfl (by decide +kernel)
set_option maxRecDepth 65536 in
theorem w_c36 : (Jvm.Cond.code ({ cls := "WindowFuncEngine", name := "rowsEndHolds", desc := "(II)Z" } : Jvm.MethodName) prog_1_method_26_code (9 : Nat) (Option.some Jvm.ClassFile.FieldType.boolean)).before args0 about1 = true := code_word (m := ⟨2, 25⟩) (meth := k2m25) (c := k2c25) (by decide +kernel) rfl rfl rfl (by decide +kernel)
set_option maxRecDepth 65536 in
theorem w_c37 : (Jvm.Cond.code ({ cls := "WindowFuncEngine", name := "denseRankOf", desc := "(II)J" } : Jvm.MethodName) prog_1_method_35_code (7 : Nat) (Option.some Jvm.ClassFile.FieldType.long)).before args0 about1 = true := code_word (m := ⟨2, 34⟩) (meth := k2m34) (c := k2c34) (by decide +kernel) rfl rfl rfl (by decide +kernel)
set_option maxRecDepth 65536 in
theorem w_c38 : (Jvm.Cond.code ({ cls := "WindowFuncEngine", name := "shiftValue", desc := "(IIZ)V" } : Jvm.MethodName) prog_1_method_36_code (7 : Nat) (Option.none : Option Jvm.ClassFile.FieldType)).before args0 about1 = true := code_word (m := ⟨2, 35⟩) (meth := k2m35) (c := k2c35) (by decide +kernel) rfl rfl rfl (by decide +kernel)
def codes1 : List Jvm.Cond := [Jvm.Cond.code x code maxLocals ret, Jvm.Cond.code ({ cls := "WindowFuncEngine", name := "<init>", desc := "(I)V" } : Jvm.MethodName) prog_1_method_1_code (3 : Nat) (Option.none : Option Jvm.ClassFile.FieldType), Jvm.Cond.code ({ cls := "java/lang/Object", name := "<init>", desc := "()V" } : Jvm.MethodName) object_method_1_code (1 : Nat) (Option.none : Option Jvm.ClassFile.FieldType), Jvm.Cond.code ({ cls := "WindowFuncEngine", name := "resetSpec", desc := "()V" } : Jvm.MethodName) prog_1_method_2_code (1 : Nat) (Option.none : Option Jvm.ClassFile.FieldType), Jvm.Cond.code ({ cls := "WindowFuncEngine", name := "addRow", desc := "(IIII)I" } : Jvm.MethodName) prog_1_method_3_code (6 : Nat) (Option.some Jvm.ClassFile.FieldType.int), Jvm.Cond.code ({ cls := "WindowFuncEngine", name := "rowCount", desc := "()I" } : Jvm.MethodName) prog_1_method_5_code (1 : Nat) (Option.some Jvm.ClassFile.FieldType.int), Jvm.Cond.code ({ cls := "WindowFuncEngine", name := "isComputed", desc := "()Z" } : Jvm.MethodName) prog_1_method_13_code (1 : Nat) (Option.some Jvm.ClassFile.FieldType.boolean), Jvm.Cond.code ({ cls := "WindowFuncEngineL6", name := "spec", desc := "(LWindowFuncEngine;IIIIIIIIII)Z" } : Jvm.MethodName) method_3_code (11 : Nat) (Option.some Jvm.ClassFile.FieldType.boolean), Jvm.Cond.code ({ cls := "WindowFuncEngine", name := "getSpec", desc := "(I)I" } : Jvm.MethodName) prog_1_method_18_code (2 : Nat) (Option.some Jvm.ClassFile.FieldType.int), Jvm.Cond.code ({ cls := "WindowFuncEngine", name := "getRowField", desc := "(II)I" } : Jvm.MethodName) prog_1_method_17_code (3 : Nat) (Option.some Jvm.ClassFile.FieldType.int), Jvm.Cond.code ({ cls := "WindowFuncEngine", name := "getFrameCount", desc := "(I)I" } : Jvm.MethodName) prog_1_method_16_code (2 : Nat) (Option.some Jvm.ClassFile.FieldType.int), Jvm.Cond.code ({ cls := "WindowFuncEngine", name := "getResult", desc := "(I)J" } : Jvm.MethodName) prog_1_method_14_code (2 : Nat) (Option.some Jvm.ClassFile.FieldType.long), Jvm.Cond.code ({ cls := "WindowFuncEngine", name := "isResultNull", desc := "(I)Z" } : Jvm.MethodName) prog_1_method_15_code (2 : Nat) (Option.some Jvm.ClassFile.FieldType.boolean), Jvm.Cond.code ({ cls := "WindowFuncEngine", name := "setFunction", desc := "(II)Z" } : Jvm.MethodName) prog_1_method_10_code (4 : Nat) (Option.some Jvm.ClassFile.FieldType.boolean), Jvm.Cond.code ({ cls := "WindowFuncEngine", name := "compute", desc := "()I" } : Jvm.MethodName) prog_1_method_11_code (2 : Nat) (Option.some Jvm.ClassFile.FieldType.int), Jvm.Cond.code ({ cls := "WindowFuncEngine", name := "needsOrder", desc := "()Z" } : Jvm.MethodName) prog_1_method_12_code (3 : Nat) (Option.some Jvm.ClassFile.FieldType.boolean), Jvm.Cond.code ({ cls := "WindowFuncEngine", name := "clear", desc := "()V" } : Jvm.MethodName) prog_1_method_4_code (1 : Nat) (Option.none : Option Jvm.ClassFile.FieldType), Jvm.Cond.code ({ cls := "WindowFuncEngine", name := "setFrameStart", desc := "(II)Z" } : Jvm.MethodName) prog_1_method_8_code (4 : Nat) (Option.some Jvm.ClassFile.FieldType.boolean), Jvm.Cond.code ({ cls := "WindowFuncEngine", name := "computeRow", desc := "(I)V" } : Jvm.MethodName) prog_1_method_30_code (2 : Nat) (Option.none : Option Jvm.ClassFile.FieldType), Jvm.Cond.code ({ cls := "WindowFuncEngine", name := "buildPartition", desc := "(I)V" } : Jvm.MethodName) prog_1_method_23_code (6 : Nat) (Option.none : Option Jvm.ClassFile.FieldType), Jvm.Cond.code ({ cls := "WindowFuncEngine", name := "before", desc := "(II)Z" } : Jvm.MethodName) prog_1_method_21_code (5 : Nat) (Option.some Jvm.ClassFile.FieldType.boolean), Jvm.Cond.code ({ cls := "WindowFuncEngine", name := "keyNull", desc := "(I)Z" } : Jvm.MethodName) prog_1_method_19_code (2 : Nat) (Option.some Jvm.ClassFile.FieldType.boolean), Jvm.Cond.code ({ cls := "WindowFuncEngine", name := "aggregateFrame", desc := "(I)V" } : Jvm.MethodName) prog_1_method_31_code (7 : Nat) (Option.none : Option Jvm.ClassFile.FieldType), Jvm.Cond.code ({ cls := "WindowFuncEngine", name := "inFrame", desc := "(IIII)Z" } : Jvm.MethodName) prog_1_method_24_code (5 : Nat) (Option.some Jvm.ClassFile.FieldType.boolean), Jvm.Cond.code ({ cls := "WindowFuncEngine", name := "rangeStartHolds", desc := "(IIII)Z" } : Jvm.MethodName) prog_1_method_28_code (10 : Nat) (Option.some Jvm.ClassFile.FieldType.boolean), Jvm.Cond.code ({ cls := "WindowFuncEngine", name := "rangeEndHolds", desc := "(IIII)Z" } : Jvm.MethodName) prog_1_method_29_code (10 : Nat) (Option.some Jvm.ClassFile.FieldType.boolean), Jvm.Cond.code ({ cls := "WindowFuncEngine", name := "peer", desc := "(II)Z" } : Jvm.MethodName) prog_1_method_22_code (5 : Nat) (Option.some Jvm.ClassFile.FieldType.boolean), Jvm.Cond.code ({ cls := "WindowFuncEngine", name := "valNull", desc := "(I)Z" } : Jvm.MethodName) prog_1_method_20_code (2 : Nat) (Option.some Jvm.ClassFile.FieldType.boolean), Jvm.Cond.code ({ cls := "WindowFuncEngine", name := "applyFunction", desc := "(I)V" } : Jvm.MethodName) prog_1_method_33_code (5 : Nat) (Option.none : Option Jvm.ClassFile.FieldType), Jvm.Cond.code ({ cls := "WindowFuncEngine", name := "setRes", desc := "(IJZ)V" } : Jvm.MethodName) prog_1_method_32_code (5 : Nat) (Option.none : Option Jvm.ClassFile.FieldType), Jvm.Cond.code ({ cls := "WindowFuncEngine", name := "setFrameEnd", desc := "(II)Z" } : Jvm.MethodName) prog_1_method_9_code (4 : Nat) (Option.some Jvm.ClassFile.FieldType.boolean), Jvm.Cond.code ({ cls := "WindowFuncEngine", name := "setFrameMode", desc := "(I)Z" } : Jvm.MethodName) prog_1_method_7_code (2 : Nat) (Option.some Jvm.ClassFile.FieldType.boolean), Jvm.Cond.code ({ cls := "WindowFuncEngine", name := "setOrder", desc := "(II)Z" } : Jvm.MethodName) prog_1_method_6_code (3 : Nat) (Option.some Jvm.ClassFile.FieldType.boolean), Jvm.Cond.code ({ cls := "WindowFuncEngine", name := "distance", desc := "(II)J" } : Jvm.MethodName) prog_1_method_27_code (3 : Nat) (Option.some Jvm.ClassFile.FieldType.long), Jvm.Cond.code ({ cls := "WindowFuncEngine", name := "rankOf", desc := "(II)J" } : Jvm.MethodName) prog_1_method_34_code (6 : Nat) (Option.some Jvm.ClassFile.FieldType.long), Jvm.Cond.code ({ cls := "WindowFuncEngine", name := "rowsStartHolds", desc := "(II)Z" } : Jvm.MethodName) prog_1_method_25_code (9 : Nat) (Option.some Jvm.ClassFile.FieldType.boolean), Jvm.Cond.code ({ cls := "WindowFuncEngine", name := "rowsEndHolds", desc := "(II)Z" } : Jvm.MethodName) prog_1_method_26_code (9 : Nat) (Option.some Jvm.ClassFile.FieldType.boolean), Jvm.Cond.code ({ cls := "WindowFuncEngine", name := "denseRankOf", desc := "(II)J" } : Jvm.MethodName) prog_1_method_35_code (7 : Nat) (Option.some Jvm.ClassFile.FieldType.long), Jvm.Cond.code ({ cls := "WindowFuncEngine", name := "shiftValue", desc := "(IIZ)V" } : Jvm.MethodName) prog_1_method_36_code (7 : Nat) (Option.none : Option Jvm.ClassFile.FieldType)]
set_option maxRecDepth 65536 in
theorem codes_eq : words1.filter isCode = codes1 := rfl
theorem w_codes : ∀ c ∈ words1.filter isCode, c.before args0 about1 = true := by
  rw [codes_eq]
  intro c hc
  simp only [codes1, List.mem_cons, List.not_mem_nil, or_false] at hc
  rcases hc with rfl | rfl | rfl | rfl | rfl | rfl | rfl | rfl | rfl | rfl | rfl | rfl | rfl | rfl | rfl | rfl | rfl | rfl | rfl | rfl | rfl | rfl | rfl | rfl | rfl | rfl | rfl | rfl | rfl | rfl | rfl | rfl | rfl | rfl | rfl | rfl | rfl | rfl | rfl
  · exact w_c0
  · exact w_c1
  · exact w_c2
  · exact w_c3
  · exact w_c4
  · exact w_c5
  · exact w_c6
  · exact w_c7
  · exact w_c8
  · exact w_c9
  · exact w_c10
  · exact w_c11
  · exact w_c12
  · exact w_c13
  · exact w_c14
  · exact w_c15
  · exact w_c16
  · exact w_c17
  · exact w_c18
  · exact w_c19
  · exact w_c20
  · exact w_c21
  · exact w_c22
  · exact w_c23
  · exact w_c24
  · exact w_c25
  · exact w_c26
  · exact w_c27
  · exact w_c28
  · exact w_c29
  · exact w_c30
  · exact w_c31
  · exact w_c32
  · exact w_c33
  · exact w_c34
  · exact w_c35
  · exact w_c36
  · exact w_c37
  · exact w_c38
set_option maxRecDepth 65536 in
theorem w_t1 : (words1.take 24).all (fun c => isCode c || c.before args0 about1) = true := by decide +kernel
set_option maxRecDepth 65536 in
theorem w_t2 : ((words1.drop 24).take 24).all (fun c => isCode c || c.before args0 about1) = true := by decide +kernel
set_option maxRecDepth 65536 in
theorem w_t3 : (((words1.drop 24).drop 24).take 24).all (fun c => isCode c || c.before args0 about1) = true := by decide +kernel
set_option maxRecDepth 65536 in
theorem w_t4 : ((((words1.drop 24).drop 24).drop 24).take 24).all (fun c => isCode c || c.before args0 about1) = true := by decide +kernel
set_option maxRecDepth 65536 in
theorem w_t5 : (((((words1.drop 24).drop 24).drop 24).drop 24).take 24).all (fun c => isCode c || c.before args0 about1) = true := by decide +kernel
set_option maxRecDepth 65536 in
theorem w_t6 : ((((((words1.drop 24).drop 24).drop 24).drop 24).drop 24).take 24).all (fun c => isCode c || c.before args0 about1) = true := by decide +kernel
set_option maxRecDepth 65536 in
theorem w_t7 : (((((((words1.drop 24).drop 24).drop 24).drop 24).drop 24).drop 24).take 24).all (fun c => isCode c || c.before args0 about1) = true := by decide +kernel
set_option maxRecDepth 65536 in
theorem w_t8 : ((((((((words1.drop 24).drop 24).drop 24).drop 24).drop 24).drop 24).drop 24).take 24).all (fun c => isCode c || c.before args0 about1) = true := by decide +kernel
set_option maxRecDepth 65536 in
theorem w_t9 : (((((((((words1.drop 24).drop 24).drop 24).drop 24).drop 24).drop 24).drop 24).drop 24).take 24).all (fun c => isCode c || c.before args0 about1) = true := by decide +kernel
set_option maxRecDepth 65536 in
theorem w_t10 : (((((((((words1.drop 24).drop 24).drop 24).drop 24).drop 24).drop 24).drop 24).drop 24).drop 24).all (fun c => isCode c || c.before args0 about1) = true := by decide +kernel
theorem w_tables : (allAtoms (Jvm.Cond.code x code maxLocals ret :: tables_1)).before args0 about1 = true := by
  rw [allAtoms_all]
  show words1.all (fun c => c.before args0 about1) = true
  refine all_split ?_ w_codes
  rw [← List.take_append_drop 24 words1, List.all_append, w_t1, ← List.take_append_drop 24 (words1.drop 24), List.all_append, w_t2, ← List.take_append_drop 24 ((words1.drop 24).drop 24), List.all_append, w_t3, ← List.take_append_drop 24 (((words1.drop 24).drop 24).drop 24), List.all_append, w_t4, ← List.take_append_drop 24 ((((words1.drop 24).drop 24).drop 24).drop 24), List.all_append, w_t5, ← List.take_append_drop 24 (((((words1.drop 24).drop 24).drop 24).drop 24).drop 24), List.all_append, w_t6, ← List.take_append_drop 24 ((((((words1.drop 24).drop 24).drop 24).drop 24).drop 24).drop 24), List.all_append, w_t7, ← List.take_append_drop 24 (((((((words1.drop 24).drop 24).drop 24).drop 24).drop 24).drop 24).drop 24), List.all_append, w_t8, ← List.take_append_drop 24 ((((((((words1.drop 24).drop 24).drop 24).drop 24).drop 24).drop 24).drop 24).drop 24), List.all_append, w_t9, w_t10]
  rfl
set_option maxRecDepth 65536 in
theorem w_rest : rest_1_c.before args0 about1 = true := by decide +kernel
set_option maxRecDepth 65536 in
theorem w_case : (Jvm.Cond.and given_1 narrow_1).before args0 about1 = true := by decide +kernel
theorem w_applies : (headSpec (Jvm.Cond.code x code maxLocals ret :: tables_1) room_1).applies x e0.platform about1 = true :=
  (Spec.applies_iff w_frames).mpr ⟨w_running, w_runnable, w_alone, w_named, w_hears, w_ripe, w_room, w_tables⟩
theorem atStart : AtStart classFile x code maxLocals ret World_1 tables_1 room_1 Calls_1 rest_1 Pre_1 launch0 p0 e0 about1 theMethod args0 below0 :=
  ⟨lists_1, trivial, launch0.admits_env _ _ _, launch0.least_env, fairChoices_fair.cas, fairChoices_fair.clock, w_frames, w_args, w_heap, w_applies, trivial, w_rest, w_case⟩
end start1
theorem witness_1 : WitnessClaimed_1 := ⟨start1.p0, start1.e0, start1.about1, start1.theMethod, start1.args0, start1.below0, start1.atStart⟩
end Jvm.Pilot.@@N@@
