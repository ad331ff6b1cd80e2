import JvmDerived
import JvmDerived.Pilot.@@N@@Statement
import JvmDerived.Pilot.@@N@@Code
set_option linter.unusedVariables false
set_option linter.unusedSimpArgs false
namespace Jvm.RoadKit
open Sem ClassFile Op Lib Jvm.Stand Jvm.Free Jvm.LawKit
section New
variable {p : Program} {l : Launch} {e : Env} {R : Room} {s : State} {m : MethodId} {args : Array Value} {below : List Frame} {meth : Method} {c : Code} {T : State} {locs : List Loc} {cells slots : Nat}
theorem retI (X : Stand p l e R s m args below meth c T locs cells slots) (hx : p.tables.exec = Jvm.exec) {pc : Nat} {Ls : Array Slot} {z : Int32} {rest : List Value} (hret : meth.sig.returnType = some .int) (hd : decode c.code pc = .ok (.ireturn, 1)) {fs : List Frame}
    (hl : ∀ (f : JFrame) (acts : List Action), f.method = m → f.locked = none → f.entered = [] → (doReturn e (T.setTop f) acts (some (.int z))).1 = T.setFrames fs) : Steps p.tables e below (T.setTop (mkF m pc Ls (.int z :: rest))) (T.setFrames fs) := by
  have hm' : T.vm.method? m = some meth := X.method'
  have hn : narrow .int (.int z) = .int z := rfl
  show Steps p.tables e below (T.setTop { method := m, pc := pc, locals := Ls, stack := _ :: rest, locked := none }) _
  jvm_step X.here [X.here.top, hx, hd, hm', hret, hn]
  first | (intro acts; rw [hl _ acts rfl rfl rfl]) | rw [hl _ _ rfl rfl rfl]
  exact Steps.refl _
end New
end Jvm.RoadKit
namespace Jvm.Pilot.@@N@@
open Jvm Jvm.ClassFile Sem Op Lib Jvm.Free Jvm.Stand Jvm.LawKit Jvm.RoadKit Bundle Jvm.Pilot.@@N@@.Jvm.D
/-! TABLES of this claim: printed by claim.py -/
def k0 : Nat := 1
def cName : String := "WindowFuncEngine"
def cN : Nat := 27
def nF : Nat := 27
def kName (k : Nat) : String := bif Nat.beq k 0 then "WindowFuncEngineL5" else "WindowFuncEngine"
def fNm (k : Nat) : String := (bif Nat.ble 13 k then (bif Nat.ble 20 k then (bif Nat.ble 23 k then (bif Nat.ble 25 k then (bif Nat.ble 26 k then "aggMax" else "aggMin") else (bif Nat.ble 24 k then "aggRows" else "aggCount")) else (bif Nat.ble 21 k then (bif Nat.ble 22 k then "aggSum" else "curPos") else "sortedLen")) else (bif Nat.ble 16 k then (bif Nat.ble 18 k then (bif Nat.ble 19 k then "computed" else "fnArg") else (bif Nat.ble 17 k then "fn" else "endOff")) else (bif Nat.ble 14 k then (bif Nat.ble 15 k then "endKind" else "startOff") else "startKind"))) else (bif Nat.ble 6 k then (bif Nat.ble 9 k then (bif Nat.ble 11 k then (bif Nat.ble 12 k then "mode" else "nulls") else (bif Nat.ble 10 k then "direction" else "rows")) else (bif Nat.ble 7 k then (bif Nat.ble 8 k then "cap" else "sorted") else "frameCnt")) else (bif Nat.ble 3 k then (bif Nat.ble 4 k then (bif Nat.ble 5 k then "resNull" else "res") else "flg") else (bif Nat.ble 1 k then (bif Nat.ble 2 k then "vals" else "keys") else "part"))))
def fDs (k : Nat) : String := (bif Nat.ble 13 k then (bif Nat.ble 20 k then (bif Nat.ble 23 k then (bif Nat.ble 25 k then (bif Nat.ble 26 k then "I" else "I") else (bif Nat.ble 24 k then "I" else "I")) else (bif Nat.ble 21 k then (bif Nat.ble 22 k then "J" else "I") else "I")) else (bif Nat.ble 16 k then (bif Nat.ble 18 k then (bif Nat.ble 19 k then "Z" else "I") else (bif Nat.ble 17 k then "I" else "I")) else (bif Nat.ble 14 k then (bif Nat.ble 15 k then "I" else "I") else "I"))) else (bif Nat.ble 6 k then (bif Nat.ble 9 k then (bif Nat.ble 11 k then (bif Nat.ble 12 k then "I" else "I") else (bif Nat.ble 10 k then "I" else "I")) else (bif Nat.ble 7 k then (bif Nat.ble 8 k then "I" else "[I") else "[I")) else (bif Nat.ble 3 k then (bif Nat.ble 4 k then (bif Nat.ble 5 k then "[Z" else "[J") else "[I") else (bif Nat.ble 1 k then (bif Nat.ble 2 k then "[I" else "[I") else "[I"))))
def fTy (k : Nat) : FieldType := (bif Nat.ble 13 k then (bif Nat.ble 20 k then (bif Nat.ble 23 k then (bif Nat.ble 25 k then (bif Nat.ble 26 k then .int else .int) else (bif Nat.ble 24 k then .int else .int)) else (bif Nat.ble 21 k then (bif Nat.ble 22 k then .long else .int) else .int)) else (bif Nat.ble 16 k then (bif Nat.ble 18 k then (bif Nat.ble 19 k then .boolean else .int) else (bif Nat.ble 17 k then .int else .int)) else (bif Nat.ble 14 k then (bif Nat.ble 15 k then .int else .int) else .int))) else (bif Nat.ble 6 k then (bif Nat.ble 9 k then (bif Nat.ble 11 k then (bif Nat.ble 12 k then .int else .int) else (bif Nat.ble 10 k then .int else .int)) else (bif Nat.ble 7 k then (bif Nat.ble 8 k then .int else (.array .int)) else (.array .int))) else (bif Nat.ble 3 k then (bif Nat.ble 4 k then (bif Nat.ble 5 k then (.array .boolean) else (.array .long)) else (.array .int)) else (bif Nat.ble 1 k then (bif Nat.ble 2 k then (.array .int) else (.array .int)) else (.array .int)))))
def fFin (k : Nat) : Bool := (bif Nat.ble 13 k then (bif Nat.ble 20 k then (bif Nat.ble 23 k then (bif Nat.ble 25 k then (bif Nat.ble 26 k then false else false) else (bif Nat.ble 24 k then false else false)) else (bif Nat.ble 21 k then (bif Nat.ble 22 k then false else false) else false)) else (bif Nat.ble 16 k then (bif Nat.ble 18 k then (bif Nat.ble 19 k then false else false) else (bif Nat.ble 17 k then false else false)) else (bif Nat.ble 14 k then (bif Nat.ble 15 k then false else false) else false))) else (bif Nat.ble 6 k then (bif Nat.ble 9 k then (bif Nat.ble 11 k then (bif Nat.ble 12 k then false else false) else (bif Nat.ble 10 k then false else false)) else (bif Nat.ble 7 k then (bif Nat.ble 8 k then false else false) else false)) else (bif Nat.ble 3 k then (bif Nat.ble 4 k then (bif Nat.ble 5 k then false else false) else false) else (bif Nat.ble 1 k then (bif Nat.ble 2 k then false else false) else false))))
def cDef : List Value := [.null, .null, .null, .null, .null, .null, .null, .null, .int 0, .int 0, .int 0, .int 0, .int 0, .int 0, .int 0, .int 0, .int 0, .int 0, .int 0, .int 0, .int 0, .int 0, .long 0, .int 0, .int 0, .int 0, .int 0]
def cK : List Value := []
def pN : Nat := 39
def pTop : Nat := 240
def pK (m : Nat) : Nat := (bif Nat.ble 19 m then (bif Nat.ble 29 m then (bif Nat.ble 34 m then (bif Nat.ble 36 m then (bif Nat.ble 37 m then (bif Nat.ble 38 m then 1 else 1) else 1) else (bif Nat.ble 35 m then 1 else 1)) else (bif Nat.ble 31 m then (bif Nat.ble 32 m then (bif Nat.ble 33 m then 1 else 1) else 1) else (bif Nat.ble 30 m then 1 else 1))) else (bif Nat.ble 24 m then (bif Nat.ble 26 m then (bif Nat.ble 27 m then (bif Nat.ble 28 m then 1 else 1) else 1) else (bif Nat.ble 25 m then 1 else 1)) else (bif Nat.ble 21 m then (bif Nat.ble 22 m then (bif Nat.ble 23 m then 1 else 1) else 1) else (bif Nat.ble 20 m then 1 else 1)))) else (bif Nat.ble 9 m then (bif Nat.ble 14 m then (bif Nat.ble 16 m then (bif Nat.ble 17 m then (bif Nat.ble 18 m then 1 else 1) else 1) else (bif Nat.ble 15 m then 1 else 1)) else (bif Nat.ble 11 m then (bif Nat.ble 12 m then (bif Nat.ble 13 m then 1 else 1) else 1) else (bif Nat.ble 10 m then 1 else 1))) else (bif Nat.ble 4 m then (bif Nat.ble 6 m then (bif Nat.ble 7 m then (bif Nat.ble 8 m then 0 else 1) else 1) else (bif Nat.ble 5 m then 1 else 1)) else (bif Nat.ble 2 m then (bif Nat.ble 3 m then 0 else 1) else (bif Nat.ble 1 m then 1 else 0)))))
def pNm (m : Nat) : String := (bif Nat.ble 19 m then (bif Nat.ble 29 m then (bif Nat.ble 34 m then (bif Nat.ble 36 m then (bif Nat.ble 37 m then (bif Nat.ble 38 m then "rankOf" else "distance") else "shiftValue") else (bif Nat.ble 35 m then "rowsEndHolds" else "rowsStartHolds")) else (bif Nat.ble 31 m then (bif Nat.ble 32 m then (bif Nat.ble 33 m then "denseRankOf" else "before") else "setRes") else (bif Nat.ble 30 m then "applyFunction" else "valNull"))) else (bif Nat.ble 24 m then (bif Nat.ble 26 m then (bif Nat.ble 27 m then (bif Nat.ble 28 m then "keyNull" else "peer") else "rangeEndHolds") else (bif Nat.ble 25 m then "rangeStartHolds" else "inFrame")) else (bif Nat.ble 21 m then (bif Nat.ble 22 m then (bif Nat.ble 23 m then "aggregateFrame" else "buildPartition") else "computeRow") else (bif Nat.ble 20 m then "setFrameEnd" else "needsOrder")))) else (bif Nat.ble 9 m then (bif Nat.ble 14 m then (bif Nat.ble 16 m then (bif Nat.ble 17 m then (bif Nat.ble 18 m then "compute" else "setFrameStart") else "setFunction") else (bif Nat.ble 15 m then "getFrameCount" else "isResultNull")) else (bif Nat.ble 11 m then (bif Nat.ble 12 m then (bif Nat.ble 13 m then "getResult" else "getRowField") else "getSpec") else (bif Nat.ble 10 m then "isComputed" else "rowCount"))) else (bif Nat.ble 4 m then (bif Nat.ble 6 m then (bif Nat.ble 7 m then (bif Nat.ble 8 m then "same" else "clear") else "setOrder") else (bif Nat.ble 5 m then "addRow" else "setFrameMode")) else (bif Nat.ble 2 m then (bif Nat.ble 3 m then "apply" else "resetSpec") else (bif Nat.ble 1 m then "<init>" else "law")))))
def pDs (m : Nat) : String := (bif Nat.ble 19 m then (bif Nat.ble 29 m then (bif Nat.ble 34 m then (bif Nat.ble 36 m then (bif Nat.ble 37 m then (bif Nat.ble 38 m then "(II)J" else "(II)J") else "(IIZ)V") else (bif Nat.ble 35 m then "(II)Z" else "(II)Z")) else (bif Nat.ble 31 m then (bif Nat.ble 32 m then (bif Nat.ble 33 m then "(II)J" else "(II)Z") else "(IJZ)V") else (bif Nat.ble 30 m then "(I)V" else "(I)Z"))) else (bif Nat.ble 24 m then (bif Nat.ble 26 m then (bif Nat.ble 27 m then (bif Nat.ble 28 m then "(I)Z" else "(II)Z") else "(IIII)Z") else (bif Nat.ble 25 m then "(IIII)Z" else "(IIII)Z")) else (bif Nat.ble 21 m then (bif Nat.ble 22 m then (bif Nat.ble 23 m then "(I)V" else "(I)V") else "(I)V") else (bif Nat.ble 20 m then "(II)Z" else "()Z")))) else (bif Nat.ble 9 m then (bif Nat.ble 14 m then (bif Nat.ble 16 m then (bif Nat.ble 17 m then (bif Nat.ble 18 m then "()I" else "(II)Z") else "(II)Z") else (bif Nat.ble 15 m then "(I)I" else "(I)Z")) else (bif Nat.ble 11 m then (bif Nat.ble 12 m then (bif Nat.ble 13 m then "(I)J" else "(II)I") else "(I)I") else (bif Nat.ble 10 m then "()Z" else "()I"))) else (bif Nat.ble 4 m then (bif Nat.ble 6 m then (bif Nat.ble 7 m then (bif Nat.ble 8 m then "(LWindowFuncEngine;LWindowFuncEngine;)Z" else "()V") else "(II)Z") else (bif Nat.ble 5 m then "(IIII)I" else "(I)Z")) else (bif Nat.ble 2 m then (bif Nat.ble 3 m then "(LWindowFuncEngine;IIIII)Z" else "()V") else (bif Nat.ble 1 m then "(I)V" else "([I)Z")))))
def pName (m : Nat) : MethodName := ⟨kName (pK m), pNm m, pDs m⟩
def pBytes (m : Nat) : ByteArray := (bif Nat.ble 19 m then (bif Nat.ble 29 m then (bif Nat.ble 34 m then (bif Nat.ble 36 m then (bif Nat.ble 37 m then (bif Nat.ble 38 m then prog_1_method_34_code else prog_1_method_27_code) else prog_1_method_36_code) else (bif Nat.ble 35 m then prog_1_method_26_code else prog_1_method_25_code)) else (bif Nat.ble 31 m then (bif Nat.ble 32 m then (bif Nat.ble 33 m then prog_1_method_35_code else prog_1_method_21_code) else prog_1_method_32_code) else (bif Nat.ble 30 m then prog_1_method_33_code else prog_1_method_20_code))) else (bif Nat.ble 24 m then (bif Nat.ble 26 m then (bif Nat.ble 27 m then (bif Nat.ble 28 m then prog_1_method_19_code else prog_1_method_22_code) else prog_1_method_29_code) else (bif Nat.ble 25 m then prog_1_method_28_code else prog_1_method_24_code)) else (bif Nat.ble 21 m then (bif Nat.ble 22 m then (bif Nat.ble 23 m then prog_1_method_31_code else prog_1_method_23_code) else prog_1_method_30_code) else (bif Nat.ble 20 m then prog_1_method_9_code else prog_1_method_12_code)))) else (bif Nat.ble 9 m then (bif Nat.ble 14 m then (bif Nat.ble 16 m then (bif Nat.ble 17 m then (bif Nat.ble 18 m then prog_1_method_11_code else prog_1_method_8_code) else prog_1_method_10_code) else (bif Nat.ble 15 m then prog_1_method_16_code else prog_1_method_15_code)) else (bif Nat.ble 11 m then (bif Nat.ble 12 m then (bif Nat.ble 13 m then prog_1_method_14_code else prog_1_method_17_code) else prog_1_method_18_code) else (bif Nat.ble 10 m then prog_1_method_13_code else prog_1_method_5_code))) else (bif Nat.ble 4 m then (bif Nat.ble 6 m then (bif Nat.ble 7 m then (bif Nat.ble 8 m then method_3_code else prog_1_method_4_code) else prog_1_method_6_code) else (bif Nat.ble 5 m then prog_1_method_3_code else prog_1_method_7_code)) else (bif Nat.ble 2 m then (bif Nat.ble 3 m then method_2_code else prog_1_method_2_code) else (bif Nat.ble 1 m then prog_1_method_1_code else code)))))
def pMaxL (m : Nat) : Nat := (bif Nat.ble 19 m then (bif Nat.ble 29 m then (bif Nat.ble 34 m then (bif Nat.ble 36 m then (bif Nat.ble 37 m then (bif Nat.ble 38 m then 6 else 3) else 7) else (bif Nat.ble 35 m then 9 else 9)) else (bif Nat.ble 31 m then (bif Nat.ble 32 m then (bif Nat.ble 33 m then 7 else 5) else 5) else (bif Nat.ble 30 m then 5 else 2))) else (bif Nat.ble 24 m then (bif Nat.ble 26 m then (bif Nat.ble 27 m then (bif Nat.ble 28 m then 2 else 5) else 10) else (bif Nat.ble 25 m then 10 else 5)) else (bif Nat.ble 21 m then (bif Nat.ble 22 m then (bif Nat.ble 23 m then 7 else 6) else 2) else (bif Nat.ble 20 m then 4 else 3)))) else (bif Nat.ble 9 m then (bif Nat.ble 14 m then (bif Nat.ble 16 m then (bif Nat.ble 17 m then (bif Nat.ble 18 m then 2 else 4) else 4) else (bif Nat.ble 15 m then 2 else 2)) else (bif Nat.ble 11 m then (bif Nat.ble 12 m then (bif Nat.ble 13 m then 2 else 3) else 2) else (bif Nat.ble 10 m then 1 else 1))) else (bif Nat.ble 4 m then (bif Nat.ble 6 m then (bif Nat.ble 7 m then (bif Nat.ble 8 m then 4 else 1) else 3) else (bif Nat.ble 5 m then 6 else 2)) else (bif Nat.ble 2 m then (bif Nat.ble 3 m then 6 else 1) else (bif Nat.ble 1 m then 3 else 6)))))
def pRet (m : Nat) : Option FieldType := (bif Nat.ble 19 m then (bif Nat.ble 29 m then (bif Nat.ble 34 m then (bif Nat.ble 36 m then (bif Nat.ble 37 m then (bif Nat.ble 38 m then (some .long) else (some .long)) else none) else (bif Nat.ble 35 m then (some .boolean) else (some .boolean))) else (bif Nat.ble 31 m then (bif Nat.ble 32 m then (bif Nat.ble 33 m then (some .long) else (some .boolean)) else none) else (bif Nat.ble 30 m then none else (some .boolean)))) else (bif Nat.ble 24 m then (bif Nat.ble 26 m then (bif Nat.ble 27 m then (bif Nat.ble 28 m then (some .boolean) else (some .boolean)) else (some .boolean)) else (bif Nat.ble 25 m then (some .boolean) else (some .boolean))) else (bif Nat.ble 21 m then (bif Nat.ble 22 m then (bif Nat.ble 23 m then none else none) else none) else (bif Nat.ble 20 m then (some .boolean) else (some .boolean))))) else (bif Nat.ble 9 m then (bif Nat.ble 14 m then (bif Nat.ble 16 m then (bif Nat.ble 17 m then (bif Nat.ble 18 m then (some .int) else (some .boolean)) else (some .boolean)) else (bif Nat.ble 15 m then (some .int) else (some .boolean))) else (bif Nat.ble 11 m then (bif Nat.ble 12 m then (bif Nat.ble 13 m then (some .long) else (some .int)) else (some .int)) else (bif Nat.ble 10 m then (some .boolean) else (some .int)))) else (bif Nat.ble 4 m then (bif Nat.ble 6 m then (bif Nat.ble 7 m then (bif Nat.ble 8 m then (some .boolean) else none) else (some .boolean)) else (bif Nat.ble 5 m then (some .int) else (some .boolean))) else (bif Nat.ble 2 m then (bif Nat.ble 3 m then (some .boolean) else none) else (bif Nat.ble 1 m then none else (some .boolean))))))
def pNA (m : Nat) : Nat := (bif Nat.ble 19 m then (bif Nat.ble 29 m then (bif Nat.ble 34 m then (bif Nat.ble 36 m then (bif Nat.ble 37 m then (bif Nat.ble 38 m then 2 else 2) else 3) else (bif Nat.ble 35 m then 2 else 2)) else (bif Nat.ble 31 m then (bif Nat.ble 32 m then (bif Nat.ble 33 m then 2 else 2) else 3) else (bif Nat.ble 30 m then 1 else 1))) else (bif Nat.ble 24 m then (bif Nat.ble 26 m then (bif Nat.ble 27 m then (bif Nat.ble 28 m then 1 else 2) else 4) else (bif Nat.ble 25 m then 4 else 4)) else (bif Nat.ble 21 m then (bif Nat.ble 22 m then (bif Nat.ble 23 m then 1 else 1) else 1) else (bif Nat.ble 20 m then 2 else 0)))) else (bif Nat.ble 9 m then (bif Nat.ble 14 m then (bif Nat.ble 16 m then (bif Nat.ble 17 m then (bif Nat.ble 18 m then 0 else 2) else 2) else (bif Nat.ble 15 m then 1 else 1)) else (bif Nat.ble 11 m then (bif Nat.ble 12 m then (bif Nat.ble 13 m then 1 else 2) else 1) else (bif Nat.ble 10 m then 0 else 0))) else (bif Nat.ble 4 m then (bif Nat.ble 6 m then (bif Nat.ble 7 m then (bif Nat.ble 8 m then 2 else 0) else 2) else (bif Nat.ble 5 m then 4 else 1)) else (bif Nat.ble 2 m then (bif Nat.ble 3 m then 6 else 0) else (bif Nat.ble 1 m then 1 else 1)))))
def pFr (m : Nat) : Nat := (bif Nat.ble 19 m then (bif Nat.ble 29 m then (bif Nat.ble 34 m then (bif Nat.ble 36 m then (bif Nat.ble 37 m then (bif Nat.ble 38 m then 2 else 0) else 1) else (bif Nat.ble 35 m then 0 else 0)) else (bif Nat.ble 31 m then (bif Nat.ble 32 m then (bif Nat.ble 33 m then 2 else 1) else 0) else (bif Nat.ble 30 m then 3 else 0))) else (bif Nat.ble 24 m then (bif Nat.ble 26 m then (bif Nat.ble 27 m then (bif Nat.ble 28 m then 0 else 1) else 2) else (bif Nat.ble 25 m then 2 else 3)) else (bif Nat.ble 21 m then (bif Nat.ble 22 m then (bif Nat.ble 23 m then 4 else 2) else 5) else (bif Nat.ble 20 m then 0 else 0)))) else (bif Nat.ble 9 m then (bif Nat.ble 14 m then (bif Nat.ble 16 m then (bif Nat.ble 17 m then (bif Nat.ble 18 m then 6 else 0) else 0) else (bif Nat.ble 15 m then 0 else 0)) else (bif Nat.ble 11 m then (bif Nat.ble 12 m then (bif Nat.ble 13 m then 0 else 0) else 0) else (bif Nat.ble 10 m then 0 else 0))) else (bif Nat.ble 4 m then (bif Nat.ble 6 m then (bif Nat.ble 7 m then (bif Nat.ble 8 m then 1 else 0) else 0) else (bif Nat.ble 5 m then 0 else 0)) else (bif Nat.ble 2 m then (bif Nat.ble 3 m then 7 else 0) else (bif Nat.ble 1 m then 1 else 8)))))
def pLo (m : Nat) : Nat := (bif Nat.ble 19 m then (bif Nat.ble 29 m then (bif Nat.ble 34 m then (bif Nat.ble 36 m then (bif Nat.ble 37 m then (bif Nat.ble 38 m then 29 else 0) else 16) else (bif Nat.ble 35 m then 0 else 0)) else (bif Nat.ble 31 m then (bif Nat.ble 32 m then (bif Nat.ble 33 m then 29 else 13) else 0) else (bif Nat.ble 30 m then 47 else 0))) else (bif Nat.ble 24 m then (bif Nat.ble 26 m then (bif Nat.ble 27 m then (bif Nat.ble 28 m then 0 else 13) else 29) else (bif Nat.ble 25 m then 29 else 50)) else (bif Nat.ble 21 m then (bif Nat.ble 22 m then (bif Nat.ble 23 m then 66 else 29) else 84) else (bif Nat.ble 20 m then 0 else 0)))) else (bif Nat.ble 9 m then (bif Nat.ble 14 m then (bif Nat.ble 16 m then (bif Nat.ble 17 m then (bif Nat.ble 18 m then 97 else 0) else 0) else (bif Nat.ble 15 m then 0 else 0)) else (bif Nat.ble 11 m then (bif Nat.ble 12 m then (bif Nat.ble 13 m then 0 else 0) else 0) else (bif Nat.ble 10 m then 0 else 0))) else (bif Nat.ble 4 m then (bif Nat.ble 6 m then (bif Nat.ble 7 m then (bif Nat.ble 8 m then 15 else 0) else 0) else (bif Nat.ble 5 m then 0 else 0)) else (bif Nat.ble 2 m then (bif Nat.ble 3 m then 110 else 0) else (bif Nat.ble 1 m then 12 else 127)))))
abbrev tB (k p : Nat) (a b : Option (Instr × Nat)) : Option (Instr × Nat) := bif Nat.ble k p then a else b
abbrev tL (k p : Nat) (i : Instr) (x : Nat) : Option (Instr × Nat) := bif Nat.beq p k then some (i, x) else none
def cd0 (p : Nat) : Option (Instr × Nat) := (tB 55 p (tB 82 p (tB 92 p (tB 101 p (tB 105 p (tB 106 p (tB 109 p (tL 109 p .ireturn 0) (tL 106 p (.invokestatic 71) 8)) (tL 105 p (.aload_n 2) 0)) (tB 104 p (tL 104 p (.aload_n 1) 0) (tL 101 p (.goto (-79)) 22))) (tB 94 p (tB 97 p (tB 98 p (tL 98 p (.iinc 3 5) 0) (tL 97 p .pop 0)) (tL 94 p (.invokestatic 65) 3)) (tB 93 p (tL 93 p .iaload 0) (tL 92 p .iadd 0)))) (tB 87 p (tB 89 p (tB 90 p (tB 91 p (tL 91 p (.iconst 4) 0) (tL 90 p (.iload_n 3) 0)) (tL 89 p (.aload_n 0) 0)) (tB 88 p (tL 88 p .iaload 0) (tL 87 p .iadd 0))) (tB 84 p (tB 85 p (tB 86 p (tL 86 p (.iconst 3) 0) (tL 85 p (.iload_n 3) 0)) (tL 84 p (.aload_n 0) 0)) (tB 83 p (tL 83 p .iaload 0) (tL 82 p .iadd 0))))) (tB 71 p (tB 77 p (tB 79 p (tB 80 p (tB 81 p (tL 81 p (.iconst 2) 0) (tL 80 p (.iload_n 3) 0)) (tL 79 p (.aload_n 0) 0)) (tB 78 p (tL 78 p .iaload 0) (tL 77 p .iadd 0))) (tB 74 p (tB 75 p (tB 76 p (tL 76 p (.iconst 1) 0) (tL 75 p (.iload_n 3) 0)) (tL 74 p (.aload_n 0) 0)) (tB 72 p (tL 72 p (.iload 4) 0) (tL 71 p (.aload_n 2) 0)))) (tB 60 p (tB 64 p (tB 66 p (tB 68 p (tL 68 p (.ifCond .eq 30) 98) (tL 66 p (.iload 5) 0)) (tL 64 p (.istore 5) 0)) (tB 61 p (tL 61 p (.invokestatic 65) 3) (tL 60 p .iaload 0))) (tB 57 p (tB 58 p (tB 59 p (tL 59 p .iadd 0) (tL 58 p (.iconst 4) 0)) (tL 57 p (.iload_n 3) 0)) (tB 56 p (tL 56 p (.aload_n 0) 0) (tL 55 p .iaload 0)))))) (tB 32 p (tB 45 p (tB 50 p (tB 52 p (tB 53 p (tB 54 p (tL 54 p .iadd 0) (tL 53 p (.iconst 3) 0)) (tL 52 p (.iload_n 3) 0)) (tB 51 p (tL 51 p (.aload_n 0) 0) (tL 50 p .iaload 0))) (tB 47 p (tB 48 p (tB 49 p (tL 49 p .iadd 0) (tL 48 p (.iconst 2) 0)) (tL 47 p (.iload_n 3) 0)) (tB 46 p (tL 46 p (.aload_n 0) 0) (tL 45 p .iaload 0)))) (tB 39 p (tB 42 p (tB 43 p (tB 44 p (tL 44 p .iadd 0) (tL 43 p (.iconst 1) 0)) (tL 42 p (.iload_n 3) 0)) (tB 41 p (tL 41 p (.aload_n 0) 0) (tL 39 p (.iload 4) 0))) (tB 35 p (tB 36 p (tB 38 p (tL 38 p (.aload_n 1) 0) (tL 36 p (.istore 4) 0)) (tL 35 p .iand 0)) (tB 33 p (tL 33 p (.bipush 7) 0) (tL 32 p .iaload 0))))) (tB 20 p (tB 25 p (tB 27 p (tB 30 p (tB 31 p (tL 31 p (.iload_n 3) 0) (tL 30 p (.aload_n 0) 0)) (tL 27 p (.if_icmp .gt 77) 104)) (tB 26 p (tL 26 p .arraylength 0) (tL 25 p (.aload_n 0) 0))) (tB 22 p (tB 23 p (tB 24 p (tL 24 p .iadd 0) (tL 23 p (.iconst 5) 0)) (tL 22 p (.iload_n 3) 0)) (tB 21 p (tL 21 p (.istore_n 3) 0) (tL 20 p (.iconst 0) 0)))) (tB 10 p (tB 14 p (tB 16 p (tB 19 p (tL 19 p (.astore_n 2) 0) (tL 16 p (.invokespecial 62) 1)) (tL 14 p (.bipush 8) 0)) (tB 13 p (tL 13 p .dup 0) (tL 10 p (.new 8) 0))) (tB 4 p (tB 6 p (tB 9 p (tL 9 p (.astore_n 1) 0) (tL 6 p (.invokespecial 62) 1)) (tL 4 p (.bipush 8) 0)) (tB 3 p (tL 3 p .dup 0) (tL 0 p (.new 8) 0)))))))
def cd1 (p : Nat) : Option (Instr × Nat) := (tB 57 p (tB 82 p (tB 94 p (tB 102 p (tB 104 p (tB 107 p (tL 107 p .return_ 0) (tL 104 p (.putfield 46) 19)) (tB 103 p (tL 103 p (.iconst 0) 0) (tL 102 p (.aload_n 0) 0))) (tB 98 p (tB 99 p (tL 99 p (.invokevirtual 43) 2) (tL 98 p (.aload_n 0) 0)) (tB 95 p (tL 95 p (.putfield 40) 9) (tL 94 p (.iconst 0) 0)))) (tB 88 p (tB 90 p (tB 93 p (tL 93 p (.aload_n 0) 0) (tL 90 p (.putfield 36) 8)) (tB 89 p (tL 89 p (.iload_n 2) 0) (tL 88 p (.aload_n 0) 0))) (tB 85 p (tB 87 p (tL 87 p (.istore_n 2) 0) (tL 85 p (.bipush 32) 0)) (tL 82 p (.if_icmp .le 6) 88)))) (tB 70 p (tB 76 p (tB 79 p (tB 80 p (tL 80 p (.bipush 32) 0) (tL 79 p (.iload_n 2) 0)) (tB 78 p (tL 78 p (.istore_n 2) 0) (tL 76 p (.bipush 8) 0))) (tB 71 p (tB 73 p (tL 73 p (.if_icmp .ge 6) 79) (tL 71 p (.bipush 8) 0)) (tL 70 p (.iload_n 2) 0))) (tB 63 p (tB 68 p (tB 69 p (tL 69 p (.istore_n 2) 0) (tL 68 p (.iload_n 1) 0)) (tB 65 p (tL 65 p (.putfield 33) 7) (tL 63 p (.newarray .int) 0))) (tB 60 p (tB 61 p (tL 61 p (.bipush 32) 0) (tL 60 p (.aload_n 0) 0)) (tL 57 p (.putfield 30) 6))))) (tB 28 p (tB 41 p (tB 49 p (tB 53 p (tB 55 p (tL 55 p (.newarray .int) 0) (tL 53 p (.bipush 32) 0)) (tB 52 p (tL 52 p (.aload_n 0) 0) (tL 49 p (.putfield 26) 5))) (tB 45 p (tB 47 p (tL 47 p (.newarray .boolean) 0) (tL 45 p (.bipush 32) 0)) (tB 44 p (tL 44 p (.aload_n 0) 0) (tL 41 p (.putfield 22) 4)))) (tB 33 p (tB 37 p (tB 39 p (tL 39 p (.newarray .long) 0) (tL 37 p (.bipush 32) 0)) (tB 36 p (tL 36 p (.aload_n 0) 0) (tL 33 p (.putfield 19) 3))) (tB 29 p (tB 31 p (tL 31 p (.newarray .int) 0) (tL 29 p (.bipush 32) 0)) (tL 28 p (.aload_n 0) 0)))) (tB 13 p (tB 20 p (tB 23 p (tB 25 p (tL 25 p (.putfield 16) 2) (tL 23 p (.newarray .int) 0)) (tB 21 p (tL 21 p (.bipush 32) 0) (tL 20 p (.aload_n 0) 0))) (tB 15 p (tB 17 p (tL 17 p (.putfield 13) 1) (tL 15 p (.newarray .int) 0)) (tL 13 p (.bipush 32) 0))) (tB 5 p (tB 9 p (tB 12 p (tL 12 p (.aload_n 0) 0) (tL 9 p (.putfield 7) 0)) (tB 7 p (tL 7 p (.newarray .int) 0) (tL 5 p (.bipush 32) 0))) (tB 1 p (tB 4 p (tL 4 p (.aload_n 0) 0) (tL 1 p (.invokespecial 1) 0)) (tL 0 p (.aload_n 0) 0))))))
def cd2 (p : Nat) : Option (Instr × Nat) := (tB 22 p (tB 35 p (tB 40 p (tB 42 p (tB 45 p (tL 45 p .return_ 0) (tL 42 p (.putfield 74) 18)) (tB 41 p (tL 41 p (.iconst 0) 0) (tL 40 p (.aload_n 0) 0))) (tB 36 p (tB 37 p (tL 37 p (.putfield 71) 17) (tL 36 p (.iconst 0) 0)) (tL 35 p (.aload_n 0) 0))) (tB 27 p (tB 31 p (tB 32 p (tL 32 p (.putfield 68) 16) (tL 31 p (.iconst 0) 0)) (tB 30 p (tL 30 p (.aload_n 0) 0) (tL 27 p (.putfield 65) 15))) (tB 25 p (tB 26 p (tL 26 p (.iconst 2) 0) (tL 25 p (.aload_n 0) 0)) (tL 22 p (.putfield 62) 14)))) (tB 11 p (tB 16 p (tB 20 p (tB 21 p (tL 21 p (.iconst 0) 0) (tL 20 p (.aload_n 0) 0)) (tB 17 p (tL 17 p (.putfield 59) 13) (tL 16 p (.iconst 0) 0))) (tB 12 p (tB 15 p (tL 15 p (.aload_n 0) 0) (tL 12 p (.putfield 56) 12)) (tL 11 p (.iconst 1) 0))) (tB 5 p (tB 7 p (tB 10 p (tL 10 p (.aload_n 0) 0) (tL 7 p (.putfield 53) 11)) (tB 6 p (tL 6 p (.iconst 1) 0) (tL 5 p (.aload_n 0) 0))) (tB 1 p (tB 2 p (tL 2 p (.putfield 50) 10) (tL 1 p (.iconst 1) 0)) (tL 0 p (.aload_n 0) 0)))))
def cd3 (p : Nat) : Option (Instr × Nat) := (tB 54 p (tB 81 p (tB 94 p (tB 100 p (tB 104 p (tB 107 p (tB 108 p (tL 108 p .ireturn 0) (tL 107 p (.iconst 0) 0)) (tL 104 p (.goto 4) 108)) (tB 103 p (tL 103 p (.iconst 1) 0) (tL 100 p (.if_icmp .eq 7) 107))) (tB 96 p (tB 99 p (tL 99 p (.iconst (-1)) 0) (tL 96 p (.invokevirtual 33) 18)) (tB 95 p (tL 95 p (.aload_n 0) 0) (tL 94 p .ireturn 0)))) (tB 88 p (tB 90 p (tB 91 p (tL 91 p (.invokevirtual 30) 16) (tL 90 p (.iload_n 3) 0)) (tB 89 p (tL 89 p (.iload_n 2) 0) (tL 88 p (.aload_n 0) 0))) (tB 83 p (tB 85 p (tL 85 p (.if_icmp .ne 10) 95) (tL 83 p (.bipush 6) 0)) (tB 82 p (tL 82 p (.iload_n 1) 0) (tL 81 p .ireturn 0))))) (tB 66 p (tB 72 p (tB 76 p (tB 77 p (tB 78 p (tL 78 p (.invokevirtual 27) 20) (tL 77 p (.iload_n 3) 0)) (tL 76 p (.iload_n 2) 0)) (tB 75 p (tL 75 p (.aload_n 0) 0) (tL 72 p (.if_icmp .ne 10) 82))) (tB 70 p (tB 71 p (tL 71 p (.iconst 5) 0) (tL 70 p (.iload_n 1) 0)) (tB 69 p (tL 69 p .ireturn 0) (tL 66 p (.invokevirtual 24) 17)))) (tB 60 p (tB 64 p (tB 65 p (tL 65 p (.iload_n 3) 0) (tL 64 p (.iload_n 2) 0)) (tB 63 p (tL 63 p (.aload_n 0) 0) (tL 60 p (.if_icmp .ne 10) 70))) (tB 58 p (tB 59 p (tL 59 p (.iconst 4) 0) (tL 58 p (.iload_n 1) 0)) (tB 57 p (tL 57 p .ireturn 0) (tL 54 p (.invokevirtual 20) 4)))))) (tB 29 p (tB 41 p (tB 47 p (tB 49 p (tB 52 p (tB 53 p (tL 53 p (.iload_n 2) 0) (tL 52 p (.aload_n 0) 0)) (tL 49 p (.if_icmp .ne 9) 58)) (tB 48 p (tL 48 p (.iconst 3) 0) (tL 47 p (.iload_n 1) 0))) (tB 43 p (tB 46 p (tL 46 p .ireturn 0) (tL 43 p (.invokevirtual 16) 6)) (tB 42 p (tL 42 p (.iload_n 3) 0) (tL 41 p (.iload_n 2) 0)))) (tB 35 p (tB 37 p (tB 40 p (tL 40 p (.aload_n 0) 0) (tL 37 p (.if_icmp .ne 10) 47)) (tB 36 p (tL 36 p (.iconst 2) 0) (tL 35 p (.iload_n 1) 0))) (tB 33 p (tB 34 p (tL 34 p .ireturn 0) (tL 33 p (.iconst 1) 0)) (tB 30 p (tL 30 p (.invokevirtual 13) 7) (tL 29 p (.aload_n 0) 0))))) (tB 14 p (tB 22 p (tB 24 p (tB 25 p (tB 26 p (tL 26 p (.if_icmp .ne 9) 35) (tL 25 p (.iconst 1) 0)) (tL 24 p (.iload_n 1) 0)) (tB 23 p (tL 23 p .ireturn 0) (tL 22 p (.iconst 0) 0))) (tB 18 p (tB 19 p (tL 19 p (.goto 4) 23) (tL 18 p (.iconst 1) 0)) (tB 15 p (tL 15 p (.if_icmp .eq 7) 22) (tL 14 p (.iconst (-1)) 0)))) (tB 6 p (tB 9 p (tB 11 p (tL 11 p (.invokevirtual 7) 5) (tL 9 p (.iload 5) 0)) (tB 7 p (tL 7 p (.iload 4) 0) (tL 6 p (.iload_n 3) 0))) (tB 4 p (tB 5 p (tL 5 p (.iload_n 2) 0) (tL 4 p (.aload_n 0) 0)) (tB 1 p (tL 1 p (.ifCond .ne 23) 24) (tL 0 p (.iload_n 1) 0)))))))
def cd4 (p : Nat) : Option (Instr × Nat) := (tB 11 p (tB 17 p (tB 21 p (tB 22 p (tL 22 p .ireturn 0) (tL 21 p (.iconst 1) 0)) (tB 18 p (tL 18 p (.putfield 46) 19) (tL 17 p (.iconst 0) 0))) (tB 13 p (tB 16 p (tL 16 p (.aload_n 0) 0) (tL 13 p (.putfield 56) 12)) (tB 12 p (tL 12 p (.iload_n 1) 0) (tL 11 p (.aload_n 0) 0)))) (tB 5 p (tB 9 p (tB 10 p (tL 10 p .ireturn 0) (tL 9 p (.iconst 0) 0)) (tB 6 p (tL 6 p (.if_icmp .le 5) 11) (tL 5 p (.iconst 1) 0))) (tB 1 p (tB 4 p (tL 4 p (.iload_n 1) 0) (tL 1 p (.ifCond .lt 8) 9)) (tL 0 p (.iload_n 1) 0))))
def cd5 (p : Nat) : Option (Instr × Nat) := (tB 53 p (tB 78 p (tB 90 p (tB 96 p (tB 100 p (tB 102 p (tL 102 p .ireturn 0) (tL 100 p (.iload 5) 0)) (tB 97 p (tL 97 p (.putfield 46) 19) (tL 96 p (.iconst 0) 0))) (tB 92 p (tB 95 p (tL 95 p (.aload_n 0) 0) (tL 92 p (.putfield 40) 9)) (tB 91 p (tL 91 p .iadd 0) (tL 90 p (.iconst 1) 0)))) (tB 84 p (tB 87 p (tB 88 p (tL 88 p (.iload 5) 0) (tL 87 p (.aload_n 0) 0)) (tB 86 p (tL 86 p .iastore 0) (tL 84 p (.iload 4) 0))) (tB 79 p (tB 82 p (tL 82 p (.iload 5) 0) (tL 79 p (.getfield 19) 3)) (tL 78 p (.aload_n 0) 0)))) (tB 65 p (tB 72 p (tB 76 p (tB 77 p (tL 77 p .iastore 0) (tL 76 p (.iload_n 3) 0)) (tB 73 p (tL 73 p (.goto 4) 77) (tL 72 p (.iconst 0) 0))) (tB 68 p (tB 69 p (tL 69 p (.ifCond .eq 7) 76) (tL 68 p .iand 0)) (tB 67 p (tL 67 p (.iconst 2) 0) (tL 65 p (.iload 4) 0)))) (tB 58 p (tB 60 p (tB 63 p (tL 63 p (.iload 5) 0) (tL 60 p (.getfield 16) 2)) (tB 59 p (tL 59 p (.aload_n 0) 0) (tL 58 p .iastore 0))) (tB 54 p (tB 57 p (tL 57 p (.iload_n 2) 0) (tL 54 p (.goto 4) 58)) (tL 53 p (.iconst 0) 0))))) (tB 26 p (tB 39 p (tB 46 p (tB 49 p (tB 50 p (tL 50 p (.ifCond .eq 7) 57) (tL 49 p .iand 0)) (tB 48 p (tL 48 p (.iconst 1) 0) (tL 46 p (.iload 4) 0))) (tB 41 p (tB 44 p (tL 44 p (.iload 5) 0) (tL 41 p (.getfield 13) 1)) (tB 40 p (tL 40 p (.aload_n 0) 0) (tL 39 p .iastore 0)))) (tB 32 p (tB 36 p (tB 38 p (tL 38 p (.iload_n 1) 0) (tL 36 p (.iload 5) 0)) (tB 33 p (tL 33 p (.getfield 7) 0) (tL 32 p (.aload_n 0) 0))) (tB 27 p (tB 30 p (tL 30 p (.istore 5) 0) (tL 27 p (.getfield 40) 9)) (tL 26 p (.aload_n 0) 0)))) (tB 13 p (tB 18 p (tB 24 p (tB 25 p (tL 25 p .ireturn 0) (tL 24 p (.iconst (-1)) 0)) (tB 21 p (tL 21 p (.if_icmp .lt 5) 26) (tL 18 p (.getfield 36) 8))) (tB 14 p (tB 17 p (tL 17 p (.aload_n 0) 0) (tL 14 p (.getfield 40) 9)) (tL 13 p (.aload_n 0) 0))) (tB 7 p (tB 11 p (tB 12 p (tL 12 p .ireturn 0) (tL 11 p (.iconst (-1)) 0)) (tB 8 p (tL 8 p (.if_icmp .le 5) 13) (tL 7 p (.iconst 3) 0))) (tB 2 p (tB 5 p (tL 5 p (.iload 4) 0) (tL 2 p (.ifCond .lt 9) 11)) (tL 0 p (.iload 4) 0))))))
def cd6 (p : Nat) : Option (Instr × Nat) := (tB 19 p (tB 27 p (tB 32 p (tB 35 p (tB 36 p (tL 36 p .ireturn 0) (tL 35 p (.iconst 1) 0)) (tL 32 p (.putfield 46) 19)) (tB 30 p (tB 31 p (tL 31 p (.iconst 0) 0) (tL 30 p (.aload_n 0) 0)) (tL 27 p (.putfield 53) 11))) (tB 22 p (tB 25 p (tB 26 p (tL 26 p (.iload_n 2) 0) (tL 25 p (.aload_n 0) 0)) (tL 22 p (.putfield 50) 10)) (tB 20 p (tB 21 p (tL 21 p (.iload_n 1) 0) (tL 20 p (.aload_n 0) 0)) (tL 19 p .ireturn 0)))) (tB 9 p (tB 14 p (tB 15 p (tB 18 p (tL 18 p (.iconst 0) 0) (tL 15 p (.if_icmp .le 5) 20)) (tL 14 p (.iconst 1) 0)) (tB 10 p (tB 13 p (tL 13 p (.iload_n 2) 0) (tL 10 p (.ifCond .lt 8) 18)) (tL 9 p (.iload_n 2) 0))) (tB 4 p (tB 5 p (tB 6 p (tL 6 p (.if_icmp .gt 12) 18) (tL 5 p (.iconst 2) 0)) (tL 4 p (.iload_n 1) 0)) (tB 1 p (tL 1 p (.ifCond .lt 17) 18) (tL 0 p (.iload_n 1) 0)))))
def cd7 (p : Nat) : Option (Instr × Nat) := (tB 5 p (tB 7 p (tB 10 p (tL 10 p .return_ 0) (tL 7 p (.putfield 46) 19)) (tB 6 p (tL 6 p (.iconst 0) 0) (tL 5 p (.aload_n 0) 0))) (tB 1 p (tB 2 p (tL 2 p (.putfield 40) 9) (tL 1 p (.iconst 0) 0)) (tL 0 p (.aload_n 0) 0)))
def cd8 (p : Nat) : Option (Instr × Nat) := (tB 72 p (tB 109 p (tB 126 p (tB 137 p (tB 142 p (tB 145 p (tB 146 p (tL 146 p .ireturn 0) (tL 145 p (.iconst 1) 0)) (tL 142 p (.goto (-85)) 57)) (tB 138 p (tB 139 p (tL 139 p (.iinc 2 1) 0) (tL 138 p .ireturn 0)) (tL 137 p (.iconst 0) 0))) (tB 130 p (tB 131 p (tB 134 p (tL 134 p (.if_icmp .eq 5) 139) (tL 131 p (.invokevirtual 59) 15)) (tL 130 p (.iload_n 2) 0)) (tB 129 p (tL 129 p (.aload_n 1) 0) (tL 126 p (.invokevirtual 59) 15)))) (tB 116 p (tB 123 p (tB 124 p (tB 125 p (tL 125 p (.iload_n 2) 0) (tL 124 p (.aload_n 0) 0)) (tL 123 p .ireturn 0)) (tB 119 p (tB 122 p (tL 122 p (.iconst 0) 0) (tL 119 p (.if_icmp .eq 5) 124)) (tL 116 p (.invokevirtual 56) 14))) (tB 111 p (tB 114 p (tB 115 p (tL 115 p (.iload_n 2) 0) (tL 114 p (.aload_n 1) 0)) (tL 111 p (.invokevirtual 56) 14)) (tB 110 p (tL 110 p (.iload_n 2) 0) (tL 109 p (.aload_n 0) 0))))) (tB 90 p (tB 99 p (tB 104 p (tB 107 p (tB 108 p (tL 108 p .ireturn 0) (tL 107 p (.iconst 0) 0)) (tL 104 p (.ifCond .eq 5) 109)) (tB 100 p (tB 103 p (tL 103 p .lcmp 0) (tL 100 p (.invokevirtual 52) 13)) (tL 99 p (.iload_n 2) 0))) (tB 94 p (tB 95 p (tB 98 p (tL 98 p (.aload_n 1) 0) (tL 95 p (.invokevirtual 52) 13)) (tL 94 p (.iload_n 2) 0)) (tB 93 p (tL 93 p (.aload_n 0) 0) (tL 90 p (.goto (-25)) 65)))) (tB 79 p (tB 85 p (tB 86 p (tB 87 p (tL 87 p (.iinc 3 1) 0) (tL 86 p .ireturn 0)) (tL 85 p (.iconst 0) 0)) (tB 82 p (tL 82 p (.if_icmp .eq 5) 87) (tL 79 p (.invokevirtual 48) 12))) (tB 76 p (tB 77 p (tB 78 p (tL 78 p (.iload_n 3) 0) (tL 77 p (.iload_n 2) 0)) (tL 76 p (.aload_n 1) 0)) (tB 73 p (tL 73 p (.invokevirtual 48) 12) (tL 72 p (.iload_n 3) 0)))))) (tB 36 p (tB 56 p (tB 64 p (tB 67 p (tB 70 p (tB 71 p (tL 71 p (.iload_n 2) 0) (tL 70 p (.aload_n 0) 0)) (tL 67 p (.if_icmp .ge 26) 93)) (tB 65 p (tB 66 p (tL 66 p (.iconst 4) 0) (tL 65 p (.iload_n 3) 0)) (tL 64 p (.istore_n 3) 0))) (tB 58 p (tB 60 p (tB 63 p (tL 63 p (.iconst 0) 0) (tL 60 p (.if_icmp .ge 85) 145)) (tL 58 p (.bipush 8) 0)) (tB 57 p (tL 57 p (.iload_n 2) 0) (tL 56 p (.istore_n 2) 0)))) (tB 47 p (tB 49 p (tB 52 p (tB 55 p (tL 55 p (.iconst 0) 0) (tL 52 p (.goto (-24)) 28)) (tL 49 p (.iinc 2 1) 0)) (tB 48 p (tL 48 p .ireturn 0) (tL 47 p (.iconst 0) 0))) (tB 40 p (tB 41 p (tB 44 p (tL 44 p (.if_icmp .eq 5) 49) (tL 41 p (.invokevirtual 44) 11)) (tL 40 p (.iload_n 2) 0)) (tB 39 p (tL 39 p (.aload_n 1) 0) (tL 36 p (.invokevirtual 44) 11))))) (tB 18 p (tB 27 p (tB 31 p (tB 34 p (tB 35 p (tL 35 p (.iload_n 2) 0) (tL 34 p (.aload_n 0) 0)) (tL 31 p (.if_icmp .ge 24) 55)) (tB 28 p (tB 29 p (tL 29 p (.bipush 10) 0) (tL 28 p (.iload_n 2) 0)) (tL 27 p (.istore_n 2) 0))) (tB 24 p (tB 25 p (tB 26 p (tL 26 p (.iconst 0) 0) (tL 25 p .ireturn 0)) (tL 24 p (.iconst 0) 0)) (tB 21 p (tL 21 p (.if_icmp .eq 5) 26) (tL 18 p (.invokevirtual 40) 10)))) (tB 11 p (tB 13 p (tB 14 p (tB 17 p (tL 17 p (.aload_n 1) 0) (tL 14 p (.invokevirtual 40) 10)) (tL 13 p (.aload_n 0) 0)) (tB 12 p (tL 12 p .ireturn 0) (tL 11 p (.iconst 0) 0))) (tB 4 p (tB 5 p (tB 8 p (tL 8 p (.if_icmp .eq 5) 13) (tL 5 p (.invokevirtual 37) 9)) (tL 4 p (.aload_n 1) 0)) (tB 1 p (tL 1 p (.invokevirtual 37) 9) (tL 0 p (.aload_n 0) 0)))))))
def cd9 (p : Nat) : Option (Instr × Nat) := (tB 1 p (tB 4 p (tL 4 p .ireturn 0) (tL 1 p (.getfield 40) 9)) (tL 0 p (.aload_n 0) 0))
def cd10 (p : Nat) : Option (Instr × Nat) := (tB 1 p (tB 4 p (tL 4 p .ireturn 0) (tL 1 p (.getfield 46) 19)) (tL 0 p (.aload_n 0) 0))
def cd11 (p : Nat) : Option (Instr × Nat) := (tB 50 p (tB 77 p (tB 92 p (tB 99 p (tB 103 p (tB 104 p (tL 104 p .ireturn 0) (tL 103 p (.iconst (-1)) 0)) (tB 102 p (tL 102 p .ireturn 0) (tL 99 p (.getfield 36) 8))) (tB 95 p (tB 98 p (tL 98 p (.aload_n 0) 0) (tL 95 p (.if_icmp .ne 8) 103)) (tB 93 p (tL 93 p (.bipush 9) 0) (tL 92 p (.iload_n 1) 0)))) (tB 84 p (tB 88 p (tB 91 p (tL 91 p .ireturn 0) (tL 88 p (.getfield 74) 18)) (tB 87 p (tL 87 p (.aload_n 0) 0) (tL 84 p (.if_icmp .ne 8) 92))) (tB 81 p (tB 82 p (tL 82 p (.bipush 8) 0) (tL 81 p (.iload_n 1) 0)) (tB 80 p (tL 80 p .ireturn 0) (tL 77 p (.getfield 71) 17))))) (tB 62 p (tB 70 p (tB 73 p (tB 76 p (tL 76 p (.aload_n 0) 0) (tL 73 p (.if_icmp .ne 8) 81)) (tB 71 p (tL 71 p (.bipush 7) 0) (tL 70 p (.iload_n 1) 0))) (tB 66 p (tB 69 p (tL 69 p .ireturn 0) (tL 66 p (.getfield 68) 16)) (tB 65 p (tL 65 p (.aload_n 0) 0) (tL 62 p (.if_icmp .ne 8) 70)))) (tB 55 p (tB 59 p (tB 60 p (tL 60 p (.bipush 6) 0) (tL 59 p (.iload_n 1) 0)) (tB 58 p (tL 58 p .ireturn 0) (tL 55 p (.getfield 65) 15))) (tB 51 p (tB 54 p (tL 54 p (.aload_n 0) 0) (tL 51 p (.if_icmp .ne 8) 59)) (tL 50 p (.iconst 5) 0))))) (tB 25 p (tB 38 p (tB 44 p (tB 48 p (tB 49 p (tL 49 p (.iload_n 1) 0) (tL 48 p .ireturn 0)) (tB 45 p (tL 45 p (.getfield 62) 14) (tL 44 p (.aload_n 0) 0))) (tB 40 p (tB 41 p (tL 41 p (.if_icmp .ne 8) 49) (tL 40 p (.iconst 4) 0)) (tB 39 p (tL 39 p (.iload_n 1) 0) (tL 38 p .ireturn 0)))) (tB 30 p (tB 34 p (tB 35 p (tL 35 p (.getfield 59) 13) (tL 34 p (.aload_n 0) 0)) (tB 31 p (tL 31 p (.if_icmp .ne 8) 39) (tL 30 p (.iconst 3) 0))) (tB 28 p (tB 29 p (tL 29 p (.iload_n 1) 0) (tL 28 p .ireturn 0)) (tL 25 p (.getfield 56) 12)))) (tB 11 p (tB 19 p (tB 21 p (tB 24 p (tL 24 p (.aload_n 0) 0) (tL 21 p (.if_icmp .ne 8) 29)) (tB 20 p (tL 20 p (.iconst 2) 0) (tL 19 p (.iload_n 1) 0))) (tB 15 p (tB 18 p (tL 18 p .ireturn 0) (tL 15 p (.getfield 53) 11)) (tB 14 p (tL 14 p (.aload_n 0) 0) (tL 11 p (.if_icmp .ne 8) 19)))) (tB 5 p (tB 9 p (tB 10 p (tL 10 p (.iconst 1) 0) (tL 9 p (.iload_n 1) 0)) (tB 8 p (tL 8 p .ireturn 0) (tL 5 p (.getfield 50) 10))) (tB 1 p (tB 4 p (tL 4 p (.aload_n 0) 0) (tL 1 p (.ifCond .ne 8) 9)) (tL 0 p (.iload_n 1) 0))))))
def cd12 (p : Nat) : Option (Instr × Nat) := (tB 34 p (tB 48 p (tB 55 p (tB 60 p (tB 61 p (tB 62 p (tL 62 p .ireturn 0) (tL 61 p (.iconst 0) 0)) (tL 60 p .ireturn 0)) (tB 58 p (tB 59 p (tL 59 p .iaload 0) (tL 58 p (.iload_n 1) 0)) (tL 55 p (.getfield 19) 3))) (tB 50 p (tB 51 p (tB 54 p (tL 54 p (.aload_n 0) 0) (tL 51 p (.if_icmp .ne 10) 61)) (tL 50 p (.iconst 3) 0)) (tB 49 p (tL 49 p (.iload_n 2) 0) (tL 48 p .ireturn 0)))) (tB 39 p (tB 43 p (tB 46 p (tB 47 p (tL 47 p .iaload 0) (tL 46 p (.iload_n 1) 0)) (tL 43 p (.getfield 16) 2)) (tB 42 p (tL 42 p (.aload_n 0) 0) (tL 39 p (.if_icmp .ne 10) 49))) (tB 36 p (tB 37 p (tB 38 p (tL 38 p (.iconst 2) 0) (tL 37 p (.iload_n 2) 0)) (tL 36 p .ireturn 0)) (tB 35 p (tL 35 p .iaload 0) (tL 34 p (.iload_n 1) 0))))) (tB 18 p (tB 25 p (tB 27 p (tB 30 p (tB 31 p (tL 31 p (.getfield 13) 1) (tL 30 p (.aload_n 0) 0)) (tL 27 p (.if_icmp .ne 10) 37)) (tB 26 p (tL 26 p (.iconst 1) 0) (tL 25 p (.iload_n 2) 0))) (tB 22 p (tB 23 p (tB 24 p (tL 24 p .ireturn 0) (tL 23 p .iaload 0)) (tL 22 p (.iload_n 1) 0)) (tB 19 p (tL 19 p (.getfield 7) 0) (tL 18 p (.aload_n 0) 0)))) (tB 9 p (tB 13 p (tB 14 p (tB 15 p (tL 15 p (.ifCond .ne 10) 25) (tL 14 p (.iload_n 2) 0)) (tL 13 p .ireturn 0)) (tB 12 p (tL 12 p (.iconst 0) 0) (tL 9 p (.if_icmp .lt 5) 14))) (tB 4 p (tB 5 p (tB 6 p (tL 6 p (.getfield 40) 9) (tL 5 p (.aload_n 0) 0)) (tL 4 p (.iload_n 1) 0)) (tB 1 p (tL 1 p (.ifCond .lt 11) 12) (tL 0 p (.iload_n 1) 0))))))
def cd13 (p : Nat) : Option (Instr × Nat) := (tB 21 p (tB 31 p (tB 36 p (tB 37 p (tB 38 p (tL 38 p .lreturn 0) (tL 37 p .laload 0)) (tL 36 p (.iload_n 1) 0)) (tB 32 p (tB 33 p (tL 33 p (.getfield 22) 4) (tL 32 p (.aload_n 0) 0)) (tL 31 p .lreturn 0))) (tB 26 p (tB 27 p (tB 30 p (tL 30 p (.lconst 0) 0) (tL 27 p (.ifCond .eq 5) 32)) (tL 26 p .baload 0)) (tB 22 p (tB 25 p (tL 25 p (.iload_n 1) 0) (tL 22 p (.getfield 26) 5)) (tL 21 p (.aload_n 0) 0)))) (tB 11 p (tB 16 p (tB 19 p (tB 20 p (tL 20 p .lreturn 0) (tL 19 p (.lconst 0) 0)) (tL 16 p (.if_icmp .lt 5) 21)) (tB 12 p (tB 13 p (tL 13 p (.getfield 40) 9) (tL 12 p (.aload_n 0) 0)) (tL 11 p (.iload_n 1) 0))) (tB 4 p (tB 7 p (tB 8 p (tL 8 p (.ifCond .lt 11) 19) (tL 7 p (.iload_n 1) 0)) (tL 4 p (.ifCond .eq 15) 19)) (tB 1 p (tL 1 p (.getfield 46) 19) (tL 0 p (.aload_n 0) 0)))))
def cd14 (p : Nat) : Option (Instr × Nat) := (tB 16 p (tB 22 p (tB 26 p (tB 27 p (tL 27 p .ireturn 0) (tL 26 p .baload 0)) (tB 25 p (tL 25 p (.iload_n 1) 0) (tL 22 p (.getfield 26) 5))) (tB 20 p (tB 21 p (tL 21 p (.aload_n 0) 0) (tL 20 p .ireturn 0)) (tB 19 p (tL 19 p (.iconst 0) 0) (tL 16 p (.if_icmp .lt 5) 21)))) (tB 8 p (tB 12 p (tB 13 p (tL 13 p (.getfield 40) 9) (tL 12 p (.aload_n 0) 0)) (tB 11 p (tL 11 p (.iload_n 1) 0) (tL 8 p (.ifCond .lt 11) 19))) (tB 4 p (tB 7 p (tL 7 p (.iload_n 1) 0) (tL 4 p (.ifCond .eq 15) 19)) (tB 1 p (tL 1 p (.getfield 46) 19) (tL 0 p (.aload_n 0) 0)))))
def cd15 (p : Nat) : Option (Instr × Nat) := (tB 16 p (tB 22 p (tB 26 p (tB 27 p (tL 27 p .ireturn 0) (tL 26 p .iaload 0)) (tB 25 p (tL 25 p (.iload_n 1) 0) (tL 22 p (.getfield 30) 6))) (tB 20 p (tB 21 p (tL 21 p (.aload_n 0) 0) (tL 20 p .ireturn 0)) (tB 19 p (tL 19 p (.iconst (-1)) 0) (tL 16 p (.if_icmp .lt 5) 21)))) (tB 8 p (tB 12 p (tB 13 p (tL 13 p (.getfield 40) 9) (tL 12 p (.aload_n 0) 0)) (tB 11 p (tL 11 p (.iload_n 1) 0) (tL 8 p (.ifCond .lt 11) 19))) (tB 4 p (tB 7 p (tL 7 p (.iload_n 1) 0) (tL 4 p (.ifCond .eq 15) 19)) (tB 1 p (tL 1 p (.getfield 46) 19) (tL 0 p (.aload_n 0) 0)))))
def cd16 (p : Nat) : Option (Instr × Nat) := (tB 34 p (tB 47 p (tB 58 p (tB 60 p (tB 63 p (tB 64 p (tL 64 p .ireturn 0) (tL 63 p (.iconst 1) 0)) (tL 60 p (.putfield 46) 19)) (tB 59 p (tL 59 p (.iconst 0) 0) (tL 58 p (.aload_n 0) 0))) (tB 51 p (tB 54 p (tB 55 p (tL 55 p (.putfield 74) 18) (tL 54 p (.iconst 0) 0)) (tL 51 p (.goto 4) 55)) (tB 50 p (tL 50 p (.iload_n 2) 0) (tL 47 p (.ifCond .eq 7) 54)))) (tB 40 p (tB 42 p (tB 45 p (tB 46 p (tL 46 p (.iload_n 3) 0) (tL 45 p (.aload_n 0) 0)) (tL 42 p (.putfield 71) 17)) (tB 41 p (tL 41 p (.iload_n 1) 0) (tL 40 p (.aload_n 0) 0))) (tB 38 p (tB 39 p (tL 39 p .ireturn 0) (tL 38 p (.iconst 0) 0)) (tB 35 p (tL 35 p (.ifCond .ge 5) 40) (tL 34 p (.iload_n 2) 0))))) (tB 15 p (tB 25 p (tB 29 p (tB 30 p (tB 31 p (tL 31 p (.ifCond .eq 9) 40) (tL 30 p (.iload_n 3) 0)) (tL 29 p (.istore_n 3) 0)) (tB 28 p (tL 28 p (.iconst 0) 0) (tL 25 p (.goto 4) 29))) (tB 19 p (tB 21 p (tB 24 p (tL 24 p (.iconst 1) 0) (tL 21 p (.if_icmp .ne 7) 28)) (tL 19 p (.bipush 9) 0)) (tB 18 p (tL 18 p (.iload_n 1) 0) (tL 15 p (.if_icmp .eq 9) 24)))) (tB 7 p (tB 11 p (tB 12 p (tB 13 p (tL 13 p (.bipush 8) 0) (tL 12 p (.iload_n 1) 0)) (tL 11 p .ireturn 0)) (tB 10 p (tL 10 p (.iconst 0) 0) (tL 7 p (.if_icmp .le 5) 12))) (tB 4 p (tB 5 p (tL 5 p (.bipush 9) 0) (tL 4 p (.iload_n 1) 0)) (tB 1 p (tL 1 p (.ifCond .lt 9) 10) (tL 0 p (.iload_n 1) 0))))))
def cd17 (p : Nat) : Option (Instr × Nat) := (tB 31 p (tB 44 p (tB 55 p (tB 57 p (tB 60 p (tB 61 p (tL 61 p .ireturn 0) (tL 60 p (.iconst 1) 0)) (tL 57 p (.putfield 46) 19)) (tB 56 p (tL 56 p (.iconst 0) 0) (tL 55 p (.aload_n 0) 0))) (tB 48 p (tB 51 p (tB 52 p (tL 52 p (.putfield 62) 14) (tL 51 p (.iconst 0) 0)) (tL 48 p (.goto 4) 52)) (tB 47 p (tL 47 p (.iload_n 2) 0) (tL 44 p (.ifCond .eq 7) 51)))) (tB 37 p (tB 39 p (tB 42 p (tB 43 p (tL 43 p (.iload_n 3) 0) (tL 42 p (.aload_n 0) 0)) (tL 39 p (.putfield 59) 13)) (tB 38 p (tL 38 p (.iload_n 1) 0) (tL 37 p (.aload_n 0) 0))) (tB 35 p (tB 36 p (tL 36 p .ireturn 0) (tL 35 p (.iconst 0) 0)) (tB 32 p (tL 32 p (.ifCond .ge 5) 37) (tL 31 p (.iload_n 2) 0))))) (tB 13 p (tB 22 p (tB 26 p (tB 27 p (tB 28 p (tL 28 p (.ifCond .eq 9) 37) (tL 27 p (.iload_n 3) 0)) (tL 26 p (.istore_n 3) 0)) (tB 25 p (tL 25 p (.iconst 0) 0) (tL 22 p (.goto 4) 26))) (tB 17 p (tB 18 p (tB 21 p (tL 21 p (.iconst 1) 0) (tL 18 p (.if_icmp .ne 7) 25)) (tL 17 p (.iconst 3) 0)) (tB 16 p (tL 16 p (.iload_n 1) 0) (tL 13 p (.if_icmp .eq 8) 21)))) (tB 6 p (tB 10 p (tB 11 p (tB 12 p (tL 12 p (.iconst 1) 0) (tL 11 p (.iload_n 1) 0)) (tL 10 p .ireturn 0)) (tB 9 p (tL 9 p (.iconst 0) 0) (tL 6 p (.if_icmp .le 5) 11))) (tB 4 p (tB 5 p (tL 5 p (.iconst 3) 0) (tL 4 p (.iload_n 1) 0)) (tB 1 p (tL 1 p (.ifCond .lt 8) 9) (tL 0 p (.iload_n 1) 0))))))
def cd18 (p : Nat) : Option (Instr × Nat) := (tB 16 p (tB 27 p (tB 32 p (tB 35 p (tB 36 p (tL 36 p .ireturn 0) (tL 35 p (.iconst 0) 0)) (tL 32 p (.putfield 46) 19)) (tB 30 p (tB 31 p (tL 31 p (.iconst 1) 0) (tL 30 p (.aload_n 0) 0)) (tL 27 p (.goto (-16)) 11))) (tB 20 p (tB 21 p (tB 24 p (tL 24 p (.iinc 1 1) 0) (tL 21 p (.invokevirtual 81) 21)) (tL 20 p (.iload_n 1) 0)) (tB 19 p (tL 19 p (.aload_n 0) 0) (tL 16 p (.if_icmp .ge 14) 30)))) (tB 9 p (tB 11 p (tB 12 p (tB 13 p (tL 13 p (.getfield 40) 9) (tL 12 p (.aload_n 0) 0)) (tL 11 p (.iload_n 1) 0)) (tB 10 p (tL 10 p (.istore_n 1) 0) (tL 9 p (.iconst 0) 0))) (tB 4 p (tB 7 p (tB 8 p (tL 8 p .ireturn 0) (tL 7 p (.iconst (-1)) 0)) (tL 4 p (.ifCond .eq 5) 9)) (tB 1 p (tL 1 p (.invokevirtual 77) 19) (tL 0 p (.aload_n 0) 0)))))
def cd19 (p : Nat) : Option (Instr × Nat) := (tB 38 p (tB 56 p (tB 65 p (tB 70 p (tB 73 p (tB 74 p (tL 74 p .ireturn 0) (tL 73 p (.iconst 0) 0)) (tL 70 p (.goto 4) 74)) (tB 66 p (tB 69 p (tL 69 p (.iconst 1) 0) (tL 66 p (.ifCond .eq 7) 73)) (tL 65 p (.iload_n 2) 0))) (tB 60 p (tB 61 p (tB 62 p (tL 62 p (.ifCond .ne 7) 69) (tL 61 p (.iload_n 1) 0)) (tL 60 p (.istore_n 2) 0)) (tB 59 p (tL 59 p (.iconst 0) 0) (tL 56 p (.goto 4) 60)))) (tB 47 p (tB 51 p (tB 52 p (tB 55 p (tL 55 p (.iconst 1) 0) (tL 52 p (.if_icmp .ne 7) 59)) (tL 51 p (.iconst 3) 0)) (tB 48 p (tL 48 p (.getfield 65) 15) (tL 47 p (.aload_n 0) 0))) (tB 40 p (tB 43 p (tB 44 p (tL 44 p (.if_icmp .eq 11) 55) (tL 43 p (.iconst 1) 0)) (tL 40 p (.getfield 65) 15)) (tB 39 p (tL 39 p (.aload_n 0) 0) (tL 38 p (.istore_n 1) 0))))) (tB 18 p (tB 29 p (tB 33 p (tB 34 p (tB 37 p (tL 37 p (.iconst 0) 0) (tL 34 p (.goto 4) 38)) (tL 33 p (.iconst 1) 0)) (tB 30 p (tL 30 p (.if_icmp .ne 7) 37) (tL 29 p (.iconst 3) 0))) (tB 22 p (tB 25 p (tB 26 p (tL 26 p (.getfield 59) 13) (tL 25 p (.aload_n 0) 0)) (tL 22 p (.if_icmp .eq 11) 33)) (tB 21 p (tL 21 p (.iconst 1) 0) (tL 18 p (.getfield 59) 13)))) (tB 9 p (tB 15 p (tB 16 p (tB 17 p (tL 17 p (.aload_n 0) 0) (tL 16 p .ireturn 0)) (tL 15 p (.iconst 0) 0)) (tB 12 p (tL 12 p (.ifCond .eq 5) 17) (tL 9 p (.getfield 50) 10))) (tB 4 p (tB 5 p (tB 8 p (tL 8 p (.aload_n 0) 0) (tL 5 p (.if_icmp .ne 10) 15)) (tL 4 p (.iconst 1) 0)) (tB 1 p (tL 1 p (.getfield 56) 12) (tL 0 p (.aload_n 0) 0))))))
def cd20 (p : Nat) : Option (Instr × Nat) := (tB 29 p (tB 45 p (tB 56 p (tB 58 p (tB 61 p (tB 62 p (tL 62 p .ireturn 0) (tL 61 p (.iconst 1) 0)) (tL 58 p (.putfield 46) 19)) (tB 57 p (tL 57 p (.iconst 0) 0) (tL 56 p (.aload_n 0) 0))) (tB 49 p (tB 52 p (tB 53 p (tL 53 p (.putfield 68) 16) (tL 52 p (.iconst 0) 0)) (tL 49 p (.goto 4) 53)) (tB 48 p (tL 48 p (.iload_n 2) 0) (tL 45 p (.ifCond .eq 7) 52)))) (tB 38 p (tB 40 p (tB 43 p (tB 44 p (tL 44 p (.iload_n 3) 0) (tL 43 p (.aload_n 0) 0)) (tL 40 p (.putfield 65) 15)) (tB 39 p (tL 39 p (.iload_n 1) 0) (tL 38 p (.aload_n 0) 0))) (tB 33 p (tB 36 p (tB 37 p (tL 37 p .ireturn 0) (tL 36 p (.iconst 0) 0)) (tL 33 p (.ifCond .ge 5) 38)) (tB 32 p (tL 32 p (.iload_n 2) 0) (tL 29 p (.ifCond .eq 9) 38))))) (tB 13 p (tB 22 p (tB 26 p (tB 27 p (tB 28 p (tL 28 p (.iload_n 3) 0) (tL 27 p (.istore_n 3) 0)) (tL 26 p (.iconst 0) 0)) (tB 23 p (tL 23 p (.goto 4) 27) (tL 22 p (.iconst 1) 0))) (tB 17 p (tB 18 p (tB 19 p (tL 19 p (.if_icmp .ne 7) 26) (tL 18 p (.iconst 3) 0)) (tL 17 p (.iload_n 1) 0)) (tB 14 p (tL 14 p (.if_icmp .eq 8) 22) (tL 13 p (.iconst 1) 0)))) (tB 6 p (tB 10 p (tB 11 p (tB 12 p (tL 12 p (.iload_n 1) 0) (tL 11 p .ireturn 0)) (tL 10 p (.iconst 0) 0)) (tB 7 p (tL 7 p (.if_icmp .le 5) 12) (tL 6 p (.iconst 4) 0))) (tB 2 p (tB 5 p (tL 5 p (.iload_n 1) 0) (tL 2 p (.if_icmp .lt 8) 10)) (tB 1 p (tL 1 p (.iconst 1) 0) (tL 0 p (.iload_n 1) 0))))))
def cd21 (p : Nat) : Option (Instr × Nat) := (tB 14 p (tB 20 p (tB 22 p (tB 25 p (tL 25 p .return_ 0) (tL 22 p (.invokevirtual 128) 30)) (tB 21 p (tL 21 p (.iload_n 1) 0) (tL 20 p (.aload_n 0) 0))) (tB 16 p (tB 19 p (tL 19 p .iastore 0) (tL 16 p (.getfield 125) 24)) (tB 15 p (tL 15 p (.aload_n 0) 0) (tL 14 p (.iload_n 1) 0)))) (tB 6 p (tB 10 p (tB 11 p (tL 11 p (.getfield 30) 6) (tL 10 p (.aload_n 0) 0)) (tB 7 p (tL 7 p (.invokevirtual 122) 23) (tL 6 p (.iload_n 1) 0))) (tB 2 p (tB 5 p (tL 5 p (.aload_n 0) 0) (tL 2 p (.invokevirtual 119) 22)) (tB 1 p (tL 1 p (.iload_n 1) 0) (tL 0 p (.aload_n 0) 0)))))
def cd22 (p : Nat) : Option (Instr × Nat) := (tB 68 p (tB 106 p (tB 124 p (tB 132 p (tB 137 p (tB 140 p (tB 143 p (tL 143 p .return_ 0) (tL 140 p (.goto (-26)) 114)) (tL 137 p (.iinc 4 1) 0)) (tB 134 p (tL 134 p (.putfield 96) 21) (tL 132 p (.iload 4) 0))) (tB 127 p (tB 128 p (tB 131 p (tL 131 p (.aload_n 0) 0) (tL 128 p (.if_icmp .ne 9) 137)) (tL 127 p (.iload_n 1) 0)) (tB 126 p (tL 126 p .iaload 0) (tL 124 p (.iload 4) 0)))) (tB 114 p (tB 117 p (tB 120 p (tB 121 p (tL 121 p (.getfield 33) 7) (tL 120 p (.aload_n 0) 0)) (tL 117 p (.if_icmp .ge 26) 143)) (tB 116 p (tL 116 p (.iload_n 2) 0) (tL 114 p (.iload 4) 0))) (tB 108 p (tB 111 p (tB 112 p (tL 112 p (.istore 4) 0) (tL 111 p (.iconst 0) 0)) (tL 108 p (.putfield 96) 21)) (tB 107 p (tL 107 p (.iconst 0) 0) (tL 106 p (.aload_n 0) 0))))) (tB 84 p (tB 95 p (tB 101 p (tB 102 p (tB 103 p (tL 103 p (.putfield 93) 20) (tL 102 p (.iload_n 2) 0)) (tL 101 p (.aload_n 0) 0)) (tB 98 p (tL 98 p (.goto (-86)) 12) (tL 95 p (.iinc 4 1) 0))) (tB 89 p (tB 91 p (tB 92 p (tL 92 p (.iinc 2 1) 0) (tL 91 p .iastore 0)) (tL 89 p (.iload 4) 0)) (tB 87 p (tL 87 p (.iload 5) 0) (tL 84 p (.getfield 33) 7)))) (tB 75 p (tB 77 p (tB 80 p (tB 83 p (tL 83 p (.aload_n 0) 0) (tL 80 p (.goto (-42)) 38)) (tL 77 p (.iinc 5 (-1)) 0)) (tB 76 p (tL 76 p .iastore 0) (tL 75 p .iaload 0))) (tB 73 p (tB 74 p (tL 74 p .isub 0) (tL 73 p (.iconst 1) 0)) (tB 71 p (tL 71 p (.iload 5) 0) (tL 68 p (.getfield 33) 7)))))) (tB 32 p (tB 50 p (tB 58 p (tB 62 p (tB 65 p (tB 67 p (tL 67 p (.aload_n 0) 0) (tL 65 p (.iload 5) 0)) (tL 62 p (.getfield 33) 7)) (tB 61 p (tL 61 p (.aload_n 0) 0) (tL 58 p (.ifCond .eq 25) 83))) (tB 53 p (tB 54 p (tB 55 p (tL 55 p (.invokevirtual 89) 32) (tL 54 p .iaload 0)) (tL 53 p .isub 0)) (tB 52 p (tL 52 p (.iconst 1) 0) (tL 50 p (.iload 5) 0)))) (tB 40 p (tB 44 p (tB 46 p (tB 47 p (tL 47 p (.getfield 33) 7) (tL 46 p (.aload_n 0) 0)) (tL 44 p (.iload 4) 0)) (tB 43 p (tL 43 p (.aload_n 0) 0) (tL 40 p (.ifCond .le 43) 83))) (tB 36 p (tB 38 p (tL 38 p (.iload 5) 0) (tL 36 p (.istore 5) 0)) (tB 35 p (tL 35 p (.iload_n 2) 0) (tL 32 p (.goto 63) 95))))) (tB 12 p (tB 22 p (tB 27 p (tB 28 p (tB 29 p (tL 29 p (.if_icmp .eq 6) 35) (tL 28 p (.iload_n 3) 0)) (tL 27 p .iaload 0)) (tB 25 p (tL 25 p (.iload 4) 0) (tL 22 p (.getfield 7) 0))) (tB 15 p (tB 18 p (tB 21 p (tL 21 p (.aload_n 0) 0) (tL 18 p (.if_icmp .ge 83) 101)) (tL 15 p (.getfield 40) 9)) (tB 14 p (tL 14 p (.aload_n 0) 0) (tL 12 p (.iload 4) 0)))) (tB 6 p (tB 8 p (tB 9 p (tB 10 p (tL 10 p (.istore 4) 0) (tL 9 p (.iconst 0) 0)) (tL 8 p (.istore_n 3) 0)) (tB 7 p (tL 7 p .iaload 0) (tL 6 p (.iload_n 1) 0))) (tB 2 p (tB 3 p (tL 3 p (.getfield 7) 0) (tL 2 p (.aload_n 0) 0)) (tB 1 p (tL 1 p (.istore_n 2) 0) (tL 0 p (.iconst 0) 0)))))))
def cd23 (p : Nat) : Option (Instr × Nat) := (tB 79 p (tB 129 p (tB 150 p (tB 161 p (tB 166 p (tB 169 p (tB 172 p (tL 172 p .return_ 0) (tL 169 p (.goto (-131)) 38)) (tL 166 p (.iinc 4 1) 0)) (tB 162 p (tB 163 p (tL 163 p (.putfield 131) 22) (tL 162 p .ladd 0)) (tL 161 p .i2l 0))) (tB 155 p (tB 156 p (tB 159 p (tL 159 p (.iload 6) 0) (tL 156 p (.getfield 131) 22)) (tL 155 p .dup 0)) (tB 151 p (tB 154 p (tL 154 p (.aload_n 0) 0) (tL 151 p (.putfield 135) 23)) (tL 150 p .iadd 0)))) (tB 139 p (tB 145 p (tB 146 p (tB 149 p (tL 149 p (.iconst 1) 0) (tL 146 p (.getfield 135) 23)) (tL 145 p .dup 0)) (tB 141 p (tB 144 p (tL 144 p (.aload_n 0) 0) (tL 141 p (.putfield 141) 26)) (tL 139 p (.iload 6) 0))) (tB 132 p (tB 135 p (tB 138 p (tL 138 p (.aload_n 0) 0) (tL 135 p (.if_icmp .le 9) 144)) (tL 132 p (.getfield 141) 26)) (tB 131 p (tL 131 p (.aload_n 0) 0) (tL 129 p (.iload 6) 0))))) (tB 101 p (tB 116 p (tB 122 p (tB 123 p (tB 126 p (tL 126 p (.ifCond .eq 12) 138) (tL 123 p (.getfield 135) 23)) (tL 122 p (.aload_n 0) 0)) (tB 117 p (tB 119 p (tL 119 p (.putfield 138) 25) (tL 117 p (.iload 6) 0)) (tL 116 p (.aload_n 0) 0))) (tB 109 p (tB 110 p (tB 113 p (tL 113 p (.if_icmp .ge 9) 122) (tL 110 p (.getfield 138) 25)) (tL 109 p (.aload_n 0) 0)) (tB 104 p (tB 107 p (tL 107 p (.iload 6) 0) (tL 104 p (.ifCond .eq 12) 116)) (tL 101 p (.getfield 135) 23)))) (tB 91 p (tB 97 p (tB 98 p (tB 100 p (tL 100 p (.aload_n 0) 0) (tL 98 p (.istore 6) 0)) (tL 97 p .iaload 0)) (tB 92 p (tB 95 p (tL 95 p (.iload 5) 0) (tL 92 p (.getfield 16) 2)) (tL 91 p (.aload_n 0) 0))) (tB 82 p (tB 85 p (tB 88 p (tL 88 p (.goto 78) 166) (tL 85 p (.ifCond .eq 6) 91)) (tL 82 p (.invokevirtual 147) 29)) (tB 80 p (tL 80 p (.iload 5) 0) (tL 79 p (.aload_n 0) 0)))))) (tB 36 p (tB 55 p (tB 69 p (tB 74 p (tB 75 p (tB 76 p (tL 76 p (.putfield 125) 24) (tL 75 p .iadd 0)) (tL 74 p (.iconst 1) 0)) (tB 70 p (tB 71 p (tL 71 p (.getfield 125) 24) (tL 70 p .dup 0)) (tL 69 p (.aload_n 0) 0))) (tB 60 p (tB 63 p (tB 66 p (tL 66 p (.goto 100) 166) (tL 63 p (.ifCond .ne 6) 69)) (tL 60 p (.invokevirtual 144) 24)) (tB 57 p (tB 58 p (tL 58 p (.iload 4) 0) (tL 57 p (.iload_n 3) 0)) (tL 55 p (.iload 5) 0)))) (tB 45 p (tB 51 p (tB 53 p (tB 54 p (tL 54 p (.iload_n 1) 0) (tL 53 p (.aload_n 0) 0)) (tL 51 p (.istore 5) 0)) (tB 48 p (tB 50 p (tL 50 p .iaload 0) (tL 48 p (.iload 4) 0)) (tL 45 p (.getfield 33) 7))) (tB 40 p (tB 41 p (tB 44 p (tL 44 p (.aload_n 0) 0) (tL 41 p (.if_icmp .ge 131) 172)) (tL 40 p (.iload_n 2) 0)) (tB 38 p (tL 38 p (.iload 4) 0) (tL 36 p (.istore 4) 0))))) (tB 17 p (tB 26 p (tB 31 p (tB 32 p (tB 35 p (tL 35 p (.iconst 0) 0) (tL 32 p (.putfield 141) 26)) (tL 31 p (.iconst 0) 0)) (tB 27 p (tB 30 p (tL 30 p (.aload_n 0) 0) (tL 27 p (.putfield 138) 25)) (tL 26 p (.iconst 0) 0))) (tB 21 p (tB 22 p (tB 25 p (tL 25 p (.aload_n 0) 0) (tL 22 p (.putfield 125) 24)) (tL 21 p (.iconst 0) 0)) (tB 20 p (tL 20 p (.aload_n 0) 0) (tL 17 p (.putfield 135) 23)))) (tB 9 p (tB 12 p (tB 15 p (tB 16 p (tL 16 p (.iconst 0) 0) (tL 15 p (.aload_n 0) 0)) (tL 12 p (.putfield 131) 22)) (tB 10 p (tB 11 p (tL 11 p (.lconst 0) 0) (tL 10 p (.aload_n 0) 0)) (tL 9 p (.istore_n 3) 0))) (tB 4 p (tB 5 p (tB 6 p (tL 6 p (.getfield 96) 21) (tL 5 p (.aload_n 0) 0)) (tL 4 p (.istore_n 2) 0)) (tB 1 p (tL 1 p (.getfield 93) 20) (tL 0 p (.aload_n 0) 0)))))))
def cd24 (p : Nat) : Option (Instr × Nat) := (tB 33 p (tB 47 p (tB 54 p (tB 58 p (tB 61 p (tB 62 p (tL 62 p .ireturn 0) (tL 61 p (.iconst 0) 0)) (tL 58 p (.goto 4) 62)) (tB 57 p (tL 57 p (.iconst 1) 0) (tL 54 p (.ifCond .eq 7) 61))) (tB 49 p (tB 51 p (tL 51 p (.invokevirtual 109) 26) (tL 49 p (.iload 4) 0)) (tB 48 p (tL 48 p (.iload_n 3) 0) (tL 47 p (.iload_n 2) 0)))) (tB 37 p (tB 42 p (tB 45 p (tB 46 p (tL 46 p (.iload_n 1) 0) (tL 45 p (.aload_n 0) 0)) (tL 42 p (.ifCond .eq 19) 61)) (tB 39 p (tL 39 p (.invokevirtual 105) 25) (tL 37 p (.iload 4) 0))) (tB 35 p (tB 36 p (tL 36 p (.iload_n 3) 0) (tL 35 p (.iload_n 2) 0)) (tB 34 p (tL 34 p (.iload_n 1) 0) (tL 33 p (.aload_n 0) 0))))) (tB 17 p (tB 24 p (tB 28 p (tB 31 p (tB 32 p (tL 32 p .ireturn 0) (tL 31 p (.iconst 0) 0)) (tL 28 p (.goto 4) 32)) (tB 27 p (tL 27 p (.iconst 1) 0) (tL 24 p (.ifCond .eq 7) 31))) (tB 19 p (tB 21 p (tL 21 p (.invokevirtual 102) 35) (tL 19 p (.iload 4) 0)) (tB 18 p (tL 18 p (.iload_n 3) 0) (tL 17 p (.aload_n 0) 0)))) (tB 8 p (tB 11 p (tB 14 p (tL 14 p (.ifCond .eq 17) 31) (tL 11 p (.invokevirtual 99) 34)) (tB 9 p (tL 9 p (.iload 4) 0) (tL 8 p (.iload_n 3) 0))) (tB 4 p (tB 7 p (tL 7 p (.aload_n 0) 0) (tL 4 p (.ifCond .ne 29) 33)) (tB 1 p (tL 1 p (.getfield 56) 12) (tL 0 p (.aload_n 0) 0))))))
def cd25 (p : Nat) : Option (Instr × Nat) := (tB 67 p (tB 99 p (tB 116 p (tB 123 p (tB 127 p (tB 130 p (tB 131 p (tL 131 p .ireturn 0) (tL 130 p (.iconst 0) 0)) (tL 127 p (.goto 4) 131)) (tB 126 p (tL 126 p (.iconst 1) 0) (tL 123 p (.ifCond .lt 7) 130))) (tB 118 p (tB 120 p (tB 122 p (tL 122 p .lcmp 0) (tL 120 p (.lload 8) 0)) (tL 118 p (.lload 6) 0)) (tB 117 p (tL 117 p .ireturn 0) (tL 116 p (.iconst 0) 0)))) (tB 107 p (tB 109 p (tB 112 p (tB 113 p (tL 113 p (.goto 4) 117) (tL 112 p (.iconst 1) 0)) (tL 109 p (.ifCond .lt 7) 116)) (tB 108 p (tL 108 p .lcmp 0) (tL 107 p .lneg 0))) (tB 103 p (tB 105 p (tL 105 p (.lload 8) 0) (tL 103 p (.lload 6) 0)) (tB 100 p (tL 100 p (.if_icmp .ne 18) 118) (tL 99 p (.iconst 1) 0))))) (tB 82 p (tB 89 p (tB 93 p (tB 95 p (tB 96 p (tL 96 p (.getfield 59) 13) (tL 95 p (.aload_n 0) 0)) (tL 93 p (.lstore 8) 0)) (tB 92 p (tL 92 p .i2l 0) (tL 89 p (.getfield 62) 14))) (tB 86 p (tB 88 p (tL 88 p (.aload_n 0) 0) (tL 86 p (.lstore 6) 0)) (tB 83 p (tL 83 p (.invokevirtual 115) 37) (tL 82 p (.iload_n 2) 0)))) (tB 75 p (tB 79 p (tB 80 p (tB 81 p (tL 81 p (.iload_n 1) 0) (tL 80 p (.aload_n 0) 0)) (tL 79 p .ireturn 0)) (tB 78 p (tL 78 p (.iconst 0) 0) (tL 75 p (.goto 4) 79))) (tB 71 p (tB 74 p (tL 74 p (.iconst 1) 0) (tL 71 p (.if_icmp .ne 7) 78)) (tB 70 p (tL 70 p (.iconst 1) 0) (tL 67 p (.getfield 53) 11)))))) (tB 33 p (tB 49 p (tB 58 p (tB 60 p (tB 63 p (tB 66 p (tL 66 p (.aload_n 0) 0) (tL 63 p (.ifCond .eq 17) 80)) (tL 60 p (.invokevirtual 85) 28)) (tB 59 p (tL 59 p (.iload_n 2) 0) (tL 58 p (.aload_n 0) 0))) (tB 55 p (tB 57 p (tL 57 p .ireturn 0) (tL 55 p (.iload 5) 0)) (tB 52 p (tL 52 p (.ifCond .eq 6) 58) (tL 49 p (.invokevirtual 85) 28)))) (tB 40 p (tB 44 p (tB 47 p (tB 48 p (tL 48 p (.iload_n 1) 0) (tL 47 p (.aload_n 0) 0)) (tL 44 p (.if_icmp .eq 11) 55)) (tB 43 p (tL 43 p (.iconst 2) 0) (tL 40 p (.getfield 59) 13))) (tB 37 p (tB 39 p (tL 39 p (.aload_n 0) 0) (tL 37 p (.istore 5) 0)) (tB 36 p (tL 36 p (.iconst 0) 0) (tL 33 p (.goto 4) 37))))) (tB 17 p (tB 23 p (tB 28 p (tB 29 p (tB 32 p (tL 32 p (.iconst 1) 0) (tL 29 p (.if_icmp .le 7) 36)) (tL 28 p (.iload_n 3) 0)) (tB 26 p (tL 26 p (.iload 4) 0) (tL 23 p (.ifCond .ne 9) 32))) (tB 19 p (tB 20 p (tL 20 p (.invokevirtual 112) 27) (tL 19 p (.iload_n 2) 0)) (tB 18 p (tL 18 p (.iload_n 1) 0) (tL 17 p (.aload_n 0) 0)))) (tB 8 p (tB 12 p (tB 15 p (tB 16 p (tL 16 p .ireturn 0) (tL 15 p (.iconst 1) 0)) (tL 12 p (.if_icmp .ne 5) 17)) (tB 11 p (tL 11 p (.iconst 4) 0) (tL 8 p (.getfield 59) 13))) (tB 4 p (tB 7 p (tL 7 p (.aload_n 0) 0) (tL 4 p (.ifCond .eq 11) 15)) (tB 1 p (tL 1 p (.getfield 59) 13) (tL 0 p (.aload_n 0) 0)))))))
def cd26 (p : Nat) : Option (Instr × Nat) := (tB 67 p (tB 99 p (tB 116 p (tB 122 p (tB 126 p (tB 129 p (tB 130 p (tL 130 p .ireturn 0) (tL 129 p (.iconst 0) 0)) (tL 126 p (.goto 4) 130)) (tB 125 p (tL 125 p (.iconst 1) 0) (tL 122 p (.ifCond .gt 7) 129))) (tB 119 p (tB 121 p (tL 121 p .lcmp 0) (tL 119 p (.lload 8) 0)) (tB 117 p (tL 117 p (.lload 6) 0) (tL 116 p .ireturn 0)))) (tB 107 p (tB 111 p (tB 112 p (tB 115 p (tL 115 p (.iconst 0) 0) (tL 112 p (.goto 4) 116)) (tL 111 p (.iconst 1) 0)) (tB 108 p (tL 108 p (.ifCond .gt 7) 115) (tL 107 p .lcmp 0))) (tB 104 p (tB 106 p (tL 106 p .lneg 0) (tL 104 p (.lload 8) 0)) (tB 102 p (tL 102 p (.lload 6) 0) (tL 99 p (.if_icmp .ne 18) 117))))) (tB 82 p (tB 91 p (tB 94 p (tB 95 p (tB 98 p (tL 98 p (.iconst 1) 0) (tL 95 p (.getfield 65) 15)) (tL 94 p (.aload_n 0) 0)) (tB 92 p (tL 92 p (.lstore 8) 0) (tL 91 p .i2l 0))) (tB 87 p (tB 88 p (tL 88 p (.getfield 68) 16) (tL 87 p (.aload_n 0) 0)) (tB 85 p (tL 85 p (.lstore 6) 0) (tL 82 p (.invokevirtual 115) 37)))) (tB 77 p (tB 79 p (tB 80 p (tB 81 p (tL 81 p (.iload_n 2) 0) (tL 80 p (.iload_n 1) 0)) (tL 79 p (.aload_n 0) 0)) (tB 78 p (tL 78 p .ireturn 0) (tL 77 p (.iconst 0) 0))) (tB 73 p (tB 74 p (tL 74 p (.goto 4) 78) (tL 73 p (.iconst 1) 0)) (tB 70 p (tL 70 p (.ifCond .ne 7) 77) (tL 67 p (.getfield 53) 11)))))) (tB 33 p (tB 49 p (tB 58 p (tB 60 p (tB 63 p (tB 66 p (tL 66 p (.aload_n 0) 0) (tL 63 p (.ifCond .eq 16) 79)) (tL 60 p (.invokevirtual 85) 28)) (tB 59 p (tL 59 p (.iload_n 2) 0) (tL 58 p (.aload_n 0) 0))) (tB 55 p (tB 57 p (tL 57 p .ireturn 0) (tL 55 p (.iload 5) 0)) (tB 52 p (tL 52 p (.ifCond .eq 6) 58) (tL 49 p (.invokevirtual 85) 28)))) (tB 40 p (tB 44 p (tB 47 p (tB 48 p (tL 48 p (.iload_n 1) 0) (tL 47 p (.aload_n 0) 0)) (tL 44 p (.if_icmp .eq 11) 55)) (tB 43 p (tL 43 p (.iconst 2) 0) (tL 40 p (.getfield 65) 15))) (tB 37 p (tB 39 p (tL 39 p (.aload_n 0) 0) (tL 37 p (.istore 5) 0)) (tB 36 p (tL 36 p (.iconst 0) 0) (tL 33 p (.goto 4) 37))))) (tB 17 p (tB 23 p (tB 28 p (tB 29 p (tB 32 p (tL 32 p (.iconst 1) 0) (tL 29 p (.if_icmp .ge 7) 36)) (tL 28 p (.iload_n 3) 0)) (tB 26 p (tL 26 p (.iload 4) 0) (tL 23 p (.ifCond .ne 9) 32))) (tB 19 p (tB 20 p (tL 20 p (.invokevirtual 112) 27) (tL 19 p (.iload_n 2) 0)) (tB 18 p (tL 18 p (.iload_n 1) 0) (tL 17 p (.aload_n 0) 0)))) (tB 8 p (tB 12 p (tB 15 p (tB 16 p (tL 16 p .ireturn 0) (tL 15 p (.iconst 1) 0)) (tL 12 p (.ifCond .ne 5) 17)) (tB 9 p (tL 9 p (.getfield 65) 15) (tL 8 p (.aload_n 0) 0))) (tB 4 p (tB 5 p (tL 5 p (.if_icmp .eq 10) 15) (tL 4 p (.iconst 4) 0)) (tB 1 p (tL 1 p (.getfield 65) 15) (tL 0 p (.aload_n 0) 0)))))))
def cd27 (p : Nat) : Option (Instr × Nat) := (tB 33 p (tB 49 p (tB 56 p (tB 60 p (tB 63 p (tB 64 p (tL 64 p .ireturn 0) (tL 63 p (.iconst 0) 0)) (tL 60 p (.goto 4) 64)) (tB 59 p (tL 59 p (.iconst 1) 0) (tL 56 p (.if_icmp .ne 7) 63))) (tB 51 p (tB 54 p (tB 55 p (tL 55 p .iaload 0) (tL 54 p (.iload_n 2) 0)) (tL 51 p (.getfield 13) 1)) (tB 50 p (tL 50 p (.aload_n 0) 0) (tL 49 p .iaload 0)))) (tB 42 p (tB 44 p (tB 45 p (tB 48 p (tL 48 p (.iload_n 1) 0) (tL 45 p (.getfield 13) 1)) (tL 44 p (.aload_n 0) 0)) (tB 43 p (tL 43 p .ireturn 0) (tL 42 p (.iconst 0) 0))) (tB 37 p (tB 39 p (tL 39 p (.ifCond .eq 5) 44) (tL 37 p (.iload 4) 0)) (tB 34 p (tL 34 p (.ifCond .ne 8) 42) (tL 33 p (.iload_n 3) 0))))) (tB 15 p (tB 23 p (tB 28 p (tB 31 p (tB 32 p (tL 32 p .ireturn 0) (tL 31 p (.iconst 1) 0)) (tL 28 p (.ifCond .eq 5) 33)) (tB 26 p (tL 26 p (.iload 4) 0) (tL 23 p (.ifCond .eq 10) 33))) (tB 17 p (tB 20 p (tB 22 p (tL 22 p (.iload_n 3) 0) (tL 20 p (.istore 4) 0)) (tL 17 p (.invokevirtual 85) 28)) (tB 16 p (tL 16 p (.iload_n 2) 0) (tL 15 p (.aload_n 0) 0)))) (tB 8 p (tB 10 p (tB 11 p (tB 14 p (tL 14 p (.istore_n 3) 0) (tL 11 p (.invokevirtual 85) 28)) (tL 10 p (.iload_n 1) 0)) (tB 9 p (tL 9 p (.aload_n 0) 0) (tL 8 p .ireturn 0))) (tB 4 p (tB 7 p (tL 7 p (.iconst 1) 0) (tL 4 p (.ifCond .ne 5) 9)) (tB 1 p (tL 1 p (.getfield 50) 10) (tL 0 p (.aload_n 0) 0))))))
def cd28 (p : Nat) : Option (Instr × Nat) := (tB 7 p (tB 12 p (tB 15 p (tB 16 p (tL 16 p .ireturn 0) (tL 15 p (.iconst 0) 0)) (tL 12 p (.goto 4) 16)) (tB 8 p (tB 11 p (tL 11 p (.iconst 1) 0) (tL 8 p (.ifCond .eq 7) 15)) (tL 7 p .iand 0))) (tB 4 p (tB 5 p (tB 6 p (tL 6 p (.iconst 1) 0) (tL 5 p .iaload 0)) (tL 4 p (.iload_n 1) 0)) (tB 1 p (tL 1 p (.getfield 19) 3) (tL 0 p (.aload_n 0) 0))))
def cd29 (p : Nat) : Option (Instr × Nat) := (tB 7 p (tB 12 p (tB 15 p (tB 16 p (tL 16 p .ireturn 0) (tL 15 p (.iconst 0) 0)) (tL 12 p (.goto 4) 16)) (tB 8 p (tB 11 p (tL 11 p (.iconst 1) 0) (tL 8 p (.ifCond .eq 7) 15)) (tL 7 p .iand 0))) (tB 4 p (tB 5 p (tB 6 p (tL 6 p (.iconst 2) 0) (tL 5 p .iaload 0)) (tL 4 p (.iload_n 1) 0)) (tB 1 p (tL 1 p (.getfield 19) 3) (tL 0 p (.aload_n 0) 0))))
def cd30 (p : Nat) : Option (Instr × Nat) := (tB 123 p (tB 183 p (tB 210 p (tB 222 p (tB 231 p (tB 235 p (tB 236 p (tB 239 p (tL 239 p .return_ 0) (tL 236 p (.invokevirtual 160) 36)) (tL 235 p (.iconst 0) 0)) (tB 232 p (tL 232 p (.goto 4) 236) (tL 231 p (.iconst 1) 0))) (tB 226 p (tB 228 p (tL 228 p (.if_icmp .ne 7) 235) (tL 226 p (.bipush 8) 0)) (tB 223 p (tL 223 p (.getfield 71) 17) (tL 222 p (.aload_n 0) 0)))) (tB 216 p (tB 220 p (tB 221 p (tL 221 p (.iload_n 2) 0) (tL 220 p (.iload_n 1) 0)) (tB 219 p (tL 219 p (.aload_n 0) 0) (tL 216 p (.goto 23) 239))) (tB 212 p (tB 213 p (tL 213 p (.invokevirtual 150) 31) (tL 212 p (.iconst 0) 0)) (tB 211 p (tL 211 p (.lload_n 3) 0) (tL 210 p (.iload_n 1) 0))))) (tB 197 p (tB 204 p (tB 208 p (tB 209 p (tL 209 p (.aload_n 0) 0) (tL 208 p (.lstore_n 3) 0)) (tB 205 p (tL 205 p (.invokevirtual 157) 33) (tL 204 p (.iload_n 2) 0))) (tB 202 p (tB 203 p (tL 203 p (.iload_n 1) 0) (tL 202 p (.aload_n 0) 0)) (tB 199 p (tL 199 p (.if_icmp .ne 20) 219) (tL 197 p (.bipush 7) 0)))) (tB 187 p (tB 193 p (tB 194 p (tL 194 p (.getfield 71) 17) (tL 193 p (.aload_n 0) 0)) (tB 190 p (tL 190 p (.goto 49) 239) (tL 187 p (.invokevirtual 150) 31))) (tB 185 p (tB 186 p (tL 186 p (.iconst 0) 0) (tL 185 p (.lload_n 3) 0)) (tB 184 p (tL 184 p (.iload_n 1) 0) (tL 183 p (.aload_n 0) 0)))))) (tB 155 p (tB 167 p (tB 176 p (tB 178 p (tB 179 p (tB 182 p (tL 182 p (.lstore_n 3) 0) (tL 179 p (.invokevirtual 154) 38)) (tL 178 p (.iload_n 2) 0)) (tB 177 p (tL 177 p (.iload_n 1) 0) (tL 176 p (.aload_n 0) 0))) (tB 171 p (tB 173 p (tL 173 p (.if_icmp .ne 20) 193) (tL 171 p (.bipush 6) 0)) (tB 168 p (tL 168 p (.getfield 71) 17) (tL 167 p (.aload_n 0) 0)))) (tB 159 p (tB 161 p (tB 164 p (tL 164 p (.goto 75) 239) (tL 161 p (.invokevirtual 150) 31)) (tB 160 p (tL 160 p (.iconst 0) 0) (tL 159 p .ladd 0))) (tB 157 p (tB 158 p (tL 158 p (.lconst 1) 0) (tL 157 p .i2l 0)) (tB 156 p (tL 156 p (.iload_n 2) 0) (tL 155 p (.iload_n 1) 0))))) (tB 139 p (tB 147 p (tB 151 p (tB 154 p (tL 154 p (.aload_n 0) 0) (tL 151 p (.if_icmp .ne 16) 167)) (tB 150 p (tL 150 p (.iconst 5) 0) (tL 147 p (.getfield 71) 17))) (tB 143 p (tB 146 p (tL 146 p (.aload_n 0) 0) (tL 143 p (.goto 96) 239)) (tB 140 p (tL 140 p (.invokevirtual 150) 31) (tL 139 p (.iconst 0) 0)))) (tB 129 p (tB 135 p (tB 136 p (tL 136 p (.goto 4) 140) (tL 135 p (.iconst 1) 0)) (tB 132 p (tL 132 p (.ifCond .ne 7) 139) (tL 129 p (.getfield 135) 23))) (tB 127 p (tB 128 p (tL 128 p (.aload_n 0) 0) (tL 127 p .i2l 0)) (tB 124 p (tL 124 p (.getfield 141) 26) (tL 123 p (.aload_n 0) 0))))))) (tB 62 p (tB 90 p (tB 106 p (tB 114 p (tB 118 p (tB 121 p (tB 122 p (tL 122 p (.iload_n 1) 0) (tL 121 p (.aload_n 0) 0)) (tL 118 p (.if_icmp .ne 28) 146)) (tB 117 p (tL 117 p (.iconst 4) 0) (tL 114 p (.getfield 71) 17))) (tB 110 p (tB 113 p (tL 113 p (.aload_n 0) 0) (tL 110 p (.goto 129) 239)) (tB 107 p (tL 107 p (.invokevirtual 150) 31) (tL 106 p (.iconst 0) 0)))) (tB 96 p (tB 102 p (tB 103 p (tL 103 p (.goto 4) 107) (tL 102 p (.iconst 1) 0)) (tB 99 p (tL 99 p (.ifCond .ne 7) 106) (tL 96 p (.getfield 135) 23))) (tB 94 p (tB 95 p (tL 95 p (.aload_n 0) 0) (tL 94 p .i2l 0)) (tB 91 p (tL 91 p (.getfield 138) 25) (tL 90 p (.aload_n 0) 0))))) (tB 74 p (tB 84 p (tB 88 p (tB 89 p (tL 89 p (.iload_n 1) 0) (tL 88 p (.aload_n 0) 0)) (tB 85 p (tL 85 p (.if_icmp .ne 28) 113) (tL 84 p (.iconst 3) 0))) (tB 80 p (tB 81 p (tL 81 p (.getfield 71) 17) (tL 80 p (.aload_n 0) 0)) (tB 77 p (tL 77 p (.goto 162) 239) (tL 74 p (.invokevirtual 150) 31)))) (tB 68 p (tB 72 p (tB 73 p (tL 73 p (.iconst 0) 0) (tL 72 p .i2l 0)) (tB 69 p (tL 69 p (.getfield 125) 24) (tL 68 p (.aload_n 0) 0))) (tB 66 p (tB 67 p (tL 67 p (.iload_n 1) 0) (tL 66 p (.aload_n 0) 0)) (tB 63 p (tL 63 p (.if_icmp .ne 17) 80) (tL 62 p (.iconst 2) 0)))))) (tB 30 p (tB 46 p (tB 52 p (tB 58 p (tB 59 p (tL 59 p (.getfield 71) 17) (tL 58 p (.aload_n 0) 0)) (tB 55 p (tL 55 p (.goto 184) 239) (tL 52 p (.invokevirtual 150) 31))) (tB 50 p (tB 51 p (tL 51 p (.iconst 0) 0) (tL 50 p .i2l 0)) (tB 47 p (tL 47 p (.getfield 135) 23) (tL 46 p (.aload_n 0) 0)))) (tB 40 p (tB 44 p (tB 45 p (tL 45 p (.iload_n 1) 0) (tL 44 p (.aload_n 0) 0)) (tB 41 p (tL 41 p (.if_icmp .ne 17) 58) (tL 40 p (.iconst 1) 0))) (tB 36 p (tB 37 p (tL 37 p (.getfield 71) 17) (tL 36 p (.aload_n 0) 0)) (tB 33 p (tL 33 p (.goto 206) 239) (tL 30 p (.invokevirtual 150) 31))))) (tB 14 p (tB 22 p (tB 26 p (tB 29 p (tL 29 p (.iconst 0) 0) (tL 26 p (.goto 4) 30)) (tB 25 p (tL 25 p (.iconst 1) 0) (tL 22 p (.ifCond .ne 7) 29))) (tB 18 p (tB 19 p (tL 19 p (.getfield 135) 23) (tL 18 p (.aload_n 0) 0)) (tB 15 p (tL 15 p (.getfield 131) 22) (tL 14 p (.aload_n 0) 0)))) (tB 6 p (tB 12 p (tB 13 p (tL 13 p (.iload_n 1) 0) (tL 12 p (.aload_n 0) 0)) (tB 9 p (tL 9 p (.ifCond .ne 27) 36) (tL 6 p (.getfield 71) 17))) (tB 4 p (tB 5 p (tL 5 p (.aload_n 0) 0) (tL 4 p (.istore_n 2) 0)) (tB 1 p (tL 1 p (.getfield 96) 21) (tL 0 p (.aload_n 0) 0))))))))
def cd31 (p : Nat) : Option (Instr × Nat) := (tB 12 p (tB 19 p (tB 23 p (tB 24 p (tL 24 p .return_ 0) (tL 23 p .lastore 0)) (tB 22 p (tL 22 p (.lload_n 2) 0) (tL 19 p (.goto 4) 23))) (tB 15 p (tB 18 p (tL 18 p (.lconst 0) 0) (tL 15 p (.ifCond .eq 7) 22)) (tB 13 p (tL 13 p (.iload 4) 0) (tL 12 p (.iload_n 1) 0)))) (tB 5 p (tB 8 p (tB 9 p (tL 9 p (.getfield 22) 4) (tL 8 p (.aload_n 0) 0)) (tB 7 p (tL 7 p .bastore 0) (tL 5 p (.iload 4) 0))) (tB 1 p (tB 4 p (tL 4 p (.iload_n 1) 0) (tL 1 p (.getfield 26) 5)) (tL 0 p (.aload_n 0) 0))))
def cd32 (p : Nat) : Option (Instr × Nat) := (tB 86 p (tB 125 p (tB 143 p (tB 153 p (tB 158 p (tB 161 p (tB 162 p (tL 162 p .ireturn 0) (tL 161 p (.iconst 0) 0)) (tL 158 p (.goto 4) 162)) (tB 154 p (tB 157 p (tL 157 p (.iconst 1) 0) (tL 154 p (.if_icmp .le 7) 161)) (tL 153 p .iaload 0))) (tB 148 p (tB 149 p (tB 152 p (tL 152 p (.iload_n 2) 0) (tL 149 p (.getfield 13) 1)) (tL 148 p (.aload_n 0) 0)) (tB 146 p (tB 147 p (tL 147 p .iaload 0) (tL 146 p (.iload_n 1) 0)) (tL 143 p (.getfield 13) 1)))) (tB 133 p (tB 140 p (tB 141 p (tB 142 p (tL 142 p (.aload_n 0) 0) (tL 141 p .ireturn 0)) (tL 140 p (.iconst 0) 0)) (tB 136 p (tB 137 p (tL 137 p (.goto 4) 141) (tL 136 p (.iconst 1) 0)) (tL 133 p (.if_icmp .ge 7) 140))) (tB 128 p (tB 131 p (tB 132 p (tL 132 p .iaload 0) (tL 131 p (.iload_n 2) 0)) (tL 128 p (.getfield 13) 1)) (tB 126 p (tB 127 p (tL 127 p (.aload_n 0) 0) (tL 126 p .iaload 0)) (tL 125 p (.iload_n 1) 0))))) (tB 103 p (tB 113 p (tB 118 p (tB 121 p (tB 122 p (tL 122 p (.getfield 13) 1) (tL 121 p (.aload_n 0) 0)) (tL 118 p (.if_icmp .ne 24) 142)) (tB 114 p (tB 117 p (tL 117 p (.iconst 1) 0) (tL 114 p (.getfield 50) 10)) (tL 113 p (.aload_n 0) 0))) (tB 108 p (tB 111 p (tB 112 p (tL 112 p .ireturn 0) (tL 111 p (.iconst 0) 0)) (tL 108 p (.goto 4) 112)) (tB 104 p (tB 107 p (tL 107 p (.iconst 1) 0) (tL 104 p (.if_icmp .ge 7) 111)) (tL 103 p (.iload_n 2) 0)))) (tB 93 p (tB 98 p (tB 99 p (tB 102 p (tL 102 p (.iload_n 1) 0) (tL 99 p (.if_icmp .ne 14) 113)) (tL 98 p .iaload 0)) (tB 94 p (tB 97 p (tL 97 p (.iload_n 2) 0) (tL 94 p (.getfield 13) 1)) (tL 93 p (.aload_n 0) 0))) (tB 88 p (tB 91 p (tB 92 p (tL 92 p .iaload 0) (tL 91 p (.iload_n 1) 0)) (tL 88 p (.getfield 13) 1)) (tB 87 p (tL 87 p (.aload_n 0) 0) (tL 86 p .ireturn 0)))))) (tB 41 p (tB 63 p (tB 74 p (tB 81 p (tB 82 p (tB 85 p (tL 85 p (.iconst 0) 0) (tL 82 p (.goto 4) 86)) (tL 81 p (.iconst 1) 0)) (tB 77 p (tB 78 p (tL 78 p (.if_icmp .ne 7) 85) (tL 77 p (.iconst 1) 0)) (tL 74 p (.getfield 53) 11))) (tB 68 p (tB 70 p (tB 73 p (tL 73 p (.aload_n 0) 0) (tL 70 p (.ifCond .eq 17) 87)) (tL 68 p (.iload 4) 0)) (tB 66 p (tB 67 p (tL 67 p .ireturn 0) (tL 66 p (.iconst 0) 0)) (tL 63 p (.goto 4) 67)))) (tB 51 p (tB 56 p (tB 59 p (tB 62 p (tL 62 p (.iconst 1) 0) (tL 59 p (.ifCond .ne 7) 66)) (tL 56 p (.getfield 53) 11)) (tB 52 p (tB 55 p (tL 55 p (.aload_n 0) 0) (tL 52 p (.ifCond .eq 16) 68)) (tL 51 p (.iload_n 3) 0))) (tB 46 p (tB 49 p (tB 50 p (tL 50 p .ireturn 0) (tL 49 p (.iconst 0) 0)) (tL 46 p (.goto 4) 50)) (tB 42 p (tB 45 p (tL 45 p (.iconst 1) 0) (tL 42 p (.if_icmp .ge 7) 49)) (tL 41 p (.iload_n 2) 0))))) (tB 19 p (tB 29 p (tB 35 p (tB 37 p (tB 40 p (tL 40 p (.iload_n 1) 0) (tL 37 p (.ifCond .eq 14) 51)) (tL 35 p (.iload 4) 0)) (tB 31 p (tB 32 p (tL 32 p (.ifCond .eq 19) 51) (tL 31 p (.iload_n 3) 0)) (tL 29 p (.istore 4) 0))) (tB 24 p (tB 25 p (tB 26 p (tL 26 p (.invokevirtual 85) 28) (tL 25 p (.iload_n 2) 0)) (tL 24 p (.aload_n 0) 0)) (tB 20 p (tB 23 p (tL 23 p (.istore_n 3) 0) (tL 20 p (.invokevirtual 85) 28)) (tL 19 p (.iload_n 1) 0)))) (tB 9 p (tB 16 p (tB 17 p (tB 18 p (tL 18 p (.aload_n 0) 0) (tL 17 p .ireturn 0)) (tL 16 p (.iconst 0) 0)) (tB 12 p (tB 13 p (tL 13 p (.goto 4) 17) (tL 12 p (.iconst 1) 0)) (tL 9 p (.if_icmp .ge 7) 16))) (tB 4 p (tB 7 p (tB 8 p (tL 8 p (.iload_n 2) 0) (tL 7 p (.iload_n 1) 0)) (tL 4 p (.ifCond .ne 14) 18)) (tB 1 p (tL 1 p (.getfield 50) 10) (tL 0 p (.aload_n 0) 0)))))))
def cd33 (p : Nat) : Option (Instr × Nat) := (tB 39 p (tB 58 p (tB 67 p (tB 72 p (tB 75 p (tB 76 p (tL 76 p .lreturn 0) (tL 75 p (.lload_n 3) 0)) (tL 72 p (.goto (-67)) 5)) (tB 68 p (tB 69 p (tL 69 p (.iinc 5 1) 0) (tL 68 p (.lstore_n 3) 0)) (tL 67 p .ladd 0))) (tB 62 p (tB 65 p (tB 66 p (tL 66 p (.lconst 1) 0) (tL 65 p (.lload_n 3) 0)) (tL 62 p (.ifCond .ne 7) 69)) (tB 59 p (tL 59 p (.invokevirtual 112) 27) (tL 58 p .iaload 0)))) (tB 50 p (tB 54 p (tB 56 p (tB 57 p (tL 57 p .isub 0) (tL 56 p (.iconst 1) 0)) (tL 54 p (.iload 5) 0)) (tB 51 p (tL 51 p (.getfield 33) 7) (tL 50 p (.aload_n 0) 0))) (tB 44 p (tB 47 p (tB 48 p (tL 48 p (.iload 6) 0) (tL 47 p (.aload_n 0) 0)) (tL 44 p (.ifCond .eq 21) 65)) (tB 42 p (tL 42 p (.iload 5) 0) (tL 39 p (.goto 30) 69))))) (tB 17 p (tB 27 p (tB 32 p (tB 33 p (tB 36 p (tL 36 p (.ifCond .eq 6) 42) (tL 33 p (.invokevirtual 112) 27)) (tL 32 p (.iload_n 1) 0)) (tB 29 p (tB 30 p (tL 30 p (.iload 6) 0) (tL 29 p (.aload_n 0) 0)) (tL 27 p (.istore 6) 0))) (tB 21 p (tB 24 p (tB 26 p (tL 26 p .iaload 0) (tL 24 p (.iload 5) 0)) (tL 21 p (.getfield 33) 7)) (tB 20 p (tL 20 p (.aload_n 0) 0) (tL 17 p (.if_icmp .ge 58) 75)))) (tB 7 p (tB 11 p (tB 13 p (tB 14 p (tL 14 p (.getfield 93) 20) (tL 13 p (.aload_n 0) 0)) (tL 11 p (.iload 5) 0)) (tB 8 p (tL 8 p (.if_icmp .ge 67) 75) (tL 7 p (.iload_n 2) 0))) (tB 2 p (tB 3 p (tB 5 p (tL 5 p (.iload 5) 0) (tL 3 p (.istore 5) 0)) (tL 2 p (.iconst 0) 0)) (tB 1 p (tL 1 p (.lstore_n 3) 0) (tL 0 p (.lconst 1) 0))))))
def cd34 (p : Nat) : Option (Instr × Nat) := (tB 42 p (tB 64 p (tB 74 p (tB 81 p (tB 83 p (tB 84 p (tL 84 p .ireturn 0) (tL 83 p (.iconst 1) 0)) (tB 82 p (tL 82 p .ireturn 0) (tL 81 p (.iconst 0) 0))) (tB 77 p (tB 78 p (tL 78 p (.goto 4) 82) (tL 77 p (.iconst 1) 0)) (tL 74 p (.ifCond .lt 7) 81))) (tB 70 p (tB 72 p (tB 73 p (tL 73 p .lcmp 0) (tL 72 p .ladd 0)) (tL 70 p (.lload 7) 0)) (tB 67 p (tB 69 p (tL 69 p (.lload_n 3) 0) (tL 67 p (.lload 5) 0)) (tL 64 p (.if_icmp .ne 19) 83)))) (tB 53 p (tB 58 p (tB 60 p (tB 63 p (tL 63 p (.iconst 3) 0) (tL 60 p (.getfield 59) 13)) (tB 59 p (tL 59 p (.aload_n 0) 0) (tL 58 p .ireturn 0))) (tB 54 p (tB 57 p (tL 57 p (.iconst 0) 0) (tL 54 p (.goto 4) 58)) (tL 53 p (.iconst 1) 0))) (tB 48 p (tB 49 p (tB 50 p (tL 50 p (.ifCond .lt 7) 57) (tL 49 p .lcmp 0)) (tL 48 p (.lload_n 3) 0)) (tB 43 p (tB 46 p (tL 46 p (.lload 5) 0) (tL 43 p (.if_icmp .ne 16) 59)) (tL 42 p (.iconst 2) 0))))) (tB 19 p (tB 29 p (tB 36 p (tB 38 p (tB 39 p (tL 39 p (.getfield 59) 13) (tL 38 p (.aload_n 0) 0)) (tB 37 p (tL 37 p .ireturn 0) (tL 36 p (.iconst 0) 0))) (tB 32 p (tB 33 p (tL 33 p (.goto 4) 37) (tL 32 p (.iconst 1) 0)) (tL 29 p (.ifCond .lt 7) 36))) (tB 25 p (tB 27 p (tB 28 p (tL 28 p .lcmp 0) (tL 27 p .lsub 0)) (tL 25 p (.lload 7) 0)) (tB 22 p (tB 24 p (tL 24 p (.lload_n 3) 0) (tL 22 p (.lload 5) 0)) (tL 19 p (.if_icmp .ne 19) 38)))) (tB 7 p (tB 12 p (tB 15 p (tB 18 p (tL 18 p (.iconst 1) 0) (tL 15 p (.getfield 59) 13)) (tB 14 p (tL 14 p (.aload_n 0) 0) (tL 12 p (.lstore 7) 0))) (tB 8 p (tB 11 p (tL 11 p .i2l 0) (tL 8 p (.getfield 62) 14)) (tL 7 p (.aload_n 0) 0))) (tB 3 p (tB 4 p (tB 5 p (tL 5 p (.lstore 5) 0) (tL 4 p .i2l 0)) (tL 3 p (.iload_n 2) 0)) (tB 1 p (tB 2 p (tL 2 p (.lstore_n 3) 0) (tL 1 p .i2l 0)) (tL 0 p (.iload_n 1) 0))))))
def cd35 (p : Nat) : Option (Instr × Nat) := (tB 42 p (tB 64 p (tB 74 p (tB 81 p (tB 83 p (tB 84 p (tL 84 p .ireturn 0) (tL 83 p (.iconst 1) 0)) (tB 82 p (tL 82 p .ireturn 0) (tL 81 p (.iconst 0) 0))) (tB 77 p (tB 78 p (tL 78 p (.goto 4) 82) (tL 77 p (.iconst 1) 0)) (tL 74 p (.ifCond .gt 7) 81))) (tB 70 p (tB 72 p (tB 73 p (tL 73 p .lcmp 0) (tL 72 p .ladd 0)) (tL 70 p (.lload 7) 0)) (tB 67 p (tB 69 p (tL 69 p (.lload_n 3) 0) (tL 67 p (.lload 5) 0)) (tL 64 p (.if_icmp .ne 19) 83)))) (tB 53 p (tB 58 p (tB 60 p (tB 63 p (tL 63 p (.iconst 3) 0) (tL 60 p (.getfield 65) 15)) (tB 59 p (tL 59 p (.aload_n 0) 0) (tL 58 p .ireturn 0))) (tB 54 p (tB 57 p (tL 57 p (.iconst 0) 0) (tL 54 p (.goto 4) 58)) (tL 53 p (.iconst 1) 0))) (tB 48 p (tB 49 p (tB 50 p (tL 50 p (.ifCond .gt 7) 57) (tL 49 p .lcmp 0)) (tL 48 p (.lload_n 3) 0)) (tB 43 p (tB 46 p (tL 46 p (.lload 5) 0) (tL 43 p (.if_icmp .ne 16) 59)) (tL 42 p (.iconst 2) 0))))) (tB 19 p (tB 29 p (tB 36 p (tB 38 p (tB 39 p (tL 39 p (.getfield 65) 15) (tL 38 p (.aload_n 0) 0)) (tB 37 p (tL 37 p .ireturn 0) (tL 36 p (.iconst 0) 0))) (tB 32 p (tB 33 p (tL 33 p (.goto 4) 37) (tL 32 p (.iconst 1) 0)) (tL 29 p (.ifCond .gt 7) 36))) (tB 25 p (tB 27 p (tB 28 p (tL 28 p .lcmp 0) (tL 27 p .lsub 0)) (tL 25 p (.lload 7) 0)) (tB 22 p (tB 24 p (tL 24 p (.lload_n 3) 0) (tL 22 p (.lload 5) 0)) (tL 19 p (.if_icmp .ne 19) 38)))) (tB 7 p (tB 12 p (tB 15 p (tB 18 p (tL 18 p (.iconst 1) 0) (tL 15 p (.getfield 65) 15)) (tB 14 p (tL 14 p (.aload_n 0) 0) (tL 12 p (.lstore 7) 0))) (tB 8 p (tB 11 p (tL 11 p .i2l 0) (tL 8 p (.getfield 68) 16)) (tL 7 p (.aload_n 0) 0))) (tB 3 p (tB 4 p (tB 5 p (tL 5 p (.lstore 5) 0) (tL 4 p .i2l 0)) (tL 3 p (.iload_n 2) 0)) (tB 1 p (tB 2 p (tL 2 p (.lstore_n 3) 0) (tL 1 p .i2l 0)) (tL 0 p (.iload_n 1) 0))))))
def cd36 (p : Nat) : Option (Instr × Nat) := (tB 47 p (tB 73 p (tB 84 p (tB 91 p (tB 93 p (tB 96 p (tL 96 p .return_ 0) (tL 93 p (.invokevirtual 150) 31)) (tB 92 p (tL 92 p (.iconst 0) 0) (tL 91 p .i2l 0))) (tB 88 p (tB 90 p (tL 90 p .iaload 0) (tL 88 p (.iload 6) 0)) (tB 85 p (tL 85 p (.getfield 16) 2) (tL 84 p (.aload_n 0) 0)))) (tB 76 p (tB 82 p (tB 83 p (tL 83 p (.iload_n 1) 0) (tL 82 p (.aload_n 0) 0)) (tB 79 p (tL 79 p (.goto 17) 96) (tL 76 p (.invokevirtual 150) 31))) (tB 74 p (tB 75 p (tL 75 p (.iconst 1) 0) (tL 74 p (.lconst 0) 0)) (tL 73 p (.iload_n 1) 0)))) (tB 59 p (tB 64 p (tB 69 p (tB 72 p (tL 72 p (.aload_n 0) 0) (tL 69 p (.ifCond .eq 13) 82)) (tB 66 p (tL 66 p (.invokevirtual 147) 29) (tL 64 p (.iload 6) 0))) (tB 61 p (tB 63 p (tL 63 p (.aload_n 0) 0) (tL 61 p (.istore 6) 0)) (tB 60 p (tL 60 p .iaload 0) (tL 59 p .l2i 0)))) (tB 52 p (tB 54 p (tB 57 p (tL 57 p (.lload 4) 0) (tL 54 p (.getfield 33) 7)) (tB 53 p (tL 53 p (.aload_n 0) 0) (tL 52 p .return_ 0))) (tB 48 p (tB 49 p (tL 49 p (.invokevirtual 150) 31) (tL 48 p (.iconst 1) 0)) (tL 47 p (.lconst 0) 0))))) (tB 23 p (tB 35 p (tB 41 p (tB 45 p (tB 46 p (tL 46 p (.iload_n 1) 0) (tL 45 p (.aload_n 0) 0)) (tB 42 p (tL 42 p (.ifCond .le 11) 53) (tL 41 p .lcmp 0))) (tB 39 p (tB 40 p (tL 40 p .lsub 0) (tL 39 p (.lconst 1) 0)) (tB 38 p (tL 38 p .i2l 0) (tL 35 p (.getfield 93) 20)))) (tB 28 p (tB 32 p (tB 34 p (tL 34 p (.aload_n 0) 0) (tL 32 p (.lload 4) 0)) (tB 29 p (tL 29 p (.ifCond .lt 16) 45) (tL 28 p .lcmp 0))) (tB 25 p (tB 27 p (tL 27 p (.lconst 0) 0) (tL 25 p (.lload 4) 0)) (tL 23 p (.lstore 4) 0)))) (tB 11 p (tB 17 p (tB 21 p (tB 22 p (tL 22 p .ladd 0) (tL 21 p .i2l 0)) (tB 18 p (tL 18 p (.getfield 74) 18) (tL 17 p (.aload_n 0) 0))) (tB 15 p (tB 16 p (tL 16 p .i2l 0) (tL 15 p (.iload_n 2) 0)) (tB 12 p (tL 12 p (.goto 11) 23) (tL 11 p .lsub 0)))) (tB 5 p (tB 7 p (tB 10 p (tL 10 p .i2l 0) (tL 7 p (.getfield 74) 18)) (tB 6 p (tL 6 p (.aload_n 0) 0) (tL 5 p .i2l 0))) (tB 1 p (tB 4 p (tL 4 p (.iload_n 2) 0) (tL 1 p (.ifCond .eq 14) 15)) (tL 0 p (.iload_n 3) 0))))))
def cd37 (p : Nat) : Option (Instr × Nat) := (tB 25 p (tB 39 p (tB 45 p (tB 47 p (tB 48 p (tB 49 p (tL 49 p .lreturn 0) (tL 48 p (.lconst 0) 0)) (tL 47 p .lreturn 0)) (tB 46 p (tL 46 p .lsub 0) (tL 45 p .i2l 0))) (tB 43 p (tB 44 p (tL 44 p .iaload 0) (tL 43 p (.iload_n 2) 0)) (tB 40 p (tL 40 p (.getfield 13) 1) (tL 39 p (.aload_n 0) 0)))) (tB 33 p (tB 37 p (tB 38 p (tL 38 p .i2l 0) (tL 37 p .iaload 0)) (tB 36 p (tL 36 p (.iload_n 1) 0) (tL 33 p (.getfield 13) 1))) (tB 29 p (tB 32 p (tL 32 p (.aload_n 0) 0) (tL 29 p (.if_icmp .ne 19) 48)) (tB 28 p (tL 28 p (.iconst 2) 0) (tL 25 p (.getfield 50) 10))))) (tB 14 p (tB 20 p (tB 22 p (tB 23 p (tB 24 p (tL 24 p (.aload_n 0) 0) (tL 23 p .lreturn 0)) (tL 22 p .lsub 0)) (tB 21 p (tL 21 p .i2l 0) (tL 20 p .iaload 0))) (tB 16 p (tB 19 p (tL 19 p (.iload_n 1) 0) (tL 16 p (.getfield 13) 1)) (tB 15 p (tL 15 p (.aload_n 0) 0) (tL 14 p .i2l 0)))) (tB 8 p (tB 12 p (tB 13 p (tL 13 p .iaload 0) (tL 12 p (.iload_n 2) 0)) (tB 9 p (tL 9 p (.getfield 13) 1) (tL 8 p (.aload_n 0) 0))) (tB 4 p (tB 5 p (tL 5 p (.if_icmp .ne 19) 24) (tL 4 p (.iconst 1) 0)) (tB 1 p (tL 1 p (.getfield 50) 10) (tL 0 p (.aload_n 0) 0))))))
def cd38 (p : Nat) : Option (Instr × Nat) := (tB 22 p (tB 36 p (tB 39 p (tB 45 p (tB 46 p (tL 46 p .lreturn 0) (tL 45 p (.lload_n 3) 0)) (tB 42 p (tL 42 p (.goto (-37)) 5) (tL 39 p (.iinc 5 1) 0))) (tB 37 p (tB 38 p (tL 38 p (.lstore_n 3) 0) (tL 37 p .ladd 0)) (tL 36 p (.lconst 1) 0))) (tB 28 p (tB 32 p (tB 35 p (tL 35 p (.lload_n 3) 0) (tL 32 p (.ifCond .ne 7) 39)) (tB 29 p (tL 29 p (.invokevirtual 112) 27) (tL 28 p (.iload_n 1) 0))) (tB 25 p (tB 27 p (tL 27 p .iaload 0) (tL 25 p (.iload 5) 0)) (tL 22 p (.getfield 33) 7)))) (tB 8 p (tB 14 p (tB 20 p (tB 21 p (tL 21 p (.aload_n 0) 0) (tL 20 p (.aload_n 0) 0)) (tB 17 p (tL 17 p (.if_icmp .ge 28) 45) (tL 14 p (.getfield 93) 20))) (tB 11 p (tB 13 p (tL 13 p (.aload_n 0) 0) (tL 11 p (.iload 5) 0)) (tL 8 p (.if_icmp .ge 37) 45))) (tB 3 p (tB 5 p (tB 7 p (tL 7 p (.iload_n 2) 0) (tL 5 p (.iload 5) 0)) (tL 3 p (.istore 5) 0)) (tB 1 p (tB 2 p (tL 2 p (.iconst 0) 0) (tL 1 p (.lstore_n 3) 0)) (tL 0 p (.lconst 1) 0)))))
def pCode (m pc : Nat) : Option (Instr × Nat) := bif Nat.ble pN m then none else bif Nat.ble pTop pc then none else (bif Nat.ble 19 m then (bif Nat.ble 29 m then (bif Nat.ble 34 m then (bif Nat.ble 36 m then (bif Nat.ble 37 m then (bif Nat.ble 38 m then cd38 pc else cd37 pc) else cd36 pc) else (bif Nat.ble 35 m then cd35 pc else cd34 pc)) else (bif Nat.ble 31 m then (bif Nat.ble 32 m then (bif Nat.ble 33 m then cd33 pc else cd32 pc) else cd31 pc) else (bif Nat.ble 30 m then cd30 pc else cd29 pc))) else (bif Nat.ble 24 m then (bif Nat.ble 26 m then (bif Nat.ble 27 m then (bif Nat.ble 28 m then cd28 pc else cd27 pc) else cd26 pc) else (bif Nat.ble 25 m then cd25 pc else cd24 pc)) else (bif Nat.ble 21 m then (bif Nat.ble 22 m then (bif Nat.ble 23 m then cd23 pc else cd22 pc) else cd21 pc) else (bif Nat.ble 20 m then cd20 pc else cd19 pc)))) else (bif Nat.ble 9 m then (bif Nat.ble 14 m then (bif Nat.ble 16 m then (bif Nat.ble 17 m then (bif Nat.ble 18 m then cd18 pc else cd17 pc) else cd16 pc) else (bif Nat.ble 15 m then cd15 pc else cd14 pc)) else (bif Nat.ble 11 m then (bif Nat.ble 12 m then (bif Nat.ble 13 m then cd13 pc else cd12 pc) else cd11 pc) else (bif Nat.ble 10 m then cd10 pc else cd9 pc))) else (bif Nat.ble 4 m then (bif Nat.ble 6 m then (bif Nat.ble 7 m then (bif Nat.ble 8 m then cd8 pc else cd7 pc) else cd6 pc) else (bif Nat.ble 5 m then cd5 pc else cd4 pc)) else (bif Nat.ble 2 m then (bif Nat.ble 3 m then cd3 pc else cd2 pc) else (bif Nat.ble 1 m then cd1 pc else cd0 pc)))))
def lkF : List (Nat × Nat × Nat) := [(1, 7, 0), (1, 13, 1), (1, 16, 2), (1, 19, 3), (1, 22, 4), (1, 26, 5), (1, 30, 6), (1, 33, 7), (1, 36, 8), (1, 40, 9), (1, 50, 10), (1, 53, 11), (1, 56, 12), (1, 59, 13), (1, 62, 14), (1, 65, 15), (1, 68, 16), (1, 71, 17), (1, 74, 18), (1, 46, 19), (1, 93, 20), (1, 96, 21), (1, 131, 22), (1, 135, 23), (1, 125, 24), (1, 138, 25), (1, 141, 26)]
def lkN : List (Nat × Nat) := [(0, 8)]
def lkC : List (Nat × Nat × Nat) := []
def lkD : List (Nat × Nat × Nat) := []
def lkV : List (Nat × Nat × Nat) := [(0, 62, 1), (1, 43, 2), (0, 65, 3), (0, 20, 4), (0, 7, 5), (0, 16, 6), (0, 13, 7), (0, 71, 8), (0, 37, 9), (0, 40, 10), (0, 44, 11), (0, 48, 12), (0, 52, 13), (0, 56, 14), (0, 59, 15), (0, 30, 16), (0, 24, 17), (0, 33, 18), (1, 77, 19), (0, 27, 20), (1, 81, 21), (1, 119, 22), (1, 122, 23), (1, 144, 24), (1, 105, 25), (1, 109, 26), (1, 112, 27), (1, 85, 28), (1, 147, 29), (1, 128, 30), (1, 150, 31), (1, 89, 32), (1, 157, 33), (1, 99, 34), (1, 102, 35), (1, 160, 36), (1, 115, 37), (1, 154, 38)]
def lkO : List (Nat × Nat) := [(1, 1)]
def mV : List Nat := [4, 5, 6, 7, 9, 10, 11, 12, 13, 14, 15, 16, 17, 18, 20]
def mP : List Nat := [2, 19, 21, 22, 23, 24, 25, 26, 27, 28, 29, 30, 31, 32, 33, 34, 35, 36, 37, 38]
def mS : List Nat := [3, 8]
def mI : List Nat := [1]
def mA : List Nat := [1, 2, 3, 4, 5, 6, 7, 8, 9, 10, 11, 12, 13, 14, 15, 16, 17, 18, 19, 20, 21, 22, 23, 24, 25, 26, 27, 28, 29, 30, 31, 32, 33, 34, 35, 36, 37, 38]
def aTys : List FieldType := [.int, .long, .boolean]
abbrev QCell := List Value ⊕ ((FieldType × List Int32) ⊕ List Int64)
abbrev QHeap := List QCell
abbrev QLoc := List (Option Value)
abbrev vI (x : Int32) : Option Value := some (.int x)
abbrev vR (a : Addr) : Option Value := some (.ref a)
abbrev QSt := Nat × QLoc × List Value × QHeap
def qv (ad : Nat → Addr) : Value → Value
 | .ref k => .ref (ad k)
 | v => v
def qsz : QCell → Nat
 | .inl _ => cN
 | .inr (.inl x) => x.2.length
 | .inr (.inr x) => x.length
def qhs : QHeap → Nat
 | [] => 0
 | c :: t => qsz c + qhs t
def aget {α : Type} (xs : List α) (j : Int32) : Option α := if j < 0 then none else xs[j.toNatClampNeg]?
def aset {α : Type} (xs : List α) (j : Int32) (v : α) : Option (List α) := if j < 0 then none else if j.toNatClampNeg < xs.length then some (xs.set j.toNatClampNeg v) else none
def qnew (n : Int32) : Option Nat := if n < 0 then none else if n.toNatClampNeg ≤ 67108864 then some n.toNatClampNeg else none
def qdiv (x y : Int32) : Option Int32 := if y = 0 then none else some (x / y)
def qrem (x y : Int32) : Option Int32 := if y = 0 then none else some (x % y)
def qboo (x : Int32) : Option Int32 := if x = 0 then some x else if x = 1 then some x else none
def lget : QLoc → Nat → Option Value
 | [], _ => none
 | v :: _, 0 => v
 | _ :: t, k + 1 => lget t k
def hget : QHeap → Nat → Option QCell
 | [], _ => none
 | v :: _, 0 => some v
 | _ :: t, k + 1 => hget t k
def vget : List Value → Nat → Option Value
 | [], _ => none
 | v :: _, 0 => some v
 | _ :: t, k + 1 => vget t k
def lkill (L : QLoc) : Nat → QLoc
 | 0 => L
 | k + 1 => match lget L k with
  | some (.long _) => L.set k none
  | some (.double _) => L.set k none
  | _ => L
def lput (L : QLoc) (k : Nat) (v : Value) : Option QLoc :=
 match v with
 | .long x => bif Nat.ble (k + 2) L.length then some (((lkill L k).set k (some (.long x))).set (k + 1) none) else none
 | .double _ => none
 | v => bif Nat.ble (k + 1) L.length then some ((lkill L k).set k (some v)) else none
def qload (pc : Nat) (L : QLoc) (S : List Value) (σ : QHeap) (k : Nat) (ok : Value → Bool) : Option QSt :=
 match lget L k with
 | some v => bif ok v then some (pc, L, v :: S, σ) else none
 | none => none
def isI : Value → Bool | .int _ => true | _ => false
def isJ : Value → Bool | .long _ => true | _ => false
def isR : Value → Bool | .ref _ => true | _ => false
def qstore (pc : Nat) (L : QLoc) (S : List Value) (σ : QHeap) (k : Nat) (ok : Value → Bool) : Option QSt :=
 match S with
 | v :: S' => bif ok v then (match lput L k v with | some L' => some (pc, L', S', σ) | none => none) else none
 | [] => none
def qbin (pc : Nat) (L : QLoc) (S : List Value) (σ : QHeap) (f : Int32 → Int32 → Int32) : Option QSt :=
 match S with
 | .int y :: .int x :: S' => some (pc, L, .int (f x y) :: S', σ)
 | _ => none
def qbino (pc : Nat) (L : QLoc) (S : List Value) (σ : QHeap) (f : Int32 → Int32 → Option Int32) : Option QSt :=
 match S with
 | .int y :: .int x :: S' => (f x y).bind fun z => some (pc, L, .int z :: S', σ)
 | _ => none
def qbinJ (pc : Nat) (L : QLoc) (S : List Value) (σ : QHeap) (f : Int64 → Int64 → Int64) : Option QSt :=
 match S with
 | .long y :: .long x :: S' => some (pc, L, .long (f x y) :: S', σ)
 | _ => none
def qshJ (pc : Nat) (L : QLoc) (S : List Value) (σ : QHeap) (f : Int64 → Int32 → Int64) : Option QSt :=
 match S with
 | .int y :: .long x :: S' => some (pc, L, .long (f x y) :: S', σ)
 | _ => none
def quni (pc : Nat) (L : QLoc) (S : List Value) (σ : QHeap) (f : Int32 → Value) : Option QSt :=
 match S with
 | .int x :: S' => some (pc, L, f x :: S', σ)
 | _ => none
def quniJ (pc : Nat) (L : QLoc) (S : List Value) (σ : QHeap) (f : Int64 → Value) : Option QSt :=
 match S with
 | .long x :: S' => some (pc, L, f x :: S', σ)
 | _ => none
def qald (pc : Nat) (L : QLoc) (S : List Value) (σ : QHeap) (ok : FieldType → Bool) : Option QSt :=
 match S with
 | .int j :: .ref a :: S' => (match hget σ a with
  | some (.inr (.inl x)) => bif ok x.1 then (aget x.2 j).bind fun v => some (pc, L, .int v :: S', σ) else none
  | _ => none)
 | _ => none
def qaldJ (pc : Nat) (L : QLoc) (S : List Value) (σ : QHeap) : Option QSt :=
 match S with
 | .int j :: .ref a :: S' => (match hget σ a with
  | some (.inr (.inr x)) => (aget x j).bind fun v => some (pc, L, .long v :: S', σ)
  | _ => none)
 | _ => none
def qnar : FieldType → Int32 → Int32
 | .boolean, x => x &&& 1
 | .byte, x => x.toInt8.toInt32
 | _, x => x
def qast (pc : Nat) (L : QLoc) (S : List Value) (σ : QHeap) (ok : FieldType → Bool) : Option QSt :=
 match S with
 | .int v :: .int j :: .ref a :: S' => (match hget σ a with
  | some (.inr (.inl x)) => bif ok x.1 && Nat.ble k0 a then (aset x.2 j (qnar x.1 v)).bind fun y => some (pc, L, S', σ.set a (.inr (.inl (x.1, y)))) else none
  | _ => none)
 | _ => none
def qastJ (pc : Nat) (L : QLoc) (S : List Value) (σ : QHeap) : Option QSt :=
 match S with
 | .long v :: .int j :: .ref a :: S' => (match hget σ a with
  | some (.inr (.inr x)) => bif Nat.ble k0 a then (aset x j v).bind fun y => some (pc, L, S', σ.set a (.inr (.inr y))) else none
  | _ => none)
 | _ => none
def tyI : FieldType → Bool | .int => true | _ => false
def tyB : FieldType → Bool | .boolean => true | .byte => true | _ => false
def qfit : FieldType → Value → Option Value
 | .int, .int x => some (.int x)
 | .boolean, .int x => (qboo x).bind fun y => some (.int y)
 | .long, .long x => some (.long x)
 | .array t, .ref a => some (.ref a)
 | _, _ => none
def qget (pc : Nat) (L : QLoc) (S : List Value) (σ : QHeap) (k : Nat) : Option QSt :=
 match S with
 | .ref a :: S' => (match hget σ a with
  | some (.inl vs) => (match vget vs k with | some v => some (pc, L, v :: S', σ) | none => none)
  | _ => none)
 | _ => none
def qput (pc : Nat) (L : QLoc) (S : List Value) (σ : QHeap) (k : Nat) : Option QSt :=
 match S with
 | v :: .ref a :: S' => (match hget σ a with
  | some (.inl vs) => bif Nat.ble k0 a && Nat.ble (k + 1) vs.length then (qfit (fTy k) v).bind fun w => some (pc, L, S', σ.set a (.inl (vs.set k w))) else none
  | _ => none)
 | _ => none
def qnewA (pc : Nat) (L : QLoc) (S : List Value) (σ : QHeap) (t : ArrayType) : Option QSt :=
 match S with
 | .int n :: S' => (match t with
  | .int => (qnew n).bind fun k => some (pc, L, .ref σ.length :: S', σ ++ [.inr (.inl (.int, List.replicate k 0))])
  | .boolean => (qnew n).bind fun k => some (pc, L, .ref σ.length :: S', σ ++ [.inr (.inl (.boolean, List.replicate k 0))])
  | .byte => (qnew n).bind fun k => some (pc, L, .ref σ.length :: S', σ ++ [.inr (.inl (.byte, List.replicate k 0))])
  | .long => (qnew n).bind fun k => some (pc, L, .ref σ.length :: S', σ ++ [.inr (.inr (List.replicate k 0))])
  | _ => none)
 | _ => none
def qlen (pc : Nat) (L : QLoc) (S : List Value) (σ : QHeap) : Option QSt :=
 match S with
 | .ref a :: S' => (match hget σ a with
  | some (.inr (.inl x)) => some (pc, L, .int x.2.length.toInt32 :: S', σ)
  | some (.inr (.inr x)) => some (pc, L, .int x.length.toInt32 :: S', σ)
  | _ => none)
 | _ => none
def qdup (pc : Nat) (L : QLoc) (S : List Value) (σ : QHeap) : Option QSt :=
 match S with
 | .int x :: S' => some (pc, L, .int x :: .int x :: S', σ)
 | .ref x :: S' => some (pc, L, .ref x :: .ref x :: S', σ)
 | _ => none
def qdup2 (pc : Nat) (L : QLoc) (S : List Value) (σ : QHeap) : Option QSt :=
 match S with
 | .int x :: .ref y :: S' => some (pc, L, .int x :: .ref y :: .int x :: .ref y :: S', σ)
 | .int x :: .int y :: S' => some (pc, L, .int x :: .int y :: .int x :: .int y :: S', σ)
 | .long x :: S' => some (pc, L, .long x :: .long x :: S', σ)
 | _ => none
def qpop (pc : Nat) (L : QLoc) (S : List Value) (σ : QHeap) : Option QSt :=
 match S with
 | .int _ :: S' => some (pc, L, S', σ)
 | .ref _ :: S' => some (pc, L, S', σ)
 | _ => none
def qif (pc : Nat) (L : QLoc) (S : List Value) (σ : QHeap) (cd : ClassFile.Cond) (tgt : Nat) : Option QSt :=
 match S with
 | .int x :: S' => some (bif ifCond.holds cd x then tgt else pc, L, S', σ)
 | _ => none
def qicmp (pc : Nat) (L : QLoc) (S : List Value) (σ : QHeap) (cd : ClassFile.Cond) (tgt : Nat) : Option QSt :=
 match S with
 | .int y :: .int x :: S' => some (bif if_icmp.holds cd x y then tgt else pc, L, S', σ)
 | _ => none
def qinc (pc : Nat) (L : QLoc) (S : List Value) (σ : QHeap) (k : Nat) (i : Int) : Option QSt :=
 match lget L k with
 | some (.int x) => (match lput L k (.int (x + Int32.ofInt i)) with | some L' => some (pc, L', S, σ) | none => none)
 | _ => none
def qldc (pc : Nat) (L : QLoc) (S : List Value) (σ : QHeap) (k : Nat) : Option QSt :=
 match vget cK k with
 | some v => some (pc, L, v :: S, σ)
 | none => none
def qexec (pc : Nat) (L : QLoc) (S : List Value) (σ : QHeap) (aux : Nat) : Instr → Option QSt
 | .aload_n k => qload (pc + 1) L S σ k.val isR
 | .aload k => qload (pc + 2) L S σ k isR
 | .iload_n k => qload (pc + 1) L S σ k.val isI
 | .iload k => qload (pc + 2) L S σ k isI
 | .lload_n k => qload (pc + 1) L S σ k.val isJ
 | .lload k => qload (pc + 2) L S σ k isJ
 | .iconst i => some (pc + 1, L, .int (Int32.ofInt i) :: S, σ)
 | .bipush i => some (pc + 2, L, .int (Int8.ofInt i).toInt32 :: S, σ)
 | .sipush i => some (pc + 3, L, .int (Int16.ofInt i).toInt32 :: S, σ)
 | .lconst k => some (pc + 1, L, .long (Int64.ofNat k.val) :: S, σ)
 | .ldc _ => qldc (pc + 2) L S σ aux
 | .ldc2_w _ => qldc (pc + 3) L S σ aux
 | .istore_n k => qstore (pc + 1) L S σ k.val isI
 | .istore k => qstore (pc + 2) L S σ k isI
 | .lstore_n k => qstore (pc + 1) L S σ k.val isJ
 | .lstore k => qstore (pc + 2) L S σ k isJ
 | .astore_n k => qstore (pc + 1) L S σ k.val isR
 | .astore k => qstore (pc + 2) L S σ k isR
 | .iinc k i => qinc (pc + 3) L S σ k i
 | .iadd => qbin (pc + 1) L S σ fun x y => x + y
 | .isub => qbin (pc + 1) L S σ fun x y => x - y
 | .imul => qbin (pc + 1) L S σ fun x y => x * y
 | .iand => qbin (pc + 1) L S σ fun x y => x &&& y
 | .ior => qbin (pc + 1) L S σ fun x y => x ||| y
 | .ixor => qbin (pc + 1) L S σ fun x y => x ^^^ y
 | .ishl => qbin (pc + 1) L S σ fun x y => x <<< (y &&& 31)
 | .ishr => qbin (pc + 1) L S σ fun x y => x >>> (y &&& 31)
 | .iushr => qbin (pc + 1) L S σ fun x y => XT.ushr x y
 | .idiv => qbino (pc + 1) L S σ qdiv
 | .irem => qbino (pc + 1) L S σ qrem
 | .ineg => quni (pc + 1) L S σ fun x => .int (-x)
 | .i2l => quni (pc + 1) L S σ fun x => .long x.toInt64
 | .i2b => quni (pc + 1) L S σ fun x => .int x.toInt8.toInt32
 | .l2i => quniJ (pc + 1) L S σ fun x => .int x.toInt32
 | .lneg => quniJ (pc + 1) L S σ fun x => .long (-x)
 | .ladd => qbinJ (pc + 1) L S σ fun x y => x + y
 | .lsub => qbinJ (pc + 1) L S σ fun x y => x - y
 | .lmul => qbinJ (pc + 1) L S σ fun x y => x * y
 | .land => qbinJ (pc + 1) L S σ fun x y => x &&& y
 | .lor => qbinJ (pc + 1) L S σ fun x y => x ||| y
 | .lxor => qbinJ (pc + 1) L S σ fun x y => x ^^^ y
 | .lshl => qshJ (pc + 1) L S σ fun x y => x <<< (y.toInt64 &&& 63)
 | .lshr => qshJ (pc + 1) L S σ fun x y => x >>> (y.toInt64 &&& 63)
 | .lushr => qshJ (pc + 1) L S σ fun x y => XT.ushrL x y
 | .lcmp => (match S with
  | .long y :: .long x :: S' => some (pc + 1, L, .int (XT.cmpL x y) :: S', σ)
  | _ => none)
 | .goto _ => some (aux, L, S, σ)
 | .ifCond cd _ => qif (pc + 3) L S σ cd aux
 | .if_icmp cd _ => qicmp (pc + 3) L S σ cd aux
 | .dup => qdup (pc + 1) L S σ
 | .dup2 => qdup2 (pc + 1) L S σ
 | .pop => qpop (pc + 1) L S σ
 | .getfield _ => qget (pc + 3) L S σ aux
 | .putfield _ => qput (pc + 3) L S σ aux
 | .iaload => qald (pc + 1) L S σ tyI
 | .baload => qald (pc + 1) L S σ tyB
 | .laload => qaldJ (pc + 1) L S σ
 | .iastore => qast (pc + 1) L S σ tyI
 | .bastore => qast (pc + 1) L S σ tyB
 | .lastore => qastJ (pc + 1) L S σ
 | .arraylength => qlen (pc + 1) L S σ
 | .newarray t => qnewA (pc + 2) L S σ t
 | .new _ => some (pc + 3, L, .ref σ.length :: S, σ ++ [.inl cDef])
 | _ => none
def qstep (m : Nat) (st : QSt) : Option QSt :=
 match pCode m st.1 with
 | some (i, aux) => qexec st.1 st.2.1 st.2.2.1 st.2.2.2 aux i
 | none => none
def qsteps (m : Nat) : Nat → QSt → Option QSt
 | 0, st => some st
 | n + 1, st => match qstep m st with | some st' => qsteps m n st' | none => none
def qentry (args : List Value) (mx : Nat) : QLoc := (args.flatMap fun v => match v with | .long x => [some (.long x), none] | .double x => [some (.double x), none] | v => [some v]) ++ List.replicate (mx - (args.map fun v => v.category).sum) none
def ilen : Instr → Nat
 | .aload _ | .iload _ | .lload _ | .istore _ | .lstore _ | .astore _ | .bipush _ | .ldc _ | .newarray _ => 2
 | .sipush _ | .ldc2_w _ | .iinc _ _ | .goto _ | .ifCond _ _ | .if_icmp _ _ | .getfield _ | .putfield _ | .new _ | .invokevirtual _ | .invokespecial _ | .invokestatic _ => 3
 | _ => 1
def qtgt (pc : Nat) (o : Int) (aux : Nat) : Bool := decide (0 ≤ (pc : Int) + o) && decide (((pc : Int) + o).toNat = aux)
def qlk (m pc : Nat) (i : Instr) (aux : Nat) : Bool :=
 match i with
 | .goto o => qtgt pc o aux
 | .ifCond _ o => qtgt pc o aux
 | .if_icmp _ o => qtgt pc o aux
 | .getfield idx => lkF.contains (pK m, idx, aux)
 | .putfield idx => lkF.contains (pK m, idx, aux) && (!fFin aux || (pK m == 1 && pNm m == "<init>"))
 | .new idx => lkN.contains (pK m, idx)
 | .newarray t => aTys.contains (newarray.typeOf t)
 | .ldc idx => lkC.contains (pK m, idx, aux)
 | .ldc2_w idx => lkD.contains (pK m, idx, aux)
 | _ => true
def qchk (m pc : Nat) (i : Instr) (aux : Nat) : Bool := decide (decode (pBytes m) pc = .ok (i, ilen i)) && qlk m pc i aux
def QCellOk (Z : State) (ad : Nat → Addr) (h : Heap) (a : Addr) : QCell → Prop
 | .inl vs => Exa Z h a cName ∧ vs.length = nF ∧ ∀ (k : Nat) (v : Value), k < nF → vget vs k = some v → Fld Z h a cName (fNm k) (fDs k) (qv ad v)
 | .inr (.inl x) => ∃ c : Cell, Arr Z h a c x.1 ∧ c.slots = (x.2.map Value.int).toArray
 | .inr (.inr x) => ∃ c : Cell, Arr Z h a c .long ∧ c.slots = (x.map Value.long).toArray
def QAd (n0 : Nat) (ad : Nat → Addr) : Prop := (∀ k, k0 ≤ k → ad k = n0 + (k - k0)) ∧ ∀ i j, ad i = ad j → i = j
def QRep (Z : State) (n0 : Nat) (ad : Nat → Addr) (h : Heap) (σ : QHeap) : Prop := k0 ≤ σ.length ∧ h.size = n0 + (σ.length - k0) ∧ ∀ k c, hget σ k = some c → QCellOk Z ad h (ad k) c
def QLocOk (ad : Nat → Addr) (L : QLoc) (C : Array Slot) : Prop :=
 L.length = C.size ∧ (∀ k v, lget L k = some v → C[k]? = some (.val (qv ad v))) ∧ (∀ k w, C[k]? = some (.val w) → w.category = 2 → C[k + 1]? = some .second) ∧ ∀ k, C[k]? = some .second → ∃ j w, k = j + 1 ∧ C[j]? = some (.val w) ∧ w.category = 2
def QW (Z : State) (a0 : Array Value) : Prop :=
 (∀ t ∈ lkF, (Cond.fieldLink (kName t.1) t.2.1 cName (fNm t.2.2) (fDs t.2.2)).before a0 Z = true) ∧
 (∀ t ∈ lkN, (Cond.classLink (kName t.1) t.2 cName).before a0 Z = true) ∧
 (∀ t ∈ lkC, ∃ v, vget cK t.2.2 = some (.int v) ∧ (Cond.constant (kName t.1) t.2.1 v).before a0 Z = true) ∧
 (∀ t ∈ lkD, ∃ v, vget cK t.2.2 = some (.long v) ∧ (Cond.constantLong (kName t.1) t.2.1 v).before a0 Z = true) ∧
 (∀ t ∈ lkV, (Cond.methodLink (kName t.1) t.2.1 (pName t.2.2)).before a0 Z = true) ∧
 (∀ t ∈ lkO, (Cond.methodLink (kName t.1) t.2 Lib.objectInit).before a0 Z = true) ∧
 (∀ m ∈ mV, (Cond.declares (pName m)).before a0 Z = true ∧ (Cond.selects cName (pName m) (pName m)).before a0 Z = true ∧ (Cond.instanceMethod (pName m)).before a0 Z = true) ∧
 (∀ m ∈ mP, (Cond.instanceMethod (pName m)).before a0 Z = true ∧ (Cond.privateMethod (pName m)).before a0 Z = true) ∧
 (∀ m ∈ mS, (Cond.static (pName m)).before a0 Z = true) ∧
 (∀ m ∈ mI, (Cond.instanceMethod (pName m)).before a0 Z = true) ∧
 (∀ m ∈ mA, (Cond.code (pName m) (pBytes m) (pMaxL m) (pRet m)).before a0 Z = true ∧ (Cond.initialized (kName (pK m))).before a0 Z = true) ∧
 (Cond.instanceMethod Lib.objectInit).before a0 Z = true ∧ (Cond.code Lib.objectInit ⟨#[0xb1]⟩ 1 none).before a0 Z = true ∧
 (∀ k, k < nF → bif fFin k then (Cond.laysFinal cName cName (fNm k) (fDs k)).before a0 Z = true else (Cond.lays cName cName (fNm k) (fDs k)).before a0 Z = true) ∧
 (Cond.instantiable cName cN).before a0 Z = true ∧ (Cond.initialized cName).before a0 Z = true ∧
 ∀ ty ∈ aTys, (Cond.arrayClass ty).before a0 Z = true
section Words
variable {Z : State} {a0 : Array Value}
theorem qw_fl (W : QW Z a0) : ∀ t ∈ lkF, (Cond.fieldLink (kName t.1) t.2.1 cName (fNm t.2.2) (fDs t.2.2)).before a0 Z = true := W.1
theorem qw_nw (W : QW Z a0) : ∀ t ∈ lkN, (Cond.classLink (kName t.1) t.2 cName).before a0 Z = true := W.2.1
theorem qw_cI (W : QW Z a0) : ∀ t ∈ lkC, ∃ v, vget cK t.2.2 = some (.int v) ∧ (Cond.constant (kName t.1) t.2.1 v).before a0 Z = true := W.2.2.1
theorem qw_cJ (W : QW Z a0) : ∀ t ∈ lkD, ∃ v, vget cK t.2.2 = some (.long v) ∧ (Cond.constantLong (kName t.1) t.2.1 v).before a0 Z = true := W.2.2.2.1
theorem qw_ml (W : QW Z a0) : ∀ t ∈ lkV, (Cond.methodLink (kName t.1) t.2.1 (pName t.2.2)).before a0 Z = true := W.2.2.2.2.1
theorem qw_mo (W : QW Z a0) : ∀ t ∈ lkO, (Cond.methodLink (kName t.1) t.2 Lib.objectInit).before a0 Z = true := W.2.2.2.2.2.1
theorem qw_vi (W : QW Z a0) : ∀ m ∈ mV, (Cond.declares (pName m)).before a0 Z = true ∧ (Cond.selects cName (pName m) (pName m)).before a0 Z = true ∧ (Cond.instanceMethod (pName m)).before a0 Z = true := W.2.2.2.2.2.2.1
theorem qw_pr (W : QW Z a0) : ∀ m ∈ mP, (Cond.instanceMethod (pName m)).before a0 Z = true ∧ (Cond.privateMethod (pName m)).before a0 Z = true := W.2.2.2.2.2.2.2.1
theorem qw_st (W : QW Z a0) : ∀ m ∈ mS, (Cond.static (pName m)).before a0 Z = true := W.2.2.2.2.2.2.2.2.1
theorem qw_ini (W : QW Z a0) : ∀ m ∈ mI, (Cond.instanceMethod (pName m)).before a0 Z = true := W.2.2.2.2.2.2.2.2.2.1
theorem qw_cod (W : QW Z a0) : ∀ m ∈ mA, (Cond.code (pName m) (pBytes m) (pMaxL m) (pRet m)).before a0 Z = true ∧ (Cond.initialized (kName (pK m))).before a0 Z = true := W.2.2.2.2.2.2.2.2.2.2.1
theorem qw_oi (W : QW Z a0) : (Cond.instanceMethod Lib.objectInit).before a0 Z = true := W.2.2.2.2.2.2.2.2.2.2.2.1
theorem qw_oc (W : QW Z a0) : (Cond.code Lib.objectInit ⟨#[0xb1]⟩ 1 none).before a0 Z = true := W.2.2.2.2.2.2.2.2.2.2.2.2.1
theorem qw_lay (W : QW Z a0) : ∀ k, k < nF → bif fFin k then (Cond.laysFinal cName cName (fNm k) (fDs k)).before a0 Z = true else (Cond.lays cName cName (fNm k) (fDs k)).before a0 Z = true := W.2.2.2.2.2.2.2.2.2.2.2.2.2.1
theorem qw_inst (W : QW Z a0) : (Cond.instantiable cName cN).before a0 Z = true := W.2.2.2.2.2.2.2.2.2.2.2.2.2.2.1
theorem qw_init (W : QW Z a0) : (Cond.initialized cName).before a0 Z = true := W.2.2.2.2.2.2.2.2.2.2.2.2.2.2.2.1
theorem qw_arr (W : QW Z a0) : ∀ ty ∈ aTys, (Cond.arrayClass ty).before a0 Z = true := W.2.2.2.2.2.2.2.2.2.2.2.2.2.2.2.2
end Words
theorem hget_eq : ∀ (σ : QHeap) k, hget σ k = σ[k]?
 | [], _ => by simp [hget]
 | _ :: _, 0 => by simp [hget]
 | _ :: t, k + 1 => by simp [hget, hget_eq t k]
theorem vget_eq : ∀ (σ : List Value) k, vget σ k = σ[k]?
 | [], _ => by simp [vget]
 | _ :: _, 0 => by simp [vget]
 | _ :: t, k + 1 => by simp [vget, vget_eq t k]
theorem lget_eq : ∀ (L : QLoc) k, lget L k = (L[k]?).getD none
 | [], _ => by simp [lget]
 | _ :: _, 0 => by simp [lget]
 | _ :: t, k + 1 => by simp [lget, lget_eq t k]
theorem lget_lt {L : QLoc} {k : Nat} {v : Value} (h : lget L k = some v) : k < L.length := by
 rw [lget_eq] at h
 rcases Nat.lt_or_ge k L.length with q | q
 ·exact q
 ·simp [List.getElem?_eq_none q] at h
theorem lget_set {L : QLoc} {k j : Nat} {o : Option Value} (hk : k < L.length) : lget (L.set k o) j = if j = k then o else lget L j := by
 simp only [lget_eq, List.getElem?_set]
 by_cases e : k = j
 ·subst e; simp [hk]
 ·simp [e, Ne.symm e]
theorem qhs_app (σ τ : QHeap) : qhs (σ ++ τ) = qhs σ + qhs τ := by
 induction σ with
 | nil => simp [qhs]
 | cons c t ih => simp [qhs, ih, Nat.add_assoc]
theorem qhs_set {σ : QHeap} {k : Nat} {c d : QCell} (h : hget σ k = some c) (hs : qsz d = qsz c) : qhs (σ.set k d) = qhs σ := by
 induction σ generalizing k with
 | nil => simp [hget] at h
 | cons x t ih =>
  cases k with
  | zero => simp only [hget, Option.some.injEq] at h; subst h; simp [qhs, hs]
  | succ k => simp only [hget] at h; simp [qhs, ih h]
theorem hget_set {σ : QHeap} {k j : Nat} {c d : QCell} (h : hget σ k = some c) : hget (σ.set k d) j = if j = k then some d else hget σ j := by
 rw [hget_eq] at h
 have hk := (List.getElem?_eq_some_iff.mp h).1
 simp only [hget_eq, List.getElem?_set]
 by_cases e : k = j
 ·subst e; simp [hk]
 ·simp [e, Ne.symm e]
theorem lkill_len (L : QLoc) (k : Nat) : (lkill L k).length = L.length := by
 cases k with
 | zero => rfl
 | succ k => simp only [lkill]; split <;> simp
theorem lget_kill {L : QLoc} {k j : Nat} {v : Value} (h : lget (lkill L k) j = some v) : lget L j = some v ∧ (k = j + 1 → v.category ≠ 2) := by
 cases k with
 | zero => exact ⟨h, fun e => by omega⟩
 | succ k =>
  simp only [lkill] at h
  split at h
  ·rename_i x q
   rw [lget_set (lget_lt q)] at h
   split at h
   ·cases h
   ·rename_i ne; exact ⟨h, fun e => absurd (by omega) ne⟩
  ·rename_i x q
   rw [lget_set (lget_lt q)] at h
   split at h
   ·cases h
   ·rename_i ne; exact ⟨h, fun e => absurd (by omega) ne⟩
  ·rename_i q1 q2
   refine ⟨h, fun e hc => ?_⟩
   obtain rfl : j = k := by omega
   cases v with
   | long x => exact q1 _ h
   | double x => exact q2 _ h
   | _ => simp [Value.category] at hc
theorem qv_cat (ad : Nat → Addr) (v : Value) : (qv ad v).category = v.category := by cases v <;> rfl
def kA (C : Array Slot) (k j : Nat) : Prop := k = j + 1 ∧ C[k]? = some .second
def kB (C : Array Slot) (k j : Nat) : Prop := j = k + 1 ∧ ∃ u, C[k]? = some (.val u) ∧ u.category = 2
def kD (C : Array Slot) (k j : Nat) : Prop := j = k + 2 ∧ ∃ u, C[k + 1]? = some (.val u) ∧ u.category = 2
theorem set1_at {C D : Array Slot} {k : Nat} {w : Value} (hk : k < C.size) (hw : w.category = 1) (h : storeLocals C k w = some D) :
  D.size = C.size ∧ D[k]? = some (.val w) ∧ ∀ j, j ≠ k → (D[j]? = C[j]? ∧ ¬ kA C k j ∧ ¬ kB C k j) ∨ D[j]? = some .unset ∧ (kA C k j ∨ kB C k j) := by
 have hck : C[k]? = some C[k] := Array.getElem?_eq_getElem hk
 unfold storeLocals at h
 simp only [hck, Option.bind_eq_bind, Option.bind_some] at h
 have self : ∀ {E : Array Slot}, k < E.size → storeSelf E k w = some D → D = E.setIfInBounds k (.val w) := by
  intro E hE q
  simp only [storeSelf, setAt, hE, if_true, Option.bind_eq_bind, Option.bind_some, hw] at q
  simpa using q.symm
 split at h
 ·rename_i q
  have hk1 : k - 1 < C.size := by omega
  simp only [setAt, hk1, if_true, Option.bind_some] at h
  have e := self (by simpa using hk) h
  subst e
  refine ⟨by simp, by simp [hk], fun j hj => ?_⟩
  by_cases ej : k = j + 1
  ·refine Or.inr ⟨?_, Or.inl ⟨ej, by rw [hck, q]⟩⟩
   rw [Array.getElem?_setIfInBounds_ne (Ne.symm hj), show j = k - 1 by omega]
   simp [hk1]
  ·refine Or.inl ⟨?_, fun x => ej x.1, fun x => ?_⟩
   ·rw [Array.getElem?_setIfInBounds_ne (Ne.symm hj), Array.getElem?_setIfInBounds_ne (by omega)]
   ·obtain ⟨-, u, x1, -⟩ := x
    rw [hck, q] at x1; cases x1
 ·rename_i u q
  split at h
  ·rename_i hu
   by_cases hk1 : k + 1 < C.size
   ·simp only [setAt, hk1, if_true, Option.bind_some] at h
    have e := self (by simpa using hk) h
    subst e
    refine ⟨by simp, by simp [hk], fun j hj => ?_⟩
    by_cases ej : j = k + 1
    ·refine Or.inr ⟨?_, Or.inr ⟨ej, u, by rw [hck, q], hu⟩⟩
     rw [Array.getElem?_setIfInBounds_ne (Ne.symm hj), ej]
     simp [hk1]
    ·refine Or.inl ⟨?_, fun x => ?_, fun x => ej x.1⟩
     ·rw [Array.getElem?_setIfInBounds_ne (Ne.symm hj), Array.getElem?_setIfInBounds_ne (by omega)]
     ·obtain ⟨-, x1⟩ := x
      rw [hck, q] at x1; cases x1
   ·simp [setAt, hk1] at h
  ·rename_i hu
   have e := self hk h
   subst e
   refine ⟨by simp, by simp [hk], fun j hj => Or.inl ⟨Array.getElem?_setIfInBounds_ne (Ne.symm hj), fun x => ?_, fun x => ?_⟩⟩
   ·obtain ⟨-, x1⟩ := x
    rw [hck, q] at x1; cases x1
   ·obtain ⟨-, u', x1, x2⟩ := x
    rw [hck, q] at x1; cases x1; exact hu x2
 ·rename_i q
  have e := self hk h
  subst e
  refine ⟨by simp, by simp [hk], fun j hj => Or.inl ⟨Array.getElem?_setIfInBounds_ne (Ne.symm hj), fun x => ?_, fun x => ?_⟩⟩
  ·obtain ⟨-, x1⟩ := x
   rw [hck, q] at x1; cases x1
  ·obtain ⟨-, u', x1, x2⟩ := x
   rw [hck, q] at x1; cases x1
theorem set2_at {C D : Array Slot} {k : Nat} {w : Value} (hk : k + 1 < C.size) (hw : w.category = 2) (wf : ∀ k w, C[k]? = some (.val w) → w.category = 2 → C[k + 1]? = some .second) (h : storeLocals C k w = some D) :
  D.size = C.size ∧ D[k]? = some (.val w) ∧ D[k + 1]? = some .second ∧ ∀ j, j ≠ k → j ≠ k + 1 → (D[j]? = C[j]? ∧ ¬ kA C k j ∧ ¬ kD C k j) ∨ D[j]? = some .unset ∧ (kA C k j ∨ kD C k j) := by
 have hk0 : k < C.size := by omega
 have hck : C[k]? = some C[k] := Array.getElem?_eq_getElem hk0
 unfold storeLocals at h
 simp only [hck, Option.bind_eq_bind, Option.bind_some] at h
 have self : ∀ {E : Array Slot}, E.size = C.size → storeSelf E k w = some D → D.size = C.size ∧ D[k]? = some (.val w) ∧ D[k + 1]? = some .second ∧ ∀ j, j ≠ k → j ≠ k + 1 → (D[j]? = E[j]? ∧ ¬ kD E k j) ∨ D[j]? = some .unset ∧ kD E k j := by
  intro E hs q
  have h1 : k < E.size := by omega
  have h2 : k + 1 < E.size := by omega
  have h3 : (E.setIfInBounds k (.val w))[k + 1]? = some E[k + 1] := by rw [Array.getElem?_setIfInBounds_ne (by omega)]; exact Array.getElem?_eq_getElem h2
  simp only [storeSelf, setAt, h1, if_true, Option.bind_eq_bind, Option.bind_some, hw, h3] at q
  have plain : (¬ ∃ u, E[k + 1]? = some (.val u) ∧ u.category = 2) → some ((E.setIfInBounds k (.val w)).setIfInBounds (k + 1) .second) = some D → D.size = C.size ∧ D[k]? = some (.val w) ∧ D[k + 1]? = some .second ∧ ∀ j, j ≠ k → j ≠ k + 1 → (D[j]? = E[j]? ∧ ¬ kD E k j) ∨ D[j]? = some .unset ∧ kD E k j := by
   intro no q
   cases q
   refine ⟨by simp [hs], ?_, ?_, fun j hj hj1 => Or.inl ⟨?_, fun x => no x.2⟩⟩
   ·rw [Array.getElem?_setIfInBounds_ne (by omega)]; simp [h1]
   ·simp [h2]
   ·rw [Array.getElem?_setIfInBounds_ne (by omega), Array.getElem?_setIfInBounds_ne (by omega)]
  split at q
  ·rename_i u hu
   split at q
   ·rename_i hu2
    by_cases h5 : k + 2 < E.size
    ·simp [h5, h2] at q
     cases q
     refine ⟨by simp [hs], ?_, ?_, fun j hj hj1 => ?_⟩
     ·rw [Array.getElem?_setIfInBounds_ne (by omega), Array.getElem?_setIfInBounds_ne (by omega)]; simp [h1]
     ·simp [h2]
     ·by_cases e : j = k + 2
      ·refine Or.inr ⟨?_, e, u, by rw [Array.getElem?_eq_getElem h2, hu], hu2⟩
       rw [Array.getElem?_setIfInBounds_ne (by omega), e]
       simp [h5]
      ·refine Or.inl ⟨?_, fun x => e x.1⟩
       rw [Array.getElem?_setIfInBounds_ne (by omega), Array.getElem?_setIfInBounds_ne (by omega), Array.getElem?_setIfInBounds_ne (by omega)]
    ·simp [h5] at q
   ·rename_i hu2
    refine plain ?_ (by simpa [h2] using q)
    rintro ⟨u', x1, x2⟩
    rw [Array.getElem?_eq_getElem h2, hu] at x1; cases x1; exact hu2 x2
  ·rename_i hu
   refine plain ?_ (by simpa [h2] using q)
   rintro ⟨u', x1, x2⟩
   rw [Array.getElem?_eq_getElem h2] at x1; exact hu _ (Option.some.inj x1)
 split at h
 ·rename_i q
  have hk1 : k - 1 < C.size := by omega
  simp only [setAt, hk1, if_true, Option.bind_some] at h
  obtain ⟨e1, e2, e3, e4⟩ := self (by simp) h
  refine ⟨e1, e2, e3, fun j hj hj1 => ?_⟩
  have h6 : ∀ i, i + 1 ≠ k ∨ k = 0 → i ≠ k ∨ k ≠ 0 → (C.setIfInBounds (k - 1) Slot.unset)[i]? = C[i]? := fun i hi hi2 => Array.getElem?_setIfInBounds_ne (by omega)
  have h7 : (C.setIfInBounds (k - 1) Slot.unset)[k + 1]? = C[k + 1]? := Array.getElem?_setIfInBounds_ne (by omega)
  rcases e4 j hj hj1 with ⟨r, r'⟩ | ⟨r, r1, u, r2, r3⟩
  ·by_cases ej : k = j + 1
   ·refine Or.inr ⟨?_, Or.inl ⟨ej, by rw [hck, q]⟩⟩
    rw [r, show j = k - 1 by omega]; simp [hk1]
   ·refine Or.inl ⟨by rw [r]; exact h6 _ (by omega) (by omega), fun x => ej x.1, fun x => r' ⟨x.1, ?_⟩⟩
    rw [h7]; exact x.2
  ·exact Or.inr ⟨r, Or.inr ⟨r1, u, by rw [← h7]; exact r2, r3⟩⟩
 ·rename_i u q
  split at h
  ·rename_i hu
   simp only [setAt, hk, if_true, Option.bind_some] at h
   obtain ⟨e1, e2, e3, e4⟩ := self (by simp) h
   have hsec := wf k u (by rw [hck, q]) hu
   refine ⟨e1, e2, e3, fun j hj hj1 => ?_⟩
   rcases e4 j hj hj1 with ⟨r, r'⟩ | ⟨r, r1, u', r2, r3⟩
   ·refine Or.inl ⟨by rw [r]; exact Array.getElem?_setIfInBounds_ne (by omega), fun x => ?_, fun x => ?_⟩
    ·obtain ⟨-, x1⟩ := x
     rw [hck, q] at x1; cases x1
    ·obtain ⟨-, u', x1, x2⟩ := x
     rw [hsec] at x1; cases x1
   ·simp [hk] at r2
  ·rename_i hu
   obtain ⟨e1, e2, e3, e4⟩ := self rfl h
   refine ⟨e1, e2, e3, fun j hj hj1 => ?_⟩
   rcases e4 j hj hj1 with ⟨r, r'⟩ | ⟨r, r'⟩
   ·refine Or.inl ⟨r, fun x => ?_, r'⟩
    obtain ⟨-, x1⟩ := x
    rw [hck, q] at x1; cases x1
   ·exact Or.inr ⟨r, Or.inr r'⟩
 ·rename_i q
  obtain ⟨e1, e2, e3, e4⟩ := self rfl h
  refine ⟨e1, e2, e3, fun j hj hj1 => ?_⟩
  rcases e4 j hj hj1 with ⟨r, r'⟩ | ⟨r, r'⟩
  ·refine Or.inl ⟨r, fun x => ?_, r'⟩
   obtain ⟨-, x1⟩ := x
   rw [hck, q] at x1; cases x1
  ·exact Or.inr ⟨r, Or.inr r'⟩
theorem store_some {C : Array Slot} {k : Nat} {w : Value} (hk : k + (w.category - 1) < C.size) (hc : w.category = 1 ∨ w.category = 2) (wf : ∀ k w, C[k]? = some (.val w) → w.category = 2 → C[k + 1]? = some .second) :
  ∃ D, storeLocals C k w = some D := by
 have hk0 : k < C.size := by omega
 have hck : C[k]? = some C[k] := Array.getElem?_eq_getElem hk0
 have self : ∀ {E : Array Slot}, E.size = C.size → (∀ u, E[k + 1]? = some (.val u) → u.category = 2 → k + 2 < E.size) → ∃ D, storeSelf E k w = some D := by
  intro E hs hn
  have h1 : k < E.size := by omega
  simp only [storeSelf, setAt, h1, if_true, Option.bind_eq_bind, Option.bind_some]
  rcases hc with hc | hc
  ·exact ⟨E.setIfInBounds k (.val w), by simp [hc]⟩
  ·have h2 : k + 1 < E.size := by omega
   have h3 : (E.setIfInBounds k (.val w))[k + 1]? = some E[k + 1] := by rw [Array.getElem?_setIfInBounds_ne (by omega)]; exact Array.getElem?_eq_getElem h2
   simp only [hc, if_true, h3, Option.bind_some]
   split
   ·rename_i u hu
    split
    ·rename_i hu2
     have h5 := hn u (by rw [Array.getElem?_eq_getElem h2, hu]) hu2
     exact ⟨_, by simp [h5, h2]; rfl⟩
    ·exact ⟨_, by simp [h2]; rfl⟩
   ·exact ⟨_, by simp [h2]; rfl⟩
 have next : ∀ u, C[k + 1]? = some (.val u) → u.category = 2 → k + 2 < C.size := fun u h1 h2 => (Array.getElem?_eq_some_iff.mp (wf _ _ h1 h2)).1
 unfold storeLocals
 simp only [hck, Option.bind_eq_bind, Option.bind_some]
 split
 ·have hk1 : k - 1 < C.size := by omega
  simp only [setAt, hk1, if_true, Option.bind_some]
  refine self (by simp) fun u h1 h2 => ?_
  rw [Array.getElem?_setIfInBounds_ne (by omega)] at h1
  simpa using next u h1 h2
 ·rename_i u q
  split
  ·rename_i hu
   have h5 := (Array.getElem?_eq_some_iff.mp (wf k u (by rw [hck, q]) hu)).1
   simp only [setAt, h5, if_true, Option.bind_some]
   refine self (by simp) fun u h1 h2 => ?_
   simp [h5] at h1
  ·exact self rfl next
 ·exact self rfl next
theorem store_ok1 {ad : Nat → Addr} {L : QLoc} {C : Array Slot} {k : Nat} {v : Value} (H : QLocOk ad L C) (hv : v.category = 1) (hk : k < L.length) :
  ∃ D, storeLocals C k (qv ad v) = some D ∧ QLocOk ad ((lkill L k).set k (some v)) D ∧ D.size = C.size := by
 obtain ⟨H1, H2, H3, H4⟩ := H
 have hc : (qv ad v).category = 1 := by rw [qv_cat, hv]
 obtain ⟨D, hD⟩ := store_some (C := C) (k := k) (w := qv ad v) (by rw [hc]; omega) (Or.inl hc) H3
 obtain ⟨d1, d2, d3⟩ := set1_at (by omega) hc hD
 refine ⟨D, hD, ⟨by simp [lkill_len, H1, d1], fun j u hj => ?_, fun j w hj hw => ?_, fun j hj => ?_⟩, d1⟩
 ·rw [lget_set (by rw [lkill_len]; exact hk)] at hj
  split at hj
  ·rename_i e; cases hj; rw [e]; exact d2
  ·rename_i ne
   obtain ⟨g1, g2⟩ := lget_kill hj
   have g3 := H2 j u g1
   rcases d3 j ne with ⟨r, -, -⟩ | ⟨-, ⟨r1, r2⟩ | ⟨r1, w, r2, r3⟩⟩
   ·rw [r]; exact g3
   ·obtain ⟨i, w, z1, z2, z3⟩ := H4 k r2
    obtain rfl : i = j := by omega
    rw [g3] at z2
    cases z2
    rw [qv_cat] at z3
    exact absurd z3 (g2 r1)
   ·have := H3 k w r2 r3
    rw [← r1, g3] at this
    cases this
 ·by_cases e : j = k
  ·subst e; rw [d2] at hj; cases hj; rw [hc] at hw; cases hw
  ·rcases d3 j e with ⟨r, nA, nB⟩ | ⟨r, -⟩
   ·rw [r] at hj
    have g := H3 j w hj hw
    have e2 : j + 1 ≠ k := fun q => nA ⟨q.symm, by rw [← q]; exact g⟩
    rcases d3 (j + 1) e2 with ⟨z, -, -⟩ | ⟨-, ⟨z1, z2⟩ | ⟨z1, -⟩⟩
    ·rw [z]; exact g
    ·obtain ⟨i, u, y1, y2, y3⟩ := H4 k z2
     obtain rfl : i = j + 1 := by omega
     rw [g] at y2; cases y2
    ·omega
   ·rw [r] at hj; cases hj
 ·by_cases e : j = k
  ·subst e; rw [d2] at hj; cases hj
  ·rcases d3 j e with ⟨r, nA, nB⟩ | ⟨r, -⟩
   ·rw [r] at hj
    obtain ⟨i, w, y1, y2, y3⟩ := H4 j hj
    refine ⟨i, w, y1, ?_, y3⟩
    have ei : i ≠ k := fun q => nB ⟨by omega, w, by rw [← q]; exact y2, y3⟩
    rcases d3 i ei with ⟨z, -, -⟩ | ⟨-, ⟨z1, z2⟩ | ⟨z1, u, z2, z3⟩⟩
    ·rw [z]; exact y2
    ·omega
    ·have := H3 k u z2 z3
     rw [← z1, y2] at this; cases this
   ·rw [r] at hj; cases hj
theorem store_ok2 {ad : Nat → Addr} {L : QLoc} {C : Array Slot} {k : Nat} {x : Int64} (H : QLocOk ad L C) (hk : k + 1 < L.length) :
  ∃ D, storeLocals C k (.long x) = some D ∧ QLocOk ad (((lkill L k).set k (some (.long x))).set (k + 1) none) D ∧ D.size = C.size := by
 obtain ⟨H1, H2, H3, H4⟩ := H
 have hc : (Value.long x).category = 2 := rfl
 obtain ⟨D, hD⟩ := store_some (C := C) (k := k) (w := .long x) (by rw [hc]; omega) (Or.inr hc) H3
 obtain ⟨d1, d2, d2', d3⟩ := set2_at (by omega) hc H3 hD
 refine ⟨D, hD, ⟨by simp [lkill_len, H1, d1], fun j u hj => ?_, fun j w hj hw => ?_, fun j hj => ?_⟩, d1⟩
 ·rw [lget_set (by simp [lkill_len]; exact hk)] at hj
  split at hj
  ·cases hj
  ·rename_i ne1
   rw [lget_set (by rw [lkill_len]; omega)] at hj
   split at hj
   ·rename_i e; cases hj; rw [e]; exact d2
   ·rename_i ne
    obtain ⟨g1, g2⟩ := lget_kill hj
    have g3 := H2 j u g1
    rcases d3 j ne ne1 with ⟨r, -, -⟩ | ⟨-, ⟨r1, r2⟩ | ⟨r1, w, r2, r3⟩⟩
    ·rw [r]; exact g3
    ·obtain ⟨i, w, z1, z2, z3⟩ := H4 k r2
     obtain rfl : i = j := by omega
     rw [g3] at z2
     cases z2
     rw [qv_cat] at z3
     exact absurd z3 (g2 r1)
    ·have := H3 (k + 1) w r2 r3
     rw [show k + 1 + 1 = j by omega, g3] at this
     cases this
 ·by_cases e : j = k
  ·rw [e]; exact d2'
  ·by_cases e1 : j = k + 1
   ·rw [e1, d2'] at hj; cases hj
   ·rcases d3 j e e1 with ⟨r, nA, nB⟩ | ⟨r, -⟩
    ·rw [r] at hj
     have g := H3 j w hj hw
     have e2 : j + 1 ≠ k := fun q => nA ⟨q.symm, by rw [← q]; exact g⟩
     rcases d3 (j + 1) e2 (by omega) with ⟨z, -, -⟩ | ⟨-, ⟨z1, z2⟩ | ⟨z1, -⟩⟩
     ·rw [z]; exact g
     ·obtain ⟨i, u, y1, y2, y3⟩ := H4 k z2
      obtain rfl : i = j + 1 := by omega
      rw [g] at y2; cases y2
     ·omega
    ·rw [r] at hj; cases hj
 ·by_cases e : j = k
  ·rw [e, d2] at hj; cases hj
  ·by_cases e1 : j = k + 1
   ·exact ⟨k, _, e1, d2, hc⟩
   ·rcases d3 j e e1 with ⟨r, nA, nB⟩ | ⟨r, -⟩
    ·rw [r] at hj
     obtain ⟨i, w, y1, y2, y3⟩ := H4 j hj
     refine ⟨i, w, y1, ?_, y3⟩
     have ei : i ≠ k := fun q => e1 (by omega)
     have ei1 : i ≠ k + 1 := fun q => nB ⟨by omega, w, by rw [← q]; exact y2, y3⟩
     rcases d3 i ei ei1 with ⟨z, -, -⟩ | ⟨-, ⟨z1, z2⟩ | ⟨z1, u, z2, z3⟩⟩
     ·rw [z]; exact y2
     ·omega
     ·have := H3 (k + 1) u z2 z3
      rw [show k + 1 + 1 = i by omega, y2] at this; cases this
    ·rw [r] at hj; cases hj
theorem store_ok {ad : Nat → Addr} {L L' : QLoc} {C : Array Slot} {k : Nat} {v : Value} (H : QLocOk ad L C) (h : lput L k v = some L') :
  ∃ D, storeLocals C k (qv ad v) = some D ∧ QLocOk ad L' D ∧ D.size = C.size := by
 have one : v.category = 1 → (bif Nat.ble (k + 1) L.length then some ((lkill L k).set k (some v)) else none) = some L' → ∃ D, storeLocals C k (qv ad v) = some D ∧ QLocOk ad L' D ∧ D.size = C.size := by
  intro hv h
  cases hb : Nat.ble (k + 1) L.length with
  | false => rw [hb] at h; cases h
  | true => rw [hb] at h; cases h; exact store_ok1 H hv (Nat.le_of_ble_eq_true hb)
 cases v with
 | long x =>
  simp only [lput] at h
  cases hb : Nat.ble (k + 2) L.length with
  | false => rw [hb] at h; cases h
  | true => rw [hb] at h; cases h; exact store_ok2 H (Nat.le_of_ble_eq_true hb)
 | double x => simp [lput] at h
 | int x => exact one rfl h
 | float x => exact one rfl h
 | null => exact one rfl h
 | ref x => exact one rfl h
 | retAddr x => exact one rfl h
theorem fInj : ∀ i, i < nF → ∀ j, j < nF → fNm i = fNm j → i = j := by decide +kernel
theorem fPrs : ∀ i, i < nF → parseFieldDescriptor (fDs i) = some (fTy i) := by decide +kernel
theorem cDefs : ∀ i, i < nF → vget cDef i = some (defaultValue (fTy i)) := by decide +kernel
theorem cDefL : cDef.length = nF := by decide +kernel
theorem fDef : ∀ i, i < nF → ∀ a, defaultValue (fTy i) ≠ .ref a := by
 intro i _ a
 cases fTy i <;> simp [defaultValue]
theorem kPlain : ∀ k, k < 2 → plainName (kName k) = true := by
 intro k hk
 rcases k with _ | _ | k
 ·first | decide +kernel | (simp [kName, plainName, overriddenIn]; done)
 ·first | decide +kernel | (simp [kName, plainName, overriddenIn]; done)
 ·omega
theorem pKlt : ∀ m, m < pN → pK m < 2 := by decide +kernel
theorem pSig : ∀ m, m < pN → (parseMethodDescriptor (pDs m)).map (fun sg => sg.parameters.length) = some (pNA m) := by decide +kernel
theorem pOwn : ∀ k, k < 2 → kName k ≠ "java/lang/invoke/MethodHandle" ∧ kName k ≠ "java/lang/invoke/VarHandle" := by decide +kernel
theorem mAlt : ∀ m ∈ mA, m < pN := by decide +kernel
theorem mVlt : ∀ m ∈ mV, m ∈ mA ∧ pK m = 1 := by decide +kernel
theorem mPlt : ∀ m ∈ mP, m ∈ mA ∧ pK m = 1 := by decide +kernel
theorem mSlt : ∀ m ∈ mS, m ∈ mA := by decide +kernel
theorem mIlt : ∀ m ∈ mI, m ∈ mA ∧ pK m = 1 ∧ pNm m = "<init>" ∧ pRet m = none := by decide +kernel
theorem kOne : kName 1 = cName := rfl
set_option maxRecDepth 100000 in
theorem pChk0 : ∀ m, m < pN → ∀ pc, pc < pTop → (match pCode m pc with | some t => qchk m pc t.1 t.2 | none => true) = true := by decide +kernel
theorem pIn {m pc : Nat} {t : Instr × Nat} (h : pCode m pc = some t) : m < pN ∧ pc < pTop := by
 unfold pCode at h
 cases h1 : Nat.ble pN m with
 | true => rw [h1] at h; cases h
 | false =>
  cases h2 : Nat.ble pTop pc with
  | true => rw [h1, h2] at h; cases h
  | false => exact ⟨Nat.lt_of_not_le (fun q => by rw [Nat.ble_eq_true_of_le q] at h1; cases h1), Nat.lt_of_not_le (fun q => by rw [Nat.ble_eq_true_of_le q] at h2; cases h2)⟩
theorem pChk {m pc : Nat} {i : Instr} {aux : Nat} (h : pCode m pc = some (i, aux)) : qchk m pc i aux = true := by
 have q := pChk0 m (pIn h).1 pc (pIn h).2
 rw [h] at q
 exact q
theorem pDec {m pc : Nat} {i : Instr} {aux : Nat} (h : pCode m pc = some (i, aux)) : decode (pBytes m) pc = .ok (i, ilen i) := by
 have q := pChk h
 unfold qchk at q
 exact of_decide_eq_true (Bool.and_eq_true_iff.mp q).1
theorem pDecN {m pc n : Nat} {i : Instr} {aux : Nat} (h : pCode m pc = some (i, aux)) (hn : ilen i = n) : decode (pBytes m) pc = .ok (i, n) := by
 rw [← hn]; exact pDec h
theorem pRest {m pc : Nat} {i : Instr} {aux : Nat} (h : pCode m pc = some (i, aux)) : qlk m pc i aux = true := by
 have q := pChk h
 unfold qchk at q
 exact (Bool.and_eq_true_iff.mp q).2
theorem qtgt_spec {pc : Nat} {o : Int} {aux : Nat} (h : qtgt pc o aux = true) : 0 ≤ (pc : Int) + o ∧ ((pc : Int) + o).toNat = aux := by
 unfold qtgt at h
 have h2 := Bool.and_eq_true_iff.mp h
 exact ⟨of_decide_eq_true h2.1, of_decide_eq_true h2.2⟩
def QCx (Z : State) (p : Program) (R : Room) (s : State) (mid : MethodId) (meth : Method) (c : Code) (m : Nat) : Prop :=
 p.tables.exec = Jvm.exec ∧ Z.Warmed39 s.vm ∧ c.code = pBytes m ∧ c.maxLocals = pMaxL m ∧ meth.sig.returnType = pRet m ∧ s.vm.findClass (kName (pK m)) = some mid.cls ∧ meth.name = pNm m ∧ pFr m ≤ R.frames ∧ pLo m ≤ R.locals
def QTri (l : Launch) (Z : State) (n0 : Nat) (ad : Nat → Addr) (m : Nat) (st : QSt) (v : Option Value) (σ' : QHeap) : Prop :=
 st.2.2.2.length ≤ σ'.length ∧ qhs st.2.2.2 ≤ qhs σ' ∧
 ∀ (p : Program) (e : Env) (R : Room) (s : State) (mid : MethodId) (args : Array Value) (below : List Frame) (meth : Method) (c : Code) (T : State) (locs : List Loc) (cells slots : Nat) (C : Array Slot),
  QCx Z p R s mid meth c m → Stand p l e R s mid args below meth c T locs cells slots → QRep Z n0 ad T.heap st.2.2.2 → Fr n0 locs → QLocOk ad st.2.1 C → C.size = c.maxLocals →
  n0 + (st.2.2.2.length - k0) = s.heap.size + cells → cells + (σ'.length - st.2.2.2.length) ≤ R.cells → slots + (qhs σ' - qhs st.2.2.2) ≤ R.slots →
  ∃ T' locs', Stand p l e R s mid args below meth c T' locs' (cells + (σ'.length - st.2.2.2.length)) (slots + (qhs σ' - qhs st.2.2.2)) ∧ QRep Z n0 ad T'.heap σ' ∧ Fr n0 locs' ∧
   ∀ fs, (∀ (f : JFrame) (acts : List Action), f.method = mid → f.locked = none → f.entered = [] → (doReturn e (T'.setTop f) acts (v.map (qv ad))).1 = T'.setFrames fs) →
    Steps p.tables e below (T.setTop (mkF mid st.1 C (st.2.2.1.map (qv ad)))) (T'.setFrames fs)
section Triples
variable {l : Launch} {Z : State} {n0 : Nat} {ad : Nat → Addr} {a0 : Array Value} {m : Nat} {v : Option Value} {σ' : QHeap}
theorem QTri.gen {st st' : QSt} (h : QTri l Z n0 ad m st' v σ') (g1 : st.2.2.2.length ≤ st'.2.2.2.length) (g2 : qhs st.2.2.2 ≤ qhs st'.2.2.2)
  (hs : ∀ (p : Program) (e : Env) (R : Room) (s : State) (mid : MethodId) (args : Array Value) (below : List Frame) (meth : Method) (c : Code) (T : State) (locs : List Loc) (cells slots : Nat) (C : Array Slot),
   QCx Z p R s mid meth c m → Stand p l e R s mid args below meth c T locs cells slots → QRep Z n0 ad T.heap st.2.2.2 → Fr n0 locs → QLocOk ad st.2.1 C → C.size = c.maxLocals →
   n0 + (st.2.2.2.length - k0) = s.heap.size + cells → cells + (st'.2.2.2.length - st.2.2.2.length) ≤ R.cells → slots + (qhs st'.2.2.2 - qhs st.2.2.2) ≤ R.slots →
   ∃ T₁ locs₁ C₁, Stand p l e R s mid args below meth c T₁ locs₁ (cells + (st'.2.2.2.length - st.2.2.2.length)) (slots + (qhs st'.2.2.2 - qhs st.2.2.2)) ∧ QRep Z n0 ad T₁.heap st'.2.2.2 ∧ Fr n0 locs₁ ∧ QLocOk ad st'.2.1 C₁ ∧ C₁.size = c.maxLocals ∧
    ∀ target, Steps p.tables e below (T₁.setTop (mkF mid st'.1 C₁ (st'.2.2.1.map (qv ad)))) target → Steps p.tables e below (T.setTop (mkF mid st.1 C (st.2.2.1.map (qv ad)))) target) :
  QTri l Z n0 ad m st v σ' := by
 obtain ⟨h1, h2, h3⟩ := h
 refine ⟨Nat.le_trans g1 h1, Nat.le_trans g2 h2, fun p e R s mid args below meth c T locs cells slots C hcx X hR hF hL hC hn hc hsl => ?_⟩
 obtain ⟨T₁, locs₁, C₁, X₁, R₁, F₁, L₁, C1, S₁⟩ := hs p e R s mid args below meth c T locs cells slots C hcx X hR hF hL hC hn (by omega) (by omega)
 have hk := hR.1
 obtain ⟨T', locs', X', R', F', S'⟩ := h3 p e R s mid args below meth c T₁ locs₁ _ _ C₁ hcx X₁ R₁ F₁ L₁ C1 (by omega) (by omega) (by omega)
 have e1 : cells + (st'.2.2.2.length - st.2.2.2.length) + (σ'.length - st'.2.2.2.length) = cells + (σ'.length - st.2.2.2.length) := by omega
 have e2 : slots + (qhs st'.2.2.2 - qhs st.2.2.2) + (qhs σ' - qhs st'.2.2.2) = slots + (qhs σ' - qhs st.2.2.2) := by omega
 rw [e1, e2] at X'
 exact ⟨T', locs', X', R', F', fun fs hf => S₁ _ (S' fs hf)⟩
theorem QTri.pure {st st' : QSt} (h : QTri l Z n0 ad m st' v σ') (hσ : st'.2.2.2 = st.2.2.2)
  (hs : ∀ (p : Program) (e : Env) (R : Room) (s : State) (mid : MethodId) (args : Array Value) (below : List Frame) (meth : Method) (c : Code) (T : State) (locs : List Loc) (cells slots : Nat) (C : Array Slot),
   QCx Z p R s mid meth c m → Stand p l e R s mid args below meth c T locs cells slots → QRep Z n0 ad T.heap st.2.2.2 → QLocOk ad st.2.1 C → C.size = c.maxLocals →
   ∃ T₁ C₁, Stand p l e R s mid args below meth c T₁ locs cells slots ∧ T₁.heap = T.heap ∧ QLocOk ad st'.2.1 C₁ ∧ C₁.size = c.maxLocals ∧
    ∀ target, Steps p.tables e below (T₁.setTop (mkF mid st'.1 C₁ (st'.2.2.1.map (qv ad)))) target → Steps p.tables e below (T.setTop (mkF mid st.1 C (st.2.2.1.map (qv ad)))) target) :
  QTri l Z n0 ad m st v σ' := by
 refine QTri.gen h (by rw [hσ]; exact Nat.le_refl _) (by rw [hσ]; exact Nat.le_refl _) fun p e R s mid args below meth c T locs cells slots C hcx X hR hF hL hC hn hc hsl => ?_
 obtain ⟨T₁, C₁, X₁, hh, L₁, C1, S₁⟩ := hs p e R s mid args below meth c T locs cells slots C hcx X hR hL hC
 refine ⟨T₁, locs, C₁, ?_, by rw [hσ, hh]; exact hR, hF, L₁, C1, S₁⟩
 rw [hσ, Nat.sub_self, Nat.sub_self]
 exact X₁
theorem QTri.frame {pc pc' : Nat} {L L' : QLoc} {S S' : List Value} {σ : QHeap} (h : QTri l Z n0 ad m (pc', L', S', σ) v σ')
  (hs : ∀ (p : Program) (e : Env) (R : Room) (s : State) (mid : MethodId) (args : Array Value) (below : List Frame) (meth : Method) (c : Code) (T : State) (locs : List Loc) (cells slots : Nat) (C : Array Slot),
   QCx Z p R s mid meth c m → Stand p l e R s mid args below meth c T locs cells slots → QRep Z n0 ad T.heap σ → QLocOk ad L C → C.size = c.maxLocals →
   ∃ C₁, QLocOk ad L' C₁ ∧ C₁.size = c.maxLocals ∧ ∀ target, Steps p.tables e below (T.setTop (mkF mid pc' C₁ (S'.map (qv ad)))) target → Steps p.tables e below (T.setTop (mkF mid pc C (S.map (qv ad)))) target) :
  QTri l Z n0 ad m (pc, L, S, σ) v σ' :=
 QTri.pure h rfl fun p e R s mid args below meth c T locs cells slots C hcx X hR hL hC => by
  obtain ⟨C₁, h1, h2, h3⟩ := hs p e R s mid args below meth c T locs cells slots C hcx X hR hL hC
  exact ⟨T, C₁, X, rfl, h1, h2, h3⟩
theorem QTri.stack {pc pc' : Nat} {L : QLoc} {S S' : List Value} {σ : QHeap} (h : QTri l Z n0 ad m (pc', L, S', σ) v σ')
  (hs : ∀ (p : Program) (e : Env) (R : Room) (s : State) (mid : MethodId) (args : Array Value) (below : List Frame) (meth : Method) (c : Code) (T : State) (locs : List Loc) (cells slots : Nat) (C : Array Slot) (target : State),
   p.tables.exec = Jvm.exec → Z.Warmed39 s.vm → c.code = pBytes m → s.vm.findClass (kName (pK m)) = some mid.cls → Stand p l e R s mid args below meth c T locs cells slots → QRep Z n0 ad T.heap σ → QLocOk ad L C →
   Steps p.tables e below (T.setTop (mkF mid pc' C (S'.map (qv ad)))) target → Steps p.tables e below (T.setTop (mkF mid pc C (S.map (qv ad)))) target) :
  QTri l Z n0 ad m (pc, L, S, σ) v σ' :=
 QTri.frame h fun p e R s mid args below meth c T locs cells slots C hcx X hR hL hC => ⟨C, hL, hC, fun target k => hs p e R s mid args below meth c T locs cells slots C target hcx.1 hcx.2.1 hcx.2.2.1 hcx.2.2.2.2.2.1 X hR hL k⟩
theorem qload_inv {pc : Nat} {L : QLoc} {S : List Value} {σ : QHeap} {k : Nat} {ok : Value → Bool} {st' : QSt} (h : qload pc L S σ k ok = some st') : ∃ v, lget L k = some v ∧ ok v = true ∧ st' = (pc, L, v :: S, σ) := by
 unfold qload at h
 split at h
 ·rename_i v hv
  cases ho : ok v with
  | true => rw [ho] at h; cases h; exact ⟨v, hv, ho, rfl⟩
  | false => rw [ho] at h; cases h
 ·cases h
theorem qstore_inv {pc : Nat} {L : QLoc} {S : List Value} {σ : QHeap} {k : Nat} {ok : Value → Bool} {st' : QSt} (h : qstore pc L S σ k ok = some st') : ∃ v S' L', S = v :: S' ∧ ok v = true ∧ lput L k v = some L' ∧ st' = (pc, L', S', σ) := by
 unfold qstore at h
 split at h
 ·rename_i v S'
  cases ho : ok v with
  | true =>
   rw [ho] at h
   simp only [cond_true] at h
   split at h
   ·rename_i L' hL'
    cases h; exact ⟨v, S', L', rfl, ho, hL', rfl⟩
   ·cases h
  | false => rw [ho] at h; cases h
 ·cases h
theorem qbin_inv {pc : Nat} {L : QLoc} {S : List Value} {σ : QHeap} {f : Int32 → Int32 → Int32} {st' : QSt} (h : qbin pc L S σ f = some st') : ∃ x y S', S = .int y :: .int x :: S' ∧ st' = (pc, L, .int (f x y) :: S', σ) := by
 unfold qbin at h
 split at h
 ·cases h; exact ⟨_, _, _, rfl, rfl⟩
 ·cases h
theorem qbino_inv {pc : Nat} {L : QLoc} {S : List Value} {σ : QHeap} {f : Int32 → Int32 → Option Int32} {st' : QSt} (h : qbino pc L S σ f = some st') : ∃ x y z S', S = .int y :: .int x :: S' ∧ f x y = some z ∧ st' = (pc, L, .int z :: S', σ) := by
 unfold qbino at h
 split at h
 ·obtain ⟨z, hz, h⟩ := Option.bind_eq_some_iff.mp h
  cases h; exact ⟨_, _, _, _, rfl, hz, rfl⟩
 ·cases h
theorem qbinJ_inv {pc : Nat} {L : QLoc} {S : List Value} {σ : QHeap} {f : Int64 → Int64 → Int64} {st' : QSt} (h : qbinJ pc L S σ f = some st') : ∃ x y S', S = .long y :: .long x :: S' ∧ st' = (pc, L, .long (f x y) :: S', σ) := by
 unfold qbinJ at h
 split at h
 ·cases h; exact ⟨_, _, _, rfl, rfl⟩
 ·cases h
theorem qshJ_inv {pc : Nat} {L : QLoc} {S : List Value} {σ : QHeap} {f : Int64 → Int32 → Int64} {st' : QSt} (h : qshJ pc L S σ f = some st') : ∃ x y S', S = .int y :: .long x :: S' ∧ st' = (pc, L, .long (f x y) :: S', σ) := by
 unfold qshJ at h
 split at h
 ·cases h; exact ⟨_, _, _, rfl, rfl⟩
 ·cases h
theorem quni_inv {pc : Nat} {L : QLoc} {S : List Value} {σ : QHeap} {f : Int32 → Value} {st' : QSt} (h : quni pc L S σ f = some st') : ∃ x S', S = .int x :: S' ∧ st' = (pc, L, f x :: S', σ) := by
 unfold quni at h
 split at h
 ·cases h; exact ⟨_, _, rfl, rfl⟩
 ·cases h
theorem quniJ_inv {pc : Nat} {L : QLoc} {S : List Value} {σ : QHeap} {f : Int64 → Value} {st' : QSt} (h : quniJ pc L S σ f = some st') : ∃ x S', S = .long x :: S' ∧ st' = (pc, L, f x :: S', σ) := by
 unfold quniJ at h
 split at h
 ·cases h; exact ⟨_, _, rfl, rfl⟩
 ·cases h
theorem qif_inv {pc : Nat} {L : QLoc} {S : List Value} {σ : QHeap} {cd : ClassFile.Cond} {t : Nat} {st' : QSt} (h : qif pc L S σ cd t = some st') : ∃ x S', S = .int x :: S' ∧ st' = (bif ifCond.holds cd x then t else pc, L, S', σ) := by
 unfold qif at h
 split at h
 ·cases h; exact ⟨_, _, rfl, rfl⟩
 ·cases h
theorem qicmp_inv {pc : Nat} {L : QLoc} {S : List Value} {σ : QHeap} {cd : ClassFile.Cond} {t : Nat} {st' : QSt} (h : qicmp pc L S σ cd t = some st') : ∃ x y S', S = .int y :: .int x :: S' ∧ st' = (bif if_icmp.holds cd x y then t else pc, L, S', σ) := by
 unfold qicmp at h
 split at h
 ·cases h; exact ⟨_, _, _, rfl, rfl⟩
 ·cases h
theorem qget_inv {pc : Nat} {L : QLoc} {S : List Value} {σ : QHeap} {k : Nat} {st' : QSt} (h : qget pc L S σ k = some st') : ∃ a S' vs v, S = .ref a :: S' ∧ hget σ a = some (.inl vs) ∧ vget vs k = some v ∧ st' = (pc, L, v :: S', σ) := by
 unfold qget at h
 split at h
 ·split at h
  ·split at h
   ·cases h; exact ⟨_, _, _, _, rfl, by assumption, by assumption, rfl⟩
   ·cases h
  ·cases h
 ·cases h
theorem qput_inv {pc : Nat} {L : QLoc} {S : List Value} {σ : QHeap} {k : Nat} {st' : QSt} (h : qput pc L S σ k = some st') : ∃ v a S' vs w, S = v :: .ref a :: S' ∧ hget σ a = some (.inl vs) ∧ k0 ≤ a ∧ k < vs.length ∧ qfit (fTy k) v = some w ∧ st' = (pc, L, S', σ.set a (.inl (vs.set k w))) := by
 unfold qput at h
 split at h
 ·rename_i v a S'
  split at h
  ·rename_i vs hvs
   cases hbb : (Nat.ble k0 a && Nat.ble (k + 1) vs.length) with
   | false => rw [hbb] at h; cases h
   | true =>
    rw [hbb] at h
    simp only [cond_true] at h
    obtain ⟨u, hu, h⟩ := Option.bind_eq_some_iff.mp h
    cases h
    obtain ⟨b1, b2⟩ := Bool.and_eq_true_iff.mp hbb
    exact ⟨v, a, S', vs, u, rfl, hvs, Nat.le_of_ble_eq_true b1, Nat.le_of_ble_eq_true b2, hu, rfl⟩
  ·cases h
 ·cases h
theorem qald_inv {pc : Nat} {L : QLoc} {S : List Value} {σ : QHeap} {ok : FieldType → Bool} {st' : QSt} (h : qald pc L S σ ok = some st') : ∃ j a S' ty xs v, S = .int j :: .ref a :: S' ∧ hget σ a = some (.inr (.inl (ty, xs))) ∧ ok ty = true ∧ aget xs j = some v ∧ st' = (pc, L, .int v :: S', σ) := by
 unfold qald at h
 split at h
 ·rename_i j a S'
  split at h
  ·rename_i x hx
   cases ht : ok x.1 with
   | false => rw [ht] at h; cases h
   | true =>
    rw [ht] at h
    simp only [cond_true] at h
    obtain ⟨u, hu, h⟩ := Option.bind_eq_some_iff.mp h
    cases h
    exact ⟨j, a, S', x.1, x.2, u, rfl, hx, ht, hu, rfl⟩
  ·cases h
 ·cases h
theorem qaldJ_inv {pc : Nat} {L : QLoc} {S : List Value} {σ : QHeap} {st' : QSt} (h : qaldJ pc L S σ = some st') : ∃ j a S' xs v, S = .int j :: .ref a :: S' ∧ hget σ a = some (.inr (.inr xs)) ∧ aget xs j = some v ∧ st' = (pc, L, .long v :: S', σ) := by
 unfold qaldJ at h
 split at h
 ·rename_i j a S'
  split at h
  ·rename_i x hx
   obtain ⟨u, hu, h⟩ := Option.bind_eq_some_iff.mp h
   cases h
   exact ⟨j, a, S', x, u, rfl, hx, hu, rfl⟩
  ·cases h
 ·cases h
theorem qast_inv {pc : Nat} {L : QLoc} {S : List Value} {σ : QHeap} {ok : FieldType → Bool} {st' : QSt} (h : qast pc L S σ ok = some st') : ∃ v j a S' ty xs ys, S = .int v :: .int j :: .ref a :: S' ∧ hget σ a = some (.inr (.inl (ty, xs))) ∧ ok ty = true ∧ k0 ≤ a ∧ aset xs j (qnar ty v) = some ys ∧ st' = (pc, L, S', σ.set a (.inr (.inl (ty, ys)))) := by
 unfold qast at h
 split at h
 ·rename_i v j a S'
  split at h
  ·rename_i x hx
   cases ht : (ok x.1 && Nat.ble k0 a) with
   | false => rw [ht] at h; cases h
   | true =>
    rw [ht] at h
    simp only [cond_true] at h
    obtain ⟨u, hu, h⟩ := Option.bind_eq_some_iff.mp h
    cases h
    obtain ⟨b1, b2⟩ := Bool.and_eq_true_iff.mp ht
    exact ⟨v, j, a, S', x.1, x.2, u, rfl, hx, b1, Nat.le_of_ble_eq_true b2, hu, rfl⟩
  ·cases h
 ·cases h
theorem qastJ_inv {pc : Nat} {L : QLoc} {S : List Value} {σ : QHeap} {st' : QSt} (h : qastJ pc L S σ = some st') : ∃ v j a S' xs ys, S = .long v :: .int j :: .ref a :: S' ∧ hget σ a = some (.inr (.inr xs)) ∧ k0 ≤ a ∧ aset xs j v = some ys ∧ st' = (pc, L, S', σ.set a (.inr (.inr ys))) := by
 unfold qastJ at h
 split at h
 ·rename_i v j a S'
  split at h
  ·rename_i x hx
   cases ht : (Nat.ble k0 a) with
   | false => rw [ht] at h; cases h
   | true =>
    rw [ht] at h
    simp only [cond_true] at h
    obtain ⟨u, hu, h⟩ := Option.bind_eq_some_iff.mp h
    cases h
    exact ⟨v, j, a, S', x, u, rfl, hx, Nat.le_of_ble_eq_true ht, hu, rfl⟩
  ·cases h
 ·cases h
theorem qlen_inv {pc : Nat} {L : QLoc} {S : List Value} {σ : QHeap} {st' : QSt} (h : qlen pc L S σ = some st') : ∃ a S' n, S = .ref a :: S' ∧ ((∃ ty xs, hget σ a = some (.inr (.inl (ty, xs))) ∧ n = xs.length) ∨ ∃ xs, hget σ a = some (.inr (.inr xs)) ∧ n = xs.length) ∧ st' = (pc, L, .int n.toInt32 :: S', σ) := by
 unfold qlen at h
 split at h
 ·rename_i a S'
  split at h
  ·rename_i x hx
   cases h; exact ⟨a, S', _, rfl, Or.inl ⟨x.1, x.2, hx, rfl⟩, rfl⟩
  ·rename_i x hx
   cases h; exact ⟨a, S', _, rfl, Or.inr ⟨x, hx, rfl⟩, rfl⟩
  ·cases h
 ·cases h
theorem isI_inv {v : Value} (h : isI v = true) : ∃ x, v = .int x := by cases v <;> simp [isI] at h; exact ⟨_, rfl⟩
theorem isJ_inv {v : Value} (h : isJ v = true) : ∃ x, v = .long x := by cases v <;> simp [isJ] at h; exact ⟨_, rfl⟩
theorem isR_inv {v : Value} (h : isR v = true) : ∃ x, v = .ref x := by cases v <;> simp [isR] at h; exact ⟨_, rfl⟩
theorem aget_inv {α : Type} {xs : List α} {j : Int32} {x : α} (h : aget xs j = some x) : ¬ j < 0 ∧ xs[j.toNatClampNeg]? = some x := by
 unfold aget at h
 split at h
 ·cases h
 ·rename_i q; exact ⟨q, h⟩
theorem aset_inv {α : Type} {xs ys : List α} {j : Int32} {x : α} (h : aset xs j x = some ys) : ¬ j < 0 ∧ j.toNatClampNeg < xs.length ∧ ys = xs.set j.toNatClampNeg x := by
 unfold aset at h
 split at h
 ·cases h
 ·rename_i q
  split at h
  ·rename_i q2; cases h; exact ⟨q, q2, rfl⟩
  ·cases h
theorem qnew_inv {n : Int32} {k : Nat} (h : qnew n = some k) : ¬ n < 0 ∧ n.toNatClampNeg = k ∧ k ≤ 67108864 := by
 unfold qnew at h
 split at h
 ·cases h
 ·rename_i q
  split at h
  ·rename_i q2; cases h; exact ⟨q, rfl, q2⟩
  ·cases h
theorem QCellOk.other {h h' : Heap} {a b : Addr} {sl : Nat} {w : Value} {c : QCell} (H : QCellOk Z ad h b c) (W : Wr h h' a sl w) (ne : b ≠ a) : QCellOk Z ad h' b c := by
 rcases c with vs | ⟨ty, xs⟩ | xs
 ·obtain ⟨h1, h2, h3⟩ := H
  exact ⟨h1.wr W, h2, fun k u hk hu => (h3 k u hk hu).other W (Or.inl ne)⟩
 ·obtain ⟨c, h1, h2⟩ := H
  exact ⟨c, h1.other W ne, h2⟩
 ·obtain ⟨c, h1, h2⟩ := H
  exact ⟨c, h1.other W ne, h2⟩
theorem QCellOk.ext {h h' : Heap} {b : Addr} {c : QCell} (H : QCellOk Z ad h b c) (E : Ext h h') : QCellOk Z ad h' b c := by
 rcases c with vs | ⟨ty, xs⟩ | xs
 ·obtain ⟨h1, h2, h3⟩ := H
  exact ⟨h1.ext E, h2, fun k u hk hu => (h3 k u hk hu).ext E⟩
 ·obtain ⟨c, h1, h2⟩ := H
  exact ⟨c, h1.ext E, h2⟩
 ·obtain ⟨c, h1, h2⟩ := H
  exact ⟨c, h1.ext E, h2⟩
theorem QRep.set {h h' : Heap} {σ : QHeap} {a : Nat} {sl : Nat} {w : Value} {c d : QCell} (H : QRep Z n0 ad h σ) (Ad : QAd n0 ad) (W : Wr h h' (ad a) sl w) (hc : hget σ a = some c) (hd : QCellOk Z ad h' (ad a) d) : QRep Z n0 ad h' (σ.set a d) := by
 obtain ⟨h1, h2, h3⟩ := H
 refine ⟨by simpa using h1, by rw [W.size, h2]; simp, fun k e he => ?_⟩
 rw [hget_set hc] at he
 split at he
 ·rename_i q; cases he; rw [q]; exact hd
 ·rename_i q; exact (h3 k e he).other W fun z => q (Ad.2 _ _ z)
theorem QRep.push {h h' : Heap} {σ : QHeap} {c : QCell} (H : QRep Z n0 ad h σ) (Ad : QAd n0 ad) (E : Ext h h') (hs : h'.size = h.size + 1) (hc : QCellOk Z ad h' h.size c) : QRep Z n0 ad h' (σ ++ [c]) := by
 obtain ⟨h1, h2, h3⟩ := H
 refine ⟨by simp; omega, by rw [hs, h2]; simp; omega, fun k e he => ?_⟩
 rw [hget_eq] at he
 rcases Nat.lt_or_ge k σ.length with q | q
 ·rw [List.getElem?_append_left q, ← hget_eq] at he
  exact (h3 k e he).ext E
 ·rw [List.getElem?_append_right q] at he
  obtain rfl : k = σ.length := by
   rcases Nat.lt_or_ge (k - σ.length) 1 with z | z
   ·omega
   ·rw [List.getElem?_eq_none (by simpa using z)] at he; cases he
  simp at he
  rw [← he, Ad.1 _ h1, ← h2]
  exact hc
theorem mem_of_contains {α : Type} [BEq α] [LawfulBEq α] {L : List α} {a : α} (h : L.contains a = true) : a ∈ L := by simpa using h
theorem lkF_lt : ∀ t ∈ lkF, t.2.2 < nF := by decide +kernel
theorem laid_of (W : QW Z a0) {k : Nat} (hk : k < nF) : Laid Z a0 cName cName (fNm k) (fDs k) := by
 have q := (qw_lay W) k hk
 cases hf : fFin k with
 | true => rw [hf] at q; exact Or.inr q
 | false => rw [hf] at q; exact Or.inl q
theorem qfit_inv {ty : FieldType} {v w : Value} (h : qfit ty v = some w) : v = w ∧ narrow ty (qv ad w) = qv ad w ∧ fits ty (qv ad w) = true := by
 unfold qfit at h
 split at h
 ·cases h; exact ⟨rfl, rfl, rfl⟩
 ·rename_i x
  obtain ⟨y, hy, h⟩ := Option.bind_eq_some_iff.mp h
  cases h
  unfold qboo at hy
  split at hy
  ·rename_i e; cases hy; subst e; exact ⟨rfl, rfl, rfl⟩
  ·split at hy
   ·rename_i e; cases hy; subst e; exact ⟨rfl, rfl, rfl⟩
   ·cases hy
 ·cases h; exact ⟨rfl, rfl, rfl⟩
 ·cases h; exact ⟨rfl, rfl, rfl⟩
 ·cases h
theorem vget_set {vs : List Value} {k j : Nat} {w : Value} (hk : k < vs.length) : vget (vs.set k w) j = if j = k then some w else vget vs j := by
 simp only [vget_eq, List.getElem?_set]
 by_cases e : k = j
 ·subst e; simp [hk]
 ·simp [e, Ne.symm e]
theorem ald_in {α : Type} {f : α → Value} {xs : List α} {c : Cell} {j : Int32} {x : α} (hc : c.slots = (xs.map f).toArray) (h : aget xs j = some x) : ¬ (j < 0 ∨ c.slots.size ≤ j.toNatClampNeg) ∧ c.slots[j.toNatClampNeg]? = some (f x) := by
 obtain ⟨h1, h2⟩ := aget_inv h
 have h3 := (List.getElem?_eq_some_iff.mp h2).1
 refine ⟨fun q => ?_, by rw [hc]; simp [h2]⟩
 rcases q with q | q
 ·exact h1 q
 ·rw [hc] at q; simp at q; omega
theorem ast_in {α : Type} {f : α → Value} {xs ys : List α} {c : Cell} {j : Int32} {x : α} (hc : c.slots = (xs.map f).toArray) (h : aset xs j x = some ys) : ¬ (j < 0 ∨ c.slots.size ≤ j.toNatClampNeg) ∧ (c.setSlot j.toNatClampNeg (f x)).slots = (ys.map f).toArray := by
 obtain ⟨h1, h2, rfl⟩ := aset_inv h
 refine ⟨fun q => ?_, by simp [Cell.setSlot, hc, List.map_set]⟩
 rcases q with q | q
 ·exact h1 q
 ·rw [hc] at q; simp at q; omega
theorem qgrow {σ : QHeap} {c : QCell} : qhs (σ ++ [c]) - qhs σ = qsz c := by rw [qhs_app]; simp [qhs]
set_option maxHeartbeats 4000000 in
theorem QTri.newArr (Ad : QAd n0 ad) (W : QW Z a0) {pc aux : Nat} {L : QLoc} {S : List Value} {σ : QHeap} {aty : ArrayType} {n : Int32} {k : Nat} {c : QCell} (hk : qnew n = some k) (hc : pCode m pc = some (.newarray aty, aux)) (hz : qsz c = k)
  (hq : ∀ (h' : Heap) (a : Addr) (cA : ClassId), Arr Z h' a (newA cA (newarray.typeOf aty) n) (newarray.typeOf aty) → QCellOk Z ad h' a c)
  (h : QTri l Z n0 ad m (pc + 2, L, .ref σ.length :: S, σ ++ [c]) v σ') : QTri l Z n0 ad m (pc, L, .int n :: S, σ) v σ' := by
 have hd : decode (pBytes m) pc = .ok (.newarray aty, 2) := pDecN hc rfl
 obtain ⟨n1, n2, n3⟩ := qnew_inv hk
 refine QTri.gen h (by simp) (by simp [qhs_app]) fun p e R s mid args below meth c' T locs cells slots C hcx X hR hF hL hC hn hc1 hsl => ?_
 obtain ⟨hx, hZ, hby, hml, hret, hown, hnm, hfr, hlo⟩ := hcx
 have hd2 : decode c'.code pc = .ok (.newarray aty, 2) := by rw [hby]; exact hd
 simp only [List.length_append, List.length_singleton, Nat.add_sub_cancel_left, qgrow, hz] at hc1 hsl ⊢
 obtain ⟨T₁, h₁, cA, X₁, e₁, E₁, A₁, st⟩ := newP X hx hZ (aty := aty) (qw_arr W (newarray.typeOf aty) (mem_of_contains (show aTys.contains (newarray.typeOf aty) = true from pRest hc))) rfl (g := mkF mid pc C (.int n :: S.map (qv ad))) rfl hd2 rfl n1 (cap := k) (by omega) (by omega) hc1 hsl
 have hsz : h₁.size = T.heap.size + 1 := by
  have q1 := X₁.heapSize
  have q2 : T.heap.size < h₁.size := A₁.lt
  have q3 := hR.2.1
  rw [e₁] at q1
  have : n0 + (σ.length - k0) = s.heap.size + cells := hn
  have q3' : T.heap.size = n0 + (σ.length - k0) := q3
  omega
 refine ⟨T₁, locs, C, X₁, ?_, hF, hL, hC, fun target q => ?_⟩
 ·rw [e₁]; exact QRep.push hR Ad E₁ hsz (hq _ _ _ A₁)
 ·refine st _ ?_
  have e2 : ad σ.length = T.heap.size := by rw [Ad.1 _ hR.1]; exact hR.2.1.symm
  simp only [List.map_cons, qv, e2] at q
  exact q
set_option maxHeartbeats 4000000 in
theorem QTri.getfield (W : QW Z a0) {pc idx aux : Nat} {L : QLoc} {S : List Value} {σ : QHeap} {st' : QSt} (h : QTri l Z n0 ad m st' v σ') (hc : pCode m pc = some (.getfield idx, aux)) (hs : qget (pc + 3) L S σ aux = some st') : QTri l Z n0 ad m (pc, L, S, σ) v σ' := by
 have hd : decode (pBytes m) pc = .ok (.getfield idx, 3) := pDecN hc rfl
 obtain ⟨a, S', vs, w, rfl, hvs, hw, rfl⟩ := qget_inv hs
 have hm := mem_of_contains (show lkF.contains (pK m, idx, aux) = true from pRest hc)
 have hlt := lkF_lt _ hm
 refine QTri.pure h rfl fun p e R s mid args below meth c T locs cells slots C hcx X hR hL hC => ?_
 obtain ⟨hx, hZ, hby, hml, hret, hown, hnm, hfr, hlo⟩ := hcx
 have hd2 : decode c.code pc = .ok (.getfield idx, 3) := by rw [hby]; exact hd
 have F := (hR.2.2 _ _ hvs).2.2 aux w hlt hw
 obtain ⟨T₁, X₁, e₁, st⟩ := getF X hx hZ hown (host := "") (index := idx) (Or.inl (qw_fl W (pK m, idx, aux) hm)) Via.refl rfl F (g := mkF mid pc C (List.map (qv ad) (.ref a :: S'))) rfl rfl hd2
 exact ⟨T₁, C, X₁, e₁, hL, hC, st⟩
set_option maxHeartbeats 4000000 in
theorem QTri.putfield (Ad : QAd n0 ad) (W : QW Z a0) {pc idx aux : Nat} {L : QLoc} {S : List Value} {σ : QHeap} {st' : QSt} (h : QTri l Z n0 ad m st' v σ') (hc : pCode m pc = some (.putfield idx, aux)) (hs : qput (pc + 3) L S σ aux = some st') : QTri l Z n0 ad m (pc, L, S, σ) v σ' := by
 have hd : decode (pBytes m) pc = .ok (.putfield idx, 3) := pDecN hc rfl
 obtain ⟨w, a, S', vs, u, rfl, hvs, b1, b2, hu, rfl⟩ := qput_inv hs
 obtain ⟨r1, r2⟩ := Bool.and_eq_true_iff.mp (show (lkF.contains (pK m, idx, aux) && (!fFin aux || (pK m == 1 && pNm m == "<init>"))) = true from pRest hc)
 have hm := mem_of_contains r1
 have hlt := lkF_lt _ hm
 obtain ⟨rfl, q2, q3⟩ := qfit_inv (ad := ad) hu
 have hsz : qhs (σ.set a (Sum.inl (vs.set aux w))) = qhs σ := qhs_set hvs rfl
 refine QTri.gen h (by simp) (by show qhs σ ≤ qhs (σ.set a (Sum.inl (vs.set aux w))); rw [hsz]; exact Nat.le_refl _) fun p e R s mid args below meth c T locs cells slots C hcx X hR hF hL hC hn hc1 hsl => ?_
 obtain ⟨hx, hZ, hby, hml, hret, hown, hnm, hfr, hlo⟩ := hcx
 have hd2 : decode c.code pc = .ok (.putfield idx, 3) := by rw [hby]; exact hd
 obtain ⟨E, l1, Fs⟩ := hR.2.2 _ _ hvs
 obtain ⟨old, hold⟩ : ∃ old, vget vs aux = some old := by rw [vget_eq]; exact ⟨_, List.getElem?_eq_getElem b2⟩
 have lay : (Cond.lays cName cName (fNm aux) (fDs aux)).before a0 Z = true ∨ ((Cond.laysFinal cName cName (fNm aux) (fDs aux)).before a0 Z = true ∧ kName (pK m) = cName ∧ meth.name = "<init>") := by
  have q := (qw_lay W) aux hlt
  cases hf : fFin aux with
  | false => rw [hf] at q; exact Or.inl q
  | true =>
   rw [hf] at q r2
   simp at r2
   exact Or.inr ⟨q, by rw [r2.1]; exact kOne, by rw [hnm]; exact r2.2⟩
 obtain ⟨T₁, h₁, X₁, e₁, W₁, st⟩ := putF X hx hZ hown (host := "") (index := idx) (Or.inl (qw_fl W (pK m, idx, aux) hm)) Via.refl rfl (Fs aux old hlt hold) E lay ((qw_inst W)) (fPrs aux hlt) q2 q3 (g := mkF mid pc C (List.map (qv ad) (w :: .ref a :: S'))) rfl rfl hd2
 refine ⟨T₁, _, C, ?_, ?_, Fr.snoc X₁ hF (by rw [Ad.1 a b1]; exact Nat.le_add_right _ _), hL, hC, st⟩
 ·show Stand _ _ _ _ _ _ _ _ _ _ _ _ (cells + ((σ.set a (Sum.inl (vs.set aux w))).length - σ.length)) (slots + (qhs (σ.set a (Sum.inl (vs.set aux w))) - qhs σ))
  rw [hsz, Nat.sub_self, List.length_set, Nat.sub_self]
  exact X₁
 ·rw [e₁]
  refine QRep.set hR Ad W₁ hvs ⟨E.wr W₁, by simpa using l1, fun k u hk hu => ?_⟩
  rw [vget_set b2] at hu
  split at hu
  ·rename_i e; cases hu; rw [e]; exact (Fs aux old hlt hold).same W₁
  ·rename_i ne
   exact (Fs k u hk hu).other W₁ (Or.inr (slot_ne (laid_of W hk) (laid_of W hlt) (fun z => ne (fInj _ hk _ hlt z)) (fPrs _ hk) (fPrs _ hlt)))
theorem tyI_inv {ty : FieldType} (h : tyI ty = true) : ty = .int := by cases ty <;> simp [tyI] at h; rfl
theorem tyB_inv {ty : FieldType} (h : tyB ty = true) : ty = .boolean ∨ ty = .byte := by cases ty <;> simp [tyB] at h <;> simp
set_option maxHeartbeats 4000000 in
theorem QTri.iaload {pc aux : Nat} {L : QLoc} {S : List Value} {σ : QHeap} {st' : QSt} (h : QTri l Z n0 ad m st' v σ') (hc : pCode m pc = some (.iaload, aux)) (hs : qald (pc + 1) L S σ tyI = some st') : QTri l Z n0 ad m (pc, L, S, σ) v σ' := by
 have hd : decode (pBytes m) pc = .ok (.iaload, 1) := pDecN hc rfl
 obtain ⟨j, a, S', ty, xs, w, rfl, hx1, ht, hw, rfl⟩ := qald_inv hs
 obtain rfl := tyI_inv ht
 refine QTri.stack h fun p e R s mid args below meth c T locs cells slots C target hx hZ hby hown X hR hL k => ?_
 have hd2 : decode c.code pc = .ok (.iaload, 1) := by rw [hby]; exact hd
 obtain ⟨cl, A, hsl⟩ := hR.2.2 _ _ hx1
 obtain ⟨i1, i2⟩ := ald_in hsl hw
 exact X.iaload hx A.1 (State.isArrayOf_alike hZ.alike A.2.1) A.2.2 i1 i2 (g := mkF mid pc C (List.map (qv ad) (.int j :: .ref a :: S'))) rfl rfl hd2 _ k
set_option maxHeartbeats 4000000 in
theorem QTri.baload {pc aux : Nat} {L : QLoc} {S : List Value} {σ : QHeap} {st' : QSt} (h : QTri l Z n0 ad m st' v σ') (hc : pCode m pc = some (.baload, aux)) (hs : qald (pc + 1) L S σ tyB = some st') : QTri l Z n0 ad m (pc, L, S, σ) v σ' := by
 have hd : decode (pBytes m) pc = .ok (.baload, 1) := pDecN hc rfl
 obtain ⟨j, a, S', ty, xs, w, rfl, hx1, ht, hw, rfl⟩ := qald_inv hs
 refine QTri.stack h fun p e R s mid args below meth c T locs cells slots C target hx hZ hby hown X hR hL k => ?_
 have hd2 : decode c.code pc = .ok (.baload, 1) := by rw [hby]; exact hd
 obtain ⟨cl, A, hsl⟩ := hR.2.2 _ _ hx1
 obtain ⟨i1, i2⟩ := ald_in hsl hw
 rcases tyB_inv ht with rfl | rfl
 ·exact X.baloadBooleans hx A.1 (State.isArrayOf_alike hZ.alike A.2.1) A.2.2 i1 i2 (g := mkF mid pc C (List.map (qv ad) (.int j :: .ref a :: S'))) rfl rfl hd2 _ k
 ·exact X.baloadBytes hx A.1 (State.isArrayOf_alike hZ.alike A.2.1) A.2.2 i1 i2 (g := mkF mid pc C (List.map (qv ad) (.int j :: .ref a :: S'))) rfl rfl hd2 _ k
set_option maxHeartbeats 4000000 in
theorem QTri.laload {pc aux : Nat} {L : QLoc} {S : List Value} {σ : QHeap} {st' : QSt} (h : QTri l Z n0 ad m st' v σ') (hc : pCode m pc = some (.laload, aux)) (hs : qaldJ (pc + 1) L S σ = some st') : QTri l Z n0 ad m (pc, L, S, σ) v σ' := by
 have hd : decode (pBytes m) pc = .ok (.laload, 1) := pDecN hc rfl
 obtain ⟨j, a, S', xs, w, rfl, hx1, hw, rfl⟩ := qaldJ_inv hs
 refine QTri.stack h fun p e R s mid args below meth c T locs cells slots C target hx hZ hby hown X hR hL k => ?_
 have hd2 : decode c.code pc = .ok (.laload, 1) := by rw [hby]; exact hd
 obtain ⟨cl, A, hsl⟩ := hR.2.2 _ _ hx1
 obtain ⟨i1, i2⟩ := ald_in hsl hw
 exact X.laload hx A.1 (State.isArrayOf_alike hZ.alike A.2.1) A.2.2 i1 i2 (g := mkF mid pc C (List.map (qv ad) (.int j :: .ref a :: S'))) rfl rfl hd2 _ k
theorem QTri.stored (Ad : QAd n0 ad) {pc : Nat} {L : QLoc} {S S' : List Value} {σ : QHeap} {a j : Nat} {w : Value} {c d : QCell} (hx1 : hget σ a = some c) (b1 : k0 ≤ a) (hz : qsz d = qsz c) (h : QTri l Z n0 ad m (pc + 1, L, S', σ.set a d) v σ')
  (hs : ∀ (p : Program) (e : Env) (R : Room) (s : State) (mid : MethodId) (args : Array Value) (below : List Frame) (meth : Method) (c : Code) (T : State) (locs : List Loc) (cells slots : Nat) (C : Array Slot),
   QCx Z p R s mid meth c m → Stand p l e R s mid args below meth c T locs cells slots → QRep Z n0 ad T.heap σ →
   ∃ T' h', Stand p l e R s mid args below meth c T' (locs ++ [⟨ad a, j⟩]) cells slots ∧ T'.heap = h' ∧ Wr T.heap h' (ad a) j w ∧ QCellOk Z ad h' (ad a) d ∧ ∀ target, Steps p.tables e below (T'.setTop (mkF mid (pc + 1) C (S'.map (qv ad)))) target → Steps p.tables e below (T.setTop (mkF mid pc C (S.map (qv ad)))) target) :
  QTri l Z n0 ad m (pc, L, S, σ) v σ' := by
 have hsz : qhs (σ.set a d) = qhs σ := qhs_set hx1 hz
 refine QTri.gen h (by simp) (by show qhs σ ≤ qhs (σ.set a d); rw [hsz]; exact Nat.le_refl _) fun p e R s mid args below meth c T locs cells slots C hcx X hR hF hL hC hn hc1 hsl => ?_
 obtain ⟨T₁, h₁, X₁, e₁, W₁, Q₁, st⟩ := hs p e R s mid args below meth c T locs cells slots C hcx X hR
 refine ⟨T₁, _, C, ?_, ?_, Fr.snoc X₁ hF (by rw [Ad.1 a b1]; exact Nat.le_add_right _ _), hL, hC, st⟩
 ·show Stand _ _ _ _ _ _ _ _ _ _ _ _ (cells + ((σ.set a d).length - σ.length)) (slots + (qhs (σ.set a d) - qhs σ))
  rw [hsz, Nat.sub_self, List.length_set, Nat.sub_self]
  exact X₁
 ·rw [e₁]
  exact QRep.set hR Ad W₁ hx1 Q₁
set_option maxHeartbeats 4000000 in
theorem QTri.iastore (Ad : QAd n0 ad) {pc aux : Nat} {L : QLoc} {S : List Value} {σ : QHeap} {st' : QSt} (h : QTri l Z n0 ad m st' v σ') (hc : pCode m pc = some (.iastore, aux)) (hs : qast (pc + 1) L S σ tyI = some st') : QTri l Z n0 ad m (pc, L, S, σ) v σ' := by
 have hd : decode (pBytes m) pc = .ok (.iastore, 1) := pDecN hc rfl
 obtain ⟨w, j, a, S', ty, xs, ys, rfl, hx1, ht, b1, hw, rfl⟩ := qast_inv hs
 obtain rfl := tyI_inv ht
 refine QTri.stored Ad (j := j.toNatClampNeg) (w := .int w) hx1 b1 (by rw [(aset_inv hw).2.2]; simp [qsz]) h fun p e R s mid args below meth c T locs cells slots C hcx X hR => ?_
 have hd2 : decode c.code pc = .ok (.iastore, 1) := by rw [hcx.2.2.1]; exact hd
 obtain ⟨cl, A, hsl⟩ := hR.2.2 _ _ hx1
 obtain ⟨i1, i2⟩ := ast_in hsl hw
 obtain ⟨T₁, h₁, X₁, e₁, W₁, st⟩ := stI X hcx.1 hcx.2.1 rfl A i1 (g := mkF mid pc C (List.map (qv ad) (.int w :: .int j :: .ref a :: S'))) rfl rfl hd2
 exact ⟨T₁, h₁, X₁, e₁, W₁, ⟨_, A.same W₁, i2⟩, st⟩
set_option maxHeartbeats 4000000 in
theorem QTri.bastore (Ad : QAd n0 ad) {pc aux : Nat} {L : QLoc} {S : List Value} {σ : QHeap} {st' : QSt} (h : QTri l Z n0 ad m st' v σ') (hc : pCode m pc = some (.bastore, aux)) (hs : qast (pc + 1) L S σ tyB = some st') : QTri l Z n0 ad m (pc, L, S, σ) v σ' := by
 have hd : decode (pBytes m) pc = .ok (.bastore, 1) := pDecN hc rfl
 obtain ⟨w, j, a, S', ty, xs, ys, rfl, hx1, ht, b1, hw, rfl⟩ := qast_inv hs
 refine QTri.stored Ad (j := j.toNatClampNeg) (w := .int (qnar ty w)) hx1 b1 (by rw [(aset_inv hw).2.2]; simp [qsz]) h fun p e R s mid args below meth c T locs cells slots C hcx X hR => ?_
 have hd2 : decode c.code pc = .ok (.bastore, 1) := by rw [hcx.2.2.1]; exact hd
 obtain ⟨cl, A, hsl⟩ := hR.2.2 _ _ hx1
 obtain ⟨i1, i2⟩ := ast_in hsl hw
 rcases tyB_inv ht with rfl | rfl
 ·obtain ⟨T₁, h₁, X₁, e₁, W₁, st⟩ := stZ X hcx.1 hcx.2.1 rfl A i1 (g := mkF mid pc C (List.map (qv ad) (.int w :: .int j :: .ref a :: S'))) rfl rfl hd2
  exact ⟨T₁, h₁, X₁, e₁, W₁, ⟨_, A.same W₁, i2⟩, st⟩
 ·obtain ⟨T₁, h₁, X₁, e₁, W₁, st⟩ := stB X hcx.1 hcx.2.1 rfl A i1 (g := mkF mid pc C (List.map (qv ad) (.int w :: .int j :: .ref a :: S'))) rfl rfl hd2
  exact ⟨T₁, h₁, X₁, e₁, W₁, ⟨_, A.same W₁, i2⟩, st⟩
set_option maxHeartbeats 4000000 in
theorem QTri.lastore (Ad : QAd n0 ad) {pc aux : Nat} {L : QLoc} {S : List Value} {σ : QHeap} {st' : QSt} (h : QTri l Z n0 ad m st' v σ') (hc : pCode m pc = some (.lastore, aux)) (hs : qastJ (pc + 1) L S σ = some st') : QTri l Z n0 ad m (pc, L, S, σ) v σ' := by
 have hd : decode (pBytes m) pc = .ok (.lastore, 1) := pDecN hc rfl
 obtain ⟨w, j, a, S', xs, ys, rfl, hx1, b1, hw, rfl⟩ := qastJ_inv hs
 refine QTri.stored Ad (j := j.toNatClampNeg) (w := .long w) hx1 b1 (by rw [(aset_inv hw).2.2]; simp [qsz]) h fun p e R s mid args below meth c T locs cells slots C hcx X hR => ?_
 have hd2 : decode c.code pc = .ok (.lastore, 1) := by rw [hcx.2.2.1]; exact hd
 obtain ⟨cl, A, hsl⟩ := hR.2.2 _ _ hx1
 obtain ⟨i1, i2⟩ := ast_in hsl hw
 obtain ⟨T₁, h₁, X₁, e₁, W₁, st⟩ := stJ X hcx.1 hcx.2.1 rfl A i1 (g := mkF mid pc C (List.map (qv ad) (.long w :: .int j :: .ref a :: S'))) rfl rfl hd2
 exact ⟨T₁, h₁, X₁, e₁, W₁, ⟨_, A.same W₁, i2⟩, st⟩
set_option maxHeartbeats 4000000 in
theorem QTri.alen {pc aux : Nat} {L : QLoc} {S : List Value} {σ : QHeap} {st' : QSt} (h : QTri l Z n0 ad m st' v σ') (hc : pCode m pc = some (.arraylength, aux)) (hs : qlen (pc + 1) L S σ = some st') : QTri l Z n0 ad m (pc, L, S, σ) v σ' := by
 have hd : decode (pBytes m) pc = .ok (.arraylength, 1) := pDecN hc rfl
 obtain ⟨a, S', n, rfl, hx1, rfl⟩ := qlen_inv hs
 refine QTri.stack h fun p e R s mid args below meth c T locs cells slots C target hx hZ hby hown X hR hL k => ?_
 have hd2 : decode c.code pc = .ok (.arraylength, 1) := by rw [hby]; exact hd
 rcases hx1 with ⟨ty, xs, hx1, rfl⟩ | ⟨xs, hx1, rfl⟩
 ·obtain ⟨cl, A, hsl⟩ := hR.2.2 _ _ hx1
  have e1 : cl.slots.size = xs.length := by rw [hsl]; simp
  rw [← e1] at k
  exact X.arraylength hx A.1 (State.isArrayOf_alike hZ.alike A.2.1) (g := mkF mid pc C (List.map (qv ad) (.ref a :: S'))) rfl rfl hd2 _ k
 ·obtain ⟨cl, A, hsl⟩ := hR.2.2 _ _ hx1
  have e1 : cl.slots.size = xs.length := by rw [hsl]; simp
  rw [← e1] at k
  exact X.arraylength hx A.1 (State.isArrayOf_alike hZ.alike A.2.1) (g := mkF mid pc C (List.map (qv ad) (.ref a :: S'))) rfl rfl hd2 _ k
set_option maxHeartbeats 4000000 in
theorem QTri.newObj (Ad : QAd n0 ad) (W : QW Z a0) {pc idx aux : Nat} {L : QLoc} {S : List Value} {σ : QHeap} (h : QTri l Z n0 ad m (pc + 3, L, .ref σ.length :: S, σ ++ [.inl cDef]) v σ') (hc : pCode m pc = some (.new idx, aux)) : QTri l Z n0 ad m (pc, L, S, σ) v σ' := by
 have hd : decode (pBytes m) pc = .ok (.new idx, 3) := pDecN hc rfl
 have hm := mem_of_contains (show lkN.contains (pK m, idx) = true from pRest hc)
 refine QTri.gen h (by simp) (by simp [qhs_app]) fun p e R s mid args below meth c T locs cells slots C hcx X hR hF hL hC hn hc1 hsl => ?_
 obtain ⟨hx, hZ, hby, hml, hret, hown, hnm, hfr, hlo⟩ := hcx
 have hd2 : decode c.code pc = .ok (.new idx, 3) := by rw [hby]; exact hd
 simp only [List.length_append, List.length_singleton, Nat.add_sub_cancel_left, qgrow, qsz] at hc1 hsl ⊢
 obtain ⟨T₁, h₁, X₁, e₁, E₁, A₁, D₁, -, st⟩ := newO X hx hZ hown (index := idx) (qw_nw W (pK m, idx) hm) ((qw_inst W)) ((qw_init W)) rfl (g := mkF mid pc C (S.map (qv ad))) rfl hd2 hc1 hsl
 have hsz : h₁.size = T.heap.size + 1 := by
  have q1 := X₁.heapSize
  have q2 : T.heap.size < h₁.size := A₁.lt
  have q3 : T.heap.size = n0 + (σ.length - k0) := hR.2.1
  rw [e₁] at q1
  have : n0 + (σ.length - k0) = s.heap.size + cells := hn
  omega
 refine ⟨T₁, locs, C, X₁, ?_, hF, hL, hC, fun target q => ?_⟩
 ·rw [e₁]
  refine QRep.push hR Ad E₁ hsz ⟨A₁, cDefL, fun k u hk hu => ?_⟩
  rw [cDefs k hk] at hu
  cases hu
  have e3 : qv ad (defaultValue (fTy k)) = defaultValue (fTy k) := by
   cases hq : defaultValue (fTy k) with
   | ref a => exact absurd hq (fDef k hk a)
   | _ => rfl
  rw [e3]
  exact D₁ (laid_of W hk) (fPrs k hk)
 ·refine st _ ?_
  have e2 : ad σ.length = T.heap.size := by rw [Ad.1 _ hR.1]; exact hR.2.1.symm
  simp only [List.map_cons, qv, e2] at q
  exact q
set_option maxHeartbeats 8000000 in
theorem QTri.step (Ad : QAd n0 ad) (W : QW Z a0) {st st' : QSt} (h : QTri l Z n0 ad m st' v σ') (hs : qstep m st = some st') : QTri l Z n0 ad m st v σ' := by
 obtain ⟨pc, L, S, σ⟩ := st
 unfold qstep at hs
 dsimp only at hs
 split at hs
 rotate_left
 ·cases hs
 rename_i i aux hc
 have hd := pDecN hc rfl
 have hr := pRest hc
 unfold qexec at hs
 split at hs
 ·-- aload_n
  obtain ⟨w, h1, h2, rfl⟩ := qload_inv hs
  obtain ⟨a, rfl⟩ := isR_inv h2
  exact QTri.stack h fun p e R s mid args below meth c T locs cells slots C target hx hZ hby hown X hR hL k => XS.aloadN X.here hx rfl (hb hby hd) (hL.2.1 _ _ h1) rfl k
 ·obtain ⟨w, h1, h2, rfl⟩ := qload_inv hs
  obtain ⟨a, rfl⟩ := isR_inv h2
  exact QTri.stack h fun p e R s mid args below meth c T locs cells slots C target hx hZ hby hown X hR hL k => XS.aload X.here hx rfl (hb hby hd) (hL.2.1 _ _ h1) rfl k
 ·obtain ⟨w, h1, h2, rfl⟩ := qload_inv hs
  obtain ⟨a, rfl⟩ := isI_inv h2
  exact QTri.stack h fun p e R s mid args below meth c T locs cells slots C target hx hZ hby hown X hR hL k => XS.iloadN X.here hx rfl (hb hby hd) (hL.2.1 _ _ h1) k
 ·obtain ⟨w, h1, h2, rfl⟩ := qload_inv hs
  obtain ⟨a, rfl⟩ := isI_inv h2
  exact QTri.stack h fun p e R s mid args below meth c T locs cells slots C target hx hZ hby hown X hR hL k => XS.iload X.here hx rfl (hb hby hd) (hL.2.1 _ _ h1) k
 ·obtain ⟨w, h1, h2, rfl⟩ := qload_inv hs
  obtain ⟨a, rfl⟩ := isJ_inv h2
  exact QTri.stack h fun p e R s mid args below meth c T locs cells slots C target hx hZ hby hown X hR hL k => XT.lloadN X.here hx rfl (hb hby hd) (hL.2.1 _ _ h1) k
 ·obtain ⟨w, h1, h2, rfl⟩ := qload_inv hs
  obtain ⟨a, rfl⟩ := isJ_inv h2
  exact QTri.stack h fun p e R s mid args below meth c T locs cells slots C target hx hZ hby hown X hR hL k => XT.lload X.here hx rfl (hb hby hd) (hL.2.1 _ _ h1) k
 ·cases hs -- iconst
  exact QTri.stack h fun p e R s mid args below meth c T locs cells slots C target hx hZ hby hown X hR hL k => XS.iconst X.here hx rfl (hb hby hd) k
 ·cases hs
  exact QTri.stack h fun p e R s mid args below meth c T locs cells slots C target hx hZ hby hown X hR hL k => XS.bipush X.here hx rfl (hb hby hd) k
 ·cases hs
  exact QTri.stack h fun p e R s mid args below meth c T locs cells slots C target hx hZ hby hown X hR hL k => XS.sipush X.here hx rfl (hb hby hd) k
 ·cases hs
  exact QTri.stack h fun p e R s mid args below meth c T locs cells slots C target hx hZ hby hown X hR hL k => XT.lconst X.here hx rfl (hb hby hd) k
 ·-- ldc
  unfold qldc at hs
  split at hs
  ·rename_i w hw
   cases hs
   obtain ⟨x, hx1, hx2⟩ := qw_cI W (pK m, _, aux) (mem_of_contains (show lkC.contains (pK m, _, aux) = true from hr))
   rw [show vget cK aux = some w from hw] at hx1
   cases hx1
   exact QTri.stack h fun p e R s mid args below meth c T locs cells slots C target hx hZ hby hown X hR hL k => X.ldcI hx hown (mv hZ hx2) rfl (hb hby hd) k
  ·cases hs
 ·unfold qldc at hs
  split at hs
  ·rename_i w hw
   cases hs
   obtain ⟨x, hx1, hx2⟩ := qw_cJ W (pK m, _, aux) (mem_of_contains (show lkD.contains (pK m, _, aux) = true from hr))
   rw [show vget cK aux = some w from hw] at hx1
   cases hx1
   exact QTri.stack h fun p e R s mid args below meth c T locs cells slots C target hx hZ hby hown X hR hL k => X.ldc2J hx hown (mv hZ hx2) rfl (hb hby hd) k
  ·cases hs
 ·-- istore_n
  obtain ⟨w, S', L', rfl, h2, h3, rfl⟩ := qstore_inv hs
  obtain ⟨a, rfl⟩ := isI_inv h2
  exact QTri.frame h fun p e R s mid args below meth c T locs cells slots C hcx X hR hL hC => by
   obtain ⟨D, d1, d2, d3⟩ := store_ok hL h3
   exact ⟨D, d2, d3.trans hC, fun target k => XS.istoreN X.here hcx.1 rfl (hb hcx.2.2.1 hd) rfl d1 k⟩
 ·obtain ⟨w, S', L', rfl, h2, h3, rfl⟩ := qstore_inv hs
  obtain ⟨a, rfl⟩ := isI_inv h2
  exact QTri.frame h fun p e R s mid args below meth c T locs cells slots C hcx X hR hL hC => by
   obtain ⟨D, d1, d2, d3⟩ := store_ok hL h3
   exact ⟨D, d2, d3.trans hC, fun target k => XS.istore X.here hcx.1 rfl (hb hcx.2.2.1 hd) rfl d1 k⟩
 ·obtain ⟨w, S', L', rfl, h2, h3, rfl⟩ := qstore_inv hs
  obtain ⟨a, rfl⟩ := isJ_inv h2
  exact QTri.frame h fun p e R s mid args below meth c T locs cells slots C hcx X hR hL hC => by
   obtain ⟨D, d1, d2, d3⟩ := store_ok hL h3
   exact ⟨D, d2, d3.trans hC, fun target k => XT.lstoreN X.here hcx.1 rfl (hb hcx.2.2.1 hd) rfl d1 k⟩
 ·obtain ⟨w, S', L', rfl, h2, h3, rfl⟩ := qstore_inv hs
  obtain ⟨a, rfl⟩ := isJ_inv h2
  exact QTri.frame h fun p e R s mid args below meth c T locs cells slots C hcx X hR hL hC => by
   obtain ⟨D, d1, d2, d3⟩ := store_ok hL h3
   exact ⟨D, d2, d3.trans hC, fun target k => XT.lstore X.here hcx.1 rfl (hb hcx.2.2.1 hd) rfl d1 k⟩
 ·obtain ⟨w, S', L', rfl, h2, h3, rfl⟩ := qstore_inv hs
  obtain ⟨a, rfl⟩ := isR_inv h2
  exact QTri.frame h fun p e R s mid args below meth c T locs cells slots C hcx X hR hL hC => by
   obtain ⟨D, d1, d2, d3⟩ := store_ok hL h3
   exact ⟨D, d2, d3.trans hC, fun target k => XS.astoreN X.here hcx.1 rfl (hb hcx.2.2.1 hd) rfl rfl d1 k⟩
 ·obtain ⟨w, S', L', rfl, h2, h3, rfl⟩ := qstore_inv hs
  obtain ⟨a, rfl⟩ := isR_inv h2
  exact QTri.frame h fun p e R s mid args below meth c T locs cells slots C hcx X hR hL hC => by
   obtain ⟨D, d1, d2, d3⟩ := store_ok hL h3
   exact ⟨D, d2, d3.trans hC, fun target k => XS.astore X.here hcx.1 rfl (hb hcx.2.2.1 hd) rfl rfl d1 k⟩
 ·-- iinc
  unfold qinc at hs
  split at hs
  ·rename_i x hx1
   split at hs
   ·rename_i L' hL'
    cases hs
    exact QTri.frame h fun p e R s mid args below meth c T locs cells slots C hcx X hR hL hC => by
     obtain ⟨D, d1, d2, d3⟩ := store_ok hL hL'
     exact ⟨D, d2, d3.trans hC, fun target k => XS.iinc X.here hcx.1 rfl (hb hcx.2.2.1 hd) (hL.2.1 _ _ hx1) d1 k⟩
   ·cases hs
  ·cases hs
 ·obtain ⟨x, y, S', rfl, rfl⟩ := qbin_inv hs -- iadd
  exact QTri.stack h fun p e R s mid args below meth c T locs cells slots C target hx hZ hby hown X hR hL k => XS.iadd X.here hx rfl (hb hby hd) rfl k
 ·obtain ⟨x, y, S', rfl, rfl⟩ := qbin_inv hs
  exact QTri.stack h fun p e R s mid args below meth c T locs cells slots C target hx hZ hby hown X hR hL k => XS.isub X.here hx rfl (hb hby hd) rfl k
 ·obtain ⟨x, y, S', rfl, rfl⟩ := qbin_inv hs
  exact QTri.stack h fun p e R s mid args below meth c T locs cells slots C target hx hZ hby hown X hR hL k => XS.imul X.here hx rfl (hb hby hd) rfl k
 ·obtain ⟨x, y, S', rfl, rfl⟩ := qbin_inv hs
  exact QTri.stack h fun p e R s mid args below meth c T locs cells slots C target hx hZ hby hown X hR hL k => XS.iand X.here hx rfl (hb hby hd) rfl k
 ·obtain ⟨x, y, S', rfl, rfl⟩ := qbin_inv hs
  exact QTri.stack h fun p e R s mid args below meth c T locs cells slots C target hx hZ hby hown X hR hL k => XT.ior X.here hx rfl (hb hby hd) rfl k
 ·obtain ⟨x, y, S', rfl, rfl⟩ := qbin_inv hs
  exact QTri.stack h fun p e R s mid args below meth c T locs cells slots C target hx hZ hby hown X hR hL k => XT.ixor X.here hx rfl (hb hby hd) rfl k
 ·obtain ⟨x, y, S', rfl, rfl⟩ := qbin_inv hs
  exact QTri.stack h fun p e R s mid args below meth c T locs cells slots C target hx hZ hby hown X hR hL k => XT.ishl X.here hx rfl (hb hby hd) rfl k
 ·obtain ⟨x, y, S', rfl, rfl⟩ := qbin_inv hs
  exact QTri.stack h fun p e R s mid args below meth c T locs cells slots C target hx hZ hby hown X hR hL k => XT.ishr X.here hx rfl (hb hby hd) rfl k
 ·obtain ⟨x, y, S', rfl, rfl⟩ := qbin_inv hs
  exact QTri.stack h fun p e R s mid args below meth c T locs cells slots C target hx hZ hby hown X hR hL k => XT.iushr X.here hx rfl (hb hby hd) rfl k
 ·obtain ⟨x, y, z, S', rfl, hz, rfl⟩ := qbino_inv hs -- idiv
  unfold qdiv at hz
  split at hz
  ·cases hz
  ·rename_i hy
   cases hz
   exact QTri.stack h fun p e R s mid args below meth c T locs cells slots C target hx hZ hby hown X hR hL k => XS.idiv X.here hx rfl (hb hby hd) rfl hy k
 ·obtain ⟨x, y, z, S', rfl, hz, rfl⟩ := qbino_inv hs
  unfold qrem at hz
  split at hz
  ·cases hz
  ·rename_i hy
   cases hz
   exact QTri.stack h fun p e R s mid args below meth c T locs cells slots C target hx hZ hby hown X hR hL k => iremM X hx rfl (hb hby hd) rfl hy k
 ·obtain ⟨x, S', rfl, rfl⟩ := quni_inv hs -- ineg
  exact QTri.stack h fun p e R s mid args below meth c T locs cells slots C target hx hZ hby hown X hR hL k => XS.ineg X.here hx rfl (hb hby hd) rfl k
 ·obtain ⟨x, S', rfl, rfl⟩ := quni_inv hs
  exact QTri.stack h fun p e R s mid args below meth c T locs cells slots C target hx hZ hby hown X hR hL k => XT.i2l X.here hx rfl (hb hby hd) rfl k
 ·obtain ⟨x, S', rfl, rfl⟩ := quni_inv hs
  exact QTri.stack h fun p e R s mid args below meth c T locs cells slots C target hx hZ hby hown X hR hL k => XT.i2b X.here hx rfl (hb hby hd) rfl k
 ·obtain ⟨x, S', rfl, rfl⟩ := quniJ_inv hs
  exact QTri.stack h fun p e R s mid args below meth c T locs cells slots C target hx hZ hby hown X hR hL k => XT.l2i X.here hx rfl (hb hby hd) rfl k
 ·obtain ⟨x, S', rfl, rfl⟩ := quniJ_inv hs
  exact QTri.stack h fun p e R s mid args below meth c T locs cells slots C target hx hZ hby hown X hR hL k => XT.lneg X.here hx rfl (hb hby hd) rfl k
 ·obtain ⟨x, y, S', rfl, rfl⟩ := qbinJ_inv hs
  exact QTri.stack h fun p e R s mid args below meth c T locs cells slots C target hx hZ hby hown X hR hL k => XT.ladd X.here hx rfl (hb hby hd) rfl k
 ·obtain ⟨x, y, S', rfl, rfl⟩ := qbinJ_inv hs
  exact QTri.stack h fun p e R s mid args below meth c T locs cells slots C target hx hZ hby hown X hR hL k => XT.lsub X.here hx rfl (hb hby hd) rfl k
 ·obtain ⟨x, y, S', rfl, rfl⟩ := qbinJ_inv hs
  exact QTri.stack h fun p e R s mid args below meth c T locs cells slots C target hx hZ hby hown X hR hL k => XT.lmul X.here hx rfl (hb hby hd) rfl k
 ·obtain ⟨x, y, S', rfl, rfl⟩ := qbinJ_inv hs
  exact QTri.stack h fun p e R s mid args below meth c T locs cells slots C target hx hZ hby hown X hR hL k => XT.land X.here hx rfl (hb hby hd) rfl k
 ·obtain ⟨x, y, S', rfl, rfl⟩ := qbinJ_inv hs
  exact QTri.stack h fun p e R s mid args below meth c T locs cells slots C target hx hZ hby hown X hR hL k => XT.lor X.here hx rfl (hb hby hd) rfl k
 ·obtain ⟨x, y, S', rfl, rfl⟩ := qbinJ_inv hs
  exact QTri.stack h fun p e R s mid args below meth c T locs cells slots C target hx hZ hby hown X hR hL k => XT.lxor X.here hx rfl (hb hby hd) rfl k
 ·obtain ⟨x, y, S', rfl, rfl⟩ := qshJ_inv hs
  exact QTri.stack h fun p e R s mid args below meth c T locs cells slots C target hx hZ hby hown X hR hL k => XT.lshl X.here hx rfl (hb hby hd) rfl k
 ·obtain ⟨x, y, S', rfl, rfl⟩ := qshJ_inv hs
  exact QTri.stack h fun p e R s mid args below meth c T locs cells slots C target hx hZ hby hown X hR hL k => XT.lshr X.here hx rfl (hb hby hd) rfl k
 ·obtain ⟨x, y, S', rfl, rfl⟩ := qshJ_inv hs
  exact QTri.stack h fun p e R s mid args below meth c T locs cells slots C target hx hZ hby hown X hR hL k => XT.lushr X.here hx rfl (hb hby hd) rfl k
 ·split at hs -- lcmp
  ·cases hs
   exact QTri.stack h fun p e R s mid args below meth c T locs cells slots C target hx hZ hby hown X hR hL k => XT.lcmp X.here hx rfl (hb hby hd) rfl k
  ·cases hs
 ·cases hs -- goto
  obtain ⟨t1, t2⟩ := qtgt_spec hr
  exact QTri.stack h fun p e R s mid args below meth c T locs cells slots C target hx hZ hby hown X hR hL k => XS.goto X.here hx rfl rfl (hb hby hd) t1 t2 k
 ·obtain ⟨x, S', rfl, rfl⟩ := qif_inv hs
  obtain ⟨t1, t2⟩ := qtgt_spec hr
  cases hh : ifCond.holds _ x with
  | true => rw [hh] at h; exact QTri.stack h fun p e R s mid args below meth c T locs cells slots C target hx hZ hby hown X hR hL k => XS.ifYes X.here hx rfl rfl (hb hby hd) rfl hh t1 t2 k
  | false => rw [hh] at h; exact QTri.stack h fun p e R s mid args below meth c T locs cells slots C target hx hZ hby hown X hR hL k => XS.ifNo X.here hx rfl (hb hby hd) rfl hh k
 ·obtain ⟨x, y, S', rfl, rfl⟩ := qicmp_inv hs
  obtain ⟨t1, t2⟩ := qtgt_spec hr
  cases hh : if_icmp.holds _ x y with
  | true => rw [hh] at h; exact QTri.stack h fun p e R s mid args below meth c T locs cells slots C target hx hZ hby hown X hR hL k => XS.icmpYes X.here hx rfl rfl (hb hby hd) rfl hh t1 t2 k
  | false => rw [hh] at h; exact QTri.stack h fun p e R s mid args below meth c T locs cells slots C target hx hZ hby hown X hR hL k => XS.icmpNo X.here hx rfl (hb hby hd) rfl hh k
 ·unfold qdup at hs
  split at hs
  ·cases hs
   exact QTri.stack h fun p e R s mid args below meth c T locs cells slots C target hx hZ hby hown X hR hL k => XS.dup X.here hx rfl (hb hby hd) rfl rfl k
  ·cases hs
   exact QTri.stack h fun p e R s mid args below meth c T locs cells slots C target hx hZ hby hown X hR hL k => XS.dup X.here hx rfl (hb hby hd) rfl rfl k
  ·cases hs
 ·unfold qdup2 at hs
  split at hs
  ·cases hs
   exact QTri.stack h fun p e R s mid args below meth c T locs cells slots C target hx hZ hby hown X hR hL k => XT.dup2 X.here hx rfl (hb hby hd) rfl rfl rfl k
  ·cases hs
   exact QTri.stack h fun p e R s mid args below meth c T locs cells slots C target hx hZ hby hown X hR hL k => XT.dup2 X.here hx rfl (hb hby hd) rfl rfl rfl k
  ·cases hs
   exact QTri.stack h fun p e R s mid args below meth c T locs cells slots C target hx hZ hby hown X hR hL k => XT.dup2L X.here hx rfl (hb hby hd) rfl k
  ·cases hs
 ·unfold qpop at hs
  split at hs
  ·cases hs
   exact QTri.stack h fun p e R s mid args below meth c T locs cells slots C target hx hZ hby hown X hR hL k => XT.pop X.here hx rfl (hb hby hd) rfl rfl k
  ·cases hs
   exact QTri.stack h fun p e R s mid args below meth c T locs cells slots C target hx hZ hby hown X hR hL k => XT.pop X.here hx rfl (hb hby hd) rfl rfl k
  ·cases hs
 ·exact QTri.getfield W h hc hs
 ·exact QTri.putfield Ad W h hc hs
 ·exact QTri.iaload h hc hs
 ·exact QTri.baload h hc hs
 ·exact QTri.laload h hc hs
 ·exact QTri.iastore Ad h hc hs
 ·exact QTri.bastore Ad h hc hs
 ·exact QTri.lastore Ad h hc hs
 ·exact QTri.alen h hc hs
 ·-- newarray
  unfold qnewA at hs
  split at hs
  ·split at hs
   ·obtain ⟨k, hk, hs⟩ := Option.bind_eq_some_iff.mp hs
    cases hs
    exact QTri.newArr (c := .inr (.inl (.int, List.replicate k 0))) Ad W hk hc (by simp [qsz]) (fun h' a cA A => ⟨_, A, by simp [newA, (qnew_inv hk).2.1]; exact Or.inr rfl⟩) h
   ·obtain ⟨k, hk, hs⟩ := Option.bind_eq_some_iff.mp hs
    cases hs
    exact QTri.newArr (c := .inr (.inl (.boolean, List.replicate k 0))) Ad W hk hc (by simp [qsz]) (fun h' a cA A => ⟨_, A, by simp [newA, (qnew_inv hk).2.1]; exact Or.inr rfl⟩) h
   ·obtain ⟨k, hk, hs⟩ := Option.bind_eq_some_iff.mp hs
    cases hs
    exact QTri.newArr (c := .inr (.inl (.byte, List.replicate k 0))) Ad W hk hc (by simp [qsz]) (fun h' a cA A => ⟨_, A, by simp [newA, (qnew_inv hk).2.1]; exact Or.inr rfl⟩) h
   ·obtain ⟨k, hk, hs⟩ := Option.bind_eq_some_iff.mp hs
    cases hs
    exact QTri.newArr (c := .inr (.inr (List.replicate k 0))) Ad W hk hc (by simp [qsz]) (fun h' a cA A => ⟨_, A, by simp [newA, (qnew_inv hk).2.1]; exact Or.inr rfl⟩) h
   ·cases hs
  ·cases hs
 ·cases hs; exact QTri.newObj Ad W h hc
 ·cases hs
theorem QTri.steps (Ad : QAd n0 ad) (W : QW Z a0) : ∀ (n : Nat) {st st' : QSt}, qsteps m n st = some st' → QTri l Z n0 ad m st' v σ' → QTri l Z n0 ad m st v σ'
 | 0, st, st', h, k => by cases h; exact k
 | n + 1, st, st', h, k => by
  simp only [qsteps] at h
  split at h
  ·rename_i st₁ h1
   exact QTri.step Ad W (QTri.steps Ad W n h k) h1
  ·cases h
def lmask : List Bool → QLoc → QLoc
 | b :: t, x :: u => (bif b then x else none) :: lmask t u
 | _, L => L.map fun _ => none
theorem lmask_len : ∀ (b : List Bool) (L : QLoc), (lmask b L).length = L.length
 | [], L => by simp [lmask]
 | _ :: _, [] => by simp [lmask]
 | _ :: t, _ :: u => by simp [lmask, lmask_len t u]
theorem lmask_get : ∀ (b : List Bool) (L : QLoc) (k : Nat) (v : Value), lget (lmask b L) k = some v → lget L k = some v
 | [], L, k, v, h => by
  simp only [lmask, lget_eq, List.getElem?_map] at h
  cases hq : L[k]? <;> simp [hq] at h
 | _ :: _, [], k, v, h => by simp [lmask, lget] at h
 | b :: t, x :: u, 0, v, h => by
  simp only [lmask, lget] at h ⊢
  cases b
  ·cases h
  ·exact h
 | b :: t, x :: u, k + 1, v, h => by
  simp only [lmask, lget] at h ⊢
  exact lmask_get t u k v h
theorem QTri.mask {pc : Nat} {L : QLoc} {S : List Value} {σ : QHeap} (b : List Bool) (h : QTri l Z n0 ad m (pc, lmask b L, S, σ) v σ') : QTri l Z n0 ad m (pc, L, S, σ) v σ' :=
 QTri.frame h fun p e R s mid args below meth c T locs cells slots C hcx X hR hL hC => ⟨C, ⟨by rw [lmask_len]; exact hL.1, fun k u hk => hL.2.1 k u (lmask_get b L k u hk), hL.2.2⟩, hC, fun target k => k⟩
theorem QTri.ret0 {pc aux : Nat} {L : QLoc} {σ : QHeap} (hc : pCode m pc = some (.return_, aux)) (hr : pRet m = none) : QTri l Z n0 ad m (pc, L, [], σ) none σ :=
 have hd : decode (pBytes m) pc = .ok (.return_, 1) := pDecN hc rfl
 ⟨Nat.le_refl _, Nat.le_refl _, fun p e R s mid args below meth c T locs cells slots C hcx X hR hF hL hC hn hc1 hsl => ⟨T, locs, by simpa using X, hR, hF, fun fs hf => X.returnOut hcx.1 (hcx.2.2.2.2.1.trans hr) (hb hcx.2.2.1 hd) hf⟩⟩
theorem QTri.retI {pc aux : Nat} {L : QLoc} {S : List Value} {σ : QHeap} {x : Int32} (hc : pCode m pc = some (.ireturn, aux)) (hr : pRet m = some .int) : QTri l Z n0 ad m (pc, L, .int x :: S, σ) (some (.int x)) σ :=
 have hd : decode (pBytes m) pc = .ok (.ireturn, 1) := pDecN hc rfl
 ⟨Nat.le_refl _, Nat.le_refl _, fun p e R s mid args below meth c T locs cells slots C hcx X hR hF hL hC hn hc1 hsl => ⟨T, locs, by simpa using X, hR, hF, fun fs hf => Jvm.RoadKit.retI X hcx.1 (hcx.2.2.2.2.1.trans hr) (hb hcx.2.2.1 hd) hf⟩⟩
theorem QTri.retZ {pc aux : Nat} {L : QLoc} {S : List Value} {σ : QHeap} {x : Int32} (hc : pCode m pc = some (.ireturn, aux)) (hr : pRet m = some .boolean) : QTri l Z n0 ad m (pc, L, .int x :: S, σ) (some (.int (x &&& 1))) σ :=
 have hd : decode (pBytes m) pc = .ok (.ireturn, 1) := pDecN hc rfl
 ⟨Nat.le_refl _, Nat.le_refl _, fun p e R s mid args below meth c T locs cells slots C hcx X hR hF hL hC hn hc1 hsl => ⟨T, locs, by simpa using X, hR, hF, fun fs hf => retN X hcx.1 (t := .boolean) (hcx.2.2.2.2.1.trans hr) (by simp) (hb hcx.2.2.1 hd) hf⟩⟩
theorem QTri.retJ {pc aux : Nat} {L : QLoc} {S : List Value} {σ : QHeap} {x : Int64} (hc : pCode m pc = some (.lreturn, aux)) (hr : pRet m = some .long) : QTri l Z n0 ad m (pc, L, .long x :: S, σ) (some (.long x)) σ :=
 have hd : decode (pBytes m) pc = .ok (.lreturn, 1) := pDecN hc rfl
 ⟨Nat.le_refl _, Nat.le_refl _, fun p e R s mid args below meth c T locs cells slots C hcx X hR hF hL hC hn hc1 hsl => ⟨T, locs, by simpa using X, hR, hF, fun fs hf => retOut X hcx.1 (t := .long) (hcx.2.2.2.2.1.trans hr) rfl (Or.inr (Or.inl ⟨rfl, rfl, _, rfl⟩)) (hb hcx.2.2.1 hd) hf⟩⟩
def LOk (ad : Nat → Addr) (L : QLoc) (C : List Slot) : Prop :=
 L.length = C.length ∧ (∀ k v, lget L k = some v → C[k]? = some (.val (qv ad v))) ∧ (∀ k w, C[k]? = some (.val w) → w.category = 2 → C[k + 1]? = some .second) ∧ ∀ k, C[k]? = some .second → ∃ j w, k = j + 1 ∧ C[j]? = some (.val w) ∧ w.category = 2
theorem LOk.base (ad : Nat → Addr) (n : Nat) : LOk ad (List.replicate n none) (List.replicate n .unset) := by
 refine ⟨by simp, fun k u h => ?_, fun k w h => ?_, fun k h => ?_⟩
 ·rw [lget_eq] at h
  rcases Nat.lt_or_ge k n with q | q
  ·simp [List.getElem?_replicate, q] at h
  ·simp [List.getElem?_eq_none, q] at h
 ·rcases Nat.lt_or_ge k n with q | q
  ·simp [List.getElem?_replicate, q] at h
  ·simp [List.getElem?_eq_none, q] at h
 ·rcases Nat.lt_or_ge k n with q | q
  ·simp [List.getElem?_replicate, q] at h
  ·simp [List.getElem?_eq_none, q] at h
theorem LOk.one {L : QLoc} {C : List Slot} (H : LOk ad L C) {u : Value} (hu : u.category = 1) : LOk ad (some u :: L) (.val (qv ad u) :: C) := by
 obtain ⟨h1, h2, h3, h4⟩ := H
 refine ⟨by simp [h1], fun k w h => ?_, fun k w h hw => ?_, fun k h => ?_⟩
 ·cases k with
  | zero => simp only [lget] at h; cases h; simp
  | succ k => simp only [lget] at h; simpa using h2 k w h
 ·cases k with
  | zero => simp at h; rw [← h, qv_cat, hu] at hw; cases hw
  | succ k => simpa using h3 k w (by simpa using h) hw
 ·cases k with
  | zero => simp at h
  | succ k =>
   obtain ⟨j, w, z1, z2, z3⟩ := h4 k (by simpa using h)
   exact ⟨j + 1, w, by omega, by simpa using z2, z3⟩
theorem LOk.two {L : QLoc} {C : List Slot} (H : LOk ad L C) {u : Value} (hu : u.category = 2) : LOk ad (some u :: none :: L) (.val (qv ad u) :: .second :: C) := by
 obtain ⟨h1, h2, h3, h4⟩ := H
 refine ⟨by simp [h1], fun k w h => ?_, fun k w h hw => ?_, fun k h => ?_⟩
 ·rcases k with _ | _ | k
  ·simp only [lget] at h; cases h; simp
  ·simp [lget] at h
  ·simp only [lget] at h; simpa using h2 k w h
 ·rcases k with _ | _ | k
  ·simp
  ·simp at h
  ·simpa using h3 k w (by simpa using h) hw
 ·rcases k with _ | _ | k
  ·simp at h
  ·exact ⟨0, qv ad u, rfl, by simp, by rw [qv_cat]; exact hu⟩
  ·obtain ⟨j, w, z1, z2, z3⟩ := h4 k (by simpa using h)
   exact ⟨j + 2, w, by omega, by simpa using z2, z3⟩
def slotsOf (u : Value) : List Slot := if u.category = 2 then [.val u, .second] else [.val u]
theorem fold_slots : ∀ (as : List Value) (acc : Array Slot), (as.foldl (fun acc v => if v.category = 2 then (acc.push (.val v)).push .second else acc.push (.val v)) acc).toList = acc.toList ++ as.flatMap slotsOf
 | [], acc => by simp
 | u :: t, acc => by
  rw [List.foldl_cons, fold_slots t]
  by_cases hc : u.category = 2 <;> simp [slotsOf, hc]
theorem slots_len : ∀ (as : List Value), (as.flatMap slotsOf).length = (as.map fun v => v.category).sum
 | [] => rfl
 | u :: t => by
  rw [List.flatMap_cons, List.length_append, slots_len t, List.map_cons, List.sum_cons]
  cases u <;> simp [slotsOf, Value.category]
theorem cats_qv (as : List Value) : ((as.map (qv ad)).map fun v => v.category).sum = (as.map fun v => v.category).sum := by
 rw [List.map_map]
 congr 1
 exact List.map_congr_left fun x _ => qv_cat ad x
theorem entry_list : ∀ (as : List Value) (n : Nat), LOk ad ((as.flatMap fun v => match v with | .long x => [some (.long x), none] | .double x => [some (.double x), none] | v => [some v]) ++ List.replicate n none) ((as.map (qv ad)).flatMap slotsOf ++ List.replicate n .unset)
 | [], n => by simpa using LOk.base ad n
 | u :: t, n => by
  have ih := entry_list t n
  cases u with
  | long x => exact LOk.two ih rfl
  | double x => exact LOk.two ih rfl
  | int x => exact LOk.one ih rfl
  | float x => exact LOk.one ih rfl
  | null => exact LOk.one ih rfl
  | ref x => exact LOk.one ih rfl
  | retAddr x => exact LOk.one ih rfl
theorem qentry_ok (as : List Value) (mx : Nat) (h : (as.map fun v => v.category).sum ≤ mx) : QLocOk ad (qentry as mx) (argsToLocals (as.map (qv ad)).toArray mx) ∧ (argsToLocals (as.map (qv ad)).toArray mx).size = mx := by
 have e : (argsToLocals (as.map (qv ad)).toArray mx).toList = (as.map (qv ad)).flatMap slotsOf ++ List.replicate (mx - (as.map fun v => v.category).sum) .unset := by
  unfold argsToLocals
  have q := fold_slots (as.map (qv ad)) #[]
  simp only [List.foldl_toArray', Array.toList_append, Array.toList_replicate]
  have q2 : ((as.map (qv ad)).foldl (fun (acc : Array Slot) (v : Value) => if v.category = 2 then (acc.push (.val v)).push .second else acc.push (.val v)) #[]).size = (as.map fun v => v.category).sum := by
   rw [← Array.length_toList, q]
   simp only [List.nil_append]
   rw [slots_len, cats_qv]
  rw [q, q2]
  simp
 have H := entry_list (ad := ad) as (mx - (as.map fun v => v.category).sum)
 rw [← e] at H
 obtain ⟨h1, h2, h3, h4⟩ := H
 have hs : (argsToLocals (as.map (qv ad)).toArray mx).size = mx := by
  rw [← Array.length_toList, e, List.length_append, slots_len, cats_qv, List.length_replicate]
  omega
 refine ⟨⟨h1.trans Array.length_toList, fun k u hk => ?_, fun k w hk hw => ?_, fun k hk => ?_⟩, hs⟩
 ·have := h2 k u hk; rwa [Array.getElem?_toList] at this
 ·have := h3 k w (by rw [Array.getElem?_toList]; exact hk) hw; rwa [Array.getElem?_toList] at this
 ·obtain ⟨j, w, z1, z2, z3⟩ := h4 k (by rw [Array.getElem?_toList]; exact hk)
  exact ⟨j, w, z1, by rwa [Array.getElem?_toList] at z2, z3⟩
set_option maxHeartbeats 4000000 in
theorem QTri.met {k : Nat} {as : List Value} {σ σ₁ : QHeap} {w : Option Value} {h0 : Heap} (hk : k < pN) (h : QTri l Z n0 ad k (0, qentry as (pMaxL k), [], σ) w σ₁) (hR : QRep Z n0 ad h0 σ) (hlen : (as.map fun v => v.category).sum ≤ pMaxL k) (hret : pRet k = none → w = none) (ws : List Jvm.Cond) {rm : Room}
  (r1 : pFr k ≤ rm.frames) (r2 : pLo k ≤ rm.locals) (r3 : σ₁.length - σ.length ≤ rm.cells) (r4 : qhs σ₁ - qhs σ ≤ rm.slots) :
  MetFree l (pName k) (head1 (Jvm.Cond.code (pName k) (pBytes k) (pMaxL k) (pRet k) :: ws) rm) (fun a U => a = (as.map (qv ad)).toArray ∧ Z.Warmed39 U.vm ∧ U.heap = h0) (fun _ _ _ _ _ => True)
   (fun _ U o U' => ∃ v L, o = .returned v ∧ (v = w.map (qv ad) ∧ QRep Z n0 ad U'.heap σ₁ ∧ Fr n0 L) ∧ FrameEnd U o U' L (σ₁.length - σ.length) (qhs σ₁ - qhs σ)) := by
 refine MetFree.of_bodySF (plainFor_of_name (kPlain _ (pKlt k hk))) hisR ?_
 intro p e s mid args below meth c s₁ Bd hml0 hP hK
 obtain ⟨rfl, hZ, hh⟩ := hP
 have e0 : s₁.heap = h0 := by rw [← hh, Bd.state]; rfl
 obtain ⟨hl1, hl2⟩ := qentry_ok (ad := ad) as (pMaxL k) hlen
 have hX : Stand p l e rm s mid (as.map (qv ad)).toArray below meth c s₁ [] 0 0 := Stand.of_body Bd
 obtain ⟨T', locs', X', R', F', S'⟩ := h.2.2 p e rm s mid _ below meth c s₁ [] 0 0 _ ⟨Bd.exec, hZ, Bd.bytes, hml0, Bd.returns, findClass_of_methodNamed Bd.named, (name_of_methodNamed Bd.named Bd.method).1, r1, r2⟩ hX (by rw [e0]; exact hR) (Fr.nil _) hl1 (hl2.trans hml0.symm) (by rw [hh, Nat.add_zero]; exact hR.2.1.symm) (by rw [Nat.zero_add]; exact r3) (by rw [Nat.zero_add]; exact r4)
 obtain ⟨fs, hr, hrun, hended, hW, hsame⟩ := X'.leave (v := w.map (qv ad)) (fun q => by rw [hret (Bd.returns.symm.trans q)]; rfl)
 refine ⟨_, _, S' fs hr, hrun, hended, _, _, rfl, ⟨rfl, R', F'⟩, ⟨_, rfl⟩, hW, ?_⟩
 simp only [Nat.zero_add] at hsame
 exact hsame
theorem QTri.room {k : Nat} {σ σ₁ : QHeap} {rest : List Value} {R : Room} (hroom : (Nat.ble (pFr k + 1) (pFr m) && Nat.ble ((rest.map fun v => v.category).sum + (pMaxL k + 11) + pLo k) (pLo m)) = true) (hfr : pFr m ≤ R.frames) (hlo : pLo m ≤ R.locals) :
  pFr k + 1 ≤ R.frames ∧ (rest.map fun v => v.category).sum + (pMaxL k + 11) + pLo k ≤ R.locals := by
 obtain ⟨q1, q2⟩ := Bool.and_eq_true_iff.mp hroom
 exact ⟨Nat.le_trans (Nat.le_of_ble_eq_true q1) hfr, Nat.le_trans (Nat.le_of_ble_eq_true q2) hlo⟩
theorem sig_len {k : Nat} (hk : k < pN) {as : List Value} (hna : as.length = pNA k) : ∀ sig, parseMethodDescriptor (pName k).desc = some sig → (as.map (qv ad)).length = sig.parameters.length := fun sig hs => by
 have q := pSig k hk
 rw [show parseMethodDescriptor (pDs k) = some sig from hs] at q
 simp at q
 simp [hna, q]
theorem ret_map (w : Option Value) (rest : List Value) : (w.toList ++ rest).map (qv ad) = (w.map (qv ad)).toList ++ rest.map (qv ad) := by cases w <;> simp
theorem QTri.after {as0 : List Value} {pc : Nat} {L : QLoc} {S rest : List Value} {σ σ₁ : QHeap} {w : Option Value} {k : Nat} (hcal : QTri l Z n0 ad k (0, qentry as0 (pMaxL k), [], σ) w σ₁) (h : QTri l Z n0 ad m (pc + 3, L, w.toList ++ rest, σ₁) v σ')
  (hs : ∀ (p : Program) (e : Env) (R : Room) (s : State) (mid : MethodId) (args : Array Value) (below : List Frame) (meth : Method) (c : Code) (T : State) (locs : List Loc) (cells slots : Nat) (C : Array Slot),
   QCx Z p R s mid meth c m → Stand p l e R s mid args below meth c T locs cells slots → QRep Z n0 ad T.heap σ → C.size = c.maxLocals → cells + (σ₁.length - σ.length) ≤ R.cells → slots + (qhs σ₁ - qhs σ) ≤ R.slots →
   ∃ T₁ Lc, Stand p l e R s mid args below meth c T₁ (locs ++ Lc) (cells + (σ₁.length - σ.length)) (slots + (qhs σ₁ - qhs σ)) ∧ QRep Z n0 ad T₁.heap σ₁ ∧ Fr n0 Lc ∧
    ∀ target, Steps p.tables e below (T₁.setTop (mkF mid (pc + 3) C ((w.map (qv ad)).toList ++ rest.map (qv ad)))) target → Steps p.tables e below (T.setTop (mkF mid pc C (S.map (qv ad)))) target) :
  QTri l Z n0 ad m (pc, L, S, σ) v σ' := by
 refine QTri.gen h hcal.1 hcal.2.1 fun p e R s mid args below meth c T locs cells slots C hcx X hR hF hL hC hn hc1 hsl => ?_
 obtain ⟨T₁, Lc, X₁, R₁, F₁, st⟩ := hs p e R s mid args below meth c T locs cells slots C hcx X hR hC hc1 hsl
 refine ⟨T₁, locs ++ Lc, C, X₁, R₁, hF.app F₁, hL, hC, fun target q => st target ?_⟩
 rw [← ret_map]
 exact q
set_option maxHeartbeats 4000000 in
theorem QTri.callV (W : QW Z a0) {pc idx k a : Nat} {L : QLoc} {S as rest vs : List Value} {σ σ₁ : QHeap} {w : Option Value} (hc : pCode m pc = some (.invokevirtual idx, k)) (hm : (lkV.contains (pK m, idx, k) && mV.contains k) = true) (hcell : hget σ a = some (.inl vs)) (hS : S = as.reverse ++ .ref a :: rest)
  (hna : as.length = pNA k) (hlen : Nat.ble (((Value.ref a :: as).map fun v => v.category).sum) (pMaxL k) = true) (hroom : (Nat.ble (pFr k + 1) (pFr m) && Nat.ble ((rest.map fun v => v.category).sum + (pMaxL k + 11) + pLo k) (pLo m)) = true) (hrb : (w.isNone || (pRet k).isSome) = true)
  (hcal : QTri l Z n0 ad k (0, qentry (.ref a :: as) (pMaxL k), [], σ) w σ₁) (h : QTri l Z n0 ad m (pc + 3, L, w.toList ++ rest, σ₁) v σ') : QTri l Z n0 ad m (pc, L, S, σ) v σ' := by
 have hd : decode (pBytes m) pc = .ok (.invokevirtual idx, 3) := pDecN hc rfl
 subst hS
 obtain ⟨m1, m2⟩ := Bool.and_eq_true_iff.mp hm
 have m1 := mem_of_contains m1
 have m2 := mem_of_contains m2
 have hkA := (mVlt k m2).1
 have hkN := mAlt k hkA
 have hret : pRet k = none → w = none := fun q => by
  rw [q] at hrb
  cases w with
  | none => rfl
  | some w => simp at hrb
 refine QTri.after hcal h fun p e R s mid args below meth c T locs cells slots C hcx X hR hC hc1 hsl => ?_
 obtain ⟨hx, hZ, hby, hml, hret', hown, hnm, hfr, hlo⟩ := hcx
 have hd2 : decode c.code pc = .ok (.invokevirtual idx, 3) := by rw [hby]; exact hd
 obtain ⟨f1, f2⟩ := QTri.room (σ := σ) (σ₁ := σ₁) hroom hfr hlo
 obtain ⟨cq, kq, q1, q2, q3⟩ := isOf hZ rfl (hR.2.2 _ _ hcell).1
 obtain ⟨w1, w2, w3⟩ := (qw_vi W) k m2
 obtain ⟨c1, c2⟩ := (qw_cod W) k hkA
 obtain ⟨_, _, ⟨T₁, L₁, k₁, n₁⟩, -, X₁, ⟨Lc, ⟨rfl, hR1, hF1⟩, l₁, y₁, z₁⟩, st⟩ := X.virtualBack hx (own := kName (pK m)) (index := idx) (y := pName k) (z := pName k) hown (mvT hZ (qw_ml W (pK m, idx, k) m1)) (mvT hZ w1) (notFace_of_selects (args := #[]) (mvT hZ w2)) (mvT hZ w2) (mvT hZ w3) (pOwn _ (pKlt k hkN))
  (backOf (W := (rest.map fun v => v.category).sum) (rm := ⟨pFr k, σ₁.length - σ.length, qhs σ₁ - qhs σ, pLo k⟩) (Q := fun v h L => v = Option.map (qv ad) w ∧ QRep Z n0 ad h σ₁ ∧ Fr n0 L) (QTri.met hkN hcal hR (Nat.le_of_ble_eq_true hlen) hret [] (Nat.le_refl _) (Nat.le_refl _) (Nat.le_refl _) (Nat.le_refl _)) hZ c1 c2 f1 f2) q1 q3 (g := mkF mid pc C (List.map (qv ad) (as.reverse ++ .ref a :: rest))) rfl hC (Steps.refl _) (argsL := as.map (qv ad)) (rest := rest.map (qv ad)) (sig_len hkN hna) (by simp [qv]) (by show 2 * 0 + _ ≤ _; rw [cats_qv]; omega) hd2 (fun _ _ => ⟨rfl, rfl, hc1, hsl⟩)
 dsimp only [Pt.U, Pt.locs, Pt.cells, Pt.slots] at X₁ l₁ y₁ z₁ st hR1
 subst l₁ y₁ z₁
 exact ⟨T₁, Lc, X₁, hR1, hF1, fun target q => st.trans q⟩
set_option maxHeartbeats 4000000 in
theorem QTri.callI (W : QW Z a0) {pc idx k a : Nat} {L : QLoc} {S as rest : List Value} {σ σ₁ : QHeap} (hc : pCode m pc = some (.invokespecial idx, k)) (hm : (lkV.contains (pK m, idx, k) && mI.contains k) = true) (hS : S = as.reverse ++ .ref a :: rest)
  (hna : as.length = pNA k) (hlen : Nat.ble (((Value.ref a :: as).map fun v => v.category).sum) (pMaxL k) = true) (hroom : (Nat.ble (pFr k + 1) (pFr m) && Nat.ble ((rest.map fun v => v.category).sum + (pMaxL k + 11) + pLo k) (pLo m)) = true)
  (hcal : QTri l Z n0 ad k (0, qentry (.ref a :: as) (pMaxL k), [], σ) none σ₁) (h : QTri l Z n0 ad m (pc + 3, L, rest, σ₁) v σ') : QTri l Z n0 ad m (pc, L, S, σ) v σ' := by
 have hd : decode (pBytes m) pc = .ok (.invokespecial idx, 3) := pDecN hc rfl
 subst hS
 obtain ⟨m1, m2⟩ := Bool.and_eq_true_iff.mp hm
 have m1 := mem_of_contains m1
 have m2 := mem_of_contains m2
 obtain ⟨hkA, -, hin, hrt⟩ := mIlt k m2
 have hkN := mAlt k hkA
 refine QTri.after (w := none) hcal h fun p e R s mid args below meth c T locs cells slots C hcx X hR hC hc1 hsl => ?_
 obtain ⟨hx, hZ, hby, hml, hret', hown, hnm, hfr, hlo⟩ := hcx
 have hd2 : decode c.code pc = .ok (.invokespecial idx, 3) := by rw [hby]; exact hd
 obtain ⟨f1, f2⟩ := QTri.room (σ := σ) (σ₁ := σ₁) hroom hfr hlo
 obtain ⟨c1, c2⟩ := (qw_cod W) k hkA
 have c1' := c1
 rw [hrt] at c1'
 obtain ⟨_, _, ⟨T₁, L₁, k₁, n₁⟩, -, X₁, ⟨Lc, ⟨rfl, hR1, hF1⟩, l₁, y₁, z₁⟩, st⟩ := X.specialBack hx (own := kName (pK m)) (index := idx) (y := pName k) hin hown (mvT hZ (qw_ml W (pK m, idx, k) m1)) (mvT hZ ((qw_ini W) k m2)) (mvT hZ c1') (pOwn _ (pKlt k hkN))
  (backOf (W := (rest.map fun v => v.category).sum) (rm := ⟨pFr k, σ₁.length - σ.length, qhs σ₁ - qhs σ, pLo k⟩) (Q := fun v h L => v = Option.map (qv ad) none ∧ QRep Z n0 ad h σ₁ ∧ Fr n0 L) (QTri.met hkN hcal hR (Nat.le_of_ble_eq_true hlen) (fun _ => rfl) [] (Nat.le_refl _) (Nat.le_refl _) (Nat.le_refl _) (Nat.le_refl _)) hZ c1 c2 f1 f2) (g := mkF mid pc C (List.map (qv ad) (as.reverse ++ .ref a :: rest))) rfl hC (Steps.refl _) (a := ad a) (argsL := as.map (qv ad)) (rest := rest.map (qv ad)) (sig_len hkN hna) (by simp [qv]) (by show 2 * 0 + _ ≤ _; rw [cats_qv]; omega) hd2 (fun _ _ => ⟨rfl, rfl, hc1, hsl⟩)
 dsimp only [Pt.U, Pt.locs, Pt.cells, Pt.slots] at X₁ l₁ y₁ z₁ st hR1
 subst l₁ y₁ z₁
 exact ⟨T₁, Lc, X₁, hR1, hF1, fun target q => st.trans q⟩
set_option maxHeartbeats 4000000 in
theorem QTri.callP (W : QW Z a0) {pc idx k a : Nat} {L : QLoc} {S as rest vs : List Value} {σ σ₁ : QHeap} {w : Option Value} (hc : pCode m pc = some (.invokevirtual idx, k)) (hm : (lkV.contains (pK m, idx, k) && mP.contains k) = true) (hcell : hget σ a = some (.inl vs)) (hS : S = as.reverse ++ .ref a :: rest)
  (hna : as.length = pNA k) (hlen : Nat.ble (((Value.ref a :: as).map fun v => v.category).sum) (pMaxL k) = true) (hroom : (Nat.ble (pFr k + 1) (pFr m) && Nat.ble ((rest.map fun v => v.category).sum + (pMaxL k + 11) + pLo k) (pLo m)) = true) (hrb : (w.isNone || (pRet k).isSome) = true)
  (hcal : QTri l Z n0 ad k (0, qentry (.ref a :: as) (pMaxL k), [], σ) w σ₁) (h : QTri l Z n0 ad m (pc + 3, L, w.toList ++ rest, σ₁) v σ') : QTri l Z n0 ad m (pc, L, S, σ) v σ' := by
 have hd : decode (pBytes m) pc = .ok (.invokevirtual idx, 3) := pDecN hc rfl
 subst hS
 obtain ⟨m1, m2⟩ := Bool.and_eq_true_iff.mp hm
 have m1 := mem_of_contains m1
 have m2 := mem_of_contains m2
 obtain ⟨hkA, hk1⟩ := mPlt k m2
 have hkN := mAlt k hkA
 have hret : pRet k = none → w = none := fun q => by
  rw [q] at hrb
  cases w with
  | none => rfl
  | some w => simp at hrb
 refine QTri.after hcal h fun p e R s mid args below meth c T locs cells slots C hcx X hR hC hc1 hsl => ?_
 obtain ⟨hx, hZ, hby, hml, hret', hown, hnm, hfr, hlo⟩ := hcx
 have hd2 : decode c.code pc = .ok (.invokevirtual idx, 3) := by rw [hby]; exact hd
 obtain ⟨f1, f2⟩ := QTri.room (σ := σ) (σ₁ := σ₁) hroom hfr hlo
 obtain ⟨cell, h1, h2⟩ := (hR.2.2 _ _ hcell).1.cell
 obtain ⟨w1, w2⟩ := (qw_pr W) k m2
 obtain ⟨c1, c2⟩ := (qw_cod W) k hkA
 have hpr : s.PrivateAt (pName k) := Cond.privateMethod_at (mvP hZ w2 (args := #[]))
 obtain ⟨cC, kC, i1, i2, i3, i4⟩ := Cond.instantiable_spec (args := #[]) (mvT hZ (qw_inst W))
 have hsel : (Cond.selects (pName k).cls (pName k) (pName k)).before args s = true := selects_self_of_private (c := cC) (k := kC) (by show s.vm.findClass (kName (pK k)) = _; rw [hk1]; exact i1) i2 (by have q := i4.1; cases hq : kC.isInterface with | false => rfl | true => rw [hq] at q; simp at q) hpr (mvT hZ w1) (pOwn _ (pKlt k hkN))
 obtain ⟨_, _, ⟨T₁, L₁, k₁, n₁⟩, -, X₁, ⟨Lc, ⟨rfl, hR1, hF1⟩, l₁, y₁, z₁⟩, st⟩ := X.privateBack hx (own := kName (pK m)) (index := idx) (y := pName k) hown (mvT hZ (qw_ml W (pK m, idx, k) m1)) (mvT hZ w1) hsel hpr (mvT hZ c1) (pOwn _ (pKlt k hkN))
  (backOf (W := (rest.map fun v => v.category).sum) (rm := ⟨pFr k, σ₁.length - σ.length, qhs σ₁ - qhs σ, pLo k⟩) (Q := fun v h L => v = Option.map (qv ad) w ∧ QRep Z n0 ad h σ₁ ∧ Fr n0 L) (QTri.met hkN hcal hR (Nat.le_of_ble_eq_true hlen) hret [] (Nat.le_refl _) (Nat.le_refl _) (Nat.le_refl _) (Nat.le_refl _)) hZ c1 c2 f1 f2) (g := mkF mid pc C (List.map (qv ad) (as.reverse ++ .ref a :: rest))) rfl hC (Steps.refl _) (a := ad a) h1 h2 (argsL := as.map (qv ad)) (rest := rest.map (qv ad)) (sig_len hkN hna) (by simp [qv]) (by show 2 * 0 + _ ≤ _; rw [cats_qv]; omega) hd2 (fun _ _ => ⟨rfl, rfl, hc1, hsl⟩)
 dsimp only [Pt.U, Pt.locs, Pt.cells, Pt.slots] at X₁ l₁ y₁ z₁ st hR1
 subst l₁ y₁ z₁
 exact ⟨T₁, Lc, X₁, hR1, hF1, fun target q => st.trans q⟩
set_option maxHeartbeats 4000000 in
theorem QTri.callS (W : QW Z a0) {pc idx k : Nat} {L : QLoc} {S as rest : List Value} {σ σ₁ : QHeap} {w : Option Value} (hc : pCode m pc = some (.invokestatic idx, k)) (hm : (lkV.contains (pK m, idx, k) && mS.contains k) = true) (hS : S = as.reverse ++ rest)
  (hna : as.length = pNA k) (hlen : Nat.ble ((as.map fun v => v.category).sum) (pMaxL k) = true) (hroom : (Nat.ble (pFr k + 1) (pFr m) && Nat.ble ((rest.map fun v => v.category).sum + (pMaxL k + 11) + pLo k) (pLo m)) = true) (hrb : (w.isNone || (pRet k).isSome) = true)
  (hcal : QTri l Z n0 ad k (0, qentry as (pMaxL k), [], σ) w σ₁) (h : QTri l Z n0 ad m (pc + 3, L, w.toList ++ rest, σ₁) v σ') : QTri l Z n0 ad m (pc, L, S, σ) v σ' := by
 have hd : decode (pBytes m) pc = .ok (.invokestatic idx, 3) := pDecN hc rfl
 subst hS
 obtain ⟨m1, m2⟩ := Bool.and_eq_true_iff.mp hm
 have m1 := mem_of_contains m1
 have m2 := mem_of_contains m2
 have hkA := mSlt k m2
 have hkN := mAlt k hkA
 have hret : pRet k = none → w = none := fun q => by
  rw [q] at hrb
  cases w with
  | none => rfl
  | some w => simp at hrb
 refine QTri.after hcal h fun p e R s mid args below meth c T locs cells slots C hcx X hR hC hc1 hsl => ?_
 obtain ⟨hx, hZ, hby, hml, hret', hown, hnm, hfr, hlo⟩ := hcx
 have hd2 : decode c.code pc = .ok (.invokestatic idx, 3) := by rw [hby]; exact hd
 obtain ⟨f1, f2⟩ := QTri.room (σ := σ) (σ₁ := σ₁) hroom hfr hlo
 obtain ⟨c1, c2⟩ := (qw_cod W) k hkA
 obtain ⟨_, _, ⟨T₁, L₁, k₁, n₁⟩, -, X₁, ⟨Lc, ⟨rfl, hR1, hF1⟩, l₁, y₁, z₁⟩, st⟩ := Jvm.LawKit.callS X hx (own := kName (pK m)) (index := idx) (y := pName k) hown (mvT hZ (qw_ml W (pK m, idx, k) m1)) (mvT hZ ((qw_st W) k m2)) (mvT hZ c2) (mvT hZ c1) (pOwn _ (pKlt k hkN))
  (backOf (W := (rest.map fun v => v.category).sum) (rm := ⟨pFr k, σ₁.length - σ.length, qhs σ₁ - qhs σ, pLo k⟩) (Q := fun v h L => v = Option.map (qv ad) w ∧ QRep Z n0 ad h σ₁ ∧ Fr n0 L) (QTri.met hkN hcal hR (Nat.le_of_ble_eq_true hlen) hret [] (Nat.le_refl _) (Nat.le_refl _) (Nat.le_refl _) (Nat.le_refl _)) hZ c1 c2 f1 f2) (g := mkF mid pc C (List.map (qv ad) (as.reverse ++ rest))) rfl hC (argsL := as.map (qv ad)) (rest := rest.map (qv ad)) (sig_len hkN hna) (by simp) (by show 2 * 0 + _ ≤ _; rw [cats_qv]; omega) hd2 (fun _ _ => ⟨rfl, rfl, hc1, hsl⟩)
 dsimp only [Pt.U, Pt.locs, Pt.cells, Pt.slots] at X₁ l₁ y₁ z₁ st hR1
 subst l₁ y₁ z₁
 exact ⟨T₁, Lc, X₁, hR1, hF1, fun target q => st target q⟩
set_option maxHeartbeats 4000000 in
theorem QTri.callO (W : QW Z a0) {pc idx k a : Nat} {L : QLoc} {rest : List Value} {σ : QHeap} (hc : pCode m pc = some (.invokespecial idx, k)) (hm : lkO.contains (pK m, idx) = true) (hroom : (Nat.ble 1 (pFr m) && Nat.ble ((rest.map fun v => v.category).sum + 12) (pLo m)) = true)
  (h : QTri l Z n0 ad m (pc + 3, L, rest, σ) v σ') : QTri l Z n0 ad m (pc, L, .ref a :: rest, σ) v σ' :=
 have hd : decode (pBytes m) pc = .ok (.invokespecial idx, 3) := pDecN hc rfl
 QTri.pure h rfl fun p e R s mid args below meth c T locs cells slots C hcx X hR hL hC => by
  obtain ⟨hx, hZ, hby, hml, hret', hown, hnm, hfr, hlo⟩ := hcx
  have hd2 : decode c.code pc = .ok (.invokespecial idx, 3) := by rw [hby]; exact hd
  obtain ⟨q1, q2⟩ := Bool.and_eq_true_iff.mp hroom
  obtain ⟨T₁, X₁, e₁, st⟩ := initO X hx hZ hown (idx := idx) (qw_mo W (pK m, idx) (mem_of_contains hm)) ((qw_oi W)) ((qw_oc W)) rfl (g := mkF mid pc C (List.map (qv ad) (.ref a :: rest))) rfl hC rfl hd2 (Nat.le_trans (Nat.le_of_ble_eq_true q1) hfr) (W := (rest.map fun v => v.category).sum) (by show 2 * 0 + _ ≤ _; rw [cats_qv]; omega) (Nat.le_trans (Nat.le_of_ble_eq_true q2) hlo)
  exact ⟨T₁, C, X₁, e₁, hL, hC, st⟩
theorem QTri.brT (Ad : QAd n0 ad) (W : QW Z a0) {st : QSt} {t f : Nat} {L : QLoc} {S : List Value} {σ : QHeap} {b : Bool} (hs : qstep m st = some (bif b then t else f, L, S, σ)) (hb : b = true) (h : QTri l Z n0 ad m (t, L, S, σ) v σ') : QTri l Z n0 ad m st v σ' := by
 subst hb; exact QTri.step Ad W h hs
theorem QTri.brF (Ad : QAd n0 ad) (W : QW Z a0) {st : QSt} {t f : Nat} {L : QLoc} {S : List Value} {σ : QHeap} {b : Bool} (hs : qstep m st = some (bif b then t else f, L, S, σ)) (hb : b = false) (h : QTri l Z n0 ad m (f, L, S, σ) v σ') : QTri l Z n0 ad m st v σ' := by
 subst hb; exact QTri.step Ad W h hs
theorem QTri.bnd {α : Type} (Ad : QAd n0 ad) (W : QW Z a0) {st : QSt} {x : Option α} {f : α → QSt} {a : α} (hs : qstep m st = x.bind fun v => some (f v)) (hx : x = some a) (h : QTri l Z n0 ad m (f a) v σ') : QTri l Z n0 ad m st v σ' :=
 QTri.step Ad W h (by rw [hs, hx]; rfl)
theorem QTri.bndB (Ad : QAd n0 ad) (W : QW Z a0) {st : QSt} {x y : Int32} {g : Value → QSt} (hs : qstep m st = ((qboo x).bind fun y => some (Value.int y)).bind fun w => some (g w)) (hx : qboo x = some y) (h : QTri l Z n0 ad m (g (.int y)) v σ') : QTri l Z n0 ad m st v σ' :=
 QTri.step Ad W h (by rw [hs, hx]; rfl)
end Triples
theorem qite {α : Type} {c : Prop} [Decidable c] {a b : Option α} {r : α} (h : (if c then a else b) = some r) : (c ∧ a = some r) ∨ (¬ c ∧ b = some r) := by
 by_cases hc : c
 ·exact Or.inl ⟨hc, by rwa [if_pos hc] at h⟩
 ·exact Or.inr ⟨hc, by rwa [if_neg hc] at h⟩
def qN : Nat := 4000
def loopN {V E : Type} (B : V → Option (E ⊕ V)) : Nat → V → Option E
 | 0, _ => none
 | n + 1, v => match B v with
  | none => none
  | some (.inl e) => some e
  | some (.inr v') => loopN B n v'
theorem loopN_tri {V E : Type} {B : V → Option (E ⊕ V)} {T : V → Prop} {KE : E → Prop} (hB : ∀ v r, B v = some r → (∀ e, r = .inl e → KE e) → (∀ v', r = .inr v' → T v') → T v) : ∀ (n : Nat) (v : V) (e : E), loopN B n v = some e → KE e → T v
 | 0, _, _, h, _ => by cases h
 | n + 1, v, e, h, k => by
  simp only [loopN] at h
  split at h
  ·cases h
  ·rename_i e' he
   cases h
   exact hB v _ he (fun e q => by cases q; exact k) (fun v' q => by cases q)
  ·rename_i v' he
   exact hB v _ he (fun e q => by cases q) (fun v'' q => by cases q; exact loopN_tri hB n v' e h k)
theorem loopN_inv {V E : Type} {B : V → Option (E ⊕ V)} (I : V → Prop) (P : E → Prop) (μ : V → Nat) (hB : ∀ v, I v → (∃ e, B v = some (.inl e) ∧ P e) ∨ ∃ v', B v = some (.inr v') ∧ I v' ∧ μ v' < μ v) : ∀ (n : Nat) (v : V), I v → μ v < n → ∃ e, loopN B n v = some e ∧ P e
 | 0, _, _, h => absurd h (Nat.not_lt_zero _)
 | n + 1, v, hv, hm => by
  rcases hB v hv with ⟨e, h1, h2⟩ | ⟨v', h1, h2, h3⟩
  ·exact ⟨e, by simp only [loopN, h1], h2⟩
  ·obtain ⟨e, g1, g2⟩ := loopN_inv I P μ hB n v' h2 (by omega)
   exact ⟨e, by simp only [loopN, h1]; exact g1, g2⟩
theorem qfn {α : Type} {P : α → Prop} : ∀ t ∈ ([] : List α), P t := fun _ h => nomatch h
theorem qfc {α : Type} {P : α → Prop} {a : α} {t : List α} (h : P a) (ht : ∀ x ∈ t, P x) : ∀ x ∈ a :: t, P x := fun x hx => by rcases List.mem_cons.mp hx with rfl | q; exact h; exact ht x q
theorem QW_ok {Z : State} {a0 : Array Value} (hw : ∀ d ∈ tables_1, d.before a0 Z = true) : QW Z a0 := by
  have w0 : ∀ k ∈ List.range nF, bif fFin k then (Jvm.Cond.laysFinal cName cName (fNm k) (fDs k)).before a0 Z = true else (Jvm.Cond.lays cName cName (fNm k) (fDs k)).before a0 Z = true :=
    show ∀ k ∈ [0, 1, 2, 3, 4, 5, 6, 7, 8, 9, 10, 11, 12, 13, 14, 15, 16, 17, 18, 19, 20, 21, 22, 23, 24, 25, 26], bif fFin k then (Jvm.Cond.laysFinal cName cName (fNm k) (fDs k)).before a0 Z = true else (Jvm.Cond.lays cName cName (fNm k) (fDs k)).before a0 Z = true from
    (qfc (hw _ (List.mem_of_getElem? (i := 11) rfl)) (qfc (hw _ (List.mem_of_getElem? (i := 13) rfl)) (qfc (hw _ (List.mem_of_getElem? (i := 15) rfl)) (qfc (hw _ (List.mem_of_getElem? (i := 17) rfl)) (qfc (hw _ (List.mem_of_getElem? (i := 20) rfl)) (qfc (hw _ (List.mem_of_getElem? (i := 23) rfl)) (qfc (hw _ (List.mem_of_getElem? (i := 25) rfl)) (qfc (hw _ (List.mem_of_getElem? (i := 27) rfl)) (qfc (hw _ (List.mem_of_getElem? (i := 29) rfl)) (qfc (hw _ (List.mem_of_getElem? (i := 31) rfl)) (qfc (hw _ (List.mem_of_getElem? (i := 37) rfl)) (qfc (hw _ (List.mem_of_getElem? (i := 39) rfl)) (qfc (hw _ (List.mem_of_getElem? (i := 41) rfl)) (qfc (hw _ (List.mem_of_getElem? (i := 43) rfl)) (qfc (hw _ (List.mem_of_getElem? (i := 45) rfl)) (qfc (hw _ (List.mem_of_getElem? (i := 47) rfl)) (qfc (hw _ (List.mem_of_getElem? (i := 49) rfl)) (qfc (hw _ (List.mem_of_getElem? (i := 51) rfl)) (qfc (hw _ (List.mem_of_getElem? (i := 53) rfl)) (qfc (hw _ (List.mem_of_getElem? (i := 55) rfl)) (qfc (hw _ (List.mem_of_getElem? (i := 151) rfl)) (qfc (hw _ (List.mem_of_getElem? (i := 153) rfl)) (qfc (hw _ (List.mem_of_getElem? (i := 159) rfl)) (qfc (hw _ (List.mem_of_getElem? (i := 161) rfl)) (qfc (hw _ (List.mem_of_getElem? (i := 163) rfl)) (qfc (hw _ (List.mem_of_getElem? (i := 165) rfl)) (qfc (hw _ (List.mem_of_getElem? (i := 167) rfl)) qfn)))))))))))))))))))))))))))
  refine ⟨?_, ?_, ?_, ?_, ?_, ?_, ?_, ?_, ?_, ?_, ?_, ?_, ?_, (fun k hk => w0 k (List.mem_range.mpr hk)), ?_, ?_, ?_⟩
  · exact (qfc (hw _ (List.mem_of_getElem? (i := 10) rfl)) (qfc (hw _ (List.mem_of_getElem? (i := 12) rfl)) (qfc (hw _ (List.mem_of_getElem? (i := 14) rfl)) (qfc (hw _ (List.mem_of_getElem? (i := 16) rfl)) (qfc (hw _ (List.mem_of_getElem? (i := 19) rfl)) (qfc (hw _ (List.mem_of_getElem? (i := 22) rfl)) (qfc (hw _ (List.mem_of_getElem? (i := 24) rfl)) (qfc (hw _ (List.mem_of_getElem? (i := 26) rfl)) (qfc (hw _ (List.mem_of_getElem? (i := 28) rfl)) (qfc (hw _ (List.mem_of_getElem? (i := 30) rfl)) (qfc (hw _ (List.mem_of_getElem? (i := 36) rfl)) (qfc (hw _ (List.mem_of_getElem? (i := 38) rfl)) (qfc (hw _ (List.mem_of_getElem? (i := 40) rfl)) (qfc (hw _ (List.mem_of_getElem? (i := 42) rfl)) (qfc (hw _ (List.mem_of_getElem? (i := 44) rfl)) (qfc (hw _ (List.mem_of_getElem? (i := 46) rfl)) (qfc (hw _ (List.mem_of_getElem? (i := 48) rfl)) (qfc (hw _ (List.mem_of_getElem? (i := 50) rfl)) (qfc (hw _ (List.mem_of_getElem? (i := 52) rfl)) (qfc (hw _ (List.mem_of_getElem? (i := 54) rfl)) (qfc (hw _ (List.mem_of_getElem? (i := 150) rfl)) (qfc (hw _ (List.mem_of_getElem? (i := 152) rfl)) (qfc (hw _ (List.mem_of_getElem? (i := 158) rfl)) (qfc (hw _ (List.mem_of_getElem? (i := 160) rfl)) (qfc (hw _ (List.mem_of_getElem? (i := 162) rfl)) (qfc (hw _ (List.mem_of_getElem? (i := 164) rfl)) (qfc (hw _ (List.mem_of_getElem? (i := 166) rfl)) qfn)))))))))))))))))))))))))))
  · exact (qfc (hw _ (List.mem_of_getElem? (i := 0) rfl)) qfn)
  · exact qfn
  · exact qfn
  · exact (qfc (hw _ (List.mem_of_getElem? (i := 3) rfl)) (qfc (hw _ (List.mem_of_getElem? (i := 32) rfl)) (qfc (hw _ (List.mem_of_getElem? (i := 56) rfl)) (qfc (hw _ (List.mem_of_getElem? (i := 60) rfl)) (qfc (hw _ (List.mem_of_getElem? (i := 65) rfl)) (qfc (hw _ (List.mem_of_getElem? (i := 70) rfl)) (qfc (hw _ (List.mem_of_getElem? (i := 75) rfl)) (qfc (hw _ (List.mem_of_getElem? (i := 80) rfl)) (qfc (hw _ (List.mem_of_getElem? (i := 83) rfl)) (qfc (hw _ (List.mem_of_getElem? (i := 88) rfl)) (qfc (hw _ (List.mem_of_getElem? (i := 93) rfl)) (qfc (hw _ (List.mem_of_getElem? (i := 98) rfl)) (qfc (hw _ (List.mem_of_getElem? (i := 103) rfl)) (qfc (hw _ (List.mem_of_getElem? (i := 108) rfl)) (qfc (hw _ (List.mem_of_getElem? (i := 113) rfl)) (qfc (hw _ (List.mem_of_getElem? (i := 118) rfl)) (qfc (hw _ (List.mem_of_getElem? (i := 123) rfl)) (qfc (hw _ (List.mem_of_getElem? (i := 128) rfl)) (qfc (hw _ (List.mem_of_getElem? (i := 133) rfl)) (qfc (hw _ (List.mem_of_getElem? (i := 137) rfl)) (qfc (hw _ (List.mem_of_getElem? (i := 142) rfl)) (qfc (hw _ (List.mem_of_getElem? (i := 146) rfl)) (qfc (hw _ (List.mem_of_getElem? (i := 154) rfl)) (qfc (hw _ (List.mem_of_getElem? (i := 168) rfl)) (qfc (hw _ (List.mem_of_getElem? (i := 172) rfl)) (qfc (hw _ (List.mem_of_getElem? (i := 176) rfl)) (qfc (hw _ (List.mem_of_getElem? (i := 180) rfl)) (qfc (hw _ (List.mem_of_getElem? (i := 184) rfl)) (qfc (hw _ (List.mem_of_getElem? (i := 188) rfl)) (qfc (hw _ (List.mem_of_getElem? (i := 192) rfl)) (qfc (hw _ (List.mem_of_getElem? (i := 196) rfl)) (qfc (hw _ (List.mem_of_getElem? (i := 200) rfl)) (qfc (hw _ (List.mem_of_getElem? (i := 204) rfl)) (qfc (hw _ (List.mem_of_getElem? (i := 208) rfl)) (qfc (hw _ (List.mem_of_getElem? (i := 212) rfl)) (qfc (hw _ (List.mem_of_getElem? (i := 216) rfl)) (qfc (hw _ (List.mem_of_getElem? (i := 220) rfl)) (qfc (hw _ (List.mem_of_getElem? (i := 224) rfl)) qfn))))))))))))))))))))))))))))))))))))))
  · exact (qfc (hw _ (List.mem_of_getElem? (i := 6) rfl)) qfn)
  · exact (qfc ⟨(hw _ (List.mem_of_getElem? (i := 61) rfl)), (hw _ (List.mem_of_getElem? (i := 63) rfl)), (hw _ (List.mem_of_getElem? (i := 62) rfl))⟩ (qfc ⟨(hw _ (List.mem_of_getElem? (i := 66) rfl)), (hw _ (List.mem_of_getElem? (i := 68) rfl)), (hw _ (List.mem_of_getElem? (i := 67) rfl))⟩ (qfc ⟨(hw _ (List.mem_of_getElem? (i := 71) rfl)), (hw _ (List.mem_of_getElem? (i := 73) rfl)), (hw _ (List.mem_of_getElem? (i := 72) rfl))⟩ (qfc ⟨(hw _ (List.mem_of_getElem? (i := 76) rfl)), (hw _ (List.mem_of_getElem? (i := 78) rfl)), (hw _ (List.mem_of_getElem? (i := 77) rfl))⟩ (qfc ⟨(hw _ (List.mem_of_getElem? (i := 84) rfl)), (hw _ (List.mem_of_getElem? (i := 86) rfl)), (hw _ (List.mem_of_getElem? (i := 85) rfl))⟩ (qfc ⟨(hw _ (List.mem_of_getElem? (i := 89) rfl)), (hw _ (List.mem_of_getElem? (i := 91) rfl)), (hw _ (List.mem_of_getElem? (i := 90) rfl))⟩ (qfc ⟨(hw _ (List.mem_of_getElem? (i := 94) rfl)), (hw _ (List.mem_of_getElem? (i := 96) rfl)), (hw _ (List.mem_of_getElem? (i := 95) rfl))⟩ (qfc ⟨(hw _ (List.mem_of_getElem? (i := 99) rfl)), (hw _ (List.mem_of_getElem? (i := 101) rfl)), (hw _ (List.mem_of_getElem? (i := 100) rfl))⟩ (qfc ⟨(hw _ (List.mem_of_getElem? (i := 104) rfl)), (hw _ (List.mem_of_getElem? (i := 106) rfl)), (hw _ (List.mem_of_getElem? (i := 105) rfl))⟩ (qfc ⟨(hw _ (List.mem_of_getElem? (i := 109) rfl)), (hw _ (List.mem_of_getElem? (i := 111) rfl)), (hw _ (List.mem_of_getElem? (i := 110) rfl))⟩ (qfc ⟨(hw _ (List.mem_of_getElem? (i := 114) rfl)), (hw _ (List.mem_of_getElem? (i := 116) rfl)), (hw _ (List.mem_of_getElem? (i := 115) rfl))⟩ (qfc ⟨(hw _ (List.mem_of_getElem? (i := 119) rfl)), (hw _ (List.mem_of_getElem? (i := 121) rfl)), (hw _ (List.mem_of_getElem? (i := 120) rfl))⟩ (qfc ⟨(hw _ (List.mem_of_getElem? (i := 124) rfl)), (hw _ (List.mem_of_getElem? (i := 126) rfl)), (hw _ (List.mem_of_getElem? (i := 125) rfl))⟩ (qfc ⟨(hw _ (List.mem_of_getElem? (i := 129) rfl)), (hw _ (List.mem_of_getElem? (i := 131) rfl)), (hw _ (List.mem_of_getElem? (i := 130) rfl))⟩ (qfc ⟨(hw _ (List.mem_of_getElem? (i := 138) rfl)), (hw _ (List.mem_of_getElem? (i := 140) rfl)), (hw _ (List.mem_of_getElem? (i := 139) rfl))⟩ qfn)))))))))))))))
  · exact (qfc ⟨(hw _ (List.mem_of_getElem? (i := 33) rfl)), (hw _ (List.mem_of_getElem? (i := 34) rfl))⟩ (qfc ⟨(hw _ (List.mem_of_getElem? (i := 134) rfl)), (hw _ (List.mem_of_getElem? (i := 135) rfl))⟩ (qfc ⟨(hw _ (List.mem_of_getElem? (i := 143) rfl)), (hw _ (List.mem_of_getElem? (i := 144) rfl))⟩ (qfc ⟨(hw _ (List.mem_of_getElem? (i := 147) rfl)), (hw _ (List.mem_of_getElem? (i := 148) rfl))⟩ (qfc ⟨(hw _ (List.mem_of_getElem? (i := 155) rfl)), (hw _ (List.mem_of_getElem? (i := 156) rfl))⟩ (qfc ⟨(hw _ (List.mem_of_getElem? (i := 169) rfl)), (hw _ (List.mem_of_getElem? (i := 170) rfl))⟩ (qfc ⟨(hw _ (List.mem_of_getElem? (i := 173) rfl)), (hw _ (List.mem_of_getElem? (i := 174) rfl))⟩ (qfc ⟨(hw _ (List.mem_of_getElem? (i := 177) rfl)), (hw _ (List.mem_of_getElem? (i := 178) rfl))⟩ (qfc ⟨(hw _ (List.mem_of_getElem? (i := 181) rfl)), (hw _ (List.mem_of_getElem? (i := 182) rfl))⟩ (qfc ⟨(hw _ (List.mem_of_getElem? (i := 185) rfl)), (hw _ (List.mem_of_getElem? (i := 186) rfl))⟩ (qfc ⟨(hw _ (List.mem_of_getElem? (i := 189) rfl)), (hw _ (List.mem_of_getElem? (i := 190) rfl))⟩ (qfc ⟨(hw _ (List.mem_of_getElem? (i := 193) rfl)), (hw _ (List.mem_of_getElem? (i := 194) rfl))⟩ (qfc ⟨(hw _ (List.mem_of_getElem? (i := 197) rfl)), (hw _ (List.mem_of_getElem? (i := 198) rfl))⟩ (qfc ⟨(hw _ (List.mem_of_getElem? (i := 201) rfl)), (hw _ (List.mem_of_getElem? (i := 202) rfl))⟩ (qfc ⟨(hw _ (List.mem_of_getElem? (i := 205) rfl)), (hw _ (List.mem_of_getElem? (i := 206) rfl))⟩ (qfc ⟨(hw _ (List.mem_of_getElem? (i := 209) rfl)), (hw _ (List.mem_of_getElem? (i := 210) rfl))⟩ (qfc ⟨(hw _ (List.mem_of_getElem? (i := 213) rfl)), (hw _ (List.mem_of_getElem? (i := 214) rfl))⟩ (qfc ⟨(hw _ (List.mem_of_getElem? (i := 217) rfl)), (hw _ (List.mem_of_getElem? (i := 218) rfl))⟩ (qfc ⟨(hw _ (List.mem_of_getElem? (i := 221) rfl)), (hw _ (List.mem_of_getElem? (i := 222) rfl))⟩ (qfc ⟨(hw _ (List.mem_of_getElem? (i := 225) rfl)), (hw _ (List.mem_of_getElem? (i := 226) rfl))⟩ qfn))))))))))))))))))))
  · exact (qfc (hw _ (List.mem_of_getElem? (i := 57) rfl)) (qfc (hw _ (List.mem_of_getElem? (i := 81) rfl)) qfn))
  · exact (qfc (hw _ (List.mem_of_getElem? (i := 4) rfl)) qfn)
  · exact (qfc ⟨(hw _ (List.mem_of_getElem? (i := 5) rfl)), (hw _ (List.mem_of_getElem? (i := 2) rfl))⟩ (qfc ⟨(hw _ (List.mem_of_getElem? (i := 35) rfl)), (hw _ (List.mem_of_getElem? (i := 2) rfl))⟩ (qfc ⟨(hw _ (List.mem_of_getElem? (i := 59) rfl)), (hw _ (List.mem_of_getElem? (i := 58) rfl))⟩ (qfc ⟨(hw _ (List.mem_of_getElem? (i := 64) rfl)), (hw _ (List.mem_of_getElem? (i := 2) rfl))⟩ (qfc ⟨(hw _ (List.mem_of_getElem? (i := 69) rfl)), (hw _ (List.mem_of_getElem? (i := 2) rfl))⟩ (qfc ⟨(hw _ (List.mem_of_getElem? (i := 74) rfl)), (hw _ (List.mem_of_getElem? (i := 2) rfl))⟩ (qfc ⟨(hw _ (List.mem_of_getElem? (i := 79) rfl)), (hw _ (List.mem_of_getElem? (i := 2) rfl))⟩ (qfc ⟨(hw _ (List.mem_of_getElem? (i := 82) rfl)), (hw _ (List.mem_of_getElem? (i := 58) rfl))⟩ (qfc ⟨(hw _ (List.mem_of_getElem? (i := 87) rfl)), (hw _ (List.mem_of_getElem? (i := 2) rfl))⟩ (qfc ⟨(hw _ (List.mem_of_getElem? (i := 92) rfl)), (hw _ (List.mem_of_getElem? (i := 2) rfl))⟩ (qfc ⟨(hw _ (List.mem_of_getElem? (i := 97) rfl)), (hw _ (List.mem_of_getElem? (i := 2) rfl))⟩ (qfc ⟨(hw _ (List.mem_of_getElem? (i := 102) rfl)), (hw _ (List.mem_of_getElem? (i := 2) rfl))⟩ (qfc ⟨(hw _ (List.mem_of_getElem? (i := 107) rfl)), (hw _ (List.mem_of_getElem? (i := 2) rfl))⟩ (qfc ⟨(hw _ (List.mem_of_getElem? (i := 112) rfl)), (hw _ (List.mem_of_getElem? (i := 2) rfl))⟩ (qfc ⟨(hw _ (List.mem_of_getElem? (i := 117) rfl)), (hw _ (List.mem_of_getElem? (i := 2) rfl))⟩ (qfc ⟨(hw _ (List.mem_of_getElem? (i := 122) rfl)), (hw _ (List.mem_of_getElem? (i := 2) rfl))⟩ (qfc ⟨(hw _ (List.mem_of_getElem? (i := 127) rfl)), (hw _ (List.mem_of_getElem? (i := 2) rfl))⟩ (qfc ⟨(hw _ (List.mem_of_getElem? (i := 132) rfl)), (hw _ (List.mem_of_getElem? (i := 2) rfl))⟩ (qfc ⟨(hw _ (List.mem_of_getElem? (i := 136) rfl)), (hw _ (List.mem_of_getElem? (i := 2) rfl))⟩ (qfc ⟨(hw _ (List.mem_of_getElem? (i := 141) rfl)), (hw _ (List.mem_of_getElem? (i := 2) rfl))⟩ (qfc ⟨(hw _ (List.mem_of_getElem? (i := 145) rfl)), (hw _ (List.mem_of_getElem? (i := 2) rfl))⟩ (qfc ⟨(hw _ (List.mem_of_getElem? (i := 149) rfl)), (hw _ (List.mem_of_getElem? (i := 2) rfl))⟩ (qfc ⟨(hw _ (List.mem_of_getElem? (i := 157) rfl)), (hw _ (List.mem_of_getElem? (i := 2) rfl))⟩ (qfc ⟨(hw _ (List.mem_of_getElem? (i := 171) rfl)), (hw _ (List.mem_of_getElem? (i := 2) rfl))⟩ (qfc ⟨(hw _ (List.mem_of_getElem? (i := 175) rfl)), (hw _ (List.mem_of_getElem? (i := 2) rfl))⟩ (qfc ⟨(hw _ (List.mem_of_getElem? (i := 179) rfl)), (hw _ (List.mem_of_getElem? (i := 2) rfl))⟩ (qfc ⟨(hw _ (List.mem_of_getElem? (i := 183) rfl)), (hw _ (List.mem_of_getElem? (i := 2) rfl))⟩ (qfc ⟨(hw _ (List.mem_of_getElem? (i := 187) rfl)), (hw _ (List.mem_of_getElem? (i := 2) rfl))⟩ (qfc ⟨(hw _ (List.mem_of_getElem? (i := 191) rfl)), (hw _ (List.mem_of_getElem? (i := 2) rfl))⟩ (qfc ⟨(hw _ (List.mem_of_getElem? (i := 195) rfl)), (hw _ (List.mem_of_getElem? (i := 2) rfl))⟩ (qfc ⟨(hw _ (List.mem_of_getElem? (i := 199) rfl)), (hw _ (List.mem_of_getElem? (i := 2) rfl))⟩ (qfc ⟨(hw _ (List.mem_of_getElem? (i := 203) rfl)), (hw _ (List.mem_of_getElem? (i := 2) rfl))⟩ (qfc ⟨(hw _ (List.mem_of_getElem? (i := 207) rfl)), (hw _ (List.mem_of_getElem? (i := 2) rfl))⟩ (qfc ⟨(hw _ (List.mem_of_getElem? (i := 211) rfl)), (hw _ (List.mem_of_getElem? (i := 2) rfl))⟩ (qfc ⟨(hw _ (List.mem_of_getElem? (i := 215) rfl)), (hw _ (List.mem_of_getElem? (i := 2) rfl))⟩ (qfc ⟨(hw _ (List.mem_of_getElem? (i := 219) rfl)), (hw _ (List.mem_of_getElem? (i := 2) rfl))⟩ (qfc ⟨(hw _ (List.mem_of_getElem? (i := 223) rfl)), (hw _ (List.mem_of_getElem? (i := 2) rfl))⟩ (qfc ⟨(hw _ (List.mem_of_getElem? (i := 227) rfl)), (hw _ (List.mem_of_getElem? (i := 2) rfl))⟩ qfn))))))))))))))))))))))))))))))))))))))
  · exact (hw _ (List.mem_of_getElem? (i := 7) rfl))
  · exact (hw _ (List.mem_of_getElem? (i := 8) rfl))
  · exact (hw _ (List.mem_of_getElem? (i := 1) rfl))
  · exact (hw _ (List.mem_of_getElem? (i := 2) rfl))
  · exact (qfc (hw _ (List.mem_of_getElem? (i := 9) rfl)) (qfc (hw _ (List.mem_of_getElem? (i := 18) rfl)) (qfc (hw _ (List.mem_of_getElem? (i := 21) rfl)) qfn)))
abbrev Ob := List Int32 × List Int32 × List Int32 × List Int32 × List Int64 × List Int32 × List Int32 × List Int32 × Int32 × Int32 × Int32 × Int32 × Int32 × Int32 × Int32 × Int32 × Int32 × Int32 × Int32 × Int32 × Int32 × Int32 × Int64 × Int32 × Int32 × Int32 × Int32
def f_part (o : Ob) : List Int32 := o.1
def f_keys (o : Ob) : List Int32 := o.2.1
def f_vals (o : Ob) : List Int32 := o.2.2.1
def f_flg (o : Ob) : List Int32 := o.2.2.2.1
def f_res (o : Ob) : List Int64 := o.2.2.2.2.1
def f_resNull (o : Ob) : List Int32 := o.2.2.2.2.2.1
def f_frameCnt (o : Ob) : List Int32 := o.2.2.2.2.2.2.1
def f_sorted (o : Ob) : List Int32 := o.2.2.2.2.2.2.2.1
def f_cap (o : Ob) : Int32 := o.2.2.2.2.2.2.2.2.1
def f_rows (o : Ob) : Int32 := o.2.2.2.2.2.2.2.2.2.1
def f_direction (o : Ob) : Int32 := o.2.2.2.2.2.2.2.2.2.2.1
def f_nulls (o : Ob) : Int32 := o.2.2.2.2.2.2.2.2.2.2.2.1
def f_mode (o : Ob) : Int32 := o.2.2.2.2.2.2.2.2.2.2.2.2.1
def f_startKind (o : Ob) : Int32 := o.2.2.2.2.2.2.2.2.2.2.2.2.2.1
def f_startOff (o : Ob) : Int32 := o.2.2.2.2.2.2.2.2.2.2.2.2.2.2.1
def f_endKind (o : Ob) : Int32 := o.2.2.2.2.2.2.2.2.2.2.2.2.2.2.2.1
def f_endOff (o : Ob) : Int32 := o.2.2.2.2.2.2.2.2.2.2.2.2.2.2.2.2.1
def f_fn (o : Ob) : Int32 := o.2.2.2.2.2.2.2.2.2.2.2.2.2.2.2.2.2.1
def f_fnArg (o : Ob) : Int32 := o.2.2.2.2.2.2.2.2.2.2.2.2.2.2.2.2.2.2.1
def f_computed (o : Ob) : Int32 := o.2.2.2.2.2.2.2.2.2.2.2.2.2.2.2.2.2.2.2.1
def f_sortedLen (o : Ob) : Int32 := o.2.2.2.2.2.2.2.2.2.2.2.2.2.2.2.2.2.2.2.2.1
def f_curPos (o : Ob) : Int32 := o.2.2.2.2.2.2.2.2.2.2.2.2.2.2.2.2.2.2.2.2.2.1
def f_aggSum (o : Ob) : Int64 := o.2.2.2.2.2.2.2.2.2.2.2.2.2.2.2.2.2.2.2.2.2.2.1
def f_aggCount (o : Ob) : Int32 := o.2.2.2.2.2.2.2.2.2.2.2.2.2.2.2.2.2.2.2.2.2.2.2.1
def f_aggRows (o : Ob) : Int32 := o.2.2.2.2.2.2.2.2.2.2.2.2.2.2.2.2.2.2.2.2.2.2.2.2.1
def f_aggMin (o : Ob) : Int32 := o.2.2.2.2.2.2.2.2.2.2.2.2.2.2.2.2.2.2.2.2.2.2.2.2.2.1
def f_aggMax (o : Ob) : Int32 := o.2.2.2.2.2.2.2.2.2.2.2.2.2.2.2.2.2.2.2.2.2.2.2.2.2.2
def s_part (o : Ob) (v : List Int32) : Ob := (v, o.2.1, o.2.2.1, o.2.2.2.1, o.2.2.2.2.1, o.2.2.2.2.2.1, o.2.2.2.2.2.2.1, o.2.2.2.2.2.2.2.1, o.2.2.2.2.2.2.2.2.1, o.2.2.2.2.2.2.2.2.2.1, o.2.2.2.2.2.2.2.2.2.2.1, o.2.2.2.2.2.2.2.2.2.2.2.1, o.2.2.2.2.2.2.2.2.2.2.2.2.1, o.2.2.2.2.2.2.2.2.2.2.2.2.2.1, o.2.2.2.2.2.2.2.2.2.2.2.2.2.2.1, o.2.2.2.2.2.2.2.2.2.2.2.2.2.2.2.1, o.2.2.2.2.2.2.2.2.2.2.2.2.2.2.2.2.1, o.2.2.2.2.2.2.2.2.2.2.2.2.2.2.2.2.2.1, o.2.2.2.2.2.2.2.2.2.2.2.2.2.2.2.2.2.2.1, o.2.2.2.2.2.2.2.2.2.2.2.2.2.2.2.2.2.2.2.1, o.2.2.2.2.2.2.2.2.2.2.2.2.2.2.2.2.2.2.2.2.1, o.2.2.2.2.2.2.2.2.2.2.2.2.2.2.2.2.2.2.2.2.2.1, o.2.2.2.2.2.2.2.2.2.2.2.2.2.2.2.2.2.2.2.2.2.2.1, o.2.2.2.2.2.2.2.2.2.2.2.2.2.2.2.2.2.2.2.2.2.2.2.1, o.2.2.2.2.2.2.2.2.2.2.2.2.2.2.2.2.2.2.2.2.2.2.2.2.1, o.2.2.2.2.2.2.2.2.2.2.2.2.2.2.2.2.2.2.2.2.2.2.2.2.2.1, o.2.2.2.2.2.2.2.2.2.2.2.2.2.2.2.2.2.2.2.2.2.2.2.2.2.2)
def s_keys (o : Ob) (v : List Int32) : Ob := (o.1, v, o.2.2.1, o.2.2.2.1, o.2.2.2.2.1, o.2.2.2.2.2.1, o.2.2.2.2.2.2.1, o.2.2.2.2.2.2.2.1, o.2.2.2.2.2.2.2.2.1, o.2.2.2.2.2.2.2.2.2.1, o.2.2.2.2.2.2.2.2.2.2.1, o.2.2.2.2.2.2.2.2.2.2.2.1, o.2.2.2.2.2.2.2.2.2.2.2.2.1, o.2.2.2.2.2.2.2.2.2.2.2.2.2.1, o.2.2.2.2.2.2.2.2.2.2.2.2.2.2.1, o.2.2.2.2.2.2.2.2.2.2.2.2.2.2.2.1, o.2.2.2.2.2.2.2.2.2.2.2.2.2.2.2.2.1, o.2.2.2.2.2.2.2.2.2.2.2.2.2.2.2.2.2.1, o.2.2.2.2.2.2.2.2.2.2.2.2.2.2.2.2.2.2.1, o.2.2.2.2.2.2.2.2.2.2.2.2.2.2.2.2.2.2.2.1, o.2.2.2.2.2.2.2.2.2.2.2.2.2.2.2.2.2.2.2.2.1, o.2.2.2.2.2.2.2.2.2.2.2.2.2.2.2.2.2.2.2.2.2.1, o.2.2.2.2.2.2.2.2.2.2.2.2.2.2.2.2.2.2.2.2.2.2.1, o.2.2.2.2.2.2.2.2.2.2.2.2.2.2.2.2.2.2.2.2.2.2.2.1, o.2.2.2.2.2.2.2.2.2.2.2.2.2.2.2.2.2.2.2.2.2.2.2.2.1, o.2.2.2.2.2.2.2.2.2.2.2.2.2.2.2.2.2.2.2.2.2.2.2.2.2.1, o.2.2.2.2.2.2.2.2.2.2.2.2.2.2.2.2.2.2.2.2.2.2.2.2.2.2)
def s_vals (o : Ob) (v : List Int32) : Ob := (o.1, o.2.1, v, o.2.2.2.1, o.2.2.2.2.1, o.2.2.2.2.2.1, o.2.2.2.2.2.2.1, o.2.2.2.2.2.2.2.1, o.2.2.2.2.2.2.2.2.1, o.2.2.2.2.2.2.2.2.2.1, o.2.2.2.2.2.2.2.2.2.2.1, o.2.2.2.2.2.2.2.2.2.2.2.1, o.2.2.2.2.2.2.2.2.2.2.2.2.1, o.2.2.2.2.2.2.2.2.2.2.2.2.2.1, o.2.2.2.2.2.2.2.2.2.2.2.2.2.2.1, o.2.2.2.2.2.2.2.2.2.2.2.2.2.2.2.1, o.2.2.2.2.2.2.2.2.2.2.2.2.2.2.2.2.1, o.2.2.2.2.2.2.2.2.2.2.2.2.2.2.2.2.2.1, o.2.2.2.2.2.2.2.2.2.2.2.2.2.2.2.2.2.2.1, o.2.2.2.2.2.2.2.2.2.2.2.2.2.2.2.2.2.2.2.1, o.2.2.2.2.2.2.2.2.2.2.2.2.2.2.2.2.2.2.2.2.1, o.2.2.2.2.2.2.2.2.2.2.2.2.2.2.2.2.2.2.2.2.2.1, o.2.2.2.2.2.2.2.2.2.2.2.2.2.2.2.2.2.2.2.2.2.2.1, o.2.2.2.2.2.2.2.2.2.2.2.2.2.2.2.2.2.2.2.2.2.2.2.1, o.2.2.2.2.2.2.2.2.2.2.2.2.2.2.2.2.2.2.2.2.2.2.2.2.1, o.2.2.2.2.2.2.2.2.2.2.2.2.2.2.2.2.2.2.2.2.2.2.2.2.2.1, o.2.2.2.2.2.2.2.2.2.2.2.2.2.2.2.2.2.2.2.2.2.2.2.2.2.2)
def s_flg (o : Ob) (v : List Int32) : Ob := (o.1, o.2.1, o.2.2.1, v, o.2.2.2.2.1, o.2.2.2.2.2.1, o.2.2.2.2.2.2.1, o.2.2.2.2.2.2.2.1, o.2.2.2.2.2.2.2.2.1, o.2.2.2.2.2.2.2.2.2.1, o.2.2.2.2.2.2.2.2.2.2.1, o.2.2.2.2.2.2.2.2.2.2.2.1, o.2.2.2.2.2.2.2.2.2.2.2.2.1, o.2.2.2.2.2.2.2.2.2.2.2.2.2.1, o.2.2.2.2.2.2.2.2.2.2.2.2.2.2.1, o.2.2.2.2.2.2.2.2.2.2.2.2.2.2.2.1, o.2.2.2.2.2.2.2.2.2.2.2.2.2.2.2.2.1, o.2.2.2.2.2.2.2.2.2.2.2.2.2.2.2.2.2.1, o.2.2.2.2.2.2.2.2.2.2.2.2.2.2.2.2.2.2.1, o.2.2.2.2.2.2.2.2.2.2.2.2.2.2.2.2.2.2.2.1, o.2.2.2.2.2.2.2.2.2.2.2.2.2.2.2.2.2.2.2.2.1, o.2.2.2.2.2.2.2.2.2.2.2.2.2.2.2.2.2.2.2.2.2.1, o.2.2.2.2.2.2.2.2.2.2.2.2.2.2.2.2.2.2.2.2.2.2.1, o.2.2.2.2.2.2.2.2.2.2.2.2.2.2.2.2.2.2.2.2.2.2.2.1, o.2.2.2.2.2.2.2.2.2.2.2.2.2.2.2.2.2.2.2.2.2.2.2.2.1, o.2.2.2.2.2.2.2.2.2.2.2.2.2.2.2.2.2.2.2.2.2.2.2.2.2.1, o.2.2.2.2.2.2.2.2.2.2.2.2.2.2.2.2.2.2.2.2.2.2.2.2.2.2)
def s_res (o : Ob) (v : List Int64) : Ob := (o.1, o.2.1, o.2.2.1, o.2.2.2.1, v, o.2.2.2.2.2.1, o.2.2.2.2.2.2.1, o.2.2.2.2.2.2.2.1, o.2.2.2.2.2.2.2.2.1, o.2.2.2.2.2.2.2.2.2.1, o.2.2.2.2.2.2.2.2.2.2.1, o.2.2.2.2.2.2.2.2.2.2.2.1, o.2.2.2.2.2.2.2.2.2.2.2.2.1, o.2.2.2.2.2.2.2.2.2.2.2.2.2.1, o.2.2.2.2.2.2.2.2.2.2.2.2.2.2.1, o.2.2.2.2.2.2.2.2.2.2.2.2.2.2.2.1, o.2.2.2.2.2.2.2.2.2.2.2.2.2.2.2.2.1, o.2.2.2.2.2.2.2.2.2.2.2.2.2.2.2.2.2.1, o.2.2.2.2.2.2.2.2.2.2.2.2.2.2.2.2.2.2.1, o.2.2.2.2.2.2.2.2.2.2.2.2.2.2.2.2.2.2.2.1, o.2.2.2.2.2.2.2.2.2.2.2.2.2.2.2.2.2.2.2.2.1, o.2.2.2.2.2.2.2.2.2.2.2.2.2.2.2.2.2.2.2.2.2.1, o.2.2.2.2.2.2.2.2.2.2.2.2.2.2.2.2.2.2.2.2.2.2.1, o.2.2.2.2.2.2.2.2.2.2.2.2.2.2.2.2.2.2.2.2.2.2.2.1, o.2.2.2.2.2.2.2.2.2.2.2.2.2.2.2.2.2.2.2.2.2.2.2.2.1, o.2.2.2.2.2.2.2.2.2.2.2.2.2.2.2.2.2.2.2.2.2.2.2.2.2.1, o.2.2.2.2.2.2.2.2.2.2.2.2.2.2.2.2.2.2.2.2.2.2.2.2.2.2)
def s_resNull (o : Ob) (v : List Int32) : Ob := (o.1, o.2.1, o.2.2.1, o.2.2.2.1, o.2.2.2.2.1, v, o.2.2.2.2.2.2.1, o.2.2.2.2.2.2.2.1, o.2.2.2.2.2.2.2.2.1, o.2.2.2.2.2.2.2.2.2.1, o.2.2.2.2.2.2.2.2.2.2.1, o.2.2.2.2.2.2.2.2.2.2.2.1, o.2.2.2.2.2.2.2.2.2.2.2.2.1, o.2.2.2.2.2.2.2.2.2.2.2.2.2.1, o.2.2.2.2.2.2.2.2.2.2.2.2.2.2.1, o.2.2.2.2.2.2.2.2.2.2.2.2.2.2.2.1, o.2.2.2.2.2.2.2.2.2.2.2.2.2.2.2.2.1, o.2.2.2.2.2.2.2.2.2.2.2.2.2.2.2.2.2.1, o.2.2.2.2.2.2.2.2.2.2.2.2.2.2.2.2.2.2.1, o.2.2.2.2.2.2.2.2.2.2.2.2.2.2.2.2.2.2.2.1, o.2.2.2.2.2.2.2.2.2.2.2.2.2.2.2.2.2.2.2.2.1, o.2.2.2.2.2.2.2.2.2.2.2.2.2.2.2.2.2.2.2.2.2.1, o.2.2.2.2.2.2.2.2.2.2.2.2.2.2.2.2.2.2.2.2.2.2.1, o.2.2.2.2.2.2.2.2.2.2.2.2.2.2.2.2.2.2.2.2.2.2.2.1, o.2.2.2.2.2.2.2.2.2.2.2.2.2.2.2.2.2.2.2.2.2.2.2.2.1, o.2.2.2.2.2.2.2.2.2.2.2.2.2.2.2.2.2.2.2.2.2.2.2.2.2.1, o.2.2.2.2.2.2.2.2.2.2.2.2.2.2.2.2.2.2.2.2.2.2.2.2.2.2)
def s_frameCnt (o : Ob) (v : List Int32) : Ob := (o.1, o.2.1, o.2.2.1, o.2.2.2.1, o.2.2.2.2.1, o.2.2.2.2.2.1, v, o.2.2.2.2.2.2.2.1, o.2.2.2.2.2.2.2.2.1, o.2.2.2.2.2.2.2.2.2.1, o.2.2.2.2.2.2.2.2.2.2.1, o.2.2.2.2.2.2.2.2.2.2.2.1, o.2.2.2.2.2.2.2.2.2.2.2.2.1, o.2.2.2.2.2.2.2.2.2.2.2.2.2.1, o.2.2.2.2.2.2.2.2.2.2.2.2.2.2.1, o.2.2.2.2.2.2.2.2.2.2.2.2.2.2.2.1, o.2.2.2.2.2.2.2.2.2.2.2.2.2.2.2.2.1, o.2.2.2.2.2.2.2.2.2.2.2.2.2.2.2.2.2.1, o.2.2.2.2.2.2.2.2.2.2.2.2.2.2.2.2.2.2.1, o.2.2.2.2.2.2.2.2.2.2.2.2.2.2.2.2.2.2.2.1, o.2.2.2.2.2.2.2.2.2.2.2.2.2.2.2.2.2.2.2.2.1, o.2.2.2.2.2.2.2.2.2.2.2.2.2.2.2.2.2.2.2.2.2.1, o.2.2.2.2.2.2.2.2.2.2.2.2.2.2.2.2.2.2.2.2.2.2.1, o.2.2.2.2.2.2.2.2.2.2.2.2.2.2.2.2.2.2.2.2.2.2.2.1, o.2.2.2.2.2.2.2.2.2.2.2.2.2.2.2.2.2.2.2.2.2.2.2.2.1, o.2.2.2.2.2.2.2.2.2.2.2.2.2.2.2.2.2.2.2.2.2.2.2.2.2.1, o.2.2.2.2.2.2.2.2.2.2.2.2.2.2.2.2.2.2.2.2.2.2.2.2.2.2)
def s_sorted (o : Ob) (v : List Int32) : Ob := (o.1, o.2.1, o.2.2.1, o.2.2.2.1, o.2.2.2.2.1, o.2.2.2.2.2.1, o.2.2.2.2.2.2.1, v, o.2.2.2.2.2.2.2.2.1, o.2.2.2.2.2.2.2.2.2.1, o.2.2.2.2.2.2.2.2.2.2.1, o.2.2.2.2.2.2.2.2.2.2.2.1, o.2.2.2.2.2.2.2.2.2.2.2.2.1, o.2.2.2.2.2.2.2.2.2.2.2.2.2.1, o.2.2.2.2.2.2.2.2.2.2.2.2.2.2.1, o.2.2.2.2.2.2.2.2.2.2.2.2.2.2.2.1, o.2.2.2.2.2.2.2.2.2.2.2.2.2.2.2.2.1, o.2.2.2.2.2.2.2.2.2.2.2.2.2.2.2.2.2.1, o.2.2.2.2.2.2.2.2.2.2.2.2.2.2.2.2.2.2.1, o.2.2.2.2.2.2.2.2.2.2.2.2.2.2.2.2.2.2.2.1, o.2.2.2.2.2.2.2.2.2.2.2.2.2.2.2.2.2.2.2.2.1, o.2.2.2.2.2.2.2.2.2.2.2.2.2.2.2.2.2.2.2.2.2.1, o.2.2.2.2.2.2.2.2.2.2.2.2.2.2.2.2.2.2.2.2.2.2.1, o.2.2.2.2.2.2.2.2.2.2.2.2.2.2.2.2.2.2.2.2.2.2.2.1, o.2.2.2.2.2.2.2.2.2.2.2.2.2.2.2.2.2.2.2.2.2.2.2.2.1, o.2.2.2.2.2.2.2.2.2.2.2.2.2.2.2.2.2.2.2.2.2.2.2.2.2.1, o.2.2.2.2.2.2.2.2.2.2.2.2.2.2.2.2.2.2.2.2.2.2.2.2.2.2)
def s_cap (o : Ob) (v : Int32) : Ob := (o.1, o.2.1, o.2.2.1, o.2.2.2.1, o.2.2.2.2.1, o.2.2.2.2.2.1, o.2.2.2.2.2.2.1, o.2.2.2.2.2.2.2.1, v, o.2.2.2.2.2.2.2.2.2.1, o.2.2.2.2.2.2.2.2.2.2.1, o.2.2.2.2.2.2.2.2.2.2.2.1, o.2.2.2.2.2.2.2.2.2.2.2.2.1, o.2.2.2.2.2.2.2.2.2.2.2.2.2.1, o.2.2.2.2.2.2.2.2.2.2.2.2.2.2.1, o.2.2.2.2.2.2.2.2.2.2.2.2.2.2.2.1, o.2.2.2.2.2.2.2.2.2.2.2.2.2.2.2.2.1, o.2.2.2.2.2.2.2.2.2.2.2.2.2.2.2.2.2.1, o.2.2.2.2.2.2.2.2.2.2.2.2.2.2.2.2.2.2.1, o.2.2.2.2.2.2.2.2.2.2.2.2.2.2.2.2.2.2.2.1, o.2.2.2.2.2.2.2.2.2.2.2.2.2.2.2.2.2.2.2.2.1, o.2.2.2.2.2.2.2.2.2.2.2.2.2.2.2.2.2.2.2.2.2.1, o.2.2.2.2.2.2.2.2.2.2.2.2.2.2.2.2.2.2.2.2.2.2.1, o.2.2.2.2.2.2.2.2.2.2.2.2.2.2.2.2.2.2.2.2.2.2.2.1, o.2.2.2.2.2.2.2.2.2.2.2.2.2.2.2.2.2.2.2.2.2.2.2.2.1, o.2.2.2.2.2.2.2.2.2.2.2.2.2.2.2.2.2.2.2.2.2.2.2.2.2.1, o.2.2.2.2.2.2.2.2.2.2.2.2.2.2.2.2.2.2.2.2.2.2.2.2.2.2)
def s_rows (o : Ob) (v : Int32) : Ob := (o.1, o.2.1, o.2.2.1, o.2.2.2.1, o.2.2.2.2.1, o.2.2.2.2.2.1, o.2.2.2.2.2.2.1, o.2.2.2.2.2.2.2.1, o.2.2.2.2.2.2.2.2.1, v, o.2.2.2.2.2.2.2.2.2.2.1, o.2.2.2.2.2.2.2.2.2.2.2.1, o.2.2.2.2.2.2.2.2.2.2.2.2.1, o.2.2.2.2.2.2.2.2.2.2.2.2.2.1, o.2.2.2.2.2.2.2.2.2.2.2.2.2.2.1, o.2.2.2.2.2.2.2.2.2.2.2.2.2.2.2.1, o.2.2.2.2.2.2.2.2.2.2.2.2.2.2.2.2.1, o.2.2.2.2.2.2.2.2.2.2.2.2.2.2.2.2.2.1, o.2.2.2.2.2.2.2.2.2.2.2.2.2.2.2.2.2.2.1, o.2.2.2.2.2.2.2.2.2.2.2.2.2.2.2.2.2.2.2.1, o.2.2.2.2.2.2.2.2.2.2.2.2.2.2.2.2.2.2.2.2.1, o.2.2.2.2.2.2.2.2.2.2.2.2.2.2.2.2.2.2.2.2.2.1, o.2.2.2.2.2.2.2.2.2.2.2.2.2.2.2.2.2.2.2.2.2.2.1, o.2.2.2.2.2.2.2.2.2.2.2.2.2.2.2.2.2.2.2.2.2.2.2.1, o.2.2.2.2.2.2.2.2.2.2.2.2.2.2.2.2.2.2.2.2.2.2.2.2.1, o.2.2.2.2.2.2.2.2.2.2.2.2.2.2.2.2.2.2.2.2.2.2.2.2.2.1, o.2.2.2.2.2.2.2.2.2.2.2.2.2.2.2.2.2.2.2.2.2.2.2.2.2.2)
def s_direction (o : Ob) (v : Int32) : Ob := (o.1, o.2.1, o.2.2.1, o.2.2.2.1, o.2.2.2.2.1, o.2.2.2.2.2.1, o.2.2.2.2.2.2.1, o.2.2.2.2.2.2.2.1, o.2.2.2.2.2.2.2.2.1, o.2.2.2.2.2.2.2.2.2.1, v, o.2.2.2.2.2.2.2.2.2.2.2.1, o.2.2.2.2.2.2.2.2.2.2.2.2.1, o.2.2.2.2.2.2.2.2.2.2.2.2.2.1, o.2.2.2.2.2.2.2.2.2.2.2.2.2.2.1, o.2.2.2.2.2.2.2.2.2.2.2.2.2.2.2.1, o.2.2.2.2.2.2.2.2.2.2.2.2.2.2.2.2.1, o.2.2.2.2.2.2.2.2.2.2.2.2.2.2.2.2.2.1, o.2.2.2.2.2.2.2.2.2.2.2.2.2.2.2.2.2.2.1, o.2.2.2.2.2.2.2.2.2.2.2.2.2.2.2.2.2.2.2.1, o.2.2.2.2.2.2.2.2.2.2.2.2.2.2.2.2.2.2.2.2.1, o.2.2.2.2.2.2.2.2.2.2.2.2.2.2.2.2.2.2.2.2.2.1, o.2.2.2.2.2.2.2.2.2.2.2.2.2.2.2.2.2.2.2.2.2.2.1, o.2.2.2.2.2.2.2.2.2.2.2.2.2.2.2.2.2.2.2.2.2.2.2.1, o.2.2.2.2.2.2.2.2.2.2.2.2.2.2.2.2.2.2.2.2.2.2.2.2.1, o.2.2.2.2.2.2.2.2.2.2.2.2.2.2.2.2.2.2.2.2.2.2.2.2.2.1, o.2.2.2.2.2.2.2.2.2.2.2.2.2.2.2.2.2.2.2.2.2.2.2.2.2.2)
def s_nulls (o : Ob) (v : Int32) : Ob := (o.1, o.2.1, o.2.2.1, o.2.2.2.1, o.2.2.2.2.1, o.2.2.2.2.2.1, o.2.2.2.2.2.2.1, o.2.2.2.2.2.2.2.1, o.2.2.2.2.2.2.2.2.1, o.2.2.2.2.2.2.2.2.2.1, o.2.2.2.2.2.2.2.2.2.2.1, v, o.2.2.2.2.2.2.2.2.2.2.2.2.1, o.2.2.2.2.2.2.2.2.2.2.2.2.2.1, o.2.2.2.2.2.2.2.2.2.2.2.2.2.2.1, o.2.2.2.2.2.2.2.2.2.2.2.2.2.2.2.1, o.2.2.2.2.2.2.2.2.2.2.2.2.2.2.2.2.1, o.2.2.2.2.2.2.2.2.2.2.2.2.2.2.2.2.2.1, o.2.2.2.2.2.2.2.2.2.2.2.2.2.2.2.2.2.2.1, o.2.2.2.2.2.2.2.2.2.2.2.2.2.2.2.2.2.2.2.1, o.2.2.2.2.2.2.2.2.2.2.2.2.2.2.2.2.2.2.2.2.1, o.2.2.2.2.2.2.2.2.2.2.2.2.2.2.2.2.2.2.2.2.2.1, o.2.2.2.2.2.2.2.2.2.2.2.2.2.2.2.2.2.2.2.2.2.2.1, o.2.2.2.2.2.2.2.2.2.2.2.2.2.2.2.2.2.2.2.2.2.2.2.1, o.2.2.2.2.2.2.2.2.2.2.2.2.2.2.2.2.2.2.2.2.2.2.2.2.1, o.2.2.2.2.2.2.2.2.2.2.2.2.2.2.2.2.2.2.2.2.2.2.2.2.2.1, o.2.2.2.2.2.2.2.2.2.2.2.2.2.2.2.2.2.2.2.2.2.2.2.2.2.2)
def s_mode (o : Ob) (v : Int32) : Ob := (o.1, o.2.1, o.2.2.1, o.2.2.2.1, o.2.2.2.2.1, o.2.2.2.2.2.1, o.2.2.2.2.2.2.1, o.2.2.2.2.2.2.2.1, o.2.2.2.2.2.2.2.2.1, o.2.2.2.2.2.2.2.2.2.1, o.2.2.2.2.2.2.2.2.2.2.1, o.2.2.2.2.2.2.2.2.2.2.2.1, v, o.2.2.2.2.2.2.2.2.2.2.2.2.2.1, o.2.2.2.2.2.2.2.2.2.2.2.2.2.2.1, o.2.2.2.2.2.2.2.2.2.2.2.2.2.2.2.1, o.2.2.2.2.2.2.2.2.2.2.2.2.2.2.2.2.1, o.2.2.2.2.2.2.2.2.2.2.2.2.2.2.2.2.2.1, o.2.2.2.2.2.2.2.2.2.2.2.2.2.2.2.2.2.2.1, o.2.2.2.2.2.2.2.2.2.2.2.2.2.2.2.2.2.2.2.1, o.2.2.2.2.2.2.2.2.2.2.2.2.2.2.2.2.2.2.2.2.1, o.2.2.2.2.2.2.2.2.2.2.2.2.2.2.2.2.2.2.2.2.2.1, o.2.2.2.2.2.2.2.2.2.2.2.2.2.2.2.2.2.2.2.2.2.2.1, o.2.2.2.2.2.2.2.2.2.2.2.2.2.2.2.2.2.2.2.2.2.2.2.1, o.2.2.2.2.2.2.2.2.2.2.2.2.2.2.2.2.2.2.2.2.2.2.2.2.1, o.2.2.2.2.2.2.2.2.2.2.2.2.2.2.2.2.2.2.2.2.2.2.2.2.2.1, o.2.2.2.2.2.2.2.2.2.2.2.2.2.2.2.2.2.2.2.2.2.2.2.2.2.2)
def s_startKind (o : Ob) (v : Int32) : Ob := (o.1, o.2.1, o.2.2.1, o.2.2.2.1, o.2.2.2.2.1, o.2.2.2.2.2.1, o.2.2.2.2.2.2.1, o.2.2.2.2.2.2.2.1, o.2.2.2.2.2.2.2.2.1, o.2.2.2.2.2.2.2.2.2.1, o.2.2.2.2.2.2.2.2.2.2.1, o.2.2.2.2.2.2.2.2.2.2.2.1, o.2.2.2.2.2.2.2.2.2.2.2.2.1, v, o.2.2.2.2.2.2.2.2.2.2.2.2.2.2.1, o.2.2.2.2.2.2.2.2.2.2.2.2.2.2.2.1, o.2.2.2.2.2.2.2.2.2.2.2.2.2.2.2.2.1, o.2.2.2.2.2.2.2.2.2.2.2.2.2.2.2.2.2.1, o.2.2.2.2.2.2.2.2.2.2.2.2.2.2.2.2.2.2.1, o.2.2.2.2.2.2.2.2.2.2.2.2.2.2.2.2.2.2.2.1, o.2.2.2.2.2.2.2.2.2.2.2.2.2.2.2.2.2.2.2.2.1, o.2.2.2.2.2.2.2.2.2.2.2.2.2.2.2.2.2.2.2.2.2.1, o.2.2.2.2.2.2.2.2.2.2.2.2.2.2.2.2.2.2.2.2.2.2.1, o.2.2.2.2.2.2.2.2.2.2.2.2.2.2.2.2.2.2.2.2.2.2.2.1, o.2.2.2.2.2.2.2.2.2.2.2.2.2.2.2.2.2.2.2.2.2.2.2.2.1, o.2.2.2.2.2.2.2.2.2.2.2.2.2.2.2.2.2.2.2.2.2.2.2.2.2.1, o.2.2.2.2.2.2.2.2.2.2.2.2.2.2.2.2.2.2.2.2.2.2.2.2.2.2)
def s_startOff (o : Ob) (v : Int32) : Ob := (o.1, o.2.1, o.2.2.1, o.2.2.2.1, o.2.2.2.2.1, o.2.2.2.2.2.1, o.2.2.2.2.2.2.1, o.2.2.2.2.2.2.2.1, o.2.2.2.2.2.2.2.2.1, o.2.2.2.2.2.2.2.2.2.1, o.2.2.2.2.2.2.2.2.2.2.1, o.2.2.2.2.2.2.2.2.2.2.2.1, o.2.2.2.2.2.2.2.2.2.2.2.2.1, o.2.2.2.2.2.2.2.2.2.2.2.2.2.1, v, o.2.2.2.2.2.2.2.2.2.2.2.2.2.2.2.1, o.2.2.2.2.2.2.2.2.2.2.2.2.2.2.2.2.1, o.2.2.2.2.2.2.2.2.2.2.2.2.2.2.2.2.2.1, o.2.2.2.2.2.2.2.2.2.2.2.2.2.2.2.2.2.2.1, o.2.2.2.2.2.2.2.2.2.2.2.2.2.2.2.2.2.2.2.1, o.2.2.2.2.2.2.2.2.2.2.2.2.2.2.2.2.2.2.2.2.1, o.2.2.2.2.2.2.2.2.2.2.2.2.2.2.2.2.2.2.2.2.2.1, o.2.2.2.2.2.2.2.2.2.2.2.2.2.2.2.2.2.2.2.2.2.2.1, o.2.2.2.2.2.2.2.2.2.2.2.2.2.2.2.2.2.2.2.2.2.2.2.1, o.2.2.2.2.2.2.2.2.2.2.2.2.2.2.2.2.2.2.2.2.2.2.2.2.1, o.2.2.2.2.2.2.2.2.2.2.2.2.2.2.2.2.2.2.2.2.2.2.2.2.2.1, o.2.2.2.2.2.2.2.2.2.2.2.2.2.2.2.2.2.2.2.2.2.2.2.2.2.2)
def s_endKind (o : Ob) (v : Int32) : Ob := (o.1, o.2.1, o.2.2.1, o.2.2.2.1, o.2.2.2.2.1, o.2.2.2.2.2.1, o.2.2.2.2.2.2.1, o.2.2.2.2.2.2.2.1, o.2.2.2.2.2.2.2.2.1, o.2.2.2.2.2.2.2.2.2.1, o.2.2.2.2.2.2.2.2.2.2.1, o.2.2.2.2.2.2.2.2.2.2.2.1, o.2.2.2.2.2.2.2.2.2.2.2.2.1, o.2.2.2.2.2.2.2.2.2.2.2.2.2.1, o.2.2.2.2.2.2.2.2.2.2.2.2.2.2.1, v, o.2.2.2.2.2.2.2.2.2.2.2.2.2.2.2.2.1, o.2.2.2.2.2.2.2.2.2.2.2.2.2.2.2.2.2.1, o.2.2.2.2.2.2.2.2.2.2.2.2.2.2.2.2.2.2.1, o.2.2.2.2.2.2.2.2.2.2.2.2.2.2.2.2.2.2.2.1, o.2.2.2.2.2.2.2.2.2.2.2.2.2.2.2.2.2.2.2.2.1, o.2.2.2.2.2.2.2.2.2.2.2.2.2.2.2.2.2.2.2.2.2.1, o.2.2.2.2.2.2.2.2.2.2.2.2.2.2.2.2.2.2.2.2.2.2.1, o.2.2.2.2.2.2.2.2.2.2.2.2.2.2.2.2.2.2.2.2.2.2.2.1, o.2.2.2.2.2.2.2.2.2.2.2.2.2.2.2.2.2.2.2.2.2.2.2.2.1, o.2.2.2.2.2.2.2.2.2.2.2.2.2.2.2.2.2.2.2.2.2.2.2.2.2.1, o.2.2.2.2.2.2.2.2.2.2.2.2.2.2.2.2.2.2.2.2.2.2.2.2.2.2)
def s_endOff (o : Ob) (v : Int32) : Ob := (o.1, o.2.1, o.2.2.1, o.2.2.2.1, o.2.2.2.2.1, o.2.2.2.2.2.1, o.2.2.2.2.2.2.1, o.2.2.2.2.2.2.2.1, o.2.2.2.2.2.2.2.2.1, o.2.2.2.2.2.2.2.2.2.1, o.2.2.2.2.2.2.2.2.2.2.1, o.2.2.2.2.2.2.2.2.2.2.2.1, o.2.2.2.2.2.2.2.2.2.2.2.2.1, o.2.2.2.2.2.2.2.2.2.2.2.2.2.1, o.2.2.2.2.2.2.2.2.2.2.2.2.2.2.1, o.2.2.2.2.2.2.2.2.2.2.2.2.2.2.2.1, v, o.2.2.2.2.2.2.2.2.2.2.2.2.2.2.2.2.2.1, o.2.2.2.2.2.2.2.2.2.2.2.2.2.2.2.2.2.2.1, o.2.2.2.2.2.2.2.2.2.2.2.2.2.2.2.2.2.2.2.1, o.2.2.2.2.2.2.2.2.2.2.2.2.2.2.2.2.2.2.2.2.1, o.2.2.2.2.2.2.2.2.2.2.2.2.2.2.2.2.2.2.2.2.2.1, o.2.2.2.2.2.2.2.2.2.2.2.2.2.2.2.2.2.2.2.2.2.2.1, o.2.2.2.2.2.2.2.2.2.2.2.2.2.2.2.2.2.2.2.2.2.2.2.1, o.2.2.2.2.2.2.2.2.2.2.2.2.2.2.2.2.2.2.2.2.2.2.2.2.1, o.2.2.2.2.2.2.2.2.2.2.2.2.2.2.2.2.2.2.2.2.2.2.2.2.2.1, o.2.2.2.2.2.2.2.2.2.2.2.2.2.2.2.2.2.2.2.2.2.2.2.2.2.2)
def s_fn (o : Ob) (v : Int32) : Ob := (o.1, o.2.1, o.2.2.1, o.2.2.2.1, o.2.2.2.2.1, o.2.2.2.2.2.1, o.2.2.2.2.2.2.1, o.2.2.2.2.2.2.2.1, o.2.2.2.2.2.2.2.2.1, o.2.2.2.2.2.2.2.2.2.1, o.2.2.2.2.2.2.2.2.2.2.1, o.2.2.2.2.2.2.2.2.2.2.2.1, o.2.2.2.2.2.2.2.2.2.2.2.2.1, o.2.2.2.2.2.2.2.2.2.2.2.2.2.1, o.2.2.2.2.2.2.2.2.2.2.2.2.2.2.1, o.2.2.2.2.2.2.2.2.2.2.2.2.2.2.2.1, o.2.2.2.2.2.2.2.2.2.2.2.2.2.2.2.2.1, v, o.2.2.2.2.2.2.2.2.2.2.2.2.2.2.2.2.2.2.1, o.2.2.2.2.2.2.2.2.2.2.2.2.2.2.2.2.2.2.2.1, o.2.2.2.2.2.2.2.2.2.2.2.2.2.2.2.2.2.2.2.2.1, o.2.2.2.2.2.2.2.2.2.2.2.2.2.2.2.2.2.2.2.2.2.1, o.2.2.2.2.2.2.2.2.2.2.2.2.2.2.2.2.2.2.2.2.2.2.1, o.2.2.2.2.2.2.2.2.2.2.2.2.2.2.2.2.2.2.2.2.2.2.2.1, o.2.2.2.2.2.2.2.2.2.2.2.2.2.2.2.2.2.2.2.2.2.2.2.2.1, o.2.2.2.2.2.2.2.2.2.2.2.2.2.2.2.2.2.2.2.2.2.2.2.2.2.1, o.2.2.2.2.2.2.2.2.2.2.2.2.2.2.2.2.2.2.2.2.2.2.2.2.2.2)
def s_fnArg (o : Ob) (v : Int32) : Ob := (o.1, o.2.1, o.2.2.1, o.2.2.2.1, o.2.2.2.2.1, o.2.2.2.2.2.1, o.2.2.2.2.2.2.1, o.2.2.2.2.2.2.2.1, o.2.2.2.2.2.2.2.2.1, o.2.2.2.2.2.2.2.2.2.1, o.2.2.2.2.2.2.2.2.2.2.1, o.2.2.2.2.2.2.2.2.2.2.2.1, o.2.2.2.2.2.2.2.2.2.2.2.2.1, o.2.2.2.2.2.2.2.2.2.2.2.2.2.1, o.2.2.2.2.2.2.2.2.2.2.2.2.2.2.1, o.2.2.2.2.2.2.2.2.2.2.2.2.2.2.2.1, o.2.2.2.2.2.2.2.2.2.2.2.2.2.2.2.2.1, o.2.2.2.2.2.2.2.2.2.2.2.2.2.2.2.2.2.1, v, o.2.2.2.2.2.2.2.2.2.2.2.2.2.2.2.2.2.2.2.1, o.2.2.2.2.2.2.2.2.2.2.2.2.2.2.2.2.2.2.2.2.1, o.2.2.2.2.2.2.2.2.2.2.2.2.2.2.2.2.2.2.2.2.2.1, o.2.2.2.2.2.2.2.2.2.2.2.2.2.2.2.2.2.2.2.2.2.2.1, o.2.2.2.2.2.2.2.2.2.2.2.2.2.2.2.2.2.2.2.2.2.2.2.1, o.2.2.2.2.2.2.2.2.2.2.2.2.2.2.2.2.2.2.2.2.2.2.2.2.1, o.2.2.2.2.2.2.2.2.2.2.2.2.2.2.2.2.2.2.2.2.2.2.2.2.2.1, o.2.2.2.2.2.2.2.2.2.2.2.2.2.2.2.2.2.2.2.2.2.2.2.2.2.2)
def s_computed (o : Ob) (v : Int32) : Ob := (o.1, o.2.1, o.2.2.1, o.2.2.2.1, o.2.2.2.2.1, o.2.2.2.2.2.1, o.2.2.2.2.2.2.1, o.2.2.2.2.2.2.2.1, o.2.2.2.2.2.2.2.2.1, o.2.2.2.2.2.2.2.2.2.1, o.2.2.2.2.2.2.2.2.2.2.1, o.2.2.2.2.2.2.2.2.2.2.2.1, o.2.2.2.2.2.2.2.2.2.2.2.2.1, o.2.2.2.2.2.2.2.2.2.2.2.2.2.1, o.2.2.2.2.2.2.2.2.2.2.2.2.2.2.1, o.2.2.2.2.2.2.2.2.2.2.2.2.2.2.2.1, o.2.2.2.2.2.2.2.2.2.2.2.2.2.2.2.2.1, o.2.2.2.2.2.2.2.2.2.2.2.2.2.2.2.2.2.1, o.2.2.2.2.2.2.2.2.2.2.2.2.2.2.2.2.2.2.1, v, o.2.2.2.2.2.2.2.2.2.2.2.2.2.2.2.2.2.2.2.2.1, o.2.2.2.2.2.2.2.2.2.2.2.2.2.2.2.2.2.2.2.2.2.1, o.2.2.2.2.2.2.2.2.2.2.2.2.2.2.2.2.2.2.2.2.2.2.1, o.2.2.2.2.2.2.2.2.2.2.2.2.2.2.2.2.2.2.2.2.2.2.2.1, o.2.2.2.2.2.2.2.2.2.2.2.2.2.2.2.2.2.2.2.2.2.2.2.2.1, o.2.2.2.2.2.2.2.2.2.2.2.2.2.2.2.2.2.2.2.2.2.2.2.2.2.1, o.2.2.2.2.2.2.2.2.2.2.2.2.2.2.2.2.2.2.2.2.2.2.2.2.2.2)
def s_sortedLen (o : Ob) (v : Int32) : Ob := (o.1, o.2.1, o.2.2.1, o.2.2.2.1, o.2.2.2.2.1, o.2.2.2.2.2.1, o.2.2.2.2.2.2.1, o.2.2.2.2.2.2.2.1, o.2.2.2.2.2.2.2.2.1, o.2.2.2.2.2.2.2.2.2.1, o.2.2.2.2.2.2.2.2.2.2.1, o.2.2.2.2.2.2.2.2.2.2.2.1, o.2.2.2.2.2.2.2.2.2.2.2.2.1, o.2.2.2.2.2.2.2.2.2.2.2.2.2.1, o.2.2.2.2.2.2.2.2.2.2.2.2.2.2.1, o.2.2.2.2.2.2.2.2.2.2.2.2.2.2.2.1, o.2.2.2.2.2.2.2.2.2.2.2.2.2.2.2.2.1, o.2.2.2.2.2.2.2.2.2.2.2.2.2.2.2.2.2.1, o.2.2.2.2.2.2.2.2.2.2.2.2.2.2.2.2.2.2.1, o.2.2.2.2.2.2.2.2.2.2.2.2.2.2.2.2.2.2.2.1, v, o.2.2.2.2.2.2.2.2.2.2.2.2.2.2.2.2.2.2.2.2.2.1, o.2.2.2.2.2.2.2.2.2.2.2.2.2.2.2.2.2.2.2.2.2.2.1, o.2.2.2.2.2.2.2.2.2.2.2.2.2.2.2.2.2.2.2.2.2.2.2.1, o.2.2.2.2.2.2.2.2.2.2.2.2.2.2.2.2.2.2.2.2.2.2.2.2.1, o.2.2.2.2.2.2.2.2.2.2.2.2.2.2.2.2.2.2.2.2.2.2.2.2.2.1, o.2.2.2.2.2.2.2.2.2.2.2.2.2.2.2.2.2.2.2.2.2.2.2.2.2.2)
def s_curPos (o : Ob) (v : Int32) : Ob := (o.1, o.2.1, o.2.2.1, o.2.2.2.1, o.2.2.2.2.1, o.2.2.2.2.2.1, o.2.2.2.2.2.2.1, o.2.2.2.2.2.2.2.1, o.2.2.2.2.2.2.2.2.1, o.2.2.2.2.2.2.2.2.2.1, o.2.2.2.2.2.2.2.2.2.2.1, o.2.2.2.2.2.2.2.2.2.2.2.1, o.2.2.2.2.2.2.2.2.2.2.2.2.1, o.2.2.2.2.2.2.2.2.2.2.2.2.2.1, o.2.2.2.2.2.2.2.2.2.2.2.2.2.2.1, o.2.2.2.2.2.2.2.2.2.2.2.2.2.2.2.1, o.2.2.2.2.2.2.2.2.2.2.2.2.2.2.2.2.1, o.2.2.2.2.2.2.2.2.2.2.2.2.2.2.2.2.2.1, o.2.2.2.2.2.2.2.2.2.2.2.2.2.2.2.2.2.2.1, o.2.2.2.2.2.2.2.2.2.2.2.2.2.2.2.2.2.2.2.1, o.2.2.2.2.2.2.2.2.2.2.2.2.2.2.2.2.2.2.2.2.1, v, o.2.2.2.2.2.2.2.2.2.2.2.2.2.2.2.2.2.2.2.2.2.2.1, o.2.2.2.2.2.2.2.2.2.2.2.2.2.2.2.2.2.2.2.2.2.2.2.1, o.2.2.2.2.2.2.2.2.2.2.2.2.2.2.2.2.2.2.2.2.2.2.2.2.1, o.2.2.2.2.2.2.2.2.2.2.2.2.2.2.2.2.2.2.2.2.2.2.2.2.2.1, o.2.2.2.2.2.2.2.2.2.2.2.2.2.2.2.2.2.2.2.2.2.2.2.2.2.2)
def s_aggSum (o : Ob) (v : Int64) : Ob := (o.1, o.2.1, o.2.2.1, o.2.2.2.1, o.2.2.2.2.1, o.2.2.2.2.2.1, o.2.2.2.2.2.2.1, o.2.2.2.2.2.2.2.1, o.2.2.2.2.2.2.2.2.1, o.2.2.2.2.2.2.2.2.2.1, o.2.2.2.2.2.2.2.2.2.2.1, o.2.2.2.2.2.2.2.2.2.2.2.1, o.2.2.2.2.2.2.2.2.2.2.2.2.1, o.2.2.2.2.2.2.2.2.2.2.2.2.2.1, o.2.2.2.2.2.2.2.2.2.2.2.2.2.2.1, o.2.2.2.2.2.2.2.2.2.2.2.2.2.2.2.1, o.2.2.2.2.2.2.2.2.2.2.2.2.2.2.2.2.1, o.2.2.2.2.2.2.2.2.2.2.2.2.2.2.2.2.2.1, o.2.2.2.2.2.2.2.2.2.2.2.2.2.2.2.2.2.2.1, o.2.2.2.2.2.2.2.2.2.2.2.2.2.2.2.2.2.2.2.1, o.2.2.2.2.2.2.2.2.2.2.2.2.2.2.2.2.2.2.2.2.1, o.2.2.2.2.2.2.2.2.2.2.2.2.2.2.2.2.2.2.2.2.2.1, v, o.2.2.2.2.2.2.2.2.2.2.2.2.2.2.2.2.2.2.2.2.2.2.2.1, o.2.2.2.2.2.2.2.2.2.2.2.2.2.2.2.2.2.2.2.2.2.2.2.2.1, o.2.2.2.2.2.2.2.2.2.2.2.2.2.2.2.2.2.2.2.2.2.2.2.2.2.1, o.2.2.2.2.2.2.2.2.2.2.2.2.2.2.2.2.2.2.2.2.2.2.2.2.2.2)
def s_aggCount (o : Ob) (v : Int32) : Ob := (o.1, o.2.1, o.2.2.1, o.2.2.2.1, o.2.2.2.2.1, o.2.2.2.2.2.1, o.2.2.2.2.2.2.1, o.2.2.2.2.2.2.2.1, o.2.2.2.2.2.2.2.2.1, o.2.2.2.2.2.2.2.2.2.1, o.2.2.2.2.2.2.2.2.2.2.1, o.2.2.2.2.2.2.2.2.2.2.2.1, o.2.2.2.2.2.2.2.2.2.2.2.2.1, o.2.2.2.2.2.2.2.2.2.2.2.2.2.1, o.2.2.2.2.2.2.2.2.2.2.2.2.2.2.1, o.2.2.2.2.2.2.2.2.2.2.2.2.2.2.2.1, o.2.2.2.2.2.2.2.2.2.2.2.2.2.2.2.2.1, o.2.2.2.2.2.2.2.2.2.2.2.2.2.2.2.2.2.1, o.2.2.2.2.2.2.2.2.2.2.2.2.2.2.2.2.2.2.1, o.2.2.2.2.2.2.2.2.2.2.2.2.2.2.2.2.2.2.2.1, o.2.2.2.2.2.2.2.2.2.2.2.2.2.2.2.2.2.2.2.2.1, o.2.2.2.2.2.2.2.2.2.2.2.2.2.2.2.2.2.2.2.2.2.1, o.2.2.2.2.2.2.2.2.2.2.2.2.2.2.2.2.2.2.2.2.2.2.1, v, o.2.2.2.2.2.2.2.2.2.2.2.2.2.2.2.2.2.2.2.2.2.2.2.2.1, o.2.2.2.2.2.2.2.2.2.2.2.2.2.2.2.2.2.2.2.2.2.2.2.2.2.1, o.2.2.2.2.2.2.2.2.2.2.2.2.2.2.2.2.2.2.2.2.2.2.2.2.2.2)
def s_aggRows (o : Ob) (v : Int32) : Ob := (o.1, o.2.1, o.2.2.1, o.2.2.2.1, o.2.2.2.2.1, o.2.2.2.2.2.1, o.2.2.2.2.2.2.1, o.2.2.2.2.2.2.2.1, o.2.2.2.2.2.2.2.2.1, o.2.2.2.2.2.2.2.2.2.1, o.2.2.2.2.2.2.2.2.2.2.1, o.2.2.2.2.2.2.2.2.2.2.2.1, o.2.2.2.2.2.2.2.2.2.2.2.2.1, o.2.2.2.2.2.2.2.2.2.2.2.2.2.1, o.2.2.2.2.2.2.2.2.2.2.2.2.2.2.1, o.2.2.2.2.2.2.2.2.2.2.2.2.2.2.2.1, o.2.2.2.2.2.2.2.2.2.2.2.2.2.2.2.2.1, o.2.2.2.2.2.2.2.2.2.2.2.2.2.2.2.2.2.1, o.2.2.2.2.2.2.2.2.2.2.2.2.2.2.2.2.2.2.1, o.2.2.2.2.2.2.2.2.2.2.2.2.2.2.2.2.2.2.2.1, o.2.2.2.2.2.2.2.2.2.2.2.2.2.2.2.2.2.2.2.2.1, o.2.2.2.2.2.2.2.2.2.2.2.2.2.2.2.2.2.2.2.2.2.1, o.2.2.2.2.2.2.2.2.2.2.2.2.2.2.2.2.2.2.2.2.2.2.1, o.2.2.2.2.2.2.2.2.2.2.2.2.2.2.2.2.2.2.2.2.2.2.2.1, v, o.2.2.2.2.2.2.2.2.2.2.2.2.2.2.2.2.2.2.2.2.2.2.2.2.2.1, o.2.2.2.2.2.2.2.2.2.2.2.2.2.2.2.2.2.2.2.2.2.2.2.2.2.2)
def s_aggMin (o : Ob) (v : Int32) : Ob := (o.1, o.2.1, o.2.2.1, o.2.2.2.1, o.2.2.2.2.1, o.2.2.2.2.2.1, o.2.2.2.2.2.2.1, o.2.2.2.2.2.2.2.1, o.2.2.2.2.2.2.2.2.1, o.2.2.2.2.2.2.2.2.2.1, o.2.2.2.2.2.2.2.2.2.2.1, o.2.2.2.2.2.2.2.2.2.2.2.1, o.2.2.2.2.2.2.2.2.2.2.2.2.1, o.2.2.2.2.2.2.2.2.2.2.2.2.2.1, o.2.2.2.2.2.2.2.2.2.2.2.2.2.2.1, o.2.2.2.2.2.2.2.2.2.2.2.2.2.2.2.1, o.2.2.2.2.2.2.2.2.2.2.2.2.2.2.2.2.1, o.2.2.2.2.2.2.2.2.2.2.2.2.2.2.2.2.2.1, o.2.2.2.2.2.2.2.2.2.2.2.2.2.2.2.2.2.2.1, o.2.2.2.2.2.2.2.2.2.2.2.2.2.2.2.2.2.2.2.1, o.2.2.2.2.2.2.2.2.2.2.2.2.2.2.2.2.2.2.2.2.1, o.2.2.2.2.2.2.2.2.2.2.2.2.2.2.2.2.2.2.2.2.2.1, o.2.2.2.2.2.2.2.2.2.2.2.2.2.2.2.2.2.2.2.2.2.2.1, o.2.2.2.2.2.2.2.2.2.2.2.2.2.2.2.2.2.2.2.2.2.2.2.1, o.2.2.2.2.2.2.2.2.2.2.2.2.2.2.2.2.2.2.2.2.2.2.2.2.1, v, o.2.2.2.2.2.2.2.2.2.2.2.2.2.2.2.2.2.2.2.2.2.2.2.2.2.2)
def s_aggMax (o : Ob) (v : Int32) : Ob := (o.1, o.2.1, o.2.2.1, o.2.2.2.1, o.2.2.2.2.1, o.2.2.2.2.2.1, o.2.2.2.2.2.2.1, o.2.2.2.2.2.2.2.1, o.2.2.2.2.2.2.2.2.1, o.2.2.2.2.2.2.2.2.2.1, o.2.2.2.2.2.2.2.2.2.2.1, o.2.2.2.2.2.2.2.2.2.2.2.1, o.2.2.2.2.2.2.2.2.2.2.2.2.1, o.2.2.2.2.2.2.2.2.2.2.2.2.2.1, o.2.2.2.2.2.2.2.2.2.2.2.2.2.2.1, o.2.2.2.2.2.2.2.2.2.2.2.2.2.2.2.1, o.2.2.2.2.2.2.2.2.2.2.2.2.2.2.2.2.1, o.2.2.2.2.2.2.2.2.2.2.2.2.2.2.2.2.2.1, o.2.2.2.2.2.2.2.2.2.2.2.2.2.2.2.2.2.2.1, o.2.2.2.2.2.2.2.2.2.2.2.2.2.2.2.2.2.2.2.1, o.2.2.2.2.2.2.2.2.2.2.2.2.2.2.2.2.2.2.2.2.1, o.2.2.2.2.2.2.2.2.2.2.2.2.2.2.2.2.2.2.2.2.2.1, o.2.2.2.2.2.2.2.2.2.2.2.2.2.2.2.2.2.2.2.2.2.2.1, o.2.2.2.2.2.2.2.2.2.2.2.2.2.2.2.2.2.2.2.2.2.2.2.1, o.2.2.2.2.2.2.2.2.2.2.2.2.2.2.2.2.2.2.2.2.2.2.2.2.1, o.2.2.2.2.2.2.2.2.2.2.2.2.2.2.2.2.2.2.2.2.2.2.2.2.2.1, v)
theorem fs (o : Ob) : f_part o = o.1 ∧ f_keys o = o.2.1 ∧ f_vals o = o.2.2.1 ∧ f_flg o = o.2.2.2.1 ∧ f_res o = o.2.2.2.2.1 ∧ f_resNull o = o.2.2.2.2.2.1 ∧ f_frameCnt o = o.2.2.2.2.2.2.1 ∧ f_sorted o = o.2.2.2.2.2.2.2.1 ∧ f_cap o = o.2.2.2.2.2.2.2.2.1 ∧ f_rows o = o.2.2.2.2.2.2.2.2.2.1 ∧ f_direction o = o.2.2.2.2.2.2.2.2.2.2.1 ∧ f_nulls o = o.2.2.2.2.2.2.2.2.2.2.2.1 ∧ f_mode o = o.2.2.2.2.2.2.2.2.2.2.2.2.1 ∧ f_startKind o = o.2.2.2.2.2.2.2.2.2.2.2.2.2.1 ∧ f_startOff o = o.2.2.2.2.2.2.2.2.2.2.2.2.2.2.1 ∧ f_endKind o = o.2.2.2.2.2.2.2.2.2.2.2.2.2.2.2.1 ∧ f_endOff o = o.2.2.2.2.2.2.2.2.2.2.2.2.2.2.2.2.1 ∧ f_fn o = o.2.2.2.2.2.2.2.2.2.2.2.2.2.2.2.2.2.1 ∧ f_fnArg o = o.2.2.2.2.2.2.2.2.2.2.2.2.2.2.2.2.2.2.1 ∧ f_computed o = o.2.2.2.2.2.2.2.2.2.2.2.2.2.2.2.2.2.2.2.1 ∧ f_sortedLen o = o.2.2.2.2.2.2.2.2.2.2.2.2.2.2.2.2.2.2.2.2.1 ∧ f_curPos o = o.2.2.2.2.2.2.2.2.2.2.2.2.2.2.2.2.2.2.2.2.2.1 ∧ f_aggSum o = o.2.2.2.2.2.2.2.2.2.2.2.2.2.2.2.2.2.2.2.2.2.2.1 ∧ f_aggCount o = o.2.2.2.2.2.2.2.2.2.2.2.2.2.2.2.2.2.2.2.2.2.2.2.1 ∧ f_aggRows o = o.2.2.2.2.2.2.2.2.2.2.2.2.2.2.2.2.2.2.2.2.2.2.2.2.1 ∧ f_aggMin o = o.2.2.2.2.2.2.2.2.2.2.2.2.2.2.2.2.2.2.2.2.2.2.2.2.2.1 ∧ f_aggMax o = o.2.2.2.2.2.2.2.2.2.2.2.2.2.2.2.2.2.2.2.2.2.2.2.2.2.2 := by simp only [f_part, f_keys, f_vals, f_flg, f_res, f_resNull, f_frameCnt, f_sorted, f_cap, f_rows, f_direction, f_nulls, f_mode, f_startKind, f_startOff, f_endKind, f_endOff, f_fn, f_fnArg, f_computed, f_sortedLen, f_curPos, f_aggSum, f_aggCount, f_aggRows, f_aggMin, f_aggMax, and_self]
def ob0 : Ob := ([], [], [], [], [], [], [], [], 0, 0, 0, 0, 0, 0, 0, 0, 0, 0, 0, 0, 0, 0, 0, 0, 0, 0, 0)
section Walks
variable {l : Launch} {Z : State} {n0 : Nat} {ad : Nat → Addr} {a0 : Array Value}
set_option maxRecDepth 20000
abbrev tt : Bool := true
abbrev ff : Bool := false
open QTri renaming steps → zS, brT → zT, brF → zF, bnd → zB, mask → zM
open Option (bind_eq_some_iff)
open Classical (em)
def H0 (s : List Int32) (o0 : Ob) : QHeap := [.inr (.inl (.int, s)), .inl [.ref 2, .ref 3, .ref 4, .ref 5, .ref 6, .ref 7, .ref 8, .ref 9, .int (f_cap o0), .int (f_rows o0), .int (f_direction o0), .int (f_nulls o0), .int (f_mode o0), .int (f_startKind o0), .int (f_startOff o0), .int (f_endKind o0), .int (f_endOff o0), .int (f_fn o0), .int (f_fnArg o0), .int (f_computed o0), .int (f_sortedLen o0), .int (f_curPos o0), .long (f_aggSum o0), .int (f_aggCount o0), .int (f_aggRows o0), .int (f_aggMin o0), .int (f_aggMax o0)], .inr (.inl (.int, (f_part o0))), .inr (.inl (.int, (f_keys o0))), .inr (.inl (.int, (f_vals o0))), .inr (.inl (.int, (f_flg o0))), .inr (.inr (f_res o0)), .inr (.inl (.boolean, (f_resNull o0))), .inr (.inl (.int, (f_frameCnt o0))), .inr (.inl (.int, (f_sorted o0)))]
def H0v (s : List Int32) (a0_0 : List Int32) (a0_1 : List Int32) (a0_2 : List Int32) (a0_3 : List Int32) (a0_4 : List Int64) (a0_5 : List Int32) (a0_6 : List Int32) (a0_7 : List Int32) (a0_8 : Int32) (a0_9 : Int32) (a0_10 : Int32) (a0_11 : Int32) (a0_12 : Int32) (a0_13 : Int32) (a0_14 : Int32) (a0_15 : Int32) (a0_16 : Int32) (a0_17 : Int32) (a0_18 : Int32) (a0_19 : Int32) (a0_20 : Int32) (a0_21 : Int32) (a0_22 : Int64) (a0_23 : Int32) (a0_24 : Int32) (a0_25 : Int32) (a0_26 : Int32) : QHeap := [.inr (.inl (.int, s)), .inl [.ref 2, .ref 3, .ref 4, .ref 5, .ref 6, .ref 7, .ref 8, .ref 9, .int a0_8, .int a0_9, .int a0_10, .int a0_11, .int a0_12, .int a0_13, .int a0_14, .int a0_15, .int a0_16, .int a0_17, .int a0_18, .int a0_19, .int a0_20, .int a0_21, .long a0_22, .int a0_23, .int a0_24, .int a0_25, .int a0_26], .inr (.inl (.int, a0_0)), .inr (.inl (.int, a0_1)), .inr (.inl (.int, a0_2)), .inr (.inl (.int, a0_3)), .inr (.inr a0_4), .inr (.inl (.boolean, a0_5)), .inr (.inl (.int, a0_6)), .inr (.inl (.int, a0_7))]
def H0x0 (s : List Int32) (o0 : Ob) (a0_0 : List Int32) (a0_1 : List Int32) (a0_2 : List Int32) (a0_3 : List Int32) (a0_4 : List Int64) (a0_5 : List Int32) (a0_6 : List Int32) (a0_7 : List Int32) : QHeap := H0v s a0_0 a0_1 a0_2 a0_3 a0_4 a0_5 a0_6 a0_7 (f_cap o0) (f_rows o0) (f_direction o0) (f_nulls o0) (f_mode o0) (f_startKind o0) (f_startOff o0) (f_endKind o0) (f_endOff o0) (f_fn o0) (f_fnArg o0) (f_computed o0) (f_sortedLen o0) (f_curPos o0) (f_aggSum o0) (f_aggCount o0) (f_aggRows o0) (f_aggMin o0) (f_aggMax o0)
def H0x1 (s : List Int32) (o0 : Ob) (a0_0 : List Int32) (a0_1 : List Int32) (a0_2 : List Int32) (a0_3 : List Int32) (a0_4 : List Int64) (a0_5 : List Int32) (a0_6 : List Int32) (a0_7 : List Int32) (a0_8 : Int32) : QHeap := H0v s a0_0 a0_1 a0_2 a0_3 a0_4 a0_5 a0_6 a0_7 a0_8 (f_rows o0) (f_direction o0) (f_nulls o0) (f_mode o0) (f_startKind o0) (f_startOff o0) (f_endKind o0) (f_endOff o0) (f_fn o0) (f_fnArg o0) (f_computed o0) (f_sortedLen o0) (f_curPos o0) (f_aggSum o0) (f_aggCount o0) (f_aggRows o0) (f_aggMin o0) (f_aggMax o0)
def H0x2 (s : List Int32) (o0 : Ob) (a0_0 : List Int32) (a0_1 : List Int32) (a0_2 : List Int32) (a0_3 : List Int32) (a0_4 : List Int64) (a0_5 : List Int32) (a0_6 : List Int32) (a0_7 : List Int32) (a0_8 : Int32) (a0_9 : Int32) : QHeap := H0v s a0_0 a0_1 a0_2 a0_3 a0_4 a0_5 a0_6 a0_7 a0_8 a0_9 (f_direction o0) (f_nulls o0) (f_mode o0) (f_startKind o0) (f_startOff o0) (f_endKind o0) (f_endOff o0) (f_fn o0) (f_fnArg o0) (f_computed o0) (f_sortedLen o0) (f_curPos o0) (f_aggSum o0) (f_aggCount o0) (f_aggRows o0) (f_aggMin o0) (f_aggMax o0)
def H0x3 (s : List Int32) (o0 : Ob) (a0_10 : Int32) : QHeap := H0v s (f_part o0) (f_keys o0) (f_vals o0) (f_flg o0) (f_res o0) (f_resNull o0) (f_frameCnt o0) (f_sorted o0) (f_cap o0) (f_rows o0) a0_10 (f_nulls o0) (f_mode o0) (f_startKind o0) (f_startOff o0) (f_endKind o0) (f_endOff o0) (f_fn o0) (f_fnArg o0) (f_computed o0) (f_sortedLen o0) (f_curPos o0) (f_aggSum o0) (f_aggCount o0) (f_aggRows o0) (f_aggMin o0) (f_aggMax o0)
def H0x4 (s : List Int32) (o0 : Ob) (a0_10 : Int32) (a0_11 : Int32) : QHeap := H0v s (f_part o0) (f_keys o0) (f_vals o0) (f_flg o0) (f_res o0) (f_resNull o0) (f_frameCnt o0) (f_sorted o0) (f_cap o0) (f_rows o0) a0_10 a0_11 (f_mode o0) (f_startKind o0) (f_startOff o0) (f_endKind o0) (f_endOff o0) (f_fn o0) (f_fnArg o0) (f_computed o0) (f_sortedLen o0) (f_curPos o0) (f_aggSum o0) (f_aggCount o0) (f_aggRows o0) (f_aggMin o0) (f_aggMax o0)
def H0x5 (s : List Int32) (o0 : Ob) (a0_10 : Int32) (a0_11 : Int32) (a0_12 : Int32) : QHeap := H0v s (f_part o0) (f_keys o0) (f_vals o0) (f_flg o0) (f_res o0) (f_resNull o0) (f_frameCnt o0) (f_sorted o0) (f_cap o0) (f_rows o0) a0_10 a0_11 a0_12 (f_startKind o0) (f_startOff o0) (f_endKind o0) (f_endOff o0) (f_fn o0) (f_fnArg o0) (f_computed o0) (f_sortedLen o0) (f_curPos o0) (f_aggSum o0) (f_aggCount o0) (f_aggRows o0) (f_aggMin o0) (f_aggMax o0)
def H0x6 (s : List Int32) (o0 : Ob) (a0_10 : Int32) (a0_11 : Int32) (a0_12 : Int32) (a0_13 : Int32) : QHeap := H0v s (f_part o0) (f_keys o0) (f_vals o0) (f_flg o0) (f_res o0) (f_resNull o0) (f_frameCnt o0) (f_sorted o0) (f_cap o0) (f_rows o0) a0_10 a0_11 a0_12 a0_13 (f_startOff o0) (f_endKind o0) (f_endOff o0) (f_fn o0) (f_fnArg o0) (f_computed o0) (f_sortedLen o0) (f_curPos o0) (f_aggSum o0) (f_aggCount o0) (f_aggRows o0) (f_aggMin o0) (f_aggMax o0)
def H0x7 (s : List Int32) (o0 : Ob) (a0_10 : Int32) (a0_11 : Int32) (a0_12 : Int32) (a0_13 : Int32) (a0_14 : Int32) : QHeap := H0v s (f_part o0) (f_keys o0) (f_vals o0) (f_flg o0) (f_res o0) (f_resNull o0) (f_frameCnt o0) (f_sorted o0) (f_cap o0) (f_rows o0) a0_10 a0_11 a0_12 a0_13 a0_14 (f_endKind o0) (f_endOff o0) (f_fn o0) (f_fnArg o0) (f_computed o0) (f_sortedLen o0) (f_curPos o0) (f_aggSum o0) (f_aggCount o0) (f_aggRows o0) (f_aggMin o0) (f_aggMax o0)
def H0x8 (s : List Int32) (o0 : Ob) (a0_10 : Int32) (a0_11 : Int32) (a0_12 : Int32) (a0_13 : Int32) (a0_14 : Int32) (a0_15 : Int32) : QHeap := H0v s (f_part o0) (f_keys o0) (f_vals o0) (f_flg o0) (f_res o0) (f_resNull o0) (f_frameCnt o0) (f_sorted o0) (f_cap o0) (f_rows o0) a0_10 a0_11 a0_12 a0_13 a0_14 a0_15 (f_endOff o0) (f_fn o0) (f_fnArg o0) (f_computed o0) (f_sortedLen o0) (f_curPos o0) (f_aggSum o0) (f_aggCount o0) (f_aggRows o0) (f_aggMin o0) (f_aggMax o0)
def H0x9 (s : List Int32) (o0 : Ob) (a0_10 : Int32) (a0_11 : Int32) (a0_12 : Int32) (a0_13 : Int32) (a0_14 : Int32) (a0_15 : Int32) (a0_16 : Int32) : QHeap := H0v s (f_part o0) (f_keys o0) (f_vals o0) (f_flg o0) (f_res o0) (f_resNull o0) (f_frameCnt o0) (f_sorted o0) (f_cap o0) (f_rows o0) a0_10 a0_11 a0_12 a0_13 a0_14 a0_15 a0_16 (f_fn o0) (f_fnArg o0) (f_computed o0) (f_sortedLen o0) (f_curPos o0) (f_aggSum o0) (f_aggCount o0) (f_aggRows o0) (f_aggMin o0) (f_aggMax o0)
def H0x10 (s : List Int32) (o0 : Ob) (a0_10 : Int32) (a0_11 : Int32) (a0_12 : Int32) (a0_13 : Int32) (a0_14 : Int32) (a0_15 : Int32) (a0_16 : Int32) (a0_17 : Int32) : QHeap := H0v s (f_part o0) (f_keys o0) (f_vals o0) (f_flg o0) (f_res o0) (f_resNull o0) (f_frameCnt o0) (f_sorted o0) (f_cap o0) (f_rows o0) a0_10 a0_11 a0_12 a0_13 a0_14 a0_15 a0_16 a0_17 (f_fnArg o0) (f_computed o0) (f_sortedLen o0) (f_curPos o0) (f_aggSum o0) (f_aggCount o0) (f_aggRows o0) (f_aggMin o0) (f_aggMax o0)
def H0x11 (s : List Int32) (o0 : Ob) (a0_10 : Int32) (a0_11 : Int32) (a0_12 : Int32) (a0_13 : Int32) (a0_14 : Int32) (a0_15 : Int32) (a0_16 : Int32) (a0_17 : Int32) (a0_18 : Int32) : QHeap := H0v s (f_part o0) (f_keys o0) (f_vals o0) (f_flg o0) (f_res o0) (f_resNull o0) (f_frameCnt o0) (f_sorted o0) (f_cap o0) (f_rows o0) a0_10 a0_11 a0_12 a0_13 a0_14 a0_15 a0_16 a0_17 a0_18 (f_computed o0) (f_sortedLen o0) (f_curPos o0) (f_aggSum o0) (f_aggCount o0) (f_aggRows o0) (f_aggMin o0) (f_aggMax o0)
/-- resetSpec()V -/
def F2 (o : Ob) : Option (Ob) :=
 some (s_fnArg (s_fn (s_endOff (s_endKind (s_startOff (s_startKind (s_mode (s_nulls (s_direction o (1:Int32)) (1:Int32)) (1:Int32)) (0:Int32)) (0:Int32)) (2:Int32)) (0:Int32)) (0:Int32)) (0:Int32))
theorem tF2 (Ad : QAd n0 ad) (W : QW Z a0) (s : List Int32) (o : Ob) {r : Ob} (h : F2 o = some r) : QTri l Z n0 ad 2 (0, qentry [.ref 1] (pMaxL 2), [], (H0 s o)) (none : Option Value) (H0 s r) := by
 unfold F2 at h
 refine zS Ad W 3 (st' := (5, [vR 1], [], (H0x3 s o (1:Int32)))) rfl ?_
 refine zS Ad W 3 (st' := (10, [vR 1], [], (H0x4 s o (1:Int32) (1:Int32)))) rfl ?_
 refine zS Ad W 3 (st' := (15, [vR 1], [], (H0x5 s o (1:Int32) (1:Int32) (1:Int32)))) rfl ?_
 refine zS Ad W 3 (st' := (20, [vR 1], [], (H0x6 s o (1:Int32) (1:Int32) (1:Int32) (0:Int32)))) rfl ?_
 refine zS Ad W 3 (st' := (25, [vR 1], [], (H0x7 s o (1:Int32) (1:Int32) (1:Int32) (0:Int32) (0:Int32)))) rfl ?_
 refine zS Ad W 3 (st' := (30, [vR 1], [], (H0x8 s o (1:Int32) (1:Int32) (1:Int32) (0:Int32) (0:Int32) (2:Int32)))) rfl ?_
 refine zS Ad W 3 (st' := (35, [vR 1], [], (H0x9 s o (1:Int32) (1:Int32) (1:Int32) (0:Int32) (0:Int32) (2:Int32) (0:Int32)))) rfl ?_
 refine zS Ad W 3 (st' := (40, [vR 1], [], (H0x10 s o (1:Int32) (1:Int32) (1:Int32) (0:Int32) (0:Int32) (2:Int32) (0:Int32) (0:Int32)))) rfl ?_
 refine zS Ad W 3 (st' := (45, [vR 1], [], (H0x11 s o (1:Int32) (1:Int32) (1:Int32) (0:Int32) (0:Int32) (2:Int32) (0:Int32) (0:Int32) (0:Int32)))) rfl ?_
 have E8 : ((H0x11 s o (1:Int32) (1:Int32) (1:Int32) (0:Int32) (0:Int32) (2:Int32) (0:Int32) (0:Int32) (0:Int32)) : QHeap) = (H0 s (s_fnArg (s_fn (s_endOff (s_endKind (s_startOff (s_startKind (s_mode (s_nulls (s_direction o (1:Int32)) (1:Int32)) (1:Int32)) (0:Int32)) (0:Int32)) (2:Int32)) (0:Int32)) (0:Int32)) (0:Int32))) := by simp only [fs, H0, H0v, H0x11, s_direction, s_nulls, s_mode, s_startKind, s_startOff, s_endKind, s_endOff, s_fn, s_fnArg]
 rw [E8]
 obtain rfl := Option.some.inj h
 exact QTri.ret0 rfl rfl
def H0x12 (s : List Int32) (o0 : Ob) (a0_19 : Int32) : QHeap := H0v s (f_part o0) (f_keys o0) (f_vals o0) (f_flg o0) (f_res o0) (f_resNull o0) (f_frameCnt o0) (f_sorted o0) (f_cap o0) (f_rows o0) (f_direction o0) (f_nulls o0) (f_mode o0) (f_startKind o0) (f_startOff o0) (f_endKind o0) (f_endOff o0) (f_fn o0) (f_fnArg o0) a0_19 (f_sortedLen o0) (f_curPos o0) (f_aggSum o0) (f_aggCount o0) (f_aggRows o0) (f_aggMin o0) (f_aggMax o0)
/-- init(I)V -/
def F1 (x1 : Int32) : Option (Ob) :=
 (F2 (s_rows (s_cap (s_sorted (s_frameCnt (s_resNull (s_res (s_flg (s_vals (s_keys (s_part ob0 (List.replicate 32 0)) (List.replicate 32 0)) (List.replicate 32 0)) (List.replicate 32 0)) (List.replicate 32 0)) (List.replicate 32 0)) (List.replicate 32 0)) (List.replicate 32 0)) (if (32:Int32) < (if x1 < (8:Int32) then (8:Int32) else x1) then (32:Int32) else (if x1 < (8:Int32) then (8:Int32) else x1))) (0:Int32))).bind fun r9 => some (s_computed r9 (0:Int32))
theorem tF1 (Ad : QAd n0 ad) (W : QW Z a0) (s : List Int32) (x1 : Int32) {r : Ob} (h : F1 x1 = some r) : QTri l Z n0 ad 1 (0, qentry [.ref 1, .int x1] (pMaxL 1), [], [.inr (.inl (.int, s)), .inl [.null, .null, .null, .null, .null, .null, .null, .null, .int (f_cap ob0), .int (f_rows ob0), .int (f_direction ob0), .int (f_nulls ob0), .int (f_mode ob0), .int (f_startKind ob0), .int (f_startOff ob0), .int (f_endKind ob0), .int (f_endOff ob0), .int (f_fn ob0), .int (f_fnArg ob0), .int (f_computed ob0), .int (f_sortedLen ob0), .int (f_curPos ob0), .long (f_aggSum ob0), .int (f_aggCount ob0), .int (f_aggRows ob0), .int (f_aggMin ob0), .int (f_aggMax ob0)]]) (none : Option Value) (H0 s r) := by
 unfold F1 at h
 refine zS Ad W 1 (st' := (1, [vR 1, vI x1, none], [.ref 1], [.inr (.inl (.int, s)), .inl [.null, .null, .null, .null, .null, .null, .null, .null, .int (f_cap ob0), .int (f_rows ob0), .int (f_direction ob0), .int (f_nulls ob0), .int (f_mode ob0), .int (f_startKind ob0), .int (f_startOff ob0), .int (f_endKind ob0), .int (f_endOff ob0), .int (f_fn ob0), .int (f_fnArg ob0), .int (f_computed ob0), .int (f_sortedLen ob0), .int (f_curPos ob0), .long (f_aggSum ob0), .int (f_aggCount ob0), .int (f_aggRows ob0), .int (f_aggMin ob0), .int (f_aggMax ob0)]])) rfl ?_
 refine QTri.callO W rfl rfl rfl ?_
 refine zS Ad W 3 (st' := (9, [vR 1, vI x1, none], [.ref 2, .ref 1], [.inr (.inl (.int, s)), .inl [.null, .null, .null, .null, .null, .null, .null, .null, .int (f_cap ob0), .int (f_rows ob0), .int (f_direction ob0), .int (f_nulls ob0), .int (f_mode ob0), .int (f_startKind ob0), .int (f_startOff ob0), .int (f_endKind ob0), .int (f_endOff ob0), .int (f_fn ob0), .int (f_fnArg ob0), .int (f_computed ob0), .int (f_sortedLen ob0), .int (f_curPos ob0), .long (f_aggSum ob0), .int (f_aggCount ob0), .int (f_aggRows ob0), .int (f_aggMin ob0), .int (f_aggMax ob0)], .inr (.inl (.int, (List.replicate 32 0)))])) rfl ?_
 refine zS Ad W 1 (st' := (12, [vR 1, vI x1, none], [], [.inr (.inl (.int, s)), .inl [.ref 2, .null, .null, .null, .null, .null, .null, .null, .int (f_cap ob0), .int (f_rows ob0), .int (f_direction ob0), .int (f_nulls ob0), .int (f_mode ob0), .int (f_startKind ob0), .int (f_startOff ob0), .int (f_endKind ob0), .int (f_endOff ob0), .int (f_fn ob0), .int (f_fnArg ob0), .int (f_computed ob0), .int (f_sortedLen ob0), .int (f_curPos ob0), .long (f_aggSum ob0), .int (f_aggCount ob0), .int (f_aggRows ob0), .int (f_aggMin ob0), .int (f_aggMax ob0)], .inr (.inl (.int, (List.replicate 32 0)))])) rfl ?_
 refine zS Ad W 3 (st' := (17, [vR 1, vI x1, none], [.ref 3, .ref 1], [.inr (.inl (.int, s)), .inl [.ref 2, .null, .null, .null, .null, .null, .null, .null, .int (f_cap ob0), .int (f_rows ob0), .int (f_direction ob0), .int (f_nulls ob0), .int (f_mode ob0), .int (f_startKind ob0), .int (f_startOff ob0), .int (f_endKind ob0), .int (f_endOff ob0), .int (f_fn ob0), .int (f_fnArg ob0), .int (f_computed ob0), .int (f_sortedLen ob0), .int (f_curPos ob0), .long (f_aggSum ob0), .int (f_aggCount ob0), .int (f_aggRows ob0), .int (f_aggMin ob0), .int (f_aggMax ob0)], .inr (.inl (.int, (List.replicate 32 0))), .inr (.inl (.int, (List.replicate 32 0)))])) rfl ?_
 refine zS Ad W 1 (st' := (20, [vR 1, vI x1, none], [], [.inr (.inl (.int, s)), .inl [.ref 2, .ref 3, .null, .null, .null, .null, .null, .null, .int (f_cap ob0), .int (f_rows ob0), .int (f_direction ob0), .int (f_nulls ob0), .int (f_mode ob0), .int (f_startKind ob0), .int (f_startOff ob0), .int (f_endKind ob0), .int (f_endOff ob0), .int (f_fn ob0), .int (f_fnArg ob0), .int (f_computed ob0), .int (f_sortedLen ob0), .int (f_curPos ob0), .long (f_aggSum ob0), .int (f_aggCount ob0), .int (f_aggRows ob0), .int (f_aggMin ob0), .int (f_aggMax ob0)], .inr (.inl (.int, (List.replicate 32 0))), .inr (.inl (.int, (List.replicate 32 0)))])) rfl ?_
 refine zS Ad W 3 (st' := (25, [vR 1, vI x1, none], [.ref 4, .ref 1], [.inr (.inl (.int, s)), .inl [.ref 2, .ref 3, .null, .null, .null, .null, .null, .null, .int (f_cap ob0), .int (f_rows ob0), .int (f_direction ob0), .int (f_nulls ob0), .int (f_mode ob0), .int (f_startKind ob0), .int (f_startOff ob0), .int (f_endKind ob0), .int (f_endOff ob0), .int (f_fn ob0), .int (f_fnArg ob0), .int (f_computed ob0), .int (f_sortedLen ob0), .int (f_curPos ob0), .long (f_aggSum ob0), .int (f_aggCount ob0), .int (f_aggRows ob0), .int (f_aggMin ob0), .int (f_aggMax ob0)], .inr (.inl (.int, (List.replicate 32 0))), .inr (.inl (.int, (List.replicate 32 0))), .inr (.inl (.int, (List.replicate 32 0)))])) rfl ?_
 refine zS Ad W 1 (st' := (28, [vR 1, vI x1, none], [], [.inr (.inl (.int, s)), .inl [.ref 2, .ref 3, .ref 4, .null, .null, .null, .null, .null, .int (f_cap ob0), .int (f_rows ob0), .int (f_direction ob0), .int (f_nulls ob0), .int (f_mode ob0), .int (f_startKind ob0), .int (f_startOff ob0), .int (f_endKind ob0), .int (f_endOff ob0), .int (f_fn ob0), .int (f_fnArg ob0), .int (f_computed ob0), .int (f_sortedLen ob0), .int (f_curPos ob0), .long (f_aggSum ob0), .int (f_aggCount ob0), .int (f_aggRows ob0), .int (f_aggMin ob0), .int (f_aggMax ob0)], .inr (.inl (.int, (List.replicate 32 0))), .inr (.inl (.int, (List.replicate 32 0))), .inr (.inl (.int, (List.replicate 32 0)))])) rfl ?_
 refine zS Ad W 3 (st' := (33, [vR 1, vI x1, none], [.ref 5, .ref 1], [.inr (.inl (.int, s)), .inl [.ref 2, .ref 3, .ref 4, .null, .null, .null, .null, .null, .int (f_cap ob0), .int (f_rows ob0), .int (f_direction ob0), .int (f_nulls ob0), .int (f_mode ob0), .int (f_startKind ob0), .int (f_startOff ob0), .int (f_endKind ob0), .int (f_endOff ob0), .int (f_fn ob0), .int (f_fnArg ob0), .int (f_computed ob0), .int (f_sortedLen ob0), .int (f_curPos ob0), .long (f_aggSum ob0), .int (f_aggCount ob0), .int (f_aggRows ob0), .int (f_aggMin ob0), .int (f_aggMax ob0)], .inr (.inl (.int, (List.replicate 32 0))), .inr (.inl (.int, (List.replicate 32 0))), .inr (.inl (.int, (List.replicate 32 0))), .inr (.inl (.int, (List.replicate 32 0)))])) rfl ?_
 refine zS Ad W 1 (st' := (36, [vR 1, vI x1, none], [], [.inr (.inl (.int, s)), .inl [.ref 2, .ref 3, .ref 4, .ref 5, .null, .null, .null, .null, .int (f_cap ob0), .int (f_rows ob0), .int (f_direction ob0), .int (f_nulls ob0), .int (f_mode ob0), .int (f_startKind ob0), .int (f_startOff ob0), .int (f_endKind ob0), .int (f_endOff ob0), .int (f_fn ob0), .int (f_fnArg ob0), .int (f_computed ob0), .int (f_sortedLen ob0), .int (f_curPos ob0), .long (f_aggSum ob0), .int (f_aggCount ob0), .int (f_aggRows ob0), .int (f_aggMin ob0), .int (f_aggMax ob0)], .inr (.inl (.int, (List.replicate 32 0))), .inr (.inl (.int, (List.replicate 32 0))), .inr (.inl (.int, (List.replicate 32 0))), .inr (.inl (.int, (List.replicate 32 0)))])) rfl ?_
 refine zS Ad W 3 (st' := (41, [vR 1, vI x1, none], [.ref 6, .ref 1], [.inr (.inl (.int, s)), .inl [.ref 2, .ref 3, .ref 4, .ref 5, .null, .null, .null, .null, .int (f_cap ob0), .int (f_rows ob0), .int (f_direction ob0), .int (f_nulls ob0), .int (f_mode ob0), .int (f_startKind ob0), .int (f_startOff ob0), .int (f_endKind ob0), .int (f_endOff ob0), .int (f_fn ob0), .int (f_fnArg ob0), .int (f_computed ob0), .int (f_sortedLen ob0), .int (f_curPos ob0), .long (f_aggSum ob0), .int (f_aggCount ob0), .int (f_aggRows ob0), .int (f_aggMin ob0), .int (f_aggMax ob0)], .inr (.inl (.int, (List.replicate 32 0))), .inr (.inl (.int, (List.replicate 32 0))), .inr (.inl (.int, (List.replicate 32 0))), .inr (.inl (.int, (List.replicate 32 0))), .inr (.inr (List.replicate 32 0))])) rfl ?_
 refine zS Ad W 1 (st' := (44, [vR 1, vI x1, none], [], [.inr (.inl (.int, s)), .inl [.ref 2, .ref 3, .ref 4, .ref 5, .ref 6, .null, .null, .null, .int (f_cap ob0), .int (f_rows ob0), .int (f_direction ob0), .int (f_nulls ob0), .int (f_mode ob0), .int (f_startKind ob0), .int (f_startOff ob0), .int (f_endKind ob0), .int (f_endOff ob0), .int (f_fn ob0), .int (f_fnArg ob0), .int (f_computed ob0), .int (f_sortedLen ob0), .int (f_curPos ob0), .long (f_aggSum ob0), .int (f_aggCount ob0), .int (f_aggRows ob0), .int (f_aggMin ob0), .int (f_aggMax ob0)], .inr (.inl (.int, (List.replicate 32 0))), .inr (.inl (.int, (List.replicate 32 0))), .inr (.inl (.int, (List.replicate 32 0))), .inr (.inl (.int, (List.replicate 32 0))), .inr (.inr (List.replicate 32 0))])) rfl ?_
 refine zS Ad W 3 (st' := (49, [vR 1, vI x1, none], [.ref 7, .ref 1], [.inr (.inl (.int, s)), .inl [.ref 2, .ref 3, .ref 4, .ref 5, .ref 6, .null, .null, .null, .int (f_cap ob0), .int (f_rows ob0), .int (f_direction ob0), .int (f_nulls ob0), .int (f_mode ob0), .int (f_startKind ob0), .int (f_startOff ob0), .int (f_endKind ob0), .int (f_endOff ob0), .int (f_fn ob0), .int (f_fnArg ob0), .int (f_computed ob0), .int (f_sortedLen ob0), .int (f_curPos ob0), .long (f_aggSum ob0), .int (f_aggCount ob0), .int (f_aggRows ob0), .int (f_aggMin ob0), .int (f_aggMax ob0)], .inr (.inl (.int, (List.replicate 32 0))), .inr (.inl (.int, (List.replicate 32 0))), .inr (.inl (.int, (List.replicate 32 0))), .inr (.inl (.int, (List.replicate 32 0))), .inr (.inr (List.replicate 32 0)), .inr (.inl (.boolean, (List.replicate 32 0)))])) rfl ?_
 refine zS Ad W 1 (st' := (52, [vR 1, vI x1, none], [], [.inr (.inl (.int, s)), .inl [.ref 2, .ref 3, .ref 4, .ref 5, .ref 6, .ref 7, .null, .null, .int (f_cap ob0), .int (f_rows ob0), .int (f_direction ob0), .int (f_nulls ob0), .int (f_mode ob0), .int (f_startKind ob0), .int (f_startOff ob0), .int (f_endKind ob0), .int (f_endOff ob0), .int (f_fn ob0), .int (f_fnArg ob0), .int (f_computed ob0), .int (f_sortedLen ob0), .int (f_curPos ob0), .long (f_aggSum ob0), .int (f_aggCount ob0), .int (f_aggRows ob0), .int (f_aggMin ob0), .int (f_aggMax ob0)], .inr (.inl (.int, (List.replicate 32 0))), .inr (.inl (.int, (List.replicate 32 0))), .inr (.inl (.int, (List.replicate 32 0))), .inr (.inl (.int, (List.replicate 32 0))), .inr (.inr (List.replicate 32 0)), .inr (.inl (.boolean, (List.replicate 32 0)))])) rfl ?_
 refine zS Ad W 3 (st' := (57, [vR 1, vI x1, none], [.ref 8, .ref 1], [.inr (.inl (.int, s)), .inl [.ref 2, .ref 3, .ref 4, .ref 5, .ref 6, .ref 7, .null, .null, .int (f_cap ob0), .int (f_rows ob0), .int (f_direction ob0), .int (f_nulls ob0), .int (f_mode ob0), .int (f_startKind ob0), .int (f_startOff ob0), .int (f_endKind ob0), .int (f_endOff ob0), .int (f_fn ob0), .int (f_fnArg ob0), .int (f_computed ob0), .int (f_sortedLen ob0), .int (f_curPos ob0), .long (f_aggSum ob0), .int (f_aggCount ob0), .int (f_aggRows ob0), .int (f_aggMin ob0), .int (f_aggMax ob0)], .inr (.inl (.int, (List.replicate 32 0))), .inr (.inl (.int, (List.replicate 32 0))), .inr (.inl (.int, (List.replicate 32 0))), .inr (.inl (.int, (List.replicate 32 0))), .inr (.inr (List.replicate 32 0)), .inr (.inl (.boolean, (List.replicate 32 0))), .inr (.inl (.int, (List.replicate 32 0)))])) rfl ?_
 refine zS Ad W 1 (st' := (60, [vR 1, vI x1, none], [], [.inr (.inl (.int, s)), .inl [.ref 2, .ref 3, .ref 4, .ref 5, .ref 6, .ref 7, .ref 8, .null, .int (f_cap ob0), .int (f_rows ob0), .int (f_direction ob0), .int (f_nulls ob0), .int (f_mode ob0), .int (f_startKind ob0), .int (f_startOff ob0), .int (f_endKind ob0), .int (f_endOff ob0), .int (f_fn ob0), .int (f_fnArg ob0), .int (f_computed ob0), .int (f_sortedLen ob0), .int (f_curPos ob0), .long (f_aggSum ob0), .int (f_aggCount ob0), .int (f_aggRows ob0), .int (f_aggMin ob0), .int (f_aggMax ob0)], .inr (.inl (.int, (List.replicate 32 0))), .inr (.inl (.int, (List.replicate 32 0))), .inr (.inl (.int, (List.replicate 32 0))), .inr (.inl (.int, (List.replicate 32 0))), .inr (.inr (List.replicate 32 0)), .inr (.inl (.boolean, (List.replicate 32 0))), .inr (.inl (.int, (List.replicate 32 0)))])) rfl ?_
 refine zS Ad W 3 (st' := (65, [vR 1, vI x1, none], [.ref 9, .ref 1], [.inr (.inl (.int, s)), .inl [.ref 2, .ref 3, .ref 4, .ref 5, .ref 6, .ref 7, .ref 8, .null, .int (f_cap ob0), .int (f_rows ob0), .int (f_direction ob0), .int (f_nulls ob0), .int (f_mode ob0), .int (f_startKind ob0), .int (f_startOff ob0), .int (f_endKind ob0), .int (f_endOff ob0), .int (f_fn ob0), .int (f_fnArg ob0), .int (f_computed ob0), .int (f_sortedLen ob0), .int (f_curPos ob0), .long (f_aggSum ob0), .int (f_aggCount ob0), .int (f_aggRows ob0), .int (f_aggMin ob0), .int (f_aggMax ob0)], .inr (.inl (.int, (List.replicate 32 0))), .inr (.inl (.int, (List.replicate 32 0))), .inr (.inl (.int, (List.replicate 32 0))), .inr (.inl (.int, (List.replicate 32 0))), .inr (.inr (List.replicate 32 0)), .inr (.inl (.boolean, (List.replicate 32 0))), .inr (.inl (.int, (List.replicate 32 0))), .inr (.inl (.int, (List.replicate 32 0)))])) rfl ?_
 refine zS Ad W 1 (st' := (68, [vR 1, vI x1, none], [], (H0x0 s ob0 (List.replicate 32 0) (List.replicate 32 0) (List.replicate 32 0) (List.replicate 32 0) (List.replicate 32 0) (List.replicate 32 0) (List.replicate 32 0) (List.replicate 32 0)))) rfl ?_
 refine zS Ad W 4 (st' := (73, [vR 1, vI x1, vI x1], [.int (8:Int32), .int x1], (H0x0 s ob0 (List.replicate 32 0) (List.replicate 32 0) (List.replicate 32 0) (List.replicate 32 0) (List.replicate 32 0) (List.replicate 32 0) (List.replicate 32 0) (List.replicate 32 0)))) rfl ?_
 have K2 : ∀ z1 : Int32, z1 = (if x1 < (8:Int32) then (8:Int32) else x1) → QTri l Z n0 ad 1 (79, [vR 1, none, vI z1], [], (H0x0 s ob0 (List.replicate 32 0) (List.replicate 32 0) (List.replicate 32 0) (List.replicate 32 0) (List.replicate 32 0) (List.replicate 32 0) (List.replicate 32 0) (List.replicate 32 0))) (none : Option Value) (H0 s r) := by
  intro z1 ez1
  subst ez1
  refine zS Ad W 2 (st' := (82, [vR 1, none, vI (if x1 < (8:Int32) then (8:Int32) else x1)], [.int (32:Int32), .int (if x1 < (8:Int32) then (8:Int32) else x1)], (H0x0 s ob0 (List.replicate 32 0) (List.replicate 32 0) (List.replicate 32 0) (List.replicate 32 0) (List.replicate 32 0) (List.replicate 32 0) (List.replicate 32 0) (List.replicate 32 0)))) rfl ?_
  have K5 : ∀ z4 : Int32, z4 = (if (32:Int32) < (if x1 < (8:Int32) then (8:Int32) else x1) then (32:Int32) else (if x1 < (8:Int32) then (8:Int32) else x1)) → QTri l Z n0 ad 1 (88, [vR 1, none, vI z4], [], (H0x0 s ob0 (List.replicate 32 0) (List.replicate 32 0) (List.replicate 32 0) (List.replicate 32 0) (List.replicate 32 0) (List.replicate 32 0) (List.replicate 32 0) (List.replicate 32 0))) (none : Option Value) (H0 s r) := by
   intro z4 ez4
   subst ez4
   refine zS Ad W 3 (st' := (93, [vR 1, none, vI (if (32:Int32) < (if x1 < (8:Int32) then (8:Int32) else x1) then (32:Int32) else (if x1 < (8:Int32) then (8:Int32) else x1))], [], (H0x1 s ob0 (List.replicate 32 0) (List.replicate 32 0) (List.replicate 32 0) (List.replicate 32 0) (List.replicate 32 0) (List.replicate 32 0) (List.replicate 32 0) (List.replicate 32 0) (if (32:Int32) < (if x1 < (8:Int32) then (8:Int32) else x1) then (32:Int32) else (if x1 < (8:Int32) then (8:Int32) else x1))))) rfl ?_
   refine zS Ad W 3 (st' := (98, [vR 1, none, vI (if (32:Int32) < (if x1 < (8:Int32) then (8:Int32) else x1) then (32:Int32) else (if x1 < (8:Int32) then (8:Int32) else x1))], [], (H0x2 s ob0 (List.replicate 32 0) (List.replicate 32 0) (List.replicate 32 0) (List.replicate 32 0) (List.replicate 32 0) (List.replicate 32 0) (List.replicate 32 0) (List.replicate 32 0) (if (32:Int32) < (if x1 < (8:Int32) then (8:Int32) else x1) then (32:Int32) else (if x1 < (8:Int32) then (8:Int32) else x1)) (0:Int32)))) rfl ?_
   refine zS Ad W 1 (st' := (99, [vR 1, none, vI (if (32:Int32) < (if x1 < (8:Int32) then (8:Int32) else x1) then (32:Int32) else (if x1 < (8:Int32) then (8:Int32) else x1))], [.ref 1], (H0x2 s ob0 (List.replicate 32 0) (List.replicate 32 0) (List.replicate 32 0) (List.replicate 32 0) (List.replicate 32 0) (List.replicate 32 0) (List.replicate 32 0) (List.replicate 32 0) (if (32:Int32) < (if x1 < (8:Int32) then (8:Int32) else x1) then (32:Int32) else (if x1 < (8:Int32) then (8:Int32) else x1)) (0:Int32)))) rfl ?_
   have E7 : ((H0x2 s ob0 (List.replicate 32 0) (List.replicate 32 0) (List.replicate 32 0) (List.replicate 32 0) (List.replicate 32 0) (List.replicate 32 0) (List.replicate 32 0) (List.replicate 32 0) (if (32:Int32) < (if x1 < (8:Int32) then (8:Int32) else x1) then (32:Int32) else (if x1 < (8:Int32) then (8:Int32) else x1)) (0:Int32)) : QHeap) = (H0 s (s_rows (s_cap (s_sorted (s_frameCnt (s_resNull (s_res (s_flg (s_vals (s_keys (s_part ob0 (List.replicate 32 0)) (List.replicate 32 0)) (List.replicate 32 0)) (List.replicate 32 0)) (List.replicate 32 0)) (List.replicate 32 0)) (List.replicate 32 0)) (List.replicate 32 0)) (if (32:Int32) < (if x1 < (8:Int32) then (8:Int32) else x1) then (32:Int32) else (if x1 < (8:Int32) then (8:Int32) else x1))) (0:Int32))) := by simp only [fs, H0, H0v, H0x2, s_part, s_keys, s_vals, s_flg, s_res, s_resNull, s_frameCnt, s_sorted, s_cap, s_rows, ob0]
   rw [E7]
   obtain ⟨r9, hr9, h⟩ := bind_eq_some_iff.mp h
   refine QTri.callP W (a := 1) (as := []) (rest := []) (w := none) (σ₁ := (H0 s r9)) rfl rfl rfl rfl rfl rfl rfl rfl (tF2 Ad W s (s_rows (s_cap (s_sorted (s_frameCnt (s_resNull (s_res (s_flg (s_vals (s_keys (s_part ob0 (List.replicate 32 0)) (List.replicate 32 0)) (List.replicate 32 0)) (List.replicate 32 0)) (List.replicate 32 0)) (List.replicate 32 0)) (List.replicate 32 0)) (List.replicate 32 0)) (if (32:Int32) < (if x1 < (8:Int32) then (8:Int32) else x1) then (32:Int32) else (if x1 < (8:Int32) then (8:Int32) else x1))) (0:Int32)) hr9) ?_
   refine zS Ad W 3 (st' := (107, [vR 1, none, vI (if (32:Int32) < (if x1 < (8:Int32) then (8:Int32) else x1) then (32:Int32) else (if x1 < (8:Int32) then (8:Int32) else x1))], [], (H0x12 s r9 (0:Int32)))) rfl ?_
   have E10 : ((H0x12 s r9 (0:Int32)) : QHeap) = (H0 s (s_computed r9 (0:Int32))) := by simp only [fs, H0, H0v, H0x12, s_computed]
   rw [E10]
   obtain rfl := Option.some.inj h
   exact QTri.ret0 rfl rfl
  rcases em ((32:Int32) < (if x1 < (8:Int32) then (8:Int32) else x1)) with hc6 | hc6
  ·refine zF Ad W (t := 88) (f := 85) rfl (XT.ii_le_f hc6) ?_
   refine zS Ad W 2 (st' := (88, [vR 1, none, vI (32:Int32)], [], (H0x0 s ob0 (List.replicate 32 0) (List.replicate 32 0) (List.replicate 32 0) (List.replicate 32 0) (List.replicate 32 0) (List.replicate 32 0) (List.replicate 32 0) (List.replicate 32 0)))) rfl ?_
   exact zM [tt,ff,tt] (K5 _ (if_pos hc6).symm)
  ·refine zT Ad W (t := 88) (f := 85) rfl (XT.ii_le_t hc6) ?_
   exact zM [tt,ff,tt] (K5 _ (if_neg hc6).symm)
 rcases em (x1 < (8:Int32)) with hc3 | hc3
 ·refine zF Ad W (t := 79) (f := 76) rfl (XT.ii_ge_f hc3) ?_
  refine zS Ad W 2 (st' := (79, [vR 1, vI x1, vI (8:Int32)], [], (H0x0 s ob0 (List.replicate 32 0) (List.replicate 32 0) (List.replicate 32 0) (List.replicate 32 0) (List.replicate 32 0) (List.replicate 32 0) (List.replicate 32 0) (List.replicate 32 0)))) rfl ?_
  exact zM [tt,ff,tt] (K2 _ (if_pos hc3).symm)
 ·refine zT Ad W (t := 79) (f := 76) rfl (XT.ii_ge_t hc3) ?_
  exact zM [tt,ff,tt] (K2 _ (if_neg hc3).symm)
def H1 (s : List Int32) (o0 o1 : Ob) : QHeap := [.inr (.inl (.int, s)), .inl [.ref 2, .ref 3, .ref 4, .ref 5, .ref 6, .ref 7, .ref 8, .ref 9, .int (f_cap o0), .int (f_rows o0), .int (f_direction o0), .int (f_nulls o0), .int (f_mode o0), .int (f_startKind o0), .int (f_startOff o0), .int (f_endKind o0), .int (f_endOff o0), .int (f_fn o0), .int (f_fnArg o0), .int (f_computed o0), .int (f_sortedLen o0), .int (f_curPos o0), .long (f_aggSum o0), .int (f_aggCount o0), .int (f_aggRows o0), .int (f_aggMin o0), .int (f_aggMax o0)], .inr (.inl (.int, (f_part o0))), .inr (.inl (.int, (f_keys o0))), .inr (.inl (.int, (f_vals o0))), .inr (.inl (.int, (f_flg o0))), .inr (.inr (f_res o0)), .inr (.inl (.boolean, (f_resNull o0))), .inr (.inl (.int, (f_frameCnt o0))), .inr (.inl (.int, (f_sorted o0))), .inl [.ref 11, .ref 12, .ref 13, .ref 14, .ref 15, .ref 16, .ref 17, .ref 18, .int (f_cap o1), .int (f_rows o1), .int (f_direction o1), .int (f_nulls o1), .int (f_mode o1), .int (f_startKind o1), .int (f_startOff o1), .int (f_endKind o1), .int (f_endOff o1), .int (f_fn o1), .int (f_fnArg o1), .int (f_computed o1), .int (f_sortedLen o1), .int (f_curPos o1), .long (f_aggSum o1), .int (f_aggCount o1), .int (f_aggRows o1), .int (f_aggMin o1), .int (f_aggMax o1)], .inr (.inl (.int, (f_part o1))), .inr (.inl (.int, (f_keys o1))), .inr (.inl (.int, (f_vals o1))), .inr (.inl (.int, (f_flg o1))), .inr (.inr (f_res o1)), .inr (.inl (.boolean, (f_resNull o1))), .inr (.inl (.int, (f_frameCnt o1))), .inr (.inl (.int, (f_sorted o1)))]
def H1v (s : List Int32) (a0_0 : List Int32) (a0_1 : List Int32) (a0_2 : List Int32) (a0_3 : List Int32) (a0_4 : List Int64) (a0_5 : List Int32) (a0_6 : List Int32) (a0_7 : List Int32) (a0_8 : Int32) (a0_9 : Int32) (a0_10 : Int32) (a0_11 : Int32) (a0_12 : Int32) (a0_13 : Int32) (a0_14 : Int32) (a0_15 : Int32) (a0_16 : Int32) (a0_17 : Int32) (a0_18 : Int32) (a0_19 : Int32) (a0_20 : Int32) (a0_21 : Int32) (a0_22 : Int64) (a0_23 : Int32) (a0_24 : Int32) (a0_25 : Int32) (a0_26 : Int32) (a1_0 : List Int32) (a1_1 : List Int32) (a1_2 : List Int32) (a1_3 : List Int32) (a1_4 : List Int64) (a1_5 : List Int32) (a1_6 : List Int32) (a1_7 : List Int32) (a1_8 : Int32) (a1_9 : Int32) (a1_10 : Int32) (a1_11 : Int32) (a1_12 : Int32) (a1_13 : Int32) (a1_14 : Int32) (a1_15 : Int32) (a1_16 : Int32) (a1_17 : Int32) (a1_18 : Int32) (a1_19 : Int32) (a1_20 : Int32) (a1_21 : Int32) (a1_22 : Int64) (a1_23 : Int32) (a1_24 : Int32) (a1_25 : Int32) (a1_26 : Int32) : QHeap := [.inr (.inl (.int, s)), .inl [.ref 2, .ref 3, .ref 4, .ref 5, .ref 6, .ref 7, .ref 8, .ref 9, .int a0_8, .int a0_9, .int a0_10, .int a0_11, .int a0_12, .int a0_13, .int a0_14, .int a0_15, .int a0_16, .int a0_17, .int a0_18, .int a0_19, .int a0_20, .int a0_21, .long a0_22, .int a0_23, .int a0_24, .int a0_25, .int a0_26], .inr (.inl (.int, a0_0)), .inr (.inl (.int, a0_1)), .inr (.inl (.int, a0_2)), .inr (.inl (.int, a0_3)), .inr (.inr a0_4), .inr (.inl (.boolean, a0_5)), .inr (.inl (.int, a0_6)), .inr (.inl (.int, a0_7)), .inl [.ref 11, .ref 12, .ref 13, .ref 14, .ref 15, .ref 16, .ref 17, .ref 18, .int a1_8, .int a1_9, .int a1_10, .int a1_11, .int a1_12, .int a1_13, .int a1_14, .int a1_15, .int a1_16, .int a1_17, .int a1_18, .int a1_19, .int a1_20, .int a1_21, .long a1_22, .int a1_23, .int a1_24, .int a1_25, .int a1_26], .inr (.inl (.int, a1_0)), .inr (.inl (.int, a1_1)), .inr (.inl (.int, a1_2)), .inr (.inl (.int, a1_3)), .inr (.inr a1_4), .inr (.inl (.boolean, a1_5)), .inr (.inl (.int, a1_6)), .inr (.inl (.int, a1_7))]
def H1x13 (s : List Int32) (o0 o1 : Ob) (a1_0 : List Int32) (a1_1 : List Int32) (a1_2 : List Int32) (a1_3 : List Int32) (a1_4 : List Int64) (a1_5 : List Int32) (a1_6 : List Int32) (a1_7 : List Int32) : QHeap := H1v s (f_part o0) (f_keys o0) (f_vals o0) (f_flg o0) (f_res o0) (f_resNull o0) (f_frameCnt o0) (f_sorted o0) (f_cap o0) (f_rows o0) (f_direction o0) (f_nulls o0) (f_mode o0) (f_startKind o0) (f_startOff o0) (f_endKind o0) (f_endOff o0) (f_fn o0) (f_fnArg o0) (f_computed o0) (f_sortedLen o0) (f_curPos o0) (f_aggSum o0) (f_aggCount o0) (f_aggRows o0) (f_aggMin o0) (f_aggMax o0) a1_0 a1_1 a1_2 a1_3 a1_4 a1_5 a1_6 a1_7 (f_cap o1) (f_rows o1) (f_direction o1) (f_nulls o1) (f_mode o1) (f_startKind o1) (f_startOff o1) (f_endKind o1) (f_endOff o1) (f_fn o1) (f_fnArg o1) (f_computed o1) (f_sortedLen o1) (f_curPos o1) (f_aggSum o1) (f_aggCount o1) (f_aggRows o1) (f_aggMin o1) (f_aggMax o1)
def H1x14 (s : List Int32) (o0 o1 : Ob) (a1_0 : List Int32) (a1_1 : List Int32) (a1_2 : List Int32) (a1_3 : List Int32) (a1_4 : List Int64) (a1_5 : List Int32) (a1_6 : List Int32) (a1_7 : List Int32) (a1_8 : Int32) : QHeap := H1v s (f_part o0) (f_keys o0) (f_vals o0) (f_flg o0) (f_res o0) (f_resNull o0) (f_frameCnt o0) (f_sorted o0) (f_cap o0) (f_rows o0) (f_direction o0) (f_nulls o0) (f_mode o0) (f_startKind o0) (f_startOff o0) (f_endKind o0) (f_endOff o0) (f_fn o0) (f_fnArg o0) (f_computed o0) (f_sortedLen o0) (f_curPos o0) (f_aggSum o0) (f_aggCount o0) (f_aggRows o0) (f_aggMin o0) (f_aggMax o0) a1_0 a1_1 a1_2 a1_3 a1_4 a1_5 a1_6 a1_7 a1_8 (f_rows o1) (f_direction o1) (f_nulls o1) (f_mode o1) (f_startKind o1) (f_startOff o1) (f_endKind o1) (f_endOff o1) (f_fn o1) (f_fnArg o1) (f_computed o1) (f_sortedLen o1) (f_curPos o1) (f_aggSum o1) (f_aggCount o1) (f_aggRows o1) (f_aggMin o1) (f_aggMax o1)
def H1x15 (s : List Int32) (o0 o1 : Ob) (a1_0 : List Int32) (a1_1 : List Int32) (a1_2 : List Int32) (a1_3 : List Int32) (a1_4 : List Int64) (a1_5 : List Int32) (a1_6 : List Int32) (a1_7 : List Int32) (a1_8 : Int32) (a1_9 : Int32) : QHeap := H1v s (f_part o0) (f_keys o0) (f_vals o0) (f_flg o0) (f_res o0) (f_resNull o0) (f_frameCnt o0) (f_sorted o0) (f_cap o0) (f_rows o0) (f_direction o0) (f_nulls o0) (f_mode o0) (f_startKind o0) (f_startOff o0) (f_endKind o0) (f_endOff o0) (f_fn o0) (f_fnArg o0) (f_computed o0) (f_sortedLen o0) (f_curPos o0) (f_aggSum o0) (f_aggCount o0) (f_aggRows o0) (f_aggMin o0) (f_aggMax o0) a1_0 a1_1 a1_2 a1_3 a1_4 a1_5 a1_6 a1_7 a1_8 a1_9 (f_direction o1) (f_nulls o1) (f_mode o1) (f_startKind o1) (f_startOff o1) (f_endKind o1) (f_endOff o1) (f_fn o1) (f_fnArg o1) (f_computed o1) (f_sortedLen o1) (f_curPos o1) (f_aggSum o1) (f_aggCount o1) (f_aggRows o1) (f_aggMin o1) (f_aggMax o1)
def H1x16 (s : List Int32) (o0 o1 : Ob) (a1_10 : Int32) : QHeap := H1v s (f_part o0) (f_keys o0) (f_vals o0) (f_flg o0) (f_res o0) (f_resNull o0) (f_frameCnt o0) (f_sorted o0) (f_cap o0) (f_rows o0) (f_direction o0) (f_nulls o0) (f_mode o0) (f_startKind o0) (f_startOff o0) (f_endKind o0) (f_endOff o0) (f_fn o0) (f_fnArg o0) (f_computed o0) (f_sortedLen o0) (f_curPos o0) (f_aggSum o0) (f_aggCount o0) (f_aggRows o0) (f_aggMin o0) (f_aggMax o0) (f_part o1) (f_keys o1) (f_vals o1) (f_flg o1) (f_res o1) (f_resNull o1) (f_frameCnt o1) (f_sorted o1) (f_cap o1) (f_rows o1) a1_10 (f_nulls o1) (f_mode o1) (f_startKind o1) (f_startOff o1) (f_endKind o1) (f_endOff o1) (f_fn o1) (f_fnArg o1) (f_computed o1) (f_sortedLen o1) (f_curPos o1) (f_aggSum o1) (f_aggCount o1) (f_aggRows o1) (f_aggMin o1) (f_aggMax o1)
def H1x17 (s : List Int32) (o0 o1 : Ob) (a1_10 : Int32) (a1_11 : Int32) : QHeap := H1v s (f_part o0) (f_keys o0) (f_vals o0) (f_flg o0) (f_res o0) (f_resNull o0) (f_frameCnt o0) (f_sorted o0) (f_cap o0) (f_rows o0) (f_direction o0) (f_nulls o0) (f_mode o0) (f_startKind o0) (f_startOff o0) (f_endKind o0) (f_endOff o0) (f_fn o0) (f_fnArg o0) (f_computed o0) (f_sortedLen o0) (f_curPos o0) (f_aggSum o0) (f_aggCount o0) (f_aggRows o0) (f_aggMin o0) (f_aggMax o0) (f_part o1) (f_keys o1) (f_vals o1) (f_flg o1) (f_res o1) (f_resNull o1) (f_frameCnt o1) (f_sorted o1) (f_cap o1) (f_rows o1) a1_10 a1_11 (f_mode o1) (f_startKind o1) (f_startOff o1) (f_endKind o1) (f_endOff o1) (f_fn o1) (f_fnArg o1) (f_computed o1) (f_sortedLen o1) (f_curPos o1) (f_aggSum o1) (f_aggCount o1) (f_aggRows o1) (f_aggMin o1) (f_aggMax o1)
def H1x18 (s : List Int32) (o0 o1 : Ob) (a1_10 : Int32) (a1_11 : Int32) (a1_12 : Int32) : QHeap := H1v s (f_part o0) (f_keys o0) (f_vals o0) (f_flg o0) (f_res o0) (f_resNull o0) (f_frameCnt o0) (f_sorted o0) (f_cap o0) (f_rows o0) (f_direction o0) (f_nulls o0) (f_mode o0) (f_startKind o0) (f_startOff o0) (f_endKind o0) (f_endOff o0) (f_fn o0) (f_fnArg o0) (f_computed o0) (f_sortedLen o0) (f_curPos o0) (f_aggSum o0) (f_aggCount o0) (f_aggRows o0) (f_aggMin o0) (f_aggMax o0) (f_part o1) (f_keys o1) (f_vals o1) (f_flg o1) (f_res o1) (f_resNull o1) (f_frameCnt o1) (f_sorted o1) (f_cap o1) (f_rows o1) a1_10 a1_11 a1_12 (f_startKind o1) (f_startOff o1) (f_endKind o1) (f_endOff o1) (f_fn o1) (f_fnArg o1) (f_computed o1) (f_sortedLen o1) (f_curPos o1) (f_aggSum o1) (f_aggCount o1) (f_aggRows o1) (f_aggMin o1) (f_aggMax o1)
def H1x19 (s : List Int32) (o0 o1 : Ob) (a1_10 : Int32) (a1_11 : Int32) (a1_12 : Int32) (a1_13 : Int32) : QHeap := H1v s (f_part o0) (f_keys o0) (f_vals o0) (f_flg o0) (f_res o0) (f_resNull o0) (f_frameCnt o0) (f_sorted o0) (f_cap o0) (f_rows o0) (f_direction o0) (f_nulls o0) (f_mode o0) (f_startKind o0) (f_startOff o0) (f_endKind o0) (f_endOff o0) (f_fn o0) (f_fnArg o0) (f_computed o0) (f_sortedLen o0) (f_curPos o0) (f_aggSum o0) (f_aggCount o0) (f_aggRows o0) (f_aggMin o0) (f_aggMax o0) (f_part o1) (f_keys o1) (f_vals o1) (f_flg o1) (f_res o1) (f_resNull o1) (f_frameCnt o1) (f_sorted o1) (f_cap o1) (f_rows o1) a1_10 a1_11 a1_12 a1_13 (f_startOff o1) (f_endKind o1) (f_endOff o1) (f_fn o1) (f_fnArg o1) (f_computed o1) (f_sortedLen o1) (f_curPos o1) (f_aggSum o1) (f_aggCount o1) (f_aggRows o1) (f_aggMin o1) (f_aggMax o1)
def H1x20 (s : List Int32) (o0 o1 : Ob) (a1_10 : Int32) (a1_11 : Int32) (a1_12 : Int32) (a1_13 : Int32) (a1_14 : Int32) : QHeap := H1v s (f_part o0) (f_keys o0) (f_vals o0) (f_flg o0) (f_res o0) (f_resNull o0) (f_frameCnt o0) (f_sorted o0) (f_cap o0) (f_rows o0) (f_direction o0) (f_nulls o0) (f_mode o0) (f_startKind o0) (f_startOff o0) (f_endKind o0) (f_endOff o0) (f_fn o0) (f_fnArg o0) (f_computed o0) (f_sortedLen o0) (f_curPos o0) (f_aggSum o0) (f_aggCount o0) (f_aggRows o0) (f_aggMin o0) (f_aggMax o0) (f_part o1) (f_keys o1) (f_vals o1) (f_flg o1) (f_res o1) (f_resNull o1) (f_frameCnt o1) (f_sorted o1) (f_cap o1) (f_rows o1) a1_10 a1_11 a1_12 a1_13 a1_14 (f_endKind o1) (f_endOff o1) (f_fn o1) (f_fnArg o1) (f_computed o1) (f_sortedLen o1) (f_curPos o1) (f_aggSum o1) (f_aggCount o1) (f_aggRows o1) (f_aggMin o1) (f_aggMax o1)
def H1x21 (s : List Int32) (o0 o1 : Ob) (a1_10 : Int32) (a1_11 : Int32) (a1_12 : Int32) (a1_13 : Int32) (a1_14 : Int32) (a1_15 : Int32) : QHeap := H1v s (f_part o0) (f_keys o0) (f_vals o0) (f_flg o0) (f_res o0) (f_resNull o0) (f_frameCnt o0) (f_sorted o0) (f_cap o0) (f_rows o0) (f_direction o0) (f_nulls o0) (f_mode o0) (f_startKind o0) (f_startOff o0) (f_endKind o0) (f_endOff o0) (f_fn o0) (f_fnArg o0) (f_computed o0) (f_sortedLen o0) (f_curPos o0) (f_aggSum o0) (f_aggCount o0) (f_aggRows o0) (f_aggMin o0) (f_aggMax o0) (f_part o1) (f_keys o1) (f_vals o1) (f_flg o1) (f_res o1) (f_resNull o1) (f_frameCnt o1) (f_sorted o1) (f_cap o1) (f_rows o1) a1_10 a1_11 a1_12 a1_13 a1_14 a1_15 (f_endOff o1) (f_fn o1) (f_fnArg o1) (f_computed o1) (f_sortedLen o1) (f_curPos o1) (f_aggSum o1) (f_aggCount o1) (f_aggRows o1) (f_aggMin o1) (f_aggMax o1)
def H1x22 (s : List Int32) (o0 o1 : Ob) (a1_10 : Int32) (a1_11 : Int32) (a1_12 : Int32) (a1_13 : Int32) (a1_14 : Int32) (a1_15 : Int32) (a1_16 : Int32) : QHeap := H1v s (f_part o0) (f_keys o0) (f_vals o0) (f_flg o0) (f_res o0) (f_resNull o0) (f_frameCnt o0) (f_sorted o0) (f_cap o0) (f_rows o0) (f_direction o0) (f_nulls o0) (f_mode o0) (f_startKind o0) (f_startOff o0) (f_endKind o0) (f_endOff o0) (f_fn o0) (f_fnArg o0) (f_computed o0) (f_sortedLen o0) (f_curPos o0) (f_aggSum o0) (f_aggCount o0) (f_aggRows o0) (f_aggMin o0) (f_aggMax o0) (f_part o1) (f_keys o1) (f_vals o1) (f_flg o1) (f_res o1) (f_resNull o1) (f_frameCnt o1) (f_sorted o1) (f_cap o1) (f_rows o1) a1_10 a1_11 a1_12 a1_13 a1_14 a1_15 a1_16 (f_fn o1) (f_fnArg o1) (f_computed o1) (f_sortedLen o1) (f_curPos o1) (f_aggSum o1) (f_aggCount o1) (f_aggRows o1) (f_aggMin o1) (f_aggMax o1)
def H1x23 (s : List Int32) (o0 o1 : Ob) (a1_10 : Int32) (a1_11 : Int32) (a1_12 : Int32) (a1_13 : Int32) (a1_14 : Int32) (a1_15 : Int32) (a1_16 : Int32) (a1_17 : Int32) : QHeap := H1v s (f_part o0) (f_keys o0) (f_vals o0) (f_flg o0) (f_res o0) (f_resNull o0) (f_frameCnt o0) (f_sorted o0) (f_cap o0) (f_rows o0) (f_direction o0) (f_nulls o0) (f_mode o0) (f_startKind o0) (f_startOff o0) (f_endKind o0) (f_endOff o0) (f_fn o0) (f_fnArg o0) (f_computed o0) (f_sortedLen o0) (f_curPos o0) (f_aggSum o0) (f_aggCount o0) (f_aggRows o0) (f_aggMin o0) (f_aggMax o0) (f_part o1) (f_keys o1) (f_vals o1) (f_flg o1) (f_res o1) (f_resNull o1) (f_frameCnt o1) (f_sorted o1) (f_cap o1) (f_rows o1) a1_10 a1_11 a1_12 a1_13 a1_14 a1_15 a1_16 a1_17 (f_fnArg o1) (f_computed o1) (f_sortedLen o1) (f_curPos o1) (f_aggSum o1) (f_aggCount o1) (f_aggRows o1) (f_aggMin o1) (f_aggMax o1)
def H1x24 (s : List Int32) (o0 o1 : Ob) (a1_10 : Int32) (a1_11 : Int32) (a1_12 : Int32) (a1_13 : Int32) (a1_14 : Int32) (a1_15 : Int32) (a1_16 : Int32) (a1_17 : Int32) (a1_18 : Int32) : QHeap := H1v s (f_part o0) (f_keys o0) (f_vals o0) (f_flg o0) (f_res o0) (f_resNull o0) (f_frameCnt o0) (f_sorted o0) (f_cap o0) (f_rows o0) (f_direction o0) (f_nulls o0) (f_mode o0) (f_startKind o0) (f_startOff o0) (f_endKind o0) (f_endOff o0) (f_fn o0) (f_fnArg o0) (f_computed o0) (f_sortedLen o0) (f_curPos o0) (f_aggSum o0) (f_aggCount o0) (f_aggRows o0) (f_aggMin o0) (f_aggMax o0) (f_part o1) (f_keys o1) (f_vals o1) (f_flg o1) (f_res o1) (f_resNull o1) (f_frameCnt o1) (f_sorted o1) (f_cap o1) (f_rows o1) a1_10 a1_11 a1_12 a1_13 a1_14 a1_15 a1_16 a1_17 a1_18 (f_computed o1) (f_sortedLen o1) (f_curPos o1) (f_aggSum o1) (f_aggCount o1) (f_aggRows o1) (f_aggMin o1) (f_aggMax o1)
theorem tF2a1 (Ad : QAd n0 ad) (W : QW Z a0) (s : List Int32) (e0 : Ob) (o : Ob) {r : Ob} (h : F2 o = some r) : QTri l Z n0 ad 2 (0, qentry [.ref 10] (pMaxL 2), [], (H1 s e0 o)) (none : Option Value) (H1 s e0 r) := by
 unfold F2 at h
 refine zS Ad W 3 (st' := (5, [vR 10], [], (H1x16 s e0 o (1:Int32)))) rfl ?_
 refine zS Ad W 3 (st' := (10, [vR 10], [], (H1x17 s e0 o (1:Int32) (1:Int32)))) rfl ?_
 refine zS Ad W 3 (st' := (15, [vR 10], [], (H1x18 s e0 o (1:Int32) (1:Int32) (1:Int32)))) rfl ?_
 refine zS Ad W 3 (st' := (20, [vR 10], [], (H1x19 s e0 o (1:Int32) (1:Int32) (1:Int32) (0:Int32)))) rfl ?_
 refine zS Ad W 3 (st' := (25, [vR 10], [], (H1x20 s e0 o (1:Int32) (1:Int32) (1:Int32) (0:Int32) (0:Int32)))) rfl ?_
 refine zS Ad W 3 (st' := (30, [vR 10], [], (H1x21 s e0 o (1:Int32) (1:Int32) (1:Int32) (0:Int32) (0:Int32) (2:Int32)))) rfl ?_
 refine zS Ad W 3 (st' := (35, [vR 10], [], (H1x22 s e0 o (1:Int32) (1:Int32) (1:Int32) (0:Int32) (0:Int32) (2:Int32) (0:Int32)))) rfl ?_
 refine zS Ad W 3 (st' := (40, [vR 10], [], (H1x23 s e0 o (1:Int32) (1:Int32) (1:Int32) (0:Int32) (0:Int32) (2:Int32) (0:Int32) (0:Int32)))) rfl ?_
 refine zS Ad W 3 (st' := (45, [vR 10], [], (H1x24 s e0 o (1:Int32) (1:Int32) (1:Int32) (0:Int32) (0:Int32) (2:Int32) (0:Int32) (0:Int32) (0:Int32)))) rfl ?_
 have E19 : ((H1x24 s e0 o (1:Int32) (1:Int32) (1:Int32) (0:Int32) (0:Int32) (2:Int32) (0:Int32) (0:Int32) (0:Int32)) : QHeap) = (H1 s e0 (s_fnArg (s_fn (s_endOff (s_endKind (s_startOff (s_startKind (s_mode (s_nulls (s_direction o (1:Int32)) (1:Int32)) (1:Int32)) (0:Int32)) (0:Int32)) (2:Int32)) (0:Int32)) (0:Int32)) (0:Int32))) := by simp only [fs, H1, H1v, H1x24, s_direction, s_nulls, s_mode, s_startKind, s_startOff, s_endKind, s_endOff, s_fn, s_fnArg]
 rw [E19]
 obtain rfl := Option.some.inj h
 exact QTri.ret0 rfl rfl
def H1x25 (s : List Int32) (o0 o1 : Ob) (a1_19 : Int32) : QHeap := H1v s (f_part o0) (f_keys o0) (f_vals o0) (f_flg o0) (f_res o0) (f_resNull o0) (f_frameCnt o0) (f_sorted o0) (f_cap o0) (f_rows o0) (f_direction o0) (f_nulls o0) (f_mode o0) (f_startKind o0) (f_startOff o0) (f_endKind o0) (f_endOff o0) (f_fn o0) (f_fnArg o0) (f_computed o0) (f_sortedLen o0) (f_curPos o0) (f_aggSum o0) (f_aggCount o0) (f_aggRows o0) (f_aggMin o0) (f_aggMax o0) (f_part o1) (f_keys o1) (f_vals o1) (f_flg o1) (f_res o1) (f_resNull o1) (f_frameCnt o1) (f_sorted o1) (f_cap o1) (f_rows o1) (f_direction o1) (f_nulls o1) (f_mode o1) (f_startKind o1) (f_startOff o1) (f_endKind o1) (f_endOff o1) (f_fn o1) (f_fnArg o1) a1_19 (f_sortedLen o1) (f_curPos o1) (f_aggSum o1) (f_aggCount o1) (f_aggRows o1) (f_aggMin o1) (f_aggMax o1)
theorem tF1a1 (Ad : QAd n0 ad) (W : QW Z a0) (s : List Int32) (e0 : Ob) (x1 : Int32) {r : Ob} (h : F1 x1 = some r) : QTri l Z n0 ad 1 (0, qentry [.ref 10, .int x1] (pMaxL 1), [], [.inr (.inl (.int, s)), .inl [.ref 2, .ref 3, .ref 4, .ref 5, .ref 6, .ref 7, .ref 8, .ref 9, .int (f_cap e0), .int (f_rows e0), .int (f_direction e0), .int (f_nulls e0), .int (f_mode e0), .int (f_startKind e0), .int (f_startOff e0), .int (f_endKind e0), .int (f_endOff e0), .int (f_fn e0), .int (f_fnArg e0), .int (f_computed e0), .int (f_sortedLen e0), .int (f_curPos e0), .long (f_aggSum e0), .int (f_aggCount e0), .int (f_aggRows e0), .int (f_aggMin e0), .int (f_aggMax e0)], .inr (.inl (.int, (f_part e0))), .inr (.inl (.int, (f_keys e0))), .inr (.inl (.int, (f_vals e0))), .inr (.inl (.int, (f_flg e0))), .inr (.inr (f_res e0)), .inr (.inl (.boolean, (f_resNull e0))), .inr (.inl (.int, (f_frameCnt e0))), .inr (.inl (.int, (f_sorted e0))), .inl [.null, .null, .null, .null, .null, .null, .null, .null, .int (f_cap ob0), .int (f_rows ob0), .int (f_direction ob0), .int (f_nulls ob0), .int (f_mode ob0), .int (f_startKind ob0), .int (f_startOff ob0), .int (f_endKind ob0), .int (f_endOff ob0), .int (f_fn ob0), .int (f_fnArg ob0), .int (f_computed ob0), .int (f_sortedLen ob0), .int (f_curPos ob0), .long (f_aggSum ob0), .int (f_aggCount ob0), .int (f_aggRows ob0), .int (f_aggMin ob0), .int (f_aggMax ob0)]]) (none : Option Value) (H1 s e0 r) := by
 unfold F1 at h
 refine zS Ad W 1 (st' := (1, [vR 10, vI x1, none], [.ref 10], [.inr (.inl (.int, s)), .inl [.ref 2, .ref 3, .ref 4, .ref 5, .ref 6, .ref 7, .ref 8, .ref 9, .int (f_cap e0), .int (f_rows e0), .int (f_direction e0), .int (f_nulls e0), .int (f_mode e0), .int (f_startKind e0), .int (f_startOff e0), .int (f_endKind e0), .int (f_endOff e0), .int (f_fn e0), .int (f_fnArg e0), .int (f_computed e0), .int (f_sortedLen e0), .int (f_curPos e0), .long (f_aggSum e0), .int (f_aggCount e0), .int (f_aggRows e0), .int (f_aggMin e0), .int (f_aggMax e0)], .inr (.inl (.int, (f_part e0))), .inr (.inl (.int, (f_keys e0))), .inr (.inl (.int, (f_vals e0))), .inr (.inl (.int, (f_flg e0))), .inr (.inr (f_res e0)), .inr (.inl (.boolean, (f_resNull e0))), .inr (.inl (.int, (f_frameCnt e0))), .inr (.inl (.int, (f_sorted e0))), .inl [.null, .null, .null, .null, .null, .null, .null, .null, .int (f_cap ob0), .int (f_rows ob0), .int (f_direction ob0), .int (f_nulls ob0), .int (f_mode ob0), .int (f_startKind ob0), .int (f_startOff ob0), .int (f_endKind ob0), .int (f_endOff ob0), .int (f_fn ob0), .int (f_fnArg ob0), .int (f_computed ob0), .int (f_sortedLen ob0), .int (f_curPos ob0), .long (f_aggSum ob0), .int (f_aggCount ob0), .int (f_aggRows ob0), .int (f_aggMin ob0), .int (f_aggMax ob0)]])) rfl ?_
 refine QTri.callO W rfl rfl rfl ?_
 refine zS Ad W 3 (st' := (9, [vR 10, vI x1, none], [.ref 11, .ref 10], [.inr (.inl (.int, s)), .inl [.ref 2, .ref 3, .ref 4, .ref 5, .ref 6, .ref 7, .ref 8, .ref 9, .int (f_cap e0), .int (f_rows e0), .int (f_direction e0), .int (f_nulls e0), .int (f_mode e0), .int (f_startKind e0), .int (f_startOff e0), .int (f_endKind e0), .int (f_endOff e0), .int (f_fn e0), .int (f_fnArg e0), .int (f_computed e0), .int (f_sortedLen e0), .int (f_curPos e0), .long (f_aggSum e0), .int (f_aggCount e0), .int (f_aggRows e0), .int (f_aggMin e0), .int (f_aggMax e0)], .inr (.inl (.int, (f_part e0))), .inr (.inl (.int, (f_keys e0))), .inr (.inl (.int, (f_vals e0))), .inr (.inl (.int, (f_flg e0))), .inr (.inr (f_res e0)), .inr (.inl (.boolean, (f_resNull e0))), .inr (.inl (.int, (f_frameCnt e0))), .inr (.inl (.int, (f_sorted e0))), .inl [.null, .null, .null, .null, .null, .null, .null, .null, .int (f_cap ob0), .int (f_rows ob0), .int (f_direction ob0), .int (f_nulls ob0), .int (f_mode ob0), .int (f_startKind ob0), .int (f_startOff ob0), .int (f_endKind ob0), .int (f_endOff ob0), .int (f_fn ob0), .int (f_fnArg ob0), .int (f_computed ob0), .int (f_sortedLen ob0), .int (f_curPos ob0), .long (f_aggSum ob0), .int (f_aggCount ob0), .int (f_aggRows ob0), .int (f_aggMin ob0), .int (f_aggMax ob0)], .inr (.inl (.int, (List.replicate 32 0)))])) rfl ?_
 refine zS Ad W 1 (st' := (12, [vR 10, vI x1, none], [], [.inr (.inl (.int, s)), .inl [.ref 2, .ref 3, .ref 4, .ref 5, .ref 6, .ref 7, .ref 8, .ref 9, .int (f_cap e0), .int (f_rows e0), .int (f_direction e0), .int (f_nulls e0), .int (f_mode e0), .int (f_startKind e0), .int (f_startOff e0), .int (f_endKind e0), .int (f_endOff e0), .int (f_fn e0), .int (f_fnArg e0), .int (f_computed e0), .int (f_sortedLen e0), .int (f_curPos e0), .long (f_aggSum e0), .int (f_aggCount e0), .int (f_aggRows e0), .int (f_aggMin e0), .int (f_aggMax e0)], .inr (.inl (.int, (f_part e0))), .inr (.inl (.int, (f_keys e0))), .inr (.inl (.int, (f_vals e0))), .inr (.inl (.int, (f_flg e0))), .inr (.inr (f_res e0)), .inr (.inl (.boolean, (f_resNull e0))), .inr (.inl (.int, (f_frameCnt e0))), .inr (.inl (.int, (f_sorted e0))), .inl [.ref 11, .null, .null, .null, .null, .null, .null, .null, .int (f_cap ob0), .int (f_rows ob0), .int (f_direction ob0), .int (f_nulls ob0), .int (f_mode ob0), .int (f_startKind ob0), .int (f_startOff ob0), .int (f_endKind ob0), .int (f_endOff ob0), .int (f_fn ob0), .int (f_fnArg ob0), .int (f_computed ob0), .int (f_sortedLen ob0), .int (f_curPos ob0), .long (f_aggSum ob0), .int (f_aggCount ob0), .int (f_aggRows ob0), .int (f_aggMin ob0), .int (f_aggMax ob0)], .inr (.inl (.int, (List.replicate 32 0)))])) rfl ?_
 refine zS Ad W 3 (st' := (17, [vR 10, vI x1, none], [.ref 12, .ref 10], [.inr (.inl (.int, s)), .inl [.ref 2, .ref 3, .ref 4, .ref 5, .ref 6, .ref 7, .ref 8, .ref 9, .int (f_cap e0), .int (f_rows e0), .int (f_direction e0), .int (f_nulls e0), .int (f_mode e0), .int (f_startKind e0), .int (f_startOff e0), .int (f_endKind e0), .int (f_endOff e0), .int (f_fn e0), .int (f_fnArg e0), .int (f_computed e0), .int (f_sortedLen e0), .int (f_curPos e0), .long (f_aggSum e0), .int (f_aggCount e0), .int (f_aggRows e0), .int (f_aggMin e0), .int (f_aggMax e0)], .inr (.inl (.int, (f_part e0))), .inr (.inl (.int, (f_keys e0))), .inr (.inl (.int, (f_vals e0))), .inr (.inl (.int, (f_flg e0))), .inr (.inr (f_res e0)), .inr (.inl (.boolean, (f_resNull e0))), .inr (.inl (.int, (f_frameCnt e0))), .inr (.inl (.int, (f_sorted e0))), .inl [.ref 11, .null, .null, .null, .null, .null, .null, .null, .int (f_cap ob0), .int (f_rows ob0), .int (f_direction ob0), .int (f_nulls ob0), .int (f_mode ob0), .int (f_startKind ob0), .int (f_startOff ob0), .int (f_endKind ob0), .int (f_endOff ob0), .int (f_fn ob0), .int (f_fnArg ob0), .int (f_computed ob0), .int (f_sortedLen ob0), .int (f_curPos ob0), .long (f_aggSum ob0), .int (f_aggCount ob0), .int (f_aggRows ob0), .int (f_aggMin ob0), .int (f_aggMax ob0)], .inr (.inl (.int, (List.replicate 32 0))), .inr (.inl (.int, (List.replicate 32 0)))])) rfl ?_
 refine zS Ad W 1 (st' := (20, [vR 10, vI x1, none], [], [.inr (.inl (.int, s)), .inl [.ref 2, .ref 3, .ref 4, .ref 5, .ref 6, .ref 7, .ref 8, .ref 9, .int (f_cap e0), .int (f_rows e0), .int (f_direction e0), .int (f_nulls e0), .int (f_mode e0), .int (f_startKind e0), .int (f_startOff e0), .int (f_endKind e0), .int (f_endOff e0), .int (f_fn e0), .int (f_fnArg e0), .int (f_computed e0), .int (f_sortedLen e0), .int (f_curPos e0), .long (f_aggSum e0), .int (f_aggCount e0), .int (f_aggRows e0), .int (f_aggMin e0), .int (f_aggMax e0)], .inr (.inl (.int, (f_part e0))), .inr (.inl (.int, (f_keys e0))), .inr (.inl (.int, (f_vals e0))), .inr (.inl (.int, (f_flg e0))), .inr (.inr (f_res e0)), .inr (.inl (.boolean, (f_resNull e0))), .inr (.inl (.int, (f_frameCnt e0))), .inr (.inl (.int, (f_sorted e0))), .inl [.ref 11, .ref 12, .null, .null, .null, .null, .null, .null, .int (f_cap ob0), .int (f_rows ob0), .int (f_direction ob0), .int (f_nulls ob0), .int (f_mode ob0), .int (f_startKind ob0), .int (f_startOff ob0), .int (f_endKind ob0), .int (f_endOff ob0), .int (f_fn ob0), .int (f_fnArg ob0), .int (f_computed ob0), .int (f_sortedLen ob0), .int (f_curPos ob0), .long (f_aggSum ob0), .int (f_aggCount ob0), .int (f_aggRows ob0), .int (f_aggMin ob0), .int (f_aggMax ob0)], .inr (.inl (.int, (List.replicate 32 0))), .inr (.inl (.int, (List.replicate 32 0)))])) rfl ?_
 refine zS Ad W 3 (st' := (25, [vR 10, vI x1, none], [.ref 13, .ref 10], [.inr (.inl (.int, s)), .inl [.ref 2, .ref 3, .ref 4, .ref 5, .ref 6, .ref 7, .ref 8, .ref 9, .int (f_cap e0), .int (f_rows e0), .int (f_direction e0), .int (f_nulls e0), .int (f_mode e0), .int (f_startKind e0), .int (f_startOff e0), .int (f_endKind e0), .int (f_endOff e0), .int (f_fn e0), .int (f_fnArg e0), .int (f_computed e0), .int (f_sortedLen e0), .int (f_curPos e0), .long (f_aggSum e0), .int (f_aggCount e0), .int (f_aggRows e0), .int (f_aggMin e0), .int (f_aggMax e0)], .inr (.inl (.int, (f_part e0))), .inr (.inl (.int, (f_keys e0))), .inr (.inl (.int, (f_vals e0))), .inr (.inl (.int, (f_flg e0))), .inr (.inr (f_res e0)), .inr (.inl (.boolean, (f_resNull e0))), .inr (.inl (.int, (f_frameCnt e0))), .inr (.inl (.int, (f_sorted e0))), .inl [.ref 11, .ref 12, .null, .null, .null, .null, .null, .null, .int (f_cap ob0), .int (f_rows ob0), .int (f_direction ob0), .int (f_nulls ob0), .int (f_mode ob0), .int (f_startKind ob0), .int (f_startOff ob0), .int (f_endKind ob0), .int (f_endOff ob0), .int (f_fn ob0), .int (f_fnArg ob0), .int (f_computed ob0), .int (f_sortedLen ob0), .int (f_curPos ob0), .long (f_aggSum ob0), .int (f_aggCount ob0), .int (f_aggRows ob0), .int (f_aggMin ob0), .int (f_aggMax ob0)], .inr (.inl (.int, (List.replicate 32 0))), .inr (.inl (.int, (List.replicate 32 0))), .inr (.inl (.int, (List.replicate 32 0)))])) rfl ?_
 refine zS Ad W 1 (st' := (28, [vR 10, vI x1, none], [], [.inr (.inl (.int, s)), .inl [.ref 2, .ref 3, .ref 4, .ref 5, .ref 6, .ref 7, .ref 8, .ref 9, .int (f_cap e0), .int (f_rows e0), .int (f_direction e0), .int (f_nulls e0), .int (f_mode e0), .int (f_startKind e0), .int (f_startOff e0), .int (f_endKind e0), .int (f_endOff e0), .int (f_fn e0), .int (f_fnArg e0), .int (f_computed e0), .int (f_sortedLen e0), .int (f_curPos e0), .long (f_aggSum e0), .int (f_aggCount e0), .int (f_aggRows e0), .int (f_aggMin e0), .int (f_aggMax e0)], .inr (.inl (.int, (f_part e0))), .inr (.inl (.int, (f_keys e0))), .inr (.inl (.int, (f_vals e0))), .inr (.inl (.int, (f_flg e0))), .inr (.inr (f_res e0)), .inr (.inl (.boolean, (f_resNull e0))), .inr (.inl (.int, (f_frameCnt e0))), .inr (.inl (.int, (f_sorted e0))), .inl [.ref 11, .ref 12, .ref 13, .null, .null, .null, .null, .null, .int (f_cap ob0), .int (f_rows ob0), .int (f_direction ob0), .int (f_nulls ob0), .int (f_mode ob0), .int (f_startKind ob0), .int (f_startOff ob0), .int (f_endKind ob0), .int (f_endOff ob0), .int (f_fn ob0), .int (f_fnArg ob0), .int (f_computed ob0), .int (f_sortedLen ob0), .int (f_curPos ob0), .long (f_aggSum ob0), .int (f_aggCount ob0), .int (f_aggRows ob0), .int (f_aggMin ob0), .int (f_aggMax ob0)], .inr (.inl (.int, (List.replicate 32 0))), .inr (.inl (.int, (List.replicate 32 0))), .inr (.inl (.int, (List.replicate 32 0)))])) rfl ?_
 refine zS Ad W 3 (st' := (33, [vR 10, vI x1, none], [.ref 14, .ref 10], [.inr (.inl (.int, s)), .inl [.ref 2, .ref 3, .ref 4, .ref 5, .ref 6, .ref 7, .ref 8, .ref 9, .int (f_cap e0), .int (f_rows e0), .int (f_direction e0), .int (f_nulls e0), .int (f_mode e0), .int (f_startKind e0), .int (f_startOff e0), .int (f_endKind e0), .int (f_endOff e0), .int (f_fn e0), .int (f_fnArg e0), .int (f_computed e0), .int (f_sortedLen e0), .int (f_curPos e0), .long (f_aggSum e0), .int (f_aggCount e0), .int (f_aggRows e0), .int (f_aggMin e0), .int (f_aggMax e0)], .inr (.inl (.int, (f_part e0))), .inr (.inl (.int, (f_keys e0))), .inr (.inl (.int, (f_vals e0))), .inr (.inl (.int, (f_flg e0))), .inr (.inr (f_res e0)), .inr (.inl (.boolean, (f_resNull e0))), .inr (.inl (.int, (f_frameCnt e0))), .inr (.inl (.int, (f_sorted e0))), .inl [.ref 11, .ref 12, .ref 13, .null, .null, .null, .null, .null, .int (f_cap ob0), .int (f_rows ob0), .int (f_direction ob0), .int (f_nulls ob0), .int (f_mode ob0), .int (f_startKind ob0), .int (f_startOff ob0), .int (f_endKind ob0), .int (f_endOff ob0), .int (f_fn ob0), .int (f_fnArg ob0), .int (f_computed ob0), .int (f_sortedLen ob0), .int (f_curPos ob0), .long (f_aggSum ob0), .int (f_aggCount ob0), .int (f_aggRows ob0), .int (f_aggMin ob0), .int (f_aggMax ob0)], .inr (.inl (.int, (List.replicate 32 0))), .inr (.inl (.int, (List.replicate 32 0))), .inr (.inl (.int, (List.replicate 32 0))), .inr (.inl (.int, (List.replicate 32 0)))])) rfl ?_
 refine zS Ad W 1 (st' := (36, [vR 10, vI x1, none], [], [.inr (.inl (.int, s)), .inl [.ref 2, .ref 3, .ref 4, .ref 5, .ref 6, .ref 7, .ref 8, .ref 9, .int (f_cap e0), .int (f_rows e0), .int (f_direction e0), .int (f_nulls e0), .int (f_mode e0), .int (f_startKind e0), .int (f_startOff e0), .int (f_endKind e0), .int (f_endOff e0), .int (f_fn e0), .int (f_fnArg e0), .int (f_computed e0), .int (f_sortedLen e0), .int (f_curPos e0), .long (f_aggSum e0), .int (f_aggCount e0), .int (f_aggRows e0), .int (f_aggMin e0), .int (f_aggMax e0)], .inr (.inl (.int, (f_part e0))), .inr (.inl (.int, (f_keys e0))), .inr (.inl (.int, (f_vals e0))), .inr (.inl (.int, (f_flg e0))), .inr (.inr (f_res e0)), .inr (.inl (.boolean, (f_resNull e0))), .inr (.inl (.int, (f_frameCnt e0))), .inr (.inl (.int, (f_sorted e0))), .inl [.ref 11, .ref 12, .ref 13, .ref 14, .null, .null, .null, .null, .int (f_cap ob0), .int (f_rows ob0), .int (f_direction ob0), .int (f_nulls ob0), .int (f_mode ob0), .int (f_startKind ob0), .int (f_startOff ob0), .int (f_endKind ob0), .int (f_endOff ob0), .int (f_fn ob0), .int (f_fnArg ob0), .int (f_computed ob0), .int (f_sortedLen ob0), .int (f_curPos ob0), .long (f_aggSum ob0), .int (f_aggCount ob0), .int (f_aggRows ob0), .int (f_aggMin ob0), .int (f_aggMax ob0)], .inr (.inl (.int, (List.replicate 32 0))), .inr (.inl (.int, (List.replicate 32 0))), .inr (.inl (.int, (List.replicate 32 0))), .inr (.inl (.int, (List.replicate 32 0)))])) rfl ?_
 refine zS Ad W 3 (st' := (41, [vR 10, vI x1, none], [.ref 15, .ref 10], [.inr (.inl (.int, s)), .inl [.ref 2, .ref 3, .ref 4, .ref 5, .ref 6, .ref 7, .ref 8, .ref 9, .int (f_cap e0), .int (f_rows e0), .int (f_direction e0), .int (f_nulls e0), .int (f_mode e0), .int (f_startKind e0), .int (f_startOff e0), .int (f_endKind e0), .int (f_endOff e0), .int (f_fn e0), .int (f_fnArg e0), .int (f_computed e0), .int (f_sortedLen e0), .int (f_curPos e0), .long (f_aggSum e0), .int (f_aggCount e0), .int (f_aggRows e0), .int (f_aggMin e0), .int (f_aggMax e0)], .inr (.inl (.int, (f_part e0))), .inr (.inl (.int, (f_keys e0))), .inr (.inl (.int, (f_vals e0))), .inr (.inl (.int, (f_flg e0))), .inr (.inr (f_res e0)), .inr (.inl (.boolean, (f_resNull e0))), .inr (.inl (.int, (f_frameCnt e0))), .inr (.inl (.int, (f_sorted e0))), .inl [.ref 11, .ref 12, .ref 13, .ref 14, .null, .null, .null, .null, .int (f_cap ob0), .int (f_rows ob0), .int (f_direction ob0), .int (f_nulls ob0), .int (f_mode ob0), .int (f_startKind ob0), .int (f_startOff ob0), .int (f_endKind ob0), .int (f_endOff ob0), .int (f_fn ob0), .int (f_fnArg ob0), .int (f_computed ob0), .int (f_sortedLen ob0), .int (f_curPos ob0), .long (f_aggSum ob0), .int (f_aggCount ob0), .int (f_aggRows ob0), .int (f_aggMin ob0), .int (f_aggMax ob0)], .inr (.inl (.int, (List.replicate 32 0))), .inr (.inl (.int, (List.replicate 32 0))), .inr (.inl (.int, (List.replicate 32 0))), .inr (.inl (.int, (List.replicate 32 0))), .inr (.inr (List.replicate 32 0))])) rfl ?_
 refine zS Ad W 1 (st' := (44, [vR 10, vI x1, none], [], [.inr (.inl (.int, s)), .inl [.ref 2, .ref 3, .ref 4, .ref 5, .ref 6, .ref 7, .ref 8, .ref 9, .int (f_cap e0), .int (f_rows e0), .int (f_direction e0), .int (f_nulls e0), .int (f_mode e0), .int (f_startKind e0), .int (f_startOff e0), .int (f_endKind e0), .int (f_endOff e0), .int (f_fn e0), .int (f_fnArg e0), .int (f_computed e0), .int (f_sortedLen e0), .int (f_curPos e0), .long (f_aggSum e0), .int (f_aggCount e0), .int (f_aggRows e0), .int (f_aggMin e0), .int (f_aggMax e0)], .inr (.inl (.int, (f_part e0))), .inr (.inl (.int, (f_keys e0))), .inr (.inl (.int, (f_vals e0))), .inr (.inl (.int, (f_flg e0))), .inr (.inr (f_res e0)), .inr (.inl (.boolean, (f_resNull e0))), .inr (.inl (.int, (f_frameCnt e0))), .inr (.inl (.int, (f_sorted e0))), .inl [.ref 11, .ref 12, .ref 13, .ref 14, .ref 15, .null, .null, .null, .int (f_cap ob0), .int (f_rows ob0), .int (f_direction ob0), .int (f_nulls ob0), .int (f_mode ob0), .int (f_startKind ob0), .int (f_startOff ob0), .int (f_endKind ob0), .int (f_endOff ob0), .int (f_fn ob0), .int (f_fnArg ob0), .int (f_computed ob0), .int (f_sortedLen ob0), .int (f_curPos ob0), .long (f_aggSum ob0), .int (f_aggCount ob0), .int (f_aggRows ob0), .int (f_aggMin ob0), .int (f_aggMax ob0)], .inr (.inl (.int, (List.replicate 32 0))), .inr (.inl (.int, (List.replicate 32 0))), .inr (.inl (.int, (List.replicate 32 0))), .inr (.inl (.int, (List.replicate 32 0))), .inr (.inr (List.replicate 32 0))])) rfl ?_
 refine zS Ad W 3 (st' := (49, [vR 10, vI x1, none], [.ref 16, .ref 10], [.inr (.inl (.int, s)), .inl [.ref 2, .ref 3, .ref 4, .ref 5, .ref 6, .ref 7, .ref 8, .ref 9, .int (f_cap e0), .int (f_rows e0), .int (f_direction e0), .int (f_nulls e0), .int (f_mode e0), .int (f_startKind e0), .int (f_startOff e0), .int (f_endKind e0), .int (f_endOff e0), .int (f_fn e0), .int (f_fnArg e0), .int (f_computed e0), .int (f_sortedLen e0), .int (f_curPos e0), .long (f_aggSum e0), .int (f_aggCount e0), .int (f_aggRows e0), .int (f_aggMin e0), .int (f_aggMax e0)], .inr (.inl (.int, (f_part e0))), .inr (.inl (.int, (f_keys e0))), .inr (.inl (.int, (f_vals e0))), .inr (.inl (.int, (f_flg e0))), .inr (.inr (f_res e0)), .inr (.inl (.boolean, (f_resNull e0))), .inr (.inl (.int, (f_frameCnt e0))), .inr (.inl (.int, (f_sorted e0))), .inl [.ref 11, .ref 12, .ref 13, .ref 14, .ref 15, .null, .null, .null, .int (f_cap ob0), .int (f_rows ob0), .int (f_direction ob0), .int (f_nulls ob0), .int (f_mode ob0), .int (f_startKind ob0), .int (f_startOff ob0), .int (f_endKind ob0), .int (f_endOff ob0), .int (f_fn ob0), .int (f_fnArg ob0), .int (f_computed ob0), .int (f_sortedLen ob0), .int (f_curPos ob0), .long (f_aggSum ob0), .int (f_aggCount ob0), .int (f_aggRows ob0), .int (f_aggMin ob0), .int (f_aggMax ob0)], .inr (.inl (.int, (List.replicate 32 0))), .inr (.inl (.int, (List.replicate 32 0))), .inr (.inl (.int, (List.replicate 32 0))), .inr (.inl (.int, (List.replicate 32 0))), .inr (.inr (List.replicate 32 0)), .inr (.inl (.boolean, (List.replicate 32 0)))])) rfl ?_
 refine zS Ad W 1 (st' := (52, [vR 10, vI x1, none], [], [.inr (.inl (.int, s)), .inl [.ref 2, .ref 3, .ref 4, .ref 5, .ref 6, .ref 7, .ref 8, .ref 9, .int (f_cap e0), .int (f_rows e0), .int (f_direction e0), .int (f_nulls e0), .int (f_mode e0), .int (f_startKind e0), .int (f_startOff e0), .int (f_endKind e0), .int (f_endOff e0), .int (f_fn e0), .int (f_fnArg e0), .int (f_computed e0), .int (f_sortedLen e0), .int (f_curPos e0), .long (f_aggSum e0), .int (f_aggCount e0), .int (f_aggRows e0), .int (f_aggMin e0), .int (f_aggMax e0)], .inr (.inl (.int, (f_part e0))), .inr (.inl (.int, (f_keys e0))), .inr (.inl (.int, (f_vals e0))), .inr (.inl (.int, (f_flg e0))), .inr (.inr (f_res e0)), .inr (.inl (.boolean, (f_resNull e0))), .inr (.inl (.int, (f_frameCnt e0))), .inr (.inl (.int, (f_sorted e0))), .inl [.ref 11, .ref 12, .ref 13, .ref 14, .ref 15, .ref 16, .null, .null, .int (f_cap ob0), .int (f_rows ob0), .int (f_direction ob0), .int (f_nulls ob0), .int (f_mode ob0), .int (f_startKind ob0), .int (f_startOff ob0), .int (f_endKind ob0), .int (f_endOff ob0), .int (f_fn ob0), .int (f_fnArg ob0), .int (f_computed ob0), .int (f_sortedLen ob0), .int (f_curPos ob0), .long (f_aggSum ob0), .int (f_aggCount ob0), .int (f_aggRows ob0), .int (f_aggMin ob0), .int (f_aggMax ob0)], .inr (.inl (.int, (List.replicate 32 0))), .inr (.inl (.int, (List.replicate 32 0))), .inr (.inl (.int, (List.replicate 32 0))), .inr (.inl (.int, (List.replicate 32 0))), .inr (.inr (List.replicate 32 0)), .inr (.inl (.boolean, (List.replicate 32 0)))])) rfl ?_
 refine zS Ad W 3 (st' := (57, [vR 10, vI x1, none], [.ref 17, .ref 10], [.inr (.inl (.int, s)), .inl [.ref 2, .ref 3, .ref 4, .ref 5, .ref 6, .ref 7, .ref 8, .ref 9, .int (f_cap e0), .int (f_rows e0), .int (f_direction e0), .int (f_nulls e0), .int (f_mode e0), .int (f_startKind e0), .int (f_startOff e0), .int (f_endKind e0), .int (f_endOff e0), .int (f_fn e0), .int (f_fnArg e0), .int (f_computed e0), .int (f_sortedLen e0), .int (f_curPos e0), .long (f_aggSum e0), .int (f_aggCount e0), .int (f_aggRows e0), .int (f_aggMin e0), .int (f_aggMax e0)], .inr (.inl (.int, (f_part e0))), .inr (.inl (.int, (f_keys e0))), .inr (.inl (.int, (f_vals e0))), .inr (.inl (.int, (f_flg e0))), .inr (.inr (f_res e0)), .inr (.inl (.boolean, (f_resNull e0))), .inr (.inl (.int, (f_frameCnt e0))), .inr (.inl (.int, (f_sorted e0))), .inl [.ref 11, .ref 12, .ref 13, .ref 14, .ref 15, .ref 16, .null, .null, .int (f_cap ob0), .int (f_rows ob0), .int (f_direction ob0), .int (f_nulls ob0), .int (f_mode ob0), .int (f_startKind ob0), .int (f_startOff ob0), .int (f_endKind ob0), .int (f_endOff ob0), .int (f_fn ob0), .int (f_fnArg ob0), .int (f_computed ob0), .int (f_sortedLen ob0), .int (f_curPos ob0), .long (f_aggSum ob0), .int (f_aggCount ob0), .int (f_aggRows ob0), .int (f_aggMin ob0), .int (f_aggMax ob0)], .inr (.inl (.int, (List.replicate 32 0))), .inr (.inl (.int, (List.replicate 32 0))), .inr (.inl (.int, (List.replicate 32 0))), .inr (.inl (.int, (List.replicate 32 0))), .inr (.inr (List.replicate 32 0)), .inr (.inl (.boolean, (List.replicate 32 0))), .inr (.inl (.int, (List.replicate 32 0)))])) rfl ?_
 refine zS Ad W 1 (st' := (60, [vR 10, vI x1, none], [], [.inr (.inl (.int, s)), .inl [.ref 2, .ref 3, .ref 4, .ref 5, .ref 6, .ref 7, .ref 8, .ref 9, .int (f_cap e0), .int (f_rows e0), .int (f_direction e0), .int (f_nulls e0), .int (f_mode e0), .int (f_startKind e0), .int (f_startOff e0), .int (f_endKind e0), .int (f_endOff e0), .int (f_fn e0), .int (f_fnArg e0), .int (f_computed e0), .int (f_sortedLen e0), .int (f_curPos e0), .long (f_aggSum e0), .int (f_aggCount e0), .int (f_aggRows e0), .int (f_aggMin e0), .int (f_aggMax e0)], .inr (.inl (.int, (f_part e0))), .inr (.inl (.int, (f_keys e0))), .inr (.inl (.int, (f_vals e0))), .inr (.inl (.int, (f_flg e0))), .inr (.inr (f_res e0)), .inr (.inl (.boolean, (f_resNull e0))), .inr (.inl (.int, (f_frameCnt e0))), .inr (.inl (.int, (f_sorted e0))), .inl [.ref 11, .ref 12, .ref 13, .ref 14, .ref 15, .ref 16, .ref 17, .null, .int (f_cap ob0), .int (f_rows ob0), .int (f_direction ob0), .int (f_nulls ob0), .int (f_mode ob0), .int (f_startKind ob0), .int (f_startOff ob0), .int (f_endKind ob0), .int (f_endOff ob0), .int (f_fn ob0), .int (f_fnArg ob0), .int (f_computed ob0), .int (f_sortedLen ob0), .int (f_curPos ob0), .long (f_aggSum ob0), .int (f_aggCount ob0), .int (f_aggRows ob0), .int (f_aggMin ob0), .int (f_aggMax ob0)], .inr (.inl (.int, (List.replicate 32 0))), .inr (.inl (.int, (List.replicate 32 0))), .inr (.inl (.int, (List.replicate 32 0))), .inr (.inl (.int, (List.replicate 32 0))), .inr (.inr (List.replicate 32 0)), .inr (.inl (.boolean, (List.replicate 32 0))), .inr (.inl (.int, (List.replicate 32 0)))])) rfl ?_
 refine zS Ad W 3 (st' := (65, [vR 10, vI x1, none], [.ref 18, .ref 10], [.inr (.inl (.int, s)), .inl [.ref 2, .ref 3, .ref 4, .ref 5, .ref 6, .ref 7, .ref 8, .ref 9, .int (f_cap e0), .int (f_rows e0), .int (f_direction e0), .int (f_nulls e0), .int (f_mode e0), .int (f_startKind e0), .int (f_startOff e0), .int (f_endKind e0), .int (f_endOff e0), .int (f_fn e0), .int (f_fnArg e0), .int (f_computed e0), .int (f_sortedLen e0), .int (f_curPos e0), .long (f_aggSum e0), .int (f_aggCount e0), .int (f_aggRows e0), .int (f_aggMin e0), .int (f_aggMax e0)], .inr (.inl (.int, (f_part e0))), .inr (.inl (.int, (f_keys e0))), .inr (.inl (.int, (f_vals e0))), .inr (.inl (.int, (f_flg e0))), .inr (.inr (f_res e0)), .inr (.inl (.boolean, (f_resNull e0))), .inr (.inl (.int, (f_frameCnt e0))), .inr (.inl (.int, (f_sorted e0))), .inl [.ref 11, .ref 12, .ref 13, .ref 14, .ref 15, .ref 16, .ref 17, .null, .int (f_cap ob0), .int (f_rows ob0), .int (f_direction ob0), .int (f_nulls ob0), .int (f_mode ob0), .int (f_startKind ob0), .int (f_startOff ob0), .int (f_endKind ob0), .int (f_endOff ob0), .int (f_fn ob0), .int (f_fnArg ob0), .int (f_computed ob0), .int (f_sortedLen ob0), .int (f_curPos ob0), .long (f_aggSum ob0), .int (f_aggCount ob0), .int (f_aggRows ob0), .int (f_aggMin ob0), .int (f_aggMax ob0)], .inr (.inl (.int, (List.replicate 32 0))), .inr (.inl (.int, (List.replicate 32 0))), .inr (.inl (.int, (List.replicate 32 0))), .inr (.inl (.int, (List.replicate 32 0))), .inr (.inr (List.replicate 32 0)), .inr (.inl (.boolean, (List.replicate 32 0))), .inr (.inl (.int, (List.replicate 32 0))), .inr (.inl (.int, (List.replicate 32 0)))])) rfl ?_
 refine zS Ad W 1 (st' := (68, [vR 10, vI x1, none], [], (H1x13 s e0 ob0 (List.replicate 32 0) (List.replicate 32 0) (List.replicate 32 0) (List.replicate 32 0) (List.replicate 32 0) (List.replicate 32 0) (List.replicate 32 0) (List.replicate 32 0)))) rfl ?_
 refine zS Ad W 4 (st' := (73, [vR 10, vI x1, vI x1], [.int (8:Int32), .int x1], (H1x13 s e0 ob0 (List.replicate 32 0) (List.replicate 32 0) (List.replicate 32 0) (List.replicate 32 0) (List.replicate 32 0) (List.replicate 32 0) (List.replicate 32 0) (List.replicate 32 0)))) rfl ?_
 have K13 : ∀ z12 : Int32, z12 = (if x1 < (8:Int32) then (8:Int32) else x1) → QTri l Z n0 ad 1 (79, [vR 10, none, vI z12], [], (H1x13 s e0 ob0 (List.replicate 32 0) (List.replicate 32 0) (List.replicate 32 0) (List.replicate 32 0) (List.replicate 32 0) (List.replicate 32 0) (List.replicate 32 0) (List.replicate 32 0))) (none : Option Value) (H1 s e0 r) := by
  intro z12 ez12
  subst ez12
  refine zS Ad W 2 (st' := (82, [vR 10, none, vI (if x1 < (8:Int32) then (8:Int32) else x1)], [.int (32:Int32), .int (if x1 < (8:Int32) then (8:Int32) else x1)], (H1x13 s e0 ob0 (List.replicate 32 0) (List.replicate 32 0) (List.replicate 32 0) (List.replicate 32 0) (List.replicate 32 0) (List.replicate 32 0) (List.replicate 32 0) (List.replicate 32 0)))) rfl ?_
  have K16 : ∀ z15 : Int32, z15 = (if (32:Int32) < (if x1 < (8:Int32) then (8:Int32) else x1) then (32:Int32) else (if x1 < (8:Int32) then (8:Int32) else x1)) → QTri l Z n0 ad 1 (88, [vR 10, none, vI z15], [], (H1x13 s e0 ob0 (List.replicate 32 0) (List.replicate 32 0) (List.replicate 32 0) (List.replicate 32 0) (List.replicate 32 0) (List.replicate 32 0) (List.replicate 32 0) (List.replicate 32 0))) (none : Option Value) (H1 s e0 r) := by
   intro z15 ez15
   subst ez15
   refine zS Ad W 3 (st' := (93, [vR 10, none, vI (if (32:Int32) < (if x1 < (8:Int32) then (8:Int32) else x1) then (32:Int32) else (if x1 < (8:Int32) then (8:Int32) else x1))], [], (H1x14 s e0 ob0 (List.replicate 32 0) (List.replicate 32 0) (List.replicate 32 0) (List.replicate 32 0) (List.replicate 32 0) (List.replicate 32 0) (List.replicate 32 0) (List.replicate 32 0) (if (32:Int32) < (if x1 < (8:Int32) then (8:Int32) else x1) then (32:Int32) else (if x1 < (8:Int32) then (8:Int32) else x1))))) rfl ?_
   refine zS Ad W 3 (st' := (98, [vR 10, none, vI (if (32:Int32) < (if x1 < (8:Int32) then (8:Int32) else x1) then (32:Int32) else (if x1 < (8:Int32) then (8:Int32) else x1))], [], (H1x15 s e0 ob0 (List.replicate 32 0) (List.replicate 32 0) (List.replicate 32 0) (List.replicate 32 0) (List.replicate 32 0) (List.replicate 32 0) (List.replicate 32 0) (List.replicate 32 0) (if (32:Int32) < (if x1 < (8:Int32) then (8:Int32) else x1) then (32:Int32) else (if x1 < (8:Int32) then (8:Int32) else x1)) (0:Int32)))) rfl ?_
   refine zS Ad W 1 (st' := (99, [vR 10, none, vI (if (32:Int32) < (if x1 < (8:Int32) then (8:Int32) else x1) then (32:Int32) else (if x1 < (8:Int32) then (8:Int32) else x1))], [.ref 10], (H1x15 s e0 ob0 (List.replicate 32 0) (List.replicate 32 0) (List.replicate 32 0) (List.replicate 32 0) (List.replicate 32 0) (List.replicate 32 0) (List.replicate 32 0) (List.replicate 32 0) (if (32:Int32) < (if x1 < (8:Int32) then (8:Int32) else x1) then (32:Int32) else (if x1 < (8:Int32) then (8:Int32) else x1)) (0:Int32)))) rfl ?_
   have E18 : ((H1x15 s e0 ob0 (List.replicate 32 0) (List.replicate 32 0) (List.replicate 32 0) (List.replicate 32 0) (List.replicate 32 0) (List.replicate 32 0) (List.replicate 32 0) (List.replicate 32 0) (if (32:Int32) < (if x1 < (8:Int32) then (8:Int32) else x1) then (32:Int32) else (if x1 < (8:Int32) then (8:Int32) else x1)) (0:Int32)) : QHeap) = (H1 s e0 (s_rows (s_cap (s_sorted (s_frameCnt (s_resNull (s_res (s_flg (s_vals (s_keys (s_part ob0 (List.replicate 32 0)) (List.replicate 32 0)) (List.replicate 32 0)) (List.replicate 32 0)) (List.replicate 32 0)) (List.replicate 32 0)) (List.replicate 32 0)) (List.replicate 32 0)) (if (32:Int32) < (if x1 < (8:Int32) then (8:Int32) else x1) then (32:Int32) else (if x1 < (8:Int32) then (8:Int32) else x1))) (0:Int32))) := by simp only [fs, H1, H1v, H1x15, s_part, s_keys, s_vals, s_flg, s_res, s_resNull, s_frameCnt, s_sorted, s_cap, s_rows, ob0]
   rw [E18]
   obtain ⟨r20, hr20, h⟩ := bind_eq_some_iff.mp h
   refine QTri.callP W (a := 10) (as := []) (rest := []) (w := none) (σ₁ := (H1 s e0 r20)) rfl rfl rfl rfl rfl rfl rfl rfl (tF2a1 Ad W s e0 (s_rows (s_cap (s_sorted (s_frameCnt (s_resNull (s_res (s_flg (s_vals (s_keys (s_part ob0 (List.replicate 32 0)) (List.replicate 32 0)) (List.replicate 32 0)) (List.replicate 32 0)) (List.replicate 32 0)) (List.replicate 32 0)) (List.replicate 32 0)) (List.replicate 32 0)) (if (32:Int32) < (if x1 < (8:Int32) then (8:Int32) else x1) then (32:Int32) else (if x1 < (8:Int32) then (8:Int32) else x1))) (0:Int32)) hr20) ?_
   refine zS Ad W 3 (st' := (107, [vR 10, none, vI (if (32:Int32) < (if x1 < (8:Int32) then (8:Int32) else x1) then (32:Int32) else (if x1 < (8:Int32) then (8:Int32) else x1))], [], (H1x25 s e0 r20 (0:Int32)))) rfl ?_
   have E21 : ((H1x25 s e0 r20 (0:Int32)) : QHeap) = (H1 s e0 (s_computed r20 (0:Int32))) := by simp only [fs, H1, H1v, H1x25, s_computed]
   rw [E21]
   obtain rfl := Option.some.inj h
   exact QTri.ret0 rfl rfl
  rcases em ((32:Int32) < (if x1 < (8:Int32) then (8:Int32) else x1)) with hc17 | hc17
  ·refine zF Ad W (t := 88) (f := 85) rfl (XT.ii_le_f hc17) ?_
   refine zS Ad W 2 (st' := (88, [vR 10, none, vI (32:Int32)], [], (H1x13 s e0 ob0 (List.replicate 32 0) (List.replicate 32 0) (List.replicate 32 0) (List.replicate 32 0) (List.replicate 32 0) (List.replicate 32 0) (List.replicate 32 0) (List.replicate 32 0)))) rfl ?_
   exact zM [tt,ff,tt] (K16 _ (if_pos hc17).symm)
  ·refine zT Ad W (t := 88) (f := 85) rfl (XT.ii_le_t hc17) ?_
   exact zM [tt,ff,tt] (K16 _ (if_neg hc17).symm)
 rcases em (x1 < (8:Int32)) with hc14 | hc14
 ·refine zF Ad W (t := 79) (f := 76) rfl (XT.ii_ge_f hc14) ?_
  refine zS Ad W 2 (st' := (79, [vR 10, vI x1, vI (8:Int32)], [], (H1x13 s e0 ob0 (List.replicate 32 0) (List.replicate 32 0) (List.replicate 32 0) (List.replicate 32 0) (List.replicate 32 0) (List.replicate 32 0) (List.replicate 32 0) (List.replicate 32 0)))) rfl ?_
  exact zM [tt,ff,tt] (K13 _ (if_pos hc14).symm)
 ·refine zT Ad W (t := 79) (f := 76) rfl (XT.ii_ge_t hc14) ?_
  exact zM [tt,ff,tt] (K13 _ (if_neg hc14).symm)
def H1x26 (s : List Int32) (o0 o1 : Ob) (a0_0 : List Int32) : QHeap := H1v s a0_0 (f_keys o0) (f_vals o0) (f_flg o0) (f_res o0) (f_resNull o0) (f_frameCnt o0) (f_sorted o0) (f_cap o0) (f_rows o0) (f_direction o0) (f_nulls o0) (f_mode o0) (f_startKind o0) (f_startOff o0) (f_endKind o0) (f_endOff o0) (f_fn o0) (f_fnArg o0) (f_computed o0) (f_sortedLen o0) (f_curPos o0) (f_aggSum o0) (f_aggCount o0) (f_aggRows o0) (f_aggMin o0) (f_aggMax o0) (f_part o1) (f_keys o1) (f_vals o1) (f_flg o1) (f_res o1) (f_resNull o1) (f_frameCnt o1) (f_sorted o1) (f_cap o1) (f_rows o1) (f_direction o1) (f_nulls o1) (f_mode o1) (f_startKind o1) (f_startOff o1) (f_endKind o1) (f_endOff o1) (f_fn o1) (f_fnArg o1) (f_computed o1) (f_sortedLen o1) (f_curPos o1) (f_aggSum o1) (f_aggCount o1) (f_aggRows o1) (f_aggMin o1) (f_aggMax o1)
def H1x27 (s : List Int32) (o0 o1 : Ob) (a0_0 : List Int32) (a0_1 : List Int32) : QHeap := H1v s a0_0 a0_1 (f_vals o0) (f_flg o0) (f_res o0) (f_resNull o0) (f_frameCnt o0) (f_sorted o0) (f_cap o0) (f_rows o0) (f_direction o0) (f_nulls o0) (f_mode o0) (f_startKind o0) (f_startOff o0) (f_endKind o0) (f_endOff o0) (f_fn o0) (f_fnArg o0) (f_computed o0) (f_sortedLen o0) (f_curPos o0) (f_aggSum o0) (f_aggCount o0) (f_aggRows o0) (f_aggMin o0) (f_aggMax o0) (f_part o1) (f_keys o1) (f_vals o1) (f_flg o1) (f_res o1) (f_resNull o1) (f_frameCnt o1) (f_sorted o1) (f_cap o1) (f_rows o1) (f_direction o1) (f_nulls o1) (f_mode o1) (f_startKind o1) (f_startOff o1) (f_endKind o1) (f_endOff o1) (f_fn o1) (f_fnArg o1) (f_computed o1) (f_sortedLen o1) (f_curPos o1) (f_aggSum o1) (f_aggCount o1) (f_aggRows o1) (f_aggMin o1) (f_aggMax o1)
def H1x28 (s : List Int32) (o0 o1 : Ob) (a0_0 : List Int32) (a0_1 : List Int32) (a0_2 : List Int32) : QHeap := H1v s a0_0 a0_1 a0_2 (f_flg o0) (f_res o0) (f_resNull o0) (f_frameCnt o0) (f_sorted o0) (f_cap o0) (f_rows o0) (f_direction o0) (f_nulls o0) (f_mode o0) (f_startKind o0) (f_startOff o0) (f_endKind o0) (f_endOff o0) (f_fn o0) (f_fnArg o0) (f_computed o0) (f_sortedLen o0) (f_curPos o0) (f_aggSum o0) (f_aggCount o0) (f_aggRows o0) (f_aggMin o0) (f_aggMax o0) (f_part o1) (f_keys o1) (f_vals o1) (f_flg o1) (f_res o1) (f_resNull o1) (f_frameCnt o1) (f_sorted o1) (f_cap o1) (f_rows o1) (f_direction o1) (f_nulls o1) (f_mode o1) (f_startKind o1) (f_startOff o1) (f_endKind o1) (f_endOff o1) (f_fn o1) (f_fnArg o1) (f_computed o1) (f_sortedLen o1) (f_curPos o1) (f_aggSum o1) (f_aggCount o1) (f_aggRows o1) (f_aggMin o1) (f_aggMax o1)
def H1x29 (s : List Int32) (o0 o1 : Ob) (a0_0 : List Int32) (a0_1 : List Int32) (a0_2 : List Int32) (a0_3 : List Int32) : QHeap := H1v s a0_0 a0_1 a0_2 a0_3 (f_res o0) (f_resNull o0) (f_frameCnt o0) (f_sorted o0) (f_cap o0) (f_rows o0) (f_direction o0) (f_nulls o0) (f_mode o0) (f_startKind o0) (f_startOff o0) (f_endKind o0) (f_endOff o0) (f_fn o0) (f_fnArg o0) (f_computed o0) (f_sortedLen o0) (f_curPos o0) (f_aggSum o0) (f_aggCount o0) (f_aggRows o0) (f_aggMin o0) (f_aggMax o0) (f_part o1) (f_keys o1) (f_vals o1) (f_flg o1) (f_res o1) (f_resNull o1) (f_frameCnt o1) (f_sorted o1) (f_cap o1) (f_rows o1) (f_direction o1) (f_nulls o1) (f_mode o1) (f_startKind o1) (f_startOff o1) (f_endKind o1) (f_endOff o1) (f_fn o1) (f_fnArg o1) (f_computed o1) (f_sortedLen o1) (f_curPos o1) (f_aggSum o1) (f_aggCount o1) (f_aggRows o1) (f_aggMin o1) (f_aggMax o1)
def H1x30 (s : List Int32) (o0 o1 : Ob) (a0_0 : List Int32) (a0_1 : List Int32) (a0_2 : List Int32) (a0_3 : List Int32) (a0_9 : Int32) : QHeap := H1v s a0_0 a0_1 a0_2 a0_3 (f_res o0) (f_resNull o0) (f_frameCnt o0) (f_sorted o0) (f_cap o0) a0_9 (f_direction o0) (f_nulls o0) (f_mode o0) (f_startKind o0) (f_startOff o0) (f_endKind o0) (f_endOff o0) (f_fn o0) (f_fnArg o0) (f_computed o0) (f_sortedLen o0) (f_curPos o0) (f_aggSum o0) (f_aggCount o0) (f_aggRows o0) (f_aggMin o0) (f_aggMax o0) (f_part o1) (f_keys o1) (f_vals o1) (f_flg o1) (f_res o1) (f_resNull o1) (f_frameCnt o1) (f_sorted o1) (f_cap o1) (f_rows o1) (f_direction o1) (f_nulls o1) (f_mode o1) (f_startKind o1) (f_startOff o1) (f_endKind o1) (f_endOff o1) (f_fn o1) (f_fnArg o1) (f_computed o1) (f_sortedLen o1) (f_curPos o1) (f_aggSum o1) (f_aggCount o1) (f_aggRows o1) (f_aggMin o1) (f_aggMax o1)
def H1x31 (s : List Int32) (o0 o1 : Ob) (a0_0 : List Int32) (a0_1 : List Int32) (a0_2 : List Int32) (a0_3 : List Int32) (a0_9 : Int32) (a0_19 : Int32) : QHeap := H1v s a0_0 a0_1 a0_2 a0_3 (f_res o0) (f_resNull o0) (f_frameCnt o0) (f_sorted o0) (f_cap o0) a0_9 (f_direction o0) (f_nulls o0) (f_mode o0) (f_startKind o0) (f_startOff o0) (f_endKind o0) (f_endOff o0) (f_fn o0) (f_fnArg o0) a0_19 (f_sortedLen o0) (f_curPos o0) (f_aggSum o0) (f_aggCount o0) (f_aggRows o0) (f_aggMin o0) (f_aggMax o0) (f_part o1) (f_keys o1) (f_vals o1) (f_flg o1) (f_res o1) (f_resNull o1) (f_frameCnt o1) (f_sorted o1) (f_cap o1) (f_rows o1) (f_direction o1) (f_nulls o1) (f_mode o1) (f_startKind o1) (f_startOff o1) (f_endKind o1) (f_endOff o1) (f_fn o1) (f_fnArg o1) (f_computed o1) (f_sortedLen o1) (f_curPos o1) (f_aggSum o1) (f_aggCount o1) (f_aggRows o1) (f_aggMin o1) (f_aggMax o1)
/-- addRow(IIII)I -/
def F5 (o : Ob) (x1 : Int32) (x2 : Int32) (x3 : Int32) (x4 : Int32) : Option (Int32 × Ob) :=
 (if x4 < (0:Int32) then some ((-1:Int32), o) else (if (3:Int32) < x4 then some ((-1:Int32), o) else (if (f_rows o) < (f_cap o) then (aset (f_part o) (f_rows o) x1).bind fun y33 => (aset (f_keys o) (f_rows o) (if (x4 &&& (1:Int32)) = (0:Int32) then x2 else (0:Int32))).bind fun y37 => (aset (f_vals o) (f_rows o) (if (x4 &&& (2:Int32)) = (0:Int32) then x3 else (0:Int32))).bind fun y41 => (aset (f_flg o) (f_rows o) x4).bind fun y42 => some ((f_rows o), (s_computed (s_rows (s_flg (s_vals (s_keys (s_part o y33) y37) y41) y42) ((f_rows o) + (1:Int32))) (0:Int32))) else some ((-1:Int32), o))))
theorem tF5 (Ad : QAd n0 ad) (W : QW Z a0) (s : List Int32) (e0 : Ob) (o : Ob) (x1 : Int32) (x2 : Int32) (x3 : Int32) (x4 : Int32) {r : Int32 × Ob} (h : F5 o x1 x2 x3 x4 = some r) : QTri l Z n0 ad 5 (0, qentry [.ref 1, .int x1, .int x2, .int x3, .int x4] (pMaxL 5), [], (H1 s o e0)) (some (Value.int r.1)) (H1 s r.2 e0) := by
 unfold F5 at h
 refine zS Ad W 1 (st' := (2, [vR 1, vI x1, vI x2, vI x3, vI x4, none], [.int x4], (H1 s o e0))) rfl ?_
 rcases qite h with ⟨hc30, h⟩ | ⟨hc30, h⟩
 ·refine zT Ad W (t := 11) (f := 5) rfl (XT.i0_lt_t hc30) ?_
  refine zS Ad W 1 (st' := (12, [vR 1, vI x1, vI x2, vI x3, vI x4, none], [.int (-1:Int32)], (H1 s o e0))) rfl ?_
  obtain rfl := Option.some.inj h
  exact QTri.retI rfl rfl
 ·refine zF Ad W (t := 11) (f := 5) rfl (XT.i0_lt_f hc30) ?_
  refine zS Ad W 2 (st' := (8, [vR 1, vI x1, vI x2, vI x3, vI x4, none], [.int (3:Int32), .int x4], (H1 s o e0))) rfl ?_
  rcases qite h with ⟨hc31, h⟩ | ⟨hc31, h⟩
  ·refine zF Ad W (t := 13) (f := 11) rfl (XT.ii_le_f hc31) ?_
   refine zS Ad W 1 (st' := (12, [vR 1, vI x1, vI x2, vI x3, vI x4, none], [.int (-1:Int32)], (H1 s o e0))) rfl ?_
   obtain rfl := Option.some.inj h
   exact QTri.retI rfl rfl
  ·refine zT Ad W (t := 13) (f := 11) rfl (XT.ii_le_t hc31) ?_
   refine zS Ad W 4 (st' := (21, [vR 1, vI x1, vI x2, vI x3, vI x4, none], [.int (f_cap o), .int (f_rows o)], (H1 s o e0))) rfl ?_
   rcases qite h with ⟨hc32, h⟩ | ⟨hc32, h⟩
   ·refine zT Ad W (t := 26) (f := 24) rfl (XT.ii_lt_t hc32) ?_
    refine zS Ad W 7 (st' := (39, [vR 1, vI x1, vI x2, vI x3, vI x4, vI (f_rows o)], [.int x1, .int (f_rows o), .ref 2], (H1 s o e0))) rfl ?_
    obtain ⟨y33, hy33, h⟩ := bind_eq_some_iff.mp h
    refine zB Ad W (f := fun y33 => (40, [vR 1, vI x1, vI x2, vI x3, vI x4, vI (f_rows o)], [], (H1x26 s o e0 y33))) rfl hy33 ?_
    refine zS Ad W 6 (st' := (50, [vR 1, vI x1, vI x2, vI x3, vI x4, vI (f_rows o)], [.int (x4 &&& (1:Int32)), .int (f_rows o), .ref 3], (H1x26 s o e0 y33))) rfl ?_
    have K35 : ∀ z34 : Int32, z34 = (if (x4 &&& (1:Int32)) = (0:Int32) then x2 else (0:Int32)) → QTri l Z n0 ad 5 (58, [vR 1, none, none, vI x3, vI x4, vI (f_rows o)], [.int z34, .int (f_rows o), .ref 3], (H1x26 s o e0 y33)) (some (Value.int r.1)) (H1 s r.2 e0) := by
     intro z34 ez34
     subst ez34
     obtain ⟨y37, hy37, h⟩ := bind_eq_some_iff.mp h
     refine zB Ad W (f := fun y37 => (59, [vR 1, none, none, vI x3, vI x4, vI (f_rows o)], [], (H1x27 s o e0 y33 y37))) rfl hy37 ?_
     refine zS Ad W 6 (st' := (69, [vR 1, none, none, vI x3, vI x4, vI (f_rows o)], [.int (x4 &&& (2:Int32)), .int (f_rows o), .ref 4], (H1x27 s o e0 y33 y37))) rfl ?_
     have K39 : ∀ z38 : Int32, z38 = (if (x4 &&& (2:Int32)) = (0:Int32) then x3 else (0:Int32)) → QTri l Z n0 ad 5 (77, [vR 1, none, none, none, vI x4, vI (f_rows o)], [.int z38, .int (f_rows o), .ref 4], (H1x27 s o e0 y33 y37)) (some (Value.int r.1)) (H1 s r.2 e0) := by
      intro z38 ez38
      subst ez38
      obtain ⟨y41, hy41, h⟩ := bind_eq_some_iff.mp h
      refine zB Ad W (f := fun y41 => (78, [vR 1, none, none, none, vI x4, vI (f_rows o)], [], (H1x28 s o e0 y33 y37 y41))) rfl hy41 ?_
      refine zS Ad W 4 (st' := (86, [vR 1, none, none, none, vI x4, vI (f_rows o)], [.int x4, .int (f_rows o), .ref 5], (H1x28 s o e0 y33 y37 y41))) rfl ?_
      obtain ⟨y42, hy42, h⟩ := bind_eq_some_iff.mp h
      refine zB Ad W (f := fun y42 => (87, [vR 1, none, none, none, vI x4, vI (f_rows o)], [], (H1x29 s o e0 y33 y37 y41 y42))) rfl hy42 ?_
      refine zS Ad W 5 (st' := (95, [vR 1, none, none, none, vI x4, vI (f_rows o)], [], (H1x30 s o e0 y33 y37 y41 y42 ((f_rows o) + (1:Int32))))) rfl ?_
      refine zS Ad W 3 (st' := (100, [vR 1, none, none, none, vI x4, vI (f_rows o)], [], (H1x31 s o e0 y33 y37 y41 y42 ((f_rows o) + (1:Int32)) (0:Int32)))) rfl ?_
      refine zS Ad W 1 (st' := (102, [vR 1, none, none, none, vI x4, vI (f_rows o)], [.int (f_rows o)], (H1x31 s o e0 y33 y37 y41 y42 ((f_rows o) + (1:Int32)) (0:Int32)))) rfl ?_
      have E43 : ((H1x31 s o e0 y33 y37 y41 y42 ((f_rows o) + (1:Int32)) (0:Int32)) : QHeap) = (H1 s (s_computed (s_rows (s_flg (s_vals (s_keys (s_part o y33) y37) y41) y42) ((f_rows o) + (1:Int32))) (0:Int32)) e0) := by simp only [fs, H1, H1v, H1x31, s_part, s_keys, s_vals, s_flg, s_rows, s_computed]
      rw [E43]
      obtain rfl := Option.some.inj h
      exact QTri.retI rfl rfl
     rcases em ((x4 &&& (2:Int32)) = (0:Int32)) with hc40 | hc40
     ·refine zT Ad W (t := 76) (f := 72) rfl (XT.i0_eq_t hc40) ?_
      refine zS Ad W 1 (st' := (77, [vR 1, none, none, vI x3, vI x4, vI (f_rows o)], [.int x3, .int (f_rows o), .ref 4], (H1x27 s o e0 y33 y37))) rfl ?_
      exact zM [tt,ff,ff,ff,tt,tt] (K39 _ (if_pos hc40).symm)
     ·refine zF Ad W (t := 76) (f := 72) rfl (XT.i0_eq_f hc40) ?_
      refine zS Ad W 2 (st' := (77, [vR 1, none, none, vI x3, vI x4, vI (f_rows o)], [.int (0:Int32), .int (f_rows o), .ref 4], (H1x27 s o e0 y33 y37))) rfl ?_
      exact zM [tt,ff,ff,ff,tt,tt] (K39 _ (if_neg hc40).symm)
    rcases em ((x4 &&& (1:Int32)) = (0:Int32)) with hc36 | hc36
    ·refine zT Ad W (t := 57) (f := 53) rfl (XT.i0_eq_t hc36) ?_
     refine zS Ad W 1 (st' := (58, [vR 1, vI x1, vI x2, vI x3, vI x4, vI (f_rows o)], [.int x2, .int (f_rows o), .ref 3], (H1x26 s o e0 y33))) rfl ?_
     exact zM [tt,ff,ff,tt,tt,tt] (K35 _ (if_pos hc36).symm)
    ·refine zF Ad W (t := 57) (f := 53) rfl (XT.i0_eq_f hc36) ?_
     refine zS Ad W 2 (st' := (58, [vR 1, vI x1, vI x2, vI x3, vI x4, vI (f_rows o)], [.int (0:Int32), .int (f_rows o), .ref 3], (H1x26 s o e0 y33))) rfl ?_
     exact zM [tt,ff,ff,tt,tt,tt] (K35 _ (if_neg hc36).symm)
   ·refine zF Ad W (t := 26) (f := 24) rfl (XT.ii_lt_f hc32) ?_
    refine zS Ad W 1 (st' := (25, [vR 1, vI x1, vI x2, vI x3, vI x4, none], [.int (-1:Int32)], (H1 s o e0))) rfl ?_
    obtain rfl := Option.some.inj h
    exact QTri.retI rfl rfl
def H1x32 (s : List Int32) (o0 o1 : Ob) (a0_9 : Int32) : QHeap := H1v s (f_part o0) (f_keys o0) (f_vals o0) (f_flg o0) (f_res o0) (f_resNull o0) (f_frameCnt o0) (f_sorted o0) (f_cap o0) a0_9 (f_direction o0) (f_nulls o0) (f_mode o0) (f_startKind o0) (f_startOff o0) (f_endKind o0) (f_endOff o0) (f_fn o0) (f_fnArg o0) (f_computed o0) (f_sortedLen o0) (f_curPos o0) (f_aggSum o0) (f_aggCount o0) (f_aggRows o0) (f_aggMin o0) (f_aggMax o0) (f_part o1) (f_keys o1) (f_vals o1) (f_flg o1) (f_res o1) (f_resNull o1) (f_frameCnt o1) (f_sorted o1) (f_cap o1) (f_rows o1) (f_direction o1) (f_nulls o1) (f_mode o1) (f_startKind o1) (f_startOff o1) (f_endKind o1) (f_endOff o1) (f_fn o1) (f_fnArg o1) (f_computed o1) (f_sortedLen o1) (f_curPos o1) (f_aggSum o1) (f_aggCount o1) (f_aggRows o1) (f_aggMin o1) (f_aggMax o1)
def H1x33 (s : List Int32) (o0 o1 : Ob) (a0_9 : Int32) (a0_19 : Int32) : QHeap := H1v s (f_part o0) (f_keys o0) (f_vals o0) (f_flg o0) (f_res o0) (f_resNull o0) (f_frameCnt o0) (f_sorted o0) (f_cap o0) a0_9 (f_direction o0) (f_nulls o0) (f_mode o0) (f_startKind o0) (f_startOff o0) (f_endKind o0) (f_endOff o0) (f_fn o0) (f_fnArg o0) a0_19 (f_sortedLen o0) (f_curPos o0) (f_aggSum o0) (f_aggCount o0) (f_aggRows o0) (f_aggMin o0) (f_aggMax o0) (f_part o1) (f_keys o1) (f_vals o1) (f_flg o1) (f_res o1) (f_resNull o1) (f_frameCnt o1) (f_sorted o1) (f_cap o1) (f_rows o1) (f_direction o1) (f_nulls o1) (f_mode o1) (f_startKind o1) (f_startOff o1) (f_endKind o1) (f_endOff o1) (f_fn o1) (f_fnArg o1) (f_computed o1) (f_sortedLen o1) (f_curPos o1) (f_aggSum o1) (f_aggCount o1) (f_aggRows o1) (f_aggMin o1) (f_aggMax o1)
/-- clear()V -/
def F7 (o : Ob) : Option (Ob) :=
 some (s_computed (s_rows o (0:Int32)) (0:Int32))
theorem tF7 (Ad : QAd n0 ad) (W : QW Z a0) (s : List Int32) (e0 : Ob) (o : Ob) {r : Ob} (h : F7 o = some r) : QTri l Z n0 ad 7 (0, qentry [.ref 1] (pMaxL 7), [], (H1 s o e0)) (none : Option Value) (H1 s r e0) := by
 unfold F7 at h
 refine zS Ad W 3 (st' := (5, [vR 1], [], (H1x32 s o e0 (0:Int32)))) rfl ?_
 refine zS Ad W 3 (st' := (10, [vR 1], [], (H1x33 s o e0 (0:Int32) (0:Int32)))) rfl ?_
 have E47 : ((H1x33 s o e0 (0:Int32) (0:Int32)) : QHeap) = (H1 s (s_computed (s_rows o (0:Int32)) (0:Int32)) e0) := by simp only [fs, H1, H1v, H1x33, s_rows, s_computed]
 rw [E47]
 obtain rfl := Option.some.inj h
 exact QTri.ret0 rfl rfl
def H1x34 (s : List Int32) (o0 o1 : Ob) (a0_10 : Int32) : QHeap := H1v s (f_part o0) (f_keys o0) (f_vals o0) (f_flg o0) (f_res o0) (f_resNull o0) (f_frameCnt o0) (f_sorted o0) (f_cap o0) (f_rows o0) a0_10 (f_nulls o0) (f_mode o0) (f_startKind o0) (f_startOff o0) (f_endKind o0) (f_endOff o0) (f_fn o0) (f_fnArg o0) (f_computed o0) (f_sortedLen o0) (f_curPos o0) (f_aggSum o0) (f_aggCount o0) (f_aggRows o0) (f_aggMin o0) (f_aggMax o0) (f_part o1) (f_keys o1) (f_vals o1) (f_flg o1) (f_res o1) (f_resNull o1) (f_frameCnt o1) (f_sorted o1) (f_cap o1) (f_rows o1) (f_direction o1) (f_nulls o1) (f_mode o1) (f_startKind o1) (f_startOff o1) (f_endKind o1) (f_endOff o1) (f_fn o1) (f_fnArg o1) (f_computed o1) (f_sortedLen o1) (f_curPos o1) (f_aggSum o1) (f_aggCount o1) (f_aggRows o1) (f_aggMin o1) (f_aggMax o1)
def H1x35 (s : List Int32) (o0 o1 : Ob) (a0_10 : Int32) (a0_11 : Int32) : QHeap := H1v s (f_part o0) (f_keys o0) (f_vals o0) (f_flg o0) (f_res o0) (f_resNull o0) (f_frameCnt o0) (f_sorted o0) (f_cap o0) (f_rows o0) a0_10 a0_11 (f_mode o0) (f_startKind o0) (f_startOff o0) (f_endKind o0) (f_endOff o0) (f_fn o0) (f_fnArg o0) (f_computed o0) (f_sortedLen o0) (f_curPos o0) (f_aggSum o0) (f_aggCount o0) (f_aggRows o0) (f_aggMin o0) (f_aggMax o0) (f_part o1) (f_keys o1) (f_vals o1) (f_flg o1) (f_res o1) (f_resNull o1) (f_frameCnt o1) (f_sorted o1) (f_cap o1) (f_rows o1) (f_direction o1) (f_nulls o1) (f_mode o1) (f_startKind o1) (f_startOff o1) (f_endKind o1) (f_endOff o1) (f_fn o1) (f_fnArg o1) (f_computed o1) (f_sortedLen o1) (f_curPos o1) (f_aggSum o1) (f_aggCount o1) (f_aggRows o1) (f_aggMin o1) (f_aggMax o1)
def H1x36 (s : List Int32) (o0 o1 : Ob) (a0_10 : Int32) (a0_11 : Int32) (a0_19 : Int32) : QHeap := H1v s (f_part o0) (f_keys o0) (f_vals o0) (f_flg o0) (f_res o0) (f_resNull o0) (f_frameCnt o0) (f_sorted o0) (f_cap o0) (f_rows o0) a0_10 a0_11 (f_mode o0) (f_startKind o0) (f_startOff o0) (f_endKind o0) (f_endOff o0) (f_fn o0) (f_fnArg o0) a0_19 (f_sortedLen o0) (f_curPos o0) (f_aggSum o0) (f_aggCount o0) (f_aggRows o0) (f_aggMin o0) (f_aggMax o0) (f_part o1) (f_keys o1) (f_vals o1) (f_flg o1) (f_res o1) (f_resNull o1) (f_frameCnt o1) (f_sorted o1) (f_cap o1) (f_rows o1) (f_direction o1) (f_nulls o1) (f_mode o1) (f_startKind o1) (f_startOff o1) (f_endKind o1) (f_endOff o1) (f_fn o1) (f_fnArg o1) (f_computed o1) (f_sortedLen o1) (f_curPos o1) (f_aggSum o1) (f_aggCount o1) (f_aggRows o1) (f_aggMin o1) (f_aggMax o1)
/-- setOrder(II)Z -/
def F6 (o : Ob) (x1 : Int32) (x2 : Int32) : Option (Int32 × Ob) :=
 (if x1 < (0:Int32) then some ((0:Int32), o) else (if (2:Int32) < x1 then some ((0:Int32), o) else (if x2 < (0:Int32) then some ((0:Int32), o) else (if (1:Int32) < x2 then some ((0:Int32), o) else some ((1:Int32), (s_computed (s_nulls (s_direction o x1) x2) (0:Int32)))))))
theorem tF6 (Ad : QAd n0 ad) (W : QW Z a0) (s : List Int32) (e0 : Ob) (o : Ob) (x1 : Int32) (x2 : Int32) {r : Int32 × Ob} (h : F6 o x1 x2 = some r) : QTri l Z n0 ad 6 (0, qentry [.ref 1, .int x1, .int x2] (pMaxL 6), [], (H1 s o e0)) (some (Value.int r.1)) (H1 s r.2 e0) := by
 unfold F6 at h
 refine zS Ad W 1 (st' := (1, [vR 1, vI x1, vI x2], [.int x1], (H1 s o e0))) rfl ?_
 rcases qite h with ⟨hc50, h⟩ | ⟨hc50, h⟩
 ·refine zT Ad W (t := 18) (f := 4) rfl (XT.i0_lt_t hc50) ?_
  refine zS Ad W 1 (st' := (19, [vR 1, vI x1, vI x2], [.int (0:Int32)], (H1 s o e0))) rfl ?_
  obtain rfl := Option.some.inj h
  exact QTri.retZ rfl rfl
 ·refine zF Ad W (t := 18) (f := 4) rfl (XT.i0_lt_f hc50) ?_
  refine zS Ad W 2 (st' := (6, [vR 1, vI x1, vI x2], [.int (2:Int32), .int x1], (H1 s o e0))) rfl ?_
  rcases qite h with ⟨hc51, h⟩ | ⟨hc51, h⟩
  ·refine zT Ad W (t := 18) (f := 9) rfl (XT.ii_gt_t hc51) ?_
   refine zS Ad W 1 (st' := (19, [vR 1, vI x1, vI x2], [.int (0:Int32)], (H1 s o e0))) rfl ?_
   obtain rfl := Option.some.inj h
   exact QTri.retZ rfl rfl
  ·refine zF Ad W (t := 18) (f := 9) rfl (XT.ii_gt_f hc51) ?_
   refine zS Ad W 1 (st' := (10, [vR 1, vI x1, vI x2], [.int x2], (H1 s o e0))) rfl ?_
   rcases qite h with ⟨hc52, h⟩ | ⟨hc52, h⟩
   ·refine zT Ad W (t := 18) (f := 13) rfl (XT.i0_lt_t hc52) ?_
    refine zS Ad W 1 (st' := (19, [vR 1, vI x1, vI x2], [.int (0:Int32)], (H1 s o e0))) rfl ?_
    obtain rfl := Option.some.inj h
    exact QTri.retZ rfl rfl
   ·refine zF Ad W (t := 18) (f := 13) rfl (XT.i0_lt_f hc52) ?_
    refine zS Ad W 2 (st' := (15, [vR 1, vI x1, vI x2], [.int (1:Int32), .int x2], (H1 s o e0))) rfl ?_
    rcases qite h with ⟨hc53, h⟩ | ⟨hc53, h⟩
    ·refine zF Ad W (t := 20) (f := 18) rfl (XT.ii_le_f hc53) ?_
     refine zS Ad W 1 (st' := (19, [vR 1, vI x1, vI x2], [.int (0:Int32)], (H1 s o e0))) rfl ?_
     obtain rfl := Option.some.inj h
     exact QTri.retZ rfl rfl
    ·refine zT Ad W (t := 20) (f := 18) rfl (XT.ii_le_t hc53) ?_
     refine zS Ad W 3 (st' := (25, [vR 1, vI x1, vI x2], [], (H1x34 s o e0 x1))) rfl ?_
     refine zS Ad W 3 (st' := (30, [vR 1, vI x1, vI x2], [], (H1x35 s o e0 x1 x2))) rfl ?_
     refine zS Ad W 3 (st' := (35, [vR 1, vI x1, vI x2], [], (H1x36 s o e0 x1 x2 (0:Int32)))) rfl ?_
     refine zS Ad W 1 (st' := (36, [vR 1, vI x1, vI x2], [.int (1:Int32)], (H1x36 s o e0 x1 x2 (0:Int32)))) rfl ?_
     have E54 : ((H1x36 s o e0 x1 x2 (0:Int32)) : QHeap) = (H1 s (s_computed (s_nulls (s_direction o x1) x2) (0:Int32)) e0) := by simp only [fs, H1, H1v, H1x36, s_direction, s_nulls, s_computed]
     rw [E54]
     obtain rfl := Option.some.inj h
     exact QTri.retZ rfl rfl
def H1x37 (s : List Int32) (o0 o1 : Ob) (a0_12 : Int32) : QHeap := H1v s (f_part o0) (f_keys o0) (f_vals o0) (f_flg o0) (f_res o0) (f_resNull o0) (f_frameCnt o0) (f_sorted o0) (f_cap o0) (f_rows o0) (f_direction o0) (f_nulls o0) a0_12 (f_startKind o0) (f_startOff o0) (f_endKind o0) (f_endOff o0) (f_fn o0) (f_fnArg o0) (f_computed o0) (f_sortedLen o0) (f_curPos o0) (f_aggSum o0) (f_aggCount o0) (f_aggRows o0) (f_aggMin o0) (f_aggMax o0) (f_part o1) (f_keys o1) (f_vals o1) (f_flg o1) (f_res o1) (f_resNull o1) (f_frameCnt o1) (f_sorted o1) (f_cap o1) (f_rows o1) (f_direction o1) (f_nulls o1) (f_mode o1) (f_startKind o1) (f_startOff o1) (f_endKind o1) (f_endOff o1) (f_fn o1) (f_fnArg o1) (f_computed o1) (f_sortedLen o1) (f_curPos o1) (f_aggSum o1) (f_aggCount o1) (f_aggRows o1) (f_aggMin o1) (f_aggMax o1)
def H1x38 (s : List Int32) (o0 o1 : Ob) (a0_12 : Int32) (a0_19 : Int32) : QHeap := H1v s (f_part o0) (f_keys o0) (f_vals o0) (f_flg o0) (f_res o0) (f_resNull o0) (f_frameCnt o0) (f_sorted o0) (f_cap o0) (f_rows o0) (f_direction o0) (f_nulls o0) a0_12 (f_startKind o0) (f_startOff o0) (f_endKind o0) (f_endOff o0) (f_fn o0) (f_fnArg o0) a0_19 (f_sortedLen o0) (f_curPos o0) (f_aggSum o0) (f_aggCount o0) (f_aggRows o0) (f_aggMin o0) (f_aggMax o0) (f_part o1) (f_keys o1) (f_vals o1) (f_flg o1) (f_res o1) (f_resNull o1) (f_frameCnt o1) (f_sorted o1) (f_cap o1) (f_rows o1) (f_direction o1) (f_nulls o1) (f_mode o1) (f_startKind o1) (f_startOff o1) (f_endKind o1) (f_endOff o1) (f_fn o1) (f_fnArg o1) (f_computed o1) (f_sortedLen o1) (f_curPos o1) (f_aggSum o1) (f_aggCount o1) (f_aggRows o1) (f_aggMin o1) (f_aggMax o1)
/-- setFrameMode(I)Z -/
def F4 (o : Ob) (x1 : Int32) : Option (Int32 × Ob) :=
 (if x1 < (0:Int32) then some ((0:Int32), o) else (if (1:Int32) < x1 then some ((0:Int32), o) else some ((1:Int32), (s_computed (s_mode o x1) (0:Int32)))))
theorem tF4 (Ad : QAd n0 ad) (W : QW Z a0) (s : List Int32) (e0 : Ob) (o : Ob) (x1 : Int32) {r : Int32 × Ob} (h : F4 o x1 = some r) : QTri l Z n0 ad 4 (0, qentry [.ref 1, .int x1] (pMaxL 4), [], (H1 s o e0)) (some (Value.int r.1)) (H1 s r.2 e0) := by
 unfold F4 at h
 refine zS Ad W 1 (st' := (1, [vR 1, vI x1], [.int x1], (H1 s o e0))) rfl ?_
 rcases qite h with ⟨hc57, h⟩ | ⟨hc57, h⟩
 ·refine zT Ad W (t := 9) (f := 4) rfl (XT.i0_lt_t hc57) ?_
  refine zS Ad W 1 (st' := (10, [vR 1, vI x1], [.int (0:Int32)], (H1 s o e0))) rfl ?_
  obtain rfl := Option.some.inj h
  exact QTri.retZ rfl rfl
 ·refine zF Ad W (t := 9) (f := 4) rfl (XT.i0_lt_f hc57) ?_
  refine zS Ad W 2 (st' := (6, [vR 1, vI x1], [.int (1:Int32), .int x1], (H1 s o e0))) rfl ?_
  rcases qite h with ⟨hc58, h⟩ | ⟨hc58, h⟩
  ·refine zF Ad W (t := 11) (f := 9) rfl (XT.ii_le_f hc58) ?_
   refine zS Ad W 1 (st' := (10, [vR 1, vI x1], [.int (0:Int32)], (H1 s o e0))) rfl ?_
   obtain rfl := Option.some.inj h
   exact QTri.retZ rfl rfl
  ·refine zT Ad W (t := 11) (f := 9) rfl (XT.ii_le_t hc58) ?_
   refine zS Ad W 3 (st' := (16, [vR 1, vI x1], [], (H1x37 s o e0 x1))) rfl ?_
   refine zS Ad W 3 (st' := (21, [vR 1, vI x1], [], (H1x38 s o e0 x1 (0:Int32)))) rfl ?_
   refine zS Ad W 1 (st' := (22, [vR 1, vI x1], [.int (1:Int32)], (H1x38 s o e0 x1 (0:Int32)))) rfl ?_
   have E59 : ((H1x38 s o e0 x1 (0:Int32)) : QHeap) = (H1 s (s_computed (s_mode o x1) (0:Int32)) e0) := by simp only [fs, H1, H1v, H1x38, s_mode, s_computed]
   rw [E59]
   obtain rfl := Option.some.inj h
   exact QTri.retZ rfl rfl
def H1x39 (s : List Int32) (o0 o1 : Ob) (a0_13 : Int32) : QHeap := H1v s (f_part o0) (f_keys o0) (f_vals o0) (f_flg o0) (f_res o0) (f_resNull o0) (f_frameCnt o0) (f_sorted o0) (f_cap o0) (f_rows o0) (f_direction o0) (f_nulls o0) (f_mode o0) a0_13 (f_startOff o0) (f_endKind o0) (f_endOff o0) (f_fn o0) (f_fnArg o0) (f_computed o0) (f_sortedLen o0) (f_curPos o0) (f_aggSum o0) (f_aggCount o0) (f_aggRows o0) (f_aggMin o0) (f_aggMax o0) (f_part o1) (f_keys o1) (f_vals o1) (f_flg o1) (f_res o1) (f_resNull o1) (f_frameCnt o1) (f_sorted o1) (f_cap o1) (f_rows o1) (f_direction o1) (f_nulls o1) (f_mode o1) (f_startKind o1) (f_startOff o1) (f_endKind o1) (f_endOff o1) (f_fn o1) (f_fnArg o1) (f_computed o1) (f_sortedLen o1) (f_curPos o1) (f_aggSum o1) (f_aggCount o1) (f_aggRows o1) (f_aggMin o1) (f_aggMax o1)
def H1x40 (s : List Int32) (o0 o1 : Ob) (a0_13 : Int32) (a0_14 : Int32) : QHeap := H1v s (f_part o0) (f_keys o0) (f_vals o0) (f_flg o0) (f_res o0) (f_resNull o0) (f_frameCnt o0) (f_sorted o0) (f_cap o0) (f_rows o0) (f_direction o0) (f_nulls o0) (f_mode o0) a0_13 a0_14 (f_endKind o0) (f_endOff o0) (f_fn o0) (f_fnArg o0) (f_computed o0) (f_sortedLen o0) (f_curPos o0) (f_aggSum o0) (f_aggCount o0) (f_aggRows o0) (f_aggMin o0) (f_aggMax o0) (f_part o1) (f_keys o1) (f_vals o1) (f_flg o1) (f_res o1) (f_resNull o1) (f_frameCnt o1) (f_sorted o1) (f_cap o1) (f_rows o1) (f_direction o1) (f_nulls o1) (f_mode o1) (f_startKind o1) (f_startOff o1) (f_endKind o1) (f_endOff o1) (f_fn o1) (f_fnArg o1) (f_computed o1) (f_sortedLen o1) (f_curPos o1) (f_aggSum o1) (f_aggCount o1) (f_aggRows o1) (f_aggMin o1) (f_aggMax o1)
def H1x41 (s : List Int32) (o0 o1 : Ob) (a0_13 : Int32) (a0_14 : Int32) (a0_19 : Int32) : QHeap := H1v s (f_part o0) (f_keys o0) (f_vals o0) (f_flg o0) (f_res o0) (f_resNull o0) (f_frameCnt o0) (f_sorted o0) (f_cap o0) (f_rows o0) (f_direction o0) (f_nulls o0) (f_mode o0) a0_13 a0_14 (f_endKind o0) (f_endOff o0) (f_fn o0) (f_fnArg o0) a0_19 (f_sortedLen o0) (f_curPos o0) (f_aggSum o0) (f_aggCount o0) (f_aggRows o0) (f_aggMin o0) (f_aggMax o0) (f_part o1) (f_keys o1) (f_vals o1) (f_flg o1) (f_res o1) (f_resNull o1) (f_frameCnt o1) (f_sorted o1) (f_cap o1) (f_rows o1) (f_direction o1) (f_nulls o1) (f_mode o1) (f_startKind o1) (f_startOff o1) (f_endKind o1) (f_endOff o1) (f_fn o1) (f_fnArg o1) (f_computed o1) (f_sortedLen o1) (f_curPos o1) (f_aggSum o1) (f_aggCount o1) (f_aggRows o1) (f_aggMin o1) (f_aggMax o1)
def J17_37 (o : Ob) (x1 : Int32) (x2 : Int32) (x3 : Int32) : Option (Int32 × Ob) :=
  some ((1 : Int32), (s_computed (s_startOff (s_startKind o x1) (if x3 = (0 : Int32) then (0 : Int32) else x2)) (0 : Int32)))
theorem tJ17_37 (Ad : QAd n0 ad) (W : QW Z a0) (s : List Int32) (e0 : Ob) (o : Ob) (x1 : Int32) (x2 : Int32) (x3 : Int32) {r : Int32 × Ob} (h : J17_37 o x1 x2 x3 = some r) : QTri l Z n0 ad 17 (37, [vR 1, vI x1, vI x2, vI x3], [], (H1 s o e0)) (some (Value.int r.1)) (H1 s r.2 e0) := by
 unfold J17_37 at h
 refine zS Ad W 3 (st' := (42, [vR 1, vI x1, vI x2, vI x3], [], (H1x39 s o e0 x1))) rfl ?_
 refine zS Ad W 2 (st' := (44, [vR 1, vI x1, vI x2, vI x3], [.int x3, .ref 1], (H1x39 s o e0 x1))) rfl ?_
 have K70 : ∀ z69 : Int32, z69 = (if x3 = (0:Int32) then (0:Int32) else x2) → QTri l Z n0 ad 17 (52, [vR 1, none, none, none], [.int z69, .ref 1], (H1x39 s o e0 x1)) (some (Value.int r.1)) (H1 s r.2 e0) := by
  intro z69 ez69
  subst ez69
  refine zS Ad W 1 (st' := (55, [vR 1, none, none, none], [], (H1x40 s o e0 x1 (if x3 = (0:Int32) then (0:Int32) else x2)))) rfl ?_
  refine zS Ad W 3 (st' := (60, [vR 1, none, none, none], [], (H1x41 s o e0 x1 (if x3 = (0:Int32) then (0:Int32) else x2) (0:Int32)))) rfl ?_
  refine zS Ad W 1 (st' := (61, [vR 1, none, none, none], [.int (1:Int32)], (H1x41 s o e0 x1 (if x3 = (0:Int32) then (0:Int32) else x2) (0:Int32)))) rfl ?_
  have E72 : ((H1x41 s o e0 x1 (if x3 = (0:Int32) then (0:Int32) else x2) (0:Int32)) : QHeap) = (H1 s (s_computed (s_startOff (s_startKind o x1) (if x3 = (0:Int32) then (0:Int32) else x2)) (0:Int32)) e0) := by simp only [fs, H1, H1v, H1x41, s_startKind, s_startOff, s_computed]
  rw [E72]
  obtain rfl := Option.some.inj h
  exact QTri.retZ rfl rfl
 rcases em (x3 = (0:Int32)) with hc71 | hc71
 ·refine zT Ad W (t := 51) (f := 47) rfl (XT.i0_eq_t hc71) ?_
  refine zS Ad W 1 (st' := (52, [vR 1, vI x1, vI x2, vI x3], [.int (0:Int32), .ref 1], (H1x39 s o e0 x1))) rfl ?_
  exact zM [tt,ff,ff,ff] (K70 _ (if_pos hc71).symm)
 ·refine zF Ad W (t := 51) (f := 47) rfl (XT.i0_eq_f hc71) ?_
  refine zS Ad W 2 (st' := (52, [vR 1, vI x1, vI x2, vI x3], [.int x2, .ref 1], (H1x39 s o e0 x1))) rfl ?_
  exact zM [tt,ff,ff,ff] (K70 _ (if_neg hc71).symm)
/-- setFrameStart(II)Z -/
def F17 (o : Ob) (x1 : Int32) (x2 : Int32) : Option (Int32 × Ob) :=
 (if x1 < (0:Int32) then some ((0:Int32), o) else (if (3:Int32) < x1 then some ((0:Int32), o) else (if (if x1 = (1:Int32) then (1:Int32) else (if x1 = (3:Int32) then (1:Int32) else (0:Int32))) = (0:Int32) then (J17_37 o x1 x2 (if x1 = (1:Int32) then (1:Int32) else (if x1 = (3:Int32) then (1:Int32) else (0:Int32)))) else (if x2 < (0:Int32) then some ((0:Int32), o) else (J17_37 o x1 x2 (if x1 = (1:Int32) then (1:Int32) else (if x1 = (3:Int32) then (1:Int32) else (0:Int32))))))))
theorem tF17 (Ad : QAd n0 ad) (W : QW Z a0) (s : List Int32) (e0 : Ob) (o : Ob) (x1 : Int32) (x2 : Int32) {r : Int32 × Ob} (h : F17 o x1 x2 = some r) : QTri l Z n0 ad 17 (0, qentry [.ref 1, .int x1, .int x2] (pMaxL 17), [], (H1 s o e0)) (some (Value.int r.1)) (H1 s r.2 e0) := by
 unfold F17 at h
 refine zS Ad W 1 (st' := (1, [vR 1, vI x1, vI x2, none], [.int x1], (H1 s o e0))) rfl ?_
 rcases qite h with ⟨hc62, h⟩ | ⟨hc62, h⟩
 ·refine zT Ad W (t := 9) (f := 4) rfl (XT.i0_lt_t hc62) ?_
  refine zS Ad W 1 (st' := (10, [vR 1, vI x1, vI x2, none], [.int (0:Int32)], (H1 s o e0))) rfl ?_
  obtain rfl := Option.some.inj h
  exact QTri.retZ rfl rfl
 ·refine zF Ad W (t := 9) (f := 4) rfl (XT.i0_lt_f hc62) ?_
  refine zS Ad W 2 (st' := (6, [vR 1, vI x1, vI x2, none], [.int (3:Int32), .int x1], (H1 s o e0))) rfl ?_
  rcases qite h with ⟨hc63, h⟩ | ⟨hc63, h⟩
  ·refine zF Ad W (t := 11) (f := 9) rfl (XT.ii_le_f hc63) ?_
   refine zS Ad W 1 (st' := (10, [vR 1, vI x1, vI x2, none], [.int (0:Int32)], (H1 s o e0))) rfl ?_
   obtain rfl := Option.some.inj h
   exact QTri.retZ rfl rfl
  ·refine zT Ad W (t := 11) (f := 9) rfl (XT.ii_le_t hc63) ?_
   refine zS Ad W 2 (st' := (13, [vR 1, vI x1, vI x2, none], [.int (1:Int32), .int x1], (H1 s o e0))) rfl ?_
   have K65 : ∀ z64 : Int32, z64 = (if x1 = (1:Int32) then (1:Int32) else (if x1 = (3:Int32) then (1:Int32) else (0:Int32))) → QTri l Z n0 ad 17 (26, [vR 1, vI x1, vI x2, none], [.int z64], (H1 s o e0)) (some (Value.int r.1)) (H1 s r.2 e0) := by
    intro z64 ez64
    subst ez64
    refine zS Ad W 2 (st' := (28, [vR 1, vI x1, vI x2, vI (if x1 = (1:Int32) then (1:Int32) else (if x1 = (3:Int32) then (1:Int32) else (0:Int32)))], [.int (if x1 = (1:Int32) then (1:Int32) else (if x1 = (3:Int32) then (1:Int32) else (0:Int32)))], (H1 s o e0))) rfl ?_
    rcases qite h with ⟨hc68, h⟩ | ⟨hc68, h⟩
    ·refine zT Ad W (t := 37) (f := 31) rfl (XT.i0_eq_t hc68) ?_
     exact zM [tt,tt,tt,tt] (tJ17_37 Ad W s e0 o x1 x2 (if x1 = (1:Int32) then (1:Int32) else (if x1 = (3:Int32) then (1:Int32) else (0:Int32))) h)
    ·refine zF Ad W (t := 37) (f := 31) rfl (XT.i0_eq_f hc68) ?_
     refine zS Ad W 1 (st' := (32, [vR 1, vI x1, vI x2, vI (if x1 = (1:Int32) then (1:Int32) else (if x1 = (3:Int32) then (1:Int32) else (0:Int32)))], [.int x2], (H1 s o e0))) rfl ?_
     rcases qite h with ⟨hc73, h⟩ | ⟨hc73, h⟩
     ·refine zF Ad W (t := 37) (f := 35) rfl (XT.i0_ge_f hc73) ?_
      refine zS Ad W 1 (st' := (36, [vR 1, vI x1, vI x2, vI (if x1 = (1:Int32) then (1:Int32) else (if x1 = (3:Int32) then (1:Int32) else (0:Int32)))], [.int (0:Int32)], (H1 s o e0))) rfl ?_
      obtain rfl := Option.some.inj h
      exact QTri.retZ rfl rfl
     ·refine zT Ad W (t := 37) (f := 35) rfl (XT.i0_ge_t hc73) ?_
      exact zM [tt,tt,tt,tt] (tJ17_37 Ad W s e0 o x1 x2 (if x1 = (1:Int32) then (1:Int32) else (if x1 = (3:Int32) then (1:Int32) else (0:Int32))) h)
   rcases em (x1 = (1:Int32)) with hc66 | hc66
   ·refine zT Ad W (t := 21) (f := 16) rfl (XT.ii_eq_t hc66) ?_
    refine zS Ad W 2 (st' := (26, [vR 1, vI x1, vI x2, none], [.int (1:Int32)], (H1 s o e0))) rfl ?_
    exact zM [tt,tt,tt,ff] (K65 _ (if_pos hc66).symm)
   ·refine zF Ad W (t := 21) (f := 16) rfl (XT.ii_eq_f hc66) ?_
    refine zS Ad W 2 (st' := (18, [vR 1, vI x1, vI x2, none], [.int (3:Int32), .int x1], (H1 s o e0))) rfl ?_
    rcases em (x1 = (3:Int32)) with hc67 | hc67
    ·refine zF Ad W (t := 25) (f := 21) rfl (XT.ii_ne_f hc67) ?_
     refine zS Ad W 2 (st' := (26, [vR 1, vI x1, vI x2, none], [.int (1:Int32)], (H1 s o e0))) rfl ?_
     exact zM [tt,tt,tt,ff] (K65 _ ((if_neg hc66).trans (if_pos hc67)).symm)
    ·refine zT Ad W (t := 25) (f := 21) rfl (XT.ii_ne_t hc67) ?_
     refine zS Ad W 1 (st' := (26, [vR 1, vI x1, vI x2, none], [.int (0:Int32)], (H1 s o e0))) rfl ?_
     exact zM [tt,tt,tt,ff] (K65 _ ((if_neg hc66).trans (if_neg hc67)).symm)
def H1x42 (s : List Int32) (o0 o1 : Ob) (a0_15 : Int32) : QHeap := H1v s (f_part o0) (f_keys o0) (f_vals o0) (f_flg o0) (f_res o0) (f_resNull o0) (f_frameCnt o0) (f_sorted o0) (f_cap o0) (f_rows o0) (f_direction o0) (f_nulls o0) (f_mode o0) (f_startKind o0) (f_startOff o0) a0_15 (f_endOff o0) (f_fn o0) (f_fnArg o0) (f_computed o0) (f_sortedLen o0) (f_curPos o0) (f_aggSum o0) (f_aggCount o0) (f_aggRows o0) (f_aggMin o0) (f_aggMax o0) (f_part o1) (f_keys o1) (f_vals o1) (f_flg o1) (f_res o1) (f_resNull o1) (f_frameCnt o1) (f_sorted o1) (f_cap o1) (f_rows o1) (f_direction o1) (f_nulls o1) (f_mode o1) (f_startKind o1) (f_startOff o1) (f_endKind o1) (f_endOff o1) (f_fn o1) (f_fnArg o1) (f_computed o1) (f_sortedLen o1) (f_curPos o1) (f_aggSum o1) (f_aggCount o1) (f_aggRows o1) (f_aggMin o1) (f_aggMax o1)
def H1x43 (s : List Int32) (o0 o1 : Ob) (a0_15 : Int32) (a0_16 : Int32) : QHeap := H1v s (f_part o0) (f_keys o0) (f_vals o0) (f_flg o0) (f_res o0) (f_resNull o0) (f_frameCnt o0) (f_sorted o0) (f_cap o0) (f_rows o0) (f_direction o0) (f_nulls o0) (f_mode o0) (f_startKind o0) (f_startOff o0) a0_15 a0_16 (f_fn o0) (f_fnArg o0) (f_computed o0) (f_sortedLen o0) (f_curPos o0) (f_aggSum o0) (f_aggCount o0) (f_aggRows o0) (f_aggMin o0) (f_aggMax o0) (f_part o1) (f_keys o1) (f_vals o1) (f_flg o1) (f_res o1) (f_resNull o1) (f_frameCnt o1) (f_sorted o1) (f_cap o1) (f_rows o1) (f_direction o1) (f_nulls o1) (f_mode o1) (f_startKind o1) (f_startOff o1) (f_endKind o1) (f_endOff o1) (f_fn o1) (f_fnArg o1) (f_computed o1) (f_sortedLen o1) (f_curPos o1) (f_aggSum o1) (f_aggCount o1) (f_aggRows o1) (f_aggMin o1) (f_aggMax o1)
def H1x44 (s : List Int32) (o0 o1 : Ob) (a0_15 : Int32) (a0_16 : Int32) (a0_19 : Int32) : QHeap := H1v s (f_part o0) (f_keys o0) (f_vals o0) (f_flg o0) (f_res o0) (f_resNull o0) (f_frameCnt o0) (f_sorted o0) (f_cap o0) (f_rows o0) (f_direction o0) (f_nulls o0) (f_mode o0) (f_startKind o0) (f_startOff o0) a0_15 a0_16 (f_fn o0) (f_fnArg o0) a0_19 (f_sortedLen o0) (f_curPos o0) (f_aggSum o0) (f_aggCount o0) (f_aggRows o0) (f_aggMin o0) (f_aggMax o0) (f_part o1) (f_keys o1) (f_vals o1) (f_flg o1) (f_res o1) (f_resNull o1) (f_frameCnt o1) (f_sorted o1) (f_cap o1) (f_rows o1) (f_direction o1) (f_nulls o1) (f_mode o1) (f_startKind o1) (f_startOff o1) (f_endKind o1) (f_endOff o1) (f_fn o1) (f_fnArg o1) (f_computed o1) (f_sortedLen o1) (f_curPos o1) (f_aggSum o1) (f_aggCount o1) (f_aggRows o1) (f_aggMin o1) (f_aggMax o1)
def J20_38 (o : Ob) (x1 : Int32) (x2 : Int32) (x3 : Int32) : Option (Int32 × Ob) :=
  some ((1 : Int32), (s_computed (s_endOff (s_endKind o x1) (if x3 = (0 : Int32) then (0 : Int32) else x2)) (0 : Int32)))
theorem tJ20_38 (Ad : QAd n0 ad) (W : QW Z a0) (s : List Int32) (e0 : Ob) (o : Ob) (x1 : Int32) (x2 : Int32) (x3 : Int32) {r : Int32 × Ob} (h : J20_38 o x1 x2 x3 = some r) : QTri l Z n0 ad 20 (38, [vR 1, vI x1, vI x2, vI x3], [], (H1 s o e0)) (some (Value.int r.1)) (H1 s r.2 e0) := by
 unfold J20_38 at h
 refine zS Ad W 3 (st' := (43, [vR 1, vI x1, vI x2, vI x3], [], (H1x42 s o e0 x1))) rfl ?_
 refine zS Ad W 2 (st' := (45, [vR 1, vI x1, vI x2, vI x3], [.int x3, .ref 1], (H1x42 s o e0 x1))) rfl ?_
 have K84 : ∀ z83 : Int32, z83 = (if x3 = (0:Int32) then (0:Int32) else x2) → QTri l Z n0 ad 20 (53, [vR 1, none, none, none], [.int z83, .ref 1], (H1x42 s o e0 x1)) (some (Value.int r.1)) (H1 s r.2 e0) := by
  intro z83 ez83
  subst ez83
  refine zS Ad W 1 (st' := (56, [vR 1, none, none, none], [], (H1x43 s o e0 x1 (if x3 = (0:Int32) then (0:Int32) else x2)))) rfl ?_
  refine zS Ad W 3 (st' := (61, [vR 1, none, none, none], [], (H1x44 s o e0 x1 (if x3 = (0:Int32) then (0:Int32) else x2) (0:Int32)))) rfl ?_
  refine zS Ad W 1 (st' := (62, [vR 1, none, none, none], [.int (1:Int32)], (H1x44 s o e0 x1 (if x3 = (0:Int32) then (0:Int32) else x2) (0:Int32)))) rfl ?_
  have E86 : ((H1x44 s o e0 x1 (if x3 = (0:Int32) then (0:Int32) else x2) (0:Int32)) : QHeap) = (H1 s (s_computed (s_endOff (s_endKind o x1) (if x3 = (0:Int32) then (0:Int32) else x2)) (0:Int32)) e0) := by simp only [fs, H1, H1v, H1x44, s_endKind, s_endOff, s_computed]
  rw [E86]
  obtain rfl := Option.some.inj h
  exact QTri.retZ rfl rfl
 rcases em (x3 = (0:Int32)) with hc85 | hc85
 ·refine zT Ad W (t := 52) (f := 48) rfl (XT.i0_eq_t hc85) ?_
  refine zS Ad W 1 (st' := (53, [vR 1, vI x1, vI x2, vI x3], [.int (0:Int32), .ref 1], (H1x42 s o e0 x1))) rfl ?_
  exact zM [tt,ff,ff,ff] (K84 _ (if_pos hc85).symm)
 ·refine zF Ad W (t := 52) (f := 48) rfl (XT.i0_eq_f hc85) ?_
  refine zS Ad W 2 (st' := (53, [vR 1, vI x1, vI x2, vI x3], [.int x2, .ref 1], (H1x42 s o e0 x1))) rfl ?_
  exact zM [tt,ff,ff,ff] (K84 _ (if_neg hc85).symm)
/-- setFrameEnd(II)Z -/
def F20 (o : Ob) (x1 : Int32) (x2 : Int32) : Option (Int32 × Ob) :=
 (if x1 < (1:Int32) then some ((0:Int32), o) else (if (4:Int32) < x1 then some ((0:Int32), o) else (if (if x1 = (1:Int32) then (1:Int32) else (if x1 = (3:Int32) then (1:Int32) else (0:Int32))) = (0:Int32) then (J20_38 o x1 x2 (if x1 = (1:Int32) then (1:Int32) else (if x1 = (3:Int32) then (1:Int32) else (0:Int32)))) else (if x2 < (0:Int32) then some ((0:Int32), o) else (J20_38 o x1 x2 (if x1 = (1:Int32) then (1:Int32) else (if x1 = (3:Int32) then (1:Int32) else (0:Int32))))))))
theorem tF20 (Ad : QAd n0 ad) (W : QW Z a0) (s : List Int32) (e0 : Ob) (o : Ob) (x1 : Int32) (x2 : Int32) {r : Int32 × Ob} (h : F20 o x1 x2 = some r) : QTri l Z n0 ad 20 (0, qentry [.ref 1, .int x1, .int x2] (pMaxL 20), [], (H1 s o e0)) (some (Value.int r.1)) (H1 s r.2 e0) := by
 unfold F20 at h
 refine zS Ad W 2 (st' := (2, [vR 1, vI x1, vI x2, none], [.int (1:Int32), .int x1], (H1 s o e0))) rfl ?_
 rcases qite h with ⟨hc76, h⟩ | ⟨hc76, h⟩
 ·refine zT Ad W (t := 10) (f := 5) rfl (XT.ii_lt_t hc76) ?_
  refine zS Ad W 1 (st' := (11, [vR 1, vI x1, vI x2, none], [.int (0:Int32)], (H1 s o e0))) rfl ?_
  obtain rfl := Option.some.inj h
  exact QTri.retZ rfl rfl
 ·refine zF Ad W (t := 10) (f := 5) rfl (XT.ii_lt_f hc76) ?_
  refine zS Ad W 2 (st' := (7, [vR 1, vI x1, vI x2, none], [.int (4:Int32), .int x1], (H1 s o e0))) rfl ?_
  rcases qite h with ⟨hc77, h⟩ | ⟨hc77, h⟩
  ·refine zF Ad W (t := 12) (f := 10) rfl (XT.ii_le_f hc77) ?_
   refine zS Ad W 1 (st' := (11, [vR 1, vI x1, vI x2, none], [.int (0:Int32)], (H1 s o e0))) rfl ?_
   obtain rfl := Option.some.inj h
   exact QTri.retZ rfl rfl
  ·refine zT Ad W (t := 12) (f := 10) rfl (XT.ii_le_t hc77) ?_
   refine zS Ad W 2 (st' := (14, [vR 1, vI x1, vI x2, none], [.int (1:Int32), .int x1], (H1 s o e0))) rfl ?_
   have K79 : ∀ z78 : Int32, z78 = (if x1 = (1:Int32) then (1:Int32) else (if x1 = (3:Int32) then (1:Int32) else (0:Int32))) → QTri l Z n0 ad 20 (27, [vR 1, vI x1, vI x2, none], [.int z78], (H1 s o e0)) (some (Value.int r.1)) (H1 s r.2 e0) := by
    intro z78 ez78
    subst ez78
    refine zS Ad W 2 (st' := (29, [vR 1, vI x1, vI x2, vI (if x1 = (1:Int32) then (1:Int32) else (if x1 = (3:Int32) then (1:Int32) else (0:Int32)))], [.int (if x1 = (1:Int32) then (1:Int32) else (if x1 = (3:Int32) then (1:Int32) else (0:Int32)))], (H1 s o e0))) rfl ?_
    rcases qite h with ⟨hc82, h⟩ | ⟨hc82, h⟩
    ·refine zT Ad W (t := 38) (f := 32) rfl (XT.i0_eq_t hc82) ?_
     exact zM [tt,tt,tt,tt] (tJ20_38 Ad W s e0 o x1 x2 (if x1 = (1:Int32) then (1:Int32) else (if x1 = (3:Int32) then (1:Int32) else (0:Int32))) h)
    ·refine zF Ad W (t := 38) (f := 32) rfl (XT.i0_eq_f hc82) ?_
     refine zS Ad W 1 (st' := (33, [vR 1, vI x1, vI x2, vI (if x1 = (1:Int32) then (1:Int32) else (if x1 = (3:Int32) then (1:Int32) else (0:Int32)))], [.int x2], (H1 s o e0))) rfl ?_
     rcases qite h with ⟨hc87, h⟩ | ⟨hc87, h⟩
     ·refine zF Ad W (t := 38) (f := 36) rfl (XT.i0_ge_f hc87) ?_
      refine zS Ad W 1 (st' := (37, [vR 1, vI x1, vI x2, vI (if x1 = (1:Int32) then (1:Int32) else (if x1 = (3:Int32) then (1:Int32) else (0:Int32)))], [.int (0:Int32)], (H1 s o e0))) rfl ?_
      obtain rfl := Option.some.inj h
      exact QTri.retZ rfl rfl
     ·refine zT Ad W (t := 38) (f := 36) rfl (XT.i0_ge_t hc87) ?_
      exact zM [tt,tt,tt,tt] (tJ20_38 Ad W s e0 o x1 x2 (if x1 = (1:Int32) then (1:Int32) else (if x1 = (3:Int32) then (1:Int32) else (0:Int32))) h)
   rcases em (x1 = (1:Int32)) with hc80 | hc80
   ·refine zT Ad W (t := 22) (f := 17) rfl (XT.ii_eq_t hc80) ?_
    refine zS Ad W 2 (st' := (27, [vR 1, vI x1, vI x2, none], [.int (1:Int32)], (H1 s o e0))) rfl ?_
    exact zM [tt,tt,tt,ff] (K79 _ (if_pos hc80).symm)
   ·refine zF Ad W (t := 22) (f := 17) rfl (XT.ii_eq_f hc80) ?_
    refine zS Ad W 2 (st' := (19, [vR 1, vI x1, vI x2, none], [.int (3:Int32), .int x1], (H1 s o e0))) rfl ?_
    rcases em (x1 = (3:Int32)) with hc81 | hc81
    ·refine zF Ad W (t := 26) (f := 22) rfl (XT.ii_ne_f hc81) ?_
     refine zS Ad W 2 (st' := (27, [vR 1, vI x1, vI x2, none], [.int (1:Int32)], (H1 s o e0))) rfl ?_
     exact zM [tt,tt,tt,ff] (K79 _ ((if_neg hc80).trans (if_pos hc81)).symm)
    ·refine zT Ad W (t := 26) (f := 22) rfl (XT.ii_ne_t hc81) ?_
     refine zS Ad W 1 (st' := (27, [vR 1, vI x1, vI x2, none], [.int (0:Int32)], (H1 s o e0))) rfl ?_
     exact zM [tt,tt,tt,ff] (K79 _ ((if_neg hc80).trans (if_neg hc81)).symm)
def H1x45 (s : List Int32) (o0 o1 : Ob) (a0_17 : Int32) : QHeap := H1v s (f_part o0) (f_keys o0) (f_vals o0) (f_flg o0) (f_res o0) (f_resNull o0) (f_frameCnt o0) (f_sorted o0) (f_cap o0) (f_rows o0) (f_direction o0) (f_nulls o0) (f_mode o0) (f_startKind o0) (f_startOff o0) (f_endKind o0) (f_endOff o0) a0_17 (f_fnArg o0) (f_computed o0) (f_sortedLen o0) (f_curPos o0) (f_aggSum o0) (f_aggCount o0) (f_aggRows o0) (f_aggMin o0) (f_aggMax o0) (f_part o1) (f_keys o1) (f_vals o1) (f_flg o1) (f_res o1) (f_resNull o1) (f_frameCnt o1) (f_sorted o1) (f_cap o1) (f_rows o1) (f_direction o1) (f_nulls o1) (f_mode o1) (f_startKind o1) (f_startOff o1) (f_endKind o1) (f_endOff o1) (f_fn o1) (f_fnArg o1) (f_computed o1) (f_sortedLen o1) (f_curPos o1) (f_aggSum o1) (f_aggCount o1) (f_aggRows o1) (f_aggMin o1) (f_aggMax o1)
def H1x46 (s : List Int32) (o0 o1 : Ob) (a0_17 : Int32) (a0_18 : Int32) : QHeap := H1v s (f_part o0) (f_keys o0) (f_vals o0) (f_flg o0) (f_res o0) (f_resNull o0) (f_frameCnt o0) (f_sorted o0) (f_cap o0) (f_rows o0) (f_direction o0) (f_nulls o0) (f_mode o0) (f_startKind o0) (f_startOff o0) (f_endKind o0) (f_endOff o0) a0_17 a0_18 (f_computed o0) (f_sortedLen o0) (f_curPos o0) (f_aggSum o0) (f_aggCount o0) (f_aggRows o0) (f_aggMin o0) (f_aggMax o0) (f_part o1) (f_keys o1) (f_vals o1) (f_flg o1) (f_res o1) (f_resNull o1) (f_frameCnt o1) (f_sorted o1) (f_cap o1) (f_rows o1) (f_direction o1) (f_nulls o1) (f_mode o1) (f_startKind o1) (f_startOff o1) (f_endKind o1) (f_endOff o1) (f_fn o1) (f_fnArg o1) (f_computed o1) (f_sortedLen o1) (f_curPos o1) (f_aggSum o1) (f_aggCount o1) (f_aggRows o1) (f_aggMin o1) (f_aggMax o1)
def H1x47 (s : List Int32) (o0 o1 : Ob) (a0_17 : Int32) (a0_18 : Int32) (a0_19 : Int32) : QHeap := H1v s (f_part o0) (f_keys o0) (f_vals o0) (f_flg o0) (f_res o0) (f_resNull o0) (f_frameCnt o0) (f_sorted o0) (f_cap o0) (f_rows o0) (f_direction o0) (f_nulls o0) (f_mode o0) (f_startKind o0) (f_startOff o0) (f_endKind o0) (f_endOff o0) a0_17 a0_18 a0_19 (f_sortedLen o0) (f_curPos o0) (f_aggSum o0) (f_aggCount o0) (f_aggRows o0) (f_aggMin o0) (f_aggMax o0) (f_part o1) (f_keys o1) (f_vals o1) (f_flg o1) (f_res o1) (f_resNull o1) (f_frameCnt o1) (f_sorted o1) (f_cap o1) (f_rows o1) (f_direction o1) (f_nulls o1) (f_mode o1) (f_startKind o1) (f_startOff o1) (f_endKind o1) (f_endOff o1) (f_fn o1) (f_fnArg o1) (f_computed o1) (f_sortedLen o1) (f_curPos o1) (f_aggSum o1) (f_aggCount o1) (f_aggRows o1) (f_aggMin o1) (f_aggMax o1)
def J16_40 (o : Ob) (x1 : Int32) (x2 : Int32) (x3 : Int32) : Option (Int32 × Ob) :=
  some ((1 : Int32), (s_computed (s_fnArg (s_fn o x1) (if x3 = (0 : Int32) then (0 : Int32) else x2)) (0 : Int32)))
theorem tJ16_40 (Ad : QAd n0 ad) (W : QW Z a0) (s : List Int32) (e0 : Ob) (o : Ob) (x1 : Int32) (x2 : Int32) (x3 : Int32) {r : Int32 × Ob} (h : J16_40 o x1 x2 x3 = some r) : QTri l Z n0 ad 16 (40, [vR 1, vI x1, vI x2, vI x3], [], (H1 s o e0)) (some (Value.int r.1)) (H1 s r.2 e0) := by
 unfold J16_40 at h
 refine zS Ad W 3 (st' := (45, [vR 1, vI x1, vI x2, vI x3], [], (H1x45 s o e0 x1))) rfl ?_
 refine zS Ad W 2 (st' := (47, [vR 1, vI x1, vI x2, vI x3], [.int x3, .ref 1], (H1x45 s o e0 x1))) rfl ?_
 have K98 : ∀ z97 : Int32, z97 = (if x3 = (0:Int32) then (0:Int32) else x2) → QTri l Z n0 ad 16 (55, [vR 1, none, none, none], [.int z97, .ref 1], (H1x45 s o e0 x1)) (some (Value.int r.1)) (H1 s r.2 e0) := by
  intro z97 ez97
  subst ez97
  refine zS Ad W 1 (st' := (58, [vR 1, none, none, none], [], (H1x46 s o e0 x1 (if x3 = (0:Int32) then (0:Int32) else x2)))) rfl ?_
  refine zS Ad W 3 (st' := (63, [vR 1, none, none, none], [], (H1x47 s o e0 x1 (if x3 = (0:Int32) then (0:Int32) else x2) (0:Int32)))) rfl ?_
  refine zS Ad W 1 (st' := (64, [vR 1, none, none, none], [.int (1:Int32)], (H1x47 s o e0 x1 (if x3 = (0:Int32) then (0:Int32) else x2) (0:Int32)))) rfl ?_
  have E100 : ((H1x47 s o e0 x1 (if x3 = (0:Int32) then (0:Int32) else x2) (0:Int32)) : QHeap) = (H1 s (s_computed (s_fnArg (s_fn o x1) (if x3 = (0:Int32) then (0:Int32) else x2)) (0:Int32)) e0) := by simp only [fs, H1, H1v, H1x47, s_fn, s_fnArg, s_computed]
  rw [E100]
  obtain rfl := Option.some.inj h
  exact QTri.retZ rfl rfl
 rcases em (x3 = (0:Int32)) with hc99 | hc99
 ·refine zT Ad W (t := 54) (f := 50) rfl (XT.i0_eq_t hc99) ?_
  refine zS Ad W 1 (st' := (55, [vR 1, vI x1, vI x2, vI x3], [.int (0:Int32), .ref 1], (H1x45 s o e0 x1))) rfl ?_
  exact zM [tt,ff,ff,ff] (K98 _ (if_pos hc99).symm)
 ·refine zF Ad W (t := 54) (f := 50) rfl (XT.i0_eq_f hc99) ?_
  refine zS Ad W 2 (st' := (55, [vR 1, vI x1, vI x2, vI x3], [.int x2, .ref 1], (H1x45 s o e0 x1))) rfl ?_
  exact zM [tt,ff,ff,ff] (K98 _ (if_neg hc99).symm)
/-- setFunction(II)Z -/
def F16 (o : Ob) (x1 : Int32) (x2 : Int32) : Option (Int32 × Ob) :=
 (if x1 < (0:Int32) then some ((0:Int32), o) else (if (9:Int32) < x1 then some ((0:Int32), o) else (if (if x1 = (8:Int32) then (1:Int32) else (if x1 = (9:Int32) then (1:Int32) else (0:Int32))) = (0:Int32) then (J16_40 o x1 x2 (if x1 = (8:Int32) then (1:Int32) else (if x1 = (9:Int32) then (1:Int32) else (0:Int32)))) else (if x2 < (0:Int32) then some ((0:Int32), o) else (J16_40 o x1 x2 (if x1 = (8:Int32) then (1:Int32) else (if x1 = (9:Int32) then (1:Int32) else (0:Int32))))))))
theorem tF16 (Ad : QAd n0 ad) (W : QW Z a0) (s : List Int32) (e0 : Ob) (o : Ob) (x1 : Int32) (x2 : Int32) {r : Int32 × Ob} (h : F16 o x1 x2 = some r) : QTri l Z n0 ad 16 (0, qentry [.ref 1, .int x1, .int x2] (pMaxL 16), [], (H1 s o e0)) (some (Value.int r.1)) (H1 s r.2 e0) := by
 unfold F16 at h
 refine zS Ad W 1 (st' := (1, [vR 1, vI x1, vI x2, none], [.int x1], (H1 s o e0))) rfl ?_
 rcases qite h with ⟨hc90, h⟩ | ⟨hc90, h⟩
 ·refine zT Ad W (t := 10) (f := 4) rfl (XT.i0_lt_t hc90) ?_
  refine zS Ad W 1 (st' := (11, [vR 1, vI x1, vI x2, none], [.int (0:Int32)], (H1 s o e0))) rfl ?_
  obtain rfl := Option.some.inj h
  exact QTri.retZ rfl rfl
 ·refine zF Ad W (t := 10) (f := 4) rfl (XT.i0_lt_f hc90) ?_
  refine zS Ad W 2 (st' := (7, [vR 1, vI x1, vI x2, none], [.int (9:Int32), .int x1], (H1 s o e0))) rfl ?_
  rcases qite h with ⟨hc91, h⟩ | ⟨hc91, h⟩
  ·refine zF Ad W (t := 12) (f := 10) rfl (XT.ii_le_f hc91) ?_
   refine zS Ad W 1 (st' := (11, [vR 1, vI x1, vI x2, none], [.int (0:Int32)], (H1 s o e0))) rfl ?_
   obtain rfl := Option.some.inj h
   exact QTri.retZ rfl rfl
  ·refine zT Ad W (t := 12) (f := 10) rfl (XT.ii_le_t hc91) ?_
   refine zS Ad W 2 (st' := (15, [vR 1, vI x1, vI x2, none], [.int (8:Int32), .int x1], (H1 s o e0))) rfl ?_
   have K93 : ∀ z92 : Int32, z92 = (if x1 = (8:Int32) then (1:Int32) else (if x1 = (9:Int32) then (1:Int32) else (0:Int32))) → QTri l Z n0 ad 16 (29, [vR 1, vI x1, vI x2, none], [.int z92], (H1 s o e0)) (some (Value.int r.1)) (H1 s r.2 e0) := by
    intro z92 ez92
    subst ez92
    refine zS Ad W 2 (st' := (31, [vR 1, vI x1, vI x2, vI (if x1 = (8:Int32) then (1:Int32) else (if x1 = (9:Int32) then (1:Int32) else (0:Int32)))], [.int (if x1 = (8:Int32) then (1:Int32) else (if x1 = (9:Int32) then (1:Int32) else (0:Int32)))], (H1 s o e0))) rfl ?_
    rcases qite h with ⟨hc96, h⟩ | ⟨hc96, h⟩
    ·refine zT Ad W (t := 40) (f := 34) rfl (XT.i0_eq_t hc96) ?_
     exact zM [tt,tt,tt,tt] (tJ16_40 Ad W s e0 o x1 x2 (if x1 = (8:Int32) then (1:Int32) else (if x1 = (9:Int32) then (1:Int32) else (0:Int32))) h)
    ·refine zF Ad W (t := 40) (f := 34) rfl (XT.i0_eq_f hc96) ?_
     refine zS Ad W 1 (st' := (35, [vR 1, vI x1, vI x2, vI (if x1 = (8:Int32) then (1:Int32) else (if x1 = (9:Int32) then (1:Int32) else (0:Int32)))], [.int x2], (H1 s o e0))) rfl ?_
     rcases qite h with ⟨hc101, h⟩ | ⟨hc101, h⟩
     ·refine zF Ad W (t := 40) (f := 38) rfl (XT.i0_ge_f hc101) ?_
      refine zS Ad W 1 (st' := (39, [vR 1, vI x1, vI x2, vI (if x1 = (8:Int32) then (1:Int32) else (if x1 = (9:Int32) then (1:Int32) else (0:Int32)))], [.int (0:Int32)], (H1 s o e0))) rfl ?_
      obtain rfl := Option.some.inj h
      exact QTri.retZ rfl rfl
     ·refine zT Ad W (t := 40) (f := 38) rfl (XT.i0_ge_t hc101) ?_
      exact zM [tt,tt,tt,tt] (tJ16_40 Ad W s e0 o x1 x2 (if x1 = (8:Int32) then (1:Int32) else (if x1 = (9:Int32) then (1:Int32) else (0:Int32))) h)
   rcases em (x1 = (8:Int32)) with hc94 | hc94
   ·refine zT Ad W (t := 24) (f := 18) rfl (XT.ii_eq_t hc94) ?_
    refine zS Ad W 2 (st' := (29, [vR 1, vI x1, vI x2, none], [.int (1:Int32)], (H1 s o e0))) rfl ?_
    exact zM [tt,tt,tt,ff] (K93 _ (if_pos hc94).symm)
   ·refine zF Ad W (t := 24) (f := 18) rfl (XT.ii_eq_f hc94) ?_
    refine zS Ad W 2 (st' := (21, [vR 1, vI x1, vI x2, none], [.int (9:Int32), .int x1], (H1 s o e0))) rfl ?_
    rcases em (x1 = (9:Int32)) with hc95 | hc95
    ·refine zF Ad W (t := 28) (f := 24) rfl (XT.ii_ne_f hc95) ?_
     refine zS Ad W 2 (st' := (29, [vR 1, vI x1, vI x2, none], [.int (1:Int32)], (H1 s o e0))) rfl ?_
     exact zM [tt,tt,tt,ff] (K93 _ ((if_neg hc94).trans (if_pos hc95)).symm)
    ·refine zT Ad W (t := 28) (f := 24) rfl (XT.ii_ne_t hc95) ?_
     refine zS Ad W 1 (st' := (29, [vR 1, vI x1, vI x2, none], [.int (0:Int32)], (H1 s o e0))) rfl ?_
     exact zM [tt,tt,tt,ff] (K93 _ ((if_neg hc94).trans (if_neg hc95)).symm)
/-- needsOrder()Z -/
def F19 (o : Ob) : Option (Int32) :=
 (if (f_mode o) = (1:Int32) then (if (f_direction o) = (0:Int32) then (if (if (f_startKind o) = (1:Int32) then (1:Int32) else (if (f_startKind o) = (3:Int32) then (1:Int32) else (0:Int32))) = (0:Int32) then (if (if (f_endKind o) = (1:Int32) then (1:Int32) else (if (f_endKind o) = (3:Int32) then (1:Int32) else (0:Int32))) = (0:Int32) then some (0:Int32) else some (1:Int32)) else some (1:Int32)) else some (0:Int32)) else some (0:Int32))
theorem tF19 (Ad : QAd n0 ad) (W : QW Z a0) (s : List Int32) (e0 : Ob) (o : Ob) {r : Int32} (h : F19 o = some r) : QTri l Z n0 ad 19 (0, qentry [.ref 1] (pMaxL 19), [], (H1 s o e0)) (some (Value.int r)) (H1 s o e0) := by
 unfold F19 at h
 refine zS Ad W 3 (st' := (5, [vR 1, none, none], [.int (1:Int32), .int (f_mode o)], (H1 s o e0))) rfl ?_
 rcases qite h with ⟨hc103, h⟩ | ⟨hc103, h⟩
 ·refine zF Ad W (t := 15) (f := 8) rfl (XT.ii_ne_f hc103) ?_
  refine zS Ad W 2 (st' := (12, [vR 1, none, none], [.int (f_direction o)], (H1 s o e0))) rfl ?_
  rcases qite h with ⟨hc104, h⟩ | ⟨hc104, h⟩
  ·refine zT Ad W (t := 17) (f := 15) rfl (XT.i0_eq_t hc104) ?_
   refine zS Ad W 3 (st' := (22, [vR 1, none, none], [.int (1:Int32), .int (f_startKind o)], (H1 s o e0))) rfl ?_
   have K106 : ∀ z105 : Int32, z105 = (if (f_startKind o) = (1:Int32) then (1:Int32) else (if (f_startKind o) = (3:Int32) then (1:Int32) else (0:Int32))) → QTri l Z n0 ad 19 (38, [vR 1, none, none], [.int z105], (H1 s o e0)) (some (Value.int r)) (H1 s o e0) := by
    intro z105 ez105
    subst ez105
    refine zS Ad W 4 (st' := (44, [vR 1, vI (if (f_startKind o) = (1:Int32) then (1:Int32) else (if (f_startKind o) = (3:Int32) then (1:Int32) else (0:Int32))), none], [.int (1:Int32), .int (f_endKind o)], (H1 s o e0))) rfl ?_
    have K110 : ∀ z109 : Int32, z109 = (if (f_endKind o) = (1:Int32) then (1:Int32) else (if (f_endKind o) = (3:Int32) then (1:Int32) else (0:Int32))) → QTri l Z n0 ad 19 (60, [none, vI (if (f_startKind o) = (1:Int32) then (1:Int32) else (if (f_startKind o) = (3:Int32) then (1:Int32) else (0:Int32))), none], [.int z109], (H1 s o e0)) (some (Value.int r)) (H1 s o e0) := by
     intro z109 ez109
     subst ez109
     refine zS Ad W 2 (st' := (62, [none, vI (if (f_startKind o) = (1:Int32) then (1:Int32) else (if (f_startKind o) = (3:Int32) then (1:Int32) else (0:Int32))), vI (if (f_endKind o) = (1:Int32) then (1:Int32) else (if (f_endKind o) = (3:Int32) then (1:Int32) else (0:Int32)))], [.int (if (f_startKind o) = (1:Int32) then (1:Int32) else (if (f_startKind o) = (3:Int32) then (1:Int32) else (0:Int32)))], (H1 s o e0))) rfl ?_
     rcases qite h with ⟨hc113, h⟩ | ⟨hc113, h⟩
     ·refine zF Ad W (t := 69) (f := 65) rfl (XT.i0_ne_f hc113) ?_
      refine zS Ad W 1 (st' := (66, [none, vI (if (f_startKind o) = (1:Int32) then (1:Int32) else (if (f_startKind o) = (3:Int32) then (1:Int32) else (0:Int32))), vI (if (f_endKind o) = (1:Int32) then (1:Int32) else (if (f_endKind o) = (3:Int32) then (1:Int32) else (0:Int32)))], [.int (if (f_endKind o) = (1:Int32) then (1:Int32) else (if (f_endKind o) = (3:Int32) then (1:Int32) else (0:Int32)))], (H1 s o e0))) rfl ?_
      rcases qite h with ⟨hc114, h⟩ | ⟨hc114, h⟩
      ·refine zT Ad W (t := 73) (f := 69) rfl (XT.i0_eq_t hc114) ?_
       refine zS Ad W 1 (st' := (74, [none, vI (if (f_startKind o) = (1:Int32) then (1:Int32) else (if (f_startKind o) = (3:Int32) then (1:Int32) else (0:Int32))), vI (if (f_endKind o) = (1:Int32) then (1:Int32) else (if (f_endKind o) = (3:Int32) then (1:Int32) else (0:Int32)))], [.int (0:Int32)], (H1 s o e0))) rfl ?_
       obtain rfl := Option.some.inj h
       exact QTri.retZ rfl rfl
      ·refine zF Ad W (t := 73) (f := 69) rfl (XT.i0_eq_f hc114) ?_
       refine zS Ad W 2 (st' := (74, [none, vI (if (f_startKind o) = (1:Int32) then (1:Int32) else (if (f_startKind o) = (3:Int32) then (1:Int32) else (0:Int32))), vI (if (f_endKind o) = (1:Int32) then (1:Int32) else (if (f_endKind o) = (3:Int32) then (1:Int32) else (0:Int32)))], [.int (1:Int32)], (H1 s o e0))) rfl ?_
       obtain rfl := Option.some.inj h
       exact QTri.retZ rfl rfl
     ·refine zT Ad W (t := 69) (f := 65) rfl (XT.i0_ne_t hc113) ?_
      refine zS Ad W 2 (st' := (74, [none, vI (if (f_startKind o) = (1:Int32) then (1:Int32) else (if (f_startKind o) = (3:Int32) then (1:Int32) else (0:Int32))), vI (if (f_endKind o) = (1:Int32) then (1:Int32) else (if (f_endKind o) = (3:Int32) then (1:Int32) else (0:Int32)))], [.int (1:Int32)], (H1 s o e0))) rfl ?_
      obtain rfl := Option.some.inj h
      exact QTri.retZ rfl rfl
    rcases em ((f_endKind o) = (1:Int32)) with hc111 | hc111
    ·refine zT Ad W (t := 55) (f := 47) rfl (XT.ii_eq_t hc111) ?_
     refine zS Ad W 2 (st' := (60, [vR 1, vI (if (f_startKind o) = (1:Int32) then (1:Int32) else (if (f_startKind o) = (3:Int32) then (1:Int32) else (0:Int32))), none], [.int (1:Int32)], (H1 s o e0))) rfl ?_
     exact zM [ff,tt,ff] (K110 _ (if_pos hc111).symm)
    ·refine zF Ad W (t := 55) (f := 47) rfl (XT.ii_eq_f hc111) ?_
     refine zS Ad W 3 (st' := (52, [vR 1, vI (if (f_startKind o) = (1:Int32) then (1:Int32) else (if (f_startKind o) = (3:Int32) then (1:Int32) else (0:Int32))), none], [.int (3:Int32), .int (f_endKind o)], (H1 s o e0))) rfl ?_
     rcases em ((f_endKind o) = (3:Int32)) with hc112 | hc112
     ·refine zF Ad W (t := 59) (f := 55) rfl (XT.ii_ne_f hc112) ?_
      refine zS Ad W 2 (st' := (60, [vR 1, vI (if (f_startKind o) = (1:Int32) then (1:Int32) else (if (f_startKind o) = (3:Int32) then (1:Int32) else (0:Int32))), none], [.int (1:Int32)], (H1 s o e0))) rfl ?_
      exact zM [ff,tt,ff] (K110 _ ((if_neg hc111).trans (if_pos hc112)).symm)
     ·refine zT Ad W (t := 59) (f := 55) rfl (XT.ii_ne_t hc112) ?_
      refine zS Ad W 1 (st' := (60, [vR 1, vI (if (f_startKind o) = (1:Int32) then (1:Int32) else (if (f_startKind o) = (3:Int32) then (1:Int32) else (0:Int32))), none], [.int (0:Int32)], (H1 s o e0))) rfl ?_
      exact zM [ff,tt,ff] (K110 _ ((if_neg hc111).trans (if_neg hc112)).symm)
   rcases em ((f_startKind o) = (1:Int32)) with hc107 | hc107
   ·refine zT Ad W (t := 33) (f := 25) rfl (XT.ii_eq_t hc107) ?_
    refine zS Ad W 2 (st' := (38, [vR 1, none, none], [.int (1:Int32)], (H1 s o e0))) rfl ?_
    exact zM [tt,ff,ff] (K106 _ (if_pos hc107).symm)
   ·refine zF Ad W (t := 33) (f := 25) rfl (XT.ii_eq_f hc107) ?_
    refine zS Ad W 3 (st' := (30, [vR 1, none, none], [.int (3:Int32), .int (f_startKind o)], (H1 s o e0))) rfl ?_
    rcases em ((f_startKind o) = (3:Int32)) with hc108 | hc108
    ·refine zF Ad W (t := 37) (f := 33) rfl (XT.ii_ne_f hc108) ?_
     refine zS Ad W 2 (st' := (38, [vR 1, none, none], [.int (1:Int32)], (H1 s o e0))) rfl ?_
     exact zM [tt,ff,ff] (K106 _ ((if_neg hc107).trans (if_pos hc108)).symm)
    ·refine zT Ad W (t := 37) (f := 33) rfl (XT.ii_ne_t hc108) ?_
     refine zS Ad W 1 (st' := (38, [vR 1, none, none], [.int (0:Int32)], (H1 s o e0))) rfl ?_
     exact zM [tt,ff,ff] (K106 _ ((if_neg hc107).trans (if_neg hc108)).symm)
  ·refine zF Ad W (t := 17) (f := 15) rfl (XT.i0_eq_f hc104) ?_
   refine zS Ad W 1 (st' := (16, [vR 1, none, none], [.int (0:Int32)], (H1 s o e0))) rfl ?_
   obtain rfl := Option.some.inj h
   exact QTri.retZ rfl rfl
 ·refine zT Ad W (t := 15) (f := 8) rfl (XT.ii_ne_t hc103) ?_
  refine zS Ad W 1 (st' := (16, [vR 1, none, none], [.int (0:Int32)], (H1 s o e0))) rfl ?_
  obtain rfl := Option.some.inj h
  exact QTri.retZ rfl rfl
/-- keyNull(I)Z -/
def F28 (o : Ob) (x1 : Int32) : Option (Int32) :=
 (aget (f_flg o) x1).bind fun y126 => (if (y126 &&& (1:Int32)) = (0:Int32) then some (0:Int32) else some (1:Int32))
theorem tF28 (Ad : QAd n0 ad) (W : QW Z a0) (s : List Int32) (e0 : Ob) (o : Ob) (x1 : Int32) {r : Int32} (h : F28 o x1 = some r) : QTri l Z n0 ad 28 (0, qentry [.ref 1, .int x1] (pMaxL 28), [], (H1 s o e0)) (some (Value.int r)) (H1 s o e0) := by
 unfold F28 at h
 refine zS Ad W 3 (st' := (5, [vR 1, vI x1], [.int x1, .ref 5], (H1 s o e0))) rfl ?_
 obtain ⟨y126, hy126, h⟩ := bind_eq_some_iff.mp h
 refine zB Ad W (f := fun y126 => (6, [vR 1, vI x1], [.int y126], (H1 s o e0))) rfl hy126 ?_
 refine zS Ad W 2 (st' := (8, [vR 1, vI x1], [.int (y126 &&& (1:Int32))], (H1 s o e0))) rfl ?_
 rcases qite h with ⟨hc127, h⟩ | ⟨hc127, h⟩
 ·refine zT Ad W (t := 15) (f := 11) rfl (XT.i0_eq_t hc127) ?_
  refine zS Ad W 1 (st' := (16, [vR 1, vI x1], [.int (0:Int32)], (H1 s o e0))) rfl ?_
  obtain rfl := Option.some.inj h
  exact QTri.retZ rfl rfl
 ·refine zF Ad W (t := 15) (f := 11) rfl (XT.i0_eq_f hc127) ?_
  refine zS Ad W 2 (st' := (16, [vR 1, vI x1], [.int (1:Int32)], (H1 s o e0))) rfl ?_
  obtain rfl := Option.some.inj h
  exact QTri.retZ rfl rfl
def J32_51 (o : Ob) (x1 : Int32) (x2 : Int32) (x3 : Int32) (x4 : Int32) : Option (Int32) :=
  (if x3 = (0 : Int32) then (if x4 = (0 : Int32) then (aget (f_keys o) x1).bind fun y133 => (aget (f_keys o) x2).bind fun y134 => (if y133 = y134 then (if x1 < x2 then some (1 : Int32) else some (0 : Int32)) else (if (f_direction o) = (1 : Int32) then (aget (f_keys o) x1).bind fun y138 => (aget (f_keys o) x2).bind fun y139 => (if y138 < y139 then some (1 : Int32) else some (0 : Int32)) else (aget (f_keys o) x1).bind fun y141 => (aget (f_keys o) x2).bind fun y142 => (if y142 < y141 then some (1 : Int32) else some (0 : Int32)))) else (if (f_nulls o) = (1 : Int32) then some (1 : Int32) else some (0 : Int32))) else (if (f_nulls o) = (0 : Int32) then some (1 : Int32) else some (0 : Int32)))
theorem tJ32_51 (Ad : QAd n0 ad) (W : QW Z a0) (s : List Int32) (e0 : Ob) (o : Ob) (x1 : Int32) (x2 : Int32) (x3 : Int32) (x4 : Int32) {r : Int32} (h : J32_51 o x1 x2 x3 x4 = some r) : QTri l Z n0 ad 32 (51, [vR 1, vI x1, vI x2, vI x3, vI x4], [], (H1 s o e0)) (some (Value.int r)) (H1 s o e0) := by
 unfold J32_51 at h
 refine zS Ad W 1 (st' := (52, [vR 1, vI x1, vI x2, vI x3, vI x4], [.int x3], (H1 s o e0))) rfl ?_
 rcases qite h with ⟨hc131, h⟩ | ⟨hc131, h⟩
 ·refine zT Ad W (t := 68) (f := 55) rfl (XT.i0_eq_t hc131) ?_
  refine zS Ad W 1 (st' := (70, [vR 1, vI x1, vI x2, vI x3, vI x4], [.int x4], (H1 s o e0))) rfl ?_
  rcases qite h with ⟨hc132, h⟩ | ⟨hc132, h⟩
  ·refine zT Ad W (t := 87) (f := 73) rfl (XT.i0_eq_t hc132) ?_
   refine zS Ad W 3 (st' := (92, [vR 1, vI x1, vI x2, vI x3, vI x4], [.int x1, .ref 3], (H1 s o e0))) rfl ?_
   obtain ⟨y133, hy133, h⟩ := bind_eq_some_iff.mp h
   refine zB Ad W (f := fun y133 => (93, [vR 1, vI x1, vI x2, vI x3, vI x4], [.int y133], (H1 s o e0))) rfl hy133 ?_
   refine zS Ad W 3 (st' := (98, [vR 1, vI x1, vI x2, vI x3, vI x4], [.int x2, .ref 3, .int y133], (H1 s o e0))) rfl ?_
   obtain ⟨y134, hy134, h⟩ := bind_eq_some_iff.mp h
   refine zB Ad W (f := fun y134 => (99, [vR 1, vI x1, vI x2, vI x3, vI x4], [.int y134, .int y133], (H1 s o e0))) rfl hy134 ?_
   rcases qite h with ⟨hc135, h⟩ | ⟨hc135, h⟩
   ·refine zF Ad W (t := 113) (f := 102) rfl (XT.ii_ne_f hc135) ?_
    refine zS Ad W 2 (st' := (104, [vR 1, vI x1, vI x2, vI x3, vI x4], [.int x2, .int x1], (H1 s o e0))) rfl ?_
    rcases qite h with ⟨hc136, h⟩ | ⟨hc136, h⟩
    ·refine zF Ad W (t := 111) (f := 107) rfl (XT.ii_ge_f hc136) ?_
     refine zS Ad W 2 (st' := (112, [vR 1, vI x1, vI x2, vI x3, vI x4], [.int (1:Int32)], (H1 s o e0))) rfl ?_
     obtain rfl := Option.some.inj h
     exact QTri.retZ rfl rfl
    ·refine zT Ad W (t := 111) (f := 107) rfl (XT.ii_ge_t hc136) ?_
     refine zS Ad W 1 (st' := (112, [vR 1, vI x1, vI x2, vI x3, vI x4], [.int (0:Int32)], (H1 s o e0))) rfl ?_
     obtain rfl := Option.some.inj h
     exact QTri.retZ rfl rfl
   ·refine zT Ad W (t := 113) (f := 102) rfl (XT.ii_ne_t hc135) ?_
    refine zS Ad W 3 (st' := (118, [vR 1, vI x1, vI x2, vI x3, vI x4], [.int (1:Int32), .int (f_direction o)], (H1 s o e0))) rfl ?_
    rcases qite h with ⟨hc137, h⟩ | ⟨hc137, h⟩
    ·refine zF Ad W (t := 142) (f := 121) rfl (XT.ii_ne_f hc137) ?_
     refine zS Ad W 3 (st' := (126, [vR 1, vI x1, vI x2, vI x3, vI x4], [.int x1, .ref 3], (H1 s o e0))) rfl ?_
     obtain ⟨y138, hy138, h⟩ := bind_eq_some_iff.mp h
     refine zB Ad W (f := fun y138 => (127, [vR 1, vI x1, vI x2, vI x3, vI x4], [.int y138], (H1 s o e0))) rfl hy138 ?_
     refine zS Ad W 3 (st' := (132, [vR 1, vI x1, vI x2, vI x3, vI x4], [.int x2, .ref 3, .int y138], (H1 s o e0))) rfl ?_
     obtain ⟨y139, hy139, h⟩ := bind_eq_some_iff.mp h
     refine zB Ad W (f := fun y139 => (133, [vR 1, vI x1, vI x2, vI x3, vI x4], [.int y139, .int y138], (H1 s o e0))) rfl hy139 ?_
     rcases qite h with ⟨hc140, h⟩ | ⟨hc140, h⟩
     ·refine zF Ad W (t := 140) (f := 136) rfl (XT.ii_ge_f hc140) ?_
      refine zS Ad W 2 (st' := (141, [vR 1, vI x1, vI x2, vI x3, vI x4], [.int (1:Int32)], (H1 s o e0))) rfl ?_
      obtain rfl := Option.some.inj h
      exact QTri.retZ rfl rfl
     ·refine zT Ad W (t := 140) (f := 136) rfl (XT.ii_ge_t hc140) ?_
      refine zS Ad W 1 (st' := (141, [vR 1, vI x1, vI x2, vI x3, vI x4], [.int (0:Int32)], (H1 s o e0))) rfl ?_
      obtain rfl := Option.some.inj h
      exact QTri.retZ rfl rfl
    ·refine zT Ad W (t := 142) (f := 121) rfl (XT.ii_ne_t hc137) ?_
     refine zS Ad W 3 (st' := (147, [vR 1, vI x1, vI x2, vI x3, vI x4], [.int x1, .ref 3], (H1 s o e0))) rfl ?_
     obtain ⟨y141, hy141, h⟩ := bind_eq_some_iff.mp h
     refine zB Ad W (f := fun y141 => (148, [vR 1, vI x1, vI x2, vI x3, vI x4], [.int y141], (H1 s o e0))) rfl hy141 ?_
     refine zS Ad W 3 (st' := (153, [vR 1, vI x1, vI x2, vI x3, vI x4], [.int x2, .ref 3, .int y141], (H1 s o e0))) rfl ?_
     obtain ⟨y142, hy142, h⟩ := bind_eq_some_iff.mp h
     refine zB Ad W (f := fun y142 => (154, [vR 1, vI x1, vI x2, vI x3, vI x4], [.int y142, .int y141], (H1 s o e0))) rfl hy142 ?_
     rcases qite h with ⟨hc143, h⟩ | ⟨hc143, h⟩
     ·refine zF Ad W (t := 161) (f := 157) rfl (XT.ii_le_f hc143) ?_
      refine zS Ad W 2 (st' := (162, [vR 1, vI x1, vI x2, vI x3, vI x4], [.int (1:Int32)], (H1 s o e0))) rfl ?_
      obtain rfl := Option.some.inj h
      exact QTri.retZ rfl rfl
     ·refine zT Ad W (t := 161) (f := 157) rfl (XT.ii_le_t hc143) ?_
      refine zS Ad W 1 (st' := (162, [vR 1, vI x1, vI x2, vI x3, vI x4], [.int (0:Int32)], (H1 s o e0))) rfl ?_
      obtain rfl := Option.some.inj h
      exact QTri.retZ rfl rfl
  ·refine zF Ad W (t := 87) (f := 73) rfl (XT.i0_eq_f hc132) ?_
   refine zS Ad W 3 (st' := (78, [vR 1, vI x1, vI x2, vI x3, vI x4], [.int (1:Int32), .int (f_nulls o)], (H1 s o e0))) rfl ?_
   rcases qite h with ⟨hc144, h⟩ | ⟨hc144, h⟩
   ·refine zF Ad W (t := 85) (f := 81) rfl (XT.ii_ne_f hc144) ?_
    refine zS Ad W 2 (st' := (86, [vR 1, vI x1, vI x2, vI x3, vI x4], [.int (1:Int32)], (H1 s o e0))) rfl ?_
    obtain rfl := Option.some.inj h
    exact QTri.retZ rfl rfl
   ·refine zT Ad W (t := 85) (f := 81) rfl (XT.ii_ne_t hc144) ?_
    refine zS Ad W 1 (st' := (86, [vR 1, vI x1, vI x2, vI x3, vI x4], [.int (0:Int32)], (H1 s o e0))) rfl ?_
    obtain rfl := Option.some.inj h
    exact QTri.retZ rfl rfl
 ·refine zF Ad W (t := 68) (f := 55) rfl (XT.i0_eq_f hc131) ?_
  refine zS Ad W 2 (st' := (59, [vR 1, vI x1, vI x2, vI x3, vI x4], [.int (f_nulls o)], (H1 s o e0))) rfl ?_
  rcases qite h with ⟨hc145, h⟩ | ⟨hc145, h⟩
  ·refine zF Ad W (t := 66) (f := 62) rfl (XT.i0_ne_f hc145) ?_
   refine zS Ad W 2 (st' := (67, [vR 1, vI x1, vI x2, vI x3, vI x4], [.int (1:Int32)], (H1 s o e0))) rfl ?_
   obtain rfl := Option.some.inj h
   exact QTri.retZ rfl rfl
  ·refine zT Ad W (t := 66) (f := 62) rfl (XT.i0_ne_t hc145) ?_
   refine zS Ad W 1 (st' := (67, [vR 1, vI x1, vI x2, vI x3, vI x4], [.int (0:Int32)], (H1 s o e0))) rfl ?_
   obtain rfl := Option.some.inj h
   exact QTri.retZ rfl rfl
/-- before(II)Z -/
def F32 (o : Ob) (x1 : Int32) (x2 : Int32) : Option (Int32) :=
 (if (f_direction o) = (0:Int32) then (if x1 < x2 then some (1:Int32) else some (0:Int32)) else (F28 o x1).bind fun r128 => (F28 o x2).bind fun r129 => (if r128 = (0:Int32) then (J32_51 o x1 x2 r128 r129) else (if r129 = (0:Int32) then (J32_51 o x1 x2 r128 r129) else (if x1 < x2 then some (1:Int32) else some (0:Int32)))))
theorem tF32 (Ad : QAd n0 ad) (W : QW Z a0) (s : List Int32) (e0 : Ob) (o : Ob) (x1 : Int32) (x2 : Int32) {r : Int32} (h : F32 o x1 x2 = some r) : QTri l Z n0 ad 32 (0, qentry [.ref 1, .int x1, .int x2] (pMaxL 32), [], (H1 s o e0)) (some (Value.int r)) (H1 s o e0) := by
 unfold F32 at h
 refine zS Ad W 2 (st' := (4, [vR 1, vI x1, vI x2, none, none], [.int (f_direction o)], (H1 s o e0))) rfl ?_
 rcases qite h with ⟨hc124, h⟩ | ⟨hc124, h⟩
 ·refine zF Ad W (t := 18) (f := 7) rfl (XT.i0_ne_f hc124) ?_
  refine zS Ad W 2 (st' := (9, [vR 1, vI x1, vI x2, none, none], [.int x2, .int x1], (H1 s o e0))) rfl ?_
  rcases qite h with ⟨hc125, h⟩ | ⟨hc125, h⟩
  ·refine zF Ad W (t := 16) (f := 12) rfl (XT.ii_ge_f hc125) ?_
   refine zS Ad W 2 (st' := (17, [vR 1, vI x1, vI x2, none, none], [.int (1:Int32)], (H1 s o e0))) rfl ?_
   obtain rfl := Option.some.inj h
   exact QTri.retZ rfl rfl
  ·refine zT Ad W (t := 16) (f := 12) rfl (XT.ii_ge_t hc125) ?_
   refine zS Ad W 1 (st' := (17, [vR 1, vI x1, vI x2, none, none], [.int (0:Int32)], (H1 s o e0))) rfl ?_
   obtain rfl := Option.some.inj h
   exact QTri.retZ rfl rfl
 ·refine zT Ad W (t := 18) (f := 7) rfl (XT.i0_ne_t hc124) ?_
  refine zS Ad W 2 (st' := (20, [vR 1, vI x1, vI x2, none, none], [.int x1, .ref 1], (H1 s o e0))) rfl ?_
  obtain ⟨r128, hr128, h⟩ := bind_eq_some_iff.mp h
  refine QTri.callP W (a := 1) (as := [.int x1]) (rest := []) (w := (some (.int r128))) (σ₁ := (H1 s o e0)) rfl rfl rfl rfl rfl rfl rfl rfl (tF28 Ad W s e0 o x1 hr128) ?_
  refine zS Ad W 3 (st' := (26, [vR 1, vI x1, vI x2, vI r128, none], [.int x2, .ref 1], (H1 s o e0))) rfl ?_
  obtain ⟨r129, hr129, h⟩ := bind_eq_some_iff.mp h
  refine QTri.callP W (a := 1) (as := [.int x2]) (rest := []) (w := (some (.int r129))) (σ₁ := (H1 s o e0)) rfl rfl rfl rfl rfl rfl rfl rfl (tF28 Ad W s e0 o x2 hr129) ?_
  refine zS Ad W 2 (st' := (32, [vR 1, vI x1, vI x2, vI r128, vI r129], [.int r128], (H1 s o e0))) rfl ?_
  rcases qite h with ⟨hc130, h⟩ | ⟨hc130, h⟩
  ·refine zT Ad W (t := 51) (f := 35) rfl (XT.i0_eq_t hc130) ?_
   exact zM [tt,tt,tt,tt,tt] (tJ32_51 Ad W s e0 o x1 x2 r128 r129 h)
  ·refine zF Ad W (t := 51) (f := 35) rfl (XT.i0_eq_f hc130) ?_
   refine zS Ad W 1 (st' := (37, [vR 1, vI x1, vI x2, vI r128, vI r129], [.int r129], (H1 s o e0))) rfl ?_
   rcases qite h with ⟨hc146, h⟩ | ⟨hc146, h⟩
   ·refine zT Ad W (t := 51) (f := 40) rfl (XT.i0_eq_t hc146) ?_
    exact zM [tt,tt,tt,tt,tt] (tJ32_51 Ad W s e0 o x1 x2 r128 r129 h)
   ·refine zF Ad W (t := 51) (f := 40) rfl (XT.i0_eq_f hc146) ?_
    refine zS Ad W 2 (st' := (42, [vR 1, vI x1, vI x2, vI r128, vI r129], [.int x2, .int x1], (H1 s o e0))) rfl ?_
    rcases qite h with ⟨hc147, h⟩ | ⟨hc147, h⟩
    ·refine zF Ad W (t := 49) (f := 45) rfl (XT.ii_ge_f hc147) ?_
     refine zS Ad W 2 (st' := (50, [vR 1, vI x1, vI x2, vI r128, vI r129], [.int (1:Int32)], (H1 s o e0))) rfl ?_
     obtain rfl := Option.some.inj h
     exact QTri.retZ rfl rfl
    ·refine zT Ad W (t := 49) (f := 45) rfl (XT.ii_ge_t hc147) ?_
     refine zS Ad W 1 (st' := (50, [vR 1, vI x1, vI x2, vI r128, vI r129], [.int (0:Int32)], (H1 s o e0))) rfl ?_
     obtain rfl := Option.some.inj h
     exact QTri.retZ rfl rfl
def H1x48 (s : List Int32) (o0 o1 : Ob) (a0_7 : List Int32) : QHeap := H1v s (f_part o0) (f_keys o0) (f_vals o0) (f_flg o0) (f_res o0) (f_resNull o0) (f_frameCnt o0) a0_7 (f_cap o0) (f_rows o0) (f_direction o0) (f_nulls o0) (f_mode o0) (f_startKind o0) (f_startOff o0) (f_endKind o0) (f_endOff o0) (f_fn o0) (f_fnArg o0) (f_computed o0) (f_sortedLen o0) (f_curPos o0) (f_aggSum o0) (f_aggCount o0) (f_aggRows o0) (f_aggMin o0) (f_aggMax o0) (f_part o1) (f_keys o1) (f_vals o1) (f_flg o1) (f_res o1) (f_resNull o1) (f_frameCnt o1) (f_sorted o1) (f_cap o1) (f_rows o1) (f_direction o1) (f_nulls o1) (f_mode o1) (f_startKind o1) (f_startOff o1) (f_endKind o1) (f_endOff o1) (f_fn o1) (f_fnArg o1) (f_computed o1) (f_sortedLen o1) (f_curPos o1) (f_aggSum o1) (f_aggCount o1) (f_aggRows o1) (f_aggMin o1) (f_aggMax o1)
def B22_38 (x1 : Int32) (x2 : Int32) (x3 : Int32) (x4 : Int32) (v : Int32 × Ob) : Option (((Int32 × Ob)) ⊕ (Int32 × Ob)) :=
  (if (0 : Int32) < v.1 then (aget (f_sorted v.2) (v.1 - (1 : Int32))).bind fun y123 => (F32 v.2 x4 y123).bind fun r148 => (if r148 = (0 : Int32) then some (.inl (v.1, v.2)) else (aget (f_sorted v.2) (v.1 - (1 : Int32))).bind fun y150 => (aset (f_sorted v.2) v.1 y150).bind fun y151 => some (.inr ((v.1 + (-1 : Int32)), (s_sorted v.2 y151)))) else some (.inl (v.1, v.2)))
theorem tB22_38 (Ad : QAd n0 ad) (W : QW Z a0) (s : List Int32) (e0 : Ob) (x1 : Int32) (x2 : Int32) (x3 : Int32) (x4 : Int32) (v : Int32 × Ob) {r : ((Int32 × Ob)) ⊕ (Int32 × Ob)} {u : Option Value} {τ : QHeap} (h : B22_38 x1 x2 x3 x4 v = some r) (hx0 : ∀ x : Int32 × Ob, r = .inl x → QTri l Z n0 ad 22 (83, [vR 1, vI x1, vI x2, vI x3, vI x4, vI x.1], [], (H1 s x.2 e0)) u τ) (hc : ∀ x : Int32 × Ob, r = .inr x → QTri l Z n0 ad 22 (38, [vR 1, vI x1, vI x2, vI x3, vI x4, vI x.1], [], (H1 s x.2 e0)) u τ) : QTri l Z n0 ad 22 (38, [vR 1, vI x1, vI x2, vI x3, vI x4, vI v.1], [], (H1 s v.2 e0)) u τ := by
 unfold B22_38 at h
 refine zS Ad W 1 (st' := (40, [vR 1, vI x1, vI x2, vI x3, vI x4, vI v.1], [.int v.1], (H1 s v.2 e0))) rfl ?_
 rcases qite h with ⟨hc122, h⟩ | ⟨hc122, h⟩
 ·refine zF Ad W (t := 83) (f := 43) rfl (XT.i0_le_f hc122) ?_
  refine zS Ad W 7 (st' := (54, [vR 1, vI x1, vI x2, vI x3, vI x4, vI v.1], [.int (v.1 - (1:Int32)), .ref 9, .int x4, .ref 1], (H1 s v.2 e0))) rfl ?_
  obtain ⟨y123, hy123, h⟩ := bind_eq_some_iff.mp h
  refine zB Ad W (f := fun y123 => (55, [vR 1, vI x1, vI x2, vI x3, vI x4, vI v.1], [.int y123, .int x4, .ref 1], (H1 s v.2 e0))) rfl hy123 ?_
  obtain ⟨r148, hr148, h⟩ := bind_eq_some_iff.mp h
  refine QTri.callP W (a := 1) (as := [.int x4, .int y123]) (rest := []) (w := (some (.int r148))) (σ₁ := (H1 s v.2 e0)) rfl rfl rfl rfl rfl rfl rfl rfl (tF32 Ad W s e0 v.2 x4 y123 hr148) ?_
  rcases qite h with ⟨hc149, h⟩ | ⟨hc149, h⟩
  ·refine zT Ad W (t := 83) (f := 61) rfl (XT.i0_eq_t hc149) ?_
   obtain rfl := Option.some.inj h
   exact zM [tt,tt,tt,tt,tt,tt] (hx0 (v.1, v.2) rfl)
  ·refine zF Ad W (t := 83) (f := 61) rfl (XT.i0_eq_f hc149) ?_
   refine zS Ad W 8 (st' := (75, [vR 1, vI x1, vI x2, vI x3, vI x4, vI v.1], [.int (v.1 - (1:Int32)), .ref 9, .int v.1, .ref 9], (H1 s v.2 e0))) rfl ?_
   obtain ⟨y150, hy150, h⟩ := bind_eq_some_iff.mp h
   refine zB Ad W (f := fun y150 => (76, [vR 1, vI x1, vI x2, vI x3, vI x4, vI v.1], [.int y150, .int v.1, .ref 9], (H1 s v.2 e0))) rfl hy150 ?_
   obtain ⟨y151, hy151, h⟩ := bind_eq_some_iff.mp h
   refine zB Ad W (f := fun y151 => (77, [vR 1, vI x1, vI x2, vI x3, vI x4, vI v.1], [], (H1x48 s v.2 e0 y151))) rfl hy151 ?_
   refine zS Ad W 2 (st' := (38, [vR 1, vI x1, vI x2, vI x3, vI x4, vI (v.1 + (-1:Int32))], [], (H1x48 s v.2 e0 y151))) rfl ?_
   have E152 : ((H1x48 s v.2 e0 y151) : QHeap) = (H1 s (s_sorted v.2 y151) e0) := by simp only [fs, H1, H1v, H1x48, s_sorted]
   rw [E152]
   obtain rfl := Option.some.inj h
   exact zM [tt,tt,tt,tt,tt,tt] (hc ((v.1 + (-1:Int32)), (s_sorted v.2 y151)) rfl)
 ·refine zT Ad W (t := 83) (f := 43) rfl (XT.i0_le_t hc122) ?_
  obtain rfl := Option.some.inj h
  exact zM [tt,tt,tt,tt,tt,tt] (hx0 (v.1, v.2) rfl)
def J22_95 (o : Ob) (x1 : Int32) (x2 : Int32) (x3 : Int32) (x4 : Int32) : Option (((Int32 × Ob)) ⊕ (Int32 × Int32 × Ob)) :=
  some (.inr (x2, (x4 + (1 : Int32)), o))
theorem tJ22_95 (Ad : QAd n0 ad) (W : QW Z a0) (s : List Int32) (e0 : Ob) (o : Ob) (x1 : Int32) (x2 : Int32) (x3 : Int32) (x4 : Int32) {r : ((Int32 × Ob)) ⊕ (Int32 × Int32 × Ob)} {u : Option Value} {τ : QHeap} (h : J22_95 o x1 x2 x3 x4 = some r) (hx0 : ∀ x : Int32 × Ob, r = .inl x → QTri l Z n0 ad 22 (101, [vR 1, vI x1, vI x.1, none, none, none], [], (H1 s x.2 e0)) u τ) (hc : ∀ x : Int32 × Int32 × Ob, r = .inr x → QTri l Z n0 ad 22 (12, [vR 1, vI x1, vI x.1, vI x3, vI x.2.1, none], [], (H1 s x.2.2 e0)) u τ) : QTri l Z n0 ad 22 (95, [vR 1, vI x1, vI x2, vI x3, vI x4, none], [], (H1 s o e0)) u τ := by
 unfold J22_95 at h
 refine zS Ad W 2 (st' := (12, [vR 1, vI x1, vI x2, vI x3, vI (x4 + (1:Int32)), none], [], (H1 s o e0))) rfl ?_
 obtain rfl := Option.some.inj h
 exact zM [tt,tt,tt,tt,tt,ff] (hc (x2, (x4 + (1:Int32)), o) rfl)
def J22_83 (o : Ob) (x1 : Int32) (x2 : Int32) (x3 : Int32) (x4 : Int32) (x5 : Int32) : Option (((Int32 × Ob)) ⊕ (Int32 × Int32 × Ob)) :=
  (aset (f_sorted o) x5 x4).bind fun y155 => (J22_95 (s_sorted o y155) x1 (x2 + (1 : Int32)) x3 x4)
theorem tJ22_83 (Ad : QAd n0 ad) (W : QW Z a0) (s : List Int32) (e0 : Ob) (o : Ob) (x1 : Int32) (x2 : Int32) (x3 : Int32) (x4 : Int32) (x5 : Int32) {r : ((Int32 × Ob)) ⊕ (Int32 × Int32 × Ob)} {u : Option Value} {τ : QHeap} (h : J22_83 o x1 x2 x3 x4 x5 = some r) (hx0 : ∀ x : Int32 × Ob, r = .inl x → QTri l Z n0 ad 22 (101, [vR 1, vI x1, vI x.1, none, none, none], [], (H1 s x.2 e0)) u τ) (hc : ∀ x : Int32 × Int32 × Ob, r = .inr x → QTri l Z n0 ad 22 (12, [vR 1, vI x1, vI x.1, vI x3, vI x.2.1, none], [], (H1 s x.2.2 e0)) u τ) : QTri l Z n0 ad 22 (83, [vR 1, vI x1, vI x2, vI x3, vI x4, vI x5], [], (H1 s o e0)) u τ := by
 unfold J22_83 at h
 refine zS Ad W 4 (st' := (91, [vR 1, vI x1, vI x2, vI x3, vI x4, vI x5], [.int x4, .int x5, .ref 9], (H1 s o e0))) rfl ?_
 obtain ⟨y155, hy155, h⟩ := bind_eq_some_iff.mp h
 refine zB Ad W (f := fun y155 => (92, [vR 1, vI x1, vI x2, vI x3, vI x4, vI x5], [], (H1x48 s o e0 y155))) rfl hy155 ?_
 refine zS Ad W 1 (st' := (95, [vR 1, vI x1, vI (x2 + (1:Int32)), vI x3, vI x4, vI x5], [], (H1x48 s o e0 y155))) rfl ?_
 have E156 : ((H1x48 s o e0 y155) : QHeap) = (H1 s (s_sorted o y155) e0) := by simp only [fs, H1, H1v, H1x48, s_sorted]
 rw [E156]
 exact zM [tt,tt,tt,tt,tt,ff] (tJ22_95 Ad W s e0 (s_sorted o y155) x1 (x2 + (1:Int32)) x3 x4 h hx0 hc)
def B22_12 (x1 : Int32) (x3 : Int32) (v : Int32 × Int32 × Ob) : Option (((Int32 × Ob)) ⊕ (Int32 × Int32 × Ob)) :=
  (if v.2.1 < (f_rows v.2.2) then (aget (f_part v.2.2) v.2.1).bind fun y120 => (if y120 = x3 then (loopN (B22_38 x1 v.1 x3 v.2.1) qN (v.1, v.2.2)).bind fun e153 => (J22_83 e153.2 x1 v.1 x3 v.2.1 e153.1) else (J22_95 v.2.2 x1 v.1 x3 v.2.1)) else some (.inl (v.1, v.2.2)))
theorem tB22_12 (Ad : QAd n0 ad) (W : QW Z a0) (s : List Int32) (e0 : Ob) (x1 : Int32) (x3 : Int32) (v : Int32 × Int32 × Ob) {r : ((Int32 × Ob)) ⊕ (Int32 × Int32 × Ob)} {u : Option Value} {τ : QHeap} (h : B22_12 x1 x3 v = some r) (hx0 : ∀ x : Int32 × Ob, r = .inl x → QTri l Z n0 ad 22 (101, [vR 1, vI x1, vI x.1, none, none, none], [], (H1 s x.2 e0)) u τ) (hc : ∀ x : Int32 × Int32 × Ob, r = .inr x → QTri l Z n0 ad 22 (12, [vR 1, vI x1, vI x.1, vI x3, vI x.2.1, none], [], (H1 s x.2.2 e0)) u τ) : QTri l Z n0 ad 22 (12, [vR 1, vI x1, vI v.1, vI x3, vI v.2.1, none], [], (H1 s v.2.2 e0)) u τ := by
 unfold B22_12 at h
 refine zS Ad W 3 (st' := (18, [vR 1, vI x1, vI v.1, vI x3, vI v.2.1, none], [.int (f_rows v.2.2), .int v.2.1], (H1 s v.2.2 e0))) rfl ?_
 rcases qite h with ⟨hc119, h⟩ | ⟨hc119, h⟩
 ·refine zF Ad W (t := 101) (f := 21) rfl (XT.ii_ge_f hc119) ?_
  refine zS Ad W 3 (st' := (27, [vR 1, vI x1, vI v.1, vI x3, vI v.2.1, none], [.int v.2.1, .ref 2], (H1 s v.2.2 e0))) rfl ?_
  obtain ⟨y120, hy120, h⟩ := bind_eq_some_iff.mp h
  refine zB Ad W (f := fun y120 => (28, [vR 1, vI x1, vI v.1, vI x3, vI v.2.1, none], [.int y120], (H1 s v.2.2 e0))) rfl hy120 ?_
  refine zS Ad W 1 (st' := (29, [vR 1, vI x1, vI v.1, vI x3, vI v.2.1, none], [.int x3, .int y120], (H1 s v.2.2 e0))) rfl ?_
  rcases qite h with ⟨hc121, h⟩ | ⟨hc121, h⟩
  ·refine zT Ad W (t := 35) (f := 32) rfl (XT.ii_eq_t hc121) ?_
   refine zS Ad W 2 (st' := (38, [vR 1, vI x1, vI v.1, vI x3, vI v.2.1, vI v.1], [], (H1 s v.2.2 e0))) rfl ?_
   obtain ⟨e153, he153, h⟩ := bind_eq_some_iff.mp h
   refine zM [tt,tt,tt,tt,tt,tt] (loopN_tri (B := B22_38 x1 v.1 x3 v.2.1) (T := fun lv154 => QTri l Z n0 ad 22 (38, [vR 1, vI x1, vI v.1, vI x3, vI v.2.1, vI lv154.1], [], (H1 s lv154.2 e0)) u τ) (KE := fun e153a => QTri l Z n0 ad 22 (83, [vR 1, vI x1, vI v.1, vI x3, vI v.2.1, vI e153a.1], [], (H1 s e153a.2 e0)) u τ) (fun lv154 r hB hE hC => tB22_38 Ad W s e0 x1 v.1 x3 v.2.1 lv154 hB (fun x q => hE _ q) (fun x q => hC x q)) qN (v.1, v.2.2) e153 he153 ?_)
   exact zM [tt,tt,tt,tt,tt,tt] (tJ22_83 Ad W s e0 e153.2 x1 v.1 x3 v.2.1 e153.1 h hx0 hc)
  ·refine zF Ad W (t := 35) (f := 32) rfl (XT.ii_eq_f hc121) ?_
   refine zS Ad W 1 (st' := (95, [vR 1, vI x1, vI v.1, vI x3, vI v.2.1, none], [], (H1 s v.2.2 e0))) rfl ?_
   exact zM [tt,tt,tt,tt,tt,ff] (tJ22_95 Ad W s e0 v.2.2 x1 v.1 x3 v.2.1 h hx0 hc)
 ·refine zT Ad W (t := 101) (f := 21) rfl (XT.ii_ge_t hc119) ?_
  obtain rfl := Option.some.inj h
  exact zM [tt,tt,tt,ff,ff,ff] (hx0 (v.1, v.2.2) rfl)
def H1x49 (s : List Int32) (o0 o1 : Ob) (a0_20 : Int32) : QHeap := H1v s (f_part o0) (f_keys o0) (f_vals o0) (f_flg o0) (f_res o0) (f_resNull o0) (f_frameCnt o0) (f_sorted o0) (f_cap o0) (f_rows o0) (f_direction o0) (f_nulls o0) (f_mode o0) (f_startKind o0) (f_startOff o0) (f_endKind o0) (f_endOff o0) (f_fn o0) (f_fnArg o0) (f_computed o0) a0_20 (f_curPos o0) (f_aggSum o0) (f_aggCount o0) (f_aggRows o0) (f_aggMin o0) (f_aggMax o0) (f_part o1) (f_keys o1) (f_vals o1) (f_flg o1) (f_res o1) (f_resNull o1) (f_frameCnt o1) (f_sorted o1) (f_cap o1) (f_rows o1) (f_direction o1) (f_nulls o1) (f_mode o1) (f_startKind o1) (f_startOff o1) (f_endKind o1) (f_endOff o1) (f_fn o1) (f_fnArg o1) (f_computed o1) (f_sortedLen o1) (f_curPos o1) (f_aggSum o1) (f_aggCount o1) (f_aggRows o1) (f_aggMin o1) (f_aggMax o1)
def H1x50 (s : List Int32) (o0 o1 : Ob) (a0_20 : Int32) (a0_21 : Int32) : QHeap := H1v s (f_part o0) (f_keys o0) (f_vals o0) (f_flg o0) (f_res o0) (f_resNull o0) (f_frameCnt o0) (f_sorted o0) (f_cap o0) (f_rows o0) (f_direction o0) (f_nulls o0) (f_mode o0) (f_startKind o0) (f_startOff o0) (f_endKind o0) (f_endOff o0) (f_fn o0) (f_fnArg o0) (f_computed o0) a0_20 a0_21 (f_aggSum o0) (f_aggCount o0) (f_aggRows o0) (f_aggMin o0) (f_aggMax o0) (f_part o1) (f_keys o1) (f_vals o1) (f_flg o1) (f_res o1) (f_resNull o1) (f_frameCnt o1) (f_sorted o1) (f_cap o1) (f_rows o1) (f_direction o1) (f_nulls o1) (f_mode o1) (f_startKind o1) (f_startOff o1) (f_endKind o1) (f_endOff o1) (f_fn o1) (f_fnArg o1) (f_computed o1) (f_sortedLen o1) (f_curPos o1) (f_aggSum o1) (f_aggCount o1) (f_aggRows o1) (f_aggMin o1) (f_aggMax o1)
def H1x51 (s : List Int32) (o0 o1 : Ob) (a0_21 : Int32) : QHeap := H1v s (f_part o0) (f_keys o0) (f_vals o0) (f_flg o0) (f_res o0) (f_resNull o0) (f_frameCnt o0) (f_sorted o0) (f_cap o0) (f_rows o0) (f_direction o0) (f_nulls o0) (f_mode o0) (f_startKind o0) (f_startOff o0) (f_endKind o0) (f_endOff o0) (f_fn o0) (f_fnArg o0) (f_computed o0) (f_sortedLen o0) a0_21 (f_aggSum o0) (f_aggCount o0) (f_aggRows o0) (f_aggMin o0) (f_aggMax o0) (f_part o1) (f_keys o1) (f_vals o1) (f_flg o1) (f_res o1) (f_resNull o1) (f_frameCnt o1) (f_sorted o1) (f_cap o1) (f_rows o1) (f_direction o1) (f_nulls o1) (f_mode o1) (f_startKind o1) (f_startOff o1) (f_endKind o1) (f_endOff o1) (f_fn o1) (f_fnArg o1) (f_computed o1) (f_sortedLen o1) (f_curPos o1) (f_aggSum o1) (f_aggCount o1) (f_aggRows o1) (f_aggMin o1) (f_aggMax o1)
def J22_137 (o : Ob) (x1 : Int32) (x2 : Int32) (x4 : Int32) : Option (((Ob)) ⊕ (Int32 × Ob)) :=
  some (.inr ((x4 + (1 : Int32)), o))
theorem tJ22_137 (Ad : QAd n0 ad) (W : QW Z a0) (s : List Int32) (e0 : Ob) (o : Ob) (x1 : Int32) (x2 : Int32) (x4 : Int32) {r : ((Ob)) ⊕ (Int32 × Ob)} {u : Option Value} {τ : QHeap} (h : J22_137 o x1 x2 x4 = some r) (hx0 : ∀ x : Ob, r = .inl x → u = (none : Option Value) ∧ τ = (H1 s x e0)) (hc : ∀ x : Int32 × Ob, r = .inr x → QTri l Z n0 ad 22 (114, [vR 1, vI x1, vI x2, none, vI x.1, none], [], (H1 s x.2 e0)) u τ) : QTri l Z n0 ad 22 (137, [vR 1, vI x1, vI x2, none, vI x4, none], [], (H1 s o e0)) u τ := by
 unfold J22_137 at h
 refine zS Ad W 2 (st' := (114, [vR 1, vI x1, vI x2, none, vI (x4 + (1:Int32)), none], [], (H1 s o e0))) rfl ?_
 obtain rfl := Option.some.inj h
 exact zM [tt,tt,tt,ff,tt,ff] (hc ((x4 + (1:Int32)), o) rfl)
def B22_114 (x1 : Int32) (x2 : Int32) (v : Int32 × Ob) : Option (((Ob)) ⊕ (Int32 × Ob)) :=
  (if v.1 < x2 then (aget (f_sorted v.2) v.1).bind fun y161 => (if y161 = x1 then (J22_137 (s_curPos v.2 v.1) x1 x2 v.1) else (J22_137 v.2 x1 x2 v.1)) else some (.inl v.2))
theorem tB22_114 (Ad : QAd n0 ad) (W : QW Z a0) (s : List Int32) (e0 : Ob) (x1 : Int32) (x2 : Int32) (v : Int32 × Ob) {r : ((Ob)) ⊕ (Int32 × Ob)} {u : Option Value} {τ : QHeap} (h : B22_114 x1 x2 v = some r) (hx0 : ∀ x : Ob, r = .inl x → u = (none : Option Value) ∧ τ = (H1 s x e0)) (hc : ∀ x : Int32 × Ob, r = .inr x → QTri l Z n0 ad 22 (114, [vR 1, vI x1, vI x2, none, vI x.1, none], [], (H1 s x.2 e0)) u τ) : QTri l Z n0 ad 22 (114, [vR 1, vI x1, vI x2, none, vI v.1, none], [], (H1 s v.2 e0)) u τ := by
 unfold B22_114 at h
 refine zS Ad W 2 (st' := (117, [vR 1, vI x1, vI x2, none, vI v.1, none], [.int x2, .int v.1], (H1 s v.2 e0))) rfl ?_
 rcases qite h with ⟨hc160, h⟩ | ⟨hc160, h⟩
 ·refine zF Ad W (t := 143) (f := 120) rfl (XT.ii_ge_f hc160) ?_
  refine zS Ad W 3 (st' := (126, [vR 1, vI x1, vI x2, none, vI v.1, none], [.int v.1, .ref 9], (H1 s v.2 e0))) rfl ?_
  obtain ⟨y161, hy161, h⟩ := bind_eq_some_iff.mp h
  refine zB Ad W (f := fun y161 => (127, [vR 1, vI x1, vI x2, none, vI v.1, none], [.int y161], (H1 s v.2 e0))) rfl hy161 ?_
  refine zS Ad W 1 (st' := (128, [vR 1, vI x1, vI x2, none, vI v.1, none], [.int x1, .int y161], (H1 s v.2 e0))) rfl ?_
  rcases qite h with ⟨hc162, h⟩ | ⟨hc162, h⟩
  ·refine zF Ad W (t := 137) (f := 131) rfl (XT.ii_ne_f hc162) ?_
   refine zS Ad W 3 (st' := (137, [vR 1, vI x1, vI x2, none, vI v.1, none], [], (H1x51 s v.2 e0 v.1))) rfl ?_
   have E163 : ((H1x51 s v.2 e0 v.1) : QHeap) = (H1 s (s_curPos v.2 v.1) e0) := by simp only [fs, H1, H1v, H1x51, s_curPos]
   rw [E163]
   exact zM [tt,tt,tt,ff,tt,ff] (tJ22_137 Ad W s e0 (s_curPos v.2 v.1) x1 x2 v.1 h hx0 hc)
  ·refine zT Ad W (t := 137) (f := 131) rfl (XT.ii_ne_t hc162) ?_
   exact zM [tt,tt,tt,ff,tt,ff] (tJ22_137 Ad W s e0 v.2 x1 x2 v.1 h hx0 hc)
 ·refine zT Ad W (t := 143) (f := 120) rfl (XT.ii_ge_t hc160) ?_
  obtain rfl := Option.some.inj h
  obtain ⟨rfl, rfl⟩ := hx0 v.2 rfl
  exact QTri.ret0 rfl rfl
/-- buildPartition(I)V -/
def F22 (o : Ob) (x1 : Int32) : Option (Ob) :=
 (aget (f_part o) x1).bind fun y118 => (loopN (B22_12 x1 y118) qN ((0:Int32), (0:Int32), o)).bind fun e157 => (loopN (B22_114 x1 e157.1) qN ((0:Int32), (s_curPos (s_sortedLen e157.2 e157.1) (0:Int32)))).bind fun e164 => some e164
theorem tF22 (Ad : QAd n0 ad) (W : QW Z a0) (s : List Int32) (e0 : Ob) (o : Ob) (x1 : Int32) {r : Ob} (h : F22 o x1 = some r) : QTri l Z n0 ad 22 (0, qentry [.ref 1, .int x1] (pMaxL 22), [], (H1 s o e0)) (none : Option Value) (H1 s r e0) := by
 unfold F22 at h
 refine zS Ad W 5 (st' := (7, [vR 1, vI x1, vI (0:Int32), none, none, none], [.int x1, .ref 2], (H1 s o e0))) rfl ?_
 obtain ⟨y118, hy118, h⟩ := bind_eq_some_iff.mp h
 refine zB Ad W (f := fun y118 => (8, [vR 1, vI x1, vI (0:Int32), none, none, none], [.int y118], (H1 s o e0))) rfl hy118 ?_
 refine zS Ad W 3 (st' := (12, [vR 1, vI x1, vI (0:Int32), vI y118, vI (0:Int32), none], [], (H1 s o e0))) rfl ?_
 obtain ⟨e157, he157, h⟩ := bind_eq_some_iff.mp h
 refine zM [tt,tt,tt,tt,tt,ff] (loopN_tri (B := B22_12 x1 y118) (T := fun lv158 => QTri l Z n0 ad 22 (12, [vR 1, vI x1, vI lv158.1, vI y118, vI lv158.2.1, none], [], (H1 s lv158.2.2 e0)) (none : Option Value) (H1 s r e0)) (KE := fun e157a => QTri l Z n0 ad 22 (101, [vR 1, vI x1, vI e157a.1, none, none, none], [], (H1 s e157a.2 e0)) (none : Option Value) (H1 s r e0)) (fun lv158 r hB hE hC => tB22_12 Ad W s e0 x1 y118 lv158 hB (fun x q => hE _ q) (fun x q => hC x q)) qN ((0:Int32), (0:Int32), o) e157 he157 ?_)
 refine zS Ad W 3 (st' := (106, [vR 1, vI x1, vI e157.1, none, none, none], [], (H1x49 s e157.2 e0 e157.1))) rfl ?_
 refine zS Ad W 3 (st' := (111, [vR 1, vI x1, vI e157.1, none, none, none], [], (H1x50 s e157.2 e0 e157.1 (0:Int32)))) rfl ?_
 refine zS Ad W 2 (st' := (114, [vR 1, vI x1, vI e157.1, none, vI (0:Int32), none], [], (H1x50 s e157.2 e0 e157.1 (0:Int32)))) rfl ?_
 have E159 : ((H1x50 s e157.2 e0 e157.1 (0:Int32)) : QHeap) = (H1 s (s_curPos (s_sortedLen e157.2 e157.1) (0:Int32)) e0) := by simp only [fs, H1, H1v, H1x50, s_sortedLen, s_curPos]
 rw [E159]
 obtain ⟨e164, he164, h⟩ := bind_eq_some_iff.mp h
 refine zM [tt,tt,tt,ff,tt,ff] (loopN_tri (B := B22_114 x1 e157.1) (T := fun lv165 => QTri l Z n0 ad 22 (114, [vR 1, vI x1, vI e157.1, none, vI lv165.1, none], [], (H1 s lv165.2 e0)) (none : Option Value) (H1 s r e0)) (KE := fun e164a => (none : Option Value) = (none : Option Value) ∧ (H1 s r e0) = (H1 s e164a e0)) (fun lv165 r hB hE hC => tB22_114 Ad W s e0 x1 e157.1 lv165 hB (fun x q => hE _ q) (fun x q => hC x q)) qN ((0:Int32), (s_curPos (s_sortedLen e157.2 e157.1) (0:Int32))) e164 he164 ?_)
 obtain rfl := Option.some.inj h
 exact ⟨rfl, rfl⟩
def H1x52 (s : List Int32) (o0 o1 : Ob) (a0_22 : Int64) : QHeap := H1v s (f_part o0) (f_keys o0) (f_vals o0) (f_flg o0) (f_res o0) (f_resNull o0) (f_frameCnt o0) (f_sorted o0) (f_cap o0) (f_rows o0) (f_direction o0) (f_nulls o0) (f_mode o0) (f_startKind o0) (f_startOff o0) (f_endKind o0) (f_endOff o0) (f_fn o0) (f_fnArg o0) (f_computed o0) (f_sortedLen o0) (f_curPos o0) a0_22 (f_aggCount o0) (f_aggRows o0) (f_aggMin o0) (f_aggMax o0) (f_part o1) (f_keys o1) (f_vals o1) (f_flg o1) (f_res o1) (f_resNull o1) (f_frameCnt o1) (f_sorted o1) (f_cap o1) (f_rows o1) (f_direction o1) (f_nulls o1) (f_mode o1) (f_startKind o1) (f_startOff o1) (f_endKind o1) (f_endOff o1) (f_fn o1) (f_fnArg o1) (f_computed o1) (f_sortedLen o1) (f_curPos o1) (f_aggSum o1) (f_aggCount o1) (f_aggRows o1) (f_aggMin o1) (f_aggMax o1)
def H1x53 (s : List Int32) (o0 o1 : Ob) (a0_22 : Int64) (a0_23 : Int32) : QHeap := H1v s (f_part o0) (f_keys o0) (f_vals o0) (f_flg o0) (f_res o0) (f_resNull o0) (f_frameCnt o0) (f_sorted o0) (f_cap o0) (f_rows o0) (f_direction o0) (f_nulls o0) (f_mode o0) (f_startKind o0) (f_startOff o0) (f_endKind o0) (f_endOff o0) (f_fn o0) (f_fnArg o0) (f_computed o0) (f_sortedLen o0) (f_curPos o0) a0_22 a0_23 (f_aggRows o0) (f_aggMin o0) (f_aggMax o0) (f_part o1) (f_keys o1) (f_vals o1) (f_flg o1) (f_res o1) (f_resNull o1) (f_frameCnt o1) (f_sorted o1) (f_cap o1) (f_rows o1) (f_direction o1) (f_nulls o1) (f_mode o1) (f_startKind o1) (f_startOff o1) (f_endKind o1) (f_endOff o1) (f_fn o1) (f_fnArg o1) (f_computed o1) (f_sortedLen o1) (f_curPos o1) (f_aggSum o1) (f_aggCount o1) (f_aggRows o1) (f_aggMin o1) (f_aggMax o1)
def H1x54 (s : List Int32) (o0 o1 : Ob) (a0_22 : Int64) (a0_23 : Int32) (a0_24 : Int32) : QHeap := H1v s (f_part o0) (f_keys o0) (f_vals o0) (f_flg o0) (f_res o0) (f_resNull o0) (f_frameCnt o0) (f_sorted o0) (f_cap o0) (f_rows o0) (f_direction o0) (f_nulls o0) (f_mode o0) (f_startKind o0) (f_startOff o0) (f_endKind o0) (f_endOff o0) (f_fn o0) (f_fnArg o0) (f_computed o0) (f_sortedLen o0) (f_curPos o0) a0_22 a0_23 a0_24 (f_aggMin o0) (f_aggMax o0) (f_part o1) (f_keys o1) (f_vals o1) (f_flg o1) (f_res o1) (f_resNull o1) (f_frameCnt o1) (f_sorted o1) (f_cap o1) (f_rows o1) (f_direction o1) (f_nulls o1) (f_mode o1) (f_startKind o1) (f_startOff o1) (f_endKind o1) (f_endOff o1) (f_fn o1) (f_fnArg o1) (f_computed o1) (f_sortedLen o1) (f_curPos o1) (f_aggSum o1) (f_aggCount o1) (f_aggRows o1) (f_aggMin o1) (f_aggMax o1)
def H1x55 (s : List Int32) (o0 o1 : Ob) (a0_22 : Int64) (a0_23 : Int32) (a0_24 : Int32) (a0_25 : Int32) : QHeap := H1v s (f_part o0) (f_keys o0) (f_vals o0) (f_flg o0) (f_res o0) (f_resNull o0) (f_frameCnt o0) (f_sorted o0) (f_cap o0) (f_rows o0) (f_direction o0) (f_nulls o0) (f_mode o0) (f_startKind o0) (f_startOff o0) (f_endKind o0) (f_endOff o0) (f_fn o0) (f_fnArg o0) (f_computed o0) (f_sortedLen o0) (f_curPos o0) a0_22 a0_23 a0_24 a0_25 (f_aggMax o0) (f_part o1) (f_keys o1) (f_vals o1) (f_flg o1) (f_res o1) (f_resNull o1) (f_frameCnt o1) (f_sorted o1) (f_cap o1) (f_rows o1) (f_direction o1) (f_nulls o1) (f_mode o1) (f_startKind o1) (f_startOff o1) (f_endKind o1) (f_endOff o1) (f_fn o1) (f_fnArg o1) (f_computed o1) (f_sortedLen o1) (f_curPos o1) (f_aggSum o1) (f_aggCount o1) (f_aggRows o1) (f_aggMin o1) (f_aggMax o1)
def H1x56 (s : List Int32) (o0 o1 : Ob) (a0_22 : Int64) (a0_23 : Int32) (a0_24 : Int32) (a0_25 : Int32) (a0_26 : Int32) : QHeap := H1v s (f_part o0) (f_keys o0) (f_vals o0) (f_flg o0) (f_res o0) (f_resNull o0) (f_frameCnt o0) (f_sorted o0) (f_cap o0) (f_rows o0) (f_direction o0) (f_nulls o0) (f_mode o0) (f_startKind o0) (f_startOff o0) (f_endKind o0) (f_endOff o0) (f_fn o0) (f_fnArg o0) (f_computed o0) (f_sortedLen o0) (f_curPos o0) a0_22 a0_23 a0_24 a0_25 a0_26 (f_part o1) (f_keys o1) (f_vals o1) (f_flg o1) (f_res o1) (f_resNull o1) (f_frameCnt o1) (f_sorted o1) (f_cap o1) (f_rows o1) (f_direction o1) (f_nulls o1) (f_mode o1) (f_startKind o1) (f_startOff o1) (f_endKind o1) (f_endOff o1) (f_fn o1) (f_fnArg o1) (f_computed o1) (f_sortedLen o1) (f_curPos o1) (f_aggSum o1) (f_aggCount o1) (f_aggRows o1) (f_aggMin o1) (f_aggMax o1)
/-- rowsStartHolds(II)Z -/
def F34 (o : Ob) (x1 : Int32) (x2 : Int32) : Option (Int32) :=
 (if (f_startKind o) = (1:Int32) then (if (x2.toInt64) < ((x1.toInt64) - ((f_startOff o).toInt64)) then some (0:Int32) else some (1:Int32)) else (if (f_startKind o) = (2:Int32) then (if (x2.toInt64) < (x1.toInt64) then some (0:Int32) else some (1:Int32)) else (if (f_startKind o) = (3:Int32) then (if (x2.toInt64) < ((x1.toInt64) + ((f_startOff o).toInt64)) then some (0:Int32) else some (1:Int32)) else some (1:Int32))))
theorem tF34 (Ad : QAd n0 ad) (W : QW Z a0) (s : List Int32) (e0 : Ob) (o : Ob) (x1 : Int32) (x2 : Int32) {r : Int32} (h : F34 o x1 x2 = some r) : QTri l Z n0 ad 34 (0, qentry [.ref 1, .int x1, .int x2] (pMaxL 34), [], (H1 s o e0)) (some (Value.int r)) (H1 s o e0) := by
 unfold F34 at h
 refine zS Ad W 6 (st' := (7, [vR 1, vI x1, vI x2, some (.long (x1.toInt64)), none, some (.long (x2.toInt64)), none, none, none], [], (H1 s o e0))) rfl ?_
 refine zS Ad W 7 (st' := (19, [vR 1, vI x1, vI x2, some (.long (x1.toInt64)), none, some (.long (x2.toInt64)), none, some (.long ((f_startOff o).toInt64)), none], [.int (1:Int32), .int (f_startKind o)], (H1 s o e0))) rfl ?_
 rcases qite h with ⟨hc171, h⟩ | ⟨hc171, h⟩
 ·refine zF Ad W (t := 38) (f := 22) rfl (XT.ii_ne_f hc171) ?_
  refine zS Ad W 5 (st' := (29, [vR 1, vI x1, vI x2, some (.long (x1.toInt64)), none, some (.long (x2.toInt64)), none, some (.long ((f_startOff o).toInt64)), none], [.int (XT.cmpL (x2.toInt64) ((x1.toInt64) - ((f_startOff o).toInt64)))], (H1 s o e0))) rfl ?_
  rcases qite h with ⟨hc172, h⟩ | ⟨hc172, h⟩
  ·refine zT Ad W (t := 36) (f := 32) rfl (XT.ll_lt_t hc172) ?_
   refine zS Ad W 1 (st' := (37, [vR 1, vI x1, vI x2, some (.long (x1.toInt64)), none, some (.long (x2.toInt64)), none, some (.long ((f_startOff o).toInt64)), none], [.int (0:Int32)], (H1 s o e0))) rfl ?_
   obtain rfl := Option.some.inj h
   exact QTri.retZ rfl rfl
  ·refine zF Ad W (t := 36) (f := 32) rfl (XT.ll_lt_f hc172) ?_
   refine zS Ad W 2 (st' := (37, [vR 1, vI x1, vI x2, some (.long (x1.toInt64)), none, some (.long (x2.toInt64)), none, some (.long ((f_startOff o).toInt64)), none], [.int (1:Int32)], (H1 s o e0))) rfl ?_
   obtain rfl := Option.some.inj h
   exact QTri.retZ rfl rfl
 ·refine zT Ad W (t := 38) (f := 22) rfl (XT.ii_ne_t hc171) ?_
  refine zS Ad W 3 (st' := (43, [vR 1, vI x1, vI x2, some (.long (x1.toInt64)), none, some (.long (x2.toInt64)), none, some (.long ((f_startOff o).toInt64)), none], [.int (2:Int32), .int (f_startKind o)], (H1 s o e0))) rfl ?_
  rcases qite h with ⟨hc173, h⟩ | ⟨hc173, h⟩
  ·refine zF Ad W (t := 59) (f := 46) rfl (XT.ii_ne_f hc173) ?_
   refine zS Ad W 3 (st' := (50, [vR 1, vI x1, vI x2, some (.long (x1.toInt64)), none, some (.long (x2.toInt64)), none, some (.long ((f_startOff o).toInt64)), none], [.int (XT.cmpL (x2.toInt64) (x1.toInt64))], (H1 s o e0))) rfl ?_
   rcases qite h with ⟨hc174, h⟩ | ⟨hc174, h⟩
   ·refine zT Ad W (t := 57) (f := 53) rfl (XT.ll_lt_t hc174) ?_
    refine zS Ad W 1 (st' := (58, [vR 1, vI x1, vI x2, some (.long (x1.toInt64)), none, some (.long (x2.toInt64)), none, some (.long ((f_startOff o).toInt64)), none], [.int (0:Int32)], (H1 s o e0))) rfl ?_
    obtain rfl := Option.some.inj h
    exact QTri.retZ rfl rfl
   ·refine zF Ad W (t := 57) (f := 53) rfl (XT.ll_lt_f hc174) ?_
    refine zS Ad W 2 (st' := (58, [vR 1, vI x1, vI x2, some (.long (x1.toInt64)), none, some (.long (x2.toInt64)), none, some (.long ((f_startOff o).toInt64)), none], [.int (1:Int32)], (H1 s o e0))) rfl ?_
    obtain rfl := Option.some.inj h
    exact QTri.retZ rfl rfl
  ·refine zT Ad W (t := 59) (f := 46) rfl (XT.ii_ne_t hc173) ?_
   refine zS Ad W 3 (st' := (64, [vR 1, vI x1, vI x2, some (.long (x1.toInt64)), none, some (.long (x2.toInt64)), none, some (.long ((f_startOff o).toInt64)), none], [.int (3:Int32), .int (f_startKind o)], (H1 s o e0))) rfl ?_
   rcases qite h with ⟨hc175, h⟩ | ⟨hc175, h⟩
   ·refine zF Ad W (t := 83) (f := 67) rfl (XT.ii_ne_f hc175) ?_
    refine zS Ad W 5 (st' := (74, [vR 1, vI x1, vI x2, some (.long (x1.toInt64)), none, some (.long (x2.toInt64)), none, some (.long ((f_startOff o).toInt64)), none], [.int (XT.cmpL (x2.toInt64) ((x1.toInt64) + ((f_startOff o).toInt64)))], (H1 s o e0))) rfl ?_
    rcases qite h with ⟨hc176, h⟩ | ⟨hc176, h⟩
    ·refine zT Ad W (t := 81) (f := 77) rfl (XT.ll_lt_t hc176) ?_
     refine zS Ad W 1 (st' := (82, [vR 1, vI x1, vI x2, some (.long (x1.toInt64)), none, some (.long (x2.toInt64)), none, some (.long ((f_startOff o).toInt64)), none], [.int (0:Int32)], (H1 s o e0))) rfl ?_
     obtain rfl := Option.some.inj h
     exact QTri.retZ rfl rfl
    ·refine zF Ad W (t := 81) (f := 77) rfl (XT.ll_lt_f hc176) ?_
     refine zS Ad W 2 (st' := (82, [vR 1, vI x1, vI x2, some (.long (x1.toInt64)), none, some (.long (x2.toInt64)), none, some (.long ((f_startOff o).toInt64)), none], [.int (1:Int32)], (H1 s o e0))) rfl ?_
     obtain rfl := Option.some.inj h
     exact QTri.retZ rfl rfl
   ·refine zT Ad W (t := 83) (f := 67) rfl (XT.ii_ne_t hc175) ?_
    refine zS Ad W 1 (st' := (84, [vR 1, vI x1, vI x2, some (.long (x1.toInt64)), none, some (.long (x2.toInt64)), none, some (.long ((f_startOff o).toInt64)), none], [.int (1:Int32)], (H1 s o e0))) rfl ?_
    obtain rfl := Option.some.inj h
    exact QTri.retZ rfl rfl
/-- rowsEndHolds(II)Z -/
def F35 (o : Ob) (x1 : Int32) (x2 : Int32) : Option (Int32) :=
 (if (f_endKind o) = (1:Int32) then (if ((x1.toInt64) - ((f_endOff o).toInt64)) < (x2.toInt64) then some (0:Int32) else some (1:Int32)) else (if (f_endKind o) = (2:Int32) then (if (x1.toInt64) < (x2.toInt64) then some (0:Int32) else some (1:Int32)) else (if (f_endKind o) = (3:Int32) then (if ((x1.toInt64) + ((f_endOff o).toInt64)) < (x2.toInt64) then some (0:Int32) else some (1:Int32)) else some (1:Int32))))
theorem tF35 (Ad : QAd n0 ad) (W : QW Z a0) (s : List Int32) (e0 : Ob) (o : Ob) (x1 : Int32) (x2 : Int32) {r : Int32} (h : F35 o x1 x2 = some r) : QTri l Z n0 ad 35 (0, qentry [.ref 1, .int x1, .int x2] (pMaxL 35), [], (H1 s o e0)) (some (Value.int r)) (H1 s o e0) := by
 unfold F35 at h
 refine zS Ad W 6 (st' := (7, [vR 1, vI x1, vI x2, some (.long (x1.toInt64)), none, some (.long (x2.toInt64)), none, none, none], [], (H1 s o e0))) rfl ?_
 refine zS Ad W 7 (st' := (19, [vR 1, vI x1, vI x2, some (.long (x1.toInt64)), none, some (.long (x2.toInt64)), none, some (.long ((f_endOff o).toInt64)), none], [.int (1:Int32), .int (f_endKind o)], (H1 s o e0))) rfl ?_
 rcases qite h with ⟨hc179, h⟩ | ⟨hc179, h⟩
 ·refine zF Ad W (t := 38) (f := 22) rfl (XT.ii_ne_f hc179) ?_
  refine zS Ad W 5 (st' := (29, [vR 1, vI x1, vI x2, some (.long (x1.toInt64)), none, some (.long (x2.toInt64)), none, some (.long ((f_endOff o).toInt64)), none], [.int (XT.cmpL (x2.toInt64) ((x1.toInt64) - ((f_endOff o).toInt64)))], (H1 s o e0))) rfl ?_
  rcases qite h with ⟨hc180, h⟩ | ⟨hc180, h⟩
  ·refine zT Ad W (t := 36) (f := 32) rfl (XT.ll_gt_t hc180) ?_
   refine zS Ad W 1 (st' := (37, [vR 1, vI x1, vI x2, some (.long (x1.toInt64)), none, some (.long (x2.toInt64)), none, some (.long ((f_endOff o).toInt64)), none], [.int (0:Int32)], (H1 s o e0))) rfl ?_
   obtain rfl := Option.some.inj h
   exact QTri.retZ rfl rfl
  ·refine zF Ad W (t := 36) (f := 32) rfl (XT.ll_gt_f hc180) ?_
   refine zS Ad W 2 (st' := (37, [vR 1, vI x1, vI x2, some (.long (x1.toInt64)), none, some (.long (x2.toInt64)), none, some (.long ((f_endOff o).toInt64)), none], [.int (1:Int32)], (H1 s o e0))) rfl ?_
   obtain rfl := Option.some.inj h
   exact QTri.retZ rfl rfl
 ·refine zT Ad W (t := 38) (f := 22) rfl (XT.ii_ne_t hc179) ?_
  refine zS Ad W 3 (st' := (43, [vR 1, vI x1, vI x2, some (.long (x1.toInt64)), none, some (.long (x2.toInt64)), none, some (.long ((f_endOff o).toInt64)), none], [.int (2:Int32), .int (f_endKind o)], (H1 s o e0))) rfl ?_
  rcases qite h with ⟨hc181, h⟩ | ⟨hc181, h⟩
  ·refine zF Ad W (t := 59) (f := 46) rfl (XT.ii_ne_f hc181) ?_
   refine zS Ad W 3 (st' := (50, [vR 1, vI x1, vI x2, some (.long (x1.toInt64)), none, some (.long (x2.toInt64)), none, some (.long ((f_endOff o).toInt64)), none], [.int (XT.cmpL (x2.toInt64) (x1.toInt64))], (H1 s o e0))) rfl ?_
   rcases qite h with ⟨hc182, h⟩ | ⟨hc182, h⟩
   ·refine zT Ad W (t := 57) (f := 53) rfl (XT.ll_gt_t hc182) ?_
    refine zS Ad W 1 (st' := (58, [vR 1, vI x1, vI x2, some (.long (x1.toInt64)), none, some (.long (x2.toInt64)), none, some (.long ((f_endOff o).toInt64)), none], [.int (0:Int32)], (H1 s o e0))) rfl ?_
    obtain rfl := Option.some.inj h
    exact QTri.retZ rfl rfl
   ·refine zF Ad W (t := 57) (f := 53) rfl (XT.ll_gt_f hc182) ?_
    refine zS Ad W 2 (st' := (58, [vR 1, vI x1, vI x2, some (.long (x1.toInt64)), none, some (.long (x2.toInt64)), none, some (.long ((f_endOff o).toInt64)), none], [.int (1:Int32)], (H1 s o e0))) rfl ?_
    obtain rfl := Option.some.inj h
    exact QTri.retZ rfl rfl
  ·refine zT Ad W (t := 59) (f := 46) rfl (XT.ii_ne_t hc181) ?_
   refine zS Ad W 3 (st' := (64, [vR 1, vI x1, vI x2, some (.long (x1.toInt64)), none, some (.long (x2.toInt64)), none, some (.long ((f_endOff o).toInt64)), none], [.int (3:Int32), .int (f_endKind o)], (H1 s o e0))) rfl ?_
   rcases qite h with ⟨hc183, h⟩ | ⟨hc183, h⟩
   ·refine zF Ad W (t := 83) (f := 67) rfl (XT.ii_ne_f hc183) ?_
    refine zS Ad W 5 (st' := (74, [vR 1, vI x1, vI x2, some (.long (x1.toInt64)), none, some (.long (x2.toInt64)), none, some (.long ((f_endOff o).toInt64)), none], [.int (XT.cmpL (x2.toInt64) ((x1.toInt64) + ((f_endOff o).toInt64)))], (H1 s o e0))) rfl ?_
    rcases qite h with ⟨hc184, h⟩ | ⟨hc184, h⟩
    ·refine zT Ad W (t := 81) (f := 77) rfl (XT.ll_gt_t hc184) ?_
     refine zS Ad W 1 (st' := (82, [vR 1, vI x1, vI x2, some (.long (x1.toInt64)), none, some (.long (x2.toInt64)), none, some (.long ((f_endOff o).toInt64)), none], [.int (0:Int32)], (H1 s o e0))) rfl ?_
     obtain rfl := Option.some.inj h
     exact QTri.retZ rfl rfl
    ·refine zF Ad W (t := 81) (f := 77) rfl (XT.ll_gt_f hc184) ?_
     refine zS Ad W 2 (st' := (82, [vR 1, vI x1, vI x2, some (.long (x1.toInt64)), none, some (.long (x2.toInt64)), none, some (.long ((f_endOff o).toInt64)), none], [.int (1:Int32)], (H1 s o e0))) rfl ?_
     obtain rfl := Option.some.inj h
     exact QTri.retZ rfl rfl
   ·refine zT Ad W (t := 83) (f := 67) rfl (XT.ii_ne_t hc183) ?_
    refine zS Ad W 1 (st' := (84, [vR 1, vI x1, vI x2, some (.long (x1.toInt64)), none, some (.long (x2.toInt64)), none, some (.long ((f_endOff o).toInt64)), none], [.int (1:Int32)], (H1 s o e0))) rfl ?_
    obtain rfl := Option.some.inj h
    exact QTri.retZ rfl rfl
def J27_33 (o : Ob) (x1 : Int32) (x2 : Int32) (x3 : Int32) (x4 : Int32) : Option (Int32) :=
  (if x3 = (0 : Int32) then (if x4 = (0 : Int32) then (aget (f_keys o) x1).bind fun y195 => (aget (f_keys o) x2).bind fun y196 => (if y195 = y196 then some (1 : Int32) else some (0 : Int32)) else some (0 : Int32)) else some (0 : Int32))
theorem tJ27_33 (Ad : QAd n0 ad) (W : QW Z a0) (s : List Int32) (e0 : Ob) (o : Ob) (x1 : Int32) (x2 : Int32) (x3 : Int32) (x4 : Int32) {r : Int32} (h : J27_33 o x1 x2 x3 x4 = some r) : QTri l Z n0 ad 27 (33, [vR 1, vI x1, vI x2, vI x3, vI x4], [], (H1 s o e0)) (some (Value.int r)) (H1 s o e0) := by
 unfold J27_33 at h
 refine zS Ad W 1 (st' := (34, [vR 1, vI x1, vI x2, vI x3, vI x4], [.int x3], (H1 s o e0))) rfl ?_
 rcases qite h with ⟨hc193, h⟩ | ⟨hc193, h⟩
 ·refine zF Ad W (t := 42) (f := 37) rfl (XT.i0_ne_f hc193) ?_
  refine zS Ad W 1 (st' := (39, [vR 1, vI x1, vI x2, vI x3, vI x4], [.int x4], (H1 s o e0))) rfl ?_
  rcases qite h with ⟨hc194, h⟩ | ⟨hc194, h⟩
  ·refine zT Ad W (t := 44) (f := 42) rfl (XT.i0_eq_t hc194) ?_
   refine zS Ad W 3 (st' := (49, [vR 1, vI x1, vI x2, vI x3, vI x4], [.int x1, .ref 3], (H1 s o e0))) rfl ?_
   obtain ⟨y195, hy195, h⟩ := bind_eq_some_iff.mp h
   refine zB Ad W (f := fun y195 => (50, [vR 1, vI x1, vI x2, vI x3, vI x4], [.int y195], (H1 s o e0))) rfl hy195 ?_
   refine zS Ad W 3 (st' := (55, [vR 1, vI x1, vI x2, vI x3, vI x4], [.int x2, .ref 3, .int y195], (H1 s o e0))) rfl ?_
   obtain ⟨y196, hy196, h⟩ := bind_eq_some_iff.mp h
   refine zB Ad W (f := fun y196 => (56, [vR 1, vI x1, vI x2, vI x3, vI x4], [.int y196, .int y195], (H1 s o e0))) rfl hy196 ?_
   rcases qite h with ⟨hc197, h⟩ | ⟨hc197, h⟩
   ·refine zF Ad W (t := 63) (f := 59) rfl (XT.ii_ne_f hc197) ?_
    refine zS Ad W 2 (st' := (64, [vR 1, vI x1, vI x2, vI x3, vI x4], [.int (1:Int32)], (H1 s o e0))) rfl ?_
    obtain rfl := Option.some.inj h
    exact QTri.retZ rfl rfl
   ·refine zT Ad W (t := 63) (f := 59) rfl (XT.ii_ne_t hc197) ?_
    refine zS Ad W 1 (st' := (64, [vR 1, vI x1, vI x2, vI x3, vI x4], [.int (0:Int32)], (H1 s o e0))) rfl ?_
    obtain rfl := Option.some.inj h
    exact QTri.retZ rfl rfl
  ·refine zF Ad W (t := 44) (f := 42) rfl (XT.i0_eq_f hc194) ?_
   refine zS Ad W 1 (st' := (43, [vR 1, vI x1, vI x2, vI x3, vI x4], [.int (0:Int32)], (H1 s o e0))) rfl ?_
   obtain rfl := Option.some.inj h
   exact QTri.retZ rfl rfl
 ·refine zT Ad W (t := 42) (f := 37) rfl (XT.i0_ne_t hc193) ?_
  refine zS Ad W 1 (st' := (43, [vR 1, vI x1, vI x2, vI x3, vI x4], [.int (0:Int32)], (H1 s o e0))) rfl ?_
  obtain rfl := Option.some.inj h
  exact QTri.retZ rfl rfl
/-- peer(II)Z -/
def F27 (o : Ob) (x1 : Int32) (x2 : Int32) : Option (Int32) :=
 (if (f_direction o) = (0:Int32) then some (1:Int32) else (F28 o x1).bind fun r190 => (F28 o x2).bind fun r191 => (if r190 = (0:Int32) then (J27_33 o x1 x2 r190 r191) else (if r191 = (0:Int32) then (J27_33 o x1 x2 r190 r191) else some (1:Int32))))
theorem tF27 (Ad : QAd n0 ad) (W : QW Z a0) (s : List Int32) (e0 : Ob) (o : Ob) (x1 : Int32) (x2 : Int32) {r : Int32} (h : F27 o x1 x2 = some r) : QTri l Z n0 ad 27 (0, qentry [.ref 1, .int x1, .int x2] (pMaxL 27), [], (H1 s o e0)) (some (Value.int r)) (H1 s o e0) := by
 unfold F27 at h
 refine zS Ad W 2 (st' := (4, [vR 1, vI x1, vI x2, none, none], [.int (f_direction o)], (H1 s o e0))) rfl ?_
 rcases qite h with ⟨hc189, h⟩ | ⟨hc189, h⟩
 ·refine zF Ad W (t := 9) (f := 7) rfl (XT.i0_ne_f hc189) ?_
  refine zS Ad W 1 (st' := (8, [vR 1, vI x1, vI x2, none, none], [.int (1:Int32)], (H1 s o e0))) rfl ?_
  obtain rfl := Option.some.inj h
  exact QTri.retZ rfl rfl
 ·refine zT Ad W (t := 9) (f := 7) rfl (XT.i0_ne_t hc189) ?_
  refine zS Ad W 2 (st' := (11, [vR 1, vI x1, vI x2, none, none], [.int x1, .ref 1], (H1 s o e0))) rfl ?_
  obtain ⟨r190, hr190, h⟩ := bind_eq_some_iff.mp h
  refine QTri.callP W (a := 1) (as := [.int x1]) (rest := []) (w := (some (.int r190))) (σ₁ := (H1 s o e0)) rfl rfl rfl rfl rfl rfl rfl rfl (tF28 Ad W s e0 o x1 hr190) ?_
  refine zS Ad W 3 (st' := (17, [vR 1, vI x1, vI x2, vI r190, none], [.int x2, .ref 1], (H1 s o e0))) rfl ?_
  obtain ⟨r191, hr191, h⟩ := bind_eq_some_iff.mp h
  refine QTri.callP W (a := 1) (as := [.int x2]) (rest := []) (w := (some (.int r191))) (σ₁ := (H1 s o e0)) rfl rfl rfl rfl rfl rfl rfl rfl (tF28 Ad W s e0 o x2 hr191) ?_
  refine zS Ad W 2 (st' := (23, [vR 1, vI x1, vI x2, vI r190, vI r191], [.int r190], (H1 s o e0))) rfl ?_
  rcases qite h with ⟨hc192, h⟩ | ⟨hc192, h⟩
  ·refine zT Ad W (t := 33) (f := 26) rfl (XT.i0_eq_t hc192) ?_
   exact zM [tt,tt,tt,tt,tt] (tJ27_33 Ad W s e0 o x1 x2 r190 r191 h)
  ·refine zF Ad W (t := 33) (f := 26) rfl (XT.i0_eq_f hc192) ?_
   refine zS Ad W 1 (st' := (28, [vR 1, vI x1, vI x2, vI r190, vI r191], [.int r191], (H1 s o e0))) rfl ?_
   rcases qite h with ⟨hc198, h⟩ | ⟨hc198, h⟩
   ·refine zT Ad W (t := 33) (f := 31) rfl (XT.i0_eq_t hc198) ?_
    exact zM [tt,tt,tt,tt,tt] (tJ27_33 Ad W s e0 o x1 x2 r190 r191 h)
   ·refine zF Ad W (t := 33) (f := 31) rfl (XT.i0_eq_f hc198) ?_
    refine zS Ad W 1 (st' := (32, [vR 1, vI x1, vI x2, vI r190, vI r191], [.int (1:Int32)], (H1 s o e0))) rfl ?_
    obtain rfl := Option.some.inj h
    exact QTri.retZ rfl rfl
/-- distance(II)J -/
def F37 (o : Ob) (x1 : Int32) (x2 : Int32) : Option (Int64) :=
 (if (f_direction o) = (1:Int32) then (aget (f_keys o) x2).bind fun y210 => (aget (f_keys o) x1).bind fun y211 => some ((y210.toInt64) - (y211.toInt64)) else (if (f_direction o) = (2:Int32) then (aget (f_keys o) x1).bind fun y213 => (aget (f_keys o) x2).bind fun y214 => some ((y213.toInt64) - (y214.toInt64)) else some (0 : Int64)))
theorem tF37 (Ad : QAd n0 ad) (W : QW Z a0) (s : List Int32) (e0 : Ob) (o : Ob) (x1 : Int32) (x2 : Int32) {r : Int64} (h : F37 o x1 x2 = some r) : QTri l Z n0 ad 37 (0, qentry [.ref 1, .int x1, .int x2] (pMaxL 37), [], (H1 s o e0)) (some (Value.long r)) (H1 s o e0) := by
 unfold F37 at h
 refine zS Ad W 3 (st' := (5, [vR 1, vI x1, vI x2], [.int (1:Int32), .int (f_direction o)], (H1 s o e0))) rfl ?_
 rcases qite h with ⟨hc209, h⟩ | ⟨hc209, h⟩
 ·refine zF Ad W (t := 24) (f := 8) rfl (XT.ii_ne_f hc209) ?_
  refine zS Ad W 3 (st' := (13, [vR 1, vI x1, vI x2], [.int x2, .ref 3], (H1 s o e0))) rfl ?_
  obtain ⟨y210, hy210, h⟩ := bind_eq_some_iff.mp h
  refine zB Ad W (f := fun y210 => (14, [vR 1, vI x1, vI x2], [.int y210], (H1 s o e0))) rfl hy210 ?_
  refine zS Ad W 4 (st' := (20, [vR 1, vI x1, vI x2], [.int x1, .ref 3, .long (y210.toInt64)], (H1 s o e0))) rfl ?_
  obtain ⟨y211, hy211, h⟩ := bind_eq_some_iff.mp h
  refine zB Ad W (f := fun y211 => (21, [vR 1, vI x1, vI x2], [.int y211, .long (y210.toInt64)], (H1 s o e0))) rfl hy211 ?_
  refine zS Ad W 2 (st' := (23, [vR 1, vI x1, vI x2], [.long ((y210.toInt64) - (y211.toInt64))], (H1 s o e0))) rfl ?_
  obtain rfl := Option.some.inj h
  exact QTri.retJ rfl rfl
 ·refine zT Ad W (t := 24) (f := 8) rfl (XT.ii_ne_t hc209) ?_
  refine zS Ad W 3 (st' := (29, [vR 1, vI x1, vI x2], [.int (2:Int32), .int (f_direction o)], (H1 s o e0))) rfl ?_
  rcases qite h with ⟨hc212, h⟩ | ⟨hc212, h⟩
  ·refine zF Ad W (t := 48) (f := 32) rfl (XT.ii_ne_f hc212) ?_
   refine zS Ad W 3 (st' := (37, [vR 1, vI x1, vI x2], [.int x1, .ref 3], (H1 s o e0))) rfl ?_
   obtain ⟨y213, hy213, h⟩ := bind_eq_some_iff.mp h
   refine zB Ad W (f := fun y213 => (38, [vR 1, vI x1, vI x2], [.int y213], (H1 s o e0))) rfl hy213 ?_
   refine zS Ad W 4 (st' := (44, [vR 1, vI x1, vI x2], [.int x2, .ref 3, .long (y213.toInt64)], (H1 s o e0))) rfl ?_
   obtain ⟨y214, hy214, h⟩ := bind_eq_some_iff.mp h
   refine zB Ad W (f := fun y214 => (45, [vR 1, vI x1, vI x2], [.int y214, .long (y213.toInt64)], (H1 s o e0))) rfl hy214 ?_
   refine zS Ad W 2 (st' := (47, [vR 1, vI x1, vI x2], [.long ((y213.toInt64) - (y214.toInt64))], (H1 s o e0))) rfl ?_
   obtain rfl := Option.some.inj h
   exact QTri.retJ rfl rfl
  ·refine zT Ad W (t := 48) (f := 32) rfl (XT.ii_ne_t hc212) ?_
   refine zS Ad W 1 (st' := (49, [vR 1, vI x1, vI x2], [.long (0 : Int64)], (H1 s o e0))) rfl ?_
   obtain rfl := Option.some.inj h
   exact QTri.retJ rfl rfl
/-- rangeStartHolds(IIII)Z -/
def F25 (o : Ob) (x1 : Int32) (x2 : Int32) (x3 : Int32) (x4 : Int32) : Option (Int32) :=
 (if (f_startKind o) = (0:Int32) then some (1:Int32) else (if (f_startKind o) = (4:Int32) then some (1:Int32) else (F27 o x1 x2).bind fun r199 => (if (f_startKind o) = (2:Int32) then some ((if r199 = (0:Int32) then (if x3 < x4 then (1:Int32) else (0:Int32)) else (1:Int32)) &&& 1) else (F28 o x1).bind fun r205 => (if r205 = (0:Int32) then (F28 o x2).bind fun r207 => (if r207 = (0:Int32) then (F37 o x1 x2).bind fun r215 => (if (f_startKind o) = (1:Int32) then (if r215 < (-((f_startOff o).toInt64)) then some (0:Int32) else some (1:Int32)) else (if r215 < ((f_startOff o).toInt64) then some (0:Int32) else some (1:Int32))) else (if (f_nulls o) = (1:Int32) then some (1:Int32) else some (0:Int32))) else some ((if r199 = (0:Int32) then (if x3 < x4 then (1:Int32) else (0:Int32)) else (1:Int32)) &&& 1)))))
theorem tF25 (Ad : QAd n0 ad) (W : QW Z a0) (s : List Int32) (e0 : Ob) (o : Ob) (x1 : Int32) (x2 : Int32) (x3 : Int32) (x4 : Int32) {r : Int32} (h : F25 o x1 x2 x3 x4 = some r) : QTri l Z n0 ad 25 (0, qentry [.ref 1, .int x1, .int x2, .int x3, .int x4] (pMaxL 25), [], (H1 s o e0)) (some (Value.int r)) (H1 s o e0) := by
 unfold F25 at h
 refine zS Ad W 2 (st' := (4, [vR 1, vI x1, vI x2, vI x3, vI x4, none, none, none, none, none], [.int (f_startKind o)], (H1 s o e0))) rfl ?_
 rcases qite h with ⟨hc187, h⟩ | ⟨hc187, h⟩
 ·refine zT Ad W (t := 15) (f := 7) rfl (XT.i0_eq_t hc187) ?_
  refine zS Ad W 1 (st' := (16, [vR 1, vI x1, vI x2, vI x3, vI x4, none, none, none, none, none], [.int (1:Int32)], (H1 s o e0))) rfl ?_
  obtain rfl := Option.some.inj h
  exact QTri.retZ rfl rfl
 ·refine zF Ad W (t := 15) (f := 7) rfl (XT.i0_eq_f hc187) ?_
  refine zS Ad W 3 (st' := (12, [vR 1, vI x1, vI x2, vI x3, vI x4, none, none, none, none, none], [.int (4:Int32), .int (f_startKind o)], (H1 s o e0))) rfl ?_
  rcases qite h with ⟨hc188, h⟩ | ⟨hc188, h⟩
  ·refine zF Ad W (t := 17) (f := 15) rfl (XT.ii_ne_f hc188) ?_
   refine zS Ad W 1 (st' := (16, [vR 1, vI x1, vI x2, vI x3, vI x4, none, none, none, none, none], [.int (1:Int32)], (H1 s o e0))) rfl ?_
   obtain rfl := Option.some.inj h
   exact QTri.retZ rfl rfl
  ·refine zT Ad W (t := 17) (f := 15) rfl (XT.ii_ne_t hc188) ?_
   refine zS Ad W 3 (st' := (20, [vR 1, vI x1, vI x2, vI x3, vI x4, none, none, none, none, none], [.int x2, .int x1, .ref 1], (H1 s o e0))) rfl ?_
   obtain ⟨r199, hr199, h⟩ := bind_eq_some_iff.mp h
   refine QTri.callP W (a := 1) (as := [.int x1, .int x2]) (rest := []) (w := (some (.int r199))) (σ₁ := (H1 s o e0)) rfl rfl rfl rfl rfl rfl rfl rfl (tF27 Ad W s e0 o x1 x2 hr199) ?_
   have K201 : ∀ z200 : Int32, z200 = (if r199 = (0:Int32) then (if x3 < x4 then (1:Int32) else (0:Int32)) else (1:Int32)) → QTri l Z n0 ad 25 (37, [vR 1, vI x1, vI x2, none, none, none, none, none, none, none], [.int z200], (H1 s o e0)) (some (Value.int r)) (H1 s o e0) := by
    intro z200 ez200
    subst ez200
    refine zS Ad W 4 (st' := (44, [vR 1, vI x1, vI x2, none, none, vI (if r199 = (0:Int32) then (if x3 < x4 then (1:Int32) else (0:Int32)) else (1:Int32)), none, none, none, none], [.int (2:Int32), .int (f_startKind o)], (H1 s o e0))) rfl ?_
    rcases qite h with ⟨hc204, h⟩ | ⟨hc204, h⟩
    ·refine zT Ad W (t := 55) (f := 47) rfl (XT.ii_eq_t hc204) ?_
     refine zS Ad W 1 (st' := (57, [vR 1, vI x1, vI x2, none, none, vI (if r199 = (0:Int32) then (if x3 < x4 then (1:Int32) else (0:Int32)) else (1:Int32)), none, none, none, none], [.int (if r199 = (0:Int32) then (if x3 < x4 then (1:Int32) else (0:Int32)) else (1:Int32))], (H1 s o e0))) rfl ?_
     obtain rfl := Option.some.inj h
     exact QTri.retZ rfl rfl
    ·refine zF Ad W (t := 55) (f := 47) rfl (XT.ii_eq_f hc204) ?_
     refine zS Ad W 2 (st' := (49, [vR 1, vI x1, vI x2, none, none, vI (if r199 = (0:Int32) then (if x3 < x4 then (1:Int32) else (0:Int32)) else (1:Int32)), none, none, none, none], [.int x1, .ref 1], (H1 s o e0))) rfl ?_
     obtain ⟨r205, hr205, h⟩ := bind_eq_some_iff.mp h
     refine QTri.callP W (a := 1) (as := [.int x1]) (rest := []) (w := (some (.int r205))) (σ₁ := (H1 s o e0)) rfl rfl rfl rfl rfl rfl rfl rfl (tF28 Ad W s e0 o x1 hr205) ?_
     rcases qite h with ⟨hc206, h⟩ | ⟨hc206, h⟩
     ·refine zT Ad W (t := 58) (f := 55) rfl (XT.i0_eq_t hc206) ?_
      refine zS Ad W 2 (st' := (60, [vR 1, vI x1, vI x2, none, none, vI (if r199 = (0:Int32) then (if x3 < x4 then (1:Int32) else (0:Int32)) else (1:Int32)), none, none, none, none], [.int x2, .ref 1], (H1 s o e0))) rfl ?_
      obtain ⟨r207, hr207, h⟩ := bind_eq_some_iff.mp h
      refine QTri.callP W (a := 1) (as := [.int x2]) (rest := []) (w := (some (.int r207))) (σ₁ := (H1 s o e0)) rfl rfl rfl rfl rfl rfl rfl rfl (tF28 Ad W s e0 o x2 hr207) ?_
      rcases qite h with ⟨hc208, h⟩ | ⟨hc208, h⟩
      ·refine zT Ad W (t := 80) (f := 66) rfl (XT.i0_eq_t hc208) ?_
       refine zS Ad W 3 (st' := (83, [vR 1, vI x1, vI x2, none, none, vI (if r199 = (0:Int32) then (if x3 < x4 then (1:Int32) else (0:Int32)) else (1:Int32)), none, none, none, none], [.int x2, .int x1, .ref 1], (H1 s o e0))) rfl ?_
       obtain ⟨r215, hr215, h⟩ := bind_eq_some_iff.mp h
       refine QTri.callP W (a := 1) (as := [.int x1, .int x2]) (rest := []) (w := (some (.long r215))) (σ₁ := (H1 s o e0)) rfl rfl rfl rfl rfl rfl rfl rfl (tF37 Ad W s e0 o x1 x2 hr215) ?_
       refine zS Ad W 5 (st' := (95, [vR 1, vI x1, vI x2, none, none, vI (if r199 = (0:Int32) then (if x3 < x4 then (1:Int32) else (0:Int32)) else (1:Int32)), some (.long r215), none, some (.long ((f_startOff o).toInt64)), none], [], (H1 s o e0))) rfl ?_
       refine zS Ad W 3 (st' := (100, [vR 1, vI x1, vI x2, none, none, vI (if r199 = (0:Int32) then (if x3 < x4 then (1:Int32) else (0:Int32)) else (1:Int32)), some (.long r215), none, some (.long ((f_startOff o).toInt64)), none], [.int (1:Int32), .int (f_startKind o)], (H1 s o e0))) rfl ?_
       rcases qite h with ⟨hc216, h⟩ | ⟨hc216, h⟩
       ·refine zF Ad W (t := 118) (f := 103) rfl (XT.ii_ne_f hc216) ?_
        refine zS Ad W 4 (st' := (109, [vR 1, vI x1, vI x2, none, none, vI (if r199 = (0:Int32) then (if x3 < x4 then (1:Int32) else (0:Int32)) else (1:Int32)), some (.long r215), none, some (.long ((f_startOff o).toInt64)), none], [.int (XT.cmpL r215 (-((f_startOff o).toInt64)))], (H1 s o e0))) rfl ?_
        rcases qite h with ⟨hc217, h⟩ | ⟨hc217, h⟩
        ·refine zT Ad W (t := 116) (f := 112) rfl (XT.ll_lt_t hc217) ?_
         refine zS Ad W 1 (st' := (117, [vR 1, vI x1, vI x2, none, none, vI (if r199 = (0:Int32) then (if x3 < x4 then (1:Int32) else (0:Int32)) else (1:Int32)), some (.long r215), none, some (.long ((f_startOff o).toInt64)), none], [.int (0:Int32)], (H1 s o e0))) rfl ?_
         obtain rfl := Option.some.inj h
         exact QTri.retZ rfl rfl
        ·refine zF Ad W (t := 116) (f := 112) rfl (XT.ll_lt_f hc217) ?_
         refine zS Ad W 2 (st' := (117, [vR 1, vI x1, vI x2, none, none, vI (if r199 = (0:Int32) then (if x3 < x4 then (1:Int32) else (0:Int32)) else (1:Int32)), some (.long r215), none, some (.long ((f_startOff o).toInt64)), none], [.int (1:Int32)], (H1 s o e0))) rfl ?_
         obtain rfl := Option.some.inj h
         exact QTri.retZ rfl rfl
       ·refine zT Ad W (t := 118) (f := 103) rfl (XT.ii_ne_t hc216) ?_
        refine zS Ad W 3 (st' := (123, [vR 1, vI x1, vI x2, none, none, vI (if r199 = (0:Int32) then (if x3 < x4 then (1:Int32) else (0:Int32)) else (1:Int32)), some (.long r215), none, some (.long ((f_startOff o).toInt64)), none], [.int (XT.cmpL r215 ((f_startOff o).toInt64))], (H1 s o e0))) rfl ?_
        rcases qite h with ⟨hc218, h⟩ | ⟨hc218, h⟩
        ·refine zT Ad W (t := 130) (f := 126) rfl (XT.ll_lt_t hc218) ?_
         refine zS Ad W 1 (st' := (131, [vR 1, vI x1, vI x2, none, none, vI (if r199 = (0:Int32) then (if x3 < x4 then (1:Int32) else (0:Int32)) else (1:Int32)), some (.long r215), none, some (.long ((f_startOff o).toInt64)), none], [.int (0:Int32)], (H1 s o e0))) rfl ?_
         obtain rfl := Option.some.inj h
         exact QTri.retZ rfl rfl
        ·refine zF Ad W (t := 130) (f := 126) rfl (XT.ll_lt_f hc218) ?_
         refine zS Ad W 2 (st' := (131, [vR 1, vI x1, vI x2, none, none, vI (if r199 = (0:Int32) then (if x3 < x4 then (1:Int32) else (0:Int32)) else (1:Int32)), some (.long r215), none, some (.long ((f_startOff o).toInt64)), none], [.int (1:Int32)], (H1 s o e0))) rfl ?_
         obtain rfl := Option.some.inj h
         exact QTri.retZ rfl rfl
      ·refine zF Ad W (t := 80) (f := 66) rfl (XT.i0_eq_f hc208) ?_
       refine zS Ad W 3 (st' := (71, [vR 1, vI x1, vI x2, none, none, vI (if r199 = (0:Int32) then (if x3 < x4 then (1:Int32) else (0:Int32)) else (1:Int32)), none, none, none, none], [.int (1:Int32), .int (f_nulls o)], (H1 s o e0))) rfl ?_
       rcases qite h with ⟨hc219, h⟩ | ⟨hc219, h⟩
       ·refine zF Ad W (t := 78) (f := 74) rfl (XT.ii_ne_f hc219) ?_
        refine zS Ad W 2 (st' := (79, [vR 1, vI x1, vI x2, none, none, vI (if r199 = (0:Int32) then (if x3 < x4 then (1:Int32) else (0:Int32)) else (1:Int32)), none, none, none, none], [.int (1:Int32)], (H1 s o e0))) rfl ?_
        obtain rfl := Option.some.inj h
        exact QTri.retZ rfl rfl
       ·refine zT Ad W (t := 78) (f := 74) rfl (XT.ii_ne_t hc219) ?_
        refine zS Ad W 1 (st' := (79, [vR 1, vI x1, vI x2, none, none, vI (if r199 = (0:Int32) then (if x3 < x4 then (1:Int32) else (0:Int32)) else (1:Int32)), none, none, none, none], [.int (0:Int32)], (H1 s o e0))) rfl ?_
        obtain rfl := Option.some.inj h
        exact QTri.retZ rfl rfl
     ·refine zF Ad W (t := 58) (f := 55) rfl (XT.i0_eq_f hc206) ?_
      refine zS Ad W 1 (st' := (57, [vR 1, vI x1, vI x2, none, none, vI (if r199 = (0:Int32) then (if x3 < x4 then (1:Int32) else (0:Int32)) else (1:Int32)), none, none, none, none], [.int (if r199 = (0:Int32) then (if x3 < x4 then (1:Int32) else (0:Int32)) else (1:Int32))], (H1 s o e0))) rfl ?_
      obtain rfl := Option.some.inj h
      exact QTri.retZ rfl rfl
   rcases em (r199 = (0:Int32)) with hc202 | hc202
   ·refine zF Ad W (t := 32) (f := 26) rfl (XT.i0_ne_f hc202) ?_
    refine zS Ad W 2 (st' := (29, [vR 1, vI x1, vI x2, vI x3, vI x4, none, none, none, none, none], [.int x3, .int x4], (H1 s o e0))) rfl ?_
    rcases em (x3 < x4) with hc203 | hc203
    ·refine zF Ad W (t := 36) (f := 32) rfl (XT.ii_le_f hc203) ?_
     refine zS Ad W 2 (st' := (37, [vR 1, vI x1, vI x2, vI x3, vI x4, none, none, none, none, none], [.int (1:Int32)], (H1 s o e0))) rfl ?_
     exact zM [tt,tt,tt,ff,ff,ff,ff,ff,ff,ff] (K201 _ ((if_pos hc202).trans (if_pos hc203)).symm)
    ·refine zT Ad W (t := 36) (f := 32) rfl (XT.ii_le_t hc203) ?_
     refine zS Ad W 1 (st' := (37, [vR 1, vI x1, vI x2, vI x3, vI x4, none, none, none, none, none], [.int (0:Int32)], (H1 s o e0))) rfl ?_
     exact zM [tt,tt,tt,ff,ff,ff,ff,ff,ff,ff] (K201 _ ((if_pos hc202).trans (if_neg hc203)).symm)
   ·refine zT Ad W (t := 32) (f := 26) rfl (XT.i0_ne_t hc202) ?_
    refine zS Ad W 2 (st' := (37, [vR 1, vI x1, vI x2, vI x3, vI x4, none, none, none, none, none], [.int (1:Int32)], (H1 s o e0))) rfl ?_
    exact zM [tt,tt,tt,ff,ff,ff,ff,ff,ff,ff] (K201 _ (if_neg hc202).symm)
/-- rangeEndHolds(IIII)Z -/
def F26 (o : Ob) (x1 : Int32) (x2 : Int32) (x3 : Int32) (x4 : Int32) : Option (Int32) :=
 (if (f_endKind o) = (4:Int32) then some (1:Int32) else (if (f_endKind o) = (0:Int32) then some (1:Int32) else (F27 o x1 x2).bind fun r224 => (if (f_endKind o) = (2:Int32) then some ((if r224 = (0:Int32) then (if x4 < x3 then (1:Int32) else (0:Int32)) else (1:Int32)) &&& 1) else (F28 o x1).bind fun r230 => (if r230 = (0:Int32) then (F28 o x2).bind fun r232 => (if r232 = (0:Int32) then (F37 o x1 x2).bind fun r234 => (if (f_endKind o) = (1:Int32) then (if (-((f_endOff o).toInt64)) < r234 then some (0:Int32) else some (1:Int32)) else (if ((f_endOff o).toInt64) < r234 then some (0:Int32) else some (1:Int32))) else (if (f_nulls o) = (0:Int32) then some (1:Int32) else some (0:Int32))) else some ((if r224 = (0:Int32) then (if x4 < x3 then (1:Int32) else (0:Int32)) else (1:Int32)) &&& 1)))))
theorem tF26 (Ad : QAd n0 ad) (W : QW Z a0) (s : List Int32) (e0 : Ob) (o : Ob) (x1 : Int32) (x2 : Int32) (x3 : Int32) (x4 : Int32) {r : Int32} (h : F26 o x1 x2 x3 x4 = some r) : QTri l Z n0 ad 26 (0, qentry [.ref 1, .int x1, .int x2, .int x3, .int x4] (pMaxL 26), [], (H1 s o e0)) (some (Value.int r)) (H1 s o e0) := by
 unfold F26 at h
 refine zS Ad W 3 (st' := (5, [vR 1, vI x1, vI x2, vI x3, vI x4, none, none, none, none, none], [.int (4:Int32), .int (f_endKind o)], (H1 s o e0))) rfl ?_
 rcases qite h with ⟨hc222, h⟩ | ⟨hc222, h⟩
 ·refine zT Ad W (t := 15) (f := 8) rfl (XT.ii_eq_t hc222) ?_
  refine zS Ad W 1 (st' := (16, [vR 1, vI x1, vI x2, vI x3, vI x4, none, none, none, none, none], [.int (1:Int32)], (H1 s o e0))) rfl ?_
  obtain rfl := Option.some.inj h
  exact QTri.retZ rfl rfl
 ·refine zF Ad W (t := 15) (f := 8) rfl (XT.ii_eq_f hc222) ?_
  refine zS Ad W 2 (st' := (12, [vR 1, vI x1, vI x2, vI x3, vI x4, none, none, none, none, none], [.int (f_endKind o)], (H1 s o e0))) rfl ?_
  rcases qite h with ⟨hc223, h⟩ | ⟨hc223, h⟩
  ·refine zF Ad W (t := 17) (f := 15) rfl (XT.i0_ne_f hc223) ?_
   refine zS Ad W 1 (st' := (16, [vR 1, vI x1, vI x2, vI x3, vI x4, none, none, none, none, none], [.int (1:Int32)], (H1 s o e0))) rfl ?_
   obtain rfl := Option.some.inj h
   exact QTri.retZ rfl rfl
  ·refine zT Ad W (t := 17) (f := 15) rfl (XT.i0_ne_t hc223) ?_
   refine zS Ad W 3 (st' := (20, [vR 1, vI x1, vI x2, vI x3, vI x4, none, none, none, none, none], [.int x2, .int x1, .ref 1], (H1 s o e0))) rfl ?_
   obtain ⟨r224, hr224, h⟩ := bind_eq_some_iff.mp h
   refine QTri.callP W (a := 1) (as := [.int x1, .int x2]) (rest := []) (w := (some (.int r224))) (σ₁ := (H1 s o e0)) rfl rfl rfl rfl rfl rfl rfl rfl (tF27 Ad W s e0 o x1 x2 hr224) ?_
   have K226 : ∀ z225 : Int32, z225 = (if r224 = (0:Int32) then (if x4 < x3 then (1:Int32) else (0:Int32)) else (1:Int32)) → QTri l Z n0 ad 26 (37, [vR 1, vI x1, vI x2, none, none, none, none, none, none, none], [.int z225], (H1 s o e0)) (some (Value.int r)) (H1 s o e0) := by
    intro z225 ez225
    subst ez225
    refine zS Ad W 4 (st' := (44, [vR 1, vI x1, vI x2, none, none, vI (if r224 = (0:Int32) then (if x4 < x3 then (1:Int32) else (0:Int32)) else (1:Int32)), none, none, none, none], [.int (2:Int32), .int (f_endKind o)], (H1 s o e0))) rfl ?_
    rcases qite h with ⟨hc229, h⟩ | ⟨hc229, h⟩
    ·refine zT Ad W (t := 55) (f := 47) rfl (XT.ii_eq_t hc229) ?_
     refine zS Ad W 1 (st' := (57, [vR 1, vI x1, vI x2, none, none, vI (if r224 = (0:Int32) then (if x4 < x3 then (1:Int32) else (0:Int32)) else (1:Int32)), none, none, none, none], [.int (if r224 = (0:Int32) then (if x4 < x3 then (1:Int32) else (0:Int32)) else (1:Int32))], (H1 s o e0))) rfl ?_
     obtain rfl := Option.some.inj h
     exact QTri.retZ rfl rfl
    ·refine zF Ad W (t := 55) (f := 47) rfl (XT.ii_eq_f hc229) ?_
     refine zS Ad W 2 (st' := (49, [vR 1, vI x1, vI x2, none, none, vI (if r224 = (0:Int32) then (if x4 < x3 then (1:Int32) else (0:Int32)) else (1:Int32)), none, none, none, none], [.int x1, .ref 1], (H1 s o e0))) rfl ?_
     obtain ⟨r230, hr230, h⟩ := bind_eq_some_iff.mp h
     refine QTri.callP W (a := 1) (as := [.int x1]) (rest := []) (w := (some (.int r230))) (σ₁ := (H1 s o e0)) rfl rfl rfl rfl rfl rfl rfl rfl (tF28 Ad W s e0 o x1 hr230) ?_
     rcases qite h with ⟨hc231, h⟩ | ⟨hc231, h⟩
     ·refine zT Ad W (t := 58) (f := 55) rfl (XT.i0_eq_t hc231) ?_
      refine zS Ad W 2 (st' := (60, [vR 1, vI x1, vI x2, none, none, vI (if r224 = (0:Int32) then (if x4 < x3 then (1:Int32) else (0:Int32)) else (1:Int32)), none, none, none, none], [.int x2, .ref 1], (H1 s o e0))) rfl ?_
      obtain ⟨r232, hr232, h⟩ := bind_eq_some_iff.mp h
      refine QTri.callP W (a := 1) (as := [.int x2]) (rest := []) (w := (some (.int r232))) (σ₁ := (H1 s o e0)) rfl rfl rfl rfl rfl rfl rfl rfl (tF28 Ad W s e0 o x2 hr232) ?_
      rcases qite h with ⟨hc233, h⟩ | ⟨hc233, h⟩
      ·refine zT Ad W (t := 79) (f := 66) rfl (XT.i0_eq_t hc233) ?_
       refine zS Ad W 3 (st' := (82, [vR 1, vI x1, vI x2, none, none, vI (if r224 = (0:Int32) then (if x4 < x3 then (1:Int32) else (0:Int32)) else (1:Int32)), none, none, none, none], [.int x2, .int x1, .ref 1], (H1 s o e0))) rfl ?_
       obtain ⟨r234, hr234, h⟩ := bind_eq_some_iff.mp h
       refine QTri.callP W (a := 1) (as := [.int x1, .int x2]) (rest := []) (w := (some (.long r234))) (σ₁ := (H1 s o e0)) rfl rfl rfl rfl rfl rfl rfl rfl (tF37 Ad W s e0 o x1 x2 hr234) ?_
       refine zS Ad W 5 (st' := (94, [vR 1, vI x1, vI x2, none, none, vI (if r224 = (0:Int32) then (if x4 < x3 then (1:Int32) else (0:Int32)) else (1:Int32)), some (.long r234), none, some (.long ((f_endOff o).toInt64)), none], [], (H1 s o e0))) rfl ?_
       refine zS Ad W 3 (st' := (99, [vR 1, vI x1, vI x2, none, none, vI (if r224 = (0:Int32) then (if x4 < x3 then (1:Int32) else (0:Int32)) else (1:Int32)), some (.long r234), none, some (.long ((f_endOff o).toInt64)), none], [.int (1:Int32), .int (f_endKind o)], (H1 s o e0))) rfl ?_
       rcases qite h with ⟨hc235, h⟩ | ⟨hc235, h⟩
       ·refine zF Ad W (t := 117) (f := 102) rfl (XT.ii_ne_f hc235) ?_
        refine zS Ad W 4 (st' := (108, [vR 1, vI x1, vI x2, none, none, vI (if r224 = (0:Int32) then (if x4 < x3 then (1:Int32) else (0:Int32)) else (1:Int32)), some (.long r234), none, some (.long ((f_endOff o).toInt64)), none], [.int (XT.cmpL r234 (-((f_endOff o).toInt64)))], (H1 s o e0))) rfl ?_
        rcases qite h with ⟨hc236, h⟩ | ⟨hc236, h⟩
        ·refine zT Ad W (t := 115) (f := 111) rfl (XT.ll_gt_t hc236) ?_
         refine zS Ad W 1 (st' := (116, [vR 1, vI x1, vI x2, none, none, vI (if r224 = (0:Int32) then (if x4 < x3 then (1:Int32) else (0:Int32)) else (1:Int32)), some (.long r234), none, some (.long ((f_endOff o).toInt64)), none], [.int (0:Int32)], (H1 s o e0))) rfl ?_
         obtain rfl := Option.some.inj h
         exact QTri.retZ rfl rfl
        ·refine zF Ad W (t := 115) (f := 111) rfl (XT.ll_gt_f hc236) ?_
         refine zS Ad W 2 (st' := (116, [vR 1, vI x1, vI x2, none, none, vI (if r224 = (0:Int32) then (if x4 < x3 then (1:Int32) else (0:Int32)) else (1:Int32)), some (.long r234), none, some (.long ((f_endOff o).toInt64)), none], [.int (1:Int32)], (H1 s o e0))) rfl ?_
         obtain rfl := Option.some.inj h
         exact QTri.retZ rfl rfl
       ·refine zT Ad W (t := 117) (f := 102) rfl (XT.ii_ne_t hc235) ?_
        refine zS Ad W 3 (st' := (122, [vR 1, vI x1, vI x2, none, none, vI (if r224 = (0:Int32) then (if x4 < x3 then (1:Int32) else (0:Int32)) else (1:Int32)), some (.long r234), none, some (.long ((f_endOff o).toInt64)), none], [.int (XT.cmpL r234 ((f_endOff o).toInt64))], (H1 s o e0))) rfl ?_
        rcases qite h with ⟨hc237, h⟩ | ⟨hc237, h⟩
        ·refine zT Ad W (t := 129) (f := 125) rfl (XT.ll_gt_t hc237) ?_
         refine zS Ad W 1 (st' := (130, [vR 1, vI x1, vI x2, none, none, vI (if r224 = (0:Int32) then (if x4 < x3 then (1:Int32) else (0:Int32)) else (1:Int32)), some (.long r234), none, some (.long ((f_endOff o).toInt64)), none], [.int (0:Int32)], (H1 s o e0))) rfl ?_
         obtain rfl := Option.some.inj h
         exact QTri.retZ rfl rfl
        ·refine zF Ad W (t := 129) (f := 125) rfl (XT.ll_gt_f hc237) ?_
         refine zS Ad W 2 (st' := (130, [vR 1, vI x1, vI x2, none, none, vI (if r224 = (0:Int32) then (if x4 < x3 then (1:Int32) else (0:Int32)) else (1:Int32)), some (.long r234), none, some (.long ((f_endOff o).toInt64)), none], [.int (1:Int32)], (H1 s o e0))) rfl ?_
         obtain rfl := Option.some.inj h
         exact QTri.retZ rfl rfl
      ·refine zF Ad W (t := 79) (f := 66) rfl (XT.i0_eq_f hc233) ?_
       refine zS Ad W 2 (st' := (70, [vR 1, vI x1, vI x2, none, none, vI (if r224 = (0:Int32) then (if x4 < x3 then (1:Int32) else (0:Int32)) else (1:Int32)), none, none, none, none], [.int (f_nulls o)], (H1 s o e0))) rfl ?_
       rcases qite h with ⟨hc238, h⟩ | ⟨hc238, h⟩
       ·refine zF Ad W (t := 77) (f := 73) rfl (XT.i0_ne_f hc238) ?_
        refine zS Ad W 2 (st' := (78, [vR 1, vI x1, vI x2, none, none, vI (if r224 = (0:Int32) then (if x4 < x3 then (1:Int32) else (0:Int32)) else (1:Int32)), none, none, none, none], [.int (1:Int32)], (H1 s o e0))) rfl ?_
        obtain rfl := Option.some.inj h
        exact QTri.retZ rfl rfl
       ·refine zT Ad W (t := 77) (f := 73) rfl (XT.i0_ne_t hc238) ?_
        refine zS Ad W 1 (st' := (78, [vR 1, vI x1, vI x2, none, none, vI (if r224 = (0:Int32) then (if x4 < x3 then (1:Int32) else (0:Int32)) else (1:Int32)), none, none, none, none], [.int (0:Int32)], (H1 s o e0))) rfl ?_
        obtain rfl := Option.some.inj h
        exact QTri.retZ rfl rfl
     ·refine zF Ad W (t := 58) (f := 55) rfl (XT.i0_eq_f hc231) ?_
      refine zS Ad W 1 (st' := (57, [vR 1, vI x1, vI x2, none, none, vI (if r224 = (0:Int32) then (if x4 < x3 then (1:Int32) else (0:Int32)) else (1:Int32)), none, none, none, none], [.int (if r224 = (0:Int32) then (if x4 < x3 then (1:Int32) else (0:Int32)) else (1:Int32))], (H1 s o e0))) rfl ?_
      obtain rfl := Option.some.inj h
      exact QTri.retZ rfl rfl
   rcases em (r224 = (0:Int32)) with hc227 | hc227
   ·refine zF Ad W (t := 32) (f := 26) rfl (XT.i0_ne_f hc227) ?_
    refine zS Ad W 2 (st' := (29, [vR 1, vI x1, vI x2, vI x3, vI x4, none, none, none, none, none], [.int x3, .int x4], (H1 s o e0))) rfl ?_
    rcases em (x4 < x3) with hc228 | hc228
    ·refine zF Ad W (t := 36) (f := 32) rfl (XT.ii_ge_f hc228) ?_
     refine zS Ad W 2 (st' := (37, [vR 1, vI x1, vI x2, vI x3, vI x4, none, none, none, none, none], [.int (1:Int32)], (H1 s o e0))) rfl ?_
     exact zM [tt,tt,tt,ff,ff,ff,ff,ff,ff,ff] (K226 _ ((if_pos hc227).trans (if_pos hc228)).symm)
    ·refine zT Ad W (t := 36) (f := 32) rfl (XT.ii_ge_t hc228) ?_
     refine zS Ad W 1 (st' := (37, [vR 1, vI x1, vI x2, vI x3, vI x4, none, none, none, none, none], [.int (0:Int32)], (H1 s o e0))) rfl ?_
     exact zM [tt,tt,tt,ff,ff,ff,ff,ff,ff,ff] (K226 _ ((if_pos hc227).trans (if_neg hc228)).symm)
   ·refine zT Ad W (t := 32) (f := 26) rfl (XT.i0_ne_t hc227) ?_
    refine zS Ad W 2 (st' := (37, [vR 1, vI x1, vI x2, vI x3, vI x4, none, none, none, none, none], [.int (1:Int32)], (H1 s o e0))) rfl ?_
    exact zM [tt,tt,tt,ff,ff,ff,ff,ff,ff,ff] (K226 _ (if_neg hc227).symm)
/-- inFrame(IIII)Z -/
def F24 (o : Ob) (x1 : Int32) (x2 : Int32) (x3 : Int32) (x4 : Int32) : Option (Int32) :=
 (if (f_mode o) = (0:Int32) then (F34 o x3 x4).bind fun r177 => (if r177 = (0:Int32) then some (0:Int32) else (F35 o x3 x4).bind fun r185 => (if r185 = (0:Int32) then some (0:Int32) else some (1:Int32))) else (F25 o x1 x2 x3 x4).bind fun r220 => (if r220 = (0:Int32) then some (0:Int32) else (F26 o x1 x2 x3 x4).bind fun r239 => (if r239 = (0:Int32) then some (0:Int32) else some (1:Int32))))
theorem tF24 (Ad : QAd n0 ad) (W : QW Z a0) (s : List Int32) (e0 : Ob) (o : Ob) (x1 : Int32) (x2 : Int32) (x3 : Int32) (x4 : Int32) {r : Int32} (h : F24 o x1 x2 x3 x4 = some r) : QTri l Z n0 ad 24 (0, qentry [.ref 1, .int x1, .int x2, .int x3, .int x4] (pMaxL 24), [], (H1 s o e0)) (some (Value.int r)) (H1 s o e0) := by
 unfold F24 at h
 refine zS Ad W 2 (st' := (4, [vR 1, vI x1, vI x2, vI x3, vI x4], [.int (f_mode o)], (H1 s o e0))) rfl ?_
 rcases qite h with ⟨hc170, h⟩ | ⟨hc170, h⟩
 ·refine zF Ad W (t := 33) (f := 7) rfl (XT.i0_ne_f hc170) ?_
  refine zS Ad W 3 (st' := (11, [vR 1, vI x1, vI x2, vI x3, vI x4], [.int x4, .int x3, .ref 1], (H1 s o e0))) rfl ?_
  obtain ⟨r177, hr177, h⟩ := bind_eq_some_iff.mp h
  refine QTri.callP W (a := 1) (as := [.int x3, .int x4]) (rest := []) (w := (some (.int r177))) (σ₁ := (H1 s o e0)) rfl rfl rfl rfl rfl rfl rfl rfl (tF34 Ad W s e0 o x3 x4 hr177) ?_
  rcases qite h with ⟨hc178, h⟩ | ⟨hc178, h⟩
  ·refine zT Ad W (t := 31) (f := 17) rfl (XT.i0_eq_t hc178) ?_
   refine zS Ad W 1 (st' := (32, [vR 1, vI x1, vI x2, vI x3, vI x4], [.int (0:Int32)], (H1 s o e0))) rfl ?_
   obtain rfl := Option.some.inj h
   exact QTri.retZ rfl rfl
  ·refine zF Ad W (t := 31) (f := 17) rfl (XT.i0_eq_f hc178) ?_
   refine zS Ad W 3 (st' := (21, [vR 1, vI x1, vI x2, vI x3, vI x4], [.int x4, .int x3, .ref 1], (H1 s o e0))) rfl ?_
   obtain ⟨r185, hr185, h⟩ := bind_eq_some_iff.mp h
   refine QTri.callP W (a := 1) (as := [.int x3, .int x4]) (rest := []) (w := (some (.int r185))) (σ₁ := (H1 s o e0)) rfl rfl rfl rfl rfl rfl rfl rfl (tF35 Ad W s e0 o x3 x4 hr185) ?_
   rcases qite h with ⟨hc186, h⟩ | ⟨hc186, h⟩
   ·refine zT Ad W (t := 31) (f := 27) rfl (XT.i0_eq_t hc186) ?_
    refine zS Ad W 1 (st' := (32, [vR 1, vI x1, vI x2, vI x3, vI x4], [.int (0:Int32)], (H1 s o e0))) rfl ?_
    obtain rfl := Option.some.inj h
    exact QTri.retZ rfl rfl
   ·refine zF Ad W (t := 31) (f := 27) rfl (XT.i0_eq_f hc186) ?_
    refine zS Ad W 2 (st' := (32, [vR 1, vI x1, vI x2, vI x3, vI x4], [.int (1:Int32)], (H1 s o e0))) rfl ?_
    obtain rfl := Option.some.inj h
    exact QTri.retZ rfl rfl
 ·refine zT Ad W (t := 33) (f := 7) rfl (XT.i0_ne_t hc170) ?_
  refine zS Ad W 5 (st' := (39, [vR 1, vI x1, vI x2, vI x3, vI x4], [.int x4, .int x3, .int x2, .int x1, .ref 1], (H1 s o e0))) rfl ?_
  obtain ⟨r220, hr220, h⟩ := bind_eq_some_iff.mp h
  refine QTri.callP W (a := 1) (as := [.int x1, .int x2, .int x3, .int x4]) (rest := []) (w := (some (.int r220))) (σ₁ := (H1 s o e0)) rfl rfl rfl rfl rfl rfl rfl rfl (tF25 Ad W s e0 o x1 x2 x3 x4 hr220) ?_
  rcases qite h with ⟨hc221, h⟩ | ⟨hc221, h⟩
  ·refine zT Ad W (t := 61) (f := 45) rfl (XT.i0_eq_t hc221) ?_
   refine zS Ad W 1 (st' := (62, [vR 1, vI x1, vI x2, vI x3, vI x4], [.int (0:Int32)], (H1 s o e0))) rfl ?_
   obtain rfl := Option.some.inj h
   exact QTri.retZ rfl rfl
  ·refine zF Ad W (t := 61) (f := 45) rfl (XT.i0_eq_f hc221) ?_
   refine zS Ad W 5 (st' := (51, [vR 1, vI x1, vI x2, vI x3, vI x4], [.int x4, .int x3, .int x2, .int x1, .ref 1], (H1 s o e0))) rfl ?_
   obtain ⟨r239, hr239, h⟩ := bind_eq_some_iff.mp h
   refine QTri.callP W (a := 1) (as := [.int x1, .int x2, .int x3, .int x4]) (rest := []) (w := (some (.int r239))) (σ₁ := (H1 s o e0)) rfl rfl rfl rfl rfl rfl rfl rfl (tF26 Ad W s e0 o x1 x2 x3 x4 hr239) ?_
   rcases qite h with ⟨hc240, h⟩ | ⟨hc240, h⟩
   ·refine zT Ad W (t := 61) (f := 57) rfl (XT.i0_eq_t hc240) ?_
    refine zS Ad W 1 (st' := (62, [vR 1, vI x1, vI x2, vI x3, vI x4], [.int (0:Int32)], (H1 s o e0))) rfl ?_
    obtain rfl := Option.some.inj h
    exact QTri.retZ rfl rfl
   ·refine zF Ad W (t := 61) (f := 57) rfl (XT.i0_eq_f hc240) ?_
    refine zS Ad W 2 (st' := (62, [vR 1, vI x1, vI x2, vI x3, vI x4], [.int (1:Int32)], (H1 s o e0))) rfl ?_
    obtain rfl := Option.some.inj h
    exact QTri.retZ rfl rfl
def J23_166 (o : Ob) (x1 : Int32) (x2 : Int32) (x3 : Int32) (x4 : Int32) : Option (((Ob)) ⊕ (Int32 × Ob)) :=
  some (.inr ((x4 + (1 : Int32)), o))
theorem tJ23_166 (Ad : QAd n0 ad) (W : QW Z a0) (s : List Int32) (e0 : Ob) (o : Ob) (x1 : Int32) (x2 : Int32) (x3 : Int32) (x4 : Int32) {r : ((Ob)) ⊕ (Int32 × Ob)} {u : Option Value} {τ : QHeap} (h : J23_166 o x1 x2 x3 x4 = some r) (hx0 : ∀ x : Ob, r = .inl x → u = (none : Option Value) ∧ τ = (H1 s x e0)) (hc : ∀ x : Int32 × Ob, r = .inr x → QTri l Z n0 ad 23 (38, [vR 1, vI x1, vI x2, vI x3, vI x.1, none, none], [], (H1 s x.2 e0)) u τ) : QTri l Z n0 ad 23 (166, [vR 1, vI x1, vI x2, vI x3, vI x4, none, none], [], (H1 s o e0)) u τ := by
 unfold J23_166 at h
 refine zS Ad W 2 (st' := (38, [vR 1, vI x1, vI x2, vI x3, vI (x4 + (1:Int32)), none, none], [], (H1 s o e0))) rfl ?_
 obtain rfl := Option.some.inj h
 exact zM [tt,tt,tt,tt,tt,ff,ff] (hc ((x4 + (1:Int32)), o) rfl)
def H1x57 (s : List Int32) (o0 o1 : Ob) (a0_24 : Int32) : QHeap := H1v s (f_part o0) (f_keys o0) (f_vals o0) (f_flg o0) (f_res o0) (f_resNull o0) (f_frameCnt o0) (f_sorted o0) (f_cap o0) (f_rows o0) (f_direction o0) (f_nulls o0) (f_mode o0) (f_startKind o0) (f_startOff o0) (f_endKind o0) (f_endOff o0) (f_fn o0) (f_fnArg o0) (f_computed o0) (f_sortedLen o0) (f_curPos o0) (f_aggSum o0) (f_aggCount o0) a0_24 (f_aggMin o0) (f_aggMax o0) (f_part o1) (f_keys o1) (f_vals o1) (f_flg o1) (f_res o1) (f_resNull o1) (f_frameCnt o1) (f_sorted o1) (f_cap o1) (f_rows o1) (f_direction o1) (f_nulls o1) (f_mode o1) (f_startKind o1) (f_startOff o1) (f_endKind o1) (f_endOff o1) (f_fn o1) (f_fnArg o1) (f_computed o1) (f_sortedLen o1) (f_curPos o1) (f_aggSum o1) (f_aggCount o1) (f_aggRows o1) (f_aggMin o1) (f_aggMax o1)
/-- valNull(I)Z -/
def F29 (o : Ob) (x1 : Int32) : Option (Int32) :=
 (aget (f_flg o) x1).bind fun y244 => (if (y244 &&& (2:Int32)) = (0:Int32) then some (0:Int32) else some (1:Int32))
theorem tF29 (Ad : QAd n0 ad) (W : QW Z a0) (s : List Int32) (e0 : Ob) (o : Ob) (x1 : Int32) {r : Int32} (h : F29 o x1 = some r) : QTri l Z n0 ad 29 (0, qentry [.ref 1, .int x1] (pMaxL 29), [], (H1 s o e0)) (some (Value.int r)) (H1 s o e0) := by
 unfold F29 at h
 refine zS Ad W 3 (st' := (5, [vR 1, vI x1], [.int x1, .ref 5], (H1 s o e0))) rfl ?_
 obtain ⟨y244, hy244, h⟩ := bind_eq_some_iff.mp h
 refine zB Ad W (f := fun y244 => (6, [vR 1, vI x1], [.int y244], (H1 s o e0))) rfl hy244 ?_
 refine zS Ad W 2 (st' := (8, [vR 1, vI x1], [.int (y244 &&& (2:Int32))], (H1 s o e0))) rfl ?_
 rcases qite h with ⟨hc245, h⟩ | ⟨hc245, h⟩
 ·refine zT Ad W (t := 15) (f := 11) rfl (XT.i0_eq_t hc245) ?_
  refine zS Ad W 1 (st' := (16, [vR 1, vI x1], [.int (0:Int32)], (H1 s o e0))) rfl ?_
  obtain rfl := Option.some.inj h
  exact QTri.retZ rfl rfl
 ·refine zF Ad W (t := 15) (f := 11) rfl (XT.i0_eq_f hc245) ?_
  refine zS Ad W 2 (st' := (16, [vR 1, vI x1], [.int (1:Int32)], (H1 s o e0))) rfl ?_
  obtain rfl := Option.some.inj h
  exact QTri.retZ rfl rfl
def H1x58 (s : List Int32) (o0 o1 : Ob) (a0_25 : Int32) : QHeap := H1v s (f_part o0) (f_keys o0) (f_vals o0) (f_flg o0) (f_res o0) (f_resNull o0) (f_frameCnt o0) (f_sorted o0) (f_cap o0) (f_rows o0) (f_direction o0) (f_nulls o0) (f_mode o0) (f_startKind o0) (f_startOff o0) (f_endKind o0) (f_endOff o0) (f_fn o0) (f_fnArg o0) (f_computed o0) (f_sortedLen o0) (f_curPos o0) (f_aggSum o0) (f_aggCount o0) (f_aggRows o0) a0_25 (f_aggMax o0) (f_part o1) (f_keys o1) (f_vals o1) (f_flg o1) (f_res o1) (f_resNull o1) (f_frameCnt o1) (f_sorted o1) (f_cap o1) (f_rows o1) (f_direction o1) (f_nulls o1) (f_mode o1) (f_startKind o1) (f_startOff o1) (f_endKind o1) (f_endOff o1) (f_fn o1) (f_fnArg o1) (f_computed o1) (f_sortedLen o1) (f_curPos o1) (f_aggSum o1) (f_aggCount o1) (f_aggRows o1) (f_aggMin o1) (f_aggMax o1)
def H1x59 (s : List Int32) (o0 o1 : Ob) (a0_26 : Int32) : QHeap := H1v s (f_part o0) (f_keys o0) (f_vals o0) (f_flg o0) (f_res o0) (f_resNull o0) (f_frameCnt o0) (f_sorted o0) (f_cap o0) (f_rows o0) (f_direction o0) (f_nulls o0) (f_mode o0) (f_startKind o0) (f_startOff o0) (f_endKind o0) (f_endOff o0) (f_fn o0) (f_fnArg o0) (f_computed o0) (f_sortedLen o0) (f_curPos o0) (f_aggSum o0) (f_aggCount o0) (f_aggRows o0) (f_aggMin o0) a0_26 (f_part o1) (f_keys o1) (f_vals o1) (f_flg o1) (f_res o1) (f_resNull o1) (f_frameCnt o1) (f_sorted o1) (f_cap o1) (f_rows o1) (f_direction o1) (f_nulls o1) (f_mode o1) (f_startKind o1) (f_startOff o1) (f_endKind o1) (f_endOff o1) (f_fn o1) (f_fnArg o1) (f_computed o1) (f_sortedLen o1) (f_curPos o1) (f_aggSum o1) (f_aggCount o1) (f_aggRows o1) (f_aggMin o1) (f_aggMax o1)
def H1x60 (s : List Int32) (o0 o1 : Ob) (a0_23 : Int32) : QHeap := H1v s (f_part o0) (f_keys o0) (f_vals o0) (f_flg o0) (f_res o0) (f_resNull o0) (f_frameCnt o0) (f_sorted o0) (f_cap o0) (f_rows o0) (f_direction o0) (f_nulls o0) (f_mode o0) (f_startKind o0) (f_startOff o0) (f_endKind o0) (f_endOff o0) (f_fn o0) (f_fnArg o0) (f_computed o0) (f_sortedLen o0) (f_curPos o0) (f_aggSum o0) a0_23 (f_aggRows o0) (f_aggMin o0) (f_aggMax o0) (f_part o1) (f_keys o1) (f_vals o1) (f_flg o1) (f_res o1) (f_resNull o1) (f_frameCnt o1) (f_sorted o1) (f_cap o1) (f_rows o1) (f_direction o1) (f_nulls o1) (f_mode o1) (f_startKind o1) (f_startOff o1) (f_endKind o1) (f_endOff o1) (f_fn o1) (f_fnArg o1) (f_computed o1) (f_sortedLen o1) (f_curPos o1) (f_aggSum o1) (f_aggCount o1) (f_aggRows o1) (f_aggMin o1) (f_aggMax o1)
def J23_144 (o : Ob) (x1 : Int32) (x2 : Int32) (x3 : Int32) (x4 : Int32) (x6 : Int32) : Option (((Ob)) ⊕ (Int32 × Ob)) :=
  (J23_166 (s_aggSum (s_aggCount o ((f_aggCount o) + (1 : Int32))) ((f_aggSum o) + (x6.toInt64))) x1 x2 x3 x4)
theorem tJ23_144 (Ad : QAd n0 ad) (W : QW Z a0) (s : List Int32) (e0 : Ob) (o : Ob) (x1 : Int32) (x2 : Int32) (x3 : Int32) (x4 : Int32) (x6 : Int32) {r : ((Ob)) ⊕ (Int32 × Ob)} {u : Option Value} {τ : QHeap} (h : J23_144 o x1 x2 x3 x4 x6 = some r) (hx0 : ∀ x : Ob, r = .inl x → u = (none : Option Value) ∧ τ = (H1 s x e0)) (hc : ∀ x : Int32 × Ob, r = .inr x → QTri l Z n0 ad 23 (38, [vR 1, vI x1, vI x2, vI x3, vI x.1, none, none], [], (H1 s x.2 e0)) u τ) : QTri l Z n0 ad 23 (144, [vR 1, vI x1, vI x2, vI x3, vI x4, none, vI x6], [], (H1 s o e0)) u τ := by
 unfold J23_144 at h
 refine zS Ad W 6 (st' := (154, [vR 1, vI x1, vI x2, vI x3, vI x4, none, vI x6], [], (H1x60 s o e0 ((f_aggCount o) + (1:Int32))))) rfl ?_
 refine zS Ad W 7 (st' := (166, [vR 1, vI x1, vI x2, vI x3, vI x4, none, vI x6], [], (H1x53 s o e0 ((f_aggSum o) + (x6.toInt64)) ((f_aggCount o) + (1:Int32))))) rfl ?_
 have E253 : ((H1x53 s o e0 ((f_aggSum o) + (x6.toInt64)) ((f_aggCount o) + (1:Int32))) : QHeap) = (H1 s (s_aggSum (s_aggCount o ((f_aggCount o) + (1:Int32))) ((f_aggSum o) + (x6.toInt64))) e0) := by simp only [fs, H1, H1v, H1x53, s_aggSum, s_aggCount]
 rw [E253]
 exact zM [tt,tt,tt,tt,tt,ff,ff] (tJ23_166 Ad W s e0 (s_aggSum (s_aggCount o ((f_aggCount o) + (1:Int32))) ((f_aggSum o) + (x6.toInt64))) x1 x2 x3 x4 h hx0 hc)
def J23_138 (o : Ob) (x1 : Int32) (x2 : Int32) (x3 : Int32) (x4 : Int32) (x6 : Int32) : Option (((Ob)) ⊕ (Int32 × Ob)) :=
  (J23_144 (s_aggMax o x6) x1 x2 x3 x4 x6)
theorem tJ23_138 (Ad : QAd n0 ad) (W : QW Z a0) (s : List Int32) (e0 : Ob) (o : Ob) (x1 : Int32) (x2 : Int32) (x3 : Int32) (x4 : Int32) (x6 : Int32) {r : ((Ob)) ⊕ (Int32 × Ob)} {u : Option Value} {τ : QHeap} (h : J23_138 o x1 x2 x3 x4 x6 = some r) (hx0 : ∀ x : Ob, r = .inl x → u = (none : Option Value) ∧ τ = (H1 s x e0)) (hc : ∀ x : Int32 × Ob, r = .inr x → QTri l Z n0 ad 23 (38, [vR 1, vI x1, vI x2, vI x3, vI x.1, none, none], [], (H1 s x.2 e0)) u τ) : QTri l Z n0 ad 23 (138, [vR 1, vI x1, vI x2, vI x3, vI x4, none, vI x6], [], (H1 s o e0)) u τ := by
 unfold J23_138 at h
 refine zS Ad W 3 (st' := (144, [vR 1, vI x1, vI x2, vI x3, vI x4, none, vI x6], [], (H1x59 s o e0 x6))) rfl ?_
 have E252 : ((H1x59 s o e0 x6) : QHeap) = (H1 s (s_aggMax o x6) e0) := by simp only [fs, H1, H1v, H1x59, s_aggMax]
 rw [E252]
 exact zM [tt,tt,tt,tt,tt,ff,tt] (tJ23_144 Ad W s e0 (s_aggMax o x6) x1 x2 x3 x4 x6 h hx0 hc)
def J23_122 (o : Ob) (x1 : Int32) (x2 : Int32) (x3 : Int32) (x4 : Int32) (x6 : Int32) : Option (((Ob)) ⊕ (Int32 × Ob)) :=
  (if (f_aggCount o) = (0 : Int32) then (J23_138 o x1 x2 x3 x4 x6) else (if (f_aggMax o) < x6 then (J23_138 o x1 x2 x3 x4 x6) else (J23_144 o x1 x2 x3 x4 x6)))
theorem tJ23_122 (Ad : QAd n0 ad) (W : QW Z a0) (s : List Int32) (e0 : Ob) (o : Ob) (x1 : Int32) (x2 : Int32) (x3 : Int32) (x4 : Int32) (x6 : Int32) {r : ((Ob)) ⊕ (Int32 × Ob)} {u : Option Value} {τ : QHeap} (h : J23_122 o x1 x2 x3 x4 x6 = some r) (hx0 : ∀ x : Ob, r = .inl x → u = (none : Option Value) ∧ τ = (H1 s x e0)) (hc : ∀ x : Int32 × Ob, r = .inr x → QTri l Z n0 ad 23 (38, [vR 1, vI x1, vI x2, vI x3, vI x.1, none, none], [], (H1 s x.2 e0)) u τ) : QTri l Z n0 ad 23 (122, [vR 1, vI x1, vI x2, vI x3, vI x4, none, vI x6], [], (H1 s o e0)) u τ := by
 unfold J23_122 at h
 refine zS Ad W 2 (st' := (126, [vR 1, vI x1, vI x2, vI x3, vI x4, none, vI x6], [.int (f_aggCount o)], (H1 s o e0))) rfl ?_
 rcases qite h with ⟨hc251, h⟩ | ⟨hc251, h⟩
 ·refine zT Ad W (t := 138) (f := 129) rfl (XT.i0_eq_t hc251) ?_
  exact zM [tt,tt,tt,tt,tt,ff,tt] (tJ23_138 Ad W s e0 o x1 x2 x3 x4 x6 h hx0 hc)
 ·refine zF Ad W (t := 138) (f := 129) rfl (XT.i0_eq_f hc251) ?_
  refine zS Ad W 3 (st' := (135, [vR 1, vI x1, vI x2, vI x3, vI x4, none, vI x6], [.int (f_aggMax o), .int x6], (H1 s o e0))) rfl ?_
  rcases qite h with ⟨hc254, h⟩ | ⟨hc254, h⟩
  ·refine zF Ad W (t := 144) (f := 138) rfl (XT.ii_le_f hc254) ?_
   exact zM [tt,tt,tt,tt,tt,ff,tt] (tJ23_138 Ad W s e0 o x1 x2 x3 x4 x6 h hx0 hc)
  ·refine zT Ad W (t := 144) (f := 138) rfl (XT.ii_le_t hc254) ?_
   exact zM [tt,tt,tt,tt,tt,ff,tt] (tJ23_144 Ad W s e0 o x1 x2 x3 x4 x6 h hx0 hc)
def J23_116 (o : Ob) (x1 : Int32) (x2 : Int32) (x3 : Int32) (x4 : Int32) (x6 : Int32) : Option (((Ob)) ⊕ (Int32 × Ob)) :=
  (J23_122 (s_aggMin o x6) x1 x2 x3 x4 x6)
theorem tJ23_116 (Ad : QAd n0 ad) (W : QW Z a0) (s : List Int32) (e0 : Ob) (o : Ob) (x1 : Int32) (x2 : Int32) (x3 : Int32) (x4 : Int32) (x6 : Int32) {r : ((Ob)) ⊕ (Int32 × Ob)} {u : Option Value} {τ : QHeap} (h : J23_116 o x1 x2 x3 x4 x6 = some r) (hx0 : ∀ x : Ob, r = .inl x → u = (none : Option Value) ∧ τ = (H1 s x e0)) (hc : ∀ x : Int32 × Ob, r = .inr x → QTri l Z n0 ad 23 (38, [vR 1, vI x1, vI x2, vI x3, vI x.1, none, none], [], (H1 s x.2 e0)) u τ) : QTri l Z n0 ad 23 (116, [vR 1, vI x1, vI x2, vI x3, vI x4, none, vI x6], [], (H1 s o e0)) u τ := by
 unfold J23_116 at h
 refine zS Ad W 3 (st' := (122, [vR 1, vI x1, vI x2, vI x3, vI x4, none, vI x6], [], (H1x58 s o e0 x6))) rfl ?_
 have E250 : ((H1x58 s o e0 x6) : QHeap) = (H1 s (s_aggMin o x6) e0) := by simp only [fs, H1, H1v, H1x58, s_aggMin]
 rw [E250]
 exact zM [tt,tt,tt,tt,tt,ff,tt] (tJ23_122 Ad W s e0 (s_aggMin o x6) x1 x2 x3 x4 x6 h hx0 hc)
def B23_38 (x1 : Int32) (x2 : Int32) (x3 : Int32) (v : Int32 × Ob) : Option (((Ob)) ⊕ (Int32 × Ob)) :=
  (if v.1 < x2 then (aget (f_sorted v.2) v.1).bind fun y169 => (F24 v.2 x1 y169 x3 v.1).bind fun r241 => (if r241 = (0 : Int32) then (J23_166 v.2 x1 x2 x3 v.1) else (F29 (s_aggRows v.2 ((f_aggRows v.2) + (1 : Int32))) y169).bind fun r246 => (if r246 = (0 : Int32) then (aget (f_vals (s_aggRows v.2 ((f_aggRows v.2) + (1 : Int32)))) y169).bind fun y248 => (if (f_aggCount (s_aggRows v.2 ((f_aggRows v.2) + (1 : Int32)))) = (0 : Int32) then (J23_116 (s_aggRows v.2 ((f_aggRows v.2) + (1 : Int32))) x1 x2 x3 v.1 y248) else (if y248 < (f_aggMin (s_aggRows v.2 ((f_aggRows v.2) + (1 : Int32)))) then (J23_116 (s_aggRows v.2 ((f_aggRows v.2) + (1 : Int32))) x1 x2 x3 v.1 y248) else (J23_122 (s_aggRows v.2 ((f_aggRows v.2) + (1 : Int32))) x1 x2 x3 v.1 y248))) else (J23_166 (s_aggRows v.2 ((f_aggRows v.2) + (1 : Int32))) x1 x2 x3 v.1))) else some (.inl v.2))
theorem tB23_38 (Ad : QAd n0 ad) (W : QW Z a0) (s : List Int32) (e0 : Ob) (x1 : Int32) (x2 : Int32) (x3 : Int32) (v : Int32 × Ob) {r : ((Ob)) ⊕ (Int32 × Ob)} {u : Option Value} {τ : QHeap} (h : B23_38 x1 x2 x3 v = some r) (hx0 : ∀ x : Ob, r = .inl x → u = (none : Option Value) ∧ τ = (H1 s x e0)) (hc : ∀ x : Int32 × Ob, r = .inr x → QTri l Z n0 ad 23 (38, [vR 1, vI x1, vI x2, vI x3, vI x.1, none, none], [], (H1 s x.2 e0)) u τ) : QTri l Z n0 ad 23 (38, [vR 1, vI x1, vI x2, vI x3, vI v.1, none, none], [], (H1 s v.2 e0)) u τ := by
 unfold B23_38 at h
 refine zS Ad W 2 (st' := (41, [vR 1, vI x1, vI x2, vI x3, vI v.1, none, none], [.int x2, .int v.1], (H1 s v.2 e0))) rfl ?_
 rcases qite h with ⟨hc168, h⟩ | ⟨hc168, h⟩
 ·refine zF Ad W (t := 172) (f := 44) rfl (XT.ii_ge_f hc168) ?_
  refine zS Ad W 3 (st' := (50, [vR 1, vI x1, vI x2, vI x3, vI v.1, none, none], [.int v.1, .ref 9], (H1 s v.2 e0))) rfl ?_
  obtain ⟨y169, hy169, h⟩ := bind_eq_some_iff.mp h
  refine zB Ad W (f := fun y169 => (51, [vR 1, vI x1, vI x2, vI x3, vI v.1, none, none], [.int y169], (H1 s v.2 e0))) rfl hy169 ?_
  refine zS Ad W 6 (st' := (60, [vR 1, vI x1, vI x2, vI x3, vI v.1, vI y169, none], [.int v.1, .int x3, .int y169, .int x1, .ref 1], (H1 s v.2 e0))) rfl ?_
  obtain ⟨r241, hr241, h⟩ := bind_eq_some_iff.mp h
  refine QTri.callP W (a := 1) (as := [.int x1, .int y169, .int x3, .int v.1]) (rest := []) (w := (some (.int r241))) (σ₁ := (H1 s v.2 e0)) rfl rfl rfl rfl rfl rfl rfl rfl (tF24 Ad W s e0 v.2 x1 y169 x3 v.1 hr241) ?_
  rcases qite h with ⟨hc242, h⟩ | ⟨hc242, h⟩
  ·refine zF Ad W (t := 69) (f := 66) rfl (XT.i0_ne_f hc242) ?_
   refine zS Ad W 1 (st' := (166, [vR 1, vI x1, vI x2, vI x3, vI v.1, vI y169, none], [], (H1 s v.2 e0))) rfl ?_
   exact zM [tt,tt,tt,tt,tt,ff,ff] (tJ23_166 Ad W s e0 v.2 x1 x2 x3 v.1 h hx0 hc)
  ·refine zT Ad W (t := 69) (f := 66) rfl (XT.i0_ne_t hc242) ?_
   refine zS Ad W 6 (st' := (79, [vR 1, vI x1, vI x2, vI x3, vI v.1, vI y169, none], [], (H1x57 s v.2 e0 ((f_aggRows v.2) + (1:Int32))))) rfl ?_
   refine zS Ad W 2 (st' := (82, [vR 1, vI x1, vI x2, vI x3, vI v.1, vI y169, none], [.int y169, .ref 1], (H1x57 s v.2 e0 ((f_aggRows v.2) + (1:Int32))))) rfl ?_
   have E243 : ((H1x57 s v.2 e0 ((f_aggRows v.2) + (1:Int32))) : QHeap) = (H1 s (s_aggRows v.2 ((f_aggRows v.2) + (1:Int32))) e0) := by simp only [fs, H1, H1v, H1x57, s_aggRows]
   rw [E243]
   obtain ⟨r246, hr246, h⟩ := bind_eq_some_iff.mp h
   refine QTri.callP W (a := 1) (as := [.int y169]) (rest := []) (w := (some (.int r246))) (σ₁ := (H1 s (s_aggRows v.2 ((f_aggRows v.2) + (1:Int32))) e0)) rfl rfl rfl rfl rfl rfl rfl rfl (tF29 Ad W s e0 (s_aggRows v.2 ((f_aggRows v.2) + (1:Int32))) y169 hr246) ?_
   rcases qite h with ⟨hc247, h⟩ | ⟨hc247, h⟩
   ·refine zT Ad W (t := 91) (f := 88) rfl (XT.i0_eq_t hc247) ?_
    refine zS Ad W 3 (st' := (97, [vR 1, vI x1, vI x2, vI x3, vI v.1, vI y169, none], [.int y169, .ref 4], (H1 s (s_aggRows v.2 ((f_aggRows v.2) + (1:Int32))) e0))) rfl ?_
    obtain ⟨y248, hy248, h⟩ := bind_eq_some_iff.mp h
    refine zB Ad W (f := fun y248 => (98, [vR 1, vI x1, vI x2, vI x3, vI v.1, vI y169, none], [.int y248], (H1 s (s_aggRows v.2 ((f_aggRows v.2) + (1:Int32))) e0))) rfl hy248 ?_
    refine zS Ad W 3 (st' := (104, [vR 1, vI x1, vI x2, vI x3, vI v.1, vI y169, vI y248], [.int (f_aggCount (s_aggRows v.2 ((f_aggRows v.2) + (1:Int32))))], (H1 s (s_aggRows v.2 ((f_aggRows v.2) + (1:Int32))) e0))) rfl ?_
    rcases qite h with ⟨hc249, h⟩ | ⟨hc249, h⟩
    ·refine zT Ad W (t := 116) (f := 107) rfl (XT.i0_eq_t hc249) ?_
     exact zM [tt,tt,tt,tt,tt,ff,tt] (tJ23_116 Ad W s e0 (s_aggRows v.2 ((f_aggRows v.2) + (1:Int32))) x1 x2 x3 v.1 y248 h hx0 hc)
    ·refine zF Ad W (t := 116) (f := 107) rfl (XT.i0_eq_f hc249) ?_
     refine zS Ad W 3 (st' := (113, [vR 1, vI x1, vI x2, vI x3, vI v.1, vI y169, vI y248], [.int (f_aggMin (s_aggRows v.2 ((f_aggRows v.2) + (1:Int32)))), .int y248], (H1 s (s_aggRows v.2 ((f_aggRows v.2) + (1:Int32))) e0))) rfl ?_
     rcases qite h with ⟨hc255, h⟩ | ⟨hc255, h⟩
     ·refine zF Ad W (t := 122) (f := 116) rfl (XT.ii_ge_f hc255) ?_
      exact zM [tt,tt,tt,tt,tt,ff,tt] (tJ23_116 Ad W s e0 (s_aggRows v.2 ((f_aggRows v.2) + (1:Int32))) x1 x2 x3 v.1 y248 h hx0 hc)
     ·refine zT Ad W (t := 122) (f := 116) rfl (XT.ii_ge_t hc255) ?_
      exact zM [tt,tt,tt,tt,tt,ff,tt] (tJ23_122 Ad W s e0 (s_aggRows v.2 ((f_aggRows v.2) + (1:Int32))) x1 x2 x3 v.1 y248 h hx0 hc)
   ·refine zF Ad W (t := 91) (f := 88) rfl (XT.i0_eq_f hc247) ?_
    refine zS Ad W 1 (st' := (166, [vR 1, vI x1, vI x2, vI x3, vI v.1, vI y169, none], [], (H1 s (s_aggRows v.2 ((f_aggRows v.2) + (1:Int32))) e0))) rfl ?_
    exact zM [tt,tt,tt,tt,tt,ff,ff] (tJ23_166 Ad W s e0 (s_aggRows v.2 ((f_aggRows v.2) + (1:Int32))) x1 x2 x3 v.1 h hx0 hc)
 ·refine zT Ad W (t := 172) (f := 44) rfl (XT.ii_ge_t hc168) ?_
  obtain rfl := Option.some.inj h
  obtain ⟨rfl, rfl⟩ := hx0 v.2 rfl
  exact QTri.ret0 rfl rfl
/-- aggregateFrame(I)V -/
def F23 (o : Ob) (x1 : Int32) : Option (Ob) :=
 (loopN (B23_38 x1 (f_sortedLen o) (f_curPos o)) qN ((0:Int32), (s_aggMax (s_aggMin (s_aggRows (s_aggCount (s_aggSum o (0 : Int64)) (0:Int32)) (0:Int32)) (0:Int32)) (0:Int32)))).bind fun e256 => some e256
theorem tF23 (Ad : QAd n0 ad) (W : QW Z a0) (s : List Int32) (e0 : Ob) (o : Ob) (x1 : Int32) {r : Ob} (h : F23 o x1 = some r) : QTri l Z n0 ad 23 (0, qentry [.ref 1, .int x1] (pMaxL 23), [], (H1 s o e0)) (none : Option Value) (H1 s r e0) := by
 unfold F23 at h
 refine zS Ad W 6 (st' := (10, [vR 1, vI x1, vI (f_sortedLen o), vI (f_curPos o), none, none, none], [], (H1 s o e0))) rfl ?_
 refine zS Ad W 3 (st' := (15, [vR 1, vI x1, vI (f_sortedLen o), vI (f_curPos o), none, none, none], [], (H1x52 s o e0 (0 : Int64)))) rfl ?_
 refine zS Ad W 3 (st' := (20, [vR 1, vI x1, vI (f_sortedLen o), vI (f_curPos o), none, none, none], [], (H1x53 s o e0 (0 : Int64) (0:Int32)))) rfl ?_
 refine zS Ad W 3 (st' := (25, [vR 1, vI x1, vI (f_sortedLen o), vI (f_curPos o), none, none, none], [], (H1x54 s o e0 (0 : Int64) (0:Int32) (0:Int32)))) rfl ?_
 refine zS Ad W 3 (st' := (30, [vR 1, vI x1, vI (f_sortedLen o), vI (f_curPos o), none, none, none], [], (H1x55 s o e0 (0 : Int64) (0:Int32) (0:Int32) (0:Int32)))) rfl ?_
 refine zS Ad W 3 (st' := (35, [vR 1, vI x1, vI (f_sortedLen o), vI (f_curPos o), none, none, none], [], (H1x56 s o e0 (0 : Int64) (0:Int32) (0:Int32) (0:Int32) (0:Int32)))) rfl ?_
 refine zS Ad W 2 (st' := (38, [vR 1, vI x1, vI (f_sortedLen o), vI (f_curPos o), vI (0:Int32), none, none], [], (H1x56 s o e0 (0 : Int64) (0:Int32) (0:Int32) (0:Int32) (0:Int32)))) rfl ?_
 have E167 : ((H1x56 s o e0 (0 : Int64) (0:Int32) (0:Int32) (0:Int32) (0:Int32)) : QHeap) = (H1 s (s_aggMax (s_aggMin (s_aggRows (s_aggCount (s_aggSum o (0 : Int64)) (0:Int32)) (0:Int32)) (0:Int32)) (0:Int32)) e0) := by simp only [fs, H1, H1v, H1x56, s_aggSum, s_aggCount, s_aggRows, s_aggMin, s_aggMax]
 rw [E167]
 obtain ⟨e256, he256, h⟩ := bind_eq_some_iff.mp h
 refine zM [tt,tt,tt,tt,tt,ff,ff] (loopN_tri (B := B23_38 x1 (f_sortedLen o) (f_curPos o)) (T := fun lv257 => QTri l Z n0 ad 23 (38, [vR 1, vI x1, vI (f_sortedLen o), vI (f_curPos o), vI lv257.1, none, none], [], (H1 s lv257.2 e0)) (none : Option Value) (H1 s r e0)) (KE := fun e256a => (none : Option Value) = (none : Option Value) ∧ (H1 s r e0) = (H1 s e256a e0)) (fun lv257 r hB hE hC => tB23_38 Ad W s e0 x1 (f_sortedLen o) (f_curPos o) lv257 hB (fun x q => hE _ q) (fun x q => hC x q)) qN ((0:Int32), (s_aggMax (s_aggMin (s_aggRows (s_aggCount (s_aggSum o (0 : Int64)) (0:Int32)) (0:Int32)) (0:Int32)) (0:Int32))) e256 he256 ?_)
 obtain rfl := Option.some.inj h
 exact ⟨rfl, rfl⟩
def H1x61 (s : List Int32) (o0 o1 : Ob) (a0_6 : List Int32) : QHeap := H1v s (f_part o0) (f_keys o0) (f_vals o0) (f_flg o0) (f_res o0) (f_resNull o0) a0_6 (f_sorted o0) (f_cap o0) (f_rows o0) (f_direction o0) (f_nulls o0) (f_mode o0) (f_startKind o0) (f_startOff o0) (f_endKind o0) (f_endOff o0) (f_fn o0) (f_fnArg o0) (f_computed o0) (f_sortedLen o0) (f_curPos o0) (f_aggSum o0) (f_aggCount o0) (f_aggRows o0) (f_aggMin o0) (f_aggMax o0) (f_part o1) (f_keys o1) (f_vals o1) (f_flg o1) (f_res o1) (f_resNull o1) (f_frameCnt o1) (f_sorted o1) (f_cap o1) (f_rows o1) (f_direction o1) (f_nulls o1) (f_mode o1) (f_startKind o1) (f_startOff o1) (f_endKind o1) (f_endOff o1) (f_fn o1) (f_fnArg o1) (f_computed o1) (f_sortedLen o1) (f_curPos o1) (f_aggSum o1) (f_aggCount o1) (f_aggRows o1) (f_aggMin o1) (f_aggMax o1)
def H1x62 (s : List Int32) (o0 o1 : Ob) (a0_5 : List Int32) : QHeap := H1v s (f_part o0) (f_keys o0) (f_vals o0) (f_flg o0) (f_res o0) a0_5 (f_frameCnt o0) (f_sorted o0) (f_cap o0) (f_rows o0) (f_direction o0) (f_nulls o0) (f_mode o0) (f_startKind o0) (f_startOff o0) (f_endKind o0) (f_endOff o0) (f_fn o0) (f_fnArg o0) (f_computed o0) (f_sortedLen o0) (f_curPos o0) (f_aggSum o0) (f_aggCount o0) (f_aggRows o0) (f_aggMin o0) (f_aggMax o0) (f_part o1) (f_keys o1) (f_vals o1) (f_flg o1) (f_res o1) (f_resNull o1) (f_frameCnt o1) (f_sorted o1) (f_cap o1) (f_rows o1) (f_direction o1) (f_nulls o1) (f_mode o1) (f_startKind o1) (f_startOff o1) (f_endKind o1) (f_endOff o1) (f_fn o1) (f_fnArg o1) (f_computed o1) (f_sortedLen o1) (f_curPos o1) (f_aggSum o1) (f_aggCount o1) (f_aggRows o1) (f_aggMin o1) (f_aggMax o1)
def H1x63 (s : List Int32) (o0 o1 : Ob) (a0_4 : List Int64) (a0_5 : List Int32) : QHeap := H1v s (f_part o0) (f_keys o0) (f_vals o0) (f_flg o0) a0_4 a0_5 (f_frameCnt o0) (f_sorted o0) (f_cap o0) (f_rows o0) (f_direction o0) (f_nulls o0) (f_mode o0) (f_startKind o0) (f_startOff o0) (f_endKind o0) (f_endOff o0) (f_fn o0) (f_fnArg o0) (f_computed o0) (f_sortedLen o0) (f_curPos o0) (f_aggSum o0) (f_aggCount o0) (f_aggRows o0) (f_aggMin o0) (f_aggMax o0) (f_part o1) (f_keys o1) (f_vals o1) (f_flg o1) (f_res o1) (f_resNull o1) (f_frameCnt o1) (f_sorted o1) (f_cap o1) (f_rows o1) (f_direction o1) (f_nulls o1) (f_mode o1) (f_startKind o1) (f_startOff o1) (f_endKind o1) (f_endOff o1) (f_fn o1) (f_fnArg o1) (f_computed o1) (f_sortedLen o1) (f_curPos o1) (f_aggSum o1) (f_aggCount o1) (f_aggRows o1) (f_aggMin o1) (f_aggMax o1)
/-- setRes(IJZ)V -/
def F31 (o : Ob) (x1 : Int32) (x2 : Int64) (x4 : Int32) : Option (Ob) :=
 (aset (f_resNull o) x1 (x4 &&& 1)).bind fun y265 => (aset (f_res o) x1 (if x4 = (0:Int32) then x2 else (0 : Int64))).bind fun y269 => some (s_res (s_resNull o y265) y269)
theorem tF31 (Ad : QAd n0 ad) (W : QW Z a0) (s : List Int32) (e0 : Ob) (o : Ob) (x1 : Int32) (x2 : Int64) (x4 : Int32) {r : Ob} (h : F31 o x1 x2 x4 = some r) : QTri l Z n0 ad 31 (0, qentry [.ref 1, .int x1, .long x2, .int x4] (pMaxL 31), [], (H1 s o e0)) (none : Option Value) (H1 s r e0) := by
 unfold F31 at h
 refine zS Ad W 4 (st' := (7, [vR 1, vI x1, some (.long x2), none, vI x4], [.int x4, .int x1, .ref 7], (H1 s o e0))) rfl ?_
 obtain ⟨y265, hy265, h⟩ := bind_eq_some_iff.mp h
 refine zB Ad W (f := fun y265 => (8, [vR 1, vI x1, some (.long x2), none, vI x4], [], (H1x62 s o e0 y265))) rfl hy265 ?_
 refine zS Ad W 4 (st' := (15, [vR 1, vI x1, some (.long x2), none, vI x4], [.int x4, .int x1, .ref 6], (H1x62 s o e0 y265))) rfl ?_
 have K267 : ∀ z266 : Int64, z266 = (if x4 = (0:Int32) then x2 else (0 : Int64)) → QTri l Z n0 ad 31 (23, [none, none, none, none, none], [.long z266, .int x1, .ref 6], (H1x62 s o e0 y265)) (none : Option Value) (H1 s r e0) := by
  intro z266 ez266
  subst ez266
  obtain ⟨y269, hy269, h⟩ := bind_eq_some_iff.mp h
  refine zB Ad W (f := fun y269 => (24, [none, none, none, none, none], [], (H1x63 s o e0 y269 y265))) rfl hy269 ?_
  have E270 : ((H1x63 s o e0 y269 y265) : QHeap) = (H1 s (s_res (s_resNull o y265) y269) e0) := by simp only [fs, H1, H1v, H1x63, s_res, s_resNull]
  rw [E270]
  obtain rfl := Option.some.inj h
  exact QTri.ret0 rfl rfl
 rcases em (x4 = (0:Int32)) with hc268 | hc268
 ·refine zT Ad W (t := 22) (f := 18) rfl (XT.i0_eq_t hc268) ?_
  refine zS Ad W 1 (st' := (23, [vR 1, vI x1, some (.long x2), none, vI x4], [.long x2, .int x1, .ref 6], (H1x62 s o e0 y265))) rfl ?_
  exact zM [ff,ff,ff,ff,ff] (K267 _ (if_pos hc268).symm)
 ·refine zF Ad W (t := 22) (f := 18) rfl (XT.i0_eq_f hc268) ?_
  refine zS Ad W 2 (st' := (23, [vR 1, vI x1, some (.long x2), none, vI x4], [.long (0 : Int64), .int x1, .ref 6], (H1x62 s o e0 y265))) rfl ?_
  exact zM [ff,ff,ff,ff,ff] (K267 _ (if_neg hc268).symm)
def B38_5 (o : Ob) (x1 : Int32) (x2 : Int32) (v : Int64 × Int32) : Option (((Int64)) ⊕ (Int64 × Int32)) :=
  (if v.2 < x2 then (if v.2 < (f_sortedLen o) then (aget (f_sorted o) v.2).bind fun y291 => (F27 o y291 x1).bind fun r292 => some (.inr ((if r292 = (0 : Int32) then (v.1 + (1 : Int64)) else v.1), (v.2 + (1 : Int32)))) else some (.inl v.1)) else some (.inl v.1))
theorem tB38_5 (Ad : QAd n0 ad) (W : QW Z a0) (s : List Int32) (e0 : Ob) (o : Ob) (x1 : Int32) (x2 : Int32) (v : Int64 × Int32) {r : ((Int64)) ⊕ (Int64 × Int32)} {u : Option Value} {τ : QHeap} (h : B38_5 o x1 x2 v = some r) (hx0 : ∀ x : Int64, r = .inl x → u = (some (Value.long x)) ∧ τ = (H1 s o e0)) (hc : ∀ x : Int64 × Int32, r = .inr x → QTri l Z n0 ad 38 (5, [vR 1, vI x1, vI x2, some (.long x.1), none, vI x.2], [], (H1 s o e0)) u τ) : QTri l Z n0 ad 38 (5, [vR 1, vI x1, vI x2, some (.long v.1), none, vI v.2], [], (H1 s o e0)) u τ := by
 unfold B38_5 at h
 refine zS Ad W 2 (st' := (8, [vR 1, vI x1, vI x2, some (.long v.1), none, vI v.2], [.int x2, .int v.2], (H1 s o e0))) rfl ?_
 rcases qite h with ⟨hc289, h⟩ | ⟨hc289, h⟩
 ·refine zF Ad W (t := 45) (f := 11) rfl (XT.ii_ge_f hc289) ?_
  refine zS Ad W 3 (st' := (17, [vR 1, vI x1, vI x2, some (.long v.1), none, vI v.2], [.int (f_sortedLen o), .int v.2], (H1 s o e0))) rfl ?_
  rcases qite h with ⟨hc290, h⟩ | ⟨hc290, h⟩
  ·refine zF Ad W (t := 45) (f := 20) rfl (XT.ii_ge_f hc290) ?_
   refine zS Ad W 4 (st' := (27, [vR 1, vI x1, vI x2, some (.long v.1), none, vI v.2], [.int v.2, .ref 9, .ref 1], (H1 s o e0))) rfl ?_
   obtain ⟨y291, hy291, h⟩ := bind_eq_some_iff.mp h
   refine zB Ad W (f := fun y291 => (28, [vR 1, vI x1, vI x2, some (.long v.1), none, vI v.2], [.int y291, .ref 1], (H1 s o e0))) rfl hy291 ?_
   refine zS Ad W 1 (st' := (29, [vR 1, vI x1, vI x2, some (.long v.1), none, vI v.2], [.int x1, .int y291, .ref 1], (H1 s o e0))) rfl ?_
   obtain ⟨r292, hr292, h⟩ := bind_eq_some_iff.mp h
   refine QTri.callP W (a := 1) (as := [.int y291, .int x1]) (rest := []) (w := (some (.int r292))) (σ₁ := (H1 s o e0)) rfl rfl rfl rfl rfl rfl rfl rfl (tF27 Ad W s e0 o y291 x1 hr292) ?_
   have K294 : ∀ z293 : Int64, z293 = (if r292 = (0:Int32) then (v.1 + (1 : Int64)) else v.1) → QTri l Z n0 ad 38 (39, [vR 1, vI x1, vI x2, some (.long z293), none, vI v.2], [], (H1 s o e0)) u τ := by
    intro z293 ez293
    subst ez293
    refine zS Ad W 2 (st' := (5, [vR 1, vI x1, vI x2, some (.long (if r292 = (0:Int32) then (v.1 + (1 : Int64)) else v.1)), none, vI (v.2 + (1:Int32))], [], (H1 s o e0))) rfl ?_
    obtain rfl := Option.some.inj h
    exact zM [tt,tt,tt,tt,ff,tt] (hc ((if r292 = (0:Int32) then (v.1 + (1 : Int64)) else v.1), (v.2 + (1:Int32))) rfl)
   rcases em (r292 = (0:Int32)) with hc295 | hc295
   ·refine zF Ad W (t := 39) (f := 35) rfl (XT.i0_ne_f hc295) ?_
    refine zS Ad W 4 (st' := (39, [vR 1, vI x1, vI x2, some (.long (v.1 + (1 : Int64))), none, vI v.2], [], (H1 s o e0))) rfl ?_
    exact zM [tt,tt,tt,tt,ff,tt] (K294 _ (if_pos hc295).symm)
   ·refine zT Ad W (t := 39) (f := 35) rfl (XT.i0_ne_t hc295) ?_
    exact zM [tt,tt,tt,tt,ff,tt] (K294 _ (if_neg hc295).symm)
  ·refine zT Ad W (t := 45) (f := 20) rfl (XT.ii_ge_t hc290) ?_
   refine zS Ad W 1 (st' := (46, [vR 1, vI x1, vI x2, some (.long v.1), none, vI v.2], [.long v.1], (H1 s o e0))) rfl ?_
   obtain rfl := Option.some.inj h
   obtain ⟨rfl, rfl⟩ := hx0 v.1 rfl
   exact QTri.retJ rfl rfl
 ·refine zT Ad W (t := 45) (f := 11) rfl (XT.ii_ge_t hc289) ?_
  refine zS Ad W 1 (st' := (46, [vR 1, vI x1, vI x2, some (.long v.1), none, vI v.2], [.long v.1], (H1 s o e0))) rfl ?_
  obtain rfl := Option.some.inj h
  obtain ⟨rfl, rfl⟩ := hx0 v.1 rfl
  exact QTri.retJ rfl rfl
/-- rankOf(II)J -/
def F38 (o : Ob) (x1 : Int32) (x2 : Int32) : Option (Int64) :=
 (loopN (B38_5 o x1 x2) qN ((1 : Int64), (0:Int32))).bind fun e296 => some e296
theorem tF38 (Ad : QAd n0 ad) (W : QW Z a0) (s : List Int32) (e0 : Ob) (o : Ob) (x1 : Int32) (x2 : Int32) {r : Int64} (h : F38 o x1 x2 = some r) : QTri l Z n0 ad 38 (0, qentry [.ref 1, .int x1, .int x2] (pMaxL 38), [], (H1 s o e0)) (some (Value.long r)) (H1 s o e0) := by
 unfold F38 at h
 refine zS Ad W 4 (st' := (5, [vR 1, vI x1, vI x2, some (.long (1 : Int64)), none, vI (0:Int32)], [], (H1 s o e0))) rfl ?_
 obtain ⟨e296, he296, h⟩ := bind_eq_some_iff.mp h
 refine zM [tt,tt,tt,tt,ff,tt] (loopN_tri (B := B38_5 o x1 x2) (T := fun lv297 => QTri l Z n0 ad 38 (5, [vR 1, vI x1, vI x2, some (.long lv297.1), none, vI lv297.2], [], (H1 s o e0)) (some (Value.long r)) (H1 s o e0)) (KE := fun e296a => (some (Value.long r)) = (some (Value.long e296a)) ∧ (H1 s o e0) = (H1 s o e0)) (fun lv297 r hB hE hC => tB38_5 Ad W s e0 o x1 x2 lv297 hB (fun x q => hE _ q) (fun x q => hC x q)) qN ((1 : Int64), (0:Int32)) e296 he296 ?_)
 obtain rfl := Option.some.inj h
 exact ⟨rfl, rfl⟩
def J33_69 (o : Ob) (x1 : Int32) (x2 : Int32) (x3 : Int64) (x5 : Int32) : Option (((Int64)) ⊕ (Int64 × Int32)) :=
  some (.inr (x3, (x5 + (1 : Int32))))
theorem tJ33_69 (Ad : QAd n0 ad) (W : QW Z a0) (s : List Int32) (e0 : Ob) (o : Ob) (x1 : Int32) (x2 : Int32) (x3 : Int64) (x5 : Int32) {r : ((Int64)) ⊕ (Int64 × Int32)} {u : Option Value} {τ : QHeap} (h : J33_69 o x1 x2 x3 x5 = some r) (hx0 : ∀ x : Int64, r = .inl x → u = (some (Value.long x)) ∧ τ = (H1 s o e0)) (hc : ∀ x : Int64 × Int32, r = .inr x → QTri l Z n0 ad 33 (5, [vR 1, vI x1, vI x2, some (.long x.1), none, vI x.2, none], [], (H1 s o e0)) u τ) : QTri l Z n0 ad 33 (69, [vR 1, vI x1, vI x2, some (.long x3), none, vI x5, none], [], (H1 s o e0)) u τ := by
 unfold J33_69 at h
 refine zS Ad W 2 (st' := (5, [vR 1, vI x1, vI x2, some (.long x3), none, vI (x5 + (1:Int32)), none], [], (H1 s o e0))) rfl ?_
 obtain rfl := Option.some.inj h
 exact zM [tt,tt,tt,tt,ff,tt,ff] (hc (x3, (x5 + (1:Int32))) rfl)
def J33_65 (o : Ob) (x1 : Int32) (x2 : Int32) (x3 : Int64) (x5 : Int32) : Option (((Int64)) ⊕ (Int64 × Int32)) :=
  (J33_69 o x1 x2 (x3 + (1 : Int64)) x5)
theorem tJ33_65 (Ad : QAd n0 ad) (W : QW Z a0) (s : List Int32) (e0 : Ob) (o : Ob) (x1 : Int32) (x2 : Int32) (x3 : Int64) (x5 : Int32) {r : ((Int64)) ⊕ (Int64 × Int32)} {u : Option Value} {τ : QHeap} (h : J33_65 o x1 x2 x3 x5 = some r) (hx0 : ∀ x : Int64, r = .inl x → u = (some (Value.long x)) ∧ τ = (H1 s o e0)) (hc : ∀ x : Int64 × Int32, r = .inr x → QTri l Z n0 ad 33 (5, [vR 1, vI x1, vI x2, some (.long x.1), none, vI x.2, none], [], (H1 s o e0)) u τ) : QTri l Z n0 ad 33 (65, [vR 1, vI x1, vI x2, some (.long x3), none, vI x5, none], [], (H1 s o e0)) u τ := by
 unfold J33_65 at h
 refine zS Ad W 4 (st' := (69, [vR 1, vI x1, vI x2, some (.long (x3 + (1 : Int64))), none, vI x5, none], [], (H1 s o e0))) rfl ?_
 exact zM [tt,tt,tt,tt,ff,tt,ff] (tJ33_69 Ad W s e0 o x1 x2 (x3 + (1 : Int64)) x5 h hx0 hc)
def B33_5 (o : Ob) (x1 : Int32) (x2 : Int32) (v : Int64 × Int32) : Option (((Int64)) ⊕ (Int64 × Int32)) :=
  (if v.2 < x2 then (if v.2 < (f_sortedLen o) then (aget (f_sorted o) v.2).bind fun y303 => (F27 o y303 x1).bind fun r304 => (if r304 = (0 : Int32) then (if v.2 = (0 : Int32) then (J33_65 o x1 x2 v.1 v.2) else (aget (f_sorted o) (v.2 - (1 : Int32))).bind fun y307 => (F27 o y303 y307).bind fun r308 => (J33_69 o x1 x2 (if r308 = (0 : Int32) then (v.1 + (1 : Int64)) else v.1) v.2)) else (J33_69 o x1 x2 v.1 v.2)) else some (.inl v.1)) else some (.inl v.1))
theorem tB33_5 (Ad : QAd n0 ad) (W : QW Z a0) (s : List Int32) (e0 : Ob) (o : Ob) (x1 : Int32) (x2 : Int32) (v : Int64 × Int32) {r : ((Int64)) ⊕ (Int64 × Int32)} {u : Option Value} {τ : QHeap} (h : B33_5 o x1 x2 v = some r) (hx0 : ∀ x : Int64, r = .inl x → u = (some (Value.long x)) ∧ τ = (H1 s o e0)) (hc : ∀ x : Int64 × Int32, r = .inr x → QTri l Z n0 ad 33 (5, [vR 1, vI x1, vI x2, some (.long x.1), none, vI x.2, none], [], (H1 s o e0)) u τ) : QTri l Z n0 ad 33 (5, [vR 1, vI x1, vI x2, some (.long v.1), none, vI v.2, none], [], (H1 s o e0)) u τ := by
 unfold B33_5 at h
 refine zS Ad W 2 (st' := (8, [vR 1, vI x1, vI x2, some (.long v.1), none, vI v.2, none], [.int x2, .int v.2], (H1 s o e0))) rfl ?_
 rcases qite h with ⟨hc301, h⟩ | ⟨hc301, h⟩
 ·refine zF Ad W (t := 75) (f := 11) rfl (XT.ii_ge_f hc301) ?_
  refine zS Ad W 3 (st' := (17, [vR 1, vI x1, vI x2, some (.long v.1), none, vI v.2, none], [.int (f_sortedLen o), .int v.2], (H1 s o e0))) rfl ?_
  rcases qite h with ⟨hc302, h⟩ | ⟨hc302, h⟩
  ·refine zF Ad W (t := 75) (f := 20) rfl (XT.ii_ge_f hc302) ?_
   refine zS Ad W 3 (st' := (26, [vR 1, vI x1, vI x2, some (.long v.1), none, vI v.2, none], [.int v.2, .ref 9], (H1 s o e0))) rfl ?_
   obtain ⟨y303, hy303, h⟩ := bind_eq_some_iff.mp h
   refine zB Ad W (f := fun y303 => (27, [vR 1, vI x1, vI x2, some (.long v.1), none, vI v.2, none], [.int y303], (H1 s o e0))) rfl hy303 ?_
   refine zS Ad W 4 (st' := (33, [vR 1, vI x1, vI x2, some (.long v.1), none, vI v.2, vI y303], [.int x1, .int y303, .ref 1], (H1 s o e0))) rfl ?_
   obtain ⟨r304, hr304, h⟩ := bind_eq_some_iff.mp h
   refine QTri.callP W (a := 1) (as := [.int y303, .int x1]) (rest := []) (w := (some (.int r304))) (σ₁ := (H1 s o e0)) rfl rfl rfl rfl rfl rfl rfl rfl (tF27 Ad W s e0 o y303 x1 hr304) ?_
   rcases qite h with ⟨hc305, h⟩ | ⟨hc305, h⟩
   ·refine zT Ad W (t := 42) (f := 39) rfl (XT.i0_eq_t hc305) ?_
    refine zS Ad W 1 (st' := (44, [vR 1, vI x1, vI x2, some (.long v.1), none, vI v.2, vI y303], [.int v.2], (H1 s o e0))) rfl ?_
    rcases qite h with ⟨hc306, h⟩ | ⟨hc306, h⟩
    ·refine zT Ad W (t := 65) (f := 47) rfl (XT.i0_eq_t hc306) ?_
     exact zM [tt,tt,tt,tt,ff,tt,ff] (tJ33_65 Ad W s e0 o x1 x2 v.1 v.2 h hx0 hc)
    ·refine zF Ad W (t := 65) (f := 47) rfl (XT.i0_eq_f hc306) ?_
     refine zS Ad W 7 (st' := (58, [vR 1, vI x1, vI x2, some (.long v.1), none, vI v.2, vI y303], [.int (v.2 - (1:Int32)), .ref 9, .int y303, .ref 1], (H1 s o e0))) rfl ?_
     obtain ⟨y307, hy307, h⟩ := bind_eq_some_iff.mp h
     refine zB Ad W (f := fun y307 => (59, [vR 1, vI x1, vI x2, some (.long v.1), none, vI v.2, vI y303], [.int y307, .int y303, .ref 1], (H1 s o e0))) rfl hy307 ?_
     obtain ⟨r308, hr308, h⟩ := bind_eq_some_iff.mp h
     refine QTri.callP W (a := 1) (as := [.int y303, .int y307]) (rest := []) (w := (some (.int r308))) (σ₁ := (H1 s o e0)) rfl rfl rfl rfl rfl rfl rfl rfl (tF27 Ad W s e0 o y303 y307 hr308) ?_
     have K310 : ∀ z309 : Int64, z309 = (if r308 = (0:Int32) then (v.1 + (1 : Int64)) else v.1) → QTri l Z n0 ad 33 (69, [vR 1, vI x1, vI x2, some (.long z309), none, vI v.2, none], [], (H1 s o e0)) u τ := by
      intro z309 ez309
      subst ez309
      exact zM [tt,tt,tt,tt,ff,tt,ff] (tJ33_69 Ad W s e0 o x1 x2 (if r308 = (0:Int32) then (v.1 + (1 : Int64)) else v.1) v.2 h hx0 hc)
     rcases em (r308 = (0:Int32)) with hc311 | hc311
     ·refine zF Ad W (t := 69) (f := 65) rfl (XT.i0_ne_f hc311) ?_
      refine zS Ad W 4 (st' := (69, [vR 1, vI x1, vI x2, some (.long (v.1 + (1 : Int64))), none, vI v.2, vI y303], [], (H1 s o e0))) rfl ?_
      exact zM [tt,tt,tt,tt,ff,tt,ff] (K310 _ (if_pos hc311).symm)
     ·refine zT Ad W (t := 69) (f := 65) rfl (XT.i0_ne_t hc311) ?_
      exact zM [tt,tt,tt,tt,ff,tt,ff] (K310 _ (if_neg hc311).symm)
   ·refine zF Ad W (t := 42) (f := 39) rfl (XT.i0_eq_f hc305) ?_
    refine zS Ad W 1 (st' := (69, [vR 1, vI x1, vI x2, some (.long v.1), none, vI v.2, vI y303], [], (H1 s o e0))) rfl ?_
    exact zM [tt,tt,tt,tt,ff,tt,ff] (tJ33_69 Ad W s e0 o x1 x2 v.1 v.2 h hx0 hc)
  ·refine zT Ad W (t := 75) (f := 20) rfl (XT.ii_ge_t hc302) ?_
   refine zS Ad W 1 (st' := (76, [vR 1, vI x1, vI x2, some (.long v.1), none, vI v.2, none], [.long v.1], (H1 s o e0))) rfl ?_
   obtain rfl := Option.some.inj h
   obtain ⟨rfl, rfl⟩ := hx0 v.1 rfl
   exact QTri.retJ rfl rfl
 ·refine zT Ad W (t := 75) (f := 11) rfl (XT.ii_ge_t hc301) ?_
  refine zS Ad W 1 (st' := (76, [vR 1, vI x1, vI x2, some (.long v.1), none, vI v.2, none], [.long v.1], (H1 s o e0))) rfl ?_
  obtain rfl := Option.some.inj h
  obtain ⟨rfl, rfl⟩ := hx0 v.1 rfl
  exact QTri.retJ rfl rfl
/-- denseRankOf(II)J -/
def F33 (o : Ob) (x1 : Int32) (x2 : Int32) : Option (Int64) :=
 (loopN (B33_5 o x1 x2) qN ((1 : Int64), (0:Int32))).bind fun e312 => some e312
theorem tF33 (Ad : QAd n0 ad) (W : QW Z a0) (s : List Int32) (e0 : Ob) (o : Ob) (x1 : Int32) (x2 : Int32) {r : Int64} (h : F33 o x1 x2 = some r) : QTri l Z n0 ad 33 (0, qentry [.ref 1, .int x1, .int x2] (pMaxL 33), [], (H1 s o e0)) (some (Value.long r)) (H1 s o e0) := by
 unfold F33 at h
 refine zS Ad W 4 (st' := (5, [vR 1, vI x1, vI x2, some (.long (1 : Int64)), none, vI (0:Int32), none], [], (H1 s o e0))) rfl ?_
 obtain ⟨e312, he312, h⟩ := bind_eq_some_iff.mp h
 refine zM [tt,tt,tt,tt,ff,tt,ff] (loopN_tri (B := B33_5 o x1 x2) (T := fun lv313 => QTri l Z n0 ad 33 (5, [vR 1, vI x1, vI x2, some (.long lv313.1), none, vI lv313.2, none], [], (H1 s o e0)) (some (Value.long r)) (H1 s o e0)) (KE := fun e312a => (some (Value.long r)) = (some (Value.long e312a)) ∧ (H1 s o e0) = (H1 s o e0)) (fun lv313 r hB hE hC => tB33_5 Ad W s e0 o x1 x2 lv313 hB (fun x q => hE _ q) (fun x q => hC x q)) qN ((1 : Int64), (0:Int32)) e312 he312 ?_)
 obtain rfl := Option.some.inj h
 exact ⟨rfl, rfl⟩
def J36_45 (o : Ob) (x1 : Int32) : Option (Ob) :=
  (F31 o x1 (0 : Int64) (1 : Int32)).bind fun r323 => some r323
theorem tJ36_45 (Ad : QAd n0 ad) (W : QW Z a0) (s : List Int32) (e0 : Ob) (o : Ob) (x1 : Int32) {r : Ob} (h : J36_45 o x1 = some r) : QTri l Z n0 ad 36 (45, [vR 1, vI x1, none, none, none, none, none], [], (H1 s o e0)) (none : Option Value) (H1 s r e0) := by
 unfold J36_45 at h
 refine zS Ad W 4 (st' := (49, [vR 1, vI x1, none, none, none, none, none], [.int (1:Int32), .long (0 : Int64), .int x1, .ref 1], (H1 s o e0))) rfl ?_
 obtain ⟨r323, hr323, h⟩ := bind_eq_some_iff.mp h
 refine QTri.callP W (a := 1) (as := [.int x1, .long (0 : Int64), .int (1:Int32)]) (rest := []) (w := none) (σ₁ := (H1 s r323 e0)) rfl rfl rfl rfl rfl rfl rfl rfl (tF31 Ad W s e0 o x1 (0 : Int64) (1:Int32) hr323) ?_
 obtain rfl := Option.some.inj h
 exact QTri.ret0 rfl rfl
/-- shiftValue(IIZ)V -/
def F36 (o : Ob) (x1 : Int32) (x2 : Int32) (x3 : Int32) : Option (Ob) :=
 (if (if x3 = (0:Int32) then ((x2.toInt64) + ((f_fnArg o).toInt64)) else ((x2.toInt64) - ((f_fnArg o).toInt64))) < (0 : Int64) then (J36_45 o x1) else (if (((f_sortedLen o).toInt64) - (1 : Int64)) < (if x3 = (0:Int32) then ((x2.toInt64) + ((f_fnArg o).toInt64)) else ((x2.toInt64) - ((f_fnArg o).toInt64))) then (J36_45 o x1) else (aget (f_sorted o) ((if x3 = (0:Int32) then ((x2.toInt64) + ((f_fnArg o).toInt64)) else ((x2.toInt64) - ((f_fnArg o).toInt64))).toInt32)).bind fun y325 => (F29 o y325).bind fun r326 => (if r326 = (0:Int32) then (aget (f_vals o) y325).bind fun y328 => (F31 o x1 (y328.toInt64) (0:Int32)).bind fun r329 => some r329 else (F31 o x1 (0 : Int64) (1:Int32)).bind fun r330 => some r330)))
theorem tF36 (Ad : QAd n0 ad) (W : QW Z a0) (s : List Int32) (e0 : Ob) (o : Ob) (x1 : Int32) (x2 : Int32) (x3 : Int32) {r : Ob} (h : F36 o x1 x2 x3 = some r) : QTri l Z n0 ad 36 (0, qentry [.ref 1, .int x1, .int x2, .int x3] (pMaxL 36), [], (H1 s o e0)) (none : Option Value) (H1 s r e0) := by
 unfold F36 at h
 refine zS Ad W 1 (st' := (1, [vR 1, vI x1, vI x2, vI x3, none, none, none], [.int x3], (H1 s o e0))) rfl ?_
 have K320 : ∀ z319 : Int64, z319 = (if x3 = (0:Int32) then ((x2.toInt64) + ((f_fnArg o).toInt64)) else ((x2.toInt64) - ((f_fnArg o).toInt64))) → QTri l Z n0 ad 36 (23, [vR 1, vI x1, none, none, none, none, none], [.long z319], (H1 s o e0)) (none : Option Value) (H1 s r e0) := by
  intro z319 ez319
  subst ez319
  refine zS Ad W 4 (st' := (29, [vR 1, vI x1, none, none, some (.long (if x3 = (0:Int32) then ((x2.toInt64) + ((f_fnArg o).toInt64)) else ((x2.toInt64) - ((f_fnArg o).toInt64)))), none, none], [.int (XT.cmpL (if x3 = (0:Int32) then ((x2.toInt64) + ((f_fnArg o).toInt64)) else ((x2.toInt64) - ((f_fnArg o).toInt64))) (0 : Int64))], (H1 s o e0))) rfl ?_
  rcases qite h with ⟨hc322, h⟩ | ⟨hc322, h⟩
  ·refine zT Ad W (t := 45) (f := 32) rfl (XT.ll_lt_t hc322) ?_
   exact zM [tt,tt,ff,ff,ff,ff,ff] (tJ36_45 Ad W s e0 o x1 h)
  ·refine zF Ad W (t := 45) (f := 32) rfl (XT.ll_lt_f hc322) ?_
   refine zS Ad W 7 (st' := (42, [vR 1, vI x1, none, none, some (.long (if x3 = (0:Int32) then ((x2.toInt64) + ((f_fnArg o).toInt64)) else ((x2.toInt64) - ((f_fnArg o).toInt64)))), none, none], [.int (XT.cmpL (if x3 = (0:Int32) then ((x2.toInt64) + ((f_fnArg o).toInt64)) else ((x2.toInt64) - ((f_fnArg o).toInt64))) (((f_sortedLen o).toInt64) - (1 : Int64)))], (H1 s o e0))) rfl ?_
   rcases qite h with ⟨hc324, h⟩ | ⟨hc324, h⟩
   ·refine zF Ad W (t := 53) (f := 45) rfl (XT.ll_le_f hc324) ?_
    exact zM [tt,tt,ff,ff,ff,ff,ff] (tJ36_45 Ad W s e0 o x1 h)
   ·refine zT Ad W (t := 53) (f := 45) rfl (XT.ll_le_t hc324) ?_
    refine zS Ad W 4 (st' := (60, [vR 1, vI x1, none, none, some (.long (if x3 = (0:Int32) then ((x2.toInt64) + ((f_fnArg o).toInt64)) else ((x2.toInt64) - ((f_fnArg o).toInt64)))), none, none], [.int ((if x3 = (0:Int32) then ((x2.toInt64) + ((f_fnArg o).toInt64)) else ((x2.toInt64) - ((f_fnArg o).toInt64))).toInt32), .ref 9], (H1 s o e0))) rfl ?_
    obtain ⟨y325, hy325, h⟩ := bind_eq_some_iff.mp h
    refine zB Ad W (f := fun y325 => (61, [vR 1, vI x1, none, none, some (.long (if x3 = (0:Int32) then ((x2.toInt64) + ((f_fnArg o).toInt64)) else ((x2.toInt64) - ((f_fnArg o).toInt64)))), none, none], [.int y325], (H1 s o e0))) rfl hy325 ?_
    refine zS Ad W 3 (st' := (66, [vR 1, vI x1, none, none, some (.long (if x3 = (0:Int32) then ((x2.toInt64) + ((f_fnArg o).toInt64)) else ((x2.toInt64) - ((f_fnArg o).toInt64)))), none, vI y325], [.int y325, .ref 1], (H1 s o e0))) rfl ?_
    obtain ⟨r326, hr326, h⟩ := bind_eq_some_iff.mp h
    refine QTri.callP W (a := 1) (as := [.int y325]) (rest := []) (w := (some (.int r326))) (σ₁ := (H1 s o e0)) rfl rfl rfl rfl rfl rfl rfl rfl (tF29 Ad W s e0 o y325 hr326) ?_
    rcases qite h with ⟨hc327, h⟩ | ⟨hc327, h⟩
    ·refine zT Ad W (t := 82) (f := 72) rfl (XT.i0_eq_t hc327) ?_
     refine zS Ad W 5 (st' := (90, [vR 1, vI x1, none, none, some (.long (if x3 = (0:Int32) then ((x2.toInt64) + ((f_fnArg o).toInt64)) else ((x2.toInt64) - ((f_fnArg o).toInt64)))), none, vI y325], [.int y325, .ref 4, .int x1, .ref 1], (H1 s o e0))) rfl ?_
     obtain ⟨y328, hy328, h⟩ := bind_eq_some_iff.mp h
     refine zB Ad W (f := fun y328 => (91, [vR 1, vI x1, none, none, some (.long (if x3 = (0:Int32) then ((x2.toInt64) + ((f_fnArg o).toInt64)) else ((x2.toInt64) - ((f_fnArg o).toInt64)))), none, vI y325], [.int y328, .int x1, .ref 1], (H1 s o e0))) rfl hy328 ?_
     refine zS Ad W 2 (st' := (93, [vR 1, vI x1, none, none, some (.long (if x3 = (0:Int32) then ((x2.toInt64) + ((f_fnArg o).toInt64)) else ((x2.toInt64) - ((f_fnArg o).toInt64)))), none, vI y325], [.int (0:Int32), .long (y328.toInt64), .int x1, .ref 1], (H1 s o e0))) rfl ?_
     obtain ⟨r329, hr329, h⟩ := bind_eq_some_iff.mp h
     refine QTri.callP W (a := 1) (as := [.int x1, .long (y328.toInt64), .int (0:Int32)]) (rest := []) (w := none) (σ₁ := (H1 s r329 e0)) rfl rfl rfl rfl rfl rfl rfl rfl (tF31 Ad W s e0 o x1 (y328.toInt64) (0:Int32) hr329) ?_
     obtain rfl := Option.some.inj h
     exact QTri.ret0 rfl rfl
    ·refine zF Ad W (t := 82) (f := 72) rfl (XT.i0_eq_f hc327) ?_
     refine zS Ad W 4 (st' := (76, [vR 1, vI x1, none, none, some (.long (if x3 = (0:Int32) then ((x2.toInt64) + ((f_fnArg o).toInt64)) else ((x2.toInt64) - ((f_fnArg o).toInt64)))), none, vI y325], [.int (1:Int32), .long (0 : Int64), .int x1, .ref 1], (H1 s o e0))) rfl ?_
     obtain ⟨r330, hr330, h⟩ := bind_eq_some_iff.mp h
     refine QTri.callP W (a := 1) (as := [.int x1, .long (0 : Int64), .int (1:Int32)]) (rest := []) (w := none) (σ₁ := (H1 s r330 e0)) rfl rfl rfl rfl rfl rfl rfl rfl (tF31 Ad W s e0 o x1 (0 : Int64) (1:Int32) hr330) ?_
     refine zS Ad W 1 (st' := (96, [vR 1, vI x1, none, none, some (.long (if x3 = (0:Int32) then ((x2.toInt64) + ((f_fnArg o).toInt64)) else ((x2.toInt64) - ((f_fnArg o).toInt64)))), none, vI y325], [], (H1 s r330 e0))) rfl ?_
     obtain rfl := Option.some.inj h
     exact QTri.ret0 rfl rfl
 rcases em (x3 = (0:Int32)) with hc321 | hc321
 ·refine zT Ad W (t := 15) (f := 4) rfl (XT.i0_eq_t hc321) ?_
  refine zS Ad W 6 (st' := (23, [vR 1, vI x1, vI x2, vI x3, none, none, none], [.long ((x2.toInt64) + ((f_fnArg o).toInt64))], (H1 s o e0))) rfl ?_
  exact zM [tt,tt,ff,ff,ff,ff,ff] (K320 _ (if_pos hc321).symm)
 ·refine zF Ad W (t := 15) (f := 4) rfl (XT.i0_eq_f hc321) ?_
  refine zS Ad W 7 (st' := (23, [vR 1, vI x1, vI x2, vI x3, none, none, none], [.long ((x2.toInt64) - ((f_fnArg o).toInt64))], (H1 s o e0))) rfl ?_
  exact zM [tt,tt,ff,ff,ff,ff,ff] (K320 _ (if_neg hc321).symm)
/-- applyFunction(I)V -/
def F30 (o : Ob) (x1 : Int32) : Option (Ob) :=
 (if (f_fn o) = (0:Int32) then (F31 o x1 (f_aggSum o) (if (f_aggCount o) = (0:Int32) then (1:Int32) else (0:Int32))).bind fun r271 => some r271 else (if (f_fn o) = (1:Int32) then (F31 o x1 ((f_aggCount o).toInt64) (0:Int32)).bind fun r273 => some r273 else (if (f_fn o) = (2:Int32) then (F31 o x1 ((f_aggRows o).toInt64) (0:Int32)).bind fun r275 => some r275 else (if (f_fn o) = (3:Int32) then (F31 o x1 ((f_aggMin o).toInt64) (if (f_aggCount o) = (0:Int32) then (1:Int32) else (0:Int32))).bind fun r280 => some r280 else (if (f_fn o) = (4:Int32) then (F31 o x1 ((f_aggMax o).toInt64) (if (f_aggCount o) = (0:Int32) then (1:Int32) else (0:Int32))).bind fun r285 => some r285 else (if (f_fn o) = (5:Int32) then (F31 o x1 (((f_curPos o).toInt64) + (1 : Int64)) (0:Int32)).bind fun r287 => some r287 else (if (f_fn o) = (6:Int32) then (F38 o x1 (f_curPos o)).bind fun r298 => (F31 o x1 r298 (0:Int32)).bind fun r299 => some r299 else (if (f_fn o) = (7:Int32) then (F33 o x1 (f_curPos o)).bind fun r314 => (F31 o x1 r314 (0:Int32)).bind fun r315 => some r315 else (F36 o x1 (f_curPos o) (if (f_fn o) = (8:Int32) then (1:Int32) else (0:Int32))).bind fun r331 => some r331))))))))
theorem tF30 (Ad : QAd n0 ad) (W : QW Z a0) (s : List Int32) (e0 : Ob) (o : Ob) (x1 : Int32) {r : Ob} (h : F30 o x1 = some r) : QTri l Z n0 ad 30 (0, qentry [.ref 1, .int x1] (pMaxL 30), [], (H1 s o e0)) (none : Option Value) (H1 s r e0) := by
 unfold F30 at h
 refine zS Ad W 5 (st' := (9, [vR 1, vI x1, vI (f_curPos o), none, none], [.int (f_fn o)], (H1 s o e0))) rfl ?_
 rcases qite h with ⟨hc261, h⟩ | ⟨hc261, h⟩
 ·refine zF Ad W (t := 36) (f := 12) rfl (XT.i0_ne_f hc261) ?_
  refine zS Ad W 6 (st' := (22, [vR 1, vI x1, vI (f_curPos o), none, none], [.int (f_aggCount o), .long (f_aggSum o), .int x1, .ref 1], (H1 s o e0))) rfl ?_
  have K263 : ∀ z262 : Int32, z262 = (if (f_aggCount o) = (0:Int32) then (1:Int32) else (0:Int32)) → QTri l Z n0 ad 30 (30, [none, none, none, none, none], [.int z262, .long (f_aggSum o), .int x1, .ref 1], (H1 s o e0)) (none : Option Value) (H1 s r e0) := by
   intro z262 ez262
   subst ez262
   obtain ⟨r271, hr271, h⟩ := bind_eq_some_iff.mp h
   refine QTri.callP W (a := 1) (as := [.int x1, .long (f_aggSum o), .int (if (f_aggCount o) = (0:Int32) then (1:Int32) else (0:Int32))]) (rest := []) (w := none) (σ₁ := (H1 s r271 e0)) rfl rfl rfl rfl rfl rfl rfl rfl (tF31 Ad W s e0 o x1 (f_aggSum o) (if (f_aggCount o) = (0:Int32) then (1:Int32) else (0:Int32)) hr271) ?_
   refine zS Ad W 1 (st' := (239, [none, none, none, none, none], [], (H1 s r271 e0))) rfl ?_
   obtain rfl := Option.some.inj h
   exact QTri.ret0 rfl rfl
  rcases em ((f_aggCount o) = (0:Int32)) with hc264 | hc264
  ·refine zF Ad W (t := 29) (f := 25) rfl (XT.i0_ne_f hc264) ?_
   refine zS Ad W 2 (st' := (30, [vR 1, vI x1, vI (f_curPos o), none, none], [.int (1:Int32), .long (f_aggSum o), .int x1, .ref 1], (H1 s o e0))) rfl ?_
   exact zM [ff,ff,ff,ff,ff] (K263 _ (if_pos hc264).symm)
  ·refine zT Ad W (t := 29) (f := 25) rfl (XT.i0_ne_t hc264) ?_
   refine zS Ad W 1 (st' := (30, [vR 1, vI x1, vI (f_curPos o), none, none], [.int (0:Int32), .long (f_aggSum o), .int x1, .ref 1], (H1 s o e0))) rfl ?_
   exact zM [ff,ff,ff,ff,ff] (K263 _ (if_neg hc264).symm)
 ·refine zT Ad W (t := 36) (f := 12) rfl (XT.i0_ne_t hc261) ?_
  refine zS Ad W 3 (st' := (41, [vR 1, vI x1, vI (f_curPos o), none, none], [.int (1:Int32), .int (f_fn o)], (H1 s o e0))) rfl ?_
  rcases qite h with ⟨hc272, h⟩ | ⟨hc272, h⟩
  ·refine zF Ad W (t := 58) (f := 44) rfl (XT.ii_ne_f hc272) ?_
   refine zS Ad W 6 (st' := (52, [vR 1, vI x1, vI (f_curPos o), none, none], [.int (0:Int32), .long ((f_aggCount o).toInt64), .int x1, .ref 1], (H1 s o e0))) rfl ?_
   obtain ⟨r273, hr273, h⟩ := bind_eq_some_iff.mp h
   refine QTri.callP W (a := 1) (as := [.int x1, .long ((f_aggCount o).toInt64), .int (0:Int32)]) (rest := []) (w := none) (σ₁ := (H1 s r273 e0)) rfl rfl rfl rfl rfl rfl rfl rfl (tF31 Ad W s e0 o x1 ((f_aggCount o).toInt64) (0:Int32) hr273) ?_
   refine zS Ad W 1 (st' := (239, [vR 1, vI x1, vI (f_curPos o), none, none], [], (H1 s r273 e0))) rfl ?_
   obtain rfl := Option.some.inj h
   exact QTri.ret0 rfl rfl
  ·refine zT Ad W (t := 58) (f := 44) rfl (XT.ii_ne_t hc272) ?_
   refine zS Ad W 3 (st' := (63, [vR 1, vI x1, vI (f_curPos o), none, none], [.int (2:Int32), .int (f_fn o)], (H1 s o e0))) rfl ?_
   rcases qite h with ⟨hc274, h⟩ | ⟨hc274, h⟩
   ·refine zF Ad W (t := 80) (f := 66) rfl (XT.ii_ne_f hc274) ?_
    refine zS Ad W 6 (st' := (74, [vR 1, vI x1, vI (f_curPos o), none, none], [.int (0:Int32), .long ((f_aggRows o).toInt64), .int x1, .ref 1], (H1 s o e0))) rfl ?_
    obtain ⟨r275, hr275, h⟩ := bind_eq_some_iff.mp h
    refine QTri.callP W (a := 1) (as := [.int x1, .long ((f_aggRows o).toInt64), .int (0:Int32)]) (rest := []) (w := none) (σ₁ := (H1 s r275 e0)) rfl rfl rfl rfl rfl rfl rfl rfl (tF31 Ad W s e0 o x1 ((f_aggRows o).toInt64) (0:Int32) hr275) ?_
    refine zS Ad W 1 (st' := (239, [vR 1, vI x1, vI (f_curPos o), none, none], [], (H1 s r275 e0))) rfl ?_
    obtain rfl := Option.some.inj h
    exact QTri.ret0 rfl rfl
   ·refine zT Ad W (t := 80) (f := 66) rfl (XT.ii_ne_t hc274) ?_
    refine zS Ad W 3 (st' := (85, [vR 1, vI x1, vI (f_curPos o), none, none], [.int (3:Int32), .int (f_fn o)], (H1 s o e0))) rfl ?_
    rcases qite h with ⟨hc276, h⟩ | ⟨hc276, h⟩
    ·refine zF Ad W (t := 113) (f := 88) rfl (XT.ii_ne_f hc276) ?_
     refine zS Ad W 7 (st' := (99, [vR 1, vI x1, vI (f_curPos o), none, none], [.int (f_aggCount o), .long ((f_aggMin o).toInt64), .int x1, .ref 1], (H1 s o e0))) rfl ?_
     have K278 : ∀ z277 : Int32, z277 = (if (f_aggCount o) = (0:Int32) then (1:Int32) else (0:Int32)) → QTri l Z n0 ad 30 (107, [none, none, none, none, none], [.int z277, .long ((f_aggMin o).toInt64), .int x1, .ref 1], (H1 s o e0)) (none : Option Value) (H1 s r e0) := by
      intro z277 ez277
      subst ez277
      obtain ⟨r280, hr280, h⟩ := bind_eq_some_iff.mp h
      refine QTri.callP W (a := 1) (as := [.int x1, .long ((f_aggMin o).toInt64), .int (if (f_aggCount o) = (0:Int32) then (1:Int32) else (0:Int32))]) (rest := []) (w := none) (σ₁ := (H1 s r280 e0)) rfl rfl rfl rfl rfl rfl rfl rfl (tF31 Ad W s e0 o x1 ((f_aggMin o).toInt64) (if (f_aggCount o) = (0:Int32) then (1:Int32) else (0:Int32)) hr280) ?_
      refine zS Ad W 1 (st' := (239, [none, none, none, none, none], [], (H1 s r280 e0))) rfl ?_
      obtain rfl := Option.some.inj h
      exact QTri.ret0 rfl rfl
     rcases em ((f_aggCount o) = (0:Int32)) with hc279 | hc279
     ·refine zF Ad W (t := 106) (f := 102) rfl (XT.i0_ne_f hc279) ?_
      refine zS Ad W 2 (st' := (107, [vR 1, vI x1, vI (f_curPos o), none, none], [.int (1:Int32), .long ((f_aggMin o).toInt64), .int x1, .ref 1], (H1 s o e0))) rfl ?_
      exact zM [ff,ff,ff,ff,ff] (K278 _ (if_pos hc279).symm)
     ·refine zT Ad W (t := 106) (f := 102) rfl (XT.i0_ne_t hc279) ?_
      refine zS Ad W 1 (st' := (107, [vR 1, vI x1, vI (f_curPos o), none, none], [.int (0:Int32), .long ((f_aggMin o).toInt64), .int x1, .ref 1], (H1 s o e0))) rfl ?_
      exact zM [ff,ff,ff,ff,ff] (K278 _ (if_neg hc279).symm)
    ·refine zT Ad W (t := 113) (f := 88) rfl (XT.ii_ne_t hc276) ?_
     refine zS Ad W 3 (st' := (118, [vR 1, vI x1, vI (f_curPos o), none, none], [.int (4:Int32), .int (f_fn o)], (H1 s o e0))) rfl ?_
     rcases qite h with ⟨hc281, h⟩ | ⟨hc281, h⟩
     ·refine zF Ad W (t := 146) (f := 121) rfl (XT.ii_ne_f hc281) ?_
      refine zS Ad W 7 (st' := (132, [vR 1, vI x1, vI (f_curPos o), none, none], [.int (f_aggCount o), .long ((f_aggMax o).toInt64), .int x1, .ref 1], (H1 s o e0))) rfl ?_
      have K283 : ∀ z282 : Int32, z282 = (if (f_aggCount o) = (0:Int32) then (1:Int32) else (0:Int32)) → QTri l Z n0 ad 30 (140, [none, none, none, none, none], [.int z282, .long ((f_aggMax o).toInt64), .int x1, .ref 1], (H1 s o e0)) (none : Option Value) (H1 s r e0) := by
       intro z282 ez282
       subst ez282
       obtain ⟨r285, hr285, h⟩ := bind_eq_some_iff.mp h
       refine QTri.callP W (a := 1) (as := [.int x1, .long ((f_aggMax o).toInt64), .int (if (f_aggCount o) = (0:Int32) then (1:Int32) else (0:Int32))]) (rest := []) (w := none) (σ₁ := (H1 s r285 e0)) rfl rfl rfl rfl rfl rfl rfl rfl (tF31 Ad W s e0 o x1 ((f_aggMax o).toInt64) (if (f_aggCount o) = (0:Int32) then (1:Int32) else (0:Int32)) hr285) ?_
       refine zS Ad W 1 (st' := (239, [none, none, none, none, none], [], (H1 s r285 e0))) rfl ?_
       obtain rfl := Option.some.inj h
       exact QTri.ret0 rfl rfl
      rcases em ((f_aggCount o) = (0:Int32)) with hc284 | hc284
      ·refine zF Ad W (t := 139) (f := 135) rfl (XT.i0_ne_f hc284) ?_
       refine zS Ad W 2 (st' := (140, [vR 1, vI x1, vI (f_curPos o), none, none], [.int (1:Int32), .long ((f_aggMax o).toInt64), .int x1, .ref 1], (H1 s o e0))) rfl ?_
       exact zM [ff,ff,ff,ff,ff] (K283 _ (if_pos hc284).symm)
      ·refine zT Ad W (t := 139) (f := 135) rfl (XT.i0_ne_t hc284) ?_
       refine zS Ad W 1 (st' := (140, [vR 1, vI x1, vI (f_curPos o), none, none], [.int (0:Int32), .long ((f_aggMax o).toInt64), .int x1, .ref 1], (H1 s o e0))) rfl ?_
       exact zM [ff,ff,ff,ff,ff] (K283 _ (if_neg hc284).symm)
     ·refine zT Ad W (t := 146) (f := 121) rfl (XT.ii_ne_t hc281) ?_
      refine zS Ad W 3 (st' := (151, [vR 1, vI x1, vI (f_curPos o), none, none], [.int (5:Int32), .int (f_fn o)], (H1 s o e0))) rfl ?_
      rcases qite h with ⟨hc286, h⟩ | ⟨hc286, h⟩
      ·refine zF Ad W (t := 167) (f := 154) rfl (XT.ii_ne_f hc286) ?_
       refine zS Ad W 7 (st' := (161, [vR 1, vI x1, vI (f_curPos o), none, none], [.int (0:Int32), .long (((f_curPos o).toInt64) + (1 : Int64)), .int x1, .ref 1], (H1 s o e0))) rfl ?_
       obtain ⟨r287, hr287, h⟩ := bind_eq_some_iff.mp h
       refine QTri.callP W (a := 1) (as := [.int x1, .long (((f_curPos o).toInt64) + (1 : Int64)), .int (0:Int32)]) (rest := []) (w := none) (σ₁ := (H1 s r287 e0)) rfl rfl rfl rfl rfl rfl rfl rfl (tF31 Ad W s e0 o x1 (((f_curPos o).toInt64) + (1 : Int64)) (0:Int32) hr287) ?_
       refine zS Ad W 1 (st' := (239, [vR 1, vI x1, vI (f_curPos o), none, none], [], (H1 s r287 e0))) rfl ?_
       obtain rfl := Option.some.inj h
       exact QTri.ret0 rfl rfl
      ·refine zT Ad W (t := 167) (f := 154) rfl (XT.ii_ne_t hc286) ?_
       refine zS Ad W 3 (st' := (173, [vR 1, vI x1, vI (f_curPos o), none, none], [.int (6:Int32), .int (f_fn o)], (H1 s o e0))) rfl ?_
       rcases qite h with ⟨hc288, h⟩ | ⟨hc288, h⟩
       ·refine zF Ad W (t := 193) (f := 176) rfl (XT.ii_ne_f hc288) ?_
        refine zS Ad W 3 (st' := (179, [vR 1, vI x1, vI (f_curPos o), none, none], [.int (f_curPos o), .int x1, .ref 1], (H1 s o e0))) rfl ?_
        obtain ⟨r298, hr298, h⟩ := bind_eq_some_iff.mp h
        refine QTri.callP W (a := 1) (as := [.int x1, .int (f_curPos o)]) (rest := []) (w := (some (.long r298))) (σ₁ := (H1 s o e0)) rfl rfl rfl rfl rfl rfl rfl rfl (tF38 Ad W s e0 o x1 (f_curPos o) hr298) ?_
        refine zS Ad W 5 (st' := (187, [vR 1, vI x1, vI (f_curPos o), some (.long r298), none], [.int (0:Int32), .long r298, .int x1, .ref 1], (H1 s o e0))) rfl ?_
        obtain ⟨r299, hr299, h⟩ := bind_eq_some_iff.mp h
        refine QTri.callP W (a := 1) (as := [.int x1, .long r298, .int (0:Int32)]) (rest := []) (w := none) (σ₁ := (H1 s r299 e0)) rfl rfl rfl rfl rfl rfl rfl rfl (tF31 Ad W s e0 o x1 r298 (0:Int32) hr299) ?_
        refine zS Ad W 1 (st' := (239, [vR 1, vI x1, vI (f_curPos o), some (.long r298), none], [], (H1 s r299 e0))) rfl ?_
        obtain rfl := Option.some.inj h
        exact QTri.ret0 rfl rfl
       ·refine zT Ad W (t := 193) (f := 176) rfl (XT.ii_ne_t hc288) ?_
        refine zS Ad W 3 (st' := (199, [vR 1, vI x1, vI (f_curPos o), none, none], [.int (7:Int32), .int (f_fn o)], (H1 s o e0))) rfl ?_
        rcases qite h with ⟨hc300, h⟩ | ⟨hc300, h⟩
        ·refine zF Ad W (t := 219) (f := 202) rfl (XT.ii_ne_f hc300) ?_
         refine zS Ad W 3 (st' := (205, [vR 1, vI x1, vI (f_curPos o), none, none], [.int (f_curPos o), .int x1, .ref 1], (H1 s o e0))) rfl ?_
         obtain ⟨r314, hr314, h⟩ := bind_eq_some_iff.mp h
         refine QTri.callP W (a := 1) (as := [.int x1, .int (f_curPos o)]) (rest := []) (w := (some (.long r314))) (σ₁ := (H1 s o e0)) rfl rfl rfl rfl rfl rfl rfl rfl (tF33 Ad W s e0 o x1 (f_curPos o) hr314) ?_
         refine zS Ad W 5 (st' := (213, [vR 1, vI x1, vI (f_curPos o), some (.long r314), none], [.int (0:Int32), .long r314, .int x1, .ref 1], (H1 s o e0))) rfl ?_
         obtain ⟨r315, hr315, h⟩ := bind_eq_some_iff.mp h
         refine QTri.callP W (a := 1) (as := [.int x1, .long r314, .int (0:Int32)]) (rest := []) (w := none) (σ₁ := (H1 s r315 e0)) rfl rfl rfl rfl rfl rfl rfl rfl (tF31 Ad W s e0 o x1 r314 (0:Int32) hr315) ?_
         refine zS Ad W 1 (st' := (239, [vR 1, vI x1, vI (f_curPos o), some (.long r314), none], [], (H1 s r315 e0))) rfl ?_
         obtain rfl := Option.some.inj h
         exact QTri.ret0 rfl rfl
        ·refine zT Ad W (t := 219) (f := 202) rfl (XT.ii_ne_t hc300) ?_
         refine zS Ad W 6 (st' := (228, [vR 1, vI x1, vI (f_curPos o), none, none], [.int (8:Int32), .int (f_fn o), .int (f_curPos o), .int x1, .ref 1], (H1 s o e0))) rfl ?_
         have K317 : ∀ z316 : Int32, z316 = (if (f_fn o) = (8:Int32) then (1:Int32) else (0:Int32)) → QTri l Z n0 ad 30 (236, [none, none, none, none, none], [.int z316, .int (f_curPos o), .int x1, .ref 1], (H1 s o e0)) (none : Option Value) (H1 s r e0) := by
          intro z316 ez316
          subst ez316
          obtain ⟨r331, hr331, h⟩ := bind_eq_some_iff.mp h
          refine QTri.callP W (a := 1) (as := [.int x1, .int (f_curPos o), .int (if (f_fn o) = (8:Int32) then (1:Int32) else (0:Int32))]) (rest := []) (w := none) (σ₁ := (H1 s r331 e0)) rfl rfl rfl rfl rfl rfl rfl rfl (tF36 Ad W s e0 o x1 (f_curPos o) (if (f_fn o) = (8:Int32) then (1:Int32) else (0:Int32)) hr331) ?_
          obtain rfl := Option.some.inj h
          exact QTri.ret0 rfl rfl
         rcases em ((f_fn o) = (8:Int32)) with hc318 | hc318
         ·refine zF Ad W (t := 235) (f := 231) rfl (XT.ii_ne_f hc318) ?_
          refine zS Ad W 2 (st' := (236, [vR 1, vI x1, vI (f_curPos o), none, none], [.int (1:Int32), .int (f_curPos o), .int x1, .ref 1], (H1 s o e0))) rfl ?_
          exact zM [ff,ff,ff,ff,ff] (K317 _ (if_pos hc318).symm)
         ·refine zT Ad W (t := 235) (f := 231) rfl (XT.ii_ne_t hc318) ?_
          refine zS Ad W 1 (st' := (236, [vR 1, vI x1, vI (f_curPos o), none, none], [.int (0:Int32), .int (f_curPos o), .int x1, .ref 1], (H1 s o e0))) rfl ?_
          exact zM [ff,ff,ff,ff,ff] (K317 _ (if_neg hc318).symm)
/-- computeRow(I)V -/
def F21 (o : Ob) (x1 : Int32) : Option (Ob) :=
 (F22 o x1).bind fun r166 => (F23 r166 x1).bind fun r258 => (aset (f_frameCnt r258) x1 (f_aggRows r258)).bind fun y259 => (F30 (s_frameCnt r258 y259) x1).bind fun r332 => some r332
theorem tF21 (Ad : QAd n0 ad) (W : QW Z a0) (s : List Int32) (e0 : Ob) (o : Ob) (x1 : Int32) {r : Ob} (h : F21 o x1 = some r) : QTri l Z n0 ad 21 (0, qentry [.ref 1, .int x1] (pMaxL 21), [], (H1 s o e0)) (none : Option Value) (H1 s r e0) := by
 unfold F21 at h
 refine zS Ad W 2 (st' := (2, [vR 1, vI x1], [.int x1, .ref 1], (H1 s o e0))) rfl ?_
 obtain ⟨r166, hr166, h⟩ := bind_eq_some_iff.mp h
 refine QTri.callP W (a := 1) (as := [.int x1]) (rest := []) (w := none) (σ₁ := (H1 s r166 e0)) rfl rfl rfl rfl rfl rfl rfl rfl (tF22 Ad W s e0 o x1 hr166) ?_
 refine zS Ad W 2 (st' := (7, [vR 1, vI x1], [.int x1, .ref 1], (H1 s r166 e0))) rfl ?_
 obtain ⟨r258, hr258, h⟩ := bind_eq_some_iff.mp h
 refine QTri.callP W (a := 1) (as := [.int x1]) (rest := []) (w := none) (σ₁ := (H1 s r258 e0)) rfl rfl rfl rfl rfl rfl rfl rfl (tF23 Ad W s e0 r166 x1 hr258) ?_
 refine zS Ad W 5 (st' := (19, [vR 1, vI x1], [.int (f_aggRows r258), .int x1, .ref 8], (H1 s r258 e0))) rfl ?_
 obtain ⟨y259, hy259, h⟩ := bind_eq_some_iff.mp h
 refine zB Ad W (f := fun y259 => (20, [vR 1, vI x1], [], (H1x61 s r258 e0 y259))) rfl hy259 ?_
 refine zS Ad W 2 (st' := (22, [vR 1, vI x1], [.int x1, .ref 1], (H1x61 s r258 e0 y259))) rfl ?_
 have E260 : ((H1x61 s r258 e0 y259) : QHeap) = (H1 s (s_frameCnt r258 y259) e0) := by simp only [fs, H1, H1v, H1x61, s_frameCnt]
 rw [E260]
 obtain ⟨r332, hr332, h⟩ := bind_eq_some_iff.mp h
 refine QTri.callP W (a := 1) (as := [.int x1]) (rest := []) (w := none) (σ₁ := (H1 s r332 e0)) rfl rfl rfl rfl rfl rfl rfl rfl (tF30 Ad W s e0 (s_frameCnt r258 y259) x1 hr332) ?_
 obtain rfl := Option.some.inj h
 exact QTri.ret0 rfl rfl
def H1x64 (s : List Int32) (o0 o1 : Ob) (a0_19 : Int32) : QHeap := H1v s (f_part o0) (f_keys o0) (f_vals o0) (f_flg o0) (f_res o0) (f_resNull o0) (f_frameCnt o0) (f_sorted o0) (f_cap o0) (f_rows o0) (f_direction o0) (f_nulls o0) (f_mode o0) (f_startKind o0) (f_startOff o0) (f_endKind o0) (f_endOff o0) (f_fn o0) (f_fnArg o0) a0_19 (f_sortedLen o0) (f_curPos o0) (f_aggSum o0) (f_aggCount o0) (f_aggRows o0) (f_aggMin o0) (f_aggMax o0) (f_part o1) (f_keys o1) (f_vals o1) (f_flg o1) (f_res o1) (f_resNull o1) (f_frameCnt o1) (f_sorted o1) (f_cap o1) (f_rows o1) (f_direction o1) (f_nulls o1) (f_mode o1) (f_startKind o1) (f_startOff o1) (f_endKind o1) (f_endOff o1) (f_fn o1) (f_fnArg o1) (f_computed o1) (f_sortedLen o1) (f_curPos o1) (f_aggSum o1) (f_aggCount o1) (f_aggRows o1) (f_aggMin o1) (f_aggMax o1)
def B18_11 (v : Int32 × Ob) : Option (((Int32 × Ob)) ⊕ (Int32 × Ob)) :=
  (if v.1 < (f_rows v.2) then (F21 v.2 v.1).bind fun r333 => some (.inr ((v.1 + (1 : Int32)), r333)) else some (.inl ((0 : Int32), (s_computed v.2 (1 : Int32)))))
theorem tB18_11 (Ad : QAd n0 ad) (W : QW Z a0) (s : List Int32) (e0 : Ob) (v : Int32 × Ob) {r : ((Int32 × Ob)) ⊕ (Int32 × Ob)} {u : Option Value} {τ : QHeap} (h : B18_11 v = some r) (hx0 : ∀ x : Int32 × Ob, r = .inl x → u = (some (Value.int x.1)) ∧ τ = (H1 s x.2 e0)) (hc : ∀ x : Int32 × Ob, r = .inr x → QTri l Z n0 ad 18 (11, [vR 1, vI x.1], [], (H1 s x.2 e0)) u τ) : QTri l Z n0 ad 18 (11, [vR 1, vI v.1], [], (H1 s v.2 e0)) u τ := by
 unfold B18_11 at h
 refine zS Ad W 3 (st' := (16, [vR 1, vI v.1], [.int (f_rows v.2), .int v.1], (H1 s v.2 e0))) rfl ?_
 rcases qite h with ⟨hc117, h⟩ | ⟨hc117, h⟩
 ·refine zF Ad W (t := 30) (f := 19) rfl (XT.ii_ge_f hc117) ?_
  refine zS Ad W 2 (st' := (21, [vR 1, vI v.1], [.int v.1, .ref 1], (H1 s v.2 e0))) rfl ?_
  obtain ⟨r333, hr333, h⟩ := bind_eq_some_iff.mp h
  refine QTri.callP W (a := 1) (as := [.int v.1]) (rest := []) (w := none) (σ₁ := (H1 s r333 e0)) rfl rfl rfl rfl rfl rfl rfl rfl (tF21 Ad W s e0 v.2 v.1 hr333) ?_
  refine zS Ad W 2 (st' := (11, [vR 1, vI (v.1 + (1:Int32))], [], (H1 s r333 e0))) rfl ?_
  obtain rfl := Option.some.inj h
  exact zM [tt,tt] (hc ((v.1 + (1:Int32)), r333) rfl)
 ·refine zT Ad W (t := 30) (f := 19) rfl (XT.ii_ge_t hc117) ?_
  refine zS Ad W 3 (st' := (35, [vR 1, vI v.1], [], (H1x64 s v.2 e0 (1:Int32)))) rfl ?_
  refine zS Ad W 1 (st' := (36, [vR 1, vI v.1], [.int (0:Int32)], (H1x64 s v.2 e0 (1:Int32)))) rfl ?_
  have E334 : ((H1x64 s v.2 e0 (1:Int32)) : QHeap) = (H1 s (s_computed v.2 (1:Int32)) e0) := by simp only [fs, H1, H1v, H1x64, s_computed]
  rw [E334]
  obtain rfl := Option.some.inj h
  obtain ⟨rfl, rfl⟩ := hx0 ((0:Int32), (s_computed v.2 (1:Int32))) rfl
  exact QTri.retI rfl rfl
/-- compute()I -/
def F18 (o : Ob) : Option (Int32 × Ob) :=
 (F19 o).bind fun r115 => (if r115 = (0:Int32) then (loopN (B18_11) qN ((0:Int32), o)).bind fun e335 => some e335 else some ((-1:Int32), o))
theorem tF18 (Ad : QAd n0 ad) (W : QW Z a0) (s : List Int32) (e0 : Ob) (o : Ob) {r : Int32 × Ob} (h : F18 o = some r) : QTri l Z n0 ad 18 (0, qentry [.ref 1] (pMaxL 18), [], (H1 s o e0)) (some (Value.int r.1)) (H1 s r.2 e0) := by
 unfold F18 at h
 refine zS Ad W 1 (st' := (1, [vR 1, none], [.ref 1], (H1 s o e0))) rfl ?_
 obtain ⟨r115, hr115, h⟩ := bind_eq_some_iff.mp h
 refine QTri.callP W (a := 1) (as := []) (rest := []) (w := (some (.int r115))) (σ₁ := (H1 s o e0)) rfl rfl rfl rfl rfl rfl rfl rfl (tF19 Ad W s e0 o hr115) ?_
 rcases qite h with ⟨hc116, h⟩ | ⟨hc116, h⟩
 ·refine zT Ad W (t := 9) (f := 7) rfl (XT.i0_eq_t hc116) ?_
  refine zS Ad W 2 (st' := (11, [vR 1, vI (0:Int32)], [], (H1 s o e0))) rfl ?_
  obtain ⟨e335, he335, h⟩ := bind_eq_some_iff.mp h
  refine zM [tt,tt] (loopN_tri (B := B18_11) (T := fun lv336 => QTri l Z n0 ad 18 (11, [vR 1, vI lv336.1], [], (H1 s lv336.2 e0)) (some (Value.int r.1)) (H1 s r.2 e0)) (KE := fun e335a => (some (Value.int r.1)) = (some (Value.int e335a.1)) ∧ (H1 s r.2 e0) = (H1 s e335a.2 e0)) (fun lv336 r hB hE hC => tB18_11 Ad W s e0 lv336 hB (fun x q => hE _ q) (fun x q => hC x q)) qN ((0:Int32), o) e335 he335 ?_)
  obtain rfl := Option.some.inj h
  exact ⟨rfl, rfl⟩
 ·refine zF Ad W (t := 9) (f := 7) rfl (XT.i0_eq_f hc116) ?_
  refine zS Ad W 1 (st' := (8, [vR 1, none], [.int (-1:Int32)], (H1 s o e0))) rfl ?_
  obtain rfl := Option.some.inj h
  exact QTri.retI rfl rfl
/-- apply(LWindowFuncEngine;IIIII)Z -/
def F3 (o : Ob) (x1 : Int32) (x2 : Int32) (x3 : Int32) (x4 : Int32) (x5 : Int32) : Option (Int32 × Ob) :=
 (if x1 = (0:Int32) then (F5 o x2 x3 x4 x5).bind fun r44 => (if r44.1 = (-1:Int32) then some ((0:Int32), r44.2) else some ((1:Int32), r44.2)) else (if x1 = (1:Int32) then (F7 o).bind fun r48 => some ((1:Int32), r48) else (if x1 = (2:Int32) then (F6 o x2 x3).bind fun r55 => some ((r55.1 &&& 1), r55.2) else (if x1 = (3:Int32) then (F4 o x2).bind fun r60 => some ((r60.1 &&& 1), r60.2) else (if x1 = (4:Int32) then (F17 o x2 x3).bind fun r74 => some ((r74.1 &&& 1), r74.2) else (if x1 = (5:Int32) then (F20 o x2 x3).bind fun r88 => some ((r88.1 &&& 1), r88.2) else (if x1 = (6:Int32) then (F16 o x2 x3).bind fun r102 => some ((r102.1 &&& 1), r102.2) else (F18 o).bind fun r337 => (if r337.1 = (-1:Int32) then some ((0:Int32), r337.2) else some ((1:Int32), r337.2)))))))))
theorem tF3 (Ad : QAd n0 ad) (W : QW Z a0) (s : List Int32) (e0 : Ob) (o : Ob) (x1 : Int32) (x2 : Int32) (x3 : Int32) (x4 : Int32) (x5 : Int32) {r : Int32 × Ob} (h : F3 o x1 x2 x3 x4 x5 = some r) : QTri l Z n0 ad 3 (0, qentry [.ref 1, .int x1, .int x2, .int x3, .int x4, .int x5] (pMaxL 3), [], (H1 s o e0)) (some (Value.int r.1)) (H1 s r.2 e0) := by
 unfold F3 at h
 refine zS Ad W 1 (st' := (1, [vR 1, vI x1, vI x2, vI x3, vI x4, vI x5], [.int x1], (H1 s o e0))) rfl ?_
 rcases qite h with ⟨hc29, h⟩ | ⟨hc29, h⟩
 ·refine zF Ad W (t := 24) (f := 4) rfl (XT.i0_ne_f hc29) ?_
  refine zS Ad W 5 (st' := (11, [vR 1, vI x1, vI x2, vI x3, vI x4, vI x5], [.int x5, .int x4, .int x3, .int x2, .ref 1], (H1 s o e0))) rfl ?_
  obtain ⟨r44, hr44, h⟩ := bind_eq_some_iff.mp h
  refine QTri.callV W (a := 1) (as := [.int x2, .int x3, .int x4, .int x5]) (rest := []) (w := (some (.int r44.1))) (σ₁ := (H1 s r44.2 e0)) rfl rfl rfl rfl rfl rfl rfl rfl (tF5 Ad W s e0 o x2 x3 x4 x5 hr44) ?_
  refine zS Ad W 1 (st' := (15, [vR 1, vI x1, vI x2, vI x3, vI x4, vI x5], [.int (-1:Int32), .int r44.1], (H1 s r44.2 e0))) rfl ?_
  rcases qite h with ⟨hc45, h⟩ | ⟨hc45, h⟩
  ·refine zT Ad W (t := 22) (f := 18) rfl (XT.ii_eq_t hc45) ?_
   refine zS Ad W 1 (st' := (23, [vR 1, vI x1, vI x2, vI x3, vI x4, vI x5], [.int (0:Int32)], (H1 s r44.2 e0))) rfl ?_
   obtain rfl := Option.some.inj h
   exact QTri.retZ rfl rfl
  ·refine zF Ad W (t := 22) (f := 18) rfl (XT.ii_eq_f hc45) ?_
   refine zS Ad W 2 (st' := (23, [vR 1, vI x1, vI x2, vI x3, vI x4, vI x5], [.int (1:Int32)], (H1 s r44.2 e0))) rfl ?_
   obtain rfl := Option.some.inj h
   exact QTri.retZ rfl rfl
 ·refine zT Ad W (t := 24) (f := 4) rfl (XT.i0_ne_t hc29) ?_
  refine zS Ad W 2 (st' := (26, [vR 1, vI x1, vI x2, vI x3, vI x4, vI x5], [.int (1:Int32), .int x1], (H1 s o e0))) rfl ?_
  rcases qite h with ⟨hc46, h⟩ | ⟨hc46, h⟩
  ·refine zF Ad W (t := 35) (f := 29) rfl (XT.ii_ne_f hc46) ?_
   refine zS Ad W 1 (st' := (30, [vR 1, vI x1, vI x2, vI x3, vI x4, vI x5], [.ref 1], (H1 s o e0))) rfl ?_
   obtain ⟨r48, hr48, h⟩ := bind_eq_some_iff.mp h
   refine QTri.callV W (a := 1) (as := []) (rest := []) (w := none) (σ₁ := (H1 s r48 e0)) rfl rfl rfl rfl rfl rfl rfl rfl (tF7 Ad W s e0 o hr48) ?_
   refine zS Ad W 1 (st' := (34, [vR 1, vI x1, vI x2, vI x3, vI x4, vI x5], [.int (1:Int32)], (H1 s r48 e0))) rfl ?_
   obtain rfl := Option.some.inj h
   exact QTri.retZ rfl rfl
  ·refine zT Ad W (t := 35) (f := 29) rfl (XT.ii_ne_t hc46) ?_
   refine zS Ad W 2 (st' := (37, [vR 1, vI x1, vI x2, vI x3, vI x4, vI x5], [.int (2:Int32), .int x1], (H1 s o e0))) rfl ?_
   rcases qite h with ⟨hc49, h⟩ | ⟨hc49, h⟩
   ·refine zF Ad W (t := 47) (f := 40) rfl (XT.ii_ne_f hc49) ?_
    refine zS Ad W 3 (st' := (43, [vR 1, vI x1, vI x2, vI x3, vI x4, vI x5], [.int x3, .int x2, .ref 1], (H1 s o e0))) rfl ?_
    obtain ⟨r55, hr55, h⟩ := bind_eq_some_iff.mp h
    refine QTri.callV W (a := 1) (as := [.int x2, .int x3]) (rest := []) (w := (some (.int r55.1))) (σ₁ := (H1 s r55.2 e0)) rfl rfl rfl rfl rfl rfl rfl rfl (tF6 Ad W s e0 o x2 x3 hr55) ?_
    obtain rfl := Option.some.inj h
    exact QTri.retZ rfl rfl
   ·refine zT Ad W (t := 47) (f := 40) rfl (XT.ii_ne_t hc49) ?_
    refine zS Ad W 2 (st' := (49, [vR 1, vI x1, vI x2, vI x3, vI x4, vI x5], [.int (3:Int32), .int x1], (H1 s o e0))) rfl ?_
    rcases qite h with ⟨hc56, h⟩ | ⟨hc56, h⟩
    ·refine zF Ad W (t := 58) (f := 52) rfl (XT.ii_ne_f hc56) ?_
     refine zS Ad W 2 (st' := (54, [vR 1, vI x1, vI x2, vI x3, vI x4, vI x5], [.int x2, .ref 1], (H1 s o e0))) rfl ?_
     obtain ⟨r60, hr60, h⟩ := bind_eq_some_iff.mp h
     refine QTri.callV W (a := 1) (as := [.int x2]) (rest := []) (w := (some (.int r60.1))) (σ₁ := (H1 s r60.2 e0)) rfl rfl rfl rfl rfl rfl rfl rfl (tF4 Ad W s e0 o x2 hr60) ?_
     obtain rfl := Option.some.inj h
     exact QTri.retZ rfl rfl
    ·refine zT Ad W (t := 58) (f := 52) rfl (XT.ii_ne_t hc56) ?_
     refine zS Ad W 2 (st' := (60, [vR 1, vI x1, vI x2, vI x3, vI x4, vI x5], [.int (4:Int32), .int x1], (H1 s o e0))) rfl ?_
     rcases qite h with ⟨hc61, h⟩ | ⟨hc61, h⟩
     ·refine zF Ad W (t := 70) (f := 63) rfl (XT.ii_ne_f hc61) ?_
      refine zS Ad W 3 (st' := (66, [vR 1, vI x1, vI x2, vI x3, vI x4, vI x5], [.int x3, .int x2, .ref 1], (H1 s o e0))) rfl ?_
      obtain ⟨r74, hr74, h⟩ := bind_eq_some_iff.mp h
      refine QTri.callV W (a := 1) (as := [.int x2, .int x3]) (rest := []) (w := (some (.int r74.1))) (σ₁ := (H1 s r74.2 e0)) rfl rfl rfl rfl rfl rfl rfl rfl (tF17 Ad W s e0 o x2 x3 hr74) ?_
      obtain rfl := Option.some.inj h
      exact QTri.retZ rfl rfl
     ·refine zT Ad W (t := 70) (f := 63) rfl (XT.ii_ne_t hc61) ?_
      refine zS Ad W 2 (st' := (72, [vR 1, vI x1, vI x2, vI x3, vI x4, vI x5], [.int (5:Int32), .int x1], (H1 s o e0))) rfl ?_
      rcases qite h with ⟨hc75, h⟩ | ⟨hc75, h⟩
      ·refine zF Ad W (t := 82) (f := 75) rfl (XT.ii_ne_f hc75) ?_
       refine zS Ad W 3 (st' := (78, [vR 1, vI x1, vI x2, vI x3, vI x4, vI x5], [.int x3, .int x2, .ref 1], (H1 s o e0))) rfl ?_
       obtain ⟨r88, hr88, h⟩ := bind_eq_some_iff.mp h
       refine QTri.callV W (a := 1) (as := [.int x2, .int x3]) (rest := []) (w := (some (.int r88.1))) (σ₁ := (H1 s r88.2 e0)) rfl rfl rfl rfl rfl rfl rfl rfl (tF20 Ad W s e0 o x2 x3 hr88) ?_
       obtain rfl := Option.some.inj h
       exact QTri.retZ rfl rfl
      ·refine zT Ad W (t := 82) (f := 75) rfl (XT.ii_ne_t hc75) ?_
       refine zS Ad W 2 (st' := (85, [vR 1, vI x1, vI x2, vI x3, vI x4, vI x5], [.int (6:Int32), .int x1], (H1 s o e0))) rfl ?_
       rcases qite h with ⟨hc89, h⟩ | ⟨hc89, h⟩
       ·refine zF Ad W (t := 95) (f := 88) rfl (XT.ii_ne_f hc89) ?_
        refine zS Ad W 3 (st' := (91, [vR 1, vI x1, vI x2, vI x3, vI x4, vI x5], [.int x3, .int x2, .ref 1], (H1 s o e0))) rfl ?_
        obtain ⟨r102, hr102, h⟩ := bind_eq_some_iff.mp h
        refine QTri.callV W (a := 1) (as := [.int x2, .int x3]) (rest := []) (w := (some (.int r102.1))) (σ₁ := (H1 s r102.2 e0)) rfl rfl rfl rfl rfl rfl rfl rfl (tF16 Ad W s e0 o x2 x3 hr102) ?_
        obtain rfl := Option.some.inj h
        exact QTri.retZ rfl rfl
       ·refine zT Ad W (t := 95) (f := 88) rfl (XT.ii_ne_t hc89) ?_
        refine zS Ad W 1 (st' := (96, [vR 1, vI x1, vI x2, vI x3, vI x4, vI x5], [.ref 1], (H1 s o e0))) rfl ?_
        obtain ⟨r337, hr337, h⟩ := bind_eq_some_iff.mp h
        refine QTri.callV W (a := 1) (as := []) (rest := []) (w := (some (.int r337.1))) (σ₁ := (H1 s r337.2 e0)) rfl rfl rfl rfl rfl rfl rfl rfl (tF18 Ad W s e0 o hr337) ?_
        refine zS Ad W 1 (st' := (100, [vR 1, vI x1, vI x2, vI x3, vI x4, vI x5], [.int (-1:Int32), .int r337.1], (H1 s r337.2 e0))) rfl ?_
        rcases qite h with ⟨hc338, h⟩ | ⟨hc338, h⟩
        ·refine zT Ad W (t := 107) (f := 103) rfl (XT.ii_eq_t hc338) ?_
         refine zS Ad W 1 (st' := (108, [vR 1, vI x1, vI x2, vI x3, vI x4, vI x5], [.int (0:Int32)], (H1 s r337.2 e0))) rfl ?_
         obtain rfl := Option.some.inj h
         exact QTri.retZ rfl rfl
        ·refine zF Ad W (t := 107) (f := 103) rfl (XT.ii_eq_f hc338) ?_
         refine zS Ad W 2 (st' := (108, [vR 1, vI x1, vI x2, vI x3, vI x4, vI x5], [.int (1:Int32)], (H1 s r337.2 e0))) rfl ?_
         obtain rfl := Option.some.inj h
         exact QTri.retZ rfl rfl
def J0_98 (s : List Int32) (p0 : Ob) (p1 : Ob) (x3 : Int32) : Option (((Ob × Ob)) ⊕ (Int32 × Ob × Ob)) :=
  some (.inr ((x3 + (5 : Int32)), p0, p1))
theorem tJ0_98 (Ad : QAd n0 ad) (W : QW Z a0) (s : List Int32) (p0 : Ob) (p1 : Ob) (x3 : Int32) {r : ((Ob × Ob)) ⊕ (Int32 × Ob × Ob)} {u : Option Value} {τ : QHeap} (h : J0_98 s p0 p1 x3 = some r) (hx0 : ∀ x : Ob × Ob, r = .inl x → QTri l Z n0 ad 0 (104, [none, vR 1, vR 10, none, none, none], [], (H1 s x.1 x.2)) u τ) (hc : ∀ x : Int32 × Ob × Ob, r = .inr x → QTri l Z n0 ad 0 (22, [vR 0, vR 1, vR 10, vI x.1, none, none], [], (H1 s x.2.1 x.2.2)) u τ) : QTri l Z n0 ad 0 (98, [vR 0, vR 1, vR 10, vI x3, none, none], [], (H1 s p0 p1)) u τ := by
 unfold J0_98 at h
 refine zS Ad W 2 (st' := (22, [vR 0, vR 1, vR 10, vI (x3 + (5:Int32)), none, none], [], (H1 s p0 p1))) rfl ?_
 obtain rfl := Option.some.inj h
 exact zM [tt,tt,tt,tt,ff,ff] (hc ((x3 + (5:Int32)), p0, p1) rfl)
def H1x65 (s : List Int32) (o0 o1 : Ob) (a1_0 : List Int32) : QHeap := H1v s (f_part o0) (f_keys o0) (f_vals o0) (f_flg o0) (f_res o0) (f_resNull o0) (f_frameCnt o0) (f_sorted o0) (f_cap o0) (f_rows o0) (f_direction o0) (f_nulls o0) (f_mode o0) (f_startKind o0) (f_startOff o0) (f_endKind o0) (f_endOff o0) (f_fn o0) (f_fnArg o0) (f_computed o0) (f_sortedLen o0) (f_curPos o0) (f_aggSum o0) (f_aggCount o0) (f_aggRows o0) (f_aggMin o0) (f_aggMax o0) a1_0 (f_keys o1) (f_vals o1) (f_flg o1) (f_res o1) (f_resNull o1) (f_frameCnt o1) (f_sorted o1) (f_cap o1) (f_rows o1) (f_direction o1) (f_nulls o1) (f_mode o1) (f_startKind o1) (f_startOff o1) (f_endKind o1) (f_endOff o1) (f_fn o1) (f_fnArg o1) (f_computed o1) (f_sortedLen o1) (f_curPos o1) (f_aggSum o1) (f_aggCount o1) (f_aggRows o1) (f_aggMin o1) (f_aggMax o1)
def H1x66 (s : List Int32) (o0 o1 : Ob) (a1_0 : List Int32) (a1_1 : List Int32) : QHeap := H1v s (f_part o0) (f_keys o0) (f_vals o0) (f_flg o0) (f_res o0) (f_resNull o0) (f_frameCnt o0) (f_sorted o0) (f_cap o0) (f_rows o0) (f_direction o0) (f_nulls o0) (f_mode o0) (f_startKind o0) (f_startOff o0) (f_endKind o0) (f_endOff o0) (f_fn o0) (f_fnArg o0) (f_computed o0) (f_sortedLen o0) (f_curPos o0) (f_aggSum o0) (f_aggCount o0) (f_aggRows o0) (f_aggMin o0) (f_aggMax o0) a1_0 a1_1 (f_vals o1) (f_flg o1) (f_res o1) (f_resNull o1) (f_frameCnt o1) (f_sorted o1) (f_cap o1) (f_rows o1) (f_direction o1) (f_nulls o1) (f_mode o1) (f_startKind o1) (f_startOff o1) (f_endKind o1) (f_endOff o1) (f_fn o1) (f_fnArg o1) (f_computed o1) (f_sortedLen o1) (f_curPos o1) (f_aggSum o1) (f_aggCount o1) (f_aggRows o1) (f_aggMin o1) (f_aggMax o1)
def H1x67 (s : List Int32) (o0 o1 : Ob) (a1_0 : List Int32) (a1_1 : List Int32) (a1_2 : List Int32) : QHeap := H1v s (f_part o0) (f_keys o0) (f_vals o0) (f_flg o0) (f_res o0) (f_resNull o0) (f_frameCnt o0) (f_sorted o0) (f_cap o0) (f_rows o0) (f_direction o0) (f_nulls o0) (f_mode o0) (f_startKind o0) (f_startOff o0) (f_endKind o0) (f_endOff o0) (f_fn o0) (f_fnArg o0) (f_computed o0) (f_sortedLen o0) (f_curPos o0) (f_aggSum o0) (f_aggCount o0) (f_aggRows o0) (f_aggMin o0) (f_aggMax o0) a1_0 a1_1 a1_2 (f_flg o1) (f_res o1) (f_resNull o1) (f_frameCnt o1) (f_sorted o1) (f_cap o1) (f_rows o1) (f_direction o1) (f_nulls o1) (f_mode o1) (f_startKind o1) (f_startOff o1) (f_endKind o1) (f_endOff o1) (f_fn o1) (f_fnArg o1) (f_computed o1) (f_sortedLen o1) (f_curPos o1) (f_aggSum o1) (f_aggCount o1) (f_aggRows o1) (f_aggMin o1) (f_aggMax o1)
def H1x68 (s : List Int32) (o0 o1 : Ob) (a1_0 : List Int32) (a1_1 : List Int32) (a1_2 : List Int32) (a1_3 : List Int32) : QHeap := H1v s (f_part o0) (f_keys o0) (f_vals o0) (f_flg o0) (f_res o0) (f_resNull o0) (f_frameCnt o0) (f_sorted o0) (f_cap o0) (f_rows o0) (f_direction o0) (f_nulls o0) (f_mode o0) (f_startKind o0) (f_startOff o0) (f_endKind o0) (f_endOff o0) (f_fn o0) (f_fnArg o0) (f_computed o0) (f_sortedLen o0) (f_curPos o0) (f_aggSum o0) (f_aggCount o0) (f_aggRows o0) (f_aggMin o0) (f_aggMax o0) a1_0 a1_1 a1_2 a1_3 (f_res o1) (f_resNull o1) (f_frameCnt o1) (f_sorted o1) (f_cap o1) (f_rows o1) (f_direction o1) (f_nulls o1) (f_mode o1) (f_startKind o1) (f_startOff o1) (f_endKind o1) (f_endOff o1) (f_fn o1) (f_fnArg o1) (f_computed o1) (f_sortedLen o1) (f_curPos o1) (f_aggSum o1) (f_aggCount o1) (f_aggRows o1) (f_aggMin o1) (f_aggMax o1)
def H1x69 (s : List Int32) (o0 o1 : Ob) (a1_0 : List Int32) (a1_1 : List Int32) (a1_2 : List Int32) (a1_3 : List Int32) (a1_9 : Int32) : QHeap := H1v s (f_part o0) (f_keys o0) (f_vals o0) (f_flg o0) (f_res o0) (f_resNull o0) (f_frameCnt o0) (f_sorted o0) (f_cap o0) (f_rows o0) (f_direction o0) (f_nulls o0) (f_mode o0) (f_startKind o0) (f_startOff o0) (f_endKind o0) (f_endOff o0) (f_fn o0) (f_fnArg o0) (f_computed o0) (f_sortedLen o0) (f_curPos o0) (f_aggSum o0) (f_aggCount o0) (f_aggRows o0) (f_aggMin o0) (f_aggMax o0) a1_0 a1_1 a1_2 a1_3 (f_res o1) (f_resNull o1) (f_frameCnt o1) (f_sorted o1) (f_cap o1) a1_9 (f_direction o1) (f_nulls o1) (f_mode o1) (f_startKind o1) (f_startOff o1) (f_endKind o1) (f_endOff o1) (f_fn o1) (f_fnArg o1) (f_computed o1) (f_sortedLen o1) (f_curPos o1) (f_aggSum o1) (f_aggCount o1) (f_aggRows o1) (f_aggMin o1) (f_aggMax o1)
def H1x70 (s : List Int32) (o0 o1 : Ob) (a1_0 : List Int32) (a1_1 : List Int32) (a1_2 : List Int32) (a1_3 : List Int32) (a1_9 : Int32) (a1_19 : Int32) : QHeap := H1v s (f_part o0) (f_keys o0) (f_vals o0) (f_flg o0) (f_res o0) (f_resNull o0) (f_frameCnt o0) (f_sorted o0) (f_cap o0) (f_rows o0) (f_direction o0) (f_nulls o0) (f_mode o0) (f_startKind o0) (f_startOff o0) (f_endKind o0) (f_endOff o0) (f_fn o0) (f_fnArg o0) (f_computed o0) (f_sortedLen o0) (f_curPos o0) (f_aggSum o0) (f_aggCount o0) (f_aggRows o0) (f_aggMin o0) (f_aggMax o0) a1_0 a1_1 a1_2 a1_3 (f_res o1) (f_resNull o1) (f_frameCnt o1) (f_sorted o1) (f_cap o1) a1_9 (f_direction o1) (f_nulls o1) (f_mode o1) (f_startKind o1) (f_startOff o1) (f_endKind o1) (f_endOff o1) (f_fn o1) (f_fnArg o1) a1_19 (f_sortedLen o1) (f_curPos o1) (f_aggSum o1) (f_aggCount o1) (f_aggRows o1) (f_aggMin o1) (f_aggMax o1)
theorem tF5a1 (Ad : QAd n0 ad) (W : QW Z a0) (s : List Int32) (e0 : Ob) (o : Ob) (x1 : Int32) (x2 : Int32) (x3 : Int32) (x4 : Int32) {r : Int32 × Ob} (h : F5 o x1 x2 x3 x4 = some r) : QTri l Z n0 ad 5 (0, qentry [.ref 10, .int x1, .int x2, .int x3, .int x4] (pMaxL 5), [], (H1 s e0 o)) (some (Value.int r.1)) (H1 s e0 r.2) := by
 unfold F5 at h
 refine zS Ad W 1 (st' := (2, [vR 10, vI x1, vI x2, vI x3, vI x4, none], [.int x4], (H1 s e0 o))) rfl ?_
 rcases qite h with ⟨hc346, h⟩ | ⟨hc346, h⟩
 ·refine zT Ad W (t := 11) (f := 5) rfl (XT.i0_lt_t hc346) ?_
  refine zS Ad W 1 (st' := (12, [vR 10, vI x1, vI x2, vI x3, vI x4, none], [.int (-1:Int32)], (H1 s e0 o))) rfl ?_
  obtain rfl := Option.some.inj h
  exact QTri.retI rfl rfl
 ·refine zF Ad W (t := 11) (f := 5) rfl (XT.i0_lt_f hc346) ?_
  refine zS Ad W 2 (st' := (8, [vR 10, vI x1, vI x2, vI x3, vI x4, none], [.int (3:Int32), .int x4], (H1 s e0 o))) rfl ?_
  rcases qite h with ⟨hc347, h⟩ | ⟨hc347, h⟩
  ·refine zF Ad W (t := 13) (f := 11) rfl (XT.ii_le_f hc347) ?_
   refine zS Ad W 1 (st' := (12, [vR 10, vI x1, vI x2, vI x3, vI x4, none], [.int (-1:Int32)], (H1 s e0 o))) rfl ?_
   obtain rfl := Option.some.inj h
   exact QTri.retI rfl rfl
  ·refine zT Ad W (t := 13) (f := 11) rfl (XT.ii_le_t hc347) ?_
   refine zS Ad W 4 (st' := (21, [vR 10, vI x1, vI x2, vI x3, vI x4, none], [.int (f_cap o), .int (f_rows o)], (H1 s e0 o))) rfl ?_
   rcases qite h with ⟨hc348, h⟩ | ⟨hc348, h⟩
   ·refine zT Ad W (t := 26) (f := 24) rfl (XT.ii_lt_t hc348) ?_
    refine zS Ad W 7 (st' := (39, [vR 10, vI x1, vI x2, vI x3, vI x4, vI (f_rows o)], [.int x1, .int (f_rows o), .ref 11], (H1 s e0 o))) rfl ?_
    obtain ⟨y349, hy349, h⟩ := bind_eq_some_iff.mp h
    refine zB Ad W (f := fun y349 => (40, [vR 10, vI x1, vI x2, vI x3, vI x4, vI (f_rows o)], [], (H1x65 s e0 o y349))) rfl hy349 ?_
    refine zS Ad W 6 (st' := (50, [vR 10, vI x1, vI x2, vI x3, vI x4, vI (f_rows o)], [.int (x4 &&& (1:Int32)), .int (f_rows o), .ref 12], (H1x65 s e0 o y349))) rfl ?_
    have K351 : ∀ z350 : Int32, z350 = (if (x4 &&& (1:Int32)) = (0:Int32) then x2 else (0:Int32)) → QTri l Z n0 ad 5 (58, [vR 10, none, none, vI x3, vI x4, vI (f_rows o)], [.int z350, .int (f_rows o), .ref 12], (H1x65 s e0 o y349)) (some (Value.int r.1)) (H1 s e0 r.2) := by
     intro z350 ez350
     subst ez350
     obtain ⟨y353, hy353, h⟩ := bind_eq_some_iff.mp h
     refine zB Ad W (f := fun y353 => (59, [vR 10, none, none, vI x3, vI x4, vI (f_rows o)], [], (H1x66 s e0 o y349 y353))) rfl hy353 ?_
     refine zS Ad W 6 (st' := (69, [vR 10, none, none, vI x3, vI x4, vI (f_rows o)], [.int (x4 &&& (2:Int32)), .int (f_rows o), .ref 13], (H1x66 s e0 o y349 y353))) rfl ?_
     have K355 : ∀ z354 : Int32, z354 = (if (x4 &&& (2:Int32)) = (0:Int32) then x3 else (0:Int32)) → QTri l Z n0 ad 5 (77, [vR 10, none, none, none, vI x4, vI (f_rows o)], [.int z354, .int (f_rows o), .ref 13], (H1x66 s e0 o y349 y353)) (some (Value.int r.1)) (H1 s e0 r.2) := by
      intro z354 ez354
      subst ez354
      obtain ⟨y357, hy357, h⟩ := bind_eq_some_iff.mp h
      refine zB Ad W (f := fun y357 => (78, [vR 10, none, none, none, vI x4, vI (f_rows o)], [], (H1x67 s e0 o y349 y353 y357))) rfl hy357 ?_
      refine zS Ad W 4 (st' := (86, [vR 10, none, none, none, vI x4, vI (f_rows o)], [.int x4, .int (f_rows o), .ref 14], (H1x67 s e0 o y349 y353 y357))) rfl ?_
      obtain ⟨y358, hy358, h⟩ := bind_eq_some_iff.mp h
      refine zB Ad W (f := fun y358 => (87, [vR 10, none, none, none, vI x4, vI (f_rows o)], [], (H1x68 s e0 o y349 y353 y357 y358))) rfl hy358 ?_
      refine zS Ad W 5 (st' := (95, [vR 10, none, none, none, vI x4, vI (f_rows o)], [], (H1x69 s e0 o y349 y353 y357 y358 ((f_rows o) + (1:Int32))))) rfl ?_
      refine zS Ad W 3 (st' := (100, [vR 10, none, none, none, vI x4, vI (f_rows o)], [], (H1x70 s e0 o y349 y353 y357 y358 ((f_rows o) + (1:Int32)) (0:Int32)))) rfl ?_
      refine zS Ad W 1 (st' := (102, [vR 10, none, none, none, vI x4, vI (f_rows o)], [.int (f_rows o)], (H1x70 s e0 o y349 y353 y357 y358 ((f_rows o) + (1:Int32)) (0:Int32)))) rfl ?_
      have E359 : ((H1x70 s e0 o y349 y353 y357 y358 ((f_rows o) + (1:Int32)) (0:Int32)) : QHeap) = (H1 s e0 (s_computed (s_rows (s_flg (s_vals (s_keys (s_part o y349) y353) y357) y358) ((f_rows o) + (1:Int32))) (0:Int32))) := by simp only [fs, H1, H1v, H1x70, s_part, s_keys, s_vals, s_flg, s_rows, s_computed]
      rw [E359]
      obtain rfl := Option.some.inj h
      exact QTri.retI rfl rfl
     rcases em ((x4 &&& (2:Int32)) = (0:Int32)) with hc356 | hc356
     ·refine zT Ad W (t := 76) (f := 72) rfl (XT.i0_eq_t hc356) ?_
      refine zS Ad W 1 (st' := (77, [vR 10, none, none, vI x3, vI x4, vI (f_rows o)], [.int x3, .int (f_rows o), .ref 13], (H1x66 s e0 o y349 y353))) rfl ?_
      exact zM [tt,ff,ff,ff,tt,tt] (K355 _ (if_pos hc356).symm)
     ·refine zF Ad W (t := 76) (f := 72) rfl (XT.i0_eq_f hc356) ?_
      refine zS Ad W 2 (st' := (77, [vR 10, none, none, vI x3, vI x4, vI (f_rows o)], [.int (0:Int32), .int (f_rows o), .ref 13], (H1x66 s e0 o y349 y353))) rfl ?_
      exact zM [tt,ff,ff,ff,tt,tt] (K355 _ (if_neg hc356).symm)
    rcases em ((x4 &&& (1:Int32)) = (0:Int32)) with hc352 | hc352
    ·refine zT Ad W (t := 57) (f := 53) rfl (XT.i0_eq_t hc352) ?_
     refine zS Ad W 1 (st' := (58, [vR 10, vI x1, vI x2, vI x3, vI x4, vI (f_rows o)], [.int x2, .int (f_rows o), .ref 12], (H1x65 s e0 o y349))) rfl ?_
     exact zM [tt,ff,ff,tt,tt,tt] (K351 _ (if_pos hc352).symm)
    ·refine zF Ad W (t := 57) (f := 53) rfl (XT.i0_eq_f hc352) ?_
     refine zS Ad W 2 (st' := (58, [vR 10, vI x1, vI x2, vI x3, vI x4, vI (f_rows o)], [.int (0:Int32), .int (f_rows o), .ref 12], (H1x65 s e0 o y349))) rfl ?_
     exact zM [tt,ff,ff,tt,tt,tt] (K351 _ (if_neg hc352).symm)
   ·refine zF Ad W (t := 26) (f := 24) rfl (XT.ii_lt_f hc348) ?_
    refine zS Ad W 1 (st' := (25, [vR 10, vI x1, vI x2, vI x3, vI x4, none], [.int (-1:Int32)], (H1 s e0 o))) rfl ?_
    obtain rfl := Option.some.inj h
    exact QTri.retI rfl rfl
def H1x71 (s : List Int32) (o0 o1 : Ob) (a1_9 : Int32) : QHeap := H1v s (f_part o0) (f_keys o0) (f_vals o0) (f_flg o0) (f_res o0) (f_resNull o0) (f_frameCnt o0) (f_sorted o0) (f_cap o0) (f_rows o0) (f_direction o0) (f_nulls o0) (f_mode o0) (f_startKind o0) (f_startOff o0) (f_endKind o0) (f_endOff o0) (f_fn o0) (f_fnArg o0) (f_computed o0) (f_sortedLen o0) (f_curPos o0) (f_aggSum o0) (f_aggCount o0) (f_aggRows o0) (f_aggMin o0) (f_aggMax o0) (f_part o1) (f_keys o1) (f_vals o1) (f_flg o1) (f_res o1) (f_resNull o1) (f_frameCnt o1) (f_sorted o1) (f_cap o1) a1_9 (f_direction o1) (f_nulls o1) (f_mode o1) (f_startKind o1) (f_startOff o1) (f_endKind o1) (f_endOff o1) (f_fn o1) (f_fnArg o1) (f_computed o1) (f_sortedLen o1) (f_curPos o1) (f_aggSum o1) (f_aggCount o1) (f_aggRows o1) (f_aggMin o1) (f_aggMax o1)
def H1x72 (s : List Int32) (o0 o1 : Ob) (a1_9 : Int32) (a1_19 : Int32) : QHeap := H1v s (f_part o0) (f_keys o0) (f_vals o0) (f_flg o0) (f_res o0) (f_resNull o0) (f_frameCnt o0) (f_sorted o0) (f_cap o0) (f_rows o0) (f_direction o0) (f_nulls o0) (f_mode o0) (f_startKind o0) (f_startOff o0) (f_endKind o0) (f_endOff o0) (f_fn o0) (f_fnArg o0) (f_computed o0) (f_sortedLen o0) (f_curPos o0) (f_aggSum o0) (f_aggCount o0) (f_aggRows o0) (f_aggMin o0) (f_aggMax o0) (f_part o1) (f_keys o1) (f_vals o1) (f_flg o1) (f_res o1) (f_resNull o1) (f_frameCnt o1) (f_sorted o1) (f_cap o1) a1_9 (f_direction o1) (f_nulls o1) (f_mode o1) (f_startKind o1) (f_startOff o1) (f_endKind o1) (f_endOff o1) (f_fn o1) (f_fnArg o1) a1_19 (f_sortedLen o1) (f_curPos o1) (f_aggSum o1) (f_aggCount o1) (f_aggRows o1) (f_aggMin o1) (f_aggMax o1)
theorem tF7a1 (Ad : QAd n0 ad) (W : QW Z a0) (s : List Int32) (e0 : Ob) (o : Ob) {r : Ob} (h : F7 o = some r) : QTri l Z n0 ad 7 (0, qentry [.ref 10] (pMaxL 7), [], (H1 s e0 o)) (none : Option Value) (H1 s e0 r) := by
 unfold F7 at h
 refine zS Ad W 3 (st' := (5, [vR 10], [], (H1x71 s e0 o (0:Int32)))) rfl ?_
 refine zS Ad W 3 (st' := (10, [vR 10], [], (H1x72 s e0 o (0:Int32) (0:Int32)))) rfl ?_
 have E363 : ((H1x72 s e0 o (0:Int32) (0:Int32)) : QHeap) = (H1 s e0 (s_computed (s_rows o (0:Int32)) (0:Int32))) := by simp only [fs, H1, H1v, H1x72, s_rows, s_computed]
 rw [E363]
 obtain rfl := Option.some.inj h
 exact QTri.ret0 rfl rfl
def H1x73 (s : List Int32) (o0 o1 : Ob) (a1_10 : Int32) (a1_11 : Int32) (a1_19 : Int32) : QHeap := H1v s (f_part o0) (f_keys o0) (f_vals o0) (f_flg o0) (f_res o0) (f_resNull o0) (f_frameCnt o0) (f_sorted o0) (f_cap o0) (f_rows o0) (f_direction o0) (f_nulls o0) (f_mode o0) (f_startKind o0) (f_startOff o0) (f_endKind o0) (f_endOff o0) (f_fn o0) (f_fnArg o0) (f_computed o0) (f_sortedLen o0) (f_curPos o0) (f_aggSum o0) (f_aggCount o0) (f_aggRows o0) (f_aggMin o0) (f_aggMax o0) (f_part o1) (f_keys o1) (f_vals o1) (f_flg o1) (f_res o1) (f_resNull o1) (f_frameCnt o1) (f_sorted o1) (f_cap o1) (f_rows o1) a1_10 a1_11 (f_mode o1) (f_startKind o1) (f_startOff o1) (f_endKind o1) (f_endOff o1) (f_fn o1) (f_fnArg o1) a1_19 (f_sortedLen o1) (f_curPos o1) (f_aggSum o1) (f_aggCount o1) (f_aggRows o1) (f_aggMin o1) (f_aggMax o1)
theorem tF6a1 (Ad : QAd n0 ad) (W : QW Z a0) (s : List Int32) (e0 : Ob) (o : Ob) (x1 : Int32) (x2 : Int32) {r : Int32 × Ob} (h : F6 o x1 x2 = some r) : QTri l Z n0 ad 6 (0, qentry [.ref 10, .int x1, .int x2] (pMaxL 6), [], (H1 s e0 o)) (some (Value.int r.1)) (H1 s e0 r.2) := by
 unfold F6 at h
 refine zS Ad W 1 (st' := (1, [vR 10, vI x1, vI x2], [.int x1], (H1 s e0 o))) rfl ?_
 rcases qite h with ⟨hc366, h⟩ | ⟨hc366, h⟩
 ·refine zT Ad W (t := 18) (f := 4) rfl (XT.i0_lt_t hc366) ?_
  refine zS Ad W 1 (st' := (19, [vR 10, vI x1, vI x2], [.int (0:Int32)], (H1 s e0 o))) rfl ?_
  obtain rfl := Option.some.inj h
  exact QTri.retZ rfl rfl
 ·refine zF Ad W (t := 18) (f := 4) rfl (XT.i0_lt_f hc366) ?_
  refine zS Ad W 2 (st' := (6, [vR 10, vI x1, vI x2], [.int (2:Int32), .int x1], (H1 s e0 o))) rfl ?_
  rcases qite h with ⟨hc367, h⟩ | ⟨hc367, h⟩
  ·refine zT Ad W (t := 18) (f := 9) rfl (XT.ii_gt_t hc367) ?_
   refine zS Ad W 1 (st' := (19, [vR 10, vI x1, vI x2], [.int (0:Int32)], (H1 s e0 o))) rfl ?_
   obtain rfl := Option.some.inj h
   exact QTri.retZ rfl rfl
  ·refine zF Ad W (t := 18) (f := 9) rfl (XT.ii_gt_f hc367) ?_
   refine zS Ad W 1 (st' := (10, [vR 10, vI x1, vI x2], [.int x2], (H1 s e0 o))) rfl ?_
   rcases qite h with ⟨hc368, h⟩ | ⟨hc368, h⟩
   ·refine zT Ad W (t := 18) (f := 13) rfl (XT.i0_lt_t hc368) ?_
    refine zS Ad W 1 (st' := (19, [vR 10, vI x1, vI x2], [.int (0:Int32)], (H1 s e0 o))) rfl ?_
    obtain rfl := Option.some.inj h
    exact QTri.retZ rfl rfl
   ·refine zF Ad W (t := 18) (f := 13) rfl (XT.i0_lt_f hc368) ?_
    refine zS Ad W 2 (st' := (15, [vR 10, vI x1, vI x2], [.int (1:Int32), .int x2], (H1 s e0 o))) rfl ?_
    rcases qite h with ⟨hc369, h⟩ | ⟨hc369, h⟩
    ·refine zF Ad W (t := 20) (f := 18) rfl (XT.ii_le_f hc369) ?_
     refine zS Ad W 1 (st' := (19, [vR 10, vI x1, vI x2], [.int (0:Int32)], (H1 s e0 o))) rfl ?_
     obtain rfl := Option.some.inj h
     exact QTri.retZ rfl rfl
    ·refine zT Ad W (t := 20) (f := 18) rfl (XT.ii_le_t hc369) ?_
     refine zS Ad W 3 (st' := (25, [vR 10, vI x1, vI x2], [], (H1x16 s e0 o x1))) rfl ?_
     refine zS Ad W 3 (st' := (30, [vR 10, vI x1, vI x2], [], (H1x17 s e0 o x1 x2))) rfl ?_
     refine zS Ad W 3 (st' := (35, [vR 10, vI x1, vI x2], [], (H1x73 s e0 o x1 x2 (0:Int32)))) rfl ?_
     refine zS Ad W 1 (st' := (36, [vR 10, vI x1, vI x2], [.int (1:Int32)], (H1x73 s e0 o x1 x2 (0:Int32)))) rfl ?_
     have E370 : ((H1x73 s e0 o x1 x2 (0:Int32)) : QHeap) = (H1 s e0 (s_computed (s_nulls (s_direction o x1) x2) (0:Int32))) := by simp only [fs, H1, H1v, H1x73, s_direction, s_nulls, s_computed]
     rw [E370]
     obtain rfl := Option.some.inj h
     exact QTri.retZ rfl rfl
def H1x74 (s : List Int32) (o0 o1 : Ob) (a1_12 : Int32) : QHeap := H1v s (f_part o0) (f_keys o0) (f_vals o0) (f_flg o0) (f_res o0) (f_resNull o0) (f_frameCnt o0) (f_sorted o0) (f_cap o0) (f_rows o0) (f_direction o0) (f_nulls o0) (f_mode o0) (f_startKind o0) (f_startOff o0) (f_endKind o0) (f_endOff o0) (f_fn o0) (f_fnArg o0) (f_computed o0) (f_sortedLen o0) (f_curPos o0) (f_aggSum o0) (f_aggCount o0) (f_aggRows o0) (f_aggMin o0) (f_aggMax o0) (f_part o1) (f_keys o1) (f_vals o1) (f_flg o1) (f_res o1) (f_resNull o1) (f_frameCnt o1) (f_sorted o1) (f_cap o1) (f_rows o1) (f_direction o1) (f_nulls o1) a1_12 (f_startKind o1) (f_startOff o1) (f_endKind o1) (f_endOff o1) (f_fn o1) (f_fnArg o1) (f_computed o1) (f_sortedLen o1) (f_curPos o1) (f_aggSum o1) (f_aggCount o1) (f_aggRows o1) (f_aggMin o1) (f_aggMax o1)
def H1x75 (s : List Int32) (o0 o1 : Ob) (a1_12 : Int32) (a1_19 : Int32) : QHeap := H1v s (f_part o0) (f_keys o0) (f_vals o0) (f_flg o0) (f_res o0) (f_resNull o0) (f_frameCnt o0) (f_sorted o0) (f_cap o0) (f_rows o0) (f_direction o0) (f_nulls o0) (f_mode o0) (f_startKind o0) (f_startOff o0) (f_endKind o0) (f_endOff o0) (f_fn o0) (f_fnArg o0) (f_computed o0) (f_sortedLen o0) (f_curPos o0) (f_aggSum o0) (f_aggCount o0) (f_aggRows o0) (f_aggMin o0) (f_aggMax o0) (f_part o1) (f_keys o1) (f_vals o1) (f_flg o1) (f_res o1) (f_resNull o1) (f_frameCnt o1) (f_sorted o1) (f_cap o1) (f_rows o1) (f_direction o1) (f_nulls o1) a1_12 (f_startKind o1) (f_startOff o1) (f_endKind o1) (f_endOff o1) (f_fn o1) (f_fnArg o1) a1_19 (f_sortedLen o1) (f_curPos o1) (f_aggSum o1) (f_aggCount o1) (f_aggRows o1) (f_aggMin o1) (f_aggMax o1)
theorem tF4a1 (Ad : QAd n0 ad) (W : QW Z a0) (s : List Int32) (e0 : Ob) (o : Ob) (x1 : Int32) {r : Int32 × Ob} (h : F4 o x1 = some r) : QTri l Z n0 ad 4 (0, qentry [.ref 10, .int x1] (pMaxL 4), [], (H1 s e0 o)) (some (Value.int r.1)) (H1 s e0 r.2) := by
 unfold F4 at h
 refine zS Ad W 1 (st' := (1, [vR 10, vI x1], [.int x1], (H1 s e0 o))) rfl ?_
 rcases qite h with ⟨hc373, h⟩ | ⟨hc373, h⟩
 ·refine zT Ad W (t := 9) (f := 4) rfl (XT.i0_lt_t hc373) ?_
  refine zS Ad W 1 (st' := (10, [vR 10, vI x1], [.int (0:Int32)], (H1 s e0 o))) rfl ?_
  obtain rfl := Option.some.inj h
  exact QTri.retZ rfl rfl
 ·refine zF Ad W (t := 9) (f := 4) rfl (XT.i0_lt_f hc373) ?_
  refine zS Ad W 2 (st' := (6, [vR 10, vI x1], [.int (1:Int32), .int x1], (H1 s e0 o))) rfl ?_
  rcases qite h with ⟨hc374, h⟩ | ⟨hc374, h⟩
  ·refine zF Ad W (t := 11) (f := 9) rfl (XT.ii_le_f hc374) ?_
   refine zS Ad W 1 (st' := (10, [vR 10, vI x1], [.int (0:Int32)], (H1 s e0 o))) rfl ?_
   obtain rfl := Option.some.inj h
   exact QTri.retZ rfl rfl
  ·refine zT Ad W (t := 11) (f := 9) rfl (XT.ii_le_t hc374) ?_
   refine zS Ad W 3 (st' := (16, [vR 10, vI x1], [], (H1x74 s e0 o x1))) rfl ?_
   refine zS Ad W 3 (st' := (21, [vR 10, vI x1], [], (H1x75 s e0 o x1 (0:Int32)))) rfl ?_
   refine zS Ad W 1 (st' := (22, [vR 10, vI x1], [.int (1:Int32)], (H1x75 s e0 o x1 (0:Int32)))) rfl ?_
   have E375 : ((H1x75 s e0 o x1 (0:Int32)) : QHeap) = (H1 s e0 (s_computed (s_mode o x1) (0:Int32))) := by simp only [fs, H1, H1v, H1x75, s_mode, s_computed]
   rw [E375]
   obtain rfl := Option.some.inj h
   exact QTri.retZ rfl rfl
def H1x76 (s : List Int32) (o0 o1 : Ob) (a1_13 : Int32) : QHeap := H1v s (f_part o0) (f_keys o0) (f_vals o0) (f_flg o0) (f_res o0) (f_resNull o0) (f_frameCnt o0) (f_sorted o0) (f_cap o0) (f_rows o0) (f_direction o0) (f_nulls o0) (f_mode o0) (f_startKind o0) (f_startOff o0) (f_endKind o0) (f_endOff o0) (f_fn o0) (f_fnArg o0) (f_computed o0) (f_sortedLen o0) (f_curPos o0) (f_aggSum o0) (f_aggCount o0) (f_aggRows o0) (f_aggMin o0) (f_aggMax o0) (f_part o1) (f_keys o1) (f_vals o1) (f_flg o1) (f_res o1) (f_resNull o1) (f_frameCnt o1) (f_sorted o1) (f_cap o1) (f_rows o1) (f_direction o1) (f_nulls o1) (f_mode o1) a1_13 (f_startOff o1) (f_endKind o1) (f_endOff o1) (f_fn o1) (f_fnArg o1) (f_computed o1) (f_sortedLen o1) (f_curPos o1) (f_aggSum o1) (f_aggCount o1) (f_aggRows o1) (f_aggMin o1) (f_aggMax o1)
def H1x77 (s : List Int32) (o0 o1 : Ob) (a1_13 : Int32) (a1_14 : Int32) : QHeap := H1v s (f_part o0) (f_keys o0) (f_vals o0) (f_flg o0) (f_res o0) (f_resNull o0) (f_frameCnt o0) (f_sorted o0) (f_cap o0) (f_rows o0) (f_direction o0) (f_nulls o0) (f_mode o0) (f_startKind o0) (f_startOff o0) (f_endKind o0) (f_endOff o0) (f_fn o0) (f_fnArg o0) (f_computed o0) (f_sortedLen o0) (f_curPos o0) (f_aggSum o0) (f_aggCount o0) (f_aggRows o0) (f_aggMin o0) (f_aggMax o0) (f_part o1) (f_keys o1) (f_vals o1) (f_flg o1) (f_res o1) (f_resNull o1) (f_frameCnt o1) (f_sorted o1) (f_cap o1) (f_rows o1) (f_direction o1) (f_nulls o1) (f_mode o1) a1_13 a1_14 (f_endKind o1) (f_endOff o1) (f_fn o1) (f_fnArg o1) (f_computed o1) (f_sortedLen o1) (f_curPos o1) (f_aggSum o1) (f_aggCount o1) (f_aggRows o1) (f_aggMin o1) (f_aggMax o1)
def H1x78 (s : List Int32) (o0 o1 : Ob) (a1_13 : Int32) (a1_14 : Int32) (a1_19 : Int32) : QHeap := H1v s (f_part o0) (f_keys o0) (f_vals o0) (f_flg o0) (f_res o0) (f_resNull o0) (f_frameCnt o0) (f_sorted o0) (f_cap o0) (f_rows o0) (f_direction o0) (f_nulls o0) (f_mode o0) (f_startKind o0) (f_startOff o0) (f_endKind o0) (f_endOff o0) (f_fn o0) (f_fnArg o0) (f_computed o0) (f_sortedLen o0) (f_curPos o0) (f_aggSum o0) (f_aggCount o0) (f_aggRows o0) (f_aggMin o0) (f_aggMax o0) (f_part o1) (f_keys o1) (f_vals o1) (f_flg o1) (f_res o1) (f_resNull o1) (f_frameCnt o1) (f_sorted o1) (f_cap o1) (f_rows o1) (f_direction o1) (f_nulls o1) (f_mode o1) a1_13 a1_14 (f_endKind o1) (f_endOff o1) (f_fn o1) (f_fnArg o1) a1_19 (f_sortedLen o1) (f_curPos o1) (f_aggSum o1) (f_aggCount o1) (f_aggRows o1) (f_aggMin o1) (f_aggMax o1)
theorem tJ17_37a1 (Ad : QAd n0 ad) (W : QW Z a0) (s : List Int32) (e0 : Ob) (o : Ob) (x1 : Int32) (x2 : Int32) (x3 : Int32) {r : Int32 × Ob} (h : J17_37 o x1 x2 x3 = some r) : QTri l Z n0 ad 17 (37, [vR 10, vI x1, vI x2, vI x3], [], (H1 s e0 o)) (some (Value.int r.1)) (H1 s e0 r.2) := by
 unfold J17_37 at h
 refine zS Ad W 3 (st' := (42, [vR 10, vI x1, vI x2, vI x3], [], (H1x76 s e0 o x1))) rfl ?_
 refine zS Ad W 2 (st' := (44, [vR 10, vI x1, vI x2, vI x3], [.int x3, .ref 10], (H1x76 s e0 o x1))) rfl ?_
 have K386 : ∀ z385 : Int32, z385 = (if x3 = (0:Int32) then (0:Int32) else x2) → QTri l Z n0 ad 17 (52, [vR 10, none, none, none], [.int z385, .ref 10], (H1x76 s e0 o x1)) (some (Value.int r.1)) (H1 s e0 r.2) := by
  intro z385 ez385
  subst ez385
  refine zS Ad W 1 (st' := (55, [vR 10, none, none, none], [], (H1x77 s e0 o x1 (if x3 = (0:Int32) then (0:Int32) else x2)))) rfl ?_
  refine zS Ad W 3 (st' := (60, [vR 10, none, none, none], [], (H1x78 s e0 o x1 (if x3 = (0:Int32) then (0:Int32) else x2) (0:Int32)))) rfl ?_
  refine zS Ad W 1 (st' := (61, [vR 10, none, none, none], [.int (1:Int32)], (H1x78 s e0 o x1 (if x3 = (0:Int32) then (0:Int32) else x2) (0:Int32)))) rfl ?_
  have E388 : ((H1x78 s e0 o x1 (if x3 = (0:Int32) then (0:Int32) else x2) (0:Int32)) : QHeap) = (H1 s e0 (s_computed (s_startOff (s_startKind o x1) (if x3 = (0:Int32) then (0:Int32) else x2)) (0:Int32))) := by simp only [fs, H1, H1v, H1x78, s_startKind, s_startOff, s_computed]
  rw [E388]
  obtain rfl := Option.some.inj h
  exact QTri.retZ rfl rfl
 rcases em (x3 = (0:Int32)) with hc387 | hc387
 ·refine zT Ad W (t := 51) (f := 47) rfl (XT.i0_eq_t hc387) ?_
  refine zS Ad W 1 (st' := (52, [vR 10, vI x1, vI x2, vI x3], [.int (0:Int32), .ref 10], (H1x76 s e0 o x1))) rfl ?_
  exact zM [tt,ff,ff,ff] (K386 _ (if_pos hc387).symm)
 ·refine zF Ad W (t := 51) (f := 47) rfl (XT.i0_eq_f hc387) ?_
  refine zS Ad W 2 (st' := (52, [vR 10, vI x1, vI x2, vI x3], [.int x2, .ref 10], (H1x76 s e0 o x1))) rfl ?_
  exact zM [tt,ff,ff,ff] (K386 _ (if_neg hc387).symm)
theorem tF17a1 (Ad : QAd n0 ad) (W : QW Z a0) (s : List Int32) (e0 : Ob) (o : Ob) (x1 : Int32) (x2 : Int32) {r : Int32 × Ob} (h : F17 o x1 x2 = some r) : QTri l Z n0 ad 17 (0, qentry [.ref 10, .int x1, .int x2] (pMaxL 17), [], (H1 s e0 o)) (some (Value.int r.1)) (H1 s e0 r.2) := by
 unfold F17 at h
 refine zS Ad W 1 (st' := (1, [vR 10, vI x1, vI x2, none], [.int x1], (H1 s e0 o))) rfl ?_
 rcases qite h with ⟨hc378, h⟩ | ⟨hc378, h⟩
 ·refine zT Ad W (t := 9) (f := 4) rfl (XT.i0_lt_t hc378) ?_
  refine zS Ad W 1 (st' := (10, [vR 10, vI x1, vI x2, none], [.int (0:Int32)], (H1 s e0 o))) rfl ?_
  obtain rfl := Option.some.inj h
  exact QTri.retZ rfl rfl
 ·refine zF Ad W (t := 9) (f := 4) rfl (XT.i0_lt_f hc378) ?_
  refine zS Ad W 2 (st' := (6, [vR 10, vI x1, vI x2, none], [.int (3:Int32), .int x1], (H1 s e0 o))) rfl ?_
  rcases qite h with ⟨hc379, h⟩ | ⟨hc379, h⟩
  ·refine zF Ad W (t := 11) (f := 9) rfl (XT.ii_le_f hc379) ?_
   refine zS Ad W 1 (st' := (10, [vR 10, vI x1, vI x2, none], [.int (0:Int32)], (H1 s e0 o))) rfl ?_
   obtain rfl := Option.some.inj h
   exact QTri.retZ rfl rfl
  ·refine zT Ad W (t := 11) (f := 9) rfl (XT.ii_le_t hc379) ?_
   refine zS Ad W 2 (st' := (13, [vR 10, vI x1, vI x2, none], [.int (1:Int32), .int x1], (H1 s e0 o))) rfl ?_
   have K381 : ∀ z380 : Int32, z380 = (if x1 = (1:Int32) then (1:Int32) else (if x1 = (3:Int32) then (1:Int32) else (0:Int32))) → QTri l Z n0 ad 17 (26, [vR 10, vI x1, vI x2, none], [.int z380], (H1 s e0 o)) (some (Value.int r.1)) (H1 s e0 r.2) := by
    intro z380 ez380
    subst ez380
    refine zS Ad W 2 (st' := (28, [vR 10, vI x1, vI x2, vI (if x1 = (1:Int32) then (1:Int32) else (if x1 = (3:Int32) then (1:Int32) else (0:Int32)))], [.int (if x1 = (1:Int32) then (1:Int32) else (if x1 = (3:Int32) then (1:Int32) else (0:Int32)))], (H1 s e0 o))) rfl ?_
    rcases qite h with ⟨hc384, h⟩ | ⟨hc384, h⟩
    ·refine zT Ad W (t := 37) (f := 31) rfl (XT.i0_eq_t hc384) ?_
     exact zM [tt,tt,tt,tt] (tJ17_37a1 Ad W s e0 o x1 x2 (if x1 = (1:Int32) then (1:Int32) else (if x1 = (3:Int32) then (1:Int32) else (0:Int32))) h)
    ·refine zF Ad W (t := 37) (f := 31) rfl (XT.i0_eq_f hc384) ?_
     refine zS Ad W 1 (st' := (32, [vR 10, vI x1, vI x2, vI (if x1 = (1:Int32) then (1:Int32) else (if x1 = (3:Int32) then (1:Int32) else (0:Int32)))], [.int x2], (H1 s e0 o))) rfl ?_
     rcases qite h with ⟨hc389, h⟩ | ⟨hc389, h⟩
     ·refine zF Ad W (t := 37) (f := 35) rfl (XT.i0_ge_f hc389) ?_
      refine zS Ad W 1 (st' := (36, [vR 10, vI x1, vI x2, vI (if x1 = (1:Int32) then (1:Int32) else (if x1 = (3:Int32) then (1:Int32) else (0:Int32)))], [.int (0:Int32)], (H1 s e0 o))) rfl ?_
      obtain rfl := Option.some.inj h
      exact QTri.retZ rfl rfl
     ·refine zT Ad W (t := 37) (f := 35) rfl (XT.i0_ge_t hc389) ?_
      exact zM [tt,tt,tt,tt] (tJ17_37a1 Ad W s e0 o x1 x2 (if x1 = (1:Int32) then (1:Int32) else (if x1 = (3:Int32) then (1:Int32) else (0:Int32))) h)
   rcases em (x1 = (1:Int32)) with hc382 | hc382
   ·refine zT Ad W (t := 21) (f := 16) rfl (XT.ii_eq_t hc382) ?_
    refine zS Ad W 2 (st' := (26, [vR 10, vI x1, vI x2, none], [.int (1:Int32)], (H1 s e0 o))) rfl ?_
    exact zM [tt,tt,tt,ff] (K381 _ (if_pos hc382).symm)
   ·refine zF Ad W (t := 21) (f := 16) rfl (XT.ii_eq_f hc382) ?_
    refine zS Ad W 2 (st' := (18, [vR 10, vI x1, vI x2, none], [.int (3:Int32), .int x1], (H1 s e0 o))) rfl ?_
    rcases em (x1 = (3:Int32)) with hc383 | hc383
    ·refine zF Ad W (t := 25) (f := 21) rfl (XT.ii_ne_f hc383) ?_
     refine zS Ad W 2 (st' := (26, [vR 10, vI x1, vI x2, none], [.int (1:Int32)], (H1 s e0 o))) rfl ?_
     exact zM [tt,tt,tt,ff] (K381 _ ((if_neg hc382).trans (if_pos hc383)).symm)
    ·refine zT Ad W (t := 25) (f := 21) rfl (XT.ii_ne_t hc383) ?_
     refine zS Ad W 1 (st' := (26, [vR 10, vI x1, vI x2, none], [.int (0:Int32)], (H1 s e0 o))) rfl ?_
     exact zM [tt,tt,tt,ff] (K381 _ ((if_neg hc382).trans (if_neg hc383)).symm)
def H1x79 (s : List Int32) (o0 o1 : Ob) (a1_15 : Int32) : QHeap := H1v s (f_part o0) (f_keys o0) (f_vals o0) (f_flg o0) (f_res o0) (f_resNull o0) (f_frameCnt o0) (f_sorted o0) (f_cap o0) (f_rows o0) (f_direction o0) (f_nulls o0) (f_mode o0) (f_startKind o0) (f_startOff o0) (f_endKind o0) (f_endOff o0) (f_fn o0) (f_fnArg o0) (f_computed o0) (f_sortedLen o0) (f_curPos o0) (f_aggSum o0) (f_aggCount o0) (f_aggRows o0) (f_aggMin o0) (f_aggMax o0) (f_part o1) (f_keys o1) (f_vals o1) (f_flg o1) (f_res o1) (f_resNull o1) (f_frameCnt o1) (f_sorted o1) (f_cap o1) (f_rows o1) (f_direction o1) (f_nulls o1) (f_mode o1) (f_startKind o1) (f_startOff o1) a1_15 (f_endOff o1) (f_fn o1) (f_fnArg o1) (f_computed o1) (f_sortedLen o1) (f_curPos o1) (f_aggSum o1) (f_aggCount o1) (f_aggRows o1) (f_aggMin o1) (f_aggMax o1)
def H1x80 (s : List Int32) (o0 o1 : Ob) (a1_15 : Int32) (a1_16 : Int32) : QHeap := H1v s (f_part o0) (f_keys o0) (f_vals o0) (f_flg o0) (f_res o0) (f_resNull o0) (f_frameCnt o0) (f_sorted o0) (f_cap o0) (f_rows o0) (f_direction o0) (f_nulls o0) (f_mode o0) (f_startKind o0) (f_startOff o0) (f_endKind o0) (f_endOff o0) (f_fn o0) (f_fnArg o0) (f_computed o0) (f_sortedLen o0) (f_curPos o0) (f_aggSum o0) (f_aggCount o0) (f_aggRows o0) (f_aggMin o0) (f_aggMax o0) (f_part o1) (f_keys o1) (f_vals o1) (f_flg o1) (f_res o1) (f_resNull o1) (f_frameCnt o1) (f_sorted o1) (f_cap o1) (f_rows o1) (f_direction o1) (f_nulls o1) (f_mode o1) (f_startKind o1) (f_startOff o1) a1_15 a1_16 (f_fn o1) (f_fnArg o1) (f_computed o1) (f_sortedLen o1) (f_curPos o1) (f_aggSum o1) (f_aggCount o1) (f_aggRows o1) (f_aggMin o1) (f_aggMax o1)
def H1x81 (s : List Int32) (o0 o1 : Ob) (a1_15 : Int32) (a1_16 : Int32) (a1_19 : Int32) : QHeap := H1v s (f_part o0) (f_keys o0) (f_vals o0) (f_flg o0) (f_res o0) (f_resNull o0) (f_frameCnt o0) (f_sorted o0) (f_cap o0) (f_rows o0) (f_direction o0) (f_nulls o0) (f_mode o0) (f_startKind o0) (f_startOff o0) (f_endKind o0) (f_endOff o0) (f_fn o0) (f_fnArg o0) (f_computed o0) (f_sortedLen o0) (f_curPos o0) (f_aggSum o0) (f_aggCount o0) (f_aggRows o0) (f_aggMin o0) (f_aggMax o0) (f_part o1) (f_keys o1) (f_vals o1) (f_flg o1) (f_res o1) (f_resNull o1) (f_frameCnt o1) (f_sorted o1) (f_cap o1) (f_rows o1) (f_direction o1) (f_nulls o1) (f_mode o1) (f_startKind o1) (f_startOff o1) a1_15 a1_16 (f_fn o1) (f_fnArg o1) a1_19 (f_sortedLen o1) (f_curPos o1) (f_aggSum o1) (f_aggCount o1) (f_aggRows o1) (f_aggMin o1) (f_aggMax o1)
theorem tJ20_38a1 (Ad : QAd n0 ad) (W : QW Z a0) (s : List Int32) (e0 : Ob) (o : Ob) (x1 : Int32) (x2 : Int32) (x3 : Int32) {r : Int32 × Ob} (h : J20_38 o x1 x2 x3 = some r) : QTri l Z n0 ad 20 (38, [vR 10, vI x1, vI x2, vI x3], [], (H1 s e0 o)) (some (Value.int r.1)) (H1 s e0 r.2) := by
 unfold J20_38 at h
 refine zS Ad W 3 (st' := (43, [vR 10, vI x1, vI x2, vI x3], [], (H1x79 s e0 o x1))) rfl ?_
 refine zS Ad W 2 (st' := (45, [vR 10, vI x1, vI x2, vI x3], [.int x3, .ref 10], (H1x79 s e0 o x1))) rfl ?_
 have K400 : ∀ z399 : Int32, z399 = (if x3 = (0:Int32) then (0:Int32) else x2) → QTri l Z n0 ad 20 (53, [vR 10, none, none, none], [.int z399, .ref 10], (H1x79 s e0 o x1)) (some (Value.int r.1)) (H1 s e0 r.2) := by
  intro z399 ez399
  subst ez399
  refine zS Ad W 1 (st' := (56, [vR 10, none, none, none], [], (H1x80 s e0 o x1 (if x3 = (0:Int32) then (0:Int32) else x2)))) rfl ?_
  refine zS Ad W 3 (st' := (61, [vR 10, none, none, none], [], (H1x81 s e0 o x1 (if x3 = (0:Int32) then (0:Int32) else x2) (0:Int32)))) rfl ?_
  refine zS Ad W 1 (st' := (62, [vR 10, none, none, none], [.int (1:Int32)], (H1x81 s e0 o x1 (if x3 = (0:Int32) then (0:Int32) else x2) (0:Int32)))) rfl ?_
  have E402 : ((H1x81 s e0 o x1 (if x3 = (0:Int32) then (0:Int32) else x2) (0:Int32)) : QHeap) = (H1 s e0 (s_computed (s_endOff (s_endKind o x1) (if x3 = (0:Int32) then (0:Int32) else x2)) (0:Int32))) := by simp only [fs, H1, H1v, H1x81, s_endKind, s_endOff, s_computed]
  rw [E402]
  obtain rfl := Option.some.inj h
  exact QTri.retZ rfl rfl
 rcases em (x3 = (0:Int32)) with hc401 | hc401
 ·refine zT Ad W (t := 52) (f := 48) rfl (XT.i0_eq_t hc401) ?_
  refine zS Ad W 1 (st' := (53, [vR 10, vI x1, vI x2, vI x3], [.int (0:Int32), .ref 10], (H1x79 s e0 o x1))) rfl ?_
  exact zM [tt,ff,ff,ff] (K400 _ (if_pos hc401).symm)
 ·refine zF Ad W (t := 52) (f := 48) rfl (XT.i0_eq_f hc401) ?_
  refine zS Ad W 2 (st' := (53, [vR 10, vI x1, vI x2, vI x3], [.int x2, .ref 10], (H1x79 s e0 o x1))) rfl ?_
  exact zM [tt,ff,ff,ff] (K400 _ (if_neg hc401).symm)
theorem tF20a1 (Ad : QAd n0 ad) (W : QW Z a0) (s : List Int32) (e0 : Ob) (o : Ob) (x1 : Int32) (x2 : Int32) {r : Int32 × Ob} (h : F20 o x1 x2 = some r) : QTri l Z n0 ad 20 (0, qentry [.ref 10, .int x1, .int x2] (pMaxL 20), [], (H1 s e0 o)) (some (Value.int r.1)) (H1 s e0 r.2) := by
 unfold F20 at h
 refine zS Ad W 2 (st' := (2, [vR 10, vI x1, vI x2, none], [.int (1:Int32), .int x1], (H1 s e0 o))) rfl ?_
 rcases qite h with ⟨hc392, h⟩ | ⟨hc392, h⟩
 ·refine zT Ad W (t := 10) (f := 5) rfl (XT.ii_lt_t hc392) ?_
  refine zS Ad W 1 (st' := (11, [vR 10, vI x1, vI x2, none], [.int (0:Int32)], (H1 s e0 o))) rfl ?_
  obtain rfl := Option.some.inj h
  exact QTri.retZ rfl rfl
 ·refine zF Ad W (t := 10) (f := 5) rfl (XT.ii_lt_f hc392) ?_
  refine zS Ad W 2 (st' := (7, [vR 10, vI x1, vI x2, none], [.int (4:Int32), .int x1], (H1 s e0 o))) rfl ?_
  rcases qite h with ⟨hc393, h⟩ | ⟨hc393, h⟩
  ·refine zF Ad W (t := 12) (f := 10) rfl (XT.ii_le_f hc393) ?_
   refine zS Ad W 1 (st' := (11, [vR 10, vI x1, vI x2, none], [.int (0:Int32)], (H1 s e0 o))) rfl ?_
   obtain rfl := Option.some.inj h
   exact QTri.retZ rfl rfl
  ·refine zT Ad W (t := 12) (f := 10) rfl (XT.ii_le_t hc393) ?_
   refine zS Ad W 2 (st' := (14, [vR 10, vI x1, vI x2, none], [.int (1:Int32), .int x1], (H1 s e0 o))) rfl ?_
   have K395 : ∀ z394 : Int32, z394 = (if x1 = (1:Int32) then (1:Int32) else (if x1 = (3:Int32) then (1:Int32) else (0:Int32))) → QTri l Z n0 ad 20 (27, [vR 10, vI x1, vI x2, none], [.int z394], (H1 s e0 o)) (some (Value.int r.1)) (H1 s e0 r.2) := by
    intro z394 ez394
    subst ez394
    refine zS Ad W 2 (st' := (29, [vR 10, vI x1, vI x2, vI (if x1 = (1:Int32) then (1:Int32) else (if x1 = (3:Int32) then (1:Int32) else (0:Int32)))], [.int (if x1 = (1:Int32) then (1:Int32) else (if x1 = (3:Int32) then (1:Int32) else (0:Int32)))], (H1 s e0 o))) rfl ?_
    rcases qite h with ⟨hc398, h⟩ | ⟨hc398, h⟩
    ·refine zT Ad W (t := 38) (f := 32) rfl (XT.i0_eq_t hc398) ?_
     exact zM [tt,tt,tt,tt] (tJ20_38a1 Ad W s e0 o x1 x2 (if x1 = (1:Int32) then (1:Int32) else (if x1 = (3:Int32) then (1:Int32) else (0:Int32))) h)
    ·refine zF Ad W (t := 38) (f := 32) rfl (XT.i0_eq_f hc398) ?_
     refine zS Ad W 1 (st' := (33, [vR 10, vI x1, vI x2, vI (if x1 = (1:Int32) then (1:Int32) else (if x1 = (3:Int32) then (1:Int32) else (0:Int32)))], [.int x2], (H1 s e0 o))) rfl ?_
     rcases qite h with ⟨hc403, h⟩ | ⟨hc403, h⟩
     ·refine zF Ad W (t := 38) (f := 36) rfl (XT.i0_ge_f hc403) ?_
      refine zS Ad W 1 (st' := (37, [vR 10, vI x1, vI x2, vI (if x1 = (1:Int32) then (1:Int32) else (if x1 = (3:Int32) then (1:Int32) else (0:Int32)))], [.int (0:Int32)], (H1 s e0 o))) rfl ?_
      obtain rfl := Option.some.inj h
      exact QTri.retZ rfl rfl
     ·refine zT Ad W (t := 38) (f := 36) rfl (XT.i0_ge_t hc403) ?_
      exact zM [tt,tt,tt,tt] (tJ20_38a1 Ad W s e0 o x1 x2 (if x1 = (1:Int32) then (1:Int32) else (if x1 = (3:Int32) then (1:Int32) else (0:Int32))) h)
   rcases em (x1 = (1:Int32)) with hc396 | hc396
   ·refine zT Ad W (t := 22) (f := 17) rfl (XT.ii_eq_t hc396) ?_
    refine zS Ad W 2 (st' := (27, [vR 10, vI x1, vI x2, none], [.int (1:Int32)], (H1 s e0 o))) rfl ?_
    exact zM [tt,tt,tt,ff] (K395 _ (if_pos hc396).symm)
   ·refine zF Ad W (t := 22) (f := 17) rfl (XT.ii_eq_f hc396) ?_
    refine zS Ad W 2 (st' := (19, [vR 10, vI x1, vI x2, none], [.int (3:Int32), .int x1], (H1 s e0 o))) rfl ?_
    rcases em (x1 = (3:Int32)) with hc397 | hc397
    ·refine zF Ad W (t := 26) (f := 22) rfl (XT.ii_ne_f hc397) ?_
     refine zS Ad W 2 (st' := (27, [vR 10, vI x1, vI x2, none], [.int (1:Int32)], (H1 s e0 o))) rfl ?_
     exact zM [tt,tt,tt,ff] (K395 _ ((if_neg hc396).trans (if_pos hc397)).symm)
    ·refine zT Ad W (t := 26) (f := 22) rfl (XT.ii_ne_t hc397) ?_
     refine zS Ad W 1 (st' := (27, [vR 10, vI x1, vI x2, none], [.int (0:Int32)], (H1 s e0 o))) rfl ?_
     exact zM [tt,tt,tt,ff] (K395 _ ((if_neg hc396).trans (if_neg hc397)).symm)
def H1x82 (s : List Int32) (o0 o1 : Ob) (a1_17 : Int32) : QHeap := H1v s (f_part o0) (f_keys o0) (f_vals o0) (f_flg o0) (f_res o0) (f_resNull o0) (f_frameCnt o0) (f_sorted o0) (f_cap o0) (f_rows o0) (f_direction o0) (f_nulls o0) (f_mode o0) (f_startKind o0) (f_startOff o0) (f_endKind o0) (f_endOff o0) (f_fn o0) (f_fnArg o0) (f_computed o0) (f_sortedLen o0) (f_curPos o0) (f_aggSum o0) (f_aggCount o0) (f_aggRows o0) (f_aggMin o0) (f_aggMax o0) (f_part o1) (f_keys o1) (f_vals o1) (f_flg o1) (f_res o1) (f_resNull o1) (f_frameCnt o1) (f_sorted o1) (f_cap o1) (f_rows o1) (f_direction o1) (f_nulls o1) (f_mode o1) (f_startKind o1) (f_startOff o1) (f_endKind o1) (f_endOff o1) a1_17 (f_fnArg o1) (f_computed o1) (f_sortedLen o1) (f_curPos o1) (f_aggSum o1) (f_aggCount o1) (f_aggRows o1) (f_aggMin o1) (f_aggMax o1)
def H1x83 (s : List Int32) (o0 o1 : Ob) (a1_17 : Int32) (a1_18 : Int32) : QHeap := H1v s (f_part o0) (f_keys o0) (f_vals o0) (f_flg o0) (f_res o0) (f_resNull o0) (f_frameCnt o0) (f_sorted o0) (f_cap o0) (f_rows o0) (f_direction o0) (f_nulls o0) (f_mode o0) (f_startKind o0) (f_startOff o0) (f_endKind o0) (f_endOff o0) (f_fn o0) (f_fnArg o0) (f_computed o0) (f_sortedLen o0) (f_curPos o0) (f_aggSum o0) (f_aggCount o0) (f_aggRows o0) (f_aggMin o0) (f_aggMax o0) (f_part o1) (f_keys o1) (f_vals o1) (f_flg o1) (f_res o1) (f_resNull o1) (f_frameCnt o1) (f_sorted o1) (f_cap o1) (f_rows o1) (f_direction o1) (f_nulls o1) (f_mode o1) (f_startKind o1) (f_startOff o1) (f_endKind o1) (f_endOff o1) a1_17 a1_18 (f_computed o1) (f_sortedLen o1) (f_curPos o1) (f_aggSum o1) (f_aggCount o1) (f_aggRows o1) (f_aggMin o1) (f_aggMax o1)
def H1x84 (s : List Int32) (o0 o1 : Ob) (a1_17 : Int32) (a1_18 : Int32) (a1_19 : Int32) : QHeap := H1v s (f_part o0) (f_keys o0) (f_vals o0) (f_flg o0) (f_res o0) (f_resNull o0) (f_frameCnt o0) (f_sorted o0) (f_cap o0) (f_rows o0) (f_direction o0) (f_nulls o0) (f_mode o0) (f_startKind o0) (f_startOff o0) (f_endKind o0) (f_endOff o0) (f_fn o0) (f_fnArg o0) (f_computed o0) (f_sortedLen o0) (f_curPos o0) (f_aggSum o0) (f_aggCount o0) (f_aggRows o0) (f_aggMin o0) (f_aggMax o0) (f_part o1) (f_keys o1) (f_vals o1) (f_flg o1) (f_res o1) (f_resNull o1) (f_frameCnt o1) (f_sorted o1) (f_cap o1) (f_rows o1) (f_direction o1) (f_nulls o1) (f_mode o1) (f_startKind o1) (f_startOff o1) (f_endKind o1) (f_endOff o1) a1_17 a1_18 a1_19 (f_sortedLen o1) (f_curPos o1) (f_aggSum o1) (f_aggCount o1) (f_aggRows o1) (f_aggMin o1) (f_aggMax o1)
theorem tJ16_40a1 (Ad : QAd n0 ad) (W : QW Z a0) (s : List Int32) (e0 : Ob) (o : Ob) (x1 : Int32) (x2 : Int32) (x3 : Int32) {r : Int32 × Ob} (h : J16_40 o x1 x2 x3 = some r) : QTri l Z n0 ad 16 (40, [vR 10, vI x1, vI x2, vI x3], [], (H1 s e0 o)) (some (Value.int r.1)) (H1 s e0 r.2) := by
 unfold J16_40 at h
 refine zS Ad W 3 (st' := (45, [vR 10, vI x1, vI x2, vI x3], [], (H1x82 s e0 o x1))) rfl ?_
 refine zS Ad W 2 (st' := (47, [vR 10, vI x1, vI x2, vI x3], [.int x3, .ref 10], (H1x82 s e0 o x1))) rfl ?_
 have K414 : ∀ z413 : Int32, z413 = (if x3 = (0:Int32) then (0:Int32) else x2) → QTri l Z n0 ad 16 (55, [vR 10, none, none, none], [.int z413, .ref 10], (H1x82 s e0 o x1)) (some (Value.int r.1)) (H1 s e0 r.2) := by
  intro z413 ez413
  subst ez413
  refine zS Ad W 1 (st' := (58, [vR 10, none, none, none], [], (H1x83 s e0 o x1 (if x3 = (0:Int32) then (0:Int32) else x2)))) rfl ?_
  refine zS Ad W 3 (st' := (63, [vR 10, none, none, none], [], (H1x84 s e0 o x1 (if x3 = (0:Int32) then (0:Int32) else x2) (0:Int32)))) rfl ?_
  refine zS Ad W 1 (st' := (64, [vR 10, none, none, none], [.int (1:Int32)], (H1x84 s e0 o x1 (if x3 = (0:Int32) then (0:Int32) else x2) (0:Int32)))) rfl ?_
  have E416 : ((H1x84 s e0 o x1 (if x3 = (0:Int32) then (0:Int32) else x2) (0:Int32)) : QHeap) = (H1 s e0 (s_computed (s_fnArg (s_fn o x1) (if x3 = (0:Int32) then (0:Int32) else x2)) (0:Int32))) := by simp only [fs, H1, H1v, H1x84, s_fn, s_fnArg, s_computed]
  rw [E416]
  obtain rfl := Option.some.inj h
  exact QTri.retZ rfl rfl
 rcases em (x3 = (0:Int32)) with hc415 | hc415
 ·refine zT Ad W (t := 54) (f := 50) rfl (XT.i0_eq_t hc415) ?_
  refine zS Ad W 1 (st' := (55, [vR 10, vI x1, vI x2, vI x3], [.int (0:Int32), .ref 10], (H1x82 s e0 o x1))) rfl ?_
  exact zM [tt,ff,ff,ff] (K414 _ (if_pos hc415).symm)
 ·refine zF Ad W (t := 54) (f := 50) rfl (XT.i0_eq_f hc415) ?_
  refine zS Ad W 2 (st' := (55, [vR 10, vI x1, vI x2, vI x3], [.int x2, .ref 10], (H1x82 s e0 o x1))) rfl ?_
  exact zM [tt,ff,ff,ff] (K414 _ (if_neg hc415).symm)
theorem tF16a1 (Ad : QAd n0 ad) (W : QW Z a0) (s : List Int32) (e0 : Ob) (o : Ob) (x1 : Int32) (x2 : Int32) {r : Int32 × Ob} (h : F16 o x1 x2 = some r) : QTri l Z n0 ad 16 (0, qentry [.ref 10, .int x1, .int x2] (pMaxL 16), [], (H1 s e0 o)) (some (Value.int r.1)) (H1 s e0 r.2) := by
 unfold F16 at h
 refine zS Ad W 1 (st' := (1, [vR 10, vI x1, vI x2, none], [.int x1], (H1 s e0 o))) rfl ?_
 rcases qite h with ⟨hc406, h⟩ | ⟨hc406, h⟩
 ·refine zT Ad W (t := 10) (f := 4) rfl (XT.i0_lt_t hc406) ?_
  refine zS Ad W 1 (st' := (11, [vR 10, vI x1, vI x2, none], [.int (0:Int32)], (H1 s e0 o))) rfl ?_
  obtain rfl := Option.some.inj h
  exact QTri.retZ rfl rfl
 ·refine zF Ad W (t := 10) (f := 4) rfl (XT.i0_lt_f hc406) ?_
  refine zS Ad W 2 (st' := (7, [vR 10, vI x1, vI x2, none], [.int (9:Int32), .int x1], (H1 s e0 o))) rfl ?_
  rcases qite h with ⟨hc407, h⟩ | ⟨hc407, h⟩
  ·refine zF Ad W (t := 12) (f := 10) rfl (XT.ii_le_f hc407) ?_
   refine zS Ad W 1 (st' := (11, [vR 10, vI x1, vI x2, none], [.int (0:Int32)], (H1 s e0 o))) rfl ?_
   obtain rfl := Option.some.inj h
   exact QTri.retZ rfl rfl
  ·refine zT Ad W (t := 12) (f := 10) rfl (XT.ii_le_t hc407) ?_
   refine zS Ad W 2 (st' := (15, [vR 10, vI x1, vI x2, none], [.int (8:Int32), .int x1], (H1 s e0 o))) rfl ?_
   have K409 : ∀ z408 : Int32, z408 = (if x1 = (8:Int32) then (1:Int32) else (if x1 = (9:Int32) then (1:Int32) else (0:Int32))) → QTri l Z n0 ad 16 (29, [vR 10, vI x1, vI x2, none], [.int z408], (H1 s e0 o)) (some (Value.int r.1)) (H1 s e0 r.2) := by
    intro z408 ez408
    subst ez408
    refine zS Ad W 2 (st' := (31, [vR 10, vI x1, vI x2, vI (if x1 = (8:Int32) then (1:Int32) else (if x1 = (9:Int32) then (1:Int32) else (0:Int32)))], [.int (if x1 = (8:Int32) then (1:Int32) else (if x1 = (9:Int32) then (1:Int32) else (0:Int32)))], (H1 s e0 o))) rfl ?_
    rcases qite h with ⟨hc412, h⟩ | ⟨hc412, h⟩
    ·refine zT Ad W (t := 40) (f := 34) rfl (XT.i0_eq_t hc412) ?_
     exact zM [tt,tt,tt,tt] (tJ16_40a1 Ad W s e0 o x1 x2 (if x1 = (8:Int32) then (1:Int32) else (if x1 = (9:Int32) then (1:Int32) else (0:Int32))) h)
    ·refine zF Ad W (t := 40) (f := 34) rfl (XT.i0_eq_f hc412) ?_
     refine zS Ad W 1 (st' := (35, [vR 10, vI x1, vI x2, vI (if x1 = (8:Int32) then (1:Int32) else (if x1 = (9:Int32) then (1:Int32) else (0:Int32)))], [.int x2], (H1 s e0 o))) rfl ?_
     rcases qite h with ⟨hc417, h⟩ | ⟨hc417, h⟩
     ·refine zF Ad W (t := 40) (f := 38) rfl (XT.i0_ge_f hc417) ?_
      refine zS Ad W 1 (st' := (39, [vR 10, vI x1, vI x2, vI (if x1 = (8:Int32) then (1:Int32) else (if x1 = (9:Int32) then (1:Int32) else (0:Int32)))], [.int (0:Int32)], (H1 s e0 o))) rfl ?_
      obtain rfl := Option.some.inj h
      exact QTri.retZ rfl rfl
     ·refine zT Ad W (t := 40) (f := 38) rfl (XT.i0_ge_t hc417) ?_
      exact zM [tt,tt,tt,tt] (tJ16_40a1 Ad W s e0 o x1 x2 (if x1 = (8:Int32) then (1:Int32) else (if x1 = (9:Int32) then (1:Int32) else (0:Int32))) h)
   rcases em (x1 = (8:Int32)) with hc410 | hc410
   ·refine zT Ad W (t := 24) (f := 18) rfl (XT.ii_eq_t hc410) ?_
    refine zS Ad W 2 (st' := (29, [vR 10, vI x1, vI x2, none], [.int (1:Int32)], (H1 s e0 o))) rfl ?_
    exact zM [tt,tt,tt,ff] (K409 _ (if_pos hc410).symm)
   ·refine zF Ad W (t := 24) (f := 18) rfl (XT.ii_eq_f hc410) ?_
    refine zS Ad W 2 (st' := (21, [vR 10, vI x1, vI x2, none], [.int (9:Int32), .int x1], (H1 s e0 o))) rfl ?_
    rcases em (x1 = (9:Int32)) with hc411 | hc411
    ·refine zF Ad W (t := 28) (f := 24) rfl (XT.ii_ne_f hc411) ?_
     refine zS Ad W 2 (st' := (29, [vR 10, vI x1, vI x2, none], [.int (1:Int32)], (H1 s e0 o))) rfl ?_
     exact zM [tt,tt,tt,ff] (K409 _ ((if_neg hc410).trans (if_pos hc411)).symm)
    ·refine zT Ad W (t := 28) (f := 24) rfl (XT.ii_ne_t hc411) ?_
     refine zS Ad W 1 (st' := (29, [vR 10, vI x1, vI x2, none], [.int (0:Int32)], (H1 s e0 o))) rfl ?_
     exact zM [tt,tt,tt,ff] (K409 _ ((if_neg hc410).trans (if_neg hc411)).symm)
theorem tF19a1 (Ad : QAd n0 ad) (W : QW Z a0) (s : List Int32) (e0 : Ob) (o : Ob) {r : Int32} (h : F19 o = some r) : QTri l Z n0 ad 19 (0, qentry [.ref 10] (pMaxL 19), [], (H1 s e0 o)) (some (Value.int r)) (H1 s e0 o) := by
 unfold F19 at h
 refine zS Ad W 3 (st' := (5, [vR 10, none, none], [.int (1:Int32), .int (f_mode o)], (H1 s e0 o))) rfl ?_
 rcases qite h with ⟨hc419, h⟩ | ⟨hc419, h⟩
 ·refine zF Ad W (t := 15) (f := 8) rfl (XT.ii_ne_f hc419) ?_
  refine zS Ad W 2 (st' := (12, [vR 10, none, none], [.int (f_direction o)], (H1 s e0 o))) rfl ?_
  rcases qite h with ⟨hc420, h⟩ | ⟨hc420, h⟩
  ·refine zT Ad W (t := 17) (f := 15) rfl (XT.i0_eq_t hc420) ?_
   refine zS Ad W 3 (st' := (22, [vR 10, none, none], [.int (1:Int32), .int (f_startKind o)], (H1 s e0 o))) rfl ?_
   have K422 : ∀ z421 : Int32, z421 = (if (f_startKind o) = (1:Int32) then (1:Int32) else (if (f_startKind o) = (3:Int32) then (1:Int32) else (0:Int32))) → QTri l Z n0 ad 19 (38, [vR 10, none, none], [.int z421], (H1 s e0 o)) (some (Value.int r)) (H1 s e0 o) := by
    intro z421 ez421
    subst ez421
    refine zS Ad W 4 (st' := (44, [vR 10, vI (if (f_startKind o) = (1:Int32) then (1:Int32) else (if (f_startKind o) = (3:Int32) then (1:Int32) else (0:Int32))), none], [.int (1:Int32), .int (f_endKind o)], (H1 s e0 o))) rfl ?_
    have K426 : ∀ z425 : Int32, z425 = (if (f_endKind o) = (1:Int32) then (1:Int32) else (if (f_endKind o) = (3:Int32) then (1:Int32) else (0:Int32))) → QTri l Z n0 ad 19 (60, [none, vI (if (f_startKind o) = (1:Int32) then (1:Int32) else (if (f_startKind o) = (3:Int32) then (1:Int32) else (0:Int32))), none], [.int z425], (H1 s e0 o)) (some (Value.int r)) (H1 s e0 o) := by
     intro z425 ez425
     subst ez425
     refine zS Ad W 2 (st' := (62, [none, vI (if (f_startKind o) = (1:Int32) then (1:Int32) else (if (f_startKind o) = (3:Int32) then (1:Int32) else (0:Int32))), vI (if (f_endKind o) = (1:Int32) then (1:Int32) else (if (f_endKind o) = (3:Int32) then (1:Int32) else (0:Int32)))], [.int (if (f_startKind o) = (1:Int32) then (1:Int32) else (if (f_startKind o) = (3:Int32) then (1:Int32) else (0:Int32)))], (H1 s e0 o))) rfl ?_
     rcases qite h with ⟨hc429, h⟩ | ⟨hc429, h⟩
     ·refine zF Ad W (t := 69) (f := 65) rfl (XT.i0_ne_f hc429) ?_
      refine zS Ad W 1 (st' := (66, [none, vI (if (f_startKind o) = (1:Int32) then (1:Int32) else (if (f_startKind o) = (3:Int32) then (1:Int32) else (0:Int32))), vI (if (f_endKind o) = (1:Int32) then (1:Int32) else (if (f_endKind o) = (3:Int32) then (1:Int32) else (0:Int32)))], [.int (if (f_endKind o) = (1:Int32) then (1:Int32) else (if (f_endKind o) = (3:Int32) then (1:Int32) else (0:Int32)))], (H1 s e0 o))) rfl ?_
      rcases qite h with ⟨hc430, h⟩ | ⟨hc430, h⟩
      ·refine zT Ad W (t := 73) (f := 69) rfl (XT.i0_eq_t hc430) ?_
       refine zS Ad W 1 (st' := (74, [none, vI (if (f_startKind o) = (1:Int32) then (1:Int32) else (if (f_startKind o) = (3:Int32) then (1:Int32) else (0:Int32))), vI (if (f_endKind o) = (1:Int32) then (1:Int32) else (if (f_endKind o) = (3:Int32) then (1:Int32) else (0:Int32)))], [.int (0:Int32)], (H1 s e0 o))) rfl ?_
       obtain rfl := Option.some.inj h
       exact QTri.retZ rfl rfl
      ·refine zF Ad W (t := 73) (f := 69) rfl (XT.i0_eq_f hc430) ?_
       refine zS Ad W 2 (st' := (74, [none, vI (if (f_startKind o) = (1:Int32) then (1:Int32) else (if (f_startKind o) = (3:Int32) then (1:Int32) else (0:Int32))), vI (if (f_endKind o) = (1:Int32) then (1:Int32) else (if (f_endKind o) = (3:Int32) then (1:Int32) else (0:Int32)))], [.int (1:Int32)], (H1 s e0 o))) rfl ?_
       obtain rfl := Option.some.inj h
       exact QTri.retZ rfl rfl
     ·refine zT Ad W (t := 69) (f := 65) rfl (XT.i0_ne_t hc429) ?_
      refine zS Ad W 2 (st' := (74, [none, vI (if (f_startKind o) = (1:Int32) then (1:Int32) else (if (f_startKind o) = (3:Int32) then (1:Int32) else (0:Int32))), vI (if (f_endKind o) = (1:Int32) then (1:Int32) else (if (f_endKind o) = (3:Int32) then (1:Int32) else (0:Int32)))], [.int (1:Int32)], (H1 s e0 o))) rfl ?_
      obtain rfl := Option.some.inj h
      exact QTri.retZ rfl rfl
    rcases em ((f_endKind o) = (1:Int32)) with hc427 | hc427
    ·refine zT Ad W (t := 55) (f := 47) rfl (XT.ii_eq_t hc427) ?_
     refine zS Ad W 2 (st' := (60, [vR 10, vI (if (f_startKind o) = (1:Int32) then (1:Int32) else (if (f_startKind o) = (3:Int32) then (1:Int32) else (0:Int32))), none], [.int (1:Int32)], (H1 s e0 o))) rfl ?_
     exact zM [ff,tt,ff] (K426 _ (if_pos hc427).symm)
    ·refine zF Ad W (t := 55) (f := 47) rfl (XT.ii_eq_f hc427) ?_
     refine zS Ad W 3 (st' := (52, [vR 10, vI (if (f_startKind o) = (1:Int32) then (1:Int32) else (if (f_startKind o) = (3:Int32) then (1:Int32) else (0:Int32))), none], [.int (3:Int32), .int (f_endKind o)], (H1 s e0 o))) rfl ?_
     rcases em ((f_endKind o) = (3:Int32)) with hc428 | hc428
     ·refine zF Ad W (t := 59) (f := 55) rfl (XT.ii_ne_f hc428) ?_
      refine zS Ad W 2 (st' := (60, [vR 10, vI (if (f_startKind o) = (1:Int32) then (1:Int32) else (if (f_startKind o) = (3:Int32) then (1:Int32) else (0:Int32))), none], [.int (1:Int32)], (H1 s e0 o))) rfl ?_
      exact zM [ff,tt,ff] (K426 _ ((if_neg hc427).trans (if_pos hc428)).symm)
     ·refine zT Ad W (t := 59) (f := 55) rfl (XT.ii_ne_t hc428) ?_
      refine zS Ad W 1 (st' := (60, [vR 10, vI (if (f_startKind o) = (1:Int32) then (1:Int32) else (if (f_startKind o) = (3:Int32) then (1:Int32) else (0:Int32))), none], [.int (0:Int32)], (H1 s e0 o))) rfl ?_
      exact zM [ff,tt,ff] (K426 _ ((if_neg hc427).trans (if_neg hc428)).symm)
   rcases em ((f_startKind o) = (1:Int32)) with hc423 | hc423
   ·refine zT Ad W (t := 33) (f := 25) rfl (XT.ii_eq_t hc423) ?_
    refine zS Ad W 2 (st' := (38, [vR 10, none, none], [.int (1:Int32)], (H1 s e0 o))) rfl ?_
    exact zM [tt,ff,ff] (K422 _ (if_pos hc423).symm)
   ·refine zF Ad W (t := 33) (f := 25) rfl (XT.ii_eq_f hc423) ?_
    refine zS Ad W 3 (st' := (30, [vR 10, none, none], [.int (3:Int32), .int (f_startKind o)], (H1 s e0 o))) rfl ?_
    rcases em ((f_startKind o) = (3:Int32)) with hc424 | hc424
    ·refine zF Ad W (t := 37) (f := 33) rfl (XT.ii_ne_f hc424) ?_
     refine zS Ad W 2 (st' := (38, [vR 10, none, none], [.int (1:Int32)], (H1 s e0 o))) rfl ?_
     exact zM [tt,ff,ff] (K422 _ ((if_neg hc423).trans (if_pos hc424)).symm)
    ·refine zT Ad W (t := 37) (f := 33) rfl (XT.ii_ne_t hc424) ?_
     refine zS Ad W 1 (st' := (38, [vR 10, none, none], [.int (0:Int32)], (H1 s e0 o))) rfl ?_
     exact zM [tt,ff,ff] (K422 _ ((if_neg hc423).trans (if_neg hc424)).symm)
  ·refine zF Ad W (t := 17) (f := 15) rfl (XT.i0_eq_f hc420) ?_
   refine zS Ad W 1 (st' := (16, [vR 10, none, none], [.int (0:Int32)], (H1 s e0 o))) rfl ?_
   obtain rfl := Option.some.inj h
   exact QTri.retZ rfl rfl
 ·refine zT Ad W (t := 15) (f := 8) rfl (XT.ii_ne_t hc419) ?_
  refine zS Ad W 1 (st' := (16, [vR 10, none, none], [.int (0:Int32)], (H1 s e0 o))) rfl ?_
  obtain rfl := Option.some.inj h
  exact QTri.retZ rfl rfl
theorem tF28a1 (Ad : QAd n0 ad) (W : QW Z a0) (s : List Int32) (e0 : Ob) (o : Ob) (x1 : Int32) {r : Int32} (h : F28 o x1 = some r) : QTri l Z n0 ad 28 (0, qentry [.ref 10, .int x1] (pMaxL 28), [], (H1 s e0 o)) (some (Value.int r)) (H1 s e0 o) := by
 unfold F28 at h
 refine zS Ad W 3 (st' := (5, [vR 10, vI x1], [.int x1, .ref 14], (H1 s e0 o))) rfl ?_
 obtain ⟨y442, hy442, h⟩ := bind_eq_some_iff.mp h
 refine zB Ad W (f := fun y442 => (6, [vR 10, vI x1], [.int y442], (H1 s e0 o))) rfl hy442 ?_
 refine zS Ad W 2 (st' := (8, [vR 10, vI x1], [.int (y442 &&& (1:Int32))], (H1 s e0 o))) rfl ?_
 rcases qite h with ⟨hc443, h⟩ | ⟨hc443, h⟩
 ·refine zT Ad W (t := 15) (f := 11) rfl (XT.i0_eq_t hc443) ?_
  refine zS Ad W 1 (st' := (16, [vR 10, vI x1], [.int (0:Int32)], (H1 s e0 o))) rfl ?_
  obtain rfl := Option.some.inj h
  exact QTri.retZ rfl rfl
 ·refine zF Ad W (t := 15) (f := 11) rfl (XT.i0_eq_f hc443) ?_
  refine zS Ad W 2 (st' := (16, [vR 10, vI x1], [.int (1:Int32)], (H1 s e0 o))) rfl ?_
  obtain rfl := Option.some.inj h
  exact QTri.retZ rfl rfl
theorem tJ32_51a1 (Ad : QAd n0 ad) (W : QW Z a0) (s : List Int32) (e0 : Ob) (o : Ob) (x1 : Int32) (x2 : Int32) (x3 : Int32) (x4 : Int32) {r : Int32} (h : J32_51 o x1 x2 x3 x4 = some r) : QTri l Z n0 ad 32 (51, [vR 10, vI x1, vI x2, vI x3, vI x4], [], (H1 s e0 o)) (some (Value.int r)) (H1 s e0 o) := by
 unfold J32_51 at h
 refine zS Ad W 1 (st' := (52, [vR 10, vI x1, vI x2, vI x3, vI x4], [.int x3], (H1 s e0 o))) rfl ?_
 rcases qite h with ⟨hc447, h⟩ | ⟨hc447, h⟩
 ·refine zT Ad W (t := 68) (f := 55) rfl (XT.i0_eq_t hc447) ?_
  refine zS Ad W 1 (st' := (70, [vR 10, vI x1, vI x2, vI x3, vI x4], [.int x4], (H1 s e0 o))) rfl ?_
  rcases qite h with ⟨hc448, h⟩ | ⟨hc448, h⟩
  ·refine zT Ad W (t := 87) (f := 73) rfl (XT.i0_eq_t hc448) ?_
   refine zS Ad W 3 (st' := (92, [vR 10, vI x1, vI x2, vI x3, vI x4], [.int x1, .ref 12], (H1 s e0 o))) rfl ?_
   obtain ⟨y449, hy449, h⟩ := bind_eq_some_iff.mp h
   refine zB Ad W (f := fun y449 => (93, [vR 10, vI x1, vI x2, vI x3, vI x4], [.int y449], (H1 s e0 o))) rfl hy449 ?_
   refine zS Ad W 3 (st' := (98, [vR 10, vI x1, vI x2, vI x3, vI x4], [.int x2, .ref 12, .int y449], (H1 s e0 o))) rfl ?_
   obtain ⟨y450, hy450, h⟩ := bind_eq_some_iff.mp h
   refine zB Ad W (f := fun y450 => (99, [vR 10, vI x1, vI x2, vI x3, vI x4], [.int y450, .int y449], (H1 s e0 o))) rfl hy450 ?_
   rcases qite h with ⟨hc451, h⟩ | ⟨hc451, h⟩
   ·refine zF Ad W (t := 113) (f := 102) rfl (XT.ii_ne_f hc451) ?_
    refine zS Ad W 2 (st' := (104, [vR 10, vI x1, vI x2, vI x3, vI x4], [.int x2, .int x1], (H1 s e0 o))) rfl ?_
    rcases qite h with ⟨hc452, h⟩ | ⟨hc452, h⟩
    ·refine zF Ad W (t := 111) (f := 107) rfl (XT.ii_ge_f hc452) ?_
     refine zS Ad W 2 (st' := (112, [vR 10, vI x1, vI x2, vI x3, vI x4], [.int (1:Int32)], (H1 s e0 o))) rfl ?_
     obtain rfl := Option.some.inj h
     exact QTri.retZ rfl rfl
    ·refine zT Ad W (t := 111) (f := 107) rfl (XT.ii_ge_t hc452) ?_
     refine zS Ad W 1 (st' := (112, [vR 10, vI x1, vI x2, vI x3, vI x4], [.int (0:Int32)], (H1 s e0 o))) rfl ?_
     obtain rfl := Option.some.inj h
     exact QTri.retZ rfl rfl
   ·refine zT Ad W (t := 113) (f := 102) rfl (XT.ii_ne_t hc451) ?_
    refine zS Ad W 3 (st' := (118, [vR 10, vI x1, vI x2, vI x3, vI x4], [.int (1:Int32), .int (f_direction o)], (H1 s e0 o))) rfl ?_
    rcases qite h with ⟨hc453, h⟩ | ⟨hc453, h⟩
    ·refine zF Ad W (t := 142) (f := 121) rfl (XT.ii_ne_f hc453) ?_
     refine zS Ad W 3 (st' := (126, [vR 10, vI x1, vI x2, vI x3, vI x4], [.int x1, .ref 12], (H1 s e0 o))) rfl ?_
     obtain ⟨y454, hy454, h⟩ := bind_eq_some_iff.mp h
     refine zB Ad W (f := fun y454 => (127, [vR 10, vI x1, vI x2, vI x3, vI x4], [.int y454], (H1 s e0 o))) rfl hy454 ?_
     refine zS Ad W 3 (st' := (132, [vR 10, vI x1, vI x2, vI x3, vI x4], [.int x2, .ref 12, .int y454], (H1 s e0 o))) rfl ?_
     obtain ⟨y455, hy455, h⟩ := bind_eq_some_iff.mp h
     refine zB Ad W (f := fun y455 => (133, [vR 10, vI x1, vI x2, vI x3, vI x4], [.int y455, .int y454], (H1 s e0 o))) rfl hy455 ?_
     rcases qite h with ⟨hc456, h⟩ | ⟨hc456, h⟩
     ·refine zF Ad W (t := 140) (f := 136) rfl (XT.ii_ge_f hc456) ?_
      refine zS Ad W 2 (st' := (141, [vR 10, vI x1, vI x2, vI x3, vI x4], [.int (1:Int32)], (H1 s e0 o))) rfl ?_
      obtain rfl := Option.some.inj h
      exact QTri.retZ rfl rfl
     ·refine zT Ad W (t := 140) (f := 136) rfl (XT.ii_ge_t hc456) ?_
      refine zS Ad W 1 (st' := (141, [vR 10, vI x1, vI x2, vI x3, vI x4], [.int (0:Int32)], (H1 s e0 o))) rfl ?_
      obtain rfl := Option.some.inj h
      exact QTri.retZ rfl rfl
    ·refine zT Ad W (t := 142) (f := 121) rfl (XT.ii_ne_t hc453) ?_
     refine zS Ad W 3 (st' := (147, [vR 10, vI x1, vI x2, vI x3, vI x4], [.int x1, .ref 12], (H1 s e0 o))) rfl ?_
     obtain ⟨y457, hy457, h⟩ := bind_eq_some_iff.mp h
     refine zB Ad W (f := fun y457 => (148, [vR 10, vI x1, vI x2, vI x3, vI x4], [.int y457], (H1 s e0 o))) rfl hy457 ?_
     refine zS Ad W 3 (st' := (153, [vR 10, vI x1, vI x2, vI x3, vI x4], [.int x2, .ref 12, .int y457], (H1 s e0 o))) rfl ?_
     obtain ⟨y458, hy458, h⟩ := bind_eq_some_iff.mp h
     refine zB Ad W (f := fun y458 => (154, [vR 10, vI x1, vI x2, vI x3, vI x4], [.int y458, .int y457], (H1 s e0 o))) rfl hy458 ?_
     rcases qite h with ⟨hc459, h⟩ | ⟨hc459, h⟩
     ·refine zF Ad W (t := 161) (f := 157) rfl (XT.ii_le_f hc459) ?_
      refine zS Ad W 2 (st' := (162, [vR 10, vI x1, vI x2, vI x3, vI x4], [.int (1:Int32)], (H1 s e0 o))) rfl ?_
      obtain rfl := Option.some.inj h
      exact QTri.retZ rfl rfl
     ·refine zT Ad W (t := 161) (f := 157) rfl (XT.ii_le_t hc459) ?_
      refine zS Ad W 1 (st' := (162, [vR 10, vI x1, vI x2, vI x3, vI x4], [.int (0:Int32)], (H1 s e0 o))) rfl ?_
      obtain rfl := Option.some.inj h
      exact QTri.retZ rfl rfl
  ·refine zF Ad W (t := 87) (f := 73) rfl (XT.i0_eq_f hc448) ?_
   refine zS Ad W 3 (st' := (78, [vR 10, vI x1, vI x2, vI x3, vI x4], [.int (1:Int32), .int (f_nulls o)], (H1 s e0 o))) rfl ?_
   rcases qite h with ⟨hc460, h⟩ | ⟨hc460, h⟩
   ·refine zF Ad W (t := 85) (f := 81) rfl (XT.ii_ne_f hc460) ?_
    refine zS Ad W 2 (st' := (86, [vR 10, vI x1, vI x2, vI x3, vI x4], [.int (1:Int32)], (H1 s e0 o))) rfl ?_
    obtain rfl := Option.some.inj h
    exact QTri.retZ rfl rfl
   ·refine zT Ad W (t := 85) (f := 81) rfl (XT.ii_ne_t hc460) ?_
    refine zS Ad W 1 (st' := (86, [vR 10, vI x1, vI x2, vI x3, vI x4], [.int (0:Int32)], (H1 s e0 o))) rfl ?_
    obtain rfl := Option.some.inj h
    exact QTri.retZ rfl rfl
 ·refine zF Ad W (t := 68) (f := 55) rfl (XT.i0_eq_f hc447) ?_
  refine zS Ad W 2 (st' := (59, [vR 10, vI x1, vI x2, vI x3, vI x4], [.int (f_nulls o)], (H1 s e0 o))) rfl ?_
  rcases qite h with ⟨hc461, h⟩ | ⟨hc461, h⟩
  ·refine zF Ad W (t := 66) (f := 62) rfl (XT.i0_ne_f hc461) ?_
   refine zS Ad W 2 (st' := (67, [vR 10, vI x1, vI x2, vI x3, vI x4], [.int (1:Int32)], (H1 s e0 o))) rfl ?_
   obtain rfl := Option.some.inj h
   exact QTri.retZ rfl rfl
  ·refine zT Ad W (t := 66) (f := 62) rfl (XT.i0_ne_t hc461) ?_
   refine zS Ad W 1 (st' := (67, [vR 10, vI x1, vI x2, vI x3, vI x4], [.int (0:Int32)], (H1 s e0 o))) rfl ?_
   obtain rfl := Option.some.inj h
   exact QTri.retZ rfl rfl
theorem tF32a1 (Ad : QAd n0 ad) (W : QW Z a0) (s : List Int32) (e0 : Ob) (o : Ob) (x1 : Int32) (x2 : Int32) {r : Int32} (h : F32 o x1 x2 = some r) : QTri l Z n0 ad 32 (0, qentry [.ref 10, .int x1, .int x2] (pMaxL 32), [], (H1 s e0 o)) (some (Value.int r)) (H1 s e0 o) := by
 unfold F32 at h
 refine zS Ad W 2 (st' := (4, [vR 10, vI x1, vI x2, none, none], [.int (f_direction o)], (H1 s e0 o))) rfl ?_
 rcases qite h with ⟨hc440, h⟩ | ⟨hc440, h⟩
 ·refine zF Ad W (t := 18) (f := 7) rfl (XT.i0_ne_f hc440) ?_
  refine zS Ad W 2 (st' := (9, [vR 10, vI x1, vI x2, none, none], [.int x2, .int x1], (H1 s e0 o))) rfl ?_
  rcases qite h with ⟨hc441, h⟩ | ⟨hc441, h⟩
  ·refine zF Ad W (t := 16) (f := 12) rfl (XT.ii_ge_f hc441) ?_
   refine zS Ad W 2 (st' := (17, [vR 10, vI x1, vI x2, none, none], [.int (1:Int32)], (H1 s e0 o))) rfl ?_
   obtain rfl := Option.some.inj h
   exact QTri.retZ rfl rfl
  ·refine zT Ad W (t := 16) (f := 12) rfl (XT.ii_ge_t hc441) ?_
   refine zS Ad W 1 (st' := (17, [vR 10, vI x1, vI x2, none, none], [.int (0:Int32)], (H1 s e0 o))) rfl ?_
   obtain rfl := Option.some.inj h
   exact QTri.retZ rfl rfl
 ·refine zT Ad W (t := 18) (f := 7) rfl (XT.i0_ne_t hc440) ?_
  refine zS Ad W 2 (st' := (20, [vR 10, vI x1, vI x2, none, none], [.int x1, .ref 10], (H1 s e0 o))) rfl ?_
  obtain ⟨r444, hr444, h⟩ := bind_eq_some_iff.mp h
  refine QTri.callP W (a := 10) (as := [.int x1]) (rest := []) (w := (some (.int r444))) (σ₁ := (H1 s e0 o)) rfl rfl rfl rfl rfl rfl rfl rfl (tF28a1 Ad W s e0 o x1 hr444) ?_
  refine zS Ad W 3 (st' := (26, [vR 10, vI x1, vI x2, vI r444, none], [.int x2, .ref 10], (H1 s e0 o))) rfl ?_
  obtain ⟨r445, hr445, h⟩ := bind_eq_some_iff.mp h
  refine QTri.callP W (a := 10) (as := [.int x2]) (rest := []) (w := (some (.int r445))) (σ₁ := (H1 s e0 o)) rfl rfl rfl rfl rfl rfl rfl rfl (tF28a1 Ad W s e0 o x2 hr445) ?_
  refine zS Ad W 2 (st' := (32, [vR 10, vI x1, vI x2, vI r444, vI r445], [.int r444], (H1 s e0 o))) rfl ?_
  rcases qite h with ⟨hc446, h⟩ | ⟨hc446, h⟩
  ·refine zT Ad W (t := 51) (f := 35) rfl (XT.i0_eq_t hc446) ?_
   exact zM [tt,tt,tt,tt,tt] (tJ32_51a1 Ad W s e0 o x1 x2 r444 r445 h)
  ·refine zF Ad W (t := 51) (f := 35) rfl (XT.i0_eq_f hc446) ?_
   refine zS Ad W 1 (st' := (37, [vR 10, vI x1, vI x2, vI r444, vI r445], [.int r445], (H1 s e0 o))) rfl ?_
   rcases qite h with ⟨hc462, h⟩ | ⟨hc462, h⟩
   ·refine zT Ad W (t := 51) (f := 40) rfl (XT.i0_eq_t hc462) ?_
    exact zM [tt,tt,tt,tt,tt] (tJ32_51a1 Ad W s e0 o x1 x2 r444 r445 h)
   ·refine zF Ad W (t := 51) (f := 40) rfl (XT.i0_eq_f hc462) ?_
    refine zS Ad W 2 (st' := (42, [vR 10, vI x1, vI x2, vI r444, vI r445], [.int x2, .int x1], (H1 s e0 o))) rfl ?_
    rcases qite h with ⟨hc463, h⟩ | ⟨hc463, h⟩
    ·refine zF Ad W (t := 49) (f := 45) rfl (XT.ii_ge_f hc463) ?_
     refine zS Ad W 2 (st' := (50, [vR 10, vI x1, vI x2, vI r444, vI r445], [.int (1:Int32)], (H1 s e0 o))) rfl ?_
     obtain rfl := Option.some.inj h
     exact QTri.retZ rfl rfl
    ·refine zT Ad W (t := 49) (f := 45) rfl (XT.ii_ge_t hc463) ?_
     refine zS Ad W 1 (st' := (50, [vR 10, vI x1, vI x2, vI r444, vI r445], [.int (0:Int32)], (H1 s e0 o))) rfl ?_
     obtain rfl := Option.some.inj h
     exact QTri.retZ rfl rfl
def H1x85 (s : List Int32) (o0 o1 : Ob) (a1_7 : List Int32) : QHeap := H1v s (f_part o0) (f_keys o0) (f_vals o0) (f_flg o0) (f_res o0) (f_resNull o0) (f_frameCnt o0) (f_sorted o0) (f_cap o0) (f_rows o0) (f_direction o0) (f_nulls o0) (f_mode o0) (f_startKind o0) (f_startOff o0) (f_endKind o0) (f_endOff o0) (f_fn o0) (f_fnArg o0) (f_computed o0) (f_sortedLen o0) (f_curPos o0) (f_aggSum o0) (f_aggCount o0) (f_aggRows o0) (f_aggMin o0) (f_aggMax o0) (f_part o1) (f_keys o1) (f_vals o1) (f_flg o1) (f_res o1) (f_resNull o1) (f_frameCnt o1) a1_7 (f_cap o1) (f_rows o1) (f_direction o1) (f_nulls o1) (f_mode o1) (f_startKind o1) (f_startOff o1) (f_endKind o1) (f_endOff o1) (f_fn o1) (f_fnArg o1) (f_computed o1) (f_sortedLen o1) (f_curPos o1) (f_aggSum o1) (f_aggCount o1) (f_aggRows o1) (f_aggMin o1) (f_aggMax o1)
theorem tB22_38a1 (Ad : QAd n0 ad) (W : QW Z a0) (s : List Int32) (e0 : Ob) (x1 : Int32) (x2 : Int32) (x3 : Int32) (x4 : Int32) (v : Int32 × Ob) {r : ((Int32 × Ob)) ⊕ (Int32 × Ob)} {u : Option Value} {τ : QHeap} (h : B22_38 x1 x2 x3 x4 v = some r) (hx0 : ∀ x : Int32 × Ob, r = .inl x → QTri l Z n0 ad 22 (83, [vR 10, vI x1, vI x2, vI x3, vI x4, vI x.1], [], (H1 s e0 x.2)) u τ) (hc : ∀ x : Int32 × Ob, r = .inr x → QTri l Z n0 ad 22 (38, [vR 10, vI x1, vI x2, vI x3, vI x4, vI x.1], [], (H1 s e0 x.2)) u τ) : QTri l Z n0 ad 22 (38, [vR 10, vI x1, vI x2, vI x3, vI x4, vI v.1], [], (H1 s e0 v.2)) u τ := by
 unfold B22_38 at h
 refine zS Ad W 1 (st' := (40, [vR 10, vI x1, vI x2, vI x3, vI x4, vI v.1], [.int v.1], (H1 s e0 v.2))) rfl ?_
 rcases qite h with ⟨hc438, h⟩ | ⟨hc438, h⟩
 ·refine zF Ad W (t := 83) (f := 43) rfl (XT.i0_le_f hc438) ?_
  refine zS Ad W 7 (st' := (54, [vR 10, vI x1, vI x2, vI x3, vI x4, vI v.1], [.int (v.1 - (1:Int32)), .ref 18, .int x4, .ref 10], (H1 s e0 v.2))) rfl ?_
  obtain ⟨y439, hy439, h⟩ := bind_eq_some_iff.mp h
  refine zB Ad W (f := fun y439 => (55, [vR 10, vI x1, vI x2, vI x3, vI x4, vI v.1], [.int y439, .int x4, .ref 10], (H1 s e0 v.2))) rfl hy439 ?_
  obtain ⟨r464, hr464, h⟩ := bind_eq_some_iff.mp h
  refine QTri.callP W (a := 10) (as := [.int x4, .int y439]) (rest := []) (w := (some (.int r464))) (σ₁ := (H1 s e0 v.2)) rfl rfl rfl rfl rfl rfl rfl rfl (tF32a1 Ad W s e0 v.2 x4 y439 hr464) ?_
  rcases qite h with ⟨hc465, h⟩ | ⟨hc465, h⟩
  ·refine zT Ad W (t := 83) (f := 61) rfl (XT.i0_eq_t hc465) ?_
   obtain rfl := Option.some.inj h
   exact zM [tt,tt,tt,tt,tt,tt] (hx0 (v.1, v.2) rfl)
  ·refine zF Ad W (t := 83) (f := 61) rfl (XT.i0_eq_f hc465) ?_
   refine zS Ad W 8 (st' := (75, [vR 10, vI x1, vI x2, vI x3, vI x4, vI v.1], [.int (v.1 - (1:Int32)), .ref 18, .int v.1, .ref 18], (H1 s e0 v.2))) rfl ?_
   obtain ⟨y466, hy466, h⟩ := bind_eq_some_iff.mp h
   refine zB Ad W (f := fun y466 => (76, [vR 10, vI x1, vI x2, vI x3, vI x4, vI v.1], [.int y466, .int v.1, .ref 18], (H1 s e0 v.2))) rfl hy466 ?_
   obtain ⟨y467, hy467, h⟩ := bind_eq_some_iff.mp h
   refine zB Ad W (f := fun y467 => (77, [vR 10, vI x1, vI x2, vI x3, vI x4, vI v.1], [], (H1x85 s e0 v.2 y467))) rfl hy467 ?_
   refine zS Ad W 2 (st' := (38, [vR 10, vI x1, vI x2, vI x3, vI x4, vI (v.1 + (-1:Int32))], [], (H1x85 s e0 v.2 y467))) rfl ?_
   have E468 : ((H1x85 s e0 v.2 y467) : QHeap) = (H1 s e0 (s_sorted v.2 y467)) := by simp only [fs, H1, H1v, H1x85, s_sorted]
   rw [E468]
   obtain rfl := Option.some.inj h
   exact zM [tt,tt,tt,tt,tt,tt] (hc ((v.1 + (-1:Int32)), (s_sorted v.2 y467)) rfl)
 ·refine zT Ad W (t := 83) (f := 43) rfl (XT.i0_le_t hc438) ?_
  obtain rfl := Option.some.inj h
  exact zM [tt,tt,tt,tt,tt,tt] (hx0 (v.1, v.2) rfl)
theorem tJ22_95a1 (Ad : QAd n0 ad) (W : QW Z a0) (s : List Int32) (e0 : Ob) (o : Ob) (x1 : Int32) (x2 : Int32) (x3 : Int32) (x4 : Int32) {r : ((Int32 × Ob)) ⊕ (Int32 × Int32 × Ob)} {u : Option Value} {τ : QHeap} (h : J22_95 o x1 x2 x3 x4 = some r) (hx0 : ∀ x : Int32 × Ob, r = .inl x → QTri l Z n0 ad 22 (101, [vR 10, vI x1, vI x.1, none, none, none], [], (H1 s e0 x.2)) u τ) (hc : ∀ x : Int32 × Int32 × Ob, r = .inr x → QTri l Z n0 ad 22 (12, [vR 10, vI x1, vI x.1, vI x3, vI x.2.1, none], [], (H1 s e0 x.2.2)) u τ) : QTri l Z n0 ad 22 (95, [vR 10, vI x1, vI x2, vI x3, vI x4, none], [], (H1 s e0 o)) u τ := by
 unfold J22_95 at h
 refine zS Ad W 2 (st' := (12, [vR 10, vI x1, vI x2, vI x3, vI (x4 + (1:Int32)), none], [], (H1 s e0 o))) rfl ?_
 obtain rfl := Option.some.inj h
 exact zM [tt,tt,tt,tt,tt,ff] (hc (x2, (x4 + (1:Int32)), o) rfl)
theorem tJ22_83a1 (Ad : QAd n0 ad) (W : QW Z a0) (s : List Int32) (e0 : Ob) (o : Ob) (x1 : Int32) (x2 : Int32) (x3 : Int32) (x4 : Int32) (x5 : Int32) {r : ((Int32 × Ob)) ⊕ (Int32 × Int32 × Ob)} {u : Option Value} {τ : QHeap} (h : J22_83 o x1 x2 x3 x4 x5 = some r) (hx0 : ∀ x : Int32 × Ob, r = .inl x → QTri l Z n0 ad 22 (101, [vR 10, vI x1, vI x.1, none, none, none], [], (H1 s e0 x.2)) u τ) (hc : ∀ x : Int32 × Int32 × Ob, r = .inr x → QTri l Z n0 ad 22 (12, [vR 10, vI x1, vI x.1, vI x3, vI x.2.1, none], [], (H1 s e0 x.2.2)) u τ) : QTri l Z n0 ad 22 (83, [vR 10, vI x1, vI x2, vI x3, vI x4, vI x5], [], (H1 s e0 o)) u τ := by
 unfold J22_83 at h
 refine zS Ad W 4 (st' := (91, [vR 10, vI x1, vI x2, vI x3, vI x4, vI x5], [.int x4, .int x5, .ref 18], (H1 s e0 o))) rfl ?_
 obtain ⟨y471, hy471, h⟩ := bind_eq_some_iff.mp h
 refine zB Ad W (f := fun y471 => (92, [vR 10, vI x1, vI x2, vI x3, vI x4, vI x5], [], (H1x85 s e0 o y471))) rfl hy471 ?_
 refine zS Ad W 1 (st' := (95, [vR 10, vI x1, vI (x2 + (1:Int32)), vI x3, vI x4, vI x5], [], (H1x85 s e0 o y471))) rfl ?_
 have E472 : ((H1x85 s e0 o y471) : QHeap) = (H1 s e0 (s_sorted o y471)) := by simp only [fs, H1, H1v, H1x85, s_sorted]
 rw [E472]
 exact zM [tt,tt,tt,tt,tt,ff] (tJ22_95a1 Ad W s e0 (s_sorted o y471) x1 (x2 + (1:Int32)) x3 x4 h hx0 hc)
theorem tB22_12a1 (Ad : QAd n0 ad) (W : QW Z a0) (s : List Int32) (e0 : Ob) (x1 : Int32) (x3 : Int32) (v : Int32 × Int32 × Ob) {r : ((Int32 × Ob)) ⊕ (Int32 × Int32 × Ob)} {u : Option Value} {τ : QHeap} (h : B22_12 x1 x3 v = some r) (hx0 : ∀ x : Int32 × Ob, r = .inl x → QTri l Z n0 ad 22 (101, [vR 10, vI x1, vI x.1, none, none, none], [], (H1 s e0 x.2)) u τ) (hc : ∀ x : Int32 × Int32 × Ob, r = .inr x → QTri l Z n0 ad 22 (12, [vR 10, vI x1, vI x.1, vI x3, vI x.2.1, none], [], (H1 s e0 x.2.2)) u τ) : QTri l Z n0 ad 22 (12, [vR 10, vI x1, vI v.1, vI x3, vI v.2.1, none], [], (H1 s e0 v.2.2)) u τ := by
 unfold B22_12 at h
 refine zS Ad W 3 (st' := (18, [vR 10, vI x1, vI v.1, vI x3, vI v.2.1, none], [.int (f_rows v.2.2), .int v.2.1], (H1 s e0 v.2.2))) rfl ?_
 rcases qite h with ⟨hc435, h⟩ | ⟨hc435, h⟩
 ·refine zF Ad W (t := 101) (f := 21) rfl (XT.ii_ge_f hc435) ?_
  refine zS Ad W 3 (st' := (27, [vR 10, vI x1, vI v.1, vI x3, vI v.2.1, none], [.int v.2.1, .ref 11], (H1 s e0 v.2.2))) rfl ?_
  obtain ⟨y436, hy436, h⟩ := bind_eq_some_iff.mp h
  refine zB Ad W (f := fun y436 => (28, [vR 10, vI x1, vI v.1, vI x3, vI v.2.1, none], [.int y436], (H1 s e0 v.2.2))) rfl hy436 ?_
  refine zS Ad W 1 (st' := (29, [vR 10, vI x1, vI v.1, vI x3, vI v.2.1, none], [.int x3, .int y436], (H1 s e0 v.2.2))) rfl ?_
  rcases qite h with ⟨hc437, h⟩ | ⟨hc437, h⟩
  ·refine zT Ad W (t := 35) (f := 32) rfl (XT.ii_eq_t hc437) ?_
   refine zS Ad W 2 (st' := (38, [vR 10, vI x1, vI v.1, vI x3, vI v.2.1, vI v.1], [], (H1 s e0 v.2.2))) rfl ?_
   obtain ⟨e469, he469, h⟩ := bind_eq_some_iff.mp h
   refine zM [tt,tt,tt,tt,tt,tt] (loopN_tri (B := B22_38 x1 v.1 x3 v.2.1) (T := fun lv470 => QTri l Z n0 ad 22 (38, [vR 10, vI x1, vI v.1, vI x3, vI v.2.1, vI lv470.1], [], (H1 s e0 lv470.2)) u τ) (KE := fun e469a => QTri l Z n0 ad 22 (83, [vR 10, vI x1, vI v.1, vI x3, vI v.2.1, vI e469a.1], [], (H1 s e0 e469a.2)) u τ) (fun lv470 r hB hE hC => tB22_38a1 Ad W s e0 x1 v.1 x3 v.2.1 lv470 hB (fun x q => hE _ q) (fun x q => hC x q)) qN (v.1, v.2.2) e469 he469 ?_)
   exact zM [tt,tt,tt,tt,tt,tt] (tJ22_83a1 Ad W s e0 e469.2 x1 v.1 x3 v.2.1 e469.1 h hx0 hc)
  ·refine zF Ad W (t := 35) (f := 32) rfl (XT.ii_eq_f hc437) ?_
   refine zS Ad W 1 (st' := (95, [vR 10, vI x1, vI v.1, vI x3, vI v.2.1, none], [], (H1 s e0 v.2.2))) rfl ?_
   exact zM [tt,tt,tt,tt,tt,ff] (tJ22_95a1 Ad W s e0 v.2.2 x1 v.1 x3 v.2.1 h hx0 hc)
 ·refine zT Ad W (t := 101) (f := 21) rfl (XT.ii_ge_t hc435) ?_
  obtain rfl := Option.some.inj h
  exact zM [tt,tt,tt,ff,ff,ff] (hx0 (v.1, v.2.2) rfl)
def H1x86 (s : List Int32) (o0 o1 : Ob) (a1_20 : Int32) : QHeap := H1v s (f_part o0) (f_keys o0) (f_vals o0) (f_flg o0) (f_res o0) (f_resNull o0) (f_frameCnt o0) (f_sorted o0) (f_cap o0) (f_rows o0) (f_direction o0) (f_nulls o0) (f_mode o0) (f_startKind o0) (f_startOff o0) (f_endKind o0) (f_endOff o0) (f_fn o0) (f_fnArg o0) (f_computed o0) (f_sortedLen o0) (f_curPos o0) (f_aggSum o0) (f_aggCount o0) (f_aggRows o0) (f_aggMin o0) (f_aggMax o0) (f_part o1) (f_keys o1) (f_vals o1) (f_flg o1) (f_res o1) (f_resNull o1) (f_frameCnt o1) (f_sorted o1) (f_cap o1) (f_rows o1) (f_direction o1) (f_nulls o1) (f_mode o1) (f_startKind o1) (f_startOff o1) (f_endKind o1) (f_endOff o1) (f_fn o1) (f_fnArg o1) (f_computed o1) a1_20 (f_curPos o1) (f_aggSum o1) (f_aggCount o1) (f_aggRows o1) (f_aggMin o1) (f_aggMax o1)
def H1x87 (s : List Int32) (o0 o1 : Ob) (a1_20 : Int32) (a1_21 : Int32) : QHeap := H1v s (f_part o0) (f_keys o0) (f_vals o0) (f_flg o0) (f_res o0) (f_resNull o0) (f_frameCnt o0) (f_sorted o0) (f_cap o0) (f_rows o0) (f_direction o0) (f_nulls o0) (f_mode o0) (f_startKind o0) (f_startOff o0) (f_endKind o0) (f_endOff o0) (f_fn o0) (f_fnArg o0) (f_computed o0) (f_sortedLen o0) (f_curPos o0) (f_aggSum o0) (f_aggCount o0) (f_aggRows o0) (f_aggMin o0) (f_aggMax o0) (f_part o1) (f_keys o1) (f_vals o1) (f_flg o1) (f_res o1) (f_resNull o1) (f_frameCnt o1) (f_sorted o1) (f_cap o1) (f_rows o1) (f_direction o1) (f_nulls o1) (f_mode o1) (f_startKind o1) (f_startOff o1) (f_endKind o1) (f_endOff o1) (f_fn o1) (f_fnArg o1) (f_computed o1) a1_20 a1_21 (f_aggSum o1) (f_aggCount o1) (f_aggRows o1) (f_aggMin o1) (f_aggMax o1)
def H1x88 (s : List Int32) (o0 o1 : Ob) (a1_21 : Int32) : QHeap := H1v s (f_part o0) (f_keys o0) (f_vals o0) (f_flg o0) (f_res o0) (f_resNull o0) (f_frameCnt o0) (f_sorted o0) (f_cap o0) (f_rows o0) (f_direction o0) (f_nulls o0) (f_mode o0) (f_startKind o0) (f_startOff o0) (f_endKind o0) (f_endOff o0) (f_fn o0) (f_fnArg o0) (f_computed o0) (f_sortedLen o0) (f_curPos o0) (f_aggSum o0) (f_aggCount o0) (f_aggRows o0) (f_aggMin o0) (f_aggMax o0) (f_part o1) (f_keys o1) (f_vals o1) (f_flg o1) (f_res o1) (f_resNull o1) (f_frameCnt o1) (f_sorted o1) (f_cap o1) (f_rows o1) (f_direction o1) (f_nulls o1) (f_mode o1) (f_startKind o1) (f_startOff o1) (f_endKind o1) (f_endOff o1) (f_fn o1) (f_fnArg o1) (f_computed o1) (f_sortedLen o1) a1_21 (f_aggSum o1) (f_aggCount o1) (f_aggRows o1) (f_aggMin o1) (f_aggMax o1)
theorem tJ22_137a1 (Ad : QAd n0 ad) (W : QW Z a0) (s : List Int32) (e0 : Ob) (o : Ob) (x1 : Int32) (x2 : Int32) (x4 : Int32) {r : ((Ob)) ⊕ (Int32 × Ob)} {u : Option Value} {τ : QHeap} (h : J22_137 o x1 x2 x4 = some r) (hx0 : ∀ x : Ob, r = .inl x → u = (none : Option Value) ∧ τ = (H1 s e0 x)) (hc : ∀ x : Int32 × Ob, r = .inr x → QTri l Z n0 ad 22 (114, [vR 10, vI x1, vI x2, none, vI x.1, none], [], (H1 s e0 x.2)) u τ) : QTri l Z n0 ad 22 (137, [vR 10, vI x1, vI x2, none, vI x4, none], [], (H1 s e0 o)) u τ := by
 unfold J22_137 at h
 refine zS Ad W 2 (st' := (114, [vR 10, vI x1, vI x2, none, vI (x4 + (1:Int32)), none], [], (H1 s e0 o))) rfl ?_
 obtain rfl := Option.some.inj h
 exact zM [tt,tt,tt,ff,tt,ff] (hc ((x4 + (1:Int32)), o) rfl)
theorem tB22_114a1 (Ad : QAd n0 ad) (W : QW Z a0) (s : List Int32) (e0 : Ob) (x1 : Int32) (x2 : Int32) (v : Int32 × Ob) {r : ((Ob)) ⊕ (Int32 × Ob)} {u : Option Value} {τ : QHeap} (h : B22_114 x1 x2 v = some r) (hx0 : ∀ x : Ob, r = .inl x → u = (none : Option Value) ∧ τ = (H1 s e0 x)) (hc : ∀ x : Int32 × Ob, r = .inr x → QTri l Z n0 ad 22 (114, [vR 10, vI x1, vI x2, none, vI x.1, none], [], (H1 s e0 x.2)) u τ) : QTri l Z n0 ad 22 (114, [vR 10, vI x1, vI x2, none, vI v.1, none], [], (H1 s e0 v.2)) u τ := by
 unfold B22_114 at h
 refine zS Ad W 2 (st' := (117, [vR 10, vI x1, vI x2, none, vI v.1, none], [.int x2, .int v.1], (H1 s e0 v.2))) rfl ?_
 rcases qite h with ⟨hc476, h⟩ | ⟨hc476, h⟩
 ·refine zF Ad W (t := 143) (f := 120) rfl (XT.ii_ge_f hc476) ?_
  refine zS Ad W 3 (st' := (126, [vR 10, vI x1, vI x2, none, vI v.1, none], [.int v.1, .ref 18], (H1 s e0 v.2))) rfl ?_
  obtain ⟨y477, hy477, h⟩ := bind_eq_some_iff.mp h
  refine zB Ad W (f := fun y477 => (127, [vR 10, vI x1, vI x2, none, vI v.1, none], [.int y477], (H1 s e0 v.2))) rfl hy477 ?_
  refine zS Ad W 1 (st' := (128, [vR 10, vI x1, vI x2, none, vI v.1, none], [.int x1, .int y477], (H1 s e0 v.2))) rfl ?_
  rcases qite h with ⟨hc478, h⟩ | ⟨hc478, h⟩
  ·refine zF Ad W (t := 137) (f := 131) rfl (XT.ii_ne_f hc478) ?_
   refine zS Ad W 3 (st' := (137, [vR 10, vI x1, vI x2, none, vI v.1, none], [], (H1x88 s e0 v.2 v.1))) rfl ?_
   have E479 : ((H1x88 s e0 v.2 v.1) : QHeap) = (H1 s e0 (s_curPos v.2 v.1)) := by simp only [fs, H1, H1v, H1x88, s_curPos]
   rw [E479]
   exact zM [tt,tt,tt,ff,tt,ff] (tJ22_137a1 Ad W s e0 (s_curPos v.2 v.1) x1 x2 v.1 h hx0 hc)
  ·refine zT Ad W (t := 137) (f := 131) rfl (XT.ii_ne_t hc478) ?_
   exact zM [tt,tt,tt,ff,tt,ff] (tJ22_137a1 Ad W s e0 v.2 x1 x2 v.1 h hx0 hc)
 ·refine zT Ad W (t := 143) (f := 120) rfl (XT.ii_ge_t hc476) ?_
  obtain rfl := Option.some.inj h
  obtain ⟨rfl, rfl⟩ := hx0 v.2 rfl
  exact QTri.ret0 rfl rfl
theorem tF22a1 (Ad : QAd n0 ad) (W : QW Z a0) (s : List Int32) (e0 : Ob) (o : Ob) (x1 : Int32) {r : Ob} (h : F22 o x1 = some r) : QTri l Z n0 ad 22 (0, qentry [.ref 10, .int x1] (pMaxL 22), [], (H1 s e0 o)) (none : Option Value) (H1 s e0 r) := by
 unfold F22 at h
 refine zS Ad W 5 (st' := (7, [vR 10, vI x1, vI (0:Int32), none, none, none], [.int x1, .ref 11], (H1 s e0 o))) rfl ?_
 obtain ⟨y434, hy434, h⟩ := bind_eq_some_iff.mp h
 refine zB Ad W (f := fun y434 => (8, [vR 10, vI x1, vI (0:Int32), none, none, none], [.int y434], (H1 s e0 o))) rfl hy434 ?_
 refine zS Ad W 3 (st' := (12, [vR 10, vI x1, vI (0:Int32), vI y434, vI (0:Int32), none], [], (H1 s e0 o))) rfl ?_
 obtain ⟨e473, he473, h⟩ := bind_eq_some_iff.mp h
 refine zM [tt,tt,tt,tt,tt,ff] (loopN_tri (B := B22_12 x1 y434) (T := fun lv474 => QTri l Z n0 ad 22 (12, [vR 10, vI x1, vI lv474.1, vI y434, vI lv474.2.1, none], [], (H1 s e0 lv474.2.2)) (none : Option Value) (H1 s e0 r)) (KE := fun e473a => QTri l Z n0 ad 22 (101, [vR 10, vI x1, vI e473a.1, none, none, none], [], (H1 s e0 e473a.2)) (none : Option Value) (H1 s e0 r)) (fun lv474 r hB hE hC => tB22_12a1 Ad W s e0 x1 y434 lv474 hB (fun x q => hE _ q) (fun x q => hC x q)) qN ((0:Int32), (0:Int32), o) e473 he473 ?_)
 refine zS Ad W 3 (st' := (106, [vR 10, vI x1, vI e473.1, none, none, none], [], (H1x86 s e0 e473.2 e473.1))) rfl ?_
 refine zS Ad W 3 (st' := (111, [vR 10, vI x1, vI e473.1, none, none, none], [], (H1x87 s e0 e473.2 e473.1 (0:Int32)))) rfl ?_
 refine zS Ad W 2 (st' := (114, [vR 10, vI x1, vI e473.1, none, vI (0:Int32), none], [], (H1x87 s e0 e473.2 e473.1 (0:Int32)))) rfl ?_
 have E475 : ((H1x87 s e0 e473.2 e473.1 (0:Int32)) : QHeap) = (H1 s e0 (s_curPos (s_sortedLen e473.2 e473.1) (0:Int32))) := by simp only [fs, H1, H1v, H1x87, s_sortedLen, s_curPos]
 rw [E475]
 obtain ⟨e480, he480, h⟩ := bind_eq_some_iff.mp h
 refine zM [tt,tt,tt,ff,tt,ff] (loopN_tri (B := B22_114 x1 e473.1) (T := fun lv481 => QTri l Z n0 ad 22 (114, [vR 10, vI x1, vI e473.1, none, vI lv481.1, none], [], (H1 s e0 lv481.2)) (none : Option Value) (H1 s e0 r)) (KE := fun e480a => (none : Option Value) = (none : Option Value) ∧ (H1 s e0 r) = (H1 s e0 e480a)) (fun lv481 r hB hE hC => tB22_114a1 Ad W s e0 x1 e473.1 lv481 hB (fun x q => hE _ q) (fun x q => hC x q)) qN ((0:Int32), (s_curPos (s_sortedLen e473.2 e473.1) (0:Int32))) e480 he480 ?_)
 obtain rfl := Option.some.inj h
 exact ⟨rfl, rfl⟩
def H1x89 (s : List Int32) (o0 o1 : Ob) (a1_22 : Int64) : QHeap := H1v s (f_part o0) (f_keys o0) (f_vals o0) (f_flg o0) (f_res o0) (f_resNull o0) (f_frameCnt o0) (f_sorted o0) (f_cap o0) (f_rows o0) (f_direction o0) (f_nulls o0) (f_mode o0) (f_startKind o0) (f_startOff o0) (f_endKind o0) (f_endOff o0) (f_fn o0) (f_fnArg o0) (f_computed o0) (f_sortedLen o0) (f_curPos o0) (f_aggSum o0) (f_aggCount o0) (f_aggRows o0) (f_aggMin o0) (f_aggMax o0) (f_part o1) (f_keys o1) (f_vals o1) (f_flg o1) (f_res o1) (f_resNull o1) (f_frameCnt o1) (f_sorted o1) (f_cap o1) (f_rows o1) (f_direction o1) (f_nulls o1) (f_mode o1) (f_startKind o1) (f_startOff o1) (f_endKind o1) (f_endOff o1) (f_fn o1) (f_fnArg o1) (f_computed o1) (f_sortedLen o1) (f_curPos o1) a1_22 (f_aggCount o1) (f_aggRows o1) (f_aggMin o1) (f_aggMax o1)
def H1x90 (s : List Int32) (o0 o1 : Ob) (a1_22 : Int64) (a1_23 : Int32) : QHeap := H1v s (f_part o0) (f_keys o0) (f_vals o0) (f_flg o0) (f_res o0) (f_resNull o0) (f_frameCnt o0) (f_sorted o0) (f_cap o0) (f_rows o0) (f_direction o0) (f_nulls o0) (f_mode o0) (f_startKind o0) (f_startOff o0) (f_endKind o0) (f_endOff o0) (f_fn o0) (f_fnArg o0) (f_computed o0) (f_sortedLen o0) (f_curPos o0) (f_aggSum o0) (f_aggCount o0) (f_aggRows o0) (f_aggMin o0) (f_aggMax o0) (f_part o1) (f_keys o1) (f_vals o1) (f_flg o1) (f_res o1) (f_resNull o1) (f_frameCnt o1) (f_sorted o1) (f_cap o1) (f_rows o1) (f_direction o1) (f_nulls o1) (f_mode o1) (f_startKind o1) (f_startOff o1) (f_endKind o1) (f_endOff o1) (f_fn o1) (f_fnArg o1) (f_computed o1) (f_sortedLen o1) (f_curPos o1) a1_22 a1_23 (f_aggRows o1) (f_aggMin o1) (f_aggMax o1)
def H1x91 (s : List Int32) (o0 o1 : Ob) (a1_22 : Int64) (a1_23 : Int32) (a1_24 : Int32) : QHeap := H1v s (f_part o0) (f_keys o0) (f_vals o0) (f_flg o0) (f_res o0) (f_resNull o0) (f_frameCnt o0) (f_sorted o0) (f_cap o0) (f_rows o0) (f_direction o0) (f_nulls o0) (f_mode o0) (f_startKind o0) (f_startOff o0) (f_endKind o0) (f_endOff o0) (f_fn o0) (f_fnArg o0) (f_computed o0) (f_sortedLen o0) (f_curPos o0) (f_aggSum o0) (f_aggCount o0) (f_aggRows o0) (f_aggMin o0) (f_aggMax o0) (f_part o1) (f_keys o1) (f_vals o1) (f_flg o1) (f_res o1) (f_resNull o1) (f_frameCnt o1) (f_sorted o1) (f_cap o1) (f_rows o1) (f_direction o1) (f_nulls o1) (f_mode o1) (f_startKind o1) (f_startOff o1) (f_endKind o1) (f_endOff o1) (f_fn o1) (f_fnArg o1) (f_computed o1) (f_sortedLen o1) (f_curPos o1) a1_22 a1_23 a1_24 (f_aggMin o1) (f_aggMax o1)
def H1x92 (s : List Int32) (o0 o1 : Ob) (a1_22 : Int64) (a1_23 : Int32) (a1_24 : Int32) (a1_25 : Int32) : QHeap := H1v s (f_part o0) (f_keys o0) (f_vals o0) (f_flg o0) (f_res o0) (f_resNull o0) (f_frameCnt o0) (f_sorted o0) (f_cap o0) (f_rows o0) (f_direction o0) (f_nulls o0) (f_mode o0) (f_startKind o0) (f_startOff o0) (f_endKind o0) (f_endOff o0) (f_fn o0) (f_fnArg o0) (f_computed o0) (f_sortedLen o0) (f_curPos o0) (f_aggSum o0) (f_aggCount o0) (f_aggRows o0) (f_aggMin o0) (f_aggMax o0) (f_part o1) (f_keys o1) (f_vals o1) (f_flg o1) (f_res o1) (f_resNull o1) (f_frameCnt o1) (f_sorted o1) (f_cap o1) (f_rows o1) (f_direction o1) (f_nulls o1) (f_mode o1) (f_startKind o1) (f_startOff o1) (f_endKind o1) (f_endOff o1) (f_fn o1) (f_fnArg o1) (f_computed o1) (f_sortedLen o1) (f_curPos o1) a1_22 a1_23 a1_24 a1_25 (f_aggMax o1)
def H1x93 (s : List Int32) (o0 o1 : Ob) (a1_22 : Int64) (a1_23 : Int32) (a1_24 : Int32) (a1_25 : Int32) (a1_26 : Int32) : QHeap := H1v s (f_part o0) (f_keys o0) (f_vals o0) (f_flg o0) (f_res o0) (f_resNull o0) (f_frameCnt o0) (f_sorted o0) (f_cap o0) (f_rows o0) (f_direction o0) (f_nulls o0) (f_mode o0) (f_startKind o0) (f_startOff o0) (f_endKind o0) (f_endOff o0) (f_fn o0) (f_fnArg o0) (f_computed o0) (f_sortedLen o0) (f_curPos o0) (f_aggSum o0) (f_aggCount o0) (f_aggRows o0) (f_aggMin o0) (f_aggMax o0) (f_part o1) (f_keys o1) (f_vals o1) (f_flg o1) (f_res o1) (f_resNull o1) (f_frameCnt o1) (f_sorted o1) (f_cap o1) (f_rows o1) (f_direction o1) (f_nulls o1) (f_mode o1) (f_startKind o1) (f_startOff o1) (f_endKind o1) (f_endOff o1) (f_fn o1) (f_fnArg o1) (f_computed o1) (f_sortedLen o1) (f_curPos o1) a1_22 a1_23 a1_24 a1_25 a1_26
theorem tF34a1 (Ad : QAd n0 ad) (W : QW Z a0) (s : List Int32) (e0 : Ob) (o : Ob) (x1 : Int32) (x2 : Int32) {r : Int32} (h : F34 o x1 x2 = some r) : QTri l Z n0 ad 34 (0, qentry [.ref 10, .int x1, .int x2] (pMaxL 34), [], (H1 s e0 o)) (some (Value.int r)) (H1 s e0 o) := by
 unfold F34 at h
 refine zS Ad W 6 (st' := (7, [vR 10, vI x1, vI x2, some (.long (x1.toInt64)), none, some (.long (x2.toInt64)), none, none, none], [], (H1 s e0 o))) rfl ?_
 refine zS Ad W 7 (st' := (19, [vR 10, vI x1, vI x2, some (.long (x1.toInt64)), none, some (.long (x2.toInt64)), none, some (.long ((f_startOff o).toInt64)), none], [.int (1:Int32), .int (f_startKind o)], (H1 s e0 o))) rfl ?_
 rcases qite h with ⟨hc487, h⟩ | ⟨hc487, h⟩
 ·refine zF Ad W (t := 38) (f := 22) rfl (XT.ii_ne_f hc487) ?_
  refine zS Ad W 5 (st' := (29, [vR 10, vI x1, vI x2, some (.long (x1.toInt64)), none, some (.long (x2.toInt64)), none, some (.long ((f_startOff o).toInt64)), none], [.int (XT.cmpL (x2.toInt64) ((x1.toInt64) - ((f_startOff o).toInt64)))], (H1 s e0 o))) rfl ?_
  rcases qite h with ⟨hc488, h⟩ | ⟨hc488, h⟩
  ·refine zT Ad W (t := 36) (f := 32) rfl (XT.ll_lt_t hc488) ?_
   refine zS Ad W 1 (st' := (37, [vR 10, vI x1, vI x2, some (.long (x1.toInt64)), none, some (.long (x2.toInt64)), none, some (.long ((f_startOff o).toInt64)), none], [.int (0:Int32)], (H1 s e0 o))) rfl ?_
   obtain rfl := Option.some.inj h
   exact QTri.retZ rfl rfl
  ·refine zF Ad W (t := 36) (f := 32) rfl (XT.ll_lt_f hc488) ?_
   refine zS Ad W 2 (st' := (37, [vR 10, vI x1, vI x2, some (.long (x1.toInt64)), none, some (.long (x2.toInt64)), none, some (.long ((f_startOff o).toInt64)), none], [.int (1:Int32)], (H1 s e0 o))) rfl ?_
   obtain rfl := Option.some.inj h
   exact QTri.retZ rfl rfl
 ·refine zT Ad W (t := 38) (f := 22) rfl (XT.ii_ne_t hc487) ?_
  refine zS Ad W 3 (st' := (43, [vR 10, vI x1, vI x2, some (.long (x1.toInt64)), none, some (.long (x2.toInt64)), none, some (.long ((f_startOff o).toInt64)), none], [.int (2:Int32), .int (f_startKind o)], (H1 s e0 o))) rfl ?_
  rcases qite h with ⟨hc489, h⟩ | ⟨hc489, h⟩
  ·refine zF Ad W (t := 59) (f := 46) rfl (XT.ii_ne_f hc489) ?_
   refine zS Ad W 3 (st' := (50, [vR 10, vI x1, vI x2, some (.long (x1.toInt64)), none, some (.long (x2.toInt64)), none, some (.long ((f_startOff o).toInt64)), none], [.int (XT.cmpL (x2.toInt64) (x1.toInt64))], (H1 s e0 o))) rfl ?_
   rcases qite h with ⟨hc490, h⟩ | ⟨hc490, h⟩
   ·refine zT Ad W (t := 57) (f := 53) rfl (XT.ll_lt_t hc490) ?_
    refine zS Ad W 1 (st' := (58, [vR 10, vI x1, vI x2, some (.long (x1.toInt64)), none, some (.long (x2.toInt64)), none, some (.long ((f_startOff o).toInt64)), none], [.int (0:Int32)], (H1 s e0 o))) rfl ?_
    obtain rfl := Option.some.inj h
    exact QTri.retZ rfl rfl
   ·refine zF Ad W (t := 57) (f := 53) rfl (XT.ll_lt_f hc490) ?_
    refine zS Ad W 2 (st' := (58, [vR 10, vI x1, vI x2, some (.long (x1.toInt64)), none, some (.long (x2.toInt64)), none, some (.long ((f_startOff o).toInt64)), none], [.int (1:Int32)], (H1 s e0 o))) rfl ?_
    obtain rfl := Option.some.inj h
    exact QTri.retZ rfl rfl
  ·refine zT Ad W (t := 59) (f := 46) rfl (XT.ii_ne_t hc489) ?_
   refine zS Ad W 3 (st' := (64, [vR 10, vI x1, vI x2, some (.long (x1.toInt64)), none, some (.long (x2.toInt64)), none, some (.long ((f_startOff o).toInt64)), none], [.int (3:Int32), .int (f_startKind o)], (H1 s e0 o))) rfl ?_
   rcases qite h with ⟨hc491, h⟩ | ⟨hc491, h⟩
   ·refine zF Ad W (t := 83) (f := 67) rfl (XT.ii_ne_f hc491) ?_
    refine zS Ad W 5 (st' := (74, [vR 10, vI x1, vI x2, some (.long (x1.toInt64)), none, some (.long (x2.toInt64)), none, some (.long ((f_startOff o).toInt64)), none], [.int (XT.cmpL (x2.toInt64) ((x1.toInt64) + ((f_startOff o).toInt64)))], (H1 s e0 o))) rfl ?_
    rcases qite h with ⟨hc492, h⟩ | ⟨hc492, h⟩
    ·refine zT Ad W (t := 81) (f := 77) rfl (XT.ll_lt_t hc492) ?_
     refine zS Ad W 1 (st' := (82, [vR 10, vI x1, vI x2, some (.long (x1.toInt64)), none, some (.long (x2.toInt64)), none, some (.long ((f_startOff o).toInt64)), none], [.int (0:Int32)], (H1 s e0 o))) rfl ?_
     obtain rfl := Option.some.inj h
     exact QTri.retZ rfl rfl
    ·refine zF Ad W (t := 81) (f := 77) rfl (XT.ll_lt_f hc492) ?_
     refine zS Ad W 2 (st' := (82, [vR 10, vI x1, vI x2, some (.long (x1.toInt64)), none, some (.long (x2.toInt64)), none, some (.long ((f_startOff o).toInt64)), none], [.int (1:Int32)], (H1 s e0 o))) rfl ?_
     obtain rfl := Option.some.inj h
     exact QTri.retZ rfl rfl
   ·refine zT Ad W (t := 83) (f := 67) rfl (XT.ii_ne_t hc491) ?_
    refine zS Ad W 1 (st' := (84, [vR 10, vI x1, vI x2, some (.long (x1.toInt64)), none, some (.long (x2.toInt64)), none, some (.long ((f_startOff o).toInt64)), none], [.int (1:Int32)], (H1 s e0 o))) rfl ?_
    obtain rfl := Option.some.inj h
    exact QTri.retZ rfl rfl
theorem tF35a1 (Ad : QAd n0 ad) (W : QW Z a0) (s : List Int32) (e0 : Ob) (o : Ob) (x1 : Int32) (x2 : Int32) {r : Int32} (h : F35 o x1 x2 = some r) : QTri l Z n0 ad 35 (0, qentry [.ref 10, .int x1, .int x2] (pMaxL 35), [], (H1 s e0 o)) (some (Value.int r)) (H1 s e0 o) := by
 unfold F35 at h
 refine zS Ad W 6 (st' := (7, [vR 10, vI x1, vI x2, some (.long (x1.toInt64)), none, some (.long (x2.toInt64)), none, none, none], [], (H1 s e0 o))) rfl ?_
 refine zS Ad W 7 (st' := (19, [vR 10, vI x1, vI x2, some (.long (x1.toInt64)), none, some (.long (x2.toInt64)), none, some (.long ((f_endOff o).toInt64)), none], [.int (1:Int32), .int (f_endKind o)], (H1 s e0 o))) rfl ?_
 rcases qite h with ⟨hc495, h⟩ | ⟨hc495, h⟩
 ·refine zF Ad W (t := 38) (f := 22) rfl (XT.ii_ne_f hc495) ?_
  refine zS Ad W 5 (st' := (29, [vR 10, vI x1, vI x2, some (.long (x1.toInt64)), none, some (.long (x2.toInt64)), none, some (.long ((f_endOff o).toInt64)), none], [.int (XT.cmpL (x2.toInt64) ((x1.toInt64) - ((f_endOff o).toInt64)))], (H1 s e0 o))) rfl ?_
  rcases qite h with ⟨hc496, h⟩ | ⟨hc496, h⟩
  ·refine zT Ad W (t := 36) (f := 32) rfl (XT.ll_gt_t hc496) ?_
   refine zS Ad W 1 (st' := (37, [vR 10, vI x1, vI x2, some (.long (x1.toInt64)), none, some (.long (x2.toInt64)), none, some (.long ((f_endOff o).toInt64)), none], [.int (0:Int32)], (H1 s e0 o))) rfl ?_
   obtain rfl := Option.some.inj h
   exact QTri.retZ rfl rfl
  ·refine zF Ad W (t := 36) (f := 32) rfl (XT.ll_gt_f hc496) ?_
   refine zS Ad W 2 (st' := (37, [vR 10, vI x1, vI x2, some (.long (x1.toInt64)), none, some (.long (x2.toInt64)), none, some (.long ((f_endOff o).toInt64)), none], [.int (1:Int32)], (H1 s e0 o))) rfl ?_
   obtain rfl := Option.some.inj h
   exact QTri.retZ rfl rfl
 ·refine zT Ad W (t := 38) (f := 22) rfl (XT.ii_ne_t hc495) ?_
  refine zS Ad W 3 (st' := (43, [vR 10, vI x1, vI x2, some (.long (x1.toInt64)), none, some (.long (x2.toInt64)), none, some (.long ((f_endOff o).toInt64)), none], [.int (2:Int32), .int (f_endKind o)], (H1 s e0 o))) rfl ?_
  rcases qite h with ⟨hc497, h⟩ | ⟨hc497, h⟩
  ·refine zF Ad W (t := 59) (f := 46) rfl (XT.ii_ne_f hc497) ?_
   refine zS Ad W 3 (st' := (50, [vR 10, vI x1, vI x2, some (.long (x1.toInt64)), none, some (.long (x2.toInt64)), none, some (.long ((f_endOff o).toInt64)), none], [.int (XT.cmpL (x2.toInt64) (x1.toInt64))], (H1 s e0 o))) rfl ?_
   rcases qite h with ⟨hc498, h⟩ | ⟨hc498, h⟩
   ·refine zT Ad W (t := 57) (f := 53) rfl (XT.ll_gt_t hc498) ?_
    refine zS Ad W 1 (st' := (58, [vR 10, vI x1, vI x2, some (.long (x1.toInt64)), none, some (.long (x2.toInt64)), none, some (.long ((f_endOff o).toInt64)), none], [.int (0:Int32)], (H1 s e0 o))) rfl ?_
    obtain rfl := Option.some.inj h
    exact QTri.retZ rfl rfl
   ·refine zF Ad W (t := 57) (f := 53) rfl (XT.ll_gt_f hc498) ?_
    refine zS Ad W 2 (st' := (58, [vR 10, vI x1, vI x2, some (.long (x1.toInt64)), none, some (.long (x2.toInt64)), none, some (.long ((f_endOff o).toInt64)), none], [.int (1:Int32)], (H1 s e0 o))) rfl ?_
    obtain rfl := Option.some.inj h
    exact QTri.retZ rfl rfl
  ·refine zT Ad W (t := 59) (f := 46) rfl (XT.ii_ne_t hc497) ?_
   refine zS Ad W 3 (st' := (64, [vR 10, vI x1, vI x2, some (.long (x1.toInt64)), none, some (.long (x2.toInt64)), none, some (.long ((f_endOff o).toInt64)), none], [.int (3:Int32), .int (f_endKind o)], (H1 s e0 o))) rfl ?_
   rcases qite h with ⟨hc499, h⟩ | ⟨hc499, h⟩
   ·refine zF Ad W (t := 83) (f := 67) rfl (XT.ii_ne_f hc499) ?_
    refine zS Ad W 5 (st' := (74, [vR 10, vI x1, vI x2, some (.long (x1.toInt64)), none, some (.long (x2.toInt64)), none, some (.long ((f_endOff o).toInt64)), none], [.int (XT.cmpL (x2.toInt64) ((x1.toInt64) + ((f_endOff o).toInt64)))], (H1 s e0 o))) rfl ?_
    rcases qite h with ⟨hc500, h⟩ | ⟨hc500, h⟩
    ·refine zT Ad W (t := 81) (f := 77) rfl (XT.ll_gt_t hc500) ?_
     refine zS Ad W 1 (st' := (82, [vR 10, vI x1, vI x2, some (.long (x1.toInt64)), none, some (.long (x2.toInt64)), none, some (.long ((f_endOff o).toInt64)), none], [.int (0:Int32)], (H1 s e0 o))) rfl ?_
     obtain rfl := Option.some.inj h
     exact QTri.retZ rfl rfl
    ·refine zF Ad W (t := 81) (f := 77) rfl (XT.ll_gt_f hc500) ?_
     refine zS Ad W 2 (st' := (82, [vR 10, vI x1, vI x2, some (.long (x1.toInt64)), none, some (.long (x2.toInt64)), none, some (.long ((f_endOff o).toInt64)), none], [.int (1:Int32)], (H1 s e0 o))) rfl ?_
     obtain rfl := Option.some.inj h
     exact QTri.retZ rfl rfl
   ·refine zT Ad W (t := 83) (f := 67) rfl (XT.ii_ne_t hc499) ?_
    refine zS Ad W 1 (st' := (84, [vR 10, vI x1, vI x2, some (.long (x1.toInt64)), none, some (.long (x2.toInt64)), none, some (.long ((f_endOff o).toInt64)), none], [.int (1:Int32)], (H1 s e0 o))) rfl ?_
    obtain rfl := Option.some.inj h
    exact QTri.retZ rfl rfl
theorem tJ27_33a1 (Ad : QAd n0 ad) (W : QW Z a0) (s : List Int32) (e0 : Ob) (o : Ob) (x1 : Int32) (x2 : Int32) (x3 : Int32) (x4 : Int32) {r : Int32} (h : J27_33 o x1 x2 x3 x4 = some r) : QTri l Z n0 ad 27 (33, [vR 10, vI x1, vI x2, vI x3, vI x4], [], (H1 s e0 o)) (some (Value.int r)) (H1 s e0 o) := by
 unfold J27_33 at h
 refine zS Ad W 1 (st' := (34, [vR 10, vI x1, vI x2, vI x3, vI x4], [.int x3], (H1 s e0 o))) rfl ?_
 rcases qite h with ⟨hc509, h⟩ | ⟨hc509, h⟩
 ·refine zF Ad W (t := 42) (f := 37) rfl (XT.i0_ne_f hc509) ?_
  refine zS Ad W 1 (st' := (39, [vR 10, vI x1, vI x2, vI x3, vI x4], [.int x4], (H1 s e0 o))) rfl ?_
  rcases qite h with ⟨hc510, h⟩ | ⟨hc510, h⟩
  ·refine zT Ad W (t := 44) (f := 42) rfl (XT.i0_eq_t hc510) ?_
   refine zS Ad W 3 (st' := (49, [vR 10, vI x1, vI x2, vI x3, vI x4], [.int x1, .ref 12], (H1 s e0 o))) rfl ?_
   obtain ⟨y511, hy511, h⟩ := bind_eq_some_iff.mp h
   refine zB Ad W (f := fun y511 => (50, [vR 10, vI x1, vI x2, vI x3, vI x4], [.int y511], (H1 s e0 o))) rfl hy511 ?_
   refine zS Ad W 3 (st' := (55, [vR 10, vI x1, vI x2, vI x3, vI x4], [.int x2, .ref 12, .int y511], (H1 s e0 o))) rfl ?_
   obtain ⟨y512, hy512, h⟩ := bind_eq_some_iff.mp h
   refine zB Ad W (f := fun y512 => (56, [vR 10, vI x1, vI x2, vI x3, vI x4], [.int y512, .int y511], (H1 s e0 o))) rfl hy512 ?_
   rcases qite h with ⟨hc513, h⟩ | ⟨hc513, h⟩
   ·refine zF Ad W (t := 63) (f := 59) rfl (XT.ii_ne_f hc513) ?_
    refine zS Ad W 2 (st' := (64, [vR 10, vI x1, vI x2, vI x3, vI x4], [.int (1:Int32)], (H1 s e0 o))) rfl ?_
    obtain rfl := Option.some.inj h
    exact QTri.retZ rfl rfl
   ·refine zT Ad W (t := 63) (f := 59) rfl (XT.ii_ne_t hc513) ?_
    refine zS Ad W 1 (st' := (64, [vR 10, vI x1, vI x2, vI x3, vI x4], [.int (0:Int32)], (H1 s e0 o))) rfl ?_
    obtain rfl := Option.some.inj h
    exact QTri.retZ rfl rfl
  ·refine zF Ad W (t := 44) (f := 42) rfl (XT.i0_eq_f hc510) ?_
   refine zS Ad W 1 (st' := (43, [vR 10, vI x1, vI x2, vI x3, vI x4], [.int (0:Int32)], (H1 s e0 o))) rfl ?_
   obtain rfl := Option.some.inj h
   exact QTri.retZ rfl rfl
 ·refine zT Ad W (t := 42) (f := 37) rfl (XT.i0_ne_t hc509) ?_
  refine zS Ad W 1 (st' := (43, [vR 10, vI x1, vI x2, vI x3, vI x4], [.int (0:Int32)], (H1 s e0 o))) rfl ?_
  obtain rfl := Option.some.inj h
  exact QTri.retZ rfl rfl
theorem tF27a1 (Ad : QAd n0 ad) (W : QW Z a0) (s : List Int32) (e0 : Ob) (o : Ob) (x1 : Int32) (x2 : Int32) {r : Int32} (h : F27 o x1 x2 = some r) : QTri l Z n0 ad 27 (0, qentry [.ref 10, .int x1, .int x2] (pMaxL 27), [], (H1 s e0 o)) (some (Value.int r)) (H1 s e0 o) := by
 unfold F27 at h
 refine zS Ad W 2 (st' := (4, [vR 10, vI x1, vI x2, none, none], [.int (f_direction o)], (H1 s e0 o))) rfl ?_
 rcases qite h with ⟨hc505, h⟩ | ⟨hc505, h⟩
 ·refine zF Ad W (t := 9) (f := 7) rfl (XT.i0_ne_f hc505) ?_
  refine zS Ad W 1 (st' := (8, [vR 10, vI x1, vI x2, none, none], [.int (1:Int32)], (H1 s e0 o))) rfl ?_
  obtain rfl := Option.some.inj h
  exact QTri.retZ rfl rfl
 ·refine zT Ad W (t := 9) (f := 7) rfl (XT.i0_ne_t hc505) ?_
  refine zS Ad W 2 (st' := (11, [vR 10, vI x1, vI x2, none, none], [.int x1, .ref 10], (H1 s e0 o))) rfl ?_
  obtain ⟨r506, hr506, h⟩ := bind_eq_some_iff.mp h
  refine QTri.callP W (a := 10) (as := [.int x1]) (rest := []) (w := (some (.int r506))) (σ₁ := (H1 s e0 o)) rfl rfl rfl rfl rfl rfl rfl rfl (tF28a1 Ad W s e0 o x1 hr506) ?_
  refine zS Ad W 3 (st' := (17, [vR 10, vI x1, vI x2, vI r506, none], [.int x2, .ref 10], (H1 s e0 o))) rfl ?_
  obtain ⟨r507, hr507, h⟩ := bind_eq_some_iff.mp h
  refine QTri.callP W (a := 10) (as := [.int x2]) (rest := []) (w := (some (.int r507))) (σ₁ := (H1 s e0 o)) rfl rfl rfl rfl rfl rfl rfl rfl (tF28a1 Ad W s e0 o x2 hr507) ?_
  refine zS Ad W 2 (st' := (23, [vR 10, vI x1, vI x2, vI r506, vI r507], [.int r506], (H1 s e0 o))) rfl ?_
  rcases qite h with ⟨hc508, h⟩ | ⟨hc508, h⟩
  ·refine zT Ad W (t := 33) (f := 26) rfl (XT.i0_eq_t hc508) ?_
   exact zM [tt,tt,tt,tt,tt] (tJ27_33a1 Ad W s e0 o x1 x2 r506 r507 h)
  ·refine zF Ad W (t := 33) (f := 26) rfl (XT.i0_eq_f hc508) ?_
   refine zS Ad W 1 (st' := (28, [vR 10, vI x1, vI x2, vI r506, vI r507], [.int r507], (H1 s e0 o))) rfl ?_
   rcases qite h with ⟨hc514, h⟩ | ⟨hc514, h⟩
   ·refine zT Ad W (t := 33) (f := 31) rfl (XT.i0_eq_t hc514) ?_
    exact zM [tt,tt,tt,tt,tt] (tJ27_33a1 Ad W s e0 o x1 x2 r506 r507 h)
   ·refine zF Ad W (t := 33) (f := 31) rfl (XT.i0_eq_f hc514) ?_
    refine zS Ad W 1 (st' := (32, [vR 10, vI x1, vI x2, vI r506, vI r507], [.int (1:Int32)], (H1 s e0 o))) rfl ?_
    obtain rfl := Option.some.inj h
    exact QTri.retZ rfl rfl
theorem tF37a1 (Ad : QAd n0 ad) (W : QW Z a0) (s : List Int32) (e0 : Ob) (o : Ob) (x1 : Int32) (x2 : Int32) {r : Int64} (h : F37 o x1 x2 = some r) : QTri l Z n0 ad 37 (0, qentry [.ref 10, .int x1, .int x2] (pMaxL 37), [], (H1 s e0 o)) (some (Value.long r)) (H1 s e0 o) := by
 unfold F37 at h
 refine zS Ad W 3 (st' := (5, [vR 10, vI x1, vI x2], [.int (1:Int32), .int (f_direction o)], (H1 s e0 o))) rfl ?_
 rcases qite h with ⟨hc525, h⟩ | ⟨hc525, h⟩
 ·refine zF Ad W (t := 24) (f := 8) rfl (XT.ii_ne_f hc525) ?_
  refine zS Ad W 3 (st' := (13, [vR 10, vI x1, vI x2], [.int x2, .ref 12], (H1 s e0 o))) rfl ?_
  obtain ⟨y526, hy526, h⟩ := bind_eq_some_iff.mp h
  refine zB Ad W (f := fun y526 => (14, [vR 10, vI x1, vI x2], [.int y526], (H1 s e0 o))) rfl hy526 ?_
  refine zS Ad W 4 (st' := (20, [vR 10, vI x1, vI x2], [.int x1, .ref 12, .long (y526.toInt64)], (H1 s e0 o))) rfl ?_
  obtain ⟨y527, hy527, h⟩ := bind_eq_some_iff.mp h
  refine zB Ad W (f := fun y527 => (21, [vR 10, vI x1, vI x2], [.int y527, .long (y526.toInt64)], (H1 s e0 o))) rfl hy527 ?_
  refine zS Ad W 2 (st' := (23, [vR 10, vI x1, vI x2], [.long ((y526.toInt64) - (y527.toInt64))], (H1 s e0 o))) rfl ?_
  obtain rfl := Option.some.inj h
  exact QTri.retJ rfl rfl
 ·refine zT Ad W (t := 24) (f := 8) rfl (XT.ii_ne_t hc525) ?_
  refine zS Ad W 3 (st' := (29, [vR 10, vI x1, vI x2], [.int (2:Int32), .int (f_direction o)], (H1 s e0 o))) rfl ?_
  rcases qite h with ⟨hc528, h⟩ | ⟨hc528, h⟩
  ·refine zF Ad W (t := 48) (f := 32) rfl (XT.ii_ne_f hc528) ?_
   refine zS Ad W 3 (st' := (37, [vR 10, vI x1, vI x2], [.int x1, .ref 12], (H1 s e0 o))) rfl ?_
   obtain ⟨y529, hy529, h⟩ := bind_eq_some_iff.mp h
   refine zB Ad W (f := fun y529 => (38, [vR 10, vI x1, vI x2], [.int y529], (H1 s e0 o))) rfl hy529 ?_
   refine zS Ad W 4 (st' := (44, [vR 10, vI x1, vI x2], [.int x2, .ref 12, .long (y529.toInt64)], (H1 s e0 o))) rfl ?_
   obtain ⟨y530, hy530, h⟩ := bind_eq_some_iff.mp h
   refine zB Ad W (f := fun y530 => (45, [vR 10, vI x1, vI x2], [.int y530, .long (y529.toInt64)], (H1 s e0 o))) rfl hy530 ?_
   refine zS Ad W 2 (st' := (47, [vR 10, vI x1, vI x2], [.long ((y529.toInt64) - (y530.toInt64))], (H1 s e0 o))) rfl ?_
   obtain rfl := Option.some.inj h
   exact QTri.retJ rfl rfl
  ·refine zT Ad W (t := 48) (f := 32) rfl (XT.ii_ne_t hc528) ?_
   refine zS Ad W 1 (st' := (49, [vR 10, vI x1, vI x2], [.long (0 : Int64)], (H1 s e0 o))) rfl ?_
   obtain rfl := Option.some.inj h
   exact QTri.retJ rfl rfl
theorem tF25a1 (Ad : QAd n0 ad) (W : QW Z a0) (s : List Int32) (e0 : Ob) (o : Ob) (x1 : Int32) (x2 : Int32) (x3 : Int32) (x4 : Int32) {r : Int32} (h : F25 o x1 x2 x3 x4 = some r) : QTri l Z n0 ad 25 (0, qentry [.ref 10, .int x1, .int x2, .int x3, .int x4] (pMaxL 25), [], (H1 s e0 o)) (some (Value.int r)) (H1 s e0 o) := by
 unfold F25 at h
 refine zS Ad W 2 (st' := (4, [vR 10, vI x1, vI x2, vI x3, vI x4, none, none, none, none, none], [.int (f_startKind o)], (H1 s e0 o))) rfl ?_
 rcases qite h with ⟨hc503, h⟩ | ⟨hc503, h⟩
 ·refine zT Ad W (t := 15) (f := 7) rfl (XT.i0_eq_t hc503) ?_
  refine zS Ad W 1 (st' := (16, [vR 10, vI x1, vI x2, vI x3, vI x4, none, none, none, none, none], [.int (1:Int32)], (H1 s e0 o))) rfl ?_
  obtain rfl := Option.some.inj h
  exact QTri.retZ rfl rfl
 ·refine zF Ad W (t := 15) (f := 7) rfl (XT.i0_eq_f hc503) ?_
  refine zS Ad W 3 (st' := (12, [vR 10, vI x1, vI x2, vI x3, vI x4, none, none, none, none, none], [.int (4:Int32), .int (f_startKind o)], (H1 s e0 o))) rfl ?_
  rcases qite h with ⟨hc504, h⟩ | ⟨hc504, h⟩
  ·refine zF Ad W (t := 17) (f := 15) rfl (XT.ii_ne_f hc504) ?_
   refine zS Ad W 1 (st' := (16, [vR 10, vI x1, vI x2, vI x3, vI x4, none, none, none, none, none], [.int (1:Int32)], (H1 s e0 o))) rfl ?_
   obtain rfl := Option.some.inj h
   exact QTri.retZ rfl rfl
  ·refine zT Ad W (t := 17) (f := 15) rfl (XT.ii_ne_t hc504) ?_
   refine zS Ad W 3 (st' := (20, [vR 10, vI x1, vI x2, vI x3, vI x4, none, none, none, none, none], [.int x2, .int x1, .ref 10], (H1 s e0 o))) rfl ?_
   obtain ⟨r515, hr515, h⟩ := bind_eq_some_iff.mp h
   refine QTri.callP W (a := 10) (as := [.int x1, .int x2]) (rest := []) (w := (some (.int r515))) (σ₁ := (H1 s e0 o)) rfl rfl rfl rfl rfl rfl rfl rfl (tF27a1 Ad W s e0 o x1 x2 hr515) ?_
   have K517 : ∀ z516 : Int32, z516 = (if r515 = (0:Int32) then (if x3 < x4 then (1:Int32) else (0:Int32)) else (1:Int32)) → QTri l Z n0 ad 25 (37, [vR 10, vI x1, vI x2, none, none, none, none, none, none, none], [.int z516], (H1 s e0 o)) (some (Value.int r)) (H1 s e0 o) := by
    intro z516 ez516
    subst ez516
    refine zS Ad W 4 (st' := (44, [vR 10, vI x1, vI x2, none, none, vI (if r515 = (0:Int32) then (if x3 < x4 then (1:Int32) else (0:Int32)) else (1:Int32)), none, none, none, none], [.int (2:Int32), .int (f_startKind o)], (H1 s e0 o))) rfl ?_
    rcases qite h with ⟨hc520, h⟩ | ⟨hc520, h⟩
    ·refine zT Ad W (t := 55) (f := 47) rfl (XT.ii_eq_t hc520) ?_
     refine zS Ad W 1 (st' := (57, [vR 10, vI x1, vI x2, none, none, vI (if r515 = (0:Int32) then (if x3 < x4 then (1:Int32) else (0:Int32)) else (1:Int32)), none, none, none, none], [.int (if r515 = (0:Int32) then (if x3 < x4 then (1:Int32) else (0:Int32)) else (1:Int32))], (H1 s e0 o))) rfl ?_
     obtain rfl := Option.some.inj h
     exact QTri.retZ rfl rfl
    ·refine zF Ad W (t := 55) (f := 47) rfl (XT.ii_eq_f hc520) ?_
     refine zS Ad W 2 (st' := (49, [vR 10, vI x1, vI x2, none, none, vI (if r515 = (0:Int32) then (if x3 < x4 then (1:Int32) else (0:Int32)) else (1:Int32)), none, none, none, none], [.int x1, .ref 10], (H1 s e0 o))) rfl ?_
     obtain ⟨r521, hr521, h⟩ := bind_eq_some_iff.mp h
     refine QTri.callP W (a := 10) (as := [.int x1]) (rest := []) (w := (some (.int r521))) (σ₁ := (H1 s e0 o)) rfl rfl rfl rfl rfl rfl rfl rfl (tF28a1 Ad W s e0 o x1 hr521) ?_
     rcases qite h with ⟨hc522, h⟩ | ⟨hc522, h⟩
     ·refine zT Ad W (t := 58) (f := 55) rfl (XT.i0_eq_t hc522) ?_
      refine zS Ad W 2 (st' := (60, [vR 10, vI x1, vI x2, none, none, vI (if r515 = (0:Int32) then (if x3 < x4 then (1:Int32) else (0:Int32)) else (1:Int32)), none, none, none, none], [.int x2, .ref 10], (H1 s e0 o))) rfl ?_
      obtain ⟨r523, hr523, h⟩ := bind_eq_some_iff.mp h
      refine QTri.callP W (a := 10) (as := [.int x2]) (rest := []) (w := (some (.int r523))) (σ₁ := (H1 s e0 o)) rfl rfl rfl rfl rfl rfl rfl rfl (tF28a1 Ad W s e0 o x2 hr523) ?_
      rcases qite h with ⟨hc524, h⟩ | ⟨hc524, h⟩
      ·refine zT Ad W (t := 80) (f := 66) rfl (XT.i0_eq_t hc524) ?_
       refine zS Ad W 3 (st' := (83, [vR 10, vI x1, vI x2, none, none, vI (if r515 = (0:Int32) then (if x3 < x4 then (1:Int32) else (0:Int32)) else (1:Int32)), none, none, none, none], [.int x2, .int x1, .ref 10], (H1 s e0 o))) rfl ?_
       obtain ⟨r531, hr531, h⟩ := bind_eq_some_iff.mp h
       refine QTri.callP W (a := 10) (as := [.int x1, .int x2]) (rest := []) (w := (some (.long r531))) (σ₁ := (H1 s e0 o)) rfl rfl rfl rfl rfl rfl rfl rfl (tF37a1 Ad W s e0 o x1 x2 hr531) ?_
       refine zS Ad W 5 (st' := (95, [vR 10, vI x1, vI x2, none, none, vI (if r515 = (0:Int32) then (if x3 < x4 then (1:Int32) else (0:Int32)) else (1:Int32)), some (.long r531), none, some (.long ((f_startOff o).toInt64)), none], [], (H1 s e0 o))) rfl ?_
       refine zS Ad W 3 (st' := (100, [vR 10, vI x1, vI x2, none, none, vI (if r515 = (0:Int32) then (if x3 < x4 then (1:Int32) else (0:Int32)) else (1:Int32)), some (.long r531), none, some (.long ((f_startOff o).toInt64)), none], [.int (1:Int32), .int (f_startKind o)], (H1 s e0 o))) rfl ?_
       rcases qite h with ⟨hc532, h⟩ | ⟨hc532, h⟩
       ·refine zF Ad W (t := 118) (f := 103) rfl (XT.ii_ne_f hc532) ?_
        refine zS Ad W 4 (st' := (109, [vR 10, vI x1, vI x2, none, none, vI (if r515 = (0:Int32) then (if x3 < x4 then (1:Int32) else (0:Int32)) else (1:Int32)), some (.long r531), none, some (.long ((f_startOff o).toInt64)), none], [.int (XT.cmpL r531 (-((f_startOff o).toInt64)))], (H1 s e0 o))) rfl ?_
        rcases qite h with ⟨hc533, h⟩ | ⟨hc533, h⟩
        ·refine zT Ad W (t := 116) (f := 112) rfl (XT.ll_lt_t hc533) ?_
         refine zS Ad W 1 (st' := (117, [vR 10, vI x1, vI x2, none, none, vI (if r515 = (0:Int32) then (if x3 < x4 then (1:Int32) else (0:Int32)) else (1:Int32)), some (.long r531), none, some (.long ((f_startOff o).toInt64)), none], [.int (0:Int32)], (H1 s e0 o))) rfl ?_
         obtain rfl := Option.some.inj h
         exact QTri.retZ rfl rfl
        ·refine zF Ad W (t := 116) (f := 112) rfl (XT.ll_lt_f hc533) ?_
         refine zS Ad W 2 (st' := (117, [vR 10, vI x1, vI x2, none, none, vI (if r515 = (0:Int32) then (if x3 < x4 then (1:Int32) else (0:Int32)) else (1:Int32)), some (.long r531), none, some (.long ((f_startOff o).toInt64)), none], [.int (1:Int32)], (H1 s e0 o))) rfl ?_
         obtain rfl := Option.some.inj h
         exact QTri.retZ rfl rfl
       ·refine zT Ad W (t := 118) (f := 103) rfl (XT.ii_ne_t hc532) ?_
        refine zS Ad W 3 (st' := (123, [vR 10, vI x1, vI x2, none, none, vI (if r515 = (0:Int32) then (if x3 < x4 then (1:Int32) else (0:Int32)) else (1:Int32)), some (.long r531), none, some (.long ((f_startOff o).toInt64)), none], [.int (XT.cmpL r531 ((f_startOff o).toInt64))], (H1 s e0 o))) rfl ?_
        rcases qite h with ⟨hc534, h⟩ | ⟨hc534, h⟩
        ·refine zT Ad W (t := 130) (f := 126) rfl (XT.ll_lt_t hc534) ?_
         refine zS Ad W 1 (st' := (131, [vR 10, vI x1, vI x2, none, none, vI (if r515 = (0:Int32) then (if x3 < x4 then (1:Int32) else (0:Int32)) else (1:Int32)), some (.long r531), none, some (.long ((f_startOff o).toInt64)), none], [.int (0:Int32)], (H1 s e0 o))) rfl ?_
         obtain rfl := Option.some.inj h
         exact QTri.retZ rfl rfl
        ·refine zF Ad W (t := 130) (f := 126) rfl (XT.ll_lt_f hc534) ?_
         refine zS Ad W 2 (st' := (131, [vR 10, vI x1, vI x2, none, none, vI (if r515 = (0:Int32) then (if x3 < x4 then (1:Int32) else (0:Int32)) else (1:Int32)), some (.long r531), none, some (.long ((f_startOff o).toInt64)), none], [.int (1:Int32)], (H1 s e0 o))) rfl ?_
         obtain rfl := Option.some.inj h
         exact QTri.retZ rfl rfl
      ·refine zF Ad W (t := 80) (f := 66) rfl (XT.i0_eq_f hc524) ?_
       refine zS Ad W 3 (st' := (71, [vR 10, vI x1, vI x2, none, none, vI (if r515 = (0:Int32) then (if x3 < x4 then (1:Int32) else (0:Int32)) else (1:Int32)), none, none, none, none], [.int (1:Int32), .int (f_nulls o)], (H1 s e0 o))) rfl ?_
       rcases qite h with ⟨hc535, h⟩ | ⟨hc535, h⟩
       ·refine zF Ad W (t := 78) (f := 74) rfl (XT.ii_ne_f hc535) ?_
        refine zS Ad W 2 (st' := (79, [vR 10, vI x1, vI x2, none, none, vI (if r515 = (0:Int32) then (if x3 < x4 then (1:Int32) else (0:Int32)) else (1:Int32)), none, none, none, none], [.int (1:Int32)], (H1 s e0 o))) rfl ?_
        obtain rfl := Option.some.inj h
        exact QTri.retZ rfl rfl
       ·refine zT Ad W (t := 78) (f := 74) rfl (XT.ii_ne_t hc535) ?_
        refine zS Ad W 1 (st' := (79, [vR 10, vI x1, vI x2, none, none, vI (if r515 = (0:Int32) then (if x3 < x4 then (1:Int32) else (0:Int32)) else (1:Int32)), none, none, none, none], [.int (0:Int32)], (H1 s e0 o))) rfl ?_
        obtain rfl := Option.some.inj h
        exact QTri.retZ rfl rfl
     ·refine zF Ad W (t := 58) (f := 55) rfl (XT.i0_eq_f hc522) ?_
      refine zS Ad W 1 (st' := (57, [vR 10, vI x1, vI x2, none, none, vI (if r515 = (0:Int32) then (if x3 < x4 then (1:Int32) else (0:Int32)) else (1:Int32)), none, none, none, none], [.int (if r515 = (0:Int32) then (if x3 < x4 then (1:Int32) else (0:Int32)) else (1:Int32))], (H1 s e0 o))) rfl ?_
      obtain rfl := Option.some.inj h
      exact QTri.retZ rfl rfl
   rcases em (r515 = (0:Int32)) with hc518 | hc518
   ·refine zF Ad W (t := 32) (f := 26) rfl (XT.i0_ne_f hc518) ?_
    refine zS Ad W 2 (st' := (29, [vR 10, vI x1, vI x2, vI x3, vI x4, none, none, none, none, none], [.int x3, .int x4], (H1 s e0 o))) rfl ?_
    rcases em (x3 < x4) with hc519 | hc519
    ·refine zF Ad W (t := 36) (f := 32) rfl (XT.ii_le_f hc519) ?_
     refine zS Ad W 2 (st' := (37, [vR 10, vI x1, vI x2, vI x3, vI x4, none, none, none, none, none], [.int (1:Int32)], (H1 s e0 o))) rfl ?_
     exact zM [tt,tt,tt,ff,ff,ff,ff,ff,ff,ff] (K517 _ ((if_pos hc518).trans (if_pos hc519)).symm)
    ·refine zT Ad W (t := 36) (f := 32) rfl (XT.ii_le_t hc519) ?_
     refine zS Ad W 1 (st' := (37, [vR 10, vI x1, vI x2, vI x3, vI x4, none, none, none, none, none], [.int (0:Int32)], (H1 s e0 o))) rfl ?_
     exact zM [tt,tt,tt,ff,ff,ff,ff,ff,ff,ff] (K517 _ ((if_pos hc518).trans (if_neg hc519)).symm)
   ·refine zT Ad W (t := 32) (f := 26) rfl (XT.i0_ne_t hc518) ?_
    refine zS Ad W 2 (st' := (37, [vR 10, vI x1, vI x2, vI x3, vI x4, none, none, none, none, none], [.int (1:Int32)], (H1 s e0 o))) rfl ?_
    exact zM [tt,tt,tt,ff,ff,ff,ff,ff,ff,ff] (K517 _ (if_neg hc518).symm)
theorem tF26a1 (Ad : QAd n0 ad) (W : QW Z a0) (s : List Int32) (e0 : Ob) (o : Ob) (x1 : Int32) (x2 : Int32) (x3 : Int32) (x4 : Int32) {r : Int32} (h : F26 o x1 x2 x3 x4 = some r) : QTri l Z n0 ad 26 (0, qentry [.ref 10, .int x1, .int x2, .int x3, .int x4] (pMaxL 26), [], (H1 s e0 o)) (some (Value.int r)) (H1 s e0 o) := by
 unfold F26 at h
 refine zS Ad W 3 (st' := (5, [vR 10, vI x1, vI x2, vI x3, vI x4, none, none, none, none, none], [.int (4:Int32), .int (f_endKind o)], (H1 s e0 o))) rfl ?_
 rcases qite h with ⟨hc538, h⟩ | ⟨hc538, h⟩
 ·refine zT Ad W (t := 15) (f := 8) rfl (XT.ii_eq_t hc538) ?_
  refine zS Ad W 1 (st' := (16, [vR 10, vI x1, vI x2, vI x3, vI x4, none, none, none, none, none], [.int (1:Int32)], (H1 s e0 o))) rfl ?_
  obtain rfl := Option.some.inj h
  exact QTri.retZ rfl rfl
 ·refine zF Ad W (t := 15) (f := 8) rfl (XT.ii_eq_f hc538) ?_
  refine zS Ad W 2 (st' := (12, [vR 10, vI x1, vI x2, vI x3, vI x4, none, none, none, none, none], [.int (f_endKind o)], (H1 s e0 o))) rfl ?_
  rcases qite h with ⟨hc539, h⟩ | ⟨hc539, h⟩
  ·refine zF Ad W (t := 17) (f := 15) rfl (XT.i0_ne_f hc539) ?_
   refine zS Ad W 1 (st' := (16, [vR 10, vI x1, vI x2, vI x3, vI x4, none, none, none, none, none], [.int (1:Int32)], (H1 s e0 o))) rfl ?_
   obtain rfl := Option.some.inj h
   exact QTri.retZ rfl rfl
  ·refine zT Ad W (t := 17) (f := 15) rfl (XT.i0_ne_t hc539) ?_
   refine zS Ad W 3 (st' := (20, [vR 10, vI x1, vI x2, vI x3, vI x4, none, none, none, none, none], [.int x2, .int x1, .ref 10], (H1 s e0 o))) rfl ?_
   obtain ⟨r540, hr540, h⟩ := bind_eq_some_iff.mp h
   refine QTri.callP W (a := 10) (as := [.int x1, .int x2]) (rest := []) (w := (some (.int r540))) (σ₁ := (H1 s e0 o)) rfl rfl rfl rfl rfl rfl rfl rfl (tF27a1 Ad W s e0 o x1 x2 hr540) ?_
   have K542 : ∀ z541 : Int32, z541 = (if r540 = (0:Int32) then (if x4 < x3 then (1:Int32) else (0:Int32)) else (1:Int32)) → QTri l Z n0 ad 26 (37, [vR 10, vI x1, vI x2, none, none, none, none, none, none, none], [.int z541], (H1 s e0 o)) (some (Value.int r)) (H1 s e0 o) := by
    intro z541 ez541
    subst ez541
    refine zS Ad W 4 (st' := (44, [vR 10, vI x1, vI x2, none, none, vI (if r540 = (0:Int32) then (if x4 < x3 then (1:Int32) else (0:Int32)) else (1:Int32)), none, none, none, none], [.int (2:Int32), .int (f_endKind o)], (H1 s e0 o))) rfl ?_
    rcases qite h with ⟨hc545, h⟩ | ⟨hc545, h⟩
    ·refine zT Ad W (t := 55) (f := 47) rfl (XT.ii_eq_t hc545) ?_
     refine zS Ad W 1 (st' := (57, [vR 10, vI x1, vI x2, none, none, vI (if r540 = (0:Int32) then (if x4 < x3 then (1:Int32) else (0:Int32)) else (1:Int32)), none, none, none, none], [.int (if r540 = (0:Int32) then (if x4 < x3 then (1:Int32) else (0:Int32)) else (1:Int32))], (H1 s e0 o))) rfl ?_
     obtain rfl := Option.some.inj h
     exact QTri.retZ rfl rfl
    ·refine zF Ad W (t := 55) (f := 47) rfl (XT.ii_eq_f hc545) ?_
     refine zS Ad W 2 (st' := (49, [vR 10, vI x1, vI x2, none, none, vI (if r540 = (0:Int32) then (if x4 < x3 then (1:Int32) else (0:Int32)) else (1:Int32)), none, none, none, none], [.int x1, .ref 10], (H1 s e0 o))) rfl ?_
     obtain ⟨r546, hr546, h⟩ := bind_eq_some_iff.mp h
     refine QTri.callP W (a := 10) (as := [.int x1]) (rest := []) (w := (some (.int r546))) (σ₁ := (H1 s e0 o)) rfl rfl rfl rfl rfl rfl rfl rfl (tF28a1 Ad W s e0 o x1 hr546) ?_
     rcases qite h with ⟨hc547, h⟩ | ⟨hc547, h⟩
     ·refine zT Ad W (t := 58) (f := 55) rfl (XT.i0_eq_t hc547) ?_
      refine zS Ad W 2 (st' := (60, [vR 10, vI x1, vI x2, none, none, vI (if r540 = (0:Int32) then (if x4 < x3 then (1:Int32) else (0:Int32)) else (1:Int32)), none, none, none, none], [.int x2, .ref 10], (H1 s e0 o))) rfl ?_
      obtain ⟨r548, hr548, h⟩ := bind_eq_some_iff.mp h
      refine QTri.callP W (a := 10) (as := [.int x2]) (rest := []) (w := (some (.int r548))) (σ₁ := (H1 s e0 o)) rfl rfl rfl rfl rfl rfl rfl rfl (tF28a1 Ad W s e0 o x2 hr548) ?_
      rcases qite h with ⟨hc549, h⟩ | ⟨hc549, h⟩
      ·refine zT Ad W (t := 79) (f := 66) rfl (XT.i0_eq_t hc549) ?_
       refine zS Ad W 3 (st' := (82, [vR 10, vI x1, vI x2, none, none, vI (if r540 = (0:Int32) then (if x4 < x3 then (1:Int32) else (0:Int32)) else (1:Int32)), none, none, none, none], [.int x2, .int x1, .ref 10], (H1 s e0 o))) rfl ?_
       obtain ⟨r550, hr550, h⟩ := bind_eq_some_iff.mp h
       refine QTri.callP W (a := 10) (as := [.int x1, .int x2]) (rest := []) (w := (some (.long r550))) (σ₁ := (H1 s e0 o)) rfl rfl rfl rfl rfl rfl rfl rfl (tF37a1 Ad W s e0 o x1 x2 hr550) ?_
       refine zS Ad W 5 (st' := (94, [vR 10, vI x1, vI x2, none, none, vI (if r540 = (0:Int32) then (if x4 < x3 then (1:Int32) else (0:Int32)) else (1:Int32)), some (.long r550), none, some (.long ((f_endOff o).toInt64)), none], [], (H1 s e0 o))) rfl ?_
       refine zS Ad W 3 (st' := (99, [vR 10, vI x1, vI x2, none, none, vI (if r540 = (0:Int32) then (if x4 < x3 then (1:Int32) else (0:Int32)) else (1:Int32)), some (.long r550), none, some (.long ((f_endOff o).toInt64)), none], [.int (1:Int32), .int (f_endKind o)], (H1 s e0 o))) rfl ?_
       rcases qite h with ⟨hc551, h⟩ | ⟨hc551, h⟩
       ·refine zF Ad W (t := 117) (f := 102) rfl (XT.ii_ne_f hc551) ?_
        refine zS Ad W 4 (st' := (108, [vR 10, vI x1, vI x2, none, none, vI (if r540 = (0:Int32) then (if x4 < x3 then (1:Int32) else (0:Int32)) else (1:Int32)), some (.long r550), none, some (.long ((f_endOff o).toInt64)), none], [.int (XT.cmpL r550 (-((f_endOff o).toInt64)))], (H1 s e0 o))) rfl ?_
        rcases qite h with ⟨hc552, h⟩ | ⟨hc552, h⟩
        ·refine zT Ad W (t := 115) (f := 111) rfl (XT.ll_gt_t hc552) ?_
         refine zS Ad W 1 (st' := (116, [vR 10, vI x1, vI x2, none, none, vI (if r540 = (0:Int32) then (if x4 < x3 then (1:Int32) else (0:Int32)) else (1:Int32)), some (.long r550), none, some (.long ((f_endOff o).toInt64)), none], [.int (0:Int32)], (H1 s e0 o))) rfl ?_
         obtain rfl := Option.some.inj h
         exact QTri.retZ rfl rfl
        ·refine zF Ad W (t := 115) (f := 111) rfl (XT.ll_gt_f hc552) ?_
         refine zS Ad W 2 (st' := (116, [vR 10, vI x1, vI x2, none, none, vI (if r540 = (0:Int32) then (if x4 < x3 then (1:Int32) else (0:Int32)) else (1:Int32)), some (.long r550), none, some (.long ((f_endOff o).toInt64)), none], [.int (1:Int32)], (H1 s e0 o))) rfl ?_
         obtain rfl := Option.some.inj h
         exact QTri.retZ rfl rfl
       ·refine zT Ad W (t := 117) (f := 102) rfl (XT.ii_ne_t hc551) ?_
        refine zS Ad W 3 (st' := (122, [vR 10, vI x1, vI x2, none, none, vI (if r540 = (0:Int32) then (if x4 < x3 then (1:Int32) else (0:Int32)) else (1:Int32)), some (.long r550), none, some (.long ((f_endOff o).toInt64)), none], [.int (XT.cmpL r550 ((f_endOff o).toInt64))], (H1 s e0 o))) rfl ?_
        rcases qite h with ⟨hc553, h⟩ | ⟨hc553, h⟩
        ·refine zT Ad W (t := 129) (f := 125) rfl (XT.ll_gt_t hc553) ?_
         refine zS Ad W 1 (st' := (130, [vR 10, vI x1, vI x2, none, none, vI (if r540 = (0:Int32) then (if x4 < x3 then (1:Int32) else (0:Int32)) else (1:Int32)), some (.long r550), none, some (.long ((f_endOff o).toInt64)), none], [.int (0:Int32)], (H1 s e0 o))) rfl ?_
         obtain rfl := Option.some.inj h
         exact QTri.retZ rfl rfl
        ·refine zF Ad W (t := 129) (f := 125) rfl (XT.ll_gt_f hc553) ?_
         refine zS Ad W 2 (st' := (130, [vR 10, vI x1, vI x2, none, none, vI (if r540 = (0:Int32) then (if x4 < x3 then (1:Int32) else (0:Int32)) else (1:Int32)), some (.long r550), none, some (.long ((f_endOff o).toInt64)), none], [.int (1:Int32)], (H1 s e0 o))) rfl ?_
         obtain rfl := Option.some.inj h
         exact QTri.retZ rfl rfl
      ·refine zF Ad W (t := 79) (f := 66) rfl (XT.i0_eq_f hc549) ?_
       refine zS Ad W 2 (st' := (70, [vR 10, vI x1, vI x2, none, none, vI (if r540 = (0:Int32) then (if x4 < x3 then (1:Int32) else (0:Int32)) else (1:Int32)), none, none, none, none], [.int (f_nulls o)], (H1 s e0 o))) rfl ?_
       rcases qite h with ⟨hc554, h⟩ | ⟨hc554, h⟩
       ·refine zF Ad W (t := 77) (f := 73) rfl (XT.i0_ne_f hc554) ?_
        refine zS Ad W 2 (st' := (78, [vR 10, vI x1, vI x2, none, none, vI (if r540 = (0:Int32) then (if x4 < x3 then (1:Int32) else (0:Int32)) else (1:Int32)), none, none, none, none], [.int (1:Int32)], (H1 s e0 o))) rfl ?_
        obtain rfl := Option.some.inj h
        exact QTri.retZ rfl rfl
       ·refine zT Ad W (t := 77) (f := 73) rfl (XT.i0_ne_t hc554) ?_
        refine zS Ad W 1 (st' := (78, [vR 10, vI x1, vI x2, none, none, vI (if r540 = (0:Int32) then (if x4 < x3 then (1:Int32) else (0:Int32)) else (1:Int32)), none, none, none, none], [.int (0:Int32)], (H1 s e0 o))) rfl ?_
        obtain rfl := Option.some.inj h
        exact QTri.retZ rfl rfl
     ·refine zF Ad W (t := 58) (f := 55) rfl (XT.i0_eq_f hc547) ?_
      refine zS Ad W 1 (st' := (57, [vR 10, vI x1, vI x2, none, none, vI (if r540 = (0:Int32) then (if x4 < x3 then (1:Int32) else (0:Int32)) else (1:Int32)), none, none, none, none], [.int (if r540 = (0:Int32) then (if x4 < x3 then (1:Int32) else (0:Int32)) else (1:Int32))], (H1 s e0 o))) rfl ?_
      obtain rfl := Option.some.inj h
      exact QTri.retZ rfl rfl
   rcases em (r540 = (0:Int32)) with hc543 | hc543
   ·refine zF Ad W (t := 32) (f := 26) rfl (XT.i0_ne_f hc543) ?_
    refine zS Ad W 2 (st' := (29, [vR 10, vI x1, vI x2, vI x3, vI x4, none, none, none, none, none], [.int x3, .int x4], (H1 s e0 o))) rfl ?_
    rcases em (x4 < x3) with hc544 | hc544
    ·refine zF Ad W (t := 36) (f := 32) rfl (XT.ii_ge_f hc544) ?_
     refine zS Ad W 2 (st' := (37, [vR 10, vI x1, vI x2, vI x3, vI x4, none, none, none, none, none], [.int (1:Int32)], (H1 s e0 o))) rfl ?_
     exact zM [tt,tt,tt,ff,ff,ff,ff,ff,ff,ff] (K542 _ ((if_pos hc543).trans (if_pos hc544)).symm)
    ·refine zT Ad W (t := 36) (f := 32) rfl (XT.ii_ge_t hc544) ?_
     refine zS Ad W 1 (st' := (37, [vR 10, vI x1, vI x2, vI x3, vI x4, none, none, none, none, none], [.int (0:Int32)], (H1 s e0 o))) rfl ?_
     exact zM [tt,tt,tt,ff,ff,ff,ff,ff,ff,ff] (K542 _ ((if_pos hc543).trans (if_neg hc544)).symm)
   ·refine zT Ad W (t := 32) (f := 26) rfl (XT.i0_ne_t hc543) ?_
    refine zS Ad W 2 (st' := (37, [vR 10, vI x1, vI x2, vI x3, vI x4, none, none, none, none, none], [.int (1:Int32)], (H1 s e0 o))) rfl ?_
    exact zM [tt,tt,tt,ff,ff,ff,ff,ff,ff,ff] (K542 _ (if_neg hc543).symm)
theorem tF24a1 (Ad : QAd n0 ad) (W : QW Z a0) (s : List Int32) (e0 : Ob) (o : Ob) (x1 : Int32) (x2 : Int32) (x3 : Int32) (x4 : Int32) {r : Int32} (h : F24 o x1 x2 x3 x4 = some r) : QTri l Z n0 ad 24 (0, qentry [.ref 10, .int x1, .int x2, .int x3, .int x4] (pMaxL 24), [], (H1 s e0 o)) (some (Value.int r)) (H1 s e0 o) := by
 unfold F24 at h
 refine zS Ad W 2 (st' := (4, [vR 10, vI x1, vI x2, vI x3, vI x4], [.int (f_mode o)], (H1 s e0 o))) rfl ?_
 rcases qite h with ⟨hc486, h⟩ | ⟨hc486, h⟩
 ·refine zF Ad W (t := 33) (f := 7) rfl (XT.i0_ne_f hc486) ?_
  refine zS Ad W 3 (st' := (11, [vR 10, vI x1, vI x2, vI x3, vI x4], [.int x4, .int x3, .ref 10], (H1 s e0 o))) rfl ?_
  obtain ⟨r493, hr493, h⟩ := bind_eq_some_iff.mp h
  refine QTri.callP W (a := 10) (as := [.int x3, .int x4]) (rest := []) (w := (some (.int r493))) (σ₁ := (H1 s e0 o)) rfl rfl rfl rfl rfl rfl rfl rfl (tF34a1 Ad W s e0 o x3 x4 hr493) ?_
  rcases qite h with ⟨hc494, h⟩ | ⟨hc494, h⟩
  ·refine zT Ad W (t := 31) (f := 17) rfl (XT.i0_eq_t hc494) ?_
   refine zS Ad W 1 (st' := (32, [vR 10, vI x1, vI x2, vI x3, vI x4], [.int (0:Int32)], (H1 s e0 o))) rfl ?_
   obtain rfl := Option.some.inj h
   exact QTri.retZ rfl rfl
  ·refine zF Ad W (t := 31) (f := 17) rfl (XT.i0_eq_f hc494) ?_
   refine zS Ad W 3 (st' := (21, [vR 10, vI x1, vI x2, vI x3, vI x4], [.int x4, .int x3, .ref 10], (H1 s e0 o))) rfl ?_
   obtain ⟨r501, hr501, h⟩ := bind_eq_some_iff.mp h
   refine QTri.callP W (a := 10) (as := [.int x3, .int x4]) (rest := []) (w := (some (.int r501))) (σ₁ := (H1 s e0 o)) rfl rfl rfl rfl rfl rfl rfl rfl (tF35a1 Ad W s e0 o x3 x4 hr501) ?_
   rcases qite h with ⟨hc502, h⟩ | ⟨hc502, h⟩
   ·refine zT Ad W (t := 31) (f := 27) rfl (XT.i0_eq_t hc502) ?_
    refine zS Ad W 1 (st' := (32, [vR 10, vI x1, vI x2, vI x3, vI x4], [.int (0:Int32)], (H1 s e0 o))) rfl ?_
    obtain rfl := Option.some.inj h
    exact QTri.retZ rfl rfl
   ·refine zF Ad W (t := 31) (f := 27) rfl (XT.i0_eq_f hc502) ?_
    refine zS Ad W 2 (st' := (32, [vR 10, vI x1, vI x2, vI x3, vI x4], [.int (1:Int32)], (H1 s e0 o))) rfl ?_
    obtain rfl := Option.some.inj h
    exact QTri.retZ rfl rfl
 ·refine zT Ad W (t := 33) (f := 7) rfl (XT.i0_ne_t hc486) ?_
  refine zS Ad W 5 (st' := (39, [vR 10, vI x1, vI x2, vI x3, vI x4], [.int x4, .int x3, .int x2, .int x1, .ref 10], (H1 s e0 o))) rfl ?_
  obtain ⟨r536, hr536, h⟩ := bind_eq_some_iff.mp h
  refine QTri.callP W (a := 10) (as := [.int x1, .int x2, .int x3, .int x4]) (rest := []) (w := (some (.int r536))) (σ₁ := (H1 s e0 o)) rfl rfl rfl rfl rfl rfl rfl rfl (tF25a1 Ad W s e0 o x1 x2 x3 x4 hr536) ?_
  rcases qite h with ⟨hc537, h⟩ | ⟨hc537, h⟩
  ·refine zT Ad W (t := 61) (f := 45) rfl (XT.i0_eq_t hc537) ?_
   refine zS Ad W 1 (st' := (62, [vR 10, vI x1, vI x2, vI x3, vI x4], [.int (0:Int32)], (H1 s e0 o))) rfl ?_
   obtain rfl := Option.some.inj h
   exact QTri.retZ rfl rfl
  ·refine zF Ad W (t := 61) (f := 45) rfl (XT.i0_eq_f hc537) ?_
   refine zS Ad W 5 (st' := (51, [vR 10, vI x1, vI x2, vI x3, vI x4], [.int x4, .int x3, .int x2, .int x1, .ref 10], (H1 s e0 o))) rfl ?_
   obtain ⟨r555, hr555, h⟩ := bind_eq_some_iff.mp h
   refine QTri.callP W (a := 10) (as := [.int x1, .int x2, .int x3, .int x4]) (rest := []) (w := (some (.int r555))) (σ₁ := (H1 s e0 o)) rfl rfl rfl rfl rfl rfl rfl rfl (tF26a1 Ad W s e0 o x1 x2 x3 x4 hr555) ?_
   rcases qite h with ⟨hc556, h⟩ | ⟨hc556, h⟩
   ·refine zT Ad W (t := 61) (f := 57) rfl (XT.i0_eq_t hc556) ?_
    refine zS Ad W 1 (st' := (62, [vR 10, vI x1, vI x2, vI x3, vI x4], [.int (0:Int32)], (H1 s e0 o))) rfl ?_
    obtain rfl := Option.some.inj h
    exact QTri.retZ rfl rfl
   ·refine zF Ad W (t := 61) (f := 57) rfl (XT.i0_eq_f hc556) ?_
    refine zS Ad W 2 (st' := (62, [vR 10, vI x1, vI x2, vI x3, vI x4], [.int (1:Int32)], (H1 s e0 o))) rfl ?_
    obtain rfl := Option.some.inj h
    exact QTri.retZ rfl rfl
theorem tJ23_166a1 (Ad : QAd n0 ad) (W : QW Z a0) (s : List Int32) (e0 : Ob) (o : Ob) (x1 : Int32) (x2 : Int32) (x3 : Int32) (x4 : Int32) {r : ((Ob)) ⊕ (Int32 × Ob)} {u : Option Value} {τ : QHeap} (h : J23_166 o x1 x2 x3 x4 = some r) (hx0 : ∀ x : Ob, r = .inl x → u = (none : Option Value) ∧ τ = (H1 s e0 x)) (hc : ∀ x : Int32 × Ob, r = .inr x → QTri l Z n0 ad 23 (38, [vR 10, vI x1, vI x2, vI x3, vI x.1, none, none], [], (H1 s e0 x.2)) u τ) : QTri l Z n0 ad 23 (166, [vR 10, vI x1, vI x2, vI x3, vI x4, none, none], [], (H1 s e0 o)) u τ := by
 unfold J23_166 at h
 refine zS Ad W 2 (st' := (38, [vR 10, vI x1, vI x2, vI x3, vI (x4 + (1:Int32)), none, none], [], (H1 s e0 o))) rfl ?_
 obtain rfl := Option.some.inj h
 exact zM [tt,tt,tt,tt,tt,ff,ff] (hc ((x4 + (1:Int32)), o) rfl)
def H1x94 (s : List Int32) (o0 o1 : Ob) (a1_24 : Int32) : QHeap := H1v s (f_part o0) (f_keys o0) (f_vals o0) (f_flg o0) (f_res o0) (f_resNull o0) (f_frameCnt o0) (f_sorted o0) (f_cap o0) (f_rows o0) (f_direction o0) (f_nulls o0) (f_mode o0) (f_startKind o0) (f_startOff o0) (f_endKind o0) (f_endOff o0) (f_fn o0) (f_fnArg o0) (f_computed o0) (f_sortedLen o0) (f_curPos o0) (f_aggSum o0) (f_aggCount o0) (f_aggRows o0) (f_aggMin o0) (f_aggMax o0) (f_part o1) (f_keys o1) (f_vals o1) (f_flg o1) (f_res o1) (f_resNull o1) (f_frameCnt o1) (f_sorted o1) (f_cap o1) (f_rows o1) (f_direction o1) (f_nulls o1) (f_mode o1) (f_startKind o1) (f_startOff o1) (f_endKind o1) (f_endOff o1) (f_fn o1) (f_fnArg o1) (f_computed o1) (f_sortedLen o1) (f_curPos o1) (f_aggSum o1) (f_aggCount o1) a1_24 (f_aggMin o1) (f_aggMax o1)
theorem tF29a1 (Ad : QAd n0 ad) (W : QW Z a0) (s : List Int32) (e0 : Ob) (o : Ob) (x1 : Int32) {r : Int32} (h : F29 o x1 = some r) : QTri l Z n0 ad 29 (0, qentry [.ref 10, .int x1] (pMaxL 29), [], (H1 s e0 o)) (some (Value.int r)) (H1 s e0 o) := by
 unfold F29 at h
 refine zS Ad W 3 (st' := (5, [vR 10, vI x1], [.int x1, .ref 14], (H1 s e0 o))) rfl ?_
 obtain ⟨y560, hy560, h⟩ := bind_eq_some_iff.mp h
 refine zB Ad W (f := fun y560 => (6, [vR 10, vI x1], [.int y560], (H1 s e0 o))) rfl hy560 ?_
 refine zS Ad W 2 (st' := (8, [vR 10, vI x1], [.int (y560 &&& (2:Int32))], (H1 s e0 o))) rfl ?_
 rcases qite h with ⟨hc561, h⟩ | ⟨hc561, h⟩
 ·refine zT Ad W (t := 15) (f := 11) rfl (XT.i0_eq_t hc561) ?_
  refine zS Ad W 1 (st' := (16, [vR 10, vI x1], [.int (0:Int32)], (H1 s e0 o))) rfl ?_
  obtain rfl := Option.some.inj h
  exact QTri.retZ rfl rfl
 ·refine zF Ad W (t := 15) (f := 11) rfl (XT.i0_eq_f hc561) ?_
  refine zS Ad W 2 (st' := (16, [vR 10, vI x1], [.int (1:Int32)], (H1 s e0 o))) rfl ?_
  obtain rfl := Option.some.inj h
  exact QTri.retZ rfl rfl
def H1x95 (s : List Int32) (o0 o1 : Ob) (a1_25 : Int32) : QHeap := H1v s (f_part o0) (f_keys o0) (f_vals o0) (f_flg o0) (f_res o0) (f_resNull o0) (f_frameCnt o0) (f_sorted o0) (f_cap o0) (f_rows o0) (f_direction o0) (f_nulls o0) (f_mode o0) (f_startKind o0) (f_startOff o0) (f_endKind o0) (f_endOff o0) (f_fn o0) (f_fnArg o0) (f_computed o0) (f_sortedLen o0) (f_curPos o0) (f_aggSum o0) (f_aggCount o0) (f_aggRows o0) (f_aggMin o0) (f_aggMax o0) (f_part o1) (f_keys o1) (f_vals o1) (f_flg o1) (f_res o1) (f_resNull o1) (f_frameCnt o1) (f_sorted o1) (f_cap o1) (f_rows o1) (f_direction o1) (f_nulls o1) (f_mode o1) (f_startKind o1) (f_startOff o1) (f_endKind o1) (f_endOff o1) (f_fn o1) (f_fnArg o1) (f_computed o1) (f_sortedLen o1) (f_curPos o1) (f_aggSum o1) (f_aggCount o1) (f_aggRows o1) a1_25 (f_aggMax o1)
def H1x96 (s : List Int32) (o0 o1 : Ob) (a1_26 : Int32) : QHeap := H1v s (f_part o0) (f_keys o0) (f_vals o0) (f_flg o0) (f_res o0) (f_resNull o0) (f_frameCnt o0) (f_sorted o0) (f_cap o0) (f_rows o0) (f_direction o0) (f_nulls o0) (f_mode o0) (f_startKind o0) (f_startOff o0) (f_endKind o0) (f_endOff o0) (f_fn o0) (f_fnArg o0) (f_computed o0) (f_sortedLen o0) (f_curPos o0) (f_aggSum o0) (f_aggCount o0) (f_aggRows o0) (f_aggMin o0) (f_aggMax o0) (f_part o1) (f_keys o1) (f_vals o1) (f_flg o1) (f_res o1) (f_resNull o1) (f_frameCnt o1) (f_sorted o1) (f_cap o1) (f_rows o1) (f_direction o1) (f_nulls o1) (f_mode o1) (f_startKind o1) (f_startOff o1) (f_endKind o1) (f_endOff o1) (f_fn o1) (f_fnArg o1) (f_computed o1) (f_sortedLen o1) (f_curPos o1) (f_aggSum o1) (f_aggCount o1) (f_aggRows o1) (f_aggMin o1) a1_26
def H1x97 (s : List Int32) (o0 o1 : Ob) (a1_23 : Int32) : QHeap := H1v s (f_part o0) (f_keys o0) (f_vals o0) (f_flg o0) (f_res o0) (f_resNull o0) (f_frameCnt o0) (f_sorted o0) (f_cap o0) (f_rows o0) (f_direction o0) (f_nulls o0) (f_mode o0) (f_startKind o0) (f_startOff o0) (f_endKind o0) (f_endOff o0) (f_fn o0) (f_fnArg o0) (f_computed o0) (f_sortedLen o0) (f_curPos o0) (f_aggSum o0) (f_aggCount o0) (f_aggRows o0) (f_aggMin o0) (f_aggMax o0) (f_part o1) (f_keys o1) (f_vals o1) (f_flg o1) (f_res o1) (f_resNull o1) (f_frameCnt o1) (f_sorted o1) (f_cap o1) (f_rows o1) (f_direction o1) (f_nulls o1) (f_mode o1) (f_startKind o1) (f_startOff o1) (f_endKind o1) (f_endOff o1) (f_fn o1) (f_fnArg o1) (f_computed o1) (f_sortedLen o1) (f_curPos o1) (f_aggSum o1) a1_23 (f_aggRows o1) (f_aggMin o1) (f_aggMax o1)
theorem tJ23_144a1 (Ad : QAd n0 ad) (W : QW Z a0) (s : List Int32) (e0 : Ob) (o : Ob) (x1 : Int32) (x2 : Int32) (x3 : Int32) (x4 : Int32) (x6 : Int32) {r : ((Ob)) ⊕ (Int32 × Ob)} {u : Option Value} {τ : QHeap} (h : J23_144 o x1 x2 x3 x4 x6 = some r) (hx0 : ∀ x : Ob, r = .inl x → u = (none : Option Value) ∧ τ = (H1 s e0 x)) (hc : ∀ x : Int32 × Ob, r = .inr x → QTri l Z n0 ad 23 (38, [vR 10, vI x1, vI x2, vI x3, vI x.1, none, none], [], (H1 s e0 x.2)) u τ) : QTri l Z n0 ad 23 (144, [vR 10, vI x1, vI x2, vI x3, vI x4, none, vI x6], [], (H1 s e0 o)) u τ := by
 unfold J23_144 at h
 refine zS Ad W 6 (st' := (154, [vR 10, vI x1, vI x2, vI x3, vI x4, none, vI x6], [], (H1x97 s e0 o ((f_aggCount o) + (1:Int32))))) rfl ?_
 refine zS Ad W 7 (st' := (166, [vR 10, vI x1, vI x2, vI x3, vI x4, none, vI x6], [], (H1x90 s e0 o ((f_aggSum o) + (x6.toInt64)) ((f_aggCount o) + (1:Int32))))) rfl ?_
 have E569 : ((H1x90 s e0 o ((f_aggSum o) + (x6.toInt64)) ((f_aggCount o) + (1:Int32))) : QHeap) = (H1 s e0 (s_aggSum (s_aggCount o ((f_aggCount o) + (1:Int32))) ((f_aggSum o) + (x6.toInt64)))) := by simp only [fs, H1, H1v, H1x90, s_aggSum, s_aggCount]
 rw [E569]
 exact zM [tt,tt,tt,tt,tt,ff,ff] (tJ23_166a1 Ad W s e0 (s_aggSum (s_aggCount o ((f_aggCount o) + (1:Int32))) ((f_aggSum o) + (x6.toInt64))) x1 x2 x3 x4 h hx0 hc)
theorem tJ23_138a1 (Ad : QAd n0 ad) (W : QW Z a0) (s : List Int32) (e0 : Ob) (o : Ob) (x1 : Int32) (x2 : Int32) (x3 : Int32) (x4 : Int32) (x6 : Int32) {r : ((Ob)) ⊕ (Int32 × Ob)} {u : Option Value} {τ : QHeap} (h : J23_138 o x1 x2 x3 x4 x6 = some r) (hx0 : ∀ x : Ob, r = .inl x → u = (none : Option Value) ∧ τ = (H1 s e0 x)) (hc : ∀ x : Int32 × Ob, r = .inr x → QTri l Z n0 ad 23 (38, [vR 10, vI x1, vI x2, vI x3, vI x.1, none, none], [], (H1 s e0 x.2)) u τ) : QTri l Z n0 ad 23 (138, [vR 10, vI x1, vI x2, vI x3, vI x4, none, vI x6], [], (H1 s e0 o)) u τ := by
 unfold J23_138 at h
 refine zS Ad W 3 (st' := (144, [vR 10, vI x1, vI x2, vI x3, vI x4, none, vI x6], [], (H1x96 s e0 o x6))) rfl ?_
 have E568 : ((H1x96 s e0 o x6) : QHeap) = (H1 s e0 (s_aggMax o x6)) := by simp only [fs, H1, H1v, H1x96, s_aggMax]
 rw [E568]
 exact zM [tt,tt,tt,tt,tt,ff,tt] (tJ23_144a1 Ad W s e0 (s_aggMax o x6) x1 x2 x3 x4 x6 h hx0 hc)
theorem tJ23_122a1 (Ad : QAd n0 ad) (W : QW Z a0) (s : List Int32) (e0 : Ob) (o : Ob) (x1 : Int32) (x2 : Int32) (x3 : Int32) (x4 : Int32) (x6 : Int32) {r : ((Ob)) ⊕ (Int32 × Ob)} {u : Option Value} {τ : QHeap} (h : J23_122 o x1 x2 x3 x4 x6 = some r) (hx0 : ∀ x : Ob, r = .inl x → u = (none : Option Value) ∧ τ = (H1 s e0 x)) (hc : ∀ x : Int32 × Ob, r = .inr x → QTri l Z n0 ad 23 (38, [vR 10, vI x1, vI x2, vI x3, vI x.1, none, none], [], (H1 s e0 x.2)) u τ) : QTri l Z n0 ad 23 (122, [vR 10, vI x1, vI x2, vI x3, vI x4, none, vI x6], [], (H1 s e0 o)) u τ := by
 unfold J23_122 at h
 refine zS Ad W 2 (st' := (126, [vR 10, vI x1, vI x2, vI x3, vI x4, none, vI x6], [.int (f_aggCount o)], (H1 s e0 o))) rfl ?_
 rcases qite h with ⟨hc567, h⟩ | ⟨hc567, h⟩
 ·refine zT Ad W (t := 138) (f := 129) rfl (XT.i0_eq_t hc567) ?_
  exact zM [tt,tt,tt,tt,tt,ff,tt] (tJ23_138a1 Ad W s e0 o x1 x2 x3 x4 x6 h hx0 hc)
 ·refine zF Ad W (t := 138) (f := 129) rfl (XT.i0_eq_f hc567) ?_
  refine zS Ad W 3 (st' := (135, [vR 10, vI x1, vI x2, vI x3, vI x4, none, vI x6], [.int (f_aggMax o), .int x6], (H1 s e0 o))) rfl ?_
  rcases qite h with ⟨hc570, h⟩ | ⟨hc570, h⟩
  ·refine zF Ad W (t := 144) (f := 138) rfl (XT.ii_le_f hc570) ?_
   exact zM [tt,tt,tt,tt,tt,ff,tt] (tJ23_138a1 Ad W s e0 o x1 x2 x3 x4 x6 h hx0 hc)
  ·refine zT Ad W (t := 144) (f := 138) rfl (XT.ii_le_t hc570) ?_
   exact zM [tt,tt,tt,tt,tt,ff,tt] (tJ23_144a1 Ad W s e0 o x1 x2 x3 x4 x6 h hx0 hc)
theorem tJ23_116a1 (Ad : QAd n0 ad) (W : QW Z a0) (s : List Int32) (e0 : Ob) (o : Ob) (x1 : Int32) (x2 : Int32) (x3 : Int32) (x4 : Int32) (x6 : Int32) {r : ((Ob)) ⊕ (Int32 × Ob)} {u : Option Value} {τ : QHeap} (h : J23_116 o x1 x2 x3 x4 x6 = some r) (hx0 : ∀ x : Ob, r = .inl x → u = (none : Option Value) ∧ τ = (H1 s e0 x)) (hc : ∀ x : Int32 × Ob, r = .inr x → QTri l Z n0 ad 23 (38, [vR 10, vI x1, vI x2, vI x3, vI x.1, none, none], [], (H1 s e0 x.2)) u τ) : QTri l Z n0 ad 23 (116, [vR 10, vI x1, vI x2, vI x3, vI x4, none, vI x6], [], (H1 s e0 o)) u τ := by
 unfold J23_116 at h
 refine zS Ad W 3 (st' := (122, [vR 10, vI x1, vI x2, vI x3, vI x4, none, vI x6], [], (H1x95 s e0 o x6))) rfl ?_
 have E566 : ((H1x95 s e0 o x6) : QHeap) = (H1 s e0 (s_aggMin o x6)) := by simp only [fs, H1, H1v, H1x95, s_aggMin]
 rw [E566]
 exact zM [tt,tt,tt,tt,tt,ff,tt] (tJ23_122a1 Ad W s e0 (s_aggMin o x6) x1 x2 x3 x4 x6 h hx0 hc)
theorem tB23_38a1 (Ad : QAd n0 ad) (W : QW Z a0) (s : List Int32) (e0 : Ob) (x1 : Int32) (x2 : Int32) (x3 : Int32) (v : Int32 × Ob) {r : ((Ob)) ⊕ (Int32 × Ob)} {u : Option Value} {τ : QHeap} (h : B23_38 x1 x2 x3 v = some r) (hx0 : ∀ x : Ob, r = .inl x → u = (none : Option Value) ∧ τ = (H1 s e0 x)) (hc : ∀ x : Int32 × Ob, r = .inr x → QTri l Z n0 ad 23 (38, [vR 10, vI x1, vI x2, vI x3, vI x.1, none, none], [], (H1 s e0 x.2)) u τ) : QTri l Z n0 ad 23 (38, [vR 10, vI x1, vI x2, vI x3, vI v.1, none, none], [], (H1 s e0 v.2)) u τ := by
 unfold B23_38 at h
 refine zS Ad W 2 (st' := (41, [vR 10, vI x1, vI x2, vI x3, vI v.1, none, none], [.int x2, .int v.1], (H1 s e0 v.2))) rfl ?_
 rcases qite h with ⟨hc484, h⟩ | ⟨hc484, h⟩
 ·refine zF Ad W (t := 172) (f := 44) rfl (XT.ii_ge_f hc484) ?_
  refine zS Ad W 3 (st' := (50, [vR 10, vI x1, vI x2, vI x3, vI v.1, none, none], [.int v.1, .ref 18], (H1 s e0 v.2))) rfl ?_
  obtain ⟨y485, hy485, h⟩ := bind_eq_some_iff.mp h
  refine zB Ad W (f := fun y485 => (51, [vR 10, vI x1, vI x2, vI x3, vI v.1, none, none], [.int y485], (H1 s e0 v.2))) rfl hy485 ?_
  refine zS Ad W 6 (st' := (60, [vR 10, vI x1, vI x2, vI x3, vI v.1, vI y485, none], [.int v.1, .int x3, .int y485, .int x1, .ref 10], (H1 s e0 v.2))) rfl ?_
  obtain ⟨r557, hr557, h⟩ := bind_eq_some_iff.mp h
  refine QTri.callP W (a := 10) (as := [.int x1, .int y485, .int x3, .int v.1]) (rest := []) (w := (some (.int r557))) (σ₁ := (H1 s e0 v.2)) rfl rfl rfl rfl rfl rfl rfl rfl (tF24a1 Ad W s e0 v.2 x1 y485 x3 v.1 hr557) ?_
  rcases qite h with ⟨hc558, h⟩ | ⟨hc558, h⟩
  ·refine zF Ad W (t := 69) (f := 66) rfl (XT.i0_ne_f hc558) ?_
   refine zS Ad W 1 (st' := (166, [vR 10, vI x1, vI x2, vI x3, vI v.1, vI y485, none], [], (H1 s e0 v.2))) rfl ?_
   exact zM [tt,tt,tt,tt,tt,ff,ff] (tJ23_166a1 Ad W s e0 v.2 x1 x2 x3 v.1 h hx0 hc)
  ·refine zT Ad W (t := 69) (f := 66) rfl (XT.i0_ne_t hc558) ?_
   refine zS Ad W 6 (st' := (79, [vR 10, vI x1, vI x2, vI x3, vI v.1, vI y485, none], [], (H1x94 s e0 v.2 ((f_aggRows v.2) + (1:Int32))))) rfl ?_
   refine zS Ad W 2 (st' := (82, [vR 10, vI x1, vI x2, vI x3, vI v.1, vI y485, none], [.int y485, .ref 10], (H1x94 s e0 v.2 ((f_aggRows v.2) + (1:Int32))))) rfl ?_
   have E559 : ((H1x94 s e0 v.2 ((f_aggRows v.2) + (1:Int32))) : QHeap) = (H1 s e0 (s_aggRows v.2 ((f_aggRows v.2) + (1:Int32)))) := by simp only [fs, H1, H1v, H1x94, s_aggRows]
   rw [E559]
   obtain ⟨r562, hr562, h⟩ := bind_eq_some_iff.mp h
   refine QTri.callP W (a := 10) (as := [.int y485]) (rest := []) (w := (some (.int r562))) (σ₁ := (H1 s e0 (s_aggRows v.2 ((f_aggRows v.2) + (1:Int32))))) rfl rfl rfl rfl rfl rfl rfl rfl (tF29a1 Ad W s e0 (s_aggRows v.2 ((f_aggRows v.2) + (1:Int32))) y485 hr562) ?_
   rcases qite h with ⟨hc563, h⟩ | ⟨hc563, h⟩
   ·refine zT Ad W (t := 91) (f := 88) rfl (XT.i0_eq_t hc563) ?_
    refine zS Ad W 3 (st' := (97, [vR 10, vI x1, vI x2, vI x3, vI v.1, vI y485, none], [.int y485, .ref 13], (H1 s e0 (s_aggRows v.2 ((f_aggRows v.2) + (1:Int32)))))) rfl ?_
    obtain ⟨y564, hy564, h⟩ := bind_eq_some_iff.mp h
    refine zB Ad W (f := fun y564 => (98, [vR 10, vI x1, vI x2, vI x3, vI v.1, vI y485, none], [.int y564], (H1 s e0 (s_aggRows v.2 ((f_aggRows v.2) + (1:Int32)))))) rfl hy564 ?_
    refine zS Ad W 3 (st' := (104, [vR 10, vI x1, vI x2, vI x3, vI v.1, vI y485, vI y564], [.int (f_aggCount (s_aggRows v.2 ((f_aggRows v.2) + (1:Int32))))], (H1 s e0 (s_aggRows v.2 ((f_aggRows v.2) + (1:Int32)))))) rfl ?_
    rcases qite h with ⟨hc565, h⟩ | ⟨hc565, h⟩
    ·refine zT Ad W (t := 116) (f := 107) rfl (XT.i0_eq_t hc565) ?_
     exact zM [tt,tt,tt,tt,tt,ff,tt] (tJ23_116a1 Ad W s e0 (s_aggRows v.2 ((f_aggRows v.2) + (1:Int32))) x1 x2 x3 v.1 y564 h hx0 hc)
    ·refine zF Ad W (t := 116) (f := 107) rfl (XT.i0_eq_f hc565) ?_
     refine zS Ad W 3 (st' := (113, [vR 10, vI x1, vI x2, vI x3, vI v.1, vI y485, vI y564], [.int (f_aggMin (s_aggRows v.2 ((f_aggRows v.2) + (1:Int32)))), .int y564], (H1 s e0 (s_aggRows v.2 ((f_aggRows v.2) + (1:Int32)))))) rfl ?_
     rcases qite h with ⟨hc571, h⟩ | ⟨hc571, h⟩
     ·refine zF Ad W (t := 122) (f := 116) rfl (XT.ii_ge_f hc571) ?_
      exact zM [tt,tt,tt,tt,tt,ff,tt] (tJ23_116a1 Ad W s e0 (s_aggRows v.2 ((f_aggRows v.2) + (1:Int32))) x1 x2 x3 v.1 y564 h hx0 hc)
     ·refine zT Ad W (t := 122) (f := 116) rfl (XT.ii_ge_t hc571) ?_
      exact zM [tt,tt,tt,tt,tt,ff,tt] (tJ23_122a1 Ad W s e0 (s_aggRows v.2 ((f_aggRows v.2) + (1:Int32))) x1 x2 x3 v.1 y564 h hx0 hc)
   ·refine zF Ad W (t := 91) (f := 88) rfl (XT.i0_eq_f hc563) ?_
    refine zS Ad W 1 (st' := (166, [vR 10, vI x1, vI x2, vI x3, vI v.1, vI y485, none], [], (H1 s e0 (s_aggRows v.2 ((f_aggRows v.2) + (1:Int32)))))) rfl ?_
    exact zM [tt,tt,tt,tt,tt,ff,ff] (tJ23_166a1 Ad W s e0 (s_aggRows v.2 ((f_aggRows v.2) + (1:Int32))) x1 x2 x3 v.1 h hx0 hc)
 ·refine zT Ad W (t := 172) (f := 44) rfl (XT.ii_ge_t hc484) ?_
  obtain rfl := Option.some.inj h
  obtain ⟨rfl, rfl⟩ := hx0 v.2 rfl
  exact QTri.ret0 rfl rfl
theorem tF23a1 (Ad : QAd n0 ad) (W : QW Z a0) (s : List Int32) (e0 : Ob) (o : Ob) (x1 : Int32) {r : Ob} (h : F23 o x1 = some r) : QTri l Z n0 ad 23 (0, qentry [.ref 10, .int x1] (pMaxL 23), [], (H1 s e0 o)) (none : Option Value) (H1 s e0 r) := by
 unfold F23 at h
 refine zS Ad W 6 (st' := (10, [vR 10, vI x1, vI (f_sortedLen o), vI (f_curPos o), none, none, none], [], (H1 s e0 o))) rfl ?_
 refine zS Ad W 3 (st' := (15, [vR 10, vI x1, vI (f_sortedLen o), vI (f_curPos o), none, none, none], [], (H1x89 s e0 o (0 : Int64)))) rfl ?_
 refine zS Ad W 3 (st' := (20, [vR 10, vI x1, vI (f_sortedLen o), vI (f_curPos o), none, none, none], [], (H1x90 s e0 o (0 : Int64) (0:Int32)))) rfl ?_
 refine zS Ad W 3 (st' := (25, [vR 10, vI x1, vI (f_sortedLen o), vI (f_curPos o), none, none, none], [], (H1x91 s e0 o (0 : Int64) (0:Int32) (0:Int32)))) rfl ?_
 refine zS Ad W 3 (st' := (30, [vR 10, vI x1, vI (f_sortedLen o), vI (f_curPos o), none, none, none], [], (H1x92 s e0 o (0 : Int64) (0:Int32) (0:Int32) (0:Int32)))) rfl ?_
 refine zS Ad W 3 (st' := (35, [vR 10, vI x1, vI (f_sortedLen o), vI (f_curPos o), none, none, none], [], (H1x93 s e0 o (0 : Int64) (0:Int32) (0:Int32) (0:Int32) (0:Int32)))) rfl ?_
 refine zS Ad W 2 (st' := (38, [vR 10, vI x1, vI (f_sortedLen o), vI (f_curPos o), vI (0:Int32), none, none], [], (H1x93 s e0 o (0 : Int64) (0:Int32) (0:Int32) (0:Int32) (0:Int32)))) rfl ?_
 have E483 : ((H1x93 s e0 o (0 : Int64) (0:Int32) (0:Int32) (0:Int32) (0:Int32)) : QHeap) = (H1 s e0 (s_aggMax (s_aggMin (s_aggRows (s_aggCount (s_aggSum o (0 : Int64)) (0:Int32)) (0:Int32)) (0:Int32)) (0:Int32))) := by simp only [fs, H1, H1v, H1x93, s_aggSum, s_aggCount, s_aggRows, s_aggMin, s_aggMax]
 rw [E483]
 obtain ⟨e572, he572, h⟩ := bind_eq_some_iff.mp h
 refine zM [tt,tt,tt,tt,tt,ff,ff] (loopN_tri (B := B23_38 x1 (f_sortedLen o) (f_curPos o)) (T := fun lv573 => QTri l Z n0 ad 23 (38, [vR 10, vI x1, vI (f_sortedLen o), vI (f_curPos o), vI lv573.1, none, none], [], (H1 s e0 lv573.2)) (none : Option Value) (H1 s e0 r)) (KE := fun e572a => (none : Option Value) = (none : Option Value) ∧ (H1 s e0 r) = (H1 s e0 e572a)) (fun lv573 r hB hE hC => tB23_38a1 Ad W s e0 x1 (f_sortedLen o) (f_curPos o) lv573 hB (fun x q => hE _ q) (fun x q => hC x q)) qN ((0:Int32), (s_aggMax (s_aggMin (s_aggRows (s_aggCount (s_aggSum o (0 : Int64)) (0:Int32)) (0:Int32)) (0:Int32)) (0:Int32))) e572 he572 ?_)
 obtain rfl := Option.some.inj h
 exact ⟨rfl, rfl⟩
def H1x98 (s : List Int32) (o0 o1 : Ob) (a1_6 : List Int32) : QHeap := H1v s (f_part o0) (f_keys o0) (f_vals o0) (f_flg o0) (f_res o0) (f_resNull o0) (f_frameCnt o0) (f_sorted o0) (f_cap o0) (f_rows o0) (f_direction o0) (f_nulls o0) (f_mode o0) (f_startKind o0) (f_startOff o0) (f_endKind o0) (f_endOff o0) (f_fn o0) (f_fnArg o0) (f_computed o0) (f_sortedLen o0) (f_curPos o0) (f_aggSum o0) (f_aggCount o0) (f_aggRows o0) (f_aggMin o0) (f_aggMax o0) (f_part o1) (f_keys o1) (f_vals o1) (f_flg o1) (f_res o1) (f_resNull o1) a1_6 (f_sorted o1) (f_cap o1) (f_rows o1) (f_direction o1) (f_nulls o1) (f_mode o1) (f_startKind o1) (f_startOff o1) (f_endKind o1) (f_endOff o1) (f_fn o1) (f_fnArg o1) (f_computed o1) (f_sortedLen o1) (f_curPos o1) (f_aggSum o1) (f_aggCount o1) (f_aggRows o1) (f_aggMin o1) (f_aggMax o1)
def H1x99 (s : List Int32) (o0 o1 : Ob) (a1_5 : List Int32) : QHeap := H1v s (f_part o0) (f_keys o0) (f_vals o0) (f_flg o0) (f_res o0) (f_resNull o0) (f_frameCnt o0) (f_sorted o0) (f_cap o0) (f_rows o0) (f_direction o0) (f_nulls o0) (f_mode o0) (f_startKind o0) (f_startOff o0) (f_endKind o0) (f_endOff o0) (f_fn o0) (f_fnArg o0) (f_computed o0) (f_sortedLen o0) (f_curPos o0) (f_aggSum o0) (f_aggCount o0) (f_aggRows o0) (f_aggMin o0) (f_aggMax o0) (f_part o1) (f_keys o1) (f_vals o1) (f_flg o1) (f_res o1) a1_5 (f_frameCnt o1) (f_sorted o1) (f_cap o1) (f_rows o1) (f_direction o1) (f_nulls o1) (f_mode o1) (f_startKind o1) (f_startOff o1) (f_endKind o1) (f_endOff o1) (f_fn o1) (f_fnArg o1) (f_computed o1) (f_sortedLen o1) (f_curPos o1) (f_aggSum o1) (f_aggCount o1) (f_aggRows o1) (f_aggMin o1) (f_aggMax o1)
def H1x100 (s : List Int32) (o0 o1 : Ob) (a1_4 : List Int64) (a1_5 : List Int32) : QHeap := H1v s (f_part o0) (f_keys o0) (f_vals o0) (f_flg o0) (f_res o0) (f_resNull o0) (f_frameCnt o0) (f_sorted o0) (f_cap o0) (f_rows o0) (f_direction o0) (f_nulls o0) (f_mode o0) (f_startKind o0) (f_startOff o0) (f_endKind o0) (f_endOff o0) (f_fn o0) (f_fnArg o0) (f_computed o0) (f_sortedLen o0) (f_curPos o0) (f_aggSum o0) (f_aggCount o0) (f_aggRows o0) (f_aggMin o0) (f_aggMax o0) (f_part o1) (f_keys o1) (f_vals o1) (f_flg o1) a1_4 a1_5 (f_frameCnt o1) (f_sorted o1) (f_cap o1) (f_rows o1) (f_direction o1) (f_nulls o1) (f_mode o1) (f_startKind o1) (f_startOff o1) (f_endKind o1) (f_endOff o1) (f_fn o1) (f_fnArg o1) (f_computed o1) (f_sortedLen o1) (f_curPos o1) (f_aggSum o1) (f_aggCount o1) (f_aggRows o1) (f_aggMin o1) (f_aggMax o1)
theorem tF31a1 (Ad : QAd n0 ad) (W : QW Z a0) (s : List Int32) (e0 : Ob) (o : Ob) (x1 : Int32) (x2 : Int64) (x4 : Int32) {r : Ob} (h : F31 o x1 x2 x4 = some r) : QTri l Z n0 ad 31 (0, qentry [.ref 10, .int x1, .long x2, .int x4] (pMaxL 31), [], (H1 s e0 o)) (none : Option Value) (H1 s e0 r) := by
 unfold F31 at h
 refine zS Ad W 4 (st' := (7, [vR 10, vI x1, some (.long x2), none, vI x4], [.int x4, .int x1, .ref 16], (H1 s e0 o))) rfl ?_
 obtain ⟨y581, hy581, h⟩ := bind_eq_some_iff.mp h
 refine zB Ad W (f := fun y581 => (8, [vR 10, vI x1, some (.long x2), none, vI x4], [], (H1x99 s e0 o y581))) rfl hy581 ?_
 refine zS Ad W 4 (st' := (15, [vR 10, vI x1, some (.long x2), none, vI x4], [.int x4, .int x1, .ref 15], (H1x99 s e0 o y581))) rfl ?_
 have K583 : ∀ z582 : Int64, z582 = (if x4 = (0:Int32) then x2 else (0 : Int64)) → QTri l Z n0 ad 31 (23, [none, none, none, none, none], [.long z582, .int x1, .ref 15], (H1x99 s e0 o y581)) (none : Option Value) (H1 s e0 r) := by
  intro z582 ez582
  subst ez582
  obtain ⟨y585, hy585, h⟩ := bind_eq_some_iff.mp h
  refine zB Ad W (f := fun y585 => (24, [none, none, none, none, none], [], (H1x100 s e0 o y585 y581))) rfl hy585 ?_
  have E586 : ((H1x100 s e0 o y585 y581) : QHeap) = (H1 s e0 (s_res (s_resNull o y581) y585)) := by simp only [fs, H1, H1v, H1x100, s_res, s_resNull]
  rw [E586]
  obtain rfl := Option.some.inj h
  exact QTri.ret0 rfl rfl
 rcases em (x4 = (0:Int32)) with hc584 | hc584
 ·refine zT Ad W (t := 22) (f := 18) rfl (XT.i0_eq_t hc584) ?_
  refine zS Ad W 1 (st' := (23, [vR 10, vI x1, some (.long x2), none, vI x4], [.long x2, .int x1, .ref 15], (H1x99 s e0 o y581))) rfl ?_
  exact zM [ff,ff,ff,ff,ff] (K583 _ (if_pos hc584).symm)
 ·refine zF Ad W (t := 22) (f := 18) rfl (XT.i0_eq_f hc584) ?_
  refine zS Ad W 2 (st' := (23, [vR 10, vI x1, some (.long x2), none, vI x4], [.long (0 : Int64), .int x1, .ref 15], (H1x99 s e0 o y581))) rfl ?_
  exact zM [ff,ff,ff,ff,ff] (K583 _ (if_neg hc584).symm)
theorem tB38_5a1 (Ad : QAd n0 ad) (W : QW Z a0) (s : List Int32) (e0 : Ob) (o : Ob) (x1 : Int32) (x2 : Int32) (v : Int64 × Int32) {r : ((Int64)) ⊕ (Int64 × Int32)} {u : Option Value} {τ : QHeap} (h : B38_5 o x1 x2 v = some r) (hx0 : ∀ x : Int64, r = .inl x → u = (some (Value.long x)) ∧ τ = (H1 s e0 o)) (hc : ∀ x : Int64 × Int32, r = .inr x → QTri l Z n0 ad 38 (5, [vR 10, vI x1, vI x2, some (.long x.1), none, vI x.2], [], (H1 s e0 o)) u τ) : QTri l Z n0 ad 38 (5, [vR 10, vI x1, vI x2, some (.long v.1), none, vI v.2], [], (H1 s e0 o)) u τ := by
 unfold B38_5 at h
 refine zS Ad W 2 (st' := (8, [vR 10, vI x1, vI x2, some (.long v.1), none, vI v.2], [.int x2, .int v.2], (H1 s e0 o))) rfl ?_
 rcases qite h with ⟨hc605, h⟩ | ⟨hc605, h⟩
 ·refine zF Ad W (t := 45) (f := 11) rfl (XT.ii_ge_f hc605) ?_
  refine zS Ad W 3 (st' := (17, [vR 10, vI x1, vI x2, some (.long v.1), none, vI v.2], [.int (f_sortedLen o), .int v.2], (H1 s e0 o))) rfl ?_
  rcases qite h with ⟨hc606, h⟩ | ⟨hc606, h⟩
  ·refine zF Ad W (t := 45) (f := 20) rfl (XT.ii_ge_f hc606) ?_
   refine zS Ad W 4 (st' := (27, [vR 10, vI x1, vI x2, some (.long v.1), none, vI v.2], [.int v.2, .ref 18, .ref 10], (H1 s e0 o))) rfl ?_
   obtain ⟨y607, hy607, h⟩ := bind_eq_some_iff.mp h
   refine zB Ad W (f := fun y607 => (28, [vR 10, vI x1, vI x2, some (.long v.1), none, vI v.2], [.int y607, .ref 10], (H1 s e0 o))) rfl hy607 ?_
   refine zS Ad W 1 (st' := (29, [vR 10, vI x1, vI x2, some (.long v.1), none, vI v.2], [.int x1, .int y607, .ref 10], (H1 s e0 o))) rfl ?_
   obtain ⟨r608, hr608, h⟩ := bind_eq_some_iff.mp h
   refine QTri.callP W (a := 10) (as := [.int y607, .int x1]) (rest := []) (w := (some (.int r608))) (σ₁ := (H1 s e0 o)) rfl rfl rfl rfl rfl rfl rfl rfl (tF27a1 Ad W s e0 o y607 x1 hr608) ?_
   have K610 : ∀ z609 : Int64, z609 = (if r608 = (0:Int32) then (v.1 + (1 : Int64)) else v.1) → QTri l Z n0 ad 38 (39, [vR 10, vI x1, vI x2, some (.long z609), none, vI v.2], [], (H1 s e0 o)) u τ := by
    intro z609 ez609
    subst ez609
    refine zS Ad W 2 (st' := (5, [vR 10, vI x1, vI x2, some (.long (if r608 = (0:Int32) then (v.1 + (1 : Int64)) else v.1)), none, vI (v.2 + (1:Int32))], [], (H1 s e0 o))) rfl ?_
    obtain rfl := Option.some.inj h
    exact zM [tt,tt,tt,tt,ff,tt] (hc ((if r608 = (0:Int32) then (v.1 + (1 : Int64)) else v.1), (v.2 + (1:Int32))) rfl)
   rcases em (r608 = (0:Int32)) with hc611 | hc611
   ·refine zF Ad W (t := 39) (f := 35) rfl (XT.i0_ne_f hc611) ?_
    refine zS Ad W 4 (st' := (39, [vR 10, vI x1, vI x2, some (.long (v.1 + (1 : Int64))), none, vI v.2], [], (H1 s e0 o))) rfl ?_
    exact zM [tt,tt,tt,tt,ff,tt] (K610 _ (if_pos hc611).symm)
   ·refine zT Ad W (t := 39) (f := 35) rfl (XT.i0_ne_t hc611) ?_
    exact zM [tt,tt,tt,tt,ff,tt] (K610 _ (if_neg hc611).symm)
  ·refine zT Ad W (t := 45) (f := 20) rfl (XT.ii_ge_t hc606) ?_
   refine zS Ad W 1 (st' := (46, [vR 10, vI x1, vI x2, some (.long v.1), none, vI v.2], [.long v.1], (H1 s e0 o))) rfl ?_
   obtain rfl := Option.some.inj h
   obtain ⟨rfl, rfl⟩ := hx0 v.1 rfl
   exact QTri.retJ rfl rfl
 ·refine zT Ad W (t := 45) (f := 11) rfl (XT.ii_ge_t hc605) ?_
  refine zS Ad W 1 (st' := (46, [vR 10, vI x1, vI x2, some (.long v.1), none, vI v.2], [.long v.1], (H1 s e0 o))) rfl ?_
  obtain rfl := Option.some.inj h
  obtain ⟨rfl, rfl⟩ := hx0 v.1 rfl
  exact QTri.retJ rfl rfl
theorem tF38a1 (Ad : QAd n0 ad) (W : QW Z a0) (s : List Int32) (e0 : Ob) (o : Ob) (x1 : Int32) (x2 : Int32) {r : Int64} (h : F38 o x1 x2 = some r) : QTri l Z n0 ad 38 (0, qentry [.ref 10, .int x1, .int x2] (pMaxL 38), [], (H1 s e0 o)) (some (Value.long r)) (H1 s e0 o) := by
 unfold F38 at h
 refine zS Ad W 4 (st' := (5, [vR 10, vI x1, vI x2, some (.long (1 : Int64)), none, vI (0:Int32)], [], (H1 s e0 o))) rfl ?_
 obtain ⟨e612, he612, h⟩ := bind_eq_some_iff.mp h
 refine zM [tt,tt,tt,tt,ff,tt] (loopN_tri (B := B38_5 o x1 x2) (T := fun lv613 => QTri l Z n0 ad 38 (5, [vR 10, vI x1, vI x2, some (.long lv613.1), none, vI lv613.2], [], (H1 s e0 o)) (some (Value.long r)) (H1 s e0 o)) (KE := fun e612a => (some (Value.long r)) = (some (Value.long e612a)) ∧ (H1 s e0 o) = (H1 s e0 o)) (fun lv613 r hB hE hC => tB38_5a1 Ad W s e0 o x1 x2 lv613 hB (fun x q => hE _ q) (fun x q => hC x q)) qN ((1 : Int64), (0:Int32)) e612 he612 ?_)
 obtain rfl := Option.some.inj h
 exact ⟨rfl, rfl⟩
theorem tJ33_69a1 (Ad : QAd n0 ad) (W : QW Z a0) (s : List Int32) (e0 : Ob) (o : Ob) (x1 : Int32) (x2 : Int32) (x3 : Int64) (x5 : Int32) {r : ((Int64)) ⊕ (Int64 × Int32)} {u : Option Value} {τ : QHeap} (h : J33_69 o x1 x2 x3 x5 = some r) (hx0 : ∀ x : Int64, r = .inl x → u = (some (Value.long x)) ∧ τ = (H1 s e0 o)) (hc : ∀ x : Int64 × Int32, r = .inr x → QTri l Z n0 ad 33 (5, [vR 10, vI x1, vI x2, some (.long x.1), none, vI x.2, none], [], (H1 s e0 o)) u τ) : QTri l Z n0 ad 33 (69, [vR 10, vI x1, vI x2, some (.long x3), none, vI x5, none], [], (H1 s e0 o)) u τ := by
 unfold J33_69 at h
 refine zS Ad W 2 (st' := (5, [vR 10, vI x1, vI x2, some (.long x3), none, vI (x5 + (1:Int32)), none], [], (H1 s e0 o))) rfl ?_
 obtain rfl := Option.some.inj h
 exact zM [tt,tt,tt,tt,ff,tt,ff] (hc (x3, (x5 + (1:Int32))) rfl)
theorem tJ33_65a1 (Ad : QAd n0 ad) (W : QW Z a0) (s : List Int32) (e0 : Ob) (o : Ob) (x1 : Int32) (x2 : Int32) (x3 : Int64) (x5 : Int32) {r : ((Int64)) ⊕ (Int64 × Int32)} {u : Option Value} {τ : QHeap} (h : J33_65 o x1 x2 x3 x5 = some r) (hx0 : ∀ x : Int64, r = .inl x → u = (some (Value.long x)) ∧ τ = (H1 s e0 o)) (hc : ∀ x : Int64 × Int32, r = .inr x → QTri l Z n0 ad 33 (5, [vR 10, vI x1, vI x2, some (.long x.1), none, vI x.2, none], [], (H1 s e0 o)) u τ) : QTri l Z n0 ad 33 (65, [vR 10, vI x1, vI x2, some (.long x3), none, vI x5, none], [], (H1 s e0 o)) u τ := by
 unfold J33_65 at h
 refine zS Ad W 4 (st' := (69, [vR 10, vI x1, vI x2, some (.long (x3 + (1 : Int64))), none, vI x5, none], [], (H1 s e0 o))) rfl ?_
 exact zM [tt,tt,tt,tt,ff,tt,ff] (tJ33_69a1 Ad W s e0 o x1 x2 (x3 + (1 : Int64)) x5 h hx0 hc)
theorem tB33_5a1 (Ad : QAd n0 ad) (W : QW Z a0) (s : List Int32) (e0 : Ob) (o : Ob) (x1 : Int32) (x2 : Int32) (v : Int64 × Int32) {r : ((Int64)) ⊕ (Int64 × Int32)} {u : Option Value} {τ : QHeap} (h : B33_5 o x1 x2 v = some r) (hx0 : ∀ x : Int64, r = .inl x → u = (some (Value.long x)) ∧ τ = (H1 s e0 o)) (hc : ∀ x : Int64 × Int32, r = .inr x → QTri l Z n0 ad 33 (5, [vR 10, vI x1, vI x2, some (.long x.1), none, vI x.2, none], [], (H1 s e0 o)) u τ) : QTri l Z n0 ad 33 (5, [vR 10, vI x1, vI x2, some (.long v.1), none, vI v.2, none], [], (H1 s e0 o)) u τ := by
 unfold B33_5 at h
 refine zS Ad W 2 (st' := (8, [vR 10, vI x1, vI x2, some (.long v.1), none, vI v.2, none], [.int x2, .int v.2], (H1 s e0 o))) rfl ?_
 rcases qite h with ⟨hc617, h⟩ | ⟨hc617, h⟩
 ·refine zF Ad W (t := 75) (f := 11) rfl (XT.ii_ge_f hc617) ?_
  refine zS Ad W 3 (st' := (17, [vR 10, vI x1, vI x2, some (.long v.1), none, vI v.2, none], [.int (f_sortedLen o), .int v.2], (H1 s e0 o))) rfl ?_
  rcases qite h with ⟨hc618, h⟩ | ⟨hc618, h⟩
  ·refine zF Ad W (t := 75) (f := 20) rfl (XT.ii_ge_f hc618) ?_
   refine zS Ad W 3 (st' := (26, [vR 10, vI x1, vI x2, some (.long v.1), none, vI v.2, none], [.int v.2, .ref 18], (H1 s e0 o))) rfl ?_
   obtain ⟨y619, hy619, h⟩ := bind_eq_some_iff.mp h
   refine zB Ad W (f := fun y619 => (27, [vR 10, vI x1, vI x2, some (.long v.1), none, vI v.2, none], [.int y619], (H1 s e0 o))) rfl hy619 ?_
   refine zS Ad W 4 (st' := (33, [vR 10, vI x1, vI x2, some (.long v.1), none, vI v.2, vI y619], [.int x1, .int y619, .ref 10], (H1 s e0 o))) rfl ?_
   obtain ⟨r620, hr620, h⟩ := bind_eq_some_iff.mp h
   refine QTri.callP W (a := 10) (as := [.int y619, .int x1]) (rest := []) (w := (some (.int r620))) (σ₁ := (H1 s e0 o)) rfl rfl rfl rfl rfl rfl rfl rfl (tF27a1 Ad W s e0 o y619 x1 hr620) ?_
   rcases qite h with ⟨hc621, h⟩ | ⟨hc621, h⟩
   ·refine zT Ad W (t := 42) (f := 39) rfl (XT.i0_eq_t hc621) ?_
    refine zS Ad W 1 (st' := (44, [vR 10, vI x1, vI x2, some (.long v.1), none, vI v.2, vI y619], [.int v.2], (H1 s e0 o))) rfl ?_
    rcases qite h with ⟨hc622, h⟩ | ⟨hc622, h⟩
    ·refine zT Ad W (t := 65) (f := 47) rfl (XT.i0_eq_t hc622) ?_
     exact zM [tt,tt,tt,tt,ff,tt,ff] (tJ33_65a1 Ad W s e0 o x1 x2 v.1 v.2 h hx0 hc)
    ·refine zF Ad W (t := 65) (f := 47) rfl (XT.i0_eq_f hc622) ?_
     refine zS Ad W 7 (st' := (58, [vR 10, vI x1, vI x2, some (.long v.1), none, vI v.2, vI y619], [.int (v.2 - (1:Int32)), .ref 18, .int y619, .ref 10], (H1 s e0 o))) rfl ?_
     obtain ⟨y623, hy623, h⟩ := bind_eq_some_iff.mp h
     refine zB Ad W (f := fun y623 => (59, [vR 10, vI x1, vI x2, some (.long v.1), none, vI v.2, vI y619], [.int y623, .int y619, .ref 10], (H1 s e0 o))) rfl hy623 ?_
     obtain ⟨r624, hr624, h⟩ := bind_eq_some_iff.mp h
     refine QTri.callP W (a := 10) (as := [.int y619, .int y623]) (rest := []) (w := (some (.int r624))) (σ₁ := (H1 s e0 o)) rfl rfl rfl rfl rfl rfl rfl rfl (tF27a1 Ad W s e0 o y619 y623 hr624) ?_
     have K626 : ∀ z625 : Int64, z625 = (if r624 = (0:Int32) then (v.1 + (1 : Int64)) else v.1) → QTri l Z n0 ad 33 (69, [vR 10, vI x1, vI x2, some (.long z625), none, vI v.2, none], [], (H1 s e0 o)) u τ := by
      intro z625 ez625
      subst ez625
      exact zM [tt,tt,tt,tt,ff,tt,ff] (tJ33_69a1 Ad W s e0 o x1 x2 (if r624 = (0:Int32) then (v.1 + (1 : Int64)) else v.1) v.2 h hx0 hc)
     rcases em (r624 = (0:Int32)) with hc627 | hc627
     ·refine zF Ad W (t := 69) (f := 65) rfl (XT.i0_ne_f hc627) ?_
      refine zS Ad W 4 (st' := (69, [vR 10, vI x1, vI x2, some (.long (v.1 + (1 : Int64))), none, vI v.2, vI y619], [], (H1 s e0 o))) rfl ?_
      exact zM [tt,tt,tt,tt,ff,tt,ff] (K626 _ (if_pos hc627).symm)
     ·refine zT Ad W (t := 69) (f := 65) rfl (XT.i0_ne_t hc627) ?_
      exact zM [tt,tt,tt,tt,ff,tt,ff] (K626 _ (if_neg hc627).symm)
   ·refine zF Ad W (t := 42) (f := 39) rfl (XT.i0_eq_f hc621) ?_
    refine zS Ad W 1 (st' := (69, [vR 10, vI x1, vI x2, some (.long v.1), none, vI v.2, vI y619], [], (H1 s e0 o))) rfl ?_
    exact zM [tt,tt,tt,tt,ff,tt,ff] (tJ33_69a1 Ad W s e0 o x1 x2 v.1 v.2 h hx0 hc)
  ·refine zT Ad W (t := 75) (f := 20) rfl (XT.ii_ge_t hc618) ?_
   refine zS Ad W 1 (st' := (76, [vR 10, vI x1, vI x2, some (.long v.1), none, vI v.2, none], [.long v.1], (H1 s e0 o))) rfl ?_
   obtain rfl := Option.some.inj h
   obtain ⟨rfl, rfl⟩ := hx0 v.1 rfl
   exact QTri.retJ rfl rfl
 ·refine zT Ad W (t := 75) (f := 11) rfl (XT.ii_ge_t hc617) ?_
  refine zS Ad W 1 (st' := (76, [vR 10, vI x1, vI x2, some (.long v.1), none, vI v.2, none], [.long v.1], (H1 s e0 o))) rfl ?_
  obtain rfl := Option.some.inj h
  obtain ⟨rfl, rfl⟩ := hx0 v.1 rfl
  exact QTri.retJ rfl rfl
theorem tF33a1 (Ad : QAd n0 ad) (W : QW Z a0) (s : List Int32) (e0 : Ob) (o : Ob) (x1 : Int32) (x2 : Int32) {r : Int64} (h : F33 o x1 x2 = some r) : QTri l Z n0 ad 33 (0, qentry [.ref 10, .int x1, .int x2] (pMaxL 33), [], (H1 s e0 o)) (some (Value.long r)) (H1 s e0 o) := by
 unfold F33 at h
 refine zS Ad W 4 (st' := (5, [vR 10, vI x1, vI x2, some (.long (1 : Int64)), none, vI (0:Int32), none], [], (H1 s e0 o))) rfl ?_
 obtain ⟨e628, he628, h⟩ := bind_eq_some_iff.mp h
 refine zM [tt,tt,tt,tt,ff,tt,ff] (loopN_tri (B := B33_5 o x1 x2) (T := fun lv629 => QTri l Z n0 ad 33 (5, [vR 10, vI x1, vI x2, some (.long lv629.1), none, vI lv629.2, none], [], (H1 s e0 o)) (some (Value.long r)) (H1 s e0 o)) (KE := fun e628a => (some (Value.long r)) = (some (Value.long e628a)) ∧ (H1 s e0 o) = (H1 s e0 o)) (fun lv629 r hB hE hC => tB33_5a1 Ad W s e0 o x1 x2 lv629 hB (fun x q => hE _ q) (fun x q => hC x q)) qN ((1 : Int64), (0:Int32)) e628 he628 ?_)
 obtain rfl := Option.some.inj h
 exact ⟨rfl, rfl⟩
theorem tJ36_45a1 (Ad : QAd n0 ad) (W : QW Z a0) (s : List Int32) (e0 : Ob) (o : Ob) (x1 : Int32) {r : Ob} (h : J36_45 o x1 = some r) : QTri l Z n0 ad 36 (45, [vR 10, vI x1, none, none, none, none, none], [], (H1 s e0 o)) (none : Option Value) (H1 s e0 r) := by
 unfold J36_45 at h
 refine zS Ad W 4 (st' := (49, [vR 10, vI x1, none, none, none, none, none], [.int (1:Int32), .long (0 : Int64), .int x1, .ref 10], (H1 s e0 o))) rfl ?_
 obtain ⟨r639, hr639, h⟩ := bind_eq_some_iff.mp h
 refine QTri.callP W (a := 10) (as := [.int x1, .long (0 : Int64), .int (1:Int32)]) (rest := []) (w := none) (σ₁ := (H1 s e0 r639)) rfl rfl rfl rfl rfl rfl rfl rfl (tF31a1 Ad W s e0 o x1 (0 : Int64) (1:Int32) hr639) ?_
 obtain rfl := Option.some.inj h
 exact QTri.ret0 rfl rfl
theorem tF36a1 (Ad : QAd n0 ad) (W : QW Z a0) (s : List Int32) (e0 : Ob) (o : Ob) (x1 : Int32) (x2 : Int32) (x3 : Int32) {r : Ob} (h : F36 o x1 x2 x3 = some r) : QTri l Z n0 ad 36 (0, qentry [.ref 10, .int x1, .int x2, .int x3] (pMaxL 36), [], (H1 s e0 o)) (none : Option Value) (H1 s e0 r) := by
 unfold F36 at h
 refine zS Ad W 1 (st' := (1, [vR 10, vI x1, vI x2, vI x3, none, none, none], [.int x3], (H1 s e0 o))) rfl ?_
 have K636 : ∀ z635 : Int64, z635 = (if x3 = (0:Int32) then ((x2.toInt64) + ((f_fnArg o).toInt64)) else ((x2.toInt64) - ((f_fnArg o).toInt64))) → QTri l Z n0 ad 36 (23, [vR 10, vI x1, none, none, none, none, none], [.long z635], (H1 s e0 o)) (none : Option Value) (H1 s e0 r) := by
  intro z635 ez635
  subst ez635
  refine zS Ad W 4 (st' := (29, [vR 10, vI x1, none, none, some (.long (if x3 = (0:Int32) then ((x2.toInt64) + ((f_fnArg o).toInt64)) else ((x2.toInt64) - ((f_fnArg o).toInt64)))), none, none], [.int (XT.cmpL (if x3 = (0:Int32) then ((x2.toInt64) + ((f_fnArg o).toInt64)) else ((x2.toInt64) - ((f_fnArg o).toInt64))) (0 : Int64))], (H1 s e0 o))) rfl ?_
  rcases qite h with ⟨hc638, h⟩ | ⟨hc638, h⟩
  ·refine zT Ad W (t := 45) (f := 32) rfl (XT.ll_lt_t hc638) ?_
   exact zM [tt,tt,ff,ff,ff,ff,ff] (tJ36_45a1 Ad W s e0 o x1 h)
  ·refine zF Ad W (t := 45) (f := 32) rfl (XT.ll_lt_f hc638) ?_
   refine zS Ad W 7 (st' := (42, [vR 10, vI x1, none, none, some (.long (if x3 = (0:Int32) then ((x2.toInt64) + ((f_fnArg o).toInt64)) else ((x2.toInt64) - ((f_fnArg o).toInt64)))), none, none], [.int (XT.cmpL (if x3 = (0:Int32) then ((x2.toInt64) + ((f_fnArg o).toInt64)) else ((x2.toInt64) - ((f_fnArg o).toInt64))) (((f_sortedLen o).toInt64) - (1 : Int64)))], (H1 s e0 o))) rfl ?_
   rcases qite h with ⟨hc640, h⟩ | ⟨hc640, h⟩
   ·refine zF Ad W (t := 53) (f := 45) rfl (XT.ll_le_f hc640) ?_
    exact zM [tt,tt,ff,ff,ff,ff,ff] (tJ36_45a1 Ad W s e0 o x1 h)
   ·refine zT Ad W (t := 53) (f := 45) rfl (XT.ll_le_t hc640) ?_
    refine zS Ad W 4 (st' := (60, [vR 10, vI x1, none, none, some (.long (if x3 = (0:Int32) then ((x2.toInt64) + ((f_fnArg o).toInt64)) else ((x2.toInt64) - ((f_fnArg o).toInt64)))), none, none], [.int ((if x3 = (0:Int32) then ((x2.toInt64) + ((f_fnArg o).toInt64)) else ((x2.toInt64) - ((f_fnArg o).toInt64))).toInt32), .ref 18], (H1 s e0 o))) rfl ?_
    obtain ⟨y641, hy641, h⟩ := bind_eq_some_iff.mp h
    refine zB Ad W (f := fun y641 => (61, [vR 10, vI x1, none, none, some (.long (if x3 = (0:Int32) then ((x2.toInt64) + ((f_fnArg o).toInt64)) else ((x2.toInt64) - ((f_fnArg o).toInt64)))), none, none], [.int y641], (H1 s e0 o))) rfl hy641 ?_
    refine zS Ad W 3 (st' := (66, [vR 10, vI x1, none, none, some (.long (if x3 = (0:Int32) then ((x2.toInt64) + ((f_fnArg o).toInt64)) else ((x2.toInt64) - ((f_fnArg o).toInt64)))), none, vI y641], [.int y641, .ref 10], (H1 s e0 o))) rfl ?_
    obtain ⟨r642, hr642, h⟩ := bind_eq_some_iff.mp h
    refine QTri.callP W (a := 10) (as := [.int y641]) (rest := []) (w := (some (.int r642))) (σ₁ := (H1 s e0 o)) rfl rfl rfl rfl rfl rfl rfl rfl (tF29a1 Ad W s e0 o y641 hr642) ?_
    rcases qite h with ⟨hc643, h⟩ | ⟨hc643, h⟩
    ·refine zT Ad W (t := 82) (f := 72) rfl (XT.i0_eq_t hc643) ?_
     refine zS Ad W 5 (st' := (90, [vR 10, vI x1, none, none, some (.long (if x3 = (0:Int32) then ((x2.toInt64) + ((f_fnArg o).toInt64)) else ((x2.toInt64) - ((f_fnArg o).toInt64)))), none, vI y641], [.int y641, .ref 13, .int x1, .ref 10], (H1 s e0 o))) rfl ?_
     obtain ⟨y644, hy644, h⟩ := bind_eq_some_iff.mp h
     refine zB Ad W (f := fun y644 => (91, [vR 10, vI x1, none, none, some (.long (if x3 = (0:Int32) then ((x2.toInt64) + ((f_fnArg o).toInt64)) else ((x2.toInt64) - ((f_fnArg o).toInt64)))), none, vI y641], [.int y644, .int x1, .ref 10], (H1 s e0 o))) rfl hy644 ?_
     refine zS Ad W 2 (st' := (93, [vR 10, vI x1, none, none, some (.long (if x3 = (0:Int32) then ((x2.toInt64) + ((f_fnArg o).toInt64)) else ((x2.toInt64) - ((f_fnArg o).toInt64)))), none, vI y641], [.int (0:Int32), .long (y644.toInt64), .int x1, .ref 10], (H1 s e0 o))) rfl ?_
     obtain ⟨r645, hr645, h⟩ := bind_eq_some_iff.mp h
     refine QTri.callP W (a := 10) (as := [.int x1, .long (y644.toInt64), .int (0:Int32)]) (rest := []) (w := none) (σ₁ := (H1 s e0 r645)) rfl rfl rfl rfl rfl rfl rfl rfl (tF31a1 Ad W s e0 o x1 (y644.toInt64) (0:Int32) hr645) ?_
     obtain rfl := Option.some.inj h
     exact QTri.ret0 rfl rfl
    ·refine zF Ad W (t := 82) (f := 72) rfl (XT.i0_eq_f hc643) ?_
     refine zS Ad W 4 (st' := (76, [vR 10, vI x1, none, none, some (.long (if x3 = (0:Int32) then ((x2.toInt64) + ((f_fnArg o).toInt64)) else ((x2.toInt64) - ((f_fnArg o).toInt64)))), none, vI y641], [.int (1:Int32), .long (0 : Int64), .int x1, .ref 10], (H1 s e0 o))) rfl ?_
     obtain ⟨r646, hr646, h⟩ := bind_eq_some_iff.mp h
     refine QTri.callP W (a := 10) (as := [.int x1, .long (0 : Int64), .int (1:Int32)]) (rest := []) (w := none) (σ₁ := (H1 s e0 r646)) rfl rfl rfl rfl rfl rfl rfl rfl (tF31a1 Ad W s e0 o x1 (0 : Int64) (1:Int32) hr646) ?_
     refine zS Ad W 1 (st' := (96, [vR 10, vI x1, none, none, some (.long (if x3 = (0:Int32) then ((x2.toInt64) + ((f_fnArg o).toInt64)) else ((x2.toInt64) - ((f_fnArg o).toInt64)))), none, vI y641], [], (H1 s e0 r646))) rfl ?_
     obtain rfl := Option.some.inj h
     exact QTri.ret0 rfl rfl
 rcases em (x3 = (0:Int32)) with hc637 | hc637
 ·refine zT Ad W (t := 15) (f := 4) rfl (XT.i0_eq_t hc637) ?_
  refine zS Ad W 6 (st' := (23, [vR 10, vI x1, vI x2, vI x3, none, none, none], [.long ((x2.toInt64) + ((f_fnArg o).toInt64))], (H1 s e0 o))) rfl ?_
  exact zM [tt,tt,ff,ff,ff,ff,ff] (K636 _ (if_pos hc637).symm)
 ·refine zF Ad W (t := 15) (f := 4) rfl (XT.i0_eq_f hc637) ?_
  refine zS Ad W 7 (st' := (23, [vR 10, vI x1, vI x2, vI x3, none, none, none], [.long ((x2.toInt64) - ((f_fnArg o).toInt64))], (H1 s e0 o))) rfl ?_
  exact zM [tt,tt,ff,ff,ff,ff,ff] (K636 _ (if_neg hc637).symm)
theorem tF30a1 (Ad : QAd n0 ad) (W : QW Z a0) (s : List Int32) (e0 : Ob) (o : Ob) (x1 : Int32) {r : Ob} (h : F30 o x1 = some r) : QTri l Z n0 ad 30 (0, qentry [.ref 10, .int x1] (pMaxL 30), [], (H1 s e0 o)) (none : Option Value) (H1 s e0 r) := by
 unfold F30 at h
 refine zS Ad W 5 (st' := (9, [vR 10, vI x1, vI (f_curPos o), none, none], [.int (f_fn o)], (H1 s e0 o))) rfl ?_
 rcases qite h with ⟨hc577, h⟩ | ⟨hc577, h⟩
 ·refine zF Ad W (t := 36) (f := 12) rfl (XT.i0_ne_f hc577) ?_
  refine zS Ad W 6 (st' := (22, [vR 10, vI x1, vI (f_curPos o), none, none], [.int (f_aggCount o), .long (f_aggSum o), .int x1, .ref 10], (H1 s e0 o))) rfl ?_
  have K579 : ∀ z578 : Int32, z578 = (if (f_aggCount o) = (0:Int32) then (1:Int32) else (0:Int32)) → QTri l Z n0 ad 30 (30, [none, none, none, none, none], [.int z578, .long (f_aggSum o), .int x1, .ref 10], (H1 s e0 o)) (none : Option Value) (H1 s e0 r) := by
   intro z578 ez578
   subst ez578
   obtain ⟨r587, hr587, h⟩ := bind_eq_some_iff.mp h
   refine QTri.callP W (a := 10) (as := [.int x1, .long (f_aggSum o), .int (if (f_aggCount o) = (0:Int32) then (1:Int32) else (0:Int32))]) (rest := []) (w := none) (σ₁ := (H1 s e0 r587)) rfl rfl rfl rfl rfl rfl rfl rfl (tF31a1 Ad W s e0 o x1 (f_aggSum o) (if (f_aggCount o) = (0:Int32) then (1:Int32) else (0:Int32)) hr587) ?_
   refine zS Ad W 1 (st' := (239, [none, none, none, none, none], [], (H1 s e0 r587))) rfl ?_
   obtain rfl := Option.some.inj h
   exact QTri.ret0 rfl rfl
  rcases em ((f_aggCount o) = (0:Int32)) with hc580 | hc580
  ·refine zF Ad W (t := 29) (f := 25) rfl (XT.i0_ne_f hc580) ?_
   refine zS Ad W 2 (st' := (30, [vR 10, vI x1, vI (f_curPos o), none, none], [.int (1:Int32), .long (f_aggSum o), .int x1, .ref 10], (H1 s e0 o))) rfl ?_
   exact zM [ff,ff,ff,ff,ff] (K579 _ (if_pos hc580).symm)
  ·refine zT Ad W (t := 29) (f := 25) rfl (XT.i0_ne_t hc580) ?_
   refine zS Ad W 1 (st' := (30, [vR 10, vI x1, vI (f_curPos o), none, none], [.int (0:Int32), .long (f_aggSum o), .int x1, .ref 10], (H1 s e0 o))) rfl ?_
   exact zM [ff,ff,ff,ff,ff] (K579 _ (if_neg hc580).symm)
 ·refine zT Ad W (t := 36) (f := 12) rfl (XT.i0_ne_t hc577) ?_
  refine zS Ad W 3 (st' := (41, [vR 10, vI x1, vI (f_curPos o), none, none], [.int (1:Int32), .int (f_fn o)], (H1 s e0 o))) rfl ?_
  rcases qite h with ⟨hc588, h⟩ | ⟨hc588, h⟩
  ·refine zF Ad W (t := 58) (f := 44) rfl (XT.ii_ne_f hc588) ?_
   refine zS Ad W 6 (st' := (52, [vR 10, vI x1, vI (f_curPos o), none, none], [.int (0:Int32), .long ((f_aggCount o).toInt64), .int x1, .ref 10], (H1 s e0 o))) rfl ?_
   obtain ⟨r589, hr589, h⟩ := bind_eq_some_iff.mp h
   refine QTri.callP W (a := 10) (as := [.int x1, .long ((f_aggCount o).toInt64), .int (0:Int32)]) (rest := []) (w := none) (σ₁ := (H1 s e0 r589)) rfl rfl rfl rfl rfl rfl rfl rfl (tF31a1 Ad W s e0 o x1 ((f_aggCount o).toInt64) (0:Int32) hr589) ?_
   refine zS Ad W 1 (st' := (239, [vR 10, vI x1, vI (f_curPos o), none, none], [], (H1 s e0 r589))) rfl ?_
   obtain rfl := Option.some.inj h
   exact QTri.ret0 rfl rfl
  ·refine zT Ad W (t := 58) (f := 44) rfl (XT.ii_ne_t hc588) ?_
   refine zS Ad W 3 (st' := (63, [vR 10, vI x1, vI (f_curPos o), none, none], [.int (2:Int32), .int (f_fn o)], (H1 s e0 o))) rfl ?_
   rcases qite h with ⟨hc590, h⟩ | ⟨hc590, h⟩
   ·refine zF Ad W (t := 80) (f := 66) rfl (XT.ii_ne_f hc590) ?_
    refine zS Ad W 6 (st' := (74, [vR 10, vI x1, vI (f_curPos o), none, none], [.int (0:Int32), .long ((f_aggRows o).toInt64), .int x1, .ref 10], (H1 s e0 o))) rfl ?_
    obtain ⟨r591, hr591, h⟩ := bind_eq_some_iff.mp h
    refine QTri.callP W (a := 10) (as := [.int x1, .long ((f_aggRows o).toInt64), .int (0:Int32)]) (rest := []) (w := none) (σ₁ := (H1 s e0 r591)) rfl rfl rfl rfl rfl rfl rfl rfl (tF31a1 Ad W s e0 o x1 ((f_aggRows o).toInt64) (0:Int32) hr591) ?_
    refine zS Ad W 1 (st' := (239, [vR 10, vI x1, vI (f_curPos o), none, none], [], (H1 s e0 r591))) rfl ?_
    obtain rfl := Option.some.inj h
    exact QTri.ret0 rfl rfl
   ·refine zT Ad W (t := 80) (f := 66) rfl (XT.ii_ne_t hc590) ?_
    refine zS Ad W 3 (st' := (85, [vR 10, vI x1, vI (f_curPos o), none, none], [.int (3:Int32), .int (f_fn o)], (H1 s e0 o))) rfl ?_
    rcases qite h with ⟨hc592, h⟩ | ⟨hc592, h⟩
    ·refine zF Ad W (t := 113) (f := 88) rfl (XT.ii_ne_f hc592) ?_
     refine zS Ad W 7 (st' := (99, [vR 10, vI x1, vI (f_curPos o), none, none], [.int (f_aggCount o), .long ((f_aggMin o).toInt64), .int x1, .ref 10], (H1 s e0 o))) rfl ?_
     have K594 : ∀ z593 : Int32, z593 = (if (f_aggCount o) = (0:Int32) then (1:Int32) else (0:Int32)) → QTri l Z n0 ad 30 (107, [none, none, none, none, none], [.int z593, .long ((f_aggMin o).toInt64), .int x1, .ref 10], (H1 s e0 o)) (none : Option Value) (H1 s e0 r) := by
      intro z593 ez593
      subst ez593
      obtain ⟨r596, hr596, h⟩ := bind_eq_some_iff.mp h
      refine QTri.callP W (a := 10) (as := [.int x1, .long ((f_aggMin o).toInt64), .int (if (f_aggCount o) = (0:Int32) then (1:Int32) else (0:Int32))]) (rest := []) (w := none) (σ₁ := (H1 s e0 r596)) rfl rfl rfl rfl rfl rfl rfl rfl (tF31a1 Ad W s e0 o x1 ((f_aggMin o).toInt64) (if (f_aggCount o) = (0:Int32) then (1:Int32) else (0:Int32)) hr596) ?_
      refine zS Ad W 1 (st' := (239, [none, none, none, none, none], [], (H1 s e0 r596))) rfl ?_
      obtain rfl := Option.some.inj h
      exact QTri.ret0 rfl rfl
     rcases em ((f_aggCount o) = (0:Int32)) with hc595 | hc595
     ·refine zF Ad W (t := 106) (f := 102) rfl (XT.i0_ne_f hc595) ?_
      refine zS Ad W 2 (st' := (107, [vR 10, vI x1, vI (f_curPos o), none, none], [.int (1:Int32), .long ((f_aggMin o).toInt64), .int x1, .ref 10], (H1 s e0 o))) rfl ?_
      exact zM [ff,ff,ff,ff,ff] (K594 _ (if_pos hc595).symm)
     ·refine zT Ad W (t := 106) (f := 102) rfl (XT.i0_ne_t hc595) ?_
      refine zS Ad W 1 (st' := (107, [vR 10, vI x1, vI (f_curPos o), none, none], [.int (0:Int32), .long ((f_aggMin o).toInt64), .int x1, .ref 10], (H1 s e0 o))) rfl ?_
      exact zM [ff,ff,ff,ff,ff] (K594 _ (if_neg hc595).symm)
    ·refine zT Ad W (t := 113) (f := 88) rfl (XT.ii_ne_t hc592) ?_
     refine zS Ad W 3 (st' := (118, [vR 10, vI x1, vI (f_curPos o), none, none], [.int (4:Int32), .int (f_fn o)], (H1 s e0 o))) rfl ?_
     rcases qite h with ⟨hc597, h⟩ | ⟨hc597, h⟩
     ·refine zF Ad W (t := 146) (f := 121) rfl (XT.ii_ne_f hc597) ?_
      refine zS Ad W 7 (st' := (132, [vR 10, vI x1, vI (f_curPos o), none, none], [.int (f_aggCount o), .long ((f_aggMax o).toInt64), .int x1, .ref 10], (H1 s e0 o))) rfl ?_
      have K599 : ∀ z598 : Int32, z598 = (if (f_aggCount o) = (0:Int32) then (1:Int32) else (0:Int32)) → QTri l Z n0 ad 30 (140, [none, none, none, none, none], [.int z598, .long ((f_aggMax o).toInt64), .int x1, .ref 10], (H1 s e0 o)) (none : Option Value) (H1 s e0 r) := by
       intro z598 ez598
       subst ez598
       obtain ⟨r601, hr601, h⟩ := bind_eq_some_iff.mp h
       refine QTri.callP W (a := 10) (as := [.int x1, .long ((f_aggMax o).toInt64), .int (if (f_aggCount o) = (0:Int32) then (1:Int32) else (0:Int32))]) (rest := []) (w := none) (σ₁ := (H1 s e0 r601)) rfl rfl rfl rfl rfl rfl rfl rfl (tF31a1 Ad W s e0 o x1 ((f_aggMax o).toInt64) (if (f_aggCount o) = (0:Int32) then (1:Int32) else (0:Int32)) hr601) ?_
       refine zS Ad W 1 (st' := (239, [none, none, none, none, none], [], (H1 s e0 r601))) rfl ?_
       obtain rfl := Option.some.inj h
       exact QTri.ret0 rfl rfl
      rcases em ((f_aggCount o) = (0:Int32)) with hc600 | hc600
      ·refine zF Ad W (t := 139) (f := 135) rfl (XT.i0_ne_f hc600) ?_
       refine zS Ad W 2 (st' := (140, [vR 10, vI x1, vI (f_curPos o), none, none], [.int (1:Int32), .long ((f_aggMax o).toInt64), .int x1, .ref 10], (H1 s e0 o))) rfl ?_
       exact zM [ff,ff,ff,ff,ff] (K599 _ (if_pos hc600).symm)
      ·refine zT Ad W (t := 139) (f := 135) rfl (XT.i0_ne_t hc600) ?_
       refine zS Ad W 1 (st' := (140, [vR 10, vI x1, vI (f_curPos o), none, none], [.int (0:Int32), .long ((f_aggMax o).toInt64), .int x1, .ref 10], (H1 s e0 o))) rfl ?_
       exact zM [ff,ff,ff,ff,ff] (K599 _ (if_neg hc600).symm)
     ·refine zT Ad W (t := 146) (f := 121) rfl (XT.ii_ne_t hc597) ?_
      refine zS Ad W 3 (st' := (151, [vR 10, vI x1, vI (f_curPos o), none, none], [.int (5:Int32), .int (f_fn o)], (H1 s e0 o))) rfl ?_
      rcases qite h with ⟨hc602, h⟩ | ⟨hc602, h⟩
      ·refine zF Ad W (t := 167) (f := 154) rfl (XT.ii_ne_f hc602) ?_
       refine zS Ad W 7 (st' := (161, [vR 10, vI x1, vI (f_curPos o), none, none], [.int (0:Int32), .long (((f_curPos o).toInt64) + (1 : Int64)), .int x1, .ref 10], (H1 s e0 o))) rfl ?_
       obtain ⟨r603, hr603, h⟩ := bind_eq_some_iff.mp h
       refine QTri.callP W (a := 10) (as := [.int x1, .long (((f_curPos o).toInt64) + (1 : Int64)), .int (0:Int32)]) (rest := []) (w := none) (σ₁ := (H1 s e0 r603)) rfl rfl rfl rfl rfl rfl rfl rfl (tF31a1 Ad W s e0 o x1 (((f_curPos o).toInt64) + (1 : Int64)) (0:Int32) hr603) ?_
       refine zS Ad W 1 (st' := (239, [vR 10, vI x1, vI (f_curPos o), none, none], [], (H1 s e0 r603))) rfl ?_
       obtain rfl := Option.some.inj h
       exact QTri.ret0 rfl rfl
      ·refine zT Ad W (t := 167) (f := 154) rfl (XT.ii_ne_t hc602) ?_
       refine zS Ad W 3 (st' := (173, [vR 10, vI x1, vI (f_curPos o), none, none], [.int (6:Int32), .int (f_fn o)], (H1 s e0 o))) rfl ?_
       rcases qite h with ⟨hc604, h⟩ | ⟨hc604, h⟩
       ·refine zF Ad W (t := 193) (f := 176) rfl (XT.ii_ne_f hc604) ?_
        refine zS Ad W 3 (st' := (179, [vR 10, vI x1, vI (f_curPos o), none, none], [.int (f_curPos o), .int x1, .ref 10], (H1 s e0 o))) rfl ?_
        obtain ⟨r614, hr614, h⟩ := bind_eq_some_iff.mp h
        refine QTri.callP W (a := 10) (as := [.int x1, .int (f_curPos o)]) (rest := []) (w := (some (.long r614))) (σ₁ := (H1 s e0 o)) rfl rfl rfl rfl rfl rfl rfl rfl (tF38a1 Ad W s e0 o x1 (f_curPos o) hr614) ?_
        refine zS Ad W 5 (st' := (187, [vR 10, vI x1, vI (f_curPos o), some (.long r614), none], [.int (0:Int32), .long r614, .int x1, .ref 10], (H1 s e0 o))) rfl ?_
        obtain ⟨r615, hr615, h⟩ := bind_eq_some_iff.mp h
        refine QTri.callP W (a := 10) (as := [.int x1, .long r614, .int (0:Int32)]) (rest := []) (w := none) (σ₁ := (H1 s e0 r615)) rfl rfl rfl rfl rfl rfl rfl rfl (tF31a1 Ad W s e0 o x1 r614 (0:Int32) hr615) ?_
        refine zS Ad W 1 (st' := (239, [vR 10, vI x1, vI (f_curPos o), some (.long r614), none], [], (H1 s e0 r615))) rfl ?_
        obtain rfl := Option.some.inj h
        exact QTri.ret0 rfl rfl
       ·refine zT Ad W (t := 193) (f := 176) rfl (XT.ii_ne_t hc604) ?_
        refine zS Ad W 3 (st' := (199, [vR 10, vI x1, vI (f_curPos o), none, none], [.int (7:Int32), .int (f_fn o)], (H1 s e0 o))) rfl ?_
        rcases qite h with ⟨hc616, h⟩ | ⟨hc616, h⟩
        ·refine zF Ad W (t := 219) (f := 202) rfl (XT.ii_ne_f hc616) ?_
         refine zS Ad W 3 (st' := (205, [vR 10, vI x1, vI (f_curPos o), none, none], [.int (f_curPos o), .int x1, .ref 10], (H1 s e0 o))) rfl ?_
         obtain ⟨r630, hr630, h⟩ := bind_eq_some_iff.mp h
         refine QTri.callP W (a := 10) (as := [.int x1, .int (f_curPos o)]) (rest := []) (w := (some (.long r630))) (σ₁ := (H1 s e0 o)) rfl rfl rfl rfl rfl rfl rfl rfl (tF33a1 Ad W s e0 o x1 (f_curPos o) hr630) ?_
         refine zS Ad W 5 (st' := (213, [vR 10, vI x1, vI (f_curPos o), some (.long r630), none], [.int (0:Int32), .long r630, .int x1, .ref 10], (H1 s e0 o))) rfl ?_
         obtain ⟨r631, hr631, h⟩ := bind_eq_some_iff.mp h
         refine QTri.callP W (a := 10) (as := [.int x1, .long r630, .int (0:Int32)]) (rest := []) (w := none) (σ₁ := (H1 s e0 r631)) rfl rfl rfl rfl rfl rfl rfl rfl (tF31a1 Ad W s e0 o x1 r630 (0:Int32) hr631) ?_
         refine zS Ad W 1 (st' := (239, [vR 10, vI x1, vI (f_curPos o), some (.long r630), none], [], (H1 s e0 r631))) rfl ?_
         obtain rfl := Option.some.inj h
         exact QTri.ret0 rfl rfl
        ·refine zT Ad W (t := 219) (f := 202) rfl (XT.ii_ne_t hc616) ?_
         refine zS Ad W 6 (st' := (228, [vR 10, vI x1, vI (f_curPos o), none, none], [.int (8:Int32), .int (f_fn o), .int (f_curPos o), .int x1, .ref 10], (H1 s e0 o))) rfl ?_
         have K633 : ∀ z632 : Int32, z632 = (if (f_fn o) = (8:Int32) then (1:Int32) else (0:Int32)) → QTri l Z n0 ad 30 (236, [none, none, none, none, none], [.int z632, .int (f_curPos o), .int x1, .ref 10], (H1 s e0 o)) (none : Option Value) (H1 s e0 r) := by
          intro z632 ez632
          subst ez632
          obtain ⟨r647, hr647, h⟩ := bind_eq_some_iff.mp h
          refine QTri.callP W (a := 10) (as := [.int x1, .int (f_curPos o), .int (if (f_fn o) = (8:Int32) then (1:Int32) else (0:Int32))]) (rest := []) (w := none) (σ₁ := (H1 s e0 r647)) rfl rfl rfl rfl rfl rfl rfl rfl (tF36a1 Ad W s e0 o x1 (f_curPos o) (if (f_fn o) = (8:Int32) then (1:Int32) else (0:Int32)) hr647) ?_
          obtain rfl := Option.some.inj h
          exact QTri.ret0 rfl rfl
         rcases em ((f_fn o) = (8:Int32)) with hc634 | hc634
         ·refine zF Ad W (t := 235) (f := 231) rfl (XT.ii_ne_f hc634) ?_
          refine zS Ad W 2 (st' := (236, [vR 10, vI x1, vI (f_curPos o), none, none], [.int (1:Int32), .int (f_curPos o), .int x1, .ref 10], (H1 s e0 o))) rfl ?_
          exact zM [ff,ff,ff,ff,ff] (K633 _ (if_pos hc634).symm)
         ·refine zT Ad W (t := 235) (f := 231) rfl (XT.ii_ne_t hc634) ?_
          refine zS Ad W 1 (st' := (236, [vR 10, vI x1, vI (f_curPos o), none, none], [.int (0:Int32), .int (f_curPos o), .int x1, .ref 10], (H1 s e0 o))) rfl ?_
          exact zM [ff,ff,ff,ff,ff] (K633 _ (if_neg hc634).symm)
theorem tF21a1 (Ad : QAd n0 ad) (W : QW Z a0) (s : List Int32) (e0 : Ob) (o : Ob) (x1 : Int32) {r : Ob} (h : F21 o x1 = some r) : QTri l Z n0 ad 21 (0, qentry [.ref 10, .int x1] (pMaxL 21), [], (H1 s e0 o)) (none : Option Value) (H1 s e0 r) := by
 unfold F21 at h
 refine zS Ad W 2 (st' := (2, [vR 10, vI x1], [.int x1, .ref 10], (H1 s e0 o))) rfl ?_
 obtain ⟨r482, hr482, h⟩ := bind_eq_some_iff.mp h
 refine QTri.callP W (a := 10) (as := [.int x1]) (rest := []) (w := none) (σ₁ := (H1 s e0 r482)) rfl rfl rfl rfl rfl rfl rfl rfl (tF22a1 Ad W s e0 o x1 hr482) ?_
 refine zS Ad W 2 (st' := (7, [vR 10, vI x1], [.int x1, .ref 10], (H1 s e0 r482))) rfl ?_
 obtain ⟨r574, hr574, h⟩ := bind_eq_some_iff.mp h
 refine QTri.callP W (a := 10) (as := [.int x1]) (rest := []) (w := none) (σ₁ := (H1 s e0 r574)) rfl rfl rfl rfl rfl rfl rfl rfl (tF23a1 Ad W s e0 r482 x1 hr574) ?_
 refine zS Ad W 5 (st' := (19, [vR 10, vI x1], [.int (f_aggRows r574), .int x1, .ref 17], (H1 s e0 r574))) rfl ?_
 obtain ⟨y575, hy575, h⟩ := bind_eq_some_iff.mp h
 refine zB Ad W (f := fun y575 => (20, [vR 10, vI x1], [], (H1x98 s e0 r574 y575))) rfl hy575 ?_
 refine zS Ad W 2 (st' := (22, [vR 10, vI x1], [.int x1, .ref 10], (H1x98 s e0 r574 y575))) rfl ?_
 have E576 : ((H1x98 s e0 r574 y575) : QHeap) = (H1 s e0 (s_frameCnt r574 y575)) := by simp only [fs, H1, H1v, H1x98, s_frameCnt]
 rw [E576]
 obtain ⟨r648, hr648, h⟩ := bind_eq_some_iff.mp h
 refine QTri.callP W (a := 10) (as := [.int x1]) (rest := []) (w := none) (σ₁ := (H1 s e0 r648)) rfl rfl rfl rfl rfl rfl rfl rfl (tF30a1 Ad W s e0 (s_frameCnt r574 y575) x1 hr648) ?_
 obtain rfl := Option.some.inj h
 exact QTri.ret0 rfl rfl
theorem tB18_11a1 (Ad : QAd n0 ad) (W : QW Z a0) (s : List Int32) (e0 : Ob) (v : Int32 × Ob) {r : ((Int32 × Ob)) ⊕ (Int32 × Ob)} {u : Option Value} {τ : QHeap} (h : B18_11 v = some r) (hx0 : ∀ x : Int32 × Ob, r = .inl x → u = (some (Value.int x.1)) ∧ τ = (H1 s e0 x.2)) (hc : ∀ x : Int32 × Ob, r = .inr x → QTri l Z n0 ad 18 (11, [vR 10, vI x.1], [], (H1 s e0 x.2)) u τ) : QTri l Z n0 ad 18 (11, [vR 10, vI v.1], [], (H1 s e0 v.2)) u τ := by
 unfold B18_11 at h
 refine zS Ad W 3 (st' := (16, [vR 10, vI v.1], [.int (f_rows v.2), .int v.1], (H1 s e0 v.2))) rfl ?_
 rcases qite h with ⟨hc433, h⟩ | ⟨hc433, h⟩
 ·refine zF Ad W (t := 30) (f := 19) rfl (XT.ii_ge_f hc433) ?_
  refine zS Ad W 2 (st' := (21, [vR 10, vI v.1], [.int v.1, .ref 10], (H1 s e0 v.2))) rfl ?_
  obtain ⟨r649, hr649, h⟩ := bind_eq_some_iff.mp h
  refine QTri.callP W (a := 10) (as := [.int v.1]) (rest := []) (w := none) (σ₁ := (H1 s e0 r649)) rfl rfl rfl rfl rfl rfl rfl rfl (tF21a1 Ad W s e0 v.2 v.1 hr649) ?_
  refine zS Ad W 2 (st' := (11, [vR 10, vI (v.1 + (1:Int32))], [], (H1 s e0 r649))) rfl ?_
  obtain rfl := Option.some.inj h
  exact zM [tt,tt] (hc ((v.1 + (1:Int32)), r649) rfl)
 ·refine zT Ad W (t := 30) (f := 19) rfl (XT.ii_ge_t hc433) ?_
  refine zS Ad W 3 (st' := (35, [vR 10, vI v.1], [], (H1x25 s e0 v.2 (1:Int32)))) rfl ?_
  refine zS Ad W 1 (st' := (36, [vR 10, vI v.1], [.int (0:Int32)], (H1x25 s e0 v.2 (1:Int32)))) rfl ?_
  have E650 : ((H1x25 s e0 v.2 (1:Int32)) : QHeap) = (H1 s e0 (s_computed v.2 (1:Int32))) := by simp only [fs, H1, H1v, H1x25, s_computed]
  rw [E650]
  obtain rfl := Option.some.inj h
  obtain ⟨rfl, rfl⟩ := hx0 ((0:Int32), (s_computed v.2 (1:Int32))) rfl
  exact QTri.retI rfl rfl
theorem tF18a1 (Ad : QAd n0 ad) (W : QW Z a0) (s : List Int32) (e0 : Ob) (o : Ob) {r : Int32 × Ob} (h : F18 o = some r) : QTri l Z n0 ad 18 (0, qentry [.ref 10] (pMaxL 18), [], (H1 s e0 o)) (some (Value.int r.1)) (H1 s e0 r.2) := by
 unfold F18 at h
 refine zS Ad W 1 (st' := (1, [vR 10, none], [.ref 10], (H1 s e0 o))) rfl ?_
 obtain ⟨r431, hr431, h⟩ := bind_eq_some_iff.mp h
 refine QTri.callP W (a := 10) (as := []) (rest := []) (w := (some (.int r431))) (σ₁ := (H1 s e0 o)) rfl rfl rfl rfl rfl rfl rfl rfl (tF19a1 Ad W s e0 o hr431) ?_
 rcases qite h with ⟨hc432, h⟩ | ⟨hc432, h⟩
 ·refine zT Ad W (t := 9) (f := 7) rfl (XT.i0_eq_t hc432) ?_
  refine zS Ad W 2 (st' := (11, [vR 10, vI (0:Int32)], [], (H1 s e0 o))) rfl ?_
  obtain ⟨e651, he651, h⟩ := bind_eq_some_iff.mp h
  refine zM [tt,tt] (loopN_tri (B := B18_11) (T := fun lv652 => QTri l Z n0 ad 18 (11, [vR 10, vI lv652.1], [], (H1 s e0 lv652.2)) (some (Value.int r.1)) (H1 s e0 r.2)) (KE := fun e651a => (some (Value.int r.1)) = (some (Value.int e651a.1)) ∧ (H1 s e0 r.2) = (H1 s e0 e651a.2)) (fun lv652 r hB hE hC => tB18_11a1 Ad W s e0 lv652 hB (fun x q => hE _ q) (fun x q => hC x q)) qN ((0:Int32), o) e651 he651 ?_)
  obtain rfl := Option.some.inj h
  exact ⟨rfl, rfl⟩
 ·refine zF Ad W (t := 9) (f := 7) rfl (XT.i0_eq_f hc432) ?_
  refine zS Ad W 1 (st' := (8, [vR 10, none], [.int (-1:Int32)], (H1 s e0 o))) rfl ?_
  obtain rfl := Option.some.inj h
  exact QTri.retI rfl rfl
theorem tF3a1 (Ad : QAd n0 ad) (W : QW Z a0) (s : List Int32) (e0 : Ob) (o : Ob) (x1 : Int32) (x2 : Int32) (x3 : Int32) (x4 : Int32) (x5 : Int32) {r : Int32 × Ob} (h : F3 o x1 x2 x3 x4 x5 = some r) : QTri l Z n0 ad 3 (0, qentry [.ref 10, .int x1, .int x2, .int x3, .int x4, .int x5] (pMaxL 3), [], (H1 s e0 o)) (some (Value.int r.1)) (H1 s e0 r.2) := by
 unfold F3 at h
 refine zS Ad W 1 (st' := (1, [vR 10, vI x1, vI x2, vI x3, vI x4, vI x5], [.int x1], (H1 s e0 o))) rfl ?_
 rcases qite h with ⟨hc345, h⟩ | ⟨hc345, h⟩
 ·refine zF Ad W (t := 24) (f := 4) rfl (XT.i0_ne_f hc345) ?_
  refine zS Ad W 5 (st' := (11, [vR 10, vI x1, vI x2, vI x3, vI x4, vI x5], [.int x5, .int x4, .int x3, .int x2, .ref 10], (H1 s e0 o))) rfl ?_
  obtain ⟨r360, hr360, h⟩ := bind_eq_some_iff.mp h
  refine QTri.callV W (a := 10) (as := [.int x2, .int x3, .int x4, .int x5]) (rest := []) (w := (some (.int r360.1))) (σ₁ := (H1 s e0 r360.2)) rfl rfl rfl rfl rfl rfl rfl rfl (tF5a1 Ad W s e0 o x2 x3 x4 x5 hr360) ?_
  refine zS Ad W 1 (st' := (15, [vR 10, vI x1, vI x2, vI x3, vI x4, vI x5], [.int (-1:Int32), .int r360.1], (H1 s e0 r360.2))) rfl ?_
  rcases qite h with ⟨hc361, h⟩ | ⟨hc361, h⟩
  ·refine zT Ad W (t := 22) (f := 18) rfl (XT.ii_eq_t hc361) ?_
   refine zS Ad W 1 (st' := (23, [vR 10, vI x1, vI x2, vI x3, vI x4, vI x5], [.int (0:Int32)], (H1 s e0 r360.2))) rfl ?_
   obtain rfl := Option.some.inj h
   exact QTri.retZ rfl rfl
  ·refine zF Ad W (t := 22) (f := 18) rfl (XT.ii_eq_f hc361) ?_
   refine zS Ad W 2 (st' := (23, [vR 10, vI x1, vI x2, vI x3, vI x4, vI x5], [.int (1:Int32)], (H1 s e0 r360.2))) rfl ?_
   obtain rfl := Option.some.inj h
   exact QTri.retZ rfl rfl
 ·refine zT Ad W (t := 24) (f := 4) rfl (XT.i0_ne_t hc345) ?_
  refine zS Ad W 2 (st' := (26, [vR 10, vI x1, vI x2, vI x3, vI x4, vI x5], [.int (1:Int32), .int x1], (H1 s e0 o))) rfl ?_
  rcases qite h with ⟨hc362, h⟩ | ⟨hc362, h⟩
  ·refine zF Ad W (t := 35) (f := 29) rfl (XT.ii_ne_f hc362) ?_
   refine zS Ad W 1 (st' := (30, [vR 10, vI x1, vI x2, vI x3, vI x4, vI x5], [.ref 10], (H1 s e0 o))) rfl ?_
   obtain ⟨r364, hr364, h⟩ := bind_eq_some_iff.mp h
   refine QTri.callV W (a := 10) (as := []) (rest := []) (w := none) (σ₁ := (H1 s e0 r364)) rfl rfl rfl rfl rfl rfl rfl rfl (tF7a1 Ad W s e0 o hr364) ?_
   refine zS Ad W 1 (st' := (34, [vR 10, vI x1, vI x2, vI x3, vI x4, vI x5], [.int (1:Int32)], (H1 s e0 r364))) rfl ?_
   obtain rfl := Option.some.inj h
   exact QTri.retZ rfl rfl
  ·refine zT Ad W (t := 35) (f := 29) rfl (XT.ii_ne_t hc362) ?_
   refine zS Ad W 2 (st' := (37, [vR 10, vI x1, vI x2, vI x3, vI x4, vI x5], [.int (2:Int32), .int x1], (H1 s e0 o))) rfl ?_
   rcases qite h with ⟨hc365, h⟩ | ⟨hc365, h⟩
   ·refine zF Ad W (t := 47) (f := 40) rfl (XT.ii_ne_f hc365) ?_
    refine zS Ad W 3 (st' := (43, [vR 10, vI x1, vI x2, vI x3, vI x4, vI x5], [.int x3, .int x2, .ref 10], (H1 s e0 o))) rfl ?_
    obtain ⟨r371, hr371, h⟩ := bind_eq_some_iff.mp h
    refine QTri.callV W (a := 10) (as := [.int x2, .int x3]) (rest := []) (w := (some (.int r371.1))) (σ₁ := (H1 s e0 r371.2)) rfl rfl rfl rfl rfl rfl rfl rfl (tF6a1 Ad W s e0 o x2 x3 hr371) ?_
    obtain rfl := Option.some.inj h
    exact QTri.retZ rfl rfl
   ·refine zT Ad W (t := 47) (f := 40) rfl (XT.ii_ne_t hc365) ?_
    refine zS Ad W 2 (st' := (49, [vR 10, vI x1, vI x2, vI x3, vI x4, vI x5], [.int (3:Int32), .int x1], (H1 s e0 o))) rfl ?_
    rcases qite h with ⟨hc372, h⟩ | ⟨hc372, h⟩
    ·refine zF Ad W (t := 58) (f := 52) rfl (XT.ii_ne_f hc372) ?_
     refine zS Ad W 2 (st' := (54, [vR 10, vI x1, vI x2, vI x3, vI x4, vI x5], [.int x2, .ref 10], (H1 s e0 o))) rfl ?_
     obtain ⟨r376, hr376, h⟩ := bind_eq_some_iff.mp h
     refine QTri.callV W (a := 10) (as := [.int x2]) (rest := []) (w := (some (.int r376.1))) (σ₁ := (H1 s e0 r376.2)) rfl rfl rfl rfl rfl rfl rfl rfl (tF4a1 Ad W s e0 o x2 hr376) ?_
     obtain rfl := Option.some.inj h
     exact QTri.retZ rfl rfl
    ·refine zT Ad W (t := 58) (f := 52) rfl (XT.ii_ne_t hc372) ?_
     refine zS Ad W 2 (st' := (60, [vR 10, vI x1, vI x2, vI x3, vI x4, vI x5], [.int (4:Int32), .int x1], (H1 s e0 o))) rfl ?_
     rcases qite h with ⟨hc377, h⟩ | ⟨hc377, h⟩
     ·refine zF Ad W (t := 70) (f := 63) rfl (XT.ii_ne_f hc377) ?_
      refine zS Ad W 3 (st' := (66, [vR 10, vI x1, vI x2, vI x3, vI x4, vI x5], [.int x3, .int x2, .ref 10], (H1 s e0 o))) rfl ?_
      obtain ⟨r390, hr390, h⟩ := bind_eq_some_iff.mp h
      refine QTri.callV W (a := 10) (as := [.int x2, .int x3]) (rest := []) (w := (some (.int r390.1))) (σ₁ := (H1 s e0 r390.2)) rfl rfl rfl rfl rfl rfl rfl rfl (tF17a1 Ad W s e0 o x2 x3 hr390) ?_
      obtain rfl := Option.some.inj h
      exact QTri.retZ rfl rfl
     ·refine zT Ad W (t := 70) (f := 63) rfl (XT.ii_ne_t hc377) ?_
      refine zS Ad W 2 (st' := (72, [vR 10, vI x1, vI x2, vI x3, vI x4, vI x5], [.int (5:Int32), .int x1], (H1 s e0 o))) rfl ?_
      rcases qite h with ⟨hc391, h⟩ | ⟨hc391, h⟩
      ·refine zF Ad W (t := 82) (f := 75) rfl (XT.ii_ne_f hc391) ?_
       refine zS Ad W 3 (st' := (78, [vR 10, vI x1, vI x2, vI x3, vI x4, vI x5], [.int x3, .int x2, .ref 10], (H1 s e0 o))) rfl ?_
       obtain ⟨r404, hr404, h⟩ := bind_eq_some_iff.mp h
       refine QTri.callV W (a := 10) (as := [.int x2, .int x3]) (rest := []) (w := (some (.int r404.1))) (σ₁ := (H1 s e0 r404.2)) rfl rfl rfl rfl rfl rfl rfl rfl (tF20a1 Ad W s e0 o x2 x3 hr404) ?_
       obtain rfl := Option.some.inj h
       exact QTri.retZ rfl rfl
      ·refine zT Ad W (t := 82) (f := 75) rfl (XT.ii_ne_t hc391) ?_
       refine zS Ad W 2 (st' := (85, [vR 10, vI x1, vI x2, vI x3, vI x4, vI x5], [.int (6:Int32), .int x1], (H1 s e0 o))) rfl ?_
       rcases qite h with ⟨hc405, h⟩ | ⟨hc405, h⟩
       ·refine zF Ad W (t := 95) (f := 88) rfl (XT.ii_ne_f hc405) ?_
        refine zS Ad W 3 (st' := (91, [vR 10, vI x1, vI x2, vI x3, vI x4, vI x5], [.int x3, .int x2, .ref 10], (H1 s e0 o))) rfl ?_
        obtain ⟨r418, hr418, h⟩ := bind_eq_some_iff.mp h
        refine QTri.callV W (a := 10) (as := [.int x2, .int x3]) (rest := []) (w := (some (.int r418.1))) (σ₁ := (H1 s e0 r418.2)) rfl rfl rfl rfl rfl rfl rfl rfl (tF16a1 Ad W s e0 o x2 x3 hr418) ?_
        obtain rfl := Option.some.inj h
        exact QTri.retZ rfl rfl
       ·refine zT Ad W (t := 95) (f := 88) rfl (XT.ii_ne_t hc405) ?_
        refine zS Ad W 1 (st' := (96, [vR 10, vI x1, vI x2, vI x3, vI x4, vI x5], [.ref 10], (H1 s e0 o))) rfl ?_
        obtain ⟨r653, hr653, h⟩ := bind_eq_some_iff.mp h
        refine QTri.callV W (a := 10) (as := []) (rest := []) (w := (some (.int r653.1))) (σ₁ := (H1 s e0 r653.2)) rfl rfl rfl rfl rfl rfl rfl rfl (tF18a1 Ad W s e0 o hr653) ?_
        refine zS Ad W 1 (st' := (100, [vR 10, vI x1, vI x2, vI x3, vI x4, vI x5], [.int (-1:Int32), .int r653.1], (H1 s e0 r653.2))) rfl ?_
        rcases qite h with ⟨hc654, h⟩ | ⟨hc654, h⟩
        ·refine zT Ad W (t := 107) (f := 103) rfl (XT.ii_eq_t hc654) ?_
         refine zS Ad W 1 (st' := (108, [vR 10, vI x1, vI x2, vI x3, vI x4, vI x5], [.int (0:Int32)], (H1 s e0 r653.2))) rfl ?_
         obtain rfl := Option.some.inj h
         exact QTri.retZ rfl rfl
        ·refine zF Ad W (t := 107) (f := 103) rfl (XT.ii_eq_f hc654) ?_
         refine zS Ad W 2 (st' := (108, [vR 10, vI x1, vI x2, vI x3, vI x4, vI x5], [.int (1:Int32)], (H1 s e0 r653.2))) rfl ?_
         obtain rfl := Option.some.inj h
         exact QTri.retZ rfl rfl
def B0_22 (s : List Int32) (v : Int32 × Ob × Ob) : Option (((Ob × Ob)) ⊕ (Int32 × Ob × Ob)) :=
  (if (s.length.toInt32) < (v.1 + (5 : Int32)) then some (.inl (v.2.1, v.2.2)) else (aget s v.1).bind fun y24 => (aget s (v.1 + (1 : Int32))).bind fun y25 => (aget s (v.1 + (2 : Int32))).bind fun y26 => (aget s (v.1 + (3 : Int32))).bind fun y27 => (aget s (v.1 + (4 : Int32))).bind fun y28 => (F3 v.2.1 (y24 &&& (7 : Int32)) y25 y26 y27 y28).bind fun r339 => (if r339.1 = (0 : Int32) then (J0_98 s r339.2 v.2.2 v.1) else (aget s (v.1 + (1 : Int32))).bind fun y341 => (aget s (v.1 + (2 : Int32))).bind fun y342 => (aget s (v.1 + (3 : Int32))).bind fun y343 => (aget s (v.1 + (4 : Int32))).bind fun y344 => (F3 v.2.2 (y24 &&& (7 : Int32)) y341 y342 y343 y344).bind fun r655 => (J0_98 s r339.2 r655.2 v.1)))
theorem tB0_22 (Ad : QAd n0 ad) (W : QW Z a0) (s : List Int32) (v : Int32 × Ob × Ob) {r : ((Ob × Ob)) ⊕ (Int32 × Ob × Ob)} {u : Option Value} {τ : QHeap} (h : B0_22 s v = some r) (hx0 : ∀ x : Ob × Ob, r = .inl x → QTri l Z n0 ad 0 (104, [none, vR 1, vR 10, none, none, none], [], (H1 s x.1 x.2)) u τ) (hc : ∀ x : Int32 × Ob × Ob, r = .inr x → QTri l Z n0 ad 0 (22, [vR 0, vR 1, vR 10, vI x.1, none, none], [], (H1 s x.2.1 x.2.2)) u τ) : QTri l Z n0 ad 0 (22, [vR 0, vR 1, vR 10, vI v.1, none, none], [], (H1 s v.2.1 v.2.2)) u τ := by
 unfold B0_22 at h
 refine zS Ad W 5 (st' := (27, [vR 0, vR 1, vR 10, vI v.1, none, none], [.int (s.length.toInt32), .int (v.1 + (5:Int32))], (H1 s v.2.1 v.2.2))) rfl ?_
 rcases qite h with ⟨hc23, h⟩ | ⟨hc23, h⟩
 ·refine zT Ad W (t := 104) (f := 30) rfl (XT.ii_gt_t hc23) ?_
  obtain rfl := Option.some.inj h
  exact zM [ff,tt,tt,ff,ff,ff] (hx0 (v.2.1, v.2.2) rfl)
 ·refine zF Ad W (t := 104) (f := 30) rfl (XT.ii_gt_f hc23) ?_
  refine zS Ad W 2 (st' := (32, [vR 0, vR 1, vR 10, vI v.1, none, none], [.int v.1, .ref 0], (H1 s v.2.1 v.2.2))) rfl ?_
  obtain ⟨y24, hy24, h⟩ := bind_eq_some_iff.mp h
  refine zB Ad W (f := fun y24 => (33, [vR 0, vR 1, vR 10, vI v.1, none, none], [.int y24], (H1 s v.2.1 v.2.2))) rfl hy24 ?_
  refine zS Ad W 9 (st' := (45, [vR 0, vR 1, vR 10, vI v.1, vI (y24 &&& (7:Int32)), none], [.int (v.1 + (1:Int32)), .ref 0, .int (y24 &&& (7:Int32)), .ref 1], (H1 s v.2.1 v.2.2))) rfl ?_
  obtain ⟨y25, hy25, h⟩ := bind_eq_some_iff.mp h
  refine zB Ad W (f := fun y25 => (46, [vR 0, vR 1, vR 10, vI v.1, vI (y24 &&& (7:Int32)), none], [.int y25, .int (y24 &&& (7:Int32)), .ref 1], (H1 s v.2.1 v.2.2))) rfl hy25 ?_
  refine zS Ad W 4 (st' := (50, [vR 0, vR 1, vR 10, vI v.1, vI (y24 &&& (7:Int32)), none], [.int (v.1 + (2:Int32)), .ref 0, .int y25, .int (y24 &&& (7:Int32)), .ref 1], (H1 s v.2.1 v.2.2))) rfl ?_
  obtain ⟨y26, hy26, h⟩ := bind_eq_some_iff.mp h
  refine zB Ad W (f := fun y26 => (51, [vR 0, vR 1, vR 10, vI v.1, vI (y24 &&& (7:Int32)), none], [.int y26, .int y25, .int (y24 &&& (7:Int32)), .ref 1], (H1 s v.2.1 v.2.2))) rfl hy26 ?_
  refine zS Ad W 4 (st' := (55, [vR 0, vR 1, vR 10, vI v.1, vI (y24 &&& (7:Int32)), none], [.int (v.1 + (3:Int32)), .ref 0, .int y26, .int y25, .int (y24 &&& (7:Int32)), .ref 1], (H1 s v.2.1 v.2.2))) rfl ?_
  obtain ⟨y27, hy27, h⟩ := bind_eq_some_iff.mp h
  refine zB Ad W (f := fun y27 => (56, [vR 0, vR 1, vR 10, vI v.1, vI (y24 &&& (7:Int32)), none], [.int y27, .int y26, .int y25, .int (y24 &&& (7:Int32)), .ref 1], (H1 s v.2.1 v.2.2))) rfl hy27 ?_
  refine zS Ad W 4 (st' := (60, [vR 0, vR 1, vR 10, vI v.1, vI (y24 &&& (7:Int32)), none], [.int (v.1 + (4:Int32)), .ref 0, .int y27, .int y26, .int y25, .int (y24 &&& (7:Int32)), .ref 1], (H1 s v.2.1 v.2.2))) rfl ?_
  obtain ⟨y28, hy28, h⟩ := bind_eq_some_iff.mp h
  refine zB Ad W (f := fun y28 => (61, [vR 0, vR 1, vR 10, vI v.1, vI (y24 &&& (7:Int32)), none], [.int y28, .int y27, .int y26, .int y25, .int (y24 &&& (7:Int32)), .ref 1], (H1 s v.2.1 v.2.2))) rfl hy28 ?_
  obtain ⟨r339, hr339, h⟩ := bind_eq_some_iff.mp h
  refine QTri.callS W (as := [.ref 1, .int (y24 &&& (7:Int32)), .int y25, .int y26, .int y27, .int y28]) (rest := []) (w := (some (.int r339.1))) (σ₁ := (H1 s r339.2 v.2.2)) rfl rfl rfl rfl rfl rfl rfl (tF3 Ad W s v.2.2 v.2.1 (y24 &&& (7:Int32)) y25 y26 y27 y28 hr339) ?_
  refine zS Ad W 2 (st' := (68, [vR 0, vR 1, vR 10, vI v.1, vI (y24 &&& (7:Int32)), vI r339.1], [.int r339.1], (H1 s r339.2 v.2.2))) rfl ?_
  rcases qite h with ⟨hc340, h⟩ | ⟨hc340, h⟩
  ·refine zT Ad W (t := 98) (f := 71) rfl (XT.i0_eq_t hc340) ?_
   exact zM [tt,tt,tt,tt,ff,ff] (tJ0_98 Ad W s r339.2 v.2.2 v.1 h hx0 hc)
  ·refine zF Ad W (t := 98) (f := 71) rfl (XT.i0_eq_f hc340) ?_
   refine zS Ad W 6 (st' := (78, [vR 0, vR 1, vR 10, vI v.1, vI (y24 &&& (7:Int32)), vI r339.1], [.int (v.1 + (1:Int32)), .ref 0, .int (y24 &&& (7:Int32)), .ref 10], (H1 s r339.2 v.2.2))) rfl ?_
   obtain ⟨y341, hy341, h⟩ := bind_eq_some_iff.mp h
   refine zB Ad W (f := fun y341 => (79, [vR 0, vR 1, vR 10, vI v.1, vI (y24 &&& (7:Int32)), vI r339.1], [.int y341, .int (y24 &&& (7:Int32)), .ref 10], (H1 s r339.2 v.2.2))) rfl hy341 ?_
   refine zS Ad W 4 (st' := (83, [vR 0, vR 1, vR 10, vI v.1, vI (y24 &&& (7:Int32)), vI r339.1], [.int (v.1 + (2:Int32)), .ref 0, .int y341, .int (y24 &&& (7:Int32)), .ref 10], (H1 s r339.2 v.2.2))) rfl ?_
   obtain ⟨y342, hy342, h⟩ := bind_eq_some_iff.mp h
   refine zB Ad W (f := fun y342 => (84, [vR 0, vR 1, vR 10, vI v.1, vI (y24 &&& (7:Int32)), vI r339.1], [.int y342, .int y341, .int (y24 &&& (7:Int32)), .ref 10], (H1 s r339.2 v.2.2))) rfl hy342 ?_
   refine zS Ad W 4 (st' := (88, [vR 0, vR 1, vR 10, vI v.1, vI (y24 &&& (7:Int32)), vI r339.1], [.int (v.1 + (3:Int32)), .ref 0, .int y342, .int y341, .int (y24 &&& (7:Int32)), .ref 10], (H1 s r339.2 v.2.2))) rfl ?_
   obtain ⟨y343, hy343, h⟩ := bind_eq_some_iff.mp h
   refine zB Ad W (f := fun y343 => (89, [vR 0, vR 1, vR 10, vI v.1, vI (y24 &&& (7:Int32)), vI r339.1], [.int y343, .int y342, .int y341, .int (y24 &&& (7:Int32)), .ref 10], (H1 s r339.2 v.2.2))) rfl hy343 ?_
   refine zS Ad W 4 (st' := (93, [vR 0, vR 1, vR 10, vI v.1, vI (y24 &&& (7:Int32)), vI r339.1], [.int (v.1 + (4:Int32)), .ref 0, .int y343, .int y342, .int y341, .int (y24 &&& (7:Int32)), .ref 10], (H1 s r339.2 v.2.2))) rfl ?_
   obtain ⟨y344, hy344, h⟩ := bind_eq_some_iff.mp h
   refine zB Ad W (f := fun y344 => (94, [vR 0, vR 1, vR 10, vI v.1, vI (y24 &&& (7:Int32)), vI r339.1], [.int y344, .int y343, .int y342, .int y341, .int (y24 &&& (7:Int32)), .ref 10], (H1 s r339.2 v.2.2))) rfl hy344 ?_
   obtain ⟨r655, hr655, h⟩ := bind_eq_some_iff.mp h
   refine QTri.callS W (as := [.ref 10, .int (y24 &&& (7:Int32)), .int y341, .int y342, .int y343, .int y344]) (rest := []) (w := (some (.int r655.1))) (σ₁ := (H1 s r339.2 r655.2)) rfl rfl rfl rfl rfl rfl rfl (tF3a1 Ad W s r339.2 v.2.2 (y24 &&& (7:Int32)) y341 y342 y343 y344 hr655) ?_
   refine zS Ad W 1 (st' := (98, [vR 0, vR 1, vR 10, vI v.1, vI (y24 &&& (7:Int32)), vI r339.1], [], (H1 s r339.2 r655.2))) rfl ?_
   exact zM [tt,tt,tt,tt,ff,ff] (tJ0_98 Ad W s r339.2 r655.2 v.1 h hx0 hc)
/-- rowCount()I -/
def F9 (o : Ob) : Option (Int32) :=
 some (f_rows o)
theorem tF9 (Ad : QAd n0 ad) (W : QW Z a0) (s : List Int32) (e0 : Ob) (o : Ob) {r : Int32} (h : F9 o = some r) : QTri l Z n0 ad 9 (0, qentry [.ref 1] (pMaxL 9), [], (H1 s o e0)) (some (Value.int r)) (H1 s o e0) := by
 unfold F9 at h
 refine zS Ad W 2 (st' := (4, [vR 1], [.int (f_rows o)], (H1 s o e0))) rfl ?_
 obtain rfl := Option.some.inj h
 exact QTri.retI rfl rfl
theorem tF9a1 (Ad : QAd n0 ad) (W : QW Z a0) (s : List Int32) (e0 : Ob) (o : Ob) {r : Int32} (h : F9 o = some r) : QTri l Z n0 ad 9 (0, qentry [.ref 10] (pMaxL 9), [], (H1 s e0 o)) (some (Value.int r)) (H1 s e0 o) := by
 unfold F9 at h
 refine zS Ad W 2 (st' := (4, [vR 10], [.int (f_rows o)], (H1 s e0 o))) rfl ?_
 obtain rfl := Option.some.inj h
 exact QTri.retI rfl rfl
/-- isComputed()Z -/
def F10 (o : Ob) : Option (Int32) :=
 some ((f_computed o) &&& 1)
theorem tF10 (Ad : QAd n0 ad) (W : QW Z a0) (s : List Int32) (e0 : Ob) (o : Ob) {r : Int32} (h : F10 o = some r) : QTri l Z n0 ad 10 (0, qentry [.ref 1] (pMaxL 10), [], (H1 s o e0)) (some (Value.int r)) (H1 s o e0) := by
 unfold F10 at h
 refine zS Ad W 2 (st' := (4, [vR 1], [.int (f_computed o)], (H1 s o e0))) rfl ?_
 obtain rfl := Option.some.inj h
 exact QTri.retZ rfl rfl
theorem tF10a1 (Ad : QAd n0 ad) (W : QW Z a0) (s : List Int32) (e0 : Ob) (o : Ob) {r : Int32} (h : F10 o = some r) : QTri l Z n0 ad 10 (0, qentry [.ref 10] (pMaxL 10), [], (H1 s e0 o)) (some (Value.int r)) (H1 s e0 o) := by
 unfold F10 at h
 refine zS Ad W 2 (st' := (4, [vR 10], [.int (f_computed o)], (H1 s e0 o))) rfl ?_
 obtain rfl := Option.some.inj h
 exact QTri.retZ rfl rfl
/-- getSpec(I)I -/
def F11 (o : Ob) (x1 : Int32) : Option (Int32) :=
 (if x1 = (0:Int32) then some (f_direction o) else (if x1 = (1:Int32) then some (f_nulls o) else (if x1 = (2:Int32) then some (f_mode o) else (if x1 = (3:Int32) then some (f_startKind o) else (if x1 = (4:Int32) then some (f_startOff o) else (if x1 = (5:Int32) then some (f_endKind o) else (if x1 = (6:Int32) then some (f_endOff o) else (if x1 = (7:Int32) then some (f_fn o) else (if x1 = (8:Int32) then some (f_fnArg o) else (if x1 = (9:Int32) then some (f_cap o) else some (-1:Int32)))))))))))
theorem tF11 (Ad : QAd n0 ad) (W : QW Z a0) (s : List Int32) (e0 : Ob) (o : Ob) (x1 : Int32) {r : Int32} (h : F11 o x1 = some r) : QTri l Z n0 ad 11 (0, qentry [.ref 1, .int x1] (pMaxL 11), [], (H1 s o e0)) (some (Value.int r)) (H1 s o e0) := by
 unfold F11 at h
 refine zS Ad W 1 (st' := (1, [vR 1, vI x1], [.int x1], (H1 s o e0))) rfl ?_
 rcases qite h with ⟨hc665, h⟩ | ⟨hc665, h⟩
 ·refine zF Ad W (t := 9) (f := 4) rfl (XT.i0_ne_f hc665) ?_
  refine zS Ad W 2 (st' := (8, [vR 1, vI x1], [.int (f_direction o)], (H1 s o e0))) rfl ?_
  obtain rfl := Option.some.inj h
  exact QTri.retI rfl rfl
 ·refine zT Ad W (t := 9) (f := 4) rfl (XT.i0_ne_t hc665) ?_
  refine zS Ad W 2 (st' := (11, [vR 1, vI x1], [.int (1:Int32), .int x1], (H1 s o e0))) rfl ?_
  rcases qite h with ⟨hc666, h⟩ | ⟨hc666, h⟩
  ·refine zF Ad W (t := 19) (f := 14) rfl (XT.ii_ne_f hc666) ?_
   refine zS Ad W 2 (st' := (18, [vR 1, vI x1], [.int (f_nulls o)], (H1 s o e0))) rfl ?_
   obtain rfl := Option.some.inj h
   exact QTri.retI rfl rfl
  ·refine zT Ad W (t := 19) (f := 14) rfl (XT.ii_ne_t hc666) ?_
   refine zS Ad W 2 (st' := (21, [vR 1, vI x1], [.int (2:Int32), .int x1], (H1 s o e0))) rfl ?_
   rcases qite h with ⟨hc667, h⟩ | ⟨hc667, h⟩
   ·refine zF Ad W (t := 29) (f := 24) rfl (XT.ii_ne_f hc667) ?_
    refine zS Ad W 2 (st' := (28, [vR 1, vI x1], [.int (f_mode o)], (H1 s o e0))) rfl ?_
    obtain rfl := Option.some.inj h
    exact QTri.retI rfl rfl
   ·refine zT Ad W (t := 29) (f := 24) rfl (XT.ii_ne_t hc667) ?_
    refine zS Ad W 2 (st' := (31, [vR 1, vI x1], [.int (3:Int32), .int x1], (H1 s o e0))) rfl ?_
    rcases qite h with ⟨hc668, h⟩ | ⟨hc668, h⟩
    ·refine zF Ad W (t := 39) (f := 34) rfl (XT.ii_ne_f hc668) ?_
     refine zS Ad W 2 (st' := (38, [vR 1, vI x1], [.int (f_startKind o)], (H1 s o e0))) rfl ?_
     obtain rfl := Option.some.inj h
     exact QTri.retI rfl rfl
    ·refine zT Ad W (t := 39) (f := 34) rfl (XT.ii_ne_t hc668) ?_
     refine zS Ad W 2 (st' := (41, [vR 1, vI x1], [.int (4:Int32), .int x1], (H1 s o e0))) rfl ?_
     rcases qite h with ⟨hc669, h⟩ | ⟨hc669, h⟩
     ·refine zF Ad W (t := 49) (f := 44) rfl (XT.ii_ne_f hc669) ?_
      refine zS Ad W 2 (st' := (48, [vR 1, vI x1], [.int (f_startOff o)], (H1 s o e0))) rfl ?_
      obtain rfl := Option.some.inj h
      exact QTri.retI rfl rfl
     ·refine zT Ad W (t := 49) (f := 44) rfl (XT.ii_ne_t hc669) ?_
      refine zS Ad W 2 (st' := (51, [vR 1, vI x1], [.int (5:Int32), .int x1], (H1 s o e0))) rfl ?_
      rcases qite h with ⟨hc670, h⟩ | ⟨hc670, h⟩
      ·refine zF Ad W (t := 59) (f := 54) rfl (XT.ii_ne_f hc670) ?_
       refine zS Ad W 2 (st' := (58, [vR 1, vI x1], [.int (f_endKind o)], (H1 s o e0))) rfl ?_
       obtain rfl := Option.some.inj h
       exact QTri.retI rfl rfl
      ·refine zT Ad W (t := 59) (f := 54) rfl (XT.ii_ne_t hc670) ?_
       refine zS Ad W 2 (st' := (62, [vR 1, vI x1], [.int (6:Int32), .int x1], (H1 s o e0))) rfl ?_
       rcases qite h with ⟨hc671, h⟩ | ⟨hc671, h⟩
       ·refine zF Ad W (t := 70) (f := 65) rfl (XT.ii_ne_f hc671) ?_
        refine zS Ad W 2 (st' := (69, [vR 1, vI x1], [.int (f_endOff o)], (H1 s o e0))) rfl ?_
        obtain rfl := Option.some.inj h
        exact QTri.retI rfl rfl
       ·refine zT Ad W (t := 70) (f := 65) rfl (XT.ii_ne_t hc671) ?_
        refine zS Ad W 2 (st' := (73, [vR 1, vI x1], [.int (7:Int32), .int x1], (H1 s o e0))) rfl ?_
        rcases qite h with ⟨hc672, h⟩ | ⟨hc672, h⟩
        ·refine zF Ad W (t := 81) (f := 76) rfl (XT.ii_ne_f hc672) ?_
         refine zS Ad W 2 (st' := (80, [vR 1, vI x1], [.int (f_fn o)], (H1 s o e0))) rfl ?_
         obtain rfl := Option.some.inj h
         exact QTri.retI rfl rfl
        ·refine zT Ad W (t := 81) (f := 76) rfl (XT.ii_ne_t hc672) ?_
         refine zS Ad W 2 (st' := (84, [vR 1, vI x1], [.int (8:Int32), .int x1], (H1 s o e0))) rfl ?_
         rcases qite h with ⟨hc673, h⟩ | ⟨hc673, h⟩
         ·refine zF Ad W (t := 92) (f := 87) rfl (XT.ii_ne_f hc673) ?_
          refine zS Ad W 2 (st' := (91, [vR 1, vI x1], [.int (f_fnArg o)], (H1 s o e0))) rfl ?_
          obtain rfl := Option.some.inj h
          exact QTri.retI rfl rfl
         ·refine zT Ad W (t := 92) (f := 87) rfl (XT.ii_ne_t hc673) ?_
          refine zS Ad W 2 (st' := (95, [vR 1, vI x1], [.int (9:Int32), .int x1], (H1 s o e0))) rfl ?_
          rcases qite h with ⟨hc674, h⟩ | ⟨hc674, h⟩
          ·refine zF Ad W (t := 103) (f := 98) rfl (XT.ii_ne_f hc674) ?_
           refine zS Ad W 2 (st' := (102, [vR 1, vI x1], [.int (f_cap o)], (H1 s o e0))) rfl ?_
           obtain rfl := Option.some.inj h
           exact QTri.retI rfl rfl
          ·refine zT Ad W (t := 103) (f := 98) rfl (XT.ii_ne_t hc674) ?_
           refine zS Ad W 1 (st' := (104, [vR 1, vI x1], [.int (-1:Int32)], (H1 s o e0))) rfl ?_
           obtain rfl := Option.some.inj h
           exact QTri.retI rfl rfl
theorem tF11a1 (Ad : QAd n0 ad) (W : QW Z a0) (s : List Int32) (e0 : Ob) (o : Ob) (x1 : Int32) {r : Int32} (h : F11 o x1 = some r) : QTri l Z n0 ad 11 (0, qentry [.ref 10, .int x1] (pMaxL 11), [], (H1 s e0 o)) (some (Value.int r)) (H1 s e0 o) := by
 unfold F11 at h
 refine zS Ad W 1 (st' := (1, [vR 10, vI x1], [.int x1], (H1 s e0 o))) rfl ?_
 rcases qite h with ⟨hc676, h⟩ | ⟨hc676, h⟩
 ·refine zF Ad W (t := 9) (f := 4) rfl (XT.i0_ne_f hc676) ?_
  refine zS Ad W 2 (st' := (8, [vR 10, vI x1], [.int (f_direction o)], (H1 s e0 o))) rfl ?_
  obtain rfl := Option.some.inj h
  exact QTri.retI rfl rfl
 ·refine zT Ad W (t := 9) (f := 4) rfl (XT.i0_ne_t hc676) ?_
  refine zS Ad W 2 (st' := (11, [vR 10, vI x1], [.int (1:Int32), .int x1], (H1 s e0 o))) rfl ?_
  rcases qite h with ⟨hc677, h⟩ | ⟨hc677, h⟩
  ·refine zF Ad W (t := 19) (f := 14) rfl (XT.ii_ne_f hc677) ?_
   refine zS Ad W 2 (st' := (18, [vR 10, vI x1], [.int (f_nulls o)], (H1 s e0 o))) rfl ?_
   obtain rfl := Option.some.inj h
   exact QTri.retI rfl rfl
  ·refine zT Ad W (t := 19) (f := 14) rfl (XT.ii_ne_t hc677) ?_
   refine zS Ad W 2 (st' := (21, [vR 10, vI x1], [.int (2:Int32), .int x1], (H1 s e0 o))) rfl ?_
   rcases qite h with ⟨hc678, h⟩ | ⟨hc678, h⟩
   ·refine zF Ad W (t := 29) (f := 24) rfl (XT.ii_ne_f hc678) ?_
    refine zS Ad W 2 (st' := (28, [vR 10, vI x1], [.int (f_mode o)], (H1 s e0 o))) rfl ?_
    obtain rfl := Option.some.inj h
    exact QTri.retI rfl rfl
   ·refine zT Ad W (t := 29) (f := 24) rfl (XT.ii_ne_t hc678) ?_
    refine zS Ad W 2 (st' := (31, [vR 10, vI x1], [.int (3:Int32), .int x1], (H1 s e0 o))) rfl ?_
    rcases qite h with ⟨hc679, h⟩ | ⟨hc679, h⟩
    ·refine zF Ad W (t := 39) (f := 34) rfl (XT.ii_ne_f hc679) ?_
     refine zS Ad W 2 (st' := (38, [vR 10, vI x1], [.int (f_startKind o)], (H1 s e0 o))) rfl ?_
     obtain rfl := Option.some.inj h
     exact QTri.retI rfl rfl
    ·refine zT Ad W (t := 39) (f := 34) rfl (XT.ii_ne_t hc679) ?_
     refine zS Ad W 2 (st' := (41, [vR 10, vI x1], [.int (4:Int32), .int x1], (H1 s e0 o))) rfl ?_
     rcases qite h with ⟨hc680, h⟩ | ⟨hc680, h⟩
     ·refine zF Ad W (t := 49) (f := 44) rfl (XT.ii_ne_f hc680) ?_
      refine zS Ad W 2 (st' := (48, [vR 10, vI x1], [.int (f_startOff o)], (H1 s e0 o))) rfl ?_
      obtain rfl := Option.some.inj h
      exact QTri.retI rfl rfl
     ·refine zT Ad W (t := 49) (f := 44) rfl (XT.ii_ne_t hc680) ?_
      refine zS Ad W 2 (st' := (51, [vR 10, vI x1], [.int (5:Int32), .int x1], (H1 s e0 o))) rfl ?_
      rcases qite h with ⟨hc681, h⟩ | ⟨hc681, h⟩
      ·refine zF Ad W (t := 59) (f := 54) rfl (XT.ii_ne_f hc681) ?_
       refine zS Ad W 2 (st' := (58, [vR 10, vI x1], [.int (f_endKind o)], (H1 s e0 o))) rfl ?_
       obtain rfl := Option.some.inj h
       exact QTri.retI rfl rfl
      ·refine zT Ad W (t := 59) (f := 54) rfl (XT.ii_ne_t hc681) ?_
       refine zS Ad W 2 (st' := (62, [vR 10, vI x1], [.int (6:Int32), .int x1], (H1 s e0 o))) rfl ?_
       rcases qite h with ⟨hc682, h⟩ | ⟨hc682, h⟩
       ·refine zF Ad W (t := 70) (f := 65) rfl (XT.ii_ne_f hc682) ?_
        refine zS Ad W 2 (st' := (69, [vR 10, vI x1], [.int (f_endOff o)], (H1 s e0 o))) rfl ?_
        obtain rfl := Option.some.inj h
        exact QTri.retI rfl rfl
       ·refine zT Ad W (t := 70) (f := 65) rfl (XT.ii_ne_t hc682) ?_
        refine zS Ad W 2 (st' := (73, [vR 10, vI x1], [.int (7:Int32), .int x1], (H1 s e0 o))) rfl ?_
        rcases qite h with ⟨hc683, h⟩ | ⟨hc683, h⟩
        ·refine zF Ad W (t := 81) (f := 76) rfl (XT.ii_ne_f hc683) ?_
         refine zS Ad W 2 (st' := (80, [vR 10, vI x1], [.int (f_fn o)], (H1 s e0 o))) rfl ?_
         obtain rfl := Option.some.inj h
         exact QTri.retI rfl rfl
        ·refine zT Ad W (t := 81) (f := 76) rfl (XT.ii_ne_t hc683) ?_
         refine zS Ad W 2 (st' := (84, [vR 10, vI x1], [.int (8:Int32), .int x1], (H1 s e0 o))) rfl ?_
         rcases qite h with ⟨hc684, h⟩ | ⟨hc684, h⟩
         ·refine zF Ad W (t := 92) (f := 87) rfl (XT.ii_ne_f hc684) ?_
          refine zS Ad W 2 (st' := (91, [vR 10, vI x1], [.int (f_fnArg o)], (H1 s e0 o))) rfl ?_
          obtain rfl := Option.some.inj h
          exact QTri.retI rfl rfl
         ·refine zT Ad W (t := 92) (f := 87) rfl (XT.ii_ne_t hc684) ?_
          refine zS Ad W 2 (st' := (95, [vR 10, vI x1], [.int (9:Int32), .int x1], (H1 s e0 o))) rfl ?_
          rcases qite h with ⟨hc685, h⟩ | ⟨hc685, h⟩
          ·refine zF Ad W (t := 103) (f := 98) rfl (XT.ii_ne_f hc685) ?_
           refine zS Ad W 2 (st' := (102, [vR 10, vI x1], [.int (f_cap o)], (H1 s e0 o))) rfl ?_
           obtain rfl := Option.some.inj h
           exact QTri.retI rfl rfl
          ·refine zT Ad W (t := 103) (f := 98) rfl (XT.ii_ne_t hc685) ?_
           refine zS Ad W 1 (st' := (104, [vR 10, vI x1], [.int (-1:Int32)], (H1 s e0 o))) rfl ?_
           obtain rfl := Option.some.inj h
           exact QTri.retI rfl rfl
def B8_28 (o1 : Ob) (o2 : Ob) (v : Int32) : Option (((Unit) ⊕ (Int32)) ⊕ (Int32)) :=
  (if v < (10 : Int32) then (F11 o1 v).bind fun r675 => (F11 o2 v).bind fun r686 => (if r675 = r686 then some (.inr (v + (1 : Int32))) else some (.inl (Sum.inr (0 : Int32)))) else some (.inl (Sum.inl ())))
theorem tB8_28 (Ad : QAd n0 ad) (W : QW Z a0) (s : List Int32) (o1 : Ob) (o2 : Ob) (v : Int32) {r : ((Unit) ⊕ (Int32)) ⊕ (Int32)} {u : Option Value} {τ : QHeap} (h : B8_28 o1 o2 v = some r) (hx0 : ∀ x : Unit, r = .inl (Sum.inl x) → QTri l Z n0 ad 8 (55, [vR 1, vR 10, none, none], [], (H1 s o1 o2)) u τ) (hx1 : ∀ x : Int32, r = .inl (Sum.inr x) → u = (some (Value.int x)) ∧ τ = (H1 s o1 o2)) (hc : ∀ x : Int32, r = .inr x → QTri l Z n0 ad 8 (28, [vR 1, vR 10, vI x, none], [], (H1 s o1 o2)) u τ) : QTri l Z n0 ad 8 (28, [vR 1, vR 10, vI v, none], [], (H1 s o1 o2)) u τ := by
 unfold B8_28 at h
 refine zS Ad W 2 (st' := (31, [vR 1, vR 10, vI v, none], [.int (10:Int32), .int v], (H1 s o1 o2))) rfl ?_
 rcases qite h with ⟨hc664, h⟩ | ⟨hc664, h⟩
 ·refine zF Ad W (t := 55) (f := 34) rfl (XT.ii_ge_f hc664) ?_
  refine zS Ad W 2 (st' := (36, [vR 1, vR 10, vI v, none], [.int v, .ref 1], (H1 s o1 o2))) rfl ?_
  obtain ⟨r675, hr675, h⟩ := bind_eq_some_iff.mp h
  refine QTri.callV W (a := 1) (as := [.int v]) (rest := []) (w := (some (.int r675))) (σ₁ := (H1 s o1 o2)) rfl rfl rfl rfl rfl rfl rfl rfl (tF11 Ad W s o2 o1 v hr675) ?_
  refine zS Ad W 2 (st' := (41, [vR 1, vR 10, vI v, none], [.int v, .ref 10, .int r675], (H1 s o1 o2))) rfl ?_
  obtain ⟨r686, hr686, h⟩ := bind_eq_some_iff.mp h
  refine QTri.callV W (a := 10) (as := [.int v]) (rest := [.int r675]) (w := (some (.int r686))) (σ₁ := (H1 s o1 o2)) rfl rfl rfl rfl rfl rfl rfl rfl (tF11a1 Ad W s o1 o2 v hr686) ?_
  rcases qite h with ⟨hc687, h⟩ | ⟨hc687, h⟩
  ·refine zT Ad W (t := 49) (f := 47) rfl (XT.ii_eq_t hc687) ?_
   refine zS Ad W 2 (st' := (28, [vR 1, vR 10, vI (v + (1:Int32)), none], [], (H1 s o1 o2))) rfl ?_
   obtain rfl := Option.some.inj h
   exact zM [tt,tt,tt,ff] (hc (v + (1:Int32)) rfl)
  ·refine zF Ad W (t := 49) (f := 47) rfl (XT.ii_eq_f hc687) ?_
   refine zS Ad W 1 (st' := (48, [vR 1, vR 10, vI v, none], [.int (0:Int32)], (H1 s o1 o2))) rfl ?_
   obtain rfl := Option.some.inj h
   obtain ⟨rfl, rfl⟩ := hx1 (0:Int32) rfl
   exact QTri.retZ rfl rfl
 ·refine zT Ad W (t := 55) (f := 34) rfl (XT.ii_ge_t hc664) ?_
  obtain rfl := Option.some.inj h
  exact zM [tt,tt,ff,ff] (hx0 () rfl)
/-- getRowField(II)I -/
def F12 (o : Ob) (x1 : Int32) (x2 : Int32) : Option (Int32) :=
 (if x1 < (0:Int32) then some (0:Int32) else (if x1 < (f_rows o) then (if x2 = (0:Int32) then (aget (f_part o) x1).bind fun y695 => some y695 else (if x2 = (1:Int32) then (aget (f_keys o) x1).bind fun y697 => some y697 else (if x2 = (2:Int32) then (aget (f_vals o) x1).bind fun y699 => some y699 else (if x2 = (3:Int32) then (aget (f_flg o) x1).bind fun y701 => some y701 else some (0:Int32))))) else some (0:Int32)))
theorem tF12 (Ad : QAd n0 ad) (W : QW Z a0) (s : List Int32) (e0 : Ob) (o : Ob) (x1 : Int32) (x2 : Int32) {r : Int32} (h : F12 o x1 x2 = some r) : QTri l Z n0 ad 12 (0, qentry [.ref 1, .int x1, .int x2] (pMaxL 12), [], (H1 s o e0)) (some (Value.int r)) (H1 s o e0) := by
 unfold F12 at h
 refine zS Ad W 1 (st' := (1, [vR 1, vI x1, vI x2], [.int x1], (H1 s o e0))) rfl ?_
 rcases qite h with ⟨hc692, h⟩ | ⟨hc692, h⟩
 ·refine zT Ad W (t := 12) (f := 4) rfl (XT.i0_lt_t hc692) ?_
  refine zS Ad W 1 (st' := (13, [vR 1, vI x1, vI x2], [.int (0:Int32)], (H1 s o e0))) rfl ?_
  obtain rfl := Option.some.inj h
  exact QTri.retI rfl rfl
 ·refine zF Ad W (t := 12) (f := 4) rfl (XT.i0_lt_f hc692) ?_
  refine zS Ad W 3 (st' := (9, [vR 1, vI x1, vI x2], [.int (f_rows o), .int x1], (H1 s o e0))) rfl ?_
  rcases qite h with ⟨hc693, h⟩ | ⟨hc693, h⟩
  ·refine zT Ad W (t := 14) (f := 12) rfl (XT.ii_lt_t hc693) ?_
   refine zS Ad W 1 (st' := (15, [vR 1, vI x1, vI x2], [.int x2], (H1 s o e0))) rfl ?_
   rcases qite h with ⟨hc694, h⟩ | ⟨hc694, h⟩
   ·refine zF Ad W (t := 25) (f := 18) rfl (XT.i0_ne_f hc694) ?_
    refine zS Ad W 3 (st' := (23, [vR 1, vI x1, vI x2], [.int x1, .ref 2], (H1 s o e0))) rfl ?_
    obtain ⟨y695, hy695, h⟩ := bind_eq_some_iff.mp h
    refine zB Ad W (f := fun y695 => (24, [vR 1, vI x1, vI x2], [.int y695], (H1 s o e0))) rfl hy695 ?_
    obtain rfl := Option.some.inj h
    exact QTri.retI rfl rfl
   ·refine zT Ad W (t := 25) (f := 18) rfl (XT.i0_ne_t hc694) ?_
    refine zS Ad W 2 (st' := (27, [vR 1, vI x1, vI x2], [.int (1:Int32), .int x2], (H1 s o e0))) rfl ?_
    rcases qite h with ⟨hc696, h⟩ | ⟨hc696, h⟩
    ·refine zF Ad W (t := 37) (f := 30) rfl (XT.ii_ne_f hc696) ?_
     refine zS Ad W 3 (st' := (35, [vR 1, vI x1, vI x2], [.int x1, .ref 3], (H1 s o e0))) rfl ?_
     obtain ⟨y697, hy697, h⟩ := bind_eq_some_iff.mp h
     refine zB Ad W (f := fun y697 => (36, [vR 1, vI x1, vI x2], [.int y697], (H1 s o e0))) rfl hy697 ?_
     obtain rfl := Option.some.inj h
     exact QTri.retI rfl rfl
    ·refine zT Ad W (t := 37) (f := 30) rfl (XT.ii_ne_t hc696) ?_
     refine zS Ad W 2 (st' := (39, [vR 1, vI x1, vI x2], [.int (2:Int32), .int x2], (H1 s o e0))) rfl ?_
     rcases qite h with ⟨hc698, h⟩ | ⟨hc698, h⟩
     ·refine zF Ad W (t := 49) (f := 42) rfl (XT.ii_ne_f hc698) ?_
      refine zS Ad W 3 (st' := (47, [vR 1, vI x1, vI x2], [.int x1, .ref 4], (H1 s o e0))) rfl ?_
      obtain ⟨y699, hy699, h⟩ := bind_eq_some_iff.mp h
      refine zB Ad W (f := fun y699 => (48, [vR 1, vI x1, vI x2], [.int y699], (H1 s o e0))) rfl hy699 ?_
      obtain rfl := Option.some.inj h
      exact QTri.retI rfl rfl
     ·refine zT Ad W (t := 49) (f := 42) rfl (XT.ii_ne_t hc698) ?_
      refine zS Ad W 2 (st' := (51, [vR 1, vI x1, vI x2], [.int (3:Int32), .int x2], (H1 s o e0))) rfl ?_
      rcases qite h with ⟨hc700, h⟩ | ⟨hc700, h⟩
      ·refine zF Ad W (t := 61) (f := 54) rfl (XT.ii_ne_f hc700) ?_
       refine zS Ad W 3 (st' := (59, [vR 1, vI x1, vI x2], [.int x1, .ref 5], (H1 s o e0))) rfl ?_
       obtain ⟨y701, hy701, h⟩ := bind_eq_some_iff.mp h
       refine zB Ad W (f := fun y701 => (60, [vR 1, vI x1, vI x2], [.int y701], (H1 s o e0))) rfl hy701 ?_
       obtain rfl := Option.some.inj h
       exact QTri.retI rfl rfl
      ·refine zT Ad W (t := 61) (f := 54) rfl (XT.ii_ne_t hc700) ?_
       refine zS Ad W 1 (st' := (62, [vR 1, vI x1, vI x2], [.int (0:Int32)], (H1 s o e0))) rfl ?_
       obtain rfl := Option.some.inj h
       exact QTri.retI rfl rfl
  ·refine zF Ad W (t := 14) (f := 12) rfl (XT.ii_lt_f hc693) ?_
   refine zS Ad W 1 (st' := (13, [vR 1, vI x1, vI x2], [.int (0:Int32)], (H1 s o e0))) rfl ?_
   obtain rfl := Option.some.inj h
   exact QTri.retI rfl rfl
theorem tF12a1 (Ad : QAd n0 ad) (W : QW Z a0) (s : List Int32) (e0 : Ob) (o : Ob) (x1 : Int32) (x2 : Int32) {r : Int32} (h : F12 o x1 x2 = some r) : QTri l Z n0 ad 12 (0, qentry [.ref 10, .int x1, .int x2] (pMaxL 12), [], (H1 s e0 o)) (some (Value.int r)) (H1 s e0 o) := by
 unfold F12 at h
 refine zS Ad W 1 (st' := (1, [vR 10, vI x1, vI x2], [.int x1], (H1 s e0 o))) rfl ?_
 rcases qite h with ⟨hc703, h⟩ | ⟨hc703, h⟩
 ·refine zT Ad W (t := 12) (f := 4) rfl (XT.i0_lt_t hc703) ?_
  refine zS Ad W 1 (st' := (13, [vR 10, vI x1, vI x2], [.int (0:Int32)], (H1 s e0 o))) rfl ?_
  obtain rfl := Option.some.inj h
  exact QTri.retI rfl rfl
 ·refine zF Ad W (t := 12) (f := 4) rfl (XT.i0_lt_f hc703) ?_
  refine zS Ad W 3 (st' := (9, [vR 10, vI x1, vI x2], [.int (f_rows o), .int x1], (H1 s e0 o))) rfl ?_
  rcases qite h with ⟨hc704, h⟩ | ⟨hc704, h⟩
  ·refine zT Ad W (t := 14) (f := 12) rfl (XT.ii_lt_t hc704) ?_
   refine zS Ad W 1 (st' := (15, [vR 10, vI x1, vI x2], [.int x2], (H1 s e0 o))) rfl ?_
   rcases qite h with ⟨hc705, h⟩ | ⟨hc705, h⟩
   ·refine zF Ad W (t := 25) (f := 18) rfl (XT.i0_ne_f hc705) ?_
    refine zS Ad W 3 (st' := (23, [vR 10, vI x1, vI x2], [.int x1, .ref 11], (H1 s e0 o))) rfl ?_
    obtain ⟨y706, hy706, h⟩ := bind_eq_some_iff.mp h
    refine zB Ad W (f := fun y706 => (24, [vR 10, vI x1, vI x2], [.int y706], (H1 s e0 o))) rfl hy706 ?_
    obtain rfl := Option.some.inj h
    exact QTri.retI rfl rfl
   ·refine zT Ad W (t := 25) (f := 18) rfl (XT.i0_ne_t hc705) ?_
    refine zS Ad W 2 (st' := (27, [vR 10, vI x1, vI x2], [.int (1:Int32), .int x2], (H1 s e0 o))) rfl ?_
    rcases qite h with ⟨hc707, h⟩ | ⟨hc707, h⟩
    ·refine zF Ad W (t := 37) (f := 30) rfl (XT.ii_ne_f hc707) ?_
     refine zS Ad W 3 (st' := (35, [vR 10, vI x1, vI x2], [.int x1, .ref 12], (H1 s e0 o))) rfl ?_
     obtain ⟨y708, hy708, h⟩ := bind_eq_some_iff.mp h
     refine zB Ad W (f := fun y708 => (36, [vR 10, vI x1, vI x2], [.int y708], (H1 s e0 o))) rfl hy708 ?_
     obtain rfl := Option.some.inj h
     exact QTri.retI rfl rfl
    ·refine zT Ad W (t := 37) (f := 30) rfl (XT.ii_ne_t hc707) ?_
     refine zS Ad W 2 (st' := (39, [vR 10, vI x1, vI x2], [.int (2:Int32), .int x2], (H1 s e0 o))) rfl ?_
     rcases qite h with ⟨hc709, h⟩ | ⟨hc709, h⟩
     ·refine zF Ad W (t := 49) (f := 42) rfl (XT.ii_ne_f hc709) ?_
      refine zS Ad W 3 (st' := (47, [vR 10, vI x1, vI x2], [.int x1, .ref 13], (H1 s e0 o))) rfl ?_
      obtain ⟨y710, hy710, h⟩ := bind_eq_some_iff.mp h
      refine zB Ad W (f := fun y710 => (48, [vR 10, vI x1, vI x2], [.int y710], (H1 s e0 o))) rfl hy710 ?_
      obtain rfl := Option.some.inj h
      exact QTri.retI rfl rfl
     ·refine zT Ad W (t := 49) (f := 42) rfl (XT.ii_ne_t hc709) ?_
      refine zS Ad W 2 (st' := (51, [vR 10, vI x1, vI x2], [.int (3:Int32), .int x2], (H1 s e0 o))) rfl ?_
      rcases qite h with ⟨hc711, h⟩ | ⟨hc711, h⟩
      ·refine zF Ad W (t := 61) (f := 54) rfl (XT.ii_ne_f hc711) ?_
       refine zS Ad W 3 (st' := (59, [vR 10, vI x1, vI x2], [.int x1, .ref 14], (H1 s e0 o))) rfl ?_
       obtain ⟨y712, hy712, h⟩ := bind_eq_some_iff.mp h
       refine zB Ad W (f := fun y712 => (60, [vR 10, vI x1, vI x2], [.int y712], (H1 s e0 o))) rfl hy712 ?_
       obtain rfl := Option.some.inj h
       exact QTri.retI rfl rfl
      ·refine zT Ad W (t := 61) (f := 54) rfl (XT.ii_ne_t hc711) ?_
       refine zS Ad W 1 (st' := (62, [vR 10, vI x1, vI x2], [.int (0:Int32)], (H1 s e0 o))) rfl ?_
       obtain rfl := Option.some.inj h
       exact QTri.retI rfl rfl
  ·refine zF Ad W (t := 14) (f := 12) rfl (XT.ii_lt_f hc704) ?_
   refine zS Ad W 1 (st' := (13, [vR 10, vI x1, vI x2], [.int (0:Int32)], (H1 s e0 o))) rfl ?_
   obtain rfl := Option.some.inj h
   exact QTri.retI rfl rfl
def B8_65 (o1 : Ob) (o2 : Ob) (x2 : Int32) (v : Int32) : Option (((Unit) ⊕ (Int32)) ⊕ (Int32)) :=
  (if v < (4 : Int32) then (F12 o1 x2 v).bind fun r702 => (F12 o2 x2 v).bind fun r713 => (if r702 = r713 then some (.inr (v + (1 : Int32))) else some (.inl (Sum.inr (0 : Int32)))) else some (.inl (Sum.inl ())))
theorem tB8_65 (Ad : QAd n0 ad) (W : QW Z a0) (s : List Int32) (o1 : Ob) (o2 : Ob) (x2 : Int32) (v : Int32) {r : ((Unit) ⊕ (Int32)) ⊕ (Int32)} {u : Option Value} {τ : QHeap} (h : B8_65 o1 o2 x2 v = some r) (hx0 : ∀ x : Unit, r = .inl (Sum.inl x) → QTri l Z n0 ad 8 (93, [vR 1, vR 10, vI x2, none], [], (H1 s o1 o2)) u τ) (hx1 : ∀ x : Int32, r = .inl (Sum.inr x) → u = (some (Value.int x)) ∧ τ = (H1 s o1 o2)) (hc : ∀ x : Int32, r = .inr x → QTri l Z n0 ad 8 (65, [vR 1, vR 10, vI x2, vI x], [], (H1 s o1 o2)) u τ) : QTri l Z n0 ad 8 (65, [vR 1, vR 10, vI x2, vI v], [], (H1 s o1 o2)) u τ := by
 unfold B8_65 at h
 refine zS Ad W 2 (st' := (67, [vR 1, vR 10, vI x2, vI v], [.int (4:Int32), .int v], (H1 s o1 o2))) rfl ?_
 rcases qite h with ⟨hc691, h⟩ | ⟨hc691, h⟩
 ·refine zF Ad W (t := 93) (f := 70) rfl (XT.ii_ge_f hc691) ?_
  refine zS Ad W 3 (st' := (73, [vR 1, vR 10, vI x2, vI v], [.int v, .int x2, .ref 1], (H1 s o1 o2))) rfl ?_
  obtain ⟨r702, hr702, h⟩ := bind_eq_some_iff.mp h
  refine QTri.callV W (a := 1) (as := [.int x2, .int v]) (rest := []) (w := (some (.int r702))) (σ₁ := (H1 s o1 o2)) rfl rfl rfl rfl rfl rfl rfl rfl (tF12 Ad W s o2 o1 x2 v hr702) ?_
  refine zS Ad W 3 (st' := (79, [vR 1, vR 10, vI x2, vI v], [.int v, .int x2, .ref 10, .int r702], (H1 s o1 o2))) rfl ?_
  obtain ⟨r713, hr713, h⟩ := bind_eq_some_iff.mp h
  refine QTri.callV W (a := 10) (as := [.int x2, .int v]) (rest := [.int r702]) (w := (some (.int r713))) (σ₁ := (H1 s o1 o2)) rfl rfl rfl rfl rfl rfl rfl rfl (tF12a1 Ad W s o1 o2 x2 v hr713) ?_
  rcases qite h with ⟨hc714, h⟩ | ⟨hc714, h⟩
  ·refine zT Ad W (t := 87) (f := 85) rfl (XT.ii_eq_t hc714) ?_
   refine zS Ad W 2 (st' := (65, [vR 1, vR 10, vI x2, vI (v + (1:Int32))], [], (H1 s o1 o2))) rfl ?_
   obtain rfl := Option.some.inj h
   exact zM [tt,tt,tt,tt] (hc (v + (1:Int32)) rfl)
  ·refine zF Ad W (t := 87) (f := 85) rfl (XT.ii_eq_f hc714) ?_
   refine zS Ad W 1 (st' := (86, [vR 1, vR 10, vI x2, vI v], [.int (0:Int32)], (H1 s o1 o2))) rfl ?_
   obtain rfl := Option.some.inj h
   obtain ⟨rfl, rfl⟩ := hx1 (0:Int32) rfl
   exact QTri.retZ rfl rfl
 ·refine zT Ad W (t := 93) (f := 70) rfl (XT.ii_ge_t hc691) ?_
  obtain rfl := Option.some.inj h
  exact zM [tt,tt,tt,ff] (hx0 () rfl)
/-- getResult(I)J -/
def F13 (o : Ob) (x1 : Int32) : Option (Int64) :=
 (if (f_computed o) = (0:Int32) then some (0 : Int64) else (if x1 < (0:Int32) then some (0 : Int64) else (if x1 < (f_rows o) then (aget (f_resNull o) x1).bind fun y720 => (if y720 = (0:Int32) then (aget (f_res o) x1).bind fun y722 => some y722 else some (0 : Int64)) else some (0 : Int64))))
theorem tF13 (Ad : QAd n0 ad) (W : QW Z a0) (s : List Int32) (e0 : Ob) (o : Ob) (x1 : Int32) {r : Int64} (h : F13 o x1 = some r) : QTri l Z n0 ad 13 (0, qentry [.ref 1, .int x1] (pMaxL 13), [], (H1 s o e0)) (some (Value.long r)) (H1 s o e0) := by
 unfold F13 at h
 refine zS Ad W 2 (st' := (4, [vR 1, vI x1], [.int (f_computed o)], (H1 s o e0))) rfl ?_
 rcases qite h with ⟨hc717, h⟩ | ⟨hc717, h⟩
 ·refine zT Ad W (t := 19) (f := 7) rfl (XT.i0_eq_t hc717) ?_
  refine zS Ad W 1 (st' := (20, [vR 1, vI x1], [.long (0 : Int64)], (H1 s o e0))) rfl ?_
  obtain rfl := Option.some.inj h
  exact QTri.retJ rfl rfl
 ·refine zF Ad W (t := 19) (f := 7) rfl (XT.i0_eq_f hc717) ?_
  refine zS Ad W 1 (st' := (8, [vR 1, vI x1], [.int x1], (H1 s o e0))) rfl ?_
  rcases qite h with ⟨hc718, h⟩ | ⟨hc718, h⟩
  ·refine zT Ad W (t := 19) (f := 11) rfl (XT.i0_lt_t hc718) ?_
   refine zS Ad W 1 (st' := (20, [vR 1, vI x1], [.long (0 : Int64)], (H1 s o e0))) rfl ?_
   obtain rfl := Option.some.inj h
   exact QTri.retJ rfl rfl
  ·refine zF Ad W (t := 19) (f := 11) rfl (XT.i0_lt_f hc718) ?_
   refine zS Ad W 3 (st' := (16, [vR 1, vI x1], [.int (f_rows o), .int x1], (H1 s o e0))) rfl ?_
   rcases qite h with ⟨hc719, h⟩ | ⟨hc719, h⟩
   ·refine zT Ad W (t := 21) (f := 19) rfl (XT.ii_lt_t hc719) ?_
    refine zS Ad W 3 (st' := (26, [vR 1, vI x1], [.int x1, .ref 7], (H1 s o e0))) rfl ?_
    obtain ⟨y720, hy720, h⟩ := bind_eq_some_iff.mp h
    refine zB Ad W (f := fun y720 => (27, [vR 1, vI x1], [.int y720], (H1 s o e0))) rfl hy720 ?_
    rcases qite h with ⟨hc721, h⟩ | ⟨hc721, h⟩
    ·refine zT Ad W (t := 32) (f := 30) rfl (XT.i0_eq_t hc721) ?_
     refine zS Ad W 3 (st' := (37, [vR 1, vI x1], [.int x1, .ref 6], (H1 s o e0))) rfl ?_
     obtain ⟨y722, hy722, h⟩ := bind_eq_some_iff.mp h
     refine zB Ad W (f := fun y722 => (38, [vR 1, vI x1], [.long y722], (H1 s o e0))) rfl hy722 ?_
     obtain rfl := Option.some.inj h
     exact QTri.retJ rfl rfl
    ·refine zF Ad W (t := 32) (f := 30) rfl (XT.i0_eq_f hc721) ?_
     refine zS Ad W 1 (st' := (31, [vR 1, vI x1], [.long (0 : Int64)], (H1 s o e0))) rfl ?_
     obtain rfl := Option.some.inj h
     exact QTri.retJ rfl rfl
   ·refine zF Ad W (t := 21) (f := 19) rfl (XT.ii_lt_f hc719) ?_
    refine zS Ad W 1 (st' := (20, [vR 1, vI x1], [.long (0 : Int64)], (H1 s o e0))) rfl ?_
    obtain rfl := Option.some.inj h
    exact QTri.retJ rfl rfl
theorem tF13a1 (Ad : QAd n0 ad) (W : QW Z a0) (s : List Int32) (e0 : Ob) (o : Ob) (x1 : Int32) {r : Int64} (h : F13 o x1 = some r) : QTri l Z n0 ad 13 (0, qentry [.ref 10, .int x1] (pMaxL 13), [], (H1 s e0 o)) (some (Value.long r)) (H1 s e0 o) := by
 unfold F13 at h
 refine zS Ad W 2 (st' := (4, [vR 10, vI x1], [.int (f_computed o)], (H1 s e0 o))) rfl ?_
 rcases qite h with ⟨hc724, h⟩ | ⟨hc724, h⟩
 ·refine zT Ad W (t := 19) (f := 7) rfl (XT.i0_eq_t hc724) ?_
  refine zS Ad W 1 (st' := (20, [vR 10, vI x1], [.long (0 : Int64)], (H1 s e0 o))) rfl ?_
  obtain rfl := Option.some.inj h
  exact QTri.retJ rfl rfl
 ·refine zF Ad W (t := 19) (f := 7) rfl (XT.i0_eq_f hc724) ?_
  refine zS Ad W 1 (st' := (8, [vR 10, vI x1], [.int x1], (H1 s e0 o))) rfl ?_
  rcases qite h with ⟨hc725, h⟩ | ⟨hc725, h⟩
  ·refine zT Ad W (t := 19) (f := 11) rfl (XT.i0_lt_t hc725) ?_
   refine zS Ad W 1 (st' := (20, [vR 10, vI x1], [.long (0 : Int64)], (H1 s e0 o))) rfl ?_
   obtain rfl := Option.some.inj h
   exact QTri.retJ rfl rfl
  ·refine zF Ad W (t := 19) (f := 11) rfl (XT.i0_lt_f hc725) ?_
   refine zS Ad W 3 (st' := (16, [vR 10, vI x1], [.int (f_rows o), .int x1], (H1 s e0 o))) rfl ?_
   rcases qite h with ⟨hc726, h⟩ | ⟨hc726, h⟩
   ·refine zT Ad W (t := 21) (f := 19) rfl (XT.ii_lt_t hc726) ?_
    refine zS Ad W 3 (st' := (26, [vR 10, vI x1], [.int x1, .ref 16], (H1 s e0 o))) rfl ?_
    obtain ⟨y727, hy727, h⟩ := bind_eq_some_iff.mp h
    refine zB Ad W (f := fun y727 => (27, [vR 10, vI x1], [.int y727], (H1 s e0 o))) rfl hy727 ?_
    rcases qite h with ⟨hc728, h⟩ | ⟨hc728, h⟩
    ·refine zT Ad W (t := 32) (f := 30) rfl (XT.i0_eq_t hc728) ?_
     refine zS Ad W 3 (st' := (37, [vR 10, vI x1], [.int x1, .ref 15], (H1 s e0 o))) rfl ?_
     obtain ⟨y729, hy729, h⟩ := bind_eq_some_iff.mp h
     refine zB Ad W (f := fun y729 => (38, [vR 10, vI x1], [.long y729], (H1 s e0 o))) rfl hy729 ?_
     obtain rfl := Option.some.inj h
     exact QTri.retJ rfl rfl
    ·refine zF Ad W (t := 32) (f := 30) rfl (XT.i0_eq_f hc728) ?_
     refine zS Ad W 1 (st' := (31, [vR 10, vI x1], [.long (0 : Int64)], (H1 s e0 o))) rfl ?_
     obtain rfl := Option.some.inj h
     exact QTri.retJ rfl rfl
   ·refine zF Ad W (t := 21) (f := 19) rfl (XT.ii_lt_f hc726) ?_
    refine zS Ad W 1 (st' := (20, [vR 10, vI x1], [.long (0 : Int64)], (H1 s e0 o))) rfl ?_
    obtain rfl := Option.some.inj h
    exact QTri.retJ rfl rfl
/-- isResultNull(I)Z -/
def F14 (o : Ob) (x1 : Int32) : Option (Int32) :=
 (if (f_computed o) = (0:Int32) then some (0:Int32) else (if x1 < (0:Int32) then some (0:Int32) else (if x1 < (f_rows o) then (aget (f_resNull o) x1).bind fun y735 => some (y735 &&& 1) else some (0:Int32))))
theorem tF14 (Ad : QAd n0 ad) (W : QW Z a0) (s : List Int32) (e0 : Ob) (o : Ob) (x1 : Int32) {r : Int32} (h : F14 o x1 = some r) : QTri l Z n0 ad 14 (0, qentry [.ref 1, .int x1] (pMaxL 14), [], (H1 s o e0)) (some (Value.int r)) (H1 s o e0) := by
 unfold F14 at h
 refine zS Ad W 2 (st' := (4, [vR 1, vI x1], [.int (f_computed o)], (H1 s o e0))) rfl ?_
 rcases qite h with ⟨hc732, h⟩ | ⟨hc732, h⟩
 ·refine zT Ad W (t := 19) (f := 7) rfl (XT.i0_eq_t hc732) ?_
  refine zS Ad W 1 (st' := (20, [vR 1, vI x1], [.int (0:Int32)], (H1 s o e0))) rfl ?_
  obtain rfl := Option.some.inj h
  exact QTri.retZ rfl rfl
 ·refine zF Ad W (t := 19) (f := 7) rfl (XT.i0_eq_f hc732) ?_
  refine zS Ad W 1 (st' := (8, [vR 1, vI x1], [.int x1], (H1 s o e0))) rfl ?_
  rcases qite h with ⟨hc733, h⟩ | ⟨hc733, h⟩
  ·refine zT Ad W (t := 19) (f := 11) rfl (XT.i0_lt_t hc733) ?_
   refine zS Ad W 1 (st' := (20, [vR 1, vI x1], [.int (0:Int32)], (H1 s o e0))) rfl ?_
   obtain rfl := Option.some.inj h
   exact QTri.retZ rfl rfl
  ·refine zF Ad W (t := 19) (f := 11) rfl (XT.i0_lt_f hc733) ?_
   refine zS Ad W 3 (st' := (16, [vR 1, vI x1], [.int (f_rows o), .int x1], (H1 s o e0))) rfl ?_
   rcases qite h with ⟨hc734, h⟩ | ⟨hc734, h⟩
   ·refine zT Ad W (t := 21) (f := 19) rfl (XT.ii_lt_t hc734) ?_
    refine zS Ad W 3 (st' := (26, [vR 1, vI x1], [.int x1, .ref 7], (H1 s o e0))) rfl ?_
    obtain ⟨y735, hy735, h⟩ := bind_eq_some_iff.mp h
    refine zB Ad W (f := fun y735 => (27, [vR 1, vI x1], [.int y735], (H1 s o e0))) rfl hy735 ?_
    obtain rfl := Option.some.inj h
    exact QTri.retZ rfl rfl
   ·refine zF Ad W (t := 21) (f := 19) rfl (XT.ii_lt_f hc734) ?_
    refine zS Ad W 1 (st' := (20, [vR 1, vI x1], [.int (0:Int32)], (H1 s o e0))) rfl ?_
    obtain rfl := Option.some.inj h
    exact QTri.retZ rfl rfl
theorem tF14a1 (Ad : QAd n0 ad) (W : QW Z a0) (s : List Int32) (e0 : Ob) (o : Ob) (x1 : Int32) {r : Int32} (h : F14 o x1 = some r) : QTri l Z n0 ad 14 (0, qentry [.ref 10, .int x1] (pMaxL 14), [], (H1 s e0 o)) (some (Value.int r)) (H1 s e0 o) := by
 unfold F14 at h
 refine zS Ad W 2 (st' := (4, [vR 10, vI x1], [.int (f_computed o)], (H1 s e0 o))) rfl ?_
 rcases qite h with ⟨hc737, h⟩ | ⟨hc737, h⟩
 ·refine zT Ad W (t := 19) (f := 7) rfl (XT.i0_eq_t hc737) ?_
  refine zS Ad W 1 (st' := (20, [vR 10, vI x1], [.int (0:Int32)], (H1 s e0 o))) rfl ?_
  obtain rfl := Option.some.inj h
  exact QTri.retZ rfl rfl
 ·refine zF Ad W (t := 19) (f := 7) rfl (XT.i0_eq_f hc737) ?_
  refine zS Ad W 1 (st' := (8, [vR 10, vI x1], [.int x1], (H1 s e0 o))) rfl ?_
  rcases qite h with ⟨hc738, h⟩ | ⟨hc738, h⟩
  ·refine zT Ad W (t := 19) (f := 11) rfl (XT.i0_lt_t hc738) ?_
   refine zS Ad W 1 (st' := (20, [vR 10, vI x1], [.int (0:Int32)], (H1 s e0 o))) rfl ?_
   obtain rfl := Option.some.inj h
   exact QTri.retZ rfl rfl
  ·refine zF Ad W (t := 19) (f := 11) rfl (XT.i0_lt_f hc738) ?_
   refine zS Ad W 3 (st' := (16, [vR 10, vI x1], [.int (f_rows o), .int x1], (H1 s e0 o))) rfl ?_
   rcases qite h with ⟨hc739, h⟩ | ⟨hc739, h⟩
   ·refine zT Ad W (t := 21) (f := 19) rfl (XT.ii_lt_t hc739) ?_
    refine zS Ad W 3 (st' := (26, [vR 10, vI x1], [.int x1, .ref 16], (H1 s e0 o))) rfl ?_
    obtain ⟨y740, hy740, h⟩ := bind_eq_some_iff.mp h
    refine zB Ad W (f := fun y740 => (27, [vR 10, vI x1], [.int y740], (H1 s e0 o))) rfl hy740 ?_
    obtain rfl := Option.some.inj h
    exact QTri.retZ rfl rfl
   ·refine zF Ad W (t := 21) (f := 19) rfl (XT.ii_lt_f hc739) ?_
    refine zS Ad W 1 (st' := (20, [vR 10, vI x1], [.int (0:Int32)], (H1 s e0 o))) rfl ?_
    obtain rfl := Option.some.inj h
    exact QTri.retZ rfl rfl
/-- getFrameCount(I)I -/
def F15 (o : Ob) (x1 : Int32) : Option (Int32) :=
 (if (f_computed o) = (0:Int32) then some (-1:Int32) else (if x1 < (0:Int32) then some (-1:Int32) else (if x1 < (f_rows o) then (aget (f_frameCnt o) x1).bind fun y746 => some y746 else some (-1:Int32))))
theorem tF15 (Ad : QAd n0 ad) (W : QW Z a0) (s : List Int32) (e0 : Ob) (o : Ob) (x1 : Int32) {r : Int32} (h : F15 o x1 = some r) : QTri l Z n0 ad 15 (0, qentry [.ref 1, .int x1] (pMaxL 15), [], (H1 s o e0)) (some (Value.int r)) (H1 s o e0) := by
 unfold F15 at h
 refine zS Ad W 2 (st' := (4, [vR 1, vI x1], [.int (f_computed o)], (H1 s o e0))) rfl ?_
 rcases qite h with ⟨hc743, h⟩ | ⟨hc743, h⟩
 ·refine zT Ad W (t := 19) (f := 7) rfl (XT.i0_eq_t hc743) ?_
  refine zS Ad W 1 (st' := (20, [vR 1, vI x1], [.int (-1:Int32)], (H1 s o e0))) rfl ?_
  obtain rfl := Option.some.inj h
  exact QTri.retI rfl rfl
 ·refine zF Ad W (t := 19) (f := 7) rfl (XT.i0_eq_f hc743) ?_
  refine zS Ad W 1 (st' := (8, [vR 1, vI x1], [.int x1], (H1 s o e0))) rfl ?_
  rcases qite h with ⟨hc744, h⟩ | ⟨hc744, h⟩
  ·refine zT Ad W (t := 19) (f := 11) rfl (XT.i0_lt_t hc744) ?_
   refine zS Ad W 1 (st' := (20, [vR 1, vI x1], [.int (-1:Int32)], (H1 s o e0))) rfl ?_
   obtain rfl := Option.some.inj h
   exact QTri.retI rfl rfl
  ·refine zF Ad W (t := 19) (f := 11) rfl (XT.i0_lt_f hc744) ?_
   refine zS Ad W 3 (st' := (16, [vR 1, vI x1], [.int (f_rows o), .int x1], (H1 s o e0))) rfl ?_
   rcases qite h with ⟨hc745, h⟩ | ⟨hc745, h⟩
   ·refine zT Ad W (t := 21) (f := 19) rfl (XT.ii_lt_t hc745) ?_
    refine zS Ad W 3 (st' := (26, [vR 1, vI x1], [.int x1, .ref 8], (H1 s o e0))) rfl ?_
    obtain ⟨y746, hy746, h⟩ := bind_eq_some_iff.mp h
    refine zB Ad W (f := fun y746 => (27, [vR 1, vI x1], [.int y746], (H1 s o e0))) rfl hy746 ?_
    obtain rfl := Option.some.inj h
    exact QTri.retI rfl rfl
   ·refine zF Ad W (t := 21) (f := 19) rfl (XT.ii_lt_f hc745) ?_
    refine zS Ad W 1 (st' := (20, [vR 1, vI x1], [.int (-1:Int32)], (H1 s o e0))) rfl ?_
    obtain rfl := Option.some.inj h
    exact QTri.retI rfl rfl
theorem tF15a1 (Ad : QAd n0 ad) (W : QW Z a0) (s : List Int32) (e0 : Ob) (o : Ob) (x1 : Int32) {r : Int32} (h : F15 o x1 = some r) : QTri l Z n0 ad 15 (0, qentry [.ref 10, .int x1] (pMaxL 15), [], (H1 s e0 o)) (some (Value.int r)) (H1 s e0 o) := by
 unfold F15 at h
 refine zS Ad W 2 (st' := (4, [vR 10, vI x1], [.int (f_computed o)], (H1 s e0 o))) rfl ?_
 rcases qite h with ⟨hc748, h⟩ | ⟨hc748, h⟩
 ·refine zT Ad W (t := 19) (f := 7) rfl (XT.i0_eq_t hc748) ?_
  refine zS Ad W 1 (st' := (20, [vR 10, vI x1], [.int (-1:Int32)], (H1 s e0 o))) rfl ?_
  obtain rfl := Option.some.inj h
  exact QTri.retI rfl rfl
 ·refine zF Ad W (t := 19) (f := 7) rfl (XT.i0_eq_f hc748) ?_
  refine zS Ad W 1 (st' := (8, [vR 10, vI x1], [.int x1], (H1 s e0 o))) rfl ?_
  rcases qite h with ⟨hc749, h⟩ | ⟨hc749, h⟩
  ·refine zT Ad W (t := 19) (f := 11) rfl (XT.i0_lt_t hc749) ?_
   refine zS Ad W 1 (st' := (20, [vR 10, vI x1], [.int (-1:Int32)], (H1 s e0 o))) rfl ?_
   obtain rfl := Option.some.inj h
   exact QTri.retI rfl rfl
  ·refine zF Ad W (t := 19) (f := 11) rfl (XT.i0_lt_f hc749) ?_
   refine zS Ad W 3 (st' := (16, [vR 10, vI x1], [.int (f_rows o), .int x1], (H1 s e0 o))) rfl ?_
   rcases qite h with ⟨hc750, h⟩ | ⟨hc750, h⟩
   ·refine zT Ad W (t := 21) (f := 19) rfl (XT.ii_lt_t hc750) ?_
    refine zS Ad W 3 (st' := (26, [vR 10, vI x1], [.int x1, .ref 17], (H1 s e0 o))) rfl ?_
    obtain ⟨y751, hy751, h⟩ := bind_eq_some_iff.mp h
    refine zB Ad W (f := fun y751 => (27, [vR 10, vI x1], [.int y751], (H1 s e0 o))) rfl hy751 ?_
    obtain rfl := Option.some.inj h
    exact QTri.retI rfl rfl
   ·refine zF Ad W (t := 21) (f := 19) rfl (XT.ii_lt_f hc750) ?_
    refine zS Ad W 1 (st' := (20, [vR 10, vI x1], [.int (-1:Int32)], (H1 s e0 o))) rfl ?_
    obtain rfl := Option.some.inj h
    exact QTri.retI rfl rfl
def B8_57 (o1 : Ob) (o2 : Ob) (v : Int32) : Option (((Int32)) ⊕ (Int32)) :=
  (if v < (8 : Int32) then ((loopN (B8_65 o1 o2 v) qN (0 : Int32)).bind fun e715 => match e715 with | .inl e715a => (F13 o1 v).bind fun r723 => (F13 o2 v).bind fun r730 => (if r723 = r730 then (F14 o1 v).bind fun r736 => (F14 o2 v).bind fun r741 => (if r736 = r741 then (F15 o1 v).bind fun r747 => (F15 o2 v).bind fun r752 => (if r747 = r752 then some (.inr (v + (1 : Int32))) else some (.inl (0 : Int32))) else some (.inl (0 : Int32))) else some (.inl (0 : Int32))) | .inr e715a => some (.inl e715a)) else some (.inl (1 : Int32)))
theorem tB8_57 (Ad : QAd n0 ad) (W : QW Z a0) (s : List Int32) (o1 : Ob) (o2 : Ob) (v : Int32) {r : ((Int32)) ⊕ (Int32)} {u : Option Value} {τ : QHeap} (h : B8_57 o1 o2 v = some r) (hx0 : ∀ x : Int32, r = .inl x → u = (some (Value.int x)) ∧ τ = (H1 s o1 o2)) (hc : ∀ x : Int32, r = .inr x → QTri l Z n0 ad 8 (57, [vR 1, vR 10, vI x, none], [], (H1 s o1 o2)) u τ) : QTri l Z n0 ad 8 (57, [vR 1, vR 10, vI v, none], [], (H1 s o1 o2)) u τ := by
 unfold B8_57 at h
 refine zS Ad W 2 (st' := (60, [vR 1, vR 10, vI v, none], [.int (8:Int32), .int v], (H1 s o1 o2))) rfl ?_
 rcases qite h with ⟨hc690, h⟩ | ⟨hc690, h⟩
 ·refine zF Ad W (t := 145) (f := 63) rfl (XT.ii_ge_f hc690) ?_
  refine zS Ad W 2 (st' := (65, [vR 1, vR 10, vI v, vI (0:Int32)], [], (H1 s o1 o2))) rfl ?_
  obtain ⟨e715, he715, h⟩ := bind_eq_some_iff.mp h
  refine zM [tt,tt,tt,tt] (loopN_tri (B := B8_65 o1 o2 v) (T := fun lv716 => QTri l Z n0 ad 8 (65, [vR 1, vR 10, vI v, vI lv716], [], (H1 s o1 o2)) u τ) (KE := fun e => match e with | .inl e715a => QTri l Z n0 ad 8 (93, [vR 1, vR 10, vI v, none], [], (H1 s o1 o2)) u τ | .inr e715a => u = (some (Value.int e715a)) ∧ τ = (H1 s o1 o2)) (fun lv716 r hB hE hC => tB8_65 Ad W s o1 o2 v lv716 hB (fun x q => hE _ q) (fun x q => hE _ q) (fun x q => hC x q)) qN (0:Int32) e715 he715 ?_)
  rcases e715 with e715a | e715a
  ·refine zS Ad W 2 (st' := (95, [vR 1, vR 10, vI v, none], [.int v, .ref 1], (H1 s o1 o2))) rfl ?_
   obtain ⟨r723, hr723, h⟩ := bind_eq_some_iff.mp h
   refine QTri.callV W (a := 1) (as := [.int v]) (rest := []) (w := (some (.long r723))) (σ₁ := (H1 s o1 o2)) rfl rfl rfl rfl rfl rfl rfl rfl (tF13 Ad W s o2 o1 v hr723) ?_
   refine zS Ad W 2 (st' := (100, [vR 1, vR 10, vI v, none], [.int v, .ref 10, .long r723], (H1 s o1 o2))) rfl ?_
   obtain ⟨r730, hr730, h⟩ := bind_eq_some_iff.mp h
   refine QTri.callV W (a := 10) (as := [.int v]) (rest := [.long r723]) (w := (some (.long r730))) (σ₁ := (H1 s o1 o2)) rfl rfl rfl rfl rfl rfl rfl rfl (tF13a1 Ad W s o1 o2 v hr730) ?_
   refine zS Ad W 1 (st' := (104, [vR 1, vR 10, vI v, none], [.int (XT.cmpL r723 r730)], (H1 s o1 o2))) rfl ?_
   rcases qite h with ⟨hc731, h⟩ | ⟨hc731, h⟩
   ·refine zT Ad W (t := 109) (f := 107) rfl (XT.ll_eq_t hc731) ?_
    refine zS Ad W 2 (st' := (111, [vR 1, vR 10, vI v, none], [.int v, .ref 1], (H1 s o1 o2))) rfl ?_
    obtain ⟨r736, hr736, h⟩ := bind_eq_some_iff.mp h
    refine QTri.callV W (a := 1) (as := [.int v]) (rest := []) (w := (some (.int r736))) (σ₁ := (H1 s o1 o2)) rfl rfl rfl rfl rfl rfl rfl rfl (tF14 Ad W s o2 o1 v hr736) ?_
    refine zS Ad W 2 (st' := (116, [vR 1, vR 10, vI v, none], [.int v, .ref 10, .int r736], (H1 s o1 o2))) rfl ?_
    obtain ⟨r741, hr741, h⟩ := bind_eq_some_iff.mp h
    refine QTri.callV W (a := 10) (as := [.int v]) (rest := [.int r736]) (w := (some (.int r741))) (σ₁ := (H1 s o1 o2)) rfl rfl rfl rfl rfl rfl rfl rfl (tF14a1 Ad W s o1 o2 v hr741) ?_
    rcases qite h with ⟨hc742, h⟩ | ⟨hc742, h⟩
    ·refine zT Ad W (t := 124) (f := 122) rfl (XT.ii_eq_t hc742) ?_
     refine zS Ad W 2 (st' := (126, [vR 1, vR 10, vI v, none], [.int v, .ref 1], (H1 s o1 o2))) rfl ?_
     obtain ⟨r747, hr747, h⟩ := bind_eq_some_iff.mp h
     refine QTri.callV W (a := 1) (as := [.int v]) (rest := []) (w := (some (.int r747))) (σ₁ := (H1 s o1 o2)) rfl rfl rfl rfl rfl rfl rfl rfl (tF15 Ad W s o2 o1 v hr747) ?_
     refine zS Ad W 2 (st' := (131, [vR 1, vR 10, vI v, none], [.int v, .ref 10, .int r747], (H1 s o1 o2))) rfl ?_
     obtain ⟨r752, hr752, h⟩ := bind_eq_some_iff.mp h
     refine QTri.callV W (a := 10) (as := [.int v]) (rest := [.int r747]) (w := (some (.int r752))) (σ₁ := (H1 s o1 o2)) rfl rfl rfl rfl rfl rfl rfl rfl (tF15a1 Ad W s o1 o2 v hr752) ?_
     rcases qite h with ⟨hc753, h⟩ | ⟨hc753, h⟩
     ·refine zT Ad W (t := 139) (f := 137) rfl (XT.ii_eq_t hc753) ?_
      refine zS Ad W 2 (st' := (57, [vR 1, vR 10, vI (v + (1:Int32)), none], [], (H1 s o1 o2))) rfl ?_
      obtain rfl := Option.some.inj h
      exact zM [tt,tt,tt,ff] (hc (v + (1:Int32)) rfl)
     ·refine zF Ad W (t := 139) (f := 137) rfl (XT.ii_eq_f hc753) ?_
      refine zS Ad W 1 (st' := (138, [vR 1, vR 10, vI v, none], [.int (0:Int32)], (H1 s o1 o2))) rfl ?_
      obtain rfl := Option.some.inj h
      obtain ⟨rfl, rfl⟩ := hx0 (0:Int32) rfl
      exact QTri.retZ rfl rfl
    ·refine zF Ad W (t := 124) (f := 122) rfl (XT.ii_eq_f hc742) ?_
     refine zS Ad W 1 (st' := (123, [vR 1, vR 10, vI v, none], [.int (0:Int32)], (H1 s o1 o2))) rfl ?_
     obtain rfl := Option.some.inj h
     obtain ⟨rfl, rfl⟩ := hx0 (0:Int32) rfl
     exact QTri.retZ rfl rfl
   ·refine zF Ad W (t := 109) (f := 107) rfl (XT.ll_eq_f hc731) ?_
    refine zS Ad W 1 (st' := (108, [vR 1, vR 10, vI v, none], [.int (0:Int32)], (H1 s o1 o2))) rfl ?_
    obtain rfl := Option.some.inj h
    obtain ⟨rfl, rfl⟩ := hx0 (0:Int32) rfl
    exact QTri.retZ rfl rfl
  ·obtain rfl := Option.some.inj h
   exact hx0 e715a rfl
 ·refine zT Ad W (t := 145) (f := 63) rfl (XT.ii_ge_t hc690) ?_
  refine zS Ad W 1 (st' := (146, [vR 1, vR 10, vI v, none], [.int (1:Int32)], (H1 s o1 o2))) rfl ?_
  obtain rfl := Option.some.inj h
  obtain ⟨rfl, rfl⟩ := hx0 (1:Int32) rfl
  exact QTri.retZ rfl rfl
/-- same(LWindowFuncEngine;LWindowFuncEngine;)Z -/
def F8 (o1 : Ob) (o2 : Ob) : Option (Int32) :=
 (F9 o1).bind fun r658 => (F9 o2).bind fun r659 => (if r658 = r659 then (F10 o1).bind fun r661 => (F10 o2).bind fun r662 => (if r661 = r662 then ((loopN (B8_28 o1 o2) qN (0:Int32)).bind fun e688 => match e688 with | .inl e688a => (loopN (B8_57 o1 o2) qN (0:Int32)).bind fun e754 => some e754 | .inr e688a => some e688a) else some (0:Int32)) else some (0:Int32))
theorem tF8 (Ad : QAd n0 ad) (W : QW Z a0) (s : List Int32) (o1 : Ob) (o2 : Ob) {r : Int32} (h : F8 o1 o2 = some r) : QTri l Z n0 ad 8 (0, qentry [.ref 1, .ref 10] (pMaxL 8), [], (H1 s o1 o2)) (some (Value.int r)) (H1 s o1 o2) := by
 unfold F8 at h
 refine zS Ad W 1 (st' := (1, [vR 1, vR 10, none, none], [.ref 1], (H1 s o1 o2))) rfl ?_
 obtain ⟨r658, hr658, h⟩ := bind_eq_some_iff.mp h
 refine QTri.callV W (a := 1) (as := []) (rest := []) (w := (some (.int r658))) (σ₁ := (H1 s o1 o2)) rfl rfl rfl rfl rfl rfl rfl rfl (tF9 Ad W s o2 o1 hr658) ?_
 refine zS Ad W 1 (st' := (5, [vR 1, vR 10, none, none], [.ref 10, .int r658], (H1 s o1 o2))) rfl ?_
 obtain ⟨r659, hr659, h⟩ := bind_eq_some_iff.mp h
 refine QTri.callV W (a := 10) (as := []) (rest := [.int r658]) (w := (some (.int r659))) (σ₁ := (H1 s o1 o2)) rfl rfl rfl rfl rfl rfl rfl rfl (tF9a1 Ad W s o1 o2 hr659) ?_
 rcases qite h with ⟨hc660, h⟩ | ⟨hc660, h⟩
 ·refine zT Ad W (t := 13) (f := 11) rfl (XT.ii_eq_t hc660) ?_
  refine zS Ad W 1 (st' := (14, [vR 1, vR 10, none, none], [.ref 1], (H1 s o1 o2))) rfl ?_
  obtain ⟨r661, hr661, h⟩ := bind_eq_some_iff.mp h
  refine QTri.callV W (a := 1) (as := []) (rest := []) (w := (some (.int r661))) (σ₁ := (H1 s o1 o2)) rfl rfl rfl rfl rfl rfl rfl rfl (tF10 Ad W s o2 o1 hr661) ?_
  refine zS Ad W 1 (st' := (18, [vR 1, vR 10, none, none], [.ref 10, .int r661], (H1 s o1 o2))) rfl ?_
  obtain ⟨r662, hr662, h⟩ := bind_eq_some_iff.mp h
  refine QTri.callV W (a := 10) (as := []) (rest := [.int r661]) (w := (some (.int r662))) (σ₁ := (H1 s o1 o2)) rfl rfl rfl rfl rfl rfl rfl rfl (tF10a1 Ad W s o1 o2 hr662) ?_
  rcases qite h with ⟨hc663, h⟩ | ⟨hc663, h⟩
  ·refine zT Ad W (t := 26) (f := 24) rfl (XT.ii_eq_t hc663) ?_
   refine zS Ad W 2 (st' := (28, [vR 1, vR 10, vI (0:Int32), none], [], (H1 s o1 o2))) rfl ?_
   obtain ⟨e688, he688, h⟩ := bind_eq_some_iff.mp h
   refine zM [tt,tt,tt,ff] (loopN_tri (B := B8_28 o1 o2) (T := fun lv689 => QTri l Z n0 ad 8 (28, [vR 1, vR 10, vI lv689, none], [], (H1 s o1 o2)) (some (Value.int r)) (H1 s o1 o2)) (KE := fun e => match e with | .inl e688a => QTri l Z n0 ad 8 (55, [vR 1, vR 10, none, none], [], (H1 s o1 o2)) (some (Value.int r)) (H1 s o1 o2) | .inr e688a => (some (Value.int r)) = (some (Value.int e688a)) ∧ (H1 s o1 o2) = (H1 s o1 o2)) (fun lv689 r hB hE hC => tB8_28 Ad W s o1 o2 lv689 hB (fun x q => hE _ q) (fun x q => hE _ q) (fun x q => hC x q)) qN (0:Int32) e688 he688 ?_)
   rcases e688 with e688a | e688a
   ·refine zS Ad W 2 (st' := (57, [vR 1, vR 10, vI (0:Int32), none], [], (H1 s o1 o2))) rfl ?_
    obtain ⟨e754, he754, h⟩ := bind_eq_some_iff.mp h
    refine zM [tt,tt,tt,ff] (loopN_tri (B := B8_57 o1 o2) (T := fun lv755 => QTri l Z n0 ad 8 (57, [vR 1, vR 10, vI lv755, none], [], (H1 s o1 o2)) (some (Value.int r)) (H1 s o1 o2)) (KE := fun e754a => (some (Value.int r)) = (some (Value.int e754a)) ∧ (H1 s o1 o2) = (H1 s o1 o2)) (fun lv755 r hB hE hC => tB8_57 Ad W s o1 o2 lv755 hB (fun x q => hE _ q) (fun x q => hC x q)) qN (0:Int32) e754 he754 ?_)
    obtain rfl := Option.some.inj h
    exact ⟨rfl, rfl⟩
   ·obtain rfl := Option.some.inj h
    exact ⟨rfl, rfl⟩
  ·refine zF Ad W (t := 26) (f := 24) rfl (XT.ii_eq_f hc663) ?_
   refine zS Ad W 1 (st' := (25, [vR 1, vR 10, none, none], [.int (0:Int32)], (H1 s o1 o2))) rfl ?_
   obtain rfl := Option.some.inj h
   exact QTri.retZ rfl rfl
 ·refine zF Ad W (t := 13) (f := 11) rfl (XT.ii_eq_f hc660) ?_
  refine zS Ad W 1 (st' := (12, [vR 1, vR 10, none, none], [.int (0:Int32)], (H1 s o1 o2))) rfl ?_
  obtain rfl := Option.some.inj h
  exact QTri.retZ rfl rfl
/-- the law -/
def F0 (s : List Int32) : Option (Int32 × QHeap) :=
 (F1 (8:Int32)).bind fun r11 => (F1 (8:Int32)).bind fun r22 => (loopN (B0_22 s) qN ((0:Int32), r11, r22)).bind fun e656 => (F8 e656.1 e656.2).bind fun r756 => some ((r756 &&& 1), (H1 s e656.1 e656.2))
theorem tF0 (Ad : QAd n0 ad) (W : QW Z a0) (s : List Int32) {r : Int32 × QHeap} (h : F0 s = some r) : QTri l Z n0 ad 0 (0, qentry [.ref 0] (pMaxL 0), [], [.inr (.inl (.int, s))]) (some (Value.int r.1)) r.2 := by
 unfold F0 at h
 refine zS Ad W 1 (st' := (3, [vR 0, none, none, none, none, none], [.ref 1], [.inr (.inl (.int, s)), .inl [.null, .null, .null, .null, .null, .null, .null, .null, .int (f_cap ob0), .int (f_rows ob0), .int (f_direction ob0), .int (f_nulls ob0), .int (f_mode ob0), .int (f_startKind ob0), .int (f_startOff ob0), .int (f_endKind ob0), .int (f_endOff ob0), .int (f_fn ob0), .int (f_fnArg ob0), .int (f_computed ob0), .int (f_sortedLen ob0), .int (f_curPos ob0), .long (f_aggSum ob0), .int (f_aggCount ob0), .int (f_aggRows ob0), .int (f_aggMin ob0), .int (f_aggMax ob0)]])) rfl ?_
 refine zS Ad W 2 (st' := (6, [vR 0, none, none, none, none, none], [.int (8:Int32), .ref 1, .ref 1], [.inr (.inl (.int, s)), .inl [.null, .null, .null, .null, .null, .null, .null, .null, .int (f_cap ob0), .int (f_rows ob0), .int (f_direction ob0), .int (f_nulls ob0), .int (f_mode ob0), .int (f_startKind ob0), .int (f_startOff ob0), .int (f_endKind ob0), .int (f_endOff ob0), .int (f_fn ob0), .int (f_fnArg ob0), .int (f_computed ob0), .int (f_sortedLen ob0), .int (f_curPos ob0), .long (f_aggSum ob0), .int (f_aggCount ob0), .int (f_aggRows ob0), .int (f_aggMin ob0), .int (f_aggMax ob0)]])) rfl ?_
 obtain ⟨r11, hr11, h⟩ := bind_eq_some_iff.mp h
 refine QTri.callI W (a := 1) (as := [.int (8:Int32)]) (rest := [.ref 1]) (σ₁ := (H0 s r11)) rfl rfl rfl rfl rfl rfl (tF1 Ad W s (8:Int32) hr11) ?_
 refine zS Ad W 2 (st' := (13, [vR 0, vR 1, none, none, none, none], [.ref 10], [.inr (.inl (.int, s)), .inl [.ref 2, .ref 3, .ref 4, .ref 5, .ref 6, .ref 7, .ref 8, .ref 9, .int (f_cap r11), .int (f_rows r11), .int (f_direction r11), .int (f_nulls r11), .int (f_mode r11), .int (f_startKind r11), .int (f_startOff r11), .int (f_endKind r11), .int (f_endOff r11), .int (f_fn r11), .int (f_fnArg r11), .int (f_computed r11), .int (f_sortedLen r11), .int (f_curPos r11), .long (f_aggSum r11), .int (f_aggCount r11), .int (f_aggRows r11), .int (f_aggMin r11), .int (f_aggMax r11)], .inr (.inl (.int, (f_part r11))), .inr (.inl (.int, (f_keys r11))), .inr (.inl (.int, (f_vals r11))), .inr (.inl (.int, (f_flg r11))), .inr (.inr (f_res r11)), .inr (.inl (.boolean, (f_resNull r11))), .inr (.inl (.int, (f_frameCnt r11))), .inr (.inl (.int, (f_sorted r11))), .inl [.null, .null, .null, .null, .null, .null, .null, .null, .int (f_cap ob0), .int (f_rows ob0), .int (f_direction ob0), .int (f_nulls ob0), .int (f_mode ob0), .int (f_startKind ob0), .int (f_startOff ob0), .int (f_endKind ob0), .int (f_endOff ob0), .int (f_fn ob0), .int (f_fnArg ob0), .int (f_computed ob0), .int (f_sortedLen ob0), .int (f_curPos ob0), .long (f_aggSum ob0), .int (f_aggCount ob0), .int (f_aggRows ob0), .int (f_aggMin ob0), .int (f_aggMax ob0)]])) rfl ?_
 refine zS Ad W 2 (st' := (16, [vR 0, vR 1, none, none, none, none], [.int (8:Int32), .ref 10, .ref 10], [.inr (.inl (.int, s)), .inl [.ref 2, .ref 3, .ref 4, .ref 5, .ref 6, .ref 7, .ref 8, .ref 9, .int (f_cap r11), .int (f_rows r11), .int (f_direction r11), .int (f_nulls r11), .int (f_mode r11), .int (f_startKind r11), .int (f_startOff r11), .int (f_endKind r11), .int (f_endOff r11), .int (f_fn r11), .int (f_fnArg r11), .int (f_computed r11), .int (f_sortedLen r11), .int (f_curPos r11), .long (f_aggSum r11), .int (f_aggCount r11), .int (f_aggRows r11), .int (f_aggMin r11), .int (f_aggMax r11)], .inr (.inl (.int, (f_part r11))), .inr (.inl (.int, (f_keys r11))), .inr (.inl (.int, (f_vals r11))), .inr (.inl (.int, (f_flg r11))), .inr (.inr (f_res r11)), .inr (.inl (.boolean, (f_resNull r11))), .inr (.inl (.int, (f_frameCnt r11))), .inr (.inl (.int, (f_sorted r11))), .inl [.null, .null, .null, .null, .null, .null, .null, .null, .int (f_cap ob0), .int (f_rows ob0), .int (f_direction ob0), .int (f_nulls ob0), .int (f_mode ob0), .int (f_startKind ob0), .int (f_startOff ob0), .int (f_endKind ob0), .int (f_endOff ob0), .int (f_fn ob0), .int (f_fnArg ob0), .int (f_computed ob0), .int (f_sortedLen ob0), .int (f_curPos ob0), .long (f_aggSum ob0), .int (f_aggCount ob0), .int (f_aggRows ob0), .int (f_aggMin ob0), .int (f_aggMax ob0)]])) rfl ?_
 obtain ⟨r22, hr22, h⟩ := bind_eq_some_iff.mp h
 refine QTri.callI W (a := 10) (as := [.int (8:Int32)]) (rest := [.ref 10]) (σ₁ := (H1 s r11 r22)) rfl rfl rfl rfl rfl rfl (tF1a1 Ad W s r11 (8:Int32) hr22) ?_
 refine zS Ad W 3 (st' := (22, [vR 0, vR 1, vR 10, vI (0:Int32), none, none], [], (H1 s r11 r22))) rfl ?_
 obtain ⟨e656, he656, h⟩ := bind_eq_some_iff.mp h
 refine zM [tt,tt,tt,tt,ff,ff] (loopN_tri (B := B0_22 s) (T := fun lv657 => QTri l Z n0 ad 0 (22, [vR 0, vR 1, vR 10, vI lv657.1, none, none], [], (H1 s lv657.2.1 lv657.2.2)) (some (Value.int r.1)) r.2) (KE := fun e656a => QTri l Z n0 ad 0 (104, [none, vR 1, vR 10, none, none, none], [], (H1 s e656a.1 e656a.2)) (some (Value.int r.1)) r.2) (fun lv657 r hB hE hC => tB0_22 Ad W s lv657 hB (fun x q => hE _ q) (fun x q => hC x q)) qN ((0:Int32), r11, r22) e656 he656 ?_)
 refine zS Ad W 2 (st' := (106, [none, vR 1, vR 10, none, none, none], [.ref 10, .ref 1], (H1 s e656.1 e656.2))) rfl ?_
 obtain ⟨r756, hr756, h⟩ := bind_eq_some_iff.mp h
 refine QTri.callS W (as := [.ref 1, .ref 10]) (rest := []) (w := (some (.int r756))) (σ₁ := (H1 s e656.1 e656.2)) rfl rfl rfl rfl rfl rfl rfl (tF8 Ad W s e656.1 e656.2 hr756) ?_
 obtain rfl := Option.some.inj h
 exact QTri.retZ rfl rfl
end Walks
theorem script_ok {s : State} {w : Value} (hfit : Fit s) (h1 : (Jvm.Cond.arrayOf (Jvm.Term.arg 0) Jvm.ClassFile.FieldType.int).value #[w] s none s [] = some true) (h2 : (Jvm.Cond.le (Jvm.Term.length (Jvm.Term.arg 0)) (Jvm.Term.int 260)).value #[w] s none s [] = some true) :
    ∃ (a : Addr) (c : Cell) (xs : List Int32), w = .ref a ∧ Arr s s.heap a c .int ∧ c.slots = (xs.map Value.int).toArray ∧ xs.length ≤ 260 := by
  obtain ⟨a, ha⟩ := arr_v h1
  obtain ⟨c, A⟩ := Arr.start ha h1
  have hw : w = .ref a := by simpa [Term.eval] using ha
  subst hw
  have hel : ∀ i, i < c.slots.size → ∃ x, c.slots[i]? = some (.int x) := fun i hi => by
    have q := hfit A.1 hi
    obtain ⟨hs, k, hk, comp, hkind⟩ := A.2.1
    have e : s.slotType? c.cls c.vm i = some .int := by
      cases hq : c.vm <;> first | exact absurd hq (hs _) | simp [State.slotType?, hk, hkind]
    have q2 : fits .int c.slots[i] = true := by simpa [State.fitsSlot, e] using q
    obtain ⟨x, hx⟩ := fit_I q2 (Or.inl rfl)
    exact ⟨x, by rw [Array.getElem?_eq_getElem hi, hx]⟩
  refine ⟨a, c, c.slots.toList.map (fun v => match v with | .int x => x | _ => 0), rfl, A, ?_, ?_⟩
  · apply Array.ext'
    rw [List.map_map]
    have : c.slots.toList.map (Value.int ∘ fun v => match v with | .int x => x | _ => 0) = c.slots.toList := by
      conv => rhs; rw [← List.map_id c.slots.toList]
      refine List.map_congr_left fun v hv => ?_
      obtain ⟨i, hi⟩ := List.mem_iff_getElem?.mp hv
      rw [Array.getElem?_toList] at hi
      obtain ⟨x, hx⟩ := hel i (Array.getElem?_eq_some_iff.mp hi).1
      rw [hi] at hx
      cases hx
      rfl
    exact this.symm
  · have hl := A.fin (Vm.Alike.refl _)
    simp only [List.length_map, Array.length_toList]
    simp only [Cond.value, Term.eval] at h2
    simp [hl] at h2
    by_cases hs : c.slots.size < 2147483648
    · rw [if_pos hs] at h2
      have h3 : c.slots.size.toInt32 ≤ 260 := by simpa using h2
      rw [Int32.le_iff_toInt_le] at h3
      have h4 : (c.slots.size.toInt32).toInt = c.slots.size := Int32.toInt_ofNat_of_lt (by omega)
      rw [h4] at h3
      have h5 : (260 : Int32).toInt = 260 := rfl
      rw [h5] at h3
      omega
    · rw [if_neg hs] at h2
      simp at h2
theorem i_lt {x y : Int32} : x < y ↔ x.toInt < y.toInt := Int32.lt_iff_toInt_lt
theorem i_eq {x y : Int32} : x = y ↔ x.toInt = y.toInt := Int32.toInt_inj.symm
theorem i_lo (x : Int32) : -2147483648 ≤ x.toInt := Int32.le_toInt x
theorem i_hi (x : Int32) : x.toInt < 2147483648 := Int32.toInt_lt x
theorem i_add {x y : Int32} (h1 : -2147483648 ≤ x.toInt + y.toInt) (h2 : x.toInt + y.toInt < 2147483648) : (x + y).toInt = x.toInt + y.toInt := XT.add32 ⟨h1, by omega⟩
theorem i_sub {x y : Int32} (h1 : -2147483648 ≤ x.toInt - y.toInt) (h2 : x.toInt - y.toInt < 2147483648) : (x - y).toInt = x.toInt - y.toInt := XT.sub32 ⟨h1, by omega⟩
theorem i_mul {x y : Int32} (h1 : -2147483648 ≤ x.toInt * y.toInt) (h2 : x.toInt * y.toInt < 2147483648) : (x * y).toInt = x.toInt * y.toInt := XT.mul32 ⟨h1, by omega⟩
theorem i_nat (x : Int32) : x.toNatClampNeg = x.toInt.toNat := rfl
theorem aget_at {α : Type} {xs : List α} {j : Int32} {n : Nat} (hj : j.toInt = n) (hn : n < xs.length) : aget xs j = some xs[n] := by
 have h0 : ¬ j < 0 := by rw [i_lt]; show ¬ j.toInt < 0; omega
 unfold aget
 rw [if_neg h0, i_nat, hj]
 simp [hn]
theorem aget_rep {α : Type} {m : Nat} {a : α} {j : Int32} (h0 : 0 ≤ j.toInt) (h1 : j.toInt < m) : aget (List.replicate m a) j = some a := by
 rw [aget_at (n := j.toInt.toNat) (by omega) (by rw [List.length_replicate]; omega)]
 simp
theorem aset_at {α : Type} {xs : List α} {j : Int32} {n : Nat} {v : α} (hj : j.toInt = n) (hn : n < xs.length) : aset xs j v = some (xs.set n v) := by
 have h0 : ¬ j < 0 := by rw [i_lt]; show ¬ j.toInt < 0; omega
 unfold aset
 have e : j.toNatClampNeg = n := by rw [i_nat, hj]; simp
 rw [if_neg h0, e, if_pos hn]
theorem rep_set {α : Type} (m k : Nat) (a : α) : (List.replicate m a).set k a = List.replicate m a := by
 apply List.ext_getElem (by simp)
 intro i h1 h2
 rw [List.getElem_set]
 split <;> simp
theorem small_cases {x : Int32} (h0 : 0 ≤ x.toInt) {n : Nat} (h1 : x.toInt < n) {P : Int32 → Prop} (h : ∀ m : Nat, m < n → P (Int32.ofInt m)) : P x := by
 have e : Int32.ofInt (x.toInt.toNat : Nat) = x := by
  rw [Int.toNat_of_nonneg h0, Int32.ofInt_toInt]
 rw [← e]
 exact h _ (by omega)
theorem bit_ne {x : Int32} (h0 : 0 ≤ x.toInt) (h1 : x.toInt < 32) : ¬ (((1 : Int32) <<< (x &&& 31)) &&& ((1 : Int32) <<< (x &&& 31))) = 0 :=
 small_cases (P := fun x => ¬ (((1 : Int32) <<< (x &&& 31)) &&& ((1 : Int32) <<< (x &&& 31))) = 0) h0 (n := 32) h1 (by decide)
def okP {α : Type} (m : Option α) (P : α → Prop) : Prop := ∃ a, m = some a ∧ P a
theorem okP.some {α : Type} {a : α} {P : α → Prop} (h : P a) : okP (some a) P := ⟨a, rfl, h⟩
theorem okP.bind {α β : Type} {m : Option α} {f : α → Option β} {P : β → Prop} (h : okP m fun a => okP (f a) P) : okP (m.bind f) P := by
 obtain ⟨a, e, b, e2, h2⟩ := h
 exact ⟨b, by rw [e]; exact e2, h2⟩
theorem okP.ite {α : Type} {c : Prop} [Decidable c] {a b : Option α} {P : α → Prop} (h1 : c → okP a P) (h2 : ¬ c → okP b P) : okP (if c then a else b) P := by
 by_cases h : c
 ·rw [if_pos h]; exact h1 h
 ·rw [if_neg h]; exact h2 h
theorem okP.mono {α : Type} {m : Option α} {P Q : α → Prop} (h : okP m P) (k : ∀ a, P a → Q a) : okP m Q := by
 obtain ⟨a, e, h⟩ := h
 exact ⟨a, e, k a h⟩
theorem okP.of {α : Type} {m : Option α} {a : α} {P : α → Prop} (e : m = Option.some a) (h : P a) : okP m P := ⟨a, e, h⟩
theorem okP.aget {α : Type} {xs : List α} {j : Int32} {P : α → Prop} (h0 : 0 ≤ j.toInt) (h1 : j.toInt < xs.length) (k : ∀ v, xs[j.toInt.toNat]? = Option.some v → P v) : okP (aget xs j) P :=
 ⟨_, aget_at (n := j.toInt.toNat) (by omega) (by omega), k _ (List.getElem?_eq_getElem _)⟩
theorem okP.aset {α : Type} {xs : List α} {j : Int32} {v : α} {P : List α → Prop} (h0 : 0 ≤ j.toInt) (h1 : j.toInt < xs.length) (k : P (xs.set j.toInt.toNat v)) : okP (aset xs j v) P :=
 ⟨_, aset_at (n := j.toInt.toNat) (by omega) (by omega), k⟩
theorem okP.loop {V E : Type} {B : V → Option (E ⊕ V)} {P : E → Prop} {n : Nat} {v : V} (I : V → Prop) (μ : V → Nat) (hv : I v) (hm : μ v < n) (hB : ∀ v, I v → okP (B v) (fun r => Sum.elim P (fun v' => I v' ∧ μ v' < μ v) r)) : okP (loopN B n v) P := by
 refine loopN_inv I P μ ?_ n v hv hm
 intro v hv
 obtain ⟨r, e, h⟩ := hB v hv
 cases r with
 | inl x => exact Or.inl ⟨x, e, h⟩
 | inr x => exact Or.inr ⟨x, e, h⟩
theorem len_i {n : Nat} (h : n ≤ 1000) : (n.toInt32).toInt = n := by
 have e : n.toInt32 = Int32.ofInt n := rfl
 rw [e, Int32.toInt_ofInt_of_le (by show _ ≤ (n : Int); omega) (by show (n : Int) < _; omega)]
theorem and1 (x : Int32) : x &&& 1 = 0 ∨ x &&& 1 = 1 := by
 have e : (x &&& 1).toBitVec = x.toBitVec &&& 1#32 := rfl
 have h := BitVec.and_one_eq_setWidth_ofBool_getLsbD (x := x.toBitVec)
 cases g : x.toBitVec.getLsbD 0
 ·left; apply Int32.toBitVec_inj.1; rw [e, h, g]; rfl
 ·right; apply Int32.toBitVec_inj.1; rw [e, h, g]; rfl
theorem okP.not {α : Type} {m : Option α} {a : α} {P : α → Prop} (h : okP m P) (e : m = Option.some a) : P a := by
 obtain ⟨b, e2, h⟩ := h
 rw [e] at e2
 exact (Option.some.inj e2) ▸ h
theorem and_rng {x m : Int32} (hm : 0 ≤ m.toInt) : 0 ≤ (x &&& m).toInt ∧ (x &&& m).toInt ≤ m.toInt := by
 have e : (x &&& m).toBitVec.toNat = x.toBitVec.toNat &&& m.toBitVec.toNat := BitVec.toNat_and ..
 have l : (x &&& m).toBitVec.toNat ≤ m.toBitVec.toNat := by rw [e]; exact Nat.and_le_right
 have c1 : m.toInt = if 2 * m.toBitVec.toNat < 2 ^ 32 then (m.toBitVec.toNat : Int) else m.toBitVec.toNat - (2 ^ 32 : Nat) := BitVec.toInt_eq_toNat_cond m.toBitVec
 have c2 : (x &&& m).toInt = if 2 * (x &&& m).toBitVec.toNat < 2 ^ 32 then ((x &&& m).toBitVec.toNat : Int) else (x &&& m).toBitVec.toNat - (2 ^ 32 : Nat) := BitVec.toInt_eq_toNat_cond (x &&& m).toBitVec
 have b : m.toBitVec.toNat < 2 ^ 32 := m.toBitVec.isLt
 by_cases h : 2 * m.toBitVec.toNat < 2 ^ 32
 ·rw [if_pos h] at c1
  rw [if_pos (by omega)] at c2
  omega
 ·rw [if_neg h] at c1
  omega
theorem mod_rng {x m : Int32} (hx : 0 ≤ x.toInt) (hm : 0 < m.toInt) : 0 ≤ (x % m).toInt ∧ (x % m).toInt < m.toInt := by
 rw [Int32.toInt_mod, Int.tmod_eq_emod_of_nonneg hx]
 exact ⟨Int.emod_nonneg _ (by omega), Int.emod_lt_of_pos _ hm⟩
def sFit (s : List Int32) (τ : QHeap) : Prop := τ.length - List.length ([Sum.inr (Sum.inl (FieldType.int, s))] : QHeap) ≤ room_1.cells ∧ qhs τ - qhs [Sum.inr (Sum.inl (FieldType.int, s))] ≤ room_1.slots
def Sh (c : List Int32 × List Int32 × List Int32 × List Int32 × Int32 × Int32 × Int32 × Int32 × Int32 × Int32 × Int32 × Int32 × Int32 × Int32 × Int32) (d : List Int64 × List Int32 × List Int32) (e : List Int32 × Int32 × Int32) (o : Ob) : Prop := (f_part o, f_keys o, f_vals o, f_flg o, f_rows o, f_cap o, f_direction o, f_nulls o, f_mode o, f_startKind o, f_startOff o, f_endKind o, f_endOff o, f_fn o, f_fnArg o) = c ∧ (f_res o, f_resNull o, f_frameCnt o) = d ∧ (f_sorted o, f_sortedLen o, f_curPos o) = e
theorem Sh_computed {c : List Int32 × List Int32 × List Int32 × List Int32 × Int32 × Int32 × Int32 × Int32 × Int32 × Int32 × Int32 × Int32 × Int32 × Int32 × Int32} {d : List Int64 × List Int32 × List Int32} {e : List Int32 × Int32 × Int32} {o : Ob} {x : Int32} (h : Sh c d e o) : Sh c d e (s_computed o x) := by
 dsimp only [Sh, f_part, f_keys, f_vals, f_flg, f_res, f_resNull, f_frameCnt, f_sorted, f_cap, f_rows, f_direction, f_nulls, f_mode, f_startKind, f_startOff, f_endKind, f_endOff, f_fn, f_fnArg, f_sortedLen, f_curPos, s_computed] at h ⊢
 exact h
theorem Sh_aggSum {c : List Int32 × List Int32 × List Int32 × List Int32 × Int32 × Int32 × Int32 × Int32 × Int32 × Int32 × Int32 × Int32 × Int32 × Int32 × Int32} {d : List Int64 × List Int32 × List Int32} {e : List Int32 × Int32 × Int32} {o : Ob} {x : Int64} (h : Sh c d e o) : Sh c d e (s_aggSum o x) := by
 dsimp only [Sh, f_part, f_keys, f_vals, f_flg, f_res, f_resNull, f_frameCnt, f_sorted, f_cap, f_rows, f_direction, f_nulls, f_mode, f_startKind, f_startOff, f_endKind, f_endOff, f_fn, f_fnArg, f_sortedLen, f_curPos, s_aggSum] at h ⊢
 exact h
theorem Sh_aggCount {c : List Int32 × List Int32 × List Int32 × List Int32 × Int32 × Int32 × Int32 × Int32 × Int32 × Int32 × Int32 × Int32 × Int32 × Int32 × Int32} {d : List Int64 × List Int32 × List Int32} {e : List Int32 × Int32 × Int32} {o : Ob} {x : Int32} (h : Sh c d e o) : Sh c d e (s_aggCount o x) := by
 dsimp only [Sh, f_part, f_keys, f_vals, f_flg, f_res, f_resNull, f_frameCnt, f_sorted, f_cap, f_rows, f_direction, f_nulls, f_mode, f_startKind, f_startOff, f_endKind, f_endOff, f_fn, f_fnArg, f_sortedLen, f_curPos, s_aggCount] at h ⊢
 exact h
theorem Sh_aggRows {c : List Int32 × List Int32 × List Int32 × List Int32 × Int32 × Int32 × Int32 × Int32 × Int32 × Int32 × Int32 × Int32 × Int32 × Int32 × Int32} {d : List Int64 × List Int32 × List Int32} {e : List Int32 × Int32 × Int32} {o : Ob} {x : Int32} (h : Sh c d e o) : Sh c d e (s_aggRows o x) := by
 dsimp only [Sh, f_part, f_keys, f_vals, f_flg, f_res, f_resNull, f_frameCnt, f_sorted, f_cap, f_rows, f_direction, f_nulls, f_mode, f_startKind, f_startOff, f_endKind, f_endOff, f_fn, f_fnArg, f_sortedLen, f_curPos, s_aggRows] at h ⊢
 exact h
theorem Sh_aggMin {c : List Int32 × List Int32 × List Int32 × List Int32 × Int32 × Int32 × Int32 × Int32 × Int32 × Int32 × Int32 × Int32 × Int32 × Int32 × Int32} {d : List Int64 × List Int32 × List Int32} {e : List Int32 × Int32 × Int32} {o : Ob} {x : Int32} (h : Sh c d e o) : Sh c d e (s_aggMin o x) := by
 dsimp only [Sh, f_part, f_keys, f_vals, f_flg, f_res, f_resNull, f_frameCnt, f_sorted, f_cap, f_rows, f_direction, f_nulls, f_mode, f_startKind, f_startOff, f_endKind, f_endOff, f_fn, f_fnArg, f_sortedLen, f_curPos, s_aggMin] at h ⊢
 exact h
theorem Sh_aggMax {c : List Int32 × List Int32 × List Int32 × List Int32 × Int32 × Int32 × Int32 × Int32 × Int32 × Int32 × Int32 × Int32 × Int32 × Int32 × Int32} {d : List Int64 × List Int32 × List Int32} {e : List Int32 × Int32 × Int32} {o : Ob} {x : Int32} (h : Sh c d e o) : Sh c d e (s_aggMax o x) := by
 dsimp only [Sh, f_part, f_keys, f_vals, f_flg, f_res, f_resNull, f_frameCnt, f_sorted, f_cap, f_rows, f_direction, f_nulls, f_mode, f_startKind, f_startOff, f_endKind, f_endOff, f_fn, f_fnArg, f_sortedLen, f_curPos, s_aggMax] at h ⊢
 exact h
abbrev CC := List Int32 × List Int32 × List Int32 × List Int32 × Int32 × Int32 × Int32 × Int32 × Int32 × Int32 × Int32 × Int32 × Int32 × Int32 × Int32
abbrev DD := List Int64 × List Int32 × List Int32
abbrev EE := List Int32 × Int32 × Int32
theorem gs_aggSum (o : Ob) (v : Int64) : f_part (s_aggSum o v) = f_part o ∧ f_keys (s_aggSum o v) = f_keys o ∧ f_vals (s_aggSum o v) = f_vals o ∧ f_flg (s_aggSum o v) = f_flg o ∧ f_res (s_aggSum o v) = f_res o ∧ f_resNull (s_aggSum o v) = f_resNull o ∧ f_frameCnt (s_aggSum o v) = f_frameCnt o ∧ f_sorted (s_aggSum o v) = f_sorted o ∧ f_cap (s_aggSum o v) = f_cap o ∧ f_rows (s_aggSum o v) = f_rows o ∧ f_direction (s_aggSum o v) = f_direction o ∧ f_nulls (s_aggSum o v) = f_nulls o ∧ f_mode (s_aggSum o v) = f_mode o ∧ f_startKind (s_aggSum o v) = f_startKind o ∧ f_startOff (s_aggSum o v) = f_startOff o ∧ f_endKind (s_aggSum o v) = f_endKind o ∧ f_endOff (s_aggSum o v) = f_endOff o ∧ f_fn (s_aggSum o v) = f_fn o ∧ f_fnArg (s_aggSum o v) = f_fnArg o ∧ f_computed (s_aggSum o v) = f_computed o ∧ f_sortedLen (s_aggSum o v) = f_sortedLen o ∧ f_curPos (s_aggSum o v) = f_curPos o ∧ f_aggSum (s_aggSum o v) = v ∧ f_aggCount (s_aggSum o v) = f_aggCount o ∧ f_aggRows (s_aggSum o v) = f_aggRows o ∧ f_aggMin (s_aggSum o v) = f_aggMin o ∧ f_aggMax (s_aggSum o v) = f_aggMax o := by
 simp only [f_part, f_keys, f_vals, f_flg, f_res, f_resNull, f_frameCnt, f_sorted, f_cap, f_rows, f_direction, f_nulls, f_mode, f_startKind, f_startOff, f_endKind, f_endOff, f_fn, f_fnArg, f_computed, f_sortedLen, f_curPos, f_aggSum, f_aggCount, f_aggRows, f_aggMin, f_aggMax, s_aggSum, and_self]
theorem gs_aggCount (o : Ob) (v : Int32) : f_part (s_aggCount o v) = f_part o ∧ f_keys (s_aggCount o v) = f_keys o ∧ f_vals (s_aggCount o v) = f_vals o ∧ f_flg (s_aggCount o v) = f_flg o ∧ f_res (s_aggCount o v) = f_res o ∧ f_resNull (s_aggCount o v) = f_resNull o ∧ f_frameCnt (s_aggCount o v) = f_frameCnt o ∧ f_sorted (s_aggCount o v) = f_sorted o ∧ f_cap (s_aggCount o v) = f_cap o ∧ f_rows (s_aggCount o v) = f_rows o ∧ f_direction (s_aggCount o v) = f_direction o ∧ f_nulls (s_aggCount o v) = f_nulls o ∧ f_mode (s_aggCount o v) = f_mode o ∧ f_startKind (s_aggCount o v) = f_startKind o ∧ f_startOff (s_aggCount o v) = f_startOff o ∧ f_endKind (s_aggCount o v) = f_endKind o ∧ f_endOff (s_aggCount o v) = f_endOff o ∧ f_fn (s_aggCount o v) = f_fn o ∧ f_fnArg (s_aggCount o v) = f_fnArg o ∧ f_computed (s_aggCount o v) = f_computed o ∧ f_sortedLen (s_aggCount o v) = f_sortedLen o ∧ f_curPos (s_aggCount o v) = f_curPos o ∧ f_aggSum (s_aggCount o v) = f_aggSum o ∧ f_aggCount (s_aggCount o v) = v ∧ f_aggRows (s_aggCount o v) = f_aggRows o ∧ f_aggMin (s_aggCount o v) = f_aggMin o ∧ f_aggMax (s_aggCount o v) = f_aggMax o := by
 simp only [f_part, f_keys, f_vals, f_flg, f_res, f_resNull, f_frameCnt, f_sorted, f_cap, f_rows, f_direction, f_nulls, f_mode, f_startKind, f_startOff, f_endKind, f_endOff, f_fn, f_fnArg, f_computed, f_sortedLen, f_curPos, f_aggSum, f_aggCount, f_aggRows, f_aggMin, f_aggMax, s_aggCount, and_self]
theorem gs_aggRows (o : Ob) (v : Int32) : f_part (s_aggRows o v) = f_part o ∧ f_keys (s_aggRows o v) = f_keys o ∧ f_vals (s_aggRows o v) = f_vals o ∧ f_flg (s_aggRows o v) = f_flg o ∧ f_res (s_aggRows o v) = f_res o ∧ f_resNull (s_aggRows o v) = f_resNull o ∧ f_frameCnt (s_aggRows o v) = f_frameCnt o ∧ f_sorted (s_aggRows o v) = f_sorted o ∧ f_cap (s_aggRows o v) = f_cap o ∧ f_rows (s_aggRows o v) = f_rows o ∧ f_direction (s_aggRows o v) = f_direction o ∧ f_nulls (s_aggRows o v) = f_nulls o ∧ f_mode (s_aggRows o v) = f_mode o ∧ f_startKind (s_aggRows o v) = f_startKind o ∧ f_startOff (s_aggRows o v) = f_startOff o ∧ f_endKind (s_aggRows o v) = f_endKind o ∧ f_endOff (s_aggRows o v) = f_endOff o ∧ f_fn (s_aggRows o v) = f_fn o ∧ f_fnArg (s_aggRows o v) = f_fnArg o ∧ f_computed (s_aggRows o v) = f_computed o ∧ f_sortedLen (s_aggRows o v) = f_sortedLen o ∧ f_curPos (s_aggRows o v) = f_curPos o ∧ f_aggSum (s_aggRows o v) = f_aggSum o ∧ f_aggCount (s_aggRows o v) = f_aggCount o ∧ f_aggRows (s_aggRows o v) = v ∧ f_aggMin (s_aggRows o v) = f_aggMin o ∧ f_aggMax (s_aggRows o v) = f_aggMax o := by
 simp only [f_part, f_keys, f_vals, f_flg, f_res, f_resNull, f_frameCnt, f_sorted, f_cap, f_rows, f_direction, f_nulls, f_mode, f_startKind, f_startOff, f_endKind, f_endOff, f_fn, f_fnArg, f_computed, f_sortedLen, f_curPos, f_aggSum, f_aggCount, f_aggRows, f_aggMin, f_aggMax, s_aggRows, and_self]
theorem gs_aggMin (o : Ob) (v : Int32) : f_part (s_aggMin o v) = f_part o ∧ f_keys (s_aggMin o v) = f_keys o ∧ f_vals (s_aggMin o v) = f_vals o ∧ f_flg (s_aggMin o v) = f_flg o ∧ f_res (s_aggMin o v) = f_res o ∧ f_resNull (s_aggMin o v) = f_resNull o ∧ f_frameCnt (s_aggMin o v) = f_frameCnt o ∧ f_sorted (s_aggMin o v) = f_sorted o ∧ f_cap (s_aggMin o v) = f_cap o ∧ f_rows (s_aggMin o v) = f_rows o ∧ f_direction (s_aggMin o v) = f_direction o ∧ f_nulls (s_aggMin o v) = f_nulls o ∧ f_mode (s_aggMin o v) = f_mode o ∧ f_startKind (s_aggMin o v) = f_startKind o ∧ f_startOff (s_aggMin o v) = f_startOff o ∧ f_endKind (s_aggMin o v) = f_endKind o ∧ f_endOff (s_aggMin o v) = f_endOff o ∧ f_fn (s_aggMin o v) = f_fn o ∧ f_fnArg (s_aggMin o v) = f_fnArg o ∧ f_computed (s_aggMin o v) = f_computed o ∧ f_sortedLen (s_aggMin o v) = f_sortedLen o ∧ f_curPos (s_aggMin o v) = f_curPos o ∧ f_aggSum (s_aggMin o v) = f_aggSum o ∧ f_aggCount (s_aggMin o v) = f_aggCount o ∧ f_aggRows (s_aggMin o v) = f_aggRows o ∧ f_aggMin (s_aggMin o v) = v ∧ f_aggMax (s_aggMin o v) = f_aggMax o := by
 simp only [f_part, f_keys, f_vals, f_flg, f_res, f_resNull, f_frameCnt, f_sorted, f_cap, f_rows, f_direction, f_nulls, f_mode, f_startKind, f_startOff, f_endKind, f_endOff, f_fn, f_fnArg, f_computed, f_sortedLen, f_curPos, f_aggSum, f_aggCount, f_aggRows, f_aggMin, f_aggMax, s_aggMin, and_self]
theorem gs_aggMax (o : Ob) (v : Int32) : f_part (s_aggMax o v) = f_part o ∧ f_keys (s_aggMax o v) = f_keys o ∧ f_vals (s_aggMax o v) = f_vals o ∧ f_flg (s_aggMax o v) = f_flg o ∧ f_res (s_aggMax o v) = f_res o ∧ f_resNull (s_aggMax o v) = f_resNull o ∧ f_frameCnt (s_aggMax o v) = f_frameCnt o ∧ f_sorted (s_aggMax o v) = f_sorted o ∧ f_cap (s_aggMax o v) = f_cap o ∧ f_rows (s_aggMax o v) = f_rows o ∧ f_direction (s_aggMax o v) = f_direction o ∧ f_nulls (s_aggMax o v) = f_nulls o ∧ f_mode (s_aggMax o v) = f_mode o ∧ f_startKind (s_aggMax o v) = f_startKind o ∧ f_startOff (s_aggMax o v) = f_startOff o ∧ f_endKind (s_aggMax o v) = f_endKind o ∧ f_endOff (s_aggMax o v) = f_endOff o ∧ f_fn (s_aggMax o v) = f_fn o ∧ f_fnArg (s_aggMax o v) = f_fnArg o ∧ f_computed (s_aggMax o v) = f_computed o ∧ f_sortedLen (s_aggMax o v) = f_sortedLen o ∧ f_curPos (s_aggMax o v) = f_curPos o ∧ f_aggSum (s_aggMax o v) = f_aggSum o ∧ f_aggCount (s_aggMax o v) = f_aggCount o ∧ f_aggRows (s_aggMax o v) = f_aggRows o ∧ f_aggMin (s_aggMax o v) = f_aggMin o ∧ f_aggMax (s_aggMax o v) = v := by
 simp only [f_part, f_keys, f_vals, f_flg, f_res, f_resNull, f_frameCnt, f_sorted, f_cap, f_rows, f_direction, f_nulls, f_mode, f_startKind, f_startOff, f_endKind, f_endOff, f_fn, f_fnArg, f_computed, f_sortedLen, f_curPos, f_aggSum, f_aggCount, f_aggRows, f_aggMin, f_aggMax, s_aggMax, and_self]
theorem inc1 {x : Int32} (h : x.toInt < 2147483647) : (x + 1).toInt = x.toInt + 1 := by
 have := i_lo x
 have e1 : (1 : Int32).toInt = 1 := rfl
 rw [i_add (by omega) (by omega), e1]
theorem j_add {x y : Int64} (h1 : -9223372036854775808 ≤ x.toInt + y.toInt) (h2 : x.toInt + y.toInt < 9223372036854775808) : (x + y).toInt = x.toInt + y.toInt := by
 rw [Int64.toInt_add, Int.bmod_eq_of_le (by omega) (by omega)]
theorem j_sub {x y : Int64} (h1 : -9223372036854775808 ≤ x.toInt - y.toInt) (h2 : x.toInt - y.toInt < 9223372036854775808) : (x - y).toInt = x.toInt - y.toInt := by
 rw [Int64.toInt_sub, Int.bmod_eq_of_le (by omega) (by omega)]
def gd (l : List Int32) (k : Nat) : Int := (l.getD k 0).toInt
theorem gd_set {l : List Int32} {i k : Nat} {v : Int32} (hi : i < l.length) : gd (l.set i v) k = if i = k then v.toInt else gd l k := by
 unfold gd
 rw [List.getD_eq_getElem?_getD, List.getD_eq_getElem?_getD, List.getElem?_set]
 by_cases h : i = k
 ·rw [if_pos h, if_pos h, if_pos hi]; rfl
 ·rw [if_neg h, if_neg h]
theorem okP_agd {l : List Int32} {j : Int32} {P : Int32 → Prop} (h0 : 0 ≤ j.toInt) (h1 : j.toInt < l.length) (k : ∀ w : Int32, w.toInt = gd l j.toInt.toNat → P w) : okP (aget l j) P := by
 refine okP.aget h0 h1 (fun w hw => k w ?_)
 unfold gd
 rw [List.getD_eq_getElem?_getD, hw]; rfl
def GC (c : CC) : Prop := c.1.length = 32 ∧ c.2.1.length = 32 ∧ c.2.2.1.length = 32 ∧ c.2.2.2.1.length = 32 ∧ 0 ≤ c.2.2.2.2.1.toInt ∧ c.2.2.2.2.1.toInt ≤ 32
def GD (d : DD) : Prop := d.1.length = 32 ∧ d.2.1.length = 32 ∧ d.2.2.length = 32
def GE (c : CC) (e : EE) : Prop := e.1.length = 32 ∧ 0 ≤ e.2.1.toInt ∧ e.2.1.toInt ≤ c.2.2.2.2.1.toInt ∧ 0 ≤ e.2.2.toInt ∧ e.2.2.toInt < c.2.2.2.2.1.toInt ∧ ∀ k, k < e.2.1.toInt.toNat → 0 ≤ gd e.1 k ∧ gd e.1 k < c.2.2.2.2.1.toInt
theorem g_part {c : CC} {d : DD} {e : EE} {o : Ob} (h : Sh c d e o) : f_part o = c.1 := congrArg (fun x : CC => x.1) h.1
theorem g_keys {c : CC} {d : DD} {e : EE} {o : Ob} (h : Sh c d e o) : f_keys o = c.2.1 := congrArg (fun x : CC => x.2.1) h.1
theorem g_vals {c : CC} {d : DD} {e : EE} {o : Ob} (h : Sh c d e o) : f_vals o = c.2.2.1 := congrArg (fun x : CC => x.2.2.1) h.1
theorem g_flg {c : CC} {d : DD} {e : EE} {o : Ob} (h : Sh c d e o) : f_flg o = c.2.2.2.1 := congrArg (fun x : CC => x.2.2.2.1) h.1
theorem g_rows {c : CC} {d : DD} {e : EE} {o : Ob} (h : Sh c d e o) : f_rows o = c.2.2.2.2.1 := congrArg (fun x : CC => x.2.2.2.2.1) h.1
theorem g_fn {c : CC} {d : DD} {e : EE} {o : Ob} (h : Sh c d e o) : f_fn o = c.2.2.2.2.2.2.2.2.2.2.2.2.2.1 := congrArg (fun x : CC => x.2.2.2.2.2.2.2.2.2.2.2.2.2.1) h.1
theorem g_res {c : CC} {d : DD} {e : EE} {o : Ob} (h : Sh c d e o) : f_res o = d.1 := congrArg (fun x : DD => x.1) h.2.1
theorem g_nul {c : CC} {d : DD} {e : EE} {o : Ob} (h : Sh c d e o) : f_resNull o = d.2.1 := congrArg (fun x : DD => x.2.1) h.2.1
theorem g_fc {c : CC} {d : DD} {e : EE} {o : Ob} (h : Sh c d e o) : f_frameCnt o = d.2.2 := congrArg (fun x : DD => x.2.2) h.2.1
theorem g_so {c : CC} {d : DD} {e : EE} {o : Ob} (h : Sh c d e o) : f_sorted o = e.1 := congrArg (fun x : EE => x.1) h.2.2
theorem g_sl {c : CC} {d : DD} {e : EE} {o : Ob} (h : Sh c d e o) : f_sortedLen o = e.2.1 := congrArg (fun x : EE => x.2.1) h.2.2
theorem g_cp {c : CC} {d : DD} {e : EE} {o : Ob} (h : Sh c d e o) : f_curPos o = e.2.2 := congrArg (fun x : EE => x.2.2) h.2.2
theorem w_so {c : CC} {d : DD} {e : EE} {o : Ob} (h : Sh c d e o) (x : List Int32) : Sh c d (x, e.2) (s_sorted o x) := by
 obtain ⟨a, b, r⟩ := h
 subst r
 dsimp only [Sh, f_part, f_keys, f_vals, f_flg, f_res, f_resNull, f_frameCnt, f_sorted, f_cap, f_rows, f_direction, f_nulls, f_mode, f_startKind, f_startOff, f_endKind, f_endOff, f_fn, f_fnArg, f_computed, f_sortedLen, f_curPos, f_aggSum, f_aggCount, f_aggRows, f_aggMin, f_aggMax, s_sorted] at a b ⊢
 exact ⟨a, b, rfl⟩
theorem w_sl {c : CC} {d : DD} {e : EE} {o : Ob} (h : Sh c d e o) (x : Int32) : Sh c d (e.1, x, e.2.2) (s_sortedLen o x) := by
 obtain ⟨a, b, r⟩ := h
 subst r
 dsimp only [Sh, f_part, f_keys, f_vals, f_flg, f_res, f_resNull, f_frameCnt, f_sorted, f_cap, f_rows, f_direction, f_nulls, f_mode, f_startKind, f_startOff, f_endKind, f_endOff, f_fn, f_fnArg, f_computed, f_sortedLen, f_curPos, f_aggSum, f_aggCount, f_aggRows, f_aggMin, f_aggMax, s_sortedLen] at a b ⊢
 exact ⟨a, b, rfl⟩
theorem w_cp {c : CC} {d : DD} {e : EE} {o : Ob} (h : Sh c d e o) (x : Int32) : Sh c d (e.1, e.2.1, x) (s_curPos o x) := by
 obtain ⟨a, b, r⟩ := h
 subst r
 dsimp only [Sh, f_part, f_keys, f_vals, f_flg, f_res, f_resNull, f_frameCnt, f_sorted, f_cap, f_rows, f_direction, f_nulls, f_mode, f_startKind, f_startOff, f_endKind, f_endOff, f_fn, f_fnArg, f_computed, f_sortedLen, f_curPos, f_aggSum, f_aggCount, f_aggRows, f_aggMin, f_aggMax, s_curPos] at a b ⊢
 exact ⟨a, b, rfl⟩
theorem w_fc {c : CC} {d : DD} {e : EE} {o : Ob} (h : Sh c d e o) (x : List Int32) : Sh c (d.1, d.2.1, x) e (s_frameCnt o x) := by
 obtain ⟨a, b, r⟩ := h
 subst b
 dsimp only [Sh, f_part, f_keys, f_vals, f_flg, f_res, f_resNull, f_frameCnt, f_sorted, f_cap, f_rows, f_direction, f_nulls, f_mode, f_startKind, f_startOff, f_endKind, f_endOff, f_fn, f_fnArg, f_computed, f_sortedLen, f_curPos, f_aggSum, f_aggCount, f_aggRows, f_aggMin, f_aggMax, s_frameCnt] at a r ⊢
 exact ⟨a, rfl, r⟩
theorem w_rn {c : CC} {d : DD} {e : EE} {o : Ob} (h : Sh c d e o) (x : List Int64) (y : List Int32) : Sh c (x, y, d.2.2) e (s_res (s_resNull o y) x) := by
 obtain ⟨a, b, r⟩ := h
 subst b
 dsimp only [Sh, f_part, f_keys, f_vals, f_flg, f_res, f_resNull, f_frameCnt, f_sorted, f_cap, f_rows, f_direction, f_nulls, f_mode, f_startKind, f_startOff, f_endKind, f_endOff, f_fn, f_fnArg, f_computed, f_sortedLen, f_curPos, f_aggSum, f_aggCount, f_aggRows, f_aggMin, f_aggMax, s_res, s_resNull] at a r ⊢
 exact ⟨a, rfl, r⟩
theorem knull {c : CC} {d : DD} {e : EE} {o : Ob} (h : Sh c d e o) (G : GC c) {x : Int32} (x0 : 0 ≤ x.toInt) (x1 : x.toInt < 32) : okP (F28 o x) (fun _ => True) := by
 unfold F28
 rw [g_flg h]
 apply okP.bind
 refine okP.aget x0 (by rw [G.2.2.2.1]; omega) (fun y _ => ?_)
 apply okP.ite <;> intro _ <;> exact okP.some trivial
theorem vnull {c : CC} {d : DD} {e : EE} {o : Ob} (h : Sh c d e o) (G : GC c) {x : Int32} (x0 : 0 ≤ x.toInt) (x1 : x.toInt < 32) : okP (F29 o x) (fun _ => True) := by
 unfold F29
 rw [g_flg h]
 apply okP.bind
 refine okP.aget x0 (by rw [G.2.2.2.1]; omega) (fun y _ => ?_)
 apply okP.ite <;> intro _ <;> exact okP.some trivial
theorem key_at {c : CC} {d : DD} {e : EE} {o : Ob} (h : Sh c d e o) (G : GC c) {x : Int32} (x0 : 0 ≤ x.toInt) (x1 : x.toInt < 32) {P : Int32 → Prop} (k : ∀ w, P w) : okP (aget (f_keys o) x) P := by
 rw [g_keys h]
 exact okP.aget x0 (by rw [G.2.1]; omega) (fun w _ => k w)
theorem before_ok {c : CC} {d : DD} {e : EE} {o : Ob} (h : Sh c d e o) (G : GC c) {x y : Int32} (x0 : 0 ≤ x.toInt) (x1 : x.toInt < 32) (y0 : 0 ≤ y.toInt) (y1 : y.toInt < 32) : okP (F32 o x y) (fun _ => True) := by
 unfold F32 J32_51
 apply okP.ite <;> intro _
 ·repeat' with_reducible (first | exact okP.some trivial | (apply okP.ite <;> intro _) | (apply okP.bind; refine key_at h G (by assumption) (by assumption) (fun _ => ?_)))
 apply okP.bind
 refine okP.mono (knull h G x0 x1) (fun _ _ => ?_)
 apply okP.bind
 refine okP.mono (knull h G y0 y1) (fun _ _ => ?_)
 repeat' with_reducible (first | exact okP.some trivial | (apply okP.ite <;> intro _) | (apply okP.bind; refine key_at h G (by assumption) (by assumption) (fun _ => ?_)))
theorem peer_ok {c : CC} {d : DD} {e : EE} {o : Ob} (h : Sh c d e o) (G : GC c) {x y : Int32} (x0 : 0 ≤ x.toInt) (x1 : x.toInt < 32) (y0 : 0 ≤ y.toInt) (y1 : y.toInt < 32) : okP (F27 o x y) (fun _ => True) := by
 unfold F27 J27_33
 apply okP.ite <;> intro _
 ·repeat' with_reducible (first | exact okP.some trivial | (apply okP.ite <;> intro _) | (apply okP.bind; refine key_at h G (by assumption) (by assumption) (fun _ => ?_)))
 apply okP.bind
 refine okP.mono (knull h G x0 x1) (fun _ _ => ?_)
 apply okP.bind
 refine okP.mono (knull h G y0 y1) (fun _ _ => ?_)
 repeat' with_reducible (first | exact okP.some trivial | (apply okP.ite <;> intro _) | (apply okP.bind; refine key_at h G (by assumption) (by assumption) (fun _ => ?_)))
theorem dist_ok {c : CC} {d : DD} {e : EE} {o : Ob} (h : Sh c d e o) (G : GC c) {x y : Int32} (x0 : 0 ≤ x.toInt) (x1 : x.toInt < 32) (y0 : 0 ≤ y.toInt) (y1 : y.toInt < 32) : okP (F37 o x y) (fun _ => True) := by
 unfold F37
 repeat' with_reducible (first | exact okP.some trivial | (apply okP.ite <;> intro _) | (apply okP.bind; refine key_at h G (by assumption) (by assumption) (fun _ => ?_)))
theorem rs_ok {c : CC} {d : DD} {e : EE} {o : Ob} (h : Sh c d e o) (G : GC c) {x y : Int32} (x0 : 0 ≤ x.toInt) (x1 : x.toInt < 32) (y0 : 0 ≤ y.toInt) (y1 : y.toInt < 32) (a b : Int32) : okP (F25 o x y a b) (fun _ => True) := by
 unfold F25
 apply okP.ite <;> intro _
 ·repeat' with_reducible (first | exact okP.some trivial | (apply okP.ite <;> intro _) | (apply okP.bind; refine key_at h G (by assumption) (by assumption) (fun _ => ?_)))
 apply okP.ite <;> intro _
 ·repeat' with_reducible (first | exact okP.some trivial | (apply okP.ite <;> intro _) | (apply okP.bind; refine key_at h G (by assumption) (by assumption) (fun _ => ?_)))
 apply okP.bind
 refine okP.mono (peer_ok h G x0 x1 y0 y1) (fun _ _ => ?_)
 apply okP.ite <;> intro _
 ·repeat' with_reducible (first | exact okP.some trivial | (apply okP.ite <;> intro _) | (apply okP.bind; refine key_at h G (by assumption) (by assumption) (fun _ => ?_)))
 apply okP.bind
 refine okP.mono (knull h G x0 x1) (fun _ _ => ?_)
 apply okP.ite <;> intro _
 ·apply okP.bind
  refine okP.mono (knull h G y0 y1) (fun _ _ => ?_)
  apply okP.ite <;> intro _
  ·apply okP.bind
   refine okP.mono (dist_ok h G x0 x1 y0 y1) (fun _ _ => ?_)
   repeat' with_reducible (first | exact okP.some trivial | (apply okP.ite <;> intro _) | (apply okP.bind; refine key_at h G (by assumption) (by assumption) (fun _ => ?_)))
  ·repeat' with_reducible (first | exact okP.some trivial | (apply okP.ite <;> intro _) | (apply okP.bind; refine key_at h G (by assumption) (by assumption) (fun _ => ?_)))
 ·repeat' with_reducible (first | exact okP.some trivial | (apply okP.ite <;> intro _) | (apply okP.bind; refine key_at h G (by assumption) (by assumption) (fun _ => ?_)))
theorem re_ok {c : CC} {d : DD} {e : EE} {o : Ob} (h : Sh c d e o) (G : GC c) {x y : Int32} (x0 : 0 ≤ x.toInt) (x1 : x.toInt < 32) (y0 : 0 ≤ y.toInt) (y1 : y.toInt < 32) (a b : Int32) : okP (F26 o x y a b) (fun _ => True) := by
 unfold F26
 apply okP.ite <;> intro _
 ·repeat' with_reducible (first | exact okP.some trivial | (apply okP.ite <;> intro _) | (apply okP.bind; refine key_at h G (by assumption) (by assumption) (fun _ => ?_)))
 apply okP.ite <;> intro _
 ·repeat' with_reducible (first | exact okP.some trivial | (apply okP.ite <;> intro _) | (apply okP.bind; refine key_at h G (by assumption) (by assumption) (fun _ => ?_)))
 apply okP.bind
 refine okP.mono (peer_ok h G x0 x1 y0 y1) (fun _ _ => ?_)
 apply okP.ite <;> intro _
 ·repeat' with_reducible (first | exact okP.some trivial | (apply okP.ite <;> intro _) | (apply okP.bind; refine key_at h G (by assumption) (by assumption) (fun _ => ?_)))
 apply okP.bind
 refine okP.mono (knull h G x0 x1) (fun _ _ => ?_)
 apply okP.ite <;> intro _
 ·apply okP.bind
  refine okP.mono (knull h G y0 y1) (fun _ _ => ?_)
  apply okP.ite <;> intro _
  ·apply okP.bind
   refine okP.mono (dist_ok h G x0 x1 y0 y1) (fun _ _ => ?_)
   repeat' with_reducible (first | exact okP.some trivial | (apply okP.ite <;> intro _) | (apply okP.bind; refine key_at h G (by assumption) (by assumption) (fun _ => ?_)))
  ·repeat' with_reducible (first | exact okP.some trivial | (apply okP.ite <;> intro _) | (apply okP.bind; refine key_at h G (by assumption) (by assumption) (fun _ => ?_)))
 ·repeat' with_reducible (first | exact okP.some trivial | (apply okP.ite <;> intro _) | (apply okP.bind; refine key_at h G (by assumption) (by assumption) (fun _ => ?_)))
theorem frame_ok {c : CC} {d : DD} {e : EE} {o : Ob} (h : Sh c d e o) (G : GC c) {x y : Int32} (x0 : 0 ≤ x.toInt) (x1 : x.toInt < 32) (y0 : 0 ≤ y.toInt) (y1 : y.toInt < 32) (a b : Int32) : okP (F24 o x y a b) (fun _ => True) := by
 unfold F24
 have p1 : okP (F34 o a b) (fun _ => True) := by unfold F34; repeat' with_reducible (first | exact okP.some trivial | (apply okP.ite <;> intro _) | (apply okP.bind; refine key_at h G (by assumption) (by assumption) (fun _ => ?_)))
 have p2 : okP (F35 o a b) (fun _ => True) := by unfold F35; repeat' with_reducible (first | exact okP.some trivial | (apply okP.ite <;> intro _) | (apply okP.bind; refine key_at h G (by assumption) (by assumption) (fun _ => ?_)))
 apply okP.ite <;> intro _
 ·apply okP.bind
  refine okP.mono p1 (fun _ _ => ?_)
  apply okP.ite <;> intro _
  ·repeat' with_reducible (first | exact okP.some trivial | (apply okP.ite <;> intro _) | (apply okP.bind; refine key_at h G (by assumption) (by assumption) (fun _ => ?_)))
  apply okP.bind
  refine okP.mono p2 (fun _ _ => ?_)
  repeat' with_reducible (first | exact okP.some trivial | (apply okP.ite <;> intro _) | (apply okP.bind; refine key_at h G (by assumption) (by assumption) (fun _ => ?_)))
 ·apply okP.bind
  refine okP.mono (rs_ok h G x0 x1 y0 y1 a b) (fun _ _ => ?_)
  apply okP.ite <;> intro _
  ·repeat' with_reducible (first | exact okP.some trivial | (apply okP.ite <;> intro _) | (apply okP.bind; refine key_at h G (by assumption) (by assumption) (fun _ => ?_)))
  apply okP.bind
  refine okP.mono (re_ok h G x0 x1 y0 y1 a b) (fun _ _ => ?_)
  repeat' with_reducible (first | exact okP.some trivial | (apply okP.ite <;> intro _) | (apply okP.bind; refine key_at h G (by assumption) (by assumption) (fun _ => ?_)))
theorem build_ok {c : CC} {d : DD} {e : EE} {o : Ob} (h : Sh c d e o) (G : GC c) (hs : e.1.length = 32) {x : Int32} (x0 : 0 ≤ x.toInt) (x1 : x.toInt < c.2.2.2.2.1.toInt) : okP (F22 o x) (fun p => ∃ e', GE c e' ∧ Sh c d e' p) := by
 obtain ⟨G1, G2, G3, G4, r0, r1⟩ := id G
 have z0 : (0 : Int32).toInt = 0 := rfl
 have zm : (-1 : Int32).toInt = -1 := rfl
 have z1 : (1 : Int32).toInt = 1 := rfl
 unfold F22
 rw [g_part h]
 apply okP.bind
 refine okP.aget x0 (by omega) (fun pp _ => ?_)
 apply okP.bind
 refine okP.loop (fun w => 0 ≤ w.2.1.toInt ∧ w.2.1.toInt ≤ c.2.2.2.2.1.toInt ∧ 0 ≤ w.1.toInt ∧ w.1.toInt ≤ w.2.1.toInt ∧ ∃ s : List Int32, s.length = 32 ∧ (∀ k, k < w.1.toInt.toNat → 0 ≤ gd s k ∧ gd s k < c.2.2.2.2.1.toInt) ∧ Sh c d (s, e.2) w.2.2) (fun w => (32 - w.2.1.toInt).toNat) ⟨by show (0 : Int) ≤ 0; decide, r0, by show (0 : Int) ≤ 0; decide, by show (0 : Int) ≤ 0; decide, e.1, hs, fun k hk => absurd hk (Nat.not_lt_zero _), h⟩ (by show (32 - (0 : Int)).toNat < 4000; decide) ?_
 rintro ⟨n, i, p⟩ ⟨a1, a2, a3, a4, s, l, hv, hp⟩
 simp only at a1 a2 a3 a4 hv hp
 unfold B22_12
 simp only
 rw [g_rows hp, g_part hp]
 apply okP.ite <;> intro cc
 ·rw [i_lt] at cc
  have e2 : (i + 1).toInt = i.toInt + 1 := inc1 (by omega)
  apply okP.bind
  refine okP.aget a1 (by omega) (fun y _ => ?_)
  apply okP.ite <;> intro _
  ·have inner : okP (loopN (B22_38 x n pp i) qN (n, p)) (fun a => 0 ≤ a.1.toInt ∧ a.1.toInt ≤ n.toInt ∧ ∃ s : List Int32, s.length = 32 ∧ (∀ k, k < n.toInt.toNat + 1 → k ≠ a.1.toInt.toNat → 0 ≤ gd s k ∧ gd s k < c.2.2.2.2.1.toInt) ∧ Sh c d (s, e.2) a.2) := by
    refine okP.loop (fun w => 0 ≤ w.1.toInt ∧ w.1.toInt ≤ n.toInt ∧ ∃ s : List Int32, s.length = 32 ∧ (∀ k, k < n.toInt.toNat + 1 → k ≠ w.1.toInt.toNat → 0 ≤ gd s k ∧ gd s k < c.2.2.2.2.1.toInt) ∧ Sh c d (s, e.2) w.2) (fun w => w.1.toInt.toNat) ⟨a3, Int.le_refl _, s, l, fun k hk hne => hv k (by simp only at hne; omega), hp⟩ (by show n.toInt.toNat < 4000; omega) ?_
    rintro ⟨j, p⟩ ⟨b1, b2, s, l, hv, hp⟩
    simp only at b1 b2 hv hp
    unfold B22_38
    simp only
    apply okP.ite <;> intro jc
    ·rw [i_lt, z0] at jc
     obtain ⟨jm', hjm⟩ : ∃ m, m = j + -1 := ⟨_, rfl⟩
     rw [← hjm]
     have jm : jm'.toInt = j.toInt - 1 := by rw [hjm, i_add (by omega) (by omega), zm]; omega
     have j1 : (j - 1).toInt = j.toInt - 1 := by rw [i_sub (by omega) (by omega), z1]
     have v1 := hv (j.toInt.toNat - 1) (by omega) (by omega)
     rw [show f_sorted p = s from g_so hp]
     apply okP.bind
     refine okP_agd (by omega) (by omega) (fun y hy => ?_)
     have ej : (j - 1).toInt.toNat = j.toInt.toNat - 1 := by omega
     rw [ej] at hy
     apply okP.bind
     refine okP.mono (before_ok hp G a1 (by omega) (by omega) (by omega)) (fun r _ => ?_)
     apply okP.ite <;> intro _
     ·apply okP.some
      exact ⟨b1, b2, s, l, hv, hp⟩
     apply okP.bind
     refine okP_agd (by omega) (by omega) (fun y' hy' => ?_)
     rw [ej] at hy'
     apply okP.bind
     refine okP.aset b1 (by omega) ?_
     apply okP.some
     refine ⟨⟨by simp only; omega, by simp only; omega, s.set j.toInt.toNat y', by rw [List.length_set]; exact l, ?_, w_so hp _⟩, by simp only; omega⟩
     intro k hk hne
     simp only at hne
     rw [gd_set (by omega)]
     by_cases ek : j.toInt.toNat = k
     ·rw [if_pos ek]; omega
     ·rw [if_neg ek]; exact hv k hk (fun q => ek q.symm)
    ·apply okP.some
     exact ⟨b1, b2, s, l, hv, hp⟩
   apply okP.bind
   refine okP.mono inner ?_
   rintro ⟨j, p⟩ ⟨b1, b2, s, l, hv, hp⟩
   simp only at b1 b2 hv hp
   unfold J22_83 J22_95
   simp only
   rw [g_so hp]
   apply okP.bind
   refine okP.aset b1 (by simp only; omega) ?_
   apply okP.some
   have n2 : (n + 1).toInt = n.toInt + 1 := inc1 (by omega)
   refine ⟨⟨by simp only; omega, by simp only; omega, by simp only; omega, by simp only; omega, s.set j.toInt.toNat i, by rw [List.length_set]; exact l, ?_, w_so hp _⟩, by simp only; omega⟩
   intro k hk
   simp only at hk
   rw [gd_set (by omega)]
   by_cases ek : j.toInt.toNat = k
   ·rw [if_pos ek]; omega
   ·rw [if_neg ek]; exact hv k (by omega) (fun q => ek q.symm)
  ·unfold J22_95
   apply okP.some
   exact ⟨⟨by simp only; omega, by simp only; omega, by simp only; omega, by simp only; omega, s, l, hv, hp⟩, by simp only; omega⟩
 ·rw [i_lt] at cc
  apply okP.some
  simp only [Sum.elim_inl]
  apply okP.bind
  have hp2 := w_cp (w_sl hp n) 0
  refine okP.loop (fun w => 0 ≤ w.1.toInt ∧ w.1.toInt ≤ 32 ∧ ∃ u : Int32, 0 ≤ u.toInt ∧ u.toInt < c.2.2.2.2.1.toInt ∧ Sh c d (s, n, u) w.2) (fun w => (32 - w.1.toInt).toNat) ⟨by show (0 : Int) ≤ 0; decide, by show (0 : Int) ≤ 32; decide, 0, by decide, by rw [z0]; omega, hp2⟩ (by show (32 - (0 : Int)).toNat < 4000; decide) ?_
  rintro ⟨w, p⟩ ⟨b1, b2, u, u0, u1, hp⟩
  simp only at b1 b2 hp
  unfold B22_114 J22_137
  simp only
  apply okP.ite <;> intro wc
  ·rw [i_lt] at wc
   have e2 : (w + 1).toInt = w.toInt + 1 := inc1 (by omega)
   rw [g_so hp]
   apply okP.bind
   refine okP.aget b1 (by simp only; omega) (fun y _ => ?_)
   apply okP.ite <;> intro _
   ·apply okP.some
    exact ⟨⟨by simp only; omega, by simp only; omega, w, b1, by omega, w_cp hp w⟩, by simp only; omega⟩
   ·apply okP.some
    exact ⟨⟨by simp only; omega, by simp only; omega, u, u0, u1, hp⟩, by simp only; omega⟩
  ·apply okP.some
   apply okP.some
   exact ⟨(s, n, u), ⟨l, a3, by simp only; omega, u0, u1, hv⟩, hp⟩
theorem agg_ok {c : CC} {d : DD} {e : EE} {o : Ob} (h : Sh c d e o) (G : GC c) (E : GE c e) {x : Int32} (x0 : 0 ≤ x.toInt) (x1 : x.toInt < c.2.2.2.2.1.toInt) : okP (F23 o x) (fun p => Sh c d e p ∧ 0 ≤ (f_aggCount p).toInt ∧ (f_aggCount p).toInt ≤ (f_aggRows p).toInt ∧ (f_aggRows p).toInt ≤ c.2.2.2.2.1.toInt) := by
 obtain ⟨E1, E2, E3, E4, E5, E6⟩ := E
 obtain ⟨G1, G2, G3, G4, r0, r1⟩ := id G
 unfold F23
 rw [g_sl h, g_cp h]
 apply okP.bind
 have h' : Sh c d e (s_aggMax (s_aggMin (s_aggRows (s_aggCount (s_aggSum o 0) 0) 0) 0) 0) := Sh_aggMax (Sh_aggMin (Sh_aggRows (Sh_aggCount (Sh_aggSum h))))
 refine okP.loop (fun w => 0 ≤ w.1.toInt ∧ w.1.toInt ≤ e.2.1.toInt ∧ Sh c d e w.2 ∧ 0 ≤ (f_aggCount w.2).toInt ∧ (f_aggCount w.2).toInt ≤ (f_aggRows w.2).toInt ∧ (f_aggRows w.2).toInt ≤ w.1.toInt) (fun w => (32 - w.1.toInt).toNat) ⟨by show (0 : Int) ≤ 0; decide, E2, h', by simp only [gs_aggRows, gs_aggCount, gs_aggSum, gs_aggMin, gs_aggMax]; decide, by simp only [gs_aggRows, gs_aggCount, gs_aggSum, gs_aggMin, gs_aggMax]; decide, by simp only [gs_aggRows, gs_aggCount, gs_aggSum, gs_aggMin, gs_aggMax]; decide⟩ (by show (32 - (0 : Int)).toNat < 4000; decide) ?_
 rintro ⟨w, p⟩ ⟨a1, a2, hp, a3, a4, a5⟩
 simp only at a1 a2 hp a3 a4 a5
 unfold B23_38
 simp only
 apply okP.ite <;> intro wc
 ·rw [i_lt] at wc
  have e2 : (w + 1).toInt = w.toInt + 1 := inc1 (by omega)
  rw [g_so hp]
  have v1 := E6 w.toInt.toNat (by omega)
  apply okP.bind
  refine okP_agd a1 (by omega) (fun y hy => ?_)
  apply okP.bind
  refine okP.mono (frame_ok hp G x0 (by omega) (by omega) (by omega) _ _) (fun r _ => ?_)
  apply okP.ite <;> intro _
  ·unfold J23_166
   apply okP.some
   exact ⟨⟨by simp only; omega, by simp only; omega, hp, a3, a4, by simp only; omega⟩, by simp only; omega⟩
  have rr : (f_aggRows p + 1).toInt = (f_aggRows p).toInt + 1 := inc1 (by omega)
  obtain ⟨q, hq⟩ : ∃ q, q = s_aggRows p (f_aggRows p + 1) := ⟨_, rfl⟩
  rw [← hq]
  have hqS : Sh c d e q := by rw [hq]; exact Sh_aggRows hp
  have q1 : (f_aggRows q).toInt = (f_aggRows p).toInt + 1 := by rw [hq]; simp only [gs_aggRows, gs_aggCount, gs_aggSum, gs_aggMin, gs_aggMax]; exact rr
  have q2 : f_aggCount q = f_aggCount p := by rw [hq]; simp only [gs_aggRows, gs_aggCount, gs_aggSum, gs_aggMin, gs_aggMax]
  apply okP.bind
  refine okP.mono (vnull hqS G (by omega) (by omega)) (fun r _ => ?_)
  have j166 : ∀ t : Ob, Sh c d e t → 0 ≤ (f_aggCount t).toInt → (f_aggCount t).toInt ≤ (f_aggRows t).toInt → (f_aggRows t).toInt ≤ (w + 1).toInt → okP (J23_166 t x e.2.1 e.2.2 w) (fun r => Sum.elim (fun a => okP (some a) fun p => Sh c d e p ∧ 0 ≤ (f_aggCount p).toInt ∧ (f_aggCount p).toInt ≤ (f_aggRows p).toInt ∧ (f_aggRows p).toInt ≤ c.2.2.2.2.1.toInt) (fun v' => (0 ≤ v'.1.toInt ∧ v'.1.toInt ≤ e.2.1.toInt ∧ Sh c d e v'.2 ∧ 0 ≤ (f_aggCount v'.2).toInt ∧ (f_aggCount v'.2).toInt ≤ (f_aggRows v'.2).toInt ∧ (f_aggRows v'.2).toInt ≤ v'.1.toInt) ∧ (32 - v'.1.toInt).toNat < (32 - w.toInt).toNat) r) := by
   intro t t1 t2 t3 t4
   unfold J23_166
   apply okP.some
   exact ⟨⟨by simp only; omega, by simp only; omega, t1, t2, t3, t4⟩, by simp only; omega⟩
  have j144 : ∀ (t : Ob) (z : Int32), Sh c d e t → f_aggCount t = f_aggCount p → (f_aggRows t).toInt = (f_aggRows p).toInt + 1 → okP (J23_144 t x e.2.1 e.2.2 w z) (fun r => Sum.elim (fun a => okP (some a) fun p => Sh c d e p ∧ 0 ≤ (f_aggCount p).toInt ∧ (f_aggCount p).toInt ≤ (f_aggRows p).toInt ∧ (f_aggRows p).toInt ≤ c.2.2.2.2.1.toInt) (fun v' => (0 ≤ v'.1.toInt ∧ v'.1.toInt ≤ e.2.1.toInt ∧ Sh c d e v'.2 ∧ 0 ≤ (f_aggCount v'.2).toInt ∧ (f_aggCount v'.2).toInt ≤ (f_aggRows v'.2).toInt ∧ (f_aggRows v'.2).toInt ≤ v'.1.toInt) ∧ (32 - v'.1.toInt).toNat < (32 - w.toInt).toNat) r) := by
   intro t z t1 t2 t3
   unfold J23_144
   rw [t2]
   have cc1 : (f_aggCount p + 1).toInt = (f_aggCount p).toInt + 1 := inc1 (by omega)
   obtain ⟨m, hm⟩ : ∃ m, m = f_aggCount p + 1 := ⟨_, rfl⟩
   rw [← hm] at cc1 ⊢
   refine j166 _ (Sh_aggSum (Sh_aggCount t1)) ?_ ?_ ?_
   ·simp only [gs_aggRows, gs_aggCount, gs_aggSum, gs_aggMin, gs_aggMax]; omega
   ·simp only [gs_aggRows, gs_aggCount, gs_aggSum, gs_aggMin, gs_aggMax]; omega
   ·simp only [gs_aggRows, gs_aggCount, gs_aggSum, gs_aggMin, gs_aggMax]; omega
  have j122 : ∀ (t : Ob) (z : Int32), Sh c d e t → f_aggCount t = f_aggCount p → (f_aggRows t).toInt = (f_aggRows p).toInt + 1 → okP (J23_122 t x e.2.1 e.2.2 w z) (fun r => Sum.elim (fun a => okP (some a) fun p => Sh c d e p ∧ 0 ≤ (f_aggCount p).toInt ∧ (f_aggCount p).toInt ≤ (f_aggRows p).toInt ∧ (f_aggRows p).toInt ≤ c.2.2.2.2.1.toInt) (fun v' => (0 ≤ v'.1.toInt ∧ v'.1.toInt ≤ e.2.1.toInt ∧ Sh c d e v'.2 ∧ 0 ≤ (f_aggCount v'.2).toInt ∧ (f_aggCount v'.2).toInt ≤ (f_aggRows v'.2).toInt ∧ (f_aggRows v'.2).toInt ≤ v'.1.toInt) ∧ (32 - v'.1.toInt).toNat < (32 - w.toInt).toNat) r) := by
   intro t z t1 t2 t3
   unfold J23_122 J23_138
   have k : ∀ y : Int32, f_aggCount (s_aggMax t y) = f_aggCount t ∧ f_aggRows (s_aggMax t y) = f_aggRows t := by intro y; simp only [gs_aggRows, gs_aggCount, gs_aggSum, gs_aggMin, gs_aggMax, and_self]
   apply okP.ite <;> intro _
   ·exact j144 _ z (Sh_aggMax t1) (by rw [(k z).1]; exact t2) (by rw [(k z).2]; exact t3)
   apply okP.ite <;> intro _
   ·exact j144 _ z (Sh_aggMax t1) (by rw [(k z).1]; exact t2) (by rw [(k z).2]; exact t3)
   ·exact j144 t z t1 t2 t3
  have j116 : ∀ (z : Int32), okP (J23_116 q x e.2.1 e.2.2 w z) (fun r => Sum.elim (fun a => okP (some a) fun p => Sh c d e p ∧ 0 ≤ (f_aggCount p).toInt ∧ (f_aggCount p).toInt ≤ (f_aggRows p).toInt ∧ (f_aggRows p).toInt ≤ c.2.2.2.2.1.toInt) (fun v' => (0 ≤ v'.1.toInt ∧ v'.1.toInt ≤ e.2.1.toInt ∧ Sh c d e v'.2 ∧ 0 ≤ (f_aggCount v'.2).toInt ∧ (f_aggCount v'.2).toInt ≤ (f_aggRows v'.2).toInt ∧ (f_aggRows v'.2).toInt ≤ v'.1.toInt) ∧ (32 - v'.1.toInt).toNat < (32 - w.toInt).toNat) r) := by
   intro z
   unfold J23_116
   have k : ∀ y : Int32, f_aggCount (s_aggMin q y) = f_aggCount q ∧ f_aggRows (s_aggMin q y) = f_aggRows q := by intro y; simp only [gs_aggRows, gs_aggCount, gs_aggSum, gs_aggMin, gs_aggMax, and_self]
   exact j122 _ z (Sh_aggMin hqS) (by rw [(k z).1]; exact q2) (by rw [(k z).2]; exact q1)
  apply okP.ite <;> intro _
  ·rw [g_vals hqS]
   apply okP.bind
   refine okP.aget (by omega) (by omega) (fun z _ => ?_)
   apply okP.ite <;> intro _
   ·exact j116 z
   apply okP.ite <;> intro _
   ·exact j116 z
   ·exact j122 q z hqS q2 q1
  ·exact j166 q hqS (by rw [q2]; exact a3) (by rw [q2]; omega) (by omega)
 ·apply okP.some
  apply okP.some
  exact ⟨hp, a3, a4, by omega⟩
theorem setRes_ok {c : CC} {d : DD} {e : EE} {o : Ob} (h : Sh c d e o) (D : GD d) {x : Int32} (x0 : 0 ≤ x.toInt) (x1 : x.toInt < 32) (v : Int64) (b : Int32) : okP (F31 o x v b) (fun p => Sh c (d.1.set x.toInt.toNat (if b = 0 then v else 0), d.2.1.set x.toInt.toNat (b &&& 1), d.2.2) e p) := by
 unfold F31
 rw [g_nul h, g_res h]
 apply okP.bind
 refine okP.aset x0 (by rw [D.2.1]; omega) ?_
 apply okP.bind
 refine okP.aset x0 (by rw [D.1]; omega) ?_
 apply okP.some
 exact w_rn h _ _
theorem rank_ok {c : CC} {d : DD} {e : EE} {o : Ob} (h : Sh c d e o) (G : GC c) (E : GE c e) {x : Int32} (x0 : 0 ≤ x.toInt) (x1 : x.toInt < c.2.2.2.2.1.toInt) : okP (F38 o x (f_curPos o)) (fun r => 1 ≤ r.toInt ∧ r.toInt ≤ c.2.2.2.2.1.toInt) := by
 obtain ⟨E1, E2, E3, E4, E5, E6⟩ := E
 obtain ⟨G1, G2, G3, G4, r0, r1⟩ := id G
 unfold F38
 rw [g_cp h]
 apply okP.bind
 refine okP.loop (fun w => 0 ≤ w.2.toInt ∧ w.2.toInt ≤ e.2.2.toInt ∧ 1 ≤ w.1.toInt ∧ w.1.toInt ≤ 1 + w.2.toInt) (fun w => (32 - w.2.toInt).toNat) ⟨by show (0 : Int) ≤ 0; decide, E4, by show (1 : Int) ≤ 1; decide, by show (1 : Int) ≤ 1 + 0; decide⟩ (by show (32 - (0 : Int)).toNat < 4000; decide) ?_
 rintro ⟨a, w⟩ ⟨a1, a2, a3, a4⟩
 simp only at a1 a2 a3 a4
 unfold B38_5
 simp only
 rw [g_sl h, g_so h]
 apply okP.ite <;> intro wc
 ·rw [i_lt] at wc
  apply okP.ite <;> intro lc
  ·rw [i_lt] at lc
   have e2 : (w + 1).toInt = w.toInt + 1 := inc1 (by omega)
   have v1 := E6 w.toInt.toNat (by omega)
   apply okP.bind
   refine okP_agd a1 (by omega) (fun y hy => ?_)
   apply okP.bind
   refine okP.mono (peer_ok h G (by omega) (by omega) x0 (by omega)) (fun r _ => ?_)
   apply okP.some
   have ja : (a + 1).toInt = a.toInt + 1 := by rw [j_add (by show _ ≤ a.toInt + 1; omega) (by show a.toInt + 1 < _; omega)]; rfl
   have jb : 1 ≤ (if r = 0 then a + 1 else a).toInt ∧ (if r = 0 then a + 1 else a).toInt ≤ a.toInt + 1 := by split <;> omega
   exact ⟨⟨by simp only; omega, by simp only; omega, by simp only; omega, by simp only; omega⟩, by simp only; omega⟩
  ·exact okP.some (okP.some ⟨a3, by omega⟩)
 ·exact okP.some (okP.some ⟨a3, by omega⟩)
theorem dense_ok {c : CC} {d : DD} {e : EE} {o : Ob} (h : Sh c d e o) (G : GC c) (E : GE c e) {x : Int32} (x0 : 0 ≤ x.toInt) (x1 : x.toInt < c.2.2.2.2.1.toInt) : okP (F33 o x (f_curPos o)) (fun r => 1 ≤ r.toInt ∧ r.toInt ≤ c.2.2.2.2.1.toInt) := by
 obtain ⟨E1, E2, E3, E4, E5, E6⟩ := E
 obtain ⟨G1, G2, G3, G4, r0, r1⟩ := id G
 have z1 : (1 : Int32).toInt = 1 := rfl
 have z0 : (0 : Int32).toInt = 0 := rfl
 unfold F33
 rw [g_cp h]
 apply okP.bind
 refine okP.loop (fun w => 0 ≤ w.2.toInt ∧ w.2.toInt ≤ e.2.2.toInt ∧ 1 ≤ w.1.toInt ∧ w.1.toInt ≤ 1 + w.2.toInt) (fun w => (32 - w.2.toInt).toNat) ⟨by show (0 : Int) ≤ 0; decide, E4, by show (1 : Int) ≤ 1; decide, by show (1 : Int) ≤ 1 + 0; decide⟩ (by show (32 - (0 : Int)).toNat < 4000; decide) ?_
 rintro ⟨a, w⟩ ⟨a1, a2, a3, a4⟩
 simp only at a1 a2 a3 a4
 unfold B33_5 J33_65 J33_69
 simp only
 rw [g_sl h, g_so h]
 apply okP.ite <;> intro wc
 ·rw [i_lt] at wc
  apply okP.ite <;> intro lc
  ·rw [i_lt] at lc
   have e2 : (w + 1).toInt = w.toInt + 1 := inc1 (by omega)
   have v1 := E6 w.toInt.toNat (by omega)
   have ja : (a + 1).toInt = a.toInt + 1 := by rw [j_add (by show _ ≤ a.toInt + 1; omega) (by show a.toInt + 1 < _; omega)]; rfl
   apply okP.bind
   refine okP_agd a1 (by omega) (fun y hy => ?_)
   apply okP.bind
   refine okP.mono (peer_ok h G (by omega) (by omega) x0 (by omega)) (fun r _ => ?_)
   apply okP.ite <;> intro _
   ·apply okP.ite <;> intro w0
    ·apply okP.some
     exact ⟨⟨by simp only; omega, by simp only; omega, by simp only; omega, by simp only; omega⟩, by simp only; omega⟩
    ·have wn : 1 ≤ w.toInt := by rw [i_eq, z0] at w0; omega
     have w1 : (w - 1).toInt = w.toInt - 1 := by rw [i_sub (by omega) (by omega), z1]
     have v2 := E6 (w.toInt.toNat - 1) (by omega)
     apply okP.bind
     refine okP_agd (by omega) (by omega) (fun y' hy' => ?_)
     have ew : (w - 1).toInt.toNat = w.toInt.toNat - 1 := by omega
     rw [ew] at hy'
     apply okP.bind
     refine okP.mono (peer_ok h G (by omega) (by omega) (by omega) (by omega)) (fun r' _ => ?_)
     apply okP.some
     have jb : 1 ≤ (if r' = 0 then a + 1 else a).toInt ∧ (if r' = 0 then a + 1 else a).toInt ≤ a.toInt + 1 := by split <;> omega
     exact ⟨⟨by simp only; omega, by simp only; omega, by simp only; omega, by simp only; omega⟩, by simp only; omega⟩
   ·apply okP.some
    exact ⟨⟨by simp only; omega, by simp only; omega, by simp only; omega, by simp only; omega⟩, by simp only; omega⟩
  ·exact okP.some (okP.some ⟨a3, by omega⟩)
 ·exact okP.some (okP.some ⟨a3, by omega⟩)
def RowOK (fn n fc nl : Int32) (rs : Int64) : Prop := 0 ≤ fc.toInt ∧ fc.toInt ≤ n.toInt ∧ (nl = 0 ∨ nl = 1) ∧ (nl ≠ 0 → rs = 0) ∧ (fn = 2 → nl = 0 ∧ rs = fc.toInt64) ∧ (fn = 1 → nl = 0 ∧ 0 ≤ rs.toInt ∧ rs.toInt ≤ fc.toInt) ∧ (5 ≤ fn.toInt → fn.toInt ≤ 7 → nl = 0 ∧ 1 ≤ rs.toInt ∧ rs.toInt ≤ n.toInt)
theorem apply_ok {c : CC} {d : DD} {e : EE} {o : Ob} (h : Sh c d e o) (G : GC c) (D : GD d) (E : GE c e) {x : Int32} (x0 : 0 ≤ x.toInt) (x1 : x.toInt < c.2.2.2.2.1.toInt) (a1 : 0 ≤ (f_aggCount o).toInt) (a2 : (f_aggCount o).toInt ≤ (f_aggRows o).toInt) (a3 : (f_aggRows o).toInt ≤ c.2.2.2.2.1.toInt) : okP (F30 o x) (fun p => ∃ v nl, RowOK c.2.2.2.2.2.2.2.2.2.2.2.2.2.1 c.2.2.2.2.1 (f_aggRows o) nl v ∧ Sh c (d.1.set x.toInt.toNat v, d.2.1.set x.toInt.toNat nl, d.2.2) e p) := by
 obtain ⟨E1, E2, E3, E4, E5, E6⟩ := id E
 obtain ⟨G1, G2, G3, G4, r0, r1⟩ := id G
 have x32 : x.toInt < 32 := by omega
 have ag0 : 0 ≤ (f_aggRows o).toInt := by omega
 unfold F30
 rw [g_fn h]
 obtain ⟨fn, hfn⟩ : ∃ fn, fn = c.2.2.2.2.2.2.2.2.2.2.2.2.2.1 := ⟨_, rfl⟩
 rw [← hfn]
 have put : ∀ (v : Int64) (b : Int32), (b = 0 ∨ b = 1) → RowOK fn c.2.2.2.2.1 (f_aggRows o) b (if b = 0 then v else 0) → okP ((F31 o x v b).bind fun r => some r) (fun p => ∃ v nl, RowOK fn c.2.2.2.2.1 (f_aggRows o) nl v ∧ Sh c (d.1.set x.toInt.toNat v, d.2.1.set x.toInt.toNat nl, d.2.2) e p) := by
  intro v b hb hr
  apply okP.bind
  refine okP.mono (setRes_ok h D x0 x32 v b) (fun p hp => ?_)
  apply okP.some
  have b1 : b &&& 1 = b := by rcases hb with rfl | rfl <;> decide
  rw [b1] at hp
  exact ⟨_, _, hr, hp⟩
 have bit : ∀ {q : Prop} [Decidable q], (if q then (1 : Int32) else 0) = 0 ∨ (if q then (1 : Int32) else 0) = 1 := by
  intro q _; split
  ·exact Or.inr rfl
  ·exact Or.inl rfl
 have nz : ∀ {b : Int32} {v : Int64}, (b ≠ 0 → (if b = 0 then v else 0) = 0) := by
  intro b v hb; rw [if_neg hb]
 have k : ∀ {a b : Int32}, a = b → a.toInt = b.toInt := fun q => by rw [q]
 refine okP.ite (fun f => put _ _ bit ⟨ag0, a3, bit, nz, fun q => by rw [f] at q; exact absurd q (by decide), fun q => by rw [f] at q; exact absurd q (by decide), fun q _ => by rw [f] at q; exact absurd q (by decide)⟩) (fun f0 => ?_)
 refine okP.ite (fun f => put _ _ (Or.inl rfl) ⟨ag0, a3, Or.inl rfl, fun q => absurd rfl q, fun q => by rw [f] at q; exact absurd q (by decide), fun _ => ⟨rfl, by rw [if_pos rfl, Int32.toInt_toInt64]; exact ⟨a1, a2⟩⟩, fun q _ => by rw [f] at q; exact absurd q (by decide)⟩) (fun f1 => ?_)
 refine okP.ite (fun f => put _ _ (Or.inl rfl) ⟨ag0, a3, Or.inl rfl, fun q => absurd rfl q, fun _ => ⟨rfl, if_pos rfl⟩, fun q => absurd q f1, fun q _ => by rw [f] at q; exact absurd q (by decide)⟩) (fun f2 => ?_)
 refine okP.ite (fun f => put _ _ bit ⟨ag0, a3, bit, nz, fun q => absurd q f2, fun q => absurd q f1, fun q _ => by rw [f] at q; exact absurd q (by decide)⟩) (fun f3 => ?_)
 refine okP.ite (fun f => put _ _ bit ⟨ag0, a3, bit, nz, fun q => absurd q f2, fun q => absurd q f1, fun q _ => by rw [f] at q; exact absurd q (by decide)⟩) (fun f4 => ?_)
 refine okP.ite (fun f => put _ _ (Or.inl rfl) ⟨ag0, a3, Or.inl rfl, fun q => absurd rfl q, fun q => absurd q f2, fun q => absurd q f1, fun _ _ => ⟨rfl, ?_⟩⟩) (fun f5 => ?_)
 ·rw [if_pos rfl, g_cp h]
  have e64 := Int32.toInt_toInt64 e.2.2
  have : (e.2.2.toInt64 + 1).toInt = e.2.2.toInt + 1 := by
   rw [j_add (by rw [e64]; show _ ≤ e.2.2.toInt + 1; omega) (by rw [e64]; show e.2.2.toInt + 1 < _; omega), e64]; rfl
  omega
 refine okP.ite (fun f => ?_) (fun f6 => ?_)
 ·apply okP.bind
  refine okP.mono (rank_ok h G E x0 x1) (fun r hr => ?_)
  exact put _ _ (Or.inl rfl) ⟨ag0, a3, Or.inl rfl, fun q => absurd rfl q, fun q => absurd q f2, fun q => absurd q f1, fun _ _ => ⟨rfl, by rw [if_pos rfl]; exact hr⟩⟩
 refine okP.ite (fun f => ?_) (fun f7 => ?_)
 ·apply okP.bind
  refine okP.mono (dense_ok h G E x0 x1) (fun r hr => ?_)
  exact put _ _ (Or.inl rfl) ⟨ag0, a3, Or.inl rfl, fun q => absurd rfl q, fun q => absurd q f2, fun q => absurd q f1, fun _ _ => ⟨rfl, by rw [if_pos rfl]; exact hr⟩⟩
 have no : ∀ q : 5 ≤ fn.toInt, fn.toInt ≤ 7 → False := by
  intro q1 q2
  have : fn = 5 ∨ fn = 6 ∨ fn = 7 := by
   simp only [i_eq]
   have z5 : (5 : Int32).toInt = 5 := rfl
   have z6 : (6 : Int32).toInt = 6 := rfl
   have z7 : (7 : Int32).toInt = 7 := rfl
   omega
  rcases this with q | q | q
  ·exact f5 q
  ·exact f6 q
  ·exact f7 q
 have any : ∀ (v : Int64) (b : Int32), (b = 0 ∨ b = 1) → okP ((F31 o x v b).bind fun r => some r) (fun p => ∃ v nl, RowOK fn c.2.2.2.2.1 (f_aggRows o) nl v ∧ Sh c (d.1.set x.toInt.toNat v, d.2.1.set x.toInt.toNat nl, d.2.2) e p) := fun v b hb => put v b hb ⟨ag0, a3, hb, nz, fun q => absurd q f2, fun q => absurd q f1, fun q1 q2 => (no q1 q2).elim⟩
 apply okP.bind
 have sh : ∀ b : Int32, okP (F36 o x (f_curPos o) b) (fun p => ∃ v nl, RowOK fn c.2.2.2.2.1 (f_aggRows o) nl v ∧ Sh c (d.1.set x.toInt.toNat v, d.2.1.set x.toInt.toNat nl, d.2.2) e p) := by
  intro b
  unfold F36 J36_45
  obtain ⟨t, ht⟩ : ∃ t, t = (if b = 0 then (f_curPos o).toInt64 + (f_fnArg o).toInt64 else (f_curPos o).toInt64 - (f_fnArg o).toInt64) := ⟨_, rfl⟩
  rw [← ht]
  refine okP.ite (fun _ => any _ _ (Or.inr rfl)) (fun t0 => ?_)
  refine okP.ite (fun _ => any _ _ (Or.inr rfl)) (fun t1 => ?_)
  rw [Int64.lt_iff_toInt_lt] at t0 t1
  rw [g_sl h] at t1
  have e64 := Int32.toInt_toInt64 e.2.1
  have s1 : (e.2.1.toInt64 - 1).toInt = e.2.1.toInt - 1 := by
   rw [j_sub (by rw [e64]; show _ ≤ e.2.1.toInt - 1; omega) (by rw [e64]; show e.2.1.toInt - 1 < _; omega), e64]; rfl
  have t0' : 0 ≤ t.toInt := by have : (0 : Int64).toInt = 0 := rfl; omega
  have ti : t.toInt32.toInt = t.toInt := by
   rw [Int64.toInt_toInt32, Int.bmod_eq_of_le (by omega) (by omega)]
  rw [g_so h]
  have v1 := E6 t.toInt32.toInt.toNat (by omega)
  apply okP.bind
  refine okP_agd (by omega) (by omega) (fun y hy => ?_)
  apply okP.bind
  refine okP.mono (vnull h G (by omega) (by omega)) (fun r _ => ?_)
  refine okP.ite (fun _ => ?_) (fun _ => any _ _ (Or.inr rfl))
  rw [g_vals h]
  apply okP.bind
  refine okP.aget (by omega) (by omega) (fun z _ => ?_)
  exact any _ _ (Or.inl rfl)
 exact okP.mono (sh _) (fun p hp => okP.some hp)
def DOK (c : CC) (d : DD) (n : Nat) : Prop := GD d ∧ ∀ k, k < n → ∃ fc nl rs, d.2.2[k]? = some fc ∧ d.2.1[k]? = some nl ∧ d.1[k]? = some rs ∧ RowOK c.2.2.2.2.2.2.2.2.2.2.2.2.2.1 c.2.2.2.2.1 fc nl rs
theorem row_ok {c : CC} {d : DD} {e : EE} {o : Ob} (h : Sh c d e o) (G : GC c) (hs : e.1.length = 32) {x : Int32} (x0 : 0 ≤ x.toInt) (x1 : x.toInt < c.2.2.2.2.1.toInt) (D : DOK c d x.toInt.toNat) : okP (F21 o x) (fun p => ∃ d' e', DOK c d' (x.toInt.toNat + 1) ∧ e'.1.length = 32 ∧ Sh c d' e' p) := by
 obtain ⟨D0, D1⟩ := D
 obtain ⟨G1, G2, G3, G4, r0, r1⟩ := id G
 unfold F21
 apply okP.bind
 refine okP.mono (build_ok h G hs x0 x1) ?_
 rintro p ⟨e', E, hp⟩
 apply okP.bind
 refine okP.mono (agg_ok hp G E x0 x1) ?_
 rintro p ⟨hp, a1, a2, a3⟩
 rw [g_fc hp]
 apply okP.bind
 refine okP.aset x0 (by rw [D0.2.2]; omega) ?_
 have k1 : f_aggCount (s_frameCnt p (d.2.2.set x.toInt.toNat (f_aggRows p))) = f_aggCount p := by dsimp only [f_aggCount, s_frameCnt]
 have k2 : f_aggRows (s_frameCnt p (d.2.2.set x.toInt.toNat (f_aggRows p))) = f_aggRows p := by dsimp only [f_aggRows, s_frameCnt]
 have hq := w_fc hp (d.2.2.set x.toInt.toNat (f_aggRows p))
 obtain ⟨q, eq⟩ : ∃ q, q = s_frameCnt p (d.2.2.set x.toInt.toNat (f_aggRows p)) := ⟨_, rfl⟩
 rw [← eq] at k1 k2 hq ⊢
 apply okP.bind
 refine okP.mono (apply_ok hq G ⟨D0.1, D0.2.1, by simp only [List.length_set]; exact D0.2.2⟩ E x0 x1 (by rw [k1]; exact a1) (by rw [k1, k2]; exact a2) (by rw [k2]; exact a3)) ?_
 rintro t ⟨v, nl, hr, ht⟩
 rw [k2] at hr
 apply okP.some
 refine ⟨_, e', ⟨⟨by simp only [List.length_set]; exact D0.1, by simp only [List.length_set]; exact D0.2.1, by simp only [List.length_set]; exact D0.2.2⟩, ?_⟩, E.1, ht⟩
 intro k hk
 simp only [List.getElem?_set]
 by_cases ek : x.toInt.toNat = k
 ·simp only [if_pos ek]
  have l1 : k < d.1.length := by rw [D0.1]; omega
  have l2 : k < d.2.1.length := by rw [D0.2.1]; omega
  have l3 : k < d.2.2.length := by rw [D0.2.2]; omega
  subst ek
  simp only [if_pos l1, if_pos l2, if_pos l3]
  exact ⟨_, _, _, rfl, rfl, rfl, hr⟩
 ·simp only [if_neg ek]
  exact D1 k (by omega)
theorem compute_ok {c : CC} {d : DD} {e : EE} {o : Ob} (h : Sh c d e o) (G : GC c) (D : GD d) (hs : e.1.length = 32) : okP (F18 o) (fun r => r = (-1, o) ∨ (r.1 = 0 ∧ ∃ p d' e', DOK c d' c.2.2.2.2.1.toInt.toNat ∧ e'.1.length = 32 ∧ Sh c d' e' p ∧ r.2 = s_computed p 1)) := by
 obtain ⟨G1, G2, G3, G4, r0, r1⟩ := id G
 have no : okP (F19 o) (fun _ => True) := by
  unfold F19
  repeat' with_reducible (first | exact okP.some trivial | (apply okP.ite <;> intro _) | (apply okP.bind; refine key_at h G (by assumption) (by assumption) (fun _ => ?_)))
 unfold F18
 apply okP.bind
 refine okP.mono no (fun r _ => ?_)
 refine okP.ite (fun _ => ?_) (fun _ => okP.some (Or.inl rfl))
 apply okP.bind
 refine okP.loop (fun w => 0 ≤ w.1.toInt ∧ w.1.toInt ≤ c.2.2.2.2.1.toInt ∧ ∃ d' e', DOK c d' w.1.toInt.toNat ∧ e'.1.length = 32 ∧ Sh c d' e' w.2) (fun w => (32 - w.1.toInt).toNat) ⟨by show (0 : Int) ≤ 0; decide, r0, d, e, ⟨D, fun k hk => absurd hk (Nat.not_lt_zero _)⟩, hs, h⟩ (by show (32 - (0 : Int)).toNat < 4000; decide) ?_
 rintro ⟨w, p⟩ ⟨a1, a2, d', e', D', hs', hp⟩
 simp only at a1 a2 D' hp
 unfold B18_11
 simp only
 rw [g_rows hp]
 apply okP.ite <;> intro wc
 ·rw [i_lt] at wc
  have e2 : (w + 1).toInt = w.toInt + 1 := inc1 (by omega)
  have en : (w + 1).toInt.toNat = w.toInt.toNat + 1 := by omega
  apply okP.bind
  refine okP.mono (row_ok hp G hs' a1 wc D') ?_
  rintro q ⟨d2, e2', D2, hs2, hq⟩
  apply okP.some
  exact ⟨⟨by simp only; omega, by simp only; omega, d2, e2', by simp only; rw [en]; exact D2, hs2, hq⟩, by simp only; omega⟩
 ·rw [i_lt] at wc
  have en : w.toInt.toNat = c.2.2.2.2.1.toInt.toNat := by omega
  rw [en] at D'
  apply okP.some
  apply okP.some
  exact Or.inr ⟨rfl, p, d', e', D', hs', hp, rfl⟩
def Bs (n : Int32) (k : Int32) (o : Ob) : Prop := (f_part o).length = 32 ∧ (f_keys o).length = 32 ∧ (f_vals o).length = 32 ∧ (f_flg o).length = 32 ∧ (f_res o).length = 32 ∧ (f_resNull o).length = 32 ∧ (f_frameCnt o).length = 32 ∧ (f_sorted o).length = 32 ∧ f_rows o = n ∧ f_cap o = k
theorem Bs_part {n : Int32} {k : Int32} {o : Ob} {x : List Int32} (h : Bs n k o) (hx : x.length = 32) : Bs n k (s_part o x) := by
 dsimp only [Bs, f_part, f_keys, f_vals, f_flg, f_res, f_resNull, f_frameCnt, f_sorted, f_cap, f_rows, s_part] at h ⊢
 exact ⟨hx, h.2.1, h.2.2.1, h.2.2.2.1, h.2.2.2.2.1, h.2.2.2.2.2.1, h.2.2.2.2.2.2.1, h.2.2.2.2.2.2.2.1, h.2.2.2.2.2.2.2.2⟩
theorem Bs_l_part {n : Int32} {k : Int32} {o : Ob} (h : Bs n k o) : (f_part o).length = 32 := h.1
theorem Bs_keys {n : Int32} {k : Int32} {o : Ob} {x : List Int32} (h : Bs n k o) (hx : x.length = 32) : Bs n k (s_keys o x) := by
 dsimp only [Bs, f_part, f_keys, f_vals, f_flg, f_res, f_resNull, f_frameCnt, f_sorted, f_cap, f_rows, s_keys] at h ⊢
 exact ⟨h.1, hx, h.2.2.1, h.2.2.2.1, h.2.2.2.2.1, h.2.2.2.2.2.1, h.2.2.2.2.2.2.1, h.2.2.2.2.2.2.2.1, h.2.2.2.2.2.2.2.2⟩
theorem Bs_l_keys {n : Int32} {k : Int32} {o : Ob} (h : Bs n k o) : (f_keys o).length = 32 := h.2.1
theorem Bs_vals {n : Int32} {k : Int32} {o : Ob} {x : List Int32} (h : Bs n k o) (hx : x.length = 32) : Bs n k (s_vals o x) := by
 dsimp only [Bs, f_part, f_keys, f_vals, f_flg, f_res, f_resNull, f_frameCnt, f_sorted, f_cap, f_rows, s_vals] at h ⊢
 exact ⟨h.1, h.2.1, hx, h.2.2.2.1, h.2.2.2.2.1, h.2.2.2.2.2.1, h.2.2.2.2.2.2.1, h.2.2.2.2.2.2.2.1, h.2.2.2.2.2.2.2.2⟩
theorem Bs_l_vals {n : Int32} {k : Int32} {o : Ob} (h : Bs n k o) : (f_vals o).length = 32 := h.2.2.1
theorem Bs_flg {n : Int32} {k : Int32} {o : Ob} {x : List Int32} (h : Bs n k o) (hx : x.length = 32) : Bs n k (s_flg o x) := by
 dsimp only [Bs, f_part, f_keys, f_vals, f_flg, f_res, f_resNull, f_frameCnt, f_sorted, f_cap, f_rows, s_flg] at h ⊢
 exact ⟨h.1, h.2.1, h.2.2.1, hx, h.2.2.2.2.1, h.2.2.2.2.2.1, h.2.2.2.2.2.2.1, h.2.2.2.2.2.2.2.1, h.2.2.2.2.2.2.2.2⟩
theorem Bs_l_flg {n : Int32} {k : Int32} {o : Ob} (h : Bs n k o) : (f_flg o).length = 32 := h.2.2.2.1
theorem Bs_res {n : Int32} {k : Int32} {o : Ob} {x : List Int64} (h : Bs n k o) (hx : x.length = 32) : Bs n k (s_res o x) := by
 dsimp only [Bs, f_part, f_keys, f_vals, f_flg, f_res, f_resNull, f_frameCnt, f_sorted, f_cap, f_rows, s_res] at h ⊢
 exact ⟨h.1, h.2.1, h.2.2.1, h.2.2.2.1, hx, h.2.2.2.2.2.1, h.2.2.2.2.2.2.1, h.2.2.2.2.2.2.2.1, h.2.2.2.2.2.2.2.2⟩
theorem Bs_l_res {n : Int32} {k : Int32} {o : Ob} (h : Bs n k o) : (f_res o).length = 32 := h.2.2.2.2.1
theorem Bs_resNull {n : Int32} {k : Int32} {o : Ob} {x : List Int32} (h : Bs n k o) (hx : x.length = 32) : Bs n k (s_resNull o x) := by
 dsimp only [Bs, f_part, f_keys, f_vals, f_flg, f_res, f_resNull, f_frameCnt, f_sorted, f_cap, f_rows, s_resNull] at h ⊢
 exact ⟨h.1, h.2.1, h.2.2.1, h.2.2.2.1, h.2.2.2.2.1, hx, h.2.2.2.2.2.2.1, h.2.2.2.2.2.2.2.1, h.2.2.2.2.2.2.2.2⟩
theorem Bs_l_resNull {n : Int32} {k : Int32} {o : Ob} (h : Bs n k o) : (f_resNull o).length = 32 := h.2.2.2.2.2.1
theorem Bs_frameCnt {n : Int32} {k : Int32} {o : Ob} {x : List Int32} (h : Bs n k o) (hx : x.length = 32) : Bs n k (s_frameCnt o x) := by
 dsimp only [Bs, f_part, f_keys, f_vals, f_flg, f_res, f_resNull, f_frameCnt, f_sorted, f_cap, f_rows, s_frameCnt] at h ⊢
 exact ⟨h.1, h.2.1, h.2.2.1, h.2.2.2.1, h.2.2.2.2.1, h.2.2.2.2.2.1, hx, h.2.2.2.2.2.2.2.1, h.2.2.2.2.2.2.2.2⟩
theorem Bs_l_frameCnt {n : Int32} {k : Int32} {o : Ob} (h : Bs n k o) : (f_frameCnt o).length = 32 := h.2.2.2.2.2.2.1
theorem Bs_sorted {n : Int32} {k : Int32} {o : Ob} {x : List Int32} (h : Bs n k o) (hx : x.length = 32) : Bs n k (s_sorted o x) := by
 dsimp only [Bs, f_part, f_keys, f_vals, f_flg, f_res, f_resNull, f_frameCnt, f_sorted, f_cap, f_rows, s_sorted] at h ⊢
 exact ⟨h.1, h.2.1, h.2.2.1, h.2.2.2.1, h.2.2.2.2.1, h.2.2.2.2.2.1, h.2.2.2.2.2.2.1, hx, h.2.2.2.2.2.2.2.2⟩
theorem Bs_l_sorted {n : Int32} {k : Int32} {o : Ob} (h : Bs n k o) : (f_sorted o).length = 32 := h.2.2.2.2.2.2.2.1
theorem Bs_direction {n : Int32} {k : Int32} {o : Ob} {x : Int32} (h : Bs n k o) : Bs n k (s_direction o x) := by
 dsimp only [Bs, f_part, f_keys, f_vals, f_flg, f_res, f_resNull, f_frameCnt, f_sorted, f_cap, f_rows, s_direction] at h ⊢
 exact h
theorem Bs_nulls {n : Int32} {k : Int32} {o : Ob} {x : Int32} (h : Bs n k o) : Bs n k (s_nulls o x) := by
 dsimp only [Bs, f_part, f_keys, f_vals, f_flg, f_res, f_resNull, f_frameCnt, f_sorted, f_cap, f_rows, s_nulls] at h ⊢
 exact h
theorem Bs_mode {n : Int32} {k : Int32} {o : Ob} {x : Int32} (h : Bs n k o) : Bs n k (s_mode o x) := by
 dsimp only [Bs, f_part, f_keys, f_vals, f_flg, f_res, f_resNull, f_frameCnt, f_sorted, f_cap, f_rows, s_mode] at h ⊢
 exact h
theorem Bs_startKind {n : Int32} {k : Int32} {o : Ob} {x : Int32} (h : Bs n k o) : Bs n k (s_startKind o x) := by
 dsimp only [Bs, f_part, f_keys, f_vals, f_flg, f_res, f_resNull, f_frameCnt, f_sorted, f_cap, f_rows, s_startKind] at h ⊢
 exact h
theorem Bs_startOff {n : Int32} {k : Int32} {o : Ob} {x : Int32} (h : Bs n k o) : Bs n k (s_startOff o x) := by
 dsimp only [Bs, f_part, f_keys, f_vals, f_flg, f_res, f_resNull, f_frameCnt, f_sorted, f_cap, f_rows, s_startOff] at h ⊢
 exact h
theorem Bs_endKind {n : Int32} {k : Int32} {o : Ob} {x : Int32} (h : Bs n k o) : Bs n k (s_endKind o x) := by
 dsimp only [Bs, f_part, f_keys, f_vals, f_flg, f_res, f_resNull, f_frameCnt, f_sorted, f_cap, f_rows, s_endKind] at h ⊢
 exact h
theorem Bs_endOff {n : Int32} {k : Int32} {o : Ob} {x : Int32} (h : Bs n k o) : Bs n k (s_endOff o x) := by
 dsimp only [Bs, f_part, f_keys, f_vals, f_flg, f_res, f_resNull, f_frameCnt, f_sorted, f_cap, f_rows, s_endOff] at h ⊢
 exact h
theorem Bs_fn {n : Int32} {k : Int32} {o : Ob} {x : Int32} (h : Bs n k o) : Bs n k (s_fn o x) := by
 dsimp only [Bs, f_part, f_keys, f_vals, f_flg, f_res, f_resNull, f_frameCnt, f_sorted, f_cap, f_rows, s_fn] at h ⊢
 exact h
theorem Bs_fnArg {n : Int32} {k : Int32} {o : Ob} {x : Int32} (h : Bs n k o) : Bs n k (s_fnArg o x) := by
 dsimp only [Bs, f_part, f_keys, f_vals, f_flg, f_res, f_resNull, f_frameCnt, f_sorted, f_cap, f_rows, s_fnArg] at h ⊢
 exact h
theorem Bs_computed {n : Int32} {k : Int32} {o : Ob} {x : Int32} (h : Bs n k o) : Bs n k (s_computed o x) := by
 dsimp only [Bs, f_part, f_keys, f_vals, f_flg, f_res, f_resNull, f_frameCnt, f_sorted, f_cap, f_rows, s_computed] at h ⊢
 exact h
theorem Bs_sortedLen {n : Int32} {k : Int32} {o : Ob} {x : Int32} (h : Bs n k o) : Bs n k (s_sortedLen o x) := by
 dsimp only [Bs, f_part, f_keys, f_vals, f_flg, f_res, f_resNull, f_frameCnt, f_sorted, f_cap, f_rows, s_sortedLen] at h ⊢
 exact h
theorem Bs_curPos {n : Int32} {k : Int32} {o : Ob} {x : Int32} (h : Bs n k o) : Bs n k (s_curPos o x) := by
 dsimp only [Bs, f_part, f_keys, f_vals, f_flg, f_res, f_resNull, f_frameCnt, f_sorted, f_cap, f_rows, s_curPos] at h ⊢
 exact h
theorem Bs_aggSum {n : Int32} {k : Int32} {o : Ob} {x : Int64} (h : Bs n k o) : Bs n k (s_aggSum o x) := by
 dsimp only [Bs, f_part, f_keys, f_vals, f_flg, f_res, f_resNull, f_frameCnt, f_sorted, f_cap, f_rows, s_aggSum] at h ⊢
 exact h
theorem Bs_aggCount {n : Int32} {k : Int32} {o : Ob} {x : Int32} (h : Bs n k o) : Bs n k (s_aggCount o x) := by
 dsimp only [Bs, f_part, f_keys, f_vals, f_flg, f_res, f_resNull, f_frameCnt, f_sorted, f_cap, f_rows, s_aggCount] at h ⊢
 exact h
theorem Bs_aggRows {n : Int32} {k : Int32} {o : Ob} {x : Int32} (h : Bs n k o) : Bs n k (s_aggRows o x) := by
 dsimp only [Bs, f_part, f_keys, f_vals, f_flg, f_res, f_resNull, f_frameCnt, f_sorted, f_cap, f_rows, s_aggRows] at h ⊢
 exact h
theorem Bs_aggMin {n : Int32} {k : Int32} {o : Ob} {x : Int32} (h : Bs n k o) : Bs n k (s_aggMin o x) := by
 dsimp only [Bs, f_part, f_keys, f_vals, f_flg, f_res, f_resNull, f_frameCnt, f_sorted, f_cap, f_rows, s_aggMin] at h ⊢
 exact h
theorem Bs_aggMax {n : Int32} {k : Int32} {o : Ob} {x : Int32} (h : Bs n k o) : Bs n k (s_aggMax o x) := by
 dsimp only [Bs, f_part, f_keys, f_vals, f_flg, f_res, f_resNull, f_frameCnt, f_sorted, f_cap, f_rows, s_aggMax] at h ⊢
 exact h
def Cm (o : Ob) : Prop := f_computed o = 0 ∨ (f_computed o = 1 ∧ ∀ k : Nat, k < (f_rows o).toInt.toNat → ∃ fc nl rs, (f_frameCnt o)[k]? = some fc ∧ (f_resNull o)[k]? = some nl ∧ (f_res o)[k]? = some rs ∧ RowOK (f_fn o) (f_rows o) fc nl rs)
def tpl (o : Ob) : CC := (f_part o, f_keys o, f_vals o, f_flg o, f_rows o, f_cap o, f_direction o, f_nulls o, f_mode o, f_startKind o, f_startOff o, f_endKind o, f_endOff o, f_fn o, f_fnArg o)
theorem Bs_comp {n k : Int32} {o : Ob} (h : Bs n k o) (h0 : 0 ≤ n.toInt) (h1 : n.toInt ≤ 32) : okP (F18 o) (fun r => r = (-1, o) ∨ (r.1 = 0 ∧ Bs n k r.2 ∧ f_computed r.2 = 1 ∧ tpl r.2 = tpl o ∧ Cm r.2)) := by
 have S : Sh (tpl o) (f_res o, f_resNull o, f_frameCnt o) (f_sorted o, f_sortedLen o, f_curPos o) o := ⟨rfl, rfl, rfl⟩
 obtain ⟨b1, b2, b3, b4, b5, b6, b7, b8, b9, b10⟩ := h
 refine okP.mono (compute_ok S ⟨b1, b2, b3, b4, by show 0 ≤ (f_rows o).toInt; rw [b9]; exact h0, by show (f_rows o).toInt ≤ 32; rw [b9]; exact h1⟩ ⟨b5, b6, b7⟩ b8) ?_
 rintro r (rfl | ⟨r0, p, d', e', D, l, hp, hr⟩)
 ·exact Or.inl rfl
 ·right
  obtain ⟨t1, t2, t3⟩ := hp
  obtain ⟨⟨D1, D2, D3⟩, D4⟩ := D
  have q1 : tpl r.2 = tpl o := by
   rw [hr]
   have : tpl (s_computed p 1) = tpl p := by dsimp only [tpl, f_part, f_keys, f_vals, f_flg, f_res, f_resNull, f_frameCnt, f_sorted, f_cap, f_rows, f_direction, f_nulls, f_mode, f_startKind, f_startOff, f_endKind, f_endOff, f_fn, f_fnArg, f_computed, f_sortedLen, f_curPos, f_aggSum, f_aggCount, f_aggRows, f_aggMin, f_aggMax, s_computed]
   rw [this]; exact t1
  have q2 : (f_res r.2, f_resNull r.2, f_frameCnt r.2) = d' := by
   rw [hr]
   have : (f_res (s_computed p 1), f_resNull (s_computed p 1), f_frameCnt (s_computed p 1)) = (f_res p, f_resNull p, f_frameCnt p) := by dsimp only [f_part, f_keys, f_vals, f_flg, f_res, f_resNull, f_frameCnt, f_sorted, f_cap, f_rows, f_direction, f_nulls, f_mode, f_startKind, f_startOff, f_endKind, f_endOff, f_fn, f_fnArg, f_computed, f_sortedLen, f_curPos, f_aggSum, f_aggCount, f_aggRows, f_aggMin, f_aggMax, s_computed]
   rw [this]; exact t2
  have q3 : (f_sorted r.2, f_sortedLen r.2, f_curPos r.2) = e' := by
   rw [hr]
   have : (f_sorted (s_computed p 1), f_sortedLen (s_computed p 1), f_curPos (s_computed p 1)) = (f_sorted p, f_sortedLen p, f_curPos p) := by dsimp only [f_part, f_keys, f_vals, f_flg, f_res, f_resNull, f_frameCnt, f_sorted, f_cap, f_rows, f_direction, f_nulls, f_mode, f_startKind, f_startOff, f_endKind, f_endOff, f_fn, f_fnArg, f_computed, f_sortedLen, f_curPos, f_aggSum, f_aggCount, f_aggRows, f_aggMin, f_aggMax, s_computed]
   rw [this]; exact t3
  have q4 : f_computed r.2 = 1 := by rw [hr]; dsimp only [f_computed, s_computed]
  subst q2
  subst q3
  have er : f_rows r.2 = f_rows o := congrArg (fun x : CC => x.2.2.2.2.1) q1
  have ef : f_fn r.2 = f_fn o := congrArg (fun x : CC => x.2.2.2.2.2.2.2.2.2.2.2.2.2.1) q1
  refine ⟨r0, ⟨?_, ?_, ?_, ?_, D1, D2, D3, l, ?_, ?_⟩, q4, q1, Or.inr ⟨q4, ?_⟩⟩
  ·rw [show f_part r.2 = f_part o from congrArg (fun x : CC => x.1) q1]; exact b1
  ·rw [show f_keys r.2 = f_keys o from congrArg (fun x : CC => x.2.1) q1]; exact b2
  ·rw [show f_vals r.2 = f_vals o from congrArg (fun x : CC => x.2.2.1) q1]; exact b3
  ·rw [show f_flg r.2 = f_flg o from congrArg (fun x : CC => x.2.2.2.1) q1]; exact b4
  ·rw [er]; exact b9
  ·rw [show f_cap r.2 = f_cap o from congrArg (fun x : CC => x.2.2.2.2.2.1) q1]; exact b10
  ·rw [er, ef]; exact D4
theorem add_ok {n k : Int32} {o : Ob} (h : Bs n k o) (h0 : 0 ≤ n.toInt) (hk : k.toInt ≤ 32) (h1 : n.toInt ≤ k.toInt) (a b c d : Int32) : okP (F5 o a b c d) (fun r => r = (-1, o) ∨ (n.toInt < k.toInt ∧ r.1 = n ∧ Bs (n + 1) k r.2 ∧ f_computed r.2 = 0)) := by
 obtain ⟨b1, b2, b3, b4, b5, b6, b7, b8, b9, b10⟩ := id h
 unfold F5
 rw [b9, b10]
 refine okP.ite (fun _ => okP.some (Or.inl rfl)) (fun _ => ?_)
 refine okP.ite (fun _ => okP.some (Or.inl rfl)) (fun _ => ?_)
 refine okP.ite (fun lt => ?_) (fun _ => okP.some (Or.inl rfl))
 rw [i_lt] at lt
 apply okP.bind
 refine okP.aset h0 (by omega) ?_
 apply okP.bind
 refine okP.aset h0 (by omega) ?_
 apply okP.bind
 refine okP.aset h0 (by omega) ?_
 apply okP.bind
 refine okP.aset h0 (by omega) ?_
 apply okP.some
 refine Or.inr ⟨lt, rfl, ?_, by dsimp only [f_computed, s_computed]⟩
 obtain ⟨m, hm⟩ : ∃ m, m = n + 1 := ⟨_, rfl⟩
 rw [← hm]
 dsimp only [Bs, f_part, f_keys, f_vals, f_flg, f_res, f_resNull, f_frameCnt, f_sorted, f_cap, f_rows, f_direction, f_nulls, f_mode, f_startKind, f_startOff, f_endKind, f_endOff, f_fn, f_fnArg, f_computed, f_sortedLen, f_curPos, f_aggSum, f_aggCount, f_aggRows, f_aggMin, f_aggMax, s_computed, s_rows, s_flg, s_vals, s_keys, s_part] at h ⊢
 simp only [List.length_set]
 exact ⟨h.1, h.2.1, h.2.2.1, h.2.2.2.1, h.2.2.2.2.1, h.2.2.2.2.2.1, h.2.2.2.2.2.2.1, h.2.2.2.2.2.2.2.1, trivial, h.2.2.2.2.2.2.2.2.2⟩
theorem clear_ok {n k : Int32} {o : Ob} (h : Bs n k o) : okP (F7 o) (fun r => Bs 0 k r ∧ f_computed r = 0) := by
 unfold F7
 apply okP.some
 refine ⟨?_, by dsimp only [f_computed, s_computed]⟩
 dsimp only [Bs, f_part, f_keys, f_vals, f_flg, f_res, f_resNull, f_frameCnt, f_sorted, f_cap, f_rows, f_direction, f_nulls, f_mode, f_startKind, f_startOff, f_endKind, f_endOff, f_fn, f_fnArg, f_computed, f_sortedLen, f_curPos, f_aggSum, f_aggCount, f_aggRows, f_aggMin, f_aggMax, s_computed, s_rows] at h ⊢
 exact ⟨h.1, h.2.1, h.2.2.1, h.2.2.2.1, h.2.2.2.2.1, h.2.2.2.2.2.1, h.2.2.2.2.2.2.1, h.2.2.2.2.2.2.2.1, rfl, h.2.2.2.2.2.2.2.2.2⟩
theorem order_ok {n k : Int32} {o : Ob} (h : Bs n k o) (a b : Int32) : okP (F6 o a b) (fun r => r = (0, o) ∨ (r.1 = 1 ∧ Bs n k r.2 ∧ f_computed r.2 = 0)) := by
 unfold F6
 refine okP.ite (fun _ => okP.some (Or.inl rfl)) (fun _ => ?_)
 refine okP.ite (fun _ => okP.some (Or.inl rfl)) (fun _ => ?_)
 refine okP.ite (fun _ => okP.some (Or.inl rfl)) (fun _ => ?_)
 refine okP.ite (fun _ => okP.some (Or.inl rfl)) (fun _ => ?_)
 exact okP.some (Or.inr ⟨rfl, Bs_computed (Bs_nulls (Bs_direction h)), by dsimp only [f_computed, s_computed]⟩)
theorem mode_ok {n k : Int32} {o : Ob} (h : Bs n k o) (a : Int32) : okP (F4 o a) (fun r => r = (0, o) ∨ (r.1 = 1 ∧ Bs n k r.2 ∧ f_computed r.2 = 0)) := by
 unfold F4
 refine okP.ite (fun _ => okP.some (Or.inl rfl)) (fun _ => ?_)
 refine okP.ite (fun _ => okP.some (Or.inl rfl)) (fun _ => ?_)
 exact okP.some (Or.inr ⟨rfl, Bs_computed (Bs_mode h), by dsimp only [f_computed, s_computed]⟩)
theorem start_ok {n k : Int32} {o : Ob} (h : Bs n k o) (a b : Int32) : okP (F17 o a b) (fun r => r = (0, o) ∨ (r.1 = 1 ∧ Bs n k r.2 ∧ f_computed r.2 = 0)) := by
 have j : ∀ x : Int32, okP (J17_37 o a b x) (fun r => r = (0, o) ∨ (r.1 = 1 ∧ Bs n k r.2 ∧ f_computed r.2 = 0)) := fun x => okP.some (Or.inr ⟨rfl, Bs_computed (Bs_startOff (Bs_startKind h)), by dsimp only [f_computed, s_computed]⟩)
 unfold F17
 refine okP.ite (fun _ => okP.some (Or.inl rfl)) (fun _ => ?_)
 refine okP.ite (fun _ => okP.some (Or.inl rfl)) (fun _ => ?_)
 refine okP.ite (fun _ => j _) (fun _ => ?_)
 exact okP.ite (fun _ => okP.some (Or.inl rfl)) (fun _ => j _)
theorem end_ok {n k : Int32} {o : Ob} (h : Bs n k o) (a b : Int32) : okP (F20 o a b) (fun r => r = (0, o) ∨ (r.1 = 1 ∧ Bs n k r.2 ∧ f_computed r.2 = 0)) := by
 have j : ∀ x : Int32, okP (J20_38 o a b x) (fun r => r = (0, o) ∨ (r.1 = 1 ∧ Bs n k r.2 ∧ f_computed r.2 = 0)) := fun x => okP.some (Or.inr ⟨rfl, Bs_computed (Bs_endOff (Bs_endKind h)), by dsimp only [f_computed, s_computed]⟩)
 unfold F20
 refine okP.ite (fun _ => okP.some (Or.inl rfl)) (fun _ => ?_)
 refine okP.ite (fun _ => okP.some (Or.inl rfl)) (fun _ => ?_)
 refine okP.ite (fun _ => j _) (fun _ => ?_)
 exact okP.ite (fun _ => okP.some (Or.inl rfl)) (fun _ => j _)
theorem fun_ok {n k : Int32} {o : Ob} (h : Bs n k o) (a b : Int32) : okP (F16 o a b) (fun r => r = (0, o) ∨ (r.1 = 1 ∧ Bs n k r.2 ∧ f_computed r.2 = 0)) := by
 have j : ∀ x : Int32, okP (J16_40 o a b x) (fun r => r = (0, o) ∨ (r.1 = 1 ∧ Bs n k r.2 ∧ f_computed r.2 = 0)) := fun x => okP.some (Or.inr ⟨rfl, Bs_computed (Bs_fnArg (Bs_fn h)), by dsimp only [f_computed, s_computed]⟩)
 unfold F16
 refine okP.ite (fun _ => okP.some (Or.inl rfl)) (fun _ => ?_)
 refine okP.ite (fun _ => okP.some (Or.inl rfl)) (fun _ => ?_)
 refine okP.ite (fun _ => j _) (fun _ => ?_)
 exact okP.ite (fun _ => okP.some (Or.inl rfl)) (fun _ => j _)
theorem init_ok : okP (F1 8) (fun o => Bs 0 8 o ∧ f_computed o = 0) := by
 unfold F1 F2
 have e : (if (32 : Int32) < (if (8 : Int32) < 8 then 8 else 8) then (32 : Int32) else (if (8 : Int32) < 8 then 8 else 8)) = 8 := by decide
 rw [e]
 apply okP.bind
 apply okP.some
 apply okP.some
 refine ⟨?_, by dsimp only [f_computed, s_computed]⟩
 dsimp only [Bs, f_part, f_keys, f_vals, f_flg, f_res, f_resNull, f_frameCnt, f_sorted, f_cap, f_rows, f_direction, f_nulls, f_mode, f_startKind, f_startOff, f_endKind, f_endOff, f_fn, f_fnArg, f_computed, f_sortedLen, f_curPos, f_aggSum, f_aggCount, f_aggRows, f_aggMin, f_aggMax, s_part, s_keys, s_vals, s_flg, s_res, s_resNull, s_frameCnt, s_sorted, s_cap, s_rows, s_direction, s_nulls, s_mode, s_startKind, s_startOff, s_endKind, s_endOff, s_fn, s_fnArg, s_computed, s_sortedLen, s_curPos, s_aggSum, s_aggCount, s_aggRows, s_aggMin, s_aggMax]
 refine ⟨?_, ?_, ?_, ?_, ?_, ?_, ?_, ?_, ?_⟩ <;> first | exact List.length_replicate | exact ⟨trivial, trivial⟩ | exact ⟨rfl, rfl⟩ | trivial

theorem get_ok {n k : Int32} {o : Ob} (h : Bs n k o) (hn : n.toInt ≤ 32) (x : Int32) : (∀ f : Int32, okP (F12 o x f) (fun _ => True)) ∧ okP (F13 o x) (fun _ => True) ∧ okP (F14 o x) (fun _ => True) ∧ okP (F15 o x) (fun _ => True) := by
 obtain ⟨b1, b2, b3, b4, b5, b6, b7, b8, b9, b10⟩ := id h
 have z0 : (0 : Int32).toInt = 0 := rfl
 unfold F12 F13 F14 F15
 rw [b9]
 refine ⟨fun f => ?_, ?_, ?_, ?_⟩
 ·refine okP.ite (fun _ => okP.some trivial) (fun x0 => ?_)
  refine okP.ite (fun x1 => ?_) (fun _ => okP.some trivial)
  rw [i_lt] at x0 x1
  refine okP.ite (fun _ => okP.bind (okP.aget (by omega) (by omega) (fun _ _ => okP.some trivial))) (fun _ => ?_)
  refine okP.ite (fun _ => okP.bind (okP.aget (by omega) (by omega) (fun _ _ => okP.some trivial))) (fun _ => ?_)
  refine okP.ite (fun _ => okP.bind (okP.aget (by omega) (by omega) (fun _ _ => okP.some trivial))) (fun _ => ?_)
  exact okP.ite (fun _ => okP.bind (okP.aget (by omega) (by omega) (fun _ _ => okP.some trivial))) (fun _ => okP.some trivial)
 ·refine okP.ite (fun _ => okP.some trivial) (fun _ => ?_)
  refine okP.ite (fun _ => okP.some trivial) (fun x0 => ?_)
  refine okP.ite (fun x1 => ?_) (fun _ => okP.some trivial)
  rw [i_lt] at x0 x1
  refine okP.bind (okP.aget (by omega) (by omega) (fun _ _ => ?_))
  exact okP.ite (fun _ => okP.bind (okP.aget (by omega) (by omega) (fun _ _ => okP.some trivial))) (fun _ => okP.some trivial)
 ·refine okP.ite (fun _ => okP.some trivial) (fun _ => ?_)
  refine okP.ite (fun _ => okP.some trivial) (fun x0 => ?_)
  refine okP.ite (fun x1 => ?_) (fun _ => okP.some trivial)
  rw [i_lt] at x0 x1
  exact okP.bind (okP.aget (by omega) (by omega) (fun _ _ => okP.some trivial))
 ·refine okP.ite (fun _ => okP.some trivial) (fun _ => ?_)
  refine okP.ite (fun _ => okP.some trivial) (fun x0 => ?_)
  refine okP.ite (fun x1 => ?_) (fun _ => okP.some trivial)
  rw [i_lt] at x0 x1
  exact okP.bind (okP.aget (by omega) (by omega) (fun _ _ => okP.some trivial))
theorem spec_ok (o : Ob) (x : Int32) : okP (F11 o x) (fun _ => True) := by
 unfold F11
 repeat' with_reducible (first | exact okP.some trivial | (apply okP.ite <;> intro _))
theorem same_ok {n k : Int32} {o : Ob} (h : Bs n k o) (hn : n.toInt ≤ 32) : F8 o o = some 1 := by
 have z4 : (4 : Int32).toInt = 4 := rfl
 have z8 : (8 : Int32).toInt = 8 := rfl
 have z10 : (10 : Int32).toInt = 10 := rfl
 have l1 : okP (loopN (B8_28 o o) qN 0) (fun r => r = Sum.inl ()) := by
  refine okP.loop (fun w => 0 ≤ w.toInt ∧ w.toInt ≤ 10) (fun w => (10 - w.toInt).toNat) ⟨by show (0 : Int) ≤ 0; decide, by show (0 : Int) ≤ 10; decide⟩ (by show (10 - (0 : Int)).toNat < 4000; decide) ?_
  intro w ⟨a1, a2⟩
  unfold B8_28
  apply okP.ite
  ·intro c
   rw [i_lt, z10] at c
   have e2 : (w + 1).toInt = w.toInt + 1 := inc1 (by omega)
   obtain ⟨a, ha, _⟩ := spec_ok o w
   rw [ha]
   simp only [Option.bind_some, if_true]
   apply okP.some
   exact ⟨⟨by omega, by omega⟩, by omega⟩
  ·intro c
   apply okP.some
   rfl
 have l3 : ∀ x : Int32, okP (loopN (B8_65 o o x) qN 0) (fun r => r = Sum.inl ()) := by
  intro x
  refine okP.loop (fun w => 0 ≤ w.toInt ∧ w.toInt ≤ 4) (fun w => (4 - w.toInt).toNat) ⟨by show (0 : Int) ≤ 0; decide, by show (0 : Int) ≤ 4; decide⟩ (by show (4 - (0 : Int)).toNat < 4000; decide) ?_
  intro w ⟨a1, a2⟩
  unfold B8_65
  apply okP.ite
  ·intro c
   rw [i_lt, z4] at c
   have e2 : (w + 1).toInt = w.toInt + 1 := inc1 (by omega)
   obtain ⟨a, ha, _⟩ := (get_ok h hn x).1 w
   rw [ha]
   simp only [Option.bind_some, if_true]
   apply okP.some
   exact ⟨⟨by omega, by omega⟩, by omega⟩
  ·intro c
   apply okP.some
   rfl
 have l2 : okP (loopN (B8_57 o o) qN 0) (fun r => r = 1) := by
  refine okP.loop (fun w => 0 ≤ w.toInt ∧ w.toInt ≤ 8) (fun w => (8 - w.toInt).toNat) ⟨by show (0 : Int) ≤ 0; decide, by show (0 : Int) ≤ 8; decide⟩ (by show (8 - (0 : Int)).toNat < 4000; decide) ?_
  intro w ⟨a1, a2⟩
  unfold B8_57
  apply okP.ite
  ·intro c
   rw [i_lt, z8] at c
   have e2 : (w + 1).toInt = w.toInt + 1 := inc1 (by omega)
   obtain ⟨_, ⟨a, ha, _⟩, ⟨b, hb, _⟩, ⟨d, hd, _⟩⟩ := get_ok h hn w
   obtain ⟨f, hf, rfl⟩ := l3 w
   rw [ha, hb, hd, hf]
   simp only [Option.bind_some, if_true]
   apply okP.some
   exact ⟨⟨by omega, by omega⟩, by omega⟩
  ·intro c
   apply okP.some
   rfl
 obtain ⟨_, q1, rfl⟩ := l1
 obtain ⟨_, q2, rfl⟩ := l2
 unfold F8 F9 F10
 simp only [Option.bind_some, if_true, q1, q2]
theorem app_ok {n : Int32} {o : Ob} (h : Bs n 8 o) (n0 : 0 ≤ n.toInt) (n8 : n.toInt ≤ 8) (op a b c d : Int32) : okP (F3 o op a b c d) (fun r => (∃ m : Int32, 0 ≤ m.toInt ∧ m.toInt ≤ 8 ∧ Bs m 8 r.2) ∧ (r.1 = 0 → r.2 = o)) := by
 have z8 : (8 : Int32).toInt = 8 := rfl
 have set : ∀ r : Int32 × Ob, (r = (0, o) ∨ (r.1 = 1 ∧ Bs n 8 r.2 ∧ f_computed r.2 = 0)) → okP (some (r.1 &&& 1, r.2)) (fun r => (∃ m : Int32, 0 ≤ m.toInt ∧ m.toInt ≤ 8 ∧ Bs m 8 r.2) ∧ (r.1 = 0 → r.2 = o)) := by
  rintro r (rfl | ⟨q0, q1, q2⟩)
  ·exact okP.some ⟨⟨n, n0, n8, h⟩, fun _ => rfl⟩
  ·refine okP.some ⟨⟨n, n0, n8, q1⟩, fun q => ?_⟩
   simp only [q0] at q
   exact absurd q (by decide)
 unfold F3
 refine okP.ite (fun _ => ?_) (fun _ => ?_)
 ·apply okP.bind
  refine okP.mono (add_ok h n0 (by decide) (by omega) a b c d) ?_
  rintro r (rfl | ⟨q1, q2, q3, q4⟩)
  ·rw [if_pos rfl]
   exact okP.some ⟨⟨n, n0, n8, h⟩, fun _ => rfl⟩
  ·have ni : (n + 1).toInt = n.toInt + 1 := inc1 (by omega)
   rw [if_neg (by rw [q2]; intro e; rw [e] at n0; revert n0; decide)]
   exact okP.some ⟨⟨n + 1, by omega, by omega, q3⟩, fun q => absurd q (by show ¬ (1 : Int32) = 0; decide)⟩
 refine okP.ite (fun _ => ?_) (fun _ => ?_)
 ·apply okP.bind
  refine okP.mono (clear_ok h) (fun r hr => ?_)
  exact okP.some ⟨⟨0, by decide, by decide, hr.1⟩, fun q => absurd q (by show ¬ (1 : Int32) = 0; decide)⟩
 refine okP.ite (fun _ => okP.bind (okP.mono (order_ok h a b) set)) (fun _ => ?_)
 refine okP.ite (fun _ => okP.bind (okP.mono (mode_ok h a) set)) (fun _ => ?_)
 refine okP.ite (fun _ => okP.bind (okP.mono (start_ok h a b) set)) (fun _ => ?_)
 refine okP.ite (fun _ => okP.bind (okP.mono (end_ok h a b) set)) (fun _ => ?_)
 refine okP.ite (fun _ => okP.bind (okP.mono (fun_ok h a b) set)) (fun _ => ?_)
 apply okP.bind
 refine okP.mono (Bs_comp h n0 (by omega)) ?_
 rintro r (rfl | ⟨q0, q1, _, _, q2⟩)
 ·rw [if_pos rfl]
  exact okP.some ⟨⟨n, n0, n8, h⟩, fun _ => rfl⟩
 ·rw [if_neg (by rw [q0]; decide)]
  exact okP.some ⟨⟨n, n0, n8, q1⟩, fun q => absurd q (by show ¬ (1 : Int32) = 0; decide)⟩
theorem law_ok (s : List Int32) (hs : s.length ≤ 260) : ∃ τ, F0 s = some (1, τ) ∧ τ.length - List.length ([Sum.inr (Sum.inl (FieldType.int, s))] : QHeap) ≤ room_1.cells ∧ qhs τ - qhs [Sum.inr (Sum.inl (FieldType.int, s))] ≤ room_1.slots := by
 have hl := len_i (n := s.length) (by omega)
 obtain ⟨o, ho, hB, hC⟩ := init_ok
 have key : okP (loopN (B0_22 s) qN (0, o, o)) (fun e => e.1 = e.2 ∧ ∃ n : Int32, 0 ≤ n.toInt ∧ n.toInt ≤ 8 ∧ Bs n 8 e.1) := by
  refine okP.loop (fun v => 0 ≤ v.1.toInt ∧ v.1.toInt ≤ 260 ∧ v.2.1 = v.2.2 ∧ ∃ n : Int32, 0 ≤ n.toInt ∧ n.toInt ≤ 8 ∧ Bs n 8 v.2.1) (fun v => (265 - v.1.toInt).toNat) ⟨by show (0 : Int) ≤ 0; decide, by show (0 : Int) ≤ 260; decide, rfl, 0, by decide, by decide, hB⟩ (by show (265 - (0 : Int)).toNat < 4000; decide) ?_
  rintro ⟨i, o, o'⟩ ⟨a1, a2, a3, n, n0, n8, B⟩
  simp only at a1 a2 a3 B
  subst a3
  unfold B0_22
  have e1 : (1 : Int32).toInt = 1 := rfl
  have e2 : (2 : Int32).toInt = 2 := rfl
  have e3 : (3 : Int32).toInt = 3 := rfl
  have e4 : (4 : Int32).toInt = 4 := rfl
  have e5 : (5 : Int32).toInt = 5 := rfl
  have i1 : (i + 1).toInt = i.toInt + 1 := by rw [i_add (by omega) (by omega), e1]
  have i2 : (i + 2).toInt = i.toInt + 2 := by rw [i_add (by omega) (by omega), e2]
  have i3 : (i + 3).toInt = i.toInt + 3 := by rw [i_add (by omega) (by omega), e3]
  have i4 : (i + 4).toInt = i.toInt + 4 := by rw [i_add (by omega) (by omega), e4]
  have i5 : (i + 5).toInt = i.toInt + 5 := by rw [i_add (by omega) (by omega), e5]
  simp only
  apply okP.ite
  ·intro c
   exact okP.some ⟨rfl, n, n0, n8, B⟩
  ·intro c
   rw [i_lt, hl, i5] at c
   obtain ⟨y0, g0, _⟩ : okP (aget s i) (fun _ => True) := okP.aget (by omega) (by omega) (fun _ _ => trivial)
   obtain ⟨y1, g1, _⟩ : okP (aget s (i + 1)) (fun _ => True) := okP.aget (by omega) (by omega) (fun _ _ => trivial)
   obtain ⟨y2, g2, _⟩ : okP (aget s (i + 2)) (fun _ => True) := okP.aget (by omega) (by omega) (fun _ _ => trivial)
   obtain ⟨y3, g3, _⟩ : okP (aget s (i + 3)) (fun _ => True) := okP.aget (by omega) (by omega) (fun _ _ => trivial)
   obtain ⟨y4, g4, _⟩ : okP (aget s (i + 4)) (fun _ => True) := okP.aget (by omega) (by omega) (fun _ _ => trivial)
   rw [g0, g1, g2, g3, g4]
   simp only [Option.bind_some]
   obtain ⟨r, hr, ⟨m, m0, m8, hm⟩, hz⟩ := app_ok B n0 n8 (y0 &&& 7) y1 y2 y3 y4
   rw [hr]
   simp only [Option.bind_some]
   unfold J0_98
   apply okP.ite
   ·intro z
    apply okP.some
    exact ⟨⟨by simp only; omega, by simp only; omega, hz z, m, m0, m8, hm⟩, by simp only; omega⟩
   ·intro _
    apply okP.some
    exact ⟨⟨by simp only; omega, by simp only; omega, rfl, m, m0, m8, hm⟩, by simp only; omega⟩
 obtain ⟨⟨p, p'⟩, q1, q2, n, n0, n8, B⟩ := key
 simp only at q2 B
 subst q2
 unfold F0
 rw [ho]
 simp only [Option.bind_some]
 rw [q1]
 simp only [Option.bind_some]
 rw [same_ok B (by omega)]
 refine ⟨H1 s p p, rfl, by show 19 - 1 ≤ _; decide, ?_⟩
 obtain ⟨y1, y2, y3, y4, y5, y6, y7, y8, _⟩ := B
 simp only [H1, qhs, qsz, y1, y2, y3, y4, y5, y6, y7, y8]
 simp only [cN, room_1]
 omega
set_option maxRecDepth 65536 in
theorem comes_1 {Post : Tables → Env → Array Value → State → Outcome → State → Prop} (hpost : ∀ tb e args s v u, (limb_1_1.after args s (.returned v) u = true ∧ limb_1_2.after args s (.returned v) u = true ∧ True) → FrameEnd s (.returned v) u (Jvm.fieldLocs frame_1_writes args s ++ Jvm.arrayLocs frame_1_arrays args s ++ Jvm.staticLocs frame_1_statics s) 48 1216 → Post tb e args s (.returned v) u) :
    ArmFor flags0 classFile x code maxLocals ret World_1 tables_1 room_1 Calls_1 rest_1 Pre_1 Post := by
  intro l hfl _ _ p e ha hc hk s m args below hf hA hF happ hP
  obtain ⟨hcalls, hrest, hpre⟩ := hP
  obtain ⟨-, -, -, hnamed, -, -, -, hat⟩ := (Spec.applies_iff hf).mp happ
  obtain ⟨hg, hn⟩ := and_e (Cond.before_iff.mp (show (Jvm.Cond.and given_1 narrow_1).before args s = true from hpre))
  obtain ⟨g0, g1⟩ := and_e hg
  obtain ⟨w0, rfl⟩ : ∃ w0 : Value, args = #[w0] := by
    have hs : args.size = 1 := by simpa [Cond.value, given_1] using g0
    obtain ⟨L⟩ := args
    match L, hs with
    | [w0], _ => exact ⟨w0, rfl⟩
  have hw := fun d (hd : d ∈ tables_1) => atoms_spec (ws := Jvm.Cond.code x code maxLocals ret :: tables_1) hat d (List.mem_cons_of_mem _ hd)
  have hfit : Fit s := fun {y c} hc i hi => by
    obtain ⟨ha, rfl⟩ := Array.getElem?_eq_some_iff.mp hc
    have q := List.all_eq_true.mp ((Array.all_eq_true_iff_forall_mem.mp hF) _ (Array.getElem_mem ha)) i (List.mem_range.mpr hi)
    simpa [Array.getElem?_eq_getElem hi] using q
  obtain ⟨n1, n2⟩ := and_e hn
  obtain ⟨a, cl, xs, rfl, hA1, hA2, hlen⟩ := script_ok hfit n1 n2
  obtain ⟨τ, hF0, hc1, hs1⟩ := law_ok xs hlen
  have hlt := hA1.lt
  have Ad : QAd s.heap.size (fun k => match k with | 0 => a | k + 1 => s.heap.size + k) := ⟨fun k hk => by cases k with | zero => exact absurd hk (by decide) | succ k => rfl, fun i j h => by
    cases i with
    | zero => cases j with
      | zero => rfl
      | succ j => have h' : a = s.heap.size + j := h; exact absurd hA1.lt (by rw [h']; exact Nat.not_lt.mpr (Nat.le_add_right _ _))
    | succ i => cases j with
      | zero => have h' : s.heap.size + i = a := h; exact absurd hA1.lt (by rw [← h']; exact Nat.not_lt.mpr (Nat.le_add_right _ _))
      | succ j => have h' : s.heap.size + i = s.heap.size + j := h; omega⟩
  have hR : QRep s s.heap.size (fun k => match k with | 0 => a | k + 1 => s.heap.size + k) s.heap [.inr (.inl (.int, xs))] := ⟨Nat.le_refl _, rfl, fun k c h => by
    cases k with
    | zero => cases h; exact ⟨cl, hA1, hA2⟩
    | succ k => cases h⟩
  have T := tF0 (l := l) (Z := s) Ad (QW_ok hw) xs hF0
  have M := QTri.met (k := 0) (as := [.ref 0]) (by decide) T hR (Nat.le_of_ble_eq_true rfl) (fun q => by cases q) tables_1 (rm := room_1) (by decide) (by decide) hc1 hs1
  obtain ⟨n, o, h1, h2, h3, _, L, rfl, ⟨rfl, R', N⟩, hq⟩ := M p e ha hc hk s m _ below hf ((Spec.applies_iff_loose hf).mp happ).1 ⟨rfl, State.Warmed39.refl s, rfl⟩ trivial
  refine ⟨n, _, h1, h2, h3, hpost _ _ _ _ _ _ ⟨Cond.after_iff.mpr rfl, Cond.after_iff.mpr (eq_i res_at (Term.int_eval (1)) rfl), trivial⟩ ⟨hq.1, hq.2.1, (hq.2.2.sift fun y hy => Or.inr (N y hy)).mono hc1 hs1⟩⟩
theorem main_1_1 : Claimed_1_1 := comes_1 fun _ _ _ _ _ _ h hF => ⟨h.1, hF⟩
theorem main_1_2 : Claimed_1_2 := comes_1 fun _ _ _ _ _ _ h hF => ⟨h.2.1, hF⟩
end Jvm.Pilot.@@N@@
namespace Jvm.Pilot.@@N@@
open Jvm Jvm.ClassFile Sem Op Lib Jvm.Free Jvm.Stand Jvm.Pilot.@@N@@.Jvm.D
/-! MADE BY PROGRAM (witnessworld.py) out of the Statement's table words and the real class files: 13 classes; the members and pool entries that the words name. The judged class is class 1, her method 3. -/
namespace start1
open Jvm.ClassFile
def u (s : String) : CpInfo := .utf8 (stringToUtf16 s)
/-- a pool by its gaps: so many unusable entries, then the entry; so many at the end -/
def gap : Nat → List CpInfo → List CpInfo
  | 0, r => r
  | n + 1, r => .unusable :: gap n r
def poolList (es : List (Nat × CpInfo)) (last : Nat) : List CpInfo := es.foldr (fun e r => gap e.1 (e.2 :: r)) (gap last [])
def pool (es : List (Nat × CpInfo)) (last : Nat) : Array CpInfo := ⟨poolList es last⟩
def fileOf (pool : Array CpInfo) (this : Nat) (attrs : Array Attribute := #[]) (ms : Array MethodInfo := #[]) (fl : Nat := 33) (sup : Nat := 0) (ifs : Array Nat := #[]) (fds : Array FieldInfo := #[]) : ClassFile where
  minorVersion := 0
  majorVersion := 65
  constantPool := pool
  accessFlags := fl
  thisClass := this
  superClass := sup
  interfaces := ifs
  fields := fds
  methods := ms
  attributes := attrs
def plain (name : String) (sup : Option ClassId) : Class where
  name := name
  kind := .ordinary
  loader := none
  accessFlags := 33
  super := sup
  interfaces := #[]
  cf := none
  fields := #[]
  methods := #[]
  instanceTypes := #[]
  staticTypes := #[]
  resolved := #[]
  callSites := []
  init := .initialized
  statics := none
  mirror := none

def pool0 : Array CpInfo := pool [(5, u "<init>"), (0, u "()V"), (1, .class_ 10), (1, u "java/lang/Object")] 113

def k0c0 : Code := { maxStack := 0, maxLocals := 1, code := object_method_1_code, exceptionTable := #[], attributes := #[] }
def k0m0 : Method := { name := "<init>", desc := "()V", sig := { parameters := [], returnType := none }, accessFlags := 1, code := some k0c0 }
/-- java/lang/Object -/
def k0 : Class := { plain "java/lang/Object" none with
  accessFlags := 33
  interfaces := #[]
  cf := some (fileOf pool0 8 #[] #[{ accessFlags := 1, nameIndex := 5, descriptorIndex := 6, attributes := #[] }] 33 0 #[] #[])
  fields := #[]
  methods := #[k0m0]
  instanceTypes := #[]
  staticTypes := #[]
  resolved := Array.replicate 124 none
  statics := none }

def pool1 : Array CpInfo := pool [(2, .class_ 4), (1, u "java/lang/Object"), (0, u "<init>"), (0, u "()V"), (0, .methodref 8 9), (0, .class_ 10), (0, .nameAndType 11 12), (0, u "WindowFuncEngine"), (0, u "addRow"), (0, u "(IIII)I"), (0, .methodref 8 14), (0, .nameAndType 15 6), (0, u "clear"), (0, .methodref 8 17), (0, .nameAndType 18 19), (0, u "setOrder"), (0, u "(II)Z"), (0, .methodref 8 21), (0, .nameAndType 22 23), (0, u "setFrameMode"), (0, u "(I)Z"), (0, .methodref 8 25), (0, .nameAndType 26 19), (0, u "setFrameStart"), (0, .methodref 8 28), (0, .nameAndType 29 19), (0, u "setFrameEnd"), (0, .methodref 8 31), (0, .nameAndType 32 19), (0, u "setFunction"), (0, .methodref 8 34), (0, .nameAndType 35 36), (0, u "compute"), (0, u "()I"), (0, .methodref 8 38), (0, .nameAndType 39 36), (0, u "rowCount"), (0, .methodref 8 41), (0, .nameAndType 42 43), (0, u "isComputed"), (0, u "()Z"), (0, .methodref 8 45), (0, .nameAndType 46 47), (0, u "getSpec"), (0, u "(I)I"), (0, .methodref 8 49), (0, .nameAndType 50 51), (0, u "getRowField"), (0, u "(II)I"), (0, .methodref 8 53), (0, .nameAndType 54 55), (0, u "getResult"), (0, u "(I)J"), (0, .methodref 8 57), (0, .nameAndType 58 23), (0, u "isResultNull"), (0, .methodref 8 60), (0, .nameAndType 61 47), (0, u "getFrameCount"), (0, .methodref 8 63), (0, .nameAndType 5 64), (0, u "(I)V"), (0, .methodref 66 67), (0, .class_ 68), (0, .nameAndType 69 70), (0, u "WindowFuncEngineL5"), (0, u "apply"), (0, u "(LWindowFuncEngine;IIIII)Z"), (0, .methodref 66 72), (0, .nameAndType 73 74), (0, u "same"), (0, u "(LWindowFuncEngine;LWindowFuncEngine;)Z"), (3, u "law"), (0, u "([I)Z")] 2

def k1m0 : Method := { name := "<init>", desc := "()V", sig := { parameters := [], returnType := none }, accessFlags := 1, code := none }
def k1c1 : Code := { maxStack := 5, maxLocals := 6, code := method_2_code, exceptionTable := #[], attributes := #[] }
def k1m1 : Method := { name := "apply", desc := "(LWindowFuncEngine;IIIII)Z", sig := { parameters := [(.object "WindowFuncEngine"), .int, .int, .int, .int, .int], returnType := some .boolean }, accessFlags := 10, code := some k1c1 }
def k1c2 : Code := { maxStack := 4, maxLocals := 4, code := method_3_code, exceptionTable := #[], attributes := #[] }
def k1m2 : Method := { name := "same", desc := "(LWindowFuncEngine;LWindowFuncEngine;)Z", sig := { parameters := [(.object "WindowFuncEngine"), (.object "WindowFuncEngine")], returnType := some .boolean }, accessFlags := 10, code := some k1c2 }
def k1c3 : Code := { maxStack := 8, maxLocals := 6, code := code, exceptionTable := #[], attributes := #[] }
def k1m3 : Method := { name := "law", desc := "([I)Z", sig := { parameters := [(.array .int)], returnType := some .boolean }, accessFlags := 9, code := some k1c3 }
/-- WindowFuncEngineL5 -/
def k1 : Class := { plain "WindowFuncEngineL5" (some 0) with
  accessFlags := 33
  interfaces := #[]
  cf := some (fileOf pool1 66 #[] #[{ accessFlags := 1, nameIndex := 5, descriptorIndex := 6, attributes := #[] }, { accessFlags := 10, nameIndex := 69, descriptorIndex := 70, attributes := #[] }, { accessFlags := 10, nameIndex := 73, descriptorIndex := 74, attributes := #[] }, { accessFlags := 9, nameIndex := 78, descriptorIndex := 79, attributes := #[] }] 33 2 #[] #[])
  fields := #[]
  methods := #[k1m0, k1m1, k1m2, k1m3]
  instanceTypes := #[]
  staticTypes := #[]
  resolved := Array.replicate 82 none
  statics := none }

def pool2 : Array CpInfo := pool [(1, .methodref 2 3), (0, .class_ 4), (0, .nameAndType 5 6), (0, u "java/lang/Object"), (0, u "<init>"), (0, u "()V"), (0, .fieldref 8 9), (0, .class_ 10), (0, .nameAndType 11 12), (0, u "WindowFuncEngine"), (0, u "part"), (0, u "[I"), (0, .fieldref 8 14), (0, .nameAndType 15 12), (0, u "keys"), (0, .fieldref 8 17), (0, .nameAndType 18 12), (0, u "vals"), (0, .fieldref 8 20), (0, .nameAndType 21 12), (0, u "flg"), (0, .fieldref 8 23), (0, .nameAndType 24 25), (0, u "res"), (0, u "[J"), (0, .fieldref 8 27), (0, .nameAndType 28 29), (0, u "resNull"), (0, u "[Z"), (0, .fieldref 8 31), (0, .nameAndType 32 12), (0, u "frameCnt"), (0, .fieldref 8 34), (0, .nameAndType 35 12), (0, u "sorted"), (0, .fieldref 8 37), (0, .nameAndType 38 39), (0, u "cap"), (0, u "I"), (0, .fieldref 8 41), (0, .nameAndType 42 39), (0, u "rows"), (0, .methodref 8 44), (0, .nameAndType 45 6), (0, u "resetSpec"), (0, .fieldref 8 47), (0, .nameAndType 48 49), (0, u "computed"), (0, u "Z"), (0, .fieldref 8 51), (0, .nameAndType 52 39), (0, u "direction"), (0, .fieldref 8 54), (0, .nameAndType 55 39), (0, u "nulls"), (0, .fieldref 8 57), (0, .nameAndType 58 39), (0, u "mode"), (0, .fieldref 8 60), (0, .nameAndType 61 39), (0, u "startKind"), (0, .fieldref 8 63), (0, .nameAndType 64 39), (0, u "startOff"), (0, .fieldref 8 66), (0, .nameAndType 67 39), (0, u "endKind"), (0, .fieldref 8 69), (0, .nameAndType 70 39), (0, u "endOff"), (0, .fieldref 8 72), (0, .nameAndType 73 39), (0, u "fn"), (0, .fieldref 8 75), (0, .nameAndType 76 39), (0, u "fnArg"), (0, .methodref 8 78), (0, .nameAndType 79 80), (0, u "needsOrder"), (0, u "()Z"), (0, .methodref 8 82), (0, .nameAndType 83 84), (0, u "computeRow"), (0, u "(I)V"), (0, .methodref 8 86), (0, .nameAndType 87 88), (0, u "keyNull"), (0, u "(I)Z"), (0, .methodref 8 90), (0, .nameAndType 91 92), (0, u "before"), (0, u "(II)Z"), (0, .fieldref 8 94), (0, .nameAndType 95 39), (0, u "sortedLen"), (0, .fieldref 8 97), (0, .nameAndType 98 39), (0, u "curPos"), (0, .methodref 8 100), (0, .nameAndType 101 92), (0, u "rowsStartHolds"), (0, .methodref 8 103), (0, .nameAndType 104 92), (0, u "rowsEndHolds"), (0, .methodref 8 106), (0, .nameAndType 107 108), (0, u "rangeStartHolds"), (0, u "(IIII)Z"), (0, .methodref 8 110), (0, .nameAndType 111 108), (0, u "rangeEndHolds"), (0, .methodref 8 113), (0, .nameAndType 114 92), (0, u "peer"), (0, .methodref 8 116), (0, .nameAndType 117 118), (0, u "distance"), (0, u "(II)J"), (0, .methodref 8 120), (0, .nameAndType 121 84), (0, u "buildPartition"), (0, .methodref 8 123), (0, .nameAndType 124 84), (0, u "aggregateFrame"), (0, .fieldref 8 126), (0, .nameAndType 127 39), (0, u "aggRows"), (0, .methodref 8 129), (0, .nameAndType 130 84), (0, u "applyFunction"), (0, .fieldref 8 132), (0, .nameAndType 133 134), (0, u "aggSum"), (0, u "J"), (0, .fieldref 8 136), (0, .nameAndType 137 39), (0, u "aggCount"), (0, .fieldref 8 139), (0, .nameAndType 140 39), (0, u "aggMin"), (0, .fieldref 8 142), (0, .nameAndType 143 39), (0, u "aggMax"), (0, .methodref 8 145), (0, .nameAndType 146 108), (0, u "inFrame"), (0, .methodref 8 148), (0, .nameAndType 149 88), (0, u "valNull"), (0, .methodref 8 151), (0, .nameAndType 152 153), (0, u "setRes"), (0, u "(IJZ)V"), (0, .methodref 8 155), (0, .nameAndType 156 118), (0, u "rankOf"), (0, .methodref 8 158), (0, .nameAndType 159 118), (0, u "denseRankOf"), (0, .methodref 8 161), (0, .nameAndType 162 163), (0, u "shiftValue"), (0, u "(IIZ)V"), (0, u "ERR"), (2, u "ORDER_NONE"), (1, u "ORDER_ASC"), (1, u "ORDER_DESC"), (1, u "NULLS_FIRST"), (0, u "NULLS_LAST"), (0, u "MODE_ROWS"), (0, u "MODE_RANGE"), (0, u "BOUND_UNBOUNDED_PRECEDING"), (0, u "BOUND_PRECEDING"), (0, u "BOUND_CURRENT_ROW"), (0, u "BOUND_FOLLOWING"), (1, u "BOUND_UNBOUNDED_FOLLOWING"), (1, u "FN_SUM"), (0, u "FN_COUNT"), (0, u "FN_COUNT_ROWS"), (0, u "FN_MIN"), (0, u "FN_MAX"), (0, u "FN_ROW_NUMBER"), (1, u "FN_RANK"), (1, u "FN_DENSE_RANK"), (1, u "FN_LAG"), (1, u "FN_LEAD"), (1, u "FLAG_KEY_NULL"), (0, u "FLAG_VALUE_NULL"), (0, u "STATUS_OK"), (0, u "STATUS_NEEDS_ORDER"), (0, u "FIELD_PARTITION"), (0, u "FIELD_KEY"), (0, u "FIELD_VALUE"), (0, u "FIELD_FLAGS"), (0, u "SPEC_DIRECTION"), (0, u "SPEC_NULLS"), (0, u "SPEC_MODE"), (0, u "SPEC_START_KIND"), (0, u "SPEC_START_OFFSET"), (0, u "SPEC_END_KIND"), (0, u "SPEC_END_OFFSET"), (0, u "SPEC_FUNCTION"), (0, u "SPEC_FUNCTION_ARG"), (0, u "SPEC_CAPACITY"), (3, u "addRow"), (0, u "(IIII)I"), (1, u "clear"), (0, u "rowCount"), (0, u "()I"), (0, u "setOrder"), (0, u "setFrameMode"), (0, u "setFrameStart"), (0, u "setFrameEnd"), (0, u "setFunction"), (0, u "compute"), (0, u "isComputed"), (0, u "getResult"), (0, u "(I)J"), (0, u "isResultNull"), (0, u "getFrameCount"), (0, u "(I)I"), (0, u "getRowField"), (0, u "(II)I"), (0, u "getSpec")] 3

def k2c0 : Code := { maxStack := 2, maxLocals := 3, code := prog_1_method_1_code, exceptionTable := #[], attributes := #[] }
def k2m0 : Method := { name := "<init>", desc := "(I)V", sig := { parameters := [.int], returnType := none }, accessFlags := 1, code := some k2c0 }
def k2c1 : Code := { maxStack := 2, maxLocals := 1, code := prog_1_method_2_code, exceptionTable := #[], attributes := #[] }
def k2m1 : Method := { name := "resetSpec", desc := "()V", sig := { parameters := [], returnType := none }, accessFlags := 2, code := some k2c1 }
def k2c2 : Code := { maxStack := 4, maxLocals := 6, code := prog_1_method_3_code, exceptionTable := #[], attributes := #[] }
def k2m2 : Method := { name := "addRow", desc := "(IIII)I", sig := { parameters := [.int, .int, .int, .int], returnType := some .int }, accessFlags := 1, code := some k2c2 }
def k2c3 : Code := { maxStack := 2, maxLocals := 1, code := prog_1_method_4_code, exceptionTable := #[], attributes := #[] }
def k2m3 : Method := { name := "clear", desc := "()V", sig := { parameters := [], returnType := none }, accessFlags := 1, code := some k2c3 }
def k2c4 : Code := { maxStack := 1, maxLocals := 1, code := prog_1_method_5_code, exceptionTable := #[], attributes := #[] }
def k2m4 : Method := { name := "rowCount", desc := "()I", sig := { parameters := [], returnType := some .int }, accessFlags := 1, code := some k2c4 }
def k2c5 : Code := { maxStack := 2, maxLocals := 3, code := prog_1_method_6_code, exceptionTable := #[], attributes := #[] }
def k2m5 : Method := { name := "setOrder", desc := "(II)Z", sig := { parameters := [.int, .int], returnType := some .boolean }, accessFlags := 1, code := some k2c5 }
def k2c6 : Code := { maxStack := 2, maxLocals := 2, code := prog_1_method_7_code, exceptionTable := #[], attributes := #[] }
def k2m6 : Method := { name := "setFrameMode", desc := "(I)Z", sig := { parameters := [.int], returnType := some .boolean }, accessFlags := 1, code := some k2c6 }
def k2c7 : Code := { maxStack := 2, maxLocals := 4, code := prog_1_method_8_code, exceptionTable := #[], attributes := #[] }
def k2m7 : Method := { name := "setFrameStart", desc := "(II)Z", sig := { parameters := [.int, .int], returnType := some .boolean }, accessFlags := 1, code := some k2c7 }
def k2c8 : Code := { maxStack := 2, maxLocals := 4, code := prog_1_method_9_code, exceptionTable := #[], attributes := #[] }
def k2m8 : Method := { name := "setFrameEnd", desc := "(II)Z", sig := { parameters := [.int, .int], returnType := some .boolean }, accessFlags := 1, code := some k2c8 }
def k2c9 : Code := { maxStack := 2, maxLocals := 4, code := prog_1_method_10_code, exceptionTable := #[], attributes := #[] }
def k2m9 : Method := { name := "setFunction", desc := "(II)Z", sig := { parameters := [.int, .int], returnType := some .boolean }, accessFlags := 1, code := some k2c9 }
def k2c10 : Code := { maxStack := 2, maxLocals := 2, code := prog_1_method_11_code, exceptionTable := #[], attributes := #[] }
def k2m10 : Method := { name := "compute", desc := "()I", sig := { parameters := [], returnType := some .int }, accessFlags := 1, code := some k2c10 }
def k2c11 : Code := { maxStack := 2, maxLocals := 3, code := prog_1_method_12_code, exceptionTable := #[], attributes := #[] }
def k2m11 : Method := { name := "needsOrder", desc := "()Z", sig := { parameters := [], returnType := some .boolean }, accessFlags := 2, code := some k2c11 }
def k2c12 : Code := { maxStack := 1, maxLocals := 1, code := prog_1_method_13_code, exceptionTable := #[], attributes := #[] }
def k2m12 : Method := { name := "isComputed", desc := "()Z", sig := { parameters := [], returnType := some .boolean }, accessFlags := 1, code := some k2c12 }
def k2c13 : Code := { maxStack := 2, maxLocals := 2, code := prog_1_method_14_code, exceptionTable := #[], attributes := #[] }
def k2m13 : Method := { name := "getResult", desc := "(I)J", sig := { parameters := [.int], returnType := some .long }, accessFlags := 1, code := some k2c13 }
def k2c14 : Code := { maxStack := 2, maxLocals := 2, code := prog_1_method_15_code, exceptionTable := #[], attributes := #[] }
def k2m14 : Method := { name := "isResultNull", desc := "(I)Z", sig := { parameters := [.int], returnType := some .boolean }, accessFlags := 1, code := some k2c14 }
def k2c15 : Code := { maxStack := 2, maxLocals := 2, code := prog_1_method_16_code, exceptionTable := #[], attributes := #[] }
def k2m15 : Method := { name := "getFrameCount", desc := "(I)I", sig := { parameters := [.int], returnType := some .int }, accessFlags := 1, code := some k2c15 }
def k2c16 : Code := { maxStack := 2, maxLocals := 3, code := prog_1_method_17_code, exceptionTable := #[], attributes := #[] }
def k2m16 : Method := { name := "getRowField", desc := "(II)I", sig := { parameters := [.int, .int], returnType := some .int }, accessFlags := 1, code := some k2c16 }
def k2c17 : Code := { maxStack := 2, maxLocals := 2, code := prog_1_method_18_code, exceptionTable := #[], attributes := #[] }
def k2m17 : Method := { name := "getSpec", desc := "(I)I", sig := { parameters := [.int], returnType := some .int }, accessFlags := 1, code := some k2c17 }
def k2c18 : Code := { maxStack := 2, maxLocals := 2, code := prog_1_method_19_code, exceptionTable := #[], attributes := #[] }
def k2m18 : Method := { name := "keyNull", desc := "(I)Z", sig := { parameters := [.int], returnType := some .boolean }, accessFlags := 2, code := some k2c18 }
def k2c19 : Code := { maxStack := 2, maxLocals := 2, code := prog_1_method_20_code, exceptionTable := #[], attributes := #[] }
def k2m19 : Method := { name := "valNull", desc := "(I)Z", sig := { parameters := [.int], returnType := some .boolean }, accessFlags := 2, code := some k2c19 }
def k2c20 : Code := { maxStack := 3, maxLocals := 5, code := prog_1_method_21_code, exceptionTable := #[], attributes := #[] }
def k2m20 : Method := { name := "before", desc := "(II)Z", sig := { parameters := [.int, .int], returnType := some .boolean }, accessFlags := 2, code := some k2c20 }
def k2c21 : Code := { maxStack := 3, maxLocals := 5, code := prog_1_method_22_code, exceptionTable := #[], attributes := #[] }
def k2m21 : Method := { name := "peer", desc := "(II)Z", sig := { parameters := [.int, .int], returnType := some .boolean }, accessFlags := 2, code := some k2c21 }
def k2c22 : Code := { maxStack := 5, maxLocals := 6, code := prog_1_method_23_code, exceptionTable := #[], attributes := #[] }
def k2m22 : Method := { name := "buildPartition", desc := "(I)V", sig := { parameters := [.int], returnType := none }, accessFlags := 2, code := some k2c22 }
def k2c23 : Code := { maxStack := 5, maxLocals := 5, code := prog_1_method_24_code, exceptionTable := #[], attributes := #[] }
def k2m23 : Method := { name := "inFrame", desc := "(IIII)Z", sig := { parameters := [.int, .int, .int, .int], returnType := some .boolean }, accessFlags := 2, code := some k2c23 }
def k2c24 : Code := { maxStack := 6, maxLocals := 9, code := prog_1_method_25_code, exceptionTable := #[], attributes := #[] }
def k2m24 : Method := { name := "rowsStartHolds", desc := "(II)Z", sig := { parameters := [.int, .int], returnType := some .boolean }, accessFlags := 2, code := some k2c24 }
def k2c25 : Code := { maxStack := 6, maxLocals := 9, code := prog_1_method_26_code, exceptionTable := #[], attributes := #[] }
def k2m25 : Method := { name := "rowsEndHolds", desc := "(II)Z", sig := { parameters := [.int, .int], returnType := some .boolean }, accessFlags := 2, code := some k2c25 }
def k2c26 : Code := { maxStack := 4, maxLocals := 3, code := prog_1_method_27_code, exceptionTable := #[], attributes := #[] }
def k2m26 : Method := { name := "distance", desc := "(II)J", sig := { parameters := [.int, .int], returnType := some .long }, accessFlags := 2, code := some k2c26 }
def k2c27 : Code := { maxStack := 4, maxLocals := 10, code := prog_1_method_28_code, exceptionTable := #[], attributes := #[] }
def k2m27 : Method := { name := "rangeStartHolds", desc := "(IIII)Z", sig := { parameters := [.int, .int, .int, .int], returnType := some .boolean }, accessFlags := 2, code := some k2c27 }
def k2c28 : Code := { maxStack := 4, maxLocals := 10, code := prog_1_method_29_code, exceptionTable := #[], attributes := #[] }
def k2m28 : Method := { name := "rangeEndHolds", desc := "(IIII)Z", sig := { parameters := [.int, .int, .int, .int], returnType := some .boolean }, accessFlags := 2, code := some k2c28 }
def k2c29 : Code := { maxStack := 3, maxLocals := 2, code := prog_1_method_30_code, exceptionTable := #[], attributes := #[] }
def k2m29 : Method := { name := "computeRow", desc := "(I)V", sig := { parameters := [.int], returnType := none }, accessFlags := 2, code := some k2c29 }
def k2c30 : Code := { maxStack := 5, maxLocals := 7, code := prog_1_method_31_code, exceptionTable := #[], attributes := #[] }
def k2m30 : Method := { name := "aggregateFrame", desc := "(I)V", sig := { parameters := [.int], returnType := none }, accessFlags := 2, code := some k2c30 }
def k2c31 : Code := { maxStack := 4, maxLocals := 5, code := prog_1_method_32_code, exceptionTable := #[], attributes := #[] }
def k2m31 : Method := { name := "setRes", desc := "(IJZ)V", sig := { parameters := [.int, .long, .boolean], returnType := none }, accessFlags := 2, code := some k2c31 }
def k2c32 : Code := { maxStack := 6, maxLocals := 5, code := prog_1_method_33_code, exceptionTable := #[], attributes := #[] }
def k2m32 : Method := { name := "applyFunction", desc := "(I)V", sig := { parameters := [.int], returnType := none }, accessFlags := 2, code := some k2c32 }
def k2c33 : Code := { maxStack := 4, maxLocals := 6, code := prog_1_method_34_code, exceptionTable := #[], attributes := #[] }
def k2m33 : Method := { name := "rankOf", desc := "(II)J", sig := { parameters := [.int, .int], returnType := some .long }, accessFlags := 2, code := some k2c33 }
def k2c34 : Code := { maxStack := 5, maxLocals := 7, code := prog_1_method_35_code, exceptionTable := #[], attributes := #[] }
def k2m34 : Method := { name := "denseRankOf", desc := "(II)J", sig := { parameters := [.int, .int], returnType := some .long }, accessFlags := 2, code := some k2c34 }
def k2c35 : Code := { maxStack := 6, maxLocals := 7, code := prog_1_method_36_code, exceptionTable := #[], attributes := #[] }
def k2m35 : Method := { name := "shiftValue", desc := "(IIZ)V", sig := { parameters := [.int, .int, .boolean], returnType := none }, accessFlags := 2, code := some k2c35 }
/-- WindowFuncEngine -/
def k2 : Class := { plain "WindowFuncEngine" (some 0) with
  accessFlags := 49
  interfaces := #[]
  cf := some (fileOf pool2 8 #[] #[{ accessFlags := 1, nameIndex := 5, descriptorIndex := 84, attributes := #[] }, { accessFlags := 2, nameIndex := 45, descriptorIndex := 6, attributes := #[] }, { accessFlags := 1, nameIndex := 220, descriptorIndex := 221, attributes := #[] }, { accessFlags := 1, nameIndex := 223, descriptorIndex := 6, attributes := #[] }, { accessFlags := 1, nameIndex := 224, descriptorIndex := 225, attributes := #[] }, { accessFlags := 1, nameIndex := 226, descriptorIndex := 92, attributes := #[] }, { accessFlags := 1, nameIndex := 227, descriptorIndex := 88, attributes := #[] }, { accessFlags := 1, nameIndex := 228, descriptorIndex := 92, attributes := #[] }, { accessFlags := 1, nameIndex := 229, descriptorIndex := 92, attributes := #[] }, { accessFlags := 1, nameIndex := 230, descriptorIndex := 92, attributes := #[] }, { accessFlags := 1, nameIndex := 231, descriptorIndex := 225, attributes := #[] }, { accessFlags := 2, nameIndex := 79, descriptorIndex := 80, attributes := #[] }, { accessFlags := 1, nameIndex := 232, descriptorIndex := 80, attributes := #[] }, { accessFlags := 1, nameIndex := 233, descriptorIndex := 234, attributes := #[] }, { accessFlags := 1, nameIndex := 235, descriptorIndex := 88, attributes := #[] }, { accessFlags := 1, nameIndex := 236, descriptorIndex := 237, attributes := #[] }, { accessFlags := 1, nameIndex := 238, descriptorIndex := 239, attributes := #[] }, { accessFlags := 1, nameIndex := 240, descriptorIndex := 237, attributes := #[] }, { accessFlags := 2, nameIndex := 87, descriptorIndex := 88, attributes := #[] }, { accessFlags := 2, nameIndex := 149, descriptorIndex := 88, attributes := #[] }, { accessFlags := 2, nameIndex := 91, descriptorIndex := 92, attributes := #[] }, { accessFlags := 2, nameIndex := 114, descriptorIndex := 92, attributes := #[] }, { accessFlags := 2, nameIndex := 121, descriptorIndex := 84, attributes := #[] }, { accessFlags := 2, nameIndex := 146, descriptorIndex := 108, attributes := #[] }, { accessFlags := 2, nameIndex := 101, descriptorIndex := 92, attributes := #[] }, { accessFlags := 2, nameIndex := 104, descriptorIndex := 92, attributes := #[] }, { accessFlags := 2, nameIndex := 117, descriptorIndex := 118, attributes := #[] }, { accessFlags := 2, nameIndex := 107, descriptorIndex := 108, attributes := #[] }, { accessFlags := 2, nameIndex := 111, descriptorIndex := 108, attributes := #[] }, { accessFlags := 2, nameIndex := 83, descriptorIndex := 84, attributes := #[] }, { accessFlags := 2, nameIndex := 124, descriptorIndex := 84, attributes := #[] }, { accessFlags := 2, nameIndex := 152, descriptorIndex := 153, attributes := #[] }, { accessFlags := 2, nameIndex := 130, descriptorIndex := 84, attributes := #[] }, { accessFlags := 2, nameIndex := 156, descriptorIndex := 118, attributes := #[] }, { accessFlags := 2, nameIndex := 159, descriptorIndex := 118, attributes := #[] }, { accessFlags := 2, nameIndex := 162, descriptorIndex := 163, attributes := #[] }] 49 2 #[] #[{ accessFlags := 25, nameIndex := 164, descriptorIndex := 39, attributes := #[] }, { accessFlags := 25, nameIndex := 167, descriptorIndex := 39, attributes := #[] }, { accessFlags := 25, nameIndex := 169, descriptorIndex := 39, attributes := #[] }, { accessFlags := 25, nameIndex := 171, descriptorIndex := 39, attributes := #[] }, { accessFlags := 25, nameIndex := 173, descriptorIndex := 39, attributes := #[] }, { accessFlags := 25, nameIndex := 174, descriptorIndex := 39, attributes := #[] }, { accessFlags := 25, nameIndex := 175, descriptorIndex := 39, attributes := #[] }, { accessFlags := 25, nameIndex := 176, descriptorIndex := 39, attributes := #[] }, { accessFlags := 25, nameIndex := 177, descriptorIndex := 39, attributes := #[] }, { accessFlags := 25, nameIndex := 178, descriptorIndex := 39, attributes := #[] }, { accessFlags := 25, nameIndex := 179, descriptorIndex := 39, attributes := #[] }, { accessFlags := 25, nameIndex := 180, descriptorIndex := 39, attributes := #[] }, { accessFlags := 25, nameIndex := 182, descriptorIndex := 39, attributes := #[] }, { accessFlags := 25, nameIndex := 184, descriptorIndex := 39, attributes := #[] }, { accessFlags := 25, nameIndex := 185, descriptorIndex := 39, attributes := #[] }, { accessFlags := 25, nameIndex := 186, descriptorIndex := 39, attributes := #[] }, { accessFlags := 25, nameIndex := 187, descriptorIndex := 39, attributes := #[] }, { accessFlags := 25, nameIndex := 188, descriptorIndex := 39, attributes := #[] }, { accessFlags := 25, nameIndex := 189, descriptorIndex := 39, attributes := #[] }, { accessFlags := 25, nameIndex := 191, descriptorIndex := 39, attributes := #[] }, { accessFlags := 25, nameIndex := 193, descriptorIndex := 39, attributes := #[] }, { accessFlags := 25, nameIndex := 195, descriptorIndex := 39, attributes := #[] }, { accessFlags := 25, nameIndex := 197, descriptorIndex := 39, attributes := #[] }, { accessFlags := 25, nameIndex := 199, descriptorIndex := 39, attributes := #[] }, { accessFlags := 25, nameIndex := 200, descriptorIndex := 39, attributes := #[] }, { accessFlags := 25, nameIndex := 201, descriptorIndex := 39, attributes := #[] }, { accessFlags := 25, nameIndex := 202, descriptorIndex := 39, attributes := #[] }, { accessFlags := 25, nameIndex := 203, descriptorIndex := 39, attributes := #[] }, { accessFlags := 25, nameIndex := 204, descriptorIndex := 39, attributes := #[] }, { accessFlags := 25, nameIndex := 205, descriptorIndex := 39, attributes := #[] }, { accessFlags := 25, nameIndex := 206, descriptorIndex := 39, attributes := #[] }, { accessFlags := 25, nameIndex := 207, descriptorIndex := 39, attributes := #[] }, { accessFlags := 25, nameIndex := 208, descriptorIndex := 39, attributes := #[] }, { accessFlags := 25, nameIndex := 209, descriptorIndex := 39, attributes := #[] }, { accessFlags := 25, nameIndex := 210, descriptorIndex := 39, attributes := #[] }, { accessFlags := 25, nameIndex := 211, descriptorIndex := 39, attributes := #[] }, { accessFlags := 25, nameIndex := 212, descriptorIndex := 39, attributes := #[] }, { accessFlags := 25, nameIndex := 213, descriptorIndex := 39, attributes := #[] }, { accessFlags := 25, nameIndex := 214, descriptorIndex := 39, attributes := #[] }, { accessFlags := 25, nameIndex := 215, descriptorIndex := 39, attributes := #[] }, { accessFlags := 25, nameIndex := 216, descriptorIndex := 39, attributes := #[] }, { accessFlags := 2, nameIndex := 38, descriptorIndex := 39, attributes := #[] }, { accessFlags := 2, nameIndex := 42, descriptorIndex := 39, attributes := #[] }, { accessFlags := 2, nameIndex := 11, descriptorIndex := 12, attributes := #[] }, { accessFlags := 2, nameIndex := 15, descriptorIndex := 12, attributes := #[] }, { accessFlags := 2, nameIndex := 18, descriptorIndex := 12, attributes := #[] }, { accessFlags := 2, nameIndex := 21, descriptorIndex := 12, attributes := #[] }, { accessFlags := 2, nameIndex := 52, descriptorIndex := 39, attributes := #[] }, { accessFlags := 2, nameIndex := 55, descriptorIndex := 39, attributes := #[] }, { accessFlags := 2, nameIndex := 58, descriptorIndex := 39, attributes := #[] }, { accessFlags := 2, nameIndex := 61, descriptorIndex := 39, attributes := #[] }, { accessFlags := 2, nameIndex := 64, descriptorIndex := 39, attributes := #[] }, { accessFlags := 2, nameIndex := 67, descriptorIndex := 39, attributes := #[] }, { accessFlags := 2, nameIndex := 70, descriptorIndex := 39, attributes := #[] }, { accessFlags := 2, nameIndex := 73, descriptorIndex := 39, attributes := #[] }, { accessFlags := 2, nameIndex := 76, descriptorIndex := 39, attributes := #[] }, { accessFlags := 2, nameIndex := 48, descriptorIndex := 49, attributes := #[] }, { accessFlags := 2, nameIndex := 24, descriptorIndex := 25, attributes := #[] }, { accessFlags := 2, nameIndex := 28, descriptorIndex := 29, attributes := #[] }, { accessFlags := 2, nameIndex := 32, descriptorIndex := 12, attributes := #[] }, { accessFlags := 2, nameIndex := 35, descriptorIndex := 12, attributes := #[] }, { accessFlags := 2, nameIndex := 95, descriptorIndex := 39, attributes := #[] }, { accessFlags := 2, nameIndex := 98, descriptorIndex := 39, attributes := #[] }, { accessFlags := 2, nameIndex := 133, descriptorIndex := 134, attributes := #[] }, { accessFlags := 2, nameIndex := 137, descriptorIndex := 39, attributes := #[] }, { accessFlags := 2, nameIndex := 127, descriptorIndex := 39, attributes := #[] }, { accessFlags := 2, nameIndex := 140, descriptorIndex := 39, attributes := #[] }, { accessFlags := 2, nameIndex := 143, descriptorIndex := 39, attributes := #[] }])
  fields := #[{ name := "ERR", type := .int, accessFlags := 25, slot := 0, constantValue := 0 }, { name := "ORDER_NONE", type := .int, accessFlags := 25, slot := 1, constantValue := 0 }, { name := "ORDER_ASC", type := .int, accessFlags := 25, slot := 2, constantValue := 0 }, { name := "ORDER_DESC", type := .int, accessFlags := 25, slot := 3, constantValue := 0 }, { name := "NULLS_FIRST", type := .int, accessFlags := 25, slot := 4, constantValue := 0 }, { name := "NULLS_LAST", type := .int, accessFlags := 25, slot := 5, constantValue := 0 }, { name := "MODE_ROWS", type := .int, accessFlags := 25, slot := 6, constantValue := 0 }, { name := "MODE_RANGE", type := .int, accessFlags := 25, slot := 7, constantValue := 0 }, { name := "BOUND_UNBOUNDED_PRECEDING", type := .int, accessFlags := 25, slot := 8, constantValue := 0 }, { name := "BOUND_PRECEDING", type := .int, accessFlags := 25, slot := 9, constantValue := 0 }, { name := "BOUND_CURRENT_ROW", type := .int, accessFlags := 25, slot := 10, constantValue := 0 }, { name := "BOUND_FOLLOWING", type := .int, accessFlags := 25, slot := 11, constantValue := 0 }, { name := "BOUND_UNBOUNDED_FOLLOWING", type := .int, accessFlags := 25, slot := 12, constantValue := 0 }, { name := "FN_SUM", type := .int, accessFlags := 25, slot := 13, constantValue := 0 }, { name := "FN_COUNT", type := .int, accessFlags := 25, slot := 14, constantValue := 0 }, { name := "FN_COUNT_ROWS", type := .int, accessFlags := 25, slot := 15, constantValue := 0 }, { name := "FN_MIN", type := .int, accessFlags := 25, slot := 16, constantValue := 0 }, { name := "FN_MAX", type := .int, accessFlags := 25, slot := 17, constantValue := 0 }, { name := "FN_ROW_NUMBER", type := .int, accessFlags := 25, slot := 18, constantValue := 0 }, { name := "FN_RANK", type := .int, accessFlags := 25, slot := 19, constantValue := 0 }, { name := "FN_DENSE_RANK", type := .int, accessFlags := 25, slot := 20, constantValue := 0 }, { name := "FN_LAG", type := .int, accessFlags := 25, slot := 21, constantValue := 0 }, { name := "FN_LEAD", type := .int, accessFlags := 25, slot := 22, constantValue := 0 }, { name := "FLAG_KEY_NULL", type := .int, accessFlags := 25, slot := 23, constantValue := 0 }, { name := "FLAG_VALUE_NULL", type := .int, accessFlags := 25, slot := 24, constantValue := 0 }, { name := "STATUS_OK", type := .int, accessFlags := 25, slot := 25, constantValue := 0 }, { name := "STATUS_NEEDS_ORDER", type := .int, accessFlags := 25, slot := 26, constantValue := 0 }, { name := "FIELD_PARTITION", type := .int, accessFlags := 25, slot := 27, constantValue := 0 }, { name := "FIELD_KEY", type := .int, accessFlags := 25, slot := 28, constantValue := 0 }, { name := "FIELD_VALUE", type := .int, accessFlags := 25, slot := 29, constantValue := 0 }, { name := "FIELD_FLAGS", type := .int, accessFlags := 25, slot := 30, constantValue := 0 }, { name := "SPEC_DIRECTION", type := .int, accessFlags := 25, slot := 31, constantValue := 0 }, { name := "SPEC_NULLS", type := .int, accessFlags := 25, slot := 32, constantValue := 0 }, { name := "SPEC_MODE", type := .int, accessFlags := 25, slot := 33, constantValue := 0 }, { name := "SPEC_START_KIND", type := .int, accessFlags := 25, slot := 34, constantValue := 0 }, { name := "SPEC_START_OFFSET", type := .int, accessFlags := 25, slot := 35, constantValue := 0 }, { name := "SPEC_END_KIND", type := .int, accessFlags := 25, slot := 36, constantValue := 0 }, { name := "SPEC_END_OFFSET", type := .int, accessFlags := 25, slot := 37, constantValue := 0 }, { name := "SPEC_FUNCTION", type := .int, accessFlags := 25, slot := 38, constantValue := 0 }, { name := "SPEC_FUNCTION_ARG", type := .int, accessFlags := 25, slot := 39, constantValue := 0 }, { name := "SPEC_CAPACITY", type := .int, accessFlags := 25, slot := 40, constantValue := 0 }, { name := "cap", type := .int, accessFlags := 2, slot := 0, constantValue := 0 }, { name := "rows", type := .int, accessFlags := 2, slot := 1, constantValue := 0 }, { name := "part", type := (.array .int), accessFlags := 2, slot := 2, constantValue := 0 }, { name := "keys", type := (.array .int), accessFlags := 2, slot := 3, constantValue := 0 }, { name := "vals", type := (.array .int), accessFlags := 2, slot := 4, constantValue := 0 }, { name := "flg", type := (.array .int), accessFlags := 2, slot := 5, constantValue := 0 }, { name := "direction", type := .int, accessFlags := 2, slot := 6, constantValue := 0 }, { name := "nulls", type := .int, accessFlags := 2, slot := 7, constantValue := 0 }, { name := "mode", type := .int, accessFlags := 2, slot := 8, constantValue := 0 }, { name := "startKind", type := .int, accessFlags := 2, slot := 9, constantValue := 0 }, { name := "startOff", type := .int, accessFlags := 2, slot := 10, constantValue := 0 }, { name := "endKind", type := .int, accessFlags := 2, slot := 11, constantValue := 0 }, { name := "endOff", type := .int, accessFlags := 2, slot := 12, constantValue := 0 }, { name := "fn", type := .int, accessFlags := 2, slot := 13, constantValue := 0 }, { name := "fnArg", type := .int, accessFlags := 2, slot := 14, constantValue := 0 }, { name := "computed", type := .boolean, accessFlags := 2, slot := 15, constantValue := 0 }, { name := "res", type := (.array .long), accessFlags := 2, slot := 16, constantValue := 0 }, { name := "resNull", type := (.array .boolean), accessFlags := 2, slot := 17, constantValue := 0 }, { name := "frameCnt", type := (.array .int), accessFlags := 2, slot := 18, constantValue := 0 }, { name := "sorted", type := (.array .int), accessFlags := 2, slot := 19, constantValue := 0 }, { name := "sortedLen", type := .int, accessFlags := 2, slot := 20, constantValue := 0 }, { name := "curPos", type := .int, accessFlags := 2, slot := 21, constantValue := 0 }, { name := "aggSum", type := .long, accessFlags := 2, slot := 22, constantValue := 0 }, { name := "aggCount", type := .int, accessFlags := 2, slot := 23, constantValue := 0 }, { name := "aggRows", type := .int, accessFlags := 2, slot := 24, constantValue := 0 }, { name := "aggMin", type := .int, accessFlags := 2, slot := 25, constantValue := 0 }, { name := "aggMax", type := .int, accessFlags := 2, slot := 26, constantValue := 0 }]
  methods := #[k2m0, k2m1, k2m2, k2m3, k2m4, k2m5, k2m6, k2m7, k2m8, k2m9, k2m10, k2m11, k2m12, k2m13, k2m14, k2m15, k2m16, k2m17, k2m18, k2m19, k2m20, k2m21, k2m22, k2m23, k2m24, k2m25, k2m26, k2m27, k2m28, k2m29, k2m30, k2m31, k2m32, k2m33, k2m34, k2m35]
  instanceTypes := #[.int, .int, (.array .int), (.array .int), (.array .int), (.array .int), .int, .int, .int, .int, .int, .int, .int, .int, .int, .boolean, (.array .long), (.array .boolean), (.array .int), (.array .int), .int, .int, .long, .int, .int, .int, .int]
  staticTypes := #[.int, .int, .int, .int, .int, .int, .int, .int, .int, .int, .int, .int, .int, .int, .int, .int, .int, .int, .int, .int, .int, .int, .int, .int, .int, .int, .int, .int, .int, .int, .int, .int, .int, .int, .int, .int, .int, .int, .int, .int, .int]
  resolved := Array.replicate 244 none
  statics := none }

def pool3 : Array CpInfo := pool [(1, u "java/lang/Cloneable"), (0, .class_ 1), (0, u "java/lang/Object"), (0, .class_ 3)] 3

/-- java/lang/Cloneable -/
def k3 : Class := { plain "java/lang/Cloneable" (some 0) with
  accessFlags := 1537
  interfaces := #[]
  cf := some (fileOf pool3 2 #[] #[] 1537 4 #[] #[])
  fields := #[]
  methods := #[]
  instanceTypes := #[]
  staticTypes := #[]
  resolved := Array.replicate 8 none
  statics := none }

def pool4 : Array CpInfo := pool [(1, u "java/io/Serializable"), (0, .class_ 1), (0, u "java/lang/Object"), (0, .class_ 3)] 3

/-- java/io/Serializable -/
def k4 : Class := { plain "java/io/Serializable" (some 0) with
  accessFlags := 1537
  interfaces := #[]
  cf := some (fileOf pool4 2 #[] #[] 1537 4 #[] #[])
  fields := #[]
  methods := #[]
  instanceTypes := #[]
  staticTypes := #[]
  resolved := Array.replicate 8 none
  statics := none }

/-- the primitive boolean -/
def k5 : Class := { plain "boolean" none with kind := .primitive 'Z', accessFlags := 0x411 }
/-- [Z -/
def k6 : Class := { plain "[Z" (some 0) with kind := .array 5 .boolean, interfaces := #[3, 4], accessFlags := 1041 }

/-- the primitive byte -/
def k7 : Class := { plain "byte" none with kind := .primitive 'B', accessFlags := 0x411 }
/-- [B -/
def k8 : Class := { plain "[B" (some 0) with kind := .array 7 .byte, interfaces := #[3, 4], accessFlags := 1041 }

/-- the primitive int -/
def k9 : Class := { plain "int" none with kind := .primitive 'I', accessFlags := 0x411 }
/-- [I -/
def k10 : Class := { plain "[I" (some 0) with kind := .array 9 .int, interfaces := #[3, 4], accessFlags := 1041 }

/-- the primitive long -/
def k11 : Class := { plain "long" none with kind := .primitive 'J', accessFlags := 0x411 }
/-- [J -/
def k12 : Class := { plain "[J" (some 0) with kind := .array 11 .long, interfaces := #[3, 4], accessFlags := 1041 }

def heap : Heap := #[{ cls := 10, slots := #[.int 1, .int 2, .int 3], vm := .none }]
def classes : Array Class := #[k0, k1, k2, k3, k4, k5, k6, k7, k8, k9, k10, k11, k12]
def interned : List (Array UInt16 × Addr) := []
def slotsUsed : Nat := 3
def theMethod : MethodId := ⟨1, 3⟩
def args0 : Array Value := #[.ref 0]
def aboutOver (below : List Frame) : State where
  vm := { classes := classes, interned := interned.toArray }
  heap := heap
  slotsUsed := slotsUsed
  threads := #[{ frames := .invoking theMethod args0 :: below }]
def below0 : List Frame := [.native { method := ⟨0, 0⟩, args := #[] }]
def about1 : State := aboutOver below0
def p0 : Program := .bare "" "" ""
def e0 : Env := launch0.env 0 0 0
theorem w_frames : about1.frames = Frame.invoking theMethod args0 :: below0 := rfl
set_option maxRecDepth 65536 in
theorem w_args : argsFit about1.vm theMethod args0 = true := by decide +kernel
set_option maxRecDepth 65536 in
theorem w_heap : heapFits about1 = true := by decide +kernel
set_option maxRecDepth 65536 in
theorem w_runnable : about1.curStatus? = some .runnable := by decide +kernel
set_option maxRecDepth 65536 in
theorem w_alone : about1.alone = true := by decide +kernel
set_option maxRecDepth 65536 in
theorem w_named : about1.methodNamed? x = some theMethod := by decide +kernel
set_option maxRecDepth 65536 in
theorem w_hears : about1.hears theMethod below0 = true := by decide +kernel
set_option maxRecDepth 65536 in
theorem w_ripe : about1.ripe theMethod args0 below0 = true := by decide +kernel
theorem w_running : about1.status = .running := rfl
set_option maxRecDepth 65536 in
theorem w_room : about1.hasRoom e0.platform room_1 = true :=
  launch0.hasRoom_least _ room_1 (by decide +kernel) (by decide +kernel) (by decide +kernel) (by decide +kernel) (by decide +kernel) (by decide +kernel)
theorem allAtoms_all (ts : List Jvm.Cond) (a : Array Jvm.Value) (st : Jvm.State) : (allAtoms ts).before a st = ts.all (fun c => c.before a st) := by
  induction ts with
  | nil => rfl
  | cons c t ih =>
    show (Jvm.Cond.and c (allAtoms t)).before a st = _
    rw [Jvm.Cond.before_and, ih, List.all_cons]
def words1 : List Jvm.Cond := Jvm.Cond.code x code maxLocals ret :: tables_1
/-- a 'code' word, met by the world's own term for the bytes: nothing is compared byte by byte -/
theorem code_word {y : MethodName} {bytes : ByteArray} {mx : Nat} {rt : Option FieldType} {a : Array Value} {s : State} {m : MethodId} {meth : Method} {c : Code} (h1 : s.methodNamed? y = some m) (h2 : s.vm.method? m = some meth) (h3 : meth.code = some c) (h4 : c.code = bytes)
    (h5 : (c.maxLocals == mx && c.exceptionTable.isEmpty && decide (c.maxStack ≤ mostOperands) && decide (meth.sig.returnType = rt) && !meth.locks && decide (parseMethodDescriptor y.desc = some meth.sig)) = true) : (Jvm.Cond.code y bytes mx rt).before a s = true := by
  simp only [Bool.and_eq_true, beq_iff_eq, Bool.not_eq_true', decide_eq_true_eq] at h5
  obtain ⟨⟨⟨⟨⟨g1, g2⟩, g3⟩, g4⟩, g5⟩, g6⟩ := h5
  simp [Cond.before, Cond.holds, Cond.value, h1, h2, h3, h4, g1, g2, g3, g4, g5, g6]
def isCode : Jvm.Cond → Bool
  | .code _ _ _ _ => true
  | _ => false
theorem all_split {L : List Jvm.Cond} {P : Jvm.Cond → Bool} (h1 : L.all (fun c => isCode c || P c) = true) (h2 : ∀ c ∈ L.filter isCode, P c = true) : L.all P = true := by
  refine List.all_eq_true.mpr fun c hc => ?_
  have h := List.all_eq_true.mp h1 c hc
  rcases Bool.eq_false_or_eq_true (isCode c) with hi | hi
  · exact h2 c (List.mem_filter.mpr ⟨hc, hi⟩)
  · simpa [hi] using h
set_option maxRecDepth 65536 in
theorem w_c0 : (Jvm.Cond.code x code maxLocals ret).before args0 about1 = true := code_word (m := ⟨1, 3⟩) (meth := k1m3) (c := k1c3) (by decide +kernel) rfl rfl rfl (by decide +kernel)
set_option maxRecDepth 65536 in
theorem w_c1 : (Jvm.Cond.code ({ cls := "WindowFuncEngine", name := "<init>", desc := "(I)V" } : Jvm.MethodName) prog_1_method_1_code (3 : Nat) (Option.none : Option Jvm.ClassFile.FieldType)).before args0 about1 = true := code_word (m := ⟨2, 0⟩) (meth := k2m0) (c := k2c0) (by decide +kernel) rfl rfl rfl (by decide +kernel)
set_option maxRecDepth 65536 in
theorem w_c2 : (Jvm.Cond.code ({ cls := "java/lang/Object", name := "<init>", desc := "()V" } : Jvm.MethodName) object_method_1_code (1 : Nat) (Option.none : Option Jvm.ClassFile.FieldType)).before args0 about1 = true := code_word (m := ⟨0, 0⟩) (meth := k0m0) (c := k0c0) (by decide +kernel) rfl rfl rfl (by decide +kernel)
set_option maxRecDepth 65536 in
theorem w_c3 : (Jvm.Cond.code ({ cls := "WindowFuncEngine", name := "resetSpec", desc := "()V" } : Jvm.MethodName) prog_1_method_2_code (1 : Nat) (Option.none : Option Jvm.ClassFile.FieldType)).before args0 about1 = true := code_word (m := ⟨2, 1⟩) (meth := k2m1) (c := k2c1) (by decide +kernel) rfl rfl rfl (by decide +kernel)
set_option maxRecDepth 65536 in
theorem w_c4 : (Jvm.Cond.code ({ cls := "WindowFuncEngineL5", name := "apply", desc := "(LWindowFuncEngine;IIIII)Z" } : Jvm.MethodName) method_2_code (6 : Nat) (Option.some Jvm.ClassFile.FieldType.boolean)).before args0 about1 = true := code_word (m := ⟨1, 1⟩) (meth := k1m1) (c := k1c1) (by decide +kernel) rfl rfl rfl (by decide +kernel)
set_option maxRecDepth 65536 in
theorem w_c5 : (Jvm.Cond.code ({ cls := "WindowFuncEngine", name := "setFrameMode", desc := "(I)Z" } : Jvm.MethodName) prog_1_method_7_code (2 : Nat) (Option.some Jvm.ClassFile.FieldType.boolean)).before args0 about1 = true := code_word (m := ⟨2, 6⟩) (meth := k2m6) (c := k2c6) (by decide +kernel) rfl rfl rfl (by decide +kernel)
set_option maxRecDepth 65536 in
theorem w_c6 : (Jvm.Cond.code ({ cls := "WindowFuncEngine", name := "addRow", desc := "(IIII)I" } : Jvm.MethodName) prog_1_method_3_code (6 : Nat) (Option.some Jvm.ClassFile.FieldType.int)).before args0 about1 = true := code_word (m := ⟨2, 2⟩) (meth := k2m2) (c := k2c2) (by decide +kernel) rfl rfl rfl (by decide +kernel)
set_option maxRecDepth 65536 in
theorem w_c7 : (Jvm.Cond.code ({ cls := "WindowFuncEngine", name := "setOrder", desc := "(II)Z" } : Jvm.MethodName) prog_1_method_6_code (3 : Nat) (Option.some Jvm.ClassFile.FieldType.boolean)).before args0 about1 = true := code_word (m := ⟨2, 5⟩) (meth := k2m5) (c := k2c5) (by decide +kernel) rfl rfl rfl (by decide +kernel)
set_option maxRecDepth 65536 in
theorem w_c8 : (Jvm.Cond.code ({ cls := "WindowFuncEngine", name := "clear", desc := "()V" } : Jvm.MethodName) prog_1_method_4_code (1 : Nat) (Option.none : Option Jvm.ClassFile.FieldType)).before args0 about1 = true := code_word (m := ⟨2, 3⟩) (meth := k2m3) (c := k2c3) (by decide +kernel) rfl rfl rfl (by decide +kernel)
set_option maxRecDepth 65536 in
theorem w_c9 : (Jvm.Cond.code ({ cls := "WindowFuncEngineL5", name := "same", desc := "(LWindowFuncEngine;LWindowFuncEngine;)Z" } : Jvm.MethodName) method_3_code (4 : Nat) (Option.some Jvm.ClassFile.FieldType.boolean)).before args0 about1 = true := code_word (m := ⟨1, 2⟩) (meth := k1m2) (c := k1c2) (by decide +kernel) rfl rfl rfl (by decide +kernel)
set_option maxRecDepth 65536 in
theorem w_c10 : (Jvm.Cond.code ({ cls := "WindowFuncEngine", name := "rowCount", desc := "()I" } : Jvm.MethodName) prog_1_method_5_code (1 : Nat) (Option.some Jvm.ClassFile.FieldType.int)).before args0 about1 = true := code_word (m := ⟨2, 4⟩) (meth := k2m4) (c := k2c4) (by decide +kernel) rfl rfl rfl (by decide +kernel)
set_option maxRecDepth 65536 in
theorem w_c11 : (Jvm.Cond.code ({ cls := "WindowFuncEngine", name := "isComputed", desc := "()Z" } : Jvm.MethodName) prog_1_method_13_code (1 : Nat) (Option.some Jvm.ClassFile.FieldType.boolean)).before args0 about1 = true := code_word (m := ⟨2, 12⟩) (meth := k2m12) (c := k2c12) (by decide +kernel) rfl rfl rfl (by decide +kernel)
set_option maxRecDepth 65536 in
theorem w_c12 : (Jvm.Cond.code ({ cls := "WindowFuncEngine", name := "getSpec", desc := "(I)I" } : Jvm.MethodName) prog_1_method_18_code (2 : Nat) (Option.some Jvm.ClassFile.FieldType.int)).before args0 about1 = true := code_word (m := ⟨2, 17⟩) (meth := k2m17) (c := k2c17) (by decide +kernel) rfl rfl rfl (by decide +kernel)
set_option maxRecDepth 65536 in
theorem w_c13 : (Jvm.Cond.code ({ cls := "WindowFuncEngine", name := "getRowField", desc := "(II)I" } : Jvm.MethodName) prog_1_method_17_code (3 : Nat) (Option.some Jvm.ClassFile.FieldType.int)).before args0 about1 = true := code_word (m := ⟨2, 16⟩) (meth := k2m16) (c := k2c16) (by decide +kernel) rfl rfl rfl (by decide +kernel)
set_option maxRecDepth 65536 in
theorem w_c14 : (Jvm.Cond.code ({ cls := "WindowFuncEngine", name := "getResult", desc := "(I)J" } : Jvm.MethodName) prog_1_method_14_code (2 : Nat) (Option.some Jvm.ClassFile.FieldType.long)).before args0 about1 = true := code_word (m := ⟨2, 13⟩) (meth := k2m13) (c := k2c13) (by decide +kernel) rfl rfl rfl (by decide +kernel)
set_option maxRecDepth 65536 in
theorem w_c15 : (Jvm.Cond.code ({ cls := "WindowFuncEngine", name := "isResultNull", desc := "(I)Z" } : Jvm.MethodName) prog_1_method_15_code (2 : Nat) (Option.some Jvm.ClassFile.FieldType.boolean)).before args0 about1 = true := code_word (m := ⟨2, 14⟩) (meth := k2m14) (c := k2c14) (by decide +kernel) rfl rfl rfl (by decide +kernel)
set_option maxRecDepth 65536 in
theorem w_c16 : (Jvm.Cond.code ({ cls := "WindowFuncEngine", name := "getFrameCount", desc := "(I)I" } : Jvm.MethodName) prog_1_method_16_code (2 : Nat) (Option.some Jvm.ClassFile.FieldType.int)).before args0 about1 = true := code_word (m := ⟨2, 15⟩) (meth := k2m15) (c := k2c15) (by decide +kernel) rfl rfl rfl (by decide +kernel)
set_option maxRecDepth 65536 in
theorem w_c17 : (Jvm.Cond.code ({ cls := "WindowFuncEngine", name := "setFunction", desc := "(II)Z" } : Jvm.MethodName) prog_1_method_10_code (4 : Nat) (Option.some Jvm.ClassFile.FieldType.boolean)).before args0 about1 = true := code_word (m := ⟨2, 9⟩) (meth := k2m9) (c := k2c9) (by decide +kernel) rfl rfl rfl (by decide +kernel)
set_option maxRecDepth 65536 in
theorem w_c18 : (Jvm.Cond.code ({ cls := "WindowFuncEngine", name := "setFrameStart", desc := "(II)Z" } : Jvm.MethodName) prog_1_method_8_code (4 : Nat) (Option.some Jvm.ClassFile.FieldType.boolean)).before args0 about1 = true := code_word (m := ⟨2, 7⟩) (meth := k2m7) (c := k2c7) (by decide +kernel) rfl rfl rfl (by decide +kernel)
set_option maxRecDepth 65536 in
theorem w_c19 : (Jvm.Cond.code ({ cls := "WindowFuncEngine", name := "compute", desc := "()I" } : Jvm.MethodName) prog_1_method_11_code (2 : Nat) (Option.some Jvm.ClassFile.FieldType.int)).before args0 about1 = true := code_word (m := ⟨2, 10⟩) (meth := k2m10) (c := k2c10) (by decide +kernel) rfl rfl rfl (by decide +kernel)
set_option maxRecDepth 65536 in
theorem w_c20 : (Jvm.Cond.code ({ cls := "WindowFuncEngine", name := "needsOrder", desc := "()Z" } : Jvm.MethodName) prog_1_method_12_code (3 : Nat) (Option.some Jvm.ClassFile.FieldType.boolean)).before args0 about1 = true := code_word (m := ⟨2, 11⟩) (meth := k2m11) (c := k2c11) (by decide +kernel) rfl rfl rfl (by decide +kernel)
set_option maxRecDepth 65536 in
theorem w_c21 : (Jvm.Cond.code ({ cls := "WindowFuncEngine", name := "setFrameEnd", desc := "(II)Z" } : Jvm.MethodName) prog_1_method_9_code (4 : Nat) (Option.some Jvm.ClassFile.FieldType.boolean)).before args0 about1 = true := code_word (m := ⟨2, 8⟩) (meth := k2m8) (c := k2c8) (by decide +kernel) rfl rfl rfl (by decide +kernel)
set_option maxRecDepth 65536 in
theorem w_c22 : (Jvm.Cond.code ({ cls := "WindowFuncEngine", name := "computeRow", desc := "(I)V" } : Jvm.MethodName) prog_1_method_30_code (2 : Nat) (Option.none : Option Jvm.ClassFile.FieldType)).before args0 about1 = true := code_word (m := ⟨2, 29⟩) (meth := k2m29) (c := k2c29) (by decide +kernel) rfl rfl rfl (by decide +kernel)
set_option maxRecDepth 65536 in
theorem w_c23 : (Jvm.Cond.code ({ cls := "WindowFuncEngine", name := "buildPartition", desc := "(I)V" } : Jvm.MethodName) prog_1_method_23_code (6 : Nat) (Option.none : Option Jvm.ClassFile.FieldType)).before args0 about1 = true := code_word (m := ⟨2, 22⟩) (meth := k2m22) (c := k2c22) (by decide +kernel) rfl rfl rfl (by decide +kernel)
set_option maxRecDepth 65536 in
theorem w_c24 : (Jvm.Cond.code ({ cls := "WindowFuncEngine", name := "aggregateFrame", desc := "(I)V" } : Jvm.MethodName) prog_1_method_31_code (7 : Nat) (Option.none : Option Jvm.ClassFile.FieldType)).before args0 about1 = true := code_word (m := ⟨2, 30⟩) (meth := k2m30) (c := k2c30) (by decide +kernel) rfl rfl rfl (by decide +kernel)
set_option maxRecDepth 65536 in
theorem w_c25 : (Jvm.Cond.code ({ cls := "WindowFuncEngine", name := "inFrame", desc := "(IIII)Z" } : Jvm.MethodName) prog_1_method_24_code (5 : Nat) (Option.some Jvm.ClassFile.FieldType.boolean)).before args0 about1 = true := code_word (m := ⟨2, 23⟩) (meth := k2m23) (c := k2c23) (by decide +kernel) rfl rfl rfl (by decide +kernel)
set_option maxRecDepth 65536 in
theorem w_c26 : (Jvm.Cond.code ({ cls := "WindowFuncEngine", name := "rangeStartHolds", desc := "(IIII)Z" } : Jvm.MethodName) prog_1_method_28_code (10 : Nat) (Option.some Jvm.ClassFile.FieldType.boolean)).before args0 about1 = true := code_word (m := ⟨2, 27⟩) (meth := k2m27) (c := k2c27) (by decide +kernel) rfl rfl rfl (by decide +kernel)
set_option maxRecDepth 65536 in
theorem w_c27 : (Jvm.Cond.code ({ cls := "WindowFuncEngine", name := "rangeEndHolds", desc := "(IIII)Z" } : Jvm.MethodName) prog_1_method_29_code (10 : Nat) (Option.some Jvm.ClassFile.FieldType.boolean)).before args0 about1 = true := code_word (m := ⟨2, 28⟩) (meth := k2m28) (c := k2c28) (by decide +kernel) rfl rfl rfl (by decide +kernel)
set_option maxRecDepth 65536 in
theorem w_c28 : (Jvm.Cond.code ({ cls := "WindowFuncEngine", name := "peer", desc := "(II)Z" } : Jvm.MethodName) prog_1_method_22_code (5 : Nat) (Option.some Jvm.ClassFile.FieldType.boolean)).before args0 about1 = true := code_word (m := ⟨2, 21⟩) (meth := k2m21) (c := k2c21) (by decide +kernel) rfl rfl rfl (by decide +kernel)
set_option maxRecDepth 65536 in
theorem w_c29 : (Jvm.Cond.code ({ cls := "WindowFuncEngine", name := "keyNull", desc := "(I)Z" } : Jvm.MethodName) prog_1_method_19_code (2 : Nat) (Option.some Jvm.ClassFile.FieldType.boolean)).before args0 about1 = true := code_word (m := ⟨2, 18⟩) (meth := k2m18) (c := k2c18) (by decide +kernel) rfl rfl rfl (by decide +kernel)
set_option maxRecDepth 65536 in
theorem w_c30 : (Jvm.Cond.code ({ cls := "WindowFuncEngine", name := "valNull", desc := "(I)Z" } : Jvm.MethodName) prog_1_method_20_code (2 : Nat) (Option.some Jvm.ClassFile.FieldType.boolean)).before args0 about1 = true := code_word (m := ⟨2, 19⟩) (meth := k2m19) (c := k2c19) (by decide +kernel) rfl rfl rfl (by decide +kernel)
set_option maxRecDepth 65536 in
theorem w_c31 : (Jvm.Cond.code ({ cls := "WindowFuncEngine", name := "applyFunction", desc := "(I)V" } : Jvm.MethodName) prog_1_method_33_code (5 : Nat) (Option.none : Option Jvm.ClassFile.FieldType)).before args0 about1 = true := code_word (m := ⟨2, 32⟩) (meth := k2m32) (c := k2c32) (by decide +kernel) rfl rfl rfl (by decide +kernel)
set_option maxRecDepth 65536 in
theorem w_c32 : (Jvm.Cond.code ({ cls := "WindowFuncEngine", name := "setRes", desc := "(IJZ)V" } : Jvm.MethodName) prog_1_method_32_code (5 : Nat) (Option.none : Option Jvm.ClassFile.FieldType)).before args0 about1 = true := code_word (m := ⟨2, 31⟩) (meth := k2m31) (c := k2c31) (by decide +kernel) rfl rfl rfl (by decide +kernel)
set_option maxRecDepth 65536 in
theorem w_c33 : (Jvm.Cond.code ({ cls := "WindowFuncEngine", name := "before", desc := "(II)Z" } : Jvm.MethodName) prog_1_method_21_code (5 : Nat) (Option.some Jvm.ClassFile.FieldType.boolean)).before args0 about1 = true := code_word (m := ⟨2, 20⟩) (meth := k2m20) (c := k2c20) (by decide +kernel) rfl rfl rfl (by decide +kernel)
set_option maxRecDepth 65536 in
theorem w_c34 : (Jvm.Cond.code ({ cls := "WindowFuncEngine", name := "denseRankOf", desc := "(II)J" } : Jvm.MethodName) prog_1_method_35_code (7 : Nat) (Option.some Jvm.ClassFile.FieldType.long)).before args0 about1 = true := code_word (m := ⟨2, 34⟩) (meth := k2m34) (c := k2c34) (by decide +kernel) rfl rfl rfl (by decide +kernel)
set_option maxRecDepth 65536 in
theorem w_c35 : (Jvm.Cond.code ({ cls := "WindowFuncEngine", name := "rowsStartHolds", desc := "(II)Z" } : Jvm.MethodName) prog_1_method_25_code (9 : Nat) (Option.some Jvm.ClassFile.FieldType.boolean)).before args0 about1 = true := code_word (m := ⟨2, 24⟩) (meth := k2m24) (c := k2c24) (by decide +kernel) rfl rfl rfl (by decide +kernel)
set_option maxRecDepth 65536 in
theorem w_c36 : (Jvm.Cond.code ({ cls := "WindowFuncEngine", name := "rowsEndHolds", desc := "(II)Z" } : Jvm.MethodName) prog_1_method_26_code (9 : Nat) (Option.some Jvm.ClassFile.FieldType.boolean)).before args0 about1 = true := code_word (m := ⟨2, 25⟩) (meth := k2m25) (c := k2c25) (by decide +kernel) rfl rfl rfl (by decide +kernel)
set_option maxRecDepth 65536 in
theorem w_c37 : (Jvm.Cond.code ({ cls := "WindowFuncEngine", name := "shiftValue", desc := "(IIZ)V" } : Jvm.MethodName) prog_1_method_36_code (7 : Nat) (Option.none : Option Jvm.ClassFile.FieldType)).before args0 about1 = true := code_word (m := ⟨2, 35⟩) (meth := k2m35) (c := k2c35) (by decide +kernel) rfl rfl rfl (by decide +kernel)
set_option maxRecDepth 65536 in
theorem w_c38 : (Jvm.Cond.code ({ cls := "WindowFuncEngine", name := "distance", desc := "(II)J" } : Jvm.MethodName) prog_1_method_27_code (3 : Nat) (Option.some Jvm.ClassFile.FieldType.long)).before args0 about1 = true := code_word (m := ⟨2, 26⟩) (meth := k2m26) (c := k2c26) (by decide +kernel) rfl rfl rfl (by decide +kernel)
set_option maxRecDepth 65536 in
theorem w_c39 : (Jvm.Cond.code ({ cls := "WindowFuncEngine", name := "rankOf", desc := "(II)J" } : Jvm.MethodName) prog_1_method_34_code (6 : Nat) (Option.some Jvm.ClassFile.FieldType.long)).before args0 about1 = true := code_word (m := ⟨2, 33⟩) (meth := k2m33) (c := k2c33) (by decide +kernel) rfl rfl rfl (by decide +kernel)
def codes1 : List Jvm.Cond := [Jvm.Cond.code x code maxLocals ret, Jvm.Cond.code ({ cls := "WindowFuncEngine", name := "<init>", desc := "(I)V" } : Jvm.MethodName) prog_1_method_1_code (3 : Nat) (Option.none : Option Jvm.ClassFile.FieldType), Jvm.Cond.code ({ cls := "java/lang/Object", name := "<init>", desc := "()V" } : Jvm.MethodName) object_method_1_code (1 : Nat) (Option.none : Option Jvm.ClassFile.FieldType), Jvm.Cond.code ({ cls := "WindowFuncEngine", name := "resetSpec", desc := "()V" } : Jvm.MethodName) prog_1_method_2_code (1 : Nat) (Option.none : Option Jvm.ClassFile.FieldType), Jvm.Cond.code ({ cls := "WindowFuncEngineL5", name := "apply", desc := "(LWindowFuncEngine;IIIII)Z" } : Jvm.MethodName) method_2_code (6 : Nat) (Option.some Jvm.ClassFile.FieldType.boolean), Jvm.Cond.code ({ cls := "WindowFuncEngine", name := "setFrameMode", desc := "(I)Z" } : Jvm.MethodName) prog_1_method_7_code (2 : Nat) (Option.some Jvm.ClassFile.FieldType.boolean), Jvm.Cond.code ({ cls := "WindowFuncEngine", name := "addRow", desc := "(IIII)I" } : Jvm.MethodName) prog_1_method_3_code (6 : Nat) (Option.some Jvm.ClassFile.FieldType.int), Jvm.Cond.code ({ cls := "WindowFuncEngine", name := "setOrder", desc := "(II)Z" } : Jvm.MethodName) prog_1_method_6_code (3 : Nat) (Option.some Jvm.ClassFile.FieldType.boolean), Jvm.Cond.code ({ cls := "WindowFuncEngine", name := "clear", desc := "()V" } : Jvm.MethodName) prog_1_method_4_code (1 : Nat) (Option.none : Option Jvm.ClassFile.FieldType), Jvm.Cond.code ({ cls := "WindowFuncEngineL5", name := "same", desc := "(LWindowFuncEngine;LWindowFuncEngine;)Z" } : Jvm.MethodName) method_3_code (4 : Nat) (Option.some Jvm.ClassFile.FieldType.boolean), Jvm.Cond.code ({ cls := "WindowFuncEngine", name := "rowCount", desc := "()I" } : Jvm.MethodName) prog_1_method_5_code (1 : Nat) (Option.some Jvm.ClassFile.FieldType.int), Jvm.Cond.code ({ cls := "WindowFuncEngine", name := "isComputed", desc := "()Z" } : Jvm.MethodName) prog_1_method_13_code (1 : Nat) (Option.some Jvm.ClassFile.FieldType.boolean), Jvm.Cond.code ({ cls := "WindowFuncEngine", name := "getSpec", desc := "(I)I" } : Jvm.MethodName) prog_1_method_18_code (2 : Nat) (Option.some Jvm.ClassFile.FieldType.int), Jvm.Cond.code ({ cls := "WindowFuncEngine", name := "getRowField", desc := "(II)I" } : Jvm.MethodName) prog_1_method_17_code (3 : Nat) (Option.some Jvm.ClassFile.FieldType.int), Jvm.Cond.code ({ cls := "WindowFuncEngine", name := "getResult", desc := "(I)J" } : Jvm.MethodName) prog_1_method_14_code (2 : Nat) (Option.some Jvm.ClassFile.FieldType.long), Jvm.Cond.code ({ cls := "WindowFuncEngine", name := "isResultNull", desc := "(I)Z" } : Jvm.MethodName) prog_1_method_15_code (2 : Nat) (Option.some Jvm.ClassFile.FieldType.boolean), Jvm.Cond.code ({ cls := "WindowFuncEngine", name := "getFrameCount", desc := "(I)I" } : Jvm.MethodName) prog_1_method_16_code (2 : Nat) (Option.some Jvm.ClassFile.FieldType.int), Jvm.Cond.code ({ cls := "WindowFuncEngine", name := "setFunction", desc := "(II)Z" } : Jvm.MethodName) prog_1_method_10_code (4 : Nat) (Option.some Jvm.ClassFile.FieldType.boolean), Jvm.Cond.code ({ cls := "WindowFuncEngine", name := "setFrameStart", desc := "(II)Z" } : Jvm.MethodName) prog_1_method_8_code (4 : Nat) (Option.some Jvm.ClassFile.FieldType.boolean), Jvm.Cond.code ({ cls := "WindowFuncEngine", name := "compute", desc := "()I" } : Jvm.MethodName) prog_1_method_11_code (2 : Nat) (Option.some Jvm.ClassFile.FieldType.int), Jvm.Cond.code ({ cls := "WindowFuncEngine", name := "needsOrder", desc := "()Z" } : Jvm.MethodName) prog_1_method_12_code (3 : Nat) (Option.some Jvm.ClassFile.FieldType.boolean), Jvm.Cond.code ({ cls := "WindowFuncEngine", name := "setFrameEnd", desc := "(II)Z" } : Jvm.MethodName) prog_1_method_9_code (4 : Nat) (Option.some Jvm.ClassFile.FieldType.boolean), Jvm.Cond.code ({ cls := "WindowFuncEngine", name := "computeRow", desc := "(I)V" } : Jvm.MethodName) prog_1_method_30_code (2 : Nat) (Option.none : Option Jvm.ClassFile.FieldType), Jvm.Cond.code ({ cls := "WindowFuncEngine", name := "buildPartition", desc := "(I)V" } : Jvm.MethodName) prog_1_method_23_code (6 : Nat) (Option.none : Option Jvm.ClassFile.FieldType), Jvm.Cond.code ({ cls := "WindowFuncEngine", name := "aggregateFrame", desc := "(I)V" } : Jvm.MethodName) prog_1_method_31_code (7 : Nat) (Option.none : Option Jvm.ClassFile.FieldType), Jvm.Cond.code ({ cls := "WindowFuncEngine", name := "inFrame", desc := "(IIII)Z" } : Jvm.MethodName) prog_1_method_24_code (5 : Nat) (Option.some Jvm.ClassFile.FieldType.boolean), Jvm.Cond.code ({ cls := "WindowFuncEngine", name := "rangeStartHolds", desc := "(IIII)Z" } : Jvm.MethodName) prog_1_method_28_code (10 : Nat) (Option.some Jvm.ClassFile.FieldType.boolean), Jvm.Cond.code ({ cls := "WindowFuncEngine", name := "rangeEndHolds", desc := "(IIII)Z" } : Jvm.MethodName) prog_1_method_29_code (10 : Nat) (Option.some Jvm.ClassFile.FieldType.boolean), Jvm.Cond.code ({ cls := "WindowFuncEngine", name := "peer", desc := "(II)Z" } : Jvm.MethodName) prog_1_method_22_code (5 : Nat) (Option.some Jvm.ClassFile.FieldType.boolean), Jvm.Cond.code ({ cls := "WindowFuncEngine", name := "keyNull", desc := "(I)Z" } : Jvm.MethodName) prog_1_method_19_code (2 : Nat) (Option.some Jvm.ClassFile.FieldType.boolean), Jvm.Cond.code ({ cls := "WindowFuncEngine", name := "valNull", desc := "(I)Z" } : Jvm.MethodName) prog_1_method_20_code (2 : Nat) (Option.some Jvm.ClassFile.FieldType.boolean), Jvm.Cond.code ({ cls := "WindowFuncEngine", name := "applyFunction", desc := "(I)V" } : Jvm.MethodName) prog_1_method_33_code (5 : Nat) (Option.none : Option Jvm.ClassFile.FieldType), Jvm.Cond.code ({ cls := "WindowFuncEngine", name := "setRes", desc := "(IJZ)V" } : Jvm.MethodName) prog_1_method_32_code (5 : Nat) (Option.none : Option Jvm.ClassFile.FieldType), Jvm.Cond.code ({ cls := "WindowFuncEngine", name := "before", desc := "(II)Z" } : Jvm.MethodName) prog_1_method_21_code (5 : Nat) (Option.some Jvm.ClassFile.FieldType.boolean), Jvm.Cond.code ({ cls := "WindowFuncEngine", name := "denseRankOf", desc := "(II)J" } : Jvm.MethodName) prog_1_method_35_code (7 : Nat) (Option.some Jvm.ClassFile.FieldType.long), Jvm.Cond.code ({ cls := "WindowFuncEngine", name := "rowsStartHolds", desc := "(II)Z" } : Jvm.MethodName) prog_1_method_25_code (9 : Nat) (Option.some Jvm.ClassFile.FieldType.boolean), Jvm.Cond.code ({ cls := "WindowFuncEngine", name := "rowsEndHolds", desc := "(II)Z" } : Jvm.MethodName) prog_1_method_26_code (9 : Nat) (Option.some Jvm.ClassFile.FieldType.boolean), Jvm.Cond.code ({ cls := "WindowFuncEngine", name := "shiftValue", desc := "(IIZ)V" } : Jvm.MethodName) prog_1_method_36_code (7 : Nat) (Option.none : Option Jvm.ClassFile.FieldType), Jvm.Cond.code ({ cls := "WindowFuncEngine", name := "distance", desc := "(II)J" } : Jvm.MethodName) prog_1_method_27_code (3 : Nat) (Option.some Jvm.ClassFile.FieldType.long), Jvm.Cond.code ({ cls := "WindowFuncEngine", name := "rankOf", desc := "(II)J" } : Jvm.MethodName) prog_1_method_34_code (6 : Nat) (Option.some Jvm.ClassFile.FieldType.long)]
set_option maxRecDepth 65536 in
theorem codes_eq : words1.filter isCode = codes1 := rfl
theorem w_codes : ∀ c ∈ words1.filter isCode, c.before args0 about1 = true := by
  rw [codes_eq]
  intro c hc
  simp only [codes1, List.mem_cons, List.not_mem_nil, or_false] at hc
  rcases hc with rfl | rfl | rfl | rfl | rfl | rfl | rfl | rfl | rfl | rfl | rfl | rfl | rfl | rfl | rfl | rfl | rfl | rfl | rfl | rfl | rfl | rfl | rfl | rfl | rfl | rfl | rfl | rfl | rfl | rfl | rfl | rfl | rfl | rfl | rfl | rfl | rfl | rfl | rfl | rfl
  · exact w_c0
  · exact w_c1
  · exact w_c2
  · exact w_c3
  · exact w_c4
  · exact w_c5
  · exact w_c6
  · exact w_c7
  · exact w_c8
  · exact w_c9
  · exact w_c10
  · exact w_c11
  · exact w_c12
  · exact w_c13
  · exact w_c14
  · exact w_c15
  · exact w_c16
  · exact w_c17
  · exact w_c18
  · exact w_c19
  · exact w_c20
  · exact w_c21
  · exact w_c22
  · exact w_c23
  · exact w_c24
  · exact w_c25
  · exact w_c26
  · exact w_c27
  · exact w_c28
  · exact w_c29
  · exact w_c30
  · exact w_c31
  · exact w_c32
  · exact w_c33
  · exact w_c34
  · exact w_c35
  · exact w_c36
  · exact w_c37
  · exact w_c38
  · exact w_c39
set_option maxRecDepth 65536 in
theorem w_t1 : (words1.take 24).all (fun c => isCode c || c.before args0 about1) = true := by decide +kernel
set_option maxRecDepth 65536 in
theorem w_t2 : ((words1.drop 24).take 24).all (fun c => isCode c || c.before args0 about1) = true := by decide +kernel
set_option maxRecDepth 65536 in
theorem w_t3 : (((words1.drop 24).drop 24).take 24).all (fun c => isCode c || c.before args0 about1) = true := by decide +kernel
set_option maxRecDepth 65536 in
theorem w_t4 : ((((words1.drop 24).drop 24).drop 24).take 24).all (fun c => isCode c || c.before args0 about1) = true := by decide +kernel
set_option maxRecDepth 65536 in
theorem w_t5 : (((((words1.drop 24).drop 24).drop 24).drop 24).take 24).all (fun c => isCode c || c.before args0 about1) = true := by decide +kernel
set_option maxRecDepth 65536 in
theorem w_t6 : ((((((words1.drop 24).drop 24).drop 24).drop 24).drop 24).take 24).all (fun c => isCode c || c.before args0 about1) = true := by decide +kernel
set_option maxRecDepth 65536 in
theorem w_t7 : (((((((words1.drop 24).drop 24).drop 24).drop 24).drop 24).drop 24).take 24).all (fun c => isCode c || c.before args0 about1) = true := by decide +kernel
set_option maxRecDepth 65536 in
theorem w_t8 : ((((((((words1.drop 24).drop 24).drop 24).drop 24).drop 24).drop 24).drop 24).take 24).all (fun c => isCode c || c.before args0 about1) = true := by decide +kernel
set_option maxRecDepth 65536 in
theorem w_t9 : (((((((((words1.drop 24).drop 24).drop 24).drop 24).drop 24).drop 24).drop 24).drop 24).take 24).all (fun c => isCode c || c.before args0 about1) = true := by decide +kernel
set_option maxRecDepth 65536 in
theorem w_t10 : (((((((((words1.drop 24).drop 24).drop 24).drop 24).drop 24).drop 24).drop 24).drop 24).drop 24).all (fun c => isCode c || c.before args0 about1) = true := by decide +kernel
theorem w_tables : (allAtoms (Jvm.Cond.code x code maxLocals ret :: tables_1)).before args0 about1 = true := by
  rw [allAtoms_all]
  show words1.all (fun c => c.before args0 about1) = true
  refine all_split ?_ w_codes
  rw [← List.take_append_drop 24 words1, List.all_append, w_t1, ← List.take_append_drop 24 (words1.drop 24), List.all_append, w_t2, ← List.take_append_drop 24 ((words1.drop 24).drop 24), List.all_append, w_t3, ← List.take_append_drop 24 (((words1.drop 24).drop 24).drop 24), List.all_append, w_t4, ← List.take_append_drop 24 ((((words1.drop 24).drop 24).drop 24).drop 24), List.all_append, w_t5, ← List.take_append_drop 24 (((((words1.drop 24).drop 24).drop 24).drop 24).drop 24), List.all_append, w_t6, ← List.take_append_drop 24 ((((((words1.drop 24).drop 24).drop 24).drop 24).drop 24).drop 24), List.all_append, w_t7, ← List.take_append_drop 24 (((((((words1.drop 24).drop 24).drop 24).drop 24).drop 24).drop 24).drop 24), List.all_append, w_t8, ← List.take_append_drop 24 ((((((((words1.drop 24).drop 24).drop 24).drop 24).drop 24).drop 24).drop 24).drop 24), List.all_append, w_t9, w_t10]
  rfl
set_option maxRecDepth 65536 in
theorem w_rest : rest_1_c.before args0 about1 = true := by decide +kernel
set_option maxRecDepth 65536 in
theorem w_case : (Jvm.Cond.and given_1 narrow_1).before args0 about1 = true := by decide +kernel
theorem w_applies : (headSpec (Jvm.Cond.code x code maxLocals ret :: tables_1) room_1).applies x e0.platform about1 = true :=
  (Spec.applies_iff w_frames).mpr ⟨w_running, w_runnable, w_alone, w_named, w_hears, w_ripe, w_room, w_tables⟩
theorem atStart : AtStart classFile x code maxLocals ret World_1 tables_1 room_1 Calls_1 rest_1 Pre_1 launch0 p0 e0 about1 theMethod args0 below0 :=
  ⟨lists_1, trivial, launch0.admits_env _ _ _, launch0.least_env, fairChoices_fair.cas, fairChoices_fair.clock, w_frames, w_args, w_heap, w_applies, trivial, w_rest, w_case⟩
end start1
theorem witness_1 : WitnessClaimed_1 := ⟨start1.p0, start1.e0, start1.about1, start1.theMethod, start1.args0, start1.below0, start1.atStart⟩
end Jvm.Pilot.@@N@@
