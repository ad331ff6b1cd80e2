import JvmDerived
import JvmDerived.Pilot.@@N@@Statement
import JvmDerived.Pilot.@@N@@Code
set_option linter.unusedVariables false
set_option linter.unusedSimpArgs false
namespace Jvm.RoadKit
open Sem ClassFile Op Lib Jvm.Stand Jvm.Free Jvm.LawKit
section New
variable {p : Program} {l : Launch} {e : Env} {R : Room} {s : State} {m : MethodId} {args : Array Value} {below : List Frame} {meth : Method} {c : Code} {T : State} {locs : List Loc} {cells slots : Nat}
theorem retI (X : Stand p l e R s m args below meth c T locs cells slots) (hx : p.tables.exec = Jvm.exec) {pc : Nat} {Ls : Array Slot} {z : Int32} {rest : List Value} (hret : meth.sig.returnType = some .int) (hd : decode c.code pc = .ok (.ireturn, 1)) {fs : List Frame}
    (hl : ∀ (f : JFrame) (acts : List Action), f.method = m → f.locked = none → f.entered = [] → (doReturn e (T.setTop f) acts (some (.int z))).1 = T.setFrames fs) : Steps p.tables e below (T.setTop (mkF m pc Ls (.int z :: rest))) (T.setFrames fs) := by
  have hm' : T.vm.method? m = some meth := X.method'
  have hn : narrow .int (.int z) = .int z := rfl
  show Steps p.tables e below (T.setTop { method := m, pc := pc, locals := Ls, stack := _ :: rest, locked := none }) _
  jvm_step X.here [X.here.top, hx, hd, hm', hret, hn]
  first | (intro acts; rw [hl _ acts rfl rfl rfl]) | rw [hl _ _ rfl rfl rfl]
  exact Steps.refl _
end New
end Jvm.RoadKit
namespace Jvm.Pilot.@@N@@
open Jvm Jvm.ClassFile Sem Op Lib Jvm.Free Jvm.Stand Jvm.LawKit Jvm.RoadKit Bundle Jvm.Pilot.@@N@@.Jvm.D
/-! TABLES of this claim: printed by claim.py -/
def k0 : Nat := 1
def cName : String := "WindowFuncEngine"
def cN : Nat := 27
def nF : Nat := 27
def kName (k : Nat) : String := bif Nat.beq k 0 then "WindowFuncEngineL7" else "WindowFuncEngine"
def fNm (k : Nat) : String := (bif Nat.ble 13 k then (bif Nat.ble 20 k then (bif Nat.ble 23 k then (bif Nat.ble 25 k then (bif Nat.ble 26 k then "aggMax" else "aggMin") else (bif Nat.ble 24 k then "aggRows" else "aggCount")) else (bif Nat.ble 21 k then (bif Nat.ble 22 k then "aggSum" else "curPos") else "sortedLen")) else (bif Nat.ble 16 k then (bif Nat.ble 18 k then (bif Nat.ble 19 k then "computed" else "fnArg") else (bif Nat.ble 17 k then "fn" else "endOff")) else (bif Nat.ble 14 k then (bif Nat.ble 15 k then "endKind" else "startOff") else "startKind"))) else (bif Nat.ble 6 k then (bif Nat.ble 9 k then (bif Nat.ble 11 k then (bif Nat.ble 12 k then "mode" else "nulls") else (bif Nat.ble 10 k then "direction" else "rows")) else (bif Nat.ble 7 k then (bif Nat.ble 8 k then "cap" else "sorted") else "frameCnt")) else (bif Nat.ble 3 k then (bif Nat.ble 4 k then (bif Nat.ble 5 k then "resNull" else "res") else "flg") else (bif Nat.ble 1 k then (bif Nat.ble 2 k then "vals" else "keys") else "part"))))
def fDs (k : Nat) : String := (bif Nat.ble 13 k then (bif Nat.ble 20 k then (bif Nat.ble 23 k then (bif Nat.ble 25 k then (bif Nat.ble 26 k then "I" else "I") else (bif Nat.ble 24 k then "I" else "I")) else (bif Nat.ble 21 k then (bif Nat.ble 22 k then "J" else "I") else "I")) else (bif Nat.ble 16 k then (bif Nat.ble 18 k then (bif Nat.ble 19 k then "Z" else "I") else (bif Nat.ble 17 k then "I" else "I")) else (bif Nat.ble 14 k then (bif Nat.ble 15 k then "I" else "I") else "I"))) else (bif Nat.ble 6 k then (bif Nat.ble 9 k then (bif Nat.ble 11 k then (bif Nat.ble 12 k then "I" else "I") else (bif Nat.ble 10 k then "I" else "I")) else (bif Nat.ble 7 k then (bif Nat.ble 8 k then "I" else "[I") else "[I")) else (bif Nat.ble 3 k then (bif Nat.ble 4 k then (bif Nat.ble 5 k then "[Z" else "[J") else "[I") else (bif Nat.ble 1 k then (bif Nat.ble 2 k then "[I" else "[I") else "[I"))))
def fTy (k : Nat) : FieldType := (bif Nat.ble 13 k then (bif Nat.ble 20 k then (bif Nat.ble 23 k then (bif Nat.ble 25 k then (bif Nat.ble 26 k then .int else .int) else (bif Nat.ble 24 k then .int else .int)) else (bif Nat.ble 21 k then (bif Nat.ble 22 k then .long else .int) else .int)) else (bif Nat.ble 16 k then (bif Nat.ble 18 k then (bif Nat.ble 19 k then .boolean else .int) else (bif Nat.ble 17 k then .int else .int)) else (bif Nat.ble 14 k then (bif Nat.ble 15 k then .int else .int) else .int))) else (bif Nat.ble 6 k then (bif Nat.ble 9 k then (bif Nat.ble 11 k then (bif Nat.ble 12 k then .int else .int) else (bif Nat.ble 10 k then .int else .int)) else (bif Nat.ble 7 k then (bif Nat.ble 8 k then .int else (.array .int)) else (.array .int))) else (bif Nat.ble 3 k then (bif Nat.ble 4 k then (bif Nat.ble 5 k then (.array .boolean) else (.array .long)) else (.array .int)) else (bif Nat.ble 1 k then (bif Nat.ble 2 k then (.array .int) else (.array .int)) else (.array .int)))))
def fFin (k : Nat) : Bool := (bif Nat.ble 13 k then (bif Nat.ble 20 k then (bif Nat.ble 23 k then (bif Nat.ble 25 k then (bif Nat.ble 26 k then false else false) else (bif Nat.ble 24 k then false else false)) else (bif Nat.ble 21 k then (bif Nat.ble 22 k then false else false) else false)) else (bif Nat.ble 16 k then (bif Nat.ble 18 k then (bif Nat.ble 19 k then false else false) else (bif Nat.ble 17 k then false else false)) else (bif Nat.ble 14 k then (bif Nat.ble 15 k then false else false) else false))) else (bif Nat.ble 6 k then (bif Nat.ble 9 k then (bif Nat.ble 11 k then (bif Nat.ble 12 k then false else false) else (bif Nat.ble 10 k then false else false)) else (bif Nat.ble 7 k then (bif Nat.ble 8 k then false else false) else false)) else (bif Nat.ble 3 k then (bif Nat.ble 4 k then (bif Nat.ble 5 k then false else false) else false) else (bif Nat.ble 1 k then (bif Nat.ble 2 k then false else false) else false))))
def cDef : List Value := [.null, .null, .null, .null, .null, .null, .null, .null, .int 0, .int 0, .int 0, .int 0, .int 0, .int 0, .int 0, .int 0, .int 0, .int 0, .int 0, .int 0, .int 0, .int 0, .long 0, .int 0, .int 0, .int 0, .int 0]
def cK : List Value := []
def pN : Nat := 36
def pTop (m : Nat) : Nat := (bif Nat.ble 18 m then (bif Nat.ble 27 m then (bif Nat.ble 31 m then (bif Nat.ble 33 m then (bif Nat.ble 34 m then (bif Nat.ble 35 m then 47 else 77) else 97) else (bif Nat.ble 32 m then 85 else 85)) else (bif Nat.ble 29 m then (bif Nat.ble 30 m then 11 else 37) else (bif Nat.ble 28 m then 23 else 50))) else (bif Nat.ble 22 m then (bif Nat.ble 24 m then (bif Nat.ble 25 m then (bif Nat.ble 26 m then 65 else 39) else 28) else (bif Nat.ble 23 m then 25 else 240)) else (bif Nat.ble 20 m then (bif Nat.ble 21 m then 17 else 131) else (bif Nat.ble 19 m then 132 else 63)))) else (bif Nat.ble 9 m then (bif Nat.ble 13 m then (bif Nat.ble 15 m then (bif Nat.ble 16 m then (bif Nat.ble 17 m then 173 else 17) else 163) else (bif Nat.ble 14 m then 144 else 26)) else (bif Nat.ble 11 m then (bif Nat.ble 12 m then 75 else 37) else (bif Nat.ble 10 m then 63 else 62))) else (bif Nat.ble 4 m then (bif Nat.ble 6 m then (bif Nat.ble 7 m then (bif Nat.ble 8 m then 44 else 63) else 5) else (bif Nat.ble 5 m then 105 else 65)) else (bif Nat.ble 2 m then (bif Nat.ble 3 m then 103 else 46) else (bif Nat.ble 1 m then 108 else 625)))))
def pK (m : Nat) : Nat := (bif Nat.ble 18 m then (bif Nat.ble 27 m then (bif Nat.ble 31 m then (bif Nat.ble 33 m then (bif Nat.ble 34 m then (bif Nat.ble 35 m then 1 else 1) else 1) else (bif Nat.ble 32 m then 1 else 1)) else (bif Nat.ble 29 m then (bif Nat.ble 30 m then 1 else 1) else (bif Nat.ble 28 m then 1 else 1))) else (bif Nat.ble 22 m then (bif Nat.ble 24 m then (bif Nat.ble 25 m then (bif Nat.ble 26 m then 1 else 1) else 1) else (bif Nat.ble 23 m then 1 else 1)) else (bif Nat.ble 20 m then (bif Nat.ble 21 m then 1 else 1) else (bif Nat.ble 19 m then 1 else 1)))) else (bif Nat.ble 9 m then (bif Nat.ble 13 m then (bif Nat.ble 15 m then (bif Nat.ble 16 m then (bif Nat.ble 17 m then 1 else 1) else 1) else (bif Nat.ble 14 m then 1 else 1)) else (bif Nat.ble 11 m then (bif Nat.ble 12 m then 1 else 1) else (bif Nat.ble 10 m then 1 else 1))) else (bif Nat.ble 4 m then (bif Nat.ble 6 m then (bif Nat.ble 7 m then (bif Nat.ble 8 m then 0 else 1) else 1) else (bif Nat.ble 5 m then 1 else 1)) else (bif Nat.ble 2 m then (bif Nat.ble 3 m then 1 else 1) else (bif Nat.ble 1 m then 1 else 0)))))
def pNm (m : Nat) : String := (bif Nat.ble 18 m then (bif Nat.ble 27 m then (bif Nat.ble 31 m then (bif Nat.ble 33 m then (bif Nat.ble 34 m then (bif Nat.ble 35 m then "rankOf" else "denseRankOf") else "shiftValue") else (bif Nat.ble 32 m then "rowsEndHolds" else "rowsStartHolds")) else (bif Nat.ble 29 m then (bif Nat.ble 30 m then "clear" else "setOrder") else (bif Nat.ble 28 m then "setFrameMode" else "distance"))) else (bif Nat.ble 22 m then (bif Nat.ble 24 m then (bif Nat.ble 25 m then (bif Nat.ble 26 m then "peer" else "getResult") else "getFrameCount") else (bif Nat.ble 23 m then "setRes" else "applyFunction")) else (bif Nat.ble 20 m then (bif Nat.ble 21 m then "valNull" else "rangeEndHolds") else (bif Nat.ble 19 m then "rangeStartHolds" else "inFrame")))) else (bif Nat.ble 9 m then (bif Nat.ble 13 m then (bif Nat.ble 15 m then (bif Nat.ble 16 m then (bif Nat.ble 17 m then "aggregateFrame" else "keyNull") else "before") else (bif Nat.ble 14 m then "buildPartition" else "computeRow")) else (bif Nat.ble 11 m then (bif Nat.ble 12 m then "needsOrder" else "compute") else (bif Nat.ble 10 m then "setFrameEnd" else "setFrameStart"))) else (bif Nat.ble 4 m then (bif Nat.ble 6 m then (bif Nat.ble 7 m then (bif Nat.ble 8 m then "frame" else "getRowField") else "rowCount") else (bif Nat.ble 5 m then "getSpec" else "setFunction")) else (bif Nat.ble 2 m then (bif Nat.ble 3 m then "addRow" else "resetSpec") else (bif Nat.ble 1 m then "<init>" else "law")))))
def pDs (m : Nat) : String := (bif Nat.ble 18 m then (bif Nat.ble 27 m then (bif Nat.ble 31 m then (bif Nat.ble 33 m then (bif Nat.ble 34 m then (bif Nat.ble 35 m then "(II)J" else "(II)J") else "(IIZ)V") else (bif Nat.ble 32 m then "(II)Z" else "(II)Z")) else (bif Nat.ble 29 m then (bif Nat.ble 30 m then "()V" else "(II)Z") else (bif Nat.ble 28 m then "(I)Z" else "(II)J"))) else (bif Nat.ble 22 m then (bif Nat.ble 24 m then (bif Nat.ble 25 m then (bif Nat.ble 26 m then "(II)Z" else "(I)J") else "(I)I") else (bif Nat.ble 23 m then "(IJZ)V" else "(I)V")) else (bif Nat.ble 20 m then (bif Nat.ble 21 m then "(I)Z" else "(IIII)Z") else (bif Nat.ble 19 m then "(IIII)Z" else "(IIII)Z")))) else (bif Nat.ble 9 m then (bif Nat.ble 13 m then (bif Nat.ble 15 m then (bif Nat.ble 16 m then (bif Nat.ble 17 m then "(I)V" else "(I)Z") else "(II)Z") else (bif Nat.ble 14 m then "(I)V" else "(I)V")) else (bif Nat.ble 11 m then (bif Nat.ble 12 m then "()Z" else "()I") else (bif Nat.ble 10 m then "(II)Z" else "(II)Z"))) else (bif Nat.ble 4 m then (bif Nat.ble 6 m then (bif Nat.ble 7 m then (bif Nat.ble 8 m then "(LWindowFuncEngine;IIII)Z" else "(II)I") else "()I") else (bif Nat.ble 5 m then "(I)I" else "(II)Z")) else (bif Nat.ble 2 m then (bif Nat.ble 3 m then "(IIII)I" else "()V") else (bif Nat.ble 1 m then "(I)V" else "([I)Z")))))
def pName (m : Nat) : MethodName := ⟨kName (pK m), pNm m, pDs m⟩
def pBytes (m : Nat) : ByteArray := (bif Nat.ble 18 m then (bif Nat.ble 27 m then (bif Nat.ble 31 m then (bif Nat.ble 33 m then (bif Nat.ble 34 m then (bif Nat.ble 35 m then prog_1_method_34_code else prog_1_method_35_code) else prog_1_method_36_code) else (bif Nat.ble 32 m then prog_1_method_26_code else prog_1_method_25_code)) else (bif Nat.ble 29 m then (bif Nat.ble 30 m then prog_1_method_4_code else prog_1_method_6_code) else (bif Nat.ble 28 m then prog_1_method_7_code else prog_1_method_27_code))) else (bif Nat.ble 22 m then (bif Nat.ble 24 m then (bif Nat.ble 25 m then (bif Nat.ble 26 m then prog_1_method_22_code else prog_1_method_14_code) else prog_1_method_16_code) else (bif Nat.ble 23 m then prog_1_method_32_code else prog_1_method_33_code)) else (bif Nat.ble 20 m then (bif Nat.ble 21 m then prog_1_method_20_code else prog_1_method_29_code) else (bif Nat.ble 19 m then prog_1_method_28_code else prog_1_method_24_code)))) else (bif Nat.ble 9 m then (bif Nat.ble 13 m then (bif Nat.ble 15 m then (bif Nat.ble 16 m then (bif Nat.ble 17 m then prog_1_method_31_code else prog_1_method_19_code) else prog_1_method_21_code) else (bif Nat.ble 14 m then prog_1_method_23_code else prog_1_method_30_code)) else (bif Nat.ble 11 m then (bif Nat.ble 12 m then prog_1_method_12_code else prog_1_method_11_code) else (bif Nat.ble 10 m then prog_1_method_9_code else prog_1_method_8_code))) else (bif Nat.ble 4 m then (bif Nat.ble 6 m then (bif Nat.ble 7 m then (bif Nat.ble 8 m then method_3_code else prog_1_method_17_code) else prog_1_method_5_code) else (bif Nat.ble 5 m then prog_1_method_18_code else prog_1_method_10_code)) else (bif Nat.ble 2 m then (bif Nat.ble 3 m then prog_1_method_3_code else prog_1_method_2_code) else (bif Nat.ble 1 m then prog_1_method_1_code else code)))))
def pMaxL (m : Nat) : Nat := (bif Nat.ble 18 m then (bif Nat.ble 27 m then (bif Nat.ble 31 m then (bif Nat.ble 33 m then (bif Nat.ble 34 m then (bif Nat.ble 35 m then 6 else 7) else 7) else (bif Nat.ble 32 m then 9 else 9)) else (bif Nat.ble 29 m then (bif Nat.ble 30 m then 1 else 3) else (bif Nat.ble 28 m then 2 else 3))) else (bif Nat.ble 22 m then (bif Nat.ble 24 m then (bif Nat.ble 25 m then (bif Nat.ble 26 m then 5 else 2) else 2) else (bif Nat.ble 23 m then 5 else 5)) else (bif Nat.ble 20 m then (bif Nat.ble 21 m then 2 else 10) else (bif Nat.ble 19 m then 10 else 5)))) else (bif Nat.ble 9 m then (bif Nat.ble 13 m then (bif Nat.ble 15 m then (bif Nat.ble 16 m then (bif Nat.ble 17 m then 7 else 2) else 5) else (bif Nat.ble 14 m then 6 else 2)) else (bif Nat.ble 11 m then (bif Nat.ble 12 m then 3 else 2) else (bif Nat.ble 10 m then 4 else 4))) else (bif Nat.ble 4 m then (bif Nat.ble 6 m then (bif Nat.ble 7 m then (bif Nat.ble 8 m then 8 else 3) else 1) else (bif Nat.ble 5 m then 2 else 4)) else (bif Nat.ble 2 m then (bif Nat.ble 3 m then 6 else 1) else (bif Nat.ble 1 m then 3 else 24)))))
def pRet (m : Nat) : Option FieldType := (bif Nat.ble 18 m then (bif Nat.ble 27 m then (bif Nat.ble 31 m then (bif Nat.ble 33 m then (bif Nat.ble 34 m then (bif Nat.ble 35 m then (some .long) else (some .long)) else none) else (bif Nat.ble 32 m then (some .boolean) else (some .boolean))) else (bif Nat.ble 29 m then (bif Nat.ble 30 m then none else (some .boolean)) else (bif Nat.ble 28 m then (some .boolean) else (some .long)))) else (bif Nat.ble 22 m then (bif Nat.ble 24 m then (bif Nat.ble 25 m then (bif Nat.ble 26 m then (some .boolean) else (some .long)) else (some .int)) else (bif Nat.ble 23 m then none else none)) else (bif Nat.ble 20 m then (bif Nat.ble 21 m then (some .boolean) else (some .boolean)) else (bif Nat.ble 19 m then (some .boolean) else (some .boolean))))) else (bif Nat.ble 9 m then (bif Nat.ble 13 m then (bif Nat.ble 15 m then (bif Nat.ble 16 m then (bif Nat.ble 17 m then none else (some .boolean)) else (some .boolean)) else (bif Nat.ble 14 m then none else none)) else (bif Nat.ble 11 m then (bif Nat.ble 12 m then (some .boolean) else (some .int)) else (bif Nat.ble 10 m then (some .boolean) else (some .boolean)))) else (bif Nat.ble 4 m then (bif Nat.ble 6 m then (bif Nat.ble 7 m then (bif Nat.ble 8 m then (some .boolean) else (some .int)) else (some .int)) else (bif Nat.ble 5 m then (some .int) else (some .boolean))) else (bif Nat.ble 2 m then (bif Nat.ble 3 m then (some .int) else none) else (bif Nat.ble 1 m then none else (some .boolean))))))
def pNA (m : Nat) : Nat := (bif Nat.ble 18 m then (bif Nat.ble 27 m then (bif Nat.ble 31 m then (bif Nat.ble 33 m then (bif Nat.ble 34 m then (bif Nat.ble 35 m then 2 else 2) else 3) else (bif Nat.ble 32 m then 2 else 2)) else (bif Nat.ble 29 m then (bif Nat.ble 30 m then 0 else 2) else (bif Nat.ble 28 m then 1 else 2))) else (bif Nat.ble 22 m then (bif Nat.ble 24 m then (bif Nat.ble 25 m then (bif Nat.ble 26 m then 2 else 1) else 1) else (bif Nat.ble 23 m then 3 else 1)) else (bif Nat.ble 20 m then (bif Nat.ble 21 m then 1 else 4) else (bif Nat.ble 19 m then 4 else 4)))) else (bif Nat.ble 9 m then (bif Nat.ble 13 m then (bif Nat.ble 15 m then (bif Nat.ble 16 m then (bif Nat.ble 17 m then 1 else 1) else 2) else (bif Nat.ble 14 m then 1 else 1)) else (bif Nat.ble 11 m then (bif Nat.ble 12 m then 0 else 0) else (bif Nat.ble 10 m then 2 else 2))) else (bif Nat.ble 4 m then (bif Nat.ble 6 m then (bif Nat.ble 7 m then (bif Nat.ble 8 m then 5 else 2) else 0) else (bif Nat.ble 5 m then 1 else 2)) else (bif Nat.ble 2 m then (bif Nat.ble 3 m then 4 else 0) else (bif Nat.ble 1 m then 1 else 1)))))
def pFr (m : Nat) : Nat := (bif Nat.ble 18 m then (bif Nat.ble 27 m then (bif Nat.ble 31 m then (bif Nat.ble 33 m then (bif Nat.ble 34 m then (bif Nat.ble 35 m then 2 else 2) else 1) else (bif Nat.ble 32 m then 0 else 0)) else (bif Nat.ble 29 m then (bif Nat.ble 30 m then 0 else 0) else (bif Nat.ble 28 m then 0 else 0))) else (bif Nat.ble 22 m then (bif Nat.ble 24 m then (bif Nat.ble 25 m then (bif Nat.ble 26 m then 1 else 0) else 0) else (bif Nat.ble 23 m then 0 else 3)) else (bif Nat.ble 20 m then (bif Nat.ble 21 m then 0 else 2) else (bif Nat.ble 19 m then 2 else 3)))) else (bif Nat.ble 9 m then (bif Nat.ble 13 m then (bif Nat.ble 15 m then (bif Nat.ble 16 m then (bif Nat.ble 17 m then 4 else 0) else 1) else (bif Nat.ble 14 m then 2 else 5)) else (bif Nat.ble 11 m then (bif Nat.ble 12 m then 0 else 6) else (bif Nat.ble 10 m then 0 else 0))) else (bif Nat.ble 4 m then (bif Nat.ble 6 m then (bif Nat.ble 7 m then (bif Nat.ble 8 m then 7 else 0) else 0) else (bif Nat.ble 5 m then 0 else 0)) else (bif Nat.ble 2 m then (bif Nat.ble 3 m then 0 else 0) else (bif Nat.ble 1 m then 1 else 8)))))
def pLo (m : Nat) : Nat := (bif Nat.ble 18 m then (bif Nat.ble 27 m then (bif Nat.ble 31 m then (bif Nat.ble 33 m then (bif Nat.ble 34 m then (bif Nat.ble 35 m then 29 else 29) else 16) else (bif Nat.ble 32 m then 0 else 0)) else (bif Nat.ble 29 m then (bif Nat.ble 30 m then 0 else 0) else (bif Nat.ble 28 m then 0 else 0))) else (bif Nat.ble 22 m then (bif Nat.ble 24 m then (bif Nat.ble 25 m then (bif Nat.ble 26 m then 13 else 0) else 0) else (bif Nat.ble 23 m then 0 else 47)) else (bif Nat.ble 20 m then (bif Nat.ble 21 m then 0 else 29) else (bif Nat.ble 19 m then 29 else 50)))) else (bif Nat.ble 9 m then (bif Nat.ble 13 m then (bif Nat.ble 15 m then (bif Nat.ble 16 m then (bif Nat.ble 17 m then 66 else 0) else 13) else (bif Nat.ble 14 m then 29 else 84)) else (bif Nat.ble 11 m then (bif Nat.ble 12 m then 0 else 97) else (bif Nat.ble 10 m then 0 else 0))) else (bif Nat.ble 4 m then (bif Nat.ble 6 m then (bif Nat.ble 7 m then (bif Nat.ble 8 m then 110 else 0) else 0) else (bif Nat.ble 5 m then 0 else 0)) else (bif Nat.ble 2 m then (bif Nat.ble 3 m then 0 else 0) else (bif Nat.ble 1 m then 12 else 129)))))
def tB (k p : Nat) (a b : Option (Instr × Nat)) : Option (Instr × Nat) := bif Nat.ble k p then a else b
def tL (k p : Nat) (i : Instr) (x : Nat) : Option (Instr × Nat) := bif Nat.beq p k then some (i, x) else none
set_option maxHeartbeats 4000000 in
def cd0 (p : Nat) : Option (Instr × Nat) := (tB 299 p (tB 468 p (tB 546 p (tB 581 p (tB 604 p (tB 615 p (tB 620 p (tB 623 p (tB 624 p (tL 624 p .ireturn 0) (tL 623 p (.iconst 1) 0)) (tL 620 p (.goto (-279)) 341)) (tB 616 p (tB 617 p (tL 617 p (.iinc 7 1) 0) (tL 616 p .ireturn 0)) (tL 615 p (.iconst 0) 0))) (tB 609 p (tB 611 p (tB 612 p (tL 612 p (.ifCond .eq 5) 617) (tL 611 p .lcmp 0)) (tL 609 p (.lload 13) 0)) (tB 606 p (tB 608 p (tL 608 p .ladd 0) (tL 606 p (.lload 22) 0)) (tL 604 p (.lload 18) 0)))) (tB 592 p (tB 598 p (tB 599 p (tB 601 p (tL 601 p (.if_icmp .ne 14) 615) (tL 599 p (.iload 12) 0)) (tL 598 p .iadd 0)) (tB 594 p (tB 596 p (tL 596 p (.iload 21) 0) (tL 594 p (.iload 17) 0)) (tL 592 p (.lstore 22) 0))) (tB 586 p (tB 587 p (tB 589 p (tL 589 p (.invokevirtual 60) 25) (tL 587 p (.iload 7) 0)) (tL 586 p (.aload_n 1) 0)) (tB 584 p (tL 584 p (.istore 21) 0) (tL 581 p (.invokevirtual 57) 24))))) (tB 562 p (tB 571 p (tB 577 p (tB 578 p (tB 579 p (tL 579 p (.iload 7) 0) (tL 578 p (.aload_n 1) 0)) (tL 577 p .ireturn 0)) (tB 573 p (tB 576 p (tL 576 p (.iconst 0) 0) (tL 573 p (.ifCond .ne 5) 578)) (tL 571 p (.iload 20) 0))) (tB 565 p (tB 566 p (tB 569 p (tL 569 p (.istore 20) 0) (tL 566 p (.invokestatic 51) 8)) (tL 565 p (.iconst 0) 0)) (tB 563 p (tB 564 p (tL 564 p (.iconst 4) 0) (tL 563 p .iadd 0)) (tL 562 p (.iconst 1) 0)))) (tB 551 p (tB 559 p (tB 560 p (tB 561 p (tL 561 p (.iload_n 2) 0) (tL 560 p (.iconst 3) 0)) (tL 559 p (.aload_n 1) 0)) (tB 554 p (tB 556 p (tL 556 p (.goto 15) 571) (tL 554 p (.istore 20) 0)) (tL 551 p (.invokestatic 51) 8))) (tB 548 p (tB 549 p (tB 550 p (tL 550 p (.iconst 0) 0) (tL 549 p (.iconst 4) 0)) (tL 548 p (.iload_n 2) 0)) (tB 547 p (tL 547 p (.iconst 1) 0) (tL 546 p (.aload_n 1) 0)))))) (tB 504 p (tB 524 p (tB 534 p (tB 540 p (tB 542 p (tB 543 p (tL 543 p (.ifCond .ne 16) 559) (tL 542 p (.iload_n 3) 0)) (tL 540 p (.lstore 18) 0)) (tB 535 p (tB 537 p (tL 537 p (.invokevirtual 60) 25) (tL 535 p (.iload 7) 0)) (tL 534 p (.aload_n 1) 0))) (tB 527 p (tB 529 p (tB 532 p (tL 532 p (.istore 17) 0) (tL 529 p (.invokevirtual 57) 24)) (tL 527 p (.iload 7) 0)) (tB 525 p (tB 526 p (tL 526 p (.aload_n 1) 0) (tL 525 p .ireturn 0)) (tL 524 p (.iconst 0) 0)))) (tB 512 p (tB 517 p (tB 519 p (tB 521 p (tL 521 p (.ifCond .ne 5) 526) (tL 519 p (.iload 16) 0)) (tL 517 p (.istore 16) 0)) (tB 513 p (tB 514 p (tL 514 p (.invokestatic 51) 8) (tL 513 p (.iload_n 2) 0)) (tL 512 p (.iconst 3) 0))) (tB 509 p (tB 510 p (tB 511 p (tL 511 p (.iconst 0) 0) (tL 510 p (.iconst 0) 0)) (tL 509 p (.aload_n 1) 0)) (tB 506 p (tL 506 p (.goto 13) 519) (tL 504 p (.istore 16) 0))))) (tB 487 p (tB 496 p (tB 499 p (tB 500 p (tB 501 p (tL 501 p (.invokestatic 51) 8) (tL 500 p .iadd 0)) (tL 499 p (.iconst 1) 0)) (tB 497 p (tB 498 p (tL 498 p (.iload_n 2) 0) (tL 497 p (.iconst 1) 0)) (tL 496 p (.iconst 0) 0))) (tB 491 p (tB 494 p (tB 495 p (tL 495 p (.iconst 0) 0) (tL 494 p (.aload_n 1) 0)) (tL 491 p (.ifCond .ne 18) 509)) (tB 490 p (tL 490 p (.iload_n 3) 0) (tL 487 p (.ifCond .ne 130) 617)))) (tB 476 p (tB 483 p (tB 485 p (tB 486 p (tL 486 p .iand 0) (tL 485 p (.iconst 1) 0)) (tL 483 p (.iload 15) 0)) (tB 478 p (tB 480 p (tL 480 p (.ifCond .eq 10) 490) (tL 478 p (.iload 4) 0)) (tL 476 p (.istore 15) 0))) (tB 470 p (tB 472 p (tB 473 p (tL 473 p (.invokevirtual 47) 7) (tL 472 p (.iconst 3) 0)) (tL 470 p (.iload 7) 0)) (tB 469 p (tL 469 p (.aload_n 1) 0) (tL 468 p .ireturn 0))))))) (tB 382 p (tB 425 p (tB 444 p (tB 456 p (tB 463 p (tB 464 p (tB 467 p (tL 467 p (.iconst 0) 0) (tL 464 p (.ifCond .eq 5) 469)) (tL 463 p .lcmp 0)) (tB 459 p (tB 461 p (tL 461 p (.lload 10) 0) (tL 459 p (.lload 13) 0)) (tL 456 p (.if_icmp .ne 11) 467))) (tB 450 p (tB 452 p (tB 454 p (tL 454 p (.iload 9) 0) (tL 452 p (.iload 12) 0)) (tL 450 p (.lstore 13) 0)) (tB 445 p (tB 447 p (tL 447 p (.invokevirtual 60) 25) (tL 445 p (.iload 7) 0)) (tL 444 p (.aload_n 1) 0)))) (tB 434 p (tB 437 p (tB 439 p (tB 442 p (tL 442 p (.istore 12) 0) (tL 439 p (.invokevirtual 57) 24)) (tL 437 p (.iload 7) 0)) (tB 435 p (tB 436 p (tL 436 p (.aload_n 1) 0) (tL 435 p .ireturn 0)) (tL 434 p (.iconst 0) 0))) (tB 427 p (tB 428 p (tB 431 p (tL 431 p (.ifCond .ne 5) 436) (tL 428 p (.invokestatic 51) 8)) (tL 427 p (.iconst 0) 0)) (tB 426 p (tL 426 p (.iconst 4) 0) (tL 425 p (.iconst 0) 0))))) (tB 404 p (tB 414 p (tB 420 p (tB 423 p (tB 424 p (tL 424 p (.iconst 0) 0) (tL 423 p (.aload_n 1) 0)) (tL 420 p (.goto (-54)) 366)) (tB 415 p (tB 417 p (tL 417 p (.iinc 12 1) 0) (tL 415 p (.lstore 10) 0)) (tL 414 p .ladd 0))) (tB 409 p (tB 410 p (tB 413 p (tL 413 p .i2l 0) (tL 410 p (.invokevirtual 47) 7)) (tL 409 p (.iconst 2) 0)) (tB 406 p (tB 407 p (tL 407 p (.iload 12) 0) (tL 406 p (.aload_n 1) 0)) (tL 404 p (.lload 10) 0)))) (tB 392 p (tB 399 p (tB 400 p (tB 401 p (tL 401 p (.ifCond .ne 16) 417) (tL 400 p .iand 0)) (tL 399 p (.iconst 2) 0)) (tB 395 p (tB 397 p (tL 397 p (.iload 13) 0) (tL 395 p (.istore 13) 0)) (tL 392 p (.invokevirtual 47) 7))) (tB 388 p (tB 389 p (tB 391 p (tL 391 p (.iconst 3) 0) (tL 389 p (.iload 12) 0)) (tL 388 p (.aload_n 1) 0)) (tB 385 p (tL 385 p (.iinc 9 1) 0) (tL 382 p (.if_icmp .ne 35) 417)))))) (tB 339 p (tB 360 p (tB 370 p (tB 376 p (tB 377 p (tB 380 p (tL 380 p (.iload 8) 0) (tL 377 p (.invokevirtual 47) 7)) (tL 376 p (.iconst 0) 0)) (tB 373 p (tB 374 p (tL 374 p (.iload 12) 0) (tL 373 p (.aload_n 1) 0)) (tL 370 p (.if_icmp .ge 53) 423))) (tB 364 p (tB 366 p (tB 368 p (tL 368 p (.iload 6) 0) (tL 366 p (.iload 12) 0)) (tL 364 p (.istore 12) 0)) (tB 361 p (tB 363 p (tL 363 p (.iconst 0) 0) (tL 361 p (.lstore 10) 0)) (tL 360 p (.lconst 0) 0)))) (tB 349 p (tB 355 p (tB 357 p (tB 358 p (tL 358 p (.istore 9) 0) (tL 357 p (.iconst 0) 0)) (tL 355 p (.istore 8) 0)) (tB 351 p (tB 352 p (tL 352 p (.invokevirtual 47) 7) (tL 351 p (.iconst 0) 0)) (tL 349 p (.iload 7) 0))) (tB 343 p (tB 345 p (tB 348 p (tL 348 p (.aload_n 1) 0) (tL 345 p (.if_icmp .ge 278) 623)) (tL 343 p (.iload 6) 0)) (tB 341 p (tL 341 p (.iload 7) 0) (tL 339 p (.istore 7) 0))))) (tB 320 p (tB 329 p (tB 333 p (tB 336 p (tB 338 p (tL 338 p (.iconst 0) 0) (tL 336 p (.istore 6) 0)) (tL 333 p (.invokevirtual 44) 6)) (tB 330 p (tB 332 p (tL 332 p (.aload_n 1) 0) (tL 330 p (.istore 4) 0)) (tL 329 p (.iconst 0) 0))) (tB 324 p (tB 327 p (tB 328 p (tL 328 p .ireturn 0) (tL 327 p (.iconst 0) 0)) (tL 324 p (.ifCond .ne 5) 329)) (tB 321 p (tL 321 p (.invokevirtual 23) 28) (tL 320 p (.iconst 0) 0)))) (tB 308 p (tB 314 p (tB 316 p (tB 319 p (tL 319 p (.aload_n 1) 0) (tL 316 p (.ifCond .ne 16) 332)) (tL 314 p (.iload 5) 0)) (tB 310 p (tB 311 p (tL 311 p (.if_icmp .ne 21) 332) (tL 310 p (.iconst 1) 0)) (tL 308 p (.iload 4) 0))) (tB 302 p (tB 303 p (tB 306 p (tL 306 p (.istore 5) 0) (tL 303 p (.invokevirtual 40) 5)) (tL 302 p (.iconst 0) 0)) (tB 301 p (tL 301 p (.aload_n 1) 0) (tL 299 p (.istore 4) 0)))))))) (tB 133 p (tB 216 p (tB 258 p (tB 277 p (tB 289 p (tB 294 p (tB 295 p (tB 296 p (tL 296 p (.invokevirtual 40) 5) (tL 295 p (.iconst 2) 0)) (tL 294 p (.aload_n 1) 0)) (tB 292 p (tB 293 p (tL 293 p .ireturn 0) (tL 292 p (.iconst 0) 0)) (tL 289 p (.ifCond .ne 5) 294))) (tB 284 p (tB 285 p (tB 286 p (tL 286 p (.invokevirtual 33) 4) (tL 285 p (.iconst 0) 0)) (tL 284 p (.iconst 0) 0)) (tB 280 p (tB 283 p (tL 283 p (.aload_n 1) 0) (tL 280 p (.goto (-244)) 36)) (tL 277 p (.iinc 4 5) 0)))) (tB 265 p (tB 272 p (tB 273 p (tB 276 p (tL 276 p .pop 0) (tL 273 p (.invokevirtual 36) 11)) (tL 272 p (.aload_n 1) 0)) (tB 268 p (tB 269 p (tL 269 p (.goto 8) 277) (tL 268 p .pop 0)) (tL 265 p (.invokevirtual 33) 4))) (tB 262 p (tB 263 p (tB 264 p (tL 264 p .isub 0) (tL 263 p (.iconst 1) 0)) (tL 262 p .iand 0)) (tB 260 p (tL 260 p (.bipush 7) 0) (tL 258 p (.iload 7) 0))))) (tB 236 p (tB 247 p (tB 253 p (tB 255 p (tB 257 p (tL 257 p .irem 0) (tL 255 p (.bipush 11) 0)) (tL 253 p (.iload 6) 0)) (tB 249 p (tB 252 p (tL 252 p (.aload_n 1) 0) (tL 249 p (.if_icmp .ne 23) 272)) (tL 247 p (.bipush 13) 0))) (tB 241 p (tB 242 p (tB 245 p (tL 245 p (.iload 5) 0) (tL 242 p (.goto 35) 277)) (tL 241 p .pop 0)) (tB 237 p (tB 238 p (tL 238 p (.invokevirtual 30) 10) (tL 237 p .isub 0)) (tL 236 p (.iconst 1) 0)))) (tB 227 p (tB 231 p (tB 233 p (tB 235 p (tL 235 p .iand 0) (tL 233 p (.bipush 7) 0)) (tL 231 p (.iload 7) 0)) (tB 229 p (tB 230 p (tL 230 p .irem 0) (tL 229 p (.iconst 5) 0)) (tL 227 p (.iload 6) 0))) (tB 221 p (tB 223 p (tB 226 p (tL 226 p (.aload_n 1) 0) (tL 223 p (.if_icmp .ne 22) 245)) (tL 221 p (.bipush 12) 0)) (tB 219 p (tL 219 p (.iload 5) 0) (tL 216 p (.goto 61) 277)))))) (tB 176 p (tB 197 p (tB 207 p (tB 211 p (tB 212 p (tB 215 p (tL 215 p .pop 0) (tL 212 p (.invokevirtual 27) 9)) (tL 211 p .isub 0)) (tB 209 p (tB 210 p (tL 210 p (.iconst 1) 0) (tL 209 p .iand 0)) (tL 207 p (.bipush 7) 0))) (tB 203 p (tB 204 p (tB 205 p (tL 205 p (.iload 7) 0) (tL 204 p .irem 0)) (tL 203 p (.iconst 5) 0)) (tB 200 p (tB 201 p (tL 201 p (.iload 6) 0) (tL 200 p (.aload_n 1) 0)) (tL 197 p (.if_icmp .ne 22) 219)))) (tB 185 p (tB 190 p (tB 193 p (tB 195 p (tL 195 p (.bipush 11) 0) (tL 193 p (.iload 5) 0)) (tL 190 p (.goto 87) 277)) (tB 186 p (tB 189 p (tL 189 p .pop 0) (tL 186 p (.invokevirtual 23) 28)) (tL 185 p .irem 0))) (tB 181 p (tB 182 p (tB 184 p (tL 184 p (.iconst 3) 0) (tL 182 p (.iload 6) 0)) (tL 181 p (.aload_n 1) 0)) (tB 178 p (tL 178 p (.if_icmp .ne 15) 193) (tL 176 p (.bipush 10) 0))))) (tB 158 p (tB 165 p (tB 170 p (tB 171 p (tB 174 p (tL 174 p (.iload 5) 0) (tL 171 p (.goto 106) 277)) (tL 170 p .pop 0)) (tB 166 p (tB 167 p (tL 167 p (.invokevirtual 19) 29) (tL 166 p .iand 0)) (tL 165 p (.iconst 1) 0))) (tB 161 p (tB 162 p (tB 163 p (tL 163 p (.iload 7) 0) (tL 162 p .iand 0)) (tL 161 p (.iconst 3) 0)) (tB 159 p (tL 159 p (.iload 6) 0) (tL 158 p (.aload_n 1) 0)))) (tB 144 p (tB 151 p (tB 153 p (tB 155 p (tL 155 p (.if_icmp .ne 19) 174) (tL 153 p (.bipush 9) 0)) (tL 151 p (.iload 5) 0)) (tB 145 p (tB 148 p (tL 148 p (.goto 129) 277) (tL 145 p (.invokevirtual 16) 30)) (tL 144 p (.aload_n 1) 0))) (tB 137 p (tB 139 p (tB 141 p (tL 141 p (.if_icmp .ne 10) 151) (tL 139 p (.bipush 8) 0)) (tL 137 p (.iload 5) 0)) (tB 134 p (tL 134 p (.goto 143) 277) (tL 133 p .pop 0))))))) (tB 60 p (tB 95 p (tB 114 p (tB 123 p (tB 128 p (tB 129 p (tB 130 p (tL 130 p (.invokevirtual 12) 3) (tL 129 p .irem 0)) (tL 128 p (.iconst 5) 0)) (tB 125 p (tB 126 p (tL 126 p (.iload 9) 0) (tL 125 p .isub 0)) (tL 123 p (.bipush 100) 0))) (tB 119 p (tB 120 p (tB 121 p (tL 121 p (.iload 8) 0) (tL 120 p .isub 0)) (tL 119 p (.iconst 3) 0)) (tB 116 p (tB 118 p (tL 118 p .iand 0) (tL 116 p (.bipush 7) 0)) (tL 114 p (.iload 7) 0)))) (tB 104 p (tB 110 p (tB 112 p (tB 113 p (tL 113 p .iand 0) (tL 112 p (.iconst 1) 0)) (tL 110 p (.iload 6) 0)) (tB 106 p (tB 109 p (tL 109 p (.aload_n 1) 0) (tL 106 p (.if_icmp .gt 31) 137)) (tL 104 p (.bipush 7) 0))) (tB 99 p (tB 100 p (tB 102 p (tL 102 p (.iload 5) 0) (tL 100 p (.istore 9) 0)) (tL 99 p .iand 0)) (tB 96 p (tL 96 p (.sipush 255) 0) (tL 95 p .iaload 0))))) (tB 78 p (tB 87 p (tB 91 p (tB 93 p (tB 94 p (tL 94 p .iadd 0) (tL 93 p (.iconst 4) 0)) (tL 91 p (.iload 4) 0)) (tB 88 p (tB 90 p (tL 90 p (.aload_n 0) 0) (tL 88 p (.istore 8) 0)) (tL 87 p .iand 0))) (tB 82 p (tB 83 p (tB 84 p (tL 84 p (.sipush 255) 0) (tL 83 p .iaload 0)) (tL 82 p .iadd 0)) (tB 79 p (tB 81 p (tL 81 p (.iconst 3) 0) (tL 79 p (.iload 4) 0)) (tL 78 p (.aload_n 0) 0)))) (tB 69 p (tB 72 p (tB 75 p (tB 76 p (tL 76 p (.istore 7) 0) (tL 75 p .iand 0)) (tL 72 p (.sipush 255) 0)) (tB 70 p (tB 71 p (tL 71 p .iaload 0) (tL 70 p .iadd 0)) (tL 69 p (.iconst 2) 0))) (tB 64 p (tB 66 p (tB 67 p (tL 67 p (.iload 4) 0) (tL 66 p (.aload_n 0) 0)) (tL 64 p (.istore 6) 0)) (tB 63 p (tL 63 p .iand 0) (tL 60 p (.sipush 255) 0)))))) (tB 29 p (tB 42 p (tB 52 p (tB 57 p (tB 58 p (tB 59 p (tL 59 p .iaload 0) (tL 58 p .iadd 0)) (tL 57 p (.iconst 1) 0)) (tB 54 p (tB 55 p (tL 55 p (.iload 4) 0) (tL 54 p (.aload_n 0) 0)) (tL 52 p (.istore 5) 0))) (tB 48 p (tB 49 p (tB 51 p (tL 51 p .iand 0) (tL 49 p (.bipush 15) 0)) (tL 48 p .iaload 0)) (tB 45 p (tB 46 p (tL 46 p (.iload 4) 0) (tL 45 p (.aload_n 0) 0)) (tL 42 p (.if_icmp .ge 241) 283)))) (tB 34 p (tB 39 p (tB 40 p (tB 41 p (tL 41 p .arraylength 0) (tL 40 p (.aload_n 0) 0)) (tL 39 p .iadd 0)) (tB 36 p (tB 38 p (tL 38 p (.iconst 4) 0) (tL 36 p (.iload 4) 0)) (tL 34 p (.istore 4) 0))) (tB 31 p (tB 32 p (tB 33 p (tL 33 p (.iconst 1) 0) (tL 32 p (.istore_n 3) 0)) (tL 31 p .iand 0)) (tB 30 p (tL 30 p (.iconst 1) 0) (tL 29 p .ishr 0))))) (tB 16 p (tB 23 p (tB 26 p (tB 27 p (tB 28 p (tL 28 p (.iconst 2) 0) (tL 27 p .iaload 0)) (tL 26 p (.iconst 0) 0)) (tB 24 p (tB 25 p (tL 25 p (.aload_n 0) 0) (tL 24 p (.istore_n 2) 0)) (tL 23 p .iand 0))) (tB 20 p (tB 21 p (tB 22 p (tL 22 p (.iconst 3) 0) (tL 21 p .iaload 0)) (tL 20 p (.iconst 0) 0)) (tB 19 p (tL 19 p (.aload_n 0) 0) (tL 16 p (.ifCond .le 17) 33)))) (tB 10 p (tB 13 p (tB 14 p (tB 15 p (tL 15 p .arraylength 0) (tL 14 p (.aload_n 0) 0)) (tL 13 p (.istore_n 3) 0)) (tB 11 p (tB 12 p (tL 12 p (.iconst 0) 0) (tL 11 p (.istore_n 2) 0)) (tL 10 p (.iconst 0) 0))) (tB 4 p (tB 6 p (tB 9 p (tL 9 p (.astore_n 1) 0) (tL 6 p (.invokespecial 9) 1)) (tL 4 p (.bipush 16) 0)) (tB 3 p (tL 3 p .dup 0) (tL 0 p (.new 7) 0)))))))))
set_option maxHeartbeats 4000000 in
def cd1 (p : Nat) : Option (Instr × Nat) := (tB 57 p (tB 82 p (tB 94 p (tB 102 p (tB 104 p (tB 107 p (tL 107 p .return_ 0) (tL 104 p (.putfield 46) 19)) (tB 103 p (tL 103 p (.iconst 0) 0) (tL 102 p (.aload_n 0) 0))) (tB 98 p (tB 99 p (tL 99 p (.invokevirtual 43) 2) (tL 98 p (.aload_n 0) 0)) (tB 95 p (tL 95 p (.putfield 40) 9) (tL 94 p (.iconst 0) 0)))) (tB 88 p (tB 90 p (tB 93 p (tL 93 p (.aload_n 0) 0) (tL 90 p (.putfield 36) 8)) (tB 89 p (tL 89 p (.iload_n 2) 0) (tL 88 p (.aload_n 0) 0))) (tB 85 p (tB 87 p (tL 87 p (.istore_n 2) 0) (tL 85 p (.bipush 32) 0)) (tL 82 p (.if_icmp .le 6) 88)))) (tB 70 p (tB 76 p (tB 79 p (tB 80 p (tL 80 p (.bipush 32) 0) (tL 79 p (.iload_n 2) 0)) (tB 78 p (tL 78 p (.istore_n 2) 0) (tL 76 p (.bipush 8) 0))) (tB 71 p (tB 73 p (tL 73 p (.if_icmp .ge 6) 79) (tL 71 p (.bipush 8) 0)) (tL 70 p (.iload_n 2) 0))) (tB 63 p (tB 68 p (tB 69 p (tL 69 p (.istore_n 2) 0) (tL 68 p (.iload_n 1) 0)) (tB 65 p (tL 65 p (.putfield 33) 7) (tL 63 p (.newarray .int) 0))) (tB 60 p (tB 61 p (tL 61 p (.bipush 32) 0) (tL 60 p (.aload_n 0) 0)) (tL 57 p (.putfield 30) 6))))) (tB 28 p (tB 41 p (tB 49 p (tB 53 p (tB 55 p (tL 55 p (.newarray .int) 0) (tL 53 p (.bipush 32) 0)) (tB 52 p (tL 52 p (.aload_n 0) 0) (tL 49 p (.putfield 26) 5))) (tB 45 p (tB 47 p (tL 47 p (.newarray .boolean) 0) (tL 45 p (.bipush 32) 0)) (tB 44 p (tL 44 p (.aload_n 0) 0) (tL 41 p (.putfield 22) 4)))) (tB 33 p (tB 37 p (tB 39 p (tL 39 p (.newarray .long) 0) (tL 37 p (.bipush 32) 0)) (tB 36 p (tL 36 p (.aload_n 0) 0) (tL 33 p (.putfield 19) 3))) (tB 29 p (tB 31 p (tL 31 p (.newarray .int) 0) (tL 29 p (.bipush 32) 0)) (tL 28 p (.aload_n 0) 0)))) (tB 13 p (tB 20 p (tB 23 p (tB 25 p (tL 25 p (.putfield 16) 2) (tL 23 p (.newarray .int) 0)) (tB 21 p (tL 21 p (.bipush 32) 0) (tL 20 p (.aload_n 0) 0))) (tB 15 p (tB 17 p (tL 17 p (.putfield 13) 1) (tL 15 p (.newarray .int) 0)) (tL 13 p (.bipush 32) 0))) (tB 5 p (tB 9 p (tB 12 p (tL 12 p (.aload_n 0) 0) (tL 9 p (.putfield 7) 0)) (tB 7 p (tL 7 p (.newarray .int) 0) (tL 5 p (.bipush 32) 0))) (tB 1 p (tB 4 p (tL 4 p (.aload_n 0) 0) (tL 1 p (.invokespecial 1) 0)) (tL 0 p (.aload_n 0) 0))))))
set_option maxHeartbeats 4000000 in
def cd2 (p : Nat) : Option (Instr × Nat) := (tB 22 p (tB 35 p (tB 40 p (tB 42 p (tB 45 p (tL 45 p .return_ 0) (tL 42 p (.putfield 74) 18)) (tB 41 p (tL 41 p (.iconst 0) 0) (tL 40 p (.aload_n 0) 0))) (tB 36 p (tB 37 p (tL 37 p (.putfield 71) 17) (tL 36 p (.iconst 0) 0)) (tL 35 p (.aload_n 0) 0))) (tB 27 p (tB 31 p (tB 32 p (tL 32 p (.putfield 68) 16) (tL 31 p (.iconst 0) 0)) (tB 30 p (tL 30 p (.aload_n 0) 0) (tL 27 p (.putfield 65) 15))) (tB 25 p (tB 26 p (tL 26 p (.iconst 2) 0) (tL 25 p (.aload_n 0) 0)) (tL 22 p (.putfield 62) 14)))) (tB 11 p (tB 16 p (tB 20 p (tB 21 p (tL 21 p (.iconst 0) 0) (tL 20 p (.aload_n 0) 0)) (tB 17 p (tL 17 p (.putfield 59) 13) (tL 16 p (.iconst 0) 0))) (tB 12 p (tB 15 p (tL 15 p (.aload_n 0) 0) (tL 12 p (.putfield 56) 12)) (tL 11 p (.iconst 1) 0))) (tB 5 p (tB 7 p (tB 10 p (tL 10 p (.aload_n 0) 0) (tL 7 p (.putfield 53) 11)) (tB 6 p (tL 6 p (.iconst 1) 0) (tL 5 p (.aload_n 0) 0))) (tB 1 p (tB 2 p (tL 2 p (.putfield 50) 10) (tL 1 p (.iconst 1) 0)) (tL 0 p (.aload_n 0) 0)))))
set_option maxHeartbeats 4000000 in
def cd3 (p : Nat) : Option (Instr × Nat) := (tB 53 p (tB 78 p (tB 90 p (tB 96 p (tB 100 p (tB 102 p (tL 102 p .ireturn 0) (tL 100 p (.iload 5) 0)) (tB 97 p (tL 97 p (.putfield 46) 19) (tL 96 p (.iconst 0) 0))) (tB 92 p (tB 95 p (tL 95 p (.aload_n 0) 0) (tL 92 p (.putfield 40) 9)) (tB 91 p (tL 91 p .iadd 0) (tL 90 p (.iconst 1) 0)))) (tB 84 p (tB 87 p (tB 88 p (tL 88 p (.iload 5) 0) (tL 87 p (.aload_n 0) 0)) (tB 86 p (tL 86 p .iastore 0) (tL 84 p (.iload 4) 0))) (tB 79 p (tB 82 p (tL 82 p (.iload 5) 0) (tL 79 p (.getfield 19) 3)) (tL 78 p (.aload_n 0) 0)))) (tB 65 p (tB 72 p (tB 76 p (tB 77 p (tL 77 p .iastore 0) (tL 76 p (.iload_n 3) 0)) (tB 73 p (tL 73 p (.goto 4) 77) (tL 72 p (.iconst 0) 0))) (tB 68 p (tB 69 p (tL 69 p (.ifCond .eq 7) 76) (tL 68 p .iand 0)) (tB 67 p (tL 67 p (.iconst 2) 0) (tL 65 p (.iload 4) 0)))) (tB 58 p (tB 60 p (tB 63 p (tL 63 p (.iload 5) 0) (tL 60 p (.getfield 16) 2)) (tB 59 p (tL 59 p (.aload_n 0) 0) (tL 58 p .iastore 0))) (tB 54 p (tB 57 p (tL 57 p (.iload_n 2) 0) (tL 54 p (.goto 4) 58)) (tL 53 p (.iconst 0) 0))))) (tB 26 p (tB 39 p (tB 46 p (tB 49 p (tB 50 p (tL 50 p (.ifCond .eq 7) 57) (tL 49 p .iand 0)) (tB 48 p (tL 48 p (.iconst 1) 0) (tL 46 p (.iload 4) 0))) (tB 41 p (tB 44 p (tL 44 p (.iload 5) 0) (tL 41 p (.getfield 13) 1)) (tB 40 p (tL 40 p (.aload_n 0) 0) (tL 39 p .iastore 0)))) (tB 32 p (tB 36 p (tB 38 p (tL 38 p (.iload_n 1) 0) (tL 36 p (.iload 5) 0)) (tB 33 p (tL 33 p (.getfield 7) 0) (tL 32 p (.aload_n 0) 0))) (tB 27 p (tB 30 p (tL 30 p (.istore 5) 0) (tL 27 p (.getfield 40) 9)) (tL 26 p (.aload_n 0) 0)))) (tB 13 p (tB 18 p (tB 24 p (tB 25 p (tL 25 p .ireturn 0) (tL 24 p (.iconst (-1)) 0)) (tB 21 p (tL 21 p (.if_icmp .lt 5) 26) (tL 18 p (.getfield 36) 8))) (tB 14 p (tB 17 p (tL 17 p (.aload_n 0) 0) (tL 14 p (.getfield 40) 9)) (tL 13 p (.aload_n 0) 0))) (tB 7 p (tB 11 p (tB 12 p (tL 12 p .ireturn 0) (tL 11 p (.iconst (-1)) 0)) (tB 8 p (tL 8 p (.if_icmp .le 5) 13) (tL 7 p (.iconst 3) 0))) (tB 2 p (tB 5 p (tL 5 p (.iload 4) 0) (tL 2 p (.ifCond .lt 9) 11)) (tL 0 p (.iload 4) 0))))))
set_option maxHeartbeats 4000000 in
def cd4 (p : Nat) : Option (Instr × Nat) := (tB 34 p (tB 47 p (tB 58 p (tB 60 p (tB 63 p (tB 64 p (tL 64 p .ireturn 0) (tL 63 p (.iconst 1) 0)) (tL 60 p (.putfield 46) 19)) (tB 59 p (tL 59 p (.iconst 0) 0) (tL 58 p (.aload_n 0) 0))) (tB 51 p (tB 54 p (tB 55 p (tL 55 p (.putfield 74) 18) (tL 54 p (.iconst 0) 0)) (tL 51 p (.goto 4) 55)) (tB 50 p (tL 50 p (.iload_n 2) 0) (tL 47 p (.ifCond .eq 7) 54)))) (tB 40 p (tB 42 p (tB 45 p (tB 46 p (tL 46 p (.iload_n 3) 0) (tL 45 p (.aload_n 0) 0)) (tL 42 p (.putfield 71) 17)) (tB 41 p (tL 41 p (.iload_n 1) 0) (tL 40 p (.aload_n 0) 0))) (tB 38 p (tB 39 p (tL 39 p .ireturn 0) (tL 38 p (.iconst 0) 0)) (tB 35 p (tL 35 p (.ifCond .ge 5) 40) (tL 34 p (.iload_n 2) 0))))) (tB 15 p (tB 25 p (tB 29 p (tB 30 p (tB 31 p (tL 31 p (.ifCond .eq 9) 40) (tL 30 p (.iload_n 3) 0)) (tL 29 p (.istore_n 3) 0)) (tB 28 p (tL 28 p (.iconst 0) 0) (tL 25 p (.goto 4) 29))) (tB 19 p (tB 21 p (tB 24 p (tL 24 p (.iconst 1) 0) (tL 21 p (.if_icmp .ne 7) 28)) (tL 19 p (.bipush 9) 0)) (tB 18 p (tL 18 p (.iload_n 1) 0) (tL 15 p (.if_icmp .eq 9) 24)))) (tB 7 p (tB 11 p (tB 12 p (tB 13 p (tL 13 p (.bipush 8) 0) (tL 12 p (.iload_n 1) 0)) (tL 11 p .ireturn 0)) (tB 10 p (tL 10 p (.iconst 0) 0) (tL 7 p (.if_icmp .le 5) 12))) (tB 4 p (tB 5 p (tL 5 p (.bipush 9) 0) (tL 4 p (.iload_n 1) 0)) (tB 1 p (tL 1 p (.ifCond .lt 9) 10) (tL 0 p (.iload_n 1) 0))))))
set_option maxHeartbeats 4000000 in
def cd5 (p : Nat) : Option (Instr × Nat) := (tB 50 p (tB 77 p (tB 92 p (tB 99 p (tB 103 p (tB 104 p (tL 104 p .ireturn 0) (tL 103 p (.iconst (-1)) 0)) (tB 102 p (tL 102 p .ireturn 0) (tL 99 p (.getfield 36) 8))) (tB 95 p (tB 98 p (tL 98 p (.aload_n 0) 0) (tL 95 p (.if_icmp .ne 8) 103)) (tB 93 p (tL 93 p (.bipush 9) 0) (tL 92 p (.iload_n 1) 0)))) (tB 84 p (tB 88 p (tB 91 p (tL 91 p .ireturn 0) (tL 88 p (.getfield 74) 18)) (tB 87 p (tL 87 p (.aload_n 0) 0) (tL 84 p (.if_icmp .ne 8) 92))) (tB 81 p (tB 82 p (tL 82 p (.bipush 8) 0) (tL 81 p (.iload_n 1) 0)) (tB 80 p (tL 80 p .ireturn 0) (tL 77 p (.getfield 71) 17))))) (tB 62 p (tB 70 p (tB 73 p (tB 76 p (tL 76 p (.aload_n 0) 0) (tL 73 p (.if_icmp .ne 8) 81)) (tB 71 p (tL 71 p (.bipush 7) 0) (tL 70 p (.iload_n 1) 0))) (tB 66 p (tB 69 p (tL 69 p .ireturn 0) (tL 66 p (.getfield 68) 16)) (tB 65 p (tL 65 p (.aload_n 0) 0) (tL 62 p (.if_icmp .ne 8) 70)))) (tB 55 p (tB 59 p (tB 60 p (tL 60 p (.bipush 6) 0) (tL 59 p (.iload_n 1) 0)) (tB 58 p (tL 58 p .ireturn 0) (tL 55 p (.getfield 65) 15))) (tB 51 p (tB 54 p (tL 54 p (.aload_n 0) 0) (tL 51 p (.if_icmp .ne 8) 59)) (tL 50 p (.iconst 5) 0))))) (tB 25 p (tB 38 p (tB 44 p (tB 48 p (tB 49 p (tL 49 p (.iload_n 1) 0) (tL 48 p .ireturn 0)) (tB 45 p (tL 45 p (.getfield 62) 14) (tL 44 p (.aload_n 0) 0))) (tB 40 p (tB 41 p (tL 41 p (.if_icmp .ne 8) 49) (tL 40 p (.iconst 4) 0)) (tB 39 p (tL 39 p (.iload_n 1) 0) (tL 38 p .ireturn 0)))) (tB 30 p (tB 34 p (tB 35 p (tL 35 p (.getfield 59) 13) (tL 34 p (.aload_n 0) 0)) (tB 31 p (tL 31 p (.if_icmp .ne 8) 39) (tL 30 p (.iconst 3) 0))) (tB 28 p (tB 29 p (tL 29 p (.iload_n 1) 0) (tL 28 p .ireturn 0)) (tL 25 p (.getfield 56) 12)))) (tB 11 p (tB 19 p (tB 21 p (tB 24 p (tL 24 p (.aload_n 0) 0) (tL 21 p (.if_icmp .ne 8) 29)) (tB 20 p (tL 20 p (.iconst 2) 0) (tL 19 p (.iload_n 1) 0))) (tB 15 p (tB 18 p (tL 18 p .ireturn 0) (tL 15 p (.getfield 53) 11)) (tB 14 p (tL 14 p (.aload_n 0) 0) (tL 11 p (.if_icmp .ne 8) 19)))) (tB 5 p (tB 9 p (tB 10 p (tL 10 p (.iconst 1) 0) (tL 9 p (.iload_n 1) 0)) (tB 8 p (tL 8 p .ireturn 0) (tL 5 p (.getfield 50) 10))) (tB 1 p (tB 4 p (tL 4 p (.aload_n 0) 0) (tL 1 p (.ifCond .ne 8) 9)) (tL 0 p (.iload_n 1) 0))))))
set_option maxHeartbeats 4000000 in
def cd6 (p : Nat) : Option (Instr × Nat) := (tB 1 p (tB 4 p (tL 4 p .ireturn 0) (tL 1 p (.getfield 40) 9)) (tL 0 p (.aload_n 0) 0))
set_option maxHeartbeats 4000000 in
def cd7 (p : Nat) : Option (Instr × Nat) := (tB 34 p (tB 48 p (tB 55 p (tB 60 p (tB 61 p (tB 62 p (tL 62 p .ireturn 0) (tL 61 p (.iconst 0) 0)) (tL 60 p .ireturn 0)) (tB 58 p (tB 59 p (tL 59 p .iaload 0) (tL 58 p (.iload_n 1) 0)) (tL 55 p (.getfield 19) 3))) (tB 50 p (tB 51 p (tB 54 p (tL 54 p (.aload_n 0) 0) (tL 51 p (.if_icmp .ne 10) 61)) (tL 50 p (.iconst 3) 0)) (tB 49 p (tL 49 p (.iload_n 2) 0) (tL 48 p .ireturn 0)))) (tB 39 p (tB 43 p (tB 46 p (tB 47 p (tL 47 p .iaload 0) (tL 46 p (.iload_n 1) 0)) (tL 43 p (.getfield 16) 2)) (tB 42 p (tL 42 p (.aload_n 0) 0) (tL 39 p (.if_icmp .ne 10) 49))) (tB 36 p (tB 37 p (tB 38 p (tL 38 p (.iconst 2) 0) (tL 37 p (.iload_n 2) 0)) (tL 36 p .ireturn 0)) (tB 35 p (tL 35 p .iaload 0) (tL 34 p (.iload_n 1) 0))))) (tB 18 p (tB 25 p (tB 27 p (tB 30 p (tB 31 p (tL 31 p (.getfield 13) 1) (tL 30 p (.aload_n 0) 0)) (tL 27 p (.if_icmp .ne 10) 37)) (tB 26 p (tL 26 p (.iconst 1) 0) (tL 25 p (.iload_n 2) 0))) (tB 22 p (tB 23 p (tB 24 p (tL 24 p .ireturn 0) (tL 23 p .iaload 0)) (tL 22 p (.iload_n 1) 0)) (tB 19 p (tL 19 p (.getfield 7) 0) (tL 18 p (.aload_n 0) 0)))) (tB 9 p (tB 13 p (tB 14 p (tB 15 p (tL 15 p (.ifCond .ne 10) 25) (tL 14 p (.iload_n 2) 0)) (tL 13 p .ireturn 0)) (tB 12 p (tL 12 p (.iconst 0) 0) (tL 9 p (.if_icmp .lt 5) 14))) (tB 4 p (tB 5 p (tB 6 p (tL 6 p (.getfield 40) 9) (tL 5 p (.aload_n 0) 0)) (tL 4 p (.iload_n 1) 0)) (tB 1 p (tL 1 p (.ifCond .lt 11) 12) (tL 0 p (.iload_n 1) 0))))))
set_option maxHeartbeats 4000000 in
def cd8 (p : Nat) : Option (Instr × Nat) := (tB 18 p (tB 33 p (tB 39 p (tB 42 p (tB 43 p (tL 43 p .ireturn 0) (tL 42 p (.iconst 0) 0)) (tL 39 p (.goto 4) 43)) (tB 35 p (tB 38 p (tL 38 p (.iconst 1) 0) (tL 35 p (.ifCond .ne 7) 42)) (tL 33 p (.iload 7) 0))) (tB 25 p (tB 28 p (tB 30 p (tL 30 p (.ifCond .eq 12) 42) (tL 28 p (.iload 6) 0)) (tL 25 p (.ifCond .eq 17) 42)) (tB 21 p (tB 23 p (tL 23 p (.iload 5) 0) (tL 21 p (.istore 7) 0)) (tL 18 p (.invokevirtual 36) 11)))) (tB 8 p (tB 12 p (tB 15 p (tB 17 p (tL 17 p (.aload_n 0) 0) (tL 15 p (.istore 6) 0)) (tL 12 p (.invokevirtual 30) 10)) (tB 9 p (tB 10 p (tL 10 p (.iload 4) 0) (tL 9 p (.iload_n 3) 0)) (tL 8 p (.aload_n 0) 0))) (tB 2 p (tB 3 p (tB 6 p (tL 6 p (.istore 5) 0) (tL 3 p (.invokevirtual 27) 9)) (tL 2 p (.iload_n 2) 0)) (tB 1 p (tL 1 p (.iload_n 1) 0) (tL 0 p (.aload_n 0) 0)))))
set_option maxHeartbeats 4000000 in
def cd9 (p : Nat) : Option (Instr × Nat) := (tB 31 p (tB 44 p (tB 55 p (tB 57 p (tB 60 p (tB 61 p (tL 61 p .ireturn 0) (tL 60 p (.iconst 1) 0)) (tL 57 p (.putfield 46) 19)) (tB 56 p (tL 56 p (.iconst 0) 0) (tL 55 p (.aload_n 0) 0))) (tB 48 p (tB 51 p (tB 52 p (tL 52 p (.putfield 62) 14) (tL 51 p (.iconst 0) 0)) (tL 48 p (.goto 4) 52)) (tB 47 p (tL 47 p (.iload_n 2) 0) (tL 44 p (.ifCond .eq 7) 51)))) (tB 37 p (tB 39 p (tB 42 p (tB 43 p (tL 43 p (.iload_n 3) 0) (tL 42 p (.aload_n 0) 0)) (tL 39 p (.putfield 59) 13)) (tB 38 p (tL 38 p (.iload_n 1) 0) (tL 37 p (.aload_n 0) 0))) (tB 35 p (tB 36 p (tL 36 p .ireturn 0) (tL 35 p (.iconst 0) 0)) (tB 32 p (tL 32 p (.ifCond .ge 5) 37) (tL 31 p (.iload_n 2) 0))))) (tB 13 p (tB 22 p (tB 26 p (tB 27 p (tB 28 p (tL 28 p (.ifCond .eq 9) 37) (tL 27 p (.iload_n 3) 0)) (tL 26 p (.istore_n 3) 0)) (tB 25 p (tL 25 p (.iconst 0) 0) (tL 22 p (.goto 4) 26))) (tB 17 p (tB 18 p (tB 21 p (tL 21 p (.iconst 1) 0) (tL 18 p (.if_icmp .ne 7) 25)) (tL 17 p (.iconst 3) 0)) (tB 16 p (tL 16 p (.iload_n 1) 0) (tL 13 p (.if_icmp .eq 8) 21)))) (tB 6 p (tB 10 p (tB 11 p (tB 12 p (tL 12 p (.iconst 1) 0) (tL 11 p (.iload_n 1) 0)) (tL 10 p .ireturn 0)) (tB 9 p (tL 9 p (.iconst 0) 0) (tL 6 p (.if_icmp .le 5) 11))) (tB 4 p (tB 5 p (tL 5 p (.iconst 3) 0) (tL 4 p (.iload_n 1) 0)) (tB 1 p (tL 1 p (.ifCond .lt 8) 9) (tL 0 p (.iload_n 1) 0))))))
set_option maxHeartbeats 4000000 in
def cd10 (p : Nat) : Option (Instr × Nat) := (tB 29 p (tB 45 p (tB 56 p (tB 58 p (tB 61 p (tB 62 p (tL 62 p .ireturn 0) (tL 61 p (.iconst 1) 0)) (tL 58 p (.putfield 46) 19)) (tB 57 p (tL 57 p (.iconst 0) 0) (tL 56 p (.aload_n 0) 0))) (tB 49 p (tB 52 p (tB 53 p (tL 53 p (.putfield 68) 16) (tL 52 p (.iconst 0) 0)) (tL 49 p (.goto 4) 53)) (tB 48 p (tL 48 p (.iload_n 2) 0) (tL 45 p (.ifCond .eq 7) 52)))) (tB 38 p (tB 40 p (tB 43 p (tB 44 p (tL 44 p (.iload_n 3) 0) (tL 43 p (.aload_n 0) 0)) (tL 40 p (.putfield 65) 15)) (tB 39 p (tL 39 p (.iload_n 1) 0) (tL 38 p (.aload_n 0) 0))) (tB 33 p (tB 36 p (tB 37 p (tL 37 p .ireturn 0) (tL 36 p (.iconst 0) 0)) (tL 33 p (.ifCond .ge 5) 38)) (tB 32 p (tL 32 p (.iload_n 2) 0) (tL 29 p (.ifCond .eq 9) 38))))) (tB 13 p (tB 22 p (tB 26 p (tB 27 p (tB 28 p (tL 28 p (.iload_n 3) 0) (tL 27 p (.istore_n 3) 0)) (tL 26 p (.iconst 0) 0)) (tB 23 p (tL 23 p (.goto 4) 27) (tL 22 p (.iconst 1) 0))) (tB 17 p (tB 18 p (tB 19 p (tL 19 p (.if_icmp .ne 7) 26) (tL 18 p (.iconst 3) 0)) (tL 17 p (.iload_n 1) 0)) (tB 14 p (tL 14 p (.if_icmp .eq 8) 22) (tL 13 p (.iconst 1) 0)))) (tB 6 p (tB 10 p (tB 11 p (tB 12 p (tL 12 p (.iload_n 1) 0) (tL 11 p .ireturn 0)) (tL 10 p (.iconst 0) 0)) (tB 7 p (tL 7 p (.if_icmp .le 5) 12) (tL 6 p (.iconst 4) 0))) (tB 2 p (tB 5 p (tL 5 p (.iload_n 1) 0) (tL 2 p (.if_icmp .lt 8) 10)) (tB 1 p (tL 1 p (.iconst 1) 0) (tL 0 p (.iload_n 1) 0))))))
set_option maxHeartbeats 4000000 in
def cd11 (p : Nat) : Option (Instr × Nat) := (tB 16 p (tB 27 p (tB 32 p (tB 35 p (tB 36 p (tL 36 p .ireturn 0) (tL 35 p (.iconst 0) 0)) (tL 32 p (.putfield 46) 19)) (tB 30 p (tB 31 p (tL 31 p (.iconst 1) 0) (tL 30 p (.aload_n 0) 0)) (tL 27 p (.goto (-16)) 11))) (tB 20 p (tB 21 p (tB 24 p (tL 24 p (.iinc 1 1) 0) (tL 21 p (.invokevirtual 81) 13)) (tL 20 p (.iload_n 1) 0)) (tB 19 p (tL 19 p (.aload_n 0) 0) (tL 16 p (.if_icmp .ge 14) 30)))) (tB 9 p (tB 11 p (tB 12 p (tB 13 p (tL 13 p (.getfield 40) 9) (tL 12 p (.aload_n 0) 0)) (tL 11 p (.iload_n 1) 0)) (tB 10 p (tL 10 p (.istore_n 1) 0) (tL 9 p (.iconst 0) 0))) (tB 4 p (tB 7 p (tB 8 p (tL 8 p .ireturn 0) (tL 7 p (.iconst (-1)) 0)) (tL 4 p (.ifCond .eq 5) 9)) (tB 1 p (tL 1 p (.invokevirtual 77) 12) (tL 0 p (.aload_n 0) 0)))))
set_option maxHeartbeats 4000000 in
def cd12 (p : Nat) : Option (Instr × Nat) := (tB 38 p (tB 56 p (tB 65 p (tB 70 p (tB 73 p (tB 74 p (tL 74 p .ireturn 0) (tL 73 p (.iconst 0) 0)) (tL 70 p (.goto 4) 74)) (tB 66 p (tB 69 p (tL 69 p (.iconst 1) 0) (tL 66 p (.ifCond .eq 7) 73)) (tL 65 p (.iload_n 2) 0))) (tB 60 p (tB 61 p (tB 62 p (tL 62 p (.ifCond .ne 7) 69) (tL 61 p (.iload_n 1) 0)) (tL 60 p (.istore_n 2) 0)) (tB 59 p (tL 59 p (.iconst 0) 0) (tL 56 p (.goto 4) 60)))) (tB 47 p (tB 51 p (tB 52 p (tB 55 p (tL 55 p (.iconst 1) 0) (tL 52 p (.if_icmp .ne 7) 59)) (tL 51 p (.iconst 3) 0)) (tB 48 p (tL 48 p (.getfield 65) 15) (tL 47 p (.aload_n 0) 0))) (tB 40 p (tB 43 p (tB 44 p (tL 44 p (.if_icmp .eq 11) 55) (tL 43 p (.iconst 1) 0)) (tL 40 p (.getfield 65) 15)) (tB 39 p (tL 39 p (.aload_n 0) 0) (tL 38 p (.istore_n 1) 0))))) (tB 18 p (tB 29 p (tB 33 p (tB 34 p (tB 37 p (tL 37 p (.iconst 0) 0) (tL 34 p (.goto 4) 38)) (tL 33 p (.iconst 1) 0)) (tB 30 p (tL 30 p (.if_icmp .ne 7) 37) (tL 29 p (.iconst 3) 0))) (tB 22 p (tB 25 p (tB 26 p (tL 26 p (.getfield 59) 13) (tL 25 p (.aload_n 0) 0)) (tL 22 p (.if_icmp .eq 11) 33)) (tB 21 p (tL 21 p (.iconst 1) 0) (tL 18 p (.getfield 59) 13)))) (tB 9 p (tB 15 p (tB 16 p (tB 17 p (tL 17 p (.aload_n 0) 0) (tL 16 p .ireturn 0)) (tL 15 p (.iconst 0) 0)) (tB 12 p (tL 12 p (.ifCond .eq 5) 17) (tL 9 p (.getfield 50) 10))) (tB 4 p (tB 5 p (tB 8 p (tL 8 p (.aload_n 0) 0) (tL 5 p (.if_icmp .ne 10) 15)) (tL 4 p (.iconst 1) 0)) (tB 1 p (tL 1 p (.getfield 56) 12) (tL 0 p (.aload_n 0) 0))))))
set_option maxHeartbeats 4000000 in
def cd13 (p : Nat) : Option (Instr × Nat) := (tB 14 p (tB 20 p (tB 22 p (tB 25 p (tL 25 p .return_ 0) (tL 22 p (.invokevirtual 128) 22)) (tB 21 p (tL 21 p (.iload_n 1) 0) (tL 20 p (.aload_n 0) 0))) (tB 16 p (tB 19 p (tL 19 p .iastore 0) (tL 16 p (.getfield 125) 24)) (tB 15 p (tL 15 p (.aload_n 0) 0) (tL 14 p (.iload_n 1) 0)))) (tB 6 p (tB 10 p (tB 11 p (tL 11 p (.getfield 30) 6) (tL 10 p (.aload_n 0) 0)) (tB 7 p (tL 7 p (.invokevirtual 122) 17) (tL 6 p (.iload_n 1) 0))) (tB 2 p (tB 5 p (tL 5 p (.aload_n 0) 0) (tL 2 p (.invokevirtual 119) 14)) (tB 1 p (tL 1 p (.iload_n 1) 0) (tL 0 p (.aload_n 0) 0)))))
set_option maxHeartbeats 4000000 in
def cd14 (p : Nat) : Option (Instr × Nat) := (tB 68 p (tB 106 p (tB 124 p (tB 132 p (tB 137 p (tB 140 p (tB 143 p (tL 143 p .return_ 0) (tL 140 p (.goto (-26)) 114)) (tL 137 p (.iinc 4 1) 0)) (tB 134 p (tL 134 p (.putfield 96) 21) (tL 132 p (.iload 4) 0))) (tB 127 p (tB 128 p (tB 131 p (tL 131 p (.aload_n 0) 0) (tL 128 p (.if_icmp .ne 9) 137)) (tL 127 p (.iload_n 1) 0)) (tB 126 p (tL 126 p .iaload 0) (tL 124 p (.iload 4) 0)))) (tB 114 p (tB 117 p (tB 120 p (tB 121 p (tL 121 p (.getfield 33) 7) (tL 120 p (.aload_n 0) 0)) (tL 117 p (.if_icmp .ge 26) 143)) (tB 116 p (tL 116 p (.iload_n 2) 0) (tL 114 p (.iload 4) 0))) (tB 108 p (tB 111 p (tB 112 p (tL 112 p (.istore 4) 0) (tL 111 p (.iconst 0) 0)) (tL 108 p (.putfield 96) 21)) (tB 107 p (tL 107 p (.iconst 0) 0) (tL 106 p (.aload_n 0) 0))))) (tB 84 p (tB 95 p (tB 101 p (tB 102 p (tB 103 p (tL 103 p (.putfield 93) 20) (tL 102 p (.iload_n 2) 0)) (tL 101 p (.aload_n 0) 0)) (tB 98 p (tL 98 p (.goto (-86)) 12) (tL 95 p (.iinc 4 1) 0))) (tB 89 p (tB 91 p (tB 92 p (tL 92 p (.iinc 2 1) 0) (tL 91 p .iastore 0)) (tL 89 p (.iload 4) 0)) (tB 87 p (tL 87 p (.iload 5) 0) (tL 84 p (.getfield 33) 7)))) (tB 75 p (tB 77 p (tB 80 p (tB 83 p (tL 83 p (.aload_n 0) 0) (tL 80 p (.goto (-42)) 38)) (tL 77 p (.iinc 5 (-1)) 0)) (tB 76 p (tL 76 p .iastore 0) (tL 75 p .iaload 0))) (tB 73 p (tB 74 p (tL 74 p .isub 0) (tL 73 p (.iconst 1) 0)) (tB 71 p (tL 71 p (.iload 5) 0) (tL 68 p (.getfield 33) 7)))))) (tB 32 p (tB 50 p (tB 58 p (tB 62 p (tB 65 p (tB 67 p (tL 67 p (.aload_n 0) 0) (tL 65 p (.iload 5) 0)) (tL 62 p (.getfield 33) 7)) (tB 61 p (tL 61 p (.aload_n 0) 0) (tL 58 p (.ifCond .eq 25) 83))) (tB 53 p (tB 54 p (tB 55 p (tL 55 p (.invokevirtual 89) 15) (tL 54 p .iaload 0)) (tL 53 p .isub 0)) (tB 52 p (tL 52 p (.iconst 1) 0) (tL 50 p (.iload 5) 0)))) (tB 40 p (tB 44 p (tB 46 p (tB 47 p (tL 47 p (.getfield 33) 7) (tL 46 p (.aload_n 0) 0)) (tL 44 p (.iload 4) 0)) (tB 43 p (tL 43 p (.aload_n 0) 0) (tL 40 p (.ifCond .le 43) 83))) (tB 36 p (tB 38 p (tL 38 p (.iload 5) 0) (tL 36 p (.istore 5) 0)) (tB 35 p (tL 35 p (.iload_n 2) 0) (tL 32 p (.goto 63) 95))))) (tB 12 p (tB 22 p (tB 27 p (tB 28 p (tB 29 p (tL 29 p (.if_icmp .eq 6) 35) (tL 28 p (.iload_n 3) 0)) (tL 27 p .iaload 0)) (tB 25 p (tL 25 p (.iload 4) 0) (tL 22 p (.getfield 7) 0))) (tB 15 p (tB 18 p (tB 21 p (tL 21 p (.aload_n 0) 0) (tL 18 p (.if_icmp .ge 83) 101)) (tL 15 p (.getfield 40) 9)) (tB 14 p (tL 14 p (.aload_n 0) 0) (tL 12 p (.iload 4) 0)))) (tB 6 p (tB 8 p (tB 9 p (tB 10 p (tL 10 p (.istore 4) 0) (tL 9 p (.iconst 0) 0)) (tL 8 p (.istore_n 3) 0)) (tB 7 p (tL 7 p .iaload 0) (tL 6 p (.iload_n 1) 0))) (tB 2 p (tB 3 p (tL 3 p (.getfield 7) 0) (tL 2 p (.aload_n 0) 0)) (tB 1 p (tL 1 p (.istore_n 2) 0) (tL 0 p (.iconst 0) 0)))))))
set_option maxHeartbeats 4000000 in
def cd15 (p : Nat) : Option (Instr × Nat) := (tB 86 p (tB 125 p (tB 143 p (tB 153 p (tB 158 p (tB 161 p (tB 162 p (tL 162 p .ireturn 0) (tL 161 p (.iconst 0) 0)) (tL 158 p (.goto 4) 162)) (tB 154 p (tB 157 p (tL 157 p (.iconst 1) 0) (tL 154 p (.if_icmp .le 7) 161)) (tL 153 p .iaload 0))) (tB 148 p (tB 149 p (tB 152 p (tL 152 p (.iload_n 2) 0) (tL 149 p (.getfield 13) 1)) (tL 148 p (.aload_n 0) 0)) (tB 146 p (tB 147 p (tL 147 p .iaload 0) (tL 146 p (.iload_n 1) 0)) (tL 143 p (.getfield 13) 1)))) (tB 133 p (tB 140 p (tB 141 p (tB 142 p (tL 142 p (.aload_n 0) 0) (tL 141 p .ireturn 0)) (tL 140 p (.iconst 0) 0)) (tB 136 p (tB 137 p (tL 137 p (.goto 4) 141) (tL 136 p (.iconst 1) 0)) (tL 133 p (.if_icmp .ge 7) 140))) (tB 128 p (tB 131 p (tB 132 p (tL 132 p .iaload 0) (tL 131 p (.iload_n 2) 0)) (tL 128 p (.getfield 13) 1)) (tB 126 p (tB 127 p (tL 127 p (.aload_n 0) 0) (tL 126 p .iaload 0)) (tL 125 p (.iload_n 1) 0))))) (tB 103 p (tB 113 p (tB 118 p (tB 121 p (tB 122 p (tL 122 p (.getfield 13) 1) (tL 121 p (.aload_n 0) 0)) (tL 118 p (.if_icmp .ne 24) 142)) (tB 114 p (tB 117 p (tL 117 p (.iconst 1) 0) (tL 114 p (.getfield 50) 10)) (tL 113 p (.aload_n 0) 0))) (tB 108 p (tB 111 p (tB 112 p (tL 112 p .ireturn 0) (tL 111 p (.iconst 0) 0)) (tL 108 p (.goto 4) 112)) (tB 104 p (tB 107 p (tL 107 p (.iconst 1) 0) (tL 104 p (.if_icmp .ge 7) 111)) (tL 103 p (.iload_n 2) 0)))) (tB 93 p (tB 98 p (tB 99 p (tB 102 p (tL 102 p (.iload_n 1) 0) (tL 99 p (.if_icmp .ne 14) 113)) (tL 98 p .iaload 0)) (tB 94 p (tB 97 p (tL 97 p (.iload_n 2) 0) (tL 94 p (.getfield 13) 1)) (tL 93 p (.aload_n 0) 0))) (tB 88 p (tB 91 p (tB 92 p (tL 92 p .iaload 0) (tL 91 p (.iload_n 1) 0)) (tL 88 p (.getfield 13) 1)) (tB 87 p (tL 87 p (.aload_n 0) 0) (tL 86 p .ireturn 0)))))) (tB 41 p (tB 63 p (tB 74 p (tB 81 p (tB 82 p (tB 85 p (tL 85 p (.iconst 0) 0) (tL 82 p (.goto 4) 86)) (tL 81 p (.iconst 1) 0)) (tB 77 p (tB 78 p (tL 78 p (.if_icmp .ne 7) 85) (tL 77 p (.iconst 1) 0)) (tL 74 p (.getfield 53) 11))) (tB 68 p (tB 70 p (tB 73 p (tL 73 p (.aload_n 0) 0) (tL 70 p (.ifCond .eq 17) 87)) (tL 68 p (.iload 4) 0)) (tB 66 p (tB 67 p (tL 67 p .ireturn 0) (tL 66 p (.iconst 0) 0)) (tL 63 p (.goto 4) 67)))) (tB 51 p (tB 56 p (tB 59 p (tB 62 p (tL 62 p (.iconst 1) 0) (tL 59 p (.ifCond .ne 7) 66)) (tL 56 p (.getfield 53) 11)) (tB 52 p (tB 55 p (tL 55 p (.aload_n 0) 0) (tL 52 p (.ifCond .eq 16) 68)) (tL 51 p (.iload_n 3) 0))) (tB 46 p (tB 49 p (tB 50 p (tL 50 p .ireturn 0) (tL 49 p (.iconst 0) 0)) (tL 46 p (.goto 4) 50)) (tB 42 p (tB 45 p (tL 45 p (.iconst 1) 0) (tL 42 p (.if_icmp .ge 7) 49)) (tL 41 p (.iload_n 2) 0))))) (tB 19 p (tB 29 p (tB 35 p (tB 37 p (tB 40 p (tL 40 p (.iload_n 1) 0) (tL 37 p (.ifCond .eq 14) 51)) (tL 35 p (.iload 4) 0)) (tB 31 p (tB 32 p (tL 32 p (.ifCond .eq 19) 51) (tL 31 p (.iload_n 3) 0)) (tL 29 p (.istore 4) 0))) (tB 24 p (tB 25 p (tB 26 p (tL 26 p (.invokevirtual 85) 16) (tL 25 p (.iload_n 2) 0)) (tL 24 p (.aload_n 0) 0)) (tB 20 p (tB 23 p (tL 23 p (.istore_n 3) 0) (tL 20 p (.invokevirtual 85) 16)) (tL 19 p (.iload_n 1) 0)))) (tB 9 p (tB 16 p (tB 17 p (tB 18 p (tL 18 p (.aload_n 0) 0) (tL 17 p .ireturn 0)) (tL 16 p (.iconst 0) 0)) (tB 12 p (tB 13 p (tL 13 p (.goto 4) 17) (tL 12 p (.iconst 1) 0)) (tL 9 p (.if_icmp .ge 7) 16))) (tB 4 p (tB 7 p (tB 8 p (tL 8 p (.iload_n 2) 0) (tL 7 p (.iload_n 1) 0)) (tL 4 p (.ifCond .ne 14) 18)) (tB 1 p (tL 1 p (.getfield 50) 10) (tL 0 p (.aload_n 0) 0)))))))
set_option maxHeartbeats 4000000 in
def cd16 (p : Nat) : Option (Instr × Nat) := (tB 7 p (tB 12 p (tB 15 p (tB 16 p (tL 16 p .ireturn 0) (tL 15 p (.iconst 0) 0)) (tL 12 p (.goto 4) 16)) (tB 8 p (tB 11 p (tL 11 p (.iconst 1) 0) (tL 8 p (.ifCond .eq 7) 15)) (tL 7 p .iand 0))) (tB 4 p (tB 5 p (tB 6 p (tL 6 p (.iconst 1) 0) (tL 5 p .iaload 0)) (tL 4 p (.iload_n 1) 0)) (tB 1 p (tL 1 p (.getfield 19) 3) (tL 0 p (.aload_n 0) 0))))
set_option maxHeartbeats 4000000 in
def cd17 (p : Nat) : Option (Instr × Nat) := (tB 79 p (tB 129 p (tB 150 p (tB 161 p (tB 166 p (tB 169 p (tB 172 p (tL 172 p .return_ 0) (tL 169 p (.goto (-131)) 38)) (tL 166 p (.iinc 4 1) 0)) (tB 162 p (tB 163 p (tL 163 p (.putfield 131) 22) (tL 162 p .ladd 0)) (tL 161 p .i2l 0))) (tB 155 p (tB 156 p (tB 159 p (tL 159 p (.iload 6) 0) (tL 156 p (.getfield 131) 22)) (tL 155 p .dup 0)) (tB 151 p (tB 154 p (tL 154 p (.aload_n 0) 0) (tL 151 p (.putfield 135) 23)) (tL 150 p .iadd 0)))) (tB 139 p (tB 145 p (tB 146 p (tB 149 p (tL 149 p (.iconst 1) 0) (tL 146 p (.getfield 135) 23)) (tL 145 p .dup 0)) (tB 141 p (tB 144 p (tL 144 p (.aload_n 0) 0) (tL 141 p (.putfield 141) 26)) (tL 139 p (.iload 6) 0))) (tB 132 p (tB 135 p (tB 138 p (tL 138 p (.aload_n 0) 0) (tL 135 p (.if_icmp .le 9) 144)) (tL 132 p (.getfield 141) 26)) (tB 131 p (tL 131 p (.aload_n 0) 0) (tL 129 p (.iload 6) 0))))) (tB 101 p (tB 116 p (tB 122 p (tB 123 p (tB 126 p (tL 126 p (.ifCond .eq 12) 138) (tL 123 p (.getfield 135) 23)) (tL 122 p (.aload_n 0) 0)) (tB 117 p (tB 119 p (tL 119 p (.putfield 138) 25) (tL 117 p (.iload 6) 0)) (tL 116 p (.aload_n 0) 0))) (tB 109 p (tB 110 p (tB 113 p (tL 113 p (.if_icmp .ge 9) 122) (tL 110 p (.getfield 138) 25)) (tL 109 p (.aload_n 0) 0)) (tB 104 p (tB 107 p (tL 107 p (.iload 6) 0) (tL 104 p (.ifCond .eq 12) 116)) (tL 101 p (.getfield 135) 23)))) (tB 91 p (tB 97 p (tB 98 p (tB 100 p (tL 100 p (.aload_n 0) 0) (tL 98 p (.istore 6) 0)) (tL 97 p .iaload 0)) (tB 92 p (tB 95 p (tL 95 p (.iload 5) 0) (tL 92 p (.getfield 16) 2)) (tL 91 p (.aload_n 0) 0))) (tB 82 p (tB 85 p (tB 88 p (tL 88 p (.goto 78) 166) (tL 85 p (.ifCond .eq 6) 91)) (tL 82 p (.invokevirtual 147) 21)) (tB 80 p (tL 80 p (.iload 5) 0) (tL 79 p (.aload_n 0) 0)))))) (tB 36 p (tB 55 p (tB 69 p (tB 74 p (tB 75 p (tB 76 p (tL 76 p (.putfield 125) 24) (tL 75 p .iadd 0)) (tL 74 p (.iconst 1) 0)) (tB 70 p (tB 71 p (tL 71 p (.getfield 125) 24) (tL 70 p .dup 0)) (tL 69 p (.aload_n 0) 0))) (tB 60 p (tB 63 p (tB 66 p (tL 66 p (.goto 100) 166) (tL 63 p (.ifCond .ne 6) 69)) (tL 60 p (.invokevirtual 144) 18)) (tB 57 p (tB 58 p (tL 58 p (.iload 4) 0) (tL 57 p (.iload_n 3) 0)) (tL 55 p (.iload 5) 0)))) (tB 45 p (tB 51 p (tB 53 p (tB 54 p (tL 54 p (.iload_n 1) 0) (tL 53 p (.aload_n 0) 0)) (tL 51 p (.istore 5) 0)) (tB 48 p (tB 50 p (tL 50 p .iaload 0) (tL 48 p (.iload 4) 0)) (tL 45 p (.getfield 33) 7))) (tB 40 p (tB 41 p (tB 44 p (tL 44 p (.aload_n 0) 0) (tL 41 p (.if_icmp .ge 131) 172)) (tL 40 p (.iload_n 2) 0)) (tB 38 p (tL 38 p (.iload 4) 0) (tL 36 p (.istore 4) 0))))) (tB 17 p (tB 26 p (tB 31 p (tB 32 p (tB 35 p (tL 35 p (.iconst 0) 0) (tL 32 p (.putfield 141) 26)) (tL 31 p (.iconst 0) 0)) (tB 27 p (tB 30 p (tL 30 p (.aload_n 0) 0) (tL 27 p (.putfield 138) 25)) (tL 26 p (.iconst 0) 0))) (tB 21 p (tB 22 p (tB 25 p (tL 25 p (.aload_n 0) 0) (tL 22 p (.putfield 125) 24)) (tL 21 p (.iconst 0) 0)) (tB 20 p (tL 20 p (.aload_n 0) 0) (tL 17 p (.putfield 135) 23)))) (tB 9 p (tB 12 p (tB 15 p (tB 16 p (tL 16 p (.iconst 0) 0) (tL 15 p (.aload_n 0) 0)) (tL 12 p (.putfield 131) 22)) (tB 10 p (tB 11 p (tL 11 p (.lconst 0) 0) (tL 10 p (.aload_n 0) 0)) (tL 9 p (.istore_n 3) 0))) (tB 4 p (tB 5 p (tB 6 p (tL 6 p (.getfield 96) 21) (tL 5 p (.aload_n 0) 0)) (tL 4 p (.istore_n 2) 0)) (tB 1 p (tL 1 p (.getfield 93) 20) (tL 0 p (.aload_n 0) 0)))))))
set_option maxHeartbeats 4000000 in
def cd18 (p : Nat) : Option (Instr × Nat) := (tB 33 p (tB 47 p (tB 54 p (tB 58 p (tB 61 p (tB 62 p (tL 62 p .ireturn 0) (tL 61 p (.iconst 0) 0)) (tL 58 p (.goto 4) 62)) (tB 57 p (tL 57 p (.iconst 1) 0) (tL 54 p (.ifCond .eq 7) 61))) (tB 49 p (tB 51 p (tL 51 p (.invokevirtual 109) 20) (tL 49 p (.iload 4) 0)) (tB 48 p (tL 48 p (.iload_n 3) 0) (tL 47 p (.iload_n 2) 0)))) (tB 37 p (tB 42 p (tB 45 p (tB 46 p (tL 46 p (.iload_n 1) 0) (tL 45 p (.aload_n 0) 0)) (tL 42 p (.ifCond .eq 19) 61)) (tB 39 p (tL 39 p (.invokevirtual 105) 19) (tL 37 p (.iload 4) 0))) (tB 35 p (tB 36 p (tL 36 p (.iload_n 3) 0) (tL 35 p (.iload_n 2) 0)) (tB 34 p (tL 34 p (.iload_n 1) 0) (tL 33 p (.aload_n 0) 0))))) (tB 17 p (tB 24 p (tB 28 p (tB 31 p (tB 32 p (tL 32 p .ireturn 0) (tL 31 p (.iconst 0) 0)) (tL 28 p (.goto 4) 32)) (tB 27 p (tL 27 p (.iconst 1) 0) (tL 24 p (.ifCond .eq 7) 31))) (tB 19 p (tB 21 p (tL 21 p (.invokevirtual 102) 32) (tL 19 p (.iload 4) 0)) (tB 18 p (tL 18 p (.iload_n 3) 0) (tL 17 p (.aload_n 0) 0)))) (tB 8 p (tB 11 p (tB 14 p (tL 14 p (.ifCond .eq 17) 31) (tL 11 p (.invokevirtual 99) 31)) (tB 9 p (tL 9 p (.iload 4) 0) (tL 8 p (.iload_n 3) 0))) (tB 4 p (tB 7 p (tL 7 p (.aload_n 0) 0) (tL 4 p (.ifCond .ne 29) 33)) (tB 1 p (tL 1 p (.getfield 56) 12) (tL 0 p (.aload_n 0) 0))))))
set_option maxHeartbeats 4000000 in
def cd19 (p : Nat) : Option (Instr × Nat) := (tB 67 p (tB 99 p (tB 116 p (tB 123 p (tB 127 p (tB 130 p (tB 131 p (tL 131 p .ireturn 0) (tL 130 p (.iconst 0) 0)) (tL 127 p (.goto 4) 131)) (tB 126 p (tL 126 p (.iconst 1) 0) (tL 123 p (.ifCond .lt 7) 130))) (tB 118 p (tB 120 p (tB 122 p (tL 122 p .lcmp 0) (tL 120 p (.lload 8) 0)) (tL 118 p (.lload 6) 0)) (tB 117 p (tL 117 p .ireturn 0) (tL 116 p (.iconst 0) 0)))) (tB 107 p (tB 109 p (tB 112 p (tB 113 p (tL 113 p (.goto 4) 117) (tL 112 p (.iconst 1) 0)) (tL 109 p (.ifCond .lt 7) 116)) (tB 108 p (tL 108 p .lcmp 0) (tL 107 p .lneg 0))) (tB 103 p (tB 105 p (tL 105 p (.lload 8) 0) (tL 103 p (.lload 6) 0)) (tB 100 p (tL 100 p (.if_icmp .ne 18) 118) (tL 99 p (.iconst 1) 0))))) (tB 82 p (tB 89 p (tB 93 p (tB 95 p (tB 96 p (tL 96 p (.getfield 59) 13) (tL 95 p (.aload_n 0) 0)) (tL 93 p (.lstore 8) 0)) (tB 92 p (tL 92 p .i2l 0) (tL 89 p (.getfield 62) 14))) (tB 86 p (tB 88 p (tL 88 p (.aload_n 0) 0) (tL 86 p (.lstore 6) 0)) (tB 83 p (tL 83 p (.invokevirtual 115) 27) (tL 82 p (.iload_n 2) 0)))) (tB 75 p (tB 79 p (tB 80 p (tB 81 p (tL 81 p (.iload_n 1) 0) (tL 80 p (.aload_n 0) 0)) (tL 79 p .ireturn 0)) (tB 78 p (tL 78 p (.iconst 0) 0) (tL 75 p (.goto 4) 79))) (tB 71 p (tB 74 p (tL 74 p (.iconst 1) 0) (tL 71 p (.if_icmp .ne 7) 78)) (tB 70 p (tL 70 p (.iconst 1) 0) (tL 67 p (.getfield 53) 11)))))) (tB 33 p (tB 49 p (tB 58 p (tB 60 p (tB 63 p (tB 66 p (tL 66 p (.aload_n 0) 0) (tL 63 p (.ifCond .eq 17) 80)) (tL 60 p (.invokevirtual 85) 16)) (tB 59 p (tL 59 p (.iload_n 2) 0) (tL 58 p (.aload_n 0) 0))) (tB 55 p (tB 57 p (tL 57 p .ireturn 0) (tL 55 p (.iload 5) 0)) (tB 52 p (tL 52 p (.ifCond .eq 6) 58) (tL 49 p (.invokevirtual 85) 16)))) (tB 40 p (tB 44 p (tB 47 p (tB 48 p (tL 48 p (.iload_n 1) 0) (tL 47 p (.aload_n 0) 0)) (tL 44 p (.if_icmp .eq 11) 55)) (tB 43 p (tL 43 p (.iconst 2) 0) (tL 40 p (.getfield 59) 13))) (tB 37 p (tB 39 p (tL 39 p (.aload_n 0) 0) (tL 37 p (.istore 5) 0)) (tB 36 p (tL 36 p (.iconst 0) 0) (tL 33 p (.goto 4) 37))))) (tB 17 p (tB 23 p (tB 28 p (tB 29 p (tB 32 p (tL 32 p (.iconst 1) 0) (tL 29 p (.if_icmp .le 7) 36)) (tL 28 p (.iload_n 3) 0)) (tB 26 p (tL 26 p (.iload 4) 0) (tL 23 p (.ifCond .ne 9) 32))) (tB 19 p (tB 20 p (tL 20 p (.invokevirtual 112) 26) (tL 19 p (.iload_n 2) 0)) (tB 18 p (tL 18 p (.iload_n 1) 0) (tL 17 p (.aload_n 0) 0)))) (tB 8 p (tB 12 p (tB 15 p (tB 16 p (tL 16 p .ireturn 0) (tL 15 p (.iconst 1) 0)) (tL 12 p (.if_icmp .ne 5) 17)) (tB 11 p (tL 11 p (.iconst 4) 0) (tL 8 p (.getfield 59) 13))) (tB 4 p (tB 7 p (tL 7 p (.aload_n 0) 0) (tL 4 p (.ifCond .eq 11) 15)) (tB 1 p (tL 1 p (.getfield 59) 13) (tL 0 p (.aload_n 0) 0)))))))
set_option maxHeartbeats 4000000 in
def cd20 (p : Nat) : Option (Instr × Nat) := (tB 67 p (tB 99 p (tB 116 p (tB 122 p (tB 126 p (tB 129 p (tB 130 p (tL 130 p .ireturn 0) (tL 129 p (.iconst 0) 0)) (tL 126 p (.goto 4) 130)) (tB 125 p (tL 125 p (.iconst 1) 0) (tL 122 p (.ifCond .gt 7) 129))) (tB 119 p (tB 121 p (tL 121 p .lcmp 0) (tL 119 p (.lload 8) 0)) (tB 117 p (tL 117 p (.lload 6) 0) (tL 116 p .ireturn 0)))) (tB 107 p (tB 111 p (tB 112 p (tB 115 p (tL 115 p (.iconst 0) 0) (tL 112 p (.goto 4) 116)) (tL 111 p (.iconst 1) 0)) (tB 108 p (tL 108 p (.ifCond .gt 7) 115) (tL 107 p .lcmp 0))) (tB 104 p (tB 106 p (tL 106 p .lneg 0) (tL 104 p (.lload 8) 0)) (tB 102 p (tL 102 p (.lload 6) 0) (tL 99 p (.if_icmp .ne 18) 117))))) (tB 82 p (tB 91 p (tB 94 p (tB 95 p (tB 98 p (tL 98 p (.iconst 1) 0) (tL 95 p (.getfield 65) 15)) (tL 94 p (.aload_n 0) 0)) (tB 92 p (tL 92 p (.lstore 8) 0) (tL 91 p .i2l 0))) (tB 87 p (tB 88 p (tL 88 p (.getfield 68) 16) (tL 87 p (.aload_n 0) 0)) (tB 85 p (tL 85 p (.lstore 6) 0) (tL 82 p (.invokevirtual 115) 27)))) (tB 77 p (tB 79 p (tB 80 p (tB 81 p (tL 81 p (.iload_n 2) 0) (tL 80 p (.iload_n 1) 0)) (tL 79 p (.aload_n 0) 0)) (tB 78 p (tL 78 p .ireturn 0) (tL 77 p (.iconst 0) 0))) (tB 73 p (tB 74 p (tL 74 p (.goto 4) 78) (tL 73 p (.iconst 1) 0)) (tB 70 p (tL 70 p (.ifCond .ne 7) 77) (tL 67 p (.getfield 53) 11)))))) (tB 33 p (tB 49 p (tB 58 p (tB 60 p (tB 63 p (tB 66 p (tL 66 p (.aload_n 0) 0) (tL 63 p (.ifCond .eq 16) 79)) (tL 60 p (.invokevirtual 85) 16)) (tB 59 p (tL 59 p (.iload_n 2) 0) (tL 58 p (.aload_n 0) 0))) (tB 55 p (tB 57 p (tL 57 p .ireturn 0) (tL 55 p (.iload 5) 0)) (tB 52 p (tL 52 p (.ifCond .eq 6) 58) (tL 49 p (.invokevirtual 85) 16)))) (tB 40 p (tB 44 p (tB 47 p (tB 48 p (tL 48 p (.iload_n 1) 0) (tL 47 p (.aload_n 0) 0)) (tL 44 p (.if_icmp .eq 11) 55)) (tB 43 p (tL 43 p (.iconst 2) 0) (tL 40 p (.getfield 65) 15))) (tB 37 p (tB 39 p (tL 39 p (.aload_n 0) 0) (tL 37 p (.istore 5) 0)) (tB 36 p (tL 36 p (.iconst 0) 0) (tL 33 p (.goto 4) 37))))) (tB 17 p (tB 23 p (tB 28 p (tB 29 p (tB 32 p (tL 32 p (.iconst 1) 0) (tL 29 p (.if_icmp .ge 7) 36)) (tL 28 p (.iload_n 3) 0)) (tB 26 p (tL 26 p (.iload 4) 0) (tL 23 p (.ifCond .ne 9) 32))) (tB 19 p (tB 20 p (tL 20 p (.invokevirtual 112) 26) (tL 19 p (.iload_n 2) 0)) (tB 18 p (tL 18 p (.iload_n 1) 0) (tL 17 p (.aload_n 0) 0)))) (tB 8 p (tB 12 p (tB 15 p (tB 16 p (tL 16 p .ireturn 0) (tL 15 p (.iconst 1) 0)) (tL 12 p (.ifCond .ne 5) 17)) (tB 9 p (tL 9 p (.getfield 65) 15) (tL 8 p (.aload_n 0) 0))) (tB 4 p (tB 5 p (tL 5 p (.if_icmp .eq 10) 15) (tL 4 p (.iconst 4) 0)) (tB 1 p (tL 1 p (.getfield 65) 15) (tL 0 p (.aload_n 0) 0)))))))
set_option maxHeartbeats 4000000 in
def cd21 (p : Nat) : Option (Instr × Nat) := (tB 7 p (tB 12 p (tB 15 p (tB 16 p (tL 16 p .ireturn 0) (tL 15 p (.iconst 0) 0)) (tL 12 p (.goto 4) 16)) (tB 8 p (tB 11 p (tL 11 p (.iconst 1) 0) (tL 8 p (.ifCond .eq 7) 15)) (tL 7 p .iand 0))) (tB 4 p (tB 5 p (tB 6 p (tL 6 p (.iconst 2) 0) (tL 5 p .iaload 0)) (tL 4 p (.iload_n 1) 0)) (tB 1 p (tL 1 p (.getfield 19) 3) (tL 0 p (.aload_n 0) 0))))
set_option maxHeartbeats 4000000 in
def cd22 (p : Nat) : Option (Instr × Nat) := (tB 123 p (tB 183 p (tB 210 p (tB 222 p (tB 231 p (tB 235 p (tB 236 p (tB 239 p (tL 239 p .return_ 0) (tL 236 p (.invokevirtual 160) 33)) (tL 235 p (.iconst 0) 0)) (tB 232 p (tL 232 p (.goto 4) 236) (tL 231 p (.iconst 1) 0))) (tB 226 p (tB 228 p (tL 228 p (.if_icmp .ne 7) 235) (tL 226 p (.bipush 8) 0)) (tB 223 p (tL 223 p (.getfield 71) 17) (tL 222 p (.aload_n 0) 0)))) (tB 216 p (tB 220 p (tB 221 p (tL 221 p (.iload_n 2) 0) (tL 220 p (.iload_n 1) 0)) (tB 219 p (tL 219 p (.aload_n 0) 0) (tL 216 p (.goto 23) 239))) (tB 212 p (tB 213 p (tL 213 p (.invokevirtual 150) 23) (tL 212 p (.iconst 0) 0)) (tB 211 p (tL 211 p (.lload_n 3) 0) (tL 210 p (.iload_n 1) 0))))) (tB 197 p (tB 204 p (tB 208 p (tB 209 p (tL 209 p (.aload_n 0) 0) (tL 208 p (.lstore_n 3) 0)) (tB 205 p (tL 205 p (.invokevirtual 157) 34) (tL 204 p (.iload_n 2) 0))) (tB 202 p (tB 203 p (tL 203 p (.iload_n 1) 0) (tL 202 p (.aload_n 0) 0)) (tB 199 p (tL 199 p (.if_icmp .ne 20) 219) (tL 197 p (.bipush 7) 0)))) (tB 187 p (tB 193 p (tB 194 p (tL 194 p (.getfield 71) 17) (tL 193 p (.aload_n 0) 0)) (tB 190 p (tL 190 p (.goto 49) 239) (tL 187 p (.invokevirtual 150) 23))) (tB 185 p (tB 186 p (tL 186 p (.iconst 0) 0) (tL 185 p (.lload_n 3) 0)) (tB 184 p (tL 184 p (.iload_n 1) 0) (tL 183 p (.aload_n 0) 0)))))) (tB 155 p (tB 167 p (tB 176 p (tB 178 p (tB 179 p (tB 182 p (tL 182 p (.lstore_n 3) 0) (tL 179 p (.invokevirtual 154) 35)) (tL 178 p (.iload_n 2) 0)) (tB 177 p (tL 177 p (.iload_n 1) 0) (tL 176 p (.aload_n 0) 0))) (tB 171 p (tB 173 p (tL 173 p (.if_icmp .ne 20) 193) (tL 171 p (.bipush 6) 0)) (tB 168 p (tL 168 p (.getfield 71) 17) (tL 167 p (.aload_n 0) 0)))) (tB 159 p (tB 161 p (tB 164 p (tL 164 p (.goto 75) 239) (tL 161 p (.invokevirtual 150) 23)) (tB 160 p (tL 160 p (.iconst 0) 0) (tL 159 p .ladd 0))) (tB 157 p (tB 158 p (tL 158 p (.lconst 1) 0) (tL 157 p .i2l 0)) (tB 156 p (tL 156 p (.iload_n 2) 0) (tL 155 p (.iload_n 1) 0))))) (tB 139 p (tB 147 p (tB 151 p (tB 154 p (tL 154 p (.aload_n 0) 0) (tL 151 p (.if_icmp .ne 16) 167)) (tB 150 p (tL 150 p (.iconst 5) 0) (tL 147 p (.getfield 71) 17))) (tB 143 p (tB 146 p (tL 146 p (.aload_n 0) 0) (tL 143 p (.goto 96) 239)) (tB 140 p (tL 140 p (.invokevirtual 150) 23) (tL 139 p (.iconst 0) 0)))) (tB 129 p (tB 135 p (tB 136 p (tL 136 p (.goto 4) 140) (tL 135 p (.iconst 1) 0)) (tB 132 p (tL 132 p (.ifCond .ne 7) 139) (tL 129 p (.getfield 135) 23))) (tB 127 p (tB 128 p (tL 128 p (.aload_n 0) 0) (tL 127 p .i2l 0)) (tB 124 p (tL 124 p (.getfield 141) 26) (tL 123 p (.aload_n 0) 0))))))) (tB 62 p (tB 90 p (tB 106 p (tB 114 p (tB 118 p (tB 121 p (tB 122 p (tL 122 p (.iload_n 1) 0) (tL 121 p (.aload_n 0) 0)) (tL 118 p (.if_icmp .ne 28) 146)) (tB 117 p (tL 117 p (.iconst 4) 0) (tL 114 p (.getfield 71) 17))) (tB 110 p (tB 113 p (tL 113 p (.aload_n 0) 0) (tL 110 p (.goto 129) 239)) (tB 107 p (tL 107 p (.invokevirtual 150) 23) (tL 106 p (.iconst 0) 0)))) (tB 96 p (tB 102 p (tB 103 p (tL 103 p (.goto 4) 107) (tL 102 p (.iconst 1) 0)) (tB 99 p (tL 99 p (.ifCond .ne 7) 106) (tL 96 p (.getfield 135) 23))) (tB 94 p (tB 95 p (tL 95 p (.aload_n 0) 0) (tL 94 p .i2l 0)) (tB 91 p (tL 91 p (.getfield 138) 25) (tL 90 p (.aload_n 0) 0))))) (tB 74 p (tB 84 p (tB 88 p (tB 89 p (tL 89 p (.iload_n 1) 0) (tL 88 p (.aload_n 0) 0)) (tB 85 p (tL 85 p (.if_icmp .ne 28) 113) (tL 84 p (.iconst 3) 0))) (tB 80 p (tB 81 p (tL 81 p (.getfield 71) 17) (tL 80 p (.aload_n 0) 0)) (tB 77 p (tL 77 p (.goto 162) 239) (tL 74 p (.invokevirtual 150) 23)))) (tB 68 p (tB 72 p (tB 73 p (tL 73 p (.iconst 0) 0) (tL 72 p .i2l 0)) (tB 69 p (tL 69 p (.getfield 125) 24) (tL 68 p (.aload_n 0) 0))) (tB 66 p (tB 67 p (tL 67 p (.iload_n 1) 0) (tL 66 p (.aload_n 0) 0)) (tB 63 p (tL 63 p (.if_icmp .ne 17) 80) (tL 62 p (.iconst 2) 0)))))) (tB 30 p (tB 46 p (tB 52 p (tB 58 p (tB 59 p (tL 59 p (.getfield 71) 17) (tL 58 p (.aload_n 0) 0)) (tB 55 p (tL 55 p (.goto 184) 239) (tL 52 p (.invokevirtual 150) 23))) (tB 50 p (tB 51 p (tL 51 p (.iconst 0) 0) (tL 50 p .i2l 0)) (tB 47 p (tL 47 p (.getfield 135) 23) (tL 46 p (.aload_n 0) 0)))) (tB 40 p (tB 44 p (tB 45 p (tL 45 p (.iload_n 1) 0) (tL 44 p (.aload_n 0) 0)) (tB 41 p (tL 41 p (.if_icmp .ne 17) 58) (tL 40 p (.iconst 1) 0))) (tB 36 p (tB 37 p (tL 37 p (.getfield 71) 17) (tL 36 p (.aload_n 0) 0)) (tB 33 p (tL 33 p (.goto 206) 239) (tL 30 p (.invokevirtual 150) 23))))) (tB 14 p (tB 22 p (tB 26 p (tB 29 p (tL 29 p (.iconst 0) 0) (tL 26 p (.goto 4) 30)) (tB 25 p (tL 25 p (.iconst 1) 0) (tL 22 p (.ifCond .ne 7) 29))) (tB 18 p (tB 19 p (tL 19 p (.getfield 135) 23) (tL 18 p (.aload_n 0) 0)) (tB 15 p (tL 15 p (.getfield 131) 22) (tL 14 p (.aload_n 0) 0)))) (tB 6 p (tB 12 p (tB 13 p (tL 13 p (.iload_n 1) 0) (tL 12 p (.aload_n 0) 0)) (tB 9 p (tL 9 p (.ifCond .ne 27) 36) (tL 6 p (.getfield 71) 17))) (tB 4 p (tB 5 p (tL 5 p (.aload_n 0) 0) (tL 4 p (.istore_n 2) 0)) (tB 1 p (tL 1 p (.getfield 96) 21) (tL 0 p (.aload_n 0) 0))))))))
set_option maxHeartbeats 4000000 in
def cd23 (p : Nat) : Option (Instr × Nat) := (tB 12 p (tB 19 p (tB 23 p (tB 24 p (tL 24 p .return_ 0) (tL 23 p .lastore 0)) (tB 22 p (tL 22 p (.lload_n 2) 0) (tL 19 p (.goto 4) 23))) (tB 15 p (tB 18 p (tL 18 p (.lconst 0) 0) (tL 15 p (.ifCond .eq 7) 22)) (tB 13 p (tL 13 p (.iload 4) 0) (tL 12 p (.iload_n 1) 0)))) (tB 5 p (tB 8 p (tB 9 p (tL 9 p (.getfield 22) 4) (tL 8 p (.aload_n 0) 0)) (tB 7 p (tL 7 p .bastore 0) (tL 5 p (.iload 4) 0))) (tB 1 p (tB 4 p (tL 4 p (.iload_n 1) 0) (tL 1 p (.getfield 26) 5)) (tL 0 p (.aload_n 0) 0))))
set_option maxHeartbeats 4000000 in
def cd24 (p : Nat) : Option (Instr × Nat) := (tB 16 p (tB 22 p (tB 26 p (tB 27 p (tL 27 p .ireturn 0) (tL 26 p .iaload 0)) (tB 25 p (tL 25 p (.iload_n 1) 0) (tL 22 p (.getfield 30) 6))) (tB 20 p (tB 21 p (tL 21 p (.aload_n 0) 0) (tL 20 p .ireturn 0)) (tB 19 p (tL 19 p (.iconst (-1)) 0) (tL 16 p (.if_icmp .lt 5) 21)))) (tB 8 p (tB 12 p (tB 13 p (tL 13 p (.getfield 40) 9) (tL 12 p (.aload_n 0) 0)) (tB 11 p (tL 11 p (.iload_n 1) 0) (tL 8 p (.ifCond .lt 11) 19))) (tB 4 p (tB 7 p (tL 7 p (.iload_n 1) 0) (tL 4 p (.ifCond .eq 15) 19)) (tB 1 p (tL 1 p (.getfield 46) 19) (tL 0 p (.aload_n 0) 0)))))
set_option maxHeartbeats 4000000 in
def cd25 (p : Nat) : Option (Instr × Nat) := (tB 21 p (tB 31 p (tB 36 p (tB 37 p (tB 38 p (tL 38 p .lreturn 0) (tL 37 p .laload 0)) (tL 36 p (.iload_n 1) 0)) (tB 32 p (tB 33 p (tL 33 p (.getfield 22) 4) (tL 32 p (.aload_n 0) 0)) (tL 31 p .lreturn 0))) (tB 26 p (tB 27 p (tB 30 p (tL 30 p (.lconst 0) 0) (tL 27 p (.ifCond .eq 5) 32)) (tL 26 p .baload 0)) (tB 22 p (tB 25 p (tL 25 p (.iload_n 1) 0) (tL 22 p (.getfield 26) 5)) (tL 21 p (.aload_n 0) 0)))) (tB 11 p (tB 16 p (tB 19 p (tB 20 p (tL 20 p .lreturn 0) (tL 19 p (.lconst 0) 0)) (tL 16 p (.if_icmp .lt 5) 21)) (tB 12 p (tB 13 p (tL 13 p (.getfield 40) 9) (tL 12 p (.aload_n 0) 0)) (tL 11 p (.iload_n 1) 0))) (tB 4 p (tB 7 p (tB 8 p (tL 8 p (.ifCond .lt 11) 19) (tL 7 p (.iload_n 1) 0)) (tL 4 p (.ifCond .eq 15) 19)) (tB 1 p (tL 1 p (.getfield 46) 19) (tL 0 p (.aload_n 0) 0)))))
set_option maxHeartbeats 4000000 in
def cd26 (p : Nat) : Option (Instr × Nat) := (tB 33 p (tB 49 p (tB 56 p (tB 60 p (tB 63 p (tB 64 p (tL 64 p .ireturn 0) (tL 63 p (.iconst 0) 0)) (tL 60 p (.goto 4) 64)) (tB 59 p (tL 59 p (.iconst 1) 0) (tL 56 p (.if_icmp .ne 7) 63))) (tB 51 p (tB 54 p (tB 55 p (tL 55 p .iaload 0) (tL 54 p (.iload_n 2) 0)) (tL 51 p (.getfield 13) 1)) (tB 50 p (tL 50 p (.aload_n 0) 0) (tL 49 p .iaload 0)))) (tB 42 p (tB 44 p (tB 45 p (tB 48 p (tL 48 p (.iload_n 1) 0) (tL 45 p (.getfield 13) 1)) (tL 44 p (.aload_n 0) 0)) (tB 43 p (tL 43 p .ireturn 0) (tL 42 p (.iconst 0) 0))) (tB 37 p (tB 39 p (tL 39 p (.ifCond .eq 5) 44) (tL 37 p (.iload 4) 0)) (tB 34 p (tL 34 p (.ifCond .ne 8) 42) (tL 33 p (.iload_n 3) 0))))) (tB 15 p (tB 23 p (tB 28 p (tB 31 p (tB 32 p (tL 32 p .ireturn 0) (tL 31 p (.iconst 1) 0)) (tL 28 p (.ifCond .eq 5) 33)) (tB 26 p (tL 26 p (.iload 4) 0) (tL 23 p (.ifCond .eq 10) 33))) (tB 17 p (tB 20 p (tB 22 p (tL 22 p (.iload_n 3) 0) (tL 20 p (.istore 4) 0)) (tL 17 p (.invokevirtual 85) 16)) (tB 16 p (tL 16 p (.iload_n 2) 0) (tL 15 p (.aload_n 0) 0)))) (tB 8 p (tB 10 p (tB 11 p (tB 14 p (tL 14 p (.istore_n 3) 0) (tL 11 p (.invokevirtual 85) 16)) (tL 10 p (.iload_n 1) 0)) (tB 9 p (tL 9 p (.aload_n 0) 0) (tL 8 p .ireturn 0))) (tB 4 p (tB 7 p (tL 7 p (.iconst 1) 0) (tL 4 p (.ifCond .ne 5) 9)) (tB 1 p (tL 1 p (.getfield 50) 10) (tL 0 p (.aload_n 0) 0))))))
set_option maxHeartbeats 4000000 in
def cd27 (p : Nat) : Option (Instr × Nat) := (tB 25 p (tB 39 p (tB 45 p (tB 47 p (tB 48 p (tB 49 p (tL 49 p .lreturn 0) (tL 48 p (.lconst 0) 0)) (tL 47 p .lreturn 0)) (tB 46 p (tL 46 p .lsub 0) (tL 45 p .i2l 0))) (tB 43 p (tB 44 p (tL 44 p .iaload 0) (tL 43 p (.iload_n 2) 0)) (tB 40 p (tL 40 p (.getfield 13) 1) (tL 39 p (.aload_n 0) 0)))) (tB 33 p (tB 37 p (tB 38 p (tL 38 p .i2l 0) (tL 37 p .iaload 0)) (tB 36 p (tL 36 p (.iload_n 1) 0) (tL 33 p (.getfield 13) 1))) (tB 29 p (tB 32 p (tL 32 p (.aload_n 0) 0) (tL 29 p (.if_icmp .ne 19) 48)) (tB 28 p (tL 28 p (.iconst 2) 0) (tL 25 p (.getfield 50) 10))))) (tB 14 p (tB 20 p (tB 22 p (tB 23 p (tB 24 p (tL 24 p (.aload_n 0) 0) (tL 23 p .lreturn 0)) (tL 22 p .lsub 0)) (tB 21 p (tL 21 p .i2l 0) (tL 20 p .iaload 0))) (tB 16 p (tB 19 p (tL 19 p (.iload_n 1) 0) (tL 16 p (.getfield 13) 1)) (tB 15 p (tL 15 p (.aload_n 0) 0) (tL 14 p .i2l 0)))) (tB 8 p (tB 12 p (tB 13 p (tL 13 p .iaload 0) (tL 12 p (.iload_n 2) 0)) (tB 9 p (tL 9 p (.getfield 13) 1) (tL 8 p (.aload_n 0) 0))) (tB 4 p (tB 5 p (tL 5 p (.if_icmp .ne 19) 24) (tL 4 p (.iconst 1) 0)) (tB 1 p (tL 1 p (.getfield 50) 10) (tL 0 p (.aload_n 0) 0))))))
set_option maxHeartbeats 4000000 in
def cd28 (p : Nat) : Option (Instr × Nat) := (tB 11 p (tB 17 p (tB 21 p (tB 22 p (tL 22 p .ireturn 0) (tL 21 p (.iconst 1) 0)) (tB 18 p (tL 18 p (.putfield 46) 19) (tL 17 p (.iconst 0) 0))) (tB 13 p (tB 16 p (tL 16 p (.aload_n 0) 0) (tL 13 p (.putfield 56) 12)) (tB 12 p (tL 12 p (.iload_n 1) 0) (tL 11 p (.aload_n 0) 0)))) (tB 5 p (tB 9 p (tB 10 p (tL 10 p .ireturn 0) (tL 9 p (.iconst 0) 0)) (tB 6 p (tL 6 p (.if_icmp .le 5) 11) (tL 5 p (.iconst 1) 0))) (tB 1 p (tB 4 p (tL 4 p (.iload_n 1) 0) (tL 1 p (.ifCond .lt 8) 9)) (tL 0 p (.iload_n 1) 0))))
set_option maxHeartbeats 4000000 in
def cd29 (p : Nat) : Option (Instr × Nat) := (tB 19 p (tB 27 p (tB 32 p (tB 35 p (tB 36 p (tL 36 p .ireturn 0) (tL 35 p (.iconst 1) 0)) (tL 32 p (.putfield 46) 19)) (tB 30 p (tB 31 p (tL 31 p (.iconst 0) 0) (tL 30 p (.aload_n 0) 0)) (tL 27 p (.putfield 53) 11))) (tB 22 p (tB 25 p (tB 26 p (tL 26 p (.iload_n 2) 0) (tL 25 p (.aload_n 0) 0)) (tL 22 p (.putfield 50) 10)) (tB 20 p (tB 21 p (tL 21 p (.iload_n 1) 0) (tL 20 p (.aload_n 0) 0)) (tL 19 p .ireturn 0)))) (tB 9 p (tB 14 p (tB 15 p (tB 18 p (tL 18 p (.iconst 0) 0) (tL 15 p (.if_icmp .le 5) 20)) (tL 14 p (.iconst 1) 0)) (tB 10 p (tB 13 p (tL 13 p (.iload_n 2) 0) (tL 10 p (.ifCond .lt 8) 18)) (tL 9 p (.iload_n 2) 0))) (tB 4 p (tB 5 p (tB 6 p (tL 6 p (.if_icmp .gt 12) 18) (tL 5 p (.iconst 2) 0)) (tL 4 p (.iload_n 1) 0)) (tB 1 p (tL 1 p (.ifCond .lt 17) 18) (tL 0 p (.iload_n 1) 0)))))
set_option maxHeartbeats 4000000 in
def cd30 (p : Nat) : Option (Instr × Nat) := (tB 5 p (tB 7 p (tB 10 p (tL 10 p .return_ 0) (tL 7 p (.putfield 46) 19)) (tB 6 p (tL 6 p (.iconst 0) 0) (tL 5 p (.aload_n 0) 0))) (tB 1 p (tB 2 p (tL 2 p (.putfield 40) 9) (tL 1 p (.iconst 0) 0)) (tL 0 p (.aload_n 0) 0)))
set_option maxHeartbeats 4000000 in
def cd31 (p : Nat) : Option (Instr × Nat) := (tB 42 p (tB 64 p (tB 74 p (tB 81 p (tB 83 p (tB 84 p (tL 84 p .ireturn 0) (tL 83 p (.iconst 1) 0)) (tB 82 p (tL 82 p .ireturn 0) (tL 81 p (.iconst 0) 0))) (tB 77 p (tB 78 p (tL 78 p (.goto 4) 82) (tL 77 p (.iconst 1) 0)) (tL 74 p (.ifCond .lt 7) 81))) (tB 70 p (tB 72 p (tB 73 p (tL 73 p .lcmp 0) (tL 72 p .ladd 0)) (tL 70 p (.lload 7) 0)) (tB 67 p (tB 69 p (tL 69 p (.lload_n 3) 0) (tL 67 p (.lload 5) 0)) (tL 64 p (.if_icmp .ne 19) 83)))) (tB 53 p (tB 58 p (tB 60 p (tB 63 p (tL 63 p (.iconst 3) 0) (tL 60 p (.getfield 59) 13)) (tB 59 p (tL 59 p (.aload_n 0) 0) (tL 58 p .ireturn 0))) (tB 54 p (tB 57 p (tL 57 p (.iconst 0) 0) (tL 54 p (.goto 4) 58)) (tL 53 p (.iconst 1) 0))) (tB 48 p (tB 49 p (tB 50 p (tL 50 p (.ifCond .lt 7) 57) (tL 49 p .lcmp 0)) (tL 48 p (.lload_n 3) 0)) (tB 43 p (tB 46 p (tL 46 p (.lload 5) 0) (tL 43 p (.if_icmp .ne 16) 59)) (tL 42 p (.iconst 2) 0))))) (tB 19 p (tB 29 p (tB 36 p (tB 38 p (tB 39 p (tL 39 p (.getfield 59) 13) (tL 38 p (.aload_n 0) 0)) (tB 37 p (tL 37 p .ireturn 0) (tL 36 p (.iconst 0) 0))) (tB 32 p (tB 33 p (tL 33 p (.goto 4) 37) (tL 32 p (.iconst 1) 0)) (tL 29 p (.ifCond .lt 7) 36))) (tB 25 p (tB 27 p (tB 28 p (tL 28 p .lcmp 0) (tL 27 p .lsub 0)) (tL 25 p (.lload 7) 0)) (tB 22 p (tB 24 p (tL 24 p (.lload_n 3) 0) (tL 22 p (.lload 5) 0)) (tL 19 p (.if_icmp .ne 19) 38)))) (tB 7 p (tB 12 p (tB 15 p (tB 18 p (tL 18 p (.iconst 1) 0) (tL 15 p (.getfield 59) 13)) (tB 14 p (tL 14 p (.aload_n 0) 0) (tL 12 p (.lstore 7) 0))) (tB 8 p (tB 11 p (tL 11 p .i2l 0) (tL 8 p (.getfield 62) 14)) (tL 7 p (.aload_n 0) 0))) (tB 3 p (tB 4 p (tB 5 p (tL 5 p (.lstore 5) 0) (tL 4 p .i2l 0)) (tL 3 p (.iload_n 2) 0)) (tB 1 p (tB 2 p (tL 2 p (.lstore_n 3) 0) (tL 1 p .i2l 0)) (tL 0 p (.iload_n 1) 0))))))
set_option maxHeartbeats 4000000 in
def cd32 (p : Nat) : Option (Instr × Nat) := (tB 42 p (tB 64 p (tB 74 p (tB 81 p (tB 83 p (tB 84 p (tL 84 p .ireturn 0) (tL 83 p (.iconst 1) 0)) (tB 82 p (tL 82 p .ireturn 0) (tL 81 p (.iconst 0) 0))) (tB 77 p (tB 78 p (tL 78 p (.goto 4) 82) (tL 77 p (.iconst 1) 0)) (tL 74 p (.ifCond .gt 7) 81))) (tB 70 p (tB 72 p (tB 73 p (tL 73 p .lcmp 0) (tL 72 p .ladd 0)) (tL 70 p (.lload 7) 0)) (tB 67 p (tB 69 p (tL 69 p (.lload_n 3) 0) (tL 67 p (.lload 5) 0)) (tL 64 p (.if_icmp .ne 19) 83)))) (tB 53 p (tB 58 p (tB 60 p (tB 63 p (tL 63 p (.iconst 3) 0) (tL 60 p (.getfield 65) 15)) (tB 59 p (tL 59 p (.aload_n 0) 0) (tL 58 p .ireturn 0))) (tB 54 p (tB 57 p (tL 57 p (.iconst 0) 0) (tL 54 p (.goto 4) 58)) (tL 53 p (.iconst 1) 0))) (tB 48 p (tB 49 p (tB 50 p (tL 50 p (.ifCond .gt 7) 57) (tL 49 p .lcmp 0)) (tL 48 p (.lload_n 3) 0)) (tB 43 p (tB 46 p (tL 46 p (.lload 5) 0) (tL 43 p (.if_icmp .ne 16) 59)) (tL 42 p (.iconst 2) 0))))) (tB 19 p (tB 29 p (tB 36 p (tB 38 p (tB 39 p (tL 39 p (.getfield 65) 15) (tL 38 p (.aload_n 0) 0)) (tB 37 p (tL 37 p .ireturn 0) (tL 36 p (.iconst 0) 0))) (tB 32 p (tB 33 p (tL 33 p (.goto 4) 37) (tL 32 p (.iconst 1) 0)) (tL 29 p (.ifCond .gt 7) 36))) (tB 25 p (tB 27 p (tB 28 p (tL 28 p .lcmp 0) (tL 27 p .lsub 0)) (tL 25 p (.lload 7) 0)) (tB 22 p (tB 24 p (tL 24 p (.lload_n 3) 0) (tL 22 p (.lload 5) 0)) (tL 19 p (.if_icmp .ne 19) 38)))) (tB 7 p (tB 12 p (tB 15 p (tB 18 p (tL 18 p (.iconst 1) 0) (tL 15 p (.getfield 65) 15)) (tB 14 p (tL 14 p (.aload_n 0) 0) (tL 12 p (.lstore 7) 0))) (tB 8 p (tB 11 p (tL 11 p .i2l 0) (tL 8 p (.getfield 68) 16)) (tL 7 p (.aload_n 0) 0))) (tB 3 p (tB 4 p (tB 5 p (tL 5 p (.lstore 5) 0) (tL 4 p .i2l 0)) (tL 3 p (.iload_n 2) 0)) (tB 1 p (tB 2 p (tL 2 p (.lstore_n 3) 0) (tL 1 p .i2l 0)) (tL 0 p (.iload_n 1) 0))))))
set_option maxHeartbeats 4000000 in
def cd33 (p : Nat) : Option (Instr × Nat) := (tB 47 p (tB 73 p (tB 84 p (tB 91 p (tB 93 p (tB 96 p (tL 96 p .return_ 0) (tL 93 p (.invokevirtual 150) 23)) (tB 92 p (tL 92 p (.iconst 0) 0) (tL 91 p .i2l 0))) (tB 88 p (tB 90 p (tL 90 p .iaload 0) (tL 88 p (.iload 6) 0)) (tB 85 p (tL 85 p (.getfield 16) 2) (tL 84 p (.aload_n 0) 0)))) (tB 76 p (tB 82 p (tB 83 p (tL 83 p (.iload_n 1) 0) (tL 82 p (.aload_n 0) 0)) (tB 79 p (tL 79 p (.goto 17) 96) (tL 76 p (.invokevirtual 150) 23))) (tB 74 p (tB 75 p (tL 75 p (.iconst 1) 0) (tL 74 p (.lconst 0) 0)) (tL 73 p (.iload_n 1) 0)))) (tB 59 p (tB 64 p (tB 69 p (tB 72 p (tL 72 p (.aload_n 0) 0) (tL 69 p (.ifCond .eq 13) 82)) (tB 66 p (tL 66 p (.invokevirtual 147) 21) (tL 64 p (.iload 6) 0))) (tB 61 p (tB 63 p (tL 63 p (.aload_n 0) 0) (tL 61 p (.istore 6) 0)) (tB 60 p (tL 60 p .iaload 0) (tL 59 p .l2i 0)))) (tB 52 p (tB 54 p (tB 57 p (tL 57 p (.lload 4) 0) (tL 54 p (.getfield 33) 7)) (tB 53 p (tL 53 p (.aload_n 0) 0) (tL 52 p .return_ 0))) (tB 48 p (tB 49 p (tL 49 p (.invokevirtual 150) 23) (tL 48 p (.iconst 1) 0)) (tL 47 p (.lconst 0) 0))))) (tB 23 p (tB 35 p (tB 41 p (tB 45 p (tB 46 p (tL 46 p (.iload_n 1) 0) (tL 45 p (.aload_n 0) 0)) (tB 42 p (tL 42 p (.ifCond .le 11) 53) (tL 41 p .lcmp 0))) (tB 39 p (tB 40 p (tL 40 p .lsub 0) (tL 39 p (.lconst 1) 0)) (tB 38 p (tL 38 p .i2l 0) (tL 35 p (.getfield 93) 20)))) (tB 28 p (tB 32 p (tB 34 p (tL 34 p (.aload_n 0) 0) (tL 32 p (.lload 4) 0)) (tB 29 p (tL 29 p (.ifCond .lt 16) 45) (tL 28 p .lcmp 0))) (tB 25 p (tB 27 p (tL 27 p (.lconst 0) 0) (tL 25 p (.lload 4) 0)) (tL 23 p (.lstore 4) 0)))) (tB 11 p (tB 17 p (tB 21 p (tB 22 p (tL 22 p .ladd 0) (tL 21 p .i2l 0)) (tB 18 p (tL 18 p (.getfield 74) 18) (tL 17 p (.aload_n 0) 0))) (tB 15 p (tB 16 p (tL 16 p .i2l 0) (tL 15 p (.iload_n 2) 0)) (tB 12 p (tL 12 p (.goto 11) 23) (tL 11 p .lsub 0)))) (tB 5 p (tB 7 p (tB 10 p (tL 10 p .i2l 0) (tL 7 p (.getfield 74) 18)) (tB 6 p (tL 6 p (.aload_n 0) 0) (tL 5 p .i2l 0))) (tB 1 p (tB 4 p (tL 4 p (.iload_n 2) 0) (tL 1 p (.ifCond .eq 14) 15)) (tL 0 p (.iload_n 3) 0))))))
set_option maxHeartbeats 4000000 in
def cd34 (p : Nat) : Option (Instr × Nat) := (tB 39 p (tB 58 p (tB 67 p (tB 72 p (tB 75 p (tB 76 p (tL 76 p .lreturn 0) (tL 75 p (.lload_n 3) 0)) (tL 72 p (.goto (-67)) 5)) (tB 68 p (tB 69 p (tL 69 p (.iinc 5 1) 0) (tL 68 p (.lstore_n 3) 0)) (tL 67 p .ladd 0))) (tB 62 p (tB 65 p (tB 66 p (tL 66 p (.lconst 1) 0) (tL 65 p (.lload_n 3) 0)) (tL 62 p (.ifCond .ne 7) 69)) (tB 59 p (tL 59 p (.invokevirtual 112) 26) (tL 58 p .iaload 0)))) (tB 50 p (tB 54 p (tB 56 p (tB 57 p (tL 57 p .isub 0) (tL 56 p (.iconst 1) 0)) (tL 54 p (.iload 5) 0)) (tB 51 p (tL 51 p (.getfield 33) 7) (tL 50 p (.aload_n 0) 0))) (tB 44 p (tB 47 p (tB 48 p (tL 48 p (.iload 6) 0) (tL 47 p (.aload_n 0) 0)) (tL 44 p (.ifCond .eq 21) 65)) (tB 42 p (tL 42 p (.iload 5) 0) (tL 39 p (.goto 30) 69))))) (tB 17 p (tB 27 p (tB 32 p (tB 33 p (tB 36 p (tL 36 p (.ifCond .eq 6) 42) (tL 33 p (.invokevirtual 112) 26)) (tL 32 p (.iload_n 1) 0)) (tB 29 p (tB 30 p (tL 30 p (.iload 6) 0) (tL 29 p (.aload_n 0) 0)) (tL 27 p (.istore 6) 0))) (tB 21 p (tB 24 p (tB 26 p (tL 26 p .iaload 0) (tL 24 p (.iload 5) 0)) (tL 21 p (.getfield 33) 7)) (tB 20 p (tL 20 p (.aload_n 0) 0) (tL 17 p (.if_icmp .ge 58) 75)))) (tB 7 p (tB 11 p (tB 13 p (tB 14 p (tL 14 p (.getfield 93) 20) (tL 13 p (.aload_n 0) 0)) (tL 11 p (.iload 5) 0)) (tB 8 p (tL 8 p (.if_icmp .ge 67) 75) (tL 7 p (.iload_n 2) 0))) (tB 2 p (tB 3 p (tB 5 p (tL 5 p (.iload 5) 0) (tL 3 p (.istore 5) 0)) (tL 2 p (.iconst 0) 0)) (tB 1 p (tL 1 p (.lstore_n 3) 0) (tL 0 p (.lconst 1) 0))))))
set_option maxHeartbeats 4000000 in
def cd35 (p : Nat) : Option (Instr × Nat) := (tB 22 p (tB 36 p (tB 39 p (tB 45 p (tB 46 p (tL 46 p .lreturn 0) (tL 45 p (.lload_n 3) 0)) (tB 42 p (tL 42 p (.goto (-37)) 5) (tL 39 p (.iinc 5 1) 0))) (tB 37 p (tB 38 p (tL 38 p (.lstore_n 3) 0) (tL 37 p .ladd 0)) (tL 36 p (.lconst 1) 0))) (tB 28 p (tB 32 p (tB 35 p (tL 35 p (.lload_n 3) 0) (tL 32 p (.ifCond .ne 7) 39)) (tB 29 p (tL 29 p (.invokevirtual 112) 26) (tL 28 p (.iload_n 1) 0))) (tB 25 p (tB 27 p (tL 27 p .iaload 0) (tL 25 p (.iload 5) 0)) (tL 22 p (.getfield 33) 7)))) (tB 8 p (tB 14 p (tB 20 p (tB 21 p (tL 21 p (.aload_n 0) 0) (tL 20 p (.aload_n 0) 0)) (tB 17 p (tL 17 p (.if_icmp .ge 28) 45) (tL 14 p (.getfield 93) 20))) (tB 11 p (tB 13 p (tL 13 p (.aload_n 0) 0) (tL 11 p (.iload 5) 0)) (tL 8 p (.if_icmp .ge 37) 45))) (tB 3 p (tB 5 p (tB 7 p (tL 7 p (.iload_n 2) 0) (tL 5 p (.iload 5) 0)) (tL 3 p (.istore 5) 0)) (tB 1 p (tB 2 p (tL 2 p (.iconst 0) 0) (tL 1 p (.lstore_n 3) 0)) (tL 0 p (.lconst 1) 0)))))
def pCode (m pc : Nat) : Option (Instr × Nat) := bif Nat.ble pN m then none else bif Nat.ble (pTop m) pc then none else (bif Nat.ble 18 m then (bif Nat.ble 27 m then (bif Nat.ble 31 m then (bif Nat.ble 33 m then (bif Nat.ble 34 m then (bif Nat.ble 35 m then cd35 pc else cd34 pc) else cd33 pc) else (bif Nat.ble 32 m then cd32 pc else cd31 pc)) else (bif Nat.ble 29 m then (bif Nat.ble 30 m then cd30 pc else cd29 pc) else (bif Nat.ble 28 m then cd28 pc else cd27 pc))) else (bif Nat.ble 22 m then (bif Nat.ble 24 m then (bif Nat.ble 25 m then (bif Nat.ble 26 m then cd26 pc else cd25 pc) else cd24 pc) else (bif Nat.ble 23 m then cd23 pc else cd22 pc)) else (bif Nat.ble 20 m then (bif Nat.ble 21 m then cd21 pc else cd20 pc) else (bif Nat.ble 19 m then cd19 pc else cd18 pc)))) else (bif Nat.ble 9 m then (bif Nat.ble 13 m then (bif Nat.ble 15 m then (bif Nat.ble 16 m then (bif Nat.ble 17 m then cd17 pc else cd16 pc) else cd15 pc) else (bif Nat.ble 14 m then cd14 pc else cd13 pc)) else (bif Nat.ble 11 m then (bif Nat.ble 12 m then cd12 pc else cd11 pc) else (bif Nat.ble 10 m then cd10 pc else cd9 pc))) else (bif Nat.ble 4 m then (bif Nat.ble 6 m then (bif Nat.ble 7 m then (bif Nat.ble 8 m then cd8 pc else cd7 pc) else cd6 pc) else (bif Nat.ble 5 m then cd5 pc else cd4 pc)) else (bif Nat.ble 2 m then (bif Nat.ble 3 m then cd3 pc else cd2 pc) else (bif Nat.ble 1 m then cd1 pc else cd0 pc)))))
def lkF : List (Nat × Nat × Nat) := [(1, 7, 0), (1, 13, 1), (1, 16, 2), (1, 19, 3), (1, 22, 4), (1, 26, 5), (1, 30, 6), (1, 33, 7), (1, 36, 8), (1, 40, 9), (1, 50, 10), (1, 53, 11), (1, 56, 12), (1, 59, 13), (1, 62, 14), (1, 65, 15), (1, 68, 16), (1, 71, 17), (1, 74, 18), (1, 46, 19), (1, 93, 20), (1, 96, 21), (1, 131, 22), (1, 135, 23), (1, 125, 24), (1, 138, 25), (1, 141, 26)]
def lkN : List (Nat × Nat) := [(0, 7)]
def lkC : List (Nat × Nat × Nat) := []
def lkD : List (Nat × Nat × Nat) := []
def lkV : List (Nat × Nat × Nat) := [(0, 9, 1), (1, 43, 2), (0, 12, 3), (0, 33, 4), (0, 40, 5), (0, 44, 6), (0, 47, 7), (0, 51, 8), (0, 27, 9), (0, 30, 10), (0, 36, 11), (1, 77, 12), (1, 81, 13), (1, 119, 14), (1, 89, 15), (1, 85, 16), (1, 122, 17), (1, 144, 18), (1, 105, 19), (1, 109, 20), (1, 147, 21), (1, 128, 22), (1, 150, 23), (0, 57, 24), (0, 60, 25), (1, 112, 26), (1, 115, 27), (0, 23, 28), (0, 19, 29), (0, 16, 30), (1, 99, 31), (1, 102, 32), (1, 160, 33), (1, 157, 34), (1, 154, 35)]
def lkO : List (Nat × Nat) := [(1, 1)]
def mV : List Nat := [3, 4, 5, 6, 7, 9, 10, 11, 24, 25, 28, 29, 30]
def mP : List Nat := [2, 12, 13, 14, 15, 16, 17, 18, 19, 20, 21, 22, 23, 26, 27, 31, 32, 33, 34, 35]
def mS : List Nat := [8]
def mI : List Nat := [1]
def mA : List Nat := [1, 2, 3, 4, 5, 6, 7, 8, 9, 10, 11, 12, 13, 14, 15, 16, 17, 18, 19, 20, 21, 22, 23, 24, 25, 26, 27, 28, 29, 30, 31, 32, 33, 34, 35]
def aTys : List FieldType := [.int, .long, .boolean]
abbrev QCell := List Value ⊕ ((FieldType × List Int32) ⊕ List Int64)
abbrev QHeap := List QCell
abbrev QLoc := List (Option Value)
abbrev vI (x : Int32) : Option Value := some (.int x)
abbrev vR (a : Addr) : Option Value := some (.ref a)
abbrev vL (x : Int64) : Option Value := some (.long x)
abbrev QSt := Nat × QLoc × List Value × QHeap
def qv (ad : Nat → Addr) : Value → Value
 | .ref k => .ref (ad k)
 | v => v
def qsz : QCell → Nat
 | .inl _ => cN
 | .inr (.inl x) => x.2.length
 | .inr (.inr x) => x.length
def qhs : QHeap → Nat
 | [] => 0
 | c :: t => qsz c + qhs t
def aget {α : Type} (xs : List α) (j : Int32) : Option α := if j < 0 then none else xs[j.toNatClampNeg]?
def aset {α : Type} (xs : List α) (j : Int32) (v : α) : Option (List α) := if j < 0 then none else if j.toNatClampNeg < xs.length then some (xs.set j.toNatClampNeg v) else none
def qnew (n : Int32) : Option Nat := if n < 0 then none else if n.toNatClampNeg ≤ 67108864 then some n.toNatClampNeg else none
def qdiv (x y : Int32) : Option Int32 := if y = 0 then none else some (x / y)
def qrem (x y : Int32) : Option Int32 := if y = 0 then none else some (x % y)
def qboo (x : Int32) : Option Int32 := if x = 0 then some x else if x = 1 then some x else none
def lget : QLoc → Nat → Option Value
 | [], _ => none
 | v :: _, 0 => v
 | _ :: t, k + 1 => lget t k
def hget : QHeap → Nat → Option QCell
 | [], _ => none
 | v :: _, 0 => some v
 | _ :: t, k + 1 => hget t k
def vget : List Value → Nat → Option Value
 | [], _ => none
 | v :: _, 0 => some v
 | _ :: t, k + 1 => vget t k
def lkill (L : QLoc) : Nat → QLoc
 | 0 => L
 | k + 1 => match lget L k with
  | some (.long _) => L.set k none
  | some (.double _) => L.set k none
  | _ => L
def lput (L : QLoc) (k : Nat) (v : Value) : Option QLoc :=
 match v with
 | .long x => bif Nat.ble (k + 2) L.length then some (((lkill L k).set k (some (.long x))).set (k + 1) none) else none
 | .double _ => none
 | v => bif Nat.ble (k + 1) L.length then some ((lkill L k).set k (some v)) else none
def qload (pc : Nat) (L : QLoc) (S : List Value) (σ : QHeap) (k : Nat) (ok : Value → Bool) : Option QSt :=
 match lget L k with
 | some v => bif ok v then some (pc, L, v :: S, σ) else none
 | none => none
def isI : Value → Bool | .int _ => true | _ => false
def isJ : Value → Bool | .long _ => true | _ => false
def isR : Value → Bool | .ref _ => true | _ => false
def qstore (pc : Nat) (L : QLoc) (S : List Value) (σ : QHeap) (k : Nat) (ok : Value → Bool) : Option QSt :=
 match S with
 | v :: S' => bif ok v then (match lput L k v with | some L' => some (pc, L', S', σ) | none => none) else none
 | [] => none
def qbin (pc : Nat) (L : QLoc) (S : List Value) (σ : QHeap) (f : Int32 → Int32 → Int32) : Option QSt :=
 match S with
 | .int y :: .int x :: S' => some (pc, L, .int (f x y) :: S', σ)
 | _ => none
def qbino (pc : Nat) (L : QLoc) (S : List Value) (σ : QHeap) (f : Int32 → Int32 → Option Int32) : Option QSt :=
 match S with
 | .int y :: .int x :: S' => (f x y).bind fun z => some (pc, L, .int z :: S', σ)
 | _ => none
def qbinJ (pc : Nat) (L : QLoc) (S : List Value) (σ : QHeap) (f : Int64 → Int64 → Int64) : Option QSt :=
 match S with
 | .long y :: .long x :: S' => some (pc, L, .long (f x y) :: S', σ)
 | _ => none
def qshJ (pc : Nat) (L : QLoc) (S : List Value) (σ : QHeap) (f : Int64 → Int32 → Int64) : Option QSt :=
 match S with
 | .int y :: .long x :: S' => some (pc, L, .long (f x y) :: S', σ)
 | _ => none
def quni (pc : Nat) (L : QLoc) (S : List Value) (σ : QHeap) (f : Int32 → Value) : Option QSt :=
 match S with
 | .int x :: S' => some (pc, L, f x :: S', σ)
 | _ => none
def quniJ (pc : Nat) (L : QLoc) (S : List Value) (σ : QHeap) (f : Int64 → Value) : Option QSt :=
 match S with
 | .long x :: S' => some (pc, L, f x :: S', σ)
 | _ => none
def qald (pc : Nat) (L : QLoc) (S : List Value) (σ : QHeap) (ok : FieldType → Bool) : Option QSt :=
 match S with
 | .int j :: .ref a :: S' => (match hget σ a with
  | some (.inr (.inl x)) => bif ok x.1 then (aget x.2 j).bind fun v => some (pc, L, .int v :: S', σ) else none
  | _ => none)
 | _ => none
def qaldJ (pc : Nat) (L : QLoc) (S : List Value) (σ : QHeap) : Option QSt :=
 match S with
 | .int j :: .ref a :: S' => (match hget σ a with
  | some (.inr (.inr x)) => (aget x j).bind fun v => some (pc, L, .long v :: S', σ)
  | _ => none)
 | _ => none
def qnar : FieldType → Int32 → Int32
 | .boolean, x => x &&& 1
 | .byte, x => x.toInt8.toInt32
 | _, x => x
def qast (pc : Nat) (L : QLoc) (S : List Value) (σ : QHeap) (ok : FieldType → Bool) : Option QSt :=
 match S with
 | .int v :: .int j :: .ref a :: S' => (match hget σ a with
  | some (.inr (.inl x)) => bif ok x.1 && Nat.ble k0 a then (aset x.2 j (qnar x.1 v)).bind fun y => some (pc, L, S', σ.set a (.inr (.inl (x.1, y)))) else none
  | _ => none)
 | _ => none
def qastJ (pc : Nat) (L : QLoc) (S : List Value) (σ : QHeap) : Option QSt :=
 match S with
 | .long v :: .int j :: .ref a :: S' => (match hget σ a with
  | some (.inr (.inr x)) => bif Nat.ble k0 a then (aset x j v).bind fun y => some (pc, L, S', σ.set a (.inr (.inr y))) else none
  | _ => none)
 | _ => none
def tyI : FieldType → Bool | .int => true | _ => false
def tyB : FieldType → Bool | .boolean => true | .byte => true | _ => false
def qfit : FieldType → Value → Option Value
 | .int, .int x => some (.int x)
 | .boolean, .int x => (qboo x).bind fun y => some (.int y)
 | .long, .long x => some (.long x)
 | .array t, .ref a => some (.ref a)
 | _, _ => none
def qget (pc : Nat) (L : QLoc) (S : List Value) (σ : QHeap) (k : Nat) : Option QSt :=
 match S with
 | .ref a :: S' => (match hget σ a with
  | some (.inl vs) => (match vget vs k with | some v => some (pc, L, v :: S', σ) | none => none)
  | _ => none)
 | _ => none
def qput (pc : Nat) (L : QLoc) (S : List Value) (σ : QHeap) (k : Nat) : Option QSt :=
 match S with
 | v :: .ref a :: S' => (match hget σ a with
  | some (.inl vs) => bif Nat.ble k0 a && Nat.ble (k + 1) vs.length then (qfit (fTy k) v).bind fun w => some (pc, L, S', σ.set a (.inl (vs.set k w))) else none
  | _ => none)
 | _ => none
def qnewA (pc : Nat) (L : QLoc) (S : List Value) (σ : QHeap) (t : ArrayType) : Option QSt :=
 match S with
 | .int n :: S' => (match t with
  | .int => (qnew n).bind fun k => some (pc, L, .ref σ.length :: S', σ ++ [.inr (.inl (.int, List.replicate k 0))])
  | .boolean => (qnew n).bind fun k => some (pc, L, .ref σ.length :: S', σ ++ [.inr (.inl (.boolean, List.replicate k 0))])
  | .byte => (qnew n).bind fun k => some (pc, L, .ref σ.length :: S', σ ++ [.inr (.inl (.byte, List.replicate k 0))])
  | .long => (qnew n).bind fun k => some (pc, L, .ref σ.length :: S', σ ++ [.inr (.inr (List.replicate k 0))])
  | _ => none)
 | _ => none
def qlen (pc : Nat) (L : QLoc) (S : List Value) (σ : QHeap) : Option QSt :=
 match S with
 | .ref a :: S' => (match hget σ a with
  | some (.inr (.inl x)) => some (pc, L, .int x.2.length.toInt32 :: S', σ)
  | some (.inr (.inr x)) => some (pc, L, .int x.length.toInt32 :: S', σ)
  | _ => none)
 | _ => none
def qdup (pc : Nat) (L : QLoc) (S : List Value) (σ : QHeap) : Option QSt :=
 match S with
 | .int x :: S' => some (pc, L, .int x :: .int x :: S', σ)
 | .ref x :: S' => some (pc, L, .ref x :: .ref x :: S', σ)
 | _ => none
def qdup2 (pc : Nat) (L : QLoc) (S : List Value) (σ : QHeap) : Option QSt :=
 match S with
 | .int x :: .ref y :: S' => some (pc, L, .int x :: .ref y :: .int x :: .ref y :: S', σ)
 | .int x :: .int y :: S' => some (pc, L, .int x :: .int y :: .int x :: .int y :: S', σ)
 | .long x :: S' => some (pc, L, .long x :: .long x :: S', σ)
 | _ => none
def qpop (pc : Nat) (L : QLoc) (S : List Value) (σ : QHeap) : Option QSt :=
 match S with
 | .int _ :: S' => some (pc, L, S', σ)
 | .ref _ :: S' => some (pc, L, S', σ)
 | _ => none
def qif (pc : Nat) (L : QLoc) (S : List Value) (σ : QHeap) (cd : ClassFile.Cond) (tgt : Nat) : Option QSt :=
 match S with
 | .int x :: S' => some (bif ifCond.holds cd x then tgt else pc, L, S', σ)
 | _ => none
def qicmp (pc : Nat) (L : QLoc) (S : List Value) (σ : QHeap) (cd : ClassFile.Cond) (tgt : Nat) : Option QSt :=
 match S with
 | .int y :: .int x :: S' => some (bif if_icmp.holds cd x y then tgt else pc, L, S', σ)
 | _ => none
def qinc (pc : Nat) (L : QLoc) (S : List Value) (σ : QHeap) (k : Nat) (i : Int) : Option QSt :=
 match lget L k with
 | some (.int x) => (match lput L k (.int (x + Int32.ofInt i)) with | some L' => some (pc, L', S, σ) | none => none)
 | _ => none
def qldc (pc : Nat) (L : QLoc) (S : List Value) (σ : QHeap) (k : Nat) : Option QSt :=
 match vget cK k with
 | some v => some (pc, L, v :: S, σ)
 | none => none
def qexec (pc : Nat) (L : QLoc) (S : List Value) (σ : QHeap) (aux : Nat) : Instr → Option QSt
 | .aload_n k => qload (pc + 1) L S σ k.val isR
 | .aload k => qload (pc + 2) L S σ k isR
 | .iload_n k => qload (pc + 1) L S σ k.val isI
 | .iload k => qload (pc + 2) L S σ k isI
 | .lload_n k => qload (pc + 1) L S σ k.val isJ
 | .lload k => qload (pc + 2) L S σ k isJ
 | .iconst i => some (pc + 1, L, .int (Int32.ofInt i) :: S, σ)
 | .bipush i => some (pc + 2, L, .int (Int8.ofInt i).toInt32 :: S, σ)
 | .sipush i => some (pc + 3, L, .int (Int16.ofInt i).toInt32 :: S, σ)
 | .lconst k => some (pc + 1, L, .long (Int64.ofNat k.val) :: S, σ)
 | .ldc _ => qldc (pc + 2) L S σ aux
 | .ldc2_w _ => qldc (pc + 3) L S σ aux
 | .istore_n k => qstore (pc + 1) L S σ k.val isI
 | .istore k => qstore (pc + 2) L S σ k isI
 | .lstore_n k => qstore (pc + 1) L S σ k.val isJ
 | .lstore k => qstore (pc + 2) L S σ k isJ
 | .astore_n k => qstore (pc + 1) L S σ k.val isR
 | .astore k => qstore (pc + 2) L S σ k isR
 | .iinc k i => qinc (pc + 3) L S σ k i
 | .iadd => qbin (pc + 1) L S σ fun x y => x + y
 | .isub => qbin (pc + 1) L S σ fun x y => x - y
 | .imul => qbin (pc + 1) L S σ fun x y => x * y
 | .iand => qbin (pc + 1) L S σ fun x y => x &&& y
 | .ior => qbin (pc + 1) L S σ fun x y => x ||| y
 | .ixor => qbin (pc + 1) L S σ fun x y => x ^^^ y
 | .ishl => qbin (pc + 1) L S σ fun x y => x <<< (y &&& 31)
 | .ishr => qbin (pc + 1) L S σ fun x y => x >>> (y &&& 31)
 | .iushr => qbin (pc + 1) L S σ fun x y => XT.ushr x y
 | .idiv => qbino (pc + 1) L S σ qdiv
 | .irem => qbino (pc + 1) L S σ qrem
 | .ineg => quni (pc + 1) L S σ fun x => .int (-x)
 | .i2l => quni (pc + 1) L S σ fun x => .long x.toInt64
 | .i2b => quni (pc + 1) L S σ fun x => .int x.toInt8.toInt32
 | .l2i => quniJ (pc + 1) L S σ fun x => .int x.toInt32
 | .lneg => quniJ (pc + 1) L S σ fun x => .long (-x)
 | .ladd => qbinJ (pc + 1) L S σ fun x y => x + y
 | .lsub => qbinJ (pc + 1) L S σ fun x y => x - y
 | .lmul => qbinJ (pc + 1) L S σ fun x y => x * y
 | .land => qbinJ (pc + 1) L S σ fun x y => x &&& y
 | .lor => qbinJ (pc + 1) L S σ fun x y => x ||| y
 | .lxor => qbinJ (pc + 1) L S σ fun x y => x ^^^ y
 | .lshl => qshJ (pc + 1) L S σ fun x y => x <<< (y.toInt64 &&& 63)
 | .lshr => qshJ (pc + 1) L S σ fun x y => x >>> (y.toInt64 &&& 63)
 | .lushr => qshJ (pc + 1) L S σ fun x y => XT.ushrL x y
 | .lcmp => (match S with
  | .long y :: .long x :: S' => some (pc + 1, L, .int (XT.cmpL x y) :: S', σ)
  | _ => none)
 | .goto _ => some (aux, L, S, σ)
 | .ifCond cd _ => qif (pc + 3) L S σ cd aux
 | .if_icmp cd _ => qicmp (pc + 3) L S σ cd aux
 | .dup => qdup (pc + 1) L S σ
 | .dup2 => qdup2 (pc + 1) L S σ
 | .pop => qpop (pc + 1) L S σ
 | .getfield _ => qget (pc + 3) L S σ aux
 | .putfield _ => qput (pc + 3) L S σ aux
 | .iaload => qald (pc + 1) L S σ tyI
 | .baload => qald (pc + 1) L S σ tyB
 | .laload => qaldJ (pc + 1) L S σ
 | .iastore => qast (pc + 1) L S σ tyI
 | .bastore => qast (pc + 1) L S σ tyB
 | .lastore => qastJ (pc + 1) L S σ
 | .arraylength => qlen (pc + 1) L S σ
 | .newarray t => qnewA (pc + 2) L S σ t
 | .new _ => some (pc + 3, L, .ref σ.length :: S, σ ++ [.inl cDef])
 | _ => none
def qstep (m : Nat) (st : QSt) : Option QSt :=
 match pCode m st.1 with
 | some (i, aux) => qexec st.1 st.2.1 st.2.2.1 st.2.2.2 aux i
 | none => none
def qsteps (m : Nat) : Nat → QSt → Option QSt
 | 0, st => some st
 | n + 1, st => match qstep m st with | some st' => qsteps m n st' | none => none
def qentry (args : List Value) (mx : Nat) : QLoc := (args.flatMap fun v => match v with | .long x => [some (.long x), none] | .double x => [some (.double x), none] | v => [some v]) ++ List.replicate (mx - (args.map fun v => v.category).sum) none
def ilen : Instr → Nat
 | .aload _ | .iload _ | .lload _ | .istore _ | .lstore _ | .astore _ | .bipush _ | .ldc _ | .newarray _ => 2
 | .sipush _ | .ldc2_w _ | .iinc _ _ | .goto _ | .ifCond _ _ | .if_icmp _ _ | .getfield _ | .putfield _ | .new _ | .invokevirtual _ | .invokespecial _ | .invokestatic _ => 3
 | _ => 1
def qtgt (pc : Nat) (o : Int) (aux : Nat) : Bool := decide (0 ≤ (pc : Int) + o) && decide (((pc : Int) + o).toNat = aux)
def qlk (m pc : Nat) (i : Instr) (aux : Nat) : Bool :=
 match i with
 | .goto o => qtgt pc o aux
 | .ifCond _ o => qtgt pc o aux
 | .if_icmp _ o => qtgt pc o aux
 | .getfield idx => lkF.contains (pK m, idx, aux)
 | .putfield idx => lkF.contains (pK m, idx, aux) && (!fFin aux || (pK m == 1 && pNm m == "<init>"))
 | .new idx => lkN.contains (pK m, idx)
 | .newarray t => aTys.contains (newarray.typeOf t)
 | .ldc idx => lkC.contains (pK m, idx, aux)
 | .ldc2_w idx => lkD.contains (pK m, idx, aux)
 | _ => true
def qchk (m pc : Nat) (i : Instr) (aux : Nat) : Bool := decide (decode (pBytes m) pc = .ok (i, ilen i)) && qlk m pc i aux
def QCellOk (Z : State) (ad : Nat → Addr) (h : Heap) (a : Addr) : QCell → Prop
 | .inl vs => Exa Z h a cName ∧ vs.length = nF ∧ ∀ (k : Nat) (v : Value), k < nF → vget vs k = some v → Fld Z h a cName (fNm k) (fDs k) (qv ad v)
 | .inr (.inl x) => ∃ c : Cell, Arr Z h a c x.1 ∧ c.slots = (x.2.map Value.int).toArray
 | .inr (.inr x) => ∃ c : Cell, Arr Z h a c .long ∧ c.slots = (x.map Value.long).toArray
def QAd (n0 : Nat) (ad : Nat → Addr) : Prop := (∀ k, k0 ≤ k → ad k = n0 + (k - k0)) ∧ ∀ i j, ad i = ad j → i = j
def QRep (Z : State) (n0 : Nat) (ad : Nat → Addr) (h : Heap) (σ : QHeap) : Prop := k0 ≤ σ.length ∧ h.size = n0 + (σ.length - k0) ∧ ∀ k c, hget σ k = some c → QCellOk Z ad h (ad k) c
def QLocOk (ad : Nat → Addr) (L : QLoc) (C : Array Slot) : Prop :=
 L.length = C.size ∧ (∀ k v, lget L k = some v → C[k]? = some (.val (qv ad v))) ∧ (∀ k w, C[k]? = some (.val w) → w.category = 2 → C[k + 1]? = some .second) ∧ ∀ k, C[k]? = some .second → ∃ j w, k = j + 1 ∧ C[j]? = some (.val w) ∧ w.category = 2
def QW (Z : State) (a0 : Array Value) : Prop :=
 (∀ t ∈ lkF, (Cond.fieldLink (kName t.1) t.2.1 cName (fNm t.2.2) (fDs t.2.2)).before a0 Z = true) ∧
 (∀ t ∈ lkN, (Cond.classLink (kName t.1) t.2 cName).before a0 Z = true) ∧
 (∀ t ∈ lkC, ∃ v, vget cK t.2.2 = some (.int v) ∧ (Cond.constant (kName t.1) t.2.1 v).before a0 Z = true) ∧
 (∀ t ∈ lkD, ∃ v, vget cK t.2.2 = some (.long v) ∧ (Cond.constantLong (kName t.1) t.2.1 v).before a0 Z = true) ∧
 (∀ t ∈ lkV, (Cond.methodLink (kName t.1) t.2.1 (pName t.2.2)).before a0 Z = true) ∧
 (∀ t ∈ lkO, (Cond.methodLink (kName t.1) t.2 Lib.objectInit).before a0 Z = true) ∧
 (∀ m ∈ mV, (Cond.declares (pName m)).before a0 Z = true ∧ (Cond.selects cName (pName m) (pName m)).before a0 Z = true ∧ (Cond.instanceMethod (pName m)).before a0 Z = true) ∧
 (∀ m ∈ mP, (Cond.instanceMethod (pName m)).before a0 Z = true ∧ (Cond.privateMethod (pName m)).before a0 Z = true) ∧
 (∀ m ∈ mS, (Cond.static (pName m)).before a0 Z = true) ∧
 (∀ m ∈ mI, (Cond.instanceMethod (pName m)).before a0 Z = true) ∧
 (∀ m ∈ mA, (Cond.code (pName m) (pBytes m) (pMaxL m) (pRet m)).before a0 Z = true ∧ (Cond.initialized (kName (pK m))).before a0 Z = true) ∧
 (Cond.instanceMethod Lib.objectInit).before a0 Z = true ∧ (Cond.code Lib.objectInit ⟨#[0xb1]⟩ 1 none).before a0 Z = true ∧
 (∀ k, k < nF → bif fFin k then (Cond.laysFinal cName cName (fNm k) (fDs k)).before a0 Z = true else (Cond.lays cName cName (fNm k) (fDs k)).before a0 Z = true) ∧
 (Cond.instantiable cName cN).before a0 Z = true ∧ (Cond.initialized cName).before a0 Z = true ∧
 ∀ ty ∈ aTys, (Cond.arrayClass ty).before a0 Z = true
section Words
variable {Z : State} {a0 : Array Value}
theorem qw_fl (W : QW Z a0) : ∀ t ∈ lkF, (Cond.fieldLink (kName t.1) t.2.1 cName (fNm t.2.2) (fDs t.2.2)).before a0 Z = true := W.1
theorem qw_nw (W : QW Z a0) : ∀ t ∈ lkN, (Cond.classLink (kName t.1) t.2 cName).before a0 Z = true := W.2.1
theorem qw_cI (W : QW Z a0) : ∀ t ∈ lkC, ∃ v, vget cK t.2.2 = some (.int v) ∧ (Cond.constant (kName t.1) t.2.1 v).before a0 Z = true := W.2.2.1
theorem qw_cJ (W : QW Z a0) : ∀ t ∈ lkD, ∃ v, vget cK t.2.2 = some (.long v) ∧ (Cond.constantLong (kName t.1) t.2.1 v).before a0 Z = true := W.2.2.2.1
theorem qw_ml (W : QW Z a0) : ∀ t ∈ lkV, (Cond.methodLink (kName t.1) t.2.1 (pName t.2.2)).before a0 Z = true := W.2.2.2.2.1
theorem qw_mo (W : QW Z a0) : ∀ t ∈ lkO, (Cond.methodLink (kName t.1) t.2 Lib.objectInit).before a0 Z = true := W.2.2.2.2.2.1
theorem qw_vi (W : QW Z a0) : ∀ m ∈ mV, (Cond.declares (pName m)).before a0 Z = true ∧ (Cond.selects cName (pName m) (pName m)).before a0 Z = true ∧ (Cond.instanceMethod (pName m)).before a0 Z = true := W.2.2.2.2.2.2.1
theorem qw_pr (W : QW Z a0) : ∀ m ∈ mP, (Cond.instanceMethod (pName m)).before a0 Z = true ∧ (Cond.privateMethod (pName m)).before a0 Z = true := W.2.2.2.2.2.2.2.1
theorem qw_st (W : QW Z a0) : ∀ m ∈ mS, (Cond.static (pName m)).before a0 Z = true := W.2.2.2.2.2.2.2.2.1
theorem qw_ini (W : QW Z a0) : ∀ m ∈ mI, (Cond.instanceMethod (pName m)).before a0 Z = true := W.2.2.2.2.2.2.2.2.2.1
theorem qw_cod (W : QW Z a0) : ∀ m ∈ mA, (Cond.code (pName m) (pBytes m) (pMaxL m) (pRet m)).before a0 Z = true ∧ (Cond.initialized (kName (pK m))).before a0 Z = true := W.2.2.2.2.2.2.2.2.2.2.1
theorem qw_oi (W : QW Z a0) : (Cond.instanceMethod Lib.objectInit).before a0 Z = true := W.2.2.2.2.2.2.2.2.2.2.2.1
theorem qw_oc (W : QW Z a0) : (Cond.code Lib.objectInit ⟨#[0xb1]⟩ 1 none).before a0 Z = true := W.2.2.2.2.2.2.2.2.2.2.2.2.1
theorem qw_lay (W : QW Z a0) : ∀ k, k < nF → bif fFin k then (Cond.laysFinal cName cName (fNm k) (fDs k)).before a0 Z = true else (Cond.lays cName cName (fNm k) (fDs k)).before a0 Z = true := W.2.2.2.2.2.2.2.2.2.2.2.2.2.1
theorem qw_inst (W : QW Z a0) : (Cond.instantiable cName cN).before a0 Z = true := W.2.2.2.2.2.2.2.2.2.2.2.2.2.2.1
theorem qw_init (W : QW Z a0) : (Cond.initialized cName).before a0 Z = true := W.2.2.2.2.2.2.2.2.2.2.2.2.2.2.2.1
theorem qw_arr (W : QW Z a0) : ∀ ty ∈ aTys, (Cond.arrayClass ty).before a0 Z = true := W.2.2.2.2.2.2.2.2.2.2.2.2.2.2.2.2
end Words
theorem hget_eq : ∀ (σ : QHeap) k, hget σ k = σ[k]?
 | [], _ => by simp [hget]
 | _ :: _, 0 => by simp [hget]
 | _ :: t, k + 1 => by simp [hget, hget_eq t k]
theorem vget_eq : ∀ (σ : List Value) k, vget σ k = σ[k]?
 | [], _ => by simp [vget]
 | _ :: _, 0 => by simp [vget]
 | _ :: t, k + 1 => by simp [vget, vget_eq t k]
theorem lget_eq : ∀ (L : QLoc) k, lget L k = (L[k]?).getD none
 | [], _ => by simp [lget]
 | _ :: _, 0 => by simp [lget]
 | _ :: t, k + 1 => by simp [lget, lget_eq t k]
theorem lget_lt {L : QLoc} {k : Nat} {v : Value} (h : lget L k = some v) : k < L.length := by
 rw [lget_eq] at h
 rcases Nat.lt_or_ge k L.length with q | q
 ·exact q
 ·simp [List.getElem?_eq_none q] at h
theorem lget_set {L : QLoc} {k j : Nat} {o : Option Value} (hk : k < L.length) : lget (L.set k o) j = if j = k then o else lget L j := by
 simp only [lget_eq, List.getElem?_set]
 by_cases e : k = j
 ·subst e; simp [hk]
 ·simp [e, Ne.symm e]
theorem qhs_app (σ τ : QHeap) : qhs (σ ++ τ) = qhs σ + qhs τ := by
 induction σ with
 | nil => simp [qhs]
 | cons c t ih => simp [qhs, ih, Nat.add_assoc]
theorem qhs_set {σ : QHeap} {k : Nat} {c d : QCell} (h : hget σ k = some c) (hs : qsz d = qsz c) : qhs (σ.set k d) = qhs σ := by
 induction σ generalizing k with
 | nil => simp [hget] at h
 | cons x t ih =>
  cases k with
  | zero => simp only [hget, Option.some.injEq] at h; subst h; simp [qhs, hs]
  | succ k => simp only [hget] at h; simp [qhs, ih h]
theorem hget_set {σ : QHeap} {k j : Nat} {c d : QCell} (h : hget σ k = some c) : hget (σ.set k d) j = if j = k then some d else hget σ j := by
 rw [hget_eq] at h
 have hk := (List.getElem?_eq_some_iff.mp h).1
 simp only [hget_eq, List.getElem?_set]
 by_cases e : k = j
 ·subst e; simp [hk]
 ·simp [e, Ne.symm e]
theorem lkill_len (L : QLoc) (k : Nat) : (lkill L k).length = L.length := by
 cases k with
 | zero => rfl
 | succ k => simp only [lkill]; split <;> simp
theorem lget_kill {L : QLoc} {k j : Nat} {v : Value} (h : lget (lkill L k) j = some v) : lget L j = some v ∧ (k = j + 1 → v.category ≠ 2) := by
 cases k with
 | zero => exact ⟨h, fun e => by omega⟩
 | succ k =>
  simp only [lkill] at h
  split at h
  ·rename_i x q
   rw [lget_set (lget_lt q)] at h
   split at h
   ·cases h
   ·rename_i ne; exact ⟨h, fun e => absurd (by omega) ne⟩
  ·rename_i x q
   rw [lget_set (lget_lt q)] at h
   split at h
   ·cases h
   ·rename_i ne; exact ⟨h, fun e => absurd (by omega) ne⟩
  ·rename_i q1 q2
   refine ⟨h, fun e hc => ?_⟩
   obtain rfl : j = k := by omega
   cases v with
   | long x => exact q1 _ h
   | double x => exact q2 _ h
   | _ => simp [Value.category] at hc
theorem qv_cat (ad : Nat → Addr) (v : Value) : (qv ad v).category = v.category := by cases v <;> rfl
def kA (C : Array Slot) (k j : Nat) : Prop := k = j + 1 ∧ C[k]? = some .second
def kB (C : Array Slot) (k j : Nat) : Prop := j = k + 1 ∧ ∃ u, C[k]? = some (.val u) ∧ u.category = 2
def kD (C : Array Slot) (k j : Nat) : Prop := j = k + 2 ∧ ∃ u, C[k + 1]? = some (.val u) ∧ u.category = 2
theorem set1_at {C D : Array Slot} {k : Nat} {w : Value} (hk : k < C.size) (hw : w.category = 1) (h : storeLocals C k w = some D) :
  D.size = C.size ∧ D[k]? = some (.val w) ∧ ∀ j, j ≠ k → (D[j]? = C[j]? ∧ ¬ kA C k j ∧ ¬ kB C k j) ∨ D[j]? = some .unset ∧ (kA C k j ∨ kB C k j) := by
 have hck : C[k]? = some C[k] := Array.getElem?_eq_getElem hk
 unfold storeLocals at h
 simp only [hck, Option.bind_eq_bind, Option.bind_some] at h
 have self : ∀ {E : Array Slot}, k < E.size → storeSelf E k w = some D → D = E.setIfInBounds k (.val w) := by
  intro E hE q
  simp only [storeSelf, setAt, hE, if_true, Option.bind_eq_bind, Option.bind_some, hw] at q
  simpa using q.symm
 split at h
 ·rename_i q
  have hk1 : k - 1 < C.size := by omega
  simp only [setAt, hk1, if_true, Option.bind_some] at h
  have e := self (by simpa using hk) h
  subst e
  refine ⟨by simp, by simp [hk], fun j hj => ?_⟩
  by_cases ej : k = j + 1
  ·refine Or.inr ⟨?_, Or.inl ⟨ej, by rw [hck, q]⟩⟩
   rw [Array.getElem?_setIfInBounds_ne (Ne.symm hj), show j = k - 1 by omega]
   simp [hk1]
  ·refine Or.inl ⟨?_, fun x => ej x.1, fun x => ?_⟩
   ·rw [Array.getElem?_setIfInBounds_ne (Ne.symm hj), Array.getElem?_setIfInBounds_ne (by omega)]
   ·obtain ⟨-, u, x1, -⟩ := x
    rw [hck, q] at x1; cases x1
 ·rename_i u q
  split at h
  ·rename_i hu
   by_cases hk1 : k + 1 < C.size
   ·simp only [setAt, hk1, if_true, Option.bind_some] at h
    have e := self (by simpa using hk) h
    subst e
    refine ⟨by simp, by simp [hk], fun j hj => ?_⟩
    by_cases ej : j = k + 1
    ·refine Or.inr ⟨?_, Or.inr ⟨ej, u, by rw [hck, q], hu⟩⟩
     rw [Array.getElem?_setIfInBounds_ne (Ne.symm hj), ej]
     simp [hk1]
    ·refine Or.inl ⟨?_, fun x => ?_, fun x => ej x.1⟩
     ·rw [Array.getElem?_setIfInBounds_ne (Ne.symm hj), Array.getElem?_setIfInBounds_ne (by omega)]
     ·obtain ⟨-, x1⟩ := x
      rw [hck, q] at x1; cases x1
   ·simp [setAt, hk1] at h
  ·rename_i hu
   have e := self hk h
   subst e
   refine ⟨by simp, by simp [hk], fun j hj => Or.inl ⟨Array.getElem?_setIfInBounds_ne (Ne.symm hj), fun x => ?_, fun x => ?_⟩⟩
   ·obtain ⟨-, x1⟩ := x
    rw [hck, q] at x1; cases x1
   ·obtain ⟨-, u', x1, x2⟩ := x
    rw [hck, q] at x1; cases x1; exact hu x2
 ·rename_i q
  have e := self hk h
  subst e
  refine ⟨by simp, by simp [hk], fun j hj => Or.inl ⟨Array.getElem?_setIfInBounds_ne (Ne.symm hj), fun x => ?_, fun x => ?_⟩⟩
  ·obtain ⟨-, x1⟩ := x
   rw [hck, q] at x1; cases x1
  ·obtain ⟨-, u', x1, x2⟩ := x
   rw [hck, q] at x1; cases x1
theorem set2_at {C D : Array Slot} {k : Nat} {w : Value} (hk : k + 1 < C.size) (hw : w.category = 2) (wf : ∀ k w, C[k]? = some (.val w) → w.category = 2 → C[k + 1]? = some .second) (h : storeLocals C k w = some D) :
  D.size = C.size ∧ D[k]? = some (.val w) ∧ D[k + 1]? = some .second ∧ ∀ j, j ≠ k → j ≠ k + 1 → (D[j]? = C[j]? ∧ ¬ kA C k j ∧ ¬ kD C k j) ∨ D[j]? = some .unset ∧ (kA C k j ∨ kD C k j) := by
 have hk0 : k < C.size := by omega
 have hck : C[k]? = some C[k] := Array.getElem?_eq_getElem hk0
 unfold storeLocals at h
 simp only [hck, Option.bind_eq_bind, Option.bind_some] at h
 have self : ∀ {E : Array Slot}, E.size = C.size → storeSelf E k w = some D → D.size = C.size ∧ D[k]? = some (.val w) ∧ D[k + 1]? = some .second ∧ ∀ j, j ≠ k → j ≠ k + 1 → (D[j]? = E[j]? ∧ ¬ kD E k j) ∨ D[j]? = some .unset ∧ kD E k j := by
  intro E hs q
  have h1 : k < E.size := by omega
  have h2 : k + 1 < E.size := by omega
  have h3 : (E.setIfInBounds k (.val w))[k + 1]? = some E[k + 1] := by rw [Array.getElem?_setIfInBounds_ne (by omega)]; exact Array.getElem?_eq_getElem h2
  simp only [storeSelf, setAt, h1, if_true, Option.bind_eq_bind, Option.bind_some, hw, h3] at q
  have plain : (¬ ∃ u, E[k + 1]? = some (.val u) ∧ u.category = 2) → some ((E.setIfInBounds k (.val w)).setIfInBounds (k + 1) .second) = some D → D.size = C.size ∧ D[k]? = some (.val w) ∧ D[k + 1]? = some .second ∧ ∀ j, j ≠ k → j ≠ k + 1 → (D[j]? = E[j]? ∧ ¬ kD E k j) ∨ D[j]? = some .unset ∧ kD E k j := by
   intro no q
   cases q
   refine ⟨by simp [hs], ?_, ?_, fun j hj hj1 => Or.inl ⟨?_, fun x => no x.2⟩⟩
   ·rw [Array.getElem?_setIfInBounds_ne (by omega)]; simp [h1]
   ·simp [h2]
   ·rw [Array.getElem?_setIfInBounds_ne (by omega), Array.getElem?_setIfInBounds_ne (by omega)]
  split at q
  ·rename_i u hu
   split at q
   ·rename_i hu2
    by_cases h5 : k + 2 < E.size
    ·simp [h5, h2] at q
     cases q
     refine ⟨by simp [hs], ?_, ?_, fun j hj hj1 => ?_⟩
     ·rw [Array.getElem?_setIfInBounds_ne (by omega), Array.getElem?_setIfInBounds_ne (by omega)]; simp [h1]
     ·simp [h2]
     ·by_cases e : j = k + 2
      ·refine Or.inr ⟨?_, e, u, by rw [Array.getElem?_eq_getElem h2, hu], hu2⟩
       rw [Array.getElem?_setIfInBounds_ne (by omega), e]
       simp [h5]
      ·refine Or.inl ⟨?_, fun x => e x.1⟩
       rw [Array.getElem?_setIfInBounds_ne (by omega), Array.getElem?_setIfInBounds_ne (by omega), Array.getElem?_setIfInBounds_ne (by omega)]
    ·simp [h5] at q
   ·rename_i hu2
    refine plain ?_ (by simpa [h2] using q)
    rintro ⟨u', x1, x2⟩
    rw [Array.getElem?_eq_getElem h2, hu] at x1; cases x1; exact hu2 x2
  ·rename_i hu
   refine plain ?_ (by simpa [h2] using q)
   rintro ⟨u', x1, x2⟩
   rw [Array.getElem?_eq_getElem h2] at x1; exact hu _ (Option.some.inj x1)
 split at h
 ·rename_i q
  have hk1 : k - 1 < C.size := by omega
  simp only [setAt, hk1, if_true, Option.bind_some] at h
  obtain ⟨e1, e2, e3, e4⟩ := self (by simp) h
  refine ⟨e1, e2, e3, fun j hj hj1 => ?_⟩
  have h6 : ∀ i, i + 1 ≠ k ∨ k = 0 → i ≠ k ∨ k ≠ 0 → (C.setIfInBounds (k - 1) Slot.unset)[i]? = C[i]? := fun i hi hi2 => Array.getElem?_setIfInBounds_ne (by omega)
  have h7 : (C.setIfInBounds (k - 1) Slot.unset)[k + 1]? = C[k + 1]? := Array.getElem?_setIfInBounds_ne (by omega)
  rcases e4 j hj hj1 with ⟨r, r'⟩ | ⟨r, r1, u, r2, r3⟩
  ·by_cases ej : k = j + 1
   ·refine Or.inr ⟨?_, Or.inl ⟨ej, by rw [hck, q]⟩⟩
    rw [r, show j = k - 1 by omega]; simp [hk1]
   ·refine Or.inl ⟨by rw [r]; exact h6 _ (by omega) (by omega), fun x => ej x.1, fun x => r' ⟨x.1, ?_⟩⟩
    rw [h7]; exact x.2
  ·exact Or.inr ⟨r, Or.inr ⟨r1, u, by rw [← h7]; exact r2, r3⟩⟩
 ·rename_i u q
  split at h
  ·rename_i hu
   simp only [setAt, hk, if_true, Option.bind_some] at h
   obtain ⟨e1, e2, e3, e4⟩ := self (by simp) h
   have hsec := wf k u (by rw [hck, q]) hu
   refine ⟨e1, e2, e3, fun j hj hj1 => ?_⟩
   rcases e4 j hj hj1 with ⟨r, r'⟩ | ⟨r, r1, u', r2, r3⟩
   ·refine Or.inl ⟨by rw [r]; exact Array.getElem?_setIfInBounds_ne (by omega), fun x => ?_, fun x => ?_⟩
    ·obtain ⟨-, x1⟩ := x
     rw [hck, q] at x1; cases x1
    ·obtain ⟨-, u', x1, x2⟩ := x
     rw [hsec] at x1; cases x1
   ·simp [hk] at r2
  ·rename_i hu
   obtain ⟨e1, e2, e3, e4⟩ := self rfl h
   refine ⟨e1, e2, e3, fun j hj hj1 => ?_⟩
   rcases e4 j hj hj1 with ⟨r, r'⟩ | ⟨r, r'⟩
   ·refine Or.inl ⟨r, fun x => ?_, r'⟩
    obtain ⟨-, x1⟩ := x
    rw [hck, q] at x1; cases x1
   ·exact Or.inr ⟨r, Or.inr r'⟩
 ·rename_i q
  obtain ⟨e1, e2, e3, e4⟩ := self rfl h
  refine ⟨e1, e2, e3, fun j hj hj1 => ?_⟩
  rcases e4 j hj hj1 with ⟨r, r'⟩ | ⟨r, r'⟩
  ·refine Or.inl ⟨r, fun x => ?_, r'⟩
   obtain ⟨-, x1⟩ := x
   rw [hck, q] at x1; cases x1
  ·exact Or.inr ⟨r, Or.inr r'⟩
theorem store_some {C : Array Slot} {k : Nat} {w : Value} (hk : k + (w.category - 1) < C.size) (hc : w.category = 1 ∨ w.category = 2) (wf : ∀ k w, C[k]? = some (.val w) → w.category = 2 → C[k + 1]? = some .second) :
  ∃ D, storeLocals C k w = some D := by
 have hk0 : k < C.size := by omega
 have hck : C[k]? = some C[k] := Array.getElem?_eq_getElem hk0
 have self : ∀ {E : Array Slot}, E.size = C.size → (∀ u, E[k + 1]? = some (.val u) → u.category = 2 → k + 2 < E.size) → ∃ D, storeSelf E k w = some D := by
  intro E hs hn
  have h1 : k < E.size := by omega
  simp only [storeSelf, setAt, h1, if_true, Option.bind_eq_bind, Option.bind_some]
  rcases hc with hc | hc
  ·exact ⟨E.setIfInBounds k (.val w), by simp [hc]⟩
  ·have h2 : k + 1 < E.size := by omega
   have h3 : (E.setIfInBounds k (.val w))[k + 1]? = some E[k + 1] := by rw [Array.getElem?_setIfInBounds_ne (by omega)]; exact Array.getElem?_eq_getElem h2
   simp only [hc, if_true, h3, Option.bind_some]
   split
   ·rename_i u hu
    split
    ·rename_i hu2
     have h5 := hn u (by rw [Array.getElem?_eq_getElem h2, hu]) hu2
     exact ⟨_, by simp [h5, h2]; rfl⟩
    ·exact ⟨_, by simp [h2]; rfl⟩
   ·exact ⟨_, by simp [h2]; rfl⟩
 have next : ∀ u, C[k + 1]? = some (.val u) → u.category = 2 → k + 2 < C.size := fun u h1 h2 => (Array.getElem?_eq_some_iff.mp (wf _ _ h1 h2)).1
 unfold storeLocals
 simp only [hck, Option.bind_eq_bind, Option.bind_some]
 split
 ·have hk1 : k - 1 < C.size := by omega
  simp only [setAt, hk1, if_true, Option.bind_some]
  refine self (by simp) fun u h1 h2 => ?_
  rw [Array.getElem?_setIfInBounds_ne (by omega)] at h1
  simpa using next u h1 h2
 ·rename_i u q
  split
  ·rename_i hu
   have h5 := (Array.getElem?_eq_some_iff.mp (wf k u (by rw [hck, q]) hu)).1
   simp only [setAt, h5, if_true, Option.bind_some]
   refine self (by simp) fun u h1 h2 => ?_
   simp [h5] at h1
  ·exact self rfl next
 ·exact self rfl next
theorem store_ok1 {ad : Nat → Addr} {L : QLoc} {C : Array Slot} {k : Nat} {v : Value} (H : QLocOk ad L C) (hv : v.category = 1) (hk : k < L.length) :
  ∃ D, storeLocals C k (qv ad v) = some D ∧ QLocOk ad ((lkill L k).set k (some v)) D ∧ D.size = C.size := by
 obtain ⟨H1, H2, H3, H4⟩ := H
 have hc : (qv ad v).category = 1 := by rw [qv_cat, hv]
 obtain ⟨D, hD⟩ := store_some (C := C) (k := k) (w := qv ad v) (by rw [hc]; omega) (Or.inl hc) H3
 obtain ⟨d1, d2, d3⟩ := set1_at (by omega) hc hD
 refine ⟨D, hD, ⟨by simp [lkill_len, H1, d1], fun j u hj => ?_, fun j w hj hw => ?_, fun j hj => ?_⟩, d1⟩
 ·rw [lget_set (by rw [lkill_len]; exact hk)] at hj
  split at hj
  ·rename_i e; cases hj; rw [e]; exact d2
  ·rename_i ne
   obtain ⟨g1, g2⟩ := lget_kill hj
   have g3 := H2 j u g1
   rcases d3 j ne with ⟨r, -, -⟩ | ⟨-, ⟨r1, r2⟩ | ⟨r1, w, r2, r3⟩⟩
   ·rw [r]; exact g3
   ·obtain ⟨i, w, z1, z2, z3⟩ := H4 k r2
    obtain rfl : i = j := by omega
    rw [g3] at z2
    cases z2
    rw [qv_cat] at z3
    exact absurd z3 (g2 r1)
   ·have := H3 k w r2 r3
    rw [← r1, g3] at this
    cases this
 ·by_cases e : j = k
  ·subst e; rw [d2] at hj; cases hj; rw [hc] at hw; cases hw
  ·rcases d3 j e with ⟨r, nA, nB⟩ | ⟨r, -⟩
   ·rw [r] at hj
    have g := H3 j w hj hw
    have e2 : j + 1 ≠ k := fun q => nA ⟨q.symm, by rw [← q]; exact g⟩
    rcases d3 (j + 1) e2 with ⟨z, -, -⟩ | ⟨-, ⟨z1, z2⟩ | ⟨z1, -⟩⟩
    ·rw [z]; exact g
    ·obtain ⟨i, u, y1, y2, y3⟩ := H4 k z2
     obtain rfl : i = j + 1 := by omega
     rw [g] at y2; cases y2
    ·omega
   ·rw [r] at hj; cases hj
 ·by_cases e : j = k
  ·subst e; rw [d2] at hj; cases hj
  ·rcases d3 j e with ⟨r, nA, nB⟩ | ⟨r, -⟩
   ·rw [r] at hj
    obtain ⟨i, w, y1, y2, y3⟩ := H4 j hj
    refine ⟨i, w, y1, ?_, y3⟩
    have ei : i ≠ k := fun q => nB ⟨by omega, w, by rw [← q]; exact y2, y3⟩
    rcases d3 i ei with ⟨z, -, -⟩ | ⟨-, ⟨z1, z2⟩ | ⟨z1, u, z2, z3⟩⟩
    ·rw [z]; exact y2
    ·omega
    ·have := H3 k u z2 z3
     rw [← z1, y2] at this; cases this
   ·rw [r] at hj; cases hj
theorem store_ok2 {ad : Nat → Addr} {L : QLoc} {C : Array Slot} {k : Nat} {x : Int64} (H : QLocOk ad L C) (hk : k + 1 < L.length) :
  ∃ D, storeLocals C k (.long x) = some D ∧ QLocOk ad (((lkill L k).set k (some (.long x))).set (k + 1) none) D ∧ D.size = C.size := by
 obtain ⟨H1, H2, H3, H4⟩ := H
 have hc : (Value.long x).category = 2 := rfl
 obtain ⟨D, hD⟩ := store_some (C := C) (k := k) (w := .long x) (by rw [hc]; omega) (Or.inr hc) H3
 obtain ⟨d1, d2, d2', d3⟩ := set2_at (by omega) hc H3 hD
 refine ⟨D, hD, ⟨by simp [lkill_len, H1, d1], fun j u hj => ?_, fun j w hj hw => ?_, fun j hj => ?_⟩, d1⟩
 ·rw [lget_set (by simp [lkill_len]; exact hk)] at hj
  split at hj
  ·cases hj
  ·rename_i ne1
   rw [lget_set (by rw [lkill_len]; omega)] at hj
   split at hj
   ·rename_i e; cases hj; rw [e]; exact d2
   ·rename_i ne
    obtain ⟨g1, g2⟩ := lget_kill hj
    have g3 := H2 j u g1
    rcases d3 j ne ne1 with ⟨r, -, -⟩ | ⟨-, ⟨r1, r2⟩ | ⟨r1, w, r2, r3⟩⟩
    ·rw [r]; exact g3
    ·obtain ⟨i, w, z1, z2, z3⟩ := H4 k r2
     obtain rfl : i = j := by omega
     rw [g3] at z2
     cases z2
     rw [qv_cat] at z3
     exact absurd z3 (g2 r1)
    ·have := H3 (k + 1) w r2 r3
     rw [show k + 1 + 1 = j by omega, g3] at this
     cases this
 ·by_cases e : j = k
  ·rw [e]; exact d2'
  ·by_cases e1 : j = k + 1
   ·rw [e1, d2'] at hj; cases hj
   ·rcases d3 j e e1 with ⟨r, nA, nB⟩ | ⟨r, -⟩
    ·rw [r] at hj
     have g := H3 j w hj hw
     have e2 : j + 1 ≠ k := fun q => nA ⟨q.symm, by rw [← q]; exact g⟩
     rcases d3 (j + 1) e2 (by omega) with ⟨z, -, -⟩ | ⟨-, ⟨z1, z2⟩ | ⟨z1, -⟩⟩
     ·rw [z]; exact g
     ·obtain ⟨i, u, y1, y2, y3⟩ := H4 k z2
      obtain rfl : i = j + 1 := by omega
      rw [g] at y2; cases y2
     ·omega
    ·rw [r] at hj; cases hj
 ·by_cases e : j = k
  ·rw [e, d2] at hj; cases hj
  ·by_cases e1 : j = k + 1
   ·exact ⟨k, _, e1, d2, hc⟩
   ·rcases d3 j e e1 with ⟨r, nA, nB⟩ | ⟨r, -⟩
    ·rw [r] at hj
     obtain ⟨i, w, y1, y2, y3⟩ := H4 j hj
     refine ⟨i, w, y1, ?_, y3⟩
     have ei : i ≠ k := fun q => e1 (by omega)
     have ei1 : i ≠ k + 1 := fun q => nB ⟨by omega, w, by rw [← q]; exact y2, y3⟩
     rcases d3 i ei ei1 with ⟨z, -, -⟩ | ⟨-, ⟨z1, z2⟩ | ⟨z1, u, z2, z3⟩⟩
     ·rw [z]; exact y2
     ·omega
     ·have := H3 (k + 1) u z2 z3
      rw [show k + 1 + 1 = i by omega, y2] at this; cases this
    ·rw [r] at hj; cases hj
theorem store_ok {ad : Nat → Addr} {L L' : QLoc} {C : Array Slot} {k : Nat} {v : Value} (H : QLocOk ad L C) (h : lput L k v = some L') :
  ∃ D, storeLocals C k (qv ad v) = some D ∧ QLocOk ad L' D ∧ D.size = C.size := by
 have one : v.category = 1 → (bif Nat.ble (k + 1) L.length then some ((lkill L k).set k (some v)) else none) = some L' → ∃ D, storeLocals C k (qv ad v) = some D ∧ QLocOk ad L' D ∧ D.size = C.size := by
  intro hv h
  cases hb : Nat.ble (k + 1) L.length with
  | false => rw [hb] at h; cases h
  | true => rw [hb] at h; cases h; exact store_ok1 H hv (Nat.le_of_ble_eq_true hb)
 cases v with
 | long x =>
  simp only [lput] at h
  cases hb : Nat.ble (k + 2) L.length with
  | false => rw [hb] at h; cases h
  | true => rw [hb] at h; cases h; exact store_ok2 H (Nat.le_of_ble_eq_true hb)
 | double x => simp [lput] at h
 | int x => exact one rfl h
 | float x => exact one rfl h
 | null => exact one rfl h
 | ref x => exact one rfl h
 | retAddr x => exact one rfl h
theorem fInj : ∀ i, i < nF → ∀ j, j < nF → fNm i = fNm j → i = j := by decide +kernel
theorem fPrs : ∀ i, i < nF → parseFieldDescriptor (fDs i) = some (fTy i) := by decide +kernel
theorem cDefs : ∀ i, i < nF → vget cDef i = some (defaultValue (fTy i)) := by decide +kernel
theorem cDefL : cDef.length = nF := by decide +kernel
theorem fDef : ∀ i, i < nF → ∀ a, defaultValue (fTy i) ≠ .ref a := by
 intro i _ a
 cases fTy i <;> simp [defaultValue]
theorem kPlain : ∀ k, k < 2 → plainName (kName k) = true := by
 intro k hk
 rcases k with _ | _ | k
 ·first | decide +kernel | (simp [kName, plainName, overriddenIn]; done)
 ·first | decide +kernel | (simp [kName, plainName, overriddenIn]; done)
 ·omega
theorem pKlt : ∀ m, m < pN → pK m < 2 := by decide +kernel
theorem pSig : ∀ m, m < pN → (parseMethodDescriptor (pDs m)).map (fun sg => sg.parameters.length) = some (pNA m) := by decide +kernel
theorem pOwn : ∀ k, k < 2 → kName k ≠ "java/lang/invoke/MethodHandle" ∧ kName k ≠ "java/lang/invoke/VarHandle" := by decide +kernel
theorem mAlt : ∀ m ∈ mA, m < pN := by decide +kernel
theorem mVlt : ∀ m ∈ mV, m ∈ mA ∧ pK m = 1 := by decide +kernel
theorem mPlt : ∀ m ∈ mP, m ∈ mA ∧ pK m = 1 := by decide +kernel
theorem mSlt : ∀ m ∈ mS, m ∈ mA := by decide +kernel
theorem mIlt : ∀ m ∈ mI, m ∈ mA ∧ pK m = 1 ∧ pNm m = "<init>" ∧ pRet m = none := by decide +kernel
theorem kOne : kName 1 = cName := rfl
def pX (m pc : Nat) : Bool := match pCode m pc with | some t => qchk m pc t.1 t.2 | none => true
set_option maxRecDepth 100000 in
set_option maxHeartbeats 4000000 in
theorem pC0_0 : ∀ q, q < 128 → pX 0 (0 + q) = true := by decide +kernel
set_option maxRecDepth 100000 in
set_option maxHeartbeats 4000000 in
theorem pC0_128 : ∀ q, q < 128 → pX 0 (128 + q) = true := by decide +kernel
set_option maxRecDepth 100000 in
set_option maxHeartbeats 4000000 in
theorem pC0_256 : ∀ q, q < 128 → pX 0 (256 + q) = true := by decide +kernel
set_option maxRecDepth 100000 in
set_option maxHeartbeats 4000000 in
theorem pC0_384 : ∀ q, q < 128 → pX 0 (384 + q) = true := by decide +kernel
set_option maxRecDepth 100000 in
set_option maxHeartbeats 4000000 in
theorem pC0_512 : ∀ q, q < 113 → pX 0 (512 + q) = true := by decide +kernel
theorem pCm0 (pc : Nat) (h : pc < pTop 0) : pX 0 pc = true := by
 replace h : pc < 625 := h
 by_cases h0 : pc < 128
 ·have q := pC0_0 (pc - 0) (by omega)
  rwa [show 0 + (pc - 0) = pc from by omega] at q
 by_cases h128 : pc < 256
 ·have q := pC0_128 (pc - 128) (by omega)
  rwa [show 128 + (pc - 128) = pc from by omega] at q
 by_cases h256 : pc < 384
 ·have q := pC0_256 (pc - 256) (by omega)
  rwa [show 256 + (pc - 256) = pc from by omega] at q
 by_cases h384 : pc < 512
 ·have q := pC0_384 (pc - 384) (by omega)
  rwa [show 384 + (pc - 384) = pc from by omega] at q
 have q := pC0_512 (pc - 512) (by omega)
 rwa [show 512 + (pc - 512) = pc from by omega] at q
set_option maxRecDepth 100000 in
set_option maxHeartbeats 4000000 in
theorem pC1_0 : ∀ q, q < 108 → pX 1 (0 + q) = true := by decide +kernel
theorem pCm1 (pc : Nat) (h : pc < pTop 1) : pX 1 pc = true := by
 replace h : pc < 108 := h
 have q := pC1_0 (pc - 0) (by omega)
 rwa [show 0 + (pc - 0) = pc from by omega] at q
set_option maxRecDepth 100000 in
set_option maxHeartbeats 4000000 in
theorem pC2_0 : ∀ q, q < 46 → pX 2 (0 + q) = true := by decide +kernel
theorem pCm2 (pc : Nat) (h : pc < pTop 2) : pX 2 pc = true := by
 replace h : pc < 46 := h
 have q := pC2_0 (pc - 0) (by omega)
 rwa [show 0 + (pc - 0) = pc from by omega] at q
set_option maxRecDepth 100000 in
set_option maxHeartbeats 4000000 in
theorem pC3_0 : ∀ q, q < 103 → pX 3 (0 + q) = true := by decide +kernel
theorem pCm3 (pc : Nat) (h : pc < pTop 3) : pX 3 pc = true := by
 replace h : pc < 103 := h
 have q := pC3_0 (pc - 0) (by omega)
 rwa [show 0 + (pc - 0) = pc from by omega] at q
set_option maxRecDepth 100000 in
set_option maxHeartbeats 4000000 in
theorem pC4_0 : ∀ q, q < 65 → pX 4 (0 + q) = true := by decide +kernel
theorem pCm4 (pc : Nat) (h : pc < pTop 4) : pX 4 pc = true := by
 replace h : pc < 65 := h
 have q := pC4_0 (pc - 0) (by omega)
 rwa [show 0 + (pc - 0) = pc from by omega] at q
set_option maxRecDepth 100000 in
set_option maxHeartbeats 4000000 in
theorem pC5_0 : ∀ q, q < 105 → pX 5 (0 + q) = true := by decide +kernel
theorem pCm5 (pc : Nat) (h : pc < pTop 5) : pX 5 pc = true := by
 replace h : pc < 105 := h
 have q := pC5_0 (pc - 0) (by omega)
 rwa [show 0 + (pc - 0) = pc from by omega] at q
set_option maxRecDepth 100000 in
set_option maxHeartbeats 4000000 in
theorem pC6_0 : ∀ q, q < 5 → pX 6 (0 + q) = true := by decide +kernel
theorem pCm6 (pc : Nat) (h : pc < pTop 6) : pX 6 pc = true := by
 replace h : pc < 5 := h
 have q := pC6_0 (pc - 0) (by omega)
 rwa [show 0 + (pc - 0) = pc from by omega] at q
set_option maxRecDepth 100000 in
set_option maxHeartbeats 4000000 in
theorem pC7_0 : ∀ q, q < 63 → pX 7 (0 + q) = true := by decide +kernel
theorem pCm7 (pc : Nat) (h : pc < pTop 7) : pX 7 pc = true := by
 replace h : pc < 63 := h
 have q := pC7_0 (pc - 0) (by omega)
 rwa [show 0 + (pc - 0) = pc from by omega] at q
set_option maxRecDepth 100000 in
set_option maxHeartbeats 4000000 in
theorem pC8_0 : ∀ q, q < 44 → pX 8 (0 + q) = true := by decide +kernel
theorem pCm8 (pc : Nat) (h : pc < pTop 8) : pX 8 pc = true := by
 replace h : pc < 44 := h
 have q := pC8_0 (pc - 0) (by omega)
 rwa [show 0 + (pc - 0) = pc from by omega] at q
set_option maxRecDepth 100000 in
set_option maxHeartbeats 4000000 in
theorem pC9_0 : ∀ q, q < 62 → pX 9 (0 + q) = true := by decide +kernel
theorem pCm9 (pc : Nat) (h : pc < pTop 9) : pX 9 pc = true := by
 replace h : pc < 62 := h
 have q := pC9_0 (pc - 0) (by omega)
 rwa [show 0 + (pc - 0) = pc from by omega] at q
set_option maxRecDepth 100000 in
set_option maxHeartbeats 4000000 in
theorem pC10_0 : ∀ q, q < 63 → pX 10 (0 + q) = true := by decide +kernel
theorem pCm10 (pc : Nat) (h : pc < pTop 10) : pX 10 pc = true := by
 replace h : pc < 63 := h
 have q := pC10_0 (pc - 0) (by omega)
 rwa [show 0 + (pc - 0) = pc from by omega] at q
set_option maxRecDepth 100000 in
set_option maxHeartbeats 4000000 in
theorem pC11_0 : ∀ q, q < 37 → pX 11 (0 + q) = true := by decide +kernel
theorem pCm11 (pc : Nat) (h : pc < pTop 11) : pX 11 pc = true := by
 replace h : pc < 37 := h
 have q := pC11_0 (pc - 0) (by omega)
 rwa [show 0 + (pc - 0) = pc from by omega] at q
set_option maxRecDepth 100000 in
set_option maxHeartbeats 4000000 in
theorem pC12_0 : ∀ q, q < 75 → pX 12 (0 + q) = true := by decide +kernel
theorem pCm12 (pc : Nat) (h : pc < pTop 12) : pX 12 pc = true := by
 replace h : pc < 75 := h
 have q := pC12_0 (pc - 0) (by omega)
 rwa [show 0 + (pc - 0) = pc from by omega] at q
set_option maxRecDepth 100000 in
set_option maxHeartbeats 4000000 in
theorem pC13_0 : ∀ q, q < 26 → pX 13 (0 + q) = true := by decide +kernel
theorem pCm13 (pc : Nat) (h : pc < pTop 13) : pX 13 pc = true := by
 replace h : pc < 26 := h
 have q := pC13_0 (pc - 0) (by omega)
 rwa [show 0 + (pc - 0) = pc from by omega] at q
set_option maxRecDepth 100000 in
set_option maxHeartbeats 4000000 in
theorem pC14_0 : ∀ q, q < 128 → pX 14 (0 + q) = true := by decide +kernel
set_option maxRecDepth 100000 in
set_option maxHeartbeats 4000000 in
theorem pC14_128 : ∀ q, q < 16 → pX 14 (128 + q) = true := by decide +kernel
theorem pCm14 (pc : Nat) (h : pc < pTop 14) : pX 14 pc = true := by
 replace h : pc < 144 := h
 by_cases h0 : pc < 128
 ·have q := pC14_0 (pc - 0) (by omega)
  rwa [show 0 + (pc - 0) = pc from by omega] at q
 have q := pC14_128 (pc - 128) (by omega)
 rwa [show 128 + (pc - 128) = pc from by omega] at q
set_option maxRecDepth 100000 in
set_option maxHeartbeats 4000000 in
theorem pC15_0 : ∀ q, q < 128 → pX 15 (0 + q) = true := by decide +kernel
set_option maxRecDepth 100000 in
set_option maxHeartbeats 4000000 in
theorem pC15_128 : ∀ q, q < 35 → pX 15 (128 + q) = true := by decide +kernel
theorem pCm15 (pc : Nat) (h : pc < pTop 15) : pX 15 pc = true := by
 replace h : pc < 163 := h
 by_cases h0 : pc < 128
 ·have q := pC15_0 (pc - 0) (by omega)
  rwa [show 0 + (pc - 0) = pc from by omega] at q
 have q := pC15_128 (pc - 128) (by omega)
 rwa [show 128 + (pc - 128) = pc from by omega] at q
set_option maxRecDepth 100000 in
set_option maxHeartbeats 4000000 in
theorem pC16_0 : ∀ q, q < 17 → pX 16 (0 + q) = true := by decide +kernel
theorem pCm16 (pc : Nat) (h : pc < pTop 16) : pX 16 pc = true := by
 replace h : pc < 17 := h
 have q := pC16_0 (pc - 0) (by omega)
 rwa [show 0 + (pc - 0) = pc from by omega] at q
set_option maxRecDepth 100000 in
set_option maxHeartbeats 4000000 in
theorem pC17_0 : ∀ q, q < 128 → pX 17 (0 + q) = true := by decide +kernel
set_option maxRecDepth 100000 in
set_option maxHeartbeats 4000000 in
theorem pC17_128 : ∀ q, q < 45 → pX 17 (128 + q) = true := by decide +kernel
theorem pCm17 (pc : Nat) (h : pc < pTop 17) : pX 17 pc = true := by
 replace h : pc < 173 := h
 by_cases h0 : pc < 128
 ·have q := pC17_0 (pc - 0) (by omega)
  rwa [show 0 + (pc - 0) = pc from by omega] at q
 have q := pC17_128 (pc - 128) (by omega)
 rwa [show 128 + (pc - 128) = pc from by omega] at q
set_option maxRecDepth 100000 in
set_option maxHeartbeats 4000000 in
theorem pC18_0 : ∀ q, q < 63 → pX 18 (0 + q) = true := by decide +kernel
theorem pCm18 (pc : Nat) (h : pc < pTop 18) : pX 18 pc = true := by
 replace h : pc < 63 := h
 have q := pC18_0 (pc - 0) (by omega)
 rwa [show 0 + (pc - 0) = pc from by omega] at q
set_option maxRecDepth 100000 in
set_option maxHeartbeats 4000000 in
theorem pC19_0 : ∀ q, q < 128 → pX 19 (0 + q) = true := by decide +kernel
set_option maxRecDepth 100000 in
set_option maxHeartbeats 4000000 in
theorem pC19_128 : ∀ q, q < 4 → pX 19 (128 + q) = true := by decide +kernel
theorem pCm19 (pc : Nat) (h : pc < pTop 19) : pX 19 pc = true := by
 replace h : pc < 132 := h
 by_cases h0 : pc < 128
 ·have q := pC19_0 (pc - 0) (by omega)
  rwa [show 0 + (pc - 0) = pc from by omega] at q
 have q := pC19_128 (pc - 128) (by omega)
 rwa [show 128 + (pc - 128) = pc from by omega] at q
set_option maxRecDepth 100000 in
set_option maxHeartbeats 4000000 in
theorem pC20_0 : ∀ q, q < 128 → pX 20 (0 + q) = true := by decide +kernel
set_option maxRecDepth 100000 in
set_option maxHeartbeats 4000000 in
theorem pC20_128 : ∀ q, q < 3 → pX 20 (128 + q) = true := by decide +kernel
theorem pCm20 (pc : Nat) (h : pc < pTop 20) : pX 20 pc = true := by
 replace h : pc < 131 := h
 by_cases h0 : pc < 128
 ·have q := pC20_0 (pc - 0) (by omega)
  rwa [show 0 + (pc - 0) = pc from by omega] at q
 have q := pC20_128 (pc - 128) (by omega)
 rwa [show 128 + (pc - 128) = pc from by omega] at q
set_option maxRecDepth 100000 in
set_option maxHeartbeats 4000000 in
theorem pC21_0 : ∀ q, q < 17 → pX 21 (0 + q) = true := by decide +kernel
theorem pCm21 (pc : Nat) (h : pc < pTop 21) : pX 21 pc = true := by
 replace h : pc < 17 := h
 have q := pC21_0 (pc - 0) (by omega)
 rwa [show 0 + (pc - 0) = pc from by omega] at q
set_option maxRecDepth 100000 in
set_option maxHeartbeats 4000000 in
theorem pC22_0 : ∀ q, q < 128 → pX 22 (0 + q) = true := by decide +kernel
set_option maxRecDepth 100000 in
set_option maxHeartbeats 4000000 in
theorem pC22_128 : ∀ q, q < 112 → pX 22 (128 + q) = true := by decide +kernel
theorem pCm22 (pc : Nat) (h : pc < pTop 22) : pX 22 pc = true := by
 replace h : pc < 240 := h
 by_cases h0 : pc < 128
 ·have q := pC22_0 (pc - 0) (by omega)
  rwa [show 0 + (pc - 0) = pc from by omega] at q
 have q := pC22_128 (pc - 128) (by omega)
 rwa [show 128 + (pc - 128) = pc from by omega] at q
set_option maxRecDepth 100000 in
set_option maxHeartbeats 4000000 in
theorem pC23_0 : ∀ q, q < 25 → pX 23 (0 + q) = true := by decide +kernel
theorem pCm23 (pc : Nat) (h : pc < pTop 23) : pX 23 pc = true := by
 replace h : pc < 25 := h
 have q := pC23_0 (pc - 0) (by omega)
 rwa [show 0 + (pc - 0) = pc from by omega] at q
set_option maxRecDepth 100000 in
set_option maxHeartbeats 4000000 in
theorem pC24_0 : ∀ q, q < 28 → pX 24 (0 + q) = true := by decide +kernel
theorem pCm24 (pc : Nat) (h : pc < pTop 24) : pX 24 pc = true := by
 replace h : pc < 28 := h
 have q := pC24_0 (pc - 0) (by omega)
 rwa [show 0 + (pc - 0) = pc from by omega] at q
set_option maxRecDepth 100000 in
set_option maxHeartbeats 4000000 in
theorem pC25_0 : ∀ q, q < 39 → pX 25 (0 + q) = true := by decide +kernel
theorem pCm25 (pc : Nat) (h : pc < pTop 25) : pX 25 pc = true := by
 replace h : pc < 39 := h
 have q := pC25_0 (pc - 0) (by omega)
 rwa [show 0 + (pc - 0) = pc from by omega] at q
set_option maxRecDepth 100000 in
set_option maxHeartbeats 4000000 in
theorem pC26_0 : ∀ q, q < 65 → pX 26 (0 + q) = true := by decide +kernel
theorem pCm26 (pc : Nat) (h : pc < pTop 26) : pX 26 pc = true := by
 replace h : pc < 65 := h
 have q := pC26_0 (pc - 0) (by omega)
 rwa [show 0 + (pc - 0) = pc from by omega] at q
set_option maxRecDepth 100000 in
set_option maxHeartbeats 4000000 in
theorem pC27_0 : ∀ q, q < 50 → pX 27 (0 + q) = true := by decide +kernel
theorem pCm27 (pc : Nat) (h : pc < pTop 27) : pX 27 pc = true := by
 replace h : pc < 50 := h
 have q := pC27_0 (pc - 0) (by omega)
 rwa [show 0 + (pc - 0) = pc from by omega] at q
set_option maxRecDepth 100000 in
set_option maxHeartbeats 4000000 in
theorem pC28_0 : ∀ q, q < 23 → pX 28 (0 + q) = true := by decide +kernel
theorem pCm28 (pc : Nat) (h : pc < pTop 28) : pX 28 pc = true := by
 replace h : pc < 23 := h
 have q := pC28_0 (pc - 0) (by omega)
 rwa [show 0 + (pc - 0) = pc from by omega] at q
set_option maxRecDepth 100000 in
set_option maxHeartbeats 4000000 in
theorem pC29_0 : ∀ q, q < 37 → pX 29 (0 + q) = true := by decide +kernel
theorem pCm29 (pc : Nat) (h : pc < pTop 29) : pX 29 pc = true := by
 replace h : pc < 37 := h
 have q := pC29_0 (pc - 0) (by omega)
 rwa [show 0 + (pc - 0) = pc from by omega] at q
set_option maxRecDepth 100000 in
set_option maxHeartbeats 4000000 in
theorem pC30_0 : ∀ q, q < 11 → pX 30 (0 + q) = true := by decide +kernel
theorem pCm30 (pc : Nat) (h : pc < pTop 30) : pX 30 pc = true := by
 replace h : pc < 11 := h
 have q := pC30_0 (pc - 0) (by omega)
 rwa [show 0 + (pc - 0) = pc from by omega] at q
set_option maxRecDepth 100000 in
set_option maxHeartbeats 4000000 in
theorem pC31_0 : ∀ q, q < 85 → pX 31 (0 + q) = true := by decide +kernel
theorem pCm31 (pc : Nat) (h : pc < pTop 31) : pX 31 pc = true := by
 replace h : pc < 85 := h
 have q := pC31_0 (pc - 0) (by omega)
 rwa [show 0 + (pc - 0) = pc from by omega] at q
set_option maxRecDepth 100000 in
set_option maxHeartbeats 4000000 in
theorem pC32_0 : ∀ q, q < 85 → pX 32 (0 + q) = true := by decide +kernel
theorem pCm32 (pc : Nat) (h : pc < pTop 32) : pX 32 pc = true := by
 replace h : pc < 85 := h
 have q := pC32_0 (pc - 0) (by omega)
 rwa [show 0 + (pc - 0) = pc from by omega] at q
set_option maxRecDepth 100000 in
set_option maxHeartbeats 4000000 in
theorem pC33_0 : ∀ q, q < 97 → pX 33 (0 + q) = true := by decide +kernel
theorem pCm33 (pc : Nat) (h : pc < pTop 33) : pX 33 pc = true := by
 replace h : pc < 97 := h
 have q := pC33_0 (pc - 0) (by omega)
 rwa [show 0 + (pc - 0) = pc from by omega] at q
set_option maxRecDepth 100000 in
set_option maxHeartbeats 4000000 in
theorem pC34_0 : ∀ q, q < 77 → pX 34 (0 + q) = true := by decide +kernel
theorem pCm34 (pc : Nat) (h : pc < pTop 34) : pX 34 pc = true := by
 replace h : pc < 77 := h
 have q := pC34_0 (pc - 0) (by omega)
 rwa [show 0 + (pc - 0) = pc from by omega] at q
set_option maxRecDepth 100000 in
set_option maxHeartbeats 4000000 in
theorem pC35_0 : ∀ q, q < 47 → pX 35 (0 + q) = true := by decide +kernel
theorem pCm35 (pc : Nat) (h : pc < pTop 35) : pX 35 pc = true := by
 replace h : pc < 47 := h
 have q := pC35_0 (pc - 0) (by omega)
 rwa [show 0 + (pc - 0) = pc from by omega] at q
theorem pChk0 : ∀ m, m < pN → ∀ pc, pc < pTop m → (match pCode m pc with | some t => qchk m pc t.1 t.2 | none => true) = true := by
 intro m hm pc hp
 change pX m pc = true
 match m, hm, hp with
 | 0, _, hp => exact pCm0 pc hp
 | 1, _, hp => exact pCm1 pc hp
 | 2, _, hp => exact pCm2 pc hp
 | 3, _, hp => exact pCm3 pc hp
 | 4, _, hp => exact pCm4 pc hp
 | 5, _, hp => exact pCm5 pc hp
 | 6, _, hp => exact pCm6 pc hp
 | 7, _, hp => exact pCm7 pc hp
 | 8, _, hp => exact pCm8 pc hp
 | 9, _, hp => exact pCm9 pc hp
 | 10, _, hp => exact pCm10 pc hp
 | 11, _, hp => exact pCm11 pc hp
 | 12, _, hp => exact pCm12 pc hp
 | 13, _, hp => exact pCm13 pc hp
 | 14, _, hp => exact pCm14 pc hp
 | 15, _, hp => exact pCm15 pc hp
 | 16, _, hp => exact pCm16 pc hp
 | 17, _, hp => exact pCm17 pc hp
 | 18, _, hp => exact pCm18 pc hp
 | 19, _, hp => exact pCm19 pc hp
 | 20, _, hp => exact pCm20 pc hp
 | 21, _, hp => exact pCm21 pc hp
 | 22, _, hp => exact pCm22 pc hp
 | 23, _, hp => exact pCm23 pc hp
 | 24, _, hp => exact pCm24 pc hp
 | 25, _, hp => exact pCm25 pc hp
 | 26, _, hp => exact pCm26 pc hp
 | 27, _, hp => exact pCm27 pc hp
 | 28, _, hp => exact pCm28 pc hp
 | 29, _, hp => exact pCm29 pc hp
 | 30, _, hp => exact pCm30 pc hp
 | 31, _, hp => exact pCm31 pc hp
 | 32, _, hp => exact pCm32 pc hp
 | 33, _, hp => exact pCm33 pc hp
 | 34, _, hp => exact pCm34 pc hp
 | 35, _, hp => exact pCm35 pc hp
 | m + 36, hm, _ => exact absurd hm (by unfold pN; omega)
theorem pIn {m pc : Nat} {t : Instr × Nat} (h : pCode m pc = some t) : m < pN ∧ pc < pTop m := by
 unfold pCode at h
 cases h1 : Nat.ble pN m with
 | true => rw [h1] at h; cases h
 | false =>
  cases h2 : Nat.ble (pTop m) pc with
  | true => rw [h1, h2] at h; cases h
  | false => exact ⟨Nat.lt_of_not_le (fun q => by rw [Nat.ble_eq_true_of_le q] at h1; cases h1), Nat.lt_of_not_le (fun q => by rw [Nat.ble_eq_true_of_le q] at h2; cases h2)⟩
theorem pChk {m pc : Nat} {i : Instr} {aux : Nat} (h : pCode m pc = some (i, aux)) : qchk m pc i aux = true := by
 have q := pChk0 m (pIn h).1 pc (pIn h).2
 rw [h] at q
 exact q
theorem pDec {m pc : Nat} {i : Instr} {aux : Nat} (h : pCode m pc = some (i, aux)) : decode (pBytes m) pc = .ok (i, ilen i) := by
 have q := pChk h
 unfold qchk at q
 exact of_decide_eq_true (Bool.and_eq_true_iff.mp q).1
theorem pDecN {m pc n : Nat} {i : Instr} {aux : Nat} (h : pCode m pc = some (i, aux)) (hn : ilen i = n) : decode (pBytes m) pc = .ok (i, n) := by
 rw [← hn]; exact pDec h
theorem pRest {m pc : Nat} {i : Instr} {aux : Nat} (h : pCode m pc = some (i, aux)) : qlk m pc i aux = true := by
 have q := pChk h
 unfold qchk at q
 exact (Bool.and_eq_true_iff.mp q).2
theorem qtgt_spec {pc : Nat} {o : Int} {aux : Nat} (h : qtgt pc o aux = true) : 0 ≤ (pc : Int) + o ∧ ((pc : Int) + o).toNat = aux := by
 unfold qtgt at h
 have h2 := Bool.and_eq_true_iff.mp h
 exact ⟨of_decide_eq_true h2.1, of_decide_eq_true h2.2⟩
def QCx (Z : State) (p : Program) (R : Room) (s : State) (mid : MethodId) (meth : Method) (c : Code) (m : Nat) : Prop :=
 p.tables.exec = Jvm.exec ∧ Z.Warmed39 s.vm ∧ c.code = pBytes m ∧ c.maxLocals = pMaxL m ∧ meth.sig.returnType = pRet m ∧ s.vm.findClass (kName (pK m)) = some mid.cls ∧ meth.name = pNm m ∧ pFr m ≤ R.frames ∧ pLo m ≤ R.locals
def QTri (l : Launch) (Z : State) (n0 : Nat) (ad : Nat → Addr) (m : Nat) (st : QSt) (v : Option Value) (σ' : QHeap) : Prop :=
 st.2.2.2.length ≤ σ'.length ∧ qhs st.2.2.2 ≤ qhs σ' ∧
 ∀ (p : Program) (e : Env) (R : Room) (s : State) (mid : MethodId) (args : Array Value) (below : List Frame) (meth : Method) (c : Code) (T : State) (locs : List Loc) (cells slots : Nat) (C : Array Slot),
  QCx Z p R s mid meth c m → Stand p l e R s mid args below meth c T locs cells slots → QRep Z n0 ad T.heap st.2.2.2 → Fr n0 locs → QLocOk ad st.2.1 C → C.size = c.maxLocals →
  n0 + (st.2.2.2.length - k0) = s.heap.size + cells → cells + (σ'.length - st.2.2.2.length) ≤ R.cells → slots + (qhs σ' - qhs st.2.2.2) ≤ R.slots →
  ∃ T' locs', Stand p l e R s mid args below meth c T' locs' (cells + (σ'.length - st.2.2.2.length)) (slots + (qhs σ' - qhs st.2.2.2)) ∧ QRep Z n0 ad T'.heap σ' ∧ Fr n0 locs' ∧
   ∀ fs, (∀ (f : JFrame) (acts : List Action), f.method = mid → f.locked = none → f.entered = [] → (doReturn e (T'.setTop f) acts (v.map (qv ad))).1 = T'.setFrames fs) →
    Steps p.tables e below (T.setTop (mkF mid st.1 C (st.2.2.1.map (qv ad)))) (T'.setFrames fs)
section Triples
variable {l : Launch} {Z : State} {n0 : Nat} {ad : Nat → Addr} {a0 : Array Value} {m : Nat} {v : Option Value} {σ' : QHeap}
theorem QTri.gen {st st' : QSt} (h : QTri l Z n0 ad m st' v σ') (g1 : st.2.2.2.length ≤ st'.2.2.2.length) (g2 : qhs st.2.2.2 ≤ qhs st'.2.2.2)
  (hs : ∀ (p : Program) (e : Env) (R : Room) (s : State) (mid : MethodId) (args : Array Value) (below : List Frame) (meth : Method) (c : Code) (T : State) (locs : List Loc) (cells slots : Nat) (C : Array Slot),
   QCx Z p R s mid meth c m → Stand p l e R s mid args below meth c T locs cells slots → QRep Z n0 ad T.heap st.2.2.2 → Fr n0 locs → QLocOk ad st.2.1 C → C.size = c.maxLocals →
   n0 + (st.2.2.2.length - k0) = s.heap.size + cells → cells + (st'.2.2.2.length - st.2.2.2.length) ≤ R.cells → slots + (qhs st'.2.2.2 - qhs st.2.2.2) ≤ R.slots →
   ∃ T₁ locs₁ C₁, Stand p l e R s mid args below meth c T₁ locs₁ (cells + (st'.2.2.2.length - st.2.2.2.length)) (slots + (qhs st'.2.2.2 - qhs st.2.2.2)) ∧ QRep Z n0 ad T₁.heap st'.2.2.2 ∧ Fr n0 locs₁ ∧ QLocOk ad st'.2.1 C₁ ∧ C₁.size = c.maxLocals ∧
    ∀ target, Steps p.tables e below (T₁.setTop (mkF mid st'.1 C₁ (st'.2.2.1.map (qv ad)))) target → Steps p.tables e below (T.setTop (mkF mid st.1 C (st.2.2.1.map (qv ad)))) target) :
  QTri l Z n0 ad m st v σ' := by
 obtain ⟨h1, h2, h3⟩ := h
 refine ⟨Nat.le_trans g1 h1, Nat.le_trans g2 h2, fun p e R s mid args below meth c T locs cells slots C hcx X hR hF hL hC hn hc hsl => ?_⟩
 obtain ⟨T₁, locs₁, C₁, X₁, R₁, F₁, L₁, C1, S₁⟩ := hs p e R s mid args below meth c T locs cells slots C hcx X hR hF hL hC hn (by omega) (by omega)
 have hk := hR.1
 obtain ⟨T', locs', X', R', F', S'⟩ := h3 p e R s mid args below meth c T₁ locs₁ _ _ C₁ hcx X₁ R₁ F₁ L₁ C1 (by omega) (by omega) (by omega)
 have e1 : cells + (st'.2.2.2.length - st.2.2.2.length) + (σ'.length - st'.2.2.2.length) = cells + (σ'.length - st.2.2.2.length) := by omega
 have e2 : slots + (qhs st'.2.2.2 - qhs st.2.2.2) + (qhs σ' - qhs st'.2.2.2) = slots + (qhs σ' - qhs st.2.2.2) := by omega
 rw [e1, e2] at X'
 exact ⟨T', locs', X', R', F', fun fs hf => S₁ _ (S' fs hf)⟩
theorem QTri.pure {st st' : QSt} (h : QTri l Z n0 ad m st' v σ') (hσ : st'.2.2.2 = st.2.2.2)
  (hs : ∀ (p : Program) (e : Env) (R : Room) (s : State) (mid : MethodId) (args : Array Value) (below : List Frame) (meth : Method) (c : Code) (T : State) (locs : List Loc) (cells slots : Nat) (C : Array Slot),
   QCx Z p R s mid meth c m → Stand p l e R s mid args below meth c T locs cells slots → QRep Z n0 ad T.heap st.2.2.2 → QLocOk ad st.2.1 C → C.size = c.maxLocals →
   ∃ T₁ C₁, Stand p l e R s mid args below meth c T₁ locs cells slots ∧ T₁.heap = T.heap ∧ QLocOk ad st'.2.1 C₁ ∧ C₁.size = c.maxLocals ∧
    ∀ target, Steps p.tables e below (T₁.setTop (mkF mid st'.1 C₁ (st'.2.2.1.map (qv ad)))) target → Steps p.tables e below (T.setTop (mkF mid st.1 C (st.2.2.1.map (qv ad)))) target) :
  QTri l Z n0 ad m st v σ' := by
 refine QTri.gen h (by rw [hσ]; exact Nat.le_refl _) (by rw [hσ]; exact Nat.le_refl _) fun p e R s mid args below meth c T locs cells slots C hcx X hR hF hL hC hn hc hsl => ?_
 obtain ⟨T₁, C₁, X₁, hh, L₁, C1, S₁⟩ := hs p e R s mid args below meth c T locs cells slots C hcx X hR hL hC
 refine ⟨T₁, locs, C₁, ?_, by rw [hσ, hh]; exact hR, hF, L₁, C1, S₁⟩
 rw [hσ, Nat.sub_self, Nat.sub_self]
 exact X₁
theorem QTri.frame {pc pc' : Nat} {L L' : QLoc} {S S' : List Value} {σ : QHeap} (h : QTri l Z n0 ad m (pc', L', S', σ) v σ')
  (hs : ∀ (p : Program) (e : Env) (R : Room) (s : State) (mid : MethodId) (args : Array Value) (below : List Frame) (meth : Method) (c : Code) (T : State) (locs : List Loc) (cells slots : Nat) (C : Array Slot),
   QCx Z p R s mid meth c m → Stand p l e R s mid args below meth c T locs cells slots → QRep Z n0 ad T.heap σ → QLocOk ad L C → C.size = c.maxLocals →
   ∃ C₁, QLocOk ad L' C₁ ∧ C₁.size = c.maxLocals ∧ ∀ target, Steps p.tables e below (T.setTop (mkF mid pc' C₁ (S'.map (qv ad)))) target → Steps p.tables e below (T.setTop (mkF mid pc C (S.map (qv ad)))) target) :
  QTri l Z n0 ad m (pc, L, S, σ) v σ' :=
 QTri.pure h rfl fun p e R s mid args below meth c T locs cells slots C hcx X hR hL hC => by
  obtain ⟨C₁, h1, h2, h3⟩ := hs p e R s mid args below meth c T locs cells slots C hcx X hR hL hC
  exact ⟨T, C₁, X, rfl, h1, h2, h3⟩
theorem QTri.stack {pc pc' : Nat} {L : QLoc} {S S' : List Value} {σ : QHeap} (h : QTri l Z n0 ad m (pc', L, S', σ) v σ')
  (hs : ∀ (p : Program) (e : Env) (R : Room) (s : State) (mid : MethodId) (args : Array Value) (below : List Frame) (meth : Method) (c : Code) (T : State) (locs : List Loc) (cells slots : Nat) (C : Array Slot) (target : State),
   p.tables.exec = Jvm.exec → Z.Warmed39 s.vm → c.code = pBytes m → s.vm.findClass (kName (pK m)) = some mid.cls → Stand p l e R s mid args below meth c T locs cells slots → QRep Z n0 ad T.heap σ → QLocOk ad L C →
   Steps p.tables e below (T.setTop (mkF mid pc' C (S'.map (qv ad)))) target → Steps p.tables e below (T.setTop (mkF mid pc C (S.map (qv ad)))) target) :
  QTri l Z n0 ad m (pc, L, S, σ) v σ' :=
 QTri.frame h fun p e R s mid args below meth c T locs cells slots C hcx X hR hL hC => ⟨C, hL, hC, fun target k => hs p e R s mid args below meth c T locs cells slots C target hcx.1 hcx.2.1 hcx.2.2.1 hcx.2.2.2.2.2.1 X hR hL k⟩
theorem qload_inv {pc : Nat} {L : QLoc} {S : List Value} {σ : QHeap} {k : Nat} {ok : Value → Bool} {st' : QSt} (h : qload pc L S σ k ok = some st') : ∃ v, lget L k = some v ∧ ok v = true ∧ st' = (pc, L, v :: S, σ) := by
 unfold qload at h
 split at h
 ·rename_i v hv
  cases ho : ok v with
  | true => rw [ho] at h; cases h; exact ⟨v, hv, ho, rfl⟩
  | false => rw [ho] at h; cases h
 ·cases h
theorem qstore_inv {pc : Nat} {L : QLoc} {S : List Value} {σ : QHeap} {k : Nat} {ok : Value → Bool} {st' : QSt} (h : qstore pc L S σ k ok = some st') : ∃ v S' L', S = v :: S' ∧ ok v = true ∧ lput L k v = some L' ∧ st' = (pc, L', S', σ) := by
 unfold qstore at h
 split at h
 ·rename_i v S'
  cases ho : ok v with
  | true =>
   rw [ho] at h
   simp only [cond_true] at h
   split at h
   ·rename_i L' hL'
    cases h; exact ⟨v, S', L', rfl, ho, hL', rfl⟩
   ·cases h
  | false => rw [ho] at h; cases h
 ·cases h
theorem qbin_inv {pc : Nat} {L : QLoc} {S : List Value} {σ : QHeap} {f : Int32 → Int32 → Int32} {st' : QSt} (h : qbin pc L S σ f = some st') : ∃ x y S', S = .int y :: .int x :: S' ∧ st' = (pc, L, .int (f x y) :: S', σ) := by
 unfold qbin at h
 split at h
 ·cases h; exact ⟨_, _, _, rfl, rfl⟩
 ·cases h
theorem qbino_inv {pc : Nat} {L : QLoc} {S : List Value} {σ : QHeap} {f : Int32 → Int32 → Option Int32} {st' : QSt} (h : qbino pc L S σ f = some st') : ∃ x y z S', S = .int y :: .int x :: S' ∧ f x y = some z ∧ st' = (pc, L, .int z :: S', σ) := by
 unfold qbino at h
 split at h
 ·obtain ⟨z, hz, h⟩ := Option.bind_eq_some_iff.mp h
  cases h; exact ⟨_, _, _, _, rfl, hz, rfl⟩
 ·cases h
theorem qbinJ_inv {pc : Nat} {L : QLoc} {S : List Value} {σ : QHeap} {f : Int64 → Int64 → Int64} {st' : QSt} (h : qbinJ pc L S σ f = some st') : ∃ x y S', S = .long y :: .long x :: S' ∧ st' = (pc, L, .long (f x y) :: S', σ) := by
 unfold qbinJ at h
 split at h
 ·cases h; exact ⟨_, _, _, rfl, rfl⟩
 ·cases h
theorem qshJ_inv {pc : Nat} {L : QLoc} {S : List Value} {σ : QHeap} {f : Int64 → Int32 → Int64} {st' : QSt} (h : qshJ pc L S σ f = some st') : ∃ x y S', S = .int y :: .long x :: S' ∧ st' = (pc, L, .long (f x y) :: S', σ) := by
 unfold qshJ at h
 split at h
 ·cases h; exact ⟨_, _, _, rfl, rfl⟩
 ·cases h
theorem quni_inv {pc : Nat} {L : QLoc} {S : List Value} {σ : QHeap} {f : Int32 → Value} {st' : QSt} (h : quni pc L S σ f = some st') : ∃ x S', S = .int x :: S' ∧ st' = (pc, L, f x :: S', σ) := by
 unfold quni at h
 split at h
 ·cases h; exact ⟨_, _, rfl, rfl⟩
 ·cases h
theorem quniJ_inv {pc : Nat} {L : QLoc} {S : List Value} {σ : QHeap} {f : Int64 → Value} {st' : QSt} (h : quniJ pc L S σ f = some st') : ∃ x S', S = .long x :: S' ∧ st' = (pc, L, f x :: S', σ) := by
 unfold quniJ at h
 split at h
 ·cases h; exact ⟨_, _, rfl, rfl⟩
 ·cases h
theorem qif_inv {pc : Nat} {L : QLoc} {S : List Value} {σ : QHeap} {cd : ClassFile.Cond} {t : Nat} {st' : QSt} (h : qif pc L S σ cd t = some st') : ∃ x S', S = .int x :: S' ∧ st' = (bif ifCond.holds cd x then t else pc, L, S', σ) := by
 unfold qif at h
 split at h
 ·cases h; exact ⟨_, _, rfl, rfl⟩
 ·cases h
theorem qicmp_inv {pc : Nat} {L : QLoc} {S : List Value} {σ : QHeap} {cd : ClassFile.Cond} {t : Nat} {st' : QSt} (h : qicmp pc L S σ cd t = some st') : ∃ x y S', S = .int y :: .int x :: S' ∧ st' = (bif if_icmp.holds cd x y then t else pc, L, S', σ) := by
 unfold qicmp at h
 split at h
 ·cases h; exact ⟨_, _, _, rfl, rfl⟩
 ·cases h
theorem qget_inv {pc : Nat} {L : QLoc} {S : List Value} {σ : QHeap} {k : Nat} {st' : QSt} (h : qget pc L S σ k = some st') : ∃ a S' vs v, S = .ref a :: S' ∧ hget σ a = some (.inl vs) ∧ vget vs k = some v ∧ st' = (pc, L, v :: S', σ) := by
 unfold qget at h
 split at h
 ·split at h
  ·split at h
   ·cases h; exact ⟨_, _, _, _, rfl, by assumption, by assumption, rfl⟩
   ·cases h
  ·cases h
 ·cases h
theorem qput_inv {pc : Nat} {L : QLoc} {S : List Value} {σ : QHeap} {k : Nat} {st' : QSt} (h : qput pc L S σ k = some st') : ∃ v a S' vs w, S = v :: .ref a :: S' ∧ hget σ a = some (.inl vs) ∧ k0 ≤ a ∧ k < vs.length ∧ qfit (fTy k) v = some w ∧ st' = (pc, L, S', σ.set a (.inl (vs.set k w))) := by
 unfold qput at h
 split at h
 ·rename_i v a S'
  split at h
  ·rename_i vs hvs
   cases hbb : (Nat.ble k0 a && Nat.ble (k + 1) vs.length) with
   | false => rw [hbb] at h; cases h
   | true =>
    rw [hbb] at h
    simp only [cond_true] at h
    obtain ⟨u, hu, h⟩ := Option.bind_eq_some_iff.mp h
    cases h
    obtain ⟨b1, b2⟩ := Bool.and_eq_true_iff.mp hbb
    exact ⟨v, a, S', vs, u, rfl, hvs, Nat.le_of_ble_eq_true b1, Nat.le_of_ble_eq_true b2, hu, rfl⟩
  ·cases h
 ·cases h
theorem qald_inv {pc : Nat} {L : QLoc} {S : List Value} {σ : QHeap} {ok : FieldType → Bool} {st' : QSt} (h : qald pc L S σ ok = some st') : ∃ j a S' ty xs v, S = .int j :: .ref a :: S' ∧ hget σ a = some (.inr (.inl (ty, xs))) ∧ ok ty = true ∧ aget xs j = some v ∧ st' = (pc, L, .int v :: S', σ) := by
 unfold qald at h
 split at h
 ·rename_i j a S'
  split at h
  ·rename_i x hx
   cases ht : ok x.1 with
   | false => rw [ht] at h; cases h
   | true =>
    rw [ht] at h
    simp only [cond_true] at h
    obtain ⟨u, hu, h⟩ := Option.bind_eq_some_iff.mp h
    cases h
    exact ⟨j, a, S', x.1, x.2, u, rfl, hx, ht, hu, rfl⟩
  ·cases h
 ·cases h
theorem qaldJ_inv {pc : Nat} {L : QLoc} {S : List Value} {σ : QHeap} {st' : QSt} (h : qaldJ pc L S σ = some st') : ∃ j a S' xs v, S = .int j :: .ref a :: S' ∧ hget σ a = some (.inr (.inr xs)) ∧ aget xs j = some v ∧ st' = (pc, L, .long v :: S', σ) := by
 unfold qaldJ at h
 split at h
 ·rename_i j a S'
  split at h
  ·rename_i x hx
   obtain ⟨u, hu, h⟩ := Option.bind_eq_some_iff.mp h
   cases h
   exact ⟨j, a, S', x, u, rfl, hx, hu, rfl⟩
  ·cases h
 ·cases h
theorem qast_inv {pc : Nat} {L : QLoc} {S : List Value} {σ : QHeap} {ok : FieldType → Bool} {st' : QSt} (h : qast pc L S σ ok = some st') : ∃ v j a S' ty xs ys, S = .int v :: .int j :: .ref a :: S' ∧ hget σ a = some (.inr (.inl (ty, xs))) ∧ ok ty = true ∧ k0 ≤ a ∧ aset xs j (qnar ty v) = some ys ∧ st' = (pc, L, S', σ.set a (.inr (.inl (ty, ys)))) := by
 unfold qast at h
 split at h
 ·rename_i v j a S'
  split at h
  ·rename_i x hx
   cases ht : (ok x.1 && Nat.ble k0 a) with
   | false => rw [ht] at h; cases h
   | true =>
    rw [ht] at h
    simp only [cond_true] at h
    obtain ⟨u, hu, h⟩ := Option.bind_eq_some_iff.mp h
    cases h
    obtain ⟨b1, b2⟩ := Bool.and_eq_true_iff.mp ht
    exact ⟨v, j, a, S', x.1, x.2, u, rfl, hx, b1, Nat.le_of_ble_eq_true b2, hu, rfl⟩
  ·cases h
 ·cases h
theorem qastJ_inv {pc : Nat} {L : QLoc} {S : List Value} {σ : QHeap} {st' : QSt} (h : qastJ pc L S σ = some st') : ∃ v j a S' xs ys, S = .long v :: .int j :: .ref a :: S' ∧ hget σ a = some (.inr (.inr xs)) ∧ k0 ≤ a ∧ aset xs j v = some ys ∧ st' = (pc, L, S', σ.set a (.inr (.inr ys))) := by
 unfold qastJ at h
 split at h
 ·rename_i v j a S'
  split at h
  ·rename_i x hx
   cases ht : (Nat.ble k0 a) with
   | false => rw [ht] at h; cases h
   | true =>
    rw [ht] at h
    simp only [cond_true] at h
    obtain ⟨u, hu, h⟩ := Option.bind_eq_some_iff.mp h
    cases h
    exact ⟨v, j, a, S', x, u, rfl, hx, Nat.le_of_ble_eq_true ht, hu, rfl⟩
  ·cases h
 ·cases h
theorem qlen_inv {pc : Nat} {L : QLoc} {S : List Value} {σ : QHeap} {st' : QSt} (h : qlen pc L S σ = some st') : ∃ a S' n, S = .ref a :: S' ∧ ((∃ ty xs, hget σ a = some (.inr (.inl (ty, xs))) ∧ n = xs.length) ∨ ∃ xs, hget σ a = some (.inr (.inr xs)) ∧ n = xs.length) ∧ st' = (pc, L, .int n.toInt32 :: S', σ) := by
 unfold qlen at h
 split at h
 ·rename_i a S'
  split at h
  ·rename_i x hx
   cases h; exact ⟨a, S', _, rfl, Or.inl ⟨x.1, x.2, hx, rfl⟩, rfl⟩
  ·rename_i x hx
   cases h; exact ⟨a, S', _, rfl, Or.inr ⟨x, hx, rfl⟩, rfl⟩
  ·cases h
 ·cases h
theorem isI_inv {v : Value} (h : isI v = true) : ∃ x, v = .int x := by cases v <;> simp [isI] at h; exact ⟨_, rfl⟩
theorem isJ_inv {v : Value} (h : isJ v = true) : ∃ x, v = .long x := by cases v <;> simp [isJ] at h; exact ⟨_, rfl⟩
theorem isR_inv {v : Value} (h : isR v = true) : ∃ x, v = .ref x := by cases v <;> simp [isR] at h; exact ⟨_, rfl⟩
theorem aget_inv {α : Type} {xs : List α} {j : Int32} {x : α} (h : aget xs j = some x) : ¬ j < 0 ∧ xs[j.toNatClampNeg]? = some x := by
 unfold aget at h
 split at h
 ·cases h
 ·rename_i q; exact ⟨q, h⟩
theorem aset_inv {α : Type} {xs ys : List α} {j : Int32} {x : α} (h : aset xs j x = some ys) : ¬ j < 0 ∧ j.toNatClampNeg < xs.length ∧ ys = xs.set j.toNatClampNeg x := by
 unfold aset at h
 split at h
 ·cases h
 ·rename_i q
  split at h
  ·rename_i q2; cases h; exact ⟨q, q2, rfl⟩
  ·cases h
theorem qnew_inv {n : Int32} {k : Nat} (h : qnew n = some k) : ¬ n < 0 ∧ n.toNatClampNeg = k ∧ k ≤ 67108864 := by
 unfold qnew at h
 split at h
 ·cases h
 ·rename_i q
  split at h
  ·rename_i q2; cases h; exact ⟨q, rfl, q2⟩
  ·cases h
theorem QCellOk.other {h h' : Heap} {a b : Addr} {sl : Nat} {w : Value} {c : QCell} (H : QCellOk Z ad h b c) (W : Wr h h' a sl w) (ne : b ≠ a) : QCellOk Z ad h' b c := by
 rcases c with vs | ⟨ty, xs⟩ | xs
 ·obtain ⟨h1, h2, h3⟩ := H
  exact ⟨h1.wr W, h2, fun k u hk hu => (h3 k u hk hu).other W (Or.inl ne)⟩
 ·obtain ⟨c, h1, h2⟩ := H
  exact ⟨c, h1.other W ne, h2⟩
 ·obtain ⟨c, h1, h2⟩ := H
  exact ⟨c, h1.other W ne, h2⟩
theorem QCellOk.ext {h h' : Heap} {b : Addr} {c : QCell} (H : QCellOk Z ad h b c) (E : Ext h h') : QCellOk Z ad h' b c := by
 rcases c with vs | ⟨ty, xs⟩ | xs
 ·obtain ⟨h1, h2, h3⟩ := H
  exact ⟨h1.ext E, h2, fun k u hk hu => (h3 k u hk hu).ext E⟩
 ·obtain ⟨c, h1, h2⟩ := H
  exact ⟨c, h1.ext E, h2⟩
 ·obtain ⟨c, h1, h2⟩ := H
  exact ⟨c, h1.ext E, h2⟩
theorem QRep.set {h h' : Heap} {σ : QHeap} {a : Nat} {sl : Nat} {w : Value} {c d : QCell} (H : QRep Z n0 ad h σ) (Ad : QAd n0 ad) (W : Wr h h' (ad a) sl w) (hc : hget σ a = some c) (hd : QCellOk Z ad h' (ad a) d) : QRep Z n0 ad h' (σ.set a d) := by
 obtain ⟨h1, h2, h3⟩ := H
 refine ⟨by simpa using h1, by rw [W.size, h2]; simp, fun k e he => ?_⟩
 rw [hget_set hc] at he
 split at he
 ·rename_i q; cases he; rw [q]; exact hd
 ·rename_i q; exact (h3 k e he).other W fun z => q (Ad.2 _ _ z)
theorem QRep.push {h h' : Heap} {σ : QHeap} {c : QCell} (H : QRep Z n0 ad h σ) (Ad : QAd n0 ad) (E : Ext h h') (hs : h'.size = h.size + 1) (hc : QCellOk Z ad h' h.size c) : QRep Z n0 ad h' (σ ++ [c]) := by
 obtain ⟨h1, h2, h3⟩ := H
 refine ⟨by simp; omega, by rw [hs, h2]; simp; omega, fun k e he => ?_⟩
 rw [hget_eq] at he
 rcases Nat.lt_or_ge k σ.length with q | q
 ·rw [List.getElem?_append_left q, ← hget_eq] at he
  exact (h3 k e he).ext E
 ·rw [List.getElem?_append_right q] at he
  obtain rfl : k = σ.length := by
   rcases Nat.lt_or_ge (k - σ.length) 1 with z | z
   ·omega
   ·rw [List.getElem?_eq_none (by simpa using z)] at he; cases he
  simp at he
  rw [← he, Ad.1 _ h1, ← h2]
  exact hc
theorem mem_of_contains {α : Type} [BEq α] [LawfulBEq α] {L : List α} {a : α} (h : L.contains a = true) : a ∈ L := by simpa using h
theorem lkF_lt : ∀ t ∈ lkF, t.2.2 < nF := by decide +kernel
theorem laid_of (W : QW Z a0) {k : Nat} (hk : k < nF) : Laid Z a0 cName cName (fNm k) (fDs k) := by
 have q := (qw_lay W) k hk
 cases hf : fFin k with
 | true => rw [hf] at q; exact Or.inr q
 | false => rw [hf] at q; exact Or.inl q
theorem qfit_inv {ty : FieldType} {v w : Value} (h : qfit ty v = some w) : v = w ∧ narrow ty (qv ad w) = qv ad w ∧ fits ty (qv ad w) = true := by
 unfold qfit at h
 split at h
 ·cases h; exact ⟨rfl, rfl, rfl⟩
 ·rename_i x
  obtain ⟨y, hy, h⟩ := Option.bind_eq_some_iff.mp h
  cases h
  unfold qboo at hy
  split at hy
  ·rename_i e; cases hy; subst e; exact ⟨rfl, rfl, rfl⟩
  ·split at hy
   ·rename_i e; cases hy; subst e; exact ⟨rfl, rfl, rfl⟩
   ·cases hy
 ·cases h; exact ⟨rfl, rfl, rfl⟩
 ·cases h; exact ⟨rfl, rfl, rfl⟩
 ·cases h
theorem vget_set {vs : List Value} {k j : Nat} {w : Value} (hk : k < vs.length) : vget (vs.set k w) j = if j = k then some w else vget vs j := by
 simp only [vget_eq, List.getElem?_set]
 by_cases e : k = j
 ·subst e; simp [hk]
 ·simp [e, Ne.symm e]
theorem ald_in {α : Type} {f : α → Value} {xs : List α} {c : Cell} {j : Int32} {x : α} (hc : c.slots = (xs.map f).toArray) (h : aget xs j = some x) : ¬ (j < 0 ∨ c.slots.size ≤ j.toNatClampNeg) ∧ c.slots[j.toNatClampNeg]? = some (f x) := by
 obtain ⟨h1, h2⟩ := aget_inv h
 have h3 := (List.getElem?_eq_some_iff.mp h2).1
 refine ⟨fun q => ?_, by rw [hc]; simp [h2]⟩
 rcases q with q | q
 ·exact h1 q
 ·rw [hc] at q; simp at q; omega
theorem ast_in {α : Type} {f : α → Value} {xs ys : List α} {c : Cell} {j : Int32} {x : α} (hc : c.slots = (xs.map f).toArray) (h : aset xs j x = some ys) : ¬ (j < 0 ∨ c.slots.size ≤ j.toNatClampNeg) ∧ (c.setSlot j.toNatClampNeg (f x)).slots = (ys.map f).toArray := by
 obtain ⟨h1, h2, rfl⟩ := aset_inv h
 refine ⟨fun q => ?_, by simp [Cell.setSlot, hc, List.map_set]⟩
 rcases q with q | q
 ·exact h1 q
 ·rw [hc] at q; simp at q; omega
theorem qgrow {σ : QHeap} {c : QCell} : qhs (σ ++ [c]) - qhs σ = qsz c := by rw [qhs_app]; simp [qhs]
set_option maxHeartbeats 4000000 in
theorem QTri.newArr (Ad : QAd n0 ad) (W : QW Z a0) {pc aux : Nat} {L : QLoc} {S : List Value} {σ : QHeap} {aty : ArrayType} {n : Int32} {k : Nat} {c : QCell} (hk : qnew n = some k) (hc : pCode m pc = some (.newarray aty, aux)) (hz : qsz c = k)
  (hq : ∀ (h' : Heap) (a : Addr) (cA : ClassId), Arr Z h' a (newA cA (newarray.typeOf aty) n) (newarray.typeOf aty) → QCellOk Z ad h' a c)
  (h : QTri l Z n0 ad m (pc + 2, L, .ref σ.length :: S, σ ++ [c]) v σ') : QTri l Z n0 ad m (pc, L, .int n :: S, σ) v σ' := by
 have hd : decode (pBytes m) pc = .ok (.newarray aty, 2) := pDecN hc rfl
 obtain ⟨n1, n2, n3⟩ := qnew_inv hk
 refine QTri.gen h (by simp) (by simp [qhs_app]) fun p e R s mid args below meth c' T locs cells slots C hcx X hR hF hL hC hn hc1 hsl => ?_
 obtain ⟨hx, hZ, hby, hml, hret, hown, hnm, hfr, hlo⟩ := hcx
 have hd2 : decode c'.code pc = .ok (.newarray aty, 2) := by rw [hby]; exact hd
 simp only [List.length_append, List.length_singleton, Nat.add_sub_cancel_left, qgrow, hz] at hc1 hsl ⊢
 obtain ⟨T₁, h₁, cA, X₁, e₁, E₁, A₁, st⟩ := newP X hx hZ (aty := aty) (qw_arr W (newarray.typeOf aty) (mem_of_contains (show aTys.contains (newarray.typeOf aty) = true from pRest hc))) rfl (g := mkF mid pc C (.int n :: S.map (qv ad))) rfl hd2 rfl n1 (cap := k) (by omega) (by omega) hc1 hsl
 have hsz : h₁.size = T.heap.size + 1 := by
  have q1 := X₁.heapSize
  have q2 : T.heap.size < h₁.size := A₁.lt
  have q3 := hR.2.1
  rw [e₁] at q1
  have : n0 + (σ.length - k0) = s.heap.size + cells := hn
  have q3' : T.heap.size = n0 + (σ.length - k0) := q3
  omega
 refine ⟨T₁, locs, C, X₁, ?_, hF, hL, hC, fun target q => ?_⟩
 ·rw [e₁]; exact QRep.push hR Ad E₁ hsz (hq _ _ _ A₁)
 ·refine st _ ?_
  have e2 : ad σ.length = T.heap.size := by rw [Ad.1 _ hR.1]; exact hR.2.1.symm
  simp only [List.map_cons, qv, e2] at q
  exact q
set_option maxHeartbeats 4000000 in
theorem QTri.getfield (W : QW Z a0) {pc idx aux : Nat} {L : QLoc} {S : List Value} {σ : QHeap} {st' : QSt} (h : QTri l Z n0 ad m st' v σ') (hc : pCode m pc = some (.getfield idx, aux)) (hs : qget (pc + 3) L S σ aux = some st') : QTri l Z n0 ad m (pc, L, S, σ) v σ' := by
 have hd : decode (pBytes m) pc = .ok (.getfield idx, 3) := pDecN hc rfl
 obtain ⟨a, S', vs, w, rfl, hvs, hw, rfl⟩ := qget_inv hs
 have hm := mem_of_contains (show lkF.contains (pK m, idx, aux) = true from pRest hc)
 have hlt := lkF_lt _ hm
 refine QTri.pure h rfl fun p e R s mid args below meth c T locs cells slots C hcx X hR hL hC => ?_
 obtain ⟨hx, hZ, hby, hml, hret, hown, hnm, hfr, hlo⟩ := hcx
 have hd2 : decode c.code pc = .ok (.getfield idx, 3) := by rw [hby]; exact hd
 have F := (hR.2.2 _ _ hvs).2.2 aux w hlt hw
 obtain ⟨T₁, X₁, e₁, st⟩ := getF X hx hZ hown (host := "") (index := idx) (Or.inl (qw_fl W (pK m, idx, aux) hm)) Via.refl rfl F (g := mkF mid pc C (List.map (qv ad) (.ref a :: S'))) rfl rfl hd2
 exact ⟨T₁, C, X₁, e₁, hL, hC, st⟩
set_option maxHeartbeats 4000000 in
theorem QTri.putfield (Ad : QAd n0 ad) (W : QW Z a0) {pc idx aux : Nat} {L : QLoc} {S : List Value} {σ : QHeap} {st' : QSt} (h : QTri l Z n0 ad m st' v σ') (hc : pCode m pc = some (.putfield idx, aux)) (hs : qput (pc + 3) L S σ aux = some st') : QTri l Z n0 ad m (pc, L, S, σ) v σ' := by
 have hd : decode (pBytes m) pc = .ok (.putfield idx, 3) := pDecN hc rfl
 obtain ⟨w, a, S', vs, u, rfl, hvs, b1, b2, hu, rfl⟩ := qput_inv hs
 obtain ⟨r1, r2⟩ := Bool.and_eq_true_iff.mp (show (lkF.contains (pK m, idx, aux) && (!fFin aux || (pK m == 1 && pNm m == "<init>"))) = true from pRest hc)
 have hm := mem_of_contains r1
 have hlt := lkF_lt _ hm
 obtain ⟨rfl, q2, q3⟩ := qfit_inv (ad := ad) hu
 have hsz : qhs (σ.set a (Sum.inl (vs.set aux w))) = qhs σ := qhs_set hvs rfl
 refine QTri.gen h (by simp) (by show qhs σ ≤ qhs (σ.set a (Sum.inl (vs.set aux w))); rw [hsz]; exact Nat.le_refl _) fun p e R s mid args below meth c T locs cells slots C hcx X hR hF hL hC hn hc1 hsl => ?_
 obtain ⟨hx, hZ, hby, hml, hret, hown, hnm, hfr, hlo⟩ := hcx
 have hd2 : decode c.code pc = .ok (.putfield idx, 3) := by rw [hby]; exact hd
 obtain ⟨E, l1, Fs⟩ := hR.2.2 _ _ hvs
 obtain ⟨old, hold⟩ : ∃ old, vget vs aux = some old := by rw [vget_eq]; exact ⟨_, List.getElem?_eq_getElem b2⟩
 have lay : (Cond.lays cName cName (fNm aux) (fDs aux)).before a0 Z = true ∨ ((Cond.laysFinal cName cName (fNm aux) (fDs aux)).before a0 Z = true ∧ kName (pK m) = cName ∧ meth.name = "<init>") := by
  have q := (qw_lay W) aux hlt
  cases hf : fFin aux with
  | false => rw [hf] at q; exact Or.inl q
  | true =>
   rw [hf] at q r2
   simp at r2
   exact Or.inr ⟨q, by rw [r2.1]; exact kOne, by rw [hnm]; exact r2.2⟩
 obtain ⟨T₁, h₁, X₁, e₁, W₁, st⟩ := putF X hx hZ hown (host := "") (index := idx) (Or.inl (qw_fl W (pK m, idx, aux) hm)) Via.refl rfl (Fs aux old hlt hold) E lay ((qw_inst W)) (fPrs aux hlt) q2 q3 (g := mkF mid pc C (List.map (qv ad) (w :: .ref a :: S'))) rfl rfl hd2
 refine ⟨T₁, _, C, ?_, ?_, Fr.snoc X₁ hF (by rw [Ad.1 a b1]; exact Nat.le_add_right _ _), hL, hC, st⟩
 ·show Stand _ _ _ _ _ _ _ _ _ _ _ _ (cells + ((σ.set a (Sum.inl (vs.set aux w))).length - σ.length)) (slots + (qhs (σ.set a (Sum.inl (vs.set aux w))) - qhs σ))
  rw [hsz, Nat.sub_self, List.length_set, Nat.sub_self]
  exact X₁
 ·rw [e₁]
  refine QRep.set hR Ad W₁ hvs ⟨E.wr W₁, by simpa using l1, fun k u hk hu => ?_⟩
  rw [vget_set b2] at hu
  split at hu
  ·rename_i e; cases hu; rw [e]; exact (Fs aux old hlt hold).same W₁
  ·rename_i ne
   exact (Fs k u hk hu).other W₁ (Or.inr (slot_ne (laid_of W hk) (laid_of W hlt) (fun z => ne (fInj _ hk _ hlt z)) (fPrs _ hk) (fPrs _ hlt)))
theorem tyI_inv {ty : FieldType} (h : tyI ty = true) : ty = .int := by cases ty <;> simp [tyI] at h; rfl
theorem tyB_inv {ty : FieldType} (h : tyB ty = true) : ty = .boolean ∨ ty = .byte := by cases ty <;> simp [tyB] at h <;> simp
set_option maxHeartbeats 4000000 in
theorem QTri.iaload {pc aux : Nat} {L : QLoc} {S : List Value} {σ : QHeap} {st' : QSt} (h : QTri l Z n0 ad m st' v σ') (hc : pCode m pc = some (.iaload, aux)) (hs : qald (pc + 1) L S σ tyI = some st') : QTri l Z n0 ad m (pc, L, S, σ) v σ' := by
 have hd : decode (pBytes m) pc = .ok (.iaload, 1) := pDecN hc rfl
 obtain ⟨j, a, S', ty, xs, w, rfl, hx1, ht, hw, rfl⟩ := qald_inv hs
 obtain rfl := tyI_inv ht
 refine QTri.stack h fun p e R s mid args below meth c T locs cells slots C target hx hZ hby hown X hR hL k => ?_
 have hd2 : decode c.code pc = .ok (.iaload, 1) := by rw [hby]; exact hd
 obtain ⟨cl, A, hsl⟩ := hR.2.2 _ _ hx1
 obtain ⟨i1, i2⟩ := ald_in hsl hw
 exact X.iaload hx A.1 (State.isArrayOf_alike hZ.alike A.2.1) A.2.2 i1 i2 (g := mkF mid pc C (List.map (qv ad) (.int j :: .ref a :: S'))) rfl rfl hd2 _ k
set_option maxHeartbeats 4000000 in
theorem QTri.baload {pc aux : Nat} {L : QLoc} {S : List Value} {σ : QHeap} {st' : QSt} (h : QTri l Z n0 ad m st' v σ') (hc : pCode m pc = some (.baload, aux)) (hs : qald (pc + 1) L S σ tyB = some st') : QTri l Z n0 ad m (pc, L, S, σ) v σ' := by
 have hd : decode (pBytes m) pc = .ok (.baload, 1) := pDecN hc rfl
 obtain ⟨j, a, S', ty, xs, w, rfl, hx1, ht, hw, rfl⟩ := qald_inv hs
 refine QTri.stack h fun p e R s mid args below meth c T locs cells slots C target hx hZ hby hown X hR hL k => ?_
 have hd2 : decode c.code pc = .ok (.baload, 1) := by rw [hby]; exact hd
 obtain ⟨cl, A, hsl⟩ := hR.2.2 _ _ hx1
 obtain ⟨i1, i2⟩ := ald_in hsl hw
 rcases tyB_inv ht with rfl | rfl
 ·exact X.baloadBooleans hx A.1 (State.isArrayOf_alike hZ.alike A.2.1) A.2.2 i1 i2 (g := mkF mid pc C (List.map (qv ad) (.int j :: .ref a :: S'))) rfl rfl hd2 _ k
 ·exact X.baloadBytes hx A.1 (State.isArrayOf_alike hZ.alike A.2.1) A.2.2 i1 i2 (g := mkF mid pc C (List.map (qv ad) (.int j :: .ref a :: S'))) rfl rfl hd2 _ k
set_option maxHeartbeats 4000000 in
theorem QTri.laload {pc aux : Nat} {L : QLoc} {S : List Value} {σ : QHeap} {st' : QSt} (h : QTri l Z n0 ad m st' v σ') (hc : pCode m pc = some (.laload, aux)) (hs : qaldJ (pc + 1) L S σ = some st') : QTri l Z n0 ad m (pc, L, S, σ) v σ' := by
 have hd : decode (pBytes m) pc = .ok (.laload, 1) := pDecN hc rfl
 obtain ⟨j, a, S', xs, w, rfl, hx1, hw, rfl⟩ := qaldJ_inv hs
 refine QTri.stack h fun p e R s mid args below meth c T locs cells slots C target hx hZ hby hown X hR hL k => ?_
 have hd2 : decode c.code pc = .ok (.laload, 1) := by rw [hby]; exact hd
 obtain ⟨cl, A, hsl⟩ := hR.2.2 _ _ hx1
 obtain ⟨i1, i2⟩ := ald_in hsl hw
 exact X.laload hx A.1 (State.isArrayOf_alike hZ.alike A.2.1) A.2.2 i1 i2 (g := mkF mid pc C (List.map (qv ad) (.int j :: .ref a :: S'))) rfl rfl hd2 _ k
theorem QTri.stored (Ad : QAd n0 ad) {pc : Nat} {L : QLoc} {S S' : List Value} {σ : QHeap} {a j : Nat} {w : Value} {c d : QCell} (hx1 : hget σ a = some c) (b1 : k0 ≤ a) (hz : qsz d = qsz c) (h : QTri l Z n0 ad m (pc + 1, L, S', σ.set a d) v σ')
  (hs : ∀ (p : Program) (e : Env) (R : Room) (s : State) (mid : MethodId) (args : Array Value) (below : List Frame) (meth : Method) (c : Code) (T : State) (locs : List Loc) (cells slots : Nat) (C : Array Slot),
   QCx Z p R s mid meth c m → Stand p l e R s mid args below meth c T locs cells slots → QRep Z n0 ad T.heap σ →
   ∃ T' h', Stand p l e R s mid args below meth c T' (locs ++ [⟨ad a, j⟩]) cells slots ∧ T'.heap = h' ∧ Wr T.heap h' (ad a) j w ∧ QCellOk Z ad h' (ad a) d ∧ ∀ target, Steps p.tables e below (T'.setTop (mkF mid (pc + 1) C (S'.map (qv ad)))) target → Steps p.tables e below (T.setTop (mkF mid pc C (S.map (qv ad)))) target) :
  QTri l Z n0 ad m (pc, L, S, σ) v σ' := by
 have hsz : qhs (σ.set a d) = qhs σ := qhs_set hx1 hz
 refine QTri.gen h (by simp) (by show qhs σ ≤ qhs (σ.set a d); rw [hsz]; exact Nat.le_refl _) fun p e R s mid args below meth c T locs cells slots C hcx X hR hF hL hC hn hc1 hsl => ?_
 obtain ⟨T₁, h₁, X₁, e₁, W₁, Q₁, st⟩ := hs p e R s mid args below meth c T locs cells slots C hcx X hR
 refine ⟨T₁, _, C, ?_, ?_, Fr.snoc X₁ hF (by rw [Ad.1 a b1]; exact Nat.le_add_right _ _), hL, hC, st⟩
 ·show Stand _ _ _ _ _ _ _ _ _ _ _ _ (cells + ((σ.set a d).length - σ.length)) (slots + (qhs (σ.set a d) - qhs σ))
  rw [hsz, Nat.sub_self, List.length_set, Nat.sub_self]
  exact X₁
 ·rw [e₁]
  exact QRep.set hR Ad W₁ hx1 Q₁
set_option maxHeartbeats 4000000 in
theorem QTri.iastore (Ad : QAd n0 ad) {pc aux : Nat} {L : QLoc} {S : List Value} {σ : QHeap} {st' : QSt} (h : QTri l Z n0 ad m st' v σ') (hc : pCode m pc = some (.iastore, aux)) (hs : qast (pc + 1) L S σ tyI = some st') : QTri l Z n0 ad m (pc, L, S, σ) v σ' := by
 have hd : decode (pBytes m) pc = .ok (.iastore, 1) := pDecN hc rfl
 obtain ⟨w, j, a, S', ty, xs, ys, rfl, hx1, ht, b1, hw, rfl⟩ := qast_inv hs
 obtain rfl := tyI_inv ht
 refine QTri.stored Ad (j := j.toNatClampNeg) (w := .int w) hx1 b1 (by rw [(aset_inv hw).2.2]; simp [qsz]) h fun p e R s mid args below meth c T locs cells slots C hcx X hR => ?_
 have hd2 : decode c.code pc = .ok (.iastore, 1) := by rw [hcx.2.2.1]; exact hd
 obtain ⟨cl, A, hsl⟩ := hR.2.2 _ _ hx1
 obtain ⟨i1, i2⟩ := ast_in hsl hw
 obtain ⟨T₁, h₁, X₁, e₁, W₁, st⟩ := stI X hcx.1 hcx.2.1 rfl A i1 (g := mkF mid pc C (List.map (qv ad) (.int w :: .int j :: .ref a :: S'))) rfl rfl hd2
 exact ⟨T₁, h₁, X₁, e₁, W₁, ⟨_, A.same W₁, i2⟩, st⟩
set_option maxHeartbeats 4000000 in
theorem QTri.bastore (Ad : QAd n0 ad) {pc aux : Nat} {L : QLoc} {S : List Value} {σ : QHeap} {st' : QSt} (h : QTri l Z n0 ad m st' v σ') (hc : pCode m pc = some (.bastore, aux)) (hs : qast (pc + 1) L S σ tyB = some st') : QTri l Z n0 ad m (pc, L, S, σ) v σ' := by
 have hd : decode (pBytes m) pc = .ok (.bastore, 1) := pDecN hc rfl
 obtain ⟨w, j, a, S', ty, xs, ys, rfl, hx1, ht, b1, hw, rfl⟩ := qast_inv hs
 refine QTri.stored Ad (j := j.toNatClampNeg) (w := .int (qnar ty w)) hx1 b1 (by rw [(aset_inv hw).2.2]; simp [qsz]) h fun p e R s mid args below meth c T locs cells slots C hcx X hR => ?_
 have hd2 : decode c.code pc = .ok (.bastore, 1) := by rw [hcx.2.2.1]; exact hd
 obtain ⟨cl, A, hsl⟩ := hR.2.2 _ _ hx1
 obtain ⟨i1, i2⟩ := ast_in hsl hw
 rcases tyB_inv ht with rfl | rfl
 ·obtain ⟨T₁, h₁, X₁, e₁, W₁, st⟩ := stZ X hcx.1 hcx.2.1 rfl A i1 (g := mkF mid pc C (List.map (qv ad) (.int w :: .int j :: .ref a :: S'))) rfl rfl hd2
  exact ⟨T₁, h₁, X₁, e₁, W₁, ⟨_, A.same W₁, i2⟩, st⟩
 ·obtain ⟨T₁, h₁, X₁, e₁, W₁, st⟩ := stB X hcx.1 hcx.2.1 rfl A i1 (g := mkF mid pc C (List.map (qv ad) (.int w :: .int j :: .ref a :: S'))) rfl rfl hd2
  exact ⟨T₁, h₁, X₁, e₁, W₁, ⟨_, A.same W₁, i2⟩, st⟩
set_option maxHeartbeats 4000000 in
theorem QTri.lastore (Ad : QAd n0 ad) {pc aux : Nat} {L : QLoc} {S : List Value} {σ : QHeap} {st' : QSt} (h : QTri l Z n0 ad m st' v σ') (hc : pCode m pc = some (.lastore, aux)) (hs : qastJ (pc + 1) L S σ = some st') : QTri l Z n0 ad m (pc, L, S, σ) v σ' := by
 have hd : decode (pBytes m) pc = .ok (.lastore, 1) := pDecN hc rfl
 obtain ⟨w, j, a, S', xs, ys, rfl, hx1, b1, hw, rfl⟩ := qastJ_inv hs
 refine QTri.stored Ad (j := j.toNatClampNeg) (w := .long w) hx1 b1 (by rw [(aset_inv hw).2.2]; simp [qsz]) h fun p e R s mid args below meth c T locs cells slots C hcx X hR => ?_
 have hd2 : decode c.code pc = .ok (.lastore, 1) := by rw [hcx.2.2.1]; exact hd
 obtain ⟨cl, A, hsl⟩ := hR.2.2 _ _ hx1
 obtain ⟨i1, i2⟩ := ast_in hsl hw
 obtain ⟨T₁, h₁, X₁, e₁, W₁, st⟩ := stJ X hcx.1 hcx.2.1 rfl A i1 (g := mkF mid pc C (List.map (qv ad) (.long w :: .int j :: .ref a :: S'))) rfl rfl hd2
 exact ⟨T₁, h₁, X₁, e₁, W₁, ⟨_, A.same W₁, i2⟩, st⟩
set_option maxHeartbeats 4000000 in
theorem QTri.alen {pc aux : Nat} {L : QLoc} {S : List Value} {σ : QHeap} {st' : QSt} (h : QTri l Z n0 ad m st' v σ') (hc : pCode m pc = some (.arraylength, aux)) (hs : qlen (pc + 1) L S σ = some st') : QTri l Z n0 ad m (pc, L, S, σ) v σ' := by
 have hd : decode (pBytes m) pc = .ok (.arraylength, 1) := pDecN hc rfl
 obtain ⟨a, S', n, rfl, hx1, rfl⟩ := qlen_inv hs
 refine QTri.stack h fun p e R s mid args below meth c T locs cells slots C target hx hZ hby hown X hR hL k => ?_
 have hd2 : decode c.code pc = .ok (.arraylength, 1) := by rw [hby]; exact hd
 rcases hx1 with ⟨ty, xs, hx1, rfl⟩ | ⟨xs, hx1, rfl⟩
 ·obtain ⟨cl, A, hsl⟩ := hR.2.2 _ _ hx1
  have e1 : cl.slots.size = xs.length := by rw [hsl]; simp
  rw [← e1] at k
  exact X.arraylength hx A.1 (State.isArrayOf_alike hZ.alike A.2.1) (g := mkF mid pc C (List.map (qv ad) (.ref a :: S'))) rfl rfl hd2 _ k
 ·obtain ⟨cl, A, hsl⟩ := hR.2.2 _ _ hx1
  have e1 : cl.slots.size = xs.length := by rw [hsl]; simp
  rw [← e1] at k
  exact X.arraylength hx A.1 (State.isArrayOf_alike hZ.alike A.2.1) (g := mkF mid pc C (List.map (qv ad) (.ref a :: S'))) rfl rfl hd2 _ k
set_option maxHeartbeats 4000000 in
theorem QTri.newObj (Ad : QAd n0 ad) (W : QW Z a0) {pc idx aux : Nat} {L : QLoc} {S : List Value} {σ : QHeap} (h : QTri l Z n0 ad m (pc + 3, L, .ref σ.length :: S, σ ++ [.inl cDef]) v σ') (hc : pCode m pc = some (.new idx, aux)) : QTri l Z n0 ad m (pc, L, S, σ) v σ' := by
 have hd : decode (pBytes m) pc = .ok (.new idx, 3) := pDecN hc rfl
 have hm := mem_of_contains (show lkN.contains (pK m, idx) = true from pRest hc)
 refine QTri.gen h (by simp) (by simp [qhs_app]) fun p e R s mid args below meth c T locs cells slots C hcx X hR hF hL hC hn hc1 hsl => ?_
 obtain ⟨hx, hZ, hby, hml, hret, hown, hnm, hfr, hlo⟩ := hcx
 have hd2 : decode c.code pc = .ok (.new idx, 3) := by rw [hby]; exact hd
 simp only [List.length_append, List.length_singleton, Nat.add_sub_cancel_left, qgrow, qsz] at hc1 hsl ⊢
 obtain ⟨T₁, h₁, X₁, e₁, E₁, A₁, D₁, -, st⟩ := newO X hx hZ hown (index := idx) (qw_nw W (pK m, idx) hm) ((qw_inst W)) ((qw_init W)) rfl (g := mkF mid pc C (S.map (qv ad))) rfl hd2 hc1 hsl
 have hsz : h₁.size = T.heap.size + 1 := by
  have q1 := X₁.heapSize
  have q2 : T.heap.size < h₁.size := A₁.lt
  have q3 : T.heap.size = n0 + (σ.length - k0) := hR.2.1
  rw [e₁] at q1
  have : n0 + (σ.length - k0) = s.heap.size + cells := hn
  omega
 refine ⟨T₁, locs, C, X₁, ?_, hF, hL, hC, fun target q => ?_⟩
 ·rw [e₁]
  refine QRep.push hR Ad E₁ hsz ⟨A₁, cDefL, fun k u hk hu => ?_⟩
  rw [cDefs k hk] at hu
  cases hu
  have e3 : qv ad (defaultValue (fTy k)) = defaultValue (fTy k) := by
   cases hq : defaultValue (fTy k) with
   | ref a => exact absurd hq (fDef k hk a)
   | _ => rfl
  rw [e3]
  exact D₁ (laid_of W hk) (fPrs k hk)
 ·refine st _ ?_
  have e2 : ad σ.length = T.heap.size := by rw [Ad.1 _ hR.1]; exact hR.2.1.symm
  simp only [List.map_cons, qv, e2] at q
  exact q
set_option maxHeartbeats 8000000 in
theorem QTri.step (Ad : QAd n0 ad) (W : QW Z a0) {st st' : QSt} (h : QTri l Z n0 ad m st' v σ') (hs : qstep m st = some st') : QTri l Z n0 ad m st v σ' := by
 obtain ⟨pc, L, S, σ⟩ := st
 unfold qstep at hs
 dsimp only at hs
 split at hs
 rotate_left
 ·cases hs
 rename_i i aux hc
 have hd := pDecN hc rfl
 have hr := pRest hc
 unfold qexec at hs
 split at hs
 ·-- aload_n
  obtain ⟨w, h1, h2, rfl⟩ := qload_inv hs
  obtain ⟨a, rfl⟩ := isR_inv h2
  exact QTri.stack h fun p e R s mid args below meth c T locs cells slots C target hx hZ hby hown X hR hL k => XS.aloadN X.here hx rfl (hb hby hd) (hL.2.1 _ _ h1) rfl k
 ·obtain ⟨w, h1, h2, rfl⟩ := qload_inv hs
  obtain ⟨a, rfl⟩ := isR_inv h2
  exact QTri.stack h fun p e R s mid args below meth c T locs cells slots C target hx hZ hby hown X hR hL k => XS.aload X.here hx rfl (hb hby hd) (hL.2.1 _ _ h1) rfl k
 ·obtain ⟨w, h1, h2, rfl⟩ := qload_inv hs
  obtain ⟨a, rfl⟩ := isI_inv h2
  exact QTri.stack h fun p e R s mid args below meth c T locs cells slots C target hx hZ hby hown X hR hL k => XS.iloadN X.here hx rfl (hb hby hd) (hL.2.1 _ _ h1) k
 ·obtain ⟨w, h1, h2, rfl⟩ := qload_inv hs
  obtain ⟨a, rfl⟩ := isI_inv h2
  exact QTri.stack h fun p e R s mid args below meth c T locs cells slots C target hx hZ hby hown X hR hL k => XS.iload X.here hx rfl (hb hby hd) (hL.2.1 _ _ h1) k
 ·obtain ⟨w, h1, h2, rfl⟩ := qload_inv hs
  obtain ⟨a, rfl⟩ := isJ_inv h2
  exact QTri.stack h fun p e R s mid args below meth c T locs cells slots C target hx hZ hby hown X hR hL k => XT.lloadN X.here hx rfl (hb hby hd) (hL.2.1 _ _ h1) k
 ·obtain ⟨w, h1, h2, rfl⟩ := qload_inv hs
  obtain ⟨a, rfl⟩ := isJ_inv h2
  exact QTri.stack h fun p e R s mid args below meth c T locs cells slots C target hx hZ hby hown X hR hL k => XT.lload X.here hx rfl (hb hby hd) (hL.2.1 _ _ h1) k
 ·cases hs -- iconst
  exact QTri.stack h fun p e R s mid args below meth c T locs cells slots C target hx hZ hby hown X hR hL k => XS.iconst X.here hx rfl (hb hby hd) k
 ·cases hs
  exact QTri.stack h fun p e R s mid args below meth c T locs cells slots C target hx hZ hby hown X hR hL k => XS.bipush X.here hx rfl (hb hby hd) k
 ·cases hs
  exact QTri.stack h fun p e R s mid args below meth c T locs cells slots C target hx hZ hby hown X hR hL k => XS.sipush X.here hx rfl (hb hby hd) k
 ·cases hs
  exact QTri.stack h fun p e R s mid args below meth c T locs cells slots C target hx hZ hby hown X hR hL k => XT.lconst X.here hx rfl (hb hby hd) k
 ·-- ldc
  unfold qldc at hs
  split at hs
  ·rename_i w hw
   cases hs
   obtain ⟨x, hx1, hx2⟩ := qw_cI W (pK m, _, aux) (mem_of_contains (show lkC.contains (pK m, _, aux) = true from hr))
   rw [show vget cK aux = some w from hw] at hx1
   cases hx1
   exact QTri.stack h fun p e R s mid args below meth c T locs cells slots C target hx hZ hby hown X hR hL k => X.ldcI hx hown (mv hZ hx2) rfl (hb hby hd) k
  ·cases hs
 ·unfold qldc at hs
  split at hs
  ·rename_i w hw
   cases hs
   obtain ⟨x, hx1, hx2⟩ := qw_cJ W (pK m, _, aux) (mem_of_contains (show lkD.contains (pK m, _, aux) = true from hr))
   rw [show vget cK aux = some w from hw] at hx1
   cases hx1
   exact QTri.stack h fun p e R s mid args below meth c T locs cells slots C target hx hZ hby hown X hR hL k => X.ldc2J hx hown (mv hZ hx2) rfl (hb hby hd) k
  ·cases hs
 ·-- istore_n
  obtain ⟨w, S', L', rfl, h2, h3, rfl⟩ := qstore_inv hs
  obtain ⟨a, rfl⟩ := isI_inv h2
  exact QTri.frame h fun p e R s mid args below meth c T locs cells slots C hcx X hR hL hC => by
   obtain ⟨D, d1, d2, d3⟩ := store_ok hL h3
   exact ⟨D, d2, d3.trans hC, fun target k => XS.istoreN X.here hcx.1 rfl (hb hcx.2.2.1 hd) rfl d1 k⟩
 ·obtain ⟨w, S', L', rfl, h2, h3, rfl⟩ := qstore_inv hs
  obtain ⟨a, rfl⟩ := isI_inv h2
  exact QTri.frame h fun p e R s mid args below meth c T locs cells slots C hcx X hR hL hC => by
   obtain ⟨D, d1, d2, d3⟩ := store_ok hL h3
   exact ⟨D, d2, d3.trans hC, fun target k => XS.istore X.here hcx.1 rfl (hb hcx.2.2.1 hd) rfl d1 k⟩
 ·obtain ⟨w, S', L', rfl, h2, h3, rfl⟩ := qstore_inv hs
  obtain ⟨a, rfl⟩ := isJ_inv h2
  exact QTri.frame h fun p e R s mid args below meth c T locs cells slots C hcx X hR hL hC => by
   obtain ⟨D, d1, d2, d3⟩ := store_ok hL h3
   exact ⟨D, d2, d3.trans hC, fun target k => XT.lstoreN X.here hcx.1 rfl (hb hcx.2.2.1 hd) rfl d1 k⟩
 ·obtain ⟨w, S', L', rfl, h2, h3, rfl⟩ := qstore_inv hs
  obtain ⟨a, rfl⟩ := isJ_inv h2
  exact QTri.frame h fun p e R s mid args below meth c T locs cells slots C hcx X hR hL hC => by
   obtain ⟨D, d1, d2, d3⟩ := store_ok hL h3
   exact ⟨D, d2, d3.trans hC, fun target k => XT.lstore X.here hcx.1 rfl (hb hcx.2.2.1 hd) rfl d1 k⟩
 ·obtain ⟨w, S', L', rfl, h2, h3, rfl⟩ := qstore_inv hs
  obtain ⟨a, rfl⟩ := isR_inv h2
  exact QTri.frame h fun p e R s mid args below meth c T locs cells slots C hcx X hR hL hC => by
   obtain ⟨D, d1, d2, d3⟩ := store_ok hL h3
   exact ⟨D, d2, d3.trans hC, fun target k => XS.astoreN X.here hcx.1 rfl (hb hcx.2.2.1 hd) rfl rfl d1 k⟩
 ·obtain ⟨w, S', L', rfl, h2, h3, rfl⟩ := qstore_inv hs
  obtain ⟨a, rfl⟩ := isR_inv h2
  exact QTri.frame h fun p e R s mid args below meth c T locs cells slots C hcx X hR hL hC => by
   obtain ⟨D, d1, d2, d3⟩ := store_ok hL h3
   exact ⟨D, d2, d3.trans hC, fun target k => XS.astore X.here hcx.1 rfl (hb hcx.2.2.1 hd) rfl rfl d1 k⟩
 ·-- iinc
  unfold qinc at hs
  split at hs
  ·rename_i x hx1
   split at hs
   ·rename_i L' hL'
    cases hs
    exact QTri.frame h fun p e R s mid args below meth c T locs cells slots C hcx X hR hL hC => by
     obtain ⟨D, d1, d2, d3⟩ := store_ok hL hL'
     exact ⟨D, d2, d3.trans hC, fun target k => XS.iinc X.here hcx.1 rfl (hb hcx.2.2.1 hd) (hL.2.1 _ _ hx1) d1 k⟩
   ·cases hs
  ·cases hs
 ·obtain ⟨x, y, S', rfl, rfl⟩ := qbin_inv hs -- iadd
  exact QTri.stack h fun p e R s mid args below meth c T locs cells slots C target hx hZ hby hown X hR hL k => XS.iadd X.here hx rfl (hb hby hd) rfl k
 ·obtain ⟨x, y, S', rfl, rfl⟩ := qbin_inv hs
  exact QTri.stack h fun p e R s mid args below meth c T locs cells slots C target hx hZ hby hown X hR hL k => XS.isub X.here hx rfl (hb hby hd) rfl k
 ·obtain ⟨x, y, S', rfl, rfl⟩ := qbin_inv hs
  exact QTri.stack h fun p e R s mid args below meth c T locs cells slots C target hx hZ hby hown X hR hL k => XS.imul X.here hx rfl (hb hby hd) rfl k
 ·obtain ⟨x, y, S', rfl, rfl⟩ := qbin_inv hs
  exact QTri.stack h fun p e R s mid args below meth c T locs cells slots C target hx hZ hby hown X hR hL k => XS.iand X.here hx rfl (hb hby hd) rfl k
 ·obtain ⟨x, y, S', rfl, rfl⟩ := qbin_inv hs
  exact QTri.stack h fun p e R s mid args below meth c T locs cells slots C target hx hZ hby hown X hR hL k => XT.ior X.here hx rfl (hb hby hd) rfl k
 ·obtain ⟨x, y, S', rfl, rfl⟩ := qbin_inv hs
  exact QTri.stack h fun p e R s mid args below meth c T locs cells slots C target hx hZ hby hown X hR hL k => XT.ixor X.here hx rfl (hb hby hd) rfl k
 ·obtain ⟨x, y, S', rfl, rfl⟩ := qbin_inv hs
  exact QTri.stack h fun p e R s mid args below meth c T locs cells slots C target hx hZ hby hown X hR hL k => XT.ishl X.here hx rfl (hb hby hd) rfl k
 ·obtain ⟨x, y, S', rfl, rfl⟩ := qbin_inv hs
  exact QTri.stack h fun p e R s mid args below meth c T locs cells slots C target hx hZ hby hown X hR hL k => XT.ishr X.here hx rfl (hb hby hd) rfl k
 ·obtain ⟨x, y, S', rfl, rfl⟩ := qbin_inv hs
  exact QTri.stack h fun p e R s mid args below meth c T locs cells slots C target hx hZ hby hown X hR hL k => XT.iushr X.here hx rfl (hb hby hd) rfl k
 ·obtain ⟨x, y, z, S', rfl, hz, rfl⟩ := qbino_inv hs -- idiv
  unfold qdiv at hz
  split at hz
  ·cases hz
  ·rename_i hy
   cases hz
   exact QTri.stack h fun p e R s mid args below meth c T locs cells slots C target hx hZ hby hown X hR hL k => XS.idiv X.here hx rfl (hb hby hd) rfl hy k
 ·obtain ⟨x, y, z, S', rfl, hz, rfl⟩ := qbino_inv hs
  unfold qrem at hz
  split at hz
  ·cases hz
  ·rename_i hy
   cases hz
   exact QTri.stack h fun p e R s mid args below meth c T locs cells slots C target hx hZ hby hown X hR hL k => iremM X hx rfl (hb hby hd) rfl hy k
 ·obtain ⟨x, S', rfl, rfl⟩ := quni_inv hs -- ineg
  exact QTri.stack h fun p e R s mid args below meth c T locs cells slots C target hx hZ hby hown X hR hL k => XS.ineg X.here hx rfl (hb hby hd) rfl k
 ·obtain ⟨x, S', rfl, rfl⟩ := quni_inv hs
  exact QTri.stack h fun p e R s mid args below meth c T locs cells slots C target hx hZ hby hown X hR hL k => XT.i2l X.here hx rfl (hb hby hd) rfl k
 ·obtain ⟨x, S', rfl, rfl⟩ := quni_inv hs
  exact QTri.stack h fun p e R s mid args below meth c T locs cells slots C target hx hZ hby hown X hR hL k => XT.i2b X.here hx rfl (hb hby hd) rfl k
 ·obtain ⟨x, S', rfl, rfl⟩ := quniJ_inv hs
  exact QTri.stack h fun p e R s mid args below meth c T locs cells slots C target hx hZ hby hown X hR hL k => XT.l2i X.here hx rfl (hb hby hd) rfl k
 ·obtain ⟨x, S', rfl, rfl⟩ := quniJ_inv hs
  exact QTri.stack h fun p e R s mid args below meth c T locs cells slots C target hx hZ hby hown X hR hL k => XT.lneg X.here hx rfl (hb hby hd) rfl k
 ·obtain ⟨x, y, S', rfl, rfl⟩ := qbinJ_inv hs
  exact QTri.stack h fun p e R s mid args below meth c T locs cells slots C target hx hZ hby hown X hR hL k => XT.ladd X.here hx rfl (hb hby hd) rfl k
 ·obtain ⟨x, y, S', rfl, rfl⟩ := qbinJ_inv hs
  exact QTri.stack h fun p e R s mid args below meth c T locs cells slots C target hx hZ hby hown X hR hL k => XT.lsub X.here hx rfl (hb hby hd) rfl k
 ·obtain ⟨x, y, S', rfl, rfl⟩ := qbinJ_inv hs
  exact QTri.stack h fun p e R s mid args below meth c T locs cells slots C target hx hZ hby hown X hR hL k => XT.lmul X.here hx rfl (hb hby hd) rfl k
 ·obtain ⟨x, y, S', rfl, rfl⟩ := qbinJ_inv hs
  exact QTri.stack h fun p e R s mid args below meth c T locs cells slots C target hx hZ hby hown X hR hL k => XT.land X.here hx rfl (hb hby hd) rfl k
 ·obtain ⟨x, y, S', rfl, rfl⟩ := qbinJ_inv hs
  exact QTri.stack h fun p e R s mid args below meth c T locs cells slots C target hx hZ hby hown X hR hL k => XT.lor X.here hx rfl (hb hby hd) rfl k
 ·obtain ⟨x, y, S', rfl, rfl⟩ := qbinJ_inv hs
  exact QTri.stack h fun p e R s mid args below meth c T locs cells slots C target hx hZ hby hown X hR hL k => XT.lxor X.here hx rfl (hb hby hd) rfl k
 ·obtain ⟨x, y, S', rfl, rfl⟩ := qshJ_inv hs
  exact QTri.stack h fun p e R s mid args below meth c T locs cells slots C target hx hZ hby hown X hR hL k => XT.lshl X.here hx rfl (hb hby hd) rfl k
 ·obtain ⟨x, y, S', rfl, rfl⟩ := qshJ_inv hs
  exact QTri.stack h fun p e R s mid args below meth c T locs cells slots C target hx hZ hby hown X hR hL k => XT.lshr X.here hx rfl (hb hby hd) rfl k
 ·obtain ⟨x, y, S', rfl, rfl⟩ := qshJ_inv hs
  exact QTri.stack h fun p e R s mid args below meth c T locs cells slots C target hx hZ hby hown X hR hL k => XT.lushr X.here hx rfl (hb hby hd) rfl k
 ·split at hs -- lcmp
  ·cases hs
   exact QTri.stack h fun p e R s mid args below meth c T locs cells slots C target hx hZ hby hown X hR hL k => XT.lcmp X.here hx rfl (hb hby hd) rfl k
  ·cases hs
 ·cases hs -- goto
  obtain ⟨t1, t2⟩ := qtgt_spec hr
  exact QTri.stack h fun p e R s mid args below meth c T locs cells slots C target hx hZ hby hown X hR hL k => XS.goto X.here hx rfl rfl (hb hby hd) t1 t2 k
 ·obtain ⟨x, S', rfl, rfl⟩ := qif_inv hs
  obtain ⟨t1, t2⟩ := qtgt_spec hr
  cases hh : ifCond.holds _ x with
  | true => rw [hh] at h; exact QTri.stack h fun p e R s mid args below meth c T locs cells slots C target hx hZ hby hown X hR hL k => XS.ifYes X.here hx rfl rfl (hb hby hd) rfl hh t1 t2 k
  | false => rw [hh] at h; exact QTri.stack h fun p e R s mid args below meth c T locs cells slots C target hx hZ hby hown X hR hL k => XS.ifNo X.here hx rfl (hb hby hd) rfl hh k
 ·obtain ⟨x, y, S', rfl, rfl⟩ := qicmp_inv hs
  obtain ⟨t1, t2⟩ := qtgt_spec hr
  cases hh : if_icmp.holds _ x y with
  | true => rw [hh] at h; exact QTri.stack h fun p e R s mid args below meth c T locs cells slots C target hx hZ hby hown X hR hL k => XS.icmpYes X.here hx rfl rfl (hb hby hd) rfl hh t1 t2 k
  | false => rw [hh] at h; exact QTri.stack h fun p e R s mid args below meth c T locs cells slots C target hx hZ hby hown X hR hL k => XS.icmpNo X.here hx rfl (hb hby hd) rfl hh k
 ·unfold qdup at hs
  split at hs
  ·cases hs
   exact QTri.stack h fun p e R s mid args below meth c T locs cells slots C target hx hZ hby hown X hR hL k => XS.dup X.here hx rfl (hb hby hd) rfl rfl k
  ·cases hs
   exact QTri.stack h fun p e R s mid args below meth c T locs cells slots C target hx hZ hby hown X hR hL k => XS.dup X.here hx rfl (hb hby hd) rfl rfl k
  ·cases hs
 ·unfold qdup2 at hs
  split at hs
  ·cases hs
   exact QTri.stack h fun p e R s mid args below meth c T locs cells slots C target hx hZ hby hown X hR hL k => XT.dup2 X.here hx rfl (hb hby hd) rfl rfl rfl k
  ·cases hs
   exact QTri.stack h fun p e R s mid args below meth c T locs cells slots C target hx hZ hby hown X hR hL k => XT.dup2 X.here hx rfl (hb hby hd) rfl rfl rfl k
  ·cases hs
   exact QTri.stack h fun p e R s mid args below meth c T locs cells slots C target hx hZ hby hown X hR hL k => XT.dup2L X.here hx rfl (hb hby hd) rfl k
  ·cases hs
 ·unfold qpop at hs
  split at hs
  ·cases hs
   exact QTri.stack h fun p e R s mid args below meth c T locs cells slots C target hx hZ hby hown X hR hL k => XT.pop X.here hx rfl (hb hby hd) rfl rfl k
  ·cases hs
   exact QTri.stack h fun p e R s mid args below meth c T locs cells slots C target hx hZ hby hown X hR hL k => XT.pop X.here hx rfl (hb hby hd) rfl rfl k
  ·cases hs
 ·exact QTri.getfield W h hc hs
 ·exact QTri.putfield Ad W h hc hs
 ·exact QTri.iaload h hc hs
 ·exact QTri.baload h hc hs
 ·exact QTri.laload h hc hs
 ·exact QTri.iastore Ad h hc hs
 ·exact QTri.bastore Ad h hc hs
 ·exact QTri.lastore Ad h hc hs
 ·exact QTri.alen h hc hs
 ·-- newarray
  unfold qnewA at hs
  split at hs
  ·split at hs
   ·obtain ⟨k, hk, hs⟩ := Option.bind_eq_some_iff.mp hs
    cases hs
    exact QTri.newArr (c := .inr (.inl (.int, List.replicate k 0))) Ad W hk hc (by simp [qsz]) (fun h' a cA A => ⟨_, A, by simp [newA, (qnew_inv hk).2.1]; exact Or.inr rfl⟩) h
   ·obtain ⟨k, hk, hs⟩ := Option.bind_eq_some_iff.mp hs
    cases hs
    exact QTri.newArr (c := .inr (.inl (.boolean, List.replicate k 0))) Ad W hk hc (by simp [qsz]) (fun h' a cA A => ⟨_, A, by simp [newA, (qnew_inv hk).2.1]; exact Or.inr rfl⟩) h
   ·obtain ⟨k, hk, hs⟩ := Option.bind_eq_some_iff.mp hs
    cases hs
    exact QTri.newArr (c := .inr (.inl (.byte, List.replicate k 0))) Ad W hk hc (by simp [qsz]) (fun h' a cA A => ⟨_, A, by simp [newA, (qnew_inv hk).2.1]; exact Or.inr rfl⟩) h
   ·obtain ⟨k, hk, hs⟩ := Option.bind_eq_some_iff.mp hs
    cases hs
    exact QTri.newArr (c := .inr (.inr (List.replicate k 0))) Ad W hk hc (by simp [qsz]) (fun h' a cA A => ⟨_, A, by simp [newA, (qnew_inv hk).2.1]; exact Or.inr rfl⟩) h
   ·cases hs
  ·cases hs
 ·cases hs; exact QTri.newObj Ad W h hc
 ·cases hs
theorem QTri.steps (Ad : QAd n0 ad) (W : QW Z a0) : ∀ (n : Nat) {st st' : QSt}, qsteps m n st = some st' → QTri l Z n0 ad m st' v σ' → QTri l Z n0 ad m st v σ'
 | 0, st, st', h, k => by cases h; exact k
 | n + 1, st, st', h, k => by
  simp only [qsteps] at h
  split at h
  ·rename_i st₁ h1
   exact QTri.step Ad W (QTri.steps Ad W n h k) h1
  ·cases h
def lmask : List Bool → QLoc → QLoc
 | b :: t, x :: u => (bif b then x else none) :: lmask t u
 | _, L => L.map fun _ => none
theorem lmask_len : ∀ (b : List Bool) (L : QLoc), (lmask b L).length = L.length
 | [], L => by simp [lmask]
 | _ :: _, [] => by simp [lmask]
 | _ :: t, _ :: u => by simp [lmask, lmask_len t u]
theorem lmask_get : ∀ (b : List Bool) (L : QLoc) (k : Nat) (v : Value), lget (lmask b L) k = some v → lget L k = some v
 | [], L, k, v, h => by
  simp only [lmask, lget_eq, List.getElem?_map] at h
  cases hq : L[k]? <;> simp [hq] at h
 | _ :: _, [], k, v, h => by simp [lmask, lget] at h
 | b :: t, x :: u, 0, v, h => by
  simp only [lmask, lget] at h ⊢
  cases b
  ·cases h
  ·exact h
 | b :: t, x :: u, k + 1, v, h => by
  simp only [lmask, lget] at h ⊢
  exact lmask_get t u k v h
theorem QTri.mask {pc : Nat} {L : QLoc} {S : List Value} {σ : QHeap} (b : List Bool) (h : QTri l Z n0 ad m (pc, lmask b L, S, σ) v σ') : QTri l Z n0 ad m (pc, L, S, σ) v σ' :=
 QTri.frame h fun p e R s mid args below meth c T locs cells slots C hcx X hR hL hC => ⟨C, ⟨by rw [lmask_len]; exact hL.1, fun k u hk => hL.2.1 k u (lmask_get b L k u hk), hL.2.2⟩, hC, fun target k => k⟩
theorem QTri.ret0 {pc aux : Nat} {L : QLoc} {σ : QHeap} (hc : pCode m pc = some (.return_, aux)) (hr : pRet m = none) : QTri l Z n0 ad m (pc, L, [], σ) none σ :=
 have hd : decode (pBytes m) pc = .ok (.return_, 1) := pDecN hc rfl
 ⟨Nat.le_refl _, Nat.le_refl _, fun p e R s mid args below meth c T locs cells slots C hcx X hR hF hL hC hn hc1 hsl => ⟨T, locs, by simpa using X, hR, hF, fun fs hf => X.returnOut hcx.1 (hcx.2.2.2.2.1.trans hr) (hb hcx.2.2.1 hd) hf⟩⟩
theorem QTri.retI {pc aux : Nat} {L : QLoc} {S : List Value} {σ : QHeap} {x : Int32} (hc : pCode m pc = some (.ireturn, aux)) (hr : pRet m = some .int) : QTri l Z n0 ad m (pc, L, .int x :: S, σ) (some (.int x)) σ :=
 have hd : decode (pBytes m) pc = .ok (.ireturn, 1) := pDecN hc rfl
 ⟨Nat.le_refl _, Nat.le_refl _, fun p e R s mid args below meth c T locs cells slots C hcx X hR hF hL hC hn hc1 hsl => ⟨T, locs, by simpa using X, hR, hF, fun fs hf => Jvm.RoadKit.retI X hcx.1 (hcx.2.2.2.2.1.trans hr) (hb hcx.2.2.1 hd) hf⟩⟩
theorem QTri.retZ {pc aux : Nat} {L : QLoc} {S : List Value} {σ : QHeap} {x : Int32} (hc : pCode m pc = some (.ireturn, aux)) (hr : pRet m = some .boolean) : QTri l Z n0 ad m (pc, L, .int x :: S, σ) (some (.int (x &&& 1))) σ :=
 have hd : decode (pBytes m) pc = .ok (.ireturn, 1) := pDecN hc rfl
 ⟨Nat.le_refl _, Nat.le_refl _, fun p e R s mid args below meth c T locs cells slots C hcx X hR hF hL hC hn hc1 hsl => ⟨T, locs, by simpa using X, hR, hF, fun fs hf => retN X hcx.1 (t := .boolean) (hcx.2.2.2.2.1.trans hr) (by simp) (hb hcx.2.2.1 hd) hf⟩⟩
theorem QTri.retJ {pc aux : Nat} {L : QLoc} {S : List Value} {σ : QHeap} {x : Int64} (hc : pCode m pc = some (.lreturn, aux)) (hr : pRet m = some .long) : QTri l Z n0 ad m (pc, L, .long x :: S, σ) (some (.long x)) σ :=
 have hd : decode (pBytes m) pc = .ok (.lreturn, 1) := pDecN hc rfl
 ⟨Nat.le_refl _, Nat.le_refl _, fun p e R s mid args below meth c T locs cells slots C hcx X hR hF hL hC hn hc1 hsl => ⟨T, locs, by simpa using X, hR, hF, fun fs hf => retOut X hcx.1 (t := .long) (hcx.2.2.2.2.1.trans hr) rfl (Or.inr (Or.inl ⟨rfl, rfl, _, rfl⟩)) (hb hcx.2.2.1 hd) hf⟩⟩
def LOk (ad : Nat → Addr) (L : QLoc) (C : List Slot) : Prop :=
 L.length = C.length ∧ (∀ k v, lget L k = some v → C[k]? = some (.val (qv ad v))) ∧ (∀ k w, C[k]? = some (.val w) → w.category = 2 → C[k + 1]? = some .second) ∧ ∀ k, C[k]? = some .second → ∃ j w, k = j + 1 ∧ C[j]? = some (.val w) ∧ w.category = 2
theorem LOk.base (ad : Nat → Addr) (n : Nat) : LOk ad (List.replicate n none) (List.replicate n .unset) := by
 refine ⟨by simp, fun k u h => ?_, fun k w h => ?_, fun k h => ?_⟩
 ·rw [lget_eq] at h
  rcases Nat.lt_or_ge k n with q | q
  ·simp [List.getElem?_replicate, q] at h
  ·simp [List.getElem?_eq_none, q] at h
 ·rcases Nat.lt_or_ge k n with q | q
  ·simp [List.getElem?_replicate, q] at h
  ·simp [List.getElem?_eq_none, q] at h
 ·rcases Nat.lt_or_ge k n with q | q
  ·simp [List.getElem?_replicate, q] at h
  ·simp [List.getElem?_eq_none, q] at h
theorem LOk.one {L : QLoc} {C : List Slot} (H : LOk ad L C) {u : Value} (hu : u.category = 1) : LOk ad (some u :: L) (.val (qv ad u) :: C) := by
 obtain ⟨h1, h2, h3, h4⟩ := H
 refine ⟨by simp [h1], fun k w h => ?_, fun k w h hw => ?_, fun k h => ?_⟩
 ·cases k with
  | zero => simp only [lget] at h; cases h; simp
  | succ k => simp only [lget] at h; simpa using h2 k w h
 ·cases k with
  | zero => simp at h; rw [← h, qv_cat, hu] at hw; cases hw
  | succ k => simpa using h3 k w (by simpa using h) hw
 ·cases k with
  | zero => simp at h
  | succ k =>
   obtain ⟨j, w, z1, z2, z3⟩ := h4 k (by simpa using h)
   exact ⟨j + 1, w, by omega, by simpa using z2, z3⟩
theorem LOk.two {L : QLoc} {C : List Slot} (H : LOk ad L C) {u : Value} (hu : u.category = 2) : LOk ad (some u :: none :: L) (.val (qv ad u) :: .second :: C) := by
 obtain ⟨h1, h2, h3, h4⟩ := H
 refine ⟨by simp [h1], fun k w h => ?_, fun k w h hw => ?_, fun k h => ?_⟩
 ·rcases k with _ | _ | k
  ·simp only [lget] at h; cases h; simp
  ·simp [lget] at h
  ·simp only [lget] at h; simpa using h2 k w h
 ·rcases k with _ | _ | k
  ·simp
  ·simp at h
  ·simpa using h3 k w (by simpa using h) hw
 ·rcases k with _ | _ | k
  ·simp at h
  ·exact ⟨0, qv ad u, rfl, by simp, by rw [qv_cat]; exact hu⟩
  ·obtain ⟨j, w, z1, z2, z3⟩ := h4 k (by simpa using h)
   exact ⟨j + 2, w, by omega, by simpa using z2, z3⟩
def slotsOf (u : Value) : List Slot := if u.category = 2 then [.val u, .second] else [.val u]
theorem fold_slots : ∀ (as : List Value) (acc : Array Slot), (as.foldl (fun acc v => if v.category = 2 then (acc.push (.val v)).push .second else acc.push (.val v)) acc).toList = acc.toList ++ as.flatMap slotsOf
 | [], acc => by simp
 | u :: t, acc => by
  rw [List.foldl_cons, fold_slots t]
  by_cases hc : u.category = 2 <;> simp [slotsOf, hc]
theorem slots_len : ∀ (as : List Value), (as.flatMap slotsOf).length = (as.map fun v => v.category).sum
 | [] => rfl
 | u :: t => by
  rw [List.flatMap_cons, List.length_append, slots_len t, List.map_cons, List.sum_cons]
  cases u <;> simp [slotsOf, Value.category]
theorem cats_qv (as : List Value) : ((as.map (qv ad)).map fun v => v.category).sum = (as.map fun v => v.category).sum := by
 rw [List.map_map]
 congr 1
 exact List.map_congr_left fun x _ => qv_cat ad x
theorem entry_list : ∀ (as : List Value) (n : Nat), LOk ad ((as.flatMap fun v => match v with | .long x => [some (.long x), none] | .double x => [some (.double x), none] | v => [some v]) ++ List.replicate n none) ((as.map (qv ad)).flatMap slotsOf ++ List.replicate n .unset)
 | [], n => by simpa using LOk.base ad n
 | u :: t, n => by
  have ih := entry_list t n
  cases u with
  | long x => exact LOk.two ih rfl
  | double x => exact LOk.two ih rfl
  | int x => exact LOk.one ih rfl
  | float x => exact LOk.one ih rfl
  | null => exact LOk.one ih rfl
  | ref x => exact LOk.one ih rfl
  | retAddr x => exact LOk.one ih rfl
theorem qentry_ok (as : List Value) (mx : Nat) (h : (as.map fun v => v.category).sum ≤ mx) : QLocOk ad (qentry as mx) (argsToLocals (as.map (qv ad)).toArray mx) ∧ (argsToLocals (as.map (qv ad)).toArray mx).size = mx := by
 have e : (argsToLocals (as.map (qv ad)).toArray mx).toList = (as.map (qv ad)).flatMap slotsOf ++ List.replicate (mx - (as.map fun v => v.category).sum) .unset := by
  unfold argsToLocals
  have q := fold_slots (as.map (qv ad)) #[]
  simp only [List.foldl_toArray', Array.toList_append, Array.toList_replicate]
  have q2 : ((as.map (qv ad)).foldl (fun (acc : Array Slot) (v : Value) => if v.category = 2 then (acc.push (.val v)).push .second else acc.push (.val v)) #[]).size = (as.map fun v => v.category).sum := by
   rw [← Array.length_toList, q]
   simp only [List.nil_append]
   rw [slots_len, cats_qv]
  rw [q, q2]
  simp
 have H := entry_list (ad := ad) as (mx - (as.map fun v => v.category).sum)
 rw [← e] at H
 obtain ⟨h1, h2, h3, h4⟩ := H
 have hs : (argsToLocals (as.map (qv ad)).toArray mx).size = mx := by
  rw [← Array.length_toList, e, List.length_append, slots_len, cats_qv, List.length_replicate]
  omega
 refine ⟨⟨h1.trans Array.length_toList, fun k u hk => ?_, fun k w hk hw => ?_, fun k hk => ?_⟩, hs⟩
 ·have := h2 k u hk; rwa [Array.getElem?_toList] at this
 ·have := h3 k w (by rw [Array.getElem?_toList]; exact hk) hw; rwa [Array.getElem?_toList] at this
 ·obtain ⟨j, w, z1, z2, z3⟩ := h4 k (by rw [Array.getElem?_toList]; exact hk)
  exact ⟨j, w, z1, by rwa [Array.getElem?_toList] at z2, z3⟩
set_option maxHeartbeats 4000000 in
theorem QTri.met {k : Nat} {as : List Value} {σ σ₁ : QHeap} {w : Option Value} {h0 : Heap} (hk : k < pN) (h : QTri l Z n0 ad k (0, qentry as (pMaxL k), [], σ) w σ₁) (hR : QRep Z n0 ad h0 σ) (hlen : (as.map fun v => v.category).sum ≤ pMaxL k) (hret : pRet k = none → w = none) (ws : List Jvm.Cond) {rm : Room}
  (r1 : pFr k ≤ rm.frames) (r2 : pLo k ≤ rm.locals) (r3 : σ₁.length - σ.length ≤ rm.cells) (r4 : qhs σ₁ - qhs σ ≤ rm.slots) :
  MetFree l (pName k) (head1 (Jvm.Cond.code (pName k) (pBytes k) (pMaxL k) (pRet k) :: ws) rm) (fun a U => a = (as.map (qv ad)).toArray ∧ Z.Warmed39 U.vm ∧ U.heap = h0) (fun _ _ _ _ _ => True)
   (fun _ U o U' => ∃ v L, o = .returned v ∧ (v = w.map (qv ad) ∧ QRep Z n0 ad U'.heap σ₁ ∧ Fr n0 L) ∧ FrameEnd U o U' L (σ₁.length - σ.length) (qhs σ₁ - qhs σ)) := by
 refine MetFree.of_bodySF (plainFor_of_name (kPlain _ (pKlt k hk))) hisR ?_
 intro p e s mid args below meth c s₁ Bd hml0 hP hK
 obtain ⟨rfl, hZ, hh⟩ := hP
 have e0 : s₁.heap = h0 := by rw [← hh, Bd.state]; rfl
 obtain ⟨hl1, hl2⟩ := qentry_ok (ad := ad) as (pMaxL k) hlen
 have hX : Stand p l e rm s mid (as.map (qv ad)).toArray below meth c s₁ [] 0 0 := Stand.of_body Bd
 obtain ⟨T', locs', X', R', F', S'⟩ := h.2.2 p e rm s mid _ below meth c s₁ [] 0 0 _ ⟨Bd.exec, hZ, Bd.bytes, hml0, Bd.returns, findClass_of_methodNamed Bd.named, (name_of_methodNamed Bd.named Bd.method).1, r1, r2⟩ hX (by rw [e0]; exact hR) (Fr.nil _) hl1 (hl2.trans hml0.symm) (by rw [hh, Nat.add_zero]; exact hR.2.1.symm) (by rw [Nat.zero_add]; exact r3) (by rw [Nat.zero_add]; exact r4)
 obtain ⟨fs, hr, hrun, hended, hW, hsame⟩ := X'.leave (v := w.map (qv ad)) (fun q => by rw [hret (Bd.returns.symm.trans q)]; rfl)
 refine ⟨_, _, S' fs hr, hrun, hended, _, _, rfl, ⟨rfl, R', F'⟩, ⟨_, rfl⟩, hW, ?_⟩
 simp only [Nat.zero_add] at hsame
 exact hsame
theorem QTri.room {k : Nat} {σ σ₁ : QHeap} {rest : List Value} {R : Room} (hroom : (Nat.ble (pFr k + 1) (pFr m) && Nat.ble ((rest.map fun v => v.category).sum + (pMaxL k + 11) + pLo k) (pLo m)) = true) (hfr : pFr m ≤ R.frames) (hlo : pLo m ≤ R.locals) :
  pFr k + 1 ≤ R.frames ∧ (rest.map fun v => v.category).sum + (pMaxL k + 11) + pLo k ≤ R.locals := by
 obtain ⟨q1, q2⟩ := Bool.and_eq_true_iff.mp hroom
 exact ⟨Nat.le_trans (Nat.le_of_ble_eq_true q1) hfr, Nat.le_trans (Nat.le_of_ble_eq_true q2) hlo⟩
theorem sig_len {k : Nat} (hk : k < pN) {as : List Value} (hna : as.length = pNA k) : ∀ sig, parseMethodDescriptor (pName k).desc = some sig → (as.map (qv ad)).length = sig.parameters.length := fun sig hs => by
 have q := pSig k hk
 rw [show parseMethodDescriptor (pDs k) = some sig from hs] at q
 simp at q
 simp [hna, q]
theorem ret_map (w : Option Value) (rest : List Value) : (w.toList ++ rest).map (qv ad) = (w.map (qv ad)).toList ++ rest.map (qv ad) := by cases w <;> simp
theorem QTri.after {as0 : List Value} {pc : Nat} {L : QLoc} {S rest : List Value} {σ σ₁ : QHeap} {w : Option Value} {k : Nat} (hcal : QTri l Z n0 ad k (0, qentry as0 (pMaxL k), [], σ) w σ₁) (h : QTri l Z n0 ad m (pc + 3, L, w.toList ++ rest, σ₁) v σ')
  (hs : ∀ (p : Program) (e : Env) (R : Room) (s : State) (mid : MethodId) (args : Array Value) (below : List Frame) (meth : Method) (c : Code) (T : State) (locs : List Loc) (cells slots : Nat) (C : Array Slot),
   QCx Z p R s mid meth c m → Stand p l e R s mid args below meth c T locs cells slots → QRep Z n0 ad T.heap σ → C.size = c.maxLocals → cells + (σ₁.length - σ.length) ≤ R.cells → slots + (qhs σ₁ - qhs σ) ≤ R.slots →
   ∃ T₁ Lc, Stand p l e R s mid args below meth c T₁ (locs ++ Lc) (cells + (σ₁.length - σ.length)) (slots + (qhs σ₁ - qhs σ)) ∧ QRep Z n0 ad T₁.heap σ₁ ∧ Fr n0 Lc ∧
    ∀ target, Steps p.tables e below (T₁.setTop (mkF mid (pc + 3) C ((w.map (qv ad)).toList ++ rest.map (qv ad)))) target → Steps p.tables e below (T.setTop (mkF mid pc C (S.map (qv ad)))) target) :
  QTri l Z n0 ad m (pc, L, S, σ) v σ' := by
 refine QTri.gen h hcal.1 hcal.2.1 fun p e R s mid args below meth c T locs cells slots C hcx X hR hF hL hC hn hc1 hsl => ?_
 obtain ⟨T₁, Lc, X₁, R₁, F₁, st⟩ := hs p e R s mid args below meth c T locs cells slots C hcx X hR hC hc1 hsl
 refine ⟨T₁, locs ++ Lc, C, X₁, R₁, hF.app F₁, hL, hC, fun target q => st target ?_⟩
 rw [← ret_map]
 exact q
set_option maxHeartbeats 4000000 in
theorem QTri.callV (W : QW Z a0) {pc idx k a : Nat} {L : QLoc} {S as rest vs : List Value} {σ σ₁ : QHeap} {w : Option Value} (hc : pCode m pc = some (.invokevirtual idx, k)) (hm : (lkV.contains (pK m, idx, k) && mV.contains k) = true) (hcell : hget σ a = some (.inl vs)) (hS : S = as.reverse ++ .ref a :: rest)
  (hna : as.length = pNA k) (hlen : Nat.ble (((Value.ref a :: as).map fun v => v.category).sum) (pMaxL k) = true) (hroom : (Nat.ble (pFr k + 1) (pFr m) && Nat.ble ((rest.map fun v => v.category).sum + (pMaxL k + 11) + pLo k) (pLo m)) = true) (hrb : (w.isNone || (pRet k).isSome) = true)
  (hcal : QTri l Z n0 ad k (0, qentry (.ref a :: as) (pMaxL k), [], σ) w σ₁) (h : QTri l Z n0 ad m (pc + 3, L, w.toList ++ rest, σ₁) v σ') : QTri l Z n0 ad m (pc, L, S, σ) v σ' := by
 have hd : decode (pBytes m) pc = .ok (.invokevirtual idx, 3) := pDecN hc rfl
 subst hS
 obtain ⟨m1, m2⟩ := Bool.and_eq_true_iff.mp hm
 have m1 := mem_of_contains m1
 have m2 := mem_of_contains m2
 have hkA := (mVlt k m2).1
 have hkN := mAlt k hkA
 have hret : pRet k = none → w = none := fun q => by
  rw [q] at hrb
  cases w with
  | none => rfl
  | some w => simp at hrb
 refine QTri.after hcal h fun p e R s mid args below meth c T locs cells slots C hcx X hR hC hc1 hsl => ?_
 obtain ⟨hx, hZ, hby, hml, hret', hown, hnm, hfr, hlo⟩ := hcx
 have hd2 : decode c.code pc = .ok (.invokevirtual idx, 3) := by rw [hby]; exact hd
 obtain ⟨f1, f2⟩ := QTri.room (σ := σ) (σ₁ := σ₁) hroom hfr hlo
 obtain ⟨cq, kq, q1, q2, q3⟩ := isOf hZ rfl (hR.2.2 _ _ hcell).1
 obtain ⟨w1, w2, w3⟩ := (qw_vi W) k m2
 obtain ⟨c1, c2⟩ := (qw_cod W) k hkA
 obtain ⟨_, _, ⟨T₁, L₁, k₁, n₁⟩, -, X₁, ⟨Lc, ⟨rfl, hR1, hF1⟩, l₁, y₁, z₁⟩, st⟩ := X.virtualBack hx (own := kName (pK m)) (index := idx) (y := pName k) (z := pName k) hown (mvT hZ (qw_ml W (pK m, idx, k) m1)) (mvT hZ w1) (notFace_of_selects (args := #[]) (mvT hZ w2)) (mvT hZ w2) (mvT hZ w3) (pOwn _ (pKlt k hkN))
  (backOf (W := (rest.map fun v => v.category).sum) (rm := ⟨pFr k, σ₁.length - σ.length, qhs σ₁ - qhs σ, pLo k⟩) (Q := fun v h L => v = Option.map (qv ad) w ∧ QRep Z n0 ad h σ₁ ∧ Fr n0 L) (QTri.met hkN hcal hR (Nat.le_of_ble_eq_true hlen) hret [] (Nat.le_refl _) (Nat.le_refl _) (Nat.le_refl _) (Nat.le_refl _)) hZ c1 c2 f1 f2) q1 q3 (g := mkF mid pc C (List.map (qv ad) (as.reverse ++ .ref a :: rest))) rfl hC (Steps.refl _) (argsL := as.map (qv ad)) (rest := rest.map (qv ad)) (sig_len hkN hna) (by simp [qv]) (by show 2 * 0 + _ ≤ _; rw [cats_qv]; omega) hd2 (fun _ _ => ⟨rfl, rfl, hc1, hsl⟩)
 dsimp only [Pt.U, Pt.locs, Pt.cells, Pt.slots] at X₁ l₁ y₁ z₁ st hR1
 subst l₁ y₁ z₁
 exact ⟨T₁, Lc, X₁, hR1, hF1, fun target q => st.trans q⟩
set_option maxHeartbeats 4000000 in
theorem QTri.callI (W : QW Z a0) {pc idx k a : Nat} {L : QLoc} {S as rest : List Value} {σ σ₁ : QHeap} (hc : pCode m pc = some (.invokespecial idx, k)) (hm : (lkV.contains (pK m, idx, k) && mI.contains k) = true) (hS : S = as.reverse ++ .ref a :: rest)
  (hna : as.length = pNA k) (hlen : Nat.ble (((Value.ref a :: as).map fun v => v.category).sum) (pMaxL k) = true) (hroom : (Nat.ble (pFr k + 1) (pFr m) && Nat.ble ((rest.map fun v => v.category).sum + (pMaxL k + 11) + pLo k) (pLo m)) = true)
  (hcal : QTri l Z n0 ad k (0, qentry (.ref a :: as) (pMaxL k), [], σ) none σ₁) (h : QTri l Z n0 ad m (pc + 3, L, rest, σ₁) v σ') : QTri l Z n0 ad m (pc, L, S, σ) v σ' := by
 have hd : decode (pBytes m) pc = .ok (.invokespecial idx, 3) := pDecN hc rfl
 subst hS
 obtain ⟨m1, m2⟩ := Bool.and_eq_true_iff.mp hm
 have m1 := mem_of_contains m1
 have m2 := mem_of_contains m2
 obtain ⟨hkA, -, hin, hrt⟩ := mIlt k m2
 have hkN := mAlt k hkA
 refine QTri.after (w := none) hcal h fun p e R s mid args below meth c T locs cells slots C hcx X hR hC hc1 hsl => ?_
 obtain ⟨hx, hZ, hby, hml, hret', hown, hnm, hfr, hlo⟩ := hcx
 have hd2 : decode c.code pc = .ok (.invokespecial idx, 3) := by rw [hby]; exact hd
 obtain ⟨f1, f2⟩ := QTri.room (σ := σ) (σ₁ := σ₁) hroom hfr hlo
 obtain ⟨c1, c2⟩ := (qw_cod W) k hkA
 have c1' := c1
 rw [hrt] at c1'
 obtain ⟨_, _, ⟨T₁, L₁, k₁, n₁⟩, -, X₁, ⟨Lc, ⟨rfl, hR1, hF1⟩, l₁, y₁, z₁⟩, st⟩ := X.specialBack hx (own := kName (pK m)) (index := idx) (y := pName k) hin hown (mvT hZ (qw_ml W (pK m, idx, k) m1)) (mvT hZ ((qw_ini W) k m2)) (mvT hZ c1') (pOwn _ (pKlt k hkN))
  (backOf (W := (rest.map fun v => v.category).sum) (rm := ⟨pFr k, σ₁.length - σ.length, qhs σ₁ - qhs σ, pLo k⟩) (Q := fun v h L => v = Option.map (qv ad) none ∧ QRep Z n0 ad h σ₁ ∧ Fr n0 L) (QTri.met hkN hcal hR (Nat.le_of_ble_eq_true hlen) (fun _ => rfl) [] (Nat.le_refl _) (Nat.le_refl _) (Nat.le_refl _) (Nat.le_refl _)) hZ c1 c2 f1 f2) (g := mkF mid pc C (List.map (qv ad) (as.reverse ++ .ref a :: rest))) rfl hC (Steps.refl _) (a := ad a) (argsL := as.map (qv ad)) (rest := rest.map (qv ad)) (sig_len hkN hna) (by simp [qv]) (by show 2 * 0 + _ ≤ _; rw [cats_qv]; omega) hd2 (fun _ _ => ⟨rfl, rfl, hc1, hsl⟩)
 dsimp only [Pt.U, Pt.locs, Pt.cells, Pt.slots] at X₁ l₁ y₁ z₁ st hR1
 subst l₁ y₁ z₁
 exact ⟨T₁, Lc, X₁, hR1, hF1, fun target q => st.trans q⟩
set_option maxHeartbeats 4000000 in
theorem QTri.callP (W : QW Z a0) {pc idx k a : Nat} {L : QLoc} {S as rest vs : List Value} {σ σ₁ : QHeap} {w : Option Value} (hc : pCode m pc = some (.invokevirtual idx, k)) (hm : (lkV.contains (pK m, idx, k) && mP.contains k) = true) (hcell : hget σ a = some (.inl vs)) (hS : S = as.reverse ++ .ref a :: rest)
  (hna : as.length = pNA k) (hlen : Nat.ble (((Value.ref a :: as).map fun v => v.category).sum) (pMaxL k) = true) (hroom : (Nat.ble (pFr k + 1) (pFr m) && Nat.ble ((rest.map fun v => v.category).sum + (pMaxL k + 11) + pLo k) (pLo m)) = true) (hrb : (w.isNone || (pRet k).isSome) = true)
  (hcal : QTri l Z n0 ad k (0, qentry (.ref a :: as) (pMaxL k), [], σ) w σ₁) (h : QTri l Z n0 ad m (pc + 3, L, w.toList ++ rest, σ₁) v σ') : QTri l Z n0 ad m (pc, L, S, σ) v σ' := by
 have hd : decode (pBytes m) pc = .ok (.invokevirtual idx, 3) := pDecN hc rfl
 subst hS
 obtain ⟨m1, m2⟩ := Bool.and_eq_true_iff.mp hm
 have m1 := mem_of_contains m1
 have m2 := mem_of_contains m2
 obtain ⟨hkA, hk1⟩ := mPlt k m2
 have hkN := mAlt k hkA
 have hret : pRet k = none → w = none := fun q => by
  rw [q] at hrb
  cases w with
  | none => rfl
  | some w => simp at hrb
 refine QTri.after hcal h fun p e R s mid args below meth c T locs cells slots C hcx X hR hC hc1 hsl => ?_
 obtain ⟨hx, hZ, hby, hml, hret', hown, hnm, hfr, hlo⟩ := hcx
 have hd2 : decode c.code pc = .ok (.invokevirtual idx, 3) := by rw [hby]; exact hd
 obtain ⟨f1, f2⟩ := QTri.room (σ := σ) (σ₁ := σ₁) hroom hfr hlo
 obtain ⟨cell, h1, h2⟩ := (hR.2.2 _ _ hcell).1.cell
 obtain ⟨w1, w2⟩ := (qw_pr W) k m2
 obtain ⟨c1, c2⟩ := (qw_cod W) k hkA
 have hpr : s.PrivateAt (pName k) := Cond.privateMethod_at (mvP hZ w2 (args := #[]))
 obtain ⟨cC, kC, i1, i2, i3, i4⟩ := Cond.instantiable_spec (args := #[]) (mvT hZ (qw_inst W))
 have hsel : (Cond.selects (pName k).cls (pName k) (pName k)).before args s = true := selects_self_of_private (c := cC) (k := kC) (by show s.vm.findClass (kName (pK k)) = _; rw [hk1]; exact i1) i2 (by have q := i4.1; cases hq : kC.isInterface with | false => rfl | true => rw [hq] at q; simp at q) hpr (mvT hZ w1) (pOwn _ (pKlt k hkN))
 obtain ⟨_, _, ⟨T₁, L₁, k₁, n₁⟩, -, X₁, ⟨Lc, ⟨rfl, hR1, hF1⟩, l₁, y₁, z₁⟩, st⟩ := X.privateBack hx (own := kName (pK m)) (index := idx) (y := pName k) hown (mvT hZ (qw_ml W (pK m, idx, k) m1)) (mvT hZ w1) hsel hpr (mvT hZ c1) (pOwn _ (pKlt k hkN))
  (backOf (W := (rest.map fun v => v.category).sum) (rm := ⟨pFr k, σ₁.length - σ.length, qhs σ₁ - qhs σ, pLo k⟩) (Q := fun v h L => v = Option.map (qv ad) w ∧ QRep Z n0 ad h σ₁ ∧ Fr n0 L) (QTri.met hkN hcal hR (Nat.le_of_ble_eq_true hlen) hret [] (Nat.le_refl _) (Nat.le_refl _) (Nat.le_refl _) (Nat.le_refl _)) hZ c1 c2 f1 f2) (g := mkF mid pc C (List.map (qv ad) (as.reverse ++ .ref a :: rest))) rfl hC (Steps.refl _) (a := ad a) h1 h2 (argsL := as.map (qv ad)) (rest := rest.map (qv ad)) (sig_len hkN hna) (by simp [qv]) (by show 2 * 0 + _ ≤ _; rw [cats_qv]; omega) hd2 (fun _ _ => ⟨rfl, rfl, hc1, hsl⟩)
 dsimp only [Pt.U, Pt.locs, Pt.cells, Pt.slots] at X₁ l₁ y₁ z₁ st hR1
 subst l₁ y₁ z₁
 exact ⟨T₁, Lc, X₁, hR1, hF1, fun target q => st.trans q⟩
set_option maxHeartbeats 4000000 in
theorem QTri.callS (W : QW Z a0) {pc idx k : Nat} {L : QLoc} {S as rest : List Value} {σ σ₁ : QHeap} {w : Option Value} (hc : pCode m pc = some (.invokestatic idx, k)) (hm : (lkV.contains (pK m, idx, k) && mS.contains k) = true) (hS : S = as.reverse ++ rest)
  (hna : as.length = pNA k) (hlen : Nat.ble ((as.map fun v => v.category).sum) (pMaxL k) = true) (hroom : (Nat.ble (pFr k + 1) (pFr m) && Nat.ble ((rest.map fun v => v.category).sum + (pMaxL k + 11) + pLo k) (pLo m)) = true) (hrb : (w.isNone || (pRet k).isSome) = true)
  (hcal : QTri l Z n0 ad k (0, qentry as (pMaxL k), [], σ) w σ₁) (h : QTri l Z n0 ad m (pc + 3, L, w.toList ++ rest, σ₁) v σ') : QTri l Z n0 ad m (pc, L, S, σ) v σ' := by
 have hd : decode (pBytes m) pc = .ok (.invokestatic idx, 3) := pDecN hc rfl
 subst hS
 obtain ⟨m1, m2⟩ := Bool.and_eq_true_iff.mp hm
 have m1 := mem_of_contains m1
 have m2 := mem_of_contains m2
 have hkA := mSlt k m2
 have hkN := mAlt k hkA
 have hret : pRet k = none → w = none := fun q => by
  rw [q] at hrb
  cases w with
  | none => rfl
  | some w => simp at hrb
 refine QTri.after hcal h fun p e R s mid args below meth c T locs cells slots C hcx X hR hC hc1 hsl => ?_
 obtain ⟨hx, hZ, hby, hml, hret', hown, hnm, hfr, hlo⟩ := hcx
 have hd2 : decode c.code pc = .ok (.invokestatic idx, 3) := by rw [hby]; exact hd
 obtain ⟨f1, f2⟩ := QTri.room (σ := σ) (σ₁ := σ₁) hroom hfr hlo
 obtain ⟨c1, c2⟩ := (qw_cod W) k hkA
 obtain ⟨_, _, ⟨T₁, L₁, k₁, n₁⟩, -, X₁, ⟨Lc, ⟨rfl, hR1, hF1⟩, l₁, y₁, z₁⟩, st⟩ := Jvm.LawKit.callS X hx (own := kName (pK m)) (index := idx) (y := pName k) hown (mvT hZ (qw_ml W (pK m, idx, k) m1)) (mvT hZ ((qw_st W) k m2)) (mvT hZ c2) (mvT hZ c1) (pOwn _ (pKlt k hkN))
  (backOf (W := (rest.map fun v => v.category).sum) (rm := ⟨pFr k, σ₁.length - σ.length, qhs σ₁ - qhs σ, pLo k⟩) (Q := fun v h L => v = Option.map (qv ad) w ∧ QRep Z n0 ad h σ₁ ∧ Fr n0 L) (QTri.met hkN hcal hR (Nat.le_of_ble_eq_true hlen) hret [] (Nat.le_refl _) (Nat.le_refl _) (Nat.le_refl _) (Nat.le_refl _)) hZ c1 c2 f1 f2) (g := mkF mid pc C (List.map (qv ad) (as.reverse ++ rest))) rfl hC (argsL := as.map (qv ad)) (rest := rest.map (qv ad)) (sig_len hkN hna) (by simp) (by show 2 * 0 + _ ≤ _; rw [cats_qv]; omega) hd2 (fun _ _ => ⟨rfl, rfl, hc1, hsl⟩)
 dsimp only [Pt.U, Pt.locs, Pt.cells, Pt.slots] at X₁ l₁ y₁ z₁ st hR1
 subst l₁ y₁ z₁
 exact ⟨T₁, Lc, X₁, hR1, hF1, fun target q => st target q⟩
set_option maxHeartbeats 4000000 in
theorem QTri.callO (W : QW Z a0) {pc idx k a : Nat} {L : QLoc} {rest : List Value} {σ : QHeap} (hc : pCode m pc = some (.invokespecial idx, k)) (hm : lkO.contains (pK m, idx) = true) (hroom : (Nat.ble 1 (pFr m) && Nat.ble ((rest.map fun v => v.category).sum + 12) (pLo m)) = true)
  (h : QTri l Z n0 ad m (pc + 3, L, rest, σ) v σ') : QTri l Z n0 ad m (pc, L, .ref a :: rest, σ) v σ' :=
 have hd : decode (pBytes m) pc = .ok (.invokespecial idx, 3) := pDecN hc rfl
 QTri.pure h rfl fun p e R s mid args below meth c T locs cells slots C hcx X hR hL hC => by
  obtain ⟨hx, hZ, hby, hml, hret', hown, hnm, hfr, hlo⟩ := hcx
  have hd2 : decode c.code pc = .ok (.invokespecial idx, 3) := by rw [hby]; exact hd
  obtain ⟨q1, q2⟩ := Bool.and_eq_true_iff.mp hroom
  obtain ⟨T₁, X₁, e₁, st⟩ := initO X hx hZ hown (idx := idx) (qw_mo W (pK m, idx) (mem_of_contains hm)) ((qw_oi W)) ((qw_oc W)) rfl (g := mkF mid pc C (List.map (qv ad) (.ref a :: rest))) rfl hC rfl hd2 (Nat.le_trans (Nat.le_of_ble_eq_true q1) hfr) (W := (rest.map fun v => v.category).sum) (by show 2 * 0 + _ ≤ _; rw [cats_qv]; omega) (Nat.le_trans (Nat.le_of_ble_eq_true q2) hlo)
  exact ⟨T₁, C, X₁, e₁, hL, hC, st⟩
theorem QTri.brT (Ad : QAd n0 ad) (W : QW Z a0) {st : QSt} {t f : Nat} {L : QLoc} {S : List Value} {σ : QHeap} {b : Bool} (hs : qstep m st = some (bif b then t else f, L, S, σ)) (hb : b = true) (h : QTri l Z n0 ad m (t, L, S, σ) v σ') : QTri l Z n0 ad m st v σ' := by
 subst hb; exact QTri.step Ad W h hs
theorem QTri.brF (Ad : QAd n0 ad) (W : QW Z a0) {st : QSt} {t f : Nat} {L : QLoc} {S : List Value} {σ : QHeap} {b : Bool} (hs : qstep m st = some (bif b then t else f, L, S, σ)) (hb : b = false) (h : QTri l Z n0 ad m (f, L, S, σ) v σ') : QTri l Z n0 ad m st v σ' := by
 subst hb; exact QTri.step Ad W h hs
theorem QTri.bnd {α : Type} (Ad : QAd n0 ad) (W : QW Z a0) {st : QSt} {x : Option α} {f : α → QSt} {a : α} (hs : qstep m st = x.bind fun v => some (f v)) (hx : x = some a) (h : QTri l Z n0 ad m (f a) v σ') : QTri l Z n0 ad m st v σ' :=
 QTri.step Ad W h (by rw [hs, hx]; rfl)
theorem QTri.bndB (Ad : QAd n0 ad) (W : QW Z a0) {st : QSt} {x y : Int32} {g : Value → QSt} (hs : qstep m st = ((qboo x).bind fun y => some (Value.int y)).bind fun w => some (g w)) (hx : qboo x = some y) (h : QTri l Z n0 ad m (g (.int y)) v σ') : QTri l Z n0 ad m st v σ' :=
 QTri.step Ad W h (by rw [hs, hx]; rfl)
end Triples
theorem qite {α : Type} {c : Prop} [Decidable c] {a b : Option α} {r : α} (h : (if c then a else b) = some r) : (c ∧ a = some r) ∨ (¬ c ∧ b = some r) := by
 by_cases hc : c
 ·exact Or.inl ⟨hc, by rwa [if_pos hc] at h⟩
 ·exact Or.inr ⟨hc, by rwa [if_neg hc] at h⟩
def qN : Nat := 4000
def loopN {V E : Type} (B : V → Option (E ⊕ V)) : Nat → V → Option E
 | 0, _ => none
 | n + 1, v => match B v with
  | none => none
  | some (.inl e) => some e
  | some (.inr v') => loopN B n v'
theorem loopN_tri {V E : Type} {B : V → Option (E ⊕ V)} {T : V → Prop} {KE : E → Prop} (hB : ∀ v r, B v = some r → (∀ e, r = .inl e → KE e) → (∀ v', r = .inr v' → T v') → T v) : ∀ (n : Nat) (v : V) (e : E), loopN B n v = some e → KE e → T v
 | 0, _, _, h, _ => by cases h
 | n + 1, v, e, h, k => by
  simp only [loopN] at h
  split at h
  ·cases h
  ·rename_i e' he
   cases h
   exact hB v _ he (fun e q => by cases q; exact k) (fun v' q => by cases q)
  ·rename_i v' he
   exact hB v _ he (fun e q => by cases q) (fun v'' q => by cases q; exact loopN_tri hB n v' e h k)
theorem loopN_inv {V E : Type} {B : V → Option (E ⊕ V)} (I : V → Prop) (P : E → Prop) (μ : V → Nat) (hB : ∀ v, I v → (∃ e, B v = some (.inl e) ∧ P e) ∨ ∃ v', B v = some (.inr v') ∧ I v' ∧ μ v' < μ v) : ∀ (n : Nat) (v : V), I v → μ v < n → ∃ e, loopN B n v = some e ∧ P e
 | 0, _, _, h => absurd h (Nat.not_lt_zero _)
 | n + 1, v, hv, hm => by
  rcases hB v hv with ⟨e, h1, h2⟩ | ⟨v', h1, h2, h3⟩
  ·exact ⟨e, by simp only [loopN, h1], h2⟩
  ·obtain ⟨e, g1, g2⟩ := loopN_inv I P μ hB n v' h2 (by omega)
   exact ⟨e, by simp only [loopN, h1]; exact g1, g2⟩
theorem qfn {α : Type} {P : α → Prop} : ∀ t ∈ ([] : List α), P t := fun _ h => nomatch h
theorem qfc {α : Type} {P : α → Prop} {a : α} {t : List α} (h : P a) (ht : ∀ x ∈ t, P x) : ∀ x ∈ a :: t, P x := fun x hx => by rcases List.mem_cons.mp hx with rfl | q; exact h; exact ht x q
theorem QW_ok {Z : State} {a0 : Array Value} (hw : ∀ d ∈ tables_1, d.before a0 Z = true) : QW Z a0 := by
  have w0 : ∀ k ∈ List.range nF, bif fFin k then (Jvm.Cond.laysFinal cName cName (fNm k) (fDs k)).before a0 Z = true else (Jvm.Cond.lays cName cName (fNm k) (fDs k)).before a0 Z = true :=
    show ∀ k ∈ [0, 1, 2, 3, 4, 5, 6, 7, 8, 9, 10, 11, 12, 13, 14, 15, 16, 17, 18, 19, 20, 21, 22, 23, 24, 25, 26], bif fFin k then (Jvm.Cond.laysFinal cName cName (fNm k) (fDs k)).before a0 Z = true else (Jvm.Cond.lays cName cName (fNm k) (fDs k)).before a0 Z = true from
    (qfc (hw _ (List.mem_of_getElem? (i := 11) rfl)) (qfc (hw _ (List.mem_of_getElem? (i := 13) rfl)) (qfc (hw _ (List.mem_of_getElem? (i := 15) rfl)) (qfc (hw _ (List.mem_of_getElem? (i := 17) rfl)) (qfc (hw _ (List.mem_of_getElem? (i := 20) rfl)) (qfc (hw _ (List.mem_of_getElem? (i := 23) rfl)) (qfc (hw _ (List.mem_of_getElem? (i := 25) rfl)) (qfc (hw _ (List.mem_of_getElem? (i := 27) rfl)) (qfc (hw _ (List.mem_of_getElem? (i := 29) rfl)) (qfc (hw _ (List.mem_of_getElem? (i := 31) rfl)) (qfc (hw _ (List.mem_of_getElem? (i := 37) rfl)) (qfc (hw _ (List.mem_of_getElem? (i := 39) rfl)) (qfc (hw _ (List.mem_of_getElem? (i := 41) rfl)) (qfc (hw _ (List.mem_of_getElem? (i := 43) rfl)) (qfc (hw _ (List.mem_of_getElem? (i := 45) rfl)) (qfc (hw _ (List.mem_of_getElem? (i := 47) rfl)) (qfc (hw _ (List.mem_of_getElem? (i := 49) rfl)) (qfc (hw _ (List.mem_of_getElem? (i := 51) rfl)) (qfc (hw _ (List.mem_of_getElem? (i := 53) rfl)) (qfc (hw _ (List.mem_of_getElem? (i := 55) rfl)) (qfc (hw _ (List.mem_of_getElem? (i := 121) rfl)) (qfc (hw _ (List.mem_of_getElem? (i := 123) rfl)) (qfc (hw _ (List.mem_of_getElem? (i := 129) rfl)) (qfc (hw _ (List.mem_of_getElem? (i := 131) rfl)) (qfc (hw _ (List.mem_of_getElem? (i := 133) rfl)) (qfc (hw _ (List.mem_of_getElem? (i := 135) rfl)) (qfc (hw _ (List.mem_of_getElem? (i := 137) rfl)) qfn)))))))))))))))))))))))))))
  refine ⟨?_, ?_, ?_, ?_, ?_, ?_, ?_, ?_, ?_, ?_, ?_, ?_, ?_, (fun k hk => w0 k (List.mem_range.mpr hk)), ?_, ?_, ?_⟩
  · exact (qfc (hw _ (List.mem_of_getElem? (i := 10) rfl)) (qfc (hw _ (List.mem_of_getElem? (i := 12) rfl)) (qfc (hw _ (List.mem_of_getElem? (i := 14) rfl)) (qfc (hw _ (List.mem_of_getElem? (i := 16) rfl)) (qfc (hw _ (List.mem_of_getElem? (i := 19) rfl)) (qfc (hw _ (List.mem_of_getElem? (i := 22) rfl)) (qfc (hw _ (List.mem_of_getElem? (i := 24) rfl)) (qfc (hw _ (List.mem_of_getElem? (i := 26) rfl)) (qfc (hw _ (List.mem_of_getElem? (i := 28) rfl)) (qfc (hw _ (List.mem_of_getElem? (i := 30) rfl)) (qfc (hw _ (List.mem_of_getElem? (i := 36) rfl)) (qfc (hw _ (List.mem_of_getElem? (i := 38) rfl)) (qfc (hw _ (List.mem_of_getElem? (i := 40) rfl)) (qfc (hw _ (List.mem_of_getElem? (i := 42) rfl)) (qfc (hw _ (List.mem_of_getElem? (i := 44) rfl)) (qfc (hw _ (List.mem_of_getElem? (i := 46) rfl)) (qfc (hw _ (List.mem_of_getElem? (i := 48) rfl)) (qfc (hw _ (List.mem_of_getElem? (i := 50) rfl)) (qfc (hw _ (List.mem_of_getElem? (i := 52) rfl)) (qfc (hw _ (List.mem_of_getElem? (i := 54) rfl)) (qfc (hw _ (List.mem_of_getElem? (i := 120) rfl)) (qfc (hw _ (List.mem_of_getElem? (i := 122) rfl)) (qfc (hw _ (List.mem_of_getElem? (i := 128) rfl)) (qfc (hw _ (List.mem_of_getElem? (i := 130) rfl)) (qfc (hw _ (List.mem_of_getElem? (i := 132) rfl)) (qfc (hw _ (List.mem_of_getElem? (i := 134) rfl)) (qfc (hw _ (List.mem_of_getElem? (i := 136) rfl)) qfn)))))))))))))))))))))))))))
  · exact (qfc (hw _ (List.mem_of_getElem? (i := 0) rfl)) qfn)
  · exact qfn
  · exact qfn
  · exact (qfc (hw _ (List.mem_of_getElem? (i := 3) rfl)) (qfc (hw _ (List.mem_of_getElem? (i := 32) rfl)) (qfc (hw _ (List.mem_of_getElem? (i := 56) rfl)) (qfc (hw _ (List.mem_of_getElem? (i := 61) rfl)) (qfc (hw _ (List.mem_of_getElem? (i := 66) rfl)) (qfc (hw _ (List.mem_of_getElem? (i := 71) rfl)) (qfc (hw _ (List.mem_of_getElem? (i := 76) rfl)) (qfc (hw _ (List.mem_of_getElem? (i := 81) rfl)) (qfc (hw _ (List.mem_of_getElem? (i := 85) rfl)) (qfc (hw _ (List.mem_of_getElem? (i := 90) rfl)) (qfc (hw _ (List.mem_of_getElem? (i := 95) rfl)) (qfc (hw _ (List.mem_of_getElem? (i := 100) rfl)) (qfc (hw _ (List.mem_of_getElem? (i := 104) rfl)) (qfc (hw _ (List.mem_of_getElem? (i := 108) rfl)) (qfc (hw _ (List.mem_of_getElem? (i := 112) rfl)) (qfc (hw _ (List.mem_of_getElem? (i := 116) rfl)) (qfc (hw _ (List.mem_of_getElem? (i := 124) rfl)) (qfc (hw _ (List.mem_of_getElem? (i := 138) rfl)) (qfc (hw _ (List.mem_of_getElem? (i := 142) rfl)) (qfc (hw _ (List.mem_of_getElem? (i := 146) rfl)) (qfc (hw _ (List.mem_of_getElem? (i := 150) rfl)) (qfc (hw _ (List.mem_of_getElem? (i := 154) rfl)) (qfc (hw _ (List.mem_of_getElem? (i := 158) rfl)) (qfc (hw _ (List.mem_of_getElem? (i := 162) rfl)) (qfc (hw _ (List.mem_of_getElem? (i := 167) rfl)) (qfc (hw _ (List.mem_of_getElem? (i := 172) rfl)) (qfc (hw _ (List.mem_of_getElem? (i := 176) rfl)) (qfc (hw _ (List.mem_of_getElem? (i := 180) rfl)) (qfc (hw _ (List.mem_of_getElem? (i := 185) rfl)) (qfc (hw _ (List.mem_of_getElem? (i := 190) rfl)) (qfc (hw _ (List.mem_of_getElem? (i := 195) rfl)) (qfc (hw _ (List.mem_of_getElem? (i := 199) rfl)) (qfc (hw _ (List.mem_of_getElem? (i := 203) rfl)) (qfc (hw _ (List.mem_of_getElem? (i := 207) rfl)) (qfc (hw _ (List.mem_of_getElem? (i := 211) rfl)) qfn)))))))))))))))))))))))))))))))))))
  · exact (qfc (hw _ (List.mem_of_getElem? (i := 6) rfl)) qfn)
  · exact (qfc ⟨(hw _ (List.mem_of_getElem? (i := 57) rfl)), (hw _ (List.mem_of_getElem? (i := 59) rfl)), (hw _ (List.mem_of_getElem? (i := 58) rfl))⟩ (qfc ⟨(hw _ (List.mem_of_getElem? (i := 62) rfl)), (hw _ (List.mem_of_getElem? (i := 64) rfl)), (hw _ (List.mem_of_getElem? (i := 63) rfl))⟩ (qfc ⟨(hw _ (List.mem_of_getElem? (i := 67) rfl)), (hw _ (List.mem_of_getElem? (i := 69) rfl)), (hw _ (List.mem_of_getElem? (i := 68) rfl))⟩ (qfc ⟨(hw _ (List.mem_of_getElem? (i := 72) rfl)), (hw _ (List.mem_of_getElem? (i := 74) rfl)), (hw _ (List.mem_of_getElem? (i := 73) rfl))⟩ (qfc ⟨(hw _ (List.mem_of_getElem? (i := 77) rfl)), (hw _ (List.mem_of_getElem? (i := 79) rfl)), (hw _ (List.mem_of_getElem? (i := 78) rfl))⟩ (qfc ⟨(hw _ (List.mem_of_getElem? (i := 86) rfl)), (hw _ (List.mem_of_getElem? (i := 88) rfl)), (hw _ (List.mem_of_getElem? (i := 87) rfl))⟩ (qfc ⟨(hw _ (List.mem_of_getElem? (i := 91) rfl)), (hw _ (List.mem_of_getElem? (i := 93) rfl)), (hw _ (List.mem_of_getElem? (i := 92) rfl))⟩ (qfc ⟨(hw _ (List.mem_of_getElem? (i := 96) rfl)), (hw _ (List.mem_of_getElem? (i := 98) rfl)), (hw _ (List.mem_of_getElem? (i := 97) rfl))⟩ (qfc ⟨(hw _ (List.mem_of_getElem? (i := 163) rfl)), (hw _ (List.mem_of_getElem? (i := 165) rfl)), (hw _ (List.mem_of_getElem? (i := 164) rfl))⟩ (qfc ⟨(hw _ (List.mem_of_getElem? (i := 168) rfl)), (hw _ (List.mem_of_getElem? (i := 170) rfl)), (hw _ (List.mem_of_getElem? (i := 169) rfl))⟩ (qfc ⟨(hw _ (List.mem_of_getElem? (i := 181) rfl)), (hw _ (List.mem_of_getElem? (i := 183) rfl)), (hw _ (List.mem_of_getElem? (i := 182) rfl))⟩ (qfc ⟨(hw _ (List.mem_of_getElem? (i := 186) rfl)), (hw _ (List.mem_of_getElem? (i := 188) rfl)), (hw _ (List.mem_of_getElem? (i := 187) rfl))⟩ (qfc ⟨(hw _ (List.mem_of_getElem? (i := 191) rfl)), (hw _ (List.mem_of_getElem? (i := 193) rfl)), (hw _ (List.mem_of_getElem? (i := 192) rfl))⟩ qfn)))))))))))))
  · exact (qfc ⟨(hw _ (List.mem_of_getElem? (i := 33) rfl)), (hw _ (List.mem_of_getElem? (i := 34) rfl))⟩ (qfc ⟨(hw _ (List.mem_of_getElem? (i := 101) rfl)), (hw _ (List.mem_of_getElem? (i := 102) rfl))⟩ (qfc ⟨(hw _ (List.mem_of_getElem? (i := 105) rfl)), (hw _ (List.mem_of_getElem? (i := 106) rfl))⟩ (qfc ⟨(hw _ (List.mem_of_getElem? (i := 109) rfl)), (hw _ (List.mem_of_getElem? (i := 110) rfl))⟩ (qfc ⟨(hw _ (List.mem_of_getElem? (i := 113) rfl)), (hw _ (List.mem_of_getElem? (i := 114) rfl))⟩ (qfc ⟨(hw _ (List.mem_of_getElem? (i := 117) rfl)), (hw _ (List.mem_of_getElem? (i := 118) rfl))⟩ (qfc ⟨(hw _ (List.mem_of_getElem? (i := 125) rfl)), (hw _ (List.mem_of_getElem? (i := 126) rfl))⟩ (qfc ⟨(hw _ (List.mem_of_getElem? (i := 139) rfl)), (hw _ (List.mem_of_getElem? (i := 140) rfl))⟩ (qfc ⟨(hw _ (List.mem_of_getElem? (i := 143) rfl)), (hw _ (List.mem_of_getElem? (i := 144) rfl))⟩ (qfc ⟨(hw _ (List.mem_of_getElem? (i := 147) rfl)), (hw _ (List.mem_of_getElem? (i := 148) rfl))⟩ (qfc ⟨(hw _ (List.mem_of_getElem? (i := 151) rfl)), (hw _ (List.mem_of_getElem? (i := 152) rfl))⟩ (qfc ⟨(hw _ (List.mem_of_getElem? (i := 155) rfl)), (hw _ (List.mem_of_getElem? (i := 156) rfl))⟩ (qfc ⟨(hw _ (List.mem_of_getElem? (i := 159) rfl)), (hw _ (List.mem_of_getElem? (i := 160) rfl))⟩ (qfc ⟨(hw _ (List.mem_of_getElem? (i := 173) rfl)), (hw _ (List.mem_of_getElem? (i := 174) rfl))⟩ (qfc ⟨(hw _ (List.mem_of_getElem? (i := 177) rfl)), (hw _ (List.mem_of_getElem? (i := 178) rfl))⟩ (qfc ⟨(hw _ (List.mem_of_getElem? (i := 196) rfl)), (hw _ (List.mem_of_getElem? (i := 197) rfl))⟩ (qfc ⟨(hw _ (List.mem_of_getElem? (i := 200) rfl)), (hw _ (List.mem_of_getElem? (i := 201) rfl))⟩ (qfc ⟨(hw _ (List.mem_of_getElem? (i := 204) rfl)), (hw _ (List.mem_of_getElem? (i := 205) rfl))⟩ (qfc ⟨(hw _ (List.mem_of_getElem? (i := 208) rfl)), (hw _ (List.mem_of_getElem? (i := 209) rfl))⟩ (qfc ⟨(hw _ (List.mem_of_getElem? (i := 212) rfl)), (hw _ (List.mem_of_getElem? (i := 213) rfl))⟩ qfn))))))))))))))))))))
  · exact (qfc (hw _ (List.mem_of_getElem? (i := 82) rfl)) qfn)
  · exact (qfc (hw _ (List.mem_of_getElem? (i := 4) rfl)) qfn)
  · exact (qfc ⟨(hw _ (List.mem_of_getElem? (i := 5) rfl)), (hw _ (List.mem_of_getElem? (i := 2) rfl))⟩ (qfc ⟨(hw _ (List.mem_of_getElem? (i := 35) rfl)), (hw _ (List.mem_of_getElem? (i := 2) rfl))⟩ (qfc ⟨(hw _ (List.mem_of_getElem? (i := 60) rfl)), (hw _ (List.mem_of_getElem? (i := 2) rfl))⟩ (qfc ⟨(hw _ (List.mem_of_getElem? (i := 65) rfl)), (hw _ (List.mem_of_getElem? (i := 2) rfl))⟩ (qfc ⟨(hw _ (List.mem_of_getElem? (i := 70) rfl)), (hw _ (List.mem_of_getElem? (i := 2) rfl))⟩ (qfc ⟨(hw _ (List.mem_of_getElem? (i := 75) rfl)), (hw _ (List.mem_of_getElem? (i := 2) rfl))⟩ (qfc ⟨(hw _ (List.mem_of_getElem? (i := 80) rfl)), (hw _ (List.mem_of_getElem? (i := 2) rfl))⟩ (qfc ⟨(hw _ (List.mem_of_getElem? (i := 84) rfl)), (hw _ (List.mem_of_getElem? (i := 83) rfl))⟩ (qfc ⟨(hw _ (List.mem_of_getElem? (i := 89) rfl)), (hw _ (List.mem_of_getElem? (i := 2) rfl))⟩ (qfc ⟨(hw _ (List.mem_of_getElem? (i := 94) rfl)), (hw _ (List.mem_of_getElem? (i := 2) rfl))⟩ (qfc ⟨(hw _ (List.mem_of_getElem? (i := 99) rfl)), (hw _ (List.mem_of_getElem? (i := 2) rfl))⟩ (qfc ⟨(hw _ (List.mem_of_getElem? (i := 103) rfl)), (hw _ (List.mem_of_getElem? (i := 2) rfl))⟩ (qfc ⟨(hw _ (List.mem_of_getElem? (i := 107) rfl)), (hw _ (List.mem_of_getElem? (i := 2) rfl))⟩ (qfc ⟨(hw _ (List.mem_of_getElem? (i := 111) rfl)), (hw _ (List.mem_of_getElem? (i := 2) rfl))⟩ (qfc ⟨(hw _ (List.mem_of_getElem? (i := 115) rfl)), (hw _ (List.mem_of_getElem? (i := 2) rfl))⟩ (qfc ⟨(hw _ (List.mem_of_getElem? (i := 119) rfl)), (hw _ (List.mem_of_getElem? (i := 2) rfl))⟩ (qfc ⟨(hw _ (List.mem_of_getElem? (i := 127) rfl)), (hw _ (List.mem_of_getElem? (i := 2) rfl))⟩ (qfc ⟨(hw _ (List.mem_of_getElem? (i := 141) rfl)), (hw _ (List.mem_of_getElem? (i := 2) rfl))⟩ (qfc ⟨(hw _ (List.mem_of_getElem? (i := 145) rfl)), (hw _ (List.mem_of_getElem? (i := 2) rfl))⟩ (qfc ⟨(hw _ (List.mem_of_getElem? (i := 149) rfl)), (hw _ (List.mem_of_getElem? (i := 2) rfl))⟩ (qfc ⟨(hw _ (List.mem_of_getElem? (i := 153) rfl)), (hw _ (List.mem_of_getElem? (i := 2) rfl))⟩ (qfc ⟨(hw _ (List.mem_of_getElem? (i := 157) rfl)), (hw _ (List.mem_of_getElem? (i := 2) rfl))⟩ (qfc ⟨(hw _ (List.mem_of_getElem? (i := 161) rfl)), (hw _ (List.mem_of_getElem? (i := 2) rfl))⟩ (qfc ⟨(hw _ (List.mem_of_getElem? (i := 166) rfl)), (hw _ (List.mem_of_getElem? (i := 2) rfl))⟩ (qfc ⟨(hw _ (List.mem_of_getElem? (i := 171) rfl)), (hw _ (List.mem_of_getElem? (i := 2) rfl))⟩ (qfc ⟨(hw _ (List.mem_of_getElem? (i := 175) rfl)), (hw _ (List.mem_of_getElem? (i := 2) rfl))⟩ (qfc ⟨(hw _ (List.mem_of_getElem? (i := 179) rfl)), (hw _ (List.mem_of_getElem? (i := 2) rfl))⟩ (qfc ⟨(hw _ (List.mem_of_getElem? (i := 184) rfl)), (hw _ (List.mem_of_getElem? (i := 2) rfl))⟩ (qfc ⟨(hw _ (List.mem_of_getElem? (i := 189) rfl)), (hw _ (List.mem_of_getElem? (i := 2) rfl))⟩ (qfc ⟨(hw _ (List.mem_of_getElem? (i := 194) rfl)), (hw _ (List.mem_of_getElem? (i := 2) rfl))⟩ (qfc ⟨(hw _ (List.mem_of_getElem? (i := 198) rfl)), (hw _ (List.mem_of_getElem? (i := 2) rfl))⟩ (qfc ⟨(hw _ (List.mem_of_getElem? (i := 202) rfl)), (hw _ (List.mem_of_getElem? (i := 2) rfl))⟩ (qfc ⟨(hw _ (List.mem_of_getElem? (i := 206) rfl)), (hw _ (List.mem_of_getElem? (i := 2) rfl))⟩ (qfc ⟨(hw _ (List.mem_of_getElem? (i := 210) rfl)), (hw _ (List.mem_of_getElem? (i := 2) rfl))⟩ (qfc ⟨(hw _ (List.mem_of_getElem? (i := 214) rfl)), (hw _ (List.mem_of_getElem? (i := 2) rfl))⟩ qfn)))))))))))))))))))))))))))))))))))
  · exact (hw _ (List.mem_of_getElem? (i := 7) rfl))
  · exact (hw _ (List.mem_of_getElem? (i := 8) rfl))
  · exact (hw _ (List.mem_of_getElem? (i := 1) rfl))
  · exact (hw _ (List.mem_of_getElem? (i := 2) rfl))
  · exact (qfc (hw _ (List.mem_of_getElem? (i := 9) rfl)) (qfc (hw _ (List.mem_of_getElem? (i := 18) rfl)) (qfc (hw _ (List.mem_of_getElem? (i := 21) rfl)) qfn)))
abbrev Ob := List Int32 × List Int32 × List Int32 × List Int32 × List Int64 × List Int32 × List Int32 × List Int32 × Int32 × Int32 × Int32 × Int32 × Int32 × Int32 × Int32 × Int32 × Int32 × Int32 × Int32 × Int32 × Int32 × Int32 × Int64 × Int32 × Int32 × Int32 × Int32
def f_part (o : Ob) : List Int32 := o.1
def f_keys (o : Ob) : List Int32 := o.2.1
def f_vals (o : Ob) : List Int32 := o.2.2.1
def f_flg (o : Ob) : List Int32 := o.2.2.2.1
def f_res (o : Ob) : List Int64 := o.2.2.2.2.1
def f_resNull (o : Ob) : List Int32 := o.2.2.2.2.2.1
def f_frameCnt (o : Ob) : List Int32 := o.2.2.2.2.2.2.1
def f_sorted (o : Ob) : List Int32 := o.2.2.2.2.2.2.2.1
def f_cap (o : Ob) : Int32 := o.2.2.2.2.2.2.2.2.1
def f_rows (o : Ob) : Int32 := o.2.2.2.2.2.2.2.2.2.1
def f_direction (o : Ob) : Int32 := o.2.2.2.2.2.2.2.2.2.2.1
def f_nulls (o : Ob) : Int32 := o.2.2.2.2.2.2.2.2.2.2.2.1
def f_mode (o : Ob) : Int32 := o.2.2.2.2.2.2.2.2.2.2.2.2.1
def f_startKind (o : Ob) : Int32 := o.2.2.2.2.2.2.2.2.2.2.2.2.2.1
def f_startOff (o : Ob) : Int32 := o.2.2.2.2.2.2.2.2.2.2.2.2.2.2.1
def f_endKind (o : Ob) : Int32 := o.2.2.2.2.2.2.2.2.2.2.2.2.2.2.2.1
def f_endOff (o : Ob) : Int32 := o.2.2.2.2.2.2.2.2.2.2.2.2.2.2.2.2.1
def f_fn (o : Ob) : Int32 := o.2.2.2.2.2.2.2.2.2.2.2.2.2.2.2.2.2.1
def f_fnArg (o : Ob) : Int32 := o.2.2.2.2.2.2.2.2.2.2.2.2.2.2.2.2.2.2.1
def f_computed (o : Ob) : Int32 := o.2.2.2.2.2.2.2.2.2.2.2.2.2.2.2.2.2.2.2.1
def f_sortedLen (o : Ob) : Int32 := o.2.2.2.2.2.2.2.2.2.2.2.2.2.2.2.2.2.2.2.2.1
def f_curPos (o : Ob) : Int32 := o.2.2.2.2.2.2.2.2.2.2.2.2.2.2.2.2.2.2.2.2.2.1
def f_aggSum (o : Ob) : Int64 := o.2.2.2.2.2.2.2.2.2.2.2.2.2.2.2.2.2.2.2.2.2.2.1
def f_aggCount (o : Ob) : Int32 := o.2.2.2.2.2.2.2.2.2.2.2.2.2.2.2.2.2.2.2.2.2.2.2.1
def f_aggRows (o : Ob) : Int32 := o.2.2.2.2.2.2.2.2.2.2.2.2.2.2.2.2.2.2.2.2.2.2.2.2.1
def f_aggMin (o : Ob) : Int32 := o.2.2.2.2.2.2.2.2.2.2.2.2.2.2.2.2.2.2.2.2.2.2.2.2.2.1
def f_aggMax (o : Ob) : Int32 := o.2.2.2.2.2.2.2.2.2.2.2.2.2.2.2.2.2.2.2.2.2.2.2.2.2.2
def s_part (o : Ob) (v : List Int32) : Ob := (v, o.2.1, o.2.2.1, o.2.2.2.1, o.2.2.2.2.1, o.2.2.2.2.2.1, o.2.2.2.2.2.2.1, o.2.2.2.2.2.2.2.1, o.2.2.2.2.2.2.2.2.1, o.2.2.2.2.2.2.2.2.2.1, o.2.2.2.2.2.2.2.2.2.2.1, o.2.2.2.2.2.2.2.2.2.2.2.1, o.2.2.2.2.2.2.2.2.2.2.2.2.1, o.2.2.2.2.2.2.2.2.2.2.2.2.2.1, o.2.2.2.2.2.2.2.2.2.2.2.2.2.2.1, o.2.2.2.2.2.2.2.2.2.2.2.2.2.2.2.1, o.2.2.2.2.2.2.2.2.2.2.2.2.2.2.2.2.1, o.2.2.2.2.2.2.2.2.2.2.2.2.2.2.2.2.2.1, o.2.2.2.2.2.2.2.2.2.2.2.2.2.2.2.2.2.2.1, o.2.2.2.2.2.2.2.2.2.2.2.2.2.2.2.2.2.2.2.1, o.2.2.2.2.2.2.2.2.2.2.2.2.2.2.2.2.2.2.2.2.1, o.2.2.2.2.2.2.2.2.2.2.2.2.2.2.2.2.2.2.2.2.2.1, o.2.2.2.2.2.2.2.2.2.2.2.2.2.2.2.2.2.2.2.2.2.2.1, o.2.2.2.2.2.2.2.2.2.2.2.2.2.2.2.2.2.2.2.2.2.2.2.1, o.2.2.2.2.2.2.2.2.2.2.2.2.2.2.2.2.2.2.2.2.2.2.2.2.1, o.2.2.2.2.2.2.2.2.2.2.2.2.2.2.2.2.2.2.2.2.2.2.2.2.2.1, o.2.2.2.2.2.2.2.2.2.2.2.2.2.2.2.2.2.2.2.2.2.2.2.2.2.2)
def s_keys (o : Ob) (v : List Int32) : Ob := (o.1, v, o.2.2.1, o.2.2.2.1, o.2.2.2.2.1, o.2.2.2.2.2.1, o.2.2.2.2.2.2.1, o.2.2.2.2.2.2.2.1, o.2.2.2.2.2.2.2.2.1, o.2.2.2.2.2.2.2.2.2.1, o.2.2.2.2.2.2.2.2.2.2.1, o.2.2.2.2.2.2.2.2.2.2.2.1, o.2.2.2.2.2.2.2.2.2.2.2.2.1, o.2.2.2.2.2.2.2.2.2.2.2.2.2.1, o.2.2.2.2.2.2.2.2.2.2.2.2.2.2.1, o.2.2.2.2.2.2.2.2.2.2.2.2.2.2.2.1, o.2.2.2.2.2.2.2.2.2.2.2.2.2.2.2.2.1, o.2.2.2.2.2.2.2.2.2.2.2.2.2.2.2.2.2.1, o.2.2.2.2.2.2.2.2.2.2.2.2.2.2.2.2.2.2.1, o.2.2.2.2.2.2.2.2.2.2.2.2.2.2.2.2.2.2.2.1, o.2.2.2.2.2.2.2.2.2.2.2.2.2.2.2.2.2.2.2.2.1, o.2.2.2.2.2.2.2.2.2.2.2.2.2.2.2.2.2.2.2.2.2.1, o.2.2.2.2.2.2.2.2.2.2.2.2.2.2.2.2.2.2.2.2.2.2.1, o.2.2.2.2.2.2.2.2.2.2.2.2.2.2.2.2.2.2.2.2.2.2.2.1, o.2.2.2.2.2.2.2.2.2.2.2.2.2.2.2.2.2.2.2.2.2.2.2.2.1, o.2.2.2.2.2.2.2.2.2.2.2.2.2.2.2.2.2.2.2.2.2.2.2.2.2.1, o.2.2.2.2.2.2.2.2.2.2.2.2.2.2.2.2.2.2.2.2.2.2.2.2.2.2)
def s_vals (o : Ob) (v : List Int32) : Ob := (o.1, o.2.1, v, o.2.2.2.1, o.2.2.2.2.1, o.2.2.2.2.2.1, o.2.2.2.2.2.2.1, o.2.2.2.2.2.2.2.1, o.2.2.2.2.2.2.2.2.1, o.2.2.2.2.2.2.2.2.2.1, o.2.2.2.2.2.2.2.2.2.2.1, o.2.2.2.2.2.2.2.2.2.2.2.1, o.2.2.2.2.2.2.2.2.2.2.2.2.1, o.2.2.2.2.2.2.2.2.2.2.2.2.2.1, o.2.2.2.2.2.2.2.2.2.2.2.2.2.2.1, o.2.2.2.2.2.2.2.2.2.2.2.2.2.2.2.1, o.2.2.2.2.2.2.2.2.2.2.2.2.2.2.2.2.1, o.2.2.2.2.2.2.2.2.2.2.2.2.2.2.2.2.2.1, o.2.2.2.2.2.2.2.2.2.2.2.2.2.2.2.2.2.2.1, o.2.2.2.2.2.2.2.2.2.2.2.2.2.2.2.2.2.2.2.1, o.2.2.2.2.2.2.2.2.2.2.2.2.2.2.2.2.2.2.2.2.1, o.2.2.2.2.2.2.2.2.2.2.2.2.2.2.2.2.2.2.2.2.2.1, o.2.2.2.2.2.2.2.2.2.2.2.2.2.2.2.2.2.2.2.2.2.2.1, o.2.2.2.2.2.2.2.2.2.2.2.2.2.2.2.2.2.2.2.2.2.2.2.1, o.2.2.2.2.2.2.2.2.2.2.2.2.2.2.2.2.2.2.2.2.2.2.2.2.1, o.2.2.2.2.2.2.2.2.2.2.2.2.2.2.2.2.2.2.2.2.2.2.2.2.2.1, o.2.2.2.2.2.2.2.2.2.2.2.2.2.2.2.2.2.2.2.2.2.2.2.2.2.2)
def s_flg (o : Ob) (v : List Int32) : Ob := (o.1, o.2.1, o.2.2.1, v, o.2.2.2.2.1, o.2.2.2.2.2.1, o.2.2.2.2.2.2.1, o.2.2.2.2.2.2.2.1, o.2.2.2.2.2.2.2.2.1, o.2.2.2.2.2.2.2.2.2.1, o.2.2.2.2.2.2.2.2.2.2.1, o.2.2.2.2.2.2.2.2.2.2.2.1, o.2.2.2.2.2.2.2.2.2.2.2.2.1, o.2.2.2.2.2.2.2.2.2.2.2.2.2.1, o.2.2.2.2.2.2.2.2.2.2.2.2.2.2.1, o.2.2.2.2.2.2.2.2.2.2.2.2.2.2.2.1, o.2.2.2.2.2.2.2.2.2.2.2.2.2.2.2.2.1, o.2.2.2.2.2.2.2.2.2.2.2.2.2.2.2.2.2.1, o.2.2.2.2.2.2.2.2.2.2.2.2.2.2.2.2.2.2.1, o.2.2.2.2.2.2.2.2.2.2.2.2.2.2.2.2.2.2.2.1, o.2.2.2.2.2.2.2.2.2.2.2.2.2.2.2.2.2.2.2.2.1, o.2.2.2.2.2.2.2.2.2.2.2.2.2.2.2.2.2.2.2.2.2.1, o.2.2.2.2.2.2.2.2.2.2.2.2.2.2.2.2.2.2.2.2.2.2.1, o.2.2.2.2.2.2.2.2.2.2.2.2.2.2.2.2.2.2.2.2.2.2.2.1, o.2.2.2.2.2.2.2.2.2.2.2.2.2.2.2.2.2.2.2.2.2.2.2.2.1, o.2.2.2.2.2.2.2.2.2.2.2.2.2.2.2.2.2.2.2.2.2.2.2.2.2.1, o.2.2.2.2.2.2.2.2.2.2.2.2.2.2.2.2.2.2.2.2.2.2.2.2.2.2)
def s_res (o : Ob) (v : List Int64) : Ob := (o.1, o.2.1, o.2.2.1, o.2.2.2.1, v, o.2.2.2.2.2.1, o.2.2.2.2.2.2.1, o.2.2.2.2.2.2.2.1, o.2.2.2.2.2.2.2.2.1, o.2.2.2.2.2.2.2.2.2.1, o.2.2.2.2.2.2.2.2.2.2.1, o.2.2.2.2.2.2.2.2.2.2.2.1, o.2.2.2.2.2.2.2.2.2.2.2.2.1, o.2.2.2.2.2.2.2.2.2.2.2.2.2.1, o.2.2.2.2.2.2.2.2.2.2.2.2.2.2.1, o.2.2.2.2.2.2.2.2.2.2.2.2.2.2.2.1, o.2.2.2.2.2.2.2.2.2.2.2.2.2.2.2.2.1, o.2.2.2.2.2.2.2.2.2.2.2.2.2.2.2.2.2.1, o.2.2.2.2.2.2.2.2.2.2.2.2.2.2.2.2.2.2.1, o.2.2.2.2.2.2.2.2.2.2.2.2.2.2.2.2.2.2.2.1, o.2.2.2.2.2.2.2.2.2.2.2.2.2.2.2.2.2.2.2.2.1, o.2.2.2.2.2.2.2.2.2.2.2.2.2.2.2.2.2.2.2.2.2.1, o.2.2.2.2.2.2.2.2.2.2.2.2.2.2.2.2.2.2.2.2.2.2.1, o.2.2.2.2.2.2.2.2.2.2.2.2.2.2.2.2.2.2.2.2.2.2.2.1, o.2.2.2.2.2.2.2.2.2.2.2.2.2.2.2.2.2.2.2.2.2.2.2.2.1, o.2.2.2.2.2.2.2.2.2.2.2.2.2.2.2.2.2.2.2.2.2.2.2.2.2.1, o.2.2.2.2.2.2.2.2.2.2.2.2.2.2.2.2.2.2.2.2.2.2.2.2.2.2)
def s_resNull (o : Ob) (v : List Int32) : Ob := (o.1, o.2.1, o.2.2.1, o.2.2.2.1, o.2.2.2.2.1, v, o.2.2.2.2.2.2.1, o.2.2.2.2.2.2.2.1, o.2.2.2.2.2.2.2.2.1, o.2.2.2.2.2.2.2.2.2.1, o.2.2.2.2.2.2.2.2.2.2.1, o.2.2.2.2.2.2.2.2.2.2.2.1, o.2.2.2.2.2.2.2.2.2.2.2.2.1, o.2.2.2.2.2.2.2.2.2.2.2.2.2.1, o.2.2.2.2.2.2.2.2.2.2.2.2.2.2.1, o.2.2.2.2.2.2.2.2.2.2.2.2.2.2.2.1, o.2.2.2.2.2.2.2.2.2.2.2.2.2.2.2.2.1, o.2.2.2.2.2.2.2.2.2.2.2.2.2.2.2.2.2.1, o.2.2.2.2.2.2.2.2.2.2.2.2.2.2.2.2.2.2.1, o.2.2.2.2.2.2.2.2.2.2.2.2.2.2.2.2.2.2.2.1, o.2.2.2.2.2.2.2.2.2.2.2.2.2.2.2.2.2.2.2.2.1, o.2.2.2.2.2.2.2.2.2.2.2.2.2.2.2.2.2.2.2.2.2.1, o.2.2.2.2.2.2.2.2.2.2.2.2.2.2.2.2.2.2.2.2.2.2.1, o.2.2.2.2.2.2.2.2.2.2.2.2.2.2.2.2.2.2.2.2.2.2.2.1, o.2.2.2.2.2.2.2.2.2.2.2.2.2.2.2.2.2.2.2.2.2.2.2.2.1, o.2.2.2.2.2.2.2.2.2.2.2.2.2.2.2.2.2.2.2.2.2.2.2.2.2.1, o.2.2.2.2.2.2.2.2.2.2.2.2.2.2.2.2.2.2.2.2.2.2.2.2.2.2)
def s_frameCnt (o : Ob) (v : List Int32) : Ob := (o.1, o.2.1, o.2.2.1, o.2.2.2.1, o.2.2.2.2.1, o.2.2.2.2.2.1, v, o.2.2.2.2.2.2.2.1, o.2.2.2.2.2.2.2.2.1, o.2.2.2.2.2.2.2.2.2.1, o.2.2.2.2.2.2.2.2.2.2.1, o.2.2.2.2.2.2.2.2.2.2.2.1, o.2.2.2.2.2.2.2.2.2.2.2.2.1, o.2.2.2.2.2.2.2.2.2.2.2.2.2.1, o.2.2.2.2.2.2.2.2.2.2.2.2.2.2.1, o.2.2.2.2.2.2.2.2.2.2.2.2.2.2.2.1, o.2.2.2.2.2.2.2.2.2.2.2.2.2.2.2.2.1, o.2.2.2.2.2.2.2.2.2.2.2.2.2.2.2.2.2.1, o.2.2.2.2.2.2.2.2.2.2.2.2.2.2.2.2.2.2.1, o.2.2.2.2.2.2.2.2.2.2.2.2.2.2.2.2.2.2.2.1, o.2.2.2.2.2.2.2.2.2.2.2.2.2.2.2.2.2.2.2.2.1, o.2.2.2.2.2.2.2.2.2.2.2.2.2.2.2.2.2.2.2.2.2.1, o.2.2.2.2.2.2.2.2.2.2.2.2.2.2.2.2.2.2.2.2.2.2.1, o.2.2.2.2.2.2.2.2.2.2.2.2.2.2.2.2.2.2.2.2.2.2.2.1, o.2.2.2.2.2.2.2.2.2.2.2.2.2.2.2.2.2.2.2.2.2.2.2.2.1, o.2.2.2.2.2.2.2.2.2.2.2.2.2.2.2.2.2.2.2.2.2.2.2.2.2.1, o.2.2.2.2.2.2.2.2.2.2.2.2.2.2.2.2.2.2.2.2.2.2.2.2.2.2)
def s_sorted (o : Ob) (v : List Int32) : Ob := (o.1, o.2.1, o.2.2.1, o.2.2.2.1, o.2.2.2.2.1, o.2.2.2.2.2.1, o.2.2.2.2.2.2.1, v, o.2.2.2.2.2.2.2.2.1, o.2.2.2.2.2.2.2.2.2.1, o.2.2.2.2.2.2.2.2.2.2.1, o.2.2.2.2.2.2.2.2.2.2.2.1, o.2.2.2.2.2.2.2.2.2.2.2.2.1, o.2.2.2.2.2.2.2.2.2.2.2.2.2.1, o.2.2.2.2.2.2.2.2.2.2.2.2.2.2.1, o.2.2.2.2.2.2.2.2.2.2.2.2.2.2.2.1, o.2.2.2.2.2.2.2.2.2.2.2.2.2.2.2.2.1, o.2.2.2.2.2.2.2.2.2.2.2.2.2.2.2.2.2.1, o.2.2.2.2.2.2.2.2.2.2.2.2.2.2.2.2.2.2.1, o.2.2.2.2.2.2.2.2.2.2.2.2.2.2.2.2.2.2.2.1, o.2.2.2.2.2.2.2.2.2.2.2.2.2.2.2.2.2.2.2.2.1, o.2.2.2.2.2.2.2.2.2.2.2.2.2.2.2.2.2.2.2.2.2.1, o.2.2.2.2.2.2.2.2.2.2.2.2.2.2.2.2.2.2.2.2.2.2.1, o.2.2.2.2.2.2.2.2.2.2.2.2.2.2.2.2.2.2.2.2.2.2.2.1, o.2.2.2.2.2.2.2.2.2.2.2.2.2.2.2.2.2.2.2.2.2.2.2.2.1, o.2.2.2.2.2.2.2.2.2.2.2.2.2.2.2.2.2.2.2.2.2.2.2.2.2.1, o.2.2.2.2.2.2.2.2.2.2.2.2.2.2.2.2.2.2.2.2.2.2.2.2.2.2)
def s_cap (o : Ob) (v : Int32) : Ob := (o.1, o.2.1, o.2.2.1, o.2.2.2.1, o.2.2.2.2.1, o.2.2.2.2.2.1, o.2.2.2.2.2.2.1, o.2.2.2.2.2.2.2.1, v, o.2.2.2.2.2.2.2.2.2.1, o.2.2.2.2.2.2.2.2.2.2.1, o.2.2.2.2.2.2.2.2.2.2.2.1, o.2.2.2.2.2.2.2.2.2.2.2.2.1, o.2.2.2.2.2.2.2.2.2.2.2.2.2.1, o.2.2.2.2.2.2.2.2.2.2.2.2.2.2.1, o.2.2.2.2.2.2.2.2.2.2.2.2.2.2.2.1, o.2.2.2.2.2.2.2.2.2.2.2.2.2.2.2.2.1, o.2.2.2.2.2.2.2.2.2.2.2.2.2.2.2.2.2.1, o.2.2.2.2.2.2.2.2.2.2.2.2.2.2.2.2.2.2.1, o.2.2.2.2.2.2.2.2.2.2.2.2.2.2.2.2.2.2.2.1, o.2.2.2.2.2.2.2.2.2.2.2.2.2.2.2.2.2.2.2.2.1, o.2.2.2.2.2.2.2.2.2.2.2.2.2.2.2.2.2.2.2.2.2.1, o.2.2.2.2.2.2.2.2.2.2.2.2.2.2.2.2.2.2.2.2.2.2.1, o.2.2.2.2.2.2.2.2.2.2.2.2.2.2.2.2.2.2.2.2.2.2.2.1, o.2.2.2.2.2.2.2.2.2.2.2.2.2.2.2.2.2.2.2.2.2.2.2.2.1, o.2.2.2.2.2.2.2.2.2.2.2.2.2.2.2.2.2.2.2.2.2.2.2.2.2.1, o.2.2.2.2.2.2.2.2.2.2.2.2.2.2.2.2.2.2.2.2.2.2.2.2.2.2)
def s_rows (o : Ob) (v : Int32) : Ob := (o.1, o.2.1, o.2.2.1, o.2.2.2.1, o.2.2.2.2.1, o.2.2.2.2.2.1, o.2.2.2.2.2.2.1, o.2.2.2.2.2.2.2.1, o.2.2.2.2.2.2.2.2.1, v, o.2.2.2.2.2.2.2.2.2.2.1, o.2.2.2.2.2.2.2.2.2.2.2.1, o.2.2.2.2.2.2.2.2.2.2.2.2.1, o.2.2.2.2.2.2.2.2.2.2.2.2.2.1, o.2.2.2.2.2.2.2.2.2.2.2.2.2.2.1, o.2.2.2.2.2.2.2.2.2.2.2.2.2.2.2.1, o.2.2.2.2.2.2.2.2.2.2.2.2.2.2.2.2.1, o.2.2.2.2.2.2.2.2.2.2.2.2.2.2.2.2.2.1, o.2.2.2.2.2.2.2.2.2.2.2.2.2.2.2.2.2.2.1, o.2.2.2.2.2.2.2.2.2.2.2.2.2.2.2.2.2.2.2.1, o.2.2.2.2.2.2.2.2.2.2.2.2.2.2.2.2.2.2.2.2.1, o.2.2.2.2.2.2.2.2.2.2.2.2.2.2.2.2.2.2.2.2.2.1, o.2.2.2.2.2.2.2.2.2.2.2.2.2.2.2.2.2.2.2.2.2.2.1, o.2.2.2.2.2.2.2.2.2.2.2.2.2.2.2.2.2.2.2.2.2.2.2.1, o.2.2.2.2.2.2.2.2.2.2.2.2.2.2.2.2.2.2.2.2.2.2.2.2.1, o.2.2.2.2.2.2.2.2.2.2.2.2.2.2.2.2.2.2.2.2.2.2.2.2.2.1, o.2.2.2.2.2.2.2.2.2.2.2.2.2.2.2.2.2.2.2.2.2.2.2.2.2.2)
def s_direction (o : Ob) (v : Int32) : Ob := (o.1, o.2.1, o.2.2.1, o.2.2.2.1, o.2.2.2.2.1, o.2.2.2.2.2.1, o.2.2.2.2.2.2.1, o.2.2.2.2.2.2.2.1, o.2.2.2.2.2.2.2.2.1, o.2.2.2.2.2.2.2.2.2.1, v, o.2.2.2.2.2.2.2.2.2.2.2.1, o.2.2.2.2.2.2.2.2.2.2.2.2.1, o.2.2.2.2.2.2.2.2.2.2.2.2.2.1, o.2.2.2.2.2.2.2.2.2.2.2.2.2.2.1, o.2.2.2.2.2.2.2.2.2.2.2.2.2.2.2.1, o.2.2.2.2.2.2.2.2.2.2.2.2.2.2.2.2.1, o.2.2.2.2.2.2.2.2.2.2.2.2.2.2.2.2.2.1, o.2.2.2.2.2.2.2.2.2.2.2.2.2.2.2.2.2.2.1, o.2.2.2.2.2.2.2.2.2.2.2.2.2.2.2.2.2.2.2.1, o.2.2.2.2.2.2.2.2.2.2.2.2.2.2.2.2.2.2.2.2.1, o.2.2.2.2.2.2.2.2.2.2.2.2.2.2.2.2.2.2.2.2.2.1, o.2.2.2.2.2.2.2.2.2.2.2.2.2.2.2.2.2.2.2.2.2.2.1, o.2.2.2.2.2.2.2.2.2.2.2.2.2.2.2.2.2.2.2.2.2.2.2.1, o.2.2.2.2.2.2.2.2.2.2.2.2.2.2.2.2.2.2.2.2.2.2.2.2.1, o.2.2.2.2.2.2.2.2.2.2.2.2.2.2.2.2.2.2.2.2.2.2.2.2.2.1, o.2.2.2.2.2.2.2.2.2.2.2.2.2.2.2.2.2.2.2.2.2.2.2.2.2.2)
def s_nulls (o : Ob) (v : Int32) : Ob := (o.1, o.2.1, o.2.2.1, o.2.2.2.1, o.2.2.2.2.1, o.2.2.2.2.2.1, o.2.2.2.2.2.2.1, o.2.2.2.2.2.2.2.1, o.2.2.2.2.2.2.2.2.1, o.2.2.2.2.2.2.2.2.2.1, o.2.2.2.2.2.2.2.2.2.2.1, v, o.2.2.2.2.2.2.2.2.2.2.2.2.1, o.2.2.2.2.2.2.2.2.2.2.2.2.2.1, o.2.2.2.2.2.2.2.2.2.2.2.2.2.2.1, o.2.2.2.2.2.2.2.2.2.2.2.2.2.2.2.1, o.2.2.2.2.2.2.2.2.2.2.2.2.2.2.2.2.1, o.2.2.2.2.2.2.2.2.2.2.2.2.2.2.2.2.2.1, o.2.2.2.2.2.2.2.2.2.2.2.2.2.2.2.2.2.2.1, o.2.2.2.2.2.2.2.2.2.2.2.2.2.2.2.2.2.2.2.1, o.2.2.2.2.2.2.2.2.2.2.2.2.2.2.2.2.2.2.2.2.1, o.2.2.2.2.2.2.2.2.2.2.2.2.2.2.2.2.2.2.2.2.2.1, o.2.2.2.2.2.2.2.2.2.2.2.2.2.2.2.2.2.2.2.2.2.2.1, o.2.2.2.2.2.2.2.2.2.2.2.2.2.2.2.2.2.2.2.2.2.2.2.1, o.2.2.2.2.2.2.2.2.2.2.2.2.2.2.2.2.2.2.2.2.2.2.2.2.1, o.2.2.2.2.2.2.2.2.2.2.2.2.2.2.2.2.2.2.2.2.2.2.2.2.2.1, o.2.2.2.2.2.2.2.2.2.2.2.2.2.2.2.2.2.2.2.2.2.2.2.2.2.2)
def s_mode (o : Ob) (v : Int32) : Ob := (o.1, o.2.1, o.2.2.1, o.2.2.2.1, o.2.2.2.2.1, o.2.2.2.2.2.1, o.2.2.2.2.2.2.1, o.2.2.2.2.2.2.2.1, o.2.2.2.2.2.2.2.2.1, o.2.2.2.2.2.2.2.2.2.1, o.2.2.2.2.2.2.2.2.2.2.1, o.2.2.2.2.2.2.2.2.2.2.2.1, v, o.2.2.2.2.2.2.2.2.2.2.2.2.2.1, o.2.2.2.2.2.2.2.2.2.2.2.2.2.2.1, o.2.2.2.2.2.2.2.2.2.2.2.2.2.2.2.1, o.2.2.2.2.2.2.2.2.2.2.2.2.2.2.2.2.1, o.2.2.2.2.2.2.2.2.2.2.2.2.2.2.2.2.2.1, o.2.2.2.2.2.2.2.2.2.2.2.2.2.2.2.2.2.2.1, o.2.2.2.2.2.2.2.2.2.2.2.2.2.2.2.2.2.2.2.1, o.2.2.2.2.2.2.2.2.2.2.2.2.2.2.2.2.2.2.2.2.1, o.2.2.2.2.2.2.2.2.2.2.2.2.2.2.2.2.2.2.2.2.2.1, o.2.2.2.2.2.2.2.2.2.2.2.2.2.2.2.2.2.2.2.2.2.2.1, o.2.2.2.2.2.2.2.2.2.2.2.2.2.2.2.2.2.2.2.2.2.2.2.1, o.2.2.2.2.2.2.2.2.2.2.2.2.2.2.2.2.2.2.2.2.2.2.2.2.1, o.2.2.2.2.2.2.2.2.2.2.2.2.2.2.2.2.2.2.2.2.2.2.2.2.2.1, o.2.2.2.2.2.2.2.2.2.2.2.2.2.2.2.2.2.2.2.2.2.2.2.2.2.2)
def s_startKind (o : Ob) (v : Int32) : Ob := (o.1, o.2.1, o.2.2.1, o.2.2.2.1, o.2.2.2.2.1, o.2.2.2.2.2.1, o.2.2.2.2.2.2.1, o.2.2.2.2.2.2.2.1, o.2.2.2.2.2.2.2.2.1, o.2.2.2.2.2.2.2.2.2.1, o.2.2.2.2.2.2.2.2.2.2.1, o.2.2.2.2.2.2.2.2.2.2.2.1, o.2.2.2.2.2.2.2.2.2.2.2.2.1, v, o.2.2.2.2.2.2.2.2.2.2.2.2.2.2.1, o.2.2.2.2.2.2.2.2.2.2.2.2.2.2.2.1, o.2.2.2.2.2.2.2.2.2.2.2.2.2.2.2.2.1, o.2.2.2.2.2.2.2.2.2.2.2.2.2.2.2.2.2.1, o.2.2.2.2.2.2.2.2.2.2.2.2.2.2.2.2.2.2.1, o.2.2.2.2.2.2.2.2.2.2.2.2.2.2.2.2.2.2.2.1, o.2.2.2.2.2.2.2.2.2.2.2.2.2.2.2.2.2.2.2.2.1, o.2.2.2.2.2.2.2.2.2.2.2.2.2.2.2.2.2.2.2.2.2.1, o.2.2.2.2.2.2.2.2.2.2.2.2.2.2.2.2.2.2.2.2.2.2.1, o.2.2.2.2.2.2.2.2.2.2.2.2.2.2.2.2.2.2.2.2.2.2.2.1, o.2.2.2.2.2.2.2.2.2.2.2.2.2.2.2.2.2.2.2.2.2.2.2.2.1, o.2.2.2.2.2.2.2.2.2.2.2.2.2.2.2.2.2.2.2.2.2.2.2.2.2.1, o.2.2.2.2.2.2.2.2.2.2.2.2.2.2.2.2.2.2.2.2.2.2.2.2.2.2)
def s_startOff (o : Ob) (v : Int32) : Ob := (o.1, o.2.1, o.2.2.1, o.2.2.2.1, o.2.2.2.2.1, o.2.2.2.2.2.1, o.2.2.2.2.2.2.1, o.2.2.2.2.2.2.2.1, o.2.2.2.2.2.2.2.2.1, o.2.2.2.2.2.2.2.2.2.1, o.2.2.2.2.2.2.2.2.2.2.1, o.2.2.2.2.2.2.2.2.2.2.2.1, o.2.2.2.2.2.2.2.2.2.2.2.2.1, o.2.2.2.2.2.2.2.2.2.2.2.2.2.1, v, o.2.2.2.2.2.2.2.2.2.2.2.2.2.2.2.1, o.2.2.2.2.2.2.2.2.2.2.2.2.2.2.2.2.1, o.2.2.2.2.2.2.2.2.2.2.2.2.2.2.2.2.2.1, o.2.2.2.2.2.2.2.2.2.2.2.2.2.2.2.2.2.2.1, o.2.2.2.2.2.2.2.2.2.2.2.2.2.2.2.2.2.2.2.1, o.2.2.2.2.2.2.2.2.2.2.2.2.2.2.2.2.2.2.2.2.1, o.2.2.2.2.2.2.2.2.2.2.2.2.2.2.2.2.2.2.2.2.2.1, o.2.2.2.2.2.2.2.2.2.2.2.2.2.2.2.2.2.2.2.2.2.2.1, o.2.2.2.2.2.2.2.2.2.2.2.2.2.2.2.2.2.2.2.2.2.2.2.1, o.2.2.2.2.2.2.2.2.2.2.2.2.2.2.2.2.2.2.2.2.2.2.2.2.1, o.2.2.2.2.2.2.2.2.2.2.2.2.2.2.2.2.2.2.2.2.2.2.2.2.2.1, o.2.2.2.2.2.2.2.2.2.2.2.2.2.2.2.2.2.2.2.2.2.2.2.2.2.2)
def s_endKind (o : Ob) (v : Int32) : Ob := (o.1, o.2.1, o.2.2.1, o.2.2.2.1, o.2.2.2.2.1, o.2.2.2.2.2.1, o.2.2.2.2.2.2.1, o.2.2.2.2.2.2.2.1, o.2.2.2.2.2.2.2.2.1, o.2.2.2.2.2.2.2.2.2.1, o.2.2.2.2.2.2.2.2.2.2.1, o.2.2.2.2.2.2.2.2.2.2.2.1, o.2.2.2.2.2.2.2.2.2.2.2.2.1, o.2.2.2.2.2.2.2.2.2.2.2.2.2.1, o.2.2.2.2.2.2.2.2.2.2.2.2.2.2.1, v, o.2.2.2.2.2.2.2.2.2.2.2.2.2.2.2.2.1, o.2.2.2.2.2.2.2.2.2.2.2.2.2.2.2.2.2.1, o.2.2.2.2.2.2.2.2.2.2.2.2.2.2.2.2.2.2.1, o.2.2.2.2.2.2.2.2.2.2.2.2.2.2.2.2.2.2.2.1, o.2.2.2.2.2.2.2.2.2.2.2.2.2.2.2.2.2.2.2.2.1, o.2.2.2.2.2.2.2.2.2.2.2.2.2.2.2.2.2.2.2.2.2.1, o.2.2.2.2.2.2.2.2.2.2.2.2.2.2.2.2.2.2.2.2.2.2.1, o.2.2.2.2.2.2.2.2.2.2.2.2.2.2.2.2.2.2.2.2.2.2.2.1, o.2.2.2.2.2.2.2.2.2.2.2.2.2.2.2.2.2.2.2.2.2.2.2.2.1, o.2.2.2.2.2.2.2.2.2.2.2.2.2.2.2.2.2.2.2.2.2.2.2.2.2.1, o.2.2.2.2.2.2.2.2.2.2.2.2.2.2.2.2.2.2.2.2.2.2.2.2.2.2)
def s_endOff (o : Ob) (v : Int32) : Ob := (o.1, o.2.1, o.2.2.1, o.2.2.2.1, o.2.2.2.2.1, o.2.2.2.2.2.1, o.2.2.2.2.2.2.1, o.2.2.2.2.2.2.2.1, o.2.2.2.2.2.2.2.2.1, o.2.2.2.2.2.2.2.2.2.1, o.2.2.2.2.2.2.2.2.2.2.1, o.2.2.2.2.2.2.2.2.2.2.2.1, o.2.2.2.2.2.2.2.2.2.2.2.2.1, o.2.2.2.2.2.2.2.2.2.2.2.2.2.1, o.2.2.2.2.2.2.2.2.2.2.2.2.2.2.1, o.2.2.2.2.2.2.2.2.2.2.2.2.2.2.2.1, v, o.2.2.2.2.2.2.2.2.2.2.2.2.2.2.2.2.2.1, o.2.2.2.2.2.2.2.2.2.2.2.2.2.2.2.2.2.2.1, o.2.2.2.2.2.2.2.2.2.2.2.2.2.2.2.2.2.2.2.1, o.2.2.2.2.2.2.2.2.2.2.2.2.2.2.2.2.2.2.2.2.1, o.2.2.2.2.2.2.2.2.2.2.2.2.2.2.2.2.2.2.2.2.2.1, o.2.2.2.2.2.2.2.2.2.2.2.2.2.2.2.2.2.2.2.2.2.2.1, o.2.2.2.2.2.2.2.2.2.2.2.2.2.2.2.2.2.2.2.2.2.2.2.1, o.2.2.2.2.2.2.2.2.2.2.2.2.2.2.2.2.2.2.2.2.2.2.2.2.1, o.2.2.2.2.2.2.2.2.2.2.2.2.2.2.2.2.2.2.2.2.2.2.2.2.2.1, o.2.2.2.2.2.2.2.2.2.2.2.2.2.2.2.2.2.2.2.2.2.2.2.2.2.2)
def s_fn (o : Ob) (v : Int32) : Ob := (o.1, o.2.1, o.2.2.1, o.2.2.2.1, o.2.2.2.2.1, o.2.2.2.2.2.1, o.2.2.2.2.2.2.1, o.2.2.2.2.2.2.2.1, o.2.2.2.2.2.2.2.2.1, o.2.2.2.2.2.2.2.2.2.1, o.2.2.2.2.2.2.2.2.2.2.1, o.2.2.2.2.2.2.2.2.2.2.2.1, o.2.2.2.2.2.2.2.2.2.2.2.2.1, o.2.2.2.2.2.2.2.2.2.2.2.2.2.1, o.2.2.2.2.2.2.2.2.2.2.2.2.2.2.1, o.2.2.2.2.2.2.2.2.2.2.2.2.2.2.2.1, o.2.2.2.2.2.2.2.2.2.2.2.2.2.2.2.2.1, v, o.2.2.2.2.2.2.2.2.2.2.2.2.2.2.2.2.2.2.1, o.2.2.2.2.2.2.2.2.2.2.2.2.2.2.2.2.2.2.2.1, o.2.2.2.2.2.2.2.2.2.2.2.2.2.2.2.2.2.2.2.2.1, o.2.2.2.2.2.2.2.2.2.2.2.2.2.2.2.2.2.2.2.2.2.1, o.2.2.2.2.2.2.2.2.2.2.2.2.2.2.2.2.2.2.2.2.2.2.1, o.2.2.2.2.2.2.2.2.2.2.2.2.2.2.2.2.2.2.2.2.2.2.2.1, o.2.2.2.2.2.2.2.2.2.2.2.2.2.2.2.2.2.2.2.2.2.2.2.2.1, o.2.2.2.2.2.2.2.2.2.2.2.2.2.2.2.2.2.2.2.2.2.2.2.2.2.1, o.2.2.2.2.2.2.2.2.2.2.2.2.2.2.2.2.2.2.2.2.2.2.2.2.2.2)
def s_fnArg (o : Ob) (v : Int32) : Ob := (o.1, o.2.1, o.2.2.1, o.2.2.2.1, o.2.2.2.2.1, o.2.2.2.2.2.1, o.2.2.2.2.2.2.1, o.2.2.2.2.2.2.2.1, o.2.2.2.2.2.2.2.2.1, o.2.2.2.2.2.2.2.2.2.1, o.2.2.2.2.2.2.2.2.2.2.1, o.2.2.2.2.2.2.2.2.2.2.2.1, o.2.2.2.2.2.2.2.2.2.2.2.2.1, o.2.2.2.2.2.2.2.2.2.2.2.2.2.1, o.2.2.2.2.2.2.2.2.2.2.2.2.2.2.1, o.2.2.2.2.2.2.2.2.2.2.2.2.2.2.2.1, o.2.2.2.2.2.2.2.2.2.2.2.2.2.2.2.2.1, o.2.2.2.2.2.2.2.2.2.2.2.2.2.2.2.2.2.1, v, o.2.2.2.2.2.2.2.2.2.2.2.2.2.2.2.2.2.2.2.1, o.2.2.2.2.2.2.2.2.2.2.2.2.2.2.2.2.2.2.2.2.1, o.2.2.2.2.2.2.2.2.2.2.2.2.2.2.2.2.2.2.2.2.2.1, o.2.2.2.2.2.2.2.2.2.2.2.2.2.2.2.2.2.2.2.2.2.2.1, o.2.2.2.2.2.2.2.2.2.2.2.2.2.2.2.2.2.2.2.2.2.2.2.1, o.2.2.2.2.2.2.2.2.2.2.2.2.2.2.2.2.2.2.2.2.2.2.2.2.1, o.2.2.2.2.2.2.2.2.2.2.2.2.2.2.2.2.2.2.2.2.2.2.2.2.2.1, o.2.2.2.2.2.2.2.2.2.2.2.2.2.2.2.2.2.2.2.2.2.2.2.2.2.2)
def s_computed (o : Ob) (v : Int32) : Ob := (o.1, o.2.1, o.2.2.1, o.2.2.2.1, o.2.2.2.2.1, o.2.2.2.2.2.1, o.2.2.2.2.2.2.1, o.2.2.2.2.2.2.2.1, o.2.2.2.2.2.2.2.2.1, o.2.2.2.2.2.2.2.2.2.1, o.2.2.2.2.2.2.2.2.2.2.1, o.2.2.2.2.2.2.2.2.2.2.2.1, o.2.2.2.2.2.2.2.2.2.2.2.2.1, o.2.2.2.2.2.2.2.2.2.2.2.2.2.1, o.2.2.2.2.2.2.2.2.2.2.2.2.2.2.1, o.2.2.2.2.2.2.2.2.2.2.2.2.2.2.2.1, o.2.2.2.2.2.2.2.2.2.2.2.2.2.2.2.2.1, o.2.2.2.2.2.2.2.2.2.2.2.2.2.2.2.2.2.1, o.2.2.2.2.2.2.2.2.2.2.2.2.2.2.2.2.2.2.1, v, o.2.2.2.2.2.2.2.2.2.2.2.2.2.2.2.2.2.2.2.2.1, o.2.2.2.2.2.2.2.2.2.2.2.2.2.2.2.2.2.2.2.2.2.1, o.2.2.2.2.2.2.2.2.2.2.2.2.2.2.2.2.2.2.2.2.2.2.1, o.2.2.2.2.2.2.2.2.2.2.2.2.2.2.2.2.2.2.2.2.2.2.2.1, o.2.2.2.2.2.2.2.2.2.2.2.2.2.2.2.2.2.2.2.2.2.2.2.2.1, o.2.2.2.2.2.2.2.2.2.2.2.2.2.2.2.2.2.2.2.2.2.2.2.2.2.1, o.2.2.2.2.2.2.2.2.2.2.2.2.2.2.2.2.2.2.2.2.2.2.2.2.2.2)
def s_sortedLen (o : Ob) (v : Int32) : Ob := (o.1, o.2.1, o.2.2.1, o.2.2.2.1, o.2.2.2.2.1, o.2.2.2.2.2.1, o.2.2.2.2.2.2.1, o.2.2.2.2.2.2.2.1, o.2.2.2.2.2.2.2.2.1, o.2.2.2.2.2.2.2.2.2.1, o.2.2.2.2.2.2.2.2.2.2.1, o.2.2.2.2.2.2.2.2.2.2.2.1, o.2.2.2.2.2.2.2.2.2.2.2.2.1, o.2.2.2.2.2.2.2.2.2.2.2.2.2.1, o.2.2.2.2.2.2.2.2.2.2.2.2.2.2.1, o.2.2.2.2.2.2.2.2.2.2.2.2.2.2.2.1, o.2.2.2.2.2.2.2.2.2.2.2.2.2.2.2.2.1, o.2.2.2.2.2.2.2.2.2.2.2.2.2.2.2.2.2.1, o.2.2.2.2.2.2.2.2.2.2.2.2.2.2.2.2.2.2.1, o.2.2.2.2.2.2.2.2.2.2.2.2.2.2.2.2.2.2.2.1, v, o.2.2.2.2.2.2.2.2.2.2.2.2.2.2.2.2.2.2.2.2.2.1, o.2.2.2.2.2.2.2.2.2.2.2.2.2.2.2.2.2.2.2.2.2.2.1, o.2.2.2.2.2.2.2.2.2.2.2.2.2.2.2.2.2.2.2.2.2.2.2.1, o.2.2.2.2.2.2.2.2.2.2.2.2.2.2.2.2.2.2.2.2.2.2.2.2.1, o.2.2.2.2.2.2.2.2.2.2.2.2.2.2.2.2.2.2.2.2.2.2.2.2.2.1, o.2.2.2.2.2.2.2.2.2.2.2.2.2.2.2.2.2.2.2.2.2.2.2.2.2.2)
def s_curPos (o : Ob) (v : Int32) : Ob := (o.1, o.2.1, o.2.2.1, o.2.2.2.1, o.2.2.2.2.1, o.2.2.2.2.2.1, o.2.2.2.2.2.2.1, o.2.2.2.2.2.2.2.1, o.2.2.2.2.2.2.2.2.1, o.2.2.2.2.2.2.2.2.2.1, o.2.2.2.2.2.2.2.2.2.2.1, o.2.2.2.2.2.2.2.2.2.2.2.1, o.2.2.2.2.2.2.2.2.2.2.2.2.1, o.2.2.2.2.2.2.2.2.2.2.2.2.2.1, o.2.2.2.2.2.2.2.2.2.2.2.2.2.2.1, o.2.2.2.2.2.2.2.2.2.2.2.2.2.2.2.1, o.2.2.2.2.2.2.2.2.2.2.2.2.2.2.2.2.1, o.2.2.2.2.2.2.2.2.2.2.2.2.2.2.2.2.2.1, o.2.2.2.2.2.2.2.2.2.2.2.2.2.2.2.2.2.2.1, o.2.2.2.2.2.2.2.2.2.2.2.2.2.2.2.2.2.2.2.1, o.2.2.2.2.2.2.2.2.2.2.2.2.2.2.2.2.2.2.2.2.1, v, o.2.2.2.2.2.2.2.2.2.2.2.2.2.2.2.2.2.2.2.2.2.2.1, o.2.2.2.2.2.2.2.2.2.2.2.2.2.2.2.2.2.2.2.2.2.2.2.1, o.2.2.2.2.2.2.2.2.2.2.2.2.2.2.2.2.2.2.2.2.2.2.2.2.1, o.2.2.2.2.2.2.2.2.2.2.2.2.2.2.2.2.2.2.2.2.2.2.2.2.2.1, o.2.2.2.2.2.2.2.2.2.2.2.2.2.2.2.2.2.2.2.2.2.2.2.2.2.2)
def s_aggSum (o : Ob) (v : Int64) : Ob := (o.1, o.2.1, o.2.2.1, o.2.2.2.1, o.2.2.2.2.1, o.2.2.2.2.2.1, o.2.2.2.2.2.2.1, o.2.2.2.2.2.2.2.1, o.2.2.2.2.2.2.2.2.1, o.2.2.2.2.2.2.2.2.2.1, o.2.2.2.2.2.2.2.2.2.2.1, o.2.2.2.2.2.2.2.2.2.2.2.1, o.2.2.2.2.2.2.2.2.2.2.2.2.1, o.2.2.2.2.2.2.2.2.2.2.2.2.2.1, o.2.2.2.2.2.2.2.2.2.2.2.2.2.2.1, o.2.2.2.2.2.2.2.2.2.2.2.2.2.2.2.1, o.2.2.2.2.2.2.2.2.2.2.2.2.2.2.2.2.1, o.2.2.2.2.2.2.2.2.2.2.2.2.2.2.2.2.2.1, o.2.2.2.2.2.2.2.2.2.2.2.2.2.2.2.2.2.2.1, o.2.2.2.2.2.2.2.2.2.2.2.2.2.2.2.2.2.2.2.1, o.2.2.2.2.2.2.2.2.2.2.2.2.2.2.2.2.2.2.2.2.1, o.2.2.2.2.2.2.2.2.2.2.2.2.2.2.2.2.2.2.2.2.2.1, v, o.2.2.2.2.2.2.2.2.2.2.2.2.2.2.2.2.2.2.2.2.2.2.2.1, o.2.2.2.2.2.2.2.2.2.2.2.2.2.2.2.2.2.2.2.2.2.2.2.2.1, o.2.2.2.2.2.2.2.2.2.2.2.2.2.2.2.2.2.2.2.2.2.2.2.2.2.1, o.2.2.2.2.2.2.2.2.2.2.2.2.2.2.2.2.2.2.2.2.2.2.2.2.2.2)
def s_aggCount (o : Ob) (v : Int32) : Ob := (o.1, o.2.1, o.2.2.1, o.2.2.2.1, o.2.2.2.2.1, o.2.2.2.2.2.1, o.2.2.2.2.2.2.1, o.2.2.2.2.2.2.2.1, o.2.2.2.2.2.2.2.2.1, o.2.2.2.2.2.2.2.2.2.1, o.2.2.2.2.2.2.2.2.2.2.1, o.2.2.2.2.2.2.2.2.2.2.2.1, o.2.2.2.2.2.2.2.2.2.2.2.2.1, o.2.2.2.2.2.2.2.2.2.2.2.2.2.1, o.2.2.2.2.2.2.2.2.2.2.2.2.2.2.1, o.2.2.2.2.2.2.2.2.2.2.2.2.2.2.2.1, o.2.2.2.2.2.2.2.2.2.2.2.2.2.2.2.2.1, o.2.2.2.2.2.2.2.2.2.2.2.2.2.2.2.2.2.1, o.2.2.2.2.2.2.2.2.2.2.2.2.2.2.2.2.2.2.1, o.2.2.2.2.2.2.2.2.2.2.2.2.2.2.2.2.2.2.2.1, o.2.2.2.2.2.2.2.2.2.2.2.2.2.2.2.2.2.2.2.2.1, o.2.2.2.2.2.2.2.2.2.2.2.2.2.2.2.2.2.2.2.2.2.1, o.2.2.2.2.2.2.2.2.2.2.2.2.2.2.2.2.2.2.2.2.2.2.1, v, o.2.2.2.2.2.2.2.2.2.2.2.2.2.2.2.2.2.2.2.2.2.2.2.2.1, o.2.2.2.2.2.2.2.2.2.2.2.2.2.2.2.2.2.2.2.2.2.2.2.2.2.1, o.2.2.2.2.2.2.2.2.2.2.2.2.2.2.2.2.2.2.2.2.2.2.2.2.2.2)
def s_aggRows (o : Ob) (v : Int32) : Ob := (o.1, o.2.1, o.2.2.1, o.2.2.2.1, o.2.2.2.2.1, o.2.2.2.2.2.1, o.2.2.2.2.2.2.1, o.2.2.2.2.2.2.2.1, o.2.2.2.2.2.2.2.2.1, o.2.2.2.2.2.2.2.2.2.1, o.2.2.2.2.2.2.2.2.2.2.1, o.2.2.2.2.2.2.2.2.2.2.2.1, o.2.2.2.2.2.2.2.2.2.2.2.2.1, o.2.2.2.2.2.2.2.2.2.2.2.2.2.1, o.2.2.2.2.2.2.2.2.2.2.2.2.2.2.1, o.2.2.2.2.2.2.2.2.2.2.2.2.2.2.2.1, o.2.2.2.2.2.2.2.2.2.2.2.2.2.2.2.2.1, o.2.2.2.2.2.2.2.2.2.2.2.2.2.2.2.2.2.1, o.2.2.2.2.2.2.2.2.2.2.2.2.2.2.2.2.2.2.1, o.2.2.2.2.2.2.2.2.2.2.2.2.2.2.2.2.2.2.2.1, o.2.2.2.2.2.2.2.2.2.2.2.2.2.2.2.2.2.2.2.2.1, o.2.2.2.2.2.2.2.2.2.2.2.2.2.2.2.2.2.2.2.2.2.1, o.2.2.2.2.2.2.2.2.2.2.2.2.2.2.2.2.2.2.2.2.2.2.1, o.2.2.2.2.2.2.2.2.2.2.2.2.2.2.2.2.2.2.2.2.2.2.2.1, v, o.2.2.2.2.2.2.2.2.2.2.2.2.2.2.2.2.2.2.2.2.2.2.2.2.2.1, o.2.2.2.2.2.2.2.2.2.2.2.2.2.2.2.2.2.2.2.2.2.2.2.2.2.2)
def s_aggMin (o : Ob) (v : Int32) : Ob := (o.1, o.2.1, o.2.2.1, o.2.2.2.1, o.2.2.2.2.1, o.2.2.2.2.2.1, o.2.2.2.2.2.2.1, o.2.2.2.2.2.2.2.1, o.2.2.2.2.2.2.2.2.1, o.2.2.2.2.2.2.2.2.2.1, o.2.2.2.2.2.2.2.2.2.2.1, o.2.2.2.2.2.2.2.2.2.2.2.1, o.2.2.2.2.2.2.2.2.2.2.2.2.1, o.2.2.2.2.2.2.2.2.2.2.2.2.2.1, o.2.2.2.2.2.2.2.2.2.2.2.2.2.2.1, o.2.2.2.2.2.2.2.2.2.2.2.2.2.2.2.1, o.2.2.2.2.2.2.2.2.2.2.2.2.2.2.2.2.1, o.2.2.2.2.2.2.2.2.2.2.2.2.2.2.2.2.2.1, o.2.2.2.2.2.2.2.2.2.2.2.2.2.2.2.2.2.2.1, o.2.2.2.2.2.2.2.2.2.2.2.2.2.2.2.2.2.2.2.1, o.2.2.2.2.2.2.2.2.2.2.2.2.2.2.2.2.2.2.2.2.1, o.2.2.2.2.2.2.2.2.2.2.2.2.2.2.2.2.2.2.2.2.2.1, o.2.2.2.2.2.2.2.2.2.2.2.2.2.2.2.2.2.2.2.2.2.2.1, o.2.2.2.2.2.2.2.2.2.2.2.2.2.2.2.2.2.2.2.2.2.2.2.1, o.2.2.2.2.2.2.2.2.2.2.2.2.2.2.2.2.2.2.2.2.2.2.2.2.1, v, o.2.2.2.2.2.2.2.2.2.2.2.2.2.2.2.2.2.2.2.2.2.2.2.2.2.2)
def s_aggMax (o : Ob) (v : Int32) : Ob := (o.1, o.2.1, o.2.2.1, o.2.2.2.1, o.2.2.2.2.1, o.2.2.2.2.2.1, o.2.2.2.2.2.2.1, o.2.2.2.2.2.2.2.1, o.2.2.2.2.2.2.2.2.1, o.2.2.2.2.2.2.2.2.2.1, o.2.2.2.2.2.2.2.2.2.2.1, o.2.2.2.2.2.2.2.2.2.2.2.1, o.2.2.2.2.2.2.2.2.2.2.2.2.1, o.2.2.2.2.2.2.2.2.2.2.2.2.2.1, o.2.2.2.2.2.2.2.2.2.2.2.2.2.2.1, o.2.2.2.2.2.2.2.2.2.2.2.2.2.2.2.1, o.2.2.2.2.2.2.2.2.2.2.2.2.2.2.2.2.1, o.2.2.2.2.2.2.2.2.2.2.2.2.2.2.2.2.2.1, o.2.2.2.2.2.2.2.2.2.2.2.2.2.2.2.2.2.2.1, o.2.2.2.2.2.2.2.2.2.2.2.2.2.2.2.2.2.2.2.1, o.2.2.2.2.2.2.2.2.2.2.2.2.2.2.2.2.2.2.2.2.1, o.2.2.2.2.2.2.2.2.2.2.2.2.2.2.2.2.2.2.2.2.2.1, o.2.2.2.2.2.2.2.2.2.2.2.2.2.2.2.2.2.2.2.2.2.2.1, o.2.2.2.2.2.2.2.2.2.2.2.2.2.2.2.2.2.2.2.2.2.2.2.1, o.2.2.2.2.2.2.2.2.2.2.2.2.2.2.2.2.2.2.2.2.2.2.2.2.1, o.2.2.2.2.2.2.2.2.2.2.2.2.2.2.2.2.2.2.2.2.2.2.2.2.2.1, v)
theorem fs (o : Ob) : f_part o = o.1 ∧ f_keys o = o.2.1 ∧ f_vals o = o.2.2.1 ∧ f_flg o = o.2.2.2.1 ∧ f_res o = o.2.2.2.2.1 ∧ f_resNull o = o.2.2.2.2.2.1 ∧ f_frameCnt o = o.2.2.2.2.2.2.1 ∧ f_sorted o = o.2.2.2.2.2.2.2.1 ∧ f_cap o = o.2.2.2.2.2.2.2.2.1 ∧ f_rows o = o.2.2.2.2.2.2.2.2.2.1 ∧ f_direction o = o.2.2.2.2.2.2.2.2.2.2.1 ∧ f_nulls o = o.2.2.2.2.2.2.2.2.2.2.2.1 ∧ f_mode o = o.2.2.2.2.2.2.2.2.2.2.2.2.1 ∧ f_startKind o = o.2.2.2.2.2.2.2.2.2.2.2.2.2.1 ∧ f_startOff o = o.2.2.2.2.2.2.2.2.2.2.2.2.2.2.1 ∧ f_endKind o = o.2.2.2.2.2.2.2.2.2.2.2.2.2.2.2.1 ∧ f_endOff o = o.2.2.2.2.2.2.2.2.2.2.2.2.2.2.2.2.1 ∧ f_fn o = o.2.2.2.2.2.2.2.2.2.2.2.2.2.2.2.2.2.1 ∧ f_fnArg o = o.2.2.2.2.2.2.2.2.2.2.2.2.2.2.2.2.2.2.1 ∧ f_computed o = o.2.2.2.2.2.2.2.2.2.2.2.2.2.2.2.2.2.2.2.1 ∧ f_sortedLen o = o.2.2.2.2.2.2.2.2.2.2.2.2.2.2.2.2.2.2.2.2.1 ∧ f_curPos o = o.2.2.2.2.2.2.2.2.2.2.2.2.2.2.2.2.2.2.2.2.2.1 ∧ f_aggSum o = o.2.2.2.2.2.2.2.2.2.2.2.2.2.2.2.2.2.2.2.2.2.2.1 ∧ f_aggCount o = o.2.2.2.2.2.2.2.2.2.2.2.2.2.2.2.2.2.2.2.2.2.2.2.1 ∧ f_aggRows o = o.2.2.2.2.2.2.2.2.2.2.2.2.2.2.2.2.2.2.2.2.2.2.2.2.1 ∧ f_aggMin o = o.2.2.2.2.2.2.2.2.2.2.2.2.2.2.2.2.2.2.2.2.2.2.2.2.2.1 ∧ f_aggMax o = o.2.2.2.2.2.2.2.2.2.2.2.2.2.2.2.2.2.2.2.2.2.2.2.2.2.2 := by simp only [f_part, f_keys, f_vals, f_flg, f_res, f_resNull, f_frameCnt, f_sorted, f_cap, f_rows, f_direction, f_nulls, f_mode, f_startKind, f_startOff, f_endKind, f_endOff, f_fn, f_fnArg, f_computed, f_sortedLen, f_curPos, f_aggSum, f_aggCount, f_aggRows, f_aggMin, f_aggMax, and_self]
def ob0 : Ob := ([], [], [], [], [], [], [], [], 0, 0, 0, 0, 0, 0, 0, 0, 0, 0, 0, 0, 0, 0, 0, 0, 0, 0, 0)
section Walks
variable {l : Launch} {Z : State} {n0 : Nat} {ad : Nat → Addr} {a0 : Array Value}
set_option maxRecDepth 20000
set_option maxHeartbeats 2000000
abbrev tt : Bool := true
abbrev ff : Bool := false
open QTri renaming steps → zS, brT → zT, brF → zF, bnd → zB, mask → zM
open Option (bind_eq_some_iff)
open Classical (em)
def H0 (s : List Int32) (o0 : Ob) : QHeap := [.inr (.inl (.int, s)), .inl [.ref 2, .ref 3, .ref 4, .ref 5, .ref 6, .ref 7, .ref 8, .ref 9, .int (f_cap o0), .int (f_rows o0), .int (f_direction o0), .int (f_nulls o0), .int (f_mode o0), .int (f_startKind o0), .int (f_startOff o0), .int (f_endKind o0), .int (f_endOff o0), .int (f_fn o0), .int (f_fnArg o0), .int (f_computed o0), .int (f_sortedLen o0), .int (f_curPos o0), .long (f_aggSum o0), .int (f_aggCount o0), .int (f_aggRows o0), .int (f_aggMin o0), .int (f_aggMax o0)], .inr (.inl (.int, (f_part o0))), .inr (.inl (.int, (f_keys o0))), .inr (.inl (.int, (f_vals o0))), .inr (.inl (.int, (f_flg o0))), .inr (.inr (f_res o0)), .inr (.inl (.boolean, (f_resNull o0))), .inr (.inl (.int, (f_frameCnt o0))), .inr (.inl (.int, (f_sorted o0)))]
def H0v (s : List Int32) (a0_0 : List Int32) (a0_1 : List Int32) (a0_2 : List Int32) (a0_3 : List Int32) (a0_4 : List Int64) (a0_5 : List Int32) (a0_6 : List Int32) (a0_7 : List Int32) (a0_8 : Int32) (a0_9 : Int32) (a0_10 : Int32) (a0_11 : Int32) (a0_12 : Int32) (a0_13 : Int32) (a0_14 : Int32) (a0_15 : Int32) (a0_16 : Int32) (a0_17 : Int32) (a0_18 : Int32) (a0_19 : Int32) (a0_20 : Int32) (a0_21 : Int32) (a0_22 : Int64) (a0_23 : Int32) (a0_24 : Int32) (a0_25 : Int32) (a0_26 : Int32) : QHeap := [.inr (.inl (.int, s)), .inl [.ref 2, .ref 3, .ref 4, .ref 5, .ref 6, .ref 7, .ref 8, .ref 9, .int a0_8, .int a0_9, .int a0_10, .int a0_11, .int a0_12, .int a0_13, .int a0_14, .int a0_15, .int a0_16, .int a0_17, .int a0_18, .int a0_19, .int a0_20, .int a0_21, .long a0_22, .int a0_23, .int a0_24, .int a0_25, .int a0_26], .inr (.inl (.int, a0_0)), .inr (.inl (.int, a0_1)), .inr (.inl (.int, a0_2)), .inr (.inl (.int, a0_3)), .inr (.inr a0_4), .inr (.inl (.boolean, a0_5)), .inr (.inl (.int, a0_6)), .inr (.inl (.int, a0_7))]
def H0x0 (s : List Int32) (o0 : Ob) (a0_0 : List Int32) (a0_1 : List Int32) (a0_2 : List Int32) (a0_3 : List Int32) (a0_4 : List Int64) (a0_5 : List Int32) (a0_6 : List Int32) (a0_7 : List Int32) : QHeap := H0v s a0_0 a0_1 a0_2 a0_3 a0_4 a0_5 a0_6 a0_7 (f_cap o0) (f_rows o0) (f_direction o0) (f_nulls o0) (f_mode o0) (f_startKind o0) (f_startOff o0) (f_endKind o0) (f_endOff o0) (f_fn o0) (f_fnArg o0) (f_computed o0) (f_sortedLen o0) (f_curPos o0) (f_aggSum o0) (f_aggCount o0) (f_aggRows o0) (f_aggMin o0) (f_aggMax o0)
def H0x1 (s : List Int32) (o0 : Ob) (a0_0 : List Int32) (a0_1 : List Int32) (a0_2 : List Int32) (a0_3 : List Int32) (a0_4 : List Int64) (a0_5 : List Int32) (a0_6 : List Int32) (a0_7 : List Int32) (a0_8 : Int32) : QHeap := H0v s a0_0 a0_1 a0_2 a0_3 a0_4 a0_5 a0_6 a0_7 a0_8 (f_rows o0) (f_direction o0) (f_nulls o0) (f_mode o0) (f_startKind o0) (f_startOff o0) (f_endKind o0) (f_endOff o0) (f_fn o0) (f_fnArg o0) (f_computed o0) (f_sortedLen o0) (f_curPos o0) (f_aggSum o0) (f_aggCount o0) (f_aggRows o0) (f_aggMin o0) (f_aggMax o0)
def H0x2 (s : List Int32) (o0 : Ob) (a0_0 : List Int32) (a0_1 : List Int32) (a0_2 : List Int32) (a0_3 : List Int32) (a0_4 : List Int64) (a0_5 : List Int32) (a0_6 : List Int32) (a0_7 : List Int32) (a0_8 : Int32) (a0_9 : Int32) : QHeap := H0v s a0_0 a0_1 a0_2 a0_3 a0_4 a0_5 a0_6 a0_7 a0_8 a0_9 (f_direction o0) (f_nulls o0) (f_mode o0) (f_startKind o0) (f_startOff o0) (f_endKind o0) (f_endOff o0) (f_fn o0) (f_fnArg o0) (f_computed o0) (f_sortedLen o0) (f_curPos o0) (f_aggSum o0) (f_aggCount o0) (f_aggRows o0) (f_aggMin o0) (f_aggMax o0)
def H0x3 (s : List Int32) (o0 : Ob) (a0_10 : Int32) : QHeap := H0v s (f_part o0) (f_keys o0) (f_vals o0) (f_flg o0) (f_res o0) (f_resNull o0) (f_frameCnt o0) (f_sorted o0) (f_cap o0) (f_rows o0) a0_10 (f_nulls o0) (f_mode o0) (f_startKind o0) (f_startOff o0) (f_endKind o0) (f_endOff o0) (f_fn o0) (f_fnArg o0) (f_computed o0) (f_sortedLen o0) (f_curPos o0) (f_aggSum o0) (f_aggCount o0) (f_aggRows o0) (f_aggMin o0) (f_aggMax o0)
def H0x4 (s : List Int32) (o0 : Ob) (a0_10 : Int32) (a0_11 : Int32) : QHeap := H0v s (f_part o0) (f_keys o0) (f_vals o0) (f_flg o0) (f_res o0) (f_resNull o0) (f_frameCnt o0) (f_sorted o0) (f_cap o0) (f_rows o0) a0_10 a0_11 (f_mode o0) (f_startKind o0) (f_startOff o0) (f_endKind o0) (f_endOff o0) (f_fn o0) (f_fnArg o0) (f_computed o0) (f_sortedLen o0) (f_curPos o0) (f_aggSum o0) (f_aggCount o0) (f_aggRows o0) (f_aggMin o0) (f_aggMax o0)
def H0x5 (s : List Int32) (o0 : Ob) (a0_10 : Int32) (a0_11 : Int32) (a0_12 : Int32) : QHeap := H0v s (f_part o0) (f_keys o0) (f_vals o0) (f_flg o0) (f_res o0) (f_resNull o0) (f_frameCnt o0) (f_sorted o0) (f_cap o0) (f_rows o0) a0_10 a0_11 a0_12 (f_startKind o0) (f_startOff o0) (f_endKind o0) (f_endOff o0) (f_fn o0) (f_fnArg o0) (f_computed o0) (f_sortedLen o0) (f_curPos o0) (f_aggSum o0) (f_aggCount o0) (f_aggRows o0) (f_aggMin o0) (f_aggMax o0)
def H0x6 (s : List Int32) (o0 : Ob) (a0_10 : Int32) (a0_11 : Int32) (a0_12 : Int32) (a0_13 : Int32) : QHeap := H0v s (f_part o0) (f_keys o0) (f_vals o0) (f_flg o0) (f_res o0) (f_resNull o0) (f_frameCnt o0) (f_sorted o0) (f_cap o0) (f_rows o0) a0_10 a0_11 a0_12 a0_13 (f_startOff o0) (f_endKind o0) (f_endOff o0) (f_fn o0) (f_fnArg o0) (f_computed o0) (f_sortedLen o0) (f_curPos o0) (f_aggSum o0) (f_aggCount o0) (f_aggRows o0) (f_aggMin o0) (f_aggMax o0)
def H0x7 (s : List Int32) (o0 : Ob) (a0_10 : Int32) (a0_11 : Int32) (a0_12 : Int32) (a0_13 : Int32) (a0_14 : Int32) : QHeap := H0v s (f_part o0) (f_keys o0) (f_vals o0) (f_flg o0) (f_res o0) (f_resNull o0) (f_frameCnt o0) (f_sorted o0) (f_cap o0) (f_rows o0) a0_10 a0_11 a0_12 a0_13 a0_14 (f_endKind o0) (f_endOff o0) (f_fn o0) (f_fnArg o0) (f_computed o0) (f_sortedLen o0) (f_curPos o0) (f_aggSum o0) (f_aggCount o0) (f_aggRows o0) (f_aggMin o0) (f_aggMax o0)
def H0x8 (s : List Int32) (o0 : Ob) (a0_10 : Int32) (a0_11 : Int32) (a0_12 : Int32) (a0_13 : Int32) (a0_14 : Int32) (a0_15 : Int32) : QHeap := H0v s (f_part o0) (f_keys o0) (f_vals o0) (f_flg o0) (f_res o0) (f_resNull o0) (f_frameCnt o0) (f_sorted o0) (f_cap o0) (f_rows o0) a0_10 a0_11 a0_12 a0_13 a0_14 a0_15 (f_endOff o0) (f_fn o0) (f_fnArg o0) (f_computed o0) (f_sortedLen o0) (f_curPos o0) (f_aggSum o0) (f_aggCount o0) (f_aggRows o0) (f_aggMin o0) (f_aggMax o0)
def H0x9 (s : List Int32) (o0 : Ob) (a0_10 : Int32) (a0_11 : Int32) (a0_12 : Int32) (a0_13 : Int32) (a0_14 : Int32) (a0_15 : Int32) (a0_16 : Int32) : QHeap := H0v s (f_part o0) (f_keys o0) (f_vals o0) (f_flg o0) (f_res o0) (f_resNull o0) (f_frameCnt o0) (f_sorted o0) (f_cap o0) (f_rows o0) a0_10 a0_11 a0_12 a0_13 a0_14 a0_15 a0_16 (f_fn o0) (f_fnArg o0) (f_computed o0) (f_sortedLen o0) (f_curPos o0) (f_aggSum o0) (f_aggCount o0) (f_aggRows o0) (f_aggMin o0) (f_aggMax o0)
def H0x10 (s : List Int32) (o0 : Ob) (a0_10 : Int32) (a0_11 : Int32) (a0_12 : Int32) (a0_13 : Int32) (a0_14 : Int32) (a0_15 : Int32) (a0_16 : Int32) (a0_17 : Int32) : QHeap := H0v s (f_part o0) (f_keys o0) (f_vals o0) (f_flg o0) (f_res o0) (f_resNull o0) (f_frameCnt o0) (f_sorted o0) (f_cap o0) (f_rows o0) a0_10 a0_11 a0_12 a0_13 a0_14 a0_15 a0_16 a0_17 (f_fnArg o0) (f_computed o0) (f_sortedLen o0) (f_curPos o0) (f_aggSum o0) (f_aggCount o0) (f_aggRows o0) (f_aggMin o0) (f_aggMax o0)
def H0x11 (s : List Int32) (o0 : Ob) (a0_10 : Int32) (a0_11 : Int32) (a0_12 : Int32) (a0_13 : Int32) (a0_14 : Int32) (a0_15 : Int32) (a0_16 : Int32) (a0_17 : Int32) (a0_18 : Int32) : QHeap := H0v s (f_part o0) (f_keys o0) (f_vals o0) (f_flg o0) (f_res o0) (f_resNull o0) (f_frameCnt o0) (f_sorted o0) (f_cap o0) (f_rows o0) a0_10 a0_11 a0_12 a0_13 a0_14 a0_15 a0_16 a0_17 a0_18 (f_computed o0) (f_sortedLen o0) (f_curPos o0) (f_aggSum o0) (f_aggCount o0) (f_aggRows o0) (f_aggMin o0) (f_aggMax o0)
/-- resetSpec()V -/
def F2 (o : Ob) : Option (Ob) :=
 some (s_fnArg (s_fn (s_endOff (s_endKind (s_startOff (s_startKind (s_mode (s_nulls (s_direction o (1:Int32)) (1:Int32)) (1:Int32)) (0:Int32)) (0:Int32)) (2:Int32)) (0:Int32)) (0:Int32)) (0:Int32))
theorem tF2 (Ad : QAd n0 ad) (W : QW Z a0) (s : List Int32) (o : Ob) {r : Ob} (h : F2 o = some r) : QTri l Z n0 ad 2 (0, qentry [.ref 1] (pMaxL 2), [], (H0 s o)) (none : Option Value) (H0 s r) := by
 unfold F2 at h
 refine zS Ad W 3 (st' := (5, [vR 1], [], (H0x3 s o (1:Int32)))) rfl ?_
 refine zS Ad W 3 (st' := (10, [vR 1], [], (H0x4 s o (1:Int32) (1:Int32)))) rfl ?_
 refine zS Ad W 3 (st' := (15, [vR 1], [], (H0x5 s o (1:Int32) (1:Int32) (1:Int32)))) rfl ?_
 refine zS Ad W 3 (st' := (20, [vR 1], [], (H0x6 s o (1:Int32) (1:Int32) (1:Int32) (0:Int32)))) rfl ?_
 refine zS Ad W 3 (st' := (25, [vR 1], [], (H0x7 s o (1:Int32) (1:Int32) (1:Int32) (0:Int32) (0:Int32)))) rfl ?_
 refine zS Ad W 3 (st' := (30, [vR 1], [], (H0x8 s o (1:Int32) (1:Int32) (1:Int32) (0:Int32) (0:Int32) (2:Int32)))) rfl ?_
 refine zS Ad W 3 (st' := (35, [vR 1], [], (H0x9 s o (1:Int32) (1:Int32) (1:Int32) (0:Int32) (0:Int32) (2:Int32) (0:Int32)))) rfl ?_
 refine zS Ad W 3 (st' := (40, [vR 1], [], (H0x10 s o (1:Int32) (1:Int32) (1:Int32) (0:Int32) (0:Int32) (2:Int32) (0:Int32) (0:Int32)))) rfl ?_
 refine zS Ad W 3 (st' := (45, [vR 1], [], (H0x11 s o (1:Int32) (1:Int32) (1:Int32) (0:Int32) (0:Int32) (2:Int32) (0:Int32) (0:Int32) (0:Int32)))) rfl ?_
 have E8 : ((H0x11 s o (1:Int32) (1:Int32) (1:Int32) (0:Int32) (0:Int32) (2:Int32) (0:Int32) (0:Int32) (0:Int32)) : QHeap) = (H0 s (s_fnArg (s_fn (s_endOff (s_endKind (s_startOff (s_startKind (s_mode (s_nulls (s_direction o (1:Int32)) (1:Int32)) (1:Int32)) (0:Int32)) (0:Int32)) (2:Int32)) (0:Int32)) (0:Int32)) (0:Int32))) := by simp only [fs, H0, H0v, H0x11, s_direction, s_nulls, s_mode, s_startKind, s_startOff, s_endKind, s_endOff, s_fn, s_fnArg]
 rw [E8]
 obtain rfl := Option.some.inj h
 exact QTri.ret0 rfl rfl
def H0x12 (s : List Int32) (o0 : Ob) (a0_19 : Int32) : QHeap := H0v s (f_part o0) (f_keys o0) (f_vals o0) (f_flg o0) (f_res o0) (f_resNull o0) (f_frameCnt o0) (f_sorted o0) (f_cap o0) (f_rows o0) (f_direction o0) (f_nulls o0) (f_mode o0) (f_startKind o0) (f_startOff o0) (f_endKind o0) (f_endOff o0) (f_fn o0) (f_fnArg o0) a0_19 (f_sortedLen o0) (f_curPos o0) (f_aggSum o0) (f_aggCount o0) (f_aggRows o0) (f_aggMin o0) (f_aggMax o0)
/-- init(I)V -/
def F1 (x1 : Int32) : Option (Ob) :=
 (F2 (s_rows (s_cap (s_sorted (s_frameCnt (s_resNull (s_res (s_flg (s_vals (s_keys (s_part ob0 (List.replicate 32 0)) (List.replicate 32 0)) (List.replicate 32 0)) (List.replicate 32 0)) (List.replicate 32 0)) (List.replicate 32 0)) (List.replicate 32 0)) (List.replicate 32 0)) (if (32:Int32) < (if x1 < (8:Int32) then (8:Int32) else x1) then (32:Int32) else (if x1 < (8:Int32) then (8:Int32) else x1))) (0:Int32))).bind fun r9 => some (s_computed r9 (0:Int32))
theorem tF1 (Ad : QAd n0 ad) (W : QW Z a0) (s : List Int32) (x1 : Int32) {r : Ob} (h : F1 x1 = some r) : QTri l Z n0 ad 1 (0, qentry [.ref 1, .int x1] (pMaxL 1), [], [.inr (.inl (.int, s)), .inl [.null, .null, .null, .null, .null, .null, .null, .null, .int (f_cap ob0), .int (f_rows ob0), .int (f_direction ob0), .int (f_nulls ob0), .int (f_mode ob0), .int (f_startKind ob0), .int (f_startOff ob0), .int (f_endKind ob0), .int (f_endOff ob0), .int (f_fn ob0), .int (f_fnArg ob0), .int (f_computed ob0), .int (f_sortedLen ob0), .int (f_curPos ob0), .long (f_aggSum ob0), .int (f_aggCount ob0), .int (f_aggRows ob0), .int (f_aggMin ob0), .int (f_aggMax ob0)]]) (none : Option Value) (H0 s r) := by
 unfold F1 at h
 refine zS Ad W 1 (st' := (1, [vR 1, vI x1, none], [.ref 1], [.inr (.inl (.int, s)), .inl [.null, .null, .null, .null, .null, .null, .null, .null, .int (f_cap ob0), .int (f_rows ob0), .int (f_direction ob0), .int (f_nulls ob0), .int (f_mode ob0), .int (f_startKind ob0), .int (f_startOff ob0), .int (f_endKind ob0), .int (f_endOff ob0), .int (f_fn ob0), .int (f_fnArg ob0), .int (f_computed ob0), .int (f_sortedLen ob0), .int (f_curPos ob0), .long (f_aggSum ob0), .int (f_aggCount ob0), .int (f_aggRows ob0), .int (f_aggMin ob0), .int (f_aggMax ob0)]])) rfl ?_
 refine QTri.callO W rfl rfl rfl ?_
 refine zS Ad W 3 (st' := (9, [vR 1, vI x1, none], [.ref 2, .ref 1], [.inr (.inl (.int, s)), .inl [.null, .null, .null, .null, .null, .null, .null, .null, .int (f_cap ob0), .int (f_rows ob0), .int (f_direction ob0), .int (f_nulls ob0), .int (f_mode ob0), .int (f_startKind ob0), .int (f_startOff ob0), .int (f_endKind ob0), .int (f_endOff ob0), .int (f_fn ob0), .int (f_fnArg ob0), .int (f_computed ob0), .int (f_sortedLen ob0), .int (f_curPos ob0), .long (f_aggSum ob0), .int (f_aggCount ob0), .int (f_aggRows ob0), .int (f_aggMin ob0), .int (f_aggMax ob0)], .inr (.inl (.int, (List.replicate 32 0)))])) rfl ?_
 refine zS Ad W 1 (st' := (12, [vR 1, vI x1, none], [], [.inr (.inl (.int, s)), .inl [.ref 2, .null, .null, .null, .null, .null, .null, .null, .int (f_cap ob0), .int (f_rows ob0), .int (f_direction ob0), .int (f_nulls ob0), .int (f_mode ob0), .int (f_startKind ob0), .int (f_startOff ob0), .int (f_endKind ob0), .int (f_endOff ob0), .int (f_fn ob0), .int (f_fnArg ob0), .int (f_computed ob0), .int (f_sortedLen ob0), .int (f_curPos ob0), .long (f_aggSum ob0), .int (f_aggCount ob0), .int (f_aggRows ob0), .int (f_aggMin ob0), .int (f_aggMax ob0)], .inr (.inl (.int, (List.replicate 32 0)))])) rfl ?_
 refine zS Ad W 3 (st' := (17, [vR 1, vI x1, none], [.ref 3, .ref 1], [.inr (.inl (.int, s)), .inl [.ref 2, .null, .null, .null, .null, .null, .null, .null, .int (f_cap ob0), .int (f_rows ob0), .int (f_direction ob0), .int (f_nulls ob0), .int (f_mode ob0), .int (f_startKind ob0), .int (f_startOff ob0), .int (f_endKind ob0), .int (f_endOff ob0), .int (f_fn ob0), .int (f_fnArg ob0), .int (f_computed ob0), .int (f_sortedLen ob0), .int (f_curPos ob0), .long (f_aggSum ob0), .int (f_aggCount ob0), .int (f_aggRows ob0), .int (f_aggMin ob0), .int (f_aggMax ob0)], .inr (.inl (.int, (List.replicate 32 0))), .inr (.inl (.int, (List.replicate 32 0)))])) rfl ?_
 refine zS Ad W 1 (st' := (20, [vR 1, vI x1, none], [], [.inr (.inl (.int, s)), .inl [.ref 2, .ref 3, .null, .null, .null, .null, .null, .null, .int (f_cap ob0), .int (f_rows ob0), .int (f_direction ob0), .int (f_nulls ob0), .int (f_mode ob0), .int (f_startKind ob0), .int (f_startOff ob0), .int (f_endKind ob0), .int (f_endOff ob0), .int (f_fn ob0), .int (f_fnArg ob0), .int (f_computed ob0), .int (f_sortedLen ob0), .int (f_curPos ob0), .long (f_aggSum ob0), .int (f_aggCount ob0), .int (f_aggRows ob0), .int (f_aggMin ob0), .int (f_aggMax ob0)], .inr (.inl (.int, (List.replicate 32 0))), .inr (.inl (.int, (List.replicate 32 0)))])) rfl ?_
 refine zS Ad W 3 (st' := (25, [vR 1, vI x1, none], [.ref 4, .ref 1], [.inr (.inl (.int, s)), .inl [.ref 2, .ref 3, .null, .null, .null, .null, .null, .null, .int (f_cap ob0), .int (f_rows ob0), .int (f_direction ob0), .int (f_nulls ob0), .int (f_mode ob0), .int (f_startKind ob0), .int (f_startOff ob0), .int (f_endKind ob0), .int (f_endOff ob0), .int (f_fn ob0), .int (f_fnArg ob0), .int (f_computed ob0), .int (f_sortedLen ob0), .int (f_curPos ob0), .long (f_aggSum ob0), .int (f_aggCount ob0), .int (f_aggRows ob0), .int (f_aggMin ob0), .int (f_aggMax ob0)], .inr (.inl (.int, (List.replicate 32 0))), .inr (.inl (.int, (List.replicate 32 0))), .inr (.inl (.int, (List.replicate 32 0)))])) rfl ?_
 refine zS Ad W 1 (st' := (28, [vR 1, vI x1, none], [], [.inr (.inl (.int, s)), .inl [.ref 2, .ref 3, .ref 4, .null, .null, .null, .null, .null, .int (f_cap ob0), .int (f_rows ob0), .int (f_direction ob0), .int (f_nulls ob0), .int (f_mode ob0), .int (f_startKind ob0), .int (f_startOff ob0), .int (f_endKind ob0), .int (f_endOff ob0), .int (f_fn ob0), .int (f_fnArg ob0), .int (f_computed ob0), .int (f_sortedLen ob0), .int (f_curPos ob0), .long (f_aggSum ob0), .int (f_aggCount ob0), .int (f_aggRows ob0), .int (f_aggMin ob0), .int (f_aggMax ob0)], .inr (.inl (.int, (List.replicate 32 0))), .inr (.inl (.int, (List.replicate 32 0))), .inr (.inl (.int, (List.replicate 32 0)))])) rfl ?_
 refine zS Ad W 3 (st' := (33, [vR 1, vI x1, none], [.ref 5, .ref 1], [.inr (.inl (.int, s)), .inl [.ref 2, .ref 3, .ref 4, .null, .null, .null, .null, .null, .int (f_cap ob0), .int (f_rows ob0), .int (f_direction ob0), .int (f_nulls ob0), .int (f_mode ob0), .int (f_startKind ob0), .int (f_startOff ob0), .int (f_endKind ob0), .int (f_endOff ob0), .int (f_fn ob0), .int (f_fnArg ob0), .int (f_computed ob0), .int (f_sortedLen ob0), .int (f_curPos ob0), .long (f_aggSum ob0), .int (f_aggCount ob0), .int (f_aggRows ob0), .int (f_aggMin ob0), .int (f_aggMax ob0)], .inr (.inl (.int, (List.replicate 32 0))), .inr (.inl (.int, (List.replicate 32 0))), .inr (.inl (.int, (List.replicate 32 0))), .inr (.inl (.int, (List.replicate 32 0)))])) rfl ?_
 refine zS Ad W 1 (st' := (36, [vR 1, vI x1, none], [], [.inr (.inl (.int, s)), .inl [.ref 2, .ref 3, .ref 4, .ref 5, .null, .null, .null, .null, .int (f_cap ob0), .int (f_rows ob0), .int (f_direction ob0), .int (f_nulls ob0), .int (f_mode ob0), .int (f_startKind ob0), .int (f_startOff ob0), .int (f_endKind ob0), .int (f_endOff ob0), .int (f_fn ob0), .int (f_fnArg ob0), .int (f_computed ob0), .int (f_sortedLen ob0), .int (f_curPos ob0), .long (f_aggSum ob0), .int (f_aggCount ob0), .int (f_aggRows ob0), .int (f_aggMin ob0), .int (f_aggMax ob0)], .inr (.inl (.int, (List.replicate 32 0))), .inr (.inl (.int, (List.replicate 32 0))), .inr (.inl (.int, (List.replicate 32 0))), .inr (.inl (.int, (List.replicate 32 0)))])) rfl ?_
 refine zS Ad W 3 (st' := (41, [vR 1, vI x1, none], [.ref 6, .ref 1], [.inr (.inl (.int, s)), .inl [.ref 2, .ref 3, .ref 4, .ref 5, .null, .null, .null, .null, .int (f_cap ob0), .int (f_rows ob0), .int (f_direction ob0), .int (f_nulls ob0), .int (f_mode ob0), .int (f_startKind ob0), .int (f_startOff ob0), .int (f_endKind ob0), .int (f_endOff ob0), .int (f_fn ob0), .int (f_fnArg ob0), .int (f_computed ob0), .int (f_sortedLen ob0), .int (f_curPos ob0), .long (f_aggSum ob0), .int (f_aggCount ob0), .int (f_aggRows ob0), .int (f_aggMin ob0), .int (f_aggMax ob0)], .inr (.inl (.int, (List.replicate 32 0))), .inr (.inl (.int, (List.replicate 32 0))), .inr (.inl (.int, (List.replicate 32 0))), .inr (.inl (.int, (List.replicate 32 0))), .inr (.inr (List.replicate 32 0))])) rfl ?_
 refine zS Ad W 1 (st' := (44, [vR 1, vI x1, none], [], [.inr (.inl (.int, s)), .inl [.ref 2, .ref 3, .ref 4, .ref 5, .ref 6, .null, .null, .null, .int (f_cap ob0), .int (f_rows ob0), .int (f_direction ob0), .int (f_nulls ob0), .int (f_mode ob0), .int (f_startKind ob0), .int (f_startOff ob0), .int (f_endKind ob0), .int (f_endOff ob0), .int (f_fn ob0), .int (f_fnArg ob0), .int (f_computed ob0), .int (f_sortedLen ob0), .int (f_curPos ob0), .long (f_aggSum ob0), .int (f_aggCount ob0), .int (f_aggRows ob0), .int (f_aggMin ob0), .int (f_aggMax ob0)], .inr (.inl (.int, (List.replicate 32 0))), .inr (.inl (.int, (List.replicate 32 0))), .inr (.inl (.int, (List.replicate 32 0))), .inr (.inl (.int, (List.replicate 32 0))), .inr (.inr (List.replicate 32 0))])) rfl ?_
 refine zS Ad W 3 (st' := (49, [vR 1, vI x1, none], [.ref 7, .ref 1], [.inr (.inl (.int, s)), .inl [.ref 2, .ref 3, .ref 4, .ref 5, .ref 6, .null, .null, .null, .int (f_cap ob0), .int (f_rows ob0), .int (f_direction ob0), .int (f_nulls ob0), .int (f_mode ob0), .int (f_startKind ob0), .int (f_startOff ob0), .int (f_endKind ob0), .int (f_endOff ob0), .int (f_fn ob0), .int (f_fnArg ob0), .int (f_computed ob0), .int (f_sortedLen ob0), .int (f_curPos ob0), .long (f_aggSum ob0), .int (f_aggCount ob0), .int (f_aggRows ob0), .int (f_aggMin ob0), .int (f_aggMax ob0)], .inr (.inl (.int, (List.replicate 32 0))), .inr (.inl (.int, (List.replicate 32 0))), .inr (.inl (.int, (List.replicate 32 0))), .inr (.inl (.int, (List.replicate 32 0))), .inr (.inr (List.replicate 32 0)), .inr (.inl (.boolean, (List.replicate 32 0)))])) rfl ?_
 refine zS Ad W 1 (st' := (52, [vR 1, vI x1, none], [], [.inr (.inl (.int, s)), .inl [.ref 2, .ref 3, .ref 4, .ref 5, .ref 6, .ref 7, .null, .null, .int (f_cap ob0), .int (f_rows ob0), .int (f_direction ob0), .int (f_nulls ob0), .int (f_mode ob0), .int (f_startKind ob0), .int (f_startOff ob0), .int (f_endKind ob0), .int (f_endOff ob0), .int (f_fn ob0), .int (f_fnArg ob0), .int (f_computed ob0), .int (f_sortedLen ob0), .int (f_curPos ob0), .long (f_aggSum ob0), .int (f_aggCount ob0), .int (f_aggRows ob0), .int (f_aggMin ob0), .int (f_aggMax ob0)], .inr (.inl (.int, (List.replicate 32 0))), .inr (.inl (.int, (List.replicate 32 0))), .inr (.inl (.int, (List.replicate 32 0))), .inr (.inl (.int, (List.replicate 32 0))), .inr (.inr (List.replicate 32 0)), .inr (.inl (.boolean, (List.replicate 32 0)))])) rfl ?_
 refine zS Ad W 3 (st' := (57, [vR 1, vI x1, none], [.ref 8, .ref 1], [.inr (.inl (.int, s)), .inl [.ref 2, .ref 3, .ref 4, .ref 5, .ref 6, .ref 7, .null, .null, .int (f_cap ob0), .int (f_rows ob0), .int (f_direction ob0), .int (f_nulls ob0), .int (f_mode ob0), .int (f_startKind ob0), .int (f_startOff ob0), .int (f_endKind ob0), .int (f_endOff ob0), .int (f_fn ob0), .int (f_fnArg ob0), .int (f_computed ob0), .int (f_sortedLen ob0), .int (f_curPos ob0), .long (f_aggSum ob0), .int (f_aggCount ob0), .int (f_aggRows ob0), .int (f_aggMin ob0), .int (f_aggMax ob0)], .inr (.inl (.int, (List.replicate 32 0))), .inr (.inl (.int, (List.replicate 32 0))), .inr (.inl (.int, (List.replicate 32 0))), .inr (.inl (.int, (List.replicate 32 0))), .inr (.inr (List.replicate 32 0)), .inr (.inl (.boolean, (List.replicate 32 0))), .inr (.inl (.int, (List.replicate 32 0)))])) rfl ?_
 refine zS Ad W 1 (st' := (60, [vR 1, vI x1, none], [], [.inr (.inl (.int, s)), .inl [.ref 2, .ref 3, .ref 4, .ref 5, .ref 6, .ref 7, .ref 8, .null, .int (f_cap ob0), .int (f_rows ob0), .int (f_direction ob0), .int (f_nulls ob0), .int (f_mode ob0), .int (f_startKind ob0), .int (f_startOff ob0), .int (f_endKind ob0), .int (f_endOff ob0), .int (f_fn ob0), .int (f_fnArg ob0), .int (f_computed ob0), .int (f_sortedLen ob0), .int (f_curPos ob0), .long (f_aggSum ob0), .int (f_aggCount ob0), .int (f_aggRows ob0), .int (f_aggMin ob0), .int (f_aggMax ob0)], .inr (.inl (.int, (List.replicate 32 0))), .inr (.inl (.int, (List.replicate 32 0))), .inr (.inl (.int, (List.replicate 32 0))), .inr (.inl (.int, (List.replicate 32 0))), .inr (.inr (List.replicate 32 0)), .inr (.inl (.boolean, (List.replicate 32 0))), .inr (.inl (.int, (List.replicate 32 0)))])) rfl ?_
 refine zS Ad W 3 (st' := (65, [vR 1, vI x1, none], [.ref 9, .ref 1], [.inr (.inl (.int, s)), .inl [.ref 2, .ref 3, .ref 4, .ref 5, .ref 6, .ref 7, .ref 8, .null, .int (f_cap ob0), .int (f_rows ob0), .int (f_direction ob0), .int (f_nulls ob0), .int (f_mode ob0), .int (f_startKind ob0), .int (f_startOff ob0), .int (f_endKind ob0), .int (f_endOff ob0), .int (f_fn ob0), .int (f_fnArg ob0), .int (f_computed ob0), .int (f_sortedLen ob0), .int (f_curPos ob0), .long (f_aggSum ob0), .int (f_aggCount ob0), .int (f_aggRows ob0), .int (f_aggMin ob0), .int (f_aggMax ob0)], .inr (.inl (.int, (List.replicate 32 0))), .inr (.inl (.int, (List.replicate 32 0))), .inr (.inl (.int, (List.replicate 32 0))), .inr (.inl (.int, (List.replicate 32 0))), .inr (.inr (List.replicate 32 0)), .inr (.inl (.boolean, (List.replicate 32 0))), .inr (.inl (.int, (List.replicate 32 0))), .inr (.inl (.int, (List.replicate 32 0)))])) rfl ?_
 refine zS Ad W 1 (st' := (68, [vR 1, vI x1, none], [], (H0x0 s ob0 (List.replicate 32 0) (List.replicate 32 0) (List.replicate 32 0) (List.replicate 32 0) (List.replicate 32 0) (List.replicate 32 0) (List.replicate 32 0) (List.replicate 32 0)))) rfl ?_
 refine zS Ad W 4 (st' := (73, [vR 1, vI x1, vI x1], [.int (8:Int32), .int x1], (H0x0 s ob0 (List.replicate 32 0) (List.replicate 32 0) (List.replicate 32 0) (List.replicate 32 0) (List.replicate 32 0) (List.replicate 32 0) (List.replicate 32 0) (List.replicate 32 0)))) rfl ?_
 have K2 : ∀ z1 : Int32, z1 = (if x1 < (8:Int32) then (8:Int32) else x1) → QTri l Z n0 ad 1 (79, [vR 1, none, vI z1], [], (H0x0 s ob0 (List.replicate 32 0) (List.replicate 32 0) (List.replicate 32 0) (List.replicate 32 0) (List.replicate 32 0) (List.replicate 32 0) (List.replicate 32 0) (List.replicate 32 0))) (none : Option Value) (H0 s r) := by
  intro z1 ez1
  subst ez1
  refine zS Ad W 2 (st' := (82, [vR 1, none, vI (if x1 < (8:Int32) then (8:Int32) else x1)], [.int (32:Int32), .int (if x1 < (8:Int32) then (8:Int32) else x1)], (H0x0 s ob0 (List.replicate 32 0) (List.replicate 32 0) (List.replicate 32 0) (List.replicate 32 0) (List.replicate 32 0) (List.replicate 32 0) (List.replicate 32 0) (List.replicate 32 0)))) rfl ?_
  have K5 : ∀ z4 : Int32, z4 = (if (32:Int32) < (if x1 < (8:Int32) then (8:Int32) else x1) then (32:Int32) else (if x1 < (8:Int32) then (8:Int32) else x1)) → QTri l Z n0 ad 1 (88, [vR 1, none, vI z4], [], (H0x0 s ob0 (List.replicate 32 0) (List.replicate 32 0) (List.replicate 32 0) (List.replicate 32 0) (List.replicate 32 0) (List.replicate 32 0) (List.replicate 32 0) (List.replicate 32 0))) (none : Option Value) (H0 s r) := by
   intro z4 ez4
   subst ez4
   refine zS Ad W 3 (st' := (93, [vR 1, none, vI (if (32:Int32) < (if x1 < (8:Int32) then (8:Int32) else x1) then (32:Int32) else (if x1 < (8:Int32) then (8:Int32) else x1))], [], (H0x1 s ob0 (List.replicate 32 0) (List.replicate 32 0) (List.replicate 32 0) (List.replicate 32 0) (List.replicate 32 0) (List.replicate 32 0) (List.replicate 32 0) (List.replicate 32 0) (if (32:Int32) < (if x1 < (8:Int32) then (8:Int32) else x1) then (32:Int32) else (if x1 < (8:Int32) then (8:Int32) else x1))))) rfl ?_
   refine zS Ad W 3 (st' := (98, [vR 1, none, vI (if (32:Int32) < (if x1 < (8:Int32) then (8:Int32) else x1) then (32:Int32) else (if x1 < (8:Int32) then (8:Int32) else x1))], [], (H0x2 s ob0 (List.replicate 32 0) (List.replicate 32 0) (List.replicate 32 0) (List.replicate 32 0) (List.replicate 32 0) (List.replicate 32 0) (List.replicate 32 0) (List.replicate 32 0) (if (32:Int32) < (if x1 < (8:Int32) then (8:Int32) else x1) then (32:Int32) else (if x1 < (8:Int32) then (8:Int32) else x1)) (0:Int32)))) rfl ?_
   refine zS Ad W 1 (st' := (99, [vR 1, none, vI (if (32:Int32) < (if x1 < (8:Int32) then (8:Int32) else x1) then (32:Int32) else (if x1 < (8:Int32) then (8:Int32) else x1))], [.ref 1], (H0x2 s ob0 (List.replicate 32 0) (List.replicate 32 0) (List.replicate 32 0) (List.replicate 32 0) (List.replicate 32 0) (List.replicate 32 0) (List.replicate 32 0) (List.replicate 32 0) (if (32:Int32) < (if x1 < (8:Int32) then (8:Int32) else x1) then (32:Int32) else (if x1 < (8:Int32) then (8:Int32) else x1)) (0:Int32)))) rfl ?_
   have E7 : ((H0x2 s ob0 (List.replicate 32 0) (List.replicate 32 0) (List.replicate 32 0) (List.replicate 32 0) (List.replicate 32 0) (List.replicate 32 0) (List.replicate 32 0) (List.replicate 32 0) (if (32:Int32) < (if x1 < (8:Int32) then (8:Int32) else x1) then (32:Int32) else (if x1 < (8:Int32) then (8:Int32) else x1)) (0:Int32)) : QHeap) = (H0 s (s_rows (s_cap (s_sorted (s_frameCnt (s_resNull (s_res (s_flg (s_vals (s_keys (s_part ob0 (List.replicate 32 0)) (List.replicate 32 0)) (List.replicate 32 0)) (List.replicate 32 0)) (List.replicate 32 0)) (List.replicate 32 0)) (List.replicate 32 0)) (List.replicate 32 0)) (if (32:Int32) < (if x1 < (8:Int32) then (8:Int32) else x1) then (32:Int32) else (if x1 < (8:Int32) then (8:Int32) else x1))) (0:Int32))) := by simp only [fs, H0, H0v, H0x2, s_part, s_keys, s_vals, s_flg, s_res, s_resNull, s_frameCnt, s_sorted, s_cap, s_rows, ob0]
   rw [E7]
   obtain ⟨r9, hr9, h⟩ := bind_eq_some_iff.mp h
   refine QTri.callP W (a := 1) (as := []) (rest := []) (w := none) (σ₁ := (H0 s r9)) rfl rfl rfl rfl rfl rfl rfl rfl (tF2 Ad W s (s_rows (s_cap (s_sorted (s_frameCnt (s_resNull (s_res (s_flg (s_vals (s_keys (s_part ob0 (List.replicate 32 0)) (List.replicate 32 0)) (List.replicate 32 0)) (List.replicate 32 0)) (List.replicate 32 0)) (List.replicate 32 0)) (List.replicate 32 0)) (List.replicate 32 0)) (if (32:Int32) < (if x1 < (8:Int32) then (8:Int32) else x1) then (32:Int32) else (if x1 < (8:Int32) then (8:Int32) else x1))) (0:Int32)) hr9) ?_
   refine zS Ad W 3 (st' := (107, [vR 1, none, vI (if (32:Int32) < (if x1 < (8:Int32) then (8:Int32) else x1) then (32:Int32) else (if x1 < (8:Int32) then (8:Int32) else x1))], [], (H0x12 s r9 (0:Int32)))) rfl ?_
   have E10 : ((H0x12 s r9 (0:Int32)) : QHeap) = (H0 s (s_computed r9 (0:Int32))) := by simp only [fs, H0, H0v, H0x12, s_computed]
   rw [E10]
   obtain rfl := Option.some.inj h
   exact QTri.ret0 rfl rfl
  rcases em ((32:Int32) < (if x1 < (8:Int32) then (8:Int32) else x1)) with hc6 | hc6
  ·refine zF Ad W (t := 88) (f := 85) rfl (XT.ii_le_f hc6) ?_
   refine zS Ad W 2 (st' := (88, [vR 1, none, vI (32:Int32)], [], (H0x0 s ob0 (List.replicate 32 0) (List.replicate 32 0) (List.replicate 32 0) (List.replicate 32 0) (List.replicate 32 0) (List.replicate 32 0) (List.replicate 32 0) (List.replicate 32 0)))) rfl ?_
   exact zM [tt,ff,tt] (K5 _ (if_pos hc6).symm)
  ·refine zT Ad W (t := 88) (f := 85) rfl (XT.ii_le_t hc6) ?_
   exact zM [tt,ff,tt] (K5 _ (if_neg hc6).symm)
 rcases em (x1 < (8:Int32)) with hc3 | hc3
 ·refine zF Ad W (t := 79) (f := 76) rfl (XT.ii_ge_f hc3) ?_
  refine zS Ad W 2 (st' := (79, [vR 1, vI x1, vI (8:Int32)], [], (H0x0 s ob0 (List.replicate 32 0) (List.replicate 32 0) (List.replicate 32 0) (List.replicate 32 0) (List.replicate 32 0) (List.replicate 32 0) (List.replicate 32 0) (List.replicate 32 0)))) rfl ?_
  exact zM [tt,ff,tt] (K2 _ (if_pos hc3).symm)
 ·refine zT Ad W (t := 79) (f := 76) rfl (XT.ii_ge_t hc3) ?_
  exact zM [tt,ff,tt] (K2 _ (if_neg hc3).symm)
def H0x13 (s : List Int32) (o0 : Ob) (a0_9 : Int32) : QHeap := H0v s (f_part o0) (f_keys o0) (f_vals o0) (f_flg o0) (f_res o0) (f_resNull o0) (f_frameCnt o0) (f_sorted o0) (f_cap o0) a0_9 (f_direction o0) (f_nulls o0) (f_mode o0) (f_startKind o0) (f_startOff o0) (f_endKind o0) (f_endOff o0) (f_fn o0) (f_fnArg o0) (f_computed o0) (f_sortedLen o0) (f_curPos o0) (f_aggSum o0) (f_aggCount o0) (f_aggRows o0) (f_aggMin o0) (f_aggMax o0)
def H0x14 (s : List Int32) (o0 : Ob) (a0_9 : Int32) (a0_19 : Int32) : QHeap := H0v s (f_part o0) (f_keys o0) (f_vals o0) (f_flg o0) (f_res o0) (f_resNull o0) (f_frameCnt o0) (f_sorted o0) (f_cap o0) a0_9 (f_direction o0) (f_nulls o0) (f_mode o0) (f_startKind o0) (f_startOff o0) (f_endKind o0) (f_endOff o0) (f_fn o0) (f_fnArg o0) a0_19 (f_sortedLen o0) (f_curPos o0) (f_aggSum o0) (f_aggCount o0) (f_aggRows o0) (f_aggMin o0) (f_aggMax o0)
/-- clear()V -/
def F30 (o : Ob) : Option (Ob) :=
 some (s_computed (s_rows o (0:Int32)) (0:Int32))
theorem tF30 (Ad : QAd n0 ad) (W : QW Z a0) (s : List Int32) (o : Ob) {r : Ob} (h : F30 o = some r) : QTri l Z n0 ad 30 (0, qentry [.ref 1] (pMaxL 30), [], (H0 s o)) (none : Option Value) (H0 s r) := by
 unfold F30 at h
 refine zS Ad W 3 (st' := (5, [vR 1], [], (H0x13 s o (0:Int32)))) rfl ?_
 refine zS Ad W 3 (st' := (10, [vR 1], [], (H0x14 s o (0:Int32) (0:Int32)))) rfl ?_
 have E23 : ((H0x14 s o (0:Int32) (0:Int32)) : QHeap) = (H0 s (s_computed (s_rows o (0:Int32)) (0:Int32))) := by simp only [fs, H0, H0v, H0x14, s_rows, s_computed]
 rw [E23]
 obtain rfl := Option.some.inj h
 exact QTri.ret0 rfl rfl
def J0_277 (s : List Int32) (p0 : Ob) (x2 : Int32) (x3 : Int32) (x4 : Int32) : Option (((Ob)) ⊕ (Int32 × Ob)) :=
  some (.inr ((x4 + (5 : Int32)), p0))
theorem tJ0_277 (Ad : QAd n0 ad) (W : QW Z a0) (s : List Int32) (p0 : Ob) (x2 : Int32) (x3 : Int32) (x4 : Int32) {r : ((Ob)) ⊕ (Int32 × Ob)} {u : Option Value} {τ : QHeap} (h : J0_277 s p0 x2 x3 x4 = some r) (hx0 : ∀ x : Ob, r = .inl x → QTri l Z n0 ad 0 (283, [none, vR 1, vI x2, vI x3, none, none, none, none, none, none, none, none, none, none, none, none, none, none, none, none, none, none, none, none], [], (H0 s x)) u τ) (hc : ∀ x : Int32 × Ob, r = .inr x → QTri l Z n0 ad 0 (36, [vR 0, vR 1, vI x2, vI x3, vI x.1, none, none, none, none, none, none, none, none, none, none, none, none, none, none, none, none, none, none, none], [], (H0 s x.2)) u τ) : QTri l Z n0 ad 0 (277, [vR 0, vR 1, vI x2, vI x3, vI x4, none, none, none, none, none, none, none, none, none, none, none, none, none, none, none, none, none, none, none], [], (H0 s p0)) u τ := by
 unfold J0_277 at h
 refine zS Ad W 2 (st' := (36, [vR 0, vR 1, vI x2, vI x3, vI (x4 + (5:Int32)), none, none, none, none, none, none, none, none, none, none, none, none, none, none, none, none, none, none, none], [], (H0 s p0))) rfl ?_
 obtain rfl := Option.some.inj h
 exact zM [tt,tt,tt,tt,tt,ff,ff,ff,ff,ff,ff,ff,ff,ff,ff,ff,ff,ff,ff,ff,ff,ff,ff,ff] (hc ((x4 + (5:Int32)), p0) rfl)
def H0x15 (s : List Int32) (o0 : Ob) (a0_10 : Int32) (a0_11 : Int32) (a0_19 : Int32) : QHeap := H0v s (f_part o0) (f_keys o0) (f_vals o0) (f_flg o0) (f_res o0) (f_resNull o0) (f_frameCnt o0) (f_sorted o0) (f_cap o0) (f_rows o0) a0_10 a0_11 (f_mode o0) (f_startKind o0) (f_startOff o0) (f_endKind o0) (f_endOff o0) (f_fn o0) (f_fnArg o0) a0_19 (f_sortedLen o0) (f_curPos o0) (f_aggSum o0) (f_aggCount o0) (f_aggRows o0) (f_aggMin o0) (f_aggMax o0)
/-- setOrder(II)Z -/
def F29 (o : Ob) (x1 : Int32) (x2 : Int32) : Option (Int32 × Ob) :=
 (if x1 < (0:Int32) then some ((0:Int32), o) else (if (2:Int32) < x1 then some ((0:Int32), o) else (if x2 < (0:Int32) then some ((0:Int32), o) else (if (1:Int32) < x2 then some ((0:Int32), o) else some ((1:Int32), (s_computed (s_nulls (s_direction o x1) x2) (0:Int32)))))))
theorem tF29 (Ad : QAd n0 ad) (W : QW Z a0) (s : List Int32) (o : Ob) (x1 : Int32) (x2 : Int32) {r : Int32 × Ob} (h : F29 o x1 x2 = some r) : QTri l Z n0 ad 29 (0, qentry [.ref 1, .int x1, .int x2] (pMaxL 29), [], (H0 s o)) (some (Value.int r.1)) (H0 s r.2) := by
 unfold F29 at h
 refine zS Ad W 1 (st' := (1, [vR 1, vI x1, vI x2], [.int x1], (H0 s o))) rfl ?_
 rcases qite h with ⟨hc26, h⟩ | ⟨hc26, h⟩
 ·refine zT Ad W (t := 18) (f := 4) rfl (XT.i0_lt_t hc26) ?_
  refine zS Ad W 1 (st' := (19, [vR 1, vI x1, vI x2], [.int (0:Int32)], (H0 s o))) rfl ?_
  obtain rfl := Option.some.inj h
  exact QTri.retZ rfl rfl
 ·refine zF Ad W (t := 18) (f := 4) rfl (XT.i0_lt_f hc26) ?_
  refine zS Ad W 2 (st' := (6, [vR 1, vI x1, vI x2], [.int (2:Int32), .int x1], (H0 s o))) rfl ?_
  rcases qite h with ⟨hc27, h⟩ | ⟨hc27, h⟩
  ·refine zT Ad W (t := 18) (f := 9) rfl (XT.ii_gt_t hc27) ?_
   refine zS Ad W 1 (st' := (19, [vR 1, vI x1, vI x2], [.int (0:Int32)], (H0 s o))) rfl ?_
   obtain rfl := Option.some.inj h
   exact QTri.retZ rfl rfl
  ·refine zF Ad W (t := 18) (f := 9) rfl (XT.ii_gt_f hc27) ?_
   refine zS Ad W 1 (st' := (10, [vR 1, vI x1, vI x2], [.int x2], (H0 s o))) rfl ?_
   rcases qite h with ⟨hc28, h⟩ | ⟨hc28, h⟩
   ·refine zT Ad W (t := 18) (f := 13) rfl (XT.i0_lt_t hc28) ?_
    refine zS Ad W 1 (st' := (19, [vR 1, vI x1, vI x2], [.int (0:Int32)], (H0 s o))) rfl ?_
    obtain rfl := Option.some.inj h
    exact QTri.retZ rfl rfl
   ·refine zF Ad W (t := 18) (f := 13) rfl (XT.i0_lt_f hc28) ?_
    refine zS Ad W 2 (st' := (15, [vR 1, vI x1, vI x2], [.int (1:Int32), .int x2], (H0 s o))) rfl ?_
    rcases qite h with ⟨hc29, h⟩ | ⟨hc29, h⟩
    ·refine zF Ad W (t := 20) (f := 18) rfl (XT.ii_le_f hc29) ?_
     refine zS Ad W 1 (st' := (19, [vR 1, vI x1, vI x2], [.int (0:Int32)], (H0 s o))) rfl ?_
     obtain rfl := Option.some.inj h
     exact QTri.retZ rfl rfl
    ·refine zT Ad W (t := 20) (f := 18) rfl (XT.ii_le_t hc29) ?_
     refine zS Ad W 3 (st' := (25, [vR 1, vI x1, vI x2], [], (H0x3 s o x1))) rfl ?_
     refine zS Ad W 3 (st' := (30, [vR 1, vI x1, vI x2], [], (H0x4 s o x1 x2))) rfl ?_
     refine zS Ad W 3 (st' := (35, [vR 1, vI x1, vI x2], [], (H0x15 s o x1 x2 (0:Int32)))) rfl ?_
     refine zS Ad W 1 (st' := (36, [vR 1, vI x1, vI x2], [.int (1:Int32)], (H0x15 s o x1 x2 (0:Int32)))) rfl ?_
     have E30 : ((H0x15 s o x1 x2 (0:Int32)) : QHeap) = (H0 s (s_computed (s_nulls (s_direction o x1) x2) (0:Int32))) := by simp only [fs, H0, H0v, H0x15, s_direction, s_nulls, s_computed]
     rw [E30]
     obtain rfl := Option.some.inj h
     exact QTri.retZ rfl rfl
def H0x16 (s : List Int32) (o0 : Ob) (a0_12 : Int32) : QHeap := H0v s (f_part o0) (f_keys o0) (f_vals o0) (f_flg o0) (f_res o0) (f_resNull o0) (f_frameCnt o0) (f_sorted o0) (f_cap o0) (f_rows o0) (f_direction o0) (f_nulls o0) a0_12 (f_startKind o0) (f_startOff o0) (f_endKind o0) (f_endOff o0) (f_fn o0) (f_fnArg o0) (f_computed o0) (f_sortedLen o0) (f_curPos o0) (f_aggSum o0) (f_aggCount o0) (f_aggRows o0) (f_aggMin o0) (f_aggMax o0)
def H0x17 (s : List Int32) (o0 : Ob) (a0_12 : Int32) (a0_19 : Int32) : QHeap := H0v s (f_part o0) (f_keys o0) (f_vals o0) (f_flg o0) (f_res o0) (f_resNull o0) (f_frameCnt o0) (f_sorted o0) (f_cap o0) (f_rows o0) (f_direction o0) (f_nulls o0) a0_12 (f_startKind o0) (f_startOff o0) (f_endKind o0) (f_endOff o0) (f_fn o0) (f_fnArg o0) a0_19 (f_sortedLen o0) (f_curPos o0) (f_aggSum o0) (f_aggCount o0) (f_aggRows o0) (f_aggMin o0) (f_aggMax o0)
/-- setFrameMode(I)Z -/
def F28 (o : Ob) (x1 : Int32) : Option (Int32 × Ob) :=
 (if x1 < (0:Int32) then some ((0:Int32), o) else (if (1:Int32) < x1 then some ((0:Int32), o) else some ((1:Int32), (s_computed (s_mode o x1) (0:Int32)))))
theorem tF28 (Ad : QAd n0 ad) (W : QW Z a0) (s : List Int32) (o : Ob) (x1 : Int32) {r : Int32 × Ob} (h : F28 o x1 = some r) : QTri l Z n0 ad 28 (0, qentry [.ref 1, .int x1] (pMaxL 28), [], (H0 s o)) (some (Value.int r.1)) (H0 s r.2) := by
 unfold F28 at h
 refine zS Ad W 1 (st' := (1, [vR 1, vI x1], [.int x1], (H0 s o))) rfl ?_
 rcases qite h with ⟨hc34, h⟩ | ⟨hc34, h⟩
 ·refine zT Ad W (t := 9) (f := 4) rfl (XT.i0_lt_t hc34) ?_
  refine zS Ad W 1 (st' := (10, [vR 1, vI x1], [.int (0:Int32)], (H0 s o))) rfl ?_
  obtain rfl := Option.some.inj h
  exact QTri.retZ rfl rfl
 ·refine zF Ad W (t := 9) (f := 4) rfl (XT.i0_lt_f hc34) ?_
  refine zS Ad W 2 (st' := (6, [vR 1, vI x1], [.int (1:Int32), .int x1], (H0 s o))) rfl ?_
  rcases qite h with ⟨hc35, h⟩ | ⟨hc35, h⟩
  ·refine zF Ad W (t := 11) (f := 9) rfl (XT.ii_le_f hc35) ?_
   refine zS Ad W 1 (st' := (10, [vR 1, vI x1], [.int (0:Int32)], (H0 s o))) rfl ?_
   obtain rfl := Option.some.inj h
   exact QTri.retZ rfl rfl
  ·refine zT Ad W (t := 11) (f := 9) rfl (XT.ii_le_t hc35) ?_
   refine zS Ad W 3 (st' := (16, [vR 1, vI x1], [], (H0x16 s o x1))) rfl ?_
   refine zS Ad W 3 (st' := (21, [vR 1, vI x1], [], (H0x17 s o x1 (0:Int32)))) rfl ?_
   refine zS Ad W 1 (st' := (22, [vR 1, vI x1], [.int (1:Int32)], (H0x17 s o x1 (0:Int32)))) rfl ?_
   have E36 : ((H0x17 s o x1 (0:Int32)) : QHeap) = (H0 s (s_computed (s_mode o x1) (0:Int32))) := by simp only [fs, H0, H0v, H0x17, s_mode, s_computed]
   rw [E36]
   obtain rfl := Option.some.inj h
   exact QTri.retZ rfl rfl
def H0x18 (s : List Int32) (o0 : Ob) (a0_13 : Int32) : QHeap := H0v s (f_part o0) (f_keys o0) (f_vals o0) (f_flg o0) (f_res o0) (f_resNull o0) (f_frameCnt o0) (f_sorted o0) (f_cap o0) (f_rows o0) (f_direction o0) (f_nulls o0) (f_mode o0) a0_13 (f_startOff o0) (f_endKind o0) (f_endOff o0) (f_fn o0) (f_fnArg o0) (f_computed o0) (f_sortedLen o0) (f_curPos o0) (f_aggSum o0) (f_aggCount o0) (f_aggRows o0) (f_aggMin o0) (f_aggMax o0)
def H0x19 (s : List Int32) (o0 : Ob) (a0_13 : Int32) (a0_14 : Int32) : QHeap := H0v s (f_part o0) (f_keys o0) (f_vals o0) (f_flg o0) (f_res o0) (f_resNull o0) (f_frameCnt o0) (f_sorted o0) (f_cap o0) (f_rows o0) (f_direction o0) (f_nulls o0) (f_mode o0) a0_13 a0_14 (f_endKind o0) (f_endOff o0) (f_fn o0) (f_fnArg o0) (f_computed o0) (f_sortedLen o0) (f_curPos o0) (f_aggSum o0) (f_aggCount o0) (f_aggRows o0) (f_aggMin o0) (f_aggMax o0)
def H0x20 (s : List Int32) (o0 : Ob) (a0_13 : Int32) (a0_14 : Int32) (a0_19 : Int32) : QHeap := H0v s (f_part o0) (f_keys o0) (f_vals o0) (f_flg o0) (f_res o0) (f_resNull o0) (f_frameCnt o0) (f_sorted o0) (f_cap o0) (f_rows o0) (f_direction o0) (f_nulls o0) (f_mode o0) a0_13 a0_14 (f_endKind o0) (f_endOff o0) (f_fn o0) (f_fnArg o0) a0_19 (f_sortedLen o0) (f_curPos o0) (f_aggSum o0) (f_aggCount o0) (f_aggRows o0) (f_aggMin o0) (f_aggMax o0)
def J9_37 (o : Ob) (x1 : Int32) (x2 : Int32) (x3 : Int32) : Option (Int32 × Ob) :=
  some ((1 : Int32), (s_computed (s_startOff (s_startKind o x1) (if x3 = (0 : Int32) then (0 : Int32) else x2)) (0 : Int32)))
theorem tJ9_37 (Ad : QAd n0 ad) (W : QW Z a0) (s : List Int32) (o : Ob) (x1 : Int32) (x2 : Int32) (x3 : Int32) {r : Int32 × Ob} (h : J9_37 o x1 x2 x3 = some r) : QTri l Z n0 ad 9 (37, [vR 1, vI x1, vI x2, vI x3], [], (H0 s o)) (some (Value.int r.1)) (H0 s r.2) := by
 unfold J9_37 at h
 refine zS Ad W 3 (st' := (42, [vR 1, vI x1, vI x2, vI x3], [], (H0x18 s o x1))) rfl ?_
 refine zS Ad W 2 (st' := (44, [vR 1, vI x1, vI x2, vI x3], [.int x3, .ref 1], (H0x18 s o x1))) rfl ?_
 have K48 : ∀ z47 : Int32, z47 = (if x3 = (0:Int32) then (0:Int32) else x2) → QTri l Z n0 ad 9 (52, [vR 1, none, none, none], [.int z47, .ref 1], (H0x18 s o x1)) (some (Value.int r.1)) (H0 s r.2) := by
  intro z47 ez47
  subst ez47
  refine zS Ad W 1 (st' := (55, [vR 1, none, none, none], [], (H0x19 s o x1 (if x3 = (0:Int32) then (0:Int32) else x2)))) rfl ?_
  refine zS Ad W 3 (st' := (60, [vR 1, none, none, none], [], (H0x20 s o x1 (if x3 = (0:Int32) then (0:Int32) else x2) (0:Int32)))) rfl ?_
  refine zS Ad W 1 (st' := (61, [vR 1, none, none, none], [.int (1:Int32)], (H0x20 s o x1 (if x3 = (0:Int32) then (0:Int32) else x2) (0:Int32)))) rfl ?_
  have E50 : ((H0x20 s o x1 (if x3 = (0:Int32) then (0:Int32) else x2) (0:Int32)) : QHeap) = (H0 s (s_computed (s_startOff (s_startKind o x1) (if x3 = (0:Int32) then (0:Int32) else x2)) (0:Int32))) := by simp only [fs, H0, H0v, H0x20, s_startKind, s_startOff, s_computed]
  rw [E50]
  obtain rfl := Option.some.inj h
  exact QTri.retZ rfl rfl
 rcases em (x3 = (0:Int32)) with hc49 | hc49
 ·refine zT Ad W (t := 51) (f := 47) rfl (XT.i0_eq_t hc49) ?_
  refine zS Ad W 1 (st' := (52, [vR 1, vI x1, vI x2, vI x3], [.int (0:Int32), .ref 1], (H0x18 s o x1))) rfl ?_
  exact zM [tt,ff,ff,ff] (K48 _ (if_pos hc49).symm)
 ·refine zF Ad W (t := 51) (f := 47) rfl (XT.i0_eq_f hc49) ?_
  refine zS Ad W 2 (st' := (52, [vR 1, vI x1, vI x2, vI x3], [.int x2, .ref 1], (H0x18 s o x1))) rfl ?_
  exact zM [tt,ff,ff,ff] (K48 _ (if_neg hc49).symm)
/-- setFrameStart(II)Z -/
def F9 (o : Ob) (x1 : Int32) (x2 : Int32) : Option (Int32 × Ob) :=
 (if x1 < (0:Int32) then some ((0:Int32), o) else (if (3:Int32) < x1 then some ((0:Int32), o) else (if (if x1 = (1:Int32) then (1:Int32) else (if x1 = (3:Int32) then (1:Int32) else (0:Int32))) = (0:Int32) then (J9_37 o x1 x2 (if x1 = (1:Int32) then (1:Int32) else (if x1 = (3:Int32) then (1:Int32) else (0:Int32)))) else (if x2 < (0:Int32) then some ((0:Int32), o) else (J9_37 o x1 x2 (if x1 = (1:Int32) then (1:Int32) else (if x1 = (3:Int32) then (1:Int32) else (0:Int32))))))))
theorem tF9 (Ad : QAd n0 ad) (W : QW Z a0) (s : List Int32) (o : Ob) (x1 : Int32) (x2 : Int32) {r : Int32 × Ob} (h : F9 o x1 x2 = some r) : QTri l Z n0 ad 9 (0, qentry [.ref 1, .int x1, .int x2] (pMaxL 9), [], (H0 s o)) (some (Value.int r.1)) (H0 s r.2) := by
 unfold F9 at h
 refine zS Ad W 1 (st' := (1, [vR 1, vI x1, vI x2, none], [.int x1], (H0 s o))) rfl ?_
 rcases qite h with ⟨hc40, h⟩ | ⟨hc40, h⟩
 ·refine zT Ad W (t := 9) (f := 4) rfl (XT.i0_lt_t hc40) ?_
  refine zS Ad W 1 (st' := (10, [vR 1, vI x1, vI x2, none], [.int (0:Int32)], (H0 s o))) rfl ?_
  obtain rfl := Option.some.inj h
  exact QTri.retZ rfl rfl
 ·refine zF Ad W (t := 9) (f := 4) rfl (XT.i0_lt_f hc40) ?_
  refine zS Ad W 2 (st' := (6, [vR 1, vI x1, vI x2, none], [.int (3:Int32), .int x1], (H0 s o))) rfl ?_
  rcases qite h with ⟨hc41, h⟩ | ⟨hc41, h⟩
  ·refine zF Ad W (t := 11) (f := 9) rfl (XT.ii_le_f hc41) ?_
   refine zS Ad W 1 (st' := (10, [vR 1, vI x1, vI x2, none], [.int (0:Int32)], (H0 s o))) rfl ?_
   obtain rfl := Option.some.inj h
   exact QTri.retZ rfl rfl
  ·refine zT Ad W (t := 11) (f := 9) rfl (XT.ii_le_t hc41) ?_
   refine zS Ad W 2 (st' := (13, [vR 1, vI x1, vI x2, none], [.int (1:Int32), .int x1], (H0 s o))) rfl ?_
   have K43 : ∀ z42 : Int32, z42 = (if x1 = (1:Int32) then (1:Int32) else (if x1 = (3:Int32) then (1:Int32) else (0:Int32))) → QTri l Z n0 ad 9 (26, [vR 1, vI x1, vI x2, none], [.int z42], (H0 s o)) (some (Value.int r.1)) (H0 s r.2) := by
    intro z42 ez42
    subst ez42
    refine zS Ad W 2 (st' := (28, [vR 1, vI x1, vI x2, vI (if x1 = (1:Int32) then (1:Int32) else (if x1 = (3:Int32) then (1:Int32) else (0:Int32)))], [.int (if x1 = (1:Int32) then (1:Int32) else (if x1 = (3:Int32) then (1:Int32) else (0:Int32)))], (H0 s o))) rfl ?_
    rcases qite h with ⟨hc46, h⟩ | ⟨hc46, h⟩
    ·refine zT Ad W (t := 37) (f := 31) rfl (XT.i0_eq_t hc46) ?_
     exact zM [tt,tt,tt,tt] (tJ9_37 Ad W s o x1 x2 (if x1 = (1:Int32) then (1:Int32) else (if x1 = (3:Int32) then (1:Int32) else (0:Int32))) h)
    ·refine zF Ad W (t := 37) (f := 31) rfl (XT.i0_eq_f hc46) ?_
     refine zS Ad W 1 (st' := (32, [vR 1, vI x1, vI x2, vI (if x1 = (1:Int32) then (1:Int32) else (if x1 = (3:Int32) then (1:Int32) else (0:Int32)))], [.int x2], (H0 s o))) rfl ?_
     rcases qite h with ⟨hc51, h⟩ | ⟨hc51, h⟩
     ·refine zF Ad W (t := 37) (f := 35) rfl (XT.i0_ge_f hc51) ?_
      refine zS Ad W 1 (st' := (36, [vR 1, vI x1, vI x2, vI (if x1 = (1:Int32) then (1:Int32) else (if x1 = (3:Int32) then (1:Int32) else (0:Int32)))], [.int (0:Int32)], (H0 s o))) rfl ?_
      obtain rfl := Option.some.inj h
      exact QTri.retZ rfl rfl
     ·refine zT Ad W (t := 37) (f := 35) rfl (XT.i0_ge_t hc51) ?_
      exact zM [tt,tt,tt,tt] (tJ9_37 Ad W s o x1 x2 (if x1 = (1:Int32) then (1:Int32) else (if x1 = (3:Int32) then (1:Int32) else (0:Int32))) h)
   rcases em (x1 = (1:Int32)) with hc44 | hc44
   ·refine zT Ad W (t := 21) (f := 16) rfl (XT.ii_eq_t hc44) ?_
    refine zS Ad W 2 (st' := (26, [vR 1, vI x1, vI x2, none], [.int (1:Int32)], (H0 s o))) rfl ?_
    exact zM [tt,tt,tt,ff] (K43 _ (if_pos hc44).symm)
   ·refine zF Ad W (t := 21) (f := 16) rfl (XT.ii_eq_f hc44) ?_
    refine zS Ad W 2 (st' := (18, [vR 1, vI x1, vI x2, none], [.int (3:Int32), .int x1], (H0 s o))) rfl ?_
    rcases em (x1 = (3:Int32)) with hc45 | hc45
    ·refine zF Ad W (t := 25) (f := 21) rfl (XT.ii_ne_f hc45) ?_
     refine zS Ad W 2 (st' := (26, [vR 1, vI x1, vI x2, none], [.int (1:Int32)], (H0 s o))) rfl ?_
     exact zM [tt,tt,tt,ff] (K43 _ ((if_neg hc44).trans (if_pos hc45)).symm)
    ·refine zT Ad W (t := 25) (f := 21) rfl (XT.ii_ne_t hc45) ?_
     refine zS Ad W 1 (st' := (26, [vR 1, vI x1, vI x2, none], [.int (0:Int32)], (H0 s o))) rfl ?_
     exact zM [tt,tt,tt,ff] (K43 _ ((if_neg hc44).trans (if_neg hc45)).symm)
def H0x21 (s : List Int32) (o0 : Ob) (a0_15 : Int32) : QHeap := H0v s (f_part o0) (f_keys o0) (f_vals o0) (f_flg o0) (f_res o0) (f_resNull o0) (f_frameCnt o0) (f_sorted o0) (f_cap o0) (f_rows o0) (f_direction o0) (f_nulls o0) (f_mode o0) (f_startKind o0) (f_startOff o0) a0_15 (f_endOff o0) (f_fn o0) (f_fnArg o0) (f_computed o0) (f_sortedLen o0) (f_curPos o0) (f_aggSum o0) (f_aggCount o0) (f_aggRows o0) (f_aggMin o0) (f_aggMax o0)
def H0x22 (s : List Int32) (o0 : Ob) (a0_15 : Int32) (a0_16 : Int32) : QHeap := H0v s (f_part o0) (f_keys o0) (f_vals o0) (f_flg o0) (f_res o0) (f_resNull o0) (f_frameCnt o0) (f_sorted o0) (f_cap o0) (f_rows o0) (f_direction o0) (f_nulls o0) (f_mode o0) (f_startKind o0) (f_startOff o0) a0_15 a0_16 (f_fn o0) (f_fnArg o0) (f_computed o0) (f_sortedLen o0) (f_curPos o0) (f_aggSum o0) (f_aggCount o0) (f_aggRows o0) (f_aggMin o0) (f_aggMax o0)
def H0x23 (s : List Int32) (o0 : Ob) (a0_15 : Int32) (a0_16 : Int32) (a0_19 : Int32) : QHeap := H0v s (f_part o0) (f_keys o0) (f_vals o0) (f_flg o0) (f_res o0) (f_resNull o0) (f_frameCnt o0) (f_sorted o0) (f_cap o0) (f_rows o0) (f_direction o0) (f_nulls o0) (f_mode o0) (f_startKind o0) (f_startOff o0) a0_15 a0_16 (f_fn o0) (f_fnArg o0) a0_19 (f_sortedLen o0) (f_curPos o0) (f_aggSum o0) (f_aggCount o0) (f_aggRows o0) (f_aggMin o0) (f_aggMax o0)
def J10_38 (o : Ob) (x1 : Int32) (x2 : Int32) (x3 : Int32) : Option (Int32 × Ob) :=
  some ((1 : Int32), (s_computed (s_endOff (s_endKind o x1) (if x3 = (0 : Int32) then (0 : Int32) else x2)) (0 : Int32)))
theorem tJ10_38 (Ad : QAd n0 ad) (W : QW Z a0) (s : List Int32) (o : Ob) (x1 : Int32) (x2 : Int32) (x3 : Int32) {r : Int32 × Ob} (h : J10_38 o x1 x2 x3 = some r) : QTri l Z n0 ad 10 (38, [vR 1, vI x1, vI x2, vI x3], [], (H0 s o)) (some (Value.int r.1)) (H0 s r.2) := by
 unfold J10_38 at h
 refine zS Ad W 3 (st' := (43, [vR 1, vI x1, vI x2, vI x3], [], (H0x21 s o x1))) rfl ?_
 refine zS Ad W 2 (st' := (45, [vR 1, vI x1, vI x2, vI x3], [.int x3, .ref 1], (H0x21 s o x1))) rfl ?_
 have K63 : ∀ z62 : Int32, z62 = (if x3 = (0:Int32) then (0:Int32) else x2) → QTri l Z n0 ad 10 (53, [vR 1, none, none, none], [.int z62, .ref 1], (H0x21 s o x1)) (some (Value.int r.1)) (H0 s r.2) := by
  intro z62 ez62
  subst ez62
  refine zS Ad W 1 (st' := (56, [vR 1, none, none, none], [], (H0x22 s o x1 (if x3 = (0:Int32) then (0:Int32) else x2)))) rfl ?_
  refine zS Ad W 3 (st' := (61, [vR 1, none, none, none], [], (H0x23 s o x1 (if x3 = (0:Int32) then (0:Int32) else x2) (0:Int32)))) rfl ?_
  refine zS Ad W 1 (st' := (62, [vR 1, none, none, none], [.int (1:Int32)], (H0x23 s o x1 (if x3 = (0:Int32) then (0:Int32) else x2) (0:Int32)))) rfl ?_
  have E65 : ((H0x23 s o x1 (if x3 = (0:Int32) then (0:Int32) else x2) (0:Int32)) : QHeap) = (H0 s (s_computed (s_endOff (s_endKind o x1) (if x3 = (0:Int32) then (0:Int32) else x2)) (0:Int32))) := by simp only [fs, H0, H0v, H0x23, s_endKind, s_endOff, s_computed]
  rw [E65]
  obtain rfl := Option.some.inj h
  exact QTri.retZ rfl rfl
 rcases em (x3 = (0:Int32)) with hc64 | hc64
 ·refine zT Ad W (t := 52) (f := 48) rfl (XT.i0_eq_t hc64) ?_
  refine zS Ad W 1 (st' := (53, [vR 1, vI x1, vI x2, vI x3], [.int (0:Int32), .ref 1], (H0x21 s o x1))) rfl ?_
  exact zM [tt,ff,ff,ff] (K63 _ (if_pos hc64).symm)
 ·refine zF Ad W (t := 52) (f := 48) rfl (XT.i0_eq_f hc64) ?_
  refine zS Ad W 2 (st' := (53, [vR 1, vI x1, vI x2, vI x3], [.int x2, .ref 1], (H0x21 s o x1))) rfl ?_
  exact zM [tt,ff,ff,ff] (K63 _ (if_neg hc64).symm)
/-- setFrameEnd(II)Z -/
def F10 (o : Ob) (x1 : Int32) (x2 : Int32) : Option (Int32 × Ob) :=
 (if x1 < (1:Int32) then some ((0:Int32), o) else (if (4:Int32) < x1 then some ((0:Int32), o) else (if (if x1 = (1:Int32) then (1:Int32) else (if x1 = (3:Int32) then (1:Int32) else (0:Int32))) = (0:Int32) then (J10_38 o x1 x2 (if x1 = (1:Int32) then (1:Int32) else (if x1 = (3:Int32) then (1:Int32) else (0:Int32)))) else (if x2 < (0:Int32) then some ((0:Int32), o) else (J10_38 o x1 x2 (if x1 = (1:Int32) then (1:Int32) else (if x1 = (3:Int32) then (1:Int32) else (0:Int32))))))))
theorem tF10 (Ad : QAd n0 ad) (W : QW Z a0) (s : List Int32) (o : Ob) (x1 : Int32) (x2 : Int32) {r : Int32 × Ob} (h : F10 o x1 x2 = some r) : QTri l Z n0 ad 10 (0, qentry [.ref 1, .int x1, .int x2] (pMaxL 10), [], (H0 s o)) (some (Value.int r.1)) (H0 s r.2) := by
 unfold F10 at h
 refine zS Ad W 2 (st' := (2, [vR 1, vI x1, vI x2, none], [.int (1:Int32), .int x1], (H0 s o))) rfl ?_
 rcases qite h with ⟨hc55, h⟩ | ⟨hc55, h⟩
 ·refine zT Ad W (t := 10) (f := 5) rfl (XT.ii_lt_t hc55) ?_
  refine zS Ad W 1 (st' := (11, [vR 1, vI x1, vI x2, none], [.int (0:Int32)], (H0 s o))) rfl ?_
  obtain rfl := Option.some.inj h
  exact QTri.retZ rfl rfl
 ·refine zF Ad W (t := 10) (f := 5) rfl (XT.ii_lt_f hc55) ?_
  refine zS Ad W 2 (st' := (7, [vR 1, vI x1, vI x2, none], [.int (4:Int32), .int x1], (H0 s o))) rfl ?_
  rcases qite h with ⟨hc56, h⟩ | ⟨hc56, h⟩
  ·refine zF Ad W (t := 12) (f := 10) rfl (XT.ii_le_f hc56) ?_
   refine zS Ad W 1 (st' := (11, [vR 1, vI x1, vI x2, none], [.int (0:Int32)], (H0 s o))) rfl ?_
   obtain rfl := Option.some.inj h
   exact QTri.retZ rfl rfl
  ·refine zT Ad W (t := 12) (f := 10) rfl (XT.ii_le_t hc56) ?_
   refine zS Ad W 2 (st' := (14, [vR 1, vI x1, vI x2, none], [.int (1:Int32), .int x1], (H0 s o))) rfl ?_
   have K58 : ∀ z57 : Int32, z57 = (if x1 = (1:Int32) then (1:Int32) else (if x1 = (3:Int32) then (1:Int32) else (0:Int32))) → QTri l Z n0 ad 10 (27, [vR 1, vI x1, vI x2, none], [.int z57], (H0 s o)) (some (Value.int r.1)) (H0 s r.2) := by
    intro z57 ez57
    subst ez57
    refine zS Ad W 2 (st' := (29, [vR 1, vI x1, vI x2, vI (if x1 = (1:Int32) then (1:Int32) else (if x1 = (3:Int32) then (1:Int32) else (0:Int32)))], [.int (if x1 = (1:Int32) then (1:Int32) else (if x1 = (3:Int32) then (1:Int32) else (0:Int32)))], (H0 s o))) rfl ?_
    rcases qite h with ⟨hc61, h⟩ | ⟨hc61, h⟩
    ·refine zT Ad W (t := 38) (f := 32) rfl (XT.i0_eq_t hc61) ?_
     exact zM [tt,tt,tt,tt] (tJ10_38 Ad W s o x1 x2 (if x1 = (1:Int32) then (1:Int32) else (if x1 = (3:Int32) then (1:Int32) else (0:Int32))) h)
    ·refine zF Ad W (t := 38) (f := 32) rfl (XT.i0_eq_f hc61) ?_
     refine zS Ad W 1 (st' := (33, [vR 1, vI x1, vI x2, vI (if x1 = (1:Int32) then (1:Int32) else (if x1 = (3:Int32) then (1:Int32) else (0:Int32)))], [.int x2], (H0 s o))) rfl ?_
     rcases qite h with ⟨hc66, h⟩ | ⟨hc66, h⟩
     ·refine zF Ad W (t := 38) (f := 36) rfl (XT.i0_ge_f hc66) ?_
      refine zS Ad W 1 (st' := (37, [vR 1, vI x1, vI x2, vI (if x1 = (1:Int32) then (1:Int32) else (if x1 = (3:Int32) then (1:Int32) else (0:Int32)))], [.int (0:Int32)], (H0 s o))) rfl ?_
      obtain rfl := Option.some.inj h
      exact QTri.retZ rfl rfl
     ·refine zT Ad W (t := 38) (f := 36) rfl (XT.i0_ge_t hc66) ?_
      exact zM [tt,tt,tt,tt] (tJ10_38 Ad W s o x1 x2 (if x1 = (1:Int32) then (1:Int32) else (if x1 = (3:Int32) then (1:Int32) else (0:Int32))) h)
   rcases em (x1 = (1:Int32)) with hc59 | hc59
   ·refine zT Ad W (t := 22) (f := 17) rfl (XT.ii_eq_t hc59) ?_
    refine zS Ad W 2 (st' := (27, [vR 1, vI x1, vI x2, none], [.int (1:Int32)], (H0 s o))) rfl ?_
    exact zM [tt,tt,tt,ff] (K58 _ (if_pos hc59).symm)
   ·refine zF Ad W (t := 22) (f := 17) rfl (XT.ii_eq_f hc59) ?_
    refine zS Ad W 2 (st' := (19, [vR 1, vI x1, vI x2, none], [.int (3:Int32), .int x1], (H0 s o))) rfl ?_
    rcases em (x1 = (3:Int32)) with hc60 | hc60
    ·refine zF Ad W (t := 26) (f := 22) rfl (XT.ii_ne_f hc60) ?_
     refine zS Ad W 2 (st' := (27, [vR 1, vI x1, vI x2, none], [.int (1:Int32)], (H0 s o))) rfl ?_
     exact zM [tt,tt,tt,ff] (K58 _ ((if_neg hc59).trans (if_pos hc60)).symm)
    ·refine zT Ad W (t := 26) (f := 22) rfl (XT.ii_ne_t hc60) ?_
     refine zS Ad W 1 (st' := (27, [vR 1, vI x1, vI x2, none], [.int (0:Int32)], (H0 s o))) rfl ?_
     exact zM [tt,tt,tt,ff] (K58 _ ((if_neg hc59).trans (if_neg hc60)).symm)
def H0x24 (s : List Int32) (o0 : Ob) (a0_17 : Int32) : QHeap := H0v s (f_part o0) (f_keys o0) (f_vals o0) (f_flg o0) (f_res o0) (f_resNull o0) (f_frameCnt o0) (f_sorted o0) (f_cap o0) (f_rows o0) (f_direction o0) (f_nulls o0) (f_mode o0) (f_startKind o0) (f_startOff o0) (f_endKind o0) (f_endOff o0) a0_17 (f_fnArg o0) (f_computed o0) (f_sortedLen o0) (f_curPos o0) (f_aggSum o0) (f_aggCount o0) (f_aggRows o0) (f_aggMin o0) (f_aggMax o0)
def H0x25 (s : List Int32) (o0 : Ob) (a0_17 : Int32) (a0_18 : Int32) : QHeap := H0v s (f_part o0) (f_keys o0) (f_vals o0) (f_flg o0) (f_res o0) (f_resNull o0) (f_frameCnt o0) (f_sorted o0) (f_cap o0) (f_rows o0) (f_direction o0) (f_nulls o0) (f_mode o0) (f_startKind o0) (f_startOff o0) (f_endKind o0) (f_endOff o0) a0_17 a0_18 (f_computed o0) (f_sortedLen o0) (f_curPos o0) (f_aggSum o0) (f_aggCount o0) (f_aggRows o0) (f_aggMin o0) (f_aggMax o0)
def H0x26 (s : List Int32) (o0 : Ob) (a0_17 : Int32) (a0_18 : Int32) (a0_19 : Int32) : QHeap := H0v s (f_part o0) (f_keys o0) (f_vals o0) (f_flg o0) (f_res o0) (f_resNull o0) (f_frameCnt o0) (f_sorted o0) (f_cap o0) (f_rows o0) (f_direction o0) (f_nulls o0) (f_mode o0) (f_startKind o0) (f_startOff o0) (f_endKind o0) (f_endOff o0) a0_17 a0_18 a0_19 (f_sortedLen o0) (f_curPos o0) (f_aggSum o0) (f_aggCount o0) (f_aggRows o0) (f_aggMin o0) (f_aggMax o0)
def J4_40 (o : Ob) (x1 : Int32) (x2 : Int32) (x3 : Int32) : Option (Int32 × Ob) :=
  some ((1 : Int32), (s_computed (s_fnArg (s_fn o x1) (if x3 = (0 : Int32) then (0 : Int32) else x2)) (0 : Int32)))
theorem tJ4_40 (Ad : QAd n0 ad) (W : QW Z a0) (s : List Int32) (o : Ob) (x1 : Int32) (x2 : Int32) (x3 : Int32) {r : Int32 × Ob} (h : J4_40 o x1 x2 x3 = some r) : QTri l Z n0 ad 4 (40, [vR 1, vI x1, vI x2, vI x3], [], (H0 s o)) (some (Value.int r.1)) (H0 s r.2) := by
 unfold J4_40 at h
 refine zS Ad W 3 (st' := (45, [vR 1, vI x1, vI x2, vI x3], [], (H0x24 s o x1))) rfl ?_
 refine zS Ad W 2 (st' := (47, [vR 1, vI x1, vI x2, vI x3], [.int x3, .ref 1], (H0x24 s o x1))) rfl ?_
 have K78 : ∀ z77 : Int32, z77 = (if x3 = (0:Int32) then (0:Int32) else x2) → QTri l Z n0 ad 4 (55, [vR 1, none, none, none], [.int z77, .ref 1], (H0x24 s o x1)) (some (Value.int r.1)) (H0 s r.2) := by
  intro z77 ez77
  subst ez77
  refine zS Ad W 1 (st' := (58, [vR 1, none, none, none], [], (H0x25 s o x1 (if x3 = (0:Int32) then (0:Int32) else x2)))) rfl ?_
  refine zS Ad W 3 (st' := (63, [vR 1, none, none, none], [], (H0x26 s o x1 (if x3 = (0:Int32) then (0:Int32) else x2) (0:Int32)))) rfl ?_
  refine zS Ad W 1 (st' := (64, [vR 1, none, none, none], [.int (1:Int32)], (H0x26 s o x1 (if x3 = (0:Int32) then (0:Int32) else x2) (0:Int32)))) rfl ?_
  have E80 : ((H0x26 s o x1 (if x3 = (0:Int32) then (0:Int32) else x2) (0:Int32)) : QHeap) = (H0 s (s_computed (s_fnArg (s_fn o x1) (if x3 = (0:Int32) then (0:Int32) else x2)) (0:Int32))) := by simp only [fs, H0, H0v, H0x26, s_fn, s_fnArg, s_computed]
  rw [E80]
  obtain rfl := Option.some.inj h
  exact QTri.retZ rfl rfl
 rcases em (x3 = (0:Int32)) with hc79 | hc79
 ·refine zT Ad W (t := 54) (f := 50) rfl (XT.i0_eq_t hc79) ?_
  refine zS Ad W 1 (st' := (55, [vR 1, vI x1, vI x2, vI x3], [.int (0:Int32), .ref 1], (H0x24 s o x1))) rfl ?_
  exact zM [tt,ff,ff,ff] (K78 _ (if_pos hc79).symm)
 ·refine zF Ad W (t := 54) (f := 50) rfl (XT.i0_eq_f hc79) ?_
  refine zS Ad W 2 (st' := (55, [vR 1, vI x1, vI x2, vI x3], [.int x2, .ref 1], (H0x24 s o x1))) rfl ?_
  exact zM [tt,ff,ff,ff] (K78 _ (if_neg hc79).symm)
/-- setFunction(II)Z -/
def F4 (o : Ob) (x1 : Int32) (x2 : Int32) : Option (Int32 × Ob) :=
 (if x1 < (0:Int32) then some ((0:Int32), o) else (if (9:Int32) < x1 then some ((0:Int32), o) else (if (if x1 = (8:Int32) then (1:Int32) else (if x1 = (9:Int32) then (1:Int32) else (0:Int32))) = (0:Int32) then (J4_40 o x1 x2 (if x1 = (8:Int32) then (1:Int32) else (if x1 = (9:Int32) then (1:Int32) else (0:Int32)))) else (if x2 < (0:Int32) then some ((0:Int32), o) else (J4_40 o x1 x2 (if x1 = (8:Int32) then (1:Int32) else (if x1 = (9:Int32) then (1:Int32) else (0:Int32))))))))
theorem tF4 (Ad : QAd n0 ad) (W : QW Z a0) (s : List Int32) (o : Ob) (x1 : Int32) (x2 : Int32) {r : Int32 × Ob} (h : F4 o x1 x2 = some r) : QTri l Z n0 ad 4 (0, qentry [.ref 1, .int x1, .int x2] (pMaxL 4), [], (H0 s o)) (some (Value.int r.1)) (H0 s r.2) := by
 unfold F4 at h
 refine zS Ad W 1 (st' := (1, [vR 1, vI x1, vI x2, none], [.int x1], (H0 s o))) rfl ?_
 rcases qite h with ⟨hc70, h⟩ | ⟨hc70, h⟩
 ·refine zT Ad W (t := 10) (f := 4) rfl (XT.i0_lt_t hc70) ?_
  refine zS Ad W 1 (st' := (11, [vR 1, vI x1, vI x2, none], [.int (0:Int32)], (H0 s o))) rfl ?_
  obtain rfl := Option.some.inj h
  exact QTri.retZ rfl rfl
 ·refine zF Ad W (t := 10) (f := 4) rfl (XT.i0_lt_f hc70) ?_
  refine zS Ad W 2 (st' := (7, [vR 1, vI x1, vI x2, none], [.int (9:Int32), .int x1], (H0 s o))) rfl ?_
  rcases qite h with ⟨hc71, h⟩ | ⟨hc71, h⟩
  ·refine zF Ad W (t := 12) (f := 10) rfl (XT.ii_le_f hc71) ?_
   refine zS Ad W 1 (st' := (11, [vR 1, vI x1, vI x2, none], [.int (0:Int32)], (H0 s o))) rfl ?_
   obtain rfl := Option.some.inj h
   exact QTri.retZ rfl rfl
  ·refine zT Ad W (t := 12) (f := 10) rfl (XT.ii_le_t hc71) ?_
   refine zS Ad W 2 (st' := (15, [vR 1, vI x1, vI x2, none], [.int (8:Int32), .int x1], (H0 s o))) rfl ?_
   have K73 : ∀ z72 : Int32, z72 = (if x1 = (8:Int32) then (1:Int32) else (if x1 = (9:Int32) then (1:Int32) else (0:Int32))) → QTri l Z n0 ad 4 (29, [vR 1, vI x1, vI x2, none], [.int z72], (H0 s o)) (some (Value.int r.1)) (H0 s r.2) := by
    intro z72 ez72
    subst ez72
    refine zS Ad W 2 (st' := (31, [vR 1, vI x1, vI x2, vI (if x1 = (8:Int32) then (1:Int32) else (if x1 = (9:Int32) then (1:Int32) else (0:Int32)))], [.int (if x1 = (8:Int32) then (1:Int32) else (if x1 = (9:Int32) then (1:Int32) else (0:Int32)))], (H0 s o))) rfl ?_
    rcases qite h with ⟨hc76, h⟩ | ⟨hc76, h⟩
    ·refine zT Ad W (t := 40) (f := 34) rfl (XT.i0_eq_t hc76) ?_
     exact zM [tt,tt,tt,tt] (tJ4_40 Ad W s o x1 x2 (if x1 = (8:Int32) then (1:Int32) else (if x1 = (9:Int32) then (1:Int32) else (0:Int32))) h)
    ·refine zF Ad W (t := 40) (f := 34) rfl (XT.i0_eq_f hc76) ?_
     refine zS Ad W 1 (st' := (35, [vR 1, vI x1, vI x2, vI (if x1 = (8:Int32) then (1:Int32) else (if x1 = (9:Int32) then (1:Int32) else (0:Int32)))], [.int x2], (H0 s o))) rfl ?_
     rcases qite h with ⟨hc81, h⟩ | ⟨hc81, h⟩
     ·refine zF Ad W (t := 40) (f := 38) rfl (XT.i0_ge_f hc81) ?_
      refine zS Ad W 1 (st' := (39, [vR 1, vI x1, vI x2, vI (if x1 = (8:Int32) then (1:Int32) else (if x1 = (9:Int32) then (1:Int32) else (0:Int32)))], [.int (0:Int32)], (H0 s o))) rfl ?_
      obtain rfl := Option.some.inj h
      exact QTri.retZ rfl rfl
     ·refine zT Ad W (t := 40) (f := 38) rfl (XT.i0_ge_t hc81) ?_
      exact zM [tt,tt,tt,tt] (tJ4_40 Ad W s o x1 x2 (if x1 = (8:Int32) then (1:Int32) else (if x1 = (9:Int32) then (1:Int32) else (0:Int32))) h)
   rcases em (x1 = (8:Int32)) with hc74 | hc74
   ·refine zT Ad W (t := 24) (f := 18) rfl (XT.ii_eq_t hc74) ?_
    refine zS Ad W 2 (st' := (29, [vR 1, vI x1, vI x2, none], [.int (1:Int32)], (H0 s o))) rfl ?_
    exact zM [tt,tt,tt,ff] (K73 _ (if_pos hc74).symm)
   ·refine zF Ad W (t := 24) (f := 18) rfl (XT.ii_eq_f hc74) ?_
    refine zS Ad W 2 (st' := (21, [vR 1, vI x1, vI x2, none], [.int (9:Int32), .int x1], (H0 s o))) rfl ?_
    rcases em (x1 = (9:Int32)) with hc75 | hc75
    ·refine zF Ad W (t := 28) (f := 24) rfl (XT.ii_ne_f hc75) ?_
     refine zS Ad W 2 (st' := (29, [vR 1, vI x1, vI x2, none], [.int (1:Int32)], (H0 s o))) rfl ?_
     exact zM [tt,tt,tt,ff] (K73 _ ((if_neg hc74).trans (if_pos hc75)).symm)
    ·refine zT Ad W (t := 28) (f := 24) rfl (XT.ii_ne_t hc75) ?_
     refine zS Ad W 1 (st' := (29, [vR 1, vI x1, vI x2, none], [.int (0:Int32)], (H0 s o))) rfl ?_
     exact zM [tt,tt,tt,ff] (K73 _ ((if_neg hc74).trans (if_neg hc75)).symm)
/-- needsOrder()Z -/
def F12 (o : Ob) : Option (Int32) :=
 (if (f_mode o) = (1:Int32) then (if (f_direction o) = (0:Int32) then (if (if (f_startKind o) = (1:Int32) then (1:Int32) else (if (f_startKind o) = (3:Int32) then (1:Int32) else (0:Int32))) = (0:Int32) then (if (if (f_endKind o) = (1:Int32) then (1:Int32) else (if (f_endKind o) = (3:Int32) then (1:Int32) else (0:Int32))) = (0:Int32) then some (0:Int32) else some (1:Int32)) else some (1:Int32)) else some (0:Int32)) else some (0:Int32))
theorem tF12 (Ad : QAd n0 ad) (W : QW Z a0) (s : List Int32) (o : Ob) {r : Int32} (h : F12 o = some r) : QTri l Z n0 ad 12 (0, qentry [.ref 1] (pMaxL 12), [], (H0 s o)) (some (Value.int r)) (H0 s o) := by
 unfold F12 at h
 refine zS Ad W 3 (st' := (5, [vR 1, none, none], [.int (1:Int32), .int (f_mode o)], (H0 s o))) rfl ?_
 rcases qite h with ⟨hc83, h⟩ | ⟨hc83, h⟩
 ·refine zF Ad W (t := 15) (f := 8) rfl (XT.ii_ne_f hc83) ?_
  refine zS Ad W 2 (st' := (12, [vR 1, none, none], [.int (f_direction o)], (H0 s o))) rfl ?_
  rcases qite h with ⟨hc84, h⟩ | ⟨hc84, h⟩
  ·refine zT Ad W (t := 17) (f := 15) rfl (XT.i0_eq_t hc84) ?_
   refine zS Ad W 3 (st' := (22, [vR 1, none, none], [.int (1:Int32), .int (f_startKind o)], (H0 s o))) rfl ?_
   have K86 : ∀ z85 : Int32, z85 = (if (f_startKind o) = (1:Int32) then (1:Int32) else (if (f_startKind o) = (3:Int32) then (1:Int32) else (0:Int32))) → QTri l Z n0 ad 12 (38, [vR 1, none, none], [.int z85], (H0 s o)) (some (Value.int r)) (H0 s o) := by
    intro z85 ez85
    subst ez85
    refine zS Ad W 4 (st' := (44, [vR 1, vI (if (f_startKind o) = (1:Int32) then (1:Int32) else (if (f_startKind o) = (3:Int32) then (1:Int32) else (0:Int32))), none], [.int (1:Int32), .int (f_endKind o)], (H0 s o))) rfl ?_
    have K90 : ∀ z89 : Int32, z89 = (if (f_endKind o) = (1:Int32) then (1:Int32) else (if (f_endKind o) = (3:Int32) then (1:Int32) else (0:Int32))) → QTri l Z n0 ad 12 (60, [none, vI (if (f_startKind o) = (1:Int32) then (1:Int32) else (if (f_startKind o) = (3:Int32) then (1:Int32) else (0:Int32))), none], [.int z89], (H0 s o)) (some (Value.int r)) (H0 s o) := by
     intro z89 ez89
     subst ez89
     refine zS Ad W 2 (st' := (62, [none, vI (if (f_startKind o) = (1:Int32) then (1:Int32) else (if (f_startKind o) = (3:Int32) then (1:Int32) else (0:Int32))), vI (if (f_endKind o) = (1:Int32) then (1:Int32) else (if (f_endKind o) = (3:Int32) then (1:Int32) else (0:Int32)))], [.int (if (f_startKind o) = (1:Int32) then (1:Int32) else (if (f_startKind o) = (3:Int32) then (1:Int32) else (0:Int32)))], (H0 s o))) rfl ?_
     rcases qite h with ⟨hc93, h⟩ | ⟨hc93, h⟩
     ·refine zF Ad W (t := 69) (f := 65) rfl (XT.i0_ne_f hc93) ?_
      refine zS Ad W 1 (st' := (66, [none, vI (if (f_startKind o) = (1:Int32) then (1:Int32) else (if (f_startKind o) = (3:Int32) then (1:Int32) else (0:Int32))), vI (if (f_endKind o) = (1:Int32) then (1:Int32) else (if (f_endKind o) = (3:Int32) then (1:Int32) else (0:Int32)))], [.int (if (f_endKind o) = (1:Int32) then (1:Int32) else (if (f_endKind o) = (3:Int32) then (1:Int32) else (0:Int32)))], (H0 s o))) rfl ?_
      rcases qite h with ⟨hc94, h⟩ | ⟨hc94, h⟩
      ·refine zT Ad W (t := 73) (f := 69) rfl (XT.i0_eq_t hc94) ?_
       refine zS Ad W 1 (st' := (74, [none, vI (if (f_startKind o) = (1:Int32) then (1:Int32) else (if (f_startKind o) = (3:Int32) then (1:Int32) else (0:Int32))), vI (if (f_endKind o) = (1:Int32) then (1:Int32) else (if (f_endKind o) = (3:Int32) then (1:Int32) else (0:Int32)))], [.int (0:Int32)], (H0 s o))) rfl ?_
       obtain rfl := Option.some.inj h
       exact QTri.retZ rfl rfl
      ·refine zF Ad W (t := 73) (f := 69) rfl (XT.i0_eq_f hc94) ?_
       refine zS Ad W 2 (st' := (74, [none, vI (if (f_startKind o) = (1:Int32) then (1:Int32) else (if (f_startKind o) = (3:Int32) then (1:Int32) else (0:Int32))), vI (if (f_endKind o) = (1:Int32) then (1:Int32) else (if (f_endKind o) = (3:Int32) then (1:Int32) else (0:Int32)))], [.int (1:Int32)], (H0 s o))) rfl ?_
       obtain rfl := Option.some.inj h
       exact QTri.retZ rfl rfl
     ·refine zT Ad W (t := 69) (f := 65) rfl (XT.i0_ne_t hc93) ?_
      refine zS Ad W 2 (st' := (74, [none, vI (if (f_startKind o) = (1:Int32) then (1:Int32) else (if (f_startKind o) = (3:Int32) then (1:Int32) else (0:Int32))), vI (if (f_endKind o) = (1:Int32) then (1:Int32) else (if (f_endKind o) = (3:Int32) then (1:Int32) else (0:Int32)))], [.int (1:Int32)], (H0 s o))) rfl ?_
      obtain rfl := Option.some.inj h
      exact QTri.retZ rfl rfl
    rcases em ((f_endKind o) = (1:Int32)) with hc91 | hc91
    ·refine zT Ad W (t := 55) (f := 47) rfl (XT.ii_eq_t hc91) ?_
     refine zS Ad W 2 (st' := (60, [vR 1, vI (if (f_startKind o) = (1:Int32) then (1:Int32) else (if (f_startKind o) = (3:Int32) then (1:Int32) else (0:Int32))), none], [.int (1:Int32)], (H0 s o))) rfl ?_
     exact zM [ff,tt,ff] (K90 _ (if_pos hc91).symm)
    ·refine zF Ad W (t := 55) (f := 47) rfl (XT.ii_eq_f hc91) ?_
     refine zS Ad W 3 (st' := (52, [vR 1, vI (if (f_startKind o) = (1:Int32) then (1:Int32) else (if (f_startKind o) = (3:Int32) then (1:Int32) else (0:Int32))), none], [.int (3:Int32), .int (f_endKind o)], (H0 s o))) rfl ?_
     rcases em ((f_endKind o) = (3:Int32)) with hc92 | hc92
     ·refine zF Ad W (t := 59) (f := 55) rfl (XT.ii_ne_f hc92) ?_
      refine zS Ad W 2 (st' := (60, [vR 1, vI (if (f_startKind o) = (1:Int32) then (1:Int32) else (if (f_startKind o) = (3:Int32) then (1:Int32) else (0:Int32))), none], [.int (1:Int32)], (H0 s o))) rfl ?_
      exact zM [ff,tt,ff] (K90 _ ((if_neg hc91).trans (if_pos hc92)).symm)
     ·refine zT Ad W (t := 59) (f := 55) rfl (XT.ii_ne_t hc92) ?_
      refine zS Ad W 1 (st' := (60, [vR 1, vI (if (f_startKind o) = (1:Int32) then (1:Int32) else (if (f_startKind o) = (3:Int32) then (1:Int32) else (0:Int32))), none], [.int (0:Int32)], (H0 s o))) rfl ?_
      exact zM [ff,tt,ff] (K90 _ ((if_neg hc91).trans (if_neg hc92)).symm)
   rcases em ((f_startKind o) = (1:Int32)) with hc87 | hc87
   ·refine zT Ad W (t := 33) (f := 25) rfl (XT.ii_eq_t hc87) ?_
    refine zS Ad W 2 (st' := (38, [vR 1, none, none], [.int (1:Int32)], (H0 s o))) rfl ?_
    exact zM [tt,ff,ff] (K86 _ (if_pos hc87).symm)
   ·refine zF Ad W (t := 33) (f := 25) rfl (XT.ii_eq_f hc87) ?_
    refine zS Ad W 3 (st' := (30, [vR 1, none, none], [.int (3:Int32), .int (f_startKind o)], (H0 s o))) rfl ?_
    rcases em ((f_startKind o) = (3:Int32)) with hc88 | hc88
    ·refine zF Ad W (t := 37) (f := 33) rfl (XT.ii_ne_f hc88) ?_
     refine zS Ad W 2 (st' := (38, [vR 1, none, none], [.int (1:Int32)], (H0 s o))) rfl ?_
     exact zM [tt,ff,ff] (K86 _ ((if_neg hc87).trans (if_pos hc88)).symm)
    ·refine zT Ad W (t := 37) (f := 33) rfl (XT.ii_ne_t hc88) ?_
     refine zS Ad W 1 (st' := (38, [vR 1, none, none], [.int (0:Int32)], (H0 s o))) rfl ?_
     exact zM [tt,ff,ff] (K86 _ ((if_neg hc87).trans (if_neg hc88)).symm)
  ·refine zF Ad W (t := 17) (f := 15) rfl (XT.i0_eq_f hc84) ?_
   refine zS Ad W 1 (st' := (16, [vR 1, none, none], [.int (0:Int32)], (H0 s o))) rfl ?_
   obtain rfl := Option.some.inj h
   exact QTri.retZ rfl rfl
 ·refine zT Ad W (t := 15) (f := 8) rfl (XT.ii_ne_t hc83) ?_
  refine zS Ad W 1 (st' := (16, [vR 1, none, none], [.int (0:Int32)], (H0 s o))) rfl ?_
  obtain rfl := Option.some.inj h
  exact QTri.retZ rfl rfl
/-- keyNull(I)Z -/
def F16 (o : Ob) (x1 : Int32) : Option (Int32) :=
 (aget (f_flg o) x1).bind fun y106 => (if (y106 &&& (1:Int32)) = (0:Int32) then some (0:Int32) else some (1:Int32))
theorem tF16 (Ad : QAd n0 ad) (W : QW Z a0) (s : List Int32) (o : Ob) (x1 : Int32) {r : Int32} (h : F16 o x1 = some r) : QTri l Z n0 ad 16 (0, qentry [.ref 1, .int x1] (pMaxL 16), [], (H0 s o)) (some (Value.int r)) (H0 s o) := by
 unfold F16 at h
 refine zS Ad W 3 (st' := (5, [vR 1, vI x1], [.int x1, .ref 5], (H0 s o))) rfl ?_
 obtain ⟨y106, hy106, h⟩ := bind_eq_some_iff.mp h
 refine zB Ad W (f := fun y106 => (6, [vR 1, vI x1], [.int y106], (H0 s o))) rfl hy106 ?_
 refine zS Ad W 2 (st' := (8, [vR 1, vI x1], [.int (y106 &&& (1:Int32))], (H0 s o))) rfl ?_
 rcases qite h with ⟨hc107, h⟩ | ⟨hc107, h⟩
 ·refine zT Ad W (t := 15) (f := 11) rfl (XT.i0_eq_t hc107) ?_
  refine zS Ad W 1 (st' := (16, [vR 1, vI x1], [.int (0:Int32)], (H0 s o))) rfl ?_
  obtain rfl := Option.some.inj h
  exact QTri.retZ rfl rfl
 ·refine zF Ad W (t := 15) (f := 11) rfl (XT.i0_eq_f hc107) ?_
  refine zS Ad W 2 (st' := (16, [vR 1, vI x1], [.int (1:Int32)], (H0 s o))) rfl ?_
  obtain rfl := Option.some.inj h
  exact QTri.retZ rfl rfl
def J15_51 (o : Ob) (x1 : Int32) (x2 : Int32) (x3 : Int32) (x4 : Int32) : Option (Int32) :=
  (if x3 = (0 : Int32) then (if x4 = (0 : Int32) then (aget (f_keys o) x1).bind fun y113 => (aget (f_keys o) x2).bind fun y114 => (if y113 = y114 then (if x1 < x2 then some (1 : Int32) else some (0 : Int32)) else (if (f_direction o) = (1 : Int32) then (aget (f_keys o) x1).bind fun y118 => (aget (f_keys o) x2).bind fun y119 => (if y118 < y119 then some (1 : Int32) else some (0 : Int32)) else (aget (f_keys o) x1).bind fun y121 => (aget (f_keys o) x2).bind fun y122 => (if y122 < y121 then some (1 : Int32) else some (0 : Int32)))) else (if (f_nulls o) = (1 : Int32) then some (1 : Int32) else some (0 : Int32))) else (if (f_nulls o) = (0 : Int32) then some (1 : Int32) else some (0 : Int32)))
theorem tJ15_51 (Ad : QAd n0 ad) (W : QW Z a0) (s : List Int32) (o : Ob) (x1 : Int32) (x2 : Int32) (x3 : Int32) (x4 : Int32) {r : Int32} (h : J15_51 o x1 x2 x3 x4 = some r) : QTri l Z n0 ad 15 (51, [vR 1, vI x1, vI x2, vI x3, vI x4], [], (H0 s o)) (some (Value.int r)) (H0 s o) := by
 unfold J15_51 at h
 refine zS Ad W 1 (st' := (52, [vR 1, vI x1, vI x2, vI x3, vI x4], [.int x3], (H0 s o))) rfl ?_
 rcases qite h with ⟨hc111, h⟩ | ⟨hc111, h⟩
 ·refine zT Ad W (t := 68) (f := 55) rfl (XT.i0_eq_t hc111) ?_
  refine zS Ad W 1 (st' := (70, [vR 1, vI x1, vI x2, vI x3, vI x4], [.int x4], (H0 s o))) rfl ?_
  rcases qite h with ⟨hc112, h⟩ | ⟨hc112, h⟩
  ·refine zT Ad W (t := 87) (f := 73) rfl (XT.i0_eq_t hc112) ?_
   refine zS Ad W 3 (st' := (92, [vR 1, vI x1, vI x2, vI x3, vI x4], [.int x1, .ref 3], (H0 s o))) rfl ?_
   obtain ⟨y113, hy113, h⟩ := bind_eq_some_iff.mp h
   refine zB Ad W (f := fun y113 => (93, [vR 1, vI x1, vI x2, vI x3, vI x4], [.int y113], (H0 s o))) rfl hy113 ?_
   refine zS Ad W 3 (st' := (98, [vR 1, vI x1, vI x2, vI x3, vI x4], [.int x2, .ref 3, .int y113], (H0 s o))) rfl ?_
   obtain ⟨y114, hy114, h⟩ := bind_eq_some_iff.mp h
   refine zB Ad W (f := fun y114 => (99, [vR 1, vI x1, vI x2, vI x3, vI x4], [.int y114, .int y113], (H0 s o))) rfl hy114 ?_
   rcases qite h with ⟨hc115, h⟩ | ⟨hc115, h⟩
   ·refine zF Ad W (t := 113) (f := 102) rfl (XT.ii_ne_f hc115) ?_
    refine zS Ad W 2 (st' := (104, [vR 1, vI x1, vI x2, vI x3, vI x4], [.int x2, .int x1], (H0 s o))) rfl ?_
    rcases qite h with ⟨hc116, h⟩ | ⟨hc116, h⟩
    ·refine zF Ad W (t := 111) (f := 107) rfl (XT.ii_ge_f hc116) ?_
     refine zS Ad W 2 (st' := (112, [vR 1, vI x1, vI x2, vI x3, vI x4], [.int (1:Int32)], (H0 s o))) rfl ?_
     obtain rfl := Option.some.inj h
     exact QTri.retZ rfl rfl
    ·refine zT Ad W (t := 111) (f := 107) rfl (XT.ii_ge_t hc116) ?_
     refine zS Ad W 1 (st' := (112, [vR 1, vI x1, vI x2, vI x3, vI x4], [.int (0:Int32)], (H0 s o))) rfl ?_
     obtain rfl := Option.some.inj h
     exact QTri.retZ rfl rfl
   ·refine zT Ad W (t := 113) (f := 102) rfl (XT.ii_ne_t hc115) ?_
    refine zS Ad W 3 (st' := (118, [vR 1, vI x1, vI x2, vI x3, vI x4], [.int (1:Int32), .int (f_direction o)], (H0 s o))) rfl ?_
    rcases qite h with ⟨hc117, h⟩ | ⟨hc117, h⟩
    ·refine zF Ad W (t := 142) (f := 121) rfl (XT.ii_ne_f hc117) ?_
     refine zS Ad W 3 (st' := (126, [vR 1, vI x1, vI x2, vI x3, vI x4], [.int x1, .ref 3], (H0 s o))) rfl ?_
     obtain ⟨y118, hy118, h⟩ := bind_eq_some_iff.mp h
     refine zB Ad W (f := fun y118 => (127, [vR 1, vI x1, vI x2, vI x3, vI x4], [.int y118], (H0 s o))) rfl hy118 ?_
     refine zS Ad W 3 (st' := (132, [vR 1, vI x1, vI x2, vI x3, vI x4], [.int x2, .ref 3, .int y118], (H0 s o))) rfl ?_
     obtain ⟨y119, hy119, h⟩ := bind_eq_some_iff.mp h
     refine zB Ad W (f := fun y119 => (133, [vR 1, vI x1, vI x2, vI x3, vI x4], [.int y119, .int y118], (H0 s o))) rfl hy119 ?_
     rcases qite h with ⟨hc120, h⟩ | ⟨hc120, h⟩
     ·refine zF Ad W (t := 140) (f := 136) rfl (XT.ii_ge_f hc120) ?_
      refine zS Ad W 2 (st' := (141, [vR 1, vI x1, vI x2, vI x3, vI x4], [.int (1:Int32)], (H0 s o))) rfl ?_
      obtain rfl := Option.some.inj h
      exact QTri.retZ rfl rfl
     ·refine zT Ad W (t := 140) (f := 136) rfl (XT.ii_ge_t hc120) ?_
      refine zS Ad W 1 (st' := (141, [vR 1, vI x1, vI x2, vI x3, vI x4], [.int (0:Int32)], (H0 s o))) rfl ?_
      obtain rfl := Option.some.inj h
      exact QTri.retZ rfl rfl
    ·refine zT Ad W (t := 142) (f := 121) rfl (XT.ii_ne_t hc117) ?_
     refine zS Ad W 3 (st' := (147, [vR 1, vI x1, vI x2, vI x3, vI x4], [.int x1, .ref 3], (H0 s o))) rfl ?_
     obtain ⟨y121, hy121, h⟩ := bind_eq_some_iff.mp h
     refine zB Ad W (f := fun y121 => (148, [vR 1, vI x1, vI x2, vI x3, vI x4], [.int y121], (H0 s o))) rfl hy121 ?_
     refine zS Ad W 3 (st' := (153, [vR 1, vI x1, vI x2, vI x3, vI x4], [.int x2, .ref 3, .int y121], (H0 s o))) rfl ?_
     obtain ⟨y122, hy122, h⟩ := bind_eq_some_iff.mp h
     refine zB Ad W (f := fun y122 => (154, [vR 1, vI x1, vI x2, vI x3, vI x4], [.int y122, .int y121], (H0 s o))) rfl hy122 ?_
     rcases qite h with ⟨hc123, h⟩ | ⟨hc123, h⟩
     ·refine zF Ad W (t := 161) (f := 157) rfl (XT.ii_le_f hc123) ?_
      refine zS Ad W 2 (st' := (162, [vR 1, vI x1, vI x2, vI x3, vI x4], [.int (1:Int32)], (H0 s o))) rfl ?_
      obtain rfl := Option.some.inj h
      exact QTri.retZ rfl rfl
     ·refine zT Ad W (t := 161) (f := 157) rfl (XT.ii_le_t hc123) ?_
      refine zS Ad W 1 (st' := (162, [vR 1, vI x1, vI x2, vI x3, vI x4], [.int (0:Int32)], (H0 s o))) rfl ?_
      obtain rfl := Option.some.inj h
      exact QTri.retZ rfl rfl
  ·refine zF Ad W (t := 87) (f := 73) rfl (XT.i0_eq_f hc112) ?_
   refine zS Ad W 3 (st' := (78, [vR 1, vI x1, vI x2, vI x3, vI x4], [.int (1:Int32), .int (f_nulls o)], (H0 s o))) rfl ?_
   rcases qite h with ⟨hc124, h⟩ | ⟨hc124, h⟩
   ·refine zF Ad W (t := 85) (f := 81) rfl (XT.ii_ne_f hc124) ?_
    refine zS Ad W 2 (st' := (86, [vR 1, vI x1, vI x2, vI x3, vI x4], [.int (1:Int32)], (H0 s o))) rfl ?_
    obtain rfl := Option.some.inj h
    exact QTri.retZ rfl rfl
   ·refine zT Ad W (t := 85) (f := 81) rfl (XT.ii_ne_t hc124) ?_
    refine zS Ad W 1 (st' := (86, [vR 1, vI x1, vI x2, vI x3, vI x4], [.int (0:Int32)], (H0 s o))) rfl ?_
    obtain rfl := Option.some.inj h
    exact QTri.retZ rfl rfl
 ·refine zF Ad W (t := 68) (f := 55) rfl (XT.i0_eq_f hc111) ?_
  refine zS Ad W 2 (st' := (59, [vR 1, vI x1, vI x2, vI x3, vI x4], [.int (f_nulls o)], (H0 s o))) rfl ?_
  rcases qite h with ⟨hc125, h⟩ | ⟨hc125, h⟩
  ·refine zF Ad W (t := 66) (f := 62) rfl (XT.i0_ne_f hc125) ?_
   refine zS Ad W 2 (st' := (67, [vR 1, vI x1, vI x2, vI x3, vI x4], [.int (1:Int32)], (H0 s o))) rfl ?_
   obtain rfl := Option.some.inj h
   exact QTri.retZ rfl rfl
  ·refine zT Ad W (t := 66) (f := 62) rfl (XT.i0_ne_t hc125) ?_
   refine zS Ad W 1 (st' := (67, [vR 1, vI x1, vI x2, vI x3, vI x4], [.int (0:Int32)], (H0 s o))) rfl ?_
   obtain rfl := Option.some.inj h
   exact QTri.retZ rfl rfl
/-- before(II)Z -/
def F15 (o : Ob) (x1 : Int32) (x2 : Int32) : Option (Int32) :=
 (if (f_direction o) = (0:Int32) then (if x1 < x2 then some (1:Int32) else some (0:Int32)) else (F16 o x1).bind fun r108 => (F16 o x2).bind fun r109 => (if r108 = (0:Int32) then (J15_51 o x1 x2 r108 r109) else (if r109 = (0:Int32) then (J15_51 o x1 x2 r108 r109) else (if x1 < x2 then some (1:Int32) else some (0:Int32)))))
theorem tF15 (Ad : QAd n0 ad) (W : QW Z a0) (s : List Int32) (o : Ob) (x1 : Int32) (x2 : Int32) {r : Int32} (h : F15 o x1 x2 = some r) : QTri l Z n0 ad 15 (0, qentry [.ref 1, .int x1, .int x2] (pMaxL 15), [], (H0 s o)) (some (Value.int r)) (H0 s o) := by
 unfold F15 at h
 refine zS Ad W 2 (st' := (4, [vR 1, vI x1, vI x2, none, none], [.int (f_direction o)], (H0 s o))) rfl ?_
 rcases qite h with ⟨hc104, h⟩ | ⟨hc104, h⟩
 ·refine zF Ad W (t := 18) (f := 7) rfl (XT.i0_ne_f hc104) ?_
  refine zS Ad W 2 (st' := (9, [vR 1, vI x1, vI x2, none, none], [.int x2, .int x1], (H0 s o))) rfl ?_
  rcases qite h with ⟨hc105, h⟩ | ⟨hc105, h⟩
  ·refine zF Ad W (t := 16) (f := 12) rfl (XT.ii_ge_f hc105) ?_
   refine zS Ad W 2 (st' := (17, [vR 1, vI x1, vI x2, none, none], [.int (1:Int32)], (H0 s o))) rfl ?_
   obtain rfl := Option.some.inj h
   exact QTri.retZ rfl rfl
  ·refine zT Ad W (t := 16) (f := 12) rfl (XT.ii_ge_t hc105) ?_
   refine zS Ad W 1 (st' := (17, [vR 1, vI x1, vI x2, none, none], [.int (0:Int32)], (H0 s o))) rfl ?_
   obtain rfl := Option.some.inj h
   exact QTri.retZ rfl rfl
 ·refine zT Ad W (t := 18) (f := 7) rfl (XT.i0_ne_t hc104) ?_
  refine zS Ad W 2 (st' := (20, [vR 1, vI x1, vI x2, none, none], [.int x1, .ref 1], (H0 s o))) rfl ?_
  obtain ⟨r108, hr108, h⟩ := bind_eq_some_iff.mp h
  refine QTri.callP W (a := 1) (as := [.int x1]) (rest := []) (w := (some (.int r108))) (σ₁ := (H0 s o)) rfl rfl rfl rfl rfl rfl rfl rfl (tF16 Ad W s o x1 hr108) ?_
  refine zS Ad W 3 (st' := (26, [vR 1, vI x1, vI x2, vI r108, none], [.int x2, .ref 1], (H0 s o))) rfl ?_
  obtain ⟨r109, hr109, h⟩ := bind_eq_some_iff.mp h
  refine QTri.callP W (a := 1) (as := [.int x2]) (rest := []) (w := (some (.int r109))) (σ₁ := (H0 s o)) rfl rfl rfl rfl rfl rfl rfl rfl (tF16 Ad W s o x2 hr109) ?_
  refine zS Ad W 2 (st' := (32, [vR 1, vI x1, vI x2, vI r108, vI r109], [.int r108], (H0 s o))) rfl ?_
  rcases qite h with ⟨hc110, h⟩ | ⟨hc110, h⟩
  ·refine zT Ad W (t := 51) (f := 35) rfl (XT.i0_eq_t hc110) ?_
   exact zM [tt,tt,tt,tt,tt] (tJ15_51 Ad W s o x1 x2 r108 r109 h)
  ·refine zF Ad W (t := 51) (f := 35) rfl (XT.i0_eq_f hc110) ?_
   refine zS Ad W 1 (st' := (37, [vR 1, vI x1, vI x2, vI r108, vI r109], [.int r109], (H0 s o))) rfl ?_
   rcases qite h with ⟨hc126, h⟩ | ⟨hc126, h⟩
   ·refine zT Ad W (t := 51) (f := 40) rfl (XT.i0_eq_t hc126) ?_
    exact zM [tt,tt,tt,tt,tt] (tJ15_51 Ad W s o x1 x2 r108 r109 h)
   ·refine zF Ad W (t := 51) (f := 40) rfl (XT.i0_eq_f hc126) ?_
    refine zS Ad W 2 (st' := (42, [vR 1, vI x1, vI x2, vI r108, vI r109], [.int x2, .int x1], (H0 s o))) rfl ?_
    rcases qite h with ⟨hc127, h⟩ | ⟨hc127, h⟩
    ·refine zF Ad W (t := 49) (f := 45) rfl (XT.ii_ge_f hc127) ?_
     refine zS Ad W 2 (st' := (50, [vR 1, vI x1, vI x2, vI r108, vI r109], [.int (1:Int32)], (H0 s o))) rfl ?_
     obtain rfl := Option.some.inj h
     exact QTri.retZ rfl rfl
    ·refine zT Ad W (t := 49) (f := 45) rfl (XT.ii_ge_t hc127) ?_
     refine zS Ad W 1 (st' := (50, [vR 1, vI x1, vI x2, vI r108, vI r109], [.int (0:Int32)], (H0 s o))) rfl ?_
     obtain rfl := Option.some.inj h
     exact QTri.retZ rfl rfl
def H0x27 (s : List Int32) (o0 : Ob) (a0_7 : List Int32) : QHeap := H0v s (f_part o0) (f_keys o0) (f_vals o0) (f_flg o0) (f_res o0) (f_resNull o0) (f_frameCnt o0) a0_7 (f_cap o0) (f_rows o0) (f_direction o0) (f_nulls o0) (f_mode o0) (f_startKind o0) (f_startOff o0) (f_endKind o0) (f_endOff o0) (f_fn o0) (f_fnArg o0) (f_computed o0) (f_sortedLen o0) (f_curPos o0) (f_aggSum o0) (f_aggCount o0) (f_aggRows o0) (f_aggMin o0) (f_aggMax o0)
def B14_38 (x1 : Int32) (x2 : Int32) (x3 : Int32) (x4 : Int32) (v : Int32 × Ob) : Option (((Int32 × Ob)) ⊕ (Int32 × Ob)) :=
  (if (0 : Int32) < v.1 then (aget (f_sorted v.2) (v.1 - (1 : Int32))).bind fun y103 => (F15 v.2 x4 y103).bind fun r128 => (if r128 = (0 : Int32) then some (.inl (v.1, v.2)) else (aget (f_sorted v.2) (v.1 - (1 : Int32))).bind fun y130 => (aset (f_sorted v.2) v.1 y130).bind fun y131 => some (.inr ((v.1 + (-1 : Int32)), (s_sorted v.2 y131)))) else some (.inl (v.1, v.2)))
theorem tB14_38 (Ad : QAd n0 ad) (W : QW Z a0) (s : List Int32) (x1 : Int32) (x2 : Int32) (x3 : Int32) (x4 : Int32) (v : Int32 × Ob) {r : ((Int32 × Ob)) ⊕ (Int32 × Ob)} {u : Option Value} {τ : QHeap} (h : B14_38 x1 x2 x3 x4 v = some r) (hx0 : ∀ x : Int32 × Ob, r = .inl x → QTri l Z n0 ad 14 (83, [vR 1, vI x1, vI x2, vI x3, vI x4, vI x.1], [], (H0 s x.2)) u τ) (hc : ∀ x : Int32 × Ob, r = .inr x → QTri l Z n0 ad 14 (38, [vR 1, vI x1, vI x2, vI x3, vI x4, vI x.1], [], (H0 s x.2)) u τ) : QTri l Z n0 ad 14 (38, [vR 1, vI x1, vI x2, vI x3, vI x4, vI v.1], [], (H0 s v.2)) u τ := by
 unfold B14_38 at h
 refine zS Ad W 1 (st' := (40, [vR 1, vI x1, vI x2, vI x3, vI x4, vI v.1], [.int v.1], (H0 s v.2))) rfl ?_
 rcases qite h with ⟨hc102, h⟩ | ⟨hc102, h⟩
 ·refine zF Ad W (t := 83) (f := 43) rfl (XT.i0_le_f hc102) ?_
  refine zS Ad W 7 (st' := (54, [vR 1, vI x1, vI x2, vI x3, vI x4, vI v.1], [.int (v.1 - (1:Int32)), .ref 9, .int x4, .ref 1], (H0 s v.2))) rfl ?_
  obtain ⟨y103, hy103, h⟩ := bind_eq_some_iff.mp h
  refine zB Ad W (f := fun y103 => (55, [vR 1, vI x1, vI x2, vI x3, vI x4, vI v.1], [.int y103, .int x4, .ref 1], (H0 s v.2))) rfl hy103 ?_
  obtain ⟨r128, hr128, h⟩ := bind_eq_some_iff.mp h
  refine QTri.callP W (a := 1) (as := [.int x4, .int y103]) (rest := []) (w := (some (.int r128))) (σ₁ := (H0 s v.2)) rfl rfl rfl rfl rfl rfl rfl rfl (tF15 Ad W s v.2 x4 y103 hr128) ?_
  rcases qite h with ⟨hc129, h⟩ | ⟨hc129, h⟩
  ·refine zT Ad W (t := 83) (f := 61) rfl (XT.i0_eq_t hc129) ?_
   obtain rfl := Option.some.inj h
   exact zM [tt,tt,tt,tt,tt,tt] (hx0 (v.1, v.2) rfl)
  ·refine zF Ad W (t := 83) (f := 61) rfl (XT.i0_eq_f hc129) ?_
   refine zS Ad W 8 (st' := (75, [vR 1, vI x1, vI x2, vI x3, vI x4, vI v.1], [.int (v.1 - (1:Int32)), .ref 9, .int v.1, .ref 9], (H0 s v.2))) rfl ?_
   obtain ⟨y130, hy130, h⟩ := bind_eq_some_iff.mp h
   refine zB Ad W (f := fun y130 => (76, [vR 1, vI x1, vI x2, vI x3, vI x4, vI v.1], [.int y130, .int v.1, .ref 9], (H0 s v.2))) rfl hy130 ?_
   obtain ⟨y131, hy131, h⟩ := bind_eq_some_iff.mp h
   refine zB Ad W (f := fun y131 => (77, [vR 1, vI x1, vI x2, vI x3, vI x4, vI v.1], [], (H0x27 s v.2 y131))) rfl hy131 ?_
   refine zS Ad W 2 (st' := (38, [vR 1, vI x1, vI x2, vI x3, vI x4, vI (v.1 + (-1:Int32))], [], (H0x27 s v.2 y131))) rfl ?_
   have E132 : ((H0x27 s v.2 y131) : QHeap) = (H0 s (s_sorted v.2 y131)) := by simp only [fs, H0, H0v, H0x27, s_sorted]
   rw [E132]
   obtain rfl := Option.some.inj h
   exact zM [tt,tt,tt,tt,tt,tt] (hc ((v.1 + (-1:Int32)), (s_sorted v.2 y131)) rfl)
 ·refine zT Ad W (t := 83) (f := 43) rfl (XT.i0_le_t hc102) ?_
  obtain rfl := Option.some.inj h
  exact zM [tt,tt,tt,tt,tt,tt] (hx0 (v.1, v.2) rfl)
def J14_95 (o : Ob) (x1 : Int32) (x2 : Int32) (x3 : Int32) (x4 : Int32) : Option (((Int32 × Ob)) ⊕ (Int32 × Int32 × Ob)) :=
  some (.inr (x2, (x4 + (1 : Int32)), o))
theorem tJ14_95 (Ad : QAd n0 ad) (W : QW Z a0) (s : List Int32) (o : Ob) (x1 : Int32) (x2 : Int32) (x3 : Int32) (x4 : Int32) {r : ((Int32 × Ob)) ⊕ (Int32 × Int32 × Ob)} {u : Option Value} {τ : QHeap} (h : J14_95 o x1 x2 x3 x4 = some r) (hx0 : ∀ x : Int32 × Ob, r = .inl x → QTri l Z n0 ad 14 (101, [vR 1, vI x1, vI x.1, none, none, none], [], (H0 s x.2)) u τ) (hc : ∀ x : Int32 × Int32 × Ob, r = .inr x → QTri l Z n0 ad 14 (12, [vR 1, vI x1, vI x.1, vI x3, vI x.2.1, none], [], (H0 s x.2.2)) u τ) : QTri l Z n0 ad 14 (95, [vR 1, vI x1, vI x2, vI x3, vI x4, none], [], (H0 s o)) u τ := by
 unfold J14_95 at h
 refine zS Ad W 2 (st' := (12, [vR 1, vI x1, vI x2, vI x3, vI (x4 + (1:Int32)), none], [], (H0 s o))) rfl ?_
 obtain rfl := Option.some.inj h
 exact zM [tt,tt,tt,tt,tt,ff] (hc (x2, (x4 + (1:Int32)), o) rfl)
def J14_83 (o : Ob) (x1 : Int32) (x2 : Int32) (x3 : Int32) (x4 : Int32) (x5 : Int32) : Option (((Int32 × Ob)) ⊕ (Int32 × Int32 × Ob)) :=
  (aset (f_sorted o) x5 x4).bind fun y135 => (J14_95 (s_sorted o y135) x1 (x2 + (1 : Int32)) x3 x4)
theorem tJ14_83 (Ad : QAd n0 ad) (W : QW Z a0) (s : List Int32) (o : Ob) (x1 : Int32) (x2 : Int32) (x3 : Int32) (x4 : Int32) (x5 : Int32) {r : ((Int32 × Ob)) ⊕ (Int32 × Int32 × Ob)} {u : Option Value} {τ : QHeap} (h : J14_83 o x1 x2 x3 x4 x5 = some r) (hx0 : ∀ x : Int32 × Ob, r = .inl x → QTri l Z n0 ad 14 (101, [vR 1, vI x1, vI x.1, none, none, none], [], (H0 s x.2)) u τ) (hc : ∀ x : Int32 × Int32 × Ob, r = .inr x → QTri l Z n0 ad 14 (12, [vR 1, vI x1, vI x.1, vI x3, vI x.2.1, none], [], (H0 s x.2.2)) u τ) : QTri l Z n0 ad 14 (83, [vR 1, vI x1, vI x2, vI x3, vI x4, vI x5], [], (H0 s o)) u τ := by
 unfold J14_83 at h
 refine zS Ad W 4 (st' := (91, [vR 1, vI x1, vI x2, vI x3, vI x4, vI x5], [.int x4, .int x5, .ref 9], (H0 s o))) rfl ?_
 obtain ⟨y135, hy135, h⟩ := bind_eq_some_iff.mp h
 refine zB Ad W (f := fun y135 => (92, [vR 1, vI x1, vI x2, vI x3, vI x4, vI x5], [], (H0x27 s o y135))) rfl hy135 ?_
 refine zS Ad W 1 (st' := (95, [vR 1, vI x1, vI (x2 + (1:Int32)), vI x3, vI x4, vI x5], [], (H0x27 s o y135))) rfl ?_
 have E136 : ((H0x27 s o y135) : QHeap) = (H0 s (s_sorted o y135)) := by simp only [fs, H0, H0v, H0x27, s_sorted]
 rw [E136]
 exact zM [tt,tt,tt,tt,tt,ff] (tJ14_95 Ad W s (s_sorted o y135) x1 (x2 + (1:Int32)) x3 x4 h hx0 hc)
def B14_12 (x1 : Int32) (x3 : Int32) (v : Int32 × Int32 × Ob) : Option (((Int32 × Ob)) ⊕ (Int32 × Int32 × Ob)) :=
  (if v.2.1 < (f_rows v.2.2) then (aget (f_part v.2.2) v.2.1).bind fun y100 => (if y100 = x3 then (loopN (B14_38 x1 v.1 x3 v.2.1) qN (v.1, v.2.2)).bind fun e133 => (J14_83 e133.2 x1 v.1 x3 v.2.1 e133.1) else (J14_95 v.2.2 x1 v.1 x3 v.2.1)) else some (.inl (v.1, v.2.2)))
theorem tB14_12 (Ad : QAd n0 ad) (W : QW Z a0) (s : List Int32) (x1 : Int32) (x3 : Int32) (v : Int32 × Int32 × Ob) {r : ((Int32 × Ob)) ⊕ (Int32 × Int32 × Ob)} {u : Option Value} {τ : QHeap} (h : B14_12 x1 x3 v = some r) (hx0 : ∀ x : Int32 × Ob, r = .inl x → QTri l Z n0 ad 14 (101, [vR 1, vI x1, vI x.1, none, none, none], [], (H0 s x.2)) u τ) (hc : ∀ x : Int32 × Int32 × Ob, r = .inr x → QTri l Z n0 ad 14 (12, [vR 1, vI x1, vI x.1, vI x3, vI x.2.1, none], [], (H0 s x.2.2)) u τ) : QTri l Z n0 ad 14 (12, [vR 1, vI x1, vI v.1, vI x3, vI v.2.1, none], [], (H0 s v.2.2)) u τ := by
 unfold B14_12 at h
 refine zS Ad W 3 (st' := (18, [vR 1, vI x1, vI v.1, vI x3, vI v.2.1, none], [.int (f_rows v.2.2), .int v.2.1], (H0 s v.2.2))) rfl ?_
 rcases qite h with ⟨hc99, h⟩ | ⟨hc99, h⟩
 ·refine zF Ad W (t := 101) (f := 21) rfl (XT.ii_ge_f hc99) ?_
  refine zS Ad W 3 (st' := (27, [vR 1, vI x1, vI v.1, vI x3, vI v.2.1, none], [.int v.2.1, .ref 2], (H0 s v.2.2))) rfl ?_
  obtain ⟨y100, hy100, h⟩ := bind_eq_some_iff.mp h
  refine zB Ad W (f := fun y100 => (28, [vR 1, vI x1, vI v.1, vI x3, vI v.2.1, none], [.int y100], (H0 s v.2.2))) rfl hy100 ?_
  refine zS Ad W 1 (st' := (29, [vR 1, vI x1, vI v.1, vI x3, vI v.2.1, none], [.int x3, .int y100], (H0 s v.2.2))) rfl ?_
  rcases qite h with ⟨hc101, h⟩ | ⟨hc101, h⟩
  ·refine zT Ad W (t := 35) (f := 32) rfl (XT.ii_eq_t hc101) ?_
   refine zS Ad W 2 (st' := (38, [vR 1, vI x1, vI v.1, vI x3, vI v.2.1, vI v.1], [], (H0 s v.2.2))) rfl ?_
   obtain ⟨e133, he133, h⟩ := bind_eq_some_iff.mp h
   refine zM [tt,tt,tt,tt,tt,tt] (loopN_tri (B := B14_38 x1 v.1 x3 v.2.1) (T := fun lv134 => QTri l Z n0 ad 14 (38, [vR 1, vI x1, vI v.1, vI x3, vI v.2.1, vI lv134.1], [], (H0 s lv134.2)) u τ) (KE := fun e133a => QTri l Z n0 ad 14 (83, [vR 1, vI x1, vI v.1, vI x3, vI v.2.1, vI e133a.1], [], (H0 s e133a.2)) u τ) (fun lv134 r hB hE hC => tB14_38 Ad W s x1 v.1 x3 v.2.1 lv134 hB (fun x q => hE _ q) (fun x q => hC x q)) qN (v.1, v.2.2) e133 he133 ?_)
   exact zM [tt,tt,tt,tt,tt,tt] (tJ14_83 Ad W s e133.2 x1 v.1 x3 v.2.1 e133.1 h hx0 hc)
  ·refine zF Ad W (t := 35) (f := 32) rfl (XT.ii_eq_f hc101) ?_
   refine zS Ad W 1 (st' := (95, [vR 1, vI x1, vI v.1, vI x3, vI v.2.1, none], [], (H0 s v.2.2))) rfl ?_
   exact zM [tt,tt,tt,tt,tt,ff] (tJ14_95 Ad W s v.2.2 x1 v.1 x3 v.2.1 h hx0 hc)
 ·refine zT Ad W (t := 101) (f := 21) rfl (XT.ii_ge_t hc99) ?_
  obtain rfl := Option.some.inj h
  exact zM [tt,tt,tt,ff,ff,ff] (hx0 (v.1, v.2.2) rfl)
def H0x28 (s : List Int32) (o0 : Ob) (a0_20 : Int32) : QHeap := H0v s (f_part o0) (f_keys o0) (f_vals o0) (f_flg o0) (f_res o0) (f_resNull o0) (f_frameCnt o0) (f_sorted o0) (f_cap o0) (f_rows o0) (f_direction o0) (f_nulls o0) (f_mode o0) (f_startKind o0) (f_startOff o0) (f_endKind o0) (f_endOff o0) (f_fn o0) (f_fnArg o0) (f_computed o0) a0_20 (f_curPos o0) (f_aggSum o0) (f_aggCount o0) (f_aggRows o0) (f_aggMin o0) (f_aggMax o0)
def H0x29 (s : List Int32) (o0 : Ob) (a0_20 : Int32) (a0_21 : Int32) : QHeap := H0v s (f_part o0) (f_keys o0) (f_vals o0) (f_flg o0) (f_res o0) (f_resNull o0) (f_frameCnt o0) (f_sorted o0) (f_cap o0) (f_rows o0) (f_direction o0) (f_nulls o0) (f_mode o0) (f_startKind o0) (f_startOff o0) (f_endKind o0) (f_endOff o0) (f_fn o0) (f_fnArg o0) (f_computed o0) a0_20 a0_21 (f_aggSum o0) (f_aggCount o0) (f_aggRows o0) (f_aggMin o0) (f_aggMax o0)
def H0x30 (s : List Int32) (o0 : Ob) (a0_21 : Int32) : QHeap := H0v s (f_part o0) (f_keys o0) (f_vals o0) (f_flg o0) (f_res o0) (f_resNull o0) (f_frameCnt o0) (f_sorted o0) (f_cap o0) (f_rows o0) (f_direction o0) (f_nulls o0) (f_mode o0) (f_startKind o0) (f_startOff o0) (f_endKind o0) (f_endOff o0) (f_fn o0) (f_fnArg o0) (f_computed o0) (f_sortedLen o0) a0_21 (f_aggSum o0) (f_aggCount o0) (f_aggRows o0) (f_aggMin o0) (f_aggMax o0)
def J14_137 (o : Ob) (x1 : Int32) (x2 : Int32) (x4 : Int32) : Option (((Ob)) ⊕ (Int32 × Ob)) :=
  some (.inr ((x4 + (1 : Int32)), o))
theorem tJ14_137 (Ad : QAd n0 ad) (W : QW Z a0) (s : List Int32) (o : Ob) (x1 : Int32) (x2 : Int32) (x4 : Int32) {r : ((Ob)) ⊕ (Int32 × Ob)} {u : Option Value} {τ : QHeap} (h : J14_137 o x1 x2 x4 = some r) (hx0 : ∀ x : Ob, r = .inl x → u = (none : Option Value) ∧ τ = (H0 s x)) (hc : ∀ x : Int32 × Ob, r = .inr x → QTri l Z n0 ad 14 (114, [vR 1, vI x1, vI x2, none, vI x.1, none], [], (H0 s x.2)) u τ) : QTri l Z n0 ad 14 (137, [vR 1, vI x1, vI x2, none, vI x4, none], [], (H0 s o)) u τ := by
 unfold J14_137 at h
 refine zS Ad W 2 (st' := (114, [vR 1, vI x1, vI x2, none, vI (x4 + (1:Int32)), none], [], (H0 s o))) rfl ?_
 obtain rfl := Option.some.inj h
 exact zM [tt,tt,tt,ff,tt,ff] (hc ((x4 + (1:Int32)), o) rfl)
def B14_114 (x1 : Int32) (x2 : Int32) (v : Int32 × Ob) : Option (((Ob)) ⊕ (Int32 × Ob)) :=
  (if v.1 < x2 then (aget (f_sorted v.2) v.1).bind fun y141 => (if y141 = x1 then (J14_137 (s_curPos v.2 v.1) x1 x2 v.1) else (J14_137 v.2 x1 x2 v.1)) else some (.inl v.2))
theorem tB14_114 (Ad : QAd n0 ad) (W : QW Z a0) (s : List Int32) (x1 : Int32) (x2 : Int32) (v : Int32 × Ob) {r : ((Ob)) ⊕ (Int32 × Ob)} {u : Option Value} {τ : QHeap} (h : B14_114 x1 x2 v = some r) (hx0 : ∀ x : Ob, r = .inl x → u = (none : Option Value) ∧ τ = (H0 s x)) (hc : ∀ x : Int32 × Ob, r = .inr x → QTri l Z n0 ad 14 (114, [vR 1, vI x1, vI x2, none, vI x.1, none], [], (H0 s x.2)) u τ) : QTri l Z n0 ad 14 (114, [vR 1, vI x1, vI x2, none, vI v.1, none], [], (H0 s v.2)) u τ := by
 unfold B14_114 at h
 refine zS Ad W 2 (st' := (117, [vR 1, vI x1, vI x2, none, vI v.1, none], [.int x2, .int v.1], (H0 s v.2))) rfl ?_
 rcases qite h with ⟨hc140, h⟩ | ⟨hc140, h⟩
 ·refine zF Ad W (t := 143) (f := 120) rfl (XT.ii_ge_f hc140) ?_
  refine zS Ad W 3 (st' := (126, [vR 1, vI x1, vI x2, none, vI v.1, none], [.int v.1, .ref 9], (H0 s v.2))) rfl ?_
  obtain ⟨y141, hy141, h⟩ := bind_eq_some_iff.mp h
  refine zB Ad W (f := fun y141 => (127, [vR 1, vI x1, vI x2, none, vI v.1, none], [.int y141], (H0 s v.2))) rfl hy141 ?_
  refine zS Ad W 1 (st' := (128, [vR 1, vI x1, vI x2, none, vI v.1, none], [.int x1, .int y141], (H0 s v.2))) rfl ?_
  rcases qite h with ⟨hc142, h⟩ | ⟨hc142, h⟩
  ·refine zF Ad W (t := 137) (f := 131) rfl (XT.ii_ne_f hc142) ?_
   refine zS Ad W 3 (st' := (137, [vR 1, vI x1, vI x2, none, vI v.1, none], [], (H0x30 s v.2 v.1))) rfl ?_
   have E143 : ((H0x30 s v.2 v.1) : QHeap) = (H0 s (s_curPos v.2 v.1)) := by simp only [fs, H0, H0v, H0x30, s_curPos]
   rw [E143]
   exact zM [tt,tt,tt,ff,tt,ff] (tJ14_137 Ad W s (s_curPos v.2 v.1) x1 x2 v.1 h hx0 hc)
  ·refine zT Ad W (t := 137) (f := 131) rfl (XT.ii_ne_t hc142) ?_
   exact zM [tt,tt,tt,ff,tt,ff] (tJ14_137 Ad W s v.2 x1 x2 v.1 h hx0 hc)
 ·refine zT Ad W (t := 143) (f := 120) rfl (XT.ii_ge_t hc140) ?_
  obtain rfl := Option.some.inj h
  obtain ⟨rfl, rfl⟩ := hx0 v.2 rfl
  exact QTri.ret0 rfl rfl
/-- buildPartition(I)V -/
def F14 (o : Ob) (x1 : Int32) : Option (Ob) :=
 (aget (f_part o) x1).bind fun y98 => (loopN (B14_12 x1 y98) qN ((0:Int32), (0:Int32), o)).bind fun e137 => (loopN (B14_114 x1 e137.1) qN ((0:Int32), (s_curPos (s_sortedLen e137.2 e137.1) (0:Int32)))).bind fun e144 => some e144
theorem tF14 (Ad : QAd n0 ad) (W : QW Z a0) (s : List Int32) (o : Ob) (x1 : Int32) {r : Ob} (h : F14 o x1 = some r) : QTri l Z n0 ad 14 (0, qentry [.ref 1, .int x1] (pMaxL 14), [], (H0 s o)) (none : Option Value) (H0 s r) := by
 unfold F14 at h
 refine zS Ad W 5 (st' := (7, [vR 1, vI x1, vI (0:Int32), none, none, none], [.int x1, .ref 2], (H0 s o))) rfl ?_
 obtain ⟨y98, hy98, h⟩ := bind_eq_some_iff.mp h
 refine zB Ad W (f := fun y98 => (8, [vR 1, vI x1, vI (0:Int32), none, none, none], [.int y98], (H0 s o))) rfl hy98 ?_
 refine zS Ad W 3 (st' := (12, [vR 1, vI x1, vI (0:Int32), vI y98, vI (0:Int32), none], [], (H0 s o))) rfl ?_
 obtain ⟨e137, he137, h⟩ := bind_eq_some_iff.mp h
 refine zM [tt,tt,tt,tt,tt,ff] (loopN_tri (B := B14_12 x1 y98) (T := fun lv138 => QTri l Z n0 ad 14 (12, [vR 1, vI x1, vI lv138.1, vI y98, vI lv138.2.1, none], [], (H0 s lv138.2.2)) (none : Option Value) (H0 s r)) (KE := fun e137a => QTri l Z n0 ad 14 (101, [vR 1, vI x1, vI e137a.1, none, none, none], [], (H0 s e137a.2)) (none : Option Value) (H0 s r)) (fun lv138 r hB hE hC => tB14_12 Ad W s x1 y98 lv138 hB (fun x q => hE _ q) (fun x q => hC x q)) qN ((0:Int32), (0:Int32), o) e137 he137 ?_)
 refine zS Ad W 3 (st' := (106, [vR 1, vI x1, vI e137.1, none, none, none], [], (H0x28 s e137.2 e137.1))) rfl ?_
 refine zS Ad W 3 (st' := (111, [vR 1, vI x1, vI e137.1, none, none, none], [], (H0x29 s e137.2 e137.1 (0:Int32)))) rfl ?_
 refine zS Ad W 2 (st' := (114, [vR 1, vI x1, vI e137.1, none, vI (0:Int32), none], [], (H0x29 s e137.2 e137.1 (0:Int32)))) rfl ?_
 have E139 : ((H0x29 s e137.2 e137.1 (0:Int32)) : QHeap) = (H0 s (s_curPos (s_sortedLen e137.2 e137.1) (0:Int32))) := by simp only [fs, H0, H0v, H0x29, s_sortedLen, s_curPos]
 rw [E139]
 obtain ⟨e144, he144, h⟩ := bind_eq_some_iff.mp h
 refine zM [tt,tt,tt,ff,tt,ff] (loopN_tri (B := B14_114 x1 e137.1) (T := fun lv145 => QTri l Z n0 ad 14 (114, [vR 1, vI x1, vI e137.1, none, vI lv145.1, none], [], (H0 s lv145.2)) (none : Option Value) (H0 s r)) (KE := fun e144a => (none : Option Value) = (none : Option Value) ∧ (H0 s r) = (H0 s e144a)) (fun lv145 r hB hE hC => tB14_114 Ad W s x1 e137.1 lv145 hB (fun x q => hE _ q) (fun x q => hC x q)) qN ((0:Int32), (s_curPos (s_sortedLen e137.2 e137.1) (0:Int32))) e144 he144 ?_)
 obtain rfl := Option.some.inj h
 exact ⟨rfl, rfl⟩
def H0x31 (s : List Int32) (o0 : Ob) (a0_22 : Int64) : QHeap := H0v s (f_part o0) (f_keys o0) (f_vals o0) (f_flg o0) (f_res o0) (f_resNull o0) (f_frameCnt o0) (f_sorted o0) (f_cap o0) (f_rows o0) (f_direction o0) (f_nulls o0) (f_mode o0) (f_startKind o0) (f_startOff o0) (f_endKind o0) (f_endOff o0) (f_fn o0) (f_fnArg o0) (f_computed o0) (f_sortedLen o0) (f_curPos o0) a0_22 (f_aggCount o0) (f_aggRows o0) (f_aggMin o0) (f_aggMax o0)
def H0x32 (s : List Int32) (o0 : Ob) (a0_22 : Int64) (a0_23 : Int32) : QHeap := H0v s (f_part o0) (f_keys o0) (f_vals o0) (f_flg o0) (f_res o0) (f_resNull o0) (f_frameCnt o0) (f_sorted o0) (f_cap o0) (f_rows o0) (f_direction o0) (f_nulls o0) (f_mode o0) (f_startKind o0) (f_startOff o0) (f_endKind o0) (f_endOff o0) (f_fn o0) (f_fnArg o0) (f_computed o0) (f_sortedLen o0) (f_curPos o0) a0_22 a0_23 (f_aggRows o0) (f_aggMin o0) (f_aggMax o0)
def H0x33 (s : List Int32) (o0 : Ob) (a0_22 : Int64) (a0_23 : Int32) (a0_24 : Int32) : QHeap := H0v s (f_part o0) (f_keys o0) (f_vals o0) (f_flg o0) (f_res o0) (f_resNull o0) (f_frameCnt o0) (f_sorted o0) (f_cap o0) (f_rows o0) (f_direction o0) (f_nulls o0) (f_mode o0) (f_startKind o0) (f_startOff o0) (f_endKind o0) (f_endOff o0) (f_fn o0) (f_fnArg o0) (f_computed o0) (f_sortedLen o0) (f_curPos o0) a0_22 a0_23 a0_24 (f_aggMin o0) (f_aggMax o0)
def H0x34 (s : List Int32) (o0 : Ob) (a0_22 : Int64) (a0_23 : Int32) (a0_24 : Int32) (a0_25 : Int32) : QHeap := H0v s (f_part o0) (f_keys o0) (f_vals o0) (f_flg o0) (f_res o0) (f_resNull o0) (f_frameCnt o0) (f_sorted o0) (f_cap o0) (f_rows o0) (f_direction o0) (f_nulls o0) (f_mode o0) (f_startKind o0) (f_startOff o0) (f_endKind o0) (f_endOff o0) (f_fn o0) (f_fnArg o0) (f_computed o0) (f_sortedLen o0) (f_curPos o0) a0_22 a0_23 a0_24 a0_25 (f_aggMax o0)
def H0x35 (s : List Int32) (o0 : Ob) (a0_22 : Int64) (a0_23 : Int32) (a0_24 : Int32) (a0_25 : Int32) (a0_26 : Int32) : QHeap := H0v s (f_part o0) (f_keys o0) (f_vals o0) (f_flg o0) (f_res o0) (f_resNull o0) (f_frameCnt o0) (f_sorted o0) (f_cap o0) (f_rows o0) (f_direction o0) (f_nulls o0) (f_mode o0) (f_startKind o0) (f_startOff o0) (f_endKind o0) (f_endOff o0) (f_fn o0) (f_fnArg o0) (f_computed o0) (f_sortedLen o0) (f_curPos o0) a0_22 a0_23 a0_24 a0_25 a0_26
/-- rowsStartHolds(II)Z -/
def F31 (o : Ob) (x1 : Int32) (x2 : Int32) : Option (Int32) :=
 (if (f_startKind o) = (1:Int32) then (if (x2.toInt64) < ((x1.toInt64) - ((f_startOff o).toInt64)) then some (0:Int32) else some (1:Int32)) else (if (f_startKind o) = (2:Int32) then (if (x2.toInt64) < (x1.toInt64) then some (0:Int32) else some (1:Int32)) else (if (f_startKind o) = (3:Int32) then (if (x2.toInt64) < ((x1.toInt64) + ((f_startOff o).toInt64)) then some (0:Int32) else some (1:Int32)) else some (1:Int32))))
theorem tF31 (Ad : QAd n0 ad) (W : QW Z a0) (s : List Int32) (o : Ob) (x1 : Int32) (x2 : Int32) {r : Int32} (h : F31 o x1 x2 = some r) : QTri l Z n0 ad 31 (0, qentry [.ref 1, .int x1, .int x2] (pMaxL 31), [], (H0 s o)) (some (Value.int r)) (H0 s o) := by
 unfold F31 at h
 refine zS Ad W 6 (st' := (7, [vR 1, vI x1, vI x2, vL (x1.toInt64), none, vL (x2.toInt64), none, none, none], [], (H0 s o))) rfl ?_
 refine zS Ad W 7 (st' := (19, [vR 1, vI x1, vI x2, vL (x1.toInt64), none, vL (x2.toInt64), none, vL ((f_startOff o).toInt64), none], [.int (1:Int32), .int (f_startKind o)], (H0 s o))) rfl ?_
 rcases qite h with ⟨hc151, h⟩ | ⟨hc151, h⟩
 ·refine zF Ad W (t := 38) (f := 22) rfl (XT.ii_ne_f hc151) ?_
  refine zS Ad W 5 (st' := (29, [vR 1, vI x1, vI x2, vL (x1.toInt64), none, vL (x2.toInt64), none, vL ((f_startOff o).toInt64), none], [.int (XT.cmpL (x2.toInt64) ((x1.toInt64) - ((f_startOff o).toInt64)))], (H0 s o))) rfl ?_
  rcases qite h with ⟨hc152, h⟩ | ⟨hc152, h⟩
  ·refine zT Ad W (t := 36) (f := 32) rfl (XT.ll_lt_t hc152) ?_
   refine zS Ad W 1 (st' := (37, [vR 1, vI x1, vI x2, vL (x1.toInt64), none, vL (x2.toInt64), none, vL ((f_startOff o).toInt64), none], [.int (0:Int32)], (H0 s o))) rfl ?_
   obtain rfl := Option.some.inj h
   exact QTri.retZ rfl rfl
  ·refine zF Ad W (t := 36) (f := 32) rfl (XT.ll_lt_f hc152) ?_
   refine zS Ad W 2 (st' := (37, [vR 1, vI x1, vI x2, vL (x1.toInt64), none, vL (x2.toInt64), none, vL ((f_startOff o).toInt64), none], [.int (1:Int32)], (H0 s o))) rfl ?_
   obtain rfl := Option.some.inj h
   exact QTri.retZ rfl rfl
 ·refine zT Ad W (t := 38) (f := 22) rfl (XT.ii_ne_t hc151) ?_
  refine zS Ad W 3 (st' := (43, [vR 1, vI x1, vI x2, vL (x1.toInt64), none, vL (x2.toInt64), none, vL ((f_startOff o).toInt64), none], [.int (2:Int32), .int (f_startKind o)], (H0 s o))) rfl ?_
  rcases qite h with ⟨hc153, h⟩ | ⟨hc153, h⟩
  ·refine zF Ad W (t := 59) (f := 46) rfl (XT.ii_ne_f hc153) ?_
   refine zS Ad W 3 (st' := (50, [vR 1, vI x1, vI x2, vL (x1.toInt64), none, vL (x2.toInt64), none, vL ((f_startOff o).toInt64), none], [.int (XT.cmpL (x2.toInt64) (x1.toInt64))], (H0 s o))) rfl ?_
   rcases qite h with ⟨hc154, h⟩ | ⟨hc154, h⟩
   ·refine zT Ad W (t := 57) (f := 53) rfl (XT.ll_lt_t hc154) ?_
    refine zS Ad W 1 (st' := (58, [vR 1, vI x1, vI x2, vL (x1.toInt64), none, vL (x2.toInt64), none, vL ((f_startOff o).toInt64), none], [.int (0:Int32)], (H0 s o))) rfl ?_
    obtain rfl := Option.some.inj h
    exact QTri.retZ rfl rfl
   ·refine zF Ad W (t := 57) (f := 53) rfl (XT.ll_lt_f hc154) ?_
    refine zS Ad W 2 (st' := (58, [vR 1, vI x1, vI x2, vL (x1.toInt64), none, vL (x2.toInt64), none, vL ((f_startOff o).toInt64), none], [.int (1:Int32)], (H0 s o))) rfl ?_
    obtain rfl := Option.some.inj h
    exact QTri.retZ rfl rfl
  ·refine zT Ad W (t := 59) (f := 46) rfl (XT.ii_ne_t hc153) ?_
   refine zS Ad W 3 (st' := (64, [vR 1, vI x1, vI x2, vL (x1.toInt64), none, vL (x2.toInt64), none, vL ((f_startOff o).toInt64), none], [.int (3:Int32), .int (f_startKind o)], (H0 s o))) rfl ?_
   rcases qite h with ⟨hc155, h⟩ | ⟨hc155, h⟩
   ·refine zF Ad W (t := 83) (f := 67) rfl (XT.ii_ne_f hc155) ?_
    refine zS Ad W 5 (st' := (74, [vR 1, vI x1, vI x2, vL (x1.toInt64), none, vL (x2.toInt64), none, vL ((f_startOff o).toInt64), none], [.int (XT.cmpL (x2.toInt64) ((x1.toInt64) + ((f_startOff o).toInt64)))], (H0 s o))) rfl ?_
    rcases qite h with ⟨hc156, h⟩ | ⟨hc156, h⟩
    ·refine zT Ad W (t := 81) (f := 77) rfl (XT.ll_lt_t hc156) ?_
     refine zS Ad W 1 (st' := (82, [vR 1, vI x1, vI x2, vL (x1.toInt64), none, vL (x2.toInt64), none, vL ((f_startOff o).toInt64), none], [.int (0:Int32)], (H0 s o))) rfl ?_
     obtain rfl := Option.some.inj h
     exact QTri.retZ rfl rfl
    ·refine zF Ad W (t := 81) (f := 77) rfl (XT.ll_lt_f hc156) ?_
     refine zS Ad W 2 (st' := (82, [vR 1, vI x1, vI x2, vL (x1.toInt64), none, vL (x2.toInt64), none, vL ((f_startOff o).toInt64), none], [.int (1:Int32)], (H0 s o))) rfl ?_
     obtain rfl := Option.some.inj h
     exact QTri.retZ rfl rfl
   ·refine zT Ad W (t := 83) (f := 67) rfl (XT.ii_ne_t hc155) ?_
    refine zS Ad W 1 (st' := (84, [vR 1, vI x1, vI x2, vL (x1.toInt64), none, vL (x2.toInt64), none, vL ((f_startOff o).toInt64), none], [.int (1:Int32)], (H0 s o))) rfl ?_
    obtain rfl := Option.some.inj h
    exact QTri.retZ rfl rfl
/-- rowsEndHolds(II)Z -/
def F32 (o : Ob) (x1 : Int32) (x2 : Int32) : Option (Int32) :=
 (if (f_endKind o) = (1:Int32) then (if ((x1.toInt64) - ((f_endOff o).toInt64)) < (x2.toInt64) then some (0:Int32) else some (1:Int32)) else (if (f_endKind o) = (2:Int32) then (if (x1.toInt64) < (x2.toInt64) then some (0:Int32) else some (1:Int32)) else (if (f_endKind o) = (3:Int32) then (if ((x1.toInt64) + ((f_endOff o).toInt64)) < (x2.toInt64) then some (0:Int32) else some (1:Int32)) else some (1:Int32))))
theorem tF32 (Ad : QAd n0 ad) (W : QW Z a0) (s : List Int32) (o : Ob) (x1 : Int32) (x2 : Int32) {r : Int32} (h : F32 o x1 x2 = some r) : QTri l Z n0 ad 32 (0, qentry [.ref 1, .int x1, .int x2] (pMaxL 32), [], (H0 s o)) (some (Value.int r)) (H0 s o) := by
 unfold F32 at h
 refine zS Ad W 6 (st' := (7, [vR 1, vI x1, vI x2, vL (x1.toInt64), none, vL (x2.toInt64), none, none, none], [], (H0 s o))) rfl ?_
 refine zS Ad W 7 (st' := (19, [vR 1, vI x1, vI x2, vL (x1.toInt64), none, vL (x2.toInt64), none, vL ((f_endOff o).toInt64), none], [.int (1:Int32), .int (f_endKind o)], (H0 s o))) rfl ?_
 rcases qite h with ⟨hc159, h⟩ | ⟨hc159, h⟩
 ·refine zF Ad W (t := 38) (f := 22) rfl (XT.ii_ne_f hc159) ?_
  refine zS Ad W 5 (st' := (29, [vR 1, vI x1, vI x2, vL (x1.toInt64), none, vL (x2.toInt64), none, vL ((f_endOff o).toInt64), none], [.int (XT.cmpL (x2.toInt64) ((x1.toInt64) - ((f_endOff o).toInt64)))], (H0 s o))) rfl ?_
  rcases qite h with ⟨hc160, h⟩ | ⟨hc160, h⟩
  ·refine zT Ad W (t := 36) (f := 32) rfl (XT.ll_gt_t hc160) ?_
   refine zS Ad W 1 (st' := (37, [vR 1, vI x1, vI x2, vL (x1.toInt64), none, vL (x2.toInt64), none, vL ((f_endOff o).toInt64), none], [.int (0:Int32)], (H0 s o))) rfl ?_
   obtain rfl := Option.some.inj h
   exact QTri.retZ rfl rfl
  ·refine zF Ad W (t := 36) (f := 32) rfl (XT.ll_gt_f hc160) ?_
   refine zS Ad W 2 (st' := (37, [vR 1, vI x1, vI x2, vL (x1.toInt64), none, vL (x2.toInt64), none, vL ((f_endOff o).toInt64), none], [.int (1:Int32)], (H0 s o))) rfl ?_
   obtain rfl := Option.some.inj h
   exact QTri.retZ rfl rfl
 ·refine zT Ad W (t := 38) (f := 22) rfl (XT.ii_ne_t hc159) ?_
  refine zS Ad W 3 (st' := (43, [vR 1, vI x1, vI x2, vL (x1.toInt64), none, vL (x2.toInt64), none, vL ((f_endOff o).toInt64), none], [.int (2:Int32), .int (f_endKind o)], (H0 s o))) rfl ?_
  rcases qite h with ⟨hc161, h⟩ | ⟨hc161, h⟩
  ·refine zF Ad W (t := 59) (f := 46) rfl (XT.ii_ne_f hc161) ?_
   refine zS Ad W 3 (st' := (50, [vR 1, vI x1, vI x2, vL (x1.toInt64), none, vL (x2.toInt64), none, vL ((f_endOff o).toInt64), none], [.int (XT.cmpL (x2.toInt64) (x1.toInt64))], (H0 s o))) rfl ?_
   rcases qite h with ⟨hc162, h⟩ | ⟨hc162, h⟩
   ·refine zT Ad W (t := 57) (f := 53) rfl (XT.ll_gt_t hc162) ?_
    refine zS Ad W 1 (st' := (58, [vR 1, vI x1, vI x2, vL (x1.toInt64), none, vL (x2.toInt64), none, vL ((f_endOff o).toInt64), none], [.int (0:Int32)], (H0 s o))) rfl ?_
    obtain rfl := Option.some.inj h
    exact QTri.retZ rfl rfl
   ·refine zF Ad W (t := 57) (f := 53) rfl (XT.ll_gt_f hc162) ?_
    refine zS Ad W 2 (st' := (58, [vR 1, vI x1, vI x2, vL (x1.toInt64), none, vL (x2.toInt64), none, vL ((f_endOff o).toInt64), none], [.int (1:Int32)], (H0 s o))) rfl ?_
    obtain rfl := Option.some.inj h
    exact QTri.retZ rfl rfl
  ·refine zT Ad W (t := 59) (f := 46) rfl (XT.ii_ne_t hc161) ?_
   refine zS Ad W 3 (st' := (64, [vR 1, vI x1, vI x2, vL (x1.toInt64), none, vL (x2.toInt64), none, vL ((f_endOff o).toInt64), none], [.int (3:Int32), .int (f_endKind o)], (H0 s o))) rfl ?_
   rcases qite h with ⟨hc163, h⟩ | ⟨hc163, h⟩
   ·refine zF Ad W (t := 83) (f := 67) rfl (XT.ii_ne_f hc163) ?_
    refine zS Ad W 5 (st' := (74, [vR 1, vI x1, vI x2, vL (x1.toInt64), none, vL (x2.toInt64), none, vL ((f_endOff o).toInt64), none], [.int (XT.cmpL (x2.toInt64) ((x1.toInt64) + ((f_endOff o).toInt64)))], (H0 s o))) rfl ?_
    rcases qite h with ⟨hc164, h⟩ | ⟨hc164, h⟩
    ·refine zT Ad W (t := 81) (f := 77) rfl (XT.ll_gt_t hc164) ?_
     refine zS Ad W 1 (st' := (82, [vR 1, vI x1, vI x2, vL (x1.toInt64), none, vL (x2.toInt64), none, vL ((f_endOff o).toInt64), none], [.int (0:Int32)], (H0 s o))) rfl ?_
     obtain rfl := Option.some.inj h
     exact QTri.retZ rfl rfl
    ·refine zF Ad W (t := 81) (f := 77) rfl (XT.ll_gt_f hc164) ?_
     refine zS Ad W 2 (st' := (82, [vR 1, vI x1, vI x2, vL (x1.toInt64), none, vL (x2.toInt64), none, vL ((f_endOff o).toInt64), none], [.int (1:Int32)], (H0 s o))) rfl ?_
     obtain rfl := Option.some.inj h
     exact QTri.retZ rfl rfl
   ·refine zT Ad W (t := 83) (f := 67) rfl (XT.ii_ne_t hc163) ?_
    refine zS Ad W 1 (st' := (84, [vR 1, vI x1, vI x2, vL (x1.toInt64), none, vL (x2.toInt64), none, vL ((f_endOff o).toInt64), none], [.int (1:Int32)], (H0 s o))) rfl ?_
    obtain rfl := Option.some.inj h
    exact QTri.retZ rfl rfl
def J26_33 (o : Ob) (x1 : Int32) (x2 : Int32) (x3 : Int32) (x4 : Int32) : Option (Int32) :=
  (if x3 = (0 : Int32) then (if x4 = (0 : Int32) then (aget (f_keys o) x1).bind fun y175 => (aget (f_keys o) x2).bind fun y176 => (if y175 = y176 then some (1 : Int32) else some (0 : Int32)) else some (0 : Int32)) else some (0 : Int32))
theorem tJ26_33 (Ad : QAd n0 ad) (W : QW Z a0) (s : List Int32) (o : Ob) (x1 : Int32) (x2 : Int32) (x3 : Int32) (x4 : Int32) {r : Int32} (h : J26_33 o x1 x2 x3 x4 = some r) : QTri l Z n0 ad 26 (33, [vR 1, vI x1, vI x2, vI x3, vI x4], [], (H0 s o)) (some (Value.int r)) (H0 s o) := by
 unfold J26_33 at h
 refine zS Ad W 1 (st' := (34, [vR 1, vI x1, vI x2, vI x3, vI x4], [.int x3], (H0 s o))) rfl ?_
 rcases qite h with ⟨hc173, h⟩ | ⟨hc173, h⟩
 ·refine zF Ad W (t := 42) (f := 37) rfl (XT.i0_ne_f hc173) ?_
  refine zS Ad W 1 (st' := (39, [vR 1, vI x1, vI x2, vI x3, vI x4], [.int x4], (H0 s o))) rfl ?_
  rcases qite h with ⟨hc174, h⟩ | ⟨hc174, h⟩
  ·refine zT Ad W (t := 44) (f := 42) rfl (XT.i0_eq_t hc174) ?_
   refine zS Ad W 3 (st' := (49, [vR 1, vI x1, vI x2, vI x3, vI x4], [.int x1, .ref 3], (H0 s o))) rfl ?_
   obtain ⟨y175, hy175, h⟩ := bind_eq_some_iff.mp h
   refine zB Ad W (f := fun y175 => (50, [vR 1, vI x1, vI x2, vI x3, vI x4], [.int y175], (H0 s o))) rfl hy175 ?_
   refine zS Ad W 3 (st' := (55, [vR 1, vI x1, vI x2, vI x3, vI x4], [.int x2, .ref 3, .int y175], (H0 s o))) rfl ?_
   obtain ⟨y176, hy176, h⟩ := bind_eq_some_iff.mp h
   refine zB Ad W (f := fun y176 => (56, [vR 1, vI x1, vI x2, vI x3, vI x4], [.int y176, .int y175], (H0 s o))) rfl hy176 ?_
   rcases qite h with ⟨hc177, h⟩ | ⟨hc177, h⟩
   ·refine zF Ad W (t := 63) (f := 59) rfl (XT.ii_ne_f hc177) ?_
    refine zS Ad W 2 (st' := (64, [vR 1, vI x1, vI x2, vI x3, vI x4], [.int (1:Int32)], (H0 s o))) rfl ?_
    obtain rfl := Option.some.inj h
    exact QTri.retZ rfl rfl
   ·refine zT Ad W (t := 63) (f := 59) rfl (XT.ii_ne_t hc177) ?_
    refine zS Ad W 1 (st' := (64, [vR 1, vI x1, vI x2, vI x3, vI x4], [.int (0:Int32)], (H0 s o))) rfl ?_
    obtain rfl := Option.some.inj h
    exact QTri.retZ rfl rfl
  ·refine zF Ad W (t := 44) (f := 42) rfl (XT.i0_eq_f hc174) ?_
   refine zS Ad W 1 (st' := (43, [vR 1, vI x1, vI x2, vI x3, vI x4], [.int (0:Int32)], (H0 s o))) rfl ?_
   obtain rfl := Option.some.inj h
   exact QTri.retZ rfl rfl
 ·refine zT Ad W (t := 42) (f := 37) rfl (XT.i0_ne_t hc173) ?_
  refine zS Ad W 1 (st' := (43, [vR 1, vI x1, vI x2, vI x3, vI x4], [.int (0:Int32)], (H0 s o))) rfl ?_
  obtain rfl := Option.some.inj h
  exact QTri.retZ rfl rfl
/-- peer(II)Z -/
def F26 (o : Ob) (x1 : Int32) (x2 : Int32) : Option (Int32) :=
 (if (f_direction o) = (0:Int32) then some (1:Int32) else (F16 o x1).bind fun r170 => (F16 o x2).bind fun r171 => (if r170 = (0:Int32) then (J26_33 o x1 x2 r170 r171) else (if r171 = (0:Int32) then (J26_33 o x1 x2 r170 r171) else some (1:Int32))))
theorem tF26 (Ad : QAd n0 ad) (W : QW Z a0) (s : List Int32) (o : Ob) (x1 : Int32) (x2 : Int32) {r : Int32} (h : F26 o x1 x2 = some r) : QTri l Z n0 ad 26 (0, qentry [.ref 1, .int x1, .int x2] (pMaxL 26), [], (H0 s o)) (some (Value.int r)) (H0 s o) := by
 unfold F26 at h
 refine zS Ad W 2 (st' := (4, [vR 1, vI x1, vI x2, none, none], [.int (f_direction o)], (H0 s o))) rfl ?_
 rcases qite h with ⟨hc169, h⟩ | ⟨hc169, h⟩
 ·refine zF Ad W (t := 9) (f := 7) rfl (XT.i0_ne_f hc169) ?_
  refine zS Ad W 1 (st' := (8, [vR 1, vI x1, vI x2, none, none], [.int (1:Int32)], (H0 s o))) rfl ?_
  obtain rfl := Option.some.inj h
  exact QTri.retZ rfl rfl
 ·refine zT Ad W (t := 9) (f := 7) rfl (XT.i0_ne_t hc169) ?_
  refine zS Ad W 2 (st' := (11, [vR 1, vI x1, vI x2, none, none], [.int x1, .ref 1], (H0 s o))) rfl ?_
  obtain ⟨r170, hr170, h⟩ := bind_eq_some_iff.mp h
  refine QTri.callP W (a := 1) (as := [.int x1]) (rest := []) (w := (some (.int r170))) (σ₁ := (H0 s o)) rfl rfl rfl rfl rfl rfl rfl rfl (tF16 Ad W s o x1 hr170) ?_
  refine zS Ad W 3 (st' := (17, [vR 1, vI x1, vI x2, vI r170, none], [.int x2, .ref 1], (H0 s o))) rfl ?_
  obtain ⟨r171, hr171, h⟩ := bind_eq_some_iff.mp h
  refine QTri.callP W (a := 1) (as := [.int x2]) (rest := []) (w := (some (.int r171))) (σ₁ := (H0 s o)) rfl rfl rfl rfl rfl rfl rfl rfl (tF16 Ad W s o x2 hr171) ?_
  refine zS Ad W 2 (st' := (23, [vR 1, vI x1, vI x2, vI r170, vI r171], [.int r170], (H0 s o))) rfl ?_
  rcases qite h with ⟨hc172, h⟩ | ⟨hc172, h⟩
  ·refine zT Ad W (t := 33) (f := 26) rfl (XT.i0_eq_t hc172) ?_
   exact zM [tt,tt,tt,tt,tt] (tJ26_33 Ad W s o x1 x2 r170 r171 h)
  ·refine zF Ad W (t := 33) (f := 26) rfl (XT.i0_eq_f hc172) ?_
   refine zS Ad W 1 (st' := (28, [vR 1, vI x1, vI x2, vI r170, vI r171], [.int r171], (H0 s o))) rfl ?_
   rcases qite h with ⟨hc178, h⟩ | ⟨hc178, h⟩
   ·refine zT Ad W (t := 33) (f := 31) rfl (XT.i0_eq_t hc178) ?_
    exact zM [tt,tt,tt,tt,tt] (tJ26_33 Ad W s o x1 x2 r170 r171 h)
   ·refine zF Ad W (t := 33) (f := 31) rfl (XT.i0_eq_f hc178) ?_
    refine zS Ad W 1 (st' := (32, [vR 1, vI x1, vI x2, vI r170, vI r171], [.int (1:Int32)], (H0 s o))) rfl ?_
    obtain rfl := Option.some.inj h
    exact QTri.retZ rfl rfl
/-- distance(II)J -/
def F27 (o : Ob) (x1 : Int32) (x2 : Int32) : Option (Int64) :=
 (if (f_direction o) = (1:Int32) then (aget (f_keys o) x2).bind fun y190 => (aget (f_keys o) x1).bind fun y191 => some ((y190.toInt64) - (y191.toInt64)) else (if (f_direction o) = (2:Int32) then (aget (f_keys o) x1).bind fun y193 => (aget (f_keys o) x2).bind fun y194 => some ((y193.toInt64) - (y194.toInt64)) else some (0 : Int64)))
theorem tF27 (Ad : QAd n0 ad) (W : QW Z a0) (s : List Int32) (o : Ob) (x1 : Int32) (x2 : Int32) {r : Int64} (h : F27 o x1 x2 = some r) : QTri l Z n0 ad 27 (0, qentry [.ref 1, .int x1, .int x2] (pMaxL 27), [], (H0 s o)) (some (Value.long r)) (H0 s o) := by
 unfold F27 at h
 refine zS Ad W 3 (st' := (5, [vR 1, vI x1, vI x2], [.int (1:Int32), .int (f_direction o)], (H0 s o))) rfl ?_
 rcases qite h with ⟨hc189, h⟩ | ⟨hc189, h⟩
 ·refine zF Ad W (t := 24) (f := 8) rfl (XT.ii_ne_f hc189) ?_
  refine zS Ad W 3 (st' := (13, [vR 1, vI x1, vI x2], [.int x2, .ref 3], (H0 s o))) rfl ?_
  obtain ⟨y190, hy190, h⟩ := bind_eq_some_iff.mp h
  refine zB Ad W (f := fun y190 => (14, [vR 1, vI x1, vI x2], [.int y190], (H0 s o))) rfl hy190 ?_
  refine zS Ad W 4 (st' := (20, [vR 1, vI x1, vI x2], [.int x1, .ref 3, .long (y190.toInt64)], (H0 s o))) rfl ?_
  obtain ⟨y191, hy191, h⟩ := bind_eq_some_iff.mp h
  refine zB Ad W (f := fun y191 => (21, [vR 1, vI x1, vI x2], [.int y191, .long (y190.toInt64)], (H0 s o))) rfl hy191 ?_
  refine zS Ad W 2 (st' := (23, [vR 1, vI x1, vI x2], [.long ((y190.toInt64) - (y191.toInt64))], (H0 s o))) rfl ?_
  obtain rfl := Option.some.inj h
  exact QTri.retJ rfl rfl
 ·refine zT Ad W (t := 24) (f := 8) rfl (XT.ii_ne_t hc189) ?_
  refine zS Ad W 3 (st' := (29, [vR 1, vI x1, vI x2], [.int (2:Int32), .int (f_direction o)], (H0 s o))) rfl ?_
  rcases qite h with ⟨hc192, h⟩ | ⟨hc192, h⟩
  ·refine zF Ad W (t := 48) (f := 32) rfl (XT.ii_ne_f hc192) ?_
   refine zS Ad W 3 (st' := (37, [vR 1, vI x1, vI x2], [.int x1, .ref 3], (H0 s o))) rfl ?_
   obtain ⟨y193, hy193, h⟩ := bind_eq_some_iff.mp h
   refine zB Ad W (f := fun y193 => (38, [vR 1, vI x1, vI x2], [.int y193], (H0 s o))) rfl hy193 ?_
   refine zS Ad W 4 (st' := (44, [vR 1, vI x1, vI x2], [.int x2, .ref 3, .long (y193.toInt64)], (H0 s o))) rfl ?_
   obtain ⟨y194, hy194, h⟩ := bind_eq_some_iff.mp h
   refine zB Ad W (f := fun y194 => (45, [vR 1, vI x1, vI x2], [.int y194, .long (y193.toInt64)], (H0 s o))) rfl hy194 ?_
   refine zS Ad W 2 (st' := (47, [vR 1, vI x1, vI x2], [.long ((y193.toInt64) - (y194.toInt64))], (H0 s o))) rfl ?_
   obtain rfl := Option.some.inj h
   exact QTri.retJ rfl rfl
  ·refine zT Ad W (t := 48) (f := 32) rfl (XT.ii_ne_t hc192) ?_
   refine zS Ad W 1 (st' := (49, [vR 1, vI x1, vI x2], [.long (0 : Int64)], (H0 s o))) rfl ?_
   obtain rfl := Option.some.inj h
   exact QTri.retJ rfl rfl
/-- rangeStartHolds(IIII)Z -/
def F19 (o : Ob) (x1 : Int32) (x2 : Int32) (x3 : Int32) (x4 : Int32) : Option (Int32) :=
 (if (f_startKind o) = (0:Int32) then some (1:Int32) else (if (f_startKind o) = (4:Int32) then some (1:Int32) else (F26 o x1 x2).bind fun r179 => (if (f_startKind o) = (2:Int32) then some ((if r179 = (0:Int32) then (if x3 < x4 then (1:Int32) else (0:Int32)) else (1:Int32)) &&& 1) else (F16 o x1).bind fun r185 => (if r185 = (0:Int32) then (F16 o x2).bind fun r187 => (if r187 = (0:Int32) then (F27 o x1 x2).bind fun r195 => (if (f_startKind o) = (1:Int32) then (if r195 < (-((f_startOff o).toInt64)) then some (0:Int32) else some (1:Int32)) else (if r195 < ((f_startOff o).toInt64) then some (0:Int32) else some (1:Int32))) else (if (f_nulls o) = (1:Int32) then some (1:Int32) else some (0:Int32))) else some ((if r179 = (0:Int32) then (if x3 < x4 then (1:Int32) else (0:Int32)) else (1:Int32)) &&& 1)))))
theorem tF19 (Ad : QAd n0 ad) (W : QW Z a0) (s : List Int32) (o : Ob) (x1 : Int32) (x2 : Int32) (x3 : Int32) (x4 : Int32) {r : Int32} (h : F19 o x1 x2 x3 x4 = some r) : QTri l Z n0 ad 19 (0, qentry [.ref 1, .int x1, .int x2, .int x3, .int x4] (pMaxL 19), [], (H0 s o)) (some (Value.int r)) (H0 s o) := by
 unfold F19 at h
 refine zS Ad W 2 (st' := (4, [vR 1, vI x1, vI x2, vI x3, vI x4, none, none, none, none, none], [.int (f_startKind o)], (H0 s o))) rfl ?_
 rcases qite h with ⟨hc167, h⟩ | ⟨hc167, h⟩
 ·refine zT Ad W (t := 15) (f := 7) rfl (XT.i0_eq_t hc167) ?_
  refine zS Ad W 1 (st' := (16, [vR 1, vI x1, vI x2, vI x3, vI x4, none, none, none, none, none], [.int (1:Int32)], (H0 s o))) rfl ?_
  obtain rfl := Option.some.inj h
  exact QTri.retZ rfl rfl
 ·refine zF Ad W (t := 15) (f := 7) rfl (XT.i0_eq_f hc167) ?_
  refine zS Ad W 3 (st' := (12, [vR 1, vI x1, vI x2, vI x3, vI x4, none, none, none, none, none], [.int (4:Int32), .int (f_startKind o)], (H0 s o))) rfl ?_
  rcases qite h with ⟨hc168, h⟩ | ⟨hc168, h⟩
  ·refine zF Ad W (t := 17) (f := 15) rfl (XT.ii_ne_f hc168) ?_
   refine zS Ad W 1 (st' := (16, [vR 1, vI x1, vI x2, vI x3, vI x4, none, none, none, none, none], [.int (1:Int32)], (H0 s o))) rfl ?_
   obtain rfl := Option.some.inj h
   exact QTri.retZ rfl rfl
  ·refine zT Ad W (t := 17) (f := 15) rfl (XT.ii_ne_t hc168) ?_
   refine zS Ad W 3 (st' := (20, [vR 1, vI x1, vI x2, vI x3, vI x4, none, none, none, none, none], [.int x2, .int x1, .ref 1], (H0 s o))) rfl ?_
   obtain ⟨r179, hr179, h⟩ := bind_eq_some_iff.mp h
   refine QTri.callP W (a := 1) (as := [.int x1, .int x2]) (rest := []) (w := (some (.int r179))) (σ₁ := (H0 s o)) rfl rfl rfl rfl rfl rfl rfl rfl (tF26 Ad W s o x1 x2 hr179) ?_
   have K181 : ∀ z180 : Int32, z180 = (if r179 = (0:Int32) then (if x3 < x4 then (1:Int32) else (0:Int32)) else (1:Int32)) → QTri l Z n0 ad 19 (37, [vR 1, vI x1, vI x2, none, none, none, none, none, none, none], [.int z180], (H0 s o)) (some (Value.int r)) (H0 s o) := by
    intro z180 ez180
    subst ez180
    refine zS Ad W 4 (st' := (44, [vR 1, vI x1, vI x2, none, none, vI (if r179 = (0:Int32) then (if x3 < x4 then (1:Int32) else (0:Int32)) else (1:Int32)), none, none, none, none], [.int (2:Int32), .int (f_startKind o)], (H0 s o))) rfl ?_
    rcases qite h with ⟨hc184, h⟩ | ⟨hc184, h⟩
    ·refine zT Ad W (t := 55) (f := 47) rfl (XT.ii_eq_t hc184) ?_
     refine zS Ad W 1 (st' := (57, [vR 1, vI x1, vI x2, none, none, vI (if r179 = (0:Int32) then (if x3 < x4 then (1:Int32) else (0:Int32)) else (1:Int32)), none, none, none, none], [.int (if r179 = (0:Int32) then (if x3 < x4 then (1:Int32) else (0:Int32)) else (1:Int32))], (H0 s o))) rfl ?_
     obtain rfl := Option.some.inj h
     exact QTri.retZ rfl rfl
    ·refine zF Ad W (t := 55) (f := 47) rfl (XT.ii_eq_f hc184) ?_
     refine zS Ad W 2 (st' := (49, [vR 1, vI x1, vI x2, none, none, vI (if r179 = (0:Int32) then (if x3 < x4 then (1:Int32) else (0:Int32)) else (1:Int32)), none, none, none, none], [.int x1, .ref 1], (H0 s o))) rfl ?_
     obtain ⟨r185, hr185, h⟩ := bind_eq_some_iff.mp h
     refine QTri.callP W (a := 1) (as := [.int x1]) (rest := []) (w := (some (.int r185))) (σ₁ := (H0 s o)) rfl rfl rfl rfl rfl rfl rfl rfl (tF16 Ad W s o x1 hr185) ?_
     rcases qite h with ⟨hc186, h⟩ | ⟨hc186, h⟩
     ·refine zT Ad W (t := 58) (f := 55) rfl (XT.i0_eq_t hc186) ?_
      refine zS Ad W 2 (st' := (60, [vR 1, vI x1, vI x2, none, none, vI (if r179 = (0:Int32) then (if x3 < x4 then (1:Int32) else (0:Int32)) else (1:Int32)), none, none, none, none], [.int x2, .ref 1], (H0 s o))) rfl ?_
      obtain ⟨r187, hr187, h⟩ := bind_eq_some_iff.mp h
      refine QTri.callP W (a := 1) (as := [.int x2]) (rest := []) (w := (some (.int r187))) (σ₁ := (H0 s o)) rfl rfl rfl rfl rfl rfl rfl rfl (tF16 Ad W s o x2 hr187) ?_
      rcases qite h with ⟨hc188, h⟩ | ⟨hc188, h⟩
      ·refine zT Ad W (t := 80) (f := 66) rfl (XT.i0_eq_t hc188) ?_
       refine zS Ad W 3 (st' := (83, [vR 1, vI x1, vI x2, none, none, vI (if r179 = (0:Int32) then (if x3 < x4 then (1:Int32) else (0:Int32)) else (1:Int32)), none, none, none, none], [.int x2, .int x1, .ref 1], (H0 s o))) rfl ?_
       obtain ⟨r195, hr195, h⟩ := bind_eq_some_iff.mp h
       refine QTri.callP W (a := 1) (as := [.int x1, .int x2]) (rest := []) (w := (some (.long r195))) (σ₁ := (H0 s o)) rfl rfl rfl rfl rfl rfl rfl rfl (tF27 Ad W s o x1 x2 hr195) ?_
       refine zS Ad W 5 (st' := (95, [vR 1, vI x1, vI x2, none, none, vI (if r179 = (0:Int32) then (if x3 < x4 then (1:Int32) else (0:Int32)) else (1:Int32)), vL r195, none, vL ((f_startOff o).toInt64), none], [], (H0 s o))) rfl ?_
       refine zS Ad W 3 (st' := (100, [vR 1, vI x1, vI x2, none, none, vI (if r179 = (0:Int32) then (if x3 < x4 then (1:Int32) else (0:Int32)) else (1:Int32)), vL r195, none, vL ((f_startOff o).toInt64), none], [.int (1:Int32), .int (f_startKind o)], (H0 s o))) rfl ?_
       rcases qite h with ⟨hc196, h⟩ | ⟨hc196, h⟩
       ·refine zF Ad W (t := 118) (f := 103) rfl (XT.ii_ne_f hc196) ?_
        refine zS Ad W 4 (st' := (109, [vR 1, vI x1, vI x2, none, none, vI (if r179 = (0:Int32) then (if x3 < x4 then (1:Int32) else (0:Int32)) else (1:Int32)), vL r195, none, vL ((f_startOff o).toInt64), none], [.int (XT.cmpL r195 (-((f_startOff o).toInt64)))], (H0 s o))) rfl ?_
        rcases qite h with ⟨hc197, h⟩ | ⟨hc197, h⟩
        ·refine zT Ad W (t := 116) (f := 112) rfl (XT.ll_lt_t hc197) ?_
         refine zS Ad W 1 (st' := (117, [vR 1, vI x1, vI x2, none, none, vI (if r179 = (0:Int32) then (if x3 < x4 then (1:Int32) else (0:Int32)) else (1:Int32)), vL r195, none, vL ((f_startOff o).toInt64), none], [.int (0:Int32)], (H0 s o))) rfl ?_
         obtain rfl := Option.some.inj h
         exact QTri.retZ rfl rfl
        ·refine zF Ad W (t := 116) (f := 112) rfl (XT.ll_lt_f hc197) ?_
         refine zS Ad W 2 (st' := (117, [vR 1, vI x1, vI x2, none, none, vI (if r179 = (0:Int32) then (if x3 < x4 then (1:Int32) else (0:Int32)) else (1:Int32)), vL r195, none, vL ((f_startOff o).toInt64), none], [.int (1:Int32)], (H0 s o))) rfl ?_
         obtain rfl := Option.some.inj h
         exact QTri.retZ rfl rfl
       ·refine zT Ad W (t := 118) (f := 103) rfl (XT.ii_ne_t hc196) ?_
        refine zS Ad W 3 (st' := (123, [vR 1, vI x1, vI x2, none, none, vI (if r179 = (0:Int32) then (if x3 < x4 then (1:Int32) else (0:Int32)) else (1:Int32)), vL r195, none, vL ((f_startOff o).toInt64), none], [.int (XT.cmpL r195 ((f_startOff o).toInt64))], (H0 s o))) rfl ?_
        rcases qite h with ⟨hc198, h⟩ | ⟨hc198, h⟩
        ·refine zT Ad W (t := 130) (f := 126) rfl (XT.ll_lt_t hc198) ?_
         refine zS Ad W 1 (st' := (131, [vR 1, vI x1, vI x2, none, none, vI (if r179 = (0:Int32) then (if x3 < x4 then (1:Int32) else (0:Int32)) else (1:Int32)), vL r195, none, vL ((f_startOff o).toInt64), none], [.int (0:Int32)], (H0 s o))) rfl ?_
         obtain rfl := Option.some.inj h
         exact QTri.retZ rfl rfl
        ·refine zF Ad W (t := 130) (f := 126) rfl (XT.ll_lt_f hc198) ?_
         refine zS Ad W 2 (st' := (131, [vR 1, vI x1, vI x2, none, none, vI (if r179 = (0:Int32) then (if x3 < x4 then (1:Int32) else (0:Int32)) else (1:Int32)), vL r195, none, vL ((f_startOff o).toInt64), none], [.int (1:Int32)], (H0 s o))) rfl ?_
         obtain rfl := Option.some.inj h
         exact QTri.retZ rfl rfl
      ·refine zF Ad W (t := 80) (f := 66) rfl (XT.i0_eq_f hc188) ?_
       refine zS Ad W 3 (st' := (71, [vR 1, vI x1, vI x2, none, none, vI (if r179 = (0:Int32) then (if x3 < x4 then (1:Int32) else (0:Int32)) else (1:Int32)), none, none, none, none], [.int (1:Int32), .int (f_nulls o)], (H0 s o))) rfl ?_
       rcases qite h with ⟨hc199, h⟩ | ⟨hc199, h⟩
       ·refine zF Ad W (t := 78) (f := 74) rfl (XT.ii_ne_f hc199) ?_
        refine zS Ad W 2 (st' := (79, [vR 1, vI x1, vI x2, none, none, vI (if r179 = (0:Int32) then (if x3 < x4 then (1:Int32) else (0:Int32)) else (1:Int32)), none, none, none, none], [.int (1:Int32)], (H0 s o))) rfl ?_
        obtain rfl := Option.some.inj h
        exact QTri.retZ rfl rfl
       ·refine zT Ad W (t := 78) (f := 74) rfl (XT.ii_ne_t hc199) ?_
        refine zS Ad W 1 (st' := (79, [vR 1, vI x1, vI x2, none, none, vI (if r179 = (0:Int32) then (if x3 < x4 then (1:Int32) else (0:Int32)) else (1:Int32)), none, none, none, none], [.int (0:Int32)], (H0 s o))) rfl ?_
        obtain rfl := Option.some.inj h
        exact QTri.retZ rfl rfl
     ·refine zF Ad W (t := 58) (f := 55) rfl (XT.i0_eq_f hc186) ?_
      refine zS Ad W 1 (st' := (57, [vR 1, vI x1, vI x2, none, none, vI (if r179 = (0:Int32) then (if x3 < x4 then (1:Int32) else (0:Int32)) else (1:Int32)), none, none, none, none], [.int (if r179 = (0:Int32) then (if x3 < x4 then (1:Int32) else (0:Int32)) else (1:Int32))], (H0 s o))) rfl ?_
      obtain rfl := Option.some.inj h
      exact QTri.retZ rfl rfl
   rcases em (r179 = (0:Int32)) with hc182 | hc182
   ·refine zF Ad W (t := 32) (f := 26) rfl (XT.i0_ne_f hc182) ?_
    refine zS Ad W 2 (st' := (29, [vR 1, vI x1, vI x2, vI x3, vI x4, none, none, none, none, none], [.int x3, .int x4], (H0 s o))) rfl ?_
    rcases em (x3 < x4) with hc183 | hc183
    ·refine zF Ad W (t := 36) (f := 32) rfl (XT.ii_le_f hc183) ?_
     refine zS Ad W 2 (st' := (37, [vR 1, vI x1, vI x2, vI x3, vI x4, none, none, none, none, none], [.int (1:Int32)], (H0 s o))) rfl ?_
     exact zM [tt,tt,tt,ff,ff,ff,ff,ff,ff,ff] (K181 _ ((if_pos hc182).trans (if_pos hc183)).symm)
    ·refine zT Ad W (t := 36) (f := 32) rfl (XT.ii_le_t hc183) ?_
     refine zS Ad W 1 (st' := (37, [vR 1, vI x1, vI x2, vI x3, vI x4, none, none, none, none, none], [.int (0:Int32)], (H0 s o))) rfl ?_
     exact zM [tt,tt,tt,ff,ff,ff,ff,ff,ff,ff] (K181 _ ((if_pos hc182).trans (if_neg hc183)).symm)
   ·refine zT Ad W (t := 32) (f := 26) rfl (XT.i0_ne_t hc182) ?_
    refine zS Ad W 2 (st' := (37, [vR 1, vI x1, vI x2, vI x3, vI x4, none, none, none, none, none], [.int (1:Int32)], (H0 s o))) rfl ?_
    exact zM [tt,tt,tt,ff,ff,ff,ff,ff,ff,ff] (K181 _ (if_neg hc182).symm)
/-- rangeEndHolds(IIII)Z -/
def F20 (o : Ob) (x1 : Int32) (x2 : Int32) (x3 : Int32) (x4 : Int32) : Option (Int32) :=
 (if (f_endKind o) = (4:Int32) then some (1:Int32) else (if (f_endKind o) = (0:Int32) then some (1:Int32) else (F26 o x1 x2).bind fun r204 => (if (f_endKind o) = (2:Int32) then some ((if r204 = (0:Int32) then (if x4 < x3 then (1:Int32) else (0:Int32)) else (1:Int32)) &&& 1) else (F16 o x1).bind fun r210 => (if r210 = (0:Int32) then (F16 o x2).bind fun r212 => (if r212 = (0:Int32) then (F27 o x1 x2).bind fun r214 => (if (f_endKind o) = (1:Int32) then (if (-((f_endOff o).toInt64)) < r214 then some (0:Int32) else some (1:Int32)) else (if ((f_endOff o).toInt64) < r214 then some (0:Int32) else some (1:Int32))) else (if (f_nulls o) = (0:Int32) then some (1:Int32) else some (0:Int32))) else some ((if r204 = (0:Int32) then (if x4 < x3 then (1:Int32) else (0:Int32)) else (1:Int32)) &&& 1)))))
theorem tF20 (Ad : QAd n0 ad) (W : QW Z a0) (s : List Int32) (o : Ob) (x1 : Int32) (x2 : Int32) (x3 : Int32) (x4 : Int32) {r : Int32} (h : F20 o x1 x2 x3 x4 = some r) : QTri l Z n0 ad 20 (0, qentry [.ref 1, .int x1, .int x2, .int x3, .int x4] (pMaxL 20), [], (H0 s o)) (some (Value.int r)) (H0 s o) := by
 unfold F20 at h
 refine zS Ad W 3 (st' := (5, [vR 1, vI x1, vI x2, vI x3, vI x4, none, none, none, none, none], [.int (4:Int32), .int (f_endKind o)], (H0 s o))) rfl ?_
 rcases qite h with ⟨hc202, h⟩ | ⟨hc202, h⟩
 ·refine zT Ad W (t := 15) (f := 8) rfl (XT.ii_eq_t hc202) ?_
  refine zS Ad W 1 (st' := (16, [vR 1, vI x1, vI x2, vI x3, vI x4, none, none, none, none, none], [.int (1:Int32)], (H0 s o))) rfl ?_
  obtain rfl := Option.some.inj h
  exact QTri.retZ rfl rfl
 ·refine zF Ad W (t := 15) (f := 8) rfl (XT.ii_eq_f hc202) ?_
  refine zS Ad W 2 (st' := (12, [vR 1, vI x1, vI x2, vI x3, vI x4, none, none, none, none, none], [.int (f_endKind o)], (H0 s o))) rfl ?_
  rcases qite h with ⟨hc203, h⟩ | ⟨hc203, h⟩
  ·refine zF Ad W (t := 17) (f := 15) rfl (XT.i0_ne_f hc203) ?_
   refine zS Ad W 1 (st' := (16, [vR 1, vI x1, vI x2, vI x3, vI x4, none, none, none, none, none], [.int (1:Int32)], (H0 s o))) rfl ?_
   obtain rfl := Option.some.inj h
   exact QTri.retZ rfl rfl
  ·refine zT Ad W (t := 17) (f := 15) rfl (XT.i0_ne_t hc203) ?_
   refine zS Ad W 3 (st' := (20, [vR 1, vI x1, vI x2, vI x3, vI x4, none, none, none, none, none], [.int x2, .int x1, .ref 1], (H0 s o))) rfl ?_
   obtain ⟨r204, hr204, h⟩ := bind_eq_some_iff.mp h
   refine QTri.callP W (a := 1) (as := [.int x1, .int x2]) (rest := []) (w := (some (.int r204))) (σ₁ := (H0 s o)) rfl rfl rfl rfl rfl rfl rfl rfl (tF26 Ad W s o x1 x2 hr204) ?_
   have K206 : ∀ z205 : Int32, z205 = (if r204 = (0:Int32) then (if x4 < x3 then (1:Int32) else (0:Int32)) else (1:Int32)) → QTri l Z n0 ad 20 (37, [vR 1, vI x1, vI x2, none, none, none, none, none, none, none], [.int z205], (H0 s o)) (some (Value.int r)) (H0 s o) := by
    intro z205 ez205
    subst ez205
    refine zS Ad W 4 (st' := (44, [vR 1, vI x1, vI x2, none, none, vI (if r204 = (0:Int32) then (if x4 < x3 then (1:Int32) else (0:Int32)) else (1:Int32)), none, none, none, none], [.int (2:Int32), .int (f_endKind o)], (H0 s o))) rfl ?_
    rcases qite h with ⟨hc209, h⟩ | ⟨hc209, h⟩
    ·refine zT Ad W (t := 55) (f := 47) rfl (XT.ii_eq_t hc209) ?_
     refine zS Ad W 1 (st' := (57, [vR 1, vI x1, vI x2, none, none, vI (if r204 = (0:Int32) then (if x4 < x3 then (1:Int32) else (0:Int32)) else (1:Int32)), none, none, none, none], [.int (if r204 = (0:Int32) then (if x4 < x3 then (1:Int32) else (0:Int32)) else (1:Int32))], (H0 s o))) rfl ?_
     obtain rfl := Option.some.inj h
     exact QTri.retZ rfl rfl
    ·refine zF Ad W (t := 55) (f := 47) rfl (XT.ii_eq_f hc209) ?_
     refine zS Ad W 2 (st' := (49, [vR 1, vI x1, vI x2, none, none, vI (if r204 = (0:Int32) then (if x4 < x3 then (1:Int32) else (0:Int32)) else (1:Int32)), none, none, none, none], [.int x1, .ref 1], (H0 s o))) rfl ?_
     obtain ⟨r210, hr210, h⟩ := bind_eq_some_iff.mp h
     refine QTri.callP W (a := 1) (as := [.int x1]) (rest := []) (w := (some (.int r210))) (σ₁ := (H0 s o)) rfl rfl rfl rfl rfl rfl rfl rfl (tF16 Ad W s o x1 hr210) ?_
     rcases qite h with ⟨hc211, h⟩ | ⟨hc211, h⟩
     ·refine zT Ad W (t := 58) (f := 55) rfl (XT.i0_eq_t hc211) ?_
      refine zS Ad W 2 (st' := (60, [vR 1, vI x1, vI x2, none, none, vI (if r204 = (0:Int32) then (if x4 < x3 then (1:Int32) else (0:Int32)) else (1:Int32)), none, none, none, none], [.int x2, .ref 1], (H0 s o))) rfl ?_
      obtain ⟨r212, hr212, h⟩ := bind_eq_some_iff.mp h
      refine QTri.callP W (a := 1) (as := [.int x2]) (rest := []) (w := (some (.int r212))) (σ₁ := (H0 s o)) rfl rfl rfl rfl rfl rfl rfl rfl (tF16 Ad W s o x2 hr212) ?_
      rcases qite h with ⟨hc213, h⟩ | ⟨hc213, h⟩
      ·refine zT Ad W (t := 79) (f := 66) rfl (XT.i0_eq_t hc213) ?_
       refine zS Ad W 3 (st' := (82, [vR 1, vI x1, vI x2, none, none, vI (if r204 = (0:Int32) then (if x4 < x3 then (1:Int32) else (0:Int32)) else (1:Int32)), none, none, none, none], [.int x2, .int x1, .ref 1], (H0 s o))) rfl ?_
       obtain ⟨r214, hr214, h⟩ := bind_eq_some_iff.mp h
       refine QTri.callP W (a := 1) (as := [.int x1, .int x2]) (rest := []) (w := (some (.long r214))) (σ₁ := (H0 s o)) rfl rfl rfl rfl rfl rfl rfl rfl (tF27 Ad W s o x1 x2 hr214) ?_
       refine zS Ad W 5 (st' := (94, [vR 1, vI x1, vI x2, none, none, vI (if r204 = (0:Int32) then (if x4 < x3 then (1:Int32) else (0:Int32)) else (1:Int32)), vL r214, none, vL ((f_endOff o).toInt64), none], [], (H0 s o))) rfl ?_
       refine zS Ad W 3 (st' := (99, [vR 1, vI x1, vI x2, none, none, vI (if r204 = (0:Int32) then (if x4 < x3 then (1:Int32) else (0:Int32)) else (1:Int32)), vL r214, none, vL ((f_endOff o).toInt64), none], [.int (1:Int32), .int (f_endKind o)], (H0 s o))) rfl ?_
       rcases qite h with ⟨hc215, h⟩ | ⟨hc215, h⟩
       ·refine zF Ad W (t := 117) (f := 102) rfl (XT.ii_ne_f hc215) ?_
        refine zS Ad W 4 (st' := (108, [vR 1, vI x1, vI x2, none, none, vI (if r204 = (0:Int32) then (if x4 < x3 then (1:Int32) else (0:Int32)) else (1:Int32)), vL r214, none, vL ((f_endOff o).toInt64), none], [.int (XT.cmpL r214 (-((f_endOff o).toInt64)))], (H0 s o))) rfl ?_
        rcases qite h with ⟨hc216, h⟩ | ⟨hc216, h⟩
        ·refine zT Ad W (t := 115) (f := 111) rfl (XT.ll_gt_t hc216) ?_
         refine zS Ad W 1 (st' := (116, [vR 1, vI x1, vI x2, none, none, vI (if r204 = (0:Int32) then (if x4 < x3 then (1:Int32) else (0:Int32)) else (1:Int32)), vL r214, none, vL ((f_endOff o).toInt64), none], [.int (0:Int32)], (H0 s o))) rfl ?_
         obtain rfl := Option.some.inj h
         exact QTri.retZ rfl rfl
        ·refine zF Ad W (t := 115) (f := 111) rfl (XT.ll_gt_f hc216) ?_
         refine zS Ad W 2 (st' := (116, [vR 1, vI x1, vI x2, none, none, vI (if r204 = (0:Int32) then (if x4 < x3 then (1:Int32) else (0:Int32)) else (1:Int32)), vL r214, none, vL ((f_endOff o).toInt64), none], [.int (1:Int32)], (H0 s o))) rfl ?_
         obtain rfl := Option.some.inj h
         exact QTri.retZ rfl rfl
       ·refine zT Ad W (t := 117) (f := 102) rfl (XT.ii_ne_t hc215) ?_
        refine zS Ad W 3 (st' := (122, [vR 1, vI x1, vI x2, none, none, vI (if r204 = (0:Int32) then (if x4 < x3 then (1:Int32) else (0:Int32)) else (1:Int32)), vL r214, none, vL ((f_endOff o).toInt64), none], [.int (XT.cmpL r214 ((f_endOff o).toInt64))], (H0 s o))) rfl ?_
        rcases qite h with ⟨hc217, h⟩ | ⟨hc217, h⟩
        ·refine zT Ad W (t := 129) (f := 125) rfl (XT.ll_gt_t hc217) ?_
         refine zS Ad W 1 (st' := (130, [vR 1, vI x1, vI x2, none, none, vI (if r204 = (0:Int32) then (if x4 < x3 then (1:Int32) else (0:Int32)) else (1:Int32)), vL r214, none, vL ((f_endOff o).toInt64), none], [.int (0:Int32)], (H0 s o))) rfl ?_
         obtain rfl := Option.some.inj h
         exact QTri.retZ rfl rfl
        ·refine zF Ad W (t := 129) (f := 125) rfl (XT.ll_gt_f hc217) ?_
         refine zS Ad W 2 (st' := (130, [vR 1, vI x1, vI x2, none, none, vI (if r204 = (0:Int32) then (if x4 < x3 then (1:Int32) else (0:Int32)) else (1:Int32)), vL r214, none, vL ((f_endOff o).toInt64), none], [.int (1:Int32)], (H0 s o))) rfl ?_
         obtain rfl := Option.some.inj h
         exact QTri.retZ rfl rfl
      ·refine zF Ad W (t := 79) (f := 66) rfl (XT.i0_eq_f hc213) ?_
       refine zS Ad W 2 (st' := (70, [vR 1, vI x1, vI x2, none, none, vI (if r204 = (0:Int32) then (if x4 < x3 then (1:Int32) else (0:Int32)) else (1:Int32)), none, none, none, none], [.int (f_nulls o)], (H0 s o))) rfl ?_
       rcases qite h with ⟨hc218, h⟩ | ⟨hc218, h⟩
       ·refine zF Ad W (t := 77) (f := 73) rfl (XT.i0_ne_f hc218) ?_
        refine zS Ad W 2 (st' := (78, [vR 1, vI x1, vI x2, none, none, vI (if r204 = (0:Int32) then (if x4 < x3 then (1:Int32) else (0:Int32)) else (1:Int32)), none, none, none, none], [.int (1:Int32)], (H0 s o))) rfl ?_
        obtain rfl := Option.some.inj h
        exact QTri.retZ rfl rfl
       ·refine zT Ad W (t := 77) (f := 73) rfl (XT.i0_ne_t hc218) ?_
        refine zS Ad W 1 (st' := (78, [vR 1, vI x1, vI x2, none, none, vI (if r204 = (0:Int32) then (if x4 < x3 then (1:Int32) else (0:Int32)) else (1:Int32)), none, none, none, none], [.int (0:Int32)], (H0 s o))) rfl ?_
        obtain rfl := Option.some.inj h
        exact QTri.retZ rfl rfl
     ·refine zF Ad W (t := 58) (f := 55) rfl (XT.i0_eq_f hc211) ?_
      refine zS Ad W 1 (st' := (57, [vR 1, vI x1, vI x2, none, none, vI (if r204 = (0:Int32) then (if x4 < x3 then (1:Int32) else (0:Int32)) else (1:Int32)), none, none, none, none], [.int (if r204 = (0:Int32) then (if x4 < x3 then (1:Int32) else (0:Int32)) else (1:Int32))], (H0 s o))) rfl ?_
      obtain rfl := Option.some.inj h
      exact QTri.retZ rfl rfl
   rcases em (r204 = (0:Int32)) with hc207 | hc207
   ·refine zF Ad W (t := 32) (f := 26) rfl (XT.i0_ne_f hc207) ?_
    refine zS Ad W 2 (st' := (29, [vR 1, vI x1, vI x2, vI x3, vI x4, none, none, none, none, none], [.int x3, .int x4], (H0 s o))) rfl ?_
    rcases em (x4 < x3) with hc208 | hc208
    ·refine zF Ad W (t := 36) (f := 32) rfl (XT.ii_ge_f hc208) ?_
     refine zS Ad W 2 (st' := (37, [vR 1, vI x1, vI x2, vI x3, vI x4, none, none, none, none, none], [.int (1:Int32)], (H0 s o))) rfl ?_
     exact zM [tt,tt,tt,ff,ff,ff,ff,ff,ff,ff] (K206 _ ((if_pos hc207).trans (if_pos hc208)).symm)
    ·refine zT Ad W (t := 36) (f := 32) rfl (XT.ii_ge_t hc208) ?_
     refine zS Ad W 1 (st' := (37, [vR 1, vI x1, vI x2, vI x3, vI x4, none, none, none, none, none], [.int (0:Int32)], (H0 s o))) rfl ?_
     exact zM [tt,tt,tt,ff,ff,ff,ff,ff,ff,ff] (K206 _ ((if_pos hc207).trans (if_neg hc208)).symm)
   ·refine zT Ad W (t := 32) (f := 26) rfl (XT.i0_ne_t hc207) ?_
    refine zS Ad W 2 (st' := (37, [vR 1, vI x1, vI x2, vI x3, vI x4, none, none, none, none, none], [.int (1:Int32)], (H0 s o))) rfl ?_
    exact zM [tt,tt,tt,ff,ff,ff,ff,ff,ff,ff] (K206 _ (if_neg hc207).symm)
/-- inFrame(IIII)Z -/
def F18 (o : Ob) (x1 : Int32) (x2 : Int32) (x3 : Int32) (x4 : Int32) : Option (Int32) :=
 (if (f_mode o) = (0:Int32) then (F31 o x3 x4).bind fun r157 => (if r157 = (0:Int32) then some (0:Int32) else (F32 o x3 x4).bind fun r165 => (if r165 = (0:Int32) then some (0:Int32) else some (1:Int32))) else (F19 o x1 x2 x3 x4).bind fun r200 => (if r200 = (0:Int32) then some (0:Int32) else (F20 o x1 x2 x3 x4).bind fun r219 => (if r219 = (0:Int32) then some (0:Int32) else some (1:Int32))))
theorem tF18 (Ad : QAd n0 ad) (W : QW Z a0) (s : List Int32) (o : Ob) (x1 : Int32) (x2 : Int32) (x3 : Int32) (x4 : Int32) {r : Int32} (h : F18 o x1 x2 x3 x4 = some r) : QTri l Z n0 ad 18 (0, qentry [.ref 1, .int x1, .int x2, .int x3, .int x4] (pMaxL 18), [], (H0 s o)) (some (Value.int r)) (H0 s o) := by
 unfold F18 at h
 refine zS Ad W 2 (st' := (4, [vR 1, vI x1, vI x2, vI x3, vI x4], [.int (f_mode o)], (H0 s o))) rfl ?_
 rcases qite h with ⟨hc150, h⟩ | ⟨hc150, h⟩
 ·refine zF Ad W (t := 33) (f := 7) rfl (XT.i0_ne_f hc150) ?_
  refine zS Ad W 3 (st' := (11, [vR 1, vI x1, vI x2, vI x3, vI x4], [.int x4, .int x3, .ref 1], (H0 s o))) rfl ?_
  obtain ⟨r157, hr157, h⟩ := bind_eq_some_iff.mp h
  refine QTri.callP W (a := 1) (as := [.int x3, .int x4]) (rest := []) (w := (some (.int r157))) (σ₁ := (H0 s o)) rfl rfl rfl rfl rfl rfl rfl rfl (tF31 Ad W s o x3 x4 hr157) ?_
  rcases qite h with ⟨hc158, h⟩ | ⟨hc158, h⟩
  ·refine zT Ad W (t := 31) (f := 17) rfl (XT.i0_eq_t hc158) ?_
   refine zS Ad W 1 (st' := (32, [vR 1, vI x1, vI x2, vI x3, vI x4], [.int (0:Int32)], (H0 s o))) rfl ?_
   obtain rfl := Option.some.inj h
   exact QTri.retZ rfl rfl
  ·refine zF Ad W (t := 31) (f := 17) rfl (XT.i0_eq_f hc158) ?_
   refine zS Ad W 3 (st' := (21, [vR 1, vI x1, vI x2, vI x3, vI x4], [.int x4, .int x3, .ref 1], (H0 s o))) rfl ?_
   obtain ⟨r165, hr165, h⟩ := bind_eq_some_iff.mp h
   refine QTri.callP W (a := 1) (as := [.int x3, .int x4]) (rest := []) (w := (some (.int r165))) (σ₁ := (H0 s o)) rfl rfl rfl rfl rfl rfl rfl rfl (tF32 Ad W s o x3 x4 hr165) ?_
   rcases qite h with ⟨hc166, h⟩ | ⟨hc166, h⟩
   ·refine zT Ad W (t := 31) (f := 27) rfl (XT.i0_eq_t hc166) ?_
    refine zS Ad W 1 (st' := (32, [vR 1, vI x1, vI x2, vI x3, vI x4], [.int (0:Int32)], (H0 s o))) rfl ?_
    obtain rfl := Option.some.inj h
    exact QTri.retZ rfl rfl
   ·refine zF Ad W (t := 31) (f := 27) rfl (XT.i0_eq_f hc166) ?_
    refine zS Ad W 2 (st' := (32, [vR 1, vI x1, vI x2, vI x3, vI x4], [.int (1:Int32)], (H0 s o))) rfl ?_
    obtain rfl := Option.some.inj h
    exact QTri.retZ rfl rfl
 ·refine zT Ad W (t := 33) (f := 7) rfl (XT.i0_ne_t hc150) ?_
  refine zS Ad W 5 (st' := (39, [vR 1, vI x1, vI x2, vI x3, vI x4], [.int x4, .int x3, .int x2, .int x1, .ref 1], (H0 s o))) rfl ?_
  obtain ⟨r200, hr200, h⟩ := bind_eq_some_iff.mp h
  refine QTri.callP W (a := 1) (as := [.int x1, .int x2, .int x3, .int x4]) (rest := []) (w := (some (.int r200))) (σ₁ := (H0 s o)) rfl rfl rfl rfl rfl rfl rfl rfl (tF19 Ad W s o x1 x2 x3 x4 hr200) ?_
  rcases qite h with ⟨hc201, h⟩ | ⟨hc201, h⟩
  ·refine zT Ad W (t := 61) (f := 45) rfl (XT.i0_eq_t hc201) ?_
   refine zS Ad W 1 (st' := (62, [vR 1, vI x1, vI x2, vI x3, vI x4], [.int (0:Int32)], (H0 s o))) rfl ?_
   obtain rfl := Option.some.inj h
   exact QTri.retZ rfl rfl
  ·refine zF Ad W (t := 61) (f := 45) rfl (XT.i0_eq_f hc201) ?_
   refine zS Ad W 5 (st' := (51, [vR 1, vI x1, vI x2, vI x3, vI x4], [.int x4, .int x3, .int x2, .int x1, .ref 1], (H0 s o))) rfl ?_
   obtain ⟨r219, hr219, h⟩ := bind_eq_some_iff.mp h
   refine QTri.callP W (a := 1) (as := [.int x1, .int x2, .int x3, .int x4]) (rest := []) (w := (some (.int r219))) (σ₁ := (H0 s o)) rfl rfl rfl rfl rfl rfl rfl rfl (tF20 Ad W s o x1 x2 x3 x4 hr219) ?_
   rcases qite h with ⟨hc220, h⟩ | ⟨hc220, h⟩
   ·refine zT Ad W (t := 61) (f := 57) rfl (XT.i0_eq_t hc220) ?_
    refine zS Ad W 1 (st' := (62, [vR 1, vI x1, vI x2, vI x3, vI x4], [.int (0:Int32)], (H0 s o))) rfl ?_
    obtain rfl := Option.some.inj h
    exact QTri.retZ rfl rfl
   ·refine zF Ad W (t := 61) (f := 57) rfl (XT.i0_eq_f hc220) ?_
    refine zS Ad W 2 (st' := (62, [vR 1, vI x1, vI x2, vI x3, vI x4], [.int (1:Int32)], (H0 s o))) rfl ?_
    obtain rfl := Option.some.inj h
    exact QTri.retZ rfl rfl
def J17_166 (o : Ob) (x1 : Int32) (x2 : Int32) (x3 : Int32) (x4 : Int32) : Option (((Ob)) ⊕ (Int32 × Ob)) :=
  some (.inr ((x4 + (1 : Int32)), o))
theorem tJ17_166 (Ad : QAd n0 ad) (W : QW Z a0) (s : List Int32) (o : Ob) (x1 : Int32) (x2 : Int32) (x3 : Int32) (x4 : Int32) {r : ((Ob)) ⊕ (Int32 × Ob)} {u : Option Value} {τ : QHeap} (h : J17_166 o x1 x2 x3 x4 = some r) (hx0 : ∀ x : Ob, r = .inl x → u = (none : Option Value) ∧ τ = (H0 s x)) (hc : ∀ x : Int32 × Ob, r = .inr x → QTri l Z n0 ad 17 (38, [vR 1, vI x1, vI x2, vI x3, vI x.1, none, none], [], (H0 s x.2)) u τ) : QTri l Z n0 ad 17 (166, [vR 1, vI x1, vI x2, vI x3, vI x4, none, none], [], (H0 s o)) u τ := by
 unfold J17_166 at h
 refine zS Ad W 2 (st' := (38, [vR 1, vI x1, vI x2, vI x3, vI (x4 + (1:Int32)), none, none], [], (H0 s o))) rfl ?_
 obtain rfl := Option.some.inj h
 exact zM [tt,tt,tt,tt,tt,ff,ff] (hc ((x4 + (1:Int32)), o) rfl)
def H0x36 (s : List Int32) (o0 : Ob) (a0_24 : Int32) : QHeap := H0v s (f_part o0) (f_keys o0) (f_vals o0) (f_flg o0) (f_res o0) (f_resNull o0) (f_frameCnt o0) (f_sorted o0) (f_cap o0) (f_rows o0) (f_direction o0) (f_nulls o0) (f_mode o0) (f_startKind o0) (f_startOff o0) (f_endKind o0) (f_endOff o0) (f_fn o0) (f_fnArg o0) (f_computed o0) (f_sortedLen o0) (f_curPos o0) (f_aggSum o0) (f_aggCount o0) a0_24 (f_aggMin o0) (f_aggMax o0)
/-- valNull(I)Z -/
def F21 (o : Ob) (x1 : Int32) : Option (Int32) :=
 (aget (f_flg o) x1).bind fun y224 => (if (y224 &&& (2:Int32)) = (0:Int32) then some (0:Int32) else some (1:Int32))
theorem tF21 (Ad : QAd n0 ad) (W : QW Z a0) (s : List Int32) (o : Ob) (x1 : Int32) {r : Int32} (h : F21 o x1 = some r) : QTri l Z n0 ad 21 (0, qentry [.ref 1, .int x1] (pMaxL 21), [], (H0 s o)) (some (Value.int r)) (H0 s o) := by
 unfold F21 at h
 refine zS Ad W 3 (st' := (5, [vR 1, vI x1], [.int x1, .ref 5], (H0 s o))) rfl ?_
 obtain ⟨y224, hy224, h⟩ := bind_eq_some_iff.mp h
 refine zB Ad W (f := fun y224 => (6, [vR 1, vI x1], [.int y224], (H0 s o))) rfl hy224 ?_
 refine zS Ad W 2 (st' := (8, [vR 1, vI x1], [.int (y224 &&& (2:Int32))], (H0 s o))) rfl ?_
 rcases qite h with ⟨hc225, h⟩ | ⟨hc225, h⟩
 ·refine zT Ad W (t := 15) (f := 11) rfl (XT.i0_eq_t hc225) ?_
  refine zS Ad W 1 (st' := (16, [vR 1, vI x1], [.int (0:Int32)], (H0 s o))) rfl ?_
  obtain rfl := Option.some.inj h
  exact QTri.retZ rfl rfl
 ·refine zF Ad W (t := 15) (f := 11) rfl (XT.i0_eq_f hc225) ?_
  refine zS Ad W 2 (st' := (16, [vR 1, vI x1], [.int (1:Int32)], (H0 s o))) rfl ?_
  obtain rfl := Option.some.inj h
  exact QTri.retZ rfl rfl
def H0x37 (s : List Int32) (o0 : Ob) (a0_25 : Int32) : QHeap := H0v s (f_part o0) (f_keys o0) (f_vals o0) (f_flg o0) (f_res o0) (f_resNull o0) (f_frameCnt o0) (f_sorted o0) (f_cap o0) (f_rows o0) (f_direction o0) (f_nulls o0) (f_mode o0) (f_startKind o0) (f_startOff o0) (f_endKind o0) (f_endOff o0) (f_fn o0) (f_fnArg o0) (f_computed o0) (f_sortedLen o0) (f_curPos o0) (f_aggSum o0) (f_aggCount o0) (f_aggRows o0) a0_25 (f_aggMax o0)
def H0x38 (s : List Int32) (o0 : Ob) (a0_26 : Int32) : QHeap := H0v s (f_part o0) (f_keys o0) (f_vals o0) (f_flg o0) (f_res o0) (f_resNull o0) (f_frameCnt o0) (f_sorted o0) (f_cap o0) (f_rows o0) (f_direction o0) (f_nulls o0) (f_mode o0) (f_startKind o0) (f_startOff o0) (f_endKind o0) (f_endOff o0) (f_fn o0) (f_fnArg o0) (f_computed o0) (f_sortedLen o0) (f_curPos o0) (f_aggSum o0) (f_aggCount o0) (f_aggRows o0) (f_aggMin o0) a0_26
def H0x39 (s : List Int32) (o0 : Ob) (a0_23 : Int32) : QHeap := H0v s (f_part o0) (f_keys o0) (f_vals o0) (f_flg o0) (f_res o0) (f_resNull o0) (f_frameCnt o0) (f_sorted o0) (f_cap o0) (f_rows o0) (f_direction o0) (f_nulls o0) (f_mode o0) (f_startKind o0) (f_startOff o0) (f_endKind o0) (f_endOff o0) (f_fn o0) (f_fnArg o0) (f_computed o0) (f_sortedLen o0) (f_curPos o0) (f_aggSum o0) a0_23 (f_aggRows o0) (f_aggMin o0) (f_aggMax o0)
def J17_144 (o : Ob) (x1 : Int32) (x2 : Int32) (x3 : Int32) (x4 : Int32) (x6 : Int32) : Option (((Ob)) ⊕ (Int32 × Ob)) :=
  (J17_166 (s_aggSum (s_aggCount o ((f_aggCount o) + (1 : Int32))) ((f_aggSum o) + (x6.toInt64))) x1 x2 x3 x4)
theorem tJ17_144 (Ad : QAd n0 ad) (W : QW Z a0) (s : List Int32) (o : Ob) (x1 : Int32) (x2 : Int32) (x3 : Int32) (x4 : Int32) (x6 : Int32) {r : ((Ob)) ⊕ (Int32 × Ob)} {u : Option Value} {τ : QHeap} (h : J17_144 o x1 x2 x3 x4 x6 = some r) (hx0 : ∀ x : Ob, r = .inl x → u = (none : Option Value) ∧ τ = (H0 s x)) (hc : ∀ x : Int32 × Ob, r = .inr x → QTri l Z n0 ad 17 (38, [vR 1, vI x1, vI x2, vI x3, vI x.1, none, none], [], (H0 s x.2)) u τ) : QTri l Z n0 ad 17 (144, [vR 1, vI x1, vI x2, vI x3, vI x4, none, vI x6], [], (H0 s o)) u τ := by
 unfold J17_144 at h
 refine zS Ad W 6 (st' := (154, [vR 1, vI x1, vI x2, vI x3, vI x4, none, vI x6], [], (H0x39 s o ((f_aggCount o) + (1:Int32))))) rfl ?_
 refine zS Ad W 7 (st' := (166, [vR 1, vI x1, vI x2, vI x3, vI x4, none, vI x6], [], (H0x32 s o ((f_aggSum o) + (x6.toInt64)) ((f_aggCount o) + (1:Int32))))) rfl ?_
 have E233 : ((H0x32 s o ((f_aggSum o) + (x6.toInt64)) ((f_aggCount o) + (1:Int32))) : QHeap) = (H0 s (s_aggSum (s_aggCount o ((f_aggCount o) + (1:Int32))) ((f_aggSum o) + (x6.toInt64)))) := by simp only [fs, H0, H0v, H0x32, s_aggSum, s_aggCount]
 rw [E233]
 exact zM [tt,tt,tt,tt,tt,ff,ff] (tJ17_166 Ad W s (s_aggSum (s_aggCount o ((f_aggCount o) + (1:Int32))) ((f_aggSum o) + (x6.toInt64))) x1 x2 x3 x4 h hx0 hc)
def J17_138 (o : Ob) (x1 : Int32) (x2 : Int32) (x3 : Int32) (x4 : Int32) (x6 : Int32) : Option (((Ob)) ⊕ (Int32 × Ob)) :=
  (J17_144 (s_aggMax o x6) x1 x2 x3 x4 x6)
theorem tJ17_138 (Ad : QAd n0 ad) (W : QW Z a0) (s : List Int32) (o : Ob) (x1 : Int32) (x2 : Int32) (x3 : Int32) (x4 : Int32) (x6 : Int32) {r : ((Ob)) ⊕ (Int32 × Ob)} {u : Option Value} {τ : QHeap} (h : J17_138 o x1 x2 x3 x4 x6 = some r) (hx0 : ∀ x : Ob, r = .inl x → u = (none : Option Value) ∧ τ = (H0 s x)) (hc : ∀ x : Int32 × Ob, r = .inr x → QTri l Z n0 ad 17 (38, [vR 1, vI x1, vI x2, vI x3, vI x.1, none, none], [], (H0 s x.2)) u τ) : QTri l Z n0 ad 17 (138, [vR 1, vI x1, vI x2, vI x3, vI x4, none, vI x6], [], (H0 s o)) u τ := by
 unfold J17_138 at h
 refine zS Ad W 3 (st' := (144, [vR 1, vI x1, vI x2, vI x3, vI x4, none, vI x6], [], (H0x38 s o x6))) rfl ?_
 have E232 : ((H0x38 s o x6) : QHeap) = (H0 s (s_aggMax o x6)) := by simp only [fs, H0, H0v, H0x38, s_aggMax]
 rw [E232]
 exact zM [tt,tt,tt,tt,tt,ff,tt] (tJ17_144 Ad W s (s_aggMax o x6) x1 x2 x3 x4 x6 h hx0 hc)
def J17_122 (o : Ob) (x1 : Int32) (x2 : Int32) (x3 : Int32) (x4 : Int32) (x6 : Int32) : Option (((Ob)) ⊕ (Int32 × Ob)) :=
  (if (f_aggCount o) = (0 : Int32) then (J17_138 o x1 x2 x3 x4 x6) else (if (f_aggMax o) < x6 then (J17_138 o x1 x2 x3 x4 x6) else (J17_144 o x1 x2 x3 x4 x6)))
theorem tJ17_122 (Ad : QAd n0 ad) (W : QW Z a0) (s : List Int32) (o : Ob) (x1 : Int32) (x2 : Int32) (x3 : Int32) (x4 : Int32) (x6 : Int32) {r : ((Ob)) ⊕ (Int32 × Ob)} {u : Option Value} {τ : QHeap} (h : J17_122 o x1 x2 x3 x4 x6 = some r) (hx0 : ∀ x : Ob, r = .inl x → u = (none : Option Value) ∧ τ = (H0 s x)) (hc : ∀ x : Int32 × Ob, r = .inr x → QTri l Z n0 ad 17 (38, [vR 1, vI x1, vI x2, vI x3, vI x.1, none, none], [], (H0 s x.2)) u τ) : QTri l Z n0 ad 17 (122, [vR 1, vI x1, vI x2, vI x3, vI x4, none, vI x6], [], (H0 s o)) u τ := by
 unfold J17_122 at h
 refine zS Ad W 2 (st' := (126, [vR 1, vI x1, vI x2, vI x3, vI x4, none, vI x6], [.int (f_aggCount o)], (H0 s o))) rfl ?_
 rcases qite h with ⟨hc231, h⟩ | ⟨hc231, h⟩
 ·refine zT Ad W (t := 138) (f := 129) rfl (XT.i0_eq_t hc231) ?_
  exact zM [tt,tt,tt,tt,tt,ff,tt] (tJ17_138 Ad W s o x1 x2 x3 x4 x6 h hx0 hc)
 ·refine zF Ad W (t := 138) (f := 129) rfl (XT.i0_eq_f hc231) ?_
  refine zS Ad W 3 (st' := (135, [vR 1, vI x1, vI x2, vI x3, vI x4, none, vI x6], [.int (f_aggMax o), .int x6], (H0 s o))) rfl ?_
  rcases qite h with ⟨hc234, h⟩ | ⟨hc234, h⟩
  ·refine zF Ad W (t := 144) (f := 138) rfl (XT.ii_le_f hc234) ?_
   exact zM [tt,tt,tt,tt,tt,ff,tt] (tJ17_138 Ad W s o x1 x2 x3 x4 x6 h hx0 hc)
  ·refine zT Ad W (t := 144) (f := 138) rfl (XT.ii_le_t hc234) ?_
   exact zM [tt,tt,tt,tt,tt,ff,tt] (tJ17_144 Ad W s o x1 x2 x3 x4 x6 h hx0 hc)
def J17_116 (o : Ob) (x1 : Int32) (x2 : Int32) (x3 : Int32) (x4 : Int32) (x6 : Int32) : Option (((Ob)) ⊕ (Int32 × Ob)) :=
  (J17_122 (s_aggMin o x6) x1 x2 x3 x4 x6)
theorem tJ17_116 (Ad : QAd n0 ad) (W : QW Z a0) (s : List Int32) (o : Ob) (x1 : Int32) (x2 : Int32) (x3 : Int32) (x4 : Int32) (x6 : Int32) {r : ((Ob)) ⊕ (Int32 × Ob)} {u : Option Value} {τ : QHeap} (h : J17_116 o x1 x2 x3 x4 x6 = some r) (hx0 : ∀ x : Ob, r = .inl x → u = (none : Option Value) ∧ τ = (H0 s x)) (hc : ∀ x : Int32 × Ob, r = .inr x → QTri l Z n0 ad 17 (38, [vR 1, vI x1, vI x2, vI x3, vI x.1, none, none], [], (H0 s x.2)) u τ) : QTri l Z n0 ad 17 (116, [vR 1, vI x1, vI x2, vI x3, vI x4, none, vI x6], [], (H0 s o)) u τ := by
 unfold J17_116 at h
 refine zS Ad W 3 (st' := (122, [vR 1, vI x1, vI x2, vI x3, vI x4, none, vI x6], [], (H0x37 s o x6))) rfl ?_
 have E230 : ((H0x37 s o x6) : QHeap) = (H0 s (s_aggMin o x6)) := by simp only [fs, H0, H0v, H0x37, s_aggMin]
 rw [E230]
 exact zM [tt,tt,tt,tt,tt,ff,tt] (tJ17_122 Ad W s (s_aggMin o x6) x1 x2 x3 x4 x6 h hx0 hc)
def B17_38 (x1 : Int32) (x2 : Int32) (x3 : Int32) (v : Int32 × Ob) : Option (((Ob)) ⊕ (Int32 × Ob)) :=
  (if v.1 < x2 then (aget (f_sorted v.2) v.1).bind fun y149 => (F18 v.2 x1 y149 x3 v.1).bind fun r221 => (if r221 = (0 : Int32) then (J17_166 v.2 x1 x2 x3 v.1) else (F21 (s_aggRows v.2 ((f_aggRows v.2) + (1 : Int32))) y149).bind fun r226 => (if r226 = (0 : Int32) then (aget (f_vals (s_aggRows v.2 ((f_aggRows v.2) + (1 : Int32)))) y149).bind fun y228 => (if (f_aggCount (s_aggRows v.2 ((f_aggRows v.2) + (1 : Int32)))) = (0 : Int32) then (J17_116 (s_aggRows v.2 ((f_aggRows v.2) + (1 : Int32))) x1 x2 x3 v.1 y228) else (if y228 < (f_aggMin (s_aggRows v.2 ((f_aggRows v.2) + (1 : Int32)))) then (J17_116 (s_aggRows v.2 ((f_aggRows v.2) + (1 : Int32))) x1 x2 x3 v.1 y228) else (J17_122 (s_aggRows v.2 ((f_aggRows v.2) + (1 : Int32))) x1 x2 x3 v.1 y228))) else (J17_166 (s_aggRows v.2 ((f_aggRows v.2) + (1 : Int32))) x1 x2 x3 v.1))) else some (.inl v.2))
theorem tB17_38 (Ad : QAd n0 ad) (W : QW Z a0) (s : List Int32) (x1 : Int32) (x2 : Int32) (x3 : Int32) (v : Int32 × Ob) {r : ((Ob)) ⊕ (Int32 × Ob)} {u : Option Value} {τ : QHeap} (h : B17_38 x1 x2 x3 v = some r) (hx0 : ∀ x : Ob, r = .inl x → u = (none : Option Value) ∧ τ = (H0 s x)) (hc : ∀ x : Int32 × Ob, r = .inr x → QTri l Z n0 ad 17 (38, [vR 1, vI x1, vI x2, vI x3, vI x.1, none, none], [], (H0 s x.2)) u τ) : QTri l Z n0 ad 17 (38, [vR 1, vI x1, vI x2, vI x3, vI v.1, none, none], [], (H0 s v.2)) u τ := by
 unfold B17_38 at h
 refine zS Ad W 2 (st' := (41, [vR 1, vI x1, vI x2, vI x3, vI v.1, none, none], [.int x2, .int v.1], (H0 s v.2))) rfl ?_
 rcases qite h with ⟨hc148, h⟩ | ⟨hc148, h⟩
 ·refine zF Ad W (t := 172) (f := 44) rfl (XT.ii_ge_f hc148) ?_
  refine zS Ad W 3 (st' := (50, [vR 1, vI x1, vI x2, vI x3, vI v.1, none, none], [.int v.1, .ref 9], (H0 s v.2))) rfl ?_
  obtain ⟨y149, hy149, h⟩ := bind_eq_some_iff.mp h
  refine zB Ad W (f := fun y149 => (51, [vR 1, vI x1, vI x2, vI x3, vI v.1, none, none], [.int y149], (H0 s v.2))) rfl hy149 ?_
  refine zS Ad W 6 (st' := (60, [vR 1, vI x1, vI x2, vI x3, vI v.1, vI y149, none], [.int v.1, .int x3, .int y149, .int x1, .ref 1], (H0 s v.2))) rfl ?_
  obtain ⟨r221, hr221, h⟩ := bind_eq_some_iff.mp h
  refine QTri.callP W (a := 1) (as := [.int x1, .int y149, .int x3, .int v.1]) (rest := []) (w := (some (.int r221))) (σ₁ := (H0 s v.2)) rfl rfl rfl rfl rfl rfl rfl rfl (tF18 Ad W s v.2 x1 y149 x3 v.1 hr221) ?_
  rcases qite h with ⟨hc222, h⟩ | ⟨hc222, h⟩
  ·refine zF Ad W (t := 69) (f := 66) rfl (XT.i0_ne_f hc222) ?_
   refine zS Ad W 1 (st' := (166, [vR 1, vI x1, vI x2, vI x3, vI v.1, vI y149, none], [], (H0 s v.2))) rfl ?_
   exact zM [tt,tt,tt,tt,tt,ff,ff] (tJ17_166 Ad W s v.2 x1 x2 x3 v.1 h hx0 hc)
  ·refine zT Ad W (t := 69) (f := 66) rfl (XT.i0_ne_t hc222) ?_
   refine zS Ad W 6 (st' := (79, [vR 1, vI x1, vI x2, vI x3, vI v.1, vI y149, none], [], (H0x36 s v.2 ((f_aggRows v.2) + (1:Int32))))) rfl ?_
   refine zS Ad W 2 (st' := (82, [vR 1, vI x1, vI x2, vI x3, vI v.1, vI y149, none], [.int y149, .ref 1], (H0x36 s v.2 ((f_aggRows v.2) + (1:Int32))))) rfl ?_
   have E223 : ((H0x36 s v.2 ((f_aggRows v.2) + (1:Int32))) : QHeap) = (H0 s (s_aggRows v.2 ((f_aggRows v.2) + (1:Int32)))) := by simp only [fs, H0, H0v, H0x36, s_aggRows]
   rw [E223]
   obtain ⟨r226, hr226, h⟩ := bind_eq_some_iff.mp h
   refine QTri.callP W (a := 1) (as := [.int y149]) (rest := []) (w := (some (.int r226))) (σ₁ := (H0 s (s_aggRows v.2 ((f_aggRows v.2) + (1:Int32))))) rfl rfl rfl rfl rfl rfl rfl rfl (tF21 Ad W s (s_aggRows v.2 ((f_aggRows v.2) + (1:Int32))) y149 hr226) ?_
   rcases qite h with ⟨hc227, h⟩ | ⟨hc227, h⟩
   ·refine zT Ad W (t := 91) (f := 88) rfl (XT.i0_eq_t hc227) ?_
    refine zS Ad W 3 (st' := (97, [vR 1, vI x1, vI x2, vI x3, vI v.1, vI y149, none], [.int y149, .ref 4], (H0 s (s_aggRows v.2 ((f_aggRows v.2) + (1:Int32)))))) rfl ?_
    obtain ⟨y228, hy228, h⟩ := bind_eq_some_iff.mp h
    refine zB Ad W (f := fun y228 => (98, [vR 1, vI x1, vI x2, vI x3, vI v.1, vI y149, none], [.int y228], (H0 s (s_aggRows v.2 ((f_aggRows v.2) + (1:Int32)))))) rfl hy228 ?_
    refine zS Ad W 3 (st' := (104, [vR 1, vI x1, vI x2, vI x3, vI v.1, vI y149, vI y228], [.int (f_aggCount (s_aggRows v.2 ((f_aggRows v.2) + (1:Int32))))], (H0 s (s_aggRows v.2 ((f_aggRows v.2) + (1:Int32)))))) rfl ?_
    rcases qite h with ⟨hc229, h⟩ | ⟨hc229, h⟩
    ·refine zT Ad W (t := 116) (f := 107) rfl (XT.i0_eq_t hc229) ?_
     exact zM [tt,tt,tt,tt,tt,ff,tt] (tJ17_116 Ad W s (s_aggRows v.2 ((f_aggRows v.2) + (1:Int32))) x1 x2 x3 v.1 y228 h hx0 hc)
    ·refine zF Ad W (t := 116) (f := 107) rfl (XT.i0_eq_f hc229) ?_
     refine zS Ad W 3 (st' := (113, [vR 1, vI x1, vI x2, vI x3, vI v.1, vI y149, vI y228], [.int (f_aggMin (s_aggRows v.2 ((f_aggRows v.2) + (1:Int32)))), .int y228], (H0 s (s_aggRows v.2 ((f_aggRows v.2) + (1:Int32)))))) rfl ?_
     rcases qite h with ⟨hc235, h⟩ | ⟨hc235, h⟩
     ·refine zF Ad W (t := 122) (f := 116) rfl (XT.ii_ge_f hc235) ?_
      exact zM [tt,tt,tt,tt,tt,ff,tt] (tJ17_116 Ad W s (s_aggRows v.2 ((f_aggRows v.2) + (1:Int32))) x1 x2 x3 v.1 y228 h hx0 hc)
     ·refine zT Ad W (t := 122) (f := 116) rfl (XT.ii_ge_t hc235) ?_
      exact zM [tt,tt,tt,tt,tt,ff,tt] (tJ17_122 Ad W s (s_aggRows v.2 ((f_aggRows v.2) + (1:Int32))) x1 x2 x3 v.1 y228 h hx0 hc)
   ·refine zF Ad W (t := 91) (f := 88) rfl (XT.i0_eq_f hc227) ?_
    refine zS Ad W 1 (st' := (166, [vR 1, vI x1, vI x2, vI x3, vI v.1, vI y149, none], [], (H0 s (s_aggRows v.2 ((f_aggRows v.2) + (1:Int32)))))) rfl ?_
    exact zM [tt,tt,tt,tt,tt,ff,ff] (tJ17_166 Ad W s (s_aggRows v.2 ((f_aggRows v.2) + (1:Int32))) x1 x2 x3 v.1 h hx0 hc)
 ·refine zT Ad W (t := 172) (f := 44) rfl (XT.ii_ge_t hc148) ?_
  obtain rfl := Option.some.inj h
  obtain ⟨rfl, rfl⟩ := hx0 v.2 rfl
  exact QTri.ret0 rfl rfl
/-- aggregateFrame(I)V -/
def F17 (o : Ob) (x1 : Int32) : Option (Ob) :=
 (loopN (B17_38 x1 (f_sortedLen o) (f_curPos o)) qN ((0:Int32), (s_aggMax (s_aggMin (s_aggRows (s_aggCount (s_aggSum o (0 : Int64)) (0:Int32)) (0:Int32)) (0:Int32)) (0:Int32)))).bind fun e236 => some e236
theorem tF17 (Ad : QAd n0 ad) (W : QW Z a0) (s : List Int32) (o : Ob) (x1 : Int32) {r : Ob} (h : F17 o x1 = some r) : QTri l Z n0 ad 17 (0, qentry [.ref 1, .int x1] (pMaxL 17), [], (H0 s o)) (none : Option Value) (H0 s r) := by
 unfold F17 at h
 refine zS Ad W 6 (st' := (10, [vR 1, vI x1, vI (f_sortedLen o), vI (f_curPos o), none, none, none], [], (H0 s o))) rfl ?_
 refine zS Ad W 3 (st' := (15, [vR 1, vI x1, vI (f_sortedLen o), vI (f_curPos o), none, none, none], [], (H0x31 s o (0 : Int64)))) rfl ?_
 refine zS Ad W 3 (st' := (20, [vR 1, vI x1, vI (f_sortedLen o), vI (f_curPos o), none, none, none], [], (H0x32 s o (0 : Int64) (0:Int32)))) rfl ?_
 refine zS Ad W 3 (st' := (25, [vR 1, vI x1, vI (f_sortedLen o), vI (f_curPos o), none, none, none], [], (H0x33 s o (0 : Int64) (0:Int32) (0:Int32)))) rfl ?_
 refine zS Ad W 3 (st' := (30, [vR 1, vI x1, vI (f_sortedLen o), vI (f_curPos o), none, none, none], [], (H0x34 s o (0 : Int64) (0:Int32) (0:Int32) (0:Int32)))) rfl ?_
 refine zS Ad W 3 (st' := (35, [vR 1, vI x1, vI (f_sortedLen o), vI (f_curPos o), none, none, none], [], (H0x35 s o (0 : Int64) (0:Int32) (0:Int32) (0:Int32) (0:Int32)))) rfl ?_
 refine zS Ad W 2 (st' := (38, [vR 1, vI x1, vI (f_sortedLen o), vI (f_curPos o), vI (0:Int32), none, none], [], (H0x35 s o (0 : Int64) (0:Int32) (0:Int32) (0:Int32) (0:Int32)))) rfl ?_
 have E147 : ((H0x35 s o (0 : Int64) (0:Int32) (0:Int32) (0:Int32) (0:Int32)) : QHeap) = (H0 s (s_aggMax (s_aggMin (s_aggRows (s_aggCount (s_aggSum o (0 : Int64)) (0:Int32)) (0:Int32)) (0:Int32)) (0:Int32))) := by simp only [fs, H0, H0v, H0x35, s_aggSum, s_aggCount, s_aggRows, s_aggMin, s_aggMax]
 rw [E147]
 obtain ⟨e236, he236, h⟩ := bind_eq_some_iff.mp h
 refine zM [tt,tt,tt,tt,tt,ff,ff] (loopN_tri (B := B17_38 x1 (f_sortedLen o) (f_curPos o)) (T := fun lv237 => QTri l Z n0 ad 17 (38, [vR 1, vI x1, vI (f_sortedLen o), vI (f_curPos o), vI lv237.1, none, none], [], (H0 s lv237.2)) (none : Option Value) (H0 s r)) (KE := fun e236a => (none : Option Value) = (none : Option Value) ∧ (H0 s r) = (H0 s e236a)) (fun lv237 r hB hE hC => tB17_38 Ad W s x1 (f_sortedLen o) (f_curPos o) lv237 hB (fun x q => hE _ q) (fun x q => hC x q)) qN ((0:Int32), (s_aggMax (s_aggMin (s_aggRows (s_aggCount (s_aggSum o (0 : Int64)) (0:Int32)) (0:Int32)) (0:Int32)) (0:Int32))) e236 he236 ?_)
 obtain rfl := Option.some.inj h
 exact ⟨rfl, rfl⟩
def H0x40 (s : List Int32) (o0 : Ob) (a0_6 : List Int32) : QHeap := H0v s (f_part o0) (f_keys o0) (f_vals o0) (f_flg o0) (f_res o0) (f_resNull o0) a0_6 (f_sorted o0) (f_cap o0) (f_rows o0) (f_direction o0) (f_nulls o0) (f_mode o0) (f_startKind o0) (f_startOff o0) (f_endKind o0) (f_endOff o0) (f_fn o0) (f_fnArg o0) (f_computed o0) (f_sortedLen o0) (f_curPos o0) (f_aggSum o0) (f_aggCount o0) (f_aggRows o0) (f_aggMin o0) (f_aggMax o0)
def H0x41 (s : List Int32) (o0 : Ob) (a0_5 : List Int32) : QHeap := H0v s (f_part o0) (f_keys o0) (f_vals o0) (f_flg o0) (f_res o0) a0_5 (f_frameCnt o0) (f_sorted o0) (f_cap o0) (f_rows o0) (f_direction o0) (f_nulls o0) (f_mode o0) (f_startKind o0) (f_startOff o0) (f_endKind o0) (f_endOff o0) (f_fn o0) (f_fnArg o0) (f_computed o0) (f_sortedLen o0) (f_curPos o0) (f_aggSum o0) (f_aggCount o0) (f_aggRows o0) (f_aggMin o0) (f_aggMax o0)
def H0x42 (s : List Int32) (o0 : Ob) (a0_4 : List Int64) (a0_5 : List Int32) : QHeap := H0v s (f_part o0) (f_keys o0) (f_vals o0) (f_flg o0) a0_4 a0_5 (f_frameCnt o0) (f_sorted o0) (f_cap o0) (f_rows o0) (f_direction o0) (f_nulls o0) (f_mode o0) (f_startKind o0) (f_startOff o0) (f_endKind o0) (f_endOff o0) (f_fn o0) (f_fnArg o0) (f_computed o0) (f_sortedLen o0) (f_curPos o0) (f_aggSum o0) (f_aggCount o0) (f_aggRows o0) (f_aggMin o0) (f_aggMax o0)
/-- setRes(IJZ)V -/
def F23 (o : Ob) (x1 : Int32) (x2 : Int64) (x4 : Int32) : Option (Ob) :=
 (aset (f_resNull o) x1 (x4 &&& 1)).bind fun y245 => (aset (f_res o) x1 (if x4 = (0:Int32) then x2 else (0 : Int64))).bind fun y249 => some (s_res (s_resNull o y245) y249)
theorem tF23 (Ad : QAd n0 ad) (W : QW Z a0) (s : List Int32) (o : Ob) (x1 : Int32) (x2 : Int64) (x4 : Int32) {r : Ob} (h : F23 o x1 x2 x4 = some r) : QTri l Z n0 ad 23 (0, qentry [.ref 1, .int x1, .long x2, .int x4] (pMaxL 23), [], (H0 s o)) (none : Option Value) (H0 s r) := by
 unfold F23 at h
 refine zS Ad W 4 (st' := (7, [vR 1, vI x1, vL x2, none, vI x4], [.int x4, .int x1, .ref 7], (H0 s o))) rfl ?_
 obtain ⟨y245, hy245, h⟩ := bind_eq_some_iff.mp h
 refine zB Ad W (f := fun y245 => (8, [vR 1, vI x1, vL x2, none, vI x4], [], (H0x41 s o y245))) rfl hy245 ?_
 refine zS Ad W 4 (st' := (15, [vR 1, vI x1, vL x2, none, vI x4], [.int x4, .int x1, .ref 6], (H0x41 s o y245))) rfl ?_
 have K247 : ∀ z246 : Int64, z246 = (if x4 = (0:Int32) then x2 else (0 : Int64)) → QTri l Z n0 ad 23 (23, [none, none, none, none, none], [.long z246, .int x1, .ref 6], (H0x41 s o y245)) (none : Option Value) (H0 s r) := by
  intro z246 ez246
  subst ez246
  obtain ⟨y249, hy249, h⟩ := bind_eq_some_iff.mp h
  refine zB Ad W (f := fun y249 => (24, [none, none, none, none, none], [], (H0x42 s o y249 y245))) rfl hy249 ?_
  have E250 : ((H0x42 s o y249 y245) : QHeap) = (H0 s (s_res (s_resNull o y245) y249)) := by simp only [fs, H0, H0v, H0x42, s_res, s_resNull]
  rw [E250]
  obtain rfl := Option.some.inj h
  exact QTri.ret0 rfl rfl
 rcases em (x4 = (0:Int32)) with hc248 | hc248
 ·refine zT Ad W (t := 22) (f := 18) rfl (XT.i0_eq_t hc248) ?_
  refine zS Ad W 1 (st' := (23, [vR 1, vI x1, vL x2, none, vI x4], [.long x2, .int x1, .ref 6], (H0x41 s o y245))) rfl ?_
  exact zM [ff,ff,ff,ff,ff] (K247 _ (if_pos hc248).symm)
 ·refine zF Ad W (t := 22) (f := 18) rfl (XT.i0_eq_f hc248) ?_
  refine zS Ad W 2 (st' := (23, [vR 1, vI x1, vL x2, none, vI x4], [.long (0 : Int64), .int x1, .ref 6], (H0x41 s o y245))) rfl ?_
  exact zM [ff,ff,ff,ff,ff] (K247 _ (if_neg hc248).symm)
def B35_5 (o : Ob) (x1 : Int32) (x2 : Int32) (v : Int64 × Int32) : Option (((Int64)) ⊕ (Int64 × Int32)) :=
  (if v.2 < x2 then (if v.2 < (f_sortedLen o) then (aget (f_sorted o) v.2).bind fun y271 => (F26 o y271 x1).bind fun r272 => some (.inr ((if r272 = (0 : Int32) then (v.1 + (1 : Int64)) else v.1), (v.2 + (1 : Int32)))) else some (.inl v.1)) else some (.inl v.1))
theorem tB35_5 (Ad : QAd n0 ad) (W : QW Z a0) (s : List Int32) (o : Ob) (x1 : Int32) (x2 : Int32) (v : Int64 × Int32) {r : ((Int64)) ⊕ (Int64 × Int32)} {u : Option Value} {τ : QHeap} (h : B35_5 o x1 x2 v = some r) (hx0 : ∀ x : Int64, r = .inl x → u = (some (Value.long x)) ∧ τ = (H0 s o)) (hc : ∀ x : Int64 × Int32, r = .inr x → QTri l Z n0 ad 35 (5, [vR 1, vI x1, vI x2, vL x.1, none, vI x.2], [], (H0 s o)) u τ) : QTri l Z n0 ad 35 (5, [vR 1, vI x1, vI x2, vL v.1, none, vI v.2], [], (H0 s o)) u τ := by
 unfold B35_5 at h
 refine zS Ad W 2 (st' := (8, [vR 1, vI x1, vI x2, vL v.1, none, vI v.2], [.int x2, .int v.2], (H0 s o))) rfl ?_
 rcases qite h with ⟨hc269, h⟩ | ⟨hc269, h⟩
 ·refine zF Ad W (t := 45) (f := 11) rfl (XT.ii_ge_f hc269) ?_
  refine zS Ad W 3 (st' := (17, [vR 1, vI x1, vI x2, vL v.1, none, vI v.2], [.int (f_sortedLen o), .int v.2], (H0 s o))) rfl ?_
  rcases qite h with ⟨hc270, h⟩ | ⟨hc270, h⟩
  ·refine zF Ad W (t := 45) (f := 20) rfl (XT.ii_ge_f hc270) ?_
   refine zS Ad W 4 (st' := (27, [vR 1, vI x1, vI x2, vL v.1, none, vI v.2], [.int v.2, .ref 9, .ref 1], (H0 s o))) rfl ?_
   obtain ⟨y271, hy271, h⟩ := bind_eq_some_iff.mp h
   refine zB Ad W (f := fun y271 => (28, [vR 1, vI x1, vI x2, vL v.1, none, vI v.2], [.int y271, .ref 1], (H0 s o))) rfl hy271 ?_
   refine zS Ad W 1 (st' := (29, [vR 1, vI x1, vI x2, vL v.1, none, vI v.2], [.int x1, .int y271, .ref 1], (H0 s o))) rfl ?_
   obtain ⟨r272, hr272, h⟩ := bind_eq_some_iff.mp h
   refine QTri.callP W (a := 1) (as := [.int y271, .int x1]) (rest := []) (w := (some (.int r272))) (σ₁ := (H0 s o)) rfl rfl rfl rfl rfl rfl rfl rfl (tF26 Ad W s o y271 x1 hr272) ?_
   have K274 : ∀ z273 : Int64, z273 = (if r272 = (0:Int32) then (v.1 + (1 : Int64)) else v.1) → QTri l Z n0 ad 35 (39, [vR 1, vI x1, vI x2, vL z273, none, vI v.2], [], (H0 s o)) u τ := by
    intro z273 ez273
    subst ez273
    refine zS Ad W 2 (st' := (5, [vR 1, vI x1, vI x2, vL (if r272 = (0:Int32) then (v.1 + (1 : Int64)) else v.1), none, vI (v.2 + (1:Int32))], [], (H0 s o))) rfl ?_
    obtain rfl := Option.some.inj h
    exact zM [tt,tt,tt,tt,ff,tt] (hc ((if r272 = (0:Int32) then (v.1 + (1 : Int64)) else v.1), (v.2 + (1:Int32))) rfl)
   rcases em (r272 = (0:Int32)) with hc275 | hc275
   ·refine zF Ad W (t := 39) (f := 35) rfl (XT.i0_ne_f hc275) ?_
    refine zS Ad W 4 (st' := (39, [vR 1, vI x1, vI x2, vL (v.1 + (1 : Int64)), none, vI v.2], [], (H0 s o))) rfl ?_
    exact zM [tt,tt,tt,tt,ff,tt] (K274 _ (if_pos hc275).symm)
   ·refine zT Ad W (t := 39) (f := 35) rfl (XT.i0_ne_t hc275) ?_
    exact zM [tt,tt,tt,tt,ff,tt] (K274 _ (if_neg hc275).symm)
  ·refine zT Ad W (t := 45) (f := 20) rfl (XT.ii_ge_t hc270) ?_
   refine zS Ad W 1 (st' := (46, [vR 1, vI x1, vI x2, vL v.1, none, vI v.2], [.long v.1], (H0 s o))) rfl ?_
   obtain rfl := Option.some.inj h
   obtain ⟨rfl, rfl⟩ := hx0 v.1 rfl
   exact QTri.retJ rfl rfl
 ·refine zT Ad W (t := 45) (f := 11) rfl (XT.ii_ge_t hc269) ?_
  refine zS Ad W 1 (st' := (46, [vR 1, vI x1, vI x2, vL v.1, none, vI v.2], [.long v.1], (H0 s o))) rfl ?_
  obtain rfl := Option.some.inj h
  obtain ⟨rfl, rfl⟩ := hx0 v.1 rfl
  exact QTri.retJ rfl rfl
/-- rankOf(II)J -/
def F35 (o : Ob) (x1 : Int32) (x2 : Int32) : Option (Int64) :=
 (loopN (B35_5 o x1 x2) qN ((1 : Int64), (0:Int32))).bind fun e276 => some e276
theorem tF35 (Ad : QAd n0 ad) (W : QW Z a0) (s : List Int32) (o : Ob) (x1 : Int32) (x2 : Int32) {r : Int64} (h : F35 o x1 x2 = some r) : QTri l Z n0 ad 35 (0, qentry [.ref 1, .int x1, .int x2] (pMaxL 35), [], (H0 s o)) (some (Value.long r)) (H0 s o) := by
 unfold F35 at h
 refine zS Ad W 4 (st' := (5, [vR 1, vI x1, vI x2, vL (1 : Int64), none, vI (0:Int32)], [], (H0 s o))) rfl ?_
 obtain ⟨e276, he276, h⟩ := bind_eq_some_iff.mp h
 refine zM [tt,tt,tt,tt,ff,tt] (loopN_tri (B := B35_5 o x1 x2) (T := fun lv277 => QTri l Z n0 ad 35 (5, [vR 1, vI x1, vI x2, vL lv277.1, none, vI lv277.2], [], (H0 s o)) (some (Value.long r)) (H0 s o)) (KE := fun e276a => (some (Value.long r)) = (some (Value.long e276a)) ∧ (H0 s o) = (H0 s o)) (fun lv277 r hB hE hC => tB35_5 Ad W s o x1 x2 lv277 hB (fun x q => hE _ q) (fun x q => hC x q)) qN ((1 : Int64), (0:Int32)) e276 he276 ?_)
 obtain rfl := Option.some.inj h
 exact ⟨rfl, rfl⟩
def J34_69 (o : Ob) (x1 : Int32) (x2 : Int32) (x3 : Int64) (x5 : Int32) : Option (((Int64)) ⊕ (Int64 × Int32)) :=
  some (.inr (x3, (x5 + (1 : Int32))))
theorem tJ34_69 (Ad : QAd n0 ad) (W : QW Z a0) (s : List Int32) (o : Ob) (x1 : Int32) (x2 : Int32) (x3 : Int64) (x5 : Int32) {r : ((Int64)) ⊕ (Int64 × Int32)} {u : Option Value} {τ : QHeap} (h : J34_69 o x1 x2 x3 x5 = some r) (hx0 : ∀ x : Int64, r = .inl x → u = (some (Value.long x)) ∧ τ = (H0 s o)) (hc : ∀ x : Int64 × Int32, r = .inr x → QTri l Z n0 ad 34 (5, [vR 1, vI x1, vI x2, vL x.1, none, vI x.2, none], [], (H0 s o)) u τ) : QTri l Z n0 ad 34 (69, [vR 1, vI x1, vI x2, vL x3, none, vI x5, none], [], (H0 s o)) u τ := by
 unfold J34_69 at h
 refine zS Ad W 2 (st' := (5, [vR 1, vI x1, vI x2, vL x3, none, vI (x5 + (1:Int32)), none], [], (H0 s o))) rfl ?_
 obtain rfl := Option.some.inj h
 exact zM [tt,tt,tt,tt,ff,tt,ff] (hc (x3, (x5 + (1:Int32))) rfl)
def J34_65 (o : Ob) (x1 : Int32) (x2 : Int32) (x3 : Int64) (x5 : Int32) : Option (((Int64)) ⊕ (Int64 × Int32)) :=
  (J34_69 o x1 x2 (x3 + (1 : Int64)) x5)
theorem tJ34_65 (Ad : QAd n0 ad) (W : QW Z a0) (s : List Int32) (o : Ob) (x1 : Int32) (x2 : Int32) (x3 : Int64) (x5 : Int32) {r : ((Int64)) ⊕ (Int64 × Int32)} {u : Option Value} {τ : QHeap} (h : J34_65 o x1 x2 x3 x5 = some r) (hx0 : ∀ x : Int64, r = .inl x → u = (some (Value.long x)) ∧ τ = (H0 s o)) (hc : ∀ x : Int64 × Int32, r = .inr x → QTri l Z n0 ad 34 (5, [vR 1, vI x1, vI x2, vL x.1, none, vI x.2, none], [], (H0 s o)) u τ) : QTri l Z n0 ad 34 (65, [vR 1, vI x1, vI x2, vL x3, none, vI x5, none], [], (H0 s o)) u τ := by
 unfold J34_65 at h
 refine zS Ad W 4 (st' := (69, [vR 1, vI x1, vI x2, vL (x3 + (1 : Int64)), none, vI x5, none], [], (H0 s o))) rfl ?_
 exact zM [tt,tt,tt,tt,ff,tt,ff] (tJ34_69 Ad W s o x1 x2 (x3 + (1 : Int64)) x5 h hx0 hc)
def B34_5 (o : Ob) (x1 : Int32) (x2 : Int32) (v : Int64 × Int32) : Option (((Int64)) ⊕ (Int64 × Int32)) :=
  (if v.2 < x2 then (if v.2 < (f_sortedLen o) then (aget (f_sorted o) v.2).bind fun y283 => (F26 o y283 x1).bind fun r284 => (if r284 = (0 : Int32) then (if v.2 = (0 : Int32) then (J34_65 o x1 x2 v.1 v.2) else (aget (f_sorted o) (v.2 - (1 : Int32))).bind fun y287 => (F26 o y283 y287).bind fun r288 => (J34_69 o x1 x2 (if r288 = (0 : Int32) then (v.1 + (1 : Int64)) else v.1) v.2)) else (J34_69 o x1 x2 v.1 v.2)) else some (.inl v.1)) else some (.inl v.1))
theorem tB34_5 (Ad : QAd n0 ad) (W : QW Z a0) (s : List Int32) (o : Ob) (x1 : Int32) (x2 : Int32) (v : Int64 × Int32) {r : ((Int64)) ⊕ (Int64 × Int32)} {u : Option Value} {τ : QHeap} (h : B34_5 o x1 x2 v = some r) (hx0 : ∀ x : Int64, r = .inl x → u = (some (Value.long x)) ∧ τ = (H0 s o)) (hc : ∀ x : Int64 × Int32, r = .inr x → QTri l Z n0 ad 34 (5, [vR 1, vI x1, vI x2, vL x.1, none, vI x.2, none], [], (H0 s o)) u τ) : QTri l Z n0 ad 34 (5, [vR 1, vI x1, vI x2, vL v.1, none, vI v.2, none], [], (H0 s o)) u τ := by
 unfold B34_5 at h
 refine zS Ad W 2 (st' := (8, [vR 1, vI x1, vI x2, vL v.1, none, vI v.2, none], [.int x2, .int v.2], (H0 s o))) rfl ?_
 rcases qite h with ⟨hc281, h⟩ | ⟨hc281, h⟩
 ·refine zF Ad W (t := 75) (f := 11) rfl (XT.ii_ge_f hc281) ?_
  refine zS Ad W 3 (st' := (17, [vR 1, vI x1, vI x2, vL v.1, none, vI v.2, none], [.int (f_sortedLen o), .int v.2], (H0 s o))) rfl ?_
  rcases qite h with ⟨hc282, h⟩ | ⟨hc282, h⟩
  ·refine zF Ad W (t := 75) (f := 20) rfl (XT.ii_ge_f hc282) ?_
   refine zS Ad W 3 (st' := (26, [vR 1, vI x1, vI x2, vL v.1, none, vI v.2, none], [.int v.2, .ref 9], (H0 s o))) rfl ?_
   obtain ⟨y283, hy283, h⟩ := bind_eq_some_iff.mp h
   refine zB Ad W (f := fun y283 => (27, [vR 1, vI x1, vI x2, vL v.1, none, vI v.2, none], [.int y283], (H0 s o))) rfl hy283 ?_
   refine zS Ad W 4 (st' := (33, [vR 1, vI x1, vI x2, vL v.1, none, vI v.2, vI y283], [.int x1, .int y283, .ref 1], (H0 s o))) rfl ?_
   obtain ⟨r284, hr284, h⟩ := bind_eq_some_iff.mp h
   refine QTri.callP W (a := 1) (as := [.int y283, .int x1]) (rest := []) (w := (some (.int r284))) (σ₁ := (H0 s o)) rfl rfl rfl rfl rfl rfl rfl rfl (tF26 Ad W s o y283 x1 hr284) ?_
   rcases qite h with ⟨hc285, h⟩ | ⟨hc285, h⟩
   ·refine zT Ad W (t := 42) (f := 39) rfl (XT.i0_eq_t hc285) ?_
    refine zS Ad W 1 (st' := (44, [vR 1, vI x1, vI x2, vL v.1, none, vI v.2, vI y283], [.int v.2], (H0 s o))) rfl ?_
    rcases qite h with ⟨hc286, h⟩ | ⟨hc286, h⟩
    ·refine zT Ad W (t := 65) (f := 47) rfl (XT.i0_eq_t hc286) ?_
     exact zM [tt,tt,tt,tt,ff,tt,ff] (tJ34_65 Ad W s o x1 x2 v.1 v.2 h hx0 hc)
    ·refine zF Ad W (t := 65) (f := 47) rfl (XT.i0_eq_f hc286) ?_
     refine zS Ad W 7 (st' := (58, [vR 1, vI x1, vI x2, vL v.1, none, vI v.2, vI y283], [.int (v.2 - (1:Int32)), .ref 9, .int y283, .ref 1], (H0 s o))) rfl ?_
     obtain ⟨y287, hy287, h⟩ := bind_eq_some_iff.mp h
     refine zB Ad W (f := fun y287 => (59, [vR 1, vI x1, vI x2, vL v.1, none, vI v.2, vI y283], [.int y287, .int y283, .ref 1], (H0 s o))) rfl hy287 ?_
     obtain ⟨r288, hr288, h⟩ := bind_eq_some_iff.mp h
     refine QTri.callP W (a := 1) (as := [.int y283, .int y287]) (rest := []) (w := (some (.int r288))) (σ₁ := (H0 s o)) rfl rfl rfl rfl rfl rfl rfl rfl (tF26 Ad W s o y283 y287 hr288) ?_
     have K290 : ∀ z289 : Int64, z289 = (if r288 = (0:Int32) then (v.1 + (1 : Int64)) else v.1) → QTri l Z n0 ad 34 (69, [vR 1, vI x1, vI x2, vL z289, none, vI v.2, none], [], (H0 s o)) u τ := by
      intro z289 ez289
      subst ez289
      exact zM [tt,tt,tt,tt,ff,tt,ff] (tJ34_69 Ad W s o x1 x2 (if r288 = (0:Int32) then (v.1 + (1 : Int64)) else v.1) v.2 h hx0 hc)
     rcases em (r288 = (0:Int32)) with hc291 | hc291
     ·refine zF Ad W (t := 69) (f := 65) rfl (XT.i0_ne_f hc291) ?_
      refine zS Ad W 4 (st' := (69, [vR 1, vI x1, vI x2, vL (v.1 + (1 : Int64)), none, vI v.2, vI y283], [], (H0 s o))) rfl ?_
      exact zM [tt,tt,tt,tt,ff,tt,ff] (K290 _ (if_pos hc291).symm)
     ·refine zT Ad W (t := 69) (f := 65) rfl (XT.i0_ne_t hc291) ?_
      exact zM [tt,tt,tt,tt,ff,tt,ff] (K290 _ (if_neg hc291).symm)
   ·refine zF Ad W (t := 42) (f := 39) rfl (XT.i0_eq_f hc285) ?_
    refine zS Ad W 1 (st' := (69, [vR 1, vI x1, vI x2, vL v.1, none, vI v.2, vI y283], [], (H0 s o))) rfl ?_
    exact zM [tt,tt,tt,tt,ff,tt,ff] (tJ34_69 Ad W s o x1 x2 v.1 v.2 h hx0 hc)
  ·refine zT Ad W (t := 75) (f := 20) rfl (XT.ii_ge_t hc282) ?_
   refine zS Ad W 1 (st' := (76, [vR 1, vI x1, vI x2, vL v.1, none, vI v.2, none], [.long v.1], (H0 s o))) rfl ?_
   obtain rfl := Option.some.inj h
   obtain ⟨rfl, rfl⟩ := hx0 v.1 rfl
   exact QTri.retJ rfl rfl
 ·refine zT Ad W (t := 75) (f := 11) rfl (XT.ii_ge_t hc281) ?_
  refine zS Ad W 1 (st' := (76, [vR 1, vI x1, vI x2, vL v.1, none, vI v.2, none], [.long v.1], (H0 s o))) rfl ?_
  obtain rfl := Option.some.inj h
  obtain ⟨rfl, rfl⟩ := hx0 v.1 rfl
  exact QTri.retJ rfl rfl
/-- denseRankOf(II)J -/
def F34 (o : Ob) (x1 : Int32) (x2 : Int32) : Option (Int64) :=
 (loopN (B34_5 o x1 x2) qN ((1 : Int64), (0:Int32))).bind fun e292 => some e292
theorem tF34 (Ad : QAd n0 ad) (W : QW Z a0) (s : List Int32) (o : Ob) (x1 : Int32) (x2 : Int32) {r : Int64} (h : F34 o x1 x2 = some r) : QTri l Z n0 ad 34 (0, qentry [.ref 1, .int x1, .int x2] (pMaxL 34), [], (H0 s o)) (some (Value.long r)) (H0 s o) := by
 unfold F34 at h
 refine zS Ad W 4 (st' := (5, [vR 1, vI x1, vI x2, vL (1 : Int64), none, vI (0:Int32), none], [], (H0 s o))) rfl ?_
 obtain ⟨e292, he292, h⟩ := bind_eq_some_iff.mp h
 refine zM [tt,tt,tt,tt,ff,tt,ff] (loopN_tri (B := B34_5 o x1 x2) (T := fun lv293 => QTri l Z n0 ad 34 (5, [vR 1, vI x1, vI x2, vL lv293.1, none, vI lv293.2, none], [], (H0 s o)) (some (Value.long r)) (H0 s o)) (KE := fun e292a => (some (Value.long r)) = (some (Value.long e292a)) ∧ (H0 s o) = (H0 s o)) (fun lv293 r hB hE hC => tB34_5 Ad W s o x1 x2 lv293 hB (fun x q => hE _ q) (fun x q => hC x q)) qN ((1 : Int64), (0:Int32)) e292 he292 ?_)
 obtain rfl := Option.some.inj h
 exact ⟨rfl, rfl⟩
def J33_45 (o : Ob) (x1 : Int32) : Option (Ob) :=
  (F23 o x1 (0 : Int64) (1 : Int32)).bind fun r303 => some r303
theorem tJ33_45 (Ad : QAd n0 ad) (W : QW Z a0) (s : List Int32) (o : Ob) (x1 : Int32) {r : Ob} (h : J33_45 o x1 = some r) : QTri l Z n0 ad 33 (45, [vR 1, vI x1, none, none, none, none, none], [], (H0 s o)) (none : Option Value) (H0 s r) := by
 unfold J33_45 at h
 refine zS Ad W 4 (st' := (49, [vR 1, vI x1, none, none, none, none, none], [.int (1:Int32), .long (0 : Int64), .int x1, .ref 1], (H0 s o))) rfl ?_
 obtain ⟨r303, hr303, h⟩ := bind_eq_some_iff.mp h
 refine QTri.callP W (a := 1) (as := [.int x1, .long (0 : Int64), .int (1:Int32)]) (rest := []) (w := none) (σ₁ := (H0 s r303)) rfl rfl rfl rfl rfl rfl rfl rfl (tF23 Ad W s o x1 (0 : Int64) (1:Int32) hr303) ?_
 obtain rfl := Option.some.inj h
 exact QTri.ret0 rfl rfl
/-- shiftValue(IIZ)V -/
def F33 (o : Ob) (x1 : Int32) (x2 : Int32) (x3 : Int32) : Option (Ob) :=
 (if (if x3 = (0:Int32) then ((x2.toInt64) + ((f_fnArg o).toInt64)) else ((x2.toInt64) - ((f_fnArg o).toInt64))) < (0 : Int64) then (J33_45 o x1) else (if (((f_sortedLen o).toInt64) - (1 : Int64)) < (if x3 = (0:Int32) then ((x2.toInt64) + ((f_fnArg o).toInt64)) else ((x2.toInt64) - ((f_fnArg o).toInt64))) then (J33_45 o x1) else (aget (f_sorted o) ((if x3 = (0:Int32) then ((x2.toInt64) + ((f_fnArg o).toInt64)) else ((x2.toInt64) - ((f_fnArg o).toInt64))).toInt32)).bind fun y305 => (F21 o y305).bind fun r306 => (if r306 = (0:Int32) then (aget (f_vals o) y305).bind fun y308 => (F23 o x1 (y308.toInt64) (0:Int32)).bind fun r309 => some r309 else (F23 o x1 (0 : Int64) (1:Int32)).bind fun r310 => some r310)))
theorem tF33 (Ad : QAd n0 ad) (W : QW Z a0) (s : List Int32) (o : Ob) (x1 : Int32) (x2 : Int32) (x3 : Int32) {r : Ob} (h : F33 o x1 x2 x3 = some r) : QTri l Z n0 ad 33 (0, qentry [.ref 1, .int x1, .int x2, .int x3] (pMaxL 33), [], (H0 s o)) (none : Option Value) (H0 s r) := by
 unfold F33 at h
 refine zS Ad W 1 (st' := (1, [vR 1, vI x1, vI x2, vI x3, none, none, none], [.int x3], (H0 s o))) rfl ?_
 have K300 : ∀ z299 : Int64, z299 = (if x3 = (0:Int32) then ((x2.toInt64) + ((f_fnArg o).toInt64)) else ((x2.toInt64) - ((f_fnArg o).toInt64))) → QTri l Z n0 ad 33 (23, [vR 1, vI x1, none, none, none, none, none], [.long z299], (H0 s o)) (none : Option Value) (H0 s r) := by
  intro z299 ez299
  subst ez299
  refine zS Ad W 4 (st' := (29, [vR 1, vI x1, none, none, vL (if x3 = (0:Int32) then ((x2.toInt64) + ((f_fnArg o).toInt64)) else ((x2.toInt64) - ((f_fnArg o).toInt64))), none, none], [.int (XT.cmpL (if x3 = (0:Int32) then ((x2.toInt64) + ((f_fnArg o).toInt64)) else ((x2.toInt64) - ((f_fnArg o).toInt64))) (0 : Int64))], (H0 s o))) rfl ?_
  rcases qite h with ⟨hc302, h⟩ | ⟨hc302, h⟩
  ·refine zT Ad W (t := 45) (f := 32) rfl (XT.ll_lt_t hc302) ?_
   exact zM [tt,tt,ff,ff,ff,ff,ff] (tJ33_45 Ad W s o x1 h)
  ·refine zF Ad W (t := 45) (f := 32) rfl (XT.ll_lt_f hc302) ?_
   refine zS Ad W 7 (st' := (42, [vR 1, vI x1, none, none, vL (if x3 = (0:Int32) then ((x2.toInt64) + ((f_fnArg o).toInt64)) else ((x2.toInt64) - ((f_fnArg o).toInt64))), none, none], [.int (XT.cmpL (if x3 = (0:Int32) then ((x2.toInt64) + ((f_fnArg o).toInt64)) else ((x2.toInt64) - ((f_fnArg o).toInt64))) (((f_sortedLen o).toInt64) - (1 : Int64)))], (H0 s o))) rfl ?_
   rcases qite h with ⟨hc304, h⟩ | ⟨hc304, h⟩
   ·refine zF Ad W (t := 53) (f := 45) rfl (XT.ll_le_f hc304) ?_
    exact zM [tt,tt,ff,ff,ff,ff,ff] (tJ33_45 Ad W s o x1 h)
   ·refine zT Ad W (t := 53) (f := 45) rfl (XT.ll_le_t hc304) ?_
    refine zS Ad W 4 (st' := (60, [vR 1, vI x1, none, none, vL (if x3 = (0:Int32) then ((x2.toInt64) + ((f_fnArg o).toInt64)) else ((x2.toInt64) - ((f_fnArg o).toInt64))), none, none], [.int ((if x3 = (0:Int32) then ((x2.toInt64) + ((f_fnArg o).toInt64)) else ((x2.toInt64) - ((f_fnArg o).toInt64))).toInt32), .ref 9], (H0 s o))) rfl ?_
    obtain ⟨y305, hy305, h⟩ := bind_eq_some_iff.mp h
    refine zB Ad W (f := fun y305 => (61, [vR 1, vI x1, none, none, vL (if x3 = (0:Int32) then ((x2.toInt64) + ((f_fnArg o).toInt64)) else ((x2.toInt64) - ((f_fnArg o).toInt64))), none, none], [.int y305], (H0 s o))) rfl hy305 ?_
    refine zS Ad W 3 (st' := (66, [vR 1, vI x1, none, none, vL (if x3 = (0:Int32) then ((x2.toInt64) + ((f_fnArg o).toInt64)) else ((x2.toInt64) - ((f_fnArg o).toInt64))), none, vI y305], [.int y305, .ref 1], (H0 s o))) rfl ?_
    obtain ⟨r306, hr306, h⟩ := bind_eq_some_iff.mp h
    refine QTri.callP W (a := 1) (as := [.int y305]) (rest := []) (w := (some (.int r306))) (σ₁ := (H0 s o)) rfl rfl rfl rfl rfl rfl rfl rfl (tF21 Ad W s o y305 hr306) ?_
    rcases qite h with ⟨hc307, h⟩ | ⟨hc307, h⟩
    ·refine zT Ad W (t := 82) (f := 72) rfl (XT.i0_eq_t hc307) ?_
     refine zS Ad W 5 (st' := (90, [vR 1, vI x1, none, none, vL (if x3 = (0:Int32) then ((x2.toInt64) + ((f_fnArg o).toInt64)) else ((x2.toInt64) - ((f_fnArg o).toInt64))), none, vI y305], [.int y305, .ref 4, .int x1, .ref 1], (H0 s o))) rfl ?_
     obtain ⟨y308, hy308, h⟩ := bind_eq_some_iff.mp h
     refine zB Ad W (f := fun y308 => (91, [vR 1, vI x1, none, none, vL (if x3 = (0:Int32) then ((x2.toInt64) + ((f_fnArg o).toInt64)) else ((x2.toInt64) - ((f_fnArg o).toInt64))), none, vI y305], [.int y308, .int x1, .ref 1], (H0 s o))) rfl hy308 ?_
     refine zS Ad W 2 (st' := (93, [vR 1, vI x1, none, none, vL (if x3 = (0:Int32) then ((x2.toInt64) + ((f_fnArg o).toInt64)) else ((x2.toInt64) - ((f_fnArg o).toInt64))), none, vI y305], [.int (0:Int32), .long (y308.toInt64), .int x1, .ref 1], (H0 s o))) rfl ?_
     obtain ⟨r309, hr309, h⟩ := bind_eq_some_iff.mp h
     refine QTri.callP W (a := 1) (as := [.int x1, .long (y308.toInt64), .int (0:Int32)]) (rest := []) (w := none) (σ₁ := (H0 s r309)) rfl rfl rfl rfl rfl rfl rfl rfl (tF23 Ad W s o x1 (y308.toInt64) (0:Int32) hr309) ?_
     obtain rfl := Option.some.inj h
     exact QTri.ret0 rfl rfl
    ·refine zF Ad W (t := 82) (f := 72) rfl (XT.i0_eq_f hc307) ?_
     refine zS Ad W 4 (st' := (76, [vR 1, vI x1, none, none, vL (if x3 = (0:Int32) then ((x2.toInt64) + ((f_fnArg o).toInt64)) else ((x2.toInt64) - ((f_fnArg o).toInt64))), none, vI y305], [.int (1:Int32), .long (0 : Int64), .int x1, .ref 1], (H0 s o))) rfl ?_
     obtain ⟨r310, hr310, h⟩ := bind_eq_some_iff.mp h
     refine QTri.callP W (a := 1) (as := [.int x1, .long (0 : Int64), .int (1:Int32)]) (rest := []) (w := none) (σ₁ := (H0 s r310)) rfl rfl rfl rfl rfl rfl rfl rfl (tF23 Ad W s o x1 (0 : Int64) (1:Int32) hr310) ?_
     refine zS Ad W 1 (st' := (96, [vR 1, vI x1, none, none, vL (if x3 = (0:Int32) then ((x2.toInt64) + ((f_fnArg o).toInt64)) else ((x2.toInt64) - ((f_fnArg o).toInt64))), none, vI y305], [], (H0 s r310))) rfl ?_
     obtain rfl := Option.some.inj h
     exact QTri.ret0 rfl rfl
 rcases em (x3 = (0:Int32)) with hc301 | hc301
 ·refine zT Ad W (t := 15) (f := 4) rfl (XT.i0_eq_t hc301) ?_
  refine zS Ad W 6 (st' := (23, [vR 1, vI x1, vI x2, vI x3, none, none, none], [.long ((x2.toInt64) + ((f_fnArg o).toInt64))], (H0 s o))) rfl ?_
  exact zM [tt,tt,ff,ff,ff,ff,ff] (K300 _ (if_pos hc301).symm)
 ·refine zF Ad W (t := 15) (f := 4) rfl (XT.i0_eq_f hc301) ?_
  refine zS Ad W 7 (st' := (23, [vR 1, vI x1, vI x2, vI x3, none, none, none], [.long ((x2.toInt64) - ((f_fnArg o).toInt64))], (H0 s o))) rfl ?_
  exact zM [tt,tt,ff,ff,ff,ff,ff] (K300 _ (if_neg hc301).symm)
/-- applyFunction(I)V -/
def F22 (o : Ob) (x1 : Int32) : Option (Ob) :=
 (if (f_fn o) = (0:Int32) then (F23 o x1 (f_aggSum o) (if (f_aggCount o) = (0:Int32) then (1:Int32) else (0:Int32))).bind fun r251 => some r251 else (if (f_fn o) = (1:Int32) then (F23 o x1 ((f_aggCount o).toInt64) (0:Int32)).bind fun r253 => some r253 else (if (f_fn o) = (2:Int32) then (F23 o x1 ((f_aggRows o).toInt64) (0:Int32)).bind fun r255 => some r255 else (if (f_fn o) = (3:Int32) then (F23 o x1 ((f_aggMin o).toInt64) (if (f_aggCount o) = (0:Int32) then (1:Int32) else (0:Int32))).bind fun r260 => some r260 else (if (f_fn o) = (4:Int32) then (F23 o x1 ((f_aggMax o).toInt64) (if (f_aggCount o) = (0:Int32) then (1:Int32) else (0:Int32))).bind fun r265 => some r265 else (if (f_fn o) = (5:Int32) then (F23 o x1 (((f_curPos o).toInt64) + (1 : Int64)) (0:Int32)).bind fun r267 => some r267 else (if (f_fn o) = (6:Int32) then (F35 o x1 (f_curPos o)).bind fun r278 => (F23 o x1 r278 (0:Int32)).bind fun r279 => some r279 else (if (f_fn o) = (7:Int32) then (F34 o x1 (f_curPos o)).bind fun r294 => (F23 o x1 r294 (0:Int32)).bind fun r295 => some r295 else (F33 o x1 (f_curPos o) (if (f_fn o) = (8:Int32) then (1:Int32) else (0:Int32))).bind fun r311 => some r311))))))))
theorem tF22 (Ad : QAd n0 ad) (W : QW Z a0) (s : List Int32) (o : Ob) (x1 : Int32) {r : Ob} (h : F22 o x1 = some r) : QTri l Z n0 ad 22 (0, qentry [.ref 1, .int x1] (pMaxL 22), [], (H0 s o)) (none : Option Value) (H0 s r) := by
 unfold F22 at h
 refine zS Ad W 5 (st' := (9, [vR 1, vI x1, vI (f_curPos o), none, none], [.int (f_fn o)], (H0 s o))) rfl ?_
 rcases qite h with ⟨hc241, h⟩ | ⟨hc241, h⟩
 ·refine zF Ad W (t := 36) (f := 12) rfl (XT.i0_ne_f hc241) ?_
  refine zS Ad W 6 (st' := (22, [vR 1, vI x1, vI (f_curPos o), none, none], [.int (f_aggCount o), .long (f_aggSum o), .int x1, .ref 1], (H0 s o))) rfl ?_
  have K243 : ∀ z242 : Int32, z242 = (if (f_aggCount o) = (0:Int32) then (1:Int32) else (0:Int32)) → QTri l Z n0 ad 22 (30, [none, none, none, none, none], [.int z242, .long (f_aggSum o), .int x1, .ref 1], (H0 s o)) (none : Option Value) (H0 s r) := by
   intro z242 ez242
   subst ez242
   obtain ⟨r251, hr251, h⟩ := bind_eq_some_iff.mp h
   refine QTri.callP W (a := 1) (as := [.int x1, .long (f_aggSum o), .int (if (f_aggCount o) = (0:Int32) then (1:Int32) else (0:Int32))]) (rest := []) (w := none) (σ₁ := (H0 s r251)) rfl rfl rfl rfl rfl rfl rfl rfl (tF23 Ad W s o x1 (f_aggSum o) (if (f_aggCount o) = (0:Int32) then (1:Int32) else (0:Int32)) hr251) ?_
   refine zS Ad W 1 (st' := (239, [none, none, none, none, none], [], (H0 s r251))) rfl ?_
   obtain rfl := Option.some.inj h
   exact QTri.ret0 rfl rfl
  rcases em ((f_aggCount o) = (0:Int32)) with hc244 | hc244
  ·refine zF Ad W (t := 29) (f := 25) rfl (XT.i0_ne_f hc244) ?_
   refine zS Ad W 2 (st' := (30, [vR 1, vI x1, vI (f_curPos o), none, none], [.int (1:Int32), .long (f_aggSum o), .int x1, .ref 1], (H0 s o))) rfl ?_
   exact zM [ff,ff,ff,ff,ff] (K243 _ (if_pos hc244).symm)
  ·refine zT Ad W (t := 29) (f := 25) rfl (XT.i0_ne_t hc244) ?_
   refine zS Ad W 1 (st' := (30, [vR 1, vI x1, vI (f_curPos o), none, none], [.int (0:Int32), .long (f_aggSum o), .int x1, .ref 1], (H0 s o))) rfl ?_
   exact zM [ff,ff,ff,ff,ff] (K243 _ (if_neg hc244).symm)
 ·refine zT Ad W (t := 36) (f := 12) rfl (XT.i0_ne_t hc241) ?_
  refine zS Ad W 3 (st' := (41, [vR 1, vI x1, vI (f_curPos o), none, none], [.int (1:Int32), .int (f_fn o)], (H0 s o))) rfl ?_
  rcases qite h with ⟨hc252, h⟩ | ⟨hc252, h⟩
  ·refine zF Ad W (t := 58) (f := 44) rfl (XT.ii_ne_f hc252) ?_
   refine zS Ad W 6 (st' := (52, [vR 1, vI x1, vI (f_curPos o), none, none], [.int (0:Int32), .long ((f_aggCount o).toInt64), .int x1, .ref 1], (H0 s o))) rfl ?_
   obtain ⟨r253, hr253, h⟩ := bind_eq_some_iff.mp h
   refine QTri.callP W (a := 1) (as := [.int x1, .long ((f_aggCount o).toInt64), .int (0:Int32)]) (rest := []) (w := none) (σ₁ := (H0 s r253)) rfl rfl rfl rfl rfl rfl rfl rfl (tF23 Ad W s o x1 ((f_aggCount o).toInt64) (0:Int32) hr253) ?_
   refine zS Ad W 1 (st' := (239, [vR 1, vI x1, vI (f_curPos o), none, none], [], (H0 s r253))) rfl ?_
   obtain rfl := Option.some.inj h
   exact QTri.ret0 rfl rfl
  ·refine zT Ad W (t := 58) (f := 44) rfl (XT.ii_ne_t hc252) ?_
   refine zS Ad W 3 (st' := (63, [vR 1, vI x1, vI (f_curPos o), none, none], [.int (2:Int32), .int (f_fn o)], (H0 s o))) rfl ?_
   rcases qite h with ⟨hc254, h⟩ | ⟨hc254, h⟩
   ·refine zF Ad W (t := 80) (f := 66) rfl (XT.ii_ne_f hc254) ?_
    refine zS Ad W 6 (st' := (74, [vR 1, vI x1, vI (f_curPos o), none, none], [.int (0:Int32), .long ((f_aggRows o).toInt64), .int x1, .ref 1], (H0 s o))) rfl ?_
    obtain ⟨r255, hr255, h⟩ := bind_eq_some_iff.mp h
    refine QTri.callP W (a := 1) (as := [.int x1, .long ((f_aggRows o).toInt64), .int (0:Int32)]) (rest := []) (w := none) (σ₁ := (H0 s r255)) rfl rfl rfl rfl rfl rfl rfl rfl (tF23 Ad W s o x1 ((f_aggRows o).toInt64) (0:Int32) hr255) ?_
    refine zS Ad W 1 (st' := (239, [vR 1, vI x1, vI (f_curPos o), none, none], [], (H0 s r255))) rfl ?_
    obtain rfl := Option.some.inj h
    exact QTri.ret0 rfl rfl
   ·refine zT Ad W (t := 80) (f := 66) rfl (XT.ii_ne_t hc254) ?_
    refine zS Ad W 3 (st' := (85, [vR 1, vI x1, vI (f_curPos o), none, none], [.int (3:Int32), .int (f_fn o)], (H0 s o))) rfl ?_
    rcases qite h with ⟨hc256, h⟩ | ⟨hc256, h⟩
    ·refine zF Ad W (t := 113) (f := 88) rfl (XT.ii_ne_f hc256) ?_
     refine zS Ad W 7 (st' := (99, [vR 1, vI x1, vI (f_curPos o), none, none], [.int (f_aggCount o), .long ((f_aggMin o).toInt64), .int x1, .ref 1], (H0 s o))) rfl ?_
     have K258 : ∀ z257 : Int32, z257 = (if (f_aggCount o) = (0:Int32) then (1:Int32) else (0:Int32)) → QTri l Z n0 ad 22 (107, [none, none, none, none, none], [.int z257, .long ((f_aggMin o).toInt64), .int x1, .ref 1], (H0 s o)) (none : Option Value) (H0 s r) := by
      intro z257 ez257
      subst ez257
      obtain ⟨r260, hr260, h⟩ := bind_eq_some_iff.mp h
      refine QTri.callP W (a := 1) (as := [.int x1, .long ((f_aggMin o).toInt64), .int (if (f_aggCount o) = (0:Int32) then (1:Int32) else (0:Int32))]) (rest := []) (w := none) (σ₁ := (H0 s r260)) rfl rfl rfl rfl rfl rfl rfl rfl (tF23 Ad W s o x1 ((f_aggMin o).toInt64) (if (f_aggCount o) = (0:Int32) then (1:Int32) else (0:Int32)) hr260) ?_
      refine zS Ad W 1 (st' := (239, [none, none, none, none, none], [], (H0 s r260))) rfl ?_
      obtain rfl := Option.some.inj h
      exact QTri.ret0 rfl rfl
     rcases em ((f_aggCount o) = (0:Int32)) with hc259 | hc259
     ·refine zF Ad W (t := 106) (f := 102) rfl (XT.i0_ne_f hc259) ?_
      refine zS Ad W 2 (st' := (107, [vR 1, vI x1, vI (f_curPos o), none, none], [.int (1:Int32), .long ((f_aggMin o).toInt64), .int x1, .ref 1], (H0 s o))) rfl ?_
      exact zM [ff,ff,ff,ff,ff] (K258 _ (if_pos hc259).symm)
     ·refine zT Ad W (t := 106) (f := 102) rfl (XT.i0_ne_t hc259) ?_
      refine zS Ad W 1 (st' := (107, [vR 1, vI x1, vI (f_curPos o), none, none], [.int (0:Int32), .long ((f_aggMin o).toInt64), .int x1, .ref 1], (H0 s o))) rfl ?_
      exact zM [ff,ff,ff,ff,ff] (K258 _ (if_neg hc259).symm)
    ·refine zT Ad W (t := 113) (f := 88) rfl (XT.ii_ne_t hc256) ?_
     refine zS Ad W 3 (st' := (118, [vR 1, vI x1, vI (f_curPos o), none, none], [.int (4:Int32), .int (f_fn o)], (H0 s o))) rfl ?_
     rcases qite h with ⟨hc261, h⟩ | ⟨hc261, h⟩
     ·refine zF Ad W (t := 146) (f := 121) rfl (XT.ii_ne_f hc261) ?_
      refine zS Ad W 7 (st' := (132, [vR 1, vI x1, vI (f_curPos o), none, none], [.int (f_aggCount o), .long ((f_aggMax o).toInt64), .int x1, .ref 1], (H0 s o))) rfl ?_
      have K263 : ∀ z262 : Int32, z262 = (if (f_aggCount o) = (0:Int32) then (1:Int32) else (0:Int32)) → QTri l Z n0 ad 22 (140, [none, none, none, none, none], [.int z262, .long ((f_aggMax o).toInt64), .int x1, .ref 1], (H0 s o)) (none : Option Value) (H0 s r) := by
       intro z262 ez262
       subst ez262
       obtain ⟨r265, hr265, h⟩ := bind_eq_some_iff.mp h
       refine QTri.callP W (a := 1) (as := [.int x1, .long ((f_aggMax o).toInt64), .int (if (f_aggCount o) = (0:Int32) then (1:Int32) else (0:Int32))]) (rest := []) (w := none) (σ₁ := (H0 s r265)) rfl rfl rfl rfl rfl rfl rfl rfl (tF23 Ad W s o x1 ((f_aggMax o).toInt64) (if (f_aggCount o) = (0:Int32) then (1:Int32) else (0:Int32)) hr265) ?_
       refine zS Ad W 1 (st' := (239, [none, none, none, none, none], [], (H0 s r265))) rfl ?_
       obtain rfl := Option.some.inj h
       exact QTri.ret0 rfl rfl
      rcases em ((f_aggCount o) = (0:Int32)) with hc264 | hc264
      ·refine zF Ad W (t := 139) (f := 135) rfl (XT.i0_ne_f hc264) ?_
       refine zS Ad W 2 (st' := (140, [vR 1, vI x1, vI (f_curPos o), none, none], [.int (1:Int32), .long ((f_aggMax o).toInt64), .int x1, .ref 1], (H0 s o))) rfl ?_
       exact zM [ff,ff,ff,ff,ff] (K263 _ (if_pos hc264).symm)
      ·refine zT Ad W (t := 139) (f := 135) rfl (XT.i0_ne_t hc264) ?_
       refine zS Ad W 1 (st' := (140, [vR 1, vI x1, vI (f_curPos o), none, none], [.int (0:Int32), .long ((f_aggMax o).toInt64), .int x1, .ref 1], (H0 s o))) rfl ?_
       exact zM [ff,ff,ff,ff,ff] (K263 _ (if_neg hc264).symm)
     ·refine zT Ad W (t := 146) (f := 121) rfl (XT.ii_ne_t hc261) ?_
      refine zS Ad W 3 (st' := (151, [vR 1, vI x1, vI (f_curPos o), none, none], [.int (5:Int32), .int (f_fn o)], (H0 s o))) rfl ?_
      rcases qite h with ⟨hc266, h⟩ | ⟨hc266, h⟩
      ·refine zF Ad W (t := 167) (f := 154) rfl (XT.ii_ne_f hc266) ?_
       refine zS Ad W 7 (st' := (161, [vR 1, vI x1, vI (f_curPos o), none, none], [.int (0:Int32), .long (((f_curPos o).toInt64) + (1 : Int64)), .int x1, .ref 1], (H0 s o))) rfl ?_
       obtain ⟨r267, hr267, h⟩ := bind_eq_some_iff.mp h
       refine QTri.callP W (a := 1) (as := [.int x1, .long (((f_curPos o).toInt64) + (1 : Int64)), .int (0:Int32)]) (rest := []) (w := none) (σ₁ := (H0 s r267)) rfl rfl rfl rfl rfl rfl rfl rfl (tF23 Ad W s o x1 (((f_curPos o).toInt64) + (1 : Int64)) (0:Int32) hr267) ?_
       refine zS Ad W 1 (st' := (239, [vR 1, vI x1, vI (f_curPos o), none, none], [], (H0 s r267))) rfl ?_
       obtain rfl := Option.some.inj h
       exact QTri.ret0 rfl rfl
      ·refine zT Ad W (t := 167) (f := 154) rfl (XT.ii_ne_t hc266) ?_
       refine zS Ad W 3 (st' := (173, [vR 1, vI x1, vI (f_curPos o), none, none], [.int (6:Int32), .int (f_fn o)], (H0 s o))) rfl ?_
       rcases qite h with ⟨hc268, h⟩ | ⟨hc268, h⟩
       ·refine zF Ad W (t := 193) (f := 176) rfl (XT.ii_ne_f hc268) ?_
        refine zS Ad W 3 (st' := (179, [vR 1, vI x1, vI (f_curPos o), none, none], [.int (f_curPos o), .int x1, .ref 1], (H0 s o))) rfl ?_
        obtain ⟨r278, hr278, h⟩ := bind_eq_some_iff.mp h
        refine QTri.callP W (a := 1) (as := [.int x1, .int (f_curPos o)]) (rest := []) (w := (some (.long r278))) (σ₁ := (H0 s o)) rfl rfl rfl rfl rfl rfl rfl rfl (tF35 Ad W s o x1 (f_curPos o) hr278) ?_
        refine zS Ad W 5 (st' := (187, [vR 1, vI x1, vI (f_curPos o), vL r278, none], [.int (0:Int32), .long r278, .int x1, .ref 1], (H0 s o))) rfl ?_
        obtain ⟨r279, hr279, h⟩ := bind_eq_some_iff.mp h
        refine QTri.callP W (a := 1) (as := [.int x1, .long r278, .int (0:Int32)]) (rest := []) (w := none) (σ₁ := (H0 s r279)) rfl rfl rfl rfl rfl rfl rfl rfl (tF23 Ad W s o x1 r278 (0:Int32) hr279) ?_
        refine zS Ad W 1 (st' := (239, [vR 1, vI x1, vI (f_curPos o), vL r278, none], [], (H0 s r279))) rfl ?_
        obtain rfl := Option.some.inj h
        exact QTri.ret0 rfl rfl
       ·refine zT Ad W (t := 193) (f := 176) rfl (XT.ii_ne_t hc268) ?_
        refine zS Ad W 3 (st' := (199, [vR 1, vI x1, vI (f_curPos o), none, none], [.int (7:Int32), .int (f_fn o)], (H0 s o))) rfl ?_
        rcases qite h with ⟨hc280, h⟩ | ⟨hc280, h⟩
        ·refine zF Ad W (t := 219) (f := 202) rfl (XT.ii_ne_f hc280) ?_
         refine zS Ad W 3 (st' := (205, [vR 1, vI x1, vI (f_curPos o), none, none], [.int (f_curPos o), .int x1, .ref 1], (H0 s o))) rfl ?_
         obtain ⟨r294, hr294, h⟩ := bind_eq_some_iff.mp h
         refine QTri.callP W (a := 1) (as := [.int x1, .int (f_curPos o)]) (rest := []) (w := (some (.long r294))) (σ₁ := (H0 s o)) rfl rfl rfl rfl rfl rfl rfl rfl (tF34 Ad W s o x1 (f_curPos o) hr294) ?_
         refine zS Ad W 5 (st' := (213, [vR 1, vI x1, vI (f_curPos o), vL r294, none], [.int (0:Int32), .long r294, .int x1, .ref 1], (H0 s o))) rfl ?_
         obtain ⟨r295, hr295, h⟩ := bind_eq_some_iff.mp h
         refine QTri.callP W (a := 1) (as := [.int x1, .long r294, .int (0:Int32)]) (rest := []) (w := none) (σ₁ := (H0 s r295)) rfl rfl rfl rfl rfl rfl rfl rfl (tF23 Ad W s o x1 r294 (0:Int32) hr295) ?_
         refine zS Ad W 1 (st' := (239, [vR 1, vI x1, vI (f_curPos o), vL r294, none], [], (H0 s r295))) rfl ?_
         obtain rfl := Option.some.inj h
         exact QTri.ret0 rfl rfl
        ·refine zT Ad W (t := 219) (f := 202) rfl (XT.ii_ne_t hc280) ?_
         refine zS Ad W 6 (st' := (228, [vR 1, vI x1, vI (f_curPos o), none, none], [.int (8:Int32), .int (f_fn o), .int (f_curPos o), .int x1, .ref 1], (H0 s o))) rfl ?_
         have K297 : ∀ z296 : Int32, z296 = (if (f_fn o) = (8:Int32) then (1:Int32) else (0:Int32)) → QTri l Z n0 ad 22 (236, [none, none, none, none, none], [.int z296, .int (f_curPos o), .int x1, .ref 1], (H0 s o)) (none : Option Value) (H0 s r) := by
          intro z296 ez296
          subst ez296
          obtain ⟨r311, hr311, h⟩ := bind_eq_some_iff.mp h
          refine QTri.callP W (a := 1) (as := [.int x1, .int (f_curPos o), .int (if (f_fn o) = (8:Int32) then (1:Int32) else (0:Int32))]) (rest := []) (w := none) (σ₁ := (H0 s r311)) rfl rfl rfl rfl rfl rfl rfl rfl (tF33 Ad W s o x1 (f_curPos o) (if (f_fn o) = (8:Int32) then (1:Int32) else (0:Int32)) hr311) ?_
          obtain rfl := Option.some.inj h
          exact QTri.ret0 rfl rfl
         rcases em ((f_fn o) = (8:Int32)) with hc298 | hc298
         ·refine zF Ad W (t := 235) (f := 231) rfl (XT.ii_ne_f hc298) ?_
          refine zS Ad W 2 (st' := (236, [vR 1, vI x1, vI (f_curPos o), none, none], [.int (1:Int32), .int (f_curPos o), .int x1, .ref 1], (H0 s o))) rfl ?_
          exact zM [ff,ff,ff,ff,ff] (K297 _ (if_pos hc298).symm)
         ·refine zT Ad W (t := 235) (f := 231) rfl (XT.ii_ne_t hc298) ?_
          refine zS Ad W 1 (st' := (236, [vR 1, vI x1, vI (f_curPos o), none, none], [.int (0:Int32), .int (f_curPos o), .int x1, .ref 1], (H0 s o))) rfl ?_
          exact zM [ff,ff,ff,ff,ff] (K297 _ (if_neg hc298).symm)
/-- computeRow(I)V -/
def F13 (o : Ob) (x1 : Int32) : Option (Ob) :=
 (F14 o x1).bind fun r146 => (F17 r146 x1).bind fun r238 => (aset (f_frameCnt r238) x1 (f_aggRows r238)).bind fun y239 => (F22 (s_frameCnt r238 y239) x1).bind fun r312 => some r312
theorem tF13 (Ad : QAd n0 ad) (W : QW Z a0) (s : List Int32) (o : Ob) (x1 : Int32) {r : Ob} (h : F13 o x1 = some r) : QTri l Z n0 ad 13 (0, qentry [.ref 1, .int x1] (pMaxL 13), [], (H0 s o)) (none : Option Value) (H0 s r) := by
 unfold F13 at h
 refine zS Ad W 2 (st' := (2, [vR 1, vI x1], [.int x1, .ref 1], (H0 s o))) rfl ?_
 obtain ⟨r146, hr146, h⟩ := bind_eq_some_iff.mp h
 refine QTri.callP W (a := 1) (as := [.int x1]) (rest := []) (w := none) (σ₁ := (H0 s r146)) rfl rfl rfl rfl rfl rfl rfl rfl (tF14 Ad W s o x1 hr146) ?_
 refine zS Ad W 2 (st' := (7, [vR 1, vI x1], [.int x1, .ref 1], (H0 s r146))) rfl ?_
 obtain ⟨r238, hr238, h⟩ := bind_eq_some_iff.mp h
 refine QTri.callP W (a := 1) (as := [.int x1]) (rest := []) (w := none) (σ₁ := (H0 s r238)) rfl rfl rfl rfl rfl rfl rfl rfl (tF17 Ad W s r146 x1 hr238) ?_
 refine zS Ad W 5 (st' := (19, [vR 1, vI x1], [.int (f_aggRows r238), .int x1, .ref 8], (H0 s r238))) rfl ?_
 obtain ⟨y239, hy239, h⟩ := bind_eq_some_iff.mp h
 refine zB Ad W (f := fun y239 => (20, [vR 1, vI x1], [], (H0x40 s r238 y239))) rfl hy239 ?_
 refine zS Ad W 2 (st' := (22, [vR 1, vI x1], [.int x1, .ref 1], (H0x40 s r238 y239))) rfl ?_
 have E240 : ((H0x40 s r238 y239) : QHeap) = (H0 s (s_frameCnt r238 y239)) := by simp only [fs, H0, H0v, H0x40, s_frameCnt]
 rw [E240]
 obtain ⟨r312, hr312, h⟩ := bind_eq_some_iff.mp h
 refine QTri.callP W (a := 1) (as := [.int x1]) (rest := []) (w := none) (σ₁ := (H0 s r312)) rfl rfl rfl rfl rfl rfl rfl rfl (tF22 Ad W s (s_frameCnt r238 y239) x1 hr312) ?_
 obtain rfl := Option.some.inj h
 exact QTri.ret0 rfl rfl
def B11_11 (v : Int32 × Ob) : Option (((Int32 × Ob)) ⊕ (Int32 × Ob)) :=
  (if v.1 < (f_rows v.2) then (F13 v.2 v.1).bind fun r313 => some (.inr ((v.1 + (1 : Int32)), r313)) else some (.inl ((0 : Int32), (s_computed v.2 (1 : Int32)))))
theorem tB11_11 (Ad : QAd n0 ad) (W : QW Z a0) (s : List Int32) (v : Int32 × Ob) {r : ((Int32 × Ob)) ⊕ (Int32 × Ob)} {u : Option Value} {τ : QHeap} (h : B11_11 v = some r) (hx0 : ∀ x : Int32 × Ob, r = .inl x → u = (some (Value.int x.1)) ∧ τ = (H0 s x.2)) (hc : ∀ x : Int32 × Ob, r = .inr x → QTri l Z n0 ad 11 (11, [vR 1, vI x.1], [], (H0 s x.2)) u τ) : QTri l Z n0 ad 11 (11, [vR 1, vI v.1], [], (H0 s v.2)) u τ := by
 unfold B11_11 at h
 refine zS Ad W 3 (st' := (16, [vR 1, vI v.1], [.int (f_rows v.2), .int v.1], (H0 s v.2))) rfl ?_
 rcases qite h with ⟨hc97, h⟩ | ⟨hc97, h⟩
 ·refine zF Ad W (t := 30) (f := 19) rfl (XT.ii_ge_f hc97) ?_
  refine zS Ad W 2 (st' := (21, [vR 1, vI v.1], [.int v.1, .ref 1], (H0 s v.2))) rfl ?_
  obtain ⟨r313, hr313, h⟩ := bind_eq_some_iff.mp h
  refine QTri.callP W (a := 1) (as := [.int v.1]) (rest := []) (w := none) (σ₁ := (H0 s r313)) rfl rfl rfl rfl rfl rfl rfl rfl (tF13 Ad W s v.2 v.1 hr313) ?_
  refine zS Ad W 2 (st' := (11, [vR 1, vI (v.1 + (1:Int32))], [], (H0 s r313))) rfl ?_
  obtain rfl := Option.some.inj h
  exact zM [tt,tt] (hc ((v.1 + (1:Int32)), r313) rfl)
 ·refine zT Ad W (t := 30) (f := 19) rfl (XT.ii_ge_t hc97) ?_
  refine zS Ad W 3 (st' := (35, [vR 1, vI v.1], [], (H0x12 s v.2 (1:Int32)))) rfl ?_
  refine zS Ad W 1 (st' := (36, [vR 1, vI v.1], [.int (0:Int32)], (H0x12 s v.2 (1:Int32)))) rfl ?_
  have E314 : ((H0x12 s v.2 (1:Int32)) : QHeap) = (H0 s (s_computed v.2 (1:Int32))) := by simp only [fs, H0, H0v, H0x12, s_computed]
  rw [E314]
  obtain rfl := Option.some.inj h
  obtain ⟨rfl, rfl⟩ := hx0 ((0:Int32), (s_computed v.2 (1:Int32))) rfl
  exact QTri.retI rfl rfl
/-- compute()I -/
def F11 (o : Ob) : Option (Int32 × Ob) :=
 (F12 o).bind fun r95 => (if r95 = (0:Int32) then (loopN (B11_11) qN ((0:Int32), o)).bind fun e315 => some e315 else some ((-1:Int32), o))
theorem tF11 (Ad : QAd n0 ad) (W : QW Z a0) (s : List Int32) (o : Ob) {r : Int32 × Ob} (h : F11 o = some r) : QTri l Z n0 ad 11 (0, qentry [.ref 1] (pMaxL 11), [], (H0 s o)) (some (Value.int r.1)) (H0 s r.2) := by
 unfold F11 at h
 refine zS Ad W 1 (st' := (1, [vR 1, none], [.ref 1], (H0 s o))) rfl ?_
 obtain ⟨r95, hr95, h⟩ := bind_eq_some_iff.mp h
 refine QTri.callP W (a := 1) (as := []) (rest := []) (w := (some (.int r95))) (σ₁ := (H0 s o)) rfl rfl rfl rfl rfl rfl rfl rfl (tF12 Ad W s o hr95) ?_
 rcases qite h with ⟨hc96, h⟩ | ⟨hc96, h⟩
 ·refine zT Ad W (t := 9) (f := 7) rfl (XT.i0_eq_t hc96) ?_
  refine zS Ad W 2 (st' := (11, [vR 1, vI (0:Int32)], [], (H0 s o))) rfl ?_
  obtain ⟨e315, he315, h⟩ := bind_eq_some_iff.mp h
  refine zM [tt,tt] (loopN_tri (B := B11_11) (T := fun lv316 => QTri l Z n0 ad 11 (11, [vR 1, vI lv316.1], [], (H0 s lv316.2)) (some (Value.int r.1)) (H0 s r.2)) (KE := fun e315a => (some (Value.int r.1)) = (some (Value.int e315a.1)) ∧ (H0 s r.2) = (H0 s e315a.2)) (fun lv316 r hB hE hC => tB11_11 Ad W s lv316 hB (fun x q => hE _ q) (fun x q => hC x q)) qN ((0:Int32), o) e315 he315 ?_)
  obtain rfl := Option.some.inj h
  exact ⟨rfl, rfl⟩
 ·refine zF Ad W (t := 9) (f := 7) rfl (XT.i0_eq_f hc96) ?_
  refine zS Ad W 1 (st' := (8, [vR 1, none], [.int (-1:Int32)], (H0 s o))) rfl ?_
  obtain rfl := Option.some.inj h
  exact QTri.retI rfl rfl
def H0x43 (s : List Int32) (o0 : Ob) (a0_0 : List Int32) : QHeap := H0v s a0_0 (f_keys o0) (f_vals o0) (f_flg o0) (f_res o0) (f_resNull o0) (f_frameCnt o0) (f_sorted o0) (f_cap o0) (f_rows o0) (f_direction o0) (f_nulls o0) (f_mode o0) (f_startKind o0) (f_startOff o0) (f_endKind o0) (f_endOff o0) (f_fn o0) (f_fnArg o0) (f_computed o0) (f_sortedLen o0) (f_curPos o0) (f_aggSum o0) (f_aggCount o0) (f_aggRows o0) (f_aggMin o0) (f_aggMax o0)
def H0x44 (s : List Int32) (o0 : Ob) (a0_0 : List Int32) (a0_1 : List Int32) : QHeap := H0v s a0_0 a0_1 (f_vals o0) (f_flg o0) (f_res o0) (f_resNull o0) (f_frameCnt o0) (f_sorted o0) (f_cap o0) (f_rows o0) (f_direction o0) (f_nulls o0) (f_mode o0) (f_startKind o0) (f_startOff o0) (f_endKind o0) (f_endOff o0) (f_fn o0) (f_fnArg o0) (f_computed o0) (f_sortedLen o0) (f_curPos o0) (f_aggSum o0) (f_aggCount o0) (f_aggRows o0) (f_aggMin o0) (f_aggMax o0)
def H0x45 (s : List Int32) (o0 : Ob) (a0_0 : List Int32) (a0_1 : List Int32) (a0_2 : List Int32) : QHeap := H0v s a0_0 a0_1 a0_2 (f_flg o0) (f_res o0) (f_resNull o0) (f_frameCnt o0) (f_sorted o0) (f_cap o0) (f_rows o0) (f_direction o0) (f_nulls o0) (f_mode o0) (f_startKind o0) (f_startOff o0) (f_endKind o0) (f_endOff o0) (f_fn o0) (f_fnArg o0) (f_computed o0) (f_sortedLen o0) (f_curPos o0) (f_aggSum o0) (f_aggCount o0) (f_aggRows o0) (f_aggMin o0) (f_aggMax o0)
def H0x46 (s : List Int32) (o0 : Ob) (a0_0 : List Int32) (a0_1 : List Int32) (a0_2 : List Int32) (a0_3 : List Int32) : QHeap := H0v s a0_0 a0_1 a0_2 a0_3 (f_res o0) (f_resNull o0) (f_frameCnt o0) (f_sorted o0) (f_cap o0) (f_rows o0) (f_direction o0) (f_nulls o0) (f_mode o0) (f_startKind o0) (f_startOff o0) (f_endKind o0) (f_endOff o0) (f_fn o0) (f_fnArg o0) (f_computed o0) (f_sortedLen o0) (f_curPos o0) (f_aggSum o0) (f_aggCount o0) (f_aggRows o0) (f_aggMin o0) (f_aggMax o0)
def H0x47 (s : List Int32) (o0 : Ob) (a0_0 : List Int32) (a0_1 : List Int32) (a0_2 : List Int32) (a0_3 : List Int32) (a0_9 : Int32) : QHeap := H0v s a0_0 a0_1 a0_2 a0_3 (f_res o0) (f_resNull o0) (f_frameCnt o0) (f_sorted o0) (f_cap o0) a0_9 (f_direction o0) (f_nulls o0) (f_mode o0) (f_startKind o0) (f_startOff o0) (f_endKind o0) (f_endOff o0) (f_fn o0) (f_fnArg o0) (f_computed o0) (f_sortedLen o0) (f_curPos o0) (f_aggSum o0) (f_aggCount o0) (f_aggRows o0) (f_aggMin o0) (f_aggMax o0)
def H0x48 (s : List Int32) (o0 : Ob) (a0_0 : List Int32) (a0_1 : List Int32) (a0_2 : List Int32) (a0_3 : List Int32) (a0_9 : Int32) (a0_19 : Int32) : QHeap := H0v s a0_0 a0_1 a0_2 a0_3 (f_res o0) (f_resNull o0) (f_frameCnt o0) (f_sorted o0) (f_cap o0) a0_9 (f_direction o0) (f_nulls o0) (f_mode o0) (f_startKind o0) (f_startOff o0) (f_endKind o0) (f_endOff o0) (f_fn o0) (f_fnArg o0) a0_19 (f_sortedLen o0) (f_curPos o0) (f_aggSum o0) (f_aggCount o0) (f_aggRows o0) (f_aggMin o0) (f_aggMax o0)
/-- addRow(IIII)I -/
def F3 (o : Ob) (x1 : Int32) (x2 : Int32) (x3 : Int32) (x4 : Int32) : Option (Int32 × Ob) :=
 (if x4 < (0:Int32) then some ((-1:Int32), o) else (if (3:Int32) < x4 then some ((-1:Int32), o) else (if (f_rows o) < (f_cap o) then (aset (f_part o) (f_rows o) x1).bind fun y322 => (aset (f_keys o) (f_rows o) (if (x4 &&& (1:Int32)) = (0:Int32) then x2 else (0:Int32))).bind fun y326 => (aset (f_vals o) (f_rows o) (if (x4 &&& (2:Int32)) = (0:Int32) then x3 else (0:Int32))).bind fun y330 => (aset (f_flg o) (f_rows o) x4).bind fun y331 => some ((f_rows o), (s_computed (s_rows (s_flg (s_vals (s_keys (s_part o y322) y326) y330) y331) ((f_rows o) + (1:Int32))) (0:Int32))) else some ((-1:Int32), o))))
theorem tF3 (Ad : QAd n0 ad) (W : QW Z a0) (s : List Int32) (o : Ob) (x1 : Int32) (x2 : Int32) (x3 : Int32) (x4 : Int32) {r : Int32 × Ob} (h : F3 o x1 x2 x3 x4 = some r) : QTri l Z n0 ad 3 (0, qentry [.ref 1, .int x1, .int x2, .int x3, .int x4] (pMaxL 3), [], (H0 s o)) (some (Value.int r.1)) (H0 s r.2) := by
 unfold F3 at h
 refine zS Ad W 1 (st' := (2, [vR 1, vI x1, vI x2, vI x3, vI x4, none], [.int x4], (H0 s o))) rfl ?_
 rcases qite h with ⟨hc319, h⟩ | ⟨hc319, h⟩
 ·refine zT Ad W (t := 11) (f := 5) rfl (XT.i0_lt_t hc319) ?_
  refine zS Ad W 1 (st' := (12, [vR 1, vI x1, vI x2, vI x3, vI x4, none], [.int (-1:Int32)], (H0 s o))) rfl ?_
  obtain rfl := Option.some.inj h
  exact QTri.retI rfl rfl
 ·refine zF Ad W (t := 11) (f := 5) rfl (XT.i0_lt_f hc319) ?_
  refine zS Ad W 2 (st' := (8, [vR 1, vI x1, vI x2, vI x3, vI x4, none], [.int (3:Int32), .int x4], (H0 s o))) rfl ?_
  rcases qite h with ⟨hc320, h⟩ | ⟨hc320, h⟩
  ·refine zF Ad W (t := 13) (f := 11) rfl (XT.ii_le_f hc320) ?_
   refine zS Ad W 1 (st' := (12, [vR 1, vI x1, vI x2, vI x3, vI x4, none], [.int (-1:Int32)], (H0 s o))) rfl ?_
   obtain rfl := Option.some.inj h
   exact QTri.retI rfl rfl
  ·refine zT Ad W (t := 13) (f := 11) rfl (XT.ii_le_t hc320) ?_
   refine zS Ad W 4 (st' := (21, [vR 1, vI x1, vI x2, vI x3, vI x4, none], [.int (f_cap o), .int (f_rows o)], (H0 s o))) rfl ?_
   rcases qite h with ⟨hc321, h⟩ | ⟨hc321, h⟩
   ·refine zT Ad W (t := 26) (f := 24) rfl (XT.ii_lt_t hc321) ?_
    refine zS Ad W 7 (st' := (39, [vR 1, vI x1, vI x2, vI x3, vI x4, vI (f_rows o)], [.int x1, .int (f_rows o), .ref 2], (H0 s o))) rfl ?_
    obtain ⟨y322, hy322, h⟩ := bind_eq_some_iff.mp h
    refine zB Ad W (f := fun y322 => (40, [vR 1, vI x1, vI x2, vI x3, vI x4, vI (f_rows o)], [], (H0x43 s o y322))) rfl hy322 ?_
    refine zS Ad W 6 (st' := (50, [vR 1, vI x1, vI x2, vI x3, vI x4, vI (f_rows o)], [.int (x4 &&& (1:Int32)), .int (f_rows o), .ref 3], (H0x43 s o y322))) rfl ?_
    have K324 : ∀ z323 : Int32, z323 = (if (x4 &&& (1:Int32)) = (0:Int32) then x2 else (0:Int32)) → QTri l Z n0 ad 3 (58, [vR 1, none, none, vI x3, vI x4, vI (f_rows o)], [.int z323, .int (f_rows o), .ref 3], (H0x43 s o y322)) (some (Value.int r.1)) (H0 s r.2) := by
     intro z323 ez323
     subst ez323
     obtain ⟨y326, hy326, h⟩ := bind_eq_some_iff.mp h
     refine zB Ad W (f := fun y326 => (59, [vR 1, none, none, vI x3, vI x4, vI (f_rows o)], [], (H0x44 s o y322 y326))) rfl hy326 ?_
     refine zS Ad W 6 (st' := (69, [vR 1, none, none, vI x3, vI x4, vI (f_rows o)], [.int (x4 &&& (2:Int32)), .int (f_rows o), .ref 4], (H0x44 s o y322 y326))) rfl ?_
     have K328 : ∀ z327 : Int32, z327 = (if (x4 &&& (2:Int32)) = (0:Int32) then x3 else (0:Int32)) → QTri l Z n0 ad 3 (77, [vR 1, none, none, none, vI x4, vI (f_rows o)], [.int z327, .int (f_rows o), .ref 4], (H0x44 s o y322 y326)) (some (Value.int r.1)) (H0 s r.2) := by
      intro z327 ez327
      subst ez327
      obtain ⟨y330, hy330, h⟩ := bind_eq_some_iff.mp h
      refine zB Ad W (f := fun y330 => (78, [vR 1, none, none, none, vI x4, vI (f_rows o)], [], (H0x45 s o y322 y326 y330))) rfl hy330 ?_
      refine zS Ad W 4 (st' := (86, [vR 1, none, none, none, vI x4, vI (f_rows o)], [.int x4, .int (f_rows o), .ref 5], (H0x45 s o y322 y326 y330))) rfl ?_
      obtain ⟨y331, hy331, h⟩ := bind_eq_some_iff.mp h
      refine zB Ad W (f := fun y331 => (87, [vR 1, none, none, none, vI x4, vI (f_rows o)], [], (H0x46 s o y322 y326 y330 y331))) rfl hy331 ?_
      refine zS Ad W 5 (st' := (95, [vR 1, none, none, none, vI x4, vI (f_rows o)], [], (H0x47 s o y322 y326 y330 y331 ((f_rows o) + (1:Int32))))) rfl ?_
      refine zS Ad W 3 (st' := (100, [vR 1, none, none, none, vI x4, vI (f_rows o)], [], (H0x48 s o y322 y326 y330 y331 ((f_rows o) + (1:Int32)) (0:Int32)))) rfl ?_
      refine zS Ad W 1 (st' := (102, [vR 1, none, none, none, vI x4, vI (f_rows o)], [.int (f_rows o)], (H0x48 s o y322 y326 y330 y331 ((f_rows o) + (1:Int32)) (0:Int32)))) rfl ?_
      have E332 : ((H0x48 s o y322 y326 y330 y331 ((f_rows o) + (1:Int32)) (0:Int32)) : QHeap) = (H0 s (s_computed (s_rows (s_flg (s_vals (s_keys (s_part o y322) y326) y330) y331) ((f_rows o) + (1:Int32))) (0:Int32))) := by simp only [fs, H0, H0v, H0x48, s_part, s_keys, s_vals, s_flg, s_rows, s_computed]
      rw [E332]
      obtain rfl := Option.some.inj h
      exact QTri.retI rfl rfl
     rcases em ((x4 &&& (2:Int32)) = (0:Int32)) with hc329 | hc329
     ·refine zT Ad W (t := 76) (f := 72) rfl (XT.i0_eq_t hc329) ?_
      refine zS Ad W 1 (st' := (77, [vR 1, none, none, vI x3, vI x4, vI (f_rows o)], [.int x3, .int (f_rows o), .ref 4], (H0x44 s o y322 y326))) rfl ?_
      exact zM [tt,ff,ff,ff,tt,tt] (K328 _ (if_pos hc329).symm)
     ·refine zF Ad W (t := 76) (f := 72) rfl (XT.i0_eq_f hc329) ?_
      refine zS Ad W 2 (st' := (77, [vR 1, none, none, vI x3, vI x4, vI (f_rows o)], [.int (0:Int32), .int (f_rows o), .ref 4], (H0x44 s o y322 y326))) rfl ?_
      exact zM [tt,ff,ff,ff,tt,tt] (K328 _ (if_neg hc329).symm)
    rcases em ((x4 &&& (1:Int32)) = (0:Int32)) with hc325 | hc325
    ·refine zT Ad W (t := 57) (f := 53) rfl (XT.i0_eq_t hc325) ?_
     refine zS Ad W 1 (st' := (58, [vR 1, vI x1, vI x2, vI x3, vI x4, vI (f_rows o)], [.int x2, .int (f_rows o), .ref 3], (H0x43 s o y322))) rfl ?_
     exact zM [tt,ff,ff,tt,tt,tt] (K324 _ (if_pos hc325).symm)
    ·refine zF Ad W (t := 57) (f := 53) rfl (XT.i0_eq_f hc325) ?_
     refine zS Ad W 2 (st' := (58, [vR 1, vI x1, vI x2, vI x3, vI x4, vI (f_rows o)], [.int (0:Int32), .int (f_rows o), .ref 3], (H0x43 s o y322))) rfl ?_
     exact zM [tt,ff,ff,tt,tt,tt] (K324 _ (if_neg hc325).symm)
   ·refine zF Ad W (t := 26) (f := 24) rfl (XT.ii_lt_f hc321) ?_
    refine zS Ad W 1 (st' := (25, [vR 1, vI x1, vI x2, vI x3, vI x4, none], [.int (-1:Int32)], (H0 s o))) rfl ?_
    obtain rfl := Option.some.inj h
    exact QTri.retI rfl rfl
def B0_36 (s : List Int32) (x2 : Int32) (x3 : Int32) (v : Int32 × Ob) : Option (((Ob)) ⊕ (Int32 × Ob)) :=
  (if (v.1 + (4 : Int32)) < (s.length.toInt32) then (aget s v.1).bind fun y16 => (aget s (v.1 + (1 : Int32))).bind fun y17 => (aget s (v.1 + (2 : Int32))).bind fun y18 => (aget s (v.1 + (3 : Int32))).bind fun y19 => (aget s (v.1 + (4 : Int32))).bind fun y20 => (if (7 : Int32) < (y16 &&& (15 : Int32)) then (if (y16 &&& (15 : Int32)) = (8 : Int32) then (F30 v.2).bind fun r24 => (J0_277 s r24 x2 x3 v.1) else (if (y16 &&& (15 : Int32)) = (9 : Int32) then (F29 v.2 ((y17 &&& (255 : Int32)) &&& (3 : Int32)) ((y18 &&& (255 : Int32)) &&& (1 : Int32))).bind fun r31 => (J0_277 s r31.2 x2 x3 v.1) else (if (y16 &&& (15 : Int32)) = (10 : Int32) then (F28 v.2 ((y17 &&& (255 : Int32)) % (3 : Int32))).bind fun r37 => (J0_277 s r37.2 x2 x3 v.1) else (if (y16 &&& (15 : Int32)) = (11 : Int32) then (F9 v.2 ((y17 &&& (255 : Int32)) % (5 : Int32)) (((y18 &&& (255 : Int32)) &&& (7 : Int32)) - (1 : Int32))).bind fun r52 => (J0_277 s r52.2 x2 x3 v.1) else (if (y16 &&& (15 : Int32)) = (12 : Int32) then (F10 v.2 ((y17 &&& (255 : Int32)) % (5 : Int32)) (((y18 &&& (255 : Int32)) &&& (7 : Int32)) - (1 : Int32))).bind fun r67 => (J0_277 s r67.2 x2 x3 v.1) else (if (y16 &&& (15 : Int32)) = (13 : Int32) then (F4 v.2 ((y17 &&& (255 : Int32)) % (11 : Int32)) (((y18 &&& (255 : Int32)) &&& (7 : Int32)) - (1 : Int32))).bind fun r82 => (J0_277 s r82.2 x2 x3 v.1) else (F11 v.2).bind fun r317 => (J0_277 s r317.2 x2 x3 v.1))))))) else (F3 v.2 ((y17 &&& (255 : Int32)) &&& (1 : Int32)) (((y18 &&& (255 : Int32)) &&& (7 : Int32)) - (3 : Int32)) ((y19 &&& (255 : Int32)) - (100 : Int32)) ((y20 &&& (255 : Int32)) % (5 : Int32))).bind fun r333 => (J0_277 s r333.2 x2 x3 v.1)) else some (.inl v.2))
theorem tB0_36 (Ad : QAd n0 ad) (W : QW Z a0) (s : List Int32) (x2 : Int32) (x3 : Int32) (v : Int32 × Ob) {r : ((Ob)) ⊕ (Int32 × Ob)} {u : Option Value} {τ : QHeap} (h : B0_36 s x2 x3 v = some r) (hx0 : ∀ x : Ob, r = .inl x → QTri l Z n0 ad 0 (283, [none, vR 1, vI x2, vI x3, none, none, none, none, none, none, none, none, none, none, none, none, none, none, none, none, none, none, none, none], [], (H0 s x)) u τ) (hc : ∀ x : Int32 × Ob, r = .inr x → QTri l Z n0 ad 0 (36, [vR 0, vR 1, vI x2, vI x3, vI x.1, none, none, none, none, none, none, none, none, none, none, none, none, none, none, none, none, none, none, none], [], (H0 s x.2)) u τ) : QTri l Z n0 ad 0 (36, [vR 0, vR 1, vI x2, vI x3, vI v.1, none, none, none, none, none, none, none, none, none, none, none, none, none, none, none, none, none, none, none], [], (H0 s v.2)) u τ := by
 unfold B0_36 at h
 refine zS Ad W 5 (st' := (42, [vR 0, vR 1, vI x2, vI x3, vI v.1, none, none, none, none, none, none, none, none, none, none, none, none, none, none, none, none, none, none, none], [.int (s.length.toInt32), .int (v.1 + (4:Int32))], (H0 s v.2))) rfl ?_
 rcases qite h with ⟨hc15, h⟩ | ⟨hc15, h⟩
 ·refine zF Ad W (t := 283) (f := 45) rfl (XT.ii_ge_f hc15) ?_
  refine zS Ad W 2 (st' := (48, [vR 0, vR 1, vI x2, vI x3, vI v.1, none, none, none, none, none, none, none, none, none, none, none, none, none, none, none, none, none, none, none], [.int v.1, .ref 0], (H0 s v.2))) rfl ?_
  obtain ⟨y16, hy16, h⟩ := bind_eq_some_iff.mp h
  refine zB Ad W (f := fun y16 => (49, [vR 0, vR 1, vI x2, vI x3, vI v.1, none, none, none, none, none, none, none, none, none, none, none, none, none, none, none, none, none, none, none], [.int y16], (H0 s v.2))) rfl hy16 ?_
  refine zS Ad W 7 (st' := (59, [vR 0, vR 1, vI x2, vI x3, vI v.1, vI (y16 &&& (15:Int32)), none, none, none, none, none, none, none, none, none, none, none, none, none, none, none, none, none, none], [.int (v.1 + (1:Int32)), .ref 0], (H0 s v.2))) rfl ?_
  obtain ⟨y17, hy17, h⟩ := bind_eq_some_iff.mp h
  refine zB Ad W (f := fun y17 => (60, [vR 0, vR 1, vI x2, vI x3, vI v.1, vI (y16 &&& (15:Int32)), none, none, none, none, none, none, none, none, none, none, none, none, none, none, none, none, none, none], [.int y17], (H0 s v.2))) rfl hy17 ?_
  refine zS Ad W 7 (st' := (71, [vR 0, vR 1, vI x2, vI x3, vI v.1, vI (y16 &&& (15:Int32)), vI (y17 &&& (255:Int32)), none, none, none, none, none, none, none, none, none, none, none, none, none, none, none, none, none], [.int (v.1 + (2:Int32)), .ref 0], (H0 s v.2))) rfl ?_
  obtain ⟨y18, hy18, h⟩ := bind_eq_some_iff.mp h
  refine zB Ad W (f := fun y18 => (72, [vR 0, vR 1, vI x2, vI x3, vI v.1, vI (y16 &&& (15:Int32)), vI (y17 &&& (255:Int32)), none, none, none, none, none, none, none, none, none, none, none, none, none, none, none, none, none], [.int y18], (H0 s v.2))) rfl hy18 ?_
  refine zS Ad W 7 (st' := (83, [vR 0, vR 1, vI x2, vI x3, vI v.1, vI (y16 &&& (15:Int32)), vI (y17 &&& (255:Int32)), vI (y18 &&& (255:Int32)), none, none, none, none, none, none, none, none, none, none, none, none, none, none, none, none], [.int (v.1 + (3:Int32)), .ref 0], (H0 s v.2))) rfl ?_
  obtain ⟨y19, hy19, h⟩ := bind_eq_some_iff.mp h
  refine zB Ad W (f := fun y19 => (84, [vR 0, vR 1, vI x2, vI x3, vI v.1, vI (y16 &&& (15:Int32)), vI (y17 &&& (255:Int32)), vI (y18 &&& (255:Int32)), none, none, none, none, none, none, none, none, none, none, none, none, none, none, none, none], [.int y19], (H0 s v.2))) rfl hy19 ?_
  refine zS Ad W 7 (st' := (95, [vR 0, vR 1, vI x2, vI x3, vI v.1, vI (y16 &&& (15:Int32)), vI (y17 &&& (255:Int32)), vI (y18 &&& (255:Int32)), vI (y19 &&& (255:Int32)), none, none, none, none, none, none, none, none, none, none, none, none, none, none, none], [.int (v.1 + (4:Int32)), .ref 0], (H0 s v.2))) rfl ?_
  obtain ⟨y20, hy20, h⟩ := bind_eq_some_iff.mp h
  refine zB Ad W (f := fun y20 => (96, [vR 0, vR 1, vI x2, vI x3, vI v.1, vI (y16 &&& (15:Int32)), vI (y17 &&& (255:Int32)), vI (y18 &&& (255:Int32)), vI (y19 &&& (255:Int32)), none, none, none, none, none, none, none, none, none, none, none, none, none, none, none], [.int y20], (H0 s v.2))) rfl hy20 ?_
  refine zS Ad W 5 (st' := (106, [vR 0, vR 1, vI x2, vI x3, vI v.1, vI (y16 &&& (15:Int32)), vI (y17 &&& (255:Int32)), vI (y18 &&& (255:Int32)), vI (y19 &&& (255:Int32)), vI (y20 &&& (255:Int32)), none, none, none, none, none, none, none, none, none, none, none, none, none, none], [.int (7:Int32), .int (y16 &&& (15:Int32))], (H0 s v.2))) rfl ?_
  rcases qite h with ⟨hc21, h⟩ | ⟨hc21, h⟩
  ·refine zT Ad W (t := 137) (f := 109) rfl (XT.ii_gt_t hc21) ?_
   refine zS Ad W 2 (st' := (141, [vR 0, vR 1, vI x2, vI x3, vI v.1, vI (y16 &&& (15:Int32)), vI (y17 &&& (255:Int32)), vI (y18 &&& (255:Int32)), vI (y19 &&& (255:Int32)), vI (y20 &&& (255:Int32)), none, none, none, none, none, none, none, none, none, none, none, none, none, none], [.int (8:Int32), .int (y16 &&& (15:Int32))], (H0 s v.2))) rfl ?_
   rcases qite h with ⟨hc22, h⟩ | ⟨hc22, h⟩
   ·refine zF Ad W (t := 151) (f := 144) rfl (XT.ii_ne_f hc22) ?_
    refine zS Ad W 1 (st' := (145, [vR 0, vR 1, vI x2, vI x3, vI v.1, vI (y16 &&& (15:Int32)), vI (y17 &&& (255:Int32)), vI (y18 &&& (255:Int32)), vI (y19 &&& (255:Int32)), vI (y20 &&& (255:Int32)), none, none, none, none, none, none, none, none, none, none, none, none, none, none], [.ref 1], (H0 s v.2))) rfl ?_
    obtain ⟨r24, hr24, h⟩ := bind_eq_some_iff.mp h
    refine QTri.callV W (a := 1) (as := []) (rest := []) (w := none) (σ₁ := (H0 s r24)) rfl rfl rfl rfl rfl rfl rfl rfl (tF30 Ad W s v.2 hr24) ?_
    refine zS Ad W 1 (st' := (277, [vR 0, vR 1, vI x2, vI x3, vI v.1, vI (y16 &&& (15:Int32)), vI (y17 &&& (255:Int32)), vI (y18 &&& (255:Int32)), vI (y19 &&& (255:Int32)), vI (y20 &&& (255:Int32)), none, none, none, none, none, none, none, none, none, none, none, none, none, none], [], (H0 s r24))) rfl ?_
    exact zM [tt,tt,tt,tt,tt,ff,ff,ff,ff,ff,ff,ff,ff,ff,ff,ff,ff,ff,ff,ff,ff,ff,ff,ff] (tJ0_277 Ad W s r24 x2 x3 v.1 h hx0 hc)
   ·refine zT Ad W (t := 151) (f := 144) rfl (XT.ii_ne_t hc22) ?_
    refine zS Ad W 2 (st' := (155, [vR 0, vR 1, vI x2, vI x3, vI v.1, vI (y16 &&& (15:Int32)), vI (y17 &&& (255:Int32)), vI (y18 &&& (255:Int32)), vI (y19 &&& (255:Int32)), vI (y20 &&& (255:Int32)), none, none, none, none, none, none, none, none, none, none, none, none, none, none], [.int (9:Int32), .int (y16 &&& (15:Int32))], (H0 s v.2))) rfl ?_
    rcases qite h with ⟨hc25, h⟩ | ⟨hc25, h⟩
    ·refine zF Ad W (t := 174) (f := 158) rfl (XT.ii_ne_f hc25) ?_
     refine zS Ad W 7 (st' := (167, [vR 0, vR 1, vI x2, vI x3, vI v.1, vI (y16 &&& (15:Int32)), vI (y17 &&& (255:Int32)), vI (y18 &&& (255:Int32)), vI (y19 &&& (255:Int32)), vI (y20 &&& (255:Int32)), none, none, none, none, none, none, none, none, none, none, none, none, none, none], [.int ((y18 &&& (255:Int32)) &&& (1:Int32)), .int ((y17 &&& (255:Int32)) &&& (3:Int32)), .ref 1], (H0 s v.2))) rfl ?_
     obtain ⟨r31, hr31, h⟩ := bind_eq_some_iff.mp h
     refine QTri.callV W (a := 1) (as := [.int ((y17 &&& (255:Int32)) &&& (3:Int32)), .int ((y18 &&& (255:Int32)) &&& (1:Int32))]) (rest := []) (w := (some (.int r31.1))) (σ₁ := (H0 s r31.2)) rfl rfl rfl rfl rfl rfl rfl rfl (tF29 Ad W s v.2 ((y17 &&& (255:Int32)) &&& (3:Int32)) ((y18 &&& (255:Int32)) &&& (1:Int32)) hr31) ?_
     refine zS Ad W 2 (st' := (277, [vR 0, vR 1, vI x2, vI x3, vI v.1, vI (y16 &&& (15:Int32)), vI (y17 &&& (255:Int32)), vI (y18 &&& (255:Int32)), vI (y19 &&& (255:Int32)), vI (y20 &&& (255:Int32)), none, none, none, none, none, none, none, none, none, none, none, none, none, none], [], (H0 s r31.2))) rfl ?_
     exact zM [tt,tt,tt,tt,tt,ff,ff,ff,ff,ff,ff,ff,ff,ff,ff,ff,ff,ff,ff,ff,ff,ff,ff,ff] (tJ0_277 Ad W s r31.2 x2 x3 v.1 h hx0 hc)
    ·refine zT Ad W (t := 174) (f := 158) rfl (XT.ii_ne_t hc25) ?_
     refine zS Ad W 2 (st' := (178, [vR 0, vR 1, vI x2, vI x3, vI v.1, vI (y16 &&& (15:Int32)), vI (y17 &&& (255:Int32)), vI (y18 &&& (255:Int32)), vI (y19 &&& (255:Int32)), vI (y20 &&& (255:Int32)), none, none, none, none, none, none, none, none, none, none, none, none, none, none], [.int (10:Int32), .int (y16 &&& (15:Int32))], (H0 s v.2))) rfl ?_
     rcases qite h with ⟨hc32, h⟩ | ⟨hc32, h⟩
     ·refine zF Ad W (t := 193) (f := 181) rfl (XT.ii_ne_f hc32) ?_
      refine zS Ad W 4 (st' := (186, [vR 0, vR 1, vI x2, vI x3, vI v.1, vI (y16 &&& (15:Int32)), vI (y17 &&& (255:Int32)), vI (y18 &&& (255:Int32)), vI (y19 &&& (255:Int32)), vI (y20 &&& (255:Int32)), none, none, none, none, none, none, none, none, none, none, none, none, none, none], [.int ((y17 &&& (255:Int32)) % (3:Int32)), .ref 1], (H0 s v.2))) rfl ?_
      obtain ⟨r37, hr37, h⟩ := bind_eq_some_iff.mp h
      refine QTri.callV W (a := 1) (as := [.int ((y17 &&& (255:Int32)) % (3:Int32))]) (rest := []) (w := (some (.int r37.1))) (σ₁ := (H0 s r37.2)) rfl rfl rfl rfl rfl rfl rfl rfl (tF28 Ad W s v.2 ((y17 &&& (255:Int32)) % (3:Int32)) hr37) ?_
      refine zS Ad W 2 (st' := (277, [vR 0, vR 1, vI x2, vI x3, vI v.1, vI (y16 &&& (15:Int32)), vI (y17 &&& (255:Int32)), vI (y18 &&& (255:Int32)), vI (y19 &&& (255:Int32)), vI (y20 &&& (255:Int32)), none, none, none, none, none, none, none, none, none, none, none, none, none, none], [], (H0 s r37.2))) rfl ?_
      exact zM [tt,tt,tt,tt,tt,ff,ff,ff,ff,ff,ff,ff,ff,ff,ff,ff,ff,ff,ff,ff,ff,ff,ff,ff] (tJ0_277 Ad W s r37.2 x2 x3 v.1 h hx0 hc)
     ·refine zT Ad W (t := 193) (f := 181) rfl (XT.ii_ne_t hc32) ?_
      refine zS Ad W 2 (st' := (197, [vR 0, vR 1, vI x2, vI x3, vI v.1, vI (y16 &&& (15:Int32)), vI (y17 &&& (255:Int32)), vI (y18 &&& (255:Int32)), vI (y19 &&& (255:Int32)), vI (y20 &&& (255:Int32)), none, none, none, none, none, none, none, none, none, none, none, none, none, none], [.int (11:Int32), .int (y16 &&& (15:Int32))], (H0 s v.2))) rfl ?_
      rcases qite h with ⟨hc38, h⟩ | ⟨hc38, h⟩
      ·refine zF Ad W (t := 219) (f := 200) rfl (XT.ii_ne_f hc38) ?_
       refine zS Ad W 9 (st' := (212, [vR 0, vR 1, vI x2, vI x3, vI v.1, vI (y16 &&& (15:Int32)), vI (y17 &&& (255:Int32)), vI (y18 &&& (255:Int32)), vI (y19 &&& (255:Int32)), vI (y20 &&& (255:Int32)), none, none, none, none, none, none, none, none, none, none, none, none, none, none], [.int (((y18 &&& (255:Int32)) &&& (7:Int32)) - (1:Int32)), .int ((y17 &&& (255:Int32)) % (5:Int32)), .ref 1], (H0 s v.2))) rfl ?_
       obtain ⟨r52, hr52, h⟩ := bind_eq_some_iff.mp h
       refine QTri.callV W (a := 1) (as := [.int ((y17 &&& (255:Int32)) % (5:Int32)), .int (((y18 &&& (255:Int32)) &&& (7:Int32)) - (1:Int32))]) (rest := []) (w := (some (.int r52.1))) (σ₁ := (H0 s r52.2)) rfl rfl rfl rfl rfl rfl rfl rfl (tF9 Ad W s v.2 ((y17 &&& (255:Int32)) % (5:Int32)) (((y18 &&& (255:Int32)) &&& (7:Int32)) - (1:Int32)) hr52) ?_
       refine zS Ad W 2 (st' := (277, [vR 0, vR 1, vI x2, vI x3, vI v.1, vI (y16 &&& (15:Int32)), vI (y17 &&& (255:Int32)), vI (y18 &&& (255:Int32)), vI (y19 &&& (255:Int32)), vI (y20 &&& (255:Int32)), none, none, none, none, none, none, none, none, none, none, none, none, none, none], [], (H0 s r52.2))) rfl ?_
       exact zM [tt,tt,tt,tt,tt,ff,ff,ff,ff,ff,ff,ff,ff,ff,ff,ff,ff,ff,ff,ff,ff,ff,ff,ff] (tJ0_277 Ad W s r52.2 x2 x3 v.1 h hx0 hc)
      ·refine zT Ad W (t := 219) (f := 200) rfl (XT.ii_ne_t hc38) ?_
       refine zS Ad W 2 (st' := (223, [vR 0, vR 1, vI x2, vI x3, vI v.1, vI (y16 &&& (15:Int32)), vI (y17 &&& (255:Int32)), vI (y18 &&& (255:Int32)), vI (y19 &&& (255:Int32)), vI (y20 &&& (255:Int32)), none, none, none, none, none, none, none, none, none, none, none, none, none, none], [.int (12:Int32), .int (y16 &&& (15:Int32))], (H0 s v.2))) rfl ?_
       rcases qite h with ⟨hc53, h⟩ | ⟨hc53, h⟩
       ·refine zF Ad W (t := 245) (f := 226) rfl (XT.ii_ne_f hc53) ?_
        refine zS Ad W 9 (st' := (238, [vR 0, vR 1, vI x2, vI x3, vI v.1, vI (y16 &&& (15:Int32)), vI (y17 &&& (255:Int32)), vI (y18 &&& (255:Int32)), vI (y19 &&& (255:Int32)), vI (y20 &&& (255:Int32)), none, none, none, none, none, none, none, none, none, none, none, none, none, none], [.int (((y18 &&& (255:Int32)) &&& (7:Int32)) - (1:Int32)), .int ((y17 &&& (255:Int32)) % (5:Int32)), .ref 1], (H0 s v.2))) rfl ?_
        obtain ⟨r67, hr67, h⟩ := bind_eq_some_iff.mp h
        refine QTri.callV W (a := 1) (as := [.int ((y17 &&& (255:Int32)) % (5:Int32)), .int (((y18 &&& (255:Int32)) &&& (7:Int32)) - (1:Int32))]) (rest := []) (w := (some (.int r67.1))) (σ₁ := (H0 s r67.2)) rfl rfl rfl rfl rfl rfl rfl rfl (tF10 Ad W s v.2 ((y17 &&& (255:Int32)) % (5:Int32)) (((y18 &&& (255:Int32)) &&& (7:Int32)) - (1:Int32)) hr67) ?_
        refine zS Ad W 2 (st' := (277, [vR 0, vR 1, vI x2, vI x3, vI v.1, vI (y16 &&& (15:Int32)), vI (y17 &&& (255:Int32)), vI (y18 &&& (255:Int32)), vI (y19 &&& (255:Int32)), vI (y20 &&& (255:Int32)), none, none, none, none, none, none, none, none, none, none, none, none, none, none], [], (H0 s r67.2))) rfl ?_
        exact zM [tt,tt,tt,tt,tt,ff,ff,ff,ff,ff,ff,ff,ff,ff,ff,ff,ff,ff,ff,ff,ff,ff,ff,ff] (tJ0_277 Ad W s r67.2 x2 x3 v.1 h hx0 hc)
       ·refine zT Ad W (t := 245) (f := 226) rfl (XT.ii_ne_t hc53) ?_
        refine zS Ad W 2 (st' := (249, [vR 0, vR 1, vI x2, vI x3, vI v.1, vI (y16 &&& (15:Int32)), vI (y17 &&& (255:Int32)), vI (y18 &&& (255:Int32)), vI (y19 &&& (255:Int32)), vI (y20 &&& (255:Int32)), none, none, none, none, none, none, none, none, none, none, none, none, none, none], [.int (13:Int32), .int (y16 &&& (15:Int32))], (H0 s v.2))) rfl ?_
        rcases qite h with ⟨hc68, h⟩ | ⟨hc68, h⟩
        ·refine zF Ad W (t := 272) (f := 252) rfl (XT.ii_ne_f hc68) ?_
         refine zS Ad W 9 (st' := (265, [vR 0, vR 1, vI x2, vI x3, vI v.1, vI (y16 &&& (15:Int32)), vI (y17 &&& (255:Int32)), vI (y18 &&& (255:Int32)), vI (y19 &&& (255:Int32)), vI (y20 &&& (255:Int32)), none, none, none, none, none, none, none, none, none, none, none, none, none, none], [.int (((y18 &&& (255:Int32)) &&& (7:Int32)) - (1:Int32)), .int ((y17 &&& (255:Int32)) % (11:Int32)), .ref 1], (H0 s v.2))) rfl ?_
         obtain ⟨r82, hr82, h⟩ := bind_eq_some_iff.mp h
         refine QTri.callV W (a := 1) (as := [.int ((y17 &&& (255:Int32)) % (11:Int32)), .int (((y18 &&& (255:Int32)) &&& (7:Int32)) - (1:Int32))]) (rest := []) (w := (some (.int r82.1))) (σ₁ := (H0 s r82.2)) rfl rfl rfl rfl rfl rfl rfl rfl (tF4 Ad W s v.2 ((y17 &&& (255:Int32)) % (11:Int32)) (((y18 &&& (255:Int32)) &&& (7:Int32)) - (1:Int32)) hr82) ?_
         refine zS Ad W 2 (st' := (277, [vR 0, vR 1, vI x2, vI x3, vI v.1, vI (y16 &&& (15:Int32)), vI (y17 &&& (255:Int32)), vI (y18 &&& (255:Int32)), vI (y19 &&& (255:Int32)), vI (y20 &&& (255:Int32)), none, none, none, none, none, none, none, none, none, none, none, none, none, none], [], (H0 s r82.2))) rfl ?_
         exact zM [tt,tt,tt,tt,tt,ff,ff,ff,ff,ff,ff,ff,ff,ff,ff,ff,ff,ff,ff,ff,ff,ff,ff,ff] (tJ0_277 Ad W s r82.2 x2 x3 v.1 h hx0 hc)
        ·refine zT Ad W (t := 272) (f := 252) rfl (XT.ii_ne_t hc68) ?_
         refine zS Ad W 1 (st' := (273, [vR 0, vR 1, vI x2, vI x3, vI v.1, vI (y16 &&& (15:Int32)), vI (y17 &&& (255:Int32)), vI (y18 &&& (255:Int32)), vI (y19 &&& (255:Int32)), vI (y20 &&& (255:Int32)), none, none, none, none, none, none, none, none, none, none, none, none, none, none], [.ref 1], (H0 s v.2))) rfl ?_
         obtain ⟨r317, hr317, h⟩ := bind_eq_some_iff.mp h
         refine QTri.callV W (a := 1) (as := []) (rest := []) (w := (some (.int r317.1))) (σ₁ := (H0 s r317.2)) rfl rfl rfl rfl rfl rfl rfl rfl (tF11 Ad W s v.2 hr317) ?_
         refine zS Ad W 1 (st' := (277, [vR 0, vR 1, vI x2, vI x3, vI v.1, vI (y16 &&& (15:Int32)), vI (y17 &&& (255:Int32)), vI (y18 &&& (255:Int32)), vI (y19 &&& (255:Int32)), vI (y20 &&& (255:Int32)), none, none, none, none, none, none, none, none, none, none, none, none, none, none], [], (H0 s r317.2))) rfl ?_
         exact zM [tt,tt,tt,tt,tt,ff,ff,ff,ff,ff,ff,ff,ff,ff,ff,ff,ff,ff,ff,ff,ff,ff,ff,ff] (tJ0_277 Ad W s r317.2 x2 x3 v.1 h hx0 hc)
  ·refine zF Ad W (t := 137) (f := 109) rfl (XT.ii_gt_f hc21) ?_
   refine zS Ad W 12 (st' := (126, [vR 0, vR 1, vI x2, vI x3, vI v.1, vI (y16 &&& (15:Int32)), vI (y17 &&& (255:Int32)), vI (y18 &&& (255:Int32)), vI (y19 &&& (255:Int32)), vI (y20 &&& (255:Int32)), none, none, none, none, none, none, none, none, none, none, none, none, none, none], [.int ((y19 &&& (255:Int32)) - (100:Int32)), .int (((y18 &&& (255:Int32)) &&& (7:Int32)) - (3:Int32)), .int ((y17 &&& (255:Int32)) &&& (1:Int32)), .ref 1], (H0 s v.2))) rfl ?_
   refine zS Ad W 3 (st' := (130, [vR 0, vR 1, vI x2, vI x3, vI v.1, vI (y16 &&& (15:Int32)), vI (y17 &&& (255:Int32)), vI (y18 &&& (255:Int32)), vI (y19 &&& (255:Int32)), vI (y20 &&& (255:Int32)), none, none, none, none, none, none, none, none, none, none, none, none, none, none], [.int ((y20 &&& (255:Int32)) % (5:Int32)), .int ((y19 &&& (255:Int32)) - (100:Int32)), .int (((y18 &&& (255:Int32)) &&& (7:Int32)) - (3:Int32)), .int ((y17 &&& (255:Int32)) &&& (1:Int32)), .ref 1], (H0 s v.2))) rfl ?_
   obtain ⟨r333, hr333, h⟩ := bind_eq_some_iff.mp h
   refine QTri.callV W (a := 1) (as := [.int ((y17 &&& (255:Int32)) &&& (1:Int32)), .int (((y18 &&& (255:Int32)) &&& (7:Int32)) - (3:Int32)), .int ((y19 &&& (255:Int32)) - (100:Int32)), .int ((y20 &&& (255:Int32)) % (5:Int32))]) (rest := []) (w := (some (.int r333.1))) (σ₁ := (H0 s r333.2)) rfl rfl rfl rfl rfl rfl rfl rfl (tF3 Ad W s v.2 ((y17 &&& (255:Int32)) &&& (1:Int32)) (((y18 &&& (255:Int32)) &&& (7:Int32)) - (3:Int32)) ((y19 &&& (255:Int32)) - (100:Int32)) ((y20 &&& (255:Int32)) % (5:Int32)) hr333) ?_
   refine zS Ad W 2 (st' := (277, [vR 0, vR 1, vI x2, vI x3, vI v.1, vI (y16 &&& (15:Int32)), vI (y17 &&& (255:Int32)), vI (y18 &&& (255:Int32)), vI (y19 &&& (255:Int32)), vI (y20 &&& (255:Int32)), none, none, none, none, none, none, none, none, none, none, none, none, none, none], [], (H0 s r333.2))) rfl ?_
   exact zM [tt,tt,tt,tt,tt,ff,ff,ff,ff,ff,ff,ff,ff,ff,ff,ff,ff,ff,ff,ff,ff,ff,ff,ff] (tJ0_277 Ad W s r333.2 x2 x3 v.1 h hx0 hc)
 ·refine zT Ad W (t := 283) (f := 45) rfl (XT.ii_ge_t hc15) ?_
  obtain rfl := Option.some.inj h
  exact zM [ff,tt,tt,tt,ff,ff,ff,ff,ff,ff,ff,ff,ff,ff,ff,ff,ff,ff,ff,ff,ff,ff,ff,ff] (hx0 v.2 rfl)
/-- getSpec(I)I -/
def F5 (o : Ob) (x1 : Int32) : Option (Int32) :=
 (if x1 = (0:Int32) then some (f_direction o) else (if x1 = (1:Int32) then some (f_nulls o) else (if x1 = (2:Int32) then some (f_mode o) else (if x1 = (3:Int32) then some (f_startKind o) else (if x1 = (4:Int32) then some (f_startOff o) else (if x1 = (5:Int32) then some (f_endKind o) else (if x1 = (6:Int32) then some (f_endOff o) else (if x1 = (7:Int32) then some (f_fn o) else (if x1 = (8:Int32) then some (f_fnArg o) else (if x1 = (9:Int32) then some (f_cap o) else some (-1:Int32)))))))))))
theorem tF5 (Ad : QAd n0 ad) (W : QW Z a0) (s : List Int32) (o : Ob) (x1 : Int32) {r : Int32} (h : F5 o x1 = some r) : QTri l Z n0 ad 5 (0, qentry [.ref 1, .int x1] (pMaxL 5), [], (H0 s o)) (some (Value.int r)) (H0 s o) := by
 unfold F5 at h
 refine zS Ad W 1 (st' := (1, [vR 1, vI x1], [.int x1], (H0 s o))) rfl ?_
 rcases qite h with ⟨hc338, h⟩ | ⟨hc338, h⟩
 ·refine zF Ad W (t := 9) (f := 4) rfl (XT.i0_ne_f hc338) ?_
  refine zS Ad W 2 (st' := (8, [vR 1, vI x1], [.int (f_direction o)], (H0 s o))) rfl ?_
  obtain rfl := Option.some.inj h
  exact QTri.retI rfl rfl
 ·refine zT Ad W (t := 9) (f := 4) rfl (XT.i0_ne_t hc338) ?_
  refine zS Ad W 2 (st' := (11, [vR 1, vI x1], [.int (1:Int32), .int x1], (H0 s o))) rfl ?_
  rcases qite h with ⟨hc339, h⟩ | ⟨hc339, h⟩
  ·refine zF Ad W (t := 19) (f := 14) rfl (XT.ii_ne_f hc339) ?_
   refine zS Ad W 2 (st' := (18, [vR 1, vI x1], [.int (f_nulls o)], (H0 s o))) rfl ?_
   obtain rfl := Option.some.inj h
   exact QTri.retI rfl rfl
  ·refine zT Ad W (t := 19) (f := 14) rfl (XT.ii_ne_t hc339) ?_
   refine zS Ad W 2 (st' := (21, [vR 1, vI x1], [.int (2:Int32), .int x1], (H0 s o))) rfl ?_
   rcases qite h with ⟨hc340, h⟩ | ⟨hc340, h⟩
   ·refine zF Ad W (t := 29) (f := 24) rfl (XT.ii_ne_f hc340) ?_
    refine zS Ad W 2 (st' := (28, [vR 1, vI x1], [.int (f_mode o)], (H0 s o))) rfl ?_
    obtain rfl := Option.some.inj h
    exact QTri.retI rfl rfl
   ·refine zT Ad W (t := 29) (f := 24) rfl (XT.ii_ne_t hc340) ?_
    refine zS Ad W 2 (st' := (31, [vR 1, vI x1], [.int (3:Int32), .int x1], (H0 s o))) rfl ?_
    rcases qite h with ⟨hc341, h⟩ | ⟨hc341, h⟩
    ·refine zF Ad W (t := 39) (f := 34) rfl (XT.ii_ne_f hc341) ?_
     refine zS Ad W 2 (st' := (38, [vR 1, vI x1], [.int (f_startKind o)], (H0 s o))) rfl ?_
     obtain rfl := Option.some.inj h
     exact QTri.retI rfl rfl
    ·refine zT Ad W (t := 39) (f := 34) rfl (XT.ii_ne_t hc341) ?_
     refine zS Ad W 2 (st' := (41, [vR 1, vI x1], [.int (4:Int32), .int x1], (H0 s o))) rfl ?_
     rcases qite h with ⟨hc342, h⟩ | ⟨hc342, h⟩
     ·refine zF Ad W (t := 49) (f := 44) rfl (XT.ii_ne_f hc342) ?_
      refine zS Ad W 2 (st' := (48, [vR 1, vI x1], [.int (f_startOff o)], (H0 s o))) rfl ?_
      obtain rfl := Option.some.inj h
      exact QTri.retI rfl rfl
     ·refine zT Ad W (t := 49) (f := 44) rfl (XT.ii_ne_t hc342) ?_
      refine zS Ad W 2 (st' := (51, [vR 1, vI x1], [.int (5:Int32), .int x1], (H0 s o))) rfl ?_
      rcases qite h with ⟨hc343, h⟩ | ⟨hc343, h⟩
      ·refine zF Ad W (t := 59) (f := 54) rfl (XT.ii_ne_f hc343) ?_
       refine zS Ad W 2 (st' := (58, [vR 1, vI x1], [.int (f_endKind o)], (H0 s o))) rfl ?_
       obtain rfl := Option.some.inj h
       exact QTri.retI rfl rfl
      ·refine zT Ad W (t := 59) (f := 54) rfl (XT.ii_ne_t hc343) ?_
       refine zS Ad W 2 (st' := (62, [vR 1, vI x1], [.int (6:Int32), .int x1], (H0 s o))) rfl ?_
       rcases qite h with ⟨hc344, h⟩ | ⟨hc344, h⟩
       ·refine zF Ad W (t := 70) (f := 65) rfl (XT.ii_ne_f hc344) ?_
        refine zS Ad W 2 (st' := (69, [vR 1, vI x1], [.int (f_endOff o)], (H0 s o))) rfl ?_
        obtain rfl := Option.some.inj h
        exact QTri.retI rfl rfl
       ·refine zT Ad W (t := 70) (f := 65) rfl (XT.ii_ne_t hc344) ?_
        refine zS Ad W 2 (st' := (73, [vR 1, vI x1], [.int (7:Int32), .int x1], (H0 s o))) rfl ?_
        rcases qite h with ⟨hc345, h⟩ | ⟨hc345, h⟩
        ·refine zF Ad W (t := 81) (f := 76) rfl (XT.ii_ne_f hc345) ?_
         refine zS Ad W 2 (st' := (80, [vR 1, vI x1], [.int (f_fn o)], (H0 s o))) rfl ?_
         obtain rfl := Option.some.inj h
         exact QTri.retI rfl rfl
        ·refine zT Ad W (t := 81) (f := 76) rfl (XT.ii_ne_t hc345) ?_
         refine zS Ad W 2 (st' := (84, [vR 1, vI x1], [.int (8:Int32), .int x1], (H0 s o))) rfl ?_
         rcases qite h with ⟨hc346, h⟩ | ⟨hc346, h⟩
         ·refine zF Ad W (t := 92) (f := 87) rfl (XT.ii_ne_f hc346) ?_
          refine zS Ad W 2 (st' := (91, [vR 1, vI x1], [.int (f_fnArg o)], (H0 s o))) rfl ?_
          obtain rfl := Option.some.inj h
          exact QTri.retI rfl rfl
         ·refine zT Ad W (t := 92) (f := 87) rfl (XT.ii_ne_t hc346) ?_
          refine zS Ad W 2 (st' := (95, [vR 1, vI x1], [.int (9:Int32), .int x1], (H0 s o))) rfl ?_
          rcases qite h with ⟨hc347, h⟩ | ⟨hc347, h⟩
          ·refine zF Ad W (t := 103) (f := 98) rfl (XT.ii_ne_f hc347) ?_
           refine zS Ad W 2 (st' := (102, [vR 1, vI x1], [.int (f_cap o)], (H0 s o))) rfl ?_
           obtain rfl := Option.some.inj h
           exact QTri.retI rfl rfl
          ·refine zT Ad W (t := 103) (f := 98) rfl (XT.ii_ne_t hc347) ?_
           refine zS Ad W 1 (st' := (104, [vR 1, vI x1], [.int (-1:Int32)], (H0 s o))) rfl ?_
           obtain rfl := Option.some.inj h
           exact QTri.retI rfl rfl
/-- rowCount()I -/
def F6 (o : Ob) : Option (Int32) :=
 some (f_rows o)
theorem tF6 (Ad : QAd n0 ad) (W : QW Z a0) (s : List Int32) (o : Ob) {r : Int32} (h : F6 o = some r) : QTri l Z n0 ad 6 (0, qentry [.ref 1] (pMaxL 6), [], (H0 s o)) (some (Value.int r)) (H0 s o) := by
 unfold F6 at h
 refine zS Ad W 2 (st' := (4, [vR 1], [.int (f_rows o)], (H0 s o))) rfl ?_
 obtain rfl := Option.some.inj h
 exact QTri.retI rfl rfl
/-- getRowField(II)I -/
def F7 (o : Ob) (x1 : Int32) (x2 : Int32) : Option (Int32) :=
 (if x1 < (0:Int32) then some (0:Int32) else (if x1 < (f_rows o) then (if x2 = (0:Int32) then (aget (f_part o) x1).bind fun y359 => some y359 else (if x2 = (1:Int32) then (aget (f_keys o) x1).bind fun y361 => some y361 else (if x2 = (2:Int32) then (aget (f_vals o) x1).bind fun y363 => some y363 else (if x2 = (3:Int32) then (aget (f_flg o) x1).bind fun y365 => some y365 else some (0:Int32))))) else some (0:Int32)))
theorem tF7 (Ad : QAd n0 ad) (W : QW Z a0) (s : List Int32) (o : Ob) (x1 : Int32) (x2 : Int32) {r : Int32} (h : F7 o x1 x2 = some r) : QTri l Z n0 ad 7 (0, qentry [.ref 1, .int x1, .int x2] (pMaxL 7), [], (H0 s o)) (some (Value.int r)) (H0 s o) := by
 unfold F7 at h
 refine zS Ad W 1 (st' := (1, [vR 1, vI x1, vI x2], [.int x1], (H0 s o))) rfl ?_
 rcases qite h with ⟨hc356, h⟩ | ⟨hc356, h⟩
 ·refine zT Ad W (t := 12) (f := 4) rfl (XT.i0_lt_t hc356) ?_
  refine zS Ad W 1 (st' := (13, [vR 1, vI x1, vI x2], [.int (0:Int32)], (H0 s o))) rfl ?_
  obtain rfl := Option.some.inj h
  exact QTri.retI rfl rfl
 ·refine zF Ad W (t := 12) (f := 4) rfl (XT.i0_lt_f hc356) ?_
  refine zS Ad W 3 (st' := (9, [vR 1, vI x1, vI x2], [.int (f_rows o), .int x1], (H0 s o))) rfl ?_
  rcases qite h with ⟨hc357, h⟩ | ⟨hc357, h⟩
  ·refine zT Ad W (t := 14) (f := 12) rfl (XT.ii_lt_t hc357) ?_
   refine zS Ad W 1 (st' := (15, [vR 1, vI x1, vI x2], [.int x2], (H0 s o))) rfl ?_
   rcases qite h with ⟨hc358, h⟩ | ⟨hc358, h⟩
   ·refine zF Ad W (t := 25) (f := 18) rfl (XT.i0_ne_f hc358) ?_
    refine zS Ad W 3 (st' := (23, [vR 1, vI x1, vI x2], [.int x1, .ref 2], (H0 s o))) rfl ?_
    obtain ⟨y359, hy359, h⟩ := bind_eq_some_iff.mp h
    refine zB Ad W (f := fun y359 => (24, [vR 1, vI x1, vI x2], [.int y359], (H0 s o))) rfl hy359 ?_
    obtain rfl := Option.some.inj h
    exact QTri.retI rfl rfl
   ·refine zT Ad W (t := 25) (f := 18) rfl (XT.i0_ne_t hc358) ?_
    refine zS Ad W 2 (st' := (27, [vR 1, vI x1, vI x2], [.int (1:Int32), .int x2], (H0 s o))) rfl ?_
    rcases qite h with ⟨hc360, h⟩ | ⟨hc360, h⟩
    ·refine zF Ad W (t := 37) (f := 30) rfl (XT.ii_ne_f hc360) ?_
     refine zS Ad W 3 (st' := (35, [vR 1, vI x1, vI x2], [.int x1, .ref 3], (H0 s o))) rfl ?_
     obtain ⟨y361, hy361, h⟩ := bind_eq_some_iff.mp h
     refine zB Ad W (f := fun y361 => (36, [vR 1, vI x1, vI x2], [.int y361], (H0 s o))) rfl hy361 ?_
     obtain rfl := Option.some.inj h
     exact QTri.retI rfl rfl
    ·refine zT Ad W (t := 37) (f := 30) rfl (XT.ii_ne_t hc360) ?_
     refine zS Ad W 2 (st' := (39, [vR 1, vI x1, vI x2], [.int (2:Int32), .int x2], (H0 s o))) rfl ?_
     rcases qite h with ⟨hc362, h⟩ | ⟨hc362, h⟩
     ·refine zF Ad W (t := 49) (f := 42) rfl (XT.ii_ne_f hc362) ?_
      refine zS Ad W 3 (st' := (47, [vR 1, vI x1, vI x2], [.int x1, .ref 4], (H0 s o))) rfl ?_
      obtain ⟨y363, hy363, h⟩ := bind_eq_some_iff.mp h
      refine zB Ad W (f := fun y363 => (48, [vR 1, vI x1, vI x2], [.int y363], (H0 s o))) rfl hy363 ?_
      obtain rfl := Option.some.inj h
      exact QTri.retI rfl rfl
     ·refine zT Ad W (t := 49) (f := 42) rfl (XT.ii_ne_t hc362) ?_
      refine zS Ad W 2 (st' := (51, [vR 1, vI x1, vI x2], [.int (3:Int32), .int x2], (H0 s o))) rfl ?_
      rcases qite h with ⟨hc364, h⟩ | ⟨hc364, h⟩
      ·refine zF Ad W (t := 61) (f := 54) rfl (XT.ii_ne_f hc364) ?_
       refine zS Ad W 3 (st' := (59, [vR 1, vI x1, vI x2], [.int x1, .ref 5], (H0 s o))) rfl ?_
       obtain ⟨y365, hy365, h⟩ := bind_eq_some_iff.mp h
       refine zB Ad W (f := fun y365 => (60, [vR 1, vI x1, vI x2], [.int y365], (H0 s o))) rfl hy365 ?_
       obtain rfl := Option.some.inj h
       exact QTri.retI rfl rfl
      ·refine zT Ad W (t := 61) (f := 54) rfl (XT.ii_ne_t hc364) ?_
       refine zS Ad W 1 (st' := (62, [vR 1, vI x1, vI x2], [.int (0:Int32)], (H0 s o))) rfl ?_
       obtain rfl := Option.some.inj h
       exact QTri.retI rfl rfl
  ·refine zF Ad W (t := 14) (f := 12) rfl (XT.ii_lt_f hc357) ?_
   refine zS Ad W 1 (st' := (13, [vR 1, vI x1, vI x2], [.int (0:Int32)], (H0 s o))) rfl ?_
   obtain rfl := Option.some.inj h
   exact QTri.retI rfl rfl
def J0_417 (s : List Int32) (p0 : Ob) (x2 : Int32) (x3 : Int32) (x4 : Int32) (x6 : Int32) (x7 : Int32) (x8 : Int32) (x9 : Int32) (x10 : Int64) (x12 : Int32) : Option (((Int32 × Int64)) ⊕ (Int32 × Int64 × Int32)) :=
  some (.inr (x9, x10, (x12 + (1 : Int32))))
theorem tJ0_417 (Ad : QAd n0 ad) (W : QW Z a0) (s : List Int32) (p0 : Ob) (x2 : Int32) (x3 : Int32) (x4 : Int32) (x6 : Int32) (x7 : Int32) (x8 : Int32) (x9 : Int32) (x10 : Int64) (x12 : Int32) {r : ((Int32 × Int64)) ⊕ (Int32 × Int64 × Int32)} {u : Option Value} {τ : QHeap} (h : J0_417 s p0 x2 x3 x4 x6 x7 x8 x9 x10 x12 = some r) (hx0 : ∀ x : Int32 × Int64, r = .inl x → QTri l Z n0 ad 0 (423, [none, vR 1, vI x2, vI x3, vI x4, none, vI x6, vI x7, none, vI x.1, vL x.2, none, none, none, none, none, none, none, none, none, none, none, none, none], [], (H0 s p0)) u τ) (hc : ∀ x : Int32 × Int64 × Int32, r = .inr x → QTri l Z n0 ad 0 (366, [none, vR 1, vI x2, vI x3, vI x4, none, vI x6, vI x7, vI x8, vI x.1, vL x.2.1, none, vI x.2.2, none, none, none, none, none, none, none, none, none, none, none], [], (H0 s p0)) u τ) : QTri l Z n0 ad 0 (417, [none, vR 1, vI x2, vI x3, vI x4, none, vI x6, vI x7, vI x8, vI x9, vL x10, none, vI x12, none, none, none, none, none, none, none, none, none, none, none], [], (H0 s p0)) u τ := by
 unfold J0_417 at h
 refine zS Ad W 2 (st' := (366, [none, vR 1, vI x2, vI x3, vI x4, none, vI x6, vI x7, vI x8, vI x9, vL x10, none, vI (x12 + (1:Int32)), none, none, none, none, none, none, none, none, none, none, none], [], (H0 s p0))) rfl ?_
 obtain rfl := Option.some.inj h
 exact zM [ff,tt,tt,tt,tt,ff,tt,tt,tt,tt,tt,ff,tt,ff,ff,ff,ff,ff,ff,ff,ff,ff,ff,ff] (hc (x9, x10, (x12 + (1:Int32))) rfl)
def B0_366 (s : List Int32) (p0 : Ob) (x2 : Int32) (x3 : Int32) (x4 : Int32) (x6 : Int32) (x7 : Int32) (x8 : Int32) (v : Int32 × Int64 × Int32) : Option (((Int32 × Int64)) ⊕ (Int32 × Int64 × Int32)) :=
  (if v.2.2 < x6 then (F7 p0 v.2.2 (0 : Int32)).bind fun r368 => (if r368 = x8 then (F7 p0 v.2.2 (3 : Int32)).bind fun r370 => (if (r370 &&& (2 : Int32)) = (0 : Int32) then (F7 p0 v.2.2 (2 : Int32)).bind fun r372 => (J0_417 s p0 x2 x3 x4 x6 x7 x8 (v.1 + (1 : Int32)) (v.2.1 + (r372.toInt64)) v.2.2) else (J0_417 s p0 x2 x3 x4 x6 x7 x8 (v.1 + (1 : Int32)) v.2.1 v.2.2)) else (J0_417 s p0 x2 x3 x4 x6 x7 x8 v.1 v.2.1 v.2.2)) else some (.inl (v.1, v.2.1)))
theorem tB0_366 (Ad : QAd n0 ad) (W : QW Z a0) (s : List Int32) (p0 : Ob) (x2 : Int32) (x3 : Int32) (x4 : Int32) (x6 : Int32) (x7 : Int32) (x8 : Int32) (v : Int32 × Int64 × Int32) {r : ((Int32 × Int64)) ⊕ (Int32 × Int64 × Int32)} {u : Option Value} {τ : QHeap} (h : B0_366 s p0 x2 x3 x4 x6 x7 x8 v = some r) (hx0 : ∀ x : Int32 × Int64, r = .inl x → QTri l Z n0 ad 0 (423, [none, vR 1, vI x2, vI x3, vI x4, none, vI x6, vI x7, none, vI x.1, vL x.2, none, none, none, none, none, none, none, none, none, none, none, none, none], [], (H0 s p0)) u τ) (hc : ∀ x : Int32 × Int64 × Int32, r = .inr x → QTri l Z n0 ad 0 (366, [none, vR 1, vI x2, vI x3, vI x4, none, vI x6, vI x7, vI x8, vI x.1, vL x.2.1, none, vI x.2.2, none, none, none, none, none, none, none, none, none, none, none], [], (H0 s p0)) u τ) : QTri l Z n0 ad 0 (366, [none, vR 1, vI x2, vI x3, vI x4, none, vI x6, vI x7, vI x8, vI v.1, vL v.2.1, none, vI v.2.2, none, none, none, none, none, none, none, none, none, none, none], [], (H0 s p0)) u τ := by
 unfold B0_366 at h
 refine zS Ad W 2 (st' := (370, [none, vR 1, vI x2, vI x3, vI x4, none, vI x6, vI x7, vI x8, vI v.1, vL v.2.1, none, vI v.2.2, none, none, none, none, none, none, none, none, none, none, none], [.int x6, .int v.2.2], (H0 s p0))) rfl ?_
 rcases qite h with ⟨hc367, h⟩ | ⟨hc367, h⟩
 ·refine zF Ad W (t := 423) (f := 373) rfl (XT.ii_ge_f hc367) ?_
  refine zS Ad W 3 (st' := (377, [none, vR 1, vI x2, vI x3, vI x4, none, vI x6, vI x7, vI x8, vI v.1, vL v.2.1, none, vI v.2.2, none, none, none, none, none, none, none, none, none, none, none], [.int (0:Int32), .int v.2.2, .ref 1], (H0 s p0))) rfl ?_
  obtain ⟨r368, hr368, h⟩ := bind_eq_some_iff.mp h
  refine QTri.callV W (a := 1) (as := [.int v.2.2, .int (0:Int32)]) (rest := []) (w := (some (.int r368))) (σ₁ := (H0 s p0)) rfl rfl rfl rfl rfl rfl rfl rfl (tF7 Ad W s p0 v.2.2 (0:Int32) hr368) ?_
  refine zS Ad W 1 (st' := (382, [none, vR 1, vI x2, vI x3, vI x4, none, vI x6, vI x7, vI x8, vI v.1, vL v.2.1, none, vI v.2.2, none, none, none, none, none, none, none, none, none, none, none], [.int x8, .int r368], (H0 s p0))) rfl ?_
  rcases qite h with ⟨hc369, h⟩ | ⟨hc369, h⟩
  ·refine zF Ad W (t := 417) (f := 385) rfl (XT.ii_ne_f hc369) ?_
   refine zS Ad W 4 (st' := (392, [none, vR 1, vI x2, vI x3, vI x4, none, vI x6, vI x7, vI x8, vI (v.1 + (1:Int32)), vL v.2.1, none, vI v.2.2, none, none, none, none, none, none, none, none, none, none, none], [.int (3:Int32), .int v.2.2, .ref 1], (H0 s p0))) rfl ?_
   obtain ⟨r370, hr370, h⟩ := bind_eq_some_iff.mp h
   refine QTri.callV W (a := 1) (as := [.int v.2.2, .int (3:Int32)]) (rest := []) (w := (some (.int r370))) (σ₁ := (H0 s p0)) rfl rfl rfl rfl rfl rfl rfl rfl (tF7 Ad W s p0 v.2.2 (3:Int32) hr370) ?_
   refine zS Ad W 4 (st' := (401, [none, vR 1, vI x2, vI x3, vI x4, none, vI x6, vI x7, vI x8, vI (v.1 + (1:Int32)), vL v.2.1, none, vI v.2.2, vI r370, none, none, none, none, none, none, none, none, none, none], [.int (r370 &&& (2:Int32))], (H0 s p0))) rfl ?_
   rcases qite h with ⟨hc371, h⟩ | ⟨hc371, h⟩
   ·refine zF Ad W (t := 417) (f := 404) rfl (XT.i0_ne_f hc371) ?_
    refine zS Ad W 4 (st' := (410, [none, vR 1, vI x2, vI x3, vI x4, none, vI x6, vI x7, vI x8, vI (v.1 + (1:Int32)), vL v.2.1, none, vI v.2.2, vI r370, none, none, none, none, none, none, none, none, none, none], [.int (2:Int32), .int v.2.2, .ref 1, .long v.2.1], (H0 s p0))) rfl ?_
    obtain ⟨r372, hr372, h⟩ := bind_eq_some_iff.mp h
    refine QTri.callV W (a := 1) (as := [.int v.2.2, .int (2:Int32)]) (rest := [.long v.2.1]) (w := (some (.int r372))) (σ₁ := (H0 s p0)) rfl rfl rfl rfl rfl rfl rfl rfl (tF7 Ad W s p0 v.2.2 (2:Int32) hr372) ?_
    refine zS Ad W 3 (st' := (417, [none, vR 1, vI x2, vI x3, vI x4, none, vI x6, vI x7, vI x8, vI (v.1 + (1:Int32)), vL (v.2.1 + (r372.toInt64)), none, vI v.2.2, vI r370, none, none, none, none, none, none, none, none, none, none], [], (H0 s p0))) rfl ?_
    exact zM [ff,tt,tt,tt,tt,ff,tt,tt,tt,tt,tt,ff,tt,ff,ff,ff,ff,ff,ff,ff,ff,ff,ff,ff] (tJ0_417 Ad W s p0 x2 x3 x4 x6 x7 x8 (v.1 + (1:Int32)) (v.2.1 + (r372.toInt64)) v.2.2 h hx0 hc)
   ·refine zT Ad W (t := 417) (f := 404) rfl (XT.i0_ne_t hc371) ?_
    exact zM [ff,tt,tt,tt,tt,ff,tt,tt,tt,tt,tt,ff,tt,ff,ff,ff,ff,ff,ff,ff,ff,ff,ff,ff] (tJ0_417 Ad W s p0 x2 x3 x4 x6 x7 x8 (v.1 + (1:Int32)) v.2.1 v.2.2 h hx0 hc)
  ·refine zT Ad W (t := 417) (f := 385) rfl (XT.ii_ne_t hc369) ?_
   exact zM [ff,tt,tt,tt,tt,ff,tt,tt,tt,tt,tt,ff,tt,ff,ff,ff,ff,ff,ff,ff,ff,ff,ff,ff] (tJ0_417 Ad W s p0 x2 x3 x4 x6 x7 x8 v.1 v.2.1 v.2.2 h hx0 hc)
 ·refine zT Ad W (t := 423) (f := 373) rfl (XT.ii_ge_t hc367) ?_
  obtain rfl := Option.some.inj h
  exact zM [ff,tt,tt,tt,tt,ff,tt,tt,ff,tt,tt,ff,ff,ff,ff,ff,ff,ff,ff,ff,ff,ff,ff,ff] (hx0 (v.1, v.2.1) rfl)
/-- frame(LWindowFuncEngine;IIII)Z -/
def F8 (o : Ob) (x1 : Int32) (x2 : Int32) (x3 : Int32) (x4 : Int32) : Option (Int32 × Ob) :=
 (F9 o x1 x2).bind fun r375 => (F10 r375.2 x3 x4).bind fun r376 => (F11 r376.2).bind fun r377 => (if r375.1 = (0:Int32) then some ((0:Int32), r377.2) else (if r376.1 = (0:Int32) then some ((0:Int32), r377.2) else (if r377.1 = (0:Int32) then some ((1:Int32), r377.2) else some ((0:Int32), r377.2))))
theorem tF8 (Ad : QAd n0 ad) (W : QW Z a0) (s : List Int32) (o : Ob) (x1 : Int32) (x2 : Int32) (x3 : Int32) (x4 : Int32) {r : Int32 × Ob} (h : F8 o x1 x2 x3 x4 = some r) : QTri l Z n0 ad 8 (0, qentry [.ref 1, .int x1, .int x2, .int x3, .int x4] (pMaxL 8), [], (H0 s o)) (some (Value.int r.1)) (H0 s r.2) := by
 unfold F8 at h
 refine zS Ad W 3 (st' := (3, [vR 1, vI x1, vI x2, vI x3, vI x4, none, none, none], [.int x2, .int x1, .ref 1], (H0 s o))) rfl ?_
 obtain ⟨r375, hr375, h⟩ := bind_eq_some_iff.mp h
 refine QTri.callV W (a := 1) (as := [.int x1, .int x2]) (rest := []) (w := (some (.int r375.1))) (σ₁ := (H0 s r375.2)) rfl rfl rfl rfl rfl rfl rfl rfl (tF9 Ad W s o x1 x2 hr375) ?_
 refine zS Ad W 4 (st' := (12, [vR 1, vI x1, vI x2, vI x3, vI x4, vI r375.1, none, none], [.int x4, .int x3, .ref 1], (H0 s r375.2))) rfl ?_
 obtain ⟨r376, hr376, h⟩ := bind_eq_some_iff.mp h
 refine QTri.callV W (a := 1) (as := [.int x3, .int x4]) (rest := []) (w := (some (.int r376.1))) (σ₁ := (H0 s r376.2)) rfl rfl rfl rfl rfl rfl rfl rfl (tF10 Ad W s r375.2 x3 x4 hr376) ?_
 refine zS Ad W 2 (st' := (18, [vR 1, vI x1, vI x2, vI x3, vI x4, vI r375.1, vI r376.1, none], [.ref 1], (H0 s r376.2))) rfl ?_
 obtain ⟨r377, hr377, h⟩ := bind_eq_some_iff.mp h
 refine QTri.callV W (a := 1) (as := []) (rest := []) (w := (some (.int r377.1))) (σ₁ := (H0 s r377.2)) rfl rfl rfl rfl rfl rfl rfl rfl (tF11 Ad W s r376.2 hr377) ?_
 refine zS Ad W 2 (st' := (25, [vR 1, vI x1, vI x2, vI x3, vI x4, vI r375.1, vI r376.1, vI r377.1], [.int r375.1], (H0 s r377.2))) rfl ?_
 rcases qite h with ⟨hc378, h⟩ | ⟨hc378, h⟩
 ·refine zT Ad W (t := 42) (f := 28) rfl (XT.i0_eq_t hc378) ?_
  refine zS Ad W 1 (st' := (43, [vR 1, vI x1, vI x2, vI x3, vI x4, vI r375.1, vI r376.1, vI r377.1], [.int (0:Int32)], (H0 s r377.2))) rfl ?_
  obtain rfl := Option.some.inj h
  exact QTri.retZ rfl rfl
 ·refine zF Ad W (t := 42) (f := 28) rfl (XT.i0_eq_f hc378) ?_
  refine zS Ad W 1 (st' := (30, [vR 1, vI x1, vI x2, vI x3, vI x4, vI r375.1, vI r376.1, vI r377.1], [.int r376.1], (H0 s r377.2))) rfl ?_
  rcases qite h with ⟨hc379, h⟩ | ⟨hc379, h⟩
  ·refine zT Ad W (t := 42) (f := 33) rfl (XT.i0_eq_t hc379) ?_
   refine zS Ad W 1 (st' := (43, [vR 1, vI x1, vI x2, vI x3, vI x4, vI r375.1, vI r376.1, vI r377.1], [.int (0:Int32)], (H0 s r377.2))) rfl ?_
   obtain rfl := Option.some.inj h
   exact QTri.retZ rfl rfl
  ·refine zF Ad W (t := 42) (f := 33) rfl (XT.i0_eq_f hc379) ?_
   refine zS Ad W 1 (st' := (35, [vR 1, vI x1, vI x2, vI x3, vI x4, vI r375.1, vI r376.1, vI r377.1], [.int r377.1], (H0 s r377.2))) rfl ?_
   rcases qite h with ⟨hc380, h⟩ | ⟨hc380, h⟩
   ·refine zF Ad W (t := 42) (f := 38) rfl (XT.i0_ne_f hc380) ?_
    refine zS Ad W 2 (st' := (43, [vR 1, vI x1, vI x2, vI x3, vI x4, vI r375.1, vI r376.1, vI r377.1], [.int (1:Int32)], (H0 s r377.2))) rfl ?_
    obtain rfl := Option.some.inj h
    exact QTri.retZ rfl rfl
   ·refine zT Ad W (t := 42) (f := 38) rfl (XT.i0_ne_t hc380) ?_
    refine zS Ad W 1 (st' := (43, [vR 1, vI x1, vI x2, vI x3, vI x4, vI r375.1, vI r376.1, vI r377.1], [.int (0:Int32)], (H0 s r377.2))) rfl ?_
    obtain rfl := Option.some.inj h
    exact QTri.retZ rfl rfl
/-- getFrameCount(I)I -/
def F24 (o : Ob) (x1 : Int32) : Option (Int32) :=
 (if (f_computed o) = (0:Int32) then some (-1:Int32) else (if x1 < (0:Int32) then some (-1:Int32) else (if x1 < (f_rows o) then (aget (f_frameCnt o) x1).bind fun y386 => some y386 else some (-1:Int32))))
theorem tF24 (Ad : QAd n0 ad) (W : QW Z a0) (s : List Int32) (o : Ob) (x1 : Int32) {r : Int32} (h : F24 o x1 = some r) : QTri l Z n0 ad 24 (0, qentry [.ref 1, .int x1] (pMaxL 24), [], (H0 s o)) (some (Value.int r)) (H0 s o) := by
 unfold F24 at h
 refine zS Ad W 2 (st' := (4, [vR 1, vI x1], [.int (f_computed o)], (H0 s o))) rfl ?_
 rcases qite h with ⟨hc383, h⟩ | ⟨hc383, h⟩
 ·refine zT Ad W (t := 19) (f := 7) rfl (XT.i0_eq_t hc383) ?_
  refine zS Ad W 1 (st' := (20, [vR 1, vI x1], [.int (-1:Int32)], (H0 s o))) rfl ?_
  obtain rfl := Option.some.inj h
  exact QTri.retI rfl rfl
 ·refine zF Ad W (t := 19) (f := 7) rfl (XT.i0_eq_f hc383) ?_
  refine zS Ad W 1 (st' := (8, [vR 1, vI x1], [.int x1], (H0 s o))) rfl ?_
  rcases qite h with ⟨hc384, h⟩ | ⟨hc384, h⟩
  ·refine zT Ad W (t := 19) (f := 11) rfl (XT.i0_lt_t hc384) ?_
   refine zS Ad W 1 (st' := (20, [vR 1, vI x1], [.int (-1:Int32)], (H0 s o))) rfl ?_
   obtain rfl := Option.some.inj h
   exact QTri.retI rfl rfl
  ·refine zF Ad W (t := 19) (f := 11) rfl (XT.i0_lt_f hc384) ?_
   refine zS Ad W 3 (st' := (16, [vR 1, vI x1], [.int (f_rows o), .int x1], (H0 s o))) rfl ?_
   rcases qite h with ⟨hc385, h⟩ | ⟨hc385, h⟩
   ·refine zT Ad W (t := 21) (f := 19) rfl (XT.ii_lt_t hc385) ?_
    refine zS Ad W 3 (st' := (26, [vR 1, vI x1], [.int x1, .ref 8], (H0 s o))) rfl ?_
    obtain ⟨y386, hy386, h⟩ := bind_eq_some_iff.mp h
    refine zB Ad W (f := fun y386 => (27, [vR 1, vI x1], [.int y386], (H0 s o))) rfl hy386 ?_
    obtain rfl := Option.some.inj h
    exact QTri.retI rfl rfl
   ·refine zF Ad W (t := 21) (f := 19) rfl (XT.ii_lt_f hc385) ?_
    refine zS Ad W 1 (st' := (20, [vR 1, vI x1], [.int (-1:Int32)], (H0 s o))) rfl ?_
    obtain rfl := Option.some.inj h
    exact QTri.retI rfl rfl
/-- getResult(I)J -/
def F25 (o : Ob) (x1 : Int32) : Option (Int64) :=
 (if (f_computed o) = (0:Int32) then some (0 : Int64) else (if x1 < (0:Int32) then some (0 : Int64) else (if x1 < (f_rows o) then (aget (f_resNull o) x1).bind fun y391 => (if y391 = (0:Int32) then (aget (f_res o) x1).bind fun y393 => some y393 else some (0 : Int64)) else some (0 : Int64))))
theorem tF25 (Ad : QAd n0 ad) (W : QW Z a0) (s : List Int32) (o : Ob) (x1 : Int32) {r : Int64} (h : F25 o x1 = some r) : QTri l Z n0 ad 25 (0, qentry [.ref 1, .int x1] (pMaxL 25), [], (H0 s o)) (some (Value.long r)) (H0 s o) := by
 unfold F25 at h
 refine zS Ad W 2 (st' := (4, [vR 1, vI x1], [.int (f_computed o)], (H0 s o))) rfl ?_
 rcases qite h with ⟨hc388, h⟩ | ⟨hc388, h⟩
 ·refine zT Ad W (t := 19) (f := 7) rfl (XT.i0_eq_t hc388) ?_
  refine zS Ad W 1 (st' := (20, [vR 1, vI x1], [.long (0 : Int64)], (H0 s o))) rfl ?_
  obtain rfl := Option.some.inj h
  exact QTri.retJ rfl rfl
 ·refine zF Ad W (t := 19) (f := 7) rfl (XT.i0_eq_f hc388) ?_
  refine zS Ad W 1 (st' := (8, [vR 1, vI x1], [.int x1], (H0 s o))) rfl ?_
  rcases qite h with ⟨hc389, h⟩ | ⟨hc389, h⟩
  ·refine zT Ad W (t := 19) (f := 11) rfl (XT.i0_lt_t hc389) ?_
   refine zS Ad W 1 (st' := (20, [vR 1, vI x1], [.long (0 : Int64)], (H0 s o))) rfl ?_
   obtain rfl := Option.some.inj h
   exact QTri.retJ rfl rfl
  ·refine zF Ad W (t := 19) (f := 11) rfl (XT.i0_lt_f hc389) ?_
   refine zS Ad W 3 (st' := (16, [vR 1, vI x1], [.int (f_rows o), .int x1], (H0 s o))) rfl ?_
   rcases qite h with ⟨hc390, h⟩ | ⟨hc390, h⟩
   ·refine zT Ad W (t := 21) (f := 19) rfl (XT.ii_lt_t hc390) ?_
    refine zS Ad W 3 (st' := (26, [vR 1, vI x1], [.int x1, .ref 7], (H0 s o))) rfl ?_
    obtain ⟨y391, hy391, h⟩ := bind_eq_some_iff.mp h
    refine zB Ad W (f := fun y391 => (27, [vR 1, vI x1], [.int y391], (H0 s o))) rfl hy391 ?_
    rcases qite h with ⟨hc392, h⟩ | ⟨hc392, h⟩
    ·refine zT Ad W (t := 32) (f := 30) rfl (XT.i0_eq_t hc392) ?_
     refine zS Ad W 3 (st' := (37, [vR 1, vI x1], [.int x1, .ref 6], (H0 s o))) rfl ?_
     obtain ⟨y393, hy393, h⟩ := bind_eq_some_iff.mp h
     refine zB Ad W (f := fun y393 => (38, [vR 1, vI x1], [.long y393], (H0 s o))) rfl hy393 ?_
     obtain rfl := Option.some.inj h
     exact QTri.retJ rfl rfl
    ·refine zF Ad W (t := 32) (f := 30) rfl (XT.i0_eq_f hc392) ?_
     refine zS Ad W 1 (st' := (31, [vR 1, vI x1], [.long (0 : Int64)], (H0 s o))) rfl ?_
     obtain rfl := Option.some.inj h
     exact QTri.retJ rfl rfl
   ·refine zF Ad W (t := 21) (f := 19) rfl (XT.ii_lt_f hc390) ?_
    refine zS Ad W 1 (st' := (20, [vR 1, vI x1], [.long (0 : Int64)], (H0 s o))) rfl ?_
    obtain rfl := Option.some.inj h
    exact QTri.retJ rfl rfl
def J0_617 (s : List Int32) (p0 : Ob) (x2 : Int32) (x3 : Int32) (x4 : Int32) (x6 : Int32) (x7 : Int32) : Option (((Int32 × QHeap)) ⊕ (Int32 × Ob)) :=
  some (.inr ((x7 + (1 : Int32)), p0))
theorem tJ0_617 (Ad : QAd n0 ad) (W : QW Z a0) (s : List Int32) (p0 : Ob) (x2 : Int32) (x3 : Int32) (x4 : Int32) (x6 : Int32) (x7 : Int32) {r : ((Int32 × QHeap)) ⊕ (Int32 × Ob)} {u : Option Value} {τ : QHeap} (h : J0_617 s p0 x2 x3 x4 x6 x7 = some r) (hx0 : ∀ x : Int32 × QHeap, r = .inl x → u = (some (Value.int x.1)) ∧ τ = x.2) (hc : ∀ x : Int32 × Ob, r = .inr x → QTri l Z n0 ad 0 (341, [none, vR 1, vI x2, vI x3, vI x4, none, vI x6, vI x.1, none, none, none, none, none, none, none, none, none, none, none, none, none, none, none, none], [], (H0 s x.2)) u τ) : QTri l Z n0 ad 0 (617, [none, vR 1, vI x2, vI x3, vI x4, none, vI x6, vI x7, none, none, none, none, none, none, none, none, none, none, none, none, none, none, none, none], [], (H0 s p0)) u τ := by
 unfold J0_617 at h
 refine zS Ad W 2 (st' := (341, [none, vR 1, vI x2, vI x3, vI x4, none, vI x6, vI (x7 + (1:Int32)), none, none, none, none, none, none, none, none, none, none, none, none, none, none, none, none], [], (H0 s p0))) rfl ?_
 obtain rfl := Option.some.inj h
 exact zM [ff,tt,tt,tt,tt,ff,tt,tt,ff,ff,ff,ff,ff,ff,ff,ff,ff,ff,ff,ff,ff,ff,ff,ff] (hc ((x7 + (1:Int32)), p0) rfl)
def J0_571 (s : List Int32) (p0 : Ob) (x2 : Int32) (x3 : Int32) (x4 : Int32) (x6 : Int32) (x7 : Int32) (x12 : Int32) (x13 : Int64) (x17 : Int32) (x18 : Int64) (x20 : Int32) : Option (((Int32 × QHeap)) ⊕ (Int32 × Ob)) :=
  (if x20 = (0 : Int32) then some (.inl ((0 : Int32), (H0 s p0))) else (F24 p0 x7).bind fun r407 => (F25 p0 x7).bind fun r408 => (if (x17 + r407) = x12 then (if (x18 + r408) = x13 then (J0_617 s p0 x2 x3 x4 x6 x7) else some (.inl ((0 : Int32), (H0 s p0)))) else some (.inl ((0 : Int32), (H0 s p0)))))
theorem tJ0_571 (Ad : QAd n0 ad) (W : QW Z a0) (s : List Int32) (p0 : Ob) (x2 : Int32) (x3 : Int32) (x4 : Int32) (x6 : Int32) (x7 : Int32) (x12 : Int32) (x13 : Int64) (x17 : Int32) (x18 : Int64) (x20 : Int32) {r : ((Int32 × QHeap)) ⊕ (Int32 × Ob)} {u : Option Value} {τ : QHeap} (h : J0_571 s p0 x2 x3 x4 x6 x7 x12 x13 x17 x18 x20 = some r) (hx0 : ∀ x : Int32 × QHeap, r = .inl x → u = (some (Value.int x.1)) ∧ τ = x.2) (hc : ∀ x : Int32 × Ob, r = .inr x → QTri l Z n0 ad 0 (341, [none, vR 1, vI x2, vI x3, vI x4, none, vI x6, vI x.1, none, none, none, none, none, none, none, none, none, none, none, none, none, none, none, none], [], (H0 s x.2)) u τ) : QTri l Z n0 ad 0 (571, [none, vR 1, vI x2, vI x3, vI x4, none, vI x6, vI x7, none, none, none, none, vI x12, vL x13, none, none, none, vI x17, vL x18, none, vI x20, none, none, none], [], (H0 s p0)) u τ := by
 unfold J0_571 at h
 refine zS Ad W 1 (st' := (573, [none, vR 1, vI x2, vI x3, vI x4, none, vI x6, vI x7, none, none, none, none, vI x12, vL x13, none, none, none, vI x17, vL x18, none, vI x20, none, none, none], [.int x20], (H0 s p0))) rfl ?_
 rcases qite h with ⟨hc406, h⟩ | ⟨hc406, h⟩
 ·refine zF Ad W (t := 578) (f := 576) rfl (XT.i0_ne_f hc406) ?_
  refine zS Ad W 1 (st' := (577, [none, vR 1, vI x2, vI x3, vI x4, none, vI x6, vI x7, none, none, none, none, vI x12, vL x13, none, none, none, vI x17, vL x18, none, vI x20, none, none, none], [.int (0:Int32)], (H0 s p0))) rfl ?_
  obtain rfl := Option.some.inj h
  obtain ⟨rfl, rfl⟩ := hx0 ((0:Int32), (H0 s p0)) rfl
  exact QTri.retZ rfl rfl
 ·refine zT Ad W (t := 578) (f := 576) rfl (XT.i0_ne_t hc406) ?_
  refine zS Ad W 2 (st' := (581, [none, vR 1, vI x2, vI x3, vI x4, none, vI x6, vI x7, none, none, none, none, vI x12, vL x13, none, none, none, vI x17, vL x18, none, vI x20, none, none, none], [.int x7, .ref 1], (H0 s p0))) rfl ?_
  obtain ⟨r407, hr407, h⟩ := bind_eq_some_iff.mp h
  refine QTri.callV W (a := 1) (as := [.int x7]) (rest := []) (w := (some (.int r407))) (σ₁ := (H0 s p0)) rfl rfl rfl rfl rfl rfl rfl rfl (tF24 Ad W s p0 x7 hr407) ?_
  refine zS Ad W 3 (st' := (589, [none, vR 1, vI x2, vI x3, vI x4, none, vI x6, vI x7, none, none, none, none, vI x12, vL x13, none, none, none, vI x17, vL x18, none, vI x20, vI r407, none, none], [.int x7, .ref 1], (H0 s p0))) rfl ?_
  obtain ⟨r408, hr408, h⟩ := bind_eq_some_iff.mp h
  refine QTri.callV W (a := 1) (as := [.int x7]) (rest := []) (w := (some (.long r408))) (σ₁ := (H0 s p0)) rfl rfl rfl rfl rfl rfl rfl rfl (tF25 Ad W s p0 x7 hr408) ?_
  refine zS Ad W 5 (st' := (601, [none, vR 1, vI x2, vI x3, vI x4, none, vI x6, vI x7, none, none, none, none, vI x12, vL x13, none, none, none, vI x17, vL x18, none, vI x20, vI r407, vL r408, none], [.int x12, .int (x17 + r407)], (H0 s p0))) rfl ?_
  rcases qite h with ⟨hc409, h⟩ | ⟨hc409, h⟩
  ·refine zF Ad W (t := 615) (f := 604) rfl (XT.ii_ne_f hc409) ?_
   refine zS Ad W 5 (st' := (612, [none, vR 1, vI x2, vI x3, vI x4, none, vI x6, vI x7, none, none, none, none, vI x12, vL x13, none, none, none, vI x17, vL x18, none, vI x20, vI r407, vL r408, none], [.int (XT.cmpL (x18 + r408) x13)], (H0 s p0))) rfl ?_
   rcases qite h with ⟨hc410, h⟩ | ⟨hc410, h⟩
   ·refine zT Ad W (t := 617) (f := 615) rfl (XT.ll_eq_t hc410) ?_
    exact zM [ff,tt,tt,tt,tt,ff,tt,tt,ff,ff,ff,ff,ff,ff,ff,ff,ff,ff,ff,ff,ff,ff,ff,ff] (tJ0_617 Ad W s p0 x2 x3 x4 x6 x7 h hx0 hc)
   ·refine zF Ad W (t := 617) (f := 615) rfl (XT.ll_eq_f hc410) ?_
    refine zS Ad W 1 (st' := (616, [none, vR 1, vI x2, vI x3, vI x4, none, vI x6, vI x7, none, none, none, none, vI x12, vL x13, none, none, none, vI x17, vL x18, none, vI x20, vI r407, vL r408, none], [.int (0:Int32)], (H0 s p0))) rfl ?_
    obtain rfl := Option.some.inj h
    obtain ⟨rfl, rfl⟩ := hx0 ((0:Int32), (H0 s p0)) rfl
    exact QTri.retZ rfl rfl
  ·refine zT Ad W (t := 615) (f := 604) rfl (XT.ii_ne_t hc409) ?_
   refine zS Ad W 1 (st' := (616, [none, vR 1, vI x2, vI x3, vI x4, none, vI x6, vI x7, none, none, none, none, vI x12, vL x13, none, none, none, vI x17, vL x18, none, vI x20, vI r407, vL r408, none], [.int (0:Int32)], (H0 s p0))) rfl ?_
   obtain rfl := Option.some.inj h
   obtain ⟨rfl, rfl⟩ := hx0 ((0:Int32), (H0 s p0)) rfl
   exact QTri.retZ rfl rfl
def J0_519 (s : List Int32) (p0 : Ob) (x2 : Int32) (x3 : Int32) (x4 : Int32) (x6 : Int32) (x7 : Int32) (x12 : Int32) (x13 : Int64) (x16 : Int32) : Option (((Int32 × QHeap)) ⊕ (Int32 × Ob)) :=
  (if x16 = (0 : Int32) then some (.inl ((0 : Int32), (H0 s p0))) else (F24 p0 x7).bind fun r402 => (F25 p0 x7).bind fun r403 => (if x3 = (0 : Int32) then (F8 p0 (1 : Int32) x2 (4 : Int32) (0 : Int32)).bind fun r405 => (J0_571 s r405.2 x2 x3 x4 x6 x7 x12 x13 r402 r403 r405.1) else (F8 p0 (3 : Int32) (x2 + (1 : Int32)) (4 : Int32) (0 : Int32)).bind fun r411 => (J0_571 s r411.2 x2 x3 x4 x6 x7 x12 x13 r402 r403 r411.1)))
theorem tJ0_519 (Ad : QAd n0 ad) (W : QW Z a0) (s : List Int32) (p0 : Ob) (x2 : Int32) (x3 : Int32) (x4 : Int32) (x6 : Int32) (x7 : Int32) (x12 : Int32) (x13 : Int64) (x16 : Int32) {r : ((Int32 × QHeap)) ⊕ (Int32 × Ob)} {u : Option Value} {τ : QHeap} (h : J0_519 s p0 x2 x3 x4 x6 x7 x12 x13 x16 = some r) (hx0 : ∀ x : Int32 × QHeap, r = .inl x → u = (some (Value.int x.1)) ∧ τ = x.2) (hc : ∀ x : Int32 × Ob, r = .inr x → QTri l Z n0 ad 0 (341, [none, vR 1, vI x2, vI x3, vI x4, none, vI x6, vI x.1, none, none, none, none, none, none, none, none, none, none, none, none, none, none, none, none], [], (H0 s x.2)) u τ) : QTri l Z n0 ad 0 (519, [none, vR 1, vI x2, vI x3, vI x4, none, vI x6, vI x7, none, none, none, none, vI x12, vL x13, none, none, vI x16, none, none, none, none, none, none, none], [], (H0 s p0)) u τ := by
 unfold J0_519 at h
 refine zS Ad W 1 (st' := (521, [none, vR 1, vI x2, vI x3, vI x4, none, vI x6, vI x7, none, none, none, none, vI x12, vL x13, none, none, vI x16, none, none, none, none, none, none, none], [.int x16], (H0 s p0))) rfl ?_
 rcases qite h with ⟨hc401, h⟩ | ⟨hc401, h⟩
 ·refine zF Ad W (t := 526) (f := 524) rfl (XT.i0_ne_f hc401) ?_
  refine zS Ad W 1 (st' := (525, [none, vR 1, vI x2, vI x3, vI x4, none, vI x6, vI x7, none, none, none, none, vI x12, vL x13, none, none, vI x16, none, none, none, none, none, none, none], [.int (0:Int32)], (H0 s p0))) rfl ?_
  obtain rfl := Option.some.inj h
  obtain ⟨rfl, rfl⟩ := hx0 ((0:Int32), (H0 s p0)) rfl
  exact QTri.retZ rfl rfl
 ·refine zT Ad W (t := 526) (f := 524) rfl (XT.i0_ne_t hc401) ?_
  refine zS Ad W 2 (st' := (529, [none, vR 1, vI x2, vI x3, vI x4, none, vI x6, vI x7, none, none, none, none, vI x12, vL x13, none, none, vI x16, none, none, none, none, none, none, none], [.int x7, .ref 1], (H0 s p0))) rfl ?_
  obtain ⟨r402, hr402, h⟩ := bind_eq_some_iff.mp h
  refine QTri.callV W (a := 1) (as := [.int x7]) (rest := []) (w := (some (.int r402))) (σ₁ := (H0 s p0)) rfl rfl rfl rfl rfl rfl rfl rfl (tF24 Ad W s p0 x7 hr402) ?_
  refine zS Ad W 3 (st' := (537, [none, vR 1, vI x2, vI x3, vI x4, none, vI x6, vI x7, none, none, none, none, vI x12, vL x13, none, none, vI x16, vI r402, none, none, none, none, none, none], [.int x7, .ref 1], (H0 s p0))) rfl ?_
  obtain ⟨r403, hr403, h⟩ := bind_eq_some_iff.mp h
  refine QTri.callV W (a := 1) (as := [.int x7]) (rest := []) (w := (some (.long r403))) (σ₁ := (H0 s p0)) rfl rfl rfl rfl rfl rfl rfl rfl (tF25 Ad W s p0 x7 hr403) ?_
  refine zS Ad W 2 (st' := (543, [none, vR 1, vI x2, vI x3, vI x4, none, vI x6, vI x7, none, none, none, none, vI x12, vL x13, none, none, vI x16, vI r402, vL r403, none, none, none, none, none], [.int x3], (H0 s p0))) rfl ?_
  rcases qite h with ⟨hc404, h⟩ | ⟨hc404, h⟩
  ·refine zF Ad W (t := 559) (f := 546) rfl (XT.i0_ne_f hc404) ?_
   refine zS Ad W 5 (st' := (551, [none, vR 1, vI x2, vI x3, vI x4, none, vI x6, vI x7, none, none, none, none, vI x12, vL x13, none, none, vI x16, vI r402, vL r403, none, none, none, none, none], [.int (0:Int32), .int (4:Int32), .int x2, .int (1:Int32), .ref 1], (H0 s p0))) rfl ?_
   obtain ⟨r405, hr405, h⟩ := bind_eq_some_iff.mp h
   refine QTri.callS W (as := [.ref 1, .int (1:Int32), .int x2, .int (4:Int32), .int (0:Int32)]) (rest := []) (w := (some (.int r405.1))) (σ₁ := (H0 s r405.2)) rfl rfl rfl rfl rfl rfl rfl (tF8 Ad W s p0 (1:Int32) x2 (4:Int32) (0:Int32) hr405) ?_
   refine zS Ad W 2 (st' := (571, [none, vR 1, vI x2, vI x3, vI x4, none, vI x6, vI x7, none, none, none, none, vI x12, vL x13, none, none, vI x16, vI r402, vL r403, none, vI r405.1, none, none, none], [], (H0 s r405.2))) rfl ?_
   exact zM [ff,tt,tt,tt,tt,ff,tt,tt,ff,ff,ff,ff,tt,tt,ff,ff,ff,tt,tt,ff,tt,ff,ff,ff] (tJ0_571 Ad W s r405.2 x2 x3 x4 x6 x7 x12 x13 r402 r403 r405.1 h hx0 hc)
  ·refine zT Ad W (t := 559) (f := 546) rfl (XT.i0_ne_t hc404) ?_
   refine zS Ad W 7 (st' := (566, [none, vR 1, vI x2, vI x3, vI x4, none, vI x6, vI x7, none, none, none, none, vI x12, vL x13, none, none, vI x16, vI r402, vL r403, none, none, none, none, none], [.int (0:Int32), .int (4:Int32), .int (x2 + (1:Int32)), .int (3:Int32), .ref 1], (H0 s p0))) rfl ?_
   obtain ⟨r411, hr411, h⟩ := bind_eq_some_iff.mp h
   refine QTri.callS W (as := [.ref 1, .int (3:Int32), .int (x2 + (1:Int32)), .int (4:Int32), .int (0:Int32)]) (rest := []) (w := (some (.int r411.1))) (σ₁ := (H0 s r411.2)) rfl rfl rfl rfl rfl rfl rfl (tF8 Ad W s p0 (3:Int32) (x2 + (1:Int32)) (4:Int32) (0:Int32) hr411) ?_
   refine zS Ad W 1 (st' := (571, [none, vR 1, vI x2, vI x3, vI x4, none, vI x6, vI x7, none, none, none, none, vI x12, vL x13, none, none, vI x16, vI r402, vL r403, none, vI r411.1, none, none, none], [], (H0 s r411.2))) rfl ?_
   exact zM [ff,tt,tt,tt,tt,ff,tt,tt,ff,ff,ff,ff,tt,tt,ff,ff,ff,tt,tt,ff,tt,ff,ff,ff] (tJ0_571 Ad W s r411.2 x2 x3 x4 x6 x7 x12 x13 r402 r403 r411.1 h hx0 hc)
def J0_490 (s : List Int32) (p0 : Ob) (x2 : Int32) (x3 : Int32) (x4 : Int32) (x6 : Int32) (x7 : Int32) (x12 : Int32) (x13 : Int64) : Option (((Int32 × QHeap)) ⊕ (Int32 × Ob)) :=
  (if x3 = (0 : Int32) then (F8 p0 (0 : Int32) (0 : Int32) (1 : Int32) (x2 + (1 : Int32))).bind fun r400 => (J0_519 s r400.2 x2 x3 x4 x6 x7 x12 x13 r400.1) else (F8 p0 (0 : Int32) (0 : Int32) (3 : Int32) x2).bind fun r412 => (J0_519 s r412.2 x2 x3 x4 x6 x7 x12 x13 r412.1))
theorem tJ0_490 (Ad : QAd n0 ad) (W : QW Z a0) (s : List Int32) (p0 : Ob) (x2 : Int32) (x3 : Int32) (x4 : Int32) (x6 : Int32) (x7 : Int32) (x12 : Int32) (x13 : Int64) {r : ((Int32 × QHeap)) ⊕ (Int32 × Ob)} {u : Option Value} {τ : QHeap} (h : J0_490 s p0 x2 x3 x4 x6 x7 x12 x13 = some r) (hx0 : ∀ x : Int32 × QHeap, r = .inl x → u = (some (Value.int x.1)) ∧ τ = x.2) (hc : ∀ x : Int32 × Ob, r = .inr x → QTri l Z n0 ad 0 (341, [none, vR 1, vI x2, vI x3, vI x4, none, vI x6, vI x.1, none, none, none, none, none, none, none, none, none, none, none, none, none, none, none, none], [], (H0 s x.2)) u τ) : QTri l Z n0 ad 0 (490, [none, vR 1, vI x2, vI x3, vI x4, none, vI x6, vI x7, none, none, none, none, vI x12, vL x13, none, none, none, none, none, none, none, none, none, none], [], (H0 s p0)) u τ := by
 unfold J0_490 at h
 refine zS Ad W 1 (st' := (491, [none, vR 1, vI x2, vI x3, vI x4, none, vI x6, vI x7, none, none, none, none, vI x12, vL x13, none, none, none, none, none, none, none, none, none, none], [.int x3], (H0 s p0))) rfl ?_
 rcases qite h with ⟨hc399, h⟩ | ⟨hc399, h⟩
 ·refine zF Ad W (t := 509) (f := 494) rfl (XT.i0_ne_f hc399) ?_
  refine zS Ad W 7 (st' := (501, [none, vR 1, vI x2, vI x3, vI x4, none, vI x6, vI x7, none, none, none, none, vI x12, vL x13, none, none, none, none, none, none, none, none, none, none], [.int (x2 + (1:Int32)), .int (1:Int32), .int (0:Int32), .int (0:Int32), .ref 1], (H0 s p0))) rfl ?_
  obtain ⟨r400, hr400, h⟩ := bind_eq_some_iff.mp h
  refine QTri.callS W (as := [.ref 1, .int (0:Int32), .int (0:Int32), .int (1:Int32), .int (x2 + (1:Int32))]) (rest := []) (w := (some (.int r400.1))) (σ₁ := (H0 s r400.2)) rfl rfl rfl rfl rfl rfl rfl (tF8 Ad W s p0 (0:Int32) (0:Int32) (1:Int32) (x2 + (1:Int32)) hr400) ?_
  refine zS Ad W 2 (st' := (519, [none, vR 1, vI x2, vI x3, vI x4, none, vI x6, vI x7, none, none, none, none, vI x12, vL x13, none, none, vI r400.1, none, none, none, none, none, none, none], [], (H0 s r400.2))) rfl ?_
  exact zM [ff,tt,tt,tt,tt,ff,tt,tt,ff,ff,ff,ff,tt,tt,ff,ff,tt,ff,ff,ff,ff,ff,ff,ff] (tJ0_519 Ad W s r400.2 x2 x3 x4 x6 x7 x12 x13 r400.1 h hx0 hc)
 ·refine zT Ad W (t := 509) (f := 494) rfl (XT.i0_ne_t hc399) ?_
  refine zS Ad W 5 (st' := (514, [none, vR 1, vI x2, vI x3, vI x4, none, vI x6, vI x7, none, none, none, none, vI x12, vL x13, none, none, none, none, none, none, none, none, none, none], [.int x2, .int (3:Int32), .int (0:Int32), .int (0:Int32), .ref 1], (H0 s p0))) rfl ?_
  obtain ⟨r412, hr412, h⟩ := bind_eq_some_iff.mp h
  refine QTri.callS W (as := [.ref 1, .int (0:Int32), .int (0:Int32), .int (3:Int32), .int x2]) (rest := []) (w := (some (.int r412.1))) (σ₁ := (H0 s r412.2)) rfl rfl rfl rfl rfl rfl rfl (tF8 Ad W s p0 (0:Int32) (0:Int32) (3:Int32) x2 hr412) ?_
  refine zS Ad W 1 (st' := (519, [none, vR 1, vI x2, vI x3, vI x4, none, vI x6, vI x7, none, none, none, none, vI x12, vL x13, none, none, vI r412.1, none, none, none, none, none, none, none], [], (H0 s r412.2))) rfl ?_
  exact zM [ff,tt,tt,tt,tt,ff,tt,tt,ff,ff,ff,ff,tt,tt,ff,ff,tt,ff,ff,ff,ff,ff,ff,ff] (tJ0_519 Ad W s r412.2 x2 x3 x4 x6 x7 x12 x13 r412.1 h hx0 hc)
def B0_341 (s : List Int32) (x2 : Int32) (x3 : Int32) (x4 : Int32) (x6 : Int32) (v : Int32 × Ob) : Option (((Int32 × QHeap)) ⊕ (Int32 × Ob)) :=
  (if v.1 < x6 then (F7 v.2 v.1 (0 : Int32)).bind fun r366 => (loopN (B0_366 s v.2 x2 x3 x4 x6 v.1 r366) qN ((0 : Int32), (0 : Int64), (0 : Int32))).bind fun e373 => (F8 v.2 (0 : Int32) (0 : Int32) (4 : Int32) (0 : Int32)).bind fun r381 => (if r381.1 = (0 : Int32) then some (.inl ((0 : Int32), (H0 s r381.2))) else (F24 r381.2 v.1).bind fun r387 => (F25 r381.2 v.1).bind fun r394 => (if r387 = e373.1 then (if r394 = e373.2 then (F7 r381.2 v.1 (3 : Int32)).bind fun r397 => (if x4 = (0 : Int32) then (J0_490 s r381.2 x2 x3 x4 x6 v.1 r387 r394) else (if (r397 &&& (1 : Int32)) = (0 : Int32) then (J0_490 s r381.2 x2 x3 x4 x6 v.1 r387 r394) else (J0_617 s r381.2 x2 x3 x4 x6 v.1))) else some (.inl ((0 : Int32), (H0 s r381.2)))) else some (.inl ((0 : Int32), (H0 s r381.2))))) else some (.inl ((1 : Int32), (H0 s v.2))))
theorem tB0_341 (Ad : QAd n0 ad) (W : QW Z a0) (s : List Int32) (x2 : Int32) (x3 : Int32) (x4 : Int32) (x6 : Int32) (v : Int32 × Ob) {r : ((Int32 × QHeap)) ⊕ (Int32 × Ob)} {u : Option Value} {τ : QHeap} (h : B0_341 s x2 x3 x4 x6 v = some r) (hx0 : ∀ x : Int32 × QHeap, r = .inl x → u = (some (Value.int x.1)) ∧ τ = x.2) (hc : ∀ x : Int32 × Ob, r = .inr x → QTri l Z n0 ad 0 (341, [none, vR 1, vI x2, vI x3, vI x4, none, vI x6, vI x.1, none, none, none, none, none, none, none, none, none, none, none, none, none, none, none, none], [], (H0 s x.2)) u τ) : QTri l Z n0 ad 0 (341, [none, vR 1, vI x2, vI x3, vI x4, none, vI x6, vI v.1, none, none, none, none, none, none, none, none, none, none, none, none, none, none, none, none], [], (H0 s v.2)) u τ := by
 unfold B0_341 at h
 refine zS Ad W 2 (st' := (345, [none, vR 1, vI x2, vI x3, vI x4, none, vI x6, vI v.1, none, none, none, none, none, none, none, none, none, none, none, none, none, none, none, none], [.int x6, .int v.1], (H0 s v.2))) rfl ?_
 rcases qite h with ⟨hc355, h⟩ | ⟨hc355, h⟩
 ·refine zF Ad W (t := 623) (f := 348) rfl (XT.ii_ge_f hc355) ?_
  refine zS Ad W 3 (st' := (352, [none, vR 1, vI x2, vI x3, vI x4, none, vI x6, vI v.1, none, none, none, none, none, none, none, none, none, none, none, none, none, none, none, none], [.int (0:Int32), .int v.1, .ref 1], (H0 s v.2))) rfl ?_
  obtain ⟨r366, hr366, h⟩ := bind_eq_some_iff.mp h
  refine QTri.callV W (a := 1) (as := [.int v.1, .int (0:Int32)]) (rest := []) (w := (some (.int r366))) (σ₁ := (H0 s v.2)) rfl rfl rfl rfl rfl rfl rfl rfl (tF7 Ad W s v.2 v.1 (0:Int32) hr366) ?_
  refine zS Ad W 3 (st' := (360, [none, vR 1, vI x2, vI x3, vI x4, none, vI x6, vI v.1, vI r366, vI (0:Int32), none, none, none, none, none, none, none, none, none, none, none, none, none, none], [], (H0 s v.2))) rfl ?_
  refine zS Ad W 4 (st' := (366, [none, vR 1, vI x2, vI x3, vI x4, none, vI x6, vI v.1, vI r366, vI (0:Int32), vL (0 : Int64), none, vI (0:Int32), none, none, none, none, none, none, none, none, none, none, none], [], (H0 s v.2))) rfl ?_
  obtain ⟨e373, he373, h⟩ := bind_eq_some_iff.mp h
  refine zM [ff,tt,tt,tt,tt,ff,tt,tt,tt,tt,tt,ff,tt,ff,ff,ff,ff,ff,ff,ff,ff,ff,ff,ff] (loopN_tri (B := B0_366 s v.2 x2 x3 x4 x6 v.1 r366) (T := fun lv374 => QTri l Z n0 ad 0 (366, [none, vR 1, vI x2, vI x3, vI x4, none, vI x6, vI v.1, vI r366, vI lv374.1, vL lv374.2.1, none, vI lv374.2.2, none, none, none, none, none, none, none, none, none, none, none], [], (H0 s v.2)) u τ) (KE := fun e373a => QTri l Z n0 ad 0 (423, [none, vR 1, vI x2, vI x3, vI x4, none, vI x6, vI v.1, none, vI e373a.1, vL e373a.2, none, none, none, none, none, none, none, none, none, none, none, none, none], [], (H0 s v.2)) u τ) (fun lv374 r hB hE hC => tB0_366 Ad W s v.2 x2 x3 x4 x6 v.1 r366 lv374 hB (fun x q => hE _ q) (fun x q => hC x q)) qN ((0:Int32), (0 : Int64), (0:Int32)) e373 he373 ?_)
  refine zS Ad W 5 (st' := (428, [none, vR 1, vI x2, vI x3, vI x4, none, vI x6, vI v.1, none, vI e373.1, vL e373.2, none, none, none, none, none, none, none, none, none, none, none, none, none], [.int (0:Int32), .int (4:Int32), .int (0:Int32), .int (0:Int32), .ref 1], (H0 s v.2))) rfl ?_
  obtain ⟨r381, hr381, h⟩ := bind_eq_some_iff.mp h
  refine QTri.callS W (as := [.ref 1, .int (0:Int32), .int (0:Int32), .int (4:Int32), .int (0:Int32)]) (rest := []) (w := (some (.int r381.1))) (σ₁ := (H0 s r381.2)) rfl rfl rfl rfl rfl rfl rfl (tF8 Ad W s v.2 (0:Int32) (0:Int32) (4:Int32) (0:Int32) hr381) ?_
  rcases qite h with ⟨hc382, h⟩ | ⟨hc382, h⟩
  ·refine zF Ad W (t := 436) (f := 434) rfl (XT.i0_ne_f hc382) ?_
   refine zS Ad W 1 (st' := (435, [none, vR 1, vI x2, vI x3, vI x4, none, vI x6, vI v.1, none, vI e373.1, vL e373.2, none, none, none, none, none, none, none, none, none, none, none, none, none], [.int (0:Int32)], (H0 s r381.2))) rfl ?_
   obtain rfl := Option.some.inj h
   obtain ⟨rfl, rfl⟩ := hx0 ((0:Int32), (H0 s r381.2)) rfl
   exact QTri.retZ rfl rfl
  ·refine zT Ad W (t := 436) (f := 434) rfl (XT.i0_ne_t hc382) ?_
   refine zS Ad W 2 (st' := (439, [none, vR 1, vI x2, vI x3, vI x4, none, vI x6, vI v.1, none, vI e373.1, vL e373.2, none, none, none, none, none, none, none, none, none, none, none, none, none], [.int v.1, .ref 1], (H0 s r381.2))) rfl ?_
   obtain ⟨r387, hr387, h⟩ := bind_eq_some_iff.mp h
   refine QTri.callV W (a := 1) (as := [.int v.1]) (rest := []) (w := (some (.int r387))) (σ₁ := (H0 s r381.2)) rfl rfl rfl rfl rfl rfl rfl rfl (tF24 Ad W s r381.2 v.1 hr387) ?_
   refine zS Ad W 3 (st' := (447, [none, vR 1, vI x2, vI x3, vI x4, none, vI x6, vI v.1, none, vI e373.1, vL e373.2, none, vI r387, none, none, none, none, none, none, none, none, none, none, none], [.int v.1, .ref 1], (H0 s r381.2))) rfl ?_
   obtain ⟨r394, hr394, h⟩ := bind_eq_some_iff.mp h
   refine QTri.callV W (a := 1) (as := [.int v.1]) (rest := []) (w := (some (.long r394))) (σ₁ := (H0 s r381.2)) rfl rfl rfl rfl rfl rfl rfl rfl (tF25 Ad W s r381.2 v.1 hr394) ?_
   refine zS Ad W 3 (st' := (456, [none, vR 1, vI x2, vI x3, vI x4, none, vI x6, vI v.1, none, vI e373.1, vL e373.2, none, vI r387, vL r394, none, none, none, none, none, none, none, none, none, none], [.int e373.1, .int r387], (H0 s r381.2))) rfl ?_
   rcases qite h with ⟨hc395, h⟩ | ⟨hc395, h⟩
   ·refine zF Ad W (t := 467) (f := 459) rfl (XT.ii_ne_f hc395) ?_
    refine zS Ad W 3 (st' := (464, [none, vR 1, vI x2, vI x3, vI x4, none, vI x6, vI v.1, none, vI e373.1, vL e373.2, none, vI r387, vL r394, none, none, none, none, none, none, none, none, none, none], [.int (XT.cmpL r394 e373.2)], (H0 s r381.2))) rfl ?_
    rcases qite h with ⟨hc396, h⟩ | ⟨hc396, h⟩
    ·refine zT Ad W (t := 469) (f := 467) rfl (XT.ll_eq_t hc396) ?_
     refine zS Ad W 3 (st' := (473, [none, vR 1, vI x2, vI x3, vI x4, none, vI x6, vI v.1, none, vI e373.1, vL e373.2, none, vI r387, vL r394, none, none, none, none, none, none, none, none, none, none], [.int (3:Int32), .int v.1, .ref 1], (H0 s r381.2))) rfl ?_
     obtain ⟨r397, hr397, h⟩ := bind_eq_some_iff.mp h
     refine QTri.callV W (a := 1) (as := [.int v.1, .int (3:Int32)]) (rest := []) (w := (some (.int r397))) (σ₁ := (H0 s r381.2)) rfl rfl rfl rfl rfl rfl rfl rfl (tF7 Ad W s r381.2 v.1 (3:Int32) hr397) ?_
     refine zS Ad W 2 (st' := (480, [none, vR 1, vI x2, vI x3, vI x4, none, vI x6, vI v.1, none, vI e373.1, vL e373.2, none, vI r387, vL r394, none, vI r397, none, none, none, none, none, none, none, none], [.int x4], (H0 s r381.2))) rfl ?_
     rcases qite h with ⟨hc398, h⟩ | ⟨hc398, h⟩
     ·refine zT Ad W (t := 490) (f := 483) rfl (XT.i0_eq_t hc398) ?_
      exact zM [ff,tt,tt,tt,tt,ff,tt,tt,ff,ff,ff,ff,tt,tt,ff,ff,ff,ff,ff,ff,ff,ff,ff,ff] (tJ0_490 Ad W s r381.2 x2 x3 x4 x6 v.1 r387 r394 h hx0 hc)
     ·refine zF Ad W (t := 490) (f := 483) rfl (XT.i0_eq_f hc398) ?_
      refine zS Ad W 3 (st' := (487, [none, vR 1, vI x2, vI x3, vI x4, none, vI x6, vI v.1, none, vI e373.1, vL e373.2, none, vI r387, vL r394, none, vI r397, none, none, none, none, none, none, none, none], [.int (r397 &&& (1:Int32))], (H0 s r381.2))) rfl ?_
      rcases qite h with ⟨hc413, h⟩ | ⟨hc413, h⟩
      ·refine zF Ad W (t := 617) (f := 490) rfl (XT.i0_ne_f hc413) ?_
       exact zM [ff,tt,tt,tt,tt,ff,tt,tt,ff,ff,ff,ff,tt,tt,ff,ff,ff,ff,ff,ff,ff,ff,ff,ff] (tJ0_490 Ad W s r381.2 x2 x3 x4 x6 v.1 r387 r394 h hx0 hc)
      ·refine zT Ad W (t := 617) (f := 490) rfl (XT.i0_ne_t hc413) ?_
       exact zM [ff,tt,tt,tt,tt,ff,tt,tt,ff,ff,ff,ff,ff,ff,ff,ff,ff,ff,ff,ff,ff,ff,ff,ff] (tJ0_617 Ad W s r381.2 x2 x3 x4 x6 v.1 h hx0 hc)
    ·refine zF Ad W (t := 469) (f := 467) rfl (XT.ll_eq_f hc396) ?_
     refine zS Ad W 1 (st' := (468, [none, vR 1, vI x2, vI x3, vI x4, none, vI x6, vI v.1, none, vI e373.1, vL e373.2, none, vI r387, vL r394, none, none, none, none, none, none, none, none, none, none], [.int (0:Int32)], (H0 s r381.2))) rfl ?_
     obtain rfl := Option.some.inj h
     obtain ⟨rfl, rfl⟩ := hx0 ((0:Int32), (H0 s r381.2)) rfl
     exact QTri.retZ rfl rfl
   ·refine zT Ad W (t := 467) (f := 459) rfl (XT.ii_ne_t hc395) ?_
    refine zS Ad W 1 (st' := (468, [none, vR 1, vI x2, vI x3, vI x4, none, vI x6, vI v.1, none, vI e373.1, vL e373.2, none, vI r387, vL r394, none, none, none, none, none, none, none, none, none, none], [.int (0:Int32)], (H0 s r381.2))) rfl ?_
    obtain rfl := Option.some.inj h
    obtain ⟨rfl, rfl⟩ := hx0 ((0:Int32), (H0 s r381.2)) rfl
    exact QTri.retZ rfl rfl
 ·refine zT Ad W (t := 623) (f := 348) rfl (XT.ii_ge_t hc355) ?_
  refine zS Ad W 1 (st' := (624, [none, vR 1, vI x2, vI x3, vI x4, none, vI x6, vI v.1, none, none, none, none, none, none, none, none, none, none, none, none, none, none, none, none], [.int (1:Int32)], (H0 s v.2))) rfl ?_
  obtain rfl := Option.some.inj h
  obtain ⟨rfl, rfl⟩ := hx0 ((1:Int32), (H0 s v.2)) rfl
  exact QTri.retZ rfl rfl
def J0_332 (s : List Int32) (p0 : Ob) (x2 : Int32) (x3 : Int32) (x4 : Int32) : Option (Int32 × QHeap) :=
  (F6 p0).bind fun r354 => (loopN (B0_341 s x2 x3 x4 r354) qN ((0 : Int32), p0)).bind fun e414 => some e414
theorem tJ0_332 (Ad : QAd n0 ad) (W : QW Z a0) (s : List Int32) (p0 : Ob) (x2 : Int32) (x3 : Int32) (x4 : Int32) {r : Int32 × QHeap} (h : J0_332 s p0 x2 x3 x4 = some r) : QTri l Z n0 ad 0 (332, [none, vR 1, vI x2, vI x3, vI x4, none, none, none, none, none, none, none, none, none, none, none, none, none, none, none, none, none, none, none], [], (H0 s p0)) (some (Value.int r.1)) r.2 := by
 unfold J0_332 at h
 refine zS Ad W 1 (st' := (333, [none, vR 1, vI x2, vI x3, vI x4, none, none, none, none, none, none, none, none, none, none, none, none, none, none, none, none, none, none, none], [.ref 1], (H0 s p0))) rfl ?_
 obtain ⟨r354, hr354, h⟩ := bind_eq_some_iff.mp h
 refine QTri.callV W (a := 1) (as := []) (rest := []) (w := (some (.int r354))) (σ₁ := (H0 s p0)) rfl rfl rfl rfl rfl rfl rfl rfl (tF6 Ad W s p0 hr354) ?_
 refine zS Ad W 3 (st' := (341, [none, vR 1, vI x2, vI x3, vI x4, none, vI r354, vI (0:Int32), none, none, none, none, none, none, none, none, none, none, none, none, none, none, none, none], [], (H0 s p0))) rfl ?_
 obtain ⟨e414, he414, h⟩ := bind_eq_some_iff.mp h
 refine zM [ff,tt,tt,tt,tt,ff,tt,tt,ff,ff,ff,ff,ff,ff,ff,ff,ff,ff,ff,ff,ff,ff,ff,ff] (loopN_tri (B := B0_341 s x2 x3 x4 r354) (T := fun lv415 => QTri l Z n0 ad 0 (341, [none, vR 1, vI x2, vI x3, vI x4, none, vI r354, vI lv415.1, none, none, none, none, none, none, none, none, none, none, none, none, none, none, none, none], [], (H0 s lv415.2)) (some (Value.int r.1)) r.2) (KE := fun e414a => (some (Value.int r.1)) = (some (Value.int e414a.1)) ∧ r.2 = e414a.2) (fun lv415 r hB hE hC => tB0_341 Ad W s x2 x3 x4 r354 lv415 hB (fun x q => hE _ q) (fun x q => hC x q)) qN ((0:Int32), p0) e414 he414 ?_)
 obtain rfl := Option.some.inj h
 exact ⟨rfl, rfl⟩
def J0_33 (s : List Int32) (p0 : Ob) (x2 : Int32) (x3 : Int32) : Option (Int32 × QHeap) :=
  (loopN (B0_36 s x2 x3) qN ((1 : Int32), p0)).bind fun e334 => (F4 e334 (0 : Int32) (0 : Int32)).bind fun r336 => (if r336.1 = (0 : Int32) then some ((0 : Int32), (H0 s r336.2)) else (F5 r336.2 (2 : Int32)).bind fun r348 => (F5 r336.2 (0 : Int32)).bind fun r349 => (if r348 = (1 : Int32) then (if r349 = (0 : Int32) then (F28 r336.2 (0 : Int32)).bind fun r352 => (if r352.1 = (0 : Int32) then some ((0 : Int32), (H0 s r352.2)) else (J0_332 s r352.2 x2 x3 (0 : Int32))) else (J0_332 s r336.2 x2 x3 r348)) else (J0_332 s r336.2 x2 x3 r348)))
theorem tJ0_33 (Ad : QAd n0 ad) (W : QW Z a0) (s : List Int32) (p0 : Ob) (x2 : Int32) (x3 : Int32) {r : Int32 × QHeap} (h : J0_33 s p0 x2 x3 = some r) : QTri l Z n0 ad 0 (33, [vR 0, vR 1, vI x2, vI x3, none, none, none, none, none, none, none, none, none, none, none, none, none, none, none, none, none, none, none, none], [], (H0 s p0)) (some (Value.int r.1)) r.2 := by
 unfold J0_33 at h
 refine zS Ad W 2 (st' := (36, [vR 0, vR 1, vI x2, vI x3, vI (1:Int32), none, none, none, none, none, none, none, none, none, none, none, none, none, none, none, none, none, none, none], [], (H0 s p0))) rfl ?_
 obtain ⟨e334, he334, h⟩ := bind_eq_some_iff.mp h
 refine zM [tt,tt,tt,tt,tt,ff,ff,ff,ff,ff,ff,ff,ff,ff,ff,ff,ff,ff,ff,ff,ff,ff,ff,ff] (loopN_tri (B := B0_36 s x2 x3) (T := fun lv335 => QTri l Z n0 ad 0 (36, [vR 0, vR 1, vI x2, vI x3, vI lv335.1, none, none, none, none, none, none, none, none, none, none, none, none, none, none, none, none, none, none, none], [], (H0 s lv335.2)) (some (Value.int r.1)) r.2) (KE := fun e334a => QTri l Z n0 ad 0 (283, [none, vR 1, vI x2, vI x3, none, none, none, none, none, none, none, none, none, none, none, none, none, none, none, none, none, none, none, none], [], (H0 s e334a)) (some (Value.int r.1)) r.2) (fun lv335 r hB hE hC => tB0_36 Ad W s x2 x3 lv335 hB (fun x q => hE _ q) (fun x q => hC x q)) qN ((1:Int32), p0) e334 he334 ?_)
 refine zS Ad W 3 (st' := (286, [none, vR 1, vI x2, vI x3, none, none, none, none, none, none, none, none, none, none, none, none, none, none, none, none, none, none, none, none], [.int (0:Int32), .int (0:Int32), .ref 1], (H0 s e334))) rfl ?_
 obtain ⟨r336, hr336, h⟩ := bind_eq_some_iff.mp h
 refine QTri.callV W (a := 1) (as := [.int (0:Int32), .int (0:Int32)]) (rest := []) (w := (some (.int r336.1))) (σ₁ := (H0 s r336.2)) rfl rfl rfl rfl rfl rfl rfl rfl (tF4 Ad W s e334 (0:Int32) (0:Int32) hr336) ?_
 rcases qite h with ⟨hc337, h⟩ | ⟨hc337, h⟩
 ·refine zF Ad W (t := 294) (f := 292) rfl (XT.i0_ne_f hc337) ?_
  refine zS Ad W 1 (st' := (293, [none, vR 1, vI x2, vI x3, none, none, none, none, none, none, none, none, none, none, none, none, none, none, none, none, none, none, none, none], [.int (0:Int32)], (H0 s r336.2))) rfl ?_
  obtain rfl := Option.some.inj h
  exact QTri.retZ rfl rfl
 ·refine zT Ad W (t := 294) (f := 292) rfl (XT.i0_ne_t hc337) ?_
  refine zS Ad W 2 (st' := (296, [none, vR 1, vI x2, vI x3, none, none, none, none, none, none, none, none, none, none, none, none, none, none, none, none, none, none, none, none], [.int (2:Int32), .ref 1], (H0 s r336.2))) rfl ?_
  obtain ⟨r348, hr348, h⟩ := bind_eq_some_iff.mp h
  refine QTri.callV W (a := 1) (as := [.int (2:Int32)]) (rest := []) (w := (some (.int r348))) (σ₁ := (H0 s r336.2)) rfl rfl rfl rfl rfl rfl rfl rfl (tF5 Ad W s r336.2 (2:Int32) hr348) ?_
  refine zS Ad W 3 (st' := (303, [none, vR 1, vI x2, vI x3, vI r348, none, none, none, none, none, none, none, none, none, none, none, none, none, none, none, none, none, none, none], [.int (0:Int32), .ref 1], (H0 s r336.2))) rfl ?_
  obtain ⟨r349, hr349, h⟩ := bind_eq_some_iff.mp h
  refine QTri.callV W (a := 1) (as := [.int (0:Int32)]) (rest := []) (w := (some (.int r349))) (σ₁ := (H0 s r336.2)) rfl rfl rfl rfl rfl rfl rfl rfl (tF5 Ad W s r336.2 (0:Int32) hr349) ?_
  refine zS Ad W 3 (st' := (311, [none, vR 1, vI x2, vI x3, vI r348, vI r349, none, none, none, none, none, none, none, none, none, none, none, none, none, none, none, none, none, none], [.int (1:Int32), .int r348], (H0 s r336.2))) rfl ?_
  rcases qite h with ⟨hc350, h⟩ | ⟨hc350, h⟩
  ·refine zF Ad W (t := 332) (f := 314) rfl (XT.ii_ne_f hc350) ?_
   refine zS Ad W 1 (st' := (316, [none, vR 1, vI x2, vI x3, vI r348, vI r349, none, none, none, none, none, none, none, none, none, none, none, none, none, none, none, none, none, none], [.int r349], (H0 s r336.2))) rfl ?_
   rcases qite h with ⟨hc351, h⟩ | ⟨hc351, h⟩
   ·refine zF Ad W (t := 332) (f := 319) rfl (XT.i0_ne_f hc351) ?_
    refine zS Ad W 2 (st' := (321, [none, vR 1, vI x2, vI x3, vI r348, vI r349, none, none, none, none, none, none, none, none, none, none, none, none, none, none, none, none, none, none], [.int (0:Int32), .ref 1], (H0 s r336.2))) rfl ?_
    obtain ⟨r352, hr352, h⟩ := bind_eq_some_iff.mp h
    refine QTri.callV W (a := 1) (as := [.int (0:Int32)]) (rest := []) (w := (some (.int r352.1))) (σ₁ := (H0 s r352.2)) rfl rfl rfl rfl rfl rfl rfl rfl (tF28 Ad W s r336.2 (0:Int32) hr352) ?_
    rcases qite h with ⟨hc353, h⟩ | ⟨hc353, h⟩
    ·refine zF Ad W (t := 329) (f := 327) rfl (XT.i0_ne_f hc353) ?_
     refine zS Ad W 1 (st' := (328, [none, vR 1, vI x2, vI x3, vI r348, vI r349, none, none, none, none, none, none, none, none, none, none, none, none, none, none, none, none, none, none], [.int (0:Int32)], (H0 s r352.2))) rfl ?_
     obtain rfl := Option.some.inj h
     exact QTri.retZ rfl rfl
    ·refine zT Ad W (t := 329) (f := 327) rfl (XT.i0_ne_t hc353) ?_
     refine zS Ad W 2 (st' := (332, [none, vR 1, vI x2, vI x3, vI (0:Int32), vI r349, none, none, none, none, none, none, none, none, none, none, none, none, none, none, none, none, none, none], [], (H0 s r352.2))) rfl ?_
     exact zM [ff,tt,tt,tt,tt,ff,ff,ff,ff,ff,ff,ff,ff,ff,ff,ff,ff,ff,ff,ff,ff,ff,ff,ff] (tJ0_332 Ad W s r352.2 x2 x3 (0:Int32) h)
   ·refine zT Ad W (t := 332) (f := 319) rfl (XT.i0_ne_t hc351) ?_
    exact zM [ff,tt,tt,tt,tt,ff,ff,ff,ff,ff,ff,ff,ff,ff,ff,ff,ff,ff,ff,ff,ff,ff,ff,ff] (tJ0_332 Ad W s r336.2 x2 x3 r348 h)
  ·refine zT Ad W (t := 332) (f := 314) rfl (XT.ii_ne_t hc350) ?_
   exact zM [ff,tt,tt,tt,tt,ff,ff,ff,ff,ff,ff,ff,ff,ff,ff,ff,ff,ff,ff,ff,ff,ff,ff,ff] (tJ0_332 Ad W s r336.2 x2 x3 r348 h)
/-- the law -/
def F0 (s : List Int32) : Option (Int32 × QHeap) :=
 (F1 (16:Int32)).bind fun r11 => (if (0:Int32) < (s.length.toInt32) then (aget s (0:Int32)).bind fun y13 => (aget s (0:Int32)).bind fun y14 => (J0_33 s r11 (y13 &&& (3:Int32)) ((y14 >>> ((2:Int32) &&& 31)) &&& (1:Int32))) else (J0_33 s r11 (0:Int32) (0:Int32)))
theorem tF0 (Ad : QAd n0 ad) (W : QW Z a0) (s : List Int32) {r : Int32 × QHeap} (h : F0 s = some r) : QTri l Z n0 ad 0 (0, qentry [.ref 0] (pMaxL 0), [], [.inr (.inl (.int, s))]) (some (Value.int r.1)) r.2 := by
 unfold F0 at h
 refine zS Ad W 1 (st' := (3, [vR 0, none, none, none, none, none, none, none, none, none, none, none, none, none, none, none, none, none, none, none, none, none, none, none], [.ref 1], [.inr (.inl (.int, s)), .inl [.null, .null, .null, .null, .null, .null, .null, .null, .int (f_cap ob0), .int (f_rows ob0), .int (f_direction ob0), .int (f_nulls ob0), .int (f_mode ob0), .int (f_startKind ob0), .int (f_startOff ob0), .int (f_endKind ob0), .int (f_endOff ob0), .int (f_fn ob0), .int (f_fnArg ob0), .int (f_computed ob0), .int (f_sortedLen ob0), .int (f_curPos ob0), .long (f_aggSum ob0), .int (f_aggCount ob0), .int (f_aggRows ob0), .int (f_aggMin ob0), .int (f_aggMax ob0)]])) rfl ?_
 refine zS Ad W 2 (st' := (6, [vR 0, none, none, none, none, none, none, none, none, none, none, none, none, none, none, none, none, none, none, none, none, none, none, none], [.int (16:Int32), .ref 1, .ref 1], [.inr (.inl (.int, s)), .inl [.null, .null, .null, .null, .null, .null, .null, .null, .int (f_cap ob0), .int (f_rows ob0), .int (f_direction ob0), .int (f_nulls ob0), .int (f_mode ob0), .int (f_startKind ob0), .int (f_startOff ob0), .int (f_endKind ob0), .int (f_endOff ob0), .int (f_fn ob0), .int (f_fnArg ob0), .int (f_computed ob0), .int (f_sortedLen ob0), .int (f_curPos ob0), .long (f_aggSum ob0), .int (f_aggCount ob0), .int (f_aggRows ob0), .int (f_aggMin ob0), .int (f_aggMax ob0)]])) rfl ?_
 obtain ⟨r11, hr11, h⟩ := bind_eq_some_iff.mp h
 refine QTri.callI W (a := 1) (as := [.int (16:Int32)]) (rest := [.ref 1]) (σ₁ := (H0 s r11)) rfl rfl rfl rfl rfl rfl (tF1 Ad W s (16:Int32) hr11) ?_
 refine zS Ad W 3 (st' := (12, [vR 0, vR 1, vI (0:Int32), none, none, none, none, none, none, none, none, none, none, none, none, none, none, none, none, none, none, none, none, none], [], (H0 s r11))) rfl ?_
 refine zS Ad W 4 (st' := (16, [vR 0, vR 1, vI (0:Int32), vI (0:Int32), none, none, none, none, none, none, none, none, none, none, none, none, none, none, none, none, none, none, none, none], [.int (s.length.toInt32)], (H0 s r11))) rfl ?_
 rcases qite h with ⟨hc12, h⟩ | ⟨hc12, h⟩
 ·refine zF Ad W (t := 33) (f := 19) rfl (XT.i0_le_f hc12) ?_
  refine zS Ad W 2 (st' := (21, [vR 0, vR 1, vI (0:Int32), vI (0:Int32), none, none, none, none, none, none, none, none, none, none, none, none, none, none, none, none, none, none, none, none], [.int (0:Int32), .ref 0], (H0 s r11))) rfl ?_
  obtain ⟨y13, hy13, h⟩ := bind_eq_some_iff.mp h
  refine zB Ad W (f := fun y13 => (22, [vR 0, vR 1, vI (0:Int32), vI (0:Int32), none, none, none, none, none, none, none, none, none, none, none, none, none, none, none, none, none, none, none, none], [.int y13], (H0 s r11))) rfl hy13 ?_
  refine zS Ad W 5 (st' := (27, [vR 0, vR 1, vI (y13 &&& (3:Int32)), vI (0:Int32), none, none, none, none, none, none, none, none, none, none, none, none, none, none, none, none, none, none, none, none], [.int (0:Int32), .ref 0], (H0 s r11))) rfl ?_
  obtain ⟨y14, hy14, h⟩ := bind_eq_some_iff.mp h
  refine zB Ad W (f := fun y14 => (28, [vR 0, vR 1, vI (y13 &&& (3:Int32)), vI (0:Int32), none, none, none, none, none, none, none, none, none, none, none, none, none, none, none, none, none, none, none, none], [.int y14], (H0 s r11))) rfl hy14 ?_
  refine zS Ad W 5 (st' := (33, [vR 0, vR 1, vI (y13 &&& (3:Int32)), vI ((y14 >>> ((2:Int32) &&& 31)) &&& (1:Int32)), none, none, none, none, none, none, none, none, none, none, none, none, none, none, none, none, none, none, none, none], [], (H0 s r11))) rfl ?_
  exact zM [tt,tt,tt,tt,ff,ff,ff,ff,ff,ff,ff,ff,ff,ff,ff,ff,ff,ff,ff,ff,ff,ff,ff,ff] (tJ0_33 Ad W s r11 (y13 &&& (3:Int32)) ((y14 >>> ((2:Int32) &&& 31)) &&& (1:Int32)) h)
 ·refine zT Ad W (t := 33) (f := 19) rfl (XT.i0_le_t hc12) ?_
  exact zM [tt,tt,tt,tt,ff,ff,ff,ff,ff,ff,ff,ff,ff,ff,ff,ff,ff,ff,ff,ff,ff,ff,ff,ff] (tJ0_33 Ad W s r11 (0:Int32) (0:Int32) h)
end Walks
theorem script_ok {s : State} {w : Value} (hfit : Fit s) (h1 : (Jvm.Cond.arrayOf (Jvm.Term.arg 0) Jvm.ClassFile.FieldType.int).value #[w] s none s [] = some true) (h2 : (Jvm.Cond.le (Jvm.Term.length (Jvm.Term.arg 0)) (Jvm.Term.int 260)).value #[w] s none s [] = some true) :
    ∃ (a : Addr) (c : Cell) (xs : List Int32), w = .ref a ∧ Arr s s.heap a c .int ∧ c.slots = (xs.map Value.int).toArray ∧ xs.length ≤ 260 := by
  obtain ⟨a, ha⟩ := arr_v h1
  obtain ⟨c, A⟩ := Arr.start ha h1
  have hw : w = .ref a := by simpa [Term.eval] using ha
  subst hw
  have hel : ∀ i, i < c.slots.size → ∃ x, c.slots[i]? = some (.int x) := fun i hi => by
    have q := hfit A.1 hi
    obtain ⟨hs, k, hk, comp, hkind⟩ := A.2.1
    have e : s.slotType? c.cls c.vm i = some .int := by
      cases hq : c.vm <;> first | exact absurd hq (hs _) | simp [State.slotType?, hk, hkind]
    have q2 : fits .int c.slots[i] = true := by simpa [State.fitsSlot, e] using q
    obtain ⟨x, hx⟩ := fit_I q2 (Or.inl rfl)
    exact ⟨x, by rw [Array.getElem?_eq_getElem hi, hx]⟩
  refine ⟨a, c, c.slots.toList.map (fun v => match v with | .int x => x | _ => 0), rfl, A, ?_, ?_⟩
  · apply Array.ext'
    rw [List.map_map]
    have : c.slots.toList.map (Value.int ∘ fun v => match v with | .int x => x | _ => 0) = c.slots.toList := by
      conv => rhs; rw [← List.map_id c.slots.toList]
      refine List.map_congr_left fun v hv => ?_
      obtain ⟨i, hi⟩ := List.mem_iff_getElem?.mp hv
      rw [Array.getElem?_toList] at hi
      obtain ⟨x, hx⟩ := hel i (Array.getElem?_eq_some_iff.mp hi).1
      rw [hi] at hx
      cases hx
      rfl
    exact this.symm
  · have hl := A.fin (Vm.Alike.refl _)
    simp only [List.length_map, Array.length_toList]
    simp only [Cond.value, Term.eval] at h2
    simp [hl] at h2
    by_cases hs : c.slots.size < 2147483648
    · rw [if_pos hs] at h2
      have h3 : c.slots.size.toInt32 ≤ 260 := by simpa using h2
      rw [Int32.le_iff_toInt_le] at h3
      have h4 : (c.slots.size.toInt32).toInt = c.slots.size := Int32.toInt_ofNat_of_lt (by omega)
      rw [h4] at h3
      have h5 : (260 : Int32).toInt = 260 := rfl
      rw [h5] at h3
      omega
    · rw [if_neg hs] at h2
      simp at h2
set_option maxHeartbeats 4000000
theorem i_lt {x y : Int32} : x < y ↔ x.toInt < y.toInt := Int32.lt_iff_toInt_lt
theorem i_eq {x y : Int32} : x = y ↔ x.toInt = y.toInt := Int32.toInt_inj.symm
theorem i_lo (x : Int32) : -2147483648 ≤ x.toInt := Int32.le_toInt x
theorem i_hi (x : Int32) : x.toInt < 2147483648 := Int32.toInt_lt x
theorem i_add {x y : Int32} (h1 : -2147483648 ≤ x.toInt + y.toInt) (h2 : x.toInt + y.toInt < 2147483648) : (x + y).toInt = x.toInt + y.toInt := XT.add32 ⟨h1, by omega⟩
theorem i_sub {x y : Int32} (h1 : -2147483648 ≤ x.toInt - y.toInt) (h2 : x.toInt - y.toInt < 2147483648) : (x - y).toInt = x.toInt - y.toInt := XT.sub32 ⟨h1, by omega⟩
theorem i_mul {x y : Int32} (h1 : -2147483648 ≤ x.toInt * y.toInt) (h2 : x.toInt * y.toInt < 2147483648) : (x * y).toInt = x.toInt * y.toInt := XT.mul32 ⟨h1, by omega⟩
theorem i_nat (x : Int32) : x.toNatClampNeg = x.toInt.toNat := rfl
theorem aget_at {α : Type} {xs : List α} {j : Int32} {n : Nat} (hj : j.toInt = n) (hn : n < xs.length) : aget xs j = some xs[n] := by
 have h0 : ¬ j < 0 := by rw [i_lt]; show ¬ j.toInt < 0; omega
 unfold aget
 rw [if_neg h0, i_nat, hj]
 simp [hn]
theorem aget_rep {α : Type} {m : Nat} {a : α} {j : Int32} (h0 : 0 ≤ j.toInt) (h1 : j.toInt < m) : aget (List.replicate m a) j = some a := by
 rw [aget_at (n := j.toInt.toNat) (by omega) (by rw [List.length_replicate]; omega)]
 simp
theorem aset_at {α : Type} {xs : List α} {j : Int32} {n : Nat} {v : α} (hj : j.toInt = n) (hn : n < xs.length) : aset xs j v = some (xs.set n v) := by
 have h0 : ¬ j < 0 := by rw [i_lt]; show ¬ j.toInt < 0; omega
 unfold aset
 have e : j.toNatClampNeg = n := by rw [i_nat, hj]; simp
 rw [if_neg h0, e, if_pos hn]
theorem rep_set {α : Type} (m k : Nat) (a : α) : (List.replicate m a).set k a = List.replicate m a := by
 apply List.ext_getElem (by simp)
 intro i h1 h2
 rw [List.getElem_set]
 split <;> simp
theorem small_cases {x : Int32} (h0 : 0 ≤ x.toInt) {n : Nat} (h1 : x.toInt < n) {P : Int32 → Prop} (h : ∀ m : Nat, m < n → P (Int32.ofInt m)) : P x := by
 have e : Int32.ofInt (x.toInt.toNat : Nat) = x := by
  rw [Int.toNat_of_nonneg h0, Int32.ofInt_toInt]
 rw [← e]
 exact h _ (by omega)
theorem bit_ne {x : Int32} (h0 : 0 ≤ x.toInt) (h1 : x.toInt < 32) : ¬ (((1 : Int32) <<< (x &&& 31)) &&& ((1 : Int32) <<< (x &&& 31))) = 0 :=
 small_cases (P := fun x => ¬ (((1 : Int32) <<< (x &&& 31)) &&& ((1 : Int32) <<< (x &&& 31))) = 0) h0 (n := 32) h1 (by decide)
def okP {α : Type} (m : Option α) (P : α → Prop) : Prop := ∃ a, m = some a ∧ P a
theorem okP.some {α : Type} {a : α} {P : α → Prop} (h : P a) : okP (some a) P := ⟨a, rfl, h⟩
theorem okP.bind {α β : Type} {m : Option α} {f : α → Option β} {P : β → Prop} (h : okP m fun a => okP (f a) P) : okP (m.bind f) P := by
 obtain ⟨a, e, b, e2, h2⟩ := h
 exact ⟨b, by rw [e]; exact e2, h2⟩
theorem okP.ite {α : Type} {c : Prop} [Decidable c] {a b : Option α} {P : α → Prop} (h1 : c → okP a P) (h2 : ¬ c → okP b P) : okP (if c then a else b) P := by
 by_cases h : c
 ·rw [if_pos h]; exact h1 h
 ·rw [if_neg h]; exact h2 h
theorem okP.mono {α : Type} {m : Option α} {P Q : α → Prop} (h : okP m P) (k : ∀ a, P a → Q a) : okP m Q := by
 obtain ⟨a, e, h⟩ := h
 exact ⟨a, e, k a h⟩
theorem okP.of {α : Type} {m : Option α} {a : α} {P : α → Prop} (e : m = Option.some a) (h : P a) : okP m P := ⟨a, e, h⟩
theorem okP.aget {α : Type} {xs : List α} {j : Int32} {P : α → Prop} (h0 : 0 ≤ j.toInt) (h1 : j.toInt < xs.length) (k : ∀ v, xs[j.toInt.toNat]? = Option.some v → P v) : okP (aget xs j) P :=
 ⟨_, aget_at (n := j.toInt.toNat) (by omega) (by omega), k _ (List.getElem?_eq_getElem _)⟩
theorem okP.aset {α : Type} {xs : List α} {j : Int32} {v : α} {P : List α → Prop} (h0 : 0 ≤ j.toInt) (h1 : j.toInt < xs.length) (k : P (xs.set j.toInt.toNat v)) : okP (aset xs j v) P :=
 ⟨_, aset_at (n := j.toInt.toNat) (by omega) (by omega), k⟩
theorem okP.loop {V E : Type} {B : V → Option (E ⊕ V)} {P : E → Prop} {n : Nat} {v : V} (I : V → Prop) (μ : V → Nat) (hv : I v) (hm : μ v < n) (hB : ∀ v, I v → okP (B v) (fun r => Sum.elim P (fun v' => I v' ∧ μ v' < μ v) r)) : okP (loopN B n v) P := by
 refine loopN_inv I P μ ?_ n v hv hm
 intro v hv
 obtain ⟨r, e, h⟩ := hB v hv
 cases r with
 | inl x => exact Or.inl ⟨x, e, h⟩
 | inr x => exact Or.inr ⟨x, e, h⟩
theorem len_i {n : Nat} (h : n ≤ 1000) : (n.toInt32).toInt = n := by
 have e : n.toInt32 = Int32.ofInt n := rfl
 rw [e, Int32.toInt_ofInt_of_le (by show _ ≤ (n : Int); omega) (by show (n : Int) < _; omega)]
theorem and1 (x : Int32) : x &&& 1 = 0 ∨ x &&& 1 = 1 := by
 have e : (x &&& 1).toBitVec = x.toBitVec &&& 1#32 := rfl
 have h := BitVec.and_one_eq_setWidth_ofBool_getLsbD (x := x.toBitVec)
 cases g : x.toBitVec.getLsbD 0
 ·left; apply Int32.toBitVec_inj.1; rw [e, h, g]; rfl
 ·right; apply Int32.toBitVec_inj.1; rw [e, h, g]; rfl
theorem okP.not {α : Type} {m : Option α} {a : α} {P : α → Prop} (h : okP m P) (e : m = Option.some a) : P a := by
 obtain ⟨b, e2, h⟩ := h
 rw [e] at e2
 exact (Option.some.inj e2) ▸ h
theorem and_rng {x m : Int32} (hm : 0 ≤ m.toInt) : 0 ≤ (x &&& m).toInt ∧ (x &&& m).toInt ≤ m.toInt := by
 have e : (x &&& m).toBitVec.toNat = x.toBitVec.toNat &&& m.toBitVec.toNat := BitVec.toNat_and ..
 have l : (x &&& m).toBitVec.toNat ≤ m.toBitVec.toNat := by rw [e]; exact Nat.and_le_right
 have c1 : m.toInt = if 2 * m.toBitVec.toNat < 2 ^ 32 then (m.toBitVec.toNat : Int) else m.toBitVec.toNat - (2 ^ 32 : Nat) := BitVec.toInt_eq_toNat_cond m.toBitVec
 have c2 : (x &&& m).toInt = if 2 * (x &&& m).toBitVec.toNat < 2 ^ 32 then ((x &&& m).toBitVec.toNat : Int) else (x &&& m).toBitVec.toNat - (2 ^ 32 : Nat) := BitVec.toInt_eq_toNat_cond (x &&& m).toBitVec
 have b : m.toBitVec.toNat < 2 ^ 32 := m.toBitVec.isLt
 by_cases h : 2 * m.toBitVec.toNat < 2 ^ 32
 ·rw [if_pos h] at c1
  rw [if_pos (by omega)] at c2
  omega
 ·rw [if_neg h] at c1
  omega
theorem mod_rng {x m : Int32} (hx : 0 ≤ x.toInt) (hm : 0 < m.toInt) : 0 ≤ (x % m).toInt ∧ (x % m).toInt < m.toInt := by
 rw [Int32.toInt_mod, Int.tmod_eq_emod_of_nonneg hx]
 exact ⟨Int.emod_nonneg _ (by omega), Int.emod_lt_of_pos _ hm⟩
def sFit (s : List Int32) (τ : QHeap) : Prop := τ.length - List.length ([Sum.inr (Sum.inl (FieldType.int, s))] : QHeap) ≤ room_1.cells ∧ qhs τ - qhs [Sum.inr (Sum.inl (FieldType.int, s))] ≤ room_1.slots
def Sh (c : List Int32 × List Int32 × List Int32 × List Int32 × Int32 × Int32 × Int32 × Int32 × Int32 × Int32 × Int32 × Int32 × Int32 × Int32 × Int32) (d : List Int64 × List Int32 × List Int32) (e : List Int32 × Int32 × Int32) (o : Ob) : Prop := (f_part o, f_keys o, f_vals o, f_flg o, f_rows o, f_cap o, f_direction o, f_nulls o, f_mode o, f_startKind o, f_startOff o, f_endKind o, f_endOff o, f_fn o, f_fnArg o) = c ∧ (f_res o, f_resNull o, f_frameCnt o) = d ∧ (f_sorted o, f_sortedLen o, f_curPos o) = e
theorem Sh_computed {c : List Int32 × List Int32 × List Int32 × List Int32 × Int32 × Int32 × Int32 × Int32 × Int32 × Int32 × Int32 × Int32 × Int32 × Int32 × Int32} {d : List Int64 × List Int32 × List Int32} {e : List Int32 × Int32 × Int32} {o : Ob} {x : Int32} (h : Sh c d e o) : Sh c d e (s_computed o x) := by
 dsimp only [Sh, f_part, f_keys, f_vals, f_flg, f_res, f_resNull, f_frameCnt, f_sorted, f_cap, f_rows, f_direction, f_nulls, f_mode, f_startKind, f_startOff, f_endKind, f_endOff, f_fn, f_fnArg, f_sortedLen, f_curPos, s_computed] at h ⊢
 exact h
theorem Sh_aggSum {c : List Int32 × List Int32 × List Int32 × List Int32 × Int32 × Int32 × Int32 × Int32 × Int32 × Int32 × Int32 × Int32 × Int32 × Int32 × Int32} {d : List Int64 × List Int32 × List Int32} {e : List Int32 × Int32 × Int32} {o : Ob} {x : Int64} (h : Sh c d e o) : Sh c d e (s_aggSum o x) := by
 dsimp only [Sh, f_part, f_keys, f_vals, f_flg, f_res, f_resNull, f_frameCnt, f_sorted, f_cap, f_rows, f_direction, f_nulls, f_mode, f_startKind, f_startOff, f_endKind, f_endOff, f_fn, f_fnArg, f_sortedLen, f_curPos, s_aggSum] at h ⊢
 exact h
theorem Sh_aggCount {c : List Int32 × List Int32 × List Int32 × List Int32 × Int32 × Int32 × Int32 × Int32 × Int32 × Int32 × Int32 × Int32 × Int32 × Int32 × Int32} {d : List Int64 × List Int32 × List Int32} {e : List Int32 × Int32 × Int32} {o : Ob} {x : Int32} (h : Sh c d e o) : Sh c d e (s_aggCount o x) := by
 dsimp only [Sh, f_part, f_keys, f_vals, f_flg, f_res, f_resNull, f_frameCnt, f_sorted, f_cap, f_rows, f_direction, f_nulls, f_mode, f_startKind, f_startOff, f_endKind, f_endOff, f_fn, f_fnArg, f_sortedLen, f_curPos, s_aggCount] at h ⊢
 exact h
theorem Sh_aggRows {c : List Int32 × List Int32 × List Int32 × List Int32 × Int32 × Int32 × Int32 × Int32 × Int32 × Int32 × Int32 × Int32 × Int32 × Int32 × Int32} {d : List Int64 × List Int32 × List Int32} {e : List Int32 × Int32 × Int32} {o : Ob} {x : Int32} (h : Sh c d e o) : Sh c d e (s_aggRows o x) := by
 dsimp only [Sh, f_part, f_keys, f_vals, f_flg, f_res, f_resNull, f_frameCnt, f_sorted, f_cap, f_rows, f_direction, f_nulls, f_mode, f_startKind, f_startOff, f_endKind, f_endOff, f_fn, f_fnArg, f_sortedLen, f_curPos, s_aggRows] at h ⊢
 exact h
theorem Sh_aggMin {c : List Int32 × List Int32 × List Int32 × List Int32 × Int32 × Int32 × Int32 × Int32 × Int32 × Int32 × Int32 × Int32 × Int32 × Int32 × Int32} {d : List Int64 × List Int32 × List Int32} {e : List Int32 × Int32 × Int32} {o : Ob} {x : Int32} (h : Sh c d e o) : Sh c d e (s_aggMin o x) := by
 dsimp only [Sh, f_part, f_keys, f_vals, f_flg, f_res, f_resNull, f_frameCnt, f_sorted, f_cap, f_rows, f_direction, f_nulls, f_mode, f_startKind, f_startOff, f_endKind, f_endOff, f_fn, f_fnArg, f_sortedLen, f_curPos, s_aggMin] at h ⊢
 exact h
theorem Sh_aggMax {c : List Int32 × List Int32 × List Int32 × List Int32 × Int32 × Int32 × Int32 × Int32 × Int32 × Int32 × Int32 × Int32 × Int32 × Int32 × Int32} {d : List Int64 × List Int32 × List Int32} {e : List Int32 × Int32 × Int32} {o : Ob} {x : Int32} (h : Sh c d e o) : Sh c d e (s_aggMax o x) := by
 dsimp only [Sh, f_part, f_keys, f_vals, f_flg, f_res, f_resNull, f_frameCnt, f_sorted, f_cap, f_rows, f_direction, f_nulls, f_mode, f_startKind, f_startOff, f_endKind, f_endOff, f_fn, f_fnArg, f_sortedLen, f_curPos, s_aggMax] at h ⊢
 exact h
abbrev CC := List Int32 × List Int32 × List Int32 × List Int32 × Int32 × Int32 × Int32 × Int32 × Int32 × Int32 × Int32 × Int32 × Int32 × Int32 × Int32
abbrev DD := List Int64 × List Int32 × List Int32
abbrev EE := List Int32 × Int32 × Int32
theorem gs_aggSum (o : Ob) (v : Int64) : f_part (s_aggSum o v) = f_part o ∧ f_keys (s_aggSum o v) = f_keys o ∧ f_vals (s_aggSum o v) = f_vals o ∧ f_flg (s_aggSum o v) = f_flg o ∧ f_res (s_aggSum o v) = f_res o ∧ f_resNull (s_aggSum o v) = f_resNull o ∧ f_frameCnt (s_aggSum o v) = f_frameCnt o ∧ f_sorted (s_aggSum o v) = f_sorted o ∧ f_cap (s_aggSum o v) = f_cap o ∧ f_rows (s_aggSum o v) = f_rows o ∧ f_direction (s_aggSum o v) = f_direction o ∧ f_nulls (s_aggSum o v) = f_nulls o ∧ f_mode (s_aggSum o v) = f_mode o ∧ f_startKind (s_aggSum o v) = f_startKind o ∧ f_startOff (s_aggSum o v) = f_startOff o ∧ f_endKind (s_aggSum o v) = f_endKind o ∧ f_endOff (s_aggSum o v) = f_endOff o ∧ f_fn (s_aggSum o v) = f_fn o ∧ f_fnArg (s_aggSum o v) = f_fnArg o ∧ f_computed (s_aggSum o v) = f_computed o ∧ f_sortedLen (s_aggSum o v) = f_sortedLen o ∧ f_curPos (s_aggSum o v) = f_curPos o ∧ f_aggSum (s_aggSum o v) = v ∧ f_aggCount (s_aggSum o v) = f_aggCount o ∧ f_aggRows (s_aggSum o v) = f_aggRows o ∧ f_aggMin (s_aggSum o v) = f_aggMin o ∧ f_aggMax (s_aggSum o v) = f_aggMax o := by
 simp only [f_part, f_keys, f_vals, f_flg, f_res, f_resNull, f_frameCnt, f_sorted, f_cap, f_rows, f_direction, f_nulls, f_mode, f_startKind, f_startOff, f_endKind, f_endOff, f_fn, f_fnArg, f_computed, f_sortedLen, f_curPos, f_aggSum, f_aggCount, f_aggRows, f_aggMin, f_aggMax, s_aggSum, and_self]
theorem gs_aggCount (o : Ob) (v : Int32) : f_part (s_aggCount o v) = f_part o ∧ f_keys (s_aggCount o v) = f_keys o ∧ f_vals (s_aggCount o v) = f_vals o ∧ f_flg (s_aggCount o v) = f_flg o ∧ f_res (s_aggCount o v) = f_res o ∧ f_resNull (s_aggCount o v) = f_resNull o ∧ f_frameCnt (s_aggCount o v) = f_frameCnt o ∧ f_sorted (s_aggCount o v) = f_sorted o ∧ f_cap (s_aggCount o v) = f_cap o ∧ f_rows (s_aggCount o v) = f_rows o ∧ f_direction (s_aggCount o v) = f_direction o ∧ f_nulls (s_aggCount o v) = f_nulls o ∧ f_mode (s_aggCount o v) = f_mode o ∧ f_startKind (s_aggCount o v) = f_startKind o ∧ f_startOff (s_aggCount o v) = f_startOff o ∧ f_endKind (s_aggCount o v) = f_endKind o ∧ f_endOff (s_aggCount o v) = f_endOff o ∧ f_fn (s_aggCount o v) = f_fn o ∧ f_fnArg (s_aggCount o v) = f_fnArg o ∧ f_computed (s_aggCount o v) = f_computed o ∧ f_sortedLen (s_aggCount o v) = f_sortedLen o ∧ f_curPos (s_aggCount o v) = f_curPos o ∧ f_aggSum (s_aggCount o v) = f_aggSum o ∧ f_aggCount (s_aggCount o v) = v ∧ f_aggRows (s_aggCount o v) = f_aggRows o ∧ f_aggMin (s_aggCount o v) = f_aggMin o ∧ f_aggMax (s_aggCount o v) = f_aggMax o := by
 simp only [f_part, f_keys, f_vals, f_flg, f_res, f_resNull, f_frameCnt, f_sorted, f_cap, f_rows, f_direction, f_nulls, f_mode, f_startKind, f_startOff, f_endKind, f_endOff, f_fn, f_fnArg, f_computed, f_sortedLen, f_curPos, f_aggSum, f_aggCount, f_aggRows, f_aggMin, f_aggMax, s_aggCount, and_self]
theorem gs_aggRows (o : Ob) (v : Int32) : f_part (s_aggRows o v) = f_part o ∧ f_keys (s_aggRows o v) = f_keys o ∧ f_vals (s_aggRows o v) = f_vals o ∧ f_flg (s_aggRows o v) = f_flg o ∧ f_res (s_aggRows o v) = f_res o ∧ f_resNull (s_aggRows o v) = f_resNull o ∧ f_frameCnt (s_aggRows o v) = f_frameCnt o ∧ f_sorted (s_aggRows o v) = f_sorted o ∧ f_cap (s_aggRows o v) = f_cap o ∧ f_rows (s_aggRows o v) = f_rows o ∧ f_direction (s_aggRows o v) = f_direction o ∧ f_nulls (s_aggRows o v) = f_nulls o ∧ f_mode (s_aggRows o v) = f_mode o ∧ f_startKind (s_aggRows o v) = f_startKind o ∧ f_startOff (s_aggRows o v) = f_startOff o ∧ f_endKind (s_aggRows o v) = f_endKind o ∧ f_endOff (s_aggRows o v) = f_endOff o ∧ f_fn (s_aggRows o v) = f_fn o ∧ f_fnArg (s_aggRows o v) = f_fnArg o ∧ f_computed (s_aggRows o v) = f_computed o ∧ f_sortedLen (s_aggRows o v) = f_sortedLen o ∧ f_curPos (s_aggRows o v) = f_curPos o ∧ f_aggSum (s_aggRows o v) = f_aggSum o ∧ f_aggCount (s_aggRows o v) = f_aggCount o ∧ f_aggRows (s_aggRows o v) = v ∧ f_aggMin (s_aggRows o v) = f_aggMin o ∧ f_aggMax (s_aggRows o v) = f_aggMax o := by
 simp only [f_part, f_keys, f_vals, f_flg, f_res, f_resNull, f_frameCnt, f_sorted, f_cap, f_rows, f_direction, f_nulls, f_mode, f_startKind, f_startOff, f_endKind, f_endOff, f_fn, f_fnArg, f_computed, f_sortedLen, f_curPos, f_aggSum, f_aggCount, f_aggRows, f_aggMin, f_aggMax, s_aggRows, and_self]
theorem gs_aggMin (o : Ob) (v : Int32) : f_part (s_aggMin o v) = f_part o ∧ f_keys (s_aggMin o v) = f_keys o ∧ f_vals (s_aggMin o v) = f_vals o ∧ f_flg (s_aggMin o v) = f_flg o ∧ f_res (s_aggMin o v) = f_res o ∧ f_resNull (s_aggMin o v) = f_resNull o ∧ f_frameCnt (s_aggMin o v) = f_frameCnt o ∧ f_sorted (s_aggMin o v) = f_sorted o ∧ f_cap (s_aggMin o v) = f_cap o ∧ f_rows (s_aggMin o v) = f_rows o ∧ f_direction (s_aggMin o v) = f_direction o ∧ f_nulls (s_aggMin o v) = f_nulls o ∧ f_mode (s_aggMin o v) = f_mode o ∧ f_startKind (s_aggMin o v) = f_startKind o ∧ f_startOff (s_aggMin o v) = f_startOff o ∧ f_endKind (s_aggMin o v) = f_endKind o ∧ f_endOff (s_aggMin o v) = f_endOff o ∧ f_fn (s_aggMin o v) = f_fn o ∧ f_fnArg (s_aggMin o v) = f_fnArg o ∧ f_computed (s_aggMin o v) = f_computed o ∧ f_sortedLen (s_aggMin o v) = f_sortedLen o ∧ f_curPos (s_aggMin o v) = f_curPos o ∧ f_aggSum (s_aggMin o v) = f_aggSum o ∧ f_aggCount (s_aggMin o v) = f_aggCount o ∧ f_aggRows (s_aggMin o v) = f_aggRows o ∧ f_aggMin (s_aggMin o v) = v ∧ f_aggMax (s_aggMin o v) = f_aggMax o := by
 simp only [f_part, f_keys, f_vals, f_flg, f_res, f_resNull, f_frameCnt, f_sorted, f_cap, f_rows, f_direction, f_nulls, f_mode, f_startKind, f_startOff, f_endKind, f_endOff, f_fn, f_fnArg, f_computed, f_sortedLen, f_curPos, f_aggSum, f_aggCount, f_aggRows, f_aggMin, f_aggMax, s_aggMin, and_self]
theorem gs_aggMax (o : Ob) (v : Int32) : f_part (s_aggMax o v) = f_part o ∧ f_keys (s_aggMax o v) = f_keys o ∧ f_vals (s_aggMax o v) = f_vals o ∧ f_flg (s_aggMax o v) = f_flg o ∧ f_res (s_aggMax o v) = f_res o ∧ f_resNull (s_aggMax o v) = f_resNull o ∧ f_frameCnt (s_aggMax o v) = f_frameCnt o ∧ f_sorted (s_aggMax o v) = f_sorted o ∧ f_cap (s_aggMax o v) = f_cap o ∧ f_rows (s_aggMax o v) = f_rows o ∧ f_direction (s_aggMax o v) = f_direction o ∧ f_nulls (s_aggMax o v) = f_nulls o ∧ f_mode (s_aggMax o v) = f_mode o ∧ f_startKind (s_aggMax o v) = f_startKind o ∧ f_startOff (s_aggMax o v) = f_startOff o ∧ f_endKind (s_aggMax o v) = f_endKind o ∧ f_endOff (s_aggMax o v) = f_endOff o ∧ f_fn (s_aggMax o v) = f_fn o ∧ f_fnArg (s_aggMax o v) = f_fnArg o ∧ f_computed (s_aggMax o v) = f_computed o ∧ f_sortedLen (s_aggMax o v) = f_sortedLen o ∧ f_curPos (s_aggMax o v) = f_curPos o ∧ f_aggSum (s_aggMax o v) = f_aggSum o ∧ f_aggCount (s_aggMax o v) = f_aggCount o ∧ f_aggRows (s_aggMax o v) = f_aggRows o ∧ f_aggMin (s_aggMax o v) = f_aggMin o ∧ f_aggMax (s_aggMax o v) = v := by
 simp only [f_part, f_keys, f_vals, f_flg, f_res, f_resNull, f_frameCnt, f_sorted, f_cap, f_rows, f_direction, f_nulls, f_mode, f_startKind, f_startOff, f_endKind, f_endOff, f_fn, f_fnArg, f_computed, f_sortedLen, f_curPos, f_aggSum, f_aggCount, f_aggRows, f_aggMin, f_aggMax, s_aggMax, and_self]
theorem inc1 {x : Int32} (h : x.toInt < 2147483647) : (x + 1).toInt = x.toInt + 1 := by
 have := i_lo x
 have e1 : (1 : Int32).toInt = 1 := rfl
 rw [i_add (by omega) (by omega), e1]
theorem j_add {x y : Int64} (h1 : -9223372036854775808 ≤ x.toInt + y.toInt) (h2 : x.toInt + y.toInt < 9223372036854775808) : (x + y).toInt = x.toInt + y.toInt := by
 rw [Int64.toInt_add, Int.bmod_eq_of_le (by omega) (by omega)]
theorem j_sub {x y : Int64} (h1 : -9223372036854775808 ≤ x.toInt - y.toInt) (h2 : x.toInt - y.toInt < 9223372036854775808) : (x - y).toInt = x.toInt - y.toInt := by
 rw [Int64.toInt_sub, Int.bmod_eq_of_le (by omega) (by omega)]
def gd (l : List Int32) (k : Nat) : Int := (l.getD k 0).toInt
theorem gd_set {l : List Int32} {i k : Nat} {v : Int32} (hi : i < l.length) : gd (l.set i v) k = if i = k then v.toInt else gd l k := by
 unfold gd
 rw [List.getD_eq_getElem?_getD, List.getD_eq_getElem?_getD, List.getElem?_set]
 by_cases h : i = k
 ·rw [if_pos h, if_pos h, if_pos hi]; rfl
 ·rw [if_neg h, if_neg h]
theorem okP_agd {l : List Int32} {j : Int32} {P : Int32 → Prop} (h0 : 0 ≤ j.toInt) (h1 : j.toInt < l.length) (k : ∀ w : Int32, w.toInt = gd l j.toInt.toNat → P w) : okP (aget l j) P := by
 refine okP.aget h0 h1 (fun w hw => k w ?_)
 unfold gd
 rw [List.getD_eq_getElem?_getD, hw]; rfl
def GC (c : CC) : Prop := c.1.length = 32 ∧ c.2.1.length = 32 ∧ c.2.2.1.length = 32 ∧ c.2.2.2.1.length = 32 ∧ 0 ≤ c.2.2.2.2.1.toInt ∧ c.2.2.2.2.1.toInt ≤ 32
def GD (d : DD) : Prop := d.1.length = 32 ∧ d.2.1.length = 32 ∧ d.2.2.length = 32
def GE (c : CC) (e : EE) : Prop := e.1.length = 32 ∧ 0 ≤ e.2.1.toInt ∧ e.2.1.toInt ≤ c.2.2.2.2.1.toInt ∧ 0 ≤ e.2.2.toInt ∧ e.2.2.toInt < c.2.2.2.2.1.toInt ∧ ∀ k, k < e.2.1.toInt.toNat → 0 ≤ gd e.1 k ∧ gd e.1 k < c.2.2.2.2.1.toInt
theorem g_part {c : CC} {d : DD} {e : EE} {o : Ob} (h : Sh c d e o) : f_part o = c.1 := congrArg (fun x : CC => x.1) h.1
theorem g_keys {c : CC} {d : DD} {e : EE} {o : Ob} (h : Sh c d e o) : f_keys o = c.2.1 := congrArg (fun x : CC => x.2.1) h.1
theorem g_vals {c : CC} {d : DD} {e : EE} {o : Ob} (h : Sh c d e o) : f_vals o = c.2.2.1 := congrArg (fun x : CC => x.2.2.1) h.1
theorem g_flg {c : CC} {d : DD} {e : EE} {o : Ob} (h : Sh c d e o) : f_flg o = c.2.2.2.1 := congrArg (fun x : CC => x.2.2.2.1) h.1
theorem g_rows {c : CC} {d : DD} {e : EE} {o : Ob} (h : Sh c d e o) : f_rows o = c.2.2.2.2.1 := congrArg (fun x : CC => x.2.2.2.2.1) h.1
theorem g_fn {c : CC} {d : DD} {e : EE} {o : Ob} (h : Sh c d e o) : f_fn o = c.2.2.2.2.2.2.2.2.2.2.2.2.2.1 := congrArg (fun x : CC => x.2.2.2.2.2.2.2.2.2.2.2.2.2.1) h.1
theorem g_res {c : CC} {d : DD} {e : EE} {o : Ob} (h : Sh c d e o) : f_res o = d.1 := congrArg (fun x : DD => x.1) h.2.1
theorem g_nul {c : CC} {d : DD} {e : EE} {o : Ob} (h : Sh c d e o) : f_resNull o = d.2.1 := congrArg (fun x : DD => x.2.1) h.2.1
theorem g_fc {c : CC} {d : DD} {e : EE} {o : Ob} (h : Sh c d e o) : f_frameCnt o = d.2.2 := congrArg (fun x : DD => x.2.2) h.2.1
theorem g_so {c : CC} {d : DD} {e : EE} {o : Ob} (h : Sh c d e o) : f_sorted o = e.1 := congrArg (fun x : EE => x.1) h.2.2
theorem g_sl {c : CC} {d : DD} {e : EE} {o : Ob} (h : Sh c d e o) : f_sortedLen o = e.2.1 := congrArg (fun x : EE => x.2.1) h.2.2
theorem g_cp {c : CC} {d : DD} {e : EE} {o : Ob} (h : Sh c d e o) : f_curPos o = e.2.2 := congrArg (fun x : EE => x.2.2) h.2.2
theorem w_so {c : CC} {d : DD} {e : EE} {o : Ob} (h : Sh c d e o) (x : List Int32) : Sh c d (x, e.2) (s_sorted o x) := by
 obtain ⟨a, b, r⟩ := h
 subst r
 dsimp only [Sh, f_part, f_keys, f_vals, f_flg, f_res, f_resNull, f_frameCnt, f_sorted, f_cap, f_rows, f_direction, f_nulls, f_mode, f_startKind, f_startOff, f_endKind, f_endOff, f_fn, f_fnArg, f_computed, f_sortedLen, f_curPos, f_aggSum, f_aggCount, f_aggRows, f_aggMin, f_aggMax, s_sorted] at a b ⊢
 exact ⟨a, b, rfl⟩
theorem w_sl {c : CC} {d : DD} {e : EE} {o : Ob} (h : Sh c d e o) (x : Int32) : Sh c d (e.1, x, e.2.2) (s_sortedLen o x) := by
 obtain ⟨a, b, r⟩ := h
 subst r
 dsimp only [Sh, f_part, f_keys, f_vals, f_flg, f_res, f_resNull, f_frameCnt, f_sorted, f_cap, f_rows, f_direction, f_nulls, f_mode, f_startKind, f_startOff, f_endKind, f_endOff, f_fn, f_fnArg, f_computed, f_sortedLen, f_curPos, f_aggSum, f_aggCount, f_aggRows, f_aggMin, f_aggMax, s_sortedLen] at a b ⊢
 exact ⟨a, b, rfl⟩
theorem w_cp {c : CC} {d : DD} {e : EE} {o : Ob} (h : Sh c d e o) (x : Int32) : Sh c d (e.1, e.2.1, x) (s_curPos o x) := by
 obtain ⟨a, b, r⟩ := h
 subst r
 dsimp only [Sh, f_part, f_keys, f_vals, f_flg, f_res, f_resNull, f_frameCnt, f_sorted, f_cap, f_rows, f_direction, f_nulls, f_mode, f_startKind, f_startOff, f_endKind, f_endOff, f_fn, f_fnArg, f_computed, f_sortedLen, f_curPos, f_aggSum, f_aggCount, f_aggRows, f_aggMin, f_aggMax, s_curPos] at a b ⊢
 exact ⟨a, b, rfl⟩
theorem w_fc {c : CC} {d : DD} {e : EE} {o : Ob} (h : Sh c d e o) (x : List Int32) : Sh c (d.1, d.2.1, x) e (s_frameCnt o x) := by
 obtain ⟨a, b, r⟩ := h
 subst b
 dsimp only [Sh, f_part, f_keys, f_vals, f_flg, f_res, f_resNull, f_frameCnt, f_sorted, f_cap, f_rows, f_direction, f_nulls, f_mode, f_startKind, f_startOff, f_endKind, f_endOff, f_fn, f_fnArg, f_computed, f_sortedLen, f_curPos, f_aggSum, f_aggCount, f_aggRows, f_aggMin, f_aggMax, s_frameCnt] at a r ⊢
 exact ⟨a, rfl, r⟩
theorem w_rn {c : CC} {d : DD} {e : EE} {o : Ob} (h : Sh c d e o) (x : List Int64) (y : List Int32) : Sh c (x, y, d.2.2) e (s_res (s_resNull o y) x) := by
 obtain ⟨a, b, r⟩ := h
 subst b
 dsimp only [Sh, f_part, f_keys, f_vals, f_flg, f_res, f_resNull, f_frameCnt, f_sorted, f_cap, f_rows, f_direction, f_nulls, f_mode, f_startKind, f_startOff, f_endKind, f_endOff, f_fn, f_fnArg, f_computed, f_sortedLen, f_curPos, f_aggSum, f_aggCount, f_aggRows, f_aggMin, f_aggMax, s_res, s_resNull] at a r ⊢
 exact ⟨a, rfl, r⟩
theorem knull {c : CC} {d : DD} {e : EE} {o : Ob} (h : Sh c d e o) (G : GC c) {x : Int32} (x0 : 0 ≤ x.toInt) (x1 : x.toInt < 32) : okP (F16 o x) (fun _ => True) := by
 unfold F16
 rw [g_flg h]
 apply okP.bind
 refine okP.aget x0 (by rw [G.2.2.2.1]; omega) (fun y _ => ?_)
 apply okP.ite <;> intro _ <;> exact okP.some trivial
theorem vnull {c : CC} {d : DD} {e : EE} {o : Ob} (h : Sh c d e o) (G : GC c) {x : Int32} (x0 : 0 ≤ x.toInt) (x1 : x.toInt < 32) : okP (F21 o x) (fun _ => True) := by
 unfold F21
 rw [g_flg h]
 apply okP.bind
 refine okP.aget x0 (by rw [G.2.2.2.1]; omega) (fun y _ => ?_)
 apply okP.ite <;> intro _ <;> exact okP.some trivial
theorem key_at {c : CC} {d : DD} {e : EE} {o : Ob} (h : Sh c d e o) (G : GC c) {x : Int32} (x0 : 0 ≤ x.toInt) (x1 : x.toInt < 32) {P : Int32 → Prop} (k : ∀ w, P w) : okP (aget (f_keys o) x) P := by
 rw [g_keys h]
 exact okP.aget x0 (by rw [G.2.1]; omega) (fun w _ => k w)
theorem before_ok {c : CC} {d : DD} {e : EE} {o : Ob} (h : Sh c d e o) (G : GC c) {x y : Int32} (x0 : 0 ≤ x.toInt) (x1 : x.toInt < 32) (y0 : 0 ≤ y.toInt) (y1 : y.toInt < 32) : okP (F15 o x y) (fun _ => True) := by
 unfold F15 J15_51
 apply okP.ite <;> intro _
 ·repeat' with_reducible (first | exact okP.some trivial | (apply okP.ite <;> intro _) | (apply okP.bind; refine key_at h G (by assumption) (by assumption) (fun _ => ?_)))
 apply okP.bind
 refine okP.mono (knull h G x0 x1) (fun _ _ => ?_)
 apply okP.bind
 refine okP.mono (knull h G y0 y1) (fun _ _ => ?_)
 repeat' with_reducible (first | exact okP.some trivial | (apply okP.ite <;> intro _) | (apply okP.bind; refine key_at h G (by assumption) (by assumption) (fun _ => ?_)))
theorem peer_ok {c : CC} {d : DD} {e : EE} {o : Ob} (h : Sh c d e o) (G : GC c) {x y : Int32} (x0 : 0 ≤ x.toInt) (x1 : x.toInt < 32) (y0 : 0 ≤ y.toInt) (y1 : y.toInt < 32) : okP (F26 o x y) (fun _ => True) := by
 unfold F26 J26_33
 apply okP.ite <;> intro _
 ·repeat' with_reducible (first | exact okP.some trivial | (apply okP.ite <;> intro _) | (apply okP.bind; refine key_at h G (by assumption) (by assumption) (fun _ => ?_)))
 apply okP.bind
 refine okP.mono (knull h G x0 x1) (fun _ _ => ?_)
 apply okP.bind
 refine okP.mono (knull h G y0 y1) (fun _ _ => ?_)
 repeat' with_reducible (first | exact okP.some trivial | (apply okP.ite <;> intro _) | (apply okP.bind; refine key_at h G (by assumption) (by assumption) (fun _ => ?_)))
theorem dist_ok {c : CC} {d : DD} {e : EE} {o : Ob} (h : Sh c d e o) (G : GC c) {x y : Int32} (x0 : 0 ≤ x.toInt) (x1 : x.toInt < 32) (y0 : 0 ≤ y.toInt) (y1 : y.toInt < 32) : okP (F27 o x y) (fun _ => True) := by
 unfold F27
 repeat' with_reducible (first | exact okP.some trivial | (apply okP.ite <;> intro _) | (apply okP.bind; refine key_at h G (by assumption) (by assumption) (fun _ => ?_)))
theorem rs_ok {c : CC} {d : DD} {e : EE} {o : Ob} (h : Sh c d e o) (G : GC c) {x y : Int32} (x0 : 0 ≤ x.toInt) (x1 : x.toInt < 32) (y0 : 0 ≤ y.toInt) (y1 : y.toInt < 32) (a b : Int32) : okP (F19 o x y a b) (fun _ => True) := by
 unfold F19
 apply okP.ite <;> intro _
 ·repeat' with_reducible (first | exact okP.some trivial | (apply okP.ite <;> intro _) | (apply okP.bind; refine key_at h G (by assumption) (by assumption) (fun _ => ?_)))
 apply okP.ite <;> intro _
 ·repeat' with_reducible (first | exact okP.some trivial | (apply okP.ite <;> intro _) | (apply okP.bind; refine key_at h G (by assumption) (by assumption) (fun _ => ?_)))
 apply okP.bind
 refine okP.mono (peer_ok h G x0 x1 y0 y1) (fun _ _ => ?_)
 apply okP.ite <;> intro _
 ·repeat' with_reducible (first | exact okP.some trivial | (apply okP.ite <;> intro _) | (apply okP.bind; refine key_at h G (by assumption) (by assumption) (fun _ => ?_)))
 apply okP.bind
 refine okP.mono (knull h G x0 x1) (fun _ _ => ?_)
 apply okP.ite <;> intro _
 ·apply okP.bind
  refine okP.mono (knull h G y0 y1) (fun _ _ => ?_)
  apply okP.ite <;> intro _
  ·apply okP.bind
   refine okP.mono (dist_ok h G x0 x1 y0 y1) (fun _ _ => ?_)
   repeat' with_reducible (first | exact okP.some trivial | (apply okP.ite <;> intro _) | (apply okP.bind; refine key_at h G (by assumption) (by assumption) (fun _ => ?_)))
  ·repeat' with_reducible (first | exact okP.some trivial | (apply okP.ite <;> intro _) | (apply okP.bind; refine key_at h G (by assumption) (by assumption) (fun _ => ?_)))
 ·repeat' with_reducible (first | exact okP.some trivial | (apply okP.ite <;> intro _) | (apply okP.bind; refine key_at h G (by assumption) (by assumption) (fun _ => ?_)))
theorem re_ok {c : CC} {d : DD} {e : EE} {o : Ob} (h : Sh c d e o) (G : GC c) {x y : Int32} (x0 : 0 ≤ x.toInt) (x1 : x.toInt < 32) (y0 : 0 ≤ y.toInt) (y1 : y.toInt < 32) (a b : Int32) : okP (F20 o x y a b) (fun _ => True) := by
 unfold F20
 apply okP.ite <;> intro _
 ·repeat' with_reducible (first | exact okP.some trivial | (apply okP.ite <;> intro _) | (apply okP.bind; refine key_at h G (by assumption) (by assumption) (fun _ => ?_)))
 apply okP.ite <;> intro _
 ·repeat' with_reducible (first | exact okP.some trivial | (apply okP.ite <;> intro _) | (apply okP.bind; refine key_at h G (by assumption) (by assumption) (fun _ => ?_)))
 apply okP.bind
 refine okP.mono (peer_ok h G x0 x1 y0 y1) (fun _ _ => ?_)
 apply okP.ite <;> intro _
 ·repeat' with_reducible (first | exact okP.some trivial | (apply okP.ite <;> intro _) | (apply okP.bind; refine key_at h G (by assumption) (by assumption) (fun _ => ?_)))
 apply okP.bind
 refine okP.mono (knull h G x0 x1) (fun _ _ => ?_)
 apply okP.ite <;> intro _
 ·apply okP.bind
  refine okP.mono (knull h G y0 y1) (fun _ _ => ?_)
  apply okP.ite <;> intro _
  ·apply okP.bind
   refine okP.mono (dist_ok h G x0 x1 y0 y1) (fun _ _ => ?_)
   repeat' with_reducible (first | exact okP.some trivial | (apply okP.ite <;> intro _) | (apply okP.bind; refine key_at h G (by assumption) (by assumption) (fun _ => ?_)))
  ·repeat' with_reducible (first | exact okP.some trivial | (apply okP.ite <;> intro _) | (apply okP.bind; refine key_at h G (by assumption) (by assumption) (fun _ => ?_)))
 ·repeat' with_reducible (first | exact okP.some trivial | (apply okP.ite <;> intro _) | (apply okP.bind; refine key_at h G (by assumption) (by assumption) (fun _ => ?_)))
theorem frame_ok {c : CC} {d : DD} {e : EE} {o : Ob} (h : Sh c d e o) (G : GC c) {x y : Int32} (x0 : 0 ≤ x.toInt) (x1 : x.toInt < 32) (y0 : 0 ≤ y.toInt) (y1 : y.toInt < 32) (a b : Int32) : okP (F18 o x y a b) (fun _ => True) := by
 unfold F18
 have p1 : okP (F31 o a b) (fun _ => True) := by unfold F31; repeat' with_reducible (first | exact okP.some trivial | (apply okP.ite <;> intro _) | (apply okP.bind; refine key_at h G (by assumption) (by assumption) (fun _ => ?_)))
 have p2 : okP (F32 o a b) (fun _ => True) := by unfold F32; repeat' with_reducible (first | exact okP.some trivial | (apply okP.ite <;> intro _) | (apply okP.bind; refine key_at h G (by assumption) (by assumption) (fun _ => ?_)))
 apply okP.ite <;> intro _
 ·apply okP.bind
  refine okP.mono p1 (fun _ _ => ?_)
  apply okP.ite <;> intro _
  ·repeat' with_reducible (first | exact okP.some trivial | (apply okP.ite <;> intro _) | (apply okP.bind; refine key_at h G (by assumption) (by assumption) (fun _ => ?_)))
  apply okP.bind
  refine okP.mono p2 (fun _ _ => ?_)
  repeat' with_reducible (first | exact okP.some trivial | (apply okP.ite <;> intro _) | (apply okP.bind; refine key_at h G (by assumption) (by assumption) (fun _ => ?_)))
 ·apply okP.bind
  refine okP.mono (rs_ok h G x0 x1 y0 y1 a b) (fun _ _ => ?_)
  apply okP.ite <;> intro _
  ·repeat' with_reducible (first | exact okP.some trivial | (apply okP.ite <;> intro _) | (apply okP.bind; refine key_at h G (by assumption) (by assumption) (fun _ => ?_)))
  apply okP.bind
  refine okP.mono (re_ok h G x0 x1 y0 y1 a b) (fun _ _ => ?_)
  repeat' with_reducible (first | exact okP.some trivial | (apply okP.ite <;> intro _) | (apply okP.bind; refine key_at h G (by assumption) (by assumption) (fun _ => ?_)))
theorem build_ok {c : CC} {d : DD} {e : EE} {o : Ob} (h : Sh c d e o) (G : GC c) (hs : e.1.length = 32) {x : Int32} (x0 : 0 ≤ x.toInt) (x1 : x.toInt < c.2.2.2.2.1.toInt) : okP (F14 o x) (fun p => ∃ e', GE c e' ∧ Sh c d e' p) := by
 obtain ⟨G1, G2, G3, G4, r0, r1⟩ := id G
 have z0 : (0 : Int32).toInt = 0 := rfl
 have zm : (-1 : Int32).toInt = -1 := rfl
 have z1 : (1 : Int32).toInt = 1 := rfl
 unfold F14
 rw [g_part h]
 apply okP.bind
 refine okP.aget x0 (by omega) (fun pp _ => ?_)
 apply okP.bind
 refine okP.loop (fun w => 0 ≤ w.2.1.toInt ∧ w.2.1.toInt ≤ c.2.2.2.2.1.toInt ∧ 0 ≤ w.1.toInt ∧ w.1.toInt ≤ w.2.1.toInt ∧ ∃ s : List Int32, s.length = 32 ∧ (∀ k, k < w.1.toInt.toNat → 0 ≤ gd s k ∧ gd s k < c.2.2.2.2.1.toInt) ∧ Sh c d (s, e.2) w.2.2) (fun w => (32 - w.2.1.toInt).toNat) ⟨by show (0 : Int) ≤ 0; decide, r0, by show (0 : Int) ≤ 0; decide, by show (0 : Int) ≤ 0; decide, e.1, hs, fun k hk => absurd hk (Nat.not_lt_zero _), h⟩ (by show (32 - (0 : Int)).toNat < 4000; decide) ?_
 rintro ⟨n, i, p⟩ ⟨a1, a2, a3, a4, s, l, hv, hp⟩
 simp only at a1 a2 a3 a4 hv hp
 unfold B14_12
 simp only
 rw [g_rows hp, g_part hp]
 apply okP.ite <;> intro cc
 ·rw [i_lt] at cc
  have e2 : (i + 1).toInt = i.toInt + 1 := inc1 (by omega)
  apply okP.bind
  refine okP.aget a1 (by omega) (fun y _ => ?_)
  apply okP.ite <;> intro _
  ·have inner : okP (loopN (B14_38 x n pp i) qN (n, p)) (fun a => 0 ≤ a.1.toInt ∧ a.1.toInt ≤ n.toInt ∧ ∃ s : List Int32, s.length = 32 ∧ (∀ k, k < n.toInt.toNat + 1 → k ≠ a.1.toInt.toNat → 0 ≤ gd s k ∧ gd s k < c.2.2.2.2.1.toInt) ∧ Sh c d (s, e.2) a.2) := by
    refine okP.loop (fun w => 0 ≤ w.1.toInt ∧ w.1.toInt ≤ n.toInt ∧ ∃ s : List Int32, s.length = 32 ∧ (∀ k, k < n.toInt.toNat + 1 → k ≠ w.1.toInt.toNat → 0 ≤ gd s k ∧ gd s k < c.2.2.2.2.1.toInt) ∧ Sh c d (s, e.2) w.2) (fun w => w.1.toInt.toNat) ⟨a3, Int.le_refl _, s, l, fun k hk hne => hv k (by simp only at hne; omega), hp⟩ (by show n.toInt.toNat < 4000; omega) ?_
    rintro ⟨j, p⟩ ⟨b1, b2, s, l, hv, hp⟩
    simp only at b1 b2 hv hp
    unfold B14_38
    simp only
    apply okP.ite <;> intro jc
    ·rw [i_lt, z0] at jc
     obtain ⟨jm', hjm⟩ : ∃ m, m = j + -1 := ⟨_, rfl⟩
     rw [← hjm]
     have jm : jm'.toInt = j.toInt - 1 := by rw [hjm, i_add (by omega) (by omega), zm]; omega
     have j1 : (j - 1).toInt = j.toInt - 1 := by rw [i_sub (by omega) (by omega), z1]
     have v1 := hv (j.toInt.toNat - 1) (by omega) (by omega)
     rw [show f_sorted p = s from g_so hp]
     apply okP.bind
     refine okP_agd (by omega) (by omega) (fun y hy => ?_)
     have ej : (j - 1).toInt.toNat = j.toInt.toNat - 1 := by omega
     rw [ej] at hy
     apply okP.bind
     refine okP.mono (before_ok hp G a1 (by omega) (by omega) (by omega)) (fun r _ => ?_)
     apply okP.ite <;> intro _
     ·apply okP.some
      exact ⟨b1, b2, s, l, hv, hp⟩
     apply okP.bind
     refine okP_agd (by omega) (by omega) (fun y' hy' => ?_)
     rw [ej] at hy'
     apply okP.bind
     refine okP.aset b1 (by omega) ?_
     apply okP.some
     refine ⟨⟨by simp only; omega, by simp only; omega, s.set j.toInt.toNat y', by rw [List.length_set]; exact l, ?_, w_so hp _⟩, by simp only; omega⟩
     intro k hk hne
     simp only at hne
     rw [gd_set (by omega)]
     by_cases ek : j.toInt.toNat = k
     ·rw [if_pos ek]; omega
     ·rw [if_neg ek]; exact hv k hk (fun q => ek q.symm)
    ·apply okP.some
     exact ⟨b1, b2, s, l, hv, hp⟩
   apply okP.bind
   refine okP.mono inner ?_
   rintro ⟨j, p⟩ ⟨b1, b2, s, l, hv, hp⟩
   simp only at b1 b2 hv hp
   unfold J14_83 J14_95
   simp only
   rw [g_so hp]
   apply okP.bind
   refine okP.aset b1 (by simp only; omega) ?_
   apply okP.some
   have n2 : (n + 1).toInt = n.toInt + 1 := inc1 (by omega)
   refine ⟨⟨by simp only; omega, by simp only; omega, by simp only; omega, by simp only; omega, s.set j.toInt.toNat i, by rw [List.length_set]; exact l, ?_, w_so hp _⟩, by simp only; omega⟩
   intro k hk
   simp only at hk
   rw [gd_set (by omega)]
   by_cases ek : j.toInt.toNat = k
   ·rw [if_pos ek]; omega
   ·rw [if_neg ek]; exact hv k (by omega) (fun q => ek q.symm)
  ·unfold J14_95
   apply okP.some
   exact ⟨⟨by simp only; omega, by simp only; omega, by simp only; omega, by simp only; omega, s, l, hv, hp⟩, by simp only; omega⟩
 ·rw [i_lt] at cc
  apply okP.some
  simp only [Sum.elim_inl]
  apply okP.bind
  have hp2 := w_cp (w_sl hp n) 0
  refine okP.loop (fun w => 0 ≤ w.1.toInt ∧ w.1.toInt ≤ 32 ∧ ∃ u : Int32, 0 ≤ u.toInt ∧ u.toInt < c.2.2.2.2.1.toInt ∧ Sh c d (s, n, u) w.2) (fun w => (32 - w.1.toInt).toNat) ⟨by show (0 : Int) ≤ 0; decide, by show (0 : Int) ≤ 32; decide, 0, by decide, by rw [z0]; omega, hp2⟩ (by show (32 - (0 : Int)).toNat < 4000; decide) ?_
  rintro ⟨w, p⟩ ⟨b1, b2, u, u0, u1, hp⟩
  simp only at b1 b2 hp
  unfold B14_114 J14_137
  simp only
  apply okP.ite <;> intro wc
  ·rw [i_lt] at wc
   have e2 : (w + 1).toInt = w.toInt + 1 := inc1 (by omega)
   rw [g_so hp]
   apply okP.bind
   refine okP.aget b1 (by simp only; omega) (fun y _ => ?_)
   apply okP.ite <;> intro _
   ·apply okP.some
    exact ⟨⟨by simp only; omega, by simp only; omega, w, b1, by omega, w_cp hp w⟩, by simp only; omega⟩
   ·apply okP.some
    exact ⟨⟨by simp only; omega, by simp only; omega, u, u0, u1, hp⟩, by simp only; omega⟩
  ·apply okP.some
   apply okP.some
   exact ⟨(s, n, u), ⟨l, a3, by simp only; omega, u0, u1, hv⟩, hp⟩
theorem agg_ok {c : CC} {d : DD} {e : EE} {o : Ob} (h : Sh c d e o) (G : GC c) (E : GE c e) {x : Int32} (x0 : 0 ≤ x.toInt) (x1 : x.toInt < c.2.2.2.2.1.toInt) : okP (F17 o x) (fun p => Sh c d e p ∧ 0 ≤ (f_aggCount p).toInt ∧ (f_aggCount p).toInt ≤ (f_aggRows p).toInt ∧ (f_aggRows p).toInt ≤ c.2.2.2.2.1.toInt) := by
 obtain ⟨E1, E2, E3, E4, E5, E6⟩ := E
 obtain ⟨G1, G2, G3, G4, r0, r1⟩ := id G
 unfold F17
 rw [g_sl h, g_cp h]
 apply okP.bind
 have h' : Sh c d e (s_aggMax (s_aggMin (s_aggRows (s_aggCount (s_aggSum o 0) 0) 0) 0) 0) := Sh_aggMax (Sh_aggMin (Sh_aggRows (Sh_aggCount (Sh_aggSum h))))
 refine okP.loop (fun w => 0 ≤ w.1.toInt ∧ w.1.toInt ≤ e.2.1.toInt ∧ Sh c d e w.2 ∧ 0 ≤ (f_aggCount w.2).toInt ∧ (f_aggCount w.2).toInt ≤ (f_aggRows w.2).toInt ∧ (f_aggRows w.2).toInt ≤ w.1.toInt) (fun w => (32 - w.1.toInt).toNat) ⟨by show (0 : Int) ≤ 0; decide, E2, h', by simp only [gs_aggRows, gs_aggCount, gs_aggSum, gs_aggMin, gs_aggMax]; decide, by simp only [gs_aggRows, gs_aggCount, gs_aggSum, gs_aggMin, gs_aggMax]; decide, by simp only [gs_aggRows, gs_aggCount, gs_aggSum, gs_aggMin, gs_aggMax]; decide⟩ (by show (32 - (0 : Int)).toNat < 4000; decide) ?_
 rintro ⟨w, p⟩ ⟨a1, a2, hp, a3, a4, a5⟩
 simp only at a1 a2 hp a3 a4 a5
 unfold B17_38
 simp only
 apply okP.ite <;> intro wc
 ·rw [i_lt] at wc
  have e2 : (w + 1).toInt = w.toInt + 1 := inc1 (by omega)
  rw [g_so hp]
  have v1 := E6 w.toInt.toNat (by omega)
  apply okP.bind
  refine okP_agd a1 (by omega) (fun y hy => ?_)
  apply okP.bind
  refine okP.mono (frame_ok hp G x0 (by omega) (by omega) (by omega) _ _) (fun r _ => ?_)
  apply okP.ite <;> intro _
  ·unfold J17_166
   apply okP.some
   exact ⟨⟨by simp only; omega, by simp only; omega, hp, a3, a4, by simp only; omega⟩, by simp only; omega⟩
  have rr : (f_aggRows p + 1).toInt = (f_aggRows p).toInt + 1 := inc1 (by omega)
  obtain ⟨q, hq⟩ : ∃ q, q = s_aggRows p (f_aggRows p + 1) := ⟨_, rfl⟩
  rw [← hq]
  have hqS : Sh c d e q := by rw [hq]; exact Sh_aggRows hp
  have q1 : (f_aggRows q).toInt = (f_aggRows p).toInt + 1 := by rw [hq]; simp only [gs_aggRows, gs_aggCount, gs_aggSum, gs_aggMin, gs_aggMax]; exact rr
  have q2 : f_aggCount q = f_aggCount p := by rw [hq]; simp only [gs_aggRows, gs_aggCount, gs_aggSum, gs_aggMin, gs_aggMax]
  apply okP.bind
  refine okP.mono (vnull hqS G (by omega) (by omega)) (fun r _ => ?_)
  have j166 : ∀ t : Ob, Sh c d e t → 0 ≤ (f_aggCount t).toInt → (f_aggCount t).toInt ≤ (f_aggRows t).toInt → (f_aggRows t).toInt ≤ (w + 1).toInt → okP (J17_166 t x e.2.1 e.2.2 w) (fun r => Sum.elim (fun a => okP (some a) fun p => Sh c d e p ∧ 0 ≤ (f_aggCount p).toInt ∧ (f_aggCount p).toInt ≤ (f_aggRows p).toInt ∧ (f_aggRows p).toInt ≤ c.2.2.2.2.1.toInt) (fun v' => (0 ≤ v'.1.toInt ∧ v'.1.toInt ≤ e.2.1.toInt ∧ Sh c d e v'.2 ∧ 0 ≤ (f_aggCount v'.2).toInt ∧ (f_aggCount v'.2).toInt ≤ (f_aggRows v'.2).toInt ∧ (f_aggRows v'.2).toInt ≤ v'.1.toInt) ∧ (32 - v'.1.toInt).toNat < (32 - w.toInt).toNat) r) := by
   intro t t1 t2 t3 t4
   unfold J17_166
   apply okP.some
   exact ⟨⟨by simp only; omega, by simp only; omega, t1, t2, t3, t4⟩, by simp only; omega⟩
  have j144 : ∀ (t : Ob) (z : Int32), Sh c d e t → f_aggCount t = f_aggCount p → (f_aggRows t).toInt = (f_aggRows p).toInt + 1 → okP (J17_144 t x e.2.1 e.2.2 w z) (fun r => Sum.elim (fun a => okP (some a) fun p => Sh c d e p ∧ 0 ≤ (f_aggCount p).toInt ∧ (f_aggCount p).toInt ≤ (f_aggRows p).toInt ∧ (f_aggRows p).toInt ≤ c.2.2.2.2.1.toInt) (fun v' => (0 ≤ v'.1.toInt ∧ v'.1.toInt ≤ e.2.1.toInt ∧ Sh c d e v'.2 ∧ 0 ≤ (f_aggCount v'.2).toInt ∧ (f_aggCount v'.2).toInt ≤ (f_aggRows v'.2).toInt ∧ (f_aggRows v'.2).toInt ≤ v'.1.toInt) ∧ (32 - v'.1.toInt).toNat < (32 - w.toInt).toNat) r) := by
   intro t z t1 t2 t3
   unfold J17_144
   rw [t2]
   have cc1 : (f_aggCount p + 1).toInt = (f_aggCount p).toInt + 1 := inc1 (by omega)
   obtain ⟨m, hm⟩ : ∃ m, m = f_aggCount p + 1 := ⟨_, rfl⟩
   rw [← hm] at cc1 ⊢
   refine j166 _ (Sh_aggSum (Sh_aggCount t1)) ?_ ?_ ?_
   ·simp only [gs_aggRows, gs_aggCount, gs_aggSum, gs_aggMin, gs_aggMax]; omega
   ·simp only [gs_aggRows, gs_aggCount, gs_aggSum, gs_aggMin, gs_aggMax]; omega
   ·simp only [gs_aggRows, gs_aggCount, gs_aggSum, gs_aggMin, gs_aggMax]; omega
  have j122 : ∀ (t : Ob) (z : Int32), Sh c d e t → f_aggCount t = f_aggCount p → (f_aggRows t).toInt = (f_aggRows p).toInt + 1 → okP (J17_122 t x e.2.1 e.2.2 w z) (fun r => Sum.elim (fun a => okP (some a) fun p => Sh c d e p ∧ 0 ≤ (f_aggCount p).toInt ∧ (f_aggCount p).toInt ≤ (f_aggRows p).toInt ∧ (f_aggRows p).toInt ≤ c.2.2.2.2.1.toInt) (fun v' => (0 ≤ v'.1.toInt ∧ v'.1.toInt ≤ e.2.1.toInt ∧ Sh c d e v'.2 ∧ 0 ≤ (f_aggCount v'.2).toInt ∧ (f_aggCount v'.2).toInt ≤ (f_aggRows v'.2).toInt ∧ (f_aggRows v'.2).toInt ≤ v'.1.toInt) ∧ (32 - v'.1.toInt).toNat < (32 - w.toInt).toNat) r) := by
   intro t z t1 t2 t3
   unfold J17_122 J17_138
   have k : ∀ y : Int32, f_aggCount (s_aggMax t y) = f_aggCount t ∧ f_aggRows (s_aggMax t y) = f_aggRows t := by intro y; simp only [gs_aggRows, gs_aggCount, gs_aggSum, gs_aggMin, gs_aggMax, and_self]
   apply okP.ite <;> intro _
   ·exact j144 _ z (Sh_aggMax t1) (by rw [(k z).1]; exact t2) (by rw [(k z).2]; exact t3)
   apply okP.ite <;> intro _
   ·exact j144 _ z (Sh_aggMax t1) (by rw [(k z).1]; exact t2) (by rw [(k z).2]; exact t3)
   ·exact j144 t z t1 t2 t3
  have j116 : ∀ (z : Int32), okP (J17_116 q x e.2.1 e.2.2 w z) (fun r => Sum.elim (fun a => okP (some a) fun p => Sh c d e p ∧ 0 ≤ (f_aggCount p).toInt ∧ (f_aggCount p).toInt ≤ (f_aggRows p).toInt ∧ (f_aggRows p).toInt ≤ c.2.2.2.2.1.toInt) (fun v' => (0 ≤ v'.1.toInt ∧ v'.1.toInt ≤ e.2.1.toInt ∧ Sh c d e v'.2 ∧ 0 ≤ (f_aggCount v'.2).toInt ∧ (f_aggCount v'.2).toInt ≤ (f_aggRows v'.2).toInt ∧ (f_aggRows v'.2).toInt ≤ v'.1.toInt) ∧ (32 - v'.1.toInt).toNat < (32 - w.toInt).toNat) r) := by
   intro z
   unfold J17_116
   have k : ∀ y : Int32, f_aggCount (s_aggMin q y) = f_aggCount q ∧ f_aggRows (s_aggMin q y) = f_aggRows q := by intro y; simp only [gs_aggRows, gs_aggCount, gs_aggSum, gs_aggMin, gs_aggMax, and_self]
   exact j122 _ z (Sh_aggMin hqS) (by rw [(k z).1]; exact q2) (by rw [(k z).2]; exact q1)
  apply okP.ite <;> intro _
  ·rw [g_vals hqS]
   apply okP.bind
   refine okP.aget (by omega) (by omega) (fun z _ => ?_)
   apply okP.ite <;> intro _
   ·exact j116 z
   apply okP.ite <;> intro _
   ·exact j116 z
   ·exact j122 q z hqS q2 q1
  ·exact j166 q hqS (by rw [q2]; exact a3) (by rw [q2]; omega) (by omega)
 ·apply okP.some
  apply okP.some
  exact ⟨hp, a3, a4, by omega⟩
theorem setRes_ok {c : CC} {d : DD} {e : EE} {o : Ob} (h : Sh c d e o) (D : GD d) {x : Int32} (x0 : 0 ≤ x.toInt) (x1 : x.toInt < 32) (v : Int64) (b : Int32) : okP (F23 o x v b) (fun p => Sh c (d.1.set x.toInt.toNat (if b = 0 then v else 0), d.2.1.set x.toInt.toNat (b &&& 1), d.2.2) e p) := by
 unfold F23
 rw [g_nul h, g_res h]
 apply okP.bind
 refine okP.aset x0 (by rw [D.2.1]; omega) ?_
 apply okP.bind
 refine okP.aset x0 (by rw [D.1]; omega) ?_
 apply okP.some
 exact w_rn h _ _
theorem rank_ok {c : CC} {d : DD} {e : EE} {o : Ob} (h : Sh c d e o) (G : GC c) (E : GE c e) {x : Int32} (x0 : 0 ≤ x.toInt) (x1 : x.toInt < c.2.2.2.2.1.toInt) : okP (F35 o x (f_curPos o)) (fun r => 1 ≤ r.toInt ∧ r.toInt ≤ c.2.2.2.2.1.toInt) := by
 obtain ⟨E1, E2, E3, E4, E5, E6⟩ := E
 obtain ⟨G1, G2, G3, G4, r0, r1⟩ := id G
 unfold F35
 rw [g_cp h]
 apply okP.bind
 refine okP.loop (fun w => 0 ≤ w.2.toInt ∧ w.2.toInt ≤ e.2.2.toInt ∧ 1 ≤ w.1.toInt ∧ w.1.toInt ≤ 1 + w.2.toInt) (fun w => (32 - w.2.toInt).toNat) ⟨by show (0 : Int) ≤ 0; decide, E4, by show (1 : Int) ≤ 1; decide, by show (1 : Int) ≤ 1 + 0; decide⟩ (by show (32 - (0 : Int)).toNat < 4000; decide) ?_
 rintro ⟨a, w⟩ ⟨a1, a2, a3, a4⟩
 simp only at a1 a2 a3 a4
 unfold B35_5
 simp only
 rw [g_sl h, g_so h]
 apply okP.ite <;> intro wc
 ·rw [i_lt] at wc
  apply okP.ite <;> intro lc
  ·rw [i_lt] at lc
   have e2 : (w + 1).toInt = w.toInt + 1 := inc1 (by omega)
   have v1 := E6 w.toInt.toNat (by omega)
   apply okP.bind
   refine okP_agd a1 (by omega) (fun y hy => ?_)
   apply okP.bind
   refine okP.mono (peer_ok h G (by omega) (by omega) x0 (by omega)) (fun r _ => ?_)
   apply okP.some
   have ja : (a + 1).toInt = a.toInt + 1 := by rw [j_add (by show _ ≤ a.toInt + 1; omega) (by show a.toInt + 1 < _; omega)]; rfl
   have jb : 1 ≤ (if r = 0 then a + 1 else a).toInt ∧ (if r = 0 then a + 1 else a).toInt ≤ a.toInt + 1 := by split <;> omega
   exact ⟨⟨by simp only; omega, by simp only; omega, by simp only; omega, by simp only; omega⟩, by simp only; omega⟩
  ·exact okP.some (okP.some ⟨a3, by omega⟩)
 ·exact okP.some (okP.some ⟨a3, by omega⟩)
theorem dense_ok {c : CC} {d : DD} {e : EE} {o : Ob} (h : Sh c d e o) (G : GC c) (E : GE c e) {x : Int32} (x0 : 0 ≤ x.toInt) (x1 : x.toInt < c.2.2.2.2.1.toInt) : okP (F34 o x (f_curPos o)) (fun r => 1 ≤ r.toInt ∧ r.toInt ≤ c.2.2.2.2.1.toInt) := by
 obtain ⟨E1, E2, E3, E4, E5, E6⟩ := E
 obtain ⟨G1, G2, G3, G4, r0, r1⟩ := id G
 have z1 : (1 : Int32).toInt = 1 := rfl
 have z0 : (0 : Int32).toInt = 0 := rfl
 unfold F34
 rw [g_cp h]
 apply okP.bind
 refine okP.loop (fun w => 0 ≤ w.2.toInt ∧ w.2.toInt ≤ e.2.2.toInt ∧ 1 ≤ w.1.toInt ∧ w.1.toInt ≤ 1 + w.2.toInt) (fun w => (32 - w.2.toInt).toNat) ⟨by show (0 : Int) ≤ 0; decide, E4, by show (1 : Int) ≤ 1; decide, by show (1 : Int) ≤ 1 + 0; decide⟩ (by show (32 - (0 : Int)).toNat < 4000; decide) ?_
 rintro ⟨a, w⟩ ⟨a1, a2, a3, a4⟩
 simp only at a1 a2 a3 a4
 unfold B34_5 J34_65 J34_69
 simp only
 rw [g_sl h, g_so h]
 apply okP.ite <;> intro wc
 ·rw [i_lt] at wc
  apply okP.ite <;> intro lc
  ·rw [i_lt] at lc
   have e2 : (w + 1).toInt = w.toInt + 1 := inc1 (by omega)
   have v1 := E6 w.toInt.toNat (by omega)
   have ja : (a + 1).toInt = a.toInt + 1 := by rw [j_add (by show _ ≤ a.toInt + 1; omega) (by show a.toInt + 1 < _; omega)]; rfl
   apply okP.bind
   refine okP_agd a1 (by omega) (fun y hy => ?_)
   apply okP.bind
   refine okP.mono (peer_ok h G (by omega) (by omega) x0 (by omega)) (fun r _ => ?_)
   apply okP.ite <;> intro _
   ·apply okP.ite <;> intro w0
    ·apply okP.some
     exact ⟨⟨by simp only; omega, by simp only; omega, by simp only; omega, by simp only; omega⟩, by simp only; omega⟩
    ·have wn : 1 ≤ w.toInt := by rw [i_eq, z0] at w0; omega
     have w1 : (w - 1).toInt = w.toInt - 1 := by rw [i_sub (by omega) (by omega), z1]
     have v2 := E6 (w.toInt.toNat - 1) (by omega)
     apply okP.bind
     refine okP_agd (by omega) (by omega) (fun y' hy' => ?_)
     have ew : (w - 1).toInt.toNat = w.toInt.toNat - 1 := by omega
     rw [ew] at hy'
     apply okP.bind
     refine okP.mono (peer_ok h G (by omega) (by omega) (by omega) (by omega)) (fun r' _ => ?_)
     apply okP.some
     have jb : 1 ≤ (if r' = 0 then a + 1 else a).toInt ∧ (if r' = 0 then a + 1 else a).toInt ≤ a.toInt + 1 := by split <;> omega
     exact ⟨⟨by simp only; omega, by simp only; omega, by simp only; omega, by simp only; omega⟩, by simp only; omega⟩
   ·apply okP.some
    exact ⟨⟨by simp only; omega, by simp only; omega, by simp only; omega, by simp only; omega⟩, by simp only; omega⟩
  ·exact okP.some (okP.some ⟨a3, by omega⟩)
 ·exact okP.some (okP.some ⟨a3, by omega⟩)
def RowOK (fn n fc nl : Int32) (rs : Int64) : Prop := 0 ≤ fc.toInt ∧ fc.toInt ≤ n.toInt ∧ (nl = 0 ∨ nl = 1) ∧ (nl ≠ 0 → rs = 0) ∧ (fn = 2 → nl = 0 ∧ rs = fc.toInt64) ∧ (fn = 1 → nl = 0 ∧ 0 ≤ rs.toInt ∧ rs.toInt ≤ fc.toInt) ∧ (5 ≤ fn.toInt → fn.toInt ≤ 7 → nl = 0 ∧ 1 ≤ rs.toInt ∧ rs.toInt ≤ n.toInt)
theorem apply_ok {c : CC} {d : DD} {e : EE} {o : Ob} (h : Sh c d e o) (G : GC c) (D : GD d) (E : GE c e) {x : Int32} (x0 : 0 ≤ x.toInt) (x1 : x.toInt < c.2.2.2.2.1.toInt) (a1 : 0 ≤ (f_aggCount o).toInt) (a2 : (f_aggCount o).toInt ≤ (f_aggRows o).toInt) (a3 : (f_aggRows o).toInt ≤ c.2.2.2.2.1.toInt) : okP (F22 o x) (fun p => ∃ v nl, RowOK c.2.2.2.2.2.2.2.2.2.2.2.2.2.1 c.2.2.2.2.1 (f_aggRows o) nl v ∧ Sh c (d.1.set x.toInt.toNat v, d.2.1.set x.toInt.toNat nl, d.2.2) e p) := by
 obtain ⟨E1, E2, E3, E4, E5, E6⟩ := id E
 obtain ⟨G1, G2, G3, G4, r0, r1⟩ := id G
 have x32 : x.toInt < 32 := by omega
 have ag0 : 0 ≤ (f_aggRows o).toInt := by omega
 unfold F22
 rw [g_fn h]
 obtain ⟨fn, hfn⟩ : ∃ fn, fn = c.2.2.2.2.2.2.2.2.2.2.2.2.2.1 := ⟨_, rfl⟩
 rw [← hfn]
 have put : ∀ (v : Int64) (b : Int32), (b = 0 ∨ b = 1) → RowOK fn c.2.2.2.2.1 (f_aggRows o) b (if b = 0 then v else 0) → okP ((F23 o x v b).bind fun r => some r) (fun p => ∃ v nl, RowOK fn c.2.2.2.2.1 (f_aggRows o) nl v ∧ Sh c (d.1.set x.toInt.toNat v, d.2.1.set x.toInt.toNat nl, d.2.2) e p) := by
  intro v b hb hr
  apply okP.bind
  refine okP.mono (setRes_ok h D x0 x32 v b) (fun p hp => ?_)
  apply okP.some
  have b1 : b &&& 1 = b := by rcases hb with rfl | rfl <;> decide
  rw [b1] at hp
  exact ⟨_, _, hr, hp⟩
 have bit : ∀ {q : Prop} [Decidable q], (if q then (1 : Int32) else 0) = 0 ∨ (if q then (1 : Int32) else 0) = 1 := by
  intro q _; split
  ·exact Or.inr rfl
  ·exact Or.inl rfl
 have nz : ∀ {b : Int32} {v : Int64}, (b ≠ 0 → (if b = 0 then v else 0) = 0) := by
  intro b v hb; rw [if_neg hb]
 have k : ∀ {a b : Int32}, a = b → a.toInt = b.toInt := fun q => by rw [q]
 refine okP.ite (fun f => put _ _ bit ⟨ag0, a3, bit, nz, fun q => by rw [f] at q; exact absurd q (by decide), fun q => by rw [f] at q; exact absurd q (by decide), fun q _ => by rw [f] at q; exact absurd q (by decide)⟩) (fun f0 => ?_)
 refine okP.ite (fun f => put _ _ (Or.inl rfl) ⟨ag0, a3, Or.inl rfl, fun q => absurd rfl q, fun q => by rw [f] at q; exact absurd q (by decide), fun _ => ⟨rfl, by rw [if_pos rfl, Int32.toInt_toInt64]; exact ⟨a1, a2⟩⟩, fun q _ => by rw [f] at q; exact absurd q (by decide)⟩) (fun f1 => ?_)
 refine okP.ite (fun f => put _ _ (Or.inl rfl) ⟨ag0, a3, Or.inl rfl, fun q => absurd rfl q, fun _ => ⟨rfl, if_pos rfl⟩, fun q => absurd q f1, fun q _ => by rw [f] at q; exact absurd q (by decide)⟩) (fun f2 => ?_)
 refine okP.ite (fun f => put _ _ bit ⟨ag0, a3, bit, nz, fun q => absurd q f2, fun q => absurd q f1, fun q _ => by rw [f] at q; exact absurd q (by decide)⟩) (fun f3 => ?_)
 refine okP.ite (fun f => put _ _ bit ⟨ag0, a3, bit, nz, fun q => absurd q f2, fun q => absurd q f1, fun q _ => by rw [f] at q; exact absurd q (by decide)⟩) (fun f4 => ?_)
 refine okP.ite (fun f => put _ _ (Or.inl rfl) ⟨ag0, a3, Or.inl rfl, fun q => absurd rfl q, fun q => absurd q f2, fun q => absurd q f1, fun _ _ => ⟨rfl, ?_⟩⟩) (fun f5 => ?_)
 ·rw [if_pos rfl, g_cp h]
  have e64 := Int32.toInt_toInt64 e.2.2
  have : (e.2.2.toInt64 + 1).toInt = e.2.2.toInt + 1 := by
   rw [j_add (by rw [e64]; show _ ≤ e.2.2.toInt + 1; omega) (by rw [e64]; show e.2.2.toInt + 1 < _; omega), e64]; rfl
  omega
 refine okP.ite (fun f => ?_) (fun f6 => ?_)
 ·apply okP.bind
  refine okP.mono (rank_ok h G E x0 x1) (fun r hr => ?_)
  exact put _ _ (Or.inl rfl) ⟨ag0, a3, Or.inl rfl, fun q => absurd rfl q, fun q => absurd q f2, fun q => absurd q f1, fun _ _ => ⟨rfl, by rw [if_pos rfl]; exact hr⟩⟩
 refine okP.ite (fun f => ?_) (fun f7 => ?_)
 ·apply okP.bind
  refine okP.mono (dense_ok h G E x0 x1) (fun r hr => ?_)
  exact put _ _ (Or.inl rfl) ⟨ag0, a3, Or.inl rfl, fun q => absurd rfl q, fun q => absurd q f2, fun q => absurd q f1, fun _ _ => ⟨rfl, by rw [if_pos rfl]; exact hr⟩⟩
 have no : ∀ q : 5 ≤ fn.toInt, fn.toInt ≤ 7 → False := by
  intro q1 q2
  have : fn = 5 ∨ fn = 6 ∨ fn = 7 := by
   simp only [i_eq]
   have z5 : (5 : Int32).toInt = 5 := rfl
   have z6 : (6 : Int32).toInt = 6 := rfl
   have z7 : (7 : Int32).toInt = 7 := rfl
   omega
  rcases this with q | q | q
  ·exact f5 q
  ·exact f6 q
  ·exact f7 q
 have any : ∀ (v : Int64) (b : Int32), (b = 0 ∨ b = 1) → okP ((F23 o x v b).bind fun r => some r) (fun p => ∃ v nl, RowOK fn c.2.2.2.2.1 (f_aggRows o) nl v ∧ Sh c (d.1.set x.toInt.toNat v, d.2.1.set x.toInt.toNat nl, d.2.2) e p) := fun v b hb => put v b hb ⟨ag0, a3, hb, nz, fun q => absurd q f2, fun q => absurd q f1, fun q1 q2 => (no q1 q2).elim⟩
 apply okP.bind
 have sh : ∀ b : Int32, okP (F33 o x (f_curPos o) b) (fun p => ∃ v nl, RowOK fn c.2.2.2.2.1 (f_aggRows o) nl v ∧ Sh c (d.1.set x.toInt.toNat v, d.2.1.set x.toInt.toNat nl, d.2.2) e p) := by
  intro b
  unfold F33 J33_45
  obtain ⟨t, ht⟩ : ∃ t, t = (if b = 0 then (f_curPos o).toInt64 + (f_fnArg o).toInt64 else (f_curPos o).toInt64 - (f_fnArg o).toInt64) := ⟨_, rfl⟩
  rw [← ht]
  refine okP.ite (fun _ => any _ _ (Or.inr rfl)) (fun t0 => ?_)
  refine okP.ite (fun _ => any _ _ (Or.inr rfl)) (fun t1 => ?_)
  rw [Int64.lt_iff_toInt_lt] at t0 t1
  rw [g_sl h] at t1
  have e64 := Int32.toInt_toInt64 e.2.1
  have s1 : (e.2.1.toInt64 - 1).toInt = e.2.1.toInt - 1 := by
   rw [j_sub (by rw [e64]; show _ ≤ e.2.1.toInt - 1; omega) (by rw [e64]; show e.2.1.toInt - 1 < _; omega), e64]; rfl
  have t0' : 0 ≤ t.toInt := by have : (0 : Int64).toInt = 0 := rfl; omega
  have ti : t.toInt32.toInt = t.toInt := by
   rw [Int64.toInt_toInt32, Int.bmod_eq_of_le (by omega) (by omega)]
  rw [g_so h]
  have v1 := E6 t.toInt32.toInt.toNat (by omega)
  apply okP.bind
  refine okP_agd (by omega) (by omega) (fun y hy => ?_)
  apply okP.bind
  refine okP.mono (vnull h G (by omega) (by omega)) (fun r _ => ?_)
  refine okP.ite (fun _ => ?_) (fun _ => any _ _ (Or.inr rfl))
  rw [g_vals h]
  apply okP.bind
  refine okP.aget (by omega) (by omega) (fun z _ => ?_)
  exact any _ _ (Or.inl rfl)
 exact okP.mono (sh _) (fun p hp => okP.some hp)
def DOK (c : CC) (d : DD) (n : Nat) : Prop := GD d ∧ ∀ k, k < n → ∃ fc nl rs, d.2.2[k]? = some fc ∧ d.2.1[k]? = some nl ∧ d.1[k]? = some rs ∧ RowOK c.2.2.2.2.2.2.2.2.2.2.2.2.2.1 c.2.2.2.2.1 fc nl rs
theorem row_ok {c : CC} {d : DD} {e : EE} {o : Ob} (h : Sh c d e o) (G : GC c) (hs : e.1.length = 32) {x : Int32} (x0 : 0 ≤ x.toInt) (x1 : x.toInt < c.2.2.2.2.1.toInt) (D : DOK c d x.toInt.toNat) : okP (F13 o x) (fun p => ∃ d' e', DOK c d' (x.toInt.toNat + 1) ∧ e'.1.length = 32 ∧ Sh c d' e' p) := by
 obtain ⟨D0, D1⟩ := D
 obtain ⟨G1, G2, G3, G4, r0, r1⟩ := id G
 unfold F13
 apply okP.bind
 refine okP.mono (build_ok h G hs x0 x1) ?_
 rintro p ⟨e', E, hp⟩
 apply okP.bind
 refine okP.mono (agg_ok hp G E x0 x1) ?_
 rintro p ⟨hp, a1, a2, a3⟩
 rw [g_fc hp]
 apply okP.bind
 refine okP.aset x0 (by rw [D0.2.2]; omega) ?_
 have k1 : f_aggCount (s_frameCnt p (d.2.2.set x.toInt.toNat (f_aggRows p))) = f_aggCount p := by dsimp only [f_aggCount, s_frameCnt]
 have k2 : f_aggRows (s_frameCnt p (d.2.2.set x.toInt.toNat (f_aggRows p))) = f_aggRows p := by dsimp only [f_aggRows, s_frameCnt]
 have hq := w_fc hp (d.2.2.set x.toInt.toNat (f_aggRows p))
 obtain ⟨q, eq⟩ : ∃ q, q = s_frameCnt p (d.2.2.set x.toInt.toNat (f_aggRows p)) := ⟨_, rfl⟩
 rw [← eq] at k1 k2 hq ⊢
 apply okP.bind
 refine okP.mono (apply_ok hq G ⟨D0.1, D0.2.1, by simp only [List.length_set]; exact D0.2.2⟩ E x0 x1 (by rw [k1]; exact a1) (by rw [k1, k2]; exact a2) (by rw [k2]; exact a3)) ?_
 rintro t ⟨v, nl, hr, ht⟩
 rw [k2] at hr
 apply okP.some
 refine ⟨_, e', ⟨⟨by simp only [List.length_set]; exact D0.1, by simp only [List.length_set]; exact D0.2.1, by simp only [List.length_set]; exact D0.2.2⟩, ?_⟩, E.1, ht⟩
 intro k hk
 simp only [List.getElem?_set]
 by_cases ek : x.toInt.toNat = k
 ·simp only [if_pos ek]
  have l1 : k < d.1.length := by rw [D0.1]; omega
  have l2 : k < d.2.1.length := by rw [D0.2.1]; omega
  have l3 : k < d.2.2.length := by rw [D0.2.2]; omega
  subst ek
  simp only [if_pos l1, if_pos l2, if_pos l3]
  exact ⟨_, _, _, rfl, rfl, rfl, hr⟩
 ·simp only [if_neg ek]
  exact D1 k (by omega)
theorem compute_ok {c : CC} {d : DD} {e : EE} {o : Ob} (h : Sh c d e o) (G : GC c) (D : GD d) (hs : e.1.length = 32) : okP (F11 o) (fun r => r = (-1, o) ∨ (r.1 = 0 ∧ ∃ p d' e', DOK c d' c.2.2.2.2.1.toInt.toNat ∧ e'.1.length = 32 ∧ Sh c d' e' p ∧ r.2 = s_computed p 1)) := by
 obtain ⟨G1, G2, G3, G4, r0, r1⟩ := id G
 have no : okP (F12 o) (fun _ => True) := by
  unfold F12
  repeat' with_reducible (first | exact okP.some trivial | (apply okP.ite <;> intro _) | (apply okP.bind; refine key_at h G (by assumption) (by assumption) (fun _ => ?_)))
 unfold F11
 apply okP.bind
 refine okP.mono no (fun r _ => ?_)
 refine okP.ite (fun _ => ?_) (fun _ => okP.some (Or.inl rfl))
 apply okP.bind
 refine okP.loop (fun w => 0 ≤ w.1.toInt ∧ w.1.toInt ≤ c.2.2.2.2.1.toInt ∧ ∃ d' e', DOK c d' w.1.toInt.toNat ∧ e'.1.length = 32 ∧ Sh c d' e' w.2) (fun w => (32 - w.1.toInt).toNat) ⟨by show (0 : Int) ≤ 0; decide, r0, d, e, ⟨D, fun k hk => absurd hk (Nat.not_lt_zero _)⟩, hs, h⟩ (by show (32 - (0 : Int)).toNat < 4000; decide) ?_
 rintro ⟨w, p⟩ ⟨a1, a2, d', e', D', hs', hp⟩
 simp only at a1 a2 D' hp
 unfold B11_11
 simp only
 rw [g_rows hp]
 apply okP.ite <;> intro wc
 ·rw [i_lt] at wc
  have e2 : (w + 1).toInt = w.toInt + 1 := inc1 (by omega)
  have en : (w + 1).toInt.toNat = w.toInt.toNat + 1 := by omega
  apply okP.bind
  refine okP.mono (row_ok hp G hs' a1 wc D') ?_
  rintro q ⟨d2, e2', D2, hs2, hq⟩
  apply okP.some
  exact ⟨⟨by simp only; omega, by simp only; omega, d2, e2', by simp only; rw [en]; exact D2, hs2, hq⟩, by simp only; omega⟩
 ·rw [i_lt] at wc
  have en : w.toInt.toNat = c.2.2.2.2.1.toInt.toNat := by omega
  rw [en] at D'
  apply okP.some
  apply okP.some
  exact Or.inr ⟨rfl, p, d', e', D', hs', hp, rfl⟩
def Bs (n : Int32) (k : Int32) (o : Ob) : Prop := (f_part o).length = 32 ∧ (f_keys o).length = 32 ∧ (f_vals o).length = 32 ∧ (f_flg o).length = 32 ∧ (f_res o).length = 32 ∧ (f_resNull o).length = 32 ∧ (f_frameCnt o).length = 32 ∧ (f_sorted o).length = 32 ∧ f_rows o = n ∧ f_cap o = k
theorem Bs_part {n : Int32} {k : Int32} {o : Ob} {x : List Int32} (h : Bs n k o) (hx : x.length = 32) : Bs n k (s_part o x) := by
 dsimp only [Bs, f_part, f_keys, f_vals, f_flg, f_res, f_resNull, f_frameCnt, f_sorted, f_cap, f_rows, s_part] at h ⊢
 exact ⟨hx, h.2.1, h.2.2.1, h.2.2.2.1, h.2.2.2.2.1, h.2.2.2.2.2.1, h.2.2.2.2.2.2.1, h.2.2.2.2.2.2.2.1, h.2.2.2.2.2.2.2.2⟩
theorem Bs_l_part {n : Int32} {k : Int32} {o : Ob} (h : Bs n k o) : (f_part o).length = 32 := h.1
theorem Bs_keys {n : Int32} {k : Int32} {o : Ob} {x : List Int32} (h : Bs n k o) (hx : x.length = 32) : Bs n k (s_keys o x) := by
 dsimp only [Bs, f_part, f_keys, f_vals, f_flg, f_res, f_resNull, f_frameCnt, f_sorted, f_cap, f_rows, s_keys] at h ⊢
 exact ⟨h.1, hx, h.2.2.1, h.2.2.2.1, h.2.2.2.2.1, h.2.2.2.2.2.1, h.2.2.2.2.2.2.1, h.2.2.2.2.2.2.2.1, h.2.2.2.2.2.2.2.2⟩
theorem Bs_l_keys {n : Int32} {k : Int32} {o : Ob} (h : Bs n k o) : (f_keys o).length = 32 := h.2.1
theorem Bs_vals {n : Int32} {k : Int32} {o : Ob} {x : List Int32} (h : Bs n k o) (hx : x.length = 32) : Bs n k (s_vals o x) := by
 dsimp only [Bs, f_part, f_keys, f_vals, f_flg, f_res, f_resNull, f_frameCnt, f_sorted, f_cap, f_rows, s_vals] at h ⊢
 exact ⟨h.1, h.2.1, hx, h.2.2.2.1, h.2.2.2.2.1, h.2.2.2.2.2.1, h.2.2.2.2.2.2.1, h.2.2.2.2.2.2.2.1, h.2.2.2.2.2.2.2.2⟩
theorem Bs_l_vals {n : Int32} {k : Int32} {o : Ob} (h : Bs n k o) : (f_vals o).length = 32 := h.2.2.1
theorem Bs_flg {n : Int32} {k : Int32} {o : Ob} {x : List Int32} (h : Bs n k o) (hx : x.length = 32) : Bs n k (s_flg o x) := by
 dsimp only [Bs, f_part, f_keys, f_vals, f_flg, f_res, f_resNull, f_frameCnt, f_sorted, f_cap, f_rows, s_flg] at h ⊢
 exact ⟨h.1, h.2.1, h.2.2.1, hx, h.2.2.2.2.1, h.2.2.2.2.2.1, h.2.2.2.2.2.2.1, h.2.2.2.2.2.2.2.1, h.2.2.2.2.2.2.2.2⟩
theorem Bs_l_flg {n : Int32} {k : Int32} {o : Ob} (h : Bs n k o) : (f_flg o).length = 32 := h.2.2.2.1
theorem Bs_res {n : Int32} {k : Int32} {o : Ob} {x : List Int64} (h : Bs n k o) (hx : x.length = 32) : Bs n k (s_res o x) := by
 dsimp only [Bs, f_part, f_keys, f_vals, f_flg, f_res, f_resNull, f_frameCnt, f_sorted, f_cap, f_rows, s_res] at h ⊢
 exact ⟨h.1, h.2.1, h.2.2.1, h.2.2.2.1, hx, h.2.2.2.2.2.1, h.2.2.2.2.2.2.1, h.2.2.2.2.2.2.2.1, h.2.2.2.2.2.2.2.2⟩
theorem Bs_l_res {n : Int32} {k : Int32} {o : Ob} (h : Bs n k o) : (f_res o).length = 32 := h.2.2.2.2.1
theorem Bs_resNull {n : Int32} {k : Int32} {o : Ob} {x : List Int32} (h : Bs n k o) (hx : x.length = 32) : Bs n k (s_resNull o x) := by
 dsimp only [Bs, f_part, f_keys, f_vals, f_flg, f_res, f_resNull, f_frameCnt, f_sorted, f_cap, f_rows, s_resNull] at h ⊢
 exact ⟨h.1, h.2.1, h.2.2.1, h.2.2.2.1, h.2.2.2.2.1, hx, h.2.2.2.2.2.2.1, h.2.2.2.2.2.2.2.1, h.2.2.2.2.2.2.2.2⟩
theorem Bs_l_resNull {n : Int32} {k : Int32} {o : Ob} (h : Bs n k o) : (f_resNull o).length = 32 := h.2.2.2.2.2.1
theorem Bs_frameCnt {n : Int32} {k : Int32} {o : Ob} {x : List Int32} (h : Bs n k o) (hx : x.length = 32) : Bs n k (s_frameCnt o x) := by
 dsimp only [Bs, f_part, f_keys, f_vals, f_flg, f_res, f_resNull, f_frameCnt, f_sorted, f_cap, f_rows, s_frameCnt] at h ⊢
 exact ⟨h.1, h.2.1, h.2.2.1, h.2.2.2.1, h.2.2.2.2.1, h.2.2.2.2.2.1, hx, h.2.2.2.2.2.2.2.1, h.2.2.2.2.2.2.2.2⟩
theorem Bs_l_frameCnt {n : Int32} {k : Int32} {o : Ob} (h : Bs n k o) : (f_frameCnt o).length = 32 := h.2.2.2.2.2.2.1
theorem Bs_sorted {n : Int32} {k : Int32} {o : Ob} {x : List Int32} (h : Bs n k o) (hx : x.length = 32) : Bs n k (s_sorted o x) := by
 dsimp only [Bs, f_part, f_keys, f_vals, f_flg, f_res, f_resNull, f_frameCnt, f_sorted, f_cap, f_rows, s_sorted] at h ⊢
 exact ⟨h.1, h.2.1, h.2.2.1, h.2.2.2.1, h.2.2.2.2.1, h.2.2.2.2.2.1, h.2.2.2.2.2.2.1, hx, h.2.2.2.2.2.2.2.2⟩
theorem Bs_l_sorted {n : Int32} {k : Int32} {o : Ob} (h : Bs n k o) : (f_sorted o).length = 32 := h.2.2.2.2.2.2.2.1
theorem Bs_direction {n : Int32} {k : Int32} {o : Ob} {x : Int32} (h : Bs n k o) : Bs n k (s_direction o x) := by
 dsimp only [Bs, f_part, f_keys, f_vals, f_flg, f_res, f_resNull, f_frameCnt, f_sorted, f_cap, f_rows, s_direction] at h ⊢
 exact h
theorem Bs_nulls {n : Int32} {k : Int32} {o : Ob} {x : Int32} (h : Bs n k o) : Bs n k (s_nulls o x) := by
 dsimp only [Bs, f_part, f_keys, f_vals, f_flg, f_res, f_resNull, f_frameCnt, f_sorted, f_cap, f_rows, s_nulls] at h ⊢
 exact h
theorem Bs_mode {n : Int32} {k : Int32} {o : Ob} {x : Int32} (h : Bs n k o) : Bs n k (s_mode o x) := by
 dsimp only [Bs, f_part, f_keys, f_vals, f_flg, f_res, f_resNull, f_frameCnt, f_sorted, f_cap, f_rows, s_mode] at h ⊢
 exact h
theorem Bs_startKind {n : Int32} {k : Int32} {o : Ob} {x : Int32} (h : Bs n k o) : Bs n k (s_startKind o x) := by
 dsimp only [Bs, f_part, f_keys, f_vals, f_flg, f_res, f_resNull, f_frameCnt, f_sorted, f_cap, f_rows, s_startKind] at h ⊢
 exact h
theorem Bs_startOff {n : Int32} {k : Int32} {o : Ob} {x : Int32} (h : Bs n k o) : Bs n k (s_startOff o x) := by
 dsimp only [Bs, f_part, f_keys, f_vals, f_flg, f_res, f_resNull, f_frameCnt, f_sorted, f_cap, f_rows, s_startOff] at h ⊢
 exact h
theorem Bs_endKind {n : Int32} {k : Int32} {o : Ob} {x : Int32} (h : Bs n k o) : Bs n k (s_endKind o x) := by
 dsimp only [Bs, f_part, f_keys, f_vals, f_flg, f_res, f_resNull, f_frameCnt, f_sorted, f_cap, f_rows, s_endKind] at h ⊢
 exact h
theorem Bs_endOff {n : Int32} {k : Int32} {o : Ob} {x : Int32} (h : Bs n k o) : Bs n k (s_endOff o x) := by
 dsimp only [Bs, f_part, f_keys, f_vals, f_flg, f_res, f_resNull, f_frameCnt, f_sorted, f_cap, f_rows, s_endOff] at h ⊢
 exact h
theorem Bs_fn {n : Int32} {k : Int32} {o : Ob} {x : Int32} (h : Bs n k o) : Bs n k (s_fn o x) := by
 dsimp only [Bs, f_part, f_keys, f_vals, f_flg, f_res, f_resNull, f_frameCnt, f_sorted, f_cap, f_rows, s_fn] at h ⊢
 exact h
theorem Bs_fnArg {n : Int32} {k : Int32} {o : Ob} {x : Int32} (h : Bs n k o) : Bs n k (s_fnArg o x) := by
 dsimp only [Bs, f_part, f_keys, f_vals, f_flg, f_res, f_resNull, f_frameCnt, f_sorted, f_cap, f_rows, s_fnArg] at h ⊢
 exact h
theorem Bs_computed {n : Int32} {k : Int32} {o : Ob} {x : Int32} (h : Bs n k o) : Bs n k (s_computed o x) := by
 dsimp only [Bs, f_part, f_keys, f_vals, f_flg, f_res, f_resNull, f_frameCnt, f_sorted, f_cap, f_rows, s_computed] at h ⊢
 exact h
theorem Bs_sortedLen {n : Int32} {k : Int32} {o : Ob} {x : Int32} (h : Bs n k o) : Bs n k (s_sortedLen o x) := by
 dsimp only [Bs, f_part, f_keys, f_vals, f_flg, f_res, f_resNull, f_frameCnt, f_sorted, f_cap, f_rows, s_sortedLen] at h ⊢
 exact h
theorem Bs_curPos {n : Int32} {k : Int32} {o : Ob} {x : Int32} (h : Bs n k o) : Bs n k (s_curPos o x) := by
 dsimp only [Bs, f_part, f_keys, f_vals, f_flg, f_res, f_resNull, f_frameCnt, f_sorted, f_cap, f_rows, s_curPos] at h ⊢
 exact h
theorem Bs_aggSum {n : Int32} {k : Int32} {o : Ob} {x : Int64} (h : Bs n k o) : Bs n k (s_aggSum o x) := by
 dsimp only [Bs, f_part, f_keys, f_vals, f_flg, f_res, f_resNull, f_frameCnt, f_sorted, f_cap, f_rows, s_aggSum] at h ⊢
 exact h
theorem Bs_aggCount {n : Int32} {k : Int32} {o : Ob} {x : Int32} (h : Bs n k o) : Bs n k (s_aggCount o x) := by
 dsimp only [Bs, f_part, f_keys, f_vals, f_flg, f_res, f_resNull, f_frameCnt, f_sorted, f_cap, f_rows, s_aggCount] at h ⊢
 exact h
theorem Bs_aggRows {n : Int32} {k : Int32} {o : Ob} {x : Int32} (h : Bs n k o) : Bs n k (s_aggRows o x) := by
 dsimp only [Bs, f_part, f_keys, f_vals, f_flg, f_res, f_resNull, f_frameCnt, f_sorted, f_cap, f_rows, s_aggRows] at h ⊢
 exact h
theorem Bs_aggMin {n : Int32} {k : Int32} {o : Ob} {x : Int32} (h : Bs n k o) : Bs n k (s_aggMin o x) := by
 dsimp only [Bs, f_part, f_keys, f_vals, f_flg, f_res, f_resNull, f_frameCnt, f_sorted, f_cap, f_rows, s_aggMin] at h ⊢
 exact h
theorem Bs_aggMax {n : Int32} {k : Int32} {o : Ob} {x : Int32} (h : Bs n k o) : Bs n k (s_aggMax o x) := by
 dsimp only [Bs, f_part, f_keys, f_vals, f_flg, f_res, f_resNull, f_frameCnt, f_sorted, f_cap, f_rows, s_aggMax] at h ⊢
 exact h
def Cm (o : Ob) : Prop := f_computed o = 0 ∨ (f_computed o = 1 ∧ ∀ k : Nat, k < (f_rows o).toInt.toNat → ∃ fc nl rs, (f_frameCnt o)[k]? = some fc ∧ (f_resNull o)[k]? = some nl ∧ (f_res o)[k]? = some rs ∧ RowOK (f_fn o) (f_rows o) fc nl rs)
def tpl (o : Ob) : CC := (f_part o, f_keys o, f_vals o, f_flg o, f_rows o, f_cap o, f_direction o, f_nulls o, f_mode o, f_startKind o, f_startOff o, f_endKind o, f_endOff o, f_fn o, f_fnArg o)
theorem Bs_comp {n k : Int32} {o : Ob} (h : Bs n k o) (h0 : 0 ≤ n.toInt) (h1 : n.toInt ≤ 32) : okP (F11 o) (fun r => r = (-1, o) ∨ (r.1 = 0 ∧ Bs n k r.2 ∧ f_computed r.2 = 1 ∧ tpl r.2 = tpl o ∧ Cm r.2)) := by
 have S : Sh (tpl o) (f_res o, f_resNull o, f_frameCnt o) (f_sorted o, f_sortedLen o, f_curPos o) o := ⟨rfl, rfl, rfl⟩
 obtain ⟨b1, b2, b3, b4, b5, b6, b7, b8, b9, b10⟩ := h
 refine okP.mono (compute_ok S ⟨b1, b2, b3, b4, by show 0 ≤ (f_rows o).toInt; rw [b9]; exact h0, by show (f_rows o).toInt ≤ 32; rw [b9]; exact h1⟩ ⟨b5, b6, b7⟩ b8) ?_
 rintro r (rfl | ⟨r0, p, d', e', D, l, hp, hr⟩)
 ·exact Or.inl rfl
 ·right
  obtain ⟨t1, t2, t3⟩ := hp
  obtain ⟨⟨D1, D2, D3⟩, D4⟩ := D
  have q1 : tpl r.2 = tpl o := by
   rw [hr]
   have : tpl (s_computed p 1) = tpl p := by dsimp only [tpl, f_part, f_keys, f_vals, f_flg, f_res, f_resNull, f_frameCnt, f_sorted, f_cap, f_rows, f_direction, f_nulls, f_mode, f_startKind, f_startOff, f_endKind, f_endOff, f_fn, f_fnArg, f_computed, f_sortedLen, f_curPos, f_aggSum, f_aggCount, f_aggRows, f_aggMin, f_aggMax, s_computed]
   rw [this]; exact t1
  have q2 : (f_res r.2, f_resNull r.2, f_frameCnt r.2) = d' := by
   rw [hr]
   have : (f_res (s_computed p 1), f_resNull (s_computed p 1), f_frameCnt (s_computed p 1)) = (f_res p, f_resNull p, f_frameCnt p) := by dsimp only [f_part, f_keys, f_vals, f_flg, f_res, f_resNull, f_frameCnt, f_sorted, f_cap, f_rows, f_direction, f_nulls, f_mode, f_startKind, f_startOff, f_endKind, f_endOff, f_fn, f_fnArg, f_computed, f_sortedLen, f_curPos, f_aggSum, f_aggCount, f_aggRows, f_aggMin, f_aggMax, s_computed]
   rw [this]; exact t2
  have q3 : (f_sorted r.2, f_sortedLen r.2, f_curPos r.2) = e' := by
   rw [hr]
   have : (f_sorted (s_computed p 1), f_sortedLen (s_computed p 1), f_curPos (s_computed p 1)) = (f_sorted p, f_sortedLen p, f_curPos p) := by dsimp only [f_part, f_keys, f_vals, f_flg, f_res, f_resNull, f_frameCnt, f_sorted, f_cap, f_rows, f_direction, f_nulls, f_mode, f_startKind, f_startOff, f_endKind, f_endOff, f_fn, f_fnArg, f_computed, f_sortedLen, f_curPos, f_aggSum, f_aggCount, f_aggRows, f_aggMin, f_aggMax, s_computed]
   rw [this]; exact t3
  have q4 : f_computed r.2 = 1 := by rw [hr]; dsimp only [f_computed, s_computed]
  subst q2
  subst q3
  have er : f_rows r.2 = f_rows o := congrArg (fun x : CC => x.2.2.2.2.1) q1
  have ef : f_fn r.2 = f_fn o := congrArg (fun x : CC => x.2.2.2.2.2.2.2.2.2.2.2.2.2.1) q1
  refine ⟨r0, ⟨?_, ?_, ?_, ?_, D1, D2, D3, l, ?_, ?_⟩, q4, q1, Or.inr ⟨q4, ?_⟩⟩
  ·rw [show f_part r.2 = f_part o from congrArg (fun x : CC => x.1) q1]; exact b1
  ·rw [show f_keys r.2 = f_keys o from congrArg (fun x : CC => x.2.1) q1]; exact b2
  ·rw [show f_vals r.2 = f_vals o from congrArg (fun x : CC => x.2.2.1) q1]; exact b3
  ·rw [show f_flg r.2 = f_flg o from congrArg (fun x : CC => x.2.2.2.1) q1]; exact b4
  ·rw [er]; exact b9
  ·rw [show f_cap r.2 = f_cap o from congrArg (fun x : CC => x.2.2.2.2.2.1) q1]; exact b10
  ·rw [er, ef]; exact D4
theorem add_ok {n k : Int32} {o : Ob} (h : Bs n k o) (h0 : 0 ≤ n.toInt) (hk : k.toInt ≤ 32) (h1 : n.toInt ≤ k.toInt) (a b c d : Int32) : okP (F3 o a b c d) (fun r => r = (-1, o) ∨ (n.toInt < k.toInt ∧ r.1 = n ∧ Bs (n + 1) k r.2 ∧ f_computed r.2 = 0)) := by
 obtain ⟨b1, b2, b3, b4, b5, b6, b7, b8, b9, b10⟩ := id h
 unfold F3
 rw [b9, b10]
 refine okP.ite (fun _ => okP.some (Or.inl rfl)) (fun _ => ?_)
 refine okP.ite (fun _ => okP.some (Or.inl rfl)) (fun _ => ?_)
 refine okP.ite (fun lt => ?_) (fun _ => okP.some (Or.inl rfl))
 rw [i_lt] at lt
 apply okP.bind
 refine okP.aset h0 (by omega) ?_
 apply okP.bind
 refine okP.aset h0 (by omega) ?_
 apply okP.bind
 refine okP.aset h0 (by omega) ?_
 apply okP.bind
 refine okP.aset h0 (by omega) ?_
 apply okP.some
 refine Or.inr ⟨lt, rfl, ?_, by dsimp only [f_computed, s_computed]⟩
 obtain ⟨m, hm⟩ : ∃ m, m = n + 1 := ⟨_, rfl⟩
 rw [← hm]
 dsimp only [Bs, f_part, f_keys, f_vals, f_flg, f_res, f_resNull, f_frameCnt, f_sorted, f_cap, f_rows, f_direction, f_nulls, f_mode, f_startKind, f_startOff, f_endKind, f_endOff, f_fn, f_fnArg, f_computed, f_sortedLen, f_curPos, f_aggSum, f_aggCount, f_aggRows, f_aggMin, f_aggMax, s_computed, s_rows, s_flg, s_vals, s_keys, s_part] at h ⊢
 simp only [List.length_set]
 exact ⟨h.1, h.2.1, h.2.2.1, h.2.2.2.1, h.2.2.2.2.1, h.2.2.2.2.2.1, h.2.2.2.2.2.2.1, h.2.2.2.2.2.2.2.1, trivial, h.2.2.2.2.2.2.2.2.2⟩
theorem clear_ok {n k : Int32} {o : Ob} (h : Bs n k o) : okP (F30 o) (fun r => Bs 0 k r ∧ f_computed r = 0) := by
 unfold F30
 apply okP.some
 refine ⟨?_, by dsimp only [f_computed, s_computed]⟩
 dsimp only [Bs, f_part, f_keys, f_vals, f_flg, f_res, f_resNull, f_frameCnt, f_sorted, f_cap, f_rows, f_direction, f_nulls, f_mode, f_startKind, f_startOff, f_endKind, f_endOff, f_fn, f_fnArg, f_computed, f_sortedLen, f_curPos, f_aggSum, f_aggCount, f_aggRows, f_aggMin, f_aggMax, s_computed, s_rows] at h ⊢
 exact ⟨h.1, h.2.1, h.2.2.1, h.2.2.2.1, h.2.2.2.2.1, h.2.2.2.2.2.1, h.2.2.2.2.2.2.1, h.2.2.2.2.2.2.2.1, rfl, h.2.2.2.2.2.2.2.2.2⟩
theorem order_ok {n k : Int32} {o : Ob} (h : Bs n k o) (a b : Int32) : okP (F29 o a b) (fun r => r = (0, o) ∨ (r.1 = 1 ∧ Bs n k r.2 ∧ f_computed r.2 = 0)) := by
 unfold F29
 refine okP.ite (fun _ => okP.some (Or.inl rfl)) (fun _ => ?_)
 refine okP.ite (fun _ => okP.some (Or.inl rfl)) (fun _ => ?_)
 refine okP.ite (fun _ => okP.some (Or.inl rfl)) (fun _ => ?_)
 refine okP.ite (fun _ => okP.some (Or.inl rfl)) (fun _ => ?_)
 exact okP.some (Or.inr ⟨rfl, Bs_computed (Bs_nulls (Bs_direction h)), by dsimp only [f_computed, s_computed]⟩)
theorem mode_ok {n k : Int32} {o : Ob} (h : Bs n k o) (a : Int32) : okP (F28 o a) (fun r => r = (0, o) ∨ (r.1 = 1 ∧ Bs n k r.2 ∧ f_computed r.2 = 0)) := by
 unfold F28
 refine okP.ite (fun _ => okP.some (Or.inl rfl)) (fun _ => ?_)
 refine okP.ite (fun _ => okP.some (Or.inl rfl)) (fun _ => ?_)
 exact okP.some (Or.inr ⟨rfl, Bs_computed (Bs_mode h), by dsimp only [f_computed, s_computed]⟩)
theorem start_ok {n k : Int32} {o : Ob} (h : Bs n k o) (a b : Int32) : okP (F9 o a b) (fun r => r = (0, o) ∨ (r.1 = 1 ∧ Bs n k r.2 ∧ f_computed r.2 = 0)) := by
 have j : ∀ x : Int32, okP (J9_37 o a b x) (fun r => r = (0, o) ∨ (r.1 = 1 ∧ Bs n k r.2 ∧ f_computed r.2 = 0)) := fun x => okP.some (Or.inr ⟨rfl, Bs_computed (Bs_startOff (Bs_startKind h)), by dsimp only [f_computed, s_computed]⟩)
 unfold F9
 refine okP.ite (fun _ => okP.some (Or.inl rfl)) (fun _ => ?_)
 refine okP.ite (fun _ => okP.some (Or.inl rfl)) (fun _ => ?_)
 refine okP.ite (fun _ => j _) (fun _ => ?_)
 exact okP.ite (fun _ => okP.some (Or.inl rfl)) (fun _ => j _)
theorem end_ok {n k : Int32} {o : Ob} (h : Bs n k o) (a b : Int32) : okP (F10 o a b) (fun r => r = (0, o) ∨ (r.1 = 1 ∧ Bs n k r.2 ∧ f_computed r.2 = 0)) := by
 have j : ∀ x : Int32, okP (J10_38 o a b x) (fun r => r = (0, o) ∨ (r.1 = 1 ∧ Bs n k r.2 ∧ f_computed r.2 = 0)) := fun x => okP.some (Or.inr ⟨rfl, Bs_computed (Bs_endOff (Bs_endKind h)), by dsimp only [f_computed, s_computed]⟩)
 unfold F10
 refine okP.ite (fun _ => okP.some (Or.inl rfl)) (fun _ => ?_)
 refine okP.ite (fun _ => okP.some (Or.inl rfl)) (fun _ => ?_)
 refine okP.ite (fun _ => j _) (fun _ => ?_)
 exact okP.ite (fun _ => okP.some (Or.inl rfl)) (fun _ => j _)
theorem fun_ok {n k : Int32} {o : Ob} (h : Bs n k o) (a b : Int32) : okP (F4 o a b) (fun r => r = (0, o) ∨ (r.1 = 1 ∧ Bs n k r.2 ∧ f_computed r.2 = 0)) := by
 have j : ∀ x : Int32, okP (J4_40 o a b x) (fun r => r = (0, o) ∨ (r.1 = 1 ∧ Bs n k r.2 ∧ f_computed r.2 = 0)) := fun x => okP.some (Or.inr ⟨rfl, Bs_computed (Bs_fnArg (Bs_fn h)), by dsimp only [f_computed, s_computed]⟩)
 unfold F4
 refine okP.ite (fun _ => okP.some (Or.inl rfl)) (fun _ => ?_)
 refine okP.ite (fun _ => okP.some (Or.inl rfl)) (fun _ => ?_)
 refine okP.ite (fun _ => j _) (fun _ => ?_)
 exact okP.ite (fun _ => okP.some (Or.inl rfl)) (fun _ => j _)
theorem init_ok : okP (F1 8) (fun o => Bs 0 8 o ∧ f_computed o = 0) := by
 unfold F1 F2
 have e : (if (32 : Int32) < (if (8 : Int32) < 8 then 8 else 8) then (32 : Int32) else (if (8 : Int32) < 8 then 8 else 8)) = 8 := by decide
 rw [e]
 apply okP.bind
 apply okP.some
 apply okP.some
 refine ⟨?_, by dsimp only [f_computed, s_computed]⟩
 dsimp only [Bs, f_part, f_keys, f_vals, f_flg, f_res, f_resNull, f_frameCnt, f_sorted, f_cap, f_rows, f_direction, f_nulls, f_mode, f_startKind, f_startOff, f_endKind, f_endOff, f_fn, f_fnArg, f_computed, f_sortedLen, f_curPos, f_aggSum, f_aggCount, f_aggRows, f_aggMin, f_aggMax, s_part, s_keys, s_vals, s_flg, s_res, s_resNull, s_frameCnt, s_sorted, s_cap, s_rows, s_direction, s_nulls, s_mode, s_startKind, s_startOff, s_endKind, s_endOff, s_fn, s_fnArg, s_computed, s_sortedLen, s_curPos, s_aggSum, s_aggCount, s_aggRows, s_aggMin, s_aggMax]
 refine ⟨?_, ?_, ?_, ?_, ?_, ?_, ?_, ?_, ?_⟩ <;> first | exact List.length_replicate | exact ⟨trivial, trivial⟩ | exact ⟨rfl, rfl⟩ | trivial

def pt (c : CC) (r : Nat) : Int32 := c.1.getD r 0
def ky (c : CC) (r : Nat) : Int32 := c.2.1.getD r 0
def vl (c : CC) (r : Nat) : Int32 := c.2.2.1.getD r 0
def fg (c : CC) (r : Nat) : Int32 := c.2.2.2.1.getD r 0
def nR (c : CC) : Int32 := c.2.2.2.2.1
def dr (c : CC) : Int32 := c.2.2.2.2.2.2.1
def nl (c : CC) : Int32 := c.2.2.2.2.2.2.2.1
def md (c : CC) : Int32 := c.2.2.2.2.2.2.2.2.1
def sk (c : CC) : Int32 := c.2.2.2.2.2.2.2.2.2.1
def so (c : CC) : Int32 := c.2.2.2.2.2.2.2.2.2.2.1
def ek (c : CC) : Int32 := c.2.2.2.2.2.2.2.2.2.2.2.1
def eo (c : CC) : Int32 := c.2.2.2.2.2.2.2.2.2.2.2.2.1
def fn' (c : CC) : Int32 := c.2.2.2.2.2.2.2.2.2.2.2.2.2.1
def kN (c : CC) (r : Nat) : Bool := !decide (fg c r &&& 1 = 0)
def vN (c : CC) (r : Nat) : Bool := !decide (fg c r &&& 2 = 0)
def cl (c : CC) (r : Nat) : Int := if dr c = 0 then 0 else if kN c r then (if nl c = 0 then -5000000000 else 5000000000) else if dr c = 1 then (ky c r).toInt else -(ky c r).toInt
def bef (c : CC) (a b : Nat) : Bool := decide (cl c a < cl c b ∨ (cl c a = cl c b ∧ a < b))
def per (c : CC) (a b : Nat) : Bool := decide (cl c a = cl c b)
def bI (b : Bool) : Int32 := if b then 1 else 0
theorem bI_0 (b : Bool) : bI b = 0 ↔ b = false := by cases b <;> simp [bI]
theorem bI_d {p : Prop} [Decidable p] : (if p then some (1 : Int32) else some 0) = some (bI (decide p)) := by
 by_cases h : p <;> simp [bI, h]
theorem bI_n {p : Prop} [Decidable p] : (if p then some (0 : Int32) else some 1) = some (bI (!decide p)) := by
 by_cases h : p <;> simp [bI, h]
theorem ofI' {x : Int32} {n : Nat} (h : x.toInt = n) : x = Int32.ofInt (n : Nat) := by rw [← h, Int32.ofInt_toInt]
def GX (c : CC) : Prop := GC c ∧ (nl c = 0 ∨ nl c = 1)
theorem ga {l : List Int32} (hl : l.length = 32) {x : Int32} {a : Nat} (hx : x.toInt = a) (ha : a < 32) : aget l x = some (l.getD a 0) := by
 rw [aget_at hx (by omega), List.getD_eq_getElem?_getD, List.getElem?_eq_getElem (by omega)]; rfl
theorem kn_m {c : CC} {d : DD} {e : EE} {o : Ob} (h : Sh c d e o) (G : GX c) {x : Int32} {a : Nat} (hx : x.toInt = a) (ha : a < 32) : F16 o x = some (bI (kN c a)) := by
 unfold F16
 rw [g_flg h, ga G.1.2.2.2.1 hx ha, Option.bind_some, bI_n]; rfl
theorem vn_m {c : CC} {d : DD} {e : EE} {o : Ob} (h : Sh c d e o) (G : GX c) {x : Int32} {a : Nat} (hx : x.toInt = a) (ha : a < 32) : F21 o x = some (bI (vN c a)) := by
 unfold F21
 rw [g_flg h, ga G.1.2.2.2.1 hx ha, Option.bind_some, bI_n]; rfl
theorem g_dr {c : CC} {d : DD} {e : EE} {o : Ob} (h : Sh c d e o) : f_direction o = dr c := congrArg (fun x : CC => x.2.2.2.2.2.2.1) h.1
theorem g_nl {c : CC} {d : DD} {e : EE} {o : Ob} (h : Sh c d e o) : f_nulls o = nl c := congrArg (fun x : CC => x.2.2.2.2.2.2.2.1) h.1
theorem g_md {c : CC} {d : DD} {e : EE} {o : Ob} (h : Sh c d e o) : f_mode o = md c := congrArg (fun x : CC => x.2.2.2.2.2.2.2.2.1) h.1
theorem g_sk {c : CC} {d : DD} {e : EE} {o : Ob} (h : Sh c d e o) : f_startKind o = sk c := congrArg (fun x : CC => x.2.2.2.2.2.2.2.2.2.1) h.1
theorem g_sf {c : CC} {d : DD} {e : EE} {o : Ob} (h : Sh c d e o) : f_startOff o = so c := congrArg (fun x : CC => x.2.2.2.2.2.2.2.2.2.2.1) h.1
theorem g_ek {c : CC} {d : DD} {e : EE} {o : Ob} (h : Sh c d e o) : f_endKind o = ek c := congrArg (fun x : CC => x.2.2.2.2.2.2.2.2.2.2.2.1) h.1
theorem g_ef {c : CC} {d : DD} {e : EE} {o : Ob} (h : Sh c d e o) : f_endOff o = eo c := congrArg (fun x : CC => x.2.2.2.2.2.2.2.2.2.2.2.2.1) h.1
theorem bef_m {c : CC} {d : DD} {e : EE} {o : Ob} (h : Sh c d e o) (G : GX c) {x : Int32} {a : Nat} (hx : x.toInt = a) (ha : a < 32) {y : Int32} {b : Nat} (hy : y.toInt = b) (hb : b < 32) : F15 o x y = some (bI (bef c a b)) := by
 have xy : (x < y) ↔ a < b := by rw [i_lt]; omega
 have G2 := G.1.2.1
 have kx := i_lo (ky c a)
 have kx' := i_hi (ky c a)
 have ky' := i_lo (ky c b)
 have ky'' := i_hi (ky c b)
 unfold F15 J15_51 bef cl
 rw [g_dr h, g_nl h, g_keys h, kn_m h G hx ha, kn_m h G hy hb, ga G2 hx ha, ga G2 hy hb]
 simp only [Option.bind_some]
 by_cases d0 : dr c = 0
 ·simp only [if_pos d0]
  rw [bI_d]
  congr 2
  rw [decide_eq_decide, xy]; simp
 ·simp only [if_neg d0]
  cases ka : kN c a <;> cases kb : kN c b
  ·rw [if_pos (by decide), if_pos (by decide), if_pos (by decide)]
   simp only [Bool.false_eq_true, if_false]
   show (if ky c a = ky c b then _ else (if dr c = 1 then (if ky c a < ky c b then _ else _) else (if ky c b < ky c a then _ else _))) = _
   by_cases ke : ky c a = ky c b
   ·rw [if_pos ke, bI_d]
    congr 2
    rw [decide_eq_decide, xy, ke]
    split <;> omega
   ·rw [if_neg ke]
    have ke' : ¬ (ky c a).toInt = (ky c b).toInt := fun w => ke (i_eq.2 w)
    by_cases d1 : dr c = 1
    ·simp only [if_pos d1]
     rw [bI_d]
     congr 2
     rw [decide_eq_decide, i_lt]; omega
    ·simp only [if_neg d1]
     rw [bI_d]
     congr 2
     rw [decide_eq_decide, i_lt]; omega
  ·rw [if_pos (by decide), if_pos (by decide), if_neg (by decide)]
   simp only [Bool.false_eq_true, if_false, if_true]
   rw [bI_d]
   congr 2
   rw [decide_eq_decide]
   rcases G.2 with n | n
   ·simp only [n, if_true]
    constructor
    ·intro w; exact absurd w (by decide)
    ·split <;> omega
   ·simp only [n, if_neg (show ¬ (1 : Int32) = 0 by decide)]
    constructor
    ·intro _; split <;> omega
    ·intro _; first | trivial | rfl
  ·rw [if_neg (by decide), if_pos (by decide), if_neg (by decide)]
   simp only [Bool.false_eq_true, if_false, if_true]
   rw [bI_d]
   congr 2
   rw [decide_eq_decide]
   rcases G.2 with n | n
   ·simp only [n, if_true]
    constructor
    ·intro _; split <;> omega
    ·intro _; first | trivial | rfl
   ·simp only [n, if_neg (show ¬ (1 : Int32) = 0 by decide)]
    constructor
    ·intro w; exact absurd w (by decide)
    ·split <;> omega
  ·rw [if_neg (by decide), if_neg (by decide)]
   simp only [if_true]
   rw [bI_d]
   congr 2
   rw [decide_eq_decide, xy]; simp
theorem per_m {c : CC} {d : DD} {e : EE} {o : Ob} (h : Sh c d e o) (G : GX c) {x : Int32} {a : Nat} (hx : x.toInt = a) (ha : a < 32) {y : Int32} {b : Nat} (hy : y.toInt = b) (hb : b < 32) : F26 o x y = some (bI (per c a b)) := by
 have G2 := G.1.2.1
 have kx := i_lo (ky c a)
 have kx' := i_hi (ky c a)
 have ky' := i_lo (ky c b)
 have ky'' := i_hi (ky c b)
 unfold F26 J26_33 per cl
 rw [g_dr h, g_keys h, kn_m h G hx ha, kn_m h G hy hb, ga G2 hx ha, ga G2 hy hb]
 simp only [Option.bind_some]
 by_cases d0 : dr c = 0
 ·simp only [if_pos d0]
  rfl
 ·simp only [if_neg d0]
  cases ka : kN c a <;> cases kb : kN c b
  ·rw [if_pos (by decide), if_pos (by decide), if_pos (by decide)]
   simp only [Bool.false_eq_true, if_false]
   show (if ky c a = ky c b then _ else _) = _
   rw [bI_d]
   congr 2
   rw [decide_eq_decide, i_eq]
   split <;> omega
  ·rw [if_pos (by decide), if_pos (by decide), if_neg (by decide)]
   simp only [Bool.false_eq_true, if_false, if_true]
   have : decide ((if dr c = 1 then (ky c a).toInt else -(ky c a).toInt) = (if nl c = 0 then -5000000000 else 5000000000)) = false := by
    apply decide_eq_false
    split <;> split <;> omega
   rw [this]; rfl
  ·rw [if_neg (by decide), if_pos (by decide), if_neg (by decide)]
   simp only [Bool.false_eq_true, if_false, if_true]
   have : decide ((if nl c = 0 then -5000000000 else 5000000000) = (if dr c = 1 then (ky c b).toInt else -(ky c b).toInt)) = false := by
    apply decide_eq_false
    split <;> split <;> omega
   rw [this]; rfl
  ·rw [if_neg (by decide), if_neg (by decide)]
   simp only [if_true]
   rfl
def insL (f : Nat → Bool) (r : Nat) : List Nat → List Nat
 | [] => [r]
 | a :: l => if f a then r :: a :: l else a :: insL f r l
theorem insL_split (f : Nat → Bool) (r : Nat) : ∀ (A B : List Nat), (∀ a, a ∈ A → f a = false) → (∀ b, B.head? = some b → f b = true) → insL f r (A ++ B) = A ++ r :: B
 | [], [], _, _ => rfl
 | [], b :: B, _, h => by
  show (if f b then r :: b :: B else b :: insL f r B) = r :: b :: B
  rw [h b rfl]; rfl
 | a :: A, B, h1, h2 => by
  show (if f a then r :: a :: (A ++ B) else a :: insL f r (A ++ B)) = _
  rw [h1 a (List.mem_cons_self ..), if_neg (by decide), insL_split f r A B (fun x hx => h1 x (List.mem_cons_of_mem _ hx)) h2]
  rfl
theorem insL_perm (f : Nat → Bool) (r : Nat) : ∀ L : List Nat, (insL f r L).Perm (r :: L)
 | [] => List.Perm.refl _
 | a :: l => by
  show (if f a then r :: a :: l else a :: insL f r l).Perm _
  split
  ·exact List.Perm.refl _
  ·exact ((insL_perm f r l).cons a).trans (List.Perm.swap r a l)
theorem insL_len (f : Nat → Bool) (r : Nat) (L : List Nat) : (insL f r L).length = L.length + 1 := (insL_perm f r L).length_eq
def srt (c : CC) (pk : Int32) : Nat → List Nat
 | 0 => []
 | n + 1 => if pt c n = pk then insL (bef c n) n (srt c pk n) else srt c pk n
theorem srt_mem (c : CC) (pk : Int32) : ∀ (n r : Nat), r ∈ srt c pk n ↔ r < n ∧ pt c r = pk
 | 0, r => by simp [srt]
 | n + 1, r => by
  show r ∈ (if pt c n = pk then insL (bef c n) n (srt c pk n) else srt c pk n) ↔ _
  have ih := srt_mem c pk n r
  by_cases h : pt c n = pk
  ·rw [if_pos h, (insL_perm _ _ _).mem_iff, List.mem_cons, ih]
   constructor
   ·rintro (e | e)
    ·subst e; exact ⟨by omega, h⟩
    ·exact ⟨by omega, e.2⟩
   ·rintro ⟨a, b⟩
    by_cases e : r = n
    ·exact Or.inl e
    ·exact Or.inr ⟨by omega, b⟩
  ·rw [if_neg h, ih]
   constructor
   ·rintro ⟨a, b⟩; exact ⟨by omega, b⟩
   ·rintro ⟨a, b⟩
    by_cases e : r = n
    ·subst e; exact absurd b h
    ·exact ⟨by omega, b⟩
theorem srt_len (c : CC) (pk : Int32) : ∀ n : Nat, (srt c pk n).length ≤ n
 | 0 => Nat.le_refl _
 | n + 1 => by
  show (if pt c n = pk then insL (bef c n) n (srt c pk n) else srt c pk n).length ≤ n + 1
  have := srt_len c pk n
  split
  ·rw [insL_len]; omega
  ·omega
theorem srt_nodup (c : CC) (pk : Int32) : ∀ n : Nat, (srt c pk n).Nodup
 | 0 => List.nodup_nil
 | n + 1 => by
  show (if pt c n = pk then insL (bef c n) n (srt c pk n) else srt c pk n).Nodup
  split
  ·rw [(insL_perm _ _ _).nodup_iff, List.nodup_cons]
   exact ⟨fun w => by have := ((srt_mem c pk n n).1 w).1; omega, srt_nodup c pk n⟩
  ·exact srt_nodup c pk n
theorem insL_sorted (c : CC) (r : Nat) : ∀ L : List Nat, (∀ a, a ∈ L → a ≠ r) → L.Pairwise (fun a b => bef c a b = true) → (insL (bef c r) r L).Pairwise (fun a b => bef c a b = true)
 | [], _, _ => List.pairwise_singleton _ _
 | a :: l, h, p => by
  show (if bef c r a then r :: a :: l else a :: insL (bef c r) r l).Pairwise _
  rw [List.pairwise_cons] at p
  by_cases q : bef c r a = true
  ·rw [if_pos q, List.pairwise_cons]
   refine ⟨fun b hb => ?_, List.pairwise_cons.2 p⟩
   rw [List.mem_cons] at hb
   rcases hb with e | e
   ·rw [e]; exact q
   ·have := p.1 b e
    unfold bef at q this ⊢
    rw [decide_eq_true_eq] at q this ⊢
    omega
  ·rw [if_neg q, List.pairwise_cons]
   refine ⟨fun b hb => ?_, insL_sorted c r l (fun x hx => h x (List.mem_cons_of_mem _ hx)) p.2⟩
   rw [(insL_perm _ _ _).mem_iff, List.mem_cons] at hb
   rcases hb with e | e
   ·have ne := h a (List.mem_cons_self ..)
    subst e
    unfold bef at q ⊢
    rw [decide_eq_true_eq] at q ⊢
    omega
   ·exact p.1 b e
theorem srt_sorted (c : CC) (pk : Int32) : ∀ n : Nat, (srt c pk n).Pairwise (fun a b => bef c a b = true)
 | 0 => List.Pairwise.nil
 | n + 1 => by
  show (if pt c n = pk then insL (bef c n) n (srt c pk n) else srt c pk n).Pairwise _
  split
  ·exact insL_sorted c n _ (fun a ha => by have := ((srt_mem c pk n a).1 ha).1; omega) (srt_sorted c pk n)
  ·exact srt_sorted c pk n
def Rep (s : List Int32) (L : List Nat) : Prop := ∀ i q : Nat, L[i]? = some q → s[i]? = some (Int32.ofInt (q : Nat))
theorem ofi {n : Nat} (h : n < 2147483648) : (Int32.ofInt (n : Nat)).toInt = n := Int32.toInt_ofInt_of_le (by show _ ≤ (n : Int); omega) (by show (n : Int) < _; omega)
theorem build_m {c : CC} {d : DD} {e : EE} {o : Ob} (h : Sh c d e o) (G : GX c) (hs : e.1.length = 32) {x : Int32} {a : Nat} (hx : x.toInt = a) (ha : (a : Int) < (nR c).toInt) : okP (F14 o x) (fun p => ∃ s' n' u', Sh c d (s', n', u') p ∧ s'.length = 32 ∧ Rep s' (srt c (pt c a) (nR c).toInt.toNat) ∧ n'.toInt = (srt c (pt c a) (nR c).toInt.toNat).length ∧ ∃ k : Nat, u'.toInt = k ∧ (srt c (pt c a) (nR c).toInt.toNat)[k]? = some a) := by
 obtain ⟨⟨G1, G2, G3, G4, r0, r1⟩, _⟩ := id G
 have r0' : 0 ≤ (nR c).toInt := r0
 have r1' : (nR c).toInt ≤ 32 := r1
 have z0 : (0 : Int32).toInt = 0 := rfl
 have zm : (-1 : Int32).toInt = -1 := rfl
 have z1 : (1 : Int32).toInt = 1 := rfl
 unfold F14
 rw [g_part h, ga G1 hx (by omega), Option.bind_some]
 show okP ((loopN (B14_12 x (pt c a)) qN (0, 0, o)).bind _) _
 generalize hpk : pt c a = pk
 apply okP.bind
 refine okP.mono (P := fun w : Int32 × Ob => ∃ s', Sh c d (s', e.2) w.2 ∧ s'.length = 32 ∧ Rep s' (srt c pk (nR c).toInt.toNat) ∧ w.1.toInt = (srt c pk (nR c).toInt.toNat).length) ?_ ?_
 ·refine okP.loop (fun w : Int32 × Int32 × Ob => ∃ i : Nat, w.2.1.toInt = i ∧ (i : Int) ≤ (nR c).toInt ∧ ∃ s', Sh c d (s', e.2) w.2.2 ∧ s'.length = 32 ∧ Rep s' (srt c pk i) ∧ w.1.toInt = (srt c pk i).length) (fun w => (32 - w.2.1.toInt).toNat) ⟨0, rfl, r0', e.1, h, hs, fun i q hi => absurd hi (by simp [srt]), rfl⟩ (by show (32 - (0 : Int)).toNat < 4000; decide) ?_
  rintro ⟨n, r, p⟩ ⟨i, hr, hi, s', hp, ls, rep, hn⟩
  simp only at hr hp hn
  have sl := srt_len c pk i
  unfold B14_12
  simp only
  rw [g_rows hp, g_part hp]
  refine okP.ite (fun cc => ?_) (fun cc => ?_)
  ·rw [i_lt] at cc
   have cc' : r.toInt < (nR c).toInt := cc
   have e1 : (r + 1).toInt = r.toInt + 1 := inc1 (by omega)
   rw [ga G1 hr (by omega), Option.bind_some]
   show okP (if pt c i = pk then _ else _) _
   refine okP.ite (fun q => ?_) (fun q => ?_)
   ·-- the row goes in
    have L' : srt c pk (i + 1) = insL (bef c i) i (srt c pk i) := if_pos q
    generalize hL : srt c pk i = L at *
    have inner : okP (loopN (B14_38 x n pk r) qN (n, p)) (fun w : Int32 × Ob => ∃ j : Nat, w.1.toInt = (j : Int) ∧ j ≤ L.length ∧ (∃ t, Sh c d (t, e.2) w.2 ∧ t.length = 32 ∧ (∀ k v : Nat, k < j → L[k]? = some v → t[k]? = some (Int32.ofInt (v : Nat))) ∧ ∀ k v : Nat, j ≤ k → L[k]? = some v → t[k + 1]? = some (Int32.ofInt (v : Nat))) ∧ (∀ k v : Nat, j ≤ k → L[k]? = some v → bef c i v = true) ∧ (j = 0 ∨ ∃ v, L[j - 1]? = some v ∧ bef c i v = false)) := by
     refine okP.loop (fun w : Int32 × Ob => ∃ j : Nat, w.1.toInt = (j : Int) ∧ j ≤ L.length ∧ (∃ t, Sh c d (t, e.2) w.2 ∧ t.length = 32 ∧ (∀ k v : Nat, k < j → L[k]? = some v → t[k]? = some (Int32.ofInt (v : Nat))) ∧ ∀ k v : Nat, j ≤ k → L[k]? = some v → t[k + 1]? = some (Int32.ofInt (v : Nat))) ∧ ∀ k v : Nat, j ≤ k → L[k]? = some v → bef c i v = true) (fun w => w.1.toInt.toNat) ⟨L.length, hn, Nat.le_refl _, ⟨s', hp, ls, fun k v _ hk => rep k v hk, fun k v h1 hk => absurd (List.getElem?_eq_some_iff.1 hk).1 (by omega)⟩, fun k v h1 hk => absurd (List.getElem?_eq_some_iff.1 hk).1 (by omega)⟩ (by show n.toInt.toNat < 4000; omega) ?_
     rintro ⟨y, p⟩ ⟨j, hj, jL, ⟨t, hp, lt, t1, t2⟩, hb⟩
     simp only at hj hp
     unfold B14_38
     simp only
     refine okP.ite (fun jc => ?_) (fun jc => ?_)
     ·rw [i_lt, z0] at jc
      obtain ⟨y', hy'⟩ : ∃ m, m = y + -1 := ⟨_, rfl⟩
      rw [← hy']
      have jm : y'.toInt = y.toInt - 1 := by rw [hy', i_add (by omega) (by omega), zm]; omega
      have j1 : (y - 1).toInt = (j - 1 : Nat) := by rw [i_sub (by omega) (by omega), z1]; omega
      have lv := List.getElem?_eq_getElem (l := L) (i := j - 1) (by omega)
      generalize L[j - 1] = v at lv
      have tv := t1 (j - 1) v (by omega) lv
      have v32 : v < i := by
       have : v ∈ L := List.mem_of_getElem? lv
       rw [← hL] at this
       exact ((srt_mem c pk i v).1 this).1
      have ag : aget (f_sorted p) (y - 1) = some (Int32.ofInt (v : Nat)) := by
       rw [show f_sorted p = t from g_so hp, aget_at j1 (by omega)]
       obtain ⟨w1, w2⟩ := List.getElem?_eq_some_iff.1 tv
       rw [w2]
      rw [ag, Option.bind_some, bef_m hp G hr (by omega) (ofi (by omega)) (by omega), Option.bind_some]
      refine okP.ite (fun b0 => ?_) (fun b1 => ?_)
      ·rw [bI_0] at b0
       exact okP.some ⟨j, hj, jL, ⟨t, hp, lt, t1, t2⟩, hb, Or.inr ⟨v, lv, b0⟩⟩
      ·rw [bI_0] at b1
       rw [Option.bind_some, show f_sorted p = t from g_so hp, aset_at hj (by omega), Option.bind_some]
       refine okP.some ⟨⟨j - 1, by simp only; omega, by omega, ⟨t.set j (Int32.ofInt (v : Nat)), w_so hp _, by rw [List.length_set]; exact lt, fun k u hk hu => ?_, fun k u hk hu => ?_⟩, fun k u hk hu => ?_⟩, by simp only; omega⟩
       ·rw [List.getElem?_set_ne (by omega)]; exact t1 k u (by omega) hu
       ·by_cases ek : k = j - 1
        ·subst ek
         rw [lv] at hu
         rw [show j - 1 + 1 = j by omega, List.getElem?_set_self (by omega), Option.some.inj hu]
        ·rw [List.getElem?_set_ne (by omega)]; exact t2 k u (by omega) hu
       ·by_cases ek : k = j - 1
        ·subst ek
         rw [lv] at hu
         rw [← Option.some.inj hu]
         exact Bool.not_eq_false _ ▸ b1
        ·exact hb k u (by omega) hu
     ·rw [i_lt, z0] at jc
      exact okP.some ⟨j, hj, jL, ⟨t, hp, lt, t1, t2⟩, hb, Or.inl (by omega)⟩
    apply okP.bind
    refine okP.mono inner ?_
    rintro ⟨y, p⟩ ⟨j, hj, jL, ⟨t, hp, lt, t1, t2⟩, hb, hj0⟩
    simp only at hj hp
    unfold J14_83 J14_95
    simp only
    rw [show f_sorted p = t from g_so hp, aset_at hj (by omega), Option.bind_some]
    have n2 : (n + 1).toInt = n.toInt + 1 := inc1 (by omega)
    have new : srt c pk (i + 1) = L.take j ++ i :: L.drop j := by
     have srtd := srt_sorted c pk i
     rw [hL] at srtd
     rw [L', ← insL_split (bef c i) i (L.take j) (L.drop j) (fun b hbm => ?_) (fun b hbm => ?_), List.take_append_drop]
     ·rcases hj0 with e | ⟨v, lv, bv⟩
      ·subst e; simp at hbm
      ·obtain ⟨k, hk, ek⟩ := List.mem_iff_getElem.1 hbm
       rw [List.getElem_take] at ek
       have hk' : k < j := by
        rw [List.length_take] at hk; omega
       by_cases kj : k = j - 1
       ·subst kj
        have := List.getElem?_eq_getElem (l := L) (i := j - 1) (by omega)
        rw [lv, ek] at this
        rw [← Option.some.inj this]; exact bv
       ·obtain ⟨w1, w2⟩ := List.getElem?_eq_some_iff.1 lv
        have lt' := List.pairwise_iff_getElem.1 srtd k (j - 1) (by omega) w1 (by omega)
        rw [ek, w2] at lt'
        unfold bef at lt' bv ⊢
        rw [decide_eq_true_eq] at lt'
        rw [decide_eq_false_iff_not] at bv ⊢
        omega
     ·rw [List.head?_drop] at hbm
      exact hb j b (Nat.le_refl _) hbm
    refine okP.some ⟨⟨i + 1, by simp only; omega, by omega, t.set j r, w_so hp _, by rw [List.length_set]; exact lt, fun k v hk => ?_, ?_⟩, by simp only; omega⟩
    ·rw [new] at hk
     have tl : (L.take j).length = j := by rw [List.length_take]; omega
     by_cases k1 : k < j
     ·rw [List.getElem?_append_left (by omega), List.getElem?_take_of_lt k1] at hk
      rw [List.getElem?_set_ne (by omega)]; exact t1 k v k1 hk
     ·rw [List.getElem?_append_right (by omega), tl] at hk
      by_cases k2 : k = j
      ·subst k2
       rw [Nat.sub_self] at hk
       have : i = v := Option.some.inj hk
       rw [List.getElem?_set_self (by omega), ← this, ← ofI' hr]
      ·have : k - j = (k - 1 - j) + 1 := by omega
       rw [this, List.getElem?_cons_succ, List.getElem?_drop] at hk
       rw [List.getElem?_set_ne (by omega)]
       have := t2 (k - 1) v (by omega) (by rw [show j + (k - 1 - j) = k - 1 by omega] at hk; exact hk)
       rw [show k - 1 + 1 = k by omega] at this
       exact this
    ·simp only
     rw [n2, L', insL_len, hn]; rfl
   ·unfold J14_95
    have L' : srt c pk (i + 1) = srt c pk i := if_neg q
    refine okP.some ⟨⟨i + 1, by simp only; omega, by omega, s', hp, ls, by rw [L']; exact rep, by simp only; rw [L']; exact hn⟩, by simp only; omega⟩
  ·rw [i_lt] at cc
   have cc' : ¬ r.toInt < (nR c).toInt := cc
   have : i = (nR c).toInt.toNat := by omega
   subst this
   exact okP.some ⟨s', hp, ls, rep, hn⟩
 ·rintro ⟨n, p⟩ ⟨s', hp, ls, rep, hn⟩
  simp only at hp hn ⊢
  have sl := srt_len c pk (nR c).toInt.toNat
  have nd := srt_nodup c pk (nR c).toInt.toNat
  have am : a ∈ srt c pk (nR c).toInt.toNat := (srt_mem c pk _ a).2 ⟨by omega, hpk⟩
  have hm : ∀ v, v ∈ srt c pk (nR c).toInt.toNat → v < 32 := fun v hv => by have := ((srt_mem c pk _ v).1 hv).1; omega
  generalize srt c pk (nR c).toInt.toNat = L at *
  apply okP.bind
  have hp2 := w_cp (w_sl hp n) 0
  refine okP.mono (P := fun p => ∃ u' k : Nat, Sh c d (s', n, Int32.ofInt (u' : Nat)) p ∧ u' = k ∧ L[k]? = some a) ?_ ?_
  ·refine okP.loop (fun w : Int32 × Ob => ∃ i : Nat, w.1.toInt = (i : Int) ∧ i ≤ L.length ∧ ∃ u : Nat, Sh c d (s', n, Int32.ofInt (u : Nat)) w.2 ∧ (L[u]? = some a ∨ ∀ k, k < i → L[k]? ≠ some a)) (fun w => (40 - w.1.toInt).toNat) ⟨0, rfl, Nat.zero_le _, 0, hp2, Or.inr (fun k hk => absurd hk (Nat.not_lt_zero _))⟩ (by show (40 - (0 : Int)).toNat < 4000; decide) ?_
   rintro ⟨w, q⟩ ⟨i, hw, iL, u, hq, hu⟩
   simp only at hw hq
   unfold B14_114 J14_137
   simp only
   refine okP.ite (fun wc => ?_) (fun wc => ?_)
   ·rw [i_lt] at wc
    have e2 : (w + 1).toInt = w.toInt + 1 := inc1 (by omega)
    have lv := List.getElem?_eq_getElem (l := L) (i := i) (by omega)
    generalize L[i] = v at lv
    have v32 := hm v (List.mem_of_getElem? lv)
    have ag : aget (f_sorted q) w = some (Int32.ofInt (v : Nat)) := by
     rw [show f_sorted q = s' from g_so hq, aget_at hw (by omega)]
     obtain ⟨w1, w2⟩ := List.getElem?_eq_some_iff.1 (rep i v lv)
     rw [w2]
    rw [ag, Option.bind_some]
    refine okP.ite (fun ve => ?_) (fun ve => ?_)
    ·rw [i_eq, ofi (by omega), hx] at ve
     have va : v = a := by omega
     refine okP.some ⟨⟨i + 1, by simp only; omega, by omega, i, ?_, Or.inl (by rw [lv, va])⟩, by simp only; omega⟩
     show Sh c d (s', n, Int32.ofInt (i : Nat)) (s_curPos q w)
     rw [← ofI' hw]
     exact w_cp hq w
    ·rw [i_eq, ofi (by omega), hx] at ve
     refine okP.some ⟨⟨i + 1, by simp only; omega, by omega, u, hq, ?_⟩, by simp only; omega⟩
     rcases hu with hu | hu
     ·exact Or.inl hu
     ·right
      intro k hk
      by_cases ek : k = i
      ·subst ek
       rw [lv]
       intro w'
       have := Option.some.inj w'
       omega
      ·exact hu k (by omega)
   ·rw [i_lt] at wc
    refine okP.some ⟨u, u, hq, rfl, ?_⟩
    rcases hu with hu | hu
    ·exact hu
    ·obtain ⟨k, hk, ek⟩ := List.mem_iff_getElem.1 am
     exact absurd (by rw [List.getElem?_eq_getElem hk, ek]) (hu k (by omega))
  ·rintro q ⟨u, k, hq, rfl, hk⟩
   obtain ⟨ku, _⟩ := List.getElem?_eq_some_iff.1 hk
   exact okP.some ⟨s', n, _, hq, ls, rep, hn, u, ofi (by omega), hk⟩
def dI (c : CC) (a b : Nat) : Int := if dr c = 1 then (ky c b).toInt - (ky c a).toInt else if dr c = 2 then (ky c a).toInt - (ky c b).toInt else 0
def rS (c : CC) (a b pp pq : Nat) : Bool := if sk c = 0 then true else if sk c = 4 then true else if sk c = 2 then (per c a b || decide (pp < pq)) else if kN c a then (per c a b || decide (pp < pq)) else if kN c b then decide (nl c = 1) else if sk c = 1 then decide (-(so c).toInt ≤ dI c a b) else decide ((so c).toInt ≤ dI c a b)
def rE (c : CC) (a b pp pq : Nat) : Bool := if ek c = 4 then true else if ek c = 0 then true else if ek c = 2 then (per c a b || decide (pq < pp)) else if kN c a then (per c a b || decide (pq < pp)) else if kN c b then decide (nl c = 0) else if ek c = 1 then decide (dI c a b ≤ -(eo c).toInt) else decide (dI c a b ≤ (eo c).toInt)
def wS (c : CC) (pp pq : Nat) : Bool := if sk c = 1 then decide ((pp : Int) - (so c).toInt ≤ pq) else if sk c = 2 then decide (pp ≤ pq) else if sk c = 3 then decide ((pp : Int) + (so c).toInt ≤ pq) else true
def wE (c : CC) (pp pq : Nat) : Bool := if ek c = 1 then decide ((pq : Int) ≤ pp - (eo c).toInt) else if ek c = 2 then decide (pq ≤ pp) else if ek c = 3 then decide ((pq : Int) ≤ pp + (eo c).toInt) else true
def inF (c : CC) (a b pp pq : Nat) : Bool := if md c = 0 then wS c pp pq && wE c pp pq else rS c a b pp pq && rE c a b pp pq
theorem J_lt {x y : Int64} : x < y ↔ x.toInt < y.toInt := Int64.lt_iff_toInt_lt
theorem J_e (x : Int32) : x.toInt64.toInt = x.toInt := Int32.toInt_toInt64 x
theorem bI_m (b : Bool) : bI b &&& 1 = bI b := by cases b <;> decide
theorem cur_m {p q : Bool} {X : Prop} [Decidable X] (hq : q = decide X) : ((if bI p = 0 then (if X then (1 : Int32) else 0) else 1) &&& 1) = bI (p || q) := by
 subst hq
 cases p <;> by_cases h : X <;> simp [bI, h]
def HK (c : CC) : Prop := c = c
theorem dis_m {c : CC} {d : DD} {e : EE} {o : Ob} (h : Sh c d e o) (G : GX c) {x : Int32} {a : Nat} (hx : x.toInt = a) (ha : a < 32) {y : Int32} {b : Nat} (hy : y.toInt = b) (hb : b < 32) : okP (F27 o x y) (fun r => r.toInt = dI c a b) := by
 have G2 := G.1.2.1
 have k1 := i_lo (ky c a)
 have k2 := i_hi (ky c a)
 have k3 := i_lo (ky c b)
 have k4 := i_hi (ky c b)
 unfold F27 dI
 rw [g_dr h, g_keys h, ga G2 hx ha, ga G2 hy hb]
 simp only [Option.bind_some]
 show okP (if dr c = 1 then some ((ky c b).toInt64 - (ky c a).toInt64) else if dr c = 2 then some ((ky c a).toInt64 - (ky c b).toInt64) else some 0) _
 by_cases d1 : dr c = 1
 ·simp only [if_pos d1]
  refine okP.some ?_
  rw [Int64.toInt_sub, Int.bmod_eq_of_le (by rw [J_e, J_e]; omega) (by rw [J_e, J_e]; omega), J_e, J_e]
 ·simp only [if_neg d1]
  by_cases d2 : dr c = 2
  ·simp only [if_pos d2]
   refine okP.some ?_
   rw [Int64.toInt_sub, Int.bmod_eq_of_le (by rw [J_e, J_e]; omega) (by rw [J_e, J_e]; omega), J_e, J_e]
  ·simp only [if_neg d2]
   exact okP.some rfl
theorem J_neg (x : Int32) : (-(x.toInt64)).toInt = -x.toInt := by
 have k1 := i_lo x
 have k2 := i_hi x
 rw [Int64.toInt_neg, Int.bmod_eq_of_le (by rw [J_e]; omega) (by rw [J_e]; omega), J_e]
theorem rs_m {c : CC} {d : DD} {e : EE} {o : Ob} (h : Sh c d e o) (G : GX c) (K : HK c) {x : Int32} {a : Nat} (hx : x.toInt = a) (ha : a < 32) {y : Int32} {b : Nat} (hy : y.toInt = b) (hb : b < 32) {u v : Int32} {pp pq : Nat} (hu : u.toInt = pp) (hv : v.toInt = pq) : F19 o x y u v = some (bI (rS c a b pp pq)) := by
 have uv : decide (pp < pq) = decide (u < v) := by rw [decide_eq_decide, i_lt]; omega
 obtain ⟨r, hr, rd⟩ := dis_m h G hx ha hy hb
 unfold F19 rS
 rw [g_sk h, g_nl h, g_sf h, per_m h G hx ha hy hb, kn_m h G hx ha, kn_m h G hy hb, hr]
 simp only [Option.bind_some]
 by_cases s0 : sk c = 0
 ·simp only [if_pos s0]; rfl
 simp only [if_neg s0]
 by_cases s4 : sk c = 4
 ·simp only [if_pos s4]; rfl
 simp only [if_neg s4]
 by_cases s2 : sk c = 2
 ·simp only [if_pos s2]; rw [cur_m uv]
 simp only [if_neg s2]
 cases ka : kN c a
 ·rw [if_pos (by decide)]
  simp only [Bool.false_eq_true, if_false]
  cases kb : kN c b
  ·rw [if_pos (by decide)]
   simp only [Bool.false_eq_true, if_false]
   by_cases s1 : sk c = 1
   ·simp only [if_pos s1]
    rw [bI_n]
    congr 2
    rw [← decide_not, decide_eq_decide, J_lt, J_neg, rd]; omega
   ·simp only [if_neg s1]
    rw [bI_n]
    congr 2
    rw [← decide_not, decide_eq_decide, J_lt, J_e, rd]; omega
  ·rw [if_neg (by decide)]
   simp only [if_true]
   rw [bI_d]
 ·rw [if_neg (by decide)]
  simp only [if_true]
  rw [cur_m uv]
theorem re_m {c : CC} {d : DD} {e : EE} {o : Ob} (h : Sh c d e o) (G : GX c) (K : HK c) {x : Int32} {a : Nat} (hx : x.toInt = a) (ha : a < 32) {y : Int32} {b : Nat} (hy : y.toInt = b) (hb : b < 32) {u v : Int32} {pp pq : Nat} (hu : u.toInt = pp) (hv : v.toInt = pq) : F20 o x y u v = some (bI (rE c a b pp pq)) := by
 have uv : decide (pq < pp) = decide (v < u) := by rw [decide_eq_decide, i_lt]; omega
 obtain ⟨r, hr, rd⟩ := dis_m h G hx ha hy hb
 unfold F20 rE
 rw [g_ek h, g_nl h, g_ef h, per_m h G hx ha hy hb, kn_m h G hx ha, kn_m h G hy hb, hr]
 simp only [Option.bind_some]
 by_cases s0 : ek c = 4
 ·simp only [if_pos s0]; rfl
 simp only [if_neg s0]
 by_cases s4 : ek c = 0
 ·simp only [if_pos s4]; rfl
 simp only [if_neg s4]
 by_cases s2 : ek c = 2
 ·simp only [if_pos s2]; rw [cur_m uv]
 simp only [if_neg s2]
 cases ka : kN c a
 ·rw [if_pos (by decide)]
  simp only [Bool.false_eq_true, if_false]
  cases kb : kN c b
  ·rw [if_pos (by decide)]
   simp only [Bool.false_eq_true, if_false]
   by_cases s1 : ek c = 1
   ·simp only [if_pos s1]
    rw [bI_n]
    congr 2
    rw [← decide_not, decide_eq_decide, J_lt, J_neg, rd]; omega
   ·simp only [if_neg s1]
    rw [bI_n]
    congr 2
    rw [← decide_not, decide_eq_decide, J_lt, J_e, rd]; omega
  ·rw [if_neg (by decide)]
   simp only [if_true]
   rw [bI_d]
 ·rw [if_neg (by decide)]
  simp only [if_true]
  rw [cur_m uv]
def HM (c : CC) : Prop := c = c
theorem J_sub (x y : Int32) : (x.toInt64 - y.toInt64).toInt = x.toInt - y.toInt := by
 have k1 := i_lo x
 have k2 := i_hi x
 have k3 := i_lo y
 have k4 := i_hi y
 rw [Int64.toInt_sub, Int.bmod_eq_of_le (by rw [J_e, J_e]; omega) (by rw [J_e, J_e]; omega), J_e, J_e]
theorem J_add (x y : Int32) : (x.toInt64 + y.toInt64).toInt = x.toInt + y.toInt := by
 have k1 := i_lo x
 have k2 := i_hi x
 have k3 := i_lo y
 have k4 := i_hi y
 rw [Int64.toInt_add, Int.bmod_eq_of_le (by rw [J_e, J_e]; omega) (by rw [J_e, J_e]; omega), J_e, J_e]
theorem ws_m {c : CC} {d : DD} {e : EE} {o : Ob} (h : Sh c d e o) {u v : Int32} {pp pq : Nat} (hu : u.toInt = pp) (hv : v.toInt = pq) : F31 o u v = some (bI (wS c pp pq)) := by
 unfold F31 wS
 rw [g_sk h, g_sf h]
 by_cases s1 : sk c = 1
 ·simp only [if_pos s1]
  rw [bI_n]
  congr 2
  rw [← decide_not, decide_eq_decide, J_lt, J_sub, J_e, hu, hv]; omega
 simp only [if_neg s1]
 by_cases s2 : sk c = 2
 ·simp only [if_pos s2]
  rw [bI_n]
  congr 2
  rw [← decide_not, decide_eq_decide, J_lt, J_e, J_e, hu, hv]; omega
 simp only [if_neg s2]
 by_cases s3 : sk c = 3
 ·simp only [if_pos s3]
  rw [bI_n]
  congr 2
  rw [← decide_not, decide_eq_decide, J_lt, J_add, J_e, hu, hv]; omega
 simp only [if_neg s3]; rfl
theorem we_m {c : CC} {d : DD} {e : EE} {o : Ob} (h : Sh c d e o) {u v : Int32} {pp pq : Nat} (hu : u.toInt = pp) (hv : v.toInt = pq) : F32 o u v = some (bI (wE c pp pq)) := by
 unfold F32 wE
 rw [g_ek h, g_ef h]
 by_cases s1 : ek c = 1
 ·simp only [if_pos s1]
  rw [bI_n]
  congr 2
  rw [← decide_not, decide_eq_decide, J_lt, J_sub, J_e, hu, hv]; omega
 simp only [if_neg s1]
 by_cases s2 : ek c = 2
 ·simp only [if_pos s2]
  rw [bI_n]
  congr 2
  rw [← decide_not, decide_eq_decide, J_lt, J_e, J_e, hu, hv]; omega
 simp only [if_neg s2]
 by_cases s3 : ek c = 3
 ·simp only [if_pos s3]
  rw [bI_n]
  congr 2
  rw [← decide_not, decide_eq_decide, J_lt, J_add, J_e, hu, hv]; omega
 simp only [if_neg s3]; rfl
theorem and_m {p q : Bool} {X : Option Int32} (hX : X = some (bI q)) : (if bI p = 0 then some (0 : Int32) else X.bind fun r => if r = 0 then some 0 else some 1) = some (bI (p && q)) := by
 subst hX
 cases p <;> cases q <;> rfl
theorem inf_m {c : CC} {d : DD} {e : EE} {o : Ob} (h : Sh c d e o) (G : GX c) (K : HK c) (M : HM c) {x : Int32} {a : Nat} (hx : x.toInt = a) (ha : a < 32) {y : Int32} {b : Nat} (hy : y.toInt = b) (hb : b < 32) {u v : Int32} {pp pq : Nat} (hu : u.toInt = pp) (hv : v.toInt = pq) : F18 o x y u v = some (bI (inF c a b pp pq)) := by
 unfold F18 inF
 rw [g_md h]
 by_cases m0 : md c = 0
 ·rw [if_pos m0, if_pos m0]
  rw [ws_m h hu hv, Option.bind_some]
  exact and_m (we_m h hu hv)
 ·rw [if_neg m0, if_neg m0, rs_m h G K hx ha hy hb hu hv, Option.bind_some]
  exact and_m (re_m h G K hx ha hy hb hu hv)
abbrev Ag := Int32 × Int32 × Int64 × Int32 × Int32
def stp (c : CC) (q : Nat) (s : Ag) : Ag := if vN c q then (s.1 + 1, s.2.1, s.2.2.1, s.2.2.2.1, s.2.2.2.2) else (s.1 + 1, s.2.1 + 1, s.2.2.1 + (vl c q).toInt64, (if s.2.1 = 0 then vl c q else if vl c q < s.2.2.2.1 then vl c q else s.2.2.2.1), (if s.2.1 = 0 then vl c q else if s.2.2.2.2 < vl c q then vl c q else s.2.2.2.2))
def acc (c : CC) (g : Nat → Bool) (L : List Nat) : Nat → Ag
 | 0 => (0, 0, 0, 0, 0)
 | n + 1 => if g n then stp c (L.getD n 0) (acc c g L n) else acc c g L n
def agv (o : Ob) : Ag := (f_aggRows o, f_aggCount o, f_aggSum o, f_aggMin o, f_aggMax o)
theorem gL {L : List Nat} {i q : Nat} (h : L[i]? = some q) : L.getD i 0 = q := by rw [List.getD_eq_getElem?_getD, h]; rfl
theorem agg_m {c : CC} {d : DD} {e : EE} {o : Ob} (h : Sh c d e o) (G : GX c) (K : HK c) (M : HM c) {x : Int32} {a : Nat} (hx : x.toInt = a) (ha : a < 32) {L : List Nat} (hs : e.1.length = 32) (rep : Rep e.1 L) (hL : e.2.1.toInt = L.length) (L32 : L.length ≤ 32) (hm : ∀ q, q ∈ L → q < 32) {k : Nat} (hk : e.2.2.toInt = k) : okP (F17 o x) (fun p => Sh c d e p ∧ agv p = acc c (fun i => inF c a (L.getD i 0) k i) L L.length) := by
 obtain ⟨⟨G1, G2, G3, G4, r0, r1⟩, _⟩ := id G
 unfold F17
 rw [g_sl h, g_cp h]
 apply okP.bind
 have h' : Sh c d e (s_aggMax (s_aggMin (s_aggRows (s_aggCount (s_aggSum o 0) 0) 0) 0) 0) := Sh_aggMax (Sh_aggMin (Sh_aggRows (Sh_aggCount (Sh_aggSum h))))
 have v' : agv (s_aggMax (s_aggMin (s_aggRows (s_aggCount (s_aggSum o 0) 0) 0) 0) 0) = (0, 0, 0, 0, 0) := by dsimp only [agv, f_part, f_keys, f_vals, f_flg, f_res, f_resNull, f_frameCnt, f_sorted, f_cap, f_rows, f_direction, f_nulls, f_mode, f_startKind, f_startOff, f_endKind, f_endOff, f_fn, f_fnArg, f_computed, f_sortedLen, f_curPos, f_aggSum, f_aggCount, f_aggRows, f_aggMin, f_aggMax, s_part, s_keys, s_vals, s_flg, s_res, s_resNull, s_frameCnt, s_sorted, s_cap, s_rows, s_direction, s_nulls, s_mode, s_startKind, s_startOff, s_endKind, s_endOff, s_fn, s_fnArg, s_computed, s_sortedLen, s_curPos, s_aggSum, s_aggCount, s_aggRows, s_aggMin, s_aggMax]
 refine okP.mono (P := fun p => Sh c d e p ∧ agv p = acc c (fun i => inF c a (L.getD i 0) k i) L L.length) ?_ (fun p hp => okP.some hp)
 refine okP.loop (fun w : Int32 × Ob => ∃ i : Nat, w.1.toInt = (i : Int) ∧ i ≤ L.length ∧ Sh c d e w.2 ∧ agv w.2 = acc c (fun i => inF c a (L.getD i 0) k i) L i) (fun w => (40 - w.1.toInt).toNat) ⟨0, rfl, Nat.zero_le _, h', v'⟩ (by show (40 - (0 : Int)).toNat < 4000; decide) ?_
 rintro ⟨w, p⟩ ⟨i, hw, iL, hp, av⟩
 simp only at hw hp av
 unfold B17_38
 simp only
 refine okP.ite (fun wc => ?_) (fun wc => ?_)
 ·rw [i_lt] at wc
  have e2 : (w + 1).toInt = w.toInt + 1 := inc1 (by omega)
  have lv := List.getElem?_eq_getElem (l := L) (i := i) (by omega)
  generalize L[i] = q at lv
  have q32 := hm q (List.mem_of_getElem? lv)
  have eq := gL lv
  have ag : aget (f_sorted p) w = some (Int32.ofInt (q : Nat)) := by
   rw [g_so hp, aget_at hw (by omega)]
   obtain ⟨w1, w2⟩ := List.getElem?_eq_some_iff.1 (rep i q lv)
   rw [w2]
  have ac : acc c (fun i => inF c a (L.getD i 0) k i) L (i + 1) = if inF c a q k i then stp c q (agv p) else agv p := by
   rw [av]
   show (if inF c a (L.getD i 0) k i then stp c (L.getD i 0) _ else _) = _
   rw [eq]
  rw [ag, Option.bind_some, inf_m hp G K M hx ha (ofi (by omega)) q32 hk hw, Option.bind_some]
  have j166 : ∀ t : Ob, Sh c d e t → agv t = acc c (fun i => inF c a (L.getD i 0) k i) L (i + 1) → okP (J17_166 t x e.2.1 e.2.2 w) (fun r => Sum.elim (fun p => Sh c d e p ∧ agv p = acc c (fun i => inF c a (L.getD i 0) k i) L L.length) (fun v' : Int32 × Ob => (∃ i : Nat, v'.1.toInt = (i : Int) ∧ i ≤ L.length ∧ Sh c d e v'.2 ∧ agv v'.2 = acc c (fun i => inF c a (L.getD i 0) k i) L i) ∧ (40 - v'.1.toInt).toNat < (40 - w.toInt).toNat) r) := by
   intro t t1 t2
   exact okP.some ⟨⟨i + 1, by simp only; omega, by omega, t1, t2⟩, by simp only; omega⟩
  refine okP.ite (fun b0 => ?_) (fun b1 => ?_)
  ·rw [bI_0] at b0
   refine j166 p hp ?_
   rw [ac, b0]; rfl
  have b1 : inF c a q k i = true := by
   cases z : inF c a q k i
   ·rw [z] at b1; exact absurd rfl b1
   ·rfl
  rw [b1, if_pos rfl] at ac
  obtain ⟨q', hq'⟩ : ∃ q', q' = s_aggRows p (f_aggRows p + 1) := ⟨_, rfl⟩
  rw [← hq']
  have hqS : Sh c d e q' := by rw [hq']; exact Sh_aggRows hp
  have va : (f_aggRows q', f_aggCount q', f_aggSum q', f_aggMin q', f_aggMax q') = (f_aggRows p + 1, f_aggCount p, f_aggSum p, f_aggMin p, f_aggMax p) := by rw [hq']; dsimp only [f_part, f_keys, f_vals, f_flg, f_res, f_resNull, f_frameCnt, f_sorted, f_cap, f_rows, f_direction, f_nulls, f_mode, f_startKind, f_startOff, f_endKind, f_endOff, f_fn, f_fnArg, f_computed, f_sortedLen, f_curPos, f_aggSum, f_aggCount, f_aggRows, f_aggMin, f_aggMax, s_part, s_keys, s_vals, s_flg, s_res, s_resNull, s_frameCnt, s_sorted, s_cap, s_rows, s_direction, s_nulls, s_mode, s_startKind, s_startOff, s_endKind, s_endOff, s_fn, s_fnArg, s_computed, s_sortedLen, s_curPos, s_aggSum, s_aggCount, s_aggRows, s_aggMin, s_aggMax]
  clear hq'
  rw [vn_m hqS G (ofi (by omega)) q32, Option.bind_some]
  cases vn : vN c q
  ·rw [if_pos (by decide), g_vals hqS, ga G3 (ofi (by omega)) q32, Option.bind_some]
   show okP (if f_aggCount q' = 0 then (J17_116 q' x e.2.1 e.2.2 w (vl c q)) else (if vl c q < f_aggMin q' then (J17_116 q' x e.2.1 e.2.2 w (vl c q)) else (J17_122 q' x e.2.1 e.2.2 w (vl c q)))) _
   simp only [Prod.mk.injEq] at va
   obtain ⟨v1, v2, v3, v4, v5⟩ := va
   have sp : stp c q (agv p) = (f_aggRows p + 1, f_aggCount p + 1, f_aggSum p + (vl c q).toInt64, (if f_aggCount p = 0 then vl c q else if vl c q < f_aggMin p then vl c q else f_aggMin p), (if f_aggCount p = 0 then vl c q else if f_aggMax p < vl c q then vl c q else f_aggMax p)) := by
    unfold stp
    rw [vn]; rfl
   have j144 : ∀ t : Ob, Sh c d e t → (f_aggRows t, f_aggCount t, f_aggSum t, f_aggMin t, f_aggMax t) = (f_aggRows p + 1, f_aggCount p, f_aggSum p, (if f_aggCount p = 0 then vl c q else if vl c q < f_aggMin p then vl c q else f_aggMin p), (if f_aggCount p = 0 then vl c q else if f_aggMax p < vl c q then vl c q else f_aggMax p)) → okP (J17_144 t x e.2.1 e.2.2 w (vl c q)) (fun r => Sum.elim (fun p => Sh c d e p ∧ agv p = acc c (fun i => inF c a (L.getD i 0) k i) L L.length) (fun v' : Int32 × Ob => (∃ i : Nat, v'.1.toInt = (i : Int) ∧ i ≤ L.length ∧ Sh c d e v'.2 ∧ agv v'.2 = acc c (fun i => inF c a (L.getD i 0) k i) L i) ∧ (40 - v'.1.toInt).toNat < (40 - w.toInt).toNat) r) := by
    intro t t1 t2
    unfold J17_144
    refine j166 _ (Sh_aggSum (Sh_aggCount t1)) ?_
    rw [ac, sp]
    simp only [Prod.mk.injEq] at t2
    obtain ⟨u1, u2, u3, u4, u5⟩ := t2
    have : agv (s_aggSum (s_aggCount t (f_aggCount t + 1)) (f_aggSum t + (vl c q).toInt64)) = (f_aggRows t, f_aggCount t + 1, f_aggSum t + (vl c q).toInt64, f_aggMin t, f_aggMax t) := by dsimp only [agv, f_part, f_keys, f_vals, f_flg, f_res, f_resNull, f_frameCnt, f_sorted, f_cap, f_rows, f_direction, f_nulls, f_mode, f_startKind, f_startOff, f_endKind, f_endOff, f_fn, f_fnArg, f_computed, f_sortedLen, f_curPos, f_aggSum, f_aggCount, f_aggRows, f_aggMin, f_aggMax, s_part, s_keys, s_vals, s_flg, s_res, s_resNull, s_frameCnt, s_sorted, s_cap, s_rows, s_direction, s_nulls, s_mode, s_startKind, s_startOff, s_endKind, s_endOff, s_fn, s_fnArg, s_computed, s_sortedLen, s_curPos, s_aggSum, s_aggCount, s_aggRows, s_aggMin, s_aggMax]
    rw [this, u1, u2, u3, u4, u5]
   have j122 : ∀ t : Ob, Sh c d e t → (f_aggRows t, f_aggCount t, f_aggSum t, f_aggMin t, f_aggMax t) = (f_aggRows p + 1, f_aggCount p, f_aggSum p, (if f_aggCount p = 0 then vl c q else if vl c q < f_aggMin p then vl c q else f_aggMin p), f_aggMax p) → okP (J17_122 t x e.2.1 e.2.2 w (vl c q)) (fun r => Sum.elim (fun p => Sh c d e p ∧ agv p = acc c (fun i => inF c a (L.getD i 0) k i) L L.length) (fun v' : Int32 × Ob => (∃ i : Nat, v'.1.toInt = (i : Int) ∧ i ≤ L.length ∧ Sh c d e v'.2 ∧ agv v'.2 = acc c (fun i => inF c a (L.getD i 0) k i) L i) ∧ (40 - v'.1.toInt).toNat < (40 - w.toInt).toNat) r) := by
    intro t t1 t2
    simp only [Prod.mk.injEq] at t2
    obtain ⟨u1, u2, u3, u4, u5⟩ := t2
    have mx : ∀ y, (f_aggRows (s_aggMax t y), f_aggCount (s_aggMax t y), f_aggSum (s_aggMax t y), f_aggMin (s_aggMax t y), f_aggMax (s_aggMax t y)) = (f_aggRows t, f_aggCount t, f_aggSum t, f_aggMin t, y) := fun y => by dsimp only [f_part, f_keys, f_vals, f_flg, f_res, f_resNull, f_frameCnt, f_sorted, f_cap, f_rows, f_direction, f_nulls, f_mode, f_startKind, f_startOff, f_endKind, f_endOff, f_fn, f_fnArg, f_computed, f_sortedLen, f_curPos, f_aggSum, f_aggCount, f_aggRows, f_aggMin, f_aggMax, s_part, s_keys, s_vals, s_flg, s_res, s_resNull, s_frameCnt, s_sorted, s_cap, s_rows, s_direction, s_nulls, s_mode, s_startKind, s_startOff, s_endKind, s_endOff, s_fn, s_fnArg, s_computed, s_sortedLen, s_curPos, s_aggSum, s_aggCount, s_aggRows, s_aggMin, s_aggMax]
    unfold J17_122 J17_138
    rw [u2, u5]
    refine okP.ite (fun z => ?_) (fun z => ?_)
    ·refine j144 _ (Sh_aggMax t1) ?_
     rw [mx, u1, u2, u3, u4, if_pos z, if_pos z]
    refine okP.ite (fun z' => ?_) (fun z' => ?_)
    ·refine j144 _ (Sh_aggMax t1) ?_
     rw [mx, u1, u2, u3, u4, if_neg z, if_neg z, if_pos z']
    ·refine j144 _ t1 ?_
     rw [u1, u2, u3, u4, u5, if_neg z, if_neg z, if_neg z']
   have j116 : (f_aggCount p = 0 ∨ vl c q < f_aggMin p) → okP (J17_116 q' x e.2.1 e.2.2 w (vl c q)) (fun r => Sum.elim (fun p => Sh c d e p ∧ agv p = acc c (fun i => inF c a (L.getD i 0) k i) L L.length) (fun v' : Int32 × Ob => (∃ i : Nat, v'.1.toInt = (i : Int) ∧ i ≤ L.length ∧ Sh c d e v'.2 ∧ agv v'.2 = acc c (fun i => inF c a (L.getD i 0) k i) L i) ∧ (40 - v'.1.toInt).toNat < (40 - w.toInt).toNat) r) := by
    intro z
    unfold J17_116
    refine j122 _ (Sh_aggMin hqS) ?_
    have mn : (f_aggRows (s_aggMin q' (vl c q)), f_aggCount (s_aggMin q' (vl c q)), f_aggSum (s_aggMin q' (vl c q)), f_aggMin (s_aggMin q' (vl c q)), f_aggMax (s_aggMin q' (vl c q))) = (f_aggRows q', f_aggCount q', f_aggSum q', vl c q, f_aggMax q') := by dsimp only [f_part, f_keys, f_vals, f_flg, f_res, f_resNull, f_frameCnt, f_sorted, f_cap, f_rows, f_direction, f_nulls, f_mode, f_startKind, f_startOff, f_endKind, f_endOff, f_fn, f_fnArg, f_computed, f_sortedLen, f_curPos, f_aggSum, f_aggCount, f_aggRows, f_aggMin, f_aggMax, s_part, s_keys, s_vals, s_flg, s_res, s_resNull, s_frameCnt, s_sorted, s_cap, s_rows, s_direction, s_nulls, s_mode, s_startKind, s_startOff, s_endKind, s_endOff, s_fn, s_fnArg, s_computed, s_sortedLen, s_curPos, s_aggSum, s_aggCount, s_aggRows, s_aggMin, s_aggMax]
    rw [mn, v1, v2, v3, v5]
    have : (if f_aggCount p = 0 then vl c q else if vl c q < f_aggMin p then vl c q else f_aggMin p) = vl c q := by
     rcases z with z | z
     ·rw [if_pos z]
     ·by_cases z' : f_aggCount p = 0
      ·rw [if_pos z']
      ·rw [if_neg z', if_pos z]
    rw [this]
   rw [v2, v4]
   refine okP.ite (fun z => j116 (Or.inl z)) (fun z => ?_)
   refine okP.ite (fun z' => j116 (Or.inr z')) (fun z' => ?_)
   refine j122 q' hqS ?_
   rw [v1, v2, v3, v4, v5, if_neg z, if_neg z']
  ·rw [if_neg (by decide)]
   refine j166 q' hqS ?_
   rw [ac]
   unfold stp
   rw [vn]
   exact va
 ·rw [i_lt] at wc
  have : i = L.length := by omega
  rw [this] at av
  exact okP.some ⟨hp, av⟩
theorem sr_m {c : CC} {d : DD} {e : EE} {o : Ob} (h : Sh c d e o) (D : GD d) {x : Int32} {a : Nat} (hx : x.toInt = a) (ha : a < 32) (v : Int64) (b : Bool) : okP (F23 o x v (bI b)) (fun p => Sh c (d.1.set a (if b then 0 else v), d.2.1.set a (bI b), d.2.2) e p) := by
 unfold F23
 rw [g_nul h, g_res h, aset_at hx (by rw [D.2.1]; omega), Option.bind_some, aset_at hx (by rw [D.1]; omega), Option.bind_some, bI_m]
 have := w_rn h (d.1.set a (if bI b = 0 then v else 0)) (d.2.1.set a (bI b))
 have e1 : (if bI b = 0 then v else 0) = (if b then 0 else v) := by cases b <;> rfl
 rw [e1] at this ⊢
 exact okP.some this
def rkv (c : CC) (L : List Nat) (a : Nat) : Nat → Int64
 | 0 => 1
 | n + 1 => if per c (L.getD n 0) a then rkv c L a n else rkv c L a n + 1
theorem rank_m {c : CC} {d : DD} {e : EE} {o : Ob} (h : Sh c d e o) (G : GX c) {x : Int32} {a : Nat} (hx : x.toInt = a) (ha : a < 32) {L : List Nat} (hs : e.1.length = 32) (rep : Rep e.1 L) (hL : e.2.1.toInt = L.length) (L32 : L.length ≤ 32) (hm : ∀ q, q ∈ L → q < 32) {u : Int32} {k : Nat} (hk : u.toInt = k) (kL : k < L.length) : F35 o x u = some (rkv c L a k) := by
 have : okP (F35 o x u) (fun r => r = rkv c L a k) := by
  unfold F35
  apply okP.bind
  refine okP.mono (P := fun r => r = rkv c L a k) ?_ (fun r hr => okP.some hr)
  refine okP.loop (fun w : Int64 × Int32 => ∃ i : Nat, w.2.toInt = (i : Int) ∧ i ≤ k ∧ w.1 = rkv c L a i) (fun w => (40 - w.2.toInt).toNat) ⟨0, rfl, Nat.zero_le _, rfl⟩ (by show (40 - (0 : Int)).toNat < 4000; decide) ?_
  rintro ⟨t, w⟩ ⟨i, hw, ik, ht⟩
  simp only at hw ht
  unfold B35_5
  simp only
  refine okP.ite (fun wc => ?_) (fun wc => ?_)
  ·rw [i_lt] at wc
   have e2 : (w + 1).toInt = w.toInt + 1 := inc1 (by omega)
   rw [if_pos (by rw [i_lt, g_sl h]; omega)]
   have lv := List.getElem?_eq_getElem (l := L) (i := i) (by omega)
   generalize L[i] = q at lv
   have q32 := hm q (List.mem_of_getElem? lv)
   have ag : aget (f_sorted o) w = some (Int32.ofInt (q : Nat)) := by
    rw [g_so h, aget_at hw (by omega)]
    obtain ⟨w1, w2⟩ := List.getElem?_eq_some_iff.1 (rep i q lv)
    rw [w2]
   rw [ag, Option.bind_some, per_m h G (ofi (by omega)) q32 hx ha, Option.bind_some]
   refine okP.some ⟨⟨i + 1, by simp only; omega, by omega, ?_⟩, by simp only; omega⟩
   show (if bI (per c q a) = 0 then t + 1 else t) = (if per c (L.getD i 0) a then rkv c L a i else rkv c L a i + 1)
   rw [gL lv, ht]
   cases per c q a <;> rfl
  ·rw [i_lt] at wc
   have : i = k := by omega
   rw [this] at ht
   exact okP.some ht
 obtain ⟨r, h1, h2⟩ := this
 rw [h1, h2]
def dnv (c : CC) (L : List Nat) (a : Nat) : Nat → Int64
 | 0 => 1
 | n + 1 => if per c (L.getD n 0) a then dnv c L a n else if n = 0 then dnv c L a n + 1 else if per c (L.getD n 0) (L.getD (n - 1) 0) then dnv c L a n else dnv c L a n + 1
theorem dense_m {c : CC} {d : DD} {e : EE} {o : Ob} (h : Sh c d e o) (G : GX c) {x : Int32} {a : Nat} (hx : x.toInt = a) (ha : a < 32) {L : List Nat} (hs : e.1.length = 32) (rep : Rep e.1 L) (hL : e.2.1.toInt = L.length) (L32 : L.length ≤ 32) (hm : ∀ q, q ∈ L → q < 32) {u : Int32} {k : Nat} (hk : u.toInt = k) (kL : k < L.length) : F34 o x u = some (dnv c L a k) := by
 have z0 : (0 : Int32).toInt = 0 := rfl
 have z1 : (1 : Int32).toInt = 1 := rfl
 have : okP (F34 o x u) (fun r => r = dnv c L a k) := by
  unfold F34
  apply okP.bind
  refine okP.mono (P := fun r => r = dnv c L a k) ?_ (fun r hr => okP.some hr)
  refine okP.loop (fun w : Int64 × Int32 => ∃ i : Nat, w.2.toInt = (i : Int) ∧ i ≤ k ∧ w.1 = dnv c L a i) (fun w => (40 - w.2.toInt).toNat) ⟨0, rfl, Nat.zero_le _, rfl⟩ (by show (40 - (0 : Int)).toNat < 4000; decide) ?_
  rintro ⟨t, w⟩ ⟨i, hw, ik, ht⟩
  simp only at hw ht
  unfold B34_5 J34_65 J34_69
  simp only
  refine okP.ite (fun wc => ?_) (fun wc => ?_)
  ·rw [i_lt] at wc
   have e2 : (w + 1).toInt = w.toInt + 1 := inc1 (by omega)
   rw [if_pos (by rw [i_lt, g_sl h]; omega)]
   have get : ∀ (j : Nat) (y : Int32), y.toInt = j → j < L.length → aget (f_sorted o) y = some (Int32.ofInt ((L.getD j 0 : Nat) : Int)) ∧ L.getD j 0 < 32 := by
    intro j y hy jL
    have lv := List.getElem?_eq_getElem (l := L) (i := j) jL
    rw [gL lv]
    generalize L[j] = q at lv
    have q32 := hm q (List.mem_of_getElem? lv)
    refine ⟨?_, q32⟩
    rw [g_so h, aget_at hy (by omega)]
    obtain ⟨w1, w2⟩ := List.getElem?_eq_some_iff.1 (rep j q lv)
    rw [w2]
   obtain ⟨ag, q32⟩ := get i w hw (by omega)
   rw [ag, Option.bind_some, per_m h G (ofi (by omega)) q32 hx ha, Option.bind_some]
   have dn : dnv c L a (i + 1) = if per c (L.getD i 0) a then dnv c L a i else if i = 0 then dnv c L a i + 1 else if per c (L.getD i 0) (L.getD (i - 1) 0) then dnv c L a i else dnv c L a i + 1 := rfl
   cases pa : per c (L.getD i 0) a
   ·rw [if_pos (by decide)]
    rw [pa, if_neg (by decide)] at dn
    by_cases i0 : i = 0
    ·rw [if_pos (by rw [i_eq, z0]; omega)]
     rw [if_pos i0] at dn
     refine okP.some ⟨⟨i + 1, by simp only; omega, by omega, ?_⟩, by simp only; omega⟩
     simp only
     rw [dn, ht]
    ·rw [if_neg (by rw [i_eq, z0]; omega)]
     rw [if_neg i0] at dn
     obtain ⟨ag2, q32'⟩ := get (i - 1) (w - 1) (by rw [i_sub (by omega) (by omega), z1]; omega) (by omega)
     rw [ag2, Option.bind_some, per_m h G (ofi (by omega)) q32 (ofi (by omega)) q32', Option.bind_some]
     refine okP.some ⟨⟨i + 1, by simp only; omega, by omega, ?_⟩, by simp only; omega⟩
     simp only
     rw [dn, ht]
     cases per c (L.getD i 0) (L.getD (i - 1) 0) <;> rfl
   ·rw [if_neg (by decide)]
    rw [pa, if_pos rfl] at dn
    refine okP.some ⟨⟨i + 1, by simp only; omega, by omega, ?_⟩, by simp only; omega⟩
    simp only
    rw [dn, ht]
  ·rw [i_lt] at wc
   have : i = k := by omega
   rw [this] at ht
   exact okP.some ht
 obtain ⟨r, h1, h2⟩ := this
 rw [h1, h2]
def RV (c : CC) (L : List Nat) (a k : Nat) (s : Ag) : Int64 × Bool :=
 if fn' c = 0 then (s.2.2.1, decide (s.2.1 = 0)) else if fn' c = 1 then (s.2.1.toInt64, false) else if fn' c = 2 then (s.1.toInt64, false) else if fn' c = 3 then (s.2.2.2.1.toInt64, decide (s.2.1 = 0)) else if fn' c = 4 then (s.2.2.2.2.toInt64, decide (s.2.1 = 0)) else
 if fn' c = 6 then (rkv c L a k, false) else
 if fn' c = 7 then (dnv c L a k, false) else
 (0, false)
def HF (c : CC) : Prop := fn' c = 0 ∨ fn' c = 1 ∨ fn' c = 2 ∨ fn' c = 3 ∨ fn' c = 4
 ∨ fn' c = 6
 ∨ fn' c = 7
theorem app_m {c : CC} {d : DD} {e : EE} {o : Ob} (h : Sh c d e o) (G : GX c) (D : GD d) (F : HF c) {x : Int32} {a : Nat} (hx : x.toInt = a) (ha : a < 32) {L : List Nat} (hs : e.1.length = 32) (rep : Rep e.1 L) (hL : e.2.1.toInt = L.length) (L32 : L.length ≤ 32) (hm : ∀ q, q ∈ L → q < 32) {k : Nat} (hk : e.2.2.toInt = k) (kL : k < L.length) : okP (F22 o x) (fun p => Sh c (d.1.set a (if (RV c L a k (agv o)).2 then 0 else (RV c L a k (agv o)).1), d.2.1.set a (bI (RV c L a k (agv o)).2), d.2.2) e p) := by
 have fin : ∀ (v : Int64) (b : Bool), RV c L a k (agv o) = (v, b) → okP ((F23 o x v (bI b)).bind fun r => some r) (fun p => Sh c (d.1.set a (if (RV c L a k (agv o)).2 then 0 else (RV c L a k (agv o)).1), d.2.1.set a (bI (RV c L a k (agv o)).2), d.2.2) e p) := by
  intro v b hv
  rw [hv]
  apply okP.bind
  exact okP.mono (sr_m h D hx ha v b) (fun p hp => okP.some hp)
 have dd : ∀ z : Int32, (if z = 0 then (1 : Int32) else 0) = bI (decide (z = 0)) := fun z => by by_cases q : z = 0 <;> simp [q, bI]
 have gf : f_fn o = fn' c := g_fn h
 unfold F22
 rw [gf, dd]
 rcases F with f | f | f | f | f | F
 ·rw [f, if_pos rfl]
  exact fin _ _ (by unfold RV; rw [f]; rfl)
 ·rw [f, if_neg (by decide), if_pos rfl]
  exact fin _ false (by unfold RV; rw [f]; rfl)
 ·rw [f, if_neg (by decide), if_neg (by decide), if_pos rfl]
  exact fin _ false (by unfold RV; rw [f]; rfl)
 ·rw [f, if_neg (by decide), if_neg (by decide), if_neg (by decide), if_pos rfl]
  exact fin _ _ (by unfold RV; rw [f]; rfl)
 ·rw [f, if_neg (by decide), if_neg (by decide), if_neg (by decide), if_neg (by decide), if_pos rfl]
  exact fin _ _ (by unfold RV; rw [f]; rfl)
 rcases F with f | f
 ·rw [f, if_neg (by decide), if_neg (by decide), if_neg (by decide), if_neg (by decide), if_neg (by decide), if_neg (by decide), if_pos rfl, g_cp h, rank_m h G hx ha hs rep hL L32 hm hk kL, Option.bind_some]
  exact fin _ false (by unfold RV; rw [f]; rfl)
 ·rw [f, if_neg (by decide), if_neg (by decide), if_neg (by decide), if_neg (by decide), if_neg (by decide), if_neg (by decide), if_neg (by decide), if_pos rfl, g_cp h, dense_m h G hx ha hs rep hL L32 hm hk kL, Option.bind_some]
  exact fin _ false (by unfold RV; rw [f]; rfl)
def LL (c : CC) (a : Nat) : List Nat := srt c (pt c a) (nR c).toInt.toNat
def AG (c : CC) (a k : Nat) : Ag := acc c (fun i => inF c a ((LL c a).getD i 0) k i) (LL c a) (LL c a).length
def Row (c : CC) (d : DD) (a : Nat) : Prop := ∃ k, (LL c a)[k]? = some a ∧ d.2.2[a]? = some (AG c a k).1 ∧ d.2.1[a]? = some (bI (RV c (LL c a) a k (AG c a k)).2) ∧ d.1[a]? = some (if (RV c (LL c a) a k (AG c a k)).2 then 0 else (RV c (LL c a) a k (AG c a k)).1)
def Rows (c : CC) (d : DD) (n : Nat) : Prop := GD d ∧ ∀ a, a < n → Row c d a
theorem row_m {c : CC} {d : DD} {e : EE} {o : Ob} (h : Sh c d e o) (G : GX c) (K : HK c) (M : HM c) (F : HF c) (hs : e.1.length = 32) {x : Int32} {a : Nat} (hx : x.toInt = a) (ha : (a : Int) < (nR c).toInt) (D : Rows c d a) : okP (F13 o x) (fun p => ∃ d' e', Rows c d' (a + 1) ∧ e'.1.length = 32 ∧ Sh c d' e' p) := by
 obtain ⟨⟨D1, D2, D3⟩, Dr⟩ := D
 have r1 : (nR c).toInt ≤ 32 := G.1.2.2.2.2.2
 have a32 : a < 32 := by omega
 unfold F13
 apply okP.bind
 refine okP.mono (build_m h G hs hx ha) ?_
 rintro p ⟨s', n', u', hp, ls, rep, hn, k, hk, kk⟩
 have L32 : (LL c a).length ≤ 32 := Nat.le_trans (srt_len _ _ _) (by omega)
 have hm : ∀ q, q ∈ LL c a → q < 32 := fun q hq => by have := ((srt_mem c _ _ q).1 hq).1; omega
 obtain ⟨kL, _⟩ := List.getElem?_eq_some_iff.1 kk
 apply okP.bind
 refine okP.mono (agg_m hp G K M hx a32 (L := LL c a) ls rep hn L32 hm hk) ?_
 rintro q ⟨hq, av⟩
 rw [g_fc hq, aset_at hx (by omega), Option.bind_some]
 have hq2 := w_fc hq (d.2.2.set a (f_aggRows q))
 have av2 : agv (s_frameCnt q (d.2.2.set a (f_aggRows q))) = agv q := by dsimp only [agv, f_part, f_keys, f_vals, f_flg, f_res, f_resNull, f_frameCnt, f_sorted, f_cap, f_rows, f_direction, f_nulls, f_mode, f_startKind, f_startOff, f_endKind, f_endOff, f_fn, f_fnArg, f_computed, f_sortedLen, f_curPos, f_aggSum, f_aggCount, f_aggRows, f_aggMin, f_aggMax, s_part, s_keys, s_vals, s_flg, s_res, s_resNull, s_frameCnt, s_sorted, s_cap, s_rows, s_direction, s_nulls, s_mode, s_startKind, s_startOff, s_endKind, s_endOff, s_fn, s_fnArg, s_computed, s_sortedLen, s_curPos, s_aggSum, s_aggCount, s_aggRows, s_aggMin, s_aggMax]
 have er : f_aggRows q = (AG c a k).1 := congrArg (fun s : Ag => s.1) av
 obtain ⟨t, ht⟩ : ∃ t, t = s_frameCnt q (d.2.2.set a (f_aggRows q)) := ⟨_, rfl⟩
 rw [← ht] at hq2 av2 ⊢
 clear ht
 rw [er] at hq2
 apply okP.bind
 refine okP.mono (app_m hq2 G ⟨D1, D2, by simp only [List.length_set]; exact D3⟩ F hx a32 (L := LL c a) ls rep hn L32 hm hk kL) ?_
 intro w hw
 rw [av2, av] at hw
 refine okP.some ⟨_, _, ⟨⟨by simp only [List.length_set]; exact D1, by simp only [List.length_set]; exact D2, by simp only [List.length_set]; exact D3⟩, fun b hb => ?_⟩, ls, hw⟩
 by_cases eb : a = b
 ·subst eb
  refine ⟨k, kk, ?_, ?_, ?_⟩
  ·simp only; rw [List.getElem?_set_self (by omega)]
  ·simp only; rw [List.getElem?_set_self (by omega)]; rfl
  ·simp only; rw [List.getElem?_set_self (by omega)]; rfl
 ·obtain ⟨k', k1, k2, k3, k4⟩ := Dr b (by omega)
  refine ⟨k', k1, ?_, ?_, ?_⟩
  ·simp only; rw [List.getElem?_set_ne eb]; exact k2
  ·simp only; rw [List.getElem?_set_ne eb]; exact k3
  ·simp only; rw [List.getElem?_set_ne eb]; exact k4
def NO (c : CC) : Prop := md c = 1 ∧ dr c = 0 ∧ (sk c = 1 ∨ sk c = 3 ∨ ek c = 1 ∨ ek c = 3)
theorem need_m {c : CC} {d : DD} {e : EE} {o : Ob} (h : Sh c d e o) : (F12 o = some 1 ∧ NO c) ∨ (F12 o = some 0 ∧ ¬ NO c) := by
 unfold F12 NO
 rw [g_md h, g_dr h, g_sk h, g_ek h]
 by_cases a1 : md c = 1
 ·by_cases a2 : dr c = 0
  ·by_cases b1 : sk c = 1
   ·left; simp [a1, a2, b1]
   ·by_cases b3 : sk c = 3
    ·left; simp [a1, a2, b3]
    ·by_cases e1 : ek c = 1
     ·left; simp [a1, a2, b1, b3, e1]
     ·by_cases e3 : ek c = 3
      ·left; simp [a1, a2, b1, b3, e3]
      ·right; simp [a1, a2, b1, b3, e1, e3]
  ·right; simp [a1, a2]
 ·right; simp [a1]
theorem comp_m {c : CC} {d : DD} {e : EE} {o : Ob} (h : Sh c d e o) (G : GX c) (K : HK c) (M : HM c) (F : HF c) (D : GD d) (hs : e.1.length = 32) : okP (F11 o) (fun r => (r = (-1, o) ∧ NO c) ∨ (¬ NO c ∧ r.1 = 0 ∧ f_computed r.2 = 1 ∧ ∃ d' e', Rows c d' (nR c).toInt.toNat ∧ e'.1.length = 32 ∧ Sh c d' e' r.2)) := by
 have r0 : 0 ≤ (nR c).toInt := G.1.2.2.2.2.1
 have r1 : (nR c).toInt ≤ 32 := G.1.2.2.2.2.2
 unfold F11
 rcases need_m h with ⟨q, n⟩ | ⟨q, n⟩
 ·rw [q, Option.bind_some, if_neg (by decide)]
  exact okP.some (Or.inl ⟨rfl, n⟩)
 rw [q, Option.bind_some, if_pos rfl]
 apply okP.bind
 refine okP.mono (P := fun r => r.1 = 0 ∧ f_computed r.2 = 1 ∧ ∃ d' e', Rows c d' (nR c).toInt.toNat ∧ e'.1.length = 32 ∧ Sh c d' e' r.2) ?_ (fun r hr => okP.some (Or.inr ⟨n, hr⟩))
 refine okP.loop (fun w : Int32 × Ob => ∃ i : Nat, w.1.toInt = (i : Int) ∧ (i : Int) ≤ (nR c).toInt ∧ ∃ d' e', Rows c d' i ∧ e'.1.length = 32 ∧ Sh c d' e' w.2) (fun w => (40 - w.1.toInt).toNat) ⟨0, rfl, r0, d, e, ⟨D, fun a ha => absurd ha (Nat.not_lt_zero _)⟩, hs, h⟩ (by show (40 - (0 : Int)).toNat < 4000; decide) ?_
 rintro ⟨w, p⟩ ⟨i, hw, iL, d', e', R, hs', hp⟩
 simp only at hw hp
 unfold B11_11
 simp only
 have gr : f_rows p = nR c := g_rows hp
 rw [gr]
 refine okP.ite (fun wc => ?_) (fun wc => ?_)
 ·rw [i_lt] at wc
  have e2 : (w + 1).toInt = w.toInt + 1 := inc1 (by omega)
  apply okP.bind
  refine okP.mono (row_m hp G K M F hs' hw (by omega) R) ?_
  rintro q ⟨d2, e2', R2, hs2, hq⟩
  exact okP.some ⟨⟨i + 1, by simp only; omega, by omega, d2, e2', R2, hs2, hq⟩, by simp only; omega⟩
 ·rw [i_lt] at wc
  have : i = (nR c).toInt.toNat := by omega
  subst this
  refine okP.some ⟨rfl, by dsimp only [f_computed, s_computed], d', e', R, hs', ?_⟩
  obtain ⟨t1, t2, t3⟩ := hp
  dsimp only [Sh, f_part, f_keys, f_vals, f_flg, f_res, f_resNull, f_frameCnt, f_sorted, f_cap, f_rows, f_direction, f_nulls, f_mode, f_startKind, f_startOff, f_endKind, f_endOff, f_fn, f_fnArg, f_computed, f_sortedLen, f_curPos, f_aggSum, f_aggCount, f_aggRows, f_aggMin, f_aggMax, s_computed] at t1 t2 t3 ⊢
  exact ⟨t1, t2, t3⟩
theorem per_lt {c : CC} {L : List Nat} (S : L.Pairwise (fun a b => bef c a b = true)) {k i a q : Nat} (hk : L[k]? = some a) (hi : L[i]? = some q) : (per c a q || decide (k < i)) = decide (cl c a ≤ cl c q) := by
 obtain ⟨k1, k2⟩ := List.getElem?_eq_some_iff.1 hk
 obtain ⟨i1, i2⟩ := List.getElem?_eq_some_iff.1 hi
 have P := List.pairwise_iff_getElem.1 S
 rcases Nat.lt_trichotomy k i with h | h | h
 ·have := P k i k1 i1 h
  rw [k2, i2] at this
  unfold bef at this
  rw [decide_eq_true_eq] at this
  rw [decide_eq_true h, Bool.or_true, decide_eq_true (by omega)]
 ·subst h
  have : a = q := by rw [← k2, i2]
  subst this
  rw [decide_eq_true (Int.le_refl _)]
  unfold per
  rw [decide_eq_true rfl]; rfl
 ·have := P i k i1 k1 h
  rw [k2, i2] at this
  unfold bef at this
  rw [decide_eq_true_eq] at this
  rw [decide_eq_false (show ¬ k < i by omega), Bool.or_false]
  unfold per
  rw [decide_eq_decide]; omega
theorem per_gt {c : CC} {L : List Nat} (S : L.Pairwise (fun a b => bef c a b = true)) {k i a q : Nat} (hk : L[k]? = some a) (hi : L[i]? = some q) : (per c a q || decide (i < k)) = decide (cl c q ≤ cl c a) := by
 obtain ⟨k1, k2⟩ := List.getElem?_eq_some_iff.1 hk
 obtain ⟨i1, i2⟩ := List.getElem?_eq_some_iff.1 hi
 have P := List.pairwise_iff_getElem.1 S
 rcases Nat.lt_trichotomy k i with h | h | h
 ·have := P k i k1 i1 h
  rw [k2, i2] at this
  unfold bef at this
  rw [decide_eq_true_eq] at this
  rw [decide_eq_false (show ¬ i < k by omega), Bool.or_false]
  unfold per
  rw [decide_eq_decide]; omega
 ·subst h
  have : a = q := by rw [← k2, i2]
  subst this
  rw [decide_eq_true (Int.le_refl _)]
  unfold per
  rw [decide_eq_true rfl]; rfl
 ·have := P i k i1 k1 h
  rw [k2, i2] at this
  unfold bef at this
  rw [decide_eq_true_eq] at this
  rw [decide_eq_true h, Bool.or_true, decide_eq_true (by omega)]
theorem acc_congr {c : CC} {L : List Nat} {g g' : Nat → Bool} : ∀ {n : Nat}, (∀ i, i < n → g i = g' i) → acc c g L n = acc c g' L n
 | 0, _ => rfl
 | n + 1, h => by
  show (if g n then _ else _) = (if g' n then _ else _)
  rw [h n (by omega), acc_congr (n := n) (fun i hi => h i (by omega))]
def tq (o : Ob) : CC := (f_part o, f_keys o, f_vals o, f_flg o, f_rows o, f_cap o, f_direction o, f_nulls o, f_mode o, f_startKind o, f_startOff o, f_endKind o, f_endOff o, f_fn o, f_fnArg o)
def dq (o : Ob) : DD := (f_res o, f_resNull o, f_frameCnt o)
def eq' (o : Ob) : EE := (f_sorted o, f_sortedLen o, f_curPos o)
theorem Sh_q (o : Ob) : Sh (tq o) (dq o) (eq' o) o := ⟨rfl, rfl, rfl⟩
def St (o : Ob) (K : Int32) : Prop := GX (tq o) ∧ GD (dq o) ∧ (f_sorted o).length = 32 ∧ f_cap o = K
theorem Sh_c {c : CC} {d : DD} {e : EE} {o : Ob} (h : Sh c d e o) : tq o = c ∧ dq o = d ∧ eq' o = e := h

def S1 (g : Nat → Bool) : Nat → Int32
 | 0 => 0
 | n + 1 => if g n then S1 g n + 1 else S1 g n
def S2 (w : Nat → Int64) (g : Nat → Bool) : Nat → Int64
 | 0 => 0
 | n + 1 => if g n then S2 w g n + w n else S2 w g n
def wv (c : CC) (q : Nat) : Int64 := if vN c q then 0 else (vl c q).toInt64
theorem acc_S (c : CC) (g : Nat → Bool) (L : List Nat) : ∀ n, (acc c g L n).1 = S1 g n ∧ (acc c g L n).2.2.1 = S2 (fun i => wv c (L.getD i 0)) g n
 | 0 => ⟨rfl, rfl⟩
 | n + 1 => by
  have ih := acc_S c g L n
  have e : acc c g L (n + 1) = if g n then stp c (L.getD n 0) (acc c g L n) else acc c g L n := rfl
  have e1 : S1 g (n + 1) = if g n then S1 g n + 1 else S1 g n := rfl
  have e2 : S2 (fun i => wv c (L.getD i 0)) g (n + 1) = if g n then S2 (fun i => wv c (L.getD i 0)) g n + wv c (L.getD n 0) else S2 (fun i => wv c (L.getD i 0)) g n := rfl
  rw [e, e1, e2, ← ih.1, ← ih.2]
  cases g n
  ·exact ⟨rfl, rfl⟩
  ·simp only [if_true]
   unfold stp wv
   cases vN c (L.getD n 0)
   ·exact ⟨rfl, rfl⟩
   ·simp only [if_true]
    exact ⟨trivial, (Int64.add_zero _).symm⟩
theorem acc_0 (c : CC) (g : Nat → Bool) (L : List Nat) : ∀ n, n ≤ 32 → 0 ≤ (acc c g L n).2.1.toInt ∧ (acc c g L n).2.1.toInt ≤ n ∧ ((acc c g L n).2.1.toInt = 0 → (acc c g L n).2.2.1 = 0)
 | 0, _ => ⟨by show (0 : Int) ≤ 0; decide, by show (0 : Int) ≤ 0; decide, fun _ => rfl⟩
 | n + 1, hn => by
  obtain ⟨h1, h2, h3⟩ := acc_0 c g L n (by omega)
  have e : acc c g L (n + 1) = if g n then stp c (L.getD n 0) (acc c g L n) else acc c g L n := rfl
  rw [e]
  generalize acc c g L n = s at *
  cases g n
  ·exact ⟨h1, by show s.2.1.toInt ≤ _; omega, h3⟩
  ·simp only [if_true]
   unfold stp
   cases vN c (L.getD n 0)
   ·have e1 : (s.2.1 + 1).toInt = s.2.1.toInt + 1 := inc1 (by omega)
    simp only [Bool.false_eq_true, if_false]
    exact ⟨by omega, by omega, fun w => by omega⟩
   ·simp only [if_true]
    exact ⟨h1, by omega, h3⟩
theorem S1_add (g g' : Nat → Bool) : ∀ n, (∀ i, i < n → g i = !g' i) → S1 g n + S1 g' n = S1 (fun _ => true) n
 | 0, _ => rfl
 | n + 1, h => by
  have ih := S1_add g g' n (fun i hi => h i (by omega))
  show (if g n then S1 g n + 1 else S1 g n) + (if g' n then S1 g' n + 1 else S1 g' n) = S1 (fun _ => true) n + 1
  rw [h n (by omega), ← ih]
  cases g' n
  ·simp only [Bool.not_false, if_true, Bool.false_eq_true, if_false]
   rw [Int32.add_assoc, Int32.add_assoc, Int32.add_comm 1]
  ·simp only [Bool.not_true, if_true, Bool.false_eq_true, if_false]
   rw [Int32.add_assoc]
theorem S2_add (w : Nat → Int64) (g g' : Nat → Bool) : ∀ n, (∀ i, i < n → g i = !g' i) → S2 w g n + S2 w g' n = S2 w (fun _ => true) n
 | 0, _ => rfl
 | n + 1, h => by
  have ih := S2_add w g g' n (fun i hi => h i (by omega))
  show (if g n then S2 w g n + w n else S2 w g n) + (if g' n then S2 w g' n + w n else S2 w g' n) = S2 w (fun _ => true) n + w n
  rw [h n (by omega), ← ih]
  cases g' n
  ·simp only [Bool.not_false, if_true, Bool.false_eq_true, if_false]
   rw [Int64.add_assoc, Int64.add_assoc, Int64.add_comm (w n)]
  ·simp only [Bool.not_true, if_true, Bool.false_eq_true, if_false]
   rw [Int64.add_assoc]
def lsum (f : Nat → Int64) : List Nat → Int64
 | [] => 0
 | a :: l => f a + lsum f l
theorem lsum_ap (f : Nat → Int64) (a : Nat) : ∀ l, lsum f (l ++ [a]) = lsum f l + f a
 | [] => by show f a + 0 = 0 + f a; rw [Int64.add_zero, Int64.zero_add]
 | b :: l => by show f b + lsum f (l ++ [a]) = f b + lsum f l + f a; rw [lsum_ap f a l, Int64.add_assoc]
theorem lsum_ins (f : Nat → Int64) (g : Nat → Bool) (r : Nat) : ∀ l, lsum f (insL g r l) = lsum f l + f r
 | [] => by show f r + 0 = 0 + f r; rw [Int64.add_zero, Int64.zero_add]
 | b :: l => by
  show lsum f (if g b then r :: b :: l else b :: insL g r l) = f b + lsum f l + f r
  split
  ·show f r + (f b + lsum f l) = _
   rw [Int64.add_comm]
  ·show f b + lsum f (insL g r l) = _
   rw [lsum_ins f g r l, Int64.add_assoc]
theorem S2_take (f : Nat → Int64) (L : List Nat) : ∀ n, n ≤ L.length → S2 (fun i => f (L.getD i 0)) (fun _ => true) n = lsum f (L.take n)
 | 0, _ => by rw [List.take_zero]; rfl
 | n + 1, h => by
  have ih := S2_take f L n (by omega)
  show S2 (fun i => f (L.getD i 0)) (fun _ => true) n + f (L.getD n 0) = _
  have lv := List.getElem?_eq_getElem (l := L) (i := n) (by omega)
  rw [ih, gL lv, ← List.take_append_getElem (show n < L.length by omega), lsum_ap]
theorem S1_len : ∀ n : Nat, n ≤ 32 → (S1 (fun _ => true) n).toInt = n
 | 0, _ => rfl
 | n + 1, h => by
  have ih := S1_len n (by omega)
  show (S1 (fun _ => true) n + 1).toInt = _
  rw [inc1 (by omega), ih]; rfl
def up (c : CC) (a b a' b' : Int32) : CC := (c.1, c.2.1, c.2.2.1, c.2.2.2.1, c.2.2.2.2.1, c.2.2.2.2.2.1, c.2.2.2.2.2.2.1, c.2.2.2.2.2.2.2.1, c.2.2.2.2.2.2.2.2.1, a, b, a', b', c.2.2.2.2.2.2.2.2.2.2.2.2.2.1, c.2.2.2.2.2.2.2.2.2.2.2.2.2.2)
theorem srt_up (c : CC) (a b a' b' pk : Int32) : ∀ n, srt (up c a b a' b') pk n = srt c pk n
 | 0 => rfl
 | n + 1 => by
  show (if pt c n = pk then insL (bef c n) n (srt (up c a b a' b') pk n) else srt (up c a b a' b') pk n) = (if pt c n = pk then insL (bef c n) n (srt c pk n) else srt c pk n)
  rw [srt_up c a b a' b' pk n]
theorem LL_up (c : CC) (a b a' b' : Int32) (r : Nat) : LL (up c a b a' b') r = LL c r := srt_up c a b a' b' _ _
theorem acc_up (c : CC) (a b a' b' : Int32) (g : Nat → Bool) (L : List Nat) : ∀ n, acc (up c a b a' b') g L n = acc c g L n
 | 0 => rfl
 | n + 1 => by
  show (if g n then stp c (L.getD n 0) (acc (up c a b a' b') g L n) else acc (up c a b a' b') g L n) = (if g n then stp c (L.getD n 0) (acc c g L n) else acc c g L n)
  rw [acc_up c a b a' b' g L n]
theorem inF_W (c : CC) (b b' : Int32) (r q k i : Nat) : inF (up c 0 b 4 b') r q k i = true := by
 show (if md c = 0 then (true && true) else (true && true)) = true
 split <;> rfl
theorem fr_0 (c : CC) (b b' K : Int32) (k0 : 0 ≤ K.toInt) (k3 : K.toInt ≤ 3) (gn : nl c = 0 ∨ nl c = 1) (r q k i : Nat) (hm : md c = 0 ∨ kN c r = false) : inF (up c 0 b 1 (K + 1)) r q k i = !inF (up c 1 K 4 b') r q k i := by
 have e1 : (K + 1).toInt = K.toInt + 1 := inc1 (by omega)
 show (if md c = 0 then (true && decide ((i : Int) ≤ k - (K + 1).toInt)) else (true && (if kN c r then (per c r q || decide (i < k)) else if kN c q then decide (nl c = 0) else decide (dI c r q ≤ -(K + 1).toInt)))) = !(if md c = 0 then (decide ((k : Int) - K.toInt ≤ i) && true) else ((if kN c r then (per c r q || decide (k < i)) else if kN c q then decide (nl c = 1) else decide (-K.toInt ≤ dI c r q)) && true))
 rw [e1]
 simp only [Bool.true_and, Bool.and_true]
 by_cases m0 : md c = 0
 ·rw [if_pos m0, if_pos m0, ← decide_not, decide_eq_decide]; omega
 ·have kr : kN c r = false := hm.resolve_left m0
  rw [if_neg m0, if_neg m0, kr]
  simp only [Bool.false_eq_true, if_false]
  cases kN c q
  ·simp only [Bool.false_eq_true, if_false]
   rw [← decide_not, decide_eq_decide]; omega
  ·simp only [if_true]
   rcases gn with n | n <;> rw [n] <;> rfl
theorem fr_1 (c : CC) (b b' K : Int32) (k0 : 0 ≤ K.toInt) (k3 : K.toInt ≤ 3) (gn : nl c = 0 ∨ nl c = 1) (r q k i : Nat) (hm : md c = 0 ∨ kN c r = false) : inF (up c 0 b 3 K) r q k i = !inF (up c 3 (K + 1) 4 b') r q k i := by
 have e1 : (K + 1).toInt = K.toInt + 1 := inc1 (by omega)
 show (if md c = 0 then (true && decide ((i : Int) ≤ k + K.toInt)) else (true && (if kN c r then (per c r q || decide (i < k)) else if kN c q then decide (nl c = 0) else decide (dI c r q ≤ K.toInt)))) = !(if md c = 0 then (decide ((k : Int) + (K + 1).toInt ≤ i) && true) else ((if kN c r then (per c r q || decide (k < i)) else if kN c q then decide (nl c = 1) else decide ((K + 1).toInt ≤ dI c r q)) && true))
 rw [e1]
 simp only [Bool.true_and, Bool.and_true]
 by_cases m0 : md c = 0
 ·rw [if_pos m0, if_pos m0, ← decide_not, decide_eq_decide]; omega
 ·have kr : kN c r = false := hm.resolve_left m0
  rw [if_neg m0, if_neg m0, kr]
  simp only [Bool.false_eq_true, if_false]
  cases kN c q
  ·simp only [Bool.false_eq_true, if_false]
   rw [← decide_not, decide_eq_decide]; omega
  ·simp only [if_true]
   rcases gn with n | n <;> rw [n] <;> rfl
theorem fld_m {c : CC} {d : DD} {e : EE} {o : Ob} (h : Sh c d e o) (G : GX c) {x : Int32} {a : Nat} (hx : x.toInt = a) (ha : (a : Int) < (nR c).toInt) : F7 o x 0 = some (pt c a) ∧ F7 o x 2 = some (vl c a) ∧ F7 o x 3 = some (fg c a) := by
 have z0 : (0 : Int32).toInt = 0 := rfl
 have r1 : (nR c).toInt ≤ 32 := G.1.2.2.2.2.2
 have gr : f_rows o = nR c := g_rows h
 obtain ⟨⟨G1, G2, G3, G4, _⟩, _⟩ := id G
 have key : ∀ f, F7 o x f = (if f = 0 then some (pt c a) else if f = 1 then some (ky c a) else if f = 2 then some (vl c a) else if f = 3 then some (fg c a) else some 0) := by
  intro f
  unfold F7
  rw [if_neg (by rw [i_lt, z0]; omega), if_pos (by rw [i_lt, gr]; omega), g_part h, g_keys h, g_vals h, g_flg h, ga G1 hx (by omega), ga G2 hx (by omega), ga G3 hx (by omega), ga G4 hx (by omega)]
  rfl
 exact ⟨key 0, key 2, key 3⟩
theorem res_m {c : CC} {d : DD} {e : EE} {o : Ob} (h : Sh c d e o) (F : fn' c = 0) (hc : f_computed o = 1) {x : Int32} {a : Nat} (hx : x.toInt = a) (ha : (a : Int) < (nR c).toInt) (n32 : (nR c).toInt ≤ 32) (R : Row c d a) : ∃ k, (LL c a)[k]? = some a ∧ F25 o x = some (AG c a k).2.2.1 ∧ F24 o x = some (AG c a k).1 := by
 have z0 : (0 : Int32).toInt = 0 := rfl
 have gr : f_rows o = nR c := g_rows h
 obtain ⟨k, k1, k2, k3, k4⟩ := R
 have ag : ∀ {α : Type} {l : List α} {v : α}, l[a]? = some v → aget l x = some v := by
  intro α l v hv
  obtain ⟨w1, w2⟩ := List.getElem?_eq_some_iff.1 hv
  rw [aget_at hx w1, w2]
 have L32 : (LL c a).length ≤ 32 := Nat.le_trans (srt_len _ _ _) (by omega)
 have rv : RV c (LL c a) a k (AG c a k) = ((AG c a k).2.2.1, decide ((AG c a k).2.1 = 0)) := by unfold RV; rw [F, if_pos rfl]
 have a0 := (acc_0 c (fun i => inF c a ((LL c a).getD i 0) k i) (LL c a) (LL c a).length L32).2.2
 rw [rv] at k3 k4
 refine ⟨k, k1, ?_, ?_⟩
 ·unfold F25
  rw [hc, if_neg (by decide), if_neg (by rw [i_lt, z0]; omega), if_pos (by rw [i_lt, gr]; omega), g_nul h, g_res h, ag k3, ag k4]
  simp only [Option.bind_some]
  by_cases q : (AG c a k).2.1 = 0
  ·rw [decide_eq_true q]
   have : (AG c a k).2.2.1 = 0 := a0 (by show (AG c a k).2.1.toInt = 0; rw [q]; rfl)
   rw [this]; rfl
  ·rw [decide_eq_false q]; rfl
 ·unfold F24
  rw [hc, if_neg (by decide), if_neg (by rw [i_lt, z0]; omega), if_pos (by rw [i_lt, gr]; omega), g_fc h, ag k2]; rfl
theorem start_m {c : CC} {d : DD} {e : EE} {o : Ob} (h : Sh c d e o) {a b : Int32} (ha : a = 0 ∨ a = 1 ∨ a = 3) (hb : 0 ≤ b.toInt) : ∃ p b', F9 o a b = some (1, p) ∧ (a ≠ 0 → b' = b) ∧ Sh (up c a b' (ek c) (eo c)) d e p := by
 have z0 : (0 : Int32).toInt = 0 := rfl
 obtain ⟨t1, t2, t3⟩ := h
 have fin : ∀ b' : Int32, Sh (up c a b' (ek c) (eo c)) d e (s_computed (s_startOff (s_startKind o a) b') 0) := by
  intro b'
  subst t1
  subst t2
  subst t3
  dsimp only [Sh, up, ek, eo, f_part, f_keys, f_vals, f_flg, f_res, f_resNull, f_frameCnt, f_sorted, f_cap, f_rows, f_direction, f_nulls, f_mode, f_startKind, f_startOff, f_endKind, f_endOff, f_fn, f_fnArg, f_computed, f_sortedLen, f_curPos, f_aggSum, f_aggCount, f_aggRows, f_aggMin, f_aggMax, s_part, s_keys, s_vals, s_flg, s_res, s_resNull, s_frameCnt, s_sorted, s_cap, s_rows, s_direction, s_nulls, s_mode, s_startKind, s_startOff, s_endKind, s_endOff, s_fn, s_fnArg, s_computed, s_sortedLen, s_curPos, s_aggSum, s_aggCount, s_aggRows, s_aggMin, s_aggMax]
  exact ⟨rfl, rfl, rfl⟩
 unfold F9 J9_37
 rcases ha with w | w | w
 ·subst w
  exact ⟨_, 0, rfl, fun w => absurd rfl w, fin 0⟩
 ·subst w
  rw [if_neg (by decide), if_neg (by decide), if_neg (by decide), if_neg (by rw [i_lt, z0]; omega)]
  exact ⟨_, b, rfl, fun _ => rfl, fin b⟩
 ·subst w
  rw [if_neg (by decide), if_neg (by decide), if_neg (by decide), if_neg (by rw [i_lt, z0]; omega)]
  exact ⟨_, b, rfl, fun _ => rfl, fin b⟩
theorem end_m {c : CC} {d : DD} {e : EE} {o : Ob} (h : Sh c d e o) {a b : Int32} (ha : a = 4 ∨ a = 1 ∨ a = 3) (hb : 0 ≤ b.toInt) : ∃ p b', F10 o a b = some (1, p) ∧ (a ≠ 4 → b' = b) ∧ Sh (up c (sk c) (so c) a b') d e p := by
 have z0 : (0 : Int32).toInt = 0 := rfl
 obtain ⟨t1, t2, t3⟩ := h
 have fin : ∀ b' : Int32, Sh (up c (sk c) (so c) a b') d e (s_computed (s_endOff (s_endKind o a) b') 0) := by
  intro b'
  subst t1
  subst t2
  subst t3
  dsimp only [Sh, up, sk, so, f_part, f_keys, f_vals, f_flg, f_res, f_resNull, f_frameCnt, f_sorted, f_cap, f_rows, f_direction, f_nulls, f_mode, f_startKind, f_startOff, f_endKind, f_endOff, f_fn, f_fnArg, f_computed, f_sortedLen, f_curPos, f_aggSum, f_aggCount, f_aggRows, f_aggMin, f_aggMax, s_part, s_keys, s_vals, s_flg, s_res, s_resNull, s_frameCnt, s_sorted, s_cap, s_rows, s_direction, s_nulls, s_mode, s_startKind, s_startOff, s_endKind, s_endOff, s_fn, s_fnArg, s_computed, s_sortedLen, s_curPos, s_aggSum, s_aggCount, s_aggRows, s_aggMin, s_aggMax]
  exact ⟨rfl, rfl, rfl⟩
 unfold F10 J10_38
 rcases ha with w | w | w
 ·subst w
  exact ⟨_, 0, rfl, fun w => absurd rfl w, fin 0⟩
 ·subst w
  rw [if_neg (by decide), if_neg (by decide), if_neg (by decide), if_neg (by rw [i_lt, z0]; omega)]
  exact ⟨_, b, rfl, fun _ => rfl, fin b⟩
 ·subst w
  rw [if_neg (by decide), if_neg (by decide), if_neg (by decide), if_neg (by rw [i_lt, z0]; omega)]
  exact ⟨_, b, rfl, fun _ => rfl, fin b⟩
def Ux (c : CC) (o : Ob) : Prop := ∃ a b a' b' d e, Sh (up c a b a' b') d e o ∧ GD d ∧ e.1.length = 32
theorem frame_m {c : CC} {o : Ob} (U : Ux c o) (G : GX c) (F : fn' c = 0) (no : ¬ (md c = 1 ∧ dr c = 0)) {a b a' b' : Int32} (ha : a = 0 ∨ a = 1 ∨ a = 3) (hb : 0 ≤ b.toInt) (ha' : a' = 4 ∨ a' = 1 ∨ a' = 3) (hb' : 0 ≤ b'.toInt) : okP (F8 o a b a' b') (fun r => r.1 = 1 ∧ ∃ p q d e, (a ≠ 0 → p = b) ∧ (a' ≠ 4 → q = b') ∧ Sh (up c a p a' q) d e r.2 ∧ Rows (up c a p a' q) d (nR c).toInt.toNat ∧ f_computed r.2 = 1 ∧ e.1.length = 32) := by
 obtain ⟨a0, b0, a1, b1, d, e, h, D, he⟩ := U
 obtain ⟨o1, p, s1, s2, h1⟩ := start_m h ha hb
 obtain ⟨o2, q, s3, s4, h2⟩ := end_m h1 ha' hb'
 have h2' : Sh (up c a p a' q) d e o2 := h2
 have G' : GX (up c a p a' q) := G
 have F' : HF (up c a p a' q) := Or.inl F
 unfold F8
 rw [s1, Option.bind_some, s3, Option.bind_some]
 apply okP.bind
 refine okP.mono (comp_m h2' G' rfl rfl F' D he) ?_
 rintro ⟨r, z⟩ (⟨_, w⟩ | ⟨_, r0, hc, d', e', R, hs, hz⟩)
 ·exact absurd ⟨w.1, w.2.1⟩ no
 ·simp only at r0 hc hz
  subst r0
  exact okP.some ⟨rfl, p, q, d', e', s2, s4, hz, R, hc, hs⟩
theorem AG_up (c : CC) (a b a' b' : Int32) (r k : Nat) : AG (up c a b a' b') r k = acc c (fun i => inF (up c a b a' b') r ((LL c r).getD i 0) k i) (LL c r) (LL c r).length := by
 unfold AG
 rw [LL_up, acc_up]
theorem pos_u {c : CC} {r k k' : Nat} (h : (LL c r)[k]? = some r) (h' : (LL c r)[k']? = some r) : k = k' := by
 obtain ⟨w, _⟩ := List.getElem?_eq_some_iff.1 h
 exact (List.getElem?_inj w (srt_nodup _ _ _)).1 (by rw [h, h'])
theorem ans_m {c : CC} {a b a' b' : Int32} {d : DD} {e : EE} {o : Ob} (h : Sh (up c a b a' b') d e o) (G : GX c) (F : fn' c = 0) (hc : f_computed o = 1) {x : Int32} {r : Nat} (hx : x.toInt = r) (hr : (r : Int) < (nR c).toInt) (R : Rows (up c a b a' b') d (nR c).toInt.toNat) {k : Nat} (hk : (LL c r)[k]? = some r) : F25 o x = some (S2 (fun i => wv c ((LL c r).getD i 0)) (fun i => inF (up c a b a' b') r ((LL c r).getD i 0) k i) (LL c r).length) ∧ F24 o x = some (S1 (fun i => inF (up c a b a' b') r ((LL c r).getD i 0) k i) (LL c r).length) := by
 obtain ⟨k', k1, k2, k3⟩ := res_m h F hc hx hr G.1.2.2.2.2.2 (R.2 r (by omega))
 rw [LL_up] at k1
 have := pos_u k1 hk
 subst this
 have s := acc_S c (fun i => inF (up c a b a' b') r ((LL c r).getD i 0) k' i) (LL c r) (LL c r).length
 rw [k2, k3, AG_up, s.1, s.2]
 exact ⟨rfl, rfl⟩
def Pz (c : CC) (s : List Int32) (x : Int32) (r : (Int32 × QHeap) ⊕ (Int32 × Ob)) : Prop := Sum.elim (fun e => e.1 = 1 ∧ ∃ p, Ux c p ∧ e.2 = H0 s p) (fun w : Int32 × Ob => (Ux c w.2 ∧ 0 ≤ w.1.toInt ∧ w.1.toInt ≤ (nR c).toInt) ∧ (100 - w.1.toInt).toNat < (100 - x.toInt).toNat) r
theorem row_p {c : CC} {s : List Int32} {o : Ob} (U : Ux c o) (G : GX c) (F : fn' c = 0) (no : ¬ (md c = 1 ∧ dr c = 0)) {K sd x : Int32} (k0 : 0 ≤ K.toInt) (k3 : K.toInt ≤ 3) (x0 : 0 ≤ x.toInt) (x1 : x.toInt ≤ (nR c).toInt) : okP (B0_341 s K sd (md c) (nR c) (x, o)) (Pz c s x) := by
 have r0 : 0 ≤ (nR c).toInt := G.1.2.2.2.2.1
 have r1 : (nR c).toInt ≤ 32 := G.1.2.2.2.2.2
 have z0 : (0 : Int32).toInt = 0 := rfl
 have z1 : (K + 1).toInt = K.toInt + 1 := inc1 (by omega)
 unfold B0_341
 simp only
 refine okP.ite (fun cc => ?_) (fun _ => okP.some ⟨rfl, o, U, rfl⟩)
 rw [i_lt] at cc
 obtain ⟨r, hx⟩ : ∃ r : Nat, x.toInt = r := ⟨x.toInt.toNat, by omega⟩
 have e1 : (x + 1).toInt = x.toInt + 1 := inc1 (by omega)
 have nx : ∀ p, Ux c p → okP (J0_617 s p K sd (md c) (nR c) x) (Pz c s x) := by
  intro p hp
  exact okP.some ⟨⟨hp, by simp only; omega, by simp only; omega⟩, by simp only; omega⟩
 obtain ⟨a0, b0, a1, b1, d, e, h, D, he⟩ := id U
 obtain ⟨f0, _, _⟩ := fld_m h G hx (by show _ < (nR c).toInt; omega)
 have f0' : F7 o x 0 = some (pt c r) := f0
 rw [f0', Option.bind_some]
 apply okP.bind
 refine okP.mono (P := fun w : Int32 × Int64 => w.1.toInt = (LL c r).length ∧ w.2 = lsum (wv c) (LL c r)) ?_ ?_
 ·refine okP.loop (fun w : Int32 × Int64 × Int32 => ∃ i : Nat, w.2.2.toInt = (i : Int) ∧ (i : Int) ≤ (nR c).toInt ∧ w.1.toInt = (srt c (pt c r) i).length ∧ w.2.1 = lsum (wv c) (srt c (pt c r) i)) (fun w => (100 - w.2.2.toInt).toNat) ⟨0, rfl, r0, rfl, rfl⟩ (by show (100 - (0 : Int)).toNat < 4000; decide) ?_
  rintro ⟨n, t, y⟩ ⟨i, hy, iL, hn, ht⟩
  simp only at hy hn ht
  have sl := srt_len c (pt c r) i
  unfold B0_366
  simp only
  refine okP.ite (fun yc => ?_) (fun yc => ?_)
  ·rw [i_lt] at yc
   have e2 : (y + 1).toInt = y.toInt + 1 := inc1 (by omega)
   have e3 : (n + 1).toInt = n.toInt + 1 := inc1 (by omega)
   obtain ⟨g0, g2, g3⟩ := fld_m h G hy (by show _ < (nR c).toInt; omega)
   have g0' : F7 o y 0 = some (pt c i) := g0
   have g2' : F7 o y 2 = some (vl c i) := g2
   have g3' : F7 o y 3 = some (fg c i) := g3
   have es : srt c (pt c r) (i + 1) = if pt c i = pt c r then insL (bef c i) i (srt c (pt c r) i) else srt c (pt c r) i := rfl
   rw [g0', Option.bind_some]
   refine okP.ite (fun pe => ?_) (fun pe => ?_)
   ·rw [if_pos pe] at es
    rw [g3', Option.bind_some, g2', Option.bind_some]
    have vn : vN c i = !decide (fg c i &&& 2 = 0) := rfl
    unfold J0_417
    refine okP.ite (fun ve => ?_) (fun ve => ?_)
    ·refine okP.some ⟨⟨i + 1, by simp only; omega, by omega, ?_, ?_⟩, by simp only; omega⟩
     ·simp only; rw [es, insL_len, e3, hn]; omega
     ·simp only; rw [es, lsum_ins, ht]
      unfold wv
      rw [vn, decide_eq_true ve]; rfl
    ·refine okP.some ⟨⟨i + 1, by simp only; omega, by omega, ?_, ?_⟩, by simp only; omega⟩
     ·simp only; rw [es, insL_len, e3, hn]; omega
     ·simp only; rw [es, lsum_ins, ht]
      unfold wv
      rw [vn, decide_eq_false ve]
      simp only [Bool.not_false, if_true]
      rw [Int64.add_zero]
   ·rw [if_neg pe] at es
    unfold J0_417
    refine okP.some ⟨⟨i + 1, by simp only; omega, by omega, ?_, ?_⟩, by simp only; omega⟩
    ·simp only; rw [es, hn]
    ·simp only; rw [es, ht]
  ·rw [i_lt] at yc
   have : i = (nR c).toInt.toNat := by omega
   subst this
   exact okP.some ⟨hn, ht⟩
 rintro ⟨n, t⟩ ⟨hn, ht⟩
 simp only at hn ht ⊢
 have L32 : (LL c r).length ≤ 32 := Nat.le_trans (srt_len _ _ _) (by omega)
 have rm : r ∈ LL c r := (srt_mem c _ _ r).2 ⟨by omega, rfl⟩
 obtain ⟨k, kl, kr⟩ := List.mem_iff_getElem.1 rm
 have hk : (LL c r)[k]? = some r := by rw [List.getElem?_eq_getElem kl, kr]
 have sn : S1 (fun _ => true) (LL c r).length = n := by rw [i_eq, S1_len _ L32, hn]
 have st : S2 (fun i => wv c ((LL c r).getD i 0)) (fun _ => true) (LL c r).length = t := by rw [S2_take _ _ _ (Nat.le_refl _), List.take_length, ht]
 apply okP.bind
 refine okP.mono (frame_m U G F no (Or.inl rfl) (by decide) (Or.inl rfl) (by decide)) ?_
 rintro ⟨y, o1⟩ ⟨y1, p1, q1, d1, e1', _, _, h1, R1, c1, l1⟩
 simp only at y1 h1 c1 ⊢
 subst y1
 obtain ⟨A1, A2⟩ := ans_m h1 G F c1 hx (by omega) R1 hk
 have eW : (fun i => inF (up c 0 p1 4 q1) r ((LL c r).getD i 0) k i) = fun _ => true := funext (fun i => inF_W c p1 q1 r _ k i)
 rw [eW, st] at A1
 rw [eW, sn] at A2
 have U1 : Ux c o1 := ⟨_, _, _, _, d1, e1', h1, R1.1, l1⟩
 obtain ⟨_, _, g3⟩ := fld_m h1 G hx (by show _ < (nR c).toInt; omega)
 have g3' : F7 o1 x 3 = some (fg c r) := g3
 rw [if_neg (by decide), A2, Option.bind_some, A1, Option.bind_some, if_pos rfl, if_pos rfl, g3', Option.bind_some]
 have go : (md c = 0 ∨ kN c r = false) → okP (J0_490 s o1 K sd (md c) (nR c) x n t) (Pz c s x) := by
  intro hm
  have jB : ∀ {o3 : Ob} {g g' : Nat → Bool} {y : Int32}, y = 1 → Ux c o3 → (∀ i, g i = !g' i) → F25 o3 x = some (S2 (fun i => wv c ((LL c r).getD i 0)) g' (LL c r).length) → F24 o3 x = some (S1 g' (LL c r).length) → okP (J0_571 s o3 K sd (md c) (nR c) x n t (S1 g (LL c r).length) (S2 (fun i => wv c ((LL c r).getD i 0)) g (LL c r).length) y) (Pz c s x) := by
   intro o3 g g' y hy U3 hg B1 B2
   subst hy
   unfold J0_571
   rw [if_neg (by decide), B2, Option.bind_some, B1, Option.bind_some, S1_add g g' _ (fun i _ => hg i), S2_add _ g g' _ (fun i _ => hg i), if_pos sn, if_pos st]
   exact nx o3 U3
  unfold J0_490
  refine okP.ite (fun sd0 => ?_) (fun sd0 => ?_)
  ·apply okP.bind
   refine okP.mono (frame_m U1 G F no (Or.inl rfl) (by decide) (Or.inr (Or.inl rfl)) (by omega)) ?_
   rintro ⟨y, o2⟩ ⟨y1, p2, q2, d2, e2', _, hq, h2, R2, c2, l2⟩
   simp only at y1 h2 c2 ⊢
   have hq := hq (by decide)
   subst y1
   subst hq
   obtain ⟨C1, C2⟩ := ans_m h2 G F c2 hx (by omega) R2 hk
   have U2 : Ux c o2 := ⟨_, _, _, _, d2, e2', h2, R2.1, l2⟩
   unfold J0_519
   rw [if_neg (by decide), C2, Option.bind_some, C1, Option.bind_some, if_pos sd0]
   apply okP.bind
   refine okP.mono (frame_m U2 G F no (Or.inr (Or.inl rfl)) k0 (Or.inl rfl) (by decide)) ?_
   rintro ⟨y, o3⟩ ⟨y1, p3, q3, d3, e3', hp, _, h3, R3, c3, l3⟩
   simp only at y1 h3 c3 ⊢
   have hp := hp (by decide)
   subst hp
   obtain ⟨B1, B2⟩ := ans_m h3 G F c3 hx (by omega) R3 hk
   exact jB y1 ⟨_, _, _, _, d3, e3', h3, R3.1, l3⟩ (fun i => fr_0 c p2 q3 p3 k0 k3 G.2 r _ k i hm) B1 B2
  ·apply okP.bind
   refine okP.mono (frame_m U1 G F no (Or.inl rfl) (by decide) (Or.inr (Or.inr rfl)) k0) ?_
   rintro ⟨y, o2⟩ ⟨y1, p2, q2, d2, e2', _, hq, h2, R2, c2, l2⟩
   simp only at y1 h2 c2 ⊢
   have hq := hq (by decide)
   subst y1
   subst hq
   obtain ⟨C1, C2⟩ := ans_m h2 G F c2 hx (by omega) R2 hk
   have U2 : Ux c o2 := ⟨_, _, _, _, d2, e2', h2, R2.1, l2⟩
   unfold J0_519
   rw [if_neg (by decide), C2, Option.bind_some, C1, Option.bind_some, if_neg sd0]
   apply okP.bind
   refine okP.mono (frame_m U2 G F no (Or.inr (Or.inr rfl)) (b := q2 + 1) (by omega) (Or.inl rfl) (by decide)) ?_
   rintro ⟨y, o3⟩ ⟨y1, p3, q3, d3, e3', hp, _, h3, R3, c3, l3⟩
   simp only at y1 h3 c3 ⊢
   have hp := hp (by decide)
   subst hp
   obtain ⟨B1, B2⟩ := ans_m h3 G F c3 hx (by omega) R3 hk
   exact jB y1 ⟨_, _, _, _, d3, e3', h3, R3.1, l3⟩ (fun i => fr_1 c p2 q3 q2 k0 k3 G.2 r _ k i hm) B1 B2
 refine okP.ite (fun m0 => go (Or.inl m0)) (fun m0 => ?_)
 refine okP.ite (fun f1 => go (Or.inr ?_)) (fun _ => nx o1 U1)
 show (!decide (fg c r &&& 1 = 0)) = false
 rw [decide_eq_true f1]; rfl
theorem add_s {o : Ob} (h : St o 16) (a b v f : Int32) : okP (F3 o a b v f) (fun r => St r.2 16) := by
 obtain ⟨⟨⟨G1, G2, G3, G4, r0, r1⟩, gn⟩, ⟨D1, D2, D3⟩, so, cp⟩ := id h
 have z16 : (16 : Int32).toInt = 16 := rfl
 have r0' : 0 ≤ (f_rows o).toInt := r0
 have G1' : (f_part o).length = 32 := G1
 have G2' : (f_keys o).length = 32 := G2
 have G3' : (f_vals o).length = 32 := G3
 have G4' : (f_flg o).length = 32 := G4
 unfold F3
 rw [cp]
 refine okP.ite (fun _ => okP.some h) (fun _ => ?_)
 refine okP.ite (fun _ => okP.some h) (fun _ => ?_)
 refine okP.ite (fun c => ?_) (fun _ => okP.some h)
 rw [i_lt, z16] at c
 have e1 : (f_rows o + 1).toInt = (f_rows o).toInt + 1 := inc1 (by omega)
 apply okP.bind; refine okP.aset r0' (by omega) ?_
 apply okP.bind; refine okP.aset r0' (by omega) ?_
 apply okP.bind; refine okP.aset r0' (by omega) ?_
 apply okP.bind; refine okP.aset r0' (by omega) ?_
 refine okP.some ?_
 obtain ⟨n, hn⟩ : ∃ n, n = f_rows o + 1 := ⟨_, rfl⟩
 rw [← hn] at e1 ⊢
 unfold St GX GC GD tq dq nl
 unfold nl tq at gn
 dsimp only [f_part, f_keys, f_vals, f_flg, f_res, f_resNull, f_frameCnt, f_sorted, f_cap, f_rows, f_direction, f_nulls, f_mode, f_startKind, f_startOff, f_endKind, f_endOff, f_fn, f_fnArg, f_computed, f_sortedLen, f_curPos, f_aggSum, f_aggCount, f_aggRows, f_aggMin, f_aggMax, s_part, s_keys, s_vals, s_flg, s_res, s_resNull, s_frameCnt, s_sorted, s_cap, s_rows, s_direction, s_nulls, s_mode, s_startKind, s_startOff, s_endKind, s_endOff, s_fn, s_fnArg, s_computed, s_sortedLen, s_curPos, s_aggSum, s_aggCount, s_aggRows, s_aggMin, s_aggMax] at gn G1' G2' G3' G4' D1 D2 D3 so cp e1 r0' c ⊢
 simp only [List.length_set]
 exact ⟨⟨⟨G1', G2', G3', G4', by omega, by omega⟩, gn⟩, ⟨D1, D2, D3⟩, so, cp⟩
theorem St_cd {o : Ob} (h : St o 16) (v : Int32) : St (s_computed o v) 16 := by
 unfold St GX GC GD tq dq nl at h ⊢
 dsimp only [f_part, f_keys, f_vals, f_flg, f_res, f_resNull, f_frameCnt, f_sorted, f_cap, f_rows, f_direction, f_nulls, f_mode, f_startKind, f_startOff, f_endKind, f_endOff, f_fn, f_fnArg, f_computed, f_sortedLen, f_curPos, f_aggSum, f_aggCount, f_aggRows, f_aggMin, f_aggMax, s_part, s_keys, s_vals, s_flg, s_res, s_resNull, s_frameCnt, s_sorted, s_cap, s_rows, s_direction, s_nulls, s_mode, s_startKind, s_startOff, s_endKind, s_endOff, s_fn, s_fnArg, s_computed, s_sortedLen, s_curPos, s_aggSum, s_aggCount, s_aggRows, s_aggMin, s_aggMax] at h ⊢
 exact h
theorem St_md {o : Ob} (h : St o 16) (v : Int32) : St (s_mode o v) 16 := by
 unfold St GX GC GD tq dq nl at h ⊢
 dsimp only [f_part, f_keys, f_vals, f_flg, f_res, f_resNull, f_frameCnt, f_sorted, f_cap, f_rows, f_direction, f_nulls, f_mode, f_startKind, f_startOff, f_endKind, f_endOff, f_fn, f_fnArg, f_computed, f_sortedLen, f_curPos, f_aggSum, f_aggCount, f_aggRows, f_aggMin, f_aggMax, s_part, s_keys, s_vals, s_flg, s_res, s_resNull, s_frameCnt, s_sorted, s_cap, s_rows, s_direction, s_nulls, s_mode, s_startKind, s_startOff, s_endKind, s_endOff, s_fn, s_fnArg, s_computed, s_sortedLen, s_curPos, s_aggSum, s_aggCount, s_aggRows, s_aggMin, s_aggMax] at h ⊢
 exact h
theorem St_sk {o : Ob} (h : St o 16) (v w : Int32) : St (s_startOff (s_startKind o v) w) 16 := by
 unfold St GX GC GD tq dq nl at h ⊢
 dsimp only [f_part, f_keys, f_vals, f_flg, f_res, f_resNull, f_frameCnt, f_sorted, f_cap, f_rows, f_direction, f_nulls, f_mode, f_startKind, f_startOff, f_endKind, f_endOff, f_fn, f_fnArg, f_computed, f_sortedLen, f_curPos, f_aggSum, f_aggCount, f_aggRows, f_aggMin, f_aggMax, s_part, s_keys, s_vals, s_flg, s_res, s_resNull, s_frameCnt, s_sorted, s_cap, s_rows, s_direction, s_nulls, s_mode, s_startKind, s_startOff, s_endKind, s_endOff, s_fn, s_fnArg, s_computed, s_sortedLen, s_curPos, s_aggSum, s_aggCount, s_aggRows, s_aggMin, s_aggMax] at h ⊢
 exact h
theorem St_ek {o : Ob} (h : St o 16) (v w : Int32) : St (s_endOff (s_endKind o v) w) 16 := by
 unfold St GX GC GD tq dq nl at h ⊢
 dsimp only [f_part, f_keys, f_vals, f_flg, f_res, f_resNull, f_frameCnt, f_sorted, f_cap, f_rows, f_direction, f_nulls, f_mode, f_startKind, f_startOff, f_endKind, f_endOff, f_fn, f_fnArg, f_computed, f_sortedLen, f_curPos, f_aggSum, f_aggCount, f_aggRows, f_aggMin, f_aggMax, s_part, s_keys, s_vals, s_flg, s_res, s_resNull, s_frameCnt, s_sorted, s_cap, s_rows, s_direction, s_nulls, s_mode, s_startKind, s_startOff, s_endKind, s_endOff, s_fn, s_fnArg, s_computed, s_sortedLen, s_curPos, s_aggSum, s_aggCount, s_aggRows, s_aggMin, s_aggMax] at h ⊢
 exact h
theorem St_fn {o : Ob} (h : St o 16) (v w : Int32) : St (s_fnArg (s_fn o v) w) 16 := by
 unfold St GX GC GD tq dq nl at h ⊢
 dsimp only [f_part, f_keys, f_vals, f_flg, f_res, f_resNull, f_frameCnt, f_sorted, f_cap, f_rows, f_direction, f_nulls, f_mode, f_startKind, f_startOff, f_endKind, f_endOff, f_fn, f_fnArg, f_computed, f_sortedLen, f_curPos, f_aggSum, f_aggCount, f_aggRows, f_aggMin, f_aggMax, s_part, s_keys, s_vals, s_flg, s_res, s_resNull, s_frameCnt, s_sorted, s_cap, s_rows, s_direction, s_nulls, s_mode, s_startKind, s_startOff, s_endKind, s_endOff, s_fn, s_fnArg, s_computed, s_sortedLen, s_curPos, s_aggSum, s_aggCount, s_aggRows, s_aggMin, s_aggMax] at h ⊢
 exact h
theorem St_or {o : Ob} (h : St o 16) (v w : Int32) (hw : w = 0 ∨ w = 1) : St (s_nulls (s_direction o v) w) 16 := by
 obtain ⟨⟨g, gn⟩, h⟩ := h
 unfold St GX GC GD tq dq nl at *
 dsimp only [f_part, f_keys, f_vals, f_flg, f_res, f_resNull, f_frameCnt, f_sorted, f_cap, f_rows, f_direction, f_nulls, f_mode, f_startKind, f_startOff, f_endKind, f_endOff, f_fn, f_fnArg, f_computed, f_sortedLen, f_curPos, f_aggSum, f_aggCount, f_aggRows, f_aggMin, f_aggMax, s_part, s_keys, s_vals, s_flg, s_res, s_resNull, s_frameCnt, s_sorted, s_cap, s_rows, s_direction, s_nulls, s_mode, s_startKind, s_startOff, s_endKind, s_endOff, s_fn, s_fnArg, s_computed, s_sortedLen, s_curPos, s_aggSum, s_aggCount, s_aggRows, s_aggMin, s_aggMax] at g h ⊢
 exact ⟨⟨g, hw⟩, h⟩
theorem St_cl {o : Ob} (h : St o 16) : St (s_rows o 0) 16 := by
 obtain ⟨⟨⟨G1, G2, G3, G4, r0, r1⟩, gn⟩, h⟩ := h
 unfold St GX GC GD tq dq nl at *
 dsimp only [f_part, f_keys, f_vals, f_flg, f_res, f_resNull, f_frameCnt, f_sorted, f_cap, f_rows, f_direction, f_nulls, f_mode, f_startKind, f_startOff, f_endKind, f_endOff, f_fn, f_fnArg, f_computed, f_sortedLen, f_curPos, f_aggSum, f_aggCount, f_aggRows, f_aggMin, f_aggMax, s_part, s_keys, s_vals, s_flg, s_res, s_resNull, s_frameCnt, s_sorted, s_cap, s_rows, s_direction, s_nulls, s_mode, s_startKind, s_startOff, s_endKind, s_endOff, s_fn, s_fnArg, s_computed, s_sortedLen, s_curPos, s_aggSum, s_aggCount, s_aggRows, s_aggMin, s_aggMax] at G1 G2 G3 G4 gn h ⊢
 exact ⟨⟨⟨G1, G2, G3, G4, by decide, by decide⟩, gn⟩, h⟩
theorem St_cp {o : Ob} (h : St o 16) : okP (F11 o) (fun r => St r.2 16) := by
 refine okP.mono (compute_ok (Sh_q o) h.1.1 h.2.1 h.2.2.1) ?_
 rintro r (rfl | ⟨r0, p, d', e', D, l, hp, hr⟩)
 ·exact h
 ·rw [hr]
  obtain ⟨t1, t2, t3⟩ := Sh_c hp
  refine St_cd ⟨by rw [t1]; exact h.1, by rw [t2]; exact D.1, ?_, ?_⟩ 1
  ·show (eq' p).1.length = 32
   rw [t3]; exact l
  ·show (tq p).2.2.2.2.2.1 = 16
   rw [t1]; exact h.2.2.2
theorem set_s {o : Ob} (h : St o 16) (a b : Int32) : okP (F29 o a b) (fun r => St r.2 16) ∧ okP (F28 o a) (fun r => St r.2 16) ∧ okP (F9 o a b) (fun r => St r.2 16) ∧ okP (F10 o a b) (fun r => St r.2 16) ∧ okP (F4 o a b) (fun r => St r.2 16) := by
 have z0 : (0 : Int32).toInt = 0 := rfl
 have z1 : (1 : Int32).toInt = 1 := rfl
 unfold F29 F28 F9 F10 F4 J9_37 J10_38 J4_40
 refine ⟨?_, ?_, ?_, ?_, ?_⟩
 ·refine okP.ite (fun _ => okP.some h) (fun _ => ?_)
  refine okP.ite (fun _ => okP.some h) (fun _ => ?_)
  refine okP.ite (fun _ => okP.some h) (fun b0 => ?_)
  refine okP.ite (fun _ => okP.some h) (fun b1 => ?_)
  rw [i_lt] at b0 b1
  exact okP.some (St_cd (St_or h _ _ (small_cases (P := fun k => k = 0 ∨ k = 1) (by omega) (n := 2) (by omega) (by decide))) _)
 ·refine okP.ite (fun _ => okP.some h) (fun _ => ?_)
  exact okP.ite (fun _ => okP.some h) (fun _ => okP.some (St_cd (St_md h _) _))
 ·refine okP.ite (fun _ => okP.some h) (fun _ => ?_)
  refine okP.ite (fun _ => okP.some h) (fun _ => ?_)
  refine okP.ite (fun _ => okP.some (St_cd (St_sk h _ _) _)) (fun _ => ?_)
  exact okP.ite (fun _ => okP.some h) (fun _ => okP.some (St_cd (St_sk h _ _) _))
 ·refine okP.ite (fun _ => okP.some h) (fun _ => ?_)
  refine okP.ite (fun _ => okP.some h) (fun _ => ?_)
  refine okP.ite (fun _ => okP.some (St_cd (St_ek h _ _) _)) (fun _ => ?_)
  exact okP.ite (fun _ => okP.some h) (fun _ => okP.some (St_cd (St_ek h _ _) _))
 ·refine okP.ite (fun _ => okP.some h) (fun _ => ?_)
  refine okP.ite (fun _ => okP.some h) (fun _ => ?_)
  refine okP.ite (fun _ => okP.some (St_cd (St_fn h _ _) _)) (fun _ => ?_)
  exact okP.ite (fun _ => okP.some h) (fun _ => okP.some (St_cd (St_fn h _ _) _))
theorem script {s : List Int32} (hs : s.length ≤ 260) {o : Ob} (h : St o 16) (K sd : Int32) : okP (loopN (B0_36 s K sd) qN (1, o)) (fun p => St p 16) := by
 have hl := len_i (n := s.length) (by omega)
 have z1 : (1 : Int32).toInt = 1 := rfl
 have z2 : (2 : Int32).toInt = 2 := rfl
 have z3 : (3 : Int32).toInt = 3 := rfl
 have z4 : (4 : Int32).toInt = 4 := rfl
 have z5 : (5 : Int32).toInt = 5 := rfl
 refine okP.loop (fun w : Int32 × Ob => St w.2 16 ∧ 0 ≤ w.1.toInt ∧ w.1.toInt ≤ 1000) (fun w => (1000 - w.1.toInt).toNat) ⟨h, by show (0 : Int) ≤ 1; decide, by show (1 : Int) ≤ 1000; decide⟩ (by show (1000 - (1 : Int)).toNat < 4000; decide) ?_
 rintro ⟨x, p⟩ ⟨Sp, x0, xL⟩
 simp only at Sp x0 xL
 unfold B0_36
 simp only
 have a4 : (x + 4).toInt = x.toInt + 4 := by rw [i_add (by omega) (by omega), z4]
 refine okP.ite (fun cc => ?_) (fun _ => okP.some Sp)
 rw [i_lt, a4, hl] at cc
 have a1 : (x + 1).toInt = x.toInt + 1 := inc1 (by omega)
 have a2 : (x + 2).toInt = x.toInt + 2 := by rw [i_add (by omega) (by omega), z2]
 have a3 : (x + 3).toInt = x.toInt + 3 := by rw [i_add (by omega) (by omega), z3]
 have a5 : (x + 5).toInt = x.toInt + 5 := by rw [i_add (by omega) (by omega), z5]
 have nx : ∀ q : Ob, St q 16 → okP (J0_277 s q K sd x) (fun r => Sum.elim (fun p => St p 16) (fun w : Int32 × Ob => (St w.2 16 ∧ 0 ≤ w.1.toInt ∧ w.1.toInt ≤ 1000) ∧ (1000 - w.1.toInt).toNat < (1000 - x.toInt).toNat) r) := by
  intro q hq
  exact okP.some ⟨⟨hq, by simp only; omega, by simp only; omega⟩, by simp only; omega⟩
 apply okP.bind; refine okP.aget (by omega) (by omega) (fun y0 _ => ?_)
 apply okP.bind; refine okP.aget (by omega) (by omega) (fun y1 _ => ?_)
 apply okP.bind; refine okP.aget (by omega) (by omega) (fun y2 _ => ?_)
 apply okP.bind; refine okP.aget (by omega) (by omega) (fun y3 _ => ?_)
 apply okP.bind; refine okP.aget (by omega) (by omega) (fun y4 _ => ?_)
 refine okP.ite (fun _ => ?_) (fun _ => okP.bind (okP.mono (add_s Sp _ _ _ _) (fun r hr => nx _ hr)))
 refine okP.ite (fun _ => ?_) (fun _ => ?_)
 ·apply okP.bind
  unfold F30
  exact okP.some (nx _ (St_cd (St_cl Sp) _))
 refine okP.ite (fun _ => okP.bind (okP.mono (set_s Sp _ _).1 (fun r hr => nx _ hr))) (fun _ => ?_)
 refine okP.ite (fun _ => okP.bind (okP.mono (set_s Sp _ 0).2.1 (fun r hr => nx _ hr))) (fun _ => ?_)
 refine okP.ite (fun _ => okP.bind (okP.mono (set_s Sp _ _).2.2.1 (fun r hr => nx _ hr))) (fun _ => ?_)
 refine okP.ite (fun _ => okP.bind (okP.mono (set_s Sp _ _).2.2.2.1 (fun r hr => nx _ hr))) (fun _ => ?_)
 refine okP.ite (fun _ => okP.bind (okP.mono (set_s Sp _ _).2.2.2.2 (fun r hr => nx _ hr))) (fun _ => ?_)
 exact okP.bind (okP.mono (St_cp Sp) (fun r hr => nx _ hr))
theorem Ux.fit {c : CC} {o : Ob} (h : Ux c o) (G : GX c) (s : List Int32) : sFit s (H0 s o) := by
 obtain ⟨a, b, a', b', d, e, ⟨t1, t2, t3⟩, ⟨D1, D2, D3⟩, so⟩ := h
 obtain ⟨⟨G1, G2, G3, G4, r0, r1⟩, gn⟩ := G
 have G1' : (f_part o).length = 32 := by rw [show f_part o = c.1 from congrArg (fun x : CC => x.1) t1]; exact G1
 have G2' : (f_keys o).length = 32 := by rw [show f_keys o = c.2.1 from congrArg (fun x : CC => x.2.1) t1]; exact G2
 have G3' : (f_vals o).length = 32 := by rw [show f_vals o = c.2.2.1 from congrArg (fun x : CC => x.2.2.1) t1]; exact G3
 have G4' : (f_flg o).length = 32 := by rw [show f_flg o = c.2.2.2.1 from congrArg (fun x : CC => x.2.2.2.1) t1]; exact G4
 subst t2
 subst t3
 have D1' : (f_res o).length = 32 := D1
 have D2' : (f_resNull o).length = 32 := D2
 have D3' : (f_frameCnt o).length = 32 := D3
 have so' : (f_sorted o).length = 32 := so
 refine ⟨by show 10 - 1 ≤ _; decide, ?_⟩
 simp only [H0, H0v, qhs, qsz, G1', G2', G3', G4', D1', D2', D3', so']
 simp only [cN, room_1]
 omega
theorem fin_s {s : List Int32} {o : Ob} (h : St o 16) (F : f_fn o = 0) (no : ¬ (f_mode o = 1 ∧ f_direction o = 0)) {K sd : Int32} (k0 : 0 ≤ K.toInt) (k3 : K.toInt ≤ 3) : okP (J0_332 s o K sd (f_mode o)) (fun e => e.1 = 1 ∧ sFit s e.2) := by
 have r0 : 0 ≤ (nR (tq o)).toInt := h.1.1.2.2.2.2.1
 have r1 : (nR (tq o)).toInt ≤ 32 := h.1.1.2.2.2.2.2
 have U : Ux (tq o) o := ⟨_, _, _, _, dq o, eq' o, Sh_q o, h.2.1, h.2.2.1⟩
 unfold J0_332 F6
 rw [Option.bind_some]
 show okP ((loopN (B0_341 s K sd (md (tq o)) (nR (tq o))) qN (0, o)).bind _) _
 have F' : fn' (tq o) = 0 := F
 have no' : ¬ (md (tq o) = 1 ∧ dr (tq o) = 0) := no
 have G := h.1
 generalize tq o = c at *
 apply okP.bind
 refine okP.mono (P := fun e : Int32 × QHeap => e.1 = 1 ∧ ∃ p, Ux c p ∧ e.2 = H0 s p) ?_ ?_
 ·refine okP.loop (fun w : Int32 × Ob => Ux c w.2 ∧ 0 ≤ w.1.toInt ∧ w.1.toInt ≤ (nR c).toInt) (fun w => (100 - w.1.toInt).toNat) ⟨U, by show (0 : Int) ≤ 0; decide, r0⟩ (by show (100 - (0 : Int)).toNat < 4000; decide) ?_
  rintro ⟨x, p⟩ ⟨Up, x0, x1⟩
  exact row_p Up G F' no' k0 k3 x0 x1
 ·rintro ⟨e, τ⟩ ⟨e1, p, Up, ht⟩
  simp only at e1 ht
  subst ht
  exact okP.some ⟨e1, Up.fit G s⟩
theorem all_s {s : List Int32} (hs : s.length ≤ 260) {o : Ob} (h : St o 16) {K sd : Int32} (k0 : 0 ≤ K.toInt) (k3 : K.toInt ≤ 3) : okP (J0_33 s o K sd) (fun e => e.1 = 1 ∧ sFit s e.2) := by
 unfold J0_33
 apply okP.bind
 refine okP.mono (script hs h K sd) (fun p hp => ?_)
 have sf : F4 p 0 0 = some (1, s_computed (s_fnArg (s_fn p 0) 0) 0) := rfl
 rw [sf, Option.bind_some, if_neg (show ¬ (1 : Int32) = 0 by decide)]
 have hq := St_cd (St_fn hp 0 0) 0
 have qf : f_fn (s_computed (s_fnArg (s_fn p 0) 0) 0) = 0 := by dsimp only [f_part, f_keys, f_vals, f_flg, f_res, f_resNull, f_frameCnt, f_sorted, f_cap, f_rows, f_direction, f_nulls, f_mode, f_startKind, f_startOff, f_endKind, f_endOff, f_fn, f_fnArg, f_computed, f_sortedLen, f_curPos, f_aggSum, f_aggCount, f_aggRows, f_aggMin, f_aggMax, s_part, s_keys, s_vals, s_flg, s_res, s_resNull, s_frameCnt, s_sorted, s_cap, s_rows, s_direction, s_nulls, s_mode, s_startKind, s_startOff, s_endKind, s_endOff, s_fn, s_fnArg, s_computed, s_sortedLen, s_curPos, s_aggSum, s_aggCount, s_aggRows, s_aggMin, s_aggMax]
 generalize s_computed (s_fnArg (s_fn p 0) 0) 0 = q at *
 have g2 : F5 q 2 = some (f_mode q) := rfl
 have g0 : F5 q 0 = some (f_direction q) := rfl
 simp only
 rw [g2, Option.bind_some, g0, Option.bind_some]
 refine okP.ite (fun m1 => ?_) (fun m1 => fin_s hq qf (fun w => m1 w.1) k0 k3)
 refine okP.ite (fun d0 => ?_) (fun d0 => fin_s hq qf (fun w => d0 w.2) k0 k3)
 have sm : F28 q 0 = some (1, s_computed (s_mode q 0) 0) := rfl
 rw [sm, Option.bind_some, if_neg (show ¬ (1 : Int32) = 0 by decide)]
 have hr := St_cd (St_md hq 0) 0
 have rf : f_fn (s_computed (s_mode q 0) 0) = 0 := by
  have : f_fn (s_computed (s_mode q 0) 0) = f_fn q := by dsimp only [f_part, f_keys, f_vals, f_flg, f_res, f_resNull, f_frameCnt, f_sorted, f_cap, f_rows, f_direction, f_nulls, f_mode, f_startKind, f_startOff, f_endKind, f_endOff, f_fn, f_fnArg, f_computed, f_sortedLen, f_curPos, f_aggSum, f_aggCount, f_aggRows, f_aggMin, f_aggMax, s_part, s_keys, s_vals, s_flg, s_res, s_resNull, s_frameCnt, s_sorted, s_cap, s_rows, s_direction, s_nulls, s_mode, s_startKind, s_startOff, s_endKind, s_endOff, s_fn, s_fnArg, s_computed, s_sortedLen, s_curPos, s_aggSum, s_aggCount, s_aggRows, s_aggMin, s_aggMax]
  rw [this]; exact qf
 have rm : f_mode (s_computed (s_mode q 0) 0) = 0 := by dsimp only [f_part, f_keys, f_vals, f_flg, f_res, f_resNull, f_frameCnt, f_sorted, f_cap, f_rows, f_direction, f_nulls, f_mode, f_startKind, f_startOff, f_endKind, f_endOff, f_fn, f_fnArg, f_computed, f_sortedLen, f_curPos, f_aggSum, f_aggCount, f_aggRows, f_aggMin, f_aggMax, s_part, s_keys, s_vals, s_flg, s_res, s_resNull, s_frameCnt, s_sorted, s_cap, s_rows, s_direction, s_nulls, s_mode, s_startKind, s_startOff, s_endKind, s_endOff, s_fn, s_fnArg, s_computed, s_sortedLen, s_curPos, s_aggSum, s_aggCount, s_aggRows, s_aggMin, s_aggMax]
 generalize s_computed (s_mode q 0) 0 = r at *
 have := fin_s (s := s) (sd := sd) hr rf (fun w => by rw [rm] at w; exact absurd w.1 (by decide)) k0 k3
 rw [rm] at this
 exact this
theorem law_ok (s : List Int32) (hs : s.length ≤ 260) : ∃ τ, F0 s = some (1, τ) ∧ τ.length - List.length ([Sum.inr (Sum.inl (FieldType.int, s))] : QHeap) ≤ room_1.cells ∧ qhs τ - qhs [Sum.inr (Sum.inl (FieldType.int, s))] ≤ room_1.slots := by
 have hl := len_i (n := s.length) (by omega)
 have z0 : (0 : Int32).toInt = 0 := rfl
 have : okP (F0 s) (fun e => e.1 = 1 ∧ sFit s e.2) := by
  unfold F0
  have i0 : okP (F1 16) (fun o => St o 16) := by
   unfold F1 F2
   rw [Option.bind_some]
   refine okP.some ?_
   unfold St GX GC GD tq dq nl
   dsimp only [f_part, f_keys, f_vals, f_flg, f_res, f_resNull, f_frameCnt, f_sorted, f_cap, f_rows, f_direction, f_nulls, f_mode, f_startKind, f_startOff, f_endKind, f_endOff, f_fn, f_fnArg, f_computed, f_sortedLen, f_curPos, f_aggSum, f_aggCount, f_aggRows, f_aggMin, f_aggMax, s_part, s_keys, s_vals, s_flg, s_res, s_resNull, s_frameCnt, s_sorted, s_cap, s_rows, s_direction, s_nulls, s_mode, s_startKind, s_startOff, s_endKind, s_endOff, s_fn, s_fnArg, s_computed, s_sortedLen, s_curPos, s_aggSum, s_aggCount, s_aggRows, s_aggMin, s_aggMax]
   refine ⟨⟨⟨List.length_replicate, List.length_replicate, List.length_replicate, List.length_replicate, by decide, by decide⟩, Or.inr rfl⟩, ⟨List.length_replicate, List.length_replicate, List.length_replicate⟩, List.length_replicate, by decide⟩
  apply okP.bind
  refine okP.mono i0 (fun o S => ?_)
  refine okP.ite (fun c => ?_) (fun _ => all_s hs S (by decide) (by decide))
  rw [i_lt, hl, z0] at c
  apply okP.bind; refine okP.aget (by decide) (by rw [z0]; omega) (fun y0 _ => ?_)
  apply okP.bind; refine okP.aget (by decide) (by rw [z0]; omega) (fun y1 _ => ?_)
  have r := and_rng (x := y0) (m := 3) (by decide)
  exact all_s hs S r.1 r.2
 obtain ⟨⟨r, τ⟩, q1, q2, q3⟩ := this
 simp only at q2
 subst q2
 exact ⟨τ, q1, q3⟩
set_option maxRecDepth 65536 in
theorem comes_1 {Post : Tables → Env → Array Value → State → Outcome → State → Prop} (hpost : ∀ tb e args s v u, (limb_1_1.after args s (.returned v) u = true ∧ limb_1_2.after args s (.returned v) u = true ∧ True) → FrameEnd s (.returned v) u (Jvm.fieldLocs frame_1_writes args s ++ Jvm.arrayLocs frame_1_arrays args s ++ Jvm.staticLocs frame_1_statics s) 32 640 → Post tb e args s (.returned v) u) :
    ArmFor flags0 classFile x code maxLocals ret World_1 tables_1 room_1 Calls_1 rest_1 Pre_1 Post := by
  intro l hfl _ _ p e ha hc hk s m args below hf hA hF happ hP
  obtain ⟨hcalls, hrest, hpre⟩ := hP
  obtain ⟨-, -, -, hnamed, -, -, -, hat⟩ := (Spec.applies_iff hf).mp happ
  obtain ⟨hg, hn⟩ := and_e (Cond.before_iff.mp (show (Jvm.Cond.and given_1 narrow_1).before args s = true from hpre))
  obtain ⟨g0, g1⟩ := and_e hg
  obtain ⟨w0, rfl⟩ : ∃ w0 : Value, args = #[w0] := by
    have hs : args.size = 1 := by simpa [Cond.value, given_1] using g0
    obtain ⟨L⟩ := args
    match L, hs with
    | [w0], _ => exact ⟨w0, rfl⟩
  have hw := fun d (hd : d ∈ tables_1) => atoms_spec (ws := Jvm.Cond.code x code maxLocals ret :: tables_1) hat d (List.mem_cons_of_mem _ hd)
  have hfit : Fit s := fun {y c} hc i hi => by
    obtain ⟨ha, rfl⟩ := Array.getElem?_eq_some_iff.mp hc
    have q := List.all_eq_true.mp ((Array.all_eq_true_iff_forall_mem.mp hF) _ (Array.getElem_mem ha)) i (List.mem_range.mpr hi)
    simpa [Array.getElem?_eq_getElem hi] using q
  obtain ⟨n1, n2⟩ := and_e hn
  obtain ⟨a, cl, xs, rfl, hA1, hA2, hlen⟩ := script_ok hfit n1 n2
  obtain ⟨τ, hF0, hc1, hs1⟩ := law_ok xs hlen
  have hlt := hA1.lt
  have Ad : QAd s.heap.size (fun k => match k with | 0 => a | k + 1 => s.heap.size + k) := ⟨fun k hk => by cases k with | zero => exact absurd hk (by decide) | succ k => rfl, fun i j h => by
    cases i with
    | zero => cases j with
      | zero => rfl
      | succ j => have h' : a = s.heap.size + j := h; exact absurd hA1.lt (by rw [h']; exact Nat.not_lt.mpr (Nat.le_add_right _ _))
    | succ i => cases j with
      | zero => have h' : s.heap.size + i = a := h; exact absurd hA1.lt (by rw [← h']; exact Nat.not_lt.mpr (Nat.le_add_right _ _))
      | succ j => have h' : s.heap.size + i = s.heap.size + j := h; omega⟩
  have hR : QRep s s.heap.size (fun k => match k with | 0 => a | k + 1 => s.heap.size + k) s.heap [.inr (.inl (.int, xs))] := ⟨Nat.le_refl _, rfl, fun k c h => by
    cases k with
    | zero => cases h; exact ⟨cl, hA1, hA2⟩
    | succ k => cases h⟩
  have T := tF0 (l := l) (Z := s) Ad (QW_ok hw) xs hF0
  have M := QTri.met (k := 0) (as := [.ref 0]) (by decide) T hR (Nat.le_of_ble_eq_true rfl) (fun q => by cases q) tables_1 (rm := room_1) (by decide) (by decide) hc1 hs1
  obtain ⟨n, o, h1, h2, h3, _, L, rfl, ⟨rfl, R', N⟩, hq⟩ := M p e ha hc hk s m _ below hf ((Spec.applies_iff_loose hf).mp happ).1 ⟨rfl, State.Warmed39.refl s, rfl⟩ trivial
  refine ⟨n, _, h1, h2, h3, hpost _ _ _ _ _ _ ⟨Cond.after_iff.mpr rfl, Cond.after_iff.mpr (eq_i res_at (Term.int_eval (1)) rfl), trivial⟩ ⟨hq.1, hq.2.1, (hq.2.2.sift fun y hy => Or.inr (N y hy)).mono hc1 hs1⟩⟩
theorem main_1_1 : Claimed_1_1 := comes_1 fun _ _ _ _ _ _ h hF => ⟨h.1, hF⟩
theorem main_1_2 : Claimed_1_2 := comes_1 fun _ _ _ _ _ _ h hF => ⟨h.2.1, hF⟩
end Jvm.Pilot.@@N@@
namespace Jvm.Pilot.@@N@@
open Jvm Jvm.ClassFile Sem Op Lib Jvm.Free Jvm.Stand Jvm.Pilot.@@N@@.Jvm.D
/-! MADE BY PROGRAM (witnessworld.py) out of the Statement's table words and the real class files: 13 classes; the members and pool entries that the words name. The judged class is class 1, her method 1. -/
namespace start1
open Jvm.ClassFile
def u (s : String) : CpInfo := .utf8 (stringToUtf16 s)
/-- a pool by its gaps: so many unusable entries, then the entry; so many at the end -/
def gap : Nat → List CpInfo → List CpInfo
  | 0, r => r
  | n + 1, r => .unusable :: gap n r
def poolList (es : List (Nat × CpInfo)) (last : Nat) : List CpInfo := es.foldr (fun e r => gap e.1 (e.2 :: r)) (gap last [])
def pool (es : List (Nat × CpInfo)) (last : Nat) : Array CpInfo := ⟨poolList es last⟩
def fileOf (pool : Array CpInfo) (this : Nat) (attrs : Array Attribute := #[]) (ms : Array MethodInfo := #[]) (fl : Nat := 33) (sup : Nat := 0) (ifs : Array Nat := #[]) (fds : Array FieldInfo := #[]) : ClassFile where
  minorVersion := 0
  majorVersion := 65
  constantPool := pool
  accessFlags := fl
  thisClass := this
  superClass := sup
  interfaces := ifs
  fields := fds
  methods := ms
  attributes := attrs
def plain (name : String) (sup : Option ClassId) : Class where
  name := name
  kind := .ordinary
  loader := none
  accessFlags := 33
  super := sup
  interfaces := #[]
  cf := none
  fields := #[]
  methods := #[]
  instanceTypes := #[]
  staticTypes := #[]
  resolved := #[]
  callSites := []
  init := .initialized
  statics := none
  mirror := none

def pool0 : Array CpInfo := pool [(5, u "<init>"), (0, u "()V"), (1, .class_ 10), (1, u "java/lang/Object")] 113

def k0c0 : Code := { maxStack := 0, maxLocals := 1, code := object_method_1_code, exceptionTable := #[], attributes := #[] }
def k0m0 : Method := { name := "<init>", desc := "()V", sig := { parameters := [], returnType := none }, accessFlags := 1, code := some k0c0 }
/-- java/lang/Object -/
def k0 : Class := { plain "java/lang/Object" none with
  accessFlags := 33
  interfaces := #[]
  cf := some (fileOf pool0 8 #[] #[{ accessFlags := 1, nameIndex := 5, descriptorIndex := 6, attributes := #[] }] 33 0 #[] #[])
  fields := #[]
  methods := #[k0m0]
  instanceTypes := #[]
  staticTypes := #[]
  resolved := Array.replicate 124 none
  statics := none }

def pool1 : Array CpInfo := pool [(2, .class_ 4), (1, u "java/lang/Object"), (0, u "<init>"), (0, u "()V"), (0, .class_ 8), (0, u "WindowFuncEngine"), (0, .methodref 7 10), (0, .nameAndType 5 11), (0, u "(I)V"), (0, .methodref 7 13), (0, .nameAndType 14 15), (0, u "addRow"), (0, u "(IIII)I"), (0, .methodref 7 17), (0, .nameAndType 18 6), (0, u "clear"), (0, .methodref 7 20), (0, .nameAndType 21 22), (0, u "setOrder"), (0, u "(II)Z"), (0, .methodref 7 24), (0, .nameAndType 25 26), (0, u "setFrameMode"), (0, u "(I)Z"), (0, .methodref 7 28), (0, .nameAndType 29 22), (0, u "setFrameStart"), (0, .methodref 7 31), (0, .nameAndType 32 22), (0, u "setFrameEnd"), (0, .methodref 7 34), (0, .nameAndType 35 22), (0, u "setFunction"), (0, .methodref 7 37), (0, .nameAndType 38 39), (0, u "compute"), (0, u "()I"), (0, .methodref 7 41), (0, .nameAndType 42 43), (0, u "getSpec"), (0, u "(I)I"), (0, .methodref 7 45), (0, .nameAndType 46 39), (0, u "rowCount"), (0, .methodref 7 48), (0, .nameAndType 49 50), (0, u "getRowField"), (0, u "(II)I"), (0, .methodref 52 53), (0, .class_ 54), (0, .nameAndType 55 56), (0, u "WindowFuncEngineL7"), (0, u "frame"), (0, u "(LWindowFuncEngine;IIII)Z"), (0, .methodref 7 58), (0, .nameAndType 59 43), (0, u "getFrameCount"), (0, .methodref 7 61), (0, .nameAndType 62 63), (0, u "getResult"), (0, u "(I)J"), (2, u "law"), (0, u "([I)Z")] 5

def k1m0 : Method := { name := "<init>", desc := "()V", sig := { parameters := [], returnType := none }, accessFlags := 1, code := none }
def k1c1 : Code := { maxStack := 6, maxLocals := 24, code := code, exceptionTable := #[], attributes := #[] }
def k1m1 : Method := { name := "law", desc := "([I)Z", sig := { parameters := [(.array .int)], returnType := some .boolean }, accessFlags := 9, code := some k1c1 }
def k1c2 : Code := { maxStack := 3, maxLocals := 8, code := method_3_code, exceptionTable := #[], attributes := #[] }
def k1m2 : Method := { name := "frame", desc := "(LWindowFuncEngine;IIII)Z", sig := { parameters := [(.object "WindowFuncEngine"), .int, .int, .int, .int], returnType := some .boolean }, accessFlags := 10, code := some k1c2 }
/-- WindowFuncEngineL7 -/
def k1 : Class := { plain "WindowFuncEngineL7" (some 0) with
  accessFlags := 49
  interfaces := #[]
  cf := some (fileOf pool1 52 #[] #[{ accessFlags := 1, nameIndex := 5, descriptorIndex := 6, attributes := #[] }, { accessFlags := 9, nameIndex := 66, descriptorIndex := 67, attributes := #[] }, { accessFlags := 10, nameIndex := 55, descriptorIndex := 56, attributes := #[] }] 49 2 #[] #[])
  fields := #[]
  methods := #[k1m0, k1m1, k1m2]
  instanceTypes := #[]
  staticTypes := #[]
  resolved := Array.replicate 73 none
  statics := none }

def pool2 : Array CpInfo := pool [(1, .methodref 2 3), (0, .class_ 4), (0, .nameAndType 5 6), (0, u "java/lang/Object"), (0, u "<init>"), (0, u "()V"), (0, .fieldref 8 9), (0, .class_ 10), (0, .nameAndType 11 12), (0, u "WindowFuncEngine"), (0, u "part"), (0, u "[I"), (0, .fieldref 8 14), (0, .nameAndType 15 12), (0, u "keys"), (0, .fieldref 8 17), (0, .nameAndType 18 12), (0, u "vals"), (0, .fieldref 8 20), (0, .nameAndType 21 12), (0, u "flg"), (0, .fieldref 8 23), (0, .nameAndType 24 25), (0, u "res"), (0, u "[J"), (0, .fieldref 8 27), (0, .nameAndType 28 29), (0, u "resNull"), (0, u "[Z"), (0, .fieldref 8 31), (0, .nameAndType 32 12), (0, u "frameCnt"), (0, .fieldref 8 34), (0, .nameAndType 35 12), (0, u "sorted"), (0, .fieldref 8 37), (0, .nameAndType 38 39), (0, u "cap"), (0, u "I"), (0, .fieldref 8 41), (0, .nameAndType 42 39), (0, u "rows"), (0, .methodref 8 44), (0, .nameAndType 45 6), (0, u "resetSpec"), (0, .fieldref 8 47), (0, .nameAndType 48 49), (0, u "computed"), (0, u "Z"), (0, .fieldref 8 51), (0, .nameAndType 52 39), (0, u "direction"), (0, .fieldref 8 54), (0, .nameAndType 55 39), (0, u "nulls"), (0, .fieldref 8 57), (0, .nameAndType 58 39), (0, u "mode"), (0, .fieldref 8 60), (0, .nameAndType 61 39), (0, u "startKind"), (0, .fieldref 8 63), (0, .nameAndType 64 39), (0, u "startOff"), (0, .fieldref 8 66), (0, .nameAndType 67 39), (0, u "endKind"), (0, .fieldref 8 69), (0, .nameAndType 70 39), (0, u "endOff"), (0, .fieldref 8 72), (0, .nameAndType 73 39), (0, u "fn"), (0, .fieldref 8 75), (0, .nameAndType 76 39), (0, u "fnArg"), (0, .methodref 8 78), (0, .nameAndType 79 80), (0, u "needsOrder"), (0, u "()Z"), (0, .methodref 8 82), (0, .nameAndType 83 84), (0, u "computeRow"), (0, u "(I)V"), (0, .methodref 8 86), (0, .nameAndType 87 88), (0, u "keyNull"), (0, u "(I)Z"), (0, .methodref 8 90), (0, .nameAndType 91 92), (0, u "before"), (0, u "(II)Z"), (0, .fieldref 8 94), (0, .nameAndType 95 39), (0, u "sortedLen"), (0, .fieldref 8 97), (0, .nameAndType 98 39), (0, u "curPos"), (0, .methodref 8 100), (0, .nameAndType 101 92), (0, u "rowsStartHolds"), (0, .methodref 8 103), (0, .nameAndType 104 92), (0, u "rowsEndHolds"), (0, .methodref 8 106), (0, .nameAndType 107 108), (0, u "rangeStartHolds"), (0, u "(IIII)Z"), (0, .methodref 8 110), (0, .nameAndType 111 108), (0, u "rangeEndHolds"), (0, .methodref 8 113), (0, .nameAndType 114 92), (0, u "peer"), (0, .methodref 8 116), (0, .nameAndType 117 118), (0, u "distance"), (0, u "(II)J"), (0, .methodref 8 120), (0, .nameAndType 121 84), (0, u "buildPartition"), (0, .methodref 8 123), (0, .nameAndType 124 84), (0, u "aggregateFrame"), (0, .fieldref 8 126), (0, .nameAndType 127 39), (0, u "aggRows"), (0, .methodref 8 129), (0, .nameAndType 130 84), (0, u "applyFunction"), (0, .fieldref 8 132), (0, .nameAndType 133 134), (0, u "aggSum"), (0, u "J"), (0, .fieldref 8 136), (0, .nameAndType 137 39), (0, u "aggCount"), (0, .fieldref 8 139), (0, .nameAndType 140 39), (0, u "aggMin"), (0, .fieldref 8 142), (0, .nameAndType 143 39), (0, u "aggMax"), (0, .methodref 8 145), (0, .nameAndType 146 108), (0, u "inFrame"), (0, .methodref 8 148), (0, .nameAndType 149 88), (0, u "valNull"), (0, .methodref 8 151), (0, .nameAndType 152 153), (0, u "setRes"), (0, u "(IJZ)V"), (0, .methodref 8 155), (0, .nameAndType 156 118), (0, u "rankOf"), (0, .methodref 8 158), (0, .nameAndType 159 118), (0, u "denseRankOf"), (0, .methodref 8 161), (0, .nameAndType 162 163), (0, u "shiftValue"), (0, u "(IIZ)V"), (0, u "ERR"), (2, u "ORDER_NONE"), (1, u "ORDER_ASC"), (1, u "ORDER_DESC"), (1, u "NULLS_FIRST"), (0, u "NULLS_LAST"), (0, u "MODE_ROWS"), (0, u "MODE_RANGE"), (0, u "BOUND_UNBOUNDED_PRECEDING"), (0, u "BOUND_PRECEDING"), (0, u "BOUND_CURRENT_ROW"), (0, u "BOUND_FOLLOWING"), (1, u "BOUND_UNBOUNDED_FOLLOWING"), (1, u "FN_SUM"), (0, u "FN_COUNT"), (0, u "FN_COUNT_ROWS"), (0, u "FN_MIN"), (0, u "FN_MAX"), (0, u "FN_ROW_NUMBER"), (1, u "FN_RANK"), (1, u "FN_DENSE_RANK"), (1, u "FN_LAG"), (1, u "FN_LEAD"), (1, u "FLAG_KEY_NULL"), (0, u "FLAG_VALUE_NULL"), (0, u "STATUS_OK"), (0, u "STATUS_NEEDS_ORDER"), (0, u "FIELD_PARTITION"), (0, u "FIELD_KEY"), (0, u "FIELD_VALUE"), (0, u "FIELD_FLAGS"), (0, u "SPEC_DIRECTION"), (0, u "SPEC_NULLS"), (0, u "SPEC_MODE"), (0, u "SPEC_START_KIND"), (0, u "SPEC_START_OFFSET"), (0, u "SPEC_END_KIND"), (0, u "SPEC_END_OFFSET"), (0, u "SPEC_FUNCTION"), (0, u "SPEC_FUNCTION_ARG"), (0, u "SPEC_CAPACITY"), (3, u "addRow"), (0, u "(IIII)I"), (1, u "clear"), (0, u "rowCount"), (0, u "()I"), (0, u "setOrder"), (0, u "setFrameMode"), (0, u "setFrameStart"), (0, u "setFrameEnd"), (0, u "setFunction"), (0, u "compute"), (1, u "getResult"), (0, u "(I)J"), (1, u "getFrameCount"), (0, u "(I)I"), (0, u "getRowField"), (0, u "(II)I"), (0, u "getSpec")] 3

def k2c0 : Code := { maxStack := 2, maxLocals := 3, code := prog_1_method_1_code, exceptionTable := #[], attributes := #[] }
def k2m0 : Method := { name := "<init>", desc := "(I)V", sig := { parameters := [.int], returnType := none }, accessFlags := 1, code := some k2c0 }
def k2c1 : Code := { maxStack := 2, maxLocals := 1, code := prog_1_method_2_code, exceptionTable := #[], attributes := #[] }
def k2m1 : Method := { name := "resetSpec", desc := "()V", sig := { parameters := [], returnType := none }, accessFlags := 2, code := some k2c1 }
def k2c2 : Code := { maxStack := 4, maxLocals := 6, code := prog_1_method_3_code, exceptionTable := #[], attributes := #[] }
def k2m2 : Method := { name := "addRow", desc := "(IIII)I", sig := { parameters := [.int, .int, .int, .int], returnType := some .int }, accessFlags := 1, code := some k2c2 }
def k2c3 : Code := { maxStack := 2, maxLocals := 1, code := prog_1_method_4_code, exceptionTable := #[], attributes := #[] }
def k2m3 : Method := { name := "clear", desc := "()V", sig := { parameters := [], returnType := none }, accessFlags := 1, code := some k2c3 }
def k2c4 : Code := { maxStack := 1, maxLocals := 1, code := prog_1_method_5_code, exceptionTable := #[], attributes := #[] }
def k2m4 : Method := { name := "rowCount", desc := "()I", sig := { parameters := [], returnType := some .int }, accessFlags := 1, code := some k2c4 }
def k2c5 : Code := { maxStack := 2, maxLocals := 3, code := prog_1_method_6_code, exceptionTable := #[], attributes := #[] }
def k2m5 : Method := { name := "setOrder", desc := "(II)Z", sig := { parameters := [.int, .int], returnType := some .boolean }, accessFlags := 1, code := some k2c5 }
def k2c6 : Code := { maxStack := 2, maxLocals := 2, code := prog_1_method_7_code, exceptionTable := #[], attributes := #[] }
def k2m6 : Method := { name := "setFrameMode", desc := "(I)Z", sig := { parameters := [.int], returnType := some .boolean }, accessFlags := 1, code := some k2c6 }
def k2c7 : Code := { maxStack := 2, maxLocals := 4, code := prog_1_method_8_code, exceptionTable := #[], attributes := #[] }
def k2m7 : Method := { name := "setFrameStart", desc := "(II)Z", sig := { parameters := [.int, .int], returnType := some .boolean }, accessFlags := 1, code := some k2c7 }
def k2c8 : Code := { maxStack := 2, maxLocals := 4, code := prog_1_method_9_code, exceptionTable := #[], attributes := #[] }
def k2m8 : Method := { name := "setFrameEnd", desc := "(II)Z", sig := { parameters := [.int, .int], returnType := some .boolean }, accessFlags := 1, code := some k2c8 }
def k2c9 : Code := { maxStack := 2, maxLocals := 4, code := prog_1_method_10_code, exceptionTable := #[], attributes := #[] }
def k2m9 : Method := { name := "setFunction", desc := "(II)Z", sig := { parameters := [.int, .int], returnType := some .boolean }, accessFlags := 1, code := some k2c9 }
def k2c10 : Code := { maxStack := 2, maxLocals := 2, code := prog_1_method_11_code, exceptionTable := #[], attributes := #[] }
def k2m10 : Method := { name := "compute", desc := "()I", sig := { parameters := [], returnType := some .int }, accessFlags := 1, code := some k2c10 }
def k2c11 : Code := { maxStack := 2, maxLocals := 3, code := prog_1_method_12_code, exceptionTable := #[], attributes := #[] }
def k2m11 : Method := { name := "needsOrder", desc := "()Z", sig := { parameters := [], returnType := some .boolean }, accessFlags := 2, code := some k2c11 }
def k2c12 : Code := { maxStack := 2, maxLocals := 2, code := prog_1_method_14_code, exceptionTable := #[], attributes := #[] }
def k2m12 : Method := { name := "getResult", desc := "(I)J", sig := { parameters := [.int], returnType := some .long }, accessFlags := 1, code := some k2c12 }
def k2c13 : Code := { maxStack := 2, maxLocals := 2, code := prog_1_method_16_code, exceptionTable := #[], attributes := #[] }
def k2m13 : Method := { name := "getFrameCount", desc := "(I)I", sig := { parameters := [.int], returnType := some .int }, accessFlags := 1, code := some k2c13 }
def k2c14 : Code := { maxStack := 2, maxLocals := 3, code := prog_1_method_17_code, exceptionTable := #[], attributes := #[] }
def k2m14 : Method := { name := "getRowField", desc := "(II)I", sig := { parameters := [.int, .int], returnType := some .int }, accessFlags := 1, code := some k2c14 }
def k2c15 : Code := { maxStack := 2, maxLocals := 2, code := prog_1_method_18_code, exceptionTable := #[], attributes := #[] }
def k2m15 : Method := { name := "getSpec", desc := "(I)I", sig := { parameters := [.int], returnType := some .int }, accessFlags := 1, code := some k2c15 }
def k2c16 : Code := { maxStack := 2, maxLocals := 2, code := prog_1_method_19_code, exceptionTable := #[], attributes := #[] }
def k2m16 : Method := { name := "keyNull", desc := "(I)Z", sig := { parameters := [.int], returnType := some .boolean }, accessFlags := 2, code := some k2c16 }
def k2c17 : Code := { maxStack := 2, maxLocals := 2, code := prog_1_method_20_code, exceptionTable := #[], attributes := #[] }
def k2m17 : Method := { name := "valNull", desc := "(I)Z", sig := { parameters := [.int], returnType := some .boolean }, accessFlags := 2, code := some k2c17 }
def k2c18 : Code := { maxStack := 3, maxLocals := 5, code := prog_1_method_21_code, exceptionTable := #[], attributes := #[] }
def k2m18 : Method := { name := "before", desc := "(II)Z", sig := { parameters := [.int, .int], returnType := some .boolean }, accessFlags := 2, code := some k2c18 }
def k2c19 : Code := { maxStack := 3, maxLocals := 5, code := prog_1_method_22_code, exceptionTable := #[], attributes := #[] }
def k2m19 : Method := { name := "peer", desc := "(II)Z", sig := { parameters := [.int, .int], returnType := some .boolean }, accessFlags := 2, code := some k2c19 }
def k2c20 : Code := { maxStack := 5, maxLocals := 6, code := prog_1_method_23_code, exceptionTable := #[], attributes := #[] }
def k2m20 : Method := { name := "buildPartition", desc := "(I)V", sig := { parameters := [.int], returnType := none }, accessFlags := 2, code := some k2c20 }
def k2c21 : Code := { maxStack := 5, maxLocals := 5, code := prog_1_method_24_code, exceptionTable := #[], attributes := #[] }
def k2m21 : Method := { name := "inFrame", desc := "(IIII)Z", sig := { parameters := [.int, .int, .int, .int], returnType := some .boolean }, accessFlags := 2, code := some k2c21 }
def k2c22 : Code := { maxStack := 6, maxLocals := 9, code := prog_1_method_25_code, exceptionTable := #[], attributes := #[] }
def k2m22 : Method := { name := "rowsStartHolds", desc := "(II)Z", sig := { parameters := [.int, .int], returnType := some .boolean }, accessFlags := 2, code := some k2c22 }
def k2c23 : Code := { maxStack := 6, maxLocals := 9, code := prog_1_method_26_code, exceptionTable := #[], attributes := #[] }
def k2m23 : Method := { name := "rowsEndHolds", desc := "(II)Z", sig := { parameters := [.int, .int], returnType := some .boolean }, accessFlags := 2, code := some k2c23 }
def k2c24 : Code := { maxStack := 4, maxLocals := 3, code := prog_1_method_27_code, exceptionTable := #[], attributes := #[] }
def k2m24 : Method := { name := "distance", desc := "(II)J", sig := { parameters := [.int, .int], returnType := some .long }, accessFlags := 2, code := some k2c24 }
def k2c25 : Code := { maxStack := 4, maxLocals := 10, code := prog_1_method_28_code, exceptionTable := #[], attributes := #[] }
def k2m25 : Method := { name := "rangeStartHolds", desc := "(IIII)Z", sig := { parameters := [.int, .int, .int, .int], returnType := some .boolean }, accessFlags := 2, code := some k2c25 }
def k2c26 : Code := { maxStack := 4, maxLocals := 10, code := prog_1_method_29_code, exceptionTable := #[], attributes := #[] }
def k2m26 : Method := { name := "rangeEndHolds", desc := "(IIII)Z", sig := { parameters := [.int, .int, .int, .int], returnType := some .boolean }, accessFlags := 2, code := some k2c26 }
def k2c27 : Code := { maxStack := 3, maxLocals := 2, code := prog_1_method_30_code, exceptionTable := #[], attributes := #[] }
def k2m27 : Method := { name := "computeRow", desc := "(I)V", sig := { parameters := [.int], returnType := none }, accessFlags := 2, code := some k2c27 }
def k2c28 : Code := { maxStack := 5, maxLocals := 7, code := prog_1_method_31_code, exceptionTable := #[], attributes := #[] }
def k2m28 : Method := { name := "aggregateFrame", desc := "(I)V", sig := { parameters := [.int], returnType := none }, accessFlags := 2, code := some k2c28 }
def k2c29 : Code := { maxStack := 4, maxLocals := 5, code := prog_1_method_32_code, exceptionTable := #[], attributes := #[] }
def k2m29 : Method := { name := "setRes", desc := "(IJZ)V", sig := { parameters := [.int, .long, .boolean], returnType := none }, accessFlags := 2, code := some k2c29 }
def k2c30 : Code := { maxStack := 6, maxLocals := 5, code := prog_1_method_33_code, exceptionTable := #[], attributes := #[] }
def k2m30 : Method := { name := "applyFunction", desc := "(I)V", sig := { parameters := [.int], returnType := none }, accessFlags := 2, code := some k2c30 }
def k2c31 : Code := { maxStack := 4, maxLocals := 6, code := prog_1_method_34_code, exceptionTable := #[], attributes := #[] }
def k2m31 : Method := { name := "rankOf", desc := "(II)J", sig := { parameters := [.int, .int], returnType := some .long }, accessFlags := 2, code := some k2c31 }
def k2c32 : Code := { maxStack := 5, maxLocals := 7, code := prog_1_method_35_code, exceptionTable := #[], attributes := #[] }
def k2m32 : Method := { name := "denseRankOf", desc := "(II)J", sig := { parameters := [.int, .int], returnType := some .long }, accessFlags := 2, code := some k2c32 }
def k2c33 : Code := { maxStack := 6, maxLocals := 7, code := prog_1_method_36_code, exceptionTable := #[], attributes := #[] }
def k2m33 : Method := { name := "shiftValue", desc := "(IIZ)V", sig := { parameters := [.int, .int, .boolean], returnType := none }, accessFlags := 2, code := some k2c33 }
/-- WindowFuncEngine -/
def k2 : Class := { plain "WindowFuncEngine" (some 0) with
  accessFlags := 49
  interfaces := #[]
  cf := some (fileOf pool2 8 #[] #[{ accessFlags := 1, nameIndex := 5, descriptorIndex := 84, attributes := #[] }, { accessFlags := 2, nameIndex := 45, descriptorIndex := 6, attributes := #[] }, { accessFlags := 1, nameIndex := 220, descriptorIndex := 221, attributes := #[] }, { accessFlags := 1, nameIndex := 223, descriptorIndex := 6, attributes := #[] }, { accessFlags := 1, nameIndex := 224, descriptorIndex := 225, attributes := #[] }, { accessFlags := 1, nameIndex := 226, descriptorIndex := 92, attributes := #[] }, { accessFlags := 1, nameIndex := 227, descriptorIndex := 88, attributes := #[] }, { accessFlags := 1, nameIndex := 228, descriptorIndex := 92, attributes := #[] }, { accessFlags := 1, nameIndex := 229, descriptorIndex := 92, attributes := #[] }, { accessFlags := 1, nameIndex := 230, descriptorIndex := 92, attributes := #[] }, { accessFlags := 1, nameIndex := 231, descriptorIndex := 225, attributes := #[] }, { accessFlags := 2, nameIndex := 79, descriptorIndex := 80, attributes := #[] }, { accessFlags := 1, nameIndex := 233, descriptorIndex := 234, attributes := #[] }, { accessFlags := 1, nameIndex := 236, descriptorIndex := 237, attributes := #[] }, { accessFlags := 1, nameIndex := 238, descriptorIndex := 239, attributes := #[] }, { accessFlags := 1, nameIndex := 240, descriptorIndex := 237, attributes := #[] }, { accessFlags := 2, nameIndex := 87, descriptorIndex := 88, attributes := #[] }, { accessFlags := 2, nameIndex := 149, descriptorIndex := 88, attributes := #[] }, { accessFlags := 2, nameIndex := 91, descriptorIndex := 92, attributes := #[] }, { accessFlags := 2, nameIndex := 114, descriptorIndex := 92, attributes := #[] }, { accessFlags := 2, nameIndex := 121, descriptorIndex := 84, attributes := #[] }, { accessFlags := 2, nameIndex := 146, descriptorIndex := 108, attributes := #[] }, { accessFlags := 2, nameIndex := 101, descriptorIndex := 92, attributes := #[] }, { accessFlags := 2, nameIndex := 104, descriptorIndex := 92, attributes := #[] }, { accessFlags := 2, nameIndex := 117, descriptorIndex := 118, attributes := #[] }, { accessFlags := 2, nameIndex := 107, descriptorIndex := 108, attributes := #[] }, { accessFlags := 2, nameIndex := 111, descriptorIndex := 108, attributes := #[] }, { accessFlags := 2, nameIndex := 83, descriptorIndex := 84, attributes := #[] }, { accessFlags := 2, nameIndex := 124, descriptorIndex := 84, attributes := #[] }, { accessFlags := 2, nameIndex := 152, descriptorIndex := 153, attributes := #[] }, { accessFlags := 2, nameIndex := 130, descriptorIndex := 84, attributes := #[] }, { accessFlags := 2, nameIndex := 156, descriptorIndex := 118, attributes := #[] }, { accessFlags := 2, nameIndex := 159, descriptorIndex := 118, attributes := #[] }, { accessFlags := 2, nameIndex := 162, descriptorIndex := 163, attributes := #[] }] 49 2 #[] #[{ accessFlags := 25, nameIndex := 164, descriptorIndex := 39, attributes := #[] }, { accessFlags := 25, nameIndex := 167, descriptorIndex := 39, attributes := #[] }, { accessFlags := 25, nameIndex := 169, descriptorIndex := 39, attributes := #[] }, { accessFlags := 25, nameIndex := 171, descriptorIndex := 39, attributes := #[] }, { accessFlags := 25, nameIndex := 173, descriptorIndex := 39, attributes := #[] }, { accessFlags := 25, nameIndex := 174, descriptorIndex := 39, attributes := #[] }, { accessFlags := 25, nameIndex := 175, descriptorIndex := 39, attributes := #[] }, { accessFlags := 25, nameIndex := 176, descriptorIndex := 39, attributes := #[] }, { accessFlags := 25, nameIndex := 177, descriptorIndex := 39, attributes := #[] }, { accessFlags := 25, nameIndex := 178, descriptorIndex := 39, attributes := #[] }, { accessFlags := 25, nameIndex := 179, descriptorIndex := 39, attributes := #[] }, { accessFlags := 25, nameIndex := 180, descriptorIndex := 39, attributes := #[] }, { accessFlags := 25, nameIndex := 182, descriptorIndex := 39, attributes := #[] }, { accessFlags := 25, nameIndex := 184, descriptorIndex := 39, attributes := #[] }, { accessFlags := 25, nameIndex := 185, descriptorIndex := 39, attributes := #[] }, { accessFlags := 25, nameIndex := 186, descriptorIndex := 39, attributes := #[] }, { accessFlags := 25, nameIndex := 187, descriptorIndex := 39, attributes := #[] }, { accessFlags := 25, nameIndex := 188, descriptorIndex := 39, attributes := #[] }, { accessFlags := 25, nameIndex := 189, descriptorIndex := 39, attributes := #[] }, { accessFlags := 25, nameIndex := 191, descriptorIndex := 39, attributes := #[] }, { accessFlags := 25, nameIndex := 193, descriptorIndex := 39, attributes := #[] }, { accessFlags := 25, nameIndex := 195, descriptorIndex := 39, attributes := #[] }, { accessFlags := 25, nameIndex := 197, descriptorIndex := 39, attributes := #[] }, { accessFlags := 25, nameIndex := 199, descriptorIndex := 39, attributes := #[] }, { accessFlags := 25, nameIndex := 200, descriptorIndex := 39, attributes := #[] }, { accessFlags := 25, nameIndex := 201, descriptorIndex := 39, attributes := #[] }, { accessFlags := 25, nameIndex := 202, descriptorIndex := 39, attributes := #[] }, { accessFlags := 25, nameIndex := 203, descriptorIndex := 39, attributes := #[] }, { accessFlags := 25, nameIndex := 204, descriptorIndex := 39, attributes := #[] }, { accessFlags := 25, nameIndex := 205, descriptorIndex := 39, attributes := #[] }, { accessFlags := 25, nameIndex := 206, descriptorIndex := 39, attributes := #[] }, { accessFlags := 25, nameIndex := 207, descriptorIndex := 39, attributes := #[] }, { accessFlags := 25, nameIndex := 208, descriptorIndex := 39, attributes := #[] }, { accessFlags := 25, nameIndex := 209, descriptorIndex := 39, attributes := #[] }, { accessFlags := 25, nameIndex := 210, descriptorIndex := 39, attributes := #[] }, { accessFlags := 25, nameIndex := 211, descriptorIndex := 39, attributes := #[] }, { accessFlags := 25, nameIndex := 212, descriptorIndex := 39, attributes := #[] }, { accessFlags := 25, nameIndex := 213, descriptorIndex := 39, attributes := #[] }, { accessFlags := 25, nameIndex := 214, descriptorIndex := 39, attributes := #[] }, { accessFlags := 25, nameIndex := 215, descriptorIndex := 39, attributes := #[] }, { accessFlags := 25, nameIndex := 216, descriptorIndex := 39, attributes := #[] }, { accessFlags := 2, nameIndex := 38, descriptorIndex := 39, attributes := #[] }, { accessFlags := 2, nameIndex := 42, descriptorIndex := 39, attributes := #[] }, { accessFlags := 2, nameIndex := 11, descriptorIndex := 12, attributes := #[] }, { accessFlags := 2, nameIndex := 15, descriptorIndex := 12, attributes := #[] }, { accessFlags := 2, nameIndex := 18, descriptorIndex := 12, attributes := #[] }, { accessFlags := 2, nameIndex := 21, descriptorIndex := 12, attributes := #[] }, { accessFlags := 2, nameIndex := 52, descriptorIndex := 39, attributes := #[] }, { accessFlags := 2, nameIndex := 55, descriptorIndex := 39, attributes := #[] }, { accessFlags := 2, nameIndex := 58, descriptorIndex := 39, attributes := #[] }, { accessFlags := 2, nameIndex := 61, descriptorIndex := 39, attributes := #[] }, { accessFlags := 2, nameIndex := 64, descriptorIndex := 39, attributes := #[] }, { accessFlags := 2, nameIndex := 67, descriptorIndex := 39, attributes := #[] }, { accessFlags := 2, nameIndex := 70, descriptorIndex := 39, attributes := #[] }, { accessFlags := 2, nameIndex := 73, descriptorIndex := 39, attributes := #[] }, { accessFlags := 2, nameIndex := 76, descriptorIndex := 39, attributes := #[] }, { accessFlags := 2, nameIndex := 48, descriptorIndex := 49, attributes := #[] }, { accessFlags := 2, nameIndex := 24, descriptorIndex := 25, attributes := #[] }, { accessFlags := 2, nameIndex := 28, descriptorIndex := 29, attributes := #[] }, { accessFlags := 2, nameIndex := 32, descriptorIndex := 12, attributes := #[] }, { accessFlags := 2, nameIndex := 35, descriptorIndex := 12, attributes := #[] }, { accessFlags := 2, nameIndex := 95, descriptorIndex := 39, attributes := #[] }, { accessFlags := 2, nameIndex := 98, descriptorIndex := 39, attributes := #[] }, { accessFlags := 2, nameIndex := 133, descriptorIndex := 134, attributes := #[] }, { accessFlags := 2, nameIndex := 137, descriptorIndex := 39, attributes := #[] }, { accessFlags := 2, nameIndex := 127, descriptorIndex := 39, attributes := #[] }, { accessFlags := 2, nameIndex := 140, descriptorIndex := 39, attributes := #[] }, { accessFlags := 2, nameIndex := 143, descriptorIndex := 39, attributes := #[] }])
  fields := #[{ name := "ERR", type := .int, accessFlags := 25, slot := 0, constantValue := 0 }, { name := "ORDER_NONE", type := .int, accessFlags := 25, slot := 1, constantValue := 0 }, { name := "ORDER_ASC", type := .int, accessFlags := 25, slot := 2, constantValue := 0 }, { name := "ORDER_DESC", type := .int, accessFlags := 25, slot := 3, constantValue := 0 }, { name := "NULLS_FIRST", type := .int, accessFlags := 25, slot := 4, constantValue := 0 }, { name := "NULLS_LAST", type := .int, accessFlags := 25, slot := 5, constantValue := 0 }, { name := "MODE_ROWS", type := .int, accessFlags := 25, slot := 6, constantValue := 0 }, { name := "MODE_RANGE", type := .int, accessFlags := 25, slot := 7, constantValue := 0 }, { name := "BOUND_UNBOUNDED_PRECEDING", type := .int, accessFlags := 25, slot := 8, constantValue := 0 }, { name := "BOUND_PRECEDING", type := .int, accessFlags := 25, slot := 9, constantValue := 0 }, { name := "BOUND_CURRENT_ROW", type := .int, accessFlags := 25, slot := 10, constantValue := 0 }, { name := "BOUND_FOLLOWING", type := .int, accessFlags := 25, slot := 11, constantValue := 0 }, { name := "BOUND_UNBOUNDED_FOLLOWING", type := .int, accessFlags := 25, slot := 12, constantValue := 0 }, { name := "FN_SUM", type := .int, accessFlags := 25, slot := 13, constantValue := 0 }, { name := "FN_COUNT", type := .int, accessFlags := 25, slot := 14, constantValue := 0 }, { name := "FN_COUNT_ROWS", type := .int, accessFlags := 25, slot := 15, constantValue := 0 }, { name := "FN_MIN", type := .int, accessFlags := 25, slot := 16, constantValue := 0 }, { name := "FN_MAX", type := .int, accessFlags := 25, slot := 17, constantValue := 0 }, { name := "FN_ROW_NUMBER", type := .int, accessFlags := 25, slot := 18, constantValue := 0 }, { name := "FN_RANK", type := .int, accessFlags := 25, slot := 19, constantValue := 0 }, { name := "FN_DENSE_RANK", type := .int, accessFlags := 25, slot := 20, constantValue := 0 }, { name := "FN_LAG", type := .int, accessFlags := 25, slot := 21, constantValue := 0 }, { name := "FN_LEAD", type := .int, accessFlags := 25, slot := 22, constantValue := 0 }, { name := "FLAG_KEY_NULL", type := .int, accessFlags := 25, slot := 23, constantValue := 0 }, { name := "FLAG_VALUE_NULL", type := .int, accessFlags := 25, slot := 24, constantValue := 0 }, { name := "STATUS_OK", type := .int, accessFlags := 25, slot := 25, constantValue := 0 }, { name := "STATUS_NEEDS_ORDER", type := .int, accessFlags := 25, slot := 26, constantValue := 0 }, { name := "FIELD_PARTITION", type := .int, accessFlags := 25, slot := 27, constantValue := 0 }, { name := "FIELD_KEY", type := .int, accessFlags := 25, slot := 28, constantValue := 0 }, { name := "FIELD_VALUE", type := .int, accessFlags := 25, slot := 29, constantValue := 0 }, { name := "FIELD_FLAGS", type := .int, accessFlags := 25, slot := 30, constantValue := 0 }, { name := "SPEC_DIRECTION", type := .int, accessFlags := 25, slot := 31, constantValue := 0 }, { name := "SPEC_NULLS", type := .int, accessFlags := 25, slot := 32, constantValue := 0 }, { name := "SPEC_MODE", type := .int, accessFlags := 25, slot := 33, constantValue := 0 }, { name := "SPEC_START_KIND", type := .int, accessFlags := 25, slot := 34, constantValue := 0 }, { name := "SPEC_START_OFFSET", type := .int, accessFlags := 25, slot := 35, constantValue := 0 }, { name := "SPEC_END_KIND", type := .int, accessFlags := 25, slot := 36, constantValue := 0 }, { name := "SPEC_END_OFFSET", type := .int, accessFlags := 25, slot := 37, constantValue := 0 }, { name := "SPEC_FUNCTION", type := .int, accessFlags := 25, slot := 38, constantValue := 0 }, { name := "SPEC_FUNCTION_ARG", type := .int, accessFlags := 25, slot := 39, constantValue := 0 }, { name := "SPEC_CAPACITY", type := .int, accessFlags := 25, slot := 40, constantValue := 0 }, { name := "cap", type := .int, accessFlags := 2, slot := 0, constantValue := 0 }, { name := "rows", type := .int, accessFlags := 2, slot := 1, constantValue := 0 }, { name := "part", type := (.array .int), accessFlags := 2, slot := 2, constantValue := 0 }, { name := "keys", type := (.array .int), accessFlags := 2, slot := 3, constantValue := 0 }, { name := "vals", type := (.array .int), accessFlags := 2, slot := 4, constantValue := 0 }, { name := "flg", type := (.array .int), accessFlags := 2, slot := 5, constantValue := 0 }, { name := "direction", type := .int, accessFlags := 2, slot := 6, constantValue := 0 }, { name := "nulls", type := .int, accessFlags := 2, slot := 7, constantValue := 0 }, { name := "mode", type := .int, accessFlags := 2, slot := 8, constantValue := 0 }, { name := "startKind", type := .int, accessFlags := 2, slot := 9, constantValue := 0 }, { name := "startOff", type := .int, accessFlags := 2, slot := 10, constantValue := 0 }, { name := "endKind", type := .int, accessFlags := 2, slot := 11, constantValue := 0 }, { name := "endOff", type := .int, accessFlags := 2, slot := 12, constantValue := 0 }, { name := "fn", type := .int, accessFlags := 2, slot := 13, constantValue := 0 }, { name := "fnArg", type := .int, accessFlags := 2, slot := 14, constantValue := 0 }, { name := "computed", type := .boolean, accessFlags := 2, slot := 15, constantValue := 0 }, { name := "res", type := (.array .long), accessFlags := 2, slot := 16, constantValue := 0 }, { name := "resNull", type := (.array .boolean), accessFlags := 2, slot := 17, constantValue := 0 }, { name := "frameCnt", type := (.array .int), accessFlags := 2, slot := 18, constantValue := 0 }, { name := "sorted", type := (.array .int), accessFlags := 2, slot := 19, constantValue := 0 }, { name := "sortedLen", type := .int, accessFlags := 2, slot := 20, constantValue := 0 }, { name := "curPos", type := .int, accessFlags := 2, slot := 21, constantValue := 0 }, { name := "aggSum", type := .long, accessFlags := 2, slot := 22, constantValue := 0 }, { name := "aggCount", type := .int, accessFlags := 2, slot := 23, constantValue := 0 }, { name := "aggRows", type := .int, accessFlags := 2, slot := 24, constantValue := 0 }, { name := "aggMin", type := .int, accessFlags := 2, slot := 25, constantValue := 0 }, { name := "aggMax", type := .int, accessFlags := 2, slot := 26, constantValue := 0 }]
  methods := #[k2m0, k2m1, k2m2, k2m3, k2m4, k2m5, k2m6, k2m7, k2m8, k2m9, k2m10, k2m11, k2m12, k2m13, k2m14, k2m15, k2m16, k2m17, k2m18, k2m19, k2m20, k2m21, k2m22, k2m23, k2m24, k2m25, k2m26, k2m27, k2m28, k2m29, k2m30, k2m31, k2m32, k2m33]
  instanceTypes := #[.int, .int, (.array .int), (.array .int), (.array .int), (.array .int), .int, .int, .int, .int, .int, .int, .int, .int, .int, .boolean, (.array .long), (.array .boolean), (.array .int), (.array .int), .int, .int, .long, .int, .int, .int, .int]
  staticTypes := #[.int, .int, .int, .int, .int, .int, .int, .int, .int, .int, .int, .int, .int, .int, .int, .int, .int, .int, .int, .int, .int, .int, .int, .int, .int, .int, .int, .int, .int, .int, .int, .int, .int, .int, .int, .int, .int, .int, .int, .int, .int]
  resolved := Array.replicate 244 none
  statics := none }

def pool3 : Array CpInfo := pool [(1, u "java/lang/Cloneable"), (0, .class_ 1), (0, u "java/lang/Object"), (0, .class_ 3)] 3

/-- java/lang/Cloneable -/
def k3 : Class := { plain "java/lang/Cloneable" (some 0) with
  accessFlags := 1537
  interfaces := #[]
  cf := some (fileOf pool3 2 #[] #[] 1537 4 #[] #[])
  fields := #[]
  methods := #[]
  instanceTypes := #[]
  staticTypes := #[]
  resolved := Array.replicate 8 none
  statics := none }

def pool4 : Array CpInfo := pool [(1, u "java/io/Serializable"), (0, .class_ 1), (0, u "java/lang/Object"), (0, .class_ 3)] 3

/-- java/io/Serializable -/
def k4 : Class := { plain "java/io/Serializable" (some 0) with
  accessFlags := 1537
  interfaces := #[]
  cf := some (fileOf pool4 2 #[] #[] 1537 4 #[] #[])
  fields := #[]
  methods := #[]
  instanceTypes := #[]
  staticTypes := #[]
  resolved := Array.replicate 8 none
  statics := none }

/-- the primitive boolean -/
def k5 : Class := { plain "boolean" none with kind := .primitive 'Z', accessFlags := 0x411 }
/-- [Z -/
def k6 : Class := { plain "[Z" (some 0) with kind := .array 5 .boolean, interfaces := #[3, 4], accessFlags := 1041 }

/-- the primitive byte -/
def k7 : Class := { plain "byte" none with kind := .primitive 'B', accessFlags := 0x411 }
/-- [B -/
def k8 : Class := { plain "[B" (some 0) with kind := .array 7 .byte, interfaces := #[3, 4], accessFlags := 1041 }

/-- the primitive int -/
def k9 : Class := { plain "int" none with kind := .primitive 'I', accessFlags := 0x411 }
/-- [I -/
def k10 : Class := { plain "[I" (some 0) with kind := .array 9 .int, interfaces := #[3, 4], accessFlags := 1041 }

/-- the primitive long -/
def k11 : Class := { plain "long" none with kind := .primitive 'J', accessFlags := 0x411 }
/-- [J -/
def k12 : Class := { plain "[J" (some 0) with kind := .array 11 .long, interfaces := #[3, 4], accessFlags := 1041 }

def heap : Heap := #[{ cls := 10, slots := #[.int 1, .int 2, .int 3], vm := .none }]
def classes : Array Class := #[k0, k1, k2, k3, k4, k5, k6, k7, k8, k9, k10, k11, k12]
def interned : List (Array UInt16 × Addr) := []
def slotsUsed : Nat := 3
def theMethod : MethodId := ⟨1, 1⟩
def args0 : Array Value := #[.ref 0]
def aboutOver (below : List Frame) : State where
  vm := { classes := classes, interned := interned.toArray }
  heap := heap
  slotsUsed := slotsUsed
  threads := #[{ frames := .invoking theMethod args0 :: below }]
def below0 : List Frame := [.native { method := ⟨0, 0⟩, args := #[] }]
def about1 : State := aboutOver below0
def p0 : Program := .bare "" "" ""
def e0 : Env := launch0.env 0 0 0
theorem w_frames : about1.frames = Frame.invoking theMethod args0 :: below0 := rfl
set_option maxRecDepth 65536 in
theorem w_args : argsFit about1.vm theMethod args0 = true := by decide +kernel
set_option maxRecDepth 65536 in
theorem w_heap : heapFits about1 = true := by decide +kernel
set_option maxRecDepth 65536 in
theorem w_runnable : about1.curStatus? = some .runnable := by decide +kernel
set_option maxRecDepth 65536 in
theorem w_alone : about1.alone = true := by decide +kernel
set_option maxRecDepth 65536 in
theorem w_named : about1.methodNamed? x = some theMethod := by decide +kernel
set_option maxRecDepth 65536 in
theorem w_hears : about1.hears theMethod below0 = true := by decide +kernel
set_option maxRecDepth 65536 in
theorem w_ripe : about1.ripe theMethod args0 below0 = true := by decide +kernel
theorem w_running : about1.status = .running := rfl
set_option maxRecDepth 65536 in
theorem w_room : about1.hasRoom e0.platform room_1 = true :=
  launch0.hasRoom_least _ room_1 (by decide +kernel) (by decide +kernel) (by decide +kernel) (by decide +kernel) (by decide +kernel) (by decide +kernel)
theorem allAtoms_all (ts : List Jvm.Cond) (a : Array Jvm.Value) (st : Jvm.State) : (allAtoms ts).before a st = ts.all (fun c => c.before a st) := by
  induction ts with
  | nil => rfl
  | cons c t ih =>
    show (Jvm.Cond.and c (allAtoms t)).before a st = _
    rw [Jvm.Cond.before_and, ih, List.all_cons]
def words1 : List Jvm.Cond := Jvm.Cond.code x code maxLocals ret :: tables_1
/-- a 'code' word, met by the world's own term for the bytes: nothing is compared byte by byte -/
theorem code_word {y : MethodName} {bytes : ByteArray} {mx : Nat} {rt : Option FieldType} {a : Array Value} {s : State} {m : MethodId} {meth : Method} {c : Code} (h1 : s.methodNamed? y = some m) (h2 : s.vm.method? m = some meth) (h3 : meth.code = some c) (h4 : c.code = bytes)
    (h5 : (c.maxLocals == mx && c.exceptionTable.isEmpty && decide (c.maxStack ≤ mostOperands) && decide (meth.sig.returnType = rt) && !meth.locks && decide (parseMethodDescriptor y.desc = some meth.sig)) = true) : (Jvm.Cond.code y bytes mx rt).before a s = true := by
  simp only [Bool.and_eq_true, beq_iff_eq, Bool.not_eq_true', decide_eq_true_eq] at h5
  obtain ⟨⟨⟨⟨⟨g1, g2⟩, g3⟩, g4⟩, g5⟩, g6⟩ := h5
  simp [Cond.before, Cond.holds, Cond.value, h1, h2, h3, h4, g1, g2, g3, g4, g5, g6]
def isCode : Jvm.Cond → Bool
  | .code _ _ _ _ => true
  | _ => false
theorem all_split {L : List Jvm.Cond} {P : Jvm.Cond → Bool} (h1 : L.all (fun c => isCode c || P c) = true) (h2 : ∀ c ∈ L.filter isCode, P c = true) : L.all P = true := by
  refine List.all_eq_true.mpr fun c hc => ?_
  have h := List.all_eq_true.mp h1 c hc
  rcases Bool.eq_false_or_eq_true (isCode c) with hi | hi
  · exact h2 c (List.mem_filter.mpr ⟨hc, hi⟩)
  · simpa [hi] using h
set_option maxRecDepth 65536 in
theorem w_c0 : (Jvm.Cond.code x code maxLocals ret).before args0 about1 = true := code_word (m := ⟨1, 1⟩) (meth := k1m1) (c := k1c1) (by decide +kernel) rfl rfl rfl (by decide +kernel)
set_option maxRecDepth 65536 in
theorem w_c1 : (Jvm.Cond.code ({ cls := "WindowFuncEngine", name := "<init>", desc := "(I)V" } : Jvm.MethodName) prog_1_method_1_code (3 : Nat) (Option.none : Option Jvm.ClassFile.FieldType)).before args0 about1 = true := code_word (m := ⟨2, 0⟩) (meth := k2m0) (c := k2c0) (by decide +kernel) rfl rfl rfl (by decide +kernel)
set_option maxRecDepth 65536 in
theorem w_c2 : (Jvm.Cond.code ({ cls := "java/lang/Object", name := "<init>", desc := "()V" } : Jvm.MethodName) object_method_1_code (1 : Nat) (Option.none : Option Jvm.ClassFile.FieldType)).before args0 about1 = true := code_word (m := ⟨0, 0⟩) (meth := k0m0) (c := k0c0) (by decide +kernel) rfl rfl rfl (by decide +kernel)
set_option maxRecDepth 65536 in
theorem w_c3 : (Jvm.Cond.code ({ cls := "WindowFuncEngine", name := "resetSpec", desc := "()V" } : Jvm.MethodName) prog_1_method_2_code (1 : Nat) (Option.none : Option Jvm.ClassFile.FieldType)).before args0 about1 = true := code_word (m := ⟨2, 1⟩) (meth := k2m1) (c := k2c1) (by decide +kernel) rfl rfl rfl (by decide +kernel)
set_option maxRecDepth 65536 in
theorem w_c4 : (Jvm.Cond.code ({ cls := "WindowFuncEngine", name := "addRow", desc := "(IIII)I" } : Jvm.MethodName) prog_1_method_3_code (6 : Nat) (Option.some Jvm.ClassFile.FieldType.int)).before args0 about1 = true := code_word (m := ⟨2, 2⟩) (meth := k2m2) (c := k2c2) (by decide +kernel) rfl rfl rfl (by decide +kernel)
set_option maxRecDepth 65536 in
theorem w_c5 : (Jvm.Cond.code ({ cls := "WindowFuncEngine", name := "setFunction", desc := "(II)Z" } : Jvm.MethodName) prog_1_method_10_code (4 : Nat) (Option.some Jvm.ClassFile.FieldType.boolean)).before args0 about1 = true := code_word (m := ⟨2, 9⟩) (meth := k2m9) (c := k2c9) (by decide +kernel) rfl rfl rfl (by decide +kernel)
set_option maxRecDepth 65536 in
theorem w_c6 : (Jvm.Cond.code ({ cls := "WindowFuncEngine", name := "getSpec", desc := "(I)I" } : Jvm.MethodName) prog_1_method_18_code (2 : Nat) (Option.some Jvm.ClassFile.FieldType.int)).before args0 about1 = true := code_word (m := ⟨2, 15⟩) (meth := k2m15) (c := k2c15) (by decide +kernel) rfl rfl rfl (by decide +kernel)
set_option maxRecDepth 65536 in
theorem w_c7 : (Jvm.Cond.code ({ cls := "WindowFuncEngine", name := "rowCount", desc := "()I" } : Jvm.MethodName) prog_1_method_5_code (1 : Nat) (Option.some Jvm.ClassFile.FieldType.int)).before args0 about1 = true := code_word (m := ⟨2, 4⟩) (meth := k2m4) (c := k2c4) (by decide +kernel) rfl rfl rfl (by decide +kernel)
set_option maxRecDepth 65536 in
theorem w_c8 : (Jvm.Cond.code ({ cls := "WindowFuncEngine", name := "getRowField", desc := "(II)I" } : Jvm.MethodName) prog_1_method_17_code (3 : Nat) (Option.some Jvm.ClassFile.FieldType.int)).before args0 about1 = true := code_word (m := ⟨2, 14⟩) (meth := k2m14) (c := k2c14) (by decide +kernel) rfl rfl rfl (by decide +kernel)
set_option maxRecDepth 65536 in
theorem w_c9 : (Jvm.Cond.code ({ cls := "WindowFuncEngineL7", name := "frame", desc := "(LWindowFuncEngine;IIII)Z" } : Jvm.MethodName) method_3_code (8 : Nat) (Option.some Jvm.ClassFile.FieldType.boolean)).before args0 about1 = true := code_word (m := ⟨1, 2⟩) (meth := k1m2) (c := k1c2) (by decide +kernel) rfl rfl rfl (by decide +kernel)
set_option maxRecDepth 65536 in
theorem w_c10 : (Jvm.Cond.code ({ cls := "WindowFuncEngine", name := "setFrameStart", desc := "(II)Z" } : Jvm.MethodName) prog_1_method_8_code (4 : Nat) (Option.some Jvm.ClassFile.FieldType.boolean)).before args0 about1 = true := code_word (m := ⟨2, 7⟩) (meth := k2m7) (c := k2c7) (by decide +kernel) rfl rfl rfl (by decide +kernel)
set_option maxRecDepth 65536 in
theorem w_c11 : (Jvm.Cond.code ({ cls := "WindowFuncEngine", name := "setFrameEnd", desc := "(II)Z" } : Jvm.MethodName) prog_1_method_9_code (4 : Nat) (Option.some Jvm.ClassFile.FieldType.boolean)).before args0 about1 = true := code_word (m := ⟨2, 8⟩) (meth := k2m8) (c := k2c8) (by decide +kernel) rfl rfl rfl (by decide +kernel)
set_option maxRecDepth 65536 in
theorem w_c12 : (Jvm.Cond.code ({ cls := "WindowFuncEngine", name := "compute", desc := "()I" } : Jvm.MethodName) prog_1_method_11_code (2 : Nat) (Option.some Jvm.ClassFile.FieldType.int)).before args0 about1 = true := code_word (m := ⟨2, 10⟩) (meth := k2m10) (c := k2c10) (by decide +kernel) rfl rfl rfl (by decide +kernel)
set_option maxRecDepth 65536 in
theorem w_c13 : (Jvm.Cond.code ({ cls := "WindowFuncEngine", name := "needsOrder", desc := "()Z" } : Jvm.MethodName) prog_1_method_12_code (3 : Nat) (Option.some Jvm.ClassFile.FieldType.boolean)).before args0 about1 = true := code_word (m := ⟨2, 11⟩) (meth := k2m11) (c := k2c11) (by decide +kernel) rfl rfl rfl (by decide +kernel)
set_option maxRecDepth 65536 in
theorem w_c14 : (Jvm.Cond.code ({ cls := "WindowFuncEngine", name := "computeRow", desc := "(I)V" } : Jvm.MethodName) prog_1_method_30_code (2 : Nat) (Option.none : Option Jvm.ClassFile.FieldType)).before args0 about1 = true := code_word (m := ⟨2, 27⟩) (meth := k2m27) (c := k2c27) (by decide +kernel) rfl rfl rfl (by decide +kernel)
set_option maxRecDepth 65536 in
theorem w_c15 : (Jvm.Cond.code ({ cls := "WindowFuncEngine", name := "buildPartition", desc := "(I)V" } : Jvm.MethodName) prog_1_method_23_code (6 : Nat) (Option.none : Option Jvm.ClassFile.FieldType)).before args0 about1 = true := code_word (m := ⟨2, 20⟩) (meth := k2m20) (c := k2c20) (by decide +kernel) rfl rfl rfl (by decide +kernel)
set_option maxRecDepth 65536 in
theorem w_c16 : (Jvm.Cond.code ({ cls := "WindowFuncEngine", name := "before", desc := "(II)Z" } : Jvm.MethodName) prog_1_method_21_code (5 : Nat) (Option.some Jvm.ClassFile.FieldType.boolean)).before args0 about1 = true := code_word (m := ⟨2, 18⟩) (meth := k2m18) (c := k2c18) (by decide +kernel) rfl rfl rfl (by decide +kernel)
set_option maxRecDepth 65536 in
theorem w_c17 : (Jvm.Cond.code ({ cls := "WindowFuncEngine", name := "keyNull", desc := "(I)Z" } : Jvm.MethodName) prog_1_method_19_code (2 : Nat) (Option.some Jvm.ClassFile.FieldType.boolean)).before args0 about1 = true := code_word (m := ⟨2, 16⟩) (meth := k2m16) (c := k2c16) (by decide +kernel) rfl rfl rfl (by decide +kernel)
set_option maxRecDepth 65536 in
theorem w_c18 : (Jvm.Cond.code ({ cls := "WindowFuncEngine", name := "aggregateFrame", desc := "(I)V" } : Jvm.MethodName) prog_1_method_31_code (7 : Nat) (Option.none : Option Jvm.ClassFile.FieldType)).before args0 about1 = true := code_word (m := ⟨2, 28⟩) (meth := k2m28) (c := k2c28) (by decide +kernel) rfl rfl rfl (by decide +kernel)
set_option maxRecDepth 65536 in
theorem w_c19 : (Jvm.Cond.code ({ cls := "WindowFuncEngine", name := "inFrame", desc := "(IIII)Z" } : Jvm.MethodName) prog_1_method_24_code (5 : Nat) (Option.some Jvm.ClassFile.FieldType.boolean)).before args0 about1 = true := code_word (m := ⟨2, 21⟩) (meth := k2m21) (c := k2c21) (by decide +kernel) rfl rfl rfl (by decide +kernel)
set_option maxRecDepth 65536 in
theorem w_c20 : (Jvm.Cond.code ({ cls := "WindowFuncEngine", name := "rangeStartHolds", desc := "(IIII)Z" } : Jvm.MethodName) prog_1_method_28_code (10 : Nat) (Option.some Jvm.ClassFile.FieldType.boolean)).before args0 about1 = true := code_word (m := ⟨2, 25⟩) (meth := k2m25) (c := k2c25) (by decide +kernel) rfl rfl rfl (by decide +kernel)
set_option maxRecDepth 65536 in
theorem w_c21 : (Jvm.Cond.code ({ cls := "WindowFuncEngine", name := "rangeEndHolds", desc := "(IIII)Z" } : Jvm.MethodName) prog_1_method_29_code (10 : Nat) (Option.some Jvm.ClassFile.FieldType.boolean)).before args0 about1 = true := code_word (m := ⟨2, 26⟩) (meth := k2m26) (c := k2c26) (by decide +kernel) rfl rfl rfl (by decide +kernel)
set_option maxRecDepth 65536 in
theorem w_c22 : (Jvm.Cond.code ({ cls := "WindowFuncEngine", name := "valNull", desc := "(I)Z" } : Jvm.MethodName) prog_1_method_20_code (2 : Nat) (Option.some Jvm.ClassFile.FieldType.boolean)).before args0 about1 = true := code_word (m := ⟨2, 17⟩) (meth := k2m17) (c := k2c17) (by decide +kernel) rfl rfl rfl (by decide +kernel)
set_option maxRecDepth 65536 in
theorem w_c23 : (Jvm.Cond.code ({ cls := "WindowFuncEngine", name := "applyFunction", desc := "(I)V" } : Jvm.MethodName) prog_1_method_33_code (5 : Nat) (Option.none : Option Jvm.ClassFile.FieldType)).before args0 about1 = true := code_word (m := ⟨2, 30⟩) (meth := k2m30) (c := k2c30) (by decide +kernel) rfl rfl rfl (by decide +kernel)
set_option maxRecDepth 65536 in
theorem w_c24 : (Jvm.Cond.code ({ cls := "WindowFuncEngine", name := "setRes", desc := "(IJZ)V" } : Jvm.MethodName) prog_1_method_32_code (5 : Nat) (Option.none : Option Jvm.ClassFile.FieldType)).before args0 about1 = true := code_word (m := ⟨2, 29⟩) (meth := k2m29) (c := k2c29) (by decide +kernel) rfl rfl rfl (by decide +kernel)
set_option maxRecDepth 65536 in
theorem w_c25 : (Jvm.Cond.code ({ cls := "WindowFuncEngine", name := "getFrameCount", desc := "(I)I" } : Jvm.MethodName) prog_1_method_16_code (2 : Nat) (Option.some Jvm.ClassFile.FieldType.int)).before args0 about1 = true := code_word (m := ⟨2, 13⟩) (meth := k2m13) (c := k2c13) (by decide +kernel) rfl rfl rfl (by decide +kernel)
set_option maxRecDepth 65536 in
theorem w_c26 : (Jvm.Cond.code ({ cls := "WindowFuncEngine", name := "getResult", desc := "(I)J" } : Jvm.MethodName) prog_1_method_14_code (2 : Nat) (Option.some Jvm.ClassFile.FieldType.long)).before args0 about1 = true := code_word (m := ⟨2, 12⟩) (meth := k2m12) (c := k2c12) (by decide +kernel) rfl rfl rfl (by decide +kernel)
set_option maxRecDepth 65536 in
theorem w_c27 : (Jvm.Cond.code ({ cls := "WindowFuncEngine", name := "peer", desc := "(II)Z" } : Jvm.MethodName) prog_1_method_22_code (5 : Nat) (Option.some Jvm.ClassFile.FieldType.boolean)).before args0 about1 = true := code_word (m := ⟨2, 19⟩) (meth := k2m19) (c := k2c19) (by decide +kernel) rfl rfl rfl (by decide +kernel)
set_option maxRecDepth 65536 in
theorem w_c28 : (Jvm.Cond.code ({ cls := "WindowFuncEngine", name := "distance", desc := "(II)J" } : Jvm.MethodName) prog_1_method_27_code (3 : Nat) (Option.some Jvm.ClassFile.FieldType.long)).before args0 about1 = true := code_word (m := ⟨2, 24⟩) (meth := k2m24) (c := k2c24) (by decide +kernel) rfl rfl rfl (by decide +kernel)
set_option maxRecDepth 65536 in
theorem w_c29 : (Jvm.Cond.code ({ cls := "WindowFuncEngine", name := "setFrameMode", desc := "(I)Z" } : Jvm.MethodName) prog_1_method_7_code (2 : Nat) (Option.some Jvm.ClassFile.FieldType.boolean)).before args0 about1 = true := code_word (m := ⟨2, 6⟩) (meth := k2m6) (c := k2c6) (by decide +kernel) rfl rfl rfl (by decide +kernel)
set_option maxRecDepth 65536 in
theorem w_c30 : (Jvm.Cond.code ({ cls := "WindowFuncEngine", name := "setOrder", desc := "(II)Z" } : Jvm.MethodName) prog_1_method_6_code (3 : Nat) (Option.some Jvm.ClassFile.FieldType.boolean)).before args0 about1 = true := code_word (m := ⟨2, 5⟩) (meth := k2m5) (c := k2c5) (by decide +kernel) rfl rfl rfl (by decide +kernel)
set_option maxRecDepth 65536 in
theorem w_c31 : (Jvm.Cond.code ({ cls := "WindowFuncEngine", name := "clear", desc := "()V" } : Jvm.MethodName) prog_1_method_4_code (1 : Nat) (Option.none : Option Jvm.ClassFile.FieldType)).before args0 about1 = true := code_word (m := ⟨2, 3⟩) (meth := k2m3) (c := k2c3) (by decide +kernel) rfl rfl rfl (by decide +kernel)
set_option maxRecDepth 65536 in
theorem w_c32 : (Jvm.Cond.code ({ cls := "WindowFuncEngine", name := "rowsStartHolds", desc := "(II)Z" } : Jvm.MethodName) prog_1_method_25_code (9 : Nat) (Option.some Jvm.ClassFile.FieldType.boolean)).before args0 about1 = true := code_word (m := ⟨2, 22⟩) (meth := k2m22) (c := k2c22) (by decide +kernel) rfl rfl rfl (by decide +kernel)
set_option maxRecDepth 65536 in
theorem w_c33 : (Jvm.Cond.code ({ cls := "WindowFuncEngine", name := "rowsEndHolds", desc := "(II)Z" } : Jvm.MethodName) prog_1_method_26_code (9 : Nat) (Option.some Jvm.ClassFile.FieldType.boolean)).before args0 about1 = true := code_word (m := ⟨2, 23⟩) (meth := k2m23) (c := k2c23) (by decide +kernel) rfl rfl rfl (by decide +kernel)
set_option maxRecDepth 65536 in
theorem w_c34 : (Jvm.Cond.code ({ cls := "WindowFuncEngine", name := "shiftValue", desc := "(IIZ)V" } : Jvm.MethodName) prog_1_method_36_code (7 : Nat) (Option.none : Option Jvm.ClassFile.FieldType)).before args0 about1 = true := code_word (m := ⟨2, 33⟩) (meth := k2m33) (c := k2c33) (by decide +kernel) rfl rfl rfl (by decide +kernel)
set_option maxRecDepth 65536 in
theorem w_c35 : (Jvm.Cond.code ({ cls := "WindowFuncEngine", name := "denseRankOf", desc := "(II)J" } : Jvm.MethodName) prog_1_method_35_code (7 : Nat) (Option.some Jvm.ClassFile.FieldType.long)).before args0 about1 = true := code_word (m := ⟨2, 32⟩) (meth := k2m32) (c := k2c32) (by decide +kernel) rfl rfl rfl (by decide +kernel)
set_option maxRecDepth 65536 in
theorem w_c36 : (Jvm.Cond.code ({ cls := "WindowFuncEngine", name := "rankOf", desc := "(II)J" } : Jvm.MethodName) prog_1_method_34_code (6 : Nat) (Option.some Jvm.ClassFile.FieldType.long)).before args0 about1 = true := code_word (m := ⟨2, 31⟩) (meth := k2m31) (c := k2c31) (by decide +kernel) rfl rfl rfl (by decide +kernel)
def codes1 : List Jvm.Cond := [Jvm.Cond.code x code maxLocals ret, Jvm.Cond.code ({ cls := "WindowFuncEngine", name := "<init>", desc := "(I)V" } : Jvm.MethodName) prog_1_method_1_code (3 : Nat) (Option.none : Option Jvm.ClassFile.FieldType), Jvm.Cond.code ({ cls := "java/lang/Object", name := "<init>", desc := "()V" } : Jvm.MethodName) object_method_1_code (1 : Nat) (Option.none : Option Jvm.ClassFile.FieldType), Jvm.Cond.code ({ cls := "WindowFuncEngine", name := "resetSpec", desc := "()V" } : Jvm.MethodName) prog_1_method_2_code (1 : Nat) (Option.none : Option Jvm.ClassFile.FieldType), Jvm.Cond.code ({ cls := "WindowFuncEngine", name := "addRow", desc := "(IIII)I" } : Jvm.MethodName) prog_1_method_3_code (6 : Nat) (Option.some Jvm.ClassFile.FieldType.int), Jvm.Cond.code ({ cls := "WindowFuncEngine", name := "setFunction", desc := "(II)Z" } : Jvm.MethodName) prog_1_method_10_code (4 : Nat) (Option.some Jvm.ClassFile.FieldType.boolean), Jvm.Cond.code ({ cls := "WindowFuncEngine", name := "getSpec", desc := "(I)I" } : Jvm.MethodName) prog_1_method_18_code (2 : Nat) (Option.some Jvm.ClassFile.FieldType.int), Jvm.Cond.code ({ cls := "WindowFuncEngine", name := "rowCount", desc := "()I" } : Jvm.MethodName) prog_1_method_5_code (1 : Nat) (Option.some Jvm.ClassFile.FieldType.int), Jvm.Cond.code ({ cls := "WindowFuncEngine", name := "getRowField", desc := "(II)I" } : Jvm.MethodName) prog_1_method_17_code (3 : Nat) (Option.some Jvm.ClassFile.FieldType.int), Jvm.Cond.code ({ cls := "WindowFuncEngineL7", name := "frame", desc := "(LWindowFuncEngine;IIII)Z" } : Jvm.MethodName) method_3_code (8 : Nat) (Option.some Jvm.ClassFile.FieldType.boolean), Jvm.Cond.code ({ cls := "WindowFuncEngine", name := "setFrameStart", desc := "(II)Z" } : Jvm.MethodName) prog_1_method_8_code (4 : Nat) (Option.some Jvm.ClassFile.FieldType.boolean), Jvm.Cond.code ({ cls := "WindowFuncEngine", name := "setFrameEnd", desc := "(II)Z" } : Jvm.MethodName) prog_1_method_9_code (4 : Nat) (Option.some Jvm.ClassFile.FieldType.boolean), Jvm.Cond.code ({ cls := "WindowFuncEngine", name := "compute", desc := "()I" } : Jvm.MethodName) prog_1_method_11_code (2 : Nat) (Option.some Jvm.ClassFile.FieldType.int), Jvm.Cond.code ({ cls := "WindowFuncEngine", name := "needsOrder", desc := "()Z" } : Jvm.MethodName) prog_1_method_12_code (3 : Nat) (Option.some Jvm.ClassFile.FieldType.boolean), Jvm.Cond.code ({ cls := "WindowFuncEngine", name := "computeRow", desc := "(I)V" } : Jvm.MethodName) prog_1_method_30_code (2 : Nat) (Option.none : Option Jvm.ClassFile.FieldType), Jvm.Cond.code ({ cls := "WindowFuncEngine", name := "buildPartition", desc := "(I)V" } : Jvm.MethodName) prog_1_method_23_code (6 : Nat) (Option.none : Option Jvm.ClassFile.FieldType), Jvm.Cond.code ({ cls := "WindowFuncEngine", name := "before", desc := "(II)Z" } : Jvm.MethodName) prog_1_method_21_code (5 : Nat) (Option.some Jvm.ClassFile.FieldType.boolean), Jvm.Cond.code ({ cls := "WindowFuncEngine", name := "keyNull", desc := "(I)Z" } : Jvm.MethodName) prog_1_method_19_code (2 : Nat) (Option.some Jvm.ClassFile.FieldType.boolean), Jvm.Cond.code ({ cls := "WindowFuncEngine", name := "aggregateFrame", desc := "(I)V" } : Jvm.MethodName) prog_1_method_31_code (7 : Nat) (Option.none : Option Jvm.ClassFile.FieldType), Jvm.Cond.code ({ cls := "WindowFuncEngine", name := "inFrame", desc := "(IIII)Z" } : Jvm.MethodName) prog_1_method_24_code (5 : Nat) (Option.some Jvm.ClassFile.FieldType.boolean), Jvm.Cond.code ({ cls := "WindowFuncEngine", name := "rangeStartHolds", desc := "(IIII)Z" } : Jvm.MethodName) prog_1_method_28_code (10 : Nat) (Option.some Jvm.ClassFile.FieldType.boolean), Jvm.Cond.code ({ cls := "WindowFuncEngine", name := "rangeEndHolds", desc := "(IIII)Z" } : Jvm.MethodName) prog_1_method_29_code (10 : Nat) (Option.some Jvm.ClassFile.FieldType.boolean), Jvm.Cond.code ({ cls := "WindowFuncEngine", name := "valNull", desc := "(I)Z" } : Jvm.MethodName) prog_1_method_20_code (2 : Nat) (Option.some Jvm.ClassFile.FieldType.boolean), Jvm.Cond.code ({ cls := "WindowFuncEngine", name := "applyFunction", desc := "(I)V" } : Jvm.MethodName) prog_1_method_33_code (5 : Nat) (Option.none : Option Jvm.ClassFile.FieldType), Jvm.Cond.code ({ cls := "WindowFuncEngine", name := "setRes", desc := "(IJZ)V" } : Jvm.MethodName) prog_1_method_32_code (5 : Nat) (Option.none : Option Jvm.ClassFile.FieldType), Jvm.Cond.code ({ cls := "WindowFuncEngine", name := "getFrameCount", desc := "(I)I" } : Jvm.MethodName) prog_1_method_16_code (2 : Nat) (Option.some Jvm.ClassFile.FieldType.int), Jvm.Cond.code ({ cls := "WindowFuncEngine", name := "getResult", desc := "(I)J" } : Jvm.MethodName) prog_1_method_14_code (2 : Nat) (Option.some Jvm.ClassFile.FieldType.long), Jvm.Cond.code ({ cls := "WindowFuncEngine", name := "peer", desc := "(II)Z" } : Jvm.MethodName) prog_1_method_22_code (5 : Nat) (Option.some Jvm.ClassFile.FieldType.boolean), Jvm.Cond.code ({ cls := "WindowFuncEngine", name := "distance", desc := "(II)J" } : Jvm.MethodName) prog_1_method_27_code (3 : Nat) (Option.some Jvm.ClassFile.FieldType.long), Jvm.Cond.code ({ cls := "WindowFuncEngine", name := "setFrameMode", desc := "(I)Z" } : Jvm.MethodName) prog_1_method_7_code (2 : Nat) (Option.some Jvm.ClassFile.FieldType.boolean), Jvm.Cond.code ({ cls := "WindowFuncEngine", name := "setOrder", desc := "(II)Z" } : Jvm.MethodName) prog_1_method_6_code (3 : Nat) (Option.some Jvm.ClassFile.FieldType.boolean), Jvm.Cond.code ({ cls := "WindowFuncEngine", name := "clear", desc := "()V" } : Jvm.MethodName) prog_1_method_4_code (1 : Nat) (Option.none : Option Jvm.ClassFile.FieldType), Jvm.Cond.code ({ cls := "WindowFuncEngine", name := "rowsStartHolds", desc := "(II)Z" } : Jvm.MethodName) prog_1_method_25_code (9 : Nat) (Option.some Jvm.ClassFile.FieldType.boolean), Jvm.Cond.code ({ cls := "WindowFuncEngine", name := "rowsEndHolds", desc := "(II)Z" } : Jvm.MethodName) prog_1_method_26_code (9 : Nat) (Option.some Jvm.ClassFile.FieldType.boolean), Jvm.Cond.code ({ cls := "WindowFuncEngine", name := "shiftValue", desc := "(IIZ)V" } : Jvm.MethodName) prog_1_method_36_code (7 : Nat) (Option.none : Option Jvm.ClassFile.FieldType), Jvm.Cond.code ({ cls := "WindowFuncEngine", name := "denseRankOf", desc := "(II)J" } : Jvm.MethodName) prog_1_method_35_code (7 : Nat) (Option.some Jvm.ClassFile.FieldType.long), Jvm.Cond.code ({ cls := "WindowFuncEngine", name := "rankOf", desc := "(II)J" } : Jvm.MethodName) prog_1_method_34_code (6 : Nat) (Option.some Jvm.ClassFile.FieldType.long)]
set_option maxRecDepth 65536 in
theorem codes_eq : words1.filter isCode = codes1 := rfl
theorem w_codes : ∀ c ∈ words1.filter isCode, c.before args0 about1 = true := by
  rw [codes_eq]
  intro c hc
  simp only [codes1, List.mem_cons, List.not_mem_nil, or_false] at hc
  rcases hc with rfl | rfl | rfl | rfl | rfl | rfl | rfl | rfl | rfl | rfl | rfl | rfl | rfl | rfl | rfl | rfl | rfl | rfl | rfl | rfl | rfl | rfl | rfl | rfl | rfl | rfl | rfl | rfl | rfl | rfl | rfl | rfl | rfl | rfl | rfl | rfl | rfl
  · exact w_c0
  · exact w_c1
  · exact w_c2
  · exact w_c3
  · exact w_c4
  · exact w_c5
  · exact w_c6
  · exact w_c7
  · exact w_c8
  · exact w_c9
  · exact w_c10
  · exact w_c11
  · exact w_c12
  · exact w_c13
  · exact w_c14
  · exact w_c15
  · exact w_c16
  · exact w_c17
  · exact w_c18
  · exact w_c19
  · exact w_c20
  · exact w_c21
  · exact w_c22
  · exact w_c23
  · exact w_c24
  · exact w_c25
  · exact w_c26
  · exact w_c27
  · exact w_c28
  · exact w_c29
  · exact w_c30
  · exact w_c31
  · exact w_c32
  · exact w_c33
  · exact w_c34
  · exact w_c35
  · exact w_c36
set_option maxRecDepth 65536 in
theorem w_t1 : (words1.take 24).all (fun c => isCode c || c.before args0 about1) = true := by decide +kernel
set_option maxRecDepth 65536 in
theorem w_t2 : ((words1.drop 24).take 24).all (fun c => isCode c || c.before args0 about1) = true := by decide +kernel
set_option maxRecDepth 65536 in
theorem w_t3 : (((words1.drop 24).drop 24).take 24).all (fun c => isCode c || c.before args0 about1) = true := by decide +kernel
set_option maxRecDepth 65536 in
theorem w_t4 : ((((words1.drop 24).drop 24).drop 24).take 24).all (fun c => isCode c || c.before args0 about1) = true := by decide +kernel
set_option maxRecDepth 65536 in
theorem w_t5 : (((((words1.drop 24).drop 24).drop 24).drop 24).take 24).all (fun c => isCode c || c.before args0 about1) = true := by decide +kernel
set_option maxRecDepth 65536 in
theorem w_t6 : ((((((words1.drop 24).drop 24).drop 24).drop 24).drop 24).take 24).all (fun c => isCode c || c.before args0 about1) = true := by decide +kernel
set_option maxRecDepth 65536 in
theorem w_t7 : (((((((words1.drop 24).drop 24).drop 24).drop 24).drop 24).drop 24).take 24).all (fun c => isCode c || c.before args0 about1) = true := by decide +kernel
set_option maxRecDepth 65536 in
theorem w_t8 : ((((((((words1.drop 24).drop 24).drop 24).drop 24).drop 24).drop 24).drop 24).take 24).all (fun c => isCode c || c.before args0 about1) = true := by decide +kernel
set_option maxRecDepth 65536 in
theorem w_t9 : ((((((((words1.drop 24).drop 24).drop 24).drop 24).drop 24).drop 24).drop 24).drop 24).all (fun c => isCode c || c.before args0 about1) = true := by decide +kernel
theorem w_tables : (allAtoms (Jvm.Cond.code x code maxLocals ret :: tables_1)).before args0 about1 = true := by
  rw [allAtoms_all]
  show words1.all (fun c => c.before args0 about1) = true
  refine all_split ?_ w_codes
  rw [← List.take_append_drop 24 words1, List.all_append, w_t1, ← List.take_append_drop 24 (words1.drop 24), List.all_append, w_t2, ← List.take_append_drop 24 ((words1.drop 24).drop 24), List.all_append, w_t3, ← List.take_append_drop 24 (((words1.drop 24).drop 24).drop 24), List.all_append, w_t4, ← List.take_append_drop 24 ((((words1.drop 24).drop 24).drop 24).drop 24), List.all_append, w_t5, ← List.take_append_drop 24 (((((words1.drop 24).drop 24).drop 24).drop 24).drop 24), List.all_append, w_t6, ← List.take_append_drop 24 ((((((words1.drop 24).drop 24).drop 24).drop 24).drop 24).drop 24), List.all_append, w_t7, ← List.take_append_drop 24 (((((((words1.drop 24).drop 24).drop 24).drop 24).drop 24).drop 24).drop 24), List.all_append, w_t8, w_t9]
  rfl
set_option maxRecDepth 65536 in
theorem w_rest : rest_1_c.before args0 about1 = true := by decide +kernel
set_option maxRecDepth 65536 in
theorem w_case : (Jvm.Cond.and given_1 narrow_1).before args0 about1 = true := by decide +kernel
theorem w_applies : (headSpec (Jvm.Cond.code x code maxLocals ret :: tables_1) room_1).applies x e0.platform about1 = true :=
  (Spec.applies_iff w_frames).mpr ⟨w_running, w_runnable, w_alone, w_named, w_hears, w_ripe, w_room, w_tables⟩
theorem atStart : AtStart classFile x code maxLocals ret World_1 tables_1 room_1 Calls_1 rest_1 Pre_1 launch0 p0 e0 about1 theMethod args0 below0 :=
  ⟨lists_1, trivial, launch0.admits_env _ _ _, launch0.least_env, fairChoices_fair.cas, fairChoices_fair.clock, w_frames, w_args, w_heap, w_applies, trivial, w_rest, w_case⟩
end start1
theorem witness_1 : WitnessClaimed_1 := ⟨start1.p0, start1.e0, start1.about1, start1.theMethod, start1.args0, start1.below0, start1.atStart⟩
end Jvm.Pilot.@@N@@
