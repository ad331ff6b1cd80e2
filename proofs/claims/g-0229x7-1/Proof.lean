import JvmDerived
import JvmDerived.Pilot.@@N@@Statement
import JvmDerived.Pilot.@@N@@Code
set_option linter.unusedVariables false
set_option linter.unusedSimpArgs false
namespace Jvm.RoadKit
open Sem ClassFile Op Lib Jvm.Stand Jvm.Free Jvm.LawKit
section New
variable {p : Program} {l : Launch} {e : Env} {R : Room} {s : State} {m : MethodId} {args : Array Value} {below : List Frame} {meth : Method} {c : Code} {T : State} {locs : List Loc} {cells slots : Nat}
theorem retI (X : Stand p l e R s m args below meth c T locs cells slots) (hx : p.tables.exec = Jvm.exec) {pc : Nat} {Ls : Array Slot} {z : Int32} {rest : List Value} (hret : meth.sig.returnType = some .int) (hd : decode c.code pc = .ok (.ireturn, 1)) {fs : List Frame}
    (hl : ∀ (f : JFrame) (acts : List Action), f.method = m → f.locked = none → f.entered = [] → (doReturn e (T.setTop f) acts (some (.int z))).1 = T.setFrames fs) : Steps p.tables e below (T.setTop (mkF m pc Ls (.int z :: rest))) (T.setFrames fs) := by
  have hm' : T.vm.method? m = some meth := X.method'
  have hn : narrow .int (.int z) = .int z := rfl
  show Steps p.tables e below (T.setTop { method := m, pc := pc, locals := Ls, stack := _ :: rest, locked := none }) _
  jvm_step X.here [X.here.top, hx, hd, hm', hret, hn]
  first | (intro acts; rw [hl _ acts rfl rfl rfl]) | rw [hl _ _ rfl rfl rfl]
  exact Steps.refl _
end New
end Jvm.RoadKit
namespace Jvm.Pilot.@@N@@
open Jvm Jvm.ClassFile Sem Op Lib Jvm.Free Jvm.Stand Jvm.LawKit Jvm.RoadKit Bundle Jvm.Pilot.@@N@@.Jvm.D
/-! TABLES of this claim: printed by claim.py -/
def k0 : Nat := 1
def cName : String := "SliceAggregate"
def cN : Nat := 18
def nF : Nat := 18
def kName (k : Nat) : String := bif Nat.beq k 0 then "SliceAggregateL5" else "SliceAggregate"
def fNm (k : Nat) : String := (bif Nat.ble 9 k then (bif Nat.ble 13 k then (bif Nat.ble 15 k then (bif Nat.ble 16 k then (bif Nat.ble 17 k then "n" else "queries") else "capacity") else (bif Nat.ble 14 k then "reg" else "snap")) else (bif Nat.ble 11 k then (bif Nat.ble 12 k then "backAgg" else "frontAgg") else (bif Nat.ble 10 k then "backElem" else "backSize"))) else (bif Nat.ble 4 k then (bif Nat.ble 6 k then (bif Nat.ble 7 k then (bif Nat.ble 8 k then "frontSize" else "slide") else "range") else (bif Nat.ble 5 k then "slots" else "regCount")) else (bif Nat.ble 2 k then (bif Nat.ble 3 k then "regC" else "regB") else (bif Nat.ble 1 k then "regA" else "regTuple"))))
def fDs (k : Nat) : String := (bif Nat.ble 9 k then (bif Nat.ble 13 k then (bif Nat.ble 15 k then (bif Nat.ble 16 k then (bif Nat.ble 17 k then "I" else "I") else "I") else (bif Nat.ble 14 k then "[I" else "[I")) else (bif Nat.ble 11 k then (bif Nat.ble 12 k then "[I" else "[I") else (bif Nat.ble 10 k then "[I" else "[I"))) else (bif Nat.ble 4 k then (bif Nat.ble 6 k then (bif Nat.ble 7 k then (bif Nat.ble 8 k then "[I" else "[I") else "[I") else (bif Nat.ble 5 k then "I" else "I")) else (bif Nat.ble 2 k then (bif Nat.ble 3 k then "I" else "I") else (bif Nat.ble 1 k then "I" else "I"))))
def fTy (k : Nat) : FieldType := (bif Nat.ble 9 k then (bif Nat.ble 13 k then (bif Nat.ble 15 k then (bif Nat.ble 16 k then (bif Nat.ble 17 k then .int else .int) else .int) else (bif Nat.ble 14 k then (.array .int) else (.array .int))) else (bif Nat.ble 11 k then (bif Nat.ble 12 k then (.array .int) else (.array .int)) else (bif Nat.ble 10 k then (.array .int) else (.array .int)))) else (bif Nat.ble 4 k then (bif Nat.ble 6 k then (bif Nat.ble 7 k then (bif Nat.ble 8 k then (.array .int) else (.array .int)) else (.array .int)) else (bif Nat.ble 5 k then .int else .int)) else (bif Nat.ble 2 k then (bif Nat.ble 3 k then .int else .int) else (bif Nat.ble 1 k then .int else .int))))
def fFin (k : Nat) : Bool := (bif Nat.ble 9 k then (bif Nat.ble 13 k then (bif Nat.ble 15 k then (bif Nat.ble 16 k then (bif Nat.ble 17 k then false else false) else false) else (bif Nat.ble 14 k then true else true)) else (bif Nat.ble 11 k then (bif Nat.ble 12 k then true else true) else (bif Nat.ble 10 k then true else true))) else (bif Nat.ble 4 k then (bif Nat.ble 6 k then (bif Nat.ble 7 k then (bif Nat.ble 8 k then true else true) else true) else (bif Nat.ble 5 k then true else true)) else (bif Nat.ble 2 k then (bif Nat.ble 3 k then true else true) else (bif Nat.ble 1 k then true else true))))
def cDef : List Value := [.int 0, .int 0, .int 0, .int 0, .int 0, .int 0, .null, .null, .null, .null, .null, .null, .null, .null, .null, .int 0, .int 0, .int 0]
def cK : List Value := []
def pN : Nat := 39
def pTop (m : Nat) : Nat := (bif Nat.ble 19 m then (bif Nat.ble 29 m then (bif Nat.ble 34 m then (bif Nat.ble 36 m then (bif Nat.ble 37 m then (bif Nat.ble 38 m then 29 else 33) else 15) else (bif Nat.ble 35 m then 31 else 31)) else (bif Nat.ble 31 m then (bif Nat.ble 32 m then (bif Nat.ble 33 m then 16 else 23) else 31) else (bif Nat.ble 30 m then 5 else 155))) else (bif Nat.ble 24 m then (bif Nat.ble 26 m then (bif Nat.ble 27 m then (bif Nat.ble 28 m then 17 else 23) else 17) else (bif Nat.ble 25 m then 5 else 67)) else (bif Nat.ble 21 m then (bif Nat.ble 22 m then (bif Nat.ble 23 m then 42 else 13) else 67) else (bif Nat.ble 20 m then 67 else 85)))) else (bif Nat.ble 9 m then (bif Nat.ble 14 m then (bif Nat.ble 16 m then (bif Nat.ble 17 m then (bif Nat.ble 18 m then 38 else 203) else 58) else (bif Nat.ble 15 m then 9 else 67)) else (bif Nat.ble 11 m then (bif Nat.ble 12 m then (bif Nat.ble 13 m then 25 else 92) else 84) else (bif Nat.ble 10 m then 84 else 24))) else (bif Nat.ble 4 m then (bif Nat.ble 6 m then (bif Nat.ble 7 m then (bif Nat.ble 8 m then 33 else 58) else 58) else (bif Nat.ble 5 m then 15 else 55)) else (bif Nat.ble 2 m then (bif Nat.ble 3 m then 10 else 42) else (bif Nat.ble 1 m then 155 else 236)))))
def pK (m : Nat) : Nat := (bif Nat.ble 19 m then (bif Nat.ble 29 m then (bif Nat.ble 34 m then (bif Nat.ble 36 m then (bif Nat.ble 37 m then (bif Nat.ble 38 m then 1 else 1) else 1) else (bif Nat.ble 35 m then 1 else 1)) else (bif Nat.ble 31 m then (bif Nat.ble 32 m then (bif Nat.ble 33 m then 1 else 1) else 1) else (bif Nat.ble 30 m then 1 else 0))) else (bif Nat.ble 24 m then (bif Nat.ble 26 m then (bif Nat.ble 27 m then (bif Nat.ble 28 m then 1 else 1) else 1) else (bif Nat.ble 25 m then 1 else 1)) else (bif Nat.ble 21 m then (bif Nat.ble 22 m then (bif Nat.ble 23 m then 1 else 1) else 1) else (bif Nat.ble 20 m then 1 else 1)))) else (bif Nat.ble 9 m then (bif Nat.ble 14 m then (bif Nat.ble 16 m then (bif Nat.ble 17 m then (bif Nat.ble 18 m then 1 else 1) else 1) else (bif Nat.ble 15 m then 1 else 1)) else (bif Nat.ble 11 m then (bif Nat.ble 12 m then (bif Nat.ble 13 m then 1 else 1) else 1) else (bif Nat.ble 10 m then 1 else 1))) else (bif Nat.ble 4 m then (bif Nat.ble 6 m then (bif Nat.ble 7 m then (bif Nat.ble 8 m then 0 else 1) else 1) else (bif Nat.ble 5 m then 1 else 1)) else (bif Nat.ble 2 m then (bif Nat.ble 3 m then 1 else 1) else (bif Nat.ble 1 m then 1 else 0)))))
def pNm (m : Nat) : String := (bif Nat.ble 19 m then (bif Nat.ble 29 m then (bif Nat.ble 34 m then (bif Nat.ble 36 m then (bif Nat.ble 37 m then (bif Nat.ble 38 m then "regEntry" else "liveResult") else "validEntry") else (bif Nat.ble 35 m then "result" else "evaluations")) else (bif Nat.ble 31 m then (bif Nat.ble 32 m then (bif Nat.ble 33 m then "windowEnd" else "endOf") else "windowStart") else (bif Nat.ble 30 m then "tupleCount" else "same"))) else (bif Nat.ble 24 m then (bif Nat.ble 26 m then (bif Nat.ble 27 m then (bif Nat.ble 28 m then "querySlide" else "validQuery") else "queryRange") else (bif Nat.ble 25 m then "queryCount" else "loadFront")) else (bif Nat.ble 21 m then (bif Nat.ble 22 m then (bif Nat.ble 23 m then "liveFold" else "takeSnapshot") else "storeFront") else (bif Nat.ble 20 m then "loadBack" else "flip")))) else (bif Nat.ble 9 m then (bif Nat.ble 14 m then (bif Nat.ble 16 m then (bif Nat.ble 17 m then (bif Nat.ble 18 m then "evictOldest" else "regMul") else "loadBackAgg") else (bif Nat.ble 15 m then "slotOffset" else "storeBack")) else (bif Nat.ble 11 m then (bif Nat.ble 12 m then (bif Nat.ble 13 m then "validSlot" else "appendToQuery") else "push") else (bif Nat.ble 10 m then "addQuery" else "clearStream"))) else (bif Nat.ble 4 m then (bif Nat.ble 6 m then (bif Nat.ble 7 m then (bif Nat.ble 8 m then "step" else "storeSnap") else "storeBackAgg") else (bif Nat.ble 5 m then "validReg" else "regSet")) else (bif Nat.ble 2 m then (bif Nat.ble 3 m then "regIdentity" else "resetQuery") else (bif Nat.ble 1 m then "<init>" else "law")))))
def pDs (m : Nat) : String := (bif Nat.ble 19 m then (bif Nat.ble 29 m then (bif Nat.ble 34 m then (bif Nat.ble 36 m then (bif Nat.ble 37 m then (bif Nat.ble 38 m then "(II)I" else "(II)I") else "(I)Z") else (bif Nat.ble 35 m then "(II)I" else "(I)I")) else (bif Nat.ble 31 m then (bif Nat.ble 32 m then (bif Nat.ble 33 m then "(I)I" else "(I)I") else "(I)I") else (bif Nat.ble 30 m then "()I" else "(LSliceAggregate;LSliceAggregate;)Z"))) else (bif Nat.ble 24 m then (bif Nat.ble 26 m then (bif Nat.ble 27 m then (bif Nat.ble 28 m then "(I)I" else "(I)Z") else "(I)I") else (bif Nat.ble 25 m then "()I" else "(III)V")) else (bif Nat.ble 21 m then (bif Nat.ble 22 m then (bif Nat.ble 23 m then "(II)V" else "(I)V") else "(III)V") else (bif Nat.ble 20 m then "(III)V" else "(I)V")))) else (bif Nat.ble 9 m then (bif Nat.ble 14 m then (bif Nat.ble 16 m then (bif Nat.ble 17 m then (bif Nat.ble 18 m then "(I)V" else "(III)V") else "(II)V") else (bif Nat.ble 15 m then "(II)I" else "(III)V")) else (bif Nat.ble 11 m then (bif Nat.ble 12 m then (bif Nat.ble 13 m then "(II)Z" else "(I)V") else "(IIII)I") else (bif Nat.ble 10 m then "(II)I" else "()V"))) else (bif Nat.ble 4 m then (bif Nat.ble 6 m then (bif Nat.ble 7 m then (bif Nat.ble 8 m then "(LSliceAggregate;IIIII)I" else "(II)V") else "(II)V") else (bif Nat.ble 5 m then "(I)Z" else "(IIIII)V")) else (bif Nat.ble 2 m then (bif Nat.ble 3 m then "(I)V" else "(I)V") else (bif Nat.ble 1 m then "(I)V" else "([I)Z")))))
def pName (m : Nat) : MethodName := ⟨kName (pK m), pNm m, pDs m⟩
def pBytes (m : Nat) : ByteArray := (bif Nat.ble 19 m then (bif Nat.ble 29 m then (bif Nat.ble 34 m then (bif Nat.ble 36 m then (bif Nat.ble 37 m then (bif Nat.ble 38 m then prog_1_method_28_code else prog_1_method_5_code) else prog_1_method_15_code) else (bif Nat.ble 35 m then prog_1_method_4_code else prog_1_method_8_code)) else (bif Nat.ble 31 m then (bif Nat.ble 32 m then (bif Nat.ble 33 m then prog_1_method_7_code else prog_1_method_19_code) else prog_1_method_6_code) else (bif Nat.ble 30 m then prog_1_method_12_code else method_2_code))) else (bif Nat.ble 24 m then (bif Nat.ble 26 m then (bif Nat.ble 27 m then (bif Nat.ble 28 m then prog_1_method_10_code else prog_1_method_14_code) else prog_1_method_9_code) else (bif Nat.ble 25 m then prog_1_method_11_code else prog_1_method_32_code)) else (bif Nat.ble 21 m then (bif Nat.ble 22 m then (bif Nat.ble 23 m then prog_1_method_24_code else prog_1_method_25_code) else prog_1_method_33_code) else (bif Nat.ble 20 m then prog_1_method_30_code else prog_1_method_23_code)))) else (bif Nat.ble 9 m then (bif Nat.ble 14 m then (bif Nat.ble 16 m then (bif Nat.ble 17 m then (bif Nat.ble 18 m then prog_1_method_22_code else prog_1_method_29_code) else prog_1_method_34_code) else (bif Nat.ble 15 m then prog_1_method_18_code else prog_1_method_31_code)) else (bif Nat.ble 11 m then (bif Nat.ble 12 m then (bif Nat.ble 13 m then prog_1_method_17_code else prog_1_method_21_code) else prog_1_method_3_code) else (bif Nat.ble 10 m then prog_1_method_2_code else prog_1_method_13_code))) else (bif Nat.ble 4 m then (bif Nat.ble 6 m then (bif Nat.ble 7 m then (bif Nat.ble 8 m then method_3_code else prog_1_method_36_code) else prog_1_method_35_code) else (bif Nat.ble 5 m then prog_1_method_16_code else prog_1_method_26_code)) else (bif Nat.ble 2 m then (bif Nat.ble 3 m then prog_1_method_27_code else prog_1_method_20_code) else (bif Nat.ble 1 m then prog_1_method_1_code else code)))))
def pMaxL (m : Nat) : Nat := (bif Nat.ble 19 m then (bif Nat.ble 29 m then (bif Nat.ble 34 m then (bif Nat.ble 36 m then (bif Nat.ble 37 m then (bif Nat.ble 38 m then 3 else 3) else 2) else (bif Nat.ble 35 m then 3 else 3)) else (bif Nat.ble 31 m then (bif Nat.ble 32 m then (bif Nat.ble 33 m then 2 else 3) else 3) else (bif Nat.ble 30 m then 1 else 4))) else (bif Nat.ble 24 m then (bif Nat.ble 26 m then (bif Nat.ble 27 m then (bif Nat.ble 28 m then 2 else 2) else 2) else (bif Nat.ble 25 m then 1 else 7)) else (bif Nat.ble 21 m then (bif Nat.ble 22 m then (bif Nat.ble 23 m then 4 else 2) else 7) else (bif Nat.ble 20 m then 7 else 4)))) else (bif Nat.ble 9 m then (bif Nat.ble 14 m then (bif Nat.ble 16 m then (bif Nat.ble 17 m then (bif Nat.ble 18 m then 2 else 15) else 5) else (bif Nat.ble 15 m then 3 else 7)) else (bif Nat.ble 11 m then (bif Nat.ble 12 m then (bif Nat.ble 13 m then 3 else 4) else 8) else (bif Nat.ble 10 m then 4 else 2))) else (bif Nat.ble 4 m then (bif Nat.ble 6 m then (bif Nat.ble 7 m then (bif Nat.ble 8 m then 6 else 5) else 5) else (bif Nat.ble 5 m then 2 else 7)) else (bif Nat.ble 2 m then (bif Nat.ble 3 m then 2 else 2) else (bif Nat.ble 1 m then 4 else 9)))))
def pRet (m : Nat) : Option FieldType := (bif Nat.ble 19 m then (bif Nat.ble 29 m then (bif Nat.ble 34 m then (bif Nat.ble 36 m then (bif Nat.ble 37 m then (bif Nat.ble 38 m then (some .int) else (some .int)) else (some .boolean)) else (bif Nat.ble 35 m then (some .int) else (some .int))) else (bif Nat.ble 31 m then (bif Nat.ble 32 m then (bif Nat.ble 33 m then (some .int) else (some .int)) else (some .int)) else (bif Nat.ble 30 m then (some .int) else (some .boolean)))) else (bif Nat.ble 24 m then (bif Nat.ble 26 m then (bif Nat.ble 27 m then (bif Nat.ble 28 m then (some .int) else (some .boolean)) else (some .int)) else (bif Nat.ble 25 m then (some .int) else none)) else (bif Nat.ble 21 m then (bif Nat.ble 22 m then (bif Nat.ble 23 m then none else none) else none) else (bif Nat.ble 20 m then none else none)))) else (bif Nat.ble 9 m then (bif Nat.ble 14 m then (bif Nat.ble 16 m then (bif Nat.ble 17 m then (bif Nat.ble 18 m then none else none) else none) else (bif Nat.ble 15 m then (some .int) else none)) else (bif Nat.ble 11 m then (bif Nat.ble 12 m then (bif Nat.ble 13 m then (some .boolean) else none) else (some .int)) else (bif Nat.ble 10 m then (some .int) else none))) else (bif Nat.ble 4 m then (bif Nat.ble 6 m then (bif Nat.ble 7 m then (bif Nat.ble 8 m then (some .int) else none) else none) else (bif Nat.ble 5 m then (some .boolean) else none)) else (bif Nat.ble 2 m then (bif Nat.ble 3 m then none else none) else (bif Nat.ble 1 m then none else (some .boolean))))))
def pNA (m : Nat) : Nat := (bif Nat.ble 19 m then (bif Nat.ble 29 m then (bif Nat.ble 34 m then (bif Nat.ble 36 m then (bif Nat.ble 37 m then (bif Nat.ble 38 m then 2 else 2) else 1) else (bif Nat.ble 35 m then 2 else 1)) else (bif Nat.ble 31 m then (bif Nat.ble 32 m then (bif Nat.ble 33 m then 1 else 1) else 1) else (bif Nat.ble 30 m then 0 else 2))) else (bif Nat.ble 24 m then (bif Nat.ble 26 m then (bif Nat.ble 27 m then (bif Nat.ble 28 m then 1 else 1) else 1) else (bif Nat.ble 25 m then 0 else 3)) else (bif Nat.ble 21 m then (bif Nat.ble 22 m then (bif Nat.ble 23 m then 2 else 1) else 3) else (bif Nat.ble 20 m then 3 else 1)))) else (bif Nat.ble 9 m then (bif Nat.ble 14 m then (bif Nat.ble 16 m then (bif Nat.ble 17 m then (bif Nat.ble 18 m then 1 else 3) else 2) else (bif Nat.ble 15 m then 2 else 3)) else (bif Nat.ble 11 m then (bif Nat.ble 12 m then (bif Nat.ble 13 m then 2 else 1) else 4) else (bif Nat.ble 10 m then 2 else 0))) else (bif Nat.ble 4 m then (bif Nat.ble 6 m then (bif Nat.ble 7 m then (bif Nat.ble 8 m then 6 else 2) else 2) else (bif Nat.ble 5 m then 1 else 5)) else (bif Nat.ble 2 m then (bif Nat.ble 3 m then 1 else 1) else (bif Nat.ble 1 m then 1 else 1)))))
def pFr (m : Nat) : Nat := (bif Nat.ble 19 m then (bif Nat.ble 29 m then (bif Nat.ble 34 m then (bif Nat.ble 36 m then (bif Nat.ble 37 m then (bif Nat.ble 38 m then 1 else 4) else 0) else (bif Nat.ble 35 m then 1 else 1)) else (bif Nat.ble 31 m then (bif Nat.ble 32 m then (bif Nat.ble 33 m then 1 else 0) else 1) else (bif Nat.ble 30 m then 0 else 5))) else (bif Nat.ble 24 m then (bif Nat.ble 26 m then (bif Nat.ble 27 m then (bif Nat.ble 28 m then 1 else 0) else 1) else (bif Nat.ble 25 m then 0 else 1)) else (bif Nat.ble 21 m then (bif Nat.ble 22 m then (bif Nat.ble 23 m then 3 else 4) else 1) else (bif Nat.ble 20 m then 1 else 3)))) else (bif Nat.ble 9 m then (bif Nat.ble 14 m then (bif Nat.ble 16 m then (bif Nat.ble 17 m then (bif Nat.ble 18 m then 4 else 1) else 1) else (bif Nat.ble 15 m then 0 else 1)) else (bif Nat.ble 11 m then (bif Nat.ble 12 m then (bif Nat.ble 13 m then 0 else 5) else 6) else (bif Nat.ble 10 m then 4 else 4))) else (bif Nat.ble 4 m then (bif Nat.ble 6 m then (bif Nat.ble 7 m then (bif Nat.ble 8 m then 7 else 1) else 1) else (bif Nat.ble 5 m then 0 else 1)) else (bif Nat.ble 2 m then (bif Nat.ble 3 m then 2 else 3) else (bif Nat.ble 1 m then 4 else 8)))))
def pLo (m : Nat) : Nat := (bif Nat.ble 19 m then (bif Nat.ble 29 m then (bif Nat.ble 34 m then (bif Nat.ble 36 m then (bif Nat.ble 37 m then (bif Nat.ble 38 m then 13 else 59) else 0) else (bif Nat.ble 35 m then 13 else 13)) else (bif Nat.ble 31 m then (bif Nat.ble 32 m then (bif Nat.ble 33 m then 14 else 0) else 14) else (bif Nat.ble 30 m then 0 else 74))) else (bif Nat.ble 24 m then (bif Nat.ble 26 m then (bif Nat.ble 27 m then (bif Nat.ble 28 m then 13 else 0) else 13) else (bif Nat.ble 25 m then 0 else 14)) else (bif Nat.ble 21 m then (bif Nat.ble 22 m then (bif Nat.ble 23 m then 44 else 59) else 14) else (bif Nat.ble 20 m then 14 else 44)))) else (bif Nat.ble 9 m then (bif Nat.ble 14 m then (bif Nat.ble 16 m then (bif Nat.ble 17 m then (bif Nat.ble 18 m then 59 else 13) else 13) else (bif Nat.ble 15 m then 0 else 14)) else (bif Nat.ble 11 m then (bif Nat.ble 12 m then (bif Nat.ble 13 m then 0 else 72) else 87) else (bif Nat.ble 10 m then 57 else 57))) else (bif Nat.ble 4 m then (bif Nat.ble 6 m then (bif Nat.ble 7 m then (bif Nat.ble 8 m then 106 else 13) else 13) else (bif Nat.ble 5 m then 0 else 13)) else (bif Nat.ble 2 m then (bif Nat.ble 3 m then 31 else 44) else (bif Nat.ble 1 m then 57 else 123)))))
def tB (k p : Nat) (a b : Option (Instr × Nat)) : Option (Instr × Nat) := bif Nat.ble k p then a else b
def tL (k p : Nat) (i : Instr) (x : Nat) : Option (Instr × Nat) := bif Nat.beq p k then some (i, x) else none
set_option maxHeartbeats 4000000 in
def cd0 (p : Nat) : Option (Instr × Nat) := (tB 124 p (tB 175 p (tB 200 p (tB 217 p (tB 227 p (tB 231 p (tB 234 p (tB 235 p (tL 235 p .ireturn 0) (tL 234 p (.iconst 1) 0)) (tL 231 p (.goto (-93)) 138)) (tB 228 p (tL 228 p (.iinc 3 5) 0) (tL 227 p .ireturn 0))) (tB 220 p (tB 223 p (tB 226 p (tL 226 p (.iconst 0) 0) (tL 223 p (.ifCond .ne 5) 228)) (tL 220 p (.invokestatic 58) 29)) (tB 218 p (tL 218 p (.aload 4) 0) (tL 217 p (.aload_n 1) 0)))) (tB 205 p (tB 210 p (tB 212 p (tB 214 p (tL 214 p (.if_icmp .ne 12) 226) (tL 212 p (.iload 8) 0)) (tL 210 p (.iload 7) 0)) (tB 208 p (tL 208 p (.istore 8) 0) (tL 205 p (.invokestatic 52) 8))) (tB 202 p (tB 203 p (tB 204 p (tL 204 p .iaload 0) (tL 203 p .iadd 0)) (tL 202 p (.iconst 4) 0)) (tB 201 p (tL 201 p (.iload_n 3) 0) (tL 200 p (.aload_n 0) 0))))) (tB 190 p (tB 195 p (tB 197 p (tB 198 p (tB 199 p (tL 199 p .iaload 0) (tL 198 p .iadd 0)) (tL 197 p (.iconst 3) 0)) (tB 196 p (tL 196 p (.iload_n 3) 0) (tL 195 p (.aload_n 0) 0))) (tB 192 p (tB 193 p (tB 194 p (tL 194 p .iaload 0) (tL 193 p .iadd 0)) (tL 192 p (.iconst 2) 0)) (tB 191 p (tL 191 p (.iload_n 3) 0) (tL 190 p (.aload_n 0) 0)))) (tB 185 p (tB 187 p (tB 188 p (tB 189 p (tL 189 p .iaload 0) (tL 188 p .iadd 0)) (tL 187 p (.iconst 1) 0)) (tB 186 p (tL 186 p (.iload_n 3) 0) (tL 185 p (.aload_n 0) 0))) (tB 179 p (tB 181 p (tB 183 p (tL 183 p (.iload 6) 0) (tL 181 p (.aload 4) 0)) (tL 179 p (.istore 7) 0)) (tB 176 p (tL 176 p (.invokestatic 52) 8) (tL 175 p .iaload 0)))))) (tB 154 p (tB 165 p (tB 170 p (tB 172 p (tB 173 p (tB 174 p (tL 174 p .iadd 0) (tL 173 p (.iconst 4) 0)) (tL 172 p (.iload_n 3) 0)) (tB 171 p (tL 171 p (.aload_n 0) 0) (tL 170 p .iaload 0))) (tB 167 p (tB 168 p (tB 169 p (tL 169 p .iadd 0) (tL 168 p (.iconst 3) 0)) (tL 167 p (.iload_n 3) 0)) (tB 166 p (tL 166 p (.aload_n 0) 0) (tL 165 p .iaload 0)))) (tB 160 p (tB 162 p (tB 163 p (tB 164 p (tL 164 p .iadd 0) (tL 163 p (.iconst 2) 0)) (tL 162 p (.iload_n 3) 0)) (tB 161 p (tL 161 p (.aload_n 0) 0) (tL 160 p .iaload 0))) (tB 157 p (tB 158 p (tB 159 p (tL 159 p .iadd 0) (tL 158 p (.iconst 1) 0)) (tL 157 p (.iload_n 3) 0)) (tB 156 p (tL 156 p (.aload_n 0) 0) (tL 154 p (.iload 6) 0))))) (tB 141 p (tB 148 p (tB 150 p (tB 151 p (tB 153 p (tL 153 p (.aload_n 1) 0) (tL 151 p (.istore 6) 0)) (tL 150 p .iand 0)) (tB 149 p (tL 149 p (.iconst 3) 0) (tL 148 p .iaload 0))) (tB 143 p (tB 146 p (tB 147 p (tL 147 p (.iload_n 3) 0) (tL 146 p (.aload_n 0) 0)) (tL 143 p (.if_icmp .gt 91) 234)) (tB 142 p (tL 142 p .arraylength 0) (tL 141 p (.aload_n 0) 0)))) (tB 136 p (tB 138 p (tB 139 p (tB 140 p (tL 140 p .iadd 0) (tL 139 p (.iconst 5) 0)) (tL 138 p (.iload_n 3) 0)) (tB 137 p (tL 137 p .ireturn 0) (tL 136 p (.iconst 0) 0))) (tB 128 p (tB 130 p (tB 133 p (tL 133 p (.ifCond .ne 5) 138) (tL 130 p (.invokestatic 58) 29)) (tL 128 p (.aload 4) 0)) (tB 127 p (tL 127 p (.aload_n 1) 0) (tL 124 p (.invokevirtual 42) 9))))))) (tB 45 p (tB 81 p (tB 102 p (tB 113 p (tB 117 p (tB 120 p (tB 123 p (tL 123 p (.aload_n 1) 0) (tL 120 p (.goto (-42)) 78)) (tL 117 p (.iinc 6 1) 0)) (tB 116 p (tL 116 p .pop 0) (tL 113 p (.invokevirtual 39) 10))) (tB 107 p (tB 109 p (tB 111 p (tL 111 p (.iload 8) 0) (tL 109 p (.iload 7) 0)) (tL 107 p (.aload 4) 0)) (tB 105 p (tL 105 p (.istore 8) 0) (tL 102 p (.invokevirtual 29) 28)))) (tB 92 p (tB 97 p (tB 99 p (tB 100 p (tL 100 p (.iload 6) 0) (tL 99 p (.aload_n 1) 0)) (tL 97 p (.istore 7) 0)) (tB 94 p (tL 94 p (.invokevirtual 26) 26) (tL 92 p (.iload 6) 0))) (tB 86 p (tB 88 p (tB 91 p (tL 91 p (.aload_n 1) 0) (tL 88 p (.if_icmp .ge 29) 117)) (tL 86 p (.iload 5) 0)) (tB 84 p (tL 84 p (.iload 6) 0) (tL 81 p (.if_icmp .ge 42) 123))))) (tB 63 p (tB 73 p (tB 76 p (tB 78 p (tB 80 p (tL 80 p (.iconst 4) 0) (tL 78 p (.iload 6) 0)) (tL 76 p (.istore 6) 0)) (tB 75 p (tL 75 p (.iconst 0) 0) (tL 73 p (.istore 5) 0))) (tB 67 p (tB 69 p (tB 70 p (tL 70 p (.invokevirtual 7) 25) (tL 69 p (.aload_n 1) 0)) (tL 67 p (.astore 4) 0)) (tB 64 p (tL 64 p (.invokespecial 49) 1) (tL 63 p (.iconst 4) 0)))) (tB 52 p (tB 56 p (tB 59 p (tB 62 p (tL 62 p .dup 0) (tL 59 p (.new 8) 0)) (tL 56 p (.goto (-40)) 16)) (tB 53 p (tL 53 p (.iinc 3 5) 0) (tL 52 p .pop 0))) (tB 47 p (tB 48 p (tB 49 p (tL 49 p (.invokestatic 52) 8) (tL 48 p .iaload 0)) (tL 47 p .iadd 0)) (tB 46 p (tL 46 p (.iconst 4) 0) (tL 45 p (.iload_n 3) 0)))))) (tB 25 p (tB 35 p (tB 40 p (tB 42 p (tB 43 p (tB 44 p (tL 44 p (.aload_n 0) 0) (tL 43 p .iaload 0)) (tL 42 p .iadd 0)) (tB 41 p (tL 41 p (.iconst 3) 0) (tL 40 p (.iload_n 3) 0))) (tB 37 p (tB 38 p (tB 39 p (tL 39 p (.aload_n 0) 0) (tL 38 p .iaload 0)) (tL 37 p .iadd 0)) (tB 36 p (tL 36 p (.iconst 2) 0) (tL 35 p (.iload_n 3) 0)))) (tB 30 p (tB 32 p (tB 33 p (tB 34 p (tL 34 p (.aload_n 0) 0) (tL 33 p .iaload 0)) (tL 32 p .iadd 0)) (tB 31 p (tL 31 p (.iconst 1) 0) (tL 30 p (.iload_n 3) 0))) (tB 27 p (tB 28 p (tB 29 p (tL 29 p (.aload_n 0) 0) (tL 28 p .iand 0)) (tL 27 p (.iconst 3) 0)) (tB 26 p (tL 26 p .iaload 0) (tL 25 p (.iload_n 3) 0))))) (tB 13 p (tB 18 p (tB 20 p (tB 23 p (tB 24 p (tL 24 p (.aload_n 0) 0) (tL 23 p (.aload_n 1) 0)) (tL 20 p (.if_icmp .gt 39) 59)) (tB 19 p (tL 19 p (.iload_n 2) 0) (tL 18 p .iadd 0))) (tB 15 p (tB 16 p (tB 17 p (tL 17 p (.iconst 5) 0) (tL 16 p (.iload_n 3) 0)) (tL 15 p (.istore_n 3) 0)) (tB 14 p (tL 14 p (.iconst 0) 0) (tL 13 p (.istore_n 2) 0)))) (tB 8 p (tB 10 p (tB 11 p (tB 12 p (tL 12 p .idiv 0) (tL 11 p (.iconst 2) 0)) (tL 10 p .arraylength 0)) (tB 9 p (tL 9 p (.aload_n 0) 0) (tL 8 p (.astore_n 1) 0))) (tB 4 p (tB 5 p (tL 5 p (.invokespecial 49) 1) (tL 4 p (.iconst 4) 0)) (tB 3 p (tL 3 p .dup 0) (tL 0 p (.new 8) 0))))))))
set_option maxHeartbeats 4000000 in
def cd1 (p : Nat) : Option (Instr × Nat) := (tB 81 p (tB 119 p (tB 136 p (tB 143 p (tB 148 p (tB 151 p (tB 154 p (tL 154 p .return_ 0) (tL 151 p (.goto (-13)) 138)) (tL 148 p (.iinc 3 1) 0)) (tB 144 p (tB 145 p (tL 145 p (.invokevirtual 65) 2) (tL 144 p (.iload_n 3) 0)) (tL 143 p (.aload_n 0) 0))) (tB 138 p (tB 139 p (tB 140 p (tL 140 p (.if_icmp .ge 14) 154) (tL 139 p (.iconst 4) 0)) (tL 138 p (.iload_n 3) 0)) (tB 137 p (tL 137 p (.istore_n 3) 0) (tL 136 p (.iconst 0) 0)))) (tB 126 p (tB 131 p (tB 132 p (tB 133 p (tL 133 p (.putfield 62) 17) (tL 132 p (.iconst 0) 0)) (tL 131 p (.aload_n 0) 0)) (tB 127 p (tB 128 p (tL 128 p (.putfield 59) 16) (tL 127 p (.iconst 0) 0)) (tL 126 p (.aload_n 0) 0))) (tB 121 p (tB 122 p (tB 123 p (tL 123 p (.putfield 56) 15) (tL 122 p (.iload_n 2) 0)) (tL 121 p (.aload_n 0) 0)) (tB 120 p (tL 120 p (.istore_n 2) 0) (tL 119 p (.iconst 4) 0))))) (tB 102 p (tB 109 p (tB 114 p (tB 115 p (tB 116 p (tL 116 p (.if_icmp .le 5) 121) (tL 115 p (.iconst 4) 0)) (tL 114 p (.iload_n 2) 0)) (tB 112 p (tB 113 p (tL 113 p (.istore_n 2) 0) (tL 112 p (.iconst 1) 0)) (tL 109 p (.if_icmp .ge 5) 114))) (tB 106 p (tB 107 p (tB 108 p (tL 108 p (.iconst 1) 0) (tL 107 p (.iload_n 2) 0)) (tL 106 p (.istore_n 2) 0)) (tB 105 p (tL 105 p (.iload_n 1) 0) (tL 102 p (.putfield 53) 14)))) (tB 90 p (tB 97 p (tB 98 p (tB 100 p (tL 100 p (.newarray .int) 0) (tL 98 p (.bipush 16) 0)) (tL 97 p (.aload_n 0) 0)) (tB 92 p (tB 94 p (tL 94 p (.putfield 50) 13) (tL 92 p (.newarray .int) 0)) (tL 90 p (.bipush 16) 0))) (tB 84 p (tB 86 p (tB 89 p (tL 89 p (.aload_n 0) 0) (tL 86 p (.putfield 47) 12)) (tL 84 p (.newarray .int) 0)) (tB 82 p (tL 82 p (.bipush 16) 0) (tL 81 p (.aload_n 0) 0)))))) (tB 37 p (tB 57 p (tB 67 p (tB 73 p (tB 76 p (tB 78 p (tL 78 p (.putfield 44) 11) (tL 76 p (.newarray .int) 0)) (tL 73 p (.sipush 512) 0)) (tB 69 p (tB 72 p (tL 72 p (.aload_n 0) 0) (tL 69 p (.putfield 41) 10)) (tL 67 p (.newarray .int) 0))) (tB 60 p (tB 63 p (tB 64 p (tL 64 p (.sipush 512) 0) (tL 63 p (.aload_n 0) 0)) (tL 60 p (.putfield 38) 9)) (tB 58 p (tL 58 p (.newarray .int) 0) (tL 57 p (.iconst 4) 0)))) (tB 46 p (tB 51 p (tB 53 p (tB 56 p (tL 56 p (.aload_n 0) 0) (tL 53 p (.putfield 35) 8)) (tL 51 p (.newarray .int) 0)) (tB 49 p (tB 50 p (tL 50 p (.iconst 4) 0) (tL 49 p (.aload_n 0) 0)) (tL 46 p (.putfield 32) 7))) (tB 42 p (tB 43 p (tB 44 p (tL 44 p (.newarray .int) 0) (tL 43 p (.iconst 4) 0)) (tL 42 p (.aload_n 0) 0)) (tB 39 p (tL 39 p (.putfield 28) 6) (tL 37 p (.newarray .int) 0))))) (tB 19 p (tB 26 p (tB 32 p (tB 35 p (tB 36 p (tL 36 p (.iconst 4) 0) (tL 35 p (.aload_n 0) 0)) (tL 32 p (.putfield 25) 5)) (tB 29 p (tB 30 p (tL 30 p (.bipush 32) 0) (tL 29 p (.aload_n 0) 0)) (tL 26 p (.putfield 22) 4))) (tB 21 p (tB 24 p (tB 25 p (tL 25 p (.iconst 4) 0) (tL 24 p (.aload_n 0) 0)) (tL 21 p (.putfield 19) 3)) (tB 20 p (tL 20 p (.iconst 3) 0) (tL 19 p (.aload_n 0) 0)))) (tB 9 p (tB 14 p (tB 15 p (tB 16 p (tL 16 p (.putfield 16) 2) (tL 15 p (.iconst 2) 0)) (tL 14 p (.aload_n 0) 0)) (tB 10 p (tB 11 p (tL 11 p (.putfield 13) 1) (tL 10 p (.iconst 1) 0)) (tL 9 p (.aload_n 0) 0))) (tB 4 p (tB 5 p (tB 6 p (tL 6 p (.putfield 7) 0) (tL 5 p (.iconst 0) 0)) (tL 4 p (.aload_n 0) 0)) (tB 1 p (tL 1 p (.invokespecial 1) 0) (tL 0 p (.aload_n 0) 0)))))))
set_option maxHeartbeats 4000000 in
def cd2 (p : Nat) : Option (Instr × Nat) := (tB 22 p (tB 31 p (tB 36 p (tB 38 p (tB 41 p (tL 41 p .return_ 0) (tL 38 p (.invokevirtual 104) 7)) (tB 37 p (tL 37 p (.iconst 1) 0) (tL 36 p (.iload_n 1) 0))) (tB 32 p (tB 35 p (tL 35 p (.aload_n 0) 0) (tL 32 p (.invokevirtual 101) 6)) (tL 31 p (.iconst 1) 0))) (tB 25 p (tB 29 p (tB 30 p (tL 30 p (.iload_n 1) 0) (tL 29 p (.aload_n 0) 0)) (tB 26 p (tL 26 p (.invokevirtual 98) 3) (tL 25 p (.iconst 1) 0))) (tB 23 p (tB 24 p (tL 24 p (.aload_n 0) 0) (tL 23 p .iastore 0)) (tL 22 p (.iconst 0) 0)))) (tB 11 p (tB 16 p (tB 18 p (tB 21 p (tL 21 p (.iload_n 1) 0) (tL 18 p (.getfield 38) 9)) (tB 17 p (tL 17 p (.aload_n 0) 0) (tL 16 p .iastore 0))) (tB 14 p (tB 15 p (tL 15 p (.iconst 0) 0) (tL 14 p (.iload_n 1) 0)) (tL 11 p (.getfield 35) 8))) (tB 5 p (tB 9 p (tB 10 p (tL 10 p (.aload_n 0) 0) (tL 9 p .return_ 0)) (tB 6 p (tL 6 p (.if_icmp .lt 4) 10) (tL 5 p (.iconst 4) 0))) (tB 1 p (tB 4 p (tL 4 p (.iload_n 1) 0) (tL 1 p (.ifCond .lt 8) 9)) (tL 0 p (.iload_n 1) 0)))))
set_option maxHeartbeats 4000000 in
def cd3 (p : Nat) : Option (Instr × Nat) := (tB 4 p (tB 6 p (tB 9 p (tL 9 p .return_ 0) (tL 6 p (.invokevirtual 69) 4)) (tB 5 p (tL 5 p (.iconst 1) 0) (tL 4 p (.iconst 0) 0))) (tB 2 p (tB 3 p (tL 3 p (.iconst 0) 0) (tL 2 p (.iconst 1) 0)) (tB 1 p (tL 1 p (.iload_n 1) 0) (tL 0 p (.aload_n 0) 0))))
set_option maxHeartbeats 4000000 in
def cd4 (p : Nat) : Option (Instr × Nat) := (tB 29 p (tB 42 p (tB 49 p (tB 51 p (tB 53 p (tB 54 p (tL 54 p .return_ 0) (tL 53 p .iastore 0)) (tL 51 p (.iload 5) 0)) (tB 50 p (tL 50 p .iadd 0) (tL 49 p (.iconst 3) 0))) (tB 44 p (tB 47 p (tL 47 p (.iload 6) 0) (tL 44 p (.getfield 53) 14)) (tB 43 p (tL 43 p (.aload_n 0) 0) (tL 42 p .iastore 0)))) (tB 33 p (tB 38 p (tB 39 p (tB 40 p (tL 40 p (.iload 4) 0) (tL 39 p .iadd 0)) (tL 38 p (.iconst 2) 0)) (tB 36 p (tL 36 p (.iload 6) 0) (tL 33 p (.getfield 53) 14))) (tB 31 p (tB 32 p (tL 32 p (.aload_n 0) 0) (tL 31 p .iastore 0)) (tB 30 p (tL 30 p (.iload_n 3) 0) (tL 29 p .iadd 0))))) (tB 14 p (tB 21 p (tB 23 p (tB 26 p (tB 28 p (tL 28 p (.iconst 1) 0) (tL 26 p (.iload 6) 0)) (tL 23 p (.getfield 53) 14)) (tB 22 p (tL 22 p (.aload_n 0) 0) (tL 21 p .iastore 0))) (tB 18 p (tB 20 p (tL 20 p (.iload_n 2) 0) (tL 18 p (.iload 6) 0)) (tB 15 p (tL 15 p (.getfield 53) 14) (tL 14 p (.aload_n 0) 0)))) (tB 8 p (tB 10 p (tB 11 p (tB 12 p (tL 12 p (.istore 6) 0) (tL 11 p .imul 0)) (tL 10 p (.iconst 4) 0)) (tB 9 p (tL 9 p (.iload_n 1) 0) (tL 8 p .return_ 0))) (tB 2 p (tB 5 p (tL 5 p (.ifCond .ne 4) 9) (tL 2 p (.invokevirtual 136) 5)) (tB 1 p (tL 1 p (.iload_n 1) 0) (tL 0 p (.aload_n 0) 0))))))
set_option maxHeartbeats 4000000 in
def cd5 (p : Nat) : Option (Instr × Nat) := (tB 6 p (tB 10 p (tB 13 p (tB 14 p (tL 14 p .ireturn 0) (tL 13 p (.iconst 0) 0)) (tL 10 p (.goto 4) 14)) (tB 9 p (tL 9 p (.iconst 1) 0) (tL 6 p (.if_icmp .ge 7) 13))) (tB 4 p (tB 5 p (tL 5 p (.iconst 4) 0) (tL 4 p (.iload_n 1) 0)) (tB 1 p (tL 1 p (.ifCond .lt 12) 13) (tL 0 p (.iload_n 1) 0))))
set_option maxHeartbeats 4000000 in
def cd6 (p : Nat) : Option (Instr × Nat) := (tB 28 p (tB 42 p (tB 49 p (tB 51 p (tB 54 p (tB 57 p (tL 57 p .return_ 0) (tL 54 p (.goto (-29)) 25)) (tL 51 p (.iinc 4 1) 0)) (tB 50 p (tL 50 p .iastore 0) (tL 49 p .iaload 0))) (tB 46 p (tB 48 p (tL 48 p .iadd 0) (tL 46 p (.iload 4) 0)) (tB 45 p (tL 45 p (.iload_n 3) 0) (tL 42 p (.getfield 53) 14)))) (tB 36 p (tB 38 p (tB 40 p (tB 41 p (tL 41 p (.aload_n 0) 0) (tL 40 p .iadd 0)) (tL 38 p (.iload 4) 0)) (tB 37 p (tL 37 p .imul 0) (tL 36 p (.iconst 4) 0))) (tB 32 p (tB 35 p (tL 35 p (.iload_n 1) 0) (tL 32 p (.getfield 47) 12)) (tB 31 p (tL 31 p (.aload_n 0) 0) (tL 28 p (.if_icmp .ge 29) 57))))) (tB 17 p (tB 21 p (tB 23 p (tB 25 p (tB 27 p (tL 27 p (.iconst 4) 0) (tL 25 p (.iload 4) 0)) (tL 23 p (.istore 4) 0)) (tB 22 p (tL 22 p (.iconst 0) 0) (tL 21 p (.istore_n 3) 0))) (tB 19 p (tB 20 p (tL 20 p .imul 0) (tL 19 p (.iconst 4) 0)) (tB 18 p (tL 18 p (.iload_n 2) 0) (tL 17 p .return_ 0)))) (tB 8 p (tB 12 p (tB 13 p (tB 14 p (tL 14 p (.if_icmp .lt 4) 18) (tL 13 p (.iconst 4) 0)) (tL 12 p (.iload_n 1) 0)) (tB 9 p (tL 9 p (.ifCond .lt 8) 17) (tL 8 p (.iload_n 1) 0))) (tB 2 p (tB 5 p (tL 5 p (.ifCond .eq 12) 17) (tL 2 p (.invokevirtual 136) 5)) (tB 1 p (tL 1 p (.iload_n 2) 0) (tL 0 p (.aload_n 0) 0))))))
set_option maxHeartbeats 4000000 in
def cd7 (p : Nat) : Option (Instr × Nat) := (tB 28 p (tB 42 p (tB 49 p (tB 51 p (tB 54 p (tB 57 p (tL 57 p .return_ 0) (tL 54 p (.goto (-29)) 25)) (tL 51 p (.iinc 4 1) 0)) (tB 50 p (tL 50 p .iastore 0) (tL 49 p .iaload 0))) (tB 46 p (tB 48 p (tL 48 p .iadd 0) (tL 46 p (.iload 4) 0)) (tB 45 p (tL 45 p (.iload_n 3) 0) (tL 42 p (.getfield 53) 14)))) (tB 36 p (tB 38 p (tB 40 p (tB 41 p (tL 41 p (.aload_n 0) 0) (tL 40 p .iadd 0)) (tL 38 p (.iload 4) 0)) (tB 37 p (tL 37 p .imul 0) (tL 36 p (.iconst 4) 0))) (tB 32 p (tB 35 p (tL 35 p (.iload_n 1) 0) (tL 32 p (.getfield 50) 13)) (tB 31 p (tL 31 p (.aload_n 0) 0) (tL 28 p (.if_icmp .ge 29) 57))))) (tB 17 p (tB 21 p (tB 23 p (tB 25 p (tB 27 p (tL 27 p (.iconst 4) 0) (tL 25 p (.iload 4) 0)) (tL 23 p (.istore 4) 0)) (tB 22 p (tL 22 p (.iconst 0) 0) (tL 21 p (.istore_n 3) 0))) (tB 19 p (tB 20 p (tL 20 p .imul 0) (tL 19 p (.iconst 4) 0)) (tB 18 p (tL 18 p (.iload_n 2) 0) (tL 17 p .return_ 0)))) (tB 8 p (tB 12 p (tB 13 p (tB 14 p (tL 14 p (.if_icmp .lt 4) 18) (tL 13 p (.iconst 4) 0)) (tL 12 p (.iload_n 1) 0)) (tB 9 p (tL 9 p (.ifCond .lt 8) 17) (tL 8 p (.iload_n 1) 0))) (tB 2 p (tB 5 p (tL 5 p (.ifCond .eq 12) 17) (tL 2 p (.invokevirtual 136) 5)) (tB 1 p (tL 1 p (.iload_n 2) 0) (tL 0 p (.aload_n 0) 0))))))
set_option maxHeartbeats 4000000 in
def cd8 (p : Nat) : Option (Instr × Nat) := (tB 16 p (tB 23 p (tB 27 p (tB 29 p (tB 32 p (tL 32 p .ireturn 0) (tL 29 p (.invokevirtual 45) 11)) (tL 27 p (.iload 5) 0)) (tB 24 p (tB 25 p (tL 25 p (.iload 4) 0) (tL 24 p (.iload_n 3) 0)) (tL 23 p (.iload_n 2) 0))) (tB 20 p (tB 21 p (tB 22 p (tL 22 p (.aload_n 0) 0) (tL 21 p .ireturn 0)) (tL 20 p (.iconst 0) 0)) (tB 17 p (tL 17 p (.invokevirtual 42) 9) (tL 16 p (.aload_n 0) 0)))) (tB 7 p (tB 11 p (tB 12 p (tB 13 p (tL 13 p (.if_icmp .ne 9) 22) (tL 12 p (.iconst 3) 0)) (tL 11 p (.iload_n 1) 0)) (tB 10 p (tL 10 p .ireturn 0) (tL 7 p (.invokevirtual 39) 10))) (tB 4 p (tB 5 p (tB 6 p (tL 6 p (.iload_n 3) 0) (tL 5 p (.iload_n 2) 0)) (tL 4 p (.aload_n 0) 0)) (tB 1 p (tL 1 p (.ifCond .ne 10) 11) (tL 0 p (.iload_n 1) 0)))))
set_option maxHeartbeats 4000000 in
def cd9 (p : Nat) : Option (Instr × Nat) := (tB 9 p (tB 14 p (tB 20 p (tB 23 p (tL 23 p .return_ 0) (tL 20 p (.goto (-13)) 7)) (tB 17 p (tL 17 p (.iinc 1 1) 0) (tL 14 p (.invokevirtual 65) 2))) (tB 12 p (tB 13 p (tL 13 p (.iload_n 1) 0) (tL 12 p (.aload_n 0) 0)) (tL 9 p (.if_icmp .ge 14) 23))) (tB 5 p (tB 7 p (tB 8 p (tL 8 p (.iconst 4) 0) (tL 7 p (.iload_n 1) 0)) (tB 6 p (tL 6 p (.istore_n 1) 0) (tL 5 p (.iconst 0) 0))) (tB 1 p (tB 2 p (tL 2 p (.putfield 62) 17) (tL 1 p (.iconst 0) 0)) (tL 0 p (.aload_n 0) 0))))
set_option maxHeartbeats 4000000 in
def cd10 (p : Nat) : Option (Instr × Nat) := (tB 46 p (tB 65 p (tB 73 p (tB 78 p (tB 82 p (tB 83 p (tL 83 p .ireturn 0) (tL 82 p (.iload_n 3) 0)) (tB 79 p (tL 79 p (.putfield 59) 16) (tL 78 p .iadd 0))) (tB 74 p (tB 77 p (tL 77 p (.iconst 1) 0) (tL 74 p (.getfield 59) 16)) (tL 73 p (.aload_n 0) 0))) (tB 68 p (tB 69 p (tB 72 p (tL 72 p (.aload_n 0) 0) (tL 69 p (.invokevirtual 65) 2)) (tL 68 p (.iload_n 3) 0)) (tB 66 p (tB 67 p (tL 67 p (.aload_n 0) 0) (tL 66 p .iastore 0)) (tL 65 p (.iload_n 2) 0)))) (tB 54 p (tB 59 p (tB 61 p (tB 64 p (tL 64 p (.iload_n 3) 0) (tL 61 p (.getfield 32) 7)) (tB 60 p (tL 60 p (.aload_n 0) 0) (tL 59 p .iastore 0))) (tB 57 p (tB 58 p (tL 58 p (.iload_n 1) 0) (tL 57 p (.iload_n 3) 0)) (tL 54 p (.getfield 28) 6))) (tB 49 p (tB 52 p (tB 53 p (tL 53 p (.aload_n 0) 0) (tL 52 p (.istore_n 3) 0)) (tL 49 p (.getfield 59) 16)) (tB 47 p (tB 48 p (tL 48 p (.aload_n 0) 0) (tL 47 p .ireturn 0)) (tL 46 p (.iconst (-1)) 0))))) (tB 23 p (tB 34 p (tB 37 p (tB 41 p (tB 43 p (tL 43 p (.if_icmp .le 5) 48) (tL 41 p (.bipush 32) 0)) (tB 40 p (tL 40 p (.iload_n 2) 0) (tL 37 p (.if_icmp .lt 9) 46))) (tB 35 p (tB 36 p (tL 36 p (.iconst 1) 0) (tL 35 p (.iload_n 2) 0)) (tL 34 p .ireturn 0))) (tB 28 p (tB 30 p (tB 33 p (tL 33 p (.iconst (-1)) 0) (tL 30 p (.if_icmp .le 5) 35)) (tL 28 p (.bipush 32) 0)) (tB 24 p (tB 27 p (tL 27 p (.iload_n 1) 0) (tL 24 p (.if_icmp .lt 9) 33)) (tL 23 p (.iconst 1) 0)))) (tB 10 p (tB 17 p (tB 21 p (tB 22 p (tL 22 p (.iload_n 1) 0) (tL 21 p .ireturn 0)) (tB 20 p (tL 20 p (.iconst (-1)) 0) (tL 17 p (.if_icmp .lt 5) 22))) (tB 13 p (tB 14 p (tL 14 p (.getfield 56) 15) (tL 13 p (.aload_n 0) 0)) (tL 10 p (.getfield 59) 16))) (tB 7 p (tB 8 p (tB 9 p (tL 9 p (.aload_n 0) 0) (tL 8 p .ireturn 0)) (tL 7 p (.iconst (-1)) 0)) (tB 1 p (tB 4 p (tL 4 p (.ifCond .eq 5) 9) (tL 1 p (.getfield 62) 17)) (tL 0 p (.aload_n 0) 0))))))
set_option maxHeartbeats 4000000 in
def cd11 (p : Nat) : Option (Instr × Nat) := (tB 36 p (tB 57 p (tB 69 p (tB 78 p (tB 81 p (tB 83 p (tL 83 p .ireturn 0) (tL 81 p (.iload 5) 0)) (tL 78 p (.goto (-52)) 26)) (tB 72 p (tB 75 p (tL 75 p (.iinc 6 1) 0) (tL 72 p (.iinc 5 1) 0)) (tL 69 p (.invokevirtual 76) 22))) (tB 63 p (tB 66 p (tB 67 p (tL 67 p (.iload 6) 0) (tL 66 p (.aload_n 0) 0)) (tL 63 p (.ifCond .ne 12) 75)) (tB 60 p (tB 62 p (tL 62 p .irem 0) (tL 60 p (.iload 7) 0)) (tL 57 p (.getfield 62) 17)))) (tB 47 p (tB 52 p (tB 53 p (tB 56 p (tL 56 p (.aload_n 0) 0) (tL 53 p (.if_icmp .lt 22) 75)) (tL 52 p (.iconst 1) 0)) (tB 48 p (tB 50 p (tL 50 p (.iload 7) 0) (tL 48 p (.istore 7) 0)) (tL 47 p .iaload 0))) (tB 41 p (tB 42 p (tB 45 p (tL 45 p (.iload 6) 0) (tL 42 p (.getfield 32) 7)) (tL 41 p (.aload_n 0) 0)) (tB 38 p (tL 38 p (.invokevirtual 73) 12) (tL 36 p (.iload 6) 0))))) (tB 15 p (tB 24 p (tB 29 p (tB 32 p (tB 35 p (tL 35 p (.aload_n 0) 0) (tL 32 p (.if_icmp .ge 49) 81)) (tL 29 p (.getfield 59) 16)) (tB 26 p (tB 28 p (tL 28 p (.aload_n 0) 0) (tL 26 p (.iload 6) 0)) (tL 24 p (.istore 6) 0))) (tB 20 p (tB 21 p (tB 23 p (tL 23 p (.iconst 0) 0) (tL 21 p (.istore 5) 0)) (tL 20 p (.iconst 0) 0)) (tB 17 p (tL 17 p (.invokevirtual 69) 4) (tL 15 p (.iload 4) 0)))) (tB 7 p (tB 12 p (tB 13 p (tB 14 p (tL 14 p (.iload_n 3) 0) (tL 13 p (.iload_n 2) 0)) (tL 12 p (.iload_n 1) 0)) (tB 10 p (tB 11 p (tL 11 p (.iconst 0) 0) (tL 10 p (.aload_n 0) 0)) (tL 7 p (.putfield 62) 17))) (tB 2 p (tB 5 p (tB 6 p (tL 6 p .iadd 0) (tL 5 p (.iconst 1) 0)) (tL 2 p (.getfield 62) 17)) (tB 1 p (tL 1 p (.aload_n 0) 0) (tL 0 p (.aload_n 0) 0))))))
set_option maxHeartbeats 4000000 in
def cd12 (p : Nat) : Option (Instr × Nat) := (tB 47 p (tB 70 p (tB 82 p (tB 88 p (tB 90 p (tB 91 p (tL 91 p .return_ 0) (tL 90 p .iastore 0)) (tB 89 p (tL 89 p .iadd 0) (tL 88 p (.iconst 1) 0))) (tB 86 p (tB 87 p (tL 87 p (.iload_n 3) 0) (tL 86 p (.iload_n 1) 0)) (tB 83 p (tL 83 p (.getfield 38) 9) (tL 82 p (.aload_n 0) 0)))) (tB 76 p (tB 78 p (tB 79 p (tL 79 p (.invokevirtual 101) 6) (tL 78 p (.iconst 1) 0)) (tB 77 p (tL 77 p (.iload_n 1) 0) (tL 76 p (.aload_n 0) 0))) (tB 72 p (tB 73 p (tL 73 p (.invokevirtual 121) 17) (tL 72 p (.iconst 0) 0)) (tB 71 p (tL 71 p (.iconst 1) 0) (tL 70 p (.iconst 1) 0))))) (tB 58 p (tB 64 p (tB 66 p (tB 69 p (tL 69 p (.aload_n 0) 0) (tL 66 p (.invokevirtual 118) 16)) (tB 65 p (tL 65 p (.iload_n 1) 0) (tL 64 p (.iconst 1) 0))) (tB 60 p (tB 63 p (tL 63 p (.aload_n 0) 0) (tL 60 p (.invokevirtual 114) 14)) (tB 59 p (tL 59 p (.iconst 0) 0) (tL 58 p (.iload_n 3) 0)))) (tB 52 p (tB 56 p (tB 57 p (tL 57 p (.iload_n 1) 0) (tL 56 p (.aload_n 0) 0)) (tB 55 p (tL 55 p .return_ 0) (tL 52 p (.ifCond .ne 4) 56))) (tB 48 p (tB 49 p (tL 49 p (.invokevirtual 110) 13) (tL 48 p (.iload_n 3) 0)) (tL 47 p (.iload_n 1) 0))))) (tB 23 p (tB 35 p (tB 43 p (tB 45 p (tB 46 p (tL 46 p (.aload_n 0) 0) (tL 45 p (.istore_n 3) 0)) (tB 44 p (tL 44 p .iaload 0) (tL 43 p (.iload_n 1) 0))) (tB 39 p (tB 40 p (tL 40 p (.getfield 38) 9) (tL 39 p (.aload_n 0) 0)) (tB 36 p (tL 36 p (.invokevirtual 107) 18) (tL 35 p (.iload_n 1) 0)))) (tB 29 p (tB 31 p (tB 34 p (tL 34 p (.aload_n 0) 0) (tL 31 p (.if_icmp .lt 8) 39)) (tB 30 p (tL 30 p .iaload 0) (tL 29 p (.iload_n 1) 0))) (tB 25 p (tB 26 p (tL 26 p (.getfield 28) 6) (tL 25 p (.aload_n 0) 0)) (tB 24 p (tL 24 p (.iload_n 2) 0) (tL 23 p (.istore_n 2) 0))))) (tB 11 p (tB 17 p (tB 21 p (tB 22 p (tL 22 p .iadd 0) (tL 21 p .iaload 0)) (tB 20 p (tL 20 p (.iload_n 1) 0) (tL 17 p (.getfield 38) 9))) (tB 15 p (tB 16 p (tL 16 p (.aload_n 0) 0) (tL 15 p .iaload 0)) (tB 14 p (tL 14 p (.iload_n 1) 0) (tL 11 p (.getfield 35) 8)))) (tB 5 p (tB 9 p (tB 10 p (tL 10 p (.aload_n 0) 0) (tL 9 p .return_ 0)) (tB 6 p (tL 6 p (.if_icmp .lt 4) 10) (tL 5 p (.iconst 4) 0))) (tB 1 p (tB 4 p (tL 4 p (.iload_n 1) 0) (tL 1 p (.ifCond .lt 8) 9)) (tL 0 p (.iload_n 1) 0))))))
set_option maxHeartbeats 4000000 in
def cd13 (p : Nat) : Option (Instr × Nat) := (tB 13 p (tB 19 p (tB 23 p (tB 24 p (tL 24 p .ireturn 0) (tL 23 p (.iconst 0) 0)) (tB 20 p (tL 20 p (.goto 4) 24) (tL 19 p (.iconst 1) 0))) (tB 14 p (tB 16 p (tL 16 p (.if_icmp .ge 7) 23) (tL 14 p (.bipush 32) 0)) (tL 13 p (.iload_n 2) 0))) (tB 5 p (tB 9 p (tB 10 p (tL 10 p (.ifCond .lt 13) 23) (tL 9 p (.iload_n 2) 0)) (tB 6 p (tL 6 p (.if_icmp .ge 17) 23) (tL 5 p (.iconst 4) 0))) (tB 1 p (tB 4 p (tL 4 p (.iload_n 1) 0) (tL 1 p (.ifCond .lt 22) 23)) (tL 0 p (.iload_n 1) 0))))
set_option maxHeartbeats 4000000 in
def cd14 (p : Nat) : Option (Instr × Nat) := (tB 31 p (tB 49 p (tB 58 p (tB 60 p (tB 63 p (tB 66 p (tL 66 p .return_ 0) (tL 63 p (.goto (-29)) 34)) (tL 60 p (.iinc 6 1) 0)) (tB 59 p (tL 59 p .iastore 0) (tL 58 p .iaload 0))) (tB 53 p (tB 55 p (tB 57 p (tL 57 p .iadd 0) (tL 55 p (.iload 6) 0)) (tL 53 p (.iload 5) 0)) (tB 50 p (tL 50 p (.getfield 53) 14) (tL 49 p (.aload_n 0) 0)))) (tB 40 p (tB 44 p (tB 46 p (tB 48 p (tL 48 p .iadd 0) (tL 46 p (.iload 6) 0)) (tL 44 p (.iload 4) 0)) (tB 41 p (tL 41 p (.getfield 41) 10) (tL 40 p (.aload_n 0) 0))) (tB 34 p (tB 36 p (tB 37 p (tL 37 p (.if_icmp .ge 29) 66) (tL 36 p (.iconst 4) 0)) (tL 34 p (.iload 6) 0)) (tB 32 p (tL 32 p (.istore 6) 0) (tL 31 p (.iconst 0) 0))))) (tB 17 p (tB 24 p (tB 27 p (tB 28 p (tB 29 p (tL 29 p (.istore 5) 0) (tL 28 p .imul 0)) (tL 27 p (.iconst 4) 0)) (tB 26 p (tL 26 p (.iload_n 3) 0) (tL 24 p (.istore 4) 0))) (tB 19 p (tB 20 p (tB 21 p (tL 21 p (.invokevirtual 139) 15) (tL 20 p (.iload_n 2) 0)) (tL 19 p (.iload_n 1) 0)) (tB 18 p (tL 18 p (.aload_n 0) 0) (tL 17 p .return_ 0)))) (tB 8 p (tB 10 p (tB 11 p (tB 14 p (tL 14 p (.ifCond .ne 4) 18) (tL 11 p (.invokevirtual 110) 13)) (tL 10 p (.iload_n 2) 0)) (tB 9 p (tL 9 p (.iload_n 1) 0) (tL 8 p (.aload_n 0) 0))) (tB 2 p (tB 5 p (tL 5 p (.ifCond .eq 12) 17) (tL 2 p (.invokevirtual 136) 5)) (tB 1 p (tL 1 p (.iload_n 3) 0) (tL 0 p (.aload_n 0) 0))))))
set_option maxHeartbeats 4000000 in
def cd15 (p : Nat) : Option (Instr × Nat) := (tB 5 p (tB 7 p (tB 8 p (tL 8 p .ireturn 0) (tL 7 p .imul 0)) (tB 6 p (tL 6 p (.iconst 4) 0) (tL 5 p .iadd 0))) (tB 3 p (tB 4 p (tL 4 p (.iload_n 2) 0) (tL 3 p .imul 0)) (tB 1 p (tL 1 p (.bipush 32) 0) (tL 0 p (.iload_n 1) 0))))
set_option maxHeartbeats 4000000 in
def cd16 (p : Nat) : Option (Instr × Nat) := (tB 28 p (tB 44 p (tB 49 p (tB 51 p (tB 54 p (tB 57 p (tL 57 p .return_ 0) (tL 54 p (.goto (-29)) 25)) (tL 51 p (.iinc 4 1) 0)) (tB 50 p (tL 50 p .iastore 0) (tL 49 p .iaload 0))) (tB 46 p (tB 48 p (tL 48 p .iadd 0) (tL 46 p (.iload 4) 0)) (tB 45 p (tL 45 p .imul 0) (tL 44 p (.iconst 4) 0)))) (tB 36 p (tB 39 p (tB 40 p (tB 43 p (tL 43 p (.iload_n 2) 0) (tL 40 p (.getfield 47) 12)) (tL 39 p (.aload_n 0) 0)) (tB 38 p (tL 38 p .iadd 0) (tL 36 p (.iload 4) 0))) (tB 32 p (tB 35 p (tL 35 p (.iload_n 3) 0) (tL 32 p (.getfield 53) 14)) (tB 31 p (tL 31 p (.aload_n 0) 0) (tL 28 p (.if_icmp .ge 29) 57))))) (tB 17 p (tB 21 p (tB 23 p (tB 25 p (tB 27 p (tL 27 p (.iconst 4) 0) (tL 25 p (.iload 4) 0)) (tL 23 p (.istore 4) 0)) (tB 22 p (tL 22 p (.iconst 0) 0) (tL 21 p (.istore_n 3) 0))) (tB 19 p (tB 20 p (tL 20 p .imul 0) (tL 19 p (.iconst 4) 0)) (tB 18 p (tL 18 p (.iload_n 1) 0) (tL 17 p .return_ 0)))) (tB 8 p (tB 12 p (tB 13 p (tB 14 p (tL 14 p (.if_icmp .lt 4) 18) (tL 13 p (.iconst 4) 0)) (tL 12 p (.iload_n 2) 0)) (tB 9 p (tL 9 p (.ifCond .lt 8) 17) (tL 8 p (.iload_n 2) 0))) (tB 2 p (tB 5 p (tL 5 p (.ifCond .eq 12) 17) (tL 2 p (.invokevirtual 136) 5)) (tB 1 p (tL 1 p (.iload_n 1) 0) (tL 0 p (.aload_n 0) 0))))))
set_option maxHeartbeats 4000000 in
def cd17 (p : Nat) : Option (Instr × Nat) := (tB 105 p (tB 155 p (tB 180 p (tB 192 p (tB 199 p (tB 201 p (tB 202 p (tL 202 p .return_ 0) (tL 201 p .iastore 0)) (tB 200 p (tL 200 p .iadd 0) (tL 199 p .imul 0))) (tB 195 p (tB 197 p (tL 197 p (.iload 13) 0) (tL 195 p (.iload 9) 0)) (tB 194 p (tL 194 p .imul 0) (tL 192 p (.iload 11) 0)))) (tB 186 p (tB 189 p (tB 190 p (tL 190 p (.iload 8) 0) (tL 189 p .iadd 0)) (tB 188 p (tL 188 p (.iconst 3) 0) (tL 186 p (.iload 14) 0))) (tB 182 p (tB 183 p (tL 183 p (.getfield 53) 14) (tL 182 p (.aload_n 0) 0)) (tB 181 p (tL 181 p .iastore 0) (tL 180 p .iadd 0))))) (tB 168 p (tB 174 p (tB 177 p (tB 179 p (tL 179 p .imul 0) (tL 177 p (.iload 12) 0)) (tB 175 p (tL 175 p (.iload 9) 0) (tL 174 p .imul 0))) (tB 170 p (tB 172 p (tL 172 p (.iload 10) 0) (tL 170 p (.iload 8) 0)) (tB 169 p (tL 169 p .iadd 0) (tL 168 p (.iconst 2) 0)))) (tB 161 p (tB 163 p (tB 166 p (tL 166 p (.iload 14) 0) (tL 163 p (.getfield 53) 14)) (tB 162 p (tL 162 p (.aload_n 0) 0) (tL 161 p .iastore 0))) (tB 159 p (tB 160 p (tL 160 p .iadd 0) (tL 159 p .imul 0)) (tB 157 p (tL 157 p (.iload 13) 0) (tL 155 p (.iload 7) 0)))))) (tB 130 p (tB 142 p (tB 149 p (tB 152 p (tB 154 p (tL 154 p .imul 0) (tL 152 p (.iload 11) 0)) (tB 150 p (tL 150 p (.iload 6) 0) (tL 149 p .iadd 0))) (tB 146 p (tB 148 p (tL 148 p (.iconst 1) 0) (tL 146 p (.iload 14) 0)) (tB 143 p (tL 143 p (.getfield 53) 14) (tL 142 p (.aload_n 0) 0)))) (tB 137 p (tB 140 p (tB 141 p (tL 141 p .iastore 0) (tL 140 p .iadd 0)) (tB 139 p (tL 139 p .imul 0) (tL 137 p (.iload 12) 0))) (tB 134 p (tB 135 p (tL 135 p (.iload 7) 0) (tL 134 p .imul 0)) (tB 132 p (tL 132 p (.iload 10) 0) (tL 130 p (.iload 6) 0))))) (tB 117 p (tB 122 p (tB 125 p (tB 128 p (tL 128 p (.iload 14) 0) (tL 125 p (.getfield 53) 14)) (tB 124 p (tL 124 p (.aload_n 0) 0) (tL 122 p (.istore 14) 0))) (tB 120 p (tB 121 p (tL 121 p .imul 0) (tL 120 p (.iconst 4) 0)) (tB 119 p (tL 119 p (.iload_n 1) 0) (tL 117 p (.istore 13) 0)))) (tB 112 p (tB 115 p (tB 116 p (tL 116 p .iaload 0) (tL 115 p .iadd 0)) (tB 114 p (tL 114 p (.iconst 3) 0) (tL 112 p (.iload 5) 0))) (tB 108 p (tB 109 p (tL 109 p (.getfield 53) 14) (tL 108 p (.aload_n 0) 0)) (tB 106 p (tL 106 p (.istore 12) 0) (tL 105 p .iaload 0))))))) (tB 53 p (tB 78 p (tB 93 p (tB 98 p (tB 103 p (tB 104 p (tL 104 p .iadd 0) (tL 103 p (.iconst 2) 0)) (tB 101 p (tL 101 p (.iload 5) 0) (tL 98 p (.getfield 53) 14))) (tB 95 p (tB 97 p (tL 97 p (.aload_n 0) 0) (tL 95 p (.istore 11) 0)) (tB 94 p (tL 94 p .iaload 0) (tL 93 p .iadd 0)))) (tB 86 p (tB 90 p (tB 92 p (tL 92 p (.iconst 1) 0) (tL 90 p (.iload 5) 0)) (tB 87 p (tL 87 p (.getfield 53) 14) (tL 86 p (.aload_n 0) 0))) (tB 83 p (tB 84 p (tL 84 p (.istore 10) 0) (tL 83 p .iaload 0)) (tB 81 p (tL 81 p (.iload 5) 0) (tL 78 p (.getfield 53) 14))))) (tB 66 p (tB 73 p (tB 75 p (tB 77 p (tL 77 p (.aload_n 0) 0) (tL 75 p (.istore 9) 0)) (tB 74 p (tL 74 p .iaload 0) (tL 73 p .iadd 0))) (tB 70 p (tB 72 p (tL 72 p (.iconst 3) 0) (tL 70 p (.iload 4) 0)) (tB 67 p (tL 67 p (.getfield 53) 14) (tL 66 p (.aload_n 0) 0)))) (tB 61 p (tB 63 p (tB 64 p (tL 64 p (.istore 8) 0) (tL 63 p .iaload 0)) (tB 62 p (tL 62 p .iadd 0) (tL 61 p (.iconst 2) 0))) (tB 56 p (tB 59 p (tL 59 p (.iload 4) 0) (tL 56 p (.getfield 53) 14)) (tB 55 p (tL 55 p (.aload_n 0) 0) (tL 53 p (.istore 7) 0)))))) (tB 28 p (tB 41 p (tB 48 p (tB 51 p (tB 52 p (tL 52 p .iaload 0) (tL 51 p .iadd 0)) (tB 50 p (tL 50 p (.iconst 1) 0) (tL 48 p (.iload 4) 0))) (tB 44 p (tB 45 p (tL 45 p (.getfield 53) 14) (tL 44 p (.aload_n 0) 0)) (tB 42 p (tL 42 p (.istore 6) 0) (tL 41 p .iaload 0)))) (tB 33 p (tB 36 p (tB 39 p (tL 39 p (.iload 4) 0) (tL 36 p (.getfield 53) 14)) (tB 35 p (tL 35 p (.aload_n 0) 0) (tL 33 p (.istore 5) 0))) (tB 31 p (tB 32 p (tL 32 p .imul 0) (tL 31 p (.iconst 4) 0)) (tB 30 p (tL 30 p (.iload_n 3) 0) (tL 28 p (.istore 4) 0))))) (tB 16 p (tB 24 p (tB 26 p (tB 27 p (tL 27 p .imul 0) (tL 26 p (.iconst 4) 0)) (tB 25 p (tL 25 p (.iload_n 2) 0) (tL 24 p .return_ 0))) (tB 18 p (tB 21 p (tL 21 p (.ifCond .ne 4) 25) (tL 18 p (.invokevirtual 136) 5)) (tB 17 p (tL 17 p (.iload_n 3) 0) (tL 16 p (.aload_n 0) 0)))) (tB 8 p (tB 10 p (tB 13 p (tL 13 p (.ifCond .eq 11) 24) (tL 10 p (.invokevirtual 136) 5)) (tB 9 p (tL 9 p (.iload_n 2) 0) (tL 8 p (.aload_n 0) 0))) (tB 2 p (tB 5 p (tL 5 p (.ifCond .eq 19) 24) (tL 2 p (.invokevirtual 136) 5)) (tB 1 p (tL 1 p (.iload_n 1) 0) (tL 0 p (.aload_n 0) 0))))))))
set_option maxHeartbeats 4000000 in
def cd18 (p : Nat) : Option (Instr × Nat) := (tB 20 p (tB 32 p (tB 35 p (tB 36 p (tB 37 p (tL 37 p .return_ 0) (tL 36 p .iastore 0)) (tL 35 p .isub 0)) (tB 33 p (tB 34 p (tL 34 p (.iconst 1) 0) (tL 33 p .iaload 0)) (tL 32 p (.iload_n 1) 0))) (tB 27 p (tB 28 p (tB 29 p (tL 29 p (.getfield 35) 8) (tL 28 p (.aload_n 0) 0)) (tL 27 p (.iload_n 1) 0)) (tB 23 p (tB 24 p (tL 24 p (.getfield 35) 8) (tL 23 p (.aload_n 0) 0)) (tL 20 p (.ifCond .le 17) 37)))) (tB 10 p (tB 15 p (tB 18 p (tB 19 p (tL 19 p .iaload 0) (tL 18 p (.iload_n 1) 0)) (tL 15 p (.getfield 35) 8)) (tB 11 p (tB 14 p (tL 14 p (.aload_n 0) 0) (tL 11 p (.invokevirtual 124) 19)) (tL 10 p (.iload_n 1) 0))) (tB 5 p (tB 6 p (tB 9 p (tL 9 p (.aload_n 0) 0) (tL 6 p (.ifCond .ne 8) 14)) (tL 5 p .iaload 0)) (tB 1 p (tB 4 p (tL 4 p (.iload_n 1) 0) (tL 1 p (.getfield 35) 8)) (tL 0 p (.aload_n 0) 0)))))
set_option maxHeartbeats 4000000 in
def cd19 (p : Nat) : Option (Instr × Nat) := (tB 40 p (tB 64 p (tB 73 p (tB 79 p (tB 81 p (tB 84 p (tL 84 p .return_ 0) (tL 81 p (.invokevirtual 101) 6)) (tB 80 p (tL 80 p (.iconst 1) 0) (tL 79 p (.iload_n 1) 0))) (tB 75 p (tB 78 p (tL 78 p (.aload_n 0) 0) (tL 75 p (.invokevirtual 98) 3)) (tB 74 p (tL 74 p (.iconst 1) 0) (tL 73 p (.aload_n 0) 0)))) (tB 67 p (tB 71 p (tB 72 p (tL 72 p .iastore 0) (tL 71 p (.iconst 0) 0)) (tB 70 p (tL 70 p (.iload_n 1) 0) (tL 67 p (.getfield 38) 9))) (tB 65 p (tB 66 p (tL 66 p (.aload_n 0) 0) (tL 65 p .iastore 0)) (tL 64 p (.iload_n 2) 0)))) (tB 49 p (tB 56 p (tB 60 p (tB 63 p (tL 63 p (.iload_n 1) 0) (tL 60 p (.getfield 35) 8)) (tB 59 p (tL 59 p (.aload_n 0) 0) (tL 56 p (.goto (-33)) 23))) (tB 50 p (tB 53 p (tL 53 p (.iinc 3 1) 0) (tL 50 p (.invokevirtual 130) 21)) (tL 49 p (.iconst 1) 0))) (tB 43 p (tB 47 p (tB 48 p (tL 48 p (.iload_n 3) 0) (tL 47 p (.iload_n 1) 0)) (tB 46 p (tL 46 p (.aload_n 0) 0) (tL 43 p (.invokevirtual 121) 17))) (tB 41 p (tB 42 p (tL 42 p (.iconst 1) 0) (tL 41 p (.iconst 2) 0)) (tL 40 p (.iconst 1) 0))))) (tB 22 p (tB 31 p (tB 34 p (tB 36 p (tB 39 p (tL 39 p (.aload_n 0) 0) (tL 36 p (.invokevirtual 127) 20)) (tB 35 p (tL 35 p .isub 0) (tL 34 p (.iload_n 3) 0))) (tB 32 p (tB 33 p (tL 33 p .isub 0) (tL 32 p (.iconst 1) 0)) (tL 31 p (.iload_n 2) 0))) (tB 25 p (tB 29 p (tB 30 p (tL 30 p (.iload_n 1) 0) (tL 29 p (.iconst 2) 0)) (tB 28 p (tL 28 p (.aload_n 0) 0) (tL 25 p (.if_icmp .ge 34) 59))) (tB 23 p (tB 24 p (tL 24 p (.iload_n 2) 0) (tL 23 p (.iload_n 3) 0)) (tL 22 p (.istore_n 3) 0)))) (tB 10 p (tB 16 p (tB 18 p (tB 21 p (tL 21 p (.iconst 0) 0) (tL 18 p (.invokevirtual 98) 3)) (tB 17 p (tL 17 p (.iconst 1) 0) (tL 16 p (.aload_n 0) 0))) (tB 13 p (tB 15 p (tL 15 p (.istore_n 2) 0) (tL 13 p (.bipush 32) 0)) (tL 10 p (.if_icmp .le 6) 16))) (tB 5 p (tB 7 p (tB 8 p (tL 8 p (.bipush 32) 0) (tL 7 p (.iload_n 2) 0)) (tB 6 p (tL 6 p (.istore_n 2) 0) (tL 5 p .iaload 0))) (tB 1 p (tB 4 p (tL 4 p (.iload_n 1) 0) (tL 1 p (.getfield 38) 9)) (tL 0 p (.aload_n 0) 0))))))
set_option maxHeartbeats 4000000 in
def cd20 (p : Nat) : Option (Instr × Nat) := (tB 31 p (tB 49 p (tB 58 p (tB 60 p (tB 63 p (tB 66 p (tL 66 p .return_ 0) (tL 63 p (.goto (-29)) 34)) (tL 60 p (.iinc 6 1) 0)) (tB 59 p (tL 59 p .iastore 0) (tL 58 p .iaload 0))) (tB 53 p (tB 55 p (tB 57 p (tL 57 p .iadd 0) (tL 55 p (.iload 6) 0)) (tL 53 p (.iload 4) 0)) (tB 50 p (tL 50 p (.getfield 41) 10) (tL 49 p (.aload_n 0) 0)))) (tB 40 p (tB 44 p (tB 46 p (tB 48 p (tL 48 p .iadd 0) (tL 46 p (.iload 6) 0)) (tL 44 p (.iload 5) 0)) (tB 41 p (tL 41 p (.getfield 53) 14) (tL 40 p (.aload_n 0) 0))) (tB 34 p (tB 36 p (tB 37 p (tL 37 p (.if_icmp .ge 29) 66) (tL 36 p (.iconst 4) 0)) (tL 34 p (.iload 6) 0)) (tB 32 p (tL 32 p (.istore 6) 0) (tL 31 p (.iconst 0) 0))))) (tB 17 p (tB 24 p (tB 27 p (tB 28 p (tB 29 p (tL 29 p (.istore 5) 0) (tL 28 p .imul 0)) (tL 27 p (.iconst 4) 0)) (tB 26 p (tL 26 p (.iload_n 1) 0) (tL 24 p (.istore 4) 0))) (tB 19 p (tB 20 p (tB 21 p (tL 21 p (.invokevirtual 139) 15) (tL 20 p (.iload_n 3) 0)) (tL 19 p (.iload_n 2) 0)) (tB 18 p (tL 18 p (.aload_n 0) 0) (tL 17 p .return_ 0)))) (tB 8 p (tB 10 p (tB 11 p (tB 14 p (tL 14 p (.ifCond .ne 4) 18) (tL 11 p (.invokevirtual 110) 13)) (tL 10 p (.iload_n 3) 0)) (tB 9 p (tL 9 p (.iload_n 2) 0) (tL 8 p (.aload_n 0) 0))) (tB 2 p (tB 5 p (tL 5 p (.ifCond .eq 12) 17) (tL 2 p (.invokevirtual 136) 5)) (tB 1 p (tL 1 p (.iload_n 1) 0) (tL 0 p (.aload_n 0) 0))))))
set_option maxHeartbeats 4000000 in
def cd21 (p : Nat) : Option (Instr × Nat) := (tB 31 p (tB 49 p (tB 58 p (tB 60 p (tB 63 p (tB 66 p (tL 66 p .return_ 0) (tL 63 p (.goto (-29)) 34)) (tL 60 p (.iinc 6 1) 0)) (tB 59 p (tL 59 p .iastore 0) (tL 58 p .iaload 0))) (tB 53 p (tB 55 p (tB 57 p (tL 57 p .iadd 0) (tL 55 p (.iload 6) 0)) (tL 53 p (.iload 5) 0)) (tB 50 p (tL 50 p (.getfield 53) 14) (tL 49 p (.aload_n 0) 0)))) (tB 40 p (tB 44 p (tB 46 p (tB 48 p (tL 48 p .iadd 0) (tL 46 p (.iload 6) 0)) (tL 44 p (.iload 4) 0)) (tB 41 p (tL 41 p (.getfield 44) 11) (tL 40 p (.aload_n 0) 0))) (tB 34 p (tB 36 p (tB 37 p (tL 37 p (.if_icmp .ge 29) 66) (tL 36 p (.iconst 4) 0)) (tL 34 p (.iload 6) 0)) (tB 32 p (tL 32 p (.istore 6) 0) (tL 31 p (.iconst 0) 0))))) (tB 17 p (tB 24 p (tB 27 p (tB 28 p (tB 29 p (tL 29 p (.istore 5) 0) (tL 28 p .imul 0)) (tL 27 p (.iconst 4) 0)) (tB 26 p (tL 26 p (.iload_n 3) 0) (tL 24 p (.istore 4) 0))) (tB 19 p (tB 20 p (tB 21 p (tL 21 p (.invokevirtual 139) 15) (tL 20 p (.iload_n 2) 0)) (tL 19 p (.iload_n 1) 0)) (tB 18 p (tL 18 p (.aload_n 0) 0) (tL 17 p .return_ 0)))) (tB 8 p (tB 10 p (tB 11 p (tB 14 p (tL 14 p (.ifCond .ne 4) 18) (tL 11 p (.invokevirtual 110) 13)) (tL 10 p (.iload_n 2) 0)) (tB 9 p (tL 9 p (.iload_n 1) 0) (tL 8 p (.aload_n 0) 0))) (tB 2 p (tB 5 p (tL 5 p (.ifCond .eq 12) 17) (tL 2 p (.invokevirtual 136) 5)) (tB 1 p (tL 1 p (.iload_n 3) 0) (tL 0 p (.aload_n 0) 0))))))
set_option maxHeartbeats 4000000 in
def cd22 (p : Nat) : Option (Instr × Nat) := (tB 6 p (tB 8 p (tB 9 p (tB 12 p (tL 12 p .return_ 0) (tL 9 p (.invokevirtual 104) 7)) (tL 8 p (.iconst 3) 0)) (tB 7 p (tL 7 p (.iload_n 1) 0) (tL 6 p (.aload_n 0) 0))) (tB 2 p (tB 3 p (tL 3 p (.invokevirtual 86) 23) (tL 2 p (.iconst 3) 0)) (tB 1 p (tL 1 p (.iload_n 1) 0) (tL 0 p (.aload_n 0) 0))))
set_option maxHeartbeats 4000000 in
def cd23 (p : Nat) : Option (Instr × Nat) := (tB 20 p (tB 31 p (tB 36 p (tB 38 p (tB 41 p (tL 41 p .return_ 0) (tL 38 p (.invokevirtual 121) 17)) (tB 37 p (tL 37 p (.iconst 2) 0) (tL 36 p (.iconst 1) 0))) (tB 34 p (tB 35 p (tL 35 p (.iload_n 2) 0) (tL 34 p (.aload_n 0) 0)) (tL 31 p (.invokevirtual 118) 16))) (tB 25 p (tB 29 p (tB 30 p (tL 30 p (.iload_n 1) 0) (tL 29 p (.iconst 2) 0)) (tB 28 p (tL 28 p (.aload_n 0) 0) (tL 25 p (.invokevirtual 98) 3))) (tB 23 p (tB 24 p (tL 24 p (.iconst 1) 0) (tL 23 p (.aload_n 0) 0)) (tL 20 p (.goto 8) 28)))) (tB 11 p (tB 14 p (tB 16 p (tB 17 p (tL 17 p (.invokevirtual 133) 24) (tL 16 p .isub 0)) (tB 15 p (tL 15 p (.iconst 1) 0) (tL 14 p (.iload_n 3) 0))) (tB 12 p (tB 13 p (tL 13 p (.iload_n 1) 0) (tL 12 p (.iconst 1) 0)) (tL 11 p (.aload_n 0) 0))) (tB 5 p (tB 7 p (tB 8 p (tL 8 p (.ifCond .le 15) 23) (tL 7 p (.iload_n 3) 0)) (tB 6 p (tL 6 p (.istore_n 3) 0) (tL 5 p .iaload 0))) (tB 1 p (tB 4 p (tL 4 p (.iload_n 1) 0) (tL 1 p (.getfield 35) 8)) (tL 0 p (.aload_n 0) 0)))))
set_option maxHeartbeats 4000000 in
def cd24 (p : Nat) : Option (Instr × Nat) := (tB 31 p (tB 49 p (tB 58 p (tB 60 p (tB 63 p (tB 66 p (tL 66 p .return_ 0) (tL 63 p (.goto (-29)) 34)) (tL 60 p (.iinc 6 1) 0)) (tB 59 p (tL 59 p .iastore 0) (tL 58 p .iaload 0))) (tB 53 p (tB 55 p (tB 57 p (tL 57 p .iadd 0) (tL 55 p (.iload 6) 0)) (tL 53 p (.iload 4) 0)) (tB 50 p (tL 50 p (.getfield 44) 11) (tL 49 p (.aload_n 0) 0)))) (tB 40 p (tB 44 p (tB 46 p (tB 48 p (tL 48 p .iadd 0) (tL 46 p (.iload 6) 0)) (tL 44 p (.iload 5) 0)) (tB 41 p (tL 41 p (.getfield 53) 14) (tL 40 p (.aload_n 0) 0))) (tB 34 p (tB 36 p (tB 37 p (tL 37 p (.if_icmp .ge 29) 66) (tL 36 p (.iconst 4) 0)) (tL 34 p (.iload 6) 0)) (tB 32 p (tL 32 p (.istore 6) 0) (tL 31 p (.iconst 0) 0))))) (tB 17 p (tB 24 p (tB 27 p (tB 28 p (tB 29 p (tL 29 p (.istore 5) 0) (tL 28 p .imul 0)) (tL 27 p (.iconst 4) 0)) (tB 26 p (tL 26 p (.iload_n 1) 0) (tL 24 p (.istore 4) 0))) (tB 19 p (tB 20 p (tB 21 p (tL 21 p (.invokevirtual 139) 15) (tL 20 p (.iload_n 3) 0)) (tL 19 p (.iload_n 2) 0)) (tB 18 p (tL 18 p (.aload_n 0) 0) (tL 17 p .return_ 0)))) (tB 8 p (tB 10 p (tB 11 p (tB 14 p (tL 14 p (.ifCond .ne 4) 18) (tL 11 p (.invokevirtual 110) 13)) (tL 10 p (.iload_n 3) 0)) (tB 9 p (tL 9 p (.iload_n 2) 0) (tL 8 p (.aload_n 0) 0))) (tB 2 p (tB 5 p (tL 5 p (.ifCond .eq 12) 17) (tL 2 p (.invokevirtual 136) 5)) (tB 1 p (tL 1 p (.iload_n 1) 0) (tL 0 p (.aload_n 0) 0))))))
set_option maxHeartbeats 4000000 in
def cd25 (p : Nat) : Option (Instr × Nat) := (tB 1 p (tB 4 p (tL 4 p .ireturn 0) (tL 1 p (.getfield 59) 16)) (tL 0 p (.aload_n 0) 0))
set_option maxHeartbeats 4000000 in
def cd26 (p : Nat) : Option (Instr × Nat) := (tB 9 p (tB 14 p (tB 15 p (tB 16 p (tL 16 p .ireturn 0) (tL 15 p .iaload 0)) (tL 14 p (.iload_n 1) 0)) (tB 10 p (tB 11 p (tL 11 p (.getfield 28) 6) (tL 10 p (.aload_n 0) 0)) (tL 9 p .ireturn 0))) (tB 2 p (tB 5 p (tB 8 p (tL 8 p (.iconst (-1)) 0) (tL 5 p (.ifCond .ne 5) 10)) (tL 2 p (.invokevirtual 79) 27)) (tB 1 p (tL 1 p (.iload_n 1) 0) (tL 0 p (.aload_n 0) 0))))
set_option maxHeartbeats 4000000 in
def cd27 (p : Nat) : Option (Instr × Nat) := (tB 12 p (tB 17 p (tB 21 p (tB 22 p (tL 22 p .ireturn 0) (tL 21 p (.iconst 0) 0)) (tB 18 p (tL 18 p (.goto 4) 22) (tL 17 p (.iconst 1) 0))) (tB 13 p (tB 14 p (tL 14 p (.if_icmp .ge 7) 21) (tL 13 p (.iconst 4) 0)) (tL 12 p (.iload_n 1) 0))) (tB 5 p (tB 6 p (tB 9 p (tL 9 p (.if_icmp .ge 12) 21) (tL 6 p (.getfield 59) 16)) (tL 5 p (.aload_n 0) 0)) (tB 1 p (tB 4 p (tL 4 p (.iload_n 1) 0) (tL 1 p (.ifCond .lt 20) 21)) (tL 0 p (.iload_n 1) 0))))
set_option maxHeartbeats 4000000 in
def cd28 (p : Nat) : Option (Instr × Nat) := (tB 9 p (tB 14 p (tB 15 p (tB 16 p (tL 16 p .ireturn 0) (tL 15 p .iaload 0)) (tL 14 p (.iload_n 1) 0)) (tB 10 p (tB 11 p (tL 11 p (.getfield 32) 7) (tL 10 p (.aload_n 0) 0)) (tL 9 p .ireturn 0))) (tB 2 p (tB 5 p (tB 8 p (tL 8 p (.iconst (-1)) 0) (tL 5 p (.ifCond .ne 5) 10)) (tL 2 p (.invokevirtual 79) 27)) (tB 1 p (tL 1 p (.iload_n 1) 0) (tL 0 p (.aload_n 0) 0))))
set_option maxHeartbeats 4000000 in
def cd29 (p : Nat) : Option (Instr × Nat) := (tB 78 p (tB 112 p (tB 131 p (tB 141 p (tB 150 p (tB 153 p (tB 154 p (tL 154 p .ireturn 0) (tL 153 p (.iconst 1) 0)) (tL 150 p (.goto (-124)) 26)) (tB 144 p (tB 147 p (tL 147 p (.iinc 2 1) 0) (tL 144 p (.goto (-40)) 104)) (tL 141 p (.iinc 3 1) 0))) (tB 136 p (tB 139 p (tB 140 p (tL 140 p .ireturn 0) (tL 139 p (.iconst 0) 0)) (tL 136 p (.if_icmp .eq 5) 141)) (tB 132 p (tB 133 p (tL 133 p (.invokevirtual 36) 37) (tL 132 p (.iload_n 3) 0)) (tL 131 p (.iload_n 2) 0)))) (tB 121 p (tB 126 p (tB 127 p (tB 130 p (tL 130 p (.aload_n 1) 0) (tL 127 p (.invokevirtual 36) 37)) (tL 126 p (.iload_n 3) 0)) (tB 124 p (tB 125 p (tL 125 p (.iload_n 2) 0) (tL 124 p (.aload_n 0) 0)) (tL 121 p (.if_icmp .ne 18) 139))) (tB 116 p (tB 117 p (tB 118 p (tL 118 p (.invokevirtual 32) 35) (tL 117 p (.iload_n 3) 0)) (tL 116 p (.iload_n 2) 0)) (tB 115 p (tL 115 p (.aload_n 1) 0) (tL 112 p (.invokevirtual 32) 35))))) (tB 97 p (tB 104 p (tB 109 p (tB 110 p (tB 111 p (tL 111 p (.iload_n 3) 0) (tL 110 p (.iload_n 2) 0)) (tL 109 p (.aload_n 0) 0)) (tB 105 p (tB 106 p (tL 106 p (.if_icmp .ge 41) 147) (tL 105 p (.iconst 4) 0)) (tL 104 p (.iload_n 3) 0))) (tB 101 p (tB 102 p (tB 103 p (tL 103 p (.istore_n 3) 0) (tL 102 p (.iconst 0) 0)) (tL 101 p .ireturn 0)) (tB 100 p (tL 100 p (.iconst 0) 0) (tL 97 p (.if_icmp .eq 5) 102)))) (tB 87 p (tB 92 p (tB 93 p (tB 94 p (tL 94 p (.invokevirtual 29) 28) (tL 93 p (.iload_n 2) 0)) (tL 92 p (.aload_n 1) 0)) (tB 88 p (tB 89 p (tL 89 p (.invokevirtual 29) 28) (tL 88 p (.iload_n 2) 0)) (tL 87 p (.aload_n 0) 0))) (tB 82 p (tB 85 p (tB 86 p (tL 86 p .ireturn 0) (tL 85 p (.iconst 0) 0)) (tL 82 p (.if_icmp .eq 5) 87)) (tB 79 p (tL 79 p (.invokevirtual 26) 26) (tL 78 p (.iload_n 2) 0)))))) (tB 38 p (tB 59 p (tB 66 p (tB 73 p (tB 74 p (tB 77 p (tL 77 p (.aload_n 1) 0) (tL 74 p (.invokevirtual 26) 26)) (tL 73 p (.iload_n 2) 0)) (tB 69 p (tB 72 p (tL 72 p (.aload_n 0) 0) (tL 69 p (.if_icmp .ne 16) 85)) (tL 66 p (.invokevirtual 23) 34))) (tB 61 p (tB 64 p (tB 65 p (tL 65 p (.iload_n 2) 0) (tL 64 p (.aload_n 1) 0)) (tL 61 p (.invokevirtual 23) 34)) (tB 60 p (tL 60 p (.iload_n 2) 0) (tL 59 p (.aload_n 0) 0)))) (tB 49 p (tB 54 p (tB 57 p (tB 58 p (tL 58 p .ireturn 0) (tL 57 p (.iconst 0) 0)) (tL 54 p (.if_icmp .eq 5) 59)) (tB 50 p (tB 51 p (tL 51 p (.invokevirtual 20) 33) (tL 50 p (.iload_n 2) 0)) (tL 49 p (.aload_n 1) 0))) (tB 44 p (tB 45 p (tB 46 p (tL 46 p (.invokevirtual 20) 33) (tL 45 p (.iload_n 2) 0)) (tL 44 p (.aload_n 0) 0)) (tB 41 p (tL 41 p (.if_icmp .ne 16) 57) (tL 38 p (.invokevirtual 16) 31))))) (tB 23 p (tB 28 p (tB 33 p (tB 36 p (tB 37 p (tL 37 p (.iload_n 2) 0) (tL 36 p (.aload_n 1) 0)) (tL 33 p (.invokevirtual 16) 31)) (tB 31 p (tB 32 p (tL 32 p (.iload_n 2) 0) (tL 31 p (.aload_n 0) 0)) (tL 28 p (.if_icmp .ge 125) 153))) (tB 25 p (tB 26 p (tB 27 p (tL 27 p (.iconst 5) 0) (tL 26 p (.iload_n 2) 0)) (tL 25 p (.istore_n 2) 0)) (tB 24 p (tL 24 p (.iconst 0) 0) (tL 23 p .ireturn 0)))) (tB 11 p (tB 16 p (tB 19 p (tB 22 p (tL 22 p (.iconst 0) 0) (tL 19 p (.if_icmp .eq 5) 24)) (tL 16 p (.invokevirtual 13) 30)) (tB 12 p (tB 15 p (tL 15 p (.aload_n 1) 0) (tL 12 p (.invokevirtual 13) 30)) (tL 11 p (.aload_n 0) 0))) (tB 4 p (tB 5 p (tB 8 p (tL 8 p (.if_icmp .ne 14) 22) (tL 5 p (.invokevirtual 7) 25)) (tL 4 p (.aload_n 1) 0)) (tB 1 p (tL 1 p (.invokevirtual 7) 25) (tL 0 p (.aload_n 0) 0)))))))
set_option maxHeartbeats 4000000 in
def cd30 (p : Nat) : Option (Instr × Nat) := (tB 1 p (tB 4 p (tL 4 p .ireturn 0) (tL 1 p (.getfield 62) 17)) (tL 0 p (.aload_n 0) 0))
set_option maxHeartbeats 4000000 in
def cd31 (p : Nat) : Option (Instr × Nat) := (tB 16 p (tB 23 p (tB 28 p (tB 29 p (tB 30 p (tL 30 p .ireturn 0) (tL 29 p (.iload_n 2) 0)) (tL 28 p .ireturn 0)) (tB 24 p (tB 27 p (tL 27 p (.iconst 0) 0) (tL 24 p (.ifCond .ge 5) 29)) (tL 23 p (.iload_n 2) 0))) (tB 20 p (tB 21 p (tB 22 p (tL 22 p (.istore_n 2) 0) (tL 21 p .isub 0)) (tL 20 p .iaload 0)) (tB 19 p (tL 19 p (.iload_n 1) 0) (tL 16 p (.getfield 28) 6)))) (tB 9 p (tB 11 p (tB 12 p (tB 15 p (tL 15 p (.aload_n 0) 0) (tL 12 p (.invokevirtual 94) 32)) (tL 11 p (.iload_n 1) 0)) (tB 10 p (tL 10 p (.aload_n 0) 0) (tL 9 p .ireturn 0))) (tB 2 p (tB 5 p (tB 8 p (tL 8 p (.iconst (-1)) 0) (tL 5 p (.ifCond .ne 5) 10)) (tL 2 p (.invokevirtual 79) 27)) (tB 1 p (tL 1 p (.iload_n 1) 0) (tL 0 p (.aload_n 0) 0)))))
set_option maxHeartbeats 4000000 in
def cd32 (p : Nat) : Option (Instr × Nat) := (tB 12 p (tB 16 p (tB 20 p (tB 21 p (tB 22 p (tL 22 p .ireturn 0) (tL 21 p .imul 0)) (tL 20 p .idiv 0)) (tB 19 p (tL 19 p (.iload_n 2) 0) (tL 16 p (.getfield 62) 17))) (tB 14 p (tB 15 p (tL 15 p (.aload_n 0) 0) (tL 14 p (.iload_n 2) 0)) (tB 13 p (tL 13 p .ireturn 0) (tL 12 p (.iconst 0) 0)))) (tB 6 p (tB 8 p (tB 9 p (tL 9 p (.if_icmp .ge 5) 14) (tL 8 p (.iconst 1) 0)) (tB 7 p (tL 7 p (.iload_n 2) 0) (tL 6 p (.istore_n 2) 0))) (tB 4 p (tB 5 p (tL 5 p .iaload 0) (tL 4 p (.iload_n 1) 0)) (tB 1 p (tL 1 p (.getfield 32) 7) (tL 0 p (.aload_n 0) 0)))))
set_option maxHeartbeats 4000000 in
def cd33 (p : Nat) : Option (Instr × Nat) := (tB 9 p (tB 11 p (tB 12 p (tB 15 p (tL 15 p .ireturn 0) (tL 12 p (.invokevirtual 94) 32)) (tL 11 p (.iload_n 1) 0)) (tB 10 p (tL 10 p (.aload_n 0) 0) (tL 9 p .ireturn 0))) (tB 2 p (tB 5 p (tB 8 p (tL 8 p (.iconst (-1)) 0) (tL 5 p (.ifCond .ne 5) 10)) (tL 2 p (.invokevirtual 79) 27)) (tB 1 p (tL 1 p (.iload_n 1) 0) (tL 0 p (.aload_n 0) 0))))
set_option maxHeartbeats 4000000 in
def cd34 (p : Nat) : Option (Instr × Nat) := (tB 16 p (tB 23 p (tB 28 p (tB 29 p (tB 30 p (tL 30 p .ireturn 0) (tL 29 p .idiv 0)) (tL 28 p (.iload_n 2) 0)) (tB 24 p (tB 25 p (tL 25 p (.getfield 62) 17) (tL 24 p (.aload_n 0) 0)) (tL 23 p .ireturn 0))) (tB 18 p (tB 19 p (tB 22 p (tL 22 p (.iconst 0) 0) (tL 19 p (.if_icmp .ge 5) 24)) (tL 18 p (.iconst 1) 0)) (tB 17 p (tL 17 p (.iload_n 2) 0) (tL 16 p (.istore_n 2) 0)))) (tB 9 p (tB 11 p (tB 14 p (tB 15 p (tL 15 p .iaload 0) (tL 14 p (.iload_n 1) 0)) (tL 11 p (.getfield 32) 7)) (tB 10 p (tL 10 p (.aload_n 0) 0) (tL 9 p .ireturn 0))) (tB 2 p (tB 5 p (tB 8 p (tL 8 p (.iconst (-1)) 0) (tL 5 p (.ifCond .ne 5) 10)) (tL 2 p (.invokevirtual 79) 27)) (tB 1 p (tL 1 p (.iload_n 1) 0) (tL 0 p (.aload_n 0) 0)))))
set_option maxHeartbeats 4000000 in
def cd35 (p : Nat) : Option (Instr × Nat) := (tB 18 p (tB 25 p (tB 28 p (tB 29 p (tB 30 p (tL 30 p .ireturn 0) (tL 29 p .iaload 0)) (tL 28 p .iadd 0)) (tB 26 p (tB 27 p (tL 27 p (.iload_n 2) 0) (tL 26 p .imul 0)) (tL 25 p (.iconst 4) 0))) (tB 20 p (tB 21 p (tB 24 p (tL 24 p (.iload_n 1) 0) (tL 21 p (.getfield 50) 13)) (tL 20 p (.aload_n 0) 0)) (tB 19 p (tL 19 p .ireturn 0) (tL 18 p (.iconst 0) 0)))) (tB 9 p (tB 11 p (tB 12 p (tB 15 p (tL 15 p (.ifCond .ne 5) 20) (tL 12 p (.invokevirtual 83) 36)) (tL 11 p (.iload_n 2) 0)) (tB 10 p (tL 10 p (.aload_n 0) 0) (tL 9 p .ireturn 0))) (tB 2 p (tB 5 p (tB 8 p (tL 8 p (.iconst 0) 0) (tL 5 p (.ifCond .ne 5) 10)) (tL 2 p (.invokevirtual 79) 27)) (tB 1 p (tL 1 p (.iload_n 1) 0) (tL 0 p (.aload_n 0) 0)))))
set_option maxHeartbeats 4000000 in
def cd36 (p : Nat) : Option (Instr × Nat) := (tB 6 p (tB 10 p (tB 13 p (tB 14 p (tL 14 p .ireturn 0) (tL 13 p (.iconst 0) 0)) (tL 10 p (.goto 4) 14)) (tB 9 p (tL 9 p (.iconst 1) 0) (tL 6 p (.if_icmp .gt 7) 13))) (tB 4 p (tB 5 p (tL 5 p (.iconst 3) 0) (tL 4 p (.iload_n 1) 0)) (tB 1 p (tL 1 p (.ifCond .lt 12) 13) (tL 0 p (.iload_n 1) 0))))
set_option maxHeartbeats 4000000 in
def cd37 (p : Nat) : Option (Instr × Nat) := (tB 18 p (tB 23 p (tB 28 p (tB 29 p (tB 32 p (tL 32 p .ireturn 0) (tL 29 p (.invokevirtual 90) 38)) (tL 28 p (.iload_n 2) 0)) (tB 26 p (tB 27 p (tL 27 p (.iconst 3) 0) (tL 26 p (.aload_n 0) 0)) (tL 23 p (.invokevirtual 86) 23))) (tB 20 p (tB 21 p (tB 22 p (tL 22 p (.iconst 3) 0) (tL 21 p (.iload_n 1) 0)) (tL 20 p (.aload_n 0) 0)) (tB 19 p (tL 19 p .ireturn 0) (tL 18 p (.iconst 0) 0)))) (tB 9 p (tB 11 p (tB 12 p (tB 15 p (tL 15 p (.ifCond .ne 5) 20) (tL 12 p (.invokevirtual 83) 36)) (tL 11 p (.iload_n 2) 0)) (tB 10 p (tL 10 p (.aload_n 0) 0) (tL 9 p .ireturn 0))) (tB 2 p (tB 5 p (tB 8 p (tL 8 p (.iconst 0) 0) (tL 5 p (.ifCond .ne 5) 10)) (tL 2 p (.invokevirtual 79) 27)) (tB 1 p (tL 1 p (.iload_n 1) 0) (tL 0 p (.aload_n 0) 0)))))
set_option maxHeartbeats 4000000 in
def cd38 (p : Nat) : Option (Instr × Nat) := (tB 17 p (tB 24 p (tB 26 p (tB 27 p (tB 28 p (tL 28 p .ireturn 0) (tL 27 p .iaload 0)) (tL 26 p .iadd 0)) (tB 25 p (tL 25 p (.iload_n 2) 0) (tL 24 p .imul 0))) (tB 19 p (tB 22 p (tB 23 p (tL 23 p (.iconst 4) 0) (tL 22 p (.iload_n 1) 0)) (tL 19 p (.getfield 53) 14)) (tB 18 p (tL 18 p (.aload_n 0) 0) (tL 17 p .ireturn 0)))) (tB 8 p (tB 10 p (tB 13 p (tB 16 p (tL 16 p (.iconst 0) 0) (tL 13 p (.ifCond .ne 5) 18)) (tL 10 p (.invokevirtual 83) 36)) (tB 9 p (tL 9 p (.iload_n 2) 0) (tL 8 p (.aload_n 0) 0))) (tB 2 p (tB 5 p (tL 5 p (.ifCond .eq 11) 16) (tL 2 p (.invokevirtual 136) 5)) (tB 1 p (tL 1 p (.iload_n 1) 0) (tL 0 p (.aload_n 0) 0)))))
def pCode (m pc : Nat) : Option (Instr × Nat) := bif Nat.ble pN m then none else bif Nat.ble (pTop m) pc then none else (bif Nat.ble 19 m then (bif Nat.ble 29 m then (bif Nat.ble 34 m then (bif Nat.ble 36 m then (bif Nat.ble 37 m then (bif Nat.ble 38 m then cd38 pc else cd37 pc) else cd36 pc) else (bif Nat.ble 35 m then cd35 pc else cd34 pc)) else (bif Nat.ble 31 m then (bif Nat.ble 32 m then (bif Nat.ble 33 m then cd33 pc else cd32 pc) else cd31 pc) else (bif Nat.ble 30 m then cd30 pc else cd29 pc))) else (bif Nat.ble 24 m then (bif Nat.ble 26 m then (bif Nat.ble 27 m then (bif Nat.ble 28 m then cd28 pc else cd27 pc) else cd26 pc) else (bif Nat.ble 25 m then cd25 pc else cd24 pc)) else (bif Nat.ble 21 m then (bif Nat.ble 22 m then (bif Nat.ble 23 m then cd23 pc else cd22 pc) else cd21 pc) else (bif Nat.ble 20 m then cd20 pc else cd19 pc)))) else (bif Nat.ble 9 m then (bif Nat.ble 14 m then (bif Nat.ble 16 m then (bif Nat.ble 17 m then (bif Nat.ble 18 m then cd18 pc else cd17 pc) else cd16 pc) else (bif Nat.ble 15 m then cd15 pc else cd14 pc)) else (bif Nat.ble 11 m then (bif Nat.ble 12 m then (bif Nat.ble 13 m then cd13 pc else cd12 pc) else cd11 pc) else (bif Nat.ble 10 m then cd10 pc else cd9 pc))) else (bif Nat.ble 4 m then (bif Nat.ble 6 m then (bif Nat.ble 7 m then (bif Nat.ble 8 m then cd8 pc else cd7 pc) else cd6 pc) else (bif Nat.ble 5 m then cd5 pc else cd4 pc)) else (bif Nat.ble 2 m then (bif Nat.ble 3 m then cd3 pc else cd2 pc) else (bif Nat.ble 1 m then cd1 pc else cd0 pc)))))
def lkF : List (Nat × Nat × Nat) := [(1, 7, 0), (1, 13, 1), (1, 16, 2), (1, 19, 3), (1, 22, 4), (1, 25, 5), (1, 28, 6), (1, 32, 7), (1, 35, 8), (1, 38, 9), (1, 41, 10), (1, 44, 11), (1, 47, 12), (1, 50, 13), (1, 53, 14), (1, 56, 15), (1, 59, 16), (1, 62, 17)]
def lkN : List (Nat × Nat) := [(0, 8)]
def lkC : List (Nat × Nat × Nat) := []
def lkD : List (Nat × Nat × Nat) := []
def lkV : List (Nat × Nat × Nat) := [(0, 49, 1), (1, 65, 2), (1, 98, 3), (1, 69, 4), (1, 136, 5), (1, 101, 6), (1, 104, 7), (0, 52, 8), (0, 42, 9), (0, 39, 10), (0, 45, 11), (1, 73, 12), (1, 110, 13), (1, 114, 14), (1, 139, 15), (1, 118, 16), (1, 121, 17), (1, 107, 18), (1, 124, 19), (1, 127, 20), (1, 130, 21), (1, 76, 22), (1, 86, 23), (1, 133, 24), (0, 7, 25), (0, 26, 26), (1, 79, 27), (0, 29, 28), (0, 58, 29), (0, 13, 30), (0, 16, 31), (1, 94, 32), (0, 20, 33), (0, 23, 34), (0, 32, 35), (1, 83, 36), (0, 36, 37), (1, 90, 38)]
def lkO : List (Nat × Nat) := [(1, 1)]
def mV : List Nat := [9, 10, 11, 25, 26, 28, 30, 31, 33, 34, 35, 37]
def mP : List Nat := [2, 3, 4, 5, 6, 7, 12, 13, 14, 15, 16, 17, 18, 19, 20, 21, 22, 23, 24, 27, 32, 36, 38]
def mS : List Nat := [8, 29]
def mI : List Nat := [1]
def mA : List Nat := [1, 2, 3, 4, 5, 6, 7, 8, 9, 10, 11, 12, 13, 14, 15, 16, 17, 18, 19, 20, 21, 22, 23, 24, 25, 26, 27, 28, 29, 30, 31, 32, 33, 34, 35, 36, 37, 38]
def aTys : List FieldType := [.int]
abbrev QCell := List Value ⊕ ((FieldType × List Int32) ⊕ List Int64)
abbrev QHeap := List QCell
abbrev QLoc := List (Option Value)
abbrev vI (x : Int32) : Option Value := some (.int x)
abbrev vR (a : Addr) : Option Value := some (.ref a)
abbrev vL (x : Int64) : Option Value := some (.long x)
abbrev QSt := Nat × QLoc × List Value × QHeap
def qv (ad : Nat → Addr) : Value → Value
 | .ref k => .ref (ad k)
 | v => v
def qsz : QCell → Nat
 | .inl _ => cN
 | .inr (.inl x) => x.2.length
 | .inr (.inr x) => x.length
def qhs : QHeap → Nat
 | [] => 0
 | c :: t => qsz c + qhs t
def aget {α : Type} (xs : List α) (j : Int32) : Option α := if j < 0 then none else xs[j.toNatClampNeg]?
def aset {α : Type} (xs : List α) (j : Int32) (v : α) : Option (List α) := if j < 0 then none else if j.toNatClampNeg < xs.length then some (xs.set j.toNatClampNeg v) else none
def qnew (n : Int32) : Option Nat := if n < 0 then none else if n.toNatClampNeg ≤ 67108864 then some n.toNatClampNeg else none
def qdiv (x y : Int32) : Option Int32 := if y = 0 then none else some (x / y)
def qrem (x y : Int32) : Option Int32 := if y = 0 then none else some (x % y)
def qboo (x : Int32) : Option Int32 := if x = 0 then some x else if x = 1 then some x else none
def lget : QLoc → Nat → Option Value
 | [], _ => none
 | v :: _, 0 => v
 | _ :: t, k + 1 => lget t k
def hget : QHeap → Nat → Option QCell
 | [], _ => none
 | v :: _, 0 => some v
 | _ :: t, k + 1 => hget t k
def vget : List Value → Nat → Option Value
 | [], _ => none
 | v :: _, 0 => some v
 | _ :: t, k + 1 => vget t k
def lkill (L : QLoc) : Nat → QLoc
 | 0 => L
 | k + 1 => match lget L k with
  | some (.long _) => L.set k none
  | some (.double _) => L.set k none
  | _ => L
def lput (L : QLoc) (k : Nat) (v : Value) : Option QLoc :=
 match v with
 | .long x => bif Nat.ble (k + 2) L.length then some (((lkill L k).set k (some (.long x))).set (k + 1) none) else none
 | .double _ => none
 | v => bif Nat.ble (k + 1) L.length then some ((lkill L k).set k (some v)) else none
def qload (pc : Nat) (L : QLoc) (S : List Value) (σ : QHeap) (k : Nat) (ok : Value → Bool) : Option QSt :=
 match lget L k with
 | some v => bif ok v then some (pc, L, v :: S, σ) else none
 | none => none
def isI : Value → Bool | .int _ => true | _ => false
def isJ : Value → Bool | .long _ => true | _ => false
def isR : Value → Bool | .ref _ => true | _ => false
def qstore (pc : Nat) (L : QLoc) (S : List Value) (σ : QHeap) (k : Nat) (ok : Value → Bool) : Option QSt :=
 match S with
 | v :: S' => bif ok v then (match lput L k v with | some L' => some (pc, L', S', σ) | none => none) else none
 | [] => none
def qbin (pc : Nat) (L : QLoc) (S : List Value) (σ : QHeap) (f : Int32 → Int32 → Int32) : Option QSt :=
 match S with
 | .int y :: .int x :: S' => some (pc, L, .int (f x y) :: S', σ)
 | _ => none
def qbino (pc : Nat) (L : QLoc) (S : List Value) (σ : QHeap) (f : Int32 → Int32 → Option Int32) : Option QSt :=
 match S with
 | .int y :: .int x :: S' => (f x y).bind fun z => some (pc, L, .int z :: S', σ)
 | _ => none
def qbinJ (pc : Nat) (L : QLoc) (S : List Value) (σ : QHeap) (f : Int64 → Int64 → Int64) : Option QSt :=
 match S with
 | .long y :: .long x :: S' => some (pc, L, .long (f x y) :: S', σ)
 | _ => none
def qshJ (pc : Nat) (L : QLoc) (S : List Value) (σ : QHeap) (f : Int64 → Int32 → Int64) : Option QSt :=
 match S with
 | .int y :: .long x :: S' => some (pc, L, .long (f x y) :: S', σ)
 | _ => none
def quni (pc : Nat) (L : QLoc) (S : List Value) (σ : QHeap) (f : Int32 → Value) : Option QSt :=
 match S with
 | .int x :: S' => some (pc, L, f x :: S', σ)
 | _ => none
def quniJ (pc : Nat) (L : QLoc) (S : List Value) (σ : QHeap) (f : Int64 → Value) : Option QSt :=
 match S with
 | .long x :: S' => some (pc, L, f x :: S', σ)
 | _ => none
def qald (pc : Nat) (L : QLoc) (S : List Value) (σ : QHeap) (ok : FieldType → Bool) : Option QSt :=
 match S with
 | .int j :: .ref a :: S' => (match hget σ a with
  | some (.inr (.inl x)) => bif ok x.1 then (aget x.2 j).bind fun v => some (pc, L, .int v :: S', σ) else none
  | _ => none)
 | _ => none
def qaldJ (pc : Nat) (L : QLoc) (S : List Value) (σ : QHeap) : Option QSt :=
 match S with
 | .int j :: .ref a :: S' => (match hget σ a with
  | some (.inr (.inr x)) => (aget x j).bind fun v => some (pc, L, .long v :: S', σ)
  | _ => none)
 | _ => none
def qnar : FieldType → Int32 → Int32
 | .boolean, x => x &&& 1
 | .byte, x => x.toInt8.toInt32
 | _, x => x
def qast (pc : Nat) (L : QLoc) (S : List Value) (σ : QHeap) (ok : FieldType → Bool) : Option QSt :=
 match S with
 | .int v :: .int j :: .ref a :: S' => (match hget σ a with
  | some (.inr (.inl x)) => bif ok x.1 && Nat.ble k0 a then (aset x.2 j (qnar x.1 v)).bind fun y => some (pc, L, S', σ.set a (.inr (.inl (x.1, y)))) else none
  | _ => none)
 | _ => none
def qastJ (pc : Nat) (L : QLoc) (S : List Value) (σ : QHeap) : Option QSt :=
 match S with
 | .long v :: .int j :: .ref a :: S' => (match hget σ a with
  | some (.inr (.inr x)) => bif Nat.ble k0 a then (aset x j v).bind fun y => some (pc, L, S', σ.set a (.inr (.inr y))) else none
  | _ => none)
 | _ => none
def tyI : FieldType → Bool | .int => true | _ => false
def tyB : FieldType → Bool | .boolean => true | .byte => true | _ => false
def qfit : FieldType → Value → Option Value
 | .int, .int x => some (.int x)
 | .boolean, .int x => (qboo x).bind fun y => some (.int y)
 | .long, .long x => some (.long x)
 | .array t, .ref a => some (.ref a)
 | _, _ => none
def qget (pc : Nat) (L : QLoc) (S : List Value) (σ : QHeap) (k : Nat) : Option QSt :=
 match S with
 | .ref a :: S' => (match hget σ a with
  | some (.inl vs) => (match vget vs k with | some v => some (pc, L, v :: S', σ) | none => none)
  | _ => none)
 | _ => none
def qput (pc : Nat) (L : QLoc) (S : List Value) (σ : QHeap) (k : Nat) : Option QSt :=
 match S with
 | v :: .ref a :: S' => (match hget σ a with
  | some (.inl vs) => bif Nat.ble k0 a && Nat.ble (k + 1) vs.length then (qfit (fTy k) v).bind fun w => some (pc, L, S', σ.set a (.inl (vs.set k w))) else none
  | _ => none)
 | _ => none
def qnewA (pc : Nat) (L : QLoc) (S : List Value) (σ : QHeap) (t : ArrayType) : Option QSt :=
 match S with
 | .int n :: S' => (match t with
  | .int => (qnew n).bind fun k => some (pc, L, .ref σ.length :: S', σ ++ [.inr (.inl (.int, List.replicate k 0))])
  | .boolean => (qnew n).bind fun k => some (pc, L, .ref σ.length :: S', σ ++ [.inr (.inl (.boolean, List.replicate k 0))])
  | .byte => (qnew n).bind fun k => some (pc, L, .ref σ.length :: S', σ ++ [.inr (.inl (.byte, List.replicate k 0))])
  | .long => (qnew n).bind fun k => some (pc, L, .ref σ.length :: S', σ ++ [.inr (.inr (List.replicate k 0))])
  | _ => none)
 | _ => none
def qlen (pc : Nat) (L : QLoc) (S : List Value) (σ : QHeap) : Option QSt :=
 match S with
 | .ref a :: S' => (match hget σ a with
  | some (.inr (.inl x)) => some (pc, L, .int x.2.length.toInt32 :: S', σ)
  | some (.inr (.inr x)) => some (pc, L, .int x.length.toInt32 :: S', σ)
  | _ => none)
 | _ => none
def qdup (pc : Nat) (L : QLoc) (S : List Value) (σ : QHeap) : Option QSt :=
 match S with
 | .int x :: S' => some (pc, L, .int x :: .int x :: S', σ)
 | .ref x :: S' => some (pc, L, .ref x :: .ref x :: S', σ)
 | _ => none
def qdup2 (pc : Nat) (L : QLoc) (S : List Value) (σ : QHeap) : Option QSt :=
 match S with
 | .int x :: .ref y :: S' => some (pc, L, .int x :: .ref y :: .int x :: .ref y :: S', σ)
 | .int x :: .int y :: S' => some (pc, L, .int x :: .int y :: .int x :: .int y :: S', σ)
 | .long x :: S' => some (pc, L, .long x :: .long x :: S', σ)
 | _ => none
def qpop (pc : Nat) (L : QLoc) (S : List Value) (σ : QHeap) : Option QSt :=
 match S with
 | .int _ :: S' => some (pc, L, S', σ)
 | .ref _ :: S' => some (pc, L, S', σ)
 | _ => none
def qif (pc : Nat) (L : QLoc) (S : List Value) (σ : QHeap) (cd : ClassFile.Cond) (tgt : Nat) : Option QSt :=
 match S with
 | .int x :: S' => some (bif ifCond.holds cd x then tgt else pc, L, S', σ)
 | _ => none
def qicmp (pc : Nat) (L : QLoc) (S : List Value) (σ : QHeap) (cd : ClassFile.Cond) (tgt : Nat) : Option QSt :=
 match S with
 | .int y :: .int x :: S' => some (bif if_icmp.holds cd x y then tgt else pc, L, S', σ)
 | _ => none
def qinc (pc : Nat) (L : QLoc) (S : List Value) (σ : QHeap) (k : Nat) (i : Int) : Option QSt :=
 match lget L k with
 | some (.int x) => (match lput L k (.int (x + Int32.ofInt i)) with | some L' => some (pc, L', S, σ) | none => none)
 | _ => none
def qldc (pc : Nat) (L : QLoc) (S : List Value) (σ : QHeap) (k : Nat) : Option QSt :=
 match vget cK k with
 | some v => some (pc, L, v :: S, σ)
 | none => none
def qexec (pc : Nat) (L : QLoc) (S : List Value) (σ : QHeap) (aux : Nat) : Instr → Option QSt
 | .aload_n k => qload (pc + 1) L S σ k.val isR
 | .aload k => qload (pc + 2) L S σ k isR
 | .iload_n k => qload (pc + 1) L S σ k.val isI
 | .iload k => qload (pc + 2) L S σ k isI
 | .lload_n k => qload (pc + 1) L S σ k.val isJ
 | .lload k => qload (pc + 2) L S σ k isJ
 | .iconst i => some (pc + 1, L, .int (Int32.ofInt i) :: S, σ)
 | .bipush i => some (pc + 2, L, .int (Int8.ofInt i).toInt32 :: S, σ)
 | .sipush i => some (pc + 3, L, .int (Int16.ofInt i).toInt32 :: S, σ)
 | .lconst k => some (pc + 1, L, .long (Int64.ofNat k.val) :: S, σ)
 | .ldc _ => qldc (pc + 2) L S σ aux
 | .ldc2_w _ => qldc (pc + 3) L S σ aux
 | .istore_n k => qstore (pc + 1) L S σ k.val isI
 | .istore k => qstore (pc + 2) L S σ k isI
 | .lstore_n k => qstore (pc + 1) L S σ k.val isJ
 | .lstore k => qstore (pc + 2) L S σ k isJ
 | .astore_n k => qstore (pc + 1) L S σ k.val isR
 | .astore k => qstore (pc + 2) L S σ k isR
 | .iinc k i => qinc (pc + 3) L S σ k i
 | .iadd => qbin (pc + 1) L S σ fun x y => x + y
 | .isub => qbin (pc + 1) L S σ fun x y => x - y
 | .imul => qbin (pc + 1) L S σ fun x y => x * y
 | .iand => qbin (pc + 1) L S σ fun x y => x &&& y
 | .ior => qbin (pc + 1) L S σ fun x y => x ||| y
 | .ixor => qbin (pc + 1) L S σ fun x y => x ^^^ y
 | .ishl => qbin (pc + 1) L S σ fun x y => x <<< (y &&& 31)
 | .ishr => qbin (pc + 1) L S σ fun x y => x >>> (y &&& 31)
 | .iushr => qbin (pc + 1) L S σ fun x y => XT.ushr x y
 | .idiv => qbino (pc + 1) L S σ qdiv
 | .irem => qbino (pc + 1) L S σ qrem
 | .ineg => quni (pc + 1) L S σ fun x => .int (-x)
 | .i2l => quni (pc + 1) L S σ fun x => .long x.toInt64
 | .i2b => quni (pc + 1) L S σ fun x => .int x.toInt8.toInt32
 | .l2i => quniJ (pc + 1) L S σ fun x => .int x.toInt32
 | .lneg => quniJ (pc + 1) L S σ fun x => .long (-x)
 | .ladd => qbinJ (pc + 1) L S σ fun x y => x + y
 | .lsub => qbinJ (pc + 1) L S σ fun x y => x - y
 | .lmul => qbinJ (pc + 1) L S σ fun x y => x * y
 | .land => qbinJ (pc + 1) L S σ fun x y => x &&& y
 | .lor => qbinJ (pc + 1) L S σ fun x y => x ||| y
 | .lxor => qbinJ (pc + 1) L S σ fun x y => x ^^^ y
 | .lshl => qshJ (pc + 1) L S σ fun x y => x <<< (y.toInt64 &&& 63)
 | .lshr => qshJ (pc + 1) L S σ fun x y => x >>> (y.toInt64 &&& 63)
 | .lushr => qshJ (pc + 1) L S σ fun x y => XT.ushrL x y
 | .lcmp => (match S with
  | .long y :: .long x :: S' => some (pc + 1, L, .int (XT.cmpL x y) :: S', σ)
  | _ => none)
 | .goto _ => some (aux, L, S, σ)
 | .ifCond cd _ => qif (pc + 3) L S σ cd aux
 | .if_icmp cd _ => qicmp (pc + 3) L S σ cd aux
 | .dup => qdup (pc + 1) L S σ
 | .dup2 => qdup2 (pc + 1) L S σ
 | .pop => qpop (pc + 1) L S σ
 | .getfield _ => qget (pc + 3) L S σ aux
 | .putfield _ => qput (pc + 3) L S σ aux
 | .iaload => qald (pc + 1) L S σ tyI
 | .baload => qald (pc + 1) L S σ tyB
 | .laload => qaldJ (pc + 1) L S σ
 | .iastore => qast (pc + 1) L S σ tyI
 | .bastore => qast (pc + 1) L S σ tyB
 | .lastore => qastJ (pc + 1) L S σ
 | .arraylength => qlen (pc + 1) L S σ
 | .newarray t => qnewA (pc + 2) L S σ t
 | .new _ => some (pc + 3, L, .ref σ.length :: S, σ ++ [.inl cDef])
 | _ => none
def qstep (m : Nat) (st : QSt) : Option QSt :=
 match pCode m st.1 with
 | some (i, aux) => qexec st.1 st.2.1 st.2.2.1 st.2.2.2 aux i
 | none => none
def qsteps (m : Nat) : Nat → QSt → Option QSt
 | 0, st => some st
 | n + 1, st => match qstep m st with | some st' => qsteps m n st' | none => none
def qentry (args : List Value) (mx : Nat) : QLoc := (args.flatMap fun v => match v with | .long x => [some (.long x), none] | .double x => [some (.double x), none] | v => [some v]) ++ List.replicate (mx - (args.map fun v => v.category).sum) none
def ilen : Instr → Nat
 | .aload _ | .iload _ | .lload _ | .istore _ | .lstore _ | .astore _ | .bipush _ | .ldc _ | .newarray _ => 2
 | .sipush _ | .ldc2_w _ | .iinc _ _ | .goto _ | .ifCond _ _ | .if_icmp _ _ | .getfield _ | .putfield _ | .new _ | .invokevirtual _ | .invokespecial _ | .invokestatic _ => 3
 | _ => 1
def qtgt (pc : Nat) (o : Int) (aux : Nat) : Bool := decide (0 ≤ (pc : Int) + o) && decide (((pc : Int) + o).toNat = aux)
def qlk (m pc : Nat) (i : Instr) (aux : Nat) : Bool :=
 match i with
 | .goto o => qtgt pc o aux
 | .ifCond _ o => qtgt pc o aux
 | .if_icmp _ o => qtgt pc o aux
 | .getfield idx => lkF.contains (pK m, idx, aux)
 | .putfield idx => lkF.contains (pK m, idx, aux) && (!fFin aux || (pK m == 1 && pNm m == "<init>"))
 | .new idx => lkN.contains (pK m, idx)
 | .newarray t => aTys.contains (newarray.typeOf t)
 | .ldc idx => lkC.contains (pK m, idx, aux)
 | .ldc2_w idx => lkD.contains (pK m, idx, aux)
 | _ => true
def qchk (m pc : Nat) (i : Instr) (aux : Nat) : Bool := decide (decode (pBytes m) pc = .ok (i, ilen i)) && qlk m pc i aux
def QCellOk (Z : State) (ad : Nat → Addr) (h : Heap) (a : Addr) : QCell → Prop
 | .inl vs => Exa Z h a cName ∧ vs.length = nF ∧ ∀ (k : Nat) (v : Value), k < nF → vget vs k = some v → Fld Z h a cName (fNm k) (fDs k) (qv ad v)
 | .inr (.inl x) => ∃ c : Cell, Arr Z h a c x.1 ∧ c.slots = (x.2.map Value.int).toArray
 | .inr (.inr x) => ∃ c : Cell, Arr Z h a c .long ∧ c.slots = (x.map Value.long).toArray
def QAd (n0 : Nat) (ad : Nat → Addr) : Prop := (∀ k, k0 ≤ k → ad k = n0 + (k - k0)) ∧ ∀ i j, ad i = ad j → i = j
def QRep (Z : State) (n0 : Nat) (ad : Nat → Addr) (h : Heap) (σ : QHeap) : Prop := k0 ≤ σ.length ∧ h.size = n0 + (σ.length - k0) ∧ ∀ k c, hget σ k = some c → QCellOk Z ad h (ad k) c
def QLocOk (ad : Nat → Addr) (L : QLoc) (C : Array Slot) : Prop :=
 L.length = C.size ∧ (∀ k v, lget L k = some v → C[k]? = some (.val (qv ad v))) ∧ (∀ k w, C[k]? = some (.val w) → w.category = 2 → C[k + 1]? = some .second) ∧ ∀ k, C[k]? = some .second → ∃ j w, k = j + 1 ∧ C[j]? = some (.val w) ∧ w.category = 2
def QW (Z : State) (a0 : Array Value) : Prop :=
 (∀ t ∈ lkF, (Cond.fieldLink (kName t.1) t.2.1 cName (fNm t.2.2) (fDs t.2.2)).before a0 Z = true) ∧
 (∀ t ∈ lkN, (Cond.classLink (kName t.1) t.2 cName).before a0 Z = true) ∧
 (∀ t ∈ lkC, ∃ v, vget cK t.2.2 = some (.int v) ∧ (Cond.constant (kName t.1) t.2.1 v).before a0 Z = true) ∧
 (∀ t ∈ lkD, ∃ v, vget cK t.2.2 = some (.long v) ∧ (Cond.constantLong (kName t.1) t.2.1 v).before a0 Z = true) ∧
 (∀ t ∈ lkV, (Cond.methodLink (kName t.1) t.2.1 (pName t.2.2)).before a0 Z = true) ∧
 (∀ t ∈ lkO, (Cond.methodLink (kName t.1) t.2 Lib.objectInit).before a0 Z = true) ∧
 (∀ m ∈ mV, (Cond.declares (pName m)).before a0 Z = true ∧ (Cond.selects cName (pName m) (pName m)).before a0 Z = true ∧ (Cond.instanceMethod (pName m)).before a0 Z = true) ∧
 (∀ m ∈ mP, (Cond.instanceMethod (pName m)).before a0 Z = true ∧ (Cond.privateMethod (pName m)).before a0 Z = true) ∧
 (∀ m ∈ mS, (Cond.static (pName m)).before a0 Z = true) ∧
 (∀ m ∈ mI, (Cond.instanceMethod (pName m)).before a0 Z = true) ∧
 (∀ m ∈ mA, (Cond.code (pName m) (pBytes m) (pMaxL m) (pRet m)).before a0 Z = true ∧ (Cond.initialized (kName (pK m))).before a0 Z = true) ∧
 (Cond.instanceMethod Lib.objectInit).before a0 Z = true ∧ (Cond.code Lib.objectInit ⟨#[0xb1]⟩ 1 none).before a0 Z = true ∧
 (∀ k, k < nF → bif fFin k then (Cond.laysFinal cName cName (fNm k) (fDs k)).before a0 Z = true else (Cond.lays cName cName (fNm k) (fDs k)).before a0 Z = true) ∧
 (Cond.instantiable cName cN).before a0 Z = true ∧ (Cond.initialized cName).before a0 Z = true ∧
 ∀ ty ∈ aTys, (Cond.arrayClass ty).before a0 Z = true
section Words
variable {Z : State} {a0 : Array Value}
theorem qw_fl (W : QW Z a0) : ∀ t ∈ lkF, (Cond.fieldLink (kName t.1) t.2.1 cName (fNm t.2.2) (fDs t.2.2)).before a0 Z = true := W.1
theorem qw_nw (W : QW Z a0) : ∀ t ∈ lkN, (Cond.classLink (kName t.1) t.2 cName).before a0 Z = true := W.2.1
theorem qw_cI (W : QW Z a0) : ∀ t ∈ lkC, ∃ v, vget cK t.2.2 = some (.int v) ∧ (Cond.constant (kName t.1) t.2.1 v).before a0 Z = true := W.2.2.1
theorem qw_cJ (W : QW Z a0) : ∀ t ∈ lkD, ∃ v, vget cK t.2.2 = some (.long v) ∧ (Cond.constantLong (kName t.1) t.2.1 v).before a0 Z = true := W.2.2.2.1
theorem qw_ml (W : QW Z a0) : ∀ t ∈ lkV, (Cond.methodLink (kName t.1) t.2.1 (pName t.2.2)).before a0 Z = true := W.2.2.2.2.1
theorem qw_mo (W : QW Z a0) : ∀ t ∈ lkO, (Cond.methodLink (kName t.1) t.2 Lib.objectInit).before a0 Z = true := W.2.2.2.2.2.1
theorem qw_vi (W : QW Z a0) : ∀ m ∈ mV, (Cond.declares (pName m)).before a0 Z = true ∧ (Cond.selects cName (pName m) (pName m)).before a0 Z = true ∧ (Cond.instanceMethod (pName m)).before a0 Z = true := W.2.2.2.2.2.2.1
theorem qw_pr (W : QW Z a0) : ∀ m ∈ mP, (Cond.instanceMethod (pName m)).before a0 Z = true ∧ (Cond.privateMethod (pName m)).before a0 Z = true := W.2.2.2.2.2.2.2.1
theorem qw_st (W : QW Z a0) : ∀ m ∈ mS, (Cond.static (pName m)).before a0 Z = true := W.2.2.2.2.2.2.2.2.1
theorem qw_ini (W : QW Z a0) : ∀ m ∈ mI, (Cond.instanceMethod (pName m)).before a0 Z = true := W.2.2.2.2.2.2.2.2.2.1
theorem qw_cod (W : QW Z a0) : ∀ m ∈ mA, (Cond.code (pName m) (pBytes m) (pMaxL m) (pRet m)).before a0 Z = true ∧ (Cond.initialized (kName (pK m))).before a0 Z = true := W.2.2.2.2.2.2.2.2.2.2.1
theorem qw_oi (W : QW Z a0) : (Cond.instanceMethod Lib.objectInit).before a0 Z = true := W.2.2.2.2.2.2.2.2.2.2.2.1
theorem qw_oc (W : QW Z a0) : (Cond.code Lib.objectInit ⟨#[0xb1]⟩ 1 none).before a0 Z = true := W.2.2.2.2.2.2.2.2.2.2.2.2.1
theorem qw_lay (W : QW Z a0) : ∀ k, k < nF → bif fFin k then (Cond.laysFinal cName cName (fNm k) (fDs k)).before a0 Z = true else (Cond.lays cName cName (fNm k) (fDs k)).before a0 Z = true := W.2.2.2.2.2.2.2.2.2.2.2.2.2.1
theorem qw_inst (W : QW Z a0) : (Cond.instantiable cName cN).before a0 Z = true := W.2.2.2.2.2.2.2.2.2.2.2.2.2.2.1
theorem qw_init (W : QW Z a0) : (Cond.initialized cName).before a0 Z = true := W.2.2.2.2.2.2.2.2.2.2.2.2.2.2.2.1
theorem qw_arr (W : QW Z a0) : ∀ ty ∈ aTys, (Cond.arrayClass ty).before a0 Z = true := W.2.2.2.2.2.2.2.2.2.2.2.2.2.2.2.2
end Words
theorem hget_eq : ∀ (σ : QHeap) k, hget σ k = σ[k]?
 | [], _ => by simp [hget]
 | _ :: _, 0 => by simp [hget]
 | _ :: t, k + 1 => by simp [hget, hget_eq t k]
theorem vget_eq : ∀ (σ : List Value) k, vget σ k = σ[k]?
 | [], _ => by simp [vget]
 | _ :: _, 0 => by simp [vget]
 | _ :: t, k + 1 => by simp [vget, vget_eq t k]
theorem lget_eq : ∀ (L : QLoc) k, lget L k = (L[k]?).getD none
 | [], _ => by simp [lget]
 | _ :: _, 0 => by simp [lget]
 | _ :: t, k + 1 => by simp [lget, lget_eq t k]
theorem lget_lt {L : QLoc} {k : Nat} {v : Value} (h : lget L k = some v) : k < L.length := by
 rw [lget_eq] at h
 rcases Nat.lt_or_ge k L.length with q | q
 ·exact q
 ·simp [List.getElem?_eq_none q] at h
theorem lget_set {L : QLoc} {k j : Nat} {o : Option Value} (hk : k < L.length) : lget (L.set k o) j = if j = k then o else lget L j := by
 simp only [lget_eq, List.getElem?_set]
 by_cases e : k = j
 ·subst e; simp [hk]
 ·simp [e, Ne.symm e]
theorem qhs_app (σ τ : QHeap) : qhs (σ ++ τ) = qhs σ + qhs τ := by
 induction σ with
 | nil => simp [qhs]
 | cons c t ih => simp [qhs, ih, Nat.add_assoc]
theorem qhs_set {σ : QHeap} {k : Nat} {c d : QCell} (h : hget σ k = some c) (hs : qsz d = qsz c) : qhs (σ.set k d) = qhs σ := by
 induction σ generalizing k with
 | nil => simp [hget] at h
 | cons x t ih =>
  cases k with
  | zero => simp only [hget, Option.some.injEq] at h; subst h; simp [qhs, hs]
  | succ k => simp only [hget] at h; simp [qhs, ih h]
theorem hget_set {σ : QHeap} {k j : Nat} {c d : QCell} (h : hget σ k = some c) : hget (σ.set k d) j = if j = k then some d else hget σ j := by
 rw [hget_eq] at h
 have hk := (List.getElem?_eq_some_iff.mp h).1
 simp only [hget_eq, List.getElem?_set]
 by_cases e : k = j
 ·subst e; simp [hk]
 ·simp [e, Ne.symm e]
theorem lkill_len (L : QLoc) (k : Nat) : (lkill L k).length = L.length := by
 cases k with
 | zero => rfl
 | succ k => simp only [lkill]; split <;> simp
theorem lget_kill {L : QLoc} {k j : Nat} {v : Value} (h : lget (lkill L k) j = some v) : lget L j = some v ∧ (k = j + 1 → v.category ≠ 2) := by
 cases k with
 | zero => exact ⟨h, fun e => by omega⟩
 | succ k =>
  simp only [lkill] at h
  split at h
  ·rename_i x q
   rw [lget_set (lget_lt q)] at h
   split at h
   ·cases h
   ·rename_i ne; exact ⟨h, fun e => absurd (by omega) ne⟩
  ·rename_i x q
   rw [lget_set (lget_lt q)] at h
   split at h
   ·cases h
   ·rename_i ne; exact ⟨h, fun e => absurd (by omega) ne⟩
  ·rename_i q1 q2
   refine ⟨h, fun e hc => ?_⟩
   obtain rfl : j = k := by omega
   cases v with
   | long x => exact q1 _ h
   | double x => exact q2 _ h
   | _ => simp [Value.category] at hc
theorem qv_cat (ad : Nat → Addr) (v : Value) : (qv ad v).category = v.category := by cases v <;> rfl
def kA (C : Array Slot) (k j : Nat) : Prop := k = j + 1 ∧ C[k]? = some .second
def kB (C : Array Slot) (k j : Nat) : Prop := j = k + 1 ∧ ∃ u, C[k]? = some (.val u) ∧ u.category = 2
def kD (C : Array Slot) (k j : Nat) : Prop := j = k + 2 ∧ ∃ u, C[k + 1]? = some (.val u) ∧ u.category = 2
theorem set1_at {C D : Array Slot} {k : Nat} {w : Value} (hk : k < C.size) (hw : w.category = 1) (h : storeLocals C k w = some D) :
  D.size = C.size ∧ D[k]? = some (.val w) ∧ ∀ j, j ≠ k → (D[j]? = C[j]? ∧ ¬ kA C k j ∧ ¬ kB C k j) ∨ D[j]? = some .unset ∧ (kA C k j ∨ kB C k j) := by
 have hck : C[k]? = some C[k] := Array.getElem?_eq_getElem hk
 unfold storeLocals at h
 simp only [hck, Option.bind_eq_bind, Option.bind_some] at h
 have self : ∀ {E : Array Slot}, k < E.size → storeSelf E k w = some D → D = E.setIfInBounds k (.val w) := by
  intro E hE q
  simp only [storeSelf, setAt, hE, if_true, Option.bind_eq_bind, Option.bind_some, hw] at q
  simpa using q.symm
 split at h
 ·rename_i q
  have hk1 : k - 1 < C.size := by omega
  simp only [setAt, hk1, if_true, Option.bind_some] at h
  have e := self (by simpa using hk) h
  subst e
  refine ⟨by simp, by simp [hk], fun j hj => ?_⟩
  by_cases ej : k = j + 1
  ·refine Or.inr ⟨?_, Or.inl ⟨ej, by rw [hck, q]⟩⟩
   rw [Array.getElem?_setIfInBounds_ne (Ne.symm hj), show j = k - 1 by omega]
   simp [hk1]
  ·refine Or.inl ⟨?_, fun x => ej x.1, fun x => ?_⟩
   ·rw [Array.getElem?_setIfInBounds_ne (Ne.symm hj), Array.getElem?_setIfInBounds_ne (by omega)]
   ·obtain ⟨-, u, x1, -⟩ := x
    rw [hck, q] at x1; cases x1
 ·rename_i u q
  split at h
  ·rename_i hu
   by_cases hk1 : k + 1 < C.size
   ·simp only [setAt, hk1, if_true, Option.bind_some] at h
    have e := self (by simpa using hk) h
    subst e
    refine ⟨by simp, by simp [hk], fun j hj => ?_⟩
    by_cases ej : j = k + 1
    ·refine Or.inr ⟨?_, Or.inr ⟨ej, u, by rw [hck, q], hu⟩⟩
     rw [Array.getElem?_setIfInBounds_ne (Ne.symm hj), ej]
     simp [hk1]
    ·refine Or.inl ⟨?_, fun x => ?_, fun x => ej x.1⟩
     ·rw [Array.getElem?_setIfInBounds_ne (Ne.symm hj), Array.getElem?_setIfInBounds_ne (by omega)]
     ·obtain ⟨-, x1⟩ := x
      rw [hck, q] at x1; cases x1
   ·simp [setAt, hk1] at h
  ·rename_i hu
   have e := self hk h
   subst e
   refine ⟨by simp, by simp [hk], fun j hj => Or.inl ⟨Array.getElem?_setIfInBounds_ne (Ne.symm hj), fun x => ?_, fun x => ?_⟩⟩
   ·obtain ⟨-, x1⟩ := x
    rw [hck, q] at x1; cases x1
   ·obtain ⟨-, u', x1, x2⟩ := x
    rw [hck, q] at x1; cases x1; exact hu x2
 ·rename_i q
  have e := self hk h
  subst e
  refine ⟨by simp, by simp [hk], fun j hj => Or.inl ⟨Array.getElem?_setIfInBounds_ne (Ne.symm hj), fun x => ?_, fun x => ?_⟩⟩
  ·obtain ⟨-, x1⟩ := x
   rw [hck, q] at x1; cases x1
  ·obtain ⟨-, u', x1, x2⟩ := x
   rw [hck, q] at x1; cases x1
theorem set2_at {C D : Array Slot} {k : Nat} {w : Value} (hk : k + 1 < C.size) (hw : w.category = 2) (wf : ∀ k w, C[k]? = some (.val w) → w.category = 2 → C[k + 1]? = some .second) (h : storeLocals C k w = some D) :
  D.size = C.size ∧ D[k]? = some (.val w) ∧ D[k + 1]? = some .second ∧ ∀ j, j ≠ k → j ≠ k + 1 → (D[j]? = C[j]? ∧ ¬ kA C k j ∧ ¬ kD C k j) ∨ D[j]? = some .unset ∧ (kA C k j ∨ kD C k j) := by
 have hk0 : k < C.size := by omega
 have hck : C[k]? = some C[k] := Array.getElem?_eq_getElem hk0
 unfold storeLocals at h
 simp only [hck, Option.bind_eq_bind, Option.bind_some] at h
 have self : ∀ {E : Array Slot}, E.size = C.size → storeSelf E k w = some D → D.size = C.size ∧ D[k]? = some (.val w) ∧ D[k + 1]? = some .second ∧ ∀ j, j ≠ k → j ≠ k + 1 → (D[j]? = E[j]? ∧ ¬ kD E k j) ∨ D[j]? = some .unset ∧ kD E k j := by
  intro E hs q
  have h1 : k < E.size := by omega
  have h2 : k + 1 < E.size := by omega
  have h3 : (E.setIfInBounds k (.val w))[k + 1]? = some E[k + 1] := by rw [Array.getElem?_setIfInBounds_ne (by omega)]; exact Array.getElem?_eq_getElem h2
  simp only [storeSelf, setAt, h1, if_true, Option.bind_eq_bind, Option.bind_some, hw, h3] at q
  have plain : (¬ ∃ u, E[k + 1]? = some (.val u) ∧ u.category = 2) → some ((E.setIfInBounds k (.val w)).setIfInBounds (k + 1) .second) = some D → D.size = C.size ∧ D[k]? = some (.val w) ∧ D[k + 1]? = some .second ∧ ∀ j, j ≠ k → j ≠ k + 1 → (D[j]? = E[j]? ∧ ¬ kD E k j) ∨ D[j]? = some .unset ∧ kD E k j := by
   intro no q
   cases q
   refine ⟨by simp [hs], ?_, ?_, fun j hj hj1 => Or.inl ⟨?_, fun x => no x.2⟩⟩
   ·rw [Array.getElem?_setIfInBounds_ne (by omega)]; simp [h1]
   ·simp [h2]
   ·rw [Array.getElem?_setIfInBounds_ne (by omega), Array.getElem?_setIfInBounds_ne (by omega)]
  split at q
  ·rename_i u hu
   split at q
   ·rename_i hu2
    by_cases h5 : k + 2 < E.size
    ·simp [h5, h2] at q
     cases q
     refine ⟨by simp [hs], ?_, ?_, fun j hj hj1 => ?_⟩
     ·rw [Array.getElem?_setIfInBounds_ne (by omega), Array.getElem?_setIfInBounds_ne (by omega)]; simp [h1]
     ·simp [h2]
     ·by_cases e : j = k + 2
      ·refine Or.inr ⟨?_, e, u, by rw [Array.getElem?_eq_getElem h2, hu], hu2⟩
       rw [Array.getElem?_setIfInBounds_ne (by omega), e]
       simp [h5]
      ·refine Or.inl ⟨?_, fun x => e x.1⟩
       rw [Array.getElem?_setIfInBounds_ne (by omega), Array.getElem?_setIfInBounds_ne (by omega), Array.getElem?_setIfInBounds_ne (by omega)]
    ·simp [h5] at q
   ·rename_i hu2
    refine plain ?_ (by simpa [h2] using q)
    rintro ⟨u', x1, x2⟩
    rw [Array.getElem?_eq_getElem h2, hu] at x1; cases x1; exact hu2 x2
  ·rename_i hu
   refine plain ?_ (by simpa [h2] using q)
   rintro ⟨u', x1, x2⟩
   rw [Array.getElem?_eq_getElem h2] at x1; exact hu _ (Option.some.inj x1)
 split at h
 ·rename_i q
  have hk1 : k - 1 < C.size := by omega
  simp only [setAt, hk1, if_true, Option.bind_some] at h
  obtain ⟨e1, e2, e3, e4⟩ := self (by simp) h
  refine ⟨e1, e2, e3, fun j hj hj1 => ?_⟩
  have h6 : ∀ i, i + 1 ≠ k ∨ k = 0 → i ≠ k ∨ k ≠ 0 → (C.setIfInBounds (k - 1) Slot.unset)[i]? = C[i]? := fun i hi hi2 => Array.getElem?_setIfInBounds_ne (by omega)
  have h7 : (C.setIfInBounds (k - 1) Slot.unset)[k + 1]? = C[k + 1]? := Array.getElem?_setIfInBounds_ne (by omega)
  rcases e4 j hj hj1 with ⟨r, r'⟩ | ⟨r, r1, u, r2, r3⟩
  ·by_cases ej : k = j + 1
   ·refine Or.inr ⟨?_, Or.inl ⟨ej, by rw [hck, q]⟩⟩
    rw [r, show j = k - 1 by omega]; simp [hk1]
   ·refine Or.inl ⟨by rw [r]; exact h6 _ (by omega) (by omega), fun x => ej x.1, fun x => r' ⟨x.1, ?_⟩⟩
    rw [h7]; exact x.2
  ·exact Or.inr ⟨r, Or.inr ⟨r1, u, by rw [← h7]; exact r2, r3⟩⟩
 ·rename_i u q
  split at h
  ·rename_i hu
   simp only [setAt, hk, if_true, Option.bind_some] at h
   obtain ⟨e1, e2, e3, e4⟩ := self (by simp) h
   have hsec := wf k u (by rw [hck, q]) hu
   refine ⟨e1, e2, e3, fun j hj hj1 => ?_⟩
   rcases e4 j hj hj1 with ⟨r, r'⟩ | ⟨r, r1, u', r2, r3⟩
   ·refine Or.inl ⟨by rw [r]; exact Array.getElem?_setIfInBounds_ne (by omega), fun x => ?_, fun x => ?_⟩
    ·obtain ⟨-, x1⟩ := x
     rw [hck, q] at x1; cases x1
    ·obtain ⟨-, u', x1, x2⟩ := x
     rw [hsec] at x1; cases x1
   ·simp [hk] at r2
  ·rename_i hu
   obtain ⟨e1, e2, e3, e4⟩ := self rfl h
   refine ⟨e1, e2, e3, fun j hj hj1 => ?_⟩
   rcases e4 j hj hj1 with ⟨r, r'⟩ | ⟨r, r'⟩
   ·refine Or.inl ⟨r, fun x => ?_, r'⟩
    obtain ⟨-, x1⟩ := x
    rw [hck, q] at x1; cases x1
   ·exact Or.inr ⟨r, Or.inr r'⟩
 ·rename_i q
  obtain ⟨e1, e2, e3, e4⟩ := self rfl h
  refine ⟨e1, e2, e3, fun j hj hj1 => ?_⟩
  rcases e4 j hj hj1 with ⟨r, r'⟩ | ⟨r, r'⟩
  ·refine Or.inl ⟨r, fun x => ?_, r'⟩
   obtain ⟨-, x1⟩ := x
   rw [hck, q] at x1; cases x1
  ·exact Or.inr ⟨r, Or.inr r'⟩
theorem store_some {C : Array Slot} {k : Nat} {w : Value} (hk : k + (w.category - 1) < C.size) (hc : w.category = 1 ∨ w.category = 2) (wf : ∀ k w, C[k]? = some (.val w) → w.category = 2 → C[k + 1]? = some .second) :
  ∃ D, storeLocals C k w = some D := by
 have hk0 : k < C.size := by omega
 have hck : C[k]? = some C[k] := Array.getElem?_eq_getElem hk0
 have self : ∀ {E : Array Slot}, E.size = C.size → (∀ u, E[k + 1]? = some (.val u) → u.category = 2 → k + 2 < E.size) → ∃ D, storeSelf E k w = some D := by
  intro E hs hn
  have h1 : k < E.size := by omega
  simp only [storeSelf, setAt, h1, if_true, Option.bind_eq_bind, Option.bind_some]
  rcases hc with hc | hc
  ·exact ⟨E.setIfInBounds k (.val w), by simp [hc]⟩
  ·have h2 : k + 1 < E.size := by omega
   have h3 : (E.setIfInBounds k (.val w))[k + 1]? = some E[k + 1] := by rw [Array.getElem?_setIfInBounds_ne (by omega)]; exact Array.getElem?_eq_getElem h2
   simp only [hc, if_true, h3, Option.bind_some]
   split
   ·rename_i u hu
    split
    ·rename_i hu2
     have h5 := hn u (by rw [Array.getElem?_eq_getElem h2, hu]) hu2
     exact ⟨_, by simp [h5, h2]; rfl⟩
    ·exact ⟨_, by simp [h2]; rfl⟩
   ·exact ⟨_, by simp [h2]; rfl⟩
 have next : ∀ u, C[k + 1]? = some (.val u) → u.category = 2 → k + 2 < C.size := fun u h1 h2 => (Array.getElem?_eq_some_iff.mp (wf _ _ h1 h2)).1
 unfold storeLocals
 simp only [hck, Option.bind_eq_bind, Option.bind_some]
 split
 ·have hk1 : k - 1 < C.size := by omega
  simp only [setAt, hk1, if_true, Option.bind_some]
  refine self (by simp) fun u h1 h2 => ?_
  rw [Array.getElem?_setIfInBounds_ne (by omega)] at h1
  simpa using next u h1 h2
 ·rename_i u q
  split
  ·rename_i hu
   have h5 := (Array.getElem?_eq_some_iff.mp (wf k u (by rw [hck, q]) hu)).1
   simp only [setAt, h5, if_true, Option.bind_some]
   refine self (by simp) fun u h1 h2 => ?_
   simp [h5] at h1
  ·exact self rfl next
 ·exact self rfl next
theorem store_ok1 {ad : Nat → Addr} {L : QLoc} {C : Array Slot} {k : Nat} {v : Value} (H : QLocOk ad L C) (hv : v.category = 1) (hk : k < L.length) :
  ∃ D, storeLocals C k (qv ad v) = some D ∧ QLocOk ad ((lkill L k).set k (some v)) D ∧ D.size = C.size := by
 obtain ⟨H1, H2, H3, H4⟩ := H
 have hc : (qv ad v).category = 1 := by rw [qv_cat, hv]
 obtain ⟨D, hD⟩ := store_some (C := C) (k := k) (w := qv ad v) (by rw [hc]; omega) (Or.inl hc) H3
 obtain ⟨d1, d2, d3⟩ := set1_at (by omega) hc hD
 refine ⟨D, hD, ⟨by simp [lkill_len, H1, d1], fun j u hj => ?_, fun j w hj hw => ?_, fun j hj => ?_⟩, d1⟩
 ·rw [lget_set (by rw [lkill_len]; exact hk)] at hj
  split at hj
  ·rename_i e; cases hj; rw [e]; exact d2
  ·rename_i ne
   obtain ⟨g1, g2⟩ := lget_kill hj
   have g3 := H2 j u g1
   rcases d3 j ne with ⟨r, -, -⟩ | ⟨-, ⟨r1, r2⟩ | ⟨r1, w, r2, r3⟩⟩
   ·rw [r]; exact g3
   ·obtain ⟨i, w, z1, z2, z3⟩ := H4 k r2
    obtain rfl : i = j := by omega
    rw [g3] at z2
    cases z2
    rw [qv_cat] at z3
    exact absurd z3 (g2 r1)
   ·have := H3 k w r2 r3
    rw [← r1, g3] at this
    cases this
 ·by_cases e : j = k
  ·subst e; rw [d2] at hj; cases hj; rw [hc] at hw; cases hw
  ·rcases d3 j e with ⟨r, nA, nB⟩ | ⟨r, -⟩
   ·rw [r] at hj
    have g := H3 j w hj hw
    have e2 : j + 1 ≠ k := fun q => nA ⟨q.symm, by rw [← q]; exact g⟩
    rcases d3 (j + 1) e2 with ⟨z, -, -⟩ | ⟨-, ⟨z1, z2⟩ | ⟨z1, -⟩⟩
    ·rw [z]; exact g
    ·obtain ⟨i, u, y1, y2, y3⟩ := H4 k z2
     obtain rfl : i = j + 1 := by omega
     rw [g] at y2; cases y2
    ·omega
   ·rw [r] at hj; cases hj
 ·by_cases e : j = k
  ·subst e; rw [d2] at hj; cases hj
  ·rcases d3 j e with ⟨r, nA, nB⟩ | ⟨r, -⟩
   ·rw [r] at hj
    obtain ⟨i, w, y1, y2, y3⟩ := H4 j hj
    refine ⟨i, w, y1, ?_, y3⟩
    have ei : i ≠ k := fun q => nB ⟨by omega, w, by rw [← q]; exact y2, y3⟩
    rcases d3 i ei with ⟨z, -, -⟩ | ⟨-, ⟨z1, z2⟩ | ⟨z1, u, z2, z3⟩⟩
    ·rw [z]; exact y2
    ·omega
    ·have := H3 k u z2 z3
     rw [← z1, y2] at this; cases this
   ·rw [r] at hj; cases hj
theorem store_ok2 {ad : Nat → Addr} {L : QLoc} {C : Array Slot} {k : Nat} {x : Int64} (H : QLocOk ad L C) (hk : k + 1 < L.length) :
  ∃ D, storeLocals C k (.long x) = some D ∧ QLocOk ad (((lkill L k).set k (some (.long x))).set (k + 1) none) D ∧ D.size = C.size := by
 obtain ⟨H1, H2, H3, H4⟩ := H
 have hc : (Value.long x).category = 2 := rfl
 obtain ⟨D, hD⟩ := store_some (C := C) (k := k) (w := .long x) (by rw [hc]; omega) (Or.inr hc) H3
 obtain ⟨d1, d2, d2', d3⟩ := set2_at (by omega) hc H3 hD
 refine ⟨D, hD, ⟨by simp [lkill_len, H1, d1], fun j u hj => ?_, fun j w hj hw => ?_, fun j hj => ?_⟩, d1⟩
 ·rw [lget_set (by simp [lkill_len]; exact hk)] at hj
  split at hj
  ·cases hj
  ·rename_i ne1
   rw [lget_set (by rw [lkill_len]; omega)] at hj
   split at hj
   ·rename_i e; cases hj; rw [e]; exact d2
   ·rename_i ne
    obtain ⟨g1, g2⟩ := lget_kill hj
    have g3 := H2 j u g1
    rcases d3 j ne ne1 with ⟨r, -, -⟩ | ⟨-, ⟨r1, r2⟩ | ⟨r1, w, r2, r3⟩⟩
    ·rw [r]; exact g3
    ·obtain ⟨i, w, z1, z2, z3⟩ := H4 k r2
     obtain rfl : i = j := by omega
     rw [g3] at z2
     cases z2
     rw [qv_cat] at z3
     exact absurd z3 (g2 r1)
    ·have := H3 (k + 1) w r2 r3
     rw [show k + 1 + 1 = j by omega, g3] at this
     cases this
 ·by_cases e : j = k
  ·rw [e]; exact d2'
  ·by_cases e1 : j = k + 1
   ·rw [e1, d2'] at hj; cases hj
   ·rcases d3 j e e1 with ⟨r, nA, nB⟩ | ⟨r, -⟩
    ·rw [r] at hj
     have g := H3 j w hj hw
     have e2 : j + 1 ≠ k := fun q => nA ⟨q.symm, by rw [← q]; exact g⟩
     rcases d3 (j + 1) e2 (by omega) with ⟨z, -, -⟩ | ⟨-, ⟨z1, z2⟩ | ⟨z1, -⟩⟩
     ·rw [z]; exact g
     ·obtain ⟨i, u, y1, y2, y3⟩ := H4 k z2
      obtain rfl : i = j + 1 := by omega
      rw [g] at y2; cases y2
     ·omega
    ·rw [r] at hj; cases hj
 ·by_cases e : j = k
  ·rw [e, d2] at hj; cases hj
  ·by_cases e1 : j = k + 1
   ·exact ⟨k, _, e1, d2, hc⟩
   ·rcases d3 j e e1 with ⟨r, nA, nB⟩ | ⟨r, -⟩
    ·rw [r] at hj
     obtain ⟨i, w, y1, y2, y3⟩ := H4 j hj
     refine ⟨i, w, y1, ?_, y3⟩
     have ei : i ≠ k := fun q => e1 (by omega)
     have ei1 : i ≠ k + 1 := fun q => nB ⟨by omega, w, by rw [← q]; exact y2, y3⟩
     rcases d3 i ei ei1 with ⟨z, -, -⟩ | ⟨-, ⟨z1, z2⟩ | ⟨z1, u, z2, z3⟩⟩
     ·rw [z]; exact y2
     ·omega
     ·have := H3 (k + 1) u z2 z3
      rw [show k + 1 + 1 = i by omega, y2] at this; cases this
    ·rw [r] at hj; cases hj
theorem store_ok {ad : Nat → Addr} {L L' : QLoc} {C : Array Slot} {k : Nat} {v : Value} (H : QLocOk ad L C) (h : lput L k v = some L') :
  ∃ D, storeLocals C k (qv ad v) = some D ∧ QLocOk ad L' D ∧ D.size = C.size := by
 have one : v.category = 1 → (bif Nat.ble (k + 1) L.length then some ((lkill L k).set k (some v)) else none) = some L' → ∃ D, storeLocals C k (qv ad v) = some D ∧ QLocOk ad L' D ∧ D.size = C.size := by
  intro hv h
  cases hb : Nat.ble (k + 1) L.length with
  | false => rw [hb] at h; cases h
  | true => rw [hb] at h; cases h; exact store_ok1 H hv (Nat.le_of_ble_eq_true hb)
 cases v with
 | long x =>
  simp only [lput] at h
  cases hb : Nat.ble (k + 2) L.length with
  | false => rw [hb] at h; cases h
  | true => rw [hb] at h; cases h; exact store_ok2 H (Nat.le_of_ble_eq_true hb)
 | double x => simp [lput] at h
 | int x => exact one rfl h
 | float x => exact one rfl h
 | null => exact one rfl h
 | ref x => exact one rfl h
 | retAddr x => exact one rfl h
theorem fInj : ∀ i, i < nF → ∀ j, j < nF → fNm i = fNm j → i = j := by decide +kernel
theorem fPrs : ∀ i, i < nF → parseFieldDescriptor (fDs i) = some (fTy i) := by decide +kernel
theorem cDefs : ∀ i, i < nF → vget cDef i = some (defaultValue (fTy i)) := by decide +kernel
theorem cDefL : cDef.length = nF := by decide +kernel
theorem fDef : ∀ i, i < nF → ∀ a, defaultValue (fTy i) ≠ .ref a := by
 intro i _ a
 cases fTy i <;> simp [defaultValue]
theorem kPlain : ∀ k, k < 2 → plainName (kName k) = true := by
 intro k hk
 rcases k with _ | _ | k
 ·first | decide +kernel | (simp [kName, plainName, overriddenIn]; done)
 ·first | decide +kernel | (simp [kName, plainName, overriddenIn]; done)
 ·omega
theorem pKlt : ∀ m, m < pN → pK m < 2 := by decide +kernel
theorem pSig : ∀ m, m < pN → (parseMethodDescriptor (pDs m)).map (fun sg => sg.parameters.length) = some (pNA m) := by decide +kernel
theorem pOwn : ∀ k, k < 2 → kName k ≠ "java/lang/invoke/MethodHandle" ∧ kName k ≠ "java/lang/invoke/VarHandle" := by decide +kernel
theorem mAlt : ∀ m ∈ mA, m < pN := by decide +kernel
theorem mVlt : ∀ m ∈ mV, m ∈ mA ∧ pK m = 1 := by decide +kernel
theorem mPlt : ∀ m ∈ mP, m ∈ mA ∧ pK m = 1 := by decide +kernel
theorem mSlt : ∀ m ∈ mS, m ∈ mA := by decide +kernel
theorem mIlt : ∀ m ∈ mI, m ∈ mA ∧ pK m = 1 ∧ pNm m = "<init>" ∧ pRet m = none := by decide +kernel
theorem kOne : kName 1 = cName := rfl
def pX (m pc : Nat) : Bool := match pCode m pc with | some t => qchk m pc t.1 t.2 | none => true
set_option maxRecDepth 100000 in
set_option maxHeartbeats 4000000 in
theorem pC0_0 : ∀ q, q < 128 → pX 0 (0 + q) = true := by decide +kernel
set_option maxRecDepth 100000 in
set_option maxHeartbeats 4000000 in
theorem pC0_128 : ∀ q, q < 108 → pX 0 (128 + q) = true := by decide +kernel
theorem pCm0 (pc : Nat) (h : pc < pTop 0) : pX 0 pc = true := by
 replace h : pc < 236 := h
 by_cases h0 : pc < 128
 ·have q := pC0_0 (pc - 0) (by omega)
  rwa [show 0 + (pc - 0) = pc from by omega] at q
 have q := pC0_128 (pc - 128) (by omega)
 rwa [show 128 + (pc - 128) = pc from by omega] at q
set_option maxRecDepth 100000 in
set_option maxHeartbeats 4000000 in
theorem pC1_0 : ∀ q, q < 128 → pX 1 (0 + q) = true := by decide +kernel
set_option maxRecDepth 100000 in
set_option maxHeartbeats 4000000 in
theorem pC1_128 : ∀ q, q < 27 → pX 1 (128 + q) = true := by decide +kernel
theorem pCm1 (pc : Nat) (h : pc < pTop 1) : pX 1 pc = true := by
 replace h : pc < 155 := h
 by_cases h0 : pc < 128
 ·have q := pC1_0 (pc - 0) (by omega)
  rwa [show 0 + (pc - 0) = pc from by omega] at q
 have q := pC1_128 (pc - 128) (by omega)
 rwa [show 128 + (pc - 128) = pc from by omega] at q
set_option maxRecDepth 100000 in
set_option maxHeartbeats 4000000 in
theorem pC2_0 : ∀ q, q < 42 → pX 2 (0 + q) = true := by decide +kernel
theorem pCm2 (pc : Nat) (h : pc < pTop 2) : pX 2 pc = true := by
 replace h : pc < 42 := h
 have q := pC2_0 (pc - 0) (by omega)
 rwa [show 0 + (pc - 0) = pc from by omega] at q
set_option maxRecDepth 100000 in
set_option maxHeartbeats 4000000 in
theorem pC3_0 : ∀ q, q < 10 → pX 3 (0 + q) = true := by decide +kernel
theorem pCm3 (pc : Nat) (h : pc < pTop 3) : pX 3 pc = true := by
 replace h : pc < 10 := h
 have q := pC3_0 (pc - 0) (by omega)
 rwa [show 0 + (pc - 0) = pc from by omega] at q
set_option maxRecDepth 100000 in
set_option maxHeartbeats 4000000 in
theorem pC4_0 : ∀ q, q < 55 → pX 4 (0 + q) = true := by decide +kernel
theorem pCm4 (pc : Nat) (h : pc < pTop 4) : pX 4 pc = true := by
 replace h : pc < 55 := h
 have q := pC4_0 (pc - 0) (by omega)
 rwa [show 0 + (pc - 0) = pc from by omega] at q
set_option maxRecDepth 100000 in
set_option maxHeartbeats 4000000 in
theorem pC5_0 : ∀ q, q < 15 → pX 5 (0 + q) = true := by decide +kernel
theorem pCm5 (pc : Nat) (h : pc < pTop 5) : pX 5 pc = true := by
 replace h : pc < 15 := h
 have q := pC5_0 (pc - 0) (by omega)
 rwa [show 0 + (pc - 0) = pc from by omega] at q
set_option maxRecDepth 100000 in
set_option maxHeartbeats 4000000 in
theorem pC6_0 : ∀ q, q < 58 → pX 6 (0 + q) = true := by decide +kernel
theorem pCm6 (pc : Nat) (h : pc < pTop 6) : pX 6 pc = true := by
 replace h : pc < 58 := h
 have q := pC6_0 (pc - 0) (by omega)
 rwa [show 0 + (pc - 0) = pc from by omega] at q
set_option maxRecDepth 100000 in
set_option maxHeartbeats 4000000 in
theorem pC7_0 : ∀ q, q < 58 → pX 7 (0 + q) = true := by decide +kernel
theorem pCm7 (pc : Nat) (h : pc < pTop 7) : pX 7 pc = true := by
 replace h : pc < 58 := h
 have q := pC7_0 (pc - 0) (by omega)
 rwa [show 0 + (pc - 0) = pc from by omega] at q
set_option maxRecDepth 100000 in
set_option maxHeartbeats 4000000 in
theorem pC8_0 : ∀ q, q < 33 → pX 8 (0 + q) = true := by decide +kernel
theorem pCm8 (pc : Nat) (h : pc < pTop 8) : pX 8 pc = true := by
 replace h : pc < 33 := h
 have q := pC8_0 (pc - 0) (by omega)
 rwa [show 0 + (pc - 0) = pc from by omega] at q
set_option maxRecDepth 100000 in
set_option maxHeartbeats 4000000 in
theorem pC9_0 : ∀ q, q < 24 → pX 9 (0 + q) = true := by decide +kernel
theorem pCm9 (pc : Nat) (h : pc < pTop 9) : pX 9 pc = true := by
 replace h : pc < 24 := h
 have q := pC9_0 (pc - 0) (by omega)
 rwa [show 0 + (pc - 0) = pc from by omega] at q
set_option maxRecDepth 100000 in
set_option maxHeartbeats 4000000 in
theorem pC10_0 : ∀ q, q < 84 → pX 10 (0 + q) = true := by decide +kernel
theorem pCm10 (pc : Nat) (h : pc < pTop 10) : pX 10 pc = true := by
 replace h : pc < 84 := h
 have q := pC10_0 (pc - 0) (by omega)
 rwa [show 0 + (pc - 0) = pc from by omega] at q
set_option maxRecDepth 100000 in
set_option maxHeartbeats 4000000 in
theorem pC11_0 : ∀ q, q < 84 → pX 11 (0 + q) = true := by decide +kernel
theorem pCm11 (pc : Nat) (h : pc < pTop 11) : pX 11 pc = true := by
 replace h : pc < 84 := h
 have q := pC11_0 (pc - 0) (by omega)
 rwa [show 0 + (pc - 0) = pc from by omega] at q
set_option maxRecDepth 100000 in
set_option maxHeartbeats 4000000 in
theorem pC12_0 : ∀ q, q < 92 → pX 12 (0 + q) = true := by decide +kernel
theorem pCm12 (pc : Nat) (h : pc < pTop 12) : pX 12 pc = true := by
 replace h : pc < 92 := h
 have q := pC12_0 (pc - 0) (by omega)
 rwa [show 0 + (pc - 0) = pc from by omega] at q
set_option maxRecDepth 100000 in
set_option maxHeartbeats 4000000 in
theorem pC13_0 : ∀ q, q < 25 → pX 13 (0 + q) = true := by decide +kernel
theorem pCm13 (pc : Nat) (h : pc < pTop 13) : pX 13 pc = true := by
 replace h : pc < 25 := h
 have q := pC13_0 (pc - 0) (by omega)
 rwa [show 0 + (pc - 0) = pc from by omega] at q
set_option maxRecDepth 100000 in
set_option maxHeartbeats 4000000 in
theorem pC14_0 : ∀ q, q < 67 → pX 14 (0 + q) = true := by decide +kernel
theorem pCm14 (pc : Nat) (h : pc < pTop 14) : pX 14 pc = true := by
 replace h : pc < 67 := h
 have q := pC14_0 (pc - 0) (by omega)
 rwa [show 0 + (pc - 0) = pc from by omega] at q
set_option maxRecDepth 100000 in
set_option maxHeartbeats 4000000 in
theorem pC15_0 : ∀ q, q < 9 → pX 15 (0 + q) = true := by decide +kernel
theorem pCm15 (pc : Nat) (h : pc < pTop 15) : pX 15 pc = true := by
 replace h : pc < 9 := h
 have q := pC15_0 (pc - 0) (by omega)
 rwa [show 0 + (pc - 0) = pc from by omega] at q
set_option maxRecDepth 100000 in
set_option maxHeartbeats 4000000 in
theorem pC16_0 : ∀ q, q < 58 → pX 16 (0 + q) = true := by decide +kernel
theorem pCm16 (pc : Nat) (h : pc < pTop 16) : pX 16 pc = true := by
 replace h : pc < 58 := h
 have q := pC16_0 (pc - 0) (by omega)
 rwa [show 0 + (pc - 0) = pc from by omega] at q
set_option maxRecDepth 100000 in
set_option maxHeartbeats 4000000 in
theorem pC17_0 : ∀ q, q < 128 → pX 17 (0 + q) = true := by decide +kernel
set_option maxRecDepth 100000 in
set_option maxHeartbeats 4000000 in
theorem pC17_128 : ∀ q, q < 75 → pX 17 (128 + q) = true := by decide +kernel
theorem pCm17 (pc : Nat) (h : pc < pTop 17) : pX 17 pc = true := by
 replace h : pc < 203 := h
 by_cases h0 : pc < 128
 ·have q := pC17_0 (pc - 0) (by omega)
  rwa [show 0 + (pc - 0) = pc from by omega] at q
 have q := pC17_128 (pc - 128) (by omega)
 rwa [show 128 + (pc - 128) = pc from by omega] at q
set_option maxRecDepth 100000 in
set_option maxHeartbeats 4000000 in
theorem pC18_0 : ∀ q, q < 38 → pX 18 (0 + q) = true := by decide +kernel
theorem pCm18 (pc : Nat) (h : pc < pTop 18) : pX 18 pc = true := by
 replace h : pc < 38 := h
 have q := pC18_0 (pc - 0) (by omega)
 rwa [show 0 + (pc - 0) = pc from by omega] at q
set_option maxRecDepth 100000 in
set_option maxHeartbeats 4000000 in
theorem pC19_0 : ∀ q, q < 85 → pX 19 (0 + q) = true := by decide +kernel
theorem pCm19 (pc : Nat) (h : pc < pTop 19) : pX 19 pc = true := by
 replace h : pc < 85 := h
 have q := pC19_0 (pc - 0) (by omega)
 rwa [show 0 + (pc - 0) = pc from by omega] at q
set_option maxRecDepth 100000 in
set_option maxHeartbeats 4000000 in
theorem pC20_0 : ∀ q, q < 67 → pX 20 (0 + q) = true := by decide +kernel
theorem pCm20 (pc : Nat) (h : pc < pTop 20) : pX 20 pc = true := by
 replace h : pc < 67 := h
 have q := pC20_0 (pc - 0) (by omega)
 rwa [show 0 + (pc - 0) = pc from by omega] at q
set_option maxRecDepth 100000 in
set_option maxHeartbeats 4000000 in
theorem pC21_0 : ∀ q, q < 67 → pX 21 (0 + q) = true := by decide +kernel
theorem pCm21 (pc : Nat) (h : pc < pTop 21) : pX 21 pc = true := by
 replace h : pc < 67 := h
 have q := pC21_0 (pc - 0) (by omega)
 rwa [show 0 + (pc - 0) = pc from by omega] at q
set_option maxRecDepth 100000 in
set_option maxHeartbeats 4000000 in
theorem pC22_0 : ∀ q, q < 13 → pX 22 (0 + q) = true := by decide +kernel
theorem pCm22 (pc : Nat) (h : pc < pTop 22) : pX 22 pc = true := by
 replace h : pc < 13 := h
 have q := pC22_0 (pc - 0) (by omega)
 rwa [show 0 + (pc - 0) = pc from by omega] at q
set_option maxRecDepth 100000 in
set_option maxHeartbeats 4000000 in
theorem pC23_0 : ∀ q, q < 42 → pX 23 (0 + q) = true := by decide +kernel
theorem pCm23 (pc : Nat) (h : pc < pTop 23) : pX 23 pc = true := by
 replace h : pc < 42 := h
 have q := pC23_0 (pc - 0) (by omega)
 rwa [show 0 + (pc - 0) = pc from by omega] at q
set_option maxRecDepth 100000 in
set_option maxHeartbeats 4000000 in
theorem pC24_0 : ∀ q, q < 67 → pX 24 (0 + q) = true := by decide +kernel
theorem pCm24 (pc : Nat) (h : pc < pTop 24) : pX 24 pc = true := by
 replace h : pc < 67 := h
 have q := pC24_0 (pc - 0) (by omega)
 rwa [show 0 + (pc - 0) = pc from by omega] at q
set_option maxRecDepth 100000 in
set_option maxHeartbeats 4000000 in
theorem pC25_0 : ∀ q, q < 5 → pX 25 (0 + q) = true := by decide +kernel
theorem pCm25 (pc : Nat) (h : pc < pTop 25) : pX 25 pc = true := by
 replace h : pc < 5 := h
 have q := pC25_0 (pc - 0) (by omega)
 rwa [show 0 + (pc - 0) = pc from by omega] at q
set_option maxRecDepth 100000 in
set_option maxHeartbeats 4000000 in
theorem pC26_0 : ∀ q, q < 17 → pX 26 (0 + q) = true := by decide +kernel
theorem pCm26 (pc : Nat) (h : pc < pTop 26) : pX 26 pc = true := by
 replace h : pc < 17 := h
 have q := pC26_0 (pc - 0) (by omega)
 rwa [show 0 + (pc - 0) = pc from by omega] at q
set_option maxRecDepth 100000 in
set_option maxHeartbeats 4000000 in
theorem pC27_0 : ∀ q, q < 23 → pX 27 (0 + q) = true := by decide +kernel
theorem pCm27 (pc : Nat) (h : pc < pTop 27) : pX 27 pc = true := by
 replace h : pc < 23 := h
 have q := pC27_0 (pc - 0) (by omega)
 rwa [show 0 + (pc - 0) = pc from by omega] at q
set_option maxRecDepth 100000 in
set_option maxHeartbeats 4000000 in
theorem pC28_0 : ∀ q, q < 17 → pX 28 (0 + q) = true := by decide +kernel
theorem pCm28 (pc : Nat) (h : pc < pTop 28) : pX 28 pc = true := by
 replace h : pc < 17 := h
 have q := pC28_0 (pc - 0) (by omega)
 rwa [show 0 + (pc - 0) = pc from by omega] at q
set_option maxRecDepth 100000 in
set_option maxHeartbeats 4000000 in
theorem pC29_0 : ∀ q, q < 128 → pX 29 (0 + q) = true := by decide +kernel
set_option maxRecDepth 100000 in
set_option maxHeartbeats 4000000 in
theorem pC29_128 : ∀ q, q < 27 → pX 29 (128 + q) = true := by decide +kernel
theorem pCm29 (pc : Nat) (h : pc < pTop 29) : pX 29 pc = true := by
 replace h : pc < 155 := h
 by_cases h0 : pc < 128
 ·have q := pC29_0 (pc - 0) (by omega)
  rwa [show 0 + (pc - 0) = pc from by omega] at q
 have q := pC29_128 (pc - 128) (by omega)
 rwa [show 128 + (pc - 128) = pc from by omega] at q
set_option maxRecDepth 100000 in
set_option maxHeartbeats 4000000 in
theorem pC30_0 : ∀ q, q < 5 → pX 30 (0 + q) = true := by decide +kernel
theorem pCm30 (pc : Nat) (h : pc < pTop 30) : pX 30 pc = true := by
 replace h : pc < 5 := h
 have q := pC30_0 (pc - 0) (by omega)
 rwa [show 0 + (pc - 0) = pc from by omega] at q
set_option maxRecDepth 100000 in
set_option maxHeartbeats 4000000 in
theorem pC31_0 : ∀ q, q < 31 → pX 31 (0 + q) = true := by decide +kernel
theorem pCm31 (pc : Nat) (h : pc < pTop 31) : pX 31 pc = true := by
 replace h : pc < 31 := h
 have q := pC31_0 (pc - 0) (by omega)
 rwa [show 0 + (pc - 0) = pc from by omega] at q
set_option maxRecDepth 100000 in
set_option maxHeartbeats 4000000 in
theorem pC32_0 : ∀ q, q < 23 → pX 32 (0 + q) = true := by decide +kernel
theorem pCm32 (pc : Nat) (h : pc < pTop 32) : pX 32 pc = true := by
 replace h : pc < 23 := h
 have q := pC32_0 (pc - 0) (by omega)
 rwa [show 0 + (pc - 0) = pc from by omega] at q
set_option maxRecDepth 100000 in
set_option maxHeartbeats 4000000 in
theorem pC33_0 : ∀ q, q < 16 → pX 33 (0 + q) = true := by decide +kernel
theorem pCm33 (pc : Nat) (h : pc < pTop 33) : pX 33 pc = true := by
 replace h : pc < 16 := h
 have q := pC33_0 (pc - 0) (by omega)
 rwa [show 0 + (pc - 0) = pc from by omega] at q
set_option maxRecDepth 100000 in
set_option maxHeartbeats 4000000 in
theorem pC34_0 : ∀ q, q < 31 → pX 34 (0 + q) = true := by decide +kernel
theorem pCm34 (pc : Nat) (h : pc < pTop 34) : pX 34 pc = true := by
 replace h : pc < 31 := h
 have q := pC34_0 (pc - 0) (by omega)
 rwa [show 0 + (pc - 0) = pc from by omega] at q
set_option maxRecDepth 100000 in
set_option maxHeartbeats 4000000 in
theorem pC35_0 : ∀ q, q < 31 → pX 35 (0 + q) = true := by decide +kernel
theorem pCm35 (pc : Nat) (h : pc < pTop 35) : pX 35 pc = true := by
 replace h : pc < 31 := h
 have q := pC35_0 (pc - 0) (by omega)
 rwa [show 0 + (pc - 0) = pc from by omega] at q
set_option maxRecDepth 100000 in
set_option maxHeartbeats 4000000 in
theorem pC36_0 : ∀ q, q < 15 → pX 36 (0 + q) = true := by decide +kernel
theorem pCm36 (pc : Nat) (h : pc < pTop 36) : pX 36 pc = true := by
 replace h : pc < 15 := h
 have q := pC36_0 (pc - 0) (by omega)
 rwa [show 0 + (pc - 0) = pc from by omega] at q
set_option maxRecDepth 100000 in
set_option maxHeartbeats 4000000 in
theorem pC37_0 : ∀ q, q < 33 → pX 37 (0 + q) = true := by decide +kernel
theorem pCm37 (pc : Nat) (h : pc < pTop 37) : pX 37 pc = true := by
 replace h : pc < 33 := h
 have q := pC37_0 (pc - 0) (by omega)
 rwa [show 0 + (pc - 0) = pc from by omega] at q
set_option maxRecDepth 100000 in
set_option maxHeartbeats 4000000 in
theorem pC38_0 : ∀ q, q < 29 → pX 38 (0 + q) = true := by decide +kernel
theorem pCm38 (pc : Nat) (h : pc < pTop 38) : pX 38 pc = true := by
 replace h : pc < 29 := h
 have q := pC38_0 (pc - 0) (by omega)
 rwa [show 0 + (pc - 0) = pc from by omega] at q
theorem pChk0 : ∀ m, m < pN → ∀ pc, pc < pTop m → (match pCode m pc with | some t => qchk m pc t.1 t.2 | none => true) = true := by
 intro m hm pc hp
 change pX m pc = true
 match m, hm, hp with
 | 0, _, hp => exact pCm0 pc hp
 | 1, _, hp => exact pCm1 pc hp
 | 2, _, hp => exact pCm2 pc hp
 | 3, _, hp => exact pCm3 pc hp
 | 4, _, hp => exact pCm4 pc hp
 | 5, _, hp => exact pCm5 pc hp
 | 6, _, hp => exact pCm6 pc hp
 | 7, _, hp => exact pCm7 pc hp
 | 8, _, hp => exact pCm8 pc hp
 | 9, _, hp => exact pCm9 pc hp
 | 10, _, hp => exact pCm10 pc hp
 | 11, _, hp => exact pCm11 pc hp
 | 12, _, hp => exact pCm12 pc hp
 | 13, _, hp => exact pCm13 pc hp
 | 14, _, hp => exact pCm14 pc hp
 | 15, _, hp => exact pCm15 pc hp
 | 16, _, hp => exact pCm16 pc hp
 | 17, _, hp => exact pCm17 pc hp
 | 18, _, hp => exact pCm18 pc hp
 | 19, _, hp => exact pCm19 pc hp
 | 20, _, hp => exact pCm20 pc hp
 | 21, _, hp => exact pCm21 pc hp
 | 22, _, hp => exact pCm22 pc hp
 | 23, _, hp => exact pCm23 pc hp
 | 24, _, hp => exact pCm24 pc hp
 | 25, _, hp => exact pCm25 pc hp
 | 26, _, hp => exact pCm26 pc hp
 | 27, _, hp => exact pCm27 pc hp
 | 28, _, hp => exact pCm28 pc hp
 | 29, _, hp => exact pCm29 pc hp
 | 30, _, hp => exact pCm30 pc hp
 | 31, _, hp => exact pCm31 pc hp
 | 32, _, hp => exact pCm32 pc hp
 | 33, _, hp => exact pCm33 pc hp
 | 34, _, hp => exact pCm34 pc hp
 | 35, _, hp => exact pCm35 pc hp
 | 36, _, hp => exact pCm36 pc hp
 | 37, _, hp => exact pCm37 pc hp
 | 38, _, hp => exact pCm38 pc hp
 | m + 39, hm, _ => exact absurd hm (by unfold pN; omega)
theorem pIn {m pc : Nat} {t : Instr × Nat} (h : pCode m pc = some t) : m < pN ∧ pc < pTop m := by
 unfold pCode at h
 cases h1 : Nat.ble pN m with
 | true => rw [h1] at h; cases h
 | false =>
  cases h2 : Nat.ble (pTop m) pc with
  | true => rw [h1, h2] at h; cases h
  | false => exact ⟨Nat.lt_of_not_le (fun q => by rw [Nat.ble_eq_true_of_le q] at h1; cases h1), Nat.lt_of_not_le (fun q => by rw [Nat.ble_eq_true_of_le q] at h2; cases h2)⟩
theorem pChk {m pc : Nat} {i : Instr} {aux : Nat} (h : pCode m pc = some (i, aux)) : qchk m pc i aux = true := by
 have q := pChk0 m (pIn h).1 pc (pIn h).2
 rw [h] at q
 exact q
theorem pDec {m pc : Nat} {i : Instr} {aux : Nat} (h : pCode m pc = some (i, aux)) : decode (pBytes m) pc = .ok (i, ilen i) := by
 have q := pChk h
 unfold qchk at q
 exact of_decide_eq_true (Bool.and_eq_true_iff.mp q).1
theorem pDecN {m pc n : Nat} {i : Instr} {aux : Nat} (h : pCode m pc = some (i, aux)) (hn : ilen i = n) : decode (pBytes m) pc = .ok (i, n) := by
 rw [← hn]; exact pDec h
theorem pRest {m pc : Nat} {i : Instr} {aux : Nat} (h : pCode m pc = some (i, aux)) : qlk m pc i aux = true := by
 have q := pChk h
 unfold qchk at q
 exact (Bool.and_eq_true_iff.mp q).2
theorem qtgt_spec {pc : Nat} {o : Int} {aux : Nat} (h : qtgt pc o aux = true) : 0 ≤ (pc : Int) + o ∧ ((pc : Int) + o).toNat = aux := by
 unfold qtgt at h
 have h2 := Bool.and_eq_true_iff.mp h
 exact ⟨of_decide_eq_true h2.1, of_decide_eq_true h2.2⟩
def QCx (Z : State) (p : Program) (R : Room) (s : State) (mid : MethodId) (meth : Method) (c : Code) (m : Nat) : Prop :=
 p.tables.exec = Jvm.exec ∧ Z.Warmed39 s.vm ∧ c.code = pBytes m ∧ c.maxLocals = pMaxL m ∧ meth.sig.returnType = pRet m ∧ s.vm.findClass (kName (pK m)) = some mid.cls ∧ meth.name = pNm m ∧ pFr m ≤ R.frames ∧ pLo m ≤ R.locals
def QTri (l : Launch) (Z : State) (n0 : Nat) (ad : Nat → Addr) (m : Nat) (st : QSt) (v : Option Value) (σ' : QHeap) : Prop :=
 st.2.2.2.length ≤ σ'.length ∧ qhs st.2.2.2 ≤ qhs σ' ∧
 ∀ (p : Program) (e : Env) (R : Room) (s : State) (mid : MethodId) (args : Array Value) (below : List Frame) (meth : Method) (c : Code) (T : State) (locs : List Loc) (cells slots : Nat) (C : Array Slot),
  QCx Z p R s mid meth c m → Stand p l e R s mid args below meth c T locs cells slots → QRep Z n0 ad T.heap st.2.2.2 → Fr n0 locs → QLocOk ad st.2.1 C → C.size = c.maxLocals →
  n0 + (st.2.2.2.length - k0) = s.heap.size + cells → cells + (σ'.length - st.2.2.2.length) ≤ R.cells → slots + (qhs σ' - qhs st.2.2.2) ≤ R.slots →
  ∃ T' locs', Stand p l e R s mid args below meth c T' locs' (cells + (σ'.length - st.2.2.2.length)) (slots + (qhs σ' - qhs st.2.2.2)) ∧ QRep Z n0 ad T'.heap σ' ∧ Fr n0 locs' ∧
   ∀ fs, (∀ (f : JFrame) (acts : List Action), f.method = mid → f.locked = none → f.entered = [] → (doReturn e (T'.setTop f) acts (v.map (qv ad))).1 = T'.setFrames fs) →
    Steps p.tables e below (T.setTop (mkF mid st.1 C (st.2.2.1.map (qv ad)))) (T'.setFrames fs)
section Triples
variable {l : Launch} {Z : State} {n0 : Nat} {ad : Nat → Addr} {a0 : Array Value} {m : Nat} {v : Option Value} {σ' : QHeap}
theorem QTri.gen {st st' : QSt} (h : QTri l Z n0 ad m st' v σ') (g1 : st.2.2.2.length ≤ st'.2.2.2.length) (g2 : qhs st.2.2.2 ≤ qhs st'.2.2.2)
  (hs : ∀ (p : Program) (e : Env) (R : Room) (s : State) (mid : MethodId) (args : Array Value) (below : List Frame) (meth : Method) (c : Code) (T : State) (locs : List Loc) (cells slots : Nat) (C : Array Slot),
   QCx Z p R s mid meth c m → Stand p l e R s mid args below meth c T locs cells slots → QRep Z n0 ad T.heap st.2.2.2 → Fr n0 locs → QLocOk ad st.2.1 C → C.size = c.maxLocals →
   n0 + (st.2.2.2.length - k0) = s.heap.size + cells → cells + (st'.2.2.2.length - st.2.2.2.length) ≤ R.cells → slots + (qhs st'.2.2.2 - qhs st.2.2.2) ≤ R.slots →
   ∃ T₁ locs₁ C₁, Stand p l e R s mid args below meth c T₁ locs₁ (cells + (st'.2.2.2.length - st.2.2.2.length)) (slots + (qhs st'.2.2.2 - qhs st.2.2.2)) ∧ QRep Z n0 ad T₁.heap st'.2.2.2 ∧ Fr n0 locs₁ ∧ QLocOk ad st'.2.1 C₁ ∧ C₁.size = c.maxLocals ∧
    ∀ target, Steps p.tables e below (T₁.setTop (mkF mid st'.1 C₁ (st'.2.2.1.map (qv ad)))) target → Steps p.tables e below (T.setTop (mkF mid st.1 C (st.2.2.1.map (qv ad)))) target) :
  QTri l Z n0 ad m st v σ' := by
 obtain ⟨h1, h2, h3⟩ := h
 refine ⟨Nat.le_trans g1 h1, Nat.le_trans g2 h2, fun p e R s mid args below meth c T locs cells slots C hcx X hR hF hL hC hn hc hsl => ?_⟩
 obtain ⟨T₁, locs₁, C₁, X₁, R₁, F₁, L₁, C1, S₁⟩ := hs p e R s mid args below meth c T locs cells slots C hcx X hR hF hL hC hn (by omega) (by omega)
 have hk := hR.1
 obtain ⟨T', locs', X', R', F', S'⟩ := h3 p e R s mid args below meth c T₁ locs₁ _ _ C₁ hcx X₁ R₁ F₁ L₁ C1 (by omega) (by omega) (by omega)
 have e1 : cells + (st'.2.2.2.length - st.2.2.2.length) + (σ'.length - st'.2.2.2.length) = cells + (σ'.length - st.2.2.2.length) := by omega
 have e2 : slots + (qhs st'.2.2.2 - qhs st.2.2.2) + (qhs σ' - qhs st'.2.2.2) = slots + (qhs σ' - qhs st.2.2.2) := by omega
 rw [e1, e2] at X'
 exact ⟨T', locs', X', R', F', fun fs hf => S₁ _ (S' fs hf)⟩
theorem QTri.pure {st st' : QSt} (h : QTri l Z n0 ad m st' v σ') (hσ : st'.2.2.2 = st.2.2.2)
  (hs : ∀ (p : Program) (e : Env) (R : Room) (s : State) (mid : MethodId) (args : Array Value) (below : List Frame) (meth : Method) (c : Code) (T : State) (locs : List Loc) (cells slots : Nat) (C : Array Slot),
   QCx Z p R s mid meth c m → Stand p l e R s mid args below meth c T locs cells slots → QRep Z n0 ad T.heap st.2.2.2 → QLocOk ad st.2.1 C → C.size = c.maxLocals →
   ∃ T₁ C₁, Stand p l e R s mid args below meth c T₁ locs cells slots ∧ T₁.heap = T.heap ∧ QLocOk ad st'.2.1 C₁ ∧ C₁.size = c.maxLocals ∧
    ∀ target, Steps p.tables e below (T₁.setTop (mkF mid st'.1 C₁ (st'.2.2.1.map (qv ad)))) target → Steps p.tables e below (T.setTop (mkF mid st.1 C (st.2.2.1.map (qv ad)))) target) :
  QTri l Z n0 ad m st v σ' := by
 refine QTri.gen h (by rw [hσ]; exact Nat.le_refl _) (by rw [hσ]; exact Nat.le_refl _) fun p e R s mid args below meth c T locs cells slots C hcx X hR hF hL hC hn hc hsl => ?_
 obtain ⟨T₁, C₁, X₁, hh, L₁, C1, S₁⟩ := hs p e R s mid args below meth c T locs cells slots C hcx X hR hL hC
 refine ⟨T₁, locs, C₁, ?_, by rw [hσ, hh]; exact hR, hF, L₁, C1, S₁⟩
 rw [hσ, Nat.sub_self, Nat.sub_self]
 exact X₁
theorem QTri.frame {pc pc' : Nat} {L L' : QLoc} {S S' : List Value} {σ : QHeap} (h : QTri l Z n0 ad m (pc', L', S', σ) v σ')
  (hs : ∀ (p : Program) (e : Env) (R : Room) (s : State) (mid : MethodId) (args : Array Value) (below : List Frame) (meth : Method) (c : Code) (T : State) (locs : List Loc) (cells slots : Nat) (C : Array Slot),
   QCx Z p R s mid meth c m → Stand p l e R s mid args below meth c T locs cells slots → QRep Z n0 ad T.heap σ → QLocOk ad L C → C.size = c.maxLocals →
   ∃ C₁, QLocOk ad L' C₁ ∧ C₁.size = c.maxLocals ∧ ∀ target, Steps p.tables e below (T.setTop (mkF mid pc' C₁ (S'.map (qv ad)))) target → Steps p.tables e below (T.setTop (mkF mid pc C (S.map (qv ad)))) target) :
  QTri l Z n0 ad m (pc, L, S, σ) v σ' :=
 QTri.pure h rfl fun p e R s mid args below meth c T locs cells slots C hcx X hR hL hC => by
  obtain ⟨C₁, h1, h2, h3⟩ := hs p e R s mid args below meth c T locs cells slots C hcx X hR hL hC
  exact ⟨T, C₁, X, rfl, h1, h2, h3⟩
theorem QTri.stack {pc pc' : Nat} {L : QLoc} {S S' : List Value} {σ : QHeap} (h : QTri l Z n0 ad m (pc', L, S', σ) v σ')
  (hs : ∀ (p : Program) (e : Env) (R : Room) (s : State) (mid : MethodId) (args : Array Value) (below : List Frame) (meth : Method) (c : Code) (T : State) (locs : List Loc) (cells slots : Nat) (C : Array Slot) (target : State),
   p.tables.exec = Jvm.exec → Z.Warmed39 s.vm → c.code = pBytes m → s.vm.findClass (kName (pK m)) = some mid.cls → Stand p l e R s mid args below meth c T locs cells slots → QRep Z n0 ad T.heap σ → QLocOk ad L C →
   Steps p.tables e below (T.setTop (mkF mid pc' C (S'.map (qv ad)))) target → Steps p.tables e below (T.setTop (mkF mid pc C (S.map (qv ad)))) target) :
  QTri l Z n0 ad m (pc, L, S, σ) v σ' :=
 QTri.frame h fun p e R s mid args below meth c T locs cells slots C hcx X hR hL hC => ⟨C, hL, hC, fun target k => hs p e R s mid args below meth c T locs cells slots C target hcx.1 hcx.2.1 hcx.2.2.1 hcx.2.2.2.2.2.1 X hR hL k⟩
theorem qload_inv {pc : Nat} {L : QLoc} {S : List Value} {σ : QHeap} {k : Nat} {ok : Value → Bool} {st' : QSt} (h : qload pc L S σ k ok = some st') : ∃ v, lget L k = some v ∧ ok v = true ∧ st' = (pc, L, v :: S, σ) := by
 unfold qload at h
 split at h
 ·rename_i v hv
  cases ho : ok v with
  | true => rw [ho] at h; cases h; exact ⟨v, hv, ho, rfl⟩
  | false => rw [ho] at h; cases h
 ·cases h
theorem qstore_inv {pc : Nat} {L : QLoc} {S : List Value} {σ : QHeap} {k : Nat} {ok : Value → Bool} {st' : QSt} (h : qstore pc L S σ k ok = some st') : ∃ v S' L', S = v :: S' ∧ ok v = true ∧ lput L k v = some L' ∧ st' = (pc, L', S', σ) := by
 unfold qstore at h
 split at h
 ·rename_i v S'
  cases ho : ok v with
  | true =>
   rw [ho] at h
   simp only [cond_true] at h
   split at h
   ·rename_i L' hL'
    cases h; exact ⟨v, S', L', rfl, ho, hL', rfl⟩
   ·cases h
  | false => rw [ho] at h; cases h
 ·cases h
theorem qbin_inv {pc : Nat} {L : QLoc} {S : List Value} {σ : QHeap} {f : Int32 → Int32 → Int32} {st' : QSt} (h : qbin pc L S σ f = some st') : ∃ x y S', S = .int y :: .int x :: S' ∧ st' = (pc, L, .int (f x y) :: S', σ) := by
 unfold qbin at h
 split at h
 ·cases h; exact ⟨_, _, _, rfl, rfl⟩
 ·cases h
theorem qbino_inv {pc : Nat} {L : QLoc} {S : List Value} {σ : QHeap} {f : Int32 → Int32 → Option Int32} {st' : QSt} (h : qbino pc L S σ f = some st') : ∃ x y z S', S = .int y :: .int x :: S' ∧ f x y = some z ∧ st' = (pc, L, .int z :: S', σ) := by
 unfold qbino at h
 split at h
 ·obtain ⟨z, hz, h⟩ := Option.bind_eq_some_iff.mp h
  cases h; exact ⟨_, _, _, _, rfl, hz, rfl⟩
 ·cases h
theorem qbinJ_inv {pc : Nat} {L : QLoc} {S : List Value} {σ : QHeap} {f : Int64 → Int64 → Int64} {st' : QSt} (h : qbinJ pc L S σ f = some st') : ∃ x y S', S = .long y :: .long x :: S' ∧ st' = (pc, L, .long (f x y) :: S', σ) := by
 unfold qbinJ at h
 split at h
 ·cases h; exact ⟨_, _, _, rfl, rfl⟩
 ·cases h
theorem qshJ_inv {pc : Nat} {L : QLoc} {S : List Value} {σ : QHeap} {f : Int64 → Int32 → Int64} {st' : QSt} (h : qshJ pc L S σ f = some st') : ∃ x y S', S = .int y :: .long x :: S' ∧ st' = (pc, L, .long (f x y) :: S', σ) := by
 unfold qshJ at h
 split at h
 ·cases h; exact ⟨_, _, _, rfl, rfl⟩
 ·cases h
theorem quni_inv {pc : Nat} {L : QLoc} {S : List Value} {σ : QHeap} {f : Int32 → Value} {st' : QSt} (h : quni pc L S σ f = some st') : ∃ x S', S = .int x :: S' ∧ st' = (pc, L, f x :: S', σ) := by
 unfold quni at h
 split at h
 ·cases h; exact ⟨_, _, rfl, rfl⟩
 ·cases h
theorem quniJ_inv {pc : Nat} {L : QLoc} {S : List Value} {σ : QHeap} {f : Int64 → Value} {st' : QSt} (h : quniJ pc L S σ f = some st') : ∃ x S', S = .long x :: S' ∧ st' = (pc, L, f x :: S', σ) := by
 unfold quniJ at h
 split at h
 ·cases h; exact ⟨_, _, rfl, rfl⟩
 ·cases h
theorem qif_inv {pc : Nat} {L : QLoc} {S : List Value} {σ : QHeap} {cd : ClassFile.Cond} {t : Nat} {st' : QSt} (h : qif pc L S σ cd t = some st') : ∃ x S', S = .int x :: S' ∧ st' = (bif ifCond.holds cd x then t else pc, L, S', σ) := by
 unfold qif at h
 split at h
 ·cases h; exact ⟨_, _, rfl, rfl⟩
 ·cases h
theorem qicmp_inv {pc : Nat} {L : QLoc} {S : List Value} {σ : QHeap} {cd : ClassFile.Cond} {t : Nat} {st' : QSt} (h : qicmp pc L S σ cd t = some st') : ∃ x y S', S = .int y :: .int x :: S' ∧ st' = (bif if_icmp.holds cd x y then t else pc, L, S', σ) := by
 unfold qicmp at h
 split at h
 ·cases h; exact ⟨_, _, _, rfl, rfl⟩
 ·cases h
theorem qget_inv {pc : Nat} {L : QLoc} {S : List Value} {σ : QHeap} {k : Nat} {st' : QSt} (h : qget pc L S σ k = some st') : ∃ a S' vs v, S = .ref a :: S' ∧ hget σ a = some (.inl vs) ∧ vget vs k = some v ∧ st' = (pc, L, v :: S', σ) := by
 unfold qget at h
 split at h
 ·split at h
  ·split at h
   ·cases h; exact ⟨_, _, _, _, rfl, by assumption, by assumption, rfl⟩
   ·cases h
  ·cases h
 ·cases h
theorem qput_inv {pc : Nat} {L : QLoc} {S : List Value} {σ : QHeap} {k : Nat} {st' : QSt} (h : qput pc L S σ k = some st') : ∃ v a S' vs w, S = v :: .ref a :: S' ∧ hget σ a = some (.inl vs) ∧ k0 ≤ a ∧ k < vs.length ∧ qfit (fTy k) v = some w ∧ st' = (pc, L, S', σ.set a (.inl (vs.set k w))) := by
 unfold qput at h
 split at h
 ·rename_i v a S'
  split at h
  ·rename_i vs hvs
   cases hbb : (Nat.ble k0 a && Nat.ble (k + 1) vs.length) with
   | false => rw [hbb] at h; cases h
   | true =>
    rw [hbb] at h
    simp only [cond_true] at h
    obtain ⟨u, hu, h⟩ := Option.bind_eq_some_iff.mp h
    cases h
    obtain ⟨b1, b2⟩ := Bool.and_eq_true_iff.mp hbb
    exact ⟨v, a, S', vs, u, rfl, hvs, Nat.le_of_ble_eq_true b1, Nat.le_of_ble_eq_true b2, hu, rfl⟩
  ·cases h
 ·cases h
theorem qald_inv {pc : Nat} {L : QLoc} {S : List Value} {σ : QHeap} {ok : FieldType → Bool} {st' : QSt} (h : qald pc L S σ ok = some st') : ∃ j a S' ty xs v, S = .int j :: .ref a :: S' ∧ hget σ a = some (.inr (.inl (ty, xs))) ∧ ok ty = true ∧ aget xs j = some v ∧ st' = (pc, L, .int v :: S', σ) := by
 unfold qald at h
 split at h
 ·rename_i j a S'
  split at h
  ·rename_i x hx
   cases ht : ok x.1 with
   | false => rw [ht] at h; cases h
   | true =>
    rw [ht] at h
    simp only [cond_true] at h
    obtain ⟨u, hu, h⟩ := Option.bind_eq_some_iff.mp h
    cases h
    exact ⟨j, a, S', x.1, x.2, u, rfl, hx, ht, hu, rfl⟩
  ·cases h
 ·cases h
theorem qaldJ_inv {pc : Nat} {L : QLoc} {S : List Value} {σ : QHeap} {st' : QSt} (h : qaldJ pc L S σ = some st') : ∃ j a S' xs v, S = .int j :: .ref a :: S' ∧ hget σ a = some (.inr (.inr xs)) ∧ aget xs j = some v ∧ st' = (pc, L, .long v :: S', σ) := by
 unfold qaldJ at h
 split at h
 ·rename_i j a S'
  split at h
  ·rename_i x hx
   obtain ⟨u, hu, h⟩ := Option.bind_eq_some_iff.mp h
   cases h
   exact ⟨j, a, S', x, u, rfl, hx, hu, rfl⟩
  ·cases h
 ·cases h
theorem qast_inv {pc : Nat} {L : QLoc} {S : List Value} {σ : QHeap} {ok : FieldType → Bool} {st' : QSt} (h : qast pc L S σ ok = some st') : ∃ v j a S' ty xs ys, S = .int v :: .int j :: .ref a :: S' ∧ hget σ a = some (.inr (.inl (ty, xs))) ∧ ok ty = true ∧ k0 ≤ a ∧ aset xs j (qnar ty v) = some ys ∧ st' = (pc, L, S', σ.set a (.inr (.inl (ty, ys)))) := by
 unfold qast at h
 split at h
 ·rename_i v j a S'
  split at h
  ·rename_i x hx
   cases ht : (ok x.1 && Nat.ble k0 a) with
   | false => rw [ht] at h; cases h
   | true =>
    rw [ht] at h
    simp only [cond_true] at h
    obtain ⟨u, hu, h⟩ := Option.bind_eq_some_iff.mp h
    cases h
    obtain ⟨b1, b2⟩ := Bool.and_eq_true_iff.mp ht
    exact ⟨v, j, a, S', x.1, x.2, u, rfl, hx, b1, Nat.le_of_ble_eq_true b2, hu, rfl⟩
  ·cases h
 ·cases h
theorem qastJ_inv {pc : Nat} {L : QLoc} {S : List Value} {σ : QHeap} {st' : QSt} (h : qastJ pc L S σ = some st') : ∃ v j a S' xs ys, S = .long v :: .int j :: .ref a :: S' ∧ hget σ a = some (.inr (.inr xs)) ∧ k0 ≤ a ∧ aset xs j v = some ys ∧ st' = (pc, L, S', σ.set a (.inr (.inr ys))) := by
 unfold qastJ at h
 split at h
 ·rename_i v j a S'
  split at h
  ·rename_i x hx
   cases ht : (Nat.ble k0 a) with
   | false => rw [ht] at h; cases h
   | true =>
    rw [ht] at h
    simp only [cond_true] at h
    obtain ⟨u, hu, h⟩ := Option.bind_eq_some_iff.mp h
    cases h
    exact ⟨v, j, a, S', x, u, rfl, hx, Nat.le_of_ble_eq_true ht, hu, rfl⟩
  ·cases h
 ·cases h
theorem qlen_inv {pc : Nat} {L : QLoc} {S : List Value} {σ : QHeap} {st' : QSt} (h : qlen pc L S σ = some st') : ∃ a S' n, S = .ref a :: S' ∧ ((∃ ty xs, hget σ a = some (.inr (.inl (ty, xs))) ∧ n = xs.length) ∨ ∃ xs, hget σ a = some (.inr (.inr xs)) ∧ n = xs.length) ∧ st' = (pc, L, .int n.toInt32 :: S', σ) := by
 unfold qlen at h
 split at h
 ·rename_i a S'
  split at h
  ·rename_i x hx
   cases h; exact ⟨a, S', _, rfl, Or.inl ⟨x.1, x.2, hx, rfl⟩, rfl⟩
  ·rename_i x hx
   cases h; exact ⟨a, S', _, rfl, Or.inr ⟨x, hx, rfl⟩, rfl⟩
  ·cases h
 ·cases h
theorem isI_inv {v : Value} (h : isI v = true) : ∃ x, v = .int x := by cases v <;> simp [isI] at h; exact ⟨_, rfl⟩
theorem isJ_inv {v : Value} (h : isJ v = true) : ∃ x, v = .long x := by cases v <;> simp [isJ] at h; exact ⟨_, rfl⟩
theorem isR_inv {v : Value} (h : isR v = true) : ∃ x, v = .ref x := by cases v <;> simp [isR] at h; exact ⟨_, rfl⟩
theorem aget_inv {α : Type} {xs : List α} {j : Int32} {x : α} (h : aget xs j = some x) : ¬ j < 0 ∧ xs[j.toNatClampNeg]? = some x := by
 unfold aget at h
 split at h
 ·cases h
 ·rename_i q; exact ⟨q, h⟩
theorem aset_inv {α : Type} {xs ys : List α} {j : Int32} {x : α} (h : aset xs j x = some ys) : ¬ j < 0 ∧ j.toNatClampNeg < xs.length ∧ ys = xs.set j.toNatClampNeg x := by
 unfold aset at h
 split at h
 ·cases h
 ·rename_i q
  split at h
  ·rename_i q2; cases h; exact ⟨q, q2, rfl⟩
  ·cases h
theorem qnew_inv {n : Int32} {k : Nat} (h : qnew n = some k) : ¬ n < 0 ∧ n.toNatClampNeg = k ∧ k ≤ 67108864 := by
 unfold qnew at h
 split at h
 ·cases h
 ·rename_i q
  split at h
  ·rename_i q2; cases h; exact ⟨q, rfl, q2⟩
  ·cases h
theorem QCellOk.other {h h' : Heap} {a b : Addr} {sl : Nat} {w : Value} {c : QCell} (H : QCellOk Z ad h b c) (W : Wr h h' a sl w) (ne : b ≠ a) : QCellOk Z ad h' b c := by
 rcases c with vs | ⟨ty, xs⟩ | xs
 ·obtain ⟨h1, h2, h3⟩ := H
  exact ⟨h1.wr W, h2, fun k u hk hu => (h3 k u hk hu).other W (Or.inl ne)⟩
 ·obtain ⟨c, h1, h2⟩ := H
  exact ⟨c, h1.other W ne, h2⟩
 ·obtain ⟨c, h1, h2⟩ := H
  exact ⟨c, h1.other W ne, h2⟩
theorem QCellOk.ext {h h' : Heap} {b : Addr} {c : QCell} (H : QCellOk Z ad h b c) (E : Ext h h') : QCellOk Z ad h' b c := by
 rcases c with vs | ⟨ty, xs⟩ | xs
 ·obtain ⟨h1, h2, h3⟩ := H
  exact ⟨h1.ext E, h2, fun k u hk hu => (h3 k u hk hu).ext E⟩
 ·obtain ⟨c, h1, h2⟩ := H
  exact ⟨c, h1.ext E, h2⟩
 ·obtain ⟨c, h1, h2⟩ := H
  exact ⟨c, h1.ext E, h2⟩
theorem QRep.set {h h' : Heap} {σ : QHeap} {a : Nat} {sl : Nat} {w : Value} {c d : QCell} (H : QRep Z n0 ad h σ) (Ad : QAd n0 ad) (W : Wr h h' (ad a) sl w) (hc : hget σ a = some c) (hd : QCellOk Z ad h' (ad a) d) : QRep Z n0 ad h' (σ.set a d) := by
 obtain ⟨h1, h2, h3⟩ := H
 refine ⟨by simpa using h1, by rw [W.size, h2]; simp, fun k e he => ?_⟩
 rw [hget_set hc] at he
 split at he
 ·rename_i q; cases he; rw [q]; exact hd
 ·rename_i q; exact (h3 k e he).other W fun z => q (Ad.2 _ _ z)
theorem QRep.push {h h' : Heap} {σ : QHeap} {c : QCell} (H : QRep Z n0 ad h σ) (Ad : QAd n0 ad) (E : Ext h h') (hs : h'.size = h.size + 1) (hc : QCellOk Z ad h' h.size c) : QRep Z n0 ad h' (σ ++ [c]) := by
 obtain ⟨h1, h2, h3⟩ := H
 refine ⟨by simp; omega, by rw [hs, h2]; simp; omega, fun k e he => ?_⟩
 rw [hget_eq] at he
 rcases Nat.lt_or_ge k σ.length with q | q
 ·rw [List.getElem?_append_left q, ← hget_eq] at he
  exact (h3 k e he).ext E
 ·rw [List.getElem?_append_right q] at he
  obtain rfl : k = σ.length := by
   rcases Nat.lt_or_ge (k - σ.length) 1 with z | z
   ·omega
   ·rw [List.getElem?_eq_none (by simpa using z)] at he; cases he
  simp at he
  rw [← he, Ad.1 _ h1, ← h2]
  exact hc
theorem mem_of_contains {α : Type} [BEq α] [LawfulBEq α] {L : List α} {a : α} (h : L.contains a = true) : a ∈ L := by simpa using h
theorem lkF_lt : ∀ t ∈ lkF, t.2.2 < nF := by decide +kernel
theorem laid_of (W : QW Z a0) {k : Nat} (hk : k < nF) : Laid Z a0 cName cName (fNm k) (fDs k) := by
 have q := (qw_lay W) k hk
 cases hf : fFin k with
 | true => rw [hf] at q; exact Or.inr q
 | false => rw [hf] at q; exact Or.inl q
theorem qfit_inv {ty : FieldType} {v w : Value} (h : qfit ty v = some w) : v = w ∧ narrow ty (qv ad w) = qv ad w ∧ fits ty (qv ad w) = true := by
 unfold qfit at h
 split at h
 ·cases h; exact ⟨rfl, rfl, rfl⟩
 ·rename_i x
  obtain ⟨y, hy, h⟩ := Option.bind_eq_some_iff.mp h
  cases h
  unfold qboo at hy
  split at hy
  ·rename_i e; cases hy; subst e; exact ⟨rfl, rfl, rfl⟩
  ·split at hy
   ·rename_i e; cases hy; subst e; exact ⟨rfl, rfl, rfl⟩
   ·cases hy
 ·cases h; exact ⟨rfl, rfl, rfl⟩
 ·cases h; exact ⟨rfl, rfl, rfl⟩
 ·cases h
theorem vget_set {vs : List Value} {k j : Nat} {w : Value} (hk : k < vs.length) : vget (vs.set k w) j = if j = k then some w else vget vs j := by
 simp only [vget_eq, List.getElem?_set]
 by_cases e : k = j
 ·subst e; simp [hk]
 ·simp [e, Ne.symm e]
theorem ald_in {α : Type} {f : α → Value} {xs : List α} {c : Cell} {j : Int32} {x : α} (hc : c.slots = (xs.map f).toArray) (h : aget xs j = some x) : ¬ (j < 0 ∨ c.slots.size ≤ j.toNatClampNeg) ∧ c.slots[j.toNatClampNeg]? = some (f x) := by
 obtain ⟨h1, h2⟩ := aget_inv h
 have h3 := (List.getElem?_eq_some_iff.mp h2).1
 refine ⟨fun q => ?_, by rw [hc]; simp [h2]⟩
 rcases q with q | q
 ·exact h1 q
 ·rw [hc] at q; simp at q; omega
theorem ast_in {α : Type} {f : α → Value} {xs ys : List α} {c : Cell} {j : Int32} {x : α} (hc : c.slots = (xs.map f).toArray) (h : aset xs j x = some ys) : ¬ (j < 0 ∨ c.slots.size ≤ j.toNatClampNeg) ∧ (c.setSlot j.toNatClampNeg (f x)).slots = (ys.map f).toArray := by
 obtain ⟨h1, h2, rfl⟩ := aset_inv h
 refine ⟨fun q => ?_, by simp [Cell.setSlot, hc, List.map_set]⟩
 rcases q with q | q
 ·exact h1 q
 ·rw [hc] at q; simp at q; omega
theorem qgrow {σ : QHeap} {c : QCell} : qhs (σ ++ [c]) - qhs σ = qsz c := by rw [qhs_app]; simp [qhs]
set_option maxHeartbeats 4000000 in
theorem QTri.newArr (Ad : QAd n0 ad) (W : QW Z a0) {pc aux : Nat} {L : QLoc} {S : List Value} {σ : QHeap} {aty : ArrayType} {n : Int32} {k : Nat} {c : QCell} (hk : qnew n = some k) (hc : pCode m pc = some (.newarray aty, aux)) (hz : qsz c = k)
  (hq : ∀ (h' : Heap) (a : Addr) (cA : ClassId), Arr Z h' a (newA cA (newarray.typeOf aty) n) (newarray.typeOf aty) → QCellOk Z ad h' a c)
  (h : QTri l Z n0 ad m (pc + 2, L, .ref σ.length :: S, σ ++ [c]) v σ') : QTri l Z n0 ad m (pc, L, .int n :: S, σ) v σ' := by
 have hd : decode (pBytes m) pc = .ok (.newarray aty, 2) := pDecN hc rfl
 obtain ⟨n1, n2, n3⟩ := qnew_inv hk
 refine QTri.gen h (by simp) (by simp [qhs_app]) fun p e R s mid args below meth c' T locs cells slots C hcx X hR hF hL hC hn hc1 hsl => ?_
 obtain ⟨hx, hZ, hby, hml, hret, hown, hnm, hfr, hlo⟩ := hcx
 have hd2 : decode c'.code pc = .ok (.newarray aty, 2) := by rw [hby]; exact hd
 simp only [List.length_append, List.length_singleton, Nat.add_sub_cancel_left, qgrow, hz] at hc1 hsl ⊢
 obtain ⟨T₁, h₁, cA, X₁, e₁, E₁, A₁, st⟩ := newP X hx hZ (aty := aty) (qw_arr W (newarray.typeOf aty) (mem_of_contains (show aTys.contains (newarray.typeOf aty) = true from pRest hc))) rfl (g := mkF mid pc C (.int n :: S.map (qv ad))) rfl hd2 rfl n1 (cap := k) (by omega) (by omega) hc1 hsl
 have hsz : h₁.size = T.heap.size + 1 := by
  have q1 := X₁.heapSize
  have q2 : T.heap.size < h₁.size := A₁.lt
  have q3 := hR.2.1
  rw [e₁] at q1
  have : n0 + (σ.length - k0) = s.heap.size + cells := hn
  have q3' : T.heap.size = n0 + (σ.length - k0) := q3
  omega
 refine ⟨T₁, locs, C, X₁, ?_, hF, hL, hC, fun target q => ?_⟩
 ·rw [e₁]; exact QRep.push hR Ad E₁ hsz (hq _ _ _ A₁)
 ·refine st _ ?_
  have e2 : ad σ.length = T.heap.size := by rw [Ad.1 _ hR.1]; exact hR.2.1.symm
  simp only [List.map_cons, qv, e2] at q
  exact q
set_option maxHeartbeats 4000000 in
theorem QTri.getfield (W : QW Z a0) {pc idx aux : Nat} {L : QLoc} {S : List Value} {σ : QHeap} {st' : QSt} (h : QTri l Z n0 ad m st' v σ') (hc : pCode m pc = some (.getfield idx, aux)) (hs : qget (pc + 3) L S σ aux = some st') : QTri l Z n0 ad m (pc, L, S, σ) v σ' := by
 have hd : decode (pBytes m) pc = .ok (.getfield idx, 3) := pDecN hc rfl
 obtain ⟨a, S', vs, w, rfl, hvs, hw, rfl⟩ := qget_inv hs
 have hm := mem_of_contains (show lkF.contains (pK m, idx, aux) = true from pRest hc)
 have hlt := lkF_lt _ hm
 refine QTri.pure h rfl fun p e R s mid args below meth c T locs cells slots C hcx X hR hL hC => ?_
 obtain ⟨hx, hZ, hby, hml, hret, hown, hnm, hfr, hlo⟩ := hcx
 have hd2 : decode c.code pc = .ok (.getfield idx, 3) := by rw [hby]; exact hd
 have F := (hR.2.2 _ _ hvs).2.2 aux w hlt hw
 obtain ⟨T₁, X₁, e₁, st⟩ := getF X hx hZ hown (host := "") (index := idx) (Or.inl (qw_fl W (pK m, idx, aux) hm)) Via.refl rfl F (g := mkF mid pc C (List.map (qv ad) (.ref a :: S'))) rfl rfl hd2
 exact ⟨T₁, C, X₁, e₁, hL, hC, st⟩
set_option maxHeartbeats 4000000 in
theorem QTri.putfield (Ad : QAd n0 ad) (W : QW Z a0) {pc idx aux : Nat} {L : QLoc} {S : List Value} {σ : QHeap} {st' : QSt} (h : QTri l Z n0 ad m st' v σ') (hc : pCode m pc = some (.putfield idx, aux)) (hs : qput (pc + 3) L S σ aux = some st') : QTri l Z n0 ad m (pc, L, S, σ) v σ' := by
 have hd : decode (pBytes m) pc = .ok (.putfield idx, 3) := pDecN hc rfl
 obtain ⟨w, a, S', vs, u, rfl, hvs, b1, b2, hu, rfl⟩ := qput_inv hs
 obtain ⟨r1, r2⟩ := Bool.and_eq_true_iff.mp (show (lkF.contains (pK m, idx, aux) && (!fFin aux || (pK m == 1 && pNm m == "<init>"))) = true from pRest hc)
 have hm := mem_of_contains r1
 have hlt := lkF_lt _ hm
 obtain ⟨rfl, q2, q3⟩ := qfit_inv (ad := ad) hu
 have hsz : qhs (σ.set a (Sum.inl (vs.set aux w))) = qhs σ := qhs_set hvs rfl
 refine QTri.gen h (by simp) (by show qhs σ ≤ qhs (σ.set a (Sum.inl (vs.set aux w))); rw [hsz]; exact Nat.le_refl _) fun p e R s mid args below meth c T locs cells slots C hcx X hR hF hL hC hn hc1 hsl => ?_
 obtain ⟨hx, hZ, hby, hml, hret, hown, hnm, hfr, hlo⟩ := hcx
 have hd2 : decode c.code pc = .ok (.putfield idx, 3) := by rw [hby]; exact hd
 obtain ⟨E, l1, Fs⟩ := hR.2.2 _ _ hvs
 obtain ⟨old, hold⟩ : ∃ old, vget vs aux = some old := by rw [vget_eq]; exact ⟨_, List.getElem?_eq_getElem b2⟩
 have lay : (Cond.lays cName cName (fNm aux) (fDs aux)).before a0 Z = true ∨ ((Cond.laysFinal cName cName (fNm aux) (fDs aux)).before a0 Z = true ∧ kName (pK m) = cName ∧ meth.name = "<init>") := by
  have q := (qw_lay W) aux hlt
  cases hf : fFin aux with
  | false => rw [hf] at q; exact Or.inl q
  | true =>
   rw [hf] at q r2
   simp at r2
   exact Or.inr ⟨q, by rw [r2.1]; exact kOne, by rw [hnm]; exact r2.2⟩
 obtain ⟨T₁, h₁, X₁, e₁, W₁, st⟩ := putF X hx hZ hown (host := "") (index := idx) (Or.inl (qw_fl W (pK m, idx, aux) hm)) Via.refl rfl (Fs aux old hlt hold) E lay ((qw_inst W)) (fPrs aux hlt) q2 q3 (g := mkF mid pc C (List.map (qv ad) (w :: .ref a :: S'))) rfl rfl hd2
 refine ⟨T₁, _, C, ?_, ?_, Fr.snoc X₁ hF (by rw [Ad.1 a b1]; exact Nat.le_add_right _ _), hL, hC, st⟩
 ·show Stand _ _ _ _ _ _ _ _ _ _ _ _ (cells + ((σ.set a (Sum.inl (vs.set aux w))).length - σ.length)) (slots + (qhs (σ.set a (Sum.inl (vs.set aux w))) - qhs σ))
  rw [hsz, Nat.sub_self, List.length_set, Nat.sub_self]
  exact X₁
 ·rw [e₁]
  refine QRep.set hR Ad W₁ hvs ⟨E.wr W₁, by simpa using l1, fun k u hk hu => ?_⟩
  rw [vget_set b2] at hu
  split at hu
  ·rename_i e; cases hu; rw [e]; exact (Fs aux old hlt hold).same W₁
  ·rename_i ne
   exact (Fs k u hk hu).other W₁ (Or.inr (slot_ne (laid_of W hk) (laid_of W hlt) (fun z => ne (fInj _ hk _ hlt z)) (fPrs _ hk) (fPrs _ hlt)))
theorem tyI_inv {ty : FieldType} (h : tyI ty = true) : ty = .int := by cases ty <;> simp [tyI] at h; rfl
theorem tyB_inv {ty : FieldType} (h : tyB ty = true) : ty = .boolean ∨ ty = .byte := by cases ty <;> simp [tyB] at h <;> simp
set_option maxHeartbeats 4000000 in
theorem QTri.iaload {pc aux : Nat} {L : QLoc} {S : List Value} {σ : QHeap} {st' : QSt} (h : QTri l Z n0 ad m st' v σ') (hc : pCode m pc = some (.iaload, aux)) (hs : qald (pc + 1) L S σ tyI = some st') : QTri l Z n0 ad m (pc, L, S, σ) v σ' := by
 have hd : decode (pBytes m) pc = .ok (.iaload, 1) := pDecN hc rfl
 obtain ⟨j, a, S', ty, xs, w, rfl, hx1, ht, hw, rfl⟩ := qald_inv hs
 obtain rfl := tyI_inv ht
 refine QTri.stack h fun p e R s mid args below meth c T locs cells slots C target hx hZ hby hown X hR hL k => ?_
 have hd2 : decode c.code pc = .ok (.iaload, 1) := by rw [hby]; exact hd
 obtain ⟨cl, A, hsl⟩ := hR.2.2 _ _ hx1
 obtain ⟨i1, i2⟩ := ald_in hsl hw
 exact X.iaload hx A.1 (State.isArrayOf_alike hZ.alike A.2.1) A.2.2 i1 i2 (g := mkF mid pc C (List.map (qv ad) (.int j :: .ref a :: S'))) rfl rfl hd2 _ k
set_option maxHeartbeats 4000000 in
theorem QTri.baload {pc aux : Nat} {L : QLoc} {S : List Value} {σ : QHeap} {st' : QSt} (h : QTri l Z n0 ad m st' v σ') (hc : pCode m pc = some (.baload, aux)) (hs : qald (pc + 1) L S σ tyB = some st') : QTri l Z n0 ad m (pc, L, S, σ) v σ' := by
 have hd : decode (pBytes m) pc = .ok (.baload, 1) := pDecN hc rfl
 obtain ⟨j, a, S', ty, xs, w, rfl, hx1, ht, hw, rfl⟩ := qald_inv hs
 refine QTri.stack h fun p e R s mid args below meth c T locs cells slots C target hx hZ hby hown X hR hL k => ?_
 have hd2 : decode c.code pc = .ok (.baload, 1) := by rw [hby]; exact hd
 obtain ⟨cl, A, hsl⟩ := hR.2.2 _ _ hx1
 obtain ⟨i1, i2⟩ := ald_in hsl hw
 rcases tyB_inv ht with rfl | rfl
 ·exact X.baloadBooleans hx A.1 (State.isArrayOf_alike hZ.alike A.2.1) A.2.2 i1 i2 (g := mkF mid pc C (List.map (qv ad) (.int j :: .ref a :: S'))) rfl rfl hd2 _ k
 ·exact X.baloadBytes hx A.1 (State.isArrayOf_alike hZ.alike A.2.1) A.2.2 i1 i2 (g := mkF mid pc C (List.map (qv ad) (.int j :: .ref a :: S'))) rfl rfl hd2 _ k
set_option maxHeartbeats 4000000 in
theorem QTri.laload {pc aux : Nat} {L : QLoc} {S : List Value} {σ : QHeap} {st' : QSt} (h : QTri l Z n0 ad m st' v σ') (hc : pCode m pc = some (.laload, aux)) (hs : qaldJ (pc + 1) L S σ = some st') : QTri l Z n0 ad m (pc, L, S, σ) v σ' := by
 have hd : decode (pBytes m) pc = .ok (.laload, 1) := pDecN hc rfl
 obtain ⟨j, a, S', xs, w, rfl, hx1, hw, rfl⟩ := qaldJ_inv hs
 refine QTri.stack h fun p e R s mid args below meth c T locs cells slots C target hx hZ hby hown X hR hL k => ?_
 have hd2 : decode c.code pc = .ok (.laload, 1) := by rw [hby]; exact hd
 obtain ⟨cl, A, hsl⟩ := hR.2.2 _ _ hx1
 obtain ⟨i1, i2⟩ := ald_in hsl hw
 exact X.laload hx A.1 (State.isArrayOf_alike hZ.alike A.2.1) A.2.2 i1 i2 (g := mkF mid pc C (List.map (qv ad) (.int j :: .ref a :: S'))) rfl rfl hd2 _ k
theorem QTri.stored (Ad : QAd n0 ad) {pc : Nat} {L : QLoc} {S S' : List Value} {σ : QHeap} {a j : Nat} {w : Value} {c d : QCell} (hx1 : hget σ a = some c) (b1 : k0 ≤ a) (hz : qsz d = qsz c) (h : QTri l Z n0 ad m (pc + 1, L, S', σ.set a d) v σ')
  (hs : ∀ (p : Program) (e : Env) (R : Room) (s : State) (mid : MethodId) (args : Array Value) (below : List Frame) (meth : Method) (c : Code) (T : State) (locs : List Loc) (cells slots : Nat) (C : Array Slot),
   QCx Z p R s mid meth c m → Stand p l e R s mid args below meth c T locs cells slots → QRep Z n0 ad T.heap σ →
   ∃ T' h', Stand p l e R s mid args below meth c T' (locs ++ [⟨ad a, j⟩]) cells slots ∧ T'.heap = h' ∧ Wr T.heap h' (ad a) j w ∧ QCellOk Z ad h' (ad a) d ∧ ∀ target, Steps p.tables e below (T'.setTop (mkF mid (pc + 1) C (S'.map (qv ad)))) target → Steps p.tables e below (T.setTop (mkF mid pc C (S.map (qv ad)))) target) :
  QTri l Z n0 ad m (pc, L, S, σ) v σ' := by
 have hsz : qhs (σ.set a d) = qhs σ := qhs_set hx1 hz
 refine QTri.gen h (by simp) (by show qhs σ ≤ qhs (σ.set a d); rw [hsz]; exact Nat.le_refl _) fun p e R s mid args below meth c T locs cells slots C hcx X hR hF hL hC hn hc1 hsl => ?_
 obtain ⟨T₁, h₁, X₁, e₁, W₁, Q₁, st⟩ := hs p e R s mid args below meth c T locs cells slots C hcx X hR
 refine ⟨T₁, _, C, ?_, ?_, Fr.snoc X₁ hF (by rw [Ad.1 a b1]; exact Nat.le_add_right _ _), hL, hC, st⟩
 ·show Stand _ _ _ _ _ _ _ _ _ _ _ _ (cells + ((σ.set a d).length - σ.length)) (slots + (qhs (σ.set a d) - qhs σ))
  rw [hsz, Nat.sub_self, List.length_set, Nat.sub_self]
  exact X₁
 ·rw [e₁]
  exact QRep.set hR Ad W₁ hx1 Q₁
set_option maxHeartbeats 4000000 in
theorem QTri.iastore (Ad : QAd n0 ad) {pc aux : Nat} {L : QLoc} {S : List Value} {σ : QHeap} {st' : QSt} (h : QTri l Z n0 ad m st' v σ') (hc : pCode m pc = some (.iastore, aux)) (hs : qast (pc + 1) L S σ tyI = some st') : QTri l Z n0 ad m (pc, L, S, σ) v σ' := by
 have hd : decode (pBytes m) pc = .ok (.iastore, 1) := pDecN hc rfl
 obtain ⟨w, j, a, S', ty, xs, ys, rfl, hx1, ht, b1, hw, rfl⟩ := qast_inv hs
 obtain rfl := tyI_inv ht
 refine QTri.stored Ad (j := j.toNatClampNeg) (w := .int w) hx1 b1 (by rw [(aset_inv hw).2.2]; simp [qsz]) h fun p e R s mid args below meth c T locs cells slots C hcx X hR => ?_
 have hd2 : decode c.code pc = .ok (.iastore, 1) := by rw [hcx.2.2.1]; exact hd
 obtain ⟨cl, A, hsl⟩ := hR.2.2 _ _ hx1
 obtain ⟨i1, i2⟩ := ast_in hsl hw
 obtain ⟨T₁, h₁, X₁, e₁, W₁, st⟩ := stI X hcx.1 hcx.2.1 rfl A i1 (g := mkF mid pc C (List.map (qv ad) (.int w :: .int j :: .ref a :: S'))) rfl rfl hd2
 exact ⟨T₁, h₁, X₁, e₁, W₁, ⟨_, A.same W₁, i2⟩, st⟩
set_option maxHeartbeats 4000000 in
theorem QTri.bastore (Ad : QAd n0 ad) {pc aux : Nat} {L : QLoc} {S : List Value} {σ : QHeap} {st' : QSt} (h : QTri l Z n0 ad m st' v σ') (hc : pCode m pc = some (.bastore, aux)) (hs : qast (pc + 1) L S σ tyB = some st') : QTri l Z n0 ad m (pc, L, S, σ) v σ' := by
 have hd : decode (pBytes m) pc = .ok (.bastore, 1) := pDecN hc rfl
 obtain ⟨w, j, a, S', ty, xs, ys, rfl, hx1, ht, b1, hw, rfl⟩ := qast_inv hs
 refine QTri.stored Ad (j := j.toNatClampNeg) (w := .int (qnar ty w)) hx1 b1 (by rw [(aset_inv hw).2.2]; simp [qsz]) h fun p e R s mid args below meth c T locs cells slots C hcx X hR => ?_
 have hd2 : decode c.code pc = .ok (.bastore, 1) := by rw [hcx.2.2.1]; exact hd
 obtain ⟨cl, A, hsl⟩ := hR.2.2 _ _ hx1
 obtain ⟨i1, i2⟩ := ast_in hsl hw
 rcases tyB_inv ht with rfl | rfl
 ·obtain ⟨T₁, h₁, X₁, e₁, W₁, st⟩ := stZ X hcx.1 hcx.2.1 rfl A i1 (g := mkF mid pc C (List.map (qv ad) (.int w :: .int j :: .ref a :: S'))) rfl rfl hd2
  exact ⟨T₁, h₁, X₁, e₁, W₁, ⟨_, A.same W₁, i2⟩, st⟩
 ·obtain ⟨T₁, h₁, X₁, e₁, W₁, st⟩ := stB X hcx.1 hcx.2.1 rfl A i1 (g := mkF mid pc C (List.map (qv ad) (.int w :: .int j :: .ref a :: S'))) rfl rfl hd2
  exact ⟨T₁, h₁, X₁, e₁, W₁, ⟨_, A.same W₁, i2⟩, st⟩
set_option maxHeartbeats 4000000 in
theorem QTri.lastore (Ad : QAd n0 ad) {pc aux : Nat} {L : QLoc} {S : List Value} {σ : QHeap} {st' : QSt} (h : QTri l Z n0 ad m st' v σ') (hc : pCode m pc = some (.lastore, aux)) (hs : qastJ (pc + 1) L S σ = some st') : QTri l Z n0 ad m (pc, L, S, σ) v σ' := by
 have hd : decode (pBytes m) pc = .ok (.lastore, 1) := pDecN hc rfl
 obtain ⟨w, j, a, S', xs, ys, rfl, hx1, b1, hw, rfl⟩ := qastJ_inv hs
 refine QTri.stored Ad (j := j.toNatClampNeg) (w := .long w) hx1 b1 (by rw [(aset_inv hw).2.2]; simp [qsz]) h fun p e R s mid args below meth c T locs cells slots C hcx X hR => ?_
 have hd2 : decode c.code pc = .ok (.lastore, 1) := by rw [hcx.2.2.1]; exact hd
 obtain ⟨cl, A, hsl⟩ := hR.2.2 _ _ hx1
 obtain ⟨i1, i2⟩ := ast_in hsl hw
 obtain ⟨T₁, h₁, X₁, e₁, W₁, st⟩ := stJ X hcx.1 hcx.2.1 rfl A i1 (g := mkF mid pc C (List.map (qv ad) (.long w :: .int j :: .ref a :: S'))) rfl rfl hd2
 exact ⟨T₁, h₁, X₁, e₁, W₁, ⟨_, A.same W₁, i2⟩, st⟩
set_option maxHeartbeats 4000000 in
theorem QTri.alen {pc aux : Nat} {L : QLoc} {S : List Value} {σ : QHeap} {st' : QSt} (h : QTri l Z n0 ad m st' v σ') (hc : pCode m pc = some (.arraylength, aux)) (hs : qlen (pc + 1) L S σ = some st') : QTri l Z n0 ad m (pc, L, S, σ) v σ' := by
 have hd : decode (pBytes m) pc = .ok (.arraylength, 1) := pDecN hc rfl
 obtain ⟨a, S', n, rfl, hx1, rfl⟩ := qlen_inv hs
 refine QTri.stack h fun p e R s mid args below meth c T locs cells slots C target hx hZ hby hown X hR hL k => ?_
 have hd2 : decode c.code pc = .ok (.arraylength, 1) := by rw [hby]; exact hd
 rcases hx1 with ⟨ty, xs, hx1, rfl⟩ | ⟨xs, hx1, rfl⟩
 ·obtain ⟨cl, A, hsl⟩ := hR.2.2 _ _ hx1
  have e1 : cl.slots.size = xs.length := by rw [hsl]; simp
  rw [← e1] at k
  exact X.arraylength hx A.1 (State.isArrayOf_alike hZ.alike A.2.1) (g := mkF mid pc C (List.map (qv ad) (.ref a :: S'))) rfl rfl hd2 _ k
 ·obtain ⟨cl, A, hsl⟩ := hR.2.2 _ _ hx1
  have e1 : cl.slots.size = xs.length := by rw [hsl]; simp
  rw [← e1] at k
  exact X.arraylength hx A.1 (State.isArrayOf_alike hZ.alike A.2.1) (g := mkF mid pc C (List.map (qv ad) (.ref a :: S'))) rfl rfl hd2 _ k
set_option maxHeartbeats 4000000 in
theorem QTri.newObj (Ad : QAd n0 ad) (W : QW Z a0) {pc idx aux : Nat} {L : QLoc} {S : List Value} {σ : QHeap} (h : QTri l Z n0 ad m (pc + 3, L, .ref σ.length :: S, σ ++ [.inl cDef]) v σ') (hc : pCode m pc = some (.new idx, aux)) : QTri l Z n0 ad m (pc, L, S, σ) v σ' := by
 have hd : decode (pBytes m) pc = .ok (.new idx, 3) := pDecN hc rfl
 have hm := mem_of_contains (show lkN.contains (pK m, idx) = true from pRest hc)
 refine QTri.gen h (by simp) (by simp [qhs_app]) fun p e R s mid args below meth c T locs cells slots C hcx X hR hF hL hC hn hc1 hsl => ?_
 obtain ⟨hx, hZ, hby, hml, hret, hown, hnm, hfr, hlo⟩ := hcx
 have hd2 : decode c.code pc = .ok (.new idx, 3) := by rw [hby]; exact hd
 simp only [List.length_append, List.length_singleton, Nat.add_sub_cancel_left, qgrow, qsz] at hc1 hsl ⊢
 obtain ⟨T₁, h₁, X₁, e₁, E₁, A₁, D₁, -, st⟩ := newO X hx hZ hown (index := idx) (qw_nw W (pK m, idx) hm) ((qw_inst W)) ((qw_init W)) rfl (g := mkF mid pc C (S.map (qv ad))) rfl hd2 hc1 hsl
 have hsz : h₁.size = T.heap.size + 1 := by
  have q1 := X₁.heapSize
  have q2 : T.heap.size < h₁.size := A₁.lt
  have q3 : T.heap.size = n0 + (σ.length - k0) := hR.2.1
  rw [e₁] at q1
  have : n0 + (σ.length - k0) = s.heap.size + cells := hn
  omega
 refine ⟨T₁, locs, C, X₁, ?_, hF, hL, hC, fun target q => ?_⟩
 ·rw [e₁]
  refine QRep.push hR Ad E₁ hsz ⟨A₁, cDefL, fun k u hk hu => ?_⟩
  rw [cDefs k hk] at hu
  cases hu
  have e3 : qv ad (defaultValue (fTy k)) = defaultValue (fTy k) := by
   cases hq : defaultValue (fTy k) with
   | ref a => exact absurd hq (fDef k hk a)
   | _ => rfl
  rw [e3]
  exact D₁ (laid_of W hk) (fPrs k hk)
 ·refine st _ ?_
  have e2 : ad σ.length = T.heap.size := by rw [Ad.1 _ hR.1]; exact hR.2.1.symm
  simp only [List.map_cons, qv, e2] at q
  exact q
set_option maxHeartbeats 8000000 in
theorem QTri.step (Ad : QAd n0 ad) (W : QW Z a0) {st st' : QSt} (h : QTri l Z n0 ad m st' v σ') (hs : qstep m st = some st') : QTri l Z n0 ad m st v σ' := by
 obtain ⟨pc, L, S, σ⟩ := st
 unfold qstep at hs
 dsimp only at hs
 split at hs
 rotate_left
 ·cases hs
 rename_i i aux hc
 have hd := pDecN hc rfl
 have hr := pRest hc
 unfold qexec at hs
 split at hs
 ·-- aload_n
  obtain ⟨w, h1, h2, rfl⟩ := qload_inv hs
  obtain ⟨a, rfl⟩ := isR_inv h2
  exact QTri.stack h fun p e R s mid args below meth c T locs cells slots C target hx hZ hby hown X hR hL k => XS.aloadN X.here hx rfl (hb hby hd) (hL.2.1 _ _ h1) rfl k
 ·obtain ⟨w, h1, h2, rfl⟩ := qload_inv hs
  obtain ⟨a, rfl⟩ := isR_inv h2
  exact QTri.stack h fun p e R s mid args below meth c T locs cells slots C target hx hZ hby hown X hR hL k => XS.aload X.here hx rfl (hb hby hd) (hL.2.1 _ _ h1) rfl k
 ·obtain ⟨w, h1, h2, rfl⟩ := qload_inv hs
  obtain ⟨a, rfl⟩ := isI_inv h2
  exact QTri.stack h fun p e R s mid args below meth c T locs cells slots C target hx hZ hby hown X hR hL k => XS.iloadN X.here hx rfl (hb hby hd) (hL.2.1 _ _ h1) k
 ·obtain ⟨w, h1, h2, rfl⟩ := qload_inv hs
  obtain ⟨a, rfl⟩ := isI_inv h2
  exact QTri.stack h fun p e R s mid args below meth c T locs cells slots C target hx hZ hby hown X hR hL k => XS.iload X.here hx rfl (hb hby hd) (hL.2.1 _ _ h1) k
 ·obtain ⟨w, h1, h2, rfl⟩ := qload_inv hs
  obtain ⟨a, rfl⟩ := isJ_inv h2
  exact QTri.stack h fun p e R s mid args below meth c T locs cells slots C target hx hZ hby hown X hR hL k => XT.lloadN X.here hx rfl (hb hby hd) (hL.2.1 _ _ h1) k
 ·obtain ⟨w, h1, h2, rfl⟩ := qload_inv hs
  obtain ⟨a, rfl⟩ := isJ_inv h2
  exact QTri.stack h fun p e R s mid args below meth c T locs cells slots C target hx hZ hby hown X hR hL k => XT.lload X.here hx rfl (hb hby hd) (hL.2.1 _ _ h1) k
 ·cases hs -- iconst
  exact QTri.stack h fun p e R s mid args below meth c T locs cells slots C target hx hZ hby hown X hR hL k => XS.iconst X.here hx rfl (hb hby hd) k
 ·cases hs
  exact QTri.stack h fun p e R s mid args below meth c T locs cells slots C target hx hZ hby hown X hR hL k => XS.bipush X.here hx rfl (hb hby hd) k
 ·cases hs
  exact QTri.stack h fun p e R s mid args below meth c T locs cells slots C target hx hZ hby hown X hR hL k => XS.sipush X.here hx rfl (hb hby hd) k
 ·cases hs
  exact QTri.stack h fun p e R s mid args below meth c T locs cells slots C target hx hZ hby hown X hR hL k => XT.lconst X.here hx rfl (hb hby hd) k
 ·-- ldc
  unfold qldc at hs
  split at hs
  ·rename_i w hw
   cases hs
   obtain ⟨x, hx1, hx2⟩ := qw_cI W (pK m, _, aux) (mem_of_contains (show lkC.contains (pK m, _, aux) = true from hr))
   rw [show vget cK aux = some w from hw] at hx1
   cases hx1
   exact QTri.stack h fun p e R s mid args below meth c T locs cells slots C target hx hZ hby hown X hR hL k => X.ldcI hx hown (mv hZ hx2) rfl (hb hby hd) k
  ·cases hs
 ·unfold qldc at hs
  split at hs
  ·rename_i w hw
   cases hs
   obtain ⟨x, hx1, hx2⟩ := qw_cJ W (pK m, _, aux) (mem_of_contains (show lkD.contains (pK m, _, aux) = true from hr))
   rw [show vget cK aux = some w from hw] at hx1
   cases hx1
   exact QTri.stack h fun p e R s mid args below meth c T locs cells slots C target hx hZ hby hown X hR hL k => X.ldc2J hx hown (mv hZ hx2) rfl (hb hby hd) k
  ·cases hs
 ·-- istore_n
  obtain ⟨w, S', L', rfl, h2, h3, rfl⟩ := qstore_inv hs
  obtain ⟨a, rfl⟩ := isI_inv h2
  exact QTri.frame h fun p e R s mid args below meth c T locs cells slots C hcx X hR hL hC => by
   obtain ⟨D, d1, d2, d3⟩ := store_ok hL h3
   exact ⟨D, d2, d3.trans hC, fun target k => XS.istoreN X.here hcx.1 rfl (hb hcx.2.2.1 hd) rfl d1 k⟩
 ·obtain ⟨w, S', L', rfl, h2, h3, rfl⟩ := qstore_inv hs
  obtain ⟨a, rfl⟩ := isI_inv h2
  exact QTri.frame h fun p e R s mid args below meth c T locs cells slots C hcx X hR hL hC => by
   obtain ⟨D, d1, d2, d3⟩ := store_ok hL h3
   exact ⟨D, d2, d3.trans hC, fun target k => XS.istore X.here hcx.1 rfl (hb hcx.2.2.1 hd) rfl d1 k⟩
 ·obtain ⟨w, S', L', rfl, h2, h3, rfl⟩ := qstore_inv hs
  obtain ⟨a, rfl⟩ := isJ_inv h2
  exact QTri.frame h fun p e R s mid args below meth c T locs cells slots C hcx X hR hL hC => by
   obtain ⟨D, d1, d2, d3⟩ := store_ok hL h3
   exact ⟨D, d2, d3.trans hC, fun target k => XT.lstoreN X.here hcx.1 rfl (hb hcx.2.2.1 hd) rfl d1 k⟩
 ·obtain ⟨w, S', L', rfl, h2, h3, rfl⟩ := qstore_inv hs
  obtain ⟨a, rfl⟩ := isJ_inv h2
  exact QTri.frame h fun p e R s mid args below meth c T locs cells slots C hcx X hR hL hC => by
   obtain ⟨D, d1, d2, d3⟩ := store_ok hL h3
   exact ⟨D, d2, d3.trans hC, fun target k => XT.lstore X.here hcx.1 rfl (hb hcx.2.2.1 hd) rfl d1 k⟩
 ·obtain ⟨w, S', L', rfl, h2, h3, rfl⟩ := qstore_inv hs
  obtain ⟨a, rfl⟩ := isR_inv h2
  exact QTri.frame h fun p e R s mid args below meth c T locs cells slots C hcx X hR hL hC => by
   obtain ⟨D, d1, d2, d3⟩ := store_ok hL h3
   exact ⟨D, d2, d3.trans hC, fun target k => XS.astoreN X.here hcx.1 rfl (hb hcx.2.2.1 hd) rfl rfl d1 k⟩
 ·obtain ⟨w, S', L', rfl, h2, h3, rfl⟩ := qstore_inv hs
  obtain ⟨a, rfl⟩ := isR_inv h2
  exact QTri.frame h fun p e R s mid args below meth c T locs cells slots C hcx X hR hL hC => by
   obtain ⟨D, d1, d2, d3⟩ := store_ok hL h3
   exact ⟨D, d2, d3.trans hC, fun target k => XS.astore X.here hcx.1 rfl (hb hcx.2.2.1 hd) rfl rfl d1 k⟩
 ·-- iinc
  unfold qinc at hs
  split at hs
  ·rename_i x hx1
   split at hs
   ·rename_i L' hL'
    cases hs
    exact QTri.frame h fun p e R s mid args below meth c T locs cells slots C hcx X hR hL hC => by
     obtain ⟨D, d1, d2, d3⟩ := store_ok hL hL'
     exact ⟨D, d2, d3.trans hC, fun target k => XS.iinc X.here hcx.1 rfl (hb hcx.2.2.1 hd) (hL.2.1 _ _ hx1) d1 k⟩
   ·cases hs
  ·cases hs
 ·obtain ⟨x, y, S', rfl, rfl⟩ := qbin_inv hs -- iadd
  exact QTri.stack h fun p e R s mid args below meth c T locs cells slots C target hx hZ hby hown X hR hL k => XS.iadd X.here hx rfl (hb hby hd) rfl k
 ·obtain ⟨x, y, S', rfl, rfl⟩ := qbin_inv hs
  exact QTri.stack h fun p e R s mid args below meth c T locs cells slots C target hx hZ hby hown X hR hL k => XS.isub X.here hx rfl (hb hby hd) rfl k
 ·obtain ⟨x, y, S', rfl, rfl⟩ := qbin_inv hs
  exact QTri.stack h fun p e R s mid args below meth c T locs cells slots C target hx hZ hby hown X hR hL k => XS.imul X.here hx rfl (hb hby hd) rfl k
 ·obtain ⟨x, y, S', rfl, rfl⟩ := qbin_inv hs
  exact QTri.stack h fun p e R s mid args below meth c T locs cells slots C target hx hZ hby hown X hR hL k => XS.iand X.here hx rfl (hb hby hd) rfl k
 ·obtain ⟨x, y, S', rfl, rfl⟩ := qbin_inv hs
  exact QTri.stack h fun p e R s mid args below meth c T locs cells slots C target hx hZ hby hown X hR hL k => XT.ior X.here hx rfl (hb hby hd) rfl k
 ·obtain ⟨x, y, S', rfl, rfl⟩ := qbin_inv hs
  exact QTri.stack h fun p e R s mid args below meth c T locs cells slots C target hx hZ hby hown X hR hL k => XT.ixor X.here hx rfl (hb hby hd) rfl k
 ·obtain ⟨x, y, S', rfl, rfl⟩ := qbin_inv hs
  exact QTri.stack h fun p e R s mid args below meth c T locs cells slots C target hx hZ hby hown X hR hL k => XT.ishl X.here hx rfl (hb hby hd) rfl k
 ·obtain ⟨x, y, S', rfl, rfl⟩ := qbin_inv hs
  exact QTri.stack h fun p e R s mid args below meth c T locs cells slots C target hx hZ hby hown X hR hL k => XT.ishr X.here hx rfl (hb hby hd) rfl k
 ·obtain ⟨x, y, S', rfl, rfl⟩ := qbin_inv hs
  exact QTri.stack h fun p e R s mid args below meth c T locs cells slots C target hx hZ hby hown X hR hL k => XT.iushr X.here hx rfl (hb hby hd) rfl k
 ·obtain ⟨x, y, z, S', rfl, hz, rfl⟩ := qbino_inv hs -- idiv
  unfold qdiv at hz
  split at hz
  ·cases hz
  ·rename_i hy
   cases hz
   exact QTri.stack h fun p e R s mid args below meth c T locs cells slots C target hx hZ hby hown X hR hL k => XS.idiv X.here hx rfl (hb hby hd) rfl hy k
 ·obtain ⟨x, y, z, S', rfl, hz, rfl⟩ := qbino_inv hs
  unfold qrem at hz
  split at hz
  ·cases hz
  ·rename_i hy
   cases hz
   exact QTri.stack h fun p e R s mid args below meth c T locs cells slots C target hx hZ hby hown X hR hL k => iremM X hx rfl (hb hby hd) rfl hy k
 ·obtain ⟨x, S', rfl, rfl⟩ := quni_inv hs -- ineg
  exact QTri.stack h fun p e R s mid args below meth c T locs cells slots C target hx hZ hby hown X hR hL k => XS.ineg X.here hx rfl (hb hby hd) rfl k
 ·obtain ⟨x, S', rfl, rfl⟩ := quni_inv hs
  exact QTri.stack h fun p e R s mid args below meth c T locs cells slots C target hx hZ hby hown X hR hL k => XT.i2l X.here hx rfl (hb hby hd) rfl k
 ·obtain ⟨x, S', rfl, rfl⟩ := quni_inv hs
  exact QTri.stack h fun p e R s mid args below meth c T locs cells slots C target hx hZ hby hown X hR hL k => XT.i2b X.here hx rfl (hb hby hd) rfl k
 ·obtain ⟨x, S', rfl, rfl⟩ := quniJ_inv hs
  exact QTri.stack h fun p e R s mid args below meth c T locs cells slots C target hx hZ hby hown X hR hL k => XT.l2i X.here hx rfl (hb hby hd) rfl k
 ·obtain ⟨x, S', rfl, rfl⟩ := quniJ_inv hs
  exact QTri.stack h fun p e R s mid args below meth c T locs cells slots C target hx hZ hby hown X hR hL k => XT.lneg X.here hx rfl (hb hby hd) rfl k
 ·obtain ⟨x, y, S', rfl, rfl⟩ := qbinJ_inv hs
  exact QTri.stack h fun p e R s mid args below meth c T locs cells slots C target hx hZ hby hown X hR hL k => XT.ladd X.here hx rfl (hb hby hd) rfl k
 ·obtain ⟨x, y, S', rfl, rfl⟩ := qbinJ_inv hs
  exact QTri.stack h fun p e R s mid args below meth c T locs cells slots C target hx hZ hby hown X hR hL k => XT.lsub X.here hx rfl (hb hby hd) rfl k
 ·obtain ⟨x, y, S', rfl, rfl⟩ := qbinJ_inv hs
  exact QTri.stack h fun p e R s mid args below meth c T locs cells slots C target hx hZ hby hown X hR hL k => XT.lmul X.here hx rfl (hb hby hd) rfl k
 ·obtain ⟨x, y, S', rfl, rfl⟩ := qbinJ_inv hs
  exact QTri.stack h fun p e R s mid args below meth c T locs cells slots C target hx hZ hby hown X hR hL k => XT.land X.here hx rfl (hb hby hd) rfl k
 ·obtain ⟨x, y, S', rfl, rfl⟩ := qbinJ_inv hs
  exact QTri.stack h fun p e R s mid args below meth c T locs cells slots C target hx hZ hby hown X hR hL k => XT.lor X.here hx rfl (hb hby hd) rfl k
 ·obtain ⟨x, y, S', rfl, rfl⟩ := qbinJ_inv hs
  exact QTri.stack h fun p e R s mid args below meth c T locs cells slots C target hx hZ hby hown X hR hL k => XT.lxor X.here hx rfl (hb hby hd) rfl k
 ·obtain ⟨x, y, S', rfl, rfl⟩ := qshJ_inv hs
  exact QTri.stack h fun p e R s mid args below meth c T locs cells slots C target hx hZ hby hown X hR hL k => XT.lshl X.here hx rfl (hb hby hd) rfl k
 ·obtain ⟨x, y, S', rfl, rfl⟩ := qshJ_inv hs
  exact QTri.stack h fun p e R s mid args below meth c T locs cells slots C target hx hZ hby hown X hR hL k => XT.lshr X.here hx rfl (hb hby hd) rfl k
 ·obtain ⟨x, y, S', rfl, rfl⟩ := qshJ_inv hs
  exact QTri.stack h fun p e R s mid args below meth c T locs cells slots C target hx hZ hby hown X hR hL k => XT.lushr X.here hx rfl (hb hby hd) rfl k
 ·split at hs -- lcmp
  ·cases hs
   exact QTri.stack h fun p e R s mid args below meth c T locs cells slots C target hx hZ hby hown X hR hL k => XT.lcmp X.here hx rfl (hb hby hd) rfl k
  ·cases hs
 ·cases hs -- goto
  obtain ⟨t1, t2⟩ := qtgt_spec hr
  exact QTri.stack h fun p e R s mid args below meth c T locs cells slots C target hx hZ hby hown X hR hL k => XS.goto X.here hx rfl rfl (hb hby hd) t1 t2 k
 ·obtain ⟨x, S', rfl, rfl⟩ := qif_inv hs
  obtain ⟨t1, t2⟩ := qtgt_spec hr
  cases hh : ifCond.holds _ x with
  | true => rw [hh] at h; exact QTri.stack h fun p e R s mid args below meth c T locs cells slots C target hx hZ hby hown X hR hL k => XS.ifYes X.here hx rfl rfl (hb hby hd) rfl hh t1 t2 k
  | false => rw [hh] at h; exact QTri.stack h fun p e R s mid args below meth c T locs cells slots C target hx hZ hby hown X hR hL k => XS.ifNo X.here hx rfl (hb hby hd) rfl hh k
 ·obtain ⟨x, y, S', rfl, rfl⟩ := qicmp_inv hs
  obtain ⟨t1, t2⟩ := qtgt_spec hr
  cases hh : if_icmp.holds _ x y with
  | true => rw [hh] at h; exact QTri.stack h fun p e R s mid args below meth c T locs cells slots C target hx hZ hby hown X hR hL k => XS.icmpYes X.here hx rfl rfl (hb hby hd) rfl hh t1 t2 k
  | false => rw [hh] at h; exact QTri.stack h fun p e R s mid args below meth c T locs cells slots C target hx hZ hby hown X hR hL k => XS.icmpNo X.here hx rfl (hb hby hd) rfl hh k
 ·unfold qdup at hs
  split at hs
  ·cases hs
   exact QTri.stack h fun p e R s mid args below meth c T locs cells slots C target hx hZ hby hown X hR hL k => XS.dup X.here hx rfl (hb hby hd) rfl rfl k
  ·cases hs
   exact QTri.stack h fun p e R s mid args below meth c T locs cells slots C target hx hZ hby hown X hR hL k => XS.dup X.here hx rfl (hb hby hd) rfl rfl k
  ·cases hs
 ·unfold qdup2 at hs
  split at hs
  ·cases hs
   exact QTri.stack h fun p e R s mid args below meth c T locs cells slots C target hx hZ hby hown X hR hL k => XT.dup2 X.here hx rfl (hb hby hd) rfl rfl rfl k
  ·cases hs
   exact QTri.stack h fun p e R s mid args below meth c T locs cells slots C target hx hZ hby hown X hR hL k => XT.dup2 X.here hx rfl (hb hby hd) rfl rfl rfl k
  ·cases hs
   exact QTri.stack h fun p e R s mid args below meth c T locs cells slots C target hx hZ hby hown X hR hL k => XT.dup2L X.here hx rfl (hb hby hd) rfl k
  ·cases hs
 ·unfold qpop at hs
  split at hs
  ·cases hs
   exact QTri.stack h fun p e R s mid args below meth c T locs cells slots C target hx hZ hby hown X hR hL k => XT.pop X.here hx rfl (hb hby hd) rfl rfl k
  ·cases hs
   exact QTri.stack h fun p e R s mid args below meth c T locs cells slots C target hx hZ hby hown X hR hL k => XT.pop X.here hx rfl (hb hby hd) rfl rfl k
  ·cases hs
 ·exact QTri.getfield W h hc hs
 ·exact QTri.putfield Ad W h hc hs
 ·exact QTri.iaload h hc hs
 ·exact QTri.baload h hc hs
 ·exact QTri.laload h hc hs
 ·exact QTri.iastore Ad h hc hs
 ·exact QTri.bastore Ad h hc hs
 ·exact QTri.lastore Ad h hc hs
 ·exact QTri.alen h hc hs
 ·-- newarray
  unfold qnewA at hs
  split at hs
  ·split at hs
   ·obtain ⟨k, hk, hs⟩ := Option.bind_eq_some_iff.mp hs
    cases hs
    exact QTri.newArr (c := .inr (.inl (.int, List.replicate k 0))) Ad W hk hc (by simp [qsz]) (fun h' a cA A => ⟨_, A, by simp [newA, (qnew_inv hk).2.1]; exact Or.inr rfl⟩) h
   ·obtain ⟨k, hk, hs⟩ := Option.bind_eq_some_iff.mp hs
    cases hs
    exact QTri.newArr (c := .inr (.inl (.boolean, List.replicate k 0))) Ad W hk hc (by simp [qsz]) (fun h' a cA A => ⟨_, A, by simp [newA, (qnew_inv hk).2.1]; exact Or.inr rfl⟩) h
   ·obtain ⟨k, hk, hs⟩ := Option.bind_eq_some_iff.mp hs
    cases hs
    exact QTri.newArr (c := .inr (.inl (.byte, List.replicate k 0))) Ad W hk hc (by simp [qsz]) (fun h' a cA A => ⟨_, A, by simp [newA, (qnew_inv hk).2.1]; exact Or.inr rfl⟩) h
   ·obtain ⟨k, hk, hs⟩ := Option.bind_eq_some_iff.mp hs
    cases hs
    exact QTri.newArr (c := .inr (.inr (List.replicate k 0))) Ad W hk hc (by simp [qsz]) (fun h' a cA A => ⟨_, A, by simp [newA, (qnew_inv hk).2.1]; exact Or.inr rfl⟩) h
   ·cases hs
  ·cases hs
 ·cases hs; exact QTri.newObj Ad W h hc
 ·cases hs
theorem QTri.steps (Ad : QAd n0 ad) (W : QW Z a0) : ∀ (n : Nat) {st st' : QSt}, qsteps m n st = some st' → QTri l Z n0 ad m st' v σ' → QTri l Z n0 ad m st v σ'
 | 0, st, st', h, k => by cases h; exact k
 | n + 1, st, st', h, k => by
  simp only [qsteps] at h
  split at h
  ·rename_i st₁ h1
   exact QTri.step Ad W (QTri.steps Ad W n h k) h1
  ·cases h
def lmask : List Bool → QLoc → QLoc
 | b :: t, x :: u => (bif b then x else none) :: lmask t u
 | _, L => L.map fun _ => none
theorem lmask_len : ∀ (b : List Bool) (L : QLoc), (lmask b L).length = L.length
 | [], L => by simp [lmask]
 | _ :: _, [] => by simp [lmask]
 | _ :: t, _ :: u => by simp [lmask, lmask_len t u]
theorem lmask_get : ∀ (b : List Bool) (L : QLoc) (k : Nat) (v : Value), lget (lmask b L) k = some v → lget L k = some v
 | [], L, k, v, h => by
  simp only [lmask, lget_eq, List.getElem?_map] at h
  cases hq : L[k]? <;> simp [hq] at h
 | _ :: _, [], k, v, h => by simp [lmask, lget] at h
 | b :: t, x :: u, 0, v, h => by
  simp only [lmask, lget] at h ⊢
  cases b
  ·cases h
  ·exact h
 | b :: t, x :: u, k + 1, v, h => by
  simp only [lmask, lget] at h ⊢
  exact lmask_get t u k v h
theorem QTri.mask {pc : Nat} {L : QLoc} {S : List Value} {σ : QHeap} (b : List Bool) (h : QTri l Z n0 ad m (pc, lmask b L, S, σ) v σ') : QTri l Z n0 ad m (pc, L, S, σ) v σ' :=
 QTri.frame h fun p e R s mid args below meth c T locs cells slots C hcx X hR hL hC => ⟨C, ⟨by rw [lmask_len]; exact hL.1, fun k u hk => hL.2.1 k u (lmask_get b L k u hk), hL.2.2⟩, hC, fun target k => k⟩
theorem QTri.ret0 {pc aux : Nat} {L : QLoc} {σ : QHeap} (hc : pCode m pc = some (.return_, aux)) (hr : pRet m = none) : QTri l Z n0 ad m (pc, L, [], σ) none σ :=
 have hd : decode (pBytes m) pc = .ok (.return_, 1) := pDecN hc rfl
 ⟨Nat.le_refl _, Nat.le_refl _, fun p e R s mid args below meth c T locs cells slots C hcx X hR hF hL hC hn hc1 hsl => ⟨T, locs, by simpa using X, hR, hF, fun fs hf => X.returnOut hcx.1 (hcx.2.2.2.2.1.trans hr) (hb hcx.2.2.1 hd) hf⟩⟩
theorem QTri.retI {pc aux : Nat} {L : QLoc} {S : List Value} {σ : QHeap} {x : Int32} (hc : pCode m pc = some (.ireturn, aux)) (hr : pRet m = some .int) : QTri l Z n0 ad m (pc, L, .int x :: S, σ) (some (.int x)) σ :=
 have hd : decode (pBytes m) pc = .ok (.ireturn, 1) := pDecN hc rfl
 ⟨Nat.le_refl _, Nat.le_refl _, fun p e R s mid args below meth c T locs cells slots C hcx X hR hF hL hC hn hc1 hsl => ⟨T, locs, by simpa using X, hR, hF, fun fs hf => Jvm.RoadKit.retI X hcx.1 (hcx.2.2.2.2.1.trans hr) (hb hcx.2.2.1 hd) hf⟩⟩
theorem QTri.retZ {pc aux : Nat} {L : QLoc} {S : List Value} {σ : QHeap} {x : Int32} (hc : pCode m pc = some (.ireturn, aux)) (hr : pRet m = some .boolean) : QTri l Z n0 ad m (pc, L, .int x :: S, σ) (some (.int (x &&& 1))) σ :=
 have hd : decode (pBytes m) pc = .ok (.ireturn, 1) := pDecN hc rfl
 ⟨Nat.le_refl _, Nat.le_refl _, fun p e R s mid args below meth c T locs cells slots C hcx X hR hF hL hC hn hc1 hsl => ⟨T, locs, by simpa using X, hR, hF, fun fs hf => retN X hcx.1 (t := .boolean) (hcx.2.2.2.2.1.trans hr) (by simp) (hb hcx.2.2.1 hd) hf⟩⟩
theorem QTri.retJ {pc aux : Nat} {L : QLoc} {S : List Value} {σ : QHeap} {x : Int64} (hc : pCode m pc = some (.lreturn, aux)) (hr : pRet m = some .long) : QTri l Z n0 ad m (pc, L, .long x :: S, σ) (some (.long x)) σ :=
 have hd : decode (pBytes m) pc = .ok (.lreturn, 1) := pDecN hc rfl
 ⟨Nat.le_refl _, Nat.le_refl _, fun p e R s mid args below meth c T locs cells slots C hcx X hR hF hL hC hn hc1 hsl => ⟨T, locs, by simpa using X, hR, hF, fun fs hf => retOut X hcx.1 (t := .long) (hcx.2.2.2.2.1.trans hr) rfl (Or.inr (Or.inl ⟨rfl, rfl, _, rfl⟩)) (hb hcx.2.2.1 hd) hf⟩⟩
def LOk (ad : Nat → Addr) (L : QLoc) (C : List Slot) : Prop :=
 L.length = C.length ∧ (∀ k v, lget L k = some v → C[k]? = some (.val (qv ad v))) ∧ (∀ k w, C[k]? = some (.val w) → w.category = 2 → C[k + 1]? = some .second) ∧ ∀ k, C[k]? = some .second → ∃ j w, k = j + 1 ∧ C[j]? = some (.val w) ∧ w.category = 2
theorem LOk.base (ad : Nat → Addr) (n : Nat) : LOk ad (List.replicate n none) (List.replicate n .unset) := by
 refine ⟨by simp, fun k u h => ?_, fun k w h => ?_, fun k h => ?_⟩
 ·rw [lget_eq] at h
  rcases Nat.lt_or_ge k n with q | q
  ·simp [List.getElem?_replicate, q] at h
  ·simp [List.getElem?_eq_none, q] at h
 ·rcases Nat.lt_or_ge k n with q | q
  ·simp [List.getElem?_replicate, q] at h
  ·simp [List.getElem?_eq_none, q] at h
 ·rcases Nat.lt_or_ge k n with q | q
  ·simp [List.getElem?_replicate, q] at h
  ·simp [List.getElem?_eq_none, q] at h
theorem LOk.one {L : QLoc} {C : List Slot} (H : LOk ad L C) {u : Value} (hu : u.category = 1) : LOk ad (some u :: L) (.val (qv ad u) :: C) := by
 obtain ⟨h1, h2, h3, h4⟩ := H
 refine ⟨by simp [h1], fun k w h => ?_, fun k w h hw => ?_, fun k h => ?_⟩
 ·cases k with
  | zero => simp only [lget] at h; cases h; simp
  | succ k => simp only [lget] at h; simpa using h2 k w h
 ·cases k with
  | zero => simp at h; rw [← h, qv_cat, hu] at hw; cases hw
  | succ k => simpa using h3 k w (by simpa using h) hw
 ·cases k with
  | zero => simp at h
  | succ k =>
   obtain ⟨j, w, z1, z2, z3⟩ := h4 k (by simpa using h)
   exact ⟨j + 1, w, by omega, by simpa using z2, z3⟩
theorem LOk.two {L : QLoc} {C : List Slot} (H : LOk ad L C) {u : Value} (hu : u.category = 2) : LOk ad (some u :: none :: L) (.val (qv ad u) :: .second :: C) := by
 obtain ⟨h1, h2, h3, h4⟩ := H
 refine ⟨by simp [h1], fun k w h => ?_, fun k w h hw => ?_, fun k h => ?_⟩
 ·rcases k with _ | _ | k
  ·simp only [lget] at h; cases h; simp
  ·simp [lget] at h
  ·simp only [lget] at h; simpa using h2 k w h
 ·rcases k with _ | _ | k
  ·simp
  ·simp at h
  ·simpa using h3 k w (by simpa using h) hw
 ·rcases k with _ | _ | k
  ·simp at h
  ·exact ⟨0, qv ad u, rfl, by simp, by rw [qv_cat]; exact hu⟩
  ·obtain ⟨j, w, z1, z2, z3⟩ := h4 k (by simpa using h)
   exact ⟨j + 2, w, by omega, by simpa using z2, z3⟩
def slotsOf (u : Value) : List Slot := if u.category = 2 then [.val u, .second] else [.val u]
theorem fold_slots : ∀ (as : List Value) (acc : Array Slot), (as.foldl (fun acc v => if v.category = 2 then (acc.push (.val v)).push .second else acc.push (.val v)) acc).toList = acc.toList ++ as.flatMap slotsOf
 | [], acc => by simp
 | u :: t, acc => by
  rw [List.foldl_cons, fold_slots t]
  by_cases hc : u.category = 2 <;> simp [slotsOf, hc]
theorem slots_len : ∀ (as : List Value), (as.flatMap slotsOf).length = (as.map fun v => v.category).sum
 | [] => rfl
 | u :: t => by
  rw [List.flatMap_cons, List.length_append, slots_len t, List.map_cons, List.sum_cons]
  cases u <;> simp [slotsOf, Value.category]
theorem cats_qv (as : List Value) : ((as.map (qv ad)).map fun v => v.category).sum = (as.map fun v => v.category).sum := by
 rw [List.map_map]
 congr 1
 exact List.map_congr_left fun x _ => qv_cat ad x
theorem entry_list : ∀ (as : List Value) (n : Nat), LOk ad ((as.flatMap fun v => match v with | .long x => [some (.long x), none] | .double x => [some (.double x), none] | v => [some v]) ++ List.replicate n none) ((as.map (qv ad)).flatMap slotsOf ++ List.replicate n .unset)
 | [], n => by simpa using LOk.base ad n
 | u :: t, n => by
  have ih := entry_list t n
  cases u with
  | long x => exact LOk.two ih rfl
  | double x => exact LOk.two ih rfl
  | int x => exact LOk.one ih rfl
  | float x => exact LOk.one ih rfl
  | null => exact LOk.one ih rfl
  | ref x => exact LOk.one ih rfl
  | retAddr x => exact LOk.one ih rfl
theorem qentry_ok (as : List Value) (mx : Nat) (h : (as.map fun v => v.category).sum ≤ mx) : QLocOk ad (qentry as mx) (argsToLocals (as.map (qv ad)).toArray mx) ∧ (argsToLocals (as.map (qv ad)).toArray mx).size = mx := by
 have e : (argsToLocals (as.map (qv ad)).toArray mx).toList = (as.map (qv ad)).flatMap slotsOf ++ List.replicate (mx - (as.map fun v => v.category).sum) .unset := by
  unfold argsToLocals
  have q := fold_slots (as.map (qv ad)) #[]
  simp only [List.foldl_toArray', Array.toList_append, Array.toList_replicate]
  have q2 : ((as.map (qv ad)).foldl (fun (acc : Array Slot) (v : Value) => if v.category = 2 then (acc.push (.val v)).push .second else acc.push (.val v)) #[]).size = (as.map fun v => v.category).sum := by
   rw [← Array.length_toList, q]
   simp only [List.nil_append]
   rw [slots_len, cats_qv]
  rw [q, q2]
  simp
 have H := entry_list (ad := ad) as (mx - (as.map fun v => v.category).sum)
 rw [← e] at H
 obtain ⟨h1, h2, h3, h4⟩ := H
 have hs : (argsToLocals (as.map (qv ad)).toArray mx).size = mx := by
  rw [← Array.length_toList, e, List.length_append, slots_len, cats_qv, List.length_replicate]
  omega
 refine ⟨⟨h1.trans Array.length_toList, fun k u hk => ?_, fun k w hk hw => ?_, fun k hk => ?_⟩, hs⟩
 ·have := h2 k u hk; rwa [Array.getElem?_toList] at this
 ·have := h3 k w (by rw [Array.getElem?_toList]; exact hk) hw; rwa [Array.getElem?_toList] at this
 ·obtain ⟨j, w, z1, z2, z3⟩ := h4 k (by rw [Array.getElem?_toList]; exact hk)
  exact ⟨j, w, z1, by rwa [Array.getElem?_toList] at z2, z3⟩
set_option maxHeartbeats 4000000 in
theorem QTri.met {k : Nat} {as : List Value} {σ σ₁ : QHeap} {w : Option Value} {h0 : Heap} (hk : k < pN) (h : QTri l Z n0 ad k (0, qentry as (pMaxL k), [], σ) w σ₁) (hR : QRep Z n0 ad h0 σ) (hlen : (as.map fun v => v.category).sum ≤ pMaxL k) (hret : pRet k = none → w = none) (ws : List Jvm.Cond) {rm : Room}
  (r1 : pFr k ≤ rm.frames) (r2 : pLo k ≤ rm.locals) (r3 : σ₁.length - σ.length ≤ rm.cells) (r4 : qhs σ₁ - qhs σ ≤ rm.slots) :
  MetFree l (pName k) (head1 (Jvm.Cond.code (pName k) (pBytes k) (pMaxL k) (pRet k) :: ws) rm) (fun a U => a = (as.map (qv ad)).toArray ∧ Z.Warmed39 U.vm ∧ U.heap = h0) (fun _ _ _ _ _ => True)
   (fun _ U o U' => ∃ v L, o = .returned v ∧ (v = w.map (qv ad) ∧ QRep Z n0 ad U'.heap σ₁ ∧ Fr n0 L) ∧ FrameEnd U o U' L (σ₁.length - σ.length) (qhs σ₁ - qhs σ)) := by
 refine MetFree.of_bodySF (plainFor_of_name (kPlain _ (pKlt k hk))) hisR ?_
 intro p e s mid args below meth c s₁ Bd hml0 hP hK
 obtain ⟨rfl, hZ, hh⟩ := hP
 have e0 : s₁.heap = h0 := by rw [← hh, Bd.state]; rfl
 obtain ⟨hl1, hl2⟩ := qentry_ok (ad := ad) as (pMaxL k) hlen
 have hX : Stand p l e rm s mid (as.map (qv ad)).toArray below meth c s₁ [] 0 0 := Stand.of_body Bd
 obtain ⟨T', locs', X', R', F', S'⟩ := h.2.2 p e rm s mid _ below meth c s₁ [] 0 0 _ ⟨Bd.exec, hZ, Bd.bytes, hml0, Bd.returns, findClass_of_methodNamed Bd.named, (name_of_methodNamed Bd.named Bd.method).1, r1, r2⟩ hX (by rw [e0]; exact hR) (Fr.nil _) hl1 (hl2.trans hml0.symm) (by rw [hh, Nat.add_zero]; exact hR.2.1.symm) (by rw [Nat.zero_add]; exact r3) (by rw [Nat.zero_add]; exact r4)
 obtain ⟨fs, hr, hrun, hended, hW, hsame⟩ := X'.leave (v := w.map (qv ad)) (fun q => by rw [hret (Bd.returns.symm.trans q)]; rfl)
 refine ⟨_, _, S' fs hr, hrun, hended, _, _, rfl, ⟨rfl, R', F'⟩, ⟨_, rfl⟩, hW, ?_⟩
 simp only [Nat.zero_add] at hsame
 exact hsame
theorem QTri.room {k : Nat} {σ σ₁ : QHeap} {rest : List Value} {R : Room} (hroom : (Nat.ble (pFr k + 1) (pFr m) && Nat.ble ((rest.map fun v => v.category).sum + (pMaxL k + 11) + pLo k) (pLo m)) = true) (hfr : pFr m ≤ R.frames) (hlo : pLo m ≤ R.locals) :
  pFr k + 1 ≤ R.frames ∧ (rest.map fun v => v.category).sum + (pMaxL k + 11) + pLo k ≤ R.locals := by
 obtain ⟨q1, q2⟩ := Bool.and_eq_true_iff.mp hroom
 exact ⟨Nat.le_trans (Nat.le_of_ble_eq_true q1) hfr, Nat.le_trans (Nat.le_of_ble_eq_true q2) hlo⟩
theorem sig_len {k : Nat} (hk : k < pN) {as : List Value} (hna : as.length = pNA k) : ∀ sig, parseMethodDescriptor (pName k).desc = some sig → (as.map (qv ad)).length = sig.parameters.length := fun sig hs => by
 have q := pSig k hk
 rw [show parseMethodDescriptor (pDs k) = some sig from hs] at q
 simp at q
 simp [hna, q]
theorem ret_map (w : Option Value) (rest : List Value) : (w.toList ++ rest).map (qv ad) = (w.map (qv ad)).toList ++ rest.map (qv ad) := by cases w <;> simp
theorem QTri.after {as0 : List Value} {pc : Nat} {L : QLoc} {S rest : List Value} {σ σ₁ : QHeap} {w : Option Value} {k : Nat} (hcal : QTri l Z n0 ad k (0, qentry as0 (pMaxL k), [], σ) w σ₁) (h : QTri l Z n0 ad m (pc + 3, L, w.toList ++ rest, σ₁) v σ')
  (hs : ∀ (p : Program) (e : Env) (R : Room) (s : State) (mid : MethodId) (args : Array Value) (below : List Frame) (meth : Method) (c : Code) (T : State) (locs : List Loc) (cells slots : Nat) (C : Array Slot),
   QCx Z p R s mid meth c m → Stand p l e R s mid args below meth c T locs cells slots → QRep Z n0 ad T.heap σ → C.size = c.maxLocals → cells + (σ₁.length - σ.length) ≤ R.cells → slots + (qhs σ₁ - qhs σ) ≤ R.slots →
   ∃ T₁ Lc, Stand p l e R s mid args below meth c T₁ (locs ++ Lc) (cells + (σ₁.length - σ.length)) (slots + (qhs σ₁ - qhs σ)) ∧ QRep Z n0 ad T₁.heap σ₁ ∧ Fr n0 Lc ∧
    ∀ target, Steps p.tables e below (T₁.setTop (mkF mid (pc + 3) C ((w.map (qv ad)).toList ++ rest.map (qv ad)))) target → Steps p.tables e below (T.setTop (mkF mid pc C (S.map (qv ad)))) target) :
  QTri l Z n0 ad m (pc, L, S, σ) v σ' := by
 refine QTri.gen h hcal.1 hcal.2.1 fun p e R s mid args below meth c T locs cells slots C hcx X hR hF hL hC hn hc1 hsl => ?_
 obtain ⟨T₁, Lc, X₁, R₁, F₁, st⟩ := hs p e R s mid args below meth c T locs cells slots C hcx X hR hC hc1 hsl
 refine ⟨T₁, locs ++ Lc, C, X₁, R₁, hF.app F₁, hL, hC, fun target q => st target ?_⟩
 rw [← ret_map]
 exact q
set_option maxHeartbeats 4000000 in
theorem QTri.callV (W : QW Z a0) {pc idx k a : Nat} {L : QLoc} {S as rest vs : List Value} {σ σ₁ : QHeap} {w : Option Value} (hc : pCode m pc = some (.invokevirtual idx, k)) (hm : (lkV.contains (pK m, idx, k) && mV.contains k) = true) (hcell : hget σ a = some (.inl vs)) (hS : S = as.reverse ++ .ref a :: rest)
  (hna : as.length = pNA k) (hlen : Nat.ble (((Value.ref a :: as).map fun v => v.category).sum) (pMaxL k) = true) (hroom : (Nat.ble (pFr k + 1) (pFr m) && Nat.ble ((rest.map fun v => v.category).sum + (pMaxL k + 11) + pLo k) (pLo m)) = true) (hrb : (w.isNone || (pRet k).isSome) = true)
  (hcal : QTri l Z n0 ad k (0, qentry (.ref a :: as) (pMaxL k), [], σ) w σ₁) (h : QTri l Z n0 ad m (pc + 3, L, w.toList ++ rest, σ₁) v σ') : QTri l Z n0 ad m (pc, L, S, σ) v σ' := by
 have hd : decode (pBytes m) pc = .ok (.invokevirtual idx, 3) := pDecN hc rfl
 subst hS
 obtain ⟨m1, m2⟩ := Bool.and_eq_true_iff.mp hm
 have m1 := mem_of_contains m1
 have m2 := mem_of_contains m2
 have hkA := (mVlt k m2).1
 have hkN := mAlt k hkA
 have hret : pRet k = none → w = none := fun q => by
  rw [q] at hrb
  cases w with
  | none => rfl
  | some w => simp at hrb
 refine QTri.after hcal h fun p e R s mid args below meth c T locs cells slots C hcx X hR hC hc1 hsl => ?_
 obtain ⟨hx, hZ, hby, hml, hret', hown, hnm, hfr, hlo⟩ := hcx
 have hd2 : decode c.code pc = .ok (.invokevirtual idx, 3) := by rw [hby]; exact hd
 obtain ⟨f1, f2⟩ := QTri.room (σ := σ) (σ₁ := σ₁) hroom hfr hlo
 obtain ⟨cq, kq, q1, q2, q3⟩ := isOf hZ rfl (hR.2.2 _ _ hcell).1
 obtain ⟨w1, w2, w3⟩ := (qw_vi W) k m2
 obtain ⟨c1, c2⟩ := (qw_cod W) k hkA
 obtain ⟨_, _, ⟨T₁, L₁, k₁, n₁⟩, -, X₁, ⟨Lc, ⟨rfl, hR1, hF1⟩, l₁, y₁, z₁⟩, st⟩ := X.virtualBack hx (own := kName (pK m)) (index := idx) (y := pName k) (z := pName k) hown (mvT hZ (qw_ml W (pK m, idx, k) m1)) (mvT hZ w1) (notFace_of_selects (args := #[]) (mvT hZ w2)) (mvT hZ w2) (mvT hZ w3) (pOwn _ (pKlt k hkN))
  (backOf (W := (rest.map fun v => v.category).sum) (rm := ⟨pFr k, σ₁.length - σ.length, qhs σ₁ - qhs σ, pLo k⟩) (Q := fun v h L => v = Option.map (qv ad) w ∧ QRep Z n0 ad h σ₁ ∧ Fr n0 L) (QTri.met hkN hcal hR (Nat.le_of_ble_eq_true hlen) hret [] (Nat.le_refl _) (Nat.le_refl _) (Nat.le_refl _) (Nat.le_refl _)) hZ c1 c2 f1 f2) q1 q3 (g := mkF mid pc C (List.map (qv ad) (as.reverse ++ .ref a :: rest))) rfl hC (Steps.refl _) (argsL := as.map (qv ad)) (rest := rest.map (qv ad)) (sig_len hkN hna) (by simp [qv]) (by show 2 * 0 + _ ≤ _; rw [cats_qv]; omega) hd2 (fun _ _ => ⟨rfl, rfl, hc1, hsl⟩)
 dsimp only [Pt.U, Pt.locs, Pt.cells, Pt.slots] at X₁ l₁ y₁ z₁ st hR1
 subst l₁ y₁ z₁
 exact ⟨T₁, Lc, X₁, hR1, hF1, fun target q => st.trans q⟩
set_option maxHeartbeats 4000000 in
theorem QTri.callI (W : QW Z a0) {pc idx k a : Nat} {L : QLoc} {S as rest : List Value} {σ σ₁ : QHeap} (hc : pCode m pc = some (.invokespecial idx, k)) (hm : (lkV.contains (pK m, idx, k) && mI.contains k) = true) (hS : S = as.reverse ++ .ref a :: rest)
  (hna : as.length = pNA k) (hlen : Nat.ble (((Value.ref a :: as).map fun v => v.category).sum) (pMaxL k) = true) (hroom : (Nat.ble (pFr k + 1) (pFr m) && Nat.ble ((rest.map fun v => v.category).sum + (pMaxL k + 11) + pLo k) (pLo m)) = true)
  (hcal : QTri l Z n0 ad k (0, qentry (.ref a :: as) (pMaxL k), [], σ) none σ₁) (h : QTri l Z n0 ad m (pc + 3, L, rest, σ₁) v σ') : QTri l Z n0 ad m (pc, L, S, σ) v σ' := by
 have hd : decode (pBytes m) pc = .ok (.invokespecial idx, 3) := pDecN hc rfl
 subst hS
 obtain ⟨m1, m2⟩ := Bool.and_eq_true_iff.mp hm
 have m1 := mem_of_contains m1
 have m2 := mem_of_contains m2
 obtain ⟨hkA, -, hin, hrt⟩ := mIlt k m2
 have hkN := mAlt k hkA
 refine QTri.after (w := none) hcal h fun p e R s mid args below meth c T locs cells slots C hcx X hR hC hc1 hsl => ?_
 obtain ⟨hx, hZ, hby, hml, hret', hown, hnm, hfr, hlo⟩ := hcx
 have hd2 : decode c.code pc = .ok (.invokespecial idx, 3) := by rw [hby]; exact hd
 obtain ⟨f1, f2⟩ := QTri.room (σ := σ) (σ₁ := σ₁) hroom hfr hlo
 obtain ⟨c1, c2⟩ := (qw_cod W) k hkA
 have c1' := c1
 rw [hrt] at c1'
 obtain ⟨_, _, ⟨T₁, L₁, k₁, n₁⟩, -, X₁, ⟨Lc, ⟨rfl, hR1, hF1⟩, l₁, y₁, z₁⟩, st⟩ := X.specialBack hx (own := kName (pK m)) (index := idx) (y := pName k) hin hown (mvT hZ (qw_ml W (pK m, idx, k) m1)) (mvT hZ ((qw_ini W) k m2)) (mvT hZ c1') (pOwn _ (pKlt k hkN))
  (backOf (W := (rest.map fun v => v.category).sum) (rm := ⟨pFr k, σ₁.length - σ.length, qhs σ₁ - qhs σ, pLo k⟩) (Q := fun v h L => v = Option.map (qv ad) none ∧ QRep Z n0 ad h σ₁ ∧ Fr n0 L) (QTri.met hkN hcal hR (Nat.le_of_ble_eq_true hlen) (fun _ => rfl) [] (Nat.le_refl _) (Nat.le_refl _) (Nat.le_refl _) (Nat.le_refl _)) hZ c1 c2 f1 f2) (g := mkF mid pc C (List.map (qv ad) (as.reverse ++ .ref a :: rest))) rfl hC (Steps.refl _) (a := ad a) (argsL := as.map (qv ad)) (rest := rest.map (qv ad)) (sig_len hkN hna) (by simp [qv]) (by show 2 * 0 + _ ≤ _; rw [cats_qv]; omega) hd2 (fun _ _ => ⟨rfl, rfl, hc1, hsl⟩)
 dsimp only [Pt.U, Pt.locs, Pt.cells, Pt.slots] at X₁ l₁ y₁ z₁ st hR1
 subst l₁ y₁ z₁
 exact ⟨T₁, Lc, X₁, hR1, hF1, fun target q => st.trans q⟩
set_option maxHeartbeats 4000000 in
theorem QTri.callP (W : QW Z a0) {pc idx k a : Nat} {L : QLoc} {S as rest vs : List Value} {σ σ₁ : QHeap} {w : Option Value} (hc : pCode m pc = some (.invokevirtual idx, k)) (hm : (lkV.contains (pK m, idx, k) && mP.contains k) = true) (hcell : hget σ a = some (.inl vs)) (hS : S = as.reverse ++ .ref a :: rest)
  (hna : as.length = pNA k) (hlen : Nat.ble (((Value.ref a :: as).map fun v => v.category).sum) (pMaxL k) = true) (hroom : (Nat.ble (pFr k + 1) (pFr m) && Nat.ble ((rest.map fun v => v.category).sum + (pMaxL k + 11) + pLo k) (pLo m)) = true) (hrb : (w.isNone || (pRet k).isSome) = true)
  (hcal : QTri l Z n0 ad k (0, qentry (.ref a :: as) (pMaxL k), [], σ) w σ₁) (h : QTri l Z n0 ad m (pc + 3, L, w.toList ++ rest, σ₁) v σ') : QTri l Z n0 ad m (pc, L, S, σ) v σ' := by
 have hd : decode (pBytes m) pc = .ok (.invokevirtual idx, 3) := pDecN hc rfl
 subst hS
 obtain ⟨m1, m2⟩ := Bool.and_eq_true_iff.mp hm
 have m1 := mem_of_contains m1
 have m2 := mem_of_contains m2
 obtain ⟨hkA, hk1⟩ := mPlt k m2
 have hkN := mAlt k hkA
 have hret : pRet k = none → w = none := fun q => by
  rw [q] at hrb
  cases w with
  | none => rfl
  | some w => simp at hrb
 refine QTri.after hcal h fun p e R s mid args below meth c T locs cells slots C hcx X hR hC hc1 hsl => ?_
 obtain ⟨hx, hZ, hby, hml, hret', hown, hnm, hfr, hlo⟩ := hcx
 have hd2 : decode c.code pc = .ok (.invokevirtual idx, 3) := by rw [hby]; exact hd
 obtain ⟨f1, f2⟩ := QTri.room (σ := σ) (σ₁ := σ₁) hroom hfr hlo
 obtain ⟨cell, h1, h2⟩ := (hR.2.2 _ _ hcell).1.cell
 obtain ⟨w1, w2⟩ := (qw_pr W) k m2
 obtain ⟨c1, c2⟩ := (qw_cod W) k hkA
 have hpr : s.PrivateAt (pName k) := Cond.privateMethod_at (mvP hZ w2 (args := #[]))
 obtain ⟨cC, kC, i1, i2, i3, i4⟩ := Cond.instantiable_spec (args := #[]) (mvT hZ (qw_inst W))
 have hsel : (Cond.selects (pName k).cls (pName k) (pName k)).before args s = true := selects_self_of_private (c := cC) (k := kC) (by show s.vm.findClass (kName (pK k)) = _; rw [hk1]; exact i1) i2 (by have q := i4.1; cases hq : kC.isInterface with | false => rfl | true => rw [hq] at q; simp at q) hpr (mvT hZ w1) (pOwn _ (pKlt k hkN))
 obtain ⟨_, _, ⟨T₁, L₁, k₁, n₁⟩, -, X₁, ⟨Lc, ⟨rfl, hR1, hF1⟩, l₁, y₁, z₁⟩, st⟩ := X.privateBack hx (own := kName (pK m)) (index := idx) (y := pName k) hown (mvT hZ (qw_ml W (pK m, idx, k) m1)) (mvT hZ w1) hsel hpr (mvT hZ c1) (pOwn _ (pKlt k hkN))
  (backOf (W := (rest.map fun v => v.category).sum) (rm := ⟨pFr k, σ₁.length - σ.length, qhs σ₁ - qhs σ, pLo k⟩) (Q := fun v h L => v = Option.map (qv ad) w ∧ QRep Z n0 ad h σ₁ ∧ Fr n0 L) (QTri.met hkN hcal hR (Nat.le_of_ble_eq_true hlen) hret [] (Nat.le_refl _) (Nat.le_refl _) (Nat.le_refl _) (Nat.le_refl _)) hZ c1 c2 f1 f2) (g := mkF mid pc C (List.map (qv ad) (as.reverse ++ .ref a :: rest))) rfl hC (Steps.refl _) (a := ad a) h1 h2 (argsL := as.map (qv ad)) (rest := rest.map (qv ad)) (sig_len hkN hna) (by simp [qv]) (by show 2 * 0 + _ ≤ _; rw [cats_qv]; omega) hd2 (fun _ _ => ⟨rfl, rfl, hc1, hsl⟩)
 dsimp only [Pt.U, Pt.locs, Pt.cells, Pt.slots] at X₁ l₁ y₁ z₁ st hR1
 subst l₁ y₁ z₁
 exact ⟨T₁, Lc, X₁, hR1, hF1, fun target q => st.trans q⟩
set_option maxHeartbeats 4000000 in
theorem QTri.callS (W : QW Z a0) {pc idx k : Nat} {L : QLoc} {S as rest : List Value} {σ σ₁ : QHeap} {w : Option Value} (hc : pCode m pc = some (.invokestatic idx, k)) (hm : (lkV.contains (pK m, idx, k) && mS.contains k) = true) (hS : S = as.reverse ++ rest)
  (hna : as.length = pNA k) (hlen : Nat.ble ((as.map fun v => v.category).sum) (pMaxL k) = true) (hroom : (Nat.ble (pFr k + 1) (pFr m) && Nat.ble ((rest.map fun v => v.category).sum + (pMaxL k + 11) + pLo k) (pLo m)) = true) (hrb : (w.isNone || (pRet k).isSome) = true)
  (hcal : QTri l Z n0 ad k (0, qentry as (pMaxL k), [], σ) w σ₁) (h : QTri l Z n0 ad m (pc + 3, L, w.toList ++ rest, σ₁) v σ') : QTri l Z n0 ad m (pc, L, S, σ) v σ' := by
 have hd : decode (pBytes m) pc = .ok (.invokestatic idx, 3) := pDecN hc rfl
 subst hS
 obtain ⟨m1, m2⟩ := Bool.and_eq_true_iff.mp hm
 have m1 := mem_of_contains m1
 have m2 := mem_of_contains m2
 have hkA := mSlt k m2
 have hkN := mAlt k hkA
 have hret : pRet k = none → w = none := fun q => by
  rw [q] at hrb
  cases w with
  | none => rfl
  | some w => simp at hrb
 refine QTri.after hcal h fun p e R s mid args below meth c T locs cells slots C hcx X hR hC hc1 hsl => ?_
 obtain ⟨hx, hZ, hby, hml, hret', hown, hnm, hfr, hlo⟩ := hcx
 have hd2 : decode c.code pc = .ok (.invokestatic idx, 3) := by rw [hby]; exact hd
 obtain ⟨f1, f2⟩ := QTri.room (σ := σ) (σ₁ := σ₁) hroom hfr hlo
 obtain ⟨c1, c2⟩ := (qw_cod W) k hkA
 obtain ⟨_, _, ⟨T₁, L₁, k₁, n₁⟩, -, X₁, ⟨Lc, ⟨rfl, hR1, hF1⟩, l₁, y₁, z₁⟩, st⟩ := Jvm.LawKit.callS X hx (own := kName (pK m)) (index := idx) (y := pName k) hown (mvT hZ (qw_ml W (pK m, idx, k) m1)) (mvT hZ ((qw_st W) k m2)) (mvT hZ c2) (mvT hZ c1) (pOwn _ (pKlt k hkN))
  (backOf (W := (rest.map fun v => v.category).sum) (rm := ⟨pFr k, σ₁.length - σ.length, qhs σ₁ - qhs σ, pLo k⟩) (Q := fun v h L => v = Option.map (qv ad) w ∧ QRep Z n0 ad h σ₁ ∧ Fr n0 L) (QTri.met hkN hcal hR (Nat.le_of_ble_eq_true hlen) hret [] (Nat.le_refl _) (Nat.le_refl _) (Nat.le_refl _) (Nat.le_refl _)) hZ c1 c2 f1 f2) (g := mkF mid pc C (List.map (qv ad) (as.reverse ++ rest))) rfl hC (argsL := as.map (qv ad)) (rest := rest.map (qv ad)) (sig_len hkN hna) (by simp) (by show 2 * 0 + _ ≤ _; rw [cats_qv]; omega) hd2 (fun _ _ => ⟨rfl, rfl, hc1, hsl⟩)
 dsimp only [Pt.U, Pt.locs, Pt.cells, Pt.slots] at X₁ l₁ y₁ z₁ st hR1
 subst l₁ y₁ z₁
 exact ⟨T₁, Lc, X₁, hR1, hF1, fun target q => st target q⟩
set_option maxHeartbeats 4000000 in
theorem QTri.callO (W : QW Z a0) {pc idx k a : Nat} {L : QLoc} {rest : List Value} {σ : QHeap} (hc : pCode m pc = some (.invokespecial idx, k)) (hm : lkO.contains (pK m, idx) = true) (hroom : (Nat.ble 1 (pFr m) && Nat.ble ((rest.map fun v => v.category).sum + 12) (pLo m)) = true)
  (h : QTri l Z n0 ad m (pc + 3, L, rest, σ) v σ') : QTri l Z n0 ad m (pc, L, .ref a :: rest, σ) v σ' :=
 have hd : decode (pBytes m) pc = .ok (.invokespecial idx, 3) := pDecN hc rfl
 QTri.pure h rfl fun p e R s mid args below meth c T locs cells slots C hcx X hR hL hC => by
  obtain ⟨hx, hZ, hby, hml, hret', hown, hnm, hfr, hlo⟩ := hcx
  have hd2 : decode c.code pc = .ok (.invokespecial idx, 3) := by rw [hby]; exact hd
  obtain ⟨q1, q2⟩ := Bool.and_eq_true_iff.mp hroom
  obtain ⟨T₁, X₁, e₁, st⟩ := initO X hx hZ hown (idx := idx) (qw_mo W (pK m, idx) (mem_of_contains hm)) ((qw_oi W)) ((qw_oc W)) rfl (g := mkF mid pc C (List.map (qv ad) (.ref a :: rest))) rfl hC rfl hd2 (Nat.le_trans (Nat.le_of_ble_eq_true q1) hfr) (W := (rest.map fun v => v.category).sum) (by show 2 * 0 + _ ≤ _; rw [cats_qv]; omega) (Nat.le_trans (Nat.le_of_ble_eq_true q2) hlo)
  exact ⟨T₁, C, X₁, e₁, hL, hC, st⟩
theorem QTri.brT (Ad : QAd n0 ad) (W : QW Z a0) {st : QSt} {t f : Nat} {L : QLoc} {S : List Value} {σ : QHeap} {b : Bool} (hs : qstep m st = some (bif b then t else f, L, S, σ)) (hb : b = true) (h : QTri l Z n0 ad m (t, L, S, σ) v σ') : QTri l Z n0 ad m st v σ' := by
 subst hb; exact QTri.step Ad W h hs
theorem QTri.brF (Ad : QAd n0 ad) (W : QW Z a0) {st : QSt} {t f : Nat} {L : QLoc} {S : List Value} {σ : QHeap} {b : Bool} (hs : qstep m st = some (bif b then t else f, L, S, σ)) (hb : b = false) (h : QTri l Z n0 ad m (f, L, S, σ) v σ') : QTri l Z n0 ad m st v σ' := by
 subst hb; exact QTri.step Ad W h hs
theorem QTri.bnd {α : Type} (Ad : QAd n0 ad) (W : QW Z a0) {st : QSt} {x : Option α} {f : α → QSt} {a : α} (hs : qstep m st = x.bind fun v => some (f v)) (hx : x = some a) (h : QTri l Z n0 ad m (f a) v σ') : QTri l Z n0 ad m st v σ' :=
 QTri.step Ad W h (by rw [hs, hx]; rfl)
theorem QTri.bndB (Ad : QAd n0 ad) (W : QW Z a0) {st : QSt} {x y : Int32} {g : Value → QSt} (hs : qstep m st = ((qboo x).bind fun y => some (Value.int y)).bind fun w => some (g w)) (hx : qboo x = some y) (h : QTri l Z n0 ad m (g (.int y)) v σ') : QTri l Z n0 ad m st v σ' :=
 QTri.step Ad W h (by rw [hs, hx]; rfl)
end Triples
theorem qite {α : Type} {c : Prop} [Decidable c] {a b : Option α} {r : α} (h : (if c then a else b) = some r) : (c ∧ a = some r) ∨ (¬ c ∧ b = some r) := by
 by_cases hc : c
 ·exact Or.inl ⟨hc, by rwa [if_pos hc] at h⟩
 ·exact Or.inr ⟨hc, by rwa [if_neg hc] at h⟩
def qN : Nat := 4000
def loopN {V E : Type} (B : V → Option (E ⊕ V)) : Nat → V → Option E
 | 0, _ => none
 | n + 1, v => match B v with
  | none => none
  | some (.inl e) => some e
  | some (.inr v') => loopN B n v'
theorem loopN_tri {V E : Type} {B : V → Option (E ⊕ V)} {T : V → Prop} {KE : E → Prop} (hB : ∀ v r, B v = some r → (∀ e, r = .inl e → KE e) → (∀ v', r = .inr v' → T v') → T v) : ∀ (n : Nat) (v : V) (e : E), loopN B n v = some e → KE e → T v
 | 0, _, _, h, _ => by cases h
 | n + 1, v, e, h, k => by
  simp only [loopN] at h
  split at h
  ·cases h
  ·rename_i e' he
   cases h
   exact hB v _ he (fun e q => by cases q; exact k) (fun v' q => by cases q)
  ·rename_i v' he
   exact hB v _ he (fun e q => by cases q) (fun v'' q => by cases q; exact loopN_tri hB n v' e h k)
theorem loopN_inv {V E : Type} {B : V → Option (E ⊕ V)} (I : V → Prop) (P : E → Prop) (μ : V → Nat) (hB : ∀ v, I v → (∃ e, B v = some (.inl e) ∧ P e) ∨ ∃ v', B v = some (.inr v') ∧ I v' ∧ μ v' < μ v) : ∀ (n : Nat) (v : V), I v → μ v < n → ∃ e, loopN B n v = some e ∧ P e
 | 0, _, _, h => absurd h (Nat.not_lt_zero _)
 | n + 1, v, hv, hm => by
  rcases hB v hv with ⟨e, h1, h2⟩ | ⟨v', h1, h2, h3⟩
  ·exact ⟨e, by simp only [loopN, h1], h2⟩
  ·obtain ⟨e, g1, g2⟩ := loopN_inv I P μ hB n v' h2 (by omega)
   exact ⟨e, by simp only [loopN, h1]; exact g1, g2⟩
theorem qfn {α : Type} {P : α → Prop} : ∀ t ∈ ([] : List α), P t := fun _ h => nomatch h
theorem qfc {α : Type} {P : α → Prop} {a : α} {t : List α} (h : P a) (ht : ∀ x ∈ t, P x) : ∀ x ∈ a :: t, P x := fun x hx => by rcases List.mem_cons.mp hx with rfl | q; exact h; exact ht x q
theorem QW_ok {Z : State} {a0 : Array Value} (hw : ∀ d ∈ tables_1, d.before a0 Z = true) : QW Z a0 := by
  have w0 : ∀ k ∈ List.range nF, bif fFin k then (Jvm.Cond.laysFinal cName cName (fNm k) (fDs k)).before a0 Z = true else (Jvm.Cond.lays cName cName (fNm k) (fDs k)).before a0 Z = true :=
    show ∀ k ∈ [0, 1, 2, 3, 4, 5, 6, 7, 8, 9, 10, 11, 12, 13, 14, 15, 16, 17], bif fFin k then (Jvm.Cond.laysFinal cName cName (fNm k) (fDs k)).before a0 Z = true else (Jvm.Cond.lays cName cName (fNm k) (fDs k)).before a0 Z = true from
    (qfc (hw _ (List.mem_of_getElem? (i := 10) rfl)) (qfc (hw _ (List.mem_of_getElem? (i := 12) rfl)) (qfc (hw _ (List.mem_of_getElem? (i := 14) rfl)) (qfc (hw _ (List.mem_of_getElem? (i := 16) rfl)) (qfc (hw _ (List.mem_of_getElem? (i := 18) rfl)) (qfc (hw _ (List.mem_of_getElem? (i := 20) rfl)) (qfc (hw _ (List.mem_of_getElem? (i := 23) rfl)) (qfc (hw _ (List.mem_of_getElem? (i := 25) rfl)) (qfc (hw _ (List.mem_of_getElem? (i := 27) rfl)) (qfc (hw _ (List.mem_of_getElem? (i := 29) rfl)) (qfc (hw _ (List.mem_of_getElem? (i := 31) rfl)) (qfc (hw _ (List.mem_of_getElem? (i := 33) rfl)) (qfc (hw _ (List.mem_of_getElem? (i := 35) rfl)) (qfc (hw _ (List.mem_of_getElem? (i := 37) rfl)) (qfc (hw _ (List.mem_of_getElem? (i := 39) rfl)) (qfc (hw _ (List.mem_of_getElem? (i := 41) rfl)) (qfc (hw _ (List.mem_of_getElem? (i := 43) rfl)) (qfc (hw _ (List.mem_of_getElem? (i := 45) rfl)) qfn))))))))))))))))))
  refine ⟨?_, ?_, ?_, ?_, ?_, ?_, ?_, ?_, ?_, ?_, ?_, ?_, ?_, (fun k hk => w0 k (List.mem_range.mpr hk)), ?_, ?_, ?_⟩
  · exact (qfc (hw _ (List.mem_of_getElem? (i := 9) rfl)) (qfc (hw _ (List.mem_of_getElem? (i := 11) rfl)) (qfc (hw _ (List.mem_of_getElem? (i := 13) rfl)) (qfc (hw _ (List.mem_of_getElem? (i := 15) rfl)) (qfc (hw _ (List.mem_of_getElem? (i := 17) rfl)) (qfc (hw _ (List.mem_of_getElem? (i := 19) rfl)) (qfc (hw _ (List.mem_of_getElem? (i := 22) rfl)) (qfc (hw _ (List.mem_of_getElem? (i := 24) rfl)) (qfc (hw _ (List.mem_of_getElem? (i := 26) rfl)) (qfc (hw _ (List.mem_of_getElem? (i := 28) rfl)) (qfc (hw _ (List.mem_of_getElem? (i := 30) rfl)) (qfc (hw _ (List.mem_of_getElem? (i := 32) rfl)) (qfc (hw _ (List.mem_of_getElem? (i := 34) rfl)) (qfc (hw _ (List.mem_of_getElem? (i := 36) rfl)) (qfc (hw _ (List.mem_of_getElem? (i := 38) rfl)) (qfc (hw _ (List.mem_of_getElem? (i := 40) rfl)) (qfc (hw _ (List.mem_of_getElem? (i := 42) rfl)) (qfc (hw _ (List.mem_of_getElem? (i := 44) rfl)) qfn))))))))))))))))))
  · exact (qfc (hw _ (List.mem_of_getElem? (i := 0) rfl)) qfn)
  · exact qfn
  · exact qfn
  · exact (qfc (hw _ (List.mem_of_getElem? (i := 3) rfl)) (qfc (hw _ (List.mem_of_getElem? (i := 46) rfl)) (qfc (hw _ (List.mem_of_getElem? (i := 50) rfl)) (qfc (hw _ (List.mem_of_getElem? (i := 54) rfl)) (qfc (hw _ (List.mem_of_getElem? (i := 58) rfl)) (qfc (hw _ (List.mem_of_getElem? (i := 62) rfl)) (qfc (hw _ (List.mem_of_getElem? (i := 66) rfl)) (qfc (hw _ (List.mem_of_getElem? (i := 70) rfl)) (qfc (hw _ (List.mem_of_getElem? (i := 74) rfl)) (qfc (hw _ (List.mem_of_getElem? (i := 79) rfl)) (qfc (hw _ (List.mem_of_getElem? (i := 84) rfl)) (qfc (hw _ (List.mem_of_getElem? (i := 89) rfl)) (qfc (hw _ (List.mem_of_getElem? (i := 93) rfl)) (qfc (hw _ (List.mem_of_getElem? (i := 97) rfl)) (qfc (hw _ (List.mem_of_getElem? (i := 101) rfl)) (qfc (hw _ (List.mem_of_getElem? (i := 105) rfl)) (qfc (hw _ (List.mem_of_getElem? (i := 109) rfl)) (qfc (hw _ (List.mem_of_getElem? (i := 113) rfl)) (qfc (hw _ (List.mem_of_getElem? (i := 117) rfl)) (qfc (hw _ (List.mem_of_getElem? (i := 121) rfl)) (qfc (hw _ (List.mem_of_getElem? (i := 125) rfl)) (qfc (hw _ (List.mem_of_getElem? (i := 129) rfl)) (qfc (hw _ (List.mem_of_getElem? (i := 133) rfl)) (qfc (hw _ (List.mem_of_getElem? (i := 137) rfl)) (qfc (hw _ (List.mem_of_getElem? (i := 141) rfl)) (qfc (hw _ (List.mem_of_getElem? (i := 146) rfl)) (qfc (hw _ (List.mem_of_getElem? (i := 151) rfl)) (qfc (hw _ (List.mem_of_getElem? (i := 155) rfl)) (qfc (hw _ (List.mem_of_getElem? (i := 160) rfl)) (qfc (hw _ (List.mem_of_getElem? (i := 163) rfl)) (qfc (hw _ (List.mem_of_getElem? (i := 168) rfl)) (qfc (hw _ (List.mem_of_getElem? (i := 173) rfl)) (qfc (hw _ (List.mem_of_getElem? (i := 177) rfl)) (qfc (hw _ (List.mem_of_getElem? (i := 182) rfl)) (qfc (hw _ (List.mem_of_getElem? (i := 187) rfl)) (qfc (hw _ (List.mem_of_getElem? (i := 192) rfl)) (qfc (hw _ (List.mem_of_getElem? (i := 196) rfl)) (qfc (hw _ (List.mem_of_getElem? (i := 201) rfl)) qfn))))))))))))))))))))))))))))))))))))))
  · exact (qfc (hw _ (List.mem_of_getElem? (i := 6) rfl)) qfn)
  · exact (qfc ⟨(hw _ (List.mem_of_getElem? (i := 75) rfl)), (hw _ (List.mem_of_getElem? (i := 77) rfl)), (hw _ (List.mem_of_getElem? (i := 76) rfl))⟩ (qfc ⟨(hw _ (List.mem_of_getElem? (i := 80) rfl)), (hw _ (List.mem_of_getElem? (i := 82) rfl)), (hw _ (List.mem_of_getElem? (i := 81) rfl))⟩ (qfc ⟨(hw _ (List.mem_of_getElem? (i := 85) rfl)), (hw _ (List.mem_of_getElem? (i := 87) rfl)), (hw _ (List.mem_of_getElem? (i := 86) rfl))⟩ (qfc ⟨(hw _ (List.mem_of_getElem? (i := 142) rfl)), (hw _ (List.mem_of_getElem? (i := 144) rfl)), (hw _ (List.mem_of_getElem? (i := 143) rfl))⟩ (qfc ⟨(hw _ (List.mem_of_getElem? (i := 147) rfl)), (hw _ (List.mem_of_getElem? (i := 149) rfl)), (hw _ (List.mem_of_getElem? (i := 148) rfl))⟩ (qfc ⟨(hw _ (List.mem_of_getElem? (i := 156) rfl)), (hw _ (List.mem_of_getElem? (i := 158) rfl)), (hw _ (List.mem_of_getElem? (i := 157) rfl))⟩ (qfc ⟨(hw _ (List.mem_of_getElem? (i := 164) rfl)), (hw _ (List.mem_of_getElem? (i := 166) rfl)), (hw _ (List.mem_of_getElem? (i := 165) rfl))⟩ (qfc ⟨(hw _ (List.mem_of_getElem? (i := 169) rfl)), (hw _ (List.mem_of_getElem? (i := 171) rfl)), (hw _ (List.mem_of_getElem? (i := 170) rfl))⟩ (qfc ⟨(hw _ (List.mem_of_getElem? (i := 178) rfl)), (hw _ (List.mem_of_getElem? (i := 180) rfl)), (hw _ (List.mem_of_getElem? (i := 179) rfl))⟩ (qfc ⟨(hw _ (List.mem_of_getElem? (i := 183) rfl)), (hw _ (List.mem_of_getElem? (i := 185) rfl)), (hw _ (List.mem_of_getElem? (i := 184) rfl))⟩ (qfc ⟨(hw _ (List.mem_of_getElem? (i := 188) rfl)), (hw _ (List.mem_of_getElem? (i := 190) rfl)), (hw _ (List.mem_of_getElem? (i := 189) rfl))⟩ (qfc ⟨(hw _ (List.mem_of_getElem? (i := 197) rfl)), (hw _ (List.mem_of_getElem? (i := 199) rfl)), (hw _ (List.mem_of_getElem? (i := 198) rfl))⟩ qfn))))))))))))
  · exact (qfc ⟨(hw _ (List.mem_of_getElem? (i := 47) rfl)), (hw _ (List.mem_of_getElem? (i := 48) rfl))⟩ (qfc ⟨(hw _ (List.mem_of_getElem? (i := 51) rfl)), (hw _ (List.mem_of_getElem? (i := 52) rfl))⟩ (qfc ⟨(hw _ (List.mem_of_getElem? (i := 55) rfl)), (hw _ (List.mem_of_getElem? (i := 56) rfl))⟩ (qfc ⟨(hw _ (List.mem_of_getElem? (i := 59) rfl)), (hw _ (List.mem_of_getElem? (i := 60) rfl))⟩ (qfc ⟨(hw _ (List.mem_of_getElem? (i := 63) rfl)), (hw _ (List.mem_of_getElem? (i := 64) rfl))⟩ (qfc ⟨(hw _ (List.mem_of_getElem? (i := 67) rfl)), (hw _ (List.mem_of_getElem? (i := 68) rfl))⟩ (qfc ⟨(hw _ (List.mem_of_getElem? (i := 90) rfl)), (hw _ (List.mem_of_getElem? (i := 91) rfl))⟩ (qfc ⟨(hw _ (List.mem_of_getElem? (i := 94) rfl)), (hw _ (List.mem_of_getElem? (i := 95) rfl))⟩ (qfc ⟨(hw _ (List.mem_of_getElem? (i := 98) rfl)), (hw _ (List.mem_of_getElem? (i := 99) rfl))⟩ (qfc ⟨(hw _ (List.mem_of_getElem? (i := 102) rfl)), (hw _ (List.mem_of_getElem? (i := 103) rfl))⟩ (qfc ⟨(hw _ (List.mem_of_getElem? (i := 106) rfl)), (hw _ (List.mem_of_getElem? (i := 107) rfl))⟩ (qfc ⟨(hw _ (List.mem_of_getElem? (i := 110) rfl)), (hw _ (List.mem_of_getElem? (i := 111) rfl))⟩ (qfc ⟨(hw _ (List.mem_of_getElem? (i := 114) rfl)), (hw _ (List.mem_of_getElem? (i := 115) rfl))⟩ (qfc ⟨(hw _ (List.mem_of_getElem? (i := 118) rfl)), (hw _ (List.mem_of_getElem? (i := 119) rfl))⟩ (qfc ⟨(hw _ (List.mem_of_getElem? (i := 122) rfl)), (hw _ (List.mem_of_getElem? (i := 123) rfl))⟩ (qfc ⟨(hw _ (List.mem_of_getElem? (i := 126) rfl)), (hw _ (List.mem_of_getElem? (i := 127) rfl))⟩ (qfc ⟨(hw _ (List.mem_of_getElem? (i := 130) rfl)), (hw _ (List.mem_of_getElem? (i := 131) rfl))⟩ (qfc ⟨(hw _ (List.mem_of_getElem? (i := 134) rfl)), (hw _ (List.mem_of_getElem? (i := 135) rfl))⟩ (qfc ⟨(hw _ (List.mem_of_getElem? (i := 138) rfl)), (hw _ (List.mem_of_getElem? (i := 139) rfl))⟩ (qfc ⟨(hw _ (List.mem_of_getElem? (i := 152) rfl)), (hw _ (List.mem_of_getElem? (i := 153) rfl))⟩ (qfc ⟨(hw _ (List.mem_of_getElem? (i := 174) rfl)), (hw _ (List.mem_of_getElem? (i := 175) rfl))⟩ (qfc ⟨(hw _ (List.mem_of_getElem? (i := 193) rfl)), (hw _ (List.mem_of_getElem? (i := 194) rfl))⟩ (qfc ⟨(hw _ (List.mem_of_getElem? (i := 202) rfl)), (hw _ (List.mem_of_getElem? (i := 203) rfl))⟩ qfn)))))))))))))))))))))))
  · exact (qfc (hw _ (List.mem_of_getElem? (i := 71) rfl)) (qfc (hw _ (List.mem_of_getElem? (i := 161) rfl)) qfn))
  · exact (qfc (hw _ (List.mem_of_getElem? (i := 4) rfl)) qfn)
  · exact (qfc ⟨(hw _ (List.mem_of_getElem? (i := 5) rfl)), (hw _ (List.mem_of_getElem? (i := 2) rfl))⟩ (qfc ⟨(hw _ (List.mem_of_getElem? (i := 49) rfl)), (hw _ (List.mem_of_getElem? (i := 2) rfl))⟩ (qfc ⟨(hw _ (List.mem_of_getElem? (i := 53) rfl)), (hw _ (List.mem_of_getElem? (i := 2) rfl))⟩ (qfc ⟨(hw _ (List.mem_of_getElem? (i := 57) rfl)), (hw _ (List.mem_of_getElem? (i := 2) rfl))⟩ (qfc ⟨(hw _ (List.mem_of_getElem? (i := 61) rfl)), (hw _ (List.mem_of_getElem? (i := 2) rfl))⟩ (qfc ⟨(hw _ (List.mem_of_getElem? (i := 65) rfl)), (hw _ (List.mem_of_getElem? (i := 2) rfl))⟩ (qfc ⟨(hw _ (List.mem_of_getElem? (i := 69) rfl)), (hw _ (List.mem_of_getElem? (i := 2) rfl))⟩ (qfc ⟨(hw _ (List.mem_of_getElem? (i := 73) rfl)), (hw _ (List.mem_of_getElem? (i := 72) rfl))⟩ (qfc ⟨(hw _ (List.mem_of_getElem? (i := 78) rfl)), (hw _ (List.mem_of_getElem? (i := 2) rfl))⟩ (qfc ⟨(hw _ (List.mem_of_getElem? (i := 83) rfl)), (hw _ (List.mem_of_getElem? (i := 2) rfl))⟩ (qfc ⟨(hw _ (List.mem_of_getElem? (i := 88) rfl)), (hw _ (List.mem_of_getElem? (i := 2) rfl))⟩ (qfc ⟨(hw _ (List.mem_of_getElem? (i := 92) rfl)), (hw _ (List.mem_of_getElem? (i := 2) rfl))⟩ (qfc ⟨(hw _ (List.mem_of_getElem? (i := 96) rfl)), (hw _ (List.mem_of_getElem? (i := 2) rfl))⟩ (qfc ⟨(hw _ (List.mem_of_getElem? (i := 100) rfl)), (hw _ (List.mem_of_getElem? (i := 2) rfl))⟩ (qfc ⟨(hw _ (List.mem_of_getElem? (i := 104) rfl)), (hw _ (List.mem_of_getElem? (i := 2) rfl))⟩ (qfc ⟨(hw _ (List.mem_of_getElem? (i := 108) rfl)), (hw _ (List.mem_of_getElem? (i := 2) rfl))⟩ (qfc ⟨(hw _ (List.mem_of_getElem? (i := 112) rfl)), (hw _ (List.mem_of_getElem? (i := 2) rfl))⟩ (qfc ⟨(hw _ (List.mem_of_getElem? (i := 116) rfl)), (hw _ (List.mem_of_getElem? (i := 2) rfl))⟩ (qfc ⟨(hw _ (List.mem_of_getElem? (i := 120) rfl)), (hw _ (List.mem_of_getElem? (i := 2) rfl))⟩ (qfc ⟨(hw _ (List.mem_of_getElem? (i := 124) rfl)), (hw _ (List.mem_of_getElem? (i := 2) rfl))⟩ (qfc ⟨(hw _ (List.mem_of_getElem? (i := 128) rfl)), (hw _ (List.mem_of_getElem? (i := 2) rfl))⟩ (qfc ⟨(hw _ (List.mem_of_getElem? (i := 132) rfl)), (hw _ (List.mem_of_getElem? (i := 2) rfl))⟩ (qfc ⟨(hw _ (List.mem_of_getElem? (i := 136) rfl)), (hw _ (List.mem_of_getElem? (i := 2) rfl))⟩ (qfc ⟨(hw _ (List.mem_of_getElem? (i := 140) rfl)), (hw _ (List.mem_of_getElem? (i := 2) rfl))⟩ (qfc ⟨(hw _ (List.mem_of_getElem? (i := 145) rfl)), (hw _ (List.mem_of_getElem? (i := 2) rfl))⟩ (qfc ⟨(hw _ (List.mem_of_getElem? (i := 150) rfl)), (hw _ (List.mem_of_getElem? (i := 2) rfl))⟩ (qfc ⟨(hw _ (List.mem_of_getElem? (i := 154) rfl)), (hw _ (List.mem_of_getElem? (i := 2) rfl))⟩ (qfc ⟨(hw _ (List.mem_of_getElem? (i := 159) rfl)), (hw _ (List.mem_of_getElem? (i := 2) rfl))⟩ (qfc ⟨(hw _ (List.mem_of_getElem? (i := 162) rfl)), (hw _ (List.mem_of_getElem? (i := 72) rfl))⟩ (qfc ⟨(hw _ (List.mem_of_getElem? (i := 167) rfl)), (hw _ (List.mem_of_getElem? (i := 2) rfl))⟩ (qfc ⟨(hw _ (List.mem_of_getElem? (i := 172) rfl)), (hw _ (List.mem_of_getElem? (i := 2) rfl))⟩ (qfc ⟨(hw _ (List.mem_of_getElem? (i := 176) rfl)), (hw _ (List.mem_of_getElem? (i := 2) rfl))⟩ (qfc ⟨(hw _ (List.mem_of_getElem? (i := 181) rfl)), (hw _ (List.mem_of_getElem? (i := 2) rfl))⟩ (qfc ⟨(hw _ (List.mem_of_getElem? (i := 186) rfl)), (hw _ (List.mem_of_getElem? (i := 2) rfl))⟩ (qfc ⟨(hw _ (List.mem_of_getElem? (i := 191) rfl)), (hw _ (List.mem_of_getElem? (i := 2) rfl))⟩ (qfc ⟨(hw _ (List.mem_of_getElem? (i := 195) rfl)), (hw _ (List.mem_of_getElem? (i := 2) rfl))⟩ (qfc ⟨(hw _ (List.mem_of_getElem? (i := 200) rfl)), (hw _ (List.mem_of_getElem? (i := 2) rfl))⟩ (qfc ⟨(hw _ (List.mem_of_getElem? (i := 204) rfl)), (hw _ (List.mem_of_getElem? (i := 2) rfl))⟩ qfn))))))))))))))))))))))))))))))))))))))
  · exact (hw _ (List.mem_of_getElem? (i := 7) rfl))
  · exact (hw _ (List.mem_of_getElem? (i := 8) rfl))
  · exact (hw _ (List.mem_of_getElem? (i := 1) rfl))
  · exact (hw _ (List.mem_of_getElem? (i := 2) rfl))
  · exact (qfc (hw _ (List.mem_of_getElem? (i := 21) rfl)) qfn)
abbrev Ob := Int32 × Int32 × Int32 × Int32 × Int32 × Int32 × List Int32 × List Int32 × List Int32 × List Int32 × List Int32 × List Int32 × List Int32 × List Int32 × List Int32 × Int32 × Int32 × Int32
def f_regTuple (o : Ob) : Int32 := o.1
def f_regA (o : Ob) : Int32 := o.2.1
def f_regB (o : Ob) : Int32 := o.2.2.1
def f_regC (o : Ob) : Int32 := o.2.2.2.1
def f_regCount (o : Ob) : Int32 := o.2.2.2.2.1
def f_slots (o : Ob) : Int32 := o.2.2.2.2.2.1
def f_range (o : Ob) : List Int32 := o.2.2.2.2.2.2.1
def f_slide (o : Ob) : List Int32 := o.2.2.2.2.2.2.2.1
def f_frontSize (o : Ob) : List Int32 := o.2.2.2.2.2.2.2.2.1
def f_backSize (o : Ob) : List Int32 := o.2.2.2.2.2.2.2.2.2.1
def f_backElem (o : Ob) : List Int32 := o.2.2.2.2.2.2.2.2.2.2.1
def f_frontAgg (o : Ob) : List Int32 := o.2.2.2.2.2.2.2.2.2.2.2.1
def f_backAgg (o : Ob) : List Int32 := o.2.2.2.2.2.2.2.2.2.2.2.2.1
def f_snap (o : Ob) : List Int32 := o.2.2.2.2.2.2.2.2.2.2.2.2.2.1
def f_reg (o : Ob) : List Int32 := o.2.2.2.2.2.2.2.2.2.2.2.2.2.2.1
def f_capacity (o : Ob) : Int32 := o.2.2.2.2.2.2.2.2.2.2.2.2.2.2.2.1
def f_queries (o : Ob) : Int32 := o.2.2.2.2.2.2.2.2.2.2.2.2.2.2.2.2.1
def f_n (o : Ob) : Int32 := o.2.2.2.2.2.2.2.2.2.2.2.2.2.2.2.2.2
def s_regTuple (o : Ob) (v : Int32) : Ob := (v, o.2.1, o.2.2.1, o.2.2.2.1, o.2.2.2.2.1, o.2.2.2.2.2.1, o.2.2.2.2.2.2.1, o.2.2.2.2.2.2.2.1, o.2.2.2.2.2.2.2.2.1, o.2.2.2.2.2.2.2.2.2.1, o.2.2.2.2.2.2.2.2.2.2.1, o.2.2.2.2.2.2.2.2.2.2.2.1, o.2.2.2.2.2.2.2.2.2.2.2.2.1, o.2.2.2.2.2.2.2.2.2.2.2.2.2.1, o.2.2.2.2.2.2.2.2.2.2.2.2.2.2.1, o.2.2.2.2.2.2.2.2.2.2.2.2.2.2.2.1, o.2.2.2.2.2.2.2.2.2.2.2.2.2.2.2.2.1, o.2.2.2.2.2.2.2.2.2.2.2.2.2.2.2.2.2)
def s_regA (o : Ob) (v : Int32) : Ob := (o.1, v, o.2.2.1, o.2.2.2.1, o.2.2.2.2.1, o.2.2.2.2.2.1, o.2.2.2.2.2.2.1, o.2.2.2.2.2.2.2.1, o.2.2.2.2.2.2.2.2.1, o.2.2.2.2.2.2.2.2.2.1, o.2.2.2.2.2.2.2.2.2.2.1, o.2.2.2.2.2.2.2.2.2.2.2.1, o.2.2.2.2.2.2.2.2.2.2.2.2.1, o.2.2.2.2.2.2.2.2.2.2.2.2.2.1, o.2.2.2.2.2.2.2.2.2.2.2.2.2.2.1, o.2.2.2.2.2.2.2.2.2.2.2.2.2.2.2.1, o.2.2.2.2.2.2.2.2.2.2.2.2.2.2.2.2.1, o.2.2.2.2.2.2.2.2.2.2.2.2.2.2.2.2.2)
def s_regB (o : Ob) (v : Int32) : Ob := (o.1, o.2.1, v, o.2.2.2.1, o.2.2.2.2.1, o.2.2.2.2.2.1, o.2.2.2.2.2.2.1, o.2.2.2.2.2.2.2.1, o.2.2.2.2.2.2.2.2.1, o.2.2.2.2.2.2.2.2.2.1, o.2.2.2.2.2.2.2.2.2.2.1, o.2.2.2.2.2.2.2.2.2.2.2.1, o.2.2.2.2.2.2.2.2.2.2.2.2.1, o.2.2.2.2.2.2.2.2.2.2.2.2.2.1, o.2.2.2.2.2.2.2.2.2.2.2.2.2.2.1, o.2.2.2.2.2.2.2.2.2.2.2.2.2.2.2.1, o.2.2.2.2.2.2.2.2.2.2.2.2.2.2.2.2.1, o.2.2.2.2.2.2.2.2.2.2.2.2.2.2.2.2.2)
def s_regC (o : Ob) (v : Int32) : Ob := (o.1, o.2.1, o.2.2.1, v, o.2.2.2.2.1, o.2.2.2.2.2.1, o.2.2.2.2.2.2.1, o.2.2.2.2.2.2.2.1, o.2.2.2.2.2.2.2.2.1, o.2.2.2.2.2.2.2.2.2.1, o.2.2.2.2.2.2.2.2.2.2.1, o.2.2.2.2.2.2.2.2.2.2.2.1, o.2.2.2.2.2.2.2.2.2.2.2.2.1, o.2.2.2.2.2.2.2.2.2.2.2.2.2.1, o.2.2.2.2.2.2.2.2.2.2.2.2.2.2.1, o.2.2.2.2.2.2.2.2.2.2.2.2.2.2.2.1, o.2.2.2.2.2.2.2.2.2.2.2.2.2.2.2.2.1, o.2.2.2.2.2.2.2.2.2.2.2.2.2.2.2.2.2)
def s_regCount (o : Ob) (v : Int32) : Ob := (o.1, o.2.1, o.2.2.1, o.2.2.2.1, v, o.2.2.2.2.2.1, o.2.2.2.2.2.2.1, o.2.2.2.2.2.2.2.1, o.2.2.2.2.2.2.2.2.1, o.2.2.2.2.2.2.2.2.2.1, o.2.2.2.2.2.2.2.2.2.2.1, o.2.2.2.2.2.2.2.2.2.2.2.1, o.2.2.2.2.2.2.2.2.2.2.2.2.1, o.2.2.2.2.2.2.2.2.2.2.2.2.2.1, o.2.2.2.2.2.2.2.2.2.2.2.2.2.2.1, o.2.2.2.2.2.2.2.2.2.2.2.2.2.2.2.1, o.2.2.2.2.2.2.2.2.2.2.2.2.2.2.2.2.1, o.2.2.2.2.2.2.2.2.2.2.2.2.2.2.2.2.2)
def s_slots (o : Ob) (v : Int32) : Ob := (o.1, o.2.1, o.2.2.1, o.2.2.2.1, o.2.2.2.2.1, v, o.2.2.2.2.2.2.1, o.2.2.2.2.2.2.2.1, o.2.2.2.2.2.2.2.2.1, o.2.2.2.2.2.2.2.2.2.1, o.2.2.2.2.2.2.2.2.2.2.1, o.2.2.2.2.2.2.2.2.2.2.2.1, o.2.2.2.2.2.2.2.2.2.2.2.2.1, o.2.2.2.2.2.2.2.2.2.2.2.2.2.1, o.2.2.2.2.2.2.2.2.2.2.2.2.2.2.1, o.2.2.2.2.2.2.2.2.2.2.2.2.2.2.2.1, o.2.2.2.2.2.2.2.2.2.2.2.2.2.2.2.2.1, o.2.2.2.2.2.2.2.2.2.2.2.2.2.2.2.2.2)
def s_range (o : Ob) (v : List Int32) : Ob := (o.1, o.2.1, o.2.2.1, o.2.2.2.1, o.2.2.2.2.1, o.2.2.2.2.2.1, v, o.2.2.2.2.2.2.2.1, o.2.2.2.2.2.2.2.2.1, o.2.2.2.2.2.2.2.2.2.1, o.2.2.2.2.2.2.2.2.2.2.1, o.2.2.2.2.2.2.2.2.2.2.2.1, o.2.2.2.2.2.2.2.2.2.2.2.2.1, o.2.2.2.2.2.2.2.2.2.2.2.2.2.1, o.2.2.2.2.2.2.2.2.2.2.2.2.2.2.1, o.2.2.2.2.2.2.2.2.2.2.2.2.2.2.2.1, o.2.2.2.2.2.2.2.2.2.2.2.2.2.2.2.2.1, o.2.2.2.2.2.2.2.2.2.2.2.2.2.2.2.2.2)
def s_slide (o : Ob) (v : List Int32) : Ob := (o.1, o.2.1, o.2.2.1, o.2.2.2.1, o.2.2.2.2.1, o.2.2.2.2.2.1, o.2.2.2.2.2.2.1, v, o.2.2.2.2.2.2.2.2.1, o.2.2.2.2.2.2.2.2.2.1, o.2.2.2.2.2.2.2.2.2.2.1, o.2.2.2.2.2.2.2.2.2.2.2.1, o.2.2.2.2.2.2.2.2.2.2.2.2.1, o.2.2.2.2.2.2.2.2.2.2.2.2.2.1, o.2.2.2.2.2.2.2.2.2.2.2.2.2.2.1, o.2.2.2.2.2.2.2.2.2.2.2.2.2.2.2.1, o.2.2.2.2.2.2.2.2.2.2.2.2.2.2.2.2.1, o.2.2.2.2.2.2.2.2.2.2.2.2.2.2.2.2.2)
def s_frontSize (o : Ob) (v : List Int32) : Ob := (o.1, o.2.1, o.2.2.1, o.2.2.2.1, o.2.2.2.2.1, o.2.2.2.2.2.1, o.2.2.2.2.2.2.1, o.2.2.2.2.2.2.2.1, v, o.2.2.2.2.2.2.2.2.2.1, o.2.2.2.2.2.2.2.2.2.2.1, o.2.2.2.2.2.2.2.2.2.2.2.1, o.2.2.2.2.2.2.2.2.2.2.2.2.1, o.2.2.2.2.2.2.2.2.2.2.2.2.2.1, o.2.2.2.2.2.2.2.2.2.2.2.2.2.2.1, o.2.2.2.2.2.2.2.2.2.2.2.2.2.2.2.1, o.2.2.2.2.2.2.2.2.2.2.2.2.2.2.2.2.1, o.2.2.2.2.2.2.2.2.2.2.2.2.2.2.2.2.2)
def s_backSize (o : Ob) (v : List Int32) : Ob := (o.1, o.2.1, o.2.2.1, o.2.2.2.1, o.2.2.2.2.1, o.2.2.2.2.2.1, o.2.2.2.2.2.2.1, o.2.2.2.2.2.2.2.1, o.2.2.2.2.2.2.2.2.1, v, o.2.2.2.2.2.2.2.2.2.2.1, o.2.2.2.2.2.2.2.2.2.2.2.1, o.2.2.2.2.2.2.2.2.2.2.2.2.1, o.2.2.2.2.2.2.2.2.2.2.2.2.2.1, o.2.2.2.2.2.2.2.2.2.2.2.2.2.2.1, o.2.2.2.2.2.2.2.2.2.2.2.2.2.2.2.1, o.2.2.2.2.2.2.2.2.2.2.2.2.2.2.2.2.1, o.2.2.2.2.2.2.2.2.2.2.2.2.2.2.2.2.2)
def s_backElem (o : Ob) (v : List Int32) : Ob := (o.1, o.2.1, o.2.2.1, o.2.2.2.1, o.2.2.2.2.1, o.2.2.2.2.2.1, o.2.2.2.2.2.2.1, o.2.2.2.2.2.2.2.1, o.2.2.2.2.2.2.2.2.1, o.2.2.2.2.2.2.2.2.2.1, v, o.2.2.2.2.2.2.2.2.2.2.2.1, o.2.2.2.2.2.2.2.2.2.2.2.2.1, o.2.2.2.2.2.2.2.2.2.2.2.2.2.1, o.2.2.2.2.2.2.2.2.2.2.2.2.2.2.1, o.2.2.2.2.2.2.2.2.2.2.2.2.2.2.2.1, o.2.2.2.2.2.2.2.2.2.2.2.2.2.2.2.2.1, o.2.2.2.2.2.2.2.2.2.2.2.2.2.2.2.2.2)
def s_frontAgg (o : Ob) (v : List Int32) : Ob := (o.1, o.2.1, o.2.2.1, o.2.2.2.1, o.2.2.2.2.1, o.2.2.2.2.2.1, o.2.2.2.2.2.2.1, o.2.2.2.2.2.2.2.1, o.2.2.2.2.2.2.2.2.1, o.2.2.2.2.2.2.2.2.2.1, o.2.2.2.2.2.2.2.2.2.2.1, v, o.2.2.2.2.2.2.2.2.2.2.2.2.1, o.2.2.2.2.2.2.2.2.2.2.2.2.2.1, o.2.2.2.2.2.2.2.2.2.2.2.2.2.2.1, o.2.2.2.2.2.2.2.2.2.2.2.2.2.2.2.1, o.2.2.2.2.2.2.2.2.2.2.2.2.2.2.2.2.1, o.2.2.2.2.2.2.2.2.2.2.2.2.2.2.2.2.2)
def s_backAgg (o : Ob) (v : List Int32) : Ob := (o.1, o.2.1, o.2.2.1, o.2.2.2.1, o.2.2.2.2.1, o.2.2.2.2.2.1, o.2.2.2.2.2.2.1, o.2.2.2.2.2.2.2.1, o.2.2.2.2.2.2.2.2.1, o.2.2.2.2.2.2.2.2.2.1, o.2.2.2.2.2.2.2.2.2.2.1, o.2.2.2.2.2.2.2.2.2.2.2.1, v, o.2.2.2.2.2.2.2.2.2.2.2.2.2.1, o.2.2.2.2.2.2.2.2.2.2.2.2.2.2.1, o.2.2.2.2.2.2.2.2.2.2.2.2.2.2.2.1, o.2.2.2.2.2.2.2.2.2.2.2.2.2.2.2.2.1, o.2.2.2.2.2.2.2.2.2.2.2.2.2.2.2.2.2)
def s_snap (o : Ob) (v : List Int32) : Ob := (o.1, o.2.1, o.2.2.1, o.2.2.2.1, o.2.2.2.2.1, o.2.2.2.2.2.1, o.2.2.2.2.2.2.1, o.2.2.2.2.2.2.2.1, o.2.2.2.2.2.2.2.2.1, o.2.2.2.2.2.2.2.2.2.1, o.2.2.2.2.2.2.2.2.2.2.1, o.2.2.2.2.2.2.2.2.2.2.2.1, o.2.2.2.2.2.2.2.2.2.2.2.2.1, v, o.2.2.2.2.2.2.2.2.2.2.2.2.2.2.1, o.2.2.2.2.2.2.2.2.2.2.2.2.2.2.2.1, o.2.2.2.2.2.2.2.2.2.2.2.2.2.2.2.2.1, o.2.2.2.2.2.2.2.2.2.2.2.2.2.2.2.2.2)
def s_reg (o : Ob) (v : List Int32) : Ob := (o.1, o.2.1, o.2.2.1, o.2.2.2.1, o.2.2.2.2.1, o.2.2.2.2.2.1, o.2.2.2.2.2.2.1, o.2.2.2.2.2.2.2.1, o.2.2.2.2.2.2.2.2.1, o.2.2.2.2.2.2.2.2.2.1, o.2.2.2.2.2.2.2.2.2.2.1, o.2.2.2.2.2.2.2.2.2.2.2.1, o.2.2.2.2.2.2.2.2.2.2.2.2.1, o.2.2.2.2.2.2.2.2.2.2.2.2.2.1, v, o.2.2.2.2.2.2.2.2.2.2.2.2.2.2.2.1, o.2.2.2.2.2.2.2.2.2.2.2.2.2.2.2.2.1, o.2.2.2.2.2.2.2.2.2.2.2.2.2.2.2.2.2)
def s_capacity (o : Ob) (v : Int32) : Ob := (o.1, o.2.1, o.2.2.1, o.2.2.2.1, o.2.2.2.2.1, o.2.2.2.2.2.1, o.2.2.2.2.2.2.1, o.2.2.2.2.2.2.2.1, o.2.2.2.2.2.2.2.2.1, o.2.2.2.2.2.2.2.2.2.1, o.2.2.2.2.2.2.2.2.2.2.1, o.2.2.2.2.2.2.2.2.2.2.2.1, o.2.2.2.2.2.2.2.2.2.2.2.2.1, o.2.2.2.2.2.2.2.2.2.2.2.2.2.1, o.2.2.2.2.2.2.2.2.2.2.2.2.2.2.1, v, o.2.2.2.2.2.2.2.2.2.2.2.2.2.2.2.2.1, o.2.2.2.2.2.2.2.2.2.2.2.2.2.2.2.2.2)
def s_queries (o : Ob) (v : Int32) : Ob := (o.1, o.2.1, o.2.2.1, o.2.2.2.1, o.2.2.2.2.1, o.2.2.2.2.2.1, o.2.2.2.2.2.2.1, o.2.2.2.2.2.2.2.1, o.2.2.2.2.2.2.2.2.1, o.2.2.2.2.2.2.2.2.2.1, o.2.2.2.2.2.2.2.2.2.2.1, o.2.2.2.2.2.2.2.2.2.2.2.1, o.2.2.2.2.2.2.2.2.2.2.2.2.1, o.2.2.2.2.2.2.2.2.2.2.2.2.2.1, o.2.2.2.2.2.2.2.2.2.2.2.2.2.2.1, o.2.2.2.2.2.2.2.2.2.2.2.2.2.2.2.1, v, o.2.2.2.2.2.2.2.2.2.2.2.2.2.2.2.2.2)
def s_n (o : Ob) (v : Int32) : Ob := (o.1, o.2.1, o.2.2.1, o.2.2.2.1, o.2.2.2.2.1, o.2.2.2.2.2.1, o.2.2.2.2.2.2.1, o.2.2.2.2.2.2.2.1, o.2.2.2.2.2.2.2.2.1, o.2.2.2.2.2.2.2.2.2.1, o.2.2.2.2.2.2.2.2.2.2.1, o.2.2.2.2.2.2.2.2.2.2.2.1, o.2.2.2.2.2.2.2.2.2.2.2.2.1, o.2.2.2.2.2.2.2.2.2.2.2.2.2.1, o.2.2.2.2.2.2.2.2.2.2.2.2.2.2.1, o.2.2.2.2.2.2.2.2.2.2.2.2.2.2.2.1, o.2.2.2.2.2.2.2.2.2.2.2.2.2.2.2.2.1, v)
theorem fs (o : Ob) : f_regTuple o = o.1 ∧ f_regA o = o.2.1 ∧ f_regB o = o.2.2.1 ∧ f_regC o = o.2.2.2.1 ∧ f_regCount o = o.2.2.2.2.1 ∧ f_slots o = o.2.2.2.2.2.1 ∧ f_range o = o.2.2.2.2.2.2.1 ∧ f_slide o = o.2.2.2.2.2.2.2.1 ∧ f_frontSize o = o.2.2.2.2.2.2.2.2.1 ∧ f_backSize o = o.2.2.2.2.2.2.2.2.2.1 ∧ f_backElem o = o.2.2.2.2.2.2.2.2.2.2.1 ∧ f_frontAgg o = o.2.2.2.2.2.2.2.2.2.2.2.1 ∧ f_backAgg o = o.2.2.2.2.2.2.2.2.2.2.2.2.1 ∧ f_snap o = o.2.2.2.2.2.2.2.2.2.2.2.2.2.1 ∧ f_reg o = o.2.2.2.2.2.2.2.2.2.2.2.2.2.2.1 ∧ f_capacity o = o.2.2.2.2.2.2.2.2.2.2.2.2.2.2.2.1 ∧ f_queries o = o.2.2.2.2.2.2.2.2.2.2.2.2.2.2.2.2.1 ∧ f_n o = o.2.2.2.2.2.2.2.2.2.2.2.2.2.2.2.2.2 := by simp only [f_regTuple, f_regA, f_regB, f_regC, f_regCount, f_slots, f_range, f_slide, f_frontSize, f_backSize, f_backElem, f_frontAgg, f_backAgg, f_snap, f_reg, f_capacity, f_queries, f_n, and_self]
def ob0 : Ob := (0, 0, 0, 0, 0, 0, [], [], [], [], [], [], [], [], [], 0, 0, 0)
section Walks
variable {l : Launch} {Z : State} {n0 : Nat} {ad : Nat → Addr} {a0 : Array Value}
set_option maxRecDepth 20000
set_option maxHeartbeats 2000000
abbrev tt : Bool := true
abbrev ff : Bool := false
open QTri renaming steps → zS, brT → zT, brF → zF, bnd → zB, mask → zM
open Option (bind_eq_some_iff)
open Classical (em)
def H0 (s : List Int32) (o0 : Ob) : QHeap := [.inr (.inl (.int, s)), .inl [.int (f_regTuple o0), .int (f_regA o0), .int (f_regB o0), .int (f_regC o0), .int (f_regCount o0), .int (f_slots o0), .ref 2, .ref 3, .ref 4, .ref 5, .ref 6, .ref 7, .ref 8, .ref 9, .ref 10, .int (f_capacity o0), .int (f_queries o0), .int (f_n o0)], .inr (.inl (.int, (f_range o0))), .inr (.inl (.int, (f_slide o0))), .inr (.inl (.int, (f_frontSize o0))), .inr (.inl (.int, (f_backSize o0))), .inr (.inl (.int, (f_backElem o0))), .inr (.inl (.int, (f_frontAgg o0))), .inr (.inl (.int, (f_backAgg o0))), .inr (.inl (.int, (f_snap o0))), .inr (.inl (.int, (f_reg o0)))]
def H0v (s : List Int32) (a0_0 : Int32) (a0_1 : Int32) (a0_2 : Int32) (a0_3 : Int32) (a0_4 : Int32) (a0_5 : Int32) (a0_6 : List Int32) (a0_7 : List Int32) (a0_8 : List Int32) (a0_9 : List Int32) (a0_10 : List Int32) (a0_11 : List Int32) (a0_12 : List Int32) (a0_13 : List Int32) (a0_14 : List Int32) (a0_15 : Int32) (a0_16 : Int32) (a0_17 : Int32) : QHeap := [.inr (.inl (.int, s)), .inl [.int a0_0, .int a0_1, .int a0_2, .int a0_3, .int a0_4, .int a0_5, .ref 2, .ref 3, .ref 4, .ref 5, .ref 6, .ref 7, .ref 8, .ref 9, .ref 10, .int a0_15, .int a0_16, .int a0_17], .inr (.inl (.int, a0_6)), .inr (.inl (.int, a0_7)), .inr (.inl (.int, a0_8)), .inr (.inl (.int, a0_9)), .inr (.inl (.int, a0_10)), .inr (.inl (.int, a0_11)), .inr (.inl (.int, a0_12)), .inr (.inl (.int, a0_13)), .inr (.inl (.int, a0_14))]
def H0x0 (s : List Int32) (o0 : Ob) (a0_0 : Int32) (a0_1 : Int32) (a0_2 : Int32) (a0_3 : Int32) (a0_4 : Int32) (a0_5 : Int32) (a0_6 : List Int32) (a0_7 : List Int32) (a0_8 : List Int32) (a0_9 : List Int32) (a0_10 : List Int32) (a0_11 : List Int32) (a0_12 : List Int32) (a0_13 : List Int32) (a0_14 : List Int32) : QHeap := H0v s a0_0 a0_1 a0_2 a0_3 a0_4 a0_5 a0_6 a0_7 a0_8 a0_9 a0_10 a0_11 a0_12 a0_13 a0_14 (f_capacity o0) (f_queries o0) (f_n o0)
def H0x1 (s : List Int32) (o0 : Ob) (a0_0 : Int32) (a0_1 : Int32) (a0_2 : Int32) (a0_3 : Int32) (a0_4 : Int32) (a0_5 : Int32) (a0_6 : List Int32) (a0_7 : List Int32) (a0_8 : List Int32) (a0_9 : List Int32) (a0_10 : List Int32) (a0_11 : List Int32) (a0_12 : List Int32) (a0_13 : List Int32) (a0_14 : List Int32) (a0_15 : Int32) : QHeap := H0v s a0_0 a0_1 a0_2 a0_3 a0_4 a0_5 a0_6 a0_7 a0_8 a0_9 a0_10 a0_11 a0_12 a0_13 a0_14 a0_15 (f_queries o0) (f_n o0)
def H0x2 (s : List Int32) (o0 : Ob) (a0_0 : Int32) (a0_1 : Int32) (a0_2 : Int32) (a0_3 : Int32) (a0_4 : Int32) (a0_5 : Int32) (a0_6 : List Int32) (a0_7 : List Int32) (a0_8 : List Int32) (a0_9 : List Int32) (a0_10 : List Int32) (a0_11 : List Int32) (a0_12 : List Int32) (a0_13 : List Int32) (a0_14 : List Int32) (a0_15 : Int32) (a0_16 : Int32) : QHeap := H0v s a0_0 a0_1 a0_2 a0_3 a0_4 a0_5 a0_6 a0_7 a0_8 a0_9 a0_10 a0_11 a0_12 a0_13 a0_14 a0_15 a0_16 (f_n o0)
def H0x3 (s : List Int32) (o0 : Ob) (a0_0 : Int32) (a0_1 : Int32) (a0_2 : Int32) (a0_3 : Int32) (a0_4 : Int32) (a0_5 : Int32) (a0_6 : List Int32) (a0_7 : List Int32) (a0_8 : List Int32) (a0_9 : List Int32) (a0_10 : List Int32) (a0_11 : List Int32) (a0_12 : List Int32) (a0_13 : List Int32) (a0_14 : List Int32) (a0_15 : Int32) (a0_16 : Int32) (a0_17 : Int32) : QHeap := H0v s a0_0 a0_1 a0_2 a0_3 a0_4 a0_5 a0_6 a0_7 a0_8 a0_9 a0_10 a0_11 a0_12 a0_13 a0_14 a0_15 a0_16 a0_17
def H0x4 (s : List Int32) (o0 : Ob) (a0_8 : List Int32) : QHeap := H0v s (f_regTuple o0) (f_regA o0) (f_regB o0) (f_regC o0) (f_regCount o0) (f_slots o0) (f_range o0) (f_slide o0) a0_8 (f_backSize o0) (f_backElem o0) (f_frontAgg o0) (f_backAgg o0) (f_snap o0) (f_reg o0) (f_capacity o0) (f_queries o0) (f_n o0)
def H0x5 (s : List Int32) (o0 : Ob) (a0_8 : List Int32) (a0_9 : List Int32) : QHeap := H0v s (f_regTuple o0) (f_regA o0) (f_regB o0) (f_regC o0) (f_regCount o0) (f_slots o0) (f_range o0) (f_slide o0) a0_8 a0_9 (f_backElem o0) (f_frontAgg o0) (f_backAgg o0) (f_snap o0) (f_reg o0) (f_capacity o0) (f_queries o0) (f_n o0)
/-- validReg(I)Z -/
def F5 (x1 : Int32) : Option (Int32) :=
 (if x1 < (0:Int32) then some (0:Int32) else (if x1 < (4:Int32) then some (1:Int32) else some (0:Int32)))
theorem tF5 (Ad : QAd n0 ad) (W : QW Z a0) {a : Nat} {σ : QHeap} (x1 : Int32) {r : Int32} (h : F5 x1 = some r) : QTri l Z n0 ad 5 (0, qentry [.ref a, .int x1] (pMaxL 5), [], σ) (some (Value.int r)) σ := by
 unfold F5 at h
 refine zS Ad W 1 (st' := (1, [vR a, vI x1], [.int x1], σ)) rfl ?_
 rcases qite h with ⟨hc14, h⟩ | ⟨hc14, h⟩
 ·refine zT Ad W (t := 13) (f := 4) rfl (XT.i0_lt_t hc14) ?_
  refine zS Ad W 1 (st' := (14, [vR a, vI x1], [.int (0:Int32)], σ)) rfl ?_
  obtain rfl := Option.some.inj h
  exact QTri.retZ rfl rfl
 ·refine zF Ad W (t := 13) (f := 4) rfl (XT.i0_lt_f hc14) ?_
  refine zS Ad W 2 (st' := (6, [vR a, vI x1], [.int (4:Int32), .int x1], σ)) rfl ?_
  rcases qite h with ⟨hc15, h⟩ | ⟨hc15, h⟩
  ·refine zF Ad W (t := 13) (f := 9) rfl (XT.ii_ge_f hc15) ?_
   refine zS Ad W 2 (st' := (14, [vR a, vI x1], [.int (1:Int32)], σ)) rfl ?_
   obtain rfl := Option.some.inj h
   exact QTri.retZ rfl rfl
  ·refine zT Ad W (t := 13) (f := 9) rfl (XT.ii_ge_t hc15) ?_
   refine zS Ad W 1 (st' := (14, [vR a, vI x1], [.int (0:Int32)], σ)) rfl ?_
   obtain rfl := Option.some.inj h
   exact QTri.retZ rfl rfl
def H0x6 (s : List Int32) (o0 : Ob) (a0_14 : List Int32) : QHeap := H0v s (f_regTuple o0) (f_regA o0) (f_regB o0) (f_regC o0) (f_regCount o0) (f_slots o0) (f_range o0) (f_slide o0) (f_frontSize o0) (f_backSize o0) (f_backElem o0) (f_frontAgg o0) (f_backAgg o0) (f_snap o0) a0_14 (f_capacity o0) (f_queries o0) (f_n o0)
/-- regSet(IIIII)V -/
def F4 (o : Ob) (x1 : Int32) (x2 : Int32) (x3 : Int32) (x4 : Int32) (x5 : Int32) : Option (Ob) :=
 (F5 x1).bind fun r16 => (if r16 = (0:Int32) then some o else (aset (f_reg o) (x1 * (4:Int32)) x2).bind fun y18 => (aset y18 ((x1 * (4:Int32)) + (1:Int32)) x3).bind fun y19 => (aset y19 ((x1 * (4:Int32)) + (2:Int32)) x4).bind fun y20 => (aset y20 ((x1 * (4:Int32)) + (3:Int32)) x5).bind fun y21 => some (s_reg o y21))
theorem tF4 (Ad : QAd n0 ad) (W : QW Z a0) (s : List Int32) (o : Ob) (x1 : Int32) (x2 : Int32) (x3 : Int32) (x4 : Int32) (x5 : Int32) {r : Ob} (h : F4 o x1 x2 x3 x4 x5 = some r) : QTri l Z n0 ad 4 (0, qentry [.ref 1, .int x1, .int x2, .int x3, .int x4, .int x5] (pMaxL 4), [], (H0 s o)) (none : Option Value) (H0 s r) := by
 unfold F4 at h
 refine zS Ad W 2 (st' := (2, [vR 1, vI x1, vI x2, vI x3, vI x4, vI x5, none], [.int x1, .ref 1], (H0 s o))) rfl ?_
 obtain ⟨r16, hr16, h⟩ := bind_eq_some_iff.mp h
 refine QTri.callP W (a := 1) (as := [.int x1]) (rest := []) (w := (some (.int r16))) (σ₁ := (H0 s o)) rfl rfl rfl rfl rfl rfl rfl rfl (tF5 Ad W x1 hr16) ?_
 rcases qite h with ⟨hc17, h⟩ | ⟨hc17, h⟩
 ·refine zF Ad W (t := 9) (f := 8) rfl (XT.i0_ne_f hc17) ?_
  obtain rfl := Option.some.inj h
  exact QTri.ret0 rfl rfl
 ·refine zT Ad W (t := 9) (f := 8) rfl (XT.i0_ne_t hc17) ?_
  refine zS Ad W 8 (st' := (21, [vR 1, vI x1, vI x2, vI x3, vI x4, vI x5, vI (x1 * (4:Int32))], [.int x2, .int (x1 * (4:Int32)), .ref 10], (H0 s o))) rfl ?_
  obtain ⟨y18, hy18, h⟩ := bind_eq_some_iff.mp h
  refine zB Ad W (f := fun y18 => (22, [vR 1, vI x1, vI x2, vI x3, vI x4, vI x5, vI (x1 * (4:Int32))], [], (H0x6 s o y18))) rfl hy18 ?_
  refine zS Ad W 6 (st' := (31, [vR 1, vI x1, vI x2, vI x3, vI x4, vI x5, vI (x1 * (4:Int32))], [.int x3, .int ((x1 * (4:Int32)) + (1:Int32)), .ref 10], (H0x6 s o y18))) rfl ?_
  obtain ⟨y19, hy19, h⟩ := bind_eq_some_iff.mp h
  refine zB Ad W (f := fun y19 => (32, [vR 1, vI x1, vI x2, vI x3, vI x4, vI x5, vI (x1 * (4:Int32))], [], (H0x6 s o y19))) rfl hy19 ?_
  refine zS Ad W 6 (st' := (42, [vR 1, vI x1, vI x2, vI x3, vI x4, vI x5, vI (x1 * (4:Int32))], [.int x4, .int ((x1 * (4:Int32)) + (2:Int32)), .ref 10], (H0x6 s o y19))) rfl ?_
  obtain ⟨y20, hy20, h⟩ := bind_eq_some_iff.mp h
  refine zB Ad W (f := fun y20 => (43, [vR 1, vI x1, vI x2, vI x3, vI x4, vI x5, vI (x1 * (4:Int32))], [], (H0x6 s o y20))) rfl hy20 ?_
  refine zS Ad W 6 (st' := (53, [vR 1, vI x1, vI x2, vI x3, vI x4, vI x5, vI (x1 * (4:Int32))], [.int x5, .int ((x1 * (4:Int32)) + (3:Int32)), .ref 10], (H0x6 s o y20))) rfl ?_
  obtain ⟨y21, hy21, h⟩ := bind_eq_some_iff.mp h
  refine zB Ad W (f := fun y21 => (54, [vR 1, vI x1, vI x2, vI x3, vI x4, vI x5, vI (x1 * (4:Int32))], [], (H0x6 s o y21))) rfl hy21 ?_
  have E22 : ((H0x6 s o y21) : QHeap) = (H0 s (s_reg o y21)) := by simp only [fs, H0, H0v, H0x6, s_reg]
  rw [E22]
  obtain rfl := Option.some.inj h
  exact QTri.ret0 rfl rfl
/-- regIdentity(I)V -/
def F3 (o : Ob) (x1 : Int32) : Option (Ob) :=
 (F4 o x1 (1:Int32) (0:Int32) (0:Int32) (1:Int32)).bind fun r23 => some r23
theorem tF3 (Ad : QAd n0 ad) (W : QW Z a0) (s : List Int32) (o : Ob) (x1 : Int32) {r : Ob} (h : F3 o x1 = some r) : QTri l Z n0 ad 3 (0, qentry [.ref 1, .int x1] (pMaxL 3), [], (H0 s o)) (none : Option Value) (H0 s r) := by
 unfold F3 at h
 refine zS Ad W 6 (st' := (6, [vR 1, vI x1], [.int (1:Int32), .int (0:Int32), .int (0:Int32), .int (1:Int32), .int x1, .ref 1], (H0 s o))) rfl ?_
 obtain ⟨r23, hr23, h⟩ := bind_eq_some_iff.mp h
 refine QTri.callP W (a := 1) (as := [.int x1, .int (1:Int32), .int (0:Int32), .int (0:Int32), .int (1:Int32)]) (rest := []) (w := none) (σ₁ := (H0 s r23)) rfl rfl rfl rfl rfl rfl rfl rfl (tF4 Ad W s o x1 (1:Int32) (0:Int32) (0:Int32) (1:Int32) hr23) ?_
 obtain rfl := Option.some.inj h
 exact QTri.ret0 rfl rfl
def H0x7 (s : List Int32) (o0 : Ob) (a0_12 : List Int32) : QHeap := H0v s (f_regTuple o0) (f_regA o0) (f_regB o0) (f_regC o0) (f_regCount o0) (f_slots o0) (f_range o0) (f_slide o0) (f_frontSize o0) (f_backSize o0) (f_backElem o0) (f_frontAgg o0) a0_12 (f_snap o0) (f_reg o0) (f_capacity o0) (f_queries o0) (f_n o0)
def B6_25 (x1 : Int32) (x3 : Int32) (v : Int32 × Ob) : Option (((Ob)) ⊕ (Int32 × Ob)) :=
  (if v.1 < (4 : Int32) then (aget (f_reg v.2) (x3 + v.1)).bind fun y30 => (aset (f_backAgg v.2) ((x1 * (4 : Int32)) + v.1) y30).bind fun y31 => some (.inr ((v.1 + (1 : Int32)), (s_backAgg v.2 y31))) else some (.inl v.2))
theorem tB6_25 (Ad : QAd n0 ad) (W : QW Z a0) (s : List Int32) (x1 : Int32) (x3 : Int32) (v : Int32 × Ob) {r : ((Ob)) ⊕ (Int32 × Ob)} {u : Option Value} {τ : QHeap} (h : B6_25 x1 x3 v = some r) (hx0 : ∀ x : Ob, r = .inl x → u = (none : Option Value) ∧ τ = (H0 s x)) (hc : ∀ x : Int32 × Ob, r = .inr x → QTri l Z n0 ad 6 (25, [vR 1, vI x1, none, vI x3, vI x.1], [], (H0 s x.2)) u τ) : QTri l Z n0 ad 6 (25, [vR 1, vI x1, none, vI x3, vI v.1], [], (H0 s v.2)) u τ := by
 unfold B6_25 at h
 refine zS Ad W 2 (st' := (28, [vR 1, vI x1, none, vI x3, vI v.1], [.int (4:Int32), .int v.1], (H0 s v.2))) rfl ?_
 rcases qite h with ⟨hc29, h⟩ | ⟨hc29, h⟩
 ·refine zF Ad W (t := 57) (f := 31) rfl (XT.ii_ge_f hc29) ?_
  refine zS Ad W 12 (st' := (49, [vR 1, vI x1, none, vI x3, vI v.1], [.int (x3 + v.1), .ref 10, .int ((x1 * (4:Int32)) + v.1), .ref 8], (H0 s v.2))) rfl ?_
  obtain ⟨y30, hy30, h⟩ := bind_eq_some_iff.mp h
  refine zB Ad W (f := fun y30 => (50, [vR 1, vI x1, none, vI x3, vI v.1], [.int y30, .int ((x1 * (4:Int32)) + v.1), .ref 8], (H0 s v.2))) rfl hy30 ?_
  obtain ⟨y31, hy31, h⟩ := bind_eq_some_iff.mp h
  refine zB Ad W (f := fun y31 => (51, [vR 1, vI x1, none, vI x3, vI v.1], [], (H0x7 s v.2 y31))) rfl hy31 ?_
  refine zS Ad W 2 (st' := (25, [vR 1, vI x1, none, vI x3, vI (v.1 + (1:Int32))], [], (H0x7 s v.2 y31))) rfl ?_
  have E32 : ((H0x7 s v.2 y31) : QHeap) = (H0 s (s_backAgg v.2 y31)) := by simp only [fs, H0, H0v, H0x7, s_backAgg]
  rw [E32]
  obtain rfl := Option.some.inj h
  exact zM [tt,tt,ff,tt,tt] (hc ((v.1 + (1:Int32)), (s_backAgg v.2 y31)) rfl)
 ·refine zT Ad W (t := 57) (f := 31) rfl (XT.ii_ge_t hc29) ?_
  obtain rfl := Option.some.inj h
  obtain ⟨rfl, rfl⟩ := hx0 v.2 rfl
  exact QTri.ret0 rfl rfl
/-- storeBackAgg(II)V -/
def F6 (o : Ob) (x1 : Int32) (x2 : Int32) : Option (Ob) :=
 (F5 x2).bind fun r25 => (if r25 = (0:Int32) then some o else (if x1 < (0:Int32) then some o else (if x1 < (4:Int32) then (loopN (B6_25 x1 (x2 * (4:Int32))) qN ((0:Int32), o)).bind fun e33 => some e33 else some o)))
theorem tF6 (Ad : QAd n0 ad) (W : QW Z a0) (s : List Int32) (o : Ob) (x1 : Int32) (x2 : Int32) {r : Ob} (h : F6 o x1 x2 = some r) : QTri l Z n0 ad 6 (0, qentry [.ref 1, .int x1, .int x2] (pMaxL 6), [], (H0 s o)) (none : Option Value) (H0 s r) := by
 unfold F6 at h
 refine zS Ad W 2 (st' := (2, [vR 1, vI x1, vI x2, none, none], [.int x2, .ref 1], (H0 s o))) rfl ?_
 obtain ⟨r25, hr25, h⟩ := bind_eq_some_iff.mp h
 refine QTri.callP W (a := 1) (as := [.int x2]) (rest := []) (w := (some (.int r25))) (σ₁ := (H0 s o)) rfl rfl rfl rfl rfl rfl rfl rfl (tF5 Ad W x2 hr25) ?_
 rcases qite h with ⟨hc26, h⟩ | ⟨hc26, h⟩
 ·refine zT Ad W (t := 17) (f := 8) rfl (XT.i0_eq_t hc26) ?_
  obtain rfl := Option.some.inj h
  exact QTri.ret0 rfl rfl
 ·refine zF Ad W (t := 17) (f := 8) rfl (XT.i0_eq_f hc26) ?_
  refine zS Ad W 1 (st' := (9, [vR 1, vI x1, vI x2, none, none], [.int x1], (H0 s o))) rfl ?_
  rcases qite h with ⟨hc27, h⟩ | ⟨hc27, h⟩
  ·refine zT Ad W (t := 17) (f := 12) rfl (XT.i0_lt_t hc27) ?_
   obtain rfl := Option.some.inj h
   exact QTri.ret0 rfl rfl
  ·refine zF Ad W (t := 17) (f := 12) rfl (XT.i0_lt_f hc27) ?_
   refine zS Ad W 2 (st' := (14, [vR 1, vI x1, vI x2, none, none], [.int (4:Int32), .int x1], (H0 s o))) rfl ?_
   rcases qite h with ⟨hc28, h⟩ | ⟨hc28, h⟩
   ·refine zT Ad W (t := 18) (f := 17) rfl (XT.ii_lt_t hc28) ?_
    refine zS Ad W 6 (st' := (25, [vR 1, vI x1, vI x2, vI (x2 * (4:Int32)), vI (0:Int32)], [], (H0 s o))) rfl ?_
    obtain ⟨e33, he33, h⟩ := bind_eq_some_iff.mp h
    refine zM [tt,tt,ff,tt,tt] (loopN_tri (B := B6_25 x1 (x2 * (4:Int32))) (T := fun lv34 => QTri l Z n0 ad 6 (25, [vR 1, vI x1, none, vI (x2 * (4:Int32)), vI lv34.1], [], (H0 s lv34.2)) (none : Option Value) (H0 s r)) (KE := fun e33a => (none : Option Value) = (none : Option Value) ∧ (H0 s r) = (H0 s e33a)) (fun lv34 r hB hE hC => tB6_25 Ad W s x1 (x2 * (4:Int32)) lv34 hB (fun x q => hE _ q) (fun x q => hC x q)) qN ((0:Int32), o) e33 he33 ?_)
    obtain rfl := Option.some.inj h
    exact ⟨rfl, rfl⟩
   ·refine zF Ad W (t := 18) (f := 17) rfl (XT.ii_lt_f hc28) ?_
    obtain rfl := Option.some.inj h
    exact QTri.ret0 rfl rfl
def H0x8 (s : List Int32) (o0 : Ob) (a0_13 : List Int32) : QHeap := H0v s (f_regTuple o0) (f_regA o0) (f_regB o0) (f_regC o0) (f_regCount o0) (f_slots o0) (f_range o0) (f_slide o0) (f_frontSize o0) (f_backSize o0) (f_backElem o0) (f_frontAgg o0) (f_backAgg o0) a0_13 (f_reg o0) (f_capacity o0) (f_queries o0) (f_n o0)
def B7_25 (x1 : Int32) (x3 : Int32) (v : Int32 × Ob) : Option (((Ob)) ⊕ (Int32 × Ob)) :=
  (if v.1 < (4 : Int32) then (aget (f_reg v.2) (x3 + v.1)).bind fun y41 => (aset (f_snap v.2) ((x1 * (4 : Int32)) + v.1) y41).bind fun y42 => some (.inr ((v.1 + (1 : Int32)), (s_snap v.2 y42))) else some (.inl v.2))
theorem tB7_25 (Ad : QAd n0 ad) (W : QW Z a0) (s : List Int32) (x1 : Int32) (x3 : Int32) (v : Int32 × Ob) {r : ((Ob)) ⊕ (Int32 × Ob)} {u : Option Value} {τ : QHeap} (h : B7_25 x1 x3 v = some r) (hx0 : ∀ x : Ob, r = .inl x → u = (none : Option Value) ∧ τ = (H0 s x)) (hc : ∀ x : Int32 × Ob, r = .inr x → QTri l Z n0 ad 7 (25, [vR 1, vI x1, none, vI x3, vI x.1], [], (H0 s x.2)) u τ) : QTri l Z n0 ad 7 (25, [vR 1, vI x1, none, vI x3, vI v.1], [], (H0 s v.2)) u τ := by
 unfold B7_25 at h
 refine zS Ad W 2 (st' := (28, [vR 1, vI x1, none, vI x3, vI v.1], [.int (4:Int32), .int v.1], (H0 s v.2))) rfl ?_
 rcases qite h with ⟨hc40, h⟩ | ⟨hc40, h⟩
 ·refine zF Ad W (t := 57) (f := 31) rfl (XT.ii_ge_f hc40) ?_
  refine zS Ad W 12 (st' := (49, [vR 1, vI x1, none, vI x3, vI v.1], [.int (x3 + v.1), .ref 10, .int ((x1 * (4:Int32)) + v.1), .ref 9], (H0 s v.2))) rfl ?_
  obtain ⟨y41, hy41, h⟩ := bind_eq_some_iff.mp h
  refine zB Ad W (f := fun y41 => (50, [vR 1, vI x1, none, vI x3, vI v.1], [.int y41, .int ((x1 * (4:Int32)) + v.1), .ref 9], (H0 s v.2))) rfl hy41 ?_
  obtain ⟨y42, hy42, h⟩ := bind_eq_some_iff.mp h
  refine zB Ad W (f := fun y42 => (51, [vR 1, vI x1, none, vI x3, vI v.1], [], (H0x8 s v.2 y42))) rfl hy42 ?_
  refine zS Ad W 2 (st' := (25, [vR 1, vI x1, none, vI x3, vI (v.1 + (1:Int32))], [], (H0x8 s v.2 y42))) rfl ?_
  have E43 : ((H0x8 s v.2 y42) : QHeap) = (H0 s (s_snap v.2 y42)) := by simp only [fs, H0, H0v, H0x8, s_snap]
  rw [E43]
  obtain rfl := Option.some.inj h
  exact zM [tt,tt,ff,tt,tt] (hc ((v.1 + (1:Int32)), (s_snap v.2 y42)) rfl)
 ·refine zT Ad W (t := 57) (f := 31) rfl (XT.ii_ge_t hc40) ?_
  obtain rfl := Option.some.inj h
  obtain ⟨rfl, rfl⟩ := hx0 v.2 rfl
  exact QTri.ret0 rfl rfl
/-- storeSnap(II)V -/
def F7 (o : Ob) (x1 : Int32) (x2 : Int32) : Option (Ob) :=
 (F5 x2).bind fun r36 => (if r36 = (0:Int32) then some o else (if x1 < (0:Int32) then some o else (if x1 < (4:Int32) then (loopN (B7_25 x1 (x2 * (4:Int32))) qN ((0:Int32), o)).bind fun e44 => some e44 else some o)))
theorem tF7 (Ad : QAd n0 ad) (W : QW Z a0) (s : List Int32) (o : Ob) (x1 : Int32) (x2 : Int32) {r : Ob} (h : F7 o x1 x2 = some r) : QTri l Z n0 ad 7 (0, qentry [.ref 1, .int x1, .int x2] (pMaxL 7), [], (H0 s o)) (none : Option Value) (H0 s r) := by
 unfold F7 at h
 refine zS Ad W 2 (st' := (2, [vR 1, vI x1, vI x2, none, none], [.int x2, .ref 1], (H0 s o))) rfl ?_
 obtain ⟨r36, hr36, h⟩ := bind_eq_some_iff.mp h
 refine QTri.callP W (a := 1) (as := [.int x2]) (rest := []) (w := (some (.int r36))) (σ₁ := (H0 s o)) rfl rfl rfl rfl rfl rfl rfl rfl (tF5 Ad W x2 hr36) ?_
 rcases qite h with ⟨hc37, h⟩ | ⟨hc37, h⟩
 ·refine zT Ad W (t := 17) (f := 8) rfl (XT.i0_eq_t hc37) ?_
  obtain rfl := Option.some.inj h
  exact QTri.ret0 rfl rfl
 ·refine zF Ad W (t := 17) (f := 8) rfl (XT.i0_eq_f hc37) ?_
  refine zS Ad W 1 (st' := (9, [vR 1, vI x1, vI x2, none, none], [.int x1], (H0 s o))) rfl ?_
  rcases qite h with ⟨hc38, h⟩ | ⟨hc38, h⟩
  ·refine zT Ad W (t := 17) (f := 12) rfl (XT.i0_lt_t hc38) ?_
   obtain rfl := Option.some.inj h
   exact QTri.ret0 rfl rfl
  ·refine zF Ad W (t := 17) (f := 12) rfl (XT.i0_lt_f hc38) ?_
   refine zS Ad W 2 (st' := (14, [vR 1, vI x1, vI x2, none, none], [.int (4:Int32), .int x1], (H0 s o))) rfl ?_
   rcases qite h with ⟨hc39, h⟩ | ⟨hc39, h⟩
   ·refine zT Ad W (t := 18) (f := 17) rfl (XT.ii_lt_t hc39) ?_
    refine zS Ad W 6 (st' := (25, [vR 1, vI x1, vI x2, vI (x2 * (4:Int32)), vI (0:Int32)], [], (H0 s o))) rfl ?_
    obtain ⟨e44, he44, h⟩ := bind_eq_some_iff.mp h
    refine zM [tt,tt,ff,tt,tt] (loopN_tri (B := B7_25 x1 (x2 * (4:Int32))) (T := fun lv45 => QTri l Z n0 ad 7 (25, [vR 1, vI x1, none, vI (x2 * (4:Int32)), vI lv45.1], [], (H0 s lv45.2)) (none : Option Value) (H0 s r)) (KE := fun e44a => (none : Option Value) = (none : Option Value) ∧ (H0 s r) = (H0 s e44a)) (fun lv45 r hB hE hC => tB7_25 Ad W s x1 (x2 * (4:Int32)) lv45 hB (fun x q => hE _ q) (fun x q => hC x q)) qN ((0:Int32), o) e44 he44 ?_)
    obtain rfl := Option.some.inj h
    exact ⟨rfl, rfl⟩
   ·refine zF Ad W (t := 18) (f := 17) rfl (XT.ii_lt_f hc39) ?_
    obtain rfl := Option.some.inj h
    exact QTri.ret0 rfl rfl
/-- resetQuery(I)V -/
def F2 (o : Ob) (x1 : Int32) : Option (Ob) :=
 (if x1 < (0:Int32) then some o else (if x1 < (4:Int32) then (aset (f_frontSize o) x1 (0:Int32)).bind fun y11 => (aset (f_backSize o) x1 (0:Int32)).bind fun y12 => (F3 (s_backSize (s_frontSize o y11) y12) (1:Int32)).bind fun r24 => (F6 r24 x1 (1:Int32)).bind fun r35 => (F7 r35 x1 (1:Int32)).bind fun r46 => some r46 else some o))
theorem tF2 (Ad : QAd n0 ad) (W : QW Z a0) (s : List Int32) (o : Ob) (x1 : Int32) {r : Ob} (h : F2 o x1 = some r) : QTri l Z n0 ad 2 (0, qentry [.ref 1, .int x1] (pMaxL 2), [], (H0 s o)) (none : Option Value) (H0 s r) := by
 unfold F2 at h
 refine zS Ad W 1 (st' := (1, [vR 1, vI x1], [.int x1], (H0 s o))) rfl ?_
 rcases qite h with ⟨hc9, h⟩ | ⟨hc9, h⟩
 ·refine zT Ad W (t := 9) (f := 4) rfl (XT.i0_lt_t hc9) ?_
  obtain rfl := Option.some.inj h
  exact QTri.ret0 rfl rfl
 ·refine zF Ad W (t := 9) (f := 4) rfl (XT.i0_lt_f hc9) ?_
  refine zS Ad W 2 (st' := (6, [vR 1, vI x1], [.int (4:Int32), .int x1], (H0 s o))) rfl ?_
  rcases qite h with ⟨hc10, h⟩ | ⟨hc10, h⟩
  ·refine zT Ad W (t := 10) (f := 9) rfl (XT.ii_lt_t hc10) ?_
   refine zS Ad W 4 (st' := (16, [vR 1, vI x1], [.int (0:Int32), .int x1, .ref 4], (H0 s o))) rfl ?_
   obtain ⟨y11, hy11, h⟩ := bind_eq_some_iff.mp h
   refine zB Ad W (f := fun y11 => (17, [vR 1, vI x1], [], (H0x4 s o y11))) rfl hy11 ?_
   refine zS Ad W 4 (st' := (23, [vR 1, vI x1], [.int (0:Int32), .int x1, .ref 5], (H0x4 s o y11))) rfl ?_
   obtain ⟨y12, hy12, h⟩ := bind_eq_some_iff.mp h
   refine zB Ad W (f := fun y12 => (24, [vR 1, vI x1], [], (H0x5 s o y11 y12))) rfl hy12 ?_
   refine zS Ad W 2 (st' := (26, [vR 1, vI x1], [.int (1:Int32), .ref 1], (H0x5 s o y11 y12))) rfl ?_
   have E13 : ((H0x5 s o y11 y12) : QHeap) = (H0 s (s_backSize (s_frontSize o y11) y12)) := by simp only [fs, H0, H0v, H0x5, s_frontSize, s_backSize]
   rw [E13]
   obtain ⟨r24, hr24, h⟩ := bind_eq_some_iff.mp h
   refine QTri.callP W (a := 1) (as := [.int (1:Int32)]) (rest := []) (w := none) (σ₁ := (H0 s r24)) rfl rfl rfl rfl rfl rfl rfl rfl (tF3 Ad W s (s_backSize (s_frontSize o y11) y12) (1:Int32) hr24) ?_
   refine zS Ad W 3 (st' := (32, [vR 1, vI x1], [.int (1:Int32), .int x1, .ref 1], (H0 s r24))) rfl ?_
   obtain ⟨r35, hr35, h⟩ := bind_eq_some_iff.mp h
   refine QTri.callP W (a := 1) (as := [.int x1, .int (1:Int32)]) (rest := []) (w := none) (σ₁ := (H0 s r35)) rfl rfl rfl rfl rfl rfl rfl rfl (tF6 Ad W s r24 x1 (1:Int32) hr35) ?_
   refine zS Ad W 3 (st' := (38, [vR 1, vI x1], [.int (1:Int32), .int x1, .ref 1], (H0 s r35))) rfl ?_
   obtain ⟨r46, hr46, h⟩ := bind_eq_some_iff.mp h
   refine QTri.callP W (a := 1) (as := [.int x1, .int (1:Int32)]) (rest := []) (w := none) (σ₁ := (H0 s r46)) rfl rfl rfl rfl rfl rfl rfl rfl (tF7 Ad W s r35 x1 (1:Int32) hr46) ?_
   obtain rfl := Option.some.inj h
   exact QTri.ret0 rfl rfl
  ·refine zF Ad W (t := 10) (f := 9) rfl (XT.ii_lt_f hc10) ?_
   obtain rfl := Option.some.inj h
   exact QTri.ret0 rfl rfl
def B1_138 (v : Int32 × Ob) : Option (((Ob)) ⊕ (Int32 × Ob)) :=
  (if v.1 < (4 : Int32) then (F2 v.2 v.1).bind fun r47 => some (.inr ((v.1 + (1 : Int32)), r47)) else some (.inl v.2))
theorem tB1_138 (Ad : QAd n0 ad) (W : QW Z a0) (s : List Int32) (v : Int32 × Ob) {r : ((Ob)) ⊕ (Int32 × Ob)} {u : Option Value} {τ : QHeap} (h : B1_138 v = some r) (hx0 : ∀ x : Ob, r = .inl x → u = (none : Option Value) ∧ τ = (H0 s x)) (hc : ∀ x : Int32 × Ob, r = .inr x → QTri l Z n0 ad 1 (138, [vR 1, none, none, vI x.1], [], (H0 s x.2)) u τ) : QTri l Z n0 ad 1 (138, [vR 1, none, none, vI v.1], [], (H0 s v.2)) u τ := by
 unfold B1_138 at h
 refine zS Ad W 2 (st' := (140, [vR 1, none, none, vI v.1], [.int (4:Int32), .int v.1], (H0 s v.2))) rfl ?_
 rcases qite h with ⟨hc8, h⟩ | ⟨hc8, h⟩
 ·refine zF Ad W (t := 154) (f := 143) rfl (XT.ii_ge_f hc8) ?_
  refine zS Ad W 2 (st' := (145, [vR 1, none, none, vI v.1], [.int v.1, .ref 1], (H0 s v.2))) rfl ?_
  obtain ⟨r47, hr47, h⟩ := bind_eq_some_iff.mp h
  refine QTri.callP W (a := 1) (as := [.int v.1]) (rest := []) (w := none) (σ₁ := (H0 s r47)) rfl rfl rfl rfl rfl rfl rfl rfl (tF2 Ad W s v.2 v.1 hr47) ?_
  refine zS Ad W 2 (st' := (138, [vR 1, none, none, vI (v.1 + (1:Int32))], [], (H0 s r47))) rfl ?_
  obtain rfl := Option.some.inj h
  exact zM [tt,ff,ff,tt] (hc ((v.1 + (1:Int32)), r47) rfl)
 ·refine zT Ad W (t := 154) (f := 143) rfl (XT.ii_ge_t hc8) ?_
  obtain rfl := Option.some.inj h
  obtain ⟨rfl, rfl⟩ := hx0 v.2 rfl
  exact QTri.ret0 rfl rfl
/-- init(I)V -/
def F1 (x1 : Int32) : Option (Ob) :=
 (loopN (B1_138) qN ((0:Int32), (s_n (s_queries (s_capacity (s_reg (s_snap (s_backAgg (s_frontAgg (s_backElem (s_backSize (s_frontSize (s_slide (s_range (s_slots (s_regCount (s_regC (s_regB (s_regA (s_regTuple ob0 (0:Int32)) (1:Int32)) (2:Int32)) (3:Int32)) (4:Int32)) (32:Int32)) (List.replicate 4 0)) (List.replicate 4 0)) (List.replicate 4 0)) (List.replicate 4 0)) (List.replicate 512 0)) (List.replicate 512 0)) (List.replicate 16 0)) (List.replicate 16 0)) (List.replicate 16 0)) (if (4:Int32) < (if x1 < (1:Int32) then (1:Int32) else x1) then (4:Int32) else (if x1 < (1:Int32) then (1:Int32) else x1))) (0:Int32)) (0:Int32)))).bind fun e48 => some e48
theorem tF1 (Ad : QAd n0 ad) (W : QW Z a0) (s : List Int32) (x1 : Int32) {r : Ob} (h : F1 x1 = some r) : QTri l Z n0 ad 1 (0, qentry [.ref 1, .int x1] (pMaxL 1), [], [.inr (.inl (.int, s)), .inl [.int (f_regTuple ob0), .int (f_regA ob0), .int (f_regB ob0), .int (f_regC ob0), .int (f_regCount ob0), .int (f_slots ob0), .null, .null, .null, .null, .null, .null, .null, .null, .null, .int (f_capacity ob0), .int (f_queries ob0), .int (f_n ob0)]]) (none : Option Value) (H0 s r) := by
 unfold F1 at h
 refine zS Ad W 1 (st' := (1, [vR 1, vI x1, none, none], [.ref 1], [.inr (.inl (.int, s)), .inl [.int (f_regTuple ob0), .int (f_regA ob0), .int (f_regB ob0), .int (f_regC ob0), .int (f_regCount ob0), .int (f_slots ob0), .null, .null, .null, .null, .null, .null, .null, .null, .null, .int (f_capacity ob0), .int (f_queries ob0), .int (f_n ob0)]])) rfl ?_
 refine QTri.callO W rfl rfl rfl ?_
 refine zS Ad W 3 (st' := (9, [vR 1, vI x1, none, none], [], [.inr (.inl (.int, s)), .inl [.int (0:Int32), .int (f_regA ob0), .int (f_regB ob0), .int (f_regC ob0), .int (f_regCount ob0), .int (f_slots ob0), .null, .null, .null, .null, .null, .null, .null, .null, .null, .int (f_capacity ob0), .int (f_queries ob0), .int (f_n ob0)]])) rfl ?_
 refine zS Ad W 3 (st' := (14, [vR 1, vI x1, none, none], [], [.inr (.inl (.int, s)), .inl [.int (0:Int32), .int (1:Int32), .int (f_regB ob0), .int (f_regC ob0), .int (f_regCount ob0), .int (f_slots ob0), .null, .null, .null, .null, .null, .null, .null, .null, .null, .int (f_capacity ob0), .int (f_queries ob0), .int (f_n ob0)]])) rfl ?_
 refine zS Ad W 3 (st' := (19, [vR 1, vI x1, none, none], [], [.inr (.inl (.int, s)), .inl [.int (0:Int32), .int (1:Int32), .int (2:Int32), .int (f_regC ob0), .int (f_regCount ob0), .int (f_slots ob0), .null, .null, .null, .null, .null, .null, .null, .null, .null, .int (f_capacity ob0), .int (f_queries ob0), .int (f_n ob0)]])) rfl ?_
 refine zS Ad W 3 (st' := (24, [vR 1, vI x1, none, none], [], [.inr (.inl (.int, s)), .inl [.int (0:Int32), .int (1:Int32), .int (2:Int32), .int (3:Int32), .int (f_regCount ob0), .int (f_slots ob0), .null, .null, .null, .null, .null, .null, .null, .null, .null, .int (f_capacity ob0), .int (f_queries ob0), .int (f_n ob0)]])) rfl ?_
 refine zS Ad W 3 (st' := (29, [vR 1, vI x1, none, none], [], [.inr (.inl (.int, s)), .inl [.int (0:Int32), .int (1:Int32), .int (2:Int32), .int (3:Int32), .int (4:Int32), .int (f_slots ob0), .null, .null, .null, .null, .null, .null, .null, .null, .null, .int (f_capacity ob0), .int (f_queries ob0), .int (f_n ob0)]])) rfl ?_
 refine zS Ad W 3 (st' := (35, [vR 1, vI x1, none, none], [], [.inr (.inl (.int, s)), .inl [.int (0:Int32), .int (1:Int32), .int (2:Int32), .int (3:Int32), .int (4:Int32), .int (32:Int32), .null, .null, .null, .null, .null, .null, .null, .null, .null, .int (f_capacity ob0), .int (f_queries ob0), .int (f_n ob0)]])) rfl ?_
 refine zS Ad W 3 (st' := (39, [vR 1, vI x1, none, none], [.ref 2, .ref 1], [.inr (.inl (.int, s)), .inl [.int (0:Int32), .int (1:Int32), .int (2:Int32), .int (3:Int32), .int (4:Int32), .int (32:Int32), .null, .null, .null, .null, .null, .null, .null, .null, .null, .int (f_capacity ob0), .int (f_queries ob0), .int (f_n ob0)], .inr (.inl (.int, (List.replicate 4 0)))])) rfl ?_
 refine zS Ad W 1 (st' := (42, [vR 1, vI x1, none, none], [], [.inr (.inl (.int, s)), .inl [.int (0:Int32), .int (1:Int32), .int (2:Int32), .int (3:Int32), .int (4:Int32), .int (32:Int32), .ref 2, .null, .null, .null, .null, .null, .null, .null, .null, .int (f_capacity ob0), .int (f_queries ob0), .int (f_n ob0)], .inr (.inl (.int, (List.replicate 4 0)))])) rfl ?_
 refine zS Ad W 3 (st' := (46, [vR 1, vI x1, none, none], [.ref 3, .ref 1], [.inr (.inl (.int, s)), .inl [.int (0:Int32), .int (1:Int32), .int (2:Int32), .int (3:Int32), .int (4:Int32), .int (32:Int32), .ref 2, .null, .null, .null, .null, .null, .null, .null, .null, .int (f_capacity ob0), .int (f_queries ob0), .int (f_n ob0)], .inr (.inl (.int, (List.replicate 4 0))), .inr (.inl (.int, (List.replicate 4 0)))])) rfl ?_
 refine zS Ad W 1 (st' := (49, [vR 1, vI x1, none, none], [], [.inr (.inl (.int, s)), .inl [.int (0:Int32), .int (1:Int32), .int (2:Int32), .int (3:Int32), .int (4:Int32), .int (32:Int32), .ref 2, .ref 3, .null, .null, .null, .null, .null, .null, .null, .int (f_capacity ob0), .int (f_queries ob0), .int (f_n ob0)], .inr (.inl (.int, (List.replicate 4 0))), .inr (.inl (.int, (List.replicate 4 0)))])) rfl ?_
 refine zS Ad W 3 (st' := (53, [vR 1, vI x1, none, none], [.ref 4, .ref 1], [.inr (.inl (.int, s)), .inl [.int (0:Int32), .int (1:Int32), .int (2:Int32), .int (3:Int32), .int (4:Int32), .int (32:Int32), .ref 2, .ref 3, .null, .null, .null, .null, .null, .null, .null, .int (f_capacity ob0), .int (f_queries ob0), .int (f_n ob0)], .inr (.inl (.int, (List.replicate 4 0))), .inr (.inl (.int, (List.replicate 4 0))), .inr (.inl (.int, (List.replicate 4 0)))])) rfl ?_
 refine zS Ad W 1 (st' := (56, [vR 1, vI x1, none, none], [], [.inr (.inl (.int, s)), .inl [.int (0:Int32), .int (1:Int32), .int (2:Int32), .int (3:Int32), .int (4:Int32), .int (32:Int32), .ref 2, .ref 3, .ref 4, .null, .null, .null, .null, .null, .null, .int (f_capacity ob0), .int (f_queries ob0), .int (f_n ob0)], .inr (.inl (.int, (List.replicate 4 0))), .inr (.inl (.int, (List.replicate 4 0))), .inr (.inl (.int, (List.replicate 4 0)))])) rfl ?_
 refine zS Ad W 3 (st' := (60, [vR 1, vI x1, none, none], [.ref 5, .ref 1], [.inr (.inl (.int, s)), .inl [.int (0:Int32), .int (1:Int32), .int (2:Int32), .int (3:Int32), .int (4:Int32), .int (32:Int32), .ref 2, .ref 3, .ref 4, .null, .null, .null, .null, .null, .null, .int (f_capacity ob0), .int (f_queries ob0), .int (f_n ob0)], .inr (.inl (.int, (List.replicate 4 0))), .inr (.inl (.int, (List.replicate 4 0))), .inr (.inl (.int, (List.replicate 4 0))), .inr (.inl (.int, (List.replicate 4 0)))])) rfl ?_
 refine zS Ad W 1 (st' := (63, [vR 1, vI x1, none, none], [], [.inr (.inl (.int, s)), .inl [.int (0:Int32), .int (1:Int32), .int (2:Int32), .int (3:Int32), .int (4:Int32), .int (32:Int32), .ref 2, .ref 3, .ref 4, .ref 5, .null, .null, .null, .null, .null, .int (f_capacity ob0), .int (f_queries ob0), .int (f_n ob0)], .inr (.inl (.int, (List.replicate 4 0))), .inr (.inl (.int, (List.replicate 4 0))), .inr (.inl (.int, (List.replicate 4 0))), .inr (.inl (.int, (List.replicate 4 0)))])) rfl ?_
 refine zS Ad W 3 (st' := (69, [vR 1, vI x1, none, none], [.ref 6, .ref 1], [.inr (.inl (.int, s)), .inl [.int (0:Int32), .int (1:Int32), .int (2:Int32), .int (3:Int32), .int (4:Int32), .int (32:Int32), .ref 2, .ref 3, .ref 4, .ref 5, .null, .null, .null, .null, .null, .int (f_capacity ob0), .int (f_queries ob0), .int (f_n ob0)], .inr (.inl (.int, (List.replicate 4 0))), .inr (.inl (.int, (List.replicate 4 0))), .inr (.inl (.int, (List.replicate 4 0))), .inr (.inl (.int, (List.replicate 4 0))), .inr (.inl (.int, (List.replicate 512 0)))])) rfl ?_
 refine zS Ad W 1 (st' := (72, [vR 1, vI x1, none, none], [], [.inr (.inl (.int, s)), .inl [.int (0:Int32), .int (1:Int32), .int (2:Int32), .int (3:Int32), .int (4:Int32), .int (32:Int32), .ref 2, .ref 3, .ref 4, .ref 5, .ref 6, .null, .null, .null, .null, .int (f_capacity ob0), .int (f_queries ob0), .int (f_n ob0)], .inr (.inl (.int, (List.replicate 4 0))), .inr (.inl (.int, (List.replicate 4 0))), .inr (.inl (.int, (List.replicate 4 0))), .inr (.inl (.int, (List.replicate 4 0))), .inr (.inl (.int, (List.replicate 512 0)))])) rfl ?_
 refine zS Ad W 3 (st' := (78, [vR 1, vI x1, none, none], [.ref 7, .ref 1], [.inr (.inl (.int, s)), .inl [.int (0:Int32), .int (1:Int32), .int (2:Int32), .int (3:Int32), .int (4:Int32), .int (32:Int32), .ref 2, .ref 3, .ref 4, .ref 5, .ref 6, .null, .null, .null, .null, .int (f_capacity ob0), .int (f_queries ob0), .int (f_n ob0)], .inr (.inl (.int, (List.replicate 4 0))), .inr (.inl (.int, (List.replicate 4 0))), .inr (.inl (.int, (List.replicate 4 0))), .inr (.inl (.int, (List.replicate 4 0))), .inr (.inl (.int, (List.replicate 512 0))), .inr (.inl (.int, (List.replicate 512 0)))])) rfl ?_
 refine zS Ad W 1 (st' := (81, [vR 1, vI x1, none, none], [], [.inr (.inl (.int, s)), .inl [.int (0:Int32), .int (1:Int32), .int (2:Int32), .int (3:Int32), .int (4:Int32), .int (32:Int32), .ref 2, .ref 3, .ref 4, .ref 5, .ref 6, .ref 7, .null, .null, .null, .int (f_capacity ob0), .int (f_queries ob0), .int (f_n ob0)], .inr (.inl (.int, (List.replicate 4 0))), .inr (.inl (.int, (List.replicate 4 0))), .inr (.inl (.int, (List.replicate 4 0))), .inr (.inl (.int, (List.replicate 4 0))), .inr (.inl (.int, (List.replicate 512 0))), .inr (.inl (.int, (List.replicate 512 0)))])) rfl ?_
 refine zS Ad W 3 (st' := (86, [vR 1, vI x1, none, none], [.ref 8, .ref 1], [.inr (.inl (.int, s)), .inl [.int (0:Int32), .int (1:Int32), .int (2:Int32), .int (3:Int32), .int (4:Int32), .int (32:Int32), .ref 2, .ref 3, .ref 4, .ref 5, .ref 6, .ref 7, .null, .null, .null, .int (f_capacity ob0), .int (f_queries ob0), .int (f_n ob0)], .inr (.inl (.int, (List.replicate 4 0))), .inr (.inl (.int, (List.replicate 4 0))), .inr (.inl (.int, (List.replicate 4 0))), .inr (.inl (.int, (List.replicate 4 0))), .inr (.inl (.int, (List.replicate 512 0))), .inr (.inl (.int, (List.replicate 512 0))), .inr (.inl (.int, (List.replicate 16 0)))])) rfl ?_
 refine zS Ad W 1 (st' := (89, [vR 1, vI x1, none, none], [], [.inr (.inl (.int, s)), .inl [.int (0:Int32), .int (1:Int32), .int (2:Int32), .int (3:Int32), .int (4:Int32), .int (32:Int32), .ref 2, .ref 3, .ref 4, .ref 5, .ref 6, .ref 7, .ref 8, .null, .null, .int (f_capacity ob0), .int (f_queries ob0), .int (f_n ob0)], .inr (.inl (.int, (List.replicate 4 0))), .inr (.inl (.int, (List.replicate 4 0))), .inr (.inl (.int, (List.replicate 4 0))), .inr (.inl (.int, (List.replicate 4 0))), .inr (.inl (.int, (List.replicate 512 0))), .inr (.inl (.int, (List.replicate 512 0))), .inr (.inl (.int, (List.replicate 16 0)))])) rfl ?_
 refine zS Ad W 3 (st' := (94, [vR 1, vI x1, none, none], [.ref 9, .ref 1], [.inr (.inl (.int, s)), .inl [.int (0:Int32), .int (1:Int32), .int (2:Int32), .int (3:Int32), .int (4:Int32), .int (32:Int32), .ref 2, .ref 3, .ref 4, .ref 5, .ref 6, .ref 7, .ref 8, .null, .null, .int (f_capacity ob0), .int (f_queries ob0), .int (f_n ob0)], .inr (.inl (.int, (List.replicate 4 0))), .inr (.inl (.int, (List.replicate 4 0))), .inr (.inl (.int, (List.replicate 4 0))), .inr (.inl (.int, (List.replicate 4 0))), .inr (.inl (.int, (List.replicate 512 0))), .inr (.inl (.int, (List.replicate 512 0))), .inr (.inl (.int, (List.replicate 16 0))), .inr (.inl (.int, (List.replicate 16 0)))])) rfl ?_
 refine zS Ad W 1 (st' := (97, [vR 1, vI x1, none, none], [], [.inr (.inl (.int, s)), .inl [.int (0:Int32), .int (1:Int32), .int (2:Int32), .int (3:Int32), .int (4:Int32), .int (32:Int32), .ref 2, .ref 3, .ref 4, .ref 5, .ref 6, .ref 7, .ref 8, .ref 9, .null, .int (f_capacity ob0), .int (f_queries ob0), .int (f_n ob0)], .inr (.inl (.int, (List.replicate 4 0))), .inr (.inl (.int, (List.replicate 4 0))), .inr (.inl (.int, (List.replicate 4 0))), .inr (.inl (.int, (List.replicate 4 0))), .inr (.inl (.int, (List.replicate 512 0))), .inr (.inl (.int, (List.replicate 512 0))), .inr (.inl (.int, (List.replicate 16 0))), .inr (.inl (.int, (List.replicate 16 0)))])) rfl ?_
 refine zS Ad W 3 (st' := (102, [vR 1, vI x1, none, none], [.ref 10, .ref 1], [.inr (.inl (.int, s)), .inl [.int (0:Int32), .int (1:Int32), .int (2:Int32), .int (3:Int32), .int (4:Int32), .int (32:Int32), .ref 2, .ref 3, .ref 4, .ref 5, .ref 6, .ref 7, .ref 8, .ref 9, .null, .int (f_capacity ob0), .int (f_queries ob0), .int (f_n ob0)], .inr (.inl (.int, (List.replicate 4 0))), .inr (.inl (.int, (List.replicate 4 0))), .inr (.inl (.int, (List.replicate 4 0))), .inr (.inl (.int, (List.replicate 4 0))), .inr (.inl (.int, (List.replicate 512 0))), .inr (.inl (.int, (List.replicate 512 0))), .inr (.inl (.int, (List.replicate 16 0))), .inr (.inl (.int, (List.replicate 16 0))), .inr (.inl (.int, (List.replicate 16 0)))])) rfl ?_
 refine zS Ad W 1 (st' := (105, [vR 1, vI x1, none, none], [], (H0x0 s ob0 (0:Int32) (1:Int32) (2:Int32) (3:Int32) (4:Int32) (32:Int32) (List.replicate 4 0) (List.replicate 4 0) (List.replicate 4 0) (List.replicate 4 0) (List.replicate 512 0) (List.replicate 512 0) (List.replicate 16 0) (List.replicate 16 0) (List.replicate 16 0)))) rfl ?_
 refine zS Ad W 4 (st' := (109, [vR 1, vI x1, vI x1, none], [.int (1:Int32), .int x1], (H0x0 s ob0 (0:Int32) (1:Int32) (2:Int32) (3:Int32) (4:Int32) (32:Int32) (List.replicate 4 0) (List.replicate 4 0) (List.replicate 4 0) (List.replicate 4 0) (List.replicate 512 0) (List.replicate 512 0) (List.replicate 16 0) (List.replicate 16 0) (List.replicate 16 0)))) rfl ?_
 have K2 : ∀ z1 : Int32, z1 = (if x1 < (1:Int32) then (1:Int32) else x1) → QTri l Z n0 ad 1 (114, [vR 1, none, vI z1, none], [], (H0x0 s ob0 (0:Int32) (1:Int32) (2:Int32) (3:Int32) (4:Int32) (32:Int32) (List.replicate 4 0) (List.replicate 4 0) (List.replicate 4 0) (List.replicate 4 0) (List.replicate 512 0) (List.replicate 512 0) (List.replicate 16 0) (List.replicate 16 0) (List.replicate 16 0))) (none : Option Value) (H0 s r) := by
  intro z1 ez1
  subst ez1
  refine zS Ad W 2 (st' := (116, [vR 1, none, vI (if x1 < (1:Int32) then (1:Int32) else x1), none], [.int (4:Int32), .int (if x1 < (1:Int32) then (1:Int32) else x1)], (H0x0 s ob0 (0:Int32) (1:Int32) (2:Int32) (3:Int32) (4:Int32) (32:Int32) (List.replicate 4 0) (List.replicate 4 0) (List.replicate 4 0) (List.replicate 4 0) (List.replicate 512 0) (List.replicate 512 0) (List.replicate 16 0) (List.replicate 16 0) (List.replicate 16 0)))) rfl ?_
  have K5 : ∀ z4 : Int32, z4 = (if (4:Int32) < (if x1 < (1:Int32) then (1:Int32) else x1) then (4:Int32) else (if x1 < (1:Int32) then (1:Int32) else x1)) → QTri l Z n0 ad 1 (121, [vR 1, none, vI z4, none], [], (H0x0 s ob0 (0:Int32) (1:Int32) (2:Int32) (3:Int32) (4:Int32) (32:Int32) (List.replicate 4 0) (List.replicate 4 0) (List.replicate 4 0) (List.replicate 4 0) (List.replicate 512 0) (List.replicate 512 0) (List.replicate 16 0) (List.replicate 16 0) (List.replicate 16 0))) (none : Option Value) (H0 s r) := by
   intro z4 ez4
   subst ez4
   refine zS Ad W 3 (st' := (126, [vR 1, none, vI (if (4:Int32) < (if x1 < (1:Int32) then (1:Int32) else x1) then (4:Int32) else (if x1 < (1:Int32) then (1:Int32) else x1)), none], [], (H0x1 s ob0 (0:Int32) (1:Int32) (2:Int32) (3:Int32) (4:Int32) (32:Int32) (List.replicate 4 0) (List.replicate 4 0) (List.replicate 4 0) (List.replicate 4 0) (List.replicate 512 0) (List.replicate 512 0) (List.replicate 16 0) (List.replicate 16 0) (List.replicate 16 0) (if (4:Int32) < (if x1 < (1:Int32) then (1:Int32) else x1) then (4:Int32) else (if x1 < (1:Int32) then (1:Int32) else x1))))) rfl ?_
   refine zS Ad W 3 (st' := (131, [vR 1, none, vI (if (4:Int32) < (if x1 < (1:Int32) then (1:Int32) else x1) then (4:Int32) else (if x1 < (1:Int32) then (1:Int32) else x1)), none], [], (H0x2 s ob0 (0:Int32) (1:Int32) (2:Int32) (3:Int32) (4:Int32) (32:Int32) (List.replicate 4 0) (List.replicate 4 0) (List.replicate 4 0) (List.replicate 4 0) (List.replicate 512 0) (List.replicate 512 0) (List.replicate 16 0) (List.replicate 16 0) (List.replicate 16 0) (if (4:Int32) < (if x1 < (1:Int32) then (1:Int32) else x1) then (4:Int32) else (if x1 < (1:Int32) then (1:Int32) else x1)) (0:Int32)))) rfl ?_
   refine zS Ad W 3 (st' := (136, [vR 1, none, vI (if (4:Int32) < (if x1 < (1:Int32) then (1:Int32) else x1) then (4:Int32) else (if x1 < (1:Int32) then (1:Int32) else x1)), none], [], (H0x3 s ob0 (0:Int32) (1:Int32) (2:Int32) (3:Int32) (4:Int32) (32:Int32) (List.replicate 4 0) (List.replicate 4 0) (List.replicate 4 0) (List.replicate 4 0) (List.replicate 512 0) (List.replicate 512 0) (List.replicate 16 0) (List.replicate 16 0) (List.replicate 16 0) (if (4:Int32) < (if x1 < (1:Int32) then (1:Int32) else x1) then (4:Int32) else (if x1 < (1:Int32) then (1:Int32) else x1)) (0:Int32) (0:Int32)))) rfl ?_
   refine zS Ad W 2 (st' := (138, [vR 1, none, vI (if (4:Int32) < (if x1 < (1:Int32) then (1:Int32) else x1) then (4:Int32) else (if x1 < (1:Int32) then (1:Int32) else x1)), vI (0:Int32)], [], (H0x3 s ob0 (0:Int32) (1:Int32) (2:Int32) (3:Int32) (4:Int32) (32:Int32) (List.replicate 4 0) (List.replicate 4 0) (List.replicate 4 0) (List.replicate 4 0) (List.replicate 512 0) (List.replicate 512 0) (List.replicate 16 0) (List.replicate 16 0) (List.replicate 16 0) (if (4:Int32) < (if x1 < (1:Int32) then (1:Int32) else x1) then (4:Int32) else (if x1 < (1:Int32) then (1:Int32) else x1)) (0:Int32) (0:Int32)))) rfl ?_
   have E7 : ((H0x3 s ob0 (0:Int32) (1:Int32) (2:Int32) (3:Int32) (4:Int32) (32:Int32) (List.replicate 4 0) (List.replicate 4 0) (List.replicate 4 0) (List.replicate 4 0) (List.replicate 512 0) (List.replicate 512 0) (List.replicate 16 0) (List.replicate 16 0) (List.replicate 16 0) (if (4:Int32) < (if x1 < (1:Int32) then (1:Int32) else x1) then (4:Int32) else (if x1 < (1:Int32) then (1:Int32) else x1)) (0:Int32) (0:Int32)) : QHeap) = (H0 s (s_n (s_queries (s_capacity (s_reg (s_snap (s_backAgg (s_frontAgg (s_backElem (s_backSize (s_frontSize (s_slide (s_range (s_slots (s_regCount (s_regC (s_regB (s_regA (s_regTuple ob0 (0:Int32)) (1:Int32)) (2:Int32)) (3:Int32)) (4:Int32)) (32:Int32)) (List.replicate 4 0)) (List.replicate 4 0)) (List.replicate 4 0)) (List.replicate 4 0)) (List.replicate 512 0)) (List.replicate 512 0)) (List.replicate 16 0)) (List.replicate 16 0)) (List.replicate 16 0)) (if (4:Int32) < (if x1 < (1:Int32) then (1:Int32) else x1) then (4:Int32) else (if x1 < (1:Int32) then (1:Int32) else x1))) (0:Int32)) (0:Int32))) := by simp only [fs, H0, H0v, H0x3, s_regTuple, s_regA, s_regB, s_regC, s_regCount, s_slots, s_range, s_slide, s_frontSize, s_backSize, s_backElem, s_frontAgg, s_backAgg, s_snap, s_reg, s_capacity, s_queries, s_n, ob0]
   rw [E7]
   obtain ⟨e48, he48, h⟩ := bind_eq_some_iff.mp h
   refine zM [tt,ff,ff,tt] (loopN_tri (B := B1_138) (T := fun lv49 => QTri l Z n0 ad 1 (138, [vR 1, none, none, vI lv49.1], [], (H0 s lv49.2)) (none : Option Value) (H0 s r)) (KE := fun e48a => (none : Option Value) = (none : Option Value) ∧ (H0 s r) = (H0 s e48a)) (fun lv49 r hB hE hC => tB1_138 Ad W s lv49 hB (fun x q => hE _ q) (fun x q => hC x q)) qN ((0:Int32), (s_n (s_queries (s_capacity (s_reg (s_snap (s_backAgg (s_frontAgg (s_backElem (s_backSize (s_frontSize (s_slide (s_range (s_slots (s_regCount (s_regC (s_regB (s_regA (s_regTuple ob0 (0:Int32)) (1:Int32)) (2:Int32)) (3:Int32)) (4:Int32)) (32:Int32)) (List.replicate 4 0)) (List.replicate 4 0)) (List.replicate 4 0)) (List.replicate 4 0)) (List.replicate 512 0)) (List.replicate 512 0)) (List.replicate 16 0)) (List.replicate 16 0)) (List.replicate 16 0)) (if (4:Int32) < (if x1 < (1:Int32) then (1:Int32) else x1) then (4:Int32) else (if x1 < (1:Int32) then (1:Int32) else x1))) (0:Int32)) (0:Int32))) e48 he48 ?_)
   obtain rfl := Option.some.inj h
   exact ⟨rfl, rfl⟩
  rcases em ((4:Int32) < (if x1 < (1:Int32) then (1:Int32) else x1)) with hc6 | hc6
  ·refine zF Ad W (t := 121) (f := 119) rfl (XT.ii_le_f hc6) ?_
   refine zS Ad W 2 (st' := (121, [vR 1, none, vI (4:Int32), none], [], (H0x0 s ob0 (0:Int32) (1:Int32) (2:Int32) (3:Int32) (4:Int32) (32:Int32) (List.replicate 4 0) (List.replicate 4 0) (List.replicate 4 0) (List.replicate 4 0) (List.replicate 512 0) (List.replicate 512 0) (List.replicate 16 0) (List.replicate 16 0) (List.replicate 16 0)))) rfl ?_
   exact zM [tt,ff,tt,ff] (K5 _ (if_pos hc6).symm)
  ·refine zT Ad W (t := 121) (f := 119) rfl (XT.ii_le_t hc6) ?_
   exact zM [tt,ff,tt,ff] (K5 _ (if_neg hc6).symm)
 rcases em (x1 < (1:Int32)) with hc3 | hc3
 ·refine zF Ad W (t := 114) (f := 112) rfl (XT.ii_ge_f hc3) ?_
  refine zS Ad W 2 (st' := (114, [vR 1, vI x1, vI (1:Int32), none], [], (H0x0 s ob0 (0:Int32) (1:Int32) (2:Int32) (3:Int32) (4:Int32) (32:Int32) (List.replicate 4 0) (List.replicate 4 0) (List.replicate 4 0) (List.replicate 4 0) (List.replicate 512 0) (List.replicate 512 0) (List.replicate 16 0) (List.replicate 16 0) (List.replicate 16 0)))) rfl ?_
  exact zM [tt,ff,tt,ff] (K2 _ (if_pos hc3).symm)
 ·refine zT Ad W (t := 114) (f := 112) rfl (XT.ii_ge_t hc3) ?_
  exact zM [tt,ff,tt,ff] (K2 _ (if_neg hc3).symm)
def H0x9 (s : List Int32) (o0 : Ob) (a0_6 : List Int32) : QHeap := H0v s (f_regTuple o0) (f_regA o0) (f_regB o0) (f_regC o0) (f_regCount o0) (f_slots o0) a0_6 (f_slide o0) (f_frontSize o0) (f_backSize o0) (f_backElem o0) (f_frontAgg o0) (f_backAgg o0) (f_snap o0) (f_reg o0) (f_capacity o0) (f_queries o0) (f_n o0)
def H0x10 (s : List Int32) (o0 : Ob) (a0_6 : List Int32) (a0_7 : List Int32) : QHeap := H0v s (f_regTuple o0) (f_regA o0) (f_regB o0) (f_regC o0) (f_regCount o0) (f_slots o0) a0_6 a0_7 (f_frontSize o0) (f_backSize o0) (f_backElem o0) (f_frontAgg o0) (f_backAgg o0) (f_snap o0) (f_reg o0) (f_capacity o0) (f_queries o0) (f_n o0)
def H0x11 (s : List Int32) (o0 : Ob) (a0_16 : Int32) : QHeap := H0v s (f_regTuple o0) (f_regA o0) (f_regB o0) (f_regC o0) (f_regCount o0) (f_slots o0) (f_range o0) (f_slide o0) (f_frontSize o0) (f_backSize o0) (f_backElem o0) (f_frontAgg o0) (f_backAgg o0) (f_snap o0) (f_reg o0) (f_capacity o0) a0_16 (f_n o0)
/-- addQuery(II)I -/
def F10 (o : Ob) (x1 : Int32) (x2 : Int32) : Option (Int32 × Ob) :=
 (if (f_n o) = (0:Int32) then (if (f_queries o) < (f_capacity o) then (if x1 < (1:Int32) then some ((-1:Int32), o) else (if (32:Int32) < x1 then some ((-1:Int32), o) else (if x2 < (1:Int32) then some ((-1:Int32), o) else (if (32:Int32) < x2 then some ((-1:Int32), o) else (aset (f_range o) (f_queries o) x1).bind fun y65 => (aset (f_slide o) (f_queries o) x2).bind fun y66 => (F2 (s_slide (s_range o y65) y66) (f_queries o)).bind fun r68 => some ((f_queries o), (s_queries r68 ((f_queries r68) + (1:Int32)))))))) else some ((-1:Int32), o)) else some ((-1:Int32), o))
theorem tF10 (Ad : QAd n0 ad) (W : QW Z a0) (s : List Int32) (o : Ob) (x1 : Int32) (x2 : Int32) {r : Int32 × Ob} (h : F10 o x1 x2 = some r) : QTri l Z n0 ad 10 (0, qentry [.ref 1, .int x1, .int x2] (pMaxL 10), [], (H0 s o)) (some (Value.int r.1)) (H0 s r.2) := by
 unfold F10 at h
 refine zS Ad W 2 (st' := (4, [vR 1, vI x1, vI x2, none], [.int (f_n o)], (H0 s o))) rfl ?_
 rcases qite h with ⟨hc59, h⟩ | ⟨hc59, h⟩
 ·refine zT Ad W (t := 9) (f := 7) rfl (XT.i0_eq_t hc59) ?_
  refine zS Ad W 4 (st' := (17, [vR 1, vI x1, vI x2, none], [.int (f_capacity o), .int (f_queries o)], (H0 s o))) rfl ?_
  rcases qite h with ⟨hc60, h⟩ | ⟨hc60, h⟩
  ·refine zT Ad W (t := 22) (f := 20) rfl (XT.ii_lt_t hc60) ?_
   refine zS Ad W 2 (st' := (24, [vR 1, vI x1, vI x2, none], [.int (1:Int32), .int x1], (H0 s o))) rfl ?_
   rcases qite h with ⟨hc61, h⟩ | ⟨hc61, h⟩
   ·refine zT Ad W (t := 33) (f := 27) rfl (XT.ii_lt_t hc61) ?_
    refine zS Ad W 1 (st' := (34, [vR 1, vI x1, vI x2, none], [.int (-1:Int32)], (H0 s o))) rfl ?_
    obtain rfl := Option.some.inj h
    exact QTri.retI rfl rfl
   ·refine zF Ad W (t := 33) (f := 27) rfl (XT.ii_lt_f hc61) ?_
    refine zS Ad W 2 (st' := (30, [vR 1, vI x1, vI x2, none], [.int (32:Int32), .int x1], (H0 s o))) rfl ?_
    rcases qite h with ⟨hc62, h⟩ | ⟨hc62, h⟩
    ·refine zF Ad W (t := 35) (f := 33) rfl (XT.ii_le_f hc62) ?_
     refine zS Ad W 1 (st' := (34, [vR 1, vI x1, vI x2, none], [.int (-1:Int32)], (H0 s o))) rfl ?_
     obtain rfl := Option.some.inj h
     exact QTri.retI rfl rfl
    ·refine zT Ad W (t := 35) (f := 33) rfl (XT.ii_le_t hc62) ?_
     refine zS Ad W 2 (st' := (37, [vR 1, vI x1, vI x2, none], [.int (1:Int32), .int x2], (H0 s o))) rfl ?_
     rcases qite h with ⟨hc63, h⟩ | ⟨hc63, h⟩
     ·refine zT Ad W (t := 46) (f := 40) rfl (XT.ii_lt_t hc63) ?_
      refine zS Ad W 1 (st' := (47, [vR 1, vI x1, vI x2, none], [.int (-1:Int32)], (H0 s o))) rfl ?_
      obtain rfl := Option.some.inj h
      exact QTri.retI rfl rfl
     ·refine zF Ad W (t := 46) (f := 40) rfl (XT.ii_lt_f hc63) ?_
      refine zS Ad W 2 (st' := (43, [vR 1, vI x1, vI x2, none], [.int (32:Int32), .int x2], (H0 s o))) rfl ?_
      rcases qite h with ⟨hc64, h⟩ | ⟨hc64, h⟩
      ·refine zF Ad W (t := 48) (f := 46) rfl (XT.ii_le_f hc64) ?_
       refine zS Ad W 1 (st' := (47, [vR 1, vI x1, vI x2, none], [.int (-1:Int32)], (H0 s o))) rfl ?_
       obtain rfl := Option.some.inj h
       exact QTri.retI rfl rfl
      ·refine zT Ad W (t := 48) (f := 46) rfl (XT.ii_le_t hc64) ?_
       refine zS Ad W 7 (st' := (59, [vR 1, vI x1, vI x2, vI (f_queries o)], [.int x1, .int (f_queries o), .ref 2], (H0 s o))) rfl ?_
       obtain ⟨y65, hy65, h⟩ := bind_eq_some_iff.mp h
       refine zB Ad W (f := fun y65 => (60, [vR 1, vI x1, vI x2, vI (f_queries o)], [], (H0x9 s o y65))) rfl hy65 ?_
       refine zS Ad W 4 (st' := (66, [vR 1, vI x1, vI x2, vI (f_queries o)], [.int x2, .int (f_queries o), .ref 3], (H0x9 s o y65))) rfl ?_
       obtain ⟨y66, hy66, h⟩ := bind_eq_some_iff.mp h
       refine zB Ad W (f := fun y66 => (67, [vR 1, vI x1, vI x2, vI (f_queries o)], [], (H0x10 s o y65 y66))) rfl hy66 ?_
       refine zS Ad W 2 (st' := (69, [vR 1, vI x1, vI x2, vI (f_queries o)], [.int (f_queries o), .ref 1], (H0x10 s o y65 y66))) rfl ?_
       have E67 : ((H0x10 s o y65 y66) : QHeap) = (H0 s (s_slide (s_range o y65) y66)) := by simp only [fs, H0, H0v, H0x10, s_range, s_slide]
       rw [E67]
       obtain ⟨r68, hr68, h⟩ := bind_eq_some_iff.mp h
       refine QTri.callP W (a := 1) (as := [.int (f_queries o)]) (rest := []) (w := none) (σ₁ := (H0 s r68)) rfl rfl rfl rfl rfl rfl rfl rfl (tF2 Ad W s (s_slide (s_range o y65) y66) (f_queries o) hr68) ?_
       refine zS Ad W 6 (st' := (82, [vR 1, vI x1, vI x2, vI (f_queries o)], [], (H0x11 s r68 ((f_queries r68) + (1:Int32))))) rfl ?_
       refine zS Ad W 1 (st' := (83, [vR 1, vI x1, vI x2, vI (f_queries o)], [.int (f_queries o)], (H0x11 s r68 ((f_queries r68) + (1:Int32))))) rfl ?_
       have E69 : ((H0x11 s r68 ((f_queries r68) + (1:Int32))) : QHeap) = (H0 s (s_queries r68 ((f_queries r68) + (1:Int32)))) := by simp only [fs, H0, H0v, H0x11, s_queries]
       rw [E69]
       obtain rfl := Option.some.inj h
       exact QTri.retI rfl rfl
  ·refine zF Ad W (t := 22) (f := 20) rfl (XT.ii_lt_f hc60) ?_
   refine zS Ad W 1 (st' := (21, [vR 1, vI x1, vI x2, none], [.int (-1:Int32)], (H0 s o))) rfl ?_
   obtain rfl := Option.some.inj h
   exact QTri.retI rfl rfl
 ·refine zF Ad W (t := 9) (f := 7) rfl (XT.i0_eq_f hc59) ?_
  refine zS Ad W 1 (st' := (8, [vR 1, vI x1, vI x2, none], [.int (-1:Int32)], (H0 s o))) rfl ?_
  obtain rfl := Option.some.inj h
  exact QTri.retI rfl rfl
def H0x12 (s : List Int32) (o0 : Ob) (a0_17 : Int32) : QHeap := H0v s (f_regTuple o0) (f_regA o0) (f_regB o0) (f_regC o0) (f_regCount o0) (f_slots o0) (f_range o0) (f_slide o0) (f_frontSize o0) (f_backSize o0) (f_backElem o0) (f_frontAgg o0) (f_backAgg o0) (f_snap o0) (f_reg o0) (f_capacity o0) (f_queries o0) a0_17
def B9_7 (v : Int32 × Ob) : Option (((Ob)) ⊕ (Int32 × Ob)) :=
  (if v.1 < (4 : Int32) then (F2 v.2 v.1).bind fun r74 => some (.inr ((v.1 + (1 : Int32)), r74)) else some (.inl v.2))
theorem tB9_7 (Ad : QAd n0 ad) (W : QW Z a0) (s : List Int32) (v : Int32 × Ob) {r : ((Ob)) ⊕ (Int32 × Ob)} {u : Option Value} {τ : QHeap} (h : B9_7 v = some r) (hx0 : ∀ x : Ob, r = .inl x → u = (none : Option Value) ∧ τ = (H0 s x)) (hc : ∀ x : Int32 × Ob, r = .inr x → QTri l Z n0 ad 9 (7, [vR 1, vI x.1], [], (H0 s x.2)) u τ) : QTri l Z n0 ad 9 (7, [vR 1, vI v.1], [], (H0 s v.2)) u τ := by
 unfold B9_7 at h
 refine zS Ad W 2 (st' := (9, [vR 1, vI v.1], [.int (4:Int32), .int v.1], (H0 s v.2))) rfl ?_
 rcases qite h with ⟨hc73, h⟩ | ⟨hc73, h⟩
 ·refine zF Ad W (t := 23) (f := 12) rfl (XT.ii_ge_f hc73) ?_
  refine zS Ad W 2 (st' := (14, [vR 1, vI v.1], [.int v.1, .ref 1], (H0 s v.2))) rfl ?_
  obtain ⟨r74, hr74, h⟩ := bind_eq_some_iff.mp h
  refine QTri.callP W (a := 1) (as := [.int v.1]) (rest := []) (w := none) (σ₁ := (H0 s r74)) rfl rfl rfl rfl rfl rfl rfl rfl (tF2 Ad W s v.2 v.1 hr74) ?_
  refine zS Ad W 2 (st' := (7, [vR 1, vI (v.1 + (1:Int32))], [], (H0 s r74))) rfl ?_
  obtain rfl := Option.some.inj h
  exact zM [tt,tt] (hc ((v.1 + (1:Int32)), r74) rfl)
 ·refine zT Ad W (t := 23) (f := 12) rfl (XT.ii_ge_t hc73) ?_
  obtain rfl := Option.some.inj h
  obtain ⟨rfl, rfl⟩ := hx0 v.2 rfl
  exact QTri.ret0 rfl rfl
/-- clearStream()V -/
def F9 (o : Ob) : Option (Ob) :=
 (loopN (B9_7) qN ((0:Int32), (s_n o (0:Int32)))).bind fun e75 => some e75
theorem tF9 (Ad : QAd n0 ad) (W : QW Z a0) (s : List Int32) (o : Ob) {r : Ob} (h : F9 o = some r) : QTri l Z n0 ad 9 (0, qentry [.ref 1] (pMaxL 9), [], (H0 s o)) (none : Option Value) (H0 s r) := by
 unfold F9 at h
 refine zS Ad W 3 (st' := (5, [vR 1, none], [], (H0x12 s o (0:Int32)))) rfl ?_
 refine zS Ad W 2 (st' := (7, [vR 1, vI (0:Int32)], [], (H0x12 s o (0:Int32)))) rfl ?_
 have E72 : ((H0x12 s o (0:Int32)) : QHeap) = (H0 s (s_n o (0:Int32))) := by simp only [fs, H0, H0v, H0x12, s_n]
 rw [E72]
 obtain ⟨e75, he75, h⟩ := bind_eq_some_iff.mp h
 refine zM [tt,tt] (loopN_tri (B := B9_7) (T := fun lv76 => QTri l Z n0 ad 9 (7, [vR 1, vI lv76.1], [], (H0 s lv76.2)) (none : Option Value) (H0 s r)) (KE := fun e75a => (none : Option Value) = (none : Option Value) ∧ (H0 s r) = (H0 s e75a)) (fun lv76 r hB hE hC => tB9_7 Ad W s lv76 hB (fun x q => hE _ q) (fun x q => hC x q)) qN ((0:Int32), (s_n o (0:Int32))) e75 he75 ?_)
 obtain rfl := Option.some.inj h
 exact ⟨rfl, rfl⟩
/-- validSlot(II)Z -/
def F13 (x1 : Int32) (x2 : Int32) : Option (Int32) :=
 (if x1 < (0:Int32) then some (0:Int32) else (if x1 < (4:Int32) then (if x2 < (0:Int32) then some (0:Int32) else (if x2 < (32:Int32) then some (1:Int32) else some (0:Int32))) else some (0:Int32)))
theorem tF13 (Ad : QAd n0 ad) (W : QW Z a0) {a : Nat} {σ : QHeap} (x1 : Int32) (x2 : Int32) {r : Int32} (h : F13 x1 x2 = some r) : QTri l Z n0 ad 13 (0, qentry [.ref a, .int x1, .int x2] (pMaxL 13), [], σ) (some (Value.int r)) σ := by
 unfold F13 at h
 refine zS Ad W 1 (st' := (1, [vR a, vI x1, vI x2], [.int x1], σ)) rfl ?_
 rcases qite h with ⟨hc88, h⟩ | ⟨hc88, h⟩
 ·refine zT Ad W (t := 23) (f := 4) rfl (XT.i0_lt_t hc88) ?_
  refine zS Ad W 1 (st' := (24, [vR a, vI x1, vI x2], [.int (0:Int32)], σ)) rfl ?_
  obtain rfl := Option.some.inj h
  exact QTri.retZ rfl rfl
 ·refine zF Ad W (t := 23) (f := 4) rfl (XT.i0_lt_f hc88) ?_
  refine zS Ad W 2 (st' := (6, [vR a, vI x1, vI x2], [.int (4:Int32), .int x1], σ)) rfl ?_
  rcases qite h with ⟨hc89, h⟩ | ⟨hc89, h⟩
  ·refine zF Ad W (t := 23) (f := 9) rfl (XT.ii_ge_f hc89) ?_
   refine zS Ad W 1 (st' := (10, [vR a, vI x1, vI x2], [.int x2], σ)) rfl ?_
   rcases qite h with ⟨hc90, h⟩ | ⟨hc90, h⟩
   ·refine zT Ad W (t := 23) (f := 13) rfl (XT.i0_lt_t hc90) ?_
    refine zS Ad W 1 (st' := (24, [vR a, vI x1, vI x2], [.int (0:Int32)], σ)) rfl ?_
    obtain rfl := Option.some.inj h
    exact QTri.retZ rfl rfl
   ·refine zF Ad W (t := 23) (f := 13) rfl (XT.i0_lt_f hc90) ?_
    refine zS Ad W 2 (st' := (16, [vR a, vI x1, vI x2], [.int (32:Int32), .int x2], σ)) rfl ?_
    rcases qite h with ⟨hc91, h⟩ | ⟨hc91, h⟩
    ·refine zF Ad W (t := 23) (f := 19) rfl (XT.ii_ge_f hc91) ?_
     refine zS Ad W 2 (st' := (24, [vR a, vI x1, vI x2], [.int (1:Int32)], σ)) rfl ?_
     obtain rfl := Option.some.inj h
     exact QTri.retZ rfl rfl
    ·refine zT Ad W (t := 23) (f := 19) rfl (XT.ii_ge_t hc91) ?_
     refine zS Ad W 1 (st' := (24, [vR a, vI x1, vI x2], [.int (0:Int32)], σ)) rfl ?_
     obtain rfl := Option.some.inj h
     exact QTri.retZ rfl rfl
  ·refine zT Ad W (t := 23) (f := 9) rfl (XT.ii_ge_t hc89) ?_
   refine zS Ad W 1 (st' := (24, [vR a, vI x1, vI x2], [.int (0:Int32)], σ)) rfl ?_
   obtain rfl := Option.some.inj h
   exact QTri.retZ rfl rfl
/-- slotOffset(II)I -/
def F15 (x1 : Int32) (x2 : Int32) : Option (Int32) :=
 some (((x1 * (32:Int32)) + x2) * (4:Int32))
theorem tF15 (Ad : QAd n0 ad) (W : QW Z a0) {a : Nat} {σ : QHeap} (x1 : Int32) (x2 : Int32) {r : Int32} (h : F15 x1 x2 = some r) : QTri l Z n0 ad 15 (0, qentry [.ref a, .int x1, .int x2] (pMaxL 15), [], σ) (some (Value.int r)) σ := by
 unfold F15 at h
 refine zS Ad W 7 (st' := (8, [vR a, vI x1, vI x2], [.int (((x1 * (32:Int32)) + x2) * (4:Int32))], σ)) rfl ?_
 obtain rfl := Option.some.inj h
 exact QTri.retI rfl rfl
def H0x13 (s : List Int32) (o0 : Ob) (a0_10 : List Int32) : QHeap := H0v s (f_regTuple o0) (f_regA o0) (f_regB o0) (f_regC o0) (f_regCount o0) (f_slots o0) (f_range o0) (f_slide o0) (f_frontSize o0) (f_backSize o0) a0_10 (f_frontAgg o0) (f_backAgg o0) (f_snap o0) (f_reg o0) (f_capacity o0) (f_queries o0) (f_n o0)
def B14_34 (x4 : Int32) (x5 : Int32) (v : Int32 × Ob) : Option (((Ob)) ⊕ (Int32 × Ob)) :=
  (if v.1 < (4 : Int32) then (aget (f_reg v.2) (x5 + v.1)).bind fun y100 => (aset (f_backElem v.2) (x4 + v.1) y100).bind fun y101 => some (.inr ((v.1 + (1 : Int32)), (s_backElem v.2 y101))) else some (.inl v.2))
theorem tB14_34 (Ad : QAd n0 ad) (W : QW Z a0) (s : List Int32) (x4 : Int32) (x5 : Int32) (v : Int32 × Ob) {r : ((Ob)) ⊕ (Int32 × Ob)} {u : Option Value} {τ : QHeap} (h : B14_34 x4 x5 v = some r) (hx0 : ∀ x : Ob, r = .inl x → u = (none : Option Value) ∧ τ = (H0 s x)) (hc : ∀ x : Int32 × Ob, r = .inr x → QTri l Z n0 ad 14 (34, [vR 1, none, none, none, vI x4, vI x5, vI x.1], [], (H0 s x.2)) u τ) : QTri l Z n0 ad 14 (34, [vR 1, none, none, none, vI x4, vI x5, vI v.1], [], (H0 s v.2)) u τ := by
 unfold B14_34 at h
 refine zS Ad W 2 (st' := (37, [vR 1, none, none, none, vI x4, vI x5, vI v.1], [.int (4:Int32), .int v.1], (H0 s v.2))) rfl ?_
 rcases qite h with ⟨hc99, h⟩ | ⟨hc99, h⟩
 ·refine zF Ad W (t := 66) (f := 40) rfl (XT.ii_ge_f hc99) ?_
  refine zS Ad W 10 (st' := (58, [vR 1, none, none, none, vI x4, vI x5, vI v.1], [.int (x5 + v.1), .ref 10, .int (x4 + v.1), .ref 6], (H0 s v.2))) rfl ?_
  obtain ⟨y100, hy100, h⟩ := bind_eq_some_iff.mp h
  refine zB Ad W (f := fun y100 => (59, [vR 1, none, none, none, vI x4, vI x5, vI v.1], [.int y100, .int (x4 + v.1), .ref 6], (H0 s v.2))) rfl hy100 ?_
  obtain ⟨y101, hy101, h⟩ := bind_eq_some_iff.mp h
  refine zB Ad W (f := fun y101 => (60, [vR 1, none, none, none, vI x4, vI x5, vI v.1], [], (H0x13 s v.2 y101))) rfl hy101 ?_
  refine zS Ad W 2 (st' := (34, [vR 1, none, none, none, vI x4, vI x5, vI (v.1 + (1:Int32))], [], (H0x13 s v.2 y101))) rfl ?_
  have E102 : ((H0x13 s v.2 y101) : QHeap) = (H0 s (s_backElem v.2 y101)) := by simp only [fs, H0, H0v, H0x13, s_backElem]
  rw [E102]
  obtain rfl := Option.some.inj h
  exact zM [tt,ff,ff,ff,tt,tt,tt] (hc ((v.1 + (1:Int32)), (s_backElem v.2 y101)) rfl)
 ·refine zT Ad W (t := 66) (f := 40) rfl (XT.ii_ge_t hc99) ?_
  obtain rfl := Option.some.inj h
  obtain ⟨rfl, rfl⟩ := hx0 v.2 rfl
  exact QTri.ret0 rfl rfl
/-- storeBack(III)V -/
def F14 (o : Ob) (x1 : Int32) (x2 : Int32) (x3 : Int32) : Option (Ob) :=
 (F5 x3).bind fun r94 => (if r94 = (0:Int32) then some o else (F13 x1 x2).bind fun r96 => (if r96 = (0:Int32) then some o else (F15 x1 x2).bind fun r98 => (loopN (B14_34 r98 (x3 * (4:Int32))) qN ((0:Int32), o)).bind fun e103 => some e103))
theorem tF14 (Ad : QAd n0 ad) (W : QW Z a0) (s : List Int32) (o : Ob) (x1 : Int32) (x2 : Int32) (x3 : Int32) {r : Ob} (h : F14 o x1 x2 x3 = some r) : QTri l Z n0 ad 14 (0, qentry [.ref 1, .int x1, .int x2, .int x3] (pMaxL 14), [], (H0 s o)) (none : Option Value) (H0 s r) := by
 unfold F14 at h
 refine zS Ad W 2 (st' := (2, [vR 1, vI x1, vI x2, vI x3, none, none, none], [.int x3, .ref 1], (H0 s o))) rfl ?_
 obtain ⟨r94, hr94, h⟩ := bind_eq_some_iff.mp h
 refine QTri.callP W (a := 1) (as := [.int x3]) (rest := []) (w := (some (.int r94))) (σ₁ := (H0 s o)) rfl rfl rfl rfl rfl rfl rfl rfl (tF5 Ad W x3 hr94) ?_
 rcases qite h with ⟨hc95, h⟩ | ⟨hc95, h⟩
 ·refine zT Ad W (t := 17) (f := 8) rfl (XT.i0_eq_t hc95) ?_
  obtain rfl := Option.some.inj h
  exact QTri.ret0 rfl rfl
 ·refine zF Ad W (t := 17) (f := 8) rfl (XT.i0_eq_f hc95) ?_
  refine zS Ad W 3 (st' := (11, [vR 1, vI x1, vI x2, vI x3, none, none, none], [.int x2, .int x1, .ref 1], (H0 s o))) rfl ?_
  obtain ⟨r96, hr96, h⟩ := bind_eq_some_iff.mp h
  refine QTri.callP W (a := 1) (as := [.int x1, .int x2]) (rest := []) (w := (some (.int r96))) (σ₁ := (H0 s o)) rfl rfl rfl rfl rfl rfl rfl rfl (tF13 Ad W x1 x2 hr96) ?_
  rcases qite h with ⟨hc97, h⟩ | ⟨hc97, h⟩
  ·refine zF Ad W (t := 18) (f := 17) rfl (XT.i0_ne_f hc97) ?_
   obtain rfl := Option.some.inj h
   exact QTri.ret0 rfl rfl
  ·refine zT Ad W (t := 18) (f := 17) rfl (XT.i0_ne_t hc97) ?_
   refine zS Ad W 3 (st' := (21, [vR 1, vI x1, vI x2, vI x3, none, none, none], [.int x2, .int x1, .ref 1], (H0 s o))) rfl ?_
   obtain ⟨r98, hr98, h⟩ := bind_eq_some_iff.mp h
   refine QTri.callP W (a := 1) (as := [.int x1, .int x2]) (rest := []) (w := (some (.int r98))) (σ₁ := (H0 s o)) rfl rfl rfl rfl rfl rfl rfl rfl (tF15 Ad W x1 x2 hr98) ?_
   refine zS Ad W 5 (st' := (31, [vR 1, vI x1, vI x2, vI x3, vI r98, vI (x3 * (4:Int32)), none], [], (H0 s o))) rfl ?_
   refine zS Ad W 2 (st' := (34, [vR 1, vI x1, vI x2, vI x3, vI r98, vI (x3 * (4:Int32)), vI (0:Int32)], [], (H0 s o))) rfl ?_
   obtain ⟨e103, he103, h⟩ := bind_eq_some_iff.mp h
   refine zM [tt,ff,ff,ff,tt,tt,tt] (loopN_tri (B := B14_34 r98 (x3 * (4:Int32))) (T := fun lv104 => QTri l Z n0 ad 14 (34, [vR 1, none, none, none, vI r98, vI (x3 * (4:Int32)), vI lv104.1], [], (H0 s lv104.2)) (none : Option Value) (H0 s r)) (KE := fun e103a => (none : Option Value) = (none : Option Value) ∧ (H0 s r) = (H0 s e103a)) (fun lv104 r hB hE hC => tB14_34 Ad W s r98 (x3 * (4:Int32)) lv104 hB (fun x q => hE _ q) (fun x q => hC x q)) qN ((0:Int32), o) e103 he103 ?_)
   obtain rfl := Option.some.inj h
   exact ⟨rfl, rfl⟩
def B16_25 (x2 : Int32) (x3 : Int32) (v : Int32 × Ob) : Option (((Ob)) ⊕ (Int32 × Ob)) :=
  (if v.1 < (4 : Int32) then (aget (f_backAgg v.2) ((x2 * (4 : Int32)) + v.1)).bind fun y111 => (aset (f_reg v.2) (x3 + v.1) y111).bind fun y112 => some (.inr ((v.1 + (1 : Int32)), (s_reg v.2 y112))) else some (.inl v.2))
theorem tB16_25 (Ad : QAd n0 ad) (W : QW Z a0) (s : List Int32) (x2 : Int32) (x3 : Int32) (v : Int32 × Ob) {r : ((Ob)) ⊕ (Int32 × Ob)} {u : Option Value} {τ : QHeap} (h : B16_25 x2 x3 v = some r) (hx0 : ∀ x : Ob, r = .inl x → u = (none : Option Value) ∧ τ = (H0 s x)) (hc : ∀ x : Int32 × Ob, r = .inr x → QTri l Z n0 ad 16 (25, [vR 1, none, vI x2, vI x3, vI x.1], [], (H0 s x.2)) u τ) : QTri l Z n0 ad 16 (25, [vR 1, none, vI x2, vI x3, vI v.1], [], (H0 s v.2)) u τ := by
 unfold B16_25 at h
 refine zS Ad W 2 (st' := (28, [vR 1, none, vI x2, vI x3, vI v.1], [.int (4:Int32), .int v.1], (H0 s v.2))) rfl ?_
 rcases qite h with ⟨hc110, h⟩ | ⟨hc110, h⟩
 ·refine zF Ad W (t := 57) (f := 31) rfl (XT.ii_ge_f hc110) ?_
  refine zS Ad W 12 (st' := (49, [vR 1, none, vI x2, vI x3, vI v.1], [.int ((x2 * (4:Int32)) + v.1), .ref 8, .int (x3 + v.1), .ref 10], (H0 s v.2))) rfl ?_
  obtain ⟨y111, hy111, h⟩ := bind_eq_some_iff.mp h
  refine zB Ad W (f := fun y111 => (50, [vR 1, none, vI x2, vI x3, vI v.1], [.int y111, .int (x3 + v.1), .ref 10], (H0 s v.2))) rfl hy111 ?_
  obtain ⟨y112, hy112, h⟩ := bind_eq_some_iff.mp h
  refine zB Ad W (f := fun y112 => (51, [vR 1, none, vI x2, vI x3, vI v.1], [], (H0x6 s v.2 y112))) rfl hy112 ?_
  refine zS Ad W 2 (st' := (25, [vR 1, none, vI x2, vI x3, vI (v.1 + (1:Int32))], [], (H0x6 s v.2 y112))) rfl ?_
  have E113 : ((H0x6 s v.2 y112) : QHeap) = (H0 s (s_reg v.2 y112)) := by simp only [fs, H0, H0v, H0x6, s_reg]
  rw [E113]
  obtain rfl := Option.some.inj h
  exact zM [tt,ff,tt,tt,tt] (hc ((v.1 + (1:Int32)), (s_reg v.2 y112)) rfl)
 ·refine zT Ad W (t := 57) (f := 31) rfl (XT.ii_ge_t hc110) ?_
  obtain rfl := Option.some.inj h
  obtain ⟨rfl, rfl⟩ := hx0 v.2 rfl
  exact QTri.ret0 rfl rfl
/-- loadBackAgg(II)V -/
def F16 (o : Ob) (x1 : Int32) (x2 : Int32) : Option (Ob) :=
 (F5 x1).bind fun r106 => (if r106 = (0:Int32) then some o else (if x2 < (0:Int32) then some o else (if x2 < (4:Int32) then (loopN (B16_25 x2 (x1 * (4:Int32))) qN ((0:Int32), o)).bind fun e114 => some e114 else some o)))
theorem tF16 (Ad : QAd n0 ad) (W : QW Z a0) (s : List Int32) (o : Ob) (x1 : Int32) (x2 : Int32) {r : Ob} (h : F16 o x1 x2 = some r) : QTri l Z n0 ad 16 (0, qentry [.ref 1, .int x1, .int x2] (pMaxL 16), [], (H0 s o)) (none : Option Value) (H0 s r) := by
 unfold F16 at h
 refine zS Ad W 2 (st' := (2, [vR 1, vI x1, vI x2, none, none], [.int x1, .ref 1], (H0 s o))) rfl ?_
 obtain ⟨r106, hr106, h⟩ := bind_eq_some_iff.mp h
 refine QTri.callP W (a := 1) (as := [.int x1]) (rest := []) (w := (some (.int r106))) (σ₁ := (H0 s o)) rfl rfl rfl rfl rfl rfl rfl rfl (tF5 Ad W x1 hr106) ?_
 rcases qite h with ⟨hc107, h⟩ | ⟨hc107, h⟩
 ·refine zT Ad W (t := 17) (f := 8) rfl (XT.i0_eq_t hc107) ?_
  obtain rfl := Option.some.inj h
  exact QTri.ret0 rfl rfl
 ·refine zF Ad W (t := 17) (f := 8) rfl (XT.i0_eq_f hc107) ?_
  refine zS Ad W 1 (st' := (9, [vR 1, vI x1, vI x2, none, none], [.int x2], (H0 s o))) rfl ?_
  rcases qite h with ⟨hc108, h⟩ | ⟨hc108, h⟩
  ·refine zT Ad W (t := 17) (f := 12) rfl (XT.i0_lt_t hc108) ?_
   obtain rfl := Option.some.inj h
   exact QTri.ret0 rfl rfl
  ·refine zF Ad W (t := 17) (f := 12) rfl (XT.i0_lt_f hc108) ?_
   refine zS Ad W 2 (st' := (14, [vR 1, vI x1, vI x2, none, none], [.int (4:Int32), .int x2], (H0 s o))) rfl ?_
   rcases qite h with ⟨hc109, h⟩ | ⟨hc109, h⟩
   ·refine zT Ad W (t := 18) (f := 17) rfl (XT.ii_lt_t hc109) ?_
    refine zS Ad W 6 (st' := (25, [vR 1, vI x1, vI x2, vI (x1 * (4:Int32)), vI (0:Int32)], [], (H0 s o))) rfl ?_
    obtain ⟨e114, he114, h⟩ := bind_eq_some_iff.mp h
    refine zM [tt,ff,tt,tt,tt] (loopN_tri (B := B16_25 x2 (x1 * (4:Int32))) (T := fun lv115 => QTri l Z n0 ad 16 (25, [vR 1, none, vI x2, vI (x1 * (4:Int32)), vI lv115.1], [], (H0 s lv115.2)) (none : Option Value) (H0 s r)) (KE := fun e114a => (none : Option Value) = (none : Option Value) ∧ (H0 s r) = (H0 s e114a)) (fun lv115 r hB hE hC => tB16_25 Ad W s x2 (x1 * (4:Int32)) lv115 hB (fun x q => hE _ q) (fun x q => hC x q)) qN ((0:Int32), o) e114 he114 ?_)
    obtain rfl := Option.some.inj h
    exact ⟨rfl, rfl⟩
   ·refine zF Ad W (t := 18) (f := 17) rfl (XT.ii_lt_f hc109) ?_
    obtain rfl := Option.some.inj h
    exact QTri.ret0 rfl rfl
/-- regMul(III)V -/
def F17 (o : Ob) (x1 : Int32) (x2 : Int32) (x3 : Int32) : Option (Ob) :=
 (F5 x1).bind fun r117 => (if r117 = (0:Int32) then some o else (F5 x2).bind fun r119 => (if r119 = (0:Int32) then some o else (F5 x3).bind fun r121 => (if r121 = (0:Int32) then some o else (aget (f_reg o) (x2 * (4:Int32))).bind fun y123 => (aget (f_reg o) ((x2 * (4:Int32)) + (1:Int32))).bind fun y124 => (aget (f_reg o) ((x2 * (4:Int32)) + (2:Int32))).bind fun y125 => (aget (f_reg o) ((x2 * (4:Int32)) + (3:Int32))).bind fun y126 => (aget (f_reg o) (x3 * (4:Int32))).bind fun y127 => (aget (f_reg o) ((x3 * (4:Int32)) + (1:Int32))).bind fun y128 => (aget (f_reg o) ((x3 * (4:Int32)) + (2:Int32))).bind fun y129 => (aget (f_reg o) ((x3 * (4:Int32)) + (3:Int32))).bind fun y130 => (aset (f_reg o) (x1 * (4:Int32)) ((y123 * y127) + (y124 * y129))).bind fun y131 => (aset y131 ((x1 * (4:Int32)) + (1:Int32)) ((y123 * y128) + (y124 * y130))).bind fun y132 => (aset y132 ((x1 * (4:Int32)) + (2:Int32)) ((y125 * y127) + (y126 * y129))).bind fun y133 => (aset y133 ((x1 * (4:Int32)) + (3:Int32)) ((y125 * y128) + (y126 * y130))).bind fun y134 => some (s_reg o y134))))
theorem tF17 (Ad : QAd n0 ad) (W : QW Z a0) (s : List Int32) (o : Ob) (x1 : Int32) (x2 : Int32) (x3 : Int32) {r : Ob} (h : F17 o x1 x2 x3 = some r) : QTri l Z n0 ad 17 (0, qentry [.ref 1, .int x1, .int x2, .int x3] (pMaxL 17), [], (H0 s o)) (none : Option Value) (H0 s r) := by
 unfold F17 at h
 refine zS Ad W 2 (st' := (2, [vR 1, vI x1, vI x2, vI x3, none, none, none, none, none, none, none, none, none, none, none], [.int x1, .ref 1], (H0 s o))) rfl ?_
 obtain ⟨r117, hr117, h⟩ := bind_eq_some_iff.mp h
 refine QTri.callP W (a := 1) (as := [.int x1]) (rest := []) (w := (some (.int r117))) (σ₁ := (H0 s o)) rfl rfl rfl rfl rfl rfl rfl rfl (tF5 Ad W x1 hr117) ?_
 rcases qite h with ⟨hc118, h⟩ | ⟨hc118, h⟩
 ·refine zT Ad W (t := 24) (f := 8) rfl (XT.i0_eq_t hc118) ?_
  obtain rfl := Option.some.inj h
  exact QTri.ret0 rfl rfl
 ·refine zF Ad W (t := 24) (f := 8) rfl (XT.i0_eq_f hc118) ?_
  refine zS Ad W 2 (st' := (10, [vR 1, vI x1, vI x2, vI x3, none, none, none, none, none, none, none, none, none, none, none], [.int x2, .ref 1], (H0 s o))) rfl ?_
  obtain ⟨r119, hr119, h⟩ := bind_eq_some_iff.mp h
  refine QTri.callP W (a := 1) (as := [.int x2]) (rest := []) (w := (some (.int r119))) (σ₁ := (H0 s o)) rfl rfl rfl rfl rfl rfl rfl rfl (tF5 Ad W x2 hr119) ?_
  rcases qite h with ⟨hc120, h⟩ | ⟨hc120, h⟩
  ·refine zT Ad W (t := 24) (f := 16) rfl (XT.i0_eq_t hc120) ?_
   obtain rfl := Option.some.inj h
   exact QTri.ret0 rfl rfl
  ·refine zF Ad W (t := 24) (f := 16) rfl (XT.i0_eq_f hc120) ?_
   refine zS Ad W 2 (st' := (18, [vR 1, vI x1, vI x2, vI x3, none, none, none, none, none, none, none, none, none, none, none], [.int x3, .ref 1], (H0 s o))) rfl ?_
   obtain ⟨r121, hr121, h⟩ := bind_eq_some_iff.mp h
   refine QTri.callP W (a := 1) (as := [.int x3]) (rest := []) (w := (some (.int r121))) (σ₁ := (H0 s o)) rfl rfl rfl rfl rfl rfl rfl rfl (tF5 Ad W x3 hr121) ?_
   rcases qite h with ⟨hc122, h⟩ | ⟨hc122, h⟩
   ·refine zF Ad W (t := 25) (f := 24) rfl (XT.i0_ne_f hc122) ?_
    obtain rfl := Option.some.inj h
    exact QTri.ret0 rfl rfl
   ·refine zT Ad W (t := 25) (f := 24) rfl (XT.i0_ne_t hc122) ?_
    refine zS Ad W 8 (st' := (35, [vR 1, vI x1, vI x2, vI x3, vI (x2 * (4:Int32)), vI (x3 * (4:Int32)), none, none, none, none, none, none, none, none, none], [], (H0 s o))) rfl ?_
    refine zS Ad W 3 (st' := (41, [vR 1, vI x1, vI x2, vI x3, vI (x2 * (4:Int32)), vI (x3 * (4:Int32)), none, none, none, none, none, none, none, none, none], [.int (x2 * (4:Int32)), .ref 10], (H0 s o))) rfl ?_
    obtain ⟨y123, hy123, h⟩ := bind_eq_some_iff.mp h
    refine zB Ad W (f := fun y123 => (42, [vR 1, vI x1, vI x2, vI x3, vI (x2 * (4:Int32)), vI (x3 * (4:Int32)), none, none, none, none, none, none, none, none, none], [.int y123], (H0 s o))) rfl hy123 ?_
    refine zS Ad W 6 (st' := (52, [vR 1, vI x1, vI x2, vI x3, vI (x2 * (4:Int32)), vI (x3 * (4:Int32)), vI y123, none, none, none, none, none, none, none, none], [.int ((x2 * (4:Int32)) + (1:Int32)), .ref 10], (H0 s o))) rfl ?_
    obtain ⟨y124, hy124, h⟩ := bind_eq_some_iff.mp h
    refine zB Ad W (f := fun y124 => (53, [vR 1, vI x1, vI x2, vI x3, vI (x2 * (4:Int32)), vI (x3 * (4:Int32)), vI y123, none, none, none, none, none, none, none, none], [.int y124], (H0 s o))) rfl hy124 ?_
    refine zS Ad W 6 (st' := (63, [vR 1, vI x1, vI x2, vI x3, vI (x2 * (4:Int32)), vI (x3 * (4:Int32)), vI y123, vI y124, none, none, none, none, none, none, none], [.int ((x2 * (4:Int32)) + (2:Int32)), .ref 10], (H0 s o))) rfl ?_
    obtain ⟨y125, hy125, h⟩ := bind_eq_some_iff.mp h
    refine zB Ad W (f := fun y125 => (64, [vR 1, vI x1, vI x2, vI x3, vI (x2 * (4:Int32)), vI (x3 * (4:Int32)), vI y123, vI y124, none, none, none, none, none, none, none], [.int y125], (H0 s o))) rfl hy125 ?_
    refine zS Ad W 6 (st' := (74, [vR 1, vI x1, vI x2, vI x3, vI (x2 * (4:Int32)), vI (x3 * (4:Int32)), vI y123, vI y124, vI y125, none, none, none, none, none, none], [.int ((x2 * (4:Int32)) + (3:Int32)), .ref 10], (H0 s o))) rfl ?_
    obtain ⟨y126, hy126, h⟩ := bind_eq_some_iff.mp h
    refine zB Ad W (f := fun y126 => (75, [vR 1, vI x1, vI x2, vI x3, vI (x2 * (4:Int32)), vI (x3 * (4:Int32)), vI y123, vI y124, vI y125, none, none, none, none, none, none], [.int y126], (H0 s o))) rfl hy126 ?_
    refine zS Ad W 4 (st' := (83, [vR 1, vI x1, vI x2, vI x3, vI (x2 * (4:Int32)), vI (x3 * (4:Int32)), vI y123, vI y124, vI y125, vI y126, none, none, none, none, none], [.int (x3 * (4:Int32)), .ref 10], (H0 s o))) rfl ?_
    obtain ⟨y127, hy127, h⟩ := bind_eq_some_iff.mp h
    refine zB Ad W (f := fun y127 => (84, [vR 1, vI x1, vI x2, vI x3, vI (x2 * (4:Int32)), vI (x3 * (4:Int32)), vI y123, vI y124, vI y125, vI y126, none, none, none, none, none], [.int y127], (H0 s o))) rfl hy127 ?_
    refine zS Ad W 6 (st' := (94, [vR 1, vI x1, vI x2, vI x3, vI (x2 * (4:Int32)), vI (x3 * (4:Int32)), vI y123, vI y124, vI y125, vI y126, vI y127, none, none, none, none], [.int ((x3 * (4:Int32)) + (1:Int32)), .ref 10], (H0 s o))) rfl ?_
    obtain ⟨y128, hy128, h⟩ := bind_eq_some_iff.mp h
    refine zB Ad W (f := fun y128 => (95, [vR 1, vI x1, vI x2, vI x3, vI (x2 * (4:Int32)), vI (x3 * (4:Int32)), vI y123, vI y124, vI y125, vI y126, vI y127, none, none, none, none], [.int y128], (H0 s o))) rfl hy128 ?_
    refine zS Ad W 6 (st' := (105, [vR 1, vI x1, vI x2, vI x3, vI (x2 * (4:Int32)), vI (x3 * (4:Int32)), vI y123, vI y124, vI y125, vI y126, vI y127, vI y128, none, none, none], [.int ((x3 * (4:Int32)) + (2:Int32)), .ref 10], (H0 s o))) rfl ?_
    obtain ⟨y129, hy129, h⟩ := bind_eq_some_iff.mp h
    refine zB Ad W (f := fun y129 => (106, [vR 1, vI x1, vI x2, vI x3, vI (x2 * (4:Int32)), vI (x3 * (4:Int32)), vI y123, vI y124, vI y125, vI y126, vI y127, vI y128, none, none, none], [.int y129], (H0 s o))) rfl hy129 ?_
    refine zS Ad W 6 (st' := (116, [vR 1, vI x1, vI x2, vI x3, vI (x2 * (4:Int32)), vI (x3 * (4:Int32)), vI y123, vI y124, vI y125, vI y126, vI y127, vI y128, vI y129, none, none], [.int ((x3 * (4:Int32)) + (3:Int32)), .ref 10], (H0 s o))) rfl ?_
    obtain ⟨y130, hy130, h⟩ := bind_eq_some_iff.mp h
    refine zB Ad W (f := fun y130 => (117, [vR 1, vI x1, vI x2, vI x3, vI (x2 * (4:Int32)), vI (x3 * (4:Int32)), vI y123, vI y124, vI y125, vI y126, vI y127, vI y128, vI y129, none, none], [.int y130], (H0 s o))) rfl hy130 ?_
    refine zS Ad W 5 (st' := (124, [vR 1, vI x1, vI x2, vI x3, vI (x2 * (4:Int32)), vI (x3 * (4:Int32)), vI y123, vI y124, vI y125, vI y126, vI y127, vI y128, vI y129, vI y130, vI (x1 * (4:Int32))], [], (H0 s o))) rfl ?_
    refine zS Ad W 10 (st' := (141, [vR 1, vI x1, vI x2, vI x3, vI (x2 * (4:Int32)), vI (x3 * (4:Int32)), vI y123, vI y124, vI y125, vI y126, vI y127, vI y128, vI y129, vI y130, vI (x1 * (4:Int32))], [.int ((y123 * y127) + (y124 * y129)), .int (x1 * (4:Int32)), .ref 10], (H0 s o))) rfl ?_
    obtain ⟨y131, hy131, h⟩ := bind_eq_some_iff.mp h
    refine zB Ad W (f := fun y131 => (142, [vR 1, vI x1, vI x2, vI x3, vI (x2 * (4:Int32)), vI (x3 * (4:Int32)), vI y123, vI y124, vI y125, vI y126, vI y127, vI y128, vI y129, vI y130, vI (x1 * (4:Int32))], [], (H0x6 s o y131))) rfl hy131 ?_
    refine zS Ad W 12 (st' := (161, [vR 1, vI x1, vI x2, vI x3, vI (x2 * (4:Int32)), vI (x3 * (4:Int32)), vI y123, vI y124, vI y125, vI y126, vI y127, vI y128, vI y129, vI y130, vI (x1 * (4:Int32))], [.int ((y123 * y128) + (y124 * y130)), .int ((x1 * (4:Int32)) + (1:Int32)), .ref 10], (H0x6 s o y131))) rfl ?_
    obtain ⟨y132, hy132, h⟩ := bind_eq_some_iff.mp h
    refine zB Ad W (f := fun y132 => (162, [vR 1, vI x1, vI x2, vI x3, vI (x2 * (4:Int32)), vI (x3 * (4:Int32)), vI y123, vI y124, vI y125, vI y126, vI y127, vI y128, vI y129, vI y130, vI (x1 * (4:Int32))], [], (H0x6 s o y132))) rfl hy132 ?_
    refine zS Ad W 12 (st' := (181, [vR 1, vI x1, vI x2, vI x3, vI (x2 * (4:Int32)), vI (x3 * (4:Int32)), vI y123, vI y124, vI y125, vI y126, vI y127, vI y128, vI y129, vI y130, vI (x1 * (4:Int32))], [.int ((y125 * y127) + (y126 * y129)), .int ((x1 * (4:Int32)) + (2:Int32)), .ref 10], (H0x6 s o y132))) rfl ?_
    obtain ⟨y133, hy133, h⟩ := bind_eq_some_iff.mp h
    refine zB Ad W (f := fun y133 => (182, [vR 1, vI x1, vI x2, vI x3, vI (x2 * (4:Int32)), vI (x3 * (4:Int32)), vI y123, vI y124, vI y125, vI y126, vI y127, vI y128, vI y129, vI y130, vI (x1 * (4:Int32))], [], (H0x6 s o y133))) rfl hy133 ?_
    refine zS Ad W 12 (st' := (201, [vR 1, vI x1, vI x2, vI x3, vI (x2 * (4:Int32)), vI (x3 * (4:Int32)), vI y123, vI y124, vI y125, vI y126, vI y127, vI y128, vI y129, vI y130, vI (x1 * (4:Int32))], [.int ((y125 * y128) + (y126 * y130)), .int ((x1 * (4:Int32)) + (3:Int32)), .ref 10], (H0x6 s o y133))) rfl ?_
    obtain ⟨y134, hy134, h⟩ := bind_eq_some_iff.mp h
    refine zB Ad W (f := fun y134 => (202, [vR 1, vI x1, vI x2, vI x3, vI (x2 * (4:Int32)), vI (x3 * (4:Int32)), vI y123, vI y124, vI y125, vI y126, vI y127, vI y128, vI y129, vI y130, vI (x1 * (4:Int32))], [], (H0x6 s o y134))) rfl hy134 ?_
    have E135 : ((H0x6 s o y134) : QHeap) = (H0 s (s_reg o y134)) := by simp only [fs, H0, H0v, H0x6, s_reg]
    rw [E135]
    obtain rfl := Option.some.inj h
    exact QTri.ret0 rfl rfl
def H0x14 (s : List Int32) (o0 : Ob) (a0_9 : List Int32) : QHeap := H0v s (f_regTuple o0) (f_regA o0) (f_regB o0) (f_regC o0) (f_regCount o0) (f_slots o0) (f_range o0) (f_slide o0) (f_frontSize o0) a0_9 (f_backElem o0) (f_frontAgg o0) (f_backAgg o0) (f_snap o0) (f_reg o0) (f_capacity o0) (f_queries o0) (f_n o0)
def J12_39 (o : Ob) (x1 : Int32) : Option (Ob) :=
  (aget (f_backSize o) x1).bind fun y87 => (F13 x1 y87).bind fun r92 => (if r92 = (0 : Int32) then some o else (F14 o x1 y87 (0 : Int32)).bind fun r105 => (F16 r105 (1 : Int32) x1).bind fun r116 => (F17 r116 (1 : Int32) (1 : Int32) (0 : Int32)).bind fun r136 => (F6 r136 x1 (1 : Int32)).bind fun r137 => (aset (f_backSize r137) x1 (y87 + (1 : Int32))).bind fun y138 => some (s_backSize r137 y138))
theorem tJ12_39 (Ad : QAd n0 ad) (W : QW Z a0) (s : List Int32) (o : Ob) (x1 : Int32) {r : Ob} (h : J12_39 o x1 = some r) : QTri l Z n0 ad 12 (39, [vR 1, vI x1, none, none], [], (H0 s o)) (none : Option Value) (H0 s r) := by
 unfold J12_39 at h
 refine zS Ad W 3 (st' := (44, [vR 1, vI x1, none, none], [.int x1, .ref 5], (H0 s o))) rfl ?_
 obtain ⟨y87, hy87, h⟩ := bind_eq_some_iff.mp h
 refine zB Ad W (f := fun y87 => (45, [vR 1, vI x1, none, none], [.int y87], (H0 s o))) rfl hy87 ?_
 refine zS Ad W 4 (st' := (49, [vR 1, vI x1, none, vI y87], [.int y87, .int x1, .ref 1], (H0 s o))) rfl ?_
 obtain ⟨r92, hr92, h⟩ := bind_eq_some_iff.mp h
 refine QTri.callP W (a := 1) (as := [.int x1, .int y87]) (rest := []) (w := (some (.int r92))) (σ₁ := (H0 s o)) rfl rfl rfl rfl rfl rfl rfl rfl (tF13 Ad W x1 y87 hr92) ?_
 rcases qite h with ⟨hc93, h⟩ | ⟨hc93, h⟩
 ·refine zF Ad W (t := 56) (f := 55) rfl (XT.i0_ne_f hc93) ?_
  obtain rfl := Option.some.inj h
  exact QTri.ret0 rfl rfl
 ·refine zT Ad W (t := 56) (f := 55) rfl (XT.i0_ne_t hc93) ?_
  refine zS Ad W 4 (st' := (60, [vR 1, vI x1, none, vI y87], [.int (0:Int32), .int y87, .int x1, .ref 1], (H0 s o))) rfl ?_
  obtain ⟨r105, hr105, h⟩ := bind_eq_some_iff.mp h
  refine QTri.callP W (a := 1) (as := [.int x1, .int y87, .int (0:Int32)]) (rest := []) (w := none) (σ₁ := (H0 s r105)) rfl rfl rfl rfl rfl rfl rfl rfl (tF14 Ad W s o x1 y87 (0:Int32) hr105) ?_
  refine zS Ad W 3 (st' := (66, [vR 1, vI x1, none, vI y87], [.int x1, .int (1:Int32), .ref 1], (H0 s r105))) rfl ?_
  obtain ⟨r116, hr116, h⟩ := bind_eq_some_iff.mp h
  refine QTri.callP W (a := 1) (as := [.int (1:Int32), .int x1]) (rest := []) (w := none) (σ₁ := (H0 s r116)) rfl rfl rfl rfl rfl rfl rfl rfl (tF16 Ad W s r105 (1:Int32) x1 hr116) ?_
  refine zS Ad W 4 (st' := (73, [vR 1, vI x1, none, vI y87], [.int (0:Int32), .int (1:Int32), .int (1:Int32), .ref 1], (H0 s r116))) rfl ?_
  obtain ⟨r136, hr136, h⟩ := bind_eq_some_iff.mp h
  refine QTri.callP W (a := 1) (as := [.int (1:Int32), .int (1:Int32), .int (0:Int32)]) (rest := []) (w := none) (σ₁ := (H0 s r136)) rfl rfl rfl rfl rfl rfl rfl rfl (tF17 Ad W s r116 (1:Int32) (1:Int32) (0:Int32) hr136) ?_
  refine zS Ad W 3 (st' := (79, [vR 1, vI x1, none, vI y87], [.int (1:Int32), .int x1, .ref 1], (H0 s r136))) rfl ?_
  obtain ⟨r137, hr137, h⟩ := bind_eq_some_iff.mp h
  refine QTri.callP W (a := 1) (as := [.int x1, .int (1:Int32)]) (rest := []) (w := none) (σ₁ := (H0 s r137)) rfl rfl rfl rfl rfl rfl rfl rfl (tF6 Ad W s r136 x1 (1:Int32) hr137) ?_
  refine zS Ad W 6 (st' := (90, [vR 1, vI x1, none, vI y87], [.int (y87 + (1:Int32)), .int x1, .ref 5], (H0 s r137))) rfl ?_
  obtain ⟨y138, hy138, h⟩ := bind_eq_some_iff.mp h
  refine zB Ad W (f := fun y138 => (91, [vR 1, vI x1, none, vI y87], [], (H0x14 s r137 y138))) rfl hy138 ?_
  have E139 : ((H0x14 s r137 y138) : QHeap) = (H0 s (s_backSize r137 y138)) := by simp only [fs, H0, H0v, H0x14, s_backSize]
  rw [E139]
  obtain rfl := Option.some.inj h
  exact QTri.ret0 rfl rfl
def B20_34 (x4 : Int32) (x5 : Int32) (v : Int32 × Ob) : Option (((Ob)) ⊕ (Int32 × Ob)) :=
  (if v.1 < (4 : Int32) then (aget (f_backElem v.2) (x4 + v.1)).bind fun y154 => (aset (f_reg v.2) (x5 + v.1) y154).bind fun y155 => some (.inr ((v.1 + (1 : Int32)), (s_reg v.2 y155))) else some (.inl v.2))
theorem tB20_34 (Ad : QAd n0 ad) (W : QW Z a0) (s : List Int32) (x4 : Int32) (x5 : Int32) (v : Int32 × Ob) {r : ((Ob)) ⊕ (Int32 × Ob)} {u : Option Value} {τ : QHeap} (h : B20_34 x4 x5 v = some r) (hx0 : ∀ x : Ob, r = .inl x → u = (none : Option Value) ∧ τ = (H0 s x)) (hc : ∀ x : Int32 × Ob, r = .inr x → QTri l Z n0 ad 20 (34, [vR 1, none, none, none, vI x4, vI x5, vI x.1], [], (H0 s x.2)) u τ) : QTri l Z n0 ad 20 (34, [vR 1, none, none, none, vI x4, vI x5, vI v.1], [], (H0 s v.2)) u τ := by
 unfold B20_34 at h
 refine zS Ad W 2 (st' := (37, [vR 1, none, none, none, vI x4, vI x5, vI v.1], [.int (4:Int32), .int v.1], (H0 s v.2))) rfl ?_
 rcases qite h with ⟨hc153, h⟩ | ⟨hc153, h⟩
 ·refine zF Ad W (t := 66) (f := 40) rfl (XT.ii_ge_f hc153) ?_
  refine zS Ad W 10 (st' := (58, [vR 1, none, none, none, vI x4, vI x5, vI v.1], [.int (x4 + v.1), .ref 6, .int (x5 + v.1), .ref 10], (H0 s v.2))) rfl ?_
  obtain ⟨y154, hy154, h⟩ := bind_eq_some_iff.mp h
  refine zB Ad W (f := fun y154 => (59, [vR 1, none, none, none, vI x4, vI x5, vI v.1], [.int y154, .int (x5 + v.1), .ref 10], (H0 s v.2))) rfl hy154 ?_
  obtain ⟨y155, hy155, h⟩ := bind_eq_some_iff.mp h
  refine zB Ad W (f := fun y155 => (60, [vR 1, none, none, none, vI x4, vI x5, vI v.1], [], (H0x6 s v.2 y155))) rfl hy155 ?_
  refine zS Ad W 2 (st' := (34, [vR 1, none, none, none, vI x4, vI x5, vI (v.1 + (1:Int32))], [], (H0x6 s v.2 y155))) rfl ?_
  have E156 : ((H0x6 s v.2 y155) : QHeap) = (H0 s (s_reg v.2 y155)) := by simp only [fs, H0, H0v, H0x6, s_reg]
  rw [E156]
  obtain rfl := Option.some.inj h
  exact zM [tt,ff,ff,ff,tt,tt,tt] (hc ((v.1 + (1:Int32)), (s_reg v.2 y155)) rfl)
 ·refine zT Ad W (t := 66) (f := 40) rfl (XT.ii_ge_t hc153) ?_
  obtain rfl := Option.some.inj h
  obtain ⟨rfl, rfl⟩ := hx0 v.2 rfl
  exact QTri.ret0 rfl rfl
/-- loadBack(III)V -/
def F20 (o : Ob) (x1 : Int32) (x2 : Int32) (x3 : Int32) : Option (Ob) :=
 (F5 x1).bind fun r148 => (if r148 = (0:Int32) then some o else (F13 x2 x3).bind fun r150 => (if r150 = (0:Int32) then some o else (F15 x2 x3).bind fun r152 => (loopN (B20_34 r152 (x1 * (4:Int32))) qN ((0:Int32), o)).bind fun e157 => some e157))
theorem tF20 (Ad : QAd n0 ad) (W : QW Z a0) (s : List Int32) (o : Ob) (x1 : Int32) (x2 : Int32) (x3 : Int32) {r : Ob} (h : F20 o x1 x2 x3 = some r) : QTri l Z n0 ad 20 (0, qentry [.ref 1, .int x1, .int x2, .int x3] (pMaxL 20), [], (H0 s o)) (none : Option Value) (H0 s r) := by
 unfold F20 at h
 refine zS Ad W 2 (st' := (2, [vR 1, vI x1, vI x2, vI x3, none, none, none], [.int x1, .ref 1], (H0 s o))) rfl ?_
 obtain ⟨r148, hr148, h⟩ := bind_eq_some_iff.mp h
 refine QTri.callP W (a := 1) (as := [.int x1]) (rest := []) (w := (some (.int r148))) (σ₁ := (H0 s o)) rfl rfl rfl rfl rfl rfl rfl rfl (tF5 Ad W x1 hr148) ?_
 rcases qite h with ⟨hc149, h⟩ | ⟨hc149, h⟩
 ·refine zT Ad W (t := 17) (f := 8) rfl (XT.i0_eq_t hc149) ?_
  obtain rfl := Option.some.inj h
  exact QTri.ret0 rfl rfl
 ·refine zF Ad W (t := 17) (f := 8) rfl (XT.i0_eq_f hc149) ?_
  refine zS Ad W 3 (st' := (11, [vR 1, vI x1, vI x2, vI x3, none, none, none], [.int x3, .int x2, .ref 1], (H0 s o))) rfl ?_
  obtain ⟨r150, hr150, h⟩ := bind_eq_some_iff.mp h
  refine QTri.callP W (a := 1) (as := [.int x2, .int x3]) (rest := []) (w := (some (.int r150))) (σ₁ := (H0 s o)) rfl rfl rfl rfl rfl rfl rfl rfl (tF13 Ad W x2 x3 hr150) ?_
  rcases qite h with ⟨hc151, h⟩ | ⟨hc151, h⟩
  ·refine zF Ad W (t := 18) (f := 17) rfl (XT.i0_ne_f hc151) ?_
   obtain rfl := Option.some.inj h
   exact QTri.ret0 rfl rfl
  ·refine zT Ad W (t := 18) (f := 17) rfl (XT.i0_ne_t hc151) ?_
   refine zS Ad W 3 (st' := (21, [vR 1, vI x1, vI x2, vI x3, none, none, none], [.int x3, .int x2, .ref 1], (H0 s o))) rfl ?_
   obtain ⟨r152, hr152, h⟩ := bind_eq_some_iff.mp h
   refine QTri.callP W (a := 1) (as := [.int x2, .int x3]) (rest := []) (w := (some (.int r152))) (σ₁ := (H0 s o)) rfl rfl rfl rfl rfl rfl rfl rfl (tF15 Ad W x2 x3 hr152) ?_
   refine zS Ad W 5 (st' := (31, [vR 1, vI x1, vI x2, vI x3, vI r152, vI (x1 * (4:Int32)), none], [], (H0 s o))) rfl ?_
   refine zS Ad W 2 (st' := (34, [vR 1, vI x1, vI x2, vI x3, vI r152, vI (x1 * (4:Int32)), vI (0:Int32)], [], (H0 s o))) rfl ?_
   obtain ⟨e157, he157, h⟩ := bind_eq_some_iff.mp h
   refine zM [tt,ff,ff,ff,tt,tt,tt] (loopN_tri (B := B20_34 r152 (x1 * (4:Int32))) (T := fun lv158 => QTri l Z n0 ad 20 (34, [vR 1, none, none, none, vI r152, vI (x1 * (4:Int32)), vI lv158.1], [], (H0 s lv158.2)) (none : Option Value) (H0 s r)) (KE := fun e157a => (none : Option Value) = (none : Option Value) ∧ (H0 s r) = (H0 s e157a)) (fun lv158 r hB hE hC => tB20_34 Ad W s r152 (x1 * (4:Int32)) lv158 hB (fun x q => hE _ q) (fun x q => hC x q)) qN ((0:Int32), o) e157 he157 ?_)
   obtain rfl := Option.some.inj h
   exact ⟨rfl, rfl⟩
def H0x15 (s : List Int32) (o0 : Ob) (a0_11 : List Int32) : QHeap := H0v s (f_regTuple o0) (f_regA o0) (f_regB o0) (f_regC o0) (f_regCount o0) (f_slots o0) (f_range o0) (f_slide o0) (f_frontSize o0) (f_backSize o0) (f_backElem o0) a0_11 (f_backAgg o0) (f_snap o0) (f_reg o0) (f_capacity o0) (f_queries o0) (f_n o0)
def B21_34 (x4 : Int32) (x5 : Int32) (v : Int32 × Ob) : Option (((Ob)) ⊕ (Int32 × Ob)) :=
  (if v.1 < (4 : Int32) then (aget (f_reg v.2) (x5 + v.1)).bind fun y167 => (aset (f_frontAgg v.2) (x4 + v.1) y167).bind fun y168 => some (.inr ((v.1 + (1 : Int32)), (s_frontAgg v.2 y168))) else some (.inl v.2))
theorem tB21_34 (Ad : QAd n0 ad) (W : QW Z a0) (s : List Int32) (x4 : Int32) (x5 : Int32) (v : Int32 × Ob) {r : ((Ob)) ⊕ (Int32 × Ob)} {u : Option Value} {τ : QHeap} (h : B21_34 x4 x5 v = some r) (hx0 : ∀ x : Ob, r = .inl x → u = (none : Option Value) ∧ τ = (H0 s x)) (hc : ∀ x : Int32 × Ob, r = .inr x → QTri l Z n0 ad 21 (34, [vR 1, none, none, none, vI x4, vI x5, vI x.1], [], (H0 s x.2)) u τ) : QTri l Z n0 ad 21 (34, [vR 1, none, none, none, vI x4, vI x5, vI v.1], [], (H0 s v.2)) u τ := by
 unfold B21_34 at h
 refine zS Ad W 2 (st' := (37, [vR 1, none, none, none, vI x4, vI x5, vI v.1], [.int (4:Int32), .int v.1], (H0 s v.2))) rfl ?_
 rcases qite h with ⟨hc166, h⟩ | ⟨hc166, h⟩
 ·refine zF Ad W (t := 66) (f := 40) rfl (XT.ii_ge_f hc166) ?_
  refine zS Ad W 10 (st' := (58, [vR 1, none, none, none, vI x4, vI x5, vI v.1], [.int (x5 + v.1), .ref 10, .int (x4 + v.1), .ref 7], (H0 s v.2))) rfl ?_
  obtain ⟨y167, hy167, h⟩ := bind_eq_some_iff.mp h
  refine zB Ad W (f := fun y167 => (59, [vR 1, none, none, none, vI x4, vI x5, vI v.1], [.int y167, .int (x4 + v.1), .ref 7], (H0 s v.2))) rfl hy167 ?_
  obtain ⟨y168, hy168, h⟩ := bind_eq_some_iff.mp h
  refine zB Ad W (f := fun y168 => (60, [vR 1, none, none, none, vI x4, vI x5, vI v.1], [], (H0x15 s v.2 y168))) rfl hy168 ?_
  refine zS Ad W 2 (st' := (34, [vR 1, none, none, none, vI x4, vI x5, vI (v.1 + (1:Int32))], [], (H0x15 s v.2 y168))) rfl ?_
  have E169 : ((H0x15 s v.2 y168) : QHeap) = (H0 s (s_frontAgg v.2 y168)) := by simp only [fs, H0, H0v, H0x15, s_frontAgg]
  rw [E169]
  obtain rfl := Option.some.inj h
  exact zM [tt,ff,ff,ff,tt,tt,tt] (hc ((v.1 + (1:Int32)), (s_frontAgg v.2 y168)) rfl)
 ·refine zT Ad W (t := 66) (f := 40) rfl (XT.ii_ge_t hc166) ?_
  obtain rfl := Option.some.inj h
  obtain ⟨rfl, rfl⟩ := hx0 v.2 rfl
  exact QTri.ret0 rfl rfl
/-- storeFront(III)V -/
def F21 (o : Ob) (x1 : Int32) (x2 : Int32) (x3 : Int32) : Option (Ob) :=
 (F5 x3).bind fun r161 => (if r161 = (0:Int32) then some o else (F13 x1 x2).bind fun r163 => (if r163 = (0:Int32) then some o else (F15 x1 x2).bind fun r165 => (loopN (B21_34 r165 (x3 * (4:Int32))) qN ((0:Int32), o)).bind fun e170 => some e170))
theorem tF21 (Ad : QAd n0 ad) (W : QW Z a0) (s : List Int32) (o : Ob) (x1 : Int32) (x2 : Int32) (x3 : Int32) {r : Ob} (h : F21 o x1 x2 x3 = some r) : QTri l Z n0 ad 21 (0, qentry [.ref 1, .int x1, .int x2, .int x3] (pMaxL 21), [], (H0 s o)) (none : Option Value) (H0 s r) := by
 unfold F21 at h
 refine zS Ad W 2 (st' := (2, [vR 1, vI x1, vI x2, vI x3, none, none, none], [.int x3, .ref 1], (H0 s o))) rfl ?_
 obtain ⟨r161, hr161, h⟩ := bind_eq_some_iff.mp h
 refine QTri.callP W (a := 1) (as := [.int x3]) (rest := []) (w := (some (.int r161))) (σ₁ := (H0 s o)) rfl rfl rfl rfl rfl rfl rfl rfl (tF5 Ad W x3 hr161) ?_
 rcases qite h with ⟨hc162, h⟩ | ⟨hc162, h⟩
 ·refine zT Ad W (t := 17) (f := 8) rfl (XT.i0_eq_t hc162) ?_
  obtain rfl := Option.some.inj h
  exact QTri.ret0 rfl rfl
 ·refine zF Ad W (t := 17) (f := 8) rfl (XT.i0_eq_f hc162) ?_
  refine zS Ad W 3 (st' := (11, [vR 1, vI x1, vI x2, vI x3, none, none, none], [.int x2, .int x1, .ref 1], (H0 s o))) rfl ?_
  obtain ⟨r163, hr163, h⟩ := bind_eq_some_iff.mp h
  refine QTri.callP W (a := 1) (as := [.int x1, .int x2]) (rest := []) (w := (some (.int r163))) (σ₁ := (H0 s o)) rfl rfl rfl rfl rfl rfl rfl rfl (tF13 Ad W x1 x2 hr163) ?_
  rcases qite h with ⟨hc164, h⟩ | ⟨hc164, h⟩
  ·refine zF Ad W (t := 18) (f := 17) rfl (XT.i0_ne_f hc164) ?_
   obtain rfl := Option.some.inj h
   exact QTri.ret0 rfl rfl
  ·refine zT Ad W (t := 18) (f := 17) rfl (XT.i0_ne_t hc164) ?_
   refine zS Ad W 3 (st' := (21, [vR 1, vI x1, vI x2, vI x3, none, none, none], [.int x2, .int x1, .ref 1], (H0 s o))) rfl ?_
   obtain ⟨r165, hr165, h⟩ := bind_eq_some_iff.mp h
   refine QTri.callP W (a := 1) (as := [.int x1, .int x2]) (rest := []) (w := (some (.int r165))) (σ₁ := (H0 s o)) rfl rfl rfl rfl rfl rfl rfl rfl (tF15 Ad W x1 x2 hr165) ?_
   refine zS Ad W 5 (st' := (31, [vR 1, vI x1, vI x2, vI x3, vI r165, vI (x3 * (4:Int32)), none], [], (H0 s o))) rfl ?_
   refine zS Ad W 2 (st' := (34, [vR 1, vI x1, vI x2, vI x3, vI r165, vI (x3 * (4:Int32)), vI (0:Int32)], [], (H0 s o))) rfl ?_
   obtain ⟨e170, he170, h⟩ := bind_eq_some_iff.mp h
   refine zM [tt,ff,ff,ff,tt,tt,tt] (loopN_tri (B := B21_34 r165 (x3 * (4:Int32))) (T := fun lv171 => QTri l Z n0 ad 21 (34, [vR 1, none, none, none, vI r165, vI (x3 * (4:Int32)), vI lv171.1], [], (H0 s lv171.2)) (none : Option Value) (H0 s r)) (KE := fun e170a => (none : Option Value) = (none : Option Value) ∧ (H0 s r) = (H0 s e170a)) (fun lv171 r hB hE hC => tB21_34 Ad W s r165 (x3 * (4:Int32)) lv171 hB (fun x q => hE _ q) (fun x q => hC x q)) qN ((0:Int32), o) e170 he170 ?_)
   obtain rfl := Option.some.inj h
   exact ⟨rfl, rfl⟩
def B19_23 (x1 : Int32) (x2 : Int32) (v : Int32 × Ob) : Option (((Ob)) ⊕ (Int32 × Ob)) :=
  (if v.1 < x2 then (F20 v.2 (2 : Int32) x1 ((x2 - (1 : Int32)) - v.1)).bind fun r159 => (F17 r159 (1 : Int32) (2 : Int32) (1 : Int32)).bind fun r160 => (F21 r160 x1 v.1 (1 : Int32)).bind fun r172 => some (.inr ((v.1 + (1 : Int32)), r172)) else some (.inl v.2))
theorem tB19_23 (Ad : QAd n0 ad) (W : QW Z a0) (s : List Int32) (x1 : Int32) (x2 : Int32) (v : Int32 × Ob) {r : ((Ob)) ⊕ (Int32 × Ob)} {u : Option Value} {τ : QHeap} (h : B19_23 x1 x2 v = some r) (hx0 : ∀ x : Ob, r = .inl x → QTri l Z n0 ad 19 (59, [vR 1, vI x1, vI x2, none], [], (H0 s x)) u τ) (hc : ∀ x : Int32 × Ob, r = .inr x → QTri l Z n0 ad 19 (23, [vR 1, vI x1, vI x2, vI x.1], [], (H0 s x.2)) u τ) : QTri l Z n0 ad 19 (23, [vR 1, vI x1, vI x2, vI v.1], [], (H0 s v.2)) u τ := by
 unfold B19_23 at h
 refine zS Ad W 2 (st' := (25, [vR 1, vI x1, vI x2, vI v.1], [.int x2, .int v.1], (H0 s v.2))) rfl ?_
 rcases qite h with ⟨hc147, h⟩ | ⟨hc147, h⟩
 ·refine zF Ad W (t := 59) (f := 28) rfl (XT.ii_ge_f hc147) ?_
  refine zS Ad W 8 (st' := (36, [vR 1, vI x1, vI x2, vI v.1], [.int ((x2 - (1:Int32)) - v.1), .int x1, .int (2:Int32), .ref 1], (H0 s v.2))) rfl ?_
  obtain ⟨r159, hr159, h⟩ := bind_eq_some_iff.mp h
  refine QTri.callP W (a := 1) (as := [.int (2:Int32), .int x1, .int ((x2 - (1:Int32)) - v.1)]) (rest := []) (w := none) (σ₁ := (H0 s r159)) rfl rfl rfl rfl rfl rfl rfl rfl (tF20 Ad W s v.2 (2:Int32) x1 ((x2 - (1:Int32)) - v.1) hr159) ?_
  refine zS Ad W 4 (st' := (43, [vR 1, vI x1, vI x2, vI v.1], [.int (1:Int32), .int (2:Int32), .int (1:Int32), .ref 1], (H0 s r159))) rfl ?_
  obtain ⟨r160, hr160, h⟩ := bind_eq_some_iff.mp h
  refine QTri.callP W (a := 1) (as := [.int (1:Int32), .int (2:Int32), .int (1:Int32)]) (rest := []) (w := none) (σ₁ := (H0 s r160)) rfl rfl rfl rfl rfl rfl rfl rfl (tF17 Ad W s r159 (1:Int32) (2:Int32) (1:Int32) hr160) ?_
  refine zS Ad W 4 (st' := (50, [vR 1, vI x1, vI x2, vI v.1], [.int (1:Int32), .int v.1, .int x1, .ref 1], (H0 s r160))) rfl ?_
  obtain ⟨r172, hr172, h⟩ := bind_eq_some_iff.mp h
  refine QTri.callP W (a := 1) (as := [.int x1, .int v.1, .int (1:Int32)]) (rest := []) (w := none) (σ₁ := (H0 s r172)) rfl rfl rfl rfl rfl rfl rfl rfl (tF21 Ad W s r160 x1 v.1 (1:Int32) hr172) ?_
  refine zS Ad W 2 (st' := (23, [vR 1, vI x1, vI x2, vI (v.1 + (1:Int32))], [], (H0 s r172))) rfl ?_
  obtain rfl := Option.some.inj h
  exact zM [tt,tt,tt,tt] (hc ((v.1 + (1:Int32)), r172) rfl)
 ·refine zT Ad W (t := 59) (f := 28) rfl (XT.ii_ge_t hc147) ?_
  obtain rfl := Option.some.inj h
  exact zM [tt,tt,tt,ff] (hx0 v.2 rfl)
/-- flip(I)V -/
def F19 (o : Ob) (x1 : Int32) : Option (Ob) :=
 (aget (f_backSize o) x1).bind fun y142 => (F3 o (1:Int32)).bind fun r146 => (loopN (B19_23 x1 (if (32:Int32) < y142 then (32:Int32) else y142)) qN ((0:Int32), r146)).bind fun e173 => (aset (f_frontSize e173) x1 (if (32:Int32) < y142 then (32:Int32) else y142)).bind fun y175 => (aset (f_backSize e173) x1 (0:Int32)).bind fun y176 => (F3 (s_backSize (s_frontSize e173 y175) y176) (1:Int32)).bind fun r178 => (F6 r178 x1 (1:Int32)).bind fun r179 => some r179
theorem tF19 (Ad : QAd n0 ad) (W : QW Z a0) (s : List Int32) (o : Ob) (x1 : Int32) {r : Ob} (h : F19 o x1 = some r) : QTri l Z n0 ad 19 (0, qentry [.ref 1, .int x1] (pMaxL 19), [], (H0 s o)) (none : Option Value) (H0 s r) := by
 unfold F19 at h
 refine zS Ad W 3 (st' := (5, [vR 1, vI x1, none, none], [.int x1, .ref 5], (H0 s o))) rfl ?_
 obtain ⟨y142, hy142, h⟩ := bind_eq_some_iff.mp h
 refine zB Ad W (f := fun y142 => (6, [vR 1, vI x1, none, none], [.int y142], (H0 s o))) rfl hy142 ?_
 refine zS Ad W 3 (st' := (10, [vR 1, vI x1, vI y142, none], [.int (32:Int32), .int y142], (H0 s o))) rfl ?_
 have K144 : ∀ z143 : Int32, z143 = (if (32:Int32) < y142 then (32:Int32) else y142) → QTri l Z n0 ad 19 (16, [vR 1, vI x1, vI z143, none], [], (H0 s o)) (none : Option Value) (H0 s r) := by
  intro z143 ez143
  subst ez143
  refine zS Ad W 2 (st' := (18, [vR 1, vI x1, vI (if (32:Int32) < y142 then (32:Int32) else y142), none], [.int (1:Int32), .ref 1], (H0 s o))) rfl ?_
  obtain ⟨r146, hr146, h⟩ := bind_eq_some_iff.mp h
  refine QTri.callP W (a := 1) (as := [.int (1:Int32)]) (rest := []) (w := none) (σ₁ := (H0 s r146)) rfl rfl rfl rfl rfl rfl rfl rfl (tF3 Ad W s o (1:Int32) hr146) ?_
  refine zS Ad W 2 (st' := (23, [vR 1, vI x1, vI (if (32:Int32) < y142 then (32:Int32) else y142), vI (0:Int32)], [], (H0 s r146))) rfl ?_
  obtain ⟨e173, he173, h⟩ := bind_eq_some_iff.mp h
  refine zM [tt,tt,tt,tt] (loopN_tri (B := B19_23 x1 (if (32:Int32) < y142 then (32:Int32) else y142)) (T := fun lv174 => QTri l Z n0 ad 19 (23, [vR 1, vI x1, vI (if (32:Int32) < y142 then (32:Int32) else y142), vI lv174.1], [], (H0 s lv174.2)) (none : Option Value) (H0 s r)) (KE := fun e173a => QTri l Z n0 ad 19 (59, [vR 1, vI x1, vI (if (32:Int32) < y142 then (32:Int32) else y142), none], [], (H0 s e173a)) (none : Option Value) (H0 s r)) (fun lv174 r hB hE hC => tB19_23 Ad W s x1 (if (32:Int32) < y142 then (32:Int32) else y142) lv174 hB (fun x q => hE _ q) (fun x q => hC x q)) qN ((0:Int32), r146) e173 he173 ?_)
  refine zS Ad W 4 (st' := (65, [vR 1, vI x1, vI (if (32:Int32) < y142 then (32:Int32) else y142), none], [.int (if (32:Int32) < y142 then (32:Int32) else y142), .int x1, .ref 4], (H0 s e173))) rfl ?_
  obtain ⟨y175, hy175, h⟩ := bind_eq_some_iff.mp h
  refine zB Ad W (f := fun y175 => (66, [vR 1, vI x1, vI (if (32:Int32) < y142 then (32:Int32) else y142), none], [], (H0x4 s e173 y175))) rfl hy175 ?_
  refine zS Ad W 4 (st' := (72, [vR 1, vI x1, vI (if (32:Int32) < y142 then (32:Int32) else y142), none], [.int (0:Int32), .int x1, .ref 5], (H0x4 s e173 y175))) rfl ?_
  obtain ⟨y176, hy176, h⟩ := bind_eq_some_iff.mp h
  refine zB Ad W (f := fun y176 => (73, [vR 1, vI x1, vI (if (32:Int32) < y142 then (32:Int32) else y142), none], [], (H0x5 s e173 y175 y176))) rfl hy176 ?_
  refine zS Ad W 2 (st' := (75, [vR 1, vI x1, vI (if (32:Int32) < y142 then (32:Int32) else y142), none], [.int (1:Int32), .ref 1], (H0x5 s e173 y175 y176))) rfl ?_
  have E177 : ((H0x5 s e173 y175 y176) : QHeap) = (H0 s (s_backSize (s_frontSize e173 y175) y176)) := by simp only [fs, H0, H0v, H0x5, s_frontSize, s_backSize]
  rw [E177]
  obtain ⟨r178, hr178, h⟩ := bind_eq_some_iff.mp h
  refine QTri.callP W (a := 1) (as := [.int (1:Int32)]) (rest := []) (w := none) (σ₁ := (H0 s r178)) rfl rfl rfl rfl rfl rfl rfl rfl (tF3 Ad W s (s_backSize (s_frontSize e173 y175) y176) (1:Int32) hr178) ?_
  refine zS Ad W 3 (st' := (81, [vR 1, vI x1, vI (if (32:Int32) < y142 then (32:Int32) else y142), none], [.int (1:Int32), .int x1, .ref 1], (H0 s r178))) rfl ?_
  obtain ⟨r179, hr179, h⟩ := bind_eq_some_iff.mp h
  refine QTri.callP W (a := 1) (as := [.int x1, .int (1:Int32)]) (rest := []) (w := none) (σ₁ := (H0 s r179)) rfl rfl rfl rfl rfl rfl rfl rfl (tF6 Ad W s r178 x1 (1:Int32) hr179) ?_
  obtain rfl := Option.some.inj h
  exact QTri.ret0 rfl rfl
 rcases em ((32:Int32) < y142) with hc145 | hc145
 ·refine zF Ad W (t := 16) (f := 13) rfl (XT.ii_le_f hc145) ?_
  refine zS Ad W 2 (st' := (16, [vR 1, vI x1, vI (32:Int32), none], [], (H0 s o))) rfl ?_
  exact zM [tt,tt,tt,ff] (K144 _ (if_pos hc145).symm)
 ·refine zT Ad W (t := 16) (f := 13) rfl (XT.ii_le_t hc145) ?_
  exact zM [tt,tt,tt,ff] (K144 _ (if_neg hc145).symm)
def J18_14 (o : Ob) (x1 : Int32) : Option (Ob) :=
  (aget (f_frontSize o) x1).bind fun y181 => (if (0 : Int32) < y181 then (aget (f_frontSize o) x1).bind fun y183 => (aset (f_frontSize o) x1 (y183 - (1 : Int32))).bind fun y184 => some (s_frontSize o y184) else some o)
theorem tJ18_14 (Ad : QAd n0 ad) (W : QW Z a0) (s : List Int32) (o : Ob) (x1 : Int32) {r : Ob} (h : J18_14 o x1 = some r) : QTri l Z n0 ad 18 (14, [vR 1, vI x1], [], (H0 s o)) (none : Option Value) (H0 s r) := by
 unfold J18_14 at h
 refine zS Ad W 3 (st' := (19, [vR 1, vI x1], [.int x1, .ref 4], (H0 s o))) rfl ?_
 obtain ⟨y181, hy181, h⟩ := bind_eq_some_iff.mp h
 refine zB Ad W (f := fun y181 => (20, [vR 1, vI x1], [.int y181], (H0 s o))) rfl hy181 ?_
 rcases qite h with ⟨hc182, h⟩ | ⟨hc182, h⟩
 ·refine zF Ad W (t := 37) (f := 23) rfl (XT.i0_le_f hc182) ?_
  refine zS Ad W 6 (st' := (33, [vR 1, vI x1], [.int x1, .ref 4, .int x1, .ref 4], (H0 s o))) rfl ?_
  obtain ⟨y183, hy183, h⟩ := bind_eq_some_iff.mp h
  refine zB Ad W (f := fun y183 => (34, [vR 1, vI x1], [.int y183, .int x1, .ref 4], (H0 s o))) rfl hy183 ?_
  refine zS Ad W 2 (st' := (36, [vR 1, vI x1], [.int (y183 - (1:Int32)), .int x1, .ref 4], (H0 s o))) rfl ?_
  obtain ⟨y184, hy184, h⟩ := bind_eq_some_iff.mp h
  refine zB Ad W (f := fun y184 => (37, [vR 1, vI x1], [], (H0x4 s o y184))) rfl hy184 ?_
  have E185 : ((H0x4 s o y184) : QHeap) = (H0 s (s_frontSize o y184)) := by simp only [fs, H0, H0v, H0x4, s_frontSize]
  rw [E185]
  obtain rfl := Option.some.inj h
  exact QTri.ret0 rfl rfl
 ·refine zT Ad W (t := 37) (f := 23) rfl (XT.i0_le_t hc182) ?_
  obtain rfl := Option.some.inj h
  exact QTri.ret0 rfl rfl
/-- evictOldest(I)V -/
def F18 (o : Ob) (x1 : Int32) : Option (Ob) :=
 (aget (f_frontSize o) x1).bind fun y140 => (if y140 = (0:Int32) then (F19 o x1).bind fun r180 => (J18_14 r180 x1) else (J18_14 o x1))
theorem tF18 (Ad : QAd n0 ad) (W : QW Z a0) (s : List Int32) (o : Ob) (x1 : Int32) {r : Ob} (h : F18 o x1 = some r) : QTri l Z n0 ad 18 (0, qentry [.ref 1, .int x1] (pMaxL 18), [], (H0 s o)) (none : Option Value) (H0 s r) := by
 unfold F18 at h
 refine zS Ad W 3 (st' := (5, [vR 1, vI x1], [.int x1, .ref 4], (H0 s o))) rfl ?_
 obtain ⟨y140, hy140, h⟩ := bind_eq_some_iff.mp h
 refine zB Ad W (f := fun y140 => (6, [vR 1, vI x1], [.int y140], (H0 s o))) rfl hy140 ?_
 rcases qite h with ⟨hc141, h⟩ | ⟨hc141, h⟩
 ·refine zF Ad W (t := 14) (f := 9) rfl (XT.i0_ne_f hc141) ?_
  refine zS Ad W 2 (st' := (11, [vR 1, vI x1], [.int x1, .ref 1], (H0 s o))) rfl ?_
  obtain ⟨r180, hr180, h⟩ := bind_eq_some_iff.mp h
  refine QTri.callP W (a := 1) (as := [.int x1]) (rest := []) (w := none) (σ₁ := (H0 s r180)) rfl rfl rfl rfl rfl rfl rfl rfl (tF19 Ad W s o x1 hr180) ?_
  exact zM [tt,tt] (tJ18_14 Ad W s r180 x1 h)
 ·refine zT Ad W (t := 14) (f := 9) rfl (XT.i0_ne_t hc141) ?_
  exact zM [tt,tt] (tJ18_14 Ad W s o x1 h)
/-- appendToQuery(I)V -/
def F12 (o : Ob) (x1 : Int32) : Option (Ob) :=
 (if x1 < (0:Int32) then some o else (if x1 < (4:Int32) then (aget (f_frontSize o) x1).bind fun y83 => (aget (f_backSize o) x1).bind fun y84 => (aget (f_range o) x1).bind fun y85 => (if (y83 + y84) < y85 then (J12_39 o x1) else (F18 o x1).bind fun r186 => (J12_39 r186 x1)) else some o))
theorem tF12 (Ad : QAd n0 ad) (W : QW Z a0) (s : List Int32) (o : Ob) (x1 : Int32) {r : Ob} (h : F12 o x1 = some r) : QTri l Z n0 ad 12 (0, qentry [.ref 1, .int x1] (pMaxL 12), [], (H0 s o)) (none : Option Value) (H0 s r) := by
 unfold F12 at h
 refine zS Ad W 1 (st' := (1, [vR 1, vI x1, none, none], [.int x1], (H0 s o))) rfl ?_
 rcases qite h with ⟨hc81, h⟩ | ⟨hc81, h⟩
 ·refine zT Ad W (t := 9) (f := 4) rfl (XT.i0_lt_t hc81) ?_
  obtain rfl := Option.some.inj h
  exact QTri.ret0 rfl rfl
 ·refine zF Ad W (t := 9) (f := 4) rfl (XT.i0_lt_f hc81) ?_
  refine zS Ad W 2 (st' := (6, [vR 1, vI x1, none, none], [.int (4:Int32), .int x1], (H0 s o))) rfl ?_
  rcases qite h with ⟨hc82, h⟩ | ⟨hc82, h⟩
  ·refine zT Ad W (t := 10) (f := 9) rfl (XT.ii_lt_t hc82) ?_
   refine zS Ad W 3 (st' := (15, [vR 1, vI x1, none, none], [.int x1, .ref 4], (H0 s o))) rfl ?_
   obtain ⟨y83, hy83, h⟩ := bind_eq_some_iff.mp h
   refine zB Ad W (f := fun y83 => (16, [vR 1, vI x1, none, none], [.int y83], (H0 s o))) rfl hy83 ?_
   refine zS Ad W 3 (st' := (21, [vR 1, vI x1, none, none], [.int x1, .ref 5, .int y83], (H0 s o))) rfl ?_
   obtain ⟨y84, hy84, h⟩ := bind_eq_some_iff.mp h
   refine zB Ad W (f := fun y84 => (22, [vR 1, vI x1, none, none], [.int y84, .int y83], (H0 s o))) rfl hy84 ?_
   refine zS Ad W 6 (st' := (30, [vR 1, vI x1, vI (y83 + y84), none], [.int x1, .ref 2, .int (y83 + y84)], (H0 s o))) rfl ?_
   obtain ⟨y85, hy85, h⟩ := bind_eq_some_iff.mp h
   refine zB Ad W (f := fun y85 => (31, [vR 1, vI x1, vI (y83 + y84), none], [.int y85, .int (y83 + y84)], (H0 s o))) rfl hy85 ?_
   rcases qite h with ⟨hc86, h⟩ | ⟨hc86, h⟩
   ·refine zT Ad W (t := 39) (f := 34) rfl (XT.ii_lt_t hc86) ?_
    exact zM [tt,tt,ff,ff] (tJ12_39 Ad W s o x1 h)
   ·refine zF Ad W (t := 39) (f := 34) rfl (XT.ii_lt_f hc86) ?_
    refine zS Ad W 2 (st' := (36, [vR 1, vI x1, vI (y83 + y84), none], [.int x1, .ref 1], (H0 s o))) rfl ?_
    obtain ⟨r186, hr186, h⟩ := bind_eq_some_iff.mp h
    refine QTri.callP W (a := 1) (as := [.int x1]) (rest := []) (w := none) (σ₁ := (H0 s r186)) rfl rfl rfl rfl rfl rfl rfl rfl (tF18 Ad W s o x1 hr186) ?_
    exact zM [tt,tt,ff,ff] (tJ12_39 Ad W s r186 x1 h)
  ·refine zF Ad W (t := 10) (f := 9) rfl (XT.ii_lt_f hc82) ?_
   obtain rfl := Option.some.inj h
   exact QTri.ret0 rfl rfl
def J11_75 (o : Ob) (x5 : Int32) (x6 : Int32) : Option (((Int32 × Ob)) ⊕ (Int32 × Int32 × Ob)) :=
  some (.inr (x5, (x6 + (1 : Int32)), o))
theorem tJ11_75 (Ad : QAd n0 ad) (W : QW Z a0) (s : List Int32) (o : Ob) (x5 : Int32) (x6 : Int32) {r : ((Int32 × Ob)) ⊕ (Int32 × Int32 × Ob)} {u : Option Value} {τ : QHeap} (h : J11_75 o x5 x6 = some r) (hx0 : ∀ x : Int32 × Ob, r = .inl x → u = (some (Value.int x.1)) ∧ τ = (H0 s x.2)) (hc : ∀ x : Int32 × Int32 × Ob, r = .inr x → QTri l Z n0 ad 11 (26, [vR 1, none, none, none, none, vI x.1, vI x.2.1, none], [], (H0 s x.2.2)) u τ) : QTri l Z n0 ad 11 (75, [vR 1, none, none, none, none, vI x5, vI x6, none], [], (H0 s o)) u τ := by
 unfold J11_75 at h
 refine zS Ad W 2 (st' := (26, [vR 1, none, none, none, none, vI x5, vI (x6 + (1:Int32)), none], [], (H0 s o))) rfl ?_
 obtain rfl := Option.some.inj h
 exact zM [tt,ff,ff,ff,ff,tt,tt,ff] (hc (x5, (x6 + (1:Int32)), o) rfl)
def B24_34 (x4 : Int32) (x5 : Int32) (v : Int32 × Ob) : Option (((Ob)) ⊕ (Int32 × Ob)) :=
  (if v.1 < (4 : Int32) then (aget (f_frontAgg v.2) (x4 + v.1)).bind fun y200 => (aset (f_reg v.2) (x5 + v.1) y200).bind fun y201 => some (.inr ((v.1 + (1 : Int32)), (s_reg v.2 y201))) else some (.inl v.2))
theorem tB24_34 (Ad : QAd n0 ad) (W : QW Z a0) (s : List Int32) (x4 : Int32) (x5 : Int32) (v : Int32 × Ob) {r : ((Ob)) ⊕ (Int32 × Ob)} {u : Option Value} {τ : QHeap} (h : B24_34 x4 x5 v = some r) (hx0 : ∀ x : Ob, r = .inl x → u = (none : Option Value) ∧ τ = (H0 s x)) (hc : ∀ x : Int32 × Ob, r = .inr x → QTri l Z n0 ad 24 (34, [vR 1, none, none, none, vI x4, vI x5, vI x.1], [], (H0 s x.2)) u τ) : QTri l Z n0 ad 24 (34, [vR 1, none, none, none, vI x4, vI x5, vI v.1], [], (H0 s v.2)) u τ := by
 unfold B24_34 at h
 refine zS Ad W 2 (st' := (37, [vR 1, none, none, none, vI x4, vI x5, vI v.1], [.int (4:Int32), .int v.1], (H0 s v.2))) rfl ?_
 rcases qite h with ⟨hc199, h⟩ | ⟨hc199, h⟩
 ·refine zF Ad W (t := 66) (f := 40) rfl (XT.ii_ge_f hc199) ?_
  refine zS Ad W 10 (st' := (58, [vR 1, none, none, none, vI x4, vI x5, vI v.1], [.int (x4 + v.1), .ref 7, .int (x5 + v.1), .ref 10], (H0 s v.2))) rfl ?_
  obtain ⟨y200, hy200, h⟩ := bind_eq_some_iff.mp h
  refine zB Ad W (f := fun y200 => (59, [vR 1, none, none, none, vI x4, vI x5, vI v.1], [.int y200, .int (x5 + v.1), .ref 10], (H0 s v.2))) rfl hy200 ?_
  obtain ⟨y201, hy201, h⟩ := bind_eq_some_iff.mp h
  refine zB Ad W (f := fun y201 => (60, [vR 1, none, none, none, vI x4, vI x5, vI v.1], [], (H0x6 s v.2 y201))) rfl hy201 ?_
  refine zS Ad W 2 (st' := (34, [vR 1, none, none, none, vI x4, vI x5, vI (v.1 + (1:Int32))], [], (H0x6 s v.2 y201))) rfl ?_
  have E202 : ((H0x6 s v.2 y201) : QHeap) = (H0 s (s_reg v.2 y201)) := by simp only [fs, H0, H0v, H0x6, s_reg]
  rw [E202]
  obtain rfl := Option.some.inj h
  exact zM [tt,ff,ff,ff,tt,tt,tt] (hc ((v.1 + (1:Int32)), (s_reg v.2 y201)) rfl)
 ·refine zT Ad W (t := 66) (f := 40) rfl (XT.ii_ge_t hc199) ?_
  obtain rfl := Option.some.inj h
  obtain ⟨rfl, rfl⟩ := hx0 v.2 rfl
  exact QTri.ret0 rfl rfl
/-- loadFront(III)V -/
def F24 (o : Ob) (x1 : Int32) (x2 : Int32) (x3 : Int32) : Option (Ob) :=
 (F5 x1).bind fun r194 => (if r194 = (0:Int32) then some o else (F13 x2 x3).bind fun r196 => (if r196 = (0:Int32) then some o else (F15 x2 x3).bind fun r198 => (loopN (B24_34 r198 (x1 * (4:Int32))) qN ((0:Int32), o)).bind fun e203 => some e203))
theorem tF24 (Ad : QAd n0 ad) (W : QW Z a0) (s : List Int32) (o : Ob) (x1 : Int32) (x2 : Int32) (x3 : Int32) {r : Ob} (h : F24 o x1 x2 x3 = some r) : QTri l Z n0 ad 24 (0, qentry [.ref 1, .int x1, .int x2, .int x3] (pMaxL 24), [], (H0 s o)) (none : Option Value) (H0 s r) := by
 unfold F24 at h
 refine zS Ad W 2 (st' := (2, [vR 1, vI x1, vI x2, vI x3, none, none, none], [.int x1, .ref 1], (H0 s o))) rfl ?_
 obtain ⟨r194, hr194, h⟩ := bind_eq_some_iff.mp h
 refine QTri.callP W (a := 1) (as := [.int x1]) (rest := []) (w := (some (.int r194))) (σ₁ := (H0 s o)) rfl rfl rfl rfl rfl rfl rfl rfl (tF5 Ad W x1 hr194) ?_
 rcases qite h with ⟨hc195, h⟩ | ⟨hc195, h⟩
 ·refine zT Ad W (t := 17) (f := 8) rfl (XT.i0_eq_t hc195) ?_
  obtain rfl := Option.some.inj h
  exact QTri.ret0 rfl rfl
 ·refine zF Ad W (t := 17) (f := 8) rfl (XT.i0_eq_f hc195) ?_
  refine zS Ad W 3 (st' := (11, [vR 1, vI x1, vI x2, vI x3, none, none, none], [.int x3, .int x2, .ref 1], (H0 s o))) rfl ?_
  obtain ⟨r196, hr196, h⟩ := bind_eq_some_iff.mp h
  refine QTri.callP W (a := 1) (as := [.int x2, .int x3]) (rest := []) (w := (some (.int r196))) (σ₁ := (H0 s o)) rfl rfl rfl rfl rfl rfl rfl rfl (tF13 Ad W x2 x3 hr196) ?_
  rcases qite h with ⟨hc197, h⟩ | ⟨hc197, h⟩
  ·refine zF Ad W (t := 18) (f := 17) rfl (XT.i0_ne_f hc197) ?_
   obtain rfl := Option.some.inj h
   exact QTri.ret0 rfl rfl
  ·refine zT Ad W (t := 18) (f := 17) rfl (XT.i0_ne_t hc197) ?_
   refine zS Ad W 3 (st' := (21, [vR 1, vI x1, vI x2, vI x3, none, none, none], [.int x3, .int x2, .ref 1], (H0 s o))) rfl ?_
   obtain ⟨r198, hr198, h⟩ := bind_eq_some_iff.mp h
   refine QTri.callP W (a := 1) (as := [.int x2, .int x3]) (rest := []) (w := (some (.int r198))) (σ₁ := (H0 s o)) rfl rfl rfl rfl rfl rfl rfl rfl (tF15 Ad W x2 x3 hr198) ?_
   refine zS Ad W 5 (st' := (31, [vR 1, vI x1, vI x2, vI x3, vI r198, vI (x1 * (4:Int32)), none], [], (H0 s o))) rfl ?_
   refine zS Ad W 2 (st' := (34, [vR 1, vI x1, vI x2, vI x3, vI r198, vI (x1 * (4:Int32)), vI (0:Int32)], [], (H0 s o))) rfl ?_
   obtain ⟨e203, he203, h⟩ := bind_eq_some_iff.mp h
   refine zM [tt,ff,ff,ff,tt,tt,tt] (loopN_tri (B := B24_34 r198 (x1 * (4:Int32))) (T := fun lv204 => QTri l Z n0 ad 24 (34, [vR 1, none, none, none, vI r198, vI (x1 * (4:Int32)), vI lv204.1], [], (H0 s lv204.2)) (none : Option Value) (H0 s r)) (KE := fun e203a => (none : Option Value) = (none : Option Value) ∧ (H0 s r) = (H0 s e203a)) (fun lv204 r hB hE hC => tB24_34 Ad W s r198 (x1 * (4:Int32)) lv204 hB (fun x q => hE _ q) (fun x q => hC x q)) qN ((0:Int32), o) e203 he203 ?_)
   obtain rfl := Option.some.inj h
   exact ⟨rfl, rfl⟩
def J23_28 (o : Ob) (x1 : Int32) (x2 : Int32) : Option (Ob) :=
  (F16 o (2 : Int32) x1).bind fun r206 => (F17 r206 x2 (1 : Int32) (2 : Int32)).bind fun r207 => some r207
theorem tJ23_28 (Ad : QAd n0 ad) (W : QW Z a0) (s : List Int32) (o : Ob) (x1 : Int32) (x2 : Int32) {r : Ob} (h : J23_28 o x1 x2 = some r) : QTri l Z n0 ad 23 (28, [vR 1, vI x1, vI x2, none], [], (H0 s o)) (none : Option Value) (H0 s r) := by
 unfold J23_28 at h
 refine zS Ad W 3 (st' := (31, [vR 1, vI x1, vI x2, none], [.int x1, .int (2:Int32), .ref 1], (H0 s o))) rfl ?_
 obtain ⟨r206, hr206, h⟩ := bind_eq_some_iff.mp h
 refine QTri.callP W (a := 1) (as := [.int (2:Int32), .int x1]) (rest := []) (w := none) (σ₁ := (H0 s r206)) rfl rfl rfl rfl rfl rfl rfl rfl (tF16 Ad W s o (2:Int32) x1 hr206) ?_
 refine zS Ad W 4 (st' := (38, [vR 1, vI x1, vI x2, none], [.int (2:Int32), .int (1:Int32), .int x2, .ref 1], (H0 s r206))) rfl ?_
 obtain ⟨r207, hr207, h⟩ := bind_eq_some_iff.mp h
 refine QTri.callP W (a := 1) (as := [.int x2, .int (1:Int32), .int (2:Int32)]) (rest := []) (w := none) (σ₁ := (H0 s r207)) rfl rfl rfl rfl rfl rfl rfl rfl (tF17 Ad W s r206 x2 (1:Int32) (2:Int32) hr207) ?_
 obtain rfl := Option.some.inj h
 exact QTri.ret0 rfl rfl
/-- liveFold(II)V -/
def F23 (o : Ob) (x1 : Int32) (x2 : Int32) : Option (Ob) :=
 (aget (f_frontSize o) x1).bind fun y192 => (if (0:Int32) < y192 then (F24 o (1:Int32) x1 (y192 - (1:Int32))).bind fun r205 => (J23_28 r205 x1 x2) else (F3 o (1:Int32)).bind fun r208 => (J23_28 r208 x1 x2))
theorem tF23 (Ad : QAd n0 ad) (W : QW Z a0) (s : List Int32) (o : Ob) (x1 : Int32) (x2 : Int32) {r : Ob} (h : F23 o x1 x2 = some r) : QTri l Z n0 ad 23 (0, qentry [.ref 1, .int x1, .int x2] (pMaxL 23), [], (H0 s o)) (none : Option Value) (H0 s r) := by
 unfold F23 at h
 refine zS Ad W 3 (st' := (5, [vR 1, vI x1, vI x2, none], [.int x1, .ref 4], (H0 s o))) rfl ?_
 obtain ⟨y192, hy192, h⟩ := bind_eq_some_iff.mp h
 refine zB Ad W (f := fun y192 => (6, [vR 1, vI x1, vI x2, none], [.int y192], (H0 s o))) rfl hy192 ?_
 refine zS Ad W 2 (st' := (8, [vR 1, vI x1, vI x2, vI y192], [.int y192], (H0 s o))) rfl ?_
 rcases qite h with ⟨hc193, h⟩ | ⟨hc193, h⟩
 ·refine zF Ad W (t := 23) (f := 11) rfl (XT.i0_le_f hc193) ?_
  refine zS Ad W 6 (st' := (17, [vR 1, vI x1, vI x2, vI y192], [.int (y192 - (1:Int32)), .int x1, .int (1:Int32), .ref 1], (H0 s o))) rfl ?_
  obtain ⟨r205, hr205, h⟩ := bind_eq_some_iff.mp h
  refine QTri.callP W (a := 1) (as := [.int (1:Int32), .int x1, .int (y192 - (1:Int32))]) (rest := []) (w := none) (σ₁ := (H0 s r205)) rfl rfl rfl rfl rfl rfl rfl rfl (tF24 Ad W s o (1:Int32) x1 (y192 - (1:Int32)) hr205) ?_
  refine zS Ad W 1 (st' := (28, [vR 1, vI x1, vI x2, vI y192], [], (H0 s r205))) rfl ?_
  exact zM [tt,tt,tt,ff] (tJ23_28 Ad W s r205 x1 x2 h)
 ·refine zT Ad W (t := 23) (f := 11) rfl (XT.i0_le_t hc193) ?_
  refine zS Ad W 2 (st' := (25, [vR 1, vI x1, vI x2, vI y192], [.int (1:Int32), .ref 1], (H0 s o))) rfl ?_
  obtain ⟨r208, hr208, h⟩ := bind_eq_some_iff.mp h
  refine QTri.callP W (a := 1) (as := [.int (1:Int32)]) (rest := []) (w := none) (σ₁ := (H0 s r208)) rfl rfl rfl rfl rfl rfl rfl rfl (tF3 Ad W s o (1:Int32) hr208) ?_
  exact zM [tt,tt,tt,ff] (tJ23_28 Ad W s r208 x1 x2 h)
/-- takeSnapshot(I)V -/
def F22 (o : Ob) (x1 : Int32) : Option (Ob) :=
 (F23 o x1 (3:Int32)).bind fun r209 => (F7 r209 x1 (3:Int32)).bind fun r210 => some r210
theorem tF22 (Ad : QAd n0 ad) (W : QW Z a0) (s : List Int32) (o : Ob) (x1 : Int32) {r : Ob} (h : F22 o x1 = some r) : QTri l Z n0 ad 22 (0, qentry [.ref 1, .int x1] (pMaxL 22), [], (H0 s o)) (none : Option Value) (H0 s r) := by
 unfold F22 at h
 refine zS Ad W 3 (st' := (3, [vR 1, vI x1], [.int (3:Int32), .int x1, .ref 1], (H0 s o))) rfl ?_
 obtain ⟨r209, hr209, h⟩ := bind_eq_some_iff.mp h
 refine QTri.callP W (a := 1) (as := [.int x1, .int (3:Int32)]) (rest := []) (w := none) (σ₁ := (H0 s r209)) rfl rfl rfl rfl rfl rfl rfl rfl (tF23 Ad W s o x1 (3:Int32) hr209) ?_
 refine zS Ad W 3 (st' := (9, [vR 1, vI x1], [.int (3:Int32), .int x1, .ref 1], (H0 s r209))) rfl ?_
 obtain ⟨r210, hr210, h⟩ := bind_eq_some_iff.mp h
 refine QTri.callP W (a := 1) (as := [.int x1, .int (3:Int32)]) (rest := []) (w := none) (σ₁ := (H0 s r210)) rfl rfl rfl rfl rfl rfl rfl rfl (tF7 Ad W s r209 x1 (3:Int32) hr210) ?_
 obtain rfl := Option.some.inj h
 exact QTri.ret0 rfl rfl
def B11_26 (v : Int32 × Int32 × Ob) : Option (((Int32 × Ob)) ⊕ (Int32 × Int32 × Ob)) :=
  (if v.2.1 < (f_queries v.2.2) then (F12 v.2.2 v.2.1).bind fun r187 => (aget (f_slide r187) v.2.1).bind fun y188 => (if y188 < (1 : Int32) then (J11_75 r187 v.1 v.2.1) else (qrem (f_n r187) y188).bind fun y190 => (if y190 = (0 : Int32) then (F22 r187 v.2.1).bind fun r211 => (J11_75 r211 (v.1 + (1 : Int32)) v.2.1) else (J11_75 r187 v.1 v.2.1))) else some (.inl (v.1, v.2.2)))
theorem tB11_26 (Ad : QAd n0 ad) (W : QW Z a0) (s : List Int32) (v : Int32 × Int32 × Ob) {r : ((Int32 × Ob)) ⊕ (Int32 × Int32 × Ob)} {u : Option Value} {τ : QHeap} (h : B11_26 v = some r) (hx0 : ∀ x : Int32 × Ob, r = .inl x → u = (some (Value.int x.1)) ∧ τ = (H0 s x.2)) (hc : ∀ x : Int32 × Int32 × Ob, r = .inr x → QTri l Z n0 ad 11 (26, [vR 1, none, none, none, none, vI x.1, vI x.2.1, none], [], (H0 s x.2.2)) u τ) : QTri l Z n0 ad 11 (26, [vR 1, none, none, none, none, vI v.1, vI v.2.1, none], [], (H0 s v.2.2)) u τ := by
 unfold B11_26 at h
 refine zS Ad W 3 (st' := (32, [vR 1, none, none, none, none, vI v.1, vI v.2.1, none], [.int (f_queries v.2.2), .int v.2.1], (H0 s v.2.2))) rfl ?_
 rcases qite h with ⟨hc80, h⟩ | ⟨hc80, h⟩
 ·refine zF Ad W (t := 81) (f := 35) rfl (XT.ii_ge_f hc80) ?_
  refine zS Ad W 2 (st' := (38, [vR 1, none, none, none, none, vI v.1, vI v.2.1, none], [.int v.2.1, .ref 1], (H0 s v.2.2))) rfl ?_
  obtain ⟨r187, hr187, h⟩ := bind_eq_some_iff.mp h
  refine QTri.callP W (a := 1) (as := [.int v.2.1]) (rest := []) (w := none) (σ₁ := (H0 s r187)) rfl rfl rfl rfl rfl rfl rfl rfl (tF12 Ad W s v.2.2 v.2.1 hr187) ?_
  refine zS Ad W 3 (st' := (47, [vR 1, none, none, none, none, vI v.1, vI v.2.1, none], [.int v.2.1, .ref 3], (H0 s r187))) rfl ?_
  obtain ⟨y188, hy188, h⟩ := bind_eq_some_iff.mp h
  refine zB Ad W (f := fun y188 => (48, [vR 1, none, none, none, none, vI v.1, vI v.2.1, none], [.int y188], (H0 s r187))) rfl hy188 ?_
  refine zS Ad W 3 (st' := (53, [vR 1, none, none, none, none, vI v.1, vI v.2.1, vI y188], [.int (1:Int32), .int y188], (H0 s r187))) rfl ?_
  rcases qite h with ⟨hc189, h⟩ | ⟨hc189, h⟩
  ·refine zT Ad W (t := 75) (f := 56) rfl (XT.ii_lt_t hc189) ?_
   exact zM [tt,ff,ff,ff,ff,tt,tt,ff] (tJ11_75 Ad W s r187 v.1 v.2.1 h hx0 hc)
  ·refine zF Ad W (t := 75) (f := 56) rfl (XT.ii_lt_f hc189) ?_
   refine zS Ad W 3 (st' := (62, [vR 1, none, none, none, none, vI v.1, vI v.2.1, vI y188], [.int y188, .int (f_n r187)], (H0 s r187))) rfl ?_
   obtain ⟨y190, hy190, h⟩ := bind_eq_some_iff.mp h
   refine zB Ad W (f := fun y190 => (63, [vR 1, none, none, none, none, vI v.1, vI v.2.1, vI y188], [.int y190], (H0 s r187))) rfl hy190 ?_
   rcases qite h with ⟨hc191, h⟩ | ⟨hc191, h⟩
   ·refine zF Ad W (t := 75) (f := 66) rfl (XT.i0_ne_f hc191) ?_
    refine zS Ad W 2 (st' := (69, [vR 1, none, none, none, none, vI v.1, vI v.2.1, vI y188], [.int v.2.1, .ref 1], (H0 s r187))) rfl ?_
    obtain ⟨r211, hr211, h⟩ := bind_eq_some_iff.mp h
    refine QTri.callP W (a := 1) (as := [.int v.2.1]) (rest := []) (w := none) (σ₁ := (H0 s r211)) rfl rfl rfl rfl rfl rfl rfl rfl (tF22 Ad W s r187 v.2.1 hr211) ?_
    refine zS Ad W 1 (st' := (75, [vR 1, none, none, none, none, vI (v.1 + (1:Int32)), vI v.2.1, vI y188], [], (H0 s r211))) rfl ?_
    exact zM [tt,ff,ff,ff,ff,tt,tt,ff] (tJ11_75 Ad W s r211 (v.1 + (1:Int32)) v.2.1 h hx0 hc)
   ·refine zT Ad W (t := 75) (f := 66) rfl (XT.i0_ne_t hc191) ?_
    exact zM [tt,ff,ff,ff,ff,tt,tt,ff] (tJ11_75 Ad W s r187 v.1 v.2.1 h hx0 hc)
 ·refine zT Ad W (t := 81) (f := 35) rfl (XT.ii_ge_t hc80) ?_
  refine zS Ad W 1 (st' := (83, [vR 1, none, none, none, none, vI v.1, vI v.2.1, none], [.int v.1], (H0 s v.2.2))) rfl ?_
  obtain rfl := Option.some.inj h
  obtain ⟨rfl, rfl⟩ := hx0 (v.1, v.2.2) rfl
  exact QTri.retI rfl rfl
/-- push(IIII)I -/
def F11 (o : Ob) (x1 : Int32) (x2 : Int32) (x3 : Int32) (x4 : Int32) : Option (Int32 × Ob) :=
 (F4 (s_n o ((f_n o) + (1:Int32))) (0:Int32) x1 x2 x3 x4).bind fun r79 => (loopN (B11_26) qN ((0:Int32), (0:Int32), r79)).bind fun e212 => some e212
theorem tF11 (Ad : QAd n0 ad) (W : QW Z a0) (s : List Int32) (o : Ob) (x1 : Int32) (x2 : Int32) (x3 : Int32) (x4 : Int32) {r : Int32 × Ob} (h : F11 o x1 x2 x3 x4 = some r) : QTri l Z n0 ad 11 (0, qentry [.ref 1, .int x1, .int x2, .int x3, .int x4] (pMaxL 11), [], (H0 s o)) (some (Value.int r.1)) (H0 s r.2) := by
 unfold F11 at h
 refine zS Ad W 6 (st' := (10, [vR 1, vI x1, vI x2, vI x3, vI x4, none, none, none], [], (H0x12 s o ((f_n o) + (1:Int32))))) rfl ?_
 refine zS Ad W 6 (st' := (17, [vR 1, vI x1, vI x2, vI x3, vI x4, none, none, none], [.int x4, .int x3, .int x2, .int x1, .int (0:Int32), .ref 1], (H0x12 s o ((f_n o) + (1:Int32))))) rfl ?_
 have E78 : ((H0x12 s o ((f_n o) + (1:Int32))) : QHeap) = (H0 s (s_n o ((f_n o) + (1:Int32)))) := by simp only [fs, H0, H0v, H0x12, s_n]
 rw [E78]
 obtain ⟨r79, hr79, h⟩ := bind_eq_some_iff.mp h
 refine QTri.callP W (a := 1) (as := [.int (0:Int32), .int x1, .int x2, .int x3, .int x4]) (rest := []) (w := none) (σ₁ := (H0 s r79)) rfl rfl rfl rfl rfl rfl rfl rfl (tF4 Ad W s (s_n o ((f_n o) + (1:Int32))) (0:Int32) x1 x2 x3 x4 hr79) ?_
 refine zS Ad W 4 (st' := (26, [vR 1, vI x1, vI x2, vI x3, vI x4, vI (0:Int32), vI (0:Int32), none], [], (H0 s r79))) rfl ?_
 obtain ⟨e212, he212, h⟩ := bind_eq_some_iff.mp h
 refine zM [tt,ff,ff,ff,ff,tt,tt,ff] (loopN_tri (B := B11_26) (T := fun lv213 => QTri l Z n0 ad 11 (26, [vR 1, none, none, none, none, vI lv213.1, vI lv213.2.1, none], [], (H0 s lv213.2.2)) (some (Value.int r.1)) (H0 s r.2)) (KE := fun e212a => (some (Value.int r.1)) = (some (Value.int e212a.1)) ∧ (H0 s r.2) = (H0 s e212a.2)) (fun lv213 r hB hE hC => tB11_26 Ad W s lv213 hB (fun x q => hE _ q) (fun x q => hC x q)) qN ((0:Int32), (0:Int32), r79) e212 he212 ?_)
 obtain rfl := Option.some.inj h
 exact ⟨rfl, rfl⟩
/-- step(LSliceAggregate;IIIII)I -/
def F8 (o : Ob) (x1 : Int32) (x2 : Int32) (x3 : Int32) (x4 : Int32) (x5 : Int32) : Option (Int32 × Ob) :=
 (if x1 = (0:Int32) then (F10 o x2 x3).bind fun r70 => some (r70.1, r70.2) else (if x1 = (3:Int32) then (F9 o).bind fun r77 => some ((0:Int32), r77) else (F11 o x2 x3 x4 x5).bind fun r214 => some (r214.1, r214.2)))
theorem tF8 (Ad : QAd n0 ad) (W : QW Z a0) (s : List Int32) (o : Ob) (x1 : Int32) (x2 : Int32) (x3 : Int32) (x4 : Int32) (x5 : Int32) {r : Int32 × Ob} (h : F8 o x1 x2 x3 x4 x5 = some r) : QTri l Z n0 ad 8 (0, qentry [.ref 1, .int x1, .int x2, .int x3, .int x4, .int x5] (pMaxL 8), [], (H0 s o)) (some (Value.int r.1)) (H0 s r.2) := by
 unfold F8 at h
 refine zS Ad W 1 (st' := (1, [vR 1, vI x1, vI x2, vI x3, vI x4, vI x5], [.int x1], (H0 s o))) rfl ?_
 rcases qite h with ⟨hc58, h⟩ | ⟨hc58, h⟩
 ·refine zF Ad W (t := 11) (f := 4) rfl (XT.i0_ne_f hc58) ?_
  refine zS Ad W 3 (st' := (7, [vR 1, vI x1, vI x2, vI x3, vI x4, vI x5], [.int x3, .int x2, .ref 1], (H0 s o))) rfl ?_
  obtain ⟨r70, hr70, h⟩ := bind_eq_some_iff.mp h
  refine QTri.callV W (a := 1) (as := [.int x2, .int x3]) (rest := []) (w := (some (.int r70.1))) (σ₁ := (H0 s r70.2)) rfl rfl rfl rfl rfl rfl rfl rfl (tF10 Ad W s o x2 x3 hr70) ?_
  obtain rfl := Option.some.inj h
  exact QTri.retI rfl rfl
 ·refine zT Ad W (t := 11) (f := 4) rfl (XT.i0_ne_t hc58) ?_
  refine zS Ad W 2 (st' := (13, [vR 1, vI x1, vI x2, vI x3, vI x4, vI x5], [.int (3:Int32), .int x1], (H0 s o))) rfl ?_
  rcases qite h with ⟨hc71, h⟩ | ⟨hc71, h⟩
  ·refine zF Ad W (t := 22) (f := 16) rfl (XT.ii_ne_f hc71) ?_
   refine zS Ad W 1 (st' := (17, [vR 1, vI x1, vI x2, vI x3, vI x4, vI x5], [.ref 1], (H0 s o))) rfl ?_
   obtain ⟨r77, hr77, h⟩ := bind_eq_some_iff.mp h
   refine QTri.callV W (a := 1) (as := []) (rest := []) (w := none) (σ₁ := (H0 s r77)) rfl rfl rfl rfl rfl rfl rfl rfl (tF9 Ad W s o hr77) ?_
   refine zS Ad W 1 (st' := (21, [vR 1, vI x1, vI x2, vI x3, vI x4, vI x5], [.int (0:Int32)], (H0 s r77))) rfl ?_
   obtain rfl := Option.some.inj h
   exact QTri.retI rfl rfl
  ·refine zT Ad W (t := 22) (f := 16) rfl (XT.ii_ne_t hc71) ?_
   refine zS Ad W 5 (st' := (29, [vR 1, vI x1, vI x2, vI x3, vI x4, vI x5], [.int x5, .int x4, .int x3, .int x2, .ref 1], (H0 s o))) rfl ?_
   obtain ⟨r214, hr214, h⟩ := bind_eq_some_iff.mp h
   refine QTri.callV W (a := 1) (as := [.int x2, .int x3, .int x4, .int x5]) (rest := []) (w := (some (.int r214.1))) (σ₁ := (H0 s r214.2)) rfl rfl rfl rfl rfl rfl rfl rfl (tF11 Ad W s o x2 x3 x4 x5 hr214) ?_
   obtain rfl := Option.some.inj h
   exact QTri.retI rfl rfl
def B0_16 (s : List Int32) (x2 : Int32) (v : Int32 × Ob) : Option (((Int32 × Ob)) ⊕ (Int32 × Ob)) :=
  (if x2 < (v.1 + (5 : Int32)) then some (.inl (v.1, v.2)) else (aget s v.1).bind fun y53 => (aget s (v.1 + (1 : Int32))).bind fun y54 => (aget s (v.1 + (2 : Int32))).bind fun y55 => (aget s (v.1 + (3 : Int32))).bind fun y56 => (aget s (v.1 + (4 : Int32))).bind fun y57 => (F8 v.2 (y53 &&& (3 : Int32)) y54 y55 y56 y57).bind fun r215 => some (.inr ((v.1 + (5 : Int32)), r215.2)))
theorem tB0_16 (Ad : QAd n0 ad) (W : QW Z a0) (s : List Int32) (x2 : Int32) (v : Int32 × Ob) {r : ((Int32 × Ob)) ⊕ (Int32 × Ob)} {u : Option Value} {τ : QHeap} (h : B0_16 s x2 v = some r) (hx0 : ∀ x : Int32 × Ob, r = .inl x → QTri l Z n0 ad 0 (59, [vR 0, vR 1, none, vI x.1, none, none, none, none, none], [], (H0 s x.2)) u τ) (hc : ∀ x : Int32 × Ob, r = .inr x → QTri l Z n0 ad 0 (16, [vR 0, vR 1, vI x2, vI x.1, none, none, none, none, none], [], (H0 s x.2)) u τ) : QTri l Z n0 ad 0 (16, [vR 0, vR 1, vI x2, vI v.1, none, none, none, none, none], [], (H0 s v.2)) u τ := by
 unfold B0_16 at h
 refine zS Ad W 4 (st' := (20, [vR 0, vR 1, vI x2, vI v.1, none, none, none, none, none], [.int x2, .int (v.1 + (5:Int32))], (H0 s v.2))) rfl ?_
 rcases qite h with ⟨hc52, h⟩ | ⟨hc52, h⟩
 ·refine zT Ad W (t := 59) (f := 23) rfl (XT.ii_gt_t hc52) ?_
  obtain rfl := Option.some.inj h
  exact zM [tt,tt,ff,tt,ff,ff,ff,ff,ff] (hx0 (v.1, v.2) rfl)
 ·refine zF Ad W (t := 59) (f := 23) rfl (XT.ii_gt_f hc52) ?_
  refine zS Ad W 3 (st' := (26, [vR 0, vR 1, vI x2, vI v.1, none, none, none, none, none], [.int v.1, .ref 0, .ref 1], (H0 s v.2))) rfl ?_
  obtain ⟨y53, hy53, h⟩ := bind_eq_some_iff.mp h
  refine zB Ad W (f := fun y53 => (27, [vR 0, vR 1, vI x2, vI v.1, none, none, none, none, none], [.int y53, .ref 1], (H0 s v.2))) rfl hy53 ?_
  refine zS Ad W 6 (st' := (33, [vR 0, vR 1, vI x2, vI v.1, none, none, none, none, none], [.int (v.1 + (1:Int32)), .ref 0, .int (y53 &&& (3:Int32)), .ref 1], (H0 s v.2))) rfl ?_
  obtain ⟨y54, hy54, h⟩ := bind_eq_some_iff.mp h
  refine zB Ad W (f := fun y54 => (34, [vR 0, vR 1, vI x2, vI v.1, none, none, none, none, none], [.int y54, .int (y53 &&& (3:Int32)), .ref 1], (H0 s v.2))) rfl hy54 ?_
  refine zS Ad W 4 (st' := (38, [vR 0, vR 1, vI x2, vI v.1, none, none, none, none, none], [.int (v.1 + (2:Int32)), .ref 0, .int y54, .int (y53 &&& (3:Int32)), .ref 1], (H0 s v.2))) rfl ?_
  obtain ⟨y55, hy55, h⟩ := bind_eq_some_iff.mp h
  refine zB Ad W (f := fun y55 => (39, [vR 0, vR 1, vI x2, vI v.1, none, none, none, none, none], [.int y55, .int y54, .int (y53 &&& (3:Int32)), .ref 1], (H0 s v.2))) rfl hy55 ?_
  refine zS Ad W 4 (st' := (43, [vR 0, vR 1, vI x2, vI v.1, none, none, none, none, none], [.int (v.1 + (3:Int32)), .ref 0, .int y55, .int y54, .int (y53 &&& (3:Int32)), .ref 1], (H0 s v.2))) rfl ?_
  obtain ⟨y56, hy56, h⟩ := bind_eq_some_iff.mp h
  refine zB Ad W (f := fun y56 => (44, [vR 0, vR 1, vI x2, vI v.1, none, none, none, none, none], [.int y56, .int y55, .int y54, .int (y53 &&& (3:Int32)), .ref 1], (H0 s v.2))) rfl hy56 ?_
  refine zS Ad W 4 (st' := (48, [vR 0, vR 1, vI x2, vI v.1, none, none, none, none, none], [.int (v.1 + (4:Int32)), .ref 0, .int y56, .int y55, .int y54, .int (y53 &&& (3:Int32)), .ref 1], (H0 s v.2))) rfl ?_
  obtain ⟨y57, hy57, h⟩ := bind_eq_some_iff.mp h
  refine zB Ad W (f := fun y57 => (49, [vR 0, vR 1, vI x2, vI v.1, none, none, none, none, none], [.int y57, .int y56, .int y55, .int y54, .int (y53 &&& (3:Int32)), .ref 1], (H0 s v.2))) rfl hy57 ?_
  obtain ⟨r215, hr215, h⟩ := bind_eq_some_iff.mp h
  refine QTri.callS W (as := [.ref 1, .int (y53 &&& (3:Int32)), .int y54, .int y55, .int y56, .int y57]) (rest := []) (w := (some (.int r215.1))) (σ₁ := (H0 s r215.2)) rfl rfl rfl rfl rfl rfl rfl (tF8 Ad W s v.2 (y53 &&& (3:Int32)) y54 y55 y56 y57 hr215) ?_
  refine zS Ad W 3 (st' := (16, [vR 0, vR 1, vI x2, vI (v.1 + (5:Int32)), none, none, none, none, none], [], (H0 s r215.2))) rfl ?_
  obtain rfl := Option.some.inj h
  exact zM [tt,tt,tt,tt,ff,ff,ff,ff,ff] (hc ((v.1 + (5:Int32)), r215.2) rfl)
def H1 (s : List Int32) (o0 o1 : Ob) : QHeap := [.inr (.inl (.int, s)), .inl [.int (f_regTuple o0), .int (f_regA o0), .int (f_regB o0), .int (f_regC o0), .int (f_regCount o0), .int (f_slots o0), .ref 2, .ref 3, .ref 4, .ref 5, .ref 6, .ref 7, .ref 8, .ref 9, .ref 10, .int (f_capacity o0), .int (f_queries o0), .int (f_n o0)], .inr (.inl (.int, (f_range o0))), .inr (.inl (.int, (f_slide o0))), .inr (.inl (.int, (f_frontSize o0))), .inr (.inl (.int, (f_backSize o0))), .inr (.inl (.int, (f_backElem o0))), .inr (.inl (.int, (f_frontAgg o0))), .inr (.inl (.int, (f_backAgg o0))), .inr (.inl (.int, (f_snap o0))), .inr (.inl (.int, (f_reg o0))), .inl [.int (f_regTuple o1), .int (f_regA o1), .int (f_regB o1), .int (f_regC o1), .int (f_regCount o1), .int (f_slots o1), .ref 12, .ref 13, .ref 14, .ref 15, .ref 16, .ref 17, .ref 18, .ref 19, .ref 20, .int (f_capacity o1), .int (f_queries o1), .int (f_n o1)], .inr (.inl (.int, (f_range o1))), .inr (.inl (.int, (f_slide o1))), .inr (.inl (.int, (f_frontSize o1))), .inr (.inl (.int, (f_backSize o1))), .inr (.inl (.int, (f_backElem o1))), .inr (.inl (.int, (f_frontAgg o1))), .inr (.inl (.int, (f_backAgg o1))), .inr (.inl (.int, (f_snap o1))), .inr (.inl (.int, (f_reg o1)))]
def H1v (s : List Int32) (a0_0 : Int32) (a0_1 : Int32) (a0_2 : Int32) (a0_3 : Int32) (a0_4 : Int32) (a0_5 : Int32) (a0_6 : List Int32) (a0_7 : List Int32) (a0_8 : List Int32) (a0_9 : List Int32) (a0_10 : List Int32) (a0_11 : List Int32) (a0_12 : List Int32) (a0_13 : List Int32) (a0_14 : List Int32) (a0_15 : Int32) (a0_16 : Int32) (a0_17 : Int32) (a1_0 : Int32) (a1_1 : Int32) (a1_2 : Int32) (a1_3 : Int32) (a1_4 : Int32) (a1_5 : Int32) (a1_6 : List Int32) (a1_7 : List Int32) (a1_8 : List Int32) (a1_9 : List Int32) (a1_10 : List Int32) (a1_11 : List Int32) (a1_12 : List Int32) (a1_13 : List Int32) (a1_14 : List Int32) (a1_15 : Int32) (a1_16 : Int32) (a1_17 : Int32) : QHeap := [.inr (.inl (.int, s)), .inl [.int a0_0, .int a0_1, .int a0_2, .int a0_3, .int a0_4, .int a0_5, .ref 2, .ref 3, .ref 4, .ref 5, .ref 6, .ref 7, .ref 8, .ref 9, .ref 10, .int a0_15, .int a0_16, .int a0_17], .inr (.inl (.int, a0_6)), .inr (.inl (.int, a0_7)), .inr (.inl (.int, a0_8)), .inr (.inl (.int, a0_9)), .inr (.inl (.int, a0_10)), .inr (.inl (.int, a0_11)), .inr (.inl (.int, a0_12)), .inr (.inl (.int, a0_13)), .inr (.inl (.int, a0_14)), .inl [.int a1_0, .int a1_1, .int a1_2, .int a1_3, .int a1_4, .int a1_5, .ref 12, .ref 13, .ref 14, .ref 15, .ref 16, .ref 17, .ref 18, .ref 19, .ref 20, .int a1_15, .int a1_16, .int a1_17], .inr (.inl (.int, a1_6)), .inr (.inl (.int, a1_7)), .inr (.inl (.int, a1_8)), .inr (.inl (.int, a1_9)), .inr (.inl (.int, a1_10)), .inr (.inl (.int, a1_11)), .inr (.inl (.int, a1_12)), .inr (.inl (.int, a1_13)), .inr (.inl (.int, a1_14))]
def H1x16 (s : List Int32) (o0 o1 : Ob) (a1_0 : Int32) (a1_1 : Int32) (a1_2 : Int32) (a1_3 : Int32) (a1_4 : Int32) (a1_5 : Int32) (a1_6 : List Int32) (a1_7 : List Int32) (a1_8 : List Int32) (a1_9 : List Int32) (a1_10 : List Int32) (a1_11 : List Int32) (a1_12 : List Int32) (a1_13 : List Int32) (a1_14 : List Int32) : QHeap := H1v s (f_regTuple o0) (f_regA o0) (f_regB o0) (f_regC o0) (f_regCount o0) (f_slots o0) (f_range o0) (f_slide o0) (f_frontSize o0) (f_backSize o0) (f_backElem o0) (f_frontAgg o0) (f_backAgg o0) (f_snap o0) (f_reg o0) (f_capacity o0) (f_queries o0) (f_n o0) a1_0 a1_1 a1_2 a1_3 a1_4 a1_5 a1_6 a1_7 a1_8 a1_9 a1_10 a1_11 a1_12 a1_13 a1_14 (f_capacity o1) (f_queries o1) (f_n o1)
def H1x17 (s : List Int32) (o0 o1 : Ob) (a1_0 : Int32) (a1_1 : Int32) (a1_2 : Int32) (a1_3 : Int32) (a1_4 : Int32) (a1_5 : Int32) (a1_6 : List Int32) (a1_7 : List Int32) (a1_8 : List Int32) (a1_9 : List Int32) (a1_10 : List Int32) (a1_11 : List Int32) (a1_12 : List Int32) (a1_13 : List Int32) (a1_14 : List Int32) (a1_15 : Int32) : QHeap := H1v s (f_regTuple o0) (f_regA o0) (f_regB o0) (f_regC o0) (f_regCount o0) (f_slots o0) (f_range o0) (f_slide o0) (f_frontSize o0) (f_backSize o0) (f_backElem o0) (f_frontAgg o0) (f_backAgg o0) (f_snap o0) (f_reg o0) (f_capacity o0) (f_queries o0) (f_n o0) a1_0 a1_1 a1_2 a1_3 a1_4 a1_5 a1_6 a1_7 a1_8 a1_9 a1_10 a1_11 a1_12 a1_13 a1_14 a1_15 (f_queries o1) (f_n o1)
def H1x18 (s : List Int32) (o0 o1 : Ob) (a1_0 : Int32) (a1_1 : Int32) (a1_2 : Int32) (a1_3 : Int32) (a1_4 : Int32) (a1_5 : Int32) (a1_6 : List Int32) (a1_7 : List Int32) (a1_8 : List Int32) (a1_9 : List Int32) (a1_10 : List Int32) (a1_11 : List Int32) (a1_12 : List Int32) (a1_13 : List Int32) (a1_14 : List Int32) (a1_15 : Int32) (a1_16 : Int32) : QHeap := H1v s (f_regTuple o0) (f_regA o0) (f_regB o0) (f_regC o0) (f_regCount o0) (f_slots o0) (f_range o0) (f_slide o0) (f_frontSize o0) (f_backSize o0) (f_backElem o0) (f_frontAgg o0) (f_backAgg o0) (f_snap o0) (f_reg o0) (f_capacity o0) (f_queries o0) (f_n o0) a1_0 a1_1 a1_2 a1_3 a1_4 a1_5 a1_6 a1_7 a1_8 a1_9 a1_10 a1_11 a1_12 a1_13 a1_14 a1_15 a1_16 (f_n o1)
def H1x19 (s : List Int32) (o0 o1 : Ob) (a1_0 : Int32) (a1_1 : Int32) (a1_2 : Int32) (a1_3 : Int32) (a1_4 : Int32) (a1_5 : Int32) (a1_6 : List Int32) (a1_7 : List Int32) (a1_8 : List Int32) (a1_9 : List Int32) (a1_10 : List Int32) (a1_11 : List Int32) (a1_12 : List Int32) (a1_13 : List Int32) (a1_14 : List Int32) (a1_15 : Int32) (a1_16 : Int32) (a1_17 : Int32) : QHeap := H1v s (f_regTuple o0) (f_regA o0) (f_regB o0) (f_regC o0) (f_regCount o0) (f_slots o0) (f_range o0) (f_slide o0) (f_frontSize o0) (f_backSize o0) (f_backElem o0) (f_frontAgg o0) (f_backAgg o0) (f_snap o0) (f_reg o0) (f_capacity o0) (f_queries o0) (f_n o0) a1_0 a1_1 a1_2 a1_3 a1_4 a1_5 a1_6 a1_7 a1_8 a1_9 a1_10 a1_11 a1_12 a1_13 a1_14 a1_15 a1_16 a1_17
def H1x20 (s : List Int32) (o0 o1 : Ob) (a1_8 : List Int32) : QHeap := H1v s (f_regTuple o0) (f_regA o0) (f_regB o0) (f_regC o0) (f_regCount o0) (f_slots o0) (f_range o0) (f_slide o0) (f_frontSize o0) (f_backSize o0) (f_backElem o0) (f_frontAgg o0) (f_backAgg o0) (f_snap o0) (f_reg o0) (f_capacity o0) (f_queries o0) (f_n o0) (f_regTuple o1) (f_regA o1) (f_regB o1) (f_regC o1) (f_regCount o1) (f_slots o1) (f_range o1) (f_slide o1) a1_8 (f_backSize o1) (f_backElem o1) (f_frontAgg o1) (f_backAgg o1) (f_snap o1) (f_reg o1) (f_capacity o1) (f_queries o1) (f_n o1)
def H1x21 (s : List Int32) (o0 o1 : Ob) (a1_8 : List Int32) (a1_9 : List Int32) : QHeap := H1v s (f_regTuple o0) (f_regA o0) (f_regB o0) (f_regC o0) (f_regCount o0) (f_slots o0) (f_range o0) (f_slide o0) (f_frontSize o0) (f_backSize o0) (f_backElem o0) (f_frontAgg o0) (f_backAgg o0) (f_snap o0) (f_reg o0) (f_capacity o0) (f_queries o0) (f_n o0) (f_regTuple o1) (f_regA o1) (f_regB o1) (f_regC o1) (f_regCount o1) (f_slots o1) (f_range o1) (f_slide o1) a1_8 a1_9 (f_backElem o1) (f_frontAgg o1) (f_backAgg o1) (f_snap o1) (f_reg o1) (f_capacity o1) (f_queries o1) (f_n o1)
def H1x22 (s : List Int32) (o0 o1 : Ob) (a1_14 : List Int32) : QHeap := H1v s (f_regTuple o0) (f_regA o0) (f_regB o0) (f_regC o0) (f_regCount o0) (f_slots o0) (f_range o0) (f_slide o0) (f_frontSize o0) (f_backSize o0) (f_backElem o0) (f_frontAgg o0) (f_backAgg o0) (f_snap o0) (f_reg o0) (f_capacity o0) (f_queries o0) (f_n o0) (f_regTuple o1) (f_regA o1) (f_regB o1) (f_regC o1) (f_regCount o1) (f_slots o1) (f_range o1) (f_slide o1) (f_frontSize o1) (f_backSize o1) (f_backElem o1) (f_frontAgg o1) (f_backAgg o1) (f_snap o1) a1_14 (f_capacity o1) (f_queries o1) (f_n o1)
theorem tF4a1 (Ad : QAd n0 ad) (W : QW Z a0) (s : List Int32) (e0 : Ob) (o : Ob) (x1 : Int32) (x2 : Int32) (x3 : Int32) (x4 : Int32) (x5 : Int32) {r : Ob} (h : F4 o x1 x2 x3 x4 x5 = some r) : QTri l Z n0 ad 4 (0, qentry [.ref 11, .int x1, .int x2, .int x3, .int x4, .int x5] (pMaxL 4), [], (H1 s e0 o)) (none : Option Value) (H1 s e0 r) := by
 unfold F4 at h
 refine zS Ad W 2 (st' := (2, [vR 11, vI x1, vI x2, vI x3, vI x4, vI x5, none], [.int x1, .ref 11], (H1 s e0 o))) rfl ?_
 obtain ⟨r231, hr231, h⟩ := bind_eq_some_iff.mp h
 refine QTri.callP W (a := 11) (as := [.int x1]) (rest := []) (w := (some (.int r231))) (σ₁ := (H1 s e0 o)) rfl rfl rfl rfl rfl rfl rfl rfl (tF5 Ad W x1 hr231) ?_
 rcases qite h with ⟨hc232, h⟩ | ⟨hc232, h⟩
 ·refine zF Ad W (t := 9) (f := 8) rfl (XT.i0_ne_f hc232) ?_
  obtain rfl := Option.some.inj h
  exact QTri.ret0 rfl rfl
 ·refine zT Ad W (t := 9) (f := 8) rfl (XT.i0_ne_t hc232) ?_
  refine zS Ad W 8 (st' := (21, [vR 11, vI x1, vI x2, vI x3, vI x4, vI x5, vI (x1 * (4:Int32))], [.int x2, .int (x1 * (4:Int32)), .ref 20], (H1 s e0 o))) rfl ?_
  obtain ⟨y233, hy233, h⟩ := bind_eq_some_iff.mp h
  refine zB Ad W (f := fun y233 => (22, [vR 11, vI x1, vI x2, vI x3, vI x4, vI x5, vI (x1 * (4:Int32))], [], (H1x22 s e0 o y233))) rfl hy233 ?_
  refine zS Ad W 6 (st' := (31, [vR 11, vI x1, vI x2, vI x3, vI x4, vI x5, vI (x1 * (4:Int32))], [.int x3, .int ((x1 * (4:Int32)) + (1:Int32)), .ref 20], (H1x22 s e0 o y233))) rfl ?_
  obtain ⟨y234, hy234, h⟩ := bind_eq_some_iff.mp h
  refine zB Ad W (f := fun y234 => (32, [vR 11, vI x1, vI x2, vI x3, vI x4, vI x5, vI (x1 * (4:Int32))], [], (H1x22 s e0 o y234))) rfl hy234 ?_
  refine zS Ad W 6 (st' := (42, [vR 11, vI x1, vI x2, vI x3, vI x4, vI x5, vI (x1 * (4:Int32))], [.int x4, .int ((x1 * (4:Int32)) + (2:Int32)), .ref 20], (H1x22 s e0 o y234))) rfl ?_
  obtain ⟨y235, hy235, h⟩ := bind_eq_some_iff.mp h
  refine zB Ad W (f := fun y235 => (43, [vR 11, vI x1, vI x2, vI x3, vI x4, vI x5, vI (x1 * (4:Int32))], [], (H1x22 s e0 o y235))) rfl hy235 ?_
  refine zS Ad W 6 (st' := (53, [vR 11, vI x1, vI x2, vI x3, vI x4, vI x5, vI (x1 * (4:Int32))], [.int x5, .int ((x1 * (4:Int32)) + (3:Int32)), .ref 20], (H1x22 s e0 o y235))) rfl ?_
  obtain ⟨y236, hy236, h⟩ := bind_eq_some_iff.mp h
  refine zB Ad W (f := fun y236 => (54, [vR 11, vI x1, vI x2, vI x3, vI x4, vI x5, vI (x1 * (4:Int32))], [], (H1x22 s e0 o y236))) rfl hy236 ?_
  have E237 : ((H1x22 s e0 o y236) : QHeap) = (H1 s e0 (s_reg o y236)) := by simp only [fs, H1, H1v, H1x22, s_reg]
  rw [E237]
  obtain rfl := Option.some.inj h
  exact QTri.ret0 rfl rfl
theorem tF3a1 (Ad : QAd n0 ad) (W : QW Z a0) (s : List Int32) (e0 : Ob) (o : Ob) (x1 : Int32) {r : Ob} (h : F3 o x1 = some r) : QTri l Z n0 ad 3 (0, qentry [.ref 11, .int x1] (pMaxL 3), [], (H1 s e0 o)) (none : Option Value) (H1 s e0 r) := by
 unfold F3 at h
 refine zS Ad W 6 (st' := (6, [vR 11, vI x1], [.int (1:Int32), .int (0:Int32), .int (0:Int32), .int (1:Int32), .int x1, .ref 11], (H1 s e0 o))) rfl ?_
 obtain ⟨r238, hr238, h⟩ := bind_eq_some_iff.mp h
 refine QTri.callP W (a := 11) (as := [.int x1, .int (1:Int32), .int (0:Int32), .int (0:Int32), .int (1:Int32)]) (rest := []) (w := none) (σ₁ := (H1 s e0 r238)) rfl rfl rfl rfl rfl rfl rfl rfl (tF4a1 Ad W s e0 o x1 (1:Int32) (0:Int32) (0:Int32) (1:Int32) hr238) ?_
 obtain rfl := Option.some.inj h
 exact QTri.ret0 rfl rfl
def H1x23 (s : List Int32) (o0 o1 : Ob) (a1_12 : List Int32) : QHeap := H1v s (f_regTuple o0) (f_regA o0) (f_regB o0) (f_regC o0) (f_regCount o0) (f_slots o0) (f_range o0) (f_slide o0) (f_frontSize o0) (f_backSize o0) (f_backElem o0) (f_frontAgg o0) (f_backAgg o0) (f_snap o0) (f_reg o0) (f_capacity o0) (f_queries o0) (f_n o0) (f_regTuple o1) (f_regA o1) (f_regB o1) (f_regC o1) (f_regCount o1) (f_slots o1) (f_range o1) (f_slide o1) (f_frontSize o1) (f_backSize o1) (f_backElem o1) (f_frontAgg o1) a1_12 (f_snap o1) (f_reg o1) (f_capacity o1) (f_queries o1) (f_n o1)
theorem tB6_25a1 (Ad : QAd n0 ad) (W : QW Z a0) (s : List Int32) (e0 : Ob) (x1 : Int32) (x3 : Int32) (v : Int32 × Ob) {r : ((Ob)) ⊕ (Int32 × Ob)} {u : Option Value} {τ : QHeap} (h : B6_25 x1 x3 v = some r) (hx0 : ∀ x : Ob, r = .inl x → u = (none : Option Value) ∧ τ = (H1 s e0 x)) (hc : ∀ x : Int32 × Ob, r = .inr x → QTri l Z n0 ad 6 (25, [vR 11, vI x1, none, vI x3, vI x.1], [], (H1 s e0 x.2)) u τ) : QTri l Z n0 ad 6 (25, [vR 11, vI x1, none, vI x3, vI v.1], [], (H1 s e0 v.2)) u τ := by
 unfold B6_25 at h
 refine zS Ad W 2 (st' := (28, [vR 11, vI x1, none, vI x3, vI v.1], [.int (4:Int32), .int v.1], (H1 s e0 v.2))) rfl ?_
 rcases qite h with ⟨hc244, h⟩ | ⟨hc244, h⟩
 ·refine zF Ad W (t := 57) (f := 31) rfl (XT.ii_ge_f hc244) ?_
  refine zS Ad W 12 (st' := (49, [vR 11, vI x1, none, vI x3, vI v.1], [.int (x3 + v.1), .ref 20, .int ((x1 * (4:Int32)) + v.1), .ref 18], (H1 s e0 v.2))) rfl ?_
  obtain ⟨y245, hy245, h⟩ := bind_eq_some_iff.mp h
  refine zB Ad W (f := fun y245 => (50, [vR 11, vI x1, none, vI x3, vI v.1], [.int y245, .int ((x1 * (4:Int32)) + v.1), .ref 18], (H1 s e0 v.2))) rfl hy245 ?_
  obtain ⟨y246, hy246, h⟩ := bind_eq_some_iff.mp h
  refine zB Ad W (f := fun y246 => (51, [vR 11, vI x1, none, vI x3, vI v.1], [], (H1x23 s e0 v.2 y246))) rfl hy246 ?_
  refine zS Ad W 2 (st' := (25, [vR 11, vI x1, none, vI x3, vI (v.1 + (1:Int32))], [], (H1x23 s e0 v.2 y246))) rfl ?_
  have E247 : ((H1x23 s e0 v.2 y246) : QHeap) = (H1 s e0 (s_backAgg v.2 y246)) := by simp only [fs, H1, H1v, H1x23, s_backAgg]
  rw [E247]
  obtain rfl := Option.some.inj h
  exact zM [tt,tt,ff,tt,tt] (hc ((v.1 + (1:Int32)), (s_backAgg v.2 y246)) rfl)
 ·refine zT Ad W (t := 57) (f := 31) rfl (XT.ii_ge_t hc244) ?_
  obtain rfl := Option.some.inj h
  obtain ⟨rfl, rfl⟩ := hx0 v.2 rfl
  exact QTri.ret0 rfl rfl
theorem tF6a1 (Ad : QAd n0 ad) (W : QW Z a0) (s : List Int32) (e0 : Ob) (o : Ob) (x1 : Int32) (x2 : Int32) {r : Ob} (h : F6 o x1 x2 = some r) : QTri l Z n0 ad 6 (0, qentry [.ref 11, .int x1, .int x2] (pMaxL 6), [], (H1 s e0 o)) (none : Option Value) (H1 s e0 r) := by
 unfold F6 at h
 refine zS Ad W 2 (st' := (2, [vR 11, vI x1, vI x2, none, none], [.int x2, .ref 11], (H1 s e0 o))) rfl ?_
 obtain ⟨r240, hr240, h⟩ := bind_eq_some_iff.mp h
 refine QTri.callP W (a := 11) (as := [.int x2]) (rest := []) (w := (some (.int r240))) (σ₁ := (H1 s e0 o)) rfl rfl rfl rfl rfl rfl rfl rfl (tF5 Ad W x2 hr240) ?_
 rcases qite h with ⟨hc241, h⟩ | ⟨hc241, h⟩
 ·refine zT Ad W (t := 17) (f := 8) rfl (XT.i0_eq_t hc241) ?_
  obtain rfl := Option.some.inj h
  exact QTri.ret0 rfl rfl
 ·refine zF Ad W (t := 17) (f := 8) rfl (XT.i0_eq_f hc241) ?_
  refine zS Ad W 1 (st' := (9, [vR 11, vI x1, vI x2, none, none], [.int x1], (H1 s e0 o))) rfl ?_
  rcases qite h with ⟨hc242, h⟩ | ⟨hc242, h⟩
  ·refine zT Ad W (t := 17) (f := 12) rfl (XT.i0_lt_t hc242) ?_
   obtain rfl := Option.some.inj h
   exact QTri.ret0 rfl rfl
  ·refine zF Ad W (t := 17) (f := 12) rfl (XT.i0_lt_f hc242) ?_
   refine zS Ad W 2 (st' := (14, [vR 11, vI x1, vI x2, none, none], [.int (4:Int32), .int x1], (H1 s e0 o))) rfl ?_
   rcases qite h with ⟨hc243, h⟩ | ⟨hc243, h⟩
   ·refine zT Ad W (t := 18) (f := 17) rfl (XT.ii_lt_t hc243) ?_
    refine zS Ad W 6 (st' := (25, [vR 11, vI x1, vI x2, vI (x2 * (4:Int32)), vI (0:Int32)], [], (H1 s e0 o))) rfl ?_
    obtain ⟨e248, he248, h⟩ := bind_eq_some_iff.mp h
    refine zM [tt,tt,ff,tt,tt] (loopN_tri (B := B6_25 x1 (x2 * (4:Int32))) (T := fun lv249 => QTri l Z n0 ad 6 (25, [vR 11, vI x1, none, vI (x2 * (4:Int32)), vI lv249.1], [], (H1 s e0 lv249.2)) (none : Option Value) (H1 s e0 r)) (KE := fun e248a => (none : Option Value) = (none : Option Value) ∧ (H1 s e0 r) = (H1 s e0 e248a)) (fun lv249 r hB hE hC => tB6_25a1 Ad W s e0 x1 (x2 * (4:Int32)) lv249 hB (fun x q => hE _ q) (fun x q => hC x q)) qN ((0:Int32), o) e248 he248 ?_)
    obtain rfl := Option.some.inj h
    exact ⟨rfl, rfl⟩
   ·refine zF Ad W (t := 18) (f := 17) rfl (XT.ii_lt_f hc243) ?_
    obtain rfl := Option.some.inj h
    exact QTri.ret0 rfl rfl
def H1x24 (s : List Int32) (o0 o1 : Ob) (a1_13 : List Int32) : QHeap := H1v s (f_regTuple o0) (f_regA o0) (f_regB o0) (f_regC o0) (f_regCount o0) (f_slots o0) (f_range o0) (f_slide o0) (f_frontSize o0) (f_backSize o0) (f_backElem o0) (f_frontAgg o0) (f_backAgg o0) (f_snap o0) (f_reg o0) (f_capacity o0) (f_queries o0) (f_n o0) (f_regTuple o1) (f_regA o1) (f_regB o1) (f_regC o1) (f_regCount o1) (f_slots o1) (f_range o1) (f_slide o1) (f_frontSize o1) (f_backSize o1) (f_backElem o1) (f_frontAgg o1) (f_backAgg o1) a1_13 (f_reg o1) (f_capacity o1) (f_queries o1) (f_n o1)
theorem tB7_25a1 (Ad : QAd n0 ad) (W : QW Z a0) (s : List Int32) (e0 : Ob) (x1 : Int32) (x3 : Int32) (v : Int32 × Ob) {r : ((Ob)) ⊕ (Int32 × Ob)} {u : Option Value} {τ : QHeap} (h : B7_25 x1 x3 v = some r) (hx0 : ∀ x : Ob, r = .inl x → u = (none : Option Value) ∧ τ = (H1 s e0 x)) (hc : ∀ x : Int32 × Ob, r = .inr x → QTri l Z n0 ad 7 (25, [vR 11, vI x1, none, vI x3, vI x.1], [], (H1 s e0 x.2)) u τ) : QTri l Z n0 ad 7 (25, [vR 11, vI x1, none, vI x3, vI v.1], [], (H1 s e0 v.2)) u τ := by
 unfold B7_25 at h
 refine zS Ad W 2 (st' := (28, [vR 11, vI x1, none, vI x3, vI v.1], [.int (4:Int32), .int v.1], (H1 s e0 v.2))) rfl ?_
 rcases qite h with ⟨hc255, h⟩ | ⟨hc255, h⟩
 ·refine zF Ad W (t := 57) (f := 31) rfl (XT.ii_ge_f hc255) ?_
  refine zS Ad W 12 (st' := (49, [vR 11, vI x1, none, vI x3, vI v.1], [.int (x3 + v.1), .ref 20, .int ((x1 * (4:Int32)) + v.1), .ref 19], (H1 s e0 v.2))) rfl ?_
  obtain ⟨y256, hy256, h⟩ := bind_eq_some_iff.mp h
  refine zB Ad W (f := fun y256 => (50, [vR 11, vI x1, none, vI x3, vI v.1], [.int y256, .int ((x1 * (4:Int32)) + v.1), .ref 19], (H1 s e0 v.2))) rfl hy256 ?_
  obtain ⟨y257, hy257, h⟩ := bind_eq_some_iff.mp h
  refine zB Ad W (f := fun y257 => (51, [vR 11, vI x1, none, vI x3, vI v.1], [], (H1x24 s e0 v.2 y257))) rfl hy257 ?_
  refine zS Ad W 2 (st' := (25, [vR 11, vI x1, none, vI x3, vI (v.1 + (1:Int32))], [], (H1x24 s e0 v.2 y257))) rfl ?_
  have E258 : ((H1x24 s e0 v.2 y257) : QHeap) = (H1 s e0 (s_snap v.2 y257)) := by simp only [fs, H1, H1v, H1x24, s_snap]
  rw [E258]
  obtain rfl := Option.some.inj h
  exact zM [tt,tt,ff,tt,tt] (hc ((v.1 + (1:Int32)), (s_snap v.2 y257)) rfl)
 ·refine zT Ad W (t := 57) (f := 31) rfl (XT.ii_ge_t hc255) ?_
  obtain rfl := Option.some.inj h
  obtain ⟨rfl, rfl⟩ := hx0 v.2 rfl
  exact QTri.ret0 rfl rfl
theorem tF7a1 (Ad : QAd n0 ad) (W : QW Z a0) (s : List Int32) (e0 : Ob) (o : Ob) (x1 : Int32) (x2 : Int32) {r : Ob} (h : F7 o x1 x2 = some r) : QTri l Z n0 ad 7 (0, qentry [.ref 11, .int x1, .int x2] (pMaxL 7), [], (H1 s e0 o)) (none : Option Value) (H1 s e0 r) := by
 unfold F7 at h
 refine zS Ad W 2 (st' := (2, [vR 11, vI x1, vI x2, none, none], [.int x2, .ref 11], (H1 s e0 o))) rfl ?_
 obtain ⟨r251, hr251, h⟩ := bind_eq_some_iff.mp h
 refine QTri.callP W (a := 11) (as := [.int x2]) (rest := []) (w := (some (.int r251))) (σ₁ := (H1 s e0 o)) rfl rfl rfl rfl rfl rfl rfl rfl (tF5 Ad W x2 hr251) ?_
 rcases qite h with ⟨hc252, h⟩ | ⟨hc252, h⟩
 ·refine zT Ad W (t := 17) (f := 8) rfl (XT.i0_eq_t hc252) ?_
  obtain rfl := Option.some.inj h
  exact QTri.ret0 rfl rfl
 ·refine zF Ad W (t := 17) (f := 8) rfl (XT.i0_eq_f hc252) ?_
  refine zS Ad W 1 (st' := (9, [vR 11, vI x1, vI x2, none, none], [.int x1], (H1 s e0 o))) rfl ?_
  rcases qite h with ⟨hc253, h⟩ | ⟨hc253, h⟩
  ·refine zT Ad W (t := 17) (f := 12) rfl (XT.i0_lt_t hc253) ?_
   obtain rfl := Option.some.inj h
   exact QTri.ret0 rfl rfl
  ·refine zF Ad W (t := 17) (f := 12) rfl (XT.i0_lt_f hc253) ?_
   refine zS Ad W 2 (st' := (14, [vR 11, vI x1, vI x2, none, none], [.int (4:Int32), .int x1], (H1 s e0 o))) rfl ?_
   rcases qite h with ⟨hc254, h⟩ | ⟨hc254, h⟩
   ·refine zT Ad W (t := 18) (f := 17) rfl (XT.ii_lt_t hc254) ?_
    refine zS Ad W 6 (st' := (25, [vR 11, vI x1, vI x2, vI (x2 * (4:Int32)), vI (0:Int32)], [], (H1 s e0 o))) rfl ?_
    obtain ⟨e259, he259, h⟩ := bind_eq_some_iff.mp h
    refine zM [tt,tt,ff,tt,tt] (loopN_tri (B := B7_25 x1 (x2 * (4:Int32))) (T := fun lv260 => QTri l Z n0 ad 7 (25, [vR 11, vI x1, none, vI (x2 * (4:Int32)), vI lv260.1], [], (H1 s e0 lv260.2)) (none : Option Value) (H1 s e0 r)) (KE := fun e259a => (none : Option Value) = (none : Option Value) ∧ (H1 s e0 r) = (H1 s e0 e259a)) (fun lv260 r hB hE hC => tB7_25a1 Ad W s e0 x1 (x2 * (4:Int32)) lv260 hB (fun x q => hE _ q) (fun x q => hC x q)) qN ((0:Int32), o) e259 he259 ?_)
    obtain rfl := Option.some.inj h
    exact ⟨rfl, rfl⟩
   ·refine zF Ad W (t := 18) (f := 17) rfl (XT.ii_lt_f hc254) ?_
    obtain rfl := Option.some.inj h
    exact QTri.ret0 rfl rfl
theorem tF2a1 (Ad : QAd n0 ad) (W : QW Z a0) (s : List Int32) (e0 : Ob) (o : Ob) (x1 : Int32) {r : Ob} (h : F2 o x1 = some r) : QTri l Z n0 ad 2 (0, qentry [.ref 11, .int x1] (pMaxL 2), [], (H1 s e0 o)) (none : Option Value) (H1 s e0 r) := by
 unfold F2 at h
 refine zS Ad W 1 (st' := (1, [vR 11, vI x1], [.int x1], (H1 s e0 o))) rfl ?_
 rcases qite h with ⟨hc226, h⟩ | ⟨hc226, h⟩
 ·refine zT Ad W (t := 9) (f := 4) rfl (XT.i0_lt_t hc226) ?_
  obtain rfl := Option.some.inj h
  exact QTri.ret0 rfl rfl
 ·refine zF Ad W (t := 9) (f := 4) rfl (XT.i0_lt_f hc226) ?_
  refine zS Ad W 2 (st' := (6, [vR 11, vI x1], [.int (4:Int32), .int x1], (H1 s e0 o))) rfl ?_
  rcases qite h with ⟨hc227, h⟩ | ⟨hc227, h⟩
  ·refine zT Ad W (t := 10) (f := 9) rfl (XT.ii_lt_t hc227) ?_
   refine zS Ad W 4 (st' := (16, [vR 11, vI x1], [.int (0:Int32), .int x1, .ref 14], (H1 s e0 o))) rfl ?_
   obtain ⟨y228, hy228, h⟩ := bind_eq_some_iff.mp h
   refine zB Ad W (f := fun y228 => (17, [vR 11, vI x1], [], (H1x20 s e0 o y228))) rfl hy228 ?_
   refine zS Ad W 4 (st' := (23, [vR 11, vI x1], [.int (0:Int32), .int x1, .ref 15], (H1x20 s e0 o y228))) rfl ?_
   obtain ⟨y229, hy229, h⟩ := bind_eq_some_iff.mp h
   refine zB Ad W (f := fun y229 => (24, [vR 11, vI x1], [], (H1x21 s e0 o y228 y229))) rfl hy229 ?_
   refine zS Ad W 2 (st' := (26, [vR 11, vI x1], [.int (1:Int32), .ref 11], (H1x21 s e0 o y228 y229))) rfl ?_
   have E230 : ((H1x21 s e0 o y228 y229) : QHeap) = (H1 s e0 (s_backSize (s_frontSize o y228) y229)) := by simp only [fs, H1, H1v, H1x21, s_frontSize, s_backSize]
   rw [E230]
   obtain ⟨r239, hr239, h⟩ := bind_eq_some_iff.mp h
   refine QTri.callP W (a := 11) (as := [.int (1:Int32)]) (rest := []) (w := none) (σ₁ := (H1 s e0 r239)) rfl rfl rfl rfl rfl rfl rfl rfl (tF3a1 Ad W s e0 (s_backSize (s_frontSize o y228) y229) (1:Int32) hr239) ?_
   refine zS Ad W 3 (st' := (32, [vR 11, vI x1], [.int (1:Int32), .int x1, .ref 11], (H1 s e0 r239))) rfl ?_
   obtain ⟨r250, hr250, h⟩ := bind_eq_some_iff.mp h
   refine QTri.callP W (a := 11) (as := [.int x1, .int (1:Int32)]) (rest := []) (w := none) (σ₁ := (H1 s e0 r250)) rfl rfl rfl rfl rfl rfl rfl rfl (tF6a1 Ad W s e0 r239 x1 (1:Int32) hr250) ?_
   refine zS Ad W 3 (st' := (38, [vR 11, vI x1], [.int (1:Int32), .int x1, .ref 11], (H1 s e0 r250))) rfl ?_
   obtain ⟨r261, hr261, h⟩ := bind_eq_some_iff.mp h
   refine QTri.callP W (a := 11) (as := [.int x1, .int (1:Int32)]) (rest := []) (w := none) (σ₁ := (H1 s e0 r261)) rfl rfl rfl rfl rfl rfl rfl rfl (tF7a1 Ad W s e0 r250 x1 (1:Int32) hr261) ?_
   obtain rfl := Option.some.inj h
   exact QTri.ret0 rfl rfl
  ·refine zF Ad W (t := 10) (f := 9) rfl (XT.ii_lt_f hc227) ?_
   obtain rfl := Option.some.inj h
   exact QTri.ret0 rfl rfl
theorem tB1_138a1 (Ad : QAd n0 ad) (W : QW Z a0) (s : List Int32) (e0 : Ob) (v : Int32 × Ob) {r : ((Ob)) ⊕ (Int32 × Ob)} {u : Option Value} {τ : QHeap} (h : B1_138 v = some r) (hx0 : ∀ x : Ob, r = .inl x → u = (none : Option Value) ∧ τ = (H1 s e0 x)) (hc : ∀ x : Int32 × Ob, r = .inr x → QTri l Z n0 ad 1 (138, [vR 11, none, none, vI x.1], [], (H1 s e0 x.2)) u τ) : QTri l Z n0 ad 1 (138, [vR 11, none, none, vI v.1], [], (H1 s e0 v.2)) u τ := by
 unfold B1_138 at h
 refine zS Ad W 2 (st' := (140, [vR 11, none, none, vI v.1], [.int (4:Int32), .int v.1], (H1 s e0 v.2))) rfl ?_
 rcases qite h with ⟨hc225, h⟩ | ⟨hc225, h⟩
 ·refine zF Ad W (t := 154) (f := 143) rfl (XT.ii_ge_f hc225) ?_
  refine zS Ad W 2 (st' := (145, [vR 11, none, none, vI v.1], [.int v.1, .ref 11], (H1 s e0 v.2))) rfl ?_
  obtain ⟨r262, hr262, h⟩ := bind_eq_some_iff.mp h
  refine QTri.callP W (a := 11) (as := [.int v.1]) (rest := []) (w := none) (σ₁ := (H1 s e0 r262)) rfl rfl rfl rfl rfl rfl rfl rfl (tF2a1 Ad W s e0 v.2 v.1 hr262) ?_
  refine zS Ad W 2 (st' := (138, [vR 11, none, none, vI (v.1 + (1:Int32))], [], (H1 s e0 r262))) rfl ?_
  obtain rfl := Option.some.inj h
  exact zM [tt,ff,ff,tt] (hc ((v.1 + (1:Int32)), r262) rfl)
 ·refine zT Ad W (t := 154) (f := 143) rfl (XT.ii_ge_t hc225) ?_
  obtain rfl := Option.some.inj h
  obtain ⟨rfl, rfl⟩ := hx0 v.2 rfl
  exact QTri.ret0 rfl rfl
theorem tF1a1 (Ad : QAd n0 ad) (W : QW Z a0) (s : List Int32) (e0 : Ob) (x1 : Int32) {r : Ob} (h : F1 x1 = some r) : QTri l Z n0 ad 1 (0, qentry [.ref 11, .int x1] (pMaxL 1), [], [.inr (.inl (.int, s)), .inl [.int (f_regTuple e0), .int (f_regA e0), .int (f_regB e0), .int (f_regC e0), .int (f_regCount e0), .int (f_slots e0), .ref 2, .ref 3, .ref 4, .ref 5, .ref 6, .ref 7, .ref 8, .ref 9, .ref 10, .int (f_capacity e0), .int (f_queries e0), .int (f_n e0)], .inr (.inl (.int, (f_range e0))), .inr (.inl (.int, (f_slide e0))), .inr (.inl (.int, (f_frontSize e0))), .inr (.inl (.int, (f_backSize e0))), .inr (.inl (.int, (f_backElem e0))), .inr (.inl (.int, (f_frontAgg e0))), .inr (.inl (.int, (f_backAgg e0))), .inr (.inl (.int, (f_snap e0))), .inr (.inl (.int, (f_reg e0))), .inl [.int (f_regTuple ob0), .int (f_regA ob0), .int (f_regB ob0), .int (f_regC ob0), .int (f_regCount ob0), .int (f_slots ob0), .null, .null, .null, .null, .null, .null, .null, .null, .null, .int (f_capacity ob0), .int (f_queries ob0), .int (f_n ob0)]]) (none : Option Value) (H1 s e0 r) := by
 unfold F1 at h
 refine zS Ad W 1 (st' := (1, [vR 11, vI x1, none, none], [.ref 11], [.inr (.inl (.int, s)), .inl [.int (f_regTuple e0), .int (f_regA e0), .int (f_regB e0), .int (f_regC e0), .int (f_regCount e0), .int (f_slots e0), .ref 2, .ref 3, .ref 4, .ref 5, .ref 6, .ref 7, .ref 8, .ref 9, .ref 10, .int (f_capacity e0), .int (f_queries e0), .int (f_n e0)], .inr (.inl (.int, (f_range e0))), .inr (.inl (.int, (f_slide e0))), .inr (.inl (.int, (f_frontSize e0))), .inr (.inl (.int, (f_backSize e0))), .inr (.inl (.int, (f_backElem e0))), .inr (.inl (.int, (f_frontAgg e0))), .inr (.inl (.int, (f_backAgg e0))), .inr (.inl (.int, (f_snap e0))), .inr (.inl (.int, (f_reg e0))), .inl [.int (f_regTuple ob0), .int (f_regA ob0), .int (f_regB ob0), .int (f_regC ob0), .int (f_regCount ob0), .int (f_slots ob0), .null, .null, .null, .null, .null, .null, .null, .null, .null, .int (f_capacity ob0), .int (f_queries ob0), .int (f_n ob0)]])) rfl ?_
 refine QTri.callO W rfl rfl rfl ?_
 refine zS Ad W 3 (st' := (9, [vR 11, vI x1, none, none], [], [.inr (.inl (.int, s)), .inl [.int (f_regTuple e0), .int (f_regA e0), .int (f_regB e0), .int (f_regC e0), .int (f_regCount e0), .int (f_slots e0), .ref 2, .ref 3, .ref 4, .ref 5, .ref 6, .ref 7, .ref 8, .ref 9, .ref 10, .int (f_capacity e0), .int (f_queries e0), .int (f_n e0)], .inr (.inl (.int, (f_range e0))), .inr (.inl (.int, (f_slide e0))), .inr (.inl (.int, (f_frontSize e0))), .inr (.inl (.int, (f_backSize e0))), .inr (.inl (.int, (f_backElem e0))), .inr (.inl (.int, (f_frontAgg e0))), .inr (.inl (.int, (f_backAgg e0))), .inr (.inl (.int, (f_snap e0))), .inr (.inl (.int, (f_reg e0))), .inl [.int (0:Int32), .int (f_regA ob0), .int (f_regB ob0), .int (f_regC ob0), .int (f_regCount ob0), .int (f_slots ob0), .null, .null, .null, .null, .null, .null, .null, .null, .null, .int (f_capacity ob0), .int (f_queries ob0), .int (f_n ob0)]])) rfl ?_
 refine zS Ad W 3 (st' := (14, [vR 11, vI x1, none, none], [], [.inr (.inl (.int, s)), .inl [.int (f_regTuple e0), .int (f_regA e0), .int (f_regB e0), .int (f_regC e0), .int (f_regCount e0), .int (f_slots e0), .ref 2, .ref 3, .ref 4, .ref 5, .ref 6, .ref 7, .ref 8, .ref 9, .ref 10, .int (f_capacity e0), .int (f_queries e0), .int (f_n e0)], .inr (.inl (.int, (f_range e0))), .inr (.inl (.int, (f_slide e0))), .inr (.inl (.int, (f_frontSize e0))), .inr (.inl (.int, (f_backSize e0))), .inr (.inl (.int, (f_backElem e0))), .inr (.inl (.int, (f_frontAgg e0))), .inr (.inl (.int, (f_backAgg e0))), .inr (.inl (.int, (f_snap e0))), .inr (.inl (.int, (f_reg e0))), .inl [.int (0:Int32), .int (1:Int32), .int (f_regB ob0), .int (f_regC ob0), .int (f_regCount ob0), .int (f_slots ob0), .null, .null, .null, .null, .null, .null, .null, .null, .null, .int (f_capacity ob0), .int (f_queries ob0), .int (f_n ob0)]])) rfl ?_
 refine zS Ad W 3 (st' := (19, [vR 11, vI x1, none, none], [], [.inr (.inl (.int, s)), .inl [.int (f_regTuple e0), .int (f_regA e0), .int (f_regB e0), .int (f_regC e0), .int (f_regCount e0), .int (f_slots e0), .ref 2, .ref 3, .ref 4, .ref 5, .ref 6, .ref 7, .ref 8, .ref 9, .ref 10, .int (f_capacity e0), .int (f_queries e0), .int (f_n e0)], .inr (.inl (.int, (f_range e0))), .inr (.inl (.int, (f_slide e0))), .inr (.inl (.int, (f_frontSize e0))), .inr (.inl (.int, (f_backSize e0))), .inr (.inl (.int, (f_backElem e0))), .inr (.inl (.int, (f_frontAgg e0))), .inr (.inl (.int, (f_backAgg e0))), .inr (.inl (.int, (f_snap e0))), .inr (.inl (.int, (f_reg e0))), .inl [.int (0:Int32), .int (1:Int32), .int (2:Int32), .int (f_regC ob0), .int (f_regCount ob0), .int (f_slots ob0), .null, .null, .null, .null, .null, .null, .null, .null, .null, .int (f_capacity ob0), .int (f_queries ob0), .int (f_n ob0)]])) rfl ?_
 refine zS Ad W 3 (st' := (24, [vR 11, vI x1, none, none], [], [.inr (.inl (.int, s)), .inl [.int (f_regTuple e0), .int (f_regA e0), .int (f_regB e0), .int (f_regC e0), .int (f_regCount e0), .int (f_slots e0), .ref 2, .ref 3, .ref 4, .ref 5, .ref 6, .ref 7, .ref 8, .ref 9, .ref 10, .int (f_capacity e0), .int (f_queries e0), .int (f_n e0)], .inr (.inl (.int, (f_range e0))), .inr (.inl (.int, (f_slide e0))), .inr (.inl (.int, (f_frontSize e0))), .inr (.inl (.int, (f_backSize e0))), .inr (.inl (.int, (f_backElem e0))), .inr (.inl (.int, (f_frontAgg e0))), .inr (.inl (.int, (f_backAgg e0))), .inr (.inl (.int, (f_snap e0))), .inr (.inl (.int, (f_reg e0))), .inl [.int (0:Int32), .int (1:Int32), .int (2:Int32), .int (3:Int32), .int (f_regCount ob0), .int (f_slots ob0), .null, .null, .null, .null, .null, .null, .null, .null, .null, .int (f_capacity ob0), .int (f_queries ob0), .int (f_n ob0)]])) rfl ?_
 refine zS Ad W 3 (st' := (29, [vR 11, vI x1, none, none], [], [.inr (.inl (.int, s)), .inl [.int (f_regTuple e0), .int (f_regA e0), .int (f_regB e0), .int (f_regC e0), .int (f_regCount e0), .int (f_slots e0), .ref 2, .ref 3, .ref 4, .ref 5, .ref 6, .ref 7, .ref 8, .ref 9, .ref 10, .int (f_capacity e0), .int (f_queries e0), .int (f_n e0)], .inr (.inl (.int, (f_range e0))), .inr (.inl (.int, (f_slide e0))), .inr (.inl (.int, (f_frontSize e0))), .inr (.inl (.int, (f_backSize e0))), .inr (.inl (.int, (f_backElem e0))), .inr (.inl (.int, (f_frontAgg e0))), .inr (.inl (.int, (f_backAgg e0))), .inr (.inl (.int, (f_snap e0))), .inr (.inl (.int, (f_reg e0))), .inl [.int (0:Int32), .int (1:Int32), .int (2:Int32), .int (3:Int32), .int (4:Int32), .int (f_slots ob0), .null, .null, .null, .null, .null, .null, .null, .null, .null, .int (f_capacity ob0), .int (f_queries ob0), .int (f_n ob0)]])) rfl ?_
 refine zS Ad W 3 (st' := (35, [vR 11, vI x1, none, none], [], [.inr (.inl (.int, s)), .inl [.int (f_regTuple e0), .int (f_regA e0), .int (f_regB e0), .int (f_regC e0), .int (f_regCount e0), .int (f_slots e0), .ref 2, .ref 3, .ref 4, .ref 5, .ref 6, .ref 7, .ref 8, .ref 9, .ref 10, .int (f_capacity e0), .int (f_queries e0), .int (f_n e0)], .inr (.inl (.int, (f_range e0))), .inr (.inl (.int, (f_slide e0))), .inr (.inl (.int, (f_frontSize e0))), .inr (.inl (.int, (f_backSize e0))), .inr (.inl (.int, (f_backElem e0))), .inr (.inl (.int, (f_frontAgg e0))), .inr (.inl (.int, (f_backAgg e0))), .inr (.inl (.int, (f_snap e0))), .inr (.inl (.int, (f_reg e0))), .inl [.int (0:Int32), .int (1:Int32), .int (2:Int32), .int (3:Int32), .int (4:Int32), .int (32:Int32), .null, .null, .null, .null, .null, .null, .null, .null, .null, .int (f_capacity ob0), .int (f_queries ob0), .int (f_n ob0)]])) rfl ?_
 refine zS Ad W 3 (st' := (39, [vR 11, vI x1, none, none], [.ref 12, .ref 11], [.inr (.inl (.int, s)), .inl [.int (f_regTuple e0), .int (f_regA e0), .int (f_regB e0), .int (f_regC e0), .int (f_regCount e0), .int (f_slots e0), .ref 2, .ref 3, .ref 4, .ref 5, .ref 6, .ref 7, .ref 8, .ref 9, .ref 10, .int (f_capacity e0), .int (f_queries e0), .int (f_n e0)], .inr (.inl (.int, (f_range e0))), .inr (.inl (.int, (f_slide e0))), .inr (.inl (.int, (f_frontSize e0))), .inr (.inl (.int, (f_backSize e0))), .inr (.inl (.int, (f_backElem e0))), .inr (.inl (.int, (f_frontAgg e0))), .inr (.inl (.int, (f_backAgg e0))), .inr (.inl (.int, (f_snap e0))), .inr (.inl (.int, (f_reg e0))), .inl [.int (0:Int32), .int (1:Int32), .int (2:Int32), .int (3:Int32), .int (4:Int32), .int (32:Int32), .null, .null, .null, .null, .null, .null, .null, .null, .null, .int (f_capacity ob0), .int (f_queries ob0), .int (f_n ob0)], .inr (.inl (.int, (List.replicate 4 0)))])) rfl ?_
 refine zS Ad W 1 (st' := (42, [vR 11, vI x1, none, none], [], [.inr (.inl (.int, s)), .inl [.int (f_regTuple e0), .int (f_regA e0), .int (f_regB e0), .int (f_regC e0), .int (f_regCount e0), .int (f_slots e0), .ref 2, .ref 3, .ref 4, .ref 5, .ref 6, .ref 7, .ref 8, .ref 9, .ref 10, .int (f_capacity e0), .int (f_queries e0), .int (f_n e0)], .inr (.inl (.int, (f_range e0))), .inr (.inl (.int, (f_slide e0))), .inr (.inl (.int, (f_frontSize e0))), .inr (.inl (.int, (f_backSize e0))), .inr (.inl (.int, (f_backElem e0))), .inr (.inl (.int, (f_frontAgg e0))), .inr (.inl (.int, (f_backAgg e0))), .inr (.inl (.int, (f_snap e0))), .inr (.inl (.int, (f_reg e0))), .inl [.int (0:Int32), .int (1:Int32), .int (2:Int32), .int (3:Int32), .int (4:Int32), .int (32:Int32), .ref 12, .null, .null, .null, .null, .null, .null, .null, .null, .int (f_capacity ob0), .int (f_queries ob0), .int (f_n ob0)], .inr (.inl (.int, (List.replicate 4 0)))])) rfl ?_
 refine zS Ad W 3 (st' := (46, [vR 11, vI x1, none, none], [.ref 13, .ref 11], [.inr (.inl (.int, s)), .inl [.int (f_regTuple e0), .int (f_regA e0), .int (f_regB e0), .int (f_regC e0), .int (f_regCount e0), .int (f_slots e0), .ref 2, .ref 3, .ref 4, .ref 5, .ref 6, .ref 7, .ref 8, .ref 9, .ref 10, .int (f_capacity e0), .int (f_queries e0), .int (f_n e0)], .inr (.inl (.int, (f_range e0))), .inr (.inl (.int, (f_slide e0))), .inr (.inl (.int, (f_frontSize e0))), .inr (.inl (.int, (f_backSize e0))), .inr (.inl (.int, (f_backElem e0))), .inr (.inl (.int, (f_frontAgg e0))), .inr (.inl (.int, (f_backAgg e0))), .inr (.inl (.int, (f_snap e0))), .inr (.inl (.int, (f_reg e0))), .inl [.int (0:Int32), .int (1:Int32), .int (2:Int32), .int (3:Int32), .int (4:Int32), .int (32:Int32), .ref 12, .null, .null, .null, .null, .null, .null, .null, .null, .int (f_capacity ob0), .int (f_queries ob0), .int (f_n ob0)], .inr (.inl (.int, (List.replicate 4 0))), .inr (.inl (.int, (List.replicate 4 0)))])) rfl ?_
 refine zS Ad W 1 (st' := (49, [vR 11, vI x1, none, none], [], [.inr (.inl (.int, s)), .inl [.int (f_regTuple e0), .int (f_regA e0), .int (f_regB e0), .int (f_regC e0), .int (f_regCount e0), .int (f_slots e0), .ref 2, .ref 3, .ref 4, .ref 5, .ref 6, .ref 7, .ref 8, .ref 9, .ref 10, .int (f_capacity e0), .int (f_queries e0), .int (f_n e0)], .inr (.inl (.int, (f_range e0))), .inr (.inl (.int, (f_slide e0))), .inr (.inl (.int, (f_frontSize e0))), .inr (.inl (.int, (f_backSize e0))), .inr (.inl (.int, (f_backElem e0))), .inr (.inl (.int, (f_frontAgg e0))), .inr (.inl (.int, (f_backAgg e0))), .inr (.inl (.int, (f_snap e0))), .inr (.inl (.int, (f_reg e0))), .inl [.int (0:Int32), .int (1:Int32), .int (2:Int32), .int (3:Int32), .int (4:Int32), .int (32:Int32), .ref 12, .ref 13, .null, .null, .null, .null, .null, .null, .null, .int (f_capacity ob0), .int (f_queries ob0), .int (f_n ob0)], .inr (.inl (.int, (List.replicate 4 0))), .inr (.inl (.int, (List.replicate 4 0)))])) rfl ?_
 refine zS Ad W 3 (st' := (53, [vR 11, vI x1, none, none], [.ref 14, .ref 11], [.inr (.inl (.int, s)), .inl [.int (f_regTuple e0), .int (f_regA e0), .int (f_regB e0), .int (f_regC e0), .int (f_regCount e0), .int (f_slots e0), .ref 2, .ref 3, .ref 4, .ref 5, .ref 6, .ref 7, .ref 8, .ref 9, .ref 10, .int (f_capacity e0), .int (f_queries e0), .int (f_n e0)], .inr (.inl (.int, (f_range e0))), .inr (.inl (.int, (f_slide e0))), .inr (.inl (.int, (f_frontSize e0))), .inr (.inl (.int, (f_backSize e0))), .inr (.inl (.int, (f_backElem e0))), .inr (.inl (.int, (f_frontAgg e0))), .inr (.inl (.int, (f_backAgg e0))), .inr (.inl (.int, (f_snap e0))), .inr (.inl (.int, (f_reg e0))), .inl [.int (0:Int32), .int (1:Int32), .int (2:Int32), .int (3:Int32), .int (4:Int32), .int (32:Int32), .ref 12, .ref 13, .null, .null, .null, .null, .null, .null, .null, .int (f_capacity ob0), .int (f_queries ob0), .int (f_n ob0)], .inr (.inl (.int, (List.replicate 4 0))), .inr (.inl (.int, (List.replicate 4 0))), .inr (.inl (.int, (List.replicate 4 0)))])) rfl ?_
 refine zS Ad W 1 (st' := (56, [vR 11, vI x1, none, none], [], [.inr (.inl (.int, s)), .inl [.int (f_regTuple e0), .int (f_regA e0), .int (f_regB e0), .int (f_regC e0), .int (f_regCount e0), .int (f_slots e0), .ref 2, .ref 3, .ref 4, .ref 5, .ref 6, .ref 7, .ref 8, .ref 9, .ref 10, .int (f_capacity e0), .int (f_queries e0), .int (f_n e0)], .inr (.inl (.int, (f_range e0))), .inr (.inl (.int, (f_slide e0))), .inr (.inl (.int, (f_frontSize e0))), .inr (.inl (.int, (f_backSize e0))), .inr (.inl (.int, (f_backElem e0))), .inr (.inl (.int, (f_frontAgg e0))), .inr (.inl (.int, (f_backAgg e0))), .inr (.inl (.int, (f_snap e0))), .inr (.inl (.int, (f_reg e0))), .inl [.int (0:Int32), .int (1:Int32), .int (2:Int32), .int (3:Int32), .int (4:Int32), .int (32:Int32), .ref 12, .ref 13, .ref 14, .null, .null, .null, .null, .null, .null, .int (f_capacity ob0), .int (f_queries ob0), .int (f_n ob0)], .inr (.inl (.int, (List.replicate 4 0))), .inr (.inl (.int, (List.replicate 4 0))), .inr (.inl (.int, (List.replicate 4 0)))])) rfl ?_
 refine zS Ad W 3 (st' := (60, [vR 11, vI x1, none, none], [.ref 15, .ref 11], [.inr (.inl (.int, s)), .inl [.int (f_regTuple e0), .int (f_regA e0), .int (f_regB e0), .int (f_regC e0), .int (f_regCount e0), .int (f_slots e0), .ref 2, .ref 3, .ref 4, .ref 5, .ref 6, .ref 7, .ref 8, .ref 9, .ref 10, .int (f_capacity e0), .int (f_queries e0), .int (f_n e0)], .inr (.inl (.int, (f_range e0))), .inr (.inl (.int, (f_slide e0))), .inr (.inl (.int, (f_frontSize e0))), .inr (.inl (.int, (f_backSize e0))), .inr (.inl (.int, (f_backElem e0))), .inr (.inl (.int, (f_frontAgg e0))), .inr (.inl (.int, (f_backAgg e0))), .inr (.inl (.int, (f_snap e0))), .inr (.inl (.int, (f_reg e0))), .inl [.int (0:Int32), .int (1:Int32), .int (2:Int32), .int (3:Int32), .int (4:Int32), .int (32:Int32), .ref 12, .ref 13, .ref 14, .null, .null, .null, .null, .null, .null, .int (f_capacity ob0), .int (f_queries ob0), .int (f_n ob0)], .inr (.inl (.int, (List.replicate 4 0))), .inr (.inl (.int, (List.replicate 4 0))), .inr (.inl (.int, (List.replicate 4 0))), .inr (.inl (.int, (List.replicate 4 0)))])) rfl ?_
 refine zS Ad W 1 (st' := (63, [vR 11, vI x1, none, none], [], [.inr (.inl (.int, s)), .inl [.int (f_regTuple e0), .int (f_regA e0), .int (f_regB e0), .int (f_regC e0), .int (f_regCount e0), .int (f_slots e0), .ref 2, .ref 3, .ref 4, .ref 5, .ref 6, .ref 7, .ref 8, .ref 9, .ref 10, .int (f_capacity e0), .int (f_queries e0), .int (f_n e0)], .inr (.inl (.int, (f_range e0))), .inr (.inl (.int, (f_slide e0))), .inr (.inl (.int, (f_frontSize e0))), .inr (.inl (.int, (f_backSize e0))), .inr (.inl (.int, (f_backElem e0))), .inr (.inl (.int, (f_frontAgg e0))), .inr (.inl (.int, (f_backAgg e0))), .inr (.inl (.int, (f_snap e0))), .inr (.inl (.int, (f_reg e0))), .inl [.int (0:Int32), .int (1:Int32), .int (2:Int32), .int (3:Int32), .int (4:Int32), .int (32:Int32), .ref 12, .ref 13, .ref 14, .ref 15, .null, .null, .null, .null, .null, .int (f_capacity ob0), .int (f_queries ob0), .int (f_n ob0)], .inr (.inl (.int, (List.replicate 4 0))), .inr (.inl (.int, (List.replicate 4 0))), .inr (.inl (.int, (List.replicate 4 0))), .inr (.inl (.int, (List.replicate 4 0)))])) rfl ?_
 refine zS Ad W 3 (st' := (69, [vR 11, vI x1, none, none], [.ref 16, .ref 11], [.inr (.inl (.int, s)), .inl [.int (f_regTuple e0), .int (f_regA e0), .int (f_regB e0), .int (f_regC e0), .int (f_regCount e0), .int (f_slots e0), .ref 2, .ref 3, .ref 4, .ref 5, .ref 6, .ref 7, .ref 8, .ref 9, .ref 10, .int (f_capacity e0), .int (f_queries e0), .int (f_n e0)], .inr (.inl (.int, (f_range e0))), .inr (.inl (.int, (f_slide e0))), .inr (.inl (.int, (f_frontSize e0))), .inr (.inl (.int, (f_backSize e0))), .inr (.inl (.int, (f_backElem e0))), .inr (.inl (.int, (f_frontAgg e0))), .inr (.inl (.int, (f_backAgg e0))), .inr (.inl (.int, (f_snap e0))), .inr (.inl (.int, (f_reg e0))), .inl [.int (0:Int32), .int (1:Int32), .int (2:Int32), .int (3:Int32), .int (4:Int32), .int (32:Int32), .ref 12, .ref 13, .ref 14, .ref 15, .null, .null, .null, .null, .null, .int (f_capacity ob0), .int (f_queries ob0), .int (f_n ob0)], .inr (.inl (.int, (List.replicate 4 0))), .inr (.inl (.int, (List.replicate 4 0))), .inr (.inl (.int, (List.replicate 4 0))), .inr (.inl (.int, (List.replicate 4 0))), .inr (.inl (.int, (List.replicate 512 0)))])) rfl ?_
 refine zS Ad W 1 (st' := (72, [vR 11, vI x1, none, none], [], [.inr (.inl (.int, s)), .inl [.int (f_regTuple e0), .int (f_regA e0), .int (f_regB e0), .int (f_regC e0), .int (f_regCount e0), .int (f_slots e0), .ref 2, .ref 3, .ref 4, .ref 5, .ref 6, .ref 7, .ref 8, .ref 9, .ref 10, .int (f_capacity e0), .int (f_queries e0), .int (f_n e0)], .inr (.inl (.int, (f_range e0))), .inr (.inl (.int, (f_slide e0))), .inr (.inl (.int, (f_frontSize e0))), .inr (.inl (.int, (f_backSize e0))), .inr (.inl (.int, (f_backElem e0))), .inr (.inl (.int, (f_frontAgg e0))), .inr (.inl (.int, (f_backAgg e0))), .inr (.inl (.int, (f_snap e0))), .inr (.inl (.int, (f_reg e0))), .inl [.int (0:Int32), .int (1:Int32), .int (2:Int32), .int (3:Int32), .int (4:Int32), .int (32:Int32), .ref 12, .ref 13, .ref 14, .ref 15, .ref 16, .null, .null, .null, .null, .int (f_capacity ob0), .int (f_queries ob0), .int (f_n ob0)], .inr (.inl (.int, (List.replicate 4 0))), .inr (.inl (.int, (List.replicate 4 0))), .inr (.inl (.int, (List.replicate 4 0))), .inr (.inl (.int, (List.replicate 4 0))), .inr (.inl (.int, (List.replicate 512 0)))])) rfl ?_
 refine zS Ad W 3 (st' := (78, [vR 11, vI x1, none, none], [.ref 17, .ref 11], [.inr (.inl (.int, s)), .inl [.int (f_regTuple e0), .int (f_regA e0), .int (f_regB e0), .int (f_regC e0), .int (f_regCount e0), .int (f_slots e0), .ref 2, .ref 3, .ref 4, .ref 5, .ref 6, .ref 7, .ref 8, .ref 9, .ref 10, .int (f_capacity e0), .int (f_queries e0), .int (f_n e0)], .inr (.inl (.int, (f_range e0))), .inr (.inl (.int, (f_slide e0))), .inr (.inl (.int, (f_frontSize e0))), .inr (.inl (.int, (f_backSize e0))), .inr (.inl (.int, (f_backElem e0))), .inr (.inl (.int, (f_frontAgg e0))), .inr (.inl (.int, (f_backAgg e0))), .inr (.inl (.int, (f_snap e0))), .inr (.inl (.int, (f_reg e0))), .inl [.int (0:Int32), .int (1:Int32), .int (2:Int32), .int (3:Int32), .int (4:Int32), .int (32:Int32), .ref 12, .ref 13, .ref 14, .ref 15, .ref 16, .null, .null, .null, .null, .int (f_capacity ob0), .int (f_queries ob0), .int (f_n ob0)], .inr (.inl (.int, (List.replicate 4 0))), .inr (.inl (.int, (List.replicate 4 0))), .inr (.inl (.int, (List.replicate 4 0))), .inr (.inl (.int, (List.replicate 4 0))), .inr (.inl (.int, (List.replicate 512 0))), .inr (.inl (.int, (List.replicate 512 0)))])) rfl ?_
 refine zS Ad W 1 (st' := (81, [vR 11, vI x1, none, none], [], [.inr (.inl (.int, s)), .inl [.int (f_regTuple e0), .int (f_regA e0), .int (f_regB e0), .int (f_regC e0), .int (f_regCount e0), .int (f_slots e0), .ref 2, .ref 3, .ref 4, .ref 5, .ref 6, .ref 7, .ref 8, .ref 9, .ref 10, .int (f_capacity e0), .int (f_queries e0), .int (f_n e0)], .inr (.inl (.int, (f_range e0))), .inr (.inl (.int, (f_slide e0))), .inr (.inl (.int, (f_frontSize e0))), .inr (.inl (.int, (f_backSize e0))), .inr (.inl (.int, (f_backElem e0))), .inr (.inl (.int, (f_frontAgg e0))), .inr (.inl (.int, (f_backAgg e0))), .inr (.inl (.int, (f_snap e0))), .inr (.inl (.int, (f_reg e0))), .inl [.int (0:Int32), .int (1:Int32), .int (2:Int32), .int (3:Int32), .int (4:Int32), .int (32:Int32), .ref 12, .ref 13, .ref 14, .ref 15, .ref 16, .ref 17, .null, .null, .null, .int (f_capacity ob0), .int (f_queries ob0), .int (f_n ob0)], .inr (.inl (.int, (List.replicate 4 0))), .inr (.inl (.int, (List.replicate 4 0))), .inr (.inl (.int, (List.replicate 4 0))), .inr (.inl (.int, (List.replicate 4 0))), .inr (.inl (.int, (List.replicate 512 0))), .inr (.inl (.int, (List.replicate 512 0)))])) rfl ?_
 refine zS Ad W 3 (st' := (86, [vR 11, vI x1, none, none], [.ref 18, .ref 11], [.inr (.inl (.int, s)), .inl [.int (f_regTuple e0), .int (f_regA e0), .int (f_regB e0), .int (f_regC e0), .int (f_regCount e0), .int (f_slots e0), .ref 2, .ref 3, .ref 4, .ref 5, .ref 6, .ref 7, .ref 8, .ref 9, .ref 10, .int (f_capacity e0), .int (f_queries e0), .int (f_n e0)], .inr (.inl (.int, (f_range e0))), .inr (.inl (.int, (f_slide e0))), .inr (.inl (.int, (f_frontSize e0))), .inr (.inl (.int, (f_backSize e0))), .inr (.inl (.int, (f_backElem e0))), .inr (.inl (.int, (f_frontAgg e0))), .inr (.inl (.int, (f_backAgg e0))), .inr (.inl (.int, (f_snap e0))), .inr (.inl (.int, (f_reg e0))), .inl [.int (0:Int32), .int (1:Int32), .int (2:Int32), .int (3:Int32), .int (4:Int32), .int (32:Int32), .ref 12, .ref 13, .ref 14, .ref 15, .ref 16, .ref 17, .null, .null, .null, .int (f_capacity ob0), .int (f_queries ob0), .int (f_n ob0)], .inr (.inl (.int, (List.replicate 4 0))), .inr (.inl (.int, (List.replicate 4 0))), .inr (.inl (.int, (List.replicate 4 0))), .inr (.inl (.int, (List.replicate 4 0))), .inr (.inl (.int, (List.replicate 512 0))), .inr (.inl (.int, (List.replicate 512 0))), .inr (.inl (.int, (List.replicate 16 0)))])) rfl ?_
 refine zS Ad W 1 (st' := (89, [vR 11, vI x1, none, none], [], [.inr (.inl (.int, s)), .inl [.int (f_regTuple e0), .int (f_regA e0), .int (f_regB e0), .int (f_regC e0), .int (f_regCount e0), .int (f_slots e0), .ref 2, .ref 3, .ref 4, .ref 5, .ref 6, .ref 7, .ref 8, .ref 9, .ref 10, .int (f_capacity e0), .int (f_queries e0), .int (f_n e0)], .inr (.inl (.int, (f_range e0))), .inr (.inl (.int, (f_slide e0))), .inr (.inl (.int, (f_frontSize e0))), .inr (.inl (.int, (f_backSize e0))), .inr (.inl (.int, (f_backElem e0))), .inr (.inl (.int, (f_frontAgg e0))), .inr (.inl (.int, (f_backAgg e0))), .inr (.inl (.int, (f_snap e0))), .inr (.inl (.int, (f_reg e0))), .inl [.int (0:Int32), .int (1:Int32), .int (2:Int32), .int (3:Int32), .int (4:Int32), .int (32:Int32), .ref 12, .ref 13, .ref 14, .ref 15, .ref 16, .ref 17, .ref 18, .null, .null, .int (f_capacity ob0), .int (f_queries ob0), .int (f_n ob0)], .inr (.inl (.int, (List.replicate 4 0))), .inr (.inl (.int, (List.replicate 4 0))), .inr (.inl (.int, (List.replicate 4 0))), .inr (.inl (.int, (List.replicate 4 0))), .inr (.inl (.int, (List.replicate 512 0))), .inr (.inl (.int, (List.replicate 512 0))), .inr (.inl (.int, (List.replicate 16 0)))])) rfl ?_
 refine zS Ad W 3 (st' := (94, [vR 11, vI x1, none, none], [.ref 19, .ref 11], [.inr (.inl (.int, s)), .inl [.int (f_regTuple e0), .int (f_regA e0), .int (f_regB e0), .int (f_regC e0), .int (f_regCount e0), .int (f_slots e0), .ref 2, .ref 3, .ref 4, .ref 5, .ref 6, .ref 7, .ref 8, .ref 9, .ref 10, .int (f_capacity e0), .int (f_queries e0), .int (f_n e0)], .inr (.inl (.int, (f_range e0))), .inr (.inl (.int, (f_slide e0))), .inr (.inl (.int, (f_frontSize e0))), .inr (.inl (.int, (f_backSize e0))), .inr (.inl (.int, (f_backElem e0))), .inr (.inl (.int, (f_frontAgg e0))), .inr (.inl (.int, (f_backAgg e0))), .inr (.inl (.int, (f_snap e0))), .inr (.inl (.int, (f_reg e0))), .inl [.int (0:Int32), .int (1:Int32), .int (2:Int32), .int (3:Int32), .int (4:Int32), .int (32:Int32), .ref 12, .ref 13, .ref 14, .ref 15, .ref 16, .ref 17, .ref 18, .null, .null, .int (f_capacity ob0), .int (f_queries ob0), .int (f_n ob0)], .inr (.inl (.int, (List.replicate 4 0))), .inr (.inl (.int, (List.replicate 4 0))), .inr (.inl (.int, (List.replicate 4 0))), .inr (.inl (.int, (List.replicate 4 0))), .inr (.inl (.int, (List.replicate 512 0))), .inr (.inl (.int, (List.replicate 512 0))), .inr (.inl (.int, (List.replicate 16 0))), .inr (.inl (.int, (List.replicate 16 0)))])) rfl ?_
 refine zS Ad W 1 (st' := (97, [vR 11, vI x1, none, none], [], [.inr (.inl (.int, s)), .inl [.int (f_regTuple e0), .int (f_regA e0), .int (f_regB e0), .int (f_regC e0), .int (f_regCount e0), .int (f_slots e0), .ref 2, .ref 3, .ref 4, .ref 5, .ref 6, .ref 7, .ref 8, .ref 9, .ref 10, .int (f_capacity e0), .int (f_queries e0), .int (f_n e0)], .inr (.inl (.int, (f_range e0))), .inr (.inl (.int, (f_slide e0))), .inr (.inl (.int, (f_frontSize e0))), .inr (.inl (.int, (f_backSize e0))), .inr (.inl (.int, (f_backElem e0))), .inr (.inl (.int, (f_frontAgg e0))), .inr (.inl (.int, (f_backAgg e0))), .inr (.inl (.int, (f_snap e0))), .inr (.inl (.int, (f_reg e0))), .inl [.int (0:Int32), .int (1:Int32), .int (2:Int32), .int (3:Int32), .int (4:Int32), .int (32:Int32), .ref 12, .ref 13, .ref 14, .ref 15, .ref 16, .ref 17, .ref 18, .ref 19, .null, .int (f_capacity ob0), .int (f_queries ob0), .int (f_n ob0)], .inr (.inl (.int, (List.replicate 4 0))), .inr (.inl (.int, (List.replicate 4 0))), .inr (.inl (.int, (List.replicate 4 0))), .inr (.inl (.int, (List.replicate 4 0))), .inr (.inl (.int, (List.replicate 512 0))), .inr (.inl (.int, (List.replicate 512 0))), .inr (.inl (.int, (List.replicate 16 0))), .inr (.inl (.int, (List.replicate 16 0)))])) rfl ?_
 refine zS Ad W 3 (st' := (102, [vR 11, vI x1, none, none], [.ref 20, .ref 11], [.inr (.inl (.int, s)), .inl [.int (f_regTuple e0), .int (f_regA e0), .int (f_regB e0), .int (f_regC e0), .int (f_regCount e0), .int (f_slots e0), .ref 2, .ref 3, .ref 4, .ref 5, .ref 6, .ref 7, .ref 8, .ref 9, .ref 10, .int (f_capacity e0), .int (f_queries e0), .int (f_n e0)], .inr (.inl (.int, (f_range e0))), .inr (.inl (.int, (f_slide e0))), .inr (.inl (.int, (f_frontSize e0))), .inr (.inl (.int, (f_backSize e0))), .inr (.inl (.int, (f_backElem e0))), .inr (.inl (.int, (f_frontAgg e0))), .inr (.inl (.int, (f_backAgg e0))), .inr (.inl (.int, (f_snap e0))), .inr (.inl (.int, (f_reg e0))), .inl [.int (0:Int32), .int (1:Int32), .int (2:Int32), .int (3:Int32), .int (4:Int32), .int (32:Int32), .ref 12, .ref 13, .ref 14, .ref 15, .ref 16, .ref 17, .ref 18, .ref 19, .null, .int (f_capacity ob0), .int (f_queries ob0), .int (f_n ob0)], .inr (.inl (.int, (List.replicate 4 0))), .inr (.inl (.int, (List.replicate 4 0))), .inr (.inl (.int, (List.replicate 4 0))), .inr (.inl (.int, (List.replicate 4 0))), .inr (.inl (.int, (List.replicate 512 0))), .inr (.inl (.int, (List.replicate 512 0))), .inr (.inl (.int, (List.replicate 16 0))), .inr (.inl (.int, (List.replicate 16 0))), .inr (.inl (.int, (List.replicate 16 0)))])) rfl ?_
 refine zS Ad W 1 (st' := (105, [vR 11, vI x1, none, none], [], (H1x16 s e0 ob0 (0:Int32) (1:Int32) (2:Int32) (3:Int32) (4:Int32) (32:Int32) (List.replicate 4 0) (List.replicate 4 0) (List.replicate 4 0) (List.replicate 4 0) (List.replicate 512 0) (List.replicate 512 0) (List.replicate 16 0) (List.replicate 16 0) (List.replicate 16 0)))) rfl ?_
 refine zS Ad W 4 (st' := (109, [vR 11, vI x1, vI x1, none], [.int (1:Int32), .int x1], (H1x16 s e0 ob0 (0:Int32) (1:Int32) (2:Int32) (3:Int32) (4:Int32) (32:Int32) (List.replicate 4 0) (List.replicate 4 0) (List.replicate 4 0) (List.replicate 4 0) (List.replicate 512 0) (List.replicate 512 0) (List.replicate 16 0) (List.replicate 16 0) (List.replicate 16 0)))) rfl ?_
 have K219 : ∀ z218 : Int32, z218 = (if x1 < (1:Int32) then (1:Int32) else x1) → QTri l Z n0 ad 1 (114, [vR 11, none, vI z218, none], [], (H1x16 s e0 ob0 (0:Int32) (1:Int32) (2:Int32) (3:Int32) (4:Int32) (32:Int32) (List.replicate 4 0) (List.replicate 4 0) (List.replicate 4 0) (List.replicate 4 0) (List.replicate 512 0) (List.replicate 512 0) (List.replicate 16 0) (List.replicate 16 0) (List.replicate 16 0))) (none : Option Value) (H1 s e0 r) := by
  intro z218 ez218
  subst ez218
  refine zS Ad W 2 (st' := (116, [vR 11, none, vI (if x1 < (1:Int32) then (1:Int32) else x1), none], [.int (4:Int32), .int (if x1 < (1:Int32) then (1:Int32) else x1)], (H1x16 s e0 ob0 (0:Int32) (1:Int32) (2:Int32) (3:Int32) (4:Int32) (32:Int32) (List.replicate 4 0) (List.replicate 4 0) (List.replicate 4 0) (List.replicate 4 0) (List.replicate 512 0) (List.replicate 512 0) (List.replicate 16 0) (List.replicate 16 0) (List.replicate 16 0)))) rfl ?_
  have K222 : ∀ z221 : Int32, z221 = (if (4:Int32) < (if x1 < (1:Int32) then (1:Int32) else x1) then (4:Int32) else (if x1 < (1:Int32) then (1:Int32) else x1)) → QTri l Z n0 ad 1 (121, [vR 11, none, vI z221, none], [], (H1x16 s e0 ob0 (0:Int32) (1:Int32) (2:Int32) (3:Int32) (4:Int32) (32:Int32) (List.replicate 4 0) (List.replicate 4 0) (List.replicate 4 0) (List.replicate 4 0) (List.replicate 512 0) (List.replicate 512 0) (List.replicate 16 0) (List.replicate 16 0) (List.replicate 16 0))) (none : Option Value) (H1 s e0 r) := by
   intro z221 ez221
   subst ez221
   refine zS Ad W 3 (st' := (126, [vR 11, none, vI (if (4:Int32) < (if x1 < (1:Int32) then (1:Int32) else x1) then (4:Int32) else (if x1 < (1:Int32) then (1:Int32) else x1)), none], [], (H1x17 s e0 ob0 (0:Int32) (1:Int32) (2:Int32) (3:Int32) (4:Int32) (32:Int32) (List.replicate 4 0) (List.replicate 4 0) (List.replicate 4 0) (List.replicate 4 0) (List.replicate 512 0) (List.replicate 512 0) (List.replicate 16 0) (List.replicate 16 0) (List.replicate 16 0) (if (4:Int32) < (if x1 < (1:Int32) then (1:Int32) else x1) then (4:Int32) else (if x1 < (1:Int32) then (1:Int32) else x1))))) rfl ?_
   refine zS Ad W 3 (st' := (131, [vR 11, none, vI (if (4:Int32) < (if x1 < (1:Int32) then (1:Int32) else x1) then (4:Int32) else (if x1 < (1:Int32) then (1:Int32) else x1)), none], [], (H1x18 s e0 ob0 (0:Int32) (1:Int32) (2:Int32) (3:Int32) (4:Int32) (32:Int32) (List.replicate 4 0) (List.replicate 4 0) (List.replicate 4 0) (List.replicate 4 0) (List.replicate 512 0) (List.replicate 512 0) (List.replicate 16 0) (List.replicate 16 0) (List.replicate 16 0) (if (4:Int32) < (if x1 < (1:Int32) then (1:Int32) else x1) then (4:Int32) else (if x1 < (1:Int32) then (1:Int32) else x1)) (0:Int32)))) rfl ?_
   refine zS Ad W 3 (st' := (136, [vR 11, none, vI (if (4:Int32) < (if x1 < (1:Int32) then (1:Int32) else x1) then (4:Int32) else (if x1 < (1:Int32) then (1:Int32) else x1)), none], [], (H1x19 s e0 ob0 (0:Int32) (1:Int32) (2:Int32) (3:Int32) (4:Int32) (32:Int32) (List.replicate 4 0) (List.replicate 4 0) (List.replicate 4 0) (List.replicate 4 0) (List.replicate 512 0) (List.replicate 512 0) (List.replicate 16 0) (List.replicate 16 0) (List.replicate 16 0) (if (4:Int32) < (if x1 < (1:Int32) then (1:Int32) else x1) then (4:Int32) else (if x1 < (1:Int32) then (1:Int32) else x1)) (0:Int32) (0:Int32)))) rfl ?_
   refine zS Ad W 2 (st' := (138, [vR 11, none, vI (if (4:Int32) < (if x1 < (1:Int32) then (1:Int32) else x1) then (4:Int32) else (if x1 < (1:Int32) then (1:Int32) else x1)), vI (0:Int32)], [], (H1x19 s e0 ob0 (0:Int32) (1:Int32) (2:Int32) (3:Int32) (4:Int32) (32:Int32) (List.replicate 4 0) (List.replicate 4 0) (List.replicate 4 0) (List.replicate 4 0) (List.replicate 512 0) (List.replicate 512 0) (List.replicate 16 0) (List.replicate 16 0) (List.replicate 16 0) (if (4:Int32) < (if x1 < (1:Int32) then (1:Int32) else x1) then (4:Int32) else (if x1 < (1:Int32) then (1:Int32) else x1)) (0:Int32) (0:Int32)))) rfl ?_
   have E224 : ((H1x19 s e0 ob0 (0:Int32) (1:Int32) (2:Int32) (3:Int32) (4:Int32) (32:Int32) (List.replicate 4 0) (List.replicate 4 0) (List.replicate 4 0) (List.replicate 4 0) (List.replicate 512 0) (List.replicate 512 0) (List.replicate 16 0) (List.replicate 16 0) (List.replicate 16 0) (if (4:Int32) < (if x1 < (1:Int32) then (1:Int32) else x1) then (4:Int32) else (if x1 < (1:Int32) then (1:Int32) else x1)) (0:Int32) (0:Int32)) : QHeap) = (H1 s e0 (s_n (s_queries (s_capacity (s_reg (s_snap (s_backAgg (s_frontAgg (s_backElem (s_backSize (s_frontSize (s_slide (s_range (s_slots (s_regCount (s_regC (s_regB (s_regA (s_regTuple ob0 (0:Int32)) (1:Int32)) (2:Int32)) (3:Int32)) (4:Int32)) (32:Int32)) (List.replicate 4 0)) (List.replicate 4 0)) (List.replicate 4 0)) (List.replicate 4 0)) (List.replicate 512 0)) (List.replicate 512 0)) (List.replicate 16 0)) (List.replicate 16 0)) (List.replicate 16 0)) (if (4:Int32) < (if x1 < (1:Int32) then (1:Int32) else x1) then (4:Int32) else (if x1 < (1:Int32) then (1:Int32) else x1))) (0:Int32)) (0:Int32))) := by simp only [fs, H1, H1v, H1x19, s_regTuple, s_regA, s_regB, s_regC, s_regCount, s_slots, s_range, s_slide, s_frontSize, s_backSize, s_backElem, s_frontAgg, s_backAgg, s_snap, s_reg, s_capacity, s_queries, s_n, ob0]
   rw [E224]
   obtain ⟨e263, he263, h⟩ := bind_eq_some_iff.mp h
   refine zM [tt,ff,ff,tt] (loopN_tri (B := B1_138) (T := fun lv264 => QTri l Z n0 ad 1 (138, [vR 11, none, none, vI lv264.1], [], (H1 s e0 lv264.2)) (none : Option Value) (H1 s e0 r)) (KE := fun e263a => (none : Option Value) = (none : Option Value) ∧ (H1 s e0 r) = (H1 s e0 e263a)) (fun lv264 r hB hE hC => tB1_138a1 Ad W s e0 lv264 hB (fun x q => hE _ q) (fun x q => hC x q)) qN ((0:Int32), (s_n (s_queries (s_capacity (s_reg (s_snap (s_backAgg (s_frontAgg (s_backElem (s_backSize (s_frontSize (s_slide (s_range (s_slots (s_regCount (s_regC (s_regB (s_regA (s_regTuple ob0 (0:Int32)) (1:Int32)) (2:Int32)) (3:Int32)) (4:Int32)) (32:Int32)) (List.replicate 4 0)) (List.replicate 4 0)) (List.replicate 4 0)) (List.replicate 4 0)) (List.replicate 512 0)) (List.replicate 512 0)) (List.replicate 16 0)) (List.replicate 16 0)) (List.replicate 16 0)) (if (4:Int32) < (if x1 < (1:Int32) then (1:Int32) else x1) then (4:Int32) else (if x1 < (1:Int32) then (1:Int32) else x1))) (0:Int32)) (0:Int32))) e263 he263 ?_)
   obtain rfl := Option.some.inj h
   exact ⟨rfl, rfl⟩
  rcases em ((4:Int32) < (if x1 < (1:Int32) then (1:Int32) else x1)) with hc223 | hc223
  ·refine zF Ad W (t := 121) (f := 119) rfl (XT.ii_le_f hc223) ?_
   refine zS Ad W 2 (st' := (121, [vR 11, none, vI (4:Int32), none], [], (H1x16 s e0 ob0 (0:Int32) (1:Int32) (2:Int32) (3:Int32) (4:Int32) (32:Int32) (List.replicate 4 0) (List.replicate 4 0) (List.replicate 4 0) (List.replicate 4 0) (List.replicate 512 0) (List.replicate 512 0) (List.replicate 16 0) (List.replicate 16 0) (List.replicate 16 0)))) rfl ?_
   exact zM [tt,ff,tt,ff] (K222 _ (if_pos hc223).symm)
  ·refine zT Ad W (t := 121) (f := 119) rfl (XT.ii_le_t hc223) ?_
   exact zM [tt,ff,tt,ff] (K222 _ (if_neg hc223).symm)
 rcases em (x1 < (1:Int32)) with hc220 | hc220
 ·refine zF Ad W (t := 114) (f := 112) rfl (XT.ii_ge_f hc220) ?_
  refine zS Ad W 2 (st' := (114, [vR 11, vI x1, vI (1:Int32), none], [], (H1x16 s e0 ob0 (0:Int32) (1:Int32) (2:Int32) (3:Int32) (4:Int32) (32:Int32) (List.replicate 4 0) (List.replicate 4 0) (List.replicate 4 0) (List.replicate 4 0) (List.replicate 512 0) (List.replicate 512 0) (List.replicate 16 0) (List.replicate 16 0) (List.replicate 16 0)))) rfl ?_
  exact zM [tt,ff,tt,ff] (K219 _ (if_pos hc220).symm)
 ·refine zT Ad W (t := 114) (f := 112) rfl (XT.ii_ge_t hc220) ?_
  exact zM [tt,ff,tt,ff] (K219 _ (if_neg hc220).symm)
/-- queryCount()I -/
def F25 (o : Ob) : Option (Int32) :=
 some (f_queries o)
theorem tF25 (Ad : QAd n0 ad) (W : QW Z a0) (s : List Int32) (e0 : Ob) (o : Ob) {r : Int32} (h : F25 o = some r) : QTri l Z n0 ad 25 (0, qentry [.ref 1] (pMaxL 25), [], (H1 s o e0)) (some (Value.int r)) (H1 s o e0) := by
 unfold F25 at h
 refine zS Ad W 2 (st' := (4, [vR 1], [.int (f_queries o)], (H1 s o e0))) rfl ?_
 obtain rfl := Option.some.inj h
 exact QTri.retI rfl rfl
/-- validQuery(I)Z -/
def F27 (o : Ob) (x1 : Int32) : Option (Int32) :=
 (if x1 < (0:Int32) then some (0:Int32) else (if x1 < (f_queries o) then (if x1 < (4:Int32) then some (1:Int32) else some (0:Int32)) else some (0:Int32)))
theorem tF27 (Ad : QAd n0 ad) (W : QW Z a0) (s : List Int32) (e0 : Ob) (o : Ob) (x1 : Int32) {r : Int32} (h : F27 o x1 = some r) : QTri l Z n0 ad 27 (0, qentry [.ref 1, .int x1] (pMaxL 27), [], (H1 s o e0)) (some (Value.int r)) (H1 s o e0) := by
 unfold F27 at h
 refine zS Ad W 1 (st' := (1, [vR 1, vI x1], [.int x1], (H1 s o e0))) rfl ?_
 rcases qite h with ⟨hc269, h⟩ | ⟨hc269, h⟩
 ·refine zT Ad W (t := 21) (f := 4) rfl (XT.i0_lt_t hc269) ?_
  refine zS Ad W 1 (st' := (22, [vR 1, vI x1], [.int (0:Int32)], (H1 s o e0))) rfl ?_
  obtain rfl := Option.some.inj h
  exact QTri.retZ rfl rfl
 ·refine zF Ad W (t := 21) (f := 4) rfl (XT.i0_lt_f hc269) ?_
  refine zS Ad W 3 (st' := (9, [vR 1, vI x1], [.int (f_queries o), .int x1], (H1 s o e0))) rfl ?_
  rcases qite h with ⟨hc270, h⟩ | ⟨hc270, h⟩
  ·refine zF Ad W (t := 21) (f := 12) rfl (XT.ii_ge_f hc270) ?_
   refine zS Ad W 2 (st' := (14, [vR 1, vI x1], [.int (4:Int32), .int x1], (H1 s o e0))) rfl ?_
   rcases qite h with ⟨hc271, h⟩ | ⟨hc271, h⟩
   ·refine zF Ad W (t := 21) (f := 17) rfl (XT.ii_ge_f hc271) ?_
    refine zS Ad W 2 (st' := (22, [vR 1, vI x1], [.int (1:Int32)], (H1 s o e0))) rfl ?_
    obtain rfl := Option.some.inj h
    exact QTri.retZ rfl rfl
   ·refine zT Ad W (t := 21) (f := 17) rfl (XT.ii_ge_t hc271) ?_
    refine zS Ad W 1 (st' := (22, [vR 1, vI x1], [.int (0:Int32)], (H1 s o e0))) rfl ?_
    obtain rfl := Option.some.inj h
    exact QTri.retZ rfl rfl
  ·refine zT Ad W (t := 21) (f := 12) rfl (XT.ii_ge_t hc270) ?_
   refine zS Ad W 1 (st' := (22, [vR 1, vI x1], [.int (0:Int32)], (H1 s o e0))) rfl ?_
   obtain rfl := Option.some.inj h
   exact QTri.retZ rfl rfl
/-- queryRange(I)I -/
def F26 (o : Ob) (x1 : Int32) : Option (Int32) :=
 (F27 o x1).bind fun r272 => (if r272 = (0:Int32) then some (-1:Int32) else (aget (f_range o) x1).bind fun y274 => some y274)
theorem tF26 (Ad : QAd n0 ad) (W : QW Z a0) (s : List Int32) (e0 : Ob) (o : Ob) (x1 : Int32) {r : Int32} (h : F26 o x1 = some r) : QTri l Z n0 ad 26 (0, qentry [.ref 1, .int x1] (pMaxL 26), [], (H1 s o e0)) (some (Value.int r)) (H1 s o e0) := by
 unfold F26 at h
 refine zS Ad W 2 (st' := (2, [vR 1, vI x1], [.int x1, .ref 1], (H1 s o e0))) rfl ?_
 obtain ⟨r272, hr272, h⟩ := bind_eq_some_iff.mp h
 refine QTri.callP W (a := 1) (as := [.int x1]) (rest := []) (w := (some (.int r272))) (σ₁ := (H1 s o e0)) rfl rfl rfl rfl rfl rfl rfl rfl (tF27 Ad W s e0 o x1 hr272) ?_
 rcases qite h with ⟨hc273, h⟩ | ⟨hc273, h⟩
 ·refine zF Ad W (t := 10) (f := 8) rfl (XT.i0_ne_f hc273) ?_
  refine zS Ad W 1 (st' := (9, [vR 1, vI x1], [.int (-1:Int32)], (H1 s o e0))) rfl ?_
  obtain rfl := Option.some.inj h
  exact QTri.retI rfl rfl
 ·refine zT Ad W (t := 10) (f := 8) rfl (XT.i0_ne_t hc273) ?_
  refine zS Ad W 3 (st' := (15, [vR 1, vI x1], [.int x1, .ref 2], (H1 s o e0))) rfl ?_
  obtain ⟨y274, hy274, h⟩ := bind_eq_some_iff.mp h
  refine zB Ad W (f := fun y274 => (16, [vR 1, vI x1], [.int y274], (H1 s o e0))) rfl hy274 ?_
  obtain rfl := Option.some.inj h
  exact QTri.retI rfl rfl
/-- querySlide(I)I -/
def F28 (o : Ob) (x1 : Int32) : Option (Int32) :=
 (F27 o x1).bind fun r276 => (if r276 = (0:Int32) then some (-1:Int32) else (aget (f_slide o) x1).bind fun y278 => some y278)
theorem tF28 (Ad : QAd n0 ad) (W : QW Z a0) (s : List Int32) (e0 : Ob) (o : Ob) (x1 : Int32) {r : Int32} (h : F28 o x1 = some r) : QTri l Z n0 ad 28 (0, qentry [.ref 1, .int x1] (pMaxL 28), [], (H1 s o e0)) (some (Value.int r)) (H1 s o e0) := by
 unfold F28 at h
 refine zS Ad W 2 (st' := (2, [vR 1, vI x1], [.int x1, .ref 1], (H1 s o e0))) rfl ?_
 obtain ⟨r276, hr276, h⟩ := bind_eq_some_iff.mp h
 refine QTri.callP W (a := 1) (as := [.int x1]) (rest := []) (w := (some (.int r276))) (σ₁ := (H1 s o e0)) rfl rfl rfl rfl rfl rfl rfl rfl (tF27 Ad W s e0 o x1 hr276) ?_
 rcases qite h with ⟨hc277, h⟩ | ⟨hc277, h⟩
 ·refine zF Ad W (t := 10) (f := 8) rfl (XT.i0_ne_f hc277) ?_
  refine zS Ad W 1 (st' := (9, [vR 1, vI x1], [.int (-1:Int32)], (H1 s o e0))) rfl ?_
  obtain rfl := Option.some.inj h
  exact QTri.retI rfl rfl
 ·refine zT Ad W (t := 10) (f := 8) rfl (XT.i0_ne_t hc277) ?_
  refine zS Ad W 3 (st' := (15, [vR 1, vI x1], [.int x1, .ref 3], (H1 s o e0))) rfl ?_
  obtain ⟨y278, hy278, h⟩ := bind_eq_some_iff.mp h
  refine zB Ad W (f := fun y278 => (16, [vR 1, vI x1], [.int y278], (H1 s o e0))) rfl hy278 ?_
  obtain rfl := Option.some.inj h
  exact QTri.retI rfl rfl
def H1x25 (s : List Int32) (o0 o1 : Ob) (a1_6 : List Int32) : QHeap := H1v s (f_regTuple o0) (f_regA o0) (f_regB o0) (f_regC o0) (f_regCount o0) (f_slots o0) (f_range o0) (f_slide o0) (f_frontSize o0) (f_backSize o0) (f_backElem o0) (f_frontAgg o0) (f_backAgg o0) (f_snap o0) (f_reg o0) (f_capacity o0) (f_queries o0) (f_n o0) (f_regTuple o1) (f_regA o1) (f_regB o1) (f_regC o1) (f_regCount o1) (f_slots o1) a1_6 (f_slide o1) (f_frontSize o1) (f_backSize o1) (f_backElem o1) (f_frontAgg o1) (f_backAgg o1) (f_snap o1) (f_reg o1) (f_capacity o1) (f_queries o1) (f_n o1)
def H1x26 (s : List Int32) (o0 o1 : Ob) (a1_6 : List Int32) (a1_7 : List Int32) : QHeap := H1v s (f_regTuple o0) (f_regA o0) (f_regB o0) (f_regC o0) (f_regCount o0) (f_slots o0) (f_range o0) (f_slide o0) (f_frontSize o0) (f_backSize o0) (f_backElem o0) (f_frontAgg o0) (f_backAgg o0) (f_snap o0) (f_reg o0) (f_capacity o0) (f_queries o0) (f_n o0) (f_regTuple o1) (f_regA o1) (f_regB o1) (f_regC o1) (f_regCount o1) (f_slots o1) a1_6 a1_7 (f_frontSize o1) (f_backSize o1) (f_backElem o1) (f_frontAgg o1) (f_backAgg o1) (f_snap o1) (f_reg o1) (f_capacity o1) (f_queries o1) (f_n o1)
def H1x27 (s : List Int32) (o0 o1 : Ob) (a1_16 : Int32) : QHeap := H1v s (f_regTuple o0) (f_regA o0) (f_regB o0) (f_regC o0) (f_regCount o0) (f_slots o0) (f_range o0) (f_slide o0) (f_frontSize o0) (f_backSize o0) (f_backElem o0) (f_frontAgg o0) (f_backAgg o0) (f_snap o0) (f_reg o0) (f_capacity o0) (f_queries o0) (f_n o0) (f_regTuple o1) (f_regA o1) (f_regB o1) (f_regC o1) (f_regCount o1) (f_slots o1) (f_range o1) (f_slide o1) (f_frontSize o1) (f_backSize o1) (f_backElem o1) (f_frontAgg o1) (f_backAgg o1) (f_snap o1) (f_reg o1) (f_capacity o1) a1_16 (f_n o1)
theorem tF10a1 (Ad : QAd n0 ad) (W : QW Z a0) (s : List Int32) (e0 : Ob) (o : Ob) (x1 : Int32) (x2 : Int32) {r : Int32 × Ob} (h : F10 o x1 x2 = some r) : QTri l Z n0 ad 10 (0, qentry [.ref 11, .int x1, .int x2] (pMaxL 10), [], (H1 s e0 o)) (some (Value.int r.1)) (H1 s e0 r.2) := by
 unfold F10 at h
 refine zS Ad W 2 (st' := (4, [vR 11, vI x1, vI x2, none], [.int (f_n o)], (H1 s e0 o))) rfl ?_
 rcases qite h with ⟨hc280, h⟩ | ⟨hc280, h⟩
 ·refine zT Ad W (t := 9) (f := 7) rfl (XT.i0_eq_t hc280) ?_
  refine zS Ad W 4 (st' := (17, [vR 11, vI x1, vI x2, none], [.int (f_capacity o), .int (f_queries o)], (H1 s e0 o))) rfl ?_
  rcases qite h with ⟨hc281, h⟩ | ⟨hc281, h⟩
  ·refine zT Ad W (t := 22) (f := 20) rfl (XT.ii_lt_t hc281) ?_
   refine zS Ad W 2 (st' := (24, [vR 11, vI x1, vI x2, none], [.int (1:Int32), .int x1], (H1 s e0 o))) rfl ?_
   rcases qite h with ⟨hc282, h⟩ | ⟨hc282, h⟩
   ·refine zT Ad W (t := 33) (f := 27) rfl (XT.ii_lt_t hc282) ?_
    refine zS Ad W 1 (st' := (34, [vR 11, vI x1, vI x2, none], [.int (-1:Int32)], (H1 s e0 o))) rfl ?_
    obtain rfl := Option.some.inj h
    exact QTri.retI rfl rfl
   ·refine zF Ad W (t := 33) (f := 27) rfl (XT.ii_lt_f hc282) ?_
    refine zS Ad W 2 (st' := (30, [vR 11, vI x1, vI x2, none], [.int (32:Int32), .int x1], (H1 s e0 o))) rfl ?_
    rcases qite h with ⟨hc283, h⟩ | ⟨hc283, h⟩
    ·refine zF Ad W (t := 35) (f := 33) rfl (XT.ii_le_f hc283) ?_
     refine zS Ad W 1 (st' := (34, [vR 11, vI x1, vI x2, none], [.int (-1:Int32)], (H1 s e0 o))) rfl ?_
     obtain rfl := Option.some.inj h
     exact QTri.retI rfl rfl
    ·refine zT Ad W (t := 35) (f := 33) rfl (XT.ii_le_t hc283) ?_
     refine zS Ad W 2 (st' := (37, [vR 11, vI x1, vI x2, none], [.int (1:Int32), .int x2], (H1 s e0 o))) rfl ?_
     rcases qite h with ⟨hc284, h⟩ | ⟨hc284, h⟩
     ·refine zT Ad W (t := 46) (f := 40) rfl (XT.ii_lt_t hc284) ?_
      refine zS Ad W 1 (st' := (47, [vR 11, vI x1, vI x2, none], [.int (-1:Int32)], (H1 s e0 o))) rfl ?_
      obtain rfl := Option.some.inj h
      exact QTri.retI rfl rfl
     ·refine zF Ad W (t := 46) (f := 40) rfl (XT.ii_lt_f hc284) ?_
      refine zS Ad W 2 (st' := (43, [vR 11, vI x1, vI x2, none], [.int (32:Int32), .int x2], (H1 s e0 o))) rfl ?_
      rcases qite h with ⟨hc285, h⟩ | ⟨hc285, h⟩
      ·refine zF Ad W (t := 48) (f := 46) rfl (XT.ii_le_f hc285) ?_
       refine zS Ad W 1 (st' := (47, [vR 11, vI x1, vI x2, none], [.int (-1:Int32)], (H1 s e0 o))) rfl ?_
       obtain rfl := Option.some.inj h
       exact QTri.retI rfl rfl
      ·refine zT Ad W (t := 48) (f := 46) rfl (XT.ii_le_t hc285) ?_
       refine zS Ad W 7 (st' := (59, [vR 11, vI x1, vI x2, vI (f_queries o)], [.int x1, .int (f_queries o), .ref 12], (H1 s e0 o))) rfl ?_
       obtain ⟨y286, hy286, h⟩ := bind_eq_some_iff.mp h
       refine zB Ad W (f := fun y286 => (60, [vR 11, vI x1, vI x2, vI (f_queries o)], [], (H1x25 s e0 o y286))) rfl hy286 ?_
       refine zS Ad W 4 (st' := (66, [vR 11, vI x1, vI x2, vI (f_queries o)], [.int x2, .int (f_queries o), .ref 13], (H1x25 s e0 o y286))) rfl ?_
       obtain ⟨y287, hy287, h⟩ := bind_eq_some_iff.mp h
       refine zB Ad W (f := fun y287 => (67, [vR 11, vI x1, vI x2, vI (f_queries o)], [], (H1x26 s e0 o y286 y287))) rfl hy287 ?_
       refine zS Ad W 2 (st' := (69, [vR 11, vI x1, vI x2, vI (f_queries o)], [.int (f_queries o), .ref 11], (H1x26 s e0 o y286 y287))) rfl ?_
       have E288 : ((H1x26 s e0 o y286 y287) : QHeap) = (H1 s e0 (s_slide (s_range o y286) y287)) := by simp only [fs, H1, H1v, H1x26, s_range, s_slide]
       rw [E288]
       obtain ⟨r289, hr289, h⟩ := bind_eq_some_iff.mp h
       refine QTri.callP W (a := 11) (as := [.int (f_queries o)]) (rest := []) (w := none) (σ₁ := (H1 s e0 r289)) rfl rfl rfl rfl rfl rfl rfl rfl (tF2a1 Ad W s e0 (s_slide (s_range o y286) y287) (f_queries o) hr289) ?_
       refine zS Ad W 6 (st' := (82, [vR 11, vI x1, vI x2, vI (f_queries o)], [], (H1x27 s e0 r289 ((f_queries r289) + (1:Int32))))) rfl ?_
       refine zS Ad W 1 (st' := (83, [vR 11, vI x1, vI x2, vI (f_queries o)], [.int (f_queries o)], (H1x27 s e0 r289 ((f_queries r289) + (1:Int32))))) rfl ?_
       have E290 : ((H1x27 s e0 r289 ((f_queries r289) + (1:Int32))) : QHeap) = (H1 s e0 (s_queries r289 ((f_queries r289) + (1:Int32)))) := by simp only [fs, H1, H1v, H1x27, s_queries]
       rw [E290]
       obtain rfl := Option.some.inj h
       exact QTri.retI rfl rfl
  ·refine zF Ad W (t := 22) (f := 20) rfl (XT.ii_lt_f hc281) ?_
   refine zS Ad W 1 (st' := (21, [vR 11, vI x1, vI x2, none], [.int (-1:Int32)], (H1 s e0 o))) rfl ?_
   obtain rfl := Option.some.inj h
   exact QTri.retI rfl rfl
 ·refine zF Ad W (t := 9) (f := 7) rfl (XT.i0_eq_f hc280) ?_
  refine zS Ad W 1 (st' := (8, [vR 11, vI x1, vI x2, none], [.int (-1:Int32)], (H1 s e0 o))) rfl ?_
  obtain rfl := Option.some.inj h
  exact QTri.retI rfl rfl
def J0_117 (s : List Int32) (p0 : Ob) (p1 : Ob) (x3 : Int32) (x5 : Int32) (x6 : Int32) : Option (((Ob × Ob)) ⊕ (Int32 × Ob × Ob)) :=
  some (.inr ((x6 + (1 : Int32)), p0, p1))
theorem tJ0_117 (Ad : QAd n0 ad) (W : QW Z a0) (s : List Int32) (p0 : Ob) (p1 : Ob) (x3 : Int32) (x5 : Int32) (x6 : Int32) {r : ((Ob × Ob)) ⊕ (Int32 × Ob × Ob)} {u : Option Value} {τ : QHeap} (h : J0_117 s p0 p1 x3 x5 x6 = some r) (hx0 : ∀ x : Ob × Ob, r = .inl x → QTri l Z n0 ad 0 (123, [vR 0, vR 1, none, vI x3, vR 11, none, none, none, none], [], (H1 s x.1 x.2)) u τ) (hc : ∀ x : Int32 × Ob × Ob, r = .inr x → QTri l Z n0 ad 0 (78, [vR 0, vR 1, none, vI x3, vR 11, vI x5, vI x.1, none, none], [], (H1 s x.2.1 x.2.2)) u τ) : QTri l Z n0 ad 0 (117, [vR 0, vR 1, none, vI x3, vR 11, vI x5, vI x6, none, none], [], (H1 s p0 p1)) u τ := by
 unfold J0_117 at h
 refine zS Ad W 2 (st' := (78, [vR 0, vR 1, none, vI x3, vR 11, vI x5, vI (x6 + (1:Int32)), none, none], [], (H1 s p0 p1))) rfl ?_
 obtain rfl := Option.some.inj h
 exact zM [tt,tt,ff,tt,tt,tt,tt,ff,ff] (hc ((x6 + (1:Int32)), p0, p1) rfl)
def B0_78 (s : List Int32) (x3 : Int32) (x5 : Int32) (v : Int32 × Ob × Ob) : Option (((Ob × Ob)) ⊕ (Int32 × Ob × Ob)) :=
  (if v.1 < (4 : Int32) then (if v.1 < x5 then (F26 v.2.1 v.1).bind fun r275 => (F28 v.2.1 v.1).bind fun r279 => (F10 v.2.2 r275 r279).bind fun r291 => (J0_117 s v.2.1 r291.2 x3 x5 v.1) else (J0_117 s v.2.1 v.2.2 x3 x5 v.1)) else some (.inl (v.2.1, v.2.2)))
theorem tB0_78 (Ad : QAd n0 ad) (W : QW Z a0) (s : List Int32) (x3 : Int32) (x5 : Int32) (v : Int32 × Ob × Ob) {r : ((Ob × Ob)) ⊕ (Int32 × Ob × Ob)} {u : Option Value} {τ : QHeap} (h : B0_78 s x3 x5 v = some r) (hx0 : ∀ x : Ob × Ob, r = .inl x → QTri l Z n0 ad 0 (123, [vR 0, vR 1, none, vI x3, vR 11, none, none, none, none], [], (H1 s x.1 x.2)) u τ) (hc : ∀ x : Int32 × Ob × Ob, r = .inr x → QTri l Z n0 ad 0 (78, [vR 0, vR 1, none, vI x3, vR 11, vI x5, vI x.1, none, none], [], (H1 s x.2.1 x.2.2)) u τ) : QTri l Z n0 ad 0 (78, [vR 0, vR 1, none, vI x3, vR 11, vI x5, vI v.1, none, none], [], (H1 s v.2.1 v.2.2)) u τ := by
 unfold B0_78 at h
 refine zS Ad W 2 (st' := (81, [vR 0, vR 1, none, vI x3, vR 11, vI x5, vI v.1, none, none], [.int (4:Int32), .int v.1], (H1 s v.2.1 v.2.2))) rfl ?_
 rcases qite h with ⟨hc267, h⟩ | ⟨hc267, h⟩
 ·refine zF Ad W (t := 123) (f := 84) rfl (XT.ii_ge_f hc267) ?_
  refine zS Ad W 2 (st' := (88, [vR 0, vR 1, none, vI x3, vR 11, vI x5, vI v.1, none, none], [.int x5, .int v.1], (H1 s v.2.1 v.2.2))) rfl ?_
  rcases qite h with ⟨hc268, h⟩ | ⟨hc268, h⟩
  ·refine zF Ad W (t := 117) (f := 91) rfl (XT.ii_ge_f hc268) ?_
   refine zS Ad W 2 (st' := (94, [vR 0, vR 1, none, vI x3, vR 11, vI x5, vI v.1, none, none], [.int v.1, .ref 1], (H1 s v.2.1 v.2.2))) rfl ?_
   obtain ⟨r275, hr275, h⟩ := bind_eq_some_iff.mp h
   refine QTri.callV W (a := 1) (as := [.int v.1]) (rest := []) (w := (some (.int r275))) (σ₁ := (H1 s v.2.1 v.2.2)) rfl rfl rfl rfl rfl rfl rfl rfl (tF26 Ad W s v.2.2 v.2.1 v.1 hr275) ?_
   refine zS Ad W 3 (st' := (102, [vR 0, vR 1, none, vI x3, vR 11, vI x5, vI v.1, vI r275, none], [.int v.1, .ref 1], (H1 s v.2.1 v.2.2))) rfl ?_
   obtain ⟨r279, hr279, h⟩ := bind_eq_some_iff.mp h
   refine QTri.callV W (a := 1) (as := [.int v.1]) (rest := []) (w := (some (.int r279))) (σ₁ := (H1 s v.2.1 v.2.2)) rfl rfl rfl rfl rfl rfl rfl rfl (tF28 Ad W s v.2.2 v.2.1 v.1 hr279) ?_
   refine zS Ad W 4 (st' := (113, [vR 0, vR 1, none, vI x3, vR 11, vI x5, vI v.1, vI r275, vI r279], [.int r279, .int r275, .ref 11], (H1 s v.2.1 v.2.2))) rfl ?_
   obtain ⟨r291, hr291, h⟩ := bind_eq_some_iff.mp h
   refine QTri.callV W (a := 11) (as := [.int r275, .int r279]) (rest := []) (w := (some (.int r291.1))) (σ₁ := (H1 s v.2.1 r291.2)) rfl rfl rfl rfl rfl rfl rfl rfl (tF10a1 Ad W s v.2.1 v.2.2 r275 r279 hr291) ?_
   refine zS Ad W 1 (st' := (117, [vR 0, vR 1, none, vI x3, vR 11, vI x5, vI v.1, vI r275, vI r279], [], (H1 s v.2.1 r291.2))) rfl ?_
   exact zM [tt,tt,ff,tt,tt,tt,tt,ff,ff] (tJ0_117 Ad W s v.2.1 r291.2 x3 x5 v.1 h hx0 hc)
  ·refine zT Ad W (t := 117) (f := 91) rfl (XT.ii_ge_t hc268) ?_
   exact zM [tt,tt,ff,tt,tt,tt,tt,ff,ff] (tJ0_117 Ad W s v.2.1 v.2.2 x3 x5 v.1 h hx0 hc)
 ·refine zT Ad W (t := 123) (f := 84) rfl (XT.ii_ge_t hc267) ?_
  obtain rfl := Option.some.inj h
  exact zM [tt,tt,ff,tt,tt,ff,ff,ff,ff] (hx0 (v.2.1, v.2.2) rfl)
def H1x28 (s : List Int32) (o0 o1 : Ob) (a0_17 : Int32) : QHeap := H1v s (f_regTuple o0) (f_regA o0) (f_regB o0) (f_regC o0) (f_regCount o0) (f_slots o0) (f_range o0) (f_slide o0) (f_frontSize o0) (f_backSize o0) (f_backElem o0) (f_frontAgg o0) (f_backAgg o0) (f_snap o0) (f_reg o0) (f_capacity o0) (f_queries o0) a0_17 (f_regTuple o1) (f_regA o1) (f_regB o1) (f_regC o1) (f_regCount o1) (f_slots o1) (f_range o1) (f_slide o1) (f_frontSize o1) (f_backSize o1) (f_backElem o1) (f_frontAgg o1) (f_backAgg o1) (f_snap o1) (f_reg o1) (f_capacity o1) (f_queries o1) (f_n o1)
def H1x29 (s : List Int32) (o0 o1 : Ob) (a0_8 : List Int32) : QHeap := H1v s (f_regTuple o0) (f_regA o0) (f_regB o0) (f_regC o0) (f_regCount o0) (f_slots o0) (f_range o0) (f_slide o0) a0_8 (f_backSize o0) (f_backElem o0) (f_frontAgg o0) (f_backAgg o0) (f_snap o0) (f_reg o0) (f_capacity o0) (f_queries o0) (f_n o0) (f_regTuple o1) (f_regA o1) (f_regB o1) (f_regC o1) (f_regCount o1) (f_slots o1) (f_range o1) (f_slide o1) (f_frontSize o1) (f_backSize o1) (f_backElem o1) (f_frontAgg o1) (f_backAgg o1) (f_snap o1) (f_reg o1) (f_capacity o1) (f_queries o1) (f_n o1)
def H1x30 (s : List Int32) (o0 o1 : Ob) (a0_8 : List Int32) (a0_9 : List Int32) : QHeap := H1v s (f_regTuple o0) (f_regA o0) (f_regB o0) (f_regC o0) (f_regCount o0) (f_slots o0) (f_range o0) (f_slide o0) a0_8 a0_9 (f_backElem o0) (f_frontAgg o0) (f_backAgg o0) (f_snap o0) (f_reg o0) (f_capacity o0) (f_queries o0) (f_n o0) (f_regTuple o1) (f_regA o1) (f_regB o1) (f_regC o1) (f_regCount o1) (f_slots o1) (f_range o1) (f_slide o1) (f_frontSize o1) (f_backSize o1) (f_backElem o1) (f_frontAgg o1) (f_backAgg o1) (f_snap o1) (f_reg o1) (f_capacity o1) (f_queries o1) (f_n o1)
def H1x31 (s : List Int32) (o0 o1 : Ob) (a0_14 : List Int32) : QHeap := H1v s (f_regTuple o0) (f_regA o0) (f_regB o0) (f_regC o0) (f_regCount o0) (f_slots o0) (f_range o0) (f_slide o0) (f_frontSize o0) (f_backSize o0) (f_backElem o0) (f_frontAgg o0) (f_backAgg o0) (f_snap o0) a0_14 (f_capacity o0) (f_queries o0) (f_n o0) (f_regTuple o1) (f_regA o1) (f_regB o1) (f_regC o1) (f_regCount o1) (f_slots o1) (f_range o1) (f_slide o1) (f_frontSize o1) (f_backSize o1) (f_backElem o1) (f_frontAgg o1) (f_backAgg o1) (f_snap o1) (f_reg o1) (f_capacity o1) (f_queries o1) (f_n o1)
theorem tF4a2 (Ad : QAd n0 ad) (W : QW Z a0) (s : List Int32) (e0 : Ob) (o : Ob) (x1 : Int32) (x2 : Int32) (x3 : Int32) (x4 : Int32) (x5 : Int32) {r : Ob} (h : F4 o x1 x2 x3 x4 x5 = some r) : QTri l Z n0 ad 4 (0, qentry [.ref 1, .int x1, .int x2, .int x3, .int x4, .int x5] (pMaxL 4), [], (H1 s o e0)) (none : Option Value) (H1 s r e0) := by
 unfold F4 at h
 refine zS Ad W 2 (st' := (2, [vR 1, vI x1, vI x2, vI x3, vI x4, vI x5, none], [.int x1, .ref 1], (H1 s o e0))) rfl ?_
 obtain ⟨r301, hr301, h⟩ := bind_eq_some_iff.mp h
 refine QTri.callP W (a := 1) (as := [.int x1]) (rest := []) (w := (some (.int r301))) (σ₁ := (H1 s o e0)) rfl rfl rfl rfl rfl rfl rfl rfl (tF5 Ad W x1 hr301) ?_
 rcases qite h with ⟨hc302, h⟩ | ⟨hc302, h⟩
 ·refine zF Ad W (t := 9) (f := 8) rfl (XT.i0_ne_f hc302) ?_
  obtain rfl := Option.some.inj h
  exact QTri.ret0 rfl rfl
 ·refine zT Ad W (t := 9) (f := 8) rfl (XT.i0_ne_t hc302) ?_
  refine zS Ad W 8 (st' := (21, [vR 1, vI x1, vI x2, vI x3, vI x4, vI x5, vI (x1 * (4:Int32))], [.int x2, .int (x1 * (4:Int32)), .ref 10], (H1 s o e0))) rfl ?_
  obtain ⟨y303, hy303, h⟩ := bind_eq_some_iff.mp h
  refine zB Ad W (f := fun y303 => (22, [vR 1, vI x1, vI x2, vI x3, vI x4, vI x5, vI (x1 * (4:Int32))], [], (H1x31 s o e0 y303))) rfl hy303 ?_
  refine zS Ad W 6 (st' := (31, [vR 1, vI x1, vI x2, vI x3, vI x4, vI x5, vI (x1 * (4:Int32))], [.int x3, .int ((x1 * (4:Int32)) + (1:Int32)), .ref 10], (H1x31 s o e0 y303))) rfl ?_
  obtain ⟨y304, hy304, h⟩ := bind_eq_some_iff.mp h
  refine zB Ad W (f := fun y304 => (32, [vR 1, vI x1, vI x2, vI x3, vI x4, vI x5, vI (x1 * (4:Int32))], [], (H1x31 s o e0 y304))) rfl hy304 ?_
  refine zS Ad W 6 (st' := (42, [vR 1, vI x1, vI x2, vI x3, vI x4, vI x5, vI (x1 * (4:Int32))], [.int x4, .int ((x1 * (4:Int32)) + (2:Int32)), .ref 10], (H1x31 s o e0 y304))) rfl ?_
  obtain ⟨y305, hy305, h⟩ := bind_eq_some_iff.mp h
  refine zB Ad W (f := fun y305 => (43, [vR 1, vI x1, vI x2, vI x3, vI x4, vI x5, vI (x1 * (4:Int32))], [], (H1x31 s o e0 y305))) rfl hy305 ?_
  refine zS Ad W 6 (st' := (53, [vR 1, vI x1, vI x2, vI x3, vI x4, vI x5, vI (x1 * (4:Int32))], [.int x5, .int ((x1 * (4:Int32)) + (3:Int32)), .ref 10], (H1x31 s o e0 y305))) rfl ?_
  obtain ⟨y306, hy306, h⟩ := bind_eq_some_iff.mp h
  refine zB Ad W (f := fun y306 => (54, [vR 1, vI x1, vI x2, vI x3, vI x4, vI x5, vI (x1 * (4:Int32))], [], (H1x31 s o e0 y306))) rfl hy306 ?_
  have E307 : ((H1x31 s o e0 y306) : QHeap) = (H1 s (s_reg o y306) e0) := by simp only [fs, H1, H1v, H1x31, s_reg]
  rw [E307]
  obtain rfl := Option.some.inj h
  exact QTri.ret0 rfl rfl
theorem tF3a2 (Ad : QAd n0 ad) (W : QW Z a0) (s : List Int32) (e0 : Ob) (o : Ob) (x1 : Int32) {r : Ob} (h : F3 o x1 = some r) : QTri l Z n0 ad 3 (0, qentry [.ref 1, .int x1] (pMaxL 3), [], (H1 s o e0)) (none : Option Value) (H1 s r e0) := by
 unfold F3 at h
 refine zS Ad W 6 (st' := (6, [vR 1, vI x1], [.int (1:Int32), .int (0:Int32), .int (0:Int32), .int (1:Int32), .int x1, .ref 1], (H1 s o e0))) rfl ?_
 obtain ⟨r308, hr308, h⟩ := bind_eq_some_iff.mp h
 refine QTri.callP W (a := 1) (as := [.int x1, .int (1:Int32), .int (0:Int32), .int (0:Int32), .int (1:Int32)]) (rest := []) (w := none) (σ₁ := (H1 s r308 e0)) rfl rfl rfl rfl rfl rfl rfl rfl (tF4a2 Ad W s e0 o x1 (1:Int32) (0:Int32) (0:Int32) (1:Int32) hr308) ?_
 obtain rfl := Option.some.inj h
 exact QTri.ret0 rfl rfl
def H1x32 (s : List Int32) (o0 o1 : Ob) (a0_12 : List Int32) : QHeap := H1v s (f_regTuple o0) (f_regA o0) (f_regB o0) (f_regC o0) (f_regCount o0) (f_slots o0) (f_range o0) (f_slide o0) (f_frontSize o0) (f_backSize o0) (f_backElem o0) (f_frontAgg o0) a0_12 (f_snap o0) (f_reg o0) (f_capacity o0) (f_queries o0) (f_n o0) (f_regTuple o1) (f_regA o1) (f_regB o1) (f_regC o1) (f_regCount o1) (f_slots o1) (f_range o1) (f_slide o1) (f_frontSize o1) (f_backSize o1) (f_backElem o1) (f_frontAgg o1) (f_backAgg o1) (f_snap o1) (f_reg o1) (f_capacity o1) (f_queries o1) (f_n o1)
theorem tB6_25a2 (Ad : QAd n0 ad) (W : QW Z a0) (s : List Int32) (e0 : Ob) (x1 : Int32) (x3 : Int32) (v : Int32 × Ob) {r : ((Ob)) ⊕ (Int32 × Ob)} {u : Option Value} {τ : QHeap} (h : B6_25 x1 x3 v = some r) (hx0 : ∀ x : Ob, r = .inl x → u = (none : Option Value) ∧ τ = (H1 s x e0)) (hc : ∀ x : Int32 × Ob, r = .inr x → QTri l Z n0 ad 6 (25, [vR 1, vI x1, none, vI x3, vI x.1], [], (H1 s x.2 e0)) u τ) : QTri l Z n0 ad 6 (25, [vR 1, vI x1, none, vI x3, vI v.1], [], (H1 s v.2 e0)) u τ := by
 unfold B6_25 at h
 refine zS Ad W 2 (st' := (28, [vR 1, vI x1, none, vI x3, vI v.1], [.int (4:Int32), .int v.1], (H1 s v.2 e0))) rfl ?_
 rcases qite h with ⟨hc314, h⟩ | ⟨hc314, h⟩
 ·refine zF Ad W (t := 57) (f := 31) rfl (XT.ii_ge_f hc314) ?_
  refine zS Ad W 12 (st' := (49, [vR 1, vI x1, none, vI x3, vI v.1], [.int (x3 + v.1), .ref 10, .int ((x1 * (4:Int32)) + v.1), .ref 8], (H1 s v.2 e0))) rfl ?_
  obtain ⟨y315, hy315, h⟩ := bind_eq_some_iff.mp h
  refine zB Ad W (f := fun y315 => (50, [vR 1, vI x1, none, vI x3, vI v.1], [.int y315, .int ((x1 * (4:Int32)) + v.1), .ref 8], (H1 s v.2 e0))) rfl hy315 ?_
  obtain ⟨y316, hy316, h⟩ := bind_eq_some_iff.mp h
  refine zB Ad W (f := fun y316 => (51, [vR 1, vI x1, none, vI x3, vI v.1], [], (H1x32 s v.2 e0 y316))) rfl hy316 ?_
  refine zS Ad W 2 (st' := (25, [vR 1, vI x1, none, vI x3, vI (v.1 + (1:Int32))], [], (H1x32 s v.2 e0 y316))) rfl ?_
  have E317 : ((H1x32 s v.2 e0 y316) : QHeap) = (H1 s (s_backAgg v.2 y316) e0) := by simp only [fs, H1, H1v, H1x32, s_backAgg]
  rw [E317]
  obtain rfl := Option.some.inj h
  exact zM [tt,tt,ff,tt,tt] (hc ((v.1 + (1:Int32)), (s_backAgg v.2 y316)) rfl)
 ·refine zT Ad W (t := 57) (f := 31) rfl (XT.ii_ge_t hc314) ?_
  obtain rfl := Option.some.inj h
  obtain ⟨rfl, rfl⟩ := hx0 v.2 rfl
  exact QTri.ret0 rfl rfl
theorem tF6a2 (Ad : QAd n0 ad) (W : QW Z a0) (s : List Int32) (e0 : Ob) (o : Ob) (x1 : Int32) (x2 : Int32) {r : Ob} (h : F6 o x1 x2 = some r) : QTri l Z n0 ad 6 (0, qentry [.ref 1, .int x1, .int x2] (pMaxL 6), [], (H1 s o e0)) (none : Option Value) (H1 s r e0) := by
 unfold F6 at h
 refine zS Ad W 2 (st' := (2, [vR 1, vI x1, vI x2, none, none], [.int x2, .ref 1], (H1 s o e0))) rfl ?_
 obtain ⟨r310, hr310, h⟩ := bind_eq_some_iff.mp h
 refine QTri.callP W (a := 1) (as := [.int x2]) (rest := []) (w := (some (.int r310))) (σ₁ := (H1 s o e0)) rfl rfl rfl rfl rfl rfl rfl rfl (tF5 Ad W x2 hr310) ?_
 rcases qite h with ⟨hc311, h⟩ | ⟨hc311, h⟩
 ·refine zT Ad W (t := 17) (f := 8) rfl (XT.i0_eq_t hc311) ?_
  obtain rfl := Option.some.inj h
  exact QTri.ret0 rfl rfl
 ·refine zF Ad W (t := 17) (f := 8) rfl (XT.i0_eq_f hc311) ?_
  refine zS Ad W 1 (st' := (9, [vR 1, vI x1, vI x2, none, none], [.int x1], (H1 s o e0))) rfl ?_
  rcases qite h with ⟨hc312, h⟩ | ⟨hc312, h⟩
  ·refine zT Ad W (t := 17) (f := 12) rfl (XT.i0_lt_t hc312) ?_
   obtain rfl := Option.some.inj h
   exact QTri.ret0 rfl rfl
  ·refine zF Ad W (t := 17) (f := 12) rfl (XT.i0_lt_f hc312) ?_
   refine zS Ad W 2 (st' := (14, [vR 1, vI x1, vI x2, none, none], [.int (4:Int32), .int x1], (H1 s o e0))) rfl ?_
   rcases qite h with ⟨hc313, h⟩ | ⟨hc313, h⟩
   ·refine zT Ad W (t := 18) (f := 17) rfl (XT.ii_lt_t hc313) ?_
    refine zS Ad W 6 (st' := (25, [vR 1, vI x1, vI x2, vI (x2 * (4:Int32)), vI (0:Int32)], [], (H1 s o e0))) rfl ?_
    obtain ⟨e318, he318, h⟩ := bind_eq_some_iff.mp h
    refine zM [tt,tt,ff,tt,tt] (loopN_tri (B := B6_25 x1 (x2 * (4:Int32))) (T := fun lv319 => QTri l Z n0 ad 6 (25, [vR 1, vI x1, none, vI (x2 * (4:Int32)), vI lv319.1], [], (H1 s lv319.2 e0)) (none : Option Value) (H1 s r e0)) (KE := fun e318a => (none : Option Value) = (none : Option Value) ∧ (H1 s r e0) = (H1 s e318a e0)) (fun lv319 r hB hE hC => tB6_25a2 Ad W s e0 x1 (x2 * (4:Int32)) lv319 hB (fun x q => hE _ q) (fun x q => hC x q)) qN ((0:Int32), o) e318 he318 ?_)
    obtain rfl := Option.some.inj h
    exact ⟨rfl, rfl⟩
   ·refine zF Ad W (t := 18) (f := 17) rfl (XT.ii_lt_f hc313) ?_
    obtain rfl := Option.some.inj h
    exact QTri.ret0 rfl rfl
def H1x33 (s : List Int32) (o0 o1 : Ob) (a0_13 : List Int32) : QHeap := H1v s (f_regTuple o0) (f_regA o0) (f_regB o0) (f_regC o0) (f_regCount o0) (f_slots o0) (f_range o0) (f_slide o0) (f_frontSize o0) (f_backSize o0) (f_backElem o0) (f_frontAgg o0) (f_backAgg o0) a0_13 (f_reg o0) (f_capacity o0) (f_queries o0) (f_n o0) (f_regTuple o1) (f_regA o1) (f_regB o1) (f_regC o1) (f_regCount o1) (f_slots o1) (f_range o1) (f_slide o1) (f_frontSize o1) (f_backSize o1) (f_backElem o1) (f_frontAgg o1) (f_backAgg o1) (f_snap o1) (f_reg o1) (f_capacity o1) (f_queries o1) (f_n o1)
theorem tB7_25a2 (Ad : QAd n0 ad) (W : QW Z a0) (s : List Int32) (e0 : Ob) (x1 : Int32) (x3 : Int32) (v : Int32 × Ob) {r : ((Ob)) ⊕ (Int32 × Ob)} {u : Option Value} {τ : QHeap} (h : B7_25 x1 x3 v = some r) (hx0 : ∀ x : Ob, r = .inl x → u = (none : Option Value) ∧ τ = (H1 s x e0)) (hc : ∀ x : Int32 × Ob, r = .inr x → QTri l Z n0 ad 7 (25, [vR 1, vI x1, none, vI x3, vI x.1], [], (H1 s x.2 e0)) u τ) : QTri l Z n0 ad 7 (25, [vR 1, vI x1, none, vI x3, vI v.1], [], (H1 s v.2 e0)) u τ := by
 unfold B7_25 at h
 refine zS Ad W 2 (st' := (28, [vR 1, vI x1, none, vI x3, vI v.1], [.int (4:Int32), .int v.1], (H1 s v.2 e0))) rfl ?_
 rcases qite h with ⟨hc325, h⟩ | ⟨hc325, h⟩
 ·refine zF Ad W (t := 57) (f := 31) rfl (XT.ii_ge_f hc325) ?_
  refine zS Ad W 12 (st' := (49, [vR 1, vI x1, none, vI x3, vI v.1], [.int (x3 + v.1), .ref 10, .int ((x1 * (4:Int32)) + v.1), .ref 9], (H1 s v.2 e0))) rfl ?_
  obtain ⟨y326, hy326, h⟩ := bind_eq_some_iff.mp h
  refine zB Ad W (f := fun y326 => (50, [vR 1, vI x1, none, vI x3, vI v.1], [.int y326, .int ((x1 * (4:Int32)) + v.1), .ref 9], (H1 s v.2 e0))) rfl hy326 ?_
  obtain ⟨y327, hy327, h⟩ := bind_eq_some_iff.mp h
  refine zB Ad W (f := fun y327 => (51, [vR 1, vI x1, none, vI x3, vI v.1], [], (H1x33 s v.2 e0 y327))) rfl hy327 ?_
  refine zS Ad W 2 (st' := (25, [vR 1, vI x1, none, vI x3, vI (v.1 + (1:Int32))], [], (H1x33 s v.2 e0 y327))) rfl ?_
  have E328 : ((H1x33 s v.2 e0 y327) : QHeap) = (H1 s (s_snap v.2 y327) e0) := by simp only [fs, H1, H1v, H1x33, s_snap]
  rw [E328]
  obtain rfl := Option.some.inj h
  exact zM [tt,tt,ff,tt,tt] (hc ((v.1 + (1:Int32)), (s_snap v.2 y327)) rfl)
 ·refine zT Ad W (t := 57) (f := 31) rfl (XT.ii_ge_t hc325) ?_
  obtain rfl := Option.some.inj h
  obtain ⟨rfl, rfl⟩ := hx0 v.2 rfl
  exact QTri.ret0 rfl rfl
theorem tF7a2 (Ad : QAd n0 ad) (W : QW Z a0) (s : List Int32) (e0 : Ob) (o : Ob) (x1 : Int32) (x2 : Int32) {r : Ob} (h : F7 o x1 x2 = some r) : QTri l Z n0 ad 7 (0, qentry [.ref 1, .int x1, .int x2] (pMaxL 7), [], (H1 s o e0)) (none : Option Value) (H1 s r e0) := by
 unfold F7 at h
 refine zS Ad W 2 (st' := (2, [vR 1, vI x1, vI x2, none, none], [.int x2, .ref 1], (H1 s o e0))) rfl ?_
 obtain ⟨r321, hr321, h⟩ := bind_eq_some_iff.mp h
 refine QTri.callP W (a := 1) (as := [.int x2]) (rest := []) (w := (some (.int r321))) (σ₁ := (H1 s o e0)) rfl rfl rfl rfl rfl rfl rfl rfl (tF5 Ad W x2 hr321) ?_
 rcases qite h with ⟨hc322, h⟩ | ⟨hc322, h⟩
 ·refine zT Ad W (t := 17) (f := 8) rfl (XT.i0_eq_t hc322) ?_
  obtain rfl := Option.some.inj h
  exact QTri.ret0 rfl rfl
 ·refine zF Ad W (t := 17) (f := 8) rfl (XT.i0_eq_f hc322) ?_
  refine zS Ad W 1 (st' := (9, [vR 1, vI x1, vI x2, none, none], [.int x1], (H1 s o e0))) rfl ?_
  rcases qite h with ⟨hc323, h⟩ | ⟨hc323, h⟩
  ·refine zT Ad W (t := 17) (f := 12) rfl (XT.i0_lt_t hc323) ?_
   obtain rfl := Option.some.inj h
   exact QTri.ret0 rfl rfl
  ·refine zF Ad W (t := 17) (f := 12) rfl (XT.i0_lt_f hc323) ?_
   refine zS Ad W 2 (st' := (14, [vR 1, vI x1, vI x2, none, none], [.int (4:Int32), .int x1], (H1 s o e0))) rfl ?_
   rcases qite h with ⟨hc324, h⟩ | ⟨hc324, h⟩
   ·refine zT Ad W (t := 18) (f := 17) rfl (XT.ii_lt_t hc324) ?_
    refine zS Ad W 6 (st' := (25, [vR 1, vI x1, vI x2, vI (x2 * (4:Int32)), vI (0:Int32)], [], (H1 s o e0))) rfl ?_
    obtain ⟨e329, he329, h⟩ := bind_eq_some_iff.mp h
    refine zM [tt,tt,ff,tt,tt] (loopN_tri (B := B7_25 x1 (x2 * (4:Int32))) (T := fun lv330 => QTri l Z n0 ad 7 (25, [vR 1, vI x1, none, vI (x2 * (4:Int32)), vI lv330.1], [], (H1 s lv330.2 e0)) (none : Option Value) (H1 s r e0)) (KE := fun e329a => (none : Option Value) = (none : Option Value) ∧ (H1 s r e0) = (H1 s e329a e0)) (fun lv330 r hB hE hC => tB7_25a2 Ad W s e0 x1 (x2 * (4:Int32)) lv330 hB (fun x q => hE _ q) (fun x q => hC x q)) qN ((0:Int32), o) e329 he329 ?_)
    obtain rfl := Option.some.inj h
    exact ⟨rfl, rfl⟩
   ·refine zF Ad W (t := 18) (f := 17) rfl (XT.ii_lt_f hc324) ?_
    obtain rfl := Option.some.inj h
    exact QTri.ret0 rfl rfl
theorem tF2a2 (Ad : QAd n0 ad) (W : QW Z a0) (s : List Int32) (e0 : Ob) (o : Ob) (x1 : Int32) {r : Ob} (h : F2 o x1 = some r) : QTri l Z n0 ad 2 (0, qentry [.ref 1, .int x1] (pMaxL 2), [], (H1 s o e0)) (none : Option Value) (H1 s r e0) := by
 unfold F2 at h
 refine zS Ad W 1 (st' := (1, [vR 1, vI x1], [.int x1], (H1 s o e0))) rfl ?_
 rcases qite h with ⟨hc296, h⟩ | ⟨hc296, h⟩
 ·refine zT Ad W (t := 9) (f := 4) rfl (XT.i0_lt_t hc296) ?_
  obtain rfl := Option.some.inj h
  exact QTri.ret0 rfl rfl
 ·refine zF Ad W (t := 9) (f := 4) rfl (XT.i0_lt_f hc296) ?_
  refine zS Ad W 2 (st' := (6, [vR 1, vI x1], [.int (4:Int32), .int x1], (H1 s o e0))) rfl ?_
  rcases qite h with ⟨hc297, h⟩ | ⟨hc297, h⟩
  ·refine zT Ad W (t := 10) (f := 9) rfl (XT.ii_lt_t hc297) ?_
   refine zS Ad W 4 (st' := (16, [vR 1, vI x1], [.int (0:Int32), .int x1, .ref 4], (H1 s o e0))) rfl ?_
   obtain ⟨y298, hy298, h⟩ := bind_eq_some_iff.mp h
   refine zB Ad W (f := fun y298 => (17, [vR 1, vI x1], [], (H1x29 s o e0 y298))) rfl hy298 ?_
   refine zS Ad W 4 (st' := (23, [vR 1, vI x1], [.int (0:Int32), .int x1, .ref 5], (H1x29 s o e0 y298))) rfl ?_
   obtain ⟨y299, hy299, h⟩ := bind_eq_some_iff.mp h
   refine zB Ad W (f := fun y299 => (24, [vR 1, vI x1], [], (H1x30 s o e0 y298 y299))) rfl hy299 ?_
   refine zS Ad W 2 (st' := (26, [vR 1, vI x1], [.int (1:Int32), .ref 1], (H1x30 s o e0 y298 y299))) rfl ?_
   have E300 : ((H1x30 s o e0 y298 y299) : QHeap) = (H1 s (s_backSize (s_frontSize o y298) y299) e0) := by simp only [fs, H1, H1v, H1x30, s_frontSize, s_backSize]
   rw [E300]
   obtain ⟨r309, hr309, h⟩ := bind_eq_some_iff.mp h
   refine QTri.callP W (a := 1) (as := [.int (1:Int32)]) (rest := []) (w := none) (σ₁ := (H1 s r309 e0)) rfl rfl rfl rfl rfl rfl rfl rfl (tF3a2 Ad W s e0 (s_backSize (s_frontSize o y298) y299) (1:Int32) hr309) ?_
   refine zS Ad W 3 (st' := (32, [vR 1, vI x1], [.int (1:Int32), .int x1, .ref 1], (H1 s r309 e0))) rfl ?_
   obtain ⟨r320, hr320, h⟩ := bind_eq_some_iff.mp h
   refine QTri.callP W (a := 1) (as := [.int x1, .int (1:Int32)]) (rest := []) (w := none) (σ₁ := (H1 s r320 e0)) rfl rfl rfl rfl rfl rfl rfl rfl (tF6a2 Ad W s e0 r309 x1 (1:Int32) hr320) ?_
   refine zS Ad W 3 (st' := (38, [vR 1, vI x1], [.int (1:Int32), .int x1, .ref 1], (H1 s r320 e0))) rfl ?_
   obtain ⟨r331, hr331, h⟩ := bind_eq_some_iff.mp h
   refine QTri.callP W (a := 1) (as := [.int x1, .int (1:Int32)]) (rest := []) (w := none) (σ₁ := (H1 s r331 e0)) rfl rfl rfl rfl rfl rfl rfl rfl (tF7a2 Ad W s e0 r320 x1 (1:Int32) hr331) ?_
   obtain rfl := Option.some.inj h
   exact QTri.ret0 rfl rfl
  ·refine zF Ad W (t := 10) (f := 9) rfl (XT.ii_lt_f hc297) ?_
   obtain rfl := Option.some.inj h
   exact QTri.ret0 rfl rfl
theorem tB9_7a1 (Ad : QAd n0 ad) (W : QW Z a0) (s : List Int32) (e0 : Ob) (v : Int32 × Ob) {r : ((Ob)) ⊕ (Int32 × Ob)} {u : Option Value} {τ : QHeap} (h : B9_7 v = some r) (hx0 : ∀ x : Ob, r = .inl x → u = (none : Option Value) ∧ τ = (H1 s x e0)) (hc : ∀ x : Int32 × Ob, r = .inr x → QTri l Z n0 ad 9 (7, [vR 1, vI x.1], [], (H1 s x.2 e0)) u τ) : QTri l Z n0 ad 9 (7, [vR 1, vI v.1], [], (H1 s v.2 e0)) u τ := by
 unfold B9_7 at h
 refine zS Ad W 2 (st' := (9, [vR 1, vI v.1], [.int (4:Int32), .int v.1], (H1 s v.2 e0))) rfl ?_
 rcases qite h with ⟨hc295, h⟩ | ⟨hc295, h⟩
 ·refine zF Ad W (t := 23) (f := 12) rfl (XT.ii_ge_f hc295) ?_
  refine zS Ad W 2 (st' := (14, [vR 1, vI v.1], [.int v.1, .ref 1], (H1 s v.2 e0))) rfl ?_
  obtain ⟨r332, hr332, h⟩ := bind_eq_some_iff.mp h
  refine QTri.callP W (a := 1) (as := [.int v.1]) (rest := []) (w := none) (σ₁ := (H1 s r332 e0)) rfl rfl rfl rfl rfl rfl rfl rfl (tF2a2 Ad W s e0 v.2 v.1 hr332) ?_
  refine zS Ad W 2 (st' := (7, [vR 1, vI (v.1 + (1:Int32))], [], (H1 s r332 e0))) rfl ?_
  obtain rfl := Option.some.inj h
  exact zM [tt,tt] (hc ((v.1 + (1:Int32)), r332) rfl)
 ·refine zT Ad W (t := 23) (f := 12) rfl (XT.ii_ge_t hc295) ?_
  obtain rfl := Option.some.inj h
  obtain ⟨rfl, rfl⟩ := hx0 v.2 rfl
  exact QTri.ret0 rfl rfl
theorem tF9a1 (Ad : QAd n0 ad) (W : QW Z a0) (s : List Int32) (e0 : Ob) (o : Ob) {r : Ob} (h : F9 o = some r) : QTri l Z n0 ad 9 (0, qentry [.ref 1] (pMaxL 9), [], (H1 s o e0)) (none : Option Value) (H1 s r e0) := by
 unfold F9 at h
 refine zS Ad W 3 (st' := (5, [vR 1, none], [], (H1x28 s o e0 (0:Int32)))) rfl ?_
 refine zS Ad W 2 (st' := (7, [vR 1, vI (0:Int32)], [], (H1x28 s o e0 (0:Int32)))) rfl ?_
 have E294 : ((H1x28 s o e0 (0:Int32)) : QHeap) = (H1 s (s_n o (0:Int32)) e0) := by simp only [fs, H1, H1v, H1x28, s_n]
 rw [E294]
 obtain ⟨e333, he333, h⟩ := bind_eq_some_iff.mp h
 refine zM [tt,tt] (loopN_tri (B := B9_7) (T := fun lv334 => QTri l Z n0 ad 9 (7, [vR 1, vI lv334.1], [], (H1 s lv334.2 e0)) (none : Option Value) (H1 s r e0)) (KE := fun e333a => (none : Option Value) = (none : Option Value) ∧ (H1 s r e0) = (H1 s e333a e0)) (fun lv334 r hB hE hC => tB9_7a1 Ad W s e0 lv334 hB (fun x q => hE _ q) (fun x q => hC x q)) qN ((0:Int32), (s_n o (0:Int32))) e333 he333 ?_)
 obtain rfl := Option.some.inj h
 exact ⟨rfl, rfl⟩
theorem tF25a1 (Ad : QAd n0 ad) (W : QW Z a0) (s : List Int32) (e0 : Ob) (o : Ob) {r : Int32} (h : F25 o = some r) : QTri l Z n0 ad 25 (0, qentry [.ref 11] (pMaxL 25), [], (H1 s e0 o)) (some (Value.int r)) (H1 s e0 o) := by
 unfold F25 at h
 refine zS Ad W 2 (st' := (4, [vR 11], [.int (f_queries o)], (H1 s e0 o))) rfl ?_
 obtain rfl := Option.some.inj h
 exact QTri.retI rfl rfl
/-- tupleCount()I -/
def F30 (o : Ob) : Option (Int32) :=
 some (f_n o)
theorem tF30 (Ad : QAd n0 ad) (W : QW Z a0) (s : List Int32) (e0 : Ob) (o : Ob) {r : Int32} (h : F30 o = some r) : QTri l Z n0 ad 30 (0, qentry [.ref 1] (pMaxL 30), [], (H1 s o e0)) (some (Value.int r)) (H1 s o e0) := by
 unfold F30 at h
 refine zS Ad W 2 (st' := (4, [vR 1], [.int (f_n o)], (H1 s o e0))) rfl ?_
 obtain rfl := Option.some.inj h
 exact QTri.retI rfl rfl
theorem tF30a1 (Ad : QAd n0 ad) (W : QW Z a0) (s : List Int32) (e0 : Ob) (o : Ob) {r : Int32} (h : F30 o = some r) : QTri l Z n0 ad 30 (0, qentry [.ref 11] (pMaxL 30), [], (H1 s e0 o)) (some (Value.int r)) (H1 s e0 o) := by
 unfold F30 at h
 refine zS Ad W 2 (st' := (4, [vR 11], [.int (f_n o)], (H1 s e0 o))) rfl ?_
 obtain rfl := Option.some.inj h
 exact QTri.retI rfl rfl
/-- endOf(I)I -/
def F32 (o : Ob) (x1 : Int32) : Option (Int32) :=
 (aget (f_slide o) x1).bind fun y345 => (if y345 < (1:Int32) then some (0:Int32) else (qdiv (f_n o) y345).bind fun y347 => some (y345 * y347))
theorem tF32 (Ad : QAd n0 ad) (W : QW Z a0) (s : List Int32) (e0 : Ob) (o : Ob) (x1 : Int32) {r : Int32} (h : F32 o x1 = some r) : QTri l Z n0 ad 32 (0, qentry [.ref 1, .int x1] (pMaxL 32), [], (H1 s o e0)) (some (Value.int r)) (H1 s o e0) := by
 unfold F32 at h
 refine zS Ad W 3 (st' := (5, [vR 1, vI x1, none], [.int x1, .ref 3], (H1 s o e0))) rfl ?_
 obtain ⟨y345, hy345, h⟩ := bind_eq_some_iff.mp h
 refine zB Ad W (f := fun y345 => (6, [vR 1, vI x1, none], [.int y345], (H1 s o e0))) rfl hy345 ?_
 refine zS Ad W 3 (st' := (9, [vR 1, vI x1, vI y345], [.int (1:Int32), .int y345], (H1 s o e0))) rfl ?_
 rcases qite h with ⟨hc346, h⟩ | ⟨hc346, h⟩
 ·refine zF Ad W (t := 14) (f := 12) rfl (XT.ii_ge_f hc346) ?_
  refine zS Ad W 1 (st' := (13, [vR 1, vI x1, vI y345], [.int (0:Int32)], (H1 s o e0))) rfl ?_
  obtain rfl := Option.some.inj h
  exact QTri.retI rfl rfl
 ·refine zT Ad W (t := 14) (f := 12) rfl (XT.ii_ge_t hc346) ?_
  refine zS Ad W 4 (st' := (20, [vR 1, vI x1, vI y345], [.int y345, .int (f_n o), .int y345], (H1 s o e0))) rfl ?_
  obtain ⟨y347, hy347, h⟩ := bind_eq_some_iff.mp h
  refine zB Ad W (f := fun y347 => (21, [vR 1, vI x1, vI y345], [.int y347, .int y345], (H1 s o e0))) rfl hy347 ?_
  refine zS Ad W 1 (st' := (22, [vR 1, vI x1, vI y345], [.int (y345 * y347)], (H1 s o e0))) rfl ?_
  obtain rfl := Option.some.inj h
  exact QTri.retI rfl rfl
/-- windowStart(I)I -/
def F31 (o : Ob) (x1 : Int32) : Option (Int32) :=
 (F27 o x1).bind fun r343 => (if r343 = (0:Int32) then some (-1:Int32) else (F32 o x1).bind fun r348 => (aget (f_range o) x1).bind fun y349 => (if (r348 - y349) < (0:Int32) then some (0:Int32) else some (r348 - y349)))
theorem tF31 (Ad : QAd n0 ad) (W : QW Z a0) (s : List Int32) (e0 : Ob) (o : Ob) (x1 : Int32) {r : Int32} (h : F31 o x1 = some r) : QTri l Z n0 ad 31 (0, qentry [.ref 1, .int x1] (pMaxL 31), [], (H1 s o e0)) (some (Value.int r)) (H1 s o e0) := by
 unfold F31 at h
 refine zS Ad W 2 (st' := (2, [vR 1, vI x1, none], [.int x1, .ref 1], (H1 s o e0))) rfl ?_
 obtain ⟨r343, hr343, h⟩ := bind_eq_some_iff.mp h
 refine QTri.callP W (a := 1) (as := [.int x1]) (rest := []) (w := (some (.int r343))) (σ₁ := (H1 s o e0)) rfl rfl rfl rfl rfl rfl rfl rfl (tF27 Ad W s e0 o x1 hr343) ?_
 rcases qite h with ⟨hc344, h⟩ | ⟨hc344, h⟩
 ·refine zF Ad W (t := 10) (f := 8) rfl (XT.i0_ne_f hc344) ?_
  refine zS Ad W 1 (st' := (9, [vR 1, vI x1, none], [.int (-1:Int32)], (H1 s o e0))) rfl ?_
  obtain rfl := Option.some.inj h
  exact QTri.retI rfl rfl
 ·refine zT Ad W (t := 10) (f := 8) rfl (XT.i0_ne_t hc344) ?_
  refine zS Ad W 2 (st' := (12, [vR 1, vI x1, none], [.int x1, .ref 1], (H1 s o e0))) rfl ?_
  obtain ⟨r348, hr348, h⟩ := bind_eq_some_iff.mp h
  refine QTri.callP W (a := 1) (as := [.int x1]) (rest := []) (w := (some (.int r348))) (σ₁ := (H1 s o e0)) rfl rfl rfl rfl rfl rfl rfl rfl (tF32 Ad W s e0 o x1 hr348) ?_
  refine zS Ad W 3 (st' := (20, [vR 1, vI x1, none], [.int x1, .ref 2, .int r348], (H1 s o e0))) rfl ?_
  obtain ⟨y349, hy349, h⟩ := bind_eq_some_iff.mp h
  refine zB Ad W (f := fun y349 => (21, [vR 1, vI x1, none], [.int y349, .int r348], (H1 s o e0))) rfl hy349 ?_
  refine zS Ad W 3 (st' := (24, [vR 1, vI x1, vI (r348 - y349)], [.int (r348 - y349)], (H1 s o e0))) rfl ?_
  rcases qite h with ⟨hc350, h⟩ | ⟨hc350, h⟩
  ·refine zF Ad W (t := 29) (f := 27) rfl (XT.i0_ge_f hc350) ?_
   refine zS Ad W 1 (st' := (28, [vR 1, vI x1, vI (r348 - y349)], [.int (0:Int32)], (H1 s o e0))) rfl ?_
   obtain rfl := Option.some.inj h
   exact QTri.retI rfl rfl
  ·refine zT Ad W (t := 29) (f := 27) rfl (XT.i0_ge_t hc350) ?_
   refine zS Ad W 1 (st' := (30, [vR 1, vI x1, vI (r348 - y349)], [.int (r348 - y349)], (H1 s o e0))) rfl ?_
   obtain rfl := Option.some.inj h
   exact QTri.retI rfl rfl
theorem tF27a1 (Ad : QAd n0 ad) (W : QW Z a0) (s : List Int32) (e0 : Ob) (o : Ob) (x1 : Int32) {r : Int32} (h : F27 o x1 = some r) : QTri l Z n0 ad 27 (0, qentry [.ref 11, .int x1] (pMaxL 27), [], (H1 s e0 o)) (some (Value.int r)) (H1 s e0 o) := by
 unfold F27 at h
 refine zS Ad W 1 (st' := (1, [vR 11, vI x1], [.int x1], (H1 s e0 o))) rfl ?_
 rcases qite h with ⟨hc352, h⟩ | ⟨hc352, h⟩
 ·refine zT Ad W (t := 21) (f := 4) rfl (XT.i0_lt_t hc352) ?_
  refine zS Ad W 1 (st' := (22, [vR 11, vI x1], [.int (0:Int32)], (H1 s e0 o))) rfl ?_
  obtain rfl := Option.some.inj h
  exact QTri.retZ rfl rfl
 ·refine zF Ad W (t := 21) (f := 4) rfl (XT.i0_lt_f hc352) ?_
  refine zS Ad W 3 (st' := (9, [vR 11, vI x1], [.int (f_queries o), .int x1], (H1 s e0 o))) rfl ?_
  rcases qite h with ⟨hc353, h⟩ | ⟨hc353, h⟩
  ·refine zF Ad W (t := 21) (f := 12) rfl (XT.ii_ge_f hc353) ?_
   refine zS Ad W 2 (st' := (14, [vR 11, vI x1], [.int (4:Int32), .int x1], (H1 s e0 o))) rfl ?_
   rcases qite h with ⟨hc354, h⟩ | ⟨hc354, h⟩
   ·refine zF Ad W (t := 21) (f := 17) rfl (XT.ii_ge_f hc354) ?_
    refine zS Ad W 2 (st' := (22, [vR 11, vI x1], [.int (1:Int32)], (H1 s e0 o))) rfl ?_
    obtain rfl := Option.some.inj h
    exact QTri.retZ rfl rfl
   ·refine zT Ad W (t := 21) (f := 17) rfl (XT.ii_ge_t hc354) ?_
    refine zS Ad W 1 (st' := (22, [vR 11, vI x1], [.int (0:Int32)], (H1 s e0 o))) rfl ?_
    obtain rfl := Option.some.inj h
    exact QTri.retZ rfl rfl
  ·refine zT Ad W (t := 21) (f := 12) rfl (XT.ii_ge_t hc353) ?_
   refine zS Ad W 1 (st' := (22, [vR 11, vI x1], [.int (0:Int32)], (H1 s e0 o))) rfl ?_
   obtain rfl := Option.some.inj h
   exact QTri.retZ rfl rfl
theorem tF32a1 (Ad : QAd n0 ad) (W : QW Z a0) (s : List Int32) (e0 : Ob) (o : Ob) (x1 : Int32) {r : Int32} (h : F32 o x1 = some r) : QTri l Z n0 ad 32 (0, qentry [.ref 11, .int x1] (pMaxL 32), [], (H1 s e0 o)) (some (Value.int r)) (H1 s e0 o) := by
 unfold F32 at h
 refine zS Ad W 3 (st' := (5, [vR 11, vI x1, none], [.int x1, .ref 13], (H1 s e0 o))) rfl ?_
 obtain ⟨y357, hy357, h⟩ := bind_eq_some_iff.mp h
 refine zB Ad W (f := fun y357 => (6, [vR 11, vI x1, none], [.int y357], (H1 s e0 o))) rfl hy357 ?_
 refine zS Ad W 3 (st' := (9, [vR 11, vI x1, vI y357], [.int (1:Int32), .int y357], (H1 s e0 o))) rfl ?_
 rcases qite h with ⟨hc358, h⟩ | ⟨hc358, h⟩
 ·refine zF Ad W (t := 14) (f := 12) rfl (XT.ii_ge_f hc358) ?_
  refine zS Ad W 1 (st' := (13, [vR 11, vI x1, vI y357], [.int (0:Int32)], (H1 s e0 o))) rfl ?_
  obtain rfl := Option.some.inj h
  exact QTri.retI rfl rfl
 ·refine zT Ad W (t := 14) (f := 12) rfl (XT.ii_ge_t hc358) ?_
  refine zS Ad W 4 (st' := (20, [vR 11, vI x1, vI y357], [.int y357, .int (f_n o), .int y357], (H1 s e0 o))) rfl ?_
  obtain ⟨y359, hy359, h⟩ := bind_eq_some_iff.mp h
  refine zB Ad W (f := fun y359 => (21, [vR 11, vI x1, vI y357], [.int y359, .int y357], (H1 s e0 o))) rfl hy359 ?_
  refine zS Ad W 1 (st' := (22, [vR 11, vI x1, vI y357], [.int (y357 * y359)], (H1 s e0 o))) rfl ?_
  obtain rfl := Option.some.inj h
  exact QTri.retI rfl rfl
theorem tF31a1 (Ad : QAd n0 ad) (W : QW Z a0) (s : List Int32) (e0 : Ob) (o : Ob) (x1 : Int32) {r : Int32} (h : F31 o x1 = some r) : QTri l Z n0 ad 31 (0, qentry [.ref 11, .int x1] (pMaxL 31), [], (H1 s e0 o)) (some (Value.int r)) (H1 s e0 o) := by
 unfold F31 at h
 refine zS Ad W 2 (st' := (2, [vR 11, vI x1, none], [.int x1, .ref 11], (H1 s e0 o))) rfl ?_
 obtain ⟨r355, hr355, h⟩ := bind_eq_some_iff.mp h
 refine QTri.callP W (a := 11) (as := [.int x1]) (rest := []) (w := (some (.int r355))) (σ₁ := (H1 s e0 o)) rfl rfl rfl rfl rfl rfl rfl rfl (tF27a1 Ad W s e0 o x1 hr355) ?_
 rcases qite h with ⟨hc356, h⟩ | ⟨hc356, h⟩
 ·refine zF Ad W (t := 10) (f := 8) rfl (XT.i0_ne_f hc356) ?_
  refine zS Ad W 1 (st' := (9, [vR 11, vI x1, none], [.int (-1:Int32)], (H1 s e0 o))) rfl ?_
  obtain rfl := Option.some.inj h
  exact QTri.retI rfl rfl
 ·refine zT Ad W (t := 10) (f := 8) rfl (XT.i0_ne_t hc356) ?_
  refine zS Ad W 2 (st' := (12, [vR 11, vI x1, none], [.int x1, .ref 11], (H1 s e0 o))) rfl ?_
  obtain ⟨r360, hr360, h⟩ := bind_eq_some_iff.mp h
  refine QTri.callP W (a := 11) (as := [.int x1]) (rest := []) (w := (some (.int r360))) (σ₁ := (H1 s e0 o)) rfl rfl rfl rfl rfl rfl rfl rfl (tF32a1 Ad W s e0 o x1 hr360) ?_
  refine zS Ad W 3 (st' := (20, [vR 11, vI x1, none], [.int x1, .ref 12, .int r360], (H1 s e0 o))) rfl ?_
  obtain ⟨y361, hy361, h⟩ := bind_eq_some_iff.mp h
  refine zB Ad W (f := fun y361 => (21, [vR 11, vI x1, none], [.int y361, .int r360], (H1 s e0 o))) rfl hy361 ?_
  refine zS Ad W 3 (st' := (24, [vR 11, vI x1, vI (r360 - y361)], [.int (r360 - y361)], (H1 s e0 o))) rfl ?_
  rcases qite h with ⟨hc362, h⟩ | ⟨hc362, h⟩
  ·refine zF Ad W (t := 29) (f := 27) rfl (XT.i0_ge_f hc362) ?_
   refine zS Ad W 1 (st' := (28, [vR 11, vI x1, vI (r360 - y361)], [.int (0:Int32)], (H1 s e0 o))) rfl ?_
   obtain rfl := Option.some.inj h
   exact QTri.retI rfl rfl
  ·refine zT Ad W (t := 29) (f := 27) rfl (XT.i0_ge_t hc362) ?_
   refine zS Ad W 1 (st' := (30, [vR 11, vI x1, vI (r360 - y361)], [.int (r360 - y361)], (H1 s e0 o))) rfl ?_
   obtain rfl := Option.some.inj h
   exact QTri.retI rfl rfl
/-- windowEnd(I)I -/
def F33 (o : Ob) (x1 : Int32) : Option (Int32) :=
 (F27 o x1).bind fun r365 => (if r365 = (0:Int32) then some (-1:Int32) else (F32 o x1).bind fun r367 => some r367)
theorem tF33 (Ad : QAd n0 ad) (W : QW Z a0) (s : List Int32) (e0 : Ob) (o : Ob) (x1 : Int32) {r : Int32} (h : F33 o x1 = some r) : QTri l Z n0 ad 33 (0, qentry [.ref 1, .int x1] (pMaxL 33), [], (H1 s o e0)) (some (Value.int r)) (H1 s o e0) := by
 unfold F33 at h
 refine zS Ad W 2 (st' := (2, [vR 1, vI x1], [.int x1, .ref 1], (H1 s o e0))) rfl ?_
 obtain ⟨r365, hr365, h⟩ := bind_eq_some_iff.mp h
 refine QTri.callP W (a := 1) (as := [.int x1]) (rest := []) (w := (some (.int r365))) (σ₁ := (H1 s o e0)) rfl rfl rfl rfl rfl rfl rfl rfl (tF27 Ad W s e0 o x1 hr365) ?_
 rcases qite h with ⟨hc366, h⟩ | ⟨hc366, h⟩
 ·refine zF Ad W (t := 10) (f := 8) rfl (XT.i0_ne_f hc366) ?_
  refine zS Ad W 1 (st' := (9, [vR 1, vI x1], [.int (-1:Int32)], (H1 s o e0))) rfl ?_
  obtain rfl := Option.some.inj h
  exact QTri.retI rfl rfl
 ·refine zT Ad W (t := 10) (f := 8) rfl (XT.i0_ne_t hc366) ?_
  refine zS Ad W 2 (st' := (12, [vR 1, vI x1], [.int x1, .ref 1], (H1 s o e0))) rfl ?_
  obtain ⟨r367, hr367, h⟩ := bind_eq_some_iff.mp h
  refine QTri.callP W (a := 1) (as := [.int x1]) (rest := []) (w := (some (.int r367))) (σ₁ := (H1 s o e0)) rfl rfl rfl rfl rfl rfl rfl rfl (tF32 Ad W s e0 o x1 hr367) ?_
  obtain rfl := Option.some.inj h
  exact QTri.retI rfl rfl
theorem tF33a1 (Ad : QAd n0 ad) (W : QW Z a0) (s : List Int32) (e0 : Ob) (o : Ob) (x1 : Int32) {r : Int32} (h : F33 o x1 = some r) : QTri l Z n0 ad 33 (0, qentry [.ref 11, .int x1] (pMaxL 33), [], (H1 s e0 o)) (some (Value.int r)) (H1 s e0 o) := by
 unfold F33 at h
 refine zS Ad W 2 (st' := (2, [vR 11, vI x1], [.int x1, .ref 11], (H1 s e0 o))) rfl ?_
 obtain ⟨r369, hr369, h⟩ := bind_eq_some_iff.mp h
 refine QTri.callP W (a := 11) (as := [.int x1]) (rest := []) (w := (some (.int r369))) (σ₁ := (H1 s e0 o)) rfl rfl rfl rfl rfl rfl rfl rfl (tF27a1 Ad W s e0 o x1 hr369) ?_
 rcases qite h with ⟨hc370, h⟩ | ⟨hc370, h⟩
 ·refine zF Ad W (t := 10) (f := 8) rfl (XT.i0_ne_f hc370) ?_
  refine zS Ad W 1 (st' := (9, [vR 11, vI x1], [.int (-1:Int32)], (H1 s e0 o))) rfl ?_
  obtain rfl := Option.some.inj h
  exact QTri.retI rfl rfl
 ·refine zT Ad W (t := 10) (f := 8) rfl (XT.i0_ne_t hc370) ?_
  refine zS Ad W 2 (st' := (12, [vR 11, vI x1], [.int x1, .ref 11], (H1 s e0 o))) rfl ?_
  obtain ⟨r371, hr371, h⟩ := bind_eq_some_iff.mp h
  refine QTri.callP W (a := 11) (as := [.int x1]) (rest := []) (w := (some (.int r371))) (σ₁ := (H1 s e0 o)) rfl rfl rfl rfl rfl rfl rfl rfl (tF32a1 Ad W s e0 o x1 hr371) ?_
  obtain rfl := Option.some.inj h
  exact QTri.retI rfl rfl
/-- evaluations(I)I -/
def F34 (o : Ob) (x1 : Int32) : Option (Int32) :=
 (F27 o x1).bind fun r374 => (if r374 = (0:Int32) then some (-1:Int32) else (aget (f_slide o) x1).bind fun y376 => (if y376 < (1:Int32) then some (0:Int32) else (qdiv (f_n o) y376).bind fun y378 => some y378))
theorem tF34 (Ad : QAd n0 ad) (W : QW Z a0) (s : List Int32) (e0 : Ob) (o : Ob) (x1 : Int32) {r : Int32} (h : F34 o x1 = some r) : QTri l Z n0 ad 34 (0, qentry [.ref 1, .int x1] (pMaxL 34), [], (H1 s o e0)) (some (Value.int r)) (H1 s o e0) := by
 unfold F34 at h
 refine zS Ad W 2 (st' := (2, [vR 1, vI x1, none], [.int x1, .ref 1], (H1 s o e0))) rfl ?_
 obtain ⟨r374, hr374, h⟩ := bind_eq_some_iff.mp h
 refine QTri.callP W (a := 1) (as := [.int x1]) (rest := []) (w := (some (.int r374))) (σ₁ := (H1 s o e0)) rfl rfl rfl rfl rfl rfl rfl rfl (tF27 Ad W s e0 o x1 hr374) ?_
 rcases qite h with ⟨hc375, h⟩ | ⟨hc375, h⟩
 ·refine zF Ad W (t := 10) (f := 8) rfl (XT.i0_ne_f hc375) ?_
  refine zS Ad W 1 (st' := (9, [vR 1, vI x1, none], [.int (-1:Int32)], (H1 s o e0))) rfl ?_
  obtain rfl := Option.some.inj h
  exact QTri.retI rfl rfl
 ·refine zT Ad W (t := 10) (f := 8) rfl (XT.i0_ne_t hc375) ?_
  refine zS Ad W 3 (st' := (15, [vR 1, vI x1, none], [.int x1, .ref 3], (H1 s o e0))) rfl ?_
  obtain ⟨y376, hy376, h⟩ := bind_eq_some_iff.mp h
  refine zB Ad W (f := fun y376 => (16, [vR 1, vI x1, none], [.int y376], (H1 s o e0))) rfl hy376 ?_
  refine zS Ad W 3 (st' := (19, [vR 1, vI x1, vI y376], [.int (1:Int32), .int y376], (H1 s o e0))) rfl ?_
  rcases qite h with ⟨hc377, h⟩ | ⟨hc377, h⟩
  ·refine zF Ad W (t := 24) (f := 22) rfl (XT.ii_ge_f hc377) ?_
   refine zS Ad W 1 (st' := (23, [vR 1, vI x1, vI y376], [.int (0:Int32)], (H1 s o e0))) rfl ?_
   obtain rfl := Option.some.inj h
   exact QTri.retI rfl rfl
  ·refine zT Ad W (t := 24) (f := 22) rfl (XT.ii_ge_t hc377) ?_
   refine zS Ad W 3 (st' := (29, [vR 1, vI x1, vI y376], [.int y376, .int (f_n o)], (H1 s o e0))) rfl ?_
   obtain ⟨y378, hy378, h⟩ := bind_eq_some_iff.mp h
   refine zB Ad W (f := fun y378 => (30, [vR 1, vI x1, vI y376], [.int y378], (H1 s o e0))) rfl hy378 ?_
   obtain rfl := Option.some.inj h
   exact QTri.retI rfl rfl
theorem tF34a1 (Ad : QAd n0 ad) (W : QW Z a0) (s : List Int32) (e0 : Ob) (o : Ob) (x1 : Int32) {r : Int32} (h : F34 o x1 = some r) : QTri l Z n0 ad 34 (0, qentry [.ref 11, .int x1] (pMaxL 34), [], (H1 s e0 o)) (some (Value.int r)) (H1 s e0 o) := by
 unfold F34 at h
 refine zS Ad W 2 (st' := (2, [vR 11, vI x1, none], [.int x1, .ref 11], (H1 s e0 o))) rfl ?_
 obtain ⟨r380, hr380, h⟩ := bind_eq_some_iff.mp h
 refine QTri.callP W (a := 11) (as := [.int x1]) (rest := []) (w := (some (.int r380))) (σ₁ := (H1 s e0 o)) rfl rfl rfl rfl rfl rfl rfl rfl (tF27a1 Ad W s e0 o x1 hr380) ?_
 rcases qite h with ⟨hc381, h⟩ | ⟨hc381, h⟩
 ·refine zF Ad W (t := 10) (f := 8) rfl (XT.i0_ne_f hc381) ?_
  refine zS Ad W 1 (st' := (9, [vR 11, vI x1, none], [.int (-1:Int32)], (H1 s e0 o))) rfl ?_
  obtain rfl := Option.some.inj h
  exact QTri.retI rfl rfl
 ·refine zT Ad W (t := 10) (f := 8) rfl (XT.i0_ne_t hc381) ?_
  refine zS Ad W 3 (st' := (15, [vR 11, vI x1, none], [.int x1, .ref 13], (H1 s e0 o))) rfl ?_
  obtain ⟨y382, hy382, h⟩ := bind_eq_some_iff.mp h
  refine zB Ad W (f := fun y382 => (16, [vR 11, vI x1, none], [.int y382], (H1 s e0 o))) rfl hy382 ?_
  refine zS Ad W 3 (st' := (19, [vR 11, vI x1, vI y382], [.int (1:Int32), .int y382], (H1 s e0 o))) rfl ?_
  rcases qite h with ⟨hc383, h⟩ | ⟨hc383, h⟩
  ·refine zF Ad W (t := 24) (f := 22) rfl (XT.ii_ge_f hc383) ?_
   refine zS Ad W 1 (st' := (23, [vR 11, vI x1, vI y382], [.int (0:Int32)], (H1 s e0 o))) rfl ?_
   obtain rfl := Option.some.inj h
   exact QTri.retI rfl rfl
  ·refine zT Ad W (t := 24) (f := 22) rfl (XT.ii_ge_t hc383) ?_
   refine zS Ad W 3 (st' := (29, [vR 11, vI x1, vI y382], [.int y382, .int (f_n o)], (H1 s e0 o))) rfl ?_
   obtain ⟨y384, hy384, h⟩ := bind_eq_some_iff.mp h
   refine zB Ad W (f := fun y384 => (30, [vR 11, vI x1, vI y382], [.int y384], (H1 s e0 o))) rfl hy384 ?_
   obtain rfl := Option.some.inj h
   exact QTri.retI rfl rfl
theorem tF26a1 (Ad : QAd n0 ad) (W : QW Z a0) (s : List Int32) (e0 : Ob) (o : Ob) (x1 : Int32) {r : Int32} (h : F26 o x1 = some r) : QTri l Z n0 ad 26 (0, qentry [.ref 11, .int x1] (pMaxL 26), [], (H1 s e0 o)) (some (Value.int r)) (H1 s e0 o) := by
 unfold F26 at h
 refine zS Ad W 2 (st' := (2, [vR 11, vI x1], [.int x1, .ref 11], (H1 s e0 o))) rfl ?_
 obtain ⟨r388, hr388, h⟩ := bind_eq_some_iff.mp h
 refine QTri.callP W (a := 11) (as := [.int x1]) (rest := []) (w := (some (.int r388))) (σ₁ := (H1 s e0 o)) rfl rfl rfl rfl rfl rfl rfl rfl (tF27a1 Ad W s e0 o x1 hr388) ?_
 rcases qite h with ⟨hc389, h⟩ | ⟨hc389, h⟩
 ·refine zF Ad W (t := 10) (f := 8) rfl (XT.i0_ne_f hc389) ?_
  refine zS Ad W 1 (st' := (9, [vR 11, vI x1], [.int (-1:Int32)], (H1 s e0 o))) rfl ?_
  obtain rfl := Option.some.inj h
  exact QTri.retI rfl rfl
 ·refine zT Ad W (t := 10) (f := 8) rfl (XT.i0_ne_t hc389) ?_
  refine zS Ad W 3 (st' := (15, [vR 11, vI x1], [.int x1, .ref 12], (H1 s e0 o))) rfl ?_
  obtain ⟨y390, hy390, h⟩ := bind_eq_some_iff.mp h
  refine zB Ad W (f := fun y390 => (16, [vR 11, vI x1], [.int y390], (H1 s e0 o))) rfl hy390 ?_
  obtain rfl := Option.some.inj h
  exact QTri.retI rfl rfl
theorem tF28a1 (Ad : QAd n0 ad) (W : QW Z a0) (s : List Int32) (e0 : Ob) (o : Ob) (x1 : Int32) {r : Int32} (h : F28 o x1 = some r) : QTri l Z n0 ad 28 (0, qentry [.ref 11, .int x1] (pMaxL 28), [], (H1 s e0 o)) (some (Value.int r)) (H1 s e0 o) := by
 unfold F28 at h
 refine zS Ad W 2 (st' := (2, [vR 11, vI x1], [.int x1, .ref 11], (H1 s e0 o))) rfl ?_
 obtain ⟨r394, hr394, h⟩ := bind_eq_some_iff.mp h
 refine QTri.callP W (a := 11) (as := [.int x1]) (rest := []) (w := (some (.int r394))) (σ₁ := (H1 s e0 o)) rfl rfl rfl rfl rfl rfl rfl rfl (tF27a1 Ad W s e0 o x1 hr394) ?_
 rcases qite h with ⟨hc395, h⟩ | ⟨hc395, h⟩
 ·refine zF Ad W (t := 10) (f := 8) rfl (XT.i0_ne_f hc395) ?_
  refine zS Ad W 1 (st' := (9, [vR 11, vI x1], [.int (-1:Int32)], (H1 s e0 o))) rfl ?_
  obtain rfl := Option.some.inj h
  exact QTri.retI rfl rfl
 ·refine zT Ad W (t := 10) (f := 8) rfl (XT.i0_ne_t hc395) ?_
  refine zS Ad W 3 (st' := (15, [vR 11, vI x1], [.int x1, .ref 13], (H1 s e0 o))) rfl ?_
  obtain ⟨y396, hy396, h⟩ := bind_eq_some_iff.mp h
  refine zB Ad W (f := fun y396 => (16, [vR 11, vI x1], [.int y396], (H1 s e0 o))) rfl hy396 ?_
  obtain rfl := Option.some.inj h
  exact QTri.retI rfl rfl
/-- validEntry(I)Z -/
def F36 (x1 : Int32) : Option (Int32) :=
 (if x1 < (0:Int32) then some (0:Int32) else (if (3:Int32) < x1 then some (0:Int32) else some (1:Int32)))
theorem tF36 (Ad : QAd n0 ad) (W : QW Z a0) {a : Nat} {σ : QHeap} (x1 : Int32) {r : Int32} (h : F36 x1 = some r) : QTri l Z n0 ad 36 (0, qentry [.ref a, .int x1] (pMaxL 36), [], σ) (some (Value.int r)) σ := by
 unfold F36 at h
 refine zS Ad W 1 (st' := (1, [vR a, vI x1], [.int x1], σ)) rfl ?_
 rcases qite h with ⟨hc402, h⟩ | ⟨hc402, h⟩
 ·refine zT Ad W (t := 13) (f := 4) rfl (XT.i0_lt_t hc402) ?_
  refine zS Ad W 1 (st' := (14, [vR a, vI x1], [.int (0:Int32)], σ)) rfl ?_
  obtain rfl := Option.some.inj h
  exact QTri.retZ rfl rfl
 ·refine zF Ad W (t := 13) (f := 4) rfl (XT.i0_lt_f hc402) ?_
  refine zS Ad W 2 (st' := (6, [vR a, vI x1], [.int (3:Int32), .int x1], σ)) rfl ?_
  rcases qite h with ⟨hc403, h⟩ | ⟨hc403, h⟩
  ·refine zT Ad W (t := 13) (f := 9) rfl (XT.ii_gt_t hc403) ?_
   refine zS Ad W 1 (st' := (14, [vR a, vI x1], [.int (0:Int32)], σ)) rfl ?_
   obtain rfl := Option.some.inj h
   exact QTri.retZ rfl rfl
  ·refine zF Ad W (t := 13) (f := 9) rfl (XT.ii_gt_f hc403) ?_
   refine zS Ad W 2 (st' := (14, [vR a, vI x1], [.int (1:Int32)], σ)) rfl ?_
   obtain rfl := Option.some.inj h
   exact QTri.retZ rfl rfl
/-- result(II)I -/
def F35 (o : Ob) (x1 : Int32) (x2 : Int32) : Option (Int32) :=
 (F27 o x1).bind fun r400 => (if r400 = (0:Int32) then some (0:Int32) else (F36 x2).bind fun r404 => (if r404 = (0:Int32) then some (0:Int32) else (aget (f_snap o) ((x1 * (4:Int32)) + x2)).bind fun y406 => some y406))
theorem tF35 (Ad : QAd n0 ad) (W : QW Z a0) (s : List Int32) (e0 : Ob) (o : Ob) (x1 : Int32) (x2 : Int32) {r : Int32} (h : F35 o x1 x2 = some r) : QTri l Z n0 ad 35 (0, qentry [.ref 1, .int x1, .int x2] (pMaxL 35), [], (H1 s o e0)) (some (Value.int r)) (H1 s o e0) := by
 unfold F35 at h
 refine zS Ad W 2 (st' := (2, [vR 1, vI x1, vI x2], [.int x1, .ref 1], (H1 s o e0))) rfl ?_
 obtain ⟨r400, hr400, h⟩ := bind_eq_some_iff.mp h
 refine QTri.callP W (a := 1) (as := [.int x1]) (rest := []) (w := (some (.int r400))) (σ₁ := (H1 s o e0)) rfl rfl rfl rfl rfl rfl rfl rfl (tF27 Ad W s e0 o x1 hr400) ?_
 rcases qite h with ⟨hc401, h⟩ | ⟨hc401, h⟩
 ·refine zF Ad W (t := 10) (f := 8) rfl (XT.i0_ne_f hc401) ?_
  refine zS Ad W 1 (st' := (9, [vR 1, vI x1, vI x2], [.int (0:Int32)], (H1 s o e0))) rfl ?_
  obtain rfl := Option.some.inj h
  exact QTri.retI rfl rfl
 ·refine zT Ad W (t := 10) (f := 8) rfl (XT.i0_ne_t hc401) ?_
  refine zS Ad W 2 (st' := (12, [vR 1, vI x1, vI x2], [.int x2, .ref 1], (H1 s o e0))) rfl ?_
  obtain ⟨r404, hr404, h⟩ := bind_eq_some_iff.mp h
  refine QTri.callP W (a := 1) (as := [.int x2]) (rest := []) (w := (some (.int r404))) (σ₁ := (H1 s o e0)) rfl rfl rfl rfl rfl rfl rfl rfl (tF36 Ad W x2 hr404) ?_
  rcases qite h with ⟨hc405, h⟩ | ⟨hc405, h⟩
  ·refine zF Ad W (t := 20) (f := 18) rfl (XT.i0_ne_f hc405) ?_
   refine zS Ad W 1 (st' := (19, [vR 1, vI x1, vI x2], [.int (0:Int32)], (H1 s o e0))) rfl ?_
   obtain rfl := Option.some.inj h
   exact QTri.retI rfl rfl
  ·refine zT Ad W (t := 20) (f := 18) rfl (XT.i0_ne_t hc405) ?_
   refine zS Ad W 7 (st' := (29, [vR 1, vI x1, vI x2], [.int ((x1 * (4:Int32)) + x2), .ref 9], (H1 s o e0))) rfl ?_
   obtain ⟨y406, hy406, h⟩ := bind_eq_some_iff.mp h
   refine zB Ad W (f := fun y406 => (30, [vR 1, vI x1, vI x2], [.int y406], (H1 s o e0))) rfl hy406 ?_
   obtain rfl := Option.some.inj h
   exact QTri.retI rfl rfl
theorem tF35a1 (Ad : QAd n0 ad) (W : QW Z a0) (s : List Int32) (e0 : Ob) (o : Ob) (x1 : Int32) (x2 : Int32) {r : Int32} (h : F35 o x1 x2 = some r) : QTri l Z n0 ad 35 (0, qentry [.ref 11, .int x1, .int x2] (pMaxL 35), [], (H1 s e0 o)) (some (Value.int r)) (H1 s e0 o) := by
 unfold F35 at h
 refine zS Ad W 2 (st' := (2, [vR 11, vI x1, vI x2], [.int x1, .ref 11], (H1 s e0 o))) rfl ?_
 obtain ⟨r408, hr408, h⟩ := bind_eq_some_iff.mp h
 refine QTri.callP W (a := 11) (as := [.int x1]) (rest := []) (w := (some (.int r408))) (σ₁ := (H1 s e0 o)) rfl rfl rfl rfl rfl rfl rfl rfl (tF27a1 Ad W s e0 o x1 hr408) ?_
 rcases qite h with ⟨hc409, h⟩ | ⟨hc409, h⟩
 ·refine zF Ad W (t := 10) (f := 8) rfl (XT.i0_ne_f hc409) ?_
  refine zS Ad W 1 (st' := (9, [vR 11, vI x1, vI x2], [.int (0:Int32)], (H1 s e0 o))) rfl ?_
  obtain rfl := Option.some.inj h
  exact QTri.retI rfl rfl
 ·refine zT Ad W (t := 10) (f := 8) rfl (XT.i0_ne_t hc409) ?_
  refine zS Ad W 2 (st' := (12, [vR 11, vI x1, vI x2], [.int x2, .ref 11], (H1 s e0 o))) rfl ?_
  obtain ⟨r410, hr410, h⟩ := bind_eq_some_iff.mp h
  refine QTri.callP W (a := 11) (as := [.int x2]) (rest := []) (w := (some (.int r410))) (σ₁ := (H1 s e0 o)) rfl rfl rfl rfl rfl rfl rfl rfl (tF36 Ad W x2 hr410) ?_
  rcases qite h with ⟨hc411, h⟩ | ⟨hc411, h⟩
  ·refine zF Ad W (t := 20) (f := 18) rfl (XT.i0_ne_f hc411) ?_
   refine zS Ad W 1 (st' := (19, [vR 11, vI x1, vI x2], [.int (0:Int32)], (H1 s e0 o))) rfl ?_
   obtain rfl := Option.some.inj h
   exact QTri.retI rfl rfl
  ·refine zT Ad W (t := 20) (f := 18) rfl (XT.i0_ne_t hc411) ?_
   refine zS Ad W 7 (st' := (29, [vR 11, vI x1, vI x2], [.int ((x1 * (4:Int32)) + x2), .ref 19], (H1 s e0 o))) rfl ?_
   obtain ⟨y412, hy412, h⟩ := bind_eq_some_iff.mp h
   refine zB Ad W (f := fun y412 => (30, [vR 11, vI x1, vI x2], [.int y412], (H1 s e0 o))) rfl hy412 ?_
   obtain rfl := Option.some.inj h
   exact QTri.retI rfl rfl
theorem tB24_34a1 (Ad : QAd n0 ad) (W : QW Z a0) (s : List Int32) (e0 : Ob) (x4 : Int32) (x5 : Int32) (v : Int32 × Ob) {r : ((Ob)) ⊕ (Int32 × Ob)} {u : Option Value} {τ : QHeap} (h : B24_34 x4 x5 v = some r) (hx0 : ∀ x : Ob, r = .inl x → u = (none : Option Value) ∧ τ = (H1 s x e0)) (hc : ∀ x : Int32 × Ob, r = .inr x → QTri l Z n0 ad 24 (34, [vR 1, none, none, none, vI x4, vI x5, vI x.1], [], (H1 s x.2 e0)) u τ) : QTri l Z n0 ad 24 (34, [vR 1, none, none, none, vI x4, vI x5, vI v.1], [], (H1 s v.2 e0)) u τ := by
 unfold B24_34 at h
 refine zS Ad W 2 (st' := (37, [vR 1, none, none, none, vI x4, vI x5, vI v.1], [.int (4:Int32), .int v.1], (H1 s v.2 e0))) rfl ?_
 rcases qite h with ⟨hc426, h⟩ | ⟨hc426, h⟩
 ·refine zF Ad W (t := 66) (f := 40) rfl (XT.ii_ge_f hc426) ?_
  refine zS Ad W 10 (st' := (58, [vR 1, none, none, none, vI x4, vI x5, vI v.1], [.int (x4 + v.1), .ref 7, .int (x5 + v.1), .ref 10], (H1 s v.2 e0))) rfl ?_
  obtain ⟨y427, hy427, h⟩ := bind_eq_some_iff.mp h
  refine zB Ad W (f := fun y427 => (59, [vR 1, none, none, none, vI x4, vI x5, vI v.1], [.int y427, .int (x5 + v.1), .ref 10], (H1 s v.2 e0))) rfl hy427 ?_
  obtain ⟨y428, hy428, h⟩ := bind_eq_some_iff.mp h
  refine zB Ad W (f := fun y428 => (60, [vR 1, none, none, none, vI x4, vI x5, vI v.1], [], (H1x31 s v.2 e0 y428))) rfl hy428 ?_
  refine zS Ad W 2 (st' := (34, [vR 1, none, none, none, vI x4, vI x5, vI (v.1 + (1:Int32))], [], (H1x31 s v.2 e0 y428))) rfl ?_
  have E429 : ((H1x31 s v.2 e0 y428) : QHeap) = (H1 s (s_reg v.2 y428) e0) := by simp only [fs, H1, H1v, H1x31, s_reg]
  rw [E429]
  obtain rfl := Option.some.inj h
  exact zM [tt,ff,ff,ff,tt,tt,tt] (hc ((v.1 + (1:Int32)), (s_reg v.2 y428)) rfl)
 ·refine zT Ad W (t := 66) (f := 40) rfl (XT.ii_ge_t hc426) ?_
  obtain rfl := Option.some.inj h
  obtain ⟨rfl, rfl⟩ := hx0 v.2 rfl
  exact QTri.ret0 rfl rfl
theorem tF24a1 (Ad : QAd n0 ad) (W : QW Z a0) (s : List Int32) (e0 : Ob) (o : Ob) (x1 : Int32) (x2 : Int32) (x3 : Int32) {r : Ob} (h : F24 o x1 x2 x3 = some r) : QTri l Z n0 ad 24 (0, qentry [.ref 1, .int x1, .int x2, .int x3] (pMaxL 24), [], (H1 s o e0)) (none : Option Value) (H1 s r e0) := by
 unfold F24 at h
 refine zS Ad W 2 (st' := (2, [vR 1, vI x1, vI x2, vI x3, none, none, none], [.int x1, .ref 1], (H1 s o e0))) rfl ?_
 obtain ⟨r421, hr421, h⟩ := bind_eq_some_iff.mp h
 refine QTri.callP W (a := 1) (as := [.int x1]) (rest := []) (w := (some (.int r421))) (σ₁ := (H1 s o e0)) rfl rfl rfl rfl rfl rfl rfl rfl (tF5 Ad W x1 hr421) ?_
 rcases qite h with ⟨hc422, h⟩ | ⟨hc422, h⟩
 ·refine zT Ad W (t := 17) (f := 8) rfl (XT.i0_eq_t hc422) ?_
  obtain rfl := Option.some.inj h
  exact QTri.ret0 rfl rfl
 ·refine zF Ad W (t := 17) (f := 8) rfl (XT.i0_eq_f hc422) ?_
  refine zS Ad W 3 (st' := (11, [vR 1, vI x1, vI x2, vI x3, none, none, none], [.int x3, .int x2, .ref 1], (H1 s o e0))) rfl ?_
  obtain ⟨r423, hr423, h⟩ := bind_eq_some_iff.mp h
  refine QTri.callP W (a := 1) (as := [.int x2, .int x3]) (rest := []) (w := (some (.int r423))) (σ₁ := (H1 s o e0)) rfl rfl rfl rfl rfl rfl rfl rfl (tF13 Ad W x2 x3 hr423) ?_
  rcases qite h with ⟨hc424, h⟩ | ⟨hc424, h⟩
  ·refine zF Ad W (t := 18) (f := 17) rfl (XT.i0_ne_f hc424) ?_
   obtain rfl := Option.some.inj h
   exact QTri.ret0 rfl rfl
  ·refine zT Ad W (t := 18) (f := 17) rfl (XT.i0_ne_t hc424) ?_
   refine zS Ad W 3 (st' := (21, [vR 1, vI x1, vI x2, vI x3, none, none, none], [.int x3, .int x2, .ref 1], (H1 s o e0))) rfl ?_
   obtain ⟨r425, hr425, h⟩ := bind_eq_some_iff.mp h
   refine QTri.callP W (a := 1) (as := [.int x2, .int x3]) (rest := []) (w := (some (.int r425))) (σ₁ := (H1 s o e0)) rfl rfl rfl rfl rfl rfl rfl rfl (tF15 Ad W x2 x3 hr425) ?_
   refine zS Ad W 5 (st' := (31, [vR 1, vI x1, vI x2, vI x3, vI r425, vI (x1 * (4:Int32)), none], [], (H1 s o e0))) rfl ?_
   refine zS Ad W 2 (st' := (34, [vR 1, vI x1, vI x2, vI x3, vI r425, vI (x1 * (4:Int32)), vI (0:Int32)], [], (H1 s o e0))) rfl ?_
   obtain ⟨e430, he430, h⟩ := bind_eq_some_iff.mp h
   refine zM [tt,ff,ff,ff,tt,tt,tt] (loopN_tri (B := B24_34 r425 (x1 * (4:Int32))) (T := fun lv431 => QTri l Z n0 ad 24 (34, [vR 1, none, none, none, vI r425, vI (x1 * (4:Int32)), vI lv431.1], [], (H1 s lv431.2 e0)) (none : Option Value) (H1 s r e0)) (KE := fun e430a => (none : Option Value) = (none : Option Value) ∧ (H1 s r e0) = (H1 s e430a e0)) (fun lv431 r hB hE hC => tB24_34a1 Ad W s e0 r425 (x1 * (4:Int32)) lv431 hB (fun x q => hE _ q) (fun x q => hC x q)) qN ((0:Int32), o) e430 he430 ?_)
   obtain rfl := Option.some.inj h
   exact ⟨rfl, rfl⟩
theorem tB16_25a1 (Ad : QAd n0 ad) (W : QW Z a0) (s : List Int32) (e0 : Ob) (x2 : Int32) (x3 : Int32) (v : Int32 × Ob) {r : ((Ob)) ⊕ (Int32 × Ob)} {u : Option Value} {τ : QHeap} (h : B16_25 x2 x3 v = some r) (hx0 : ∀ x : Ob, r = .inl x → u = (none : Option Value) ∧ τ = (H1 s x e0)) (hc : ∀ x : Int32 × Ob, r = .inr x → QTri l Z n0 ad 16 (25, [vR 1, none, vI x2, vI x3, vI x.1], [], (H1 s x.2 e0)) u τ) : QTri l Z n0 ad 16 (25, [vR 1, none, vI x2, vI x3, vI v.1], [], (H1 s v.2 e0)) u τ := by
 unfold B16_25 at h
 refine zS Ad W 2 (st' := (28, [vR 1, none, vI x2, vI x3, vI v.1], [.int (4:Int32), .int v.1], (H1 s v.2 e0))) rfl ?_
 rcases qite h with ⟨hc437, h⟩ | ⟨hc437, h⟩
 ·refine zF Ad W (t := 57) (f := 31) rfl (XT.ii_ge_f hc437) ?_
  refine zS Ad W 12 (st' := (49, [vR 1, none, vI x2, vI x3, vI v.1], [.int ((x2 * (4:Int32)) + v.1), .ref 8, .int (x3 + v.1), .ref 10], (H1 s v.2 e0))) rfl ?_
  obtain ⟨y438, hy438, h⟩ := bind_eq_some_iff.mp h
  refine zB Ad W (f := fun y438 => (50, [vR 1, none, vI x2, vI x3, vI v.1], [.int y438, .int (x3 + v.1), .ref 10], (H1 s v.2 e0))) rfl hy438 ?_
  obtain ⟨y439, hy439, h⟩ := bind_eq_some_iff.mp h
  refine zB Ad W (f := fun y439 => (51, [vR 1, none, vI x2, vI x3, vI v.1], [], (H1x31 s v.2 e0 y439))) rfl hy439 ?_
  refine zS Ad W 2 (st' := (25, [vR 1, none, vI x2, vI x3, vI (v.1 + (1:Int32))], [], (H1x31 s v.2 e0 y439))) rfl ?_
  have E440 : ((H1x31 s v.2 e0 y439) : QHeap) = (H1 s (s_reg v.2 y439) e0) := by simp only [fs, H1, H1v, H1x31, s_reg]
  rw [E440]
  obtain rfl := Option.some.inj h
  exact zM [tt,ff,tt,tt,tt] (hc ((v.1 + (1:Int32)), (s_reg v.2 y439)) rfl)
 ·refine zT Ad W (t := 57) (f := 31) rfl (XT.ii_ge_t hc437) ?_
  obtain rfl := Option.some.inj h
  obtain ⟨rfl, rfl⟩ := hx0 v.2 rfl
  exact QTri.ret0 rfl rfl
theorem tF16a1 (Ad : QAd n0 ad) (W : QW Z a0) (s : List Int32) (e0 : Ob) (o : Ob) (x1 : Int32) (x2 : Int32) {r : Ob} (h : F16 o x1 x2 = some r) : QTri l Z n0 ad 16 (0, qentry [.ref 1, .int x1, .int x2] (pMaxL 16), [], (H1 s o e0)) (none : Option Value) (H1 s r e0) := by
 unfold F16 at h
 refine zS Ad W 2 (st' := (2, [vR 1, vI x1, vI x2, none, none], [.int x1, .ref 1], (H1 s o e0))) rfl ?_
 obtain ⟨r433, hr433, h⟩ := bind_eq_some_iff.mp h
 refine QTri.callP W (a := 1) (as := [.int x1]) (rest := []) (w := (some (.int r433))) (σ₁ := (H1 s o e0)) rfl rfl rfl rfl rfl rfl rfl rfl (tF5 Ad W x1 hr433) ?_
 rcases qite h with ⟨hc434, h⟩ | ⟨hc434, h⟩
 ·refine zT Ad W (t := 17) (f := 8) rfl (XT.i0_eq_t hc434) ?_
  obtain rfl := Option.some.inj h
  exact QTri.ret0 rfl rfl
 ·refine zF Ad W (t := 17) (f := 8) rfl (XT.i0_eq_f hc434) ?_
  refine zS Ad W 1 (st' := (9, [vR 1, vI x1, vI x2, none, none], [.int x2], (H1 s o e0))) rfl ?_
  rcases qite h with ⟨hc435, h⟩ | ⟨hc435, h⟩
  ·refine zT Ad W (t := 17) (f := 12) rfl (XT.i0_lt_t hc435) ?_
   obtain rfl := Option.some.inj h
   exact QTri.ret0 rfl rfl
  ·refine zF Ad W (t := 17) (f := 12) rfl (XT.i0_lt_f hc435) ?_
   refine zS Ad W 2 (st' := (14, [vR 1, vI x1, vI x2, none, none], [.int (4:Int32), .int x2], (H1 s o e0))) rfl ?_
   rcases qite h with ⟨hc436, h⟩ | ⟨hc436, h⟩
   ·refine zT Ad W (t := 18) (f := 17) rfl (XT.ii_lt_t hc436) ?_
    refine zS Ad W 6 (st' := (25, [vR 1, vI x1, vI x2, vI (x1 * (4:Int32)), vI (0:Int32)], [], (H1 s o e0))) rfl ?_
    obtain ⟨e441, he441, h⟩ := bind_eq_some_iff.mp h
    refine zM [tt,ff,tt,tt,tt] (loopN_tri (B := B16_25 x2 (x1 * (4:Int32))) (T := fun lv442 => QTri l Z n0 ad 16 (25, [vR 1, none, vI x2, vI (x1 * (4:Int32)), vI lv442.1], [], (H1 s lv442.2 e0)) (none : Option Value) (H1 s r e0)) (KE := fun e441a => (none : Option Value) = (none : Option Value) ∧ (H1 s r e0) = (H1 s e441a e0)) (fun lv442 r hB hE hC => tB16_25a1 Ad W s e0 x2 (x1 * (4:Int32)) lv442 hB (fun x q => hE _ q) (fun x q => hC x q)) qN ((0:Int32), o) e441 he441 ?_)
    obtain rfl := Option.some.inj h
    exact ⟨rfl, rfl⟩
   ·refine zF Ad W (t := 18) (f := 17) rfl (XT.ii_lt_f hc436) ?_
    obtain rfl := Option.some.inj h
    exact QTri.ret0 rfl rfl
theorem tF17a1 (Ad : QAd n0 ad) (W : QW Z a0) (s : List Int32) (e0 : Ob) (o : Ob) (x1 : Int32) (x2 : Int32) (x3 : Int32) {r : Ob} (h : F17 o x1 x2 x3 = some r) : QTri l Z n0 ad 17 (0, qentry [.ref 1, .int x1, .int x2, .int x3] (pMaxL 17), [], (H1 s o e0)) (none : Option Value) (H1 s r e0) := by
 unfold F17 at h
 refine zS Ad W 2 (st' := (2, [vR 1, vI x1, vI x2, vI x3, none, none, none, none, none, none, none, none, none, none, none], [.int x1, .ref 1], (H1 s o e0))) rfl ?_
 obtain ⟨r444, hr444, h⟩ := bind_eq_some_iff.mp h
 refine QTri.callP W (a := 1) (as := [.int x1]) (rest := []) (w := (some (.int r444))) (σ₁ := (H1 s o e0)) rfl rfl rfl rfl rfl rfl rfl rfl (tF5 Ad W x1 hr444) ?_
 rcases qite h with ⟨hc445, h⟩ | ⟨hc445, h⟩
 ·refine zT Ad W (t := 24) (f := 8) rfl (XT.i0_eq_t hc445) ?_
  obtain rfl := Option.some.inj h
  exact QTri.ret0 rfl rfl
 ·refine zF Ad W (t := 24) (f := 8) rfl (XT.i0_eq_f hc445) ?_
  refine zS Ad W 2 (st' := (10, [vR 1, vI x1, vI x2, vI x3, none, none, none, none, none, none, none, none, none, none, none], [.int x2, .ref 1], (H1 s o e0))) rfl ?_
  obtain ⟨r446, hr446, h⟩ := bind_eq_some_iff.mp h
  refine QTri.callP W (a := 1) (as := [.int x2]) (rest := []) (w := (some (.int r446))) (σ₁ := (H1 s o e0)) rfl rfl rfl rfl rfl rfl rfl rfl (tF5 Ad W x2 hr446) ?_
  rcases qite h with ⟨hc447, h⟩ | ⟨hc447, h⟩
  ·refine zT Ad W (t := 24) (f := 16) rfl (XT.i0_eq_t hc447) ?_
   obtain rfl := Option.some.inj h
   exact QTri.ret0 rfl rfl
  ·refine zF Ad W (t := 24) (f := 16) rfl (XT.i0_eq_f hc447) ?_
   refine zS Ad W 2 (st' := (18, [vR 1, vI x1, vI x2, vI x3, none, none, none, none, none, none, none, none, none, none, none], [.int x3, .ref 1], (H1 s o e0))) rfl ?_
   obtain ⟨r448, hr448, h⟩ := bind_eq_some_iff.mp h
   refine QTri.callP W (a := 1) (as := [.int x3]) (rest := []) (w := (some (.int r448))) (σ₁ := (H1 s o e0)) rfl rfl rfl rfl rfl rfl rfl rfl (tF5 Ad W x3 hr448) ?_
   rcases qite h with ⟨hc449, h⟩ | ⟨hc449, h⟩
   ·refine zF Ad W (t := 25) (f := 24) rfl (XT.i0_ne_f hc449) ?_
    obtain rfl := Option.some.inj h
    exact QTri.ret0 rfl rfl
   ·refine zT Ad W (t := 25) (f := 24) rfl (XT.i0_ne_t hc449) ?_
    refine zS Ad W 8 (st' := (35, [vR 1, vI x1, vI x2, vI x3, vI (x2 * (4:Int32)), vI (x3 * (4:Int32)), none, none, none, none, none, none, none, none, none], [], (H1 s o e0))) rfl ?_
    refine zS Ad W 3 (st' := (41, [vR 1, vI x1, vI x2, vI x3, vI (x2 * (4:Int32)), vI (x3 * (4:Int32)), none, none, none, none, none, none, none, none, none], [.int (x2 * (4:Int32)), .ref 10], (H1 s o e0))) rfl ?_
    obtain ⟨y450, hy450, h⟩ := bind_eq_some_iff.mp h
    refine zB Ad W (f := fun y450 => (42, [vR 1, vI x1, vI x2, vI x3, vI (x2 * (4:Int32)), vI (x3 * (4:Int32)), none, none, none, none, none, none, none, none, none], [.int y450], (H1 s o e0))) rfl hy450 ?_
    refine zS Ad W 6 (st' := (52, [vR 1, vI x1, vI x2, vI x3, vI (x2 * (4:Int32)), vI (x3 * (4:Int32)), vI y450, none, none, none, none, none, none, none, none], [.int ((x2 * (4:Int32)) + (1:Int32)), .ref 10], (H1 s o e0))) rfl ?_
    obtain ⟨y451, hy451, h⟩ := bind_eq_some_iff.mp h
    refine zB Ad W (f := fun y451 => (53, [vR 1, vI x1, vI x2, vI x3, vI (x2 * (4:Int32)), vI (x3 * (4:Int32)), vI y450, none, none, none, none, none, none, none, none], [.int y451], (H1 s o e0))) rfl hy451 ?_
    refine zS Ad W 6 (st' := (63, [vR 1, vI x1, vI x2, vI x3, vI (x2 * (4:Int32)), vI (x3 * (4:Int32)), vI y450, vI y451, none, none, none, none, none, none, none], [.int ((x2 * (4:Int32)) + (2:Int32)), .ref 10], (H1 s o e0))) rfl ?_
    obtain ⟨y452, hy452, h⟩ := bind_eq_some_iff.mp h
    refine zB Ad W (f := fun y452 => (64, [vR 1, vI x1, vI x2, vI x3, vI (x2 * (4:Int32)), vI (x3 * (4:Int32)), vI y450, vI y451, none, none, none, none, none, none, none], [.int y452], (H1 s o e0))) rfl hy452 ?_
    refine zS Ad W 6 (st' := (74, [vR 1, vI x1, vI x2, vI x3, vI (x2 * (4:Int32)), vI (x3 * (4:Int32)), vI y450, vI y451, vI y452, none, none, none, none, none, none], [.int ((x2 * (4:Int32)) + (3:Int32)), .ref 10], (H1 s o e0))) rfl ?_
    obtain ⟨y453, hy453, h⟩ := bind_eq_some_iff.mp h
    refine zB Ad W (f := fun y453 => (75, [vR 1, vI x1, vI x2, vI x3, vI (x2 * (4:Int32)), vI (x3 * (4:Int32)), vI y450, vI y451, vI y452, none, none, none, none, none, none], [.int y453], (H1 s o e0))) rfl hy453 ?_
    refine zS Ad W 4 (st' := (83, [vR 1, vI x1, vI x2, vI x3, vI (x2 * (4:Int32)), vI (x3 * (4:Int32)), vI y450, vI y451, vI y452, vI y453, none, none, none, none, none], [.int (x3 * (4:Int32)), .ref 10], (H1 s o e0))) rfl ?_
    obtain ⟨y454, hy454, h⟩ := bind_eq_some_iff.mp h
    refine zB Ad W (f := fun y454 => (84, [vR 1, vI x1, vI x2, vI x3, vI (x2 * (4:Int32)), vI (x3 * (4:Int32)), vI y450, vI y451, vI y452, vI y453, none, none, none, none, none], [.int y454], (H1 s o e0))) rfl hy454 ?_
    refine zS Ad W 6 (st' := (94, [vR 1, vI x1, vI x2, vI x3, vI (x2 * (4:Int32)), vI (x3 * (4:Int32)), vI y450, vI y451, vI y452, vI y453, vI y454, none, none, none, none], [.int ((x3 * (4:Int32)) + (1:Int32)), .ref 10], (H1 s o e0))) rfl ?_
    obtain ⟨y455, hy455, h⟩ := bind_eq_some_iff.mp h
    refine zB Ad W (f := fun y455 => (95, [vR 1, vI x1, vI x2, vI x3, vI (x2 * (4:Int32)), vI (x3 * (4:Int32)), vI y450, vI y451, vI y452, vI y453, vI y454, none, none, none, none], [.int y455], (H1 s o e0))) rfl hy455 ?_
    refine zS Ad W 6 (st' := (105, [vR 1, vI x1, vI x2, vI x3, vI (x2 * (4:Int32)), vI (x3 * (4:Int32)), vI y450, vI y451, vI y452, vI y453, vI y454, vI y455, none, none, none], [.int ((x3 * (4:Int32)) + (2:Int32)), .ref 10], (H1 s o e0))) rfl ?_
    obtain ⟨y456, hy456, h⟩ := bind_eq_some_iff.mp h
    refine zB Ad W (f := fun y456 => (106, [vR 1, vI x1, vI x2, vI x3, vI (x2 * (4:Int32)), vI (x3 * (4:Int32)), vI y450, vI y451, vI y452, vI y453, vI y454, vI y455, none, none, none], [.int y456], (H1 s o e0))) rfl hy456 ?_
    refine zS Ad W 6 (st' := (116, [vR 1, vI x1, vI x2, vI x3, vI (x2 * (4:Int32)), vI (x3 * (4:Int32)), vI y450, vI y451, vI y452, vI y453, vI y454, vI y455, vI y456, none, none], [.int ((x3 * (4:Int32)) + (3:Int32)), .ref 10], (H1 s o e0))) rfl ?_
    obtain ⟨y457, hy457, h⟩ := bind_eq_some_iff.mp h
    refine zB Ad W (f := fun y457 => (117, [vR 1, vI x1, vI x2, vI x3, vI (x2 * (4:Int32)), vI (x3 * (4:Int32)), vI y450, vI y451, vI y452, vI y453, vI y454, vI y455, vI y456, none, none], [.int y457], (H1 s o e0))) rfl hy457 ?_
    refine zS Ad W 5 (st' := (124, [vR 1, vI x1, vI x2, vI x3, vI (x2 * (4:Int32)), vI (x3 * (4:Int32)), vI y450, vI y451, vI y452, vI y453, vI y454, vI y455, vI y456, vI y457, vI (x1 * (4:Int32))], [], (H1 s o e0))) rfl ?_
    refine zS Ad W 10 (st' := (141, [vR 1, vI x1, vI x2, vI x3, vI (x2 * (4:Int32)), vI (x3 * (4:Int32)), vI y450, vI y451, vI y452, vI y453, vI y454, vI y455, vI y456, vI y457, vI (x1 * (4:Int32))], [.int ((y450 * y454) + (y451 * y456)), .int (x1 * (4:Int32)), .ref 10], (H1 s o e0))) rfl ?_
    obtain ⟨y458, hy458, h⟩ := bind_eq_some_iff.mp h
    refine zB Ad W (f := fun y458 => (142, [vR 1, vI x1, vI x2, vI x3, vI (x2 * (4:Int32)), vI (x3 * (4:Int32)), vI y450, vI y451, vI y452, vI y453, vI y454, vI y455, vI y456, vI y457, vI (x1 * (4:Int32))], [], (H1x31 s o e0 y458))) rfl hy458 ?_
    refine zS Ad W 12 (st' := (161, [vR 1, vI x1, vI x2, vI x3, vI (x2 * (4:Int32)), vI (x3 * (4:Int32)), vI y450, vI y451, vI y452, vI y453, vI y454, vI y455, vI y456, vI y457, vI (x1 * (4:Int32))], [.int ((y450 * y455) + (y451 * y457)), .int ((x1 * (4:Int32)) + (1:Int32)), .ref 10], (H1x31 s o e0 y458))) rfl ?_
    obtain ⟨y459, hy459, h⟩ := bind_eq_some_iff.mp h
    refine zB Ad W (f := fun y459 => (162, [vR 1, vI x1, vI x2, vI x3, vI (x2 * (4:Int32)), vI (x3 * (4:Int32)), vI y450, vI y451, vI y452, vI y453, vI y454, vI y455, vI y456, vI y457, vI (x1 * (4:Int32))], [], (H1x31 s o e0 y459))) rfl hy459 ?_
    refine zS Ad W 12 (st' := (181, [vR 1, vI x1, vI x2, vI x3, vI (x2 * (4:Int32)), vI (x3 * (4:Int32)), vI y450, vI y451, vI y452, vI y453, vI y454, vI y455, vI y456, vI y457, vI (x1 * (4:Int32))], [.int ((y452 * y454) + (y453 * y456)), .int ((x1 * (4:Int32)) + (2:Int32)), .ref 10], (H1x31 s o e0 y459))) rfl ?_
    obtain ⟨y460, hy460, h⟩ := bind_eq_some_iff.mp h
    refine zB Ad W (f := fun y460 => (182, [vR 1, vI x1, vI x2, vI x3, vI (x2 * (4:Int32)), vI (x3 * (4:Int32)), vI y450, vI y451, vI y452, vI y453, vI y454, vI y455, vI y456, vI y457, vI (x1 * (4:Int32))], [], (H1x31 s o e0 y460))) rfl hy460 ?_
    refine zS Ad W 12 (st' := (201, [vR 1, vI x1, vI x2, vI x3, vI (x2 * (4:Int32)), vI (x3 * (4:Int32)), vI y450, vI y451, vI y452, vI y453, vI y454, vI y455, vI y456, vI y457, vI (x1 * (4:Int32))], [.int ((y452 * y455) + (y453 * y457)), .int ((x1 * (4:Int32)) + (3:Int32)), .ref 10], (H1x31 s o e0 y460))) rfl ?_
    obtain ⟨y461, hy461, h⟩ := bind_eq_some_iff.mp h
    refine zB Ad W (f := fun y461 => (202, [vR 1, vI x1, vI x2, vI x3, vI (x2 * (4:Int32)), vI (x3 * (4:Int32)), vI y450, vI y451, vI y452, vI y453, vI y454, vI y455, vI y456, vI y457, vI (x1 * (4:Int32))], [], (H1x31 s o e0 y461))) rfl hy461 ?_
    have E462 : ((H1x31 s o e0 y461) : QHeap) = (H1 s (s_reg o y461) e0) := by simp only [fs, H1, H1v, H1x31, s_reg]
    rw [E462]
    obtain rfl := Option.some.inj h
    exact QTri.ret0 rfl rfl
theorem tJ23_28a1 (Ad : QAd n0 ad) (W : QW Z a0) (s : List Int32) (e0 : Ob) (o : Ob) (x1 : Int32) (x2 : Int32) {r : Ob} (h : J23_28 o x1 x2 = some r) : QTri l Z n0 ad 23 (28, [vR 1, vI x1, vI x2, none], [], (H1 s o e0)) (none : Option Value) (H1 s r e0) := by
 unfold J23_28 at h
 refine zS Ad W 3 (st' := (31, [vR 1, vI x1, vI x2, none], [.int x1, .int (2:Int32), .ref 1], (H1 s o e0))) rfl ?_
 obtain ⟨r443, hr443, h⟩ := bind_eq_some_iff.mp h
 refine QTri.callP W (a := 1) (as := [.int (2:Int32), .int x1]) (rest := []) (w := none) (σ₁ := (H1 s r443 e0)) rfl rfl rfl rfl rfl rfl rfl rfl (tF16a1 Ad W s e0 o (2:Int32) x1 hr443) ?_
 refine zS Ad W 4 (st' := (38, [vR 1, vI x1, vI x2, none], [.int (2:Int32), .int (1:Int32), .int x2, .ref 1], (H1 s r443 e0))) rfl ?_
 obtain ⟨r463, hr463, h⟩ := bind_eq_some_iff.mp h
 refine QTri.callP W (a := 1) (as := [.int x2, .int (1:Int32), .int (2:Int32)]) (rest := []) (w := none) (σ₁ := (H1 s r463 e0)) rfl rfl rfl rfl rfl rfl rfl rfl (tF17a1 Ad W s e0 r443 x2 (1:Int32) (2:Int32) hr463) ?_
 obtain rfl := Option.some.inj h
 exact QTri.ret0 rfl rfl
theorem tF23a1 (Ad : QAd n0 ad) (W : QW Z a0) (s : List Int32) (e0 : Ob) (o : Ob) (x1 : Int32) (x2 : Int32) {r : Ob} (h : F23 o x1 x2 = some r) : QTri l Z n0 ad 23 (0, qentry [.ref 1, .int x1, .int x2] (pMaxL 23), [], (H1 s o e0)) (none : Option Value) (H1 s r e0) := by
 unfold F23 at h
 refine zS Ad W 3 (st' := (5, [vR 1, vI x1, vI x2, none], [.int x1, .ref 4], (H1 s o e0))) rfl ?_
 obtain ⟨y419, hy419, h⟩ := bind_eq_some_iff.mp h
 refine zB Ad W (f := fun y419 => (6, [vR 1, vI x1, vI x2, none], [.int y419], (H1 s o e0))) rfl hy419 ?_
 refine zS Ad W 2 (st' := (8, [vR 1, vI x1, vI x2, vI y419], [.int y419], (H1 s o e0))) rfl ?_
 rcases qite h with ⟨hc420, h⟩ | ⟨hc420, h⟩
 ·refine zF Ad W (t := 23) (f := 11) rfl (XT.i0_le_f hc420) ?_
  refine zS Ad W 6 (st' := (17, [vR 1, vI x1, vI x2, vI y419], [.int (y419 - (1:Int32)), .int x1, .int (1:Int32), .ref 1], (H1 s o e0))) rfl ?_
  obtain ⟨r432, hr432, h⟩ := bind_eq_some_iff.mp h
  refine QTri.callP W (a := 1) (as := [.int (1:Int32), .int x1, .int (y419 - (1:Int32))]) (rest := []) (w := none) (σ₁ := (H1 s r432 e0)) rfl rfl rfl rfl rfl rfl rfl rfl (tF24a1 Ad W s e0 o (1:Int32) x1 (y419 - (1:Int32)) hr432) ?_
  refine zS Ad W 1 (st' := (28, [vR 1, vI x1, vI x2, vI y419], [], (H1 s r432 e0))) rfl ?_
  exact zM [tt,tt,tt,ff] (tJ23_28a1 Ad W s e0 r432 x1 x2 h)
 ·refine zT Ad W (t := 23) (f := 11) rfl (XT.i0_le_t hc420) ?_
  refine zS Ad W 2 (st' := (25, [vR 1, vI x1, vI x2, vI y419], [.int (1:Int32), .ref 1], (H1 s o e0))) rfl ?_
  obtain ⟨r464, hr464, h⟩ := bind_eq_some_iff.mp h
  refine QTri.callP W (a := 1) (as := [.int (1:Int32)]) (rest := []) (w := none) (σ₁ := (H1 s r464 e0)) rfl rfl rfl rfl rfl rfl rfl rfl (tF3a2 Ad W s e0 o (1:Int32) hr464) ?_
  exact zM [tt,tt,tt,ff] (tJ23_28a1 Ad W s e0 r464 x1 x2 h)
/-- regEntry(II)I -/
def F38 (o : Ob) (x1 : Int32) (x2 : Int32) : Option (Int32) :=
 (F5 x1).bind fun r466 => (if r466 = (0:Int32) then some (0:Int32) else (F36 x2).bind fun r468 => (if r468 = (0:Int32) then some (0:Int32) else (aget (f_reg o) ((x1 * (4:Int32)) + x2)).bind fun y470 => some y470))
theorem tF38 (Ad : QAd n0 ad) (W : QW Z a0) (s : List Int32) (e0 : Ob) (o : Ob) (x1 : Int32) (x2 : Int32) {r : Int32} (h : F38 o x1 x2 = some r) : QTri l Z n0 ad 38 (0, qentry [.ref 1, .int x1, .int x2] (pMaxL 38), [], (H1 s o e0)) (some (Value.int r)) (H1 s o e0) := by
 unfold F38 at h
 refine zS Ad W 2 (st' := (2, [vR 1, vI x1, vI x2], [.int x1, .ref 1], (H1 s o e0))) rfl ?_
 obtain ⟨r466, hr466, h⟩ := bind_eq_some_iff.mp h
 refine QTri.callP W (a := 1) (as := [.int x1]) (rest := []) (w := (some (.int r466))) (σ₁ := (H1 s o e0)) rfl rfl rfl rfl rfl rfl rfl rfl (tF5 Ad W x1 hr466) ?_
 rcases qite h with ⟨hc467, h⟩ | ⟨hc467, h⟩
 ·refine zT Ad W (t := 16) (f := 8) rfl (XT.i0_eq_t hc467) ?_
  refine zS Ad W 1 (st' := (17, [vR 1, vI x1, vI x2], [.int (0:Int32)], (H1 s o e0))) rfl ?_
  obtain rfl := Option.some.inj h
  exact QTri.retI rfl rfl
 ·refine zF Ad W (t := 16) (f := 8) rfl (XT.i0_eq_f hc467) ?_
  refine zS Ad W 2 (st' := (10, [vR 1, vI x1, vI x2], [.int x2, .ref 1], (H1 s o e0))) rfl ?_
  obtain ⟨r468, hr468, h⟩ := bind_eq_some_iff.mp h
  refine QTri.callP W (a := 1) (as := [.int x2]) (rest := []) (w := (some (.int r468))) (σ₁ := (H1 s o e0)) rfl rfl rfl rfl rfl rfl rfl rfl (tF36 Ad W x2 hr468) ?_
  rcases qite h with ⟨hc469, h⟩ | ⟨hc469, h⟩
  ·refine zF Ad W (t := 18) (f := 16) rfl (XT.i0_ne_f hc469) ?_
   refine zS Ad W 1 (st' := (17, [vR 1, vI x1, vI x2], [.int (0:Int32)], (H1 s o e0))) rfl ?_
   obtain rfl := Option.some.inj h
   exact QTri.retI rfl rfl
  ·refine zT Ad W (t := 18) (f := 16) rfl (XT.i0_ne_t hc469) ?_
   refine zS Ad W 7 (st' := (27, [vR 1, vI x1, vI x2], [.int ((x1 * (4:Int32)) + x2), .ref 10], (H1 s o e0))) rfl ?_
   obtain ⟨y470, hy470, h⟩ := bind_eq_some_iff.mp h
   refine zB Ad W (f := fun y470 => (28, [vR 1, vI x1, vI x2], [.int y470], (H1 s o e0))) rfl hy470 ?_
   obtain rfl := Option.some.inj h
   exact QTri.retI rfl rfl
/-- liveResult(II)I -/
def F37 (o : Ob) (x1 : Int32) (x2 : Int32) : Option (Int32 × Ob) :=
 (F27 o x1).bind fun r415 => (if r415 = (0:Int32) then some ((0:Int32), o) else (F36 x2).bind fun r417 => (if r417 = (0:Int32) then some ((0:Int32), o) else (F23 o x1 (3:Int32)).bind fun r465 => (F38 r465 (3:Int32) x2).bind fun r471 => some (r471, r465)))
theorem tF37 (Ad : QAd n0 ad) (W : QW Z a0) (s : List Int32) (e0 : Ob) (o : Ob) (x1 : Int32) (x2 : Int32) {r : Int32 × Ob} (h : F37 o x1 x2 = some r) : QTri l Z n0 ad 37 (0, qentry [.ref 1, .int x1, .int x2] (pMaxL 37), [], (H1 s o e0)) (some (Value.int r.1)) (H1 s r.2 e0) := by
 unfold F37 at h
 refine zS Ad W 2 (st' := (2, [vR 1, vI x1, vI x2], [.int x1, .ref 1], (H1 s o e0))) rfl ?_
 obtain ⟨r415, hr415, h⟩ := bind_eq_some_iff.mp h
 refine QTri.callP W (a := 1) (as := [.int x1]) (rest := []) (w := (some (.int r415))) (σ₁ := (H1 s o e0)) rfl rfl rfl rfl rfl rfl rfl rfl (tF27 Ad W s e0 o x1 hr415) ?_
 rcases qite h with ⟨hc416, h⟩ | ⟨hc416, h⟩
 ·refine zF Ad W (t := 10) (f := 8) rfl (XT.i0_ne_f hc416) ?_
  refine zS Ad W 1 (st' := (9, [vR 1, vI x1, vI x2], [.int (0:Int32)], (H1 s o e0))) rfl ?_
  obtain rfl := Option.some.inj h
  exact QTri.retI rfl rfl
 ·refine zT Ad W (t := 10) (f := 8) rfl (XT.i0_ne_t hc416) ?_
  refine zS Ad W 2 (st' := (12, [vR 1, vI x1, vI x2], [.int x2, .ref 1], (H1 s o e0))) rfl ?_
  obtain ⟨r417, hr417, h⟩ := bind_eq_some_iff.mp h
  refine QTri.callP W (a := 1) (as := [.int x2]) (rest := []) (w := (some (.int r417))) (σ₁ := (H1 s o e0)) rfl rfl rfl rfl rfl rfl rfl rfl (tF36 Ad W x2 hr417) ?_
  rcases qite h with ⟨hc418, h⟩ | ⟨hc418, h⟩
  ·refine zF Ad W (t := 20) (f := 18) rfl (XT.i0_ne_f hc418) ?_
   refine zS Ad W 1 (st' := (19, [vR 1, vI x1, vI x2], [.int (0:Int32)], (H1 s o e0))) rfl ?_
   obtain rfl := Option.some.inj h
   exact QTri.retI rfl rfl
  ·refine zT Ad W (t := 20) (f := 18) rfl (XT.i0_ne_t hc418) ?_
   refine zS Ad W 3 (st' := (23, [vR 1, vI x1, vI x2], [.int (3:Int32), .int x1, .ref 1], (H1 s o e0))) rfl ?_
   obtain ⟨r465, hr465, h⟩ := bind_eq_some_iff.mp h
   refine QTri.callP W (a := 1) (as := [.int x1, .int (3:Int32)]) (rest := []) (w := none) (σ₁ := (H1 s r465 e0)) rfl rfl rfl rfl rfl rfl rfl rfl (tF23a1 Ad W s e0 o x1 (3:Int32) hr465) ?_
   refine zS Ad W 3 (st' := (29, [vR 1, vI x1, vI x2], [.int x2, .int (3:Int32), .ref 1], (H1 s r465 e0))) rfl ?_
   obtain ⟨r471, hr471, h⟩ := bind_eq_some_iff.mp h
   refine QTri.callP W (a := 1) (as := [.int (3:Int32), .int x2]) (rest := []) (w := (some (.int r471))) (σ₁ := (H1 s r465 e0)) rfl rfl rfl rfl rfl rfl rfl rfl (tF38 Ad W s e0 r465 (3:Int32) x2 hr471) ?_
   obtain rfl := Option.some.inj h
   exact QTri.retI rfl rfl
theorem tB24_34a2 (Ad : QAd n0 ad) (W : QW Z a0) (s : List Int32) (e0 : Ob) (x4 : Int32) (x5 : Int32) (v : Int32 × Ob) {r : ((Ob)) ⊕ (Int32 × Ob)} {u : Option Value} {τ : QHeap} (h : B24_34 x4 x5 v = some r) (hx0 : ∀ x : Ob, r = .inl x → u = (none : Option Value) ∧ τ = (H1 s e0 x)) (hc : ∀ x : Int32 × Ob, r = .inr x → QTri l Z n0 ad 24 (34, [vR 11, none, none, none, vI x4, vI x5, vI x.1], [], (H1 s e0 x.2)) u τ) : QTri l Z n0 ad 24 (34, [vR 11, none, none, none, vI x4, vI x5, vI v.1], [], (H1 s e0 v.2)) u τ := by
 unfold B24_34 at h
 refine zS Ad W 2 (st' := (37, [vR 11, none, none, none, vI x4, vI x5, vI v.1], [.int (4:Int32), .int v.1], (H1 s e0 v.2))) rfl ?_
 rcases qite h with ⟨hc484, h⟩ | ⟨hc484, h⟩
 ·refine zF Ad W (t := 66) (f := 40) rfl (XT.ii_ge_f hc484) ?_
  refine zS Ad W 10 (st' := (58, [vR 11, none, none, none, vI x4, vI x5, vI v.1], [.int (x4 + v.1), .ref 17, .int (x5 + v.1), .ref 20], (H1 s e0 v.2))) rfl ?_
  obtain ⟨y485, hy485, h⟩ := bind_eq_some_iff.mp h
  refine zB Ad W (f := fun y485 => (59, [vR 11, none, none, none, vI x4, vI x5, vI v.1], [.int y485, .int (x5 + v.1), .ref 20], (H1 s e0 v.2))) rfl hy485 ?_
  obtain ⟨y486, hy486, h⟩ := bind_eq_some_iff.mp h
  refine zB Ad W (f := fun y486 => (60, [vR 11, none, none, none, vI x4, vI x5, vI v.1], [], (H1x22 s e0 v.2 y486))) rfl hy486 ?_
  refine zS Ad W 2 (st' := (34, [vR 11, none, none, none, vI x4, vI x5, vI (v.1 + (1:Int32))], [], (H1x22 s e0 v.2 y486))) rfl ?_
  have E487 : ((H1x22 s e0 v.2 y486) : QHeap) = (H1 s e0 (s_reg v.2 y486)) := by simp only [fs, H1, H1v, H1x22, s_reg]
  rw [E487]
  obtain rfl := Option.some.inj h
  exact zM [tt,ff,ff,ff,tt,tt,tt] (hc ((v.1 + (1:Int32)), (s_reg v.2 y486)) rfl)
 ·refine zT Ad W (t := 66) (f := 40) rfl (XT.ii_ge_t hc484) ?_
  obtain rfl := Option.some.inj h
  obtain ⟨rfl, rfl⟩ := hx0 v.2 rfl
  exact QTri.ret0 rfl rfl
theorem tF24a2 (Ad : QAd n0 ad) (W : QW Z a0) (s : List Int32) (e0 : Ob) (o : Ob) (x1 : Int32) (x2 : Int32) (x3 : Int32) {r : Ob} (h : F24 o x1 x2 x3 = some r) : QTri l Z n0 ad 24 (0, qentry [.ref 11, .int x1, .int x2, .int x3] (pMaxL 24), [], (H1 s e0 o)) (none : Option Value) (H1 s e0 r) := by
 unfold F24 at h
 refine zS Ad W 2 (st' := (2, [vR 11, vI x1, vI x2, vI x3, none, none, none], [.int x1, .ref 11], (H1 s e0 o))) rfl ?_
 obtain ⟨r479, hr479, h⟩ := bind_eq_some_iff.mp h
 refine QTri.callP W (a := 11) (as := [.int x1]) (rest := []) (w := (some (.int r479))) (σ₁ := (H1 s e0 o)) rfl rfl rfl rfl rfl rfl rfl rfl (tF5 Ad W x1 hr479) ?_
 rcases qite h with ⟨hc480, h⟩ | ⟨hc480, h⟩
 ·refine zT Ad W (t := 17) (f := 8) rfl (XT.i0_eq_t hc480) ?_
  obtain rfl := Option.some.inj h
  exact QTri.ret0 rfl rfl
 ·refine zF Ad W (t := 17) (f := 8) rfl (XT.i0_eq_f hc480) ?_
  refine zS Ad W 3 (st' := (11, [vR 11, vI x1, vI x2, vI x3, none, none, none], [.int x3, .int x2, .ref 11], (H1 s e0 o))) rfl ?_
  obtain ⟨r481, hr481, h⟩ := bind_eq_some_iff.mp h
  refine QTri.callP W (a := 11) (as := [.int x2, .int x3]) (rest := []) (w := (some (.int r481))) (σ₁ := (H1 s e0 o)) rfl rfl rfl rfl rfl rfl rfl rfl (tF13 Ad W x2 x3 hr481) ?_
  rcases qite h with ⟨hc482, h⟩ | ⟨hc482, h⟩
  ·refine zF Ad W (t := 18) (f := 17) rfl (XT.i0_ne_f hc482) ?_
   obtain rfl := Option.some.inj h
   exact QTri.ret0 rfl rfl
  ·refine zT Ad W (t := 18) (f := 17) rfl (XT.i0_ne_t hc482) ?_
   refine zS Ad W 3 (st' := (21, [vR 11, vI x1, vI x2, vI x3, none, none, none], [.int x3, .int x2, .ref 11], (H1 s e0 o))) rfl ?_
   obtain ⟨r483, hr483, h⟩ := bind_eq_some_iff.mp h
   refine QTri.callP W (a := 11) (as := [.int x2, .int x3]) (rest := []) (w := (some (.int r483))) (σ₁ := (H1 s e0 o)) rfl rfl rfl rfl rfl rfl rfl rfl (tF15 Ad W x2 x3 hr483) ?_
   refine zS Ad W 5 (st' := (31, [vR 11, vI x1, vI x2, vI x3, vI r483, vI (x1 * (4:Int32)), none], [], (H1 s e0 o))) rfl ?_
   refine zS Ad W 2 (st' := (34, [vR 11, vI x1, vI x2, vI x3, vI r483, vI (x1 * (4:Int32)), vI (0:Int32)], [], (H1 s e0 o))) rfl ?_
   obtain ⟨e488, he488, h⟩ := bind_eq_some_iff.mp h
   refine zM [tt,ff,ff,ff,tt,tt,tt] (loopN_tri (B := B24_34 r483 (x1 * (4:Int32))) (T := fun lv489 => QTri l Z n0 ad 24 (34, [vR 11, none, none, none, vI r483, vI (x1 * (4:Int32)), vI lv489.1], [], (H1 s e0 lv489.2)) (none : Option Value) (H1 s e0 r)) (KE := fun e488a => (none : Option Value) = (none : Option Value) ∧ (H1 s e0 r) = (H1 s e0 e488a)) (fun lv489 r hB hE hC => tB24_34a2 Ad W s e0 r483 (x1 * (4:Int32)) lv489 hB (fun x q => hE _ q) (fun x q => hC x q)) qN ((0:Int32), o) e488 he488 ?_)
   obtain rfl := Option.some.inj h
   exact ⟨rfl, rfl⟩
theorem tB16_25a2 (Ad : QAd n0 ad) (W : QW Z a0) (s : List Int32) (e0 : Ob) (x2 : Int32) (x3 : Int32) (v : Int32 × Ob) {r : ((Ob)) ⊕ (Int32 × Ob)} {u : Option Value} {τ : QHeap} (h : B16_25 x2 x3 v = some r) (hx0 : ∀ x : Ob, r = .inl x → u = (none : Option Value) ∧ τ = (H1 s e0 x)) (hc : ∀ x : Int32 × Ob, r = .inr x → QTri l Z n0 ad 16 (25, [vR 11, none, vI x2, vI x3, vI x.1], [], (H1 s e0 x.2)) u τ) : QTri l Z n0 ad 16 (25, [vR 11, none, vI x2, vI x3, vI v.1], [], (H1 s e0 v.2)) u τ := by
 unfold B16_25 at h
 refine zS Ad W 2 (st' := (28, [vR 11, none, vI x2, vI x3, vI v.1], [.int (4:Int32), .int v.1], (H1 s e0 v.2))) rfl ?_
 rcases qite h with ⟨hc495, h⟩ | ⟨hc495, h⟩
 ·refine zF Ad W (t := 57) (f := 31) rfl (XT.ii_ge_f hc495) ?_
  refine zS Ad W 12 (st' := (49, [vR 11, none, vI x2, vI x3, vI v.1], [.int ((x2 * (4:Int32)) + v.1), .ref 18, .int (x3 + v.1), .ref 20], (H1 s e0 v.2))) rfl ?_
  obtain ⟨y496, hy496, h⟩ := bind_eq_some_iff.mp h
  refine zB Ad W (f := fun y496 => (50, [vR 11, none, vI x2, vI x3, vI v.1], [.int y496, .int (x3 + v.1), .ref 20], (H1 s e0 v.2))) rfl hy496 ?_
  obtain ⟨y497, hy497, h⟩ := bind_eq_some_iff.mp h
  refine zB Ad W (f := fun y497 => (51, [vR 11, none, vI x2, vI x3, vI v.1], [], (H1x22 s e0 v.2 y497))) rfl hy497 ?_
  refine zS Ad W 2 (st' := (25, [vR 11, none, vI x2, vI x3, vI (v.1 + (1:Int32))], [], (H1x22 s e0 v.2 y497))) rfl ?_
  have E498 : ((H1x22 s e0 v.2 y497) : QHeap) = (H1 s e0 (s_reg v.2 y497)) := by simp only [fs, H1, H1v, H1x22, s_reg]
  rw [E498]
  obtain rfl := Option.some.inj h
  exact zM [tt,ff,tt,tt,tt] (hc ((v.1 + (1:Int32)), (s_reg v.2 y497)) rfl)
 ·refine zT Ad W (t := 57) (f := 31) rfl (XT.ii_ge_t hc495) ?_
  obtain rfl := Option.some.inj h
  obtain ⟨rfl, rfl⟩ := hx0 v.2 rfl
  exact QTri.ret0 rfl rfl
theorem tF16a2 (Ad : QAd n0 ad) (W : QW Z a0) (s : List Int32) (e0 : Ob) (o : Ob) (x1 : Int32) (x2 : Int32) {r : Ob} (h : F16 o x1 x2 = some r) : QTri l Z n0 ad 16 (0, qentry [.ref 11, .int x1, .int x2] (pMaxL 16), [], (H1 s e0 o)) (none : Option Value) (H1 s e0 r) := by
 unfold F16 at h
 refine zS Ad W 2 (st' := (2, [vR 11, vI x1, vI x2, none, none], [.int x1, .ref 11], (H1 s e0 o))) rfl ?_
 obtain ⟨r491, hr491, h⟩ := bind_eq_some_iff.mp h
 refine QTri.callP W (a := 11) (as := [.int x1]) (rest := []) (w := (some (.int r491))) (σ₁ := (H1 s e0 o)) rfl rfl rfl rfl rfl rfl rfl rfl (tF5 Ad W x1 hr491) ?_
 rcases qite h with ⟨hc492, h⟩ | ⟨hc492, h⟩
 ·refine zT Ad W (t := 17) (f := 8) rfl (XT.i0_eq_t hc492) ?_
  obtain rfl := Option.some.inj h
  exact QTri.ret0 rfl rfl
 ·refine zF Ad W (t := 17) (f := 8) rfl (XT.i0_eq_f hc492) ?_
  refine zS Ad W 1 (st' := (9, [vR 11, vI x1, vI x2, none, none], [.int x2], (H1 s e0 o))) rfl ?_
  rcases qite h with ⟨hc493, h⟩ | ⟨hc493, h⟩
  ·refine zT Ad W (t := 17) (f := 12) rfl (XT.i0_lt_t hc493) ?_
   obtain rfl := Option.some.inj h
   exact QTri.ret0 rfl rfl
  ·refine zF Ad W (t := 17) (f := 12) rfl (XT.i0_lt_f hc493) ?_
   refine zS Ad W 2 (st' := (14, [vR 11, vI x1, vI x2, none, none], [.int (4:Int32), .int x2], (H1 s e0 o))) rfl ?_
   rcases qite h with ⟨hc494, h⟩ | ⟨hc494, h⟩
   ·refine zT Ad W (t := 18) (f := 17) rfl (XT.ii_lt_t hc494) ?_
    refine zS Ad W 6 (st' := (25, [vR 11, vI x1, vI x2, vI (x1 * (4:Int32)), vI (0:Int32)], [], (H1 s e0 o))) rfl ?_
    obtain ⟨e499, he499, h⟩ := bind_eq_some_iff.mp h
    refine zM [tt,ff,tt,tt,tt] (loopN_tri (B := B16_25 x2 (x1 * (4:Int32))) (T := fun lv500 => QTri l Z n0 ad 16 (25, [vR 11, none, vI x2, vI (x1 * (4:Int32)), vI lv500.1], [], (H1 s e0 lv500.2)) (none : Option Value) (H1 s e0 r)) (KE := fun e499a => (none : Option Value) = (none : Option Value) ∧ (H1 s e0 r) = (H1 s e0 e499a)) (fun lv500 r hB hE hC => tB16_25a2 Ad W s e0 x2 (x1 * (4:Int32)) lv500 hB (fun x q => hE _ q) (fun x q => hC x q)) qN ((0:Int32), o) e499 he499 ?_)
    obtain rfl := Option.some.inj h
    exact ⟨rfl, rfl⟩
   ·refine zF Ad W (t := 18) (f := 17) rfl (XT.ii_lt_f hc494) ?_
    obtain rfl := Option.some.inj h
    exact QTri.ret0 rfl rfl
theorem tF17a2 (Ad : QAd n0 ad) (W : QW Z a0) (s : List Int32) (e0 : Ob) (o : Ob) (x1 : Int32) (x2 : Int32) (x3 : Int32) {r : Ob} (h : F17 o x1 x2 x3 = some r) : QTri l Z n0 ad 17 (0, qentry [.ref 11, .int x1, .int x2, .int x3] (pMaxL 17), [], (H1 s e0 o)) (none : Option Value) (H1 s e0 r) := by
 unfold F17 at h
 refine zS Ad W 2 (st' := (2, [vR 11, vI x1, vI x2, vI x3, none, none, none, none, none, none, none, none, none, none, none], [.int x1, .ref 11], (H1 s e0 o))) rfl ?_
 obtain ⟨r502, hr502, h⟩ := bind_eq_some_iff.mp h
 refine QTri.callP W (a := 11) (as := [.int x1]) (rest := []) (w := (some (.int r502))) (σ₁ := (H1 s e0 o)) rfl rfl rfl rfl rfl rfl rfl rfl (tF5 Ad W x1 hr502) ?_
 rcases qite h with ⟨hc503, h⟩ | ⟨hc503, h⟩
 ·refine zT Ad W (t := 24) (f := 8) rfl (XT.i0_eq_t hc503) ?_
  obtain rfl := Option.some.inj h
  exact QTri.ret0 rfl rfl
 ·refine zF Ad W (t := 24) (f := 8) rfl (XT.i0_eq_f hc503) ?_
  refine zS Ad W 2 (st' := (10, [vR 11, vI x1, vI x2, vI x3, none, none, none, none, none, none, none, none, none, none, none], [.int x2, .ref 11], (H1 s e0 o))) rfl ?_
  obtain ⟨r504, hr504, h⟩ := bind_eq_some_iff.mp h
  refine QTri.callP W (a := 11) (as := [.int x2]) (rest := []) (w := (some (.int r504))) (σ₁ := (H1 s e0 o)) rfl rfl rfl rfl rfl rfl rfl rfl (tF5 Ad W x2 hr504) ?_
  rcases qite h with ⟨hc505, h⟩ | ⟨hc505, h⟩
  ·refine zT Ad W (t := 24) (f := 16) rfl (XT.i0_eq_t hc505) ?_
   obtain rfl := Option.some.inj h
   exact QTri.ret0 rfl rfl
  ·refine zF Ad W (t := 24) (f := 16) rfl (XT.i0_eq_f hc505) ?_
   refine zS Ad W 2 (st' := (18, [vR 11, vI x1, vI x2, vI x3, none, none, none, none, none, none, none, none, none, none, none], [.int x3, .ref 11], (H1 s e0 o))) rfl ?_
   obtain ⟨r506, hr506, h⟩ := bind_eq_some_iff.mp h
   refine QTri.callP W (a := 11) (as := [.int x3]) (rest := []) (w := (some (.int r506))) (σ₁ := (H1 s e0 o)) rfl rfl rfl rfl rfl rfl rfl rfl (tF5 Ad W x3 hr506) ?_
   rcases qite h with ⟨hc507, h⟩ | ⟨hc507, h⟩
   ·refine zF Ad W (t := 25) (f := 24) rfl (XT.i0_ne_f hc507) ?_
    obtain rfl := Option.some.inj h
    exact QTri.ret0 rfl rfl
   ·refine zT Ad W (t := 25) (f := 24) rfl (XT.i0_ne_t hc507) ?_
    refine zS Ad W 8 (st' := (35, [vR 11, vI x1, vI x2, vI x3, vI (x2 * (4:Int32)), vI (x3 * (4:Int32)), none, none, none, none, none, none, none, none, none], [], (H1 s e0 o))) rfl ?_
    refine zS Ad W 3 (st' := (41, [vR 11, vI x1, vI x2, vI x3, vI (x2 * (4:Int32)), vI (x3 * (4:Int32)), none, none, none, none, none, none, none, none, none], [.int (x2 * (4:Int32)), .ref 20], (H1 s e0 o))) rfl ?_
    obtain ⟨y508, hy508, h⟩ := bind_eq_some_iff.mp h
    refine zB Ad W (f := fun y508 => (42, [vR 11, vI x1, vI x2, vI x3, vI (x2 * (4:Int32)), vI (x3 * (4:Int32)), none, none, none, none, none, none, none, none, none], [.int y508], (H1 s e0 o))) rfl hy508 ?_
    refine zS Ad W 6 (st' := (52, [vR 11, vI x1, vI x2, vI x3, vI (x2 * (4:Int32)), vI (x3 * (4:Int32)), vI y508, none, none, none, none, none, none, none, none], [.int ((x2 * (4:Int32)) + (1:Int32)), .ref 20], (H1 s e0 o))) rfl ?_
    obtain ⟨y509, hy509, h⟩ := bind_eq_some_iff.mp h
    refine zB Ad W (f := fun y509 => (53, [vR 11, vI x1, vI x2, vI x3, vI (x2 * (4:Int32)), vI (x3 * (4:Int32)), vI y508, none, none, none, none, none, none, none, none], [.int y509], (H1 s e0 o))) rfl hy509 ?_
    refine zS Ad W 6 (st' := (63, [vR 11, vI x1, vI x2, vI x3, vI (x2 * (4:Int32)), vI (x3 * (4:Int32)), vI y508, vI y509, none, none, none, none, none, none, none], [.int ((x2 * (4:Int32)) + (2:Int32)), .ref 20], (H1 s e0 o))) rfl ?_
    obtain ⟨y510, hy510, h⟩ := bind_eq_some_iff.mp h
    refine zB Ad W (f := fun y510 => (64, [vR 11, vI x1, vI x2, vI x3, vI (x2 * (4:Int32)), vI (x3 * (4:Int32)), vI y508, vI y509, none, none, none, none, none, none, none], [.int y510], (H1 s e0 o))) rfl hy510 ?_
    refine zS Ad W 6 (st' := (74, [vR 11, vI x1, vI x2, vI x3, vI (x2 * (4:Int32)), vI (x3 * (4:Int32)), vI y508, vI y509, vI y510, none, none, none, none, none, none], [.int ((x2 * (4:Int32)) + (3:Int32)), .ref 20], (H1 s e0 o))) rfl ?_
    obtain ⟨y511, hy511, h⟩ := bind_eq_some_iff.mp h
    refine zB Ad W (f := fun y511 => (75, [vR 11, vI x1, vI x2, vI x3, vI (x2 * (4:Int32)), vI (x3 * (4:Int32)), vI y508, vI y509, vI y510, none, none, none, none, none, none], [.int y511], (H1 s e0 o))) rfl hy511 ?_
    refine zS Ad W 4 (st' := (83, [vR 11, vI x1, vI x2, vI x3, vI (x2 * (4:Int32)), vI (x3 * (4:Int32)), vI y508, vI y509, vI y510, vI y511, none, none, none, none, none], [.int (x3 * (4:Int32)), .ref 20], (H1 s e0 o))) rfl ?_
    obtain ⟨y512, hy512, h⟩ := bind_eq_some_iff.mp h
    refine zB Ad W (f := fun y512 => (84, [vR 11, vI x1, vI x2, vI x3, vI (x2 * (4:Int32)), vI (x3 * (4:Int32)), vI y508, vI y509, vI y510, vI y511, none, none, none, none, none], [.int y512], (H1 s e0 o))) rfl hy512 ?_
    refine zS Ad W 6 (st' := (94, [vR 11, vI x1, vI x2, vI x3, vI (x2 * (4:Int32)), vI (x3 * (4:Int32)), vI y508, vI y509, vI y510, vI y511, vI y512, none, none, none, none], [.int ((x3 * (4:Int32)) + (1:Int32)), .ref 20], (H1 s e0 o))) rfl ?_
    obtain ⟨y513, hy513, h⟩ := bind_eq_some_iff.mp h
    refine zB Ad W (f := fun y513 => (95, [vR 11, vI x1, vI x2, vI x3, vI (x2 * (4:Int32)), vI (x3 * (4:Int32)), vI y508, vI y509, vI y510, vI y511, vI y512, none, none, none, none], [.int y513], (H1 s e0 o))) rfl hy513 ?_
    refine zS Ad W 6 (st' := (105, [vR 11, vI x1, vI x2, vI x3, vI (x2 * (4:Int32)), vI (x3 * (4:Int32)), vI y508, vI y509, vI y510, vI y511, vI y512, vI y513, none, none, none], [.int ((x3 * (4:Int32)) + (2:Int32)), .ref 20], (H1 s e0 o))) rfl ?_
    obtain ⟨y514, hy514, h⟩ := bind_eq_some_iff.mp h
    refine zB Ad W (f := fun y514 => (106, [vR 11, vI x1, vI x2, vI x3, vI (x2 * (4:Int32)), vI (x3 * (4:Int32)), vI y508, vI y509, vI y510, vI y511, vI y512, vI y513, none, none, none], [.int y514], (H1 s e0 o))) rfl hy514 ?_
    refine zS Ad W 6 (st' := (116, [vR 11, vI x1, vI x2, vI x3, vI (x2 * (4:Int32)), vI (x3 * (4:Int32)), vI y508, vI y509, vI y510, vI y511, vI y512, vI y513, vI y514, none, none], [.int ((x3 * (4:Int32)) + (3:Int32)), .ref 20], (H1 s e0 o))) rfl ?_
    obtain ⟨y515, hy515, h⟩ := bind_eq_some_iff.mp h
    refine zB Ad W (f := fun y515 => (117, [vR 11, vI x1, vI x2, vI x3, vI (x2 * (4:Int32)), vI (x3 * (4:Int32)), vI y508, vI y509, vI y510, vI y511, vI y512, vI y513, vI y514, none, none], [.int y515], (H1 s e0 o))) rfl hy515 ?_
    refine zS Ad W 5 (st' := (124, [vR 11, vI x1, vI x2, vI x3, vI (x2 * (4:Int32)), vI (x3 * (4:Int32)), vI y508, vI y509, vI y510, vI y511, vI y512, vI y513, vI y514, vI y515, vI (x1 * (4:Int32))], [], (H1 s e0 o))) rfl ?_
    refine zS Ad W 10 (st' := (141, [vR 11, vI x1, vI x2, vI x3, vI (x2 * (4:Int32)), vI (x3 * (4:Int32)), vI y508, vI y509, vI y510, vI y511, vI y512, vI y513, vI y514, vI y515, vI (x1 * (4:Int32))], [.int ((y508 * y512) + (y509 * y514)), .int (x1 * (4:Int32)), .ref 20], (H1 s e0 o))) rfl ?_
    obtain ⟨y516, hy516, h⟩ := bind_eq_some_iff.mp h
    refine zB Ad W (f := fun y516 => (142, [vR 11, vI x1, vI x2, vI x3, vI (x2 * (4:Int32)), vI (x3 * (4:Int32)), vI y508, vI y509, vI y510, vI y511, vI y512, vI y513, vI y514, vI y515, vI (x1 * (4:Int32))], [], (H1x22 s e0 o y516))) rfl hy516 ?_
    refine zS Ad W 12 (st' := (161, [vR 11, vI x1, vI x2, vI x3, vI (x2 * (4:Int32)), vI (x3 * (4:Int32)), vI y508, vI y509, vI y510, vI y511, vI y512, vI y513, vI y514, vI y515, vI (x1 * (4:Int32))], [.int ((y508 * y513) + (y509 * y515)), .int ((x1 * (4:Int32)) + (1:Int32)), .ref 20], (H1x22 s e0 o y516))) rfl ?_
    obtain ⟨y517, hy517, h⟩ := bind_eq_some_iff.mp h
    refine zB Ad W (f := fun y517 => (162, [vR 11, vI x1, vI x2, vI x3, vI (x2 * (4:Int32)), vI (x3 * (4:Int32)), vI y508, vI y509, vI y510, vI y511, vI y512, vI y513, vI y514, vI y515, vI (x1 * (4:Int32))], [], (H1x22 s e0 o y517))) rfl hy517 ?_
    refine zS Ad W 12 (st' := (181, [vR 11, vI x1, vI x2, vI x3, vI (x2 * (4:Int32)), vI (x3 * (4:Int32)), vI y508, vI y509, vI y510, vI y511, vI y512, vI y513, vI y514, vI y515, vI (x1 * (4:Int32))], [.int ((y510 * y512) + (y511 * y514)), .int ((x1 * (4:Int32)) + (2:Int32)), .ref 20], (H1x22 s e0 o y517))) rfl ?_
    obtain ⟨y518, hy518, h⟩ := bind_eq_some_iff.mp h
    refine zB Ad W (f := fun y518 => (182, [vR 11, vI x1, vI x2, vI x3, vI (x2 * (4:Int32)), vI (x3 * (4:Int32)), vI y508, vI y509, vI y510, vI y511, vI y512, vI y513, vI y514, vI y515, vI (x1 * (4:Int32))], [], (H1x22 s e0 o y518))) rfl hy518 ?_
    refine zS Ad W 12 (st' := (201, [vR 11, vI x1, vI x2, vI x3, vI (x2 * (4:Int32)), vI (x3 * (4:Int32)), vI y508, vI y509, vI y510, vI y511, vI y512, vI y513, vI y514, vI y515, vI (x1 * (4:Int32))], [.int ((y510 * y513) + (y511 * y515)), .int ((x1 * (4:Int32)) + (3:Int32)), .ref 20], (H1x22 s e0 o y518))) rfl ?_
    obtain ⟨y519, hy519, h⟩ := bind_eq_some_iff.mp h
    refine zB Ad W (f := fun y519 => (202, [vR 11, vI x1, vI x2, vI x3, vI (x2 * (4:Int32)), vI (x3 * (4:Int32)), vI y508, vI y509, vI y510, vI y511, vI y512, vI y513, vI y514, vI y515, vI (x1 * (4:Int32))], [], (H1x22 s e0 o y519))) rfl hy519 ?_
    have E520 : ((H1x22 s e0 o y519) : QHeap) = (H1 s e0 (s_reg o y519)) := by simp only [fs, H1, H1v, H1x22, s_reg]
    rw [E520]
    obtain rfl := Option.some.inj h
    exact QTri.ret0 rfl rfl
theorem tJ23_28a2 (Ad : QAd n0 ad) (W : QW Z a0) (s : List Int32) (e0 : Ob) (o : Ob) (x1 : Int32) (x2 : Int32) {r : Ob} (h : J23_28 o x1 x2 = some r) : QTri l Z n0 ad 23 (28, [vR 11, vI x1, vI x2, none], [], (H1 s e0 o)) (none : Option Value) (H1 s e0 r) := by
 unfold J23_28 at h
 refine zS Ad W 3 (st' := (31, [vR 11, vI x1, vI x2, none], [.int x1, .int (2:Int32), .ref 11], (H1 s e0 o))) rfl ?_
 obtain ⟨r501, hr501, h⟩ := bind_eq_some_iff.mp h
 refine QTri.callP W (a := 11) (as := [.int (2:Int32), .int x1]) (rest := []) (w := none) (σ₁ := (H1 s e0 r501)) rfl rfl rfl rfl rfl rfl rfl rfl (tF16a2 Ad W s e0 o (2:Int32) x1 hr501) ?_
 refine zS Ad W 4 (st' := (38, [vR 11, vI x1, vI x2, none], [.int (2:Int32), .int (1:Int32), .int x2, .ref 11], (H1 s e0 r501))) rfl ?_
 obtain ⟨r521, hr521, h⟩ := bind_eq_some_iff.mp h
 refine QTri.callP W (a := 11) (as := [.int x2, .int (1:Int32), .int (2:Int32)]) (rest := []) (w := none) (σ₁ := (H1 s e0 r521)) rfl rfl rfl rfl rfl rfl rfl rfl (tF17a2 Ad W s e0 r501 x2 (1:Int32) (2:Int32) hr521) ?_
 obtain rfl := Option.some.inj h
 exact QTri.ret0 rfl rfl
theorem tF23a2 (Ad : QAd n0 ad) (W : QW Z a0) (s : List Int32) (e0 : Ob) (o : Ob) (x1 : Int32) (x2 : Int32) {r : Ob} (h : F23 o x1 x2 = some r) : QTri l Z n0 ad 23 (0, qentry [.ref 11, .int x1, .int x2] (pMaxL 23), [], (H1 s e0 o)) (none : Option Value) (H1 s e0 r) := by
 unfold F23 at h
 refine zS Ad W 3 (st' := (5, [vR 11, vI x1, vI x2, none], [.int x1, .ref 14], (H1 s e0 o))) rfl ?_
 obtain ⟨y477, hy477, h⟩ := bind_eq_some_iff.mp h
 refine zB Ad W (f := fun y477 => (6, [vR 11, vI x1, vI x2, none], [.int y477], (H1 s e0 o))) rfl hy477 ?_
 refine zS Ad W 2 (st' := (8, [vR 11, vI x1, vI x2, vI y477], [.int y477], (H1 s e0 o))) rfl ?_
 rcases qite h with ⟨hc478, h⟩ | ⟨hc478, h⟩
 ·refine zF Ad W (t := 23) (f := 11) rfl (XT.i0_le_f hc478) ?_
  refine zS Ad W 6 (st' := (17, [vR 11, vI x1, vI x2, vI y477], [.int (y477 - (1:Int32)), .int x1, .int (1:Int32), .ref 11], (H1 s e0 o))) rfl ?_
  obtain ⟨r490, hr490, h⟩ := bind_eq_some_iff.mp h
  refine QTri.callP W (a := 11) (as := [.int (1:Int32), .int x1, .int (y477 - (1:Int32))]) (rest := []) (w := none) (σ₁ := (H1 s e0 r490)) rfl rfl rfl rfl rfl rfl rfl rfl (tF24a2 Ad W s e0 o (1:Int32) x1 (y477 - (1:Int32)) hr490) ?_
  refine zS Ad W 1 (st' := (28, [vR 11, vI x1, vI x2, vI y477], [], (H1 s e0 r490))) rfl ?_
  exact zM [tt,tt,tt,ff] (tJ23_28a2 Ad W s e0 r490 x1 x2 h)
 ·refine zT Ad W (t := 23) (f := 11) rfl (XT.i0_le_t hc478) ?_
  refine zS Ad W 2 (st' := (25, [vR 11, vI x1, vI x2, vI y477], [.int (1:Int32), .ref 11], (H1 s e0 o))) rfl ?_
  obtain ⟨r522, hr522, h⟩ := bind_eq_some_iff.mp h
  refine QTri.callP W (a := 11) (as := [.int (1:Int32)]) (rest := []) (w := none) (σ₁ := (H1 s e0 r522)) rfl rfl rfl rfl rfl rfl rfl rfl (tF3a1 Ad W s e0 o (1:Int32) hr522) ?_
  exact zM [tt,tt,tt,ff] (tJ23_28a2 Ad W s e0 r522 x1 x2 h)
theorem tF38a1 (Ad : QAd n0 ad) (W : QW Z a0) (s : List Int32) (e0 : Ob) (o : Ob) (x1 : Int32) (x2 : Int32) {r : Int32} (h : F38 o x1 x2 = some r) : QTri l Z n0 ad 38 (0, qentry [.ref 11, .int x1, .int x2] (pMaxL 38), [], (H1 s e0 o)) (some (Value.int r)) (H1 s e0 o) := by
 unfold F38 at h
 refine zS Ad W 2 (st' := (2, [vR 11, vI x1, vI x2], [.int x1, .ref 11], (H1 s e0 o))) rfl ?_
 obtain ⟨r524, hr524, h⟩ := bind_eq_some_iff.mp h
 refine QTri.callP W (a := 11) (as := [.int x1]) (rest := []) (w := (some (.int r524))) (σ₁ := (H1 s e0 o)) rfl rfl rfl rfl rfl rfl rfl rfl (tF5 Ad W x1 hr524) ?_
 rcases qite h with ⟨hc525, h⟩ | ⟨hc525, h⟩
 ·refine zT Ad W (t := 16) (f := 8) rfl (XT.i0_eq_t hc525) ?_
  refine zS Ad W 1 (st' := (17, [vR 11, vI x1, vI x2], [.int (0:Int32)], (H1 s e0 o))) rfl ?_
  obtain rfl := Option.some.inj h
  exact QTri.retI rfl rfl
 ·refine zF Ad W (t := 16) (f := 8) rfl (XT.i0_eq_f hc525) ?_
  refine zS Ad W 2 (st' := (10, [vR 11, vI x1, vI x2], [.int x2, .ref 11], (H1 s e0 o))) rfl ?_
  obtain ⟨r526, hr526, h⟩ := bind_eq_some_iff.mp h
  refine QTri.callP W (a := 11) (as := [.int x2]) (rest := []) (w := (some (.int r526))) (σ₁ := (H1 s e0 o)) rfl rfl rfl rfl rfl rfl rfl rfl (tF36 Ad W x2 hr526) ?_
  rcases qite h with ⟨hc527, h⟩ | ⟨hc527, h⟩
  ·refine zF Ad W (t := 18) (f := 16) rfl (XT.i0_ne_f hc527) ?_
   refine zS Ad W 1 (st' := (17, [vR 11, vI x1, vI x2], [.int (0:Int32)], (H1 s e0 o))) rfl ?_
   obtain rfl := Option.some.inj h
   exact QTri.retI rfl rfl
  ·refine zT Ad W (t := 18) (f := 16) rfl (XT.i0_ne_t hc527) ?_
   refine zS Ad W 7 (st' := (27, [vR 11, vI x1, vI x2], [.int ((x1 * (4:Int32)) + x2), .ref 20], (H1 s e0 o))) rfl ?_
   obtain ⟨y528, hy528, h⟩ := bind_eq_some_iff.mp h
   refine zB Ad W (f := fun y528 => (28, [vR 11, vI x1, vI x2], [.int y528], (H1 s e0 o))) rfl hy528 ?_
   obtain rfl := Option.some.inj h
   exact QTri.retI rfl rfl
theorem tF37a1 (Ad : QAd n0 ad) (W : QW Z a0) (s : List Int32) (e0 : Ob) (o : Ob) (x1 : Int32) (x2 : Int32) {r : Int32 × Ob} (h : F37 o x1 x2 = some r) : QTri l Z n0 ad 37 (0, qentry [.ref 11, .int x1, .int x2] (pMaxL 37), [], (H1 s e0 o)) (some (Value.int r.1)) (H1 s e0 r.2) := by
 unfold F37 at h
 refine zS Ad W 2 (st' := (2, [vR 11, vI x1, vI x2], [.int x1, .ref 11], (H1 s e0 o))) rfl ?_
 obtain ⟨r473, hr473, h⟩ := bind_eq_some_iff.mp h
 refine QTri.callP W (a := 11) (as := [.int x1]) (rest := []) (w := (some (.int r473))) (σ₁ := (H1 s e0 o)) rfl rfl rfl rfl rfl rfl rfl rfl (tF27a1 Ad W s e0 o x1 hr473) ?_
 rcases qite h with ⟨hc474, h⟩ | ⟨hc474, h⟩
 ·refine zF Ad W (t := 10) (f := 8) rfl (XT.i0_ne_f hc474) ?_
  refine zS Ad W 1 (st' := (9, [vR 11, vI x1, vI x2], [.int (0:Int32)], (H1 s e0 o))) rfl ?_
  obtain rfl := Option.some.inj h
  exact QTri.retI rfl rfl
 ·refine zT Ad W (t := 10) (f := 8) rfl (XT.i0_ne_t hc474) ?_
  refine zS Ad W 2 (st' := (12, [vR 11, vI x1, vI x2], [.int x2, .ref 11], (H1 s e0 o))) rfl ?_
  obtain ⟨r475, hr475, h⟩ := bind_eq_some_iff.mp h
  refine QTri.callP W (a := 11) (as := [.int x2]) (rest := []) (w := (some (.int r475))) (σ₁ := (H1 s e0 o)) rfl rfl rfl rfl rfl rfl rfl rfl (tF36 Ad W x2 hr475) ?_
  rcases qite h with ⟨hc476, h⟩ | ⟨hc476, h⟩
  ·refine zF Ad W (t := 20) (f := 18) rfl (XT.i0_ne_f hc476) ?_
   refine zS Ad W 1 (st' := (19, [vR 11, vI x1, vI x2], [.int (0:Int32)], (H1 s e0 o))) rfl ?_
   obtain rfl := Option.some.inj h
   exact QTri.retI rfl rfl
  ·refine zT Ad W (t := 20) (f := 18) rfl (XT.i0_ne_t hc476) ?_
   refine zS Ad W 3 (st' := (23, [vR 11, vI x1, vI x2], [.int (3:Int32), .int x1, .ref 11], (H1 s e0 o))) rfl ?_
   obtain ⟨r523, hr523, h⟩ := bind_eq_some_iff.mp h
   refine QTri.callP W (a := 11) (as := [.int x1, .int (3:Int32)]) (rest := []) (w := none) (σ₁ := (H1 s e0 r523)) rfl rfl rfl rfl rfl rfl rfl rfl (tF23a2 Ad W s e0 o x1 (3:Int32) hr523) ?_
   refine zS Ad W 3 (st' := (29, [vR 11, vI x1, vI x2], [.int x2, .int (3:Int32), .ref 11], (H1 s e0 r523))) rfl ?_
   obtain ⟨r529, hr529, h⟩ := bind_eq_some_iff.mp h
   refine QTri.callP W (a := 11) (as := [.int (3:Int32), .int x2]) (rest := []) (w := (some (.int r529))) (σ₁ := (H1 s e0 r523)) rfl rfl rfl rfl rfl rfl rfl rfl (tF38a1 Ad W s e0 r523 (3:Int32) x2 hr529) ?_
   obtain rfl := Option.some.inj h
   exact QTri.retI rfl rfl
def B29_104 (x2 : Int32) (v : Int32 × Ob × Ob) : Option (((Ob × Ob) ⊕ (Int32 × Ob × Ob)) ⊕ (Int32 × Ob × Ob)) :=
  (if v.1 < (4 : Int32) then (F35 v.2.1 x2 v.1).bind fun r407 => (F35 v.2.2 x2 v.1).bind fun r413 => (if r407 = r413 then (F37 v.2.1 x2 v.1).bind fun r472 => (F37 v.2.2 x2 v.1).bind fun r530 => (if r472.1 = r530.1 then some (.inr ((v.1 + (1 : Int32)), r472.2, r530.2)) else some (.inl (Sum.inr ((0 : Int32), r472.2, r530.2)))) else some (.inl (Sum.inr ((0 : Int32), v.2.1, v.2.2)))) else some (.inl (Sum.inl (v.2.1, v.2.2))))
theorem tB29_104 (Ad : QAd n0 ad) (W : QW Z a0) (s : List Int32) (x2 : Int32) (v : Int32 × Ob × Ob) {r : ((Ob × Ob) ⊕ (Int32 × Ob × Ob)) ⊕ (Int32 × Ob × Ob)} {u : Option Value} {τ : QHeap} (h : B29_104 x2 v = some r) (hx0 : ∀ x : Ob × Ob, r = .inl (Sum.inl x) → QTri l Z n0 ad 29 (147, [vR 1, vR 11, vI x2, none], [], (H1 s x.1 x.2)) u τ) (hx1 : ∀ x : Int32 × Ob × Ob, r = .inl (Sum.inr x) → u = (some (Value.int x.1)) ∧ τ = (H1 s x.2.1 x.2.2)) (hc : ∀ x : Int32 × Ob × Ob, r = .inr x → QTri l Z n0 ad 29 (104, [vR 1, vR 11, vI x2, vI x.1], [], (H1 s x.2.1 x.2.2)) u τ) : QTri l Z n0 ad 29 (104, [vR 1, vR 11, vI x2, vI v.1], [], (H1 s v.2.1 v.2.2)) u τ := by
 unfold B29_104 at h
 refine zS Ad W 2 (st' := (106, [vR 1, vR 11, vI x2, vI v.1], [.int (4:Int32), .int v.1], (H1 s v.2.1 v.2.2))) rfl ?_
 rcases qite h with ⟨hc399, h⟩ | ⟨hc399, h⟩
 ·refine zF Ad W (t := 147) (f := 109) rfl (XT.ii_ge_f hc399) ?_
  refine zS Ad W 3 (st' := (112, [vR 1, vR 11, vI x2, vI v.1], [.int v.1, .int x2, .ref 1], (H1 s v.2.1 v.2.2))) rfl ?_
  obtain ⟨r407, hr407, h⟩ := bind_eq_some_iff.mp h
  refine QTri.callV W (a := 1) (as := [.int x2, .int v.1]) (rest := []) (w := (some (.int r407))) (σ₁ := (H1 s v.2.1 v.2.2)) rfl rfl rfl rfl rfl rfl rfl rfl (tF35 Ad W s v.2.2 v.2.1 x2 v.1 hr407) ?_
  refine zS Ad W 3 (st' := (118, [vR 1, vR 11, vI x2, vI v.1], [.int v.1, .int x2, .ref 11, .int r407], (H1 s v.2.1 v.2.2))) rfl ?_
  obtain ⟨r413, hr413, h⟩ := bind_eq_some_iff.mp h
  refine QTri.callV W (a := 11) (as := [.int x2, .int v.1]) (rest := [.int r407]) (w := (some (.int r413))) (σ₁ := (H1 s v.2.1 v.2.2)) rfl rfl rfl rfl rfl rfl rfl rfl (tF35a1 Ad W s v.2.1 v.2.2 x2 v.1 hr413) ?_
  rcases qite h with ⟨hc414, h⟩ | ⟨hc414, h⟩
  ·refine zF Ad W (t := 139) (f := 124) rfl (XT.ii_ne_f hc414) ?_
   refine zS Ad W 3 (st' := (127, [vR 1, vR 11, vI x2, vI v.1], [.int v.1, .int x2, .ref 1], (H1 s v.2.1 v.2.2))) rfl ?_
   obtain ⟨r472, hr472, h⟩ := bind_eq_some_iff.mp h
   refine QTri.callV W (a := 1) (as := [.int x2, .int v.1]) (rest := []) (w := (some (.int r472.1))) (σ₁ := (H1 s r472.2 v.2.2)) rfl rfl rfl rfl rfl rfl rfl rfl (tF37 Ad W s v.2.2 v.2.1 x2 v.1 hr472) ?_
   refine zS Ad W 3 (st' := (133, [vR 1, vR 11, vI x2, vI v.1], [.int v.1, .int x2, .ref 11, .int r472.1], (H1 s r472.2 v.2.2))) rfl ?_
   obtain ⟨r530, hr530, h⟩ := bind_eq_some_iff.mp h
   refine QTri.callV W (a := 11) (as := [.int x2, .int v.1]) (rest := [.int r472.1]) (w := (some (.int r530.1))) (σ₁ := (H1 s r472.2 r530.2)) rfl rfl rfl rfl rfl rfl rfl rfl (tF37a1 Ad W s r472.2 v.2.2 x2 v.1 hr530) ?_
   rcases qite h with ⟨hc531, h⟩ | ⟨hc531, h⟩
   ·refine zT Ad W (t := 141) (f := 139) rfl (XT.ii_eq_t hc531) ?_
    refine zS Ad W 2 (st' := (104, [vR 1, vR 11, vI x2, vI (v.1 + (1:Int32))], [], (H1 s r472.2 r530.2))) rfl ?_
    obtain rfl := Option.some.inj h
    exact zM [tt,tt,tt,tt] (hc ((v.1 + (1:Int32)), r472.2, r530.2) rfl)
   ·refine zF Ad W (t := 141) (f := 139) rfl (XT.ii_eq_f hc531) ?_
    refine zS Ad W 1 (st' := (140, [vR 1, vR 11, vI x2, vI v.1], [.int (0:Int32)], (H1 s r472.2 r530.2))) rfl ?_
    obtain rfl := Option.some.inj h
    obtain ⟨rfl, rfl⟩ := hx1 ((0:Int32), r472.2, r530.2) rfl
    exact QTri.retZ rfl rfl
  ·refine zT Ad W (t := 139) (f := 124) rfl (XT.ii_ne_t hc414) ?_
   refine zS Ad W 1 (st' := (140, [vR 1, vR 11, vI x2, vI v.1], [.int (0:Int32)], (H1 s v.2.1 v.2.2))) rfl ?_
   obtain rfl := Option.some.inj h
   obtain ⟨rfl, rfl⟩ := hx1 ((0:Int32), v.2.1, v.2.2) rfl
   exact QTri.retZ rfl rfl
 ·refine zT Ad W (t := 147) (f := 109) rfl (XT.ii_ge_t hc399) ?_
  obtain rfl := Option.some.inj h
  exact zM [tt,tt,tt,ff] (hx0 (v.2.1, v.2.2) rfl)
def B29_26 (v : Int32 × Ob × Ob) : Option (((Int32 × Ob × Ob)) ⊕ (Int32 × Ob × Ob)) :=
  (if v.1 < (5 : Int32) then (F31 v.2.1 v.1).bind fun r351 => (F31 v.2.2 v.1).bind fun r363 => (if r351 = r363 then (F33 v.2.1 v.1).bind fun r368 => (F33 v.2.2 v.1).bind fun r372 => (if r368 = r372 then (F34 v.2.1 v.1).bind fun r379 => (F34 v.2.2 v.1).bind fun r385 => (if r379 = r385 then (F26 v.2.1 v.1).bind fun r387 => (F26 v.2.2 v.1).bind fun r391 => (if r387 = r391 then (F28 v.2.1 v.1).bind fun r393 => (F28 v.2.2 v.1).bind fun r397 => (if r393 = r397 then ((loopN (B29_104 v.1) qN ((0 : Int32), v.2.1, v.2.2)).bind fun e532 => match e532 with | .inl e532a => some (.inr ((v.1 + (1 : Int32)), e532a.1, e532a.2)) | .inr e532a => some (.inl e532a)) else some (.inl ((0 : Int32), v.2.1, v.2.2))) else some (.inl ((0 : Int32), v.2.1, v.2.2))) else some (.inl ((0 : Int32), v.2.1, v.2.2))) else some (.inl ((0 : Int32), v.2.1, v.2.2))) else some (.inl ((0 : Int32), v.2.1, v.2.2))) else some (.inl ((1 : Int32), v.2.1, v.2.2)))
theorem tB29_26 (Ad : QAd n0 ad) (W : QW Z a0) (s : List Int32) (v : Int32 × Ob × Ob) {r : ((Int32 × Ob × Ob)) ⊕ (Int32 × Ob × Ob)} {u : Option Value} {τ : QHeap} (h : B29_26 v = some r) (hx0 : ∀ x : Int32 × Ob × Ob, r = .inl x → u = (some (Value.int x.1)) ∧ τ = (H1 s x.2.1 x.2.2)) (hc : ∀ x : Int32 × Ob × Ob, r = .inr x → QTri l Z n0 ad 29 (26, [vR 1, vR 11, vI x.1, none], [], (H1 s x.2.1 x.2.2)) u τ) : QTri l Z n0 ad 29 (26, [vR 1, vR 11, vI v.1, none], [], (H1 s v.2.1 v.2.2)) u τ := by
 unfold B29_26 at h
 refine zS Ad W 2 (st' := (28, [vR 1, vR 11, vI v.1, none], [.int (5:Int32), .int v.1], (H1 s v.2.1 v.2.2))) rfl ?_
 rcases qite h with ⟨hc342, h⟩ | ⟨hc342, h⟩
 ·refine zF Ad W (t := 153) (f := 31) rfl (XT.ii_ge_f hc342) ?_
  refine zS Ad W 2 (st' := (33, [vR 1, vR 11, vI v.1, none], [.int v.1, .ref 1], (H1 s v.2.1 v.2.2))) rfl ?_
  obtain ⟨r351, hr351, h⟩ := bind_eq_some_iff.mp h
  refine QTri.callV W (a := 1) (as := [.int v.1]) (rest := []) (w := (some (.int r351))) (σ₁ := (H1 s v.2.1 v.2.2)) rfl rfl rfl rfl rfl rfl rfl rfl (tF31 Ad W s v.2.2 v.2.1 v.1 hr351) ?_
  refine zS Ad W 2 (st' := (38, [vR 1, vR 11, vI v.1, none], [.int v.1, .ref 11, .int r351], (H1 s v.2.1 v.2.2))) rfl ?_
  obtain ⟨r363, hr363, h⟩ := bind_eq_some_iff.mp h
  refine QTri.callV W (a := 11) (as := [.int v.1]) (rest := [.int r351]) (w := (some (.int r363))) (σ₁ := (H1 s v.2.1 v.2.2)) rfl rfl rfl rfl rfl rfl rfl rfl (tF31a1 Ad W s v.2.1 v.2.2 v.1 hr363) ?_
  rcases qite h with ⟨hc364, h⟩ | ⟨hc364, h⟩
  ·refine zF Ad W (t := 57) (f := 44) rfl (XT.ii_ne_f hc364) ?_
   refine zS Ad W 2 (st' := (46, [vR 1, vR 11, vI v.1, none], [.int v.1, .ref 1], (H1 s v.2.1 v.2.2))) rfl ?_
   obtain ⟨r368, hr368, h⟩ := bind_eq_some_iff.mp h
   refine QTri.callV W (a := 1) (as := [.int v.1]) (rest := []) (w := (some (.int r368))) (σ₁ := (H1 s v.2.1 v.2.2)) rfl rfl rfl rfl rfl rfl rfl rfl (tF33 Ad W s v.2.2 v.2.1 v.1 hr368) ?_
   refine zS Ad W 2 (st' := (51, [vR 1, vR 11, vI v.1, none], [.int v.1, .ref 11, .int r368], (H1 s v.2.1 v.2.2))) rfl ?_
   obtain ⟨r372, hr372, h⟩ := bind_eq_some_iff.mp h
   refine QTri.callV W (a := 11) (as := [.int v.1]) (rest := [.int r368]) (w := (some (.int r372))) (σ₁ := (H1 s v.2.1 v.2.2)) rfl rfl rfl rfl rfl rfl rfl rfl (tF33a1 Ad W s v.2.1 v.2.2 v.1 hr372) ?_
   rcases qite h with ⟨hc373, h⟩ | ⟨hc373, h⟩
   ·refine zT Ad W (t := 59) (f := 57) rfl (XT.ii_eq_t hc373) ?_
    refine zS Ad W 2 (st' := (61, [vR 1, vR 11, vI v.1, none], [.int v.1, .ref 1], (H1 s v.2.1 v.2.2))) rfl ?_
    obtain ⟨r379, hr379, h⟩ := bind_eq_some_iff.mp h
    refine QTri.callV W (a := 1) (as := [.int v.1]) (rest := []) (w := (some (.int r379))) (σ₁ := (H1 s v.2.1 v.2.2)) rfl rfl rfl rfl rfl rfl rfl rfl (tF34 Ad W s v.2.2 v.2.1 v.1 hr379) ?_
    refine zS Ad W 2 (st' := (66, [vR 1, vR 11, vI v.1, none], [.int v.1, .ref 11, .int r379], (H1 s v.2.1 v.2.2))) rfl ?_
    obtain ⟨r385, hr385, h⟩ := bind_eq_some_iff.mp h
    refine QTri.callV W (a := 11) (as := [.int v.1]) (rest := [.int r379]) (w := (some (.int r385))) (σ₁ := (H1 s v.2.1 v.2.2)) rfl rfl rfl rfl rfl rfl rfl rfl (tF34a1 Ad W s v.2.1 v.2.2 v.1 hr385) ?_
    rcases qite h with ⟨hc386, h⟩ | ⟨hc386, h⟩
    ·refine zF Ad W (t := 85) (f := 72) rfl (XT.ii_ne_f hc386) ?_
     refine zS Ad W 2 (st' := (74, [vR 1, vR 11, vI v.1, none], [.int v.1, .ref 1], (H1 s v.2.1 v.2.2))) rfl ?_
     obtain ⟨r387, hr387, h⟩ := bind_eq_some_iff.mp h
     refine QTri.callV W (a := 1) (as := [.int v.1]) (rest := []) (w := (some (.int r387))) (σ₁ := (H1 s v.2.1 v.2.2)) rfl rfl rfl rfl rfl rfl rfl rfl (tF26 Ad W s v.2.2 v.2.1 v.1 hr387) ?_
     refine zS Ad W 2 (st' := (79, [vR 1, vR 11, vI v.1, none], [.int v.1, .ref 11, .int r387], (H1 s v.2.1 v.2.2))) rfl ?_
     obtain ⟨r391, hr391, h⟩ := bind_eq_some_iff.mp h
     refine QTri.callV W (a := 11) (as := [.int v.1]) (rest := [.int r387]) (w := (some (.int r391))) (σ₁ := (H1 s v.2.1 v.2.2)) rfl rfl rfl rfl rfl rfl rfl rfl (tF26a1 Ad W s v.2.1 v.2.2 v.1 hr391) ?_
     rcases qite h with ⟨hc392, h⟩ | ⟨hc392, h⟩
     ·refine zT Ad W (t := 87) (f := 85) rfl (XT.ii_eq_t hc392) ?_
      refine zS Ad W 2 (st' := (89, [vR 1, vR 11, vI v.1, none], [.int v.1, .ref 1], (H1 s v.2.1 v.2.2))) rfl ?_
      obtain ⟨r393, hr393, h⟩ := bind_eq_some_iff.mp h
      refine QTri.callV W (a := 1) (as := [.int v.1]) (rest := []) (w := (some (.int r393))) (σ₁ := (H1 s v.2.1 v.2.2)) rfl rfl rfl rfl rfl rfl rfl rfl (tF28 Ad W s v.2.2 v.2.1 v.1 hr393) ?_
      refine zS Ad W 2 (st' := (94, [vR 1, vR 11, vI v.1, none], [.int v.1, .ref 11, .int r393], (H1 s v.2.1 v.2.2))) rfl ?_
      obtain ⟨r397, hr397, h⟩ := bind_eq_some_iff.mp h
      refine QTri.callV W (a := 11) (as := [.int v.1]) (rest := [.int r393]) (w := (some (.int r397))) (σ₁ := (H1 s v.2.1 v.2.2)) rfl rfl rfl rfl rfl rfl rfl rfl (tF28a1 Ad W s v.2.1 v.2.2 v.1 hr397) ?_
      rcases qite h with ⟨hc398, h⟩ | ⟨hc398, h⟩
      ·refine zT Ad W (t := 102) (f := 100) rfl (XT.ii_eq_t hc398) ?_
       refine zS Ad W 2 (st' := (104, [vR 1, vR 11, vI v.1, vI (0:Int32)], [], (H1 s v.2.1 v.2.2))) rfl ?_
       obtain ⟨e532, he532, h⟩ := bind_eq_some_iff.mp h
       refine zM [tt,tt,tt,tt] (loopN_tri (B := B29_104 v.1) (T := fun lv533 => QTri l Z n0 ad 29 (104, [vR 1, vR 11, vI v.1, vI lv533.1], [], (H1 s lv533.2.1 lv533.2.2)) u τ) (KE := fun e => match e with | .inl e532a => QTri l Z n0 ad 29 (147, [vR 1, vR 11, vI v.1, none], [], (H1 s e532a.1 e532a.2)) u τ | .inr e532a => u = (some (Value.int e532a.1)) ∧ τ = (H1 s e532a.2.1 e532a.2.2)) (fun lv533 r hB hE hC => tB29_104 Ad W s v.1 lv533 hB (fun x q => hE _ q) (fun x q => hE _ q) (fun x q => hC x q)) qN ((0:Int32), v.2.1, v.2.2) e532 he532 ?_)
       rcases e532 with e532a | e532a
       ·refine zS Ad W 2 (st' := (26, [vR 1, vR 11, vI (v.1 + (1:Int32)), none], [], (H1 s e532a.1 e532a.2))) rfl ?_
        obtain rfl := Option.some.inj h
        exact zM [tt,tt,tt,ff] (hc ((v.1 + (1:Int32)), e532a.1, e532a.2) rfl)
       ·obtain rfl := Option.some.inj h
        exact hx0 e532a rfl
      ·refine zF Ad W (t := 102) (f := 100) rfl (XT.ii_eq_f hc398) ?_
       refine zS Ad W 1 (st' := (101, [vR 1, vR 11, vI v.1, none], [.int (0:Int32)], (H1 s v.2.1 v.2.2))) rfl ?_
       obtain rfl := Option.some.inj h
       obtain ⟨rfl, rfl⟩ := hx0 ((0:Int32), v.2.1, v.2.2) rfl
       exact QTri.retZ rfl rfl
     ·refine zF Ad W (t := 87) (f := 85) rfl (XT.ii_eq_f hc392) ?_
      refine zS Ad W 1 (st' := (86, [vR 1, vR 11, vI v.1, none], [.int (0:Int32)], (H1 s v.2.1 v.2.2))) rfl ?_
      obtain rfl := Option.some.inj h
      obtain ⟨rfl, rfl⟩ := hx0 ((0:Int32), v.2.1, v.2.2) rfl
      exact QTri.retZ rfl rfl
    ·refine zT Ad W (t := 85) (f := 72) rfl (XT.ii_ne_t hc386) ?_
     refine zS Ad W 1 (st' := (86, [vR 1, vR 11, vI v.1, none], [.int (0:Int32)], (H1 s v.2.1 v.2.2))) rfl ?_
     obtain rfl := Option.some.inj h
     obtain ⟨rfl, rfl⟩ := hx0 ((0:Int32), v.2.1, v.2.2) rfl
     exact QTri.retZ rfl rfl
   ·refine zF Ad W (t := 59) (f := 57) rfl (XT.ii_eq_f hc373) ?_
    refine zS Ad W 1 (st' := (58, [vR 1, vR 11, vI v.1, none], [.int (0:Int32)], (H1 s v.2.1 v.2.2))) rfl ?_
    obtain rfl := Option.some.inj h
    obtain ⟨rfl, rfl⟩ := hx0 ((0:Int32), v.2.1, v.2.2) rfl
    exact QTri.retZ rfl rfl
  ·refine zT Ad W (t := 57) (f := 44) rfl (XT.ii_ne_t hc364) ?_
   refine zS Ad W 1 (st' := (58, [vR 1, vR 11, vI v.1, none], [.int (0:Int32)], (H1 s v.2.1 v.2.2))) rfl ?_
   obtain rfl := Option.some.inj h
   obtain ⟨rfl, rfl⟩ := hx0 ((0:Int32), v.2.1, v.2.2) rfl
   exact QTri.retZ rfl rfl
 ·refine zT Ad W (t := 153) (f := 31) rfl (XT.ii_ge_t hc342) ?_
  refine zS Ad W 1 (st' := (154, [vR 1, vR 11, vI v.1, none], [.int (1:Int32)], (H1 s v.2.1 v.2.2))) rfl ?_
  obtain rfl := Option.some.inj h
  obtain ⟨rfl, rfl⟩ := hx0 ((1:Int32), v.2.1, v.2.2) rfl
  exact QTri.retZ rfl rfl
/-- same(LSliceAggregate;LSliceAggregate;)Z -/
def F29 (o1 : Ob) (o2 : Ob) : Option (Int32 × Ob × Ob) :=
 (F25 o1).bind fun r336 => (F25 o2).bind fun r337 => (if r336 = r337 then (F30 o1).bind fun r339 => (F30 o2).bind fun r340 => (if r339 = r340 then (loopN (B29_26) qN ((0:Int32), o1, o2)).bind fun e534 => some e534 else some ((0:Int32), o1, o2)) else some ((0:Int32), o1, o2))
theorem tF29 (Ad : QAd n0 ad) (W : QW Z a0) (s : List Int32) (o1 : Ob) (o2 : Ob) {r : Int32 × Ob × Ob} (h : F29 o1 o2 = some r) : QTri l Z n0 ad 29 (0, qentry [.ref 1, .ref 11] (pMaxL 29), [], (H1 s o1 o2)) (some (Value.int r.1)) (H1 s r.2.1 r.2.2) := by
 unfold F29 at h
 refine zS Ad W 1 (st' := (1, [vR 1, vR 11, none, none], [.ref 1], (H1 s o1 o2))) rfl ?_
 obtain ⟨r336, hr336, h⟩ := bind_eq_some_iff.mp h
 refine QTri.callV W (a := 1) (as := []) (rest := []) (w := (some (.int r336))) (σ₁ := (H1 s o1 o2)) rfl rfl rfl rfl rfl rfl rfl rfl (tF25 Ad W s o2 o1 hr336) ?_
 refine zS Ad W 1 (st' := (5, [vR 1, vR 11, none, none], [.ref 11, .int r336], (H1 s o1 o2))) rfl ?_
 obtain ⟨r337, hr337, h⟩ := bind_eq_some_iff.mp h
 refine QTri.callV W (a := 11) (as := []) (rest := [.int r336]) (w := (some (.int r337))) (σ₁ := (H1 s o1 o2)) rfl rfl rfl rfl rfl rfl rfl rfl (tF25a1 Ad W s o1 o2 hr337) ?_
 rcases qite h with ⟨hc338, h⟩ | ⟨hc338, h⟩
 ·refine zF Ad W (t := 22) (f := 11) rfl (XT.ii_ne_f hc338) ?_
  refine zS Ad W 1 (st' := (12, [vR 1, vR 11, none, none], [.ref 1], (H1 s o1 o2))) rfl ?_
  obtain ⟨r339, hr339, h⟩ := bind_eq_some_iff.mp h
  refine QTri.callV W (a := 1) (as := []) (rest := []) (w := (some (.int r339))) (σ₁ := (H1 s o1 o2)) rfl rfl rfl rfl rfl rfl rfl rfl (tF30 Ad W s o2 o1 hr339) ?_
  refine zS Ad W 1 (st' := (16, [vR 1, vR 11, none, none], [.ref 11, .int r339], (H1 s o1 o2))) rfl ?_
  obtain ⟨r340, hr340, h⟩ := bind_eq_some_iff.mp h
  refine QTri.callV W (a := 11) (as := []) (rest := [.int r339]) (w := (some (.int r340))) (σ₁ := (H1 s o1 o2)) rfl rfl rfl rfl rfl rfl rfl rfl (tF30a1 Ad W s o1 o2 hr340) ?_
  rcases qite h with ⟨hc341, h⟩ | ⟨hc341, h⟩
  ·refine zT Ad W (t := 24) (f := 22) rfl (XT.ii_eq_t hc341) ?_
   refine zS Ad W 2 (st' := (26, [vR 1, vR 11, vI (0:Int32), none], [], (H1 s o1 o2))) rfl ?_
   obtain ⟨e534, he534, h⟩ := bind_eq_some_iff.mp h
   refine zM [tt,tt,tt,ff] (loopN_tri (B := B29_26) (T := fun lv535 => QTri l Z n0 ad 29 (26, [vR 1, vR 11, vI lv535.1, none], [], (H1 s lv535.2.1 lv535.2.2)) (some (Value.int r.1)) (H1 s r.2.1 r.2.2)) (KE := fun e534a => (some (Value.int r.1)) = (some (Value.int e534a.1)) ∧ (H1 s r.2.1 r.2.2) = (H1 s e534a.2.1 e534a.2.2)) (fun lv535 r hB hE hC => tB29_26 Ad W s lv535 hB (fun x q => hE _ q) (fun x q => hC x q)) qN ((0:Int32), o1, o2) e534 he534 ?_)
   obtain rfl := Option.some.inj h
   exact ⟨rfl, rfl⟩
  ·refine zF Ad W (t := 24) (f := 22) rfl (XT.ii_eq_f hc341) ?_
   refine zS Ad W 1 (st' := (23, [vR 1, vR 11, none, none], [.int (0:Int32)], (H1 s o1 o2))) rfl ?_
   obtain rfl := Option.some.inj h
   exact QTri.retZ rfl rfl
 ·refine zT Ad W (t := 22) (f := 11) rfl (XT.ii_ne_t hc338) ?_
  refine zS Ad W 1 (st' := (23, [vR 1, vR 11, none, none], [.int (0:Int32)], (H1 s o1 o2))) rfl ?_
  obtain rfl := Option.some.inj h
  exact QTri.retZ rfl rfl
def H1x34 (s : List Int32) (o0 o1 : Ob) (a0_6 : List Int32) : QHeap := H1v s (f_regTuple o0) (f_regA o0) (f_regB o0) (f_regC o0) (f_regCount o0) (f_slots o0) a0_6 (f_slide o0) (f_frontSize o0) (f_backSize o0) (f_backElem o0) (f_frontAgg o0) (f_backAgg o0) (f_snap o0) (f_reg o0) (f_capacity o0) (f_queries o0) (f_n o0) (f_regTuple o1) (f_regA o1) (f_regB o1) (f_regC o1) (f_regCount o1) (f_slots o1) (f_range o1) (f_slide o1) (f_frontSize o1) (f_backSize o1) (f_backElem o1) (f_frontAgg o1) (f_backAgg o1) (f_snap o1) (f_reg o1) (f_capacity o1) (f_queries o1) (f_n o1)
def H1x35 (s : List Int32) (o0 o1 : Ob) (a0_6 : List Int32) (a0_7 : List Int32) : QHeap := H1v s (f_regTuple o0) (f_regA o0) (f_regB o0) (f_regC o0) (f_regCount o0) (f_slots o0) a0_6 a0_7 (f_frontSize o0) (f_backSize o0) (f_backElem o0) (f_frontAgg o0) (f_backAgg o0) (f_snap o0) (f_reg o0) (f_capacity o0) (f_queries o0) (f_n o0) (f_regTuple o1) (f_regA o1) (f_regB o1) (f_regC o1) (f_regCount o1) (f_slots o1) (f_range o1) (f_slide o1) (f_frontSize o1) (f_backSize o1) (f_backElem o1) (f_frontAgg o1) (f_backAgg o1) (f_snap o1) (f_reg o1) (f_capacity o1) (f_queries o1) (f_n o1)
def H1x36 (s : List Int32) (o0 o1 : Ob) (a0_16 : Int32) : QHeap := H1v s (f_regTuple o0) (f_regA o0) (f_regB o0) (f_regC o0) (f_regCount o0) (f_slots o0) (f_range o0) (f_slide o0) (f_frontSize o0) (f_backSize o0) (f_backElem o0) (f_frontAgg o0) (f_backAgg o0) (f_snap o0) (f_reg o0) (f_capacity o0) a0_16 (f_n o0) (f_regTuple o1) (f_regA o1) (f_regB o1) (f_regC o1) (f_regCount o1) (f_slots o1) (f_range o1) (f_slide o1) (f_frontSize o1) (f_backSize o1) (f_backElem o1) (f_frontAgg o1) (f_backAgg o1) (f_snap o1) (f_reg o1) (f_capacity o1) (f_queries o1) (f_n o1)
theorem tF10a2 (Ad : QAd n0 ad) (W : QW Z a0) (s : List Int32) (e0 : Ob) (o : Ob) (x1 : Int32) (x2 : Int32) {r : Int32 × Ob} (h : F10 o x1 x2 = some r) : QTri l Z n0 ad 10 (0, qentry [.ref 1, .int x1, .int x2] (pMaxL 10), [], (H1 s o e0)) (some (Value.int r.1)) (H1 s r.2 e0) := by
 unfold F10 at h
 refine zS Ad W 2 (st' := (4, [vR 1, vI x1, vI x2, none], [.int (f_n o)], (H1 s o e0))) rfl ?_
 rcases qite h with ⟨hc545, h⟩ | ⟨hc545, h⟩
 ·refine zT Ad W (t := 9) (f := 7) rfl (XT.i0_eq_t hc545) ?_
  refine zS Ad W 4 (st' := (17, [vR 1, vI x1, vI x2, none], [.int (f_capacity o), .int (f_queries o)], (H1 s o e0))) rfl ?_
  rcases qite h with ⟨hc546, h⟩ | ⟨hc546, h⟩
  ·refine zT Ad W (t := 22) (f := 20) rfl (XT.ii_lt_t hc546) ?_
   refine zS Ad W 2 (st' := (24, [vR 1, vI x1, vI x2, none], [.int (1:Int32), .int x1], (H1 s o e0))) rfl ?_
   rcases qite h with ⟨hc547, h⟩ | ⟨hc547, h⟩
   ·refine zT Ad W (t := 33) (f := 27) rfl (XT.ii_lt_t hc547) ?_
    refine zS Ad W 1 (st' := (34, [vR 1, vI x1, vI x2, none], [.int (-1:Int32)], (H1 s o e0))) rfl ?_
    obtain rfl := Option.some.inj h
    exact QTri.retI rfl rfl
   ·refine zF Ad W (t := 33) (f := 27) rfl (XT.ii_lt_f hc547) ?_
    refine zS Ad W 2 (st' := (30, [vR 1, vI x1, vI x2, none], [.int (32:Int32), .int x1], (H1 s o e0))) rfl ?_
    rcases qite h with ⟨hc548, h⟩ | ⟨hc548, h⟩
    ·refine zF Ad W (t := 35) (f := 33) rfl (XT.ii_le_f hc548) ?_
     refine zS Ad W 1 (st' := (34, [vR 1, vI x1, vI x2, none], [.int (-1:Int32)], (H1 s o e0))) rfl ?_
     obtain rfl := Option.some.inj h
     exact QTri.retI rfl rfl
    ·refine zT Ad W (t := 35) (f := 33) rfl (XT.ii_le_t hc548) ?_
     refine zS Ad W 2 (st' := (37, [vR 1, vI x1, vI x2, none], [.int (1:Int32), .int x2], (H1 s o e0))) rfl ?_
     rcases qite h with ⟨hc549, h⟩ | ⟨hc549, h⟩
     ·refine zT Ad W (t := 46) (f := 40) rfl (XT.ii_lt_t hc549) ?_
      refine zS Ad W 1 (st' := (47, [vR 1, vI x1, vI x2, none], [.int (-1:Int32)], (H1 s o e0))) rfl ?_
      obtain rfl := Option.some.inj h
      exact QTri.retI rfl rfl
     ·refine zF Ad W (t := 46) (f := 40) rfl (XT.ii_lt_f hc549) ?_
      refine zS Ad W 2 (st' := (43, [vR 1, vI x1, vI x2, none], [.int (32:Int32), .int x2], (H1 s o e0))) rfl ?_
      rcases qite h with ⟨hc550, h⟩ | ⟨hc550, h⟩
      ·refine zF Ad W (t := 48) (f := 46) rfl (XT.ii_le_f hc550) ?_
       refine zS Ad W 1 (st' := (47, [vR 1, vI x1, vI x2, none], [.int (-1:Int32)], (H1 s o e0))) rfl ?_
       obtain rfl := Option.some.inj h
       exact QTri.retI rfl rfl
      ·refine zT Ad W (t := 48) (f := 46) rfl (XT.ii_le_t hc550) ?_
       refine zS Ad W 7 (st' := (59, [vR 1, vI x1, vI x2, vI (f_queries o)], [.int x1, .int (f_queries o), .ref 2], (H1 s o e0))) rfl ?_
       obtain ⟨y551, hy551, h⟩ := bind_eq_some_iff.mp h
       refine zB Ad W (f := fun y551 => (60, [vR 1, vI x1, vI x2, vI (f_queries o)], [], (H1x34 s o e0 y551))) rfl hy551 ?_
       refine zS Ad W 4 (st' := (66, [vR 1, vI x1, vI x2, vI (f_queries o)], [.int x2, .int (f_queries o), .ref 3], (H1x34 s o e0 y551))) rfl ?_
       obtain ⟨y552, hy552, h⟩ := bind_eq_some_iff.mp h
       refine zB Ad W (f := fun y552 => (67, [vR 1, vI x1, vI x2, vI (f_queries o)], [], (H1x35 s o e0 y551 y552))) rfl hy552 ?_
       refine zS Ad W 2 (st' := (69, [vR 1, vI x1, vI x2, vI (f_queries o)], [.int (f_queries o), .ref 1], (H1x35 s o e0 y551 y552))) rfl ?_
       have E553 : ((H1x35 s o e0 y551 y552) : QHeap) = (H1 s (s_slide (s_range o y551) y552) e0) := by simp only [fs, H1, H1v, H1x35, s_range, s_slide]
       rw [E553]
       obtain ⟨r554, hr554, h⟩ := bind_eq_some_iff.mp h
       refine QTri.callP W (a := 1) (as := [.int (f_queries o)]) (rest := []) (w := none) (σ₁ := (H1 s r554 e0)) rfl rfl rfl rfl rfl rfl rfl rfl (tF2a2 Ad W s e0 (s_slide (s_range o y551) y552) (f_queries o) hr554) ?_
       refine zS Ad W 6 (st' := (82, [vR 1, vI x1, vI x2, vI (f_queries o)], [], (H1x36 s r554 e0 ((f_queries r554) + (1:Int32))))) rfl ?_
       refine zS Ad W 1 (st' := (83, [vR 1, vI x1, vI x2, vI (f_queries o)], [.int (f_queries o)], (H1x36 s r554 e0 ((f_queries r554) + (1:Int32))))) rfl ?_
       have E555 : ((H1x36 s r554 e0 ((f_queries r554) + (1:Int32))) : QHeap) = (H1 s (s_queries r554 ((f_queries r554) + (1:Int32))) e0) := by simp only [fs, H1, H1v, H1x36, s_queries]
       rw [E555]
       obtain rfl := Option.some.inj h
       exact QTri.retI rfl rfl
  ·refine zF Ad W (t := 22) (f := 20) rfl (XT.ii_lt_f hc546) ?_
   refine zS Ad W 1 (st' := (21, [vR 1, vI x1, vI x2, none], [.int (-1:Int32)], (H1 s o e0))) rfl ?_
   obtain rfl := Option.some.inj h
   exact QTri.retI rfl rfl
 ·refine zF Ad W (t := 9) (f := 7) rfl (XT.i0_eq_f hc545) ?_
  refine zS Ad W 1 (st' := (8, [vR 1, vI x1, vI x2, none], [.int (-1:Int32)], (H1 s o e0))) rfl ?_
  obtain rfl := Option.some.inj h
  exact QTri.retI rfl rfl
def H1x37 (s : List Int32) (o0 o1 : Ob) (a0_10 : List Int32) : QHeap := H1v s (f_regTuple o0) (f_regA o0) (f_regB o0) (f_regC o0) (f_regCount o0) (f_slots o0) (f_range o0) (f_slide o0) (f_frontSize o0) (f_backSize o0) a0_10 (f_frontAgg o0) (f_backAgg o0) (f_snap o0) (f_reg o0) (f_capacity o0) (f_queries o0) (f_n o0) (f_regTuple o1) (f_regA o1) (f_regB o1) (f_regC o1) (f_regCount o1) (f_slots o1) (f_range o1) (f_slide o1) (f_frontSize o1) (f_backSize o1) (f_backElem o1) (f_frontAgg o1) (f_backAgg o1) (f_snap o1) (f_reg o1) (f_capacity o1) (f_queries o1) (f_n o1)
theorem tB14_34a1 (Ad : QAd n0 ad) (W : QW Z a0) (s : List Int32) (e0 : Ob) (x4 : Int32) (x5 : Int32) (v : Int32 × Ob) {r : ((Ob)) ⊕ (Int32 × Ob)} {u : Option Value} {τ : QHeap} (h : B14_34 x4 x5 v = some r) (hx0 : ∀ x : Ob, r = .inl x → u = (none : Option Value) ∧ τ = (H1 s x e0)) (hc : ∀ x : Int32 × Ob, r = .inr x → QTri l Z n0 ad 14 (34, [vR 1, none, none, none, vI x4, vI x5, vI x.1], [], (H1 s x.2 e0)) u τ) : QTri l Z n0 ad 14 (34, [vR 1, none, none, none, vI x4, vI x5, vI v.1], [], (H1 s v.2 e0)) u τ := by
 unfold B14_34 at h
 refine zS Ad W 2 (st' := (37, [vR 1, none, none, none, vI x4, vI x5, vI v.1], [.int (4:Int32), .int v.1], (H1 s v.2 e0))) rfl ?_
 rcases qite h with ⟨hc576, h⟩ | ⟨hc576, h⟩
 ·refine zF Ad W (t := 66) (f := 40) rfl (XT.ii_ge_f hc576) ?_
  refine zS Ad W 10 (st' := (58, [vR 1, none, none, none, vI x4, vI x5, vI v.1], [.int (x5 + v.1), .ref 10, .int (x4 + v.1), .ref 6], (H1 s v.2 e0))) rfl ?_
  obtain ⟨y577, hy577, h⟩ := bind_eq_some_iff.mp h
  refine zB Ad W (f := fun y577 => (59, [vR 1, none, none, none, vI x4, vI x5, vI v.1], [.int y577, .int (x4 + v.1), .ref 6], (H1 s v.2 e0))) rfl hy577 ?_
  obtain ⟨y578, hy578, h⟩ := bind_eq_some_iff.mp h
  refine zB Ad W (f := fun y578 => (60, [vR 1, none, none, none, vI x4, vI x5, vI v.1], [], (H1x37 s v.2 e0 y578))) rfl hy578 ?_
  refine zS Ad W 2 (st' := (34, [vR 1, none, none, none, vI x4, vI x5, vI (v.1 + (1:Int32))], [], (H1x37 s v.2 e0 y578))) rfl ?_
  have E579 : ((H1x37 s v.2 e0 y578) : QHeap) = (H1 s (s_backElem v.2 y578) e0) := by simp only [fs, H1, H1v, H1x37, s_backElem]
  rw [E579]
  obtain rfl := Option.some.inj h
  exact zM [tt,ff,ff,ff,tt,tt,tt] (hc ((v.1 + (1:Int32)), (s_backElem v.2 y578)) rfl)
 ·refine zT Ad W (t := 66) (f := 40) rfl (XT.ii_ge_t hc576) ?_
  obtain rfl := Option.some.inj h
  obtain ⟨rfl, rfl⟩ := hx0 v.2 rfl
  exact QTri.ret0 rfl rfl
theorem tF14a1 (Ad : QAd n0 ad) (W : QW Z a0) (s : List Int32) (e0 : Ob) (o : Ob) (x1 : Int32) (x2 : Int32) (x3 : Int32) {r : Ob} (h : F14 o x1 x2 x3 = some r) : QTri l Z n0 ad 14 (0, qentry [.ref 1, .int x1, .int x2, .int x3] (pMaxL 14), [], (H1 s o e0)) (none : Option Value) (H1 s r e0) := by
 unfold F14 at h
 refine zS Ad W 2 (st' := (2, [vR 1, vI x1, vI x2, vI x3, none, none, none], [.int x3, .ref 1], (H1 s o e0))) rfl ?_
 obtain ⟨r571, hr571, h⟩ := bind_eq_some_iff.mp h
 refine QTri.callP W (a := 1) (as := [.int x3]) (rest := []) (w := (some (.int r571))) (σ₁ := (H1 s o e0)) rfl rfl rfl rfl rfl rfl rfl rfl (tF5 Ad W x3 hr571) ?_
 rcases qite h with ⟨hc572, h⟩ | ⟨hc572, h⟩
 ·refine zT Ad W (t := 17) (f := 8) rfl (XT.i0_eq_t hc572) ?_
  obtain rfl := Option.some.inj h
  exact QTri.ret0 rfl rfl
 ·refine zF Ad W (t := 17) (f := 8) rfl (XT.i0_eq_f hc572) ?_
  refine zS Ad W 3 (st' := (11, [vR 1, vI x1, vI x2, vI x3, none, none, none], [.int x2, .int x1, .ref 1], (H1 s o e0))) rfl ?_
  obtain ⟨r573, hr573, h⟩ := bind_eq_some_iff.mp h
  refine QTri.callP W (a := 1) (as := [.int x1, .int x2]) (rest := []) (w := (some (.int r573))) (σ₁ := (H1 s o e0)) rfl rfl rfl rfl rfl rfl rfl rfl (tF13 Ad W x1 x2 hr573) ?_
  rcases qite h with ⟨hc574, h⟩ | ⟨hc574, h⟩
  ·refine zF Ad W (t := 18) (f := 17) rfl (XT.i0_ne_f hc574) ?_
   obtain rfl := Option.some.inj h
   exact QTri.ret0 rfl rfl
  ·refine zT Ad W (t := 18) (f := 17) rfl (XT.i0_ne_t hc574) ?_
   refine zS Ad W 3 (st' := (21, [vR 1, vI x1, vI x2, vI x3, none, none, none], [.int x2, .int x1, .ref 1], (H1 s o e0))) rfl ?_
   obtain ⟨r575, hr575, h⟩ := bind_eq_some_iff.mp h
   refine QTri.callP W (a := 1) (as := [.int x1, .int x2]) (rest := []) (w := (some (.int r575))) (σ₁ := (H1 s o e0)) rfl rfl rfl rfl rfl rfl rfl rfl (tF15 Ad W x1 x2 hr575) ?_
   refine zS Ad W 5 (st' := (31, [vR 1, vI x1, vI x2, vI x3, vI r575, vI (x3 * (4:Int32)), none], [], (H1 s o e0))) rfl ?_
   refine zS Ad W 2 (st' := (34, [vR 1, vI x1, vI x2, vI x3, vI r575, vI (x3 * (4:Int32)), vI (0:Int32)], [], (H1 s o e0))) rfl ?_
   obtain ⟨e580, he580, h⟩ := bind_eq_some_iff.mp h
   refine zM [tt,ff,ff,ff,tt,tt,tt] (loopN_tri (B := B14_34 r575 (x3 * (4:Int32))) (T := fun lv581 => QTri l Z n0 ad 14 (34, [vR 1, none, none, none, vI r575, vI (x3 * (4:Int32)), vI lv581.1], [], (H1 s lv581.2 e0)) (none : Option Value) (H1 s r e0)) (KE := fun e580a => (none : Option Value) = (none : Option Value) ∧ (H1 s r e0) = (H1 s e580a e0)) (fun lv581 r hB hE hC => tB14_34a1 Ad W s e0 r575 (x3 * (4:Int32)) lv581 hB (fun x q => hE _ q) (fun x q => hC x q)) qN ((0:Int32), o) e580 he580 ?_)
   obtain rfl := Option.some.inj h
   exact ⟨rfl, rfl⟩
def H1x38 (s : List Int32) (o0 o1 : Ob) (a0_9 : List Int32) : QHeap := H1v s (f_regTuple o0) (f_regA o0) (f_regB o0) (f_regC o0) (f_regCount o0) (f_slots o0) (f_range o0) (f_slide o0) (f_frontSize o0) a0_9 (f_backElem o0) (f_frontAgg o0) (f_backAgg o0) (f_snap o0) (f_reg o0) (f_capacity o0) (f_queries o0) (f_n o0) (f_regTuple o1) (f_regA o1) (f_regB o1) (f_regC o1) (f_regCount o1) (f_slots o1) (f_range o1) (f_slide o1) (f_frontSize o1) (f_backSize o1) (f_backElem o1) (f_frontAgg o1) (f_backAgg o1) (f_snap o1) (f_reg o1) (f_capacity o1) (f_queries o1) (f_n o1)
theorem tJ12_39a1 (Ad : QAd n0 ad) (W : QW Z a0) (s : List Int32) (e0 : Ob) (o : Ob) (x1 : Int32) {r : Ob} (h : J12_39 o x1 = some r) : QTri l Z n0 ad 12 (39, [vR 1, vI x1, none, none], [], (H1 s o e0)) (none : Option Value) (H1 s r e0) := by
 unfold J12_39 at h
 refine zS Ad W 3 (st' := (44, [vR 1, vI x1, none, none], [.int x1, .ref 5], (H1 s o e0))) rfl ?_
 obtain ⟨y568, hy568, h⟩ := bind_eq_some_iff.mp h
 refine zB Ad W (f := fun y568 => (45, [vR 1, vI x1, none, none], [.int y568], (H1 s o e0))) rfl hy568 ?_
 refine zS Ad W 4 (st' := (49, [vR 1, vI x1, none, vI y568], [.int y568, .int x1, .ref 1], (H1 s o e0))) rfl ?_
 obtain ⟨r569, hr569, h⟩ := bind_eq_some_iff.mp h
 refine QTri.callP W (a := 1) (as := [.int x1, .int y568]) (rest := []) (w := (some (.int r569))) (σ₁ := (H1 s o e0)) rfl rfl rfl rfl rfl rfl rfl rfl (tF13 Ad W x1 y568 hr569) ?_
 rcases qite h with ⟨hc570, h⟩ | ⟨hc570, h⟩
 ·refine zF Ad W (t := 56) (f := 55) rfl (XT.i0_ne_f hc570) ?_
  obtain rfl := Option.some.inj h
  exact QTri.ret0 rfl rfl
 ·refine zT Ad W (t := 56) (f := 55) rfl (XT.i0_ne_t hc570) ?_
  refine zS Ad W 4 (st' := (60, [vR 1, vI x1, none, vI y568], [.int (0:Int32), .int y568, .int x1, .ref 1], (H1 s o e0))) rfl ?_
  obtain ⟨r582, hr582, h⟩ := bind_eq_some_iff.mp h
  refine QTri.callP W (a := 1) (as := [.int x1, .int y568, .int (0:Int32)]) (rest := []) (w := none) (σ₁ := (H1 s r582 e0)) rfl rfl rfl rfl rfl rfl rfl rfl (tF14a1 Ad W s e0 o x1 y568 (0:Int32) hr582) ?_
  refine zS Ad W 3 (st' := (66, [vR 1, vI x1, none, vI y568], [.int x1, .int (1:Int32), .ref 1], (H1 s r582 e0))) rfl ?_
  obtain ⟨r583, hr583, h⟩ := bind_eq_some_iff.mp h
  refine QTri.callP W (a := 1) (as := [.int (1:Int32), .int x1]) (rest := []) (w := none) (σ₁ := (H1 s r583 e0)) rfl rfl rfl rfl rfl rfl rfl rfl (tF16a1 Ad W s e0 r582 (1:Int32) x1 hr583) ?_
  refine zS Ad W 4 (st' := (73, [vR 1, vI x1, none, vI y568], [.int (0:Int32), .int (1:Int32), .int (1:Int32), .ref 1], (H1 s r583 e0))) rfl ?_
  obtain ⟨r584, hr584, h⟩ := bind_eq_some_iff.mp h
  refine QTri.callP W (a := 1) (as := [.int (1:Int32), .int (1:Int32), .int (0:Int32)]) (rest := []) (w := none) (σ₁ := (H1 s r584 e0)) rfl rfl rfl rfl rfl rfl rfl rfl (tF17a1 Ad W s e0 r583 (1:Int32) (1:Int32) (0:Int32) hr584) ?_
  refine zS Ad W 3 (st' := (79, [vR 1, vI x1, none, vI y568], [.int (1:Int32), .int x1, .ref 1], (H1 s r584 e0))) rfl ?_
  obtain ⟨r585, hr585, h⟩ := bind_eq_some_iff.mp h
  refine QTri.callP W (a := 1) (as := [.int x1, .int (1:Int32)]) (rest := []) (w := none) (σ₁ := (H1 s r585 e0)) rfl rfl rfl rfl rfl rfl rfl rfl (tF6a2 Ad W s e0 r584 x1 (1:Int32) hr585) ?_
  refine zS Ad W 6 (st' := (90, [vR 1, vI x1, none, vI y568], [.int (y568 + (1:Int32)), .int x1, .ref 5], (H1 s r585 e0))) rfl ?_
  obtain ⟨y586, hy586, h⟩ := bind_eq_some_iff.mp h
  refine zB Ad W (f := fun y586 => (91, [vR 1, vI x1, none, vI y568], [], (H1x38 s r585 e0 y586))) rfl hy586 ?_
  have E587 : ((H1x38 s r585 e0 y586) : QHeap) = (H1 s (s_backSize r585 y586) e0) := by simp only [fs, H1, H1v, H1x38, s_backSize]
  rw [E587]
  obtain rfl := Option.some.inj h
  exact QTri.ret0 rfl rfl
theorem tB20_34a1 (Ad : QAd n0 ad) (W : QW Z a0) (s : List Int32) (e0 : Ob) (x4 : Int32) (x5 : Int32) (v : Int32 × Ob) {r : ((Ob)) ⊕ (Int32 × Ob)} {u : Option Value} {τ : QHeap} (h : B20_34 x4 x5 v = some r) (hx0 : ∀ x : Ob, r = .inl x → u = (none : Option Value) ∧ τ = (H1 s x e0)) (hc : ∀ x : Int32 × Ob, r = .inr x → QTri l Z n0 ad 20 (34, [vR 1, none, none, none, vI x4, vI x5, vI x.1], [], (H1 s x.2 e0)) u τ) : QTri l Z n0 ad 20 (34, [vR 1, none, none, none, vI x4, vI x5, vI v.1], [], (H1 s v.2 e0)) u τ := by
 unfold B20_34 at h
 refine zS Ad W 2 (st' := (37, [vR 1, none, none, none, vI x4, vI x5, vI v.1], [.int (4:Int32), .int v.1], (H1 s v.2 e0))) rfl ?_
 rcases qite h with ⟨hc601, h⟩ | ⟨hc601, h⟩
 ·refine zF Ad W (t := 66) (f := 40) rfl (XT.ii_ge_f hc601) ?_
  refine zS Ad W 10 (st' := (58, [vR 1, none, none, none, vI x4, vI x5, vI v.1], [.int (x4 + v.1), .ref 6, .int (x5 + v.1), .ref 10], (H1 s v.2 e0))) rfl ?_
  obtain ⟨y602, hy602, h⟩ := bind_eq_some_iff.mp h
  refine zB Ad W (f := fun y602 => (59, [vR 1, none, none, none, vI x4, vI x5, vI v.1], [.int y602, .int (x5 + v.1), .ref 10], (H1 s v.2 e0))) rfl hy602 ?_
  obtain ⟨y603, hy603, h⟩ := bind_eq_some_iff.mp h
  refine zB Ad W (f := fun y603 => (60, [vR 1, none, none, none, vI x4, vI x5, vI v.1], [], (H1x31 s v.2 e0 y603))) rfl hy603 ?_
  refine zS Ad W 2 (st' := (34, [vR 1, none, none, none, vI x4, vI x5, vI (v.1 + (1:Int32))], [], (H1x31 s v.2 e0 y603))) rfl ?_
  have E604 : ((H1x31 s v.2 e0 y603) : QHeap) = (H1 s (s_reg v.2 y603) e0) := by simp only [fs, H1, H1v, H1x31, s_reg]
  rw [E604]
  obtain rfl := Option.some.inj h
  exact zM [tt,ff,ff,ff,tt,tt,tt] (hc ((v.1 + (1:Int32)), (s_reg v.2 y603)) rfl)
 ·refine zT Ad W (t := 66) (f := 40) rfl (XT.ii_ge_t hc601) ?_
  obtain rfl := Option.some.inj h
  obtain ⟨rfl, rfl⟩ := hx0 v.2 rfl
  exact QTri.ret0 rfl rfl
theorem tF20a1 (Ad : QAd n0 ad) (W : QW Z a0) (s : List Int32) (e0 : Ob) (o : Ob) (x1 : Int32) (x2 : Int32) (x3 : Int32) {r : Ob} (h : F20 o x1 x2 x3 = some r) : QTri l Z n0 ad 20 (0, qentry [.ref 1, .int x1, .int x2, .int x3] (pMaxL 20), [], (H1 s o e0)) (none : Option Value) (H1 s r e0) := by
 unfold F20 at h
 refine zS Ad W 2 (st' := (2, [vR 1, vI x1, vI x2, vI x3, none, none, none], [.int x1, .ref 1], (H1 s o e0))) rfl ?_
 obtain ⟨r596, hr596, h⟩ := bind_eq_some_iff.mp h
 refine QTri.callP W (a := 1) (as := [.int x1]) (rest := []) (w := (some (.int r596))) (σ₁ := (H1 s o e0)) rfl rfl rfl rfl rfl rfl rfl rfl (tF5 Ad W x1 hr596) ?_
 rcases qite h with ⟨hc597, h⟩ | ⟨hc597, h⟩
 ·refine zT Ad W (t := 17) (f := 8) rfl (XT.i0_eq_t hc597) ?_
  obtain rfl := Option.some.inj h
  exact QTri.ret0 rfl rfl
 ·refine zF Ad W (t := 17) (f := 8) rfl (XT.i0_eq_f hc597) ?_
  refine zS Ad W 3 (st' := (11, [vR 1, vI x1, vI x2, vI x3, none, none, none], [.int x3, .int x2, .ref 1], (H1 s o e0))) rfl ?_
  obtain ⟨r598, hr598, h⟩ := bind_eq_some_iff.mp h
  refine QTri.callP W (a := 1) (as := [.int x2, .int x3]) (rest := []) (w := (some (.int r598))) (σ₁ := (H1 s o e0)) rfl rfl rfl rfl rfl rfl rfl rfl (tF13 Ad W x2 x3 hr598) ?_
  rcases qite h with ⟨hc599, h⟩ | ⟨hc599, h⟩
  ·refine zF Ad W (t := 18) (f := 17) rfl (XT.i0_ne_f hc599) ?_
   obtain rfl := Option.some.inj h
   exact QTri.ret0 rfl rfl
  ·refine zT Ad W (t := 18) (f := 17) rfl (XT.i0_ne_t hc599) ?_
   refine zS Ad W 3 (st' := (21, [vR 1, vI x1, vI x2, vI x3, none, none, none], [.int x3, .int x2, .ref 1], (H1 s o e0))) rfl ?_
   obtain ⟨r600, hr600, h⟩ := bind_eq_some_iff.mp h
   refine QTri.callP W (a := 1) (as := [.int x2, .int x3]) (rest := []) (w := (some (.int r600))) (σ₁ := (H1 s o e0)) rfl rfl rfl rfl rfl rfl rfl rfl (tF15 Ad W x2 x3 hr600) ?_
   refine zS Ad W 5 (st' := (31, [vR 1, vI x1, vI x2, vI x3, vI r600, vI (x1 * (4:Int32)), none], [], (H1 s o e0))) rfl ?_
   refine zS Ad W 2 (st' := (34, [vR 1, vI x1, vI x2, vI x3, vI r600, vI (x1 * (4:Int32)), vI (0:Int32)], [], (H1 s o e0))) rfl ?_
   obtain ⟨e605, he605, h⟩ := bind_eq_some_iff.mp h
   refine zM [tt,ff,ff,ff,tt,tt,tt] (loopN_tri (B := B20_34 r600 (x1 * (4:Int32))) (T := fun lv606 => QTri l Z n0 ad 20 (34, [vR 1, none, none, none, vI r600, vI (x1 * (4:Int32)), vI lv606.1], [], (H1 s lv606.2 e0)) (none : Option Value) (H1 s r e0)) (KE := fun e605a => (none : Option Value) = (none : Option Value) ∧ (H1 s r e0) = (H1 s e605a e0)) (fun lv606 r hB hE hC => tB20_34a1 Ad W s e0 r600 (x1 * (4:Int32)) lv606 hB (fun x q => hE _ q) (fun x q => hC x q)) qN ((0:Int32), o) e605 he605 ?_)
   obtain rfl := Option.some.inj h
   exact ⟨rfl, rfl⟩
def H1x39 (s : List Int32) (o0 o1 : Ob) (a0_11 : List Int32) : QHeap := H1v s (f_regTuple o0) (f_regA o0) (f_regB o0) (f_regC o0) (f_regCount o0) (f_slots o0) (f_range o0) (f_slide o0) (f_frontSize o0) (f_backSize o0) (f_backElem o0) a0_11 (f_backAgg o0) (f_snap o0) (f_reg o0) (f_capacity o0) (f_queries o0) (f_n o0) (f_regTuple o1) (f_regA o1) (f_regB o1) (f_regC o1) (f_regCount o1) (f_slots o1) (f_range o1) (f_slide o1) (f_frontSize o1) (f_backSize o1) (f_backElem o1) (f_frontAgg o1) (f_backAgg o1) (f_snap o1) (f_reg o1) (f_capacity o1) (f_queries o1) (f_n o1)
theorem tB21_34a1 (Ad : QAd n0 ad) (W : QW Z a0) (s : List Int32) (e0 : Ob) (x4 : Int32) (x5 : Int32) (v : Int32 × Ob) {r : ((Ob)) ⊕ (Int32 × Ob)} {u : Option Value} {τ : QHeap} (h : B21_34 x4 x5 v = some r) (hx0 : ∀ x : Ob, r = .inl x → u = (none : Option Value) ∧ τ = (H1 s x e0)) (hc : ∀ x : Int32 × Ob, r = .inr x → QTri l Z n0 ad 21 (34, [vR 1, none, none, none, vI x4, vI x5, vI x.1], [], (H1 s x.2 e0)) u τ) : QTri l Z n0 ad 21 (34, [vR 1, none, none, none, vI x4, vI x5, vI v.1], [], (H1 s v.2 e0)) u τ := by
 unfold B21_34 at h
 refine zS Ad W 2 (st' := (37, [vR 1, none, none, none, vI x4, vI x5, vI v.1], [.int (4:Int32), .int v.1], (H1 s v.2 e0))) rfl ?_
 rcases qite h with ⟨hc614, h⟩ | ⟨hc614, h⟩
 ·refine zF Ad W (t := 66) (f := 40) rfl (XT.ii_ge_f hc614) ?_
  refine zS Ad W 10 (st' := (58, [vR 1, none, none, none, vI x4, vI x5, vI v.1], [.int (x5 + v.1), .ref 10, .int (x4 + v.1), .ref 7], (H1 s v.2 e0))) rfl ?_
  obtain ⟨y615, hy615, h⟩ := bind_eq_some_iff.mp h
  refine zB Ad W (f := fun y615 => (59, [vR 1, none, none, none, vI x4, vI x5, vI v.1], [.int y615, .int (x4 + v.1), .ref 7], (H1 s v.2 e0))) rfl hy615 ?_
  obtain ⟨y616, hy616, h⟩ := bind_eq_some_iff.mp h
  refine zB Ad W (f := fun y616 => (60, [vR 1, none, none, none, vI x4, vI x5, vI v.1], [], (H1x39 s v.2 e0 y616))) rfl hy616 ?_
  refine zS Ad W 2 (st' := (34, [vR 1, none, none, none, vI x4, vI x5, vI (v.1 + (1:Int32))], [], (H1x39 s v.2 e0 y616))) rfl ?_
  have E617 : ((H1x39 s v.2 e0 y616) : QHeap) = (H1 s (s_frontAgg v.2 y616) e0) := by simp only [fs, H1, H1v, H1x39, s_frontAgg]
  rw [E617]
  obtain rfl := Option.some.inj h
  exact zM [tt,ff,ff,ff,tt,tt,tt] (hc ((v.1 + (1:Int32)), (s_frontAgg v.2 y616)) rfl)
 ·refine zT Ad W (t := 66) (f := 40) rfl (XT.ii_ge_t hc614) ?_
  obtain rfl := Option.some.inj h
  obtain ⟨rfl, rfl⟩ := hx0 v.2 rfl
  exact QTri.ret0 rfl rfl
theorem tF21a1 (Ad : QAd n0 ad) (W : QW Z a0) (s : List Int32) (e0 : Ob) (o : Ob) (x1 : Int32) (x2 : Int32) (x3 : Int32) {r : Ob} (h : F21 o x1 x2 x3 = some r) : QTri l Z n0 ad 21 (0, qentry [.ref 1, .int x1, .int x2, .int x3] (pMaxL 21), [], (H1 s o e0)) (none : Option Value) (H1 s r e0) := by
 unfold F21 at h
 refine zS Ad W 2 (st' := (2, [vR 1, vI x1, vI x2, vI x3, none, none, none], [.int x3, .ref 1], (H1 s o e0))) rfl ?_
 obtain ⟨r609, hr609, h⟩ := bind_eq_some_iff.mp h
 refine QTri.callP W (a := 1) (as := [.int x3]) (rest := []) (w := (some (.int r609))) (σ₁ := (H1 s o e0)) rfl rfl rfl rfl rfl rfl rfl rfl (tF5 Ad W x3 hr609) ?_
 rcases qite h with ⟨hc610, h⟩ | ⟨hc610, h⟩
 ·refine zT Ad W (t := 17) (f := 8) rfl (XT.i0_eq_t hc610) ?_
  obtain rfl := Option.some.inj h
  exact QTri.ret0 rfl rfl
 ·refine zF Ad W (t := 17) (f := 8) rfl (XT.i0_eq_f hc610) ?_
  refine zS Ad W 3 (st' := (11, [vR 1, vI x1, vI x2, vI x3, none, none, none], [.int x2, .int x1, .ref 1], (H1 s o e0))) rfl ?_
  obtain ⟨r611, hr611, h⟩ := bind_eq_some_iff.mp h
  refine QTri.callP W (a := 1) (as := [.int x1, .int x2]) (rest := []) (w := (some (.int r611))) (σ₁ := (H1 s o e0)) rfl rfl rfl rfl rfl rfl rfl rfl (tF13 Ad W x1 x2 hr611) ?_
  rcases qite h with ⟨hc612, h⟩ | ⟨hc612, h⟩
  ·refine zF Ad W (t := 18) (f := 17) rfl (XT.i0_ne_f hc612) ?_
   obtain rfl := Option.some.inj h
   exact QTri.ret0 rfl rfl
  ·refine zT Ad W (t := 18) (f := 17) rfl (XT.i0_ne_t hc612) ?_
   refine zS Ad W 3 (st' := (21, [vR 1, vI x1, vI x2, vI x3, none, none, none], [.int x2, .int x1, .ref 1], (H1 s o e0))) rfl ?_
   obtain ⟨r613, hr613, h⟩ := bind_eq_some_iff.mp h
   refine QTri.callP W (a := 1) (as := [.int x1, .int x2]) (rest := []) (w := (some (.int r613))) (σ₁ := (H1 s o e0)) rfl rfl rfl rfl rfl rfl rfl rfl (tF15 Ad W x1 x2 hr613) ?_
   refine zS Ad W 5 (st' := (31, [vR 1, vI x1, vI x2, vI x3, vI r613, vI (x3 * (4:Int32)), none], [], (H1 s o e0))) rfl ?_
   refine zS Ad W 2 (st' := (34, [vR 1, vI x1, vI x2, vI x3, vI r613, vI (x3 * (4:Int32)), vI (0:Int32)], [], (H1 s o e0))) rfl ?_
   obtain ⟨e618, he618, h⟩ := bind_eq_some_iff.mp h
   refine zM [tt,ff,ff,ff,tt,tt,tt] (loopN_tri (B := B21_34 r613 (x3 * (4:Int32))) (T := fun lv619 => QTri l Z n0 ad 21 (34, [vR 1, none, none, none, vI r613, vI (x3 * (4:Int32)), vI lv619.1], [], (H1 s lv619.2 e0)) (none : Option Value) (H1 s r e0)) (KE := fun e618a => (none : Option Value) = (none : Option Value) ∧ (H1 s r e0) = (H1 s e618a e0)) (fun lv619 r hB hE hC => tB21_34a1 Ad W s e0 r613 (x3 * (4:Int32)) lv619 hB (fun x q => hE _ q) (fun x q => hC x q)) qN ((0:Int32), o) e618 he618 ?_)
   obtain rfl := Option.some.inj h
   exact ⟨rfl, rfl⟩
theorem tB19_23a1 (Ad : QAd n0 ad) (W : QW Z a0) (s : List Int32) (e0 : Ob) (x1 : Int32) (x2 : Int32) (v : Int32 × Ob) {r : ((Ob)) ⊕ (Int32 × Ob)} {u : Option Value} {τ : QHeap} (h : B19_23 x1 x2 v = some r) (hx0 : ∀ x : Ob, r = .inl x → QTri l Z n0 ad 19 (59, [vR 1, vI x1, vI x2, none], [], (H1 s x e0)) u τ) (hc : ∀ x : Int32 × Ob, r = .inr x → QTri l Z n0 ad 19 (23, [vR 1, vI x1, vI x2, vI x.1], [], (H1 s x.2 e0)) u τ) : QTri l Z n0 ad 19 (23, [vR 1, vI x1, vI x2, vI v.1], [], (H1 s v.2 e0)) u τ := by
 unfold B19_23 at h
 refine zS Ad W 2 (st' := (25, [vR 1, vI x1, vI x2, vI v.1], [.int x2, .int v.1], (H1 s v.2 e0))) rfl ?_
 rcases qite h with ⟨hc595, h⟩ | ⟨hc595, h⟩
 ·refine zF Ad W (t := 59) (f := 28) rfl (XT.ii_ge_f hc595) ?_
  refine zS Ad W 8 (st' := (36, [vR 1, vI x1, vI x2, vI v.1], [.int ((x2 - (1:Int32)) - v.1), .int x1, .int (2:Int32), .ref 1], (H1 s v.2 e0))) rfl ?_
  obtain ⟨r607, hr607, h⟩ := bind_eq_some_iff.mp h
  refine QTri.callP W (a := 1) (as := [.int (2:Int32), .int x1, .int ((x2 - (1:Int32)) - v.1)]) (rest := []) (w := none) (σ₁ := (H1 s r607 e0)) rfl rfl rfl rfl rfl rfl rfl rfl (tF20a1 Ad W s e0 v.2 (2:Int32) x1 ((x2 - (1:Int32)) - v.1) hr607) ?_
  refine zS Ad W 4 (st' := (43, [vR 1, vI x1, vI x2, vI v.1], [.int (1:Int32), .int (2:Int32), .int (1:Int32), .ref 1], (H1 s r607 e0))) rfl ?_
  obtain ⟨r608, hr608, h⟩ := bind_eq_some_iff.mp h
  refine QTri.callP W (a := 1) (as := [.int (1:Int32), .int (2:Int32), .int (1:Int32)]) (rest := []) (w := none) (σ₁ := (H1 s r608 e0)) rfl rfl rfl rfl rfl rfl rfl rfl (tF17a1 Ad W s e0 r607 (1:Int32) (2:Int32) (1:Int32) hr608) ?_
  refine zS Ad W 4 (st' := (50, [vR 1, vI x1, vI x2, vI v.1], [.int (1:Int32), .int v.1, .int x1, .ref 1], (H1 s r608 e0))) rfl ?_
  obtain ⟨r620, hr620, h⟩ := bind_eq_some_iff.mp h
  refine QTri.callP W (a := 1) (as := [.int x1, .int v.1, .int (1:Int32)]) (rest := []) (w := none) (σ₁ := (H1 s r620 e0)) rfl rfl rfl rfl rfl rfl rfl rfl (tF21a1 Ad W s e0 r608 x1 v.1 (1:Int32) hr620) ?_
  refine zS Ad W 2 (st' := (23, [vR 1, vI x1, vI x2, vI (v.1 + (1:Int32))], [], (H1 s r620 e0))) rfl ?_
  obtain rfl := Option.some.inj h
  exact zM [tt,tt,tt,tt] (hc ((v.1 + (1:Int32)), r620) rfl)
 ·refine zT Ad W (t := 59) (f := 28) rfl (XT.ii_ge_t hc595) ?_
  obtain rfl := Option.some.inj h
  exact zM [tt,tt,tt,ff] (hx0 v.2 rfl)
theorem tF19a1 (Ad : QAd n0 ad) (W : QW Z a0) (s : List Int32) (e0 : Ob) (o : Ob) (x1 : Int32) {r : Ob} (h : F19 o x1 = some r) : QTri l Z n0 ad 19 (0, qentry [.ref 1, .int x1] (pMaxL 19), [], (H1 s o e0)) (none : Option Value) (H1 s r e0) := by
 unfold F19 at h
 refine zS Ad W 3 (st' := (5, [vR 1, vI x1, none, none], [.int x1, .ref 5], (H1 s o e0))) rfl ?_
 obtain ⟨y590, hy590, h⟩ := bind_eq_some_iff.mp h
 refine zB Ad W (f := fun y590 => (6, [vR 1, vI x1, none, none], [.int y590], (H1 s o e0))) rfl hy590 ?_
 refine zS Ad W 3 (st' := (10, [vR 1, vI x1, vI y590, none], [.int (32:Int32), .int y590], (H1 s o e0))) rfl ?_
 have K592 : ∀ z591 : Int32, z591 = (if (32:Int32) < y590 then (32:Int32) else y590) → QTri l Z n0 ad 19 (16, [vR 1, vI x1, vI z591, none], [], (H1 s o e0)) (none : Option Value) (H1 s r e0) := by
  intro z591 ez591
  subst ez591
  refine zS Ad W 2 (st' := (18, [vR 1, vI x1, vI (if (32:Int32) < y590 then (32:Int32) else y590), none], [.int (1:Int32), .ref 1], (H1 s o e0))) rfl ?_
  obtain ⟨r594, hr594, h⟩ := bind_eq_some_iff.mp h
  refine QTri.callP W (a := 1) (as := [.int (1:Int32)]) (rest := []) (w := none) (σ₁ := (H1 s r594 e0)) rfl rfl rfl rfl rfl rfl rfl rfl (tF3a2 Ad W s e0 o (1:Int32) hr594) ?_
  refine zS Ad W 2 (st' := (23, [vR 1, vI x1, vI (if (32:Int32) < y590 then (32:Int32) else y590), vI (0:Int32)], [], (H1 s r594 e0))) rfl ?_
  obtain ⟨e621, he621, h⟩ := bind_eq_some_iff.mp h
  refine zM [tt,tt,tt,tt] (loopN_tri (B := B19_23 x1 (if (32:Int32) < y590 then (32:Int32) else y590)) (T := fun lv622 => QTri l Z n0 ad 19 (23, [vR 1, vI x1, vI (if (32:Int32) < y590 then (32:Int32) else y590), vI lv622.1], [], (H1 s lv622.2 e0)) (none : Option Value) (H1 s r e0)) (KE := fun e621a => QTri l Z n0 ad 19 (59, [vR 1, vI x1, vI (if (32:Int32) < y590 then (32:Int32) else y590), none], [], (H1 s e621a e0)) (none : Option Value) (H1 s r e0)) (fun lv622 r hB hE hC => tB19_23a1 Ad W s e0 x1 (if (32:Int32) < y590 then (32:Int32) else y590) lv622 hB (fun x q => hE _ q) (fun x q => hC x q)) qN ((0:Int32), r594) e621 he621 ?_)
  refine zS Ad W 4 (st' := (65, [vR 1, vI x1, vI (if (32:Int32) < y590 then (32:Int32) else y590), none], [.int (if (32:Int32) < y590 then (32:Int32) else y590), .int x1, .ref 4], (H1 s e621 e0))) rfl ?_
  obtain ⟨y623, hy623, h⟩ := bind_eq_some_iff.mp h
  refine zB Ad W (f := fun y623 => (66, [vR 1, vI x1, vI (if (32:Int32) < y590 then (32:Int32) else y590), none], [], (H1x29 s e621 e0 y623))) rfl hy623 ?_
  refine zS Ad W 4 (st' := (72, [vR 1, vI x1, vI (if (32:Int32) < y590 then (32:Int32) else y590), none], [.int (0:Int32), .int x1, .ref 5], (H1x29 s e621 e0 y623))) rfl ?_
  obtain ⟨y624, hy624, h⟩ := bind_eq_some_iff.mp h
  refine zB Ad W (f := fun y624 => (73, [vR 1, vI x1, vI (if (32:Int32) < y590 then (32:Int32) else y590), none], [], (H1x30 s e621 e0 y623 y624))) rfl hy624 ?_
  refine zS Ad W 2 (st' := (75, [vR 1, vI x1, vI (if (32:Int32) < y590 then (32:Int32) else y590), none], [.int (1:Int32), .ref 1], (H1x30 s e621 e0 y623 y624))) rfl ?_
  have E625 : ((H1x30 s e621 e0 y623 y624) : QHeap) = (H1 s (s_backSize (s_frontSize e621 y623) y624) e0) := by simp only [fs, H1, H1v, H1x30, s_frontSize, s_backSize]
  rw [E625]
  obtain ⟨r626, hr626, h⟩ := bind_eq_some_iff.mp h
  refine QTri.callP W (a := 1) (as := [.int (1:Int32)]) (rest := []) (w := none) (σ₁ := (H1 s r626 e0)) rfl rfl rfl rfl rfl rfl rfl rfl (tF3a2 Ad W s e0 (s_backSize (s_frontSize e621 y623) y624) (1:Int32) hr626) ?_
  refine zS Ad W 3 (st' := (81, [vR 1, vI x1, vI (if (32:Int32) < y590 then (32:Int32) else y590), none], [.int (1:Int32), .int x1, .ref 1], (H1 s r626 e0))) rfl ?_
  obtain ⟨r627, hr627, h⟩ := bind_eq_some_iff.mp h
  refine QTri.callP W (a := 1) (as := [.int x1, .int (1:Int32)]) (rest := []) (w := none) (σ₁ := (H1 s r627 e0)) rfl rfl rfl rfl rfl rfl rfl rfl (tF6a2 Ad W s e0 r626 x1 (1:Int32) hr627) ?_
  obtain rfl := Option.some.inj h
  exact QTri.ret0 rfl rfl
 rcases em ((32:Int32) < y590) with hc593 | hc593
 ·refine zF Ad W (t := 16) (f := 13) rfl (XT.ii_le_f hc593) ?_
  refine zS Ad W 2 (st' := (16, [vR 1, vI x1, vI (32:Int32), none], [], (H1 s o e0))) rfl ?_
  exact zM [tt,tt,tt,ff] (K592 _ (if_pos hc593).symm)
 ·refine zT Ad W (t := 16) (f := 13) rfl (XT.ii_le_t hc593) ?_
  exact zM [tt,tt,tt,ff] (K592 _ (if_neg hc593).symm)
theorem tJ18_14a1 (Ad : QAd n0 ad) (W : QW Z a0) (s : List Int32) (e0 : Ob) (o : Ob) (x1 : Int32) {r : Ob} (h : J18_14 o x1 = some r) : QTri l Z n0 ad 18 (14, [vR 1, vI x1], [], (H1 s o e0)) (none : Option Value) (H1 s r e0) := by
 unfold J18_14 at h
 refine zS Ad W 3 (st' := (19, [vR 1, vI x1], [.int x1, .ref 4], (H1 s o e0))) rfl ?_
 obtain ⟨y629, hy629, h⟩ := bind_eq_some_iff.mp h
 refine zB Ad W (f := fun y629 => (20, [vR 1, vI x1], [.int y629], (H1 s o e0))) rfl hy629 ?_
 rcases qite h with ⟨hc630, h⟩ | ⟨hc630, h⟩
 ·refine zF Ad W (t := 37) (f := 23) rfl (XT.i0_le_f hc630) ?_
  refine zS Ad W 6 (st' := (33, [vR 1, vI x1], [.int x1, .ref 4, .int x1, .ref 4], (H1 s o e0))) rfl ?_
  obtain ⟨y631, hy631, h⟩ := bind_eq_some_iff.mp h
  refine zB Ad W (f := fun y631 => (34, [vR 1, vI x1], [.int y631, .int x1, .ref 4], (H1 s o e0))) rfl hy631 ?_
  refine zS Ad W 2 (st' := (36, [vR 1, vI x1], [.int (y631 - (1:Int32)), .int x1, .ref 4], (H1 s o e0))) rfl ?_
  obtain ⟨y632, hy632, h⟩ := bind_eq_some_iff.mp h
  refine zB Ad W (f := fun y632 => (37, [vR 1, vI x1], [], (H1x29 s o e0 y632))) rfl hy632 ?_
  have E633 : ((H1x29 s o e0 y632) : QHeap) = (H1 s (s_frontSize o y632) e0) := by simp only [fs, H1, H1v, H1x29, s_frontSize]
  rw [E633]
  obtain rfl := Option.some.inj h
  exact QTri.ret0 rfl rfl
 ·refine zT Ad W (t := 37) (f := 23) rfl (XT.i0_le_t hc630) ?_
  obtain rfl := Option.some.inj h
  exact QTri.ret0 rfl rfl
theorem tF18a1 (Ad : QAd n0 ad) (W : QW Z a0) (s : List Int32) (e0 : Ob) (o : Ob) (x1 : Int32) {r : Ob} (h : F18 o x1 = some r) : QTri l Z n0 ad 18 (0, qentry [.ref 1, .int x1] (pMaxL 18), [], (H1 s o e0)) (none : Option Value) (H1 s r e0) := by
 unfold F18 at h
 refine zS Ad W 3 (st' := (5, [vR 1, vI x1], [.int x1, .ref 4], (H1 s o e0))) rfl ?_
 obtain ⟨y588, hy588, h⟩ := bind_eq_some_iff.mp h
 refine zB Ad W (f := fun y588 => (6, [vR 1, vI x1], [.int y588], (H1 s o e0))) rfl hy588 ?_
 rcases qite h with ⟨hc589, h⟩ | ⟨hc589, h⟩
 ·refine zF Ad W (t := 14) (f := 9) rfl (XT.i0_ne_f hc589) ?_
  refine zS Ad W 2 (st' := (11, [vR 1, vI x1], [.int x1, .ref 1], (H1 s o e0))) rfl ?_
  obtain ⟨r628, hr628, h⟩ := bind_eq_some_iff.mp h
  refine QTri.callP W (a := 1) (as := [.int x1]) (rest := []) (w := none) (σ₁ := (H1 s r628 e0)) rfl rfl rfl rfl rfl rfl rfl rfl (tF19a1 Ad W s e0 o x1 hr628) ?_
  exact zM [tt,tt] (tJ18_14a1 Ad W s e0 r628 x1 h)
 ·refine zT Ad W (t := 14) (f := 9) rfl (XT.i0_ne_t hc589) ?_
  exact zM [tt,tt] (tJ18_14a1 Ad W s e0 o x1 h)
theorem tF12a1 (Ad : QAd n0 ad) (W : QW Z a0) (s : List Int32) (e0 : Ob) (o : Ob) (x1 : Int32) {r : Ob} (h : F12 o x1 = some r) : QTri l Z n0 ad 12 (0, qentry [.ref 1, .int x1] (pMaxL 12), [], (H1 s o e0)) (none : Option Value) (H1 s r e0) := by
 unfold F12 at h
 refine zS Ad W 1 (st' := (1, [vR 1, vI x1, none, none], [.int x1], (H1 s o e0))) rfl ?_
 rcases qite h with ⟨hc562, h⟩ | ⟨hc562, h⟩
 ·refine zT Ad W (t := 9) (f := 4) rfl (XT.i0_lt_t hc562) ?_
  obtain rfl := Option.some.inj h
  exact QTri.ret0 rfl rfl
 ·refine zF Ad W (t := 9) (f := 4) rfl (XT.i0_lt_f hc562) ?_
  refine zS Ad W 2 (st' := (6, [vR 1, vI x1, none, none], [.int (4:Int32), .int x1], (H1 s o e0))) rfl ?_
  rcases qite h with ⟨hc563, h⟩ | ⟨hc563, h⟩
  ·refine zT Ad W (t := 10) (f := 9) rfl (XT.ii_lt_t hc563) ?_
   refine zS Ad W 3 (st' := (15, [vR 1, vI x1, none, none], [.int x1, .ref 4], (H1 s o e0))) rfl ?_
   obtain ⟨y564, hy564, h⟩ := bind_eq_some_iff.mp h
   refine zB Ad W (f := fun y564 => (16, [vR 1, vI x1, none, none], [.int y564], (H1 s o e0))) rfl hy564 ?_
   refine zS Ad W 3 (st' := (21, [vR 1, vI x1, none, none], [.int x1, .ref 5, .int y564], (H1 s o e0))) rfl ?_
   obtain ⟨y565, hy565, h⟩ := bind_eq_some_iff.mp h
   refine zB Ad W (f := fun y565 => (22, [vR 1, vI x1, none, none], [.int y565, .int y564], (H1 s o e0))) rfl hy565 ?_
   refine zS Ad W 6 (st' := (30, [vR 1, vI x1, vI (y564 + y565), none], [.int x1, .ref 2, .int (y564 + y565)], (H1 s o e0))) rfl ?_
   obtain ⟨y566, hy566, h⟩ := bind_eq_some_iff.mp h
   refine zB Ad W (f := fun y566 => (31, [vR 1, vI x1, vI (y564 + y565), none], [.int y566, .int (y564 + y565)], (H1 s o e0))) rfl hy566 ?_
   rcases qite h with ⟨hc567, h⟩ | ⟨hc567, h⟩
   ·refine zT Ad W (t := 39) (f := 34) rfl (XT.ii_lt_t hc567) ?_
    exact zM [tt,tt,ff,ff] (tJ12_39a1 Ad W s e0 o x1 h)
   ·refine zF Ad W (t := 39) (f := 34) rfl (XT.ii_lt_f hc567) ?_
    refine zS Ad W 2 (st' := (36, [vR 1, vI x1, vI (y564 + y565), none], [.int x1, .ref 1], (H1 s o e0))) rfl ?_
    obtain ⟨r634, hr634, h⟩ := bind_eq_some_iff.mp h
    refine QTri.callP W (a := 1) (as := [.int x1]) (rest := []) (w := none) (σ₁ := (H1 s r634 e0)) rfl rfl rfl rfl rfl rfl rfl rfl (tF18a1 Ad W s e0 o x1 hr634) ?_
    exact zM [tt,tt,ff,ff] (tJ12_39a1 Ad W s e0 r634 x1 h)
  ·refine zF Ad W (t := 10) (f := 9) rfl (XT.ii_lt_f hc563) ?_
   obtain rfl := Option.some.inj h
   exact QTri.ret0 rfl rfl
theorem tJ11_75a1 (Ad : QAd n0 ad) (W : QW Z a0) (s : List Int32) (e0 : Ob) (o : Ob) (x5 : Int32) (x6 : Int32) {r : ((Int32 × Ob)) ⊕ (Int32 × Int32 × Ob)} {u : Option Value} {τ : QHeap} (h : J11_75 o x5 x6 = some r) (hx0 : ∀ x : Int32 × Ob, r = .inl x → u = (some (Value.int x.1)) ∧ τ = (H1 s x.2 e0)) (hc : ∀ x : Int32 × Int32 × Ob, r = .inr x → QTri l Z n0 ad 11 (26, [vR 1, none, none, none, none, vI x.1, vI x.2.1, none], [], (H1 s x.2.2 e0)) u τ) : QTri l Z n0 ad 11 (75, [vR 1, none, none, none, none, vI x5, vI x6, none], [], (H1 s o e0)) u τ := by
 unfold J11_75 at h
 refine zS Ad W 2 (st' := (26, [vR 1, none, none, none, none, vI x5, vI (x6 + (1:Int32)), none], [], (H1 s o e0))) rfl ?_
 obtain rfl := Option.some.inj h
 exact zM [tt,ff,ff,ff,ff,tt,tt,ff] (hc (x5, (x6 + (1:Int32)), o) rfl)
theorem tF22a1 (Ad : QAd n0 ad) (W : QW Z a0) (s : List Int32) (e0 : Ob) (o : Ob) (x1 : Int32) {r : Ob} (h : F22 o x1 = some r) : QTri l Z n0 ad 22 (0, qentry [.ref 1, .int x1] (pMaxL 22), [], (H1 s o e0)) (none : Option Value) (H1 s r e0) := by
 unfold F22 at h
 refine zS Ad W 3 (st' := (3, [vR 1, vI x1], [.int (3:Int32), .int x1, .ref 1], (H1 s o e0))) rfl ?_
 obtain ⟨r640, hr640, h⟩ := bind_eq_some_iff.mp h
 refine QTri.callP W (a := 1) (as := [.int x1, .int (3:Int32)]) (rest := []) (w := none) (σ₁ := (H1 s r640 e0)) rfl rfl rfl rfl rfl rfl rfl rfl (tF23a1 Ad W s e0 o x1 (3:Int32) hr640) ?_
 refine zS Ad W 3 (st' := (9, [vR 1, vI x1], [.int (3:Int32), .int x1, .ref 1], (H1 s r640 e0))) rfl ?_
 obtain ⟨r641, hr641, h⟩ := bind_eq_some_iff.mp h
 refine QTri.callP W (a := 1) (as := [.int x1, .int (3:Int32)]) (rest := []) (w := none) (σ₁ := (H1 s r641 e0)) rfl rfl rfl rfl rfl rfl rfl rfl (tF7a2 Ad W s e0 r640 x1 (3:Int32) hr641) ?_
 obtain rfl := Option.some.inj h
 exact QTri.ret0 rfl rfl
theorem tB11_26a1 (Ad : QAd n0 ad) (W : QW Z a0) (s : List Int32) (e0 : Ob) (v : Int32 × Int32 × Ob) {r : ((Int32 × Ob)) ⊕ (Int32 × Int32 × Ob)} {u : Option Value} {τ : QHeap} (h : B11_26 v = some r) (hx0 : ∀ x : Int32 × Ob, r = .inl x → u = (some (Value.int x.1)) ∧ τ = (H1 s x.2 e0)) (hc : ∀ x : Int32 × Int32 × Ob, r = .inr x → QTri l Z n0 ad 11 (26, [vR 1, none, none, none, none, vI x.1, vI x.2.1, none], [], (H1 s x.2.2 e0)) u τ) : QTri l Z n0 ad 11 (26, [vR 1, none, none, none, none, vI v.1, vI v.2.1, none], [], (H1 s v.2.2 e0)) u τ := by
 unfold B11_26 at h
 refine zS Ad W 3 (st' := (32, [vR 1, none, none, none, none, vI v.1, vI v.2.1, none], [.int (f_queries v.2.2), .int v.2.1], (H1 s v.2.2 e0))) rfl ?_
 rcases qite h with ⟨hc561, h⟩ | ⟨hc561, h⟩
 ·refine zF Ad W (t := 81) (f := 35) rfl (XT.ii_ge_f hc561) ?_
  refine zS Ad W 2 (st' := (38, [vR 1, none, none, none, none, vI v.1, vI v.2.1, none], [.int v.2.1, .ref 1], (H1 s v.2.2 e0))) rfl ?_
  obtain ⟨r635, hr635, h⟩ := bind_eq_some_iff.mp h
  refine QTri.callP W (a := 1) (as := [.int v.2.1]) (rest := []) (w := none) (σ₁ := (H1 s r635 e0)) rfl rfl rfl rfl rfl rfl rfl rfl (tF12a1 Ad W s e0 v.2.2 v.2.1 hr635) ?_
  refine zS Ad W 3 (st' := (47, [vR 1, none, none, none, none, vI v.1, vI v.2.1, none], [.int v.2.1, .ref 3], (H1 s r635 e0))) rfl ?_
  obtain ⟨y636, hy636, h⟩ := bind_eq_some_iff.mp h
  refine zB Ad W (f := fun y636 => (48, [vR 1, none, none, none, none, vI v.1, vI v.2.1, none], [.int y636], (H1 s r635 e0))) rfl hy636 ?_
  refine zS Ad W 3 (st' := (53, [vR 1, none, none, none, none, vI v.1, vI v.2.1, vI y636], [.int (1:Int32), .int y636], (H1 s r635 e0))) rfl ?_
  rcases qite h with ⟨hc637, h⟩ | ⟨hc637, h⟩
  ·refine zT Ad W (t := 75) (f := 56) rfl (XT.ii_lt_t hc637) ?_
   exact zM [tt,ff,ff,ff,ff,tt,tt,ff] (tJ11_75a1 Ad W s e0 r635 v.1 v.2.1 h hx0 hc)
  ·refine zF Ad W (t := 75) (f := 56) rfl (XT.ii_lt_f hc637) ?_
   refine zS Ad W 3 (st' := (62, [vR 1, none, none, none, none, vI v.1, vI v.2.1, vI y636], [.int y636, .int (f_n r635)], (H1 s r635 e0))) rfl ?_
   obtain ⟨y638, hy638, h⟩ := bind_eq_some_iff.mp h
   refine zB Ad W (f := fun y638 => (63, [vR 1, none, none, none, none, vI v.1, vI v.2.1, vI y636], [.int y638], (H1 s r635 e0))) rfl hy638 ?_
   rcases qite h with ⟨hc639, h⟩ | ⟨hc639, h⟩
   ·refine zF Ad W (t := 75) (f := 66) rfl (XT.i0_ne_f hc639) ?_
    refine zS Ad W 2 (st' := (69, [vR 1, none, none, none, none, vI v.1, vI v.2.1, vI y636], [.int v.2.1, .ref 1], (H1 s r635 e0))) rfl ?_
    obtain ⟨r642, hr642, h⟩ := bind_eq_some_iff.mp h
    refine QTri.callP W (a := 1) (as := [.int v.2.1]) (rest := []) (w := none) (σ₁ := (H1 s r642 e0)) rfl rfl rfl rfl rfl rfl rfl rfl (tF22a1 Ad W s e0 r635 v.2.1 hr642) ?_
    refine zS Ad W 1 (st' := (75, [vR 1, none, none, none, none, vI (v.1 + (1:Int32)), vI v.2.1, vI y636], [], (H1 s r642 e0))) rfl ?_
    exact zM [tt,ff,ff,ff,ff,tt,tt,ff] (tJ11_75a1 Ad W s e0 r642 (v.1 + (1:Int32)) v.2.1 h hx0 hc)
   ·refine zT Ad W (t := 75) (f := 66) rfl (XT.i0_ne_t hc639) ?_
    exact zM [tt,ff,ff,ff,ff,tt,tt,ff] (tJ11_75a1 Ad W s e0 r635 v.1 v.2.1 h hx0 hc)
 ·refine zT Ad W (t := 81) (f := 35) rfl (XT.ii_ge_t hc561) ?_
  refine zS Ad W 1 (st' := (83, [vR 1, none, none, none, none, vI v.1, vI v.2.1, none], [.int v.1], (H1 s v.2.2 e0))) rfl ?_
  obtain rfl := Option.some.inj h
  obtain ⟨rfl, rfl⟩ := hx0 (v.1, v.2.2) rfl
  exact QTri.retI rfl rfl
theorem tF11a1 (Ad : QAd n0 ad) (W : QW Z a0) (s : List Int32) (e0 : Ob) (o : Ob) (x1 : Int32) (x2 : Int32) (x3 : Int32) (x4 : Int32) {r : Int32 × Ob} (h : F11 o x1 x2 x3 x4 = some r) : QTri l Z n0 ad 11 (0, qentry [.ref 1, .int x1, .int x2, .int x3, .int x4] (pMaxL 11), [], (H1 s o e0)) (some (Value.int r.1)) (H1 s r.2 e0) := by
 unfold F11 at h
 refine zS Ad W 6 (st' := (10, [vR 1, vI x1, vI x2, vI x3, vI x4, none, none, none], [], (H1x28 s o e0 ((f_n o) + (1:Int32))))) rfl ?_
 refine zS Ad W 6 (st' := (17, [vR 1, vI x1, vI x2, vI x3, vI x4, none, none, none], [.int x4, .int x3, .int x2, .int x1, .int (0:Int32), .ref 1], (H1x28 s o e0 ((f_n o) + (1:Int32))))) rfl ?_
 have E559 : ((H1x28 s o e0 ((f_n o) + (1:Int32))) : QHeap) = (H1 s (s_n o ((f_n o) + (1:Int32))) e0) := by simp only [fs, H1, H1v, H1x28, s_n]
 rw [E559]
 obtain ⟨r560, hr560, h⟩ := bind_eq_some_iff.mp h
 refine QTri.callP W (a := 1) (as := [.int (0:Int32), .int x1, .int x2, .int x3, .int x4]) (rest := []) (w := none) (σ₁ := (H1 s r560 e0)) rfl rfl rfl rfl rfl rfl rfl rfl (tF4a2 Ad W s e0 (s_n o ((f_n o) + (1:Int32))) (0:Int32) x1 x2 x3 x4 hr560) ?_
 refine zS Ad W 4 (st' := (26, [vR 1, vI x1, vI x2, vI x3, vI x4, vI (0:Int32), vI (0:Int32), none], [], (H1 s r560 e0))) rfl ?_
 obtain ⟨e643, he643, h⟩ := bind_eq_some_iff.mp h
 refine zM [tt,ff,ff,ff,ff,tt,tt,ff] (loopN_tri (B := B11_26) (T := fun lv644 => QTri l Z n0 ad 11 (26, [vR 1, none, none, none, none, vI lv644.1, vI lv644.2.1, none], [], (H1 s lv644.2.2 e0)) (some (Value.int r.1)) (H1 s r.2 e0)) (KE := fun e643a => (some (Value.int r.1)) = (some (Value.int e643a.1)) ∧ (H1 s r.2 e0) = (H1 s e643a.2 e0)) (fun lv644 r hB hE hC => tB11_26a1 Ad W s e0 lv644 hB (fun x q => hE _ q) (fun x q => hC x q)) qN ((0:Int32), (0:Int32), r560) e643 he643 ?_)
 obtain rfl := Option.some.inj h
 exact ⟨rfl, rfl⟩
theorem tF8a1 (Ad : QAd n0 ad) (W : QW Z a0) (s : List Int32) (e0 : Ob) (o : Ob) (x1 : Int32) (x2 : Int32) (x3 : Int32) (x4 : Int32) (x5 : Int32) {r : Int32 × Ob} (h : F8 o x1 x2 x3 x4 x5 = some r) : QTri l Z n0 ad 8 (0, qentry [.ref 1, .int x1, .int x2, .int x3, .int x4, .int x5] (pMaxL 8), [], (H1 s o e0)) (some (Value.int r.1)) (H1 s r.2 e0) := by
 unfold F8 at h
 refine zS Ad W 1 (st' := (1, [vR 1, vI x1, vI x2, vI x3, vI x4, vI x5], [.int x1], (H1 s o e0))) rfl ?_
 rcases qite h with ⟨hc544, h⟩ | ⟨hc544, h⟩
 ·refine zF Ad W (t := 11) (f := 4) rfl (XT.i0_ne_f hc544) ?_
  refine zS Ad W 3 (st' := (7, [vR 1, vI x1, vI x2, vI x3, vI x4, vI x5], [.int x3, .int x2, .ref 1], (H1 s o e0))) rfl ?_
  obtain ⟨r556, hr556, h⟩ := bind_eq_some_iff.mp h
  refine QTri.callV W (a := 1) (as := [.int x2, .int x3]) (rest := []) (w := (some (.int r556.1))) (σ₁ := (H1 s r556.2 e0)) rfl rfl rfl rfl rfl rfl rfl rfl (tF10a2 Ad W s e0 o x2 x3 hr556) ?_
  obtain rfl := Option.some.inj h
  exact QTri.retI rfl rfl
 ·refine zT Ad W (t := 11) (f := 4) rfl (XT.i0_ne_t hc544) ?_
  refine zS Ad W 2 (st' := (13, [vR 1, vI x1, vI x2, vI x3, vI x4, vI x5], [.int (3:Int32), .int x1], (H1 s o e0))) rfl ?_
  rcases qite h with ⟨hc557, h⟩ | ⟨hc557, h⟩
  ·refine zF Ad W (t := 22) (f := 16) rfl (XT.ii_ne_f hc557) ?_
   refine zS Ad W 1 (st' := (17, [vR 1, vI x1, vI x2, vI x3, vI x4, vI x5], [.ref 1], (H1 s o e0))) rfl ?_
   obtain ⟨r558, hr558, h⟩ := bind_eq_some_iff.mp h
   refine QTri.callV W (a := 1) (as := []) (rest := []) (w := none) (σ₁ := (H1 s r558 e0)) rfl rfl rfl rfl rfl rfl rfl rfl (tF9a1 Ad W s e0 o hr558) ?_
   refine zS Ad W 1 (st' := (21, [vR 1, vI x1, vI x2, vI x3, vI x4, vI x5], [.int (0:Int32)], (H1 s r558 e0))) rfl ?_
   obtain rfl := Option.some.inj h
   exact QTri.retI rfl rfl
  ·refine zT Ad W (t := 22) (f := 16) rfl (XT.ii_ne_t hc557) ?_
   refine zS Ad W 5 (st' := (29, [vR 1, vI x1, vI x2, vI x3, vI x4, vI x5], [.int x5, .int x4, .int x3, .int x2, .ref 1], (H1 s o e0))) rfl ?_
   obtain ⟨r645, hr645, h⟩ := bind_eq_some_iff.mp h
   refine QTri.callV W (a := 1) (as := [.int x2, .int x3, .int x4, .int x5]) (rest := []) (w := (some (.int r645.1))) (σ₁ := (H1 s r645.2 e0)) rfl rfl rfl rfl rfl rfl rfl rfl (tF11a1 Ad W s e0 o x2 x3 x4 x5 hr645) ?_
   obtain rfl := Option.some.inj h
   exact QTri.retI rfl rfl
def H1x40 (s : List Int32) (o0 o1 : Ob) (a1_17 : Int32) : QHeap := H1v s (f_regTuple o0) (f_regA o0) (f_regB o0) (f_regC o0) (f_regCount o0) (f_slots o0) (f_range o0) (f_slide o0) (f_frontSize o0) (f_backSize o0) (f_backElem o0) (f_frontAgg o0) (f_backAgg o0) (f_snap o0) (f_reg o0) (f_capacity o0) (f_queries o0) (f_n o0) (f_regTuple o1) (f_regA o1) (f_regB o1) (f_regC o1) (f_regCount o1) (f_slots o1) (f_range o1) (f_slide o1) (f_frontSize o1) (f_backSize o1) (f_backElem o1) (f_frontAgg o1) (f_backAgg o1) (f_snap o1) (f_reg o1) (f_capacity o1) (f_queries o1) a1_17
theorem tB9_7a2 (Ad : QAd n0 ad) (W : QW Z a0) (s : List Int32) (e0 : Ob) (v : Int32 × Ob) {r : ((Ob)) ⊕ (Int32 × Ob)} {u : Option Value} {τ : QHeap} (h : B9_7 v = some r) (hx0 : ∀ x : Ob, r = .inl x → u = (none : Option Value) ∧ τ = (H1 s e0 x)) (hc : ∀ x : Int32 × Ob, r = .inr x → QTri l Z n0 ad 9 (7, [vR 11, vI x.1], [], (H1 s e0 x.2)) u τ) : QTri l Z n0 ad 9 (7, [vR 11, vI v.1], [], (H1 s e0 v.2)) u τ := by
 unfold B9_7 at h
 refine zS Ad W 2 (st' := (9, [vR 11, vI v.1], [.int (4:Int32), .int v.1], (H1 s e0 v.2))) rfl ?_
 rcases qite h with ⟨hc655, h⟩ | ⟨hc655, h⟩
 ·refine zF Ad W (t := 23) (f := 12) rfl (XT.ii_ge_f hc655) ?_
  refine zS Ad W 2 (st' := (14, [vR 11, vI v.1], [.int v.1, .ref 11], (H1 s e0 v.2))) rfl ?_
  obtain ⟨r656, hr656, h⟩ := bind_eq_some_iff.mp h
  refine QTri.callP W (a := 11) (as := [.int v.1]) (rest := []) (w := none) (σ₁ := (H1 s e0 r656)) rfl rfl rfl rfl rfl rfl rfl rfl (tF2a1 Ad W s e0 v.2 v.1 hr656) ?_
  refine zS Ad W 2 (st' := (7, [vR 11, vI (v.1 + (1:Int32))], [], (H1 s e0 r656))) rfl ?_
  obtain rfl := Option.some.inj h
  exact zM [tt,tt] (hc ((v.1 + (1:Int32)), r656) rfl)
 ·refine zT Ad W (t := 23) (f := 12) rfl (XT.ii_ge_t hc655) ?_
  obtain rfl := Option.some.inj h
  obtain ⟨rfl, rfl⟩ := hx0 v.2 rfl
  exact QTri.ret0 rfl rfl
theorem tF9a2 (Ad : QAd n0 ad) (W : QW Z a0) (s : List Int32) (e0 : Ob) (o : Ob) {r : Ob} (h : F9 o = some r) : QTri l Z n0 ad 9 (0, qentry [.ref 11] (pMaxL 9), [], (H1 s e0 o)) (none : Option Value) (H1 s e0 r) := by
 unfold F9 at h
 refine zS Ad W 3 (st' := (5, [vR 11, none], [], (H1x40 s e0 o (0:Int32)))) rfl ?_
 refine zS Ad W 2 (st' := (7, [vR 11, vI (0:Int32)], [], (H1x40 s e0 o (0:Int32)))) rfl ?_
 have E654 : ((H1x40 s e0 o (0:Int32)) : QHeap) = (H1 s e0 (s_n o (0:Int32))) := by simp only [fs, H1, H1v, H1x40, s_n]
 rw [E654]
 obtain ⟨e657, he657, h⟩ := bind_eq_some_iff.mp h
 refine zM [tt,tt] (loopN_tri (B := B9_7) (T := fun lv658 => QTri l Z n0 ad 9 (7, [vR 11, vI lv658.1], [], (H1 s e0 lv658.2)) (none : Option Value) (H1 s e0 r)) (KE := fun e657a => (none : Option Value) = (none : Option Value) ∧ (H1 s e0 r) = (H1 s e0 e657a)) (fun lv658 r hB hE hC => tB9_7a2 Ad W s e0 lv658 hB (fun x q => hE _ q) (fun x q => hC x q)) qN ((0:Int32), (s_n o (0:Int32))) e657 he657 ?_)
 obtain rfl := Option.some.inj h
 exact ⟨rfl, rfl⟩
def H1x41 (s : List Int32) (o0 o1 : Ob) (a1_10 : List Int32) : QHeap := H1v s (f_regTuple o0) (f_regA o0) (f_regB o0) (f_regC o0) (f_regCount o0) (f_slots o0) (f_range o0) (f_slide o0) (f_frontSize o0) (f_backSize o0) (f_backElem o0) (f_frontAgg o0) (f_backAgg o0) (f_snap o0) (f_reg o0) (f_capacity o0) (f_queries o0) (f_n o0) (f_regTuple o1) (f_regA o1) (f_regB o1) (f_regC o1) (f_regCount o1) (f_slots o1) (f_range o1) (f_slide o1) (f_frontSize o1) (f_backSize o1) a1_10 (f_frontAgg o1) (f_backAgg o1) (f_snap o1) (f_reg o1) (f_capacity o1) (f_queries o1) (f_n o1)
theorem tB14_34a2 (Ad : QAd n0 ad) (W : QW Z a0) (s : List Int32) (e0 : Ob) (x4 : Int32) (x5 : Int32) (v : Int32 × Ob) {r : ((Ob)) ⊕ (Int32 × Ob)} {u : Option Value} {τ : QHeap} (h : B14_34 x4 x5 v = some r) (hx0 : ∀ x : Ob, r = .inl x → u = (none : Option Value) ∧ τ = (H1 s e0 x)) (hc : ∀ x : Int32 × Ob, r = .inr x → QTri l Z n0 ad 14 (34, [vR 11, none, none, none, vI x4, vI x5, vI x.1], [], (H1 s e0 x.2)) u τ) : QTri l Z n0 ad 14 (34, [vR 11, none, none, none, vI x4, vI x5, vI v.1], [], (H1 s e0 v.2)) u τ := by
 unfold B14_34 at h
 refine zS Ad W 2 (st' := (37, [vR 11, none, none, none, vI x4, vI x5, vI v.1], [.int (4:Int32), .int v.1], (H1 s e0 v.2))) rfl ?_
 rcases qite h with ⟨hc677, h⟩ | ⟨hc677, h⟩
 ·refine zF Ad W (t := 66) (f := 40) rfl (XT.ii_ge_f hc677) ?_
  refine zS Ad W 10 (st' := (58, [vR 11, none, none, none, vI x4, vI x5, vI v.1], [.int (x5 + v.1), .ref 20, .int (x4 + v.1), .ref 16], (H1 s e0 v.2))) rfl ?_
  obtain ⟨y678, hy678, h⟩ := bind_eq_some_iff.mp h
  refine zB Ad W (f := fun y678 => (59, [vR 11, none, none, none, vI x4, vI x5, vI v.1], [.int y678, .int (x4 + v.1), .ref 16], (H1 s e0 v.2))) rfl hy678 ?_
  obtain ⟨y679, hy679, h⟩ := bind_eq_some_iff.mp h
  refine zB Ad W (f := fun y679 => (60, [vR 11, none, none, none, vI x4, vI x5, vI v.1], [], (H1x41 s e0 v.2 y679))) rfl hy679 ?_
  refine zS Ad W 2 (st' := (34, [vR 11, none, none, none, vI x4, vI x5, vI (v.1 + (1:Int32))], [], (H1x41 s e0 v.2 y679))) rfl ?_
  have E680 : ((H1x41 s e0 v.2 y679) : QHeap) = (H1 s e0 (s_backElem v.2 y679)) := by simp only [fs, H1, H1v, H1x41, s_backElem]
  rw [E680]
  obtain rfl := Option.some.inj h
  exact zM [tt,ff,ff,ff,tt,tt,tt] (hc ((v.1 + (1:Int32)), (s_backElem v.2 y679)) rfl)
 ·refine zT Ad W (t := 66) (f := 40) rfl (XT.ii_ge_t hc677) ?_
  obtain rfl := Option.some.inj h
  obtain ⟨rfl, rfl⟩ := hx0 v.2 rfl
  exact QTri.ret0 rfl rfl
theorem tF14a2 (Ad : QAd n0 ad) (W : QW Z a0) (s : List Int32) (e0 : Ob) (o : Ob) (x1 : Int32) (x2 : Int32) (x3 : Int32) {r : Ob} (h : F14 o x1 x2 x3 = some r) : QTri l Z n0 ad 14 (0, qentry [.ref 11, .int x1, .int x2, .int x3] (pMaxL 14), [], (H1 s e0 o)) (none : Option Value) (H1 s e0 r) := by
 unfold F14 at h
 refine zS Ad W 2 (st' := (2, [vR 11, vI x1, vI x2, vI x3, none, none, none], [.int x3, .ref 11], (H1 s e0 o))) rfl ?_
 obtain ⟨r672, hr672, h⟩ := bind_eq_some_iff.mp h
 refine QTri.callP W (a := 11) (as := [.int x3]) (rest := []) (w := (some (.int r672))) (σ₁ := (H1 s e0 o)) rfl rfl rfl rfl rfl rfl rfl rfl (tF5 Ad W x3 hr672) ?_
 rcases qite h with ⟨hc673, h⟩ | ⟨hc673, h⟩
 ·refine zT Ad W (t := 17) (f := 8) rfl (XT.i0_eq_t hc673) ?_
  obtain rfl := Option.some.inj h
  exact QTri.ret0 rfl rfl
 ·refine zF Ad W (t := 17) (f := 8) rfl (XT.i0_eq_f hc673) ?_
  refine zS Ad W 3 (st' := (11, [vR 11, vI x1, vI x2, vI x3, none, none, none], [.int x2, .int x1, .ref 11], (H1 s e0 o))) rfl ?_
  obtain ⟨r674, hr674, h⟩ := bind_eq_some_iff.mp h
  refine QTri.callP W (a := 11) (as := [.int x1, .int x2]) (rest := []) (w := (some (.int r674))) (σ₁ := (H1 s e0 o)) rfl rfl rfl rfl rfl rfl rfl rfl (tF13 Ad W x1 x2 hr674) ?_
  rcases qite h with ⟨hc675, h⟩ | ⟨hc675, h⟩
  ·refine zF Ad W (t := 18) (f := 17) rfl (XT.i0_ne_f hc675) ?_
   obtain rfl := Option.some.inj h
   exact QTri.ret0 rfl rfl
  ·refine zT Ad W (t := 18) (f := 17) rfl (XT.i0_ne_t hc675) ?_
   refine zS Ad W 3 (st' := (21, [vR 11, vI x1, vI x2, vI x3, none, none, none], [.int x2, .int x1, .ref 11], (H1 s e0 o))) rfl ?_
   obtain ⟨r676, hr676, h⟩ := bind_eq_some_iff.mp h
   refine QTri.callP W (a := 11) (as := [.int x1, .int x2]) (rest := []) (w := (some (.int r676))) (σ₁ := (H1 s e0 o)) rfl rfl rfl rfl rfl rfl rfl rfl (tF15 Ad W x1 x2 hr676) ?_
   refine zS Ad W 5 (st' := (31, [vR 11, vI x1, vI x2, vI x3, vI r676, vI (x3 * (4:Int32)), none], [], (H1 s e0 o))) rfl ?_
   refine zS Ad W 2 (st' := (34, [vR 11, vI x1, vI x2, vI x3, vI r676, vI (x3 * (4:Int32)), vI (0:Int32)], [], (H1 s e0 o))) rfl ?_
   obtain ⟨e681, he681, h⟩ := bind_eq_some_iff.mp h
   refine zM [tt,ff,ff,ff,tt,tt,tt] (loopN_tri (B := B14_34 r676 (x3 * (4:Int32))) (T := fun lv682 => QTri l Z n0 ad 14 (34, [vR 11, none, none, none, vI r676, vI (x3 * (4:Int32)), vI lv682.1], [], (H1 s e0 lv682.2)) (none : Option Value) (H1 s e0 r)) (KE := fun e681a => (none : Option Value) = (none : Option Value) ∧ (H1 s e0 r) = (H1 s e0 e681a)) (fun lv682 r hB hE hC => tB14_34a2 Ad W s e0 r676 (x3 * (4:Int32)) lv682 hB (fun x q => hE _ q) (fun x q => hC x q)) qN ((0:Int32), o) e681 he681 ?_)
   obtain rfl := Option.some.inj h
   exact ⟨rfl, rfl⟩
def H1x42 (s : List Int32) (o0 o1 : Ob) (a1_9 : List Int32) : QHeap := H1v s (f_regTuple o0) (f_regA o0) (f_regB o0) (f_regC o0) (f_regCount o0) (f_slots o0) (f_range o0) (f_slide o0) (f_frontSize o0) (f_backSize o0) (f_backElem o0) (f_frontAgg o0) (f_backAgg o0) (f_snap o0) (f_reg o0) (f_capacity o0) (f_queries o0) (f_n o0) (f_regTuple o1) (f_regA o1) (f_regB o1) (f_regC o1) (f_regCount o1) (f_slots o1) (f_range o1) (f_slide o1) (f_frontSize o1) a1_9 (f_backElem o1) (f_frontAgg o1) (f_backAgg o1) (f_snap o1) (f_reg o1) (f_capacity o1) (f_queries o1) (f_n o1)
theorem tJ12_39a2 (Ad : QAd n0 ad) (W : QW Z a0) (s : List Int32) (e0 : Ob) (o : Ob) (x1 : Int32) {r : Ob} (h : J12_39 o x1 = some r) : QTri l Z n0 ad 12 (39, [vR 11, vI x1, none, none], [], (H1 s e0 o)) (none : Option Value) (H1 s e0 r) := by
 unfold J12_39 at h
 refine zS Ad W 3 (st' := (44, [vR 11, vI x1, none, none], [.int x1, .ref 15], (H1 s e0 o))) rfl ?_
 obtain ⟨y669, hy669, h⟩ := bind_eq_some_iff.mp h
 refine zB Ad W (f := fun y669 => (45, [vR 11, vI x1, none, none], [.int y669], (H1 s e0 o))) rfl hy669 ?_
 refine zS Ad W 4 (st' := (49, [vR 11, vI x1, none, vI y669], [.int y669, .int x1, .ref 11], (H1 s e0 o))) rfl ?_
 obtain ⟨r670, hr670, h⟩ := bind_eq_some_iff.mp h
 refine QTri.callP W (a := 11) (as := [.int x1, .int y669]) (rest := []) (w := (some (.int r670))) (σ₁ := (H1 s e0 o)) rfl rfl rfl rfl rfl rfl rfl rfl (tF13 Ad W x1 y669 hr670) ?_
 rcases qite h with ⟨hc671, h⟩ | ⟨hc671, h⟩
 ·refine zF Ad W (t := 56) (f := 55) rfl (XT.i0_ne_f hc671) ?_
  obtain rfl := Option.some.inj h
  exact QTri.ret0 rfl rfl
 ·refine zT Ad W (t := 56) (f := 55) rfl (XT.i0_ne_t hc671) ?_
  refine zS Ad W 4 (st' := (60, [vR 11, vI x1, none, vI y669], [.int (0:Int32), .int y669, .int x1, .ref 11], (H1 s e0 o))) rfl ?_
  obtain ⟨r683, hr683, h⟩ := bind_eq_some_iff.mp h
  refine QTri.callP W (a := 11) (as := [.int x1, .int y669, .int (0:Int32)]) (rest := []) (w := none) (σ₁ := (H1 s e0 r683)) rfl rfl rfl rfl rfl rfl rfl rfl (tF14a2 Ad W s e0 o x1 y669 (0:Int32) hr683) ?_
  refine zS Ad W 3 (st' := (66, [vR 11, vI x1, none, vI y669], [.int x1, .int (1:Int32), .ref 11], (H1 s e0 r683))) rfl ?_
  obtain ⟨r684, hr684, h⟩ := bind_eq_some_iff.mp h
  refine QTri.callP W (a := 11) (as := [.int (1:Int32), .int x1]) (rest := []) (w := none) (σ₁ := (H1 s e0 r684)) rfl rfl rfl rfl rfl rfl rfl rfl (tF16a2 Ad W s e0 r683 (1:Int32) x1 hr684) ?_
  refine zS Ad W 4 (st' := (73, [vR 11, vI x1, none, vI y669], [.int (0:Int32), .int (1:Int32), .int (1:Int32), .ref 11], (H1 s e0 r684))) rfl ?_
  obtain ⟨r685, hr685, h⟩ := bind_eq_some_iff.mp h
  refine QTri.callP W (a := 11) (as := [.int (1:Int32), .int (1:Int32), .int (0:Int32)]) (rest := []) (w := none) (σ₁ := (H1 s e0 r685)) rfl rfl rfl rfl rfl rfl rfl rfl (tF17a2 Ad W s e0 r684 (1:Int32) (1:Int32) (0:Int32) hr685) ?_
  refine zS Ad W 3 (st' := (79, [vR 11, vI x1, none, vI y669], [.int (1:Int32), .int x1, .ref 11], (H1 s e0 r685))) rfl ?_
  obtain ⟨r686, hr686, h⟩ := bind_eq_some_iff.mp h
  refine QTri.callP W (a := 11) (as := [.int x1, .int (1:Int32)]) (rest := []) (w := none) (σ₁ := (H1 s e0 r686)) rfl rfl rfl rfl rfl rfl rfl rfl (tF6a1 Ad W s e0 r685 x1 (1:Int32) hr686) ?_
  refine zS Ad W 6 (st' := (90, [vR 11, vI x1, none, vI y669], [.int (y669 + (1:Int32)), .int x1, .ref 15], (H1 s e0 r686))) rfl ?_
  obtain ⟨y687, hy687, h⟩ := bind_eq_some_iff.mp h
  refine zB Ad W (f := fun y687 => (91, [vR 11, vI x1, none, vI y669], [], (H1x42 s e0 r686 y687))) rfl hy687 ?_
  have E688 : ((H1x42 s e0 r686 y687) : QHeap) = (H1 s e0 (s_backSize r686 y687)) := by simp only [fs, H1, H1v, H1x42, s_backSize]
  rw [E688]
  obtain rfl := Option.some.inj h
  exact QTri.ret0 rfl rfl
theorem tB20_34a2 (Ad : QAd n0 ad) (W : QW Z a0) (s : List Int32) (e0 : Ob) (x4 : Int32) (x5 : Int32) (v : Int32 × Ob) {r : ((Ob)) ⊕ (Int32 × Ob)} {u : Option Value} {τ : QHeap} (h : B20_34 x4 x5 v = some r) (hx0 : ∀ x : Ob, r = .inl x → u = (none : Option Value) ∧ τ = (H1 s e0 x)) (hc : ∀ x : Int32 × Ob, r = .inr x → QTri l Z n0 ad 20 (34, [vR 11, none, none, none, vI x4, vI x5, vI x.1], [], (H1 s e0 x.2)) u τ) : QTri l Z n0 ad 20 (34, [vR 11, none, none, none, vI x4, vI x5, vI v.1], [], (H1 s e0 v.2)) u τ := by
 unfold B20_34 at h
 refine zS Ad W 2 (st' := (37, [vR 11, none, none, none, vI x4, vI x5, vI v.1], [.int (4:Int32), .int v.1], (H1 s e0 v.2))) rfl ?_
 rcases qite h with ⟨hc702, h⟩ | ⟨hc702, h⟩
 ·refine zF Ad W (t := 66) (f := 40) rfl (XT.ii_ge_f hc702) ?_
  refine zS Ad W 10 (st' := (58, [vR 11, none, none, none, vI x4, vI x5, vI v.1], [.int (x4 + v.1), .ref 16, .int (x5 + v.1), .ref 20], (H1 s e0 v.2))) rfl ?_
  obtain ⟨y703, hy703, h⟩ := bind_eq_some_iff.mp h
  refine zB Ad W (f := fun y703 => (59, [vR 11, none, none, none, vI x4, vI x5, vI v.1], [.int y703, .int (x5 + v.1), .ref 20], (H1 s e0 v.2))) rfl hy703 ?_
  obtain ⟨y704, hy704, h⟩ := bind_eq_some_iff.mp h
  refine zB Ad W (f := fun y704 => (60, [vR 11, none, none, none, vI x4, vI x5, vI v.1], [], (H1x22 s e0 v.2 y704))) rfl hy704 ?_
  refine zS Ad W 2 (st' := (34, [vR 11, none, none, none, vI x4, vI x5, vI (v.1 + (1:Int32))], [], (H1x22 s e0 v.2 y704))) rfl ?_
  have E705 : ((H1x22 s e0 v.2 y704) : QHeap) = (H1 s e0 (s_reg v.2 y704)) := by simp only [fs, H1, H1v, H1x22, s_reg]
  rw [E705]
  obtain rfl := Option.some.inj h
  exact zM [tt,ff,ff,ff,tt,tt,tt] (hc ((v.1 + (1:Int32)), (s_reg v.2 y704)) rfl)
 ·refine zT Ad W (t := 66) (f := 40) rfl (XT.ii_ge_t hc702) ?_
  obtain rfl := Option.some.inj h
  obtain ⟨rfl, rfl⟩ := hx0 v.2 rfl
  exact QTri.ret0 rfl rfl
theorem tF20a2 (Ad : QAd n0 ad) (W : QW Z a0) (s : List Int32) (e0 : Ob) (o : Ob) (x1 : Int32) (x2 : Int32) (x3 : Int32) {r : Ob} (h : F20 o x1 x2 x3 = some r) : QTri l Z n0 ad 20 (0, qentry [.ref 11, .int x1, .int x2, .int x3] (pMaxL 20), [], (H1 s e0 o)) (none : Option Value) (H1 s e0 r) := by
 unfold F20 at h
 refine zS Ad W 2 (st' := (2, [vR 11, vI x1, vI x2, vI x3, none, none, none], [.int x1, .ref 11], (H1 s e0 o))) rfl ?_
 obtain ⟨r697, hr697, h⟩ := bind_eq_some_iff.mp h
 refine QTri.callP W (a := 11) (as := [.int x1]) (rest := []) (w := (some (.int r697))) (σ₁ := (H1 s e0 o)) rfl rfl rfl rfl rfl rfl rfl rfl (tF5 Ad W x1 hr697) ?_
 rcases qite h with ⟨hc698, h⟩ | ⟨hc698, h⟩
 ·refine zT Ad W (t := 17) (f := 8) rfl (XT.i0_eq_t hc698) ?_
  obtain rfl := Option.some.inj h
  exact QTri.ret0 rfl rfl
 ·refine zF Ad W (t := 17) (f := 8) rfl (XT.i0_eq_f hc698) ?_
  refine zS Ad W 3 (st' := (11, [vR 11, vI x1, vI x2, vI x3, none, none, none], [.int x3, .int x2, .ref 11], (H1 s e0 o))) rfl ?_
  obtain ⟨r699, hr699, h⟩ := bind_eq_some_iff.mp h
  refine QTri.callP W (a := 11) (as := [.int x2, .int x3]) (rest := []) (w := (some (.int r699))) (σ₁ := (H1 s e0 o)) rfl rfl rfl rfl rfl rfl rfl rfl (tF13 Ad W x2 x3 hr699) ?_
  rcases qite h with ⟨hc700, h⟩ | ⟨hc700, h⟩
  ·refine zF Ad W (t := 18) (f := 17) rfl (XT.i0_ne_f hc700) ?_
   obtain rfl := Option.some.inj h
   exact QTri.ret0 rfl rfl
  ·refine zT Ad W (t := 18) (f := 17) rfl (XT.i0_ne_t hc700) ?_
   refine zS Ad W 3 (st' := (21, [vR 11, vI x1, vI x2, vI x3, none, none, none], [.int x3, .int x2, .ref 11], (H1 s e0 o))) rfl ?_
   obtain ⟨r701, hr701, h⟩ := bind_eq_some_iff.mp h
   refine QTri.callP W (a := 11) (as := [.int x2, .int x3]) (rest := []) (w := (some (.int r701))) (σ₁ := (H1 s e0 o)) rfl rfl rfl rfl rfl rfl rfl rfl (tF15 Ad W x2 x3 hr701) ?_
   refine zS Ad W 5 (st' := (31, [vR 11, vI x1, vI x2, vI x3, vI r701, vI (x1 * (4:Int32)), none], [], (H1 s e0 o))) rfl ?_
   refine zS Ad W 2 (st' := (34, [vR 11, vI x1, vI x2, vI x3, vI r701, vI (x1 * (4:Int32)), vI (0:Int32)], [], (H1 s e0 o))) rfl ?_
   obtain ⟨e706, he706, h⟩ := bind_eq_some_iff.mp h
   refine zM [tt,ff,ff,ff,tt,tt,tt] (loopN_tri (B := B20_34 r701 (x1 * (4:Int32))) (T := fun lv707 => QTri l Z n0 ad 20 (34, [vR 11, none, none, none, vI r701, vI (x1 * (4:Int32)), vI lv707.1], [], (H1 s e0 lv707.2)) (none : Option Value) (H1 s e0 r)) (KE := fun e706a => (none : Option Value) = (none : Option Value) ∧ (H1 s e0 r) = (H1 s e0 e706a)) (fun lv707 r hB hE hC => tB20_34a2 Ad W s e0 r701 (x1 * (4:Int32)) lv707 hB (fun x q => hE _ q) (fun x q => hC x q)) qN ((0:Int32), o) e706 he706 ?_)
   obtain rfl := Option.some.inj h
   exact ⟨rfl, rfl⟩
def H1x43 (s : List Int32) (o0 o1 : Ob) (a1_11 : List Int32) : QHeap := H1v s (f_regTuple o0) (f_regA o0) (f_regB o0) (f_regC o0) (f_regCount o0) (f_slots o0) (f_range o0) (f_slide o0) (f_frontSize o0) (f_backSize o0) (f_backElem o0) (f_frontAgg o0) (f_backAgg o0) (f_snap o0) (f_reg o0) (f_capacity o0) (f_queries o0) (f_n o0) (f_regTuple o1) (f_regA o1) (f_regB o1) (f_regC o1) (f_regCount o1) (f_slots o1) (f_range o1) (f_slide o1) (f_frontSize o1) (f_backSize o1) (f_backElem o1) a1_11 (f_backAgg o1) (f_snap o1) (f_reg o1) (f_capacity o1) (f_queries o1) (f_n o1)
theorem tB21_34a2 (Ad : QAd n0 ad) (W : QW Z a0) (s : List Int32) (e0 : Ob) (x4 : Int32) (x5 : Int32) (v : Int32 × Ob) {r : ((Ob)) ⊕ (Int32 × Ob)} {u : Option Value} {τ : QHeap} (h : B21_34 x4 x5 v = some r) (hx0 : ∀ x : Ob, r = .inl x → u = (none : Option Value) ∧ τ = (H1 s e0 x)) (hc : ∀ x : Int32 × Ob, r = .inr x → QTri l Z n0 ad 21 (34, [vR 11, none, none, none, vI x4, vI x5, vI x.1], [], (H1 s e0 x.2)) u τ) : QTri l Z n0 ad 21 (34, [vR 11, none, none, none, vI x4, vI x5, vI v.1], [], (H1 s e0 v.2)) u τ := by
 unfold B21_34 at h
 refine zS Ad W 2 (st' := (37, [vR 11, none, none, none, vI x4, vI x5, vI v.1], [.int (4:Int32), .int v.1], (H1 s e0 v.2))) rfl ?_
 rcases qite h with ⟨hc715, h⟩ | ⟨hc715, h⟩
 ·refine zF Ad W (t := 66) (f := 40) rfl (XT.ii_ge_f hc715) ?_
  refine zS Ad W 10 (st' := (58, [vR 11, none, none, none, vI x4, vI x5, vI v.1], [.int (x5 + v.1), .ref 20, .int (x4 + v.1), .ref 17], (H1 s e0 v.2))) rfl ?_
  obtain ⟨y716, hy716, h⟩ := bind_eq_some_iff.mp h
  refine zB Ad W (f := fun y716 => (59, [vR 11, none, none, none, vI x4, vI x5, vI v.1], [.int y716, .int (x4 + v.1), .ref 17], (H1 s e0 v.2))) rfl hy716 ?_
  obtain ⟨y717, hy717, h⟩ := bind_eq_some_iff.mp h
  refine zB Ad W (f := fun y717 => (60, [vR 11, none, none, none, vI x4, vI x5, vI v.1], [], (H1x43 s e0 v.2 y717))) rfl hy717 ?_
  refine zS Ad W 2 (st' := (34, [vR 11, none, none, none, vI x4, vI x5, vI (v.1 + (1:Int32))], [], (H1x43 s e0 v.2 y717))) rfl ?_
  have E718 : ((H1x43 s e0 v.2 y717) : QHeap) = (H1 s e0 (s_frontAgg v.2 y717)) := by simp only [fs, H1, H1v, H1x43, s_frontAgg]
  rw [E718]
  obtain rfl := Option.some.inj h
  exact zM [tt,ff,ff,ff,tt,tt,tt] (hc ((v.1 + (1:Int32)), (s_frontAgg v.2 y717)) rfl)
 ·refine zT Ad W (t := 66) (f := 40) rfl (XT.ii_ge_t hc715) ?_
  obtain rfl := Option.some.inj h
  obtain ⟨rfl, rfl⟩ := hx0 v.2 rfl
  exact QTri.ret0 rfl rfl
theorem tF21a2 (Ad : QAd n0 ad) (W : QW Z a0) (s : List Int32) (e0 : Ob) (o : Ob) (x1 : Int32) (x2 : Int32) (x3 : Int32) {r : Ob} (h : F21 o x1 x2 x3 = some r) : QTri l Z n0 ad 21 (0, qentry [.ref 11, .int x1, .int x2, .int x3] (pMaxL 21), [], (H1 s e0 o)) (none : Option Value) (H1 s e0 r) := by
 unfold F21 at h
 refine zS Ad W 2 (st' := (2, [vR 11, vI x1, vI x2, vI x3, none, none, none], [.int x3, .ref 11], (H1 s e0 o))) rfl ?_
 obtain ⟨r710, hr710, h⟩ := bind_eq_some_iff.mp h
 refine QTri.callP W (a := 11) (as := [.int x3]) (rest := []) (w := (some (.int r710))) (σ₁ := (H1 s e0 o)) rfl rfl rfl rfl rfl rfl rfl rfl (tF5 Ad W x3 hr710) ?_
 rcases qite h with ⟨hc711, h⟩ | ⟨hc711, h⟩
 ·refine zT Ad W (t := 17) (f := 8) rfl (XT.i0_eq_t hc711) ?_
  obtain rfl := Option.some.inj h
  exact QTri.ret0 rfl rfl
 ·refine zF Ad W (t := 17) (f := 8) rfl (XT.i0_eq_f hc711) ?_
  refine zS Ad W 3 (st' := (11, [vR 11, vI x1, vI x2, vI x3, none, none, none], [.int x2, .int x1, .ref 11], (H1 s e0 o))) rfl ?_
  obtain ⟨r712, hr712, h⟩ := bind_eq_some_iff.mp h
  refine QTri.callP W (a := 11) (as := [.int x1, .int x2]) (rest := []) (w := (some (.int r712))) (σ₁ := (H1 s e0 o)) rfl rfl rfl rfl rfl rfl rfl rfl (tF13 Ad W x1 x2 hr712) ?_
  rcases qite h with ⟨hc713, h⟩ | ⟨hc713, h⟩
  ·refine zF Ad W (t := 18) (f := 17) rfl (XT.i0_ne_f hc713) ?_
   obtain rfl := Option.some.inj h
   exact QTri.ret0 rfl rfl
  ·refine zT Ad W (t := 18) (f := 17) rfl (XT.i0_ne_t hc713) ?_
   refine zS Ad W 3 (st' := (21, [vR 11, vI x1, vI x2, vI x3, none, none, none], [.int x2, .int x1, .ref 11], (H1 s e0 o))) rfl ?_
   obtain ⟨r714, hr714, h⟩ := bind_eq_some_iff.mp h
   refine QTri.callP W (a := 11) (as := [.int x1, .int x2]) (rest := []) (w := (some (.int r714))) (σ₁ := (H1 s e0 o)) rfl rfl rfl rfl rfl rfl rfl rfl (tF15 Ad W x1 x2 hr714) ?_
   refine zS Ad W 5 (st' := (31, [vR 11, vI x1, vI x2, vI x3, vI r714, vI (x3 * (4:Int32)), none], [], (H1 s e0 o))) rfl ?_
   refine zS Ad W 2 (st' := (34, [vR 11, vI x1, vI x2, vI x3, vI r714, vI (x3 * (4:Int32)), vI (0:Int32)], [], (H1 s e0 o))) rfl ?_
   obtain ⟨e719, he719, h⟩ := bind_eq_some_iff.mp h
   refine zM [tt,ff,ff,ff,tt,tt,tt] (loopN_tri (B := B21_34 r714 (x3 * (4:Int32))) (T := fun lv720 => QTri l Z n0 ad 21 (34, [vR 11, none, none, none, vI r714, vI (x3 * (4:Int32)), vI lv720.1], [], (H1 s e0 lv720.2)) (none : Option Value) (H1 s e0 r)) (KE := fun e719a => (none : Option Value) = (none : Option Value) ∧ (H1 s e0 r) = (H1 s e0 e719a)) (fun lv720 r hB hE hC => tB21_34a2 Ad W s e0 r714 (x3 * (4:Int32)) lv720 hB (fun x q => hE _ q) (fun x q => hC x q)) qN ((0:Int32), o) e719 he719 ?_)
   obtain rfl := Option.some.inj h
   exact ⟨rfl, rfl⟩
theorem tB19_23a2 (Ad : QAd n0 ad) (W : QW Z a0) (s : List Int32) (e0 : Ob) (x1 : Int32) (x2 : Int32) (v : Int32 × Ob) {r : ((Ob)) ⊕ (Int32 × Ob)} {u : Option Value} {τ : QHeap} (h : B19_23 x1 x2 v = some r) (hx0 : ∀ x : Ob, r = .inl x → QTri l Z n0 ad 19 (59, [vR 11, vI x1, vI x2, none], [], (H1 s e0 x)) u τ) (hc : ∀ x : Int32 × Ob, r = .inr x → QTri l Z n0 ad 19 (23, [vR 11, vI x1, vI x2, vI x.1], [], (H1 s e0 x.2)) u τ) : QTri l Z n0 ad 19 (23, [vR 11, vI x1, vI x2, vI v.1], [], (H1 s e0 v.2)) u τ := by
 unfold B19_23 at h
 refine zS Ad W 2 (st' := (25, [vR 11, vI x1, vI x2, vI v.1], [.int x2, .int v.1], (H1 s e0 v.2))) rfl ?_
 rcases qite h with ⟨hc696, h⟩ | ⟨hc696, h⟩
 ·refine zF Ad W (t := 59) (f := 28) rfl (XT.ii_ge_f hc696) ?_
  refine zS Ad W 8 (st' := (36, [vR 11, vI x1, vI x2, vI v.1], [.int ((x2 - (1:Int32)) - v.1), .int x1, .int (2:Int32), .ref 11], (H1 s e0 v.2))) rfl ?_
  obtain ⟨r708, hr708, h⟩ := bind_eq_some_iff.mp h
  refine QTri.callP W (a := 11) (as := [.int (2:Int32), .int x1, .int ((x2 - (1:Int32)) - v.1)]) (rest := []) (w := none) (σ₁ := (H1 s e0 r708)) rfl rfl rfl rfl rfl rfl rfl rfl (tF20a2 Ad W s e0 v.2 (2:Int32) x1 ((x2 - (1:Int32)) - v.1) hr708) ?_
  refine zS Ad W 4 (st' := (43, [vR 11, vI x1, vI x2, vI v.1], [.int (1:Int32), .int (2:Int32), .int (1:Int32), .ref 11], (H1 s e0 r708))) rfl ?_
  obtain ⟨r709, hr709, h⟩ := bind_eq_some_iff.mp h
  refine QTri.callP W (a := 11) (as := [.int (1:Int32), .int (2:Int32), .int (1:Int32)]) (rest := []) (w := none) (σ₁ := (H1 s e0 r709)) rfl rfl rfl rfl rfl rfl rfl rfl (tF17a2 Ad W s e0 r708 (1:Int32) (2:Int32) (1:Int32) hr709) ?_
  refine zS Ad W 4 (st' := (50, [vR 11, vI x1, vI x2, vI v.1], [.int (1:Int32), .int v.1, .int x1, .ref 11], (H1 s e0 r709))) rfl ?_
  obtain ⟨r721, hr721, h⟩ := bind_eq_some_iff.mp h
  refine QTri.callP W (a := 11) (as := [.int x1, .int v.1, .int (1:Int32)]) (rest := []) (w := none) (σ₁ := (H1 s e0 r721)) rfl rfl rfl rfl rfl rfl rfl rfl (tF21a2 Ad W s e0 r709 x1 v.1 (1:Int32) hr721) ?_
  refine zS Ad W 2 (st' := (23, [vR 11, vI x1, vI x2, vI (v.1 + (1:Int32))], [], (H1 s e0 r721))) rfl ?_
  obtain rfl := Option.some.inj h
  exact zM [tt,tt,tt,tt] (hc ((v.1 + (1:Int32)), r721) rfl)
 ·refine zT Ad W (t := 59) (f := 28) rfl (XT.ii_ge_t hc696) ?_
  obtain rfl := Option.some.inj h
  exact zM [tt,tt,tt,ff] (hx0 v.2 rfl)
theorem tF19a2 (Ad : QAd n0 ad) (W : QW Z a0) (s : List Int32) (e0 : Ob) (o : Ob) (x1 : Int32) {r : Ob} (h : F19 o x1 = some r) : QTri l Z n0 ad 19 (0, qentry [.ref 11, .int x1] (pMaxL 19), [], (H1 s e0 o)) (none : Option Value) (H1 s e0 r) := by
 unfold F19 at h
 refine zS Ad W 3 (st' := (5, [vR 11, vI x1, none, none], [.int x1, .ref 15], (H1 s e0 o))) rfl ?_
 obtain ⟨y691, hy691, h⟩ := bind_eq_some_iff.mp h
 refine zB Ad W (f := fun y691 => (6, [vR 11, vI x1, none, none], [.int y691], (H1 s e0 o))) rfl hy691 ?_
 refine zS Ad W 3 (st' := (10, [vR 11, vI x1, vI y691, none], [.int (32:Int32), .int y691], (H1 s e0 o))) rfl ?_
 have K693 : ∀ z692 : Int32, z692 = (if (32:Int32) < y691 then (32:Int32) else y691) → QTri l Z n0 ad 19 (16, [vR 11, vI x1, vI z692, none], [], (H1 s e0 o)) (none : Option Value) (H1 s e0 r) := by
  intro z692 ez692
  subst ez692
  refine zS Ad W 2 (st' := (18, [vR 11, vI x1, vI (if (32:Int32) < y691 then (32:Int32) else y691), none], [.int (1:Int32), .ref 11], (H1 s e0 o))) rfl ?_
  obtain ⟨r695, hr695, h⟩ := bind_eq_some_iff.mp h
  refine QTri.callP W (a := 11) (as := [.int (1:Int32)]) (rest := []) (w := none) (σ₁ := (H1 s e0 r695)) rfl rfl rfl rfl rfl rfl rfl rfl (tF3a1 Ad W s e0 o (1:Int32) hr695) ?_
  refine zS Ad W 2 (st' := (23, [vR 11, vI x1, vI (if (32:Int32) < y691 then (32:Int32) else y691), vI (0:Int32)], [], (H1 s e0 r695))) rfl ?_
  obtain ⟨e722, he722, h⟩ := bind_eq_some_iff.mp h
  refine zM [tt,tt,tt,tt] (loopN_tri (B := B19_23 x1 (if (32:Int32) < y691 then (32:Int32) else y691)) (T := fun lv723 => QTri l Z n0 ad 19 (23, [vR 11, vI x1, vI (if (32:Int32) < y691 then (32:Int32) else y691), vI lv723.1], [], (H1 s e0 lv723.2)) (none : Option Value) (H1 s e0 r)) (KE := fun e722a => QTri l Z n0 ad 19 (59, [vR 11, vI x1, vI (if (32:Int32) < y691 then (32:Int32) else y691), none], [], (H1 s e0 e722a)) (none : Option Value) (H1 s e0 r)) (fun lv723 r hB hE hC => tB19_23a2 Ad W s e0 x1 (if (32:Int32) < y691 then (32:Int32) else y691) lv723 hB (fun x q => hE _ q) (fun x q => hC x q)) qN ((0:Int32), r695) e722 he722 ?_)
  refine zS Ad W 4 (st' := (65, [vR 11, vI x1, vI (if (32:Int32) < y691 then (32:Int32) else y691), none], [.int (if (32:Int32) < y691 then (32:Int32) else y691), .int x1, .ref 14], (H1 s e0 e722))) rfl ?_
  obtain ⟨y724, hy724, h⟩ := bind_eq_some_iff.mp h
  refine zB Ad W (f := fun y724 => (66, [vR 11, vI x1, vI (if (32:Int32) < y691 then (32:Int32) else y691), none], [], (H1x20 s e0 e722 y724))) rfl hy724 ?_
  refine zS Ad W 4 (st' := (72, [vR 11, vI x1, vI (if (32:Int32) < y691 then (32:Int32) else y691), none], [.int (0:Int32), .int x1, .ref 15], (H1x20 s e0 e722 y724))) rfl ?_
  obtain ⟨y725, hy725, h⟩ := bind_eq_some_iff.mp h
  refine zB Ad W (f := fun y725 => (73, [vR 11, vI x1, vI (if (32:Int32) < y691 then (32:Int32) else y691), none], [], (H1x21 s e0 e722 y724 y725))) rfl hy725 ?_
  refine zS Ad W 2 (st' := (75, [vR 11, vI x1, vI (if (32:Int32) < y691 then (32:Int32) else y691), none], [.int (1:Int32), .ref 11], (H1x21 s e0 e722 y724 y725))) rfl ?_
  have E726 : ((H1x21 s e0 e722 y724 y725) : QHeap) = (H1 s e0 (s_backSize (s_frontSize e722 y724) y725)) := by simp only [fs, H1, H1v, H1x21, s_frontSize, s_backSize]
  rw [E726]
  obtain ⟨r727, hr727, h⟩ := bind_eq_some_iff.mp h
  refine QTri.callP W (a := 11) (as := [.int (1:Int32)]) (rest := []) (w := none) (σ₁ := (H1 s e0 r727)) rfl rfl rfl rfl rfl rfl rfl rfl (tF3a1 Ad W s e0 (s_backSize (s_frontSize e722 y724) y725) (1:Int32) hr727) ?_
  refine zS Ad W 3 (st' := (81, [vR 11, vI x1, vI (if (32:Int32) < y691 then (32:Int32) else y691), none], [.int (1:Int32), .int x1, .ref 11], (H1 s e0 r727))) rfl ?_
  obtain ⟨r728, hr728, h⟩ := bind_eq_some_iff.mp h
  refine QTri.callP W (a := 11) (as := [.int x1, .int (1:Int32)]) (rest := []) (w := none) (σ₁ := (H1 s e0 r728)) rfl rfl rfl rfl rfl rfl rfl rfl (tF6a1 Ad W s e0 r727 x1 (1:Int32) hr728) ?_
  obtain rfl := Option.some.inj h
  exact QTri.ret0 rfl rfl
 rcases em ((32:Int32) < y691) with hc694 | hc694
 ·refine zF Ad W (t := 16) (f := 13) rfl (XT.ii_le_f hc694) ?_
  refine zS Ad W 2 (st' := (16, [vR 11, vI x1, vI (32:Int32), none], [], (H1 s e0 o))) rfl ?_
  exact zM [tt,tt,tt,ff] (K693 _ (if_pos hc694).symm)
 ·refine zT Ad W (t := 16) (f := 13) rfl (XT.ii_le_t hc694) ?_
  exact zM [tt,tt,tt,ff] (K693 _ (if_neg hc694).symm)
theorem tJ18_14a2 (Ad : QAd n0 ad) (W : QW Z a0) (s : List Int32) (e0 : Ob) (o : Ob) (x1 : Int32) {r : Ob} (h : J18_14 o x1 = some r) : QTri l Z n0 ad 18 (14, [vR 11, vI x1], [], (H1 s e0 o)) (none : Option Value) (H1 s e0 r) := by
 unfold J18_14 at h
 refine zS Ad W 3 (st' := (19, [vR 11, vI x1], [.int x1, .ref 14], (H1 s e0 o))) rfl ?_
 obtain ⟨y730, hy730, h⟩ := bind_eq_some_iff.mp h
 refine zB Ad W (f := fun y730 => (20, [vR 11, vI x1], [.int y730], (H1 s e0 o))) rfl hy730 ?_
 rcases qite h with ⟨hc731, h⟩ | ⟨hc731, h⟩
 ·refine zF Ad W (t := 37) (f := 23) rfl (XT.i0_le_f hc731) ?_
  refine zS Ad W 6 (st' := (33, [vR 11, vI x1], [.int x1, .ref 14, .int x1, .ref 14], (H1 s e0 o))) rfl ?_
  obtain ⟨y732, hy732, h⟩ := bind_eq_some_iff.mp h
  refine zB Ad W (f := fun y732 => (34, [vR 11, vI x1], [.int y732, .int x1, .ref 14], (H1 s e0 o))) rfl hy732 ?_
  refine zS Ad W 2 (st' := (36, [vR 11, vI x1], [.int (y732 - (1:Int32)), .int x1, .ref 14], (H1 s e0 o))) rfl ?_
  obtain ⟨y733, hy733, h⟩ := bind_eq_some_iff.mp h
  refine zB Ad W (f := fun y733 => (37, [vR 11, vI x1], [], (H1x20 s e0 o y733))) rfl hy733 ?_
  have E734 : ((H1x20 s e0 o y733) : QHeap) = (H1 s e0 (s_frontSize o y733)) := by simp only [fs, H1, H1v, H1x20, s_frontSize]
  rw [E734]
  obtain rfl := Option.some.inj h
  exact QTri.ret0 rfl rfl
 ·refine zT Ad W (t := 37) (f := 23) rfl (XT.i0_le_t hc731) ?_
  obtain rfl := Option.some.inj h
  exact QTri.ret0 rfl rfl
theorem tF18a2 (Ad : QAd n0 ad) (W : QW Z a0) (s : List Int32) (e0 : Ob) (o : Ob) (x1 : Int32) {r : Ob} (h : F18 o x1 = some r) : QTri l Z n0 ad 18 (0, qentry [.ref 11, .int x1] (pMaxL 18), [], (H1 s e0 o)) (none : Option Value) (H1 s e0 r) := by
 unfold F18 at h
 refine zS Ad W 3 (st' := (5, [vR 11, vI x1], [.int x1, .ref 14], (H1 s e0 o))) rfl ?_
 obtain ⟨y689, hy689, h⟩ := bind_eq_some_iff.mp h
 refine zB Ad W (f := fun y689 => (6, [vR 11, vI x1], [.int y689], (H1 s e0 o))) rfl hy689 ?_
 rcases qite h with ⟨hc690, h⟩ | ⟨hc690, h⟩
 ·refine zF Ad W (t := 14) (f := 9) rfl (XT.i0_ne_f hc690) ?_
  refine zS Ad W 2 (st' := (11, [vR 11, vI x1], [.int x1, .ref 11], (H1 s e0 o))) rfl ?_
  obtain ⟨r729, hr729, h⟩ := bind_eq_some_iff.mp h
  refine QTri.callP W (a := 11) (as := [.int x1]) (rest := []) (w := none) (σ₁ := (H1 s e0 r729)) rfl rfl rfl rfl rfl rfl rfl rfl (tF19a2 Ad W s e0 o x1 hr729) ?_
  exact zM [tt,tt] (tJ18_14a2 Ad W s e0 r729 x1 h)
 ·refine zT Ad W (t := 14) (f := 9) rfl (XT.i0_ne_t hc690) ?_
  exact zM [tt,tt] (tJ18_14a2 Ad W s e0 o x1 h)
theorem tF12a2 (Ad : QAd n0 ad) (W : QW Z a0) (s : List Int32) (e0 : Ob) (o : Ob) (x1 : Int32) {r : Ob} (h : F12 o x1 = some r) : QTri l Z n0 ad 12 (0, qentry [.ref 11, .int x1] (pMaxL 12), [], (H1 s e0 o)) (none : Option Value) (H1 s e0 r) := by
 unfold F12 at h
 refine zS Ad W 1 (st' := (1, [vR 11, vI x1, none, none], [.int x1], (H1 s e0 o))) rfl ?_
 rcases qite h with ⟨hc663, h⟩ | ⟨hc663, h⟩
 ·refine zT Ad W (t := 9) (f := 4) rfl (XT.i0_lt_t hc663) ?_
  obtain rfl := Option.some.inj h
  exact QTri.ret0 rfl rfl
 ·refine zF Ad W (t := 9) (f := 4) rfl (XT.i0_lt_f hc663) ?_
  refine zS Ad W 2 (st' := (6, [vR 11, vI x1, none, none], [.int (4:Int32), .int x1], (H1 s e0 o))) rfl ?_
  rcases qite h with ⟨hc664, h⟩ | ⟨hc664, h⟩
  ·refine zT Ad W (t := 10) (f := 9) rfl (XT.ii_lt_t hc664) ?_
   refine zS Ad W 3 (st' := (15, [vR 11, vI x1, none, none], [.int x1, .ref 14], (H1 s e0 o))) rfl ?_
   obtain ⟨y665, hy665, h⟩ := bind_eq_some_iff.mp h
   refine zB Ad W (f := fun y665 => (16, [vR 11, vI x1, none, none], [.int y665], (H1 s e0 o))) rfl hy665 ?_
   refine zS Ad W 3 (st' := (21, [vR 11, vI x1, none, none], [.int x1, .ref 15, .int y665], (H1 s e0 o))) rfl ?_
   obtain ⟨y666, hy666, h⟩ := bind_eq_some_iff.mp h
   refine zB Ad W (f := fun y666 => (22, [vR 11, vI x1, none, none], [.int y666, .int y665], (H1 s e0 o))) rfl hy666 ?_
   refine zS Ad W 6 (st' := (30, [vR 11, vI x1, vI (y665 + y666), none], [.int x1, .ref 12, .int (y665 + y666)], (H1 s e0 o))) rfl ?_
   obtain ⟨y667, hy667, h⟩ := bind_eq_some_iff.mp h
   refine zB Ad W (f := fun y667 => (31, [vR 11, vI x1, vI (y665 + y666), none], [.int y667, .int (y665 + y666)], (H1 s e0 o))) rfl hy667 ?_
   rcases qite h with ⟨hc668, h⟩ | ⟨hc668, h⟩
   ·refine zT Ad W (t := 39) (f := 34) rfl (XT.ii_lt_t hc668) ?_
    exact zM [tt,tt,ff,ff] (tJ12_39a2 Ad W s e0 o x1 h)
   ·refine zF Ad W (t := 39) (f := 34) rfl (XT.ii_lt_f hc668) ?_
    refine zS Ad W 2 (st' := (36, [vR 11, vI x1, vI (y665 + y666), none], [.int x1, .ref 11], (H1 s e0 o))) rfl ?_
    obtain ⟨r735, hr735, h⟩ := bind_eq_some_iff.mp h
    refine QTri.callP W (a := 11) (as := [.int x1]) (rest := []) (w := none) (σ₁ := (H1 s e0 r735)) rfl rfl rfl rfl rfl rfl rfl rfl (tF18a2 Ad W s e0 o x1 hr735) ?_
    exact zM [tt,tt,ff,ff] (tJ12_39a2 Ad W s e0 r735 x1 h)
  ·refine zF Ad W (t := 10) (f := 9) rfl (XT.ii_lt_f hc664) ?_
   obtain rfl := Option.some.inj h
   exact QTri.ret0 rfl rfl
theorem tJ11_75a2 (Ad : QAd n0 ad) (W : QW Z a0) (s : List Int32) (e0 : Ob) (o : Ob) (x5 : Int32) (x6 : Int32) {r : ((Int32 × Ob)) ⊕ (Int32 × Int32 × Ob)} {u : Option Value} {τ : QHeap} (h : J11_75 o x5 x6 = some r) (hx0 : ∀ x : Int32 × Ob, r = .inl x → u = (some (Value.int x.1)) ∧ τ = (H1 s e0 x.2)) (hc : ∀ x : Int32 × Int32 × Ob, r = .inr x → QTri l Z n0 ad 11 (26, [vR 11, none, none, none, none, vI x.1, vI x.2.1, none], [], (H1 s e0 x.2.2)) u τ) : QTri l Z n0 ad 11 (75, [vR 11, none, none, none, none, vI x5, vI x6, none], [], (H1 s e0 o)) u τ := by
 unfold J11_75 at h
 refine zS Ad W 2 (st' := (26, [vR 11, none, none, none, none, vI x5, vI (x6 + (1:Int32)), none], [], (H1 s e0 o))) rfl ?_
 obtain rfl := Option.some.inj h
 exact zM [tt,ff,ff,ff,ff,tt,tt,ff] (hc (x5, (x6 + (1:Int32)), o) rfl)
theorem tF22a2 (Ad : QAd n0 ad) (W : QW Z a0) (s : List Int32) (e0 : Ob) (o : Ob) (x1 : Int32) {r : Ob} (h : F22 o x1 = some r) : QTri l Z n0 ad 22 (0, qentry [.ref 11, .int x1] (pMaxL 22), [], (H1 s e0 o)) (none : Option Value) (H1 s e0 r) := by
 unfold F22 at h
 refine zS Ad W 3 (st' := (3, [vR 11, vI x1], [.int (3:Int32), .int x1, .ref 11], (H1 s e0 o))) rfl ?_
 obtain ⟨r741, hr741, h⟩ := bind_eq_some_iff.mp h
 refine QTri.callP W (a := 11) (as := [.int x1, .int (3:Int32)]) (rest := []) (w := none) (σ₁ := (H1 s e0 r741)) rfl rfl rfl rfl rfl rfl rfl rfl (tF23a2 Ad W s e0 o x1 (3:Int32) hr741) ?_
 refine zS Ad W 3 (st' := (9, [vR 11, vI x1], [.int (3:Int32), .int x1, .ref 11], (H1 s e0 r741))) rfl ?_
 obtain ⟨r742, hr742, h⟩ := bind_eq_some_iff.mp h
 refine QTri.callP W (a := 11) (as := [.int x1, .int (3:Int32)]) (rest := []) (w := none) (σ₁ := (H1 s e0 r742)) rfl rfl rfl rfl rfl rfl rfl rfl (tF7a1 Ad W s e0 r741 x1 (3:Int32) hr742) ?_
 obtain rfl := Option.some.inj h
 exact QTri.ret0 rfl rfl
theorem tB11_26a2 (Ad : QAd n0 ad) (W : QW Z a0) (s : List Int32) (e0 : Ob) (v : Int32 × Int32 × Ob) {r : ((Int32 × Ob)) ⊕ (Int32 × Int32 × Ob)} {u : Option Value} {τ : QHeap} (h : B11_26 v = some r) (hx0 : ∀ x : Int32 × Ob, r = .inl x → u = (some (Value.int x.1)) ∧ τ = (H1 s e0 x.2)) (hc : ∀ x : Int32 × Int32 × Ob, r = .inr x → QTri l Z n0 ad 11 (26, [vR 11, none, none, none, none, vI x.1, vI x.2.1, none], [], (H1 s e0 x.2.2)) u τ) : QTri l Z n0 ad 11 (26, [vR 11, none, none, none, none, vI v.1, vI v.2.1, none], [], (H1 s e0 v.2.2)) u τ := by
 unfold B11_26 at h
 refine zS Ad W 3 (st' := (32, [vR 11, none, none, none, none, vI v.1, vI v.2.1, none], [.int (f_queries v.2.2), .int v.2.1], (H1 s e0 v.2.2))) rfl ?_
 rcases qite h with ⟨hc662, h⟩ | ⟨hc662, h⟩
 ·refine zF Ad W (t := 81) (f := 35) rfl (XT.ii_ge_f hc662) ?_
  refine zS Ad W 2 (st' := (38, [vR 11, none, none, none, none, vI v.1, vI v.2.1, none], [.int v.2.1, .ref 11], (H1 s e0 v.2.2))) rfl ?_
  obtain ⟨r736, hr736, h⟩ := bind_eq_some_iff.mp h
  refine QTri.callP W (a := 11) (as := [.int v.2.1]) (rest := []) (w := none) (σ₁ := (H1 s e0 r736)) rfl rfl rfl rfl rfl rfl rfl rfl (tF12a2 Ad W s e0 v.2.2 v.2.1 hr736) ?_
  refine zS Ad W 3 (st' := (47, [vR 11, none, none, none, none, vI v.1, vI v.2.1, none], [.int v.2.1, .ref 13], (H1 s e0 r736))) rfl ?_
  obtain ⟨y737, hy737, h⟩ := bind_eq_some_iff.mp h
  refine zB Ad W (f := fun y737 => (48, [vR 11, none, none, none, none, vI v.1, vI v.2.1, none], [.int y737], (H1 s e0 r736))) rfl hy737 ?_
  refine zS Ad W 3 (st' := (53, [vR 11, none, none, none, none, vI v.1, vI v.2.1, vI y737], [.int (1:Int32), .int y737], (H1 s e0 r736))) rfl ?_
  rcases qite h with ⟨hc738, h⟩ | ⟨hc738, h⟩
  ·refine zT Ad W (t := 75) (f := 56) rfl (XT.ii_lt_t hc738) ?_
   exact zM [tt,ff,ff,ff,ff,tt,tt,ff] (tJ11_75a2 Ad W s e0 r736 v.1 v.2.1 h hx0 hc)
  ·refine zF Ad W (t := 75) (f := 56) rfl (XT.ii_lt_f hc738) ?_
   refine zS Ad W 3 (st' := (62, [vR 11, none, none, none, none, vI v.1, vI v.2.1, vI y737], [.int y737, .int (f_n r736)], (H1 s e0 r736))) rfl ?_
   obtain ⟨y739, hy739, h⟩ := bind_eq_some_iff.mp h
   refine zB Ad W (f := fun y739 => (63, [vR 11, none, none, none, none, vI v.1, vI v.2.1, vI y737], [.int y739], (H1 s e0 r736))) rfl hy739 ?_
   rcases qite h with ⟨hc740, h⟩ | ⟨hc740, h⟩
   ·refine zF Ad W (t := 75) (f := 66) rfl (XT.i0_ne_f hc740) ?_
    refine zS Ad W 2 (st' := (69, [vR 11, none, none, none, none, vI v.1, vI v.2.1, vI y737], [.int v.2.1, .ref 11], (H1 s e0 r736))) rfl ?_
    obtain ⟨r743, hr743, h⟩ := bind_eq_some_iff.mp h
    refine QTri.callP W (a := 11) (as := [.int v.2.1]) (rest := []) (w := none) (σ₁ := (H1 s e0 r743)) rfl rfl rfl rfl rfl rfl rfl rfl (tF22a2 Ad W s e0 r736 v.2.1 hr743) ?_
    refine zS Ad W 1 (st' := (75, [vR 11, none, none, none, none, vI (v.1 + (1:Int32)), vI v.2.1, vI y737], [], (H1 s e0 r743))) rfl ?_
    exact zM [tt,ff,ff,ff,ff,tt,tt,ff] (tJ11_75a2 Ad W s e0 r743 (v.1 + (1:Int32)) v.2.1 h hx0 hc)
   ·refine zT Ad W (t := 75) (f := 66) rfl (XT.i0_ne_t hc740) ?_
    exact zM [tt,ff,ff,ff,ff,tt,tt,ff] (tJ11_75a2 Ad W s e0 r736 v.1 v.2.1 h hx0 hc)
 ·refine zT Ad W (t := 81) (f := 35) rfl (XT.ii_ge_t hc662) ?_
  refine zS Ad W 1 (st' := (83, [vR 11, none, none, none, none, vI v.1, vI v.2.1, none], [.int v.1], (H1 s e0 v.2.2))) rfl ?_
  obtain rfl := Option.some.inj h
  obtain ⟨rfl, rfl⟩ := hx0 (v.1, v.2.2) rfl
  exact QTri.retI rfl rfl
theorem tF11a2 (Ad : QAd n0 ad) (W : QW Z a0) (s : List Int32) (e0 : Ob) (o : Ob) (x1 : Int32) (x2 : Int32) (x3 : Int32) (x4 : Int32) {r : Int32 × Ob} (h : F11 o x1 x2 x3 x4 = some r) : QTri l Z n0 ad 11 (0, qentry [.ref 11, .int x1, .int x2, .int x3, .int x4] (pMaxL 11), [], (H1 s e0 o)) (some (Value.int r.1)) (H1 s e0 r.2) := by
 unfold F11 at h
 refine zS Ad W 6 (st' := (10, [vR 11, vI x1, vI x2, vI x3, vI x4, none, none, none], [], (H1x40 s e0 o ((f_n o) + (1:Int32))))) rfl ?_
 refine zS Ad W 6 (st' := (17, [vR 11, vI x1, vI x2, vI x3, vI x4, none, none, none], [.int x4, .int x3, .int x2, .int x1, .int (0:Int32), .ref 11], (H1x40 s e0 o ((f_n o) + (1:Int32))))) rfl ?_
 have E660 : ((H1x40 s e0 o ((f_n o) + (1:Int32))) : QHeap) = (H1 s e0 (s_n o ((f_n o) + (1:Int32)))) := by simp only [fs, H1, H1v, H1x40, s_n]
 rw [E660]
 obtain ⟨r661, hr661, h⟩ := bind_eq_some_iff.mp h
 refine QTri.callP W (a := 11) (as := [.int (0:Int32), .int x1, .int x2, .int x3, .int x4]) (rest := []) (w := none) (σ₁ := (H1 s e0 r661)) rfl rfl rfl rfl rfl rfl rfl rfl (tF4a1 Ad W s e0 (s_n o ((f_n o) + (1:Int32))) (0:Int32) x1 x2 x3 x4 hr661) ?_
 refine zS Ad W 4 (st' := (26, [vR 11, vI x1, vI x2, vI x3, vI x4, vI (0:Int32), vI (0:Int32), none], [], (H1 s e0 r661))) rfl ?_
 obtain ⟨e744, he744, h⟩ := bind_eq_some_iff.mp h
 refine zM [tt,ff,ff,ff,ff,tt,tt,ff] (loopN_tri (B := B11_26) (T := fun lv745 => QTri l Z n0 ad 11 (26, [vR 11, none, none, none, none, vI lv745.1, vI lv745.2.1, none], [], (H1 s e0 lv745.2.2)) (some (Value.int r.1)) (H1 s e0 r.2)) (KE := fun e744a => (some (Value.int r.1)) = (some (Value.int e744a.1)) ∧ (H1 s e0 r.2) = (H1 s e0 e744a.2)) (fun lv745 r hB hE hC => tB11_26a2 Ad W s e0 lv745 hB (fun x q => hE _ q) (fun x q => hC x q)) qN ((0:Int32), (0:Int32), r661) e744 he744 ?_)
 obtain rfl := Option.some.inj h
 exact ⟨rfl, rfl⟩
theorem tF8a2 (Ad : QAd n0 ad) (W : QW Z a0) (s : List Int32) (e0 : Ob) (o : Ob) (x1 : Int32) (x2 : Int32) (x3 : Int32) (x4 : Int32) (x5 : Int32) {r : Int32 × Ob} (h : F8 o x1 x2 x3 x4 x5 = some r) : QTri l Z n0 ad 8 (0, qentry [.ref 11, .int x1, .int x2, .int x3, .int x4, .int x5] (pMaxL 8), [], (H1 s e0 o)) (some (Value.int r.1)) (H1 s e0 r.2) := by
 unfold F8 at h
 refine zS Ad W 1 (st' := (1, [vR 11, vI x1, vI x2, vI x3, vI x4, vI x5], [.int x1], (H1 s e0 o))) rfl ?_
 rcases qite h with ⟨hc651, h⟩ | ⟨hc651, h⟩
 ·refine zF Ad W (t := 11) (f := 4) rfl (XT.i0_ne_f hc651) ?_
  refine zS Ad W 3 (st' := (7, [vR 11, vI x1, vI x2, vI x3, vI x4, vI x5], [.int x3, .int x2, .ref 11], (H1 s e0 o))) rfl ?_
  obtain ⟨r652, hr652, h⟩ := bind_eq_some_iff.mp h
  refine QTri.callV W (a := 11) (as := [.int x2, .int x3]) (rest := []) (w := (some (.int r652.1))) (σ₁ := (H1 s e0 r652.2)) rfl rfl rfl rfl rfl rfl rfl rfl (tF10a1 Ad W s e0 o x2 x3 hr652) ?_
  obtain rfl := Option.some.inj h
  exact QTri.retI rfl rfl
 ·refine zT Ad W (t := 11) (f := 4) rfl (XT.i0_ne_t hc651) ?_
  refine zS Ad W 2 (st' := (13, [vR 11, vI x1, vI x2, vI x3, vI x4, vI x5], [.int (3:Int32), .int x1], (H1 s e0 o))) rfl ?_
  rcases qite h with ⟨hc653, h⟩ | ⟨hc653, h⟩
  ·refine zF Ad W (t := 22) (f := 16) rfl (XT.ii_ne_f hc653) ?_
   refine zS Ad W 1 (st' := (17, [vR 11, vI x1, vI x2, vI x3, vI x4, vI x5], [.ref 11], (H1 s e0 o))) rfl ?_
   obtain ⟨r659, hr659, h⟩ := bind_eq_some_iff.mp h
   refine QTri.callV W (a := 11) (as := []) (rest := []) (w := none) (σ₁ := (H1 s e0 r659)) rfl rfl rfl rfl rfl rfl rfl rfl (tF9a2 Ad W s e0 o hr659) ?_
   refine zS Ad W 1 (st' := (21, [vR 11, vI x1, vI x2, vI x3, vI x4, vI x5], [.int (0:Int32)], (H1 s e0 r659))) rfl ?_
   obtain rfl := Option.some.inj h
   exact QTri.retI rfl rfl
  ·refine zT Ad W (t := 22) (f := 16) rfl (XT.ii_ne_t hc653) ?_
   refine zS Ad W 5 (st' := (29, [vR 11, vI x1, vI x2, vI x3, vI x4, vI x5], [.int x5, .int x4, .int x3, .int x2, .ref 11], (H1 s e0 o))) rfl ?_
   obtain ⟨r746, hr746, h⟩ := bind_eq_some_iff.mp h
   refine QTri.callV W (a := 11) (as := [.int x2, .int x3, .int x4, .int x5]) (rest := []) (w := (some (.int r746.1))) (σ₁ := (H1 s e0 r746.2)) rfl rfl rfl rfl rfl rfl rfl rfl (tF11a2 Ad W s e0 o x2 x3 x4 x5 hr746) ?_
   obtain rfl := Option.some.inj h
   exact QTri.retI rfl rfl
def B0_138 (s : List Int32) (v : Int32 × Ob × Ob) : Option (((Int32 × QHeap)) ⊕ (Int32 × Ob × Ob)) :=
  (if (s.length.toInt32) < (v.1 + (5 : Int32)) then some (.inl ((1 : Int32), (H1 s v.2.1 v.2.2))) else (aget s v.1).bind fun y539 => (aget s (v.1 + (1 : Int32))).bind fun y540 => (aget s (v.1 + (2 : Int32))).bind fun y541 => (aget s (v.1 + (3 : Int32))).bind fun y542 => (aget s (v.1 + (4 : Int32))).bind fun y543 => (F8 v.2.1 (y539 &&& (3 : Int32)) y540 y541 y542 y543).bind fun r646 => (aget s (v.1 + (1 : Int32))).bind fun y647 => (aget s (v.1 + (2 : Int32))).bind fun y648 => (aget s (v.1 + (3 : Int32))).bind fun y649 => (aget s (v.1 + (4 : Int32))).bind fun y650 => (F8 v.2.2 (y539 &&& (3 : Int32)) y647 y648 y649 y650).bind fun r747 => (if r646.1 = r747.1 then (F29 r646.2 r747.2).bind fun r749 => (if r749.1 = (0 : Int32) then some (.inl ((0 : Int32), (H1 s r749.2.1 r749.2.2))) else some (.inr ((v.1 + (5 : Int32)), r749.2.1, r749.2.2))) else some (.inl ((0 : Int32), (H1 s r646.2 r747.2)))))
theorem tB0_138 (Ad : QAd n0 ad) (W : QW Z a0) (s : List Int32) (v : Int32 × Ob × Ob) {r : ((Int32 × QHeap)) ⊕ (Int32 × Ob × Ob)} {u : Option Value} {τ : QHeap} (h : B0_138 s v = some r) (hx0 : ∀ x : Int32 × QHeap, r = .inl x → u = (some (Value.int x.1)) ∧ τ = x.2) (hc : ∀ x : Int32 × Ob × Ob, r = .inr x → QTri l Z n0 ad 0 (138, [vR 0, vR 1, none, vI x.1, vR 11, none, none, none, none], [], (H1 s x.2.1 x.2.2)) u τ) : QTri l Z n0 ad 0 (138, [vR 0, vR 1, none, vI v.1, vR 11, none, none, none, none], [], (H1 s v.2.1 v.2.2)) u τ := by
 unfold B0_138 at h
 refine zS Ad W 5 (st' := (143, [vR 0, vR 1, none, vI v.1, vR 11, none, none, none, none], [.int (s.length.toInt32), .int (v.1 + (5:Int32))], (H1 s v.2.1 v.2.2))) rfl ?_
 rcases qite h with ⟨hc538, h⟩ | ⟨hc538, h⟩
 ·refine zT Ad W (t := 234) (f := 146) rfl (XT.ii_gt_t hc538) ?_
  refine zS Ad W 1 (st' := (235, [vR 0, vR 1, none, vI v.1, vR 11, none, none, none, none], [.int (1:Int32)], (H1 s v.2.1 v.2.2))) rfl ?_
  obtain rfl := Option.some.inj h
  obtain ⟨rfl, rfl⟩ := hx0 ((1:Int32), (H1 s v.2.1 v.2.2)) rfl
  exact QTri.retZ rfl rfl
 ·refine zF Ad W (t := 234) (f := 146) rfl (XT.ii_gt_f hc538) ?_
  refine zS Ad W 2 (st' := (148, [vR 0, vR 1, none, vI v.1, vR 11, none, none, none, none], [.int v.1, .ref 0], (H1 s v.2.1 v.2.2))) rfl ?_
  obtain ⟨y539, hy539, h⟩ := bind_eq_some_iff.mp h
  refine zB Ad W (f := fun y539 => (149, [vR 0, vR 1, none, vI v.1, vR 11, none, none, none, none], [.int y539], (H1 s v.2.1 v.2.2))) rfl hy539 ?_
  refine zS Ad W 9 (st' := (160, [vR 0, vR 1, none, vI v.1, vR 11, none, vI (y539 &&& (3:Int32)), none, none], [.int (v.1 + (1:Int32)), .ref 0, .int (y539 &&& (3:Int32)), .ref 1], (H1 s v.2.1 v.2.2))) rfl ?_
  obtain ⟨y540, hy540, h⟩ := bind_eq_some_iff.mp h
  refine zB Ad W (f := fun y540 => (161, [vR 0, vR 1, none, vI v.1, vR 11, none, vI (y539 &&& (3:Int32)), none, none], [.int y540, .int (y539 &&& (3:Int32)), .ref 1], (H1 s v.2.1 v.2.2))) rfl hy540 ?_
  refine zS Ad W 4 (st' := (165, [vR 0, vR 1, none, vI v.1, vR 11, none, vI (y539 &&& (3:Int32)), none, none], [.int (v.1 + (2:Int32)), .ref 0, .int y540, .int (y539 &&& (3:Int32)), .ref 1], (H1 s v.2.1 v.2.2))) rfl ?_
  obtain ⟨y541, hy541, h⟩ := bind_eq_some_iff.mp h
  refine zB Ad W (f := fun y541 => (166, [vR 0, vR 1, none, vI v.1, vR 11, none, vI (y539 &&& (3:Int32)), none, none], [.int y541, .int y540, .int (y539 &&& (3:Int32)), .ref 1], (H1 s v.2.1 v.2.2))) rfl hy541 ?_
  refine zS Ad W 4 (st' := (170, [vR 0, vR 1, none, vI v.1, vR 11, none, vI (y539 &&& (3:Int32)), none, none], [.int (v.1 + (3:Int32)), .ref 0, .int y541, .int y540, .int (y539 &&& (3:Int32)), .ref 1], (H1 s v.2.1 v.2.2))) rfl ?_
  obtain ⟨y542, hy542, h⟩ := bind_eq_some_iff.mp h
  refine zB Ad W (f := fun y542 => (171, [vR 0, vR 1, none, vI v.1, vR 11, none, vI (y539 &&& (3:Int32)), none, none], [.int y542, .int y541, .int y540, .int (y539 &&& (3:Int32)), .ref 1], (H1 s v.2.1 v.2.2))) rfl hy542 ?_
  refine zS Ad W 4 (st' := (175, [vR 0, vR 1, none, vI v.1, vR 11, none, vI (y539 &&& (3:Int32)), none, none], [.int (v.1 + (4:Int32)), .ref 0, .int y542, .int y541, .int y540, .int (y539 &&& (3:Int32)), .ref 1], (H1 s v.2.1 v.2.2))) rfl ?_
  obtain ⟨y543, hy543, h⟩ := bind_eq_some_iff.mp h
  refine zB Ad W (f := fun y543 => (176, [vR 0, vR 1, none, vI v.1, vR 11, none, vI (y539 &&& (3:Int32)), none, none], [.int y543, .int y542, .int y541, .int y540, .int (y539 &&& (3:Int32)), .ref 1], (H1 s v.2.1 v.2.2))) rfl hy543 ?_
  obtain ⟨r646, hr646, h⟩ := bind_eq_some_iff.mp h
  refine QTri.callS W (as := [.ref 1, .int (y539 &&& (3:Int32)), .int y540, .int y541, .int y542, .int y543]) (rest := []) (w := (some (.int r646.1))) (σ₁ := (H1 s r646.2 v.2.2)) rfl rfl rfl rfl rfl rfl rfl (tF8a1 Ad W s v.2.2 v.2.1 (y539 &&& (3:Int32)) y540 y541 y542 y543 hr646) ?_
  refine zS Ad W 7 (st' := (189, [vR 0, vR 1, none, vI v.1, vR 11, none, vI (y539 &&& (3:Int32)), vI r646.1, none], [.int (v.1 + (1:Int32)), .ref 0, .int (y539 &&& (3:Int32)), .ref 11], (H1 s r646.2 v.2.2))) rfl ?_
  obtain ⟨y647, hy647, h⟩ := bind_eq_some_iff.mp h
  refine zB Ad W (f := fun y647 => (190, [vR 0, vR 1, none, vI v.1, vR 11, none, vI (y539 &&& (3:Int32)), vI r646.1, none], [.int y647, .int (y539 &&& (3:Int32)), .ref 11], (H1 s r646.2 v.2.2))) rfl hy647 ?_
  refine zS Ad W 4 (st' := (194, [vR 0, vR 1, none, vI v.1, vR 11, none, vI (y539 &&& (3:Int32)), vI r646.1, none], [.int (v.1 + (2:Int32)), .ref 0, .int y647, .int (y539 &&& (3:Int32)), .ref 11], (H1 s r646.2 v.2.2))) rfl ?_
  obtain ⟨y648, hy648, h⟩ := bind_eq_some_iff.mp h
  refine zB Ad W (f := fun y648 => (195, [vR 0, vR 1, none, vI v.1, vR 11, none, vI (y539 &&& (3:Int32)), vI r646.1, none], [.int y648, .int y647, .int (y539 &&& (3:Int32)), .ref 11], (H1 s r646.2 v.2.2))) rfl hy648 ?_
  refine zS Ad W 4 (st' := (199, [vR 0, vR 1, none, vI v.1, vR 11, none, vI (y539 &&& (3:Int32)), vI r646.1, none], [.int (v.1 + (3:Int32)), .ref 0, .int y648, .int y647, .int (y539 &&& (3:Int32)), .ref 11], (H1 s r646.2 v.2.2))) rfl ?_
  obtain ⟨y649, hy649, h⟩ := bind_eq_some_iff.mp h
  refine zB Ad W (f := fun y649 => (200, [vR 0, vR 1, none, vI v.1, vR 11, none, vI (y539 &&& (3:Int32)), vI r646.1, none], [.int y649, .int y648, .int y647, .int (y539 &&& (3:Int32)), .ref 11], (H1 s r646.2 v.2.2))) rfl hy649 ?_
  refine zS Ad W 4 (st' := (204, [vR 0, vR 1, none, vI v.1, vR 11, none, vI (y539 &&& (3:Int32)), vI r646.1, none], [.int (v.1 + (4:Int32)), .ref 0, .int y649, .int y648, .int y647, .int (y539 &&& (3:Int32)), .ref 11], (H1 s r646.2 v.2.2))) rfl ?_
  obtain ⟨y650, hy650, h⟩ := bind_eq_some_iff.mp h
  refine zB Ad W (f := fun y650 => (205, [vR 0, vR 1, none, vI v.1, vR 11, none, vI (y539 &&& (3:Int32)), vI r646.1, none], [.int y650, .int y649, .int y648, .int y647, .int (y539 &&& (3:Int32)), .ref 11], (H1 s r646.2 v.2.2))) rfl hy650 ?_
  obtain ⟨r747, hr747, h⟩ := bind_eq_some_iff.mp h
  refine QTri.callS W (as := [.ref 11, .int (y539 &&& (3:Int32)), .int y647, .int y648, .int y649, .int y650]) (rest := []) (w := (some (.int r747.1))) (σ₁ := (H1 s r646.2 r747.2)) rfl rfl rfl rfl rfl rfl rfl (tF8a2 Ad W s r646.2 v.2.2 (y539 &&& (3:Int32)) y647 y648 y649 y650 hr747) ?_
  refine zS Ad W 3 (st' := (214, [vR 0, vR 1, none, vI v.1, vR 11, none, vI (y539 &&& (3:Int32)), vI r646.1, vI r747.1], [.int r747.1, .int r646.1], (H1 s r646.2 r747.2))) rfl ?_
  rcases qite h with ⟨hc748, h⟩ | ⟨hc748, h⟩
  ·refine zF Ad W (t := 226) (f := 217) rfl (XT.ii_ne_f hc748) ?_
   refine zS Ad W 2 (st' := (220, [vR 0, vR 1, none, vI v.1, vR 11, none, vI (y539 &&& (3:Int32)), vI r646.1, vI r747.1], [.ref 11, .ref 1], (H1 s r646.2 r747.2))) rfl ?_
   obtain ⟨r749, hr749, h⟩ := bind_eq_some_iff.mp h
   refine QTri.callS W (as := [.ref 1, .ref 11]) (rest := []) (w := (some (.int r749.1))) (σ₁ := (H1 s r749.2.1 r749.2.2)) rfl rfl rfl rfl rfl rfl rfl (tF29 Ad W s r646.2 r747.2 hr749) ?_
   rcases qite h with ⟨hc750, h⟩ | ⟨hc750, h⟩
   ·refine zF Ad W (t := 228) (f := 226) rfl (XT.i0_ne_f hc750) ?_
    refine zS Ad W 1 (st' := (227, [vR 0, vR 1, none, vI v.1, vR 11, none, vI (y539 &&& (3:Int32)), vI r646.1, vI r747.1], [.int (0:Int32)], (H1 s r749.2.1 r749.2.2))) rfl ?_
    obtain rfl := Option.some.inj h
    obtain ⟨rfl, rfl⟩ := hx0 ((0:Int32), (H1 s r749.2.1 r749.2.2)) rfl
    exact QTri.retZ rfl rfl
   ·refine zT Ad W (t := 228) (f := 226) rfl (XT.i0_ne_t hc750) ?_
    refine zS Ad W 2 (st' := (138, [vR 0, vR 1, none, vI (v.1 + (5:Int32)), vR 11, none, vI (y539 &&& (3:Int32)), vI r646.1, vI r747.1], [], (H1 s r749.2.1 r749.2.2))) rfl ?_
    obtain rfl := Option.some.inj h
    exact zM [tt,tt,ff,tt,tt,ff,ff,ff,ff] (hc ((v.1 + (5:Int32)), r749.2.1, r749.2.2) rfl)
  ·refine zT Ad W (t := 226) (f := 217) rfl (XT.ii_ne_t hc748) ?_
   refine zS Ad W 1 (st' := (227, [vR 0, vR 1, none, vI v.1, vR 11, none, vI (y539 &&& (3:Int32)), vI r646.1, vI r747.1], [.int (0:Int32)], (H1 s r646.2 r747.2))) rfl ?_
   obtain rfl := Option.some.inj h
   obtain ⟨rfl, rfl⟩ := hx0 ((0:Int32), (H1 s r646.2 r747.2)) rfl
   exact QTri.retZ rfl rfl
/-- the law -/
def F0 (s : List Int32) : Option (Int32 × QHeap) :=
 (F1 (4:Int32)).bind fun r50 => (loopN (B0_16 s ((s.length.toInt32) / (2:Int32))) qN ((0:Int32), r50)).bind fun e216 => (F1 (4:Int32)).bind fun r265 => (F25 e216.2).bind fun r266 => (loopN (B0_78 s e216.1 r266) qN ((0:Int32), e216.2, r265)).bind fun e292 => (F9 e292.1).bind fun r335 => (F29 r335 e292.2).bind fun r536 => (if r536.1 = (0:Int32) then some ((0:Int32), (H1 s r536.2.1 r536.2.2)) else (loopN (B0_138 s) qN (e216.1, r536.2.1, r536.2.2)).bind fun e751 => some e751)
theorem tF0 (Ad : QAd n0 ad) (W : QW Z a0) (s : List Int32) {r : Int32 × QHeap} (h : F0 s = some r) : QTri l Z n0 ad 0 (0, qentry [.ref 0] (pMaxL 0), [], [.inr (.inl (.int, s))]) (some (Value.int r.1)) r.2 := by
 unfold F0 at h
 refine zS Ad W 1 (st' := (3, [vR 0, none, none, none, none, none, none, none, none], [.ref 1], [.inr (.inl (.int, s)), .inl [.int (f_regTuple ob0), .int (f_regA ob0), .int (f_regB ob0), .int (f_regC ob0), .int (f_regCount ob0), .int (f_slots ob0), .null, .null, .null, .null, .null, .null, .null, .null, .null, .int (f_capacity ob0), .int (f_queries ob0), .int (f_n ob0)]])) rfl ?_
 refine zS Ad W 2 (st' := (5, [vR 0, none, none, none, none, none, none, none, none], [.int (4:Int32), .ref 1, .ref 1], [.inr (.inl (.int, s)), .inl [.int (f_regTuple ob0), .int (f_regA ob0), .int (f_regB ob0), .int (f_regC ob0), .int (f_regCount ob0), .int (f_slots ob0), .null, .null, .null, .null, .null, .null, .null, .null, .null, .int (f_capacity ob0), .int (f_queries ob0), .int (f_n ob0)]])) rfl ?_
 obtain ⟨r50, hr50, h⟩ := bind_eq_some_iff.mp h
 refine QTri.callI W (a := 1) (as := [.int (4:Int32)]) (rest := [.ref 1]) (σ₁ := (H0 s r50)) rfl rfl rfl rfl rfl rfl (tF1 Ad W s (4:Int32) hr50) ?_
 refine zS Ad W 6 (st' := (14, [vR 0, vR 1, vI ((s.length.toInt32) / (2:Int32)), none, none, none, none, none, none], [], (H0 s r50))) rfl ?_
 refine zS Ad W 2 (st' := (16, [vR 0, vR 1, vI ((s.length.toInt32) / (2:Int32)), vI (0:Int32), none, none, none, none, none], [], (H0 s r50))) rfl ?_
 obtain ⟨e216, he216, h⟩ := bind_eq_some_iff.mp h
 refine zM [tt,tt,tt,tt,ff,ff,ff,ff,ff] (loopN_tri (B := B0_16 s ((s.length.toInt32) / (2:Int32))) (T := fun lv217 => QTri l Z n0 ad 0 (16, [vR 0, vR 1, vI ((s.length.toInt32) / (2:Int32)), vI lv217.1, none, none, none, none, none], [], (H0 s lv217.2)) (some (Value.int r.1)) r.2) (KE := fun e216a => QTri l Z n0 ad 0 (59, [vR 0, vR 1, none, vI e216a.1, none, none, none, none, none], [], (H0 s e216a.2)) (some (Value.int r.1)) r.2) (fun lv217 r hB hE hC => tB0_16 Ad W s ((s.length.toInt32) / (2:Int32)) lv217 hB (fun x q => hE _ q) (fun x q => hC x q)) qN ((0:Int32), r50) e216 he216 ?_)
 refine zS Ad W 1 (st' := (62, [vR 0, vR 1, none, vI e216.1, none, none, none, none, none], [.ref 11], [.inr (.inl (.int, s)), .inl [.int (f_regTuple e216.2), .int (f_regA e216.2), .int (f_regB e216.2), .int (f_regC e216.2), .int (f_regCount e216.2), .int (f_slots e216.2), .ref 2, .ref 3, .ref 4, .ref 5, .ref 6, .ref 7, .ref 8, .ref 9, .ref 10, .int (f_capacity e216.2), .int (f_queries e216.2), .int (f_n e216.2)], .inr (.inl (.int, (f_range e216.2))), .inr (.inl (.int, (f_slide e216.2))), .inr (.inl (.int, (f_frontSize e216.2))), .inr (.inl (.int, (f_backSize e216.2))), .inr (.inl (.int, (f_backElem e216.2))), .inr (.inl (.int, (f_frontAgg e216.2))), .inr (.inl (.int, (f_backAgg e216.2))), .inr (.inl (.int, (f_snap e216.2))), .inr (.inl (.int, (f_reg e216.2))), .inl [.int (f_regTuple ob0), .int (f_regA ob0), .int (f_regB ob0), .int (f_regC ob0), .int (f_regCount ob0), .int (f_slots ob0), .null, .null, .null, .null, .null, .null, .null, .null, .null, .int (f_capacity ob0), .int (f_queries ob0), .int (f_n ob0)]])) rfl ?_
 refine zS Ad W 2 (st' := (64, [vR 0, vR 1, none, vI e216.1, none, none, none, none, none], [.int (4:Int32), .ref 11, .ref 11], [.inr (.inl (.int, s)), .inl [.int (f_regTuple e216.2), .int (f_regA e216.2), .int (f_regB e216.2), .int (f_regC e216.2), .int (f_regCount e216.2), .int (f_slots e216.2), .ref 2, .ref 3, .ref 4, .ref 5, .ref 6, .ref 7, .ref 8, .ref 9, .ref 10, .int (f_capacity e216.2), .int (f_queries e216.2), .int (f_n e216.2)], .inr (.inl (.int, (f_range e216.2))), .inr (.inl (.int, (f_slide e216.2))), .inr (.inl (.int, (f_frontSize e216.2))), .inr (.inl (.int, (f_backSize e216.2))), .inr (.inl (.int, (f_backElem e216.2))), .inr (.inl (.int, (f_frontAgg e216.2))), .inr (.inl (.int, (f_backAgg e216.2))), .inr (.inl (.int, (f_snap e216.2))), .inr (.inl (.int, (f_reg e216.2))), .inl [.int (f_regTuple ob0), .int (f_regA ob0), .int (f_regB ob0), .int (f_regC ob0), .int (f_regCount ob0), .int (f_slots ob0), .null, .null, .null, .null, .null, .null, .null, .null, .null, .int (f_capacity ob0), .int (f_queries ob0), .int (f_n ob0)]])) rfl ?_
 obtain ⟨r265, hr265, h⟩ := bind_eq_some_iff.mp h
 refine QTri.callI W (a := 11) (as := [.int (4:Int32)]) (rest := [.ref 11]) (σ₁ := (H1 s e216.2 r265)) rfl rfl rfl rfl rfl rfl (tF1a1 Ad W s e216.2 (4:Int32) hr265) ?_
 refine zS Ad W 2 (st' := (70, [vR 0, vR 1, none, vI e216.1, vR 11, none, none, none, none], [.ref 1], (H1 s e216.2 r265))) rfl ?_
 obtain ⟨r266, hr266, h⟩ := bind_eq_some_iff.mp h
 refine QTri.callV W (a := 1) (as := []) (rest := []) (w := (some (.int r266))) (σ₁ := (H1 s e216.2 r265)) rfl rfl rfl rfl rfl rfl rfl rfl (tF25 Ad W s r265 e216.2 hr266) ?_
 refine zS Ad W 3 (st' := (78, [vR 0, vR 1, none, vI e216.1, vR 11, vI r266, vI (0:Int32), none, none], [], (H1 s e216.2 r265))) rfl ?_
 obtain ⟨e292, he292, h⟩ := bind_eq_some_iff.mp h
 refine zM [tt,tt,ff,tt,tt,tt,tt,ff,ff] (loopN_tri (B := B0_78 s e216.1 r266) (T := fun lv293 => QTri l Z n0 ad 0 (78, [vR 0, vR 1, none, vI e216.1, vR 11, vI r266, vI lv293.1, none, none], [], (H1 s lv293.2.1 lv293.2.2)) (some (Value.int r.1)) r.2) (KE := fun e292a => QTri l Z n0 ad 0 (123, [vR 0, vR 1, none, vI e216.1, vR 11, none, none, none, none], [], (H1 s e292a.1 e292a.2)) (some (Value.int r.1)) r.2) (fun lv293 r hB hE hC => tB0_78 Ad W s e216.1 r266 lv293 hB (fun x q => hE _ q) (fun x q => hC x q)) qN ((0:Int32), e216.2, r265) e292 he292 ?_)
 refine zS Ad W 1 (st' := (124, [vR 0, vR 1, none, vI e216.1, vR 11, none, none, none, none], [.ref 1], (H1 s e292.1 e292.2))) rfl ?_
 obtain ⟨r335, hr335, h⟩ := bind_eq_some_iff.mp h
 refine QTri.callV W (a := 1) (as := []) (rest := []) (w := none) (σ₁ := (H1 s r335 e292.2)) rfl rfl rfl rfl rfl rfl rfl rfl (tF9a1 Ad W s e292.2 e292.1 hr335) ?_
 refine zS Ad W 2 (st' := (130, [vR 0, vR 1, none, vI e216.1, vR 11, none, none, none, none], [.ref 11, .ref 1], (H1 s r335 e292.2))) rfl ?_
 obtain ⟨r536, hr536, h⟩ := bind_eq_some_iff.mp h
 refine QTri.callS W (as := [.ref 1, .ref 11]) (rest := []) (w := (some (.int r536.1))) (σ₁ := (H1 s r536.2.1 r536.2.2)) rfl rfl rfl rfl rfl rfl rfl (tF29 Ad W s r335 e292.2 hr536) ?_
 rcases qite h with ⟨hc537, h⟩ | ⟨hc537, h⟩
 ·refine zF Ad W (t := 138) (f := 136) rfl (XT.i0_ne_f hc537) ?_
  refine zS Ad W 1 (st' := (137, [vR 0, vR 1, none, vI e216.1, vR 11, none, none, none, none], [.int (0:Int32)], (H1 s r536.2.1 r536.2.2))) rfl ?_
  obtain rfl := Option.some.inj h
  exact QTri.retZ rfl rfl
 ·refine zT Ad W (t := 138) (f := 136) rfl (XT.i0_ne_t hc537) ?_
  obtain ⟨e751, he751, h⟩ := bind_eq_some_iff.mp h
  refine zM [tt,tt,ff,tt,tt,ff,ff,ff,ff] (loopN_tri (B := B0_138 s) (T := fun lv752 => QTri l Z n0 ad 0 (138, [vR 0, vR 1, none, vI lv752.1, vR 11, none, none, none, none], [], (H1 s lv752.2.1 lv752.2.2)) (some (Value.int r.1)) r.2) (KE := fun e751a => (some (Value.int r.1)) = (some (Value.int e751a.1)) ∧ r.2 = e751a.2) (fun lv752 r hB hE hC => tB0_138 Ad W s lv752 hB (fun x q => hE _ q) (fun x q => hC x q)) qN (e216.1, r536.2.1, r536.2.2) e751 he751 ?_)
  obtain rfl := Option.some.inj h
  exact ⟨rfl, rfl⟩
end Walks
theorem script_ok {s : State} {w : Value} (hfit : Fit s) (h1 : (Jvm.Cond.arrayOf (Jvm.Term.arg 0) Jvm.ClassFile.FieldType.int).value #[w] s none s [] = some true) (h2 : (Jvm.Cond.le (Jvm.Term.length (Jvm.Term.arg 0)) (Jvm.Term.int 260)).value #[w] s none s [] = some true) :
    ∃ (a : Addr) (c : Cell) (xs : List Int32), w = .ref a ∧ Arr s s.heap a c .int ∧ c.slots = (xs.map Value.int).toArray ∧ xs.length ≤ 260 := by
  obtain ⟨a, ha⟩ := arr_v h1
  obtain ⟨c, A⟩ := Arr.start ha h1
  have hw : w = .ref a := by simpa [Term.eval] using ha
  subst hw
  have hel : ∀ i, i < c.slots.size → ∃ x, c.slots[i]? = some (.int x) := fun i hi => by
    have q := hfit A.1 hi
    obtain ⟨hs, k, hk, comp, hkind⟩ := A.2.1
    have e : s.slotType? c.cls c.vm i = some .int := by
      cases hq : c.vm <;> first | exact absurd hq (hs _) | simp [State.slotType?, hk, hkind]
    have q2 : fits .int c.slots[i] = true := by simpa [State.fitsSlot, e] using q
    obtain ⟨x, hx⟩ := fit_I q2 (Or.inl rfl)
    exact ⟨x, by rw [Array.getElem?_eq_getElem hi, hx]⟩
  refine ⟨a, c, c.slots.toList.map (fun v => match v with | .int x => x | _ => 0), rfl, A, ?_, ?_⟩
  · apply Array.ext'
    rw [List.map_map]
    have : c.slots.toList.map (Value.int ∘ fun v => match v with | .int x => x | _ => 0) = c.slots.toList := by
      conv => rhs; rw [← List.map_id c.slots.toList]
      refine List.map_congr_left fun v hv => ?_
      obtain ⟨i, hi⟩ := List.mem_iff_getElem?.mp hv
      rw [Array.getElem?_toList] at hi
      obtain ⟨x, hx⟩ := hel i (Array.getElem?_eq_some_iff.mp hi).1
      rw [hi] at hx
      cases hx
      rfl
    exact this.symm
  · have hl := A.fin (Vm.Alike.refl _)
    simp only [List.length_map, Array.length_toList]
    simp only [Cond.value, Term.eval] at h2
    simp [hl] at h2
    by_cases hs : c.slots.size < 2147483648
    · rw [if_pos hs] at h2
      have h3 : c.slots.size.toInt32 ≤ 260 := by simpa using h2
      rw [Int32.le_iff_toInt_le] at h3
      have h4 : (c.slots.size.toInt32).toInt = c.slots.size := Int32.toInt_ofNat_of_lt (by omega)
      rw [h4] at h3
      have h5 : (260 : Int32).toInt = 260 := rfl
      rw [h5] at h3
      omega
    · rw [if_neg hs] at h2
      simp at h2
set_option maxHeartbeats 4000000
theorem i_lt {x y : Int32} : x < y ↔ x.toInt < y.toInt := Int32.lt_iff_toInt_lt
theorem i_eq {x y : Int32} : x = y ↔ x.toInt = y.toInt := Int32.toInt_inj.symm
theorem i_lo (x : Int32) : -2147483648 ≤ x.toInt := Int32.le_toInt x
theorem i_hi (x : Int32) : x.toInt < 2147483648 := Int32.toInt_lt x
theorem i_add {x y : Int32} (h1 : -2147483648 ≤ x.toInt + y.toInt) (h2 : x.toInt + y.toInt < 2147483648) : (x + y).toInt = x.toInt + y.toInt := XT.add32 ⟨h1, by omega⟩
theorem i_sub {x y : Int32} (h1 : -2147483648 ≤ x.toInt - y.toInt) (h2 : x.toInt - y.toInt < 2147483648) : (x - y).toInt = x.toInt - y.toInt := XT.sub32 ⟨h1, by omega⟩
theorem i_mul {x y : Int32} (h1 : -2147483648 ≤ x.toInt * y.toInt) (h2 : x.toInt * y.toInt < 2147483648) : (x * y).toInt = x.toInt * y.toInt := XT.mul32 ⟨h1, by omega⟩
theorem i_nat (x : Int32) : x.toNatClampNeg = x.toInt.toNat := rfl
theorem aget_at {α : Type} {xs : List α} {j : Int32} {n : Nat} (hj : j.toInt = n) (hn : n < xs.length) : aget xs j = some xs[n] := by
 have h0 : ¬ j < 0 := by rw [i_lt]; show ¬ j.toInt < 0; omega
 unfold aget
 rw [if_neg h0, i_nat, hj]
 simp [hn]
theorem aget_rep {α : Type} {m : Nat} {a : α} {j : Int32} (h0 : 0 ≤ j.toInt) (h1 : j.toInt < m) : aget (List.replicate m a) j = some a := by
 rw [aget_at (n := j.toInt.toNat) (by omega) (by rw [List.length_replicate]; omega)]
 simp
theorem aset_at {α : Type} {xs : List α} {j : Int32} {n : Nat} {v : α} (hj : j.toInt = n) (hn : n < xs.length) : aset xs j v = some (xs.set n v) := by
 have h0 : ¬ j < 0 := by rw [i_lt]; show ¬ j.toInt < 0; omega
 unfold aset
 have e : j.toNatClampNeg = n := by rw [i_nat, hj]; simp
 rw [if_neg h0, e, if_pos hn]
theorem rep_set {α : Type} (m k : Nat) (a : α) : (List.replicate m a).set k a = List.replicate m a := by
 apply List.ext_getElem (by simp)
 intro i h1 h2
 rw [List.getElem_set]
 split <;> simp
theorem small_cases {x : Int32} (h0 : 0 ≤ x.toInt) {n : Nat} (h1 : x.toInt < n) {P : Int32 → Prop} (h : ∀ m : Nat, m < n → P (Int32.ofInt m)) : P x := by
 have e : Int32.ofInt (x.toInt.toNat : Nat) = x := by
  rw [Int.toNat_of_nonneg h0, Int32.ofInt_toInt]
 rw [← e]
 exact h _ (by omega)
theorem bit_ne {x : Int32} (h0 : 0 ≤ x.toInt) (h1 : x.toInt < 32) : ¬ (((1 : Int32) <<< (x &&& 31)) &&& ((1 : Int32) <<< (x &&& 31))) = 0 :=
 small_cases (P := fun x => ¬ (((1 : Int32) <<< (x &&& 31)) &&& ((1 : Int32) <<< (x &&& 31))) = 0) h0 (n := 32) h1 (by decide)
def okP {α : Type} (m : Option α) (P : α → Prop) : Prop := ∃ a, m = some a ∧ P a
theorem okP.some {α : Type} {a : α} {P : α → Prop} (h : P a) : okP (some a) P := ⟨a, rfl, h⟩
theorem okP.bind {α β : Type} {m : Option α} {f : α → Option β} {P : β → Prop} (h : okP m fun a => okP (f a) P) : okP (m.bind f) P := by
 obtain ⟨a, e, b, e2, h2⟩ := h
 exact ⟨b, by rw [e]; exact e2, h2⟩
theorem okP.ite {α : Type} {c : Prop} [Decidable c] {a b : Option α} {P : α → Prop} (h1 : c → okP a P) (h2 : ¬ c → okP b P) : okP (if c then a else b) P := by
 by_cases h : c
 ·rw [if_pos h]; exact h1 h
 ·rw [if_neg h]; exact h2 h
theorem okP.mono {α : Type} {m : Option α} {P Q : α → Prop} (h : okP m P) (k : ∀ a, P a → Q a) : okP m Q := by
 obtain ⟨a, e, h⟩ := h
 exact ⟨a, e, k a h⟩
theorem okP.of {α : Type} {m : Option α} {a : α} {P : α → Prop} (e : m = Option.some a) (h : P a) : okP m P := ⟨a, e, h⟩
theorem okP.aget {α : Type} {xs : List α} {j : Int32} {P : α → Prop} (h0 : 0 ≤ j.toInt) (h1 : j.toInt < xs.length) (k : ∀ v, xs[j.toInt.toNat]? = Option.some v → P v) : okP (aget xs j) P :=
 ⟨_, aget_at (n := j.toInt.toNat) (by omega) (by omega), k _ (List.getElem?_eq_getElem _)⟩
theorem okP.aset {α : Type} {xs : List α} {j : Int32} {v : α} {P : List α → Prop} (h0 : 0 ≤ j.toInt) (h1 : j.toInt < xs.length) (k : P (xs.set j.toInt.toNat v)) : okP (aset xs j v) P :=
 ⟨_, aset_at (n := j.toInt.toNat) (by omega) (by omega), k⟩
theorem okP.loop {V E : Type} {B : V → Option (E ⊕ V)} {P : E → Prop} {n : Nat} {v : V} (I : V → Prop) (μ : V → Nat) (hv : I v) (hm : μ v < n) (hB : ∀ v, I v → okP (B v) (fun r => Sum.elim P (fun v' => I v' ∧ μ v' < μ v) r)) : okP (loopN B n v) P := by
 refine loopN_inv I P μ ?_ n v hv hm
 intro v hv
 obtain ⟨r, e, h⟩ := hB v hv
 cases r with
 | inl x => exact Or.inl ⟨x, e, h⟩
 | inr x => exact Or.inr ⟨x, e, h⟩
theorem len_i {n : Nat} (h : n ≤ 1000) : (n.toInt32).toInt = n := by
 have e : n.toInt32 = Int32.ofInt n := rfl
 rw [e, Int32.toInt_ofInt_of_le (by show _ ≤ (n : Int); omega) (by show (n : Int) < _; omega)]
theorem and1 (x : Int32) : x &&& 1 = 0 ∨ x &&& 1 = 1 := by
 have e : (x &&& 1).toBitVec = x.toBitVec &&& 1#32 := rfl
 have h := BitVec.and_one_eq_setWidth_ofBool_getLsbD (x := x.toBitVec)
 cases g : x.toBitVec.getLsbD 0
 ·left; apply Int32.toBitVec_inj.1; rw [e, h, g]; rfl
 ·right; apply Int32.toBitVec_inj.1; rw [e, h, g]; rfl
theorem okP.not {α : Type} {m : Option α} {a : α} {P : α → Prop} (h : okP m P) (e : m = Option.some a) : P a := by
 obtain ⟨b, e2, h⟩ := h
 rw [e] at e2
 exact (Option.some.inj e2) ▸ h
theorem and_rng {x m : Int32} (hm : 0 ≤ m.toInt) : 0 ≤ (x &&& m).toInt ∧ (x &&& m).toInt ≤ m.toInt := by
 have e : (x &&& m).toBitVec.toNat = x.toBitVec.toNat &&& m.toBitVec.toNat := BitVec.toNat_and ..
 have l : (x &&& m).toBitVec.toNat ≤ m.toBitVec.toNat := by rw [e]; exact Nat.and_le_right
 have c1 : m.toInt = if 2 * m.toBitVec.toNat < 2 ^ 32 then (m.toBitVec.toNat : Int) else m.toBitVec.toNat - (2 ^ 32 : Nat) := BitVec.toInt_eq_toNat_cond m.toBitVec
 have c2 : (x &&& m).toInt = if 2 * (x &&& m).toBitVec.toNat < 2 ^ 32 then ((x &&& m).toBitVec.toNat : Int) else (x &&& m).toBitVec.toNat - (2 ^ 32 : Nat) := BitVec.toInt_eq_toNat_cond (x &&& m).toBitVec
 have b : m.toBitVec.toNat < 2 ^ 32 := m.toBitVec.isLt
 by_cases h : 2 * m.toBitVec.toNat < 2 ^ 32
 ·rw [if_pos h] at c1
  rw [if_pos (by omega)] at c2
  omega
 ·rw [if_neg h] at c1
  omega
theorem mod_rng {x m : Int32} (hx : 0 ≤ x.toInt) (hm : 0 < m.toInt) : 0 ≤ (x % m).toInt ∧ (x % m).toInt < m.toInt := by
 rw [Int32.toInt_mod, Int.tmod_eq_emod_of_nonneg hx]
 exact ⟨Int.emod_nonneg _ (by omega), Int.emod_lt_of_pos _ hm⟩
def sFit (s : List Int32) (τ : QHeap) : Prop := τ.length - List.length ([Sum.inr (Sum.inl (FieldType.int, s))] : QHeap) ≤ room_1.cells ∧ qhs τ - qhs [Sum.inr (Sum.inl (FieldType.int, s))] ≤ room_1.slots
def Sh (C : Int32) (R : List Int32) (S : List Int32) (n : Int32) (q : Int32) (o : Ob) : Prop := (f_frontSize o).length = 4 ∧ (f_backSize o).length = 4 ∧ (f_backElem o).length = 512 ∧ (f_frontAgg o).length = 512 ∧ (f_backAgg o).length = 16 ∧ (f_snap o).length = 16 ∧ (f_reg o).length = 16 ∧ f_range o = R ∧ f_slide o = S ∧ f_n o = n ∧ f_queries o = q ∧ f_capacity o = C
theorem Sh_regTuple {C : Int32} {R : List Int32} {S : List Int32} {n : Int32} {q : Int32} {o : Ob} {x : Int32} (h : Sh C R S n q o) : Sh C R S n q (s_regTuple o x) := by
 dsimp only [Sh, f_range, f_slide, f_frontSize, f_backSize, f_backElem, f_frontAgg, f_backAgg, f_snap, f_reg, f_capacity, f_queries, f_n, s_regTuple] at h ⊢
 exact h
theorem Sh_regA {C : Int32} {R : List Int32} {S : List Int32} {n : Int32} {q : Int32} {o : Ob} {x : Int32} (h : Sh C R S n q o) : Sh C R S n q (s_regA o x) := by
 dsimp only [Sh, f_range, f_slide, f_frontSize, f_backSize, f_backElem, f_frontAgg, f_backAgg, f_snap, f_reg, f_capacity, f_queries, f_n, s_regA] at h ⊢
 exact h
theorem Sh_regB {C : Int32} {R : List Int32} {S : List Int32} {n : Int32} {q : Int32} {o : Ob} {x : Int32} (h : Sh C R S n q o) : Sh C R S n q (s_regB o x) := by
 dsimp only [Sh, f_range, f_slide, f_frontSize, f_backSize, f_backElem, f_frontAgg, f_backAgg, f_snap, f_reg, f_capacity, f_queries, f_n, s_regB] at h ⊢
 exact h
theorem Sh_regC {C : Int32} {R : List Int32} {S : List Int32} {n : Int32} {q : Int32} {o : Ob} {x : Int32} (h : Sh C R S n q o) : Sh C R S n q (s_regC o x) := by
 dsimp only [Sh, f_range, f_slide, f_frontSize, f_backSize, f_backElem, f_frontAgg, f_backAgg, f_snap, f_reg, f_capacity, f_queries, f_n, s_regC] at h ⊢
 exact h
theorem Sh_regCount {C : Int32} {R : List Int32} {S : List Int32} {n : Int32} {q : Int32} {o : Ob} {x : Int32} (h : Sh C R S n q o) : Sh C R S n q (s_regCount o x) := by
 dsimp only [Sh, f_range, f_slide, f_frontSize, f_backSize, f_backElem, f_frontAgg, f_backAgg, f_snap, f_reg, f_capacity, f_queries, f_n, s_regCount] at h ⊢
 exact h
theorem Sh_slots {C : Int32} {R : List Int32} {S : List Int32} {n : Int32} {q : Int32} {o : Ob} {x : Int32} (h : Sh C R S n q o) : Sh C R S n q (s_slots o x) := by
 dsimp only [Sh, f_range, f_slide, f_frontSize, f_backSize, f_backElem, f_frontAgg, f_backAgg, f_snap, f_reg, f_capacity, f_queries, f_n, s_slots] at h ⊢
 exact h
theorem Sh_frontSize {C : Int32} {R : List Int32} {S : List Int32} {n : Int32} {q : Int32} {o : Ob} {x : List Int32} (h : Sh C R S n q o) (hx : x.length = 4) : Sh C R S n q (s_frontSize o x) := by
 dsimp only [Sh, f_range, f_slide, f_frontSize, f_backSize, f_backElem, f_frontAgg, f_backAgg, f_snap, f_reg, f_capacity, f_queries, f_n, s_frontSize] at h ⊢
 exact ⟨hx, h.2.1, h.2.2.1, h.2.2.2.1, h.2.2.2.2.1, h.2.2.2.2.2.1, h.2.2.2.2.2.2.1, h.2.2.2.2.2.2.2⟩
theorem Sh_l_frontSize {C : Int32} {R : List Int32} {S : List Int32} {n : Int32} {q : Int32} {o : Ob} (h : Sh C R S n q o) : (f_frontSize o).length = 4 := h.1
theorem Sh_backSize {C : Int32} {R : List Int32} {S : List Int32} {n : Int32} {q : Int32} {o : Ob} {x : List Int32} (h : Sh C R S n q o) (hx : x.length = 4) : Sh C R S n q (s_backSize o x) := by
 dsimp only [Sh, f_range, f_slide, f_frontSize, f_backSize, f_backElem, f_frontAgg, f_backAgg, f_snap, f_reg, f_capacity, f_queries, f_n, s_backSize] at h ⊢
 exact ⟨h.1, hx, h.2.2.1, h.2.2.2.1, h.2.2.2.2.1, h.2.2.2.2.2.1, h.2.2.2.2.2.2.1, h.2.2.2.2.2.2.2⟩
theorem Sh_l_backSize {C : Int32} {R : List Int32} {S : List Int32} {n : Int32} {q : Int32} {o : Ob} (h : Sh C R S n q o) : (f_backSize o).length = 4 := h.2.1
theorem Sh_backElem {C : Int32} {R : List Int32} {S : List Int32} {n : Int32} {q : Int32} {o : Ob} {x : List Int32} (h : Sh C R S n q o) (hx : x.length = 512) : Sh C R S n q (s_backElem o x) := by
 dsimp only [Sh, f_range, f_slide, f_frontSize, f_backSize, f_backElem, f_frontAgg, f_backAgg, f_snap, f_reg, f_capacity, f_queries, f_n, s_backElem] at h ⊢
 exact ⟨h.1, h.2.1, hx, h.2.2.2.1, h.2.2.2.2.1, h.2.2.2.2.2.1, h.2.2.2.2.2.2.1, h.2.2.2.2.2.2.2⟩
theorem Sh_l_backElem {C : Int32} {R : List Int32} {S : List Int32} {n : Int32} {q : Int32} {o : Ob} (h : Sh C R S n q o) : (f_backElem o).length = 512 := h.2.2.1
theorem Sh_frontAgg {C : Int32} {R : List Int32} {S : List Int32} {n : Int32} {q : Int32} {o : Ob} {x : List Int32} (h : Sh C R S n q o) (hx : x.length = 512) : Sh C R S n q (s_frontAgg o x) := by
 dsimp only [Sh, f_range, f_slide, f_frontSize, f_backSize, f_backElem, f_frontAgg, f_backAgg, f_snap, f_reg, f_capacity, f_queries, f_n, s_frontAgg] at h ⊢
 exact ⟨h.1, h.2.1, h.2.2.1, hx, h.2.2.2.2.1, h.2.2.2.2.2.1, h.2.2.2.2.2.2.1, h.2.2.2.2.2.2.2⟩
theorem Sh_l_frontAgg {C : Int32} {R : List Int32} {S : List Int32} {n : Int32} {q : Int32} {o : Ob} (h : Sh C R S n q o) : (f_frontAgg o).length = 512 := h.2.2.2.1
theorem Sh_backAgg {C : Int32} {R : List Int32} {S : List Int32} {n : Int32} {q : Int32} {o : Ob} {x : List Int32} (h : Sh C R S n q o) (hx : x.length = 16) : Sh C R S n q (s_backAgg o x) := by
 dsimp only [Sh, f_range, f_slide, f_frontSize, f_backSize, f_backElem, f_frontAgg, f_backAgg, f_snap, f_reg, f_capacity, f_queries, f_n, s_backAgg] at h ⊢
 exact ⟨h.1, h.2.1, h.2.2.1, h.2.2.2.1, hx, h.2.2.2.2.2.1, h.2.2.2.2.2.2.1, h.2.2.2.2.2.2.2⟩
theorem Sh_l_backAgg {C : Int32} {R : List Int32} {S : List Int32} {n : Int32} {q : Int32} {o : Ob} (h : Sh C R S n q o) : (f_backAgg o).length = 16 := h.2.2.2.2.1
theorem Sh_snap {C : Int32} {R : List Int32} {S : List Int32} {n : Int32} {q : Int32} {o : Ob} {x : List Int32} (h : Sh C R S n q o) (hx : x.length = 16) : Sh C R S n q (s_snap o x) := by
 dsimp only [Sh, f_range, f_slide, f_frontSize, f_backSize, f_backElem, f_frontAgg, f_backAgg, f_snap, f_reg, f_capacity, f_queries, f_n, s_snap] at h ⊢
 exact ⟨h.1, h.2.1, h.2.2.1, h.2.2.2.1, h.2.2.2.2.1, hx, h.2.2.2.2.2.2.1, h.2.2.2.2.2.2.2⟩
theorem Sh_l_snap {C : Int32} {R : List Int32} {S : List Int32} {n : Int32} {q : Int32} {o : Ob} (h : Sh C R S n q o) : (f_snap o).length = 16 := h.2.2.2.2.2.1
theorem Sh_reg {C : Int32} {R : List Int32} {S : List Int32} {n : Int32} {q : Int32} {o : Ob} {x : List Int32} (h : Sh C R S n q o) (hx : x.length = 16) : Sh C R S n q (s_reg o x) := by
 dsimp only [Sh, f_range, f_slide, f_frontSize, f_backSize, f_backElem, f_frontAgg, f_backAgg, f_snap, f_reg, f_capacity, f_queries, f_n, s_reg] at h ⊢
 exact ⟨h.1, h.2.1, h.2.2.1, h.2.2.2.1, h.2.2.2.2.1, h.2.2.2.2.2.1, hx, h.2.2.2.2.2.2.2⟩
theorem Sh_l_reg {C : Int32} {R : List Int32} {S : List Int32} {n : Int32} {q : Int32} {o : Ob} (h : Sh C R S n q o) : (f_reg o).length = 16 := h.2.2.2.2.2.2.1
theorem Sh_R {C : Int32} {R S : List Int32} {n q : Int32} {o : Ob} (h : Sh C R S n q o) : f_range o = R := h.2.2.2.2.2.2.2.1
theorem Sh_S {C : Int32} {R S : List Int32} {n q : Int32} {o : Ob} (h : Sh C R S n q o) : f_slide o = S := h.2.2.2.2.2.2.2.2.1
theorem Sh_N {C : Int32} {R S : List Int32} {n q : Int32} {o : Ob} (h : Sh C R S n q o) : f_n o = n := h.2.2.2.2.2.2.2.2.2.1
theorem Sh_Q {C : Int32} {R S : List Int32} {n q : Int32} {o : Ob} (h : Sh C R S n q o) : f_queries o = q := h.2.2.2.2.2.2.2.2.2.2.1
theorem Sh_C {C : Int32} {R S : List Int32} {n q : Int32} {o : Ob} (h : Sh C R S n q o) : f_capacity o = C := h.2.2.2.2.2.2.2.2.2.2.2
theorem inc1 {x : Int32} (h : x.toInt < 2147483647) : (x + 1).toInt = x.toInt + 1 := by
 have := i_lo x
 have e1 : (1 : Int32).toInt = 1 := rfl
 rw [i_add (by omega) (by omega), e1]
theorem z4' : (4 : Int32).toInt = 4 := rfl
theorem m4 {x : Int32} (h0 : 0 ≤ x.toInt) (h : x.toInt < 1000) : (x * 4).toInt = x.toInt * 4 := i_mul (x := x) (y := 4) (by show _ ≤ x.toInt * 4; omega) (by show x.toInt * 4 < _; omega)
theorem vreg (x : Int32) : okP (F5 x) (fun r => r = 0 ∨ (r ≠ 0 ∧ 0 ≤ x.toInt ∧ x.toInt < 4)) := by
 unfold F5
 have z0 : (0 : Int32).toInt = 0 := rfl
 apply okP.ite <;> intro a
 ·exact okP.some (Or.inl rfl)
 apply okP.ite <;> intro b
 ·rw [i_lt, z0] at a
  rw [i_lt, z4'] at b
  exact okP.some (Or.inr ⟨by decide, by omega, b⟩)
 ·exact okP.some (Or.inl rfl)
theorem slotI {x y : Int32} (s0 : 0 ≤ x.toInt) (s4 : x.toInt < 4) (t0 : 0 ≤ y.toInt) (t4 : y.toInt < 32) : ((x * 32 + y) * 4).toInt = (x.toInt * 32 + y.toInt) * 4 := by
 have e : (x * 32).toInt = x.toInt * 32 := i_mul (x := x) (y := 32) (by show _ ≤ x.toInt * 32; omega) (by show x.toInt * 32 < _; omega)
 have e2 : (x * 32 + y).toInt = x.toInt * 32 + y.toInt := by rw [i_add (by omega) (by omega), e]
 rw [m4 (by omega) (by omega), e2]
theorem copy4 {src dst : Ob → List Int32} {upd : Ob → List Int32 → Ob} (h1 : ∀ o z, src (upd o z) = src o) (h2 : ∀ o z, dst (upd o z) = z) (h3 : ∀ o z z', upd (upd o z) z' = upd o z') (h4 : ∀ o, upd o (dst o) = o) {B : Int32 × Ob → Option (Ob ⊕ (Int32 × Ob))} {u w : Int32} (hB : ∀ v : Int32 × Ob, B v = (if v.1 < 4 then (aget (src v.2) (u + v.1)).bind fun y => (aset (dst v.2) (w + v.1) y).bind fun z => some (.inr (v.1 + 1, upd v.2 z)) else some (.inl v.2))) {o : Ob} {U V : Nat} (hu : u.toInt = U) (hw : w.toInt = V) (lu : U + 4 ≤ (src o).length) (lw : V + 4 ≤ (dst o).length) (su : U ≤ 2000) (sv : V ≤ 2000) : okP (loopN B qN (0, o)) (fun p => ∃ R, p = upd o R ∧ R.length = (dst o).length ∧ ∀ k, R[k]? = if V ≤ k ∧ k < V + 4 then (src o)[U + (k - V)]? else (dst o)[k]?) := by
 refine okP.loop (fun x => 0 ≤ x.1.toInt ∧ x.1.toInt ≤ 4 ∧ ∃ R, x.2 = upd o R ∧ R.length = (dst o).length ∧ ∀ k, R[k]? = if V ≤ k ∧ k < V + x.1.toInt.toNat then (src o)[U + (k - V)]? else (dst o)[k]?) (fun x => (4 - x.1.toInt).toNat) ⟨by show (0 : Int) ≤ 0; decide, by show (0 : Int) ≤ 4; decide, dst o, (h4 o).symm, rfl, fun k => by rw [if_neg (by show ¬ (V ≤ k ∧ k < V + 0); omega)]⟩ (by show (4 - (0 : Int)).toNat < 4000; decide) ?_
 rintro ⟨i, p⟩ ⟨a1, a2, R, a3, a4, a5⟩
 simp only at a1 a2 a3 a5
 subst a3
 rw [hB]
 simp only
 apply okP.ite <;> intro c
 ·rw [i_lt, z4'] at c
  have e2 : (i + 1).toInt = i.toInt + 1 := inc1 (by omega)
  have en : (i + 1).toInt.toNat = i.toInt.toNat + 1 := by omega
  have i1 : (u + i).toInt = u.toInt + i.toInt := i_add (by omega) (by omega)
  have i2 : (w + i).toInt = w.toInt + i.toInt := i_add (by omega) (by omega)
  rw [h1, h2]
  apply okP.bind
  refine okP.aget (by omega) (by omega) (fun y hy => ?_)
  have ey : (u + i).toInt.toNat = U + i.toInt.toNat := by omega
  rw [ey] at hy
  apply okP.bind
  refine okP.aset (by omega) (by omega) ?_
  have ew : (w + i).toInt.toNat = V + i.toInt.toNat := by omega
  rw [ew]
  apply okP.some
  refine ⟨⟨by simp only; omega, by simp only; omega, R.set (V + i.toInt.toNat) y, by simp only; rw [h3], by rw [List.length_set]; exact a4, fun k => ?_⟩, by simp only; omega⟩
  simp only
  rw [List.getElem?_set, en, a5 k]
  by_cases e : V + i.toInt.toNat = k
  ·rw [if_pos e, if_pos (by omega), if_pos (by omega), ← hy]
   congr 1; omega
  ·rw [if_neg e]
   by_cases q : V ≤ k ∧ k < V + i.toInt.toNat
   ·rw [if_pos q, if_pos (by omega)]
   ·rw [if_neg q, if_neg (by omega)]
 ·rw [i_lt, z4'] at c
  apply okP.some
  refine ⟨R, rfl, a4, fun k => ?_⟩
  have : i.toInt.toNat = 4 := by omega
  rw [a5 k, this]
theorem set_ex {C : Int32} {R S : List Int32} {n q : Int32} {o : Ob} (h : Sh C R S n q o) {x : Int32} (x0 : 0 ≤ x.toInt) (x4 : x.toInt < 4) (a b c d : Int32) : F4 o x a b c d = some (s_reg o (((((f_reg o).set (x.toInt.toNat * 4) a).set (x.toInt.toNat * 4 + 1) b).set (x.toInt.toNat * 4 + 2) c).set (x.toInt.toNat * 4 + 3) d)) := by
 have l := Sh_l_reg h
 unfold F4
 obtain ⟨r, hr, q⟩ := vreg x
 have r0 : r ≠ 0 := by
  rcases q with rfl | q
  ·exfalso
   unfold F5 at hr
   rw [if_neg (by rw [i_lt]; show ¬ x.toInt < 0; omega), if_pos (by rw [i_lt]; exact x4)] at hr
   cases hr
  ·exact q.1
 rw [hr]
 simp only [Option.bind_some]
 rw [if_neg r0]
 have e := m4 x0 (by omega)
 have e1 : (x * 4 + 1).toInt = x.toInt * 4 + 1 := by rw [inc1 (by omega), e]
 have e2 : (x * 4 + 2).toInt = x.toInt * 4 + 2 := by rw [i_add (by rw [e]; show _ ≤ x.toInt * 4 + 2; omega) (by rw [e]; show x.toInt * 4 + 2 < _; omega), e]; rfl
 have e3 : (x * 4 + 3).toInt = x.toInt * 4 + 3 := by rw [i_add (by rw [e]; show _ ≤ x.toInt * 4 + 3; omega) (by rw [e]; show x.toInt * 4 + 3 < _; omega), e]; rfl
 rw [aset_at (n := x.toInt.toNat * 4) (by omega) (by omega)]
 simp only [Option.bind_some]
 rw [aset_at (n := x.toInt.toNat * 4 + 1) (by omega) (by rw [List.length_set]; omega)]
 simp only [Option.bind_some]
 rw [aset_at (n := x.toInt.toNat * 4 + 2) (by omega) (by simp only [List.length_set]; omega)]
 simp only [Option.bind_some]
 rw [aset_at (n := x.toInt.toNat * 4 + 3) (by omega) (by simp only [List.length_set]; omega)]
 rfl
def M4 (l : List Int32) (k : Nat) (m : Int32 × Int32 × Int32 × Int32) : Prop := l[k]? = some m.1 ∧ l[k + 1]? = some m.2.1 ∧ l[k + 2]? = some m.2.2.1 ∧ l[k + 3]? = some m.2.2.2
theorem M4_cp {R src dst : List Int32} {U V : Nat} {m : Int32 × Int32 × Int32 × Int32} (h : ∀ k, R[k]? = if V ≤ k ∧ k < V + 4 then src[U + (k - V)]? else dst[k]?) (hm : M4 src U m) : M4 R V m := by
 obtain ⟨m1, m2, m3, m4⟩ := hm
 refine ⟨?_, ?_, ?_, ?_⟩
 ·rw [h, if_pos (by omega), show U + (V - V) = U by omega]; exact m1
 ·rw [h, if_pos (by omega), show U + (V + 1 - V) = U + 1 by omega]; exact m2
 ·rw [h, if_pos (by omega), show U + (V + 2 - V) = U + 2 by omega]; exact m3
 ·rw [h, if_pos (by omega), show U + (V + 3 - V) = U + 3 by omega]; exact m4
theorem M4_ot {R src dst : List Int32} {U V k : Nat} {m : Int32 × Int32 × Int32 × Int32} (h : ∀ k, R[k]? = if V ≤ k ∧ k < V + 4 then src[U + (k - V)]? else dst[k]?) (hk : k + 4 ≤ V ∨ V + 4 ≤ k) (hm : M4 dst k m) : M4 R k m := by
 obtain ⟨m1, m2, m3, m4⟩ := hm
 refine ⟨?_, ?_, ?_, ?_⟩ <;> rw [h, if_neg (by omega)] <;> assumption
theorem vr {u : Int32} (u0 : 0 ≤ u.toInt) (u4 : u.toInt < 4) : F5 u = some 1 := by
 unfold F5
 rw [if_neg (by rw [i_lt]; show ¬ u.toInt < 0; omega), if_pos (by rw [i_lt]; exact u4)]
theorem vsl {x y : Int32} (x0 : 0 ≤ x.toInt) (x4 : x.toInt < 4) (y0 : 0 ≤ y.toInt) (y1 : y.toInt < 32) : F13 x y = some 1 := by
 unfold F13
 rw [if_neg (by rw [i_lt]; show ¬ x.toInt < 0; omega), if_pos (by rw [i_lt]; exact x4), if_neg (by rw [i_lt]; show ¬ y.toInt < 0; omega), if_pos (by rw [i_lt]; exact y1)]
def mm (A B : Int32 × Int32 × Int32 × Int32) : Int32 × Int32 × Int32 × Int32 := (A.1 * B.1 + A.2.1 * B.2.2.1, A.1 * B.2.1 + A.2.1 * B.2.2.2, A.2.2.1 * B.1 + A.2.2.2 * B.2.2.1, A.2.2.1 * B.2.1 + A.2.2.2 * B.2.2.2)
theorem mm_l (A : Int32 × Int32 × Int32 × Int32) : mm (1, 0, 0, 1) A = A := by
 obtain ⟨a, b, c, d⟩ := A
 simp only [mm, Int32.one_mul, Int32.zero_mul, Int32.add_zero, Int32.zero_add]
theorem mm_r (A : Int32 × Int32 × Int32 × Int32) : mm A (1, 0, 0, 1) = A := by
 obtain ⟨a, b, c, d⟩ := A
 simp only [mm, Int32.mul_one, Int32.mul_zero, Int32.add_zero, Int32.zero_add]
abbrev MX := Int32 × Int32 × Int32 × Int32
theorem M4_ex {l : List Int32} {k : Nat} (h : k + 4 ≤ l.length) : ∃ m, M4 l k m := ⟨(l[k]'(by omega), l[k + 1]'(by omega), l[k + 2]'(by omega), l[k + 3]'(by omega)), List.getElem?_eq_getElem _, List.getElem?_eq_getElem _, List.getElem?_eq_getElem _, List.getElem?_eq_getElem _⟩
theorem mul_m {C : Int32} {R S : List Int32} {n q : Int32} {o : Ob} (h : Sh C R S n q o) {x y z : Int32} {X Y Z : Nat} (hx : x.toInt * 4 = X) (hy : y.toInt * 4 = Y) (hz : z.toInt * 4 = Z) (x4 : x.toInt < 4) (y4 : y.toInt < 4) (w4 : z.toInt < 4) {A B : Int32 × Int32 × Int32 × Int32} (hA : M4 (f_reg o) Y A) (hB : M4 (f_reg o) Z B) : okP (F17 o x y z) (fun p => ∃ L : List Int32, p = s_reg o L ∧ L.length = 16 ∧ M4 L X (mm A B) ∧ ∀ k m, (k + 4 ≤ X ∨ X + 4 ≤ k) → M4 (f_reg o) k m → M4 L k m) := by
 have l := Sh_l_reg h
 obtain ⟨A1, A2, A3, A4⟩ := hA
 obtain ⟨B1, B2, B3, B4⟩ := hB
 unfold F17
 rw [vr (u := x) (by omega) x4, vr (u := y) (by omega) y4, vr (u := z) (by omega) w4]
 simp only [Option.bind_some]
 rw [if_neg (by decide), if_neg (by decide), if_neg (by decide)]
 have three : ∀ (x : Int32) (X : Nat), x.toInt * 4 = X → x.toInt < 4 → (x * 4).toInt = X ∧ (x * 4 + 1).toInt = (X + 1 : Nat) ∧ (x * 4 + 2).toInt = (X + 2 : Nat) ∧ (x * 4 + 3).toInt = (X + 3 : Nat) := by
  intro x X hX x4
  have e := m4 (x := x) (by omega) (by omega)
  refine ⟨by omega, ?_, ?_, ?_⟩
  ·rw [inc1 (by omega), e]; omega
  ·rw [i_add (by rw [e]; show _ ≤ x.toInt * 4 + 2; omega) (by rw [e]; show x.toInt * 4 + 2 < _; omega), e]; show x.toInt * 4 + 2 = _; omega
  ·rw [i_add (by rw [e]; show _ ≤ x.toInt * 4 + 3; omega) (by rw [e]; show x.toInt * 4 + 3 < _; omega), e]; show x.toInt * 4 + 3 = _; omega
 obtain ⟨x1, x2, x3, x5⟩ := three x X hx x4
 obtain ⟨y1, y2, y3, y5⟩ := three y Y hy y4
 obtain ⟨w1, w2, w3, w5⟩ := three z Z hz w4
 have rd : ∀ {j : Int32} {k : Nat} {w : Int32}, j.toInt = k → (f_reg o)[k]? = some w → aget (f_reg o) j = some w := by
  intro j k w h2 h3
  unfold aget
  rw [if_neg (by rw [i_lt]; show ¬ j.toInt < 0; omega), i_nat, h2, Int.toNat_natCast]
  exact h3
 rw [rd y1 A1, rd y2 A2, rd y3 A3, rd y5 A4, rd w1 B1, rd w2 B2, rd w3 B3, rd w5 B4]
 simp only [Option.bind_some]
 rw [aset_at x1 (by omega)]
 simp only [Option.bind_some]
 rw [aset_at x2 (by rw [List.length_set]; omega)]
 simp only [Option.bind_some]
 rw [aset_at x3 (by simp only [List.length_set]; omega)]
 simp only [Option.bind_some]
 rw [aset_at x5 (by simp only [List.length_set]; omega)]
 simp only [Option.bind_some]
 refine okP.some ⟨_, rfl, by simp only [List.length_set]; exact l, ⟨?_, ?_, ?_, ?_⟩, fun k m hk hm => ?_⟩
 ·rw [List.getElem?_set_ne (by omega), List.getElem?_set_ne (by omega), List.getElem?_set_ne (by omega), List.getElem?_set_self (by omega)]; rfl
 ·rw [List.getElem?_set_ne (by omega), List.getElem?_set_ne (by omega), List.getElem?_set_self (by simp only [List.length_set]; omega)]; rfl
 ·rw [List.getElem?_set_ne (by omega), List.getElem?_set_self (by simp only [List.length_set]; omega)]; rfl
 ·rw [List.getElem?_set_self (by simp only [List.length_set]; omega)]; rfl
 ·obtain ⟨m1, m2, m3, m4⟩ := hm
  refine ⟨?_, ?_, ?_, ?_⟩ <;> rw [List.getElem?_set_ne (by omega), List.getElem?_set_ne (by omega), List.getElem?_set_ne (by omega), List.getElem?_set_ne (by omega)] <;> assumption
theorem id_m {C : Int32} {R S : List Int32} {n q : Int32} {o : Ob} (h : Sh C R S n q o) : ∃ L : List Int32, F3 o 1 = some (s_reg o L) ∧ L.length = 16 ∧ M4 L 4 (1, 0, 0, 1) ∧ ∀ k m, (k + 4 ≤ 4 ∨ 8 ≤ k) → M4 (f_reg o) k m → M4 L k m := by
 have l := Sh_l_reg h
 unfold F3
 rw [set_ex h (x := 1) (by decide) (by decide)]
 refine ⟨(((((f_reg o).set 4 1).set 5 0).set 6 0).set 7 1), rfl, by simp only [List.length_set]; exact l, ⟨?_, ?_, ?_, ?_⟩, fun k m hk hm => ?_⟩
 ·rw [List.getElem?_set_ne (by decide), List.getElem?_set_ne (by decide), List.getElem?_set_ne (by decide), List.getElem?_set_self (by omega)]
 ·show (((((f_reg o).set 4 1).set 5 0).set 6 0).set 7 1)[5]? = _
  rw [List.getElem?_set_ne (by decide), List.getElem?_set_ne (by decide), List.getElem?_set_self (by rw [List.length_set]; omega)]
 ·show (((((f_reg o).set 4 1).set 5 0).set 6 0).set 7 1)[6]? = _
  rw [List.getElem?_set_ne (by decide), List.getElem?_set_self (by simp only [List.length_set]; omega)]
 ·show (((((f_reg o).set 4 1).set 5 0).set 6 0).set 7 1)[7]? = _
  rw [List.getElem?_set_self (by simp only [List.length_set]; omega)]
 ·obtain ⟨m1, m2, m3, m4⟩ := hm
  refine ⟨?_, ?_, ?_, ?_⟩ <;> rw [List.getElem?_set_ne (by omega), List.getElem?_set_ne (by omega), List.getElem?_set_ne (by omega), List.getElem?_set_ne (by omega)] <;> assumption
theorem ba_m {C : Int32} {R S : List Int32} {n q : Int32} {o : Ob} (h : Sh C R S n q o) {x : Int32} (x0 : 0 ≤ x.toInt) (x4 : x.toInt < 4) {r : Int32} {U : Nat} (r0 : 0 ≤ r.toInt) (r4 : r.toInt < 4) (hU : r.toInt * 4 = U) {m : MX} (hm : M4 (f_reg o) U m) : okP (F6 o x r) (fun p => ∃ L : List Int32, p = s_backAgg o L ∧ L.length = 16 ∧ M4 L (x.toInt.toNat * 4) m ∧ ∀ k, ¬ (x.toInt.toNat * 4 ≤ k ∧ k < x.toInt.toNat * 4 + 4) → L[k]? = (f_backAgg o)[k]?) := by
 have l := Sh_l_reg h
 have l2 := Sh_l_backAgg h
 unfold F6
 rw [vr r0 r4]
 simp only [Option.bind_some]
 rw [if_neg (by decide), if_neg (by rw [i_lt]; show ¬ x.toInt < 0; omega), if_pos (by rw [i_lt]; exact x4)]
 have e := m4 r0 (by omega)
 have e2 := m4 x0 (by omega)
 apply okP.bind
 refine okP.mono (copy4 (src := f_reg) (dst := f_backAgg) (upd := s_backAgg) (u := r * 4) (w := x * 4) (U := U) (V := x.toInt.toNat * 4) (fun _ _ => rfl) (fun _ _ => rfl) (fun _ _ _ => rfl) (fun _ => rfl) (fun _ => rfl) (by omega) (by omega) (by omega) (by omega) (by omega) (by omega)) ?_
 rintro p ⟨L, hp, hl, hk⟩
 exact okP.some ⟨L, hp, by rw [hl]; exact l2, M4_cp hk hm, fun k hk' => by rw [hk, if_neg hk']⟩
theorem sn_m {C : Int32} {R S : List Int32} {n q : Int32} {o : Ob} (h : Sh C R S n q o) {x : Int32} (x0 : 0 ≤ x.toInt) (x4 : x.toInt < 4) {r : Int32} {U : Nat} (r0 : 0 ≤ r.toInt) (r4 : r.toInt < 4) (hU : r.toInt * 4 = U) {m : MX} (hm : M4 (f_reg o) U m) : okP (F7 o x r) (fun p => ∃ L : List Int32, p = s_snap o L ∧ L.length = 16 ∧ M4 L (x.toInt.toNat * 4) m ∧ ∀ k, ¬ (x.toInt.toNat * 4 ≤ k ∧ k < x.toInt.toNat * 4 + 4) → L[k]? = (f_snap o)[k]?) := by
 have l := Sh_l_reg h
 have l2 := Sh_l_snap h
 unfold F7
 rw [vr r0 r4]
 simp only [Option.bind_some]
 rw [if_neg (by decide), if_neg (by rw [i_lt]; show ¬ x.toInt < 0; omega), if_pos (by rw [i_lt]; exact x4)]
 have e := m4 r0 (by omega)
 have e2 := m4 x0 (by omega)
 apply okP.bind
 refine okP.mono (copy4 (src := f_reg) (dst := f_snap) (upd := s_snap) (u := r * 4) (w := x * 4) (U := U) (V := x.toInt.toNat * 4) (fun _ _ => rfl) (fun _ _ => rfl) (fun _ _ _ => rfl) (fun _ => rfl) (fun _ => rfl) (by omega) (by omega) (by omega) (by omega) (by omega) (by omega)) ?_
 rintro p ⟨L, hp, hl, hk⟩
 exact okP.some ⟨L, hp, by rw [hl]; exact l2, M4_cp hk hm, fun k hk' => by rw [hk, if_neg hk']⟩
theorem ld_m {C : Int32} {R S : List Int32} {n q : Int32} {o : Ob} (h : Sh C R S n q o) {x : Int32} (x0 : 0 ≤ x.toInt) (x4 : x.toInt < 4) {r : Int32} {V : Nat} (r0 : 0 ≤ r.toInt) (r4 : r.toInt < 4) (hV : r.toInt * 4 = V) {m : MX} (hm : M4 (f_backAgg o) (x.toInt.toNat * 4) m) : okP (F16 o r x) (fun p => ∃ L : List Int32, p = s_reg o L ∧ L.length = 16 ∧ M4 L V m ∧ ∀ k m, (k + 4 ≤ V ∨ V + 4 ≤ k) → M4 (f_reg o) k m → M4 L k m) := by
 have l := Sh_l_reg h
 have l2 := Sh_l_backAgg h
 unfold F16
 rw [vr r0 r4]
 simp only [Option.bind_some]
 rw [if_neg (by decide), if_neg (by rw [i_lt]; show ¬ x.toInt < 0; omega), if_pos (by rw [i_lt]; exact x4)]
 have e := m4 r0 (by omega)
 have e2 := m4 x0 (by omega)
 apply okP.bind
 refine okP.mono (copy4 (src := f_backAgg) (dst := f_reg) (upd := s_reg) (u := x * 4) (w := r * 4) (U := x.toInt.toNat * 4) (V := V) (fun _ _ => rfl) (fun _ _ => rfl) (fun _ _ _ => rfl) (fun _ => rfl) (fun _ => rfl) (by omega) (by omega) (by omega) (by omega) (by omega) (by omega)) ?_
 rintro p ⟨L, hp, hl, hk⟩
 exact okP.some ⟨L, hp, by rw [hl]; exact l, M4_cp hk hm, fun k m hk' hm' => M4_ot hk hk' hm'⟩
theorem sb_m {C : Int32} {R S : List Int32} {n q : Int32} {o : Ob} (h : Sh C R S n q o) {x : Int32} (x0 : 0 ≤ x.toInt) (x4 : x.toInt < 4) {y : Int32} (y0 : 0 ≤ y.toInt) (y1 : y.toInt < 32) {r : Int32} {U : Nat} (r0 : 0 ≤ r.toInt) (r4 : r.toInt < 4) (hU : r.toInt * 4 = U) {m : MX} (hm : M4 (f_reg o) U m) : okP (F14 o x y r) (fun p => ∃ L : List Int32, p = s_backElem o L ∧ L.length = 512 ∧ M4 L ((x.toInt.toNat * 32 + y.toInt.toNat) * 4) m ∧ ∀ k, ¬ ((x.toInt.toNat * 32 + y.toInt.toNat) * 4 ≤ k ∧ k < (x.toInt.toNat * 32 + y.toInt.toNat) * 4 + 4) → L[k]? = (f_backElem o)[k]?) := by
 have l := Sh_l_reg h
 have l2 := Sh_l_backElem h
 unfold F14 F15
 rw [vr r0 r4, vsl x0 x4 y0 y1]
 simp only [Option.bind_some]
 rw [if_neg (by decide), if_neg (by decide)]
 have e := slotI x0 x4 y0 y1
 have e2 := m4 r0 (by omega)
 apply okP.bind
 refine okP.mono (copy4 (src := f_reg) (dst := f_backElem) (upd := s_backElem) (u := r * 4) (w := (x * 32 + y) * 4) (U := U) (V := (x.toInt.toNat * 32 + y.toInt.toNat) * 4) (fun _ _ => rfl) (fun _ _ => rfl) (fun _ _ _ => rfl) (fun _ => rfl) (fun _ => rfl) (by omega) (by omega) (by omega) (by omega) (by omega) (by omega)) ?_
 rintro p ⟨L, hp, hl, hk⟩
 exact okP.some ⟨L, hp, by rw [hl]; exact l2, M4_cp hk hm, fun k hk' => by rw [hk, if_neg hk']⟩
theorem lb_m {C : Int32} {R S : List Int32} {n q : Int32} {o : Ob} (h : Sh C R S n q o) {x : Int32} (x0 : 0 ≤ x.toInt) (x4 : x.toInt < 4) {y : Int32} (y0 : 0 ≤ y.toInt) (y1 : y.toInt < 32) {r : Int32} {V : Nat} (r0 : 0 ≤ r.toInt) (r4 : r.toInt < 4) (hV : r.toInt * 4 = V) {m : MX} (hm : M4 (f_backElem o) ((x.toInt.toNat * 32 + y.toInt.toNat) * 4) m) : okP (F20 o r x y) (fun p => ∃ L : List Int32, p = s_reg o L ∧ L.length = 16 ∧ M4 L V m ∧ ∀ k m, (k + 4 ≤ V ∨ V + 4 ≤ k) → M4 (f_reg o) k m → M4 L k m) := by
 have l := Sh_l_reg h
 have l2 := Sh_l_backElem h
 unfold F20 F15
 rw [vr r0 r4, vsl x0 x4 y0 y1]
 simp only [Option.bind_some]
 rw [if_neg (by decide), if_neg (by decide)]
 have e := slotI x0 x4 y0 y1
 have e2 := m4 r0 (by omega)
 apply okP.bind
 refine okP.mono (copy4 (src := f_backElem) (dst := f_reg) (upd := s_reg) (u := (x * 32 + y) * 4) (w := r * 4) (U := (x.toInt.toNat * 32 + y.toInt.toNat) * 4) (V := V) (fun _ _ => rfl) (fun _ _ => rfl) (fun _ _ _ => rfl) (fun _ => rfl) (fun _ => rfl) (by omega) (by omega) (by omega) (by omega) (by omega) (by omega)) ?_
 rintro p ⟨L, hp, hl, hk⟩
 exact okP.some ⟨L, hp, by rw [hl]; exact l, M4_cp hk hm, fun k m hk' hm' => M4_ot hk hk' hm'⟩
theorem sf_m {C : Int32} {R S : List Int32} {n q : Int32} {o : Ob} (h : Sh C R S n q o) {x : Int32} (x0 : 0 ≤ x.toInt) (x4 : x.toInt < 4) {y : Int32} (y0 : 0 ≤ y.toInt) (y1 : y.toInt < 32) {r : Int32} {U : Nat} (r0 : 0 ≤ r.toInt) (r4 : r.toInt < 4) (hU : r.toInt * 4 = U) {m : MX} (hm : M4 (f_reg o) U m) : okP (F21 o x y r) (fun p => ∃ L : List Int32, p = s_frontAgg o L ∧ L.length = 512 ∧ M4 L ((x.toInt.toNat * 32 + y.toInt.toNat) * 4) m ∧ ∀ k, ¬ ((x.toInt.toNat * 32 + y.toInt.toNat) * 4 ≤ k ∧ k < (x.toInt.toNat * 32 + y.toInt.toNat) * 4 + 4) → L[k]? = (f_frontAgg o)[k]?) := by
 have l := Sh_l_reg h
 have l2 := Sh_l_frontAgg h
 unfold F21 F15
 rw [vr r0 r4, vsl x0 x4 y0 y1]
 simp only [Option.bind_some]
 rw [if_neg (by decide), if_neg (by decide)]
 have e := slotI x0 x4 y0 y1
 have e2 := m4 r0 (by omega)
 apply okP.bind
 refine okP.mono (copy4 (src := f_reg) (dst := f_frontAgg) (upd := s_frontAgg) (u := r * 4) (w := (x * 32 + y) * 4) (U := U) (V := (x.toInt.toNat * 32 + y.toInt.toNat) * 4) (fun _ _ => rfl) (fun _ _ => rfl) (fun _ _ _ => rfl) (fun _ => rfl) (fun _ => rfl) (by omega) (by omega) (by omega) (by omega) (by omega) (by omega)) ?_
 rintro p ⟨L, hp, hl, hk⟩
 exact okP.some ⟨L, hp, by rw [hl]; exact l2, M4_cp hk hm, fun k hk' => by rw [hk, if_neg hk']⟩
theorem lf_m {C : Int32} {R S : List Int32} {n q : Int32} {o : Ob} (h : Sh C R S n q o) {x : Int32} (x0 : 0 ≤ x.toInt) (x4 : x.toInt < 4) {y : Int32} (y0 : 0 ≤ y.toInt) (y1 : y.toInt < 32) {r : Int32} {V : Nat} (r0 : 0 ≤ r.toInt) (r4 : r.toInt < 4) (hV : r.toInt * 4 = V) {m : MX} (hm : M4 (f_frontAgg o) ((x.toInt.toNat * 32 + y.toInt.toNat) * 4) m) : okP (F24 o r x y) (fun p => ∃ L : List Int32, p = s_reg o L ∧ L.length = 16 ∧ M4 L V m ∧ ∀ k m, (k + 4 ≤ V ∨ V + 4 ≤ k) → M4 (f_reg o) k m → M4 L k m) := by
 have l := Sh_l_reg h
 have l2 := Sh_l_frontAgg h
 unfold F24 F15
 rw [vr r0 r4, vsl x0 x4 y0 y1]
 simp only [Option.bind_some]
 rw [if_neg (by decide), if_neg (by decide)]
 have e := slotI x0 x4 y0 y1
 have e2 := m4 r0 (by omega)
 apply okP.bind
 refine okP.mono (copy4 (src := f_frontAgg) (dst := f_reg) (upd := s_reg) (u := (x * 32 + y) * 4) (w := r * 4) (U := (x.toInt.toNat * 32 + y.toInt.toNat) * 4) (V := V) (fun _ _ => rfl) (fun _ _ => rfl) (fun _ _ _ => rfl) (fun _ => rfl) (fun _ => rfl) (by omega) (by omega) (by omega) (by omega) (by omega) (by omega)) ?_
 rintro p ⟨L, hp, hl, hk⟩
 exact okP.some ⟨L, hp, by rw [hl]; exact l, M4_cp hk hm, fun k m hk' hm' => M4_ot hk hk' hm'⟩
theorem mm_assoc (A B D : MX) : mm (mm A B) D = mm A (mm B D) := by
 obtain ⟨a1, a2, a3, a4⟩ := A
 obtain ⟨b1, b2, b3, b4⟩ := B
 obtain ⟨d1, d2, d3, d4⟩ := D
 simp only [mm, Prod.mk.injEq]
 refine ⟨?_, ?_, ?_, ?_⟩ <;> grind
def prod : List MX → MX
 | [] => (1, 0, 0, 1)
 | A :: l => mm A (prod l)
theorem prod_app : ∀ (l m : List MX), prod (l ++ m) = mm (prod l) (prod m)
 | [], m => (mm_l _).symm
 | A :: l, m => by
  show mm A (prod (l ++ m)) = mm (mm A (prod l)) (prod m)
  rw [prod_app l m, mm_assoc]
theorem prod_one (A : MX) : prod [A] = A := mm_r A
theorem prod_snoc (l : List MX) (A : MX) : prod (l ++ [A]) = mm (prod l) A := by rw [prod_app, prod_one]
def Zq (o : Ob) (x : Nat) (F B : List MX) (SN : MX) : Prop := (∃ fs : Int32, (f_frontSize o)[x]? = some fs ∧ fs.toInt = F.length) ∧ (∃ bs : Int32, (f_backSize o)[x]? = some bs ∧ bs.toInt = B.length) ∧ M4 (f_backAgg o) (x * 4) (prod B) ∧ (∀ j m, B[j]? = some m → M4 (f_backElem o) ((x * 32 + j) * 4) m) ∧ (∀ i, i < F.length → M4 (f_frontAgg o) ((x * 32 + i) * 4) (prod (F.drop (F.length - 1 - i)))) ∧ M4 (f_snap o) (x * 4) SN ∧ F.length + B.length ≤ 32
def Keep (o p : Ob) (x : Nat) : Prop := (f_frontSize p)[x]? = (f_frontSize o)[x]? ∧ (f_backSize p)[x]? = (f_backSize o)[x]? ∧ (∀ k, x * 4 ≤ k → k < x * 4 + 4 → (f_backAgg p)[k]? = (f_backAgg o)[k]?) ∧ (∀ k, x * 128 ≤ k → k < x * 128 + 128 → (f_backElem p)[k]? = (f_backElem o)[k]?) ∧ (∀ k, x * 128 ≤ k → k < x * 128 + 128 → (f_frontAgg p)[k]? = (f_frontAgg o)[k]?) ∧ (∀ k, x * 4 ≤ k → k < x * 4 + 4 → (f_snap p)[k]? = (f_snap o)[k]?)
theorem Keep.refl (o : Ob) (x : Nat) : Keep o o x := ⟨rfl, rfl, fun _ _ _ => rfl, fun _ _ _ => rfl, fun _ _ _ => rfl, fun _ _ _ => rfl⟩
theorem Keep.trans {o p r : Ob} {x : Nat} (h : Keep o p x) (g : Keep p r x) : Keep o r x := ⟨g.1.trans h.1, g.2.1.trans h.2.1, fun k a b => (g.2.2.1 k a b).trans (h.2.2.1 k a b), fun k a b => (g.2.2.2.1 k a b).trans (h.2.2.2.1 k a b), fun k a b => (g.2.2.2.2.1 k a b).trans (h.2.2.2.2.1 k a b), fun k a b => (g.2.2.2.2.2 k a b).trans (h.2.2.2.2.2 k a b)⟩
theorem M4_k {l l' : List Int32} {k : Nat} {m : MX} (h : M4 l k m) (e : ∀ i, k ≤ i → i < k + 4 → l'[i]? = l[i]?) : M4 l' k m := by
 obtain ⟨m1, m2, m3, m4⟩ := h
 exact ⟨by rw [e _ (by omega) (by omega)]; exact m1, by rw [e _ (by omega) (by omega)]; exact m2, by rw [e _ (by omega) (by omega)]; exact m3, by rw [e _ (by omega) (by omega)]; exact m4⟩
theorem Zq.keep {o p : Ob} {x : Nat} {F B : List MX} {SN : MX} (h : Zq o x F B SN) (k : Keep o p x) : Zq p x F B SN := by
 obtain ⟨h1, h2, h3, h4, h5, h6, h7⟩ := h
 obtain ⟨k1, k2, k3, k4, k5, k6⟩ := k
 refine ⟨by rw [k1]; exact h1, by rw [k2]; exact h2, M4_k h3 k3, fun j m hj => M4_k (h4 j m hj) (fun i a b => k4 i (by omega) ?_), fun i hi => M4_k (h5 i hi) (fun j a b => k5 j (by omega) (by omega)), M4_k h6 k6, h7⟩
 have : j < B.length := by
  obtain ⟨l, _⟩ := List.getElem?_eq_some_iff.1 hj
  exact l
 omega
theorem keep_reg (o : Ob) (l : List Int32) (x : Nat) : Keep o (s_reg o l) x := by
 dsimp only [Keep, f_regTuple, f_regA, f_regB, f_regC, f_regCount, f_slots, f_range, f_slide, f_frontSize, f_backSize, f_backElem, f_frontAgg, f_backAgg, f_snap, f_reg, f_capacity, f_queries, f_n, s_reg]
 exact ⟨rfl, rfl, fun _ _ _ => rfl, fun _ _ _ => rfl, fun _ _ _ => rfl, fun _ _ _ => rfl⟩
theorem keep_n (o : Ob) (l : Int32) (x : Nat) : Keep o (s_n o l) x := by
 dsimp only [Keep, f_regTuple, f_regA, f_regB, f_regC, f_regCount, f_slots, f_range, f_slide, f_frontSize, f_backSize, f_backElem, f_frontAgg, f_backAgg, f_snap, f_reg, f_capacity, f_queries, f_n, s_n]
 exact ⟨rfl, rfl, fun _ _ _ => rfl, fun _ _ _ => rfl, fun _ _ _ => rfl, fun _ _ _ => rfl⟩
theorem keep_q (o : Ob) (l : Int32) (x : Nat) : Keep o (s_queries o l) x := by
 dsimp only [Keep, f_regTuple, f_regA, f_regB, f_regC, f_regCount, f_slots, f_range, f_slide, f_frontSize, f_backSize, f_backElem, f_frontAgg, f_backAgg, f_snap, f_reg, f_capacity, f_queries, f_n, s_queries]
 exact ⟨rfl, rfl, fun _ _ _ => rfl, fun _ _ _ => rfl, fun _ _ _ => rfl, fun _ _ _ => rfl⟩
theorem keep_rs (o : Ob) (l m : List Int32) (x : Nat) : Keep o (s_slide (s_range o l) m) x := by
 dsimp only [Keep, f_regTuple, f_regA, f_regB, f_regC, f_regCount, f_slots, f_range, f_slide, f_frontSize, f_backSize, f_backElem, f_frontAgg, f_backAgg, f_snap, f_reg, f_capacity, f_queries, f_n, s_slide, s_range]
 exact ⟨rfl, rfl, fun _ _ _ => rfl, fun _ _ _ => rfl, fun _ _ _ => rfl, fun _ _ _ => rfl⟩
theorem keep_ba (o : Ob) {l : List Int32} {x : Nat} (h : ∀ k, x * 4 ≤ k → k < x * 4 + 4 → l[k]? = (f_backAgg o)[k]?) : Keep o (s_backAgg o l) x := by
 dsimp only [Keep, f_regTuple, f_regA, f_regB, f_regC, f_regCount, f_slots, f_range, f_slide, f_frontSize, f_backSize, f_backElem, f_frontAgg, f_backAgg, f_snap, f_reg, f_capacity, f_queries, f_n, s_backAgg] at h ⊢
 exact ⟨rfl, rfl, h, fun _ _ _ => rfl, fun _ _ _ => rfl, fun _ _ _ => rfl⟩
theorem keep_sn (o : Ob) {l : List Int32} {x : Nat} (h : ∀ k, x * 4 ≤ k → k < x * 4 + 4 → l[k]? = (f_snap o)[k]?) : Keep o (s_snap o l) x := by
 dsimp only [Keep, f_regTuple, f_regA, f_regB, f_regC, f_regCount, f_slots, f_range, f_slide, f_frontSize, f_backSize, f_backElem, f_frontAgg, f_backAgg, f_snap, f_reg, f_capacity, f_queries, f_n, s_snap] at h ⊢
 exact ⟨rfl, rfl, fun _ _ _ => rfl, fun _ _ _ => rfl, fun _ _ _ => rfl, h⟩
theorem keep_be (o : Ob) {l : List Int32} {x : Nat} (h : ∀ k, x * 128 ≤ k → k < x * 128 + 128 → l[k]? = (f_backElem o)[k]?) : Keep o (s_backElem o l) x := by
 dsimp only [Keep, f_regTuple, f_regA, f_regB, f_regC, f_regCount, f_slots, f_range, f_slide, f_frontSize, f_backSize, f_backElem, f_frontAgg, f_backAgg, f_snap, f_reg, f_capacity, f_queries, f_n, s_backElem] at h ⊢
 exact ⟨rfl, rfl, fun _ _ _ => rfl, h, fun _ _ _ => rfl, fun _ _ _ => rfl⟩
theorem keep_fa (o : Ob) {l : List Int32} {x : Nat} (h : ∀ k, x * 128 ≤ k → k < x * 128 + 128 → l[k]? = (f_frontAgg o)[k]?) : Keep o (s_frontAgg o l) x := by
 dsimp only [Keep, f_regTuple, f_regA, f_regB, f_regC, f_regCount, f_slots, f_range, f_slide, f_frontSize, f_backSize, f_backElem, f_frontAgg, f_backAgg, f_snap, f_reg, f_capacity, f_queries, f_n, s_frontAgg] at h ⊢
 exact ⟨rfl, rfl, fun _ _ _ => rfl, fun _ _ _ => rfl, h, fun _ _ _ => rfl⟩
theorem keep_fs (o : Ob) {l : List Int32} {x : Nat} (h : l[x]? = (f_frontSize o)[x]?) : Keep o (s_frontSize o l) x := by
 dsimp only [Keep, f_regTuple, f_regA, f_regB, f_regC, f_regCount, f_slots, f_range, f_slide, f_frontSize, f_backSize, f_backElem, f_frontAgg, f_backAgg, f_snap, f_reg, f_capacity, f_queries, f_n, s_frontSize] at h ⊢
 exact ⟨h, rfl, fun _ _ _ => rfl, fun _ _ _ => rfl, fun _ _ _ => rfl, fun _ _ _ => rfl⟩
theorem keep_bs (o : Ob) {l : List Int32} {x : Nat} (h : l[x]? = (f_backSize o)[x]?) : Keep o (s_backSize o l) x := by
 dsimp only [Keep, f_regTuple, f_regA, f_regB, f_regC, f_regCount, f_slots, f_range, f_slide, f_frontSize, f_backSize, f_backElem, f_frontAgg, f_backAgg, f_snap, f_reg, f_capacity, f_queries, f_n, s_backSize] at h ⊢
 exact ⟨rfl, h, fun _ _ _ => rfl, fun _ _ _ => rfl, fun _ _ _ => rfl, fun _ _ _ => rfl⟩
theorem g0 {l : List Int32} {x v : Int32} (h0 : 0 ≤ x.toInt) (h : l[x.toInt.toNat]? = some v) : aget l x = some v := by
 unfold aget
 rw [if_neg (by rw [i_lt]; show ¬ x.toInt < 0; omega)]
 exact h
theorem reset_m {C : Int32} {R S : List Int32} {n q : Int32} {o : Ob} (h : Sh C R S n q o) {x : Int32} (x0 : 0 ≤ x.toInt) (x4 : x.toInt < 4) : okP (F2 o x) (fun p => Sh C R S n q p ∧ Zq p x.toInt.toNat [] [] (1, 0, 0, 1) ∧ ∀ y, y ≠ x.toInt.toNat → Keep o p y) := by
 have l1 := Sh_l_frontSize h
 have l2 := Sh_l_backSize h
 unfold F2
 rw [if_neg (by rw [i_lt]; show ¬ x.toInt < 0; omega), if_pos (by rw [i_lt]; exact x4), aset_at (n := x.toInt.toNat) (by omega) (by omega)]
 simp only [Option.bind_some]
 rw [aset_at (n := x.toInt.toNat) (by omega) (by omega)]
 simp only [Option.bind_some]
 have h1 := Sh_backSize (Sh_frontSize h (x := (f_frontSize o).set x.toInt.toNat 0) (by rw [List.length_set]; exact l1)) (x := (f_backSize o).set x.toInt.toNat 0) (by rw [List.length_set]; exact l2)
 obtain ⟨o1, ho1⟩ : ∃ o1, o1 = s_backSize (s_frontSize o ((f_frontSize o).set x.toInt.toNat 0)) ((f_backSize o).set x.toInt.toNat 0) := ⟨_, rfl⟩
 rw [← ho1] at h1 ⊢
 have a1 : (f_frontSize o1)[x.toInt.toNat]? = some 0 := by
  rw [ho1]
  show ((f_frontSize o).set x.toInt.toNat 0)[x.toInt.toNat]? = some 0
  rw [List.getElem?_set_self (by omega)]
 have a2 : (f_backSize o1)[x.toInt.toNat]? = some 0 := by
  rw [ho1]
  show ((f_backSize o).set x.toInt.toNat 0)[x.toInt.toNat]? = some 0
  rw [List.getElem?_set_self (by omega)]
 have k1 : ∀ y, y ≠ x.toInt.toNat → Keep o o1 y := by
  intro y hy
  rw [ho1]
  exact (keep_fs o (by rw [List.getElem?_set_ne (fun e => hy e.symm)])).trans (keep_bs _ (by rw [List.getElem?_set_ne (fun e => hy e.symm)]; rfl))
 clear ho1
 obtain ⟨L, e1, l3, m1, _⟩ := id_m h1
 rw [e1]
 simp only [Option.bind_some]
 have h2 := Sh_reg h1 (x := L) l3
 apply okP.bind
 refine okP.mono (ba_m h2 x0 x4 (r := 1) (U := 4) (by decide) (by decide) rfl m1) ?_
 rintro _ ⟨L2, rfl, l4, m2, q2⟩
 have h3 := Sh_backAgg h2 (x := L2) l4
 apply okP.bind
 refine okP.mono (sn_m h3 x0 x4 (r := 1) (U := 4) (m := (1, 0, 0, 1)) (by decide) (by decide) rfl m1) ?_
 rintro _ ⟨L3, rfl, l5, m3, q3⟩
 have h4 := Sh_snap h3 (x := L3) l5
 refine okP.some ⟨h4, ⟨⟨0, a1, rfl⟩, ⟨0, a2, rfl⟩, m2, fun j m hj => by simp at hj, fun i hi => absurd hi (Nat.not_lt_zero _), m3, by decide⟩, fun y hy => ?_⟩
 refine (k1 y hy).trans ((keep_reg _ _ _).trans ((keep_ba _ ?_).trans (keep_sn _ ?_)))
 ·intro k b1 b2
  exact q2 k (by omega)
 ·intro k b1 b2
  exact q3 k (by omega)
theorem fold_m {C : Int32} {R S : List Int32} {n q : Int32} {o : Ob} (h : Sh C R S n q o) {x : Int32} (x0 : 0 ≤ x.toInt) (x4 : x.toInt < 4) {F B : List MX} {SN T : MX} (z : Zq o x.toInt.toNat F B SN) (hT : M4 (f_reg o) 0 T) : okP (F23 o x 3) (fun p => ∃ L : List Int32, p = s_reg o L ∧ L.length = 16 ∧ M4 L 12 (prod (F ++ B)) ∧ M4 L 0 T) := by
 have z0 : (0 : Int32).toInt = 0 := rfl
 have z1 : (1 : Int32).toInt = 1 := rfl
 obtain ⟨⟨fs, f1, f2⟩, ⟨bs, b1, b2⟩, z3, z4, z5, z6, z7⟩ := z
 have tail : ∀ L : List Int32, L.length = 16 → M4 L 4 (prod F) → M4 L 0 T → okP (J23_28 (s_reg o L) x 3) (fun p => ∃ L : List Int32, p = s_reg o L ∧ L.length = 16 ∧ M4 L 12 (prod (F ++ B)) ∧ M4 L 0 T) := by
  intro L lL mL mT
  have h2 := Sh_reg h (x := L) lL
  unfold J23_28
  apply okP.bind
  refine okP.mono (ld_m h2 x0 x4 (r := 2) (V := 8) (by decide) (by decide) rfl z3) ?_
  rintro _ ⟨L2, rfl, l2, m2, q2⟩
  have h3 := Sh_reg h2 (x := L2) l2
  apply okP.bind
  refine okP.mono (mul_m h3 (x := 3) (y := 1) (z := 2) (X := 12) (Y := 4) (Z := 8) rfl rfl rfl (by decide) (by decide) (by decide) (q2 4 _ (by omega) mL) m2) ?_
  rintro _ ⟨L3, rfl, l3, m3, q3⟩
  refine okP.some ⟨L3, rfl, l3, ?_, q3 0 _ (by omega) (q2 0 _ (by omega) mT)⟩
  rw [prod_app]; exact m3
 unfold F23
 rw [g0 x0 f1]
 simp only [Option.bind_some]
 apply okP.ite <;> intro c
 ·rw [i_lt, z0] at c
  have e : (fs - 1).toInt = fs.toInt - 1 := by
   rw [i_sub (by omega) (by omega), z1]
  obtain ⟨f', hf'⟩ : ∃ f', f' = fs - 1 := ⟨_, rfl⟩
  rw [← hf'] at e ⊢
  clear hf'
  have m := z5 f'.toInt.toNat (by omega)
  rw [show F.length - 1 - f'.toInt.toNat = 0 by omega, List.drop_zero] at m
  apply okP.bind
  refine okP.mono (lf_m h x0 x4 (y := f') (by omega) (by omega) (r := 1) (V := 4) (by decide) (by decide) rfl m) ?_
  rintro _ ⟨L, rfl, lL, mL, qL⟩
  exact tail L lL mL (qL 0 _ (by omega) hT)
 ·rw [i_lt, z0] at c
  obtain ⟨L, e1, lL, mL, qL⟩ := id_m h
  rw [e1]
  simp only [Option.bind_some]
  have : F = [] := List.eq_nil_of_length_eq_zero (by omega)
  rw [this] at tail ⊢
  exact tail L lL mL (qL 0 _ (by omega) hT)
theorem snap_m {C : Int32} {R S : List Int32} {n q : Int32} {o : Ob} (h : Sh C R S n q o) {x : Int32} (x0 : 0 ≤ x.toInt) (x4 : x.toInt < 4) {F B : List MX} {SN T : MX} (z : Zq o x.toInt.toNat F B SN) (hT : M4 (f_reg o) 0 T) : okP (F22 o x) (fun p => Sh C R S n q p ∧ Zq p x.toInt.toNat F B (prod (F ++ B)) ∧ M4 (f_reg p) 0 T ∧ ∀ y, y ≠ x.toInt.toNat → Keep o p y) := by
 unfold F22
 apply okP.bind
 refine okP.mono (fold_m h x0 x4 z hT) ?_
 rintro _ ⟨L, rfl, lL, mL, mT⟩
 have h2 := Sh_reg h (x := L) lL
 apply okP.bind
 refine okP.mono (sn_m h2 x0 x4 (r := 3) (U := 12) (by decide) (by decide) rfl mL) ?_
 rintro _ ⟨L3, rfl, l5, m3, q3⟩
 have h4 := Sh_snap h2 (x := L3) l5
 obtain ⟨z1, z2, z3, z4, z5, z6, z7⟩ := z
 refine okP.some ⟨h4, ⟨z1, z2, z3, z4, z5, m3, z7⟩, mT, fun y hy => ?_⟩
 refine (keep_reg _ _ _).trans (keep_sn _ ?_)
 intro k b1 b2
 exact q3 k (by omega)
theorem flip_m {C : Int32} {R S : List Int32} {n q : Int32} {o : Ob} (h : Sh C R S n q o) {x : Int32} (x0 : 0 ≤ x.toInt) (x4 : x.toInt < 4) {B : List MX} {SN T : MX} (z : Zq o x.toInt.toNat [] B SN) (hT : M4 (f_reg o) 0 T) : okP (F19 o x) (fun p => Sh C R S n q p ∧ Zq p x.toInt.toNat B [] SN ∧ M4 (f_reg p) 0 T ∧ ∀ y, y ≠ x.toInt.toNat → Keep o p y) := by
 have z0 : (0 : Int32).toInt = 0 := rfl
 have z1 : (1 : Int32).toInt = 1 := rfl
 have z32 : (32 : Int32).toInt = 32 := rfl
 have l1 := Sh_l_frontSize h
 have l2 := Sh_l_backSize h
 obtain ⟨⟨fs, f1, f2⟩, ⟨bs, b1, b2⟩, z3, z4, z5, z6, z7⟩ := z
 have z7' : B.length ≤ 32 := by
  have : ([] : List MX).length = 0 := rfl
  omega
 unfold F19
 rw [g0 x0 b1]
 simp only [Option.bind_some]
 rw [if_neg (show ¬ (32 : Int32) < bs by rw [i_lt, z32]; omega)]
 obtain ⟨L, e1, lL, mL, qL⟩ := id_m h
 rw [e1]
 simp only [Option.bind_some]
 have h2 := Sh_reg h (x := L) lL
 have lp : okP (loopN (B19_23 x bs) qN (0, s_reg o L)) (fun p => ∃ L FA, p = s_frontAgg (s_reg o L) FA ∧ L.length = 16 ∧ FA.length = 512 ∧ M4 L 0 T ∧ (∀ i, i < B.length → M4 FA ((x.toInt.toNat * 32 + i) * 4) (prod (B.drop (B.length - 1 - i)))) ∧ ∀ k, ¬ (x.toInt.toNat * 128 ≤ k ∧ k < x.toInt.toNat * 128 + 128) → FA[k]? = (f_frontAgg o)[k]?) := by
  refine okP.loop (fun v => 0 ≤ v.1.toInt ∧ v.1.toInt ≤ B.length ∧ ∃ L FA, v.2 = s_frontAgg (s_reg o L) FA ∧ L.length = 16 ∧ FA.length = 512 ∧ M4 L 0 T ∧ M4 L 4 (prod (B.drop (B.length - v.1.toInt.toNat))) ∧ (∀ i, i < v.1.toInt.toNat → M4 FA ((x.toInt.toNat * 32 + i) * 4) (prod (B.drop (B.length - 1 - i)))) ∧ ∀ k, ¬ (x.toInt.toNat * 128 ≤ k ∧ k < x.toInt.toNat * 128 + 128) → FA[k]? = (f_frontAgg o)[k]?) (fun v => (32 - v.1.toInt).toNat) ⟨by show (0 : Int) ≤ 0; decide, by show (0 : Int) ≤ _; omega, L, f_frontAgg o, rfl, lL, Sh_l_frontAgg h, qL 0 _ (by omega) hT, ?_, fun i hi => absurd hi (Nat.not_lt_zero _), fun _ _ => rfl⟩ (by show (32 - (0 : Int)).toNat < 4000; decide) ?_
  ·show M4 L 4 (prod (B.drop (B.length - 0)))
   rw [Nat.sub_zero, List.drop_length]; exact mL
  rintro ⟨i, p⟩ ⟨i0, i1, L, FA, hp, lL, lF, mT, mA, mF, kF⟩
  simp only at i0 i1 hp mA mF
  subst hp
  have h3 : Sh C R S n q (s_frontAgg (s_reg o L) FA) := Sh_frontAgg (Sh_reg h (x := L) lL) (x := FA) lF
  unfold B19_23
  simp only
  apply okP.ite <;> intro c
  ·rw [i_lt] at c
   have e2 : (i + 1).toInt = i.toInt + 1 := inc1 (by omega)
   have en : (i + 1).toInt.toNat = i.toInt.toNat + 1 := by omega
   have e3 : (bs - 1 - i).toInt = bs.toInt - 1 - i.toInt := by
    have e : (bs - 1).toInt = bs.toInt - 1 := by rw [i_sub (by omega) (by omega), z1]
    rw [i_sub (by omega) (by omega), e]
   obtain ⟨j, hj⟩ : ∃ j, j = bs - 1 - i := ⟨_, rfl⟩
   rw [← hj] at e3 ⊢
   clear hj
   have jl : j.toInt.toNat < B.length := by omega
   have mB : M4 (f_backElem (s_frontAgg (s_reg o L) FA)) ((x.toInt.toNat * 32 + j.toInt.toNat) * 4) B[j.toInt.toNat] := z4 j.toInt.toNat _ (List.getElem?_eq_getElem jl)
   apply okP.bind
   refine okP.mono (lb_m h3 x0 x4 (y := j) (by omega) (by omega) (r := 2) (V := 8) (by decide) (by decide) rfl mB) ?_
   rintro _ ⟨L2, rfl, l3, m3, q3⟩
   have h4 := Sh_reg h3 (x := L2) l3
   apply okP.bind
   refine okP.mono (mul_m h4 (x := 1) (y := 2) (z := 1) (X := 4) (Y := 8) (Z := 4) rfl rfl rfl (by decide) (by decide) (by decide) m3 (q3 4 _ (by omega) mA)) ?_
   rintro _ ⟨L3, rfl, l4, m4', q4⟩
   have h5 := Sh_reg h4 (x := L3) l4
   have pe : mm B[j.toInt.toNat] (prod (B.drop (B.length - i.toInt.toNat))) = prod (B.drop (B.length - (i.toInt.toNat + 1))) := by
    have ej : B.length - (i.toInt.toNat + 1) = j.toInt.toNat := by omega
    rw [ej, List.drop_eq_getElem_cons jl, show B.length - i.toInt.toNat = j.toInt.toNat + 1 by omega]
    rfl
   rw [pe] at m4'
   apply okP.bind
   refine okP.mono (sf_m h5 x0 x4 (y := i) i0 (by omega) (r := 1) (U := 4) (by decide) (by decide) rfl m4') ?_
   rintro _ ⟨FA2, rfl, l5, m5, q5⟩
   apply okP.some
   refine ⟨⟨by simp only; omega, by simp only; omega, L3, FA2, ?_, l4, l5, q4 0 _ (by omega) (q3 0 _ (by omega) mT), ?_, ?_, ?_⟩, by simp only; omega⟩
   ·dsimp only [s_frontAgg, s_reg, f_regTuple, f_regA, f_regB, f_regC, f_regCount, f_slots, f_range, f_slide, f_frontSize, f_backSize, f_backElem, f_frontAgg, f_backAgg, f_snap, f_reg, f_capacity, f_queries, f_n]
   ·simp only [en]; exact m4'
   ·intro k hk
    simp only [en] at hk
    by_cases e : k = i.toInt.toNat
    ·rw [e, show B.length - 1 - i.toInt.toNat = B.length - (i.toInt.toNat + 1) by omega]; exact m5
    ·refine M4_k (mF k (by omega)) (fun t a b => ?_)
     rw [q5 t (by omega)]; rfl
   ·intro k hk
    rw [q5 k (by omega)]
    exact kF k hk
  ·rw [i_lt] at c
   have : i.toInt.toNat = B.length := by omega
   rw [this] at mF
   exact okP.some ⟨L, FA, rfl, lL, lF, mT, mF, kF⟩
 apply okP.bind
 refine okP.mono lp ?_
 rintro _ ⟨L4, FA, rfl, l4, lF, mT, mF, kF⟩
 have h3 : Sh C R S n q (s_frontAgg (s_reg o L4) FA) := Sh_frontAgg (Sh_reg h (x := L4) l4) (x := FA) lF
 have y1 : f_frontSize (s_frontAgg (s_reg o L4) FA) = f_frontSize o := by dsimp only [f_regTuple, f_regA, f_regB, f_regC, f_regCount, f_slots, f_range, f_slide, f_frontSize, f_backSize, f_backElem, f_frontAgg, f_backAgg, f_snap, f_reg, f_capacity, f_queries, f_n, s_frontAgg, s_reg]
 have y2 : f_backSize (s_frontAgg (s_reg o L4) FA) = f_backSize o := by dsimp only [f_regTuple, f_regA, f_regB, f_regC, f_regCount, f_slots, f_range, f_slide, f_frontSize, f_backSize, f_backElem, f_frontAgg, f_backAgg, f_snap, f_reg, f_capacity, f_queries, f_n, s_frontAgg, s_reg]
 rw [y1, y2, aset_at (n := x.toInt.toNat) (by omega) (by omega)]
 simp only [Option.bind_some]
 rw [aset_at (n := x.toInt.toNat) (by omega) (by omega)]
 simp only [Option.bind_some]
 have h4 := Sh_backSize (Sh_frontSize h3 (x := (f_frontSize o).set x.toInt.toNat bs) (by rw [List.length_set]; exact l1)) (x := (f_backSize o).set x.toInt.toNat 0) (by rw [List.length_set]; exact l2)
 obtain ⟨o1, ho1⟩ : ∃ o1, o1 = s_backSize (s_frontSize (s_frontAgg (s_reg o L4) FA) ((f_frontSize o).set x.toInt.toNat bs)) ((f_backSize o).set x.toInt.toNat 0) := ⟨_, rfl⟩
 rw [← ho1] at h4 ⊢
 have g1 : f_frontSize o1 = (f_frontSize o).set x.toInt.toNat bs := by rw [ho1]; dsimp only [f_regTuple, f_regA, f_regB, f_regC, f_regCount, f_slots, f_range, f_slide, f_frontSize, f_backSize, f_backElem, f_frontAgg, f_backAgg, f_snap, f_reg, f_capacity, f_queries, f_n, s_frontAgg, s_reg, s_backSize, s_frontSize]
 have g2 : f_backSize o1 = (f_backSize o).set x.toInt.toNat 0 := by rw [ho1]; dsimp only [f_regTuple, f_regA, f_regB, f_regC, f_regCount, f_slots, f_range, f_slide, f_frontSize, f_backSize, f_backElem, f_frontAgg, f_backAgg, f_snap, f_reg, f_capacity, f_queries, f_n, s_frontAgg, s_reg, s_backSize, s_frontSize]
 have g3 : f_frontAgg o1 = FA := by rw [ho1]; dsimp only [f_regTuple, f_regA, f_regB, f_regC, f_regCount, f_slots, f_range, f_slide, f_frontSize, f_backSize, f_backElem, f_frontAgg, f_backAgg, f_snap, f_reg, f_capacity, f_queries, f_n, s_frontAgg, s_reg, s_backSize, s_frontSize]
 have g4 : f_snap o1 = f_snap o := by rw [ho1]; dsimp only [f_regTuple, f_regA, f_regB, f_regC, f_regCount, f_slots, f_range, f_slide, f_frontSize, f_backSize, f_backElem, f_frontAgg, f_backAgg, f_snap, f_reg, f_capacity, f_queries, f_n, s_frontAgg, s_reg, s_backSize, s_frontSize]
 have g5 : f_reg o1 = L4 := by rw [ho1]; dsimp only [f_regTuple, f_regA, f_regB, f_regC, f_regCount, f_slots, f_range, f_slide, f_frontSize, f_backSize, f_backElem, f_frontAgg, f_backAgg, f_snap, f_reg, f_capacity, f_queries, f_n, s_frontAgg, s_reg, s_backSize, s_frontSize]
 have k1 : ∀ y, y ≠ x.toInt.toNat → Keep o o1 y := by
  intro y hy
  rw [ho1]
  refine (keep_reg o L4 y).trans ((keep_fa _ ?_).trans ((keep_fs _ ?_).trans (keep_bs _ ?_)))
  ·intro k a b
   exact kF k (by omega)
  ·rw [List.getElem?_set_ne (fun e => hy e.symm)]; exact congrArg (fun l : List Int32 => l[y]?) y1.symm
  ·rw [List.getElem?_set_ne (fun e => hy e.symm)]
   have : f_backSize (s_frontSize (s_frontAgg (s_reg o L4) FA) ((f_frontSize o).set x.toInt.toNat bs)) = f_backSize o := by dsimp only [f_regTuple, f_regA, f_regB, f_regC, f_regCount, f_slots, f_range, f_slide, f_frontSize, f_backSize, f_backElem, f_frontAgg, f_backAgg, f_snap, f_reg, f_capacity, f_queries, f_n, s_frontAgg, s_reg, s_backSize, s_frontSize]
   rw [this]
 clear ho1
 obtain ⟨L5, e5, l5, m5, q5⟩ := id_m h4
 rw [e5]
 simp only [Option.bind_some]
 have h5 := Sh_reg h4 (x := L5) l5
 apply okP.bind
 refine okP.mono (ba_m h5 x0 x4 (r := 1) (U := 4) (by decide) (by decide) rfl m5) ?_
 rintro _ ⟨L6, rfl, l6, m6, q6⟩
 have h6 := Sh_backAgg h5 (x := L6) l6
 rw [← g5] at mT
 have w1 : f_frontSize (s_backAgg (s_reg o1 L5) L6) = f_frontSize o1 := by dsimp only [f_regTuple, f_regA, f_regB, f_regC, f_regCount, f_slots, f_range, f_slide, f_frontSize, f_backSize, f_backElem, f_frontAgg, f_backAgg, f_snap, f_reg, f_capacity, f_queries, f_n, s_backAgg, s_reg]
 have w2 : f_backSize (s_backAgg (s_reg o1 L5) L6) = f_backSize o1 := by dsimp only [f_regTuple, f_regA, f_regB, f_regC, f_regCount, f_slots, f_range, f_slide, f_frontSize, f_backSize, f_backElem, f_frontAgg, f_backAgg, f_snap, f_reg, f_capacity, f_queries, f_n, s_backAgg, s_reg]
 have w3 : f_frontAgg (s_backAgg (s_reg o1 L5) L6) = f_frontAgg o1 := by dsimp only [f_regTuple, f_regA, f_regB, f_regC, f_regCount, f_slots, f_range, f_slide, f_frontSize, f_backSize, f_backElem, f_frontAgg, f_backAgg, f_snap, f_reg, f_capacity, f_queries, f_n, s_backAgg, s_reg]
 have w4 : f_snap (s_backAgg (s_reg o1 L5) L6) = f_snap o1 := by dsimp only [f_regTuple, f_regA, f_regB, f_regC, f_regCount, f_slots, f_range, f_slide, f_frontSize, f_backSize, f_backElem, f_frontAgg, f_backAgg, f_snap, f_reg, f_capacity, f_queries, f_n, s_backAgg, s_reg]
 have w5 : f_reg (s_backAgg (s_reg o1 L5) L6) = L5 := by dsimp only [f_regTuple, f_regA, f_regB, f_regC, f_regCount, f_slots, f_range, f_slide, f_frontSize, f_backSize, f_backElem, f_frontAgg, f_backAgg, f_snap, f_reg, f_capacity, f_queries, f_n, s_backAgg, s_reg]
 have w6 : f_backAgg (s_backAgg (s_reg o1 L5) L6) = L6 := by dsimp only [f_regTuple, f_regA, f_regB, f_regC, f_regCount, f_slots, f_range, f_slide, f_frontSize, f_backSize, f_backElem, f_frontAgg, f_backAgg, f_snap, f_reg, f_capacity, f_queries, f_n, s_backAgg, s_reg]
 refine okP.some ⟨h6, ⟨⟨bs, ?_, b2⟩, ⟨0, ?_, rfl⟩, ?_, fun j m hj => by simp at hj, ?_, ?_, ?_⟩, ?_, fun y hy => ?_⟩
 ·rw [w1, g1, List.getElem?_set_self (by omega)]
 ·rw [w2, g2, List.getElem?_set_self (by omega)]
 ·rw [w6]; exact m6
 ·rw [w3, g3]; exact mF
 ·rw [w4, g4]; exact z6
 ·show B.length + 0 ≤ 32; omega
 ·rw [w5]; exact q5 0 _ (by omega) mT
 ·refine (k1 y hy).trans ((keep_reg _ _ _).trans (keep_ba _ ?_))
  intro k a b
  exact q6 k (by omega)
theorem evict_m {C : Int32} {R S : List Int32} {n q : Int32} {o : Ob} (h : Sh C R S n q o) {x : Int32} (x0 : 0 ≤ x.toInt) (x4 : x.toInt < 4) {F B : List MX} {SN T : MX} (z : Zq o x.toInt.toNat F B SN) (hT : M4 (f_reg o) 0 T) : okP (F18 o x) (fun p => Sh C R S n q p ∧ (∃ F' B', F' ++ B' = (F ++ B).tail ∧ Zq p x.toInt.toNat F' B' SN) ∧ M4 (f_reg p) 0 T ∧ ∀ y, y ≠ x.toInt.toNat → Keep o p y) := by
 have z0 : (0 : Int32).toInt = 0 := rfl
 have z1 : (1 : Int32).toInt = 1 := rfl
 have tail : ∀ {p : Ob} {F B : List MX}, Sh C R S n q p → Zq p x.toInt.toNat F B SN → (F = [] → B = []) → M4 (f_reg p) 0 T → okP (J18_14 p x) (fun r => Sh C R S n q r ∧ (∃ F' B', F' ++ B' = (F ++ B).tail ∧ Zq r x.toInt.toNat F' B' SN) ∧ M4 (f_reg r) 0 T ∧ ∀ y, y ≠ x.toInt.toNat → Keep p r y) := by
  intro p F B hp z hF mT
  have l1 := Sh_l_frontSize hp
  have z' := z
  obtain ⟨⟨fs, f1, f2⟩, ⟨bs, b1, b2⟩, z3, z4, z5, z6, z7⟩ := z'
  unfold J18_14
  rw [g0 x0 f1]
  simp only [Option.bind_some]
  apply okP.ite <;> intro c
  ·rw [i_lt, z0] at c
   have e : (fs - 1).toInt = fs.toInt - 1 := by rw [i_sub (by omega) (by omega), z1]
   rw [aset_at (n := x.toInt.toNat) (by omega) (by omega)]
   simp only [Option.bind_some]
   have h2 := Sh_frontSize hp (x := (f_frontSize p).set x.toInt.toNat (fs - 1)) (by rw [List.length_set]; exact l1)
   cases F with
   | nil => simp at f2; omega
   | cons A F =>
    have f2' : fs.toInt = F.length + 1 := f2
    have w1 : f_frontSize (s_frontSize p ((f_frontSize p).set x.toInt.toNat (fs - 1))) = (f_frontSize p).set x.toInt.toNat (fs - 1) := by dsimp only [f_regTuple, f_regA, f_regB, f_regC, f_regCount, f_slots, f_range, f_slide, f_frontSize, f_backSize, f_backElem, f_frontAgg, f_backAgg, f_snap, f_reg, f_capacity, f_queries, f_n, s_frontSize]
    refine okP.some ⟨h2, ⟨F, B, rfl, ⟨fs - 1, ?_, by omega⟩, ⟨bs, b1, b2⟩, z3, z4, ?_, z6, ?_⟩, mT, fun y hy => keep_fs _ (by rw [List.getElem?_set_ne (fun e => hy e.symm)])⟩
    ·rw [w1, List.getElem?_set_self (by omega)]
    ·intro i hi
     have := z5 i (by show i < F.length + 1; omega)
     rw [show (A :: F).length - 1 - i = (F.length - 1 - i) + 1 by show F.length + 1 - 1 - i = _; omega, List.drop_succ_cons] at this
     exact this
    ·have : (A :: F).length = F.length + 1 := rfl
     omega
  ·rw [i_lt, z0] at c
   have e1 : F = [] := List.eq_nil_of_length_eq_zero (by omega)
   have e2 := hF e1
   subst e1
   subst e2
   exact okP.some ⟨hp, ⟨[], [], rfl, z⟩, mT, fun y _ => Keep.refl _ _⟩
 unfold F18
 obtain ⟨⟨fs, f1, f2⟩, _⟩ := id z
 rw [g0 x0 f1]
 simp only [Option.bind_some]
 apply okP.ite <;> intro c
 ·have e1 : F = [] := List.eq_nil_of_length_eq_zero (by rw [c, z0] at f2; omega)
  subst e1
  apply okP.bind
  refine okP.mono (flip_m h x0 x4 z hT) ?_
  rintro p ⟨hp, zp, mp, kp⟩
  refine okP.mono (tail hp zp (fun _ => rfl) mp) ?_
  rintro r ⟨hr, ⟨F', B', e, zr⟩, mr, kr⟩
  exact ⟨hr, ⟨F', B', by rw [e, List.append_nil]; rfl, zr⟩, mr, fun y hy => (kp y hy).trans (kr y hy)⟩
 ·refine tail h z (fun e => absurd ?_ c) hT
  rw [e] at f2
  rw [i_eq, z0]
  exact f2
theorem app_m {C : Int32} {R S : List Int32} {n q : Int32} {o : Ob} (h : Sh C R S n q o) {x : Int32} (x0 : 0 ≤ x.toInt) (x4 : x.toInt < 4) {F B : List MX} {SN T : MX} (z : Zq o x.toInt.toNat F B SN) (hT : M4 (f_reg o) 0 T) {r : Int32} (hr : R[x.toInt.toNat]? = some r) (r1 : 1 ≤ r.toInt) (r32 : r.toInt ≤ 32) (hw : (F ++ B).length ≤ r.toInt) : okP (F12 o x) (fun p => Sh C R S n q p ∧ (∃ F' B', F' ++ B' = (if (F ++ B).length < r.toInt then F ++ B else (F ++ B).tail) ++ [T] ∧ Zq p x.toInt.toNat F' B' SN) ∧ M4 (f_reg p) 0 T ∧ ∀ y, y ≠ x.toInt.toNat → Keep o p y) := by
 have z0 : (0 : Int32).toInt = 0 := rfl
 have tail : ∀ {p : Ob} {F B : List MX}, Sh C R S n q p → Zq p x.toInt.toNat F B SN → (F ++ B).length < 32 → M4 (f_reg p) 0 T → okP (J12_39 p x) (fun r => Sh C R S n q r ∧ (∃ F' B', F' ++ B' = (F ++ B) ++ [T] ∧ Zq r x.toInt.toNat F' B' SN) ∧ M4 (f_reg r) 0 T ∧ ∀ y, y ≠ x.toInt.toNat → Keep p r y) := by
  intro p F B hp z hl mT
  rw [List.length_append] at hl
  obtain ⟨⟨fs, f1, f2⟩, ⟨bs, b1, b2⟩, z3, z4, z5, z6, z7⟩ := z
  unfold J12_39
  rw [g0 x0 b1]
  simp only [Option.bind_some]
  rw [vsl x0 x4 (y := bs) (by omega) (by omega)]
  simp only [Option.bind_some]
  rw [if_neg (by decide)]
  have bn : bs.toInt.toNat = B.length := by omega
  apply okP.bind
  refine okP.mono (sb_m hp x0 x4 (y := bs) (by omega) (by omega) (r := 0) (U := 0) (by decide) (by decide) rfl mT) ?_
  rintro _ ⟨E, rfl, lE, mE, qE⟩
  rw [bn] at mE qE
  have h2 := Sh_backElem hp (x := E) lE
  apply okP.bind
  refine okP.mono (ld_m h2 x0 x4 (r := 1) (V := 4) (by decide) (by decide) rfl z3) ?_
  rintro _ ⟨L2, rfl, l2, m2, q2⟩
  have h3 := Sh_reg h2 (x := L2) l2
  have mT2 := q2 0 _ (by omega) mT
  apply okP.bind
  refine okP.mono (mul_m h3 (x := 1) (y := 1) (z := 0) (X := 4) (Y := 4) (Z := 0) rfl rfl rfl (by decide) (by decide) (by decide) m2 mT2) ?_
  rintro _ ⟨L3, rfl, l3, m3, q3⟩
  have h4 := Sh_reg h3 (x := L3) l3
  have mT3 := q3 0 _ (by omega) mT2
  apply okP.bind
  refine okP.mono (ba_m h4 x0 x4 (r := 1) (U := 4) (by decide) (by decide) rfl m3) ?_
  rintro _ ⟨L5, rfl, l5, m5, q5⟩
  have h5 := Sh_backAgg h4 (x := L5) l5
  have l6 := Sh_l_backSize h5
  obtain ⟨u, hu⟩ : ∃ u, u = s_backAgg (s_reg (s_reg (s_backElem p E) L2) L3) L5 := ⟨_, rfl⟩
  have u1 : f_frontSize u = f_frontSize p := by rw [hu]; dsimp only [f_regTuple, f_regA, f_regB, f_regC, f_regCount, f_slots, f_range, f_slide, f_frontSize, f_backSize, f_backElem, f_frontAgg, f_backAgg, f_snap, f_reg, f_capacity, f_queries, f_n, s_backAgg, s_reg, s_backElem]
  have u2 : f_backSize u = f_backSize p := by rw [hu]; dsimp only [f_regTuple, f_regA, f_regB, f_regC, f_regCount, f_slots, f_range, f_slide, f_frontSize, f_backSize, f_backElem, f_frontAgg, f_backAgg, f_snap, f_reg, f_capacity, f_queries, f_n, s_backAgg, s_reg, s_backElem]
  have u3 : f_backAgg u = L5 := by rw [hu]; dsimp only [f_regTuple, f_regA, f_regB, f_regC, f_regCount, f_slots, f_range, f_slide, f_frontSize, f_backSize, f_backElem, f_frontAgg, f_backAgg, f_snap, f_reg, f_capacity, f_queries, f_n, s_backAgg, s_reg, s_backElem]
  have u4 : f_backElem u = E := by rw [hu]; dsimp only [f_regTuple, f_regA, f_regB, f_regC, f_regCount, f_slots, f_range, f_slide, f_frontSize, f_backSize, f_backElem, f_frontAgg, f_backAgg, f_snap, f_reg, f_capacity, f_queries, f_n, s_backAgg, s_reg, s_backElem]
  have u5 : f_frontAgg u = f_frontAgg p := by rw [hu]; dsimp only [f_regTuple, f_regA, f_regB, f_regC, f_regCount, f_slots, f_range, f_slide, f_frontSize, f_backSize, f_backElem, f_frontAgg, f_backAgg, f_snap, f_reg, f_capacity, f_queries, f_n, s_backAgg, s_reg, s_backElem]
  have u6 : f_snap u = f_snap p := by rw [hu]; dsimp only [f_regTuple, f_regA, f_regB, f_regC, f_regCount, f_slots, f_range, f_slide, f_frontSize, f_backSize, f_backElem, f_frontAgg, f_backAgg, f_snap, f_reg, f_capacity, f_queries, f_n, s_backAgg, s_reg, s_backElem]
  have u7 : f_reg u = L3 := by rw [hu]; dsimp only [f_regTuple, f_regA, f_regB, f_regC, f_regCount, f_slots, f_range, f_slide, f_frontSize, f_backSize, f_backElem, f_frontAgg, f_backAgg, f_snap, f_reg, f_capacity, f_queries, f_n, s_backAgg, s_reg, s_backElem]
  have ku : ∀ y, y ≠ x.toInt.toNat → Keep p u y := by
   intro y hy
   rw [hu]
   refine (keep_be p ?_).trans ((keep_reg _ _ _).trans ((keep_reg _ _ _).trans (keep_ba _ ?_)))
   ·intro k a b
    exact qE k (by omega)
   ·intro k a b
    exact q5 k (by omega)
  rw [← hu] at h5 l6 ⊢
  clear hu
  rw [aset_at (n := x.toInt.toNat) (by omega) (by omega)]
  simp only [Option.bind_some]
  have h6 := Sh_backSize h5 (x := (f_backSize u).set x.toInt.toNat (bs + 1)) (by rw [List.length_set]; exact l6)
  have b3 : (bs + 1).toInt = bs.toInt + 1 := inc1 (by omega)
  refine okP.some ⟨h6, ⟨F, B ++ [T], by rw [List.append_assoc], ⟨fs, ?_, f2⟩, ⟨bs + 1, ?_, ?_⟩, ?_, ?_, ?_, ?_, ?_⟩, ?_, fun y hy => (ku y hy).trans (keep_bs _ (by rw [List.getElem?_set_ne (fun e => hy e.symm)]))⟩
  ·show (f_frontSize u)[_]? = _
   rw [u1]; exact f1
  ·show ((f_backSize u).set x.toInt.toNat (bs + 1))[_]? = _
   rw [List.getElem?_set_self (by omega)]
  ·rw [b3, b2, List.length_append]; rfl
  ·show M4 (f_backAgg u) _ _
   rw [u3, prod_snoc]; exact m5
  ·intro j m hj
   show M4 (f_backElem u) _ _
   rw [u4]
   by_cases e : j = B.length
   ·subst e
    rw [List.getElem?_append_right (Nat.le_refl _), Nat.sub_self] at hj
    cases hj
    exact mE
   ·have jl : j < B.length := by
     obtain ⟨l, _⟩ := List.getElem?_eq_some_iff.1 hj
     rw [List.length_append] at l
     have : [T].length = 1 := rfl
     omega
    rw [List.getElem?_append_left jl] at hj
    exact M4_k (z4 j m hj) (fun i a b => qE i (by omega))
  ·intro i hi
   show M4 (f_frontAgg u) _ _
   rw [u5]; exact z5 i hi
  ·show M4 (f_snap u) _ _
   rw [u6]; exact z6
  ·rw [List.length_append]
   have : [T].length = 1 := rfl
   omega
  ·show M4 (f_reg u) 0 T
   rw [u7]; exact mT3
 obtain ⟨⟨fs, f1, f2⟩, ⟨bs, b1, b2⟩, _⟩ := id z
 unfold F12
 rw [if_neg (by rw [i_lt]; show ¬ x.toInt < 0; omega), if_pos (by rw [i_lt]; exact x4), g0 x0 f1, g0 x0 b1, Sh_R h, g0 x0 hr]
 simp only [Option.bind_some]
 have e : (fs + bs).toInt = (F ++ B).length := by
  rw [List.length_append] at hw ⊢
  rw [i_add (by omega) (by omega)]; omega
 apply okP.ite <;> intro c
 ·rw [i_lt, e] at c
  rw [if_pos c]
  exact tail h z (by omega) hT
 ·rw [i_lt, e] at c
  rw [if_neg c]
  apply okP.bind
  refine okP.mono (evict_m h x0 x4 z hT) ?_
  rintro p ⟨hp, ⟨F', B', ew, zp⟩, mp, kp⟩
  refine okP.mono (tail hp zp (by rw [ew, List.length_tail]; omega) mp) ?_
  rintro w ⟨hw', ⟨F2, B2, e2, zw⟩, mw, kw⟩
  exact ⟨hw', ⟨F2, B2, by rw [e2, ew], zw⟩, mw, fun y hy => (kp y hy).trans (kw y hy)⟩
def lastr (r : Nat) (l : List MX) : List MX := l.drop (l.length - r)
theorem lastr_len (r : Nat) (l : List MX) : (lastr r l).length ≤ r ∧ (lastr r l).length ≤ l.length ∧ (r ≤ l.length → (lastr r l).length = r) := by
 unfold lastr
 rw [List.length_drop]
 omega
theorem lastr_snoc {r : Nat} (h : 1 ≤ r) (l : List MX) (T : MX) : lastr r (l ++ [T]) = (if (lastr r l).length < r then lastr r l else (lastr r l).tail) ++ [T] := by
 have e1 : (l ++ [T]).length = l.length + 1 := by rw [List.length_append]; rfl
 by_cases c : l.length < r
 ·have : (lastr r l).length < r := by have := (lastr_len r l).2.1; omega
  rw [if_pos this]
  unfold lastr
  rw [e1, show l.length + 1 - r = 0 by omega, show l.length - r = 0 by omega, List.drop_zero, List.drop_zero]
 ·have : ¬ (lastr r l).length < r := by have := (lastr_len r l).2.2 (by omega); omega
  rw [if_neg this]
  unfold lastr
  rw [e1, List.tail_drop, List.drop_append_of_le_length (by omega), show l.length + 1 - r = l.length - r + 1 by omega]
def SNv (r s : Nat) (H : List MX) : MX := prod (lastr r (H.take (s * (H.length / s))))
theorem SNv_hit {r s : Nat} {H : List MX} {T : MX} (h : (H.length + 1) % s = 0) : SNv r s (H ++ [T]) = prod (lastr r (H ++ [T])) := by
 have e1 : (H ++ [T]).length = H.length + 1 := by rw [List.length_append]; rfl
 have e2 : s * ((H.length + 1) / s) = H.length + 1 := by
  have := Nat.div_add_mod (H.length + 1) s
  omega
 unfold SNv
 rw [e1, e2, List.take_of_length_le (by omega)]
theorem SNv_miss {r s : Nat} {H : List MX} {T : MX} (s1 : 1 ≤ s) (h : ¬ (H.length + 1) % s = 0) : SNv r s (H ++ [T]) = SNv r s H := by
 have e1 : (H ++ [T]).length = H.length + 1 := by rw [List.length_append]; rfl
 have e2 : (H.length + 1) / s = H.length / s := by
  rw [Nat.succ_div, if_neg (fun q => h (Nat.mod_eq_zero_of_dvd q))]
  rfl
 have e3 : s * (H.length / s) ≤ H.length := Nat.mul_div_le _ _
 unfold SNv
 rw [e1, e2, List.take_append_of_le_length e3]
def Qo (o : Ob) (R S : List Int32) (H : List MX) (x : Nat) : Prop := ∃ r s : Int32, R[x]? = some r ∧ S[x]? = some s ∧ (1 ≤ r.toInt ∧ r.toInt ≤ 32) ∧ (1 ≤ s.toInt ∧ s.toInt ≤ 32) ∧ ∃ F B, F ++ B = lastr r.toInt.toNat H ∧ Zq o x F B (SNv r.toInt.toNat s.toInt.toNat H)
def St (C : Int32) (R S : List Int32) (q : Int32) (H : List MX) (o : Ob) : Prop := ∃ n : Int32, Sh C R S n q o ∧ n.toInt = H.length ∧ H.length ≤ 1000 ∧ (0 ≤ q.toInt ∧ q.toInt ≤ 4) ∧ R.length = 4 ∧ S.length = 4 ∧ ∀ x, x < q.toInt.toNat → Qo o R S H x
theorem Qo.keep {o p : Ob} {R S : List Int32} {H : List MX} {x : Nat} (h : Qo o R S H x) (k : Keep o p x) : Qo p R S H x := by
 obtain ⟨r, s, h1, h2, h3, h4, F, B, h5, h6⟩ := h
 exact ⟨r, s, h1, h2, h3, h4, F, B, h5, h6.keep k⟩
def hit (S : List Int32) (n : Nat) (x : Nat) : Bool := n % ((S[x]?).getD 0).toInt.toNat == 0
def cM (S : List Int32) (n k : Nat) : Nat := ((List.range k).filter (hit S n)).length
theorem cM_s (S : List Int32) (n k : Nat) : cM S n (k + 1) = if hit S n k then cM S n k + 1 else cM S n k := by
 unfold cM
 rw [List.range_succ, List.filter_append, List.length_append]
 by_cases h : hit S n k = true
 ·rw [if_pos h, List.filter_cons_of_pos h]; rfl
 ·rw [if_neg h, List.filter_cons_of_neg h]; rfl
theorem cM_le (S : List Int32) (n k : Nat) : cM S n k ≤ k := by
 have := List.length_filter_le (hit S n) (List.range k)
 rw [List.length_range] at this
 exact this
theorem rem_i {x y : Int32} (hx : 0 ≤ x.toInt) (hy : 1 ≤ y.toInt) : (x % y).toInt = (x.toInt.toNat % y.toInt.toNat : Nat) := by
 rw [Int32.toInt_mod, Int.tmod_eq_emod_of_nonneg hx]
 have e1 : x.toInt = (x.toInt.toNat : Int) := by omega
 have e2 : y.toInt = (y.toInt.toNat : Int) := by omega
 rw [e1, e2]
 simp
theorem push_m {C : Int32} {R S : List Int32} {q : Int32} {H : List MX} {o : Ob} (h : St C R S q H o) (hH : H.length < 1000) (a b c d : Int32) : okP (F11 o a b c d) (fun r => St C R S q (H ++ [(a, b, c, d)]) r.2 ∧ r.1.toInt = cM S (H.length + 1) q.toInt.toNat) := by
 obtain ⟨n, hS, hn, _, hq, lR, lS, hQ⟩ := h
 have z0 : (0 : Int32).toInt = 0 := rfl
 have z1 : (1 : Int32).toInt = 1 := rfl
 have n1 : (n + 1).toInt = n.toInt + 1 := inc1 (by omega)
 unfold F11
 rw [Sh_N hS]
 have hS1 : Sh C R S (n + 1) q (s_n o (n + 1)) := by
  dsimp only [Sh, f_regTuple, f_regA, f_regB, f_regC, f_regCount, f_slots, f_range, f_slide, f_frontSize, f_backSize, f_backElem, f_frontAgg, f_backAgg, f_snap, f_reg, f_capacity, f_queries, f_n, s_n] at hS ⊢
  obtain ⟨y1, y2, y3, y4, y5, y6, y7, y8, y9, y10, y11, y12⟩ := hS
  exact ⟨y1, y2, y3, y4, y5, y6, y7, y8, y9, rfl, y11, y12⟩
 have lr := Sh_l_reg hS1
 rw [set_ex hS1 (x := 0) (by decide) (by decide)]
 simp only [Option.bind_some]
 have mT : M4 (((((f_reg (s_n o (n + 1))).set ((0 : Int32).toInt.toNat * 4) a).set ((0 : Int32).toInt.toNat * 4 + 1) b).set ((0 : Int32).toInt.toNat * 4 + 2) c).set ((0 : Int32).toInt.toNat * 4 + 3) d) 0 (a, b, c, d) := by
  have e : (0 : Int32).toInt.toNat * 4 = 0 := rfl
  rw [e]
  refine ⟨?_, ?_, ?_, ?_⟩
  ·rw [List.getElem?_set_ne (by decide), List.getElem?_set_ne (by decide), List.getElem?_set_ne (by decide), List.getElem?_set_self (by omega)]
  ·rw [List.getElem?_set_ne (by decide), List.getElem?_set_ne (by decide), List.getElem?_set_self (by simp only [List.length_set]; omega)]
  ·rw [List.getElem?_set_ne (by decide), List.getElem?_set_self (by simp only [List.length_set]; omega)]
  ·rw [List.getElem?_set_self (by simp only [List.length_set]; omega)]
 obtain ⟨L, hL⟩ : ∃ L, L = ((((f_reg (s_n o (n + 1))).set ((0 : Int32).toInt.toNat * 4) a).set ((0 : Int32).toInt.toNat * 4 + 1) b).set ((0 : Int32).toInt.toNat * 4 + 2) c).set ((0 : Int32).toInt.toNat * 4 + 3) d := ⟨_, rfl⟩
 have lL : L.length = 16 := by rw [hL]; simp only [List.length_set]; exact lr
 rw [← hL] at mT ⊢
 clear hL
 have hS2 := Sh_reg hS1 (x := L) lL
 have hH1 : (H ++ [(a, b, c, d)]).length = H.length + 1 := by rw [List.length_append]; rfl
 apply okP.bind
 refine okP.mono (P := fun (e : Int32 × Ob) => Sh C R S (n + 1) q e.2 ∧ (∀ x, x < q.toInt.toNat → Qo e.2 R S (H ++ [(a, b, c, d)]) x) ∧ e.1.toInt = cM S (H.length + 1) q.toInt.toNat) ?_ (fun e he => okP.some ⟨⟨n + 1, he.1, by omega, by omega, hq, lR, lS, he.2.1⟩, he.2.2⟩)
 refine okP.loop (fun v => 0 ≤ v.2.1.toInt ∧ v.2.1.toInt ≤ q.toInt ∧ Sh C R S (n + 1) q v.2.2 ∧ M4 (f_reg v.2.2) 0 (a, b, c, d) ∧ (∀ x, x < v.2.1.toInt.toNat → Qo v.2.2 R S (H ++ [(a, b, c, d)]) x) ∧ (∀ x, v.2.1.toInt.toNat ≤ x → x < q.toInt.toNat → Qo v.2.2 R S H x) ∧ v.1.toInt = cM S (H.length + 1) v.2.1.toInt.toNat) (fun v => (4 - v.2.1.toInt).toNat) ⟨by show (0 : Int) ≤ 0; decide, by show (0 : Int) ≤ q.toInt; omega, hS2, mT, fun x hx => absurd hx (Nat.not_lt_zero _), fun x _ hx => (hQ x hx).keep ((keep_n _ _ _).trans (keep_reg _ _ _)), rfl⟩ (by show (4 - (0 : Int)).toNat < 4000; decide) ?_
 rintro ⟨w, x, p⟩ ⟨x0, x1, hp, mp, hnew, hold, hw⟩
 simp only at x0 x1 hp mp hnew hold hw
 unfold B11_26
 simp only
 rw [Sh_Q hp]
 apply okP.ite <;> intro cc
 ·rw [i_lt] at cc
  have e2 : (x + 1).toInt = x.toInt + 1 := inc1 (by omega)
  have en : (x + 1).toInt.toNat = x.toInt.toNat + 1 := by omega
  obtain ⟨r, s, hr, hs, r1, s1, F, B, hFB, zq⟩ := hold x.toInt.toNat (Nat.le_refl _) (by omega)
  have ll := (lastr_len r.toInt.toNat H).1
  rw [← hFB] at ll
  apply okP.bind
  refine okP.mono (app_m hp x0 (by omega) zq mp hr r1.1 r1.2 (by omega)) ?_
  rintro p2 ⟨hp2, ⟨F', B', eF, zq2⟩, mp2, kp2⟩
  have eL : F' ++ B' = lastr r.toInt.toNat (H ++ [(a, b, c, d)]) := by
   rw [eF, lastr_snoc (by omega), ← hFB]
   congr 1
   by_cases q' : (F ++ B).length < r.toInt.toNat
   ·rw [if_pos q', if_pos (by omega)]
   ·rw [if_neg q', if_neg (by omega)]
  have g1 : S[x.toInt.toNat]?.getD 0 = s := by rw [hs]; rfl
  rw [Sh_S hp2, g0 x0 hs]
  simp only [Option.bind_some]
  rw [if_neg (by rw [i_lt, z1]; omega), Sh_N hp2]
  have qe : qrem (n + 1) s = some ((n + 1) % s) := by
   unfold qrem
   rw [if_neg (by rw [i_eq, z0]; omega)]
  rw [qe]
  simp only [Option.bind_some]
  have re := rem_i (x := n + 1) (y := s) (by omega) s1.1
  have nn : (n + 1).toInt.toNat = H.length + 1 := by omega
  rw [nn] at re
  have old2 : ∀ {u : Ob}, (∀ y, y ≠ x.toInt.toNat → Keep p2 u y) → ∀ y, x.toInt.toNat + 1 ≤ y → y < q.toInt.toNat → Qo u R S H y := fun k y y1 y2 => ((hold y (by omega) y2).keep (kp2 y (by omega))).keep (k y (by omega))
  have new2 : ∀ {u : Ob}, (∀ y, y ≠ x.toInt.toNat → Keep p2 u y) → ∀ y, y < x.toInt.toNat → Qo u R S (H ++ [(a, b, c, d)]) y := fun k y y1 => ((hnew y y1).keep (kp2 y (by omega))).keep (k y (by omega))
  unfold J11_75
  have cl := cM_le S (H.length + 1) x.toInt.toNat
  have w1 : (w + 1).toInt = w.toInt + 1 := inc1 (by omega)
  by_cases dv : (H.length + 1) % s.toInt.toNat = 0
  ·rw [if_pos (by rw [i_eq, re, dv]; rfl)]
   apply okP.bind
   refine okP.mono (snap_m hp2 x0 (by omega) zq2 mp2) ?_
   rintro p3 ⟨hp3, zq3, mp3, kp3⟩
   apply okP.some
   refine ⟨⟨by simp only; omega, by simp only; omega, hp3, mp3, ?_, ?_, ?_⟩, by simp only; omega⟩
   ·intro y hy
    simp only [en] at hy
    by_cases e : y = x.toInt.toNat
    ·rw [e]
     exact ⟨r, s, hr, hs, r1, s1, F', B', eL, by rw [SNv_hit dv, ← eL]; exact zq3⟩
    ·exact new2 kp3 y (by omega)
   ·intro y y1 y2
    simp only [en] at y1
    exact old2 kp3 y y1 y2
   ·simp only [en]
    rw [cM_s, show hit S (H.length + 1) x.toInt.toNat = true from by unfold hit; rw [g1, dv]; rfl, if_pos rfl, w1, hw]; rfl
  ·rw [if_neg (by rw [i_eq, re, z0]; omega)]
   apply okP.some
   refine ⟨⟨by simp only; omega, by simp only; omega, hp2, mp2, ?_, ?_, ?_⟩, by simp only; omega⟩
   ·intro y hy
    simp only [en] at hy
    by_cases e : y = x.toInt.toNat
    ·rw [e]
     exact ⟨r, s, hr, hs, r1, s1, F', B', eL, by rw [SNv_miss (by omega) dv]; exact zq2⟩
    ·exact new2 (fun y _ => Keep.refl _ _) y (by omega)
   ·intro y y1 y2
    simp only [en] at y1
    exact old2 (fun y _ => Keep.refl _ _) y y1 y2
   ·simp only [en]
    rw [cM_s, show hit S (H.length + 1) x.toInt.toNat = false from by unfold hit; rw [g1]; exact beq_false_of_ne dv]
    exact hw
 ·rw [i_lt] at cc
  have : x.toInt.toNat = q.toInt.toNat := by omega
  rw [this] at hnew hw
  exact okP.some ⟨hp, hnew, hw⟩
theorem reset_all {C : Int32} {R S : List Int32} {n q : Int32} {o : Ob} {B : Int32 × Ob → Option (Ob ⊕ (Int32 × Ob))} (hB : ∀ v, B v = (if v.1 < 4 then (F2 v.2 v.1).bind fun r => some (.inr (v.1 + 1, r)) else some (.inl v.2))) (h : Sh C R S n q o) : okP (loopN B qN (0, o)) (fun p => Sh C R S n q p ∧ ∀ x, x < 4 → Zq p x [] [] (1, 0, 0, 1)) := by
 refine okP.loop (fun v => 0 ≤ v.1.toInt ∧ v.1.toInt ≤ 4 ∧ Sh C R S n q v.2 ∧ ∀ x, x < v.1.toInt.toNat → Zq v.2 x [] [] (1, 0, 0, 1)) (fun v => (4 - v.1.toInt).toNat) ⟨by show (0 : Int) ≤ 0; decide, by show (0 : Int) ≤ 4; decide, h, fun x hx => absurd hx (Nat.not_lt_zero _)⟩ (by show (4 - (0 : Int)).toNat < 4000; decide) ?_
 rintro ⟨i, p⟩ ⟨i0, i1, hp, hz⟩
 simp only at i0 i1 hp hz
 rw [hB]
 simp only
 apply okP.ite <;> intro c
 ·rw [i_lt, z4'] at c
  have e2 : (i + 1).toInt = i.toInt + 1 := inc1 (by omega)
  have en : (i + 1).toInt.toNat = i.toInt.toNat + 1 := by omega
  apply okP.bind
  refine okP.mono (reset_m hp i0 c) ?_
  rintro r ⟨hr, zr, kr⟩
  apply okP.some
  refine ⟨⟨by simp only; omega, by simp only; omega, hr, ?_⟩, by simp only; omega⟩
  intro x hx
  simp only [en] at hx
  by_cases e : x = i.toInt.toNat
  ·rw [e]; exact zr
  ·exact (hz x (by omega)).keep (kr x e)
 ·rw [i_lt, z4'] at c
  have : i.toInt.toNat = 4 := by omega
  rw [this] at hz
  exact okP.some ⟨hp, hz⟩
theorem SNv_nil (r s : Nat) : SNv r s [] = (1, 0, 0, 1) := by
 unfold SNv lastr
 simp [prod]
theorem lastr_nil (r : Nat) : lastr r [] = [] := by
 unfold lastr; simp
def RS (R S : List Int32) (q : Int32) : Prop := (0 ≤ q.toInt ∧ q.toInt ≤ 4) ∧ R.length = 4 ∧ S.length = 4 ∧ ∀ x, x < q.toInt.toNat → ∃ r s : Int32, R[x]? = some r ∧ S[x]? = some s ∧ (1 ≤ r.toInt ∧ r.toInt ≤ 32) ∧ (1 ≤ s.toInt ∧ s.toInt ≤ 32)
theorem St.rs {C : Int32} {R S : List Int32} {q : Int32} {H : List MX} {o : Ob} (h : St C R S q H o) : RS R S q := by
 obtain ⟨n, hS, hn, _, hq, lR, lS, hQ⟩ := h
 refine ⟨hq, lR, lS, fun x hx => ?_⟩
 obtain ⟨r, s, h1, h2, h3, h4, _⟩ := hQ x hx
 exact ⟨r, s, h1, h2, h3, h4⟩
theorem St_empty {C : Int32} {R S : List Int32} {q : Int32} {p : Ob} (rs : RS R S q) (h : Sh C R S 0 q p) (hz : ∀ x, x < q.toInt.toNat → Zq p x [] [] (1, 0, 0, 1)) : St C R S q [] p := by
 obtain ⟨hq, lR, lS, hx⟩ := rs
 refine ⟨0, h, rfl, by decide, hq, lR, lS, fun x hx' => ?_⟩
 obtain ⟨r, s, h1, h2, h3, h4⟩ := hx x hx'
 exact ⟨r, s, h1, h2, h3, h4, [], [], by rw [lastr_nil]; rfl, by rw [SNv_nil]; exact hz x hx'⟩
theorem clear_m {C : Int32} {R S : List Int32} {q : Int32} {H : List MX} {o : Ob} (h : St C R S q H o) : okP (F9 o) (fun p => St C R S q [] p) := by
 have rs := h.rs
 obtain ⟨n, hS, hn, _, hq, lR, lS, hQ⟩ := h
 have hS1 : Sh C R S 0 q (s_n o 0) := by
  dsimp only [Sh, f_regTuple, f_regA, f_regB, f_regC, f_regCount, f_slots, f_range, f_slide, f_frontSize, f_backSize, f_backElem, f_frontAgg, f_backAgg, f_snap, f_reg, f_capacity, f_queries, f_n, s_n] at hS ⊢
  obtain ⟨y1, y2, y3, y4, y5, y6, y7, y8, y9, y10, y11, y12⟩ := hS
  exact ⟨y1, y2, y3, y4, y5, y6, y7, y8, y9, rfl, y11, y12⟩
 unfold F9
 apply okP.bind
 refine okP.mono (reset_all (fun _ => rfl) hS1) ?_
 rintro p ⟨hp, hz⟩
 exact okP.some (St_empty rs hp (fun x hx => hz x (by omega)))
theorem add_m {C : Int32} {R S : List Int32} {q : Int32} {H : List MX} {o : Ob} (h : St C R S q H o) (c4 : C.toInt ≤ 4) (x y : Int32) : okP (F10 o x y) (fun r => if H = [] ∧ q.toInt < C.toInt ∧ (1 ≤ x.toInt ∧ x.toInt ≤ 32) ∧ (1 ≤ y.toInt ∧ y.toInt ≤ 32) then r.1 = q ∧ St C (R.set q.toInt.toNat x) (S.set q.toInt.toNat y) (q + 1) [] r.2 else r = (-1, o)) := by
 have z0 : (0 : Int32).toInt = 0 := rfl
 have z1 : (1 : Int32).toInt = 1 := rfl
 have z32 : (32 : Int32).toInt = 32 := rfl
 obtain ⟨n, hS, hn, _, hq, lR, lS, hQ⟩ := h
 unfold F10
 rw [Sh_N hS, Sh_Q hS, Sh_C hS]
 by_cases a0 : n = 0
 ·rw [if_pos a0]
  subst a0
  have hH : H = [] := List.eq_nil_of_length_eq_zero (by rw [z0] at hn; omega)
  subst hH
  by_cases a1 : q < C
  ·rw [if_pos a1]
   rw [i_lt] at a1
   by_cases a2 : x < 1
   ·rw [if_pos a2]; rw [i_lt, z1] at a2
    exact okP.some (by rw [if_neg (by omega)])
   rw [if_neg a2]; rw [i_lt, z1] at a2
   by_cases a3 : 32 < x
   ·rw [if_pos a3]; rw [i_lt, z32] at a3
    exact okP.some (by rw [if_neg (by omega)])
   rw [if_neg a3]; rw [i_lt, z32] at a3
   by_cases a4 : y < 1
   ·rw [if_pos a4]; rw [i_lt, z1] at a4
    exact okP.some (by rw [if_neg (by omega)])
   rw [if_neg a4]; rw [i_lt, z1] at a4
   by_cases a5 : 32 < y
   ·rw [if_pos a5]; rw [i_lt, z32] at a5
    exact okP.some (by rw [if_neg (by omega)])
   rw [if_neg a5]; rw [i_lt, z32] at a5
   refine okP.mono (P := fun r => r.1 = q ∧ St C (R.set q.toInt.toNat x) (S.set q.toInt.toNat y) (q + 1) [] r.2) ?_ (fun r hr => by rw [if_pos (show ([] : List MX) = [] ∧ q.toInt < C.toInt ∧ (1 ≤ x.toInt ∧ x.toInt ≤ 32) ∧ (1 ≤ y.toInt ∧ y.toInt ≤ 32) from ⟨rfl, by omega, by omega, by omega⟩)]; exact hr)
   rw [Sh_R hS, Sh_S hS, aset_at (n := q.toInt.toNat) (by omega) (by omega)]
   simp only [Option.bind_some]
   rw [aset_at (n := q.toInt.toNat) (by omega) (by omega)]
   simp only [Option.bind_some]
   have hS1 : Sh C (R.set q.toInt.toNat x) (S.set q.toInt.toNat y) 0 q (s_slide (s_range o (R.set q.toInt.toNat x)) (S.set q.toInt.toNat y)) := by
    dsimp only [Sh, f_regTuple, f_regA, f_regB, f_regC, f_regCount, f_slots, f_range, f_slide, f_frontSize, f_backSize, f_backElem, f_frontAgg, f_backAgg, f_snap, f_reg, f_capacity, f_queries, f_n, s_slide, s_range] at hS ⊢
    obtain ⟨y1, y2, y3, y4, y5, y6, y7, y8, y9, y10, y11, y12⟩ := hS
    exact ⟨y1, y2, y3, y4, y5, y6, y7, rfl, rfl, y10, y11, y12⟩
   apply okP.bind
   refine okP.mono (reset_m hS1 hq.1 (by omega)) ?_
   rintro p ⟨hp, zp, kp⟩
   apply okP.some
   have q1 : (q + 1).toInt = q.toInt + 1 := inc1 (by omega)
   refine ⟨rfl, ?_⟩
   rw [Sh_Q hp]
   have hp2 : Sh C (R.set q.toInt.toNat x) (S.set q.toInt.toNat y) 0 (q + 1) (s_queries p (q + 1)) := by
    dsimp only [Sh, f_regTuple, f_regA, f_regB, f_regC, f_regCount, f_slots, f_range, f_slide, f_frontSize, f_backSize, f_backElem, f_frontAgg, f_backAgg, f_snap, f_reg, f_capacity, f_queries, f_n, s_queries] at hp ⊢
    obtain ⟨y1, y2, y3, y4, y5, y6, y7, y8, y9, y10, y11, y12⟩ := hp
    exact ⟨y1, y2, y3, y4, y5, y6, y7, y8, y9, y10, rfl, y12⟩
   refine St_empty ⟨⟨by omega, by omega⟩, by rw [List.length_set]; exact lR, by rw [List.length_set]; exact lS, fun k hk => ?_⟩ hp2 (fun k hk => ?_)
   ·by_cases e : q.toInt.toNat = k
    ·subst e
     exact ⟨x, y, by rw [List.getElem?_set_self (by omega)], by rw [List.getElem?_set_self (by omega)], by omega, by omega⟩
    ·obtain ⟨r, s, h1, h2, h3, h4, _⟩ := hQ k (by omega)
     exact ⟨r, s, by rw [List.getElem?_set_ne e]; exact h1, by rw [List.getElem?_set_ne e]; exact h2, h3, h4⟩
   ·by_cases e : q.toInt.toNat = k
    ·subst e
     exact zp.keep (keep_q _ _ _)
    ·obtain ⟨r, s, h1, h2, h3, h4, F, B, hFB, zq⟩ := hQ k (by omega)
     rw [lastr_nil] at hFB
     rw [SNv_nil] at zq
     obtain ⟨e1, e2⟩ := List.append_eq_nil_iff.1 hFB
     subst e1
     subst e2
     exact ((zq.keep (keep_rs _ _ _ _)).keep (kp k (fun e' => e e'.symm))).keep (keep_q _ _ _)
  ·rw [if_neg a1]
   rw [i_lt] at a1
   exact okP.some (by rw [if_neg (by omega)])
 ·rw [if_neg a0]
  refine okP.some ?_
  rw [if_neg]
  rintro ⟨q1, _⟩
  rw [q1] at hn
  exact a0 (by rw [i_eq, z0, hn]; rfl)
theorem init_m {x c : Int32} (hc : c = (if (4 : Int32) < (if x < 1 then 1 else x) then 4 else (if x < 1 then 1 else x))) : okP (F1 x) (fun p => St c (List.replicate 4 0) (List.replicate 4 0) 0 [] p) := by
 unfold F1
 rw [← hc]
 apply okP.bind
 refine okP.mono (reset_all (C := c) (R := List.replicate 4 0) (S := List.replicate 4 0) (n := 0) (q := 0) (fun _ => rfl) ?_) ?_
 ·dsimp only [Sh, f_regTuple, f_regA, f_regB, f_regC, f_regCount, f_slots, f_range, f_slide, f_frontSize, f_backSize, f_backElem, f_frontAgg, f_backAgg, f_snap, f_reg, f_capacity, f_queries, f_n, s_regTuple, s_regA, s_regB, s_regC, s_regCount, s_slots, s_range, s_slide, s_frontSize, s_backSize, s_backElem, s_frontAgg, s_backAgg, s_snap, s_reg, s_capacity, s_queries, s_n]
  exact ⟨List.length_replicate, List.length_replicate, List.length_replicate, List.length_replicate, List.length_replicate, List.length_replicate, List.length_replicate, rfl, rfl, rfl, rfl, rfl⟩
 rintro p ⟨hp, hz⟩
 exact okP.some (St_empty ⟨⟨by decide, by decide⟩, List.length_replicate, List.length_replicate, fun k hk => absurd hk (Nat.not_lt_zero _)⟩ hp (fun k hk => absurd hk (Nat.not_lt_zero _)))
def ent (m : MX) (k : Int32) : Int32 := if k = 0 then m.1 else if k = 1 then m.2.1 else if k = 2 then m.2.2.1 else m.2.2.2
theorem M4_get {l : List Int32} {U : Nat} {m : MX} (h : M4 l U m) {j k : Int32} (hk : 0 ≤ k.toInt ∧ k.toInt ≤ 3) (hj : j.toInt = U + k.toInt) : aget l j = some (ent m k) := by
 obtain ⟨m1, m2, m3, m4⟩ := h
 have four : k = 0 ∨ k = 1 ∨ k = 2 ∨ k = 3 := small_cases (P := fun k => k = 0 ∨ k = 1 ∨ k = 2 ∨ k = 3) hk.1 (n := 4) (by omega) (by decide)
 rcases four with e | e | e | e <;> subst e
 ·exact g0 (by omega) (by rw [show j.toInt.toNat = U by rw [hj]; show ((U : Int) + 0).toNat = U; omega]; exact m1)
 ·exact g0 (by omega) (by rw [show j.toInt.toNat = U + 1 by rw [hj]; show ((U : Int) + 1).toNat = U + 1; omega]; exact m2)
 ·exact g0 (by omega) (by rw [show j.toInt.toNat = U + 2 by rw [hj]; show ((U : Int) + 2).toNat = U + 2; omega]; exact m3)
 ·exact g0 (by omega) (by rw [show j.toInt.toNat = U + 3 by rw [hj]; show ((U : Int) + 3).toNat = U + 3; omega]; exact m4)
theorem vq {C : Int32} {R S : List Int32} {n q : Int32} {o : Ob} (h : Sh C R S n q o) (hq : q.toInt ≤ 4) (x : Int32) : F27 o x = some (if 0 ≤ x.toInt ∧ x.toInt < q.toInt then 1 else 0) := by
 have z0 : (0 : Int32).toInt = 0 := rfl
 unfold F27
 rw [Sh_Q h]
 by_cases a : x < 0
 ·rw [if_pos a, if_neg (by rw [i_lt, z0] at a; omega)]
 rw [if_neg a]
 rw [i_lt, z0] at a
 by_cases b : x < q
 ·rw [if_pos b]
  rw [i_lt] at b
  rw [if_pos (by rw [i_lt, z4']; omega), if_pos ⟨by omega, b⟩]
 ·rw [if_neg b, if_neg (by rw [i_lt] at b; omega)]
theorem ve (k : Int32) : F36 k = some (if 0 ≤ k.toInt ∧ k.toInt ≤ 3 then 1 else 0) := by
 have z0 : (0 : Int32).toInt = 0 := rfl
 have z3 : (3 : Int32).toInt = 3 := rfl
 unfold F36
 by_cases a : k < 0
 ·rw [if_pos a, if_neg (by rw [i_lt, z0] at a; omega)]
 rw [if_neg a]
 rw [i_lt, z0] at a
 by_cases b : 3 < k
 ·rw [if_pos b, if_neg (by rw [i_lt, z3] at b; omega)]
 ·rw [if_neg b, if_pos (by rw [i_lt, z3] at b; omega)]
def rq (R : List Int32) (x : Int32) : Int32 := (R[x.toInt.toNat]?).getD 0
abbrev isQ (q x : Int32) : Prop := 0 ≤ x.toInt ∧ x.toInt < q.toInt
theorem res_m {C : Int32} {R S : List Int32} {q : Int32} {H : List MX} {o : Ob} (h : St C R S q H o) (x k : Int32) : F35 o x k = some (if isQ q x ∧ (0 ≤ k.toInt ∧ k.toInt ≤ 3) then ent (SNv (rq R x).toInt.toNat (rq S x).toInt.toNat H) k else 0) := by
 obtain ⟨n, hS, hn, _, hq, lR, lS, hQ⟩ := h
 unfold F35
 rw [vq hS hq.2]
 simp only [Option.bind_some]
 by_cases a : 0 ≤ x.toInt ∧ x.toInt < q.toInt
 ·rw [if_pos a, if_neg (by decide), ve]
  simp only [Option.bind_some]
  by_cases b : 0 ≤ k.toInt ∧ k.toInt ≤ 3
  ·obtain ⟨r, s, h1, h2, h3, h4, F, B, hFB, zq⟩ := hQ x.toInt.toNat (by omega)
   have e := m4 a.1 (by omega)
   have er : rq R x = r := by unfold rq; rw [h1]; rfl
   have es : rq S x = s := by unfold rq; rw [h2]; rfl
   rw [if_pos b, if_neg (by decide), if_pos ⟨a, b⟩, er, es, M4_get zq.2.2.2.2.2.1 b (by rw [i_add (by omega) (by omega), e]; omega)]
   rfl
  ·rw [if_neg b, if_pos rfl, if_neg (fun q => b q.2)]
 ·rw [if_neg a, if_pos rfl, if_neg (fun q => a q.1)]
theorem live_m {C : Int32} {R S : List Int32} {q : Int32} {H : List MX} {o : Ob} (h : St C R S q H o) (x k : Int32) : okP (F37 o x k) (fun z => z.1 = (if isQ q x ∧ (0 ≤ k.toInt ∧ k.toInt ≤ 3) then ent (prod (lastr (rq R x).toInt.toNat H)) k else 0) ∧ St C R S q H z.2) := by
 have h' := h
 obtain ⟨n, hS, hn, hH, hq, lR, lS, hQ⟩ := h
 unfold F37
 rw [vq hS hq.2]
 simp only [Option.bind_some]
 by_cases a : 0 ≤ x.toInt ∧ x.toInt < q.toInt
 ·rw [if_pos a, if_neg (by decide), ve]
  simp only [Option.bind_some]
  by_cases b : 0 ≤ k.toInt ∧ k.toInt ≤ 3
  ·obtain ⟨r, s, h1, h2, h3, h4, F, B, hFB, zq⟩ := hQ x.toInt.toNat (by omega)
   have er : rq R x = r := by unfold rq; rw [h1]; rfl
   rw [if_pos b, if_neg (by decide), er]
   obtain ⟨T, hT⟩ := M4_ex (l := f_reg o) (k := 0) (by have := Sh_l_reg hS; omega)
   apply okP.bind
   refine okP.mono (fold_m hS a.1 (by omega) zq hT) ?_
   rintro _ ⟨L, rfl, lL, mL, mT⟩
   have e12 : (3 * 4 + k : Int32).toInt = 12 + k.toInt := by
    have z12 : (3 * 4 : Int32).toInt = 12 := rfl
    rw [i_add (by rw [z12]; omega) (by rw [z12]; omega), z12]
   have gr : F38 (s_reg o L) 3 k = some (ent (prod (F ++ B)) k) := by
    unfold F38
    rw [vr (u := 3) (by decide) (by decide), ve]
    simp only [Option.bind_some]
    rw [if_neg (by decide), if_pos b, if_neg (by decide)]
    have rl : f_reg (s_reg o L) = L := by dsimp only [f_regTuple, f_regA, f_regB, f_regC, f_regCount, f_slots, f_range, f_slide, f_frontSize, f_backSize, f_backElem, f_frontAgg, f_backAgg, f_snap, f_reg, f_capacity, f_queries, f_n, s_reg]
    rw [rl, M4_get mL b e12]
    rfl
   rw [gr]
   simp only [Option.bind_some]
   refine okP.some ⟨by rw [if_pos ⟨a, b⟩, hFB], n, Sh_reg hS (x := L) lL, hn, hH, hq, lR, lS, fun y hy => (hQ y hy).keep (keep_reg _ _ _)⟩
  ·rw [if_neg b, if_pos rfl]
   exact okP.some ⟨by rw [if_neg (fun q => b q.2)], h'⟩
 ·rw [if_neg a, if_pos rfl]
  exact okP.some ⟨by rw [if_neg (fun q => a q.1)], h'⟩
theorem rng_m {C : Int32} {R S : List Int32} {q : Int32} {H : List MX} {o : Ob} (h : St C R S q H o) (x : Int32) : F26 o x = some (if isQ q x then rq R x else -1) := by
 obtain ⟨n, hS, hn, hH, hq, lR, lS, hQ⟩ := h
 unfold F26
 rw [vq hS hq.2]
 simp only [Option.bind_some]
 by_cases a : 0 ≤ x.toInt ∧ x.toInt < q.toInt
 ·obtain ⟨r, s, h1, h2, h3, h4, _⟩ := hQ x.toInt.toNat (by omega)
  have er : rq R x = r := by unfold rq; rw [h1]; rfl
  rw [if_pos a, if_neg (by decide), if_pos a, Sh_R hS, g0 a.1 h1, er]; rfl
 ·rw [if_neg a, if_pos rfl, if_neg a]
theorem sld_m {C : Int32} {R S : List Int32} {q : Int32} {H : List MX} {o : Ob} (h : St C R S q H o) (x : Int32) : F28 o x = some (if isQ q x then rq S x else -1) := by
 obtain ⟨n, hS, hn, hH, hq, lR, lS, hQ⟩ := h
 unfold F28
 rw [vq hS hq.2]
 simp only [Option.bind_some]
 by_cases a : 0 ≤ x.toInt ∧ x.toInt < q.toInt
 ·obtain ⟨r, s, h1, h2, h3, h4, _⟩ := hQ x.toInt.toNat (by omega)
  have er : rq S x = s := by unfold rq; rw [h2]; rfl
  rw [if_pos a, if_neg (by decide), if_pos a, Sh_S hS, g0 a.1 h2, er]; rfl
 ·rw [if_neg a, if_pos rfl, if_neg a]
theorem div_i {x y : Int32} (hx : 0 ≤ x.toInt) (hy : 1 ≤ y.toInt) : (x / y).toInt = (x.toInt.toNat / y.toInt.toNat : Nat) := by
 have hi := i_hi x
 have e1 : x.toInt = (x.toInt.toNat : Int) := by omega
 have e2 : y.toInt = (y.toInt.toNat : Int) := by omega
 have le : x.toInt.toNat / y.toInt.toNat ≤ x.toInt.toNat := Nat.div_le_self _ _
 rw [Int32.toInt_div, Int.tdiv_eq_ediv_of_nonneg hx, e1, e2]
 have : ((x.toInt.toNat : Int) / (y.toInt.toNat : Int)) = ((x.toInt.toNat / y.toInt.toNat : Nat) : Int) := by simp
 rw [this]
 simp only [Int.toNat_natCast]
 obtain ⟨w, hw⟩ : ∃ w, w = x.toInt.toNat / y.toInt.toNat := ⟨_, rfl⟩
 rw [← hw] at le ⊢
 exact Int.bmod_eq_of_le (by omega) (by omega)
theorem end_m {C : Int32} {R S : List Int32} {q n : Int32} {H : List MX} {o : Ob} (h : St C R S q H o) {x : Int32} (a : isQ q x) : ∃ e d : Int32, F32 o x = some e ∧ e.toInt = ((rq S x).toInt.toNat * (H.length / (rq S x).toInt.toNat) : Nat) ∧ d.toInt = (H.length / (rq S x).toInt.toNat : Nat) ∧ F34 o x = some d ∧ (1 ≤ (rq S x).toInt ∧ (rq S x).toInt ≤ 32) ∧ (1 ≤ (rq R x).toInt ∧ (rq R x).toInt ≤ 32) ∧ R[x.toInt.toNat]? = some (rq R x) := by
 obtain ⟨n, hS, hn, hH, hq, lR, lS, hQ⟩ := h
 have z0 : (0 : Int32).toInt = 0 := rfl
 have z1 : (1 : Int32).toInt = 1 := rfl
 obtain ⟨r, s, h1, h2, h3, h4, _⟩ := hQ x.toInt.toNat (by omega)
 have es : rq S x = s := by unfold rq; rw [h2]; rfl
 have er : rq R x = r := by unfold rq; rw [h1]; rfl
 rw [es, er]
 have dv := div_i (x := n) (y := s) (by omega) h4.1
 rw [hn, Int.toNat_natCast] at dv
 have qe : qdiv n s = some (n / s) := by
  unfold qdiv
  rw [if_neg (by rw [i_eq, z0]; omega)]
 have le : s.toInt.toNat * (H.length / s.toInt.toNat) ≤ H.length := Nat.mul_div_le _ _
 have le2 : H.length / s.toInt.toNat ≤ H.length := Nat.div_le_self _ _
 have mu : s.toInt * (n / s).toInt = (s.toInt.toNat * (H.length / s.toInt.toNat) : Nat) := by
  rw [dv]
  have : s.toInt = (s.toInt.toNat : Int) := by omega
  rw [this]
  simp
 refine ⟨s * (n / s), n / s, ?_, ?_, dv, ?_, h4, h3, h1⟩
 ·unfold F32
  rw [Sh_S hS, g0 a.1 h2]
  simp only [Option.bind_some]
  rw [if_neg (by rw [i_lt, z1]; omega), Sh_N hS, qe]
  rfl
 ·rw [i_mul (by omega) (by omega), mu]
 ·unfold F34
  rw [vq hS hq.2]
  simp only [Option.bind_some]
  rw [if_pos a, if_neg (by decide), Sh_S hS, g0 a.1 h2]
  simp only [Option.bind_some]
  rw [if_neg (by rw [i_lt, z1]; omega), Sh_N hS, qe]
  rfl
def nV (H : List MX) : Int32 := Int32.ofInt H.length
def eV (S : List Int32) (H : List MX) (x : Int32) : Int32 := rq S x * (nV H / rq S x)
theorem nV_i {H : List MX} (h : H.length ≤ 1000) : (nV H).toInt = H.length := by
 unfold nV
 rw [Int32.toInt_ofInt_of_le (by show _ ≤ (H.length : Int); omega) (by show (H.length : Int) < _; omega)]
theorem eV_i {s : Int32} (s1 : 1 ≤ s.toInt ∧ s.toInt ≤ 32) {H : List MX} (h : H.length ≤ 1000) : (s * (nV H / s)).toInt = (s.toInt.toNat * (H.length / s.toInt.toNat) : Nat) ∧ (nV H / s).toInt = (H.length / s.toInt.toNat : Nat) := by
 have e := nV_i h
 have dv := div_i (x := nV H) (y := s) (by omega) s1.1
 rw [e, Int.toNat_natCast] at dv
 have le : s.toInt.toNat * (H.length / s.toInt.toNat) ≤ H.length := Nat.mul_div_le _ _
 have mu : s.toInt * (nV H / s).toInt = (s.toInt.toNat * (H.length / s.toInt.toNat) : Nat) := by
  rw [dv]
  have : s.toInt = (s.toInt.toNat : Int) := by omega
  rw [this]
  simp
 refine ⟨?_, dv⟩
 obtain ⟨w, hw⟩ : ∃ w, w = s.toInt.toNat * (H.length / s.toInt.toNat) := ⟨_, rfl⟩
 rw [← hw] at le mu ⊢
 rw [i_mul (by omega) (by omega), mu]
theorem endV {C : Int32} {R S : List Int32} {q : Int32} {H : List MX} {o : Ob} (h : St C R S q H o) {x : Int32} (a : isQ q x) : F32 o x = some (eV S H x) := by
 obtain ⟨n, hS, hn, hH, hq, lR, lS, hQ⟩ := h
 have z0 : (0 : Int32).toInt = 0 := rfl
 have z1 : (1 : Int32).toInt = 1 := rfl
 obtain ⟨r, s, h1, h2, h3, h4, _⟩ := hQ x.toInt.toNat (by omega)
 have es : rq S x = s := by unfold rq; rw [h2]; rfl
 have en : nV H = n := by rw [i_eq, nV_i hH, hn]
 have qe : qdiv n s = some (n / s) := by
  unfold qdiv
  rw [if_neg (by rw [i_eq, z0]; omega)]
 unfold F32 eV
 rw [es, en, Sh_S hS, g0 a.1 h2]
 simp only [Option.bind_some]
 rw [if_neg (by rw [i_lt, z1]; omega), Sh_N hS, qe]
 rfl
theorem wend_m {C : Int32} {R S : List Int32} {q : Int32} {H : List MX} {o : Ob} (h : St C R S q H o) (x : Int32) : F33 o x = some (if isQ q x then eV S H x else -1) := by
 unfold F33
 have h' := h
 obtain ⟨n, hS, hn, hH, hq, lR, lS, hQ⟩ := h'
 rw [vq hS hq.2]
 simp only [Option.bind_some]
 by_cases a : isQ q x
 ·rw [if_pos a, if_neg (by decide), if_pos a, endV h a]; rfl
 ·rw [if_neg a, if_pos rfl, if_neg a]
theorem wsta_m {C : Int32} {R S : List Int32} {q : Int32} {H : List MX} {o : Ob} (h : St C R S q H o) (x : Int32) : F31 o x = some (if isQ q x then (if eV S H x - rq R x < 0 then 0 else eV S H x - rq R x) else -1) := by
 unfold F31
 have h' := h
 obtain ⟨n, hS, hn, hH, hq, lR, lS, hQ⟩ := h'
 rw [vq hS hq.2]
 simp only [Option.bind_some]
 by_cases a : isQ q x
 ·obtain ⟨r, s, h1, h2, h3, h4, _⟩ := hQ x.toInt.toNat (by omega)
  have er : rq R x = r := by unfold rq; rw [h1]; rfl
  rw [if_pos a, if_neg (by decide), if_pos a, endV h a]
  simp only [Option.bind_some]
  rw [Sh_R hS, g0 a.1 h1, er]
  simp only [Option.bind_some]
  by_cases c : eV S H x - r < 0
  ·rw [if_pos c, if_pos c]
  ·rw [if_neg c, if_neg c]
 ·rw [if_neg a, if_pos rfl, if_neg a]
theorem evl_m {C : Int32} {R S : List Int32} {q : Int32} {H : List MX} {o : Ob} (h : St C R S q H o) (x : Int32) : F34 o x = some (if isQ q x then nV H / rq S x else -1) := by
 unfold F34
 obtain ⟨n, hS, hn, hH, hq, lR, lS, hQ⟩ := h
 have z0 : (0 : Int32).toInt = 0 := rfl
 have z1 : (1 : Int32).toInt = 1 := rfl
 rw [vq hS hq.2]
 simp only [Option.bind_some]
 by_cases a : isQ q x
 ·obtain ⟨r, s, h1, h2, h3, h4, _⟩ := hQ x.toInt.toNat (by omega)
  have es : rq S x = s := by unfold rq; rw [h2]; rfl
  have en : nV H = n := by rw [i_eq, nV_i hH, hn]
  have qe : qdiv n s = some (n / s) := by
   unfold qdiv
   rw [if_neg (by rw [i_eq, z0]; omega)]
  rw [if_pos a, if_neg (by decide), if_pos a, Sh_S hS, g0 a.1 h2, es, en]
  simp only [Option.bind_some]
  rw [if_neg (by rw [i_lt, z1]; omega), Sh_N hS, qe]
  rfl
 ·rw [if_neg a, if_pos rfl, if_neg a]
theorem tup_m {C : Int32} {R S : List Int32} {q : Int32} {H : List MX} {o : Ob} (h : St C R S q H o) : F30 o = some (nV H) := by
 obtain ⟨n, hS, hn, hH, _⟩ := h
 unfold F30
 rw [Sh_N hS, show nV H = n by rw [i_eq, nV_i hH, hn]]
theorem qct_m {C : Int32} {R S : List Int32} {q : Int32} {H : List MX} {o : Ob} (h : St C R S q H o) : F25 o = some q := by
 obtain ⟨n, hS, _⟩ := h
 unfold F25
 rw [Sh_Q hS]

def Zr (R S : List Int32) (q : Int32) : Prop := ∀ x : Nat, q.toInt.toNat ≤ x → x < 4 → R[x]? = some 0 ∧ S[x]? = some 0
theorem step_u {R S : List Int32} {q : Int32} {H : List MX} (rs : RS R S q) (zr : Zr R S q) (hH : H.length < 1000) (op a b c d : Int32) : ∃ R' S' q' H' v, Zr R' S' q' ∧ H'.length ≤ H.length + 1 ∧ ∀ o, St 4 R S q H o → okP (F8 o op a b c d) (fun z => z.1 = v ∧ St 4 R' S' q' H' z.2) := by
 by_cases o0 : op = 0
 ·by_cases cd : H = [] ∧ q.toInt < (4 : Int32).toInt ∧ (1 ≤ a.toInt ∧ a.toInt ≤ 32) ∧ (1 ≤ b.toInt ∧ b.toInt ≤ 32)
  ·refine ⟨R.set q.toInt.toNat a, S.set q.toInt.toNat b, q + 1, [], q, ?_, by simp, fun o ho => ?_⟩
   ·intro x x0 x1
    have q4 : q.toInt < 4 := cd.2.1
    have := rs.1
    have q1 : (q + 1).toInt = q.toInt + 1 := inc1 (by omega)
    obtain ⟨h1, h2⟩ := zr x (by omega) x1
    exact ⟨by rw [List.getElem?_set_ne (by omega)]; exact h1, by rw [List.getElem?_set_ne (by omega)]; exact h2⟩
   ·unfold F8
    rw [if_pos o0]
    apply okP.bind
    refine okP.mono (add_m ho (by decide) a b) ?_
    rintro ⟨r, p⟩ hp
    rw [if_pos cd] at hp
    exact okP.some hp
  ·refine ⟨R, S, q, H, -1, zr, by omega, fun o ho => ?_⟩
   unfold F8
   rw [if_pos o0]
   apply okP.bind
   refine okP.mono (add_m ho (by decide) a b) ?_
   rintro ⟨r, p⟩ hp
   rw [if_neg cd] at hp
   cases hp
   exact okP.some ⟨rfl, ho⟩
 by_cases o3 : op = 3
 ·refine ⟨R, S, q, [], 0, zr, by simp, fun o ho => ?_⟩
  unfold F8
  rw [if_neg o0, if_pos o3]
  apply okP.bind
  refine okP.mono (clear_m ho) ?_
  intro p hp
  exact okP.some ⟨rfl, hp⟩
 ·refine ⟨R, S, q, H ++ [(a, b, c, d)], Int32.ofInt (cM S (H.length + 1) q.toInt.toNat : Nat), zr, by rw [List.length_append]; exact Nat.le_refl _, fun o ho => ?_⟩
  unfold F8
  rw [if_neg o0, if_neg o3]
  apply okP.bind
  refine okP.mono (push_m ho hH a b c d) ?_
  rintro ⟨r, p⟩ ⟨hp, hr⟩
  refine okP.some ⟨?_, hp⟩
  simp only at hr ⊢
  rw [← hr, Int32.ofInt_toInt]
theorem same_in {R S : List Int32} {q : Int32} {H : List MX} {a b : Ob} (ha : St 4 R S q H a) (hb : St 4 R S q H b) (x : Int32) : okP (loopN (B29_104 x) qN (0, a, b)) (fun e => ∃ p r, e = .inl (p, r) ∧ St 4 R S q H p ∧ St 4 R S q H r) := by
 refine okP.loop (fun v => 0 ≤ v.1.toInt ∧ v.1.toInt ≤ 4 ∧ St 4 R S q H v.2.1 ∧ St 4 R S q H v.2.2) (fun v => (4 - v.1.toInt).toNat) ⟨by show (0 : Int) ≤ 0; decide, by show (0 : Int) ≤ 4; decide, ha, hb⟩ (by show (4 - (0 : Int)).toNat < 4000; decide) ?_
 rintro ⟨k, p, r⟩ ⟨k0, k1, hp, hr⟩
 simp only at k0 k1 hp hr
 unfold B29_104
 simp only
 apply okP.ite <;> intro c
 ·rw [i_lt, z4'] at c
  have e2 : (k + 1).toInt = k.toInt + 1 := inc1 (by omega)
  rw [res_m hp, res_m hr]
  simp only [Option.bind_some, if_true]
  apply okP.bind
  refine okP.mono (live_m hp x k) ?_
  rintro ⟨u, p2⟩ ⟨hu, hp2⟩
  apply okP.bind
  refine okP.mono (live_m hr x k) ?_
  rintro ⟨w, r2⟩ ⟨hw, hr2⟩
  simp only at hu hp2 hw hr2 ⊢
  rw [if_pos (by rw [hu, hw])]
  exact okP.some ⟨⟨by simp only; omega, by simp only; omega, hp2, hr2⟩, by simp only; omega⟩
 ·exact okP.some ⟨p, r, rfl, hp, hr⟩
theorem same_ok {R S : List Int32} {q : Int32} {H : List MX} {a b : Ob} (ha : St 4 R S q H a) (hb : St 4 R S q H b) : okP (F29 a b) (fun e => e.1 = 1 ∧ St 4 R S q H e.2.1 ∧ St 4 R S q H e.2.2) := by
 have z5 : (5 : Int32).toInt = 5 := rfl
 unfold F29
 rw [qct_m ha, qct_m hb, tup_m ha, tup_m hb]
 simp only [Option.bind_some, if_true]
 apply okP.bind
 refine okP.mono (P := fun (e : Int32 × Ob × Ob) => e.1 = 1 ∧ St 4 R S q H e.2.1 ∧ St 4 R S q H e.2.2) ?_ (fun e he => okP.some he)
 refine okP.loop (fun v => 0 ≤ v.1.toInt ∧ v.1.toInt ≤ 5 ∧ St 4 R S q H v.2.1 ∧ St 4 R S q H v.2.2) (fun v => (5 - v.1.toInt).toNat) ⟨by show (0 : Int) ≤ 0; decide, by show (0 : Int) ≤ 5; decide, ha, hb⟩ (by show (5 - (0 : Int)).toNat < 4000; decide) ?_
 rintro ⟨x, p, r⟩ ⟨k0, k1, hp, hr⟩
 simp only at k0 k1 hp hr
 unfold B29_26
 simp only
 apply okP.ite <;> intro c
 ·rw [i_lt, z5] at c
  have e2 : (x + 1).toInt = x.toInt + 1 := inc1 (by omega)
  rw [wsta_m hp, wsta_m hr, wend_m hp, wend_m hr, evl_m hp, evl_m hr, rng_m hp, rng_m hr, sld_m hp, sld_m hr]
  simp only [Option.bind_some, if_true]
  apply okP.bind
  refine okP.mono (same_in hp hr x) ?_
  rintro _ ⟨p2, r2, rfl, hp2, hr2⟩
  exact okP.some ⟨⟨by simp only; omega, by simp only; omega, hp2, hr2⟩, by simp only; omega⟩
 ·exact okP.some ⟨rfl, hp, hr⟩
theorem siz {C : Int32} {R S : List Int32} {q : Int32} {H : List MX} {o : Ob} (h : St C R S q H o) : (f_range o).length = 4 ∧ (f_slide o).length = 4 ∧ (f_frontSize o).length = 4 ∧ (f_backSize o).length = 4 ∧ (f_backElem o).length = 512 ∧ (f_frontAgg o).length = 512 ∧ (f_backAgg o).length = 16 ∧ (f_snap o).length = 16 ∧ (f_reg o).length = 16 := by
 obtain ⟨n, hS, hn, hH, hq, lR, lS, hQ⟩ := h
 exact ⟨by rw [Sh_R hS]; exact lR, by rw [Sh_S hS]; exact lS, Sh_l_frontSize hS, Sh_l_backSize hS, Sh_l_backElem hS, Sh_l_frontAgg hS, Sh_l_backAgg hS, Sh_l_snap hS, Sh_l_reg hS⟩
theorem fin {s : List Int32} {a b : Ob} {R S R' S' : List Int32} {q q' C C' : Int32} {H H' : List MX} (ha : St C R S q H a) (hb : St C' R' S' q' H' b) : sFit s (H1 s a b) := by
 obtain ⟨b1, b2, b3, b4, b5, b6, b7, b8, b9⟩ := siz ha
 obtain ⟨c1, c2, c3, c4, c5, c6, c7, c8, c9⟩ := siz hb
 refine ⟨by show 21 - 1 ≤ _; decide, ?_⟩
 simp only [H1, H1v, qhs, qsz, b1, b2, b3, b4, b5, b6, b7, b8, b9, c1, c2, c3, c4, c5, c6, c7, c8, c9]
 simp only [cN, room_1]
 omega
def InA (t : Int32) (o : Ob) : Prop := ∃ R S q H, St 4 R S q H o ∧ Zr R S q ∧ (H.length : Int) ≤ t.toInt
def InB (t : Int32) (a b : Ob) : Prop := ∃ R S q H, St 4 R S q H a ∧ St 4 R S q H b ∧ Zr R S q ∧ (H.length : Int) ≤ t.toInt
theorem turnA {s : List Int32} (hs : s.length ≤ 260) {h t : Int32} {o : Ob} (hh : h.toInt ≤ s.length) (I : InA t o) (h1 : 0 ≤ t.toInt) (h2 : t.toInt ≤ 265) : okP (B0_16 s h (t, o)) (fun r => Sum.elim (fun e => (0 ≤ e.1.toInt ∧ e.1.toInt ≤ 265) ∧ InA e.1 e.2) (fun w => (0 ≤ w.1.toInt ∧ w.1.toInt ≤ 265 ∧ InA w.1 w.2) ∧ (300 - w.1.toInt).toNat < (300 - t.toInt).toNat) r) := by
 have z2 : (2 : Int32).toInt = 2 := rfl
 have z3 : (3 : Int32).toInt = 3 := rfl
 have z5 : (5 : Int32).toInt = 5 := rfl
 have a1 : (t + 1).toInt = t.toInt + 1 := inc1 (by omega)
 have a2 : (t + 2).toInt = t.toInt + 2 := by rw [i_add (by omega) (by omega), z2]
 have a3 : (t + 3).toInt = t.toInt + 3 := by rw [i_add (by omega) (by omega), z3]
 have a4 : (t + 4).toInt = t.toInt + 4 := by rw [i_add (by rw [z4']; omega) (by rw [z4']; omega), z4']
 have a5 : (t + 5).toInt = t.toInt + 5 := by rw [i_add (by omega) (by omega), z5]
 unfold B0_16
 simp only
 refine okP.ite (fun _ => okP.some ⟨⟨h1, h2⟩, I⟩) (fun c => ?_)
 rw [i_lt, a5] at c
 apply okP.bind; refine okP.aget (by omega) (by omega) (fun y0 _ => ?_)
 apply okP.bind; refine okP.aget (by omega) (by omega) (fun y1 _ => ?_)
 apply okP.bind; refine okP.aget (by omega) (by omega) (fun y2 _ => ?_)
 apply okP.bind; refine okP.aget (by omega) (by omega) (fun y3 _ => ?_)
 apply okP.bind; refine okP.aget (by omega) (by omega) (fun y4 _ => ?_)
 obtain ⟨R, S, q, H, ho, zr, hl⟩ := I
 obtain ⟨R', S', q', H', v, zr', hl', st⟩ := step_u (H := H) ho.rs zr (by omega) (y0 &&& 3) y1 y2 y3 y4
 apply okP.bind
 refine okP.mono (st o ho) ?_
 rintro ⟨r, p⟩ ⟨_, hp⟩
 exact okP.some ⟨⟨by simp only; omega, by simp only; omega, R', S', q', H', hp, zr', by simp only; omega⟩, by simp only; omega⟩
theorem turnB {s : List Int32} (hs : s.length ≤ 260) {t : Int32} {a b : Ob} (I : InB t a b) (h1 : 0 ≤ t.toInt) (h2 : t.toInt ≤ 265) : okP (B0_138 s (t, a, b)) (fun r => Sum.elim (fun e => e.1 = 1 ∧ sFit s e.2) (fun w => (0 ≤ w.1.toInt ∧ w.1.toInt ≤ 265 ∧ InB w.1 w.2.1 w.2.2) ∧ (300 - w.1.toInt).toNat < (300 - t.toInt).toNat) r) := by
 have hl := len_i (n := s.length) (by omega)
 have z2 : (2 : Int32).toInt = 2 := rfl
 have z3 : (3 : Int32).toInt = 3 := rfl
 have z5 : (5 : Int32).toInt = 5 := rfl
 have a1 : (t + 1).toInt = t.toInt + 1 := inc1 (by omega)
 have a2 : (t + 2).toInt = t.toInt + 2 := by rw [i_add (by omega) (by omega), z2]
 have a3 : (t + 3).toInt = t.toInt + 3 := by rw [i_add (by omega) (by omega), z3]
 have a4 : (t + 4).toInt = t.toInt + 4 := by rw [i_add (by rw [z4']; omega) (by rw [z4']; omega), z4']
 have a5 : (t + 5).toInt = t.toInt + 5 := by rw [i_add (by omega) (by omega), z5]
 obtain ⟨R, S, q, H, ha, hb, zr, hle⟩ := I
 unfold B0_138
 simp only
 refine okP.ite (fun _ => okP.some ⟨rfl, fin ha hb⟩) (fun c => ?_)
 rw [i_lt, hl, a5] at c
 have e1 : ∃ y1, aget s (t + 1) = some y1 := ⟨_, aget_at (n := t.toInt.toNat + 1) (by omega) (by omega)⟩
 have e2 : ∃ y2, aget s (t + 2) = some y2 := ⟨_, aget_at (n := t.toInt.toNat + 2) (by omega) (by omega)⟩
 have e3 : ∃ y3, aget s (t + 3) = some y3 := ⟨_, aget_at (n := t.toInt.toNat + 3) (by omega) (by omega)⟩
 have e4 : ∃ y4, aget s (t + 4) = some y4 := ⟨_, aget_at (n := t.toInt.toNat + 4) (by omega) (by omega)⟩
 obtain ⟨y1, e1⟩ := e1
 obtain ⟨y2, e2⟩ := e2
 obtain ⟨y3, e3⟩ := e3
 obtain ⟨y4, e4⟩ := e4
 rw [e1, e2, e3, e4]
 apply okP.bind; refine okP.aget (by omega) (by omega) (fun y0 _ => ?_)
 simp only [Option.bind_some]
 obtain ⟨R', S', q', H', v, zr', hl', st⟩ := step_u (H := H) ha.rs zr (by omega) (y0 &&& 3) y1 y2 y3 y4
 apply okP.bind
 refine okP.mono (st a ha) ?_
 rintro ⟨r, p⟩ ⟨hr, hp⟩
 simp only at hr hp ⊢
 apply okP.bind
 refine okP.mono (st b hb) ?_
 rintro ⟨r2, p2⟩ ⟨hr2, hp2⟩
 simp only at hr2 hp2 ⊢
 rw [if_pos (by rw [hr, hr2])]
 apply okP.bind
 refine okP.mono (same_ok hp hp2) ?_
 rintro ⟨r3, p3, p4⟩ ⟨hr3, hp3, hp4⟩
 simp only at hr3 hp3 hp4 ⊢
 subst hr3
 rw [if_neg (by decide)]
 exact okP.some ⟨⟨by simp only; omega, by simp only; omega, R', S', q', H', hp3, hp4, zr', by simp only; omega⟩, by simp only; omega⟩
theorem copy_ok {s : List Int32} {x3 : Int32} {R S : List Int32} {q : Int32} {H : List MX} {a b : Ob} (ha : St 4 R S q H a) (zr : Zr R S q) (hb : St 4 (List.replicate 4 0) (List.replicate 4 0) 0 [] b) : okP (loopN (B0_78 s x3 q) qN (0, a, b)) (fun e => e.1 = a ∧ St 4 R S q [] e.2) := by
 have rs := ha.rs
 obtain ⟨hq, lR, lS, hx⟩ := id rs
 refine okP.loop (fun v => 0 ≤ v.1.toInt ∧ v.1.toInt ≤ 4 ∧ v.2.1 = a ∧ ∃ R' S' q', St 4 R' S' q' [] v.2.2 ∧ q'.toInt = (if v.1.toInt < q.toInt then v.1.toInt else q.toInt) ∧ ∀ x : Nat, x < 4 → R'[x]? = (if x < q'.toInt.toNat then R[x]? else some 0) ∧ S'[x]? = (if x < q'.toInt.toNat then S[x]? else some 0)) (fun v => (4 - v.1.toInt).toNat) ⟨by show (0 : Int) ≤ 0; decide, by show (0 : Int) ≤ 4; decide, rfl, _, _, _, hb, ?_, ?_⟩ (by show (4 - (0 : Int)).toNat < 4000; decide) ?_
 ·show (0 : Int) = if (0 : Int) < q.toInt then 0 else q.toInt
  split <;> omega
 ·intro x x4
  have e : ¬ x < (0 : Int32).toInt.toNat := Nat.not_lt_zero _
  rw [if_neg e, if_neg e, List.getElem?_replicate, if_pos x4]
  exact ⟨rfl, rfl⟩
 rintro ⟨i, p, r⟩ ⟨i0, i1, rfl, R', S', q', hr, eq', hRS⟩
 simp only at i0 i1 hr eq'
 unfold B0_78 J0_117
 simp only
 by_cases c : i < 4
 ·rw [if_pos c]
  rw [i_lt, z4'] at c
  have e2 : (i + 1).toInt = i.toInt + 1 := inc1 (by omega)
  by_cases d : i < q
  ·rw [if_pos d]
   rw [i_lt] at d
   rw [if_pos d] at eq'
   obtain ⟨rr, ss, h1, h2, h3, h4⟩ := hx i.toInt.toNat (by omega)
   rw [rng_m ha, sld_m ha, if_pos (show isQ q i from ⟨i0, d⟩), if_pos (show isQ q i from ⟨i0, d⟩)]
   simp only [Option.bind_some]
   have er : rq R i = rr := by unfold rq; rw [h1]; rfl
   have es : rq S i = ss := by unfold rq; rw [h2]; rfl
   rw [er, es]
   apply okP.bind
   refine okP.mono (add_m hr (by decide) rr ss) ?_
   rintro ⟨v, r2⟩ hv
   rw [if_pos ⟨rfl, by rw [eq']; exact c, h3, h4⟩] at hv
   have iq : q' = i := by rw [i_eq]; exact eq'
   subst iq
   have rl := hr.rs
   refine okP.some ⟨⟨by simp only; omega, by simp only; omega, rfl, _, _, _, hv.2, ?_, ?_⟩, by simp only; omega⟩
   ·simp only
    rw [e2]
    split <;> omega
   ·intro x x4
    obtain ⟨g1, g2⟩ := hRS x x4
    have l1 := rl.2.1
    have l2 := rl.2.2.1
    have en : (q' + 1).toInt.toNat = q'.toInt.toNat + 1 := by omega
    rw [en]
    by_cases e : q'.toInt.toNat = x
    ·subst e
     rw [List.getElem?_set_self (by omega), List.getElem?_set_self (by omega), if_pos (by omega), if_pos (by omega), h1, h2]
     exact ⟨rfl, rfl⟩
    ·rw [List.getElem?_set_ne e, List.getElem?_set_ne e, g1, g2]
     by_cases f : x < q'.toInt.toNat
     ·rw [if_pos f, if_pos f, if_pos (by omega), if_pos (by omega)]
      exact ⟨rfl, rfl⟩
     ·rw [if_neg f, if_neg f, if_neg (by omega), if_neg (by omega)]
      exact ⟨rfl, rfl⟩
  ·rw [if_neg d]
   rw [i_lt] at d
   rw [if_neg d] at eq'
   refine okP.some ⟨⟨by simp only; omega, by simp only; omega, rfl, R', S', q', hr, ?_, hRS⟩, by simp only; omega⟩
   simp only
   rw [if_neg (by omega)]; exact eq'
 ·rw [if_neg c]
  rw [i_lt, z4'] at c
  rw [if_neg (by omega)] at eq'
  have eqq : q' = q := by rw [i_eq]; exact eq'
  subst eqq
  have rl := hr.rs
  have l1 := rl.2.1
  have l2 := rl.2.2.1
  have r1 : R' = R := by
   apply List.ext_getElem?
   intro x
   by_cases x4 : x < 4
   ·rw [(hRS x x4).1]
    by_cases f : x < q'.toInt.toNat
    ·rw [if_pos f]
    ·rw [if_neg f, (zr x (by omega) x4).1]
   ·rw [List.getElem?_eq_none (by omega), List.getElem?_eq_none (by omega)]
  have r2 : S' = S := by
   apply List.ext_getElem?
   intro x
   by_cases x4 : x < 4
   ·rw [(hRS x x4).2]
    by_cases f : x < q'.toInt.toNat
    ·rw [if_pos f]
    ·rw [if_neg f, (zr x (by omega) x4).2]
   ·rw [List.getElem?_eq_none (by omega), List.getElem?_eq_none (by omega)]
  rw [r1, r2] at hr
  exact okP.some ⟨rfl, hr⟩
theorem law_ok (s : List Int32) (hs : s.length ≤ 260) : ∃ τ, F0 s = some (1, τ) ∧ τ.length - List.length ([Sum.inr (Sum.inl (FieldType.int, s))] : QHeap) ≤ room_1.cells ∧ qhs τ - qhs [Sum.inr (Sum.inl (FieldType.int, s))] ≤ room_1.slots := by
 have hl := len_i (n := s.length) (by omega)
 have : okP (F0 s) (fun e => e.1 = 1 ∧ sFit s e.2) := by
  unfold F0
  apply okP.bind
  refine okP.mono (init_m (x := 4) (c := 4) (by decide)) (fun o ho => ?_)
  have hh : ((s.length.toInt32) / (2 : Int32)).toInt ≤ s.length := by
   rw [div_i (by omega) (by decide), hl]
   have : (2 : Int32).toInt.toNat = 2 := rfl
   rw [this, Int.toNat_natCast]
   omega
  apply okP.bind
  refine okP.mono (P := fun (e : Int32 × Ob) => (0 ≤ e.1.toInt ∧ e.1.toInt ≤ 265) ∧ InA e.1 e.2) ?_ ?_
  ·refine okP.loop (fun v => 0 ≤ v.1.toInt ∧ v.1.toInt ≤ 265 ∧ InA v.1 v.2) (fun v => (300 - v.1.toInt).toNat) ⟨by show (0 : Int) ≤ 0; decide, by show (0 : Int) ≤ 265; decide, _, _, _, _, ho, ?_, by show (0 : Int) ≤ 0; decide⟩ (by show (300 - (0 : Int)).toNat < 4000; decide) ?_
   ·intro x _ x4
    rw [List.getElem?_replicate, if_pos x4]
    exact ⟨rfl, rfl⟩
   rintro ⟨t, o⟩ ⟨h1, h2, h3⟩
   exact turnA hs hh h3 h1 h2
  rintro ⟨t, a⟩ ⟨ht, R, S, q, H, ha, zr, hle⟩
  simp only at ht ha hle ⊢
  apply okP.bind
  refine okP.mono (init_m (x := 4) (c := 4) (by decide)) (fun b hb => ?_)
  rw [qct_m ha]
  simp only [Option.bind_some]
  apply okP.bind
  refine okP.mono (copy_ok ha zr hb) ?_
  rintro ⟨a', b2⟩ ⟨ea, hb2⟩
  simp only at ea hb2 ⊢
  subst ea
  apply okP.bind
  refine okP.mono (clear_m ha) (fun a3 ha3 => ?_)
  apply okP.bind
  refine okP.mono (same_ok ha3 hb2) ?_
  rintro ⟨r3, p3, p4⟩ ⟨hr3, hp3, hp4⟩
  simp only at hr3 hp3 hp4 ⊢
  subst hr3
  rw [if_neg (by decide)]
  apply okP.bind
  refine okP.mono (P := fun e => e.1 = 1 ∧ sFit s e.2) ?_ (fun e he => okP.some he)
  refine okP.loop (fun v => 0 ≤ v.1.toInt ∧ v.1.toInt ≤ 265 ∧ InB v.1 v.2.1 v.2.2) (fun v => (300 - v.1.toInt).toNat) ⟨ht.1, ht.2, R, S, q, [], hp3, hp4, zr, by simp only; exact ht.1⟩ (by show (300 - t.toInt).toNat < 4000; omega) ?_
  rintro ⟨t, a, b⟩ ⟨h1, h2, h3⟩
  exact turnB hs h3 h1 h2
 obtain ⟨⟨r, τ⟩, q1, q2, q3⟩ := this
 simp only at q2
 subst q2
 exact ⟨τ, q1, q3⟩
set_option maxRecDepth 65536 in
theorem comes_1 {Post : Tables → Env → Array Value → State → Outcome → State → Prop} (hpost : ∀ tb e args s v u, (limb_1_1.after args s (.returned v) u = true ∧ limb_1_2.after args s (.returned v) u = true ∧ True) → FrameEnd s (.returned v) u (Jvm.fieldLocs frame_1_writes args s ++ Jvm.arrayLocs frame_1_arrays args s ++ Jvm.staticLocs frame_1_statics s) 48 4544 → Post tb e args s (.returned v) u) :
    ArmFor flags0 classFile x code maxLocals ret World_1 tables_1 room_1 Calls_1 rest_1 Pre_1 Post := by
  intro l hfl _ _ p e ha hc hk s m args below hf hA hF happ hP
  obtain ⟨hcalls, hrest, hpre⟩ := hP
  obtain ⟨-, -, -, hnamed, -, -, -, hat⟩ := (Spec.applies_iff hf).mp happ
  obtain ⟨hg, hn⟩ := and_e (Cond.before_iff.mp (show (Jvm.Cond.and given_1 narrow_1).before args s = true from hpre))
  obtain ⟨g0, g1⟩ := and_e hg
  obtain ⟨w0, rfl⟩ : ∃ w0 : Value, args = #[w0] := by
    have hs : args.size = 1 := by simpa [Cond.value, given_1] using g0
    obtain ⟨L⟩ := args
    match L, hs with
    | [w0], _ => exact ⟨w0, rfl⟩
  have hw := fun d (hd : d ∈ tables_1) => atoms_spec (ws := Jvm.Cond.code x code maxLocals ret :: tables_1) hat d (List.mem_cons_of_mem _ hd)
  have hfit : Fit s := fun {y c} hc i hi => by
    obtain ⟨ha, rfl⟩ := Array.getElem?_eq_some_iff.mp hc
    have q := List.all_eq_true.mp ((Array.all_eq_true_iff_forall_mem.mp hF) _ (Array.getElem_mem ha)) i (List.mem_range.mpr hi)
    simpa [Array.getElem?_eq_getElem hi] using q
  obtain ⟨n1, n2⟩ := and_e hn
  obtain ⟨a, cl, xs, rfl, hA1, hA2, hlen⟩ := script_ok hfit n1 n2
  obtain ⟨τ, hF0, hc1, hs1⟩ := law_ok xs hlen
  have hlt := hA1.lt
  have Ad : QAd s.heap.size (fun k => match k with | 0 => a | k + 1 => s.heap.size + k) := ⟨fun k hk => by cases k with | zero => exact absurd hk (by decide) | succ k => rfl, fun i j h => by
    cases i with
    | zero => cases j with
      | zero => rfl
      | succ j => have h' : a = s.heap.size + j := h; exact absurd hA1.lt (by rw [h']; exact Nat.not_lt.mpr (Nat.le_add_right _ _))
    | succ i => cases j with
      | zero => have h' : s.heap.size + i = a := h; exact absurd hA1.lt (by rw [← h']; exact Nat.not_lt.mpr (Nat.le_add_right _ _))
      | succ j => have h' : s.heap.size + i = s.heap.size + j := h; omega⟩
  have hR : QRep s s.heap.size (fun k => match k with | 0 => a | k + 1 => s.heap.size + k) s.heap [.inr (.inl (.int, xs))] := ⟨Nat.le_refl _, rfl, fun k c h => by
    cases k with
    | zero => cases h; exact ⟨cl, hA1, hA2⟩
    | succ k => cases h⟩
  have T := tF0 (l := l) (Z := s) Ad (QW_ok hw) xs hF0
  have M := QTri.met (k := 0) (as := [.ref 0]) (by decide) T hR (Nat.le_of_ble_eq_true rfl) (fun q => by cases q) tables_1 (rm := room_1) (by decide) (by decide) hc1 hs1
  obtain ⟨n, o, h1, h2, h3, _, L, rfl, ⟨rfl, R', N⟩, hq⟩ := M p e ha hc hk s m _ below hf ((Spec.applies_iff_loose hf).mp happ).1 ⟨rfl, State.Warmed39.refl s, rfl⟩ trivial
  refine ⟨n, _, h1, h2, h3, hpost _ _ _ _ _ _ ⟨Cond.after_iff.mpr rfl, Cond.after_iff.mpr (eq_i res_at (Term.int_eval (1)) rfl), trivial⟩ ⟨hq.1, hq.2.1, (hq.2.2.sift fun y hy => Or.inr (N y hy)).mono hc1 hs1⟩⟩
theorem main_1_1 : Claimed_1_1 := comes_1 fun _ _ _ _ _ _ h hF => ⟨h.1, hF⟩
theorem main_1_2 : Claimed_1_2 := comes_1 fun _ _ _ _ _ _ h hF => ⟨h.2.1, hF⟩
end Jvm.Pilot.@@N@@
namespace Jvm.Pilot.@@N@@
open Jvm Jvm.ClassFile Sem Op Lib Jvm.Free Jvm.Stand Jvm.Pilot.@@N@@.Jvm.D
/-! MADE BY PROGRAM (witnessworld.py) out of the Statement's table words and the real class files: 9 classes; the members and pool entries that the words name. The judged class is class 1, her method 3. -/
namespace start1
open Jvm.ClassFile
def u (s : String) : CpInfo := .utf8 (stringToUtf16 s)
/-- a pool by its gaps: so many unusable entries, then the entry; so many at the end -/
def gap : Nat → List CpInfo → List CpInfo
  | 0, r => r
  | n + 1, r => .unusable :: gap n r
def poolList (es : List (Nat × CpInfo)) (last : Nat) : List CpInfo := es.foldr (fun e r => gap e.1 (e.2 :: r)) (gap last [])
def pool (es : List (Nat × CpInfo)) (last : Nat) : Array CpInfo := ⟨poolList es last⟩
def fileOf (pool : Array CpInfo) (this : Nat) (attrs : Array Attribute := #[]) (ms : Array MethodInfo := #[]) (fl : Nat := 33) (sup : Nat := 0) (ifs : Array Nat := #[]) (fds : Array FieldInfo := #[]) : ClassFile where
  minorVersion := 0
  majorVersion := 65
  constantPool := pool
  accessFlags := fl
  thisClass := this
  superClass := sup
  interfaces := ifs
  fields := fds
  methods := ms
  attributes := attrs
def plain (name : String) (sup : Option ClassId) : Class where
  name := name
  kind := .ordinary
  loader := none
  accessFlags := 33
  super := sup
  interfaces := #[]
  cf := none
  fields := #[]
  methods := #[]
  instanceTypes := #[]
  staticTypes := #[]
  resolved := #[]
  callSites := []
  init := .initialized
  statics := none
  mirror := none

def pool0 : Array CpInfo := pool [(5, u "<init>"), (0, u "()V"), (1, .class_ 10), (1, u "java/lang/Object")] 113

def k0c0 : Code := { maxStack := 0, maxLocals := 1, code := object_method_1_code, exceptionTable := #[], attributes := #[] }
def k0m0 : Method := { name := "<init>", desc := "()V", sig := { parameters := [], returnType := none }, accessFlags := 1, code := some k0c0 }
/-- java/lang/Object -/
def k0 : Class := { plain "java/lang/Object" none with
  accessFlags := 33
  interfaces := #[]
  cf := some (fileOf pool0 8 #[] #[{ accessFlags := 1, nameIndex := 5, descriptorIndex := 6, attributes := #[] }] 33 0 #[] #[])
  fields := #[]
  methods := #[k0m0]
  instanceTypes := #[]
  staticTypes := #[]
  resolved := Array.replicate 124 none
  statics := none }

def pool1 : Array CpInfo := pool [(2, .class_ 4), (1, u "java/lang/Object"), (0, u "<init>"), (0, u "()V"), (0, .methodref 8 9), (0, .class_ 10), (0, .nameAndType 11 12), (0, u "SliceAggregate"), (0, u "queryCount"), (0, u "()I"), (0, .methodref 8 14), (0, .nameAndType 15 12), (0, u "tupleCount"), (0, .methodref 8 17), (0, .nameAndType 18 19), (0, u "windowStart"), (0, u "(I)I"), (0, .methodref 8 21), (0, .nameAndType 22 19), (0, u "windowEnd"), (0, .methodref 8 24), (0, .nameAndType 25 19), (0, u "evaluations"), (0, .methodref 8 27), (0, .nameAndType 28 19), (0, u "queryRange"), (0, .methodref 8 30), (0, .nameAndType 31 19), (0, u "querySlide"), (0, .methodref 8 33), (0, .nameAndType 34 35), (0, u "result"), (0, u "(II)I"), (0, .methodref 8 37), (0, .nameAndType 38 35), (0, u "liveResult"), (0, .methodref 8 40), (0, .nameAndType 41 35), (0, u "addQuery"), (0, .methodref 8 43), (0, .nameAndType 44 6), (0, u "clearStream"), (0, .methodref 8 46), (0, .nameAndType 47 48), (0, u "push"), (0, u "(IIII)I"), (0, .methodref 8 50), (0, .nameAndType 5 51), (0, u "(I)V"), (0, .methodref 53 54), (0, .class_ 55), (0, .nameAndType 56 57), (0, u "SliceAggregateL5"), (0, u "step"), (0, u "(LSliceAggregate;IIIII)I"), (0, .methodref 53 59), (0, .nameAndType 60 61), (0, u "same"), (0, u "(LSliceAggregate;LSliceAggregate;)Z"), (3, u "law"), (0, u "([I)Z")] 2

def k1m0 : Method := { name := "<init>", desc := "()V", sig := { parameters := [], returnType := none }, accessFlags := 1, code := none }
def k1c1 : Code := { maxStack := 4, maxLocals := 4, code := method_2_code, exceptionTable := #[], attributes := #[] }
def k1m1 : Method := { name := "same", desc := "(LSliceAggregate;LSliceAggregate;)Z", sig := { parameters := [(.object "SliceAggregate"), (.object "SliceAggregate")], returnType := some .boolean }, accessFlags := 10, code := some k1c1 }
def k1c2 : Code := { maxStack := 5, maxLocals := 6, code := method_3_code, exceptionTable := #[], attributes := #[] }
def k1m2 : Method := { name := "step", desc := "(LSliceAggregate;IIIII)I", sig := { parameters := [(.object "SliceAggregate"), .int, .int, .int, .int, .int], returnType := some .int }, accessFlags := 10, code := some k1c2 }
def k1c3 : Code := { maxStack := 8, maxLocals := 9, code := code, exceptionTable := #[], attributes := #[] }
def k1m3 : Method := { name := "law", desc := "([I)Z", sig := { parameters := [(.array .int)], returnType := some .boolean }, accessFlags := 9, code := some k1c3 }
/-- SliceAggregateL5 -/
def k1 : Class := { plain "SliceAggregateL5" (some 0) with
  accessFlags := 49
  interfaces := #[]
  cf := some (fileOf pool1 53 #[] #[{ accessFlags := 1, nameIndex := 5, descriptorIndex := 6, attributes := #[] }, { accessFlags := 10, nameIndex := 60, descriptorIndex := 61, attributes := #[] }, { accessFlags := 10, nameIndex := 56, descriptorIndex := 57, attributes := #[] }, { accessFlags := 9, nameIndex := 65, descriptorIndex := 66, attributes := #[] }] 49 2 #[] #[])
  fields := #[]
  methods := #[k1m0, k1m1, k1m2, k1m3]
  instanceTypes := #[]
  staticTypes := #[]
  resolved := Array.replicate 69 none
  statics := none }

def pool2 : Array CpInfo := pool [(1, .methodref 2 3), (0, .class_ 4), (0, .nameAndType 5 6), (0, u "java/lang/Object"), (0, u "<init>"), (0, u "()V"), (0, .fieldref 8 9), (0, .class_ 10), (0, .nameAndType 11 12), (0, u "SliceAggregate"), (0, u "regTuple"), (0, u "I"), (0, .fieldref 8 14), (0, .nameAndType 15 12), (0, u "regA"), (0, .fieldref 8 17), (0, .nameAndType 18 12), (0, u "regB"), (0, .fieldref 8 20), (0, .nameAndType 21 12), (0, u "regC"), (0, .fieldref 8 23), (0, .nameAndType 24 12), (0, u "regCount"), (0, .fieldref 8 26), (0, .nameAndType 27 12), (0, u "slots"), (0, .fieldref 8 29), (0, .nameAndType 30 31), (0, u "range"), (0, u "[I"), (0, .fieldref 8 33), (0, .nameAndType 34 31), (0, u "slide"), (0, .fieldref 8 36), (0, .nameAndType 37 31), (0, u "frontSize"), (0, .fieldref 8 39), (0, .nameAndType 40 31), (0, u "backSize"), (0, .fieldref 8 42), (0, .nameAndType 43 31), (0, u "backElem"), (0, .fieldref 8 45), (0, .nameAndType 46 31), (0, u "frontAgg"), (0, .fieldref 8 48), (0, .nameAndType 49 31), (0, u "backAgg"), (0, .fieldref 8 51), (0, .nameAndType 52 31), (0, u "snap"), (0, .fieldref 8 54), (0, .nameAndType 55 31), (0, u "reg"), (0, .fieldref 8 57), (0, .nameAndType 58 12), (0, u "capacity"), (0, .fieldref 8 60), (0, .nameAndType 61 12), (0, u "queries"), (0, .fieldref 8 63), (0, .nameAndType 64 12), (0, u "n"), (0, .methodref 8 66), (0, .nameAndType 67 68), (0, u "resetQuery"), (0, u "(I)V"), (0, .methodref 8 70), (0, .nameAndType 71 72), (0, u "regSet"), (0, u "(IIIII)V"), (0, .methodref 8 74), (0, .nameAndType 75 68), (0, u "appendToQuery"), (0, .methodref 8 77), (0, .nameAndType 78 68), (0, u "takeSnapshot"), (0, .methodref 8 80), (0, .nameAndType 81 82), (0, u "validQuery"), (0, u "(I)Z"), (0, .methodref 8 84), (0, .nameAndType 85 82), (0, u "validEntry"), (0, .methodref 8 87), (0, .nameAndType 88 89), (0, u "liveFold"), (0, u "(II)V"), (0, .methodref 8 91), (0, .nameAndType 92 93), (0, u "regEntry"), (0, u "(II)I"), (0, .methodref 8 95), (0, .nameAndType 96 97), (0, u "endOf"), (0, u "(I)I"), (0, .methodref 8 99), (0, .nameAndType 100 68), (0, u "regIdentity"), (0, .methodref 8 102), (0, .nameAndType 103 89), (0, u "storeBackAgg"), (0, .methodref 8 105), (0, .nameAndType 106 89), (0, u "storeSnap"), (0, .methodref 8 108), (0, .nameAndType 109 68), (0, u "evictOldest"), (0, .methodref 8 111), (0, .nameAndType 112 113), (0, u "validSlot"), (0, u "(II)Z"), (0, .methodref 8 115), (0, .nameAndType 116 117), (0, u "storeBack"), (0, u "(III)V"), (0, .methodref 8 119), (0, .nameAndType 120 89), (0, u "loadBackAgg"), (0, .methodref 8 122), (0, .nameAndType 123 117), (0, u "regMul"), (0, .methodref 8 125), (0, .nameAndType 126 68), (0, u "flip"), (0, .methodref 8 128), (0, .nameAndType 129 117), (0, u "loadBack"), (0, .methodref 8 131), (0, .nameAndType 132 117), (0, u "storeFront"), (0, .methodref 8 134), (0, .nameAndType 135 117), (0, u "loadFront"), (0, .methodref 8 137), (0, .nameAndType 138 82), (0, u "validReg"), (0, .methodref 8 140), (0, .nameAndType 141 93), (0, u "slotOffset"), (0, u "ERR"), (2, u "MIN_RANGE"), (1, u "MAX_RANGE"), (1, u "MIN_SLIDE"), (0, u "MAX_SLIDE"), (0, u "MAX_QUERIES"), (7, u "addQuery"), (0, u "push"), (0, u "(IIII)I"), (0, u "result"), (0, u "liveResult"), (0, u "windowStart"), (0, u "windowEnd"), (0, u "evaluations"), (0, u "queryRange"), (0, u "querySlide"), (0, u "queryCount"), (0, u "()I"), (0, u "tupleCount"), (0, u "clearStream")] 2

def k2c0 : Code := { maxStack := 2, maxLocals := 4, code := prog_1_method_1_code, exceptionTable := #[], attributes := #[] }
def k2m0 : Method := { name := "<init>", desc := "(I)V", sig := { parameters := [.int], returnType := none }, accessFlags := 1, code := some k2c0 }
def k2c1 : Code := { maxStack := 3, maxLocals := 4, code := prog_1_method_2_code, exceptionTable := #[], attributes := #[] }
def k2m1 : Method := { name := "addQuery", desc := "(II)I", sig := { parameters := [.int, .int], returnType := some .int }, accessFlags := 1, code := some k2c1 }
def k2c2 : Code := { maxStack := 6, maxLocals := 8, code := prog_1_method_3_code, exceptionTable := #[], attributes := #[] }
def k2m2 : Method := { name := "push", desc := "(IIII)I", sig := { parameters := [.int, .int, .int, .int], returnType := some .int }, accessFlags := 1, code := some k2c2 }
def k2c3 : Code := { maxStack := 3, maxLocals := 3, code := prog_1_method_4_code, exceptionTable := #[], attributes := #[] }
def k2m3 : Method := { name := "result", desc := "(II)I", sig := { parameters := [.int, .int], returnType := some .int }, accessFlags := 1, code := some k2c3 }
def k2c4 : Code := { maxStack := 3, maxLocals := 3, code := prog_1_method_5_code, exceptionTable := #[], attributes := #[] }
def k2m4 : Method := { name := "liveResult", desc := "(II)I", sig := { parameters := [.int, .int], returnType := some .int }, accessFlags := 1, code := some k2c4 }
def k2c5 : Code := { maxStack := 3, maxLocals := 3, code := prog_1_method_6_code, exceptionTable := #[], attributes := #[] }
def k2m5 : Method := { name := "windowStart", desc := "(I)I", sig := { parameters := [.int], returnType := some .int }, accessFlags := 1, code := some k2c5 }
def k2c6 : Code := { maxStack := 2, maxLocals := 2, code := prog_1_method_7_code, exceptionTable := #[], attributes := #[] }
def k2m6 : Method := { name := "windowEnd", desc := "(I)I", sig := { parameters := [.int], returnType := some .int }, accessFlags := 1, code := some k2c6 }
def k2c7 : Code := { maxStack := 2, maxLocals := 3, code := prog_1_method_8_code, exceptionTable := #[], attributes := #[] }
def k2m7 : Method := { name := "evaluations", desc := "(I)I", sig := { parameters := [.int], returnType := some .int }, accessFlags := 1, code := some k2c7 }
def k2c8 : Code := { maxStack := 2, maxLocals := 2, code := prog_1_method_9_code, exceptionTable := #[], attributes := #[] }
def k2m8 : Method := { name := "queryRange", desc := "(I)I", sig := { parameters := [.int], returnType := some .int }, accessFlags := 1, code := some k2c8 }
def k2c9 : Code := { maxStack := 2, maxLocals := 2, code := prog_1_method_10_code, exceptionTable := #[], attributes := #[] }
def k2m9 : Method := { name := "querySlide", desc := "(I)I", sig := { parameters := [.int], returnType := some .int }, accessFlags := 1, code := some k2c9 }
def k2c10 : Code := { maxStack := 1, maxLocals := 1, code := prog_1_method_11_code, exceptionTable := #[], attributes := #[] }
def k2m10 : Method := { name := "queryCount", desc := "()I", sig := { parameters := [], returnType := some .int }, accessFlags := 1, code := some k2c10 }
def k2c11 : Code := { maxStack := 1, maxLocals := 1, code := prog_1_method_12_code, exceptionTable := #[], attributes := #[] }
def k2m11 : Method := { name := "tupleCount", desc := "()I", sig := { parameters := [], returnType := some .int }, accessFlags := 1, code := some k2c11 }
def k2c12 : Code := { maxStack := 2, maxLocals := 2, code := prog_1_method_13_code, exceptionTable := #[], attributes := #[] }
def k2m12 : Method := { name := "clearStream", desc := "()V", sig := { parameters := [], returnType := none }, accessFlags := 1, code := some k2c12 }
def k2c13 : Code := { maxStack := 2, maxLocals := 2, code := prog_1_method_14_code, exceptionTable := #[], attributes := #[] }
def k2m13 : Method := { name := "validQuery", desc := "(I)Z", sig := { parameters := [.int], returnType := some .boolean }, accessFlags := 2, code := some k2c13 }
def k2c14 : Code := { maxStack := 2, maxLocals := 2, code := prog_1_method_15_code, exceptionTable := #[], attributes := #[] }
def k2m14 : Method := { name := "validEntry", desc := "(I)Z", sig := { parameters := [.int], returnType := some .boolean }, accessFlags := 2, code := some k2c14 }
def k2c15 : Code := { maxStack := 2, maxLocals := 2, code := prog_1_method_16_code, exceptionTable := #[], attributes := #[] }
def k2m15 : Method := { name := "validReg", desc := "(I)Z", sig := { parameters := [.int], returnType := some .boolean }, accessFlags := 2, code := some k2c15 }
def k2c16 : Code := { maxStack := 2, maxLocals := 3, code := prog_1_method_17_code, exceptionTable := #[], attributes := #[] }
def k2m16 : Method := { name := "validSlot", desc := "(II)Z", sig := { parameters := [.int, .int], returnType := some .boolean }, accessFlags := 2, code := some k2c16 }
def k2c17 : Code := { maxStack := 2, maxLocals := 3, code := prog_1_method_18_code, exceptionTable := #[], attributes := #[] }
def k2m17 : Method := { name := "slotOffset", desc := "(II)I", sig := { parameters := [.int, .int], returnType := some .int }, accessFlags := 2, code := some k2c17 }
def k2c18 : Code := { maxStack := 3, maxLocals := 3, code := prog_1_method_19_code, exceptionTable := #[], attributes := #[] }
def k2m18 : Method := { name := "endOf", desc := "(I)I", sig := { parameters := [.int], returnType := some .int }, accessFlags := 2, code := some k2c18 }
def k2c19 : Code := { maxStack := 3, maxLocals := 2, code := prog_1_method_20_code, exceptionTable := #[], attributes := #[] }
def k2m19 : Method := { name := "resetQuery", desc := "(I)V", sig := { parameters := [.int], returnType := none }, accessFlags := 2, code := some k2c19 }
def k2c20 : Code := { maxStack := 4, maxLocals := 4, code := prog_1_method_21_code, exceptionTable := #[], attributes := #[] }
def k2m20 : Method := { name := "appendToQuery", desc := "(I)V", sig := { parameters := [.int], returnType := none }, accessFlags := 2, code := some k2c20 }
def k2c21 : Code := { maxStack := 4, maxLocals := 2, code := prog_1_method_22_code, exceptionTable := #[], attributes := #[] }
def k2m21 : Method := { name := "evictOldest", desc := "(I)V", sig := { parameters := [.int], returnType := none }, accessFlags := 2, code := some k2c21 }
def k2c22 : Code := { maxStack := 5, maxLocals := 4, code := prog_1_method_23_code, exceptionTable := #[], attributes := #[] }
def k2m22 : Method := { name := "flip", desc := "(I)V", sig := { parameters := [.int], returnType := none }, accessFlags := 2, code := some k2c22 }
def k2c23 : Code := { maxStack := 5, maxLocals := 4, code := prog_1_method_24_code, exceptionTable := #[], attributes := #[] }
def k2m23 : Method := { name := "liveFold", desc := "(II)V", sig := { parameters := [.int, .int], returnType := none }, accessFlags := 2, code := some k2c23 }
def k2c24 : Code := { maxStack := 3, maxLocals := 2, code := prog_1_method_25_code, exceptionTable := #[], attributes := #[] }
def k2m24 : Method := { name := "takeSnapshot", desc := "(I)V", sig := { parameters := [.int], returnType := none }, accessFlags := 2, code := some k2c24 }
def k2c25 : Code := { maxStack := 3, maxLocals := 7, code := prog_1_method_26_code, exceptionTable := #[], attributes := #[] }
def k2m25 : Method := { name := "regSet", desc := "(IIIII)V", sig := { parameters := [.int, .int, .int, .int, .int], returnType := none }, accessFlags := 2, code := some k2c25 }
def k2c26 : Code := { maxStack := 6, maxLocals := 2, code := prog_1_method_27_code, exceptionTable := #[], attributes := #[] }
def k2m26 : Method := { name := "regIdentity", desc := "(I)V", sig := { parameters := [.int], returnType := none }, accessFlags := 2, code := some k2c26 }
def k2c27 : Code := { maxStack := 3, maxLocals := 3, code := prog_1_method_28_code, exceptionTable := #[], attributes := #[] }
def k2m27 : Method := { name := "regEntry", desc := "(II)I", sig := { parameters := [.int, .int], returnType := some .int }, accessFlags := 2, code := some k2c27 }
def k2c28 : Code := { maxStack := 5, maxLocals := 15, code := prog_1_method_29_code, exceptionTable := #[], attributes := #[] }
def k2m28 : Method := { name := "regMul", desc := "(III)V", sig := { parameters := [.int, .int, .int], returnType := none }, accessFlags := 2, code := some k2c28 }
def k2c29 : Code := { maxStack := 5, maxLocals := 7, code := prog_1_method_30_code, exceptionTable := #[], attributes := #[] }
def k2m29 : Method := { name := "loadBack", desc := "(III)V", sig := { parameters := [.int, .int, .int], returnType := none }, accessFlags := 2, code := some k2c29 }
def k2c30 : Code := { maxStack := 5, maxLocals := 7, code := prog_1_method_31_code, exceptionTable := #[], attributes := #[] }
def k2m30 : Method := { name := "storeBack", desc := "(III)V", sig := { parameters := [.int, .int, .int], returnType := none }, accessFlags := 2, code := some k2c30 }
def k2c31 : Code := { maxStack := 5, maxLocals := 7, code := prog_1_method_32_code, exceptionTable := #[], attributes := #[] }
def k2m31 : Method := { name := "loadFront", desc := "(III)V", sig := { parameters := [.int, .int, .int], returnType := none }, accessFlags := 2, code := some k2c31 }
def k2c32 : Code := { maxStack := 5, maxLocals := 7, code := prog_1_method_33_code, exceptionTable := #[], attributes := #[] }
def k2m32 : Method := { name := "storeFront", desc := "(III)V", sig := { parameters := [.int, .int, .int], returnType := none }, accessFlags := 2, code := some k2c32 }
def k2c33 : Code := { maxStack := 5, maxLocals := 5, code := prog_1_method_34_code, exceptionTable := #[], attributes := #[] }
def k2m33 : Method := { name := "loadBackAgg", desc := "(II)V", sig := { parameters := [.int, .int], returnType := none }, accessFlags := 2, code := some k2c33 }
def k2c34 : Code := { maxStack := 5, maxLocals := 5, code := prog_1_method_35_code, exceptionTable := #[], attributes := #[] }
def k2m34 : Method := { name := "storeBackAgg", desc := "(II)V", sig := { parameters := [.int, .int], returnType := none }, accessFlags := 2, code := some k2c34 }
def k2c35 : Code := { maxStack := 5, maxLocals := 5, code := prog_1_method_36_code, exceptionTable := #[], attributes := #[] }
def k2m35 : Method := { name := "storeSnap", desc := "(II)V", sig := { parameters := [.int, .int], returnType := none }, accessFlags := 2, code := some k2c35 }
/-- SliceAggregate -/
def k2 : Class := { plain "SliceAggregate" (some 0) with
  accessFlags := 49
  interfaces := #[]
  cf := some (fileOf pool2 8 #[] #[{ accessFlags := 1, nameIndex := 5, descriptorIndex := 68, attributes := #[] }, { accessFlags := 1, nameIndex := 159, descriptorIndex := 93, attributes := #[] }, { accessFlags := 1, nameIndex := 160, descriptorIndex := 161, attributes := #[] }, { accessFlags := 1, nameIndex := 162, descriptorIndex := 93, attributes := #[] }, { accessFlags := 1, nameIndex := 163, descriptorIndex := 93, attributes := #[] }, { accessFlags := 1, nameIndex := 164, descriptorIndex := 97, attributes := #[] }, { accessFlags := 1, nameIndex := 165, descriptorIndex := 97, attributes := #[] }, { accessFlags := 1, nameIndex := 166, descriptorIndex := 97, attributes := #[] }, { accessFlags := 1, nameIndex := 167, descriptorIndex := 97, attributes := #[] }, { accessFlags := 1, nameIndex := 168, descriptorIndex := 97, attributes := #[] }, { accessFlags := 1, nameIndex := 169, descriptorIndex := 170, attributes := #[] }, { accessFlags := 1, nameIndex := 171, descriptorIndex := 170, attributes := #[] }, { accessFlags := 1, nameIndex := 172, descriptorIndex := 6, attributes := #[] }, { accessFlags := 2, nameIndex := 81, descriptorIndex := 82, attributes := #[] }, { accessFlags := 2, nameIndex := 85, descriptorIndex := 82, attributes := #[] }, { accessFlags := 2, nameIndex := 138, descriptorIndex := 82, attributes := #[] }, { accessFlags := 2, nameIndex := 112, descriptorIndex := 113, attributes := #[] }, { accessFlags := 2, nameIndex := 141, descriptorIndex := 93, attributes := #[] }, { accessFlags := 2, nameIndex := 96, descriptorIndex := 97, attributes := #[] }, { accessFlags := 2, nameIndex := 67, descriptorIndex := 68, attributes := #[] }, { accessFlags := 2, nameIndex := 75, descriptorIndex := 68, attributes := #[] }, { accessFlags := 2, nameIndex := 109, descriptorIndex := 68, attributes := #[] }, { accessFlags := 2, nameIndex := 126, descriptorIndex := 68, attributes := #[] }, { accessFlags := 2, nameIndex := 88, descriptorIndex := 89, attributes := #[] }, { accessFlags := 2, nameIndex := 78, descriptorIndex := 68, attributes := #[] }, { accessFlags := 2, nameIndex := 71, descriptorIndex := 72, attributes := #[] }, { accessFlags := 2, nameIndex := 100, descriptorIndex := 68, attributes := #[] }, { accessFlags := 2, nameIndex := 92, descriptorIndex := 93, attributes := #[] }, { accessFlags := 2, nameIndex := 123, descriptorIndex := 117, attributes := #[] }, { accessFlags := 2, nameIndex := 129, descriptorIndex := 117, attributes := #[] }, { accessFlags := 2, nameIndex := 116, descriptorIndex := 117, attributes := #[] }, { accessFlags := 2, nameIndex := 135, descriptorIndex := 117, attributes := #[] }, { accessFlags := 2, nameIndex := 132, descriptorIndex := 117, attributes := #[] }, { accessFlags := 2, nameIndex := 120, descriptorIndex := 89, attributes := #[] }, { accessFlags := 2, nameIndex := 103, descriptorIndex := 89, attributes := #[] }, { accessFlags := 2, nameIndex := 106, descriptorIndex := 89, attributes := #[] }] 49 2 #[] #[{ accessFlags := 25, nameIndex := 142, descriptorIndex := 12, attributes := #[] }, { accessFlags := 25, nameIndex := 145, descriptorIndex := 12, attributes := #[] }, { accessFlags := 25, nameIndex := 147, descriptorIndex := 12, attributes := #[] }, { accessFlags := 25, nameIndex := 149, descriptorIndex := 12, attributes := #[] }, { accessFlags := 25, nameIndex := 150, descriptorIndex := 12, attributes := #[] }, { accessFlags := 25, nameIndex := 151, descriptorIndex := 12, attributes := #[] }, { accessFlags := 18, nameIndex := 11, descriptorIndex := 12, attributes := #[] }, { accessFlags := 18, nameIndex := 15, descriptorIndex := 12, attributes := #[] }, { accessFlags := 18, nameIndex := 18, descriptorIndex := 12, attributes := #[] }, { accessFlags := 18, nameIndex := 21, descriptorIndex := 12, attributes := #[] }, { accessFlags := 18, nameIndex := 24, descriptorIndex := 12, attributes := #[] }, { accessFlags := 18, nameIndex := 27, descriptorIndex := 12, attributes := #[] }, { accessFlags := 2, nameIndex := 58, descriptorIndex := 12, attributes := #[] }, { accessFlags := 2, nameIndex := 61, descriptorIndex := 12, attributes := #[] }, { accessFlags := 2, nameIndex := 64, descriptorIndex := 12, attributes := #[] }, { accessFlags := 18, nameIndex := 30, descriptorIndex := 31, attributes := #[] }, { accessFlags := 18, nameIndex := 34, descriptorIndex := 31, attributes := #[] }, { accessFlags := 18, nameIndex := 37, descriptorIndex := 31, attributes := #[] }, { accessFlags := 18, nameIndex := 40, descriptorIndex := 31, attributes := #[] }, { accessFlags := 18, nameIndex := 43, descriptorIndex := 31, attributes := #[] }, { accessFlags := 18, nameIndex := 46, descriptorIndex := 31, attributes := #[] }, { accessFlags := 18, nameIndex := 49, descriptorIndex := 31, attributes := #[] }, { accessFlags := 18, nameIndex := 52, descriptorIndex := 31, attributes := #[] }, { accessFlags := 18, nameIndex := 55, descriptorIndex := 31, attributes := #[] }])
  fields := #[{ name := "ERR", type := .int, accessFlags := 25, slot := 0, constantValue := 0 }, { name := "MIN_RANGE", type := .int, accessFlags := 25, slot := 1, constantValue := 0 }, { name := "MAX_RANGE", type := .int, accessFlags := 25, slot := 2, constantValue := 0 }, { name := "MIN_SLIDE", type := .int, accessFlags := 25, slot := 3, constantValue := 0 }, { name := "MAX_SLIDE", type := .int, accessFlags := 25, slot := 4, constantValue := 0 }, { name := "MAX_QUERIES", type := .int, accessFlags := 25, slot := 5, constantValue := 0 }, { name := "regTuple", type := .int, accessFlags := 18, slot := 0, constantValue := 0 }, { name := "regA", type := .int, accessFlags := 18, slot := 1, constantValue := 0 }, { name := "regB", type := .int, accessFlags := 18, slot := 2, constantValue := 0 }, { name := "regC", type := .int, accessFlags := 18, slot := 3, constantValue := 0 }, { name := "regCount", type := .int, accessFlags := 18, slot := 4, constantValue := 0 }, { name := "slots", type := .int, accessFlags := 18, slot := 5, constantValue := 0 }, { name := "capacity", type := .int, accessFlags := 2, slot := 6, constantValue := 0 }, { name := "queries", type := .int, accessFlags := 2, slot := 7, constantValue := 0 }, { name := "n", type := .int, accessFlags := 2, slot := 8, constantValue := 0 }, { name := "range", type := (.array .int), accessFlags := 18, slot := 9, constantValue := 0 }, { name := "slide", type := (.array .int), accessFlags := 18, slot := 10, constantValue := 0 }, { name := "frontSize", type := (.array .int), accessFlags := 18, slot := 11, constantValue := 0 }, { name := "backSize", type := (.array .int), accessFlags := 18, slot := 12, constantValue := 0 }, { name := "backElem", type := (.array .int), accessFlags := 18, slot := 13, constantValue := 0 }, { name := "frontAgg", type := (.array .int), accessFlags := 18, slot := 14, constantValue := 0 }, { name := "backAgg", type := (.array .int), accessFlags := 18, slot := 15, constantValue := 0 }, { name := "snap", type := (.array .int), accessFlags := 18, slot := 16, constantValue := 0 }, { name := "reg", type := (.array .int), accessFlags := 18, slot := 17, constantValue := 0 }]
  methods := #[k2m0, k2m1, k2m2, k2m3, k2m4, k2m5, k2m6, k2m7, k2m8, k2m9, k2m10, k2m11, k2m12, k2m13, k2m14, k2m15, k2m16, k2m17, k2m18, k2m19, k2m20, k2m21, k2m22, k2m23, k2m24, k2m25, k2m26, k2m27, k2m28, k2m29, k2m30, k2m31, k2m32, k2m33, k2m34, k2m35]
  instanceTypes := #[.int, .int, .int, .int, .int, .int, .int, .int, .int, (.array .int), (.array .int), (.array .int), (.array .int), (.array .int), (.array .int), (.array .int), (.array .int), (.array .int)]
  staticTypes := #[.int, .int, .int, .int, .int, .int]
  resolved := Array.replicate 175 none
  statics := none }

def pool3 : Array CpInfo := pool [(1, u "java/lang/Cloneable"), (0, .class_ 1), (0, u "java/lang/Object"), (0, .class_ 3)] 3

/-- java/lang/Cloneable -/
def k3 : Class := { plain "java/lang/Cloneable" (some 0) with
  accessFlags := 1537
  interfaces := #[]
  cf := some (fileOf pool3 2 #[] #[] 1537 4 #[] #[])
  fields := #[]
  methods := #[]
  instanceTypes := #[]
  staticTypes := #[]
  resolved := Array.replicate 8 none
  statics := none }

def pool4 : Array CpInfo := pool [(1, u "java/io/Serializable"), (0, .class_ 1), (0, u "java/lang/Object"), (0, .class_ 3)] 3

/-- java/io/Serializable -/
def k4 : Class := { plain "java/io/Serializable" (some 0) with
  accessFlags := 1537
  interfaces := #[]
  cf := some (fileOf pool4 2 #[] #[] 1537 4 #[] #[])
  fields := #[]
  methods := #[]
  instanceTypes := #[]
  staticTypes := #[]
  resolved := Array.replicate 8 none
  statics := none }

/-- the primitive byte -/
def k5 : Class := { plain "byte" none with kind := .primitive 'B', accessFlags := 0x411 }
/-- [B -/
def k6 : Class := { plain "[B" (some 0) with kind := .array 5 .byte, interfaces := #[3, 4], accessFlags := 1041 }

/-- the primitive int -/
def k7 : Class := { plain "int" none with kind := .primitive 'I', accessFlags := 0x411 }
/-- [I -/
def k8 : Class := { plain "[I" (some 0) with kind := .array 7 .int, interfaces := #[3, 4], accessFlags := 1041 }

def heap : Heap := #[{ cls := 8, slots := #[.int 1, .int 2, .int 3], vm := .none }]
def classes : Array Class := #[k0, k1, k2, k3, k4, k5, k6, k7, k8]
def interned : List (Array UInt16 × Addr) := []
def slotsUsed : Nat := 3
def theMethod : MethodId := ⟨1, 3⟩
def args0 : Array Value := #[.ref 0]
def aboutOver (below : List Frame) : State where
  vm := { classes := classes, interned := interned.toArray }
  heap := heap
  slotsUsed := slotsUsed
  threads := #[{ frames := .invoking theMethod args0 :: below }]
def below0 : List Frame := [.native { method := ⟨0, 0⟩, args := #[] }]
def about1 : State := aboutOver below0
def p0 : Program := .bare "" "" ""
def e0 : Env := launch0.env 0 0 0
theorem w_frames : about1.frames = Frame.invoking theMethod args0 :: below0 := rfl
set_option maxRecDepth 65536 in
theorem w_args : argsFit about1.vm theMethod args0 = true := by decide +kernel
set_option maxRecDepth 65536 in
theorem w_heap : heapFits about1 = true := by decide +kernel
set_option maxRecDepth 65536 in
theorem w_runnable : about1.curStatus? = some .runnable := by decide +kernel
set_option maxRecDepth 65536 in
theorem w_alone : about1.alone = true := by decide +kernel
set_option maxRecDepth 65536 in
theorem w_named : about1.methodNamed? x = some theMethod := by decide +kernel
set_option maxRecDepth 65536 in
theorem w_hears : about1.hears theMethod below0 = true := by decide +kernel
set_option maxRecDepth 65536 in
theorem w_ripe : about1.ripe theMethod args0 below0 = true := by decide +kernel
theorem w_running : about1.status = .running := rfl
set_option maxRecDepth 65536 in
theorem w_room : about1.hasRoom e0.platform room_1 = true :=
  launch0.hasRoom_least _ room_1 (by decide +kernel) (by decide +kernel) (by decide +kernel) (by decide +kernel) (by decide +kernel) (by decide +kernel)
theorem allAtoms_all (ts : List Jvm.Cond) (a : Array Jvm.Value) (st : Jvm.State) : (allAtoms ts).before a st = ts.all (fun c => c.before a st) := by
  induction ts with
  | nil => rfl
  | cons c t ih =>
    show (Jvm.Cond.and c (allAtoms t)).before a st = _
    rw [Jvm.Cond.before_and, ih, List.all_cons]
def words1 : List Jvm.Cond := Jvm.Cond.code x code maxLocals ret :: tables_1
/-- a 'code' word, met by the world's own term for the bytes: nothing is compared byte by byte -/
theorem code_word {y : MethodName} {bytes : ByteArray} {mx : Nat} {rt : Option FieldType} {a : Array Value} {s : State} {m : MethodId} {meth : Method} {c : Code} (h1 : s.methodNamed? y = some m) (h2 : s.vm.method? m = some meth) (h3 : meth.code = some c) (h4 : c.code = bytes)
    (h5 : (c.maxLocals == mx && c.exceptionTable.isEmpty && decide (c.maxStack ≤ mostOperands) && decide (meth.sig.returnType = rt) && !meth.locks && decide (parseMethodDescriptor y.desc = some meth.sig)) = true) : (Jvm.Cond.code y bytes mx rt).before a s = true := by
  simp only [Bool.and_eq_true, beq_iff_eq, Bool.not_eq_true', decide_eq_true_eq] at h5
  obtain ⟨⟨⟨⟨⟨g1, g2⟩, g3⟩, g4⟩, g5⟩, g6⟩ := h5
  simp [Cond.before, Cond.holds, Cond.value, h1, h2, h3, h4, g1, g2, g3, g4, g5, g6]
def isCode : Jvm.Cond → Bool
  | .code _ _ _ _ => true
  | _ => false
theorem all_split {L : List Jvm.Cond} {P : Jvm.Cond → Bool} (h1 : L.all (fun c => isCode c || P c) = true) (h2 : ∀ c ∈ L.filter isCode, P c = true) : L.all P = true := by
  refine List.all_eq_true.mpr fun c hc => ?_
  have h := List.all_eq_true.mp h1 c hc
  rcases Bool.eq_false_or_eq_true (isCode c) with hi | hi
  · exact h2 c (List.mem_filter.mpr ⟨hc, hi⟩)
  · simpa [hi] using h
set_option maxRecDepth 65536 in
theorem w_c0 : (Jvm.Cond.code x code maxLocals ret).before args0 about1 = true := code_word (m := ⟨1, 3⟩) (meth := k1m3) (c := k1c3) (by decide +kernel) rfl rfl rfl (by decide +kernel)
set_option maxRecDepth 65536 in
theorem w_c1 : (Jvm.Cond.code ({ cls := "SliceAggregate", name := "<init>", desc := "(I)V" } : Jvm.MethodName) prog_1_method_1_code (4 : Nat) (Option.none : Option Jvm.ClassFile.FieldType)).before args0 about1 = true := code_word (m := ⟨2, 0⟩) (meth := k2m0) (c := k2c0) (by decide +kernel) rfl rfl rfl (by decide +kernel)
set_option maxRecDepth 65536 in
theorem w_c2 : (Jvm.Cond.code ({ cls := "java/lang/Object", name := "<init>", desc := "()V" } : Jvm.MethodName) object_method_1_code (1 : Nat) (Option.none : Option Jvm.ClassFile.FieldType)).before args0 about1 = true := code_word (m := ⟨0, 0⟩) (meth := k0m0) (c := k0c0) (by decide +kernel) rfl rfl rfl (by decide +kernel)
set_option maxRecDepth 65536 in
theorem w_c3 : (Jvm.Cond.code ({ cls := "SliceAggregate", name := "resetQuery", desc := "(I)V" } : Jvm.MethodName) prog_1_method_20_code (2 : Nat) (Option.none : Option Jvm.ClassFile.FieldType)).before args0 about1 = true := code_word (m := ⟨2, 19⟩) (meth := k2m19) (c := k2c19) (by decide +kernel) rfl rfl rfl (by decide +kernel)
set_option maxRecDepth 65536 in
theorem w_c4 : (Jvm.Cond.code ({ cls := "SliceAggregate", name := "regIdentity", desc := "(I)V" } : Jvm.MethodName) prog_1_method_27_code (2 : Nat) (Option.none : Option Jvm.ClassFile.FieldType)).before args0 about1 = true := code_word (m := ⟨2, 26⟩) (meth := k2m26) (c := k2c26) (by decide +kernel) rfl rfl rfl (by decide +kernel)
set_option maxRecDepth 65536 in
theorem w_c5 : (Jvm.Cond.code ({ cls := "SliceAggregate", name := "regSet", desc := "(IIIII)V" } : Jvm.MethodName) prog_1_method_26_code (7 : Nat) (Option.none : Option Jvm.ClassFile.FieldType)).before args0 about1 = true := code_word (m := ⟨2, 25⟩) (meth := k2m25) (c := k2c25) (by decide +kernel) rfl rfl rfl (by decide +kernel)
set_option maxRecDepth 65536 in
theorem w_c6 : (Jvm.Cond.code ({ cls := "SliceAggregate", name := "validReg", desc := "(I)Z" } : Jvm.MethodName) prog_1_method_16_code (2 : Nat) (Option.some Jvm.ClassFile.FieldType.boolean)).before args0 about1 = true := code_word (m := ⟨2, 15⟩) (meth := k2m15) (c := k2c15) (by decide +kernel) rfl rfl rfl (by decide +kernel)
set_option maxRecDepth 65536 in
theorem w_c7 : (Jvm.Cond.code ({ cls := "SliceAggregate", name := "storeBackAgg", desc := "(II)V" } : Jvm.MethodName) prog_1_method_35_code (5 : Nat) (Option.none : Option Jvm.ClassFile.FieldType)).before args0 about1 = true := code_word (m := ⟨2, 34⟩) (meth := k2m34) (c := k2c34) (by decide +kernel) rfl rfl rfl (by decide +kernel)
set_option maxRecDepth 65536 in
theorem w_c8 : (Jvm.Cond.code ({ cls := "SliceAggregate", name := "storeSnap", desc := "(II)V" } : Jvm.MethodName) prog_1_method_36_code (5 : Nat) (Option.none : Option Jvm.ClassFile.FieldType)).before args0 about1 = true := code_word (m := ⟨2, 35⟩) (meth := k2m35) (c := k2c35) (by decide +kernel) rfl rfl rfl (by decide +kernel)
set_option maxRecDepth 65536 in
theorem w_c9 : (Jvm.Cond.code ({ cls := "SliceAggregateL5", name := "step", desc := "(LSliceAggregate;IIIII)I" } : Jvm.MethodName) method_3_code (6 : Nat) (Option.some Jvm.ClassFile.FieldType.int)).before args0 about1 = true := code_word (m := ⟨1, 2⟩) (meth := k1m2) (c := k1c2) (by decide +kernel) rfl rfl rfl (by decide +kernel)
set_option maxRecDepth 65536 in
theorem w_c10 : (Jvm.Cond.code ({ cls := "SliceAggregate", name := "clearStream", desc := "()V" } : Jvm.MethodName) prog_1_method_13_code (2 : Nat) (Option.none : Option Jvm.ClassFile.FieldType)).before args0 about1 = true := code_word (m := ⟨2, 12⟩) (meth := k2m12) (c := k2c12) (by decide +kernel) rfl rfl rfl (by decide +kernel)
set_option maxRecDepth 65536 in
theorem w_c11 : (Jvm.Cond.code ({ cls := "SliceAggregate", name := "addQuery", desc := "(II)I" } : Jvm.MethodName) prog_1_method_2_code (4 : Nat) (Option.some Jvm.ClassFile.FieldType.int)).before args0 about1 = true := code_word (m := ⟨2, 1⟩) (meth := k2m1) (c := k2c1) (by decide +kernel) rfl rfl rfl (by decide +kernel)
set_option maxRecDepth 65536 in
theorem w_c12 : (Jvm.Cond.code ({ cls := "SliceAggregate", name := "push", desc := "(IIII)I" } : Jvm.MethodName) prog_1_method_3_code (8 : Nat) (Option.some Jvm.ClassFile.FieldType.int)).before args0 about1 = true := code_word (m := ⟨2, 2⟩) (meth := k2m2) (c := k2c2) (by decide +kernel) rfl rfl rfl (by decide +kernel)
set_option maxRecDepth 65536 in
theorem w_c13 : (Jvm.Cond.code ({ cls := "SliceAggregate", name := "appendToQuery", desc := "(I)V" } : Jvm.MethodName) prog_1_method_21_code (4 : Nat) (Option.none : Option Jvm.ClassFile.FieldType)).before args0 about1 = true := code_word (m := ⟨2, 20⟩) (meth := k2m20) (c := k2c20) (by decide +kernel) rfl rfl rfl (by decide +kernel)
set_option maxRecDepth 65536 in
theorem w_c14 : (Jvm.Cond.code ({ cls := "SliceAggregate", name := "validSlot", desc := "(II)Z" } : Jvm.MethodName) prog_1_method_17_code (3 : Nat) (Option.some Jvm.ClassFile.FieldType.boolean)).before args0 about1 = true := code_word (m := ⟨2, 16⟩) (meth := k2m16) (c := k2c16) (by decide +kernel) rfl rfl rfl (by decide +kernel)
set_option maxRecDepth 65536 in
theorem w_c15 : (Jvm.Cond.code ({ cls := "SliceAggregate", name := "storeBack", desc := "(III)V" } : Jvm.MethodName) prog_1_method_31_code (7 : Nat) (Option.none : Option Jvm.ClassFile.FieldType)).before args0 about1 = true := code_word (m := ⟨2, 30⟩) (meth := k2m30) (c := k2c30) (by decide +kernel) rfl rfl rfl (by decide +kernel)
set_option maxRecDepth 65536 in
theorem w_c16 : (Jvm.Cond.code ({ cls := "SliceAggregate", name := "slotOffset", desc := "(II)I" } : Jvm.MethodName) prog_1_method_18_code (3 : Nat) (Option.some Jvm.ClassFile.FieldType.int)).before args0 about1 = true := code_word (m := ⟨2, 17⟩) (meth := k2m17) (c := k2c17) (by decide +kernel) rfl rfl rfl (by decide +kernel)
set_option maxRecDepth 65536 in
theorem w_c17 : (Jvm.Cond.code ({ cls := "SliceAggregate", name := "loadBackAgg", desc := "(II)V" } : Jvm.MethodName) prog_1_method_34_code (5 : Nat) (Option.none : Option Jvm.ClassFile.FieldType)).before args0 about1 = true := code_word (m := ⟨2, 33⟩) (meth := k2m33) (c := k2c33) (by decide +kernel) rfl rfl rfl (by decide +kernel)
set_option maxRecDepth 65536 in
theorem w_c18 : (Jvm.Cond.code ({ cls := "SliceAggregate", name := "regMul", desc := "(III)V" } : Jvm.MethodName) prog_1_method_29_code (15 : Nat) (Option.none : Option Jvm.ClassFile.FieldType)).before args0 about1 = true := code_word (m := ⟨2, 28⟩) (meth := k2m28) (c := k2c28) (by decide +kernel) rfl rfl rfl (by decide +kernel)
set_option maxRecDepth 65536 in
theorem w_c19 : (Jvm.Cond.code ({ cls := "SliceAggregate", name := "evictOldest", desc := "(I)V" } : Jvm.MethodName) prog_1_method_22_code (2 : Nat) (Option.none : Option Jvm.ClassFile.FieldType)).before args0 about1 = true := code_word (m := ⟨2, 21⟩) (meth := k2m21) (c := k2c21) (by decide +kernel) rfl rfl rfl (by decide +kernel)
set_option maxRecDepth 65536 in
theorem w_c20 : (Jvm.Cond.code ({ cls := "SliceAggregate", name := "flip", desc := "(I)V" } : Jvm.MethodName) prog_1_method_23_code (4 : Nat) (Option.none : Option Jvm.ClassFile.FieldType)).before args0 about1 = true := code_word (m := ⟨2, 22⟩) (meth := k2m22) (c := k2c22) (by decide +kernel) rfl rfl rfl (by decide +kernel)
set_option maxRecDepth 65536 in
theorem w_c21 : (Jvm.Cond.code ({ cls := "SliceAggregate", name := "loadBack", desc := "(III)V" } : Jvm.MethodName) prog_1_method_30_code (7 : Nat) (Option.none : Option Jvm.ClassFile.FieldType)).before args0 about1 = true := code_word (m := ⟨2, 29⟩) (meth := k2m29) (c := k2c29) (by decide +kernel) rfl rfl rfl (by decide +kernel)
set_option maxRecDepth 65536 in
theorem w_c22 : (Jvm.Cond.code ({ cls := "SliceAggregate", name := "storeFront", desc := "(III)V" } : Jvm.MethodName) prog_1_method_33_code (7 : Nat) (Option.none : Option Jvm.ClassFile.FieldType)).before args0 about1 = true := code_word (m := ⟨2, 32⟩) (meth := k2m32) (c := k2c32) (by decide +kernel) rfl rfl rfl (by decide +kernel)
set_option maxRecDepth 65536 in
theorem w_c23 : (Jvm.Cond.code ({ cls := "SliceAggregate", name := "takeSnapshot", desc := "(I)V" } : Jvm.MethodName) prog_1_method_25_code (2 : Nat) (Option.none : Option Jvm.ClassFile.FieldType)).before args0 about1 = true := code_word (m := ⟨2, 24⟩) (meth := k2m24) (c := k2c24) (by decide +kernel) rfl rfl rfl (by decide +kernel)
set_option maxRecDepth 65536 in
theorem w_c24 : (Jvm.Cond.code ({ cls := "SliceAggregate", name := "liveFold", desc := "(II)V" } : Jvm.MethodName) prog_1_method_24_code (4 : Nat) (Option.none : Option Jvm.ClassFile.FieldType)).before args0 about1 = true := code_word (m := ⟨2, 23⟩) (meth := k2m23) (c := k2c23) (by decide +kernel) rfl rfl rfl (by decide +kernel)
set_option maxRecDepth 65536 in
theorem w_c25 : (Jvm.Cond.code ({ cls := "SliceAggregate", name := "loadFront", desc := "(III)V" } : Jvm.MethodName) prog_1_method_32_code (7 : Nat) (Option.none : Option Jvm.ClassFile.FieldType)).before args0 about1 = true := code_word (m := ⟨2, 31⟩) (meth := k2m31) (c := k2c31) (by decide +kernel) rfl rfl rfl (by decide +kernel)
set_option maxRecDepth 65536 in
theorem w_c26 : (Jvm.Cond.code ({ cls := "SliceAggregate", name := "queryCount", desc := "()I" } : Jvm.MethodName) prog_1_method_11_code (1 : Nat) (Option.some Jvm.ClassFile.FieldType.int)).before args0 about1 = true := code_word (m := ⟨2, 10⟩) (meth := k2m10) (c := k2c10) (by decide +kernel) rfl rfl rfl (by decide +kernel)
set_option maxRecDepth 65536 in
theorem w_c27 : (Jvm.Cond.code ({ cls := "SliceAggregate", name := "queryRange", desc := "(I)I" } : Jvm.MethodName) prog_1_method_9_code (2 : Nat) (Option.some Jvm.ClassFile.FieldType.int)).before args0 about1 = true := code_word (m := ⟨2, 8⟩) (meth := k2m8) (c := k2c8) (by decide +kernel) rfl rfl rfl (by decide +kernel)
set_option maxRecDepth 65536 in
theorem w_c28 : (Jvm.Cond.code ({ cls := "SliceAggregate", name := "validQuery", desc := "(I)Z" } : Jvm.MethodName) prog_1_method_14_code (2 : Nat) (Option.some Jvm.ClassFile.FieldType.boolean)).before args0 about1 = true := code_word (m := ⟨2, 13⟩) (meth := k2m13) (c := k2c13) (by decide +kernel) rfl rfl rfl (by decide +kernel)
set_option maxRecDepth 65536 in
theorem w_c29 : (Jvm.Cond.code ({ cls := "SliceAggregate", name := "querySlide", desc := "(I)I" } : Jvm.MethodName) prog_1_method_10_code (2 : Nat) (Option.some Jvm.ClassFile.FieldType.int)).before args0 about1 = true := code_word (m := ⟨2, 9⟩) (meth := k2m9) (c := k2c9) (by decide +kernel) rfl rfl rfl (by decide +kernel)
set_option maxRecDepth 65536 in
theorem w_c30 : (Jvm.Cond.code ({ cls := "SliceAggregateL5", name := "same", desc := "(LSliceAggregate;LSliceAggregate;)Z" } : Jvm.MethodName) method_2_code (4 : Nat) (Option.some Jvm.ClassFile.FieldType.boolean)).before args0 about1 = true := code_word (m := ⟨1, 1⟩) (meth := k1m1) (c := k1c1) (by decide +kernel) rfl rfl rfl (by decide +kernel)
set_option maxRecDepth 65536 in
theorem w_c31 : (Jvm.Cond.code ({ cls := "SliceAggregate", name := "tupleCount", desc := "()I" } : Jvm.MethodName) prog_1_method_12_code (1 : Nat) (Option.some Jvm.ClassFile.FieldType.int)).before args0 about1 = true := code_word (m := ⟨2, 11⟩) (meth := k2m11) (c := k2c11) (by decide +kernel) rfl rfl rfl (by decide +kernel)
set_option maxRecDepth 65536 in
theorem w_c32 : (Jvm.Cond.code ({ cls := "SliceAggregate", name := "windowStart", desc := "(I)I" } : Jvm.MethodName) prog_1_method_6_code (3 : Nat) (Option.some Jvm.ClassFile.FieldType.int)).before args0 about1 = true := code_word (m := ⟨2, 5⟩) (meth := k2m5) (c := k2c5) (by decide +kernel) rfl rfl rfl (by decide +kernel)
set_option maxRecDepth 65536 in
theorem w_c33 : (Jvm.Cond.code ({ cls := "SliceAggregate", name := "endOf", desc := "(I)I" } : Jvm.MethodName) prog_1_method_19_code (3 : Nat) (Option.some Jvm.ClassFile.FieldType.int)).before args0 about1 = true := code_word (m := ⟨2, 18⟩) (meth := k2m18) (c := k2c18) (by decide +kernel) rfl rfl rfl (by decide +kernel)
set_option maxRecDepth 65536 in
theorem w_c34 : (Jvm.Cond.code ({ cls := "SliceAggregate", name := "windowEnd", desc := "(I)I" } : Jvm.MethodName) prog_1_method_7_code (2 : Nat) (Option.some Jvm.ClassFile.FieldType.int)).before args0 about1 = true := code_word (m := ⟨2, 6⟩) (meth := k2m6) (c := k2c6) (by decide +kernel) rfl rfl rfl (by decide +kernel)
set_option maxRecDepth 65536 in
theorem w_c35 : (Jvm.Cond.code ({ cls := "SliceAggregate", name := "evaluations", desc := "(I)I" } : Jvm.MethodName) prog_1_method_8_code (3 : Nat) (Option.some Jvm.ClassFile.FieldType.int)).before args0 about1 = true := code_word (m := ⟨2, 7⟩) (meth := k2m7) (c := k2c7) (by decide +kernel) rfl rfl rfl (by decide +kernel)
set_option maxRecDepth 65536 in
theorem w_c36 : (Jvm.Cond.code ({ cls := "SliceAggregate", name := "result", desc := "(II)I" } : Jvm.MethodName) prog_1_method_4_code (3 : Nat) (Option.some Jvm.ClassFile.FieldType.int)).before args0 about1 = true := code_word (m := ⟨2, 3⟩) (meth := k2m3) (c := k2c3) (by decide +kernel) rfl rfl rfl (by decide +kernel)
set_option maxRecDepth 65536 in
theorem w_c37 : (Jvm.Cond.code ({ cls := "SliceAggregate", name := "validEntry", desc := "(I)Z" } : Jvm.MethodName) prog_1_method_15_code (2 : Nat) (Option.some Jvm.ClassFile.FieldType.boolean)).before args0 about1 = true := code_word (m := ⟨2, 14⟩) (meth := k2m14) (c := k2c14) (by decide +kernel) rfl rfl rfl (by decide +kernel)
set_option maxRecDepth 65536 in
theorem w_c38 : (Jvm.Cond.code ({ cls := "SliceAggregate", name := "liveResult", desc := "(II)I" } : Jvm.MethodName) prog_1_method_5_code (3 : Nat) (Option.some Jvm.ClassFile.FieldType.int)).before args0 about1 = true := code_word (m := ⟨2, 4⟩) (meth := k2m4) (c := k2c4) (by decide +kernel) rfl rfl rfl (by decide +kernel)
set_option maxRecDepth 65536 in
theorem w_c39 : (Jvm.Cond.code ({ cls := "SliceAggregate", name := "regEntry", desc := "(II)I" } : Jvm.MethodName) prog_1_method_28_code (3 : Nat) (Option.some Jvm.ClassFile.FieldType.int)).before args0 about1 = true := code_word (m := ⟨2, 27⟩) (meth := k2m27) (c := k2c27) (by decide +kernel) rfl rfl rfl (by decide +kernel)
def codes1 : List Jvm.Cond := [Jvm.Cond.code x code maxLocals ret, Jvm.Cond.code ({ cls := "SliceAggregate", name := "<init>", desc := "(I)V" } : Jvm.MethodName) prog_1_method_1_code (4 : Nat) (Option.none : Option Jvm.ClassFile.FieldType), Jvm.Cond.code ({ cls := "java/lang/Object", name := "<init>", desc := "()V" } : Jvm.MethodName) object_method_1_code (1 : Nat) (Option.none : Option Jvm.ClassFile.FieldType), Jvm.Cond.code ({ cls := "SliceAggregate", name := "resetQuery", desc := "(I)V" } : Jvm.MethodName) prog_1_method_20_code (2 : Nat) (Option.none : Option Jvm.ClassFile.FieldType), Jvm.Cond.code ({ cls := "SliceAggregate", name := "regIdentity", desc := "(I)V" } : Jvm.MethodName) prog_1_method_27_code (2 : Nat) (Option.none : Option Jvm.ClassFile.FieldType), Jvm.Cond.code ({ cls := "SliceAggregate", name := "regSet", desc := "(IIIII)V" } : Jvm.MethodName) prog_1_method_26_code (7 : Nat) (Option.none : Option Jvm.ClassFile.FieldType), Jvm.Cond.code ({ cls := "SliceAggregate", name := "validReg", desc := "(I)Z" } : Jvm.MethodName) prog_1_method_16_code (2 : Nat) (Option.some Jvm.ClassFile.FieldType.boolean), Jvm.Cond.code ({ cls := "SliceAggregate", name := "storeBackAgg", desc := "(II)V" } : Jvm.MethodName) prog_1_method_35_code (5 : Nat) (Option.none : Option Jvm.ClassFile.FieldType), Jvm.Cond.code ({ cls := "SliceAggregate", name := "storeSnap", desc := "(II)V" } : Jvm.MethodName) prog_1_method_36_code (5 : Nat) (Option.none : Option Jvm.ClassFile.FieldType), Jvm.Cond.code ({ cls := "SliceAggregateL5", name := "step", desc := "(LSliceAggregate;IIIII)I" } : Jvm.MethodName) method_3_code (6 : Nat) (Option.some Jvm.ClassFile.FieldType.int), Jvm.Cond.code ({ cls := "SliceAggregate", name := "clearStream", desc := "()V" } : Jvm.MethodName) prog_1_method_13_code (2 : Nat) (Option.none : Option Jvm.ClassFile.FieldType), Jvm.Cond.code ({ cls := "SliceAggregate", name := "addQuery", desc := "(II)I" } : Jvm.MethodName) prog_1_method_2_code (4 : Nat) (Option.some Jvm.ClassFile.FieldType.int), Jvm.Cond.code ({ cls := "SliceAggregate", name := "push", desc := "(IIII)I" } : Jvm.MethodName) prog_1_method_3_code (8 : Nat) (Option.some Jvm.ClassFile.FieldType.int), Jvm.Cond.code ({ cls := "SliceAggregate", name := "appendToQuery", desc := "(I)V" } : Jvm.MethodName) prog_1_method_21_code (4 : Nat) (Option.none : Option Jvm.ClassFile.FieldType), Jvm.Cond.code ({ cls := "SliceAggregate", name := "validSlot", desc := "(II)Z" } : Jvm.MethodName) prog_1_method_17_code (3 : Nat) (Option.some Jvm.ClassFile.FieldType.boolean), Jvm.Cond.code ({ cls := "SliceAggregate", name := "storeBack", desc := "(III)V" } : Jvm.MethodName) prog_1_method_31_code (7 : Nat) (Option.none : Option Jvm.ClassFile.FieldType), Jvm.Cond.code ({ cls := "SliceAggregate", name := "slotOffset", desc := "(II)I" } : Jvm.MethodName) prog_1_method_18_code (3 : Nat) (Option.some Jvm.ClassFile.FieldType.int), Jvm.Cond.code ({ cls := "SliceAggregate", name := "loadBackAgg", desc := "(II)V" } : Jvm.MethodName) prog_1_method_34_code (5 : Nat) (Option.none : Option Jvm.ClassFile.FieldType), Jvm.Cond.code ({ cls := "SliceAggregate", name := "regMul", desc := "(III)V" } : Jvm.MethodName) prog_1_method_29_code (15 : Nat) (Option.none : Option Jvm.ClassFile.FieldType), Jvm.Cond.code ({ cls := "SliceAggregate", name := "evictOldest", desc := "(I)V" } : Jvm.MethodName) prog_1_method_22_code (2 : Nat) (Option.none : Option Jvm.ClassFile.FieldType), Jvm.Cond.code ({ cls := "SliceAggregate", name := "flip", desc := "(I)V" } : Jvm.MethodName) prog_1_method_23_code (4 : Nat) (Option.none : Option Jvm.ClassFile.FieldType), Jvm.Cond.code ({ cls := "SliceAggregate", name := "loadBack", desc := "(III)V" } : Jvm.MethodName) prog_1_method_30_code (7 : Nat) (Option.none : Option Jvm.ClassFile.FieldType), Jvm.Cond.code ({ cls := "SliceAggregate", name := "storeFront", desc := "(III)V" } : Jvm.MethodName) prog_1_method_33_code (7 : Nat) (Option.none : Option Jvm.ClassFile.FieldType), Jvm.Cond.code ({ cls := "SliceAggregate", name := "takeSnapshot", desc := "(I)V" } : Jvm.MethodName) prog_1_method_25_code (2 : Nat) (Option.none : Option Jvm.ClassFile.FieldType), Jvm.Cond.code ({ cls := "SliceAggregate", name := "liveFold", desc := "(II)V" } : Jvm.MethodName) prog_1_method_24_code (4 : Nat) (Option.none : Option Jvm.ClassFile.FieldType), Jvm.Cond.code ({ cls := "SliceAggregate", name := "loadFront", desc := "(III)V" } : Jvm.MethodName) prog_1_method_32_code (7 : Nat) (Option.none : Option Jvm.ClassFile.FieldType), Jvm.Cond.code ({ cls := "SliceAggregate", name := "queryCount", desc := "()I" } : Jvm.MethodName) prog_1_method_11_code (1 : Nat) (Option.some Jvm.ClassFile.FieldType.int), Jvm.Cond.code ({ cls := "SliceAggregate", name := "queryRange", desc := "(I)I" } : Jvm.MethodName) prog_1_method_9_code (2 : Nat) (Option.some Jvm.ClassFile.FieldType.int), Jvm.Cond.code ({ cls := "SliceAggregate", name := "validQuery", desc := "(I)Z" } : Jvm.MethodName) prog_1_method_14_code (2 : Nat) (Option.some Jvm.ClassFile.FieldType.boolean), Jvm.Cond.code ({ cls := "SliceAggregate", name := "querySlide", desc := "(I)I" } : Jvm.MethodName) prog_1_method_10_code (2 : Nat) (Option.some Jvm.ClassFile.FieldType.int), Jvm.Cond.code ({ cls := "SliceAggregateL5", name := "same", desc := "(LSliceAggregate;LSliceAggregate;)Z" } : Jvm.MethodName) method_2_code (4 : Nat) (Option.some Jvm.ClassFile.FieldType.boolean), Jvm.Cond.code ({ cls := "SliceAggregate", name := "tupleCount", desc := "()I" } : Jvm.MethodName) prog_1_method_12_code (1 : Nat) (Option.some Jvm.ClassFile.FieldType.int), Jvm.Cond.code ({ cls := "SliceAggregate", name := "windowStart", desc := "(I)I" } : Jvm.MethodName) prog_1_method_6_code (3 : Nat) (Option.some Jvm.ClassFile.FieldType.int), Jvm.Cond.code ({ cls := "SliceAggregate", name := "endOf", desc := "(I)I" } : Jvm.MethodName) prog_1_method_19_code (3 : Nat) (Option.some Jvm.ClassFile.FieldType.int), Jvm.Cond.code ({ cls := "SliceAggregate", name := "windowEnd", desc := "(I)I" } : Jvm.MethodName) prog_1_method_7_code (2 : Nat) (Option.some Jvm.ClassFile.FieldType.int), Jvm.Cond.code ({ cls := "SliceAggregate", name := "evaluations", desc := "(I)I" } : Jvm.MethodName) prog_1_method_8_code (3 : Nat) (Option.some Jvm.ClassFile.FieldType.int), Jvm.Cond.code ({ cls := "SliceAggregate", name := "result", desc := "(II)I" } : Jvm.MethodName) prog_1_method_4_code (3 : Nat) (Option.some Jvm.ClassFile.FieldType.int), Jvm.Cond.code ({ cls := "SliceAggregate", name := "validEntry", desc := "(I)Z" } : Jvm.MethodName) prog_1_method_15_code (2 : Nat) (Option.some Jvm.ClassFile.FieldType.boolean), Jvm.Cond.code ({ cls := "SliceAggregate", name := "liveResult", desc := "(II)I" } : Jvm.MethodName) prog_1_method_5_code (3 : Nat) (Option.some Jvm.ClassFile.FieldType.int), Jvm.Cond.code ({ cls := "SliceAggregate", name := "regEntry", desc := "(II)I" } : Jvm.MethodName) prog_1_method_28_code (3 : Nat) (Option.some Jvm.ClassFile.FieldType.int)]
set_option maxRecDepth 65536 in
theorem codes_eq : words1.filter isCode = codes1 := rfl
theorem w_codes : ∀ c ∈ words1.filter isCode, c.before args0 about1 = true := by
  rw [codes_eq]
  intro c hc
  simp only [codes1, List.mem_cons, List.not_mem_nil, or_false] at hc
  rcases hc with rfl | rfl | rfl | rfl | rfl | rfl | rfl | rfl | rfl | rfl | rfl | rfl | rfl | rfl | rfl | rfl | rfl | rfl | rfl | rfl | rfl | rfl | rfl | rfl | rfl | rfl | rfl | rfl | rfl | rfl | rfl | rfl | rfl | rfl | rfl | rfl | rfl | rfl | rfl | rfl
  · exact w_c0
  · exact w_c1
  · exact w_c2
  · exact w_c3
  · exact w_c4
  · exact w_c5
  · exact w_c6
  · exact w_c7
  · exact w_c8
  · exact w_c9
  · exact w_c10
  · exact w_c11
  · exact w_c12
  · exact w_c13
  · exact w_c14
  · exact w_c15
  · exact w_c16
  · exact w_c17
  · exact w_c18
  · exact w_c19
  · exact w_c20
  · exact w_c21
  · exact w_c22
  · exact w_c23
  · exact w_c24
  · exact w_c25
  · exact w_c26
  · exact w_c27
  · exact w_c28
  · exact w_c29
  · exact w_c30
  · exact w_c31
  · exact w_c32
  · exact w_c33
  · exact w_c34
  · exact w_c35
  · exact w_c36
  · exact w_c37
  · exact w_c38
  · exact w_c39
set_option maxRecDepth 65536 in
theorem w_t1 : (words1.take 24).all (fun c => isCode c || c.before args0 about1) = true := by decide +kernel
set_option maxRecDepth 65536 in
theorem w_t2 : ((words1.drop 24).take 24).all (fun c => isCode c || c.before args0 about1) = true := by decide +kernel
set_option maxRecDepth 65536 in
theorem w_t3 : (((words1.drop 24).drop 24).take 24).all (fun c => isCode c || c.before args0 about1) = true := by decide +kernel
set_option maxRecDepth 65536 in
theorem w_t4 : ((((words1.drop 24).drop 24).drop 24).take 24).all (fun c => isCode c || c.before args0 about1) = true := by decide +kernel
set_option maxRecDepth 65536 in
theorem w_t5 : (((((words1.drop 24).drop 24).drop 24).drop 24).take 24).all (fun c => isCode c || c.before args0 about1) = true := by decide +kernel
set_option maxRecDepth 65536 in
theorem w_t6 : ((((((words1.drop 24).drop 24).drop 24).drop 24).drop 24).take 24).all (fun c => isCode c || c.before args0 about1) = true := by decide +kernel
set_option maxRecDepth 65536 in
theorem w_t7 : (((((((words1.drop 24).drop 24).drop 24).drop 24).drop 24).drop 24).take 24).all (fun c => isCode c || c.before args0 about1) = true := by decide +kernel
set_option maxRecDepth 65536 in
theorem w_t8 : ((((((((words1.drop 24).drop 24).drop 24).drop 24).drop 24).drop 24).drop 24).take 24).all (fun c => isCode c || c.before args0 about1) = true := by decide +kernel
set_option maxRecDepth 65536 in
theorem w_t9 : ((((((((words1.drop 24).drop 24).drop 24).drop 24).drop 24).drop 24).drop 24).drop 24).all (fun c => isCode c || c.before args0 about1) = true := by decide +kernel
theorem w_tables : (allAtoms (Jvm.Cond.code x code maxLocals ret :: tables_1)).before args0 about1 = true := by
  rw [allAtoms_all]
  show words1.all (fun c => c.before args0 about1) = true
  refine all_split ?_ w_codes
  rw [← List.take_append_drop 24 words1, List.all_append, w_t1, ← List.take_append_drop 24 (words1.drop 24), List.all_append, w_t2, ← List.take_append_drop 24 ((words1.drop 24).drop 24), List.all_append, w_t3, ← List.take_append_drop 24 (((words1.drop 24).drop 24).drop 24), List.all_append, w_t4, ← List.take_append_drop 24 ((((words1.drop 24).drop 24).drop 24).drop 24), List.all_append, w_t5, ← List.take_append_drop 24 (((((words1.drop 24).drop 24).drop 24).drop 24).drop 24), List.all_append, w_t6, ← List.take_append_drop 24 ((((((words1.drop 24).drop 24).drop 24).drop 24).drop 24).drop 24), List.all_append, w_t7, ← List.take_append_drop 24 (((((((words1.drop 24).drop 24).drop 24).drop 24).drop 24).drop 24).drop 24), List.all_append, w_t8, w_t9]
  rfl
set_option maxRecDepth 65536 in
theorem w_rest : rest_1_c.before args0 about1 = true := by decide +kernel
set_option maxRecDepth 65536 in
theorem w_case : (Jvm.Cond.and given_1 narrow_1).before args0 about1 = true := by decide +kernel
theorem w_applies : (headSpec (Jvm.Cond.code x code maxLocals ret :: tables_1) room_1).applies x e0.platform about1 = true :=
  (Spec.applies_iff w_frames).mpr ⟨w_running, w_runnable, w_alone, w_named, w_hears, w_ripe, w_room, w_tables⟩
theorem atStart : AtStart classFile x code maxLocals ret World_1 tables_1 room_1 Calls_1 rest_1 Pre_1 launch0 p0 e0 about1 theMethod args0 below0 :=
  ⟨lists_1, trivial, launch0.admits_env _ _ _, launch0.least_env, fairChoices_fair.cas, fairChoices_fair.clock, w_frames, w_args, w_heap, w_applies, trivial, w_rest, w_case⟩
end start1
theorem witness_1 : WitnessClaimed_1 := ⟨start1.p0, start1.e0, start1.about1, start1.theMethod, start1.args0, start1.below0, start1.atStart⟩
end Jvm.Pilot.@@N@@
