import JvmDerived
import JvmDerived.Pilot.@@N@@Statement
import JvmDerived.Pilot.@@N@@Code
set_option linter.unusedVariables false
set_option linter.unusedSimpArgs false
namespace Jvm.RoadKit
open Sem ClassFile Op Lib Jvm.Stand Jvm.Free Jvm.LawKit
section New
variable {p : Program} {l : Launch} {e : Env} {R : Room} {s : State} {m : MethodId} {args : Array Value} {below : List Frame} {meth : Method} {c : Code} {T : State} {locs : List Loc} {cells slots : Nat}
theorem retI (X : Stand p l e R s m args below meth c T locs cells slots) (hx : p.tables.exec = Jvm.exec) {pc : Nat} {Ls : Array Slot} {z : Int32} {rest : List Value} (hret : meth.sig.returnType = some .int) (hd : decode c.code pc = .ok (.ireturn, 1)) {fs : List Frame}
    (hl : ∀ (f : JFrame) (acts : List Action), f.method = m → f.locked = none → f.entered = [] → (doReturn e (T.setTop f) acts (some (.int z))).1 = T.setFrames fs) : Steps p.tables e below (T.setTop (mkF m pc Ls (.int z :: rest))) (T.setFrames fs) := by
  have hm' : T.vm.method? m = some meth := X.method'
  have hn : narrow .int (.int z) = .int z := rfl
  show Steps p.tables e below (T.setTop { method := m, pc := pc, locals := Ls, stack := _ :: rest, locked := none }) _
  jvm_step X.here [X.here.top, hx, hd, hm', hret, hn]
  first | (intro acts; rw [hl _ acts rfl rfl rfl]) | rw [hl _ _ rfl rfl rfl]
  exact Steps.refl _
end New
end Jvm.RoadKit
namespace Jvm.Pilot.@@N@@
open Jvm Jvm.ClassFile Sem Op Lib Jvm.Free Jvm.Stand Jvm.LawKit Jvm.RoadKit Bundle Jvm.Pilot.@@N@@.Jvm.D
/-! TABLES of this claim: printed by claim.py -/
def k0 : Nat := 1
def cName : String := "SliceAggregate"
def cN : Nat := 18
def nF : Nat := 18
def kName (k : Nat) : String := bif Nat.beq k 0 then "SliceAggregateL6" else "SliceAggregate"
def fNm (k : Nat) : String := (bif Nat.ble 9 k then (bif Nat.ble 13 k then (bif Nat.ble 15 k then (bif Nat.ble 16 k then (bif Nat.ble 17 k then "n" else "queries") else "capacity") else (bif Nat.ble 14 k then "reg" else "snap")) else (bif Nat.ble 11 k then (bif Nat.ble 12 k then "backAgg" else "frontAgg") else (bif Nat.ble 10 k then "backElem" else "backSize"))) else (bif Nat.ble 4 k then (bif Nat.ble 6 k then (bif Nat.ble 7 k then (bif Nat.ble 8 k then "frontSize" else "slide") else "range") else (bif Nat.ble 5 k then "slots" else "regCount")) else (bif Nat.ble 2 k then (bif Nat.ble 3 k then "regC" else "regB") else (bif Nat.ble 1 k then "regA" else "regTuple"))))
def fDs (k : Nat) : String := (bif Nat.ble 9 k then (bif Nat.ble 13 k then (bif Nat.ble 15 k then (bif Nat.ble 16 k then (bif Nat.ble 17 k then "I" else "I") else "I") else (bif Nat.ble 14 k then "[I" else "[I")) else (bif Nat.ble 11 k then (bif Nat.ble 12 k then "[I" else "[I") else (bif Nat.ble 10 k then "[I" else "[I"))) else (bif Nat.ble 4 k then (bif Nat.ble 6 k then (bif Nat.ble 7 k then (bif Nat.ble 8 k then "[I" else "[I") else "[I") else (bif Nat.ble 5 k then "I" else "I")) else (bif Nat.ble 2 k then (bif Nat.ble 3 k then "I" else "I") else (bif Nat.ble 1 k then "I" else "I"))))
def fTy (k : Nat) : FieldType := (bif Nat.ble 9 k then (bif Nat.ble 13 k then (bif Nat.ble 15 k then (bif Nat.ble 16 k then (bif Nat.ble 17 k then .int else .int) else .int) else (bif Nat.ble 14 k then (.array .int) else (.array .int))) else (bif Nat.ble 11 k then (bif Nat.ble 12 k then (.array .int) else (.array .int)) else (bif Nat.ble 10 k then (.array .int) else (.array .int)))) else (bif Nat.ble 4 k then (bif Nat.ble 6 k then (bif Nat.ble 7 k then (bif Nat.ble 8 k then (.array .int) else (.array .int)) else (.array .int)) else (bif Nat.ble 5 k then .int else .int)) else (bif Nat.ble 2 k then (bif Nat.ble 3 k then .int else .int) else (bif Nat.ble 1 k then .int else .int))))
def fFin (k : Nat) : Bool := (bif Nat.ble 9 k then (bif Nat.ble 13 k then (bif Nat.ble 15 k then (bif Nat.ble 16 k then (bif Nat.ble 17 k then false else false) else false) else (bif Nat.ble 14 k then true else true)) else (bif Nat.ble 11 k then (bif Nat.ble 12 k then true else true) else (bif Nat.ble 10 k then true else true))) else (bif Nat.ble 4 k then (bif Nat.ble 6 k then (bif Nat.ble 7 k then (bif Nat.ble 8 k then true else true) else true) else (bif Nat.ble 5 k then true else true)) else (bif Nat.ble 2 k then (bif Nat.ble 3 k then true else true) else (bif Nat.ble 1 k then true else true))))
def cDef : List Value := [.int 0, .int 0, .int 0, .int 0, .int 0, .int 0, .null, .null, .null, .null, .null, .null, .null, .null, .null, .int 0, .int 0, .int 0]
def cK : List Value := [.int (2147483647)]
def pN : Nat := 40
def pTop (m : Nat) : Nat := (bif Nat.ble 20 m then (bif Nat.ble 30 m then (bif Nat.ble 35 m then (bif Nat.ble 37 m then (bif Nat.ble 38 m then (bif Nat.ble 39 m then 67 else 13) else 67) else (bif Nat.ble 36 m then 67 else 85)) else (bif Nat.ble 32 m then (bif Nat.ble 33 m then (bif Nat.ble 34 m then 38 else 9) else 67) else (bif Nat.ble 31 m then 25 else 92))) else (bif Nat.ble 25 m then (bif Nat.ble 27 m then (bif Nat.ble 28 m then (bif Nat.ble 29 m then 29 else 203) else 58) else (bif Nat.ble 26 m then 42 else 102)) else (bif Nat.ble 22 m then (bif Nat.ble 23 m then (bif Nat.ble 24 m then 15 else 23) else 24) else (bif Nat.ble 21 m then 84 else 33)))) else (bif Nat.ble 10 m then (bif Nat.ble 15 m then (bif Nat.ble 17 m then (bif Nat.ble 18 m then (bif Nat.ble 19 m then 31 else 31) else 16) else (bif Nat.ble 16 m then 31 else 17)) else (bif Nat.ble 12 m then (bif Nat.ble 13 m then (bif Nat.ble 14 m then 23 else 17) else 308) else (bif Nat.ble 11 m then 5 else 5))) else (bif Nat.ble 5 m then (bif Nat.ble 7 m then (bif Nat.ble 8 m then (bif Nat.ble 9 m then 84 else 17) else 58) else (bif Nat.ble 6 m then 58 else 15)) else (bif Nat.ble 2 m then (bif Nat.ble 3 m then (bif Nat.ble 4 m then 55 else 10) else 42) else (bif Nat.ble 1 m then 155 else 653)))))
def pK (m : Nat) : Nat := (bif Nat.ble 20 m then (bif Nat.ble 30 m then (bif Nat.ble 35 m then (bif Nat.ble 37 m then (bif Nat.ble 38 m then (bif Nat.ble 39 m then 1 else 1) else 1) else (bif Nat.ble 36 m then 1 else 1)) else (bif Nat.ble 32 m then (bif Nat.ble 33 m then (bif Nat.ble 34 m then 1 else 1) else 1) else (bif Nat.ble 31 m then 1 else 1))) else (bif Nat.ble 25 m then (bif Nat.ble 27 m then (bif Nat.ble 28 m then (bif Nat.ble 29 m then 1 else 1) else 1) else (bif Nat.ble 26 m then 1 else 0)) else (bif Nat.ble 22 m then (bif Nat.ble 23 m then (bif Nat.ble 24 m then 1 else 1) else 1) else (bif Nat.ble 21 m then 1 else 1)))) else (bif Nat.ble 10 m then (bif Nat.ble 15 m then (bif Nat.ble 17 m then (bif Nat.ble 18 m then (bif Nat.ble 19 m then 1 else 1) else 1) else (bif Nat.ble 16 m then 1 else 1)) else (bif Nat.ble 12 m then (bif Nat.ble 13 m then (bif Nat.ble 14 m then 1 else 1) else 0) else (bif Nat.ble 11 m then 1 else 1))) else (bif Nat.ble 5 m then (bif Nat.ble 7 m then (bif Nat.ble 8 m then (bif Nat.ble 9 m then 1 else 0) else 1) else (bif Nat.ble 6 m then 1 else 1)) else (bif Nat.ble 2 m then (bif Nat.ble 3 m then (bif Nat.ble 4 m then 1 else 1) else 1) else (bif Nat.ble 1 m then 1 else 0)))))
def pNm (m : Nat) : String := (bif Nat.ble 20 m then (bif Nat.ble 30 m then (bif Nat.ble 35 m then (bif Nat.ble 37 m then (bif Nat.ble 38 m then (bif Nat.ble 39 m then "loadFront" else "takeSnapshot") else "storeFront") else (bif Nat.ble 36 m then "loadBack" else "flip")) else (bif Nat.ble 32 m then (bif Nat.ble 33 m then (bif Nat.ble 34 m then "evictOldest" else "slotOffset") else "storeBack") else (bif Nat.ble 31 m then "validSlot" else "appendToQuery"))) else (bif Nat.ble 25 m then (bif Nat.ble 27 m then (bif Nat.ble 28 m then (bif Nat.ble 29 m then "regEntry" else "regMul") else "loadBackAgg") else (bif Nat.ble 26 m then "liveFold" else "fold")) else (bif Nat.ble 22 m then (bif Nat.ble 23 m then (bif Nat.ble 24 m then "validEntry" else "endOf") else "clearStream") else (bif Nat.ble 21 m then "addQuery" else "liveResult")))) else (bif Nat.ble 10 m then (bif Nat.ble 15 m then (bif Nat.ble 17 m then (bif Nat.ble 18 m then (bif Nat.ble 19 m then "result" else "evaluations") else "windowEnd") else (bif Nat.ble 16 m then "windowStart" else "querySlide")) else (bif Nat.ble 12 m then (bif Nat.ble 13 m then (bif Nat.ble 14 m then "validQuery" else "queryRange") else "query") else (bif Nat.ble 11 m then "queryCount" else "tupleCount"))) else (bif Nat.ble 5 m then (bif Nat.ble 7 m then (bif Nat.ble 8 m then (bif Nat.ble 9 m then "push" else "moved") else "storeSnap") else (bif Nat.ble 6 m then "storeBackAgg" else "validReg")) else (bif Nat.ble 2 m then (bif Nat.ble 3 m then (bif Nat.ble 4 m then "regSet" else "regIdentity") else "resetQuery") else (bif Nat.ble 1 m then "<init>" else "law")))))
def pDs (m : Nat) : String := (bif Nat.ble 20 m then (bif Nat.ble 30 m then (bif Nat.ble 35 m then (bif Nat.ble 37 m then (bif Nat.ble 38 m then (bif Nat.ble 39 m then "(III)V" else "(I)V") else "(III)V") else (bif Nat.ble 36 m then "(III)V" else "(I)V")) else (bif Nat.ble 32 m then (bif Nat.ble 33 m then (bif Nat.ble 34 m then "(I)V" else "(II)I") else "(III)V") else (bif Nat.ble 31 m then "(II)Z" else "(I)V"))) else (bif Nat.ble 25 m then (bif Nat.ble 27 m then (bif Nat.ble 28 m then (bif Nat.ble 29 m then "(II)I" else "(III)V") else "(II)V") else (bif Nat.ble 26 m then "(II)V" else "(LSliceAggregate;IZIIII)Z")) else (bif Nat.ble 22 m then (bif Nat.ble 23 m then (bif Nat.ble 24 m then "(I)Z" else "(I)I") else "()V") else (bif Nat.ble 21 m then "(II)I" else "(II)I")))) else (bif Nat.ble 10 m then (bif Nat.ble 15 m then (bif Nat.ble 17 m then (bif Nat.ble 18 m then (bif Nat.ble 19 m then "(II)I" else "(I)I") else "(I)I") else (bif Nat.ble 16 m then "(I)I" else "(I)I")) else (bif Nat.ble 12 m then (bif Nat.ble 13 m then (bif Nat.ble 14 m then "(I)Z" else "(I)I") else "(LSliceAggregate;IIIIIIIIIIIII)Z") else (bif Nat.ble 11 m then "()I" else "()I"))) else (bif Nat.ble 5 m then (bif Nat.ble 7 m then (bif Nat.ble 8 m then (bif Nat.ble 9 m then "(IIII)I" else "(IIII)I") else "(II)V") else (bif Nat.ble 6 m then "(II)V" else "(I)Z")) else (bif Nat.ble 2 m then (bif Nat.ble 3 m then (bif Nat.ble 4 m then "(IIIII)V" else "(I)V") else "(I)V") else (bif Nat.ble 1 m then "(I)V" else "([I)Z")))))
def pName (m : Nat) : MethodName := ⟨kName (pK m), pNm m, pDs m⟩
def pBytes (m : Nat) : ByteArray := (bif Nat.ble 20 m then (bif Nat.ble 30 m then (bif Nat.ble 35 m then (bif Nat.ble 37 m then (bif Nat.ble 38 m then (bif Nat.ble 39 m then prog_1_method_32_code else prog_1_method_25_code) else prog_1_method_33_code) else (bif Nat.ble 36 m then prog_1_method_30_code else prog_1_method_23_code)) else (bif Nat.ble 32 m then (bif Nat.ble 33 m then (bif Nat.ble 34 m then prog_1_method_22_code else prog_1_method_18_code) else prog_1_method_31_code) else (bif Nat.ble 31 m then prog_1_method_17_code else prog_1_method_21_code))) else (bif Nat.ble 25 m then (bif Nat.ble 27 m then (bif Nat.ble 28 m then (bif Nat.ble 29 m then prog_1_method_28_code else prog_1_method_29_code) else prog_1_method_34_code) else (bif Nat.ble 26 m then prog_1_method_24_code else method_5_code)) else (bif Nat.ble 22 m then (bif Nat.ble 23 m then (bif Nat.ble 24 m then prog_1_method_15_code else prog_1_method_19_code) else prog_1_method_13_code) else (bif Nat.ble 21 m then prog_1_method_2_code else prog_1_method_5_code)))) else (bif Nat.ble 10 m then (bif Nat.ble 15 m then (bif Nat.ble 17 m then (bif Nat.ble 18 m then (bif Nat.ble 19 m then prog_1_method_4_code else prog_1_method_8_code) else prog_1_method_7_code) else (bif Nat.ble 16 m then prog_1_method_6_code else prog_1_method_10_code)) else (bif Nat.ble 12 m then (bif Nat.ble 13 m then (bif Nat.ble 14 m then prog_1_method_14_code else prog_1_method_9_code) else method_4_code) else (bif Nat.ble 11 m then prog_1_method_11_code else prog_1_method_12_code))) else (bif Nat.ble 5 m then (bif Nat.ble 7 m then (bif Nat.ble 8 m then (bif Nat.ble 9 m then prog_1_method_3_code else method_3_code) else prog_1_method_36_code) else (bif Nat.ble 6 m then prog_1_method_35_code else prog_1_method_16_code)) else (bif Nat.ble 2 m then (bif Nat.ble 3 m then (bif Nat.ble 4 m then prog_1_method_26_code else prog_1_method_27_code) else prog_1_method_20_code) else (bif Nat.ble 1 m then prog_1_method_1_code else code)))))
def pMaxL (m : Nat) : Nat := (bif Nat.ble 20 m then (bif Nat.ble 30 m then (bif Nat.ble 35 m then (bif Nat.ble 37 m then (bif Nat.ble 38 m then (bif Nat.ble 39 m then 7 else 2) else 7) else (bif Nat.ble 36 m then 7 else 4)) else (bif Nat.ble 32 m then (bif Nat.ble 33 m then (bif Nat.ble 34 m then 2 else 3) else 7) else (bif Nat.ble 31 m then 3 else 4))) else (bif Nat.ble 25 m then (bif Nat.ble 27 m then (bif Nat.ble 28 m then (bif Nat.ble 29 m then 3 else 15) else 5) else (bif Nat.ble 26 m then 4 else 7)) else (bif Nat.ble 22 m then (bif Nat.ble 23 m then (bif Nat.ble 24 m then 2 else 3) else 2) else (bif Nat.ble 21 m then 4 else 3)))) else (bif Nat.ble 10 m then (bif Nat.ble 15 m then (bif Nat.ble 17 m then (bif Nat.ble 18 m then (bif Nat.ble 19 m then 3 else 3) else 2) else (bif Nat.ble 16 m then 3 else 2)) else (bif Nat.ble 12 m then (bif Nat.ble 13 m then (bif Nat.ble 14 m then 2 else 2) else 17) else (bif Nat.ble 11 m then 1 else 1))) else (bif Nat.ble 5 m then (bif Nat.ble 7 m then (bif Nat.ble 8 m then (bif Nat.ble 9 m then 8 else 4) else 5) else (bif Nat.ble 6 m then 5 else 2)) else (bif Nat.ble 2 m then (bif Nat.ble 3 m then (bif Nat.ble 4 m then 7 else 2) else 2) else (bif Nat.ble 1 m then 4 else 32)))))
def pRet (m : Nat) : Option FieldType := (bif Nat.ble 20 m then (bif Nat.ble 30 m then (bif Nat.ble 35 m then (bif Nat.ble 37 m then (bif Nat.ble 38 m then (bif Nat.ble 39 m then none else none) else none) else (bif Nat.ble 36 m then none else none)) else (bif Nat.ble 32 m then (bif Nat.ble 33 m then (bif Nat.ble 34 m then none else (some .int)) else none) else (bif Nat.ble 31 m then (some .boolean) else none))) else (bif Nat.ble 25 m then (bif Nat.ble 27 m then (bif Nat.ble 28 m then (bif Nat.ble 29 m then (some .int) else none) else none) else (bif Nat.ble 26 m then none else (some .boolean))) else (bif Nat.ble 22 m then (bif Nat.ble 23 m then (bif Nat.ble 24 m then (some .boolean) else (some .int)) else none) else (bif Nat.ble 21 m then (some .int) else (some .int))))) else (bif Nat.ble 10 m then (bif Nat.ble 15 m then (bif Nat.ble 17 m then (bif Nat.ble 18 m then (bif Nat.ble 19 m then (some .int) else (some .int)) else (some .int)) else (bif Nat.ble 16 m then (some .int) else (some .int))) else (bif Nat.ble 12 m then (bif Nat.ble 13 m then (bif Nat.ble 14 m then (some .boolean) else (some .int)) else (some .boolean)) else (bif Nat.ble 11 m then (some .int) else (some .int)))) else (bif Nat.ble 5 m then (bif Nat.ble 7 m then (bif Nat.ble 8 m then (bif Nat.ble 9 m then (some .int) else (some .int)) else none) else (bif Nat.ble 6 m then none else (some .boolean))) else (bif Nat.ble 2 m then (bif Nat.ble 3 m then (bif Nat.ble 4 m then none else none) else none) else (bif Nat.ble 1 m then none else (some .boolean))))))
def pNA (m : Nat) : Nat := (bif Nat.ble 20 m then (bif Nat.ble 30 m then (bif Nat.ble 35 m then (bif Nat.ble 37 m then (bif Nat.ble 38 m then (bif Nat.ble 39 m then 3 else 1) else 3) else (bif Nat.ble 36 m then 3 else 1)) else (bif Nat.ble 32 m then (bif Nat.ble 33 m then (bif Nat.ble 34 m then 1 else 2) else 3) else (bif Nat.ble 31 m then 2 else 1))) else (bif Nat.ble 25 m then (bif Nat.ble 27 m then (bif Nat.ble 28 m then (bif Nat.ble 29 m then 2 else 3) else 2) else (bif Nat.ble 26 m then 2 else 7)) else (bif Nat.ble 22 m then (bif Nat.ble 23 m then (bif Nat.ble 24 m then 1 else 1) else 0) else (bif Nat.ble 21 m then 2 else 2)))) else (bif Nat.ble 10 m then (bif Nat.ble 15 m then (bif Nat.ble 17 m then (bif Nat.ble 18 m then (bif Nat.ble 19 m then 2 else 1) else 1) else (bif Nat.ble 16 m then 1 else 1)) else (bif Nat.ble 12 m then (bif Nat.ble 13 m then (bif Nat.ble 14 m then 1 else 1) else 14) else (bif Nat.ble 11 m then 0 else 0))) else (bif Nat.ble 5 m then (bif Nat.ble 7 m then (bif Nat.ble 8 m then (bif Nat.ble 9 m then 4 else 4) else 2) else (bif Nat.ble 6 m then 2 else 1)) else (bif Nat.ble 2 m then (bif Nat.ble 3 m then (bif Nat.ble 4 m then 5 else 1) else 1) else (bif Nat.ble 1 m then 1 else 1)))))
def pFr (m : Nat) : Nat := (bif Nat.ble 20 m then (bif Nat.ble 30 m then (bif Nat.ble 35 m then (bif Nat.ble 37 m then (bif Nat.ble 38 m then (bif Nat.ble 39 m then 1 else 4) else 1) else (bif Nat.ble 36 m then 1 else 3)) else (bif Nat.ble 32 m then (bif Nat.ble 33 m then (bif Nat.ble 34 m then 4 else 0) else 1) else (bif Nat.ble 31 m then 0 else 5))) else (bif Nat.ble 25 m then (bif Nat.ble 27 m then (bif Nat.ble 28 m then (bif Nat.ble 29 m then 1 else 1) else 1) else (bif Nat.ble 26 m then 3 else 5)) else (bif Nat.ble 22 m then (bif Nat.ble 23 m then (bif Nat.ble 24 m then 0 else 0) else 4) else (bif Nat.ble 21 m then 4 else 4)))) else (bif Nat.ble 10 m then (bif Nat.ble 15 m then (bif Nat.ble 17 m then (bif Nat.ble 18 m then (bif Nat.ble 19 m then 1 else 1) else 1) else (bif Nat.ble 16 m then 1 else 1)) else (bif Nat.ble 12 m then (bif Nat.ble 13 m then (bif Nat.ble 14 m then 0 else 1) else 6) else (bif Nat.ble 11 m then 0 else 0))) else (bif Nat.ble 5 m then (bif Nat.ble 7 m then (bif Nat.ble 8 m then (bif Nat.ble 9 m then 6 else 0) else 1) else (bif Nat.ble 6 m then 1 else 0)) else (bif Nat.ble 2 m then (bif Nat.ble 3 m then (bif Nat.ble 4 m then 1 else 2) else 3) else (bif Nat.ble 1 m then 4 else 7)))))
def pLo (m : Nat) : Nat := (bif Nat.ble 20 m then (bif Nat.ble 30 m then (bif Nat.ble 35 m then (bif Nat.ble 37 m then (bif Nat.ble 38 m then (bif Nat.ble 39 m then 14 else 59) else 14) else (bif Nat.ble 36 m then 14 else 44)) else (bif Nat.ble 32 m then (bif Nat.ble 33 m then (bif Nat.ble 34 m then 59 else 0) else 14) else (bif Nat.ble 31 m then 0 else 72))) else (bif Nat.ble 25 m then (bif Nat.ble 27 m then (bif Nat.ble 28 m then (bif Nat.ble 29 m then 13 else 13) else 13) else (bif Nat.ble 26 m then 44 else 73)) else (bif Nat.ble 22 m then (bif Nat.ble 23 m then (bif Nat.ble 24 m then 0 else 0) else 57) else (bif Nat.ble 21 m then 57 else 59)))) else (bif Nat.ble 10 m then (bif Nat.ble 15 m then (bif Nat.ble 17 m then (bif Nat.ble 18 m then (bif Nat.ble 19 m then 13 else 13) else 14) else (bif Nat.ble 16 m then 14 else 13)) else (bif Nat.ble 12 m then (bif Nat.ble 13 m then (bif Nat.ble 14 m then 0 else 13) else 91) else (bif Nat.ble 11 m then 0 else 0))) else (bif Nat.ble 5 m then (bif Nat.ble 7 m then (bif Nat.ble 8 m then (bif Nat.ble 9 m then 87 else 0) else 13) else (bif Nat.ble 6 m then 13 else 0)) else (bif Nat.ble 2 m then (bif Nat.ble 3 m then (bif Nat.ble 4 m then 13 else 31) else 44) else (bif Nat.ble 1 m then 57 else 119)))))
def tB (k p : Nat) (a b : Option (Instr × Nat)) : Option (Instr × Nat) := bif Nat.ble k p then a else b
def tL (k p : Nat) (i : Instr) (x : Nat) : Option (Instr × Nat) := bif Nat.beq p k then some (i, x) else none
set_option maxHeartbeats 4000000 in
def cd0 (p : Nat) : Option (Instr × Nat) := (tB 314 p (tB 480 p (tB 563 p (tB 610 p (tB 629 p (tB 643 p (tB 648 p (tB 651 p (tB 652 p (tL 652 p .ireturn 0) (tL 651 p (.iconst 1) 0)) (tL 648 p (.goto (-556)) 92)) (tB 644 p (tB 645 p (tL 645 p (.iinc 21 5) 0) (tL 644 p .ireturn 0)) (tL 643 p (.iconst 0) 0))) (tB 635 p (tB 637 p (tB 640 p (tL 640 p (.ifCond .ne 5) 645) (tL 637 p (.invokestatic 36) 12)) (tL 635 p (.iload 20) 0)) (tB 631 p (tB 633 p (tL 633 p (.iload 19) 0) (tL 631 p (.iload 18) 0)) (tL 629 p (.iload 17) 0)))) (tB 617 p (tB 623 p (tB 625 p (tB 627 p (tL 627 p (.iload 16) 0) (tL 625 p (.iload 15) 0)) (tL 623 p (.iload 14) 0)) (tB 619 p (tB 621 p (tL 621 p (.iload 13) 0) (tL 619 p (.iload 12) 0)) (tL 617 p (.iload 8) 0))) (tB 613 p (tB 614 p (tB 615 p (tL 615 p (.iload 4) 0) (tL 614 p (.iload_n 3) 0)) (tL 613 p (.iconst 3) 0)) (tB 611 p (tB 612 p (tL 612 p (.aload_n 2) 0) (tL 611 p .ireturn 0)) (tL 610 p (.iconst 0) 0))))) (tB 584 p (tB 596 p (tB 602 p (tB 604 p (tB 607 p (tL 607 p (.ifCond .ne 5) 612) (tL 604 p (.invokestatic 36) 12)) (tL 602 p (.iload 20) 0)) (tB 598 p (tB 600 p (tL 600 p (.iload 19) 0) (tL 598 p (.iload 18) 0)) (tL 596 p (.iload 17) 0))) (tB 590 p (tB 592 p (tB 594 p (tL 594 p (.iload 16) 0) (tL 592 p (.iload 15) 0)) (tL 590 p (.iload 14) 0)) (tB 586 p (tB 588 p (tL 588 p (.iload 13) 0) (tL 586 p (.iload 11) 0)) (tL 584 p (.iload 7) 0)))) (tB 577 p (tB 580 p (tB 581 p (tB 582 p (tL 582 p (.iload 4) 0) (tL 581 p (.iload_n 3) 0)) (tL 580 p (.iconst 2) 0)) (tB 578 p (tB 579 p (tL 579 p (.aload_n 2) 0) (tL 578 p .ireturn 0)) (tL 577 p (.iconst 0) 0))) (tB 569 p (tB 571 p (tB 574 p (tL 574 p (.ifCond .ne 5) 579) (tL 571 p (.invokestatic 36) 12)) (tL 569 p (.iload 20) 0)) (tB 565 p (tB 567 p (tL 567 p (.iload 19) 0) (tL 565 p (.iload 18) 0)) (tL 563 p (.iload 17) 0)))))) (tB 518 p (tB 544 p (tB 551 p (tB 557 p (tB 559 p (tB 561 p (tL 561 p (.iload 16) 0) (tL 559 p (.iload 15) 0)) (tL 557 p (.iload 14) 0)) (tB 553 p (tB 555 p (tL 555 p (.iload 13) 0) (tL 553 p (.iload 10) 0)) (tL 551 p (.iload 6) 0))) (tB 547 p (tB 548 p (tB 549 p (tL 549 p (.iload 4) 0) (tL 548 p (.iload_n 3) 0)) (tL 547 p (.iconst 1) 0)) (tB 545 p (tB 546 p (tL 546 p (.aload_n 2) 0) (tL 545 p .ireturn 0)) (tL 544 p (.iconst 0) 0)))) (tB 530 p (tB 536 p (tB 538 p (tB 541 p (tL 541 p (.ifCond .ne 5) 546) (tL 538 p (.invokestatic 36) 12)) (tL 536 p (.iload 20) 0)) (tB 532 p (tB 534 p (tL 534 p (.iload 19) 0) (tL 532 p (.iload 18) 0)) (tL 530 p (.iload 17) 0))) (tB 524 p (tB 526 p (tB 528 p (tL 528 p (.iload 16) 0) (tL 526 p (.iload 15) 0)) (tL 524 p (.iload 14) 0)) (tB 520 p (tB 522 p (tL 522 p (.iload 13) 0) (tL 520 p (.iload 9) 0)) (tL 518 p (.iload 5) 0))))) (tB 498 p (tB 511 p (tB 514 p (tB 515 p (tB 516 p (tL 516 p (.iload 4) 0) (tL 515 p (.iload_n 3) 0)) (tL 514 p (.iconst 0) 0)) (tB 512 p (tB 513 p (tL 513 p (.aload_n 2) 0) (tL 512 p .ireturn 0)) (tL 511 p (.iconst 0) 0))) (tB 504 p (tB 507 p (tB 508 p (tL 508 p (.if_icmp .eq 5) 513) (tL 507 p (.iload_n 3) 0)) (tL 504 p (.invokevirtual 33) 11)) (tB 500 p (tB 503 p (tL 503 p (.aload_n 2) 0) (tL 500 p (.if_icmp .ne 11) 511)) (tL 498 p (.iload 4) 0)))) (tB 488 p (tB 492 p (tB 494 p (tB 495 p (tL 495 p (.invokevirtual 29) 10) (tL 494 p (.aload_n 2) 0)) (tL 492 p (.istore 16) 0)) (tB 489 p (tB 491 p (tL 491 p (.iconst 1) 0) (tL 489 p (.istore 15) 0)) (tL 488 p (.iconst 0) 0))) (tB 483 p (tB 485 p (tB 486 p (tL 486 p (.istore 14) 0) (tL 485 p (.iconst 0) 0)) (tL 483 p (.istore 13) 0)) (tB 482 p (tL 482 p (.iconst 1) 0) (tL 480 p (.istore 4) 0))))))) (tB 395 p (tB 434 p (tB 456 p (tB 468 p (tB 475 p (tB 476 p (tB 479 p (tL 479 p (.iconst 0) 0) (tL 476 p (.invokevirtual 26) 22)) (tL 475 p (.aload_n 2) 0)) (tB 470 p (tB 472 p (tL 472 p (.goto 22) 494) (tL 470 p (.istore 20) 0)) (tL 468 p (.iload 26) 0))) (tB 462 p (tB 464 p (tB 466 p (tL 466 p (.istore 19) 0) (tL 464 p (.iload 25) 0)) (tL 462 p (.istore 18) 0)) (tB 458 p (tB 460 p (tL 460 p (.iload 24) 0) (tL 458 p (.istore 17) 0)) (tL 456 p (.iload 23) 0)))) (tB 444 p (tB 450 p (tB 452 p (tB 454 p (tL 454 p (.istore 16) 0) (tL 452 p (.iload 31) 0)) (tL 450 p (.istore 15) 0)) (tB 446 p (tB 448 p (tL 448 p (.iload 30) 0) (tL 446 p (.istore 14) 0)) (tL 444 p (.iload 29) 0))) (tB 438 p (tB 440 p (tB 442 p (tL 442 p (.istore 13) 0) (tL 440 p (.iload 28) 0)) (tL 438 p (.istore 31) 0)) (tB 436 p (tB 437 p (tL 437 p .iadd 0) (tL 436 p .imul 0)) (tL 434 p (.iload 26) 0))))) (tB 414 p (tB 424 p (tB 429 p (tB 431 p (tB 432 p (tL 432 p (.iload 16) 0) (tL 431 p .imul 0)) (tL 429 p (.iload 24) 0)) (tB 425 p (tB 427 p (tL 427 p (.iload 15) 0) (tL 425 p (.istore 30) 0)) (tL 424 p .iadd 0))) (tB 419 p (tB 421 p (tB 423 p (tL 423 p .imul 0) (tL 421 p (.iload 25) 0)) (tL 419 p (.iload 16) 0)) (tB 416 p (tB 418 p (tL 418 p .imul 0) (tL 416 p (.iload 23) 0)) (tL 414 p (.iload 15) 0)))) (tB 405 p (tB 410 p (tB 411 p (tB 412 p (tL 412 p (.istore 29) 0) (tL 411 p .iadd 0)) (tL 410 p .imul 0)) (tB 406 p (tB 408 p (tL 408 p (.iload 26) 0) (tL 406 p (.iload 14) 0)) (tL 405 p .imul 0))) (tB 399 p (tB 401 p (tB 403 p (tL 403 p (.iload 24) 0) (tL 401 p (.iload 13) 0)) (tL 399 p (.istore 28) 0)) (tB 397 p (tB 398 p (tL 398 p .iadd 0) (tL 397 p .imul 0)) (tL 395 p (.iload 25) 0)))))) (tB 351 p (tB 372 p (tB 386 p (tB 390 p (tB 392 p (tB 393 p (tL 393 p (.iload 14) 0) (tL 392 p .imul 0)) (tL 390 p (.iload 23) 0)) (tB 387 p (tB 388 p (tL 388 p (.iload 13) 0) (tL 387 p .ireturn 0)) (tL 386 p (.iconst 0) 0))) (tB 378 p (tB 381 p (tB 383 p (tL 383 p (.if_icmp .eq 5) 388) (tL 381 p (.iload 27) 0)) (tL 378 p (.invokevirtual 23) 9)) (tB 374 p (tB 376 p (tL 376 p (.iload 26) 0) (tL 374 p (.iload 25) 0)) (tL 372 p (.iload 24) 0)))) (tB 361 p (tB 367 p (tB 369 p (tB 370 p (tL 370 p (.iload 23) 0) (tL 369 p (.aload_n 2) 0)) (tL 367 p (.istore 27) 0)) (tB 363 p (tB 366 p (tL 366 p .iadd 0) (tL 363 p (.invokestatic 17) 8)) (tL 361 p (.iload 12) 0))) (tB 357 p (tB 358 p (tB 359 p (tL 359 p (.iload 4) 0) (tL 358 p (.iload_n 3) 0)) (tL 357 p (.iconst 3) 0)) (tB 353 p (tB 356 p (tL 356 p .iadd 0) (tL 353 p (.invokestatic 17) 8)) (tL 351 p (.iload 11) 0))))) (tB 330 p (tB 341 p (tB 347 p (tB 348 p (tB 349 p (tL 349 p (.iload 4) 0) (tL 348 p (.iload_n 3) 0)) (tL 347 p (.iconst 2) 0)) (tB 343 p (tB 346 p (tL 346 p .iadd 0) (tL 343 p (.invokestatic 17) 8)) (tL 341 p (.iload 10) 0))) (tB 337 p (tB 338 p (tB 339 p (tL 339 p (.iload 4) 0) (tL 338 p (.iload_n 3) 0)) (tL 337 p (.iconst 1) 0)) (tB 332 p (tB 334 p (tL 334 p (.invokestatic 17) 8) (tL 332 p (.iload 9) 0)) (tL 330 p (.iload 4) 0)))) (tB 320 p (tB 325 p (tB 328 p (tB 329 p (tL 329 p (.iload_n 3) 0) (tL 328 p (.iconst 0) 0)) (tL 325 p (.iinc 4 1) 0)) (tB 322 p (tB 323 p (tL 323 p (.istore 26) 0) (tL 322 p .isub 0)) (tL 320 p (.bipush 7) 0))) (tB 316 p (tB 317 p (tB 319 p (tL 319 p .iand 0) (tL 317 p (.bipush 15) 0)) (tL 316 p .iaload 0)) (tB 315 p (tL 315 p .iadd 0) (tL 314 p (.iconst 4) 0)))))))) (tB 141 p (tB 235 p (tB 280 p (tB 297 p (tB 305 p (tB 309 p (tB 311 p (tB 312 p (tL 312 p (.iload 21) 0) (tL 311 p (.aload_n 0) 0)) (tL 309 p (.istore 25) 0)) (tB 306 p (tB 308 p (tL 308 p .isub 0) (tL 306 p (.bipush 7) 0)) (tL 305 p .iand 0))) (tB 301 p (tB 302 p (tB 303 p (tL 303 p (.bipush 15) 0) (tL 302 p .iaload 0)) (tL 301 p .iadd 0)) (tB 298 p (tB 300 p (tL 300 p (.iconst 3) 0) (tL 298 p (.iload 21) 0)) (tL 297 p (.aload_n 0) 0)))) (tB 288 p (tB 292 p (tB 294 p (tB 295 p (tL 295 p (.istore 24) 0) (tL 294 p .isub 0)) (tL 292 p (.bipush 7) 0)) (tB 289 p (tB 291 p (tL 291 p .iand 0) (tL 289 p (.bipush 15) 0)) (tL 288 p .iaload 0))) (tB 284 p (tB 286 p (tB 287 p (tL 287 p .iadd 0) (tL 286 p (.iconst 2) 0)) (tL 284 p (.iload 21) 0)) (tB 281 p (tB 283 p (tL 283 p (.aload_n 0) 0) (tL 281 p (.istore 23) 0)) (tL 280 p .isub 0))))) (tB 259 p (tB 272 p (tB 275 p (tB 277 p (tB 278 p (tL 278 p (.bipush 7) 0) (tL 277 p .iand 0)) (tL 275 p (.bipush 15) 0)) (tB 273 p (tB 274 p (tL 274 p .iaload 0) (tL 273 p .iadd 0)) (tL 272 p (.iconst 1) 0))) (tB 266 p (tB 269 p (tB 270 p (tL 270 p (.iload 21) 0) (tL 269 p (.aload_n 0) 0)) (tL 266 p (.if_icmp .ge 209) 475)) (tB 262 p (tB 264 p (tL 264 p (.bipush 7) 0) (tL 262 p (.iload 22) 0)) (tL 259 p (.goto 235) 494)))) (tB 247 p (tB 254 p (tB 257 p (tB 258 p (tL 258 p .ireturn 0) (tL 257 p (.iconst 0) 0)) (tL 254 p (.if_icmp .eq 5) 259)) (tB 249 p (tB 252 p (tL 252 p (.iload 25) 0) (tL 249 p (.invokevirtual 13) 21)) (tL 247 p (.iload 24) 0))) (tB 241 p (tB 244 p (tB 245 p (tL 245 p (.iload 23) 0) (tL 244 p (.aload_n 2) 0)) (tL 241 p (.iinc 3 1) 0)) (tB 237 p (tB 239 p (tL 239 p (.istore 12) 0) (tL 237 p (.iload 24) 0)) (tL 235 p (.istore 8) 0)))))) (tB 186 p (tB 210 p (tB 222 p (tB 228 p (tB 230 p (tB 233 p (tL 233 p (.iload 23) 0) (tL 230 p (.goto 11) 241)) (tL 228 p (.istore 11) 0)) (tB 224 p (tB 226 p (tL 226 p (.iload 24) 0) (tL 224 p (.istore 7) 0)) (tL 222 p (.iload 23) 0))) (tB 217 p (tB 218 p (tB 219 p (tL 219 p (.if_icmp .ne 14) 233) (tL 218 p (.iconst 2) 0)) (tL 217 p (.iload_n 3) 0)) (tB 212 p (tB 214 p (tL 214 p (.goto 27) 241) (tL 212 p (.istore 10) 0)) (tL 210 p (.iload 24) 0)))) (tB 198 p (tB 203 p (tB 206 p (tB 208 p (tL 208 p (.istore 6) 0) (tL 206 p (.iload 23) 0)) (tL 203 p (.if_icmp .ne 14) 217)) (tB 201 p (tB 202 p (tL 202 p (.iconst 1) 0) (tL 201 p (.iload_n 3) 0)) (tL 198 p (.goto 43) 241))) (tB 192 p (tB 194 p (tB 196 p (tL 196 p (.istore 9) 0) (tL 194 p (.iload 24) 0)) (tL 192 p (.istore 5) 0)) (tB 187 p (tB 190 p (tL 190 p (.iload 23) 0) (tL 187 p (.ifCond .ne 14) 201)) (tL 186 p (.iload_n 3) 0))))) (tB 160 p (tB 173 p (tB 180 p (tB 183 p (tB 184 p (tL 184 p (.istore 25) 0) (tL 183 p (.iload_n 3) 0)) (tL 180 p (.if_icmp .gt 64) 244)) (tB 176 p (tB 178 p (tL 178 p (.bipush 32) 0) (tL 176 p (.iload 24) 0)) (tL 173 p (.if_icmp .lt 71) 244))) (tB 167 p (tB 170 p (tB 172 p (tL 172 p (.iconst 1) 0) (tL 170 p (.iload 24) 0)) (tL 167 p (.if_icmp .gt 77) 244)) (tB 163 p (tB 165 p (tL 165 p (.bipush 32) 0) (tL 163 p (.iload 23) 0)) (tL 160 p (.if_icmp .lt 84) 244)))) (tB 149 p (tB 154 p (tB 157 p (tB 159 p (tL 159 p (.iconst 1) 0) (tL 157 p (.iload 23) 0)) (tL 154 p (.if_icmp .ge 90) 244)) (tB 152 p (tB 153 p (tL 153 p (.iload_n 1) 0) (tL 152 p (.iload_n 3) 0)) (tL 149 p (.ifCond .ne 95) 244))) (tB 144 p (tB 145 p (tB 147 p (tL 147 p (.iload 4) 0) (tL 145 p (.istore 25) 0)) (tL 144 p (.iconst (-1)) 0)) (tB 142 p (tL 142 p (.istore 24) 0) (tL 141 p .irem 0))))))) (tB 69 p (tB 105 p (tB 124 p (tB 133 p (tB 136 p (tB 138 p (tB 139 p (tL 139 p (.bipush 34) 0) (tL 138 p .iand 0)) (tL 136 p (.ldc 12) 0)) (tB 134 p (tB 135 p (tL 135 p .iaload 0) (tL 134 p .iadd 0)) (tL 133 p (.iconst 2) 0))) (tB 128 p (tB 130 p (tB 131 p (tL 131 p (.iload 21) 0) (tL 130 p (.aload_n 0) 0)) (tL 128 p (.istore 23) 0)) (tB 125 p (tB 127 p (tL 127 p .irem 0) (tL 125 p (.bipush 34) 0)) (tL 124 p .iand 0)))) (tB 116 p (tB 120 p (tB 121 p (tB 122 p (tL 122 p (.ldc 12) 0) (tL 121 p .iaload 0)) (tL 120 p .iadd 0)) (tB 117 p (tB 119 p (tL 119 p (.iconst 1) 0) (tL 117 p (.iload 21) 0)) (tL 116 p (.aload_n 0) 0))) (tB 110 p (tB 112 p (tB 113 p (tL 113 p (.if_icmp .ge 149) 262) (tL 112 p (.iconst 2) 0)) (tL 110 p (.iload 22) 0)) (tB 107 p (tB 108 p (tL 108 p (.istore 22) 0) (tL 107 p .iand 0)) (tL 105 p (.bipush 7) 0))))) (tB 87 p (tB 96 p (tB 101 p (tB 102 p (tB 104 p (tL 104 p .iaload 0) (tL 102 p (.iload 21) 0)) (tL 101 p (.aload_n 0) 0)) (tB 97 p (tB 98 p (tL 98 p (.if_icmp .ge 553) 651) (tL 97 p .arraylength 0)) (tL 96 p (.aload_n 0) 0))) (tB 92 p (tB 94 p (tB 95 p (tL 95 p .iadd 0) (tL 94 p (.iconst 4) 0)) (tL 92 p (.iload 21) 0)) (tB 89 p (tB 90 p (tL 90 p (.istore 21) 0) (tL 89 p (.iconst 1) 0)) (tL 87 p (.istore 20) 0)))) (tB 78 p (tB 83 p (tB 84 p (tB 86 p (tL 86 p (.iconst 1) 0) (tL 84 p (.istore 19) 0)) (tL 83 p (.iconst 0) 0)) (tB 80 p (tB 81 p (tL 81 p (.istore 18) 0) (tL 80 p (.iconst 0) 0)) (tL 78 p (.istore 17) 0))) (tB 74 p (tB 75 p (tB 77 p (tL 77 p (.iconst 1) 0) (tL 75 p (.istore 16) 0)) (tL 74 p (.iconst 1) 0)) (tB 71 p (tB 72 p (tL 72 p (.istore 15) 0) (tL 71 p (.iconst 0) 0)) (tL 69 p (.istore 14) 0)))))) (tB 35 p (tB 51 p (tB 60 p (tB 65 p (tB 66 p (tB 68 p (tL 68 p (.iconst 0) 0) (tL 66 p (.istore 13) 0)) (tL 65 p (.iconst 1) 0)) (tB 62 p (tB 63 p (tL 63 p (.istore 12) 0) (tL 62 p (.iconst 1) 0)) (tL 60 p (.istore 11) 0))) (tB 56 p (tB 57 p (tB 59 p (tL 59 p (.iconst 1) 0) (tL 57 p (.istore 10) 0)) (tL 56 p (.iconst 1) 0)) (tB 53 p (tB 54 p (tL 54 p (.istore 9) 0) (tL 53 p (.iconst 1) 0)) (tL 51 p (.istore 8) 0)))) (tB 42 p (tB 47 p (tB 48 p (tB 50 p (tL 50 p (.iconst 1) 0) (tL 48 p (.istore 7) 0)) (tL 47 p (.iconst 1) 0)) (tB 44 p (tB 45 p (tL 45 p (.istore 6) 0) (tL 44 p (.iconst 1) 0)) (tL 42 p (.istore 5) 0))) (tB 38 p (tB 39 p (tB 41 p (tL 41 p (.iconst 1) 0) (tL 39 p (.istore 4) 0)) (tL 38 p (.iconst 0) 0)) (tB 36 p (tB 37 p (tL 37 p (.istore_n 3) 0) (tL 36 p (.iconst 0) 0)) (tL 35 p (.istore_n 1) 0))))) (tB 17 p (tB 27 p (tB 30 p (tB 31 p (tB 34 p (tL 34 p (.iconst 4) 0) (tL 31 p (.if_icmp .le 5) 36)) (tL 30 p (.iconst 4) 0)) (tB 28 p (tB 29 p (tL 29 p (.iload_n 1) 0) (tL 28 p (.istore_n 1) 0)) (tL 27 p (.iconst 1) 0))) (tB 22 p (tB 23 p (tB 24 p (tL 24 p (.if_icmp .ge 5) 29) (tL 23 p (.iconst 1) 0)) (tL 22 p (.iload_n 1) 0)) (tB 18 p (tB 21 p (tL 21 p (.astore_n 2) 0) (tL 18 p (.invokespecial 9) 1)) (tL 17 p (.iload_n 1) 0)))) (tB 7 p (tB 12 p (tB 13 p (tB 16 p (tL 16 p .dup 0) (tL 13 p (.new 7) 0)) (tL 12 p (.istore_n 1) 0)) (tB 8 p (tB 11 p (tL 11 p (.iconst 4) 0) (tL 8 p (.goto 4) 12)) (tL 7 p .iaload 0))) (tB 2 p (tB 5 p (tB 6 p (tL 6 p (.iconst 0) 0) (tL 5 p (.aload_n 0) 0)) (tL 2 p (.ifCond .le 9) 11)) (tB 1 p (tL 1 p .arraylength 0) (tL 0 p (.aload_n 0) 0)))))))))
set_option maxHeartbeats 4000000 in
def cd1 (p : Nat) : Option (Instr × Nat) := (tB 81 p (tB 119 p (tB 136 p (tB 143 p (tB 148 p (tB 151 p (tB 154 p (tL 154 p .return_ 0) (tL 151 p (.goto (-13)) 138)) (tL 148 p (.iinc 3 1) 0)) (tB 144 p (tB 145 p (tL 145 p (.invokevirtual 65) 2) (tL 144 p (.iload_n 3) 0)) (tL 143 p (.aload_n 0) 0))) (tB 138 p (tB 139 p (tB 140 p (tL 140 p (.if_icmp .ge 14) 154) (tL 139 p (.iconst 4) 0)) (tL 138 p (.iload_n 3) 0)) (tB 137 p (tL 137 p (.istore_n 3) 0) (tL 136 p (.iconst 0) 0)))) (tB 126 p (tB 131 p (tB 132 p (tB 133 p (tL 133 p (.putfield 62) 17) (tL 132 p (.iconst 0) 0)) (tL 131 p (.aload_n 0) 0)) (tB 127 p (tB 128 p (tL 128 p (.putfield 59) 16) (tL 127 p (.iconst 0) 0)) (tL 126 p (.aload_n 0) 0))) (tB 121 p (tB 122 p (tB 123 p (tL 123 p (.putfield 56) 15) (tL 122 p (.iload_n 2) 0)) (tL 121 p (.aload_n 0) 0)) (tB 120 p (tL 120 p (.istore_n 2) 0) (tL 119 p (.iconst 4) 0))))) (tB 102 p (tB 109 p (tB 114 p (tB 115 p (tB 116 p (tL 116 p (.if_icmp .le 5) 121) (tL 115 p (.iconst 4) 0)) (tL 114 p (.iload_n 2) 0)) (tB 112 p (tB 113 p (tL 113 p (.istore_n 2) 0) (tL 112 p (.iconst 1) 0)) (tL 109 p (.if_icmp .ge 5) 114))) (tB 106 p (tB 107 p (tB 108 p (tL 108 p (.iconst 1) 0) (tL 107 p (.iload_n 2) 0)) (tL 106 p (.istore_n 2) 0)) (tB 105 p (tL 105 p (.iload_n 1) 0) (tL 102 p (.putfield 53) 14)))) (tB 90 p (tB 97 p (tB 98 p (tB 100 p (tL 100 p (.newarray .int) 0) (tL 98 p (.bipush 16) 0)) (tL 97 p (.aload_n 0) 0)) (tB 92 p (tB 94 p (tL 94 p (.putfield 50) 13) (tL 92 p (.newarray .int) 0)) (tL 90 p (.bipush 16) 0))) (tB 84 p (tB 86 p (tB 89 p (tL 89 p (.aload_n 0) 0) (tL 86 p (.putfield 47) 12)) (tL 84 p (.newarray .int) 0)) (tB 82 p (tL 82 p (.bipush 16) 0) (tL 81 p (.aload_n 0) 0)))))) (tB 37 p (tB 57 p (tB 67 p (tB 73 p (tB 76 p (tB 78 p (tL 78 p (.putfield 44) 11) (tL 76 p (.newarray .int) 0)) (tL 73 p (.sipush 512) 0)) (tB 69 p (tB 72 p (tL 72 p (.aload_n 0) 0) (tL 69 p (.putfield 41) 10)) (tL 67 p (.newarray .int) 0))) (tB 60 p (tB 63 p (tB 64 p (tL 64 p (.sipush 512) 0) (tL 63 p (.aload_n 0) 0)) (tL 60 p (.putfield 38) 9)) (tB 58 p (tL 58 p (.newarray .int) 0) (tL 57 p (.iconst 4) 0)))) (tB 46 p (tB 51 p (tB 53 p (tB 56 p (tL 56 p (.aload_n 0) 0) (tL 53 p (.putfield 35) 8)) (tL 51 p (.newarray .int) 0)) (tB 49 p (tB 50 p (tL 50 p (.iconst 4) 0) (tL 49 p (.aload_n 0) 0)) (tL 46 p (.putfield 32) 7))) (tB 42 p (tB 43 p (tB 44 p (tL 44 p (.newarray .int) 0) (tL 43 p (.iconst 4) 0)) (tL 42 p (.aload_n 0) 0)) (tB 39 p (tL 39 p (.putfield 28) 6) (tL 37 p (.newarray .int) 0))))) (tB 19 p (tB 26 p (tB 32 p (tB 35 p (tB 36 p (tL 36 p (.iconst 4) 0) (tL 35 p (.aload_n 0) 0)) (tL 32 p (.putfield 25) 5)) (tB 29 p (tB 30 p (tL 30 p (.bipush 32) 0) (tL 29 p (.aload_n 0) 0)) (tL 26 p (.putfield 22) 4))) (tB 21 p (tB 24 p (tB 25 p (tL 25 p (.iconst 4) 0) (tL 24 p (.aload_n 0) 0)) (tL 21 p (.putfield 19) 3)) (tB 20 p (tL 20 p (.iconst 3) 0) (tL 19 p (.aload_n 0) 0)))) (tB 9 p (tB 14 p (tB 15 p (tB 16 p (tL 16 p (.putfield 16) 2) (tL 15 p (.iconst 2) 0)) (tL 14 p (.aload_n 0) 0)) (tB 10 p (tB 11 p (tL 11 p (.putfield 13) 1) (tL 10 p (.iconst 1) 0)) (tL 9 p (.aload_n 0) 0))) (tB 4 p (tB 5 p (tB 6 p (tL 6 p (.putfield 7) 0) (tL 5 p (.iconst 0) 0)) (tL 4 p (.aload_n 0) 0)) (tB 1 p (tL 1 p (.invokespecial 1) 0) (tL 0 p (.aload_n 0) 0)))))))
set_option maxHeartbeats 4000000 in
def cd2 (p : Nat) : Option (Instr × Nat) := (tB 22 p (tB 31 p (tB 36 p (tB 38 p (tB 41 p (tL 41 p .return_ 0) (tL 38 p (.invokevirtual 104) 7)) (tB 37 p (tL 37 p (.iconst 1) 0) (tL 36 p (.iload_n 1) 0))) (tB 32 p (tB 35 p (tL 35 p (.aload_n 0) 0) (tL 32 p (.invokevirtual 101) 6)) (tL 31 p (.iconst 1) 0))) (tB 25 p (tB 29 p (tB 30 p (tL 30 p (.iload_n 1) 0) (tL 29 p (.aload_n 0) 0)) (tB 26 p (tL 26 p (.invokevirtual 98) 3) (tL 25 p (.iconst 1) 0))) (tB 23 p (tB 24 p (tL 24 p (.aload_n 0) 0) (tL 23 p .iastore 0)) (tL 22 p (.iconst 0) 0)))) (tB 11 p (tB 16 p (tB 18 p (tB 21 p (tL 21 p (.iload_n 1) 0) (tL 18 p (.getfield 38) 9)) (tB 17 p (tL 17 p (.aload_n 0) 0) (tL 16 p .iastore 0))) (tB 14 p (tB 15 p (tL 15 p (.iconst 0) 0) (tL 14 p (.iload_n 1) 0)) (tL 11 p (.getfield 35) 8))) (tB 5 p (tB 9 p (tB 10 p (tL 10 p (.aload_n 0) 0) (tL 9 p .return_ 0)) (tB 6 p (tL 6 p (.if_icmp .lt 4) 10) (tL 5 p (.iconst 4) 0))) (tB 1 p (tB 4 p (tL 4 p (.iload_n 1) 0) (tL 1 p (.ifCond .lt 8) 9)) (tL 0 p (.iload_n 1) 0)))))
set_option maxHeartbeats 4000000 in
def cd3 (p : Nat) : Option (Instr × Nat) := (tB 4 p (tB 6 p (tB 9 p (tL 9 p .return_ 0) (tL 6 p (.invokevirtual 69) 4)) (tB 5 p (tL 5 p (.iconst 1) 0) (tL 4 p (.iconst 0) 0))) (tB 2 p (tB 3 p (tL 3 p (.iconst 0) 0) (tL 2 p (.iconst 1) 0)) (tB 1 p (tL 1 p (.iload_n 1) 0) (tL 0 p (.aload_n 0) 0))))
set_option maxHeartbeats 4000000 in
def cd4 (p : Nat) : Option (Instr × Nat) := (tB 29 p (tB 42 p (tB 49 p (tB 51 p (tB 53 p (tB 54 p (tL 54 p .return_ 0) (tL 53 p .iastore 0)) (tL 51 p (.iload 5) 0)) (tB 50 p (tL 50 p .iadd 0) (tL 49 p (.iconst 3) 0))) (tB 44 p (tB 47 p (tL 47 p (.iload 6) 0) (tL 44 p (.getfield 53) 14)) (tB 43 p (tL 43 p (.aload_n 0) 0) (tL 42 p .iastore 0)))) (tB 33 p (tB 38 p (tB 39 p (tB 40 p (tL 40 p (.iload 4) 0) (tL 39 p .iadd 0)) (tL 38 p (.iconst 2) 0)) (tB 36 p (tL 36 p (.iload 6) 0) (tL 33 p (.getfield 53) 14))) (tB 31 p (tB 32 p (tL 32 p (.aload_n 0) 0) (tL 31 p .iastore 0)) (tB 30 p (tL 30 p (.iload_n 3) 0) (tL 29 p .iadd 0))))) (tB 14 p (tB 21 p (tB 23 p (tB 26 p (tB 28 p (tL 28 p (.iconst 1) 0) (tL 26 p (.iload 6) 0)) (tL 23 p (.getfield 53) 14)) (tB 22 p (tL 22 p (.aload_n 0) 0) (tL 21 p .iastore 0))) (tB 18 p (tB 20 p (tL 20 p (.iload_n 2) 0) (tL 18 p (.iload 6) 0)) (tB 15 p (tL 15 p (.getfield 53) 14) (tL 14 p (.aload_n 0) 0)))) (tB 8 p (tB 10 p (tB 11 p (tB 12 p (tL 12 p (.istore 6) 0) (tL 11 p .imul 0)) (tL 10 p (.iconst 4) 0)) (tB 9 p (tL 9 p (.iload_n 1) 0) (tL 8 p .return_ 0))) (tB 2 p (tB 5 p (tL 5 p (.ifCond .ne 4) 9) (tL 2 p (.invokevirtual 136) 5)) (tB 1 p (tL 1 p (.iload_n 1) 0) (tL 0 p (.aload_n 0) 0))))))
set_option maxHeartbeats 4000000 in
def cd5 (p : Nat) : Option (Instr × Nat) := (tB 6 p (tB 10 p (tB 13 p (tB 14 p (tL 14 p .ireturn 0) (tL 13 p (.iconst 0) 0)) (tL 10 p (.goto 4) 14)) (tB 9 p (tL 9 p (.iconst 1) 0) (tL 6 p (.if_icmp .ge 7) 13))) (tB 4 p (tB 5 p (tL 5 p (.iconst 4) 0) (tL 4 p (.iload_n 1) 0)) (tB 1 p (tL 1 p (.ifCond .lt 12) 13) (tL 0 p (.iload_n 1) 0))))
set_option maxHeartbeats 4000000 in
def cd6 (p : Nat) : Option (Instr × Nat) := (tB 28 p (tB 42 p (tB 49 p (tB 51 p (tB 54 p (tB 57 p (tL 57 p .return_ 0) (tL 54 p (.goto (-29)) 25)) (tL 51 p (.iinc 4 1) 0)) (tB 50 p (tL 50 p .iastore 0) (tL 49 p .iaload 0))) (tB 46 p (tB 48 p (tL 48 p .iadd 0) (tL 46 p (.iload 4) 0)) (tB 45 p (tL 45 p (.iload_n 3) 0) (tL 42 p (.getfield 53) 14)))) (tB 36 p (tB 38 p (tB 40 p (tB 41 p (tL 41 p (.aload_n 0) 0) (tL 40 p .iadd 0)) (tL 38 p (.iload 4) 0)) (tB 37 p (tL 37 p .imul 0) (tL 36 p (.iconst 4) 0))) (tB 32 p (tB 35 p (tL 35 p (.iload_n 1) 0) (tL 32 p (.getfield 47) 12)) (tB 31 p (tL 31 p (.aload_n 0) 0) (tL 28 p (.if_icmp .ge 29) 57))))) (tB 17 p (tB 21 p (tB 23 p (tB 25 p (tB 27 p (tL 27 p (.iconst 4) 0) (tL 25 p (.iload 4) 0)) (tL 23 p (.istore 4) 0)) (tB 22 p (tL 22 p (.iconst 0) 0) (tL 21 p (.istore_n 3) 0))) (tB 19 p (tB 20 p (tL 20 p .imul 0) (tL 19 p (.iconst 4) 0)) (tB 18 p (tL 18 p (.iload_n 2) 0) (tL 17 p .return_ 0)))) (tB 8 p (tB 12 p (tB 13 p (tB 14 p (tL 14 p (.if_icmp .lt 4) 18) (tL 13 p (.iconst 4) 0)) (tL 12 p (.iload_n 1) 0)) (tB 9 p (tL 9 p (.ifCond .lt 8) 17) (tL 8 p (.iload_n 1) 0))) (tB 2 p (tB 5 p (tL 5 p (.ifCond .eq 12) 17) (tL 2 p (.invokevirtual 136) 5)) (tB 1 p (tL 1 p (.iload_n 2) 0) (tL 0 p (.aload_n 0) 0))))))
set_option maxHeartbeats 4000000 in
def cd7 (p : Nat) : Option (Instr × Nat) := (tB 28 p (tB 42 p (tB 49 p (tB 51 p (tB 54 p (tB 57 p (tL 57 p .return_ 0) (tL 54 p (.goto (-29)) 25)) (tL 51 p (.iinc 4 1) 0)) (tB 50 p (tL 50 p .iastore 0) (tL 49 p .iaload 0))) (tB 46 p (tB 48 p (tL 48 p .iadd 0) (tL 46 p (.iload 4) 0)) (tB 45 p (tL 45 p (.iload_n 3) 0) (tL 42 p (.getfield 53) 14)))) (tB 36 p (tB 38 p (tB 40 p (tB 41 p (tL 41 p (.aload_n 0) 0) (tL 40 p .iadd 0)) (tL 38 p (.iload 4) 0)) (tB 37 p (tL 37 p .imul 0) (tL 36 p (.iconst 4) 0))) (tB 32 p (tB 35 p (tL 35 p (.iload_n 1) 0) (tL 32 p (.getfield 50) 13)) (tB 31 p (tL 31 p (.aload_n 0) 0) (tL 28 p (.if_icmp .ge 29) 57))))) (tB 17 p (tB 21 p (tB 23 p (tB 25 p (tB 27 p (tL 27 p (.iconst 4) 0) (tL 25 p (.iload 4) 0)) (tL 23 p (.istore 4) 0)) (tB 22 p (tL 22 p (.iconst 0) 0) (tL 21 p (.istore_n 3) 0))) (tB 19 p (tB 20 p (tL 20 p .imul 0) (tL 19 p (.iconst 4) 0)) (tB 18 p (tL 18 p (.iload_n 2) 0) (tL 17 p .return_ 0)))) (tB 8 p (tB 12 p (tB 13 p (tB 14 p (tL 14 p (.if_icmp .lt 4) 18) (tL 13 p (.iconst 4) 0)) (tL 12 p (.iload_n 1) 0)) (tB 9 p (tL 9 p (.ifCond .lt 8) 17) (tL 8 p (.iload_n 1) 0))) (tB 2 p (tB 5 p (tL 5 p (.ifCond .eq 12) 17) (tL 2 p (.invokevirtual 136) 5)) (tB 1 p (tL 1 p (.iload_n 2) 0) (tL 0 p (.aload_n 0) 0))))))
set_option maxHeartbeats 4000000 in
def cd8 (p : Nat) : Option (Instr × Nat) := (tB 7 p (tB 12 p (tB 15 p (tB 16 p (tL 16 p .ireturn 0) (tL 15 p (.iconst 0) 0)) (tL 12 p (.goto 4) 16)) (tB 8 p (tB 11 p (tL 11 p (.iconst 1) 0) (tL 8 p (.ifCond .ne 7) 15)) (tL 7 p .irem 0))) (tB 2 p (tB 5 p (tB 6 p (tL 6 p (.iload_n 3) 0) (tL 5 p (.iload_n 2) 0)) (tL 2 p (.if_icmp .ge 13) 15)) (tB 1 p (tL 1 p (.iload_n 1) 0) (tL 0 p (.iload_n 0) 0))))
set_option maxHeartbeats 4000000 in
def cd9 (p : Nat) : Option (Instr × Nat) := (tB 36 p (tB 57 p (tB 69 p (tB 78 p (tB 81 p (tB 83 p (tL 83 p .ireturn 0) (tL 81 p (.iload 5) 0)) (tL 78 p (.goto (-52)) 26)) (tB 72 p (tB 75 p (tL 75 p (.iinc 6 1) 0) (tL 72 p (.iinc 5 1) 0)) (tL 69 p (.invokevirtual 76) 38))) (tB 63 p (tB 66 p (tB 67 p (tL 67 p (.iload 6) 0) (tL 66 p (.aload_n 0) 0)) (tL 63 p (.ifCond .ne 12) 75)) (tB 60 p (tB 62 p (tL 62 p .irem 0) (tL 60 p (.iload 7) 0)) (tL 57 p (.getfield 62) 17)))) (tB 47 p (tB 52 p (tB 53 p (tB 56 p (tL 56 p (.aload_n 0) 0) (tL 53 p (.if_icmp .lt 22) 75)) (tL 52 p (.iconst 1) 0)) (tB 48 p (tB 50 p (tL 50 p (.iload 7) 0) (tL 48 p (.istore 7) 0)) (tL 47 p .iaload 0))) (tB 41 p (tB 42 p (tB 45 p (tL 45 p (.iload 6) 0) (tL 42 p (.getfield 32) 7)) (tL 41 p (.aload_n 0) 0)) (tB 38 p (tL 38 p (.invokevirtual 73) 30) (tL 36 p (.iload 6) 0))))) (tB 15 p (tB 24 p (tB 29 p (tB 32 p (tB 35 p (tL 35 p (.aload_n 0) 0) (tL 32 p (.if_icmp .ge 49) 81)) (tL 29 p (.getfield 59) 16)) (tB 26 p (tB 28 p (tL 28 p (.aload_n 0) 0) (tL 26 p (.iload 6) 0)) (tL 24 p (.istore 6) 0))) (tB 20 p (tB 21 p (tB 23 p (tL 23 p (.iconst 0) 0) (tL 21 p (.istore 5) 0)) (tL 20 p (.iconst 0) 0)) (tB 17 p (tL 17 p (.invokevirtual 69) 4) (tL 15 p (.iload 4) 0)))) (tB 7 p (tB 12 p (tB 13 p (tB 14 p (tL 14 p (.iload_n 3) 0) (tL 13 p (.iload_n 2) 0)) (tL 12 p (.iload_n 1) 0)) (tB 10 p (tB 11 p (tL 11 p (.iconst 0) 0) (tL 10 p (.aload_n 0) 0)) (tL 7 p (.putfield 62) 17))) (tB 2 p (tB 5 p (tB 6 p (tL 6 p .iadd 0) (tL 5 p (.iconst 1) 0)) (tL 2 p (.getfield 62) 17)) (tB 1 p (tL 1 p (.aload_n 0) 0) (tL 0 p (.aload_n 0) 0))))))
set_option maxHeartbeats 4000000 in
def cd10 (p : Nat) : Option (Instr × Nat) := (tB 1 p (tB 4 p (tL 4 p .ireturn 0) (tL 1 p (.getfield 62) 17)) (tL 0 p (.aload_n 0) 0))
set_option maxHeartbeats 4000000 in
def cd11 (p : Nat) : Option (Instr × Nat) := (tB 1 p (tB 4 p (tL 4 p .ireturn 0) (tL 1 p (.getfield 59) 16)) (tL 0 p (.aload_n 0) 0))
set_option maxHeartbeats 4000000 in
def cd12 (p : Nat) : Option (Instr × Nat) := (tB 158 p (tB 232 p (tB 270 p (tB 289 p (tB 298 p (tB 305 p (tB 306 p (tB 307 p (tL 307 p .ireturn 0) (tL 306 p (.iconst 1) 0)) (tL 305 p .ireturn 0)) (tB 301 p (tB 304 p (tL 304 p (.iconst 0) 0) (tL 301 p (.ifCond .ne 5) 306)) (tL 298 p (.invokestatic 62) 25))) (tB 292 p (tB 294 p (tB 296 p (tL 296 p (.iload 13) 0) (tL 294 p (.iload 12) 0)) (tL 292 p (.iload 11) 0)) (tB 290 p (tL 290 p (.iload 10) 0) (tL 289 p (.iconst 0) 0)))) (tB 278 p (tB 284 p (tB 287 p (tB 288 p (tL 288 p (.iload_n 1) 0) (tL 287 p (.aload_n 0) 0)) (tL 284 p (.if_icmp .ne 22) 306)) (tB 281 p (tB 283 p (tL 283 p (.iload_n 3) 0) (tL 281 p (.iload 15) 0)) (tL 278 p (.if_icmp .lt 28) 306))) (tB 273 p (tB 276 p (tB 277 p (tL 277 p (.iconst 1) 0) (tL 276 p (.iload_n 3) 0)) (tL 273 p (.if_icmp .ne 33) 306)) (tB 272 p (tL 272 p (.iconst 1) 0) (tL 270 p (.iload 4) 0))))) (tB 251 p (tB 258 p (tB 265 p (tB 268 p (tB 269 p (tL 269 p .ireturn 0) (tL 268 p (.iconst 0) 0)) (tL 265 p (.ifCond .ne 5) 270)) (tB 260 p (tB 262 p (tL 262 p (.invokestatic 62) 25) (tL 260 p (.iload 13) 0)) (tL 258 p (.iload 12) 0))) (tB 253 p (tB 254 p (tB 256 p (tL 256 p (.iload 11) 0) (tL 254 p (.iload 10) 0)) (tL 253 p (.iconst 1) 0)) (tB 252 p (tL 252 p (.iload_n 1) 0) (tL 251 p (.aload_n 0) 0)))) (tB 242 p (tB 246 p (tB 247 p (tB 248 p (tL 248 p (.if_icmp .lt 22) 270) (tL 247 p (.iconst 1) 0)) (tL 246 p (.iload_n 3) 0)) (tB 243 p (tL 243 p (.if_icmp .ne 27) 270) (tL 242 p (.iconst 1) 0))) (tB 238 p (tB 239 p (tB 240 p (tL 240 p (.iload 4) 0) (tL 239 p .ireturn 0)) (tL 238 p (.iconst 0) 0)) (tB 235 p (tL 235 p (.ifCond .ne 5) 240) (tL 232 p (.invokestatic 62) 25)))))) (tB 192 p (tB 212 p (tB 222 p (tB 226 p (tB 228 p (tB 230 p (tL 230 p (.iload 9) 0) (tL 228 p (.iload 8) 0)) (tL 226 p (.iload 7) 0)) (tB 223 p (tB 224 p (tL 224 p (.iload 6) 0) (tL 223 p (.iconst 0) 0)) (tL 222 p (.iload_n 1) 0))) (tB 217 p (tB 218 p (tB 221 p (tL 221 p (.aload_n 0) 0) (tL 218 p (.if_icmp .ne 22) 240)) (tL 217 p (.iload_n 3) 0)) (tB 215 p (tL 215 p (.iload 15) 0) (tL 212 p (.if_icmp .gt 28) 240)))) (tB 201 p (tB 208 p (tB 209 p (tB 210 p (tL 210 p (.iload 4) 0) (tL 209 p (.iload_n 3) 0)) (tL 208 p .ireturn 0)) (tB 204 p (tB 207 p (tL 207 p (.iconst 0) 0) (tL 204 p (.ifCond .ne 5) 209)) (tL 201 p (.invokestatic 62) 25))) (tB 195 p (tB 197 p (tB 199 p (tL 199 p (.iload 9) 0) (tL 197 p (.iload 8) 0)) (tL 195 p (.iload 7) 0)) (tB 193 p (tL 193 p (.iload 6) 0) (tL 192 p (.iconst 1) 0))))) (tB 174 p (tB 183 p (tB 187 p (tB 190 p (tB 191 p (tL 191 p (.iload_n 1) 0) (tL 190 p (.aload_n 0) 0)) (tL 187 p (.if_icmp .gt 22) 209)) (tB 184 p (tB 185 p (tL 185 p (.iload 4) 0) (tL 184 p (.iload_n 3) 0)) (tL 183 p .ireturn 0))) (tB 176 p (tB 179 p (tB 182 p (tL 182 p (.iconst 0) 0) (tL 179 p (.ifCond .eq 5) 184)) (tL 176 p (.invokevirtual 59) 20)) (tB 175 p (tL 175 p (.iconst (-1)) 0) (tL 174 p (.iload_n 1) 0)))) (tB 165 p (tB 167 p (tB 170 p (tB 173 p (tL 173 p (.aload_n 0) 0) (tL 170 p (.ifCond .ne 12) 182)) (tL 167 p (.invokevirtual 56) 19)) (tB 166 p (tL 166 p (.iconst 4) 0) (tL 165 p (.iload_n 1) 0))) (tB 162 p (tB 163 p (tB 164 p (tL 164 p (.aload_n 0) 0) (tL 163 p .ireturn 0)) (tL 162 p (.iconst 0) 0)) (tB 159 p (tL 159 p (.if_icmp .eq 5) 164) (tL 158 p .idiv 0))))))) (tB 80 p (tB 115 p (tB 137 p (tB 147 p (tB 152 p (tB 155 p (tB 156 p (tL 156 p (.iload 5) 0) (tL 155 p (.iload_n 3) 0)) (tL 152 p (.invokevirtual 53) 18)) (tB 150 p (tB 151 p (tL 151 p (.iload_n 1) 0) (tL 150 p (.aload_n 0) 0)) (tL 147 p (.if_icmp .ne 15) 162))) (tB 141 p (tB 142 p (tB 145 p (tL 145 p (.iload 16) 0) (tL 142 p (.invokevirtual 47) 16)) (tL 141 p (.iload_n 1) 0)) (tB 140 p (tL 140 p (.aload_n 0) 0) (tL 137 p (.if_icmp .ne 25) 162)))) (tB 125 p (tB 131 p (tB 132 p (tB 135 p (tL 135 p (.iload 15) 0) (tL 132 p (.invokevirtual 50) 17)) (tL 131 p (.iload_n 1) 0)) (tB 127 p (tB 130 p (tL 130 p (.aload_n 0) 0) (tL 127 p (.if_icmp .ne 35) 162)) (tL 125 p (.iload 5) 0))) (tB 120 p (tB 121 p (tB 122 p (tL 122 p (.invokevirtual 44) 15) (tL 121 p (.iload_n 1) 0)) (tL 120 p (.aload_n 0) 0)) (tB 117 p (tL 117 p (.if_icmp .ne 45) 162) (tL 115 p (.iload 4) 0))))) (tB 95 p (tB 105 p (tB 110 p (tB 111 p (tB 112 p (tL 112 p (.invokevirtual 40) 13) (tL 111 p (.iload_n 1) 0)) (tL 110 p (.aload_n 0) 0)) (tB 107 p (tB 108 p (tL 108 p (.istore 16) 0) (tL 107 p .isub 0)) (tL 105 p (.iload 4) 0))) (tB 99 p (tB 100 p (tB 103 p (tL 103 p (.iload 15) 0) (tL 100 p (.goto 8) 108)) (tL 99 p (.iconst 0) 0)) (tB 96 p (tL 96 p (.ifCond .ge 7) 103) (tL 95 p .isub 0)))) (tB 87 p (tB 89 p (tB 91 p (tB 93 p (tL 93 p (.iload 4) 0) (tL 91 p (.iload 15) 0)) (tL 89 p (.istore 15) 0)) (tB 88 p (tL 88 p .imul 0) (tL 87 p .idiv 0))) (tB 82 p (tB 84 p (tB 85 p (tL 85 p (.iload 5) 0) (tL 84 p (.iload_n 3) 0)) (tL 82 p (.iload 5) 0)) (tB 81 p (tL 81 p .ireturn 0) (tL 80 p (.iconst 0) 0)))))) (tB 39 p (tB 59 p (tB 68 p (tB 73 p (tB 76 p (tB 77 p (tL 77 p (.goto 4) 81) (tL 76 p (.iconst 1) 0)) (tL 73 p (.ifCond .ne 7) 80)) (tB 69 p (tB 70 p (tL 70 p (.invokevirtual 59) 20) (tL 69 p (.iconst 3) 0)) (tL 68 p (.iload_n 1) 0))) (tB 61 p (tB 64 p (tB 67 p (tL 67 p (.aload_n 0) 0) (tL 64 p (.ifCond .ne 16) 80)) (tL 61 p (.invokevirtual 56) 19)) (tB 60 p (tL 60 p (.iconst 0) 0) (tL 59 p (.iload_n 1) 0)))) (tB 49 p (tB 53 p (tB 55 p (tB 58 p (tL 58 p (.aload_n 0) 0) (tL 55 p (.if_icmp .ne 25) 80)) (tL 53 p (.iload 14) 0)) (tB 50 p (tL 50 p (.invokevirtual 53) 18) (tL 49 p (.iload_n 1) 0))) (tB 43 p (tB 45 p (tB 48 p (tL 48 p (.aload_n 0) 0) (tL 45 p (.if_icmp .ne 35) 80)) (tL 43 p (.iload 14) 0)) (tB 40 p (tL 40 p (.invokevirtual 50) 17) (tL 39 p (.iload_n 1) 0))))) (tB 18 p (tB 28 p (tB 33 p (tB 35 p (tB 38 p (tL 38 p (.aload_n 0) 0) (tL 35 p (.if_icmp .ne 45) 80)) (tL 33 p (.iload 14) 0)) (tB 29 p (tB 30 p (tL 30 p (.invokevirtual 47) 16) (tL 29 p (.iload_n 1) 0)) (tL 28 p (.aload_n 0) 0))) (tB 20 p (tB 23 p (tB 25 p (tL 25 p (.if_icmp .ne 55) 80) (tL 23 p (.iload 14) 0)) (tL 20 p (.invokevirtual 44) 15)) (tB 19 p (tL 19 p (.iload_n 1) 0) (tL 18 p (.aload_n 0) 0)))) (tB 8 p (tB 10 p (tB 13 p (tB 15 p (tL 15 p (.if_icmp .ne 65) 80) (tL 13 p (.iload 14) 0)) (tL 10 p (.invokevirtual 40) 13)) (tB 9 p (tL 9 p (.iload_n 1) 0) (tL 8 p (.aload_n 0) 0))) (tB 3 p (tB 4 p (tB 5 p (tL 5 p (.if_icmp .lt 77) 82) (tL 4 p (.iload_n 2) 0)) (tL 3 p (.iload_n 1) 0)) (tB 1 p (tL 1 p (.istore 14) 0) (tL 0 p (.iconst (-1)) 0))))))))
set_option maxHeartbeats 4000000 in
def cd13 (p : Nat) : Option (Instr × Nat) := (tB 9 p (tB 14 p (tB 15 p (tB 16 p (tL 16 p .ireturn 0) (tL 15 p .iaload 0)) (tL 14 p (.iload_n 1) 0)) (tB 10 p (tB 11 p (tL 11 p (.getfield 28) 6) (tL 10 p (.aload_n 0) 0)) (tL 9 p .ireturn 0))) (tB 2 p (tB 5 p (tB 8 p (tL 8 p (.iconst (-1)) 0) (tL 5 p (.ifCond .ne 5) 10)) (tL 2 p (.invokevirtual 79) 14)) (tB 1 p (tL 1 p (.iload_n 1) 0) (tL 0 p (.aload_n 0) 0))))
set_option maxHeartbeats 4000000 in
def cd14 (p : Nat) : Option (Instr × Nat) := (tB 12 p (tB 17 p (tB 21 p (tB 22 p (tL 22 p .ireturn 0) (tL 21 p (.iconst 0) 0)) (tB 18 p (tL 18 p (.goto 4) 22) (tL 17 p (.iconst 1) 0))) (tB 13 p (tB 14 p (tL 14 p (.if_icmp .ge 7) 21) (tL 13 p (.iconst 4) 0)) (tL 12 p (.iload_n 1) 0))) (tB 5 p (tB 6 p (tB 9 p (tL 9 p (.if_icmp .ge 12) 21) (tL 6 p (.getfield 59) 16)) (tL 5 p (.aload_n 0) 0)) (tB 1 p (tB 4 p (tL 4 p (.iload_n 1) 0) (tL 1 p (.ifCond .lt 20) 21)) (tL 0 p (.iload_n 1) 0))))
set_option maxHeartbeats 4000000 in
def cd15 (p : Nat) : Option (Instr × Nat) := (tB 9 p (tB 14 p (tB 15 p (tB 16 p (tL 16 p .ireturn 0) (tL 15 p .iaload 0)) (tL 14 p (.iload_n 1) 0)) (tB 10 p (tB 11 p (tL 11 p (.getfield 32) 7) (tL 10 p (.aload_n 0) 0)) (tL 9 p .ireturn 0))) (tB 2 p (tB 5 p (tB 8 p (tL 8 p (.iconst (-1)) 0) (tL 5 p (.ifCond .ne 5) 10)) (tL 2 p (.invokevirtual 79) 14)) (tB 1 p (tL 1 p (.iload_n 1) 0) (tL 0 p (.aload_n 0) 0))))
set_option maxHeartbeats 4000000 in
def cd16 (p : Nat) : Option (Instr × Nat) := (tB 16 p (tB 23 p (tB 28 p (tB 29 p (tB 30 p (tL 30 p .ireturn 0) (tL 29 p (.iload_n 2) 0)) (tL 28 p .ireturn 0)) (tB 24 p (tB 27 p (tL 27 p (.iconst 0) 0) (tL 24 p (.ifCond .ge 5) 29)) (tL 23 p (.iload_n 2) 0))) (tB 20 p (tB 21 p (tB 22 p (tL 22 p (.istore_n 2) 0) (tL 21 p .isub 0)) (tL 20 p .iaload 0)) (tB 19 p (tL 19 p (.iload_n 1) 0) (tL 16 p (.getfield 28) 6)))) (tB 9 p (tB 11 p (tB 12 p (tB 15 p (tL 15 p (.aload_n 0) 0) (tL 12 p (.invokevirtual 94) 23)) (tL 11 p (.iload_n 1) 0)) (tB 10 p (tL 10 p (.aload_n 0) 0) (tL 9 p .ireturn 0))) (tB 2 p (tB 5 p (tB 8 p (tL 8 p (.iconst (-1)) 0) (tL 5 p (.ifCond .ne 5) 10)) (tL 2 p (.invokevirtual 79) 14)) (tB 1 p (tL 1 p (.iload_n 1) 0) (tL 0 p (.aload_n 0) 0)))))
set_option maxHeartbeats 4000000 in
def cd17 (p : Nat) : Option (Instr × Nat) := (tB 9 p (tB 11 p (tB 12 p (tB 15 p (tL 15 p .ireturn 0) (tL 12 p (.invokevirtual 94) 23)) (tL 11 p (.iload_n 1) 0)) (tB 10 p (tL 10 p (.aload_n 0) 0) (tL 9 p .ireturn 0))) (tB 2 p (tB 5 p (tB 8 p (tL 8 p (.iconst (-1)) 0) (tL 5 p (.ifCond .ne 5) 10)) (tL 2 p (.invokevirtual 79) 14)) (tB 1 p (tL 1 p (.iload_n 1) 0) (tL 0 p (.aload_n 0) 0))))
set_option maxHeartbeats 4000000 in
def cd18 (p : Nat) : Option (Instr × Nat) := (tB 16 p (tB 23 p (tB 28 p (tB 29 p (tB 30 p (tL 30 p .ireturn 0) (tL 29 p .idiv 0)) (tL 28 p (.iload_n 2) 0)) (tB 24 p (tB 25 p (tL 25 p (.getfield 62) 17) (tL 24 p (.aload_n 0) 0)) (tL 23 p .ireturn 0))) (tB 18 p (tB 19 p (tB 22 p (tL 22 p (.iconst 0) 0) (tL 19 p (.if_icmp .ge 5) 24)) (tL 18 p (.iconst 1) 0)) (tB 17 p (tL 17 p (.iload_n 2) 0) (tL 16 p (.istore_n 2) 0)))) (tB 9 p (tB 11 p (tB 14 p (tB 15 p (tL 15 p .iaload 0) (tL 14 p (.iload_n 1) 0)) (tL 11 p (.getfield 32) 7)) (tB 10 p (tL 10 p (.aload_n 0) 0) (tL 9 p .ireturn 0))) (tB 2 p (tB 5 p (tB 8 p (tL 8 p (.iconst (-1)) 0) (tL 5 p (.ifCond .ne 5) 10)) (tL 2 p (.invokevirtual 79) 14)) (tB 1 p (tL 1 p (.iload_n 1) 0) (tL 0 p (.aload_n 0) 0)))))
set_option maxHeartbeats 4000000 in
def cd19 (p : Nat) : Option (Instr × Nat) := (tB 18 p (tB 25 p (tB 28 p (tB 29 p (tB 30 p (tL 30 p .ireturn 0) (tL 29 p .iaload 0)) (tL 28 p .iadd 0)) (tB 26 p (tB 27 p (tL 27 p (.iload_n 2) 0) (tL 26 p .imul 0)) (tL 25 p (.iconst 4) 0))) (tB 20 p (tB 21 p (tB 24 p (tL 24 p (.iload_n 1) 0) (tL 21 p (.getfield 50) 13)) (tL 20 p (.aload_n 0) 0)) (tB 19 p (tL 19 p .ireturn 0) (tL 18 p (.iconst 0) 0)))) (tB 9 p (tB 11 p (tB 12 p (tB 15 p (tL 15 p (.ifCond .ne 5) 20) (tL 12 p (.invokevirtual 83) 24)) (tL 11 p (.iload_n 2) 0)) (tB 10 p (tL 10 p (.aload_n 0) 0) (tL 9 p .ireturn 0))) (tB 2 p (tB 5 p (tB 8 p (tL 8 p (.iconst 0) 0) (tL 5 p (.ifCond .ne 5) 10)) (tL 2 p (.invokevirtual 79) 14)) (tB 1 p (tL 1 p (.iload_n 1) 0) (tL 0 p (.aload_n 0) 0)))))
set_option maxHeartbeats 4000000 in
def cd20 (p : Nat) : Option (Instr × Nat) := (tB 18 p (tB 23 p (tB 28 p (tB 29 p (tB 32 p (tL 32 p .ireturn 0) (tL 29 p (.invokevirtual 90) 29)) (tL 28 p (.iload_n 2) 0)) (tB 26 p (tB 27 p (tL 27 p (.iconst 3) 0) (tL 26 p (.aload_n 0) 0)) (tL 23 p (.invokevirtual 86) 26))) (tB 20 p (tB 21 p (tB 22 p (tL 22 p (.iconst 3) 0) (tL 21 p (.iload_n 1) 0)) (tL 20 p (.aload_n 0) 0)) (tB 19 p (tL 19 p .ireturn 0) (tL 18 p (.iconst 0) 0)))) (tB 9 p (tB 11 p (tB 12 p (tB 15 p (tL 15 p (.ifCond .ne 5) 20) (tL 12 p (.invokevirtual 83) 24)) (tL 11 p (.iload_n 2) 0)) (tB 10 p (tL 10 p (.aload_n 0) 0) (tL 9 p .ireturn 0))) (tB 2 p (tB 5 p (tB 8 p (tL 8 p (.iconst 0) 0) (tL 5 p (.ifCond .ne 5) 10)) (tL 2 p (.invokevirtual 79) 14)) (tB 1 p (tL 1 p (.iload_n 1) 0) (tL 0 p (.aload_n 0) 0)))))
set_option maxHeartbeats 4000000 in
def cd21 (p : Nat) : Option (Instr × Nat) := (tB 46 p (tB 65 p (tB 73 p (tB 78 p (tB 82 p (tB 83 p (tL 83 p .ireturn 0) (tL 82 p (.iload_n 3) 0)) (tB 79 p (tL 79 p (.putfield 59) 16) (tL 78 p .iadd 0))) (tB 74 p (tB 77 p (tL 77 p (.iconst 1) 0) (tL 74 p (.getfield 59) 16)) (tL 73 p (.aload_n 0) 0))) (tB 68 p (tB 69 p (tB 72 p (tL 72 p (.aload_n 0) 0) (tL 69 p (.invokevirtual 65) 2)) (tL 68 p (.iload_n 3) 0)) (tB 66 p (tB 67 p (tL 67 p (.aload_n 0) 0) (tL 66 p .iastore 0)) (tL 65 p (.iload_n 2) 0)))) (tB 54 p (tB 59 p (tB 61 p (tB 64 p (tL 64 p (.iload_n 3) 0) (tL 61 p (.getfield 32) 7)) (tB 60 p (tL 60 p (.aload_n 0) 0) (tL 59 p .iastore 0))) (tB 57 p (tB 58 p (tL 58 p (.iload_n 1) 0) (tL 57 p (.iload_n 3) 0)) (tL 54 p (.getfield 28) 6))) (tB 49 p (tB 52 p (tB 53 p (tL 53 p (.aload_n 0) 0) (tL 52 p (.istore_n 3) 0)) (tL 49 p (.getfield 59) 16)) (tB 47 p (tB 48 p (tL 48 p (.aload_n 0) 0) (tL 47 p .ireturn 0)) (tL 46 p (.iconst (-1)) 0))))) (tB 23 p (tB 34 p (tB 37 p (tB 41 p (tB 43 p (tL 43 p (.if_icmp .le 5) 48) (tL 41 p (.bipush 32) 0)) (tB 40 p (tL 40 p (.iload_n 2) 0) (tL 37 p (.if_icmp .lt 9) 46))) (tB 35 p (tB 36 p (tL 36 p (.iconst 1) 0) (tL 35 p (.iload_n 2) 0)) (tL 34 p .ireturn 0))) (tB 28 p (tB 30 p (tB 33 p (tL 33 p (.iconst (-1)) 0) (tL 30 p (.if_icmp .le 5) 35)) (tL 28 p (.bipush 32) 0)) (tB 24 p (tB 27 p (tL 27 p (.iload_n 1) 0) (tL 24 p (.if_icmp .lt 9) 33)) (tL 23 p (.iconst 1) 0)))) (tB 10 p (tB 17 p (tB 21 p (tB 22 p (tL 22 p (.iload_n 1) 0) (tL 21 p .ireturn 0)) (tB 20 p (tL 20 p (.iconst (-1)) 0) (tL 17 p (.if_icmp .lt 5) 22))) (tB 13 p (tB 14 p (tL 14 p (.getfield 56) 15) (tL 13 p (.aload_n 0) 0)) (tL 10 p (.getfield 59) 16))) (tB 7 p (tB 8 p (tB 9 p (tL 9 p (.aload_n 0) 0) (tL 8 p .ireturn 0)) (tL 7 p (.iconst (-1)) 0)) (tB 1 p (tB 4 p (tL 4 p (.ifCond .eq 5) 9) (tL 1 p (.getfield 62) 17)) (tL 0 p (.aload_n 0) 0))))))
set_option maxHeartbeats 4000000 in
def cd22 (p : Nat) : Option (Instr × Nat) := (tB 9 p (tB 14 p (tB 20 p (tB 23 p (tL 23 p .return_ 0) (tL 20 p (.goto (-13)) 7)) (tB 17 p (tL 17 p (.iinc 1 1) 0) (tL 14 p (.invokevirtual 65) 2))) (tB 12 p (tB 13 p (tL 13 p (.iload_n 1) 0) (tL 12 p (.aload_n 0) 0)) (tL 9 p (.if_icmp .ge 14) 23))) (tB 5 p (tB 7 p (tB 8 p (tL 8 p (.iconst 4) 0) (tL 7 p (.iload_n 1) 0)) (tB 6 p (tL 6 p (.istore_n 1) 0) (tL 5 p (.iconst 0) 0))) (tB 1 p (tB 2 p (tL 2 p (.putfield 62) 17) (tL 1 p (.iconst 0) 0)) (tL 0 p (.aload_n 0) 0))))
set_option maxHeartbeats 4000000 in
def cd23 (p : Nat) : Option (Instr × Nat) := (tB 12 p (tB 16 p (tB 20 p (tB 21 p (tB 22 p (tL 22 p .ireturn 0) (tL 21 p .imul 0)) (tL 20 p .idiv 0)) (tB 19 p (tL 19 p (.iload_n 2) 0) (tL 16 p (.getfield 62) 17))) (tB 14 p (tB 15 p (tL 15 p (.aload_n 0) 0) (tL 14 p (.iload_n 2) 0)) (tB 13 p (tL 13 p .ireturn 0) (tL 12 p (.iconst 0) 0)))) (tB 6 p (tB 8 p (tB 9 p (tL 9 p (.if_icmp .ge 5) 14) (tL 8 p (.iconst 1) 0)) (tB 7 p (tL 7 p (.iload_n 2) 0) (tL 6 p (.istore_n 2) 0))) (tB 4 p (tB 5 p (tL 5 p .iaload 0) (tL 4 p (.iload_n 1) 0)) (tB 1 p (tL 1 p (.getfield 32) 7) (tL 0 p (.aload_n 0) 0)))))
set_option maxHeartbeats 4000000 in
def cd24 (p : Nat) : Option (Instr × Nat) := (tB 6 p (tB 10 p (tB 13 p (tB 14 p (tL 14 p .ireturn 0) (tL 13 p (.iconst 0) 0)) (tL 10 p (.goto 4) 14)) (tB 9 p (tL 9 p (.iconst 1) 0) (tL 6 p (.if_icmp .gt 7) 13))) (tB 4 p (tB 5 p (tL 5 p (.iconst 3) 0) (tL 4 p (.iload_n 1) 0)) (tB 1 p (tL 1 p (.ifCond .lt 12) 13) (tL 0 p (.iload_n 1) 0))))
set_option maxHeartbeats 4000000 in
def cd25 (p : Nat) : Option (Instr × Nat) := (tB 52 p (tB 75 p (tB 87 p (tB 96 p (tB 100 p (tB 101 p (tL 101 p .ireturn 0) (tL 100 p (.iconst 0) 0)) (tB 97 p (tL 97 p (.goto 4) 101) (tL 96 p (.iconst 1) 0))) (tB 91 p (tB 93 p (tL 93 p (.if_icmp .ne 7) 100) (tL 91 p (.iload 6) 0)) (tB 88 p (tL 88 p (.invokevirtual 56) 19) (tL 87 p (.iconst 3) 0)))) (tB 80 p (tB 85 p (tB 86 p (tL 86 p (.iload_n 1) 0) (tL 85 p (.aload_n 0) 0)) (tB 82 p (tL 82 p (.if_icmp .ne 18) 100) (tL 80 p (.iload 5) 0))) (tB 76 p (tB 77 p (tL 77 p (.invokevirtual 56) 19) (tL 76 p (.iconst 2) 0)) (tL 75 p (.iload_n 1) 0)))) (tB 63 p (tB 66 p (tB 71 p (tB 74 p (tL 74 p (.aload_n 0) 0) (tL 71 p (.if_icmp .ne 29) 100)) (tB 69 p (tL 69 p (.iload 4) 0) (tL 66 p (.invokevirtual 56) 19))) (tB 64 p (tB 65 p (tL 65 p (.iconst 1) 0) (tL 64 p (.iload_n 1) 0)) (tL 63 p (.aload_n 0) 0))) (tB 55 p (tB 59 p (tB 60 p (tL 60 p (.if_icmp .ne 40) 100) (tL 59 p (.iload_n 3) 0)) (tB 56 p (tL 56 p (.invokevirtual 56) 19) (tL 55 p (.iconst 0) 0))) (tB 53 p (tB 54 p (tL 54 p (.iload_n 1) 0) (tL 53 p (.aload_n 0) 0)) (tL 52 p .ireturn 0))))) (tB 25 p (tB 37 p (tB 44 p (tB 48 p (tB 51 p (tL 51 p (.iconst 0) 0) (tL 48 p (.goto 4) 52)) (tB 47 p (tL 47 p (.iconst 1) 0) (tL 44 p (.if_icmp .ne 7) 51))) (tB 39 p (tB 42 p (tL 42 p (.iload 6) 0) (tL 39 p (.invokevirtual 59) 20)) (tB 38 p (tL 38 p (.iconst 3) 0) (tL 37 p (.iload_n 1) 0)))) (tB 28 p (tB 33 p (tB 36 p (tL 36 p (.aload_n 0) 0) (tL 33 p (.if_icmp .ne 18) 51)) (tB 31 p (tL 31 p (.iload 5) 0) (tL 28 p (.invokevirtual 59) 20))) (tB 26 p (tB 27 p (tL 27 p (.iconst 2) 0) (tL 26 p (.iload_n 1) 0)) (tL 25 p (.aload_n 0) 0)))) (tB 11 p (tB 16 p (tB 20 p (tB 22 p (tL 22 p (.if_icmp .ne 29) 51) (tL 20 p (.iload 4) 0)) (tB 17 p (tL 17 p (.invokevirtual 59) 20) (tL 16 p (.iconst 1) 0))) (tB 14 p (tB 15 p (tL 15 p (.iload_n 1) 0) (tL 14 p (.aload_n 0) 0)) (tL 11 p (.if_icmp .ne 40) 51))) (tB 5 p (tB 7 p (tB 10 p (tL 10 p (.iload_n 3) 0) (tL 7 p (.invokevirtual 59) 20)) (tB 6 p (tL 6 p (.iconst 0) 0) (tL 5 p (.iload_n 1) 0))) (tB 1 p (tB 4 p (tL 4 p (.aload_n 0) 0) (tL 1 p (.ifCond .eq 52) 53)) (tL 0 p (.iload_n 2) 0))))))
set_option maxHeartbeats 4000000 in
def cd26 (p : Nat) : Option (Instr × Nat) := (tB 20 p (tB 31 p (tB 36 p (tB 38 p (tB 41 p (tL 41 p .return_ 0) (tL 38 p (.invokevirtual 121) 28)) (tB 37 p (tL 37 p (.iconst 2) 0) (tL 36 p (.iconst 1) 0))) (tB 34 p (tB 35 p (tL 35 p (.iload_n 2) 0) (tL 34 p (.aload_n 0) 0)) (tL 31 p (.invokevirtual 118) 27))) (tB 25 p (tB 29 p (tB 30 p (tL 30 p (.iload_n 1) 0) (tL 29 p (.iconst 2) 0)) (tB 28 p (tL 28 p (.aload_n 0) 0) (tL 25 p (.invokevirtual 98) 3))) (tB 23 p (tB 24 p (tL 24 p (.iconst 1) 0) (tL 23 p (.aload_n 0) 0)) (tL 20 p (.goto 8) 28)))) (tB 11 p (tB 14 p (tB 16 p (tB 17 p (tL 17 p (.invokevirtual 133) 39) (tL 16 p .isub 0)) (tB 15 p (tL 15 p (.iconst 1) 0) (tL 14 p (.iload_n 3) 0))) (tB 12 p (tB 13 p (tL 13 p (.iload_n 1) 0) (tL 12 p (.iconst 1) 0)) (tL 11 p (.aload_n 0) 0))) (tB 5 p (tB 7 p (tB 8 p (tL 8 p (.ifCond .le 15) 23) (tL 7 p (.iload_n 3) 0)) (tB 6 p (tL 6 p (.istore_n 3) 0) (tL 5 p .iaload 0))) (tB 1 p (tB 4 p (tL 4 p (.iload_n 1) 0) (tL 1 p (.getfield 35) 8)) (tL 0 p (.aload_n 0) 0)))))
set_option maxHeartbeats 4000000 in
def cd27 (p : Nat) : Option (Instr × Nat) := (tB 28 p (tB 44 p (tB 49 p (tB 51 p (tB 54 p (tB 57 p (tL 57 p .return_ 0) (tL 54 p (.goto (-29)) 25)) (tL 51 p (.iinc 4 1) 0)) (tB 50 p (tL 50 p .iastore 0) (tL 49 p .iaload 0))) (tB 46 p (tB 48 p (tL 48 p .iadd 0) (tL 46 p (.iload 4) 0)) (tB 45 p (tL 45 p .imul 0) (tL 44 p (.iconst 4) 0)))) (tB 36 p (tB 39 p (tB 40 p (tB 43 p (tL 43 p (.iload_n 2) 0) (tL 40 p (.getfield 47) 12)) (tL 39 p (.aload_n 0) 0)) (tB 38 p (tL 38 p .iadd 0) (tL 36 p (.iload 4) 0))) (tB 32 p (tB 35 p (tL 35 p (.iload_n 3) 0) (tL 32 p (.getfield 53) 14)) (tB 31 p (tL 31 p (.aload_n 0) 0) (tL 28 p (.if_icmp .ge 29) 57))))) (tB 17 p (tB 21 p (tB 23 p (tB 25 p (tB 27 p (tL 27 p (.iconst 4) 0) (tL 25 p (.iload 4) 0)) (tL 23 p (.istore 4) 0)) (tB 22 p (tL 22 p (.iconst 0) 0) (tL 21 p (.istore_n 3) 0))) (tB 19 p (tB 20 p (tL 20 p .imul 0) (tL 19 p (.iconst 4) 0)) (tB 18 p (tL 18 p (.iload_n 1) 0) (tL 17 p .return_ 0)))) (tB 8 p (tB 12 p (tB 13 p (tB 14 p (tL 14 p (.if_icmp .lt 4) 18) (tL 13 p (.iconst 4) 0)) (tL 12 p (.iload_n 2) 0)) (tB 9 p (tL 9 p (.ifCond .lt 8) 17) (tL 8 p (.iload_n 2) 0))) (tB 2 p (tB 5 p (tL 5 p (.ifCond .eq 12) 17) (tL 2 p (.invokevirtual 136) 5)) (tB 1 p (tL 1 p (.iload_n 1) 0) (tL 0 p (.aload_n 0) 0))))))
set_option maxHeartbeats 4000000 in
def cd28 (p : Nat) : Option (Instr × Nat) := (tB 105 p (tB 155 p (tB 180 p (tB 192 p (tB 199 p (tB 201 p (tB 202 p (tL 202 p .return_ 0) (tL 201 p .iastore 0)) (tB 200 p (tL 200 p .iadd 0) (tL 199 p .imul 0))) (tB 195 p (tB 197 p (tL 197 p (.iload 13) 0) (tL 195 p (.iload 9) 0)) (tB 194 p (tL 194 p .imul 0) (tL 192 p (.iload 11) 0)))) (tB 186 p (tB 189 p (tB 190 p (tL 190 p (.iload 8) 0) (tL 189 p .iadd 0)) (tB 188 p (tL 188 p (.iconst 3) 0) (tL 186 p (.iload 14) 0))) (tB 182 p (tB 183 p (tL 183 p (.getfield 53) 14) (tL 182 p (.aload_n 0) 0)) (tB 181 p (tL 181 p .iastore 0) (tL 180 p .iadd 0))))) (tB 168 p (tB 174 p (tB 177 p (tB 179 p (tL 179 p .imul 0) (tL 177 p (.iload 12) 0)) (tB 175 p (tL 175 p (.iload 9) 0) (tL 174 p .imul 0))) (tB 170 p (tB 172 p (tL 172 p (.iload 10) 0) (tL 170 p (.iload 8) 0)) (tB 169 p (tL 169 p .iadd 0) (tL 168 p (.iconst 2) 0)))) (tB 161 p (tB 163 p (tB 166 p (tL 166 p (.iload 14) 0) (tL 163 p (.getfield 53) 14)) (tB 162 p (tL 162 p (.aload_n 0) 0) (tL 161 p .iastore 0))) (tB 159 p (tB 160 p (tL 160 p .iadd 0) (tL 159 p .imul 0)) (tB 157 p (tL 157 p (.iload 13) 0) (tL 155 p (.iload 7) 0)))))) (tB 130 p (tB 142 p (tB 149 p (tB 152 p (tB 154 p (tL 154 p .imul 0) (tL 152 p (.iload 11) 0)) (tB 150 p (tL 150 p (.iload 6) 0) (tL 149 p .iadd 0))) (tB 146 p (tB 148 p (tL 148 p (.iconst 1) 0) (tL 146 p (.iload 14) 0)) (tB 143 p (tL 143 p (.getfield 53) 14) (tL 142 p (.aload_n 0) 0)))) (tB 137 p (tB 140 p (tB 141 p (tL 141 p .iastore 0) (tL 140 p .iadd 0)) (tB 139 p (tL 139 p .imul 0) (tL 137 p (.iload 12) 0))) (tB 134 p (tB 135 p (tL 135 p (.iload 7) 0) (tL 134 p .imul 0)) (tB 132 p (tL 132 p (.iload 10) 0) (tL 130 p (.iload 6) 0))))) (tB 117 p (tB 122 p (tB 125 p (tB 128 p (tL 128 p (.iload 14) 0) (tL 125 p (.getfield 53) 14)) (tB 124 p (tL 124 p (.aload_n 0) 0) (tL 122 p (.istore 14) 0))) (tB 120 p (tB 121 p (tL 121 p .imul 0) (tL 120 p (.iconst 4) 0)) (tB 119 p (tL 119 p (.iload_n 1) 0) (tL 117 p (.istore 13) 0)))) (tB 112 p (tB 115 p (tB 116 p (tL 116 p .iaload 0) (tL 115 p .iadd 0)) (tB 114 p (tL 114 p (.iconst 3) 0) (tL 112 p (.iload 5) 0))) (tB 108 p (tB 109 p (tL 109 p (.getfield 53) 14) (tL 108 p (.aload_n 0) 0)) (tB 106 p (tL 106 p (.istore 12) 0) (tL 105 p .iaload 0))))))) (tB 53 p (tB 78 p (tB 93 p (tB 98 p (tB 103 p (tB 104 p (tL 104 p .iadd 0) (tL 103 p (.iconst 2) 0)) (tB 101 p (tL 101 p (.iload 5) 0) (tL 98 p (.getfield 53) 14))) (tB 95 p (tB 97 p (tL 97 p (.aload_n 0) 0) (tL 95 p (.istore 11) 0)) (tB 94 p (tL 94 p .iaload 0) (tL 93 p .iadd 0)))) (tB 86 p (tB 90 p (tB 92 p (tL 92 p (.iconst 1) 0) (tL 90 p (.iload 5) 0)) (tB 87 p (tL 87 p (.getfield 53) 14) (tL 86 p (.aload_n 0) 0))) (tB 83 p (tB 84 p (tL 84 p (.istore 10) 0) (tL 83 p .iaload 0)) (tB 81 p (tL 81 p (.iload 5) 0) (tL 78 p (.getfield 53) 14))))) (tB 66 p (tB 73 p (tB 75 p (tB 77 p (tL 77 p (.aload_n 0) 0) (tL 75 p (.istore 9) 0)) (tB 74 p (tL 74 p .iaload 0) (tL 73 p .iadd 0))) (tB 70 p (tB 72 p (tL 72 p (.iconst 3) 0) (tL 70 p (.iload 4) 0)) (tB 67 p (tL 67 p (.getfield 53) 14) (tL 66 p (.aload_n 0) 0)))) (tB 61 p (tB 63 p (tB 64 p (tL 64 p (.istore 8) 0) (tL 63 p .iaload 0)) (tB 62 p (tL 62 p .iadd 0) (tL 61 p (.iconst 2) 0))) (tB 56 p (tB 59 p (tL 59 p (.iload 4) 0) (tL 56 p (.getfield 53) 14)) (tB 55 p (tL 55 p (.aload_n 0) 0) (tL 53 p (.istore 7) 0)))))) (tB 28 p (tB 41 p (tB 48 p (tB 51 p (tB 52 p (tL 52 p .iaload 0) (tL 51 p .iadd 0)) (tB 50 p (tL 50 p (.iconst 1) 0) (tL 48 p (.iload 4) 0))) (tB 44 p (tB 45 p (tL 45 p (.getfield 53) 14) (tL 44 p (.aload_n 0) 0)) (tB 42 p (tL 42 p (.istore 6) 0) (tL 41 p .iaload 0)))) (tB 33 p (tB 36 p (tB 39 p (tL 39 p (.iload 4) 0) (tL 36 p (.getfield 53) 14)) (tB 35 p (tL 35 p (.aload_n 0) 0) (tL 33 p (.istore 5) 0))) (tB 31 p (tB 32 p (tL 32 p .imul 0) (tL 31 p (.iconst 4) 0)) (tB 30 p (tL 30 p (.iload_n 3) 0) (tL 28 p (.istore 4) 0))))) (tB 16 p (tB 24 p (tB 26 p (tB 27 p (tL 27 p .imul 0) (tL 26 p (.iconst 4) 0)) (tB 25 p (tL 25 p (.iload_n 2) 0) (tL 24 p .return_ 0))) (tB 18 p (tB 21 p (tL 21 p (.ifCond .ne 4) 25) (tL 18 p (.invokevirtual 136) 5)) (tB 17 p (tL 17 p (.iload_n 3) 0) (tL 16 p (.aload_n 0) 0)))) (tB 8 p (tB 10 p (tB 13 p (tL 13 p (.ifCond .eq 11) 24) (tL 10 p (.invokevirtual 136) 5)) (tB 9 p (tL 9 p (.iload_n 2) 0) (tL 8 p (.aload_n 0) 0))) (tB 2 p (tB 5 p (tL 5 p (.ifCond .eq 19) 24) (tL 2 p (.invokevirtual 136) 5)) (tB 1 p (tL 1 p (.iload_n 1) 0) (tL 0 p (.aload_n 0) 0))))))))
set_option maxHeartbeats 4000000 in
def cd29 (p : Nat) : Option (Instr × Nat) := (tB 17 p (tB 24 p (tB 26 p (tB 27 p (tB 28 p (tL 28 p .ireturn 0) (tL 27 p .iaload 0)) (tL 26 p .iadd 0)) (tB 25 p (tL 25 p (.iload_n 2) 0) (tL 24 p .imul 0))) (tB 19 p (tB 22 p (tB 23 p (tL 23 p (.iconst 4) 0) (tL 22 p (.iload_n 1) 0)) (tL 19 p (.getfield 53) 14)) (tB 18 p (tL 18 p (.aload_n 0) 0) (tL 17 p .ireturn 0)))) (tB 8 p (tB 10 p (tB 13 p (tB 16 p (tL 16 p (.iconst 0) 0) (tL 13 p (.ifCond .ne 5) 18)) (tL 10 p (.invokevirtual 83) 24)) (tB 9 p (tL 9 p (.iload_n 2) 0) (tL 8 p (.aload_n 0) 0))) (tB 2 p (tB 5 p (tL 5 p (.ifCond .eq 11) 16) (tL 2 p (.invokevirtual 136) 5)) (tB 1 p (tL 1 p (.iload_n 1) 0) (tL 0 p (.aload_n 0) 0)))))
set_option maxHeartbeats 4000000 in
def cd30 (p : Nat) : Option (Instr × Nat) := (tB 47 p (tB 70 p (tB 82 p (tB 88 p (tB 90 p (tB 91 p (tL 91 p .return_ 0) (tL 90 p .iastore 0)) (tB 89 p (tL 89 p .iadd 0) (tL 88 p (.iconst 1) 0))) (tB 86 p (tB 87 p (tL 87 p (.iload_n 3) 0) (tL 86 p (.iload_n 1) 0)) (tB 83 p (tL 83 p (.getfield 38) 9) (tL 82 p (.aload_n 0) 0)))) (tB 76 p (tB 78 p (tB 79 p (tL 79 p (.invokevirtual 101) 6) (tL 78 p (.iconst 1) 0)) (tB 77 p (tL 77 p (.iload_n 1) 0) (tL 76 p (.aload_n 0) 0))) (tB 72 p (tB 73 p (tL 73 p (.invokevirtual 121) 28) (tL 72 p (.iconst 0) 0)) (tB 71 p (tL 71 p (.iconst 1) 0) (tL 70 p (.iconst 1) 0))))) (tB 58 p (tB 64 p (tB 66 p (tB 69 p (tL 69 p (.aload_n 0) 0) (tL 66 p (.invokevirtual 118) 27)) (tB 65 p (tL 65 p (.iload_n 1) 0) (tL 64 p (.iconst 1) 0))) (tB 60 p (tB 63 p (tL 63 p (.aload_n 0) 0) (tL 60 p (.invokevirtual 114) 32)) (tB 59 p (tL 59 p (.iconst 0) 0) (tL 58 p (.iload_n 3) 0)))) (tB 52 p (tB 56 p (tB 57 p (tL 57 p (.iload_n 1) 0) (tL 56 p (.aload_n 0) 0)) (tB 55 p (tL 55 p .return_ 0) (tL 52 p (.ifCond .ne 4) 56))) (tB 48 p (tB 49 p (tL 49 p (.invokevirtual 110) 31) (tL 48 p (.iload_n 3) 0)) (tL 47 p (.iload_n 1) 0))))) (tB 23 p (tB 35 p (tB 43 p (tB 45 p (tB 46 p (tL 46 p (.aload_n 0) 0) (tL 45 p (.istore_n 3) 0)) (tB 44 p (tL 44 p .iaload 0) (tL 43 p (.iload_n 1) 0))) (tB 39 p (tB 40 p (tL 40 p (.getfield 38) 9) (tL 39 p (.aload_n 0) 0)) (tB 36 p (tL 36 p (.invokevirtual 107) 34) (tL 35 p (.iload_n 1) 0)))) (tB 29 p (tB 31 p (tB 34 p (tL 34 p (.aload_n 0) 0) (tL 31 p (.if_icmp .lt 8) 39)) (tB 30 p (tL 30 p .iaload 0) (tL 29 p (.iload_n 1) 0))) (tB 25 p (tB 26 p (tL 26 p (.getfield 28) 6) (tL 25 p (.aload_n 0) 0)) (tB 24 p (tL 24 p (.iload_n 2) 0) (tL 23 p (.istore_n 2) 0))))) (tB 11 p (tB 17 p (tB 21 p (tB 22 p (tL 22 p .iadd 0) (tL 21 p .iaload 0)) (tB 20 p (tL 20 p (.iload_n 1) 0) (tL 17 p (.getfield 38) 9))) (tB 15 p (tB 16 p (tL 16 p (.aload_n 0) 0) (tL 15 p .iaload 0)) (tB 14 p (tL 14 p (.iload_n 1) 0) (tL 11 p (.getfield 35) 8)))) (tB 5 p (tB 9 p (tB 10 p (tL 10 p (.aload_n 0) 0) (tL 9 p .return_ 0)) (tB 6 p (tL 6 p (.if_icmp .lt 4) 10) (tL 5 p (.iconst 4) 0))) (tB 1 p (tB 4 p (tL 4 p (.iload_n 1) 0) (tL 1 p (.ifCond .lt 8) 9)) (tL 0 p (.iload_n 1) 0))))))
set_option maxHeartbeats 4000000 in
def cd31 (p : Nat) : Option (Instr × Nat) := (tB 13 p (tB 19 p (tB 23 p (tB 24 p (tL 24 p .ireturn 0) (tL 23 p (.iconst 0) 0)) (tB 20 p (tL 20 p (.goto 4) 24) (tL 19 p (.iconst 1) 0))) (tB 14 p (tB 16 p (tL 16 p (.if_icmp .ge 7) 23) (tL 14 p (.bipush 32) 0)) (tL 13 p (.iload_n 2) 0))) (tB 5 p (tB 9 p (tB 10 p (tL 10 p (.ifCond .lt 13) 23) (tL 9 p (.iload_n 2) 0)) (tB 6 p (tL 6 p (.if_icmp .ge 17) 23) (tL 5 p (.iconst 4) 0))) (tB 1 p (tB 4 p (tL 4 p (.iload_n 1) 0) (tL 1 p (.ifCond .lt 22) 23)) (tL 0 p (.iload_n 1) 0))))
set_option maxHeartbeats 4000000 in
def cd32 (p : Nat) : Option (Instr × Nat) := (tB 31 p (tB 49 p (tB 58 p (tB 60 p (tB 63 p (tB 66 p (tL 66 p .return_ 0) (tL 63 p (.goto (-29)) 34)) (tL 60 p (.iinc 6 1) 0)) (tB 59 p (tL 59 p .iastore 0) (tL 58 p .iaload 0))) (tB 53 p (tB 55 p (tB 57 p (tL 57 p .iadd 0) (tL 55 p (.iload 6) 0)) (tL 53 p (.iload 5) 0)) (tB 50 p (tL 50 p (.getfield 53) 14) (tL 49 p (.aload_n 0) 0)))) (tB 40 p (tB 44 p (tB 46 p (tB 48 p (tL 48 p .iadd 0) (tL 46 p (.iload 6) 0)) (tL 44 p (.iload 4) 0)) (tB 41 p (tL 41 p (.getfield 41) 10) (tL 40 p (.aload_n 0) 0))) (tB 34 p (tB 36 p (tB 37 p (tL 37 p (.if_icmp .ge 29) 66) (tL 36 p (.iconst 4) 0)) (tL 34 p (.iload 6) 0)) (tB 32 p (tL 32 p (.istore 6) 0) (tL 31 p (.iconst 0) 0))))) (tB 17 p (tB 24 p (tB 27 p (tB 28 p (tB 29 p (tL 29 p (.istore 5) 0) (tL 28 p .imul 0)) (tL 27 p (.iconst 4) 0)) (tB 26 p (tL 26 p (.iload_n 3) 0) (tL 24 p (.istore 4) 0))) (tB 19 p (tB 20 p (tB 21 p (tL 21 p (.invokevirtual 139) 33) (tL 20 p (.iload_n 2) 0)) (tL 19 p (.iload_n 1) 0)) (tB 18 p (tL 18 p (.aload_n 0) 0) (tL 17 p .return_ 0)))) (tB 8 p (tB 10 p (tB 11 p (tB 14 p (tL 14 p (.ifCond .ne 4) 18) (tL 11 p (.invokevirtual 110) 31)) (tL 10 p (.iload_n 2) 0)) (tB 9 p (tL 9 p (.iload_n 1) 0) (tL 8 p (.aload_n 0) 0))) (tB 2 p (tB 5 p (tL 5 p (.ifCond .eq 12) 17) (tL 2 p (.invokevirtual 136) 5)) (tB 1 p (tL 1 p (.iload_n 3) 0) (tL 0 p (.aload_n 0) 0))))))
set_option maxHeartbeats 4000000 in
def cd33 (p : Nat) : Option (Instr × Nat) := (tB 5 p (tB 7 p (tB 8 p (tL 8 p .ireturn 0) (tL 7 p .imul 0)) (tB 6 p (tL 6 p (.iconst 4) 0) (tL 5 p .iadd 0))) (tB 3 p (tB 4 p (tL 4 p (.iload_n 2) 0) (tL 3 p .imul 0)) (tB 1 p (tL 1 p (.bipush 32) 0) (tL 0 p (.iload_n 1) 0))))
set_option maxHeartbeats 4000000 in
def cd34 (p : Nat) : Option (Instr × Nat) := (tB 20 p (tB 32 p (tB 35 p (tB 36 p (tB 37 p (tL 37 p .return_ 0) (tL 36 p .iastore 0)) (tL 35 p .isub 0)) (tB 33 p (tB 34 p (tL 34 p (.iconst 1) 0) (tL 33 p .iaload 0)) (tL 32 p (.iload_n 1) 0))) (tB 27 p (tB 28 p (tB 29 p (tL 29 p (.getfield 35) 8) (tL 28 p (.aload_n 0) 0)) (tL 27 p (.iload_n 1) 0)) (tB 23 p (tB 24 p (tL 24 p (.getfield 35) 8) (tL 23 p (.aload_n 0) 0)) (tL 20 p (.ifCond .le 17) 37)))) (tB 10 p (tB 15 p (tB 18 p (tB 19 p (tL 19 p .iaload 0) (tL 18 p (.iload_n 1) 0)) (tL 15 p (.getfield 35) 8)) (tB 11 p (tB 14 p (tL 14 p (.aload_n 0) 0) (tL 11 p (.invokevirtual 124) 35)) (tL 10 p (.iload_n 1) 0))) (tB 5 p (tB 6 p (tB 9 p (tL 9 p (.aload_n 0) 0) (tL 6 p (.ifCond .ne 8) 14)) (tL 5 p .iaload 0)) (tB 1 p (tB 4 p (tL 4 p (.iload_n 1) 0) (tL 1 p (.getfield 35) 8)) (tL 0 p (.aload_n 0) 0)))))
set_option maxHeartbeats 4000000 in
def cd35 (p : Nat) : Option (Instr × Nat) := (tB 40 p (tB 64 p (tB 73 p (tB 79 p (tB 81 p (tB 84 p (tL 84 p .return_ 0) (tL 81 p (.invokevirtual 101) 6)) (tB 80 p (tL 80 p (.iconst 1) 0) (tL 79 p (.iload_n 1) 0))) (tB 75 p (tB 78 p (tL 78 p (.aload_n 0) 0) (tL 75 p (.invokevirtual 98) 3)) (tB 74 p (tL 74 p (.iconst 1) 0) (tL 73 p (.aload_n 0) 0)))) (tB 67 p (tB 71 p (tB 72 p (tL 72 p .iastore 0) (tL 71 p (.iconst 0) 0)) (tB 70 p (tL 70 p (.iload_n 1) 0) (tL 67 p (.getfield 38) 9))) (tB 65 p (tB 66 p (tL 66 p (.aload_n 0) 0) (tL 65 p .iastore 0)) (tL 64 p (.iload_n 2) 0)))) (tB 49 p (tB 56 p (tB 60 p (tB 63 p (tL 63 p (.iload_n 1) 0) (tL 60 p (.getfield 35) 8)) (tB 59 p (tL 59 p (.aload_n 0) 0) (tL 56 p (.goto (-33)) 23))) (tB 50 p (tB 53 p (tL 53 p (.iinc 3 1) 0) (tL 50 p (.invokevirtual 130) 37)) (tL 49 p (.iconst 1) 0))) (tB 43 p (tB 47 p (tB 48 p (tL 48 p (.iload_n 3) 0) (tL 47 p (.iload_n 1) 0)) (tB 46 p (tL 46 p (.aload_n 0) 0) (tL 43 p (.invokevirtual 121) 28))) (tB 41 p (tB 42 p (tL 42 p (.iconst 1) 0) (tL 41 p (.iconst 2) 0)) (tL 40 p (.iconst 1) 0))))) (tB 22 p (tB 31 p (tB 34 p (tB 36 p (tB 39 p (tL 39 p (.aload_n 0) 0) (tL 36 p (.invokevirtual 127) 36)) (tB 35 p (tL 35 p .isub 0) (tL 34 p (.iload_n 3) 0))) (tB 32 p (tB 33 p (tL 33 p .isub 0) (tL 32 p (.iconst 1) 0)) (tL 31 p (.iload_n 2) 0))) (tB 25 p (tB 29 p (tB 30 p (tL 30 p (.iload_n 1) 0) (tL 29 p (.iconst 2) 0)) (tB 28 p (tL 28 p (.aload_n 0) 0) (tL 25 p (.if_icmp .ge 34) 59))) (tB 23 p (tB 24 p (tL 24 p (.iload_n 2) 0) (tL 23 p (.iload_n 3) 0)) (tL 22 p (.istore_n 3) 0)))) (tB 10 p (tB 16 p (tB 18 p (tB 21 p (tL 21 p (.iconst 0) 0) (tL 18 p (.invokevirtual 98) 3)) (tB 17 p (tL 17 p (.iconst 1) 0) (tL 16 p (.aload_n 0) 0))) (tB 13 p (tB 15 p (tL 15 p (.istore_n 2) 0) (tL 13 p (.bipush 32) 0)) (tL 10 p (.if_icmp .le 6) 16))) (tB 5 p (tB 7 p (tB 8 p (tL 8 p (.bipush 32) 0) (tL 7 p (.iload_n 2) 0)) (tB 6 p (tL 6 p (.istore_n 2) 0) (tL 5 p .iaload 0))) (tB 1 p (tB 4 p (tL 4 p (.iload_n 1) 0) (tL 1 p (.getfield 38) 9)) (tL 0 p (.aload_n 0) 0))))))
set_option maxHeartbeats 4000000 in
def cd36 (p : Nat) : Option (Instr × Nat) := (tB 31 p (tB 49 p (tB 58 p (tB 60 p (tB 63 p (tB 66 p (tL 66 p .return_ 0) (tL 63 p (.goto (-29)) 34)) (tL 60 p (.iinc 6 1) 0)) (tB 59 p (tL 59 p .iastore 0) (tL 58 p .iaload 0))) (tB 53 p (tB 55 p (tB 57 p (tL 57 p .iadd 0) (tL 55 p (.iload 6) 0)) (tL 53 p (.iload 4) 0)) (tB 50 p (tL 50 p (.getfield 41) 10) (tL 49 p (.aload_n 0) 0)))) (tB 40 p (tB 44 p (tB 46 p (tB 48 p (tL 48 p .iadd 0) (tL 46 p (.iload 6) 0)) (tL 44 p (.iload 5) 0)) (tB 41 p (tL 41 p (.getfield 53) 14) (tL 40 p (.aload_n 0) 0))) (tB 34 p (tB 36 p (tB 37 p (tL 37 p (.if_icmp .ge 29) 66) (tL 36 p (.iconst 4) 0)) (tL 34 p (.iload 6) 0)) (tB 32 p (tL 32 p (.istore 6) 0) (tL 31 p (.iconst 0) 0))))) (tB 17 p (tB 24 p (tB 27 p (tB 28 p (tB 29 p (tL 29 p (.istore 5) 0) (tL 28 p .imul 0)) (tL 27 p (.iconst 4) 0)) (tB 26 p (tL 26 p (.iload_n 1) 0) (tL 24 p (.istore 4) 0))) (tB 19 p (tB 20 p (tB 21 p (tL 21 p (.invokevirtual 139) 33) (tL 20 p (.iload_n 3) 0)) (tL 19 p (.iload_n 2) 0)) (tB 18 p (tL 18 p (.aload_n 0) 0) (tL 17 p .return_ 0)))) (tB 8 p (tB 10 p (tB 11 p (tB 14 p (tL 14 p (.ifCond .ne 4) 18) (tL 11 p (.invokevirtual 110) 31)) (tL 10 p (.iload_n 3) 0)) (tB 9 p (tL 9 p (.iload_n 2) 0) (tL 8 p (.aload_n 0) 0))) (tB 2 p (tB 5 p (tL 5 p (.ifCond .eq 12) 17) (tL 2 p (.invokevirtual 136) 5)) (tB 1 p (tL 1 p (.iload_n 1) 0) (tL 0 p (.aload_n 0) 0))))))
set_option maxHeartbeats 4000000 in
def cd37 (p : Nat) : Option (Instr × Nat) := (tB 31 p (tB 49 p (tB 58 p (tB 60 p (tB 63 p (tB 66 p (tL 66 p .return_ 0) (tL 63 p (.goto (-29)) 34)) (tL 60 p (.iinc 6 1) 0)) (tB 59 p (tL 59 p .iastore 0) (tL 58 p .iaload 0))) (tB 53 p (tB 55 p (tB 57 p (tL 57 p .iadd 0) (tL 55 p (.iload 6) 0)) (tL 53 p (.iload 5) 0)) (tB 50 p (tL 50 p (.getfield 53) 14) (tL 49 p (.aload_n 0) 0)))) (tB 40 p (tB 44 p (tB 46 p (tB 48 p (tL 48 p .iadd 0) (tL 46 p (.iload 6) 0)) (tL 44 p (.iload 4) 0)) (tB 41 p (tL 41 p (.getfield 44) 11) (tL 40 p (.aload_n 0) 0))) (tB 34 p (tB 36 p (tB 37 p (tL 37 p (.if_icmp .ge 29) 66) (tL 36 p (.iconst 4) 0)) (tL 34 p (.iload 6) 0)) (tB 32 p (tL 32 p (.istore 6) 0) (tL 31 p (.iconst 0) 0))))) (tB 17 p (tB 24 p (tB 27 p (tB 28 p (tB 29 p (tL 29 p (.istore 5) 0) (tL 28 p .imul 0)) (tL 27 p (.iconst 4) 0)) (tB 26 p (tL 26 p (.iload_n 3) 0) (tL 24 p (.istore 4) 0))) (tB 19 p (tB 20 p (tB 21 p (tL 21 p (.invokevirtual 139) 33) (tL 20 p (.iload_n 2) 0)) (tL 19 p (.iload_n 1) 0)) (tB 18 p (tL 18 p (.aload_n 0) 0) (tL 17 p .return_ 0)))) (tB 8 p (tB 10 p (tB 11 p (tB 14 p (tL 14 p (.ifCond .ne 4) 18) (tL 11 p (.invokevirtual 110) 31)) (tL 10 p (.iload_n 2) 0)) (tB 9 p (tL 9 p (.iload_n 1) 0) (tL 8 p (.aload_n 0) 0))) (tB 2 p (tB 5 p (tL 5 p (.ifCond .eq 12) 17) (tL 2 p (.invokevirtual 136) 5)) (tB 1 p (tL 1 p (.iload_n 3) 0) (tL 0 p (.aload_n 0) 0))))))
set_option maxHeartbeats 4000000 in
def cd38 (p : Nat) : Option (Instr × Nat) := (tB 6 p (tB 8 p (tB 9 p (tB 12 p (tL 12 p .return_ 0) (tL 9 p (.invokevirtual 104) 7)) (tL 8 p (.iconst 3) 0)) (tB 7 p (tL 7 p (.iload_n 1) 0) (tL 6 p (.aload_n 0) 0))) (tB 2 p (tB 3 p (tL 3 p (.invokevirtual 86) 26) (tL 2 p (.iconst 3) 0)) (tB 1 p (tL 1 p (.iload_n 1) 0) (tL 0 p (.aload_n 0) 0))))
set_option maxHeartbeats 4000000 in
def cd39 (p : Nat) : Option (Instr × Nat) := (tB 31 p (tB 49 p (tB 58 p (tB 60 p (tB 63 p (tB 66 p (tL 66 p .return_ 0) (tL 63 p (.goto (-29)) 34)) (tL 60 p (.iinc 6 1) 0)) (tB 59 p (tL 59 p .iastore 0) (tL 58 p .iaload 0))) (tB 53 p (tB 55 p (tB 57 p (tL 57 p .iadd 0) (tL 55 p (.iload 6) 0)) (tL 53 p (.iload 4) 0)) (tB 50 p (tL 50 p (.getfield 44) 11) (tL 49 p (.aload_n 0) 0)))) (tB 40 p (tB 44 p (tB 46 p (tB 48 p (tL 48 p .iadd 0) (tL 46 p (.iload 6) 0)) (tL 44 p (.iload 5) 0)) (tB 41 p (tL 41 p (.getfield 53) 14) (tL 40 p (.aload_n 0) 0))) (tB 34 p (tB 36 p (tB 37 p (tL 37 p (.if_icmp .ge 29) 66) (tL 36 p (.iconst 4) 0)) (tL 34 p (.iload 6) 0)) (tB 32 p (tL 32 p (.istore 6) 0) (tL 31 p (.iconst 0) 0))))) (tB 17 p (tB 24 p (tB 27 p (tB 28 p (tB 29 p (tL 29 p (.istore 5) 0) (tL 28 p .imul 0)) (tL 27 p (.iconst 4) 0)) (tB 26 p (tL 26 p (.iload_n 1) 0) (tL 24 p (.istore 4) 0))) (tB 19 p (tB 20 p (tB 21 p (tL 21 p (.invokevirtual 139) 33) (tL 20 p (.iload_n 3) 0)) (tL 19 p (.iload_n 2) 0)) (tB 18 p (tL 18 p (.aload_n 0) 0) (tL 17 p .return_ 0)))) (tB 8 p (tB 10 p (tB 11 p (tB 14 p (tL 14 p (.ifCond .ne 4) 18) (tL 11 p (.invokevirtual 110) 31)) (tL 10 p (.iload_n 3) 0)) (tB 9 p (tL 9 p (.iload_n 2) 0) (tL 8 p (.aload_n 0) 0))) (tB 2 p (tB 5 p (tL 5 p (.ifCond .eq 12) 17) (tL 2 p (.invokevirtual 136) 5)) (tB 1 p (tL 1 p (.iload_n 1) 0) (tL 0 p (.aload_n 0) 0))))))
def pCode (m pc : Nat) : Option (Instr × Nat) := bif Nat.ble pN m then none else bif Nat.ble (pTop m) pc then none else (bif Nat.ble 20 m then (bif Nat.ble 30 m then (bif Nat.ble 35 m then (bif Nat.ble 37 m then (bif Nat.ble 38 m then (bif Nat.ble 39 m then cd39 pc else cd38 pc) else cd37 pc) else (bif Nat.ble 36 m then cd36 pc else cd35 pc)) else (bif Nat.ble 32 m then (bif Nat.ble 33 m then (bif Nat.ble 34 m then cd34 pc else cd33 pc) else cd32 pc) else (bif Nat.ble 31 m then cd31 pc else cd30 pc))) else (bif Nat.ble 25 m then (bif Nat.ble 27 m then (bif Nat.ble 28 m then (bif Nat.ble 29 m then cd29 pc else cd28 pc) else cd27 pc) else (bif Nat.ble 26 m then cd26 pc else cd25 pc)) else (bif Nat.ble 22 m then (bif Nat.ble 23 m then (bif Nat.ble 24 m then cd24 pc else cd23 pc) else cd22 pc) else (bif Nat.ble 21 m then cd21 pc else cd20 pc)))) else (bif Nat.ble 10 m then (bif Nat.ble 15 m then (bif Nat.ble 17 m then (bif Nat.ble 18 m then (bif Nat.ble 19 m then cd19 pc else cd18 pc) else cd17 pc) else (bif Nat.ble 16 m then cd16 pc else cd15 pc)) else (bif Nat.ble 12 m then (bif Nat.ble 13 m then (bif Nat.ble 14 m then cd14 pc else cd13 pc) else cd12 pc) else (bif Nat.ble 11 m then cd11 pc else cd10 pc))) else (bif Nat.ble 5 m then (bif Nat.ble 7 m then (bif Nat.ble 8 m then (bif Nat.ble 9 m then cd9 pc else cd8 pc) else cd7 pc) else (bif Nat.ble 6 m then cd6 pc else cd5 pc)) else (bif Nat.ble 2 m then (bif Nat.ble 3 m then (bif Nat.ble 4 m then cd4 pc else cd3 pc) else cd2 pc) else (bif Nat.ble 1 m then cd1 pc else cd0 pc)))))
def lkF : List (Nat × Nat × Nat) := [(1, 7, 0), (1, 13, 1), (1, 16, 2), (1, 19, 3), (1, 22, 4), (1, 25, 5), (1, 28, 6), (1, 32, 7), (1, 35, 8), (1, 38, 9), (1, 41, 10), (1, 44, 11), (1, 47, 12), (1, 50, 13), (1, 53, 14), (1, 56, 15), (1, 59, 16), (1, 62, 17)]
def lkN : List (Nat × Nat) := [(0, 7)]
def lkC : List (Nat × Nat × Nat) := [(0, 12, 0)]
def lkD : List (Nat × Nat × Nat) := []
def lkV : List (Nat × Nat × Nat) := [(0, 9, 1), (1, 65, 2), (1, 98, 3), (1, 69, 4), (1, 136, 5), (1, 101, 6), (1, 104, 7), (0, 17, 8), (0, 23, 9), (0, 29, 10), (0, 33, 11), (0, 36, 12), (0, 40, 13), (1, 79, 14), (0, 44, 15), (0, 47, 16), (0, 50, 17), (0, 53, 18), (0, 56, 19), (0, 59, 20), (0, 13, 21), (0, 26, 22), (1, 94, 23), (1, 83, 24), (0, 62, 25), (1, 86, 26), (1, 118, 27), (1, 121, 28), (1, 90, 29), (1, 73, 30), (1, 110, 31), (1, 114, 32), (1, 139, 33), (1, 107, 34), (1, 124, 35), (1, 127, 36), (1, 130, 37), (1, 76, 38), (1, 133, 39)]
def lkO : List (Nat × Nat) := [(1, 1)]
def mV : List Nat := [9, 10, 11, 13, 15, 16, 17, 18, 19, 20, 21, 22]
def mP : List Nat := [2, 3, 4, 5, 6, 7, 14, 23, 24, 26, 27, 28, 29, 30, 31, 32, 33, 34, 35, 36, 37, 38, 39]
def mS : List Nat := [8, 12, 25]
def mI : List Nat := [1]
def mA : List Nat := [1, 2, 3, 4, 5, 6, 7, 8, 9, 10, 11, 12, 13, 14, 15, 16, 17, 18, 19, 20, 21, 22, 23, 24, 25, 26, 27, 28, 29, 30, 31, 32, 33, 34, 35, 36, 37, 38, 39]
def aTys : List FieldType := [.int]
abbrev QCell := List Value ⊕ ((FieldType × List Int32) ⊕ List Int64)
abbrev QHeap := List QCell
abbrev QLoc := List (Option Value)
abbrev vI (x : Int32) : Option Value := some (.int x)
abbrev vR (a : Addr) : Option Value := some (.ref a)
abbrev vL (x : Int64) : Option Value := some (.long x)
abbrev QSt := Nat × QLoc × List Value × QHeap
def qv (ad : Nat → Addr) : Value → Value
 | .ref k => .ref (ad k)
 | v => v
def qsz : QCell → Nat
 | .inl _ => cN
 | .inr (.inl x) => x.2.length
 | .inr (.inr x) => x.length
def qhs : QHeap → Nat
 | [] => 0
 | c :: t => qsz c + qhs t
def aget {α : Type} (xs : List α) (j : Int32) : Option α := if j < 0 then none else xs[j.toNatClampNeg]?
def aset {α : Type} (xs : List α) (j : Int32) (v : α) : Option (List α) := if j < 0 then none else if j.toNatClampNeg < xs.length then some (xs.set j.toNatClampNeg v) else none
def qnew (n : Int32) : Option Nat := if n < 0 then none else if n.toNatClampNeg ≤ 67108864 then some n.toNatClampNeg else none
def qdiv (x y : Int32) : Option Int32 := if y = 0 then none else some (x / y)
def qrem (x y : Int32) : Option Int32 := if y = 0 then none else some (x % y)
def qboo (x : Int32) : Option Int32 := if x = 0 then some x else if x = 1 then some x else none
def lget : QLoc → Nat → Option Value
 | [], _ => none
 | v :: _, 0 => v
 | _ :: t, k + 1 => lget t k
def hget : QHeap → Nat → Option QCell
 | [], _ => none
 | v :: _, 0 => some v
 | _ :: t, k + 1 => hget t k
def vget : List Value → Nat → Option Value
 | [], _ => none
 | v :: _, 0 => some v
 | _ :: t, k + 1 => vget t k
def lkill (L : QLoc) : Nat → QLoc
 | 0 => L
 | k + 1 => match lget L k with
  | some (.long _) => L.set k none
  | some (.double _) => L.set k none
  | _ => L
def lput (L : QLoc) (k : Nat) (v : Value) : Option QLoc :=
 match v with
 | .long x => bif Nat.ble (k + 2) L.length then some (((lkill L k).set k (some (.long x))).set (k + 1) none) else none
 | .double _ => none
 | v => bif Nat.ble (k + 1) L.length then some ((lkill L k).set k (some v)) else none
def qload (pc : Nat) (L : QLoc) (S : List Value) (σ : QHeap) (k : Nat) (ok : Value → Bool) : Option QSt :=
 match lget L k with
 | some v => bif ok v then some (pc, L, v :: S, σ) else none
 | none => none
def isI : Value → Bool | .int _ => true | _ => false
def isJ : Value → Bool | .long _ => true | _ => false
def isR : Value → Bool | .ref _ => true | _ => false
def qstore (pc : Nat) (L : QLoc) (S : List Value) (σ : QHeap) (k : Nat) (ok : Value → Bool) : Option QSt :=
 match S with
 | v :: S' => bif ok v then (match lput L k v with | some L' => some (pc, L', S', σ) | none => none) else none
 | [] => none
def qbin (pc : Nat) (L : QLoc) (S : List Value) (σ : QHeap) (f : Int32 → Int32 → Int32) : Option QSt :=
 match S with
 | .int y :: .int x :: S' => some (pc, L, .int (f x y) :: S', σ)
 | _ => none
def qbino (pc : Nat) (L : QLoc) (S : List Value) (σ : QHeap) (f : Int32 → Int32 → Option Int32) : Option QSt :=
 match S with
 | .int y :: .int x :: S' => (f x y).bind fun z => some (pc, L, .int z :: S', σ)
 | _ => none
def qbinJ (pc : Nat) (L : QLoc) (S : List Value) (σ : QHeap) (f : Int64 → Int64 → Int64) : Option QSt :=
 match S with
 | .long y :: .long x :: S' => some (pc, L, .long (f x y) :: S', σ)
 | _ => none
def qshJ (pc : Nat) (L : QLoc) (S : List Value) (σ : QHeap) (f : Int64 → Int32 → Int64) : Option QSt :=
 match S with
 | .int y :: .long x :: S' => some (pc, L, .long (f x y) :: S', σ)
 | _ => none
def quni (pc : Nat) (L : QLoc) (S : List Value) (σ : QHeap) (f : Int32 → Value) : Option QSt :=
 match S with
 | .int x :: S' => some (pc, L, f x :: S', σ)
 | _ => none
def quniJ (pc : Nat) (L : QLoc) (S : List Value) (σ : QHeap) (f : Int64 → Value) : Option QSt :=
 match S with
 | .long x :: S' => some (pc, L, f x :: S', σ)
 | _ => none
def qald (pc : Nat) (L : QLoc) (S : List Value) (σ : QHeap) (ok : FieldType → Bool) : Option QSt :=
 match S with
 | .int j :: .ref a :: S' => (match hget σ a with
  | some (.inr (.inl x)) => bif ok x.1 then (aget x.2 j).bind fun v => some (pc, L, .int v :: S', σ) else none
  | _ => none)
 | _ => none
def qaldJ (pc : Nat) (L : QLoc) (S : List Value) (σ : QHeap) : Option QSt :=
 match S with
 | .int j :: .ref a :: S' => (match hget σ a with
  | some (.inr (.inr x)) => (aget x j).bind fun v => some (pc, L, .long v :: S', σ)
  | _ => none)
 | _ => none
def qnar : FieldType → Int32 → Int32
 | .boolean, x => x &&& 1
 | .byte, x => x.toInt8.toInt32
 | _, x => x
def qast (pc : Nat) (L : QLoc) (S : List Value) (σ : QHeap) (ok : FieldType → Bool) : Option QSt :=
 match S with
 | .int v :: .int j :: .ref a :: S' => (match hget σ a with
  | some (.inr (.inl x)) => bif ok x.1 && Nat.ble k0 a then (aset x.2 j (qnar x.1 v)).bind fun y => some (pc, L, S', σ.set a (.inr (.inl (x.1, y)))) else none
  | _ => none)
 | _ => none
def qastJ (pc : Nat) (L : QLoc) (S : List Value) (σ : QHeap) : Option QSt :=
 match S with
 | .long v :: .int j :: .ref a :: S' => (match hget σ a with
  | some (.inr (.inr x)) => bif Nat.ble k0 a then (aset x j v).bind fun y => some (pc, L, S', σ.set a (.inr (.inr y))) else none
  | _ => none)
 | _ => none
def tyI : FieldType → Bool | .int => true | _ => false
def tyB : FieldType → Bool | .boolean => true | .byte => true | _ => false
def qfit : FieldType → Value → Option Value
 | .int, .int x => some (.int x)
 | .boolean, .int x => (qboo x).bind fun y => some (.int y)
 | .long, .long x => some (.long x)
 | .array t, .ref a => some (.ref a)
 | _, _ => none
def qget (pc : Nat) (L : QLoc) (S : List Value) (σ : QHeap) (k : Nat) : Option QSt :=
 match S with
 | .ref a :: S' => (match hget σ a with
  | some (.inl vs) => (match vget vs k with | some v => some (pc, L, v :: S', σ) | none => none)
  | _ => none)
 | _ => none
def qput (pc : Nat) (L : QLoc) (S : List Value) (σ : QHeap) (k : Nat) : Option QSt :=
 match S with
 | v :: .ref a :: S' => (match hget σ a with
  | some (.inl vs) => bif Nat.ble k0 a && Nat.ble (k + 1) vs.length then (qfit (fTy k) v).bind fun w => some (pc, L, S', σ.set a (.inl (vs.set k w))) else none
  | _ => none)
 | _ => none
def qnewA (pc : Nat) (L : QLoc) (S : List Value) (σ : QHeap) (t : ArrayType) : Option QSt :=
 match S with
 | .int n :: S' => (match t with
  | .int => (qnew n).bind fun k => some (pc, L, .ref σ.length :: S', σ ++ [.inr (.inl (.int, List.replicate k 0))])
  | .boolean => (qnew n).bind fun k => some (pc, L, .ref σ.length :: S', σ ++ [.inr (.inl (.boolean, List.replicate k 0))])
  | .byte => (qnew n).bind fun k => some (pc, L, .ref σ.length :: S', σ ++ [.inr (.inl (.byte, List.replicate k 0))])
  | .long => (qnew n).bind fun k => some (pc, L, .ref σ.length :: S', σ ++ [.inr (.inr (List.replicate k 0))])
  | _ => none)
 | _ => none
def qlen (pc : Nat) (L : QLoc) (S : List Value) (σ : QHeap) : Option QSt :=
 match S with
 | .ref a :: S' => (match hget σ a with
  | some (.inr (.inl x)) => some (pc, L, .int x.2.length.toInt32 :: S', σ)
  | some (.inr (.inr x)) => some (pc, L, .int x.length.toInt32 :: S', σ)
  | _ => none)
 | _ => none
def qdup (pc : Nat) (L : QLoc) (S : List Value) (σ : QHeap) : Option QSt :=
 match S with
 | .int x :: S' => some (pc, L, .int x :: .int x :: S', σ)
 | .ref x :: S' => some (pc, L, .ref x :: .ref x :: S', σ)
 | _ => none
def qdup2 (pc : Nat) (L : QLoc) (S : List Value) (σ : QHeap) : Option QSt :=
 match S with
 | .int x :: .ref y :: S' => some (pc, L, .int x :: .ref y :: .int x :: .ref y :: S', σ)
 | .int x :: .int y :: S' => some (pc, L, .int x :: .int y :: .int x :: .int y :: S', σ)
 | .long x :: S' => some (pc, L, .long x :: .long x :: S', σ)
 | _ => none
def qpop (pc : Nat) (L : QLoc) (S : List Value) (σ : QHeap) : Option QSt :=
 match S with
 | .int _ :: S' => some (pc, L, S', σ)
 | .ref _ :: S' => some (pc, L, S', σ)
 | _ => none
def qif (pc : Nat) (L : QLoc) (S : List Value) (σ : QHeap) (cd : ClassFile.Cond) (tgt : Nat) : Option QSt :=
 match S with
 | .int x :: S' => some (bif ifCond.holds cd x then tgt else pc, L, S', σ)
 | _ => none
def qicmp (pc : Nat) (L : QLoc) (S : List Value) (σ : QHeap) (cd : ClassFile.Cond) (tgt : Nat) : Option QSt :=
 match S with
 | .int y :: .int x :: S' => some (bif if_icmp.holds cd x y then tgt else pc, L, S', σ)
 | _ => none
def qinc (pc : Nat) (L : QLoc) (S : List Value) (σ : QHeap) (k : Nat) (i : Int) : Option QSt :=
 match lget L k with
 | some (.int x) => (match lput L k (.int (x + Int32.ofInt i)) with | some L' => some (pc, L', S, σ) | none => none)
 | _ => none
def qldc (pc : Nat) (L : QLoc) (S : List Value) (σ : QHeap) (k : Nat) : Option QSt :=
 match vget cK k with
 | some v => some (pc, L, v :: S, σ)
 | none => none
def qexec (pc : Nat) (L : QLoc) (S : List Value) (σ : QHeap) (aux : Nat) : Instr → Option QSt
 | .aload_n k => qload (pc + 1) L S σ k.val isR
 | .aload k => qload (pc + 2) L S σ k isR
 | .iload_n k => qload (pc + 1) L S σ k.val isI
 | .iload k => qload (pc + 2) L S σ k isI
 | .lload_n k => qload (pc + 1) L S σ k.val isJ
 | .lload k => qload (pc + 2) L S σ k isJ
 | .iconst i => some (pc + 1, L, .int (Int32.ofInt i) :: S, σ)
 | .bipush i => some (pc + 2, L, .int (Int8.ofInt i).toInt32 :: S, σ)
 | .sipush i => some (pc + 3, L, .int (Int16.ofInt i).toInt32 :: S, σ)
 | .lconst k => some (pc + 1, L, .long (Int64.ofNat k.val) :: S, σ)
 | .ldc _ => qldc (pc + 2) L S σ aux
 | .ldc2_w _ => qldc (pc + 3) L S σ aux
 | .istore_n k => qstore (pc + 1) L S σ k.val isI
 | .istore k => qstore (pc + 2) L S σ k isI
 | .lstore_n k => qstore (pc + 1) L S σ k.val isJ
 | .lstore k => qstore (pc + 2) L S σ k isJ
 | .astore_n k => qstore (pc + 1) L S σ k.val isR
 | .astore k => qstore (pc + 2) L S σ k isR
 | .iinc k i => qinc (pc + 3) L S σ k i
 | .iadd => qbin (pc + 1) L S σ fun x y => x + y
 | .isub => qbin (pc + 1) L S σ fun x y => x - y
 | .imul => qbin (pc + 1) L S σ fun x y => x * y
 | .iand => qbin (pc + 1) L S σ fun x y => x &&& y
 | .ior => qbin (pc + 1) L S σ fun x y => x ||| y
 | .ixor => qbin (pc + 1) L S σ fun x y => x ^^^ y
 | .ishl => qbin (pc + 1) L S σ fun x y => x <<< (y &&& 31)
 | .ishr => qbin (pc + 1) L S σ fun x y => x >>> (y &&& 31)
 | .iushr => qbin (pc + 1) L S σ fun x y => XT.ushr x y
 | .idiv => qbino (pc + 1) L S σ qdiv
 | .irem => qbino (pc + 1) L S σ qrem
 | .ineg => quni (pc + 1) L S σ fun x => .int (-x)
 | .i2l => quni (pc + 1) L S σ fun x => .long x.toInt64
 | .i2b => quni (pc + 1) L S σ fun x => .int x.toInt8.toInt32
 | .l2i => quniJ (pc + 1) L S σ fun x => .int x.toInt32
 | .lneg => quniJ (pc + 1) L S σ fun x => .long (-x)
 | .ladd => qbinJ (pc + 1) L S σ fun x y => x + y
 | .lsub => qbinJ (pc + 1) L S σ fun x y => x - y
 | .lmul => qbinJ (pc + 1) L S σ fun x y => x * y
 | .land => qbinJ (pc + 1) L S σ fun x y => x &&& y
 | .lor => qbinJ (pc + 1) L S σ fun x y => x ||| y
 | .lxor => qbinJ (pc + 1) L S σ fun x y => x ^^^ y
 | .lshl => qshJ (pc + 1) L S σ fun x y => x <<< (y.toInt64 &&& 63)
 | .lshr => qshJ (pc + 1) L S σ fun x y => x >>> (y.toInt64 &&& 63)
 | .lushr => qshJ (pc + 1) L S σ fun x y => XT.ushrL x y
 | .lcmp => (match S with
  | .long y :: .long x :: S' => some (pc + 1, L, .int (XT.cmpL x y) :: S', σ)
  | _ => none)
 | .goto _ => some (aux, L, S, σ)
 | .ifCond cd _ => qif (pc + 3) L S σ cd aux
 | .if_icmp cd _ => qicmp (pc + 3) L S σ cd aux
 | .dup => qdup (pc + 1) L S σ
 | .dup2 => qdup2 (pc + 1) L S σ
 | .pop => qpop (pc + 1) L S σ
 | .getfield _ => qget (pc + 3) L S σ aux
 | .putfield _ => qput (pc + 3) L S σ aux
 | .iaload => qald (pc + 1) L S σ tyI
 | .baload => qald (pc + 1) L S σ tyB
 | .laload => qaldJ (pc + 1) L S σ
 | .iastore => qast (pc + 1) L S σ tyI
 | .bastore => qast (pc + 1) L S σ tyB
 | .lastore => qastJ (pc + 1) L S σ
 | .arraylength => qlen (pc + 1) L S σ
 | .newarray t => qnewA (pc + 2) L S σ t
 | .new _ => some (pc + 3, L, .ref σ.length :: S, σ ++ [.inl cDef])
 | _ => none
def qstep (m : Nat) (st : QSt) : Option QSt :=
 match pCode m st.1 with
 | some (i, aux) => qexec st.1 st.2.1 st.2.2.1 st.2.2.2 aux i
 | none => none
def qsteps (m : Nat) : Nat → QSt → Option QSt
 | 0, st => some st
 | n + 1, st => match qstep m st with | some st' => qsteps m n st' | none => none
def qentry (args : List Value) (mx : Nat) : QLoc := (args.flatMap fun v => match v with | .long x => [some (.long x), none] | .double x => [some (.double x), none] | v => [some v]) ++ List.replicate (mx - (args.map fun v => v.category).sum) none
def ilen : Instr → Nat
 | .aload _ | .iload _ | .lload _ | .istore _ | .lstore _ | .astore _ | .bipush _ | .ldc _ | .newarray _ => 2
 | .sipush _ | .ldc2_w _ | .iinc _ _ | .goto _ | .ifCond _ _ | .if_icmp _ _ | .getfield _ | .putfield _ | .new _ | .invokevirtual _ | .invokespecial _ | .invokestatic _ => 3
 | _ => 1
def qtgt (pc : Nat) (o : Int) (aux : Nat) : Bool := decide (0 ≤ (pc : Int) + o) && decide (((pc : Int) + o).toNat = aux)
def qlk (m pc : Nat) (i : Instr) (aux : Nat) : Bool :=
 match i with
 | .goto o => qtgt pc o aux
 | .ifCond _ o => qtgt pc o aux
 | .if_icmp _ o => qtgt pc o aux
 | .getfield idx => lkF.contains (pK m, idx, aux)
 | .putfield idx => lkF.contains (pK m, idx, aux) && (!fFin aux || (pK m == 1 && pNm m == "<init>"))
 | .new idx => lkN.contains (pK m, idx)
 | .newarray t => aTys.contains (newarray.typeOf t)
 | .ldc idx => lkC.contains (pK m, idx, aux)
 | .ldc2_w idx => lkD.contains (pK m, idx, aux)
 | _ => true
def qchk (m pc : Nat) (i : Instr) (aux : Nat) : Bool := decide (decode (pBytes m) pc = .ok (i, ilen i)) && qlk m pc i aux
def QCellOk (Z : State) (ad : Nat → Addr) (h : Heap) (a : Addr) : QCell → Prop
 | .inl vs => Exa Z h a cName ∧ vs.length = nF ∧ ∀ (k : Nat) (v : Value), k < nF → vget vs k = some v → Fld Z h a cName (fNm k) (fDs k) (qv ad v)
 | .inr (.inl x) => ∃ c : Cell, Arr Z h a c x.1 ∧ c.slots = (x.2.map Value.int).toArray
 | .inr (.inr x) => ∃ c : Cell, Arr Z h a c .long ∧ c.slots = (x.map Value.long).toArray
def QAd (n0 : Nat) (ad : Nat → Addr) : Prop := (∀ k, k0 ≤ k → ad k = n0 + (k - k0)) ∧ ∀ i j, ad i = ad j → i = j
def QRep (Z : State) (n0 : Nat) (ad : Nat → Addr) (h : Heap) (σ : QHeap) : Prop := k0 ≤ σ.length ∧ h.size = n0 + (σ.length - k0) ∧ ∀ k c, hget σ k = some c → QCellOk Z ad h (ad k) c
def QLocOk (ad : Nat → Addr) (L : QLoc) (C : Array Slot) : Prop :=
 L.length = C.size ∧ (∀ k v, lget L k = some v → C[k]? = some (.val (qv ad v))) ∧ (∀ k w, C[k]? = some (.val w) → w.category = 2 → C[k + 1]? = some .second) ∧ ∀ k, C[k]? = some .second → ∃ j w, k = j + 1 ∧ C[j]? = some (.val w) ∧ w.category = 2
def QW (Z : State) (a0 : Array Value) : Prop :=
 (∀ t ∈ lkF, (Cond.fieldLink (kName t.1) t.2.1 cName (fNm t.2.2) (fDs t.2.2)).before a0 Z = true) ∧
 (∀ t ∈ lkN, (Cond.classLink (kName t.1) t.2 cName).before a0 Z = true) ∧
 (∀ t ∈ lkC, ∃ v, vget cK t.2.2 = some (.int v) ∧ (Cond.constant (kName t.1) t.2.1 v).before a0 Z = true) ∧
 (∀ t ∈ lkD, ∃ v, vget cK t.2.2 = some (.long v) ∧ (Cond.constantLong (kName t.1) t.2.1 v).before a0 Z = true) ∧
 (∀ t ∈ lkV, (Cond.methodLink (kName t.1) t.2.1 (pName t.2.2)).before a0 Z = true) ∧
 (∀ t ∈ lkO, (Cond.methodLink (kName t.1) t.2 Lib.objectInit).before a0 Z = true) ∧
 (∀ m ∈ mV, (Cond.declares (pName m)).before a0 Z = true ∧ (Cond.selects cName (pName m) (pName m)).before a0 Z = true ∧ (Cond.instanceMethod (pName m)).before a0 Z = true) ∧
 (∀ m ∈ mP, (Cond.instanceMethod (pName m)).before a0 Z = true ∧ (Cond.privateMethod (pName m)).before a0 Z = true) ∧
 (∀ m ∈ mS, (Cond.static (pName m)).before a0 Z = true) ∧
 (∀ m ∈ mI, (Cond.instanceMethod (pName m)).before a0 Z = true) ∧
 (∀ m ∈ mA, (Cond.code (pName m) (pBytes m) (pMaxL m) (pRet m)).before a0 Z = true ∧ (Cond.initialized (kName (pK m))).before a0 Z = true) ∧
 (Cond.instanceMethod Lib.objectInit).before a0 Z = true ∧ (Cond.code Lib.objectInit ⟨#[0xb1]⟩ 1 none).before a0 Z = true ∧
 (∀ k, k < nF → bif fFin k then (Cond.laysFinal cName cName (fNm k) (fDs k)).before a0 Z = true else (Cond.lays cName cName (fNm k) (fDs k)).before a0 Z = true) ∧
 (Cond.instantiable cName cN).before a0 Z = true ∧ (Cond.initialized cName).before a0 Z = true ∧
 ∀ ty ∈ aTys, (Cond.arrayClass ty).before a0 Z = true
section Words
variable {Z : State} {a0 : Array Value}
theorem qw_fl (W : QW Z a0) : ∀ t ∈ lkF, (Cond.fieldLink (kName t.1) t.2.1 cName (fNm t.2.2) (fDs t.2.2)).before a0 Z = true := W.1
theorem qw_nw (W : QW Z a0) : ∀ t ∈ lkN, (Cond.classLink (kName t.1) t.2 cName).before a0 Z = true := W.2.1
theorem qw_cI (W : QW Z a0) : ∀ t ∈ lkC, ∃ v, vget cK t.2.2 = some (.int v) ∧ (Cond.constant (kName t.1) t.2.1 v).before a0 Z = true := W.2.2.1
theorem qw_cJ (W : QW Z a0) : ∀ t ∈ lkD, ∃ v, vget cK t.2.2 = some (.long v) ∧ (Cond.constantLong (kName t.1) t.2.1 v).before a0 Z = true := W.2.2.2.1
theorem qw_ml (W : QW Z a0) : ∀ t ∈ lkV, (Cond.methodLink (kName t.1) t.2.1 (pName t.2.2)).before a0 Z = true := W.2.2.2.2.1
theorem qw_mo (W : QW Z a0) : ∀ t ∈ lkO, (Cond.methodLink (kName t.1) t.2 Lib.objectInit).before a0 Z = true := W.2.2.2.2.2.1
theorem qw_vi (W : QW Z a0) : ∀ m ∈ mV, (Cond.declares (pName m)).before a0 Z = true ∧ (Cond.selects cName (pName m) (pName m)).before a0 Z = true ∧ (Cond.instanceMethod (pName m)).before a0 Z = true := W.2.2.2.2.2.2.1
theorem qw_pr (W : QW Z a0) : ∀ m ∈ mP, (Cond.instanceMethod (pName m)).before a0 Z = true ∧ (Cond.privateMethod (pName m)).before a0 Z = true := W.2.2.2.2.2.2.2.1
theorem qw_st (W : QW Z a0) : ∀ m ∈ mS, (Cond.static (pName m)).before a0 Z = true := W.2.2.2.2.2.2.2.2.1
theorem qw_ini (W : QW Z a0) : ∀ m ∈ mI, (Cond.instanceMethod (pName m)).before a0 Z = true := W.2.2.2.2.2.2.2.2.2.1
theorem qw_cod (W : QW Z a0) : ∀ m ∈ mA, (Cond.code (pName m) (pBytes m) (pMaxL m) (pRet m)).before a0 Z = true ∧ (Cond.initialized (kName (pK m))).before a0 Z = true := W.2.2.2.2.2.2.2.2.2.2.1
theorem qw_oi (W : QW Z a0) : (Cond.instanceMethod Lib.objectInit).before a0 Z = true := W.2.2.2.2.2.2.2.2.2.2.2.1
theorem qw_oc (W : QW Z a0) : (Cond.code Lib.objectInit ⟨#[0xb1]⟩ 1 none).before a0 Z = true := W.2.2.2.2.2.2.2.2.2.2.2.2.1
theorem qw_lay (W : QW Z a0) : ∀ k, k < nF → bif fFin k then (Cond.laysFinal cName cName (fNm k) (fDs k)).before a0 Z = true else (Cond.lays cName cName (fNm k) (fDs k)).before a0 Z = true := W.2.2.2.2.2.2.2.2.2.2.2.2.2.1
theorem qw_inst (W : QW Z a0) : (Cond.instantiable cName cN).before a0 Z = true := W.2.2.2.2.2.2.2.2.2.2.2.2.2.2.1
theorem qw_init (W : QW Z a0) : (Cond.initialized cName).before a0 Z = true := W.2.2.2.2.2.2.2.2.2.2.2.2.2.2.2.1
theorem qw_arr (W : QW Z a0) : ∀ ty ∈ aTys, (Cond.arrayClass ty).before a0 Z = true := W.2.2.2.2.2.2.2.2.2.2.2.2.2.2.2.2
end Words
theorem hget_eq : ∀ (σ : QHeap) k, hget σ k = σ[k]?
 | [], _ => by simp [hget]
 | _ :: _, 0 => by simp [hget]
 | _ :: t, k + 1 => by simp [hget, hget_eq t k]
theorem vget_eq : ∀ (σ : List Value) k, vget σ k = σ[k]?
 | [], _ => by simp [vget]
 | _ :: _, 0 => by simp [vget]
 | _ :: t, k + 1 => by simp [vget, vget_eq t k]
theorem lget_eq : ∀ (L : QLoc) k, lget L k = (L[k]?).getD none
 | [], _ => by simp [lget]
 | _ :: _, 0 => by simp [lget]
 | _ :: t, k + 1 => by simp [lget, lget_eq t k]
theorem lget_lt {L : QLoc} {k : Nat} {v : Value} (h : lget L k = some v) : k < L.length := by
 rw [lget_eq] at h
 rcases Nat.lt_or_ge k L.length with q | q
 ·exact q
 ·simp [List.getElem?_eq_none q] at h
theorem lget_set {L : QLoc} {k j : Nat} {o : Option Value} (hk : k < L.length) : lget (L.set k o) j = if j = k then o else lget L j := by
 simp only [lget_eq, List.getElem?_set]
 by_cases e : k = j
 ·subst e; simp [hk]
 ·simp [e, Ne.symm e]
theorem qhs_app (σ τ : QHeap) : qhs (σ ++ τ) = qhs σ + qhs τ := by
 induction σ with
 | nil => simp [qhs]
 | cons c t ih => simp [qhs, ih, Nat.add_assoc]
theorem qhs_set {σ : QHeap} {k : Nat} {c d : QCell} (h : hget σ k = some c) (hs : qsz d = qsz c) : qhs (σ.set k d) = qhs σ := by
 induction σ generalizing k with
 | nil => simp [hget] at h
 | cons x t ih =>
  cases k with
  | zero => simp only [hget, Option.some.injEq] at h; subst h; simp [qhs, hs]
  | succ k => simp only [hget] at h; simp [qhs, ih h]
theorem hget_set {σ : QHeap} {k j : Nat} {c d : QCell} (h : hget σ k = some c) : hget (σ.set k d) j = if j = k then some d else hget σ j := by
 rw [hget_eq] at h
 have hk := (List.getElem?_eq_some_iff.mp h).1
 simp only [hget_eq, List.getElem?_set]
 by_cases e : k = j
 ·subst e; simp [hk]
 ·simp [e, Ne.symm e]
theorem lkill_len (L : QLoc) (k : Nat) : (lkill L k).length = L.length := by
 cases k with
 | zero => rfl
 | succ k => simp only [lkill]; split <;> simp
theorem lget_kill {L : QLoc} {k j : Nat} {v : Value} (h : lget (lkill L k) j = some v) : lget L j = some v ∧ (k = j + 1 → v.category ≠ 2) := by
 cases k with
 | zero => exact ⟨h, fun e => by omega⟩
 | succ k =>
  simp only [lkill] at h
  split at h
  ·rename_i x q
   rw [lget_set (lget_lt q)] at h
   split at h
   ·cases h
   ·rename_i ne; exact ⟨h, fun e => absurd (by omega) ne⟩
  ·rename_i x q
   rw [lget_set (lget_lt q)] at h
   split at h
   ·cases h
   ·rename_i ne; exact ⟨h, fun e => absurd (by omega) ne⟩
  ·rename_i q1 q2
   refine ⟨h, fun e hc => ?_⟩
   obtain rfl : j = k := by omega
   cases v with
   | long x => exact q1 _ h
   | double x => exact q2 _ h
   | _ => simp [Value.category] at hc
theorem qv_cat (ad : Nat → Addr) (v : Value) : (qv ad v).category = v.category := by cases v <;> rfl
def kA (C : Array Slot) (k j : Nat) : Prop := k = j + 1 ∧ C[k]? = some .second
def kB (C : Array Slot) (k j : Nat) : Prop := j = k + 1 ∧ ∃ u, C[k]? = some (.val u) ∧ u.category = 2
def kD (C : Array Slot) (k j : Nat) : Prop := j = k + 2 ∧ ∃ u, C[k + 1]? = some (.val u) ∧ u.category = 2
theorem set1_at {C D : Array Slot} {k : Nat} {w : Value} (hk : k < C.size) (hw : w.category = 1) (h : storeLocals C k w = some D) :
  D.size = C.size ∧ D[k]? = some (.val w) ∧ ∀ j, j ≠ k → (D[j]? = C[j]? ∧ ¬ kA C k j ∧ ¬ kB C k j) ∨ D[j]? = some .unset ∧ (kA C k j ∨ kB C k j) := by
 have hck : C[k]? = some C[k] := Array.getElem?_eq_getElem hk
 unfold storeLocals at h
 simp only [hck, Option.bind_eq_bind, Option.bind_some] at h
 have self : ∀ {E : Array Slot}, k < E.size → storeSelf E k w = some D → D = E.setIfInBounds k (.val w) := by
  intro E hE q
  simp only [storeSelf, setAt, hE, if_true, Option.bind_eq_bind, Option.bind_some, hw] at q
  simpa using q.symm
 split at h
 ·rename_i q
  have hk1 : k - 1 < C.size := by omega
  simp only [setAt, hk1, if_true, Option.bind_some] at h
  have e := self (by simpa using hk) h
  subst e
  refine ⟨by simp, by simp [hk], fun j hj => ?_⟩
  by_cases ej : k = j + 1
  ·refine Or.inr ⟨?_, Or.inl ⟨ej, by rw [hck, q]⟩⟩
   rw [Array.getElem?_setIfInBounds_ne (Ne.symm hj), show j = k - 1 by omega]
   simp [hk1]
  ·refine Or.inl ⟨?_, fun x => ej x.1, fun x => ?_⟩
   ·rw [Array.getElem?_setIfInBounds_ne (Ne.symm hj), Array.getElem?_setIfInBounds_ne (by omega)]
   ·obtain ⟨-, u, x1, -⟩ := x
    rw [hck, q] at x1; cases x1
 ·rename_i u q
  split at h
  ·rename_i hu
   by_cases hk1 : k + 1 < C.size
   ·simp only [setAt, hk1, if_true, Option.bind_some] at h
    have e := self (by simpa using hk) h
    subst e
    refine ⟨by simp, by simp [hk], fun j hj => ?_⟩
    by_cases ej : j = k + 1
    ·refine Or.inr ⟨?_, Or.inr ⟨ej, u, by rw [hck, q], hu⟩⟩
     rw [Array.getElem?_setIfInBounds_ne (Ne.symm hj), ej]
     simp [hk1]
    ·refine Or.inl ⟨?_, fun x => ?_, fun x => ej x.1⟩
     ·rw [Array.getElem?_setIfInBounds_ne (Ne.symm hj), Array.getElem?_setIfInBounds_ne (by omega)]
     ·obtain ⟨-, x1⟩ := x
      rw [hck, q] at x1; cases x1
   ·simp [setAt, hk1] at h
  ·rename_i hu
   have e := self hk h
   subst e
   refine ⟨by simp, by simp [hk], fun j hj => Or.inl ⟨Array.getElem?_setIfInBounds_ne (Ne.symm hj), fun x => ?_, fun x => ?_⟩⟩
   ·obtain ⟨-, x1⟩ := x
    rw [hck, q] at x1; cases x1
   ·obtain ⟨-, u', x1, x2⟩ := x
    rw [hck, q] at x1; cases x1; exact hu x2
 ·rename_i q
  have e := self hk h
  subst e
  refine ⟨by simp, by simp [hk], fun j hj => Or.inl ⟨Array.getElem?_setIfInBounds_ne (Ne.symm hj), fun x => ?_, fun x => ?_⟩⟩
  ·obtain ⟨-, x1⟩ := x
   rw [hck, q] at x1; cases x1
  ·obtain ⟨-, u', x1, x2⟩ := x
   rw [hck, q] at x1; cases x1
theorem set2_at {C D : Array Slot} {k : Nat} {w : Value} (hk : k + 1 < C.size) (hw : w.category = 2) (wf : ∀ k w, C[k]? = some (.val w) → w.category = 2 → C[k + 1]? = some .second) (h : storeLocals C k w = some D) :
  D.size = C.size ∧ D[k]? = some (.val w) ∧ D[k + 1]? = some .second ∧ ∀ j, j ≠ k → j ≠ k + 1 → (D[j]? = C[j]? ∧ ¬ kA C k j ∧ ¬ kD C k j) ∨ D[j]? = some .unset ∧ (kA C k j ∨ kD C k j) := by
 have hk0 : k < C.size := by omega
 have hck : C[k]? = some C[k] := Array.getElem?_eq_getElem hk0
 unfold storeLocals at h
 simp only [hck, Option.bind_eq_bind, Option.bind_some] at h
 have self : ∀ {E : Array Slot}, E.size = C.size → storeSelf E k w = some D → D.size = C.size ∧ D[k]? = some (.val w) ∧ D[k + 1]? = some .second ∧ ∀ j, j ≠ k → j ≠ k + 1 → (D[j]? = E[j]? ∧ ¬ kD E k j) ∨ D[j]? = some .unset ∧ kD E k j := by
  intro E hs q
  have h1 : k < E.size := by omega
  have h2 : k + 1 < E.size := by omega
  have h3 : (E.setIfInBounds k (.val w))[k + 1]? = some E[k + 1] := by rw [Array.getElem?_setIfInBounds_ne (by omega)]; exact Array.getElem?_eq_getElem h2
  simp only [storeSelf, setAt, h1, if_true, Option.bind_eq_bind, Option.bind_some, hw, h3] at q
  have plain : (¬ ∃ u, E[k + 1]? = some (.val u) ∧ u.category = 2) → some ((E.setIfInBounds k (.val w)).setIfInBounds (k + 1) .second) = some D → D.size = C.size ∧ D[k]? = some (.val w) ∧ D[k + 1]? = some .second ∧ ∀ j, j ≠ k → j ≠ k + 1 → (D[j]? = E[j]? ∧ ¬ kD E k j) ∨ D[j]? = some .unset ∧ kD E k j := by
   intro no q
   cases q
   refine ⟨by simp [hs], ?_, ?_, fun j hj hj1 => Or.inl ⟨?_, fun x => no x.2⟩⟩
   ·rw [Array.getElem?_setIfInBounds_ne (by omega)]; simp [h1]
   ·simp [h2]
   ·rw [Array.getElem?_setIfInBounds_ne (by omega), Array.getElem?_setIfInBounds_ne (by omega)]
  split at q
  ·rename_i u hu
   split at q
   ·rename_i hu2
    by_cases h5 : k + 2 < E.size
    ·simp [h5, h2] at q
     cases q
     refine ⟨by simp [hs], ?_, ?_, fun j hj hj1 => ?_⟩
     ·rw [Array.getElem?_setIfInBounds_ne (by omega), Array.getElem?_setIfInBounds_ne (by omega)]; simp [h1]
     ·simp [h2]
     ·by_cases e : j = k + 2
      ·refine Or.inr ⟨?_, e, u, by rw [Array.getElem?_eq_getElem h2, hu], hu2⟩
       rw [Array.getElem?_setIfInBounds_ne (by omega), e]
       simp [h5]
      ·refine Or.inl ⟨?_, fun x => e x.1⟩
       rw [Array.getElem?_setIfInBounds_ne (by omega), Array.getElem?_setIfInBounds_ne (by omega), Array.getElem?_setIfInBounds_ne (by omega)]
    ·simp [h5] at q
   ·rename_i hu2
    refine plain ?_ (by simpa [h2] using q)
    rintro ⟨u', x1, x2⟩
    rw [Array.getElem?_eq_getElem h2, hu] at x1; cases x1; exact hu2 x2
  ·rename_i hu
   refine plain ?_ (by simpa [h2] using q)
   rintro ⟨u', x1, x2⟩
   rw [Array.getElem?_eq_getElem h2] at x1; exact hu _ (Option.some.inj x1)
 split at h
 ·rename_i q
  have hk1 : k - 1 < C.size := by omega
  simp only [setAt, hk1, if_true, Option.bind_some] at h
  obtain ⟨e1, e2, e3, e4⟩ := self (by simp) h
  refine ⟨e1, e2, e3, fun j hj hj1 => ?_⟩
  have h6 : ∀ i, i + 1 ≠ k ∨ k = 0 → i ≠ k ∨ k ≠ 0 → (C.setIfInBounds (k - 1) Slot.unset)[i]? = C[i]? := fun i hi hi2 => Array.getElem?_setIfInBounds_ne (by omega)
  have h7 : (C.setIfInBounds (k - 1) Slot.unset)[k + 1]? = C[k + 1]? := Array.getElem?_setIfInBounds_ne (by omega)
  rcases e4 j hj hj1 with ⟨r, r'⟩ | ⟨r, r1, u, r2, r3⟩
  ·by_cases ej : k = j + 1
   ·refine Or.inr ⟨?_, Or.inl ⟨ej, by rw [hck, q]⟩⟩
    rw [r, show j = k - 1 by omega]; simp [hk1]
   ·refine Or.inl ⟨by rw [r]; exact h6 _ (by omega) (by omega), fun x => ej x.1, fun x => r' ⟨x.1, ?_⟩⟩
    rw [h7]; exact x.2
  ·exact Or.inr ⟨r, Or.inr ⟨r1, u, by rw [← h7]; exact r2, r3⟩⟩
 ·rename_i u q
  split at h
  ·rename_i hu
   simp only [setAt, hk, if_true, Option.bind_some] at h
   obtain ⟨e1, e2, e3, e4⟩ := self (by simp) h
   have hsec := wf k u (by rw [hck, q]) hu
   refine ⟨e1, e2, e3, fun j hj hj1 => ?_⟩
   rcases e4 j hj hj1 with ⟨r, r'⟩ | ⟨r, r1, u', r2, r3⟩
   ·refine Or.inl ⟨by rw [r]; exact Array.getElem?_setIfInBounds_ne (by omega), fun x => ?_, fun x => ?_⟩
    ·obtain ⟨-, x1⟩ := x
     rw [hck, q] at x1; cases x1
    ·obtain ⟨-, u', x1, x2⟩ := x
     rw [hsec] at x1; cases x1
   ·simp [hk] at r2
  ·rename_i hu
   obtain ⟨e1, e2, e3, e4⟩ := self rfl h
   refine ⟨e1, e2, e3, fun j hj hj1 => ?_⟩
   rcases e4 j hj hj1 with ⟨r, r'⟩ | ⟨r, r'⟩
   ·refine Or.inl ⟨r, fun x => ?_, r'⟩
    obtain ⟨-, x1⟩ := x
    rw [hck, q] at x1; cases x1
   ·exact Or.inr ⟨r, Or.inr r'⟩
 ·rename_i q
  obtain ⟨e1, e2, e3, e4⟩ := self rfl h
  refine ⟨e1, e2, e3, fun j hj hj1 => ?_⟩
  rcases e4 j hj hj1 with ⟨r, r'⟩ | ⟨r, r'⟩
  ·refine Or.inl ⟨r, fun x => ?_, r'⟩
   obtain ⟨-, x1⟩ := x
   rw [hck, q] at x1; cases x1
  ·exact Or.inr ⟨r, Or.inr r'⟩
theorem store_some {C : Array Slot} {k : Nat} {w : Value} (hk : k + (w.category - 1) < C.size) (hc : w.category = 1 ∨ w.category = 2) (wf : ∀ k w, C[k]? = some (.val w) → w.category = 2 → C[k + 1]? = some .second) :
  ∃ D, storeLocals C k w = some D := by
 have hk0 : k < C.size := by omega
 have hck : C[k]? = some C[k] := Array.getElem?_eq_getElem hk0
 have self : ∀ {E : Array Slot}, E.size = C.size → (∀ u, E[k + 1]? = some (.val u) → u.category = 2 → k + 2 < E.size) → ∃ D, storeSelf E k w = some D := by
  intro E hs hn
  have h1 : k < E.size := by omega
  simp only [storeSelf, setAt, h1, if_true, Option.bind_eq_bind, Option.bind_some]
  rcases hc with hc | hc
  ·exact ⟨E.setIfInBounds k (.val w), by simp [hc]⟩
  ·have h2 : k + 1 < E.size := by omega
   have h3 : (E.setIfInBounds k (.val w))[k + 1]? = some E[k + 1] := by rw [Array.getElem?_setIfInBounds_ne (by omega)]; exact Array.getElem?_eq_getElem h2
   simp only [hc, if_true, h3, Option.bind_some]
   split
   ·rename_i u hu
    split
    ·rename_i hu2
     have h5 := hn u (by rw [Array.getElem?_eq_getElem h2, hu]) hu2
     exact ⟨_, by simp [h5, h2]; rfl⟩
    ·exact ⟨_, by simp [h2]; rfl⟩
   ·exact ⟨_, by simp [h2]; rfl⟩
 have next : ∀ u, C[k + 1]? = some (.val u) → u.category = 2 → k + 2 < C.size := fun u h1 h2 => (Array.getElem?_eq_some_iff.mp (wf _ _ h1 h2)).1
 unfold storeLocals
 simp only [hck, Option.bind_eq_bind, Option.bind_some]
 split
 ·have hk1 : k - 1 < C.size := by omega
  simp only [setAt, hk1, if_true, Option.bind_some]
  refine self (by simp) fun u h1 h2 => ?_
  rw [Array.getElem?_setIfInBounds_ne (by omega)] at h1
  simpa using next u h1 h2
 ·rename_i u q
  split
  ·rename_i hu
   have h5 := (Array.getElem?_eq_some_iff.mp (wf k u (by rw [hck, q]) hu)).1
   simp only [setAt, h5, if_true, Option.bind_some]
   refine self (by simp) fun u h1 h2 => ?_
   simp [h5] at h1
  ·exact self rfl next
 ·exact self rfl next
theorem store_ok1 {ad : Nat → Addr} {L : QLoc} {C : Array Slot} {k : Nat} {v : Value} (H : QLocOk ad L C) (hv : v.category = 1) (hk : k < L.length) :
  ∃ D, storeLocals C k (qv ad v) = some D ∧ QLocOk ad ((lkill L k).set k (some v)) D ∧ D.size = C.size := by
 obtain ⟨H1, H2, H3, H4⟩ := H
 have hc : (qv ad v).category = 1 := by rw [qv_cat, hv]
 obtain ⟨D, hD⟩ := store_some (C := C) (k := k) (w := qv ad v) (by rw [hc]; omega) (Or.inl hc) H3
 obtain ⟨d1, d2, d3⟩ := set1_at (by omega) hc hD
 refine ⟨D, hD, ⟨by simp [lkill_len, H1, d1], fun j u hj => ?_, fun j w hj hw => ?_, fun j hj => ?_⟩, d1⟩
 ·rw [lget_set (by rw [lkill_len]; exact hk)] at hj
  split at hj
  ·rename_i e; cases hj; rw [e]; exact d2
  ·rename_i ne
   obtain ⟨g1, g2⟩ := lget_kill hj
   have g3 := H2 j u g1
   rcases d3 j ne with ⟨r, -, -⟩ | ⟨-, ⟨r1, r2⟩ | ⟨r1, w, r2, r3⟩⟩
   ·rw [r]; exact g3
   ·obtain ⟨i, w, z1, z2, z3⟩ := H4 k r2
    obtain rfl : i = j := by omega
    rw [g3] at z2
    cases z2
    rw [qv_cat] at z3
    exact absurd z3 (g2 r1)
   ·have := H3 k w r2 r3
    rw [← r1, g3] at this
    cases this
 ·by_cases e : j = k
  ·subst e; rw [d2] at hj; cases hj; rw [hc] at hw; cases hw
  ·rcases d3 j e with ⟨r, nA, nB⟩ | ⟨r, -⟩
   ·rw [r] at hj
    have g := H3 j w hj hw
    have e2 : j + 1 ≠ k := fun q => nA ⟨q.symm, by rw [← q]; exact g⟩
    rcases d3 (j + 1) e2 with ⟨z, -, -⟩ | ⟨-, ⟨z1, z2⟩ | ⟨z1, -⟩⟩
    ·rw [z]; exact g
    ·obtain ⟨i, u, y1, y2, y3⟩ := H4 k z2
     obtain rfl : i = j + 1 := by omega
     rw [g] at y2; cases y2
    ·omega
   ·rw [r] at hj; cases hj
 ·by_cases e : j = k
  ·subst e; rw [d2] at hj; cases hj
  ·rcases d3 j e with ⟨r, nA, nB⟩ | ⟨r, -⟩
   ·rw [r] at hj
    obtain ⟨i, w, y1, y2, y3⟩ := H4 j hj
    refine ⟨i, w, y1, ?_, y3⟩
    have ei : i ≠ k := fun q => nB ⟨by omega, w, by rw [← q]; exact y2, y3⟩
    rcases d3 i ei with ⟨z, -, -⟩ | ⟨-, ⟨z1, z2⟩ | ⟨z1, u, z2, z3⟩⟩
    ·rw [z]; exact y2
    ·omega
    ·have := H3 k u z2 z3
     rw [← z1, y2] at this; cases this
   ·rw [r] at hj; cases hj
theorem store_ok2 {ad : Nat → Addr} {L : QLoc} {C : Array Slot} {k : Nat} {x : Int64} (H : QLocOk ad L C) (hk : k + 1 < L.length) :
  ∃ D, storeLocals C k (.long x) = some D ∧ QLocOk ad (((lkill L k).set k (some (.long x))).set (k + 1) none) D ∧ D.size = C.size := by
 obtain ⟨H1, H2, H3, H4⟩ := H
 have hc : (Value.long x).category = 2 := rfl
 obtain ⟨D, hD⟩ := store_some (C := C) (k := k) (w := .long x) (by rw [hc]; omega) (Or.inr hc) H3
 obtain ⟨d1, d2, d2', d3⟩ := set2_at (by omega) hc H3 hD
 refine ⟨D, hD, ⟨by simp [lkill_len, H1, d1], fun j u hj => ?_, fun j w hj hw => ?_, fun j hj => ?_⟩, d1⟩
 ·rw [lget_set (by simp [lkill_len]; exact hk)] at hj
  split at hj
  ·cases hj
  ·rename_i ne1
   rw [lget_set (by rw [lkill_len]; omega)] at hj
   split at hj
   ·rename_i e; cases hj; rw [e]; exact d2
   ·rename_i ne
    obtain ⟨g1, g2⟩ := lget_kill hj
    have g3 := H2 j u g1
    rcases d3 j ne ne1 with ⟨r, -, -⟩ | ⟨-, ⟨r1, r2⟩ | ⟨r1, w, r2, r3⟩⟩
    ·rw [r]; exact g3
    ·obtain ⟨i, w, z1, z2, z3⟩ := H4 k r2
     obtain rfl : i = j := by omega
     rw [g3] at z2
     cases z2
     rw [qv_cat] at z3
     exact absurd z3 (g2 r1)
    ·have := H3 (k + 1) w r2 r3
     rw [show k + 1 + 1 = j by omega, g3] at this
     cases this
 ·by_cases e : j = k
  ·rw [e]; exact d2'
  ·by_cases e1 : j = k + 1
   ·rw [e1, d2'] at hj; cases hj
   ·rcases d3 j e e1 with ⟨r, nA, nB⟩ | ⟨r, -⟩
    ·rw [r] at hj
     have g := H3 j w hj hw
     have e2 : j + 1 ≠ k := fun q => nA ⟨q.symm, by rw [← q]; exact g⟩
     rcases d3 (j + 1) e2 (by omega) with ⟨z, -, -⟩ | ⟨-, ⟨z1, z2⟩ | ⟨z1, -⟩⟩
     ·rw [z]; exact g
     ·obtain ⟨i, u, y1, y2, y3⟩ := H4 k z2
      obtain rfl : i = j + 1 := by omega
      rw [g] at y2; cases y2
     ·omega
    ·rw [r] at hj; cases hj
 ·by_cases e : j = k
  ·rw [e, d2] at hj; cases hj
  ·by_cases e1 : j = k + 1
   ·exact ⟨k, _, e1, d2, hc⟩
   ·rcases d3 j e e1 with ⟨r, nA, nB⟩ | ⟨r, -⟩
    ·rw [r] at hj
     obtain ⟨i, w, y1, y2, y3⟩ := H4 j hj
     refine ⟨i, w, y1, ?_, y3⟩
     have ei : i ≠ k := fun q => e1 (by omega)
     have ei1 : i ≠ k + 1 := fun q => nB ⟨by omega, w, by rw [← q]; exact y2, y3⟩
     rcases d3 i ei ei1 with ⟨z, -, -⟩ | ⟨-, ⟨z1, z2⟩ | ⟨z1, u, z2, z3⟩⟩
     ·rw [z]; exact y2
     ·omega
     ·have := H3 (k + 1) u z2 z3
      rw [show k + 1 + 1 = i by omega, y2] at this; cases this
    ·rw [r] at hj; cases hj
theorem store_ok {ad : Nat → Addr} {L L' : QLoc} {C : Array Slot} {k : Nat} {v : Value} (H : QLocOk ad L C) (h : lput L k v = some L') :
  ∃ D, storeLocals C k (qv ad v) = some D ∧ QLocOk ad L' D ∧ D.size = C.size := by
 have one : v.category = 1 → (bif Nat.ble (k + 1) L.length then some ((lkill L k).set k (some v)) else none) = some L' → ∃ D, storeLocals C k (qv ad v) = some D ∧ QLocOk ad L' D ∧ D.size = C.size := by
  intro hv h
  cases hb : Nat.ble (k + 1) L.length with
  | false => rw [hb] at h; cases h
  | true => rw [hb] at h; cases h; exact store_ok1 H hv (Nat.le_of_ble_eq_true hb)
 cases v with
 | long x =>
  simp only [lput] at h
  cases hb : Nat.ble (k + 2) L.length with
  | false => rw [hb] at h; cases h
  | true => rw [hb] at h; cases h; exact store_ok2 H (Nat.le_of_ble_eq_true hb)
 | double x => simp [lput] at h
 | int x => exact one rfl h
 | float x => exact one rfl h
 | null => exact one rfl h
 | ref x => exact one rfl h
 | retAddr x => exact one rfl h
theorem fInj : ∀ i, i < nF → ∀ j, j < nF → fNm i = fNm j → i = j := by decide +kernel
theorem fPrs : ∀ i, i < nF → parseFieldDescriptor (fDs i) = some (fTy i) := by decide +kernel
theorem cDefs : ∀ i, i < nF → vget cDef i = some (defaultValue (fTy i)) := by decide +kernel
theorem cDefL : cDef.length = nF := by decide +kernel
theorem fDef : ∀ i, i < nF → ∀ a, defaultValue (fTy i) ≠ .ref a := by
 intro i _ a
 cases fTy i <;> simp [defaultValue]
theorem kPlain : ∀ k, k < 2 → plainName (kName k) = true := by
 intro k hk
 rcases k with _ | _ | k
 ·first | decide +kernel | (simp [kName, plainName, overriddenIn]; done)
 ·first | decide +kernel | (simp [kName, plainName, overriddenIn]; done)
 ·omega
theorem pKlt : ∀ m, m < pN → pK m < 2 := by decide +kernel
theorem pSig : ∀ m, m < pN → (parseMethodDescriptor (pDs m)).map (fun sg => sg.parameters.length) = some (pNA m) := by decide +kernel
theorem pOwn : ∀ k, k < 2 → kName k ≠ "java/lang/invoke/MethodHandle" ∧ kName k ≠ "java/lang/invoke/VarHandle" := by decide +kernel
theorem mAlt : ∀ m ∈ mA, m < pN := by decide +kernel
theorem mVlt : ∀ m ∈ mV, m ∈ mA ∧ pK m = 1 := by decide +kernel
theorem mPlt : ∀ m ∈ mP, m ∈ mA ∧ pK m = 1 := by decide +kernel
theorem mSlt : ∀ m ∈ mS, m ∈ mA := by decide +kernel
theorem mIlt : ∀ m ∈ mI, m ∈ mA ∧ pK m = 1 ∧ pNm m = "<init>" ∧ pRet m = none := by decide +kernel
theorem kOne : kName 1 = cName := rfl
def pX (m pc : Nat) : Bool := match pCode m pc with | some t => qchk m pc t.1 t.2 | none => true
set_option maxRecDepth 100000 in
set_option maxHeartbeats 4000000 in
theorem pC0_0 : ∀ q, q < 128 → pX 0 (0 + q) = true := by decide +kernel
set_option maxRecDepth 100000 in
set_option maxHeartbeats 4000000 in
theorem pC0_128 : ∀ q, q < 128 → pX 0 (128 + q) = true := by decide +kernel
set_option maxRecDepth 100000 in
set_option maxHeartbeats 4000000 in
theorem pC0_256 : ∀ q, q < 128 → pX 0 (256 + q) = true := by decide +kernel
set_option maxRecDepth 100000 in
set_option maxHeartbeats 4000000 in
theorem pC0_384 : ∀ q, q < 128 → pX 0 (384 + q) = true := by decide +kernel
set_option maxRecDepth 100000 in
set_option maxHeartbeats 4000000 in
theorem pC0_512 : ∀ q, q < 128 → pX 0 (512 + q) = true := by decide +kernel
set_option maxRecDepth 100000 in
set_option maxHeartbeats 4000000 in
theorem pC0_640 : ∀ q, q < 13 → pX 0 (640 + q) = true := by decide +kernel
theorem pCm0 (pc : Nat) (h : pc < pTop 0) : pX 0 pc = true := by
 replace h : pc < 653 := h
 by_cases h0 : pc < 128
 ·have q := pC0_0 (pc - 0) (by omega)
  rwa [show 0 + (pc - 0) = pc from by omega] at q
 by_cases h128 : pc < 256
 ·have q := pC0_128 (pc - 128) (by omega)
  rwa [show 128 + (pc - 128) = pc from by omega] at q
 by_cases h256 : pc < 384
 ·have q := pC0_256 (pc - 256) (by omega)
  rwa [show 256 + (pc - 256) = pc from by omega] at q
 by_cases h384 : pc < 512
 ·have q := pC0_384 (pc - 384) (by omega)
  rwa [show 384 + (pc - 384) = pc from by omega] at q
 by_cases h512 : pc < 640
 ·have q := pC0_512 (pc - 512) (by omega)
  rwa [show 512 + (pc - 512) = pc from by omega] at q
 have q := pC0_640 (pc - 640) (by omega)
 rwa [show 640 + (pc - 640) = pc from by omega] at q
set_option maxRecDepth 100000 in
set_option maxHeartbeats 4000000 in
theorem pC1_0 : ∀ q, q < 128 → pX 1 (0 + q) = true := by decide +kernel
set_option maxRecDepth 100000 in
set_option maxHeartbeats 4000000 in
theorem pC1_128 : ∀ q, q < 27 → pX 1 (128 + q) = true := by decide +kernel
theorem pCm1 (pc : Nat) (h : pc < pTop 1) : pX 1 pc = true := by
 replace h : pc < 155 := h
 by_cases h0 : pc < 128
 ·have q := pC1_0 (pc - 0) (by omega)
  rwa [show 0 + (pc - 0) = pc from by omega] at q
 have q := pC1_128 (pc - 128) (by omega)
 rwa [show 128 + (pc - 128) = pc from by omega] at q
set_option maxRecDepth 100000 in
set_option maxHeartbeats 4000000 in
theorem pC2_0 : ∀ q, q < 42 → pX 2 (0 + q) = true := by decide +kernel
theorem pCm2 (pc : Nat) (h : pc < pTop 2) : pX 2 pc = true := by
 replace h : pc < 42 := h
 have q := pC2_0 (pc - 0) (by omega)
 rwa [show 0 + (pc - 0) = pc from by omega] at q
set_option maxRecDepth 100000 in
set_option maxHeartbeats 4000000 in
theorem pC3_0 : ∀ q, q < 10 → pX 3 (0 + q) = true := by decide +kernel
theorem pCm3 (pc : Nat) (h : pc < pTop 3) : pX 3 pc = true := by
 replace h : pc < 10 := h
 have q := pC3_0 (pc - 0) (by omega)
 rwa [show 0 + (pc - 0) = pc from by omega] at q
set_option maxRecDepth 100000 in
set_option maxHeartbeats 4000000 in
theorem pC4_0 : ∀ q, q < 55 → pX 4 (0 + q) = true := by decide +kernel
theorem pCm4 (pc : Nat) (h : pc < pTop 4) : pX 4 pc = true := by
 replace h : pc < 55 := h
 have q := pC4_0 (pc - 0) (by omega)
 rwa [show 0 + (pc - 0) = pc from by omega] at q
set_option maxRecDepth 100000 in
set_option maxHeartbeats 4000000 in
theorem pC5_0 : ∀ q, q < 15 → pX 5 (0 + q) = true := by decide +kernel
theorem pCm5 (pc : Nat) (h : pc < pTop 5) : pX 5 pc = true := by
 replace h : pc < 15 := h
 have q := pC5_0 (pc - 0) (by omega)
 rwa [show 0 + (pc - 0) = pc from by omega] at q
set_option maxRecDepth 100000 in
set_option maxHeartbeats 4000000 in
theorem pC6_0 : ∀ q, q < 58 → pX 6 (0 + q) = true := by decide +kernel
theorem pCm6 (pc : Nat) (h : pc < pTop 6) : pX 6 pc = true := by
 replace h : pc < 58 := h
 have q := pC6_0 (pc - 0) (by omega)
 rwa [show 0 + (pc - 0) = pc from by omega] at q
set_option maxRecDepth 100000 in
set_option maxHeartbeats 4000000 in
theorem pC7_0 : ∀ q, q < 58 → pX 7 (0 + q) = true := by decide +kernel
theorem pCm7 (pc : Nat) (h : pc < pTop 7) : pX 7 pc = true := by
 replace h : pc < 58 := h
 have q := pC7_0 (pc - 0) (by omega)
 rwa [show 0 + (pc - 0) = pc from by omega] at q
set_option maxRecDepth 100000 in
set_option maxHeartbeats 4000000 in
theorem pC8_0 : ∀ q, q < 17 → pX 8 (0 + q) = true := by decide +kernel
theorem pCm8 (pc : Nat) (h : pc < pTop 8) : pX 8 pc = true := by
 replace h : pc < 17 := h
 have q := pC8_0 (pc - 0) (by omega)
 rwa [show 0 + (pc - 0) = pc from by omega] at q
set_option maxRecDepth 100000 in
set_option maxHeartbeats 4000000 in
theorem pC9_0 : ∀ q, q < 84 → pX 9 (0 + q) = true := by decide +kernel
theorem pCm9 (pc : Nat) (h : pc < pTop 9) : pX 9 pc = true := by
 replace h : pc < 84 := h
 have q := pC9_0 (pc - 0) (by omega)
 rwa [show 0 + (pc - 0) = pc from by omega] at q
set_option maxRecDepth 100000 in
set_option maxHeartbeats 4000000 in
theorem pC10_0 : ∀ q, q < 5 → pX 10 (0 + q) = true := by decide +kernel
theorem pCm10 (pc : Nat) (h : pc < pTop 10) : pX 10 pc = true := by
 replace h : pc < 5 := h
 have q := pC10_0 (pc - 0) (by omega)
 rwa [show 0 + (pc - 0) = pc from by omega] at q
set_option maxRecDepth 100000 in
set_option maxHeartbeats 4000000 in
theorem pC11_0 : ∀ q, q < 5 → pX 11 (0 + q) = true := by decide +kernel
theorem pCm11 (pc : Nat) (h : pc < pTop 11) : pX 11 pc = true := by
 replace h : pc < 5 := h
 have q := pC11_0 (pc - 0) (by omega)
 rwa [show 0 + (pc - 0) = pc from by omega] at q
set_option maxRecDepth 100000 in
set_option maxHeartbeats 4000000 in
theorem pC12_0 : ∀ q, q < 128 → pX 12 (0 + q) = true := by decide +kernel
set_option maxRecDepth 100000 in
set_option maxHeartbeats 4000000 in
theorem pC12_128 : ∀ q, q < 128 → pX 12 (128 + q) = true := by decide +kernel
set_option maxRecDepth 100000 in
set_option maxHeartbeats 4000000 in
theorem pC12_256 : ∀ q, q < 52 → pX 12 (256 + q) = true := by decide +kernel
theorem pCm12 (pc : Nat) (h : pc < pTop 12) : pX 12 pc = true := by
 replace h : pc < 308 := h
 by_cases h0 : pc < 128
 ·have q := pC12_0 (pc - 0) (by omega)
  rwa [show 0 + (pc - 0) = pc from by omega] at q
 by_cases h128 : pc < 256
 ·have q := pC12_128 (pc - 128) (by omega)
  rwa [show 128 + (pc - 128) = pc from by omega] at q
 have q := pC12_256 (pc - 256) (by omega)
 rwa [show 256 + (pc - 256) = pc from by omega] at q
set_option maxRecDepth 100000 in
set_option maxHeartbeats 4000000 in
theorem pC13_0 : ∀ q, q < 17 → pX 13 (0 + q) = true := by decide +kernel
theorem pCm13 (pc : Nat) (h : pc < pTop 13) : pX 13 pc = true := by
 replace h : pc < 17 := h
 have q := pC13_0 (pc - 0) (by omega)
 rwa [show 0 + (pc - 0) = pc from by omega] at q
set_option maxRecDepth 100000 in
set_option maxHeartbeats 4000000 in
theorem pC14_0 : ∀ q, q < 23 → pX 14 (0 + q) = true := by decide +kernel
theorem pCm14 (pc : Nat) (h : pc < pTop 14) : pX 14 pc = true := by
 replace h : pc < 23 := h
 have q := pC14_0 (pc - 0) (by omega)
 rwa [show 0 + (pc - 0) = pc from by omega] at q
set_option maxRecDepth 100000 in
set_option maxHeartbeats 4000000 in
theorem pC15_0 : ∀ q, q < 17 → pX 15 (0 + q) = true := by decide +kernel
theorem pCm15 (pc : Nat) (h : pc < pTop 15) : pX 15 pc = true := by
 replace h : pc < 17 := h
 have q := pC15_0 (pc - 0) (by omega)
 rwa [show 0 + (pc - 0) = pc from by omega] at q
set_option maxRecDepth 100000 in
set_option maxHeartbeats 4000000 in
theorem pC16_0 : ∀ q, q < 31 → pX 16 (0 + q) = true := by decide +kernel
theorem pCm16 (pc : Nat) (h : pc < pTop 16) : pX 16 pc = true := by
 replace h : pc < 31 := h
 have q := pC16_0 (pc - 0) (by omega)
 rwa [show 0 + (pc - 0) = pc from by omega] at q
set_option maxRecDepth 100000 in
set_option maxHeartbeats 4000000 in
theorem pC17_0 : ∀ q, q < 16 → pX 17 (0 + q) = true := by decide +kernel
theorem pCm17 (pc : Nat) (h : pc < pTop 17) : pX 17 pc = true := by
 replace h : pc < 16 := h
 have q := pC17_0 (pc - 0) (by omega)
 rwa [show 0 + (pc - 0) = pc from by omega] at q
set_option maxRecDepth 100000 in
set_option maxHeartbeats 4000000 in
theorem pC18_0 : ∀ q, q < 31 → pX 18 (0 + q) = true := by decide +kernel
theorem pCm18 (pc : Nat) (h : pc < pTop 18) : pX 18 pc = true := by
 replace h : pc < 31 := h
 have q := pC18_0 (pc - 0) (by omega)
 rwa [show 0 + (pc - 0) = pc from by omega] at q
set_option maxRecDepth 100000 in
set_option maxHeartbeats 4000000 in
theorem pC19_0 : ∀ q, q < 31 → pX 19 (0 + q) = true := by decide +kernel
theorem pCm19 (pc : Nat) (h : pc < pTop 19) : pX 19 pc = true := by
 replace h : pc < 31 := h
 have q := pC19_0 (pc - 0) (by omega)
 rwa [show 0 + (pc - 0) = pc from by omega] at q
set_option maxRecDepth 100000 in
set_option maxHeartbeats 4000000 in
theorem pC20_0 : ∀ q, q < 33 → pX 20 (0 + q) = true := by decide +kernel
theorem pCm20 (pc : Nat) (h : pc < pTop 20) : pX 20 pc = true := by
 replace h : pc < 33 := h
 have q := pC20_0 (pc - 0) (by omega)
 rwa [show 0 + (pc - 0) = pc from by omega] at q
set_option maxRecDepth 100000 in
set_option maxHeartbeats 4000000 in
theorem pC21_0 : ∀ q, q < 84 → pX 21 (0 + q) = true := by decide +kernel
theorem pCm21 (pc : Nat) (h : pc < pTop 21) : pX 21 pc = true := by
 replace h : pc < 84 := h
 have q := pC21_0 (pc - 0) (by omega)
 rwa [show 0 + (pc - 0) = pc from by omega] at q
set_option maxRecDepth 100000 in
set_option maxHeartbeats 4000000 in
theorem pC22_0 : ∀ q, q < 24 → pX 22 (0 + q) = true := by decide +kernel
theorem pCm22 (pc : Nat) (h : pc < pTop 22) : pX 22 pc = true := by
 replace h : pc < 24 := h
 have q := pC22_0 (pc - 0) (by omega)
 rwa [show 0 + (pc - 0) = pc from by omega] at q
set_option maxRecDepth 100000 in
set_option maxHeartbeats 4000000 in
theorem pC23_0 : ∀ q, q < 23 → pX 23 (0 + q) = true := by decide +kernel
theorem pCm23 (pc : Nat) (h : pc < pTop 23) : pX 23 pc = true := by
 replace h : pc < 23 := h
 have q := pC23_0 (pc - 0) (by omega)
 rwa [show 0 + (pc - 0) = pc from by omega] at q
set_option maxRecDepth 100000 in
set_option maxHeartbeats 4000000 in
theorem pC24_0 : ∀ q, q < 15 → pX 24 (0 + q) = true := by decide +kernel
theorem pCm24 (pc : Nat) (h : pc < pTop 24) : pX 24 pc = true := by
 replace h : pc < 15 := h
 have q := pC24_0 (pc - 0) (by omega)
 rwa [show 0 + (pc - 0) = pc from by omega] at q
set_option maxRecDepth 100000 in
set_option maxHeartbeats 4000000 in
theorem pC25_0 : ∀ q, q < 102 → pX 25 (0 + q) = true := by decide +kernel
theorem pCm25 (pc : Nat) (h : pc < pTop 25) : pX 25 pc = true := by
 replace h : pc < 102 := h
 have q := pC25_0 (pc - 0) (by omega)
 rwa [show 0 + (pc - 0) = pc from by omega] at q
set_option maxRecDepth 100000 in
set_option maxHeartbeats 4000000 in
theorem pC26_0 : ∀ q, q < 42 → pX 26 (0 + q) = true := by decide +kernel
theorem pCm26 (pc : Nat) (h : pc < pTop 26) : pX 26 pc = true := by
 replace h : pc < 42 := h
 have q := pC26_0 (pc - 0) (by omega)
 rwa [show 0 + (pc - 0) = pc from by omega] at q
set_option maxRecDepth 100000 in
set_option maxHeartbeats 4000000 in
theorem pC27_0 : ∀ q, q < 58 → pX 27 (0 + q) = true := by decide +kernel
theorem pCm27 (pc : Nat) (h : pc < pTop 27) : pX 27 pc = true := by
 replace h : pc < 58 := h
 have q := pC27_0 (pc - 0) (by omega)
 rwa [show 0 + (pc - 0) = pc from by omega] at q
set_option maxRecDepth 100000 in
set_option maxHeartbeats 4000000 in
theorem pC28_0 : ∀ q, q < 128 → pX 28 (0 + q) = true := by decide +kernel
set_option maxRecDepth 100000 in
set_option maxHeartbeats 4000000 in
theorem pC28_128 : ∀ q, q < 75 → pX 28 (128 + q) = true := by decide +kernel
theorem pCm28 (pc : Nat) (h : pc < pTop 28) : pX 28 pc = true := by
 replace h : pc < 203 := h
 by_cases h0 : pc < 128
 ·have q := pC28_0 (pc - 0) (by omega)
  rwa [show 0 + (pc - 0) = pc from by omega] at q
 have q := pC28_128 (pc - 128) (by omega)
 rwa [show 128 + (pc - 128) = pc from by omega] at q
set_option maxRecDepth 100000 in
set_option maxHeartbeats 4000000 in
theorem pC29_0 : ∀ q, q < 29 → pX 29 (0 + q) = true := by decide +kernel
theorem pCm29 (pc : Nat) (h : pc < pTop 29) : pX 29 pc = true := by
 replace h : pc < 29 := h
 have q := pC29_0 (pc - 0) (by omega)
 rwa [show 0 + (pc - 0) = pc from by omega] at q
set_option maxRecDepth 100000 in
set_option maxHeartbeats 4000000 in
theorem pC30_0 : ∀ q, q < 92 → pX 30 (0 + q) = true := by decide +kernel
theorem pCm30 (pc : Nat) (h : pc < pTop 30) : pX 30 pc = true := by
 replace h : pc < 92 := h
 have q := pC30_0 (pc - 0) (by omega)
 rwa [show 0 + (pc - 0) = pc from by omega] at q
set_option maxRecDepth 100000 in
set_option maxHeartbeats 4000000 in
theorem pC31_0 : ∀ q, q < 25 → pX 31 (0 + q) = true := by decide +kernel
theorem pCm31 (pc : Nat) (h : pc < pTop 31) : pX 31 pc = true := by
 replace h : pc < 25 := h
 have q := pC31_0 (pc - 0) (by omega)
 rwa [show 0 + (pc - 0) = pc from by omega] at q
set_option maxRecDepth 100000 in
set_option maxHeartbeats 4000000 in
theorem pC32_0 : ∀ q, q < 67 → pX 32 (0 + q) = true := by decide +kernel
theorem pCm32 (pc : Nat) (h : pc < pTop 32) : pX 32 pc = true := by
 replace h : pc < 67 := h
 have q := pC32_0 (pc - 0) (by omega)
 rwa [show 0 + (pc - 0) = pc from by omega] at q
set_option maxRecDepth 100000 in
set_option maxHeartbeats 4000000 in
theorem pC33_0 : ∀ q, q < 9 → pX 33 (0 + q) = true := by decide +kernel
theorem pCm33 (pc : Nat) (h : pc < pTop 33) : pX 33 pc = true := by
 replace h : pc < 9 := h
 have q := pC33_0 (pc - 0) (by omega)
 rwa [show 0 + (pc - 0) = pc from by omega] at q
set_option maxRecDepth 100000 in
set_option maxHeartbeats 4000000 in
theorem pC34_0 : ∀ q, q < 38 → pX 34 (0 + q) = true := by decide +kernel
theorem pCm34 (pc : Nat) (h : pc < pTop 34) : pX 34 pc = true := by
 replace h : pc < 38 := h
 have q := pC34_0 (pc - 0) (by omega)
 rwa [show 0 + (pc - 0) = pc from by omega] at q
set_option maxRecDepth 100000 in
set_option maxHeartbeats 4000000 in
theorem pC35_0 : ∀ q, q < 85 → pX 35 (0 + q) = true := by decide +kernel
theorem pCm35 (pc : Nat) (h : pc < pTop 35) : pX 35 pc = true := by
 replace h : pc < 85 := h
 have q := pC35_0 (pc - 0) (by omega)
 rwa [show 0 + (pc - 0) = pc from by omega] at q
set_option maxRecDepth 100000 in
set_option maxHeartbeats 4000000 in
theorem pC36_0 : ∀ q, q < 67 → pX 36 (0 + q) = true := by decide +kernel
theorem pCm36 (pc : Nat) (h : pc < pTop 36) : pX 36 pc = true := by
 replace h : pc < 67 := h
 have q := pC36_0 (pc - 0) (by omega)
 rwa [show 0 + (pc - 0) = pc from by omega] at q
set_option maxRecDepth 100000 in
set_option maxHeartbeats 4000000 in
theorem pC37_0 : ∀ q, q < 67 → pX 37 (0 + q) = true := by decide +kernel
theorem pCm37 (pc : Nat) (h : pc < pTop 37) : pX 37 pc = true := by
 replace h : pc < 67 := h
 have q := pC37_0 (pc - 0) (by omega)
 rwa [show 0 + (pc - 0) = pc from by omega] at q
set_option maxRecDepth 100000 in
set_option maxHeartbeats 4000000 in
theorem pC38_0 : ∀ q, q < 13 → pX 38 (0 + q) = true := by decide +kernel
theorem pCm38 (pc : Nat) (h : pc < pTop 38) : pX 38 pc = true := by
 replace h : pc < 13 := h
 have q := pC38_0 (pc - 0) (by omega)
 rwa [show 0 + (pc - 0) = pc from by omega] at q
set_option maxRecDepth 100000 in
set_option maxHeartbeats 4000000 in
theorem pC39_0 : ∀ q, q < 67 → pX 39 (0 + q) = true := by decide +kernel
theorem pCm39 (pc : Nat) (h : pc < pTop 39) : pX 39 pc = true := by
 replace h : pc < 67 := h
 have q := pC39_0 (pc - 0) (by omega)
 rwa [show 0 + (pc - 0) = pc from by omega] at q
theorem pChk0 : ∀ m, m < pN → ∀ pc, pc < pTop m → (match pCode m pc with | some t => qchk m pc t.1 t.2 | none => true) = true := by
 intro m hm pc hp
 change pX m pc = true
 match m, hm, hp with
 | 0, _, hp => exact pCm0 pc hp
 | 1, _, hp => exact pCm1 pc hp
 | 2, _, hp => exact pCm2 pc hp
 | 3, _, hp => exact pCm3 pc hp
 | 4, _, hp => exact pCm4 pc hp
 | 5, _, hp => exact pCm5 pc hp
 | 6, _, hp => exact pCm6 pc hp
 | 7, _, hp => exact pCm7 pc hp
 | 8, _, hp => exact pCm8 pc hp
 | 9, _, hp => exact pCm9 pc hp
 | 10, _, hp => exact pCm10 pc hp
 | 11, _, hp => exact pCm11 pc hp
 | 12, _, hp => exact pCm12 pc hp
 | 13, _, hp => exact pCm13 pc hp
 | 14, _, hp => exact pCm14 pc hp
 | 15, _, hp => exact pCm15 pc hp
 | 16, _, hp => exact pCm16 pc hp
 | 17, _, hp => exact pCm17 pc hp
 | 18, _, hp => exact pCm18 pc hp
 | 19, _, hp => exact pCm19 pc hp
 | 20, _, hp => exact pCm20 pc hp
 | 21, _, hp => exact pCm21 pc hp
 | 22, _, hp => exact pCm22 pc hp
 | 23, _, hp => exact pCm23 pc hp
 | 24, _, hp => exact pCm24 pc hp
 | 25, _, hp => exact pCm25 pc hp
 | 26, _, hp => exact pCm26 pc hp
 | 27, _, hp => exact pCm27 pc hp
 | 28, _, hp => exact pCm28 pc hp
 | 29, _, hp => exact pCm29 pc hp
 | 30, _, hp => exact pCm30 pc hp
 | 31, _, hp => exact pCm31 pc hp
 | 32, _, hp => exact pCm32 pc hp
 | 33, _, hp => exact pCm33 pc hp
 | 34, _, hp => exact pCm34 pc hp
 | 35, _, hp => exact pCm35 pc hp
 | 36, _, hp => exact pCm36 pc hp
 | 37, _, hp => exact pCm37 pc hp
 | 38, _, hp => exact pCm38 pc hp
 | 39, _, hp => exact pCm39 pc hp
 | m + 40, hm, _ => exact absurd hm (by unfold pN; omega)
theorem pIn {m pc : Nat} {t : Instr × Nat} (h : pCode m pc = some t) : m < pN ∧ pc < pTop m := by
 unfold pCode at h
 cases h1 : Nat.ble pN m with
 | true => rw [h1] at h; cases h
 | false =>
  cases h2 : Nat.ble (pTop m) pc with
  | true => rw [h1, h2] at h; cases h
  | false => exact ⟨Nat.lt_of_not_le (fun q => by rw [Nat.ble_eq_true_of_le q] at h1; cases h1), Nat.lt_of_not_le (fun q => by rw [Nat.ble_eq_true_of_le q] at h2; cases h2)⟩
theorem pChk {m pc : Nat} {i : Instr} {aux : Nat} (h : pCode m pc = some (i, aux)) : qchk m pc i aux = true := by
 have q := pChk0 m (pIn h).1 pc (pIn h).2
 rw [h] at q
 exact q
theorem pDec {m pc : Nat} {i : Instr} {aux : Nat} (h : pCode m pc = some (i, aux)) : decode (pBytes m) pc = .ok (i, ilen i) := by
 have q := pChk h
 unfold qchk at q
 exact of_decide_eq_true (Bool.and_eq_true_iff.mp q).1
theorem pDecN {m pc n : Nat} {i : Instr} {aux : Nat} (h : pCode m pc = some (i, aux)) (hn : ilen i = n) : decode (pBytes m) pc = .ok (i, n) := by
 rw [← hn]; exact pDec h
theorem pRest {m pc : Nat} {i : Instr} {aux : Nat} (h : pCode m pc = some (i, aux)) : qlk m pc i aux = true := by
 have q := pChk h
 unfold qchk at q
 exact (Bool.and_eq_true_iff.mp q).2
theorem qtgt_spec {pc : Nat} {o : Int} {aux : Nat} (h : qtgt pc o aux = true) : 0 ≤ (pc : Int) + o ∧ ((pc : Int) + o).toNat = aux := by
 unfold qtgt at h
 have h2 := Bool.and_eq_true_iff.mp h
 exact ⟨of_decide_eq_true h2.1, of_decide_eq_true h2.2⟩
def QCx (Z : State) (p : Program) (R : Room) (s : State) (mid : MethodId) (meth : Method) (c : Code) (m : Nat) : Prop :=
 p.tables.exec = Jvm.exec ∧ Z.Warmed39 s.vm ∧ c.code = pBytes m ∧ c.maxLocals = pMaxL m ∧ meth.sig.returnType = pRet m ∧ s.vm.findClass (kName (pK m)) = some mid.cls ∧ meth.name = pNm m ∧ pFr m ≤ R.frames ∧ pLo m ≤ R.locals
def QTri (l : Launch) (Z : State) (n0 : Nat) (ad : Nat → Addr) (m : Nat) (st : QSt) (v : Option Value) (σ' : QHeap) : Prop :=
 st.2.2.2.length ≤ σ'.length ∧ qhs st.2.2.2 ≤ qhs σ' ∧
 ∀ (p : Program) (e : Env) (R : Room) (s : State) (mid : MethodId) (args : Array Value) (below : List Frame) (meth : Method) (c : Code) (T : State) (locs : List Loc) (cells slots : Nat) (C : Array Slot),
  QCx Z p R s mid meth c m → Stand p l e R s mid args below meth c T locs cells slots → QRep Z n0 ad T.heap st.2.2.2 → Fr n0 locs → QLocOk ad st.2.1 C → C.size = c.maxLocals →
  n0 + (st.2.2.2.length - k0) = s.heap.size + cells → cells + (σ'.length - st.2.2.2.length) ≤ R.cells → slots + (qhs σ' - qhs st.2.2.2) ≤ R.slots →
  ∃ T' locs', Stand p l e R s mid args below meth c T' locs' (cells + (σ'.length - st.2.2.2.length)) (slots + (qhs σ' - qhs st.2.2.2)) ∧ QRep Z n0 ad T'.heap σ' ∧ Fr n0 locs' ∧
   ∀ fs, (∀ (f : JFrame) (acts : List Action), f.method = mid → f.locked = none → f.entered = [] → (doReturn e (T'.setTop f) acts (v.map (qv ad))).1 = T'.setFrames fs) →
    Steps p.tables e below (T.setTop (mkF mid st.1 C (st.2.2.1.map (qv ad)))) (T'.setFrames fs)
section Triples
variable {l : Launch} {Z : State} {n0 : Nat} {ad : Nat → Addr} {a0 : Array Value} {m : Nat} {v : Option Value} {σ' : QHeap}
theorem QTri.gen {st st' : QSt} (h : QTri l Z n0 ad m st' v σ') (g1 : st.2.2.2.length ≤ st'.2.2.2.length) (g2 : qhs st.2.2.2 ≤ qhs st'.2.2.2)
  (hs : ∀ (p : Program) (e : Env) (R : Room) (s : State) (mid : MethodId) (args : Array Value) (below : List Frame) (meth : Method) (c : Code) (T : State) (locs : List Loc) (cells slots : Nat) (C : Array Slot),
   QCx Z p R s mid meth c m → Stand p l e R s mid args below meth c T locs cells slots → QRep Z n0 ad T.heap st.2.2.2 → Fr n0 locs → QLocOk ad st.2.1 C → C.size = c.maxLocals →
   n0 + (st.2.2.2.length - k0) = s.heap.size + cells → cells + (st'.2.2.2.length - st.2.2.2.length) ≤ R.cells → slots + (qhs st'.2.2.2 - qhs st.2.2.2) ≤ R.slots →
   ∃ T₁ locs₁ C₁, Stand p l e R s mid args below meth c T₁ locs₁ (cells + (st'.2.2.2.length - st.2.2.2.length)) (slots + (qhs st'.2.2.2 - qhs st.2.2.2)) ∧ QRep Z n0 ad T₁.heap st'.2.2.2 ∧ Fr n0 locs₁ ∧ QLocOk ad st'.2.1 C₁ ∧ C₁.size = c.maxLocals ∧
    ∀ target, Steps p.tables e below (T₁.setTop (mkF mid st'.1 C₁ (st'.2.2.1.map (qv ad)))) target → Steps p.tables e below (T.setTop (mkF mid st.1 C (st.2.2.1.map (qv ad)))) target) :
  QTri l Z n0 ad m st v σ' := by
 obtain ⟨h1, h2, h3⟩ := h
 refine ⟨Nat.le_trans g1 h1, Nat.le_trans g2 h2, fun p e R s mid args below meth c T locs cells slots C hcx X hR hF hL hC hn hc hsl => ?_⟩
 obtain ⟨T₁, locs₁, C₁, X₁, R₁, F₁, L₁, C1, S₁⟩ := hs p e R s mid args below meth c T locs cells slots C hcx X hR hF hL hC hn (by omega) (by omega)
 have hk := hR.1
 obtain ⟨T', locs', X', R', F', S'⟩ := h3 p e R s mid args below meth c T₁ locs₁ _ _ C₁ hcx X₁ R₁ F₁ L₁ C1 (by omega) (by omega) (by omega)
 have e1 : cells + (st'.2.2.2.length - st.2.2.2.length) + (σ'.length - st'.2.2.2.length) = cells + (σ'.length - st.2.2.2.length) := by omega
 have e2 : slots + (qhs st'.2.2.2 - qhs st.2.2.2) + (qhs σ' - qhs st'.2.2.2) = slots + (qhs σ' - qhs st.2.2.2) := by omega
 rw [e1, e2] at X'
 exact ⟨T', locs', X', R', F', fun fs hf => S₁ _ (S' fs hf)⟩
theorem QTri.pure {st st' : QSt} (h : QTri l Z n0 ad m st' v σ') (hσ : st'.2.2.2 = st.2.2.2)
  (hs : ∀ (p : Program) (e : Env) (R : Room) (s : State) (mid : MethodId) (args : Array Value) (below : List Frame) (meth : Method) (c : Code) (T : State) (locs : List Loc) (cells slots : Nat) (C : Array Slot),
   QCx Z p R s mid meth c m → Stand p l e R s mid args below meth c T locs cells slots → QRep Z n0 ad T.heap st.2.2.2 → QLocOk ad st.2.1 C → C.size = c.maxLocals →
   ∃ T₁ C₁, Stand p l e R s mid args below meth c T₁ locs cells slots ∧ T₁.heap = T.heap ∧ QLocOk ad st'.2.1 C₁ ∧ C₁.size = c.maxLocals ∧
    ∀ target, Steps p.tables e below (T₁.setTop (mkF mid st'.1 C₁ (st'.2.2.1.map (qv ad)))) target → Steps p.tables e below (T.setTop (mkF mid st.1 C (st.2.2.1.map (qv ad)))) target) :
  QTri l Z n0 ad m st v σ' := by
 refine QTri.gen h (by rw [hσ]; exact Nat.le_refl _) (by rw [hσ]; exact Nat.le_refl _) fun p e R s mid args below meth c T locs cells slots C hcx X hR hF hL hC hn hc hsl => ?_
 obtain ⟨T₁, C₁, X₁, hh, L₁, C1, S₁⟩ := hs p e R s mid args below meth c T locs cells slots C hcx X hR hL hC
 refine ⟨T₁, locs, C₁, ?_, by rw [hσ, hh]; exact hR, hF, L₁, C1, S₁⟩
 rw [hσ, Nat.sub_self, Nat.sub_self]
 exact X₁
theorem QTri.frame {pc pc' : Nat} {L L' : QLoc} {S S' : List Value} {σ : QHeap} (h : QTri l Z n0 ad m (pc', L', S', σ) v σ')
  (hs : ∀ (p : Program) (e : Env) (R : Room) (s : State) (mid : MethodId) (args : Array Value) (below : List Frame) (meth : Method) (c : Code) (T : State) (locs : List Loc) (cells slots : Nat) (C : Array Slot),
   QCx Z p R s mid meth c m → Stand p l e R s mid args below meth c T locs cells slots → QRep Z n0 ad T.heap σ → QLocOk ad L C → C.size = c.maxLocals →
   ∃ C₁, QLocOk ad L' C₁ ∧ C₁.size = c.maxLocals ∧ ∀ target, Steps p.tables e below (T.setTop (mkF mid pc' C₁ (S'.map (qv ad)))) target → Steps p.tables e below (T.setTop (mkF mid pc C (S.map (qv ad)))) target) :
  QTri l Z n0 ad m (pc, L, S, σ) v σ' :=
 QTri.pure h rfl fun p e R s mid args below meth c T locs cells slots C hcx X hR hL hC => by
  obtain ⟨C₁, h1, h2, h3⟩ := hs p e R s mid args below meth c T locs cells slots C hcx X hR hL hC
  exact ⟨T, C₁, X, rfl, h1, h2, h3⟩
theorem QTri.stack {pc pc' : Nat} {L : QLoc} {S S' : List Value} {σ : QHeap} (h : QTri l Z n0 ad m (pc', L, S', σ) v σ')
  (hs : ∀ (p : Program) (e : Env) (R : Room) (s : State) (mid : MethodId) (args : Array Value) (below : List Frame) (meth : Method) (c : Code) (T : State) (locs : List Loc) (cells slots : Nat) (C : Array Slot) (target : State),
   p.tables.exec = Jvm.exec → Z.Warmed39 s.vm → c.code = pBytes m → s.vm.findClass (kName (pK m)) = some mid.cls → Stand p l e R s mid args below meth c T locs cells slots → QRep Z n0 ad T.heap σ → QLocOk ad L C →
   Steps p.tables e below (T.setTop (mkF mid pc' C (S'.map (qv ad)))) target → Steps p.tables e below (T.setTop (mkF mid pc C (S.map (qv ad)))) target) :
  QTri l Z n0 ad m (pc, L, S, σ) v σ' :=
 QTri.frame h fun p e R s mid args below meth c T locs cells slots C hcx X hR hL hC => ⟨C, hL, hC, fun target k => hs p e R s mid args below meth c T locs cells slots C target hcx.1 hcx.2.1 hcx.2.2.1 hcx.2.2.2.2.2.1 X hR hL k⟩
theorem qload_inv {pc : Nat} {L : QLoc} {S : List Value} {σ : QHeap} {k : Nat} {ok : Value → Bool} {st' : QSt} (h : qload pc L S σ k ok = some st') : ∃ v, lget L k = some v ∧ ok v = true ∧ st' = (pc, L, v :: S, σ) := by
 unfold qload at h
 split at h
 ·rename_i v hv
  cases ho : ok v with
  | true => rw [ho] at h; cases h; exact ⟨v, hv, ho, rfl⟩
  | false => rw [ho] at h; cases h
 ·cases h
theorem qstore_inv {pc : Nat} {L : QLoc} {S : List Value} {σ : QHeap} {k : Nat} {ok : Value → Bool} {st' : QSt} (h : qstore pc L S σ k ok = some st') : ∃ v S' L', S = v :: S' ∧ ok v = true ∧ lput L k v = some L' ∧ st' = (pc, L', S', σ) := by
 unfold qstore at h
 split at h
 ·rename_i v S'
  cases ho : ok v with
  | true =>
   rw [ho] at h
   simp only [cond_true] at h
   split at h
   ·rename_i L' hL'
    cases h; exact ⟨v, S', L', rfl, ho, hL', rfl⟩
   ·cases h
  | false => rw [ho] at h; cases h
 ·cases h
theorem qbin_inv {pc : Nat} {L : QLoc} {S : List Value} {σ : QHeap} {f : Int32 → Int32 → Int32} {st' : QSt} (h : qbin pc L S σ f = some st') : ∃ x y S', S = .int y :: .int x :: S' ∧ st' = (pc, L, .int (f x y) :: S', σ) := by
 unfold qbin at h
 split at h
 ·cases h; exact ⟨_, _, _, rfl, rfl⟩
 ·cases h
theorem qbino_inv {pc : Nat} {L : QLoc} {S : List Value} {σ : QHeap} {f : Int32 → Int32 → Option Int32} {st' : QSt} (h : qbino pc L S σ f = some st') : ∃ x y z S', S = .int y :: .int x :: S' ∧ f x y = some z ∧ st' = (pc, L, .int z :: S', σ) := by
 unfold qbino at h
 split at h
 ·obtain ⟨z, hz, h⟩ := Option.bind_eq_some_iff.mp h
  cases h; exact ⟨_, _, _, _, rfl, hz, rfl⟩
 ·cases h
theorem qbinJ_inv {pc : Nat} {L : QLoc} {S : List Value} {σ : QHeap} {f : Int64 → Int64 → Int64} {st' : QSt} (h : qbinJ pc L S σ f = some st') : ∃ x y S', S = .long y :: .long x :: S' ∧ st' = (pc, L, .long (f x y) :: S', σ) := by
 unfold qbinJ at h
 split at h
 ·cases h; exact ⟨_, _, _, rfl, rfl⟩
 ·cases h
theorem qshJ_inv {pc : Nat} {L : QLoc} {S : List Value} {σ : QHeap} {f : Int64 → Int32 → Int64} {st' : QSt} (h : qshJ pc L S σ f = some st') : ∃ x y S', S = .int y :: .long x :: S' ∧ st' = (pc, L, .long (f x y) :: S', σ) := by
 unfold qshJ at h
 split at h
 ·cases h; exact ⟨_, _, _, rfl, rfl⟩
 ·cases h
theorem quni_inv {pc : Nat} {L : QLoc} {S : List Value} {σ : QHeap} {f : Int32 → Value} {st' : QSt} (h : quni pc L S σ f = some st') : ∃ x S', S = .int x :: S' ∧ st' = (pc, L, f x :: S', σ) := by
 unfold quni at h
 split at h
 ·cases h; exact ⟨_, _, rfl, rfl⟩
 ·cases h
theorem quniJ_inv {pc : Nat} {L : QLoc} {S : List Value} {σ : QHeap} {f : Int64 → Value} {st' : QSt} (h : quniJ pc L S σ f = some st') : ∃ x S', S = .long x :: S' ∧ st' = (pc, L, f x :: S', σ) := by
 unfold quniJ at h
 split at h
 ·cases h; exact ⟨_, _, rfl, rfl⟩
 ·cases h
theorem qif_inv {pc : Nat} {L : QLoc} {S : List Value} {σ : QHeap} {cd : ClassFile.Cond} {t : Nat} {st' : QSt} (h : qif pc L S σ cd t = some st') : ∃ x S', S = .int x :: S' ∧ st' = (bif ifCond.holds cd x then t else pc, L, S', σ) := by
 unfold qif at h
 split at h
 ·cases h; exact ⟨_, _, rfl, rfl⟩
 ·cases h
theorem qicmp_inv {pc : Nat} {L : QLoc} {S : List Value} {σ : QHeap} {cd : ClassFile.Cond} {t : Nat} {st' : QSt} (h : qicmp pc L S σ cd t = some st') : ∃ x y S', S = .int y :: .int x :: S' ∧ st' = (bif if_icmp.holds cd x y then t else pc, L, S', σ) := by
 unfold qicmp at h
 split at h
 ·cases h; exact ⟨_, _, _, rfl, rfl⟩
 ·cases h
theorem qget_inv {pc : Nat} {L : QLoc} {S : List Value} {σ : QHeap} {k : Nat} {st' : QSt} (h : qget pc L S σ k = some st') : ∃ a S' vs v, S = .ref a :: S' ∧ hget σ a = some (.inl vs) ∧ vget vs k = some v ∧ st' = (pc, L, v :: S', σ) := by
 unfold qget at h
 split at h
 ·split at h
  ·split at h
   ·cases h; exact ⟨_, _, _, _, rfl, by assumption, by assumption, rfl⟩
   ·cases h
  ·cases h
 ·cases h
theorem qput_inv {pc : Nat} {L : QLoc} {S : List Value} {σ : QHeap} {k : Nat} {st' : QSt} (h : qput pc L S σ k = some st') : ∃ v a S' vs w, S = v :: .ref a :: S' ∧ hget σ a = some (.inl vs) ∧ k0 ≤ a ∧ k < vs.length ∧ qfit (fTy k) v = some w ∧ st' = (pc, L, S', σ.set a (.inl (vs.set k w))) := by
 unfold qput at h
 split at h
 ·rename_i v a S'
  split at h
  ·rename_i vs hvs
   cases hbb : (Nat.ble k0 a && Nat.ble (k + 1) vs.length) with
   | false => rw [hbb] at h; cases h
   | true =>
    rw [hbb] at h
    simp only [cond_true] at h
    obtain ⟨u, hu, h⟩ := Option.bind_eq_some_iff.mp h
    cases h
    obtain ⟨b1, b2⟩ := Bool.and_eq_true_iff.mp hbb
    exact ⟨v, a, S', vs, u, rfl, hvs, Nat.le_of_ble_eq_true b1, Nat.le_of_ble_eq_true b2, hu, rfl⟩
  ·cases h
 ·cases h
theorem qald_inv {pc : Nat} {L : QLoc} {S : List Value} {σ : QHeap} {ok : FieldType → Bool} {st' : QSt} (h : qald pc L S σ ok = some st') : ∃ j a S' ty xs v, S = .int j :: .ref a :: S' ∧ hget σ a = some (.inr (.inl (ty, xs))) ∧ ok ty = true ∧ aget xs j = some v ∧ st' = (pc, L, .int v :: S', σ) := by
 unfold qald at h
 split at h
 ·rename_i j a S'
  split at h
  ·rename_i x hx
   cases ht : ok x.1 with
   | false => rw [ht] at h; cases h
   | true =>
    rw [ht] at h
    simp only [cond_true] at h
    obtain ⟨u, hu, h⟩ := Option.bind_eq_some_iff.mp h
    cases h
    exact ⟨j, a, S', x.1, x.2, u, rfl, hx, ht, hu, rfl⟩
  ·cases h
 ·cases h
theorem qaldJ_inv {pc : Nat} {L : QLoc} {S : List Value} {σ : QHeap} {st' : QSt} (h : qaldJ pc L S σ = some st') : ∃ j a S' xs v, S = .int j :: .ref a :: S' ∧ hget σ a = some (.inr (.inr xs)) ∧ aget xs j = some v ∧ st' = (pc, L, .long v :: S', σ) := by
 unfold qaldJ at h
 split at h
 ·rename_i j a S'
  split at h
  ·rename_i x hx
   obtain ⟨u, hu, h⟩ := Option.bind_eq_some_iff.mp h
   cases h
   exact ⟨j, a, S', x, u, rfl, hx, hu, rfl⟩
  ·cases h
 ·cases h
theorem qast_inv {pc : Nat} {L : QLoc} {S : List Value} {σ : QHeap} {ok : FieldType → Bool} {st' : QSt} (h : qast pc L S σ ok = some st') : ∃ v j a S' ty xs ys, S = .int v :: .int j :: .ref a :: S' ∧ hget σ a = some (.inr (.inl (ty, xs))) ∧ ok ty = true ∧ k0 ≤ a ∧ aset xs j (qnar ty v) = some ys ∧ st' = (pc, L, S', σ.set a (.inr (.inl (ty, ys)))) := by
 unfold qast at h
 split at h
 ·rename_i v j a S'
  split at h
  ·rename_i x hx
   cases ht : (ok x.1 && Nat.ble k0 a) with
   | false => rw [ht] at h; cases h
   | true =>
    rw [ht] at h
    simp only [cond_true] at h
    obtain ⟨u, hu, h⟩ := Option.bind_eq_some_iff.mp h
    cases h
    obtain ⟨b1, b2⟩ := Bool.and_eq_true_iff.mp ht
    exact ⟨v, j, a, S', x.1, x.2, u, rfl, hx, b1, Nat.le_of_ble_eq_true b2, hu, rfl⟩
  ·cases h
 ·cases h
theorem qastJ_inv {pc : Nat} {L : QLoc} {S : List Value} {σ : QHeap} {st' : QSt} (h : qastJ pc L S σ = some st') : ∃ v j a S' xs ys, S = .long v :: .int j :: .ref a :: S' ∧ hget σ a = some (.inr (.inr xs)) ∧ k0 ≤ a ∧ aset xs j v = some ys ∧ st' = (pc, L, S', σ.set a (.inr (.inr ys))) := by
 unfold qastJ at h
 split at h
 ·rename_i v j a S'
  split at h
  ·rename_i x hx
   cases ht : (Nat.ble k0 a) with
   | false => rw [ht] at h; cases h
   | true =>
    rw [ht] at h
    simp only [cond_true] at h
    obtain ⟨u, hu, h⟩ := Option.bind_eq_some_iff.mp h
    cases h
    exact ⟨v, j, a, S', x, u, rfl, hx, Nat.le_of_ble_eq_true ht, hu, rfl⟩
  ·cases h
 ·cases h
theorem qlen_inv {pc : Nat} {L : QLoc} {S : List Value} {σ : QHeap} {st' : QSt} (h : qlen pc L S σ = some st') : ∃ a S' n, S = .ref a :: S' ∧ ((∃ ty xs, hget σ a = some (.inr (.inl (ty, xs))) ∧ n = xs.length) ∨ ∃ xs, hget σ a = some (.inr (.inr xs)) ∧ n = xs.length) ∧ st' = (pc, L, .int n.toInt32 :: S', σ) := by
 unfold qlen at h
 split at h
 ·rename_i a S'
  split at h
  ·rename_i x hx
   cases h; exact ⟨a, S', _, rfl, Or.inl ⟨x.1, x.2, hx, rfl⟩, rfl⟩
  ·rename_i x hx
   cases h; exact ⟨a, S', _, rfl, Or.inr ⟨x, hx, rfl⟩, rfl⟩
  ·cases h
 ·cases h
theorem isI_inv {v : Value} (h : isI v = true) : ∃ x, v = .int x := by cases v <;> simp [isI] at h; exact ⟨_, rfl⟩
theorem isJ_inv {v : Value} (h : isJ v = true) : ∃ x, v = .long x := by cases v <;> simp [isJ] at h; exact ⟨_, rfl⟩
theorem isR_inv {v : Value} (h : isR v = true) : ∃ x, v = .ref x := by cases v <;> simp [isR] at h; exact ⟨_, rfl⟩
theorem aget_inv {α : Type} {xs : List α} {j : Int32} {x : α} (h : aget xs j = some x) : ¬ j < 0 ∧ xs[j.toNatClampNeg]? = some x := by
 unfold aget at h
 split at h
 ·cases h
 ·rename_i q; exact ⟨q, h⟩
theorem aset_inv {α : Type} {xs ys : List α} {j : Int32} {x : α} (h : aset xs j x = some ys) : ¬ j < 0 ∧ j.toNatClampNeg < xs.length ∧ ys = xs.set j.toNatClampNeg x := by
 unfold aset at h
 split at h
 ·cases h
 ·rename_i q
  split at h
  ·rename_i q2; cases h; exact ⟨q, q2, rfl⟩
  ·cases h
theorem qnew_inv {n : Int32} {k : Nat} (h : qnew n = some k) : ¬ n < 0 ∧ n.toNatClampNeg = k ∧ k ≤ 67108864 := by
 unfold qnew at h
 split at h
 ·cases h
 ·rename_i q
  split at h
  ·rename_i q2; cases h; exact ⟨q, rfl, q2⟩
  ·cases h
theorem QCellOk.other {h h' : Heap} {a b : Addr} {sl : Nat} {w : Value} {c : QCell} (H : QCellOk Z ad h b c) (W : Wr h h' a sl w) (ne : b ≠ a) : QCellOk Z ad h' b c := by
 rcases c with vs | ⟨ty, xs⟩ | xs
 ·obtain ⟨h1, h2, h3⟩ := H
  exact ⟨h1.wr W, h2, fun k u hk hu => (h3 k u hk hu).other W (Or.inl ne)⟩
 ·obtain ⟨c, h1, h2⟩ := H
  exact ⟨c, h1.other W ne, h2⟩
 ·obtain ⟨c, h1, h2⟩ := H
  exact ⟨c, h1.other W ne, h2⟩
theorem QCellOk.ext {h h' : Heap} {b : Addr} {c : QCell} (H : QCellOk Z ad h b c) (E : Ext h h') : QCellOk Z ad h' b c := by
 rcases c with vs | ⟨ty, xs⟩ | xs
 ·obtain ⟨h1, h2, h3⟩ := H
  exact ⟨h1.ext E, h2, fun k u hk hu => (h3 k u hk hu).ext E⟩
 ·obtain ⟨c, h1, h2⟩ := H
  exact ⟨c, h1.ext E, h2⟩
 ·obtain ⟨c, h1, h2⟩ := H
  exact ⟨c, h1.ext E, h2⟩
theorem QRep.set {h h' : Heap} {σ : QHeap} {a : Nat} {sl : Nat} {w : Value} {c d : QCell} (H : QRep Z n0 ad h σ) (Ad : QAd n0 ad) (W : Wr h h' (ad a) sl w) (hc : hget σ a = some c) (hd : QCellOk Z ad h' (ad a) d) : QRep Z n0 ad h' (σ.set a d) := by
 obtain ⟨h1, h2, h3⟩ := H
 refine ⟨by simpa using h1, by rw [W.size, h2]; simp, fun k e he => ?_⟩
 rw [hget_set hc] at he
 split at he
 ·rename_i q; cases he; rw [q]; exact hd
 ·rename_i q; exact (h3 k e he).other W fun z => q (Ad.2 _ _ z)
theorem QRep.push {h h' : Heap} {σ : QHeap} {c : QCell} (H : QRep Z n0 ad h σ) (Ad : QAd n0 ad) (E : Ext h h') (hs : h'.size = h.size + 1) (hc : QCellOk Z ad h' h.size c) : QRep Z n0 ad h' (σ ++ [c]) := by
 obtain ⟨h1, h2, h3⟩ := H
 refine ⟨by simp; omega, by rw [hs, h2]; simp; omega, fun k e he => ?_⟩
 rw [hget_eq] at he
 rcases Nat.lt_or_ge k σ.length with q | q
 ·rw [List.getElem?_append_left q, ← hget_eq] at he
  exact (h3 k e he).ext E
 ·rw [List.getElem?_append_right q] at he
  obtain rfl : k = σ.length := by
   rcases Nat.lt_or_ge (k - σ.length) 1 with z | z
   ·omega
   ·rw [List.getElem?_eq_none (by simpa using z)] at he; cases he
  simp at he
  rw [← he, Ad.1 _ h1, ← h2]
  exact hc
theorem mem_of_contains {α : Type} [BEq α] [LawfulBEq α] {L : List α} {a : α} (h : L.contains a = true) : a ∈ L := by simpa using h
theorem lkF_lt : ∀ t ∈ lkF, t.2.2 < nF := by decide +kernel
theorem laid_of (W : QW Z a0) {k : Nat} (hk : k < nF) : Laid Z a0 cName cName (fNm k) (fDs k) := by
 have q := (qw_lay W) k hk
 cases hf : fFin k with
 | true => rw [hf] at q; exact Or.inr q
 | false => rw [hf] at q; exact Or.inl q
theorem qfit_inv {ty : FieldType} {v w : Value} (h : qfit ty v = some w) : v = w ∧ narrow ty (qv ad w) = qv ad w ∧ fits ty (qv ad w) = true := by
 unfold qfit at h
 split at h
 ·cases h; exact ⟨rfl, rfl, rfl⟩
 ·rename_i x
  obtain ⟨y, hy, h⟩ := Option.bind_eq_some_iff.mp h
  cases h
  unfold qboo at hy
  split at hy
  ·rename_i e; cases hy; subst e; exact ⟨rfl, rfl, rfl⟩
  ·split at hy
   ·rename_i e; cases hy; subst e; exact ⟨rfl, rfl, rfl⟩
   ·cases hy
 ·cases h; exact ⟨rfl, rfl, rfl⟩
 ·cases h; exact ⟨rfl, rfl, rfl⟩
 ·cases h
theorem vget_set {vs : List Value} {k j : Nat} {w : Value} (hk : k < vs.length) : vget (vs.set k w) j = if j = k then some w else vget vs j := by
 simp only [vget_eq, List.getElem?_set]
 by_cases e : k = j
 ·subst e; simp [hk]
 ·simp [e, Ne.symm e]
theorem ald_in {α : Type} {f : α → Value} {xs : List α} {c : Cell} {j : Int32} {x : α} (hc : c.slots = (xs.map f).toArray) (h : aget xs j = some x) : ¬ (j < 0 ∨ c.slots.size ≤ j.toNatClampNeg) ∧ c.slots[j.toNatClampNeg]? = some (f x) := by
 obtain ⟨h1, h2⟩ := aget_inv h
 have h3 := (List.getElem?_eq_some_iff.mp h2).1
 refine ⟨fun q => ?_, by rw [hc]; simp [h2]⟩
 rcases q with q | q
 ·exact h1 q
 ·rw [hc] at q; simp at q; omega
theorem ast_in {α : Type} {f : α → Value} {xs ys : List α} {c : Cell} {j : Int32} {x : α} (hc : c.slots = (xs.map f).toArray) (h : aset xs j x = some ys) : ¬ (j < 0 ∨ c.slots.size ≤ j.toNatClampNeg) ∧ (c.setSlot j.toNatClampNeg (f x)).slots = (ys.map f).toArray := by
 obtain ⟨h1, h2, rfl⟩ := aset_inv h
 refine ⟨fun q => ?_, by simp [Cell.setSlot, hc, List.map_set]⟩
 rcases q with q | q
 ·exact h1 q
 ·rw [hc] at q; simp at q; omega
theorem qgrow {σ : QHeap} {c : QCell} : qhs (σ ++ [c]) - qhs σ = qsz c := by rw [qhs_app]; simp [qhs]
set_option maxHeartbeats 4000000 in
theorem QTri.newArr (Ad : QAd n0 ad) (W : QW Z a0) {pc aux : Nat} {L : QLoc} {S : List Value} {σ : QHeap} {aty : ArrayType} {n : Int32} {k : Nat} {c : QCell} (hk : qnew n = some k) (hc : pCode m pc = some (.newarray aty, aux)) (hz : qsz c = k)
  (hq : ∀ (h' : Heap) (a : Addr) (cA : ClassId), Arr Z h' a (newA cA (newarray.typeOf aty) n) (newarray.typeOf aty) → QCellOk Z ad h' a c)
  (h : QTri l Z n0 ad m (pc + 2, L, .ref σ.length :: S, σ ++ [c]) v σ') : QTri l Z n0 ad m (pc, L, .int n :: S, σ) v σ' := by
 have hd : decode (pBytes m) pc = .ok (.newarray aty, 2) := pDecN hc rfl
 obtain ⟨n1, n2, n3⟩ := qnew_inv hk
 refine QTri.gen h (by simp) (by simp [qhs_app]) fun p e R s mid args below meth c' T locs cells slots C hcx X hR hF hL hC hn hc1 hsl => ?_
 obtain ⟨hx, hZ, hby, hml, hret, hown, hnm, hfr, hlo⟩ := hcx
 have hd2 : decode c'.code pc = .ok (.newarray aty, 2) := by rw [hby]; exact hd
 simp only [List.length_append, List.length_singleton, Nat.add_sub_cancel_left, qgrow, hz] at hc1 hsl ⊢
 obtain ⟨T₁, h₁, cA, X₁, e₁, E₁, A₁, st⟩ := newP X hx hZ (aty := aty) (qw_arr W (newarray.typeOf aty) (mem_of_contains (show aTys.contains (newarray.typeOf aty) = true from pRest hc))) rfl (g := mkF mid pc C (.int n :: S.map (qv ad))) rfl hd2 rfl n1 (cap := k) (by omega) (by omega) hc1 hsl
 have hsz : h₁.size = T.heap.size + 1 := by
  have q1 := X₁.heapSize
  have q2 : T.heap.size < h₁.size := A₁.lt
  have q3 := hR.2.1
  rw [e₁] at q1
  have : n0 + (σ.length - k0) = s.heap.size + cells := hn
  have q3' : T.heap.size = n0 + (σ.length - k0) := q3
  omega
 refine ⟨T₁, locs, C, X₁, ?_, hF, hL, hC, fun target q => ?_⟩
 ·rw [e₁]; exact QRep.push hR Ad E₁ hsz (hq _ _ _ A₁)
 ·refine st _ ?_
  have e2 : ad σ.length = T.heap.size := by rw [Ad.1 _ hR.1]; exact hR.2.1.symm
  simp only [List.map_cons, qv, e2] at q
  exact q
set_option maxHeartbeats 4000000 in
theorem QTri.getfield (W : QW Z a0) {pc idx aux : Nat} {L : QLoc} {S : List Value} {σ : QHeap} {st' : QSt} (h : QTri l Z n0 ad m st' v σ') (hc : pCode m pc = some (.getfield idx, aux)) (hs : qget (pc + 3) L S σ aux = some st') : QTri l Z n0 ad m (pc, L, S, σ) v σ' := by
 have hd : decode (pBytes m) pc = .ok (.getfield idx, 3) := pDecN hc rfl
 obtain ⟨a, S', vs, w, rfl, hvs, hw, rfl⟩ := qget_inv hs
 have hm := mem_of_contains (show lkF.contains (pK m, idx, aux) = true from pRest hc)
 have hlt := lkF_lt _ hm
 refine QTri.pure h rfl fun p e R s mid args below meth c T locs cells slots C hcx X hR hL hC => ?_
 obtain ⟨hx, hZ, hby, hml, hret, hown, hnm, hfr, hlo⟩ := hcx
 have hd2 : decode c.code pc = .ok (.getfield idx, 3) := by rw [hby]; exact hd
 have F := (hR.2.2 _ _ hvs).2.2 aux w hlt hw
 obtain ⟨T₁, X₁, e₁, st⟩ := getF X hx hZ hown (host := "") (index := idx) (Or.inl (qw_fl W (pK m, idx, aux) hm)) Via.refl rfl F (g := mkF mid pc C (List.map (qv ad) (.ref a :: S'))) rfl rfl hd2
 exact ⟨T₁, C, X₁, e₁, hL, hC, st⟩
set_option maxHeartbeats 4000000 in
theorem QTri.putfield (Ad : QAd n0 ad) (W : QW Z a0) {pc idx aux : Nat} {L : QLoc} {S : List Value} {σ : QHeap} {st' : QSt} (h : QTri l Z n0 ad m st' v σ') (hc : pCode m pc = some (.putfield idx, aux)) (hs : qput (pc + 3) L S σ aux = some st') : QTri l Z n0 ad m (pc, L, S, σ) v σ' := by
 have hd : decode (pBytes m) pc = .ok (.putfield idx, 3) := pDecN hc rfl
 obtain ⟨w, a, S', vs, u, rfl, hvs, b1, b2, hu, rfl⟩ := qput_inv hs
 obtain ⟨r1, r2⟩ := Bool.and_eq_true_iff.mp (show (lkF.contains (pK m, idx, aux) && (!fFin aux || (pK m == 1 && pNm m == "<init>"))) = true from pRest hc)
 have hm := mem_of_contains r1
 have hlt := lkF_lt _ hm
 obtain ⟨rfl, q2, q3⟩ := qfit_inv (ad := ad) hu
 have hsz : qhs (σ.set a (Sum.inl (vs.set aux w))) = qhs σ := qhs_set hvs rfl
 refine QTri.gen h (by simp) (by show qhs σ ≤ qhs (σ.set a (Sum.inl (vs.set aux w))); rw [hsz]; exact Nat.le_refl _) fun p e R s mid args below meth c T locs cells slots C hcx X hR hF hL hC hn hc1 hsl => ?_
 obtain ⟨hx, hZ, hby, hml, hret, hown, hnm, hfr, hlo⟩ := hcx
 have hd2 : decode c.code pc = .ok (.putfield idx, 3) := by rw [hby]; exact hd
 obtain ⟨E, l1, Fs⟩ := hR.2.2 _ _ hvs
 obtain ⟨old, hold⟩ : ∃ old, vget vs aux = some old := by rw [vget_eq]; exact ⟨_, List.getElem?_eq_getElem b2⟩
 have lay : (Cond.lays cName cName (fNm aux) (fDs aux)).before a0 Z = true ∨ ((Cond.laysFinal cName cName (fNm aux) (fDs aux)).before a0 Z = true ∧ kName (pK m) = cName ∧ meth.name = "<init>") := by
  have q := (qw_lay W) aux hlt
  cases hf : fFin aux with
  | false => rw [hf] at q; exact Or.inl q
  | true =>
   rw [hf] at q r2
   simp at r2
   exact Or.inr ⟨q, by rw [r2.1]; exact kOne, by rw [hnm]; exact r2.2⟩
 obtain ⟨T₁, h₁, X₁, e₁, W₁, st⟩ := putF X hx hZ hown (host := "") (index := idx) (Or.inl (qw_fl W (pK m, idx, aux) hm)) Via.refl rfl (Fs aux old hlt hold) E lay ((qw_inst W)) (fPrs aux hlt) q2 q3 (g := mkF mid pc C (List.map (qv ad) (w :: .ref a :: S'))) rfl rfl hd2
 refine ⟨T₁, _, C, ?_, ?_, Fr.snoc X₁ hF (by rw [Ad.1 a b1]; exact Nat.le_add_right _ _), hL, hC, st⟩
 ·show Stand _ _ _ _ _ _ _ _ _ _ _ _ (cells + ((σ.set a (Sum.inl (vs.set aux w))).length - σ.length)) (slots + (qhs (σ.set a (Sum.inl (vs.set aux w))) - qhs σ))
  rw [hsz, Nat.sub_self, List.length_set, Nat.sub_self]
  exact X₁
 ·rw [e₁]
  refine QRep.set hR Ad W₁ hvs ⟨E.wr W₁, by simpa using l1, fun k u hk hu => ?_⟩
  rw [vget_set b2] at hu
  split at hu
  ·rename_i e; cases hu; rw [e]; exact (Fs aux old hlt hold).same W₁
  ·rename_i ne
   exact (Fs k u hk hu).other W₁ (Or.inr (slot_ne (laid_of W hk) (laid_of W hlt) (fun z => ne (fInj _ hk _ hlt z)) (fPrs _ hk) (fPrs _ hlt)))
theorem tyI_inv {ty : FieldType} (h : tyI ty = true) : ty = .int := by cases ty <;> simp [tyI] at h; rfl
theorem tyB_inv {ty : FieldType} (h : tyB ty = true) : ty = .boolean ∨ ty = .byte := by cases ty <;> simp [tyB] at h <;> simp
set_option maxHeartbeats 4000000 in
theorem QTri.iaload {pc aux : Nat} {L : QLoc} {S : List Value} {σ : QHeap} {st' : QSt} (h : QTri l Z n0 ad m st' v σ') (hc : pCode m pc = some (.iaload, aux)) (hs : qald (pc + 1) L S σ tyI = some st') : QTri l Z n0 ad m (pc, L, S, σ) v σ' := by
 have hd : decode (pBytes m) pc = .ok (.iaload, 1) := pDecN hc rfl
 obtain ⟨j, a, S', ty, xs, w, rfl, hx1, ht, hw, rfl⟩ := qald_inv hs
 obtain rfl := tyI_inv ht
 refine QTri.stack h fun p e R s mid args below meth c T locs cells slots C target hx hZ hby hown X hR hL k => ?_
 have hd2 : decode c.code pc = .ok (.iaload, 1) := by rw [hby]; exact hd
 obtain ⟨cl, A, hsl⟩ := hR.2.2 _ _ hx1
 obtain ⟨i1, i2⟩ := ald_in hsl hw
 exact X.iaload hx A.1 (State.isArrayOf_alike hZ.alike A.2.1) A.2.2 i1 i2 (g := mkF mid pc C (List.map (qv ad) (.int j :: .ref a :: S'))) rfl rfl hd2 _ k
set_option maxHeartbeats 4000000 in
theorem QTri.baload {pc aux : Nat} {L : QLoc} {S : List Value} {σ : QHeap} {st' : QSt} (h : QTri l Z n0 ad m st' v σ') (hc : pCode m pc = some (.baload, aux)) (hs : qald (pc + 1) L S σ tyB = some st') : QTri l Z n0 ad m (pc, L, S, σ) v σ' := by
 have hd : decode (pBytes m) pc = .ok (.baload, 1) := pDecN hc rfl
 obtain ⟨j, a, S', ty, xs, w, rfl, hx1, ht, hw, rfl⟩ := qald_inv hs
 refine QTri.stack h fun p e R s mid args below meth c T locs cells slots C target hx hZ hby hown X hR hL k => ?_
 have hd2 : decode c.code pc = .ok (.baload, 1) := by rw [hby]; exact hd
 obtain ⟨cl, A, hsl⟩ := hR.2.2 _ _ hx1
 obtain ⟨i1, i2⟩ := ald_in hsl hw
 rcases tyB_inv ht with rfl | rfl
 ·exact X.baloadBooleans hx A.1 (State.isArrayOf_alike hZ.alike A.2.1) A.2.2 i1 i2 (g := mkF mid pc C (List.map (qv ad) (.int j :: .ref a :: S'))) rfl rfl hd2 _ k
 ·exact X.baloadBytes hx A.1 (State.isArrayOf_alike hZ.alike A.2.1) A.2.2 i1 i2 (g := mkF mid pc C (List.map (qv ad) (.int j :: .ref a :: S'))) rfl rfl hd2 _ k
set_option maxHeartbeats 4000000 in
theorem QTri.laload {pc aux : Nat} {L : QLoc} {S : List Value} {σ : QHeap} {st' : QSt} (h : QTri l Z n0 ad m st' v σ') (hc : pCode m pc = some (.laload, aux)) (hs : qaldJ (pc + 1) L S σ = some st') : QTri l Z n0 ad m (pc, L, S, σ) v σ' := by
 have hd : decode (pBytes m) pc = .ok (.laload, 1) := pDecN hc rfl
 obtain ⟨j, a, S', xs, w, rfl, hx1, hw, rfl⟩ := qaldJ_inv hs
 refine QTri.stack h fun p e R s mid args below meth c T locs cells slots C target hx hZ hby hown X hR hL k => ?_
 have hd2 : decode c.code pc = .ok (.laload, 1) := by rw [hby]; exact hd
 obtain ⟨cl, A, hsl⟩ := hR.2.2 _ _ hx1
 obtain ⟨i1, i2⟩ := ald_in hsl hw
 exact X.laload hx A.1 (State.isArrayOf_alike hZ.alike A.2.1) A.2.2 i1 i2 (g := mkF mid pc C (List.map (qv ad) (.int j :: .ref a :: S'))) rfl rfl hd2 _ k
theorem QTri.stored (Ad : QAd n0 ad) {pc : Nat} {L : QLoc} {S S' : List Value} {σ : QHeap} {a j : Nat} {w : Value} {c d : QCell} (hx1 : hget σ a = some c) (b1 : k0 ≤ a) (hz : qsz d = qsz c) (h : QTri l Z n0 ad m (pc + 1, L, S', σ.set a d) v σ')
  (hs : ∀ (p : Program) (e : Env) (R : Room) (s : State) (mid : MethodId) (args : Array Value) (below : List Frame) (meth : Method) (c : Code) (T : State) (locs : List Loc) (cells slots : Nat) (C : Array Slot),
   QCx Z p R s mid meth c m → Stand p l e R s mid args below meth c T locs cells slots → QRep Z n0 ad T.heap σ →
   ∃ T' h', Stand p l e R s mid args below meth c T' (locs ++ [⟨ad a, j⟩]) cells slots ∧ T'.heap = h' ∧ Wr T.heap h' (ad a) j w ∧ QCellOk Z ad h' (ad a) d ∧ ∀ target, Steps p.tables e below (T'.setTop (mkF mid (pc + 1) C (S'.map (qv ad)))) target → Steps p.tables e below (T.setTop (mkF mid pc C (S.map (qv ad)))) target) :
  QTri l Z n0 ad m (pc, L, S, σ) v σ' := by
 have hsz : qhs (σ.set a d) = qhs σ := qhs_set hx1 hz
 refine QTri.gen h (by simp) (by show qhs σ ≤ qhs (σ.set a d); rw [hsz]; exact Nat.le_refl _) fun p e R s mid args below meth c T locs cells slots C hcx X hR hF hL hC hn hc1 hsl => ?_
 obtain ⟨T₁, h₁, X₁, e₁, W₁, Q₁, st⟩ := hs p e R s mid args below meth c T locs cells slots C hcx X hR
 refine ⟨T₁, _, C, ?_, ?_, Fr.snoc X₁ hF (by rw [Ad.1 a b1]; exact Nat.le_add_right _ _), hL, hC, st⟩
 ·show Stand _ _ _ _ _ _ _ _ _ _ _ _ (cells + ((σ.set a d).length - σ.length)) (slots + (qhs (σ.set a d) - qhs σ))
  rw [hsz, Nat.sub_self, List.length_set, Nat.sub_self]
  exact X₁
 ·rw [e₁]
  exact QRep.set hR Ad W₁ hx1 Q₁
set_option maxHeartbeats 4000000 in
theorem QTri.iastore (Ad : QAd n0 ad) {pc aux : Nat} {L : QLoc} {S : List Value} {σ : QHeap} {st' : QSt} (h : QTri l Z n0 ad m st' v σ') (hc : pCode m pc = some (.iastore, aux)) (hs : qast (pc + 1) L S σ tyI = some st') : QTri l Z n0 ad m (pc, L, S, σ) v σ' := by
 have hd : decode (pBytes m) pc = .ok (.iastore, 1) := pDecN hc rfl
 obtain ⟨w, j, a, S', ty, xs, ys, rfl, hx1, ht, b1, hw, rfl⟩ := qast_inv hs
 obtain rfl := tyI_inv ht
 refine QTri.stored Ad (j := j.toNatClampNeg) (w := .int w) hx1 b1 (by rw [(aset_inv hw).2.2]; simp [qsz]) h fun p e R s mid args below meth c T locs cells slots C hcx X hR => ?_
 have hd2 : decode c.code pc = .ok (.iastore, 1) := by rw [hcx.2.2.1]; exact hd
 obtain ⟨cl, A, hsl⟩ := hR.2.2 _ _ hx1
 obtain ⟨i1, i2⟩ := ast_in hsl hw
 obtain ⟨T₁, h₁, X₁, e₁, W₁, st⟩ := stI X hcx.1 hcx.2.1 rfl A i1 (g := mkF mid pc C (List.map (qv ad) (.int w :: .int j :: .ref a :: S'))) rfl rfl hd2
 exact ⟨T₁, h₁, X₁, e₁, W₁, ⟨_, A.same W₁, i2⟩, st⟩
set_option maxHeartbeats 4000000 in
theorem QTri.bastore (Ad : QAd n0 ad) {pc aux : Nat} {L : QLoc} {S : List Value} {σ : QHeap} {st' : QSt} (h : QTri l Z n0 ad m st' v σ') (hc : pCode m pc = some (.bastore, aux)) (hs : qast (pc + 1) L S σ tyB = some st') : QTri l Z n0 ad m (pc, L, S, σ) v σ' := by
 have hd : decode (pBytes m) pc = .ok (.bastore, 1) := pDecN hc rfl
 obtain ⟨w, j, a, S', ty, xs, ys, rfl, hx1, ht, b1, hw, rfl⟩ := qast_inv hs
 refine QTri.stored Ad (j := j.toNatClampNeg) (w := .int (qnar ty w)) hx1 b1 (by rw [(aset_inv hw).2.2]; simp [qsz]) h fun p e R s mid args below meth c T locs cells slots C hcx X hR => ?_
 have hd2 : decode c.code pc = .ok (.bastore, 1) := by rw [hcx.2.2.1]; exact hd
 obtain ⟨cl, A, hsl⟩ := hR.2.2 _ _ hx1
 obtain ⟨i1, i2⟩ := ast_in hsl hw
 rcases tyB_inv ht with rfl | rfl
 ·obtain ⟨T₁, h₁, X₁, e₁, W₁, st⟩ := stZ X hcx.1 hcx.2.1 rfl A i1 (g := mkF mid pc C (List.map (qv ad) (.int w :: .int j :: .ref a :: S'))) rfl rfl hd2
  exact ⟨T₁, h₁, X₁, e₁, W₁, ⟨_, A.same W₁, i2⟩, st⟩
 ·obtain ⟨T₁, h₁, X₁, e₁, W₁, st⟩ := stB X hcx.1 hcx.2.1 rfl A i1 (g := mkF mid pc C (List.map (qv ad) (.int w :: .int j :: .ref a :: S'))) rfl rfl hd2
  exact ⟨T₁, h₁, X₁, e₁, W₁, ⟨_, A.same W₁, i2⟩, st⟩
set_option maxHeartbeats 4000000 in
theorem QTri.lastore (Ad : QAd n0 ad) {pc aux : Nat} {L : QLoc} {S : List Value} {σ : QHeap} {st' : QSt} (h : QTri l Z n0 ad m st' v σ') (hc : pCode m pc = some (.lastore, aux)) (hs : qastJ (pc + 1) L S σ = some st') : QTri l Z n0 ad m (pc, L, S, σ) v σ' := by
 have hd : decode (pBytes m) pc = .ok (.lastore, 1) := pDecN hc rfl
 obtain ⟨w, j, a, S', xs, ys, rfl, hx1, b1, hw, rfl⟩ := qastJ_inv hs
 refine QTri.stored Ad (j := j.toNatClampNeg) (w := .long w) hx1 b1 (by rw [(aset_inv hw).2.2]; simp [qsz]) h fun p e R s mid args below meth c T locs cells slots C hcx X hR => ?_
 have hd2 : decode c.code pc = .ok (.lastore, 1) := by rw [hcx.2.2.1]; exact hd
 obtain ⟨cl, A, hsl⟩ := hR.2.2 _ _ hx1
 obtain ⟨i1, i2⟩ := ast_in hsl hw
 obtain ⟨T₁, h₁, X₁, e₁, W₁, st⟩ := stJ X hcx.1 hcx.2.1 rfl A i1 (g := mkF mid pc C (List.map (qv ad) (.long w :: .int j :: .ref a :: S'))) rfl rfl hd2
 exact ⟨T₁, h₁, X₁, e₁, W₁, ⟨_, A.same W₁, i2⟩, st⟩
set_option maxHeartbeats 4000000 in
theorem QTri.alen {pc aux : Nat} {L : QLoc} {S : List Value} {σ : QHeap} {st' : QSt} (h : QTri l Z n0 ad m st' v σ') (hc : pCode m pc = some (.arraylength, aux)) (hs : qlen (pc + 1) L S σ = some st') : QTri l Z n0 ad m (pc, L, S, σ) v σ' := by
 have hd : decode (pBytes m) pc = .ok (.arraylength, 1) := pDecN hc rfl
 obtain ⟨a, S', n, rfl, hx1, rfl⟩ := qlen_inv hs
 refine QTri.stack h fun p e R s mid args below meth c T locs cells slots C target hx hZ hby hown X hR hL k => ?_
 have hd2 : decode c.code pc = .ok (.arraylength, 1) := by rw [hby]; exact hd
 rcases hx1 with ⟨ty, xs, hx1, rfl⟩ | ⟨xs, hx1, rfl⟩
 ·obtain ⟨cl, A, hsl⟩ := hR.2.2 _ _ hx1
  have e1 : cl.slots.size = xs.length := by rw [hsl]; simp
  rw [← e1] at k
  exact X.arraylength hx A.1 (State.isArrayOf_alike hZ.alike A.2.1) (g := mkF mid pc C (List.map (qv ad) (.ref a :: S'))) rfl rfl hd2 _ k
 ·obtain ⟨cl, A, hsl⟩ := hR.2.2 _ _ hx1
  have e1 : cl.slots.size = xs.length := by rw [hsl]; simp
  rw [← e1] at k
  exact X.arraylength hx A.1 (State.isArrayOf_alike hZ.alike A.2.1) (g := mkF mid pc C (List.map (qv ad) (.ref a :: S'))) rfl rfl hd2 _ k
set_option maxHeartbeats 4000000 in
theorem QTri.newObj (Ad : QAd n0 ad) (W : QW Z a0) {pc idx aux : Nat} {L : QLoc} {S : List Value} {σ : QHeap} (h : QTri l Z n0 ad m (pc + 3, L, .ref σ.length :: S, σ ++ [.inl cDef]) v σ') (hc : pCode m pc = some (.new idx, aux)) : QTri l Z n0 ad m (pc, L, S, σ) v σ' := by
 have hd : decode (pBytes m) pc = .ok (.new idx, 3) := pDecN hc rfl
 have hm := mem_of_contains (show lkN.contains (pK m, idx) = true from pRest hc)
 refine QTri.gen h (by simp) (by simp [qhs_app]) fun p e R s mid args below meth c T locs cells slots C hcx X hR hF hL hC hn hc1 hsl => ?_
 obtain ⟨hx, hZ, hby, hml, hret, hown, hnm, hfr, hlo⟩ := hcx
 have hd2 : decode c.code pc = .ok (.new idx, 3) := by rw [hby]; exact hd
 simp only [List.length_append, List.length_singleton, Nat.add_sub_cancel_left, qgrow, qsz] at hc1 hsl ⊢
 obtain ⟨T₁, h₁, X₁, e₁, E₁, A₁, D₁, -, st⟩ := newO X hx hZ hown (index := idx) (qw_nw W (pK m, idx) hm) ((qw_inst W)) ((qw_init W)) rfl (g := mkF mid pc C (S.map (qv ad))) rfl hd2 hc1 hsl
 have hsz : h₁.size = T.heap.size + 1 := by
  have q1 := X₁.heapSize
  have q2 : T.heap.size < h₁.size := A₁.lt
  have q3 : T.heap.size = n0 + (σ.length - k0) := hR.2.1
  rw [e₁] at q1
  have : n0 + (σ.length - k0) = s.heap.size + cells := hn
  omega
 refine ⟨T₁, locs, C, X₁, ?_, hF, hL, hC, fun target q => ?_⟩
 ·rw [e₁]
  refine QRep.push hR Ad E₁ hsz ⟨A₁, cDefL, fun k u hk hu => ?_⟩
  rw [cDefs k hk] at hu
  cases hu
  have e3 : qv ad (defaultValue (fTy k)) = defaultValue (fTy k) := by
   cases hq : defaultValue (fTy k) with
   | ref a => exact absurd hq (fDef k hk a)
   | _ => rfl
  rw [e3]
  exact D₁ (laid_of W hk) (fPrs k hk)
 ·refine st _ ?_
  have e2 : ad σ.length = T.heap.size := by rw [Ad.1 _ hR.1]; exact hR.2.1.symm
  simp only [List.map_cons, qv, e2] at q
  exact q
set_option maxHeartbeats 8000000 in
theorem QTri.step (Ad : QAd n0 ad) (W : QW Z a0) {st st' : QSt} (h : QTri l Z n0 ad m st' v σ') (hs : qstep m st = some st') : QTri l Z n0 ad m st v σ' := by
 obtain ⟨pc, L, S, σ⟩ := st
 unfold qstep at hs
 dsimp only at hs
 split at hs
 rotate_left
 ·cases hs
 rename_i i aux hc
 have hd := pDecN hc rfl
 have hr := pRest hc
 unfold qexec at hs
 split at hs
 ·-- aload_n
  obtain ⟨w, h1, h2, rfl⟩ := qload_inv hs
  obtain ⟨a, rfl⟩ := isR_inv h2
  exact QTri.stack h fun p e R s mid args below meth c T locs cells slots C target hx hZ hby hown X hR hL k => XS.aloadN X.here hx rfl (hb hby hd) (hL.2.1 _ _ h1) rfl k
 ·obtain ⟨w, h1, h2, rfl⟩ := qload_inv hs
  obtain ⟨a, rfl⟩ := isR_inv h2
  exact QTri.stack h fun p e R s mid args below meth c T locs cells slots C target hx hZ hby hown X hR hL k => XS.aload X.here hx rfl (hb hby hd) (hL.2.1 _ _ h1) rfl k
 ·obtain ⟨w, h1, h2, rfl⟩ := qload_inv hs
  obtain ⟨a, rfl⟩ := isI_inv h2
  exact QTri.stack h fun p e R s mid args below meth c T locs cells slots C target hx hZ hby hown X hR hL k => XS.iloadN X.here hx rfl (hb hby hd) (hL.2.1 _ _ h1) k
 ·obtain ⟨w, h1, h2, rfl⟩ := qload_inv hs
  obtain ⟨a, rfl⟩ := isI_inv h2
  exact QTri.stack h fun p e R s mid args below meth c T locs cells slots C target hx hZ hby hown X hR hL k => XS.iload X.here hx rfl (hb hby hd) (hL.2.1 _ _ h1) k
 ·obtain ⟨w, h1, h2, rfl⟩ := qload_inv hs
  obtain ⟨a, rfl⟩ := isJ_inv h2
  exact QTri.stack h fun p e R s mid args below meth c T locs cells slots C target hx hZ hby hown X hR hL k => XT.lloadN X.here hx rfl (hb hby hd) (hL.2.1 _ _ h1) k
 ·obtain ⟨w, h1, h2, rfl⟩ := qload_inv hs
  obtain ⟨a, rfl⟩ := isJ_inv h2
  exact QTri.stack h fun p e R s mid args below meth c T locs cells slots C target hx hZ hby hown X hR hL k => XT.lload X.here hx rfl (hb hby hd) (hL.2.1 _ _ h1) k
 ·cases hs -- iconst
  exact QTri.stack h fun p e R s mid args below meth c T locs cells slots C target hx hZ hby hown X hR hL k => XS.iconst X.here hx rfl (hb hby hd) k
 ·cases hs
  exact QTri.stack h fun p e R s mid args below meth c T locs cells slots C target hx hZ hby hown X hR hL k => XS.bipush X.here hx rfl (hb hby hd) k
 ·cases hs
  exact QTri.stack h fun p e R s mid args below meth c T locs cells slots C target hx hZ hby hown X hR hL k => XS.sipush X.here hx rfl (hb hby hd) k
 ·cases hs
  exact QTri.stack h fun p e R s mid args below meth c T locs cells slots C target hx hZ hby hown X hR hL k => XT.lconst X.here hx rfl (hb hby hd) k
 ·-- ldc
  unfold qldc at hs
  split at hs
  ·rename_i w hw
   cases hs
   obtain ⟨x, hx1, hx2⟩ := qw_cI W (pK m, _, aux) (mem_of_contains (show lkC.contains (pK m, _, aux) = true from hr))
   rw [show vget cK aux = some w from hw] at hx1
   cases hx1
   exact QTri.stack h fun p e R s mid args below meth c T locs cells slots C target hx hZ hby hown X hR hL k => X.ldcI hx hown (mv hZ hx2) rfl (hb hby hd) k
  ·cases hs
 ·unfold qldc at hs
  split at hs
  ·rename_i w hw
   cases hs
   obtain ⟨x, hx1, hx2⟩ := qw_cJ W (pK m, _, aux) (mem_of_contains (show lkD.contains (pK m, _, aux) = true from hr))
   rw [show vget cK aux = some w from hw] at hx1
   cases hx1
   exact QTri.stack h fun p e R s mid args below meth c T locs cells slots C target hx hZ hby hown X hR hL k => X.ldc2J hx hown (mv hZ hx2) rfl (hb hby hd) k
  ·cases hs
 ·-- istore_n
  obtain ⟨w, S', L', rfl, h2, h3, rfl⟩ := qstore_inv hs
  obtain ⟨a, rfl⟩ := isI_inv h2
  exact QTri.frame h fun p e R s mid args below meth c T locs cells slots C hcx X hR hL hC => by
   obtain ⟨D, d1, d2, d3⟩ := store_ok hL h3
   exact ⟨D, d2, d3.trans hC, fun target k => XS.istoreN X.here hcx.1 rfl (hb hcx.2.2.1 hd) rfl d1 k⟩
 ·obtain ⟨w, S', L', rfl, h2, h3, rfl⟩ := qstore_inv hs
  obtain ⟨a, rfl⟩ := isI_inv h2
  exact QTri.frame h fun p e R s mid args below meth c T locs cells slots C hcx X hR hL hC => by
   obtain ⟨D, d1, d2, d3⟩ := store_ok hL h3
   exact ⟨D, d2, d3.trans hC, fun target k => XS.istore X.here hcx.1 rfl (hb hcx.2.2.1 hd) rfl d1 k⟩
 ·obtain ⟨w, S', L', rfl, h2, h3, rfl⟩ := qstore_inv hs
  obtain ⟨a, rfl⟩ := isJ_inv h2
  exact QTri.frame h fun p e R s mid args below meth c T locs cells slots C hcx X hR hL hC => by
   obtain ⟨D, d1, d2, d3⟩ := store_ok hL h3
   exact ⟨D, d2, d3.trans hC, fun target k => XT.lstoreN X.here hcx.1 rfl (hb hcx.2.2.1 hd) rfl d1 k⟩
 ·obtain ⟨w, S', L', rfl, h2, h3, rfl⟩ := qstore_inv hs
  obtain ⟨a, rfl⟩ := isJ_inv h2
  exact QTri.frame h fun p e R s mid args below meth c T locs cells slots C hcx X hR hL hC => by
   obtain ⟨D, d1, d2, d3⟩ := store_ok hL h3
   exact ⟨D, d2, d3.trans hC, fun target k => XT.lstore X.here hcx.1 rfl (hb hcx.2.2.1 hd) rfl d1 k⟩
 ·obtain ⟨w, S', L', rfl, h2, h3, rfl⟩ := qstore_inv hs
  obtain ⟨a, rfl⟩ := isR_inv h2
  exact QTri.frame h fun p e R s mid args below meth c T locs cells slots C hcx X hR hL hC => by
   obtain ⟨D, d1, d2, d3⟩ := store_ok hL h3
   exact ⟨D, d2, d3.trans hC, fun target k => XS.astoreN X.here hcx.1 rfl (hb hcx.2.2.1 hd) rfl rfl d1 k⟩
 ·obtain ⟨w, S', L', rfl, h2, h3, rfl⟩ := qstore_inv hs
  obtain ⟨a, rfl⟩ := isR_inv h2
  exact QTri.frame h fun p e R s mid args below meth c T locs cells slots C hcx X hR hL hC => by
   obtain ⟨D, d1, d2, d3⟩ := store_ok hL h3
   exact ⟨D, d2, d3.trans hC, fun target k => XS.astore X.here hcx.1 rfl (hb hcx.2.2.1 hd) rfl rfl d1 k⟩
 ·-- iinc
  unfold qinc at hs
  split at hs
  ·rename_i x hx1
   split at hs
   ·rename_i L' hL'
    cases hs
    exact QTri.frame h fun p e R s mid args below meth c T locs cells slots C hcx X hR hL hC => by
     obtain ⟨D, d1, d2, d3⟩ := store_ok hL hL'
     exact ⟨D, d2, d3.trans hC, fun target k => XS.iinc X.here hcx.1 rfl (hb hcx.2.2.1 hd) (hL.2.1 _ _ hx1) d1 k⟩
   ·cases hs
  ·cases hs
 ·obtain ⟨x, y, S', rfl, rfl⟩ := qbin_inv hs -- iadd
  exact QTri.stack h fun p e R s mid args below meth c T locs cells slots C target hx hZ hby hown X hR hL k => XS.iadd X.here hx rfl (hb hby hd) rfl k
 ·obtain ⟨x, y, S', rfl, rfl⟩ := qbin_inv hs
  exact QTri.stack h fun p e R s mid args below meth c T locs cells slots C target hx hZ hby hown X hR hL k => XS.isub X.here hx rfl (hb hby hd) rfl k
 ·obtain ⟨x, y, S', rfl, rfl⟩ := qbin_inv hs
  exact QTri.stack h fun p e R s mid args below meth c T locs cells slots C target hx hZ hby hown X hR hL k => XS.imul X.here hx rfl (hb hby hd) rfl k
 ·obtain ⟨x, y, S', rfl, rfl⟩ := qbin_inv hs
  exact QTri.stack h fun p e R s mid args below meth c T locs cells slots C target hx hZ hby hown X hR hL k => XS.iand X.here hx rfl (hb hby hd) rfl k
 ·obtain ⟨x, y, S', rfl, rfl⟩ := qbin_inv hs
  exact QTri.stack h fun p e R s mid args below meth c T locs cells slots C target hx hZ hby hown X hR hL k => XT.ior X.here hx rfl (hb hby hd) rfl k
 ·obtain ⟨x, y, S', rfl, rfl⟩ := qbin_inv hs
  exact QTri.stack h fun p e R s mid args below meth c T locs cells slots C target hx hZ hby hown X hR hL k => XT.ixor X.here hx rfl (hb hby hd) rfl k
 ·obtain ⟨x, y, S', rfl, rfl⟩ := qbin_inv hs
  exact QTri.stack h fun p e R s mid args below meth c T locs cells slots C target hx hZ hby hown X hR hL k => XT.ishl X.here hx rfl (hb hby hd) rfl k
 ·obtain ⟨x, y, S', rfl, rfl⟩ := qbin_inv hs
  exact QTri.stack h fun p e R s mid args below meth c T locs cells slots C target hx hZ hby hown X hR hL k => XT.ishr X.here hx rfl (hb hby hd) rfl k
 ·obtain ⟨x, y, S', rfl, rfl⟩ := qbin_inv hs
  exact QTri.stack h fun p e R s mid args below meth c T locs cells slots C target hx hZ hby hown X hR hL k => XT.iushr X.here hx rfl (hb hby hd) rfl k
 ·obtain ⟨x, y, z, S', rfl, hz, rfl⟩ := qbino_inv hs -- idiv
  unfold qdiv at hz
  split at hz
  ·cases hz
  ·rename_i hy
   cases hz
   exact QTri.stack h fun p e R s mid args below meth c T locs cells slots C target hx hZ hby hown X hR hL k => XS.idiv X.here hx rfl (hb hby hd) rfl hy k
 ·obtain ⟨x, y, z, S', rfl, hz, rfl⟩ := qbino_inv hs
  unfold qrem at hz
  split at hz
  ·cases hz
  ·rename_i hy
   cases hz
   exact QTri.stack h fun p e R s mid args below meth c T locs cells slots C target hx hZ hby hown X hR hL k => iremM X hx rfl (hb hby hd) rfl hy k
 ·obtain ⟨x, S', rfl, rfl⟩ := quni_inv hs -- ineg
  exact QTri.stack h fun p e R s mid args below meth c T locs cells slots C target hx hZ hby hown X hR hL k => XS.ineg X.here hx rfl (hb hby hd) rfl k
 ·obtain ⟨x, S', rfl, rfl⟩ := quni_inv hs
  exact QTri.stack h fun p e R s mid args below meth c T locs cells slots C target hx hZ hby hown X hR hL k => XT.i2l X.here hx rfl (hb hby hd) rfl k
 ·obtain ⟨x, S', rfl, rfl⟩ := quni_inv hs
  exact QTri.stack h fun p e R s mid args below meth c T locs cells slots C target hx hZ hby hown X hR hL k => XT.i2b X.here hx rfl (hb hby hd) rfl k
 ·obtain ⟨x, S', rfl, rfl⟩ := quniJ_inv hs
  exact QTri.stack h fun p e R s mid args below meth c T locs cells slots C target hx hZ hby hown X hR hL k => XT.l2i X.here hx rfl (hb hby hd) rfl k
 ·obtain ⟨x, S', rfl, rfl⟩ := quniJ_inv hs
  exact QTri.stack h fun p e R s mid args below meth c T locs cells slots C target hx hZ hby hown X hR hL k => XT.lneg X.here hx rfl (hb hby hd) rfl k
 ·obtain ⟨x, y, S', rfl, rfl⟩ := qbinJ_inv hs
  exact QTri.stack h fun p e R s mid args below meth c T locs cells slots C target hx hZ hby hown X hR hL k => XT.ladd X.here hx rfl (hb hby hd) rfl k
 ·obtain ⟨x, y, S', rfl, rfl⟩ := qbinJ_inv hs
  exact QTri.stack h fun p e R s mid args below meth c T locs cells slots C target hx hZ hby hown X hR hL k => XT.lsub X.here hx rfl (hb hby hd) rfl k
 ·obtain ⟨x, y, S', rfl, rfl⟩ := qbinJ_inv hs
  exact QTri.stack h fun p e R s mid args below meth c T locs cells slots C target hx hZ hby hown X hR hL k => XT.lmul X.here hx rfl (hb hby hd) rfl k
 ·obtain ⟨x, y, S', rfl, rfl⟩ := qbinJ_inv hs
  exact QTri.stack h fun p e R s mid args below meth c T locs cells slots C target hx hZ hby hown X hR hL k => XT.land X.here hx rfl (hb hby hd) rfl k
 ·obtain ⟨x, y, S', rfl, rfl⟩ := qbinJ_inv hs
  exact QTri.stack h fun p e R s mid args below meth c T locs cells slots C target hx hZ hby hown X hR hL k => XT.lor X.here hx rfl (hb hby hd) rfl k
 ·obtain ⟨x, y, S', rfl, rfl⟩ := qbinJ_inv hs
  exact QTri.stack h fun p e R s mid args below meth c T locs cells slots C target hx hZ hby hown X hR hL k => XT.lxor X.here hx rfl (hb hby hd) rfl k
 ·obtain ⟨x, y, S', rfl, rfl⟩ := qshJ_inv hs
  exact QTri.stack h fun p e R s mid args below meth c T locs cells slots C target hx hZ hby hown X hR hL k => XT.lshl X.here hx rfl (hb hby hd) rfl k
 ·obtain ⟨x, y, S', rfl, rfl⟩ := qshJ_inv hs
  exact QTri.stack h fun p e R s mid args below meth c T locs cells slots C target hx hZ hby hown X hR hL k => XT.lshr X.here hx rfl (hb hby hd) rfl k
 ·obtain ⟨x, y, S', rfl, rfl⟩ := qshJ_inv hs
  exact QTri.stack h fun p e R s mid args below meth c T locs cells slots C target hx hZ hby hown X hR hL k => XT.lushr X.here hx rfl (hb hby hd) rfl k
 ·split at hs -- lcmp
  ·cases hs
   exact QTri.stack h fun p e R s mid args below meth c T locs cells slots C target hx hZ hby hown X hR hL k => XT.lcmp X.here hx rfl (hb hby hd) rfl k
  ·cases hs
 ·cases hs -- goto
  obtain ⟨t1, t2⟩ := qtgt_spec hr
  exact QTri.stack h fun p e R s mid args below meth c T locs cells slots C target hx hZ hby hown X hR hL k => XS.goto X.here hx rfl rfl (hb hby hd) t1 t2 k
 ·obtain ⟨x, S', rfl, rfl⟩ := qif_inv hs
  obtain ⟨t1, t2⟩ := qtgt_spec hr
  cases hh : ifCond.holds _ x with
  | true => rw [hh] at h; exact QTri.stack h fun p e R s mid args below meth c T locs cells slots C target hx hZ hby hown X hR hL k => XS.ifYes X.here hx rfl rfl (hb hby hd) rfl hh t1 t2 k
  | false => rw [hh] at h; exact QTri.stack h fun p e R s mid args below meth c T locs cells slots C target hx hZ hby hown X hR hL k => XS.ifNo X.here hx rfl (hb hby hd) rfl hh k
 ·obtain ⟨x, y, S', rfl, rfl⟩ := qicmp_inv hs
  obtain ⟨t1, t2⟩ := qtgt_spec hr
  cases hh : if_icmp.holds _ x y with
  | true => rw [hh] at h; exact QTri.stack h fun p e R s mid args below meth c T locs cells slots C target hx hZ hby hown X hR hL k => XS.icmpYes X.here hx rfl rfl (hb hby hd) rfl hh t1 t2 k
  | false => rw [hh] at h; exact QTri.stack h fun p e R s mid args below meth c T locs cells slots C target hx hZ hby hown X hR hL k => XS.icmpNo X.here hx rfl (hb hby hd) rfl hh k
 ·unfold qdup at hs
  split at hs
  ·cases hs
   exact QTri.stack h fun p e R s mid args below meth c T locs cells slots C target hx hZ hby hown X hR hL k => XS.dup X.here hx rfl (hb hby hd) rfl rfl k
  ·cases hs
   exact QTri.stack h fun p e R s mid args below meth c T locs cells slots C target hx hZ hby hown X hR hL k => XS.dup X.here hx rfl (hb hby hd) rfl rfl k
  ·cases hs
 ·unfold qdup2 at hs
  split at hs
  ·cases hs
   exact QTri.stack h fun p e R s mid args below meth c T locs cells slots C target hx hZ hby hown X hR hL k => XT.dup2 X.here hx rfl (hb hby hd) rfl rfl rfl k
  ·cases hs
   exact QTri.stack h fun p e R s mid args below meth c T locs cells slots C target hx hZ hby hown X hR hL k => XT.dup2 X.here hx rfl (hb hby hd) rfl rfl rfl k
  ·cases hs
   exact QTri.stack h fun p e R s mid args below meth c T locs cells slots C target hx hZ hby hown X hR hL k => XT.dup2L X.here hx rfl (hb hby hd) rfl k
  ·cases hs
 ·unfold qpop at hs
  split at hs
  ·cases hs
   exact QTri.stack h fun p e R s mid args below meth c T locs cells slots C target hx hZ hby hown X hR hL k => XT.pop X.here hx rfl (hb hby hd) rfl rfl k
  ·cases hs
   exact QTri.stack h fun p e R s mid args below meth c T locs cells slots C target hx hZ hby hown X hR hL k => XT.pop X.here hx rfl (hb hby hd) rfl rfl k
  ·cases hs
 ·exact QTri.getfield W h hc hs
 ·exact QTri.putfield Ad W h hc hs
 ·exact QTri.iaload h hc hs
 ·exact QTri.baload h hc hs
 ·exact QTri.laload h hc hs
 ·exact QTri.iastore Ad h hc hs
 ·exact QTri.bastore Ad h hc hs
 ·exact QTri.lastore Ad h hc hs
 ·exact QTri.alen h hc hs
 ·-- newarray
  unfold qnewA at hs
  split at hs
  ·split at hs
   ·obtain ⟨k, hk, hs⟩ := Option.bind_eq_some_iff.mp hs
    cases hs
    exact QTri.newArr (c := .inr (.inl (.int, List.replicate k 0))) Ad W hk hc (by simp [qsz]) (fun h' a cA A => ⟨_, A, by simp [newA, (qnew_inv hk).2.1]; exact Or.inr rfl⟩) h
   ·obtain ⟨k, hk, hs⟩ := Option.bind_eq_some_iff.mp hs
    cases hs
    exact QTri.newArr (c := .inr (.inl (.boolean, List.replicate k 0))) Ad W hk hc (by simp [qsz]) (fun h' a cA A => ⟨_, A, by simp [newA, (qnew_inv hk).2.1]; exact Or.inr rfl⟩) h
   ·obtain ⟨k, hk, hs⟩ := Option.bind_eq_some_iff.mp hs
    cases hs
    exact QTri.newArr (c := .inr (.inl (.byte, List.replicate k 0))) Ad W hk hc (by simp [qsz]) (fun h' a cA A => ⟨_, A, by simp [newA, (qnew_inv hk).2.1]; exact Or.inr rfl⟩) h
   ·obtain ⟨k, hk, hs⟩ := Option.bind_eq_some_iff.mp hs
    cases hs
    exact QTri.newArr (c := .inr (.inr (List.replicate k 0))) Ad W hk hc (by simp [qsz]) (fun h' a cA A => ⟨_, A, by simp [newA, (qnew_inv hk).2.1]; exact Or.inr rfl⟩) h
   ·cases hs
  ·cases hs
 ·cases hs; exact QTri.newObj Ad W h hc
 ·cases hs
theorem QTri.steps (Ad : QAd n0 ad) (W : QW Z a0) : ∀ (n : Nat) {st st' : QSt}, qsteps m n st = some st' → QTri l Z n0 ad m st' v σ' → QTri l Z n0 ad m st v σ'
 | 0, st, st', h, k => by cases h; exact k
 | n + 1, st, st', h, k => by
  simp only [qsteps] at h
  split at h
  ·rename_i st₁ h1
   exact QTri.step Ad W (QTri.steps Ad W n h k) h1
  ·cases h
def lmask : List Bool → QLoc → QLoc
 | b :: t, x :: u => (bif b then x else none) :: lmask t u
 | _, L => L.map fun _ => none
theorem lmask_len : ∀ (b : List Bool) (L : QLoc), (lmask b L).length = L.length
 | [], L => by simp [lmask]
 | _ :: _, [] => by simp [lmask]
 | _ :: t, _ :: u => by simp [lmask, lmask_len t u]
theorem lmask_get : ∀ (b : List Bool) (L : QLoc) (k : Nat) (v : Value), lget (lmask b L) k = some v → lget L k = some v
 | [], L, k, v, h => by
  simp only [lmask, lget_eq, List.getElem?_map] at h
  cases hq : L[k]? <;> simp [hq] at h
 | _ :: _, [], k, v, h => by simp [lmask, lget] at h
 | b :: t, x :: u, 0, v, h => by
  simp only [lmask, lget] at h ⊢
  cases b
  ·cases h
  ·exact h
 | b :: t, x :: u, k + 1, v, h => by
  simp only [lmask, lget] at h ⊢
  exact lmask_get t u k v h
theorem QTri.mask {pc : Nat} {L : QLoc} {S : List Value} {σ : QHeap} (b : List Bool) (h : QTri l Z n0 ad m (pc, lmask b L, S, σ) v σ') : QTri l Z n0 ad m (pc, L, S, σ) v σ' :=
 QTri.frame h fun p e R s mid args below meth c T locs cells slots C hcx X hR hL hC => ⟨C, ⟨by rw [lmask_len]; exact hL.1, fun k u hk => hL.2.1 k u (lmask_get b L k u hk), hL.2.2⟩, hC, fun target k => k⟩
theorem QTri.ret0 {pc aux : Nat} {L : QLoc} {σ : QHeap} (hc : pCode m pc = some (.return_, aux)) (hr : pRet m = none) : QTri l Z n0 ad m (pc, L, [], σ) none σ :=
 have hd : decode (pBytes m) pc = .ok (.return_, 1) := pDecN hc rfl
 ⟨Nat.le_refl _, Nat.le_refl _, fun p e R s mid args below meth c T locs cells slots C hcx X hR hF hL hC hn hc1 hsl => ⟨T, locs, by simpa using X, hR, hF, fun fs hf => X.returnOut hcx.1 (hcx.2.2.2.2.1.trans hr) (hb hcx.2.2.1 hd) hf⟩⟩
theorem QTri.retI {pc aux : Nat} {L : QLoc} {S : List Value} {σ : QHeap} {x : Int32} (hc : pCode m pc = some (.ireturn, aux)) (hr : pRet m = some .int) : QTri l Z n0 ad m (pc, L, .int x :: S, σ) (some (.int x)) σ :=
 have hd : decode (pBytes m) pc = .ok (.ireturn, 1) := pDecN hc rfl
 ⟨Nat.le_refl _, Nat.le_refl _, fun p e R s mid args below meth c T locs cells slots C hcx X hR hF hL hC hn hc1 hsl => ⟨T, locs, by simpa using X, hR, hF, fun fs hf => Jvm.RoadKit.retI X hcx.1 (hcx.2.2.2.2.1.trans hr) (hb hcx.2.2.1 hd) hf⟩⟩
theorem QTri.retZ {pc aux : Nat} {L : QLoc} {S : List Value} {σ : QHeap} {x : Int32} (hc : pCode m pc = some (.ireturn, aux)) (hr : pRet m = some .boolean) : QTri l Z n0 ad m (pc, L, .int x :: S, σ) (some (.int (x &&& 1))) σ :=
 have hd : decode (pBytes m) pc = .ok (.ireturn, 1) := pDecN hc rfl
 ⟨Nat.le_refl _, Nat.le_refl _, fun p e R s mid args below meth c T locs cells slots C hcx X hR hF hL hC hn hc1 hsl => ⟨T, locs, by simpa using X, hR, hF, fun fs hf => retN X hcx.1 (t := .boolean) (hcx.2.2.2.2.1.trans hr) (by simp) (hb hcx.2.2.1 hd) hf⟩⟩
theorem QTri.retJ {pc aux : Nat} {L : QLoc} {S : List Value} {σ : QHeap} {x : Int64} (hc : pCode m pc = some (.lreturn, aux)) (hr : pRet m = some .long) : QTri l Z n0 ad m (pc, L, .long x :: S, σ) (some (.long x)) σ :=
 have hd : decode (pBytes m) pc = .ok (.lreturn, 1) := pDecN hc rfl
 ⟨Nat.le_refl _, Nat.le_refl _, fun p e R s mid args below meth c T locs cells slots C hcx X hR hF hL hC hn hc1 hsl => ⟨T, locs, by simpa using X, hR, hF, fun fs hf => retOut X hcx.1 (t := .long) (hcx.2.2.2.2.1.trans hr) rfl (Or.inr (Or.inl ⟨rfl, rfl, _, rfl⟩)) (hb hcx.2.2.1 hd) hf⟩⟩
def LOk (ad : Nat → Addr) (L : QLoc) (C : List Slot) : Prop :=
 L.length = C.length ∧ (∀ k v, lget L k = some v → C[k]? = some (.val (qv ad v))) ∧ (∀ k w, C[k]? = some (.val w) → w.category = 2 → C[k + 1]? = some .second) ∧ ∀ k, C[k]? = some .second → ∃ j w, k = j + 1 ∧ C[j]? = some (.val w) ∧ w.category = 2
theorem LOk.base (ad : Nat → Addr) (n : Nat) : LOk ad (List.replicate n none) (List.replicate n .unset) := by
 refine ⟨by simp, fun k u h => ?_, fun k w h => ?_, fun k h => ?_⟩
 ·rw [lget_eq] at h
  rcases Nat.lt_or_ge k n with q | q
  ·simp [List.getElem?_replicate, q] at h
  ·simp [List.getElem?_eq_none, q] at h
 ·rcases Nat.lt_or_ge k n with q | q
  ·simp [List.getElem?_replicate, q] at h
  ·simp [List.getElem?_eq_none, q] at h
 ·rcases Nat.lt_or_ge k n with q | q
  ·simp [List.getElem?_replicate, q] at h
  ·simp [List.getElem?_eq_none, q] at h
theorem LOk.one {L : QLoc} {C : List Slot} (H : LOk ad L C) {u : Value} (hu : u.category = 1) : LOk ad (some u :: L) (.val (qv ad u) :: C) := by
 obtain ⟨h1, h2, h3, h4⟩ := H
 refine ⟨by simp [h1], fun k w h => ?_, fun k w h hw => ?_, fun k h => ?_⟩
 ·cases k with
  | zero => simp only [lget] at h; cases h; simp
  | succ k => simp only [lget] at h; simpa using h2 k w h
 ·cases k with
  | zero => simp at h; rw [← h, qv_cat, hu] at hw; cases hw
  | succ k => simpa using h3 k w (by simpa using h) hw
 ·cases k with
  | zero => simp at h
  | succ k =>
   obtain ⟨j, w, z1, z2, z3⟩ := h4 k (by simpa using h)
   exact ⟨j + 1, w, by omega, by simpa using z2, z3⟩
theorem LOk.two {L : QLoc} {C : List Slot} (H : LOk ad L C) {u : Value} (hu : u.category = 2) : LOk ad (some u :: none :: L) (.val (qv ad u) :: .second :: C) := by
 obtain ⟨h1, h2, h3, h4⟩ := H
 refine ⟨by simp [h1], fun k w h => ?_, fun k w h hw => ?_, fun k h => ?_⟩
 ·rcases k with _ | _ | k
  ·simp only [lget] at h; cases h; simp
  ·simp [lget] at h
  ·simp only [lget] at h; simpa using h2 k w h
 ·rcases k with _ | _ | k
  ·simp
  ·simp at h
  ·simpa using h3 k w (by simpa using h) hw
 ·rcases k with _ | _ | k
  ·simp at h
  ·exact ⟨0, qv ad u, rfl, by simp, by rw [qv_cat]; exact hu⟩
  ·obtain ⟨j, w, z1, z2, z3⟩ := h4 k (by simpa using h)
   exact ⟨j + 2, w, by omega, by simpa using z2, z3⟩
def slotsOf (u : Value) : List Slot := if u.category = 2 then [.val u, .second] else [.val u]
theorem fold_slots : ∀ (as : List Value) (acc : Array Slot), (as.foldl (fun acc v => if v.category = 2 then (acc.push (.val v)).push .second else acc.push (.val v)) acc).toList = acc.toList ++ as.flatMap slotsOf
 | [], acc => by simp
 | u :: t, acc => by
  rw [List.foldl_cons, fold_slots t]
  by_cases hc : u.category = 2 <;> simp [slotsOf, hc]
theorem slots_len : ∀ (as : List Value), (as.flatMap slotsOf).length = (as.map fun v => v.category).sum
 | [] => rfl
 | u :: t => by
  rw [List.flatMap_cons, List.length_append, slots_len t, List.map_cons, List.sum_cons]
  cases u <;> simp [slotsOf, Value.category]
theorem cats_qv (as : List Value) : ((as.map (qv ad)).map fun v => v.category).sum = (as.map fun v => v.category).sum := by
 rw [List.map_map]
 congr 1
 exact List.map_congr_left fun x _ => qv_cat ad x
theorem entry_list : ∀ (as : List Value) (n : Nat), LOk ad ((as.flatMap fun v => match v with | .long x => [some (.long x), none] | .double x => [some (.double x), none] | v => [some v]) ++ List.replicate n none) ((as.map (qv ad)).flatMap slotsOf ++ List.replicate n .unset)
 | [], n => by simpa using LOk.base ad n
 | u :: t, n => by
  have ih := entry_list t n
  cases u with
  | long x => exact LOk.two ih rfl
  | double x => exact LOk.two ih rfl
  | int x => exact LOk.one ih rfl
  | float x => exact LOk.one ih rfl
  | null => exact LOk.one ih rfl
  | ref x => exact LOk.one ih rfl
  | retAddr x => exact LOk.one ih rfl
theorem qentry_ok (as : List Value) (mx : Nat) (h : (as.map fun v => v.category).sum ≤ mx) : QLocOk ad (qentry as mx) (argsToLocals (as.map (qv ad)).toArray mx) ∧ (argsToLocals (as.map (qv ad)).toArray mx).size = mx := by
 have e : (argsToLocals (as.map (qv ad)).toArray mx).toList = (as.map (qv ad)).flatMap slotsOf ++ List.replicate (mx - (as.map fun v => v.category).sum) .unset := by
  unfold argsToLocals
  have q := fold_slots (as.map (qv ad)) #[]
  simp only [List.foldl_toArray', Array.toList_append, Array.toList_replicate]
  have q2 : ((as.map (qv ad)).foldl (fun (acc : Array Slot) (v : Value) => if v.category = 2 then (acc.push (.val v)).push .second else acc.push (.val v)) #[]).size = (as.map fun v => v.category).sum := by
   rw [← Array.length_toList, q]
   simp only [List.nil_append]
   rw [slots_len, cats_qv]
  rw [q, q2]
  simp
 have H := entry_list (ad := ad) as (mx - (as.map fun v => v.category).sum)
 rw [← e] at H
 obtain ⟨h1, h2, h3, h4⟩ := H
 have hs : (argsToLocals (as.map (qv ad)).toArray mx).size = mx := by
  rw [← Array.length_toList, e, List.length_append, slots_len, cats_qv, List.length_replicate]
  omega
 refine ⟨⟨h1.trans Array.length_toList, fun k u hk => ?_, fun k w hk hw => ?_, fun k hk => ?_⟩, hs⟩
 ·have := h2 k u hk; rwa [Array.getElem?_toList] at this
 ·have := h3 k w (by rw [Array.getElem?_toList]; exact hk) hw; rwa [Array.getElem?_toList] at this
 ·obtain ⟨j, w, z1, z2, z3⟩ := h4 k (by rw [Array.getElem?_toList]; exact hk)
  exact ⟨j, w, z1, by rwa [Array.getElem?_toList] at z2, z3⟩
set_option maxHeartbeats 4000000 in
theorem QTri.met {k : Nat} {as : List Value} {σ σ₁ : QHeap} {w : Option Value} {h0 : Heap} (hk : k < pN) (h : QTri l Z n0 ad k (0, qentry as (pMaxL k), [], σ) w σ₁) (hR : QRep Z n0 ad h0 σ) (hlen : (as.map fun v => v.category).sum ≤ pMaxL k) (hret : pRet k = none → w = none) (ws : List Jvm.Cond) {rm : Room}
  (r1 : pFr k ≤ rm.frames) (r2 : pLo k ≤ rm.locals) (r3 : σ₁.length - σ.length ≤ rm.cells) (r4 : qhs σ₁ - qhs σ ≤ rm.slots) :
  MetFree l (pName k) (head1 (Jvm.Cond.code (pName k) (pBytes k) (pMaxL k) (pRet k) :: ws) rm) (fun a U => a = (as.map (qv ad)).toArray ∧ Z.Warmed39 U.vm ∧ U.heap = h0) (fun _ _ _ _ _ => True)
   (fun _ U o U' => ∃ v L, o = .returned v ∧ (v = w.map (qv ad) ∧ QRep Z n0 ad U'.heap σ₁ ∧ Fr n0 L) ∧ FrameEnd U o U' L (σ₁.length - σ.length) (qhs σ₁ - qhs σ)) := by
 refine MetFree.of_bodySF (plainFor_of_name (kPlain _ (pKlt k hk))) hisR ?_
 intro p e s mid args below meth c s₁ Bd hml0 hP hK
 obtain ⟨rfl, hZ, hh⟩ := hP
 have e0 : s₁.heap = h0 := by rw [← hh, Bd.state]; rfl
 obtain ⟨hl1, hl2⟩ := qentry_ok (ad := ad) as (pMaxL k) hlen
 have hX : Stand p l e rm s mid (as.map (qv ad)).toArray below meth c s₁ [] 0 0 := Stand.of_body Bd
 obtain ⟨T', locs', X', R', F', S'⟩ := h.2.2 p e rm s mid _ below meth c s₁ [] 0 0 _ ⟨Bd.exec, hZ, Bd.bytes, hml0, Bd.returns, findClass_of_methodNamed Bd.named, (name_of_methodNamed Bd.named Bd.method).1, r1, r2⟩ hX (by rw [e0]; exact hR) (Fr.nil _) hl1 (hl2.trans hml0.symm) (by rw [hh, Nat.add_zero]; exact hR.2.1.symm) (by rw [Nat.zero_add]; exact r3) (by rw [Nat.zero_add]; exact r4)
 obtain ⟨fs, hr, hrun, hended, hW, hsame⟩ := X'.leave (v := w.map (qv ad)) (fun q => by rw [hret (Bd.returns.symm.trans q)]; rfl)
 refine ⟨_, _, S' fs hr, hrun, hended, _, _, rfl, ⟨rfl, R', F'⟩, ⟨_, rfl⟩, hW, ?_⟩
 simp only [Nat.zero_add] at hsame
 exact hsame
theorem QTri.room {k : Nat} {σ σ₁ : QHeap} {rest : List Value} {R : Room} (hroom : (Nat.ble (pFr k + 1) (pFr m) && Nat.ble ((rest.map fun v => v.category).sum + (pMaxL k + 11) + pLo k) (pLo m)) = true) (hfr : pFr m ≤ R.frames) (hlo : pLo m ≤ R.locals) :
  pFr k + 1 ≤ R.frames ∧ (rest.map fun v => v.category).sum + (pMaxL k + 11) + pLo k ≤ R.locals := by
 obtain ⟨q1, q2⟩ := Bool.and_eq_true_iff.mp hroom
 exact ⟨Nat.le_trans (Nat.le_of_ble_eq_true q1) hfr, Nat.le_trans (Nat.le_of_ble_eq_true q2) hlo⟩
theorem sig_len {k : Nat} (hk : k < pN) {as : List Value} (hna : as.length = pNA k) : ∀ sig, parseMethodDescriptor (pName k).desc = some sig → (as.map (qv ad)).length = sig.parameters.length := fun sig hs => by
 have q := pSig k hk
 rw [show parseMethodDescriptor (pDs k) = some sig from hs] at q
 simp at q
 simp [hna, q]
theorem ret_map (w : Option Value) (rest : List Value) : (w.toList ++ rest).map (qv ad) = (w.map (qv ad)).toList ++ rest.map (qv ad) := by cases w <;> simp
theorem QTri.after {as0 : List Value} {pc : Nat} {L : QLoc} {S rest : List Value} {σ σ₁ : QHeap} {w : Option Value} {k : Nat} (hcal : QTri l Z n0 ad k (0, qentry as0 (pMaxL k), [], σ) w σ₁) (h : QTri l Z n0 ad m (pc + 3, L, w.toList ++ rest, σ₁) v σ')
  (hs : ∀ (p : Program) (e : Env) (R : Room) (s : State) (mid : MethodId) (args : Array Value) (below : List Frame) (meth : Method) (c : Code) (T : State) (locs : List Loc) (cells slots : Nat) (C : Array Slot),
   QCx Z p R s mid meth c m → Stand p l e R s mid args below meth c T locs cells slots → QRep Z n0 ad T.heap σ → C.size = c.maxLocals → cells + (σ₁.length - σ.length) ≤ R.cells → slots + (qhs σ₁ - qhs σ) ≤ R.slots →
   ∃ T₁ Lc, Stand p l e R s mid args below meth c T₁ (locs ++ Lc) (cells + (σ₁.length - σ.length)) (slots + (qhs σ₁ - qhs σ)) ∧ QRep Z n0 ad T₁.heap σ₁ ∧ Fr n0 Lc ∧
    ∀ target, Steps p.tables e below (T₁.setTop (mkF mid (pc + 3) C ((w.map (qv ad)).toList ++ rest.map (qv ad)))) target → Steps p.tables e below (T.setTop (mkF mid pc C (S.map (qv ad)))) target) :
  QTri l Z n0 ad m (pc, L, S, σ) v σ' := by
 refine QTri.gen h hcal.1 hcal.2.1 fun p e R s mid args below meth c T locs cells slots C hcx X hR hF hL hC hn hc1 hsl => ?_
 obtain ⟨T₁, Lc, X₁, R₁, F₁, st⟩ := hs p e R s mid args below meth c T locs cells slots C hcx X hR hC hc1 hsl
 refine ⟨T₁, locs ++ Lc, C, X₁, R₁, hF.app F₁, hL, hC, fun target q => st target ?_⟩
 rw [← ret_map]
 exact q
set_option maxHeartbeats 4000000 in
theorem QTri.callV (W : QW Z a0) {pc idx k a : Nat} {L : QLoc} {S as rest vs : List Value} {σ σ₁ : QHeap} {w : Option Value} (hc : pCode m pc = some (.invokevirtual idx, k)) (hm : (lkV.contains (pK m, idx, k) && mV.contains k) = true) (hcell : hget σ a = some (.inl vs)) (hS : S = as.reverse ++ .ref a :: rest)
  (hna : as.length = pNA k) (hlen : Nat.ble (((Value.ref a :: as).map fun v => v.category).sum) (pMaxL k) = true) (hroom : (Nat.ble (pFr k + 1) (pFr m) && Nat.ble ((rest.map fun v => v.category).sum + (pMaxL k + 11) + pLo k) (pLo m)) = true) (hrb : (w.isNone || (pRet k).isSome) = true)
  (hcal : QTri l Z n0 ad k (0, qentry (.ref a :: as) (pMaxL k), [], σ) w σ₁) (h : QTri l Z n0 ad m (pc + 3, L, w.toList ++ rest, σ₁) v σ') : QTri l Z n0 ad m (pc, L, S, σ) v σ' := by
 have hd : decode (pBytes m) pc = .ok (.invokevirtual idx, 3) := pDecN hc rfl
 subst hS
 obtain ⟨m1, m2⟩ := Bool.and_eq_true_iff.mp hm
 have m1 := mem_of_contains m1
 have m2 := mem_of_contains m2
 have hkA := (mVlt k m2).1
 have hkN := mAlt k hkA
 have hret : pRet k = none → w = none := fun q => by
  rw [q] at hrb
  cases w with
  | none => rfl
  | some w => simp at hrb
 refine QTri.after hcal h fun p e R s mid args below meth c T locs cells slots C hcx X hR hC hc1 hsl => ?_
 obtain ⟨hx, hZ, hby, hml, hret', hown, hnm, hfr, hlo⟩ := hcx
 have hd2 : decode c.code pc = .ok (.invokevirtual idx, 3) := by rw [hby]; exact hd
 obtain ⟨f1, f2⟩ := QTri.room (σ := σ) (σ₁ := σ₁) hroom hfr hlo
 obtain ⟨cq, kq, q1, q2, q3⟩ := isOf hZ rfl (hR.2.2 _ _ hcell).1
 obtain ⟨w1, w2, w3⟩ := (qw_vi W) k m2
 obtain ⟨c1, c2⟩ := (qw_cod W) k hkA
 obtain ⟨_, _, ⟨T₁, L₁, k₁, n₁⟩, -, X₁, ⟨Lc, ⟨rfl, hR1, hF1⟩, l₁, y₁, z₁⟩, st⟩ := X.virtualBack hx (own := kName (pK m)) (index := idx) (y := pName k) (z := pName k) hown (mvT hZ (qw_ml W (pK m, idx, k) m1)) (mvT hZ w1) (notFace_of_selects (args := #[]) (mvT hZ w2)) (mvT hZ w2) (mvT hZ w3) (pOwn _ (pKlt k hkN))
  (backOf (W := (rest.map fun v => v.category).sum) (rm := ⟨pFr k, σ₁.length - σ.length, qhs σ₁ - qhs σ, pLo k⟩) (Q := fun v h L => v = Option.map (qv ad) w ∧ QRep Z n0 ad h σ₁ ∧ Fr n0 L) (QTri.met hkN hcal hR (Nat.le_of_ble_eq_true hlen) hret [] (Nat.le_refl _) (Nat.le_refl _) (Nat.le_refl _) (Nat.le_refl _)) hZ c1 c2 f1 f2) q1 q3 (g := mkF mid pc C (List.map (qv ad) (as.reverse ++ .ref a :: rest))) rfl hC (Steps.refl _) (argsL := as.map (qv ad)) (rest := rest.map (qv ad)) (sig_len hkN hna) (by simp [qv]) (by show 2 * 0 + _ ≤ _; rw [cats_qv]; omega) hd2 (fun _ _ => ⟨rfl, rfl, hc1, hsl⟩)
 dsimp only [Pt.U, Pt.locs, Pt.cells, Pt.slots] at X₁ l₁ y₁ z₁ st hR1
 subst l₁ y₁ z₁
 exact ⟨T₁, Lc, X₁, hR1, hF1, fun target q => st.trans q⟩
set_option maxHeartbeats 4000000 in
theorem QTri.callI (W : QW Z a0) {pc idx k a : Nat} {L : QLoc} {S as rest : List Value} {σ σ₁ : QHeap} (hc : pCode m pc = some (.invokespecial idx, k)) (hm : (lkV.contains (pK m, idx, k) && mI.contains k) = true) (hS : S = as.reverse ++ .ref a :: rest)
  (hna : as.length = pNA k) (hlen : Nat.ble (((Value.ref a :: as).map fun v => v.category).sum) (pMaxL k) = true) (hroom : (Nat.ble (pFr k + 1) (pFr m) && Nat.ble ((rest.map fun v => v.category).sum + (pMaxL k + 11) + pLo k) (pLo m)) = true)
  (hcal : QTri l Z n0 ad k (0, qentry (.ref a :: as) (pMaxL k), [], σ) none σ₁) (h : QTri l Z n0 ad m (pc + 3, L, rest, σ₁) v σ') : QTri l Z n0 ad m (pc, L, S, σ) v σ' := by
 have hd : decode (pBytes m) pc = .ok (.invokespecial idx, 3) := pDecN hc rfl
 subst hS
 obtain ⟨m1, m2⟩ := Bool.and_eq_true_iff.mp hm
 have m1 := mem_of_contains m1
 have m2 := mem_of_contains m2
 obtain ⟨hkA, -, hin, hrt⟩ := mIlt k m2
 have hkN := mAlt k hkA
 refine QTri.after (w := none) hcal h fun p e R s mid args below meth c T locs cells slots C hcx X hR hC hc1 hsl => ?_
 obtain ⟨hx, hZ, hby, hml, hret', hown, hnm, hfr, hlo⟩ := hcx
 have hd2 : decode c.code pc = .ok (.invokespecial idx, 3) := by rw [hby]; exact hd
 obtain ⟨f1, f2⟩ := QTri.room (σ := σ) (σ₁ := σ₁) hroom hfr hlo
 obtain ⟨c1, c2⟩ := (qw_cod W) k hkA
 have c1' := c1
 rw [hrt] at c1'
 obtain ⟨_, _, ⟨T₁, L₁, k₁, n₁⟩, -, X₁, ⟨Lc, ⟨rfl, hR1, hF1⟩, l₁, y₁, z₁⟩, st⟩ := X.specialBack hx (own := kName (pK m)) (index := idx) (y := pName k) hin hown (mvT hZ (qw_ml W (pK m, idx, k) m1)) (mvT hZ ((qw_ini W) k m2)) (mvT hZ c1') (pOwn _ (pKlt k hkN))
  (backOf (W := (rest.map fun v => v.category).sum) (rm := ⟨pFr k, σ₁.length - σ.length, qhs σ₁ - qhs σ, pLo k⟩) (Q := fun v h L => v = Option.map (qv ad) none ∧ QRep Z n0 ad h σ₁ ∧ Fr n0 L) (QTri.met hkN hcal hR (Nat.le_of_ble_eq_true hlen) (fun _ => rfl) [] (Nat.le_refl _) (Nat.le_refl _) (Nat.le_refl _) (Nat.le_refl _)) hZ c1 c2 f1 f2) (g := mkF mid pc C (List.map (qv ad) (as.reverse ++ .ref a :: rest))) rfl hC (Steps.refl _) (a := ad a) (argsL := as.map (qv ad)) (rest := rest.map (qv ad)) (sig_len hkN hna) (by simp [qv]) (by show 2 * 0 + _ ≤ _; rw [cats_qv]; omega) hd2 (fun _ _ => ⟨rfl, rfl, hc1, hsl⟩)
 dsimp only [Pt.U, Pt.locs, Pt.cells, Pt.slots] at X₁ l₁ y₁ z₁ st hR1
 subst l₁ y₁ z₁
 exact ⟨T₁, Lc, X₁, hR1, hF1, fun target q => st.trans q⟩
set_option maxHeartbeats 4000000 in
theorem QTri.callP (W : QW Z a0) {pc idx k a : Nat} {L : QLoc} {S as rest vs : List Value} {σ σ₁ : QHeap} {w : Option Value} (hc : pCode m pc = some (.invokevirtual idx, k)) (hm : (lkV.contains (pK m, idx, k) && mP.contains k) = true) (hcell : hget σ a = some (.inl vs)) (hS : S = as.reverse ++ .ref a :: rest)
  (hna : as.length = pNA k) (hlen : Nat.ble (((Value.ref a :: as).map fun v => v.category).sum) (pMaxL k) = true) (hroom : (Nat.ble (pFr k + 1) (pFr m) && Nat.ble ((rest.map fun v => v.category).sum + (pMaxL k + 11) + pLo k) (pLo m)) = true) (hrb : (w.isNone || (pRet k).isSome) = true)
  (hcal : QTri l Z n0 ad k (0, qentry (.ref a :: as) (pMaxL k), [], σ) w σ₁) (h : QTri l Z n0 ad m (pc + 3, L, w.toList ++ rest, σ₁) v σ') : QTri l Z n0 ad m (pc, L, S, σ) v σ' := by
 have hd : decode (pBytes m) pc = .ok (.invokevirtual idx, 3) := pDecN hc rfl
 subst hS
 obtain ⟨m1, m2⟩ := Bool.and_eq_true_iff.mp hm
 have m1 := mem_of_contains m1
 have m2 := mem_of_contains m2
 obtain ⟨hkA, hk1⟩ := mPlt k m2
 have hkN := mAlt k hkA
 have hret : pRet k = none → w = none := fun q => by
  rw [q] at hrb
  cases w with
  | none => rfl
  | some w => simp at hrb
 refine QTri.after hcal h fun p e R s mid args below meth c T locs cells slots C hcx X hR hC hc1 hsl => ?_
 obtain ⟨hx, hZ, hby, hml, hret', hown, hnm, hfr, hlo⟩ := hcx
 have hd2 : decode c.code pc = .ok (.invokevirtual idx, 3) := by rw [hby]; exact hd
 obtain ⟨f1, f2⟩ := QTri.room (σ := σ) (σ₁ := σ₁) hroom hfr hlo
 obtain ⟨cell, h1, h2⟩ := (hR.2.2 _ _ hcell).1.cell
 obtain ⟨w1, w2⟩ := (qw_pr W) k m2
 obtain ⟨c1, c2⟩ := (qw_cod W) k hkA
 have hpr : s.PrivateAt (pName k) := Cond.privateMethod_at (mvP hZ w2 (args := #[]))
 obtain ⟨cC, kC, i1, i2, i3, i4⟩ := Cond.instantiable_spec (args := #[]) (mvT hZ (qw_inst W))
 have hsel : (Cond.selects (pName k).cls (pName k) (pName k)).before args s = true := selects_self_of_private (c := cC) (k := kC) (by show s.vm.findClass (kName (pK k)) = _; rw [hk1]; exact i1) i2 (by have q := i4.1; cases hq : kC.isInterface with | false => rfl | true => rw [hq] at q; simp at q) hpr (mvT hZ w1) (pOwn _ (pKlt k hkN))
 obtain ⟨_, _, ⟨T₁, L₁, k₁, n₁⟩, -, X₁, ⟨Lc, ⟨rfl, hR1, hF1⟩, l₁, y₁, z₁⟩, st⟩ := X.privateBack hx (own := kName (pK m)) (index := idx) (y := pName k) hown (mvT hZ (qw_ml W (pK m, idx, k) m1)) (mvT hZ w1) hsel hpr (mvT hZ c1) (pOwn _ (pKlt k hkN))
  (backOf (W := (rest.map fun v => v.category).sum) (rm := ⟨pFr k, σ₁.length - σ.length, qhs σ₁ - qhs σ, pLo k⟩) (Q := fun v h L => v = Option.map (qv ad) w ∧ QRep Z n0 ad h σ₁ ∧ Fr n0 L) (QTri.met hkN hcal hR (Nat.le_of_ble_eq_true hlen) hret [] (Nat.le_refl _) (Nat.le_refl _) (Nat.le_refl _) (Nat.le_refl _)) hZ c1 c2 f1 f2) (g := mkF mid pc C (List.map (qv ad) (as.reverse ++ .ref a :: rest))) rfl hC (Steps.refl _) (a := ad a) h1 h2 (argsL := as.map (qv ad)) (rest := rest.map (qv ad)) (sig_len hkN hna) (by simp [qv]) (by show 2 * 0 + _ ≤ _; rw [cats_qv]; omega) hd2 (fun _ _ => ⟨rfl, rfl, hc1, hsl⟩)
 dsimp only [Pt.U, Pt.locs, Pt.cells, Pt.slots] at X₁ l₁ y₁ z₁ st hR1
 subst l₁ y₁ z₁
 exact ⟨T₁, Lc, X₁, hR1, hF1, fun target q => st.trans q⟩
set_option maxHeartbeats 4000000 in
theorem QTri.callS (W : QW Z a0) {pc idx k : Nat} {L : QLoc} {S as rest : List Value} {σ σ₁ : QHeap} {w : Option Value} (hc : pCode m pc = some (.invokestatic idx, k)) (hm : (lkV.contains (pK m, idx, k) && mS.contains k) = true) (hS : S = as.reverse ++ rest)
  (hna : as.length = pNA k) (hlen : Nat.ble ((as.map fun v => v.category).sum) (pMaxL k) = true) (hroom : (Nat.ble (pFr k + 1) (pFr m) && Nat.ble ((rest.map fun v => v.category).sum + (pMaxL k + 11) + pLo k) (pLo m)) = true) (hrb : (w.isNone || (pRet k).isSome) = true)
  (hcal : QTri l Z n0 ad k (0, qentry as (pMaxL k), [], σ) w σ₁) (h : QTri l Z n0 ad m (pc + 3, L, w.toList ++ rest, σ₁) v σ') : QTri l Z n0 ad m (pc, L, S, σ) v σ' := by
 have hd : decode (pBytes m) pc = .ok (.invokestatic idx, 3) := pDecN hc rfl
 subst hS
 obtain ⟨m1, m2⟩ := Bool.and_eq_true_iff.mp hm
 have m1 := mem_of_contains m1
 have m2 := mem_of_contains m2
 have hkA := mSlt k m2
 have hkN := mAlt k hkA
 have hret : pRet k = none → w = none := fun q => by
  rw [q] at hrb
  cases w with
  | none => rfl
  | some w => simp at hrb
 refine QTri.after hcal h fun p e R s mid args below meth c T locs cells slots C hcx X hR hC hc1 hsl => ?_
 obtain ⟨hx, hZ, hby, hml, hret', hown, hnm, hfr, hlo⟩ := hcx
 have hd2 : decode c.code pc = .ok (.invokestatic idx, 3) := by rw [hby]; exact hd
 obtain ⟨f1, f2⟩ := QTri.room (σ := σ) (σ₁ := σ₁) hroom hfr hlo
 obtain ⟨c1, c2⟩ := (qw_cod W) k hkA
 obtain ⟨_, _, ⟨T₁, L₁, k₁, n₁⟩, -, X₁, ⟨Lc, ⟨rfl, hR1, hF1⟩, l₁, y₁, z₁⟩, st⟩ := Jvm.LawKit.callS X hx (own := kName (pK m)) (index := idx) (y := pName k) hown (mvT hZ (qw_ml W (pK m, idx, k) m1)) (mvT hZ ((qw_st W) k m2)) (mvT hZ c2) (mvT hZ c1) (pOwn _ (pKlt k hkN))
  (backOf (W := (rest.map fun v => v.category).sum) (rm := ⟨pFr k, σ₁.length - σ.length, qhs σ₁ - qhs σ, pLo k⟩) (Q := fun v h L => v = Option.map (qv ad) w ∧ QRep Z n0 ad h σ₁ ∧ Fr n0 L) (QTri.met hkN hcal hR (Nat.le_of_ble_eq_true hlen) hret [] (Nat.le_refl _) (Nat.le_refl _) (Nat.le_refl _) (Nat.le_refl _)) hZ c1 c2 f1 f2) (g := mkF mid pc C (List.map (qv ad) (as.reverse ++ rest))) rfl hC (argsL := as.map (qv ad)) (rest := rest.map (qv ad)) (sig_len hkN hna) (by simp) (by show 2 * 0 + _ ≤ _; rw [cats_qv]; omega) hd2 (fun _ _ => ⟨rfl, rfl, hc1, hsl⟩)
 dsimp only [Pt.U, Pt.locs, Pt.cells, Pt.slots] at X₁ l₁ y₁ z₁ st hR1
 subst l₁ y₁ z₁
 exact ⟨T₁, Lc, X₁, hR1, hF1, fun target q => st target q⟩
set_option maxHeartbeats 4000000 in
theorem QTri.callO (W : QW Z a0) {pc idx k a : Nat} {L : QLoc} {rest : List Value} {σ : QHeap} (hc : pCode m pc = some (.invokespecial idx, k)) (hm : lkO.contains (pK m, idx) = true) (hroom : (Nat.ble 1 (pFr m) && Nat.ble ((rest.map fun v => v.category).sum + 12) (pLo m)) = true)
  (h : QTri l Z n0 ad m (pc + 3, L, rest, σ) v σ') : QTri l Z n0 ad m (pc, L, .ref a :: rest, σ) v σ' :=
 have hd : decode (pBytes m) pc = .ok (.invokespecial idx, 3) := pDecN hc rfl
 QTri.pure h rfl fun p e R s mid args below meth c T locs cells slots C hcx X hR hL hC => by
  obtain ⟨hx, hZ, hby, hml, hret', hown, hnm, hfr, hlo⟩ := hcx
  have hd2 : decode c.code pc = .ok (.invokespecial idx, 3) := by rw [hby]; exact hd
  obtain ⟨q1, q2⟩ := Bool.and_eq_true_iff.mp hroom
  obtain ⟨T₁, X₁, e₁, st⟩ := initO X hx hZ hown (idx := idx) (qw_mo W (pK m, idx) (mem_of_contains hm)) ((qw_oi W)) ((qw_oc W)) rfl (g := mkF mid pc C (List.map (qv ad) (.ref a :: rest))) rfl hC rfl hd2 (Nat.le_trans (Nat.le_of_ble_eq_true q1) hfr) (W := (rest.map fun v => v.category).sum) (by show 2 * 0 + _ ≤ _; rw [cats_qv]; omega) (Nat.le_trans (Nat.le_of_ble_eq_true q2) hlo)
  exact ⟨T₁, C, X₁, e₁, hL, hC, st⟩
theorem QTri.brT (Ad : QAd n0 ad) (W : QW Z a0) {st : QSt} {t f : Nat} {L : QLoc} {S : List Value} {σ : QHeap} {b : Bool} (hs : qstep m st = some (bif b then t else f, L, S, σ)) (hb : b = true) (h : QTri l Z n0 ad m (t, L, S, σ) v σ') : QTri l Z n0 ad m st v σ' := by
 subst hb; exact QTri.step Ad W h hs
theorem QTri.brF (Ad : QAd n0 ad) (W : QW Z a0) {st : QSt} {t f : Nat} {L : QLoc} {S : List Value} {σ : QHeap} {b : Bool} (hs : qstep m st = some (bif b then t else f, L, S, σ)) (hb : b = false) (h : QTri l Z n0 ad m (f, L, S, σ) v σ') : QTri l Z n0 ad m st v σ' := by
 subst hb; exact QTri.step Ad W h hs
theorem QTri.bnd {α : Type} (Ad : QAd n0 ad) (W : QW Z a0) {st : QSt} {x : Option α} {f : α → QSt} {a : α} (hs : qstep m st = x.bind fun v => some (f v)) (hx : x = some a) (h : QTri l Z n0 ad m (f a) v σ') : QTri l Z n0 ad m st v σ' :=
 QTri.step Ad W h (by rw [hs, hx]; rfl)
theorem QTri.bndB (Ad : QAd n0 ad) (W : QW Z a0) {st : QSt} {x y : Int32} {g : Value → QSt} (hs : qstep m st = ((qboo x).bind fun y => some (Value.int y)).bind fun w => some (g w)) (hx : qboo x = some y) (h : QTri l Z n0 ad m (g (.int y)) v σ') : QTri l Z n0 ad m st v σ' :=
 QTri.step Ad W h (by rw [hs, hx]; rfl)
end Triples
theorem qite {α : Type} {c : Prop} [Decidable c] {a b : Option α} {r : α} (h : (if c then a else b) = some r) : (c ∧ a = some r) ∨ (¬ c ∧ b = some r) := by
 by_cases hc : c
 ·exact Or.inl ⟨hc, by rwa [if_pos hc] at h⟩
 ·exact Or.inr ⟨hc, by rwa [if_neg hc] at h⟩
def qN : Nat := 4000
def loopN {V E : Type} (B : V → Option (E ⊕ V)) : Nat → V → Option E
 | 0, _ => none
 | n + 1, v => match B v with
  | none => none
  | some (.inl e) => some e
  | some (.inr v') => loopN B n v'
theorem loopN_tri {V E : Type} {B : V → Option (E ⊕ V)} {T : V → Prop} {KE : E → Prop} (hB : ∀ v r, B v = some r → (∀ e, r = .inl e → KE e) → (∀ v', r = .inr v' → T v') → T v) : ∀ (n : Nat) (v : V) (e : E), loopN B n v = some e → KE e → T v
 | 0, _, _, h, _ => by cases h
 | n + 1, v, e, h, k => by
  simp only [loopN] at h
  split at h
  ·cases h
  ·rename_i e' he
   cases h
   exact hB v _ he (fun e q => by cases q; exact k) (fun v' q => by cases q)
  ·rename_i v' he
   exact hB v _ he (fun e q => by cases q) (fun v'' q => by cases q; exact loopN_tri hB n v' e h k)
theorem loopN_inv {V E : Type} {B : V → Option (E ⊕ V)} (I : V → Prop) (P : E → Prop) (μ : V → Nat) (hB : ∀ v, I v → (∃ e, B v = some (.inl e) ∧ P e) ∨ ∃ v', B v = some (.inr v') ∧ I v' ∧ μ v' < μ v) : ∀ (n : Nat) (v : V), I v → μ v < n → ∃ e, loopN B n v = some e ∧ P e
 | 0, _, _, h => absurd h (Nat.not_lt_zero _)
 | n + 1, v, hv, hm => by
  rcases hB v hv with ⟨e, h1, h2⟩ | ⟨v', h1, h2, h3⟩
  ·exact ⟨e, by simp only [loopN, h1], h2⟩
  ·obtain ⟨e, g1, g2⟩ := loopN_inv I P μ hB n v' h2 (by omega)
   exact ⟨e, by simp only [loopN, h1]; exact g1, g2⟩
theorem qfn {α : Type} {P : α → Prop} : ∀ t ∈ ([] : List α), P t := fun _ h => nomatch h
theorem qfc {α : Type} {P : α → Prop} {a : α} {t : List α} (h : P a) (ht : ∀ x ∈ t, P x) : ∀ x ∈ a :: t, P x := fun x hx => by rcases List.mem_cons.mp hx with rfl | q; exact h; exact ht x q
theorem QW_ok {Z : State} {a0 : Array Value} (hw : ∀ d ∈ tables_1, d.before a0 Z = true) : QW Z a0 := by
  have w0 : ∀ k ∈ List.range nF, bif fFin k then (Jvm.Cond.laysFinal cName cName (fNm k) (fDs k)).before a0 Z = true else (Jvm.Cond.lays cName cName (fNm k) (fDs k)).before a0 Z = true :=
    show ∀ k ∈ [0, 1, 2, 3, 4, 5, 6, 7, 8, 9, 10, 11, 12, 13, 14, 15, 16, 17], bif fFin k then (Jvm.Cond.laysFinal cName cName (fNm k) (fDs k)).before a0 Z = true else (Jvm.Cond.lays cName cName (fNm k) (fDs k)).before a0 Z = true from
    (qfc (hw _ (List.mem_of_getElem? (i := 10) rfl)) (qfc (hw _ (List.mem_of_getElem? (i := 12) rfl)) (qfc (hw _ (List.mem_of_getElem? (i := 14) rfl)) (qfc (hw _ (List.mem_of_getElem? (i := 16) rfl)) (qfc (hw _ (List.mem_of_getElem? (i := 18) rfl)) (qfc (hw _ (List.mem_of_getElem? (i := 20) rfl)) (qfc (hw _ (List.mem_of_getElem? (i := 23) rfl)) (qfc (hw _ (List.mem_of_getElem? (i := 25) rfl)) (qfc (hw _ (List.mem_of_getElem? (i := 27) rfl)) (qfc (hw _ (List.mem_of_getElem? (i := 29) rfl)) (qfc (hw _ (List.mem_of_getElem? (i := 31) rfl)) (qfc (hw _ (List.mem_of_getElem? (i := 33) rfl)) (qfc (hw _ (List.mem_of_getElem? (i := 35) rfl)) (qfc (hw _ (List.mem_of_getElem? (i := 37) rfl)) (qfc (hw _ (List.mem_of_getElem? (i := 39) rfl)) (qfc (hw _ (List.mem_of_getElem? (i := 41) rfl)) (qfc (hw _ (List.mem_of_getElem? (i := 43) rfl)) (qfc (hw _ (List.mem_of_getElem? (i := 45) rfl)) qfn))))))))))))))))))
  refine ⟨?_, ?_, ?_, ?_, ?_, ?_, ?_, ?_, ?_, ?_, ?_, ?_, ?_, (fun k hk => w0 k (List.mem_range.mpr hk)), ?_, ?_, ?_⟩
  · exact (qfc (hw _ (List.mem_of_getElem? (i := 9) rfl)) (qfc (hw _ (List.mem_of_getElem? (i := 11) rfl)) (qfc (hw _ (List.mem_of_getElem? (i := 13) rfl)) (qfc (hw _ (List.mem_of_getElem? (i := 15) rfl)) (qfc (hw _ (List.mem_of_getElem? (i := 17) rfl)) (qfc (hw _ (List.mem_of_getElem? (i := 19) rfl)) (qfc (hw _ (List.mem_of_getElem? (i := 22) rfl)) (qfc (hw _ (List.mem_of_getElem? (i := 24) rfl)) (qfc (hw _ (List.mem_of_getElem? (i := 26) rfl)) (qfc (hw _ (List.mem_of_getElem? (i := 28) rfl)) (qfc (hw _ (List.mem_of_getElem? (i := 30) rfl)) (qfc (hw _ (List.mem_of_getElem? (i := 32) rfl)) (qfc (hw _ (List.mem_of_getElem? (i := 34) rfl)) (qfc (hw _ (List.mem_of_getElem? (i := 36) rfl)) (qfc (hw _ (List.mem_of_getElem? (i := 38) rfl)) (qfc (hw _ (List.mem_of_getElem? (i := 40) rfl)) (qfc (hw _ (List.mem_of_getElem? (i := 42) rfl)) (qfc (hw _ (List.mem_of_getElem? (i := 44) rfl)) qfn))))))))))))))))))
  · exact (qfc (hw _ (List.mem_of_getElem? (i := 0) rfl)) qfn)
  · exact (qfc ⟨_, rfl, (hw _ (List.mem_of_getElem? (i := 131) rfl))⟩ qfn)
  · exact qfn
  · exact (qfc (hw _ (List.mem_of_getElem? (i := 3) rfl)) (qfc (hw _ (List.mem_of_getElem? (i := 46) rfl)) (qfc (hw _ (List.mem_of_getElem? (i := 50) rfl)) (qfc (hw _ (List.mem_of_getElem? (i := 54) rfl)) (qfc (hw _ (List.mem_of_getElem? (i := 58) rfl)) (qfc (hw _ (List.mem_of_getElem? (i := 62) rfl)) (qfc (hw _ (List.mem_of_getElem? (i := 66) rfl)) (qfc (hw _ (List.mem_of_getElem? (i := 70) rfl)) (qfc (hw _ (List.mem_of_getElem? (i := 74) rfl)) (qfc (hw _ (List.mem_of_getElem? (i := 79) rfl)) (qfc (hw _ (List.mem_of_getElem? (i := 84) rfl)) (qfc (hw _ (List.mem_of_getElem? (i := 89) rfl)) (qfc (hw _ (List.mem_of_getElem? (i := 92) rfl)) (qfc (hw _ (List.mem_of_getElem? (i := 97) rfl)) (qfc (hw _ (List.mem_of_getElem? (i := 101) rfl)) (qfc (hw _ (List.mem_of_getElem? (i := 106) rfl)) (qfc (hw _ (List.mem_of_getElem? (i := 111) rfl)) (qfc (hw _ (List.mem_of_getElem? (i := 116) rfl)) (qfc (hw _ (List.mem_of_getElem? (i := 121) rfl)) (qfc (hw _ (List.mem_of_getElem? (i := 126) rfl)) (qfc (hw _ (List.mem_of_getElem? (i := 132) rfl)) (qfc (hw _ (List.mem_of_getElem? (i := 137) rfl)) (qfc (hw _ (List.mem_of_getElem? (i := 142) rfl)) (qfc (hw _ (List.mem_of_getElem? (i := 146) rfl)) (qfc (hw _ (List.mem_of_getElem? (i := 150) rfl)) (qfc (hw _ (List.mem_of_getElem? (i := 153) rfl)) (qfc (hw _ (List.mem_of_getElem? (i := 157) rfl)) (qfc (hw _ (List.mem_of_getElem? (i := 161) rfl)) (qfc (hw _ (List.mem_of_getElem? (i := 165) rfl)) (qfc (hw _ (List.mem_of_getElem? (i := 169) rfl)) (qfc (hw _ (List.mem_of_getElem? (i := 173) rfl)) (qfc (hw _ (List.mem_of_getElem? (i := 177) rfl)) (qfc (hw _ (List.mem_of_getElem? (i := 181) rfl)) (qfc (hw _ (List.mem_of_getElem? (i := 185) rfl)) (qfc (hw _ (List.mem_of_getElem? (i := 189) rfl)) (qfc (hw _ (List.mem_of_getElem? (i := 193) rfl)) (qfc (hw _ (List.mem_of_getElem? (i := 197) rfl)) (qfc (hw _ (List.mem_of_getElem? (i := 201) rfl)) (qfc (hw _ (List.mem_of_getElem? (i := 205) rfl)) qfn)))))))))))))))))))))))))))))))))))))))
  · exact (qfc (hw _ (List.mem_of_getElem? (i := 6) rfl)) qfn)
  · exact (qfc ⟨(hw _ (List.mem_of_getElem? (i := 75) rfl)), (hw _ (List.mem_of_getElem? (i := 77) rfl)), (hw _ (List.mem_of_getElem? (i := 76) rfl))⟩ (qfc ⟨(hw _ (List.mem_of_getElem? (i := 80) rfl)), (hw _ (List.mem_of_getElem? (i := 82) rfl)), (hw _ (List.mem_of_getElem? (i := 81) rfl))⟩ (qfc ⟨(hw _ (List.mem_of_getElem? (i := 85) rfl)), (hw _ (List.mem_of_getElem? (i := 87) rfl)), (hw _ (List.mem_of_getElem? (i := 86) rfl))⟩ (qfc ⟨(hw _ (List.mem_of_getElem? (i := 93) rfl)), (hw _ (List.mem_of_getElem? (i := 95) rfl)), (hw _ (List.mem_of_getElem? (i := 94) rfl))⟩ (qfc ⟨(hw _ (List.mem_of_getElem? (i := 102) rfl)), (hw _ (List.mem_of_getElem? (i := 104) rfl)), (hw _ (List.mem_of_getElem? (i := 103) rfl))⟩ (qfc ⟨(hw _ (List.mem_of_getElem? (i := 107) rfl)), (hw _ (List.mem_of_getElem? (i := 109) rfl)), (hw _ (List.mem_of_getElem? (i := 108) rfl))⟩ (qfc ⟨(hw _ (List.mem_of_getElem? (i := 112) rfl)), (hw _ (List.mem_of_getElem? (i := 114) rfl)), (hw _ (List.mem_of_getElem? (i := 113) rfl))⟩ (qfc ⟨(hw _ (List.mem_of_getElem? (i := 117) rfl)), (hw _ (List.mem_of_getElem? (i := 119) rfl)), (hw _ (List.mem_of_getElem? (i := 118) rfl))⟩ (qfc ⟨(hw _ (List.mem_of_getElem? (i := 122) rfl)), (hw _ (List.mem_of_getElem? (i := 124) rfl)), (hw _ (List.mem_of_getElem? (i := 123) rfl))⟩ (qfc ⟨(hw _ (List.mem_of_getElem? (i := 127) rfl)), (hw _ (List.mem_of_getElem? (i := 129) rfl)), (hw _ (List.mem_of_getElem? (i := 128) rfl))⟩ (qfc ⟨(hw _ (List.mem_of_getElem? (i := 133) rfl)), (hw _ (List.mem_of_getElem? (i := 135) rfl)), (hw _ (List.mem_of_getElem? (i := 134) rfl))⟩ (qfc ⟨(hw _ (List.mem_of_getElem? (i := 138) rfl)), (hw _ (List.mem_of_getElem? (i := 140) rfl)), (hw _ (List.mem_of_getElem? (i := 139) rfl))⟩ qfn))))))))))))
  · exact (qfc ⟨(hw _ (List.mem_of_getElem? (i := 47) rfl)), (hw _ (List.mem_of_getElem? (i := 48) rfl))⟩ (qfc ⟨(hw _ (List.mem_of_getElem? (i := 51) rfl)), (hw _ (List.mem_of_getElem? (i := 52) rfl))⟩ (qfc ⟨(hw _ (List.mem_of_getElem? (i := 55) rfl)), (hw _ (List.mem_of_getElem? (i := 56) rfl))⟩ (qfc ⟨(hw _ (List.mem_of_getElem? (i := 59) rfl)), (hw _ (List.mem_of_getElem? (i := 60) rfl))⟩ (qfc ⟨(hw _ (List.mem_of_getElem? (i := 63) rfl)), (hw _ (List.mem_of_getElem? (i := 64) rfl))⟩ (qfc ⟨(hw _ (List.mem_of_getElem? (i := 67) rfl)), (hw _ (List.mem_of_getElem? (i := 68) rfl))⟩ (qfc ⟨(hw _ (List.mem_of_getElem? (i := 98) rfl)), (hw _ (List.mem_of_getElem? (i := 99) rfl))⟩ (qfc ⟨(hw _ (List.mem_of_getElem? (i := 143) rfl)), (hw _ (List.mem_of_getElem? (i := 144) rfl))⟩ (qfc ⟨(hw _ (List.mem_of_getElem? (i := 147) rfl)), (hw _ (List.mem_of_getElem? (i := 148) rfl))⟩ (qfc ⟨(hw _ (List.mem_of_getElem? (i := 154) rfl)), (hw _ (List.mem_of_getElem? (i := 155) rfl))⟩ (qfc ⟨(hw _ (List.mem_of_getElem? (i := 158) rfl)), (hw _ (List.mem_of_getElem? (i := 159) rfl))⟩ (qfc ⟨(hw _ (List.mem_of_getElem? (i := 162) rfl)), (hw _ (List.mem_of_getElem? (i := 163) rfl))⟩ (qfc ⟨(hw _ (List.mem_of_getElem? (i := 166) rfl)), (hw _ (List.mem_of_getElem? (i := 167) rfl))⟩ (qfc ⟨(hw _ (List.mem_of_getElem? (i := 170) rfl)), (hw _ (List.mem_of_getElem? (i := 171) rfl))⟩ (qfc ⟨(hw _ (List.mem_of_getElem? (i := 174) rfl)), (hw _ (List.mem_of_getElem? (i := 175) rfl))⟩ (qfc ⟨(hw _ (List.mem_of_getElem? (i := 178) rfl)), (hw _ (List.mem_of_getElem? (i := 179) rfl))⟩ (qfc ⟨(hw _ (List.mem_of_getElem? (i := 182) rfl)), (hw _ (List.mem_of_getElem? (i := 183) rfl))⟩ (qfc ⟨(hw _ (List.mem_of_getElem? (i := 186) rfl)), (hw _ (List.mem_of_getElem? (i := 187) rfl))⟩ (qfc ⟨(hw _ (List.mem_of_getElem? (i := 190) rfl)), (hw _ (List.mem_of_getElem? (i := 191) rfl))⟩ (qfc ⟨(hw _ (List.mem_of_getElem? (i := 194) rfl)), (hw _ (List.mem_of_getElem? (i := 195) rfl))⟩ (qfc ⟨(hw _ (List.mem_of_getElem? (i := 198) rfl)), (hw _ (List.mem_of_getElem? (i := 199) rfl))⟩ (qfc ⟨(hw _ (List.mem_of_getElem? (i := 202) rfl)), (hw _ (List.mem_of_getElem? (i := 203) rfl))⟩ (qfc ⟨(hw _ (List.mem_of_getElem? (i := 206) rfl)), (hw _ (List.mem_of_getElem? (i := 207) rfl))⟩ qfn)))))))))))))))))))))))
  · exact (qfc (hw _ (List.mem_of_getElem? (i := 71) rfl)) (qfc (hw _ (List.mem_of_getElem? (i := 90) rfl)) (qfc (hw _ (List.mem_of_getElem? (i := 151) rfl)) qfn)))
  · exact (qfc (hw _ (List.mem_of_getElem? (i := 4) rfl)) qfn)
  · exact (qfc ⟨(hw _ (List.mem_of_getElem? (i := 5) rfl)), (hw _ (List.mem_of_getElem? (i := 2) rfl))⟩ (qfc ⟨(hw _ (List.mem_of_getElem? (i := 49) rfl)), (hw _ (List.mem_of_getElem? (i := 2) rfl))⟩ (qfc ⟨(hw _ (List.mem_of_getElem? (i := 53) rfl)), (hw _ (List.mem_of_getElem? (i := 2) rfl))⟩ (qfc ⟨(hw _ (List.mem_of_getElem? (i := 57) rfl)), (hw _ (List.mem_of_getElem? (i := 2) rfl))⟩ (qfc ⟨(hw _ (List.mem_of_getElem? (i := 61) rfl)), (hw _ (List.mem_of_getElem? (i := 2) rfl))⟩ (qfc ⟨(hw _ (List.mem_of_getElem? (i := 65) rfl)), (hw _ (List.mem_of_getElem? (i := 2) rfl))⟩ (qfc ⟨(hw _ (List.mem_of_getElem? (i := 69) rfl)), (hw _ (List.mem_of_getElem? (i := 2) rfl))⟩ (qfc ⟨(hw _ (List.mem_of_getElem? (i := 73) rfl)), (hw _ (List.mem_of_getElem? (i := 72) rfl))⟩ (qfc ⟨(hw _ (List.mem_of_getElem? (i := 78) rfl)), (hw _ (List.mem_of_getElem? (i := 2) rfl))⟩ (qfc ⟨(hw _ (List.mem_of_getElem? (i := 83) rfl)), (hw _ (List.mem_of_getElem? (i := 2) rfl))⟩ (qfc ⟨(hw _ (List.mem_of_getElem? (i := 88) rfl)), (hw _ (List.mem_of_getElem? (i := 2) rfl))⟩ (qfc ⟨(hw _ (List.mem_of_getElem? (i := 91) rfl)), (hw _ (List.mem_of_getElem? (i := 72) rfl))⟩ (qfc ⟨(hw _ (List.mem_of_getElem? (i := 96) rfl)), (hw _ (List.mem_of_getElem? (i := 2) rfl))⟩ (qfc ⟨(hw _ (List.mem_of_getElem? (i := 100) rfl)), (hw _ (List.mem_of_getElem? (i := 2) rfl))⟩ (qfc ⟨(hw _ (List.mem_of_getElem? (i := 105) rfl)), (hw _ (List.mem_of_getElem? (i := 2) rfl))⟩ (qfc ⟨(hw _ (List.mem_of_getElem? (i := 110) rfl)), (hw _ (List.mem_of_getElem? (i := 2) rfl))⟩ (qfc ⟨(hw _ (List.mem_of_getElem? (i := 115) rfl)), (hw _ (List.mem_of_getElem? (i := 2) rfl))⟩ (qfc ⟨(hw _ (List.mem_of_getElem? (i := 120) rfl)), (hw _ (List.mem_of_getElem? (i := 2) rfl))⟩ (qfc ⟨(hw _ (List.mem_of_getElem? (i := 125) rfl)), (hw _ (List.mem_of_getElem? (i := 2) rfl))⟩ (qfc ⟨(hw _ (List.mem_of_getElem? (i := 130) rfl)), (hw _ (List.mem_of_getElem? (i := 2) rfl))⟩ (qfc ⟨(hw _ (List.mem_of_getElem? (i := 136) rfl)), (hw _ (List.mem_of_getElem? (i := 2) rfl))⟩ (qfc ⟨(hw _ (List.mem_of_getElem? (i := 141) rfl)), (hw _ (List.mem_of_getElem? (i := 2) rfl))⟩ (qfc ⟨(hw _ (List.mem_of_getElem? (i := 145) rfl)), (hw _ (List.mem_of_getElem? (i := 2) rfl))⟩ (qfc ⟨(hw _ (List.mem_of_getElem? (i := 149) rfl)), (hw _ (List.mem_of_getElem? (i := 2) rfl))⟩ (qfc ⟨(hw _ (List.mem_of_getElem? (i := 152) rfl)), (hw _ (List.mem_of_getElem? (i := 72) rfl))⟩ (qfc ⟨(hw _ (List.mem_of_getElem? (i := 156) rfl)), (hw _ (List.mem_of_getElem? (i := 2) rfl))⟩ (qfc ⟨(hw _ (List.mem_of_getElem? (i := 160) rfl)), (hw _ (List.mem_of_getElem? (i := 2) rfl))⟩ (qfc ⟨(hw _ (List.mem_of_getElem? (i := 164) rfl)), (hw _ (List.mem_of_getElem? (i := 2) rfl))⟩ (qfc ⟨(hw _ (List.mem_of_getElem? (i := 168) rfl)), (hw _ (List.mem_of_getElem? (i := 2) rfl))⟩ (qfc ⟨(hw _ (List.mem_of_getElem? (i := 172) rfl)), (hw _ (List.mem_of_getElem? (i := 2) rfl))⟩ (qfc ⟨(hw _ (List.mem_of_getElem? (i := 176) rfl)), (hw _ (List.mem_of_getElem? (i := 2) rfl))⟩ (qfc ⟨(hw _ (List.mem_of_getElem? (i := 180) rfl)), (hw _ (List.mem_of_getElem? (i := 2) rfl))⟩ (qfc ⟨(hw _ (List.mem_of_getElem? (i := 184) rfl)), (hw _ (List.mem_of_getElem? (i := 2) rfl))⟩ (qfc ⟨(hw _ (List.mem_of_getElem? (i := 188) rfl)), (hw _ (List.mem_of_getElem? (i := 2) rfl))⟩ (qfc ⟨(hw _ (List.mem_of_getElem? (i := 192) rfl)), (hw _ (List.mem_of_getElem? (i := 2) rfl))⟩ (qfc ⟨(hw _ (List.mem_of_getElem? (i := 196) rfl)), (hw _ (List.mem_of_getElem? (i := 2) rfl))⟩ (qfc ⟨(hw _ (List.mem_of_getElem? (i := 200) rfl)), (hw _ (List.mem_of_getElem? (i := 2) rfl))⟩ (qfc ⟨(hw _ (List.mem_of_getElem? (i := 204) rfl)), (hw _ (List.mem_of_getElem? (i := 2) rfl))⟩ (qfc ⟨(hw _ (List.mem_of_getElem? (i := 208) rfl)), (hw _ (List.mem_of_getElem? (i := 2) rfl))⟩ qfn)))))))))))))))))))))))))))))))))))))))
  · exact (hw _ (List.mem_of_getElem? (i := 7) rfl))
  · exact (hw _ (List.mem_of_getElem? (i := 8) rfl))
  · exact (hw _ (List.mem_of_getElem? (i := 1) rfl))
  · exact (hw _ (List.mem_of_getElem? (i := 2) rfl))
  · exact (qfc (hw _ (List.mem_of_getElem? (i := 21) rfl)) qfn)
abbrev Ob := Int32 × Int32 × Int32 × Int32 × Int32 × Int32 × List Int32 × List Int32 × List Int32 × List Int32 × List Int32 × List Int32 × List Int32 × List Int32 × List Int32 × Int32 × Int32 × Int32
def f_regTuple (o : Ob) : Int32 := o.1
def f_regA (o : Ob) : Int32 := o.2.1
def f_regB (o : Ob) : Int32 := o.2.2.1
def f_regC (o : Ob) : Int32 := o.2.2.2.1
def f_regCount (o : Ob) : Int32 := o.2.2.2.2.1
def f_slots (o : Ob) : Int32 := o.2.2.2.2.2.1
def f_range (o : Ob) : List Int32 := o.2.2.2.2.2.2.1
def f_slide (o : Ob) : List Int32 := o.2.2.2.2.2.2.2.1
def f_frontSize (o : Ob) : List Int32 := o.2.2.2.2.2.2.2.2.1
def f_backSize (o : Ob) : List Int32 := o.2.2.2.2.2.2.2.2.2.1
def f_backElem (o : Ob) : List Int32 := o.2.2.2.2.2.2.2.2.2.2.1
def f_frontAgg (o : Ob) : List Int32 := o.2.2.2.2.2.2.2.2.2.2.2.1
def f_backAgg (o : Ob) : List Int32 := o.2.2.2.2.2.2.2.2.2.2.2.2.1
def f_snap (o : Ob) : List Int32 := o.2.2.2.2.2.2.2.2.2.2.2.2.2.1
def f_reg (o : Ob) : List Int32 := o.2.2.2.2.2.2.2.2.2.2.2.2.2.2.1
def f_capacity (o : Ob) : Int32 := o.2.2.2.2.2.2.2.2.2.2.2.2.2.2.2.1
def f_queries (o : Ob) : Int32 := o.2.2.2.2.2.2.2.2.2.2.2.2.2.2.2.2.1
def f_n (o : Ob) : Int32 := o.2.2.2.2.2.2.2.2.2.2.2.2.2.2.2.2.2
def s_regTuple (o : Ob) (v : Int32) : Ob := (v, o.2.1, o.2.2.1, o.2.2.2.1, o.2.2.2.2.1, o.2.2.2.2.2.1, o.2.2.2.2.2.2.1, o.2.2.2.2.2.2.2.1, o.2.2.2.2.2.2.2.2.1, o.2.2.2.2.2.2.2.2.2.1, o.2.2.2.2.2.2.2.2.2.2.1, o.2.2.2.2.2.2.2.2.2.2.2.1, o.2.2.2.2.2.2.2.2.2.2.2.2.1, o.2.2.2.2.2.2.2.2.2.2.2.2.2.1, o.2.2.2.2.2.2.2.2.2.2.2.2.2.2.1, o.2.2.2.2.2.2.2.2.2.2.2.2.2.2.2.1, o.2.2.2.2.2.2.2.2.2.2.2.2.2.2.2.2.1, o.2.2.2.2.2.2.2.2.2.2.2.2.2.2.2.2.2)
def s_regA (o : Ob) (v : Int32) : Ob := (o.1, v, o.2.2.1, o.2.2.2.1, o.2.2.2.2.1, o.2.2.2.2.2.1, o.2.2.2.2.2.2.1, o.2.2.2.2.2.2.2.1, o.2.2.2.2.2.2.2.2.1, o.2.2.2.2.2.2.2.2.2.1, o.2.2.2.2.2.2.2.2.2.2.1, o.2.2.2.2.2.2.2.2.2.2.2.1, o.2.2.2.2.2.2.2.2.2.2.2.2.1, o.2.2.2.2.2.2.2.2.2.2.2.2.2.1, o.2.2.2.2.2.2.2.2.2.2.2.2.2.2.1, o.2.2.2.2.2.2.2.2.2.2.2.2.2.2.2.1, o.2.2.2.2.2.2.2.2.2.2.2.2.2.2.2.2.1, o.2.2.2.2.2.2.2.2.2.2.2.2.2.2.2.2.2)
def s_regB (o : Ob) (v : Int32) : Ob := (o.1, o.2.1, v, o.2.2.2.1, o.2.2.2.2.1, o.2.2.2.2.2.1, o.2.2.2.2.2.2.1, o.2.2.2.2.2.2.2.1, o.2.2.2.2.2.2.2.2.1, o.2.2.2.2.2.2.2.2.2.1, o.2.2.2.2.2.2.2.2.2.2.1, o.2.2.2.2.2.2.2.2.2.2.2.1, o.2.2.2.2.2.2.2.2.2.2.2.2.1, o.2.2.2.2.2.2.2.2.2.2.2.2.2.1, o.2.2.2.2.2.2.2.2.2.2.2.2.2.2.1, o.2.2.2.2.2.2.2.2.2.2.2.2.2.2.2.1, o.2.2.2.2.2.2.2.2.2.2.2.2.2.2.2.2.1, o.2.2.2.2.2.2.2.2.2.2.2.2.2.2.2.2.2)
def s_regC (o : Ob) (v : Int32) : Ob := (o.1, o.2.1, o.2.2.1, v, o.2.2.2.2.1, o.2.2.2.2.2.1, o.2.2.2.2.2.2.1, o.2.2.2.2.2.2.2.1, o.2.2.2.2.2.2.2.2.1, o.2.2.2.2.2.2.2.2.2.1, o.2.2.2.2.2.2.2.2.2.2.1, o.2.2.2.2.2.2.2.2.2.2.2.1, o.2.2.2.2.2.2.2.2.2.2.2.2.1, o.2.2.2.2.2.2.2.2.2.2.2.2.2.1, o.2.2.2.2.2.2.2.2.2.2.2.2.2.2.1, o.2.2.2.2.2.2.2.2.2.2.2.2.2.2.2.1, o.2.2.2.2.2.2.2.2.2.2.2.2.2.2.2.2.1, o.2.2.2.2.2.2.2.2.2.2.2.2.2.2.2.2.2)
def s_regCount (o : Ob) (v : Int32) : Ob := (o.1, o.2.1, o.2.2.1, o.2.2.2.1, v, o.2.2.2.2.2.1, o.2.2.2.2.2.2.1, o.2.2.2.2.2.2.2.1, o.2.2.2.2.2.2.2.2.1, o.2.2.2.2.2.2.2.2.2.1, o.2.2.2.2.2.2.2.2.2.2.1, o.2.2.2.2.2.2.2.2.2.2.2.1, o.2.2.2.2.2.2.2.2.2.2.2.2.1, o.2.2.2.2.2.2.2.2.2.2.2.2.2.1, o.2.2.2.2.2.2.2.2.2.2.2.2.2.2.1, o.2.2.2.2.2.2.2.2.2.2.2.2.2.2.2.1, o.2.2.2.2.2.2.2.2.2.2.2.2.2.2.2.2.1, o.2.2.2.2.2.2.2.2.2.2.2.2.2.2.2.2.2)
def s_slots (o : Ob) (v : Int32) : Ob := (o.1, o.2.1, o.2.2.1, o.2.2.2.1, o.2.2.2.2.1, v, o.2.2.2.2.2.2.1, o.2.2.2.2.2.2.2.1, o.2.2.2.2.2.2.2.2.1, o.2.2.2.2.2.2.2.2.2.1, o.2.2.2.2.2.2.2.2.2.2.1, o.2.2.2.2.2.2.2.2.2.2.2.1, o.2.2.2.2.2.2.2.2.2.2.2.2.1, o.2.2.2.2.2.2.2.2.2.2.2.2.2.1, o.2.2.2.2.2.2.2.2.2.2.2.2.2.2.1, o.2.2.2.2.2.2.2.2.2.2.2.2.2.2.2.1, o.2.2.2.2.2.2.2.2.2.2.2.2.2.2.2.2.1, o.2.2.2.2.2.2.2.2.2.2.2.2.2.2.2.2.2)
def s_range (o : Ob) (v : List Int32) : Ob := (o.1, o.2.1, o.2.2.1, o.2.2.2.1, o.2.2.2.2.1, o.2.2.2.2.2.1, v, o.2.2.2.2.2.2.2.1, o.2.2.2.2.2.2.2.2.1, o.2.2.2.2.2.2.2.2.2.1, o.2.2.2.2.2.2.2.2.2.2.1, o.2.2.2.2.2.2.2.2.2.2.2.1, o.2.2.2.2.2.2.2.2.2.2.2.2.1, o.2.2.2.2.2.2.2.2.2.2.2.2.2.1, o.2.2.2.2.2.2.2.2.2.2.2.2.2.2.1, o.2.2.2.2.2.2.2.2.2.2.2.2.2.2.2.1, o.2.2.2.2.2.2.2.2.2.2.2.2.2.2.2.2.1, o.2.2.2.2.2.2.2.2.2.2.2.2.2.2.2.2.2)
def s_slide (o : Ob) (v : List Int32) : Ob := (o.1, o.2.1, o.2.2.1, o.2.2.2.1, o.2.2.2.2.1, o.2.2.2.2.2.1, o.2.2.2.2.2.2.1, v, o.2.2.2.2.2.2.2.2.1, o.2.2.2.2.2.2.2.2.2.1, o.2.2.2.2.2.2.2.2.2.2.1, o.2.2.2.2.2.2.2.2.2.2.2.1, o.2.2.2.2.2.2.2.2.2.2.2.2.1, o.2.2.2.2.2.2.2.2.2.2.2.2.2.1, o.2.2.2.2.2.2.2.2.2.2.2.2.2.2.1, o.2.2.2.2.2.2.2.2.2.2.2.2.2.2.2.1, o.2.2.2.2.2.2.2.2.2.2.2.2.2.2.2.2.1, o.2.2.2.2.2.2.2.2.2.2.2.2.2.2.2.2.2)
def s_frontSize (o : Ob) (v : List Int32) : Ob := (o.1, o.2.1, o.2.2.1, o.2.2.2.1, o.2.2.2.2.1, o.2.2.2.2.2.1, o.2.2.2.2.2.2.1, o.2.2.2.2.2.2.2.1, v, o.2.2.2.2.2.2.2.2.2.1, o.2.2.2.2.2.2.2.2.2.2.1, o.2.2.2.2.2.2.2.2.2.2.2.1, o.2.2.2.2.2.2.2.2.2.2.2.2.1, o.2.2.2.2.2.2.2.2.2.2.2.2.2.1, o.2.2.2.2.2.2.2.2.2.2.2.2.2.2.1, o.2.2.2.2.2.2.2.2.2.2.2.2.2.2.2.1, o.2.2.2.2.2.2.2.2.2.2.2.2.2.2.2.2.1, o.2.2.2.2.2.2.2.2.2.2.2.2.2.2.2.2.2)
def s_backSize (o : Ob) (v : List Int32) : Ob := (o.1, o.2.1, o.2.2.1, o.2.2.2.1, o.2.2.2.2.1, o.2.2.2.2.2.1, o.2.2.2.2.2.2.1, o.2.2.2.2.2.2.2.1, o.2.2.2.2.2.2.2.2.1, v, o.2.2.2.2.2.2.2.2.2.2.1, o.2.2.2.2.2.2.2.2.2.2.2.1, o.2.2.2.2.2.2.2.2.2.2.2.2.1, o.2.2.2.2.2.2.2.2.2.2.2.2.2.1, o.2.2.2.2.2.2.2.2.2.2.2.2.2.2.1, o.2.2.2.2.2.2.2.2.2.2.2.2.2.2.2.1, o.2.2.2.2.2.2.2.2.2.2.2.2.2.2.2.2.1, o.2.2.2.2.2.2.2.2.2.2.2.2.2.2.2.2.2)
def s_backElem (o : Ob) (v : List Int32) : Ob := (o.1, o.2.1, o.2.2.1, o.2.2.2.1, o.2.2.2.2.1, o.2.2.2.2.2.1, o.2.2.2.2.2.2.1, o.2.2.2.2.2.2.2.1, o.2.2.2.2.2.2.2.2.1, o.2.2.2.2.2.2.2.2.2.1, v, o.2.2.2.2.2.2.2.2.2.2.2.1, o.2.2.2.2.2.2.2.2.2.2.2.2.1, o.2.2.2.2.2.2.2.2.2.2.2.2.2.1, o.2.2.2.2.2.2.2.2.2.2.2.2.2.2.1, o.2.2.2.2.2.2.2.2.2.2.2.2.2.2.2.1, o.2.2.2.2.2.2.2.2.2.2.2.2.2.2.2.2.1, o.2.2.2.2.2.2.2.2.2.2.2.2.2.2.2.2.2)
def s_frontAgg (o : Ob) (v : List Int32) : Ob := (o.1, o.2.1, o.2.2.1, o.2.2.2.1, o.2.2.2.2.1, o.2.2.2.2.2.1, o.2.2.2.2.2.2.1, o.2.2.2.2.2.2.2.1, o.2.2.2.2.2.2.2.2.1, o.2.2.2.2.2.2.2.2.2.1, o.2.2.2.2.2.2.2.2.2.2.1, v, o.2.2.2.2.2.2.2.2.2.2.2.2.1, o.2.2.2.2.2.2.2.2.2.2.2.2.2.1, o.2.2.2.2.2.2.2.2.2.2.2.2.2.2.1, o.2.2.2.2.2.2.2.2.2.2.2.2.2.2.2.1, o.2.2.2.2.2.2.2.2.2.2.2.2.2.2.2.2.1, o.2.2.2.2.2.2.2.2.2.2.2.2.2.2.2.2.2)
def s_backAgg (o : Ob) (v : List Int32) : Ob := (o.1, o.2.1, o.2.2.1, o.2.2.2.1, o.2.2.2.2.1, o.2.2.2.2.2.1, o.2.2.2.2.2.2.1, o.2.2.2.2.2.2.2.1, o.2.2.2.2.2.2.2.2.1, o.2.2.2.2.2.2.2.2.2.1, o.2.2.2.2.2.2.2.2.2.2.1, o.2.2.2.2.2.2.2.2.2.2.2.1, v, o.2.2.2.2.2.2.2.2.2.2.2.2.2.1, o.2.2.2.2.2.2.2.2.2.2.2.2.2.2.1, o.2.2.2.2.2.2.2.2.2.2.2.2.2.2.2.1, o.2.2.2.2.2.2.2.2.2.2.2.2.2.2.2.2.1, o.2.2.2.2.2.2.2.2.2.2.2.2.2.2.2.2.2)
def s_snap (o : Ob) (v : List Int32) : Ob := (o.1, o.2.1, o.2.2.1, o.2.2.2.1, o.2.2.2.2.1, o.2.2.2.2.2.1, o.2.2.2.2.2.2.1, o.2.2.2.2.2.2.2.1, o.2.2.2.2.2.2.2.2.1, o.2.2.2.2.2.2.2.2.2.1, o.2.2.2.2.2.2.2.2.2.2.1, o.2.2.2.2.2.2.2.2.2.2.2.1, o.2.2.2.2.2.2.2.2.2.2.2.2.1, v, o.2.2.2.2.2.2.2.2.2.2.2.2.2.2.1, o.2.2.2.2.2.2.2.2.2.2.2.2.2.2.2.1, o.2.2.2.2.2.2.2.2.2.2.2.2.2.2.2.2.1, o.2.2.2.2.2.2.2.2.2.2.2.2.2.2.2.2.2)
def s_reg (o : Ob) (v : List Int32) : Ob := (o.1, o.2.1, o.2.2.1, o.2.2.2.1, o.2.2.2.2.1, o.2.2.2.2.2.1, o.2.2.2.2.2.2.1, o.2.2.2.2.2.2.2.1, o.2.2.2.2.2.2.2.2.1, o.2.2.2.2.2.2.2.2.2.1, o.2.2.2.2.2.2.2.2.2.2.1, o.2.2.2.2.2.2.2.2.2.2.2.1, o.2.2.2.2.2.2.2.2.2.2.2.2.1, o.2.2.2.2.2.2.2.2.2.2.2.2.2.1, v, o.2.2.2.2.2.2.2.2.2.2.2.2.2.2.2.1, o.2.2.2.2.2.2.2.2.2.2.2.2.2.2.2.2.1, o.2.2.2.2.2.2.2.2.2.2.2.2.2.2.2.2.2)
def s_capacity (o : Ob) (v : Int32) : Ob := (o.1, o.2.1, o.2.2.1, o.2.2.2.1, o.2.2.2.2.1, o.2.2.2.2.2.1, o.2.2.2.2.2.2.1, o.2.2.2.2.2.2.2.1, o.2.2.2.2.2.2.2.2.1, o.2.2.2.2.2.2.2.2.2.1, o.2.2.2.2.2.2.2.2.2.2.1, o.2.2.2.2.2.2.2.2.2.2.2.1, o.2.2.2.2.2.2.2.2.2.2.2.2.1, o.2.2.2.2.2.2.2.2.2.2.2.2.2.1, o.2.2.2.2.2.2.2.2.2.2.2.2.2.2.1, v, o.2.2.2.2.2.2.2.2.2.2.2.2.2.2.2.2.1, o.2.2.2.2.2.2.2.2.2.2.2.2.2.2.2.2.2)
def s_queries (o : Ob) (v : Int32) : Ob := (o.1, o.2.1, o.2.2.1, o.2.2.2.1, o.2.2.2.2.1, o.2.2.2.2.2.1, o.2.2.2.2.2.2.1, o.2.2.2.2.2.2.2.1, o.2.2.2.2.2.2.2.2.1, o.2.2.2.2.2.2.2.2.2.1, o.2.2.2.2.2.2.2.2.2.2.1, o.2.2.2.2.2.2.2.2.2.2.2.1, o.2.2.2.2.2.2.2.2.2.2.2.2.1, o.2.2.2.2.2.2.2.2.2.2.2.2.2.1, o.2.2.2.2.2.2.2.2.2.2.2.2.2.2.1, o.2.2.2.2.2.2.2.2.2.2.2.2.2.2.2.1, v, o.2.2.2.2.2.2.2.2.2.2.2.2.2.2.2.2.2)
def s_n (o : Ob) (v : Int32) : Ob := (o.1, o.2.1, o.2.2.1, o.2.2.2.1, o.2.2.2.2.1, o.2.2.2.2.2.1, o.2.2.2.2.2.2.1, o.2.2.2.2.2.2.2.1, o.2.2.2.2.2.2.2.2.1, o.2.2.2.2.2.2.2.2.2.1, o.2.2.2.2.2.2.2.2.2.2.1, o.2.2.2.2.2.2.2.2.2.2.2.1, o.2.2.2.2.2.2.2.2.2.2.2.2.1, o.2.2.2.2.2.2.2.2.2.2.2.2.2.1, o.2.2.2.2.2.2.2.2.2.2.2.2.2.2.1, o.2.2.2.2.2.2.2.2.2.2.2.2.2.2.2.1, o.2.2.2.2.2.2.2.2.2.2.2.2.2.2.2.2.1, v)
theorem fs (o : Ob) : f_regTuple o = o.1 ∧ f_regA o = o.2.1 ∧ f_regB o = o.2.2.1 ∧ f_regC o = o.2.2.2.1 ∧ f_regCount o = o.2.2.2.2.1 ∧ f_slots o = o.2.2.2.2.2.1 ∧ f_range o = o.2.2.2.2.2.2.1 ∧ f_slide o = o.2.2.2.2.2.2.2.1 ∧ f_frontSize o = o.2.2.2.2.2.2.2.2.1 ∧ f_backSize o = o.2.2.2.2.2.2.2.2.2.1 ∧ f_backElem o = o.2.2.2.2.2.2.2.2.2.2.1 ∧ f_frontAgg o = o.2.2.2.2.2.2.2.2.2.2.2.1 ∧ f_backAgg o = o.2.2.2.2.2.2.2.2.2.2.2.2.1 ∧ f_snap o = o.2.2.2.2.2.2.2.2.2.2.2.2.2.1 ∧ f_reg o = o.2.2.2.2.2.2.2.2.2.2.2.2.2.2.1 ∧ f_capacity o = o.2.2.2.2.2.2.2.2.2.2.2.2.2.2.2.1 ∧ f_queries o = o.2.2.2.2.2.2.2.2.2.2.2.2.2.2.2.2.1 ∧ f_n o = o.2.2.2.2.2.2.2.2.2.2.2.2.2.2.2.2.2 := by simp only [f_regTuple, f_regA, f_regB, f_regC, f_regCount, f_slots, f_range, f_slide, f_frontSize, f_backSize, f_backElem, f_frontAgg, f_backAgg, f_snap, f_reg, f_capacity, f_queries, f_n, and_self]
def ob0 : Ob := (0, 0, 0, 0, 0, 0, [], [], [], [], [], [], [], [], [], 0, 0, 0)
section Walks
variable {l : Launch} {Z : State} {n0 : Nat} {ad : Nat → Addr} {a0 : Array Value}
set_option maxRecDepth 20000
set_option maxHeartbeats 2000000
abbrev tt : Bool := true
abbrev ff : Bool := false
open QTri renaming steps → zS, brT → zT, brF → zF, bnd → zB, mask → zM
open Option (bind_eq_some_iff)
open Classical (em)
def H0 (s : List Int32) (o0 : Ob) : QHeap := [.inr (.inl (.int, s)), .inl [.int (f_regTuple o0), .int (f_regA o0), .int (f_regB o0), .int (f_regC o0), .int (f_regCount o0), .int (f_slots o0), .ref 2, .ref 3, .ref 4, .ref 5, .ref 6, .ref 7, .ref 8, .ref 9, .ref 10, .int (f_capacity o0), .int (f_queries o0), .int (f_n o0)], .inr (.inl (.int, (f_range o0))), .inr (.inl (.int, (f_slide o0))), .inr (.inl (.int, (f_frontSize o0))), .inr (.inl (.int, (f_backSize o0))), .inr (.inl (.int, (f_backElem o0))), .inr (.inl (.int, (f_frontAgg o0))), .inr (.inl (.int, (f_backAgg o0))), .inr (.inl (.int, (f_snap o0))), .inr (.inl (.int, (f_reg o0)))]
def H0v (s : List Int32) (a0_0 : Int32) (a0_1 : Int32) (a0_2 : Int32) (a0_3 : Int32) (a0_4 : Int32) (a0_5 : Int32) (a0_6 : List Int32) (a0_7 : List Int32) (a0_8 : List Int32) (a0_9 : List Int32) (a0_10 : List Int32) (a0_11 : List Int32) (a0_12 : List Int32) (a0_13 : List Int32) (a0_14 : List Int32) (a0_15 : Int32) (a0_16 : Int32) (a0_17 : Int32) : QHeap := [.inr (.inl (.int, s)), .inl [.int a0_0, .int a0_1, .int a0_2, .int a0_3, .int a0_4, .int a0_5, .ref 2, .ref 3, .ref 4, .ref 5, .ref 6, .ref 7, .ref 8, .ref 9, .ref 10, .int a0_15, .int a0_16, .int a0_17], .inr (.inl (.int, a0_6)), .inr (.inl (.int, a0_7)), .inr (.inl (.int, a0_8)), .inr (.inl (.int, a0_9)), .inr (.inl (.int, a0_10)), .inr (.inl (.int, a0_11)), .inr (.inl (.int, a0_12)), .inr (.inl (.int, a0_13)), .inr (.inl (.int, a0_14))]
def H0x0 (s : List Int32) (o0 : Ob) (a0_0 : Int32) (a0_1 : Int32) (a0_2 : Int32) (a0_3 : Int32) (a0_4 : Int32) (a0_5 : Int32) (a0_6 : List Int32) (a0_7 : List Int32) (a0_8 : List Int32) (a0_9 : List Int32) (a0_10 : List Int32) (a0_11 : List Int32) (a0_12 : List Int32) (a0_13 : List Int32) (a0_14 : List Int32) : QHeap := H0v s a0_0 a0_1 a0_2 a0_3 a0_4 a0_5 a0_6 a0_7 a0_8 a0_9 a0_10 a0_11 a0_12 a0_13 a0_14 (f_capacity o0) (f_queries o0) (f_n o0)
def H0x1 (s : List Int32) (o0 : Ob) (a0_0 : Int32) (a0_1 : Int32) (a0_2 : Int32) (a0_3 : Int32) (a0_4 : Int32) (a0_5 : Int32) (a0_6 : List Int32) (a0_7 : List Int32) (a0_8 : List Int32) (a0_9 : List Int32) (a0_10 : List Int32) (a0_11 : List Int32) (a0_12 : List Int32) (a0_13 : List Int32) (a0_14 : List Int32) (a0_15 : Int32) : QHeap := H0v s a0_0 a0_1 a0_2 a0_3 a0_4 a0_5 a0_6 a0_7 a0_8 a0_9 a0_10 a0_11 a0_12 a0_13 a0_14 a0_15 (f_queries o0) (f_n o0)
def H0x2 (s : List Int32) (o0 : Ob) (a0_0 : Int32) (a0_1 : Int32) (a0_2 : Int32) (a0_3 : Int32) (a0_4 : Int32) (a0_5 : Int32) (a0_6 : List Int32) (a0_7 : List Int32) (a0_8 : List Int32) (a0_9 : List Int32) (a0_10 : List Int32) (a0_11 : List Int32) (a0_12 : List Int32) (a0_13 : List Int32) (a0_14 : List Int32) (a0_15 : Int32) (a0_16 : Int32) : QHeap := H0v s a0_0 a0_1 a0_2 a0_3 a0_4 a0_5 a0_6 a0_7 a0_8 a0_9 a0_10 a0_11 a0_12 a0_13 a0_14 a0_15 a0_16 (f_n o0)
def H0x3 (s : List Int32) (o0 : Ob) (a0_0 : Int32) (a0_1 : Int32) (a0_2 : Int32) (a0_3 : Int32) (a0_4 : Int32) (a0_5 : Int32) (a0_6 : List Int32) (a0_7 : List Int32) (a0_8 : List Int32) (a0_9 : List Int32) (a0_10 : List Int32) (a0_11 : List Int32) (a0_12 : List Int32) (a0_13 : List Int32) (a0_14 : List Int32) (a0_15 : Int32) (a0_16 : Int32) (a0_17 : Int32) : QHeap := H0v s a0_0 a0_1 a0_2 a0_3 a0_4 a0_5 a0_6 a0_7 a0_8 a0_9 a0_10 a0_11 a0_12 a0_13 a0_14 a0_15 a0_16 a0_17
def H0x4 (s : List Int32) (o0 : Ob) (a0_8 : List Int32) : QHeap := H0v s (f_regTuple o0) (f_regA o0) (f_regB o0) (f_regC o0) (f_regCount o0) (f_slots o0) (f_range o0) (f_slide o0) a0_8 (f_backSize o0) (f_backElem o0) (f_frontAgg o0) (f_backAgg o0) (f_snap o0) (f_reg o0) (f_capacity o0) (f_queries o0) (f_n o0)
def H0x5 (s : List Int32) (o0 : Ob) (a0_8 : List Int32) (a0_9 : List Int32) : QHeap := H0v s (f_regTuple o0) (f_regA o0) (f_regB o0) (f_regC o0) (f_regCount o0) (f_slots o0) (f_range o0) (f_slide o0) a0_8 a0_9 (f_backElem o0) (f_frontAgg o0) (f_backAgg o0) (f_snap o0) (f_reg o0) (f_capacity o0) (f_queries o0) (f_n o0)
/-- validReg(I)Z -/
def F5 (x1 : Int32) : Option (Int32) :=
 (if x1 < (0:Int32) then some (0:Int32) else (if x1 < (4:Int32) then some (1:Int32) else some (0:Int32)))
theorem tF5 (Ad : QAd n0 ad) (W : QW Z a0) {a : Nat} {σ : QHeap} (x1 : Int32) {r : Int32} (h : F5 x1 = some r) : QTri l Z n0 ad 5 (0, qentry [.ref a, .int x1] (pMaxL 5), [], σ) (some (Value.int r)) σ := by
 unfold F5 at h
 refine zS Ad W 1 (st' := (1, [vR a, vI x1], [.int x1], σ)) rfl ?_
 rcases qite h with ⟨hc16, h⟩ | ⟨hc16, h⟩
 ·refine zT Ad W (t := 13) (f := 4) rfl (XT.i0_lt_t hc16) ?_
  refine zS Ad W 1 (st' := (14, [vR a, vI x1], [.int (0:Int32)], σ)) rfl ?_
  obtain rfl := Option.some.inj h
  exact QTri.retZ rfl rfl
 ·refine zF Ad W (t := 13) (f := 4) rfl (XT.i0_lt_f hc16) ?_
  refine zS Ad W 2 (st' := (6, [vR a, vI x1], [.int (4:Int32), .int x1], σ)) rfl ?_
  rcases qite h with ⟨hc17, h⟩ | ⟨hc17, h⟩
  ·refine zF Ad W (t := 13) (f := 9) rfl (XT.ii_ge_f hc17) ?_
   refine zS Ad W 2 (st' := (14, [vR a, vI x1], [.int (1:Int32)], σ)) rfl ?_
   obtain rfl := Option.some.inj h
   exact QTri.retZ rfl rfl
  ·refine zT Ad W (t := 13) (f := 9) rfl (XT.ii_ge_t hc17) ?_
   refine zS Ad W 1 (st' := (14, [vR a, vI x1], [.int (0:Int32)], σ)) rfl ?_
   obtain rfl := Option.some.inj h
   exact QTri.retZ rfl rfl
def H0x6 (s : List Int32) (o0 : Ob) (a0_14 : List Int32) : QHeap := H0v s (f_regTuple o0) (f_regA o0) (f_regB o0) (f_regC o0) (f_regCount o0) (f_slots o0) (f_range o0) (f_slide o0) (f_frontSize o0) (f_backSize o0) (f_backElem o0) (f_frontAgg o0) (f_backAgg o0) (f_snap o0) a0_14 (f_capacity o0) (f_queries o0) (f_n o0)
/-- regSet(IIIII)V -/
def F4 (o : Ob) (x1 : Int32) (x2 : Int32) (x3 : Int32) (x4 : Int32) (x5 : Int32) : Option (Ob) :=
 (F5 x1).bind fun r18 => (if r18 = (0:Int32) then some o else (aset (f_reg o) (x1 * (4:Int32)) x2).bind fun y20 => (aset y20 ((x1 * (4:Int32)) + (1:Int32)) x3).bind fun y21 => (aset y21 ((x1 * (4:Int32)) + (2:Int32)) x4).bind fun y22 => (aset y22 ((x1 * (4:Int32)) + (3:Int32)) x5).bind fun y23 => some (s_reg o y23))
theorem tF4 (Ad : QAd n0 ad) (W : QW Z a0) (s : List Int32) (o : Ob) (x1 : Int32) (x2 : Int32) (x3 : Int32) (x4 : Int32) (x5 : Int32) {r : Ob} (h : F4 o x1 x2 x3 x4 x5 = some r) : QTri l Z n0 ad 4 (0, qentry [.ref 1, .int x1, .int x2, .int x3, .int x4, .int x5] (pMaxL 4), [], (H0 s o)) (none : Option Value) (H0 s r) := by
 unfold F4 at h
 refine zS Ad W 2 (st' := (2, [vR 1, vI x1, vI x2, vI x3, vI x4, vI x5, none], [.int x1, .ref 1], (H0 s o))) rfl ?_
 obtain ⟨r18, hr18, h⟩ := bind_eq_some_iff.mp h
 refine QTri.callP W (a := 1) (as := [.int x1]) (rest := []) (w := (some (.int r18))) (σ₁ := (H0 s o)) rfl rfl rfl rfl rfl rfl rfl rfl (tF5 Ad W x1 hr18) ?_
 rcases qite h with ⟨hc19, h⟩ | ⟨hc19, h⟩
 ·refine zF Ad W (t := 9) (f := 8) rfl (XT.i0_ne_f hc19) ?_
  obtain rfl := Option.some.inj h
  exact QTri.ret0 rfl rfl
 ·refine zT Ad W (t := 9) (f := 8) rfl (XT.i0_ne_t hc19) ?_
  refine zS Ad W 8 (st' := (21, [vR 1, vI x1, vI x2, vI x3, vI x4, vI x5, vI (x1 * (4:Int32))], [.int x2, .int (x1 * (4:Int32)), .ref 10], (H0 s o))) rfl ?_
  obtain ⟨y20, hy20, h⟩ := bind_eq_some_iff.mp h
  refine zB Ad W (f := fun y20 => (22, [vR 1, vI x1, vI x2, vI x3, vI x4, vI x5, vI (x1 * (4:Int32))], [], (H0x6 s o y20))) rfl hy20 ?_
  refine zS Ad W 6 (st' := (31, [vR 1, vI x1, vI x2, vI x3, vI x4, vI x5, vI (x1 * (4:Int32))], [.int x3, .int ((x1 * (4:Int32)) + (1:Int32)), .ref 10], (H0x6 s o y20))) rfl ?_
  obtain ⟨y21, hy21, h⟩ := bind_eq_some_iff.mp h
  refine zB Ad W (f := fun y21 => (32, [vR 1, vI x1, vI x2, vI x3, vI x4, vI x5, vI (x1 * (4:Int32))], [], (H0x6 s o y21))) rfl hy21 ?_
  refine zS Ad W 6 (st' := (42, [vR 1, vI x1, vI x2, vI x3, vI x4, vI x5, vI (x1 * (4:Int32))], [.int x4, .int ((x1 * (4:Int32)) + (2:Int32)), .ref 10], (H0x6 s o y21))) rfl ?_
  obtain ⟨y22, hy22, h⟩ := bind_eq_some_iff.mp h
  refine zB Ad W (f := fun y22 => (43, [vR 1, vI x1, vI x2, vI x3, vI x4, vI x5, vI (x1 * (4:Int32))], [], (H0x6 s o y22))) rfl hy22 ?_
  refine zS Ad W 6 (st' := (53, [vR 1, vI x1, vI x2, vI x3, vI x4, vI x5, vI (x1 * (4:Int32))], [.int x5, .int ((x1 * (4:Int32)) + (3:Int32)), .ref 10], (H0x6 s o y22))) rfl ?_
  obtain ⟨y23, hy23, h⟩ := bind_eq_some_iff.mp h
  refine zB Ad W (f := fun y23 => (54, [vR 1, vI x1, vI x2, vI x3, vI x4, vI x5, vI (x1 * (4:Int32))], [], (H0x6 s o y23))) rfl hy23 ?_
  have E24 : ((H0x6 s o y23) : QHeap) = (H0 s (s_reg o y23)) := by simp only [fs, H0, H0v, H0x6, s_reg]
  rw [E24]
  obtain rfl := Option.some.inj h
  exact QTri.ret0 rfl rfl
/-- regIdentity(I)V -/
def F3 (o : Ob) (x1 : Int32) : Option (Ob) :=
 (F4 o x1 (1:Int32) (0:Int32) (0:Int32) (1:Int32)).bind fun r25 => some r25
theorem tF3 (Ad : QAd n0 ad) (W : QW Z a0) (s : List Int32) (o : Ob) (x1 : Int32) {r : Ob} (h : F3 o x1 = some r) : QTri l Z n0 ad 3 (0, qentry [.ref 1, .int x1] (pMaxL 3), [], (H0 s o)) (none : Option Value) (H0 s r) := by
 unfold F3 at h
 refine zS Ad W 6 (st' := (6, [vR 1, vI x1], [.int (1:Int32), .int (0:Int32), .int (0:Int32), .int (1:Int32), .int x1, .ref 1], (H0 s o))) rfl ?_
 obtain ⟨r25, hr25, h⟩ := bind_eq_some_iff.mp h
 refine QTri.callP W (a := 1) (as := [.int x1, .int (1:Int32), .int (0:Int32), .int (0:Int32), .int (1:Int32)]) (rest := []) (w := none) (σ₁ := (H0 s r25)) rfl rfl rfl rfl rfl rfl rfl rfl (tF4 Ad W s o x1 (1:Int32) (0:Int32) (0:Int32) (1:Int32) hr25) ?_
 obtain rfl := Option.some.inj h
 exact QTri.ret0 rfl rfl
def H0x7 (s : List Int32) (o0 : Ob) (a0_12 : List Int32) : QHeap := H0v s (f_regTuple o0) (f_regA o0) (f_regB o0) (f_regC o0) (f_regCount o0) (f_slots o0) (f_range o0) (f_slide o0) (f_frontSize o0) (f_backSize o0) (f_backElem o0) (f_frontAgg o0) a0_12 (f_snap o0) (f_reg o0) (f_capacity o0) (f_queries o0) (f_n o0)
def B6_25 (x1 : Int32) (x3 : Int32) (v : Int32 × Ob) : Option (((Ob)) ⊕ (Int32 × Ob)) :=
  (if v.1 < (4 : Int32) then (aget (f_reg v.2) (x3 + v.1)).bind fun y32 => (aset (f_backAgg v.2) ((x1 * (4 : Int32)) + v.1) y32).bind fun y33 => some (.inr ((v.1 + (1 : Int32)), (s_backAgg v.2 y33))) else some (.inl v.2))
theorem tB6_25 (Ad : QAd n0 ad) (W : QW Z a0) (s : List Int32) (x1 : Int32) (x3 : Int32) (v : Int32 × Ob) {r : ((Ob)) ⊕ (Int32 × Ob)} {u : Option Value} {τ : QHeap} (h : B6_25 x1 x3 v = some r) (hx0 : ∀ x : Ob, r = .inl x → u = (none : Option Value) ∧ τ = (H0 s x)) (hc : ∀ x : Int32 × Ob, r = .inr x → QTri l Z n0 ad 6 (25, [vR 1, vI x1, none, vI x3, vI x.1], [], (H0 s x.2)) u τ) : QTri l Z n0 ad 6 (25, [vR 1, vI x1, none, vI x3, vI v.1], [], (H0 s v.2)) u τ := by
 unfold B6_25 at h
 refine zS Ad W 2 (st' := (28, [vR 1, vI x1, none, vI x3, vI v.1], [.int (4:Int32), .int v.1], (H0 s v.2))) rfl ?_
 rcases qite h with ⟨hc31, h⟩ | ⟨hc31, h⟩
 ·refine zF Ad W (t := 57) (f := 31) rfl (XT.ii_ge_f hc31) ?_
  refine zS Ad W 12 (st' := (49, [vR 1, vI x1, none, vI x3, vI v.1], [.int (x3 + v.1), .ref 10, .int ((x1 * (4:Int32)) + v.1), .ref 8], (H0 s v.2))) rfl ?_
  obtain ⟨y32, hy32, h⟩ := bind_eq_some_iff.mp h
  refine zB Ad W (f := fun y32 => (50, [vR 1, vI x1, none, vI x3, vI v.1], [.int y32, .int ((x1 * (4:Int32)) + v.1), .ref 8], (H0 s v.2))) rfl hy32 ?_
  obtain ⟨y33, hy33, h⟩ := bind_eq_some_iff.mp h
  refine zB Ad W (f := fun y33 => (51, [vR 1, vI x1, none, vI x3, vI v.1], [], (H0x7 s v.2 y33))) rfl hy33 ?_
  refine zS Ad W 2 (st' := (25, [vR 1, vI x1, none, vI x3, vI (v.1 + (1:Int32))], [], (H0x7 s v.2 y33))) rfl ?_
  have E34 : ((H0x7 s v.2 y33) : QHeap) = (H0 s (s_backAgg v.2 y33)) := by simp only [fs, H0, H0v, H0x7, s_backAgg]
  rw [E34]
  obtain rfl := Option.some.inj h
  exact zM [tt,tt,ff,tt,tt] (hc ((v.1 + (1:Int32)), (s_backAgg v.2 y33)) rfl)
 ·refine zT Ad W (t := 57) (f := 31) rfl (XT.ii_ge_t hc31) ?_
  obtain rfl := Option.some.inj h
  obtain ⟨rfl, rfl⟩ := hx0 v.2 rfl
  exact QTri.ret0 rfl rfl
/-- storeBackAgg(II)V -/
def F6 (o : Ob) (x1 : Int32) (x2 : Int32) : Option (Ob) :=
 (F5 x2).bind fun r27 => (if r27 = (0:Int32) then some o else (if x1 < (0:Int32) then some o else (if x1 < (4:Int32) then (loopN (B6_25 x1 (x2 * (4:Int32))) qN ((0:Int32), o)).bind fun e35 => some e35 else some o)))
theorem tF6 (Ad : QAd n0 ad) (W : QW Z a0) (s : List Int32) (o : Ob) (x1 : Int32) (x2 : Int32) {r : Ob} (h : F6 o x1 x2 = some r) : QTri l Z n0 ad 6 (0, qentry [.ref 1, .int x1, .int x2] (pMaxL 6), [], (H0 s o)) (none : Option Value) (H0 s r) := by
 unfold F6 at h
 refine zS Ad W 2 (st' := (2, [vR 1, vI x1, vI x2, none, none], [.int x2, .ref 1], (H0 s o))) rfl ?_
 obtain ⟨r27, hr27, h⟩ := bind_eq_some_iff.mp h
 refine QTri.callP W (a := 1) (as := [.int x2]) (rest := []) (w := (some (.int r27))) (σ₁ := (H0 s o)) rfl rfl rfl rfl rfl rfl rfl rfl (tF5 Ad W x2 hr27) ?_
 rcases qite h with ⟨hc28, h⟩ | ⟨hc28, h⟩
 ·refine zT Ad W (t := 17) (f := 8) rfl (XT.i0_eq_t hc28) ?_
  obtain rfl := Option.some.inj h
  exact QTri.ret0 rfl rfl
 ·refine zF Ad W (t := 17) (f := 8) rfl (XT.i0_eq_f hc28) ?_
  refine zS Ad W 1 (st' := (9, [vR 1, vI x1, vI x2, none, none], [.int x1], (H0 s o))) rfl ?_
  rcases qite h with ⟨hc29, h⟩ | ⟨hc29, h⟩
  ·refine zT Ad W (t := 17) (f := 12) rfl (XT.i0_lt_t hc29) ?_
   obtain rfl := Option.some.inj h
   exact QTri.ret0 rfl rfl
  ·refine zF Ad W (t := 17) (f := 12) rfl (XT.i0_lt_f hc29) ?_
   refine zS Ad W 2 (st' := (14, [vR 1, vI x1, vI x2, none, none], [.int (4:Int32), .int x1], (H0 s o))) rfl ?_
   rcases qite h with ⟨hc30, h⟩ | ⟨hc30, h⟩
   ·refine zT Ad W (t := 18) (f := 17) rfl (XT.ii_lt_t hc30) ?_
    refine zS Ad W 6 (st' := (25, [vR 1, vI x1, vI x2, vI (x2 * (4:Int32)), vI (0:Int32)], [], (H0 s o))) rfl ?_
    obtain ⟨e35, he35, h⟩ := bind_eq_some_iff.mp h
    refine zM [tt,tt,ff,tt,tt] (loopN_tri (B := B6_25 x1 (x2 * (4:Int32))) (T := fun lv36 => QTri l Z n0 ad 6 (25, [vR 1, vI x1, none, vI (x2 * (4:Int32)), vI lv36.1], [], (H0 s lv36.2)) (none : Option Value) (H0 s r)) (KE := fun e35a => (none : Option Value) = (none : Option Value) ∧ (H0 s r) = (H0 s e35a)) (fun lv36 r hB hE hC => tB6_25 Ad W s x1 (x2 * (4:Int32)) lv36 hB (fun x q => hE _ q) (fun x q => hC x q)) qN ((0:Int32), o) e35 he35 ?_)
    obtain rfl := Option.some.inj h
    exact ⟨rfl, rfl⟩
   ·refine zF Ad W (t := 18) (f := 17) rfl (XT.ii_lt_f hc30) ?_
    obtain rfl := Option.some.inj h
    exact QTri.ret0 rfl rfl
def H0x8 (s : List Int32) (o0 : Ob) (a0_13 : List Int32) : QHeap := H0v s (f_regTuple o0) (f_regA o0) (f_regB o0) (f_regC o0) (f_regCount o0) (f_slots o0) (f_range o0) (f_slide o0) (f_frontSize o0) (f_backSize o0) (f_backElem o0) (f_frontAgg o0) (f_backAgg o0) a0_13 (f_reg o0) (f_capacity o0) (f_queries o0) (f_n o0)
def B7_25 (x1 : Int32) (x3 : Int32) (v : Int32 × Ob) : Option (((Ob)) ⊕ (Int32 × Ob)) :=
  (if v.1 < (4 : Int32) then (aget (f_reg v.2) (x3 + v.1)).bind fun y43 => (aset (f_snap v.2) ((x1 * (4 : Int32)) + v.1) y43).bind fun y44 => some (.inr ((v.1 + (1 : Int32)), (s_snap v.2 y44))) else some (.inl v.2))
theorem tB7_25 (Ad : QAd n0 ad) (W : QW Z a0) (s : List Int32) (x1 : Int32) (x3 : Int32) (v : Int32 × Ob) {r : ((Ob)) ⊕ (Int32 × Ob)} {u : Option Value} {τ : QHeap} (h : B7_25 x1 x3 v = some r) (hx0 : ∀ x : Ob, r = .inl x → u = (none : Option Value) ∧ τ = (H0 s x)) (hc : ∀ x : Int32 × Ob, r = .inr x → QTri l Z n0 ad 7 (25, [vR 1, vI x1, none, vI x3, vI x.1], [], (H0 s x.2)) u τ) : QTri l Z n0 ad 7 (25, [vR 1, vI x1, none, vI x3, vI v.1], [], (H0 s v.2)) u τ := by
 unfold B7_25 at h
 refine zS Ad W 2 (st' := (28, [vR 1, vI x1, none, vI x3, vI v.1], [.int (4:Int32), .int v.1], (H0 s v.2))) rfl ?_
 rcases qite h with ⟨hc42, h⟩ | ⟨hc42, h⟩
 ·refine zF Ad W (t := 57) (f := 31) rfl (XT.ii_ge_f hc42) ?_
  refine zS Ad W 12 (st' := (49, [vR 1, vI x1, none, vI x3, vI v.1], [.int (x3 + v.1), .ref 10, .int ((x1 * (4:Int32)) + v.1), .ref 9], (H0 s v.2))) rfl ?_
  obtain ⟨y43, hy43, h⟩ := bind_eq_some_iff.mp h
  refine zB Ad W (f := fun y43 => (50, [vR 1, vI x1, none, vI x3, vI v.1], [.int y43, .int ((x1 * (4:Int32)) + v.1), .ref 9], (H0 s v.2))) rfl hy43 ?_
  obtain ⟨y44, hy44, h⟩ := bind_eq_some_iff.mp h
  refine zB Ad W (f := fun y44 => (51, [vR 1, vI x1, none, vI x3, vI v.1], [], (H0x8 s v.2 y44))) rfl hy44 ?_
  refine zS Ad W 2 (st' := (25, [vR 1, vI x1, none, vI x3, vI (v.1 + (1:Int32))], [], (H0x8 s v.2 y44))) rfl ?_
  have E45 : ((H0x8 s v.2 y44) : QHeap) = (H0 s (s_snap v.2 y44)) := by simp only [fs, H0, H0v, H0x8, s_snap]
  rw [E45]
  obtain rfl := Option.some.inj h
  exact zM [tt,tt,ff,tt,tt] (hc ((v.1 + (1:Int32)), (s_snap v.2 y44)) rfl)
 ·refine zT Ad W (t := 57) (f := 31) rfl (XT.ii_ge_t hc42) ?_
  obtain rfl := Option.some.inj h
  obtain ⟨rfl, rfl⟩ := hx0 v.2 rfl
  exact QTri.ret0 rfl rfl
/-- storeSnap(II)V -/
def F7 (o : Ob) (x1 : Int32) (x2 : Int32) : Option (Ob) :=
 (F5 x2).bind fun r38 => (if r38 = (0:Int32) then some o else (if x1 < (0:Int32) then some o else (if x1 < (4:Int32) then (loopN (B7_25 x1 (x2 * (4:Int32))) qN ((0:Int32), o)).bind fun e46 => some e46 else some o)))
theorem tF7 (Ad : QAd n0 ad) (W : QW Z a0) (s : List Int32) (o : Ob) (x1 : Int32) (x2 : Int32) {r : Ob} (h : F7 o x1 x2 = some r) : QTri l Z n0 ad 7 (0, qentry [.ref 1, .int x1, .int x2] (pMaxL 7), [], (H0 s o)) (none : Option Value) (H0 s r) := by
 unfold F7 at h
 refine zS Ad W 2 (st' := (2, [vR 1, vI x1, vI x2, none, none], [.int x2, .ref 1], (H0 s o))) rfl ?_
 obtain ⟨r38, hr38, h⟩ := bind_eq_some_iff.mp h
 refine QTri.callP W (a := 1) (as := [.int x2]) (rest := []) (w := (some (.int r38))) (σ₁ := (H0 s o)) rfl rfl rfl rfl rfl rfl rfl rfl (tF5 Ad W x2 hr38) ?_
 rcases qite h with ⟨hc39, h⟩ | ⟨hc39, h⟩
 ·refine zT Ad W (t := 17) (f := 8) rfl (XT.i0_eq_t hc39) ?_
  obtain rfl := Option.some.inj h
  exact QTri.ret0 rfl rfl
 ·refine zF Ad W (t := 17) (f := 8) rfl (XT.i0_eq_f hc39) ?_
  refine zS Ad W 1 (st' := (9, [vR 1, vI x1, vI x2, none, none], [.int x1], (H0 s o))) rfl ?_
  rcases qite h with ⟨hc40, h⟩ | ⟨hc40, h⟩
  ·refine zT Ad W (t := 17) (f := 12) rfl (XT.i0_lt_t hc40) ?_
   obtain rfl := Option.some.inj h
   exact QTri.ret0 rfl rfl
  ·refine zF Ad W (t := 17) (f := 12) rfl (XT.i0_lt_f hc40) ?_
   refine zS Ad W 2 (st' := (14, [vR 1, vI x1, vI x2, none, none], [.int (4:Int32), .int x1], (H0 s o))) rfl ?_
   rcases qite h with ⟨hc41, h⟩ | ⟨hc41, h⟩
   ·refine zT Ad W (t := 18) (f := 17) rfl (XT.ii_lt_t hc41) ?_
    refine zS Ad W 6 (st' := (25, [vR 1, vI x1, vI x2, vI (x2 * (4:Int32)), vI (0:Int32)], [], (H0 s o))) rfl ?_
    obtain ⟨e46, he46, h⟩ := bind_eq_some_iff.mp h
    refine zM [tt,tt,ff,tt,tt] (loopN_tri (B := B7_25 x1 (x2 * (4:Int32))) (T := fun lv47 => QTri l Z n0 ad 7 (25, [vR 1, vI x1, none, vI (x2 * (4:Int32)), vI lv47.1], [], (H0 s lv47.2)) (none : Option Value) (H0 s r)) (KE := fun e46a => (none : Option Value) = (none : Option Value) ∧ (H0 s r) = (H0 s e46a)) (fun lv47 r hB hE hC => tB7_25 Ad W s x1 (x2 * (4:Int32)) lv47 hB (fun x q => hE _ q) (fun x q => hC x q)) qN ((0:Int32), o) e46 he46 ?_)
    obtain rfl := Option.some.inj h
    exact ⟨rfl, rfl⟩
   ·refine zF Ad W (t := 18) (f := 17) rfl (XT.ii_lt_f hc41) ?_
    obtain rfl := Option.some.inj h
    exact QTri.ret0 rfl rfl
/-- resetQuery(I)V -/
def F2 (o : Ob) (x1 : Int32) : Option (Ob) :=
 (if x1 < (0:Int32) then some o else (if x1 < (4:Int32) then (aset (f_frontSize o) x1 (0:Int32)).bind fun y13 => (aset (f_backSize o) x1 (0:Int32)).bind fun y14 => (F3 (s_backSize (s_frontSize o y13) y14) (1:Int32)).bind fun r26 => (F6 r26 x1 (1:Int32)).bind fun r37 => (F7 r37 x1 (1:Int32)).bind fun r48 => some r48 else some o))
theorem tF2 (Ad : QAd n0 ad) (W : QW Z a0) (s : List Int32) (o : Ob) (x1 : Int32) {r : Ob} (h : F2 o x1 = some r) : QTri l Z n0 ad 2 (0, qentry [.ref 1, .int x1] (pMaxL 2), [], (H0 s o)) (none : Option Value) (H0 s r) := by
 unfold F2 at h
 refine zS Ad W 1 (st' := (1, [vR 1, vI x1], [.int x1], (H0 s o))) rfl ?_
 rcases qite h with ⟨hc11, h⟩ | ⟨hc11, h⟩
 ·refine zT Ad W (t := 9) (f := 4) rfl (XT.i0_lt_t hc11) ?_
  obtain rfl := Option.some.inj h
  exact QTri.ret0 rfl rfl
 ·refine zF Ad W (t := 9) (f := 4) rfl (XT.i0_lt_f hc11) ?_
  refine zS Ad W 2 (st' := (6, [vR 1, vI x1], [.int (4:Int32), .int x1], (H0 s o))) rfl ?_
  rcases qite h with ⟨hc12, h⟩ | ⟨hc12, h⟩
  ·refine zT Ad W (t := 10) (f := 9) rfl (XT.ii_lt_t hc12) ?_
   refine zS Ad W 4 (st' := (16, [vR 1, vI x1], [.int (0:Int32), .int x1, .ref 4], (H0 s o))) rfl ?_
   obtain ⟨y13, hy13, h⟩ := bind_eq_some_iff.mp h
   refine zB Ad W (f := fun y13 => (17, [vR 1, vI x1], [], (H0x4 s o y13))) rfl hy13 ?_
   refine zS Ad W 4 (st' := (23, [vR 1, vI x1], [.int (0:Int32), .int x1, .ref 5], (H0x4 s o y13))) rfl ?_
   obtain ⟨y14, hy14, h⟩ := bind_eq_some_iff.mp h
   refine zB Ad W (f := fun y14 => (24, [vR 1, vI x1], [], (H0x5 s o y13 y14))) rfl hy14 ?_
   refine zS Ad W 2 (st' := (26, [vR 1, vI x1], [.int (1:Int32), .ref 1], (H0x5 s o y13 y14))) rfl ?_
   have E15 : ((H0x5 s o y13 y14) : QHeap) = (H0 s (s_backSize (s_frontSize o y13) y14)) := by simp only [fs, H0, H0v, H0x5, s_frontSize, s_backSize]
   rw [E15]
   obtain ⟨r26, hr26, h⟩ := bind_eq_some_iff.mp h
   refine QTri.callP W (a := 1) (as := [.int (1:Int32)]) (rest := []) (w := none) (σ₁ := (H0 s r26)) rfl rfl rfl rfl rfl rfl rfl rfl (tF3 Ad W s (s_backSize (s_frontSize o y13) y14) (1:Int32) hr26) ?_
   refine zS Ad W 3 (st' := (32, [vR 1, vI x1], [.int (1:Int32), .int x1, .ref 1], (H0 s r26))) rfl ?_
   obtain ⟨r37, hr37, h⟩ := bind_eq_some_iff.mp h
   refine QTri.callP W (a := 1) (as := [.int x1, .int (1:Int32)]) (rest := []) (w := none) (σ₁ := (H0 s r37)) rfl rfl rfl rfl rfl rfl rfl rfl (tF6 Ad W s r26 x1 (1:Int32) hr37) ?_
   refine zS Ad W 3 (st' := (38, [vR 1, vI x1], [.int (1:Int32), .int x1, .ref 1], (H0 s r37))) rfl ?_
   obtain ⟨r48, hr48, h⟩ := bind_eq_some_iff.mp h
   refine QTri.callP W (a := 1) (as := [.int x1, .int (1:Int32)]) (rest := []) (w := none) (σ₁ := (H0 s r48)) rfl rfl rfl rfl rfl rfl rfl rfl (tF7 Ad W s r37 x1 (1:Int32) hr48) ?_
   obtain rfl := Option.some.inj h
   exact QTri.ret0 rfl rfl
  ·refine zF Ad W (t := 10) (f := 9) rfl (XT.ii_lt_f hc12) ?_
   obtain rfl := Option.some.inj h
   exact QTri.ret0 rfl rfl
def B1_138 (v : Int32 × Ob) : Option (((Ob)) ⊕ (Int32 × Ob)) :=
  (if v.1 < (4 : Int32) then (F2 v.2 v.1).bind fun r49 => some (.inr ((v.1 + (1 : Int32)), r49)) else some (.inl v.2))
theorem tB1_138 (Ad : QAd n0 ad) (W : QW Z a0) (s : List Int32) (v : Int32 × Ob) {r : ((Ob)) ⊕ (Int32 × Ob)} {u : Option Value} {τ : QHeap} (h : B1_138 v = some r) (hx0 : ∀ x : Ob, r = .inl x → u = (none : Option Value) ∧ τ = (H0 s x)) (hc : ∀ x : Int32 × Ob, r = .inr x → QTri l Z n0 ad 1 (138, [vR 1, none, none, vI x.1], [], (H0 s x.2)) u τ) : QTri l Z n0 ad 1 (138, [vR 1, none, none, vI v.1], [], (H0 s v.2)) u τ := by
 unfold B1_138 at h
 refine zS Ad W 2 (st' := (140, [vR 1, none, none, vI v.1], [.int (4:Int32), .int v.1], (H0 s v.2))) rfl ?_
 rcases qite h with ⟨hc10, h⟩ | ⟨hc10, h⟩
 ·refine zF Ad W (t := 154) (f := 143) rfl (XT.ii_ge_f hc10) ?_
  refine zS Ad W 2 (st' := (145, [vR 1, none, none, vI v.1], [.int v.1, .ref 1], (H0 s v.2))) rfl ?_
  obtain ⟨r49, hr49, h⟩ := bind_eq_some_iff.mp h
  refine QTri.callP W (a := 1) (as := [.int v.1]) (rest := []) (w := none) (σ₁ := (H0 s r49)) rfl rfl rfl rfl rfl rfl rfl rfl (tF2 Ad W s v.2 v.1 hr49) ?_
  refine zS Ad W 2 (st' := (138, [vR 1, none, none, vI (v.1 + (1:Int32))], [], (H0 s r49))) rfl ?_
  obtain rfl := Option.some.inj h
  exact zM [tt,ff,ff,tt] (hc ((v.1 + (1:Int32)), r49) rfl)
 ·refine zT Ad W (t := 154) (f := 143) rfl (XT.ii_ge_t hc10) ?_
  obtain rfl := Option.some.inj h
  obtain ⟨rfl, rfl⟩ := hx0 v.2 rfl
  exact QTri.ret0 rfl rfl
/-- init(I)V -/
def F1 (x1 : Int32) : Option (Ob) :=
 (loopN (B1_138) qN ((0:Int32), (s_n (s_queries (s_capacity (s_reg (s_snap (s_backAgg (s_frontAgg (s_backElem (s_backSize (s_frontSize (s_slide (s_range (s_slots (s_regCount (s_regC (s_regB (s_regA (s_regTuple ob0 (0:Int32)) (1:Int32)) (2:Int32)) (3:Int32)) (4:Int32)) (32:Int32)) (List.replicate 4 0)) (List.replicate 4 0)) (List.replicate 4 0)) (List.replicate 4 0)) (List.replicate 512 0)) (List.replicate 512 0)) (List.replicate 16 0)) (List.replicate 16 0)) (List.replicate 16 0)) (if (4:Int32) < (if x1 < (1:Int32) then (1:Int32) else x1) then (4:Int32) else (if x1 < (1:Int32) then (1:Int32) else x1))) (0:Int32)) (0:Int32)))).bind fun e50 => some e50
theorem tF1 (Ad : QAd n0 ad) (W : QW Z a0) (s : List Int32) (x1 : Int32) {r : Ob} (h : F1 x1 = some r) : QTri l Z n0 ad 1 (0, qentry [.ref 1, .int x1] (pMaxL 1), [], [.inr (.inl (.int, s)), .inl [.int (f_regTuple ob0), .int (f_regA ob0), .int (f_regB ob0), .int (f_regC ob0), .int (f_regCount ob0), .int (f_slots ob0), .null, .null, .null, .null, .null, .null, .null, .null, .null, .int (f_capacity ob0), .int (f_queries ob0), .int (f_n ob0)]]) (none : Option Value) (H0 s r) := by
 unfold F1 at h
 refine zS Ad W 1 (st' := (1, [vR 1, vI x1, none, none], [.ref 1], [.inr (.inl (.int, s)), .inl [.int (f_regTuple ob0), .int (f_regA ob0), .int (f_regB ob0), .int (f_regC ob0), .int (f_regCount ob0), .int (f_slots ob0), .null, .null, .null, .null, .null, .null, .null, .null, .null, .int (f_capacity ob0), .int (f_queries ob0), .int (f_n ob0)]])) rfl ?_
 refine QTri.callO W rfl rfl rfl ?_
 refine zS Ad W 3 (st' := (9, [vR 1, vI x1, none, none], [], [.inr (.inl (.int, s)), .inl [.int (0:Int32), .int (f_regA ob0), .int (f_regB ob0), .int (f_regC ob0), .int (f_regCount ob0), .int (f_slots ob0), .null, .null, .null, .null, .null, .null, .null, .null, .null, .int (f_capacity ob0), .int (f_queries ob0), .int (f_n ob0)]])) rfl ?_
 refine zS Ad W 3 (st' := (14, [vR 1, vI x1, none, none], [], [.inr (.inl (.int, s)), .inl [.int (0:Int32), .int (1:Int32), .int (f_regB ob0), .int (f_regC ob0), .int (f_regCount ob0), .int (f_slots ob0), .null, .null, .null, .null, .null, .null, .null, .null, .null, .int (f_capacity ob0), .int (f_queries ob0), .int (f_n ob0)]])) rfl ?_
 refine zS Ad W 3 (st' := (19, [vR 1, vI x1, none, none], [], [.inr (.inl (.int, s)), .inl [.int (0:Int32), .int (1:Int32), .int (2:Int32), .int (f_regC ob0), .int (f_regCount ob0), .int (f_slots ob0), .null, .null, .null, .null, .null, .null, .null, .null, .null, .int (f_capacity ob0), .int (f_queries ob0), .int (f_n ob0)]])) rfl ?_
 refine zS Ad W 3 (st' := (24, [vR 1, vI x1, none, none], [], [.inr (.inl (.int, s)), .inl [.int (0:Int32), .int (1:Int32), .int (2:Int32), .int (3:Int32), .int (f_regCount ob0), .int (f_slots ob0), .null, .null, .null, .null, .null, .null, .null, .null, .null, .int (f_capacity ob0), .int (f_queries ob0), .int (f_n ob0)]])) rfl ?_
 refine zS Ad W 3 (st' := (29, [vR 1, vI x1, none, none], [], [.inr (.inl (.int, s)), .inl [.int (0:Int32), .int (1:Int32), .int (2:Int32), .int (3:Int32), .int (4:Int32), .int (f_slots ob0), .null, .null, .null, .null, .null, .null, .null, .null, .null, .int (f_capacity ob0), .int (f_queries ob0), .int (f_n ob0)]])) rfl ?_
 refine zS Ad W 3 (st' := (35, [vR 1, vI x1, none, none], [], [.inr (.inl (.int, s)), .inl [.int (0:Int32), .int (1:Int32), .int (2:Int32), .int (3:Int32), .int (4:Int32), .int (32:Int32), .null, .null, .null, .null, .null, .null, .null, .null, .null, .int (f_capacity ob0), .int (f_queries ob0), .int (f_n ob0)]])) rfl ?_
 refine zS Ad W 3 (st' := (39, [vR 1, vI x1, none, none], [.ref 2, .ref 1], [.inr (.inl (.int, s)), .inl [.int (0:Int32), .int (1:Int32), .int (2:Int32), .int (3:Int32), .int (4:Int32), .int (32:Int32), .null, .null, .null, .null, .null, .null, .null, .null, .null, .int (f_capacity ob0), .int (f_queries ob0), .int (f_n ob0)], .inr (.inl (.int, (List.replicate 4 0)))])) rfl ?_
 refine zS Ad W 1 (st' := (42, [vR 1, vI x1, none, none], [], [.inr (.inl (.int, s)), .inl [.int (0:Int32), .int (1:Int32), .int (2:Int32), .int (3:Int32), .int (4:Int32), .int (32:Int32), .ref 2, .null, .null, .null, .null, .null, .null, .null, .null, .int (f_capacity ob0), .int (f_queries ob0), .int (f_n ob0)], .inr (.inl (.int, (List.replicate 4 0)))])) rfl ?_
 refine zS Ad W 3 (st' := (46, [vR 1, vI x1, none, none], [.ref 3, .ref 1], [.inr (.inl (.int, s)), .inl [.int (0:Int32), .int (1:Int32), .int (2:Int32), .int (3:Int32), .int (4:Int32), .int (32:Int32), .ref 2, .null, .null, .null, .null, .null, .null, .null, .null, .int (f_capacity ob0), .int (f_queries ob0), .int (f_n ob0)], .inr (.inl (.int, (List.replicate 4 0))), .inr (.inl (.int, (List.replicate 4 0)))])) rfl ?_
 refine zS Ad W 1 (st' := (49, [vR 1, vI x1, none, none], [], [.inr (.inl (.int, s)), .inl [.int (0:Int32), .int (1:Int32), .int (2:Int32), .int (3:Int32), .int (4:Int32), .int (32:Int32), .ref 2, .ref 3, .null, .null, .null, .null, .null, .null, .null, .int (f_capacity ob0), .int (f_queries ob0), .int (f_n ob0)], .inr (.inl (.int, (List.replicate 4 0))), .inr (.inl (.int, (List.replicate 4 0)))])) rfl ?_
 refine zS Ad W 3 (st' := (53, [vR 1, vI x1, none, none], [.ref 4, .ref 1], [.inr (.inl (.int, s)), .inl [.int (0:Int32), .int (1:Int32), .int (2:Int32), .int (3:Int32), .int (4:Int32), .int (32:Int32), .ref 2, .ref 3, .null, .null, .null, .null, .null, .null, .null, .int (f_capacity ob0), .int (f_queries ob0), .int (f_n ob0)], .inr (.inl (.int, (List.replicate 4 0))), .inr (.inl (.int, (List.replicate 4 0))), .inr (.inl (.int, (List.replicate 4 0)))])) rfl ?_
 refine zS Ad W 1 (st' := (56, [vR 1, vI x1, none, none], [], [.inr (.inl (.int, s)), .inl [.int (0:Int32), .int (1:Int32), .int (2:Int32), .int (3:Int32), .int (4:Int32), .int (32:Int32), .ref 2, .ref 3, .ref 4, .null, .null, .null, .null, .null, .null, .int (f_capacity ob0), .int (f_queries ob0), .int (f_n ob0)], .inr (.inl (.int, (List.replicate 4 0))), .inr (.inl (.int, (List.replicate 4 0))), .inr (.inl (.int, (List.replicate 4 0)))])) rfl ?_
 refine zS Ad W 3 (st' := (60, [vR 1, vI x1, none, none], [.ref 5, .ref 1], [.inr (.inl (.int, s)), .inl [.int (0:Int32), .int (1:Int32), .int (2:Int32), .int (3:Int32), .int (4:Int32), .int (32:Int32), .ref 2, .ref 3, .ref 4, .null, .null, .null, .null, .null, .null, .int (f_capacity ob0), .int (f_queries ob0), .int (f_n ob0)], .inr (.inl (.int, (List.replicate 4 0))), .inr (.inl (.int, (List.replicate 4 0))), .inr (.inl (.int, (List.replicate 4 0))), .inr (.inl (.int, (List.replicate 4 0)))])) rfl ?_
 refine zS Ad W 1 (st' := (63, [vR 1, vI x1, none, none], [], [.inr (.inl (.int, s)), .inl [.int (0:Int32), .int (1:Int32), .int (2:Int32), .int (3:Int32), .int (4:Int32), .int (32:Int32), .ref 2, .ref 3, .ref 4, .ref 5, .null, .null, .null, .null, .null, .int (f_capacity ob0), .int (f_queries ob0), .int (f_n ob0)], .inr (.inl (.int, (List.replicate 4 0))), .inr (.inl (.int, (List.replicate 4 0))), .inr (.inl (.int, (List.replicate 4 0))), .inr (.inl (.int, (List.replicate 4 0)))])) rfl ?_
 refine zS Ad W 3 (st' := (69, [vR 1, vI x1, none, none], [.ref 6, .ref 1], [.inr (.inl (.int, s)), .inl [.int (0:Int32), .int (1:Int32), .int (2:Int32), .int (3:Int32), .int (4:Int32), .int (32:Int32), .ref 2, .ref 3, .ref 4, .ref 5, .null, .null, .null, .null, .null, .int (f_capacity ob0), .int (f_queries ob0), .int (f_n ob0)], .inr (.inl (.int, (List.replicate 4 0))), .inr (.inl (.int, (List.replicate 4 0))), .inr (.inl (.int, (List.replicate 4 0))), .inr (.inl (.int, (List.replicate 4 0))), .inr (.inl (.int, (List.replicate 512 0)))])) rfl ?_
 refine zS Ad W 1 (st' := (72, [vR 1, vI x1, none, none], [], [.inr (.inl (.int, s)), .inl [.int (0:Int32), .int (1:Int32), .int (2:Int32), .int (3:Int32), .int (4:Int32), .int (32:Int32), .ref 2, .ref 3, .ref 4, .ref 5, .ref 6, .null, .null, .null, .null, .int (f_capacity ob0), .int (f_queries ob0), .int (f_n ob0)], .inr (.inl (.int, (List.replicate 4 0))), .inr (.inl (.int, (List.replicate 4 0))), .inr (.inl (.int, (List.replicate 4 0))), .inr (.inl (.int, (List.replicate 4 0))), .inr (.inl (.int, (List.replicate 512 0)))])) rfl ?_
 refine zS Ad W 3 (st' := (78, [vR 1, vI x1, none, none], [.ref 7, .ref 1], [.inr (.inl (.int, s)), .inl [.int (0:Int32), .int (1:Int32), .int (2:Int32), .int (3:Int32), .int (4:Int32), .int (32:Int32), .ref 2, .ref 3, .ref 4, .ref 5, .ref 6, .null, .null, .null, .null, .int (f_capacity ob0), .int (f_queries ob0), .int (f_n ob0)], .inr (.inl (.int, (List.replicate 4 0))), .inr (.inl (.int, (List.replicate 4 0))), .inr (.inl (.int, (List.replicate 4 0))), .inr (.inl (.int, (List.replicate 4 0))), .inr (.inl (.int, (List.replicate 512 0))), .inr (.inl (.int, (List.replicate 512 0)))])) rfl ?_
 refine zS Ad W 1 (st' := (81, [vR 1, vI x1, none, none], [], [.inr (.inl (.int, s)), .inl [.int (0:Int32), .int (1:Int32), .int (2:Int32), .int (3:Int32), .int (4:Int32), .int (32:Int32), .ref 2, .ref 3, .ref 4, .ref 5, .ref 6, .ref 7, .null, .null, .null, .int (f_capacity ob0), .int (f_queries ob0), .int (f_n ob0)], .inr (.inl (.int, (List.replicate 4 0))), .inr (.inl (.int, (List.replicate 4 0))), .inr (.inl (.int, (List.replicate 4 0))), .inr (.inl (.int, (List.replicate 4 0))), .inr (.inl (.int, (List.replicate 512 0))), .inr (.inl (.int, (List.replicate 512 0)))])) rfl ?_
 refine zS Ad W 3 (st' := (86, [vR 1, vI x1, none, none], [.ref 8, .ref 1], [.inr (.inl (.int, s)), .inl [.int (0:Int32), .int (1:Int32), .int (2:Int32), .int (3:Int32), .int (4:Int32), .int (32:Int32), .ref 2, .ref 3, .ref 4, .ref 5, .ref 6, .ref 7, .null, .null, .null, .int (f_capacity ob0), .int (f_queries ob0), .int (f_n ob0)], .inr (.inl (.int, (List.replicate 4 0))), .inr (.inl (.int, (List.replicate 4 0))), .inr (.inl (.int, (List.replicate 4 0))), .inr (.inl (.int, (List.replicate 4 0))), .inr (.inl (.int, (List.replicate 512 0))), .inr (.inl (.int, (List.replicate 512 0))), .inr (.inl (.int, (List.replicate 16 0)))])) rfl ?_
 refine zS Ad W 1 (st' := (89, [vR 1, vI x1, none, none], [], [.inr (.inl (.int, s)), .inl [.int (0:Int32), .int (1:Int32), .int (2:Int32), .int (3:Int32), .int (4:Int32), .int (32:Int32), .ref 2, .ref 3, .ref 4, .ref 5, .ref 6, .ref 7, .ref 8, .null, .null, .int (f_capacity ob0), .int (f_queries ob0), .int (f_n ob0)], .inr (.inl (.int, (List.replicate 4 0))), .inr (.inl (.int, (List.replicate 4 0))), .inr (.inl (.int, (List.replicate 4 0))), .inr (.inl (.int, (List.replicate 4 0))), .inr (.inl (.int, (List.replicate 512 0))), .inr (.inl (.int, (List.replicate 512 0))), .inr (.inl (.int, (List.replicate 16 0)))])) rfl ?_
 refine zS Ad W 3 (st' := (94, [vR 1, vI x1, none, none], [.ref 9, .ref 1], [.inr (.inl (.int, s)), .inl [.int (0:Int32), .int (1:Int32), .int (2:Int32), .int (3:Int32), .int (4:Int32), .int (32:Int32), .ref 2, .ref 3, .ref 4, .ref 5, .ref 6, .ref 7, .ref 8, .null, .null, .int (f_capacity ob0), .int (f_queries ob0), .int (f_n ob0)], .inr (.inl (.int, (List.replicate 4 0))), .inr (.inl (.int, (List.replicate 4 0))), .inr (.inl (.int, (List.replicate 4 0))), .inr (.inl (.int, (List.replicate 4 0))), .inr (.inl (.int, (List.replicate 512 0))), .inr (.inl (.int, (List.replicate 512 0))), .inr (.inl (.int, (List.replicate 16 0))), .inr (.inl (.int, (List.replicate 16 0)))])) rfl ?_
 refine zS Ad W 1 (st' := (97, [vR 1, vI x1, none, none], [], [.inr (.inl (.int, s)), .inl [.int (0:Int32), .int (1:Int32), .int (2:Int32), .int (3:Int32), .int (4:Int32), .int (32:Int32), .ref 2, .ref 3, .ref 4, .ref 5, .ref 6, .ref 7, .ref 8, .ref 9, .null, .int (f_capacity ob0), .int (f_queries ob0), .int (f_n ob0)], .inr (.inl (.int, (List.replicate 4 0))), .inr (.inl (.int, (List.replicate 4 0))), .inr (.inl (.int, (List.replicate 4 0))), .inr (.inl (.int, (List.replicate 4 0))), .inr (.inl (.int, (List.replicate 512 0))), .inr (.inl (.int, (List.replicate 512 0))), .inr (.inl (.int, (List.replicate 16 0))), .inr (.inl (.int, (List.replicate 16 0)))])) rfl ?_
 refine zS Ad W 3 (st' := (102, [vR 1, vI x1, none, none], [.ref 10, .ref 1], [.inr (.inl (.int, s)), .inl [.int (0:Int32), .int (1:Int32), .int (2:Int32), .int (3:Int32), .int (4:Int32), .int (32:Int32), .ref 2, .ref 3, .ref 4, .ref 5, .ref 6, .ref 7, .ref 8, .ref 9, .null, .int (f_capacity ob0), .int (f_queries ob0), .int (f_n ob0)], .inr (.inl (.int, (List.replicate 4 0))), .inr (.inl (.int, (List.replicate 4 0))), .inr (.inl (.int, (List.replicate 4 0))), .inr (.inl (.int, (List.replicate 4 0))), .inr (.inl (.int, (List.replicate 512 0))), .inr (.inl (.int, (List.replicate 512 0))), .inr (.inl (.int, (List.replicate 16 0))), .inr (.inl (.int, (List.replicate 16 0))), .inr (.inl (.int, (List.replicate 16 0)))])) rfl ?_
 refine zS Ad W 1 (st' := (105, [vR 1, vI x1, none, none], [], (H0x0 s ob0 (0:Int32) (1:Int32) (2:Int32) (3:Int32) (4:Int32) (32:Int32) (List.replicate 4 0) (List.replicate 4 0) (List.replicate 4 0) (List.replicate 4 0) (List.replicate 512 0) (List.replicate 512 0) (List.replicate 16 0) (List.replicate 16 0) (List.replicate 16 0)))) rfl ?_
 refine zS Ad W 4 (st' := (109, [vR 1, vI x1, vI x1, none], [.int (1:Int32), .int x1], (H0x0 s ob0 (0:Int32) (1:Int32) (2:Int32) (3:Int32) (4:Int32) (32:Int32) (List.replicate 4 0) (List.replicate 4 0) (List.replicate 4 0) (List.replicate 4 0) (List.replicate 512 0) (List.replicate 512 0) (List.replicate 16 0) (List.replicate 16 0) (List.replicate 16 0)))) rfl ?_
 have K4 : ∀ z3 : Int32, z3 = (if x1 < (1:Int32) then (1:Int32) else x1) → QTri l Z n0 ad 1 (114, [vR 1, none, vI z3, none], [], (H0x0 s ob0 (0:Int32) (1:Int32) (2:Int32) (3:Int32) (4:Int32) (32:Int32) (List.replicate 4 0) (List.replicate 4 0) (List.replicate 4 0) (List.replicate 4 0) (List.replicate 512 0) (List.replicate 512 0) (List.replicate 16 0) (List.replicate 16 0) (List.replicate 16 0))) (none : Option Value) (H0 s r) := by
  intro z3 ez3
  subst ez3
  refine zS Ad W 2 (st' := (116, [vR 1, none, vI (if x1 < (1:Int32) then (1:Int32) else x1), none], [.int (4:Int32), .int (if x1 < (1:Int32) then (1:Int32) else x1)], (H0x0 s ob0 (0:Int32) (1:Int32) (2:Int32) (3:Int32) (4:Int32) (32:Int32) (List.replicate 4 0) (List.replicate 4 0) (List.replicate 4 0) (List.replicate 4 0) (List.replicate 512 0) (List.replicate 512 0) (List.replicate 16 0) (List.replicate 16 0) (List.replicate 16 0)))) rfl ?_
  have K7 : ∀ z6 : Int32, z6 = (if (4:Int32) < (if x1 < (1:Int32) then (1:Int32) else x1) then (4:Int32) else (if x1 < (1:Int32) then (1:Int32) else x1)) → QTri l Z n0 ad 1 (121, [vR 1, none, vI z6, none], [], (H0x0 s ob0 (0:Int32) (1:Int32) (2:Int32) (3:Int32) (4:Int32) (32:Int32) (List.replicate 4 0) (List.replicate 4 0) (List.replicate 4 0) (List.replicate 4 0) (List.replicate 512 0) (List.replicate 512 0) (List.replicate 16 0) (List.replicate 16 0) (List.replicate 16 0))) (none : Option Value) (H0 s r) := by
   intro z6 ez6
   subst ez6
   refine zS Ad W 3 (st' := (126, [vR 1, none, vI (if (4:Int32) < (if x1 < (1:Int32) then (1:Int32) else x1) then (4:Int32) else (if x1 < (1:Int32) then (1:Int32) else x1)), none], [], (H0x1 s ob0 (0:Int32) (1:Int32) (2:Int32) (3:Int32) (4:Int32) (32:Int32) (List.replicate 4 0) (List.replicate 4 0) (List.replicate 4 0) (List.replicate 4 0) (List.replicate 512 0) (List.replicate 512 0) (List.replicate 16 0) (List.replicate 16 0) (List.replicate 16 0) (if (4:Int32) < (if x1 < (1:Int32) then (1:Int32) else x1) then (4:Int32) else (if x1 < (1:Int32) then (1:Int32) else x1))))) rfl ?_
   refine zS Ad W 3 (st' := (131, [vR 1, none, vI (if (4:Int32) < (if x1 < (1:Int32) then (1:Int32) else x1) then (4:Int32) else (if x1 < (1:Int32) then (1:Int32) else x1)), none], [], (H0x2 s ob0 (0:Int32) (1:Int32) (2:Int32) (3:Int32) (4:Int32) (32:Int32) (List.replicate 4 0) (List.replicate 4 0) (List.replicate 4 0) (List.replicate 4 0) (List.replicate 512 0) (List.replicate 512 0) (List.replicate 16 0) (List.replicate 16 0) (List.replicate 16 0) (if (4:Int32) < (if x1 < (1:Int32) then (1:Int32) else x1) then (4:Int32) else (if x1 < (1:Int32) then (1:Int32) else x1)) (0:Int32)))) rfl ?_
   refine zS Ad W 3 (st' := (136, [vR 1, none, vI (if (4:Int32) < (if x1 < (1:Int32) then (1:Int32) else x1) then (4:Int32) else (if x1 < (1:Int32) then (1:Int32) else x1)), none], [], (H0x3 s ob0 (0:Int32) (1:Int32) (2:Int32) (3:Int32) (4:Int32) (32:Int32) (List.replicate 4 0) (List.replicate 4 0) (List.replicate 4 0) (List.replicate 4 0) (List.replicate 512 0) (List.replicate 512 0) (List.replicate 16 0) (List.replicate 16 0) (List.replicate 16 0) (if (4:Int32) < (if x1 < (1:Int32) then (1:Int32) else x1) then (4:Int32) else (if x1 < (1:Int32) then (1:Int32) else x1)) (0:Int32) (0:Int32)))) rfl ?_
   refine zS Ad W 2 (st' := (138, [vR 1, none, vI (if (4:Int32) < (if x1 < (1:Int32) then (1:Int32) else x1) then (4:Int32) else (if x1 < (1:Int32) then (1:Int32) else x1)), vI (0:Int32)], [], (H0x3 s ob0 (0:Int32) (1:Int32) (2:Int32) (3:Int32) (4:Int32) (32:Int32) (List.replicate 4 0) (List.replicate 4 0) (List.replicate 4 0) (List.replicate 4 0) (List.replicate 512 0) (List.replicate 512 0) (List.replicate 16 0) (List.replicate 16 0) (List.replicate 16 0) (if (4:Int32) < (if x1 < (1:Int32) then (1:Int32) else x1) then (4:Int32) else (if x1 < (1:Int32) then (1:Int32) else x1)) (0:Int32) (0:Int32)))) rfl ?_
   have E9 : ((H0x3 s ob0 (0:Int32) (1:Int32) (2:Int32) (3:Int32) (4:Int32) (32:Int32) (List.replicate 4 0) (List.replicate 4 0) (List.replicate 4 0) (List.replicate 4 0) (List.replicate 512 0) (List.replicate 512 0) (List.replicate 16 0) (List.replicate 16 0) (List.replicate 16 0) (if (4:Int32) < (if x1 < (1:Int32) then (1:Int32) else x1) then (4:Int32) else (if x1 < (1:Int32) then (1:Int32) else x1)) (0:Int32) (0:Int32)) : QHeap) = (H0 s (s_n (s_queries (s_capacity (s_reg (s_snap (s_backAgg (s_frontAgg (s_backElem (s_backSize (s_frontSize (s_slide (s_range (s_slots (s_regCount (s_regC (s_regB (s_regA (s_regTuple ob0 (0:Int32)) (1:Int32)) (2:Int32)) (3:Int32)) (4:Int32)) (32:Int32)) (List.replicate 4 0)) (List.replicate 4 0)) (List.replicate 4 0)) (List.replicate 4 0)) (List.replicate 512 0)) (List.replicate 512 0)) (List.replicate 16 0)) (List.replicate 16 0)) (List.replicate 16 0)) (if (4:Int32) < (if x1 < (1:Int32) then (1:Int32) else x1) then (4:Int32) else (if x1 < (1:Int32) then (1:Int32) else x1))) (0:Int32)) (0:Int32))) := by simp only [fs, H0, H0v, H0x3, s_regTuple, s_regA, s_regB, s_regC, s_regCount, s_slots, s_range, s_slide, s_frontSize, s_backSize, s_backElem, s_frontAgg, s_backAgg, s_snap, s_reg, s_capacity, s_queries, s_n, ob0]
   rw [E9]
   obtain ⟨e50, he50, h⟩ := bind_eq_some_iff.mp h
   refine zM [tt,ff,ff,tt] (loopN_tri (B := B1_138) (T := fun lv51 => QTri l Z n0 ad 1 (138, [vR 1, none, none, vI lv51.1], [], (H0 s lv51.2)) (none : Option Value) (H0 s r)) (KE := fun e50a => (none : Option Value) = (none : Option Value) ∧ (H0 s r) = (H0 s e50a)) (fun lv51 r hB hE hC => tB1_138 Ad W s lv51 hB (fun x q => hE _ q) (fun x q => hC x q)) qN ((0:Int32), (s_n (s_queries (s_capacity (s_reg (s_snap (s_backAgg (s_frontAgg (s_backElem (s_backSize (s_frontSize (s_slide (s_range (s_slots (s_regCount (s_regC (s_regB (s_regA (s_regTuple ob0 (0:Int32)) (1:Int32)) (2:Int32)) (3:Int32)) (4:Int32)) (32:Int32)) (List.replicate 4 0)) (List.replicate 4 0)) (List.replicate 4 0)) (List.replicate 4 0)) (List.replicate 512 0)) (List.replicate 512 0)) (List.replicate 16 0)) (List.replicate 16 0)) (List.replicate 16 0)) (if (4:Int32) < (if x1 < (1:Int32) then (1:Int32) else x1) then (4:Int32) else (if x1 < (1:Int32) then (1:Int32) else x1))) (0:Int32)) (0:Int32))) e50 he50 ?_)
   obtain rfl := Option.some.inj h
   exact ⟨rfl, rfl⟩
  rcases em ((4:Int32) < (if x1 < (1:Int32) then (1:Int32) else x1)) with hc8 | hc8
  ·refine zF Ad W (t := 121) (f := 119) rfl (XT.ii_le_f hc8) ?_
   refine zS Ad W 2 (st' := (121, [vR 1, none, vI (4:Int32), none], [], (H0x0 s ob0 (0:Int32) (1:Int32) (2:Int32) (3:Int32) (4:Int32) (32:Int32) (List.replicate 4 0) (List.replicate 4 0) (List.replicate 4 0) (List.replicate 4 0) (List.replicate 512 0) (List.replicate 512 0) (List.replicate 16 0) (List.replicate 16 0) (List.replicate 16 0)))) rfl ?_
   exact zM [tt,ff,tt,ff] (K7 _ (if_pos hc8).symm)
  ·refine zT Ad W (t := 121) (f := 119) rfl (XT.ii_le_t hc8) ?_
   exact zM [tt,ff,tt,ff] (K7 _ (if_neg hc8).symm)
 rcases em (x1 < (1:Int32)) with hc5 | hc5
 ·refine zF Ad W (t := 114) (f := 112) rfl (XT.ii_ge_f hc5) ?_
  refine zS Ad W 2 (st' := (114, [vR 1, vI x1, vI (1:Int32), none], [], (H0x0 s ob0 (0:Int32) (1:Int32) (2:Int32) (3:Int32) (4:Int32) (32:Int32) (List.replicate 4 0) (List.replicate 4 0) (List.replicate 4 0) (List.replicate 4 0) (List.replicate 512 0) (List.replicate 512 0) (List.replicate 16 0) (List.replicate 16 0) (List.replicate 16 0)))) rfl ?_
  exact zM [tt,ff,tt,ff] (K4 _ (if_pos hc5).symm)
 ·refine zT Ad W (t := 114) (f := 112) rfl (XT.ii_ge_t hc5) ?_
  exact zM [tt,ff,tt,ff] (K4 _ (if_neg hc5).symm)
def H0x9 (s : List Int32) (o0 : Ob) (a0_6 : List Int32) : QHeap := H0v s (f_regTuple o0) (f_regA o0) (f_regB o0) (f_regC o0) (f_regCount o0) (f_slots o0) a0_6 (f_slide o0) (f_frontSize o0) (f_backSize o0) (f_backElem o0) (f_frontAgg o0) (f_backAgg o0) (f_snap o0) (f_reg o0) (f_capacity o0) (f_queries o0) (f_n o0)
def H0x10 (s : List Int32) (o0 : Ob) (a0_6 : List Int32) (a0_7 : List Int32) : QHeap := H0v s (f_regTuple o0) (f_regA o0) (f_regB o0) (f_regC o0) (f_regCount o0) (f_slots o0) a0_6 a0_7 (f_frontSize o0) (f_backSize o0) (f_backElem o0) (f_frontAgg o0) (f_backAgg o0) (f_snap o0) (f_reg o0) (f_capacity o0) (f_queries o0) (f_n o0)
def H0x11 (s : List Int32) (o0 : Ob) (a0_16 : Int32) : QHeap := H0v s (f_regTuple o0) (f_regA o0) (f_regB o0) (f_regC o0) (f_regCount o0) (f_slots o0) (f_range o0) (f_slide o0) (f_frontSize o0) (f_backSize o0) (f_backElem o0) (f_frontAgg o0) (f_backAgg o0) (f_snap o0) (f_reg o0) (f_capacity o0) a0_16 (f_n o0)
/-- addQuery(II)I -/
def F21 (o : Ob) (x1 : Int32) (x2 : Int32) : Option (Int32 × Ob) :=
 (if (f_n o) = (0:Int32) then (if (f_queries o) < (f_capacity o) then (if x1 < (1:Int32) then some ((-1:Int32), o) else (if (32:Int32) < x1 then some ((-1:Int32), o) else (if x2 < (1:Int32) then some ((-1:Int32), o) else (if (32:Int32) < x2 then some ((-1:Int32), o) else (aset (f_range o) (f_queries o) x1).bind fun y75 => (aset (f_slide o) (f_queries o) x2).bind fun y76 => (F2 (s_slide (s_range o y75) y76) (f_queries o)).bind fun r78 => some ((f_queries o), (s_queries r78 ((f_queries r78) + (1:Int32)))))))) else some ((-1:Int32), o)) else some ((-1:Int32), o))
theorem tF21 (Ad : QAd n0 ad) (W : QW Z a0) (s : List Int32) (o : Ob) (x1 : Int32) (x2 : Int32) {r : Int32 × Ob} (h : F21 o x1 x2 = some r) : QTri l Z n0 ad 21 (0, qentry [.ref 1, .int x1, .int x2] (pMaxL 21), [], (H0 s o)) (some (Value.int r.1)) (H0 s r.2) := by
 unfold F21 at h
 refine zS Ad W 2 (st' := (4, [vR 1, vI x1, vI x2, none], [.int (f_n o)], (H0 s o))) rfl ?_
 rcases qite h with ⟨hc69, h⟩ | ⟨hc69, h⟩
 ·refine zT Ad W (t := 9) (f := 7) rfl (XT.i0_eq_t hc69) ?_
  refine zS Ad W 4 (st' := (17, [vR 1, vI x1, vI x2, none], [.int (f_capacity o), .int (f_queries o)], (H0 s o))) rfl ?_
  rcases qite h with ⟨hc70, h⟩ | ⟨hc70, h⟩
  ·refine zT Ad W (t := 22) (f := 20) rfl (XT.ii_lt_t hc70) ?_
   refine zS Ad W 2 (st' := (24, [vR 1, vI x1, vI x2, none], [.int (1:Int32), .int x1], (H0 s o))) rfl ?_
   rcases qite h with ⟨hc71, h⟩ | ⟨hc71, h⟩
   ·refine zT Ad W (t := 33) (f := 27) rfl (XT.ii_lt_t hc71) ?_
    refine zS Ad W 1 (st' := (34, [vR 1, vI x1, vI x2, none], [.int (-1:Int32)], (H0 s o))) rfl ?_
    obtain rfl := Option.some.inj h
    exact QTri.retI rfl rfl
   ·refine zF Ad W (t := 33) (f := 27) rfl (XT.ii_lt_f hc71) ?_
    refine zS Ad W 2 (st' := (30, [vR 1, vI x1, vI x2, none], [.int (32:Int32), .int x1], (H0 s o))) rfl ?_
    rcases qite h with ⟨hc72, h⟩ | ⟨hc72, h⟩
    ·refine zF Ad W (t := 35) (f := 33) rfl (XT.ii_le_f hc72) ?_
     refine zS Ad W 1 (st' := (34, [vR 1, vI x1, vI x2, none], [.int (-1:Int32)], (H0 s o))) rfl ?_
     obtain rfl := Option.some.inj h
     exact QTri.retI rfl rfl
    ·refine zT Ad W (t := 35) (f := 33) rfl (XT.ii_le_t hc72) ?_
     refine zS Ad W 2 (st' := (37, [vR 1, vI x1, vI x2, none], [.int (1:Int32), .int x2], (H0 s o))) rfl ?_
     rcases qite h with ⟨hc73, h⟩ | ⟨hc73, h⟩
     ·refine zT Ad W (t := 46) (f := 40) rfl (XT.ii_lt_t hc73) ?_
      refine zS Ad W 1 (st' := (47, [vR 1, vI x1, vI x2, none], [.int (-1:Int32)], (H0 s o))) rfl ?_
      obtain rfl := Option.some.inj h
      exact QTri.retI rfl rfl
     ·refine zF Ad W (t := 46) (f := 40) rfl (XT.ii_lt_f hc73) ?_
      refine zS Ad W 2 (st' := (43, [vR 1, vI x1, vI x2, none], [.int (32:Int32), .int x2], (H0 s o))) rfl ?_
      rcases qite h with ⟨hc74, h⟩ | ⟨hc74, h⟩
      ·refine zF Ad W (t := 48) (f := 46) rfl (XT.ii_le_f hc74) ?_
       refine zS Ad W 1 (st' := (47, [vR 1, vI x1, vI x2, none], [.int (-1:Int32)], (H0 s o))) rfl ?_
       obtain rfl := Option.some.inj h
       exact QTri.retI rfl rfl
      ·refine zT Ad W (t := 48) (f := 46) rfl (XT.ii_le_t hc74) ?_
       refine zS Ad W 7 (st' := (59, [vR 1, vI x1, vI x2, vI (f_queries o)], [.int x1, .int (f_queries o), .ref 2], (H0 s o))) rfl ?_
       obtain ⟨y75, hy75, h⟩ := bind_eq_some_iff.mp h
       refine zB Ad W (f := fun y75 => (60, [vR 1, vI x1, vI x2, vI (f_queries o)], [], (H0x9 s o y75))) rfl hy75 ?_
       refine zS Ad W 4 (st' := (66, [vR 1, vI x1, vI x2, vI (f_queries o)], [.int x2, .int (f_queries o), .ref 3], (H0x9 s o y75))) rfl ?_
       obtain ⟨y76, hy76, h⟩ := bind_eq_some_iff.mp h
       refine zB Ad W (f := fun y76 => (67, [vR 1, vI x1, vI x2, vI (f_queries o)], [], (H0x10 s o y75 y76))) rfl hy76 ?_
       refine zS Ad W 2 (st' := (69, [vR 1, vI x1, vI x2, vI (f_queries o)], [.int (f_queries o), .ref 1], (H0x10 s o y75 y76))) rfl ?_
       have E77 : ((H0x10 s o y75 y76) : QHeap) = (H0 s (s_slide (s_range o y75) y76)) := by simp only [fs, H0, H0v, H0x10, s_range, s_slide]
       rw [E77]
       obtain ⟨r78, hr78, h⟩ := bind_eq_some_iff.mp h
       refine QTri.callP W (a := 1) (as := [.int (f_queries o)]) (rest := []) (w := none) (σ₁ := (H0 s r78)) rfl rfl rfl rfl rfl rfl rfl rfl (tF2 Ad W s (s_slide (s_range o y75) y76) (f_queries o) hr78) ?_
       refine zS Ad W 6 (st' := (82, [vR 1, vI x1, vI x2, vI (f_queries o)], [], (H0x11 s r78 ((f_queries r78) + (1:Int32))))) rfl ?_
       refine zS Ad W 1 (st' := (83, [vR 1, vI x1, vI x2, vI (f_queries o)], [.int (f_queries o)], (H0x11 s r78 ((f_queries r78) + (1:Int32))))) rfl ?_
       have E79 : ((H0x11 s r78 ((f_queries r78) + (1:Int32))) : QHeap) = (H0 s (s_queries r78 ((f_queries r78) + (1:Int32)))) := by simp only [fs, H0, H0v, H0x11, s_queries]
       rw [E79]
       obtain rfl := Option.some.inj h
       exact QTri.retI rfl rfl
  ·refine zF Ad W (t := 22) (f := 20) rfl (XT.ii_lt_f hc70) ?_
   refine zS Ad W 1 (st' := (21, [vR 1, vI x1, vI x2, none], [.int (-1:Int32)], (H0 s o))) rfl ?_
   obtain rfl := Option.some.inj h
   exact QTri.retI rfl rfl
 ·refine zF Ad W (t := 9) (f := 7) rfl (XT.i0_eq_f hc69) ?_
  refine zS Ad W 1 (st' := (8, [vR 1, vI x1, vI x2, none], [.int (-1:Int32)], (H0 s o))) rfl ?_
  obtain rfl := Option.some.inj h
  exact QTri.retI rfl rfl
/-- tupleCount()I -/
def F10 (o : Ob) : Option (Int32) :=
 some (f_n o)
theorem tF10 (Ad : QAd n0 ad) (W : QW Z a0) (s : List Int32) (o : Ob) {r : Int32} (h : F10 o = some r) : QTri l Z n0 ad 10 (0, qentry [.ref 1] (pMaxL 10), [], (H0 s o)) (some (Value.int r)) (H0 s o) := by
 unfold F10 at h
 refine zS Ad W 2 (st' := (4, [vR 1], [.int (f_n o)], (H0 s o))) rfl ?_
 obtain rfl := Option.some.inj h
 exact QTri.retI rfl rfl
/-- queryCount()I -/
def F11 (o : Ob) : Option (Int32) :=
 some (f_queries o)
theorem tF11 (Ad : QAd n0 ad) (W : QW Z a0) (s : List Int32) (o : Ob) {r : Int32} (h : F11 o = some r) : QTri l Z n0 ad 11 (0, qentry [.ref 1] (pMaxL 11), [], (H0 s o)) (some (Value.int r)) (H0 s o) := by
 unfold F11 at h
 refine zS Ad W 2 (st' := (4, [vR 1], [.int (f_queries o)], (H0 s o))) rfl ?_
 obtain rfl := Option.some.inj h
 exact QTri.retI rfl rfl
/-- validQuery(I)Z -/
def F14 (o : Ob) (x1 : Int32) : Option (Int32) :=
 (if x1 < (0:Int32) then some (0:Int32) else (if x1 < (f_queries o) then (if x1 < (4:Int32) then some (1:Int32) else some (0:Int32)) else some (0:Int32)))
theorem tF14 (Ad : QAd n0 ad) (W : QW Z a0) (s : List Int32) (o : Ob) (x1 : Int32) {r : Int32} (h : F14 o x1 = some r) : QTri l Z n0 ad 14 (0, qentry [.ref 1, .int x1] (pMaxL 14), [], (H0 s o)) (some (Value.int r)) (H0 s o) := by
 unfold F14 at h
 refine zS Ad W 1 (st' := (1, [vR 1, vI x1], [.int x1], (H0 s o))) rfl ?_
 rcases qite h with ⟨hc91, h⟩ | ⟨hc91, h⟩
 ·refine zT Ad W (t := 21) (f := 4) rfl (XT.i0_lt_t hc91) ?_
  refine zS Ad W 1 (st' := (22, [vR 1, vI x1], [.int (0:Int32)], (H0 s o))) rfl ?_
  obtain rfl := Option.some.inj h
  exact QTri.retZ rfl rfl
 ·refine zF Ad W (t := 21) (f := 4) rfl (XT.i0_lt_f hc91) ?_
  refine zS Ad W 3 (st' := (9, [vR 1, vI x1], [.int (f_queries o), .int x1], (H0 s o))) rfl ?_
  rcases qite h with ⟨hc92, h⟩ | ⟨hc92, h⟩
  ·refine zF Ad W (t := 21) (f := 12) rfl (XT.ii_ge_f hc92) ?_
   refine zS Ad W 2 (st' := (14, [vR 1, vI x1], [.int (4:Int32), .int x1], (H0 s o))) rfl ?_
   rcases qite h with ⟨hc93, h⟩ | ⟨hc93, h⟩
   ·refine zF Ad W (t := 21) (f := 17) rfl (XT.ii_ge_f hc93) ?_
    refine zS Ad W 2 (st' := (22, [vR 1, vI x1], [.int (1:Int32)], (H0 s o))) rfl ?_
    obtain rfl := Option.some.inj h
    exact QTri.retZ rfl rfl
   ·refine zT Ad W (t := 21) (f := 17) rfl (XT.ii_ge_t hc93) ?_
    refine zS Ad W 1 (st' := (22, [vR 1, vI x1], [.int (0:Int32)], (H0 s o))) rfl ?_
    obtain rfl := Option.some.inj h
    exact QTri.retZ rfl rfl
  ·refine zT Ad W (t := 21) (f := 12) rfl (XT.ii_ge_t hc92) ?_
   refine zS Ad W 1 (st' := (22, [vR 1, vI x1], [.int (0:Int32)], (H0 s o))) rfl ?_
   obtain rfl := Option.some.inj h
   exact QTri.retZ rfl rfl
/-- queryRange(I)I -/
def F13 (o : Ob) (x1 : Int32) : Option (Int32) :=
 (F14 o x1).bind fun r94 => (if r94 = (0:Int32) then some (-1:Int32) else (aget (f_range o) x1).bind fun y96 => some y96)
theorem tF13 (Ad : QAd n0 ad) (W : QW Z a0) (s : List Int32) (o : Ob) (x1 : Int32) {r : Int32} (h : F13 o x1 = some r) : QTri l Z n0 ad 13 (0, qentry [.ref 1, .int x1] (pMaxL 13), [], (H0 s o)) (some (Value.int r)) (H0 s o) := by
 unfold F13 at h
 refine zS Ad W 2 (st' := (2, [vR 1, vI x1], [.int x1, .ref 1], (H0 s o))) rfl ?_
 obtain ⟨r94, hr94, h⟩ := bind_eq_some_iff.mp h
 refine QTri.callP W (a := 1) (as := [.int x1]) (rest := []) (w := (some (.int r94))) (σ₁ := (H0 s o)) rfl rfl rfl rfl rfl rfl rfl rfl (tF14 Ad W s o x1 hr94) ?_
 rcases qite h with ⟨hc95, h⟩ | ⟨hc95, h⟩
 ·refine zF Ad W (t := 10) (f := 8) rfl (XT.i0_ne_f hc95) ?_
  refine zS Ad W 1 (st' := (9, [vR 1, vI x1], [.int (-1:Int32)], (H0 s o))) rfl ?_
  obtain rfl := Option.some.inj h
  exact QTri.retI rfl rfl
 ·refine zT Ad W (t := 10) (f := 8) rfl (XT.i0_ne_t hc95) ?_
  refine zS Ad W 3 (st' := (15, [vR 1, vI x1], [.int x1, .ref 2], (H0 s o))) rfl ?_
  obtain ⟨y96, hy96, h⟩ := bind_eq_some_iff.mp h
  refine zB Ad W (f := fun y96 => (16, [vR 1, vI x1], [.int y96], (H0 s o))) rfl hy96 ?_
  obtain rfl := Option.some.inj h
  exact QTri.retI rfl rfl
/-- querySlide(I)I -/
def F15 (o : Ob) (x1 : Int32) : Option (Int32) :=
 (F14 o x1).bind fun r99 => (if r99 = (0:Int32) then some (-1:Int32) else (aget (f_slide o) x1).bind fun y101 => some y101)
theorem tF15 (Ad : QAd n0 ad) (W : QW Z a0) (s : List Int32) (o : Ob) (x1 : Int32) {r : Int32} (h : F15 o x1 = some r) : QTri l Z n0 ad 15 (0, qentry [.ref 1, .int x1] (pMaxL 15), [], (H0 s o)) (some (Value.int r)) (H0 s o) := by
 unfold F15 at h
 refine zS Ad W 2 (st' := (2, [vR 1, vI x1], [.int x1, .ref 1], (H0 s o))) rfl ?_
 obtain ⟨r99, hr99, h⟩ := bind_eq_some_iff.mp h
 refine QTri.callP W (a := 1) (as := [.int x1]) (rest := []) (w := (some (.int r99))) (σ₁ := (H0 s o)) rfl rfl rfl rfl rfl rfl rfl rfl (tF14 Ad W s o x1 hr99) ?_
 rcases qite h with ⟨hc100, h⟩ | ⟨hc100, h⟩
 ·refine zF Ad W (t := 10) (f := 8) rfl (XT.i0_ne_f hc100) ?_
  refine zS Ad W 1 (st' := (9, [vR 1, vI x1], [.int (-1:Int32)], (H0 s o))) rfl ?_
  obtain rfl := Option.some.inj h
  exact QTri.retI rfl rfl
 ·refine zT Ad W (t := 10) (f := 8) rfl (XT.i0_ne_t hc100) ?_
  refine zS Ad W 3 (st' := (15, [vR 1, vI x1], [.int x1, .ref 3], (H0 s o))) rfl ?_
  obtain ⟨y101, hy101, h⟩ := bind_eq_some_iff.mp h
  refine zB Ad W (f := fun y101 => (16, [vR 1, vI x1], [.int y101], (H0 s o))) rfl hy101 ?_
  obtain rfl := Option.some.inj h
  exact QTri.retI rfl rfl
/-- endOf(I)I -/
def F23 (o : Ob) (x1 : Int32) : Option (Int32) :=
 (aget (f_slide o) x1).bind fun y106 => (if y106 < (1:Int32) then some (0:Int32) else (qdiv (f_n o) y106).bind fun y108 => some (y106 * y108))
theorem tF23 (Ad : QAd n0 ad) (W : QW Z a0) (s : List Int32) (o : Ob) (x1 : Int32) {r : Int32} (h : F23 o x1 = some r) : QTri l Z n0 ad 23 (0, qentry [.ref 1, .int x1] (pMaxL 23), [], (H0 s o)) (some (Value.int r)) (H0 s o) := by
 unfold F23 at h
 refine zS Ad W 3 (st' := (5, [vR 1, vI x1, none], [.int x1, .ref 3], (H0 s o))) rfl ?_
 obtain ⟨y106, hy106, h⟩ := bind_eq_some_iff.mp h
 refine zB Ad W (f := fun y106 => (6, [vR 1, vI x1, none], [.int y106], (H0 s o))) rfl hy106 ?_
 refine zS Ad W 3 (st' := (9, [vR 1, vI x1, vI y106], [.int (1:Int32), .int y106], (H0 s o))) rfl ?_
 rcases qite h with ⟨hc107, h⟩ | ⟨hc107, h⟩
 ·refine zF Ad W (t := 14) (f := 12) rfl (XT.ii_ge_f hc107) ?_
  refine zS Ad W 1 (st' := (13, [vR 1, vI x1, vI y106], [.int (0:Int32)], (H0 s o))) rfl ?_
  obtain rfl := Option.some.inj h
  exact QTri.retI rfl rfl
 ·refine zT Ad W (t := 14) (f := 12) rfl (XT.ii_ge_t hc107) ?_
  refine zS Ad W 4 (st' := (20, [vR 1, vI x1, vI y106], [.int y106, .int (f_n o), .int y106], (H0 s o))) rfl ?_
  obtain ⟨y108, hy108, h⟩ := bind_eq_some_iff.mp h
  refine zB Ad W (f := fun y108 => (21, [vR 1, vI x1, vI y106], [.int y108, .int y106], (H0 s o))) rfl hy108 ?_
  refine zS Ad W 1 (st' := (22, [vR 1, vI x1, vI y106], [.int (y106 * y108)], (H0 s o))) rfl ?_
  obtain rfl := Option.some.inj h
  exact QTri.retI rfl rfl
/-- windowEnd(I)I -/
def F17 (o : Ob) (x1 : Int32) : Option (Int32) :=
 (F14 o x1).bind fun r104 => (if r104 = (0:Int32) then some (-1:Int32) else (F23 o x1).bind fun r109 => some r109)
theorem tF17 (Ad : QAd n0 ad) (W : QW Z a0) (s : List Int32) (o : Ob) (x1 : Int32) {r : Int32} (h : F17 o x1 = some r) : QTri l Z n0 ad 17 (0, qentry [.ref 1, .int x1] (pMaxL 17), [], (H0 s o)) (some (Value.int r)) (H0 s o) := by
 unfold F17 at h
 refine zS Ad W 2 (st' := (2, [vR 1, vI x1], [.int x1, .ref 1], (H0 s o))) rfl ?_
 obtain ⟨r104, hr104, h⟩ := bind_eq_some_iff.mp h
 refine QTri.callP W (a := 1) (as := [.int x1]) (rest := []) (w := (some (.int r104))) (σ₁ := (H0 s o)) rfl rfl rfl rfl rfl rfl rfl rfl (tF14 Ad W s o x1 hr104) ?_
 rcases qite h with ⟨hc105, h⟩ | ⟨hc105, h⟩
 ·refine zF Ad W (t := 10) (f := 8) rfl (XT.i0_ne_f hc105) ?_
  refine zS Ad W 1 (st' := (9, [vR 1, vI x1], [.int (-1:Int32)], (H0 s o))) rfl ?_
  obtain rfl := Option.some.inj h
  exact QTri.retI rfl rfl
 ·refine zT Ad W (t := 10) (f := 8) rfl (XT.i0_ne_t hc105) ?_
  refine zS Ad W 2 (st' := (12, [vR 1, vI x1], [.int x1, .ref 1], (H0 s o))) rfl ?_
  obtain ⟨r109, hr109, h⟩ := bind_eq_some_iff.mp h
  refine QTri.callP W (a := 1) (as := [.int x1]) (rest := []) (w := (some (.int r109))) (σ₁ := (H0 s o)) rfl rfl rfl rfl rfl rfl rfl rfl (tF23 Ad W s o x1 hr109) ?_
  obtain rfl := Option.some.inj h
  exact QTri.retI rfl rfl
/-- windowStart(I)I -/
def F16 (o : Ob) (x1 : Int32) : Option (Int32) :=
 (F14 o x1).bind fun r112 => (if r112 = (0:Int32) then some (-1:Int32) else (F23 o x1).bind fun r114 => (aget (f_range o) x1).bind fun y115 => (if (r114 - y115) < (0:Int32) then some (0:Int32) else some (r114 - y115)))
theorem tF16 (Ad : QAd n0 ad) (W : QW Z a0) (s : List Int32) (o : Ob) (x1 : Int32) {r : Int32} (h : F16 o x1 = some r) : QTri l Z n0 ad 16 (0, qentry [.ref 1, .int x1] (pMaxL 16), [], (H0 s o)) (some (Value.int r)) (H0 s o) := by
 unfold F16 at h
 refine zS Ad W 2 (st' := (2, [vR 1, vI x1, none], [.int x1, .ref 1], (H0 s o))) rfl ?_
 obtain ⟨r112, hr112, h⟩ := bind_eq_some_iff.mp h
 refine QTri.callP W (a := 1) (as := [.int x1]) (rest := []) (w := (some (.int r112))) (σ₁ := (H0 s o)) rfl rfl rfl rfl rfl rfl rfl rfl (tF14 Ad W s o x1 hr112) ?_
 rcases qite h with ⟨hc113, h⟩ | ⟨hc113, h⟩
 ·refine zF Ad W (t := 10) (f := 8) rfl (XT.i0_ne_f hc113) ?_
  refine zS Ad W 1 (st' := (9, [vR 1, vI x1, none], [.int (-1:Int32)], (H0 s o))) rfl ?_
  obtain rfl := Option.some.inj h
  exact QTri.retI rfl rfl
 ·refine zT Ad W (t := 10) (f := 8) rfl (XT.i0_ne_t hc113) ?_
  refine zS Ad W 2 (st' := (12, [vR 1, vI x1, none], [.int x1, .ref 1], (H0 s o))) rfl ?_
  obtain ⟨r114, hr114, h⟩ := bind_eq_some_iff.mp h
  refine QTri.callP W (a := 1) (as := [.int x1]) (rest := []) (w := (some (.int r114))) (σ₁ := (H0 s o)) rfl rfl rfl rfl rfl rfl rfl rfl (tF23 Ad W s o x1 hr114) ?_
  refine zS Ad W 3 (st' := (20, [vR 1, vI x1, none], [.int x1, .ref 2, .int r114], (H0 s o))) rfl ?_
  obtain ⟨y115, hy115, h⟩ := bind_eq_some_iff.mp h
  refine zB Ad W (f := fun y115 => (21, [vR 1, vI x1, none], [.int y115, .int r114], (H0 s o))) rfl hy115 ?_
  refine zS Ad W 3 (st' := (24, [vR 1, vI x1, vI (r114 - y115)], [.int (r114 - y115)], (H0 s o))) rfl ?_
  rcases qite h with ⟨hc116, h⟩ | ⟨hc116, h⟩
  ·refine zF Ad W (t := 29) (f := 27) rfl (XT.i0_ge_f hc116) ?_
   refine zS Ad W 1 (st' := (28, [vR 1, vI x1, vI (r114 - y115)], [.int (0:Int32)], (H0 s o))) rfl ?_
   obtain rfl := Option.some.inj h
   exact QTri.retI rfl rfl
  ·refine zT Ad W (t := 29) (f := 27) rfl (XT.i0_ge_t hc116) ?_
   refine zS Ad W 1 (st' := (30, [vR 1, vI x1, vI (r114 - y115)], [.int (r114 - y115)], (H0 s o))) rfl ?_
   obtain rfl := Option.some.inj h
   exact QTri.retI rfl rfl
/-- evaluations(I)I -/
def F18 (o : Ob) (x1 : Int32) : Option (Int32) :=
 (F14 o x1).bind fun r119 => (if r119 = (0:Int32) then some (-1:Int32) else (aget (f_slide o) x1).bind fun y121 => (if y121 < (1:Int32) then some (0:Int32) else (qdiv (f_n o) y121).bind fun y123 => some y123))
theorem tF18 (Ad : QAd n0 ad) (W : QW Z a0) (s : List Int32) (o : Ob) (x1 : Int32) {r : Int32} (h : F18 o x1 = some r) : QTri l Z n0 ad 18 (0, qentry [.ref 1, .int x1] (pMaxL 18), [], (H0 s o)) (some (Value.int r)) (H0 s o) := by
 unfold F18 at h
 refine zS Ad W 2 (st' := (2, [vR 1, vI x1, none], [.int x1, .ref 1], (H0 s o))) rfl ?_
 obtain ⟨r119, hr119, h⟩ := bind_eq_some_iff.mp h
 refine QTri.callP W (a := 1) (as := [.int x1]) (rest := []) (w := (some (.int r119))) (σ₁ := (H0 s o)) rfl rfl rfl rfl rfl rfl rfl rfl (tF14 Ad W s o x1 hr119) ?_
 rcases qite h with ⟨hc120, h⟩ | ⟨hc120, h⟩
 ·refine zF Ad W (t := 10) (f := 8) rfl (XT.i0_ne_f hc120) ?_
  refine zS Ad W 1 (st' := (9, [vR 1, vI x1, none], [.int (-1:Int32)], (H0 s o))) rfl ?_
  obtain rfl := Option.some.inj h
  exact QTri.retI rfl rfl
 ·refine zT Ad W (t := 10) (f := 8) rfl (XT.i0_ne_t hc120) ?_
  refine zS Ad W 3 (st' := (15, [vR 1, vI x1, none], [.int x1, .ref 3], (H0 s o))) rfl ?_
  obtain ⟨y121, hy121, h⟩ := bind_eq_some_iff.mp h
  refine zB Ad W (f := fun y121 => (16, [vR 1, vI x1, none], [.int y121], (H0 s o))) rfl hy121 ?_
  refine zS Ad W 3 (st' := (19, [vR 1, vI x1, vI y121], [.int (1:Int32), .int y121], (H0 s o))) rfl ?_
  rcases qite h with ⟨hc122, h⟩ | ⟨hc122, h⟩
  ·refine zF Ad W (t := 24) (f := 22) rfl (XT.ii_ge_f hc122) ?_
   refine zS Ad W 1 (st' := (23, [vR 1, vI x1, vI y121], [.int (0:Int32)], (H0 s o))) rfl ?_
   obtain rfl := Option.some.inj h
   exact QTri.retI rfl rfl
  ·refine zT Ad W (t := 24) (f := 22) rfl (XT.ii_ge_t hc122) ?_
   refine zS Ad W 3 (st' := (29, [vR 1, vI x1, vI y121], [.int y121, .int (f_n o)], (H0 s o))) rfl ?_
   obtain ⟨y123, hy123, h⟩ := bind_eq_some_iff.mp h
   refine zB Ad W (f := fun y123 => (30, [vR 1, vI x1, vI y121], [.int y123], (H0 s o))) rfl hy123 ?_
   obtain rfl := Option.some.inj h
   exact QTri.retI rfl rfl
/-- validEntry(I)Z -/
def F24 (x1 : Int32) : Option (Int32) :=
 (if x1 < (0:Int32) then some (0:Int32) else (if (3:Int32) < x1 then some (0:Int32) else some (1:Int32)))
theorem tF24 (Ad : QAd n0 ad) (W : QW Z a0) {a : Nat} {σ : QHeap} (x1 : Int32) {r : Int32} (h : F24 x1 = some r) : QTri l Z n0 ad 24 (0, qentry [.ref a, .int x1] (pMaxL 24), [], σ) (some (Value.int r)) σ := by
 unfold F24 at h
 refine zS Ad W 1 (st' := (1, [vR a, vI x1], [.int x1], σ)) rfl ?_
 rcases qite h with ⟨hc129, h⟩ | ⟨hc129, h⟩
 ·refine zT Ad W (t := 13) (f := 4) rfl (XT.i0_lt_t hc129) ?_
  refine zS Ad W 1 (st' := (14, [vR a, vI x1], [.int (0:Int32)], σ)) rfl ?_
  obtain rfl := Option.some.inj h
  exact QTri.retZ rfl rfl
 ·refine zF Ad W (t := 13) (f := 4) rfl (XT.i0_lt_f hc129) ?_
  refine zS Ad W 2 (st' := (6, [vR a, vI x1], [.int (3:Int32), .int x1], σ)) rfl ?_
  rcases qite h with ⟨hc130, h⟩ | ⟨hc130, h⟩
  ·refine zT Ad W (t := 13) (f := 9) rfl (XT.ii_gt_t hc130) ?_
   refine zS Ad W 1 (st' := (14, [vR a, vI x1], [.int (0:Int32)], σ)) rfl ?_
   obtain rfl := Option.some.inj h
   exact QTri.retZ rfl rfl
  ·refine zF Ad W (t := 13) (f := 9) rfl (XT.ii_gt_f hc130) ?_
   refine zS Ad W 2 (st' := (14, [vR a, vI x1], [.int (1:Int32)], σ)) rfl ?_
   obtain rfl := Option.some.inj h
   exact QTri.retZ rfl rfl
/-- result(II)I -/
def F19 (o : Ob) (x1 : Int32) (x2 : Int32) : Option (Int32) :=
 (F14 o x1).bind fun r127 => (if r127 = (0:Int32) then some (0:Int32) else (F24 x2).bind fun r131 => (if r131 = (0:Int32) then some (0:Int32) else (aget (f_snap o) ((x1 * (4:Int32)) + x2)).bind fun y133 => some y133))
theorem tF19 (Ad : QAd n0 ad) (W : QW Z a0) (s : List Int32) (o : Ob) (x1 : Int32) (x2 : Int32) {r : Int32} (h : F19 o x1 x2 = some r) : QTri l Z n0 ad 19 (0, qentry [.ref 1, .int x1, .int x2] (pMaxL 19), [], (H0 s o)) (some (Value.int r)) (H0 s o) := by
 unfold F19 at h
 refine zS Ad W 2 (st' := (2, [vR 1, vI x1, vI x2], [.int x1, .ref 1], (H0 s o))) rfl ?_
 obtain ⟨r127, hr127, h⟩ := bind_eq_some_iff.mp h
 refine QTri.callP W (a := 1) (as := [.int x1]) (rest := []) (w := (some (.int r127))) (σ₁ := (H0 s o)) rfl rfl rfl rfl rfl rfl rfl rfl (tF14 Ad W s o x1 hr127) ?_
 rcases qite h with ⟨hc128, h⟩ | ⟨hc128, h⟩
 ·refine zF Ad W (t := 10) (f := 8) rfl (XT.i0_ne_f hc128) ?_
  refine zS Ad W 1 (st' := (9, [vR 1, vI x1, vI x2], [.int (0:Int32)], (H0 s o))) rfl ?_
  obtain rfl := Option.some.inj h
  exact QTri.retI rfl rfl
 ·refine zT Ad W (t := 10) (f := 8) rfl (XT.i0_ne_t hc128) ?_
  refine zS Ad W 2 (st' := (12, [vR 1, vI x1, vI x2], [.int x2, .ref 1], (H0 s o))) rfl ?_
  obtain ⟨r131, hr131, h⟩ := bind_eq_some_iff.mp h
  refine QTri.callP W (a := 1) (as := [.int x2]) (rest := []) (w := (some (.int r131))) (σ₁ := (H0 s o)) rfl rfl rfl rfl rfl rfl rfl rfl (tF24 Ad W x2 hr131) ?_
  rcases qite h with ⟨hc132, h⟩ | ⟨hc132, h⟩
  ·refine zF Ad W (t := 20) (f := 18) rfl (XT.i0_ne_f hc132) ?_
   refine zS Ad W 1 (st' := (19, [vR 1, vI x1, vI x2], [.int (0:Int32)], (H0 s o))) rfl ?_
   obtain rfl := Option.some.inj h
   exact QTri.retI rfl rfl
  ·refine zT Ad W (t := 20) (f := 18) rfl (XT.i0_ne_t hc132) ?_
   refine zS Ad W 7 (st' := (29, [vR 1, vI x1, vI x2], [.int ((x1 * (4:Int32)) + x2), .ref 9], (H0 s o))) rfl ?_
   obtain ⟨y133, hy133, h⟩ := bind_eq_some_iff.mp h
   refine zB Ad W (f := fun y133 => (30, [vR 1, vI x1, vI x2], [.int y133], (H0 s o))) rfl hy133 ?_
   obtain rfl := Option.some.inj h
   exact QTri.retI rfl rfl
/-- validSlot(II)Z -/
def F31 (x1 : Int32) (x2 : Int32) : Option (Int32) :=
 (if x1 < (0:Int32) then some (0:Int32) else (if x1 < (4:Int32) then (if x2 < (0:Int32) then some (0:Int32) else (if x2 < (32:Int32) then some (1:Int32) else some (0:Int32))) else some (0:Int32)))
theorem tF31 (Ad : QAd n0 ad) (W : QW Z a0) {a : Nat} {σ : QHeap} (x1 : Int32) (x2 : Int32) {r : Int32} (h : F31 x1 x2 = some r) : QTri l Z n0 ad 31 (0, qentry [.ref a, .int x1, .int x2] (pMaxL 31), [], σ) (some (Value.int r)) σ := by
 unfold F31 at h
 refine zS Ad W 1 (st' := (1, [vR a, vI x1, vI x2], [.int x1], σ)) rfl ?_
 rcases qite h with ⟨hc144, h⟩ | ⟨hc144, h⟩
 ·refine zT Ad W (t := 23) (f := 4) rfl (XT.i0_lt_t hc144) ?_
  refine zS Ad W 1 (st' := (24, [vR a, vI x1, vI x2], [.int (0:Int32)], σ)) rfl ?_
  obtain rfl := Option.some.inj h
  exact QTri.retZ rfl rfl
 ·refine zF Ad W (t := 23) (f := 4) rfl (XT.i0_lt_f hc144) ?_
  refine zS Ad W 2 (st' := (6, [vR a, vI x1, vI x2], [.int (4:Int32), .int x1], σ)) rfl ?_
  rcases qite h with ⟨hc145, h⟩ | ⟨hc145, h⟩
  ·refine zF Ad W (t := 23) (f := 9) rfl (XT.ii_ge_f hc145) ?_
   refine zS Ad W 1 (st' := (10, [vR a, vI x1, vI x2], [.int x2], σ)) rfl ?_
   rcases qite h with ⟨hc146, h⟩ | ⟨hc146, h⟩
   ·refine zT Ad W (t := 23) (f := 13) rfl (XT.i0_lt_t hc146) ?_
    refine zS Ad W 1 (st' := (24, [vR a, vI x1, vI x2], [.int (0:Int32)], σ)) rfl ?_
    obtain rfl := Option.some.inj h
    exact QTri.retZ rfl rfl
   ·refine zF Ad W (t := 23) (f := 13) rfl (XT.i0_lt_f hc146) ?_
    refine zS Ad W 2 (st' := (16, [vR a, vI x1, vI x2], [.int (32:Int32), .int x2], σ)) rfl ?_
    rcases qite h with ⟨hc147, h⟩ | ⟨hc147, h⟩
    ·refine zF Ad W (t := 23) (f := 19) rfl (XT.ii_ge_f hc147) ?_
     refine zS Ad W 2 (st' := (24, [vR a, vI x1, vI x2], [.int (1:Int32)], σ)) rfl ?_
     obtain rfl := Option.some.inj h
     exact QTri.retZ rfl rfl
    ·refine zT Ad W (t := 23) (f := 19) rfl (XT.ii_ge_t hc147) ?_
     refine zS Ad W 1 (st' := (24, [vR a, vI x1, vI x2], [.int (0:Int32)], σ)) rfl ?_
     obtain rfl := Option.some.inj h
     exact QTri.retZ rfl rfl
  ·refine zT Ad W (t := 23) (f := 9) rfl (XT.ii_ge_t hc145) ?_
   refine zS Ad W 1 (st' := (24, [vR a, vI x1, vI x2], [.int (0:Int32)], σ)) rfl ?_
   obtain rfl := Option.some.inj h
   exact QTri.retZ rfl rfl
/-- slotOffset(II)I -/
def F33 (x1 : Int32) (x2 : Int32) : Option (Int32) :=
 some (((x1 * (32:Int32)) + x2) * (4:Int32))
theorem tF33 (Ad : QAd n0 ad) (W : QW Z a0) {a : Nat} {σ : QHeap} (x1 : Int32) (x2 : Int32) {r : Int32} (h : F33 x1 x2 = some r) : QTri l Z n0 ad 33 (0, qentry [.ref a, .int x1, .int x2] (pMaxL 33), [], σ) (some (Value.int r)) σ := by
 unfold F33 at h
 refine zS Ad W 7 (st' := (8, [vR a, vI x1, vI x2], [.int (((x1 * (32:Int32)) + x2) * (4:Int32))], σ)) rfl ?_
 obtain rfl := Option.some.inj h
 exact QTri.retI rfl rfl
def B39_34 (x4 : Int32) (x5 : Int32) (v : Int32 × Ob) : Option (((Ob)) ⊕ (Int32 × Ob)) :=
  (if v.1 < (4 : Int32) then (aget (f_frontAgg v.2) (x4 + v.1)).bind fun y152 => (aset (f_reg v.2) (x5 + v.1) y152).bind fun y153 => some (.inr ((v.1 + (1 : Int32)), (s_reg v.2 y153))) else some (.inl v.2))
theorem tB39_34 (Ad : QAd n0 ad) (W : QW Z a0) (s : List Int32) (x4 : Int32) (x5 : Int32) (v : Int32 × Ob) {r : ((Ob)) ⊕ (Int32 × Ob)} {u : Option Value} {τ : QHeap} (h : B39_34 x4 x5 v = some r) (hx0 : ∀ x : Ob, r = .inl x → u = (none : Option Value) ∧ τ = (H0 s x)) (hc : ∀ x : Int32 × Ob, r = .inr x → QTri l Z n0 ad 39 (34, [vR 1, none, none, none, vI x4, vI x5, vI x.1], [], (H0 s x.2)) u τ) : QTri l Z n0 ad 39 (34, [vR 1, none, none, none, vI x4, vI x5, vI v.1], [], (H0 s v.2)) u τ := by
 unfold B39_34 at h
 refine zS Ad W 2 (st' := (37, [vR 1, none, none, none, vI x4, vI x5, vI v.1], [.int (4:Int32), .int v.1], (H0 s v.2))) rfl ?_
 rcases qite h with ⟨hc151, h⟩ | ⟨hc151, h⟩
 ·refine zF Ad W (t := 66) (f := 40) rfl (XT.ii_ge_f hc151) ?_
  refine zS Ad W 10 (st' := (58, [vR 1, none, none, none, vI x4, vI x5, vI v.1], [.int (x4 + v.1), .ref 7, .int (x5 + v.1), .ref 10], (H0 s v.2))) rfl ?_
  obtain ⟨y152, hy152, h⟩ := bind_eq_some_iff.mp h
  refine zB Ad W (f := fun y152 => (59, [vR 1, none, none, none, vI x4, vI x5, vI v.1], [.int y152, .int (x5 + v.1), .ref 10], (H0 s v.2))) rfl hy152 ?_
  obtain ⟨y153, hy153, h⟩ := bind_eq_some_iff.mp h
  refine zB Ad W (f := fun y153 => (60, [vR 1, none, none, none, vI x4, vI x5, vI v.1], [], (H0x6 s v.2 y153))) rfl hy153 ?_
  refine zS Ad W 2 (st' := (34, [vR 1, none, none, none, vI x4, vI x5, vI (v.1 + (1:Int32))], [], (H0x6 s v.2 y153))) rfl ?_
  have E154 : ((H0x6 s v.2 y153) : QHeap) = (H0 s (s_reg v.2 y153)) := by simp only [fs, H0, H0v, H0x6, s_reg]
  rw [E154]
  obtain rfl := Option.some.inj h
  exact zM [tt,ff,ff,ff,tt,tt,tt] (hc ((v.1 + (1:Int32)), (s_reg v.2 y153)) rfl)
 ·refine zT Ad W (t := 66) (f := 40) rfl (XT.ii_ge_t hc151) ?_
  obtain rfl := Option.some.inj h
  obtain ⟨rfl, rfl⟩ := hx0 v.2 rfl
  exact QTri.ret0 rfl rfl
/-- loadFront(III)V -/
def F39 (o : Ob) (x1 : Int32) (x2 : Int32) (x3 : Int32) : Option (Ob) :=
 (F5 x1).bind fun r142 => (if r142 = (0:Int32) then some o else (F31 x2 x3).bind fun r148 => (if r148 = (0:Int32) then some o else (F33 x2 x3).bind fun r150 => (loopN (B39_34 r150 (x1 * (4:Int32))) qN ((0:Int32), o)).bind fun e155 => some e155))
theorem tF39 (Ad : QAd n0 ad) (W : QW Z a0) (s : List Int32) (o : Ob) (x1 : Int32) (x2 : Int32) (x3 : Int32) {r : Ob} (h : F39 o x1 x2 x3 = some r) : QTri l Z n0 ad 39 (0, qentry [.ref 1, .int x1, .int x2, .int x3] (pMaxL 39), [], (H0 s o)) (none : Option Value) (H0 s r) := by
 unfold F39 at h
 refine zS Ad W 2 (st' := (2, [vR 1, vI x1, vI x2, vI x3, none, none, none], [.int x1, .ref 1], (H0 s o))) rfl ?_
 obtain ⟨r142, hr142, h⟩ := bind_eq_some_iff.mp h
 refine QTri.callP W (a := 1) (as := [.int x1]) (rest := []) (w := (some (.int r142))) (σ₁ := (H0 s o)) rfl rfl rfl rfl rfl rfl rfl rfl (tF5 Ad W x1 hr142) ?_
 rcases qite h with ⟨hc143, h⟩ | ⟨hc143, h⟩
 ·refine zT Ad W (t := 17) (f := 8) rfl (XT.i0_eq_t hc143) ?_
  obtain rfl := Option.some.inj h
  exact QTri.ret0 rfl rfl
 ·refine zF Ad W (t := 17) (f := 8) rfl (XT.i0_eq_f hc143) ?_
  refine zS Ad W 3 (st' := (11, [vR 1, vI x1, vI x2, vI x3, none, none, none], [.int x3, .int x2, .ref 1], (H0 s o))) rfl ?_
  obtain ⟨r148, hr148, h⟩ := bind_eq_some_iff.mp h
  refine QTri.callP W (a := 1) (as := [.int x2, .int x3]) (rest := []) (w := (some (.int r148))) (σ₁ := (H0 s o)) rfl rfl rfl rfl rfl rfl rfl rfl (tF31 Ad W x2 x3 hr148) ?_
  rcases qite h with ⟨hc149, h⟩ | ⟨hc149, h⟩
  ·refine zF Ad W (t := 18) (f := 17) rfl (XT.i0_ne_f hc149) ?_
   obtain rfl := Option.some.inj h
   exact QTri.ret0 rfl rfl
  ·refine zT Ad W (t := 18) (f := 17) rfl (XT.i0_ne_t hc149) ?_
   refine zS Ad W 3 (st' := (21, [vR 1, vI x1, vI x2, vI x3, none, none, none], [.int x3, .int x2, .ref 1], (H0 s o))) rfl ?_
   obtain ⟨r150, hr150, h⟩ := bind_eq_some_iff.mp h
   refine QTri.callP W (a := 1) (as := [.int x2, .int x3]) (rest := []) (w := (some (.int r150))) (σ₁ := (H0 s o)) rfl rfl rfl rfl rfl rfl rfl rfl (tF33 Ad W x2 x3 hr150) ?_
   refine zS Ad W 5 (st' := (31, [vR 1, vI x1, vI x2, vI x3, vI r150, vI (x1 * (4:Int32)), none], [], (H0 s o))) rfl ?_
   refine zS Ad W 2 (st' := (34, [vR 1, vI x1, vI x2, vI x3, vI r150, vI (x1 * (4:Int32)), vI (0:Int32)], [], (H0 s o))) rfl ?_
   obtain ⟨e155, he155, h⟩ := bind_eq_some_iff.mp h
   refine zM [tt,ff,ff,ff,tt,tt,tt] (loopN_tri (B := B39_34 r150 (x1 * (4:Int32))) (T := fun lv156 => QTri l Z n0 ad 39 (34, [vR 1, none, none, none, vI r150, vI (x1 * (4:Int32)), vI lv156.1], [], (H0 s lv156.2)) (none : Option Value) (H0 s r)) (KE := fun e155a => (none : Option Value) = (none : Option Value) ∧ (H0 s r) = (H0 s e155a)) (fun lv156 r hB hE hC => tB39_34 Ad W s r150 (x1 * (4:Int32)) lv156 hB (fun x q => hE _ q) (fun x q => hC x q)) qN ((0:Int32), o) e155 he155 ?_)
   obtain rfl := Option.some.inj h
   exact ⟨rfl, rfl⟩
def B27_25 (x2 : Int32) (x3 : Int32) (v : Int32 × Ob) : Option (((Ob)) ⊕ (Int32 × Ob)) :=
  (if v.1 < (4 : Int32) then (aget (f_backAgg v.2) ((x2 * (4 : Int32)) + v.1)).bind fun y163 => (aset (f_reg v.2) (x3 + v.1) y163).bind fun y164 => some (.inr ((v.1 + (1 : Int32)), (s_reg v.2 y164))) else some (.inl v.2))
theorem tB27_25 (Ad : QAd n0 ad) (W : QW Z a0) (s : List Int32) (x2 : Int32) (x3 : Int32) (v : Int32 × Ob) {r : ((Ob)) ⊕ (Int32 × Ob)} {u : Option Value} {τ : QHeap} (h : B27_25 x2 x3 v = some r) (hx0 : ∀ x : Ob, r = .inl x → u = (none : Option Value) ∧ τ = (H0 s x)) (hc : ∀ x : Int32 × Ob, r = .inr x → QTri l Z n0 ad 27 (25, [vR 1, none, vI x2, vI x3, vI x.1], [], (H0 s x.2)) u τ) : QTri l Z n0 ad 27 (25, [vR 1, none, vI x2, vI x3, vI v.1], [], (H0 s v.2)) u τ := by
 unfold B27_25 at h
 refine zS Ad W 2 (st' := (28, [vR 1, none, vI x2, vI x3, vI v.1], [.int (4:Int32), .int v.1], (H0 s v.2))) rfl ?_
 rcases qite h with ⟨hc162, h⟩ | ⟨hc162, h⟩
 ·refine zF Ad W (t := 57) (f := 31) rfl (XT.ii_ge_f hc162) ?_
  refine zS Ad W 12 (st' := (49, [vR 1, none, vI x2, vI x3, vI v.1], [.int ((x2 * (4:Int32)) + v.1), .ref 8, .int (x3 + v.1), .ref 10], (H0 s v.2))) rfl ?_
  obtain ⟨y163, hy163, h⟩ := bind_eq_some_iff.mp h
  refine zB Ad W (f := fun y163 => (50, [vR 1, none, vI x2, vI x3, vI v.1], [.int y163, .int (x3 + v.1), .ref 10], (H0 s v.2))) rfl hy163 ?_
  obtain ⟨y164, hy164, h⟩ := bind_eq_some_iff.mp h
  refine zB Ad W (f := fun y164 => (51, [vR 1, none, vI x2, vI x3, vI v.1], [], (H0x6 s v.2 y164))) rfl hy164 ?_
  refine zS Ad W 2 (st' := (25, [vR 1, none, vI x2, vI x3, vI (v.1 + (1:Int32))], [], (H0x6 s v.2 y164))) rfl ?_
  have E165 : ((H0x6 s v.2 y164) : QHeap) = (H0 s (s_reg v.2 y164)) := by simp only [fs, H0, H0v, H0x6, s_reg]
  rw [E165]
  obtain rfl := Option.some.inj h
  exact zM [tt,ff,tt,tt,tt] (hc ((v.1 + (1:Int32)), (s_reg v.2 y164)) rfl)
 ·refine zT Ad W (t := 57) (f := 31) rfl (XT.ii_ge_t hc162) ?_
  obtain rfl := Option.some.inj h
  obtain ⟨rfl, rfl⟩ := hx0 v.2 rfl
  exact QTri.ret0 rfl rfl
/-- loadBackAgg(II)V -/
def F27 (o : Ob) (x1 : Int32) (x2 : Int32) : Option (Ob) :=
 (F5 x1).bind fun r158 => (if r158 = (0:Int32) then some o else (if x2 < (0:Int32) then some o else (if x2 < (4:Int32) then (loopN (B27_25 x2 (x1 * (4:Int32))) qN ((0:Int32), o)).bind fun e166 => some e166 else some o)))
theorem tF27 (Ad : QAd n0 ad) (W : QW Z a0) (s : List Int32) (o : Ob) (x1 : Int32) (x2 : Int32) {r : Ob} (h : F27 o x1 x2 = some r) : QTri l Z n0 ad 27 (0, qentry [.ref 1, .int x1, .int x2] (pMaxL 27), [], (H0 s o)) (none : Option Value) (H0 s r) := by
 unfold F27 at h
 refine zS Ad W 2 (st' := (2, [vR 1, vI x1, vI x2, none, none], [.int x1, .ref 1], (H0 s o))) rfl ?_
 obtain ⟨r158, hr158, h⟩ := bind_eq_some_iff.mp h
 refine QTri.callP W (a := 1) (as := [.int x1]) (rest := []) (w := (some (.int r158))) (σ₁ := (H0 s o)) rfl rfl rfl rfl rfl rfl rfl rfl (tF5 Ad W x1 hr158) ?_
 rcases qite h with ⟨hc159, h⟩ | ⟨hc159, h⟩
 ·refine zT Ad W (t := 17) (f := 8) rfl (XT.i0_eq_t hc159) ?_
  obtain rfl := Option.some.inj h
  exact QTri.ret0 rfl rfl
 ·refine zF Ad W (t := 17) (f := 8) rfl (XT.i0_eq_f hc159) ?_
  refine zS Ad W 1 (st' := (9, [vR 1, vI x1, vI x2, none, none], [.int x2], (H0 s o))) rfl ?_
  rcases qite h with ⟨hc160, h⟩ | ⟨hc160, h⟩
  ·refine zT Ad W (t := 17) (f := 12) rfl (XT.i0_lt_t hc160) ?_
   obtain rfl := Option.some.inj h
   exact QTri.ret0 rfl rfl
  ·refine zF Ad W (t := 17) (f := 12) rfl (XT.i0_lt_f hc160) ?_
   refine zS Ad W 2 (st' := (14, [vR 1, vI x1, vI x2, none, none], [.int (4:Int32), .int x2], (H0 s o))) rfl ?_
   rcases qite h with ⟨hc161, h⟩ | ⟨hc161, h⟩
   ·refine zT Ad W (t := 18) (f := 17) rfl (XT.ii_lt_t hc161) ?_
    refine zS Ad W 6 (st' := (25, [vR 1, vI x1, vI x2, vI (x1 * (4:Int32)), vI (0:Int32)], [], (H0 s o))) rfl ?_
    obtain ⟨e166, he166, h⟩ := bind_eq_some_iff.mp h
    refine zM [tt,ff,tt,tt,tt] (loopN_tri (B := B27_25 x2 (x1 * (4:Int32))) (T := fun lv167 => QTri l Z n0 ad 27 (25, [vR 1, none, vI x2, vI (x1 * (4:Int32)), vI lv167.1], [], (H0 s lv167.2)) (none : Option Value) (H0 s r)) (KE := fun e166a => (none : Option Value) = (none : Option Value) ∧ (H0 s r) = (H0 s e166a)) (fun lv167 r hB hE hC => tB27_25 Ad W s x2 (x1 * (4:Int32)) lv167 hB (fun x q => hE _ q) (fun x q => hC x q)) qN ((0:Int32), o) e166 he166 ?_)
    obtain rfl := Option.some.inj h
    exact ⟨rfl, rfl⟩
   ·refine zF Ad W (t := 18) (f := 17) rfl (XT.ii_lt_f hc161) ?_
    obtain rfl := Option.some.inj h
    exact QTri.ret0 rfl rfl
/-- regMul(III)V -/
def F28 (o : Ob) (x1 : Int32) (x2 : Int32) (x3 : Int32) : Option (Ob) :=
 (F5 x1).bind fun r169 => (if r169 = (0:Int32) then some o else (F5 x2).bind fun r171 => (if r171 = (0:Int32) then some o else (F5 x3).bind fun r173 => (if r173 = (0:Int32) then some o else (aget (f_reg o) (x2 * (4:Int32))).bind fun y175 => (aget (f_reg o) ((x2 * (4:Int32)) + (1:Int32))).bind fun y176 => (aget (f_reg o) ((x2 * (4:Int32)) + (2:Int32))).bind fun y177 => (aget (f_reg o) ((x2 * (4:Int32)) + (3:Int32))).bind fun y178 => (aget (f_reg o) (x3 * (4:Int32))).bind fun y179 => (aget (f_reg o) ((x3 * (4:Int32)) + (1:Int32))).bind fun y180 => (aget (f_reg o) ((x3 * (4:Int32)) + (2:Int32))).bind fun y181 => (aget (f_reg o) ((x3 * (4:Int32)) + (3:Int32))).bind fun y182 => (aset (f_reg o) (x1 * (4:Int32)) ((y175 * y179) + (y176 * y181))).bind fun y183 => (aset y183 ((x1 * (4:Int32)) + (1:Int32)) ((y175 * y180) + (y176 * y182))).bind fun y184 => (aset y184 ((x1 * (4:Int32)) + (2:Int32)) ((y177 * y179) + (y178 * y181))).bind fun y185 => (aset y185 ((x1 * (4:Int32)) + (3:Int32)) ((y177 * y180) + (y178 * y182))).bind fun y186 => some (s_reg o y186))))
theorem tF28 (Ad : QAd n0 ad) (W : QW Z a0) (s : List Int32) (o : Ob) (x1 : Int32) (x2 : Int32) (x3 : Int32) {r : Ob} (h : F28 o x1 x2 x3 = some r) : QTri l Z n0 ad 28 (0, qentry [.ref 1, .int x1, .int x2, .int x3] (pMaxL 28), [], (H0 s o)) (none : Option Value) (H0 s r) := by
 unfold F28 at h
 refine zS Ad W 2 (st' := (2, [vR 1, vI x1, vI x2, vI x3, none, none, none, none, none, none, none, none, none, none, none], [.int x1, .ref 1], (H0 s o))) rfl ?_
 obtain ⟨r169, hr169, h⟩ := bind_eq_some_iff.mp h
 refine QTri.callP W (a := 1) (as := [.int x1]) (rest := []) (w := (some (.int r169))) (σ₁ := (H0 s o)) rfl rfl rfl rfl rfl rfl rfl rfl (tF5 Ad W x1 hr169) ?_
 rcases qite h with ⟨hc170, h⟩ | ⟨hc170, h⟩
 ·refine zT Ad W (t := 24) (f := 8) rfl (XT.i0_eq_t hc170) ?_
  obtain rfl := Option.some.inj h
  exact QTri.ret0 rfl rfl
 ·refine zF Ad W (t := 24) (f := 8) rfl (XT.i0_eq_f hc170) ?_
  refine zS Ad W 2 (st' := (10, [vR 1, vI x1, vI x2, vI x3, none, none, none, none, none, none, none, none, none, none, none], [.int x2, .ref 1], (H0 s o))) rfl ?_
  obtain ⟨r171, hr171, h⟩ := bind_eq_some_iff.mp h
  refine QTri.callP W (a := 1) (as := [.int x2]) (rest := []) (w := (some (.int r171))) (σ₁ := (H0 s o)) rfl rfl rfl rfl rfl rfl rfl rfl (tF5 Ad W x2 hr171) ?_
  rcases qite h with ⟨hc172, h⟩ | ⟨hc172, h⟩
  ·refine zT Ad W (t := 24) (f := 16) rfl (XT.i0_eq_t hc172) ?_
   obtain rfl := Option.some.inj h
   exact QTri.ret0 rfl rfl
  ·refine zF Ad W (t := 24) (f := 16) rfl (XT.i0_eq_f hc172) ?_
   refine zS Ad W 2 (st' := (18, [vR 1, vI x1, vI x2, vI x3, none, none, none, none, none, none, none, none, none, none, none], [.int x3, .ref 1], (H0 s o))) rfl ?_
   obtain ⟨r173, hr173, h⟩ := bind_eq_some_iff.mp h
   refine QTri.callP W (a := 1) (as := [.int x3]) (rest := []) (w := (some (.int r173))) (σ₁ := (H0 s o)) rfl rfl rfl rfl rfl rfl rfl rfl (tF5 Ad W x3 hr173) ?_
   rcases qite h with ⟨hc174, h⟩ | ⟨hc174, h⟩
   ·refine zF Ad W (t := 25) (f := 24) rfl (XT.i0_ne_f hc174) ?_
    obtain rfl := Option.some.inj h
    exact QTri.ret0 rfl rfl
   ·refine zT Ad W (t := 25) (f := 24) rfl (XT.i0_ne_t hc174) ?_
    refine zS Ad W 8 (st' := (35, [vR 1, vI x1, vI x2, vI x3, vI (x2 * (4:Int32)), vI (x3 * (4:Int32)), none, none, none, none, none, none, none, none, none], [], (H0 s o))) rfl ?_
    refine zS Ad W 3 (st' := (41, [vR 1, vI x1, vI x2, vI x3, vI (x2 * (4:Int32)), vI (x3 * (4:Int32)), none, none, none, none, none, none, none, none, none], [.int (x2 * (4:Int32)), .ref 10], (H0 s o))) rfl ?_
    obtain ⟨y175, hy175, h⟩ := bind_eq_some_iff.mp h
    refine zB Ad W (f := fun y175 => (42, [vR 1, vI x1, vI x2, vI x3, vI (x2 * (4:Int32)), vI (x3 * (4:Int32)), none, none, none, none, none, none, none, none, none], [.int y175], (H0 s o))) rfl hy175 ?_
    refine zS Ad W 6 (st' := (52, [vR 1, vI x1, vI x2, vI x3, vI (x2 * (4:Int32)), vI (x3 * (4:Int32)), vI y175, none, none, none, none, none, none, none, none], [.int ((x2 * (4:Int32)) + (1:Int32)), .ref 10], (H0 s o))) rfl ?_
    obtain ⟨y176, hy176, h⟩ := bind_eq_some_iff.mp h
    refine zB Ad W (f := fun y176 => (53, [vR 1, vI x1, vI x2, vI x3, vI (x2 * (4:Int32)), vI (x3 * (4:Int32)), vI y175, none, none, none, none, none, none, none, none], [.int y176], (H0 s o))) rfl hy176 ?_
    refine zS Ad W 6 (st' := (63, [vR 1, vI x1, vI x2, vI x3, vI (x2 * (4:Int32)), vI (x3 * (4:Int32)), vI y175, vI y176, none, none, none, none, none, none, none], [.int ((x2 * (4:Int32)) + (2:Int32)), .ref 10], (H0 s o))) rfl ?_
    obtain ⟨y177, hy177, h⟩ := bind_eq_some_iff.mp h
    refine zB Ad W (f := fun y177 => (64, [vR 1, vI x1, vI x2, vI x3, vI (x2 * (4:Int32)), vI (x3 * (4:Int32)), vI y175, vI y176, none, none, none, none, none, none, none], [.int y177], (H0 s o))) rfl hy177 ?_
    refine zS Ad W 6 (st' := (74, [vR 1, vI x1, vI x2, vI x3, vI (x2 * (4:Int32)), vI (x3 * (4:Int32)), vI y175, vI y176, vI y177, none, none, none, none, none, none], [.int ((x2 * (4:Int32)) + (3:Int32)), .ref 10], (H0 s o))) rfl ?_
    obtain ⟨y178, hy178, h⟩ := bind_eq_some_iff.mp h
    refine zB Ad W (f := fun y178 => (75, [vR 1, vI x1, vI x2, vI x3, vI (x2 * (4:Int32)), vI (x3 * (4:Int32)), vI y175, vI y176, vI y177, none, none, none, none, none, none], [.int y178], (H0 s o))) rfl hy178 ?_
    refine zS Ad W 4 (st' := (83, [vR 1, vI x1, vI x2, vI x3, vI (x2 * (4:Int32)), vI (x3 * (4:Int32)), vI y175, vI y176, vI y177, vI y178, none, none, none, none, none], [.int (x3 * (4:Int32)), .ref 10], (H0 s o))) rfl ?_
    obtain ⟨y179, hy179, h⟩ := bind_eq_some_iff.mp h
    refine zB Ad W (f := fun y179 => (84, [vR 1, vI x1, vI x2, vI x3, vI (x2 * (4:Int32)), vI (x3 * (4:Int32)), vI y175, vI y176, vI y177, vI y178, none, none, none, none, none], [.int y179], (H0 s o))) rfl hy179 ?_
    refine zS Ad W 6 (st' := (94, [vR 1, vI x1, vI x2, vI x3, vI (x2 * (4:Int32)), vI (x3 * (4:Int32)), vI y175, vI y176, vI y177, vI y178, vI y179, none, none, none, none], [.int ((x3 * (4:Int32)) + (1:Int32)), .ref 10], (H0 s o))) rfl ?_
    obtain ⟨y180, hy180, h⟩ := bind_eq_some_iff.mp h
    refine zB Ad W (f := fun y180 => (95, [vR 1, vI x1, vI x2, vI x3, vI (x2 * (4:Int32)), vI (x3 * (4:Int32)), vI y175, vI y176, vI y177, vI y178, vI y179, none, none, none, none], [.int y180], (H0 s o))) rfl hy180 ?_
    refine zS Ad W 6 (st' := (105, [vR 1, vI x1, vI x2, vI x3, vI (x2 * (4:Int32)), vI (x3 * (4:Int32)), vI y175, vI y176, vI y177, vI y178, vI y179, vI y180, none, none, none], [.int ((x3 * (4:Int32)) + (2:Int32)), .ref 10], (H0 s o))) rfl ?_
    obtain ⟨y181, hy181, h⟩ := bind_eq_some_iff.mp h
    refine zB Ad W (f := fun y181 => (106, [vR 1, vI x1, vI x2, vI x3, vI (x2 * (4:Int32)), vI (x3 * (4:Int32)), vI y175, vI y176, vI y177, vI y178, vI y179, vI y180, none, none, none], [.int y181], (H0 s o))) rfl hy181 ?_
    refine zS Ad W 6 (st' := (116, [vR 1, vI x1, vI x2, vI x3, vI (x2 * (4:Int32)), vI (x3 * (4:Int32)), vI y175, vI y176, vI y177, vI y178, vI y179, vI y180, vI y181, none, none], [.int ((x3 * (4:Int32)) + (3:Int32)), .ref 10], (H0 s o))) rfl ?_
    obtain ⟨y182, hy182, h⟩ := bind_eq_some_iff.mp h
    refine zB Ad W (f := fun y182 => (117, [vR 1, vI x1, vI x2, vI x3, vI (x2 * (4:Int32)), vI (x3 * (4:Int32)), vI y175, vI y176, vI y177, vI y178, vI y179, vI y180, vI y181, none, none], [.int y182], (H0 s o))) rfl hy182 ?_
    refine zS Ad W 5 (st' := (124, [vR 1, vI x1, vI x2, vI x3, vI (x2 * (4:Int32)), vI (x3 * (4:Int32)), vI y175, vI y176, vI y177, vI y178, vI y179, vI y180, vI y181, vI y182, vI (x1 * (4:Int32))], [], (H0 s o))) rfl ?_
    refine zS Ad W 10 (st' := (141, [vR 1, vI x1, vI x2, vI x3, vI (x2 * (4:Int32)), vI (x3 * (4:Int32)), vI y175, vI y176, vI y177, vI y178, vI y179, vI y180, vI y181, vI y182, vI (x1 * (4:Int32))], [.int ((y175 * y179) + (y176 * y181)), .int (x1 * (4:Int32)), .ref 10], (H0 s o))) rfl ?_
    obtain ⟨y183, hy183, h⟩ := bind_eq_some_iff.mp h
    refine zB Ad W (f := fun y183 => (142, [vR 1, vI x1, vI x2, vI x3, vI (x2 * (4:Int32)), vI (x3 * (4:Int32)), vI y175, vI y176, vI y177, vI y178, vI y179, vI y180, vI y181, vI y182, vI (x1 * (4:Int32))], [], (H0x6 s o y183))) rfl hy183 ?_
    refine zS Ad W 12 (st' := (161, [vR 1, vI x1, vI x2, vI x3, vI (x2 * (4:Int32)), vI (x3 * (4:Int32)), vI y175, vI y176, vI y177, vI y178, vI y179, vI y180, vI y181, vI y182, vI (x1 * (4:Int32))], [.int ((y175 * y180) + (y176 * y182)), .int ((x1 * (4:Int32)) + (1:Int32)), .ref 10], (H0x6 s o y183))) rfl ?_
    obtain ⟨y184, hy184, h⟩ := bind_eq_some_iff.mp h
    refine zB Ad W (f := fun y184 => (162, [vR 1, vI x1, vI x2, vI x3, vI (x2 * (4:Int32)), vI (x3 * (4:Int32)), vI y175, vI y176, vI y177, vI y178, vI y179, vI y180, vI y181, vI y182, vI (x1 * (4:Int32))], [], (H0x6 s o y184))) rfl hy184 ?_
    refine zS Ad W 12 (st' := (181, [vR 1, vI x1, vI x2, vI x3, vI (x2 * (4:Int32)), vI (x3 * (4:Int32)), vI y175, vI y176, vI y177, vI y178, vI y179, vI y180, vI y181, vI y182, vI (x1 * (4:Int32))], [.int ((y177 * y179) + (y178 * y181)), .int ((x1 * (4:Int32)) + (2:Int32)), .ref 10], (H0x6 s o y184))) rfl ?_
    obtain ⟨y185, hy185, h⟩ := bind_eq_some_iff.mp h
    refine zB Ad W (f := fun y185 => (182, [vR 1, vI x1, vI x2, vI x3, vI (x2 * (4:Int32)), vI (x3 * (4:Int32)), vI y175, vI y176, vI y177, vI y178, vI y179, vI y180, vI y181, vI y182, vI (x1 * (4:Int32))], [], (H0x6 s o y185))) rfl hy185 ?_
    refine zS Ad W 12 (st' := (201, [vR 1, vI x1, vI x2, vI x3, vI (x2 * (4:Int32)), vI (x3 * (4:Int32)), vI y175, vI y176, vI y177, vI y178, vI y179, vI y180, vI y181, vI y182, vI (x1 * (4:Int32))], [.int ((y177 * y180) + (y178 * y182)), .int ((x1 * (4:Int32)) + (3:Int32)), .ref 10], (H0x6 s o y185))) rfl ?_
    obtain ⟨y186, hy186, h⟩ := bind_eq_some_iff.mp h
    refine zB Ad W (f := fun y186 => (202, [vR 1, vI x1, vI x2, vI x3, vI (x2 * (4:Int32)), vI (x3 * (4:Int32)), vI y175, vI y176, vI y177, vI y178, vI y179, vI y180, vI y181, vI y182, vI (x1 * (4:Int32))], [], (H0x6 s o y186))) rfl hy186 ?_
    have E187 : ((H0x6 s o y186) : QHeap) = (H0 s (s_reg o y186)) := by simp only [fs, H0, H0v, H0x6, s_reg]
    rw [E187]
    obtain rfl := Option.some.inj h
    exact QTri.ret0 rfl rfl
def J26_28 (o : Ob) (x1 : Int32) (x2 : Int32) : Option (Ob) :=
  (F27 o (2 : Int32) x1).bind fun r168 => (F28 r168 x2 (1 : Int32) (2 : Int32)).bind fun r188 => some r188
theorem tJ26_28 (Ad : QAd n0 ad) (W : QW Z a0) (s : List Int32) (o : Ob) (x1 : Int32) (x2 : Int32) {r : Ob} (h : J26_28 o x1 x2 = some r) : QTri l Z n0 ad 26 (28, [vR 1, vI x1, vI x2, none], [], (H0 s o)) (none : Option Value) (H0 s r) := by
 unfold J26_28 at h
 refine zS Ad W 3 (st' := (31, [vR 1, vI x1, vI x2, none], [.int x1, .int (2:Int32), .ref 1], (H0 s o))) rfl ?_
 obtain ⟨r168, hr168, h⟩ := bind_eq_some_iff.mp h
 refine QTri.callP W (a := 1) (as := [.int (2:Int32), .int x1]) (rest := []) (w := none) (σ₁ := (H0 s r168)) rfl rfl rfl rfl rfl rfl rfl rfl (tF27 Ad W s o (2:Int32) x1 hr168) ?_
 refine zS Ad W 4 (st' := (38, [vR 1, vI x1, vI x2, none], [.int (2:Int32), .int (1:Int32), .int x2, .ref 1], (H0 s r168))) rfl ?_
 obtain ⟨r188, hr188, h⟩ := bind_eq_some_iff.mp h
 refine QTri.callP W (a := 1) (as := [.int x2, .int (1:Int32), .int (2:Int32)]) (rest := []) (w := none) (σ₁ := (H0 s r188)) rfl rfl rfl rfl rfl rfl rfl rfl (tF28 Ad W s r168 x2 (1:Int32) (2:Int32) hr188) ?_
 obtain rfl := Option.some.inj h
 exact QTri.ret0 rfl rfl
/-- liveFold(II)V -/
def F26 (o : Ob) (x1 : Int32) (x2 : Int32) : Option (Ob) :=
 (aget (f_frontSize o) x1).bind fun y140 => (if (0:Int32) < y140 then (F39 o (1:Int32) x1 (y140 - (1:Int32))).bind fun r157 => (J26_28 r157 x1 x2) else (F3 o (1:Int32)).bind fun r189 => (J26_28 r189 x1 x2))
theorem tF26 (Ad : QAd n0 ad) (W : QW Z a0) (s : List Int32) (o : Ob) (x1 : Int32) (x2 : Int32) {r : Ob} (h : F26 o x1 x2 = some r) : QTri l Z n0 ad 26 (0, qentry [.ref 1, .int x1, .int x2] (pMaxL 26), [], (H0 s o)) (none : Option Value) (H0 s r) := by
 unfold F26 at h
 refine zS Ad W 3 (st' := (5, [vR 1, vI x1, vI x2, none], [.int x1, .ref 4], (H0 s o))) rfl ?_
 obtain ⟨y140, hy140, h⟩ := bind_eq_some_iff.mp h
 refine zB Ad W (f := fun y140 => (6, [vR 1, vI x1, vI x2, none], [.int y140], (H0 s o))) rfl hy140 ?_
 refine zS Ad W 2 (st' := (8, [vR 1, vI x1, vI x2, vI y140], [.int y140], (H0 s o))) rfl ?_
 rcases qite h with ⟨hc141, h⟩ | ⟨hc141, h⟩
 ·refine zF Ad W (t := 23) (f := 11) rfl (XT.i0_le_f hc141) ?_
  refine zS Ad W 6 (st' := (17, [vR 1, vI x1, vI x2, vI y140], [.int (y140 - (1:Int32)), .int x1, .int (1:Int32), .ref 1], (H0 s o))) rfl ?_
  obtain ⟨r157, hr157, h⟩ := bind_eq_some_iff.mp h
  refine QTri.callP W (a := 1) (as := [.int (1:Int32), .int x1, .int (y140 - (1:Int32))]) (rest := []) (w := none) (σ₁ := (H0 s r157)) rfl rfl rfl rfl rfl rfl rfl rfl (tF39 Ad W s o (1:Int32) x1 (y140 - (1:Int32)) hr157) ?_
  refine zS Ad W 1 (st' := (28, [vR 1, vI x1, vI x2, vI y140], [], (H0 s r157))) rfl ?_
  exact zM [tt,tt,tt,ff] (tJ26_28 Ad W s r157 x1 x2 h)
 ·refine zT Ad W (t := 23) (f := 11) rfl (XT.i0_le_t hc141) ?_
  refine zS Ad W 2 (st' := (25, [vR 1, vI x1, vI x2, vI y140], [.int (1:Int32), .ref 1], (H0 s o))) rfl ?_
  obtain ⟨r189, hr189, h⟩ := bind_eq_some_iff.mp h
  refine QTri.callP W (a := 1) (as := [.int (1:Int32)]) (rest := []) (w := none) (σ₁ := (H0 s r189)) rfl rfl rfl rfl rfl rfl rfl rfl (tF3 Ad W s o (1:Int32) hr189) ?_
  exact zM [tt,tt,tt,ff] (tJ26_28 Ad W s r189 x1 x2 h)
/-- regEntry(II)I -/
def F29 (o : Ob) (x1 : Int32) (x2 : Int32) : Option (Int32) :=
 (F5 x1).bind fun r191 => (if r191 = (0:Int32) then some (0:Int32) else (F24 x2).bind fun r193 => (if r193 = (0:Int32) then some (0:Int32) else (aget (f_reg o) ((x1 * (4:Int32)) + x2)).bind fun y195 => some y195))
theorem tF29 (Ad : QAd n0 ad) (W : QW Z a0) (s : List Int32) (o : Ob) (x1 : Int32) (x2 : Int32) {r : Int32} (h : F29 o x1 x2 = some r) : QTri l Z n0 ad 29 (0, qentry [.ref 1, .int x1, .int x2] (pMaxL 29), [], (H0 s o)) (some (Value.int r)) (H0 s o) := by
 unfold F29 at h
 refine zS Ad W 2 (st' := (2, [vR 1, vI x1, vI x2], [.int x1, .ref 1], (H0 s o))) rfl ?_
 obtain ⟨r191, hr191, h⟩ := bind_eq_some_iff.mp h
 refine QTri.callP W (a := 1) (as := [.int x1]) (rest := []) (w := (some (.int r191))) (σ₁ := (H0 s o)) rfl rfl rfl rfl rfl rfl rfl rfl (tF5 Ad W x1 hr191) ?_
 rcases qite h with ⟨hc192, h⟩ | ⟨hc192, h⟩
 ·refine zT Ad W (t := 16) (f := 8) rfl (XT.i0_eq_t hc192) ?_
  refine zS Ad W 1 (st' := (17, [vR 1, vI x1, vI x2], [.int (0:Int32)], (H0 s o))) rfl ?_
  obtain rfl := Option.some.inj h
  exact QTri.retI rfl rfl
 ·refine zF Ad W (t := 16) (f := 8) rfl (XT.i0_eq_f hc192) ?_
  refine zS Ad W 2 (st' := (10, [vR 1, vI x1, vI x2], [.int x2, .ref 1], (H0 s o))) rfl ?_
  obtain ⟨r193, hr193, h⟩ := bind_eq_some_iff.mp h
  refine QTri.callP W (a := 1) (as := [.int x2]) (rest := []) (w := (some (.int r193))) (σ₁ := (H0 s o)) rfl rfl rfl rfl rfl rfl rfl rfl (tF24 Ad W x2 hr193) ?_
  rcases qite h with ⟨hc194, h⟩ | ⟨hc194, h⟩
  ·refine zF Ad W (t := 18) (f := 16) rfl (XT.i0_ne_f hc194) ?_
   refine zS Ad W 1 (st' := (17, [vR 1, vI x1, vI x2], [.int (0:Int32)], (H0 s o))) rfl ?_
   obtain rfl := Option.some.inj h
   exact QTri.retI rfl rfl
  ·refine zT Ad W (t := 18) (f := 16) rfl (XT.i0_ne_t hc194) ?_
   refine zS Ad W 7 (st' := (27, [vR 1, vI x1, vI x2], [.int ((x1 * (4:Int32)) + x2), .ref 10], (H0 s o))) rfl ?_
   obtain ⟨y195, hy195, h⟩ := bind_eq_some_iff.mp h
   refine zB Ad W (f := fun y195 => (28, [vR 1, vI x1, vI x2], [.int y195], (H0 s o))) rfl hy195 ?_
   obtain rfl := Option.some.inj h
   exact QTri.retI rfl rfl
/-- liveResult(II)I -/
def F20 (o : Ob) (x1 : Int32) (x2 : Int32) : Option (Int32 × Ob) :=
 (F14 o x1).bind fun r136 => (if r136 = (0:Int32) then some ((0:Int32), o) else (F24 x2).bind fun r138 => (if r138 = (0:Int32) then some ((0:Int32), o) else (F26 o x1 (3:Int32)).bind fun r190 => (F29 r190 (3:Int32) x2).bind fun r196 => some (r196, r190)))
theorem tF20 (Ad : QAd n0 ad) (W : QW Z a0) (s : List Int32) (o : Ob) (x1 : Int32) (x2 : Int32) {r : Int32 × Ob} (h : F20 o x1 x2 = some r) : QTri l Z n0 ad 20 (0, qentry [.ref 1, .int x1, .int x2] (pMaxL 20), [], (H0 s o)) (some (Value.int r.1)) (H0 s r.2) := by
 unfold F20 at h
 refine zS Ad W 2 (st' := (2, [vR 1, vI x1, vI x2], [.int x1, .ref 1], (H0 s o))) rfl ?_
 obtain ⟨r136, hr136, h⟩ := bind_eq_some_iff.mp h
 refine QTri.callP W (a := 1) (as := [.int x1]) (rest := []) (w := (some (.int r136))) (σ₁ := (H0 s o)) rfl rfl rfl rfl rfl rfl rfl rfl (tF14 Ad W s o x1 hr136) ?_
 rcases qite h with ⟨hc137, h⟩ | ⟨hc137, h⟩
 ·refine zF Ad W (t := 10) (f := 8) rfl (XT.i0_ne_f hc137) ?_
  refine zS Ad W 1 (st' := (9, [vR 1, vI x1, vI x2], [.int (0:Int32)], (H0 s o))) rfl ?_
  obtain rfl := Option.some.inj h
  exact QTri.retI rfl rfl
 ·refine zT Ad W (t := 10) (f := 8) rfl (XT.i0_ne_t hc137) ?_
  refine zS Ad W 2 (st' := (12, [vR 1, vI x1, vI x2], [.int x2, .ref 1], (H0 s o))) rfl ?_
  obtain ⟨r138, hr138, h⟩ := bind_eq_some_iff.mp h
  refine QTri.callP W (a := 1) (as := [.int x2]) (rest := []) (w := (some (.int r138))) (σ₁ := (H0 s o)) rfl rfl rfl rfl rfl rfl rfl rfl (tF24 Ad W x2 hr138) ?_
  rcases qite h with ⟨hc139, h⟩ | ⟨hc139, h⟩
  ·refine zF Ad W (t := 20) (f := 18) rfl (XT.i0_ne_f hc139) ?_
   refine zS Ad W 1 (st' := (19, [vR 1, vI x1, vI x2], [.int (0:Int32)], (H0 s o))) rfl ?_
   obtain rfl := Option.some.inj h
   exact QTri.retI rfl rfl
  ·refine zT Ad W (t := 20) (f := 18) rfl (XT.i0_ne_t hc139) ?_
   refine zS Ad W 3 (st' := (23, [vR 1, vI x1, vI x2], [.int (3:Int32), .int x1, .ref 1], (H0 s o))) rfl ?_
   obtain ⟨r190, hr190, h⟩ := bind_eq_some_iff.mp h
   refine QTri.callP W (a := 1) (as := [.int x1, .int (3:Int32)]) (rest := []) (w := none) (σ₁ := (H0 s r190)) rfl rfl rfl rfl rfl rfl rfl rfl (tF26 Ad W s o x1 (3:Int32) hr190) ?_
   refine zS Ad W 3 (st' := (29, [vR 1, vI x1, vI x2], [.int x2, .int (3:Int32), .ref 1], (H0 s r190))) rfl ?_
   obtain ⟨r196, hr196, h⟩ := bind_eq_some_iff.mp h
   refine QTri.callP W (a := 1) (as := [.int (3:Int32), .int x2]) (rest := []) (w := (some (.int r196))) (σ₁ := (H0 s r190)) rfl rfl rfl rfl rfl rfl rfl rfl (tF29 Ad W s r190 (3:Int32) x2 hr196) ?_
   obtain rfl := Option.some.inj h
   exact QTri.retI rfl rfl
/-- fold(LSliceAggregate;IZIIII)Z -/
def F25 (o : Ob) (x1 : Int32) (x2 : Int32) (x3 : Int32) (x4 : Int32) (x5 : Int32) (x6 : Int32) : Option (Int32 × Ob) :=
 (if x2 = (0:Int32) then (F19 o x1 (0:Int32)).bind fun r207 => (if r207 = x3 then (F19 o x1 (1:Int32)).bind fun r209 => (if r209 = x4 then (F19 o x1 (2:Int32)).bind fun r211 => (if r211 = x5 then (F19 o x1 (3:Int32)).bind fun r213 => (if r213 = x6 then some ((1:Int32), o) else some ((0:Int32), o)) else some ((0:Int32), o)) else some ((0:Int32), o)) else some ((0:Int32), o)) else (F20 o x1 (0:Int32)).bind fun r215 => (if r215.1 = x3 then (F20 r215.2 x1 (1:Int32)).bind fun r217 => (if r217.1 = x4 then (F20 r217.2 x1 (2:Int32)).bind fun r219 => (if r219.1 = x5 then (F20 r219.2 x1 (3:Int32)).bind fun r221 => (if r221.1 = x6 then some ((1:Int32), r221.2) else some ((0:Int32), r221.2)) else some ((0:Int32), r219.2)) else some ((0:Int32), r217.2)) else some ((0:Int32), r215.2)))
theorem tF25 (Ad : QAd n0 ad) (W : QW Z a0) (s : List Int32) (o : Ob) (x1 : Int32) (x2 : Int32) (x3 : Int32) (x4 : Int32) (x5 : Int32) (x6 : Int32) {r : Int32 × Ob} (h : F25 o x1 x2 x3 x4 x5 x6 = some r) : QTri l Z n0 ad 25 (0, qentry [.ref 1, .int x1, .int x2, .int x3, .int x4, .int x5, .int x6] (pMaxL 25), [], (H0 s o)) (some (Value.int r.1)) (H0 s r.2) := by
 unfold F25 at h
 refine zS Ad W 1 (st' := (1, [vR 1, vI x1, vI x2, vI x3, vI x4, vI x5, vI x6], [.int x2], (H0 s o))) rfl ?_
 rcases qite h with ⟨hc206, h⟩ | ⟨hc206, h⟩
 ·refine zT Ad W (t := 53) (f := 4) rfl (XT.i0_eq_t hc206) ?_
  refine zS Ad W 3 (st' := (56, [vR 1, vI x1, vI x2, vI x3, vI x4, vI x5, vI x6], [.int (0:Int32), .int x1, .ref 1], (H0 s o))) rfl ?_
  obtain ⟨r207, hr207, h⟩ := bind_eq_some_iff.mp h
  refine QTri.callV W (a := 1) (as := [.int x1, .int (0:Int32)]) (rest := []) (w := (some (.int r207))) (σ₁ := (H0 s o)) rfl rfl rfl rfl rfl rfl rfl rfl (tF19 Ad W s o x1 (0:Int32) hr207) ?_
  refine zS Ad W 1 (st' := (60, [vR 1, vI x1, vI x2, vI x3, vI x4, vI x5, vI x6], [.int x3, .int r207], (H0 s o))) rfl ?_
  rcases qite h with ⟨hc208, h⟩ | ⟨hc208, h⟩
  ·refine zF Ad W (t := 100) (f := 63) rfl (XT.ii_ne_f hc208) ?_
   refine zS Ad W 3 (st' := (66, [vR 1, vI x1, vI x2, vI x3, vI x4, vI x5, vI x6], [.int (1:Int32), .int x1, .ref 1], (H0 s o))) rfl ?_
   obtain ⟨r209, hr209, h⟩ := bind_eq_some_iff.mp h
   refine QTri.callV W (a := 1) (as := [.int x1, .int (1:Int32)]) (rest := []) (w := (some (.int r209))) (σ₁ := (H0 s o)) rfl rfl rfl rfl rfl rfl rfl rfl (tF19 Ad W s o x1 (1:Int32) hr209) ?_
   refine zS Ad W 1 (st' := (71, [vR 1, vI x1, vI x2, vI x3, vI x4, vI x5, vI x6], [.int x4, .int r209], (H0 s o))) rfl ?_
   rcases qite h with ⟨hc210, h⟩ | ⟨hc210, h⟩
   ·refine zF Ad W (t := 100) (f := 74) rfl (XT.ii_ne_f hc210) ?_
    refine zS Ad W 3 (st' := (77, [vR 1, vI x1, vI x2, vI x3, vI x4, vI x5, vI x6], [.int (2:Int32), .int x1, .ref 1], (H0 s o))) rfl ?_
    obtain ⟨r211, hr211, h⟩ := bind_eq_some_iff.mp h
    refine QTri.callV W (a := 1) (as := [.int x1, .int (2:Int32)]) (rest := []) (w := (some (.int r211))) (σ₁ := (H0 s o)) rfl rfl rfl rfl rfl rfl rfl rfl (tF19 Ad W s o x1 (2:Int32) hr211) ?_
    refine zS Ad W 1 (st' := (82, [vR 1, vI x1, vI x2, vI x3, vI x4, vI x5, vI x6], [.int x5, .int r211], (H0 s o))) rfl ?_
    rcases qite h with ⟨hc212, h⟩ | ⟨hc212, h⟩
    ·refine zF Ad W (t := 100) (f := 85) rfl (XT.ii_ne_f hc212) ?_
     refine zS Ad W 3 (st' := (88, [vR 1, vI x1, vI x2, vI x3, vI x4, vI x5, vI x6], [.int (3:Int32), .int x1, .ref 1], (H0 s o))) rfl ?_
     obtain ⟨r213, hr213, h⟩ := bind_eq_some_iff.mp h
     refine QTri.callV W (a := 1) (as := [.int x1, .int (3:Int32)]) (rest := []) (w := (some (.int r213))) (σ₁ := (H0 s o)) rfl rfl rfl rfl rfl rfl rfl rfl (tF19 Ad W s o x1 (3:Int32) hr213) ?_
     refine zS Ad W 1 (st' := (93, [vR 1, vI x1, vI x2, vI x3, vI x4, vI x5, vI x6], [.int x6, .int r213], (H0 s o))) rfl ?_
     rcases qite h with ⟨hc214, h⟩ | ⟨hc214, h⟩
     ·refine zF Ad W (t := 100) (f := 96) rfl (XT.ii_ne_f hc214) ?_
      refine zS Ad W 2 (st' := (101, [vR 1, vI x1, vI x2, vI x3, vI x4, vI x5, vI x6], [.int (1:Int32)], (H0 s o))) rfl ?_
      obtain rfl := Option.some.inj h
      exact QTri.retZ rfl rfl
     ·refine zT Ad W (t := 100) (f := 96) rfl (XT.ii_ne_t hc214) ?_
      refine zS Ad W 1 (st' := (101, [vR 1, vI x1, vI x2, vI x3, vI x4, vI x5, vI x6], [.int (0:Int32)], (H0 s o))) rfl ?_
      obtain rfl := Option.some.inj h
      exact QTri.retZ rfl rfl
    ·refine zT Ad W (t := 100) (f := 85) rfl (XT.ii_ne_t hc212) ?_
     refine zS Ad W 1 (st' := (101, [vR 1, vI x1, vI x2, vI x3, vI x4, vI x5, vI x6], [.int (0:Int32)], (H0 s o))) rfl ?_
     obtain rfl := Option.some.inj h
     exact QTri.retZ rfl rfl
   ·refine zT Ad W (t := 100) (f := 74) rfl (XT.ii_ne_t hc210) ?_
    refine zS Ad W 1 (st' := (101, [vR 1, vI x1, vI x2, vI x3, vI x4, vI x5, vI x6], [.int (0:Int32)], (H0 s o))) rfl ?_
    obtain rfl := Option.some.inj h
    exact QTri.retZ rfl rfl
  ·refine zT Ad W (t := 100) (f := 63) rfl (XT.ii_ne_t hc208) ?_
   refine zS Ad W 1 (st' := (101, [vR 1, vI x1, vI x2, vI x3, vI x4, vI x5, vI x6], [.int (0:Int32)], (H0 s o))) rfl ?_
   obtain rfl := Option.some.inj h
   exact QTri.retZ rfl rfl
 ·refine zF Ad W (t := 53) (f := 4) rfl (XT.i0_eq_f hc206) ?_
  refine zS Ad W 3 (st' := (7, [vR 1, vI x1, vI x2, vI x3, vI x4, vI x5, vI x6], [.int (0:Int32), .int x1, .ref 1], (H0 s o))) rfl ?_
  obtain ⟨r215, hr215, h⟩ := bind_eq_some_iff.mp h
  refine QTri.callV W (a := 1) (as := [.int x1, .int (0:Int32)]) (rest := []) (w := (some (.int r215.1))) (σ₁ := (H0 s r215.2)) rfl rfl rfl rfl rfl rfl rfl rfl (tF20 Ad W s o x1 (0:Int32) hr215) ?_
  refine zS Ad W 1 (st' := (11, [vR 1, vI x1, vI x2, vI x3, vI x4, vI x5, vI x6], [.int x3, .int r215.1], (H0 s r215.2))) rfl ?_
  rcases qite h with ⟨hc216, h⟩ | ⟨hc216, h⟩
  ·refine zF Ad W (t := 51) (f := 14) rfl (XT.ii_ne_f hc216) ?_
   refine zS Ad W 3 (st' := (17, [vR 1, vI x1, vI x2, vI x3, vI x4, vI x5, vI x6], [.int (1:Int32), .int x1, .ref 1], (H0 s r215.2))) rfl ?_
   obtain ⟨r217, hr217, h⟩ := bind_eq_some_iff.mp h
   refine QTri.callV W (a := 1) (as := [.int x1, .int (1:Int32)]) (rest := []) (w := (some (.int r217.1))) (σ₁ := (H0 s r217.2)) rfl rfl rfl rfl rfl rfl rfl rfl (tF20 Ad W s r215.2 x1 (1:Int32) hr217) ?_
   refine zS Ad W 1 (st' := (22, [vR 1, vI x1, vI x2, vI x3, vI x4, vI x5, vI x6], [.int x4, .int r217.1], (H0 s r217.2))) rfl ?_
   rcases qite h with ⟨hc218, h⟩ | ⟨hc218, h⟩
   ·refine zF Ad W (t := 51) (f := 25) rfl (XT.ii_ne_f hc218) ?_
    refine zS Ad W 3 (st' := (28, [vR 1, vI x1, vI x2, vI x3, vI x4, vI x5, vI x6], [.int (2:Int32), .int x1, .ref 1], (H0 s r217.2))) rfl ?_
    obtain ⟨r219, hr219, h⟩ := bind_eq_some_iff.mp h
    refine QTri.callV W (a := 1) (as := [.int x1, .int (2:Int32)]) (rest := []) (w := (some (.int r219.1))) (σ₁ := (H0 s r219.2)) rfl rfl rfl rfl rfl rfl rfl rfl (tF20 Ad W s r217.2 x1 (2:Int32) hr219) ?_
    refine zS Ad W 1 (st' := (33, [vR 1, vI x1, vI x2, vI x3, vI x4, vI x5, vI x6], [.int x5, .int r219.1], (H0 s r219.2))) rfl ?_
    rcases qite h with ⟨hc220, h⟩ | ⟨hc220, h⟩
    ·refine zF Ad W (t := 51) (f := 36) rfl (XT.ii_ne_f hc220) ?_
     refine zS Ad W 3 (st' := (39, [vR 1, vI x1, vI x2, vI x3, vI x4, vI x5, vI x6], [.int (3:Int32), .int x1, .ref 1], (H0 s r219.2))) rfl ?_
     obtain ⟨r221, hr221, h⟩ := bind_eq_some_iff.mp h
     refine QTri.callV W (a := 1) (as := [.int x1, .int (3:Int32)]) (rest := []) (w := (some (.int r221.1))) (σ₁ := (H0 s r221.2)) rfl rfl rfl rfl rfl rfl rfl rfl (tF20 Ad W s r219.2 x1 (3:Int32) hr221) ?_
     refine zS Ad W 1 (st' := (44, [vR 1, vI x1, vI x2, vI x3, vI x4, vI x5, vI x6], [.int x6, .int r221.1], (H0 s r221.2))) rfl ?_
     rcases qite h with ⟨hc222, h⟩ | ⟨hc222, h⟩
     ·refine zF Ad W (t := 51) (f := 47) rfl (XT.ii_ne_f hc222) ?_
      refine zS Ad W 2 (st' := (52, [vR 1, vI x1, vI x2, vI x3, vI x4, vI x5, vI x6], [.int (1:Int32)], (H0 s r221.2))) rfl ?_
      obtain rfl := Option.some.inj h
      exact QTri.retZ rfl rfl
     ·refine zT Ad W (t := 51) (f := 47) rfl (XT.ii_ne_t hc222) ?_
      refine zS Ad W 1 (st' := (52, [vR 1, vI x1, vI x2, vI x3, vI x4, vI x5, vI x6], [.int (0:Int32)], (H0 s r221.2))) rfl ?_
      obtain rfl := Option.some.inj h
      exact QTri.retZ rfl rfl
    ·refine zT Ad W (t := 51) (f := 36) rfl (XT.ii_ne_t hc220) ?_
     refine zS Ad W 1 (st' := (52, [vR 1, vI x1, vI x2, vI x3, vI x4, vI x5, vI x6], [.int (0:Int32)], (H0 s r219.2))) rfl ?_
     obtain rfl := Option.some.inj h
     exact QTri.retZ rfl rfl
   ·refine zT Ad W (t := 51) (f := 25) rfl (XT.ii_ne_t hc218) ?_
    refine zS Ad W 1 (st' := (52, [vR 1, vI x1, vI x2, vI x3, vI x4, vI x5, vI x6], [.int (0:Int32)], (H0 s r217.2))) rfl ?_
    obtain rfl := Option.some.inj h
    exact QTri.retZ rfl rfl
  ·refine zT Ad W (t := 51) (f := 14) rfl (XT.ii_ne_t hc216) ?_
   refine zS Ad W 1 (st' := (52, [vR 1, vI x1, vI x2, vI x3, vI x4, vI x5, vI x6], [.int (0:Int32)], (H0 s r215.2))) rfl ?_
   obtain rfl := Option.some.inj h
   exact QTri.retZ rfl rfl
def J12_270 (o : Ob) (x1 : Int32) (x3 : Int32) (x4 : Int32) (x10 : Int32) (x11 : Int32) (x12 : Int32) (x13 : Int32) (x15 : Int32) : Option (Int32 × Ob) :=
  (if x4 = (1 : Int32) then (if x3 < (1 : Int32) then some ((1 : Int32), o) else (if x15 = x3 then (F25 o x1 (0 : Int32) x10 x11 x12 x13).bind fun r223 => (if r223.1 = (0 : Int32) then some ((0 : Int32), r223.2) else some ((1 : Int32), r223.2)) else some ((1 : Int32), o))) else some ((1 : Int32), o))
theorem tJ12_270 (Ad : QAd n0 ad) (W : QW Z a0) (s : List Int32) (o : Ob) (x1 : Int32) (x3 : Int32) (x4 : Int32) (x10 : Int32) (x11 : Int32) (x12 : Int32) (x13 : Int32) (x15 : Int32) {r : Int32 × Ob} (h : J12_270 o x1 x3 x4 x10 x11 x12 x13 x15 = some r) : QTri l Z n0 ad 12 (270, [vR 1, vI x1, none, vI x3, vI x4, none, none, none, none, none, vI x10, vI x11, vI x12, vI x13, none, vI x15, none], [], (H0 s o)) (some (Value.int r.1)) (H0 s r.2) := by
 unfold J12_270 at h
 refine zS Ad W 2 (st' := (273, [vR 1, vI x1, none, vI x3, vI x4, none, none, none, none, none, vI x10, vI x11, vI x12, vI x13, none, vI x15, none], [.int (1:Int32), .int x4], (H0 s o))) rfl ?_
 rcases qite h with ⟨hc203, h⟩ | ⟨hc203, h⟩
 ·refine zF Ad W (t := 306) (f := 276) rfl (XT.ii_ne_f hc203) ?_
  refine zS Ad W 2 (st' := (278, [vR 1, vI x1, none, vI x3, vI x4, none, none, none, none, none, vI x10, vI x11, vI x12, vI x13, none, vI x15, none], [.int (1:Int32), .int x3], (H0 s o))) rfl ?_
  rcases qite h with ⟨hc204, h⟩ | ⟨hc204, h⟩
  ·refine zT Ad W (t := 306) (f := 281) rfl (XT.ii_lt_t hc204) ?_
   refine zS Ad W 1 (st' := (307, [vR 1, vI x1, none, vI x3, vI x4, none, none, none, none, none, vI x10, vI x11, vI x12, vI x13, none, vI x15, none], [.int (1:Int32)], (H0 s o))) rfl ?_
   obtain rfl := Option.some.inj h
   exact QTri.retZ rfl rfl
  ·refine zF Ad W (t := 306) (f := 281) rfl (XT.ii_lt_f hc204) ?_
   refine zS Ad W 2 (st' := (284, [vR 1, vI x1, none, vI x3, vI x4, none, none, none, none, none, vI x10, vI x11, vI x12, vI x13, none, vI x15, none], [.int x3, .int x15], (H0 s o))) rfl ?_
   rcases qite h with ⟨hc205, h⟩ | ⟨hc205, h⟩
   ·refine zF Ad W (t := 306) (f := 287) rfl (XT.ii_ne_f hc205) ?_
    refine zS Ad W 7 (st' := (298, [vR 1, vI x1, none, vI x3, vI x4, none, none, none, none, none, vI x10, vI x11, vI x12, vI x13, none, vI x15, none], [.int x13, .int x12, .int x11, .int x10, .int (0:Int32), .int x1, .ref 1], (H0 s o))) rfl ?_
    obtain ⟨r223, hr223, h⟩ := bind_eq_some_iff.mp h
    refine QTri.callS W (as := [.ref 1, .int x1, .int (0:Int32), .int x10, .int x11, .int x12, .int x13]) (rest := []) (w := (some (.int r223.1))) (σ₁ := (H0 s r223.2)) rfl rfl rfl rfl rfl rfl rfl (tF25 Ad W s o x1 (0:Int32) x10 x11 x12 x13 hr223) ?_
    rcases qite h with ⟨hc224, h⟩ | ⟨hc224, h⟩
    ·refine zF Ad W (t := 306) (f := 304) rfl (XT.i0_ne_f hc224) ?_
     refine zS Ad W 1 (st' := (305, [vR 1, vI x1, none, vI x3, vI x4, none, none, none, none, none, vI x10, vI x11, vI x12, vI x13, none, vI x15, none], [.int (0:Int32)], (H0 s r223.2))) rfl ?_
     obtain rfl := Option.some.inj h
     exact QTri.retZ rfl rfl
    ·refine zT Ad W (t := 306) (f := 304) rfl (XT.i0_ne_t hc224) ?_
     refine zS Ad W 1 (st' := (307, [vR 1, vI x1, none, vI x3, vI x4, none, none, none, none, none, vI x10, vI x11, vI x12, vI x13, none, vI x15, none], [.int (1:Int32)], (H0 s r223.2))) rfl ?_
     obtain rfl := Option.some.inj h
     exact QTri.retZ rfl rfl
   ·refine zT Ad W (t := 306) (f := 287) rfl (XT.ii_ne_t hc205) ?_
    refine zS Ad W 1 (st' := (307, [vR 1, vI x1, none, vI x3, vI x4, none, none, none, none, none, vI x10, vI x11, vI x12, vI x13, none, vI x15, none], [.int (1:Int32)], (H0 s o))) rfl ?_
    obtain rfl := Option.some.inj h
    exact QTri.retZ rfl rfl
 ·refine zT Ad W (t := 306) (f := 276) rfl (XT.ii_ne_t hc203) ?_
  refine zS Ad W 1 (st' := (307, [vR 1, vI x1, none, vI x3, vI x4, none, none, none, none, none, vI x10, vI x11, vI x12, vI x13, none, vI x15, none], [.int (1:Int32)], (H0 s o))) rfl ?_
  obtain rfl := Option.some.inj h
  exact QTri.retZ rfl rfl
def J12_240 (o : Ob) (x1 : Int32) (x3 : Int32) (x4 : Int32) (x10 : Int32) (x11 : Int32) (x12 : Int32) (x13 : Int32) (x15 : Int32) : Option (Int32 × Ob) :=
  (if x4 = (1 : Int32) then (if x3 < (1 : Int32) then (J12_270 o x1 x3 x4 x10 x11 x12 x13 x15) else (F25 o x1 (1 : Int32) x10 x11 x12 x13).bind fun r225 => (if r225.1 = (0 : Int32) then some ((0 : Int32), r225.2) else (J12_270 r225.2 x1 x3 x4 x10 x11 x12 x13 x15))) else (J12_270 o x1 x3 x4 x10 x11 x12 x13 x15))
theorem tJ12_240 (Ad : QAd n0 ad) (W : QW Z a0) (s : List Int32) (o : Ob) (x1 : Int32) (x3 : Int32) (x4 : Int32) (x10 : Int32) (x11 : Int32) (x12 : Int32) (x13 : Int32) (x15 : Int32) {r : Int32 × Ob} (h : J12_240 o x1 x3 x4 x10 x11 x12 x13 x15 = some r) : QTri l Z n0 ad 12 (240, [vR 1, vI x1, none, vI x3, vI x4, none, none, none, none, none, vI x10, vI x11, vI x12, vI x13, none, vI x15, none], [], (H0 s o)) (some (Value.int r.1)) (H0 s r.2) := by
 unfold J12_240 at h
 refine zS Ad W 2 (st' := (243, [vR 1, vI x1, none, vI x3, vI x4, none, none, none, none, none, vI x10, vI x11, vI x12, vI x13, none, vI x15, none], [.int (1:Int32), .int x4], (H0 s o))) rfl ?_
 rcases qite h with ⟨hc201, h⟩ | ⟨hc201, h⟩
 ·refine zF Ad W (t := 270) (f := 246) rfl (XT.ii_ne_f hc201) ?_
  refine zS Ad W 2 (st' := (248, [vR 1, vI x1, none, vI x3, vI x4, none, none, none, none, none, vI x10, vI x11, vI x12, vI x13, none, vI x15, none], [.int (1:Int32), .int x3], (H0 s o))) rfl ?_
  rcases qite h with ⟨hc202, h⟩ | ⟨hc202, h⟩
  ·refine zT Ad W (t := 270) (f := 251) rfl (XT.ii_lt_t hc202) ?_
   exact zM [tt,tt,ff,tt,tt,ff,ff,ff,ff,ff,tt,tt,tt,tt,ff,tt,ff] (tJ12_270 Ad W s o x1 x3 x4 x10 x11 x12 x13 x15 h)
  ·refine zF Ad W (t := 270) (f := 251) rfl (XT.ii_lt_f hc202) ?_
   refine zS Ad W 7 (st' := (262, [vR 1, vI x1, none, vI x3, vI x4, none, none, none, none, none, vI x10, vI x11, vI x12, vI x13, none, vI x15, none], [.int x13, .int x12, .int x11, .int x10, .int (1:Int32), .int x1, .ref 1], (H0 s o))) rfl ?_
   obtain ⟨r225, hr225, h⟩ := bind_eq_some_iff.mp h
   refine QTri.callS W (as := [.ref 1, .int x1, .int (1:Int32), .int x10, .int x11, .int x12, .int x13]) (rest := []) (w := (some (.int r225.1))) (σ₁ := (H0 s r225.2)) rfl rfl rfl rfl rfl rfl rfl (tF25 Ad W s o x1 (1:Int32) x10 x11 x12 x13 hr225) ?_
   rcases qite h with ⟨hc226, h⟩ | ⟨hc226, h⟩
   ·refine zF Ad W (t := 270) (f := 268) rfl (XT.i0_ne_f hc226) ?_
    refine zS Ad W 1 (st' := (269, [vR 1, vI x1, none, vI x3, vI x4, none, none, none, none, none, vI x10, vI x11, vI x12, vI x13, none, vI x15, none], [.int (0:Int32)], (H0 s r225.2))) rfl ?_
    obtain rfl := Option.some.inj h
    exact QTri.retZ rfl rfl
   ·refine zT Ad W (t := 270) (f := 268) rfl (XT.i0_ne_t hc226) ?_
    exact zM [tt,tt,ff,tt,tt,ff,ff,ff,ff,ff,tt,tt,tt,tt,ff,tt,ff] (tJ12_270 Ad W s r225.2 x1 x3 x4 x10 x11 x12 x13 x15 h)
 ·refine zT Ad W (t := 270) (f := 246) rfl (XT.ii_ne_t hc201) ?_
  exact zM [tt,tt,ff,tt,tt,ff,ff,ff,ff,ff,tt,tt,tt,tt,ff,tt,ff] (tJ12_270 Ad W s o x1 x3 x4 x10 x11 x12 x13 x15 h)
def J12_209 (o : Ob) (x1 : Int32) (x3 : Int32) (x4 : Int32) (x6 : Int32) (x7 : Int32) (x8 : Int32) (x9 : Int32) (x10 : Int32) (x11 : Int32) (x12 : Int32) (x13 : Int32) (x15 : Int32) : Option (Int32 × Ob) :=
  (if x4 < x3 then (J12_240 o x1 x3 x4 x10 x11 x12 x13 x15) else (if x15 = x3 then (F25 o x1 (0 : Int32) x6 x7 x8 x9).bind fun r228 => (if r228.1 = (0 : Int32) then some ((0 : Int32), r228.2) else (J12_240 r228.2 x1 x3 x4 x10 x11 x12 x13 x15)) else (J12_240 o x1 x3 x4 x10 x11 x12 x13 x15)))
theorem tJ12_209 (Ad : QAd n0 ad) (W : QW Z a0) (s : List Int32) (o : Ob) (x1 : Int32) (x3 : Int32) (x4 : Int32) (x6 : Int32) (x7 : Int32) (x8 : Int32) (x9 : Int32) (x10 : Int32) (x11 : Int32) (x12 : Int32) (x13 : Int32) (x15 : Int32) {r : Int32 × Ob} (h : J12_209 o x1 x3 x4 x6 x7 x8 x9 x10 x11 x12 x13 x15 = some r) : QTri l Z n0 ad 12 (209, [vR 1, vI x1, none, vI x3, vI x4, none, vI x6, vI x7, vI x8, vI x9, vI x10, vI x11, vI x12, vI x13, none, vI x15, none], [], (H0 s o)) (some (Value.int r.1)) (H0 s r.2) := by
 unfold J12_209 at h
 refine zS Ad W 2 (st' := (212, [vR 1, vI x1, none, vI x3, vI x4, none, vI x6, vI x7, vI x8, vI x9, vI x10, vI x11, vI x12, vI x13, none, vI x15, none], [.int x4, .int x3], (H0 s o))) rfl ?_
 rcases qite h with ⟨hc200, h⟩ | ⟨hc200, h⟩
 ·refine zT Ad W (t := 240) (f := 215) rfl (XT.ii_gt_t hc200) ?_
  exact zM [tt,tt,ff,tt,tt,ff,ff,ff,ff,ff,tt,tt,tt,tt,ff,tt,ff] (tJ12_240 Ad W s o x1 x3 x4 x10 x11 x12 x13 x15 h)
 ·refine zF Ad W (t := 240) (f := 215) rfl (XT.ii_gt_f hc200) ?_
  refine zS Ad W 2 (st' := (218, [vR 1, vI x1, none, vI x3, vI x4, none, vI x6, vI x7, vI x8, vI x9, vI x10, vI x11, vI x12, vI x13, none, vI x15, none], [.int x3, .int x15], (H0 s o))) rfl ?_
  rcases qite h with ⟨hc227, h⟩ | ⟨hc227, h⟩
  ·refine zF Ad W (t := 240) (f := 221) rfl (XT.ii_ne_f hc227) ?_
   refine zS Ad W 7 (st' := (232, [vR 1, vI x1, none, vI x3, vI x4, none, vI x6, vI x7, vI x8, vI x9, vI x10, vI x11, vI x12, vI x13, none, vI x15, none], [.int x9, .int x8, .int x7, .int x6, .int (0:Int32), .int x1, .ref 1], (H0 s o))) rfl ?_
   obtain ⟨r228, hr228, h⟩ := bind_eq_some_iff.mp h
   refine QTri.callS W (as := [.ref 1, .int x1, .int (0:Int32), .int x6, .int x7, .int x8, .int x9]) (rest := []) (w := (some (.int r228.1))) (σ₁ := (H0 s r228.2)) rfl rfl rfl rfl rfl rfl rfl (tF25 Ad W s o x1 (0:Int32) x6 x7 x8 x9 hr228) ?_
   rcases qite h with ⟨hc229, h⟩ | ⟨hc229, h⟩
   ·refine zF Ad W (t := 240) (f := 238) rfl (XT.i0_ne_f hc229) ?_
    refine zS Ad W 1 (st' := (239, [vR 1, vI x1, none, vI x3, vI x4, none, vI x6, vI x7, vI x8, vI x9, vI x10, vI x11, vI x12, vI x13, none, vI x15, none], [.int (0:Int32)], (H0 s r228.2))) rfl ?_
    obtain rfl := Option.some.inj h
    exact QTri.retZ rfl rfl
   ·refine zT Ad W (t := 240) (f := 238) rfl (XT.i0_ne_t hc229) ?_
    exact zM [tt,tt,ff,tt,tt,ff,ff,ff,ff,ff,tt,tt,tt,tt,ff,tt,ff] (tJ12_240 Ad W s r228.2 x1 x3 x4 x10 x11 x12 x13 x15 h)
  ·refine zT Ad W (t := 240) (f := 221) rfl (XT.ii_ne_t hc227) ?_
   exact zM [tt,tt,ff,tt,tt,ff,ff,ff,ff,ff,tt,tt,tt,tt,ff,tt,ff] (tJ12_240 Ad W s o x1 x3 x4 x10 x11 x12 x13 x15 h)
/-- query(LSliceAggregate;IIIIIIIIIIIII)Z -/
def F12 (o : Ob) (x1 : Int32) (x2 : Int32) (x3 : Int32) (x4 : Int32) (x5 : Int32) (x6 : Int32) (x7 : Int32) (x8 : Int32) (x9 : Int32) (x10 : Int32) (x11 : Int32) (x12 : Int32) (x13 : Int32) : Option (Int32 × Ob) :=
 (if x1 < x2 then (qdiv x3 x5).bind fun y87 => (F13 o x1).bind fun r97 => (if r97 = x4 then (F15 o x1).bind fun r102 => (if r102 = x5 then (F17 o x1).bind fun r110 => (if r110 = (x5 * y87) then (F16 o x1).bind fun r117 => (if r117 = (if ((x5 * y87) - x4) < (0:Int32) then (0:Int32) else ((x5 * y87) - x4)) then (F18 o x1).bind fun r124 => (qdiv x3 x5).bind fun y125 => (if r124 = y125 then (F19 o x1 (4:Int32)).bind fun r134 => (if r134 = (0:Int32) then (F20 o x1 (-1:Int32)).bind fun r197 => (if r197.1 = (0:Int32) then (if x4 < x3 then (J12_209 r197.2 x1 x3 x4 x6 x7 x8 x9 x10 x11 x12 x13 (x5 * y87)) else (F25 r197.2 x1 (1:Int32) x6 x7 x8 x9).bind fun r230 => (if r230.1 = (0:Int32) then some ((0:Int32), r230.2) else (J12_209 r230.2 x1 x3 x4 x6 x7 x8 x9 x10 x11 x12 x13 (x5 * y87)))) else some ((0:Int32), r197.2)) else some ((0:Int32), o)) else some ((0:Int32), o)) else some ((0:Int32), o)) else some ((0:Int32), o)) else some ((0:Int32), o)) else some ((0:Int32), o)) else (F13 o x1).bind fun r232 => (if r232 = (-1:Int32) then (F15 o x1).bind fun r234 => (if r234 = (-1:Int32) then (F16 o x1).bind fun r236 => (if r236 = (-1:Int32) then (F17 o x1).bind fun r238 => (if r238 = (-1:Int32) then (F18 o x1).bind fun r240 => (if r240 = (-1:Int32) then (F19 o x1 (0:Int32)).bind fun r242 => (if r242 = (0:Int32) then (F20 o x1 (3:Int32)).bind fun r244 => (if r244.1 = (0:Int32) then some ((1:Int32), r244.2) else some ((0:Int32), r244.2)) else some ((0:Int32), o)) else some ((0:Int32), o)) else some ((0:Int32), o)) else some ((0:Int32), o)) else some ((0:Int32), o)) else some ((0:Int32), o)))
theorem tF12 (Ad : QAd n0 ad) (W : QW Z a0) (s : List Int32) (o : Ob) (x1 : Int32) (x2 : Int32) (x3 : Int32) (x4 : Int32) (x5 : Int32) (x6 : Int32) (x7 : Int32) (x8 : Int32) (x9 : Int32) (x10 : Int32) (x11 : Int32) (x12 : Int32) (x13 : Int32) {r : Int32 × Ob} (h : F12 o x1 x2 x3 x4 x5 x6 x7 x8 x9 x10 x11 x12 x13 = some r) : QTri l Z n0 ad 12 (0, qentry [.ref 1, .int x1, .int x2, .int x3, .int x4, .int x5, .int x6, .int x7, .int x8, .int x9, .int x10, .int x11, .int x12, .int x13] (pMaxL 12), [], (H0 s o)) (some (Value.int r.1)) (H0 s r.2) := by
 unfold F12 at h
 refine zS Ad W 4 (st' := (5, [vR 1, vI x1, vI x2, vI x3, vI x4, vI x5, vI x6, vI x7, vI x8, vI x9, vI x10, vI x11, vI x12, vI x13, vI (-1:Int32), none, none], [.int x2, .int x1], (H0 s o))) rfl ?_
 rcases qite h with ⟨hc86, h⟩ | ⟨hc86, h⟩
 ·refine zT Ad W (t := 82) (f := 8) rfl (XT.ii_lt_t hc86) ?_
  refine zS Ad W 3 (st' := (87, [vR 1, vI x1, vI x2, vI x3, vI x4, vI x5, vI x6, vI x7, vI x8, vI x9, vI x10, vI x11, vI x12, vI x13, vI (-1:Int32), none, none], [.int x5, .int x3, .int x5], (H0 s o))) rfl ?_
  obtain ⟨y87, hy87, h⟩ := bind_eq_some_iff.mp h
  refine zB Ad W (f := fun y87 => (88, [vR 1, vI x1, vI x2, vI x3, vI x4, vI x5, vI x6, vI x7, vI x8, vI x9, vI x10, vI x11, vI x12, vI x13, vI (-1:Int32), none, none], [.int y87, .int x5], (H0 s o))) rfl hy87 ?_
  refine zS Ad W 5 (st' := (96, [vR 1, vI x1, vI x2, vI x3, vI x4, vI x5, vI x6, vI x7, vI x8, vI x9, vI x10, vI x11, vI x12, vI x13, vI (-1:Int32), vI (x5 * y87), none], [.int ((x5 * y87) - x4)], (H0 s o))) rfl ?_
  have K89 : ∀ z88 : Int32, z88 = (if ((x5 * y87) - x4) < (0:Int32) then (0:Int32) else ((x5 * y87) - x4)) → QTri l Z n0 ad 12 (108, [vR 1, vI x1, none, vI x3, vI x4, vI x5, vI x6, vI x7, vI x8, vI x9, vI x10, vI x11, vI x12, vI x13, none, vI (x5 * y87), none], [.int z88], (H0 s o)) (some (Value.int r.1)) (H0 s r.2) := by
   intro z88 ez88
   subst ez88
   refine zS Ad W 3 (st' := (112, [vR 1, vI x1, none, vI x3, vI x4, vI x5, vI x6, vI x7, vI x8, vI x9, vI x10, vI x11, vI x12, vI x13, none, vI (x5 * y87), vI (if ((x5 * y87) - x4) < (0:Int32) then (0:Int32) else ((x5 * y87) - x4))], [.int x1, .ref 1], (H0 s o))) rfl ?_
   obtain ⟨r97, hr97, h⟩ := bind_eq_some_iff.mp h
   refine QTri.callV W (a := 1) (as := [.int x1]) (rest := []) (w := (some (.int r97))) (σ₁ := (H0 s o)) rfl rfl rfl rfl rfl rfl rfl rfl (tF13 Ad W s o x1 hr97) ?_
   refine zS Ad W 1 (st' := (117, [vR 1, vI x1, none, vI x3, vI x4, vI x5, vI x6, vI x7, vI x8, vI x9, vI x10, vI x11, vI x12, vI x13, none, vI (x5 * y87), vI (if ((x5 * y87) - x4) < (0:Int32) then (0:Int32) else ((x5 * y87) - x4))], [.int x4, .int r97], (H0 s o))) rfl ?_
   rcases qite h with ⟨hc98, h⟩ | ⟨hc98, h⟩
   ·refine zF Ad W (t := 162) (f := 120) rfl (XT.ii_ne_f hc98) ?_
    refine zS Ad W 2 (st' := (122, [vR 1, vI x1, none, vI x3, vI x4, vI x5, vI x6, vI x7, vI x8, vI x9, vI x10, vI x11, vI x12, vI x13, none, vI (x5 * y87), vI (if ((x5 * y87) - x4) < (0:Int32) then (0:Int32) else ((x5 * y87) - x4))], [.int x1, .ref 1], (H0 s o))) rfl ?_
    obtain ⟨r102, hr102, h⟩ := bind_eq_some_iff.mp h
    refine QTri.callV W (a := 1) (as := [.int x1]) (rest := []) (w := (some (.int r102))) (σ₁ := (H0 s o)) rfl rfl rfl rfl rfl rfl rfl rfl (tF15 Ad W s o x1 hr102) ?_
    refine zS Ad W 1 (st' := (127, [vR 1, vI x1, none, vI x3, vI x4, vI x5, vI x6, vI x7, vI x8, vI x9, vI x10, vI x11, vI x12, vI x13, none, vI (x5 * y87), vI (if ((x5 * y87) - x4) < (0:Int32) then (0:Int32) else ((x5 * y87) - x4))], [.int x5, .int r102], (H0 s o))) rfl ?_
    rcases qite h with ⟨hc103, h⟩ | ⟨hc103, h⟩
    ·refine zF Ad W (t := 162) (f := 130) rfl (XT.ii_ne_f hc103) ?_
     refine zS Ad W 2 (st' := (132, [vR 1, vI x1, none, vI x3, vI x4, vI x5, vI x6, vI x7, vI x8, vI x9, vI x10, vI x11, vI x12, vI x13, none, vI (x5 * y87), vI (if ((x5 * y87) - x4) < (0:Int32) then (0:Int32) else ((x5 * y87) - x4))], [.int x1, .ref 1], (H0 s o))) rfl ?_
     obtain ⟨r110, hr110, h⟩ := bind_eq_some_iff.mp h
     refine QTri.callV W (a := 1) (as := [.int x1]) (rest := []) (w := (some (.int r110))) (σ₁ := (H0 s o)) rfl rfl rfl rfl rfl rfl rfl rfl (tF17 Ad W s o x1 hr110) ?_
     refine zS Ad W 1 (st' := (137, [vR 1, vI x1, none, vI x3, vI x4, vI x5, vI x6, vI x7, vI x8, vI x9, vI x10, vI x11, vI x12, vI x13, none, vI (x5 * y87), vI (if ((x5 * y87) - x4) < (0:Int32) then (0:Int32) else ((x5 * y87) - x4))], [.int (x5 * y87), .int r110], (H0 s o))) rfl ?_
     rcases qite h with ⟨hc111, h⟩ | ⟨hc111, h⟩
     ·refine zF Ad W (t := 162) (f := 140) rfl (XT.ii_ne_f hc111) ?_
      refine zS Ad W 2 (st' := (142, [vR 1, vI x1, none, vI x3, vI x4, vI x5, vI x6, vI x7, vI x8, vI x9, vI x10, vI x11, vI x12, vI x13, none, vI (x5 * y87), vI (if ((x5 * y87) - x4) < (0:Int32) then (0:Int32) else ((x5 * y87) - x4))], [.int x1, .ref 1], (H0 s o))) rfl ?_
      obtain ⟨r117, hr117, h⟩ := bind_eq_some_iff.mp h
      refine QTri.callV W (a := 1) (as := [.int x1]) (rest := []) (w := (some (.int r117))) (σ₁ := (H0 s o)) rfl rfl rfl rfl rfl rfl rfl rfl (tF16 Ad W s o x1 hr117) ?_
      refine zS Ad W 1 (st' := (147, [vR 1, vI x1, none, vI x3, vI x4, vI x5, vI x6, vI x7, vI x8, vI x9, vI x10, vI x11, vI x12, vI x13, none, vI (x5 * y87), vI (if ((x5 * y87) - x4) < (0:Int32) then (0:Int32) else ((x5 * y87) - x4))], [.int (if ((x5 * y87) - x4) < (0:Int32) then (0:Int32) else ((x5 * y87) - x4)), .int r117], (H0 s o))) rfl ?_
      rcases qite h with ⟨hc118, h⟩ | ⟨hc118, h⟩
      ·refine zF Ad W (t := 162) (f := 150) rfl (XT.ii_ne_f hc118) ?_
       refine zS Ad W 2 (st' := (152, [vR 1, vI x1, none, vI x3, vI x4, vI x5, vI x6, vI x7, vI x8, vI x9, vI x10, vI x11, vI x12, vI x13, none, vI (x5 * y87), vI (if ((x5 * y87) - x4) < (0:Int32) then (0:Int32) else ((x5 * y87) - x4))], [.int x1, .ref 1], (H0 s o))) rfl ?_
       obtain ⟨r124, hr124, h⟩ := bind_eq_some_iff.mp h
       refine QTri.callV W (a := 1) (as := [.int x1]) (rest := []) (w := (some (.int r124))) (σ₁ := (H0 s o)) rfl rfl rfl rfl rfl rfl rfl rfl (tF18 Ad W s o x1 hr124) ?_
       refine zS Ad W 2 (st' := (158, [vR 1, vI x1, none, vI x3, vI x4, vI x5, vI x6, vI x7, vI x8, vI x9, vI x10, vI x11, vI x12, vI x13, none, vI (x5 * y87), vI (if ((x5 * y87) - x4) < (0:Int32) then (0:Int32) else ((x5 * y87) - x4))], [.int x5, .int x3, .int r124], (H0 s o))) rfl ?_
       obtain ⟨y125, hy125, h⟩ := bind_eq_some_iff.mp h
       refine zB Ad W (f := fun y125 => (159, [vR 1, vI x1, none, vI x3, vI x4, vI x5, vI x6, vI x7, vI x8, vI x9, vI x10, vI x11, vI x12, vI x13, none, vI (x5 * y87), vI (if ((x5 * y87) - x4) < (0:Int32) then (0:Int32) else ((x5 * y87) - x4))], [.int y125, .int r124], (H0 s o))) rfl hy125 ?_
       rcases qite h with ⟨hc126, h⟩ | ⟨hc126, h⟩
       ·refine zT Ad W (t := 164) (f := 162) rfl (XT.ii_eq_t hc126) ?_
        refine zS Ad W 3 (st' := (167, [vR 1, vI x1, none, vI x3, vI x4, vI x5, vI x6, vI x7, vI x8, vI x9, vI x10, vI x11, vI x12, vI x13, none, vI (x5 * y87), vI (if ((x5 * y87) - x4) < (0:Int32) then (0:Int32) else ((x5 * y87) - x4))], [.int (4:Int32), .int x1, .ref 1], (H0 s o))) rfl ?_
        obtain ⟨r134, hr134, h⟩ := bind_eq_some_iff.mp h
        refine QTri.callV W (a := 1) (as := [.int x1, .int (4:Int32)]) (rest := []) (w := (some (.int r134))) (σ₁ := (H0 s o)) rfl rfl rfl rfl rfl rfl rfl rfl (tF19 Ad W s o x1 (4:Int32) hr134) ?_
        rcases qite h with ⟨hc135, h⟩ | ⟨hc135, h⟩
        ·refine zF Ad W (t := 182) (f := 173) rfl (XT.i0_ne_f hc135) ?_
         refine zS Ad W 3 (st' := (176, [vR 1, vI x1, none, vI x3, vI x4, vI x5, vI x6, vI x7, vI x8, vI x9, vI x10, vI x11, vI x12, vI x13, none, vI (x5 * y87), vI (if ((x5 * y87) - x4) < (0:Int32) then (0:Int32) else ((x5 * y87) - x4))], [.int (-1:Int32), .int x1, .ref 1], (H0 s o))) rfl ?_
         obtain ⟨r197, hr197, h⟩ := bind_eq_some_iff.mp h
         refine QTri.callV W (a := 1) (as := [.int x1, .int (-1:Int32)]) (rest := []) (w := (some (.int r197.1))) (σ₁ := (H0 s r197.2)) rfl rfl rfl rfl rfl rfl rfl rfl (tF20 Ad W s o x1 (-1:Int32) hr197) ?_
         rcases qite h with ⟨hc198, h⟩ | ⟨hc198, h⟩
         ·refine zT Ad W (t := 184) (f := 182) rfl (XT.i0_eq_t hc198) ?_
          refine zS Ad W 2 (st' := (187, [vR 1, vI x1, none, vI x3, vI x4, vI x5, vI x6, vI x7, vI x8, vI x9, vI x10, vI x11, vI x12, vI x13, none, vI (x5 * y87), vI (if ((x5 * y87) - x4) < (0:Int32) then (0:Int32) else ((x5 * y87) - x4))], [.int x4, .int x3], (H0 s r197.2))) rfl ?_
          rcases qite h with ⟨hc199, h⟩ | ⟨hc199, h⟩
          ·refine zT Ad W (t := 209) (f := 190) rfl (XT.ii_gt_t hc199) ?_
           exact zM [tt,tt,ff,tt,tt,ff,tt,tt,tt,tt,tt,tt,tt,tt,ff,tt,ff] (tJ12_209 Ad W s r197.2 x1 x3 x4 x6 x7 x8 x9 x10 x11 x12 x13 (x5 * y87) h)
          ·refine zF Ad W (t := 209) (f := 190) rfl (XT.ii_gt_f hc199) ?_
           refine zS Ad W 7 (st' := (201, [vR 1, vI x1, none, vI x3, vI x4, vI x5, vI x6, vI x7, vI x8, vI x9, vI x10, vI x11, vI x12, vI x13, none, vI (x5 * y87), vI (if ((x5 * y87) - x4) < (0:Int32) then (0:Int32) else ((x5 * y87) - x4))], [.int x9, .int x8, .int x7, .int x6, .int (1:Int32), .int x1, .ref 1], (H0 s r197.2))) rfl ?_
           obtain ⟨r230, hr230, h⟩ := bind_eq_some_iff.mp h
           refine QTri.callS W (as := [.ref 1, .int x1, .int (1:Int32), .int x6, .int x7, .int x8, .int x9]) (rest := []) (w := (some (.int r230.1))) (σ₁ := (H0 s r230.2)) rfl rfl rfl rfl rfl rfl rfl (tF25 Ad W s r197.2 x1 (1:Int32) x6 x7 x8 x9 hr230) ?_
           rcases qite h with ⟨hc231, h⟩ | ⟨hc231, h⟩
           ·refine zF Ad W (t := 209) (f := 207) rfl (XT.i0_ne_f hc231) ?_
            refine zS Ad W 1 (st' := (208, [vR 1, vI x1, none, vI x3, vI x4, vI x5, vI x6, vI x7, vI x8, vI x9, vI x10, vI x11, vI x12, vI x13, none, vI (x5 * y87), vI (if ((x5 * y87) - x4) < (0:Int32) then (0:Int32) else ((x5 * y87) - x4))], [.int (0:Int32)], (H0 s r230.2))) rfl ?_
            obtain rfl := Option.some.inj h
            exact QTri.retZ rfl rfl
           ·refine zT Ad W (t := 209) (f := 207) rfl (XT.i0_ne_t hc231) ?_
            exact zM [tt,tt,ff,tt,tt,ff,tt,tt,tt,tt,tt,tt,tt,tt,ff,tt,ff] (tJ12_209 Ad W s r230.2 x1 x3 x4 x6 x7 x8 x9 x10 x11 x12 x13 (x5 * y87) h)
         ·refine zF Ad W (t := 184) (f := 182) rfl (XT.i0_eq_f hc198) ?_
          refine zS Ad W 1 (st' := (183, [vR 1, vI x1, none, vI x3, vI x4, vI x5, vI x6, vI x7, vI x8, vI x9, vI x10, vI x11, vI x12, vI x13, none, vI (x5 * y87), vI (if ((x5 * y87) - x4) < (0:Int32) then (0:Int32) else ((x5 * y87) - x4))], [.int (0:Int32)], (H0 s r197.2))) rfl ?_
          obtain rfl := Option.some.inj h
          exact QTri.retZ rfl rfl
        ·refine zT Ad W (t := 182) (f := 173) rfl (XT.i0_ne_t hc135) ?_
         refine zS Ad W 1 (st' := (183, [vR 1, vI x1, none, vI x3, vI x4, vI x5, vI x6, vI x7, vI x8, vI x9, vI x10, vI x11, vI x12, vI x13, none, vI (x5 * y87), vI (if ((x5 * y87) - x4) < (0:Int32) then (0:Int32) else ((x5 * y87) - x4))], [.int (0:Int32)], (H0 s o))) rfl ?_
         obtain rfl := Option.some.inj h
         exact QTri.retZ rfl rfl
       ·refine zF Ad W (t := 164) (f := 162) rfl (XT.ii_eq_f hc126) ?_
        refine zS Ad W 1 (st' := (163, [vR 1, vI x1, none, vI x3, vI x4, vI x5, vI x6, vI x7, vI x8, vI x9, vI x10, vI x11, vI x12, vI x13, none, vI (x5 * y87), vI (if ((x5 * y87) - x4) < (0:Int32) then (0:Int32) else ((x5 * y87) - x4))], [.int (0:Int32)], (H0 s o))) rfl ?_
        obtain rfl := Option.some.inj h
        exact QTri.retZ rfl rfl
      ·refine zT Ad W (t := 162) (f := 150) rfl (XT.ii_ne_t hc118) ?_
       refine zS Ad W 1 (st' := (163, [vR 1, vI x1, none, vI x3, vI x4, vI x5, vI x6, vI x7, vI x8, vI x9, vI x10, vI x11, vI x12, vI x13, none, vI (x5 * y87), vI (if ((x5 * y87) - x4) < (0:Int32) then (0:Int32) else ((x5 * y87) - x4))], [.int (0:Int32)], (H0 s o))) rfl ?_
       obtain rfl := Option.some.inj h
       exact QTri.retZ rfl rfl
     ·refine zT Ad W (t := 162) (f := 140) rfl (XT.ii_ne_t hc111) ?_
      refine zS Ad W 1 (st' := (163, [vR 1, vI x1, none, vI x3, vI x4, vI x5, vI x6, vI x7, vI x8, vI x9, vI x10, vI x11, vI x12, vI x13, none, vI (x5 * y87), vI (if ((x5 * y87) - x4) < (0:Int32) then (0:Int32) else ((x5 * y87) - x4))], [.int (0:Int32)], (H0 s o))) rfl ?_
      obtain rfl := Option.some.inj h
      exact QTri.retZ rfl rfl
    ·refine zT Ad W (t := 162) (f := 130) rfl (XT.ii_ne_t hc103) ?_
     refine zS Ad W 1 (st' := (163, [vR 1, vI x1, none, vI x3, vI x4, vI x5, vI x6, vI x7, vI x8, vI x9, vI x10, vI x11, vI x12, vI x13, none, vI (x5 * y87), vI (if ((x5 * y87) - x4) < (0:Int32) then (0:Int32) else ((x5 * y87) - x4))], [.int (0:Int32)], (H0 s o))) rfl ?_
     obtain rfl := Option.some.inj h
     exact QTri.retZ rfl rfl
   ·refine zT Ad W (t := 162) (f := 120) rfl (XT.ii_ne_t hc98) ?_
    refine zS Ad W 1 (st' := (163, [vR 1, vI x1, none, vI x3, vI x4, vI x5, vI x6, vI x7, vI x8, vI x9, vI x10, vI x11, vI x12, vI x13, none, vI (x5 * y87), vI (if ((x5 * y87) - x4) < (0:Int32) then (0:Int32) else ((x5 * y87) - x4))], [.int (0:Int32)], (H0 s o))) rfl ?_
    obtain rfl := Option.some.inj h
    exact QTri.retZ rfl rfl
  rcases em (((x5 * y87) - x4) < (0:Int32)) with hc90 | hc90
  ·refine zF Ad W (t := 103) (f := 99) rfl (XT.i0_ge_f hc90) ?_
   refine zS Ad W 2 (st' := (108, [vR 1, vI x1, vI x2, vI x3, vI x4, vI x5, vI x6, vI x7, vI x8, vI x9, vI x10, vI x11, vI x12, vI x13, vI (-1:Int32), vI (x5 * y87), none], [.int (0:Int32)], (H0 s o))) rfl ?_
   exact zM [tt,tt,ff,tt,tt,tt,tt,tt,tt,tt,tt,tt,tt,tt,ff,tt,ff] (K89 _ (if_pos hc90).symm)
  ·refine zT Ad W (t := 103) (f := 99) rfl (XT.i0_ge_t hc90) ?_
   refine zS Ad W 3 (st' := (108, [vR 1, vI x1, vI x2, vI x3, vI x4, vI x5, vI x6, vI x7, vI x8, vI x9, vI x10, vI x11, vI x12, vI x13, vI (-1:Int32), vI (x5 * y87), none], [.int ((x5 * y87) - x4)], (H0 s o))) rfl ?_
   exact zM [tt,tt,ff,tt,tt,tt,tt,tt,tt,tt,tt,tt,tt,tt,ff,tt,ff] (K89 _ (if_neg hc90).symm)
 ·refine zF Ad W (t := 82) (f := 8) rfl (XT.ii_lt_f hc86) ?_
  refine zS Ad W 2 (st' := (10, [vR 1, vI x1, vI x2, vI x3, vI x4, vI x5, vI x6, vI x7, vI x8, vI x9, vI x10, vI x11, vI x12, vI x13, vI (-1:Int32), none, none], [.int x1, .ref 1], (H0 s o))) rfl ?_
  obtain ⟨r232, hr232, h⟩ := bind_eq_some_iff.mp h
  refine QTri.callV W (a := 1) (as := [.int x1]) (rest := []) (w := (some (.int r232))) (σ₁ := (H0 s o)) rfl rfl rfl rfl rfl rfl rfl rfl (tF13 Ad W s o x1 hr232) ?_
  refine zS Ad W 1 (st' := (15, [vR 1, vI x1, vI x2, vI x3, vI x4, vI x5, vI x6, vI x7, vI x8, vI x9, vI x10, vI x11, vI x12, vI x13, vI (-1:Int32), none, none], [.int (-1:Int32), .int r232], (H0 s o))) rfl ?_
  rcases qite h with ⟨hc233, h⟩ | ⟨hc233, h⟩
  ·refine zF Ad W (t := 80) (f := 18) rfl (XT.ii_ne_f hc233) ?_
   refine zS Ad W 2 (st' := (20, [vR 1, vI x1, vI x2, vI x3, vI x4, vI x5, vI x6, vI x7, vI x8, vI x9, vI x10, vI x11, vI x12, vI x13, vI (-1:Int32), none, none], [.int x1, .ref 1], (H0 s o))) rfl ?_
   obtain ⟨r234, hr234, h⟩ := bind_eq_some_iff.mp h
   refine QTri.callV W (a := 1) (as := [.int x1]) (rest := []) (w := (some (.int r234))) (σ₁ := (H0 s o)) rfl rfl rfl rfl rfl rfl rfl rfl (tF15 Ad W s o x1 hr234) ?_
   refine zS Ad W 1 (st' := (25, [vR 1, vI x1, vI x2, vI x3, vI x4, vI x5, vI x6, vI x7, vI x8, vI x9, vI x10, vI x11, vI x12, vI x13, vI (-1:Int32), none, none], [.int (-1:Int32), .int r234], (H0 s o))) rfl ?_
   rcases qite h with ⟨hc235, h⟩ | ⟨hc235, h⟩
   ·refine zF Ad W (t := 80) (f := 28) rfl (XT.ii_ne_f hc235) ?_
    refine zS Ad W 2 (st' := (30, [vR 1, vI x1, vI x2, vI x3, vI x4, vI x5, vI x6, vI x7, vI x8, vI x9, vI x10, vI x11, vI x12, vI x13, vI (-1:Int32), none, none], [.int x1, .ref 1], (H0 s o))) rfl ?_
    obtain ⟨r236, hr236, h⟩ := bind_eq_some_iff.mp h
    refine QTri.callV W (a := 1) (as := [.int x1]) (rest := []) (w := (some (.int r236))) (σ₁ := (H0 s o)) rfl rfl rfl rfl rfl rfl rfl rfl (tF16 Ad W s o x1 hr236) ?_
    refine zS Ad W 1 (st' := (35, [vR 1, vI x1, vI x2, vI x3, vI x4, vI x5, vI x6, vI x7, vI x8, vI x9, vI x10, vI x11, vI x12, vI x13, vI (-1:Int32), none, none], [.int (-1:Int32), .int r236], (H0 s o))) rfl ?_
    rcases qite h with ⟨hc237, h⟩ | ⟨hc237, h⟩
    ·refine zF Ad W (t := 80) (f := 38) rfl (XT.ii_ne_f hc237) ?_
     refine zS Ad W 2 (st' := (40, [vR 1, vI x1, vI x2, vI x3, vI x4, vI x5, vI x6, vI x7, vI x8, vI x9, vI x10, vI x11, vI x12, vI x13, vI (-1:Int32), none, none], [.int x1, .ref 1], (H0 s o))) rfl ?_
     obtain ⟨r238, hr238, h⟩ := bind_eq_some_iff.mp h
     refine QTri.callV W (a := 1) (as := [.int x1]) (rest := []) (w := (some (.int r238))) (σ₁ := (H0 s o)) rfl rfl rfl rfl rfl rfl rfl rfl (tF17 Ad W s o x1 hr238) ?_
     refine zS Ad W 1 (st' := (45, [vR 1, vI x1, vI x2, vI x3, vI x4, vI x5, vI x6, vI x7, vI x8, vI x9, vI x10, vI x11, vI x12, vI x13, vI (-1:Int32), none, none], [.int (-1:Int32), .int r238], (H0 s o))) rfl ?_
     rcases qite h with ⟨hc239, h⟩ | ⟨hc239, h⟩
     ·refine zF Ad W (t := 80) (f := 48) rfl (XT.ii_ne_f hc239) ?_
      refine zS Ad W 2 (st' := (50, [vR 1, vI x1, vI x2, vI x3, vI x4, vI x5, vI x6, vI x7, vI x8, vI x9, vI x10, vI x11, vI x12, vI x13, vI (-1:Int32), none, none], [.int x1, .ref 1], (H0 s o))) rfl ?_
      obtain ⟨r240, hr240, h⟩ := bind_eq_some_iff.mp h
      refine QTri.callV W (a := 1) (as := [.int x1]) (rest := []) (w := (some (.int r240))) (σ₁ := (H0 s o)) rfl rfl rfl rfl rfl rfl rfl rfl (tF18 Ad W s o x1 hr240) ?_
      refine zS Ad W 1 (st' := (55, [vR 1, vI x1, vI x2, vI x3, vI x4, vI x5, vI x6, vI x7, vI x8, vI x9, vI x10, vI x11, vI x12, vI x13, vI (-1:Int32), none, none], [.int (-1:Int32), .int r240], (H0 s o))) rfl ?_
      rcases qite h with ⟨hc241, h⟩ | ⟨hc241, h⟩
      ·refine zF Ad W (t := 80) (f := 58) rfl (XT.ii_ne_f hc241) ?_
       refine zS Ad W 3 (st' := (61, [vR 1, vI x1, vI x2, vI x3, vI x4, vI x5, vI x6, vI x7, vI x8, vI x9, vI x10, vI x11, vI x12, vI x13, vI (-1:Int32), none, none], [.int (0:Int32), .int x1, .ref 1], (H0 s o))) rfl ?_
       obtain ⟨r242, hr242, h⟩ := bind_eq_some_iff.mp h
       refine QTri.callV W (a := 1) (as := [.int x1, .int (0:Int32)]) (rest := []) (w := (some (.int r242))) (σ₁ := (H0 s o)) rfl rfl rfl rfl rfl rfl rfl rfl (tF19 Ad W s o x1 (0:Int32) hr242) ?_
       rcases qite h with ⟨hc243, h⟩ | ⟨hc243, h⟩
       ·refine zF Ad W (t := 80) (f := 67) rfl (XT.i0_ne_f hc243) ?_
        refine zS Ad W 3 (st' := (70, [vR 1, vI x1, vI x2, vI x3, vI x4, vI x5, vI x6, vI x7, vI x8, vI x9, vI x10, vI x11, vI x12, vI x13, vI (-1:Int32), none, none], [.int (3:Int32), .int x1, .ref 1], (H0 s o))) rfl ?_
        obtain ⟨r244, hr244, h⟩ := bind_eq_some_iff.mp h
        refine QTri.callV W (a := 1) (as := [.int x1, .int (3:Int32)]) (rest := []) (w := (some (.int r244.1))) (σ₁ := (H0 s r244.2)) rfl rfl rfl rfl rfl rfl rfl rfl (tF20 Ad W s o x1 (3:Int32) hr244) ?_
        rcases qite h with ⟨hc245, h⟩ | ⟨hc245, h⟩
        ·refine zF Ad W (t := 80) (f := 76) rfl (XT.i0_ne_f hc245) ?_
         refine zS Ad W 2 (st' := (81, [vR 1, vI x1, vI x2, vI x3, vI x4, vI x5, vI x6, vI x7, vI x8, vI x9, vI x10, vI x11, vI x12, vI x13, vI (-1:Int32), none, none], [.int (1:Int32)], (H0 s r244.2))) rfl ?_
         obtain rfl := Option.some.inj h
         exact QTri.retZ rfl rfl
        ·refine zT Ad W (t := 80) (f := 76) rfl (XT.i0_ne_t hc245) ?_
         refine zS Ad W 1 (st' := (81, [vR 1, vI x1, vI x2, vI x3, vI x4, vI x5, vI x6, vI x7, vI x8, vI x9, vI x10, vI x11, vI x12, vI x13, vI (-1:Int32), none, none], [.int (0:Int32)], (H0 s r244.2))) rfl ?_
         obtain rfl := Option.some.inj h
         exact QTri.retZ rfl rfl
       ·refine zT Ad W (t := 80) (f := 67) rfl (XT.i0_ne_t hc243) ?_
        refine zS Ad W 1 (st' := (81, [vR 1, vI x1, vI x2, vI x3, vI x4, vI x5, vI x6, vI x7, vI x8, vI x9, vI x10, vI x11, vI x12, vI x13, vI (-1:Int32), none, none], [.int (0:Int32)], (H0 s o))) rfl ?_
        obtain rfl := Option.some.inj h
        exact QTri.retZ rfl rfl
      ·refine zT Ad W (t := 80) (f := 58) rfl (XT.ii_ne_t hc241) ?_
       refine zS Ad W 1 (st' := (81, [vR 1, vI x1, vI x2, vI x3, vI x4, vI x5, vI x6, vI x7, vI x8, vI x9, vI x10, vI x11, vI x12, vI x13, vI (-1:Int32), none, none], [.int (0:Int32)], (H0 s o))) rfl ?_
       obtain rfl := Option.some.inj h
       exact QTri.retZ rfl rfl
     ·refine zT Ad W (t := 80) (f := 48) rfl (XT.ii_ne_t hc239) ?_
      refine zS Ad W 1 (st' := (81, [vR 1, vI x1, vI x2, vI x3, vI x4, vI x5, vI x6, vI x7, vI x8, vI x9, vI x10, vI x11, vI x12, vI x13, vI (-1:Int32), none, none], [.int (0:Int32)], (H0 s o))) rfl ?_
      obtain rfl := Option.some.inj h
      exact QTri.retZ rfl rfl
    ·refine zT Ad W (t := 80) (f := 38) rfl (XT.ii_ne_t hc237) ?_
     refine zS Ad W 1 (st' := (81, [vR 1, vI x1, vI x2, vI x3, vI x4, vI x5, vI x6, vI x7, vI x8, vI x9, vI x10, vI x11, vI x12, vI x13, vI (-1:Int32), none, none], [.int (0:Int32)], (H0 s o))) rfl ?_
     obtain rfl := Option.some.inj h
     exact QTri.retZ rfl rfl
   ·refine zT Ad W (t := 80) (f := 28) rfl (XT.ii_ne_t hc235) ?_
    refine zS Ad W 1 (st' := (81, [vR 1, vI x1, vI x2, vI x3, vI x4, vI x5, vI x6, vI x7, vI x8, vI x9, vI x10, vI x11, vI x12, vI x13, vI (-1:Int32), none, none], [.int (0:Int32)], (H0 s o))) rfl ?_
    obtain rfl := Option.some.inj h
    exact QTri.retZ rfl rfl
  ·refine zT Ad W (t := 80) (f := 18) rfl (XT.ii_ne_t hc233) ?_
   refine zS Ad W 1 (st' := (81, [vR 1, vI x1, vI x2, vI x3, vI x4, vI x5, vI x6, vI x7, vI x8, vI x9, vI x10, vI x11, vI x12, vI x13, vI (-1:Int32), none, none], [.int (0:Int32)], (H0 s o))) rfl ?_
   obtain rfl := Option.some.inj h
   exact QTri.retZ rfl rfl
def J0_494 (s : List Int32) (p0 : Ob) (x1 : Int32) (x3 : Int32) (x4 : Int32) (x5 : Int32) (x6 : Int32) (x7 : Int32) (x8 : Int32) (x9 : Int32) (x10 : Int32) (x11 : Int32) (x12 : Int32) (x13 : Int32) (x14 : Int32) (x15 : Int32) (x16 : Int32) (x17 : Int32) (x18 : Int32) (x19 : Int32) (x20 : Int32) (x21 : Int32) : Option (((Int32 × QHeap)) ⊕ (Int32 × Int32 × Int32 × Int32 × Int32 × Int32 × Int32 × Int32 × Int32 × Int32 × Int32 × Int32 × Int32 × Int32 × Int32 × Int32 × Int32 × Int32 × Int32 × Ob)) :=
  (F10 p0).bind fun r82 => (if r82 = x4 then (F11 p0).bind fun r84 => (if r84 = x3 then (F12 p0 (0 : Int32) x3 x4 x5 x9 x13 x14 x15 x16 x17 x18 x19 x20).bind fun r246 => (if r246.1 = (0 : Int32) then some (.inl ((0 : Int32), (H0 s r246.2))) else (F12 r246.2 (1 : Int32) x3 x4 x6 x10 x13 x14 x15 x16 x17 x18 x19 x20).bind fun r248 => (if r248.1 = (0 : Int32) then some (.inl ((0 : Int32), (H0 s r248.2))) else (F12 r248.2 (2 : Int32) x3 x4 x7 x11 x13 x14 x15 x16 x17 x18 x19 x20).bind fun r250 => (if r250.1 = (0 : Int32) then some (.inl ((0 : Int32), (H0 s r250.2))) else (F12 r250.2 (3 : Int32) x3 x4 x8 x12 x13 x14 x15 x16 x17 x18 x19 x20).bind fun r252 => (if r252.1 = (0 : Int32) then some (.inl ((0 : Int32), (H0 s r252.2))) else some (.inr (x3, x4, x5, x6, x7, x8, x9, x10, x11, x12, x13, x14, x15, x16, x17, x18, x19, x20, (x21 + (5 : Int32)), r252.2)))))) else some (.inl ((0 : Int32), (H0 s p0)))) else some (.inl ((0 : Int32), (H0 s p0))))
theorem tJ0_494 (Ad : QAd n0 ad) (W : QW Z a0) (s : List Int32) (p0 : Ob) (x1 : Int32) (x3 : Int32) (x4 : Int32) (x5 : Int32) (x6 : Int32) (x7 : Int32) (x8 : Int32) (x9 : Int32) (x10 : Int32) (x11 : Int32) (x12 : Int32) (x13 : Int32) (x14 : Int32) (x15 : Int32) (x16 : Int32) (x17 : Int32) (x18 : Int32) (x19 : Int32) (x20 : Int32) (x21 : Int32) {r : ((Int32 × QHeap)) ⊕ (Int32 × Int32 × Int32 × Int32 × Int32 × Int32 × Int32 × Int32 × Int32 × Int32 × Int32 × Int32 × Int32 × Int32 × Int32 × Int32 × Int32 × Int32 × Int32 × Ob)} {u : Option Value} {τ : QHeap} (h : J0_494 s p0 x1 x3 x4 x5 x6 x7 x8 x9 x10 x11 x12 x13 x14 x15 x16 x17 x18 x19 x20 x21 = some r) (hx0 : ∀ x : Int32 × QHeap, r = .inl x → u = (some (Value.int x.1)) ∧ τ = x.2) (hc : ∀ x : Int32 × Int32 × Int32 × Int32 × Int32 × Int32 × Int32 × Int32 × Int32 × Int32 × Int32 × Int32 × Int32 × Int32 × Int32 × Int32 × Int32 × Int32 × Int32 × Ob, r = .inr x → QTri l Z n0 ad 0 (92, [vR 0, vI x1, vR 1, vI x.1, vI x.2.1, vI x.2.2.1, vI x.2.2.2.1, vI x.2.2.2.2.1, vI x.2.2.2.2.2.1, vI x.2.2.2.2.2.2.1, vI x.2.2.2.2.2.2.2.1, vI x.2.2.2.2.2.2.2.2.1, vI x.2.2.2.2.2.2.2.2.2.1, vI x.2.2.2.2.2.2.2.2.2.2.1, vI x.2.2.2.2.2.2.2.2.2.2.2.1, vI x.2.2.2.2.2.2.2.2.2.2.2.2.1, vI x.2.2.2.2.2.2.2.2.2.2.2.2.2.1, vI x.2.2.2.2.2.2.2.2.2.2.2.2.2.2.1, vI x.2.2.2.2.2.2.2.2.2.2.2.2.2.2.2.1, vI x.2.2.2.2.2.2.2.2.2.2.2.2.2.2.2.2.1, vI x.2.2.2.2.2.2.2.2.2.2.2.2.2.2.2.2.2.1, vI x.2.2.2.2.2.2.2.2.2.2.2.2.2.2.2.2.2.2.1, none, none, none, none, none, none, none, none, none, none], [], (H0 s x.2.2.2.2.2.2.2.2.2.2.2.2.2.2.2.2.2.2.2)) u τ) : QTri l Z n0 ad 0 (494, [vR 0, vI x1, vR 1, vI x3, vI x4, vI x5, vI x6, vI x7, vI x8, vI x9, vI x10, vI x11, vI x12, vI x13, vI x14, vI x15, vI x16, vI x17, vI x18, vI x19, vI x20, vI x21, none, none, none, none, none, none, none, none, none, none], [], (H0 s p0)) u τ := by
 unfold J0_494 at h
 refine zS Ad W 1 (st' := (495, [vR 0, vI x1, vR 1, vI x3, vI x4, vI x5, vI x6, vI x7, vI x8, vI x9, vI x10, vI x11, vI x12, vI x13, vI x14, vI x15, vI x16, vI x17, vI x18, vI x19, vI x20, vI x21, none, none, none, none, none, none, none, none, none, none], [.ref 1], (H0 s p0))) rfl ?_
 obtain ⟨r82, hr82, h⟩ := bind_eq_some_iff.mp h
 refine QTri.callV W (a := 1) (as := []) (rest := []) (w := (some (.int r82))) (σ₁ := (H0 s p0)) rfl rfl rfl rfl rfl rfl rfl rfl (tF10 Ad W s p0 hr82) ?_
 refine zS Ad W 1 (st' := (500, [vR 0, vI x1, vR 1, vI x3, vI x4, vI x5, vI x6, vI x7, vI x8, vI x9, vI x10, vI x11, vI x12, vI x13, vI x14, vI x15, vI x16, vI x17, vI x18, vI x19, vI x20, vI x21, none, none, none, none, none, none, none, none, none, none], [.int x4, .int r82], (H0 s p0))) rfl ?_
 rcases qite h with ⟨hc83, h⟩ | ⟨hc83, h⟩
 ·refine zF Ad W (t := 511) (f := 503) rfl (XT.ii_ne_f hc83) ?_
  refine zS Ad W 1 (st' := (504, [vR 0, vI x1, vR 1, vI x3, vI x4, vI x5, vI x6, vI x7, vI x8, vI x9, vI x10, vI x11, vI x12, vI x13, vI x14, vI x15, vI x16, vI x17, vI x18, vI x19, vI x20, vI x21, none, none, none, none, none, none, none, none, none, none], [.ref 1], (H0 s p0))) rfl ?_
  obtain ⟨r84, hr84, h⟩ := bind_eq_some_iff.mp h
  refine QTri.callV W (a := 1) (as := []) (rest := []) (w := (some (.int r84))) (σ₁ := (H0 s p0)) rfl rfl rfl rfl rfl rfl rfl rfl (tF11 Ad W s p0 hr84) ?_
  refine zS Ad W 1 (st' := (508, [vR 0, vI x1, vR 1, vI x3, vI x4, vI x5, vI x6, vI x7, vI x8, vI x9, vI x10, vI x11, vI x12, vI x13, vI x14, vI x15, vI x16, vI x17, vI x18, vI x19, vI x20, vI x21, none, none, none, none, none, none, none, none, none, none], [.int x3, .int r84], (H0 s p0))) rfl ?_
  rcases qite h with ⟨hc85, h⟩ | ⟨hc85, h⟩
  ·refine zT Ad W (t := 513) (f := 511) rfl (XT.ii_eq_t hc85) ?_
   refine zS Ad W 12 (st' := (534, [vR 0, vI x1, vR 1, vI x3, vI x4, vI x5, vI x6, vI x7, vI x8, vI x9, vI x10, vI x11, vI x12, vI x13, vI x14, vI x15, vI x16, vI x17, vI x18, vI x19, vI x20, vI x21, none, none, none, none, none, none, none, none, none, none], [.int x18, .int x17, .int x16, .int x15, .int x14, .int x13, .int x9, .int x5, .int x4, .int x3, .int (0:Int32), .ref 1], (H0 s p0))) rfl ?_
   refine zS Ad W 2 (st' := (538, [vR 0, vI x1, vR 1, vI x3, vI x4, vI x5, vI x6, vI x7, vI x8, vI x9, vI x10, vI x11, vI x12, vI x13, vI x14, vI x15, vI x16, vI x17, vI x18, vI x19, vI x20, vI x21, none, none, none, none, none, none, none, none, none, none], [.int x20, .int x19, .int x18, .int x17, .int x16, .int x15, .int x14, .int x13, .int x9, .int x5, .int x4, .int x3, .int (0:Int32), .ref 1], (H0 s p0))) rfl ?_
   obtain ⟨r246, hr246, h⟩ := bind_eq_some_iff.mp h
   refine QTri.callS W (as := [.ref 1, .int (0:Int32), .int x3, .int x4, .int x5, .int x9, .int x13, .int x14, .int x15, .int x16, .int x17, .int x18, .int x19, .int x20]) (rest := []) (w := (some (.int r246.1))) (σ₁ := (H0 s r246.2)) rfl rfl rfl rfl rfl rfl rfl (tF12 Ad W s p0 (0:Int32) x3 x4 x5 x9 x13 x14 x15 x16 x17 x18 x19 x20 hr246) ?_
   rcases qite h with ⟨hc247, h⟩ | ⟨hc247, h⟩
   ·refine zF Ad W (t := 546) (f := 544) rfl (XT.i0_ne_f hc247) ?_
    refine zS Ad W 1 (st' := (545, [vR 0, vI x1, vR 1, vI x3, vI x4, vI x5, vI x6, vI x7, vI x8, vI x9, vI x10, vI x11, vI x12, vI x13, vI x14, vI x15, vI x16, vI x17, vI x18, vI x19, vI x20, vI x21, none, none, none, none, none, none, none, none, none, none], [.int (0:Int32)], (H0 s r246.2))) rfl ?_
    obtain rfl := Option.some.inj h
    obtain ⟨rfl, rfl⟩ := hx0 ((0:Int32), (H0 s r246.2)) rfl
    exact QTri.retZ rfl rfl
   ·refine zT Ad W (t := 546) (f := 544) rfl (XT.i0_ne_t hc247) ?_
    refine zS Ad W 12 (st' := (567, [vR 0, vI x1, vR 1, vI x3, vI x4, vI x5, vI x6, vI x7, vI x8, vI x9, vI x10, vI x11, vI x12, vI x13, vI x14, vI x15, vI x16, vI x17, vI x18, vI x19, vI x20, vI x21, none, none, none, none, none, none, none, none, none, none], [.int x18, .int x17, .int x16, .int x15, .int x14, .int x13, .int x10, .int x6, .int x4, .int x3, .int (1:Int32), .ref 1], (H0 s r246.2))) rfl ?_
    refine zS Ad W 2 (st' := (571, [vR 0, vI x1, vR 1, vI x3, vI x4, vI x5, vI x6, vI x7, vI x8, vI x9, vI x10, vI x11, vI x12, vI x13, vI x14, vI x15, vI x16, vI x17, vI x18, vI x19, vI x20, vI x21, none, none, none, none, none, none, none, none, none, none], [.int x20, .int x19, .int x18, .int x17, .int x16, .int x15, .int x14, .int x13, .int x10, .int x6, .int x4, .int x3, .int (1:Int32), .ref 1], (H0 s r246.2))) rfl ?_
    obtain ⟨r248, hr248, h⟩ := bind_eq_some_iff.mp h
    refine QTri.callS W (as := [.ref 1, .int (1:Int32), .int x3, .int x4, .int x6, .int x10, .int x13, .int x14, .int x15, .int x16, .int x17, .int x18, .int x19, .int x20]) (rest := []) (w := (some (.int r248.1))) (σ₁ := (H0 s r248.2)) rfl rfl rfl rfl rfl rfl rfl (tF12 Ad W s r246.2 (1:Int32) x3 x4 x6 x10 x13 x14 x15 x16 x17 x18 x19 x20 hr248) ?_
    rcases qite h with ⟨hc249, h⟩ | ⟨hc249, h⟩
    ·refine zF Ad W (t := 579) (f := 577) rfl (XT.i0_ne_f hc249) ?_
     refine zS Ad W 1 (st' := (578, [vR 0, vI x1, vR 1, vI x3, vI x4, vI x5, vI x6, vI x7, vI x8, vI x9, vI x10, vI x11, vI x12, vI x13, vI x14, vI x15, vI x16, vI x17, vI x18, vI x19, vI x20, vI x21, none, none, none, none, none, none, none, none, none, none], [.int (0:Int32)], (H0 s r248.2))) rfl ?_
     obtain rfl := Option.some.inj h
     obtain ⟨rfl, rfl⟩ := hx0 ((0:Int32), (H0 s r248.2)) rfl
     exact QTri.retZ rfl rfl
    ·refine zT Ad W (t := 579) (f := 577) rfl (XT.i0_ne_t hc249) ?_
     refine zS Ad W 12 (st' := (600, [vR 0, vI x1, vR 1, vI x3, vI x4, vI x5, vI x6, vI x7, vI x8, vI x9, vI x10, vI x11, vI x12, vI x13, vI x14, vI x15, vI x16, vI x17, vI x18, vI x19, vI x20, vI x21, none, none, none, none, none, none, none, none, none, none], [.int x18, .int x17, .int x16, .int x15, .int x14, .int x13, .int x11, .int x7, .int x4, .int x3, .int (2:Int32), .ref 1], (H0 s r248.2))) rfl ?_
     refine zS Ad W 2 (st' := (604, [vR 0, vI x1, vR 1, vI x3, vI x4, vI x5, vI x6, vI x7, vI x8, vI x9, vI x10, vI x11, vI x12, vI x13, vI x14, vI x15, vI x16, vI x17, vI x18, vI x19, vI x20, vI x21, none, none, none, none, none, none, none, none, none, none], [.int x20, .int x19, .int x18, .int x17, .int x16, .int x15, .int x14, .int x13, .int x11, .int x7, .int x4, .int x3, .int (2:Int32), .ref 1], (H0 s r248.2))) rfl ?_
     obtain ⟨r250, hr250, h⟩ := bind_eq_some_iff.mp h
     refine QTri.callS W (as := [.ref 1, .int (2:Int32), .int x3, .int x4, .int x7, .int x11, .int x13, .int x14, .int x15, .int x16, .int x17, .int x18, .int x19, .int x20]) (rest := []) (w := (some (.int r250.1))) (σ₁ := (H0 s r250.2)) rfl rfl rfl rfl rfl rfl rfl (tF12 Ad W s r248.2 (2:Int32) x3 x4 x7 x11 x13 x14 x15 x16 x17 x18 x19 x20 hr250) ?_
     rcases qite h with ⟨hc251, h⟩ | ⟨hc251, h⟩
     ·refine zF Ad W (t := 612) (f := 610) rfl (XT.i0_ne_f hc251) ?_
      refine zS Ad W 1 (st' := (611, [vR 0, vI x1, vR 1, vI x3, vI x4, vI x5, vI x6, vI x7, vI x8, vI x9, vI x10, vI x11, vI x12, vI x13, vI x14, vI x15, vI x16, vI x17, vI x18, vI x19, vI x20, vI x21, none, none, none, none, none, none, none, none, none, none], [.int (0:Int32)], (H0 s r250.2))) rfl ?_
      obtain rfl := Option.some.inj h
      obtain ⟨rfl, rfl⟩ := hx0 ((0:Int32), (H0 s r250.2)) rfl
      exact QTri.retZ rfl rfl
     ·refine zT Ad W (t := 612) (f := 610) rfl (XT.i0_ne_t hc251) ?_
      refine zS Ad W 12 (st' := (633, [vR 0, vI x1, vR 1, vI x3, vI x4, vI x5, vI x6, vI x7, vI x8, vI x9, vI x10, vI x11, vI x12, vI x13, vI x14, vI x15, vI x16, vI x17, vI x18, vI x19, vI x20, vI x21, none, none, none, none, none, none, none, none, none, none], [.int x18, .int x17, .int x16, .int x15, .int x14, .int x13, .int x12, .int x8, .int x4, .int x3, .int (3:Int32), .ref 1], (H0 s r250.2))) rfl ?_
      refine zS Ad W 2 (st' := (637, [vR 0, vI x1, vR 1, vI x3, vI x4, vI x5, vI x6, vI x7, vI x8, vI x9, vI x10, vI x11, vI x12, vI x13, vI x14, vI x15, vI x16, vI x17, vI x18, vI x19, vI x20, vI x21, none, none, none, none, none, none, none, none, none, none], [.int x20, .int x19, .int x18, .int x17, .int x16, .int x15, .int x14, .int x13, .int x12, .int x8, .int x4, .int x3, .int (3:Int32), .ref 1], (H0 s r250.2))) rfl ?_
      obtain ⟨r252, hr252, h⟩ := bind_eq_some_iff.mp h
      refine QTri.callS W (as := [.ref 1, .int (3:Int32), .int x3, .int x4, .int x8, .int x12, .int x13, .int x14, .int x15, .int x16, .int x17, .int x18, .int x19, .int x20]) (rest := []) (w := (some (.int r252.1))) (σ₁ := (H0 s r252.2)) rfl rfl rfl rfl rfl rfl rfl (tF12 Ad W s r250.2 (3:Int32) x3 x4 x8 x12 x13 x14 x15 x16 x17 x18 x19 x20 hr252) ?_
      rcases qite h with ⟨hc253, h⟩ | ⟨hc253, h⟩
      ·refine zF Ad W (t := 645) (f := 643) rfl (XT.i0_ne_f hc253) ?_
       refine zS Ad W 1 (st' := (644, [vR 0, vI x1, vR 1, vI x3, vI x4, vI x5, vI x6, vI x7, vI x8, vI x9, vI x10, vI x11, vI x12, vI x13, vI x14, vI x15, vI x16, vI x17, vI x18, vI x19, vI x20, vI x21, none, none, none, none, none, none, none, none, none, none], [.int (0:Int32)], (H0 s r252.2))) rfl ?_
       obtain rfl := Option.some.inj h
       obtain ⟨rfl, rfl⟩ := hx0 ((0:Int32), (H0 s r252.2)) rfl
       exact QTri.retZ rfl rfl
      ·refine zT Ad W (t := 645) (f := 643) rfl (XT.i0_ne_t hc253) ?_
       refine zS Ad W 2 (st' := (92, [vR 0, vI x1, vR 1, vI x3, vI x4, vI x5, vI x6, vI x7, vI x8, vI x9, vI x10, vI x11, vI x12, vI x13, vI x14, vI x15, vI x16, vI x17, vI x18, vI x19, vI x20, vI (x21 + (5:Int32)), none, none, none, none, none, none, none, none, none, none], [], (H0 s r252.2))) rfl ?_
       obtain rfl := Option.some.inj h
       exact zM [tt,tt,tt,tt,tt,tt,tt,tt,tt,tt,tt,tt,tt,tt,tt,tt,tt,tt,tt,tt,tt,tt,ff,ff,ff,ff,ff,ff,ff,ff,ff,ff] (hc (x3, x4, x5, x6, x7, x8, x9, x10, x11, x12, x13, x14, x15, x16, x17, x18, x19, x20, (x21 + (5:Int32)), r252.2) rfl)
  ·refine zF Ad W (t := 513) (f := 511) rfl (XT.ii_eq_f hc85) ?_
   refine zS Ad W 1 (st' := (512, [vR 0, vI x1, vR 1, vI x3, vI x4, vI x5, vI x6, vI x7, vI x8, vI x9, vI x10, vI x11, vI x12, vI x13, vI x14, vI x15, vI x16, vI x17, vI x18, vI x19, vI x20, vI x21, none, none, none, none, none, none, none, none, none, none], [.int (0:Int32)], (H0 s p0))) rfl ?_
   obtain rfl := Option.some.inj h
   obtain ⟨rfl, rfl⟩ := hx0 ((0:Int32), (H0 s p0)) rfl
   exact QTri.retZ rfl rfl
 ·refine zT Ad W (t := 511) (f := 503) rfl (XT.ii_ne_t hc83) ?_
  refine zS Ad W 1 (st' := (512, [vR 0, vI x1, vR 1, vI x3, vI x4, vI x5, vI x6, vI x7, vI x8, vI x9, vI x10, vI x11, vI x12, vI x13, vI x14, vI x15, vI x16, vI x17, vI x18, vI x19, vI x20, vI x21, none, none, none, none, none, none, none, none, none, none], [.int (0:Int32)], (H0 s p0))) rfl ?_
  obtain rfl := Option.some.inj h
  obtain ⟨rfl, rfl⟩ := hx0 ((0:Int32), (H0 s p0)) rfl
  exact QTri.retZ rfl rfl
def J0_244 (s : List Int32) (p0 : Ob) (x1 : Int32) (x3 : Int32) (x4 : Int32) (x5 : Int32) (x6 : Int32) (x7 : Int32) (x8 : Int32) (x9 : Int32) (x10 : Int32) (x11 : Int32) (x12 : Int32) (x13 : Int32) (x14 : Int32) (x15 : Int32) (x16 : Int32) (x17 : Int32) (x18 : Int32) (x19 : Int32) (x20 : Int32) (x21 : Int32) (x23 : Int32) (x24 : Int32) (x25 : Int32) : Option (((Int32 × QHeap)) ⊕ (Int32 × Int32 × Int32 × Int32 × Int32 × Int32 × Int32 × Int32 × Int32 × Int32 × Int32 × Int32 × Int32 × Int32 × Int32 × Int32 × Int32 × Int32 × Int32 × Ob)) :=
  (F21 p0 x23 x24).bind fun r80 => (if r80.1 = x25 then (J0_494 s r80.2 x1 x3 x4 x5 x6 x7 x8 x9 x10 x11 x12 x13 x14 x15 x16 x17 x18 x19 x20 x21) else some (.inl ((0 : Int32), (H0 s r80.2))))
theorem tJ0_244 (Ad : QAd n0 ad) (W : QW Z a0) (s : List Int32) (p0 : Ob) (x1 : Int32) (x3 : Int32) (x4 : Int32) (x5 : Int32) (x6 : Int32) (x7 : Int32) (x8 : Int32) (x9 : Int32) (x10 : Int32) (x11 : Int32) (x12 : Int32) (x13 : Int32) (x14 : Int32) (x15 : Int32) (x16 : Int32) (x17 : Int32) (x18 : Int32) (x19 : Int32) (x20 : Int32) (x21 : Int32) (x23 : Int32) (x24 : Int32) (x25 : Int32) {r : ((Int32 × QHeap)) ⊕ (Int32 × Int32 × Int32 × Int32 × Int32 × Int32 × Int32 × Int32 × Int32 × Int32 × Int32 × Int32 × Int32 × Int32 × Int32 × Int32 × Int32 × Int32 × Int32 × Ob)} {u : Option Value} {τ : QHeap} (h : J0_244 s p0 x1 x3 x4 x5 x6 x7 x8 x9 x10 x11 x12 x13 x14 x15 x16 x17 x18 x19 x20 x21 x23 x24 x25 = some r) (hx0 : ∀ x : Int32 × QHeap, r = .inl x → u = (some (Value.int x.1)) ∧ τ = x.2) (hc : ∀ x : Int32 × Int32 × Int32 × Int32 × Int32 × Int32 × Int32 × Int32 × Int32 × Int32 × Int32 × Int32 × Int32 × Int32 × Int32 × Int32 × Int32 × Int32 × Int32 × Ob, r = .inr x → QTri l Z n0 ad 0 (92, [vR 0, vI x1, vR 1, vI x.1, vI x.2.1, vI x.2.2.1, vI x.2.2.2.1, vI x.2.2.2.2.1, vI x.2.2.2.2.2.1, vI x.2.2.2.2.2.2.1, vI x.2.2.2.2.2.2.2.1, vI x.2.2.2.2.2.2.2.2.1, vI x.2.2.2.2.2.2.2.2.2.1, vI x.2.2.2.2.2.2.2.2.2.2.1, vI x.2.2.2.2.2.2.2.2.2.2.2.1, vI x.2.2.2.2.2.2.2.2.2.2.2.2.1, vI x.2.2.2.2.2.2.2.2.2.2.2.2.2.1, vI x.2.2.2.2.2.2.2.2.2.2.2.2.2.2.1, vI x.2.2.2.2.2.2.2.2.2.2.2.2.2.2.2.1, vI x.2.2.2.2.2.2.2.2.2.2.2.2.2.2.2.2.1, vI x.2.2.2.2.2.2.2.2.2.2.2.2.2.2.2.2.2.1, vI x.2.2.2.2.2.2.2.2.2.2.2.2.2.2.2.2.2.2.1, none, none, none, none, none, none, none, none, none, none], [], (H0 s x.2.2.2.2.2.2.2.2.2.2.2.2.2.2.2.2.2.2.2)) u τ) : QTri l Z n0 ad 0 (244, [vR 0, vI x1, vR 1, vI x3, vI x4, vI x5, vI x6, vI x7, vI x8, vI x9, vI x10, vI x11, vI x12, vI x13, vI x14, vI x15, vI x16, vI x17, vI x18, vI x19, vI x20, vI x21, none, vI x23, vI x24, vI x25, none, none, none, none, none, none], [], (H0 s p0)) u τ := by
 unfold J0_244 at h
 refine zS Ad W 3 (st' := (249, [vR 0, vI x1, vR 1, vI x3, vI x4, vI x5, vI x6, vI x7, vI x8, vI x9, vI x10, vI x11, vI x12, vI x13, vI x14, vI x15, vI x16, vI x17, vI x18, vI x19, vI x20, vI x21, none, vI x23, vI x24, vI x25, none, none, none, none, none, none], [.int x24, .int x23, .ref 1], (H0 s p0))) rfl ?_
 obtain ⟨r80, hr80, h⟩ := bind_eq_some_iff.mp h
 refine QTri.callV W (a := 1) (as := [.int x23, .int x24]) (rest := []) (w := (some (.int r80.1))) (σ₁ := (H0 s r80.2)) rfl rfl rfl rfl rfl rfl rfl rfl (tF21 Ad W s p0 x23 x24 hr80) ?_
 refine zS Ad W 1 (st' := (254, [vR 0, vI x1, vR 1, vI x3, vI x4, vI x5, vI x6, vI x7, vI x8, vI x9, vI x10, vI x11, vI x12, vI x13, vI x14, vI x15, vI x16, vI x17, vI x18, vI x19, vI x20, vI x21, none, vI x23, vI x24, vI x25, none, none, none, none, none, none], [.int x25, .int r80.1], (H0 s r80.2))) rfl ?_
 rcases qite h with ⟨hc81, h⟩ | ⟨hc81, h⟩
 ·refine zT Ad W (t := 259) (f := 257) rfl (XT.ii_eq_t hc81) ?_
  refine zS Ad W 1 (st' := (494, [vR 0, vI x1, vR 1, vI x3, vI x4, vI x5, vI x6, vI x7, vI x8, vI x9, vI x10, vI x11, vI x12, vI x13, vI x14, vI x15, vI x16, vI x17, vI x18, vI x19, vI x20, vI x21, none, vI x23, vI x24, vI x25, none, none, none, none, none, none], [], (H0 s r80.2))) rfl ?_
  exact zM [tt,tt,tt,tt,tt,tt,tt,tt,tt,tt,tt,tt,tt,tt,tt,tt,tt,tt,tt,tt,tt,tt,ff,ff,ff,ff,ff,ff,ff,ff,ff,ff] (tJ0_494 Ad W s r80.2 x1 x3 x4 x5 x6 x7 x8 x9 x10 x11 x12 x13 x14 x15 x16 x17 x18 x19 x20 x21 h hx0 hc)
 ·refine zF Ad W (t := 259) (f := 257) rfl (XT.ii_eq_f hc81) ?_
  refine zS Ad W 1 (st' := (258, [vR 0, vI x1, vR 1, vI x3, vI x4, vI x5, vI x6, vI x7, vI x8, vI x9, vI x10, vI x11, vI x12, vI x13, vI x14, vI x15, vI x16, vI x17, vI x18, vI x19, vI x20, vI x21, none, vI x23, vI x24, vI x25, none, none, none, none, none, none], [.int (0:Int32)], (H0 s r80.2))) rfl ?_
  obtain rfl := Option.some.inj h
  obtain ⟨rfl, rfl⟩ := hx0 ((0:Int32), (H0 s r80.2)) rfl
  exact QTri.retZ rfl rfl
/-- moved(IIII)I -/
def F8 (x0 : Int32) (x1 : Int32) (x2 : Int32) (x3 : Int32) : Option (Int32) :=
 (if x0 < x1 then (qrem x2 x3).bind fun y277 => (if y277 = (0:Int32) then some (1:Int32) else some (0:Int32)) else some (0:Int32))
theorem tF8 (Ad : QAd n0 ad) (W : QW Z a0) {σ : QHeap} (x0 : Int32) (x1 : Int32) (x2 : Int32) (x3 : Int32) {r : Int32} (h : F8 x0 x1 x2 x3 = some r) : QTri l Z n0 ad 8 (0, qentry [.int x0, .int x1, .int x2, .int x3] (pMaxL 8), [], σ) (some (Value.int r)) σ := by
 unfold F8 at h
 refine zS Ad W 2 (st' := (2, [vI x0, vI x1, vI x2, vI x3], [.int x1, .int x0], σ)) rfl ?_
 rcases qite h with ⟨hc276, h⟩ | ⟨hc276, h⟩
 ·refine zF Ad W (t := 15) (f := 5) rfl (XT.ii_ge_f hc276) ?_
  refine zS Ad W 2 (st' := (7, [vI x0, vI x1, vI x2, vI x3], [.int x3, .int x2], σ)) rfl ?_
  obtain ⟨y277, hy277, h⟩ := bind_eq_some_iff.mp h
  refine zB Ad W (f := fun y277 => (8, [vI x0, vI x1, vI x2, vI x3], [.int y277], σ)) rfl hy277 ?_
  rcases qite h with ⟨hc278, h⟩ | ⟨hc278, h⟩
  ·refine zF Ad W (t := 15) (f := 11) rfl (XT.i0_ne_f hc278) ?_
   refine zS Ad W 2 (st' := (16, [vI x0, vI x1, vI x2, vI x3], [.int (1:Int32)], σ)) rfl ?_
   obtain rfl := Option.some.inj h
   exact QTri.retI rfl rfl
  ·refine zT Ad W (t := 15) (f := 11) rfl (XT.i0_ne_t hc278) ?_
   refine zS Ad W 1 (st' := (16, [vI x0, vI x1, vI x2, vI x3], [.int (0:Int32)], σ)) rfl ?_
   obtain rfl := Option.some.inj h
   exact QTri.retI rfl rfl
 ·refine zT Ad W (t := 15) (f := 5) rfl (XT.ii_ge_t hc276) ?_
  refine zS Ad W 1 (st' := (16, [vI x0, vI x1, vI x2, vI x3], [.int (0:Int32)], σ)) rfl ?_
  obtain rfl := Option.some.inj h
  exact QTri.retI rfl rfl
def H0x12 (s : List Int32) (o0 : Ob) (a0_17 : Int32) : QHeap := H0v s (f_regTuple o0) (f_regA o0) (f_regB o0) (f_regC o0) (f_regCount o0) (f_slots o0) (f_range o0) (f_slide o0) (f_frontSize o0) (f_backSize o0) (f_backElem o0) (f_frontAgg o0) (f_backAgg o0) (f_snap o0) (f_reg o0) (f_capacity o0) (f_queries o0) a0_17
def H0x13 (s : List Int32) (o0 : Ob) (a0_10 : List Int32) : QHeap := H0v s (f_regTuple o0) (f_regA o0) (f_regB o0) (f_regC o0) (f_regCount o0) (f_slots o0) (f_range o0) (f_slide o0) (f_frontSize o0) (f_backSize o0) a0_10 (f_frontAgg o0) (f_backAgg o0) (f_snap o0) (f_reg o0) (f_capacity o0) (f_queries o0) (f_n o0)
def B32_34 (x4 : Int32) (x5 : Int32) (v : Int32 × Ob) : Option (((Ob)) ⊕ (Int32 × Ob)) :=
  (if v.1 < (4 : Int32) then (aget (f_reg v.2) (x5 + v.1)).bind fun y301 => (aset (f_backElem v.2) (x4 + v.1) y301).bind fun y302 => some (.inr ((v.1 + (1 : Int32)), (s_backElem v.2 y302))) else some (.inl v.2))
theorem tB32_34 (Ad : QAd n0 ad) (W : QW Z a0) (s : List Int32) (x4 : Int32) (x5 : Int32) (v : Int32 × Ob) {r : ((Ob)) ⊕ (Int32 × Ob)} {u : Option Value} {τ : QHeap} (h : B32_34 x4 x5 v = some r) (hx0 : ∀ x : Ob, r = .inl x → u = (none : Option Value) ∧ τ = (H0 s x)) (hc : ∀ x : Int32 × Ob, r = .inr x → QTri l Z n0 ad 32 (34, [vR 1, none, none, none, vI x4, vI x5, vI x.1], [], (H0 s x.2)) u τ) : QTri l Z n0 ad 32 (34, [vR 1, none, none, none, vI x4, vI x5, vI v.1], [], (H0 s v.2)) u τ := by
 unfold B32_34 at h
 refine zS Ad W 2 (st' := (37, [vR 1, none, none, none, vI x4, vI x5, vI v.1], [.int (4:Int32), .int v.1], (H0 s v.2))) rfl ?_
 rcases qite h with ⟨hc300, h⟩ | ⟨hc300, h⟩
 ·refine zF Ad W (t := 66) (f := 40) rfl (XT.ii_ge_f hc300) ?_
  refine zS Ad W 10 (st' := (58, [vR 1, none, none, none, vI x4, vI x5, vI v.1], [.int (x5 + v.1), .ref 10, .int (x4 + v.1), .ref 6], (H0 s v.2))) rfl ?_
  obtain ⟨y301, hy301, h⟩ := bind_eq_some_iff.mp h
  refine zB Ad W (f := fun y301 => (59, [vR 1, none, none, none, vI x4, vI x5, vI v.1], [.int y301, .int (x4 + v.1), .ref 6], (H0 s v.2))) rfl hy301 ?_
  obtain ⟨y302, hy302, h⟩ := bind_eq_some_iff.mp h
  refine zB Ad W (f := fun y302 => (60, [vR 1, none, none, none, vI x4, vI x5, vI v.1], [], (H0x13 s v.2 y302))) rfl hy302 ?_
  refine zS Ad W 2 (st' := (34, [vR 1, none, none, none, vI x4, vI x5, vI (v.1 + (1:Int32))], [], (H0x13 s v.2 y302))) rfl ?_
  have E303 : ((H0x13 s v.2 y302) : QHeap) = (H0 s (s_backElem v.2 y302)) := by simp only [fs, H0, H0v, H0x13, s_backElem]
  rw [E303]
  obtain rfl := Option.some.inj h
  exact zM [tt,ff,ff,ff,tt,tt,tt] (hc ((v.1 + (1:Int32)), (s_backElem v.2 y302)) rfl)
 ·refine zT Ad W (t := 66) (f := 40) rfl (XT.ii_ge_t hc300) ?_
  obtain rfl := Option.some.inj h
  obtain ⟨rfl, rfl⟩ := hx0 v.2 rfl
  exact QTri.ret0 rfl rfl
/-- storeBack(III)V -/
def F32 (o : Ob) (x1 : Int32) (x2 : Int32) (x3 : Int32) : Option (Ob) :=
 (F5 x3).bind fun r295 => (if r295 = (0:Int32) then some o else (F31 x1 x2).bind fun r297 => (if r297 = (0:Int32) then some o else (F33 x1 x2).bind fun r299 => (loopN (B32_34 r299 (x3 * (4:Int32))) qN ((0:Int32), o)).bind fun e304 => some e304))
theorem tF32 (Ad : QAd n0 ad) (W : QW Z a0) (s : List Int32) (o : Ob) (x1 : Int32) (x2 : Int32) (x3 : Int32) {r : Ob} (h : F32 o x1 x2 x3 = some r) : QTri l Z n0 ad 32 (0, qentry [.ref 1, .int x1, .int x2, .int x3] (pMaxL 32), [], (H0 s o)) (none : Option Value) (H0 s r) := by
 unfold F32 at h
 refine zS Ad W 2 (st' := (2, [vR 1, vI x1, vI x2, vI x3, none, none, none], [.int x3, .ref 1], (H0 s o))) rfl ?_
 obtain ⟨r295, hr295, h⟩ := bind_eq_some_iff.mp h
 refine QTri.callP W (a := 1) (as := [.int x3]) (rest := []) (w := (some (.int r295))) (σ₁ := (H0 s o)) rfl rfl rfl rfl rfl rfl rfl rfl (tF5 Ad W x3 hr295) ?_
 rcases qite h with ⟨hc296, h⟩ | ⟨hc296, h⟩
 ·refine zT Ad W (t := 17) (f := 8) rfl (XT.i0_eq_t hc296) ?_
  obtain rfl := Option.some.inj h
  exact QTri.ret0 rfl rfl
 ·refine zF Ad W (t := 17) (f := 8) rfl (XT.i0_eq_f hc296) ?_
  refine zS Ad W 3 (st' := (11, [vR 1, vI x1, vI x2, vI x3, none, none, none], [.int x2, .int x1, .ref 1], (H0 s o))) rfl ?_
  obtain ⟨r297, hr297, h⟩ := bind_eq_some_iff.mp h
  refine QTri.callP W (a := 1) (as := [.int x1, .int x2]) (rest := []) (w := (some (.int r297))) (σ₁ := (H0 s o)) rfl rfl rfl rfl rfl rfl rfl rfl (tF31 Ad W x1 x2 hr297) ?_
  rcases qite h with ⟨hc298, h⟩ | ⟨hc298, h⟩
  ·refine zF Ad W (t := 18) (f := 17) rfl (XT.i0_ne_f hc298) ?_
   obtain rfl := Option.some.inj h
   exact QTri.ret0 rfl rfl
  ·refine zT Ad W (t := 18) (f := 17) rfl (XT.i0_ne_t hc298) ?_
   refine zS Ad W 3 (st' := (21, [vR 1, vI x1, vI x2, vI x3, none, none, none], [.int x2, .int x1, .ref 1], (H0 s o))) rfl ?_
   obtain ⟨r299, hr299, h⟩ := bind_eq_some_iff.mp h
   refine QTri.callP W (a := 1) (as := [.int x1, .int x2]) (rest := []) (w := (some (.int r299))) (σ₁ := (H0 s o)) rfl rfl rfl rfl rfl rfl rfl rfl (tF33 Ad W x1 x2 hr299) ?_
   refine zS Ad W 5 (st' := (31, [vR 1, vI x1, vI x2, vI x3, vI r299, vI (x3 * (4:Int32)), none], [], (H0 s o))) rfl ?_
   refine zS Ad W 2 (st' := (34, [vR 1, vI x1, vI x2, vI x3, vI r299, vI (x3 * (4:Int32)), vI (0:Int32)], [], (H0 s o))) rfl ?_
   obtain ⟨e304, he304, h⟩ := bind_eq_some_iff.mp h
   refine zM [tt,ff,ff,ff,tt,tt,tt] (loopN_tri (B := B32_34 r299 (x3 * (4:Int32))) (T := fun lv305 => QTri l Z n0 ad 32 (34, [vR 1, none, none, none, vI r299, vI (x3 * (4:Int32)), vI lv305.1], [], (H0 s lv305.2)) (none : Option Value) (H0 s r)) (KE := fun e304a => (none : Option Value) = (none : Option Value) ∧ (H0 s r) = (H0 s e304a)) (fun lv305 r hB hE hC => tB32_34 Ad W s r299 (x3 * (4:Int32)) lv305 hB (fun x q => hE _ q) (fun x q => hC x q)) qN ((0:Int32), o) e304 he304 ?_)
   obtain rfl := Option.some.inj h
   exact ⟨rfl, rfl⟩
def H0x14 (s : List Int32) (o0 : Ob) (a0_9 : List Int32) : QHeap := H0v s (f_regTuple o0) (f_regA o0) (f_regB o0) (f_regC o0) (f_regCount o0) (f_slots o0) (f_range o0) (f_slide o0) (f_frontSize o0) a0_9 (f_backElem o0) (f_frontAgg o0) (f_backAgg o0) (f_snap o0) (f_reg o0) (f_capacity o0) (f_queries o0) (f_n o0)
def J30_39 (o : Ob) (x1 : Int32) : Option (Ob) :=
  (aget (f_backSize o) x1).bind fun y292 => (F31 x1 y292).bind fun r293 => (if r293 = (0 : Int32) then some o else (F32 o x1 y292 (0 : Int32)).bind fun r306 => (F27 r306 (1 : Int32) x1).bind fun r307 => (F28 r307 (1 : Int32) (1 : Int32) (0 : Int32)).bind fun r308 => (F6 r308 x1 (1 : Int32)).bind fun r309 => (aset (f_backSize r309) x1 (y292 + (1 : Int32))).bind fun y310 => some (s_backSize r309 y310))
theorem tJ30_39 (Ad : QAd n0 ad) (W : QW Z a0) (s : List Int32) (o : Ob) (x1 : Int32) {r : Ob} (h : J30_39 o x1 = some r) : QTri l Z n0 ad 30 (39, [vR 1, vI x1, none, none], [], (H0 s o)) (none : Option Value) (H0 s r) := by
 unfold J30_39 at h
 refine zS Ad W 3 (st' := (44, [vR 1, vI x1, none, none], [.int x1, .ref 5], (H0 s o))) rfl ?_
 obtain ⟨y292, hy292, h⟩ := bind_eq_some_iff.mp h
 refine zB Ad W (f := fun y292 => (45, [vR 1, vI x1, none, none], [.int y292], (H0 s o))) rfl hy292 ?_
 refine zS Ad W 4 (st' := (49, [vR 1, vI x1, none, vI y292], [.int y292, .int x1, .ref 1], (H0 s o))) rfl ?_
 obtain ⟨r293, hr293, h⟩ := bind_eq_some_iff.mp h
 refine QTri.callP W (a := 1) (as := [.int x1, .int y292]) (rest := []) (w := (some (.int r293))) (σ₁ := (H0 s o)) rfl rfl rfl rfl rfl rfl rfl rfl (tF31 Ad W x1 y292 hr293) ?_
 rcases qite h with ⟨hc294, h⟩ | ⟨hc294, h⟩
 ·refine zF Ad W (t := 56) (f := 55) rfl (XT.i0_ne_f hc294) ?_
  obtain rfl := Option.some.inj h
  exact QTri.ret0 rfl rfl
 ·refine zT Ad W (t := 56) (f := 55) rfl (XT.i0_ne_t hc294) ?_
  refine zS Ad W 4 (st' := (60, [vR 1, vI x1, none, vI y292], [.int (0:Int32), .int y292, .int x1, .ref 1], (H0 s o))) rfl ?_
  obtain ⟨r306, hr306, h⟩ := bind_eq_some_iff.mp h
  refine QTri.callP W (a := 1) (as := [.int x1, .int y292, .int (0:Int32)]) (rest := []) (w := none) (σ₁ := (H0 s r306)) rfl rfl rfl rfl rfl rfl rfl rfl (tF32 Ad W s o x1 y292 (0:Int32) hr306) ?_
  refine zS Ad W 3 (st' := (66, [vR 1, vI x1, none, vI y292], [.int x1, .int (1:Int32), .ref 1], (H0 s r306))) rfl ?_
  obtain ⟨r307, hr307, h⟩ := bind_eq_some_iff.mp h
  refine QTri.callP W (a := 1) (as := [.int (1:Int32), .int x1]) (rest := []) (w := none) (σ₁ := (H0 s r307)) rfl rfl rfl rfl rfl rfl rfl rfl (tF27 Ad W s r306 (1:Int32) x1 hr307) ?_
  refine zS Ad W 4 (st' := (73, [vR 1, vI x1, none, vI y292], [.int (0:Int32), .int (1:Int32), .int (1:Int32), .ref 1], (H0 s r307))) rfl ?_
  obtain ⟨r308, hr308, h⟩ := bind_eq_some_iff.mp h
  refine QTri.callP W (a := 1) (as := [.int (1:Int32), .int (1:Int32), .int (0:Int32)]) (rest := []) (w := none) (σ₁ := (H0 s r308)) rfl rfl rfl rfl rfl rfl rfl rfl (tF28 Ad W s r307 (1:Int32) (1:Int32) (0:Int32) hr308) ?_
  refine zS Ad W 3 (st' := (79, [vR 1, vI x1, none, vI y292], [.int (1:Int32), .int x1, .ref 1], (H0 s r308))) rfl ?_
  obtain ⟨r309, hr309, h⟩ := bind_eq_some_iff.mp h
  refine QTri.callP W (a := 1) (as := [.int x1, .int (1:Int32)]) (rest := []) (w := none) (σ₁ := (H0 s r309)) rfl rfl rfl rfl rfl rfl rfl rfl (tF6 Ad W s r308 x1 (1:Int32) hr309) ?_
  refine zS Ad W 6 (st' := (90, [vR 1, vI x1, none, vI y292], [.int (y292 + (1:Int32)), .int x1, .ref 5], (H0 s r309))) rfl ?_
  obtain ⟨y310, hy310, h⟩ := bind_eq_some_iff.mp h
  refine zB Ad W (f := fun y310 => (91, [vR 1, vI x1, none, vI y292], [], (H0x14 s r309 y310))) rfl hy310 ?_
  have E311 : ((H0x14 s r309 y310) : QHeap) = (H0 s (s_backSize r309 y310)) := by simp only [fs, H0, H0v, H0x14, s_backSize]
  rw [E311]
  obtain rfl := Option.some.inj h
  exact QTri.ret0 rfl rfl
def B36_34 (x4 : Int32) (x5 : Int32) (v : Int32 × Ob) : Option (((Ob)) ⊕ (Int32 × Ob)) :=
  (if v.1 < (4 : Int32) then (aget (f_backElem v.2) (x4 + v.1)).bind fun y326 => (aset (f_reg v.2) (x5 + v.1) y326).bind fun y327 => some (.inr ((v.1 + (1 : Int32)), (s_reg v.2 y327))) else some (.inl v.2))
theorem tB36_34 (Ad : QAd n0 ad) (W : QW Z a0) (s : List Int32) (x4 : Int32) (x5 : Int32) (v : Int32 × Ob) {r : ((Ob)) ⊕ (Int32 × Ob)} {u : Option Value} {τ : QHeap} (h : B36_34 x4 x5 v = some r) (hx0 : ∀ x : Ob, r = .inl x → u = (none : Option Value) ∧ τ = (H0 s x)) (hc : ∀ x : Int32 × Ob, r = .inr x → QTri l Z n0 ad 36 (34, [vR 1, none, none, none, vI x4, vI x5, vI x.1], [], (H0 s x.2)) u τ) : QTri l Z n0 ad 36 (34, [vR 1, none, none, none, vI x4, vI x5, vI v.1], [], (H0 s v.2)) u τ := by
 unfold B36_34 at h
 refine zS Ad W 2 (st' := (37, [vR 1, none, none, none, vI x4, vI x5, vI v.1], [.int (4:Int32), .int v.1], (H0 s v.2))) rfl ?_
 rcases qite h with ⟨hc325, h⟩ | ⟨hc325, h⟩
 ·refine zF Ad W (t := 66) (f := 40) rfl (XT.ii_ge_f hc325) ?_
  refine zS Ad W 10 (st' := (58, [vR 1, none, none, none, vI x4, vI x5, vI v.1], [.int (x4 + v.1), .ref 6, .int (x5 + v.1), .ref 10], (H0 s v.2))) rfl ?_
  obtain ⟨y326, hy326, h⟩ := bind_eq_some_iff.mp h
  refine zB Ad W (f := fun y326 => (59, [vR 1, none, none, none, vI x4, vI x5, vI v.1], [.int y326, .int (x5 + v.1), .ref 10], (H0 s v.2))) rfl hy326 ?_
  obtain ⟨y327, hy327, h⟩ := bind_eq_some_iff.mp h
  refine zB Ad W (f := fun y327 => (60, [vR 1, none, none, none, vI x4, vI x5, vI v.1], [], (H0x6 s v.2 y327))) rfl hy327 ?_
  refine zS Ad W 2 (st' := (34, [vR 1, none, none, none, vI x4, vI x5, vI (v.1 + (1:Int32))], [], (H0x6 s v.2 y327))) rfl ?_
  have E328 : ((H0x6 s v.2 y327) : QHeap) = (H0 s (s_reg v.2 y327)) := by simp only [fs, H0, H0v, H0x6, s_reg]
  rw [E328]
  obtain rfl := Option.some.inj h
  exact zM [tt,ff,ff,ff,tt,tt,tt] (hc ((v.1 + (1:Int32)), (s_reg v.2 y327)) rfl)
 ·refine zT Ad W (t := 66) (f := 40) rfl (XT.ii_ge_t hc325) ?_
  obtain rfl := Option.some.inj h
  obtain ⟨rfl, rfl⟩ := hx0 v.2 rfl
  exact QTri.ret0 rfl rfl
/-- loadBack(III)V -/
def F36 (o : Ob) (x1 : Int32) (x2 : Int32) (x3 : Int32) : Option (Ob) :=
 (F5 x1).bind fun r320 => (if r320 = (0:Int32) then some o else (F31 x2 x3).bind fun r322 => (if r322 = (0:Int32) then some o else (F33 x2 x3).bind fun r324 => (loopN (B36_34 r324 (x1 * (4:Int32))) qN ((0:Int32), o)).bind fun e329 => some e329))
theorem tF36 (Ad : QAd n0 ad) (W : QW Z a0) (s : List Int32) (o : Ob) (x1 : Int32) (x2 : Int32) (x3 : Int32) {r : Ob} (h : F36 o x1 x2 x3 = some r) : QTri l Z n0 ad 36 (0, qentry [.ref 1, .int x1, .int x2, .int x3] (pMaxL 36), [], (H0 s o)) (none : Option Value) (H0 s r) := by
 unfold F36 at h
 refine zS Ad W 2 (st' := (2, [vR 1, vI x1, vI x2, vI x3, none, none, none], [.int x1, .ref 1], (H0 s o))) rfl ?_
 obtain ⟨r320, hr320, h⟩ := bind_eq_some_iff.mp h
 refine QTri.callP W (a := 1) (as := [.int x1]) (rest := []) (w := (some (.int r320))) (σ₁ := (H0 s o)) rfl rfl rfl rfl rfl rfl rfl rfl (tF5 Ad W x1 hr320) ?_
 rcases qite h with ⟨hc321, h⟩ | ⟨hc321, h⟩
 ·refine zT Ad W (t := 17) (f := 8) rfl (XT.i0_eq_t hc321) ?_
  obtain rfl := Option.some.inj h
  exact QTri.ret0 rfl rfl
 ·refine zF Ad W (t := 17) (f := 8) rfl (XT.i0_eq_f hc321) ?_
  refine zS Ad W 3 (st' := (11, [vR 1, vI x1, vI x2, vI x3, none, none, none], [.int x3, .int x2, .ref 1], (H0 s o))) rfl ?_
  obtain ⟨r322, hr322, h⟩ := bind_eq_some_iff.mp h
  refine QTri.callP W (a := 1) (as := [.int x2, .int x3]) (rest := []) (w := (some (.int r322))) (σ₁ := (H0 s o)) rfl rfl rfl rfl rfl rfl rfl rfl (tF31 Ad W x2 x3 hr322) ?_
  rcases qite h with ⟨hc323, h⟩ | ⟨hc323, h⟩
  ·refine zF Ad W (t := 18) (f := 17) rfl (XT.i0_ne_f hc323) ?_
   obtain rfl := Option.some.inj h
   exact QTri.ret0 rfl rfl
  ·refine zT Ad W (t := 18) (f := 17) rfl (XT.i0_ne_t hc323) ?_
   refine zS Ad W 3 (st' := (21, [vR 1, vI x1, vI x2, vI x3, none, none, none], [.int x3, .int x2, .ref 1], (H0 s o))) rfl ?_
   obtain ⟨r324, hr324, h⟩ := bind_eq_some_iff.mp h
   refine QTri.callP W (a := 1) (as := [.int x2, .int x3]) (rest := []) (w := (some (.int r324))) (σ₁ := (H0 s o)) rfl rfl rfl rfl rfl rfl rfl rfl (tF33 Ad W x2 x3 hr324) ?_
   refine zS Ad W 5 (st' := (31, [vR 1, vI x1, vI x2, vI x3, vI r324, vI (x1 * (4:Int32)), none], [], (H0 s o))) rfl ?_
   refine zS Ad W 2 (st' := (34, [vR 1, vI x1, vI x2, vI x3, vI r324, vI (x1 * (4:Int32)), vI (0:Int32)], [], (H0 s o))) rfl ?_
   obtain ⟨e329, he329, h⟩ := bind_eq_some_iff.mp h
   refine zM [tt,ff,ff,ff,tt,tt,tt] (loopN_tri (B := B36_34 r324 (x1 * (4:Int32))) (T := fun lv330 => QTri l Z n0 ad 36 (34, [vR 1, none, none, none, vI r324, vI (x1 * (4:Int32)), vI lv330.1], [], (H0 s lv330.2)) (none : Option Value) (H0 s r)) (KE := fun e329a => (none : Option Value) = (none : Option Value) ∧ (H0 s r) = (H0 s e329a)) (fun lv330 r hB hE hC => tB36_34 Ad W s r324 (x1 * (4:Int32)) lv330 hB (fun x q => hE _ q) (fun x q => hC x q)) qN ((0:Int32), o) e329 he329 ?_)
   obtain rfl := Option.some.inj h
   exact ⟨rfl, rfl⟩
def H0x15 (s : List Int32) (o0 : Ob) (a0_11 : List Int32) : QHeap := H0v s (f_regTuple o0) (f_regA o0) (f_regB o0) (f_regC o0) (f_regCount o0) (f_slots o0) (f_range o0) (f_slide o0) (f_frontSize o0) (f_backSize o0) (f_backElem o0) a0_11 (f_backAgg o0) (f_snap o0) (f_reg o0) (f_capacity o0) (f_queries o0) (f_n o0)
def B37_34 (x4 : Int32) (x5 : Int32) (v : Int32 × Ob) : Option (((Ob)) ⊕ (Int32 × Ob)) :=
  (if v.1 < (4 : Int32) then (aget (f_reg v.2) (x5 + v.1)).bind fun y339 => (aset (f_frontAgg v.2) (x4 + v.1) y339).bind fun y340 => some (.inr ((v.1 + (1 : Int32)), (s_frontAgg v.2 y340))) else some (.inl v.2))
theorem tB37_34 (Ad : QAd n0 ad) (W : QW Z a0) (s : List Int32) (x4 : Int32) (x5 : Int32) (v : Int32 × Ob) {r : ((Ob)) ⊕ (Int32 × Ob)} {u : Option Value} {τ : QHeap} (h : B37_34 x4 x5 v = some r) (hx0 : ∀ x : Ob, r = .inl x → u = (none : Option Value) ∧ τ = (H0 s x)) (hc : ∀ x : Int32 × Ob, r = .inr x → QTri l Z n0 ad 37 (34, [vR 1, none, none, none, vI x4, vI x5, vI x.1], [], (H0 s x.2)) u τ) : QTri l Z n0 ad 37 (34, [vR 1, none, none, none, vI x4, vI x5, vI v.1], [], (H0 s v.2)) u τ := by
 unfold B37_34 at h
 refine zS Ad W 2 (st' := (37, [vR 1, none, none, none, vI x4, vI x5, vI v.1], [.int (4:Int32), .int v.1], (H0 s v.2))) rfl ?_
 rcases qite h with ⟨hc338, h⟩ | ⟨hc338, h⟩
 ·refine zF Ad W (t := 66) (f := 40) rfl (XT.ii_ge_f hc338) ?_
  refine zS Ad W 10 (st' := (58, [vR 1, none, none, none, vI x4, vI x5, vI v.1], [.int (x5 + v.1), .ref 10, .int (x4 + v.1), .ref 7], (H0 s v.2))) rfl ?_
  obtain ⟨y339, hy339, h⟩ := bind_eq_some_iff.mp h
  refine zB Ad W (f := fun y339 => (59, [vR 1, none, none, none, vI x4, vI x5, vI v.1], [.int y339, .int (x4 + v.1), .ref 7], (H0 s v.2))) rfl hy339 ?_
  obtain ⟨y340, hy340, h⟩ := bind_eq_some_iff.mp h
  refine zB Ad W (f := fun y340 => (60, [vR 1, none, none, none, vI x4, vI x5, vI v.1], [], (H0x15 s v.2 y340))) rfl hy340 ?_
  refine zS Ad W 2 (st' := (34, [vR 1, none, none, none, vI x4, vI x5, vI (v.1 + (1:Int32))], [], (H0x15 s v.2 y340))) rfl ?_
  have E341 : ((H0x15 s v.2 y340) : QHeap) = (H0 s (s_frontAgg v.2 y340)) := by simp only [fs, H0, H0v, H0x15, s_frontAgg]
  rw [E341]
  obtain rfl := Option.some.inj h
  exact zM [tt,ff,ff,ff,tt,tt,tt] (hc ((v.1 + (1:Int32)), (s_frontAgg v.2 y340)) rfl)
 ·refine zT Ad W (t := 66) (f := 40) rfl (XT.ii_ge_t hc338) ?_
  obtain rfl := Option.some.inj h
  obtain ⟨rfl, rfl⟩ := hx0 v.2 rfl
  exact QTri.ret0 rfl rfl
/-- storeFront(III)V -/
def F37 (o : Ob) (x1 : Int32) (x2 : Int32) (x3 : Int32) : Option (Ob) :=
 (F5 x3).bind fun r333 => (if r333 = (0:Int32) then some o else (F31 x1 x2).bind fun r335 => (if r335 = (0:Int32) then some o else (F33 x1 x2).bind fun r337 => (loopN (B37_34 r337 (x3 * (4:Int32))) qN ((0:Int32), o)).bind fun e342 => some e342))
theorem tF37 (Ad : QAd n0 ad) (W : QW Z a0) (s : List Int32) (o : Ob) (x1 : Int32) (x2 : Int32) (x3 : Int32) {r : Ob} (h : F37 o x1 x2 x3 = some r) : QTri l Z n0 ad 37 (0, qentry [.ref 1, .int x1, .int x2, .int x3] (pMaxL 37), [], (H0 s o)) (none : Option Value) (H0 s r) := by
 unfold F37 at h
 refine zS Ad W 2 (st' := (2, [vR 1, vI x1, vI x2, vI x3, none, none, none], [.int x3, .ref 1], (H0 s o))) rfl ?_
 obtain ⟨r333, hr333, h⟩ := bind_eq_some_iff.mp h
 refine QTri.callP W (a := 1) (as := [.int x3]) (rest := []) (w := (some (.int r333))) (σ₁ := (H0 s o)) rfl rfl rfl rfl rfl rfl rfl rfl (tF5 Ad W x3 hr333) ?_
 rcases qite h with ⟨hc334, h⟩ | ⟨hc334, h⟩
 ·refine zT Ad W (t := 17) (f := 8) rfl (XT.i0_eq_t hc334) ?_
  obtain rfl := Option.some.inj h
  exact QTri.ret0 rfl rfl
 ·refine zF Ad W (t := 17) (f := 8) rfl (XT.i0_eq_f hc334) ?_
  refine zS Ad W 3 (st' := (11, [vR 1, vI x1, vI x2, vI x3, none, none, none], [.int x2, .int x1, .ref 1], (H0 s o))) rfl ?_
  obtain ⟨r335, hr335, h⟩ := bind_eq_some_iff.mp h
  refine QTri.callP W (a := 1) (as := [.int x1, .int x2]) (rest := []) (w := (some (.int r335))) (σ₁ := (H0 s o)) rfl rfl rfl rfl rfl rfl rfl rfl (tF31 Ad W x1 x2 hr335) ?_
  rcases qite h with ⟨hc336, h⟩ | ⟨hc336, h⟩
  ·refine zF Ad W (t := 18) (f := 17) rfl (XT.i0_ne_f hc336) ?_
   obtain rfl := Option.some.inj h
   exact QTri.ret0 rfl rfl
  ·refine zT Ad W (t := 18) (f := 17) rfl (XT.i0_ne_t hc336) ?_
   refine zS Ad W 3 (st' := (21, [vR 1, vI x1, vI x2, vI x3, none, none, none], [.int x2, .int x1, .ref 1], (H0 s o))) rfl ?_
   obtain ⟨r337, hr337, h⟩ := bind_eq_some_iff.mp h
   refine QTri.callP W (a := 1) (as := [.int x1, .int x2]) (rest := []) (w := (some (.int r337))) (σ₁ := (H0 s o)) rfl rfl rfl rfl rfl rfl rfl rfl (tF33 Ad W x1 x2 hr337) ?_
   refine zS Ad W 5 (st' := (31, [vR 1, vI x1, vI x2, vI x3, vI r337, vI (x3 * (4:Int32)), none], [], (H0 s o))) rfl ?_
   refine zS Ad W 2 (st' := (34, [vR 1, vI x1, vI x2, vI x3, vI r337, vI (x3 * (4:Int32)), vI (0:Int32)], [], (H0 s o))) rfl ?_
   obtain ⟨e342, he342, h⟩ := bind_eq_some_iff.mp h
   refine zM [tt,ff,ff,ff,tt,tt,tt] (loopN_tri (B := B37_34 r337 (x3 * (4:Int32))) (T := fun lv343 => QTri l Z n0 ad 37 (34, [vR 1, none, none, none, vI r337, vI (x3 * (4:Int32)), vI lv343.1], [], (H0 s lv343.2)) (none : Option Value) (H0 s r)) (KE := fun e342a => (none : Option Value) = (none : Option Value) ∧ (H0 s r) = (H0 s e342a)) (fun lv343 r hB hE hC => tB37_34 Ad W s r337 (x3 * (4:Int32)) lv343 hB (fun x q => hE _ q) (fun x q => hC x q)) qN ((0:Int32), o) e342 he342 ?_)
   obtain rfl := Option.some.inj h
   exact ⟨rfl, rfl⟩
def B35_23 (x1 : Int32) (x2 : Int32) (v : Int32 × Ob) : Option (((Ob)) ⊕ (Int32 × Ob)) :=
  (if v.1 < x2 then (F36 v.2 (2 : Int32) x1 ((x2 - (1 : Int32)) - v.1)).bind fun r331 => (F28 r331 (1 : Int32) (2 : Int32) (1 : Int32)).bind fun r332 => (F37 r332 x1 v.1 (1 : Int32)).bind fun r344 => some (.inr ((v.1 + (1 : Int32)), r344)) else some (.inl v.2))
theorem tB35_23 (Ad : QAd n0 ad) (W : QW Z a0) (s : List Int32) (x1 : Int32) (x2 : Int32) (v : Int32 × Ob) {r : ((Ob)) ⊕ (Int32 × Ob)} {u : Option Value} {τ : QHeap} (h : B35_23 x1 x2 v = some r) (hx0 : ∀ x : Ob, r = .inl x → QTri l Z n0 ad 35 (59, [vR 1, vI x1, vI x2, none], [], (H0 s x)) u τ) (hc : ∀ x : Int32 × Ob, r = .inr x → QTri l Z n0 ad 35 (23, [vR 1, vI x1, vI x2, vI x.1], [], (H0 s x.2)) u τ) : QTri l Z n0 ad 35 (23, [vR 1, vI x1, vI x2, vI v.1], [], (H0 s v.2)) u τ := by
 unfold B35_23 at h
 refine zS Ad W 2 (st' := (25, [vR 1, vI x1, vI x2, vI v.1], [.int x2, .int v.1], (H0 s v.2))) rfl ?_
 rcases qite h with ⟨hc319, h⟩ | ⟨hc319, h⟩
 ·refine zF Ad W (t := 59) (f := 28) rfl (XT.ii_ge_f hc319) ?_
  refine zS Ad W 8 (st' := (36, [vR 1, vI x1, vI x2, vI v.1], [.int ((x2 - (1:Int32)) - v.1), .int x1, .int (2:Int32), .ref 1], (H0 s v.2))) rfl ?_
  obtain ⟨r331, hr331, h⟩ := bind_eq_some_iff.mp h
  refine QTri.callP W (a := 1) (as := [.int (2:Int32), .int x1, .int ((x2 - (1:Int32)) - v.1)]) (rest := []) (w := none) (σ₁ := (H0 s r331)) rfl rfl rfl rfl rfl rfl rfl rfl (tF36 Ad W s v.2 (2:Int32) x1 ((x2 - (1:Int32)) - v.1) hr331) ?_
  refine zS Ad W 4 (st' := (43, [vR 1, vI x1, vI x2, vI v.1], [.int (1:Int32), .int (2:Int32), .int (1:Int32), .ref 1], (H0 s r331))) rfl ?_
  obtain ⟨r332, hr332, h⟩ := bind_eq_some_iff.mp h
  refine QTri.callP W (a := 1) (as := [.int (1:Int32), .int (2:Int32), .int (1:Int32)]) (rest := []) (w := none) (σ₁ := (H0 s r332)) rfl rfl rfl rfl rfl rfl rfl rfl (tF28 Ad W s r331 (1:Int32) (2:Int32) (1:Int32) hr332) ?_
  refine zS Ad W 4 (st' := (50, [vR 1, vI x1, vI x2, vI v.1], [.int (1:Int32), .int v.1, .int x1, .ref 1], (H0 s r332))) rfl ?_
  obtain ⟨r344, hr344, h⟩ := bind_eq_some_iff.mp h
  refine QTri.callP W (a := 1) (as := [.int x1, .int v.1, .int (1:Int32)]) (rest := []) (w := none) (σ₁ := (H0 s r344)) rfl rfl rfl rfl rfl rfl rfl rfl (tF37 Ad W s r332 x1 v.1 (1:Int32) hr344) ?_
  refine zS Ad W 2 (st' := (23, [vR 1, vI x1, vI x2, vI (v.1 + (1:Int32))], [], (H0 s r344))) rfl ?_
  obtain rfl := Option.some.inj h
  exact zM [tt,tt,tt,tt] (hc ((v.1 + (1:Int32)), r344) rfl)
 ·refine zT Ad W (t := 59) (f := 28) rfl (XT.ii_ge_t hc319) ?_
  obtain rfl := Option.some.inj h
  exact zM [tt,tt,tt,ff] (hx0 v.2 rfl)
/-- flip(I)V -/
def F35 (o : Ob) (x1 : Int32) : Option (Ob) :=
 (aget (f_backSize o) x1).bind fun y314 => (F3 o (1:Int32)).bind fun r318 => (loopN (B35_23 x1 (if (32:Int32) < y314 then (32:Int32) else y314)) qN ((0:Int32), r318)).bind fun e345 => (aset (f_frontSize e345) x1 (if (32:Int32) < y314 then (32:Int32) else y314)).bind fun y347 => (aset (f_backSize e345) x1 (0:Int32)).bind fun y348 => (F3 (s_backSize (s_frontSize e345 y347) y348) (1:Int32)).bind fun r350 => (F6 r350 x1 (1:Int32)).bind fun r351 => some r351
theorem tF35 (Ad : QAd n0 ad) (W : QW Z a0) (s : List Int32) (o : Ob) (x1 : Int32) {r : Ob} (h : F35 o x1 = some r) : QTri l Z n0 ad 35 (0, qentry [.ref 1, .int x1] (pMaxL 35), [], (H0 s o)) (none : Option Value) (H0 s r) := by
 unfold F35 at h
 refine zS Ad W 3 (st' := (5, [vR 1, vI x1, none, none], [.int x1, .ref 5], (H0 s o))) rfl ?_
 obtain ⟨y314, hy314, h⟩ := bind_eq_some_iff.mp h
 refine zB Ad W (f := fun y314 => (6, [vR 1, vI x1, none, none], [.int y314], (H0 s o))) rfl hy314 ?_
 refine zS Ad W 3 (st' := (10, [vR 1, vI x1, vI y314, none], [.int (32:Int32), .int y314], (H0 s o))) rfl ?_
 have K316 : ∀ z315 : Int32, z315 = (if (32:Int32) < y314 then (32:Int32) else y314) → QTri l Z n0 ad 35 (16, [vR 1, vI x1, vI z315, none], [], (H0 s o)) (none : Option Value) (H0 s r) := by
  intro z315 ez315
  subst ez315
  refine zS Ad W 2 (st' := (18, [vR 1, vI x1, vI (if (32:Int32) < y314 then (32:Int32) else y314), none], [.int (1:Int32), .ref 1], (H0 s o))) rfl ?_
  obtain ⟨r318, hr318, h⟩ := bind_eq_some_iff.mp h
  refine QTri.callP W (a := 1) (as := [.int (1:Int32)]) (rest := []) (w := none) (σ₁ := (H0 s r318)) rfl rfl rfl rfl rfl rfl rfl rfl (tF3 Ad W s o (1:Int32) hr318) ?_
  refine zS Ad W 2 (st' := (23, [vR 1, vI x1, vI (if (32:Int32) < y314 then (32:Int32) else y314), vI (0:Int32)], [], (H0 s r318))) rfl ?_
  obtain ⟨e345, he345, h⟩ := bind_eq_some_iff.mp h
  refine zM [tt,tt,tt,tt] (loopN_tri (B := B35_23 x1 (if (32:Int32) < y314 then (32:Int32) else y314)) (T := fun lv346 => QTri l Z n0 ad 35 (23, [vR 1, vI x1, vI (if (32:Int32) < y314 then (32:Int32) else y314), vI lv346.1], [], (H0 s lv346.2)) (none : Option Value) (H0 s r)) (KE := fun e345a => QTri l Z n0 ad 35 (59, [vR 1, vI x1, vI (if (32:Int32) < y314 then (32:Int32) else y314), none], [], (H0 s e345a)) (none : Option Value) (H0 s r)) (fun lv346 r hB hE hC => tB35_23 Ad W s x1 (if (32:Int32) < y314 then (32:Int32) else y314) lv346 hB (fun x q => hE _ q) (fun x q => hC x q)) qN ((0:Int32), r318) e345 he345 ?_)
  refine zS Ad W 4 (st' := (65, [vR 1, vI x1, vI (if (32:Int32) < y314 then (32:Int32) else y314), none], [.int (if (32:Int32) < y314 then (32:Int32) else y314), .int x1, .ref 4], (H0 s e345))) rfl ?_
  obtain ⟨y347, hy347, h⟩ := bind_eq_some_iff.mp h
  refine zB Ad W (f := fun y347 => (66, [vR 1, vI x1, vI (if (32:Int32) < y314 then (32:Int32) else y314), none], [], (H0x4 s e345 y347))) rfl hy347 ?_
  refine zS Ad W 4 (st' := (72, [vR 1, vI x1, vI (if (32:Int32) < y314 then (32:Int32) else y314), none], [.int (0:Int32), .int x1, .ref 5], (H0x4 s e345 y347))) rfl ?_
  obtain ⟨y348, hy348, h⟩ := bind_eq_some_iff.mp h
  refine zB Ad W (f := fun y348 => (73, [vR 1, vI x1, vI (if (32:Int32) < y314 then (32:Int32) else y314), none], [], (H0x5 s e345 y347 y348))) rfl hy348 ?_
  refine zS Ad W 2 (st' := (75, [vR 1, vI x1, vI (if (32:Int32) < y314 then (32:Int32) else y314), none], [.int (1:Int32), .ref 1], (H0x5 s e345 y347 y348))) rfl ?_
  have E349 : ((H0x5 s e345 y347 y348) : QHeap) = (H0 s (s_backSize (s_frontSize e345 y347) y348)) := by simp only [fs, H0, H0v, H0x5, s_frontSize, s_backSize]
  rw [E349]
  obtain ⟨r350, hr350, h⟩ := bind_eq_some_iff.mp h
  refine QTri.callP W (a := 1) (as := [.int (1:Int32)]) (rest := []) (w := none) (σ₁ := (H0 s r350)) rfl rfl rfl rfl rfl rfl rfl rfl (tF3 Ad W s (s_backSize (s_frontSize e345 y347) y348) (1:Int32) hr350) ?_
  refine zS Ad W 3 (st' := (81, [vR 1, vI x1, vI (if (32:Int32) < y314 then (32:Int32) else y314), none], [.int (1:Int32), .int x1, .ref 1], (H0 s r350))) rfl ?_
  obtain ⟨r351, hr351, h⟩ := bind_eq_some_iff.mp h
  refine QTri.callP W (a := 1) (as := [.int x1, .int (1:Int32)]) (rest := []) (w := none) (σ₁ := (H0 s r351)) rfl rfl rfl rfl rfl rfl rfl rfl (tF6 Ad W s r350 x1 (1:Int32) hr351) ?_
  obtain rfl := Option.some.inj h
  exact QTri.ret0 rfl rfl
 rcases em ((32:Int32) < y314) with hc317 | hc317
 ·refine zF Ad W (t := 16) (f := 13) rfl (XT.ii_le_f hc317) ?_
  refine zS Ad W 2 (st' := (16, [vR 1, vI x1, vI (32:Int32), none], [], (H0 s o))) rfl ?_
  exact zM [tt,tt,tt,ff] (K316 _ (if_pos hc317).symm)
 ·refine zT Ad W (t := 16) (f := 13) rfl (XT.ii_le_t hc317) ?_
  exact zM [tt,tt,tt,ff] (K316 _ (if_neg hc317).symm)
def J34_14 (o : Ob) (x1 : Int32) : Option (Ob) :=
  (aget (f_frontSize o) x1).bind fun y353 => (if (0 : Int32) < y353 then (aget (f_frontSize o) x1).bind fun y355 => (aset (f_frontSize o) x1 (y355 - (1 : Int32))).bind fun y356 => some (s_frontSize o y356) else some o)
theorem tJ34_14 (Ad : QAd n0 ad) (W : QW Z a0) (s : List Int32) (o : Ob) (x1 : Int32) {r : Ob} (h : J34_14 o x1 = some r) : QTri l Z n0 ad 34 (14, [vR 1, vI x1], [], (H0 s o)) (none : Option Value) (H0 s r) := by
 unfold J34_14 at h
 refine zS Ad W 3 (st' := (19, [vR 1, vI x1], [.int x1, .ref 4], (H0 s o))) rfl ?_
 obtain ⟨y353, hy353, h⟩ := bind_eq_some_iff.mp h
 refine zB Ad W (f := fun y353 => (20, [vR 1, vI x1], [.int y353], (H0 s o))) rfl hy353 ?_
 rcases qite h with ⟨hc354, h⟩ | ⟨hc354, h⟩
 ·refine zF Ad W (t := 37) (f := 23) rfl (XT.i0_le_f hc354) ?_
  refine zS Ad W 6 (st' := (33, [vR 1, vI x1], [.int x1, .ref 4, .int x1, .ref 4], (H0 s o))) rfl ?_
  obtain ⟨y355, hy355, h⟩ := bind_eq_some_iff.mp h
  refine zB Ad W (f := fun y355 => (34, [vR 1, vI x1], [.int y355, .int x1, .ref 4], (H0 s o))) rfl hy355 ?_
  refine zS Ad W 2 (st' := (36, [vR 1, vI x1], [.int (y355 - (1:Int32)), .int x1, .ref 4], (H0 s o))) rfl ?_
  obtain ⟨y356, hy356, h⟩ := bind_eq_some_iff.mp h
  refine zB Ad W (f := fun y356 => (37, [vR 1, vI x1], [], (H0x4 s o y356))) rfl hy356 ?_
  have E357 : ((H0x4 s o y356) : QHeap) = (H0 s (s_frontSize o y356)) := by simp only [fs, H0, H0v, H0x4, s_frontSize]
  rw [E357]
  obtain rfl := Option.some.inj h
  exact QTri.ret0 rfl rfl
 ·refine zT Ad W (t := 37) (f := 23) rfl (XT.i0_le_t hc354) ?_
  obtain rfl := Option.some.inj h
  exact QTri.ret0 rfl rfl
/-- evictOldest(I)V -/
def F34 (o : Ob) (x1 : Int32) : Option (Ob) :=
 (aget (f_frontSize o) x1).bind fun y312 => (if y312 = (0:Int32) then (F35 o x1).bind fun r352 => (J34_14 r352 x1) else (J34_14 o x1))
theorem tF34 (Ad : QAd n0 ad) (W : QW Z a0) (s : List Int32) (o : Ob) (x1 : Int32) {r : Ob} (h : F34 o x1 = some r) : QTri l Z n0 ad 34 (0, qentry [.ref 1, .int x1] (pMaxL 34), [], (H0 s o)) (none : Option Value) (H0 s r) := by
 unfold F34 at h
 refine zS Ad W 3 (st' := (5, [vR 1, vI x1], [.int x1, .ref 4], (H0 s o))) rfl ?_
 obtain ⟨y312, hy312, h⟩ := bind_eq_some_iff.mp h
 refine zB Ad W (f := fun y312 => (6, [vR 1, vI x1], [.int y312], (H0 s o))) rfl hy312 ?_
 rcases qite h with ⟨hc313, h⟩ | ⟨hc313, h⟩
 ·refine zF Ad W (t := 14) (f := 9) rfl (XT.i0_ne_f hc313) ?_
  refine zS Ad W 2 (st' := (11, [vR 1, vI x1], [.int x1, .ref 1], (H0 s o))) rfl ?_
  obtain ⟨r352, hr352, h⟩ := bind_eq_some_iff.mp h
  refine QTri.callP W (a := 1) (as := [.int x1]) (rest := []) (w := none) (σ₁ := (H0 s r352)) rfl rfl rfl rfl rfl rfl rfl rfl (tF35 Ad W s o x1 hr352) ?_
  exact zM [tt,tt] (tJ34_14 Ad W s r352 x1 h)
 ·refine zT Ad W (t := 14) (f := 9) rfl (XT.i0_ne_t hc313) ?_
  exact zM [tt,tt] (tJ34_14 Ad W s o x1 h)
/-- appendToQuery(I)V -/
def F30 (o : Ob) (x1 : Int32) : Option (Ob) :=
 (if x1 < (0:Int32) then some o else (if x1 < (4:Int32) then (aget (f_frontSize o) x1).bind fun y288 => (aget (f_backSize o) x1).bind fun y289 => (aget (f_range o) x1).bind fun y290 => (if (y288 + y289) < y290 then (J30_39 o x1) else (F34 o x1).bind fun r358 => (J30_39 r358 x1)) else some o))
theorem tF30 (Ad : QAd n0 ad) (W : QW Z a0) (s : List Int32) (o : Ob) (x1 : Int32) {r : Ob} (h : F30 o x1 = some r) : QTri l Z n0 ad 30 (0, qentry [.ref 1, .int x1] (pMaxL 30), [], (H0 s o)) (none : Option Value) (H0 s r) := by
 unfold F30 at h
 refine zS Ad W 1 (st' := (1, [vR 1, vI x1, none, none], [.int x1], (H0 s o))) rfl ?_
 rcases qite h with ⟨hc286, h⟩ | ⟨hc286, h⟩
 ·refine zT Ad W (t := 9) (f := 4) rfl (XT.i0_lt_t hc286) ?_
  obtain rfl := Option.some.inj h
  exact QTri.ret0 rfl rfl
 ·refine zF Ad W (t := 9) (f := 4) rfl (XT.i0_lt_f hc286) ?_
  refine zS Ad W 2 (st' := (6, [vR 1, vI x1, none, none], [.int (4:Int32), .int x1], (H0 s o))) rfl ?_
  rcases qite h with ⟨hc287, h⟩ | ⟨hc287, h⟩
  ·refine zT Ad W (t := 10) (f := 9) rfl (XT.ii_lt_t hc287) ?_
   refine zS Ad W 3 (st' := (15, [vR 1, vI x1, none, none], [.int x1, .ref 4], (H0 s o))) rfl ?_
   obtain ⟨y288, hy288, h⟩ := bind_eq_some_iff.mp h
   refine zB Ad W (f := fun y288 => (16, [vR 1, vI x1, none, none], [.int y288], (H0 s o))) rfl hy288 ?_
   refine zS Ad W 3 (st' := (21, [vR 1, vI x1, none, none], [.int x1, .ref 5, .int y288], (H0 s o))) rfl ?_
   obtain ⟨y289, hy289, h⟩ := bind_eq_some_iff.mp h
   refine zB Ad W (f := fun y289 => (22, [vR 1, vI x1, none, none], [.int y289, .int y288], (H0 s o))) rfl hy289 ?_
   refine zS Ad W 6 (st' := (30, [vR 1, vI x1, vI (y288 + y289), none], [.int x1, .ref 2, .int (y288 + y289)], (H0 s o))) rfl ?_
   obtain ⟨y290, hy290, h⟩ := bind_eq_some_iff.mp h
   refine zB Ad W (f := fun y290 => (31, [vR 1, vI x1, vI (y288 + y289), none], [.int y290, .int (y288 + y289)], (H0 s o))) rfl hy290 ?_
   rcases qite h with ⟨hc291, h⟩ | ⟨hc291, h⟩
   ·refine zT Ad W (t := 39) (f := 34) rfl (XT.ii_lt_t hc291) ?_
    exact zM [tt,tt,ff,ff] (tJ30_39 Ad W s o x1 h)
   ·refine zF Ad W (t := 39) (f := 34) rfl (XT.ii_lt_f hc291) ?_
    refine zS Ad W 2 (st' := (36, [vR 1, vI x1, vI (y288 + y289), none], [.int x1, .ref 1], (H0 s o))) rfl ?_
    obtain ⟨r358, hr358, h⟩ := bind_eq_some_iff.mp h
    refine QTri.callP W (a := 1) (as := [.int x1]) (rest := []) (w := none) (σ₁ := (H0 s r358)) rfl rfl rfl rfl rfl rfl rfl rfl (tF34 Ad W s o x1 hr358) ?_
    exact zM [tt,tt,ff,ff] (tJ30_39 Ad W s r358 x1 h)
  ·refine zF Ad W (t := 10) (f := 9) rfl (XT.ii_lt_f hc287) ?_
   obtain rfl := Option.some.inj h
   exact QTri.ret0 rfl rfl
def J9_75 (o : Ob) (x5 : Int32) (x6 : Int32) : Option (((Int32 × Ob)) ⊕ (Int32 × Int32 × Ob)) :=
  some (.inr (x5, (x6 + (1 : Int32)), o))
theorem tJ9_75 (Ad : QAd n0 ad) (W : QW Z a0) (s : List Int32) (o : Ob) (x5 : Int32) (x6 : Int32) {r : ((Int32 × Ob)) ⊕ (Int32 × Int32 × Ob)} {u : Option Value} {τ : QHeap} (h : J9_75 o x5 x6 = some r) (hx0 : ∀ x : Int32 × Ob, r = .inl x → u = (some (Value.int x.1)) ∧ τ = (H0 s x.2)) (hc : ∀ x : Int32 × Int32 × Ob, r = .inr x → QTri l Z n0 ad 9 (26, [vR 1, none, none, none, none, vI x.1, vI x.2.1, none], [], (H0 s x.2.2)) u τ) : QTri l Z n0 ad 9 (75, [vR 1, none, none, none, none, vI x5, vI x6, none], [], (H0 s o)) u τ := by
 unfold J9_75 at h
 refine zS Ad W 2 (st' := (26, [vR 1, none, none, none, none, vI x5, vI (x6 + (1:Int32)), none], [], (H0 s o))) rfl ?_
 obtain rfl := Option.some.inj h
 exact zM [tt,ff,ff,ff,ff,tt,tt,ff] (hc (x5, (x6 + (1:Int32)), o) rfl)
/-- takeSnapshot(I)V -/
def F38 (o : Ob) (x1 : Int32) : Option (Ob) :=
 (F26 o x1 (3:Int32)).bind fun r364 => (F7 r364 x1 (3:Int32)).bind fun r365 => some r365
theorem tF38 (Ad : QAd n0 ad) (W : QW Z a0) (s : List Int32) (o : Ob) (x1 : Int32) {r : Ob} (h : F38 o x1 = some r) : QTri l Z n0 ad 38 (0, qentry [.ref 1, .int x1] (pMaxL 38), [], (H0 s o)) (none : Option Value) (H0 s r) := by
 unfold F38 at h
 refine zS Ad W 3 (st' := (3, [vR 1, vI x1], [.int (3:Int32), .int x1, .ref 1], (H0 s o))) rfl ?_
 obtain ⟨r364, hr364, h⟩ := bind_eq_some_iff.mp h
 refine QTri.callP W (a := 1) (as := [.int x1, .int (3:Int32)]) (rest := []) (w := none) (σ₁ := (H0 s r364)) rfl rfl rfl rfl rfl rfl rfl rfl (tF26 Ad W s o x1 (3:Int32) hr364) ?_
 refine zS Ad W 3 (st' := (9, [vR 1, vI x1], [.int (3:Int32), .int x1, .ref 1], (H0 s r364))) rfl ?_
 obtain ⟨r365, hr365, h⟩ := bind_eq_some_iff.mp h
 refine QTri.callP W (a := 1) (as := [.int x1, .int (3:Int32)]) (rest := []) (w := none) (σ₁ := (H0 s r365)) rfl rfl rfl rfl rfl rfl rfl rfl (tF7 Ad W s r364 x1 (3:Int32) hr365) ?_
 obtain rfl := Option.some.inj h
 exact QTri.ret0 rfl rfl
def B9_26 (v : Int32 × Int32 × Ob) : Option (((Int32 × Ob)) ⊕ (Int32 × Int32 × Ob)) :=
  (if v.2.1 < (f_queries v.2.2) then (F30 v.2.2 v.2.1).bind fun r359 => (aget (f_slide r359) v.2.1).bind fun y360 => (if y360 < (1 : Int32) then (J9_75 r359 v.1 v.2.1) else (qrem (f_n r359) y360).bind fun y362 => (if y362 = (0 : Int32) then (F38 r359 v.2.1).bind fun r366 => (J9_75 r366 (v.1 + (1 : Int32)) v.2.1) else (J9_75 r359 v.1 v.2.1))) else some (.inl (v.1, v.2.2)))
theorem tB9_26 (Ad : QAd n0 ad) (W : QW Z a0) (s : List Int32) (v : Int32 × Int32 × Ob) {r : ((Int32 × Ob)) ⊕ (Int32 × Int32 × Ob)} {u : Option Value} {τ : QHeap} (h : B9_26 v = some r) (hx0 : ∀ x : Int32 × Ob, r = .inl x → u = (some (Value.int x.1)) ∧ τ = (H0 s x.2)) (hc : ∀ x : Int32 × Int32 × Ob, r = .inr x → QTri l Z n0 ad 9 (26, [vR 1, none, none, none, none, vI x.1, vI x.2.1, none], [], (H0 s x.2.2)) u τ) : QTri l Z n0 ad 9 (26, [vR 1, none, none, none, none, vI v.1, vI v.2.1, none], [], (H0 s v.2.2)) u τ := by
 unfold B9_26 at h
 refine zS Ad W 3 (st' := (32, [vR 1, none, none, none, none, vI v.1, vI v.2.1, none], [.int (f_queries v.2.2), .int v.2.1], (H0 s v.2.2))) rfl ?_
 rcases qite h with ⟨hc285, h⟩ | ⟨hc285, h⟩
 ·refine zF Ad W (t := 81) (f := 35) rfl (XT.ii_ge_f hc285) ?_
  refine zS Ad W 2 (st' := (38, [vR 1, none, none, none, none, vI v.1, vI v.2.1, none], [.int v.2.1, .ref 1], (H0 s v.2.2))) rfl ?_
  obtain ⟨r359, hr359, h⟩ := bind_eq_some_iff.mp h
  refine QTri.callP W (a := 1) (as := [.int v.2.1]) (rest := []) (w := none) (σ₁ := (H0 s r359)) rfl rfl rfl rfl rfl rfl rfl rfl (tF30 Ad W s v.2.2 v.2.1 hr359) ?_
  refine zS Ad W 3 (st' := (47, [vR 1, none, none, none, none, vI v.1, vI v.2.1, none], [.int v.2.1, .ref 3], (H0 s r359))) rfl ?_
  obtain ⟨y360, hy360, h⟩ := bind_eq_some_iff.mp h
  refine zB Ad W (f := fun y360 => (48, [vR 1, none, none, none, none, vI v.1, vI v.2.1, none], [.int y360], (H0 s r359))) rfl hy360 ?_
  refine zS Ad W 3 (st' := (53, [vR 1, none, none, none, none, vI v.1, vI v.2.1, vI y360], [.int (1:Int32), .int y360], (H0 s r359))) rfl ?_
  rcases qite h with ⟨hc361, h⟩ | ⟨hc361, h⟩
  ·refine zT Ad W (t := 75) (f := 56) rfl (XT.ii_lt_t hc361) ?_
   exact zM [tt,ff,ff,ff,ff,tt,tt,ff] (tJ9_75 Ad W s r359 v.1 v.2.1 h hx0 hc)
  ·refine zF Ad W (t := 75) (f := 56) rfl (XT.ii_lt_f hc361) ?_
   refine zS Ad W 3 (st' := (62, [vR 1, none, none, none, none, vI v.1, vI v.2.1, vI y360], [.int y360, .int (f_n r359)], (H0 s r359))) rfl ?_
   obtain ⟨y362, hy362, h⟩ := bind_eq_some_iff.mp h
   refine zB Ad W (f := fun y362 => (63, [vR 1, none, none, none, none, vI v.1, vI v.2.1, vI y360], [.int y362], (H0 s r359))) rfl hy362 ?_
   rcases qite h with ⟨hc363, h⟩ | ⟨hc363, h⟩
   ·refine zF Ad W (t := 75) (f := 66) rfl (XT.i0_ne_f hc363) ?_
    refine zS Ad W 2 (st' := (69, [vR 1, none, none, none, none, vI v.1, vI v.2.1, vI y360], [.int v.2.1, .ref 1], (H0 s r359))) rfl ?_
    obtain ⟨r366, hr366, h⟩ := bind_eq_some_iff.mp h
    refine QTri.callP W (a := 1) (as := [.int v.2.1]) (rest := []) (w := none) (σ₁ := (H0 s r366)) rfl rfl rfl rfl rfl rfl rfl rfl (tF38 Ad W s r359 v.2.1 hr366) ?_
    refine zS Ad W 1 (st' := (75, [vR 1, none, none, none, none, vI (v.1 + (1:Int32)), vI v.2.1, vI y360], [], (H0 s r366))) rfl ?_
    exact zM [tt,ff,ff,ff,ff,tt,tt,ff] (tJ9_75 Ad W s r366 (v.1 + (1:Int32)) v.2.1 h hx0 hc)
   ·refine zT Ad W (t := 75) (f := 66) rfl (XT.i0_ne_t hc363) ?_
    exact zM [tt,ff,ff,ff,ff,tt,tt,ff] (tJ9_75 Ad W s r359 v.1 v.2.1 h hx0 hc)
 ·refine zT Ad W (t := 81) (f := 35) rfl (XT.ii_ge_t hc285) ?_
  refine zS Ad W 1 (st' := (83, [vR 1, none, none, none, none, vI v.1, vI v.2.1, none], [.int v.1], (H0 s v.2.2))) rfl ?_
  obtain rfl := Option.some.inj h
  obtain ⟨rfl, rfl⟩ := hx0 (v.1, v.2.2) rfl
  exact QTri.retI rfl rfl
/-- push(IIII)I -/
def F9 (o : Ob) (x1 : Int32) (x2 : Int32) (x3 : Int32) (x4 : Int32) : Option (Int32 × Ob) :=
 (F4 (s_n o ((f_n o) + (1:Int32))) (0:Int32) x1 x2 x3 x4).bind fun r284 => (loopN (B9_26) qN ((0:Int32), (0:Int32), r284)).bind fun e367 => some e367
theorem tF9 (Ad : QAd n0 ad) (W : QW Z a0) (s : List Int32) (o : Ob) (x1 : Int32) (x2 : Int32) (x3 : Int32) (x4 : Int32) {r : Int32 × Ob} (h : F9 o x1 x2 x3 x4 = some r) : QTri l Z n0 ad 9 (0, qentry [.ref 1, .int x1, .int x2, .int x3, .int x4] (pMaxL 9), [], (H0 s o)) (some (Value.int r.1)) (H0 s r.2) := by
 unfold F9 at h
 refine zS Ad W 6 (st' := (10, [vR 1, vI x1, vI x2, vI x3, vI x4, none, none, none], [], (H0x12 s o ((f_n o) + (1:Int32))))) rfl ?_
 refine zS Ad W 6 (st' := (17, [vR 1, vI x1, vI x2, vI x3, vI x4, none, none, none], [.int x4, .int x3, .int x2, .int x1, .int (0:Int32), .ref 1], (H0x12 s o ((f_n o) + (1:Int32))))) rfl ?_
 have E283 : ((H0x12 s o ((f_n o) + (1:Int32))) : QHeap) = (H0 s (s_n o ((f_n o) + (1:Int32)))) := by simp only [fs, H0, H0v, H0x12, s_n]
 rw [E283]
 obtain ⟨r284, hr284, h⟩ := bind_eq_some_iff.mp h
 refine QTri.callP W (a := 1) (as := [.int (0:Int32), .int x1, .int x2, .int x3, .int x4]) (rest := []) (w := none) (σ₁ := (H0 s r284)) rfl rfl rfl rfl rfl rfl rfl rfl (tF4 Ad W s (s_n o ((f_n o) + (1:Int32))) (0:Int32) x1 x2 x3 x4 hr284) ?_
 refine zS Ad W 4 (st' := (26, [vR 1, vI x1, vI x2, vI x3, vI x4, vI (0:Int32), vI (0:Int32), none], [], (H0 s r284))) rfl ?_
 obtain ⟨e367, he367, h⟩ := bind_eq_some_iff.mp h
 refine zM [tt,ff,ff,ff,ff,tt,tt,ff] (loopN_tri (B := B9_26) (T := fun lv368 => QTri l Z n0 ad 9 (26, [vR 1, none, none, none, none, vI lv368.1, vI lv368.2.1, none], [], (H0 s lv368.2.2)) (some (Value.int r.1)) (H0 s r.2)) (KE := fun e367a => (some (Value.int r.1)) = (some (Value.int e367a.1)) ∧ (H0 s r.2) = (H0 s e367a.2)) (fun lv368 r hB hE hC => tB9_26 Ad W s lv368 hB (fun x q => hE _ q) (fun x q => hC x q)) qN ((0:Int32), (0:Int32), r284) e367 he367 ?_)
 obtain rfl := Option.some.inj h
 exact ⟨rfl, rfl⟩
def B22_7 (v : Int32 × Ob) : Option (((Ob)) ⊕ (Int32 × Ob)) :=
  (if v.1 < (4 : Int32) then (F2 v.2 v.1).bind fun r373 => some (.inr ((v.1 + (1 : Int32)), r373)) else some (.inl v.2))
theorem tB22_7 (Ad : QAd n0 ad) (W : QW Z a0) (s : List Int32) (v : Int32 × Ob) {r : ((Ob)) ⊕ (Int32 × Ob)} {u : Option Value} {τ : QHeap} (h : B22_7 v = some r) (hx0 : ∀ x : Ob, r = .inl x → u = (none : Option Value) ∧ τ = (H0 s x)) (hc : ∀ x : Int32 × Ob, r = .inr x → QTri l Z n0 ad 22 (7, [vR 1, vI x.1], [], (H0 s x.2)) u τ) : QTri l Z n0 ad 22 (7, [vR 1, vI v.1], [], (H0 s v.2)) u τ := by
 unfold B22_7 at h
 refine zS Ad W 2 (st' := (9, [vR 1, vI v.1], [.int (4:Int32), .int v.1], (H0 s v.2))) rfl ?_
 rcases qite h with ⟨hc372, h⟩ | ⟨hc372, h⟩
 ·refine zF Ad W (t := 23) (f := 12) rfl (XT.ii_ge_f hc372) ?_
  refine zS Ad W 2 (st' := (14, [vR 1, vI v.1], [.int v.1, .ref 1], (H0 s v.2))) rfl ?_
  obtain ⟨r373, hr373, h⟩ := bind_eq_some_iff.mp h
  refine QTri.callP W (a := 1) (as := [.int v.1]) (rest := []) (w := none) (σ₁ := (H0 s r373)) rfl rfl rfl rfl rfl rfl rfl rfl (tF2 Ad W s v.2 v.1 hr373) ?_
  refine zS Ad W 2 (st' := (7, [vR 1, vI (v.1 + (1:Int32))], [], (H0 s r373))) rfl ?_
  obtain rfl := Option.some.inj h
  exact zM [tt,tt] (hc ((v.1 + (1:Int32)), r373) rfl)
 ·refine zT Ad W (t := 23) (f := 12) rfl (XT.ii_ge_t hc372) ?_
  obtain rfl := Option.some.inj h
  obtain ⟨rfl, rfl⟩ := hx0 v.2 rfl
  exact QTri.ret0 rfl rfl
/-- clearStream()V -/
def F22 (o : Ob) : Option (Ob) :=
 (loopN (B22_7) qN ((0:Int32), (s_n o (0:Int32)))).bind fun e374 => some e374
theorem tF22 (Ad : QAd n0 ad) (W : QW Z a0) (s : List Int32) (o : Ob) {r : Ob} (h : F22 o = some r) : QTri l Z n0 ad 22 (0, qentry [.ref 1] (pMaxL 22), [], (H0 s o)) (none : Option Value) (H0 s r) := by
 unfold F22 at h
 refine zS Ad W 3 (st' := (5, [vR 1, none], [], (H0x12 s o (0:Int32)))) rfl ?_
 refine zS Ad W 2 (st' := (7, [vR 1, vI (0:Int32)], [], (H0x12 s o (0:Int32)))) rfl ?_
 have E371 : ((H0x12 s o (0:Int32)) : QHeap) = (H0 s (s_n o (0:Int32))) := by simp only [fs, H0, H0v, H0x12, s_n]
 rw [E371]
 obtain ⟨e374, he374, h⟩ := bind_eq_some_iff.mp h
 refine zM [tt,tt] (loopN_tri (B := B22_7) (T := fun lv375 => QTri l Z n0 ad 22 (7, [vR 1, vI lv375.1], [], (H0 s lv375.2)) (none : Option Value) (H0 s r)) (KE := fun e374a => (none : Option Value) = (none : Option Value) ∧ (H0 s r) = (H0 s e374a)) (fun lv375 r hB hE hC => tB22_7 Ad W s lv375 hB (fun x q => hE _ q) (fun x q => hC x q)) qN ((0:Int32), (s_n o (0:Int32))) e374 he374 ?_)
 obtain rfl := Option.some.inj h
 exact ⟨rfl, rfl⟩
def B0_92 (s : List Int32) (x1 : Int32) (v : Int32 × Int32 × Int32 × Int32 × Int32 × Int32 × Int32 × Int32 × Int32 × Int32 × Int32 × Int32 × Int32 × Int32 × Int32 × Int32 × Int32 × Int32 × Int32 × Ob) : Option (((Int32 × QHeap)) ⊕ (Int32 × Int32 × Int32 × Int32 × Int32 × Int32 × Int32 × Int32 × Int32 × Int32 × Int32 × Int32 × Int32 × Int32 × Int32 × Int32 × Int32 × Int32 × Int32 × Ob)) :=
  (if (v.2.2.2.2.2.2.2.2.2.2.2.2.2.2.2.2.2.2.1 + (4 : Int32)) < (s.length.toInt32) then (aget s v.2.2.2.2.2.2.2.2.2.2.2.2.2.2.2.2.2.2.1).bind fun y60 => (if (y60 &&& (7 : Int32)) < (2 : Int32) then (aget s (v.2.2.2.2.2.2.2.2.2.2.2.2.2.2.2.2.2.2.1 + (1 : Int32))).bind fun y62 => (aget s (v.2.2.2.2.2.2.2.2.2.2.2.2.2.2.2.2.2.2.1 + (2 : Int32))).bind fun y64 => (if v.2.1 = (0 : Int32) then (if v.1 < x1 then (if ((y62 &&& (2147483647 : Int32)) % (34 : Int32)) < (1 : Int32) then (J0_244 s v.2.2.2.2.2.2.2.2.2.2.2.2.2.2.2.2.2.2.2 x1 v.1 v.2.1 v.2.2.1 v.2.2.2.1 v.2.2.2.2.1 v.2.2.2.2.2.1 v.2.2.2.2.2.2.1 v.2.2.2.2.2.2.2.1 v.2.2.2.2.2.2.2.2.1 v.2.2.2.2.2.2.2.2.2.1 v.2.2.2.2.2.2.2.2.2.2.1 v.2.2.2.2.2.2.2.2.2.2.2.1 v.2.2.2.2.2.2.2.2.2.2.2.2.1 v.2.2.2.2.2.2.2.2.2.2.2.2.2.1 v.2.2.2.2.2.2.2.2.2.2.2.2.2.2.1 v.2.2.2.2.2.2.2.2.2.2.2.2.2.2.2.1 v.2.2.2.2.2.2.2.2.2.2.2.2.2.2.2.2.1 v.2.2.2.2.2.2.2.2.2.2.2.2.2.2.2.2.2.1 v.2.2.2.2.2.2.2.2.2.2.2.2.2.2.2.2.2.2.1 ((y62 &&& (2147483647 : Int32)) % (34 : Int32)) ((y64 &&& (2147483647 : Int32)) % (34 : Int32)) (-1 : Int32)) else (if (32 : Int32) < ((y62 &&& (2147483647 : Int32)) % (34 : Int32)) then (J0_244 s v.2.2.2.2.2.2.2.2.2.2.2.2.2.2.2.2.2.2.2 x1 v.1 v.2.1 v.2.2.1 v.2.2.2.1 v.2.2.2.2.1 v.2.2.2.2.2.1 v.2.2.2.2.2.2.1 v.2.2.2.2.2.2.2.1 v.2.2.2.2.2.2.2.2.1 v.2.2.2.2.2.2.2.2.2.1 v.2.2.2.2.2.2.2.2.2.2.1 v.2.2.2.2.2.2.2.2.2.2.2.1 v.2.2.2.2.2.2.2.2.2.2.2.2.1 v.2.2.2.2.2.2.2.2.2.2.2.2.2.1 v.2.2.2.2.2.2.2.2.2.2.2.2.2.2.1 v.2.2.2.2.2.2.2.2.2.2.2.2.2.2.2.1 v.2.2.2.2.2.2.2.2.2.2.2.2.2.2.2.2.1 v.2.2.2.2.2.2.2.2.2.2.2.2.2.2.2.2.2.1 v.2.2.2.2.2.2.2.2.2.2.2.2.2.2.2.2.2.2.1 ((y62 &&& (2147483647 : Int32)) % (34 : Int32)) ((y64 &&& (2147483647 : Int32)) % (34 : Int32)) (-1 : Int32)) else (if ((y64 &&& (2147483647 : Int32)) % (34 : Int32)) < (1 : Int32) then (J0_244 s v.2.2.2.2.2.2.2.2.2.2.2.2.2.2.2.2.2.2.2 x1 v.1 v.2.1 v.2.2.1 v.2.2.2.1 v.2.2.2.2.1 v.2.2.2.2.2.1 v.2.2.2.2.2.2.1 v.2.2.2.2.2.2.2.1 v.2.2.2.2.2.2.2.2.1 v.2.2.2.2.2.2.2.2.2.1 v.2.2.2.2.2.2.2.2.2.2.1 v.2.2.2.2.2.2.2.2.2.2.2.1 v.2.2.2.2.2.2.2.2.2.2.2.2.1 v.2.2.2.2.2.2.2.2.2.2.2.2.2.1 v.2.2.2.2.2.2.2.2.2.2.2.2.2.2.1 v.2.2.2.2.2.2.2.2.2.2.2.2.2.2.2.1 v.2.2.2.2.2.2.2.2.2.2.2.2.2.2.2.2.1 v.2.2.2.2.2.2.2.2.2.2.2.2.2.2.2.2.2.1 v.2.2.2.2.2.2.2.2.2.2.2.2.2.2.2.2.2.2.1 ((y62 &&& (2147483647 : Int32)) % (34 : Int32)) ((y64 &&& (2147483647 : Int32)) % (34 : Int32)) (-1 : Int32)) else (J0_244 s v.2.2.2.2.2.2.2.2.2.2.2.2.2.2.2.2.2.2.2 x1 (if (32 : Int32) < ((y64 &&& (2147483647 : Int32)) % (34 : Int32)) then v.1 else (v.1 + (1 : Int32))) v.2.1 (if (32 : Int32) < ((y64 &&& (2147483647 : Int32)) % (34 : Int32)) then v.2.2.1 else (if v.1 = (0 : Int32) then ((y62 &&& (2147483647 : Int32)) % (34 : Int32)) else v.2.2.1)) (if (32 : Int32) < ((y64 &&& (2147483647 : Int32)) % (34 : Int32)) then v.2.2.2.1 else (if v.1 = (0 : Int32) then v.2.2.2.1 else (if v.1 = (1 : Int32) then ((y62 &&& (2147483647 : Int32)) % (34 : Int32)) else v.2.2.2.1))) (if (32 : Int32) < ((y64 &&& (2147483647 : Int32)) % (34 : Int32)) then v.2.2.2.2.1 else (if v.1 = (0 : Int32) then v.2.2.2.2.1 else (if v.1 = (1 : Int32) then v.2.2.2.2.1 else (if v.1 = (2 : Int32) then ((y62 &&& (2147483647 : Int32)) % (34 : Int32)) else v.2.2.2.2.1)))) (if (32 : Int32) < ((y64 &&& (2147483647 : Int32)) % (34 : Int32)) then v.2.2.2.2.2.1 else (if v.1 = (0 : Int32) then v.2.2.2.2.2.1 else (if v.1 = (1 : Int32) then v.2.2.2.2.2.1 else (if v.1 = (2 : Int32) then v.2.2.2.2.2.1 else ((y62 &&& (2147483647 : Int32)) % (34 : Int32)))))) (if (32 : Int32) < ((y64 &&& (2147483647 : Int32)) % (34 : Int32)) then v.2.2.2.2.2.2.1 else (if v.1 = (0 : Int32) then ((y64 &&& (2147483647 : Int32)) % (34 : Int32)) else v.2.2.2.2.2.2.1)) (if (32 : Int32) < ((y64 &&& (2147483647 : Int32)) % (34 : Int32)) then v.2.2.2.2.2.2.2.1 else (if v.1 = (0 : Int32) then v.2.2.2.2.2.2.2.1 else (if v.1 = (1 : Int32) then ((y64 &&& (2147483647 : Int32)) % (34 : Int32)) else v.2.2.2.2.2.2.2.1))) (if (32 : Int32) < ((y64 &&& (2147483647 : Int32)) % (34 : Int32)) then v.2.2.2.2.2.2.2.2.1 else (if v.1 = (0 : Int32) then v.2.2.2.2.2.2.2.2.1 else (if v.1 = (1 : Int32) then v.2.2.2.2.2.2.2.2.1 else (if v.1 = (2 : Int32) then ((y64 &&& (2147483647 : Int32)) % (34 : Int32)) else v.2.2.2.2.2.2.2.2.1)))) (if (32 : Int32) < ((y64 &&& (2147483647 : Int32)) % (34 : Int32)) then v.2.2.2.2.2.2.2.2.2.1 else (if v.1 = (0 : Int32) then v.2.2.2.2.2.2.2.2.2.1 else (if v.1 = (1 : Int32) then v.2.2.2.2.2.2.2.2.2.1 else (if v.1 = (2 : Int32) then v.2.2.2.2.2.2.2.2.2.1 else ((y64 &&& (2147483647 : Int32)) % (34 : Int32)))))) v.2.2.2.2.2.2.2.2.2.2.1 v.2.2.2.2.2.2.2.2.2.2.2.1 v.2.2.2.2.2.2.2.2.2.2.2.2.1 v.2.2.2.2.2.2.2.2.2.2.2.2.2.1 v.2.2.2.2.2.2.2.2.2.2.2.2.2.2.1 v.2.2.2.2.2.2.2.2.2.2.2.2.2.2.2.1 v.2.2.2.2.2.2.2.2.2.2.2.2.2.2.2.2.1 v.2.2.2.2.2.2.2.2.2.2.2.2.2.2.2.2.2.1 v.2.2.2.2.2.2.2.2.2.2.2.2.2.2.2.2.2.2.1 ((y62 &&& (2147483647 : Int32)) % (34 : Int32)) ((y64 &&& (2147483647 : Int32)) % (34 : Int32)) (if (32 : Int32) < ((y64 &&& (2147483647 : Int32)) % (34 : Int32)) then (-1 : Int32) else v.1))))) else (J0_244 s v.2.2.2.2.2.2.2.2.2.2.2.2.2.2.2.2.2.2.2 x1 v.1 v.2.1 v.2.2.1 v.2.2.2.1 v.2.2.2.2.1 v.2.2.2.2.2.1 v.2.2.2.2.2.2.1 v.2.2.2.2.2.2.2.1 v.2.2.2.2.2.2.2.2.1 v.2.2.2.2.2.2.2.2.2.1 v.2.2.2.2.2.2.2.2.2.2.1 v.2.2.2.2.2.2.2.2.2.2.2.1 v.2.2.2.2.2.2.2.2.2.2.2.2.1 v.2.2.2.2.2.2.2.2.2.2.2.2.2.1 v.2.2.2.2.2.2.2.2.2.2.2.2.2.2.1 v.2.2.2.2.2.2.2.2.2.2.2.2.2.2.2.1 v.2.2.2.2.2.2.2.2.2.2.2.2.2.2.2.2.1 v.2.2.2.2.2.2.2.2.2.2.2.2.2.2.2.2.2.1 v.2.2.2.2.2.2.2.2.2.2.2.2.2.2.2.2.2.2.1 ((y62 &&& (2147483647 : Int32)) % (34 : Int32)) ((y64 &&& (2147483647 : Int32)) % (34 : Int32)) (-1 : Int32))) else (J0_244 s v.2.2.2.2.2.2.2.2.2.2.2.2.2.2.2.2.2.2.2 x1 v.1 v.2.1 v.2.2.1 v.2.2.2.1 v.2.2.2.2.1 v.2.2.2.2.2.1 v.2.2.2.2.2.2.1 v.2.2.2.2.2.2.2.1 v.2.2.2.2.2.2.2.2.1 v.2.2.2.2.2.2.2.2.2.1 v.2.2.2.2.2.2.2.2.2.2.1 v.2.2.2.2.2.2.2.2.2.2.2.1 v.2.2.2.2.2.2.2.2.2.2.2.2.1 v.2.2.2.2.2.2.2.2.2.2.2.2.2.1 v.2.2.2.2.2.2.2.2.2.2.2.2.2.2.1 v.2.2.2.2.2.2.2.2.2.2.2.2.2.2.2.1 v.2.2.2.2.2.2.2.2.2.2.2.2.2.2.2.2.1 v.2.2.2.2.2.2.2.2.2.2.2.2.2.2.2.2.2.1 v.2.2.2.2.2.2.2.2.2.2.2.2.2.2.2.2.2.2.1 ((y62 &&& (2147483647 : Int32)) % (34 : Int32)) ((y64 &&& (2147483647 : Int32)) % (34 : Int32)) (-1 : Int32))) else (if (y60 &&& (7 : Int32)) < (7 : Int32) then (aget s (v.2.2.2.2.2.2.2.2.2.2.2.2.2.2.2.2.2.2.1 + (1 : Int32))).bind fun y272 => (aget s (v.2.2.2.2.2.2.2.2.2.2.2.2.2.2.2.2.2.2.1 + (2 : Int32))).bind fun y273 => (aget s (v.2.2.2.2.2.2.2.2.2.2.2.2.2.2.2.2.2.2.1 + (3 : Int32))).bind fun y274 => (aget s (v.2.2.2.2.2.2.2.2.2.2.2.2.2.2.2.2.2.2.1 + (4 : Int32))).bind fun y275 => (F8 (0 : Int32) v.1 (v.2.1 + (1 : Int32)) v.2.2.2.2.2.2.1).bind fun r279 => (F8 (1 : Int32) v.1 (v.2.1 + (1 : Int32)) v.2.2.2.2.2.2.2.1).bind fun r280 => (F8 (2 : Int32) v.1 (v.2.1 + (1 : Int32)) v.2.2.2.2.2.2.2.2.1).bind fun r281 => (F8 (3 : Int32) v.1 (v.2.1 + (1 : Int32)) v.2.2.2.2.2.2.2.2.2.1).bind fun r282 => (F9 v.2.2.2.2.2.2.2.2.2.2.2.2.2.2.2.2.2.2.2 ((y272 &&& (15 : Int32)) - (7 : Int32)) ((y273 &&& (15 : Int32)) - (7 : Int32)) ((y274 &&& (15 : Int32)) - (7 : Int32)) ((y275 &&& (15 : Int32)) - (7 : Int32))).bind fun r369 => (if r369.1 = (((r279 + r280) + r281) + r282) then (J0_494 s r369.2 x1 v.1 (v.2.1 + (1 : Int32)) v.2.2.1 v.2.2.2.1 v.2.2.2.2.1 v.2.2.2.2.2.1 v.2.2.2.2.2.2.1 v.2.2.2.2.2.2.2.1 v.2.2.2.2.2.2.2.2.1 v.2.2.2.2.2.2.2.2.2.1 ((v.2.2.2.2.2.2.2.2.2.2.1 * ((y272 &&& (15 : Int32)) - (7 : Int32))) + (v.2.2.2.2.2.2.2.2.2.2.2.1 * ((y274 &&& (15 : Int32)) - (7 : Int32)))) ((v.2.2.2.2.2.2.2.2.2.2.1 * ((y273 &&& (15 : Int32)) - (7 : Int32))) + (v.2.2.2.2.2.2.2.2.2.2.2.1 * ((y275 &&& (15 : Int32)) - (7 : Int32)))) ((v.2.2.2.2.2.2.2.2.2.2.2.2.1 * ((y272 &&& (15 : Int32)) - (7 : Int32))) + (v.2.2.2.2.2.2.2.2.2.2.2.2.2.1 * ((y274 &&& (15 : Int32)) - (7 : Int32)))) ((v.2.2.2.2.2.2.2.2.2.2.2.2.1 * ((y273 &&& (15 : Int32)) - (7 : Int32))) + (v.2.2.2.2.2.2.2.2.2.2.2.2.2.1 * ((y275 &&& (15 : Int32)) - (7 : Int32)))) ((y272 &&& (15 : Int32)) - (7 : Int32)) ((y273 &&& (15 : Int32)) - (7 : Int32)) ((y274 &&& (15 : Int32)) - (7 : Int32)) ((y275 &&& (15 : Int32)) - (7 : Int32)) v.2.2.2.2.2.2.2.2.2.2.2.2.2.2.2.2.2.2.1) else some (.inl ((0 : Int32), (H0 s r369.2)))) else (F22 v.2.2.2.2.2.2.2.2.2.2.2.2.2.2.2.2.2.2.2).bind fun r376 => (J0_494 s r376 x1 v.1 (0 : Int32) v.2.2.1 v.2.2.2.1 v.2.2.2.2.1 v.2.2.2.2.2.1 v.2.2.2.2.2.2.1 v.2.2.2.2.2.2.2.1 v.2.2.2.2.2.2.2.2.1 v.2.2.2.2.2.2.2.2.2.1 (1 : Int32) (0 : Int32) (0 : Int32) (1 : Int32) v.2.2.2.2.2.2.2.2.2.2.2.2.2.2.1 v.2.2.2.2.2.2.2.2.2.2.2.2.2.2.2.1 v.2.2.2.2.2.2.2.2.2.2.2.2.2.2.2.2.1 v.2.2.2.2.2.2.2.2.2.2.2.2.2.2.2.2.2.1 v.2.2.2.2.2.2.2.2.2.2.2.2.2.2.2.2.2.2.1))) else some (.inl ((1 : Int32), (H0 s v.2.2.2.2.2.2.2.2.2.2.2.2.2.2.2.2.2.2.2))))
theorem tB0_92 (Ad : QAd n0 ad) (W : QW Z a0) (s : List Int32) (x1 : Int32) (v : Int32 × Int32 × Int32 × Int32 × Int32 × Int32 × Int32 × Int32 × Int32 × Int32 × Int32 × Int32 × Int32 × Int32 × Int32 × Int32 × Int32 × Int32 × Int32 × Ob) {r : ((Int32 × QHeap)) ⊕ (Int32 × Int32 × Int32 × Int32 × Int32 × Int32 × Int32 × Int32 × Int32 × Int32 × Int32 × Int32 × Int32 × Int32 × Int32 × Int32 × Int32 × Int32 × Int32 × Ob)} {u : Option Value} {τ : QHeap} (h : B0_92 s x1 v = some r) (hx0 : ∀ x : Int32 × QHeap, r = .inl x → u = (some (Value.int x.1)) ∧ τ = x.2) (hc : ∀ x : Int32 × Int32 × Int32 × Int32 × Int32 × Int32 × Int32 × Int32 × Int32 × Int32 × Int32 × Int32 × Int32 × Int32 × Int32 × Int32 × Int32 × Int32 × Int32 × Ob, r = .inr x → QTri l Z n0 ad 0 (92, [vR 0, vI x1, vR 1, vI x.1, vI x.2.1, vI x.2.2.1, vI x.2.2.2.1, vI x.2.2.2.2.1, vI x.2.2.2.2.2.1, vI x.2.2.2.2.2.2.1, vI x.2.2.2.2.2.2.2.1, vI x.2.2.2.2.2.2.2.2.1, vI x.2.2.2.2.2.2.2.2.2.1, vI x.2.2.2.2.2.2.2.2.2.2.1, vI x.2.2.2.2.2.2.2.2.2.2.2.1, vI x.2.2.2.2.2.2.2.2.2.2.2.2.1, vI x.2.2.2.2.2.2.2.2.2.2.2.2.2.1, vI x.2.2.2.2.2.2.2.2.2.2.2.2.2.2.1, vI x.2.2.2.2.2.2.2.2.2.2.2.2.2.2.2.1, vI x.2.2.2.2.2.2.2.2.2.2.2.2.2.2.2.2.1, vI x.2.2.2.2.2.2.2.2.2.2.2.2.2.2.2.2.2.1, vI x.2.2.2.2.2.2.2.2.2.2.2.2.2.2.2.2.2.2.1, none, none, none, none, none, none, none, none, none, none], [], (H0 s x.2.2.2.2.2.2.2.2.2.2.2.2.2.2.2.2.2.2.2)) u τ) : QTri l Z n0 ad 0 (92, [vR 0, vI x1, vR 1, vI v.1, vI v.2.1, vI v.2.2.1, vI v.2.2.2.1, vI v.2.2.2.2.1, vI v.2.2.2.2.2.1, vI v.2.2.2.2.2.2.1, vI v.2.2.2.2.2.2.2.1, vI v.2.2.2.2.2.2.2.2.1, vI v.2.2.2.2.2.2.2.2.2.1, vI v.2.2.2.2.2.2.2.2.2.2.1, vI v.2.2.2.2.2.2.2.2.2.2.2.1, vI v.2.2.2.2.2.2.2.2.2.2.2.2.1, vI v.2.2.2.2.2.2.2.2.2.2.2.2.2.1, vI v.2.2.2.2.2.2.2.2.2.2.2.2.2.2.1, vI v.2.2.2.2.2.2.2.2.2.2.2.2.2.2.2.1, vI v.2.2.2.2.2.2.2.2.2.2.2.2.2.2.2.2.1, vI v.2.2.2.2.2.2.2.2.2.2.2.2.2.2.2.2.2.1, vI v.2.2.2.2.2.2.2.2.2.2.2.2.2.2.2.2.2.2.1, none, none, none, none, none, none, none, none, none, none], [], (H0 s v.2.2.2.2.2.2.2.2.2.2.2.2.2.2.2.2.2.2.2)) u τ := by
 unfold B0_92 at h
 refine zS Ad W 5 (st' := (98, [vR 0, vI x1, vR 1, vI v.1, vI v.2.1, vI v.2.2.1, vI v.2.2.2.1, vI v.2.2.2.2.1, vI v.2.2.2.2.2.1, vI v.2.2.2.2.2.2.1, vI v.2.2.2.2.2.2.2.1, vI v.2.2.2.2.2.2.2.2.1, vI v.2.2.2.2.2.2.2.2.2.1, vI v.2.2.2.2.2.2.2.2.2.2.1, vI v.2.2.2.2.2.2.2.2.2.2.2.1, vI v.2.2.2.2.2.2.2.2.2.2.2.2.1, vI v.2.2.2.2.2.2.2.2.2.2.2.2.2.1, vI v.2.2.2.2.2.2.2.2.2.2.2.2.2.2.1, vI v.2.2.2.2.2.2.2.2.2.2.2.2.2.2.2.1, vI v.2.2.2.2.2.2.2.2.2.2.2.2.2.2.2.2.1, vI v.2.2.2.2.2.2.2.2.2.2.2.2.2.2.2.2.2.1, vI v.2.2.2.2.2.2.2.2.2.2.2.2.2.2.2.2.2.2.1, none, none, none, none, none, none, none, none, none, none], [.int (s.length.toInt32), .int (v.2.2.2.2.2.2.2.2.2.2.2.2.2.2.2.2.2.2.1 + (4:Int32))], (H0 s v.2.2.2.2.2.2.2.2.2.2.2.2.2.2.2.2.2.2.2))) rfl ?_
 rcases qite h with ⟨hc59, h⟩ | ⟨hc59, h⟩
 ·refine zF Ad W (t := 651) (f := 101) rfl (XT.ii_ge_f hc59) ?_
  refine zS Ad W 2 (st' := (104, [vR 0, vI x1, vR 1, vI v.1, vI v.2.1, vI v.2.2.1, vI v.2.2.2.1, vI v.2.2.2.2.1, vI v.2.2.2.2.2.1, vI v.2.2.2.2.2.2.1, vI v.2.2.2.2.2.2.2.1, vI v.2.2.2.2.2.2.2.2.1, vI v.2.2.2.2.2.2.2.2.2.1, vI v.2.2.2.2.2.2.2.2.2.2.1, vI v.2.2.2.2.2.2.2.2.2.2.2.1, vI v.2.2.2.2.2.2.2.2.2.2.2.2.1, vI v.2.2.2.2.2.2.2.2.2.2.2.2.2.1, vI v.2.2.2.2.2.2.2.2.2.2.2.2.2.2.1, vI v.2.2.2.2.2.2.2.2.2.2.2.2.2.2.2.1, vI v.2.2.2.2.2.2.2.2.2.2.2.2.2.2.2.2.1, vI v.2.2.2.2.2.2.2.2.2.2.2.2.2.2.2.2.2.1, vI v.2.2.2.2.2.2.2.2.2.2.2.2.2.2.2.2.2.2.1, none, none, none, none, none, none, none, none, none, none], [.int v.2.2.2.2.2.2.2.2.2.2.2.2.2.2.2.2.2.2.1, .ref 0], (H0 s v.2.2.2.2.2.2.2.2.2.2.2.2.2.2.2.2.2.2.2))) rfl ?_
  obtain ⟨y60, hy60, h⟩ := bind_eq_some_iff.mp h
  refine zB Ad W (f := fun y60 => (105, [vR 0, vI x1, vR 1, vI v.1, vI v.2.1, vI v.2.2.1, vI v.2.2.2.1, vI v.2.2.2.2.1, vI v.2.2.2.2.2.1, vI v.2.2.2.2.2.2.1, vI v.2.2.2.2.2.2.2.1, vI v.2.2.2.2.2.2.2.2.1, vI v.2.2.2.2.2.2.2.2.2.1, vI v.2.2.2.2.2.2.2.2.2.2.1, vI v.2.2.2.2.2.2.2.2.2.2.2.1, vI v.2.2.2.2.2.2.2.2.2.2.2.2.1, vI v.2.2.2.2.2.2.2.2.2.2.2.2.2.1, vI v.2.2.2.2.2.2.2.2.2.2.2.2.2.2.1, vI v.2.2.2.2.2.2.2.2.2.2.2.2.2.2.2.1, vI v.2.2.2.2.2.2.2.2.2.2.2.2.2.2.2.2.1, vI v.2.2.2.2.2.2.2.2.2.2.2.2.2.2.2.2.2.1, vI v.2.2.2.2.2.2.2.2.2.2.2.2.2.2.2.2.2.2.1, none, none, none, none, none, none, none, none, none, none], [.int y60], (H0 s v.2.2.2.2.2.2.2.2.2.2.2.2.2.2.2.2.2.2.2))) rfl hy60 ?_
  refine zS Ad W 5 (st' := (113, [vR 0, vI x1, vR 1, vI v.1, vI v.2.1, vI v.2.2.1, vI v.2.2.2.1, vI v.2.2.2.2.1, vI v.2.2.2.2.2.1, vI v.2.2.2.2.2.2.1, vI v.2.2.2.2.2.2.2.1, vI v.2.2.2.2.2.2.2.2.1, vI v.2.2.2.2.2.2.2.2.2.1, vI v.2.2.2.2.2.2.2.2.2.2.1, vI v.2.2.2.2.2.2.2.2.2.2.2.1, vI v.2.2.2.2.2.2.2.2.2.2.2.2.1, vI v.2.2.2.2.2.2.2.2.2.2.2.2.2.1, vI v.2.2.2.2.2.2.2.2.2.2.2.2.2.2.1, vI v.2.2.2.2.2.2.2.2.2.2.2.2.2.2.2.1, vI v.2.2.2.2.2.2.2.2.2.2.2.2.2.2.2.2.1, vI v.2.2.2.2.2.2.2.2.2.2.2.2.2.2.2.2.2.1, vI v.2.2.2.2.2.2.2.2.2.2.2.2.2.2.2.2.2.2.1, vI (y60 &&& (7:Int32)), none, none, none, none, none, none, none, none, none], [.int (2:Int32), .int (y60 &&& (7:Int32))], (H0 s v.2.2.2.2.2.2.2.2.2.2.2.2.2.2.2.2.2.2.2))) rfl ?_
  rcases qite h with ⟨hc61, h⟩ | ⟨hc61, h⟩
  ·refine zF Ad W (t := 262) (f := 116) rfl (XT.ii_ge_f hc61) ?_
   refine zS Ad W 4 (st' := (121, [vR 0, vI x1, vR 1, vI v.1, vI v.2.1, vI v.2.2.1, vI v.2.2.2.1, vI v.2.2.2.2.1, vI v.2.2.2.2.2.1, vI v.2.2.2.2.2.2.1, vI v.2.2.2.2.2.2.2.1, vI v.2.2.2.2.2.2.2.2.1, vI v.2.2.2.2.2.2.2.2.2.1, vI v.2.2.2.2.2.2.2.2.2.2.1, vI v.2.2.2.2.2.2.2.2.2.2.2.1, vI v.2.2.2.2.2.2.2.2.2.2.2.2.1, vI v.2.2.2.2.2.2.2.2.2.2.2.2.2.1, vI v.2.2.2.2.2.2.2.2.2.2.2.2.2.2.1, vI v.2.2.2.2.2.2.2.2.2.2.2.2.2.2.2.1, vI v.2.2.2.2.2.2.2.2.2.2.2.2.2.2.2.2.1, vI v.2.2.2.2.2.2.2.2.2.2.2.2.2.2.2.2.2.1, vI v.2.2.2.2.2.2.2.2.2.2.2.2.2.2.2.2.2.2.1, vI (y60 &&& (7:Int32)), none, none, none, none, none, none, none, none, none], [.int (v.2.2.2.2.2.2.2.2.2.2.2.2.2.2.2.2.2.2.1 + (1:Int32)), .ref 0], (H0 s v.2.2.2.2.2.2.2.2.2.2.2.2.2.2.2.2.2.2.2))) rfl ?_
   obtain ⟨y62, hy62, h⟩ := bind_eq_some_iff.mp h
   refine zB Ad W (f := fun y62 => (122, [vR 0, vI x1, vR 1, vI v.1, vI v.2.1, vI v.2.2.1, vI v.2.2.2.1, vI v.2.2.2.2.1, vI v.2.2.2.2.2.1, vI v.2.2.2.2.2.2.1, vI v.2.2.2.2.2.2.2.1, vI v.2.2.2.2.2.2.2.2.1, vI v.2.2.2.2.2.2.2.2.2.1, vI v.2.2.2.2.2.2.2.2.2.2.1, vI v.2.2.2.2.2.2.2.2.2.2.2.1, vI v.2.2.2.2.2.2.2.2.2.2.2.2.1, vI v.2.2.2.2.2.2.2.2.2.2.2.2.2.1, vI v.2.2.2.2.2.2.2.2.2.2.2.2.2.2.1, vI v.2.2.2.2.2.2.2.2.2.2.2.2.2.2.2.1, vI v.2.2.2.2.2.2.2.2.2.2.2.2.2.2.2.2.1, vI v.2.2.2.2.2.2.2.2.2.2.2.2.2.2.2.2.2.1, vI v.2.2.2.2.2.2.2.2.2.2.2.2.2.2.2.2.2.2.1, vI (y60 &&& (7:Int32)), none, none, none, none, none, none, none, none, none], [.int y62], (H0 s v.2.2.2.2.2.2.2.2.2.2.2.2.2.2.2.2.2.2.2))) rfl hy62 ?_
   refine zS Ad W 9 (st' := (135, [vR 0, vI x1, vR 1, vI v.1, vI v.2.1, vI v.2.2.1, vI v.2.2.2.1, vI v.2.2.2.2.1, vI v.2.2.2.2.2.1, vI v.2.2.2.2.2.2.1, vI v.2.2.2.2.2.2.2.1, vI v.2.2.2.2.2.2.2.2.1, vI v.2.2.2.2.2.2.2.2.2.1, vI v.2.2.2.2.2.2.2.2.2.2.1, vI v.2.2.2.2.2.2.2.2.2.2.2.1, vI v.2.2.2.2.2.2.2.2.2.2.2.2.1, vI v.2.2.2.2.2.2.2.2.2.2.2.2.2.1, vI v.2.2.2.2.2.2.2.2.2.2.2.2.2.2.1, vI v.2.2.2.2.2.2.2.2.2.2.2.2.2.2.2.1, vI v.2.2.2.2.2.2.2.2.2.2.2.2.2.2.2.2.1, vI v.2.2.2.2.2.2.2.2.2.2.2.2.2.2.2.2.2.1, vI v.2.2.2.2.2.2.2.2.2.2.2.2.2.2.2.2.2.2.1, vI (y60 &&& (7:Int32)), vI ((y62 &&& (2147483647:Int32)) % (34:Int32)), none, none, none, none, none, none, none, none], [.int (v.2.2.2.2.2.2.2.2.2.2.2.2.2.2.2.2.2.2.1 + (2:Int32)), .ref 0], (H0 s v.2.2.2.2.2.2.2.2.2.2.2.2.2.2.2.2.2.2.2))) rfl ?_
   obtain ⟨y64, hy64, h⟩ := bind_eq_some_iff.mp h
   refine zB Ad W (f := fun y64 => (136, [vR 0, vI x1, vR 1, vI v.1, vI v.2.1, vI v.2.2.1, vI v.2.2.2.1, vI v.2.2.2.2.1, vI v.2.2.2.2.2.1, vI v.2.2.2.2.2.2.1, vI v.2.2.2.2.2.2.2.1, vI v.2.2.2.2.2.2.2.2.1, vI v.2.2.2.2.2.2.2.2.2.1, vI v.2.2.2.2.2.2.2.2.2.2.1, vI v.2.2.2.2.2.2.2.2.2.2.2.1, vI v.2.2.2.2.2.2.2.2.2.2.2.2.1, vI v.2.2.2.2.2.2.2.2.2.2.2.2.2.1, vI v.2.2.2.2.2.2.2.2.2.2.2.2.2.2.1, vI v.2.2.2.2.2.2.2.2.2.2.2.2.2.2.2.1, vI v.2.2.2.2.2.2.2.2.2.2.2.2.2.2.2.2.1, vI v.2.2.2.2.2.2.2.2.2.2.2.2.2.2.2.2.2.1, vI v.2.2.2.2.2.2.2.2.2.2.2.2.2.2.2.2.2.2.1, vI (y60 &&& (7:Int32)), vI ((y62 &&& (2147483647:Int32)) % (34:Int32)), none, none, none, none, none, none, none, none], [.int y64], (H0 s v.2.2.2.2.2.2.2.2.2.2.2.2.2.2.2.2.2.2.2))) rfl hy64 ?_
   refine zS Ad W 7 (st' := (147, [vR 0, vI x1, vR 1, vI v.1, vI v.2.1, vI v.2.2.1, vI v.2.2.2.1, vI v.2.2.2.2.1, vI v.2.2.2.2.2.1, vI v.2.2.2.2.2.2.1, vI v.2.2.2.2.2.2.2.1, vI v.2.2.2.2.2.2.2.2.1, vI v.2.2.2.2.2.2.2.2.2.1, vI v.2.2.2.2.2.2.2.2.2.2.1, vI v.2.2.2.2.2.2.2.2.2.2.2.1, vI v.2.2.2.2.2.2.2.2.2.2.2.2.1, vI v.2.2.2.2.2.2.2.2.2.2.2.2.2.1, vI v.2.2.2.2.2.2.2.2.2.2.2.2.2.2.1, vI v.2.2.2.2.2.2.2.2.2.2.2.2.2.2.2.1, vI v.2.2.2.2.2.2.2.2.2.2.2.2.2.2.2.2.1, vI v.2.2.2.2.2.2.2.2.2.2.2.2.2.2.2.2.2.1, vI v.2.2.2.2.2.2.2.2.2.2.2.2.2.2.2.2.2.2.1, vI (y60 &&& (7:Int32)), vI ((y62 &&& (2147483647:Int32)) % (34:Int32)), vI ((y64 &&& (2147483647:Int32)) % (34:Int32)), vI (-1:Int32), none, none, none, none, none, none], [], (H0 s v.2.2.2.2.2.2.2.2.2.2.2.2.2.2.2.2.2.2.2))) rfl ?_
   refine zS Ad W 1 (st' := (149, [vR 0, vI x1, vR 1, vI v.1, vI v.2.1, vI v.2.2.1, vI v.2.2.2.1, vI v.2.2.2.2.1, vI v.2.2.2.2.2.1, vI v.2.2.2.2.2.2.1, vI v.2.2.2.2.2.2.2.1, vI v.2.2.2.2.2.2.2.2.1, vI v.2.2.2.2.2.2.2.2.2.1, vI v.2.2.2.2.2.2.2.2.2.2.1, vI v.2.2.2.2.2.2.2.2.2.2.2.1, vI v.2.2.2.2.2.2.2.2.2.2.2.2.1, vI v.2.2.2.2.2.2.2.2.2.2.2.2.2.1, vI v.2.2.2.2.2.2.2.2.2.2.2.2.2.2.1, vI v.2.2.2.2.2.2.2.2.2.2.2.2.2.2.2.1, vI v.2.2.2.2.2.2.2.2.2.2.2.2.2.2.2.2.1, vI v.2.2.2.2.2.2.2.2.2.2.2.2.2.2.2.2.2.1, vI v.2.2.2.2.2.2.2.2.2.2.2.2.2.2.2.2.2.2.1, vI (y60 &&& (7:Int32)), vI ((y62 &&& (2147483647:Int32)) % (34:Int32)), vI ((y64 &&& (2147483647:Int32)) % (34:Int32)), vI (-1:Int32), none, none, none, none, none, none], [.int v.2.1], (H0 s v.2.2.2.2.2.2.2.2.2.2.2.2.2.2.2.2.2.2.2))) rfl ?_
   rcases qite h with ⟨hc66, h⟩ | ⟨hc66, h⟩
   ·refine zF Ad W (t := 244) (f := 152) rfl (XT.i0_ne_f hc66) ?_
    refine zS Ad W 2 (st' := (154, [vR 0, vI x1, vR 1, vI v.1, vI v.2.1, vI v.2.2.1, vI v.2.2.2.1, vI v.2.2.2.2.1, vI v.2.2.2.2.2.1, vI v.2.2.2.2.2.2.1, vI v.2.2.2.2.2.2.2.1, vI v.2.2.2.2.2.2.2.2.1, vI v.2.2.2.2.2.2.2.2.2.1, vI v.2.2.2.2.2.2.2.2.2.2.1, vI v.2.2.2.2.2.2.2.2.2.2.2.1, vI v.2.2.2.2.2.2.2.2.2.2.2.2.1, vI v.2.2.2.2.2.2.2.2.2.2.2.2.2.1, vI v.2.2.2.2.2.2.2.2.2.2.2.2.2.2.1, vI v.2.2.2.2.2.2.2.2.2.2.2.2.2.2.2.1, vI v.2.2.2.2.2.2.2.2.2.2.2.2.2.2.2.2.1, vI v.2.2.2.2.2.2.2.2.2.2.2.2.2.2.2.2.2.1, vI v.2.2.2.2.2.2.2.2.2.2.2.2.2.2.2.2.2.2.1, vI (y60 &&& (7:Int32)), vI ((y62 &&& (2147483647:Int32)) % (34:Int32)), vI ((y64 &&& (2147483647:Int32)) % (34:Int32)), vI (-1:Int32), none, none, none, none, none, none], [.int x1, .int v.1], (H0 s v.2.2.2.2.2.2.2.2.2.2.2.2.2.2.2.2.2.2.2))) rfl ?_
    rcases qite h with ⟨hc67, h⟩ | ⟨hc67, h⟩
    ·refine zF Ad W (t := 244) (f := 157) rfl (XT.ii_ge_f hc67) ?_
     refine zS Ad W 2 (st' := (160, [vR 0, vI x1, vR 1, vI v.1, vI v.2.1, vI v.2.2.1, vI v.2.2.2.1, vI v.2.2.2.2.1, vI v.2.2.2.2.2.1, vI v.2.2.2.2.2.2.1, vI v.2.2.2.2.2.2.2.1, vI v.2.2.2.2.2.2.2.2.1, vI v.2.2.2.2.2.2.2.2.2.1, vI v.2.2.2.2.2.2.2.2.2.2.1, vI v.2.2.2.2.2.2.2.2.2.2.2.1, vI v.2.2.2.2.2.2.2.2.2.2.2.2.1, vI v.2.2.2.2.2.2.2.2.2.2.2.2.2.1, vI v.2.2.2.2.2.2.2.2.2.2.2.2.2.2.1, vI v.2.2.2.2.2.2.2.2.2.2.2.2.2.2.2.1, vI v.2.2.2.2.2.2.2.2.2.2.2.2.2.2.2.2.1, vI v.2.2.2.2.2.2.2.2.2.2.2.2.2.2.2.2.2.1, vI v.2.2.2.2.2.2.2.2.2.2.2.2.2.2.2.2.2.2.1, vI (y60 &&& (7:Int32)), vI ((y62 &&& (2147483647:Int32)) % (34:Int32)), vI ((y64 &&& (2147483647:Int32)) % (34:Int32)), vI (-1:Int32), none, none, none, none, none, none], [.int (1:Int32), .int ((y62 &&& (2147483647:Int32)) % (34:Int32))], (H0 s v.2.2.2.2.2.2.2.2.2.2.2.2.2.2.2.2.2.2.2))) rfl ?_
     rcases qite h with ⟨hc68, h⟩ | ⟨hc68, h⟩
     ·refine zT Ad W (t := 244) (f := 163) rfl (XT.ii_lt_t hc68) ?_
      exact zM [tt,tt,tt,tt,tt,tt,tt,tt,tt,tt,tt,tt,tt,tt,tt,tt,tt,tt,tt,tt,tt,tt,ff,tt,tt,tt,ff,ff,ff,ff,ff,ff] (tJ0_244 Ad W s v.2.2.2.2.2.2.2.2.2.2.2.2.2.2.2.2.2.2.2 x1 v.1 v.2.1 v.2.2.1 v.2.2.2.1 v.2.2.2.2.1 v.2.2.2.2.2.1 v.2.2.2.2.2.2.1 v.2.2.2.2.2.2.2.1 v.2.2.2.2.2.2.2.2.1 v.2.2.2.2.2.2.2.2.2.1 v.2.2.2.2.2.2.2.2.2.2.1 v.2.2.2.2.2.2.2.2.2.2.2.1 v.2.2.2.2.2.2.2.2.2.2.2.2.1 v.2.2.2.2.2.2.2.2.2.2.2.2.2.1 v.2.2.2.2.2.2.2.2.2.2.2.2.2.2.1 v.2.2.2.2.2.2.2.2.2.2.2.2.2.2.2.1 v.2.2.2.2.2.2.2.2.2.2.2.2.2.2.2.2.1 v.2.2.2.2.2.2.2.2.2.2.2.2.2.2.2.2.2.1 v.2.2.2.2.2.2.2.2.2.2.2.2.2.2.2.2.2.2.1 ((y62 &&& (2147483647:Int32)) % (34:Int32)) ((y64 &&& (2147483647:Int32)) % (34:Int32)) (-1:Int32) h hx0 hc)
     ·refine zF Ad W (t := 244) (f := 163) rfl (XT.ii_lt_f hc68) ?_
      refine zS Ad W 2 (st' := (167, [vR 0, vI x1, vR 1, vI v.1, vI v.2.1, vI v.2.2.1, vI v.2.2.2.1, vI v.2.2.2.2.1, vI v.2.2.2.2.2.1, vI v.2.2.2.2.2.2.1, vI v.2.2.2.2.2.2.2.1, vI v.2.2.2.2.2.2.2.2.1, vI v.2.2.2.2.2.2.2.2.2.1, vI v.2.2.2.2.2.2.2.2.2.2.1, vI v.2.2.2.2.2.2.2.2.2.2.2.1, vI v.2.2.2.2.2.2.2.2.2.2.2.2.1, vI v.2.2.2.2.2.2.2.2.2.2.2.2.2.1, vI v.2.2.2.2.2.2.2.2.2.2.2.2.2.2.1, vI v.2.2.2.2.2.2.2.2.2.2.2.2.2.2.2.1, vI v.2.2.2.2.2.2.2.2.2.2.2.2.2.2.2.2.1, vI v.2.2.2.2.2.2.2.2.2.2.2.2.2.2.2.2.2.1, vI v.2.2.2.2.2.2.2.2.2.2.2.2.2.2.2.2.2.2.1, vI (y60 &&& (7:Int32)), vI ((y62 &&& (2147483647:Int32)) % (34:Int32)), vI ((y64 &&& (2147483647:Int32)) % (34:Int32)), vI (-1:Int32), none, none, none, none, none, none], [.int (32:Int32), .int ((y62 &&& (2147483647:Int32)) % (34:Int32))], (H0 s v.2.2.2.2.2.2.2.2.2.2.2.2.2.2.2.2.2.2.2))) rfl ?_
      rcases qite h with ⟨hc254, h⟩ | ⟨hc254, h⟩
      ·refine zT Ad W (t := 244) (f := 170) rfl (XT.ii_gt_t hc254) ?_
       exact zM [tt,tt,tt,tt,tt,tt,tt,tt,tt,tt,tt,tt,tt,tt,tt,tt,tt,tt,tt,tt,tt,tt,ff,tt,tt,tt,ff,ff,ff,ff,ff,ff] (tJ0_244 Ad W s v.2.2.2.2.2.2.2.2.2.2.2.2.2.2.2.2.2.2.2 x1 v.1 v.2.1 v.2.2.1 v.2.2.2.1 v.2.2.2.2.1 v.2.2.2.2.2.1 v.2.2.2.2.2.2.1 v.2.2.2.2.2.2.2.1 v.2.2.2.2.2.2.2.2.1 v.2.2.2.2.2.2.2.2.2.1 v.2.2.2.2.2.2.2.2.2.2.1 v.2.2.2.2.2.2.2.2.2.2.2.1 v.2.2.2.2.2.2.2.2.2.2.2.2.1 v.2.2.2.2.2.2.2.2.2.2.2.2.2.1 v.2.2.2.2.2.2.2.2.2.2.2.2.2.2.1 v.2.2.2.2.2.2.2.2.2.2.2.2.2.2.2.1 v.2.2.2.2.2.2.2.2.2.2.2.2.2.2.2.2.1 v.2.2.2.2.2.2.2.2.2.2.2.2.2.2.2.2.2.1 v.2.2.2.2.2.2.2.2.2.2.2.2.2.2.2.2.2.2.1 ((y62 &&& (2147483647:Int32)) % (34:Int32)) ((y64 &&& (2147483647:Int32)) % (34:Int32)) (-1:Int32) h hx0 hc)
      ·refine zF Ad W (t := 244) (f := 170) rfl (XT.ii_gt_f hc254) ?_
       refine zS Ad W 2 (st' := (173, [vR 0, vI x1, vR 1, vI v.1, vI v.2.1, vI v.2.2.1, vI v.2.2.2.1, vI v.2.2.2.2.1, vI v.2.2.2.2.2.1, vI v.2.2.2.2.2.2.1, vI v.2.2.2.2.2.2.2.1, vI v.2.2.2.2.2.2.2.2.1, vI v.2.2.2.2.2.2.2.2.2.1, vI v.2.2.2.2.2.2.2.2.2.2.1, vI v.2.2.2.2.2.2.2.2.2.2.2.1, vI v.2.2.2.2.2.2.2.2.2.2.2.2.1, vI v.2.2.2.2.2.2.2.2.2.2.2.2.2.1, vI v.2.2.2.2.2.2.2.2.2.2.2.2.2.2.1, vI v.2.2.2.2.2.2.2.2.2.2.2.2.2.2.2.1, vI v.2.2.2.2.2.2.2.2.2.2.2.2.2.2.2.2.1, vI v.2.2.2.2.2.2.2.2.2.2.2.2.2.2.2.2.2.1, vI v.2.2.2.2.2.2.2.2.2.2.2.2.2.2.2.2.2.2.1, vI (y60 &&& (7:Int32)), vI ((y62 &&& (2147483647:Int32)) % (34:Int32)), vI ((y64 &&& (2147483647:Int32)) % (34:Int32)), vI (-1:Int32), none, none, none, none, none, none], [.int (1:Int32), .int ((y64 &&& (2147483647:Int32)) % (34:Int32))], (H0 s v.2.2.2.2.2.2.2.2.2.2.2.2.2.2.2.2.2.2.2))) rfl ?_
       rcases qite h with ⟨hc255, h⟩ | ⟨hc255, h⟩
       ·refine zT Ad W (t := 244) (f := 176) rfl (XT.ii_lt_t hc255) ?_
        exact zM [tt,tt,tt,tt,tt,tt,tt,tt,tt,tt,tt,tt,tt,tt,tt,tt,tt,tt,tt,tt,tt,tt,ff,tt,tt,tt,ff,ff,ff,ff,ff,ff] (tJ0_244 Ad W s v.2.2.2.2.2.2.2.2.2.2.2.2.2.2.2.2.2.2.2 x1 v.1 v.2.1 v.2.2.1 v.2.2.2.1 v.2.2.2.2.1 v.2.2.2.2.2.1 v.2.2.2.2.2.2.1 v.2.2.2.2.2.2.2.1 v.2.2.2.2.2.2.2.2.1 v.2.2.2.2.2.2.2.2.2.1 v.2.2.2.2.2.2.2.2.2.2.1 v.2.2.2.2.2.2.2.2.2.2.2.1 v.2.2.2.2.2.2.2.2.2.2.2.2.1 v.2.2.2.2.2.2.2.2.2.2.2.2.2.1 v.2.2.2.2.2.2.2.2.2.2.2.2.2.2.1 v.2.2.2.2.2.2.2.2.2.2.2.2.2.2.2.1 v.2.2.2.2.2.2.2.2.2.2.2.2.2.2.2.2.1 v.2.2.2.2.2.2.2.2.2.2.2.2.2.2.2.2.2.1 v.2.2.2.2.2.2.2.2.2.2.2.2.2.2.2.2.2.2.1 ((y62 &&& (2147483647:Int32)) % (34:Int32)) ((y64 &&& (2147483647:Int32)) % (34:Int32)) (-1:Int32) h hx0 hc)
       ·refine zF Ad W (t := 244) (f := 176) rfl (XT.ii_lt_f hc255) ?_
        refine zS Ad W 2 (st' := (180, [vR 0, vI x1, vR 1, vI v.1, vI v.2.1, vI v.2.2.1, vI v.2.2.2.1, vI v.2.2.2.2.1, vI v.2.2.2.2.2.1, vI v.2.2.2.2.2.2.1, vI v.2.2.2.2.2.2.2.1, vI v.2.2.2.2.2.2.2.2.1, vI v.2.2.2.2.2.2.2.2.2.1, vI v.2.2.2.2.2.2.2.2.2.2.1, vI v.2.2.2.2.2.2.2.2.2.2.2.1, vI v.2.2.2.2.2.2.2.2.2.2.2.2.1, vI v.2.2.2.2.2.2.2.2.2.2.2.2.2.1, vI v.2.2.2.2.2.2.2.2.2.2.2.2.2.2.1, vI v.2.2.2.2.2.2.2.2.2.2.2.2.2.2.2.1, vI v.2.2.2.2.2.2.2.2.2.2.2.2.2.2.2.2.1, vI v.2.2.2.2.2.2.2.2.2.2.2.2.2.2.2.2.2.1, vI v.2.2.2.2.2.2.2.2.2.2.2.2.2.2.2.2.2.2.1, vI (y60 &&& (7:Int32)), vI ((y62 &&& (2147483647:Int32)) % (34:Int32)), vI ((y64 &&& (2147483647:Int32)) % (34:Int32)), vI (-1:Int32), none, none, none, none, none, none], [.int (32:Int32), .int ((y64 &&& (2147483647:Int32)) % (34:Int32))], (H0 s v.2.2.2.2.2.2.2.2.2.2.2.2.2.2.2.2.2.2.2))) rfl ?_
        have K266 : ∀ z256 : Int32, z256 = (if (32:Int32) < ((y64 &&& (2147483647:Int32)) % (34:Int32)) then v.1 else (v.1 + (1:Int32))) → ∀ z257 : Int32, z257 = (if (32:Int32) < ((y64 &&& (2147483647:Int32)) % (34:Int32)) then v.2.2.1 else (if v.1 = (0:Int32) then ((y62 &&& (2147483647:Int32)) % (34:Int32)) else v.2.2.1)) → ∀ z258 : Int32, z258 = (if (32:Int32) < ((y64 &&& (2147483647:Int32)) % (34:Int32)) then v.2.2.2.1 else (if v.1 = (0:Int32) then v.2.2.2.1 else (if v.1 = (1:Int32) then ((y62 &&& (2147483647:Int32)) % (34:Int32)) else v.2.2.2.1))) → ∀ z259 : Int32, z259 = (if (32:Int32) < ((y64 &&& (2147483647:Int32)) % (34:Int32)) then v.2.2.2.2.1 else (if v.1 = (0:Int32) then v.2.2.2.2.1 else (if v.1 = (1:Int32) then v.2.2.2.2.1 else (if v.1 = (2:Int32) then ((y62 &&& (2147483647:Int32)) % (34:Int32)) else v.2.2.2.2.1)))) → ∀ z260 : Int32, z260 = (if (32:Int32) < ((y64 &&& (2147483647:Int32)) % (34:Int32)) then v.2.2.2.2.2.1 else (if v.1 = (0:Int32) then v.2.2.2.2.2.1 else (if v.1 = (1:Int32) then v.2.2.2.2.2.1 else (if v.1 = (2:Int32) then v.2.2.2.2.2.1 else ((y62 &&& (2147483647:Int32)) % (34:Int32)))))) → ∀ z261 : Int32, z261 = (if (32:Int32) < ((y64 &&& (2147483647:Int32)) % (34:Int32)) then v.2.2.2.2.2.2.1 else (if v.1 = (0:Int32) then ((y64 &&& (2147483647:Int32)) % (34:Int32)) else v.2.2.2.2.2.2.1)) → ∀ z262 : Int32, z262 = (if (32:Int32) < ((y64 &&& (2147483647:Int32)) % (34:Int32)) then v.2.2.2.2.2.2.2.1 else (if v.1 = (0:Int32) then v.2.2.2.2.2.2.2.1 else (if v.1 = (1:Int32) then ((y64 &&& (2147483647:Int32)) % (34:Int32)) else v.2.2.2.2.2.2.2.1))) → ∀ z263 : Int32, z263 = (if (32:Int32) < ((y64 &&& (2147483647:Int32)) % (34:Int32)) then v.2.2.2.2.2.2.2.2.1 else (if v.1 = (0:Int32) then v.2.2.2.2.2.2.2.2.1 else (if v.1 = (1:Int32) then v.2.2.2.2.2.2.2.2.1 else (if v.1 = (2:Int32) then ((y64 &&& (2147483647:Int32)) % (34:Int32)) else v.2.2.2.2.2.2.2.2.1)))) → ∀ z264 : Int32, z264 = (if (32:Int32) < ((y64 &&& (2147483647:Int32)) % (34:Int32)) then v.2.2.2.2.2.2.2.2.2.1 else (if v.1 = (0:Int32) then v.2.2.2.2.2.2.2.2.2.1 else (if v.1 = (1:Int32) then v.2.2.2.2.2.2.2.2.2.1 else (if v.1 = (2:Int32) then v.2.2.2.2.2.2.2.2.2.1 else ((y64 &&& (2147483647:Int32)) % (34:Int32)))))) → ∀ z265 : Int32, z265 = (if (32:Int32) < ((y64 &&& (2147483647:Int32)) % (34:Int32)) then (-1:Int32) else v.1) → QTri l Z n0 ad 0 (244, [vR 0, vI x1, vR 1, vI z256, vI v.2.1, vI z257, vI z258, vI z259, vI z260, vI z261, vI z262, vI z263, vI z264, vI v.2.2.2.2.2.2.2.2.2.2.1, vI v.2.2.2.2.2.2.2.2.2.2.2.1, vI v.2.2.2.2.2.2.2.2.2.2.2.2.1, vI v.2.2.2.2.2.2.2.2.2.2.2.2.2.1, vI v.2.2.2.2.2.2.2.2.2.2.2.2.2.2.1, vI v.2.2.2.2.2.2.2.2.2.2.2.2.2.2.2.1, vI v.2.2.2.2.2.2.2.2.2.2.2.2.2.2.2.2.1, vI v.2.2.2.2.2.2.2.2.2.2.2.2.2.2.2.2.2.1, vI v.2.2.2.2.2.2.2.2.2.2.2.2.2.2.2.2.2.2.1, none, vI ((y62 &&& (2147483647:Int32)) % (34:Int32)), vI ((y64 &&& (2147483647:Int32)) % (34:Int32)), vI z265, none, none, none, none, none, none], [], (H0 s v.2.2.2.2.2.2.2.2.2.2.2.2.2.2.2.2.2.2.2)) u τ := by
         intro z256 ez256
         intro z257 ez257
         intro z258 ez258
         intro z259 ez259
         intro z260 ez260
         intro z261 ez261
         intro z262 ez262
         intro z263 ez263
         intro z264 ez264
         intro z265 ez265
         subst ez256
         subst ez257
         subst ez258
         subst ez259
         subst ez260
         subst ez261
         subst ez262
         subst ez263
         subst ez264
         subst ez265
         exact zM [tt,tt,tt,tt,tt,tt,tt,tt,tt,tt,tt,tt,tt,tt,tt,tt,tt,tt,tt,tt,tt,tt,ff,tt,tt,tt,ff,ff,ff,ff,ff,ff] (tJ0_244 Ad W s v.2.2.2.2.2.2.2.2.2.2.2.2.2.2.2.2.2.2.2 x1 (if (32:Int32) < ((y64 &&& (2147483647:Int32)) % (34:Int32)) then v.1 else (v.1 + (1:Int32))) v.2.1 (if (32:Int32) < ((y64 &&& (2147483647:Int32)) % (34:Int32)) then v.2.2.1 else (if v.1 = (0:Int32) then ((y62 &&& (2147483647:Int32)) % (34:Int32)) else v.2.2.1)) (if (32:Int32) < ((y64 &&& (2147483647:Int32)) % (34:Int32)) then v.2.2.2.1 else (if v.1 = (0:Int32) then v.2.2.2.1 else (if v.1 = (1:Int32) then ((y62 &&& (2147483647:Int32)) % (34:Int32)) else v.2.2.2.1))) (if (32:Int32) < ((y64 &&& (2147483647:Int32)) % (34:Int32)) then v.2.2.2.2.1 else (if v.1 = (0:Int32) then v.2.2.2.2.1 else (if v.1 = (1:Int32) then v.2.2.2.2.1 else (if v.1 = (2:Int32) then ((y62 &&& (2147483647:Int32)) % (34:Int32)) else v.2.2.2.2.1)))) (if (32:Int32) < ((y64 &&& (2147483647:Int32)) % (34:Int32)) then v.2.2.2.2.2.1 else (if v.1 = (0:Int32) then v.2.2.2.2.2.1 else (if v.1 = (1:Int32) then v.2.2.2.2.2.1 else (if v.1 = (2:Int32) then v.2.2.2.2.2.1 else ((y62 &&& (2147483647:Int32)) % (34:Int32)))))) (if (32:Int32) < ((y64 &&& (2147483647:Int32)) % (34:Int32)) then v.2.2.2.2.2.2.1 else (if v.1 = (0:Int32) then ((y64 &&& (2147483647:Int32)) % (34:Int32)) else v.2.2.2.2.2.2.1)) (if (32:Int32) < ((y64 &&& (2147483647:Int32)) % (34:Int32)) then v.2.2.2.2.2.2.2.1 else (if v.1 = (0:Int32) then v.2.2.2.2.2.2.2.1 else (if v.1 = (1:Int32) then ((y64 &&& (2147483647:Int32)) % (34:Int32)) else v.2.2.2.2.2.2.2.1))) (if (32:Int32) < ((y64 &&& (2147483647:Int32)) % (34:Int32)) then v.2.2.2.2.2.2.2.2.1 else (if v.1 = (0:Int32) then v.2.2.2.2.2.2.2.2.1 else (if v.1 = (1:Int32) then v.2.2.2.2.2.2.2.2.1 else (if v.1 = (2:Int32) then ((y64 &&& (2147483647:Int32)) % (34:Int32)) else v.2.2.2.2.2.2.2.2.1)))) (if (32:Int32) < ((y64 &&& (2147483647:Int32)) % (34:Int32)) then v.2.2.2.2.2.2.2.2.2.1 else (if v.1 = (0:Int32) then v.2.2.2.2.2.2.2.2.2.1 else (if v.1 = (1:Int32) then v.2.2.2.2.2.2.2.2.2.1 else (if v.1 = (2:Int32) then v.2.2.2.2.2.2.2.2.2.1 else ((y64 &&& (2147483647:Int32)) % (34:Int32)))))) v.2.2.2.2.2.2.2.2.2.2.1 v.2.2.2.2.2.2.2.2.2.2.2.1 v.2.2.2.2.2.2.2.2.2.2.2.2.1 v.2.2.2.2.2.2.2.2.2.2.2.2.2.1 v.2.2.2.2.2.2.2.2.2.2.2.2.2.2.1 v.2.2.2.2.2.2.2.2.2.2.2.2.2.2.2.1 v.2.2.2.2.2.2.2.2.2.2.2.2.2.2.2.2.1 v.2.2.2.2.2.2.2.2.2.2.2.2.2.2.2.2.2.1 v.2.2.2.2.2.2.2.2.2.2.2.2.2.2.2.2.2.2.1 ((y62 &&& (2147483647:Int32)) % (34:Int32)) ((y64 &&& (2147483647:Int32)) % (34:Int32)) (if (32:Int32) < ((y64 &&& (2147483647:Int32)) % (34:Int32)) then (-1:Int32) else v.1) h hx0 hc)
        rcases em ((32:Int32) < ((y64 &&& (2147483647:Int32)) % (34:Int32))) with hc267 | hc267
        ·refine zT Ad W (t := 244) (f := 183) rfl (XT.ii_gt_t hc267) ?_
         exact zM [tt,tt,tt,tt,tt,tt,tt,tt,tt,tt,tt,tt,tt,tt,tt,tt,tt,tt,tt,tt,tt,tt,ff,tt,tt,tt,ff,ff,ff,ff,ff,ff] (K266 _ (if_pos hc267).symm _ (if_pos hc267).symm _ (if_pos hc267).symm _ (if_pos hc267).symm _ (if_pos hc267).symm _ (if_pos hc267).symm _ (if_pos hc267).symm _ (if_pos hc267).symm _ (if_pos hc267).symm _ (if_pos hc267).symm)
        ·refine zF Ad W (t := 244) (f := 183) rfl (XT.ii_gt_f hc267) ?_
         refine zS Ad W 3 (st' := (187, [vR 0, vI x1, vR 1, vI v.1, vI v.2.1, vI v.2.2.1, vI v.2.2.2.1, vI v.2.2.2.2.1, vI v.2.2.2.2.2.1, vI v.2.2.2.2.2.2.1, vI v.2.2.2.2.2.2.2.1, vI v.2.2.2.2.2.2.2.2.1, vI v.2.2.2.2.2.2.2.2.2.1, vI v.2.2.2.2.2.2.2.2.2.2.1, vI v.2.2.2.2.2.2.2.2.2.2.2.1, vI v.2.2.2.2.2.2.2.2.2.2.2.2.1, vI v.2.2.2.2.2.2.2.2.2.2.2.2.2.1, vI v.2.2.2.2.2.2.2.2.2.2.2.2.2.2.1, vI v.2.2.2.2.2.2.2.2.2.2.2.2.2.2.2.1, vI v.2.2.2.2.2.2.2.2.2.2.2.2.2.2.2.2.1, vI v.2.2.2.2.2.2.2.2.2.2.2.2.2.2.2.2.2.1, vI v.2.2.2.2.2.2.2.2.2.2.2.2.2.2.2.2.2.2.1, vI (y60 &&& (7:Int32)), vI ((y62 &&& (2147483647:Int32)) % (34:Int32)), vI ((y64 &&& (2147483647:Int32)) % (34:Int32)), vI v.1, none, none, none, none, none, none], [.int v.1], (H0 s v.2.2.2.2.2.2.2.2.2.2.2.2.2.2.2.2.2.2.2))) rfl ?_
         rcases em (v.1 = (0:Int32)) with hc268 | hc268
         ·refine zF Ad W (t := 201) (f := 190) rfl (XT.i0_ne_f hc268) ?_
          refine zS Ad W 4 (st' := (198, [vR 0, vI x1, vR 1, vI v.1, vI v.2.1, vI ((y62 &&& (2147483647:Int32)) % (34:Int32)), vI v.2.2.2.1, vI v.2.2.2.2.1, vI v.2.2.2.2.2.1, vI ((y64 &&& (2147483647:Int32)) % (34:Int32)), vI v.2.2.2.2.2.2.2.1, vI v.2.2.2.2.2.2.2.2.1, vI v.2.2.2.2.2.2.2.2.2.1, vI v.2.2.2.2.2.2.2.2.2.2.1, vI v.2.2.2.2.2.2.2.2.2.2.2.1, vI v.2.2.2.2.2.2.2.2.2.2.2.2.1, vI v.2.2.2.2.2.2.2.2.2.2.2.2.2.1, vI v.2.2.2.2.2.2.2.2.2.2.2.2.2.2.1, vI v.2.2.2.2.2.2.2.2.2.2.2.2.2.2.2.1, vI v.2.2.2.2.2.2.2.2.2.2.2.2.2.2.2.2.1, vI v.2.2.2.2.2.2.2.2.2.2.2.2.2.2.2.2.2.1, vI v.2.2.2.2.2.2.2.2.2.2.2.2.2.2.2.2.2.2.1, vI (y60 &&& (7:Int32)), vI ((y62 &&& (2147483647:Int32)) % (34:Int32)), vI ((y64 &&& (2147483647:Int32)) % (34:Int32)), vI v.1, none, none, none, none, none, none], [], (H0 s v.2.2.2.2.2.2.2.2.2.2.2.2.2.2.2.2.2.2.2))) rfl ?_
          refine zS Ad W 2 (st' := (244, [vR 0, vI x1, vR 1, vI (v.1 + (1:Int32)), vI v.2.1, vI ((y62 &&& (2147483647:Int32)) % (34:Int32)), vI v.2.2.2.1, vI v.2.2.2.2.1, vI v.2.2.2.2.2.1, vI ((y64 &&& (2147483647:Int32)) % (34:Int32)), vI v.2.2.2.2.2.2.2.1, vI v.2.2.2.2.2.2.2.2.1, vI v.2.2.2.2.2.2.2.2.2.1, vI v.2.2.2.2.2.2.2.2.2.2.1, vI v.2.2.2.2.2.2.2.2.2.2.2.1, vI v.2.2.2.2.2.2.2.2.2.2.2.2.1, vI v.2.2.2.2.2.2.2.2.2.2.2.2.2.1, vI v.2.2.2.2.2.2.2.2.2.2.2.2.2.2.1, vI v.2.2.2.2.2.2.2.2.2.2.2.2.2.2.2.1, vI v.2.2.2.2.2.2.2.2.2.2.2.2.2.2.2.2.1, vI v.2.2.2.2.2.2.2.2.2.2.2.2.2.2.2.2.2.1, vI v.2.2.2.2.2.2.2.2.2.2.2.2.2.2.2.2.2.2.1, vI (y60 &&& (7:Int32)), vI ((y62 &&& (2147483647:Int32)) % (34:Int32)), vI ((y64 &&& (2147483647:Int32)) % (34:Int32)), vI v.1, none, none, none, none, none, none], [], (H0 s v.2.2.2.2.2.2.2.2.2.2.2.2.2.2.2.2.2.2.2))) rfl ?_
          exact zM [tt,tt,tt,tt,tt,tt,tt,tt,tt,tt,tt,tt,tt,tt,tt,tt,tt,tt,tt,tt,tt,tt,ff,tt,tt,tt,ff,ff,ff,ff,ff,ff] (K266 _ (if_neg hc267).symm _ ((if_neg hc267).trans (if_pos hc268)).symm _ ((if_neg hc267).trans (if_pos hc268)).symm _ ((if_neg hc267).trans (if_pos hc268)).symm _ ((if_neg hc267).trans (if_pos hc268)).symm _ ((if_neg hc267).trans (if_pos hc268)).symm _ ((if_neg hc267).trans (if_pos hc268)).symm _ ((if_neg hc267).trans (if_pos hc268)).symm _ ((if_neg hc267).trans (if_pos hc268)).symm _ (if_neg hc267).symm)
         ·refine zT Ad W (t := 201) (f := 190) rfl (XT.i0_ne_t hc268) ?_
          refine zS Ad W 2 (st' := (203, [vR 0, vI x1, vR 1, vI v.1, vI v.2.1, vI v.2.2.1, vI v.2.2.2.1, vI v.2.2.2.2.1, vI v.2.2.2.2.2.1, vI v.2.2.2.2.2.2.1, vI v.2.2.2.2.2.2.2.1, vI v.2.2.2.2.2.2.2.2.1, vI v.2.2.2.2.2.2.2.2.2.1, vI v.2.2.2.2.2.2.2.2.2.2.1, vI v.2.2.2.2.2.2.2.2.2.2.2.1, vI v.2.2.2.2.2.2.2.2.2.2.2.2.1, vI v.2.2.2.2.2.2.2.2.2.2.2.2.2.1, vI v.2.2.2.2.2.2.2.2.2.2.2.2.2.2.1, vI v.2.2.2.2.2.2.2.2.2.2.2.2.2.2.2.1, vI v.2.2.2.2.2.2.2.2.2.2.2.2.2.2.2.2.1, vI v.2.2.2.2.2.2.2.2.2.2.2.2.2.2.2.2.2.1, vI v.2.2.2.2.2.2.2.2.2.2.2.2.2.2.2.2.2.2.1, vI (y60 &&& (7:Int32)), vI ((y62 &&& (2147483647:Int32)) % (34:Int32)), vI ((y64 &&& (2147483647:Int32)) % (34:Int32)), vI v.1, none, none, none, none, none, none], [.int (1:Int32), .int v.1], (H0 s v.2.2.2.2.2.2.2.2.2.2.2.2.2.2.2.2.2.2.2))) rfl ?_
          rcases em (v.1 = (1:Int32)) with hc269 | hc269
          ·refine zF Ad W (t := 217) (f := 206) rfl (XT.ii_ne_f hc269) ?_
           refine zS Ad W 4 (st' := (214, [vR 0, vI x1, vR 1, vI v.1, vI v.2.1, vI v.2.2.1, vI ((y62 &&& (2147483647:Int32)) % (34:Int32)), vI v.2.2.2.2.1, vI v.2.2.2.2.2.1, vI v.2.2.2.2.2.2.1, vI ((y64 &&& (2147483647:Int32)) % (34:Int32)), vI v.2.2.2.2.2.2.2.2.1, vI v.2.2.2.2.2.2.2.2.2.1, vI v.2.2.2.2.2.2.2.2.2.2.1, vI v.2.2.2.2.2.2.2.2.2.2.2.1, vI v.2.2.2.2.2.2.2.2.2.2.2.2.1, vI v.2.2.2.2.2.2.2.2.2.2.2.2.2.1, vI v.2.2.2.2.2.2.2.2.2.2.2.2.2.2.1, vI v.2.2.2.2.2.2.2.2.2.2.2.2.2.2.2.1, vI v.2.2.2.2.2.2.2.2.2.2.2.2.2.2.2.2.1, vI v.2.2.2.2.2.2.2.2.2.2.2.2.2.2.2.2.2.1, vI v.2.2.2.2.2.2.2.2.2.2.2.2.2.2.2.2.2.2.1, vI (y60 &&& (7:Int32)), vI ((y62 &&& (2147483647:Int32)) % (34:Int32)), vI ((y64 &&& (2147483647:Int32)) % (34:Int32)), vI v.1, none, none, none, none, none, none], [], (H0 s v.2.2.2.2.2.2.2.2.2.2.2.2.2.2.2.2.2.2.2))) rfl ?_
           refine zS Ad W 2 (st' := (244, [vR 0, vI x1, vR 1, vI (v.1 + (1:Int32)), vI v.2.1, vI v.2.2.1, vI ((y62 &&& (2147483647:Int32)) % (34:Int32)), vI v.2.2.2.2.1, vI v.2.2.2.2.2.1, vI v.2.2.2.2.2.2.1, vI ((y64 &&& (2147483647:Int32)) % (34:Int32)), vI v.2.2.2.2.2.2.2.2.1, vI v.2.2.2.2.2.2.2.2.2.1, vI v.2.2.2.2.2.2.2.2.2.2.1, vI v.2.2.2.2.2.2.2.2.2.2.2.1, vI v.2.2.2.2.2.2.2.2.2.2.2.2.1, vI v.2.2.2.2.2.2.2.2.2.2.2.2.2.1, vI v.2.2.2.2.2.2.2.2.2.2.2.2.2.2.1, vI v.2.2.2.2.2.2.2.2.2.2.2.2.2.2.2.1, vI v.2.2.2.2.2.2.2.2.2.2.2.2.2.2.2.2.1, vI v.2.2.2.2.2.2.2.2.2.2.2.2.2.2.2.2.2.1, vI v.2.2.2.2.2.2.2.2.2.2.2.2.2.2.2.2.2.2.1, vI (y60 &&& (7:Int32)), vI ((y62 &&& (2147483647:Int32)) % (34:Int32)), vI ((y64 &&& (2147483647:Int32)) % (34:Int32)), vI v.1, none, none, none, none, none, none], [], (H0 s v.2.2.2.2.2.2.2.2.2.2.2.2.2.2.2.2.2.2.2))) rfl ?_
           exact zM [tt,tt,tt,tt,tt,tt,tt,tt,tt,tt,tt,tt,tt,tt,tt,tt,tt,tt,tt,tt,tt,tt,ff,tt,tt,tt,ff,ff,ff,ff,ff,ff] (K266 _ (if_neg hc267).symm _ ((if_neg hc267).trans (if_neg hc268)).symm _ ((if_neg hc267).trans ((if_neg hc268).trans (if_pos hc269))).symm _ ((if_neg hc267).trans ((if_neg hc268).trans (if_pos hc269))).symm _ ((if_neg hc267).trans ((if_neg hc268).trans (if_pos hc269))).symm _ ((if_neg hc267).trans (if_neg hc268)).symm _ ((if_neg hc267).trans ((if_neg hc268).trans (if_pos hc269))).symm _ ((if_neg hc267).trans ((if_neg hc268).trans (if_pos hc269))).symm _ ((if_neg hc267).trans ((if_neg hc268).trans (if_pos hc269))).symm _ (if_neg hc267).symm)
          ·refine zT Ad W (t := 217) (f := 206) rfl (XT.ii_ne_t hc269) ?_
           refine zS Ad W 2 (st' := (219, [vR 0, vI x1, vR 1, vI v.1, vI v.2.1, vI v.2.2.1, vI v.2.2.2.1, vI v.2.2.2.2.1, vI v.2.2.2.2.2.1, vI v.2.2.2.2.2.2.1, vI v.2.2.2.2.2.2.2.1, vI v.2.2.2.2.2.2.2.2.1, vI v.2.2.2.2.2.2.2.2.2.1, vI v.2.2.2.2.2.2.2.2.2.2.1, vI v.2.2.2.2.2.2.2.2.2.2.2.1, vI v.2.2.2.2.2.2.2.2.2.2.2.2.1, vI v.2.2.2.2.2.2.2.2.2.2.2.2.2.1, vI v.2.2.2.2.2.2.2.2.2.2.2.2.2.2.1, vI v.2.2.2.2.2.2.2.2.2.2.2.2.2.2.2.1, vI v.2.2.2.2.2.2.2.2.2.2.2.2.2.2.2.2.1, vI v.2.2.2.2.2.2.2.2.2.2.2.2.2.2.2.2.2.1, vI v.2.2.2.2.2.2.2.2.2.2.2.2.2.2.2.2.2.2.1, vI (y60 &&& (7:Int32)), vI ((y62 &&& (2147483647:Int32)) % (34:Int32)), vI ((y64 &&& (2147483647:Int32)) % (34:Int32)), vI v.1, none, none, none, none, none, none], [.int (2:Int32), .int v.1], (H0 s v.2.2.2.2.2.2.2.2.2.2.2.2.2.2.2.2.2.2.2))) rfl ?_
           rcases em (v.1 = (2:Int32)) with hc270 | hc270
           ·refine zF Ad W (t := 233) (f := 222) rfl (XT.ii_ne_f hc270) ?_
            refine zS Ad W 4 (st' := (230, [vR 0, vI x1, vR 1, vI v.1, vI v.2.1, vI v.2.2.1, vI v.2.2.2.1, vI ((y62 &&& (2147483647:Int32)) % (34:Int32)), vI v.2.2.2.2.2.1, vI v.2.2.2.2.2.2.1, vI v.2.2.2.2.2.2.2.1, vI ((y64 &&& (2147483647:Int32)) % (34:Int32)), vI v.2.2.2.2.2.2.2.2.2.1, vI v.2.2.2.2.2.2.2.2.2.2.1, vI v.2.2.2.2.2.2.2.2.2.2.2.1, vI v.2.2.2.2.2.2.2.2.2.2.2.2.1, vI v.2.2.2.2.2.2.2.2.2.2.2.2.2.1, vI v.2.2.2.2.2.2.2.2.2.2.2.2.2.2.1, vI v.2.2.2.2.2.2.2.2.2.2.2.2.2.2.2.1, vI v.2.2.2.2.2.2.2.2.2.2.2.2.2.2.2.2.1, vI v.2.2.2.2.2.2.2.2.2.2.2.2.2.2.2.2.2.1, vI v.2.2.2.2.2.2.2.2.2.2.2.2.2.2.2.2.2.2.1, vI (y60 &&& (7:Int32)), vI ((y62 &&& (2147483647:Int32)) % (34:Int32)), vI ((y64 &&& (2147483647:Int32)) % (34:Int32)), vI v.1, none, none, none, none, none, none], [], (H0 s v.2.2.2.2.2.2.2.2.2.2.2.2.2.2.2.2.2.2.2))) rfl ?_
            refine zS Ad W 2 (st' := (244, [vR 0, vI x1, vR 1, vI (v.1 + (1:Int32)), vI v.2.1, vI v.2.2.1, vI v.2.2.2.1, vI ((y62 &&& (2147483647:Int32)) % (34:Int32)), vI v.2.2.2.2.2.1, vI v.2.2.2.2.2.2.1, vI v.2.2.2.2.2.2.2.1, vI ((y64 &&& (2147483647:Int32)) % (34:Int32)), vI v.2.2.2.2.2.2.2.2.2.1, vI v.2.2.2.2.2.2.2.2.2.2.1, vI v.2.2.2.2.2.2.2.2.2.2.2.1, vI v.2.2.2.2.2.2.2.2.2.2.2.2.1, vI v.2.2.2.2.2.2.2.2.2.2.2.2.2.1, vI v.2.2.2.2.2.2.2.2.2.2.2.2.2.2.1, vI v.2.2.2.2.2.2.2.2.2.2.2.2.2.2.2.1, vI v.2.2.2.2.2.2.2.2.2.2.2.2.2.2.2.2.1, vI v.2.2.2.2.2.2.2.2.2.2.2.2.2.2.2.2.2.1, vI v.2.2.2.2.2.2.2.2.2.2.2.2.2.2.2.2.2.2.1, vI (y60 &&& (7:Int32)), vI ((y62 &&& (2147483647:Int32)) % (34:Int32)), vI ((y64 &&& (2147483647:Int32)) % (34:Int32)), vI v.1, none, none, none, none, none, none], [], (H0 s v.2.2.2.2.2.2.2.2.2.2.2.2.2.2.2.2.2.2.2))) rfl ?_
            exact zM [tt,tt,tt,tt,tt,tt,tt,tt,tt,tt,tt,tt,tt,tt,tt,tt,tt,tt,tt,tt,tt,tt,ff,tt,tt,tt,ff,ff,ff,ff,ff,ff] (K266 _ (if_neg hc267).symm _ ((if_neg hc267).trans (if_neg hc268)).symm _ ((if_neg hc267).trans ((if_neg hc268).trans (if_neg hc269))).symm _ ((if_neg hc267).trans ((if_neg hc268).trans ((if_neg hc269).trans (if_pos hc270)))).symm _ ((if_neg hc267).trans ((if_neg hc268).trans ((if_neg hc269).trans (if_pos hc270)))).symm _ ((if_neg hc267).trans (if_neg hc268)).symm _ ((if_neg hc267).trans ((if_neg hc268).trans (if_neg hc269))).symm _ ((if_neg hc267).trans ((if_neg hc268).trans ((if_neg hc269).trans (if_pos hc270)))).symm _ ((if_neg hc267).trans ((if_neg hc268).trans ((if_neg hc269).trans (if_pos hc270)))).symm _ (if_neg hc267).symm)
           ·refine zT Ad W (t := 233) (f := 222) rfl (XT.ii_ne_t hc270) ?_
            refine zS Ad W 4 (st' := (241, [vR 0, vI x1, vR 1, vI v.1, vI v.2.1, vI v.2.2.1, vI v.2.2.2.1, vI v.2.2.2.2.1, vI ((y62 &&& (2147483647:Int32)) % (34:Int32)), vI v.2.2.2.2.2.2.1, vI v.2.2.2.2.2.2.2.1, vI v.2.2.2.2.2.2.2.2.1, vI ((y64 &&& (2147483647:Int32)) % (34:Int32)), vI v.2.2.2.2.2.2.2.2.2.2.1, vI v.2.2.2.2.2.2.2.2.2.2.2.1, vI v.2.2.2.2.2.2.2.2.2.2.2.2.1, vI v.2.2.2.2.2.2.2.2.2.2.2.2.2.1, vI v.2.2.2.2.2.2.2.2.2.2.2.2.2.2.1, vI v.2.2.2.2.2.2.2.2.2.2.2.2.2.2.2.1, vI v.2.2.2.2.2.2.2.2.2.2.2.2.2.2.2.2.1, vI v.2.2.2.2.2.2.2.2.2.2.2.2.2.2.2.2.2.1, vI v.2.2.2.2.2.2.2.2.2.2.2.2.2.2.2.2.2.2.1, vI (y60 &&& (7:Int32)), vI ((y62 &&& (2147483647:Int32)) % (34:Int32)), vI ((y64 &&& (2147483647:Int32)) % (34:Int32)), vI v.1, none, none, none, none, none, none], [], (H0 s v.2.2.2.2.2.2.2.2.2.2.2.2.2.2.2.2.2.2.2))) rfl ?_
            refine zS Ad W 1 (st' := (244, [vR 0, vI x1, vR 1, vI (v.1 + (1:Int32)), vI v.2.1, vI v.2.2.1, vI v.2.2.2.1, vI v.2.2.2.2.1, vI ((y62 &&& (2147483647:Int32)) % (34:Int32)), vI v.2.2.2.2.2.2.1, vI v.2.2.2.2.2.2.2.1, vI v.2.2.2.2.2.2.2.2.1, vI ((y64 &&& (2147483647:Int32)) % (34:Int32)), vI v.2.2.2.2.2.2.2.2.2.2.1, vI v.2.2.2.2.2.2.2.2.2.2.2.1, vI v.2.2.2.2.2.2.2.2.2.2.2.2.1, vI v.2.2.2.2.2.2.2.2.2.2.2.2.2.1, vI v.2.2.2.2.2.2.2.2.2.2.2.2.2.2.1, vI v.2.2.2.2.2.2.2.2.2.2.2.2.2.2.2.1, vI v.2.2.2.2.2.2.2.2.2.2.2.2.2.2.2.2.1, vI v.2.2.2.2.2.2.2.2.2.2.2.2.2.2.2.2.2.1, vI v.2.2.2.2.2.2.2.2.2.2.2.2.2.2.2.2.2.2.1, vI (y60 &&& (7:Int32)), vI ((y62 &&& (2147483647:Int32)) % (34:Int32)), vI ((y64 &&& (2147483647:Int32)) % (34:Int32)), vI v.1, none, none, none, none, none, none], [], (H0 s v.2.2.2.2.2.2.2.2.2.2.2.2.2.2.2.2.2.2.2))) rfl ?_
            exact zM [tt,tt,tt,tt,tt,tt,tt,tt,tt,tt,tt,tt,tt,tt,tt,tt,tt,tt,tt,tt,tt,tt,ff,tt,tt,tt,ff,ff,ff,ff,ff,ff] (K266 _ (if_neg hc267).symm _ ((if_neg hc267).trans (if_neg hc268)).symm _ ((if_neg hc267).trans ((if_neg hc268).trans (if_neg hc269))).symm _ ((if_neg hc267).trans ((if_neg hc268).trans ((if_neg hc269).trans (if_neg hc270)))).symm _ ((if_neg hc267).trans ((if_neg hc268).trans ((if_neg hc269).trans (if_neg hc270)))).symm _ ((if_neg hc267).trans (if_neg hc268)).symm _ ((if_neg hc267).trans ((if_neg hc268).trans (if_neg hc269))).symm _ ((if_neg hc267).trans ((if_neg hc268).trans ((if_neg hc269).trans (if_neg hc270)))).symm _ ((if_neg hc267).trans ((if_neg hc268).trans ((if_neg hc269).trans (if_neg hc270)))).symm _ (if_neg hc267).symm)
    ·refine zT Ad W (t := 244) (f := 157) rfl (XT.ii_ge_t hc67) ?_
     exact zM [tt,tt,tt,tt,tt,tt,tt,tt,tt,tt,tt,tt,tt,tt,tt,tt,tt,tt,tt,tt,tt,tt,ff,tt,tt,tt,ff,ff,ff,ff,ff,ff] (tJ0_244 Ad W s v.2.2.2.2.2.2.2.2.2.2.2.2.2.2.2.2.2.2.2 x1 v.1 v.2.1 v.2.2.1 v.2.2.2.1 v.2.2.2.2.1 v.2.2.2.2.2.1 v.2.2.2.2.2.2.1 v.2.2.2.2.2.2.2.1 v.2.2.2.2.2.2.2.2.1 v.2.2.2.2.2.2.2.2.2.1 v.2.2.2.2.2.2.2.2.2.2.1 v.2.2.2.2.2.2.2.2.2.2.2.1 v.2.2.2.2.2.2.2.2.2.2.2.2.1 v.2.2.2.2.2.2.2.2.2.2.2.2.2.1 v.2.2.2.2.2.2.2.2.2.2.2.2.2.2.1 v.2.2.2.2.2.2.2.2.2.2.2.2.2.2.2.1 v.2.2.2.2.2.2.2.2.2.2.2.2.2.2.2.2.1 v.2.2.2.2.2.2.2.2.2.2.2.2.2.2.2.2.2.1 v.2.2.2.2.2.2.2.2.2.2.2.2.2.2.2.2.2.2.1 ((y62 &&& (2147483647:Int32)) % (34:Int32)) ((y64 &&& (2147483647:Int32)) % (34:Int32)) (-1:Int32) h hx0 hc)
   ·refine zT Ad W (t := 244) (f := 152) rfl (XT.i0_ne_t hc66) ?_
    exact zM [tt,tt,tt,tt,tt,tt,tt,tt,tt,tt,tt,tt,tt,tt,tt,tt,tt,tt,tt,tt,tt,tt,ff,tt,tt,tt,ff,ff,ff,ff,ff,ff] (tJ0_244 Ad W s v.2.2.2.2.2.2.2.2.2.2.2.2.2.2.2.2.2.2.2 x1 v.1 v.2.1 v.2.2.1 v.2.2.2.1 v.2.2.2.2.1 v.2.2.2.2.2.1 v.2.2.2.2.2.2.1 v.2.2.2.2.2.2.2.1 v.2.2.2.2.2.2.2.2.1 v.2.2.2.2.2.2.2.2.2.1 v.2.2.2.2.2.2.2.2.2.2.1 v.2.2.2.2.2.2.2.2.2.2.2.1 v.2.2.2.2.2.2.2.2.2.2.2.2.1 v.2.2.2.2.2.2.2.2.2.2.2.2.2.1 v.2.2.2.2.2.2.2.2.2.2.2.2.2.2.1 v.2.2.2.2.2.2.2.2.2.2.2.2.2.2.2.1 v.2.2.2.2.2.2.2.2.2.2.2.2.2.2.2.2.1 v.2.2.2.2.2.2.2.2.2.2.2.2.2.2.2.2.2.1 v.2.2.2.2.2.2.2.2.2.2.2.2.2.2.2.2.2.2.1 ((y62 &&& (2147483647:Int32)) % (34:Int32)) ((y64 &&& (2147483647:Int32)) % (34:Int32)) (-1:Int32) h hx0 hc)
  ·refine zT Ad W (t := 262) (f := 116) rfl (XT.ii_ge_t hc61) ?_
   refine zS Ad W 2 (st' := (266, [vR 0, vI x1, vR 1, vI v.1, vI v.2.1, vI v.2.2.1, vI v.2.2.2.1, vI v.2.2.2.2.1, vI v.2.2.2.2.2.1, vI v.2.2.2.2.2.2.1, vI v.2.2.2.2.2.2.2.1, vI v.2.2.2.2.2.2.2.2.1, vI v.2.2.2.2.2.2.2.2.2.1, vI v.2.2.2.2.2.2.2.2.2.2.1, vI v.2.2.2.2.2.2.2.2.2.2.2.1, vI v.2.2.2.2.2.2.2.2.2.2.2.2.1, vI v.2.2.2.2.2.2.2.2.2.2.2.2.2.1, vI v.2.2.2.2.2.2.2.2.2.2.2.2.2.2.1, vI v.2.2.2.2.2.2.2.2.2.2.2.2.2.2.2.1, vI v.2.2.2.2.2.2.2.2.2.2.2.2.2.2.2.2.1, vI v.2.2.2.2.2.2.2.2.2.2.2.2.2.2.2.2.2.1, vI v.2.2.2.2.2.2.2.2.2.2.2.2.2.2.2.2.2.2.1, vI (y60 &&& (7:Int32)), none, none, none, none, none, none, none, none, none], [.int (7:Int32), .int (y60 &&& (7:Int32))], (H0 s v.2.2.2.2.2.2.2.2.2.2.2.2.2.2.2.2.2.2.2))) rfl ?_
   rcases qite h with ⟨hc271, h⟩ | ⟨hc271, h⟩
   ·refine zF Ad W (t := 475) (f := 269) rfl (XT.ii_ge_f hc271) ?_
    refine zS Ad W 4 (st' := (274, [vR 0, vI x1, vR 1, vI v.1, vI v.2.1, vI v.2.2.1, vI v.2.2.2.1, vI v.2.2.2.2.1, vI v.2.2.2.2.2.1, vI v.2.2.2.2.2.2.1, vI v.2.2.2.2.2.2.2.1, vI v.2.2.2.2.2.2.2.2.1, vI v.2.2.2.2.2.2.2.2.2.1, vI v.2.2.2.2.2.2.2.2.2.2.1, vI v.2.2.2.2.2.2.2.2.2.2.2.1, vI v.2.2.2.2.2.2.2.2.2.2.2.2.1, vI v.2.2.2.2.2.2.2.2.2.2.2.2.2.1, vI v.2.2.2.2.2.2.2.2.2.2.2.2.2.2.1, vI v.2.2.2.2.2.2.2.2.2.2.2.2.2.2.2.1, vI v.2.2.2.2.2.2.2.2.2.2.2.2.2.2.2.2.1, vI v.2.2.2.2.2.2.2.2.2.2.2.2.2.2.2.2.2.1, vI v.2.2.2.2.2.2.2.2.2.2.2.2.2.2.2.2.2.2.1, vI (y60 &&& (7:Int32)), none, none, none, none, none, none, none, none, none], [.int (v.2.2.2.2.2.2.2.2.2.2.2.2.2.2.2.2.2.2.1 + (1:Int32)), .ref 0], (H0 s v.2.2.2.2.2.2.2.2.2.2.2.2.2.2.2.2.2.2.2))) rfl ?_
    obtain ⟨y272, hy272, h⟩ := bind_eq_some_iff.mp h
    refine zB Ad W (f := fun y272 => (275, [vR 0, vI x1, vR 1, vI v.1, vI v.2.1, vI v.2.2.1, vI v.2.2.2.1, vI v.2.2.2.2.1, vI v.2.2.2.2.2.1, vI v.2.2.2.2.2.2.1, vI v.2.2.2.2.2.2.2.1, vI v.2.2.2.2.2.2.2.2.1, vI v.2.2.2.2.2.2.2.2.2.1, vI v.2.2.2.2.2.2.2.2.2.2.1, vI v.2.2.2.2.2.2.2.2.2.2.2.1, vI v.2.2.2.2.2.2.2.2.2.2.2.2.1, vI v.2.2.2.2.2.2.2.2.2.2.2.2.2.1, vI v.2.2.2.2.2.2.2.2.2.2.2.2.2.2.1, vI v.2.2.2.2.2.2.2.2.2.2.2.2.2.2.2.1, vI v.2.2.2.2.2.2.2.2.2.2.2.2.2.2.2.2.1, vI v.2.2.2.2.2.2.2.2.2.2.2.2.2.2.2.2.2.1, vI v.2.2.2.2.2.2.2.2.2.2.2.2.2.2.2.2.2.2.1, vI (y60 &&& (7:Int32)), none, none, none, none, none, none, none, none, none], [.int y272], (H0 s v.2.2.2.2.2.2.2.2.2.2.2.2.2.2.2.2.2.2.2))) rfl hy272 ?_
    refine zS Ad W 9 (st' := (288, [vR 0, vI x1, vR 1, vI v.1, vI v.2.1, vI v.2.2.1, vI v.2.2.2.1, vI v.2.2.2.2.1, vI v.2.2.2.2.2.1, vI v.2.2.2.2.2.2.1, vI v.2.2.2.2.2.2.2.1, vI v.2.2.2.2.2.2.2.2.1, vI v.2.2.2.2.2.2.2.2.2.1, vI v.2.2.2.2.2.2.2.2.2.2.1, vI v.2.2.2.2.2.2.2.2.2.2.2.1, vI v.2.2.2.2.2.2.2.2.2.2.2.2.1, vI v.2.2.2.2.2.2.2.2.2.2.2.2.2.1, vI v.2.2.2.2.2.2.2.2.2.2.2.2.2.2.1, vI v.2.2.2.2.2.2.2.2.2.2.2.2.2.2.2.1, vI v.2.2.2.2.2.2.2.2.2.2.2.2.2.2.2.2.1, vI v.2.2.2.2.2.2.2.2.2.2.2.2.2.2.2.2.2.1, vI v.2.2.2.2.2.2.2.2.2.2.2.2.2.2.2.2.2.2.1, vI (y60 &&& (7:Int32)), vI ((y272 &&& (15:Int32)) - (7:Int32)), none, none, none, none, none, none, none, none], [.int (v.2.2.2.2.2.2.2.2.2.2.2.2.2.2.2.2.2.2.1 + (2:Int32)), .ref 0], (H0 s v.2.2.2.2.2.2.2.2.2.2.2.2.2.2.2.2.2.2.2))) rfl ?_
    obtain ⟨y273, hy273, h⟩ := bind_eq_some_iff.mp h
    refine zB Ad W (f := fun y273 => (289, [vR 0, vI x1, vR 1, vI v.1, vI v.2.1, vI v.2.2.1, vI v.2.2.2.1, vI v.2.2.2.2.1, vI v.2.2.2.2.2.1, vI v.2.2.2.2.2.2.1, vI v.2.2.2.2.2.2.2.1, vI v.2.2.2.2.2.2.2.2.1, vI v.2.2.2.2.2.2.2.2.2.1, vI v.2.2.2.2.2.2.2.2.2.2.1, vI v.2.2.2.2.2.2.2.2.2.2.2.1, vI v.2.2.2.2.2.2.2.2.2.2.2.2.1, vI v.2.2.2.2.2.2.2.2.2.2.2.2.2.1, vI v.2.2.2.2.2.2.2.2.2.2.2.2.2.2.1, vI v.2.2.2.2.2.2.2.2.2.2.2.2.2.2.2.1, vI v.2.2.2.2.2.2.2.2.2.2.2.2.2.2.2.2.1, vI v.2.2.2.2.2.2.2.2.2.2.2.2.2.2.2.2.2.1, vI v.2.2.2.2.2.2.2.2.2.2.2.2.2.2.2.2.2.2.1, vI (y60 &&& (7:Int32)), vI ((y272 &&& (15:Int32)) - (7:Int32)), none, none, none, none, none, none, none, none], [.int y273], (H0 s v.2.2.2.2.2.2.2.2.2.2.2.2.2.2.2.2.2.2.2))) rfl hy273 ?_
    refine zS Ad W 9 (st' := (302, [vR 0, vI x1, vR 1, vI v.1, vI v.2.1, vI v.2.2.1, vI v.2.2.2.1, vI v.2.2.2.2.1, vI v.2.2.2.2.2.1, vI v.2.2.2.2.2.2.1, vI v.2.2.2.2.2.2.2.1, vI v.2.2.2.2.2.2.2.2.1, vI v.2.2.2.2.2.2.2.2.2.1, vI v.2.2.2.2.2.2.2.2.2.2.1, vI v.2.2.2.2.2.2.2.2.2.2.2.1, vI v.2.2.2.2.2.2.2.2.2.2.2.2.1, vI v.2.2.2.2.2.2.2.2.2.2.2.2.2.1, vI v.2.2.2.2.2.2.2.2.2.2.2.2.2.2.1, vI v.2.2.2.2.2.2.2.2.2.2.2.2.2.2.2.1, vI v.2.2.2.2.2.2.2.2.2.2.2.2.2.2.2.2.1, vI v.2.2.2.2.2.2.2.2.2.2.2.2.2.2.2.2.2.1, vI v.2.2.2.2.2.2.2.2.2.2.2.2.2.2.2.2.2.2.1, vI (y60 &&& (7:Int32)), vI ((y272 &&& (15:Int32)) - (7:Int32)), vI ((y273 &&& (15:Int32)) - (7:Int32)), none, none, none, none, none, none, none], [.int (v.2.2.2.2.2.2.2.2.2.2.2.2.2.2.2.2.2.2.1 + (3:Int32)), .ref 0], (H0 s v.2.2.2.2.2.2.2.2.2.2.2.2.2.2.2.2.2.2.2))) rfl ?_
    obtain ⟨y274, hy274, h⟩ := bind_eq_some_iff.mp h
    refine zB Ad W (f := fun y274 => (303, [vR 0, vI x1, vR 1, vI v.1, vI v.2.1, vI v.2.2.1, vI v.2.2.2.1, vI v.2.2.2.2.1, vI v.2.2.2.2.2.1, vI v.2.2.2.2.2.2.1, vI v.2.2.2.2.2.2.2.1, vI v.2.2.2.2.2.2.2.2.1, vI v.2.2.2.2.2.2.2.2.2.1, vI v.2.2.2.2.2.2.2.2.2.2.1, vI v.2.2.2.2.2.2.2.2.2.2.2.1, vI v.2.2.2.2.2.2.2.2.2.2.2.2.1, vI v.2.2.2.2.2.2.2.2.2.2.2.2.2.1, vI v.2.2.2.2.2.2.2.2.2.2.2.2.2.2.1, vI v.2.2.2.2.2.2.2.2.2.2.2.2.2.2.2.1, vI v.2.2.2.2.2.2.2.2.2.2.2.2.2.2.2.2.1, vI v.2.2.2.2.2.2.2.2.2.2.2.2.2.2.2.2.2.1, vI v.2.2.2.2.2.2.2.2.2.2.2.2.2.2.2.2.2.2.1, vI (y60 &&& (7:Int32)), vI ((y272 &&& (15:Int32)) - (7:Int32)), vI ((y273 &&& (15:Int32)) - (7:Int32)), none, none, none, none, none, none, none], [.int y274], (H0 s v.2.2.2.2.2.2.2.2.2.2.2.2.2.2.2.2.2.2.2))) rfl hy274 ?_
    refine zS Ad W 9 (st' := (316, [vR 0, vI x1, vR 1, vI v.1, vI v.2.1, vI v.2.2.1, vI v.2.2.2.1, vI v.2.2.2.2.1, vI v.2.2.2.2.2.1, vI v.2.2.2.2.2.2.1, vI v.2.2.2.2.2.2.2.1, vI v.2.2.2.2.2.2.2.2.1, vI v.2.2.2.2.2.2.2.2.2.1, vI v.2.2.2.2.2.2.2.2.2.2.1, vI v.2.2.2.2.2.2.2.2.2.2.2.1, vI v.2.2.2.2.2.2.2.2.2.2.2.2.1, vI v.2.2.2.2.2.2.2.2.2.2.2.2.2.1, vI v.2.2.2.2.2.2.2.2.2.2.2.2.2.2.1, vI v.2.2.2.2.2.2.2.2.2.2.2.2.2.2.2.1, vI v.2.2.2.2.2.2.2.2.2.2.2.2.2.2.2.2.1, vI v.2.2.2.2.2.2.2.2.2.2.2.2.2.2.2.2.2.1, vI v.2.2.2.2.2.2.2.2.2.2.2.2.2.2.2.2.2.2.1, vI (y60 &&& (7:Int32)), vI ((y272 &&& (15:Int32)) - (7:Int32)), vI ((y273 &&& (15:Int32)) - (7:Int32)), vI ((y274 &&& (15:Int32)) - (7:Int32)), none, none, none, none, none, none], [.int (v.2.2.2.2.2.2.2.2.2.2.2.2.2.2.2.2.2.2.1 + (4:Int32)), .ref 0], (H0 s v.2.2.2.2.2.2.2.2.2.2.2.2.2.2.2.2.2.2.2))) rfl ?_
    obtain ⟨y275, hy275, h⟩ := bind_eq_some_iff.mp h
    refine zB Ad W (f := fun y275 => (317, [vR 0, vI x1, vR 1, vI v.1, vI v.2.1, vI v.2.2.1, vI v.2.2.2.1, vI v.2.2.2.2.1, vI v.2.2.2.2.2.1, vI v.2.2.2.2.2.2.1, vI v.2.2.2.2.2.2.2.1, vI v.2.2.2.2.2.2.2.2.1, vI v.2.2.2.2.2.2.2.2.2.1, vI v.2.2.2.2.2.2.2.2.2.2.1, vI v.2.2.2.2.2.2.2.2.2.2.2.1, vI v.2.2.2.2.2.2.2.2.2.2.2.2.1, vI v.2.2.2.2.2.2.2.2.2.2.2.2.2.1, vI v.2.2.2.2.2.2.2.2.2.2.2.2.2.2.1, vI v.2.2.2.2.2.2.2.2.2.2.2.2.2.2.2.1, vI v.2.2.2.2.2.2.2.2.2.2.2.2.2.2.2.2.1, vI v.2.2.2.2.2.2.2.2.2.2.2.2.2.2.2.2.2.1, vI v.2.2.2.2.2.2.2.2.2.2.2.2.2.2.2.2.2.2.1, vI (y60 &&& (7:Int32)), vI ((y272 &&& (15:Int32)) - (7:Int32)), vI ((y273 &&& (15:Int32)) - (7:Int32)), vI ((y274 &&& (15:Int32)) - (7:Int32)), none, none, none, none, none, none], [.int y275], (H0 s v.2.2.2.2.2.2.2.2.2.2.2.2.2.2.2.2.2.2.2))) rfl hy275 ?_
    refine zS Ad W 6 (st' := (328, [vR 0, vI x1, vR 1, vI v.1, vI (v.2.1 + (1:Int32)), vI v.2.2.1, vI v.2.2.2.1, vI v.2.2.2.2.1, vI v.2.2.2.2.2.1, vI v.2.2.2.2.2.2.1, vI v.2.2.2.2.2.2.2.1, vI v.2.2.2.2.2.2.2.2.1, vI v.2.2.2.2.2.2.2.2.2.1, vI v.2.2.2.2.2.2.2.2.2.2.1, vI v.2.2.2.2.2.2.2.2.2.2.2.1, vI v.2.2.2.2.2.2.2.2.2.2.2.2.1, vI v.2.2.2.2.2.2.2.2.2.2.2.2.2.1, vI v.2.2.2.2.2.2.2.2.2.2.2.2.2.2.1, vI v.2.2.2.2.2.2.2.2.2.2.2.2.2.2.2.1, vI v.2.2.2.2.2.2.2.2.2.2.2.2.2.2.2.2.1, vI v.2.2.2.2.2.2.2.2.2.2.2.2.2.2.2.2.2.1, vI v.2.2.2.2.2.2.2.2.2.2.2.2.2.2.2.2.2.2.1, vI (y60 &&& (7:Int32)), vI ((y272 &&& (15:Int32)) - (7:Int32)), vI ((y273 &&& (15:Int32)) - (7:Int32)), vI ((y274 &&& (15:Int32)) - (7:Int32)), vI ((y275 &&& (15:Int32)) - (7:Int32)), none, none, none, none, none], [], (H0 s v.2.2.2.2.2.2.2.2.2.2.2.2.2.2.2.2.2.2.2))) rfl ?_
    refine zS Ad W 4 (st' := (334, [vR 0, vI x1, vR 1, vI v.1, vI (v.2.1 + (1:Int32)), vI v.2.2.1, vI v.2.2.2.1, vI v.2.2.2.2.1, vI v.2.2.2.2.2.1, vI v.2.2.2.2.2.2.1, vI v.2.2.2.2.2.2.2.1, vI v.2.2.2.2.2.2.2.2.1, vI v.2.2.2.2.2.2.2.2.2.1, vI v.2.2.2.2.2.2.2.2.2.2.1, vI v.2.2.2.2.2.2.2.2.2.2.2.1, vI v.2.2.2.2.2.2.2.2.2.2.2.2.1, vI v.2.2.2.2.2.2.2.2.2.2.2.2.2.1, vI v.2.2.2.2.2.2.2.2.2.2.2.2.2.2.1, vI v.2.2.2.2.2.2.2.2.2.2.2.2.2.2.2.1, vI v.2.2.2.2.2.2.2.2.2.2.2.2.2.2.2.2.1, vI v.2.2.2.2.2.2.2.2.2.2.2.2.2.2.2.2.2.1, vI v.2.2.2.2.2.2.2.2.2.2.2.2.2.2.2.2.2.2.1, vI (y60 &&& (7:Int32)), vI ((y272 &&& (15:Int32)) - (7:Int32)), vI ((y273 &&& (15:Int32)) - (7:Int32)), vI ((y274 &&& (15:Int32)) - (7:Int32)), vI ((y275 &&& (15:Int32)) - (7:Int32)), none, none, none, none, none], [.int v.2.2.2.2.2.2.1, .int (v.2.1 + (1:Int32)), .int v.1, .int (0:Int32)], (H0 s v.2.2.2.2.2.2.2.2.2.2.2.2.2.2.2.2.2.2.2))) rfl ?_
    obtain ⟨r279, hr279, h⟩ := bind_eq_some_iff.mp h
    refine QTri.callS W (as := [.int (0:Int32), .int v.1, .int (v.2.1 + (1:Int32)), .int v.2.2.2.2.2.2.1]) (rest := []) (w := (some (.int r279))) (σ₁ := (H0 s v.2.2.2.2.2.2.2.2.2.2.2.2.2.2.2.2.2.2.2)) rfl rfl rfl rfl rfl rfl rfl (tF8 Ad W (0:Int32) v.1 (v.2.1 + (1:Int32)) v.2.2.2.2.2.2.1 hr279) ?_
    refine zS Ad W 4 (st' := (343, [vR 0, vI x1, vR 1, vI v.1, vI (v.2.1 + (1:Int32)), vI v.2.2.1, vI v.2.2.2.1, vI v.2.2.2.2.1, vI v.2.2.2.2.2.1, vI v.2.2.2.2.2.2.1, vI v.2.2.2.2.2.2.2.1, vI v.2.2.2.2.2.2.2.2.1, vI v.2.2.2.2.2.2.2.2.2.1, vI v.2.2.2.2.2.2.2.2.2.2.1, vI v.2.2.2.2.2.2.2.2.2.2.2.1, vI v.2.2.2.2.2.2.2.2.2.2.2.2.1, vI v.2.2.2.2.2.2.2.2.2.2.2.2.2.1, vI v.2.2.2.2.2.2.2.2.2.2.2.2.2.2.1, vI v.2.2.2.2.2.2.2.2.2.2.2.2.2.2.2.1, vI v.2.2.2.2.2.2.2.2.2.2.2.2.2.2.2.2.1, vI v.2.2.2.2.2.2.2.2.2.2.2.2.2.2.2.2.2.1, vI v.2.2.2.2.2.2.2.2.2.2.2.2.2.2.2.2.2.2.1, vI (y60 &&& (7:Int32)), vI ((y272 &&& (15:Int32)) - (7:Int32)), vI ((y273 &&& (15:Int32)) - (7:Int32)), vI ((y274 &&& (15:Int32)) - (7:Int32)), vI ((y275 &&& (15:Int32)) - (7:Int32)), none, none, none, none, none], [.int v.2.2.2.2.2.2.2.1, .int (v.2.1 + (1:Int32)), .int v.1, .int (1:Int32), .int r279], (H0 s v.2.2.2.2.2.2.2.2.2.2.2.2.2.2.2.2.2.2.2))) rfl ?_
    obtain ⟨r280, hr280, h⟩ := bind_eq_some_iff.mp h
    refine QTri.callS W (as := [.int (1:Int32), .int v.1, .int (v.2.1 + (1:Int32)), .int v.2.2.2.2.2.2.2.1]) (rest := [.int r279]) (w := (some (.int r280))) (σ₁ := (H0 s v.2.2.2.2.2.2.2.2.2.2.2.2.2.2.2.2.2.2.2)) rfl rfl rfl rfl rfl rfl rfl (tF8 Ad W (1:Int32) v.1 (v.2.1 + (1:Int32)) v.2.2.2.2.2.2.2.1 hr280) ?_
    refine zS Ad W 5 (st' := (353, [vR 0, vI x1, vR 1, vI v.1, vI (v.2.1 + (1:Int32)), vI v.2.2.1, vI v.2.2.2.1, vI v.2.2.2.2.1, vI v.2.2.2.2.2.1, vI v.2.2.2.2.2.2.1, vI v.2.2.2.2.2.2.2.1, vI v.2.2.2.2.2.2.2.2.1, vI v.2.2.2.2.2.2.2.2.2.1, vI v.2.2.2.2.2.2.2.2.2.2.1, vI v.2.2.2.2.2.2.2.2.2.2.2.1, vI v.2.2.2.2.2.2.2.2.2.2.2.2.1, vI v.2.2.2.2.2.2.2.2.2.2.2.2.2.1, vI v.2.2.2.2.2.2.2.2.2.2.2.2.2.2.1, vI v.2.2.2.2.2.2.2.2.2.2.2.2.2.2.2.1, vI v.2.2.2.2.2.2.2.2.2.2.2.2.2.2.2.2.1, vI v.2.2.2.2.2.2.2.2.2.2.2.2.2.2.2.2.2.1, vI v.2.2.2.2.2.2.2.2.2.2.2.2.2.2.2.2.2.2.1, vI (y60 &&& (7:Int32)), vI ((y272 &&& (15:Int32)) - (7:Int32)), vI ((y273 &&& (15:Int32)) - (7:Int32)), vI ((y274 &&& (15:Int32)) - (7:Int32)), vI ((y275 &&& (15:Int32)) - (7:Int32)), none, none, none, none, none], [.int v.2.2.2.2.2.2.2.2.1, .int (v.2.1 + (1:Int32)), .int v.1, .int (2:Int32), .int (r279 + r280)], (H0 s v.2.2.2.2.2.2.2.2.2.2.2.2.2.2.2.2.2.2.2))) rfl ?_
    obtain ⟨r281, hr281, h⟩ := bind_eq_some_iff.mp h
    refine QTri.callS W (as := [.int (2:Int32), .int v.1, .int (v.2.1 + (1:Int32)), .int v.2.2.2.2.2.2.2.2.1]) (rest := [.int (r279 + r280)]) (w := (some (.int r281))) (σ₁ := (H0 s v.2.2.2.2.2.2.2.2.2.2.2.2.2.2.2.2.2.2.2)) rfl rfl rfl rfl rfl rfl rfl (tF8 Ad W (2:Int32) v.1 (v.2.1 + (1:Int32)) v.2.2.2.2.2.2.2.2.1 hr281) ?_
    refine zS Ad W 5 (st' := (363, [vR 0, vI x1, vR 1, vI v.1, vI (v.2.1 + (1:Int32)), vI v.2.2.1, vI v.2.2.2.1, vI v.2.2.2.2.1, vI v.2.2.2.2.2.1, vI v.2.2.2.2.2.2.1, vI v.2.2.2.2.2.2.2.1, vI v.2.2.2.2.2.2.2.2.1, vI v.2.2.2.2.2.2.2.2.2.1, vI v.2.2.2.2.2.2.2.2.2.2.1, vI v.2.2.2.2.2.2.2.2.2.2.2.1, vI v.2.2.2.2.2.2.2.2.2.2.2.2.1, vI v.2.2.2.2.2.2.2.2.2.2.2.2.2.1, vI v.2.2.2.2.2.2.2.2.2.2.2.2.2.2.1, vI v.2.2.2.2.2.2.2.2.2.2.2.2.2.2.2.1, vI v.2.2.2.2.2.2.2.2.2.2.2.2.2.2.2.2.1, vI v.2.2.2.2.2.2.2.2.2.2.2.2.2.2.2.2.2.1, vI v.2.2.2.2.2.2.2.2.2.2.2.2.2.2.2.2.2.2.1, vI (y60 &&& (7:Int32)), vI ((y272 &&& (15:Int32)) - (7:Int32)), vI ((y273 &&& (15:Int32)) - (7:Int32)), vI ((y274 &&& (15:Int32)) - (7:Int32)), vI ((y275 &&& (15:Int32)) - (7:Int32)), none, none, none, none, none], [.int v.2.2.2.2.2.2.2.2.2.1, .int (v.2.1 + (1:Int32)), .int v.1, .int (3:Int32), .int ((r279 + r280) + r281)], (H0 s v.2.2.2.2.2.2.2.2.2.2.2.2.2.2.2.2.2.2.2))) rfl ?_
    obtain ⟨r282, hr282, h⟩ := bind_eq_some_iff.mp h
    refine QTri.callS W (as := [.int (3:Int32), .int v.1, .int (v.2.1 + (1:Int32)), .int v.2.2.2.2.2.2.2.2.2.1]) (rest := [.int ((r279 + r280) + r281)]) (w := (some (.int r282))) (σ₁ := (H0 s v.2.2.2.2.2.2.2.2.2.2.2.2.2.2.2.2.2.2.2)) rfl rfl rfl rfl rfl rfl rfl (tF8 Ad W (3:Int32) v.1 (v.2.1 + (1:Int32)) v.2.2.2.2.2.2.2.2.2.1 hr282) ?_
    refine zS Ad W 7 (st' := (378, [vR 0, vI x1, vR 1, vI v.1, vI (v.2.1 + (1:Int32)), vI v.2.2.1, vI v.2.2.2.1, vI v.2.2.2.2.1, vI v.2.2.2.2.2.1, vI v.2.2.2.2.2.2.1, vI v.2.2.2.2.2.2.2.1, vI v.2.2.2.2.2.2.2.2.1, vI v.2.2.2.2.2.2.2.2.2.1, vI v.2.2.2.2.2.2.2.2.2.2.1, vI v.2.2.2.2.2.2.2.2.2.2.2.1, vI v.2.2.2.2.2.2.2.2.2.2.2.2.1, vI v.2.2.2.2.2.2.2.2.2.2.2.2.2.1, vI v.2.2.2.2.2.2.2.2.2.2.2.2.2.2.1, vI v.2.2.2.2.2.2.2.2.2.2.2.2.2.2.2.1, vI v.2.2.2.2.2.2.2.2.2.2.2.2.2.2.2.2.1, vI v.2.2.2.2.2.2.2.2.2.2.2.2.2.2.2.2.2.1, vI v.2.2.2.2.2.2.2.2.2.2.2.2.2.2.2.2.2.2.1, vI (y60 &&& (7:Int32)), vI ((y272 &&& (15:Int32)) - (7:Int32)), vI ((y273 &&& (15:Int32)) - (7:Int32)), vI ((y274 &&& (15:Int32)) - (7:Int32)), vI ((y275 &&& (15:Int32)) - (7:Int32)), vI (((r279 + r280) + r281) + r282), none, none, none, none], [.int ((y275 &&& (15:Int32)) - (7:Int32)), .int ((y274 &&& (15:Int32)) - (7:Int32)), .int ((y273 &&& (15:Int32)) - (7:Int32)), .int ((y272 &&& (15:Int32)) - (7:Int32)), .ref 1], (H0 s v.2.2.2.2.2.2.2.2.2.2.2.2.2.2.2.2.2.2.2))) rfl ?_
    obtain ⟨r369, hr369, h⟩ := bind_eq_some_iff.mp h
    refine QTri.callV W (a := 1) (as := [.int ((y272 &&& (15:Int32)) - (7:Int32)), .int ((y273 &&& (15:Int32)) - (7:Int32)), .int ((y274 &&& (15:Int32)) - (7:Int32)), .int ((y275 &&& (15:Int32)) - (7:Int32))]) (rest := []) (w := (some (.int r369.1))) (σ₁ := (H0 s r369.2)) rfl rfl rfl rfl rfl rfl rfl rfl (tF9 Ad W s v.2.2.2.2.2.2.2.2.2.2.2.2.2.2.2.2.2.2.2 ((y272 &&& (15:Int32)) - (7:Int32)) ((y273 &&& (15:Int32)) - (7:Int32)) ((y274 &&& (15:Int32)) - (7:Int32)) ((y275 &&& (15:Int32)) - (7:Int32)) hr369) ?_
    refine zS Ad W 1 (st' := (383, [vR 0, vI x1, vR 1, vI v.1, vI (v.2.1 + (1:Int32)), vI v.2.2.1, vI v.2.2.2.1, vI v.2.2.2.2.1, vI v.2.2.2.2.2.1, vI v.2.2.2.2.2.2.1, vI v.2.2.2.2.2.2.2.1, vI v.2.2.2.2.2.2.2.2.1, vI v.2.2.2.2.2.2.2.2.2.1, vI v.2.2.2.2.2.2.2.2.2.2.1, vI v.2.2.2.2.2.2.2.2.2.2.2.1, vI v.2.2.2.2.2.2.2.2.2.2.2.2.1, vI v.2.2.2.2.2.2.2.2.2.2.2.2.2.1, vI v.2.2.2.2.2.2.2.2.2.2.2.2.2.2.1, vI v.2.2.2.2.2.2.2.2.2.2.2.2.2.2.2.1, vI v.2.2.2.2.2.2.2.2.2.2.2.2.2.2.2.2.1, vI v.2.2.2.2.2.2.2.2.2.2.2.2.2.2.2.2.2.1, vI v.2.2.2.2.2.2.2.2.2.2.2.2.2.2.2.2.2.2.1, vI (y60 &&& (7:Int32)), vI ((y272 &&& (15:Int32)) - (7:Int32)), vI ((y273 &&& (15:Int32)) - (7:Int32)), vI ((y274 &&& (15:Int32)) - (7:Int32)), vI ((y275 &&& (15:Int32)) - (7:Int32)), vI (((r279 + r280) + r281) + r282), none, none, none, none], [.int (((r279 + r280) + r281) + r282), .int r369.1], (H0 s r369.2))) rfl ?_
    rcases qite h with ⟨hc370, h⟩ | ⟨hc370, h⟩
    ·refine zT Ad W (t := 388) (f := 386) rfl (XT.ii_eq_t hc370) ?_
     refine zS Ad W 12 (st' := (408, [vR 0, vI x1, vR 1, vI v.1, vI (v.2.1 + (1:Int32)), vI v.2.2.1, vI v.2.2.2.1, vI v.2.2.2.2.1, vI v.2.2.2.2.2.1, vI v.2.2.2.2.2.2.1, vI v.2.2.2.2.2.2.2.1, vI v.2.2.2.2.2.2.2.2.1, vI v.2.2.2.2.2.2.2.2.2.1, vI v.2.2.2.2.2.2.2.2.2.2.1, vI v.2.2.2.2.2.2.2.2.2.2.2.1, vI v.2.2.2.2.2.2.2.2.2.2.2.2.1, vI v.2.2.2.2.2.2.2.2.2.2.2.2.2.1, vI v.2.2.2.2.2.2.2.2.2.2.2.2.2.2.1, vI v.2.2.2.2.2.2.2.2.2.2.2.2.2.2.2.1, vI v.2.2.2.2.2.2.2.2.2.2.2.2.2.2.2.2.1, vI v.2.2.2.2.2.2.2.2.2.2.2.2.2.2.2.2.2.1, vI v.2.2.2.2.2.2.2.2.2.2.2.2.2.2.2.2.2.2.1, vI (y60 &&& (7:Int32)), vI ((y272 &&& (15:Int32)) - (7:Int32)), vI ((y273 &&& (15:Int32)) - (7:Int32)), vI ((y274 &&& (15:Int32)) - (7:Int32)), vI ((y275 &&& (15:Int32)) - (7:Int32)), vI (((r279 + r280) + r281) + r282), vI ((v.2.2.2.2.2.2.2.2.2.2.1 * ((y272 &&& (15:Int32)) - (7:Int32))) + (v.2.2.2.2.2.2.2.2.2.2.2.1 * ((y274 &&& (15:Int32)) - (7:Int32)))), none, none, none], [.int v.2.2.2.2.2.2.2.2.2.2.2.1, .int (v.2.2.2.2.2.2.2.2.2.2.1 * ((y273 &&& (15:Int32)) - (7:Int32)))], (H0 s r369.2))) rfl ?_
     refine zS Ad W 12 (st' := (427, [vR 0, vI x1, vR 1, vI v.1, vI (v.2.1 + (1:Int32)), vI v.2.2.1, vI v.2.2.2.1, vI v.2.2.2.2.1, vI v.2.2.2.2.2.1, vI v.2.2.2.2.2.2.1, vI v.2.2.2.2.2.2.2.1, vI v.2.2.2.2.2.2.2.2.1, vI v.2.2.2.2.2.2.2.2.2.1, vI v.2.2.2.2.2.2.2.2.2.2.1, vI v.2.2.2.2.2.2.2.2.2.2.2.1, vI v.2.2.2.2.2.2.2.2.2.2.2.2.1, vI v.2.2.2.2.2.2.2.2.2.2.2.2.2.1, vI v.2.2.2.2.2.2.2.2.2.2.2.2.2.2.1, vI v.2.2.2.2.2.2.2.2.2.2.2.2.2.2.2.1, vI v.2.2.2.2.2.2.2.2.2.2.2.2.2.2.2.2.1, vI v.2.2.2.2.2.2.2.2.2.2.2.2.2.2.2.2.2.1, vI v.2.2.2.2.2.2.2.2.2.2.2.2.2.2.2.2.2.2.1, vI (y60 &&& (7:Int32)), vI ((y272 &&& (15:Int32)) - (7:Int32)), vI ((y273 &&& (15:Int32)) - (7:Int32)), vI ((y274 &&& (15:Int32)) - (7:Int32)), vI ((y275 &&& (15:Int32)) - (7:Int32)), vI (((r279 + r280) + r281) + r282), vI ((v.2.2.2.2.2.2.2.2.2.2.1 * ((y272 &&& (15:Int32)) - (7:Int32))) + (v.2.2.2.2.2.2.2.2.2.2.2.1 * ((y274 &&& (15:Int32)) - (7:Int32)))), vI ((v.2.2.2.2.2.2.2.2.2.2.1 * ((y273 &&& (15:Int32)) - (7:Int32))) + (v.2.2.2.2.2.2.2.2.2.2.2.1 * ((y275 &&& (15:Int32)) - (7:Int32)))), vI ((v.2.2.2.2.2.2.2.2.2.2.2.2.1 * ((y272 &&& (15:Int32)) - (7:Int32))) + (v.2.2.2.2.2.2.2.2.2.2.2.2.2.1 * ((y274 &&& (15:Int32)) - (7:Int32)))), none], [], (H0 s r369.2))) rfl ?_
     refine zS Ad W 10 (st' := (444, [vR 0, vI x1, vR 1, vI v.1, vI (v.2.1 + (1:Int32)), vI v.2.2.1, vI v.2.2.2.1, vI v.2.2.2.2.1, vI v.2.2.2.2.2.1, vI v.2.2.2.2.2.2.1, vI v.2.2.2.2.2.2.2.1, vI v.2.2.2.2.2.2.2.2.1, vI v.2.2.2.2.2.2.2.2.2.1, vI ((v.2.2.2.2.2.2.2.2.2.2.1 * ((y272 &&& (15:Int32)) - (7:Int32))) + (v.2.2.2.2.2.2.2.2.2.2.2.1 * ((y274 &&& (15:Int32)) - (7:Int32)))), vI v.2.2.2.2.2.2.2.2.2.2.2.1, vI v.2.2.2.2.2.2.2.2.2.2.2.2.1, vI v.2.2.2.2.2.2.2.2.2.2.2.2.2.1, vI v.2.2.2.2.2.2.2.2.2.2.2.2.2.2.1, vI v.2.2.2.2.2.2.2.2.2.2.2.2.2.2.2.1, vI v.2.2.2.2.2.2.2.2.2.2.2.2.2.2.2.2.1, vI v.2.2.2.2.2.2.2.2.2.2.2.2.2.2.2.2.2.1, vI v.2.2.2.2.2.2.2.2.2.2.2.2.2.2.2.2.2.2.1, vI (y60 &&& (7:Int32)), vI ((y272 &&& (15:Int32)) - (7:Int32)), vI ((y273 &&& (15:Int32)) - (7:Int32)), vI ((y274 &&& (15:Int32)) - (7:Int32)), vI ((y275 &&& (15:Int32)) - (7:Int32)), vI (((r279 + r280) + r281) + r282), vI ((v.2.2.2.2.2.2.2.2.2.2.1 * ((y272 &&& (15:Int32)) - (7:Int32))) + (v.2.2.2.2.2.2.2.2.2.2.2.1 * ((y274 &&& (15:Int32)) - (7:Int32)))), vI ((v.2.2.2.2.2.2.2.2.2.2.1 * ((y273 &&& (15:Int32)) - (7:Int32))) + (v.2.2.2.2.2.2.2.2.2.2.2.1 * ((y275 &&& (15:Int32)) - (7:Int32)))), vI ((v.2.2.2.2.2.2.2.2.2.2.2.2.1 * ((y272 &&& (15:Int32)) - (7:Int32))) + (v.2.2.2.2.2.2.2.2.2.2.2.2.2.1 * ((y274 &&& (15:Int32)) - (7:Int32)))), vI ((v.2.2.2.2.2.2.2.2.2.2.2.2.1 * ((y273 &&& (15:Int32)) - (7:Int32))) + (v.2.2.2.2.2.2.2.2.2.2.2.2.2.1 * ((y275 &&& (15:Int32)) - (7:Int32))))], [], (H0 s r369.2))) rfl ?_
     refine zS Ad W 4 (st' := (452, [vR 0, vI x1, vR 1, vI v.1, vI (v.2.1 + (1:Int32)), vI v.2.2.1, vI v.2.2.2.1, vI v.2.2.2.2.1, vI v.2.2.2.2.2.1, vI v.2.2.2.2.2.2.1, vI v.2.2.2.2.2.2.2.1, vI v.2.2.2.2.2.2.2.2.1, vI v.2.2.2.2.2.2.2.2.2.1, vI ((v.2.2.2.2.2.2.2.2.2.2.1 * ((y272 &&& (15:Int32)) - (7:Int32))) + (v.2.2.2.2.2.2.2.2.2.2.2.1 * ((y274 &&& (15:Int32)) - (7:Int32)))), vI ((v.2.2.2.2.2.2.2.2.2.2.1 * ((y273 &&& (15:Int32)) - (7:Int32))) + (v.2.2.2.2.2.2.2.2.2.2.2.1 * ((y275 &&& (15:Int32)) - (7:Int32)))), vI ((v.2.2.2.2.2.2.2.2.2.2.2.2.1 * ((y272 &&& (15:Int32)) - (7:Int32))) + (v.2.2.2.2.2.2.2.2.2.2.2.2.2.1 * ((y274 &&& (15:Int32)) - (7:Int32)))), vI v.2.2.2.2.2.2.2.2.2.2.2.2.2.1, vI v.2.2.2.2.2.2.2.2.2.2.2.2.2.2.1, vI v.2.2.2.2.2.2.2.2.2.2.2.2.2.2.2.1, vI v.2.2.2.2.2.2.2.2.2.2.2.2.2.2.2.2.1, vI v.2.2.2.2.2.2.2.2.2.2.2.2.2.2.2.2.2.1, vI v.2.2.2.2.2.2.2.2.2.2.2.2.2.2.2.2.2.2.1, vI (y60 &&& (7:Int32)), vI ((y272 &&& (15:Int32)) - (7:Int32)), vI ((y273 &&& (15:Int32)) - (7:Int32)), vI ((y274 &&& (15:Int32)) - (7:Int32)), vI ((y275 &&& (15:Int32)) - (7:Int32)), vI (((r279 + r280) + r281) + r282), vI ((v.2.2.2.2.2.2.2.2.2.2.1 * ((y272 &&& (15:Int32)) - (7:Int32))) + (v.2.2.2.2.2.2.2.2.2.2.2.1 * ((y274 &&& (15:Int32)) - (7:Int32)))), vI ((v.2.2.2.2.2.2.2.2.2.2.1 * ((y273 &&& (15:Int32)) - (7:Int32))) + (v.2.2.2.2.2.2.2.2.2.2.2.1 * ((y275 &&& (15:Int32)) - (7:Int32)))), vI ((v.2.2.2.2.2.2.2.2.2.2.2.2.1 * ((y272 &&& (15:Int32)) - (7:Int32))) + (v.2.2.2.2.2.2.2.2.2.2.2.2.2.1 * ((y274 &&& (15:Int32)) - (7:Int32)))), vI ((v.2.2.2.2.2.2.2.2.2.2.2.2.1 * ((y273 &&& (15:Int32)) - (7:Int32))) + (v.2.2.2.2.2.2.2.2.2.2.2.2.2.1 * ((y275 &&& (15:Int32)) - (7:Int32))))], [], (H0 s r369.2))) rfl ?_
     refine zS Ad W 4 (st' := (460, [vR 0, vI x1, vR 1, vI v.1, vI (v.2.1 + (1:Int32)), vI v.2.2.1, vI v.2.2.2.1, vI v.2.2.2.2.1, vI v.2.2.2.2.2.1, vI v.2.2.2.2.2.2.1, vI v.2.2.2.2.2.2.2.1, vI v.2.2.2.2.2.2.2.2.1, vI v.2.2.2.2.2.2.2.2.2.1, vI ((v.2.2.2.2.2.2.2.2.2.2.1 * ((y272 &&& (15:Int32)) - (7:Int32))) + (v.2.2.2.2.2.2.2.2.2.2.2.1 * ((y274 &&& (15:Int32)) - (7:Int32)))), vI ((v.2.2.2.2.2.2.2.2.2.2.1 * ((y273 &&& (15:Int32)) - (7:Int32))) + (v.2.2.2.2.2.2.2.2.2.2.2.1 * ((y275 &&& (15:Int32)) - (7:Int32)))), vI ((v.2.2.2.2.2.2.2.2.2.2.2.2.1 * ((y272 &&& (15:Int32)) - (7:Int32))) + (v.2.2.2.2.2.2.2.2.2.2.2.2.2.1 * ((y274 &&& (15:Int32)) - (7:Int32)))), vI ((v.2.2.2.2.2.2.2.2.2.2.2.2.1 * ((y273 &&& (15:Int32)) - (7:Int32))) + (v.2.2.2.2.2.2.2.2.2.2.2.2.2.1 * ((y275 &&& (15:Int32)) - (7:Int32)))), vI ((y272 &&& (15:Int32)) - (7:Int32)), vI v.2.2.2.2.2.2.2.2.2.2.2.2.2.2.2.1, vI v.2.2.2.2.2.2.2.2.2.2.2.2.2.2.2.2.1, vI v.2.2.2.2.2.2.2.2.2.2.2.2.2.2.2.2.2.1, vI v.2.2.2.2.2.2.2.2.2.2.2.2.2.2.2.2.2.2.1, vI (y60 &&& (7:Int32)), vI ((y272 &&& (15:Int32)) - (7:Int32)), vI ((y273 &&& (15:Int32)) - (7:Int32)), vI ((y274 &&& (15:Int32)) - (7:Int32)), vI ((y275 &&& (15:Int32)) - (7:Int32)), vI (((r279 + r280) + r281) + r282), vI ((v.2.2.2.2.2.2.2.2.2.2.1 * ((y272 &&& (15:Int32)) - (7:Int32))) + (v.2.2.2.2.2.2.2.2.2.2.2.1 * ((y274 &&& (15:Int32)) - (7:Int32)))), vI ((v.2.2.2.2.2.2.2.2.2.2.1 * ((y273 &&& (15:Int32)) - (7:Int32))) + (v.2.2.2.2.2.2.2.2.2.2.2.1 * ((y275 &&& (15:Int32)) - (7:Int32)))), vI ((v.2.2.2.2.2.2.2.2.2.2.2.2.1 * ((y272 &&& (15:Int32)) - (7:Int32))) + (v.2.2.2.2.2.2.2.2.2.2.2.2.2.1 * ((y274 &&& (15:Int32)) - (7:Int32)))), vI ((v.2.2.2.2.2.2.2.2.2.2.2.2.1 * ((y273 &&& (15:Int32)) - (7:Int32))) + (v.2.2.2.2.2.2.2.2.2.2.2.2.2.1 * ((y275 &&& (15:Int32)) - (7:Int32))))], [], (H0 s r369.2))) rfl ?_
     refine zS Ad W 4 (st' := (468, [vR 0, vI x1, vR 1, vI v.1, vI (v.2.1 + (1:Int32)), vI v.2.2.1, vI v.2.2.2.1, vI v.2.2.2.2.1, vI v.2.2.2.2.2.1, vI v.2.2.2.2.2.2.1, vI v.2.2.2.2.2.2.2.1, vI v.2.2.2.2.2.2.2.2.1, vI v.2.2.2.2.2.2.2.2.2.1, vI ((v.2.2.2.2.2.2.2.2.2.2.1 * ((y272 &&& (15:Int32)) - (7:Int32))) + (v.2.2.2.2.2.2.2.2.2.2.2.1 * ((y274 &&& (15:Int32)) - (7:Int32)))), vI ((v.2.2.2.2.2.2.2.2.2.2.1 * ((y273 &&& (15:Int32)) - (7:Int32))) + (v.2.2.2.2.2.2.2.2.2.2.2.1 * ((y275 &&& (15:Int32)) - (7:Int32)))), vI ((v.2.2.2.2.2.2.2.2.2.2.2.2.1 * ((y272 &&& (15:Int32)) - (7:Int32))) + (v.2.2.2.2.2.2.2.2.2.2.2.2.2.1 * ((y274 &&& (15:Int32)) - (7:Int32)))), vI ((v.2.2.2.2.2.2.2.2.2.2.2.2.1 * ((y273 &&& (15:Int32)) - (7:Int32))) + (v.2.2.2.2.2.2.2.2.2.2.2.2.2.1 * ((y275 &&& (15:Int32)) - (7:Int32)))), vI ((y272 &&& (15:Int32)) - (7:Int32)), vI ((y273 &&& (15:Int32)) - (7:Int32)), vI ((y274 &&& (15:Int32)) - (7:Int32)), vI v.2.2.2.2.2.2.2.2.2.2.2.2.2.2.2.2.2.1, vI v.2.2.2.2.2.2.2.2.2.2.2.2.2.2.2.2.2.2.1, vI (y60 &&& (7:Int32)), vI ((y272 &&& (15:Int32)) - (7:Int32)), vI ((y273 &&& (15:Int32)) - (7:Int32)), vI ((y274 &&& (15:Int32)) - (7:Int32)), vI ((y275 &&& (15:Int32)) - (7:Int32)), vI (((r279 + r280) + r281) + r282), vI ((v.2.2.2.2.2.2.2.2.2.2.1 * ((y272 &&& (15:Int32)) - (7:Int32))) + (v.2.2.2.2.2.2.2.2.2.2.2.1 * ((y274 &&& (15:Int32)) - (7:Int32)))), vI ((v.2.2.2.2.2.2.2.2.2.2.1 * ((y273 &&& (15:Int32)) - (7:Int32))) + (v.2.2.2.2.2.2.2.2.2.2.2.1 * ((y275 &&& (15:Int32)) - (7:Int32)))), vI ((v.2.2.2.2.2.2.2.2.2.2.2.2.1 * ((y272 &&& (15:Int32)) - (7:Int32))) + (v.2.2.2.2.2.2.2.2.2.2.2.2.2.1 * ((y274 &&& (15:Int32)) - (7:Int32)))), vI ((v.2.2.2.2.2.2.2.2.2.2.2.2.1 * ((y273 &&& (15:Int32)) - (7:Int32))) + (v.2.2.2.2.2.2.2.2.2.2.2.2.2.1 * ((y275 &&& (15:Int32)) - (7:Int32))))], [], (H0 s r369.2))) rfl ?_
     refine zS Ad W 3 (st' := (494, [vR 0, vI x1, vR 1, vI v.1, vI (v.2.1 + (1:Int32)), vI v.2.2.1, vI v.2.2.2.1, vI v.2.2.2.2.1, vI v.2.2.2.2.2.1, vI v.2.2.2.2.2.2.1, vI v.2.2.2.2.2.2.2.1, vI v.2.2.2.2.2.2.2.2.1, vI v.2.2.2.2.2.2.2.2.2.1, vI ((v.2.2.2.2.2.2.2.2.2.2.1 * ((y272 &&& (15:Int32)) - (7:Int32))) + (v.2.2.2.2.2.2.2.2.2.2.2.1 * ((y274 &&& (15:Int32)) - (7:Int32)))), vI ((v.2.2.2.2.2.2.2.2.2.2.1 * ((y273 &&& (15:Int32)) - (7:Int32))) + (v.2.2.2.2.2.2.2.2.2.2.2.1 * ((y275 &&& (15:Int32)) - (7:Int32)))), vI ((v.2.2.2.2.2.2.2.2.2.2.2.2.1 * ((y272 &&& (15:Int32)) - (7:Int32))) + (v.2.2.2.2.2.2.2.2.2.2.2.2.2.1 * ((y274 &&& (15:Int32)) - (7:Int32)))), vI ((v.2.2.2.2.2.2.2.2.2.2.2.2.1 * ((y273 &&& (15:Int32)) - (7:Int32))) + (v.2.2.2.2.2.2.2.2.2.2.2.2.2.1 * ((y275 &&& (15:Int32)) - (7:Int32)))), vI ((y272 &&& (15:Int32)) - (7:Int32)), vI ((y273 &&& (15:Int32)) - (7:Int32)), vI ((y274 &&& (15:Int32)) - (7:Int32)), vI ((y275 &&& (15:Int32)) - (7:Int32)), vI v.2.2.2.2.2.2.2.2.2.2.2.2.2.2.2.2.2.2.1, vI (y60 &&& (7:Int32)), vI ((y272 &&& (15:Int32)) - (7:Int32)), vI ((y273 &&& (15:Int32)) - (7:Int32)), vI ((y274 &&& (15:Int32)) - (7:Int32)), vI ((y275 &&& (15:Int32)) - (7:Int32)), vI (((r279 + r280) + r281) + r282), vI ((v.2.2.2.2.2.2.2.2.2.2.1 * ((y272 &&& (15:Int32)) - (7:Int32))) + (v.2.2.2.2.2.2.2.2.2.2.2.1 * ((y274 &&& (15:Int32)) - (7:Int32)))), vI ((v.2.2.2.2.2.2.2.2.2.2.1 * ((y273 &&& (15:Int32)) - (7:Int32))) + (v.2.2.2.2.2.2.2.2.2.2.2.1 * ((y275 &&& (15:Int32)) - (7:Int32)))), vI ((v.2.2.2.2.2.2.2.2.2.2.2.2.1 * ((y272 &&& (15:Int32)) - (7:Int32))) + (v.2.2.2.2.2.2.2.2.2.2.2.2.2.1 * ((y274 &&& (15:Int32)) - (7:Int32)))), vI ((v.2.2.2.2.2.2.2.2.2.2.2.2.1 * ((y273 &&& (15:Int32)) - (7:Int32))) + (v.2.2.2.2.2.2.2.2.2.2.2.2.2.1 * ((y275 &&& (15:Int32)) - (7:Int32))))], [], (H0 s r369.2))) rfl ?_
     exact zM [tt,tt,tt,tt,tt,tt,tt,tt,tt,tt,tt,tt,tt,tt,tt,tt,tt,tt,tt,tt,tt,tt,ff,ff,ff,ff,ff,ff,ff,ff,ff,ff] (tJ0_494 Ad W s r369.2 x1 v.1 (v.2.1 + (1:Int32)) v.2.2.1 v.2.2.2.1 v.2.2.2.2.1 v.2.2.2.2.2.1 v.2.2.2.2.2.2.1 v.2.2.2.2.2.2.2.1 v.2.2.2.2.2.2.2.2.1 v.2.2.2.2.2.2.2.2.2.1 ((v.2.2.2.2.2.2.2.2.2.2.1 * ((y272 &&& (15:Int32)) - (7:Int32))) + (v.2.2.2.2.2.2.2.2.2.2.2.1 * ((y274 &&& (15:Int32)) - (7:Int32)))) ((v.2.2.2.2.2.2.2.2.2.2.1 * ((y273 &&& (15:Int32)) - (7:Int32))) + (v.2.2.2.2.2.2.2.2.2.2.2.1 * ((y275 &&& (15:Int32)) - (7:Int32)))) ((v.2.2.2.2.2.2.2.2.2.2.2.2.1 * ((y272 &&& (15:Int32)) - (7:Int32))) + (v.2.2.2.2.2.2.2.2.2.2.2.2.2.1 * ((y274 &&& (15:Int32)) - (7:Int32)))) ((v.2.2.2.2.2.2.2.2.2.2.2.2.1 * ((y273 &&& (15:Int32)) - (7:Int32))) + (v.2.2.2.2.2.2.2.2.2.2.2.2.2.1 * ((y275 &&& (15:Int32)) - (7:Int32)))) ((y272 &&& (15:Int32)) - (7:Int32)) ((y273 &&& (15:Int32)) - (7:Int32)) ((y274 &&& (15:Int32)) - (7:Int32)) ((y275 &&& (15:Int32)) - (7:Int32)) v.2.2.2.2.2.2.2.2.2.2.2.2.2.2.2.2.2.2.1 h hx0 hc)
    ·refine zF Ad W (t := 388) (f := 386) rfl (XT.ii_eq_f hc370) ?_
     refine zS Ad W 1 (st' := (387, [vR 0, vI x1, vR 1, vI v.1, vI (v.2.1 + (1:Int32)), vI v.2.2.1, vI v.2.2.2.1, vI v.2.2.2.2.1, vI v.2.2.2.2.2.1, vI v.2.2.2.2.2.2.1, vI v.2.2.2.2.2.2.2.1, vI v.2.2.2.2.2.2.2.2.1, vI v.2.2.2.2.2.2.2.2.2.1, vI v.2.2.2.2.2.2.2.2.2.2.1, vI v.2.2.2.2.2.2.2.2.2.2.2.1, vI v.2.2.2.2.2.2.2.2.2.2.2.2.1, vI v.2.2.2.2.2.2.2.2.2.2.2.2.2.1, vI v.2.2.2.2.2.2.2.2.2.2.2.2.2.2.1, vI v.2.2.2.2.2.2.2.2.2.2.2.2.2.2.2.1, vI v.2.2.2.2.2.2.2.2.2.2.2.2.2.2.2.2.1, vI v.2.2.2.2.2.2.2.2.2.2.2.2.2.2.2.2.2.1, vI v.2.2.2.2.2.2.2.2.2.2.2.2.2.2.2.2.2.2.1, vI (y60 &&& (7:Int32)), vI ((y272 &&& (15:Int32)) - (7:Int32)), vI ((y273 &&& (15:Int32)) - (7:Int32)), vI ((y274 &&& (15:Int32)) - (7:Int32)), vI ((y275 &&& (15:Int32)) - (7:Int32)), vI (((r279 + r280) + r281) + r282), none, none, none, none], [.int (0:Int32)], (H0 s r369.2))) rfl ?_
     obtain rfl := Option.some.inj h
     obtain ⟨rfl, rfl⟩ := hx0 ((0:Int32), (H0 s r369.2)) rfl
     exact QTri.retZ rfl rfl
   ·refine zT Ad W (t := 475) (f := 269) rfl (XT.ii_ge_t hc271) ?_
    refine zS Ad W 1 (st' := (476, [vR 0, vI x1, vR 1, vI v.1, vI v.2.1, vI v.2.2.1, vI v.2.2.2.1, vI v.2.2.2.2.1, vI v.2.2.2.2.2.1, vI v.2.2.2.2.2.2.1, vI v.2.2.2.2.2.2.2.1, vI v.2.2.2.2.2.2.2.2.1, vI v.2.2.2.2.2.2.2.2.2.1, vI v.2.2.2.2.2.2.2.2.2.2.1, vI v.2.2.2.2.2.2.2.2.2.2.2.1, vI v.2.2.2.2.2.2.2.2.2.2.2.2.1, vI v.2.2.2.2.2.2.2.2.2.2.2.2.2.1, vI v.2.2.2.2.2.2.2.2.2.2.2.2.2.2.1, vI v.2.2.2.2.2.2.2.2.2.2.2.2.2.2.2.1, vI v.2.2.2.2.2.2.2.2.2.2.2.2.2.2.2.2.1, vI v.2.2.2.2.2.2.2.2.2.2.2.2.2.2.2.2.2.1, vI v.2.2.2.2.2.2.2.2.2.2.2.2.2.2.2.2.2.2.1, vI (y60 &&& (7:Int32)), none, none, none, none, none, none, none, none, none], [.ref 1], (H0 s v.2.2.2.2.2.2.2.2.2.2.2.2.2.2.2.2.2.2.2))) rfl ?_
    obtain ⟨r376, hr376, h⟩ := bind_eq_some_iff.mp h
    refine QTri.callV W (a := 1) (as := []) (rest := []) (w := none) (σ₁ := (H0 s r376)) rfl rfl rfl rfl rfl rfl rfl rfl (tF22 Ad W s v.2.2.2.2.2.2.2.2.2.2.2.2.2.2.2.2.2.2.2 hr376) ?_
    refine zS Ad W 4 (st' := (485, [vR 0, vI x1, vR 1, vI v.1, vI (0:Int32), vI v.2.2.1, vI v.2.2.2.1, vI v.2.2.2.2.1, vI v.2.2.2.2.2.1, vI v.2.2.2.2.2.2.1, vI v.2.2.2.2.2.2.2.1, vI v.2.2.2.2.2.2.2.2.1, vI v.2.2.2.2.2.2.2.2.2.1, vI (1:Int32), vI v.2.2.2.2.2.2.2.2.2.2.2.1, vI v.2.2.2.2.2.2.2.2.2.2.2.2.1, vI v.2.2.2.2.2.2.2.2.2.2.2.2.2.1, vI v.2.2.2.2.2.2.2.2.2.2.2.2.2.2.1, vI v.2.2.2.2.2.2.2.2.2.2.2.2.2.2.2.1, vI v.2.2.2.2.2.2.2.2.2.2.2.2.2.2.2.2.1, vI v.2.2.2.2.2.2.2.2.2.2.2.2.2.2.2.2.2.1, vI v.2.2.2.2.2.2.2.2.2.2.2.2.2.2.2.2.2.2.1, vI (y60 &&& (7:Int32)), none, none, none, none, none, none, none, none, none], [], (H0 s r376))) rfl ?_
    refine zS Ad W 4 (st' := (491, [vR 0, vI x1, vR 1, vI v.1, vI (0:Int32), vI v.2.2.1, vI v.2.2.2.1, vI v.2.2.2.2.1, vI v.2.2.2.2.2.1, vI v.2.2.2.2.2.2.1, vI v.2.2.2.2.2.2.2.1, vI v.2.2.2.2.2.2.2.2.1, vI v.2.2.2.2.2.2.2.2.2.1, vI (1:Int32), vI (0:Int32), vI (0:Int32), vI v.2.2.2.2.2.2.2.2.2.2.2.2.2.1, vI v.2.2.2.2.2.2.2.2.2.2.2.2.2.2.1, vI v.2.2.2.2.2.2.2.2.2.2.2.2.2.2.2.1, vI v.2.2.2.2.2.2.2.2.2.2.2.2.2.2.2.2.1, vI v.2.2.2.2.2.2.2.2.2.2.2.2.2.2.2.2.2.1, vI v.2.2.2.2.2.2.2.2.2.2.2.2.2.2.2.2.2.2.1, vI (y60 &&& (7:Int32)), none, none, none, none, none, none, none, none, none], [], (H0 s r376))) rfl ?_
    refine zS Ad W 2 (st' := (494, [vR 0, vI x1, vR 1, vI v.1, vI (0:Int32), vI v.2.2.1, vI v.2.2.2.1, vI v.2.2.2.2.1, vI v.2.2.2.2.2.1, vI v.2.2.2.2.2.2.1, vI v.2.2.2.2.2.2.2.1, vI v.2.2.2.2.2.2.2.2.1, vI v.2.2.2.2.2.2.2.2.2.1, vI (1:Int32), vI (0:Int32), vI (0:Int32), vI (1:Int32), vI v.2.2.2.2.2.2.2.2.2.2.2.2.2.2.1, vI v.2.2.2.2.2.2.2.2.2.2.2.2.2.2.2.1, vI v.2.2.2.2.2.2.2.2.2.2.2.2.2.2.2.2.1, vI v.2.2.2.2.2.2.2.2.2.2.2.2.2.2.2.2.2.1, vI v.2.2.2.2.2.2.2.2.2.2.2.2.2.2.2.2.2.2.1, vI (y60 &&& (7:Int32)), none, none, none, none, none, none, none, none, none], [], (H0 s r376))) rfl ?_
    exact zM [tt,tt,tt,tt,tt,tt,tt,tt,tt,tt,tt,tt,tt,tt,tt,tt,tt,tt,tt,tt,tt,tt,ff,ff,ff,ff,ff,ff,ff,ff,ff,ff] (tJ0_494 Ad W s r376 x1 v.1 (0:Int32) v.2.2.1 v.2.2.2.1 v.2.2.2.2.1 v.2.2.2.2.2.1 v.2.2.2.2.2.2.1 v.2.2.2.2.2.2.2.1 v.2.2.2.2.2.2.2.2.1 v.2.2.2.2.2.2.2.2.2.1 (1:Int32) (0:Int32) (0:Int32) (1:Int32) v.2.2.2.2.2.2.2.2.2.2.2.2.2.2.1 v.2.2.2.2.2.2.2.2.2.2.2.2.2.2.2.1 v.2.2.2.2.2.2.2.2.2.2.2.2.2.2.2.2.1 v.2.2.2.2.2.2.2.2.2.2.2.2.2.2.2.2.2.1 v.2.2.2.2.2.2.2.2.2.2.2.2.2.2.2.2.2.2.1 h hx0 hc)
 ·refine zT Ad W (t := 651) (f := 101) rfl (XT.ii_ge_t hc59) ?_
  refine zS Ad W 1 (st' := (652, [vR 0, vI x1, vR 1, vI v.1, vI v.2.1, vI v.2.2.1, vI v.2.2.2.1, vI v.2.2.2.2.1, vI v.2.2.2.2.2.1, vI v.2.2.2.2.2.2.1, vI v.2.2.2.2.2.2.2.1, vI v.2.2.2.2.2.2.2.2.1, vI v.2.2.2.2.2.2.2.2.2.1, vI v.2.2.2.2.2.2.2.2.2.2.1, vI v.2.2.2.2.2.2.2.2.2.2.2.1, vI v.2.2.2.2.2.2.2.2.2.2.2.2.1, vI v.2.2.2.2.2.2.2.2.2.2.2.2.2.1, vI v.2.2.2.2.2.2.2.2.2.2.2.2.2.2.1, vI v.2.2.2.2.2.2.2.2.2.2.2.2.2.2.2.1, vI v.2.2.2.2.2.2.2.2.2.2.2.2.2.2.2.2.1, vI v.2.2.2.2.2.2.2.2.2.2.2.2.2.2.2.2.2.1, vI v.2.2.2.2.2.2.2.2.2.2.2.2.2.2.2.2.2.2.1, none, none, none, none, none, none, none, none, none, none], [.int (1:Int32)], (H0 s v.2.2.2.2.2.2.2.2.2.2.2.2.2.2.2.2.2.2.2))) rfl ?_
  obtain rfl := Option.some.inj h
  obtain ⟨rfl, rfl⟩ := hx0 ((1:Int32), (H0 s v.2.2.2.2.2.2.2.2.2.2.2.2.2.2.2.2.2.2.2)) rfl
  exact QTri.retZ rfl rfl
def J0_12 (s : List Int32) (w0 : Int32) : Option (Int32 × QHeap) :=
  (F1 w0).bind fun r52 => (loopN (B0_92 s (if (4 : Int32) < (if w0 < (1 : Int32) then (1 : Int32) else w0) then (4 : Int32) else (if w0 < (1 : Int32) then (1 : Int32) else w0))) qN ((0 : Int32), (0 : Int32), (1 : Int32), (1 : Int32), (1 : Int32), (1 : Int32), (1 : Int32), (1 : Int32), (1 : Int32), (1 : Int32), (1 : Int32), (0 : Int32), (0 : Int32), (1 : Int32), (1 : Int32), (0 : Int32), (0 : Int32), (1 : Int32), (1 : Int32), r52)).bind fun e377 => some e377
theorem tJ0_12 (Ad : QAd n0 ad) (W : QW Z a0) (s : List Int32) (w0 : Int32) {r : Int32 × QHeap} (h : J0_12 s w0 = some r) : QTri l Z n0 ad 0 (12, [vR 0, none, none, none, none, none, none, none, none, none, none, none, none, none, none, none, none, none, none, none, none, none, none, none, none, none, none, none, none, none, none, none], [.int w0], [.inr (.inl (.int, s))]) (some (Value.int r.1)) r.2 := by
 unfold J0_12 at h
 refine zS Ad W 2 (st' := (16, [vR 0, vI w0, none, none, none, none, none, none, none, none, none, none, none, none, none, none, none, none, none, none, none, none, none, none, none, none, none, none, none, none, none, none], [.ref 1], [.inr (.inl (.int, s)), .inl [.int (f_regTuple ob0), .int (f_regA ob0), .int (f_regB ob0), .int (f_regC ob0), .int (f_regCount ob0), .int (f_slots ob0), .null, .null, .null, .null, .null, .null, .null, .null, .null, .int (f_capacity ob0), .int (f_queries ob0), .int (f_n ob0)]])) rfl ?_
 refine zS Ad W 2 (st' := (18, [vR 0, vI w0, none, none, none, none, none, none, none, none, none, none, none, none, none, none, none, none, none, none, none, none, none, none, none, none, none, none, none, none, none, none], [.int w0, .ref 1, .ref 1], [.inr (.inl (.int, s)), .inl [.int (f_regTuple ob0), .int (f_regA ob0), .int (f_regB ob0), .int (f_regC ob0), .int (f_regCount ob0), .int (f_slots ob0), .null, .null, .null, .null, .null, .null, .null, .null, .null, .int (f_capacity ob0), .int (f_queries ob0), .int (f_n ob0)]])) rfl ?_
 obtain ⟨r52, hr52, h⟩ := bind_eq_some_iff.mp h
 refine QTri.callI W (a := 1) (as := [.int w0]) (rest := [.ref 1]) (σ₁ := (H0 s r52)) rfl rfl rfl rfl rfl rfl (tF1 Ad W s w0 hr52) ?_
 refine zS Ad W 3 (st' := (24, [vR 0, vI w0, vR 1, none, none, none, none, none, none, none, none, none, none, none, none, none, none, none, none, none, none, none, none, none, none, none, none, none, none, none, none, none], [.int (1:Int32), .int w0], (H0 s r52))) rfl ?_
 have K54 : ∀ z53 : Int32, z53 = (if w0 < (1:Int32) then (1:Int32) else w0) → QTri l Z n0 ad 0 (29, [vR 0, vI z53, vR 1, none, none, none, none, none, none, none, none, none, none, none, none, none, none, none, none, none, none, none, none, none, none, none, none, none, none, none, none, none], [], (H0 s r52)) (some (Value.int r.1)) r.2 := by
  intro z53 ez53
  subst ez53
  refine zS Ad W 2 (st' := (31, [vR 0, vI (if w0 < (1:Int32) then (1:Int32) else w0), vR 1, none, none, none, none, none, none, none, none, none, none, none, none, none, none, none, none, none, none, none, none, none, none, none, none, none, none, none, none, none], [.int (4:Int32), .int (if w0 < (1:Int32) then (1:Int32) else w0)], (H0 s r52))) rfl ?_
  have K57 : ∀ z56 : Int32, z56 = (if (4:Int32) < (if w0 < (1:Int32) then (1:Int32) else w0) then (4:Int32) else (if w0 < (1:Int32) then (1:Int32) else w0)) → QTri l Z n0 ad 0 (36, [vR 0, vI z56, vR 1, none, none, none, none, none, none, none, none, none, none, none, none, none, none, none, none, none, none, none, none, none, none, none, none, none, none, none, none, none], [], (H0 s r52)) (some (Value.int r.1)) r.2 := by
   intro z56 ez56
   subst ez56
   refine zS Ad W 4 (st' := (41, [vR 0, vI (if (4:Int32) < (if w0 < (1:Int32) then (1:Int32) else w0) then (4:Int32) else (if w0 < (1:Int32) then (1:Int32) else w0)), vR 1, vI (0:Int32), vI (0:Int32), none, none, none, none, none, none, none, none, none, none, none, none, none, none, none, none, none, none, none, none, none, none, none, none, none, none, none], [], (H0 s r52))) rfl ?_
   refine zS Ad W 4 (st' := (47, [vR 0, vI (if (4:Int32) < (if w0 < (1:Int32) then (1:Int32) else w0) then (4:Int32) else (if w0 < (1:Int32) then (1:Int32) else w0)), vR 1, vI (0:Int32), vI (0:Int32), vI (1:Int32), vI (1:Int32), none, none, none, none, none, none, none, none, none, none, none, none, none, none, none, none, none, none, none, none, none, none, none, none, none], [], (H0 s r52))) rfl ?_
   refine zS Ad W 4 (st' := (53, [vR 0, vI (if (4:Int32) < (if w0 < (1:Int32) then (1:Int32) else w0) then (4:Int32) else (if w0 < (1:Int32) then (1:Int32) else w0)), vR 1, vI (0:Int32), vI (0:Int32), vI (1:Int32), vI (1:Int32), vI (1:Int32), vI (1:Int32), none, none, none, none, none, none, none, none, none, none, none, none, none, none, none, none, none, none, none, none, none, none, none], [], (H0 s r52))) rfl ?_
   refine zS Ad W 4 (st' := (59, [vR 0, vI (if (4:Int32) < (if w0 < (1:Int32) then (1:Int32) else w0) then (4:Int32) else (if w0 < (1:Int32) then (1:Int32) else w0)), vR 1, vI (0:Int32), vI (0:Int32), vI (1:Int32), vI (1:Int32), vI (1:Int32), vI (1:Int32), vI (1:Int32), vI (1:Int32), none, none, none, none, none, none, none, none, none, none, none, none, none, none, none, none, none, none, none, none, none], [], (H0 s r52))) rfl ?_
   refine zS Ad W 4 (st' := (65, [vR 0, vI (if (4:Int32) < (if w0 < (1:Int32) then (1:Int32) else w0) then (4:Int32) else (if w0 < (1:Int32) then (1:Int32) else w0)), vR 1, vI (0:Int32), vI (0:Int32), vI (1:Int32), vI (1:Int32), vI (1:Int32), vI (1:Int32), vI (1:Int32), vI (1:Int32), vI (1:Int32), vI (1:Int32), none, none, none, none, none, none, none, none, none, none, none, none, none, none, none, none, none, none, none], [], (H0 s r52))) rfl ?_
   refine zS Ad W 4 (st' := (71, [vR 0, vI (if (4:Int32) < (if w0 < (1:Int32) then (1:Int32) else w0) then (4:Int32) else (if w0 < (1:Int32) then (1:Int32) else w0)), vR 1, vI (0:Int32), vI (0:Int32), vI (1:Int32), vI (1:Int32), vI (1:Int32), vI (1:Int32), vI (1:Int32), vI (1:Int32), vI (1:Int32), vI (1:Int32), vI (1:Int32), vI (0:Int32), none, none, none, none, none, none, none, none, none, none, none, none, none, none, none, none, none], [], (H0 s r52))) rfl ?_
   refine zS Ad W 4 (st' := (77, [vR 0, vI (if (4:Int32) < (if w0 < (1:Int32) then (1:Int32) else w0) then (4:Int32) else (if w0 < (1:Int32) then (1:Int32) else w0)), vR 1, vI (0:Int32), vI (0:Int32), vI (1:Int32), vI (1:Int32), vI (1:Int32), vI (1:Int32), vI (1:Int32), vI (1:Int32), vI (1:Int32), vI (1:Int32), vI (1:Int32), vI (0:Int32), vI (0:Int32), vI (1:Int32), none, none, none, none, none, none, none, none, none, none, none, none, none, none, none], [], (H0 s r52))) rfl ?_
   refine zS Ad W 4 (st' := (83, [vR 0, vI (if (4:Int32) < (if w0 < (1:Int32) then (1:Int32) else w0) then (4:Int32) else (if w0 < (1:Int32) then (1:Int32) else w0)), vR 1, vI (0:Int32), vI (0:Int32), vI (1:Int32), vI (1:Int32), vI (1:Int32), vI (1:Int32), vI (1:Int32), vI (1:Int32), vI (1:Int32), vI (1:Int32), vI (1:Int32), vI (0:Int32), vI (0:Int32), vI (1:Int32), vI (1:Int32), vI (0:Int32), none, none, none, none, none, none, none, none, none, none, none, none, none], [], (H0 s r52))) rfl ?_
   refine zS Ad W 4 (st' := (89, [vR 0, vI (if (4:Int32) < (if w0 < (1:Int32) then (1:Int32) else w0) then (4:Int32) else (if w0 < (1:Int32) then (1:Int32) else w0)), vR 1, vI (0:Int32), vI (0:Int32), vI (1:Int32), vI (1:Int32), vI (1:Int32), vI (1:Int32), vI (1:Int32), vI (1:Int32), vI (1:Int32), vI (1:Int32), vI (1:Int32), vI (0:Int32), vI (0:Int32), vI (1:Int32), vI (1:Int32), vI (0:Int32), vI (0:Int32), vI (1:Int32), none, none, none, none, none, none, none, none, none, none, none], [], (H0 s r52))) rfl ?_
   refine zS Ad W 2 (st' := (92, [vR 0, vI (if (4:Int32) < (if w0 < (1:Int32) then (1:Int32) else w0) then (4:Int32) else (if w0 < (1:Int32) then (1:Int32) else w0)), vR 1, vI (0:Int32), vI (0:Int32), vI (1:Int32), vI (1:Int32), vI (1:Int32), vI (1:Int32), vI (1:Int32), vI (1:Int32), vI (1:Int32), vI (1:Int32), vI (1:Int32), vI (0:Int32), vI (0:Int32), vI (1:Int32), vI (1:Int32), vI (0:Int32), vI (0:Int32), vI (1:Int32), vI (1:Int32), none, none, none, none, none, none, none, none, none, none], [], (H0 s r52))) rfl ?_
   obtain ⟨e377, he377, h⟩ := bind_eq_some_iff.mp h
   refine zM [tt,tt,tt,tt,tt,tt,tt,tt,tt,tt,tt,tt,tt,tt,tt,tt,tt,tt,tt,tt,tt,tt,ff,ff,ff,ff,ff,ff,ff,ff,ff,ff] (loopN_tri (B := B0_92 s (if (4:Int32) < (if w0 < (1:Int32) then (1:Int32) else w0) then (4:Int32) else (if w0 < (1:Int32) then (1:Int32) else w0))) (T := fun lv378 => QTri l Z n0 ad 0 (92, [vR 0, vI (if (4:Int32) < (if w0 < (1:Int32) then (1:Int32) else w0) then (4:Int32) else (if w0 < (1:Int32) then (1:Int32) else w0)), vR 1, vI lv378.1, vI lv378.2.1, vI lv378.2.2.1, vI lv378.2.2.2.1, vI lv378.2.2.2.2.1, vI lv378.2.2.2.2.2.1, vI lv378.2.2.2.2.2.2.1, vI lv378.2.2.2.2.2.2.2.1, vI lv378.2.2.2.2.2.2.2.2.1, vI lv378.2.2.2.2.2.2.2.2.2.1, vI lv378.2.2.2.2.2.2.2.2.2.2.1, vI lv378.2.2.2.2.2.2.2.2.2.2.2.1, vI lv378.2.2.2.2.2.2.2.2.2.2.2.2.1, vI lv378.2.2.2.2.2.2.2.2.2.2.2.2.2.1, vI lv378.2.2.2.2.2.2.2.2.2.2.2.2.2.2.1, vI lv378.2.2.2.2.2.2.2.2.2.2.2.2.2.2.2.1, vI lv378.2.2.2.2.2.2.2.2.2.2.2.2.2.2.2.2.1, vI lv378.2.2.2.2.2.2.2.2.2.2.2.2.2.2.2.2.2.1, vI lv378.2.2.2.2.2.2.2.2.2.2.2.2.2.2.2.2.2.2.1, none, none, none, none, none, none, none, none, none, none], [], (H0 s lv378.2.2.2.2.2.2.2.2.2.2.2.2.2.2.2.2.2.2.2)) (some (Value.int r.1)) r.2) (KE := fun e377a => (some (Value.int r.1)) = (some (Value.int e377a.1)) ∧ r.2 = e377a.2) (fun lv378 r hB hE hC => tB0_92 Ad W s (if (4:Int32) < (if w0 < (1:Int32) then (1:Int32) else w0) then (4:Int32) else (if w0 < (1:Int32) then (1:Int32) else w0)) lv378 hB (fun x q => hE _ q) (fun x q => hC x q)) qN ((0:Int32), (0:Int32), (1:Int32), (1:Int32), (1:Int32), (1:Int32), (1:Int32), (1:Int32), (1:Int32), (1:Int32), (1:Int32), (0:Int32), (0:Int32), (1:Int32), (1:Int32), (0:Int32), (0:Int32), (1:Int32), (1:Int32), r52) e377 he377 ?_)
   obtain rfl := Option.some.inj h
   exact ⟨rfl, rfl⟩
  rcases em ((4:Int32) < (if w0 < (1:Int32) then (1:Int32) else w0)) with hc58 | hc58
  ·refine zF Ad W (t := 36) (f := 34) rfl (XT.ii_le_f hc58) ?_
   refine zS Ad W 2 (st' := (36, [vR 0, vI (4:Int32), vR 1, none, none, none, none, none, none, none, none, none, none, none, none, none, none, none, none, none, none, none, none, none, none, none, none, none, none, none, none, none], [], (H0 s r52))) rfl ?_
   exact zM [tt,tt,tt,ff,ff,ff,ff,ff,ff,ff,ff,ff,ff,ff,ff,ff,ff,ff,ff,ff,ff,ff,ff,ff,ff,ff,ff,ff,ff,ff,ff,ff] (K57 _ (if_pos hc58).symm)
  ·refine zT Ad W (t := 36) (f := 34) rfl (XT.ii_le_t hc58) ?_
   exact zM [tt,tt,tt,ff,ff,ff,ff,ff,ff,ff,ff,ff,ff,ff,ff,ff,ff,ff,ff,ff,ff,ff,ff,ff,ff,ff,ff,ff,ff,ff,ff,ff] (K57 _ (if_neg hc58).symm)
 rcases em (w0 < (1:Int32)) with hc55 | hc55
 ·refine zF Ad W (t := 29) (f := 27) rfl (XT.ii_ge_f hc55) ?_
  refine zS Ad W 2 (st' := (29, [vR 0, vI (1:Int32), vR 1, none, none, none, none, none, none, none, none, none, none, none, none, none, none, none, none, none, none, none, none, none, none, none, none, none, none, none, none, none], [], (H0 s r52))) rfl ?_
  exact zM [tt,tt,tt,ff,ff,ff,ff,ff,ff,ff,ff,ff,ff,ff,ff,ff,ff,ff,ff,ff,ff,ff,ff,ff,ff,ff,ff,ff,ff,ff,ff,ff] (K54 _ (if_pos hc55).symm)
 ·refine zT Ad W (t := 29) (f := 27) rfl (XT.ii_ge_t hc55) ?_
  exact zM [tt,tt,tt,ff,ff,ff,ff,ff,ff,ff,ff,ff,ff,ff,ff,ff,ff,ff,ff,ff,ff,ff,ff,ff,ff,ff,ff,ff,ff,ff,ff,ff] (K54 _ (if_neg hc55).symm)
/-- the law -/
def F0 (s : List Int32) : Option (Int32 × QHeap) :=
 (if (0:Int32) < (s.length.toInt32) then (aget s (0:Int32)).bind fun y2 => (J0_12 s y2) else (J0_12 s (4:Int32)))
theorem tF0 (Ad : QAd n0 ad) (W : QW Z a0) (s : List Int32) {r : Int32 × QHeap} (h : F0 s = some r) : QTri l Z n0 ad 0 (0, qentry [.ref 0] (pMaxL 0), [], [.inr (.inl (.int, s))]) (some (Value.int r.1)) r.2 := by
 unfold F0 at h
 refine zS Ad W 2 (st' := (2, [vR 0, none, none, none, none, none, none, none, none, none, none, none, none, none, none, none, none, none, none, none, none, none, none, none, none, none, none, none, none, none, none, none], [.int (s.length.toInt32)], [.inr (.inl (.int, s))])) rfl ?_
 rcases qite h with ⟨hc1, h⟩ | ⟨hc1, h⟩
 ·refine zF Ad W (t := 11) (f := 5) rfl (XT.i0_le_f hc1) ?_
  refine zS Ad W 2 (st' := (7, [vR 0, none, none, none, none, none, none, none, none, none, none, none, none, none, none, none, none, none, none, none, none, none, none, none, none, none, none, none, none, none, none, none], [.int (0:Int32), .ref 0], [.inr (.inl (.int, s))])) rfl ?_
  obtain ⟨y2, hy2, h⟩ := bind_eq_some_iff.mp h
  refine zB Ad W (f := fun y2 => (8, [vR 0, none, none, none, none, none, none, none, none, none, none, none, none, none, none, none, none, none, none, none, none, none, none, none, none, none, none, none, none, none, none, none], [.int y2], [.inr (.inl (.int, s))])) rfl hy2 ?_
  refine zS Ad W 1 (st' := (12, [vR 0, none, none, none, none, none, none, none, none, none, none, none, none, none, none, none, none, none, none, none, none, none, none, none, none, none, none, none, none, none, none, none], [.int y2], [.inr (.inl (.int, s))])) rfl ?_
  exact zM [tt,ff,ff,ff,ff,ff,ff,ff,ff,ff,ff,ff,ff,ff,ff,ff,ff,ff,ff,ff,ff,ff,ff,ff,ff,ff,ff,ff,ff,ff,ff,ff] (tJ0_12 Ad W s y2 h)
 ·refine zT Ad W (t := 11) (f := 5) rfl (XT.i0_le_t hc1) ?_
  refine zS Ad W 1 (st' := (12, [vR 0, none, none, none, none, none, none, none, none, none, none, none, none, none, none, none, none, none, none, none, none, none, none, none, none, none, none, none, none, none, none, none], [.int (4:Int32)], [.inr (.inl (.int, s))])) rfl ?_
  exact zM [tt,ff,ff,ff,ff,ff,ff,ff,ff,ff,ff,ff,ff,ff,ff,ff,ff,ff,ff,ff,ff,ff,ff,ff,ff,ff,ff,ff,ff,ff,ff,ff] (tJ0_12 Ad W s (4:Int32) h)
end Walks
theorem script_ok {s : State} {w : Value} (hfit : Fit s) (h1 : (Jvm.Cond.arrayOf (Jvm.Term.arg 0) Jvm.ClassFile.FieldType.int).value #[w] s none s [] = some true) (h2 : (Jvm.Cond.le (Jvm.Term.length (Jvm.Term.arg 0)) (Jvm.Term.int 260)).value #[w] s none s [] = some true) :
    ∃ (a : Addr) (c : Cell) (xs : List Int32), w = .ref a ∧ Arr s s.heap a c .int ∧ c.slots = (xs.map Value.int).toArray ∧ xs.length ≤ 260 := by
  obtain ⟨a, ha⟩ := arr_v h1
  obtain ⟨c, A⟩ := Arr.start ha h1
  have hw : w = .ref a := by simpa [Term.eval] using ha
  subst hw
  have hel : ∀ i, i < c.slots.size → ∃ x, c.slots[i]? = some (.int x) := fun i hi => by
    have q := hfit A.1 hi
    obtain ⟨hs, k, hk, comp, hkind⟩ := A.2.1
    have e : s.slotType? c.cls c.vm i = some .int := by
      cases hq : c.vm <;> first | exact absurd hq (hs _) | simp [State.slotType?, hk, hkind]
    have q2 : fits .int c.slots[i] = true := by simpa [State.fitsSlot, e] using q
    obtain ⟨x, hx⟩ := fit_I q2 (Or.inl rfl)
    exact ⟨x, by rw [Array.getElem?_eq_getElem hi, hx]⟩
  refine ⟨a, c, c.slots.toList.map (fun v => match v with | .int x => x | _ => 0), rfl, A, ?_, ?_⟩
  · apply Array.ext'
    rw [List.map_map]
    have : c.slots.toList.map (Value.int ∘ fun v => match v with | .int x => x | _ => 0) = c.slots.toList := by
      conv => rhs; rw [← List.map_id c.slots.toList]
      refine List.map_congr_left fun v hv => ?_
      obtain ⟨i, hi⟩ := List.mem_iff_getElem?.mp hv
      rw [Array.getElem?_toList] at hi
      obtain ⟨x, hx⟩ := hel i (Array.getElem?_eq_some_iff.mp hi).1
      rw [hi] at hx
      cases hx
      rfl
    exact this.symm
  · have hl := A.fin (Vm.Alike.refl _)
    simp only [List.length_map, Array.length_toList]
    simp only [Cond.value, Term.eval] at h2
    simp [hl] at h2
    by_cases hs : c.slots.size < 2147483648
    · rw [if_pos hs] at h2
      have h3 : c.slots.size.toInt32 ≤ 260 := by simpa using h2
      rw [Int32.le_iff_toInt_le] at h3
      have h4 : (c.slots.size.toInt32).toInt = c.slots.size := Int32.toInt_ofNat_of_lt (by omega)
      rw [h4] at h3
      have h5 : (260 : Int32).toInt = 260 := rfl
      rw [h5] at h3
      omega
    · rw [if_neg hs] at h2
      simp at h2
set_option maxHeartbeats 4000000
theorem i_lt {x y : Int32} : x < y ↔ x.toInt < y.toInt := Int32.lt_iff_toInt_lt
theorem i_eq {x y : Int32} : x = y ↔ x.toInt = y.toInt := Int32.toInt_inj.symm
theorem i_lo (x : Int32) : -2147483648 ≤ x.toInt := Int32.le_toInt x
theorem i_hi (x : Int32) : x.toInt < 2147483648 := Int32.toInt_lt x
theorem i_add {x y : Int32} (h1 : -2147483648 ≤ x.toInt + y.toInt) (h2 : x.toInt + y.toInt < 2147483648) : (x + y).toInt = x.toInt + y.toInt := XT.add32 ⟨h1, by omega⟩
theorem i_sub {x y : Int32} (h1 : -2147483648 ≤ x.toInt - y.toInt) (h2 : x.toInt - y.toInt < 2147483648) : (x - y).toInt = x.toInt - y.toInt := XT.sub32 ⟨h1, by omega⟩
theorem i_mul {x y : Int32} (h1 : -2147483648 ≤ x.toInt * y.toInt) (h2 : x.toInt * y.toInt < 2147483648) : (x * y).toInt = x.toInt * y.toInt := XT.mul32 ⟨h1, by omega⟩
theorem i_nat (x : Int32) : x.toNatClampNeg = x.toInt.toNat := rfl
theorem aget_at {α : Type} {xs : List α} {j : Int32} {n : Nat} (hj : j.toInt = n) (hn : n < xs.length) : aget xs j = some xs[n] := by
 have h0 : ¬ j < 0 := by rw [i_lt]; show ¬ j.toInt < 0; omega
 unfold aget
 rw [if_neg h0, i_nat, hj]
 simp [hn]
theorem aget_rep {α : Type} {m : Nat} {a : α} {j : Int32} (h0 : 0 ≤ j.toInt) (h1 : j.toInt < m) : aget (List.replicate m a) j = some a := by
 rw [aget_at (n := j.toInt.toNat) (by omega) (by rw [List.length_replicate]; omega)]
 simp
theorem aset_at {α : Type} {xs : List α} {j : Int32} {n : Nat} {v : α} (hj : j.toInt = n) (hn : n < xs.length) : aset xs j v = some (xs.set n v) := by
 have h0 : ¬ j < 0 := by rw [i_lt]; show ¬ j.toInt < 0; omega
 unfold aset
 have e : j.toNatClampNeg = n := by rw [i_nat, hj]; simp
 rw [if_neg h0, e, if_pos hn]
theorem rep_set {α : Type} (m k : Nat) (a : α) : (List.replicate m a).set k a = List.replicate m a := by
 apply List.ext_getElem (by simp)
 intro i h1 h2
 rw [List.getElem_set]
 split <;> simp
theorem small_cases {x : Int32} (h0 : 0 ≤ x.toInt) {n : Nat} (h1 : x.toInt < n) {P : Int32 → Prop} (h : ∀ m : Nat, m < n → P (Int32.ofInt m)) : P x := by
 have e : Int32.ofInt (x.toInt.toNat : Nat) = x := by
  rw [Int.toNat_of_nonneg h0, Int32.ofInt_toInt]
 rw [← e]
 exact h _ (by omega)
theorem bit_ne {x : Int32} (h0 : 0 ≤ x.toInt) (h1 : x.toInt < 32) : ¬ (((1 : Int32) <<< (x &&& 31)) &&& ((1 : Int32) <<< (x &&& 31))) = 0 :=
 small_cases (P := fun x => ¬ (((1 : Int32) <<< (x &&& 31)) &&& ((1 : Int32) <<< (x &&& 31))) = 0) h0 (n := 32) h1 (by decide)
def okP {α : Type} (m : Option α) (P : α → Prop) : Prop := ∃ a, m = some a ∧ P a
theorem okP.some {α : Type} {a : α} {P : α → Prop} (h : P a) : okP (some a) P := ⟨a, rfl, h⟩
theorem okP.bind {α β : Type} {m : Option α} {f : α → Option β} {P : β → Prop} (h : okP m fun a => okP (f a) P) : okP (m.bind f) P := by
 obtain ⟨a, e, b, e2, h2⟩ := h
 exact ⟨b, by rw [e]; exact e2, h2⟩
theorem okP.ite {α : Type} {c : Prop} [Decidable c] {a b : Option α} {P : α → Prop} (h1 : c → okP a P) (h2 : ¬ c → okP b P) : okP (if c then a else b) P := by
 by_cases h : c
 ·rw [if_pos h]; exact h1 h
 ·rw [if_neg h]; exact h2 h
theorem okP.mono {α : Type} {m : Option α} {P Q : α → Prop} (h : okP m P) (k : ∀ a, P a → Q a) : okP m Q := by
 obtain ⟨a, e, h⟩ := h
 exact ⟨a, e, k a h⟩
theorem okP.of {α : Type} {m : Option α} {a : α} {P : α → Prop} (e : m = Option.some a) (h : P a) : okP m P := ⟨a, e, h⟩
theorem okP.aget {α : Type} {xs : List α} {j : Int32} {P : α → Prop} (h0 : 0 ≤ j.toInt) (h1 : j.toInt < xs.length) (k : ∀ v, xs[j.toInt.toNat]? = Option.some v → P v) : okP (aget xs j) P :=
 ⟨_, aget_at (n := j.toInt.toNat) (by omega) (by omega), k _ (List.getElem?_eq_getElem _)⟩
theorem okP.aset {α : Type} {xs : List α} {j : Int32} {v : α} {P : List α → Prop} (h0 : 0 ≤ j.toInt) (h1 : j.toInt < xs.length) (k : P (xs.set j.toInt.toNat v)) : okP (aset xs j v) P :=
 ⟨_, aset_at (n := j.toInt.toNat) (by omega) (by omega), k⟩
theorem okP.loop {V E : Type} {B : V → Option (E ⊕ V)} {P : E → Prop} {n : Nat} {v : V} (I : V → Prop) (μ : V → Nat) (hv : I v) (hm : μ v < n) (hB : ∀ v, I v → okP (B v) (fun r => Sum.elim P (fun v' => I v' ∧ μ v' < μ v) r)) : okP (loopN B n v) P := by
 refine loopN_inv I P μ ?_ n v hv hm
 intro v hv
 obtain ⟨r, e, h⟩ := hB v hv
 cases r with
 | inl x => exact Or.inl ⟨x, e, h⟩
 | inr x => exact Or.inr ⟨x, e, h⟩
theorem len_i {n : Nat} (h : n ≤ 1000) : (n.toInt32).toInt = n := by
 have e : n.toInt32 = Int32.ofInt n := rfl
 rw [e, Int32.toInt_ofInt_of_le (by show _ ≤ (n : Int); omega) (by show (n : Int) < _; omega)]
theorem and1 (x : Int32) : x &&& 1 = 0 ∨ x &&& 1 = 1 := by
 have e : (x &&& 1).toBitVec = x.toBitVec &&& 1#32 := rfl
 have h := BitVec.and_one_eq_setWidth_ofBool_getLsbD (x := x.toBitVec)
 cases g : x.toBitVec.getLsbD 0
 ·left; apply Int32.toBitVec_inj.1; rw [e, h, g]; rfl
 ·right; apply Int32.toBitVec_inj.1; rw [e, h, g]; rfl
theorem okP.not {α : Type} {m : Option α} {a : α} {P : α → Prop} (h : okP m P) (e : m = Option.some a) : P a := by
 obtain ⟨b, e2, h⟩ := h
 rw [e] at e2
 exact (Option.some.inj e2) ▸ h
theorem and_rng {x m : Int32} (hm : 0 ≤ m.toInt) : 0 ≤ (x &&& m).toInt ∧ (x &&& m).toInt ≤ m.toInt := by
 have e : (x &&& m).toBitVec.toNat = x.toBitVec.toNat &&& m.toBitVec.toNat := BitVec.toNat_and ..
 have l : (x &&& m).toBitVec.toNat ≤ m.toBitVec.toNat := by rw [e]; exact Nat.and_le_right
 have c1 : m.toInt = if 2 * m.toBitVec.toNat < 2 ^ 32 then (m.toBitVec.toNat : Int) else m.toBitVec.toNat - (2 ^ 32 : Nat) := BitVec.toInt_eq_toNat_cond m.toBitVec
 have c2 : (x &&& m).toInt = if 2 * (x &&& m).toBitVec.toNat < 2 ^ 32 then ((x &&& m).toBitVec.toNat : Int) else (x &&& m).toBitVec.toNat - (2 ^ 32 : Nat) := BitVec.toInt_eq_toNat_cond (x &&& m).toBitVec
 have b : m.toBitVec.toNat < 2 ^ 32 := m.toBitVec.isLt
 by_cases h : 2 * m.toBitVec.toNat < 2 ^ 32
 ·rw [if_pos h] at c1
  rw [if_pos (by omega)] at c2
  omega
 ·rw [if_neg h] at c1
  omega
theorem mod_rng {x m : Int32} (hx : 0 ≤ x.toInt) (hm : 0 < m.toInt) : 0 ≤ (x % m).toInt ∧ (x % m).toInt < m.toInt := by
 rw [Int32.toInt_mod, Int.tmod_eq_emod_of_nonneg hx]
 exact ⟨Int.emod_nonneg _ (by omega), Int.emod_lt_of_pos _ hm⟩
def sFit (s : List Int32) (τ : QHeap) : Prop := τ.length - List.length ([Sum.inr (Sum.inl (FieldType.int, s))] : QHeap) ≤ room_1.cells ∧ qhs τ - qhs [Sum.inr (Sum.inl (FieldType.int, s))] ≤ room_1.slots
def Sh (C : Int32) (R : List Int32) (S : List Int32) (n : Int32) (q : Int32) (o : Ob) : Prop := (f_frontSize o).length = 4 ∧ (f_backSize o).length = 4 ∧ (f_backElem o).length = 512 ∧ (f_frontAgg o).length = 512 ∧ (f_backAgg o).length = 16 ∧ (f_snap o).length = 16 ∧ (f_reg o).length = 16 ∧ f_range o = R ∧ f_slide o = S ∧ f_n o = n ∧ f_queries o = q ∧ f_capacity o = C
theorem Sh_regTuple {C : Int32} {R : List Int32} {S : List Int32} {n : Int32} {q : Int32} {o : Ob} {x : Int32} (h : Sh C R S n q o) : Sh C R S n q (s_regTuple o x) := by
 dsimp only [Sh, f_range, f_slide, f_frontSize, f_backSize, f_backElem, f_frontAgg, f_backAgg, f_snap, f_reg, f_capacity, f_queries, f_n, s_regTuple] at h ⊢
 exact h
theorem Sh_regA {C : Int32} {R : List Int32} {S : List Int32} {n : Int32} {q : Int32} {o : Ob} {x : Int32} (h : Sh C R S n q o) : Sh C R S n q (s_regA o x) := by
 dsimp only [Sh, f_range, f_slide, f_frontSize, f_backSize, f_backElem, f_frontAgg, f_backAgg, f_snap, f_reg, f_capacity, f_queries, f_n, s_regA] at h ⊢
 exact h
theorem Sh_regB {C : Int32} {R : List Int32} {S : List Int32} {n : Int32} {q : Int32} {o : Ob} {x : Int32} (h : Sh C R S n q o) : Sh C R S n q (s_regB o x) := by
 dsimp only [Sh, f_range, f_slide, f_frontSize, f_backSize, f_backElem, f_frontAgg, f_backAgg, f_snap, f_reg, f_capacity, f_queries, f_n, s_regB] at h ⊢
 exact h
theorem Sh_regC {C : Int32} {R : List Int32} {S : List Int32} {n : Int32} {q : Int32} {o : Ob} {x : Int32} (h : Sh C R S n q o) : Sh C R S n q (s_regC o x) := by
 dsimp only [Sh, f_range, f_slide, f_frontSize, f_backSize, f_backElem, f_frontAgg, f_backAgg, f_snap, f_reg, f_capacity, f_queries, f_n, s_regC] at h ⊢
 exact h
theorem Sh_regCount {C : Int32} {R : List Int32} {S : List Int32} {n : Int32} {q : Int32} {o : Ob} {x : Int32} (h : Sh C R S n q o) : Sh C R S n q (s_regCount o x) := by
 dsimp only [Sh, f_range, f_slide, f_frontSize, f_backSize, f_backElem, f_frontAgg, f_backAgg, f_snap, f_reg, f_capacity, f_queries, f_n, s_regCount] at h ⊢
 exact h
theorem Sh_slots {C : Int32} {R : List Int32} {S : List Int32} {n : Int32} {q : Int32} {o : Ob} {x : Int32} (h : Sh C R S n q o) : Sh C R S n q (s_slots o x) := by
 dsimp only [Sh, f_range, f_slide, f_frontSize, f_backSize, f_backElem, f_frontAgg, f_backAgg, f_snap, f_reg, f_capacity, f_queries, f_n, s_slots] at h ⊢
 exact h
theorem Sh_frontSize {C : Int32} {R : List Int32} {S : List Int32} {n : Int32} {q : Int32} {o : Ob} {x : List Int32} (h : Sh C R S n q o) (hx : x.length = 4) : Sh C R S n q (s_frontSize o x) := by
 dsimp only [Sh, f_range, f_slide, f_frontSize, f_backSize, f_backElem, f_frontAgg, f_backAgg, f_snap, f_reg, f_capacity, f_queries, f_n, s_frontSize] at h ⊢
 exact ⟨hx, h.2.1, h.2.2.1, h.2.2.2.1, h.2.2.2.2.1, h.2.2.2.2.2.1, h.2.2.2.2.2.2.1, h.2.2.2.2.2.2.2⟩
theorem Sh_l_frontSize {C : Int32} {R : List Int32} {S : List Int32} {n : Int32} {q : Int32} {o : Ob} (h : Sh C R S n q o) : (f_frontSize o).length = 4 := h.1
theorem Sh_backSize {C : Int32} {R : List Int32} {S : List Int32} {n : Int32} {q : Int32} {o : Ob} {x : List Int32} (h : Sh C R S n q o) (hx : x.length = 4) : Sh C R S n q (s_backSize o x) := by
 dsimp only [Sh, f_range, f_slide, f_frontSize, f_backSize, f_backElem, f_frontAgg, f_backAgg, f_snap, f_reg, f_capacity, f_queries, f_n, s_backSize] at h ⊢
 exact ⟨h.1, hx, h.2.2.1, h.2.2.2.1, h.2.2.2.2.1, h.2.2.2.2.2.1, h.2.2.2.2.2.2.1, h.2.2.2.2.2.2.2⟩
theorem Sh_l_backSize {C : Int32} {R : List Int32} {S : List Int32} {n : Int32} {q : Int32} {o : Ob} (h : Sh C R S n q o) : (f_backSize o).length = 4 := h.2.1
theorem Sh_backElem {C : Int32} {R : List Int32} {S : List Int32} {n : Int32} {q : Int32} {o : Ob} {x : List Int32} (h : Sh C R S n q o) (hx : x.length = 512) : Sh C R S n q (s_backElem o x) := by
 dsimp only [Sh, f_range, f_slide, f_frontSize, f_backSize, f_backElem, f_frontAgg, f_backAgg, f_snap, f_reg, f_capacity, f_queries, f_n, s_backElem] at h ⊢
 exact ⟨h.1, h.2.1, hx, h.2.2.2.1, h.2.2.2.2.1, h.2.2.2.2.2.1, h.2.2.2.2.2.2.1, h.2.2.2.2.2.2.2⟩
theorem Sh_l_backElem {C : Int32} {R : List Int32} {S : List Int32} {n : Int32} {q : Int32} {o : Ob} (h : Sh C R S n q o) : (f_backElem o).length = 512 := h.2.2.1
theorem Sh_frontAgg {C : Int32} {R : List Int32} {S : List Int32} {n : Int32} {q : Int32} {o : Ob} {x : List Int32} (h : Sh C R S n q o) (hx : x.length = 512) : Sh C R S n q (s_frontAgg o x) := by
 dsimp only [Sh, f_range, f_slide, f_frontSize, f_backSize, f_backElem, f_frontAgg, f_backAgg, f_snap, f_reg, f_capacity, f_queries, f_n, s_frontAgg] at h ⊢
 exact ⟨h.1, h.2.1, h.2.2.1, hx, h.2.2.2.2.1, h.2.2.2.2.2.1, h.2.2.2.2.2.2.1, h.2.2.2.2.2.2.2⟩
theorem Sh_l_frontAgg {C : Int32} {R : List Int32} {S : List Int32} {n : Int32} {q : Int32} {o : Ob} (h : Sh C R S n q o) : (f_frontAgg o).length = 512 := h.2.2.2.1
theorem Sh_backAgg {C : Int32} {R : List Int32} {S : List Int32} {n : Int32} {q : Int32} {o : Ob} {x : List Int32} (h : Sh C R S n q o) (hx : x.length = 16) : Sh C R S n q (s_backAgg o x) := by
 dsimp only [Sh, f_range, f_slide, f_frontSize, f_backSize, f_backElem, f_frontAgg, f_backAgg, f_snap, f_reg, f_capacity, f_queries, f_n, s_backAgg] at h ⊢
 exact ⟨h.1, h.2.1, h.2.2.1, h.2.2.2.1, hx, h.2.2.2.2.2.1, h.2.2.2.2.2.2.1, h.2.2.2.2.2.2.2⟩
theorem Sh_l_backAgg {C : Int32} {R : List Int32} {S : List Int32} {n : Int32} {q : Int32} {o : Ob} (h : Sh C R S n q o) : (f_backAgg o).length = 16 := h.2.2.2.2.1
theorem Sh_snap {C : Int32} {R : List Int32} {S : List Int32} {n : Int32} {q : Int32} {o : Ob} {x : List Int32} (h : Sh C R S n q o) (hx : x.length = 16) : Sh C R S n q (s_snap o x) := by
 dsimp only [Sh, f_range, f_slide, f_frontSize, f_backSize, f_backElem, f_frontAgg, f_backAgg, f_snap, f_reg, f_capacity, f_queries, f_n, s_snap] at h ⊢
 exact ⟨h.1, h.2.1, h.2.2.1, h.2.2.2.1, h.2.2.2.2.1, hx, h.2.2.2.2.2.2.1, h.2.2.2.2.2.2.2⟩
theorem Sh_l_snap {C : Int32} {R : List Int32} {S : List Int32} {n : Int32} {q : Int32} {o : Ob} (h : Sh C R S n q o) : (f_snap o).length = 16 := h.2.2.2.2.2.1
theorem Sh_reg {C : Int32} {R : List Int32} {S : List Int32} {n : Int32} {q : Int32} {o : Ob} {x : List Int32} (h : Sh C R S n q o) (hx : x.length = 16) : Sh C R S n q (s_reg o x) := by
 dsimp only [Sh, f_range, f_slide, f_frontSize, f_backSize, f_backElem, f_frontAgg, f_backAgg, f_snap, f_reg, f_capacity, f_queries, f_n, s_reg] at h ⊢
 exact ⟨h.1, h.2.1, h.2.2.1, h.2.2.2.1, h.2.2.2.2.1, h.2.2.2.2.2.1, hx, h.2.2.2.2.2.2.2⟩
theorem Sh_l_reg {C : Int32} {R : List Int32} {S : List Int32} {n : Int32} {q : Int32} {o : Ob} (h : Sh C R S n q o) : (f_reg o).length = 16 := h.2.2.2.2.2.2.1
theorem Sh_R {C : Int32} {R S : List Int32} {n q : Int32} {o : Ob} (h : Sh C R S n q o) : f_range o = R := h.2.2.2.2.2.2.2.1
theorem Sh_S {C : Int32} {R S : List Int32} {n q : Int32} {o : Ob} (h : Sh C R S n q o) : f_slide o = S := h.2.2.2.2.2.2.2.2.1
theorem Sh_N {C : Int32} {R S : List Int32} {n q : Int32} {o : Ob} (h : Sh C R S n q o) : f_n o = n := h.2.2.2.2.2.2.2.2.2.1
theorem Sh_Q {C : Int32} {R S : List Int32} {n q : Int32} {o : Ob} (h : Sh C R S n q o) : f_queries o = q := h.2.2.2.2.2.2.2.2.2.2.1
theorem Sh_C {C : Int32} {R S : List Int32} {n q : Int32} {o : Ob} (h : Sh C R S n q o) : f_capacity o = C := h.2.2.2.2.2.2.2.2.2.2.2
theorem inc1 {x : Int32} (h : x.toInt < 2147483647) : (x + 1).toInt = x.toInt + 1 := by
 have := i_lo x
 have e1 : (1 : Int32).toInt = 1 := rfl
 rw [i_add (by omega) (by omega), e1]
theorem z4' : (4 : Int32).toInt = 4 := rfl
theorem m4 {x : Int32} (h0 : 0 ≤ x.toInt) (h : x.toInt < 1000) : (x * 4).toInt = x.toInt * 4 := i_mul (x := x) (y := 4) (by show _ ≤ x.toInt * 4; omega) (by show x.toInt * 4 < _; omega)
theorem vreg (x : Int32) : okP (F5 x) (fun r => r = 0 ∨ (r ≠ 0 ∧ 0 ≤ x.toInt ∧ x.toInt < 4)) := by
 unfold F5
 have z0 : (0 : Int32).toInt = 0 := rfl
 apply okP.ite <;> intro a
 ·exact okP.some (Or.inl rfl)
 apply okP.ite <;> intro b
 ·rw [i_lt, z0] at a
  rw [i_lt, z4'] at b
  exact okP.some (Or.inr ⟨by decide, by omega, b⟩)
 ·exact okP.some (Or.inl rfl)
theorem slotI {x y : Int32} (s0 : 0 ≤ x.toInt) (s4 : x.toInt < 4) (t0 : 0 ≤ y.toInt) (t4 : y.toInt < 32) : ((x * 32 + y) * 4).toInt = (x.toInt * 32 + y.toInt) * 4 := by
 have e : (x * 32).toInt = x.toInt * 32 := i_mul (x := x) (y := 32) (by show _ ≤ x.toInt * 32; omega) (by show x.toInt * 32 < _; omega)
 have e2 : (x * 32 + y).toInt = x.toInt * 32 + y.toInt := by rw [i_add (by omega) (by omega), e]
 rw [m4 (by omega) (by omega), e2]
theorem copy4 {src dst : Ob → List Int32} {upd : Ob → List Int32 → Ob} (h1 : ∀ o z, src (upd o z) = src o) (h2 : ∀ o z, dst (upd o z) = z) (h3 : ∀ o z z', upd (upd o z) z' = upd o z') (h4 : ∀ o, upd o (dst o) = o) {B : Int32 × Ob → Option (Ob ⊕ (Int32 × Ob))} {u w : Int32} (hB : ∀ v : Int32 × Ob, B v = (if v.1 < 4 then (aget (src v.2) (u + v.1)).bind fun y => (aset (dst v.2) (w + v.1) y).bind fun z => some (.inr (v.1 + 1, upd v.2 z)) else some (.inl v.2))) {o : Ob} {U V : Nat} (hu : u.toInt = U) (hw : w.toInt = V) (lu : U + 4 ≤ (src o).length) (lw : V + 4 ≤ (dst o).length) (su : U ≤ 2000) (sv : V ≤ 2000) : okP (loopN B qN (0, o)) (fun p => ∃ R, p = upd o R ∧ R.length = (dst o).length ∧ ∀ k, R[k]? = if V ≤ k ∧ k < V + 4 then (src o)[U + (k - V)]? else (dst o)[k]?) := by
 refine okP.loop (fun x => 0 ≤ x.1.toInt ∧ x.1.toInt ≤ 4 ∧ ∃ R, x.2 = upd o R ∧ R.length = (dst o).length ∧ ∀ k, R[k]? = if V ≤ k ∧ k < V + x.1.toInt.toNat then (src o)[U + (k - V)]? else (dst o)[k]?) (fun x => (4 - x.1.toInt).toNat) ⟨by show (0 : Int) ≤ 0; decide, by show (0 : Int) ≤ 4; decide, dst o, (h4 o).symm, rfl, fun k => by rw [if_neg (by show ¬ (V ≤ k ∧ k < V + 0); omega)]⟩ (by show (4 - (0 : Int)).toNat < 4000; decide) ?_
 rintro ⟨i, p⟩ ⟨a1, a2, R, a3, a4, a5⟩
 simp only at a1 a2 a3 a5
 subst a3
 rw [hB]
 simp only
 apply okP.ite <;> intro c
 ·rw [i_lt, z4'] at c
  have e2 : (i + 1).toInt = i.toInt + 1 := inc1 (by omega)
  have en : (i + 1).toInt.toNat = i.toInt.toNat + 1 := by omega
  have i1 : (u + i).toInt = u.toInt + i.toInt := i_add (by omega) (by omega)
  have i2 : (w + i).toInt = w.toInt + i.toInt := i_add (by omega) (by omega)
  rw [h1, h2]
  apply okP.bind
  refine okP.aget (by omega) (by omega) (fun y hy => ?_)
  have ey : (u + i).toInt.toNat = U + i.toInt.toNat := by omega
  rw [ey] at hy
  apply okP.bind
  refine okP.aset (by omega) (by omega) ?_
  have ew : (w + i).toInt.toNat = V + i.toInt.toNat := by omega
  rw [ew]
  apply okP.some
  refine ⟨⟨by simp only; omega, by simp only; omega, R.set (V + i.toInt.toNat) y, by simp only; rw [h3], by rw [List.length_set]; exact a4, fun k => ?_⟩, by simp only; omega⟩
  simp only
  rw [List.getElem?_set, en, a5 k]
  by_cases e : V + i.toInt.toNat = k
  ·rw [if_pos e, if_pos (by omega), if_pos (by omega), ← hy]
   congr 1; omega
  ·rw [if_neg e]
   by_cases q : V ≤ k ∧ k < V + i.toInt.toNat
   ·rw [if_pos q, if_pos (by omega)]
   ·rw [if_neg q, if_neg (by omega)]
 ·rw [i_lt, z4'] at c
  apply okP.some
  refine ⟨R, rfl, a4, fun k => ?_⟩
  have : i.toInt.toNat = 4 := by omega
  rw [a5 k, this]
theorem set_ex {C : Int32} {R S : List Int32} {n q : Int32} {o : Ob} (h : Sh C R S n q o) {x : Int32} (x0 : 0 ≤ x.toInt) (x4 : x.toInt < 4) (a b c d : Int32) : F4 o x a b c d = some (s_reg o (((((f_reg o).set (x.toInt.toNat * 4) a).set (x.toInt.toNat * 4 + 1) b).set (x.toInt.toNat * 4 + 2) c).set (x.toInt.toNat * 4 + 3) d)) := by
 have l := Sh_l_reg h
 unfold F4
 obtain ⟨r, hr, q⟩ := vreg x
 have r0 : r ≠ 0 := by
  rcases q with rfl | q
  ·exfalso
   unfold F5 at hr
   rw [if_neg (by rw [i_lt]; show ¬ x.toInt < 0; omega), if_pos (by rw [i_lt]; exact x4)] at hr
   cases hr
  ·exact q.1
 rw [hr]
 simp only [Option.bind_some]
 rw [if_neg r0]
 have e := m4 x0 (by omega)
 have e1 : (x * 4 + 1).toInt = x.toInt * 4 + 1 := by rw [inc1 (by omega), e]
 have e2 : (x * 4 + 2).toInt = x.toInt * 4 + 2 := by rw [i_add (by rw [e]; show _ ≤ x.toInt * 4 + 2; omega) (by rw [e]; show x.toInt * 4 + 2 < _; omega), e]; rfl
 have e3 : (x * 4 + 3).toInt = x.toInt * 4 + 3 := by rw [i_add (by rw [e]; show _ ≤ x.toInt * 4 + 3; omega) (by rw [e]; show x.toInt * 4 + 3 < _; omega), e]; rfl
 rw [aset_at (n := x.toInt.toNat * 4) (by omega) (by omega)]
 simp only [Option.bind_some]
 rw [aset_at (n := x.toInt.toNat * 4 + 1) (by omega) (by rw [List.length_set]; omega)]
 simp only [Option.bind_some]
 rw [aset_at (n := x.toInt.toNat * 4 + 2) (by omega) (by simp only [List.length_set]; omega)]
 simp only [Option.bind_some]
 rw [aset_at (n := x.toInt.toNat * 4 + 3) (by omega) (by simp only [List.length_set]; omega)]
 rfl
def M4 (l : List Int32) (k : Nat) (m : Int32 × Int32 × Int32 × Int32) : Prop := l[k]? = some m.1 ∧ l[k + 1]? = some m.2.1 ∧ l[k + 2]? = some m.2.2.1 ∧ l[k + 3]? = some m.2.2.2
theorem M4_cp {R src dst : List Int32} {U V : Nat} {m : Int32 × Int32 × Int32 × Int32} (h : ∀ k, R[k]? = if V ≤ k ∧ k < V + 4 then src[U + (k - V)]? else dst[k]?) (hm : M4 src U m) : M4 R V m := by
 obtain ⟨m1, m2, m3, m4⟩ := hm
 refine ⟨?_, ?_, ?_, ?_⟩
 ·rw [h, if_pos (by omega), show U + (V - V) = U by omega]; exact m1
 ·rw [h, if_pos (by omega), show U + (V + 1 - V) = U + 1 by omega]; exact m2
 ·rw [h, if_pos (by omega), show U + (V + 2 - V) = U + 2 by omega]; exact m3
 ·rw [h, if_pos (by omega), show U + (V + 3 - V) = U + 3 by omega]; exact m4
theorem M4_ot {R src dst : List Int32} {U V k : Nat} {m : Int32 × Int32 × Int32 × Int32} (h : ∀ k, R[k]? = if V ≤ k ∧ k < V + 4 then src[U + (k - V)]? else dst[k]?) (hk : k + 4 ≤ V ∨ V + 4 ≤ k) (hm : M4 dst k m) : M4 R k m := by
 obtain ⟨m1, m2, m3, m4⟩ := hm
 refine ⟨?_, ?_, ?_, ?_⟩ <;> rw [h, if_neg (by omega)] <;> assumption
theorem vr {u : Int32} (u0 : 0 ≤ u.toInt) (u4 : u.toInt < 4) : F5 u = some 1 := by
 unfold F5
 rw [if_neg (by rw [i_lt]; show ¬ u.toInt < 0; omega), if_pos (by rw [i_lt]; exact u4)]
theorem vsl {x y : Int32} (x0 : 0 ≤ x.toInt) (x4 : x.toInt < 4) (y0 : 0 ≤ y.toInt) (y1 : y.toInt < 32) : F31 x y = some 1 := by
 unfold F31
 rw [if_neg (by rw [i_lt]; show ¬ x.toInt < 0; omega), if_pos (by rw [i_lt]; exact x4), if_neg (by rw [i_lt]; show ¬ y.toInt < 0; omega), if_pos (by rw [i_lt]; exact y1)]
def mm (A B : Int32 × Int32 × Int32 × Int32) : Int32 × Int32 × Int32 × Int32 := (A.1 * B.1 + A.2.1 * B.2.2.1, A.1 * B.2.1 + A.2.1 * B.2.2.2, A.2.2.1 * B.1 + A.2.2.2 * B.2.2.1, A.2.2.1 * B.2.1 + A.2.2.2 * B.2.2.2)
theorem mm_l (A : Int32 × Int32 × Int32 × Int32) : mm (1, 0, 0, 1) A = A := by
 obtain ⟨a, b, c, d⟩ := A
 simp only [mm, Int32.one_mul, Int32.zero_mul, Int32.add_zero, Int32.zero_add]
theorem mm_r (A : Int32 × Int32 × Int32 × Int32) : mm A (1, 0, 0, 1) = A := by
 obtain ⟨a, b, c, d⟩ := A
 simp only [mm, Int32.mul_one, Int32.mul_zero, Int32.add_zero, Int32.zero_add]
abbrev MX := Int32 × Int32 × Int32 × Int32
theorem M4_ex {l : List Int32} {k : Nat} (h : k + 4 ≤ l.length) : ∃ m, M4 l k m := ⟨(l[k]'(by omega), l[k + 1]'(by omega), l[k + 2]'(by omega), l[k + 3]'(by omega)), List.getElem?_eq_getElem _, List.getElem?_eq_getElem _, List.getElem?_eq_getElem _, List.getElem?_eq_getElem _⟩
theorem mul_m {C : Int32} {R S : List Int32} {n q : Int32} {o : Ob} (h : Sh C R S n q o) {x y z : Int32} {X Y Z : Nat} (hx : x.toInt * 4 = X) (hy : y.toInt * 4 = Y) (hz : z.toInt * 4 = Z) (x4 : x.toInt < 4) (y4 : y.toInt < 4) (w4 : z.toInt < 4) {A B : Int32 × Int32 × Int32 × Int32} (hA : M4 (f_reg o) Y A) (hB : M4 (f_reg o) Z B) : okP (F28 o x y z) (fun p => ∃ L : List Int32, p = s_reg o L ∧ L.length = 16 ∧ M4 L X (mm A B) ∧ ∀ k m, (k + 4 ≤ X ∨ X + 4 ≤ k) → M4 (f_reg o) k m → M4 L k m) := by
 have l := Sh_l_reg h
 obtain ⟨A1, A2, A3, A4⟩ := hA
 obtain ⟨B1, B2, B3, B4⟩ := hB
 unfold F28
 rw [vr (u := x) (by omega) x4, vr (u := y) (by omega) y4, vr (u := z) (by omega) w4]
 simp only [Option.bind_some]
 rw [if_neg (by decide), if_neg (by decide), if_neg (by decide)]
 have three : ∀ (x : Int32) (X : Nat), x.toInt * 4 = X → x.toInt < 4 → (x * 4).toInt = X ∧ (x * 4 + 1).toInt = (X + 1 : Nat) ∧ (x * 4 + 2).toInt = (X + 2 : Nat) ∧ (x * 4 + 3).toInt = (X + 3 : Nat) := by
  intro x X hX x4
  have e := m4 (x := x) (by omega) (by omega)
  refine ⟨by omega, ?_, ?_, ?_⟩
  ·rw [inc1 (by omega), e]; omega
  ·rw [i_add (by rw [e]; show _ ≤ x.toInt * 4 + 2; omega) (by rw [e]; show x.toInt * 4 + 2 < _; omega), e]; show x.toInt * 4 + 2 = _; omega
  ·rw [i_add (by rw [e]; show _ ≤ x.toInt * 4 + 3; omega) (by rw [e]; show x.toInt * 4 + 3 < _; omega), e]; show x.toInt * 4 + 3 = _; omega
 obtain ⟨x1, x2, x3, x5⟩ := three x X hx x4
 obtain ⟨y1, y2, y3, y5⟩ := three y Y hy y4
 obtain ⟨w1, w2, w3, w5⟩ := three z Z hz w4
 have rd : ∀ {j : Int32} {k : Nat} {w : Int32}, j.toInt = k → (f_reg o)[k]? = some w → aget (f_reg o) j = some w := by
  intro j k w h2 h3
  unfold aget
  rw [if_neg (by rw [i_lt]; show ¬ j.toInt < 0; omega), i_nat, h2, Int.toNat_natCast]
  exact h3
 rw [rd y1 A1, rd y2 A2, rd y3 A3, rd y5 A4, rd w1 B1, rd w2 B2, rd w3 B3, rd w5 B4]
 simp only [Option.bind_some]
 rw [aset_at x1 (by omega)]
 simp only [Option.bind_some]
 rw [aset_at x2 (by rw [List.length_set]; omega)]
 simp only [Option.bind_some]
 rw [aset_at x3 (by simp only [List.length_set]; omega)]
 simp only [Option.bind_some]
 rw [aset_at x5 (by simp only [List.length_set]; omega)]
 simp only [Option.bind_some]
 refine okP.some ⟨_, rfl, by simp only [List.length_set]; exact l, ⟨?_, ?_, ?_, ?_⟩, fun k m hk hm => ?_⟩
 ·rw [List.getElem?_set_ne (by omega), List.getElem?_set_ne (by omega), List.getElem?_set_ne (by omega), List.getElem?_set_self (by omega)]; rfl
 ·rw [List.getElem?_set_ne (by omega), List.getElem?_set_ne (by omega), List.getElem?_set_self (by simp only [List.length_set]; omega)]; rfl
 ·rw [List.getElem?_set_ne (by omega), List.getElem?_set_self (by simp only [List.length_set]; omega)]; rfl
 ·rw [List.getElem?_set_self (by simp only [List.length_set]; omega)]; rfl
 ·obtain ⟨m1, m2, m3, m4⟩ := hm
  refine ⟨?_, ?_, ?_, ?_⟩ <;> rw [List.getElem?_set_ne (by omega), List.getElem?_set_ne (by omega), List.getElem?_set_ne (by omega), List.getElem?_set_ne (by omega)] <;> assumption
theorem id_m {C : Int32} {R S : List Int32} {n q : Int32} {o : Ob} (h : Sh C R S n q o) : ∃ L : List Int32, F3 o 1 = some (s_reg o L) ∧ L.length = 16 ∧ M4 L 4 (1, 0, 0, 1) ∧ ∀ k m, (k + 4 ≤ 4 ∨ 8 ≤ k) → M4 (f_reg o) k m → M4 L k m := by
 have l := Sh_l_reg h
 unfold F3
 rw [set_ex h (x := 1) (by decide) (by decide)]
 refine ⟨(((((f_reg o).set 4 1).set 5 0).set 6 0).set 7 1), rfl, by simp only [List.length_set]; exact l, ⟨?_, ?_, ?_, ?_⟩, fun k m hk hm => ?_⟩
 ·rw [List.getElem?_set_ne (by decide), List.getElem?_set_ne (by decide), List.getElem?_set_ne (by decide), List.getElem?_set_self (by omega)]
 ·show (((((f_reg o).set 4 1).set 5 0).set 6 0).set 7 1)[5]? = _
  rw [List.getElem?_set_ne (by decide), List.getElem?_set_ne (by decide), List.getElem?_set_self (by rw [List.length_set]; omega)]
 ·show (((((f_reg o).set 4 1).set 5 0).set 6 0).set 7 1)[6]? = _
  rw [List.getElem?_set_ne (by decide), List.getElem?_set_self (by simp only [List.length_set]; omega)]
 ·show (((((f_reg o).set 4 1).set 5 0).set 6 0).set 7 1)[7]? = _
  rw [List.getElem?_set_self (by simp only [List.length_set]; omega)]
 ·obtain ⟨m1, m2, m3, m4⟩ := hm
  refine ⟨?_, ?_, ?_, ?_⟩ <;> rw [List.getElem?_set_ne (by omega), List.getElem?_set_ne (by omega), List.getElem?_set_ne (by omega), List.getElem?_set_ne (by omega)] <;> assumption
theorem ba_m {C : Int32} {R S : List Int32} {n q : Int32} {o : Ob} (h : Sh C R S n q o) {x : Int32} (x0 : 0 ≤ x.toInt) (x4 : x.toInt < 4) {r : Int32} {U : Nat} (r0 : 0 ≤ r.toInt) (r4 : r.toInt < 4) (hU : r.toInt * 4 = U) {m : MX} (hm : M4 (f_reg o) U m) : okP (F6 o x r) (fun p => ∃ L : List Int32, p = s_backAgg o L ∧ L.length = 16 ∧ M4 L (x.toInt.toNat * 4) m ∧ ∀ k, ¬ (x.toInt.toNat * 4 ≤ k ∧ k < x.toInt.toNat * 4 + 4) → L[k]? = (f_backAgg o)[k]?) := by
 have l := Sh_l_reg h
 have l2 := Sh_l_backAgg h
 unfold F6
 rw [vr r0 r4]
 simp only [Option.bind_some]
 rw [if_neg (by decide), if_neg (by rw [i_lt]; show ¬ x.toInt < 0; omega), if_pos (by rw [i_lt]; exact x4)]
 have e := m4 r0 (by omega)
 have e2 := m4 x0 (by omega)
 apply okP.bind
 refine okP.mono (copy4 (src := f_reg) (dst := f_backAgg) (upd := s_backAgg) (u := r * 4) (w := x * 4) (U := U) (V := x.toInt.toNat * 4) (fun _ _ => rfl) (fun _ _ => rfl) (fun _ _ _ => rfl) (fun _ => rfl) (fun _ => rfl) (by omega) (by omega) (by omega) (by omega) (by omega) (by omega)) ?_
 rintro p ⟨L, hp, hl, hk⟩
 exact okP.some ⟨L, hp, by rw [hl]; exact l2, M4_cp hk hm, fun k hk' => by rw [hk, if_neg hk']⟩
theorem sn_m {C : Int32} {R S : List Int32} {n q : Int32} {o : Ob} (h : Sh C R S n q o) {x : Int32} (x0 : 0 ≤ x.toInt) (x4 : x.toInt < 4) {r : Int32} {U : Nat} (r0 : 0 ≤ r.toInt) (r4 : r.toInt < 4) (hU : r.toInt * 4 = U) {m : MX} (hm : M4 (f_reg o) U m) : okP (F7 o x r) (fun p => ∃ L : List Int32, p = s_snap o L ∧ L.length = 16 ∧ M4 L (x.toInt.toNat * 4) m ∧ ∀ k, ¬ (x.toInt.toNat * 4 ≤ k ∧ k < x.toInt.toNat * 4 + 4) → L[k]? = (f_snap o)[k]?) := by
 have l := Sh_l_reg h
 have l2 := Sh_l_snap h
 unfold F7
 rw [vr r0 r4]
 simp only [Option.bind_some]
 rw [if_neg (by decide), if_neg (by rw [i_lt]; show ¬ x.toInt < 0; omega), if_pos (by rw [i_lt]; exact x4)]
 have e := m4 r0 (by omega)
 have e2 := m4 x0 (by omega)
 apply okP.bind
 refine okP.mono (copy4 (src := f_reg) (dst := f_snap) (upd := s_snap) (u := r * 4) (w := x * 4) (U := U) (V := x.toInt.toNat * 4) (fun _ _ => rfl) (fun _ _ => rfl) (fun _ _ _ => rfl) (fun _ => rfl) (fun _ => rfl) (by omega) (by omega) (by omega) (by omega) (by omega) (by omega)) ?_
 rintro p ⟨L, hp, hl, hk⟩
 exact okP.some ⟨L, hp, by rw [hl]; exact l2, M4_cp hk hm, fun k hk' => by rw [hk, if_neg hk']⟩
theorem ld_m {C : Int32} {R S : List Int32} {n q : Int32} {o : Ob} (h : Sh C R S n q o) {x : Int32} (x0 : 0 ≤ x.toInt) (x4 : x.toInt < 4) {r : Int32} {V : Nat} (r0 : 0 ≤ r.toInt) (r4 : r.toInt < 4) (hV : r.toInt * 4 = V) {m : MX} (hm : M4 (f_backAgg o) (x.toInt.toNat * 4) m) : okP (F27 o r x) (fun p => ∃ L : List Int32, p = s_reg o L ∧ L.length = 16 ∧ M4 L V m ∧ ∀ k m, (k + 4 ≤ V ∨ V + 4 ≤ k) → M4 (f_reg o) k m → M4 L k m) := by
 have l := Sh_l_reg h
 have l2 := Sh_l_backAgg h
 unfold F27
 rw [vr r0 r4]
 simp only [Option.bind_some]
 rw [if_neg (by decide), if_neg (by rw [i_lt]; show ¬ x.toInt < 0; omega), if_pos (by rw [i_lt]; exact x4)]
 have e := m4 r0 (by omega)
 have e2 := m4 x0 (by omega)
 apply okP.bind
 refine okP.mono (copy4 (src := f_backAgg) (dst := f_reg) (upd := s_reg) (u := x * 4) (w := r * 4) (U := x.toInt.toNat * 4) (V := V) (fun _ _ => rfl) (fun _ _ => rfl) (fun _ _ _ => rfl) (fun _ => rfl) (fun _ => rfl) (by omega) (by omega) (by omega) (by omega) (by omega) (by omega)) ?_
 rintro p ⟨L, hp, hl, hk⟩
 exact okP.some ⟨L, hp, by rw [hl]; exact l, M4_cp hk hm, fun k m hk' hm' => M4_ot hk hk' hm'⟩
theorem sb_m {C : Int32} {R S : List Int32} {n q : Int32} {o : Ob} (h : Sh C R S n q o) {x : Int32} (x0 : 0 ≤ x.toInt) (x4 : x.toInt < 4) {y : Int32} (y0 : 0 ≤ y.toInt) (y1 : y.toInt < 32) {r : Int32} {U : Nat} (r0 : 0 ≤ r.toInt) (r4 : r.toInt < 4) (hU : r.toInt * 4 = U) {m : MX} (hm : M4 (f_reg o) U m) : okP (F32 o x y r) (fun p => ∃ L : List Int32, p = s_backElem o L ∧ L.length = 512 ∧ M4 L ((x.toInt.toNat * 32 + y.toInt.toNat) * 4) m ∧ ∀ k, ¬ ((x.toInt.toNat * 32 + y.toInt.toNat) * 4 ≤ k ∧ k < (x.toInt.toNat * 32 + y.toInt.toNat) * 4 + 4) → L[k]? = (f_backElem o)[k]?) := by
 have l := Sh_l_reg h
 have l2 := Sh_l_backElem h
 unfold F32 F33
 rw [vr r0 r4, vsl x0 x4 y0 y1]
 simp only [Option.bind_some]
 rw [if_neg (by decide), if_neg (by decide)]
 have e := slotI x0 x4 y0 y1
 have e2 := m4 r0 (by omega)
 apply okP.bind
 refine okP.mono (copy4 (src := f_reg) (dst := f_backElem) (upd := s_backElem) (u := r * 4) (w := (x * 32 + y) * 4) (U := U) (V := (x.toInt.toNat * 32 + y.toInt.toNat) * 4) (fun _ _ => rfl) (fun _ _ => rfl) (fun _ _ _ => rfl) (fun _ => rfl) (fun _ => rfl) (by omega) (by omega) (by omega) (by omega) (by omega) (by omega)) ?_
 rintro p ⟨L, hp, hl, hk⟩
 exact okP.some ⟨L, hp, by rw [hl]; exact l2, M4_cp hk hm, fun k hk' => by rw [hk, if_neg hk']⟩
theorem lb_m {C : Int32} {R S : List Int32} {n q : Int32} {o : Ob} (h : Sh C R S n q o) {x : Int32} (x0 : 0 ≤ x.toInt) (x4 : x.toInt < 4) {y : Int32} (y0 : 0 ≤ y.toInt) (y1 : y.toInt < 32) {r : Int32} {V : Nat} (r0 : 0 ≤ r.toInt) (r4 : r.toInt < 4) (hV : r.toInt * 4 = V) {m : MX} (hm : M4 (f_backElem o) ((x.toInt.toNat * 32 + y.toInt.toNat) * 4) m) : okP (F36 o r x y) (fun p => ∃ L : List Int32, p = s_reg o L ∧ L.length = 16 ∧ M4 L V m ∧ ∀ k m, (k + 4 ≤ V ∨ V + 4 ≤ k) → M4 (f_reg o) k m → M4 L k m) := by
 have l := Sh_l_reg h
 have l2 := Sh_l_backElem h
 unfold F36 F33
 rw [vr r0 r4, vsl x0 x4 y0 y1]
 simp only [Option.bind_some]
 rw [if_neg (by decide), if_neg (by decide)]
 have e := slotI x0 x4 y0 y1
 have e2 := m4 r0 (by omega)
 apply okP.bind
 refine okP.mono (copy4 (src := f_backElem) (dst := f_reg) (upd := s_reg) (u := (x * 32 + y) * 4) (w := r * 4) (U := (x.toInt.toNat * 32 + y.toInt.toNat) * 4) (V := V) (fun _ _ => rfl) (fun _ _ => rfl) (fun _ _ _ => rfl) (fun _ => rfl) (fun _ => rfl) (by omega) (by omega) (by omega) (by omega) (by omega) (by omega)) ?_
 rintro p ⟨L, hp, hl, hk⟩
 exact okP.some ⟨L, hp, by rw [hl]; exact l, M4_cp hk hm, fun k m hk' hm' => M4_ot hk hk' hm'⟩
theorem sf_m {C : Int32} {R S : List Int32} {n q : Int32} {o : Ob} (h : Sh C R S n q o) {x : Int32} (x0 : 0 ≤ x.toInt) (x4 : x.toInt < 4) {y : Int32} (y0 : 0 ≤ y.toInt) (y1 : y.toInt < 32) {r : Int32} {U : Nat} (r0 : 0 ≤ r.toInt) (r4 : r.toInt < 4) (hU : r.toInt * 4 = U) {m : MX} (hm : M4 (f_reg o) U m) : okP (F37 o x y r) (fun p => ∃ L : List Int32, p = s_frontAgg o L ∧ L.length = 512 ∧ M4 L ((x.toInt.toNat * 32 + y.toInt.toNat) * 4) m ∧ ∀ k, ¬ ((x.toInt.toNat * 32 + y.toInt.toNat) * 4 ≤ k ∧ k < (x.toInt.toNat * 32 + y.toInt.toNat) * 4 + 4) → L[k]? = (f_frontAgg o)[k]?) := by
 have l := Sh_l_reg h
 have l2 := Sh_l_frontAgg h
 unfold F37 F33
 rw [vr r0 r4, vsl x0 x4 y0 y1]
 simp only [Option.bind_some]
 rw [if_neg (by decide), if_neg (by decide)]
 have e := slotI x0 x4 y0 y1
 have e2 := m4 r0 (by omega)
 apply okP.bind
 refine okP.mono (copy4 (src := f_reg) (dst := f_frontAgg) (upd := s_frontAgg) (u := r * 4) (w := (x * 32 + y) * 4) (U := U) (V := (x.toInt.toNat * 32 + y.toInt.toNat) * 4) (fun _ _ => rfl) (fun _ _ => rfl) (fun _ _ _ => rfl) (fun _ => rfl) (fun _ => rfl) (by omega) (by omega) (by omega) (by omega) (by omega) (by omega)) ?_
 rintro p ⟨L, hp, hl, hk⟩
 exact okP.some ⟨L, hp, by rw [hl]; exact l2, M4_cp hk hm, fun k hk' => by rw [hk, if_neg hk']⟩
theorem lf_m {C : Int32} {R S : List Int32} {n q : Int32} {o : Ob} (h : Sh C R S n q o) {x : Int32} (x0 : 0 ≤ x.toInt) (x4 : x.toInt < 4) {y : Int32} (y0 : 0 ≤ y.toInt) (y1 : y.toInt < 32) {r : Int32} {V : Nat} (r0 : 0 ≤ r.toInt) (r4 : r.toInt < 4) (hV : r.toInt * 4 = V) {m : MX} (hm : M4 (f_frontAgg o) ((x.toInt.toNat * 32 + y.toInt.toNat) * 4) m) : okP (F39 o r x y) (fun p => ∃ L : List Int32, p = s_reg o L ∧ L.length = 16 ∧ M4 L V m ∧ ∀ k m, (k + 4 ≤ V ∨ V + 4 ≤ k) → M4 (f_reg o) k m → M4 L k m) := by
 have l := Sh_l_reg h
 have l2 := Sh_l_frontAgg h
 unfold F39 F33
 rw [vr r0 r4, vsl x0 x4 y0 y1]
 simp only [Option.bind_some]
 rw [if_neg (by decide), if_neg (by decide)]
 have e := slotI x0 x4 y0 y1
 have e2 := m4 r0 (by omega)
 apply okP.bind
 refine okP.mono (copy4 (src := f_frontAgg) (dst := f_reg) (upd := s_reg) (u := (x * 32 + y) * 4) (w := r * 4) (U := (x.toInt.toNat * 32 + y.toInt.toNat) * 4) (V := V) (fun _ _ => rfl) (fun _ _ => rfl) (fun _ _ _ => rfl) (fun _ => rfl) (fun _ => rfl) (by omega) (by omega) (by omega) (by omega) (by omega) (by omega)) ?_
 rintro p ⟨L, hp, hl, hk⟩
 exact okP.some ⟨L, hp, by rw [hl]; exact l, M4_cp hk hm, fun k m hk' hm' => M4_ot hk hk' hm'⟩
theorem mm_assoc (A B D : MX) : mm (mm A B) D = mm A (mm B D) := by
 obtain ⟨a1, a2, a3, a4⟩ := A
 obtain ⟨b1, b2, b3, b4⟩ := B
 obtain ⟨d1, d2, d3, d4⟩ := D
 simp only [mm, Prod.mk.injEq]
 refine ⟨?_, ?_, ?_, ?_⟩ <;> grind
def prod : List MX → MX
 | [] => (1, 0, 0, 1)
 | A :: l => mm A (prod l)
theorem prod_app : ∀ (l m : List MX), prod (l ++ m) = mm (prod l) (prod m)
 | [], m => (mm_l _).symm
 | A :: l, m => by
  show mm A (prod (l ++ m)) = mm (mm A (prod l)) (prod m)
  rw [prod_app l m, mm_assoc]
theorem prod_one (A : MX) : prod [A] = A := mm_r A
theorem prod_snoc (l : List MX) (A : MX) : prod (l ++ [A]) = mm (prod l) A := by rw [prod_app, prod_one]
def Zq (o : Ob) (x : Nat) (F B : List MX) (SN : MX) : Prop := (∃ fs : Int32, (f_frontSize o)[x]? = some fs ∧ fs.toInt = F.length) ∧ (∃ bs : Int32, (f_backSize o)[x]? = some bs ∧ bs.toInt = B.length) ∧ M4 (f_backAgg o) (x * 4) (prod B) ∧ (∀ j m, B[j]? = some m → M4 (f_backElem o) ((x * 32 + j) * 4) m) ∧ (∀ i, i < F.length → M4 (f_frontAgg o) ((x * 32 + i) * 4) (prod (F.drop (F.length - 1 - i)))) ∧ M4 (f_snap o) (x * 4) SN ∧ F.length + B.length ≤ 32
def Keep (o p : Ob) (x : Nat) : Prop := (f_frontSize p)[x]? = (f_frontSize o)[x]? ∧ (f_backSize p)[x]? = (f_backSize o)[x]? ∧ (∀ k, x * 4 ≤ k → k < x * 4 + 4 → (f_backAgg p)[k]? = (f_backAgg o)[k]?) ∧ (∀ k, x * 128 ≤ k → k < x * 128 + 128 → (f_backElem p)[k]? = (f_backElem o)[k]?) ∧ (∀ k, x * 128 ≤ k → k < x * 128 + 128 → (f_frontAgg p)[k]? = (f_frontAgg o)[k]?) ∧ (∀ k, x * 4 ≤ k → k < x * 4 + 4 → (f_snap p)[k]? = (f_snap o)[k]?)
theorem Keep.refl (o : Ob) (x : Nat) : Keep o o x := ⟨rfl, rfl, fun _ _ _ => rfl, fun _ _ _ => rfl, fun _ _ _ => rfl, fun _ _ _ => rfl⟩
theorem Keep.trans {o p r : Ob} {x : Nat} (h : Keep o p x) (g : Keep p r x) : Keep o r x := ⟨g.1.trans h.1, g.2.1.trans h.2.1, fun k a b => (g.2.2.1 k a b).trans (h.2.2.1 k a b), fun k a b => (g.2.2.2.1 k a b).trans (h.2.2.2.1 k a b), fun k a b => (g.2.2.2.2.1 k a b).trans (h.2.2.2.2.1 k a b), fun k a b => (g.2.2.2.2.2 k a b).trans (h.2.2.2.2.2 k a b)⟩
theorem M4_k {l l' : List Int32} {k : Nat} {m : MX} (h : M4 l k m) (e : ∀ i, k ≤ i → i < k + 4 → l'[i]? = l[i]?) : M4 l' k m := by
 obtain ⟨m1, m2, m3, m4⟩ := h
 exact ⟨by rw [e _ (by omega) (by omega)]; exact m1, by rw [e _ (by omega) (by omega)]; exact m2, by rw [e _ (by omega) (by omega)]; exact m3, by rw [e _ (by omega) (by omega)]; exact m4⟩
theorem Zq.keep {o p : Ob} {x : Nat} {F B : List MX} {SN : MX} (h : Zq o x F B SN) (k : Keep o p x) : Zq p x F B SN := by
 obtain ⟨h1, h2, h3, h4, h5, h6, h7⟩ := h
 obtain ⟨k1, k2, k3, k4, k5, k6⟩ := k
 refine ⟨by rw [k1]; exact h1, by rw [k2]; exact h2, M4_k h3 k3, fun j m hj => M4_k (h4 j m hj) (fun i a b => k4 i (by omega) ?_), fun i hi => M4_k (h5 i hi) (fun j a b => k5 j (by omega) (by omega)), M4_k h6 k6, h7⟩
 have : j < B.length := by
  obtain ⟨l, _⟩ := List.getElem?_eq_some_iff.1 hj
  exact l
 omega
theorem keep_reg (o : Ob) (l : List Int32) (x : Nat) : Keep o (s_reg o l) x := by
 dsimp only [Keep, f_regTuple, f_regA, f_regB, f_regC, f_regCount, f_slots, f_range, f_slide, f_frontSize, f_backSize, f_backElem, f_frontAgg, f_backAgg, f_snap, f_reg, f_capacity, f_queries, f_n, s_reg]
 exact ⟨rfl, rfl, fun _ _ _ => rfl, fun _ _ _ => rfl, fun _ _ _ => rfl, fun _ _ _ => rfl⟩
theorem keep_n (o : Ob) (l : Int32) (x : Nat) : Keep o (s_n o l) x := by
 dsimp only [Keep, f_regTuple, f_regA, f_regB, f_regC, f_regCount, f_slots, f_range, f_slide, f_frontSize, f_backSize, f_backElem, f_frontAgg, f_backAgg, f_snap, f_reg, f_capacity, f_queries, f_n, s_n]
 exact ⟨rfl, rfl, fun _ _ _ => rfl, fun _ _ _ => rfl, fun _ _ _ => rfl, fun _ _ _ => rfl⟩
theorem keep_q (o : Ob) (l : Int32) (x : Nat) : Keep o (s_queries o l) x := by
 dsimp only [Keep, f_regTuple, f_regA, f_regB, f_regC, f_regCount, f_slots, f_range, f_slide, f_frontSize, f_backSize, f_backElem, f_frontAgg, f_backAgg, f_snap, f_reg, f_capacity, f_queries, f_n, s_queries]
 exact ⟨rfl, rfl, fun _ _ _ => rfl, fun _ _ _ => rfl, fun _ _ _ => rfl, fun _ _ _ => rfl⟩
theorem keep_rs (o : Ob) (l m : List Int32) (x : Nat) : Keep o (s_slide (s_range o l) m) x := by
 dsimp only [Keep, f_regTuple, f_regA, f_regB, f_regC, f_regCount, f_slots, f_range, f_slide, f_frontSize, f_backSize, f_backElem, f_frontAgg, f_backAgg, f_snap, f_reg, f_capacity, f_queries, f_n, s_slide, s_range]
 exact ⟨rfl, rfl, fun _ _ _ => rfl, fun _ _ _ => rfl, fun _ _ _ => rfl, fun _ _ _ => rfl⟩
theorem keep_ba (o : Ob) {l : List Int32} {x : Nat} (h : ∀ k, x * 4 ≤ k → k < x * 4 + 4 → l[k]? = (f_backAgg o)[k]?) : Keep o (s_backAgg o l) x := by
 dsimp only [Keep, f_regTuple, f_regA, f_regB, f_regC, f_regCount, f_slots, f_range, f_slide, f_frontSize, f_backSize, f_backElem, f_frontAgg, f_backAgg, f_snap, f_reg, f_capacity, f_queries, f_n, s_backAgg] at h ⊢
 exact ⟨rfl, rfl, h, fun _ _ _ => rfl, fun _ _ _ => rfl, fun _ _ _ => rfl⟩
theorem keep_sn (o : Ob) {l : List Int32} {x : Nat} (h : ∀ k, x * 4 ≤ k → k < x * 4 + 4 → l[k]? = (f_snap o)[k]?) : Keep o (s_snap o l) x := by
 dsimp only [Keep, f_regTuple, f_regA, f_regB, f_regC, f_regCount, f_slots, f_range, f_slide, f_frontSize, f_backSize, f_backElem, f_frontAgg, f_backAgg, f_snap, f_reg, f_capacity, f_queries, f_n, s_snap] at h ⊢
 exact ⟨rfl, rfl, fun _ _ _ => rfl, fun _ _ _ => rfl, fun _ _ _ => rfl, h⟩
theorem keep_be (o : Ob) {l : List Int32} {x : Nat} (h : ∀ k, x * 128 ≤ k → k < x * 128 + 128 → l[k]? = (f_backElem o)[k]?) : Keep o (s_backElem o l) x := by
 dsimp only [Keep, f_regTuple, f_regA, f_regB, f_regC, f_regCount, f_slots, f_range, f_slide, f_frontSize, f_backSize, f_backElem, f_frontAgg, f_backAgg, f_snap, f_reg, f_capacity, f_queries, f_n, s_backElem] at h ⊢
 exact ⟨rfl, rfl, fun _ _ _ => rfl, h, fun _ _ _ => rfl, fun _ _ _ => rfl⟩
theorem keep_fa (o : Ob) {l : List Int32} {x : Nat} (h : ∀ k, x * 128 ≤ k → k < x * 128 + 128 → l[k]? = (f_frontAgg o)[k]?) : Keep o (s_frontAgg o l) x := by
 dsimp only [Keep, f_regTuple, f_regA, f_regB, f_regC, f_regCount, f_slots, f_range, f_slide, f_frontSize, f_backSize, f_backElem, f_frontAgg, f_backAgg, f_snap, f_reg, f_capacity, f_queries, f_n, s_frontAgg] at h ⊢
 exact ⟨rfl, rfl, fun _ _ _ => rfl, fun _ _ _ => rfl, h, fun _ _ _ => rfl⟩
theorem keep_fs (o : Ob) {l : List Int32} {x : Nat} (h : l[x]? = (f_frontSize o)[x]?) : Keep o (s_frontSize o l) x := by
 dsimp only [Keep, f_regTuple, f_regA, f_regB, f_regC, f_regCount, f_slots, f_range, f_slide, f_frontSize, f_backSize, f_backElem, f_frontAgg, f_backAgg, f_snap, f_reg, f_capacity, f_queries, f_n, s_frontSize] at h ⊢
 exact ⟨h, rfl, fun _ _ _ => rfl, fun _ _ _ => rfl, fun _ _ _ => rfl, fun _ _ _ => rfl⟩
theorem keep_bs (o : Ob) {l : List Int32} {x : Nat} (h : l[x]? = (f_backSize o)[x]?) : Keep o (s_backSize o l) x := by
 dsimp only [Keep, f_regTuple, f_regA, f_regB, f_regC, f_regCount, f_slots, f_range, f_slide, f_frontSize, f_backSize, f_backElem, f_frontAgg, f_backAgg, f_snap, f_reg, f_capacity, f_queries, f_n, s_backSize] at h ⊢
 exact ⟨rfl, h, fun _ _ _ => rfl, fun _ _ _ => rfl, fun _ _ _ => rfl, fun _ _ _ => rfl⟩
theorem g0 {l : List Int32} {x v : Int32} (h0 : 0 ≤ x.toInt) (h : l[x.toInt.toNat]? = some v) : aget l x = some v := by
 unfold aget
 rw [if_neg (by rw [i_lt]; show ¬ x.toInt < 0; omega)]
 exact h
theorem reset_m {C : Int32} {R S : List Int32} {n q : Int32} {o : Ob} (h : Sh C R S n q o) {x : Int32} (x0 : 0 ≤ x.toInt) (x4 : x.toInt < 4) : okP (F2 o x) (fun p => Sh C R S n q p ∧ Zq p x.toInt.toNat [] [] (1, 0, 0, 1) ∧ ∀ y, y ≠ x.toInt.toNat → Keep o p y) := by
 have l1 := Sh_l_frontSize h
 have l2 := Sh_l_backSize h
 unfold F2
 rw [if_neg (by rw [i_lt]; show ¬ x.toInt < 0; omega), if_pos (by rw [i_lt]; exact x4), aset_at (n := x.toInt.toNat) (by omega) (by omega)]
 simp only [Option.bind_some]
 rw [aset_at (n := x.toInt.toNat) (by omega) (by omega)]
 simp only [Option.bind_some]
 have h1 := Sh_backSize (Sh_frontSize h (x := (f_frontSize o).set x.toInt.toNat 0) (by rw [List.length_set]; exact l1)) (x := (f_backSize o).set x.toInt.toNat 0) (by rw [List.length_set]; exact l2)
 obtain ⟨o1, ho1⟩ : ∃ o1, o1 = s_backSize (s_frontSize o ((f_frontSize o).set x.toInt.toNat 0)) ((f_backSize o).set x.toInt.toNat 0) := ⟨_, rfl⟩
 rw [← ho1] at h1 ⊢
 have a1 : (f_frontSize o1)[x.toInt.toNat]? = some 0 := by
  rw [ho1]
  show ((f_frontSize o).set x.toInt.toNat 0)[x.toInt.toNat]? = some 0
  rw [List.getElem?_set_self (by omega)]
 have a2 : (f_backSize o1)[x.toInt.toNat]? = some 0 := by
  rw [ho1]
  show ((f_backSize o).set x.toInt.toNat 0)[x.toInt.toNat]? = some 0
  rw [List.getElem?_set_self (by omega)]
 have k1 : ∀ y, y ≠ x.toInt.toNat → Keep o o1 y := by
  intro y hy
  rw [ho1]
  exact (keep_fs o (by rw [List.getElem?_set_ne (fun e => hy e.symm)])).trans (keep_bs _ (by rw [List.getElem?_set_ne (fun e => hy e.symm)]; rfl))
 clear ho1
 obtain ⟨L, e1, l3, m1, _⟩ := id_m h1
 rw [e1]
 simp only [Option.bind_some]
 have h2 := Sh_reg h1 (x := L) l3
 apply okP.bind
 refine okP.mono (ba_m h2 x0 x4 (r := 1) (U := 4) (by decide) (by decide) rfl m1) ?_
 rintro _ ⟨L2, rfl, l4, m2, q2⟩
 have h3 := Sh_backAgg h2 (x := L2) l4
 apply okP.bind
 refine okP.mono (sn_m h3 x0 x4 (r := 1) (U := 4) (m := (1, 0, 0, 1)) (by decide) (by decide) rfl m1) ?_
 rintro _ ⟨L3, rfl, l5, m3, q3⟩
 have h4 := Sh_snap h3 (x := L3) l5
 refine okP.some ⟨h4, ⟨⟨0, a1, rfl⟩, ⟨0, a2, rfl⟩, m2, fun j m hj => by simp at hj, fun i hi => absurd hi (Nat.not_lt_zero _), m3, by decide⟩, fun y hy => ?_⟩
 refine (k1 y hy).trans ((keep_reg _ _ _).trans ((keep_ba _ ?_).trans (keep_sn _ ?_)))
 ·intro k b1 b2
  exact q2 k (by omega)
 ·intro k b1 b2
  exact q3 k (by omega)
theorem fold_m {C : Int32} {R S : List Int32} {n q : Int32} {o : Ob} (h : Sh C R S n q o) {x : Int32} (x0 : 0 ≤ x.toInt) (x4 : x.toInt < 4) {F B : List MX} {SN T : MX} (z : Zq o x.toInt.toNat F B SN) (hT : M4 (f_reg o) 0 T) : okP (F26 o x 3) (fun p => ∃ L : List Int32, p = s_reg o L ∧ L.length = 16 ∧ M4 L 12 (prod (F ++ B)) ∧ M4 L 0 T) := by
 have z0 : (0 : Int32).toInt = 0 := rfl
 have z1 : (1 : Int32).toInt = 1 := rfl
 obtain ⟨⟨fs, f1, f2⟩, ⟨bs, b1, b2⟩, z3, z4, z5, z6, z7⟩ := z
 have tail : ∀ L : List Int32, L.length = 16 → M4 L 4 (prod F) → M4 L 0 T → okP (J26_28 (s_reg o L) x 3) (fun p => ∃ L : List Int32, p = s_reg o L ∧ L.length = 16 ∧ M4 L 12 (prod (F ++ B)) ∧ M4 L 0 T) := by
  intro L lL mL mT
  have h2 := Sh_reg h (x := L) lL
  unfold J26_28
  apply okP.bind
  refine okP.mono (ld_m h2 x0 x4 (r := 2) (V := 8) (by decide) (by decide) rfl z3) ?_
  rintro _ ⟨L2, rfl, l2, m2, q2⟩
  have h3 := Sh_reg h2 (x := L2) l2
  apply okP.bind
  refine okP.mono (mul_m h3 (x := 3) (y := 1) (z := 2) (X := 12) (Y := 4) (Z := 8) rfl rfl rfl (by decide) (by decide) (by decide) (q2 4 _ (by omega) mL) m2) ?_
  rintro _ ⟨L3, rfl, l3, m3, q3⟩
  refine okP.some ⟨L3, rfl, l3, ?_, q3 0 _ (by omega) (q2 0 _ (by omega) mT)⟩
  rw [prod_app]; exact m3
 unfold F26
 rw [g0 x0 f1]
 simp only [Option.bind_some]
 apply okP.ite <;> intro c
 ·rw [i_lt, z0] at c
  have e : (fs - 1).toInt = fs.toInt - 1 := by
   rw [i_sub (by omega) (by omega), z1]
  obtain ⟨f', hf'⟩ : ∃ f', f' = fs - 1 := ⟨_, rfl⟩
  rw [← hf'] at e ⊢
  clear hf'
  have m := z5 f'.toInt.toNat (by omega)
  rw [show F.length - 1 - f'.toInt.toNat = 0 by omega, List.drop_zero] at m
  apply okP.bind
  refine okP.mono (lf_m h x0 x4 (y := f') (by omega) (by omega) (r := 1) (V := 4) (by decide) (by decide) rfl m) ?_
  rintro _ ⟨L, rfl, lL, mL, qL⟩
  exact tail L lL mL (qL 0 _ (by omega) hT)
 ·rw [i_lt, z0] at c
  obtain ⟨L, e1, lL, mL, qL⟩ := id_m h
  rw [e1]
  simp only [Option.bind_some]
  have : F = [] := List.eq_nil_of_length_eq_zero (by omega)
  rw [this] at tail ⊢
  exact tail L lL mL (qL 0 _ (by omega) hT)
theorem snap_m {C : Int32} {R S : List Int32} {n q : Int32} {o : Ob} (h : Sh C R S n q o) {x : Int32} (x0 : 0 ≤ x.toInt) (x4 : x.toInt < 4) {F B : List MX} {SN T : MX} (z : Zq o x.toInt.toNat F B SN) (hT : M4 (f_reg o) 0 T) : okP (F38 o x) (fun p => Sh C R S n q p ∧ Zq p x.toInt.toNat F B (prod (F ++ B)) ∧ M4 (f_reg p) 0 T ∧ ∀ y, y ≠ x.toInt.toNat → Keep o p y) := by
 unfold F38
 apply okP.bind
 refine okP.mono (fold_m h x0 x4 z hT) ?_
 rintro _ ⟨L, rfl, lL, mL, mT⟩
 have h2 := Sh_reg h (x := L) lL
 apply okP.bind
 refine okP.mono (sn_m h2 x0 x4 (r := 3) (U := 12) (by decide) (by decide) rfl mL) ?_
 rintro _ ⟨L3, rfl, l5, m3, q3⟩
 have h4 := Sh_snap h2 (x := L3) l5
 obtain ⟨z1, z2, z3, z4, z5, z6, z7⟩ := z
 refine okP.some ⟨h4, ⟨z1, z2, z3, z4, z5, m3, z7⟩, mT, fun y hy => ?_⟩
 refine (keep_reg _ _ _).trans (keep_sn _ ?_)
 intro k b1 b2
 exact q3 k (by omega)
theorem flip_m {C : Int32} {R S : List Int32} {n q : Int32} {o : Ob} (h : Sh C R S n q o) {x : Int32} (x0 : 0 ≤ x.toInt) (x4 : x.toInt < 4) {B : List MX} {SN T : MX} (z : Zq o x.toInt.toNat [] B SN) (hT : M4 (f_reg o) 0 T) : okP (F35 o x) (fun p => Sh C R S n q p ∧ Zq p x.toInt.toNat B [] SN ∧ M4 (f_reg p) 0 T ∧ ∀ y, y ≠ x.toInt.toNat → Keep o p y) := by
 have z0 : (0 : Int32).toInt = 0 := rfl
 have z1 : (1 : Int32).toInt = 1 := rfl
 have z32 : (32 : Int32).toInt = 32 := rfl
 have l1 := Sh_l_frontSize h
 have l2 := Sh_l_backSize h
 obtain ⟨⟨fs, f1, f2⟩, ⟨bs, b1, b2⟩, z3, z4, z5, z6, z7⟩ := z
 have z7' : B.length ≤ 32 := by
  have : ([] : List MX).length = 0 := rfl
  omega
 unfold F35
 rw [g0 x0 b1]
 simp only [Option.bind_some]
 rw [if_neg (show ¬ (32 : Int32) < bs by rw [i_lt, z32]; omega)]
 obtain ⟨L, e1, lL, mL, qL⟩ := id_m h
 rw [e1]
 simp only [Option.bind_some]
 have h2 := Sh_reg h (x := L) lL
 have lp : okP (loopN (B35_23 x bs) qN (0, s_reg o L)) (fun p => ∃ L FA, p = s_frontAgg (s_reg o L) FA ∧ L.length = 16 ∧ FA.length = 512 ∧ M4 L 0 T ∧ (∀ i, i < B.length → M4 FA ((x.toInt.toNat * 32 + i) * 4) (prod (B.drop (B.length - 1 - i)))) ∧ ∀ k, ¬ (x.toInt.toNat * 128 ≤ k ∧ k < x.toInt.toNat * 128 + 128) → FA[k]? = (f_frontAgg o)[k]?) := by
  refine okP.loop (fun v => 0 ≤ v.1.toInt ∧ v.1.toInt ≤ B.length ∧ ∃ L FA, v.2 = s_frontAgg (s_reg o L) FA ∧ L.length = 16 ∧ FA.length = 512 ∧ M4 L 0 T ∧ M4 L 4 (prod (B.drop (B.length - v.1.toInt.toNat))) ∧ (∀ i, i < v.1.toInt.toNat → M4 FA ((x.toInt.toNat * 32 + i) * 4) (prod (B.drop (B.length - 1 - i)))) ∧ ∀ k, ¬ (x.toInt.toNat * 128 ≤ k ∧ k < x.toInt.toNat * 128 + 128) → FA[k]? = (f_frontAgg o)[k]?) (fun v => (32 - v.1.toInt).toNat) ⟨by show (0 : Int) ≤ 0; decide, by show (0 : Int) ≤ _; omega, L, f_frontAgg o, rfl, lL, Sh_l_frontAgg h, qL 0 _ (by omega) hT, ?_, fun i hi => absurd hi (Nat.not_lt_zero _), fun _ _ => rfl⟩ (by show (32 - (0 : Int)).toNat < 4000; decide) ?_
  ·show M4 L 4 (prod (B.drop (B.length - 0)))
   rw [Nat.sub_zero, List.drop_length]; exact mL
  rintro ⟨i, p⟩ ⟨i0, i1, L, FA, hp, lL, lF, mT, mA, mF, kF⟩
  simp only at i0 i1 hp mA mF
  subst hp
  have h3 : Sh C R S n q (s_frontAgg (s_reg o L) FA) := Sh_frontAgg (Sh_reg h (x := L) lL) (x := FA) lF
  unfold B35_23
  simp only
  apply okP.ite <;> intro c
  ·rw [i_lt] at c
   have e2 : (i + 1).toInt = i.toInt + 1 := inc1 (by omega)
   have en : (i + 1).toInt.toNat = i.toInt.toNat + 1 := by omega
   have e3 : (bs - 1 - i).toInt = bs.toInt - 1 - i.toInt := by
    have e : (bs - 1).toInt = bs.toInt - 1 := by rw [i_sub (by omega) (by omega), z1]
    rw [i_sub (by omega) (by omega), e]
   obtain ⟨j, hj⟩ : ∃ j, j = bs - 1 - i := ⟨_, rfl⟩
   rw [← hj] at e3 ⊢
   clear hj
   have jl : j.toInt.toNat < B.length := by omega
   have mB : M4 (f_backElem (s_frontAgg (s_reg o L) FA)) ((x.toInt.toNat * 32 + j.toInt.toNat) * 4) B[j.toInt.toNat] := z4 j.toInt.toNat _ (List.getElem?_eq_getElem jl)
   apply okP.bind
   refine okP.mono (lb_m h3 x0 x4 (y := j) (by omega) (by omega) (r := 2) (V := 8) (by decide) (by decide) rfl mB) ?_
   rintro _ ⟨L2, rfl, l3, m3, q3⟩
   have h4 := Sh_reg h3 (x := L2) l3
   apply okP.bind
   refine okP.mono (mul_m h4 (x := 1) (y := 2) (z := 1) (X := 4) (Y := 8) (Z := 4) rfl rfl rfl (by decide) (by decide) (by decide) m3 (q3 4 _ (by omega) mA)) ?_
   rintro _ ⟨L3, rfl, l4, m4', q4⟩
   have h5 := Sh_reg h4 (x := L3) l4
   have pe : mm B[j.toInt.toNat] (prod (B.drop (B.length - i.toInt.toNat))) = prod (B.drop (B.length - (i.toInt.toNat + 1))) := by
    have ej : B.length - (i.toInt.toNat + 1) = j.toInt.toNat := by omega
    rw [ej, List.drop_eq_getElem_cons jl, show B.length - i.toInt.toNat = j.toInt.toNat + 1 by omega]
    rfl
   rw [pe] at m4'
   apply okP.bind
   refine okP.mono (sf_m h5 x0 x4 (y := i) i0 (by omega) (r := 1) (U := 4) (by decide) (by decide) rfl m4') ?_
   rintro _ ⟨FA2, rfl, l5, m5, q5⟩
   apply okP.some
   refine ⟨⟨by simp only; omega, by simp only; omega, L3, FA2, ?_, l4, l5, q4 0 _ (by omega) (q3 0 _ (by omega) mT), ?_, ?_, ?_⟩, by simp only; omega⟩
   ·dsimp only [s_frontAgg, s_reg, f_regTuple, f_regA, f_regB, f_regC, f_regCount, f_slots, f_range, f_slide, f_frontSize, f_backSize, f_backElem, f_frontAgg, f_backAgg, f_snap, f_reg, f_capacity, f_queries, f_n]
   ·simp only [en]; exact m4'
   ·intro k hk
    simp only [en] at hk
    by_cases e : k = i.toInt.toNat
    ·rw [e, show B.length - 1 - i.toInt.toNat = B.length - (i.toInt.toNat + 1) by omega]; exact m5
    ·refine M4_k (mF k (by omega)) (fun t a b => ?_)
     rw [q5 t (by omega)]; rfl
   ·intro k hk
    rw [q5 k (by omega)]
    exact kF k hk
  ·rw [i_lt] at c
   have : i.toInt.toNat = B.length := by omega
   rw [this] at mF
   exact okP.some ⟨L, FA, rfl, lL, lF, mT, mF, kF⟩
 apply okP.bind
 refine okP.mono lp ?_
 rintro _ ⟨L4, FA, rfl, l4, lF, mT, mF, kF⟩
 have h3 : Sh C R S n q (s_frontAgg (s_reg o L4) FA) := Sh_frontAgg (Sh_reg h (x := L4) l4) (x := FA) lF
 have y1 : f_frontSize (s_frontAgg (s_reg o L4) FA) = f_frontSize o := by dsimp only [f_regTuple, f_regA, f_regB, f_regC, f_regCount, f_slots, f_range, f_slide, f_frontSize, f_backSize, f_backElem, f_frontAgg, f_backAgg, f_snap, f_reg, f_capacity, f_queries, f_n, s_frontAgg, s_reg]
 have y2 : f_backSize (s_frontAgg (s_reg o L4) FA) = f_backSize o := by dsimp only [f_regTuple, f_regA, f_regB, f_regC, f_regCount, f_slots, f_range, f_slide, f_frontSize, f_backSize, f_backElem, f_frontAgg, f_backAgg, f_snap, f_reg, f_capacity, f_queries, f_n, s_frontAgg, s_reg]
 rw [y1, y2, aset_at (n := x.toInt.toNat) (by omega) (by omega)]
 simp only [Option.bind_some]
 rw [aset_at (n := x.toInt.toNat) (by omega) (by omega)]
 simp only [Option.bind_some]
 have h4 := Sh_backSize (Sh_frontSize h3 (x := (f_frontSize o).set x.toInt.toNat bs) (by rw [List.length_set]; exact l1)) (x := (f_backSize o).set x.toInt.toNat 0) (by rw [List.length_set]; exact l2)
 obtain ⟨o1, ho1⟩ : ∃ o1, o1 = s_backSize (s_frontSize (s_frontAgg (s_reg o L4) FA) ((f_frontSize o).set x.toInt.toNat bs)) ((f_backSize o).set x.toInt.toNat 0) := ⟨_, rfl⟩
 rw [← ho1] at h4 ⊢
 have g1 : f_frontSize o1 = (f_frontSize o).set x.toInt.toNat bs := by rw [ho1]; dsimp only [f_regTuple, f_regA, f_regB, f_regC, f_regCount, f_slots, f_range, f_slide, f_frontSize, f_backSize, f_backElem, f_frontAgg, f_backAgg, f_snap, f_reg, f_capacity, f_queries, f_n, s_frontAgg, s_reg, s_backSize, s_frontSize]
 have g2 : f_backSize o1 = (f_backSize o).set x.toInt.toNat 0 := by rw [ho1]; dsimp only [f_regTuple, f_regA, f_regB, f_regC, f_regCount, f_slots, f_range, f_slide, f_frontSize, f_backSize, f_backElem, f_frontAgg, f_backAgg, f_snap, f_reg, f_capacity, f_queries, f_n, s_frontAgg, s_reg, s_backSize, s_frontSize]
 have g3 : f_frontAgg o1 = FA := by rw [ho1]; dsimp only [f_regTuple, f_regA, f_regB, f_regC, f_regCount, f_slots, f_range, f_slide, f_frontSize, f_backSize, f_backElem, f_frontAgg, f_backAgg, f_snap, f_reg, f_capacity, f_queries, f_n, s_frontAgg, s_reg, s_backSize, s_frontSize]
 have g4 : f_snap o1 = f_snap o := by rw [ho1]; dsimp only [f_regTuple, f_regA, f_regB, f_regC, f_regCount, f_slots, f_range, f_slide, f_frontSize, f_backSize, f_backElem, f_frontAgg, f_backAgg, f_snap, f_reg, f_capacity, f_queries, f_n, s_frontAgg, s_reg, s_backSize, s_frontSize]
 have g5 : f_reg o1 = L4 := by rw [ho1]; dsimp only [f_regTuple, f_regA, f_regB, f_regC, f_regCount, f_slots, f_range, f_slide, f_frontSize, f_backSize, f_backElem, f_frontAgg, f_backAgg, f_snap, f_reg, f_capacity, f_queries, f_n, s_frontAgg, s_reg, s_backSize, s_frontSize]
 have k1 : ∀ y, y ≠ x.toInt.toNat → Keep o o1 y := by
  intro y hy
  rw [ho1]
  refine (keep_reg o L4 y).trans ((keep_fa _ ?_).trans ((keep_fs _ ?_).trans (keep_bs _ ?_)))
  ·intro k a b
   exact kF k (by omega)
  ·rw [List.getElem?_set_ne (fun e => hy e.symm)]; exact congrArg (fun l : List Int32 => l[y]?) y1.symm
  ·rw [List.getElem?_set_ne (fun e => hy e.symm)]
   have : f_backSize (s_frontSize (s_frontAgg (s_reg o L4) FA) ((f_frontSize o).set x.toInt.toNat bs)) = f_backSize o := by dsimp only [f_regTuple, f_regA, f_regB, f_regC, f_regCount, f_slots, f_range, f_slide, f_frontSize, f_backSize, f_backElem, f_frontAgg, f_backAgg, f_snap, f_reg, f_capacity, f_queries, f_n, s_frontAgg, s_reg, s_backSize, s_frontSize]
   rw [this]
 clear ho1
 obtain ⟨L5, e5, l5, m5, q5⟩ := id_m h4
 rw [e5]
 simp only [Option.bind_some]
 have h5 := Sh_reg h4 (x := L5) l5
 apply okP.bind
 refine okP.mono (ba_m h5 x0 x4 (r := 1) (U := 4) (by decide) (by decide) rfl m5) ?_
 rintro _ ⟨L6, rfl, l6, m6, q6⟩
 have h6 := Sh_backAgg h5 (x := L6) l6
 rw [← g5] at mT
 have w1 : f_frontSize (s_backAgg (s_reg o1 L5) L6) = f_frontSize o1 := by dsimp only [f_regTuple, f_regA, f_regB, f_regC, f_regCount, f_slots, f_range, f_slide, f_frontSize, f_backSize, f_backElem, f_frontAgg, f_backAgg, f_snap, f_reg, f_capacity, f_queries, f_n, s_backAgg, s_reg]
 have w2 : f_backSize (s_backAgg (s_reg o1 L5) L6) = f_backSize o1 := by dsimp only [f_regTuple, f_regA, f_regB, f_regC, f_regCount, f_slots, f_range, f_slide, f_frontSize, f_backSize, f_backElem, f_frontAgg, f_backAgg, f_snap, f_reg, f_capacity, f_queries, f_n, s_backAgg, s_reg]
 have w3 : f_frontAgg (s_backAgg (s_reg o1 L5) L6) = f_frontAgg o1 := by dsimp only [f_regTuple, f_regA, f_regB, f_regC, f_regCount, f_slots, f_range, f_slide, f_frontSize, f_backSize, f_backElem, f_frontAgg, f_backAgg, f_snap, f_reg, f_capacity, f_queries, f_n, s_backAgg, s_reg]
 have w4 : f_snap (s_backAgg (s_reg o1 L5) L6) = f_snap o1 := by dsimp only [f_regTuple, f_regA, f_regB, f_regC, f_regCount, f_slots, f_range, f_slide, f_frontSize, f_backSize, f_backElem, f_frontAgg, f_backAgg, f_snap, f_reg, f_capacity, f_queries, f_n, s_backAgg, s_reg]
 have w5 : f_reg (s_backAgg (s_reg o1 L5) L6) = L5 := by dsimp only [f_regTuple, f_regA, f_regB, f_regC, f_regCount, f_slots, f_range, f_slide, f_frontSize, f_backSize, f_backElem, f_frontAgg, f_backAgg, f_snap, f_reg, f_capacity, f_queries, f_n, s_backAgg, s_reg]
 have w6 : f_backAgg (s_backAgg (s_reg o1 L5) L6) = L6 := by dsimp only [f_regTuple, f_regA, f_regB, f_regC, f_regCount, f_slots, f_range, f_slide, f_frontSize, f_backSize, f_backElem, f_frontAgg, f_backAgg, f_snap, f_reg, f_capacity, f_queries, f_n, s_backAgg, s_reg]
 refine okP.some ⟨h6, ⟨⟨bs, ?_, b2⟩, ⟨0, ?_, rfl⟩, ?_, fun j m hj => by simp at hj, ?_, ?_, ?_⟩, ?_, fun y hy => ?_⟩
 ·rw [w1, g1, List.getElem?_set_self (by omega)]
 ·rw [w2, g2, List.getElem?_set_self (by omega)]
 ·rw [w6]; exact m6
 ·rw [w3, g3]; exact mF
 ·rw [w4, g4]; exact z6
 ·show B.length + 0 ≤ 32; omega
 ·rw [w5]; exact q5 0 _ (by omega) mT
 ·refine (k1 y hy).trans ((keep_reg _ _ _).trans (keep_ba _ ?_))
  intro k a b
  exact q6 k (by omega)
theorem evict_m {C : Int32} {R S : List Int32} {n q : Int32} {o : Ob} (h : Sh C R S n q o) {x : Int32} (x0 : 0 ≤ x.toInt) (x4 : x.toInt < 4) {F B : List MX} {SN T : MX} (z : Zq o x.toInt.toNat F B SN) (hT : M4 (f_reg o) 0 T) : okP (F34 o x) (fun p => Sh C R S n q p ∧ (∃ F' B', F' ++ B' = (F ++ B).tail ∧ Zq p x.toInt.toNat F' B' SN) ∧ M4 (f_reg p) 0 T ∧ ∀ y, y ≠ x.toInt.toNat → Keep o p y) := by
 have z0 : (0 : Int32).toInt = 0 := rfl
 have z1 : (1 : Int32).toInt = 1 := rfl
 have tail : ∀ {p : Ob} {F B : List MX}, Sh C R S n q p → Zq p x.toInt.toNat F B SN → (F = [] → B = []) → M4 (f_reg p) 0 T → okP (J34_14 p x) (fun r => Sh C R S n q r ∧ (∃ F' B', F' ++ B' = (F ++ B).tail ∧ Zq r x.toInt.toNat F' B' SN) ∧ M4 (f_reg r) 0 T ∧ ∀ y, y ≠ x.toInt.toNat → Keep p r y) := by
  intro p F B hp z hF mT
  have l1 := Sh_l_frontSize hp
  have z' := z
  obtain ⟨⟨fs, f1, f2⟩, ⟨bs, b1, b2⟩, z3, z4, z5, z6, z7⟩ := z'
  unfold J34_14
  rw [g0 x0 f1]
  simp only [Option.bind_some]
  apply okP.ite <;> intro c
  ·rw [i_lt, z0] at c
   have e : (fs - 1).toInt = fs.toInt - 1 := by rw [i_sub (by omega) (by omega), z1]
   rw [aset_at (n := x.toInt.toNat) (by omega) (by omega)]
   simp only [Option.bind_some]
   have h2 := Sh_frontSize hp (x := (f_frontSize p).set x.toInt.toNat (fs - 1)) (by rw [List.length_set]; exact l1)
   cases F with
   | nil => simp at f2; omega
   | cons A F =>
    have f2' : fs.toInt = F.length + 1 := f2
    have w1 : f_frontSize (s_frontSize p ((f_frontSize p).set x.toInt.toNat (fs - 1))) = (f_frontSize p).set x.toInt.toNat (fs - 1) := by dsimp only [f_regTuple, f_regA, f_regB, f_regC, f_regCount, f_slots, f_range, f_slide, f_frontSize, f_backSize, f_backElem, f_frontAgg, f_backAgg, f_snap, f_reg, f_capacity, f_queries, f_n, s_frontSize]
    refine okP.some ⟨h2, ⟨F, B, rfl, ⟨fs - 1, ?_, by omega⟩, ⟨bs, b1, b2⟩, z3, z4, ?_, z6, ?_⟩, mT, fun y hy => keep_fs _ (by rw [List.getElem?_set_ne (fun e => hy e.symm)])⟩
    ·rw [w1, List.getElem?_set_self (by omega)]
    ·intro i hi
     have := z5 i (by show i < F.length + 1; omega)
     rw [show (A :: F).length - 1 - i = (F.length - 1 - i) + 1 by show F.length + 1 - 1 - i = _; omega, List.drop_succ_cons] at this
     exact this
    ·have : (A :: F).length = F.length + 1 := rfl
     omega
  ·rw [i_lt, z0] at c
   have e1 : F = [] := List.eq_nil_of_length_eq_zero (by omega)
   have e2 := hF e1
   subst e1
   subst e2
   exact okP.some ⟨hp, ⟨[], [], rfl, z⟩, mT, fun y _ => Keep.refl _ _⟩
 unfold F34
 obtain ⟨⟨fs, f1, f2⟩, _⟩ := id z
 rw [g0 x0 f1]
 simp only [Option.bind_some]
 apply okP.ite <;> intro c
 ·have e1 : F = [] := List.eq_nil_of_length_eq_zero (by rw [c, z0] at f2; omega)
  subst e1
  apply okP.bind
  refine okP.mono (flip_m h x0 x4 z hT) ?_
  rintro p ⟨hp, zp, mp, kp⟩
  refine okP.mono (tail hp zp (fun _ => rfl) mp) ?_
  rintro r ⟨hr, ⟨F', B', e, zr⟩, mr, kr⟩
  exact ⟨hr, ⟨F', B', by rw [e, List.append_nil]; rfl, zr⟩, mr, fun y hy => (kp y hy).trans (kr y hy)⟩
 ·refine tail h z (fun e => absurd ?_ c) hT
  rw [e] at f2
  rw [i_eq, z0]
  exact f2
theorem app_m {C : Int32} {R S : List Int32} {n q : Int32} {o : Ob} (h : Sh C R S n q o) {x : Int32} (x0 : 0 ≤ x.toInt) (x4 : x.toInt < 4) {F B : List MX} {SN T : MX} (z : Zq o x.toInt.toNat F B SN) (hT : M4 (f_reg o) 0 T) {r : Int32} (hr : R[x.toInt.toNat]? = some r) (r1 : 1 ≤ r.toInt) (r32 : r.toInt ≤ 32) (hw : (F ++ B).length ≤ r.toInt) : okP (F30 o x) (fun p => Sh C R S n q p ∧ (∃ F' B', F' ++ B' = (if (F ++ B).length < r.toInt then F ++ B else (F ++ B).tail) ++ [T] ∧ Zq p x.toInt.toNat F' B' SN) ∧ M4 (f_reg p) 0 T ∧ ∀ y, y ≠ x.toInt.toNat → Keep o p y) := by
 have z0 : (0 : Int32).toInt = 0 := rfl
 have tail : ∀ {p : Ob} {F B : List MX}, Sh C R S n q p → Zq p x.toInt.toNat F B SN → (F ++ B).length < 32 → M4 (f_reg p) 0 T → okP (J30_39 p x) (fun r => Sh C R S n q r ∧ (∃ F' B', F' ++ B' = (F ++ B) ++ [T] ∧ Zq r x.toInt.toNat F' B' SN) ∧ M4 (f_reg r) 0 T ∧ ∀ y, y ≠ x.toInt.toNat → Keep p r y) := by
  intro p F B hp z hl mT
  rw [List.length_append] at hl
  obtain ⟨⟨fs, f1, f2⟩, ⟨bs, b1, b2⟩, z3, z4, z5, z6, z7⟩ := z
  unfold J30_39
  rw [g0 x0 b1]
  simp only [Option.bind_some]
  rw [vsl x0 x4 (y := bs) (by omega) (by omega)]
  simp only [Option.bind_some]
  rw [if_neg (by decide)]
  have bn : bs.toInt.toNat = B.length := by omega
  apply okP.bind
  refine okP.mono (sb_m hp x0 x4 (y := bs) (by omega) (by omega) (r := 0) (U := 0) (by decide) (by decide) rfl mT) ?_
  rintro _ ⟨E, rfl, lE, mE, qE⟩
  rw [bn] at mE qE
  have h2 := Sh_backElem hp (x := E) lE
  apply okP.bind
  refine okP.mono (ld_m h2 x0 x4 (r := 1) (V := 4) (by decide) (by decide) rfl z3) ?_
  rintro _ ⟨L2, rfl, l2, m2, q2⟩
  have h3 := Sh_reg h2 (x := L2) l2
  have mT2 := q2 0 _ (by omega) mT
  apply okP.bind
  refine okP.mono (mul_m h3 (x := 1) (y := 1) (z := 0) (X := 4) (Y := 4) (Z := 0) rfl rfl rfl (by decide) (by decide) (by decide) m2 mT2) ?_
  rintro _ ⟨L3, rfl, l3, m3, q3⟩
  have h4 := Sh_reg h3 (x := L3) l3
  have mT3 := q3 0 _ (by omega) mT2
  apply okP.bind
  refine okP.mono (ba_m h4 x0 x4 (r := 1) (U := 4) (by decide) (by decide) rfl m3) ?_
  rintro _ ⟨L5, rfl, l5, m5, q5⟩
  have h5 := Sh_backAgg h4 (x := L5) l5
  have l6 := Sh_l_backSize h5
  obtain ⟨u, hu⟩ : ∃ u, u = s_backAgg (s_reg (s_reg (s_backElem p E) L2) L3) L5 := ⟨_, rfl⟩
  have u1 : f_frontSize u = f_frontSize p := by rw [hu]; dsimp only [f_regTuple, f_regA, f_regB, f_regC, f_regCount, f_slots, f_range, f_slide, f_frontSize, f_backSize, f_backElem, f_frontAgg, f_backAgg, f_snap, f_reg, f_capacity, f_queries, f_n, s_backAgg, s_reg, s_backElem]
  have u2 : f_backSize u = f_backSize p := by rw [hu]; dsimp only [f_regTuple, f_regA, f_regB, f_regC, f_regCount, f_slots, f_range, f_slide, f_frontSize, f_backSize, f_backElem, f_frontAgg, f_backAgg, f_snap, f_reg, f_capacity, f_queries, f_n, s_backAgg, s_reg, s_backElem]
  have u3 : f_backAgg u = L5 := by rw [hu]; dsimp only [f_regTuple, f_regA, f_regB, f_regC, f_regCount, f_slots, f_range, f_slide, f_frontSize, f_backSize, f_backElem, f_frontAgg, f_backAgg, f_snap, f_reg, f_capacity, f_queries, f_n, s_backAgg, s_reg, s_backElem]
  have u4 : f_backElem u = E := by rw [hu]; dsimp only [f_regTuple, f_regA, f_regB, f_regC, f_regCount, f_slots, f_range, f_slide, f_frontSize, f_backSize, f_backElem, f_frontAgg, f_backAgg, f_snap, f_reg, f_capacity, f_queries, f_n, s_backAgg, s_reg, s_backElem]
  have u5 : f_frontAgg u = f_frontAgg p := by rw [hu]; dsimp only [f_regTuple, f_regA, f_regB, f_regC, f_regCount, f_slots, f_range, f_slide, f_frontSize, f_backSize, f_backElem, f_frontAgg, f_backAgg, f_snap, f_reg, f_capacity, f_queries, f_n, s_backAgg, s_reg, s_backElem]
  have u6 : f_snap u = f_snap p := by rw [hu]; dsimp only [f_regTuple, f_regA, f_regB, f_regC, f_regCount, f_slots, f_range, f_slide, f_frontSize, f_backSize, f_backElem, f_frontAgg, f_backAgg, f_snap, f_reg, f_capacity, f_queries, f_n, s_backAgg, s_reg, s_backElem]
  have u7 : f_reg u = L3 := by rw [hu]; dsimp only [f_regTuple, f_regA, f_regB, f_regC, f_regCount, f_slots, f_range, f_slide, f_frontSize, f_backSize, f_backElem, f_frontAgg, f_backAgg, f_snap, f_reg, f_capacity, f_queries, f_n, s_backAgg, s_reg, s_backElem]
  have ku : ∀ y, y ≠ x.toInt.toNat → Keep p u y := by
   intro y hy
   rw [hu]
   refine (keep_be p ?_).trans ((keep_reg _ _ _).trans ((keep_reg _ _ _).trans (keep_ba _ ?_)))
   ·intro k a b
    exact qE k (by omega)
   ·intro k a b
    exact q5 k (by omega)
  rw [← hu] at h5 l6 ⊢
  clear hu
  rw [aset_at (n := x.toInt.toNat) (by omega) (by omega)]
  simp only [Option.bind_some]
  have h6 := Sh_backSize h5 (x := (f_backSize u).set x.toInt.toNat (bs + 1)) (by rw [List.length_set]; exact l6)
  have b3 : (bs + 1).toInt = bs.toInt + 1 := inc1 (by omega)
  refine okP.some ⟨h6, ⟨F, B ++ [T], by rw [List.append_assoc], ⟨fs, ?_, f2⟩, ⟨bs + 1, ?_, ?_⟩, ?_, ?_, ?_, ?_, ?_⟩, ?_, fun y hy => (ku y hy).trans (keep_bs _ (by rw [List.getElem?_set_ne (fun e => hy e.symm)]))⟩
  ·show (f_frontSize u)[_]? = _
   rw [u1]; exact f1
  ·show ((f_backSize u).set x.toInt.toNat (bs + 1))[_]? = _
   rw [List.getElem?_set_self (by omega)]
  ·rw [b3, b2, List.length_append]; rfl
  ·show M4 (f_backAgg u) _ _
   rw [u3, prod_snoc]; exact m5
  ·intro j m hj
   show M4 (f_backElem u) _ _
   rw [u4]
   by_cases e : j = B.length
   ·subst e
    rw [List.getElem?_append_right (Nat.le_refl _), Nat.sub_self] at hj
    cases hj
    exact mE
   ·have jl : j < B.length := by
     obtain ⟨l, _⟩ := List.getElem?_eq_some_iff.1 hj
     rw [List.length_append] at l
     have : [T].length = 1 := rfl
     omega
    rw [List.getElem?_append_left jl] at hj
    exact M4_k (z4 j m hj) (fun i a b => qE i (by omega))
  ·intro i hi
   show M4 (f_frontAgg u) _ _
   rw [u5]; exact z5 i hi
  ·show M4 (f_snap u) _ _
   rw [u6]; exact z6
  ·rw [List.length_append]
   have : [T].length = 1 := rfl
   omega
  ·show M4 (f_reg u) 0 T
   rw [u7]; exact mT3
 obtain ⟨⟨fs, f1, f2⟩, ⟨bs, b1, b2⟩, _⟩ := id z
 unfold F30
 rw [if_neg (by rw [i_lt]; show ¬ x.toInt < 0; omega), if_pos (by rw [i_lt]; exact x4), g0 x0 f1, g0 x0 b1, Sh_R h, g0 x0 hr]
 simp only [Option.bind_some]
 have e : (fs + bs).toInt = (F ++ B).length := by
  rw [List.length_append] at hw ⊢
  rw [i_add (by omega) (by omega)]; omega
 apply okP.ite <;> intro c
 ·rw [i_lt, e] at c
  rw [if_pos c]
  exact tail h z (by omega) hT
 ·rw [i_lt, e] at c
  rw [if_neg c]
  apply okP.bind
  refine okP.mono (evict_m h x0 x4 z hT) ?_
  rintro p ⟨hp, ⟨F', B', ew, zp⟩, mp, kp⟩
  refine okP.mono (tail hp zp (by rw [ew, List.length_tail]; omega) mp) ?_
  rintro w ⟨hw', ⟨F2, B2, e2, zw⟩, mw, kw⟩
  exact ⟨hw', ⟨F2, B2, by rw [e2, ew], zw⟩, mw, fun y hy => (kp y hy).trans (kw y hy)⟩
def lastr (r : Nat) (l : List MX) : List MX := l.drop (l.length - r)
theorem lastr_len (r : Nat) (l : List MX) : (lastr r l).length ≤ r ∧ (lastr r l).length ≤ l.length ∧ (r ≤ l.length → (lastr r l).length = r) := by
 unfold lastr
 rw [List.length_drop]
 omega
theorem lastr_snoc {r : Nat} (h : 1 ≤ r) (l : List MX) (T : MX) : lastr r (l ++ [T]) = (if (lastr r l).length < r then lastr r l else (lastr r l).tail) ++ [T] := by
 have e1 : (l ++ [T]).length = l.length + 1 := by rw [List.length_append]; rfl
 by_cases c : l.length < r
 ·have : (lastr r l).length < r := by have := (lastr_len r l).2.1; omega
  rw [if_pos this]
  unfold lastr
  rw [e1, show l.length + 1 - r = 0 by omega, show l.length - r = 0 by omega, List.drop_zero, List.drop_zero]
 ·have : ¬ (lastr r l).length < r := by have := (lastr_len r l).2.2 (by omega); omega
  rw [if_neg this]
  unfold lastr
  rw [e1, List.tail_drop, List.drop_append_of_le_length (by omega), show l.length + 1 - r = l.length - r + 1 by omega]
def SNv (r s : Nat) (H : List MX) : MX := prod (lastr r (H.take (s * (H.length / s))))
theorem SNv_hit {r s : Nat} {H : List MX} {T : MX} (h : (H.length + 1) % s = 0) : SNv r s (H ++ [T]) = prod (lastr r (H ++ [T])) := by
 have e1 : (H ++ [T]).length = H.length + 1 := by rw [List.length_append]; rfl
 have e2 : s * ((H.length + 1) / s) = H.length + 1 := by
  have := Nat.div_add_mod (H.length + 1) s
  omega
 unfold SNv
 rw [e1, e2, List.take_of_length_le (by omega)]
theorem SNv_miss {r s : Nat} {H : List MX} {T : MX} (s1 : 1 ≤ s) (h : ¬ (H.length + 1) % s = 0) : SNv r s (H ++ [T]) = SNv r s H := by
 have e1 : (H ++ [T]).length = H.length + 1 := by rw [List.length_append]; rfl
 have e2 : (H.length + 1) / s = H.length / s := by
  rw [Nat.succ_div, if_neg (fun q => h (Nat.mod_eq_zero_of_dvd q))]
  rfl
 have e3 : s * (H.length / s) ≤ H.length := Nat.mul_div_le _ _
 unfold SNv
 rw [e1, e2, List.take_append_of_le_length e3]
def Qo (o : Ob) (R S : List Int32) (H : List MX) (x : Nat) : Prop := ∃ r s : Int32, R[x]? = some r ∧ S[x]? = some s ∧ (1 ≤ r.toInt ∧ r.toInt ≤ 32) ∧ (1 ≤ s.toInt ∧ s.toInt ≤ 32) ∧ ∃ F B, F ++ B = lastr r.toInt.toNat H ∧ Zq o x F B (SNv r.toInt.toNat s.toInt.toNat H)
def St (C : Int32) (R S : List Int32) (q : Int32) (H : List MX) (o : Ob) : Prop := ∃ n : Int32, Sh C R S n q o ∧ n.toInt = H.length ∧ H.length ≤ 1000 ∧ (0 ≤ q.toInt ∧ q.toInt ≤ 4) ∧ R.length = 4 ∧ S.length = 4 ∧ ∀ x, x < q.toInt.toNat → Qo o R S H x
theorem Qo.keep {o p : Ob} {R S : List Int32} {H : List MX} {x : Nat} (h : Qo o R S H x) (k : Keep o p x) : Qo p R S H x := by
 obtain ⟨r, s, h1, h2, h3, h4, F, B, h5, h6⟩ := h
 exact ⟨r, s, h1, h2, h3, h4, F, B, h5, h6.keep k⟩
def hit (S : List Int32) (n : Nat) (x : Nat) : Bool := n % ((S[x]?).getD 0).toInt.toNat == 0
def cM (S : List Int32) (n k : Nat) : Nat := ((List.range k).filter (hit S n)).length
theorem cM_s (S : List Int32) (n k : Nat) : cM S n (k + 1) = if hit S n k then cM S n k + 1 else cM S n k := by
 unfold cM
 rw [List.range_succ, List.filter_append, List.length_append]
 by_cases h : hit S n k = true
 ·rw [if_pos h, List.filter_cons_of_pos h]; rfl
 ·rw [if_neg h, List.filter_cons_of_neg h]; rfl
theorem cM_le (S : List Int32) (n k : Nat) : cM S n k ≤ k := by
 have := List.length_filter_le (hit S n) (List.range k)
 rw [List.length_range] at this
 exact this
theorem rem_i {x y : Int32} (hx : 0 ≤ x.toInt) (hy : 1 ≤ y.toInt) : (x % y).toInt = (x.toInt.toNat % y.toInt.toNat : Nat) := by
 rw [Int32.toInt_mod, Int.tmod_eq_emod_of_nonneg hx]
 have e1 : x.toInt = (x.toInt.toNat : Int) := by omega
 have e2 : y.toInt = (y.toInt.toNat : Int) := by omega
 rw [e1, e2]
 simp
theorem push_m {C : Int32} {R S : List Int32} {q : Int32} {H : List MX} {o : Ob} (h : St C R S q H o) (hH : H.length < 1000) (a b c d : Int32) : okP (F9 o a b c d) (fun r => St C R S q (H ++ [(a, b, c, d)]) r.2 ∧ r.1.toInt = cM S (H.length + 1) q.toInt.toNat) := by
 obtain ⟨n, hS, hn, _, hq, lR, lS, hQ⟩ := h
 have z0 : (0 : Int32).toInt = 0 := rfl
 have z1 : (1 : Int32).toInt = 1 := rfl
 have n1 : (n + 1).toInt = n.toInt + 1 := inc1 (by omega)
 unfold F9
 rw [Sh_N hS]
 have hS1 : Sh C R S (n + 1) q (s_n o (n + 1)) := by
  dsimp only [Sh, f_regTuple, f_regA, f_regB, f_regC, f_regCount, f_slots, f_range, f_slide, f_frontSize, f_backSize, f_backElem, f_frontAgg, f_backAgg, f_snap, f_reg, f_capacity, f_queries, f_n, s_n] at hS ⊢
  obtain ⟨y1, y2, y3, y4, y5, y6, y7, y8, y9, y10, y11, y12⟩ := hS
  exact ⟨y1, y2, y3, y4, y5, y6, y7, y8, y9, rfl, y11, y12⟩
 have lr := Sh_l_reg hS1
 rw [set_ex hS1 (x := 0) (by decide) (by decide)]
 simp only [Option.bind_some]
 have mT : M4 (((((f_reg (s_n o (n + 1))).set ((0 : Int32).toInt.toNat * 4) a).set ((0 : Int32).toInt.toNat * 4 + 1) b).set ((0 : Int32).toInt.toNat * 4 + 2) c).set ((0 : Int32).toInt.toNat * 4 + 3) d) 0 (a, b, c, d) := by
  have e : (0 : Int32).toInt.toNat * 4 = 0 := rfl
  rw [e]
  refine ⟨?_, ?_, ?_, ?_⟩
  ·rw [List.getElem?_set_ne (by decide), List.getElem?_set_ne (by decide), List.getElem?_set_ne (by decide), List.getElem?_set_self (by omega)]
  ·rw [List.getElem?_set_ne (by decide), List.getElem?_set_ne (by decide), List.getElem?_set_self (by simp only [List.length_set]; omega)]
  ·rw [List.getElem?_set_ne (by decide), List.getElem?_set_self (by simp only [List.length_set]; omega)]
  ·rw [List.getElem?_set_self (by simp only [List.length_set]; omega)]
 obtain ⟨L, hL⟩ : ∃ L, L = ((((f_reg (s_n o (n + 1))).set ((0 : Int32).toInt.toNat * 4) a).set ((0 : Int32).toInt.toNat * 4 + 1) b).set ((0 : Int32).toInt.toNat * 4 + 2) c).set ((0 : Int32).toInt.toNat * 4 + 3) d := ⟨_, rfl⟩
 have lL : L.length = 16 := by rw [hL]; simp only [List.length_set]; exact lr
 rw [← hL] at mT ⊢
 clear hL
 have hS2 := Sh_reg hS1 (x := L) lL
 have hH1 : (H ++ [(a, b, c, d)]).length = H.length + 1 := by rw [List.length_append]; rfl
 apply okP.bind
 refine okP.mono (P := fun (e : Int32 × Ob) => Sh C R S (n + 1) q e.2 ∧ (∀ x, x < q.toInt.toNat → Qo e.2 R S (H ++ [(a, b, c, d)]) x) ∧ e.1.toInt = cM S (H.length + 1) q.toInt.toNat) ?_ (fun e he => okP.some ⟨⟨n + 1, he.1, by omega, by omega, hq, lR, lS, he.2.1⟩, he.2.2⟩)
 refine okP.loop (fun v => 0 ≤ v.2.1.toInt ∧ v.2.1.toInt ≤ q.toInt ∧ Sh C R S (n + 1) q v.2.2 ∧ M4 (f_reg v.2.2) 0 (a, b, c, d) ∧ (∀ x, x < v.2.1.toInt.toNat → Qo v.2.2 R S (H ++ [(a, b, c, d)]) x) ∧ (∀ x, v.2.1.toInt.toNat ≤ x → x < q.toInt.toNat → Qo v.2.2 R S H x) ∧ v.1.toInt = cM S (H.length + 1) v.2.1.toInt.toNat) (fun v => (4 - v.2.1.toInt).toNat) ⟨by show (0 : Int) ≤ 0; decide, by show (0 : Int) ≤ q.toInt; omega, hS2, mT, fun x hx => absurd hx (Nat.not_lt_zero _), fun x _ hx => (hQ x hx).keep ((keep_n _ _ _).trans (keep_reg _ _ _)), rfl⟩ (by show (4 - (0 : Int)).toNat < 4000; decide) ?_
 rintro ⟨w, x, p⟩ ⟨x0, x1, hp, mp, hnew, hold, hw⟩
 simp only at x0 x1 hp mp hnew hold hw
 unfold B9_26
 simp only
 rw [Sh_Q hp]
 apply okP.ite <;> intro cc
 ·rw [i_lt] at cc
  have e2 : (x + 1).toInt = x.toInt + 1 := inc1 (by omega)
  have en : (x + 1).toInt.toNat = x.toInt.toNat + 1 := by omega
  obtain ⟨r, s, hr, hs, r1, s1, F, B, hFB, zq⟩ := hold x.toInt.toNat (Nat.le_refl _) (by omega)
  have ll := (lastr_len r.toInt.toNat H).1
  rw [← hFB] at ll
  apply okP.bind
  refine okP.mono (app_m hp x0 (by omega) zq mp hr r1.1 r1.2 (by omega)) ?_
  rintro p2 ⟨hp2, ⟨F', B', eF, zq2⟩, mp2, kp2⟩
  have eL : F' ++ B' = lastr r.toInt.toNat (H ++ [(a, b, c, d)]) := by
   rw [eF, lastr_snoc (by omega), ← hFB]
   congr 1
   by_cases q' : (F ++ B).length < r.toInt.toNat
   ·rw [if_pos q', if_pos (by omega)]
   ·rw [if_neg q', if_neg (by omega)]
  have g1 : S[x.toInt.toNat]?.getD 0 = s := by rw [hs]; rfl
  rw [Sh_S hp2, g0 x0 hs]
  simp only [Option.bind_some]
  rw [if_neg (by rw [i_lt, z1]; omega), Sh_N hp2]
  have qe : qrem (n + 1) s = some ((n + 1) % s) := by
   unfold qrem
   rw [if_neg (by rw [i_eq, z0]; omega)]
  rw [qe]
  simp only [Option.bind_some]
  have re := rem_i (x := n + 1) (y := s) (by omega) s1.1
  have nn : (n + 1).toInt.toNat = H.length + 1 := by omega
  rw [nn] at re
  have old2 : ∀ {u : Ob}, (∀ y, y ≠ x.toInt.toNat → Keep p2 u y) → ∀ y, x.toInt.toNat + 1 ≤ y → y < q.toInt.toNat → Qo u R S H y := fun k y y1 y2 => ((hold y (by omega) y2).keep (kp2 y (by omega))).keep (k y (by omega))
  have new2 : ∀ {u : Ob}, (∀ y, y ≠ x.toInt.toNat → Keep p2 u y) → ∀ y, y < x.toInt.toNat → Qo u R S (H ++ [(a, b, c, d)]) y := fun k y y1 => ((hnew y y1).keep (kp2 y (by omega))).keep (k y (by omega))
  unfold J9_75
  have cl := cM_le S (H.length + 1) x.toInt.toNat
  have w1 : (w + 1).toInt = w.toInt + 1 := inc1 (by omega)
  by_cases dv : (H.length + 1) % s.toInt.toNat = 0
  ·rw [if_pos (by rw [i_eq, re, dv]; rfl)]
   apply okP.bind
   refine okP.mono (snap_m hp2 x0 (by omega) zq2 mp2) ?_
   rintro p3 ⟨hp3, zq3, mp3, kp3⟩
   apply okP.some
   refine ⟨⟨by simp only; omega, by simp only; omega, hp3, mp3, ?_, ?_, ?_⟩, by simp only; omega⟩
   ·intro y hy
    simp only [en] at hy
    by_cases e : y = x.toInt.toNat
    ·rw [e]
     exact ⟨r, s, hr, hs, r1, s1, F', B', eL, by rw [SNv_hit dv, ← eL]; exact zq3⟩
    ·exact new2 kp3 y (by omega)
   ·intro y y1 y2
    simp only [en] at y1
    exact old2 kp3 y y1 y2
   ·simp only [en]
    rw [cM_s, show hit S (H.length + 1) x.toInt.toNat = true from by unfold hit; rw [g1, dv]; rfl, if_pos rfl, w1, hw]; rfl
  ·rw [if_neg (by rw [i_eq, re, z0]; omega)]
   apply okP.some
   refine ⟨⟨by simp only; omega, by simp only; omega, hp2, mp2, ?_, ?_, ?_⟩, by simp only; omega⟩
   ·intro y hy
    simp only [en] at hy
    by_cases e : y = x.toInt.toNat
    ·rw [e]
     exact ⟨r, s, hr, hs, r1, s1, F', B', eL, by rw [SNv_miss (by omega) dv]; exact zq2⟩
    ·exact new2 (fun y _ => Keep.refl _ _) y (by omega)
   ·intro y y1 y2
    simp only [en] at y1
    exact old2 (fun y _ => Keep.refl _ _) y y1 y2
   ·simp only [en]
    rw [cM_s, show hit S (H.length + 1) x.toInt.toNat = false from by unfold hit; rw [g1]; exact beq_false_of_ne dv]
    exact hw
 ·rw [i_lt] at cc
  have : x.toInt.toNat = q.toInt.toNat := by omega
  rw [this] at hnew hw
  exact okP.some ⟨hp, hnew, hw⟩
theorem reset_all {C : Int32} {R S : List Int32} {n q : Int32} {o : Ob} {B : Int32 × Ob → Option (Ob ⊕ (Int32 × Ob))} (hB : ∀ v, B v = (if v.1 < 4 then (F2 v.2 v.1).bind fun r => some (.inr (v.1 + 1, r)) else some (.inl v.2))) (h : Sh C R S n q o) : okP (loopN B qN (0, o)) (fun p => Sh C R S n q p ∧ ∀ x, x < 4 → Zq p x [] [] (1, 0, 0, 1)) := by
 refine okP.loop (fun v => 0 ≤ v.1.toInt ∧ v.1.toInt ≤ 4 ∧ Sh C R S n q v.2 ∧ ∀ x, x < v.1.toInt.toNat → Zq v.2 x [] [] (1, 0, 0, 1)) (fun v => (4 - v.1.toInt).toNat) ⟨by show (0 : Int) ≤ 0; decide, by show (0 : Int) ≤ 4; decide, h, fun x hx => absurd hx (Nat.not_lt_zero _)⟩ (by show (4 - (0 : Int)).toNat < 4000; decide) ?_
 rintro ⟨i, p⟩ ⟨i0, i1, hp, hz⟩
 simp only at i0 i1 hp hz
 rw [hB]
 simp only
 apply okP.ite <;> intro c
 ·rw [i_lt, z4'] at c
  have e2 : (i + 1).toInt = i.toInt + 1 := inc1 (by omega)
  have en : (i + 1).toInt.toNat = i.toInt.toNat + 1 := by omega
  apply okP.bind
  refine okP.mono (reset_m hp i0 c) ?_
  rintro r ⟨hr, zr, kr⟩
  apply okP.some
  refine ⟨⟨by simp only; omega, by simp only; omega, hr, ?_⟩, by simp only; omega⟩
  intro x hx
  simp only [en] at hx
  by_cases e : x = i.toInt.toNat
  ·rw [e]; exact zr
  ·exact (hz x (by omega)).keep (kr x e)
 ·rw [i_lt, z4'] at c
  have : i.toInt.toNat = 4 := by omega
  rw [this] at hz
  exact okP.some ⟨hp, hz⟩
theorem SNv_nil (r s : Nat) : SNv r s [] = (1, 0, 0, 1) := by
 unfold SNv lastr
 simp [prod]
theorem lastr_nil (r : Nat) : lastr r [] = [] := by
 unfold lastr; simp
def RS (R S : List Int32) (q : Int32) : Prop := (0 ≤ q.toInt ∧ q.toInt ≤ 4) ∧ R.length = 4 ∧ S.length = 4 ∧ ∀ x, x < q.toInt.toNat → ∃ r s : Int32, R[x]? = some r ∧ S[x]? = some s ∧ (1 ≤ r.toInt ∧ r.toInt ≤ 32) ∧ (1 ≤ s.toInt ∧ s.toInt ≤ 32)
theorem St.rs {C : Int32} {R S : List Int32} {q : Int32} {H : List MX} {o : Ob} (h : St C R S q H o) : RS R S q := by
 obtain ⟨n, hS, hn, _, hq, lR, lS, hQ⟩ := h
 refine ⟨hq, lR, lS, fun x hx => ?_⟩
 obtain ⟨r, s, h1, h2, h3, h4, _⟩ := hQ x hx
 exact ⟨r, s, h1, h2, h3, h4⟩
theorem St_empty {C : Int32} {R S : List Int32} {q : Int32} {p : Ob} (rs : RS R S q) (h : Sh C R S 0 q p) (hz : ∀ x, x < q.toInt.toNat → Zq p x [] [] (1, 0, 0, 1)) : St C R S q [] p := by
 obtain ⟨hq, lR, lS, hx⟩ := rs
 refine ⟨0, h, rfl, by decide, hq, lR, lS, fun x hx' => ?_⟩
 obtain ⟨r, s, h1, h2, h3, h4⟩ := hx x hx'
 exact ⟨r, s, h1, h2, h3, h4, [], [], by rw [lastr_nil]; rfl, by rw [SNv_nil]; exact hz x hx'⟩
theorem clear_m {C : Int32} {R S : List Int32} {q : Int32} {H : List MX} {o : Ob} (h : St C R S q H o) : okP (F22 o) (fun p => St C R S q [] p) := by
 have rs := h.rs
 obtain ⟨n, hS, hn, _, hq, lR, lS, hQ⟩ := h
 have hS1 : Sh C R S 0 q (s_n o 0) := by
  dsimp only [Sh, f_regTuple, f_regA, f_regB, f_regC, f_regCount, f_slots, f_range, f_slide, f_frontSize, f_backSize, f_backElem, f_frontAgg, f_backAgg, f_snap, f_reg, f_capacity, f_queries, f_n, s_n] at hS ⊢
  obtain ⟨y1, y2, y3, y4, y5, y6, y7, y8, y9, y10, y11, y12⟩ := hS
  exact ⟨y1, y2, y3, y4, y5, y6, y7, y8, y9, rfl, y11, y12⟩
 unfold F22
 apply okP.bind
 refine okP.mono (reset_all (fun _ => rfl) hS1) ?_
 rintro p ⟨hp, hz⟩
 exact okP.some (St_empty rs hp (fun x hx => hz x (by omega)))
theorem add_m {C : Int32} {R S : List Int32} {q : Int32} {H : List MX} {o : Ob} (h : St C R S q H o) (c4 : C.toInt ≤ 4) (x y : Int32) : okP (F21 o x y) (fun r => if H = [] ∧ q.toInt < C.toInt ∧ (1 ≤ x.toInt ∧ x.toInt ≤ 32) ∧ (1 ≤ y.toInt ∧ y.toInt ≤ 32) then r.1 = q ∧ St C (R.set q.toInt.toNat x) (S.set q.toInt.toNat y) (q + 1) [] r.2 else r = (-1, o)) := by
 have z0 : (0 : Int32).toInt = 0 := rfl
 have z1 : (1 : Int32).toInt = 1 := rfl
 have z32 : (32 : Int32).toInt = 32 := rfl
 obtain ⟨n, hS, hn, _, hq, lR, lS, hQ⟩ := h
 unfold F21
 rw [Sh_N hS, Sh_Q hS, Sh_C hS]
 by_cases a0 : n = 0
 ·rw [if_pos a0]
  subst a0
  have hH : H = [] := List.eq_nil_of_length_eq_zero (by rw [z0] at hn; omega)
  subst hH
  by_cases a1 : q < C
  ·rw [if_pos a1]
   rw [i_lt] at a1
   by_cases a2 : x < 1
   ·rw [if_pos a2]; rw [i_lt, z1] at a2
    exact okP.some (by rw [if_neg (by omega)])
   rw [if_neg a2]; rw [i_lt, z1] at a2
   by_cases a3 : 32 < x
   ·rw [if_pos a3]; rw [i_lt, z32] at a3
    exact okP.some (by rw [if_neg (by omega)])
   rw [if_neg a3]; rw [i_lt, z32] at a3
   by_cases a4 : y < 1
   ·rw [if_pos a4]; rw [i_lt, z1] at a4
    exact okP.some (by rw [if_neg (by omega)])
   rw [if_neg a4]; rw [i_lt, z1] at a4
   by_cases a5 : 32 < y
   ·rw [if_pos a5]; rw [i_lt, z32] at a5
    exact okP.some (by rw [if_neg (by omega)])
   rw [if_neg a5]; rw [i_lt, z32] at a5
   refine okP.mono (P := fun r => r.1 = q ∧ St C (R.set q.toInt.toNat x) (S.set q.toInt.toNat y) (q + 1) [] r.2) ?_ (fun r hr => by rw [if_pos (show ([] : List MX) = [] ∧ q.toInt < C.toInt ∧ (1 ≤ x.toInt ∧ x.toInt ≤ 32) ∧ (1 ≤ y.toInt ∧ y.toInt ≤ 32) from ⟨rfl, by omega, by omega, by omega⟩)]; exact hr)
   rw [Sh_R hS, Sh_S hS, aset_at (n := q.toInt.toNat) (by omega) (by omega)]
   simp only [Option.bind_some]
   rw [aset_at (n := q.toInt.toNat) (by omega) (by omega)]
   simp only [Option.bind_some]
   have hS1 : Sh C (R.set q.toInt.toNat x) (S.set q.toInt.toNat y) 0 q (s_slide (s_range o (R.set q.toInt.toNat x)) (S.set q.toInt.toNat y)) := by
    dsimp only [Sh, f_regTuple, f_regA, f_regB, f_regC, f_regCount, f_slots, f_range, f_slide, f_frontSize, f_backSize, f_backElem, f_frontAgg, f_backAgg, f_snap, f_reg, f_capacity, f_queries, f_n, s_slide, s_range] at hS ⊢
    obtain ⟨y1, y2, y3, y4, y5, y6, y7, y8, y9, y10, y11, y12⟩ := hS
    exact ⟨y1, y2, y3, y4, y5, y6, y7, rfl, rfl, y10, y11, y12⟩
   apply okP.bind
   refine okP.mono (reset_m hS1 hq.1 (by omega)) ?_
   rintro p ⟨hp, zp, kp⟩
   apply okP.some
   have q1 : (q + 1).toInt = q.toInt + 1 := inc1 (by omega)
   refine ⟨rfl, ?_⟩
   rw [Sh_Q hp]
   have hp2 : Sh C (R.set q.toInt.toNat x) (S.set q.toInt.toNat y) 0 (q + 1) (s_queries p (q + 1)) := by
    dsimp only [Sh, f_regTuple, f_regA, f_regB, f_regC, f_regCount, f_slots, f_range, f_slide, f_frontSize, f_backSize, f_backElem, f_frontAgg, f_backAgg, f_snap, f_reg, f_capacity, f_queries, f_n, s_queries] at hp ⊢
    obtain ⟨y1, y2, y3, y4, y5, y6, y7, y8, y9, y10, y11, y12⟩ := hp
    exact ⟨y1, y2, y3, y4, y5, y6, y7, y8, y9, y10, rfl, y12⟩
   refine St_empty ⟨⟨by omega, by omega⟩, by rw [List.length_set]; exact lR, by rw [List.length_set]; exact lS, fun k hk => ?_⟩ hp2 (fun k hk => ?_)
   ·by_cases e : q.toInt.toNat = k
    ·subst e
     exact ⟨x, y, by rw [List.getElem?_set_self (by omega)], by rw [List.getElem?_set_self (by omega)], by omega, by omega⟩
    ·obtain ⟨r, s, h1, h2, h3, h4, _⟩ := hQ k (by omega)
     exact ⟨r, s, by rw [List.getElem?_set_ne e]; exact h1, by rw [List.getElem?_set_ne e]; exact h2, h3, h4⟩
   ·by_cases e : q.toInt.toNat = k
    ·subst e
     exact zp.keep (keep_q _ _ _)
    ·obtain ⟨r, s, h1, h2, h3, h4, F, B, hFB, zq⟩ := hQ k (by omega)
     rw [lastr_nil] at hFB
     rw [SNv_nil] at zq
     obtain ⟨e1, e2⟩ := List.append_eq_nil_iff.1 hFB
     subst e1
     subst e2
     exact ((zq.keep (keep_rs _ _ _ _)).keep (kp k (fun e' => e e'.symm))).keep (keep_q _ _ _)
  ·rw [if_neg a1]
   rw [i_lt] at a1
   exact okP.some (by rw [if_neg (by omega)])
 ·rw [if_neg a0]
  refine okP.some ?_
  rw [if_neg]
  rintro ⟨q1, _⟩
  rw [q1] at hn
  exact a0 (by rw [i_eq, z0, hn]; rfl)
theorem init_m {x c : Int32} (hc : c = (if (4 : Int32) < (if x < 1 then 1 else x) then 4 else (if x < 1 then 1 else x))) : okP (F1 x) (fun p => St c (List.replicate 4 0) (List.replicate 4 0) 0 [] p) := by
 unfold F1
 rw [← hc]
 apply okP.bind
 refine okP.mono (reset_all (C := c) (R := List.replicate 4 0) (S := List.replicate 4 0) (n := 0) (q := 0) (fun _ => rfl) ?_) ?_
 ·dsimp only [Sh, f_regTuple, f_regA, f_regB, f_regC, f_regCount, f_slots, f_range, f_slide, f_frontSize, f_backSize, f_backElem, f_frontAgg, f_backAgg, f_snap, f_reg, f_capacity, f_queries, f_n, s_regTuple, s_regA, s_regB, s_regC, s_regCount, s_slots, s_range, s_slide, s_frontSize, s_backSize, s_backElem, s_frontAgg, s_backAgg, s_snap, s_reg, s_capacity, s_queries, s_n]
  exact ⟨List.length_replicate, List.length_replicate, List.length_replicate, List.length_replicate, List.length_replicate, List.length_replicate, List.length_replicate, rfl, rfl, rfl, rfl, rfl⟩
 rintro p ⟨hp, hz⟩
 exact okP.some (St_empty ⟨⟨by decide, by decide⟩, List.length_replicate, List.length_replicate, fun k hk => absurd hk (Nat.not_lt_zero _)⟩ hp (fun k hk => absurd hk (Nat.not_lt_zero _)))
def ent (m : MX) (k : Int32) : Int32 := if k = 0 then m.1 else if k = 1 then m.2.1 else if k = 2 then m.2.2.1 else m.2.2.2
theorem M4_get {l : List Int32} {U : Nat} {m : MX} (h : M4 l U m) {j k : Int32} (hk : 0 ≤ k.toInt ∧ k.toInt ≤ 3) (hj : j.toInt = U + k.toInt) : aget l j = some (ent m k) := by
 obtain ⟨m1, m2, m3, m4⟩ := h
 have four : k = 0 ∨ k = 1 ∨ k = 2 ∨ k = 3 := small_cases (P := fun k => k = 0 ∨ k = 1 ∨ k = 2 ∨ k = 3) hk.1 (n := 4) (by omega) (by decide)
 rcases four with e | e | e | e <;> subst e
 ·exact g0 (by omega) (by rw [show j.toInt.toNat = U by rw [hj]; show ((U : Int) + 0).toNat = U; omega]; exact m1)
 ·exact g0 (by omega) (by rw [show j.toInt.toNat = U + 1 by rw [hj]; show ((U : Int) + 1).toNat = U + 1; omega]; exact m2)
 ·exact g0 (by omega) (by rw [show j.toInt.toNat = U + 2 by rw [hj]; show ((U : Int) + 2).toNat = U + 2; omega]; exact m3)
 ·exact g0 (by omega) (by rw [show j.toInt.toNat = U + 3 by rw [hj]; show ((U : Int) + 3).toNat = U + 3; omega]; exact m4)
theorem vq {C : Int32} {R S : List Int32} {n q : Int32} {o : Ob} (h : Sh C R S n q o) (hq : q.toInt ≤ 4) (x : Int32) : F14 o x = some (if 0 ≤ x.toInt ∧ x.toInt < q.toInt then 1 else 0) := by
 have z0 : (0 : Int32).toInt = 0 := rfl
 unfold F14
 rw [Sh_Q h]
 by_cases a : x < 0
 ·rw [if_pos a, if_neg (by rw [i_lt, z0] at a; omega)]
 rw [if_neg a]
 rw [i_lt, z0] at a
 by_cases b : x < q
 ·rw [if_pos b]
  rw [i_lt] at b
  rw [if_pos (by rw [i_lt, z4']; omega), if_pos ⟨by omega, b⟩]
 ·rw [if_neg b, if_neg (by rw [i_lt] at b; omega)]
theorem ve (k : Int32) : F24 k = some (if 0 ≤ k.toInt ∧ k.toInt ≤ 3 then 1 else 0) := by
 have z0 : (0 : Int32).toInt = 0 := rfl
 have z3 : (3 : Int32).toInt = 3 := rfl
 unfold F24
 by_cases a : k < 0
 ·rw [if_pos a, if_neg (by rw [i_lt, z0] at a; omega)]
 rw [if_neg a]
 rw [i_lt, z0] at a
 by_cases b : 3 < k
 ·rw [if_pos b, if_neg (by rw [i_lt, z3] at b; omega)]
 ·rw [if_neg b, if_pos (by rw [i_lt, z3] at b; omega)]
def rq (R : List Int32) (x : Int32) : Int32 := (R[x.toInt.toNat]?).getD 0
abbrev isQ (q x : Int32) : Prop := 0 ≤ x.toInt ∧ x.toInt < q.toInt
theorem res_m {C : Int32} {R S : List Int32} {q : Int32} {H : List MX} {o : Ob} (h : St C R S q H o) (x k : Int32) : F19 o x k = some (if isQ q x ∧ (0 ≤ k.toInt ∧ k.toInt ≤ 3) then ent (SNv (rq R x).toInt.toNat (rq S x).toInt.toNat H) k else 0) := by
 obtain ⟨n, hS, hn, _, hq, lR, lS, hQ⟩ := h
 unfold F19
 rw [vq hS hq.2]
 simp only [Option.bind_some]
 by_cases a : 0 ≤ x.toInt ∧ x.toInt < q.toInt
 ·rw [if_pos a, if_neg (by decide), ve]
  simp only [Option.bind_some]
  by_cases b : 0 ≤ k.toInt ∧ k.toInt ≤ 3
  ·obtain ⟨r, s, h1, h2, h3, h4, F, B, hFB, zq⟩ := hQ x.toInt.toNat (by omega)
   have e := m4 a.1 (by omega)
   have er : rq R x = r := by unfold rq; rw [h1]; rfl
   have es : rq S x = s := by unfold rq; rw [h2]; rfl
   rw [if_pos b, if_neg (by decide), if_pos ⟨a, b⟩, er, es, M4_get zq.2.2.2.2.2.1 b (by rw [i_add (by omega) (by omega), e]; omega)]
   rfl
  ·rw [if_neg b, if_pos rfl, if_neg (fun q => b q.2)]
 ·rw [if_neg a, if_pos rfl, if_neg (fun q => a q.1)]
theorem live_m {C : Int32} {R S : List Int32} {q : Int32} {H : List MX} {o : Ob} (h : St C R S q H o) (x k : Int32) : okP (F20 o x k) (fun z => z.1 = (if isQ q x ∧ (0 ≤ k.toInt ∧ k.toInt ≤ 3) then ent (prod (lastr (rq R x).toInt.toNat H)) k else 0) ∧ St C R S q H z.2) := by
 have h' := h
 obtain ⟨n, hS, hn, hH, hq, lR, lS, hQ⟩ := h
 unfold F20
 rw [vq hS hq.2]
 simp only [Option.bind_some]
 by_cases a : 0 ≤ x.toInt ∧ x.toInt < q.toInt
 ·rw [if_pos a, if_neg (by decide), ve]
  simp only [Option.bind_some]
  by_cases b : 0 ≤ k.toInt ∧ k.toInt ≤ 3
  ·obtain ⟨r, s, h1, h2, h3, h4, F, B, hFB, zq⟩ := hQ x.toInt.toNat (by omega)
   have er : rq R x = r := by unfold rq; rw [h1]; rfl
   rw [if_pos b, if_neg (by decide), er]
   obtain ⟨T, hT⟩ := M4_ex (l := f_reg o) (k := 0) (by have := Sh_l_reg hS; omega)
   apply okP.bind
   refine okP.mono (fold_m hS a.1 (by omega) zq hT) ?_
   rintro _ ⟨L, rfl, lL, mL, mT⟩
   have e12 : (3 * 4 + k : Int32).toInt = 12 + k.toInt := by
    have z12 : (3 * 4 : Int32).toInt = 12 := rfl
    rw [i_add (by rw [z12]; omega) (by rw [z12]; omega), z12]
   have gr : F29 (s_reg o L) 3 k = some (ent (prod (F ++ B)) k) := by
    unfold F29
    rw [vr (u := 3) (by decide) (by decide), ve]
    simp only [Option.bind_some]
    rw [if_neg (by decide), if_pos b, if_neg (by decide)]
    have rl : f_reg (s_reg o L) = L := by dsimp only [f_regTuple, f_regA, f_regB, f_regC, f_regCount, f_slots, f_range, f_slide, f_frontSize, f_backSize, f_backElem, f_frontAgg, f_backAgg, f_snap, f_reg, f_capacity, f_queries, f_n, s_reg]
    rw [rl, M4_get mL b e12]
    rfl
   rw [gr]
   simp only [Option.bind_some]
   refine okP.some ⟨by rw [if_pos ⟨a, b⟩, hFB], n, Sh_reg hS (x := L) lL, hn, hH, hq, lR, lS, fun y hy => (hQ y hy).keep (keep_reg _ _ _)⟩
  ·rw [if_neg b, if_pos rfl]
   exact okP.some ⟨by rw [if_neg (fun q => b q.2)], h'⟩
 ·rw [if_neg a, if_pos rfl]
  exact okP.some ⟨by rw [if_neg (fun q => a q.1)], h'⟩
theorem rng_m {C : Int32} {R S : List Int32} {q : Int32} {H : List MX} {o : Ob} (h : St C R S q H o) (x : Int32) : F13 o x = some (if isQ q x then rq R x else -1) := by
 obtain ⟨n, hS, hn, hH, hq, lR, lS, hQ⟩ := h
 unfold F13
 rw [vq hS hq.2]
 simp only [Option.bind_some]
 by_cases a : 0 ≤ x.toInt ∧ x.toInt < q.toInt
 ·obtain ⟨r, s, h1, h2, h3, h4, _⟩ := hQ x.toInt.toNat (by omega)
  have er : rq R x = r := by unfold rq; rw [h1]; rfl
  rw [if_pos a, if_neg (by decide), if_pos a, Sh_R hS, g0 a.1 h1, er]; rfl
 ·rw [if_neg a, if_pos rfl, if_neg a]
theorem sld_m {C : Int32} {R S : List Int32} {q : Int32} {H : List MX} {o : Ob} (h : St C R S q H o) (x : Int32) : F15 o x = some (if isQ q x then rq S x else -1) := by
 obtain ⟨n, hS, hn, hH, hq, lR, lS, hQ⟩ := h
 unfold F15
 rw [vq hS hq.2]
 simp only [Option.bind_some]
 by_cases a : 0 ≤ x.toInt ∧ x.toInt < q.toInt
 ·obtain ⟨r, s, h1, h2, h3, h4, _⟩ := hQ x.toInt.toNat (by omega)
  have er : rq S x = s := by unfold rq; rw [h2]; rfl
  rw [if_pos a, if_neg (by decide), if_pos a, Sh_S hS, g0 a.1 h2, er]; rfl
 ·rw [if_neg a, if_pos rfl, if_neg a]
theorem div_i {x y : Int32} (hx : 0 ≤ x.toInt) (hy : 1 ≤ y.toInt) : (x / y).toInt = (x.toInt.toNat / y.toInt.toNat : Nat) := by
 have hi := i_hi x
 have e1 : x.toInt = (x.toInt.toNat : Int) := by omega
 have e2 : y.toInt = (y.toInt.toNat : Int) := by omega
 have le : x.toInt.toNat / y.toInt.toNat ≤ x.toInt.toNat := Nat.div_le_self _ _
 rw [Int32.toInt_div, Int.tdiv_eq_ediv_of_nonneg hx, e1, e2]
 have : ((x.toInt.toNat : Int) / (y.toInt.toNat : Int)) = ((x.toInt.toNat / y.toInt.toNat : Nat) : Int) := by simp
 rw [this]
 simp only [Int.toNat_natCast]
 obtain ⟨w, hw⟩ : ∃ w, w = x.toInt.toNat / y.toInt.toNat := ⟨_, rfl⟩
 rw [← hw] at le ⊢
 exact Int.bmod_eq_of_le (by omega) (by omega)
theorem end_m {C : Int32} {R S : List Int32} {q n : Int32} {H : List MX} {o : Ob} (h : St C R S q H o) {x : Int32} (a : isQ q x) : ∃ e d : Int32, F23 o x = some e ∧ e.toInt = ((rq S x).toInt.toNat * (H.length / (rq S x).toInt.toNat) : Nat) ∧ d.toInt = (H.length / (rq S x).toInt.toNat : Nat) ∧ F18 o x = some d ∧ (1 ≤ (rq S x).toInt ∧ (rq S x).toInt ≤ 32) ∧ (1 ≤ (rq R x).toInt ∧ (rq R x).toInt ≤ 32) ∧ R[x.toInt.toNat]? = some (rq R x) := by
 obtain ⟨n, hS, hn, hH, hq, lR, lS, hQ⟩ := h
 have z0 : (0 : Int32).toInt = 0 := rfl
 have z1 : (1 : Int32).toInt = 1 := rfl
 obtain ⟨r, s, h1, h2, h3, h4, _⟩ := hQ x.toInt.toNat (by omega)
 have es : rq S x = s := by unfold rq; rw [h2]; rfl
 have er : rq R x = r := by unfold rq; rw [h1]; rfl
 rw [es, er]
 have dv := div_i (x := n) (y := s) (by omega) h4.1
 rw [hn, Int.toNat_natCast] at dv
 have qe : qdiv n s = some (n / s) := by
  unfold qdiv
  rw [if_neg (by rw [i_eq, z0]; omega)]
 have le : s.toInt.toNat * (H.length / s.toInt.toNat) ≤ H.length := Nat.mul_div_le _ _
 have le2 : H.length / s.toInt.toNat ≤ H.length := Nat.div_le_self _ _
 have mu : s.toInt * (n / s).toInt = (s.toInt.toNat * (H.length / s.toInt.toNat) : Nat) := by
  rw [dv]
  have : s.toInt = (s.toInt.toNat : Int) := by omega
  rw [this]
  simp
 refine ⟨s * (n / s), n / s, ?_, ?_, dv, ?_, h4, h3, h1⟩
 ·unfold F23
  rw [Sh_S hS, g0 a.1 h2]
  simp only [Option.bind_some]
  rw [if_neg (by rw [i_lt, z1]; omega), Sh_N hS, qe]
  rfl
 ·rw [i_mul (by omega) (by omega), mu]
 ·unfold F18
  rw [vq hS hq.2]
  simp only [Option.bind_some]
  rw [if_pos a, if_neg (by decide), Sh_S hS, g0 a.1 h2]
  simp only [Option.bind_some]
  rw [if_neg (by rw [i_lt, z1]; omega), Sh_N hS, qe]
  rfl
def nV (H : List MX) : Int32 := Int32.ofInt H.length
def eV (S : List Int32) (H : List MX) (x : Int32) : Int32 := rq S x * (nV H / rq S x)
theorem nV_i {H : List MX} (h : H.length ≤ 1000) : (nV H).toInt = H.length := by
 unfold nV
 rw [Int32.toInt_ofInt_of_le (by show _ ≤ (H.length : Int); omega) (by show (H.length : Int) < _; omega)]
theorem eV_i {s : Int32} (s1 : 1 ≤ s.toInt ∧ s.toInt ≤ 32) {H : List MX} (h : H.length ≤ 1000) : (s * (nV H / s)).toInt = (s.toInt.toNat * (H.length / s.toInt.toNat) : Nat) ∧ (nV H / s).toInt = (H.length / s.toInt.toNat : Nat) := by
 have e := nV_i h
 have dv := div_i (x := nV H) (y := s) (by omega) s1.1
 rw [e, Int.toNat_natCast] at dv
 have le : s.toInt.toNat * (H.length / s.toInt.toNat) ≤ H.length := Nat.mul_div_le _ _
 have mu : s.toInt * (nV H / s).toInt = (s.toInt.toNat * (H.length / s.toInt.toNat) : Nat) := by
  rw [dv]
  have : s.toInt = (s.toInt.toNat : Int) := by omega
  rw [this]
  simp
 refine ⟨?_, dv⟩
 obtain ⟨w, hw⟩ : ∃ w, w = s.toInt.toNat * (H.length / s.toInt.toNat) := ⟨_, rfl⟩
 rw [← hw] at le mu ⊢
 rw [i_mul (by omega) (by omega), mu]
theorem endV {C : Int32} {R S : List Int32} {q : Int32} {H : List MX} {o : Ob} (h : St C R S q H o) {x : Int32} (a : isQ q x) : F23 o x = some (eV S H x) := by
 obtain ⟨n, hS, hn, hH, hq, lR, lS, hQ⟩ := h
 have z0 : (0 : Int32).toInt = 0 := rfl
 have z1 : (1 : Int32).toInt = 1 := rfl
 obtain ⟨r, s, h1, h2, h3, h4, _⟩ := hQ x.toInt.toNat (by omega)
 have es : rq S x = s := by unfold rq; rw [h2]; rfl
 have en : nV H = n := by rw [i_eq, nV_i hH, hn]
 have qe : qdiv n s = some (n / s) := by
  unfold qdiv
  rw [if_neg (by rw [i_eq, z0]; omega)]
 unfold F23 eV
 rw [es, en, Sh_S hS, g0 a.1 h2]
 simp only [Option.bind_some]
 rw [if_neg (by rw [i_lt, z1]; omega), Sh_N hS, qe]
 rfl
theorem wend_m {C : Int32} {R S : List Int32} {q : Int32} {H : List MX} {o : Ob} (h : St C R S q H o) (x : Int32) : F17 o x = some (if isQ q x then eV S H x else -1) := by
 unfold F17
 have h' := h
 obtain ⟨n, hS, hn, hH, hq, lR, lS, hQ⟩ := h'
 rw [vq hS hq.2]
 simp only [Option.bind_some]
 by_cases a : isQ q x
 ·rw [if_pos a, if_neg (by decide), if_pos a, endV h a]; rfl
 ·rw [if_neg a, if_pos rfl, if_neg a]
theorem wsta_m {C : Int32} {R S : List Int32} {q : Int32} {H : List MX} {o : Ob} (h : St C R S q H o) (x : Int32) : F16 o x = some (if isQ q x then (if eV S H x - rq R x < 0 then 0 else eV S H x - rq R x) else -1) := by
 unfold F16
 have h' := h
 obtain ⟨n, hS, hn, hH, hq, lR, lS, hQ⟩ := h'
 rw [vq hS hq.2]
 simp only [Option.bind_some]
 by_cases a : isQ q x
 ·obtain ⟨r, s, h1, h2, h3, h4, _⟩ := hQ x.toInt.toNat (by omega)
  have er : rq R x = r := by unfold rq; rw [h1]; rfl
  rw [if_pos a, if_neg (by decide), if_pos a, endV h a]
  simp only [Option.bind_some]
  rw [Sh_R hS, g0 a.1 h1, er]
  simp only [Option.bind_some]
  by_cases c : eV S H x - r < 0
  ·rw [if_pos c, if_pos c]
  ·rw [if_neg c, if_neg c]
 ·rw [if_neg a, if_pos rfl, if_neg a]
theorem evl_m {C : Int32} {R S : List Int32} {q : Int32} {H : List MX} {o : Ob} (h : St C R S q H o) (x : Int32) : F18 o x = some (if isQ q x then nV H / rq S x else -1) := by
 unfold F18
 obtain ⟨n, hS, hn, hH, hq, lR, lS, hQ⟩ := h
 have z0 : (0 : Int32).toInt = 0 := rfl
 have z1 : (1 : Int32).toInt = 1 := rfl
 rw [vq hS hq.2]
 simp only [Option.bind_some]
 by_cases a : isQ q x
 ·obtain ⟨r, s, h1, h2, h3, h4, _⟩ := hQ x.toInt.toNat (by omega)
  have es : rq S x = s := by unfold rq; rw [h2]; rfl
  have en : nV H = n := by rw [i_eq, nV_i hH, hn]
  have qe : qdiv n s = some (n / s) := by
   unfold qdiv
   rw [if_neg (by rw [i_eq, z0]; omega)]
  rw [if_pos a, if_neg (by decide), if_pos a, Sh_S hS, g0 a.1 h2, es, en]
  simp only [Option.bind_some]
  rw [if_neg (by rw [i_lt, z1]; omega), Sh_N hS, qe]
  rfl
 ·rw [if_neg a, if_pos rfl, if_neg a]
theorem tup_m {C : Int32} {R S : List Int32} {q : Int32} {H : List MX} {o : Ob} (h : St C R S q H o) : F10 o = some (nV H) := by
 obtain ⟨n, hS, hn, hH, _⟩ := h
 unfold F10
 rw [Sh_N hS, show nV H = n by rw [i_eq, nV_i hH, hn]]
theorem qct_m {C : Int32} {R S : List Int32} {q : Int32} {H : List MX} {o : Ob} (h : St C R S q H o) : F11 o = some q := by
 obtain ⟨n, hS, _⟩ := h
 unfold F11
 rw [Sh_Q hS]

def A4 (R : List Int32) (q a b c d : Int32) : Prop := (0 < q.toInt → rq R 0 = a) ∧ (1 < q.toInt → rq R 1 = b) ∧ (2 < q.toInt → rq R 2 = c) ∧ (3 < q.toInt → rq R 3 = d)
theorem rq_set {R : List Int32} (l : R.length = 4) {q x v : Int32} (hq : 0 ≤ q.toInt ∧ q.toInt < 4) (hx : 0 ≤ x.toInt) : rq (R.set q.toInt.toNat v) x = if q.toInt = x.toInt then v else rq R x := by
 unfold rq
 by_cases e : q.toInt = x.toInt
 ·rw [if_pos e, e, List.getElem?_set_self (by omega)]; rfl
 ·rw [if_neg e, List.getElem?_set_ne (by omega)]
theorem A4.set {R : List Int32} {q a b c d v : Int32} (h : A4 R q a b c d) (l : R.length = 4) (hq : 0 ≤ q.toInt ∧ q.toInt < 4) : A4 (R.set q.toInt.toNat v) (q + 1) (if q = 0 then v else a) (if q = 0 then b else if q = 1 then v else b) (if q = 0 then c else if q = 1 then c else if q = 2 then v else c) (if q = 0 then d else if q = 1 then d else if q = 2 then d else v) := by
 obtain ⟨h0, h1, h2, h3⟩ := h
 have q1 : (q + 1).toInt = q.toInt + 1 := inc1 (by omega)
 have z0 : (0 : Int32).toInt = 0 := rfl
 have z1 : (1 : Int32).toInt = 1 := rfl
 have z2 : (2 : Int32).toInt = 2 := rfl
 have z3 : (3 : Int32).toInt = 3 := rfl
 unfold A4
 rw [rq_set l hq (by decide), rq_set l hq (by decide), rq_set l hq (by decide), rq_set l hq (by decide), q1, z0, z1, z2, z3]
 have four : q = 0 ∨ q = 1 ∨ q = 2 ∨ q = 3 := small_cases (P := fun k => k = 0 ∨ k = 1 ∨ k = 2 ∨ k = 3) hq.1 (n := 4) (by omega) (by decide)
 rcases four with e | e | e | e <;> subst e
 ·exact ⟨fun _ => rfl, fun q => absurd q (by decide), fun q => absurd q (by decide), fun q => absurd q (by decide)⟩
 ·exact ⟨fun _ => h0 (by decide), fun _ => rfl, fun q => absurd q (by decide), fun q => absurd q (by decide)⟩
 ·exact ⟨fun _ => h0 (by decide), fun _ => h1 (by decide), fun _ => rfl, fun q => absurd q (by decide)⟩
 ·exact ⟨fun _ => h0 (by decide), fun _ => h1 (by decide), fun _ => h2 (by decide), fun _ => rfl⟩
theorem ent_all (m : MX) : ent m 0 = m.1 ∧ ent m 1 = m.2.1 ∧ ent m 2 = m.2.2.1 ∧ ent m 3 = m.2.2.2 := ⟨rfl, rfl, rfl, rfl⟩
theorem foldL {C : Int32} {R S : List Int32} {q : Int32} {H : List MX} {o : Ob} (h : St C R S q H o) {x : Int32} (a : isQ q x) {m : MX} (hm : prod (lastr (rq R x).toInt.toNat H) = m) : okP (F25 o x 1 m.1 m.2.1 m.2.2.1 m.2.2.2) (fun z => z.1 = 1 ∧ St C R S q H z.2) := by
 unfold F25
 rw [if_neg (by decide)]
 apply okP.bind
 refine okP.mono (live_m h x 0) ?_
 rintro ⟨u, o1⟩ ⟨e1, h1⟩
 rw [if_pos ⟨a, by decide⟩, hm] at e1
 simp only at e1 h1 ⊢
 rw [if_pos (show u = m.1 from e1)]
 apply okP.bind
 refine okP.mono (live_m h1 x 1) ?_
 rintro ⟨u2, o2⟩ ⟨e2, h2⟩
 rw [if_pos ⟨a, by decide⟩, hm] at e2
 simp only at e2 h2 ⊢
 rw [if_pos (show u2 = m.2.1 from e2)]
 apply okP.bind
 refine okP.mono (live_m h2 x 2) ?_
 rintro ⟨u3, o3⟩ ⟨e3, h3⟩
 rw [if_pos ⟨a, by decide⟩, hm] at e3
 simp only at e3 h3 ⊢
 rw [if_pos (show u3 = m.2.2.1 from e3)]
 apply okP.bind
 refine okP.mono (live_m h3 x 3) ?_
 rintro ⟨u4, o4⟩ ⟨e4, h4⟩
 rw [if_pos ⟨a, by decide⟩, hm] at e4
 simp only at e4 h4 ⊢
 rw [if_pos (show u4 = m.2.2.2 from e4)]
 exact okP.some ⟨rfl, h4⟩
theorem foldR {C : Int32} {R S : List Int32} {q : Int32} {H : List MX} {o : Ob} (h : St C R S q H o) {x : Int32} (a : isQ q x) {m : MX} (hm : SNv (rq R x).toInt.toNat (rq S x).toInt.toNat H = m) : okP (F25 o x 0 m.1 m.2.1 m.2.2.1 m.2.2.2) (fun z => z.1 = 1 ∧ St C R S q H z.2) := by
 unfold F25
 rw [if_pos rfl, res_m h, res_m h, res_m h, res_m h, if_pos ⟨a, by decide⟩, if_pos ⟨a, by decide⟩, if_pos ⟨a, by decide⟩, if_pos ⟨a, by decide⟩, hm]
 simp only [Option.bind_some]
 rw [if_pos (show ent m 0 = m.1 from rfl), if_pos (show ent m 1 = m.2.1 from rfl), if_pos (show ent m 2 = m.2.2.1 from rfl), if_pos (show ent m 3 = m.2.2.2 from rfl)]
 exact okP.some ⟨rfl, h⟩
theorem lastr_all {r : Nat} {H : List MX} (h : H.length ≤ r) : lastr r H = H := by
 unfold lastr
 rw [show H.length - r = 0 by omega, List.drop_zero]
theorem lastr_one (H : List MX) (T : MX) : lastr 1 (H ++ [T]) = [T] := by
 unfold lastr
 rw [List.length_append]
 show (H ++ [T]).drop (H.length + 1 - 1) = [T]
 rw [Nat.add_sub_cancel, List.drop_left]
theorem SNv_full {r s : Nat} {H : List MX} (h : s * (H.length / s) = H.length) : SNv r s H = prod (lastr r H) := by
 unfold SNv
 rw [h, List.take_length]
def Lm (H : List MX) (m : MX) : Prop := H = [] ∨ ∃ G, H = G ++ [m]
theorem query_ok {C : Int32} {R S : List Int32} {q : Int32} {H : List MX} {o : Ob} (h : St C R S q H o) (x : Int32) (hx : 0 ≤ x.toInt ∧ x.toInt < 4) {r s : Int32} (hr : x.toInt < q.toInt → rq R x = r) (hs : x.toInt < q.toInt → rq S x = s) {p l : MX} (hp : prod H = p) (hl : Lm H l) : okP (F12 o x q (nV H) r s p.1 p.2.1 p.2.2.1 p.2.2.2 l.1 l.2.1 l.2.2.1 l.2.2.2) (fun z => z.1 = 1 ∧ St C R S q H z.2) := by
 have z0 : (0 : Int32).toInt = 0 := rfl
 have z1 : (1 : Int32).toInt = 1 := rfl
 have rs := h.rs
 have hH : H.length ≤ 1000 := by obtain ⟨_, _, _, hH, _⟩ := h; exact hH
 have nv := nV_i hH
 unfold F12
 by_cases c : x < q
 ·rw [if_pos c]
  rw [i_lt] at c
  have a : isQ q x := ⟨hx.1, c⟩
  have hr := hr c
  have hs := hs c
  obtain ⟨rr, ss, h1, h2, h3, h4⟩ := rs.2.2.2 x.toInt.toNat (by omega)
  have er : rq R x = rr := by unfold rq; rw [h1]; rfl
  have es : rq S x = ss := by unfold rq; rw [h2]; rfl
  have r1 : 1 ≤ r.toInt := by rw [← hr, er]; exact h3.1
  have s1 : 1 ≤ s.toInt ∧ s.toInt ≤ 32 := by rw [← hs, es]; exact h4
  have qe : qdiv (nV H) s = some (nV H / s) := by
   unfold qdiv
   rw [if_neg (by rw [i_eq, z0]; omega)]
  rw [qe, rng_m h, sld_m h, wend_m h, wsta_m h, evl_m h, res_m h, if_pos a, if_pos a, if_pos a, if_pos a, if_pos a, if_neg (show ¬ (isQ q x ∧ (0 ≤ (4 : Int32).toInt ∧ (4 : Int32).toInt ≤ 3)) from fun q => absurd q.2.2 (by decide))]
  unfold eV
  rw [hr, hs]
  simp only [Option.bind_some, if_true]
  apply okP.bind
  refine okP.mono (live_m h x (-1)) ?_
  rintro ⟨u, o1⟩ ⟨e1, g1⟩
  rw [if_neg (fun q => absurd q.2.1 (by decide))] at e1
  simp only at e1 g1 ⊢
  rw [if_pos e1]
  obtain ⟨ev, _⟩ := eV_i s1 hH
  obtain ⟨t, ht⟩ : ∃ t, t = s * (nV H / s) := ⟨_, rfl⟩
  rw [← ht] at ev ⊢
  have full : t = nV H → s.toInt.toNat * (H.length / s.toInt.toNat) = H.length := by
   intro e
   rw [e, nv] at ev
   omega
  have j270 : ∀ {o : Ob}, St C R S q H o → okP (J12_270 o x (nV H) r l.1 l.2.1 l.2.2.1 l.2.2.2 t) (fun z => z.1 = 1 ∧ St C R S q H z.2) := by
   intro o h
   unfold J12_270
   refine okP.ite (fun c1 => ?_) (fun _ => okP.some ⟨rfl, h⟩)
   refine okP.ite (fun _ => okP.some ⟨rfl, h⟩) (fun c2 => ?_)
   rw [i_lt, nv, z1] at c2
   refine okP.ite (fun c3 => ?_) (fun _ => okP.some ⟨rfl, h⟩)
   apply okP.bind
   refine okP.mono (foldR h a (m := l) ?_) ?_
   ·rw [hs, SNv_full (full c3), hr, c1]
    rcases hl with e | ⟨G, e⟩
    ·rw [e] at c2; exact absurd c2 (by decide)
    ·rw [e]
     show prod (lastr 1 (G ++ [l])) = l
     rw [lastr_one, prod_one]
   ·rintro ⟨z, o2⟩ ⟨e2, g2⟩
    simp only at e2 g2 ⊢
    subst e2
    rw [if_neg (by decide)]
    exact okP.some ⟨rfl, g2⟩
  have j240 : ∀ {o : Ob}, St C R S q H o → okP (J12_240 o x (nV H) r l.1 l.2.1 l.2.2.1 l.2.2.2 t) (fun z => z.1 = 1 ∧ St C R S q H z.2) := by
   intro o h
   unfold J12_240
   refine okP.ite (fun c1 => ?_) (fun _ => j270 h)
   refine okP.ite (fun _ => j270 h) (fun c2 => ?_)
   rw [i_lt, nv, z1] at c2
   apply okP.bind
   refine okP.mono (foldL h a (m := l) ?_) ?_
   ·rw [hr, c1]
    rcases hl with e | ⟨G, e⟩
    ·rw [e] at c2; exact absurd c2 (by decide)
    ·rw [e]
     show prod (lastr 1 (G ++ [l])) = l
     rw [lastr_one, prod_one]
   ·rintro ⟨z, o2⟩ ⟨e2, g2⟩
    simp only at e2 g2 ⊢
    subst e2
    rw [if_neg (by decide)]
    exact j270 g2
  have j209 : ∀ {o : Ob}, St C R S q H o → okP (J12_209 o x (nV H) r p.1 p.2.1 p.2.2.1 p.2.2.2 l.1 l.2.1 l.2.2.1 l.2.2.2 t) (fun z => z.1 = 1 ∧ St C R S q H z.2) := by
   intro o h
   unfold J12_209
   refine okP.ite (fun _ => j240 h) (fun c1 => ?_)
   rw [i_lt, nv] at c1
   refine okP.ite (fun c3 => ?_) (fun _ => j240 h)
   apply okP.bind
   refine okP.mono (foldR h a (m := p) ?_) ?_
   ·rw [hs, SNv_full (full c3), hr, lastr_all (by omega), hp]
   ·rintro ⟨z, o2⟩ ⟨e2, g2⟩
    simp only at e2 g2 ⊢
    subst e2
    rw [if_neg (by decide)]
    exact j240 g2
  refine okP.ite (fun _ => j209 g1) (fun c1 => ?_)
  rw [i_lt, nv] at c1
  apply okP.bind
  refine okP.mono (foldL g1 a (m := p) ?_) ?_
  ·rw [hr, lastr_all (by omega), hp]
  ·rintro ⟨z, o2⟩ ⟨e2, g2⟩
   simp only at e2 g2 ⊢
   subst e2
   rw [if_neg (by decide)]
   exact j209 g2
 ·rw [if_neg c]
  rw [i_lt] at c
  have a : ¬ isQ q x := fun q => c q.2
  rw [rng_m h, sld_m h, wend_m h, wsta_m h, evl_m h, res_m h, if_neg a, if_neg a, if_neg a, if_neg a, if_neg a, if_neg (fun q => a q.1)]
  simp only [Option.bind_some, if_true]
  apply okP.bind
  refine okP.mono (live_m h x 3) ?_
  rintro ⟨u, o1⟩ ⟨e1, g1⟩
  rw [if_neg (fun q => a q.1)] at e1
  simp only at e1 g1 ⊢
  rw [if_pos e1]
  exact okP.some ⟨rfl, g1⟩
def mvd (S : List Int32) (q : Int32) (n : Nat) (x : Int32) : Int32 := if x.toInt < q.toInt ∧ hit S n x.toInt.toNat = true then 1 else 0
theorem moved_ok {R S : List Int32} {q n x s : Int32} (rs : RS R S q) (hx : 0 ≤ x.toInt ∧ x.toInt < 4) (hs : x.toInt < q.toInt → rq S x = s) (hn : 0 ≤ n.toInt) : F8 x q n s = some (mvd S q n.toInt.toNat x) := by
 have z0 : (0 : Int32).toInt = 0 := rfl
 unfold F8 mvd
 by_cases c : x < q
 ·rw [if_pos c]
  rw [i_lt] at c
  have hs := hs c
  obtain ⟨rr, ss, h1, h2, h3, h4⟩ := rs.2.2.2 x.toInt.toNat (by omega)
  have es : rq S x = ss := by unfold rq; rw [h2]; rfl
  rw [es] at hs
  subst hs
  have qe : qrem n ss = some (n % ss) := by
   unfold qrem
   rw [if_neg (by rw [i_eq, z0]; omega)]
  rw [qe]
  simp only [Option.bind_some]
  have re := rem_i (x := n) (y := ss) hn h4.1
  have hh : hit S n.toInt.toNat x.toInt.toNat = (n.toInt.toNat % ss.toInt.toNat == 0) := by unfold hit; rw [h2]; rfl
  by_cases d : n.toInt.toNat % ss.toInt.toNat = 0
  ·rw [if_pos (by rw [i_eq, re, d]; rfl), if_pos ⟨c, by rw [hh, d]; rfl⟩]
  ·rw [if_neg (by rw [i_eq, re, z0]; omega), if_neg (fun q => d (eq_of_beq (hh ▸ q.2)))]
 ·rw [if_neg c]
  rw [i_lt] at c
  rw [if_neg (fun q => c q.1)]
theorem mvd_sum {S : List Int32} {q : Int32} (hq : 0 ≤ q.toInt ∧ q.toInt ≤ 4) (n : Nat) : (mvd S q n 0 + mvd S q n 1 + mvd S q n 2 + mvd S q n 3).toInt = cM S n q.toInt.toNat := by
 have five : q = 0 ∨ q = 1 ∨ q = 2 ∨ q = 3 ∨ q = 4 := small_cases (P := fun k => k = 0 ∨ k = 1 ∨ k = 2 ∨ k = 3 ∨ k = 4) hq.1 (n := 5) (by omega) (by decide)
 have c0 : cM S n 0 = 0 := rfl
 have e0 : (0 : Int32).toInt = 0 := rfl
 have e1 : (1 : Int32).toInt = 1 := rfl
 have e2 : (2 : Int32).toInt = 2 := rfl
 have e3 : (3 : Int32).toInt = 3 := rfl
 have e4 : (4 : Int32).toInt = 4 := rfl
 have t0 : Int.toNat 0 = 0 := rfl
 have t1 : Int.toNat 1 = 1 := rfl
 have t2 : Int.toNat 2 = 2 := rfl
 have t3 : Int.toNat 3 = 3 := rfl
 have t4 : Int.toNat 4 = 4 := rfl
 rcases five with e | e | e | e | e <;> subst e <;> unfold mvd <;> simp only [e0, e1, e2, e3, e4, t0, t1, t2, t3, t4] <;> (try rw [show (4 : Nat) = 3 + 1 from rfl, cM_s]) <;> (try rw [show (3 : Nat) = 2 + 1 from rfl, cM_s]) <;> (try rw [show (2 : Nat) = 1 + 1 from rfl, cM_s]) <;> (try rw [show (1 : Nat) = 0 + 1 from rfl, cM_s, c0]) <;> cases hit S n 0 <;> cases hit S n 1 <;> cases hit S n 2 <;> cases hit S n 3 <;> rfl
abbrev QI := Int32 × Int32 × Int32 × Int32 × Int32 × Int32 × Int32 × Int32 × Int32 × Int32 × Int32 × Int32 × Int32 × Int32 × Int32 × Int32 × Int32 × Int32 × Int32 × Ob
def Acc (C q n r0 r1 r2 r3 s0 s1 s2 s3 p0 p1 p2 p3 l0 l1 l2 l3 t : Int32) (o : Ob) : Prop := ∃ R S H, St C R S q H o ∧ n = nV H ∧ A4 R q r0 r1 r2 r3 ∧ A4 S q s0 s1 s2 s3 ∧ prod H = (p0, p1, p2, p3) ∧ Lm H (l0, l1, l2, l3) ∧ (H.length : Int) ≤ t.toInt
def Inv (C : Int32) (v : QI) : Prop := Acc C v.1 v.2.1 v.2.2.1 v.2.2.2.1 v.2.2.2.2.1 v.2.2.2.2.2.1 v.2.2.2.2.2.2.1 v.2.2.2.2.2.2.2.1 v.2.2.2.2.2.2.2.2.1 v.2.2.2.2.2.2.2.2.2.1 v.2.2.2.2.2.2.2.2.2.2.1 v.2.2.2.2.2.2.2.2.2.2.2.1 v.2.2.2.2.2.2.2.2.2.2.2.2.1 v.2.2.2.2.2.2.2.2.2.2.2.2.2.1 v.2.2.2.2.2.2.2.2.2.2.2.2.2.2.1 v.2.2.2.2.2.2.2.2.2.2.2.2.2.2.2.1 v.2.2.2.2.2.2.2.2.2.2.2.2.2.2.2.2.1 v.2.2.2.2.2.2.2.2.2.2.2.2.2.2.2.2.2.1 v.2.2.2.2.2.2.2.2.2.2.2.2.2.2.2.2.2.2.1 v.2.2.2.2.2.2.2.2.2.2.2.2.2.2.2.2.2.2.2
def Po (s : List Int32) (C i : Int32) (r : (Int32 × QHeap) ⊕ QI) : Prop := Sum.elim (fun e => e.1 = 1 ∧ sFit s e.2) (fun w : QI => (0 ≤ w.2.2.2.2.2.2.2.2.2.2.2.2.2.2.2.2.2.2.1.toInt ∧ w.2.2.2.2.2.2.2.2.2.2.2.2.2.2.2.2.2.2.1.toInt ≤ 265 ∧ Inv C w) ∧ (300 - w.2.2.2.2.2.2.2.2.2.2.2.2.2.2.2.2.2.2.1.toInt).toNat < (300 - i.toInt).toNat) r
theorem Po_mk {s : List Int32} {C q n r0 r1 r2 r3 s0 s1 s2 s3 p0 p1 p2 p3 l0 l1 l2 l3 t : Int32} {o : Ob} (I : Acc C q n r0 r1 r2 r3 s0 s1 s2 s3 p0 p1 p2 p3 l0 l1 l2 l3 (t + 5) o) (t0 : 0 ≤ t.toInt) (t1 : t.toInt ≤ 260) : Po s C t (.inr (q, n, r0, r1, r2, r3, s0, s1, s2, s3, p0, p1, p2, p3, l0, l1, l2, l3, t + 5, o)) := by
 have z5 : (5 : Int32).toInt = 5 := rfl
 have a5 : (t + 5).toInt = t.toInt + 5 := by rw [i_add (by omega) (by omega), z5]
 show (0 ≤ (t + 5).toInt ∧ (t + 5).toInt ≤ 265 ∧ Acc C q n r0 r1 r2 r3 s0 s1 s2 s3 p0 p1 p2 p3 l0 l1 l2 l3 (t + 5) o) ∧ (300 - (t + 5).toInt).toNat < (300 - t.toInt).toNat
 exact ⟨⟨by omega, by omega, I⟩, by omega⟩
theorem j494 {s : List Int32} {C q n r0 r1 r2 r3 s0 s1 s2 s3 p0 p1 p2 p3 l0 l1 l2 l3 t : Int32} {o : Ob} (I : Acc C q n r0 r1 r2 r3 s0 s1 s2 s3 p0 p1 p2 p3 l0 l1 l2 l3 (t + 5) o) (t0 : 0 ≤ t.toInt) (t1 : t.toInt ≤ 260) : okP (J0_494 s o C q n r0 r1 r2 r3 s0 s1 s2 s3 p0 p1 p2 p3 l0 l1 l2 l3 t) (Po s C t) := by
 have z5 : (5 : Int32).toInt = 5 := rfl
 have a5 : (t + 5).toInt = t.toInt + 5 := by rw [i_add (by omega) (by omega), z5]
 obtain ⟨R, S, H, h, en, aR, aS, hp, hl, hle⟩ := I
 subst en
 unfold J0_494
 rw [tup_m h, qct_m h]
 simp only [Option.bind_some, if_true]
 apply okP.bind
 have Q0 := query_ok h 0 (by decide) (r := r0) (s := s0) (p := (p0, p1, p2, p3)) (l := (l0, l1, l2, l3)) aR.1 aS.1 hp hl
 simp only at Q0
 refine okP.mono Q0 ?_
 rintro ⟨u1, o1⟩ ⟨e1, g1⟩
 simp only at e1 g1 ⊢
 subst e1
 rw [if_neg (by decide)]
 apply okP.bind
 have Q1 := query_ok g1 1 (by decide) (r := r1) (s := s1) (p := (p0, p1, p2, p3)) (l := (l0, l1, l2, l3)) aR.2.1 aS.2.1 hp hl
 simp only at Q1
 refine okP.mono Q1 ?_
 rintro ⟨u2, o2⟩ ⟨e2, g2⟩
 simp only at e2 g2 ⊢
 subst e2
 rw [if_neg (by decide)]
 apply okP.bind
 have Q2 := query_ok g2 2 (by decide) (r := r2) (s := s2) (p := (p0, p1, p2, p3)) (l := (l0, l1, l2, l3)) aR.2.2.1 aS.2.2.1 hp hl
 simp only at Q2
 refine okP.mono Q2 ?_
 rintro ⟨u3, o3⟩ ⟨e3, g3⟩
 simp only at e3 g3 ⊢
 subst e3
 rw [if_neg (by decide)]
 apply okP.bind
 have Q3 := query_ok g3 3 (by decide) (r := r3) (s := s3) (p := (p0, p1, p2, p3)) (l := (l0, l1, l2, l3)) aR.2.2.2 aS.2.2.2 hp hl
 simp only at Q3
 refine okP.mono Q3 ?_
 rintro ⟨u4, o4⟩ ⟨e4, g4⟩
 simp only at e4 g4 ⊢
 subst e4
 rw [if_neg (by decide)]
 exact okP.some (Po_mk ⟨R, S, H, g4, rfl, aR, aS, hp, hl, hle⟩ t0 t1)
theorem turn {s : List Int32} (hs : s.length ≤ 260) {C q n r0 r1 r2 r3 s0 s1 s2 s3 p0 p1 p2 p3 l0 l1 l2 l3 t : Int32} {o : Ob} (c4 : C.toInt ≤ 4) (I : Acc C q n r0 r1 r2 r3 s0 s1 s2 s3 p0 p1 p2 p3 l0 l1 l2 l3 t o) (t0 : 0 ≤ t.toInt) (t1 : t.toInt ≤ 265) : okP (B0_92 s C (q, n, r0, r1, r2, r3, s0, s1, s2, s3, p0, p1, p2, p3, l0, l1, l2, l3, t, o)) (Po s C t) := by
 have hl' := len_i (n := s.length) (by omega)
 have z0 : (0 : Int32).toInt = 0 := rfl
 have z1 : (1 : Int32).toInt = 1 := rfl
 have z2 : (2 : Int32).toInt = 2 := rfl
 have z3 : (3 : Int32).toInt = 3 := rfl
 have z5 : (5 : Int32).toInt = 5 := rfl
 have z32 : (32 : Int32).toInt = 32 := rfl
 have a1 : (t + 1).toInt = t.toInt + 1 := inc1 (by omega)
 have a2 : (t + 2).toInt = t.toInt + 2 := by rw [i_add (by omega) (by omega), z2]
 have a3 : (t + 3).toInt = t.toInt + 3 := by rw [i_add (by omega) (by omega), z3]
 have a4 : (t + 4).toInt = t.toInt + 4 := by rw [i_add (by rw [z4']; omega) (by rw [z4']; omega), z4']
 have a5 : (t + 5).toInt = t.toInt + 5 := by rw [i_add (by omega) (by omega), z5]
 obtain ⟨R, S, H, h, en, aR, aS, hp, hl, hle⟩ := I
 have rs := h.rs
 have fn : sFit s (H0 s o) := by
  obtain ⟨n', hS, hn, hH, hq, lR, lS, hQ⟩ := id h
  have b1 : (f_range o).length = 4 := by rw [Sh_R hS]; exact lR
  have b2 : (f_slide o).length = 4 := by rw [Sh_S hS]; exact lS
  have b3 := Sh_l_frontSize hS
  have b4 := Sh_l_backSize hS
  have b5 := Sh_l_backElem hS
  have b6 := Sh_l_frontAgg hS
  have b7 := Sh_l_backAgg hS
  have b8 := Sh_l_snap hS
  have b9 := Sh_l_reg hS
  refine ⟨by show 11 - 1 ≤ _; decide, ?_⟩
  simp only [H0, H0v, qhs, qsz, b1, b2, b3, b4, b5, b6, b7, b8, b9]
  simp only [cN, room_1]
  omega
 unfold B0_92
 simp only
 refine okP.ite (fun c => ?_) (fun _ => okP.some ⟨rfl, fn⟩)
 rw [i_lt, hl', a4] at c
 have hH : H.length < 1000 := by omega
 have nv := nV_i (H := H) (by omega)
 apply okP.bind; refine okP.aget (by omega) (by omega) (fun y0 _ => ?_)
 refine okP.ite (fun _ => ?_) (fun _ => ?_)
 ·apply okP.bind; refine okP.aget (by omega) (by omega) (fun y1 _ => ?_)
  apply okP.bind; refine okP.aget (by omega) (by omega) (fun y2 _ => ?_)
  obtain ⟨r, er⟩ : ∃ r, r = (y1 &&& 2147483647) % 34 := ⟨_, rfl⟩
  obtain ⟨u, eu⟩ : ∃ u, u = (y2 &&& 2147483647) % 34 := ⟨_, rfl⟩
  rw [← er, ← eu]
  clear er eu
  have bad : ¬ (H = [] ∧ q.toInt < C.toInt ∧ (1 ≤ r.toInt ∧ r.toInt ≤ 32) ∧ (1 ≤ u.toInt ∧ u.toInt ≤ 32)) → okP (J0_244 s o C q n r0 r1 r2 r3 s0 s1 s2 s3 p0 p1 p2 p3 l0 l1 l2 l3 t r u (-1)) (Po s C t) := by
   intro nc
   unfold J0_244
   apply okP.bind
   refine okP.mono (add_m h c4 r u) ?_
   rintro ⟨v, p⟩ hv
   rw [if_neg nc] at hv
   cases hv
   simp only [if_true]
   exact j494 ⟨R, S, H, h, en, aR, aS, hp, hl, by omega⟩ t0 (by omega)
  refine okP.ite (fun n0 => ?_) (fun n0 => bad (fun w => n0 ?_))
  ·have hE : H = [] := by
    rw [en, i_eq, nv, z0] at n0
    exact List.eq_nil_of_length_eq_zero (by omega)
   refine okP.ite (fun qc => ?_) (fun qc => bad (fun w => qc (by rw [i_lt]; exact w.2.1)))
   refine okP.ite (fun c1 => bad (fun w => ?_)) (fun c1 => ?_)
   ·rw [i_lt, z1] at c1; omega
   refine okP.ite (fun c2 => bad (fun w => ?_)) (fun c2 => ?_)
   ·rw [i_lt, z32] at c2; omega
   refine okP.ite (fun c3 => bad (fun w => ?_)) (fun c3 => ?_)
   ·rw [i_lt, z1] at c3; omega
   by_cases d : (32 : Int32) < u
   ·simp only [if_pos d]
    refine bad (fun w => ?_)
    rw [i_lt, z32] at d; omega
   ·simp only [if_neg d]
    rw [i_lt] at qc
    rw [i_lt, z1] at c1 c3
    rw [i_lt, z32] at c2 d
    unfold J0_244
    apply okP.bind
    refine okP.mono (add_m h c4 r u) ?_
    rintro ⟨v, p⟩ hv
    rw [if_pos ⟨hE, qc, by omega, by omega⟩] at hv
    obtain ⟨v1, v2⟩ := hv
    simp only at v1 v2 ⊢
    rw [if_pos v1]
    subst hE
    exact j494 ⟨_, _, [], v2, en, aR.set rs.2.1 ⟨rs.1.1, by omega⟩, aS.set rs.2.2.1 ⟨rs.1.1, by omega⟩, hp, hl, by show (0 : Int) ≤ _; omega⟩ t0 (by omega)
  ·rw [en, w.1]; rfl
 ·refine okP.ite (fun _ => ?_) (fun _ => ?_)
  ·apply okP.bind; refine okP.aget (by omega) (by omega) (fun y1 _ => ?_)
   apply okP.bind; refine okP.aget (by omega) (by omega) (fun y2 _ => ?_)
   apply okP.bind; refine okP.aget (by omega) (by omega) (fun y3 _ => ?_)
   apply okP.bind; refine okP.aget (by omega) (by omega) (fun y4 _ => ?_)
   obtain ⟨m1, e1⟩ : ∃ m, m = (y1 &&& 15) - 7 := ⟨_, rfl⟩
   obtain ⟨m2, e2⟩ : ∃ m, m = (y2 &&& 15) - 7 := ⟨_, rfl⟩
   obtain ⟨m3, e3⟩ : ∃ m, m = (y3 &&& 15) - 7 := ⟨_, rfl⟩
   obtain ⟨m4, e4⟩ : ∃ m, m = (y4 &&& 15) - 7 := ⟨_, rfl⟩
   rw [← e1, ← e2, ← e3, ← e4]
   clear e1 e2 e3 e4
   have hH1 : (H ++ [(m1, m2, m3, m4)]).length = H.length + 1 := by rw [List.length_append]; rfl
   have nv1 := nV_i (H := H ++ [(m1, m2, m3, m4)]) (by omega)
   have ni : (n + 1).toInt = n.toInt + 1 := inc1 (by rw [en, nv]; omega)
   have n1 : n + 1 = nV (H ++ [(m1, m2, m3, m4)]) := by rw [i_eq, ni, nv1, en, nv]; omega
   have nn : (n + 1).toInt.toNat = H.length + 1 := by rw [n1, nv1]; omega
   rw [moved_ok rs (x := 0) (n := n + 1) (by decide) aS.1 (by omega), moved_ok rs (x := 1) (n := n + 1) (by decide) aS.2.1 (by omega), moved_ok rs (x := 2) (n := n + 1) (by decide) aS.2.2.1 (by omega), moved_ok rs (x := 3) (n := n + 1) (by decide) aS.2.2.2 (by omega)]
   simp only [Option.bind_some]
   apply okP.bind
   refine okP.mono (push_m h hH m1 m2 m3 m4) ?_
   rintro ⟨v, p⟩ ⟨v1, v2⟩
   simp only at v1 v2 ⊢
   rw [if_pos (show v = _ by rw [i_eq, v2, mvd_sum rs.1, nn])]
   refine j494 ⟨R, S, H ++ [(m1, m2, m3, m4)], v1, n1, aR, aS, ?_, Or.inr ⟨H, rfl⟩, by rw [hH1, a5]; omega⟩ t0 (by omega)
   rw [prod_snoc, hp]
   rfl
  ·apply okP.bind
   refine okP.mono (clear_m h) (fun p hp' => ?_)
   exact j494 ⟨R, S, [], hp', rfl, aR, aS, rfl, Or.inl rfl, by show (0 : Int) ≤ _; omega⟩ t0 (by omega)
theorem law_ok (s : List Int32) (hs : s.length ≤ 260) : ∃ τ, F0 s = some (1, τ) ∧ τ.length - List.length ([Sum.inr (Sum.inl (FieldType.int, s))] : QHeap) ≤ room_1.cells ∧ qhs τ - qhs [Sum.inr (Sum.inl (FieldType.int, s))] ≤ room_1.slots := by
 have hl := len_i (n := s.length) (by omega)
 have main : ∀ w : Int32, okP (J0_12 s w) (fun e => e.1 = 1 ∧ sFit s e.2) := by
  intro w
  unfold J0_12
  obtain ⟨C, hC⟩ : ∃ C, C = (if (4 : Int32) < (if w < (1 : Int32) then (1 : Int32) else w) then (4 : Int32) else (if w < (1 : Int32) then (1 : Int32) else w)) := ⟨_, rfl⟩
  have c4 : C.toInt ≤ 4 := by
   rw [hC]
   by_cases c : (4 : Int32) < (if w < 1 then 1 else w)
   ·rw [if_pos c]; decide
   ·rw [if_neg c]; rw [i_lt, z4'] at c; omega
  rw [← hC]
  apply okP.bind
  refine okP.mono (init_m hC) (fun o ho => ?_)
  have A0 : ∀ L : List Int32, A4 L 0 1 1 1 1 := fun L => ⟨fun q => absurd q (by decide), fun q => absurd q (by decide), fun q => absurd q (by decide), fun q => absurd q (by decide)⟩
  have I0 : Acc C 0 0 1 1 1 1 1 1 1 1 1 0 0 1 1 0 0 1 1 o := ⟨_, _, [], ho, rfl, A0 _, A0 _, rfl, Or.inl rfl, by show (0 : Int) ≤ 1; decide⟩
  apply okP.bind
  refine okP.mono (P := fun e => e.1 = 1 ∧ sFit s e.2) ?_ (fun e he => okP.some he)
  refine okP.loop (fun v : QI => 0 ≤ v.2.2.2.2.2.2.2.2.2.2.2.2.2.2.2.2.2.2.1.toInt ∧ v.2.2.2.2.2.2.2.2.2.2.2.2.2.2.2.2.2.2.1.toInt ≤ 265 ∧ Inv C v) (fun v => (300 - v.2.2.2.2.2.2.2.2.2.2.2.2.2.2.2.2.2.2.1.toInt).toNat) ⟨by show (0 : Int) ≤ 1; decide, by show (1 : Int) ≤ 265; decide, I0⟩ (by show (300 - (1 : Int)).toNat < 4000; decide) ?_
  rintro ⟨q, n, r0, r1, r2, r3, s0, s1, s2, s3, p0, p1, p2, p3, l0, l1, l2, l3, t, o⟩ ⟨h1, h2, h3⟩
  exact turn hs c4 h3 h1 h2
 have : okP (F0 s) (fun e => e.1 = 1 ∧ sFit s e.2) := by
  unfold F0
  refine okP.ite (fun q => ?_) (fun _ => main 4)
  rw [i_lt, hl] at q
  have z0 : (0 : Int32).toInt = 0 := rfl
  apply okP.bind
  refine okP.aget (by decide) (by omega) (fun y _ => main y)
 obtain ⟨⟨r, τ⟩, q1, q2, q3⟩ := this
 simp only at q2
 subst q2
 exact ⟨τ, q1, q3⟩
set_option maxRecDepth 65536 in
theorem comes_1 {Post : Tables → Env → Array Value → State → Outcome → State → Prop} (hpost : ∀ tb e args s v u, (limb_1_1.after args s (.returned v) u = true ∧ limb_1_2.after args s (.returned v) u = true ∧ True) → FrameEnd s (.returned v) u (Jvm.fieldLocs frame_1_writes args s ++ Jvm.arrayLocs frame_1_arrays args s ++ Jvm.staticLocs frame_1_statics s) 32 2304 → Post tb e args s (.returned v) u) :
    ArmFor flags0 classFile x code maxLocals ret World_1 tables_1 room_1 Calls_1 rest_1 Pre_1 Post := by
  intro l hfl _ _ p e ha hc hk s m args below hf hA hF happ hP
  obtain ⟨hcalls, hrest, hpre⟩ := hP
  obtain ⟨-, -, -, hnamed, -, -, -, hat⟩ := (Spec.applies_iff hf).mp happ
  obtain ⟨hg, hn⟩ := and_e (Cond.before_iff.mp (show (Jvm.Cond.and given_1 narrow_1).before args s = true from hpre))
  obtain ⟨g0, g1⟩ := and_e hg
  obtain ⟨w0, rfl⟩ : ∃ w0 : Value, args = #[w0] := by
    have hs : args.size = 1 := by simpa [Cond.value, given_1] using g0
    obtain ⟨L⟩ := args
    match L, hs with
    | [w0], _ => exact ⟨w0, rfl⟩
  have hw := fun d (hd : d ∈ tables_1) => atoms_spec (ws := Jvm.Cond.code x code maxLocals ret :: tables_1) hat d (List.mem_cons_of_mem _ hd)
  have hfit : Fit s := fun {y c} hc i hi => by
    obtain ⟨ha, rfl⟩ := Array.getElem?_eq_some_iff.mp hc
    have q := List.all_eq_true.mp ((Array.all_eq_true_iff_forall_mem.mp hF) _ (Array.getElem_mem ha)) i (List.mem_range.mpr hi)
    simpa [Array.getElem?_eq_getElem hi] using q
  obtain ⟨n1, n2⟩ := and_e hn
  obtain ⟨a, cl, xs, rfl, hA1, hA2, hlen⟩ := script_ok hfit n1 n2
  obtain ⟨τ, hF0, hc1, hs1⟩ := law_ok xs hlen
  have hlt := hA1.lt
  have Ad : QAd s.heap.size (fun k => match k with | 0 => a | k + 1 => s.heap.size + k) := ⟨fun k hk => by cases k with | zero => exact absurd hk (by decide) | succ k => rfl, fun i j h => by
    cases i with
    | zero => cases j with
      | zero => rfl
      | succ j => have h' : a = s.heap.size + j := h; exact absurd hA1.lt (by rw [h']; exact Nat.not_lt.mpr (Nat.le_add_right _ _))
    | succ i => cases j with
      | zero => have h' : s.heap.size + i = a := h; exact absurd hA1.lt (by rw [← h']; exact Nat.not_lt.mpr (Nat.le_add_right _ _))
      | succ j => have h' : s.heap.size + i = s.heap.size + j := h; omega⟩
  have hR : QRep s s.heap.size (fun k => match k with | 0 => a | k + 1 => s.heap.size + k) s.heap [.inr (.inl (.int, xs))] := ⟨Nat.le_refl _, rfl, fun k c h => by
    cases k with
    | zero => cases h; exact ⟨cl, hA1, hA2⟩
    | succ k => cases h⟩
  have T := tF0 (l := l) (Z := s) Ad (QW_ok hw) xs hF0
  have M := QTri.met (k := 0) (as := [.ref 0]) (by decide) T hR (Nat.le_of_ble_eq_true rfl) (fun q => by cases q) tables_1 (rm := room_1) (by decide) (by decide) hc1 hs1
  obtain ⟨n, o, h1, h2, h3, _, L, rfl, ⟨rfl, R', N⟩, hq⟩ := M p e ha hc hk s m _ below hf ((Spec.applies_iff_loose hf).mp happ).1 ⟨rfl, State.Warmed39.refl s, rfl⟩ trivial
  refine ⟨n, _, h1, h2, h3, hpost _ _ _ _ _ _ ⟨Cond.after_iff.mpr rfl, Cond.after_iff.mpr (eq_i res_at (Term.int_eval (1)) rfl), trivial⟩ ⟨hq.1, hq.2.1, (hq.2.2.sift fun y hy => Or.inr (N y hy)).mono hc1 hs1⟩⟩
theorem main_1_1 : Claimed_1_1 := comes_1 fun _ _ _ _ _ _ h hF => ⟨h.1, hF⟩
theorem main_1_2 : Claimed_1_2 := comes_1 fun _ _ _ _ _ _ h hF => ⟨h.2.1, hF⟩
end Jvm.Pilot.@@N@@
namespace Jvm.Pilot.@@N@@
open Jvm Jvm.ClassFile Sem Op Lib Jvm.Free Jvm.Stand Jvm.Pilot.@@N@@.Jvm.D
/-! MADE BY PROGRAM (witnessworld.py) out of the Statement's table words and the real class files: 9 classes; the members and pool entries that the words name. The judged class is class 1, her method 1. -/
namespace start1
open Jvm.ClassFile
def u (s : String) : CpInfo := .utf8 (stringToUtf16 s)
/-- a pool by its gaps: so many unusable entries, then the entry; so many at the end -/
def gap : Nat → List CpInfo → List CpInfo
  | 0, r => r
  | n + 1, r => .unusable :: gap n r
def poolList (es : List (Nat × CpInfo)) (last : Nat) : List CpInfo := es.foldr (fun e r => gap e.1 (e.2 :: r)) (gap last [])
def pool (es : List (Nat × CpInfo)) (last : Nat) : Array CpInfo := ⟨poolList es last⟩
def fileOf (pool : Array CpInfo) (this : Nat) (attrs : Array Attribute := #[]) (ms : Array MethodInfo := #[]) (fl : Nat := 33) (sup : Nat := 0) (ifs : Array Nat := #[]) (fds : Array FieldInfo := #[]) : ClassFile where
  minorVersion := 0
  majorVersion := 65
  constantPool := pool
  accessFlags := fl
  thisClass := this
  superClass := sup
  interfaces := ifs
  fields := fds
  methods := ms
  attributes := attrs
def plain (name : String) (sup : Option ClassId) : Class where
  name := name
  kind := .ordinary
  loader := none
  accessFlags := 33
  super := sup
  interfaces := #[]
  cf := none
  fields := #[]
  methods := #[]
  instanceTypes := #[]
  staticTypes := #[]
  resolved := #[]
  callSites := []
  init := .initialized
  statics := none
  mirror := none

def pool0 : Array CpInfo := pool [(5, u "<init>"), (0, u "()V"), (1, .class_ 10), (1, u "java/lang/Object")] 113

def k0c0 : Code := { maxStack := 0, maxLocals := 1, code := object_method_1_code, exceptionTable := #[], attributes := #[] }
def k0m0 : Method := { name := "<init>", desc := "()V", sig := { parameters := [], returnType := none }, accessFlags := 1, code := some k0c0 }
/-- java/lang/Object -/
def k0 : Class := { plain "java/lang/Object" none with
  accessFlags := 33
  interfaces := #[]
  cf := some (fileOf pool0 8 #[] #[{ accessFlags := 1, nameIndex := 5, descriptorIndex := 6, attributes := #[] }] 33 0 #[] #[])
  fields := #[]
  methods := #[k0m0]
  instanceTypes := #[]
  staticTypes := #[]
  resolved := Array.replicate 124 none
  statics := none }

def pool1 : Array CpInfo := pool [(2, .class_ 4), (1, u "java/lang/Object"), (0, u "<init>"), (0, u "()V"), (0, .class_ 8), (0, u "SliceAggregate"), (0, .methodref 7 10), (0, .nameAndType 5 11), (0, u "(I)V"), (0, .integer 2147483647), (0, .methodref 7 14), (0, .nameAndType 15 16), (0, u "addQuery"), (0, u "(II)I"), (0, .methodref 18 19), (0, .class_ 20), (0, .nameAndType 21 22), (0, u "SliceAggregateL6"), (0, u "moved"), (0, u "(IIII)I"), (0, .methodref 7 24), (0, .nameAndType 25 22), (0, u "push"), (0, .methodref 7 27), (0, .nameAndType 28 6), (0, u "clearStream"), (0, .methodref 7 30), (0, .nameAndType 31 32), (0, u "tupleCount"), (0, u "()I"), (0, .methodref 7 34), (0, .nameAndType 35 32), (0, u "queryCount"), (0, .methodref 18 37), (0, .nameAndType 38 39), (0, u "query"), (0, u "(LSliceAggregate;IIIIIIIIIIIII)Z"), (0, .methodref 7 41), (0, .nameAndType 42 43), (0, u "queryRange"), (0, u "(I)I"), (0, .methodref 7 45), (0, .nameAndType 46 43), (0, u "querySlide"), (0, .methodref 7 48), (0, .nameAndType 49 43), (0, u "windowStart"), (0, .methodref 7 51), (0, .nameAndType 52 43), (0, u "windowEnd"), (0, .methodref 7 54), (0, .nameAndType 55 43), (0, u "evaluations"), (0, .methodref 7 57), (0, .nameAndType 58 16), (0, u "result"), (0, .methodref 7 60), (0, .nameAndType 61 16), (0, u "liveResult"), (0, .methodref 18 63), (0, .nameAndType 64 65), (0, u "fold"), (0, u "(LSliceAggregate;IZIIII)Z"), (2, u "law"), (0, u "([I)Z")] 5

def k1m0 : Method := { name := "<init>", desc := "()V", sig := { parameters := [], returnType := none }, accessFlags := 1, code := none }
def k1c1 : Code := { maxStack := 14, maxLocals := 32, code := code, exceptionTable := #[], attributes := #[] }
def k1m1 : Method := { name := "law", desc := "([I)Z", sig := { parameters := [(.array .int)], returnType := some .boolean }, accessFlags := 9, code := some k1c1 }
def k1c2 : Code := { maxStack := 2, maxLocals := 4, code := method_3_code, exceptionTable := #[], attributes := #[] }
def k1m2 : Method := { name := "moved", desc := "(IIII)I", sig := { parameters := [.int, .int, .int, .int], returnType := some .int }, accessFlags := 10, code := some k1c2 }
def k1c3 : Code := { maxStack := 7, maxLocals := 17, code := method_4_code, exceptionTable := #[], attributes := #[] }
def k1m3 : Method := { name := "query", desc := "(LSliceAggregate;IIIIIIIIIIIII)Z", sig := { parameters := [(.object "SliceAggregate"), .int, .int, .int, .int, .int, .int, .int, .int, .int, .int, .int, .int, .int], returnType := some .boolean }, accessFlags := 10, code := some k1c3 }
def k1c4 : Code := { maxStack := 3, maxLocals := 7, code := method_5_code, exceptionTable := #[], attributes := #[] }
def k1m4 : Method := { name := "fold", desc := "(LSliceAggregate;IZIIII)Z", sig := { parameters := [(.object "SliceAggregate"), .int, .boolean, .int, .int, .int, .int], returnType := some .boolean }, accessFlags := 10, code := some k1c4 }
/-- SliceAggregateL6 -/
def k1 : Class := { plain "SliceAggregateL6" (some 0) with
  accessFlags := 33
  interfaces := #[]
  cf := some (fileOf pool1 18 #[] #[{ accessFlags := 1, nameIndex := 5, descriptorIndex := 6, attributes := #[] }, { accessFlags := 9, nameIndex := 68, descriptorIndex := 69, attributes := #[] }, { accessFlags := 10, nameIndex := 21, descriptorIndex := 22, attributes := #[] }, { accessFlags := 10, nameIndex := 38, descriptorIndex := 39, attributes := #[] }, { accessFlags := 10, nameIndex := 64, descriptorIndex := 65, attributes := #[] }] 33 2 #[] #[])
  fields := #[]
  methods := #[k1m0, k1m1, k1m2, k1m3, k1m4]
  instanceTypes := #[]
  staticTypes := #[]
  resolved := Array.replicate 75 none
  statics := none }

def pool2 : Array CpInfo := pool [(1, .methodref 2 3), (0, .class_ 4), (0, .nameAndType 5 6), (0, u "java/lang/Object"), (0, u "<init>"), (0, u "()V"), (0, .fieldref 8 9), (0, .class_ 10), (0, .nameAndType 11 12), (0, u "SliceAggregate"), (0, u "regTuple"), (0, u "I"), (0, .fieldref 8 14), (0, .nameAndType 15 12), (0, u "regA"), (0, .fieldref 8 17), (0, .nameAndType 18 12), (0, u "regB"), (0, .fieldref 8 20), (0, .nameAndType 21 12), (0, u "regC"), (0, .fieldref 8 23), (0, .nameAndType 24 12), (0, u "regCount"), (0, .fieldref 8 26), (0, .nameAndType 27 12), (0, u "slots"), (0, .fieldref 8 29), (0, .nameAndType 30 31), (0, u "range"), (0, u "[I"), (0, .fieldref 8 33), (0, .nameAndType 34 31), (0, u "slide"), (0, .fieldref 8 36), (0, .nameAndType 37 31), (0, u "frontSize"), (0, .fieldref 8 39), (0, .nameAndType 40 31), (0, u "backSize"), (0, .fieldref 8 42), (0, .nameAndType 43 31), (0, u "backElem"), (0, .fieldref 8 45), (0, .nameAndType 46 31), (0, u "frontAgg"), (0, .fieldref 8 48), (0, .nameAndType 49 31), (0, u "backAgg"), (0, .fieldref 8 51), (0, .nameAndType 52 31), (0, u "snap"), (0, .fieldref 8 54), (0, .nameAndType 55 31), (0, u "reg"), (0, .fieldref 8 57), (0, .nameAndType 58 12), (0, u "capacity"), (0, .fieldref 8 60), (0, .nameAndType 61 12), (0, u "queries"), (0, .fieldref 8 63), (0, .nameAndType 64 12), (0, u "n"), (0, .methodref 8 66), (0, .nameAndType 67 68), (0, u "resetQuery"), (0, u "(I)V"), (0, .methodref 8 70), (0, .nameAndType 71 72), (0, u "regSet"), (0, u "(IIIII)V"), (0, .methodref 8 74), (0, .nameAndType 75 68), (0, u "appendToQuery"), (0, .methodref 8 77), (0, .nameAndType 78 68), (0, u "takeSnapshot"), (0, .methodref 8 80), (0, .nameAndType 81 82), (0, u "validQuery"), (0, u "(I)Z"), (0, .methodref 8 84), (0, .nameAndType 85 82), (0, u "validEntry"), (0, .methodref 8 87), (0, .nameAndType 88 89), (0, u "liveFold"), (0, u "(II)V"), (0, .methodref 8 91), (0, .nameAndType 92 93), (0, u "regEntry"), (0, u "(II)I"), (0, .methodref 8 95), (0, .nameAndType 96 97), (0, u "endOf"), (0, u "(I)I"), (0, .methodref 8 99), (0, .nameAndType 100 68), (0, u "regIdentity"), (0, .methodref 8 102), (0, .nameAndType 103 89), (0, u "storeBackAgg"), (0, .methodref 8 105), (0, .nameAndType 106 89), (0, u "storeSnap"), (0, .methodref 8 108), (0, .nameAndType 109 68), (0, u "evictOldest"), (0, .methodref 8 111), (0, .nameAndType 112 113), (0, u "validSlot"), (0, u "(II)Z"), (0, .methodref 8 115), (0, .nameAndType 116 117), (0, u "storeBack"), (0, u "(III)V"), (0, .methodref 8 119), (0, .nameAndType 120 89), (0, u "loadBackAgg"), (0, .methodref 8 122), (0, .nameAndType 123 117), (0, u "regMul"), (0, .methodref 8 125), (0, .nameAndType 126 68), (0, u "flip"), (0, .methodref 8 128), (0, .nameAndType 129 117), (0, u "loadBack"), (0, .methodref 8 131), (0, .nameAndType 132 117), (0, u "storeFront"), (0, .methodref 8 134), (0, .nameAndType 135 117), (0, u "loadFront"), (0, .methodref 8 137), (0, .nameAndType 138 82), (0, u "validReg"), (0, .methodref 8 140), (0, .nameAndType 141 93), (0, u "slotOffset"), (0, u "ERR"), (2, u "MIN_RANGE"), (1, u "MAX_RANGE"), (1, u "MIN_SLIDE"), (0, u "MAX_SLIDE"), (0, u "MAX_QUERIES"), (7, u "addQuery"), (0, u "push"), (0, u "(IIII)I"), (0, u "result"), (0, u "liveResult"), (0, u "windowStart"), (0, u "windowEnd"), (0, u "evaluations"), (0, u "queryRange"), (0, u "querySlide"), (0, u "queryCount"), (0, u "()I"), (0, u "tupleCount"), (0, u "clearStream")] 2

def k2c0 : Code := { maxStack := 2, maxLocals := 4, code := prog_1_method_1_code, exceptionTable := #[], attributes := #[] }
def k2m0 : Method := { name := "<init>", desc := "(I)V", sig := { parameters := [.int], returnType := none }, accessFlags := 1, code := some k2c0 }
def k2c1 : Code := { maxStack := 3, maxLocals := 4, code := prog_1_method_2_code, exceptionTable := #[], attributes := #[] }
def k2m1 : Method := { name := "addQuery", desc := "(II)I", sig := { parameters := [.int, .int], returnType := some .int }, accessFlags := 1, code := some k2c1 }
def k2c2 : Code := { maxStack := 6, maxLocals := 8, code := prog_1_method_3_code, exceptionTable := #[], attributes := #[] }
def k2m2 : Method := { name := "push", desc := "(IIII)I", sig := { parameters := [.int, .int, .int, .int], returnType := some .int }, accessFlags := 1, code := some k2c2 }
def k2c3 : Code := { maxStack := 3, maxLocals := 3, code := prog_1_method_4_code, exceptionTable := #[], attributes := #[] }
def k2m3 : Method := { name := "result", desc := "(II)I", sig := { parameters := [.int, .int], returnType := some .int }, accessFlags := 1, code := some k2c3 }
def k2c4 : Code := { maxStack := 3, maxLocals := 3, code := prog_1_method_5_code, exceptionTable := #[], attributes := #[] }
def k2m4 : Method := { name := "liveResult", desc := "(II)I", sig := { parameters := [.int, .int], returnType := some .int }, accessFlags := 1, code := some k2c4 }
def k2c5 : Code := { maxStack := 3, maxLocals := 3, code := prog_1_method_6_code, exceptionTable := #[], attributes := #[] }
def k2m5 : Method := { name := "windowStart", desc := "(I)I", sig := { parameters := [.int], returnType := some .int }, accessFlags := 1, code := some k2c5 }
def k2c6 : Code := { maxStack := 2, maxLocals := 2, code := prog_1_method_7_code, exceptionTable := #[], attributes := #[] }
def k2m6 : Method := { name := "windowEnd", desc := "(I)I", sig := { parameters := [.int], returnType := some .int }, accessFlags := 1, code := some k2c6 }
def k2c7 : Code := { maxStack := 2, maxLocals := 3, code := prog_1_method_8_code, exceptionTable := #[], attributes := #[] }
def k2m7 : Method := { name := "evaluations", desc := "(I)I", sig := { parameters := [.int], returnType := some .int }, accessFlags := 1, code := some k2c7 }
def k2c8 : Code := { maxStack := 2, maxLocals := 2, code := prog_1_method_9_code, exceptionTable := #[], attributes := #[] }
def k2m8 : Method := { name := "queryRange", desc := "(I)I", sig := { parameters := [.int], returnType := some .int }, accessFlags := 1, code := some k2c8 }
def k2c9 : Code := { maxStack := 2, maxLocals := 2, code := prog_1_method_10_code, exceptionTable := #[], attributes := #[] }
def k2m9 : Method := { name := "querySlide", desc := "(I)I", sig := { parameters := [.int], returnType := some .int }, accessFlags := 1, code := some k2c9 }
def k2c10 : Code := { maxStack := 1, maxLocals := 1, code := prog_1_method_11_code, exceptionTable := #[], attributes := #[] }
def k2m10 : Method := { name := "queryCount", desc := "()I", sig := { parameters := [], returnType := some .int }, accessFlags := 1, code := some k2c10 }
def k2c11 : Code := { maxStack := 1, maxLocals := 1, code := prog_1_method_12_code, exceptionTable := #[], attributes := #[] }
def k2m11 : Method := { name := "tupleCount", desc := "()I", sig := { parameters := [], returnType := some .int }, accessFlags := 1, code := some k2c11 }
def k2c12 : Code := { maxStack := 2, maxLocals := 2, code := prog_1_method_13_code, exceptionTable := #[], attributes := #[] }
def k2m12 : Method := { name := "clearStream", desc := "()V", sig := { parameters := [], returnType := none }, accessFlags := 1, code := some k2c12 }
def k2c13 : Code := { maxStack := 2, maxLocals := 2, code := prog_1_method_14_code, exceptionTable := #[], attributes := #[] }
def k2m13 : Method := { name := "validQuery", desc := "(I)Z", sig := { parameters := [.int], returnType := some .boolean }, accessFlags := 2, code := some k2c13 }
def k2c14 : Code := { maxStack := 2, maxLocals := 2, code := prog_1_method_15_code, exceptionTable := #[], attributes := #[] }
def k2m14 : Method := { name := "validEntry", desc := "(I)Z", sig := { parameters := [.int], returnType := some .boolean }, accessFlags := 2, code := some k2c14 }
def k2c15 : Code := { maxStack := 2, maxLocals := 2, code := prog_1_method_16_code, exceptionTable := #[], attributes := #[] }
def k2m15 : Method := { name := "validReg", desc := "(I)Z", sig := { parameters := [.int], returnType := some .boolean }, accessFlags := 2, code := some k2c15 }
def k2c16 : Code := { maxStack := 2, maxLocals := 3, code := prog_1_method_17_code, exceptionTable := #[], attributes := #[] }
def k2m16 : Method := { name := "validSlot", desc := "(II)Z", sig := { parameters := [.int, .int], returnType := some .boolean }, accessFlags := 2, code := some k2c16 }
def k2c17 : Code := { maxStack := 2, maxLocals := 3, code := prog_1_method_18_code, exceptionTable := #[], attributes := #[] }
def k2m17 : Method := { name := "slotOffset", desc := "(II)I", sig := { parameters := [.int, .int], returnType := some .int }, accessFlags := 2, code := some k2c17 }
def k2c18 : Code := { maxStack := 3, maxLocals := 3, code := prog_1_method_19_code, exceptionTable := #[], attributes := #[] }
def k2m18 : Method := { name := "endOf", desc := "(I)I", sig := { parameters := [.int], returnType := some .int }, accessFlags := 2, code := some k2c18 }
def k2c19 : Code := { maxStack := 3, maxLocals := 2, code := prog_1_method_20_code, exceptionTable := #[], attributes := #[] }
def k2m19 : Method := { name := "resetQuery", desc := "(I)V", sig := { parameters := [.int], returnType := none }, accessFlags := 2, code := some k2c19 }
def k2c20 : Code := { maxStack := 4, maxLocals := 4, code := prog_1_method_21_code, exceptionTable := #[], attributes := #[] }
def k2m20 : Method := { name := "appendToQuery", desc := "(I)V", sig := { parameters := [.int], returnType := none }, accessFlags := 2, code := some k2c20 }
def k2c21 : Code := { maxStack := 4, maxLocals := 2, code := prog_1_method_22_code, exceptionTable := #[], attributes := #[] }
def k2m21 : Method := { name := "evictOldest", desc := "(I)V", sig := { parameters := [.int], returnType := none }, accessFlags := 2, code := some k2c21 }
def k2c22 : Code := { maxStack := 5, maxLocals := 4, code := prog_1_method_23_code, exceptionTable := #[], attributes := #[] }
def k2m22 : Method := { name := "flip", desc := "(I)V", sig := { parameters := [.int], returnType := none }, accessFlags := 2, code := some k2c22 }
def k2c23 : Code := { maxStack := 5, maxLocals := 4, code := prog_1_method_24_code, exceptionTable := #[], attributes := #[] }
def k2m23 : Method := { name := "liveFold", desc := "(II)V", sig := { parameters := [.int, .int], returnType := none }, accessFlags := 2, code := some k2c23 }
def k2c24 : Code := { maxStack := 3, maxLocals := 2, code := prog_1_method_25_code, exceptionTable := #[], attributes := #[] }
def k2m24 : Method := { name := "takeSnapshot", desc := "(I)V", sig := { parameters := [.int], returnType := none }, accessFlags := 2, code := some k2c24 }
def k2c25 : Code := { maxStack := 3, maxLocals := 7, code := prog_1_method_26_code, exceptionTable := #[], attributes := #[] }
def k2m25 : Method := { name := "regSet", desc := "(IIIII)V", sig := { parameters := [.int, .int, .int, .int, .int], returnType := none }, accessFlags := 2, code := some k2c25 }
def k2c26 : Code := { maxStack := 6, maxLocals := 2, code := prog_1_method_27_code, exceptionTable := #[], attributes := #[] }
def k2m26 : Method := { name := "regIdentity", desc := "(I)V", sig := { parameters := [.int], returnType := none }, accessFlags := 2, code := some k2c26 }
def k2c27 : Code := { maxStack := 3, maxLocals := 3, code := prog_1_method_28_code, exceptionTable := #[], attributes := #[] }
def k2m27 : Method := { name := "regEntry", desc := "(II)I", sig := { parameters := [.int, .int], returnType := some .int }, accessFlags := 2, code := some k2c27 }
def k2c28 : Code := { maxStack := 5, maxLocals := 15, code := prog_1_method_29_code, exceptionTable := #[], attributes := #[] }
def k2m28 : Method := { name := "regMul", desc := "(III)V", sig := { parameters := [.int, .int, .int], returnType := none }, accessFlags := 2, code := some k2c28 }
def k2c29 : Code := { maxStack := 5, maxLocals := 7, code := prog_1_method_30_code, exceptionTable := #[], attributes := #[] }
def k2m29 : Method := { name := "loadBack", desc := "(III)V", sig := { parameters := [.int, .int, .int], returnType := none }, accessFlags := 2, code := some k2c29 }
def k2c30 : Code := { maxStack := 5, maxLocals := 7, code := prog_1_method_31_code, exceptionTable := #[], attributes := #[] }
def k2m30 : Method := { name := "storeBack", desc := "(III)V", sig := { parameters := [.int, .int, .int], returnType := none }, accessFlags := 2, code := some k2c30 }
def k2c31 : Code := { maxStack := 5, maxLocals := 7, code := prog_1_method_32_code, exceptionTable := #[], attributes := #[] }
def k2m31 : Method := { name := "loadFront", desc := "(III)V", sig := { parameters := [.int, .int, .int], returnType := none }, accessFlags := 2, code := some k2c31 }
def k2c32 : Code := { maxStack := 5, maxLocals := 7, code := prog_1_method_33_code, exceptionTable := #[], attributes := #[] }
def k2m32 : Method := { name := "storeFront", desc := "(III)V", sig := { parameters := [.int, .int, .int], returnType := none }, accessFlags := 2, code := some k2c32 }
def k2c33 : Code := { maxStack := 5, maxLocals := 5, code := prog_1_method_34_code, exceptionTable := #[], attributes := #[] }
def k2m33 : Method := { name := "loadBackAgg", desc := "(II)V", sig := { parameters := [.int, .int], returnType := none }, accessFlags := 2, code := some k2c33 }
def k2c34 : Code := { maxStack := 5, maxLocals := 5, code := prog_1_method_35_code, exceptionTable := #[], attributes := #[] }
def k2m34 : Method := { name := "storeBackAgg", desc := "(II)V", sig := { parameters := [.int, .int], returnType := none }, accessFlags := 2, code := some k2c34 }
def k2c35 : Code := { maxStack := 5, maxLocals := 5, code := prog_1_method_36_code, exceptionTable := #[], attributes := #[] }
def k2m35 : Method := { name := "storeSnap", desc := "(II)V", sig := { parameters := [.int, .int], returnType := none }, accessFlags := 2, code := some k2c35 }
/-- SliceAggregate -/
def k2 : Class := { plain "SliceAggregate" (some 0) with
  accessFlags := 49
  interfaces := #[]
  cf := some (fileOf pool2 8 #[] #[{ accessFlags := 1, nameIndex := 5, descriptorIndex := 68, attributes := #[] }, { accessFlags := 1, nameIndex := 159, descriptorIndex := 93, attributes := #[] }, { accessFlags := 1, nameIndex := 160, descriptorIndex := 161, attributes := #[] }, { accessFlags := 1, nameIndex := 162, descriptorIndex := 93, attributes := #[] }, { accessFlags := 1, nameIndex := 163, descriptorIndex := 93, attributes := #[] }, { accessFlags := 1, nameIndex := 164, descriptorIndex := 97, attributes := #[] }, { accessFlags := 1, nameIndex := 165, descriptorIndex := 97, attributes := #[] }, { accessFlags := 1, nameIndex := 166, descriptorIndex := 97, attributes := #[] }, { accessFlags := 1, nameIndex := 167, descriptorIndex := 97, attributes := #[] }, { accessFlags := 1, nameIndex := 168, descriptorIndex := 97, attributes := #[] }, { accessFlags := 1, nameIndex := 169, descriptorIndex := 170, attributes := #[] }, { accessFlags := 1, nameIndex := 171, descriptorIndex := 170, attributes := #[] }, { accessFlags := 1, nameIndex := 172, descriptorIndex := 6, attributes := #[] }, { accessFlags := 2, nameIndex := 81, descriptorIndex := 82, attributes := #[] }, { accessFlags := 2, nameIndex := 85, descriptorIndex := 82, attributes := #[] }, { accessFlags := 2, nameIndex := 138, descriptorIndex := 82, attributes := #[] }, { accessFlags := 2, nameIndex := 112, descriptorIndex := 113, attributes := #[] }, { accessFlags := 2, nameIndex := 141, descriptorIndex := 93, attributes := #[] }, { accessFlags := 2, nameIndex := 96, descriptorIndex := 97, attributes := #[] }, { accessFlags := 2, nameIndex := 67, descriptorIndex := 68, attributes := #[] }, { accessFlags := 2, nameIndex := 75, descriptorIndex := 68, attributes := #[] }, { accessFlags := 2, nameIndex := 109, descriptorIndex := 68, attributes := #[] }, { accessFlags := 2, nameIndex := 126, descriptorIndex := 68, attributes := #[] }, { accessFlags := 2, nameIndex := 88, descriptorIndex := 89, attributes := #[] }, { accessFlags := 2, nameIndex := 78, descriptorIndex := 68, attributes := #[] }, { accessFlags := 2, nameIndex := 71, descriptorIndex := 72, attributes := #[] }, { accessFlags := 2, nameIndex := 100, descriptorIndex := 68, attributes := #[] }, { accessFlags := 2, nameIndex := 92, descriptorIndex := 93, attributes := #[] }, { accessFlags := 2, nameIndex := 123, descriptorIndex := 117, attributes := #[] }, { accessFlags := 2, nameIndex := 129, descriptorIndex := 117, attributes := #[] }, { accessFlags := 2, nameIndex := 116, descriptorIndex := 117, attributes := #[] }, { accessFlags := 2, nameIndex := 135, descriptorIndex := 117, attributes := #[] }, { accessFlags := 2, nameIndex := 132, descriptorIndex := 117, attributes := #[] }, { accessFlags := 2, nameIndex := 120, descriptorIndex := 89, attributes := #[] }, { accessFlags := 2, nameIndex := 103, descriptorIndex := 89, attributes := #[] }, { accessFlags := 2, nameIndex := 106, descriptorIndex := 89, attributes := #[] }] 49 2 #[] #[{ accessFlags := 25, nameIndex := 142, descriptorIndex := 12, attributes := #[] }, { accessFlags := 25, nameIndex := 145, descriptorIndex := 12, attributes := #[] }, { accessFlags := 25, nameIndex := 147, descriptorIndex := 12, attributes := #[] }, { accessFlags := 25, nameIndex := 149, descriptorIndex := 12, attributes := #[] }, { accessFlags := 25, nameIndex := 150, descriptorIndex := 12, attributes := #[] }, { accessFlags := 25, nameIndex := 151, descriptorIndex := 12, attributes := #[] }, { accessFlags := 18, nameIndex := 11, descriptorIndex := 12, attributes := #[] }, { accessFlags := 18, nameIndex := 15, descriptorIndex := 12, attributes := #[] }, { accessFlags := 18, nameIndex := 18, descriptorIndex := 12, attributes := #[] }, { accessFlags := 18, nameIndex := 21, descriptorIndex := 12, attributes := #[] }, { accessFlags := 18, nameIndex := 24, descriptorIndex := 12, attributes := #[] }, { accessFlags := 18, nameIndex := 27, descriptorIndex := 12, attributes := #[] }, { accessFlags := 2, nameIndex := 58, descriptorIndex := 12, attributes := #[] }, { accessFlags := 2, nameIndex := 61, descriptorIndex := 12, attributes := #[] }, { accessFlags := 2, nameIndex := 64, descriptorIndex := 12, attributes := #[] }, { accessFlags := 18, nameIndex := 30, descriptorIndex := 31, attributes := #[] }, { accessFlags := 18, nameIndex := 34, descriptorIndex := 31, attributes := #[] }, { accessFlags := 18, nameIndex := 37, descriptorIndex := 31, attributes := #[] }, { accessFlags := 18, nameIndex := 40, descriptorIndex := 31, attributes := #[] }, { accessFlags := 18, nameIndex := 43, descriptorIndex := 31, attributes := #[] }, { accessFlags := 18, nameIndex := 46, descriptorIndex := 31, attributes := #[] }, { accessFlags := 18, nameIndex := 49, descriptorIndex := 31, attributes := #[] }, { accessFlags := 18, nameIndex := 52, descriptorIndex := 31, attributes := #[] }, { accessFlags := 18, nameIndex := 55, descriptorIndex := 31, attributes := #[] }])
  fields := #[{ name := "ERR", type := .int, accessFlags := 25, slot := 0, constantValue := 0 }, { name := "MIN_RANGE", type := .int, accessFlags := 25, slot := 1, constantValue := 0 }, { name := "MAX_RANGE", type := .int, accessFlags := 25, slot := 2, constantValue := 0 }, { name := "MIN_SLIDE", type := .int, accessFlags := 25, slot := 3, constantValue := 0 }, { name := "MAX_SLIDE", type := .int, accessFlags := 25, slot := 4, constantValue := 0 }, { name := "MAX_QUERIES", type := .int, accessFlags := 25, slot := 5, constantValue := 0 }, { name := "regTuple", type := .int, accessFlags := 18, slot := 0, constantValue := 0 }, { name := "regA", type := .int, accessFlags := 18, slot := 1, constantValue := 0 }, { name := "regB", type := .int, accessFlags := 18, slot := 2, constantValue := 0 }, { name := "regC", type := .int, accessFlags := 18, slot := 3, constantValue := 0 }, { name := "regCount", type := .int, accessFlags := 18, slot := 4, constantValue := 0 }, { name := "slots", type := .int, accessFlags := 18, slot := 5, constantValue := 0 }, { name := "capacity", type := .int, accessFlags := 2, slot := 6, constantValue := 0 }, { name := "queries", type := .int, accessFlags := 2, slot := 7, constantValue := 0 }, { name := "n", type := .int, accessFlags := 2, slot := 8, constantValue := 0 }, { name := "range", type := (.array .int), accessFlags := 18, slot := 9, constantValue := 0 }, { name := "slide", type := (.array .int), accessFlags := 18, slot := 10, constantValue := 0 }, { name := "frontSize", type := (.array .int), accessFlags := 18, slot := 11, constantValue := 0 }, { name := "backSize", type := (.array .int), accessFlags := 18, slot := 12, constantValue := 0 }, { name := "backElem", type := (.array .int), accessFlags := 18, slot := 13, constantValue := 0 }, { name := "frontAgg", type := (.array .int), accessFlags := 18, slot := 14, constantValue := 0 }, { name := "backAgg", type := (.array .int), accessFlags := 18, slot := 15, constantValue := 0 }, { name := "snap", type := (.array .int), accessFlags := 18, slot := 16, constantValue := 0 }, { name := "reg", type := (.array .int), accessFlags := 18, slot := 17, constantValue := 0 }]
  methods := #[k2m0, k2m1, k2m2, k2m3, k2m4, k2m5, k2m6, k2m7, k2m8, k2m9, k2m10, k2m11, k2m12, k2m13, k2m14, k2m15, k2m16, k2m17, k2m18, k2m19, k2m20, k2m21, k2m22, k2m23, k2m24, k2m25, k2m26, k2m27, k2m28, k2m29, k2m30, k2m31, k2m32, k2m33, k2m34, k2m35]
  instanceTypes := #[.int, .int, .int, .int, .int, .int, .int, .int, .int, (.array .int), (.array .int), (.array .int), (.array .int), (.array .int), (.array .int), (.array .int), (.array .int), (.array .int)]
  staticTypes := #[.int, .int, .int, .int, .int, .int]
  resolved := Array.replicate 175 none
  statics := none }

def pool3 : Array CpInfo := pool [(1, u "java/lang/Cloneable"), (0, .class_ 1), (0, u "java/lang/Object"), (0, .class_ 3)] 3

/-- java/lang/Cloneable -/
def k3 : Class := { plain "java/lang/Cloneable" (some 0) with
  accessFlags := 1537
  interfaces := #[]
  cf := some (fileOf pool3 2 #[] #[] 1537 4 #[] #[])
  fields := #[]
  methods := #[]
  instanceTypes := #[]
  staticTypes := #[]
  resolved := Array.replicate 8 none
  statics := none }

def pool4 : Array CpInfo := pool [(1, u "java/io/Serializable"), (0, .class_ 1), (0, u "java/lang/Object"), (0, .class_ 3)] 3

/-- java/io/Serializable -/
def k4 : Class := { plain "java/io/Serializable" (some 0) with
  accessFlags := 1537
  interfaces := #[]
  cf := some (fileOf pool4 2 #[] #[] 1537 4 #[] #[])
  fields := #[]
  methods := #[]
  instanceTypes := #[]
  staticTypes := #[]
  resolved := Array.replicate 8 none
  statics := none }

/-- the primitive byte -/
def k5 : Class := { plain "byte" none with kind := .primitive 'B', accessFlags := 0x411 }
/-- [B -/
def k6 : Class := { plain "[B" (some 0) with kind := .array 5 .byte, interfaces := #[3, 4], accessFlags := 1041 }

/-- the primitive int -/
def k7 : Class := { plain "int" none with kind := .primitive 'I', accessFlags := 0x411 }
/-- [I -/
def k8 : Class := { plain "[I" (some 0) with kind := .array 7 .int, interfaces := #[3, 4], accessFlags := 1041 }

def heap : Heap := #[{ cls := 8, slots := #[.int 1, .int 2, .int 3], vm := .none }]
def classes : Array Class := #[k0, k1, k2, k3, k4, k5, k6, k7, k8]
def interned : List (Array UInt16 × Addr) := []
def slotsUsed : Nat := 3
def theMethod : MethodId := ⟨1, 1⟩
def args0 : Array Value := #[.ref 0]
def aboutOver (below : List Frame) : State where
  vm := { classes := classes, interned := interned.toArray }
  heap := heap
  slotsUsed := slotsUsed
  threads := #[{ frames := .invoking theMethod args0 :: below }]
def below0 : List Frame := [.native { method := ⟨0, 0⟩, args := #[] }]
def about1 : State := aboutOver below0
def p0 : Program := .bare "" "" ""
def e0 : Env := launch0.env 0 0 0
theorem w_frames : about1.frames = Frame.invoking theMethod args0 :: below0 := rfl
set_option maxRecDepth 65536 in
theorem w_args : argsFit about1.vm theMethod args0 = true := by decide +kernel
set_option maxRecDepth 65536 in
theorem w_heap : heapFits about1 = true := by decide +kernel
set_option maxRecDepth 65536 in
theorem w_runnable : about1.curStatus? = some .runnable := by decide +kernel
set_option maxRecDepth 65536 in
theorem w_alone : about1.alone = true := by decide +kernel
set_option maxRecDepth 65536 in
theorem w_named : about1.methodNamed? x = some theMethod := by decide +kernel
set_option maxRecDepth 65536 in
theorem w_hears : about1.hears theMethod below0 = true := by decide +kernel
set_option maxRecDepth 65536 in
theorem w_ripe : about1.ripe theMethod args0 below0 = true := by decide +kernel
theorem w_running : about1.status = .running := rfl
set_option maxRecDepth 65536 in
theorem w_room : about1.hasRoom e0.platform room_1 = true :=
  launch0.hasRoom_least _ room_1 (by decide +kernel) (by decide +kernel) (by decide +kernel) (by decide +kernel) (by decide +kernel) (by decide +kernel)
theorem allAtoms_all (ts : List Jvm.Cond) (a : Array Jvm.Value) (st : Jvm.State) : (allAtoms ts).before a st = ts.all (fun c => c.before a st) := by
  induction ts with
  | nil => rfl
  | cons c t ih =>
    show (Jvm.Cond.and c (allAtoms t)).before a st = _
    rw [Jvm.Cond.before_and, ih, List.all_cons]
def words1 : List Jvm.Cond := Jvm.Cond.code x code maxLocals ret :: tables_1
/-- a 'code' word, met by the world's own term for the bytes: nothing is compared byte by byte -/
theorem code_word {y : MethodName} {bytes : ByteArray} {mx : Nat} {rt : Option FieldType} {a : Array Value} {s : State} {m : MethodId} {meth : Method} {c : Code} (h1 : s.methodNamed? y = some m) (h2 : s.vm.method? m = some meth) (h3 : meth.code = some c) (h4 : c.code = bytes)
    (h5 : (c.maxLocals == mx && c.exceptionTable.isEmpty && decide (c.maxStack ≤ mostOperands) && decide (meth.sig.returnType = rt) && !meth.locks && decide (parseMethodDescriptor y.desc = some meth.sig)) = true) : (Jvm.Cond.code y bytes mx rt).before a s = true := by
  simp only [Bool.and_eq_true, beq_iff_eq, Bool.not_eq_true', decide_eq_true_eq] at h5
  obtain ⟨⟨⟨⟨⟨g1, g2⟩, g3⟩, g4⟩, g5⟩, g6⟩ := h5
  simp [Cond.before, Cond.holds, Cond.value, h1, h2, h3, h4, g1, g2, g3, g4, g5, g6]
def isCode : Jvm.Cond → Bool
  | .code _ _ _ _ => true
  | _ => false
theorem all_split {L : List Jvm.Cond} {P : Jvm.Cond → Bool} (h1 : L.all (fun c => isCode c || P c) = true) (h2 : ∀ c ∈ L.filter isCode, P c = true) : L.all P = true := by
  refine List.all_eq_true.mpr fun c hc => ?_
  have h := List.all_eq_true.mp h1 c hc
  rcases Bool.eq_false_or_eq_true (isCode c) with hi | hi
  · exact h2 c (List.mem_filter.mpr ⟨hc, hi⟩)
  · simpa [hi] using h
set_option maxRecDepth 65536 in
theorem w_c0 : (Jvm.Cond.code x code maxLocals ret).before args0 about1 = true := code_word (m := ⟨1, 1⟩) (meth := k1m1) (c := k1c1) (by decide +kernel) rfl rfl rfl (by decide +kernel)
set_option maxRecDepth 65536 in
theorem w_c1 : (Jvm.Cond.code ({ cls := "SliceAggregate", name := "<init>", desc := "(I)V" } : Jvm.MethodName) prog_1_method_1_code (4 : Nat) (Option.none : Option Jvm.ClassFile.FieldType)).before args0 about1 = true := code_word (m := ⟨2, 0⟩) (meth := k2m0) (c := k2c0) (by decide +kernel) rfl rfl rfl (by decide +kernel)
set_option maxRecDepth 65536 in
theorem w_c2 : (Jvm.Cond.code ({ cls := "java/lang/Object", name := "<init>", desc := "()V" } : Jvm.MethodName) object_method_1_code (1 : Nat) (Option.none : Option Jvm.ClassFile.FieldType)).before args0 about1 = true := code_word (m := ⟨0, 0⟩) (meth := k0m0) (c := k0c0) (by decide +kernel) rfl rfl rfl (by decide +kernel)
set_option maxRecDepth 65536 in
theorem w_c3 : (Jvm.Cond.code ({ cls := "SliceAggregate", name := "resetQuery", desc := "(I)V" } : Jvm.MethodName) prog_1_method_20_code (2 : Nat) (Option.none : Option Jvm.ClassFile.FieldType)).before args0 about1 = true := code_word (m := ⟨2, 19⟩) (meth := k2m19) (c := k2c19) (by decide +kernel) rfl rfl rfl (by decide +kernel)
set_option maxRecDepth 65536 in
theorem w_c4 : (Jvm.Cond.code ({ cls := "SliceAggregate", name := "regIdentity", desc := "(I)V" } : Jvm.MethodName) prog_1_method_27_code (2 : Nat) (Option.none : Option Jvm.ClassFile.FieldType)).before args0 about1 = true := code_word (m := ⟨2, 26⟩) (meth := k2m26) (c := k2c26) (by decide +kernel) rfl rfl rfl (by decide +kernel)
set_option maxRecDepth 65536 in
theorem w_c5 : (Jvm.Cond.code ({ cls := "SliceAggregate", name := "regSet", desc := "(IIIII)V" } : Jvm.MethodName) prog_1_method_26_code (7 : Nat) (Option.none : Option Jvm.ClassFile.FieldType)).before args0 about1 = true := code_word (m := ⟨2, 25⟩) (meth := k2m25) (c := k2c25) (by decide +kernel) rfl rfl rfl (by decide +kernel)
set_option maxRecDepth 65536 in
theorem w_c6 : (Jvm.Cond.code ({ cls := "SliceAggregate", name := "validReg", desc := "(I)Z" } : Jvm.MethodName) prog_1_method_16_code (2 : Nat) (Option.some Jvm.ClassFile.FieldType.boolean)).before args0 about1 = true := code_word (m := ⟨2, 15⟩) (meth := k2m15) (c := k2c15) (by decide +kernel) rfl rfl rfl (by decide +kernel)
set_option maxRecDepth 65536 in
theorem w_c7 : (Jvm.Cond.code ({ cls := "SliceAggregate", name := "storeBackAgg", desc := "(II)V" } : Jvm.MethodName) prog_1_method_35_code (5 : Nat) (Option.none : Option Jvm.ClassFile.FieldType)).before args0 about1 = true := code_word (m := ⟨2, 34⟩) (meth := k2m34) (c := k2c34) (by decide +kernel) rfl rfl rfl (by decide +kernel)
set_option maxRecDepth 65536 in
theorem w_c8 : (Jvm.Cond.code ({ cls := "SliceAggregate", name := "storeSnap", desc := "(II)V" } : Jvm.MethodName) prog_1_method_36_code (5 : Nat) (Option.none : Option Jvm.ClassFile.FieldType)).before args0 about1 = true := code_word (m := ⟨2, 35⟩) (meth := k2m35) (c := k2c35) (by decide +kernel) rfl rfl rfl (by decide +kernel)
set_option maxRecDepth 65536 in
theorem w_c9 : (Jvm.Cond.code ({ cls := "SliceAggregateL6", name := "moved", desc := "(IIII)I" } : Jvm.MethodName) method_3_code (4 : Nat) (Option.some Jvm.ClassFile.FieldType.int)).before args0 about1 = true := code_word (m := ⟨1, 2⟩) (meth := k1m2) (c := k1c2) (by decide +kernel) rfl rfl rfl (by decide +kernel)
set_option maxRecDepth 65536 in
theorem w_c10 : (Jvm.Cond.code ({ cls := "SliceAggregate", name := "push", desc := "(IIII)I" } : Jvm.MethodName) prog_1_method_3_code (8 : Nat) (Option.some Jvm.ClassFile.FieldType.int)).before args0 about1 = true := code_word (m := ⟨2, 2⟩) (meth := k2m2) (c := k2c2) (by decide +kernel) rfl rfl rfl (by decide +kernel)
set_option maxRecDepth 65536 in
theorem w_c11 : (Jvm.Cond.code ({ cls := "SliceAggregate", name := "tupleCount", desc := "()I" } : Jvm.MethodName) prog_1_method_12_code (1 : Nat) (Option.some Jvm.ClassFile.FieldType.int)).before args0 about1 = true := code_word (m := ⟨2, 11⟩) (meth := k2m11) (c := k2c11) (by decide +kernel) rfl rfl rfl (by decide +kernel)
set_option maxRecDepth 65536 in
theorem w_c12 : (Jvm.Cond.code ({ cls := "SliceAggregate", name := "queryCount", desc := "()I" } : Jvm.MethodName) prog_1_method_11_code (1 : Nat) (Option.some Jvm.ClassFile.FieldType.int)).before args0 about1 = true := code_word (m := ⟨2, 10⟩) (meth := k2m10) (c := k2c10) (by decide +kernel) rfl rfl rfl (by decide +kernel)
set_option maxRecDepth 65536 in
theorem w_c13 : (Jvm.Cond.code ({ cls := "SliceAggregateL6", name := "query", desc := "(LSliceAggregate;IIIIIIIIIIIII)Z" } : Jvm.MethodName) method_4_code (17 : Nat) (Option.some Jvm.ClassFile.FieldType.boolean)).before args0 about1 = true := code_word (m := ⟨1, 3⟩) (meth := k1m3) (c := k1c3) (by decide +kernel) rfl rfl rfl (by decide +kernel)
set_option maxRecDepth 65536 in
theorem w_c14 : (Jvm.Cond.code ({ cls := "SliceAggregate", name := "queryRange", desc := "(I)I" } : Jvm.MethodName) prog_1_method_9_code (2 : Nat) (Option.some Jvm.ClassFile.FieldType.int)).before args0 about1 = true := code_word (m := ⟨2, 8⟩) (meth := k2m8) (c := k2c8) (by decide +kernel) rfl rfl rfl (by decide +kernel)
set_option maxRecDepth 65536 in
theorem w_c15 : (Jvm.Cond.code ({ cls := "SliceAggregate", name := "validQuery", desc := "(I)Z" } : Jvm.MethodName) prog_1_method_14_code (2 : Nat) (Option.some Jvm.ClassFile.FieldType.boolean)).before args0 about1 = true := code_word (m := ⟨2, 13⟩) (meth := k2m13) (c := k2c13) (by decide +kernel) rfl rfl rfl (by decide +kernel)
set_option maxRecDepth 65536 in
theorem w_c16 : (Jvm.Cond.code ({ cls := "SliceAggregate", name := "querySlide", desc := "(I)I" } : Jvm.MethodName) prog_1_method_10_code (2 : Nat) (Option.some Jvm.ClassFile.FieldType.int)).before args0 about1 = true := code_word (m := ⟨2, 9⟩) (meth := k2m9) (c := k2c9) (by decide +kernel) rfl rfl rfl (by decide +kernel)
set_option maxRecDepth 65536 in
theorem w_c17 : (Jvm.Cond.code ({ cls := "SliceAggregate", name := "windowStart", desc := "(I)I" } : Jvm.MethodName) prog_1_method_6_code (3 : Nat) (Option.some Jvm.ClassFile.FieldType.int)).before args0 about1 = true := code_word (m := ⟨2, 5⟩) (meth := k2m5) (c := k2c5) (by decide +kernel) rfl rfl rfl (by decide +kernel)
set_option maxRecDepth 65536 in
theorem w_c18 : (Jvm.Cond.code ({ cls := "SliceAggregate", name := "windowEnd", desc := "(I)I" } : Jvm.MethodName) prog_1_method_7_code (2 : Nat) (Option.some Jvm.ClassFile.FieldType.int)).before args0 about1 = true := code_word (m := ⟨2, 6⟩) (meth := k2m6) (c := k2c6) (by decide +kernel) rfl rfl rfl (by decide +kernel)
set_option maxRecDepth 65536 in
theorem w_c19 : (Jvm.Cond.code ({ cls := "SliceAggregate", name := "evaluations", desc := "(I)I" } : Jvm.MethodName) prog_1_method_8_code (3 : Nat) (Option.some Jvm.ClassFile.FieldType.int)).before args0 about1 = true := code_word (m := ⟨2, 7⟩) (meth := k2m7) (c := k2c7) (by decide +kernel) rfl rfl rfl (by decide +kernel)
set_option maxRecDepth 65536 in
theorem w_c20 : (Jvm.Cond.code ({ cls := "SliceAggregate", name := "result", desc := "(II)I" } : Jvm.MethodName) prog_1_method_4_code (3 : Nat) (Option.some Jvm.ClassFile.FieldType.int)).before args0 about1 = true := code_word (m := ⟨2, 3⟩) (meth := k2m3) (c := k2c3) (by decide +kernel) rfl rfl rfl (by decide +kernel)
set_option maxRecDepth 65536 in
theorem w_c21 : (Jvm.Cond.code ({ cls := "SliceAggregate", name := "liveResult", desc := "(II)I" } : Jvm.MethodName) prog_1_method_5_code (3 : Nat) (Option.some Jvm.ClassFile.FieldType.int)).before args0 about1 = true := code_word (m := ⟨2, 4⟩) (meth := k2m4) (c := k2c4) (by decide +kernel) rfl rfl rfl (by decide +kernel)
set_option maxRecDepth 65536 in
theorem w_c22 : (Jvm.Cond.code ({ cls := "SliceAggregate", name := "addQuery", desc := "(II)I" } : Jvm.MethodName) prog_1_method_2_code (4 : Nat) (Option.some Jvm.ClassFile.FieldType.int)).before args0 about1 = true := code_word (m := ⟨2, 1⟩) (meth := k2m1) (c := k2c1) (by decide +kernel) rfl rfl rfl (by decide +kernel)
set_option maxRecDepth 65536 in
theorem w_c23 : (Jvm.Cond.code ({ cls := "SliceAggregate", name := "clearStream", desc := "()V" } : Jvm.MethodName) prog_1_method_13_code (2 : Nat) (Option.none : Option Jvm.ClassFile.FieldType)).before args0 about1 = true := code_word (m := ⟨2, 12⟩) (meth := k2m12) (c := k2c12) (by decide +kernel) rfl rfl rfl (by decide +kernel)
set_option maxRecDepth 65536 in
theorem w_c24 : (Jvm.Cond.code ({ cls := "SliceAggregate", name := "endOf", desc := "(I)I" } : Jvm.MethodName) prog_1_method_19_code (3 : Nat) (Option.some Jvm.ClassFile.FieldType.int)).before args0 about1 = true := code_word (m := ⟨2, 18⟩) (meth := k2m18) (c := k2c18) (by decide +kernel) rfl rfl rfl (by decide +kernel)
set_option maxRecDepth 65536 in
theorem w_c25 : (Jvm.Cond.code ({ cls := "SliceAggregate", name := "validEntry", desc := "(I)Z" } : Jvm.MethodName) prog_1_method_15_code (2 : Nat) (Option.some Jvm.ClassFile.FieldType.boolean)).before args0 about1 = true := code_word (m := ⟨2, 14⟩) (meth := k2m14) (c := k2c14) (by decide +kernel) rfl rfl rfl (by decide +kernel)
set_option maxRecDepth 65536 in
theorem w_c26 : (Jvm.Cond.code ({ cls := "SliceAggregateL6", name := "fold", desc := "(LSliceAggregate;IZIIII)Z" } : Jvm.MethodName) method_5_code (7 : Nat) (Option.some Jvm.ClassFile.FieldType.boolean)).before args0 about1 = true := code_word (m := ⟨1, 4⟩) (meth := k1m4) (c := k1c4) (by decide +kernel) rfl rfl rfl (by decide +kernel)
set_option maxRecDepth 65536 in
theorem w_c27 : (Jvm.Cond.code ({ cls := "SliceAggregate", name := "liveFold", desc := "(II)V" } : Jvm.MethodName) prog_1_method_24_code (4 : Nat) (Option.none : Option Jvm.ClassFile.FieldType)).before args0 about1 = true := code_word (m := ⟨2, 23⟩) (meth := k2m23) (c := k2c23) (by decide +kernel) rfl rfl rfl (by decide +kernel)
set_option maxRecDepth 65536 in
theorem w_c28 : (Jvm.Cond.code ({ cls := "SliceAggregate", name := "loadBackAgg", desc := "(II)V" } : Jvm.MethodName) prog_1_method_34_code (5 : Nat) (Option.none : Option Jvm.ClassFile.FieldType)).before args0 about1 = true := code_word (m := ⟨2, 33⟩) (meth := k2m33) (c := k2c33) (by decide +kernel) rfl rfl rfl (by decide +kernel)
set_option maxRecDepth 65536 in
theorem w_c29 : (Jvm.Cond.code ({ cls := "SliceAggregate", name := "regMul", desc := "(III)V" } : Jvm.MethodName) prog_1_method_29_code (15 : Nat) (Option.none : Option Jvm.ClassFile.FieldType)).before args0 about1 = true := code_word (m := ⟨2, 28⟩) (meth := k2m28) (c := k2c28) (by decide +kernel) rfl rfl rfl (by decide +kernel)
set_option maxRecDepth 65536 in
theorem w_c30 : (Jvm.Cond.code ({ cls := "SliceAggregate", name := "regEntry", desc := "(II)I" } : Jvm.MethodName) prog_1_method_28_code (3 : Nat) (Option.some Jvm.ClassFile.FieldType.int)).before args0 about1 = true := code_word (m := ⟨2, 27⟩) (meth := k2m27) (c := k2c27) (by decide +kernel) rfl rfl rfl (by decide +kernel)
set_option maxRecDepth 65536 in
theorem w_c31 : (Jvm.Cond.code ({ cls := "SliceAggregate", name := "appendToQuery", desc := "(I)V" } : Jvm.MethodName) prog_1_method_21_code (4 : Nat) (Option.none : Option Jvm.ClassFile.FieldType)).before args0 about1 = true := code_word (m := ⟨2, 20⟩) (meth := k2m20) (c := k2c20) (by decide +kernel) rfl rfl rfl (by decide +kernel)
set_option maxRecDepth 65536 in
theorem w_c32 : (Jvm.Cond.code ({ cls := "SliceAggregate", name := "validSlot", desc := "(II)Z" } : Jvm.MethodName) prog_1_method_17_code (3 : Nat) (Option.some Jvm.ClassFile.FieldType.boolean)).before args0 about1 = true := code_word (m := ⟨2, 16⟩) (meth := k2m16) (c := k2c16) (by decide +kernel) rfl rfl rfl (by decide +kernel)
set_option maxRecDepth 65536 in
theorem w_c33 : (Jvm.Cond.code ({ cls := "SliceAggregate", name := "storeBack", desc := "(III)V" } : Jvm.MethodName) prog_1_method_31_code (7 : Nat) (Option.none : Option Jvm.ClassFile.FieldType)).before args0 about1 = true := code_word (m := ⟨2, 30⟩) (meth := k2m30) (c := k2c30) (by decide +kernel) rfl rfl rfl (by decide +kernel)
set_option maxRecDepth 65536 in
theorem w_c34 : (Jvm.Cond.code ({ cls := "SliceAggregate", name := "slotOffset", desc := "(II)I" } : Jvm.MethodName) prog_1_method_18_code (3 : Nat) (Option.some Jvm.ClassFile.FieldType.int)).before args0 about1 = true := code_word (m := ⟨2, 17⟩) (meth := k2m17) (c := k2c17) (by decide +kernel) rfl rfl rfl (by decide +kernel)
set_option maxRecDepth 65536 in
theorem w_c35 : (Jvm.Cond.code ({ cls := "SliceAggregate", name := "evictOldest", desc := "(I)V" } : Jvm.MethodName) prog_1_method_22_code (2 : Nat) (Option.none : Option Jvm.ClassFile.FieldType)).before args0 about1 = true := code_word (m := ⟨2, 21⟩) (meth := k2m21) (c := k2c21) (by decide +kernel) rfl rfl rfl (by decide +kernel)
set_option maxRecDepth 65536 in
theorem w_c36 : (Jvm.Cond.code ({ cls := "SliceAggregate", name := "flip", desc := "(I)V" } : Jvm.MethodName) prog_1_method_23_code (4 : Nat) (Option.none : Option Jvm.ClassFile.FieldType)).before args0 about1 = true := code_word (m := ⟨2, 22⟩) (meth := k2m22) (c := k2c22) (by decide +kernel) rfl rfl rfl (by decide +kernel)
set_option maxRecDepth 65536 in
theorem w_c37 : (Jvm.Cond.code ({ cls := "SliceAggregate", name := "loadBack", desc := "(III)V" } : Jvm.MethodName) prog_1_method_30_code (7 : Nat) (Option.none : Option Jvm.ClassFile.FieldType)).before args0 about1 = true := code_word (m := ⟨2, 29⟩) (meth := k2m29) (c := k2c29) (by decide +kernel) rfl rfl rfl (by decide +kernel)
set_option maxRecDepth 65536 in
theorem w_c38 : (Jvm.Cond.code ({ cls := "SliceAggregate", name := "storeFront", desc := "(III)V" } : Jvm.MethodName) prog_1_method_33_code (7 : Nat) (Option.none : Option Jvm.ClassFile.FieldType)).before args0 about1 = true := code_word (m := ⟨2, 32⟩) (meth := k2m32) (c := k2c32) (by decide +kernel) rfl rfl rfl (by decide +kernel)
set_option maxRecDepth 65536 in
theorem w_c39 : (Jvm.Cond.code ({ cls := "SliceAggregate", name := "takeSnapshot", desc := "(I)V" } : Jvm.MethodName) prog_1_method_25_code (2 : Nat) (Option.none : Option Jvm.ClassFile.FieldType)).before args0 about1 = true := code_word (m := ⟨2, 24⟩) (meth := k2m24) (c := k2c24) (by decide +kernel) rfl rfl rfl (by decide +kernel)
set_option maxRecDepth 65536 in
theorem w_c40 : (Jvm.Cond.code ({ cls := "SliceAggregate", name := "loadFront", desc := "(III)V" } : Jvm.MethodName) prog_1_method_32_code (7 : Nat) (Option.none : Option Jvm.ClassFile.FieldType)).before args0 about1 = true := code_word (m := ⟨2, 31⟩) (meth := k2m31) (c := k2c31) (by decide +kernel) rfl rfl rfl (by decide +kernel)
def codes1 : List Jvm.Cond := [Jvm.Cond.code x code maxLocals ret, Jvm.Cond.code ({ cls := "SliceAggregate", name := "<init>", desc := "(I)V" } : Jvm.MethodName) prog_1_method_1_code (4 : Nat) (Option.none : Option Jvm.ClassFile.FieldType), Jvm.Cond.code ({ cls := "java/lang/Object", name := "<init>", desc := "()V" } : Jvm.MethodName) object_method_1_code (1 : Nat) (Option.none : Option Jvm.ClassFile.FieldType), Jvm.Cond.code ({ cls := "SliceAggregate", name := "resetQuery", desc := "(I)V" } : Jvm.MethodName) prog_1_method_20_code (2 : Nat) (Option.none : Option Jvm.ClassFile.FieldType), Jvm.Cond.code ({ cls := "SliceAggregate", name := "regIdentity", desc := "(I)V" } : Jvm.MethodName) prog_1_method_27_code (2 : Nat) (Option.none : Option Jvm.ClassFile.FieldType), Jvm.Cond.code ({ cls := "SliceAggregate", name := "regSet", desc := "(IIIII)V" } : Jvm.MethodName) prog_1_method_26_code (7 : Nat) (Option.none : Option Jvm.ClassFile.FieldType), Jvm.Cond.code ({ cls := "SliceAggregate", name := "validReg", desc := "(I)Z" } : Jvm.MethodName) prog_1_method_16_code (2 : Nat) (Option.some Jvm.ClassFile.FieldType.boolean), Jvm.Cond.code ({ cls := "SliceAggregate", name := "storeBackAgg", desc := "(II)V" } : Jvm.MethodName) prog_1_method_35_code (5 : Nat) (Option.none : Option Jvm.ClassFile.FieldType), Jvm.Cond.code ({ cls := "SliceAggregate", name := "storeSnap", desc := "(II)V" } : Jvm.MethodName) prog_1_method_36_code (5 : Nat) (Option.none : Option Jvm.ClassFile.FieldType), Jvm.Cond.code ({ cls := "SliceAggregateL6", name := "moved", desc := "(IIII)I" } : Jvm.MethodName) method_3_code (4 : Nat) (Option.some Jvm.ClassFile.FieldType.int), Jvm.Cond.code ({ cls := "SliceAggregate", name := "push", desc := "(IIII)I" } : Jvm.MethodName) prog_1_method_3_code (8 : Nat) (Option.some Jvm.ClassFile.FieldType.int), Jvm.Cond.code ({ cls := "SliceAggregate", name := "tupleCount", desc := "()I" } : Jvm.MethodName) prog_1_method_12_code (1 : Nat) (Option.some Jvm.ClassFile.FieldType.int), Jvm.Cond.code ({ cls := "SliceAggregate", name := "queryCount", desc := "()I" } : Jvm.MethodName) prog_1_method_11_code (1 : Nat) (Option.some Jvm.ClassFile.FieldType.int), Jvm.Cond.code ({ cls := "SliceAggregateL6", name := "query", desc := "(LSliceAggregate;IIIIIIIIIIIII)Z" } : Jvm.MethodName) method_4_code (17 : Nat) (Option.some Jvm.ClassFile.FieldType.boolean), Jvm.Cond.code ({ cls := "SliceAggregate", name := "queryRange", desc := "(I)I" } : Jvm.MethodName) prog_1_method_9_code (2 : Nat) (Option.some Jvm.ClassFile.FieldType.int), Jvm.Cond.code ({ cls := "SliceAggregate", name := "validQuery", desc := "(I)Z" } : Jvm.MethodName) prog_1_method_14_code (2 : Nat) (Option.some Jvm.ClassFile.FieldType.boolean), Jvm.Cond.code ({ cls := "SliceAggregate", name := "querySlide", desc := "(I)I" } : Jvm.MethodName) prog_1_method_10_code (2 : Nat) (Option.some Jvm.ClassFile.FieldType.int), Jvm.Cond.code ({ cls := "SliceAggregate", name := "windowStart", desc := "(I)I" } : Jvm.MethodName) prog_1_method_6_code (3 : Nat) (Option.some Jvm.ClassFile.FieldType.int), Jvm.Cond.code ({ cls := "SliceAggregate", name := "windowEnd", desc := "(I)I" } : Jvm.MethodName) prog_1_method_7_code (2 : Nat) (Option.some Jvm.ClassFile.FieldType.int), Jvm.Cond.code ({ cls := "SliceAggregate", name := "evaluations", desc := "(I)I" } : Jvm.MethodName) prog_1_method_8_code (3 : Nat) (Option.some Jvm.ClassFile.FieldType.int), Jvm.Cond.code ({ cls := "SliceAggregate", name := "result", desc := "(II)I" } : Jvm.MethodName) prog_1_method_4_code (3 : Nat) (Option.some Jvm.ClassFile.FieldType.int), Jvm.Cond.code ({ cls := "SliceAggregate", name := "liveResult", desc := "(II)I" } : Jvm.MethodName) prog_1_method_5_code (3 : Nat) (Option.some Jvm.ClassFile.FieldType.int), Jvm.Cond.code ({ cls := "SliceAggregate", name := "addQuery", desc := "(II)I" } : Jvm.MethodName) prog_1_method_2_code (4 : Nat) (Option.some Jvm.ClassFile.FieldType.int), Jvm.Cond.code ({ cls := "SliceAggregate", name := "clearStream", desc := "()V" } : Jvm.MethodName) prog_1_method_13_code (2 : Nat) (Option.none : Option Jvm.ClassFile.FieldType), Jvm.Cond.code ({ cls := "SliceAggregate", name := "endOf", desc := "(I)I" } : Jvm.MethodName) prog_1_method_19_code (3 : Nat) (Option.some Jvm.ClassFile.FieldType.int), Jvm.Cond.code ({ cls := "SliceAggregate", name := "validEntry", desc := "(I)Z" } : Jvm.MethodName) prog_1_method_15_code (2 : Nat) (Option.some Jvm.ClassFile.FieldType.boolean), Jvm.Cond.code ({ cls := "SliceAggregateL6", name := "fold", desc := "(LSliceAggregate;IZIIII)Z" } : Jvm.MethodName) method_5_code (7 : Nat) (Option.some Jvm.ClassFile.FieldType.boolean), Jvm.Cond.code ({ cls := "SliceAggregate", name := "liveFold", desc := "(II)V" } : Jvm.MethodName) prog_1_method_24_code (4 : Nat) (Option.none : Option Jvm.ClassFile.FieldType), Jvm.Cond.code ({ cls := "SliceAggregate", name := "loadBackAgg", desc := "(II)V" } : Jvm.MethodName) prog_1_method_34_code (5 : Nat) (Option.none : Option Jvm.ClassFile.FieldType), Jvm.Cond.code ({ cls := "SliceAggregate", name := "regMul", desc := "(III)V" } : Jvm.MethodName) prog_1_method_29_code (15 : Nat) (Option.none : Option Jvm.ClassFile.FieldType), Jvm.Cond.code ({ cls := "SliceAggregate", name := "regEntry", desc := "(II)I" } : Jvm.MethodName) prog_1_method_28_code (3 : Nat) (Option.some Jvm.ClassFile.FieldType.int), Jvm.Cond.code ({ cls := "SliceAggregate", name := "appendToQuery", desc := "(I)V" } : Jvm.MethodName) prog_1_method_21_code (4 : Nat) (Option.none : Option Jvm.ClassFile.FieldType), Jvm.Cond.code ({ cls := "SliceAggregate", name := "validSlot", desc := "(II)Z" } : Jvm.MethodName) prog_1_method_17_code (3 : Nat) (Option.some Jvm.ClassFile.FieldType.boolean), Jvm.Cond.code ({ cls := "SliceAggregate", name := "storeBack", desc := "(III)V" } : Jvm.MethodName) prog_1_method_31_code (7 : Nat) (Option.none : Option Jvm.ClassFile.FieldType), Jvm.Cond.code ({ cls := "SliceAggregate", name := "slotOffset", desc := "(II)I" } : Jvm.MethodName) prog_1_method_18_code (3 : Nat) (Option.some Jvm.ClassFile.FieldType.int), Jvm.Cond.code ({ cls := "SliceAggregate", name := "evictOldest", desc := "(I)V" } : Jvm.MethodName) prog_1_method_22_code (2 : Nat) (Option.none : Option Jvm.ClassFile.FieldType), Jvm.Cond.code ({ cls := "SliceAggregate", name := "flip", desc := "(I)V" } : Jvm.MethodName) prog_1_method_23_code (4 : Nat) (Option.none : Option Jvm.ClassFile.FieldType), Jvm.Cond.code ({ cls := "SliceAggregate", name := "loadBack", desc := "(III)V" } : Jvm.MethodName) prog_1_method_30_code (7 : Nat) (Option.none : Option Jvm.ClassFile.FieldType), Jvm.Cond.code ({ cls := "SliceAggregate", name := "storeFront", desc := "(III)V" } : Jvm.MethodName) prog_1_method_33_code (7 : Nat) (Option.none : Option Jvm.ClassFile.FieldType), Jvm.Cond.code ({ cls := "SliceAggregate", name := "takeSnapshot", desc := "(I)V" } : Jvm.MethodName) prog_1_method_25_code (2 : Nat) (Option.none : Option Jvm.ClassFile.FieldType), Jvm.Cond.code ({ cls := "SliceAggregate", name := "loadFront", desc := "(III)V" } : Jvm.MethodName) prog_1_method_32_code (7 : Nat) (Option.none : Option Jvm.ClassFile.FieldType)]
set_option maxRecDepth 65536 in
theorem codes_eq : words1.filter isCode = codes1 := rfl
theorem w_codes : ∀ c ∈ words1.filter isCode, c.before args0 about1 = true := by
  rw [codes_eq]
  intro c hc
  simp only [codes1, List.mem_cons, List.not_mem_nil, or_false] at hc
  rcases hc with rfl | rfl | rfl | rfl | rfl | rfl | rfl | rfl | rfl | rfl | rfl | rfl | rfl | rfl | rfl | rfl | rfl | rfl | rfl | rfl | rfl | rfl | rfl | rfl | rfl | rfl | rfl | rfl | rfl | rfl | rfl | rfl | rfl | rfl | rfl | rfl | rfl | rfl | rfl | rfl | rfl
  · exact w_c0
  · exact w_c1
  · exact w_c2
  · exact w_c3
  · exact w_c4
  · exact w_c5
  · exact w_c6
  · exact w_c7
  · exact w_c8
  · exact w_c9
  · exact w_c10
  · exact w_c11
  · exact w_c12
  · exact w_c13
  · exact w_c14
  · exact w_c15
  · exact w_c16
  · exact w_c17
  · exact w_c18
  · exact w_c19
  · exact w_c20
  · exact w_c21
  · exact w_c22
  · exact w_c23
  · exact w_c24
  · exact w_c25
  · exact w_c26
  · exact w_c27
  · exact w_c28
  · exact w_c29
  · exact w_c30
  · exact w_c31
  · exact w_c32
  · exact w_c33
  · exact w_c34
  · exact w_c35
  · exact w_c36
  · exact w_c37
  · exact w_c38
  · exact w_c39
  · exact w_c40
set_option maxRecDepth 65536 in
theorem w_t1 : (words1.take 24).all (fun c => isCode c || c.before args0 about1) = true := by decide +kernel
set_option maxRecDepth 65536 in
theorem w_t2 : ((words1.drop 24).take 24).all (fun c => isCode c || c.before args0 about1) = true := by decide +kernel
set_option maxRecDepth 65536 in
theorem w_t3 : (((words1.drop 24).drop 24).take 24).all (fun c => isCode c || c.before args0 about1) = true := by decide +kernel
set_option maxRecDepth 65536 in
theorem w_t4 : ((((words1.drop 24).drop 24).drop 24).take 24).all (fun c => isCode c || c.before args0 about1) = true := by decide +kernel
set_option maxRecDepth 65536 in
theorem w_t5 : (((((words1.drop 24).drop 24).drop 24).drop 24).take 24).all (fun c => isCode c || c.before args0 about1) = true := by decide +kernel
set_option maxRecDepth 65536 in
theorem w_t6 : ((((((words1.drop 24).drop 24).drop 24).drop 24).drop 24).take 24).all (fun c => isCode c || c.before args0 about1) = true := by decide +kernel
set_option maxRecDepth 65536 in
theorem w_t7 : (((((((words1.drop 24).drop 24).drop 24).drop 24).drop 24).drop 24).take 24).all (fun c => isCode c || c.before args0 about1) = true := by decide +kernel
set_option maxRecDepth 65536 in
theorem w_t8 : ((((((((words1.drop 24).drop 24).drop 24).drop 24).drop 24).drop 24).drop 24).take 24).all (fun c => isCode c || c.before args0 about1) = true := by decide +kernel
set_option maxRecDepth 65536 in
theorem w_t9 : ((((((((words1.drop 24).drop 24).drop 24).drop 24).drop 24).drop 24).drop 24).drop 24).all (fun c => isCode c || c.before args0 about1) = true := by decide +kernel
theorem w_tables : (allAtoms (Jvm.Cond.code x code maxLocals ret :: tables_1)).before args0 about1 = true := by
  rw [allAtoms_all]
  show words1.all (fun c => c.before args0 about1) = true
  refine all_split ?_ w_codes
  rw [← List.take_append_drop 24 words1, List.all_append, w_t1, ← List.take_append_drop 24 (words1.drop 24), List.all_append, w_t2, ← List.take_append_drop 24 ((words1.drop 24).drop 24), List.all_append, w_t3, ← List.take_append_drop 24 (((words1.drop 24).drop 24).drop 24), List.all_append, w_t4, ← List.take_append_drop 24 ((((words1.drop 24).drop 24).drop 24).drop 24), List.all_append, w_t5, ← List.take_append_drop 24 (((((words1.drop 24).drop 24).drop 24).drop 24).drop 24), List.all_append, w_t6, ← List.take_append_drop 24 ((((((words1.drop 24).drop 24).drop 24).drop 24).drop 24).drop 24), List.all_append, w_t7, ← List.take_append_drop 24 (((((((words1.drop 24).drop 24).drop 24).drop 24).drop 24).drop 24).drop 24), List.all_append, w_t8, w_t9]
  rfl
set_option maxRecDepth 65536 in
theorem w_rest : rest_1_c.before args0 about1 = true := by decide +kernel
set_option maxRecDepth 65536 in
theorem w_case : (Jvm.Cond.and given_1 narrow_1).before args0 about1 = true := by decide +kernel
theorem w_applies : (headSpec (Jvm.Cond.code x code maxLocals ret :: tables_1) room_1).applies x e0.platform about1 = true :=
  (Spec.applies_iff w_frames).mpr ⟨w_running, w_runnable, w_alone, w_named, w_hears, w_ripe, w_room, w_tables⟩
theorem atStart : AtStart classFile x code maxLocals ret World_1 tables_1 room_1 Calls_1 rest_1 Pre_1 launch0 p0 e0 about1 theMethod args0 below0 :=
  ⟨lists_1, trivial, launch0.admits_env _ _ _, launch0.least_env, fairChoices_fair.cas, fairChoices_fair.clock, w_frames, w_args, w_heap, w_applies, trivial, w_rest, w_case⟩
end start1
theorem witness_1 : WitnessClaimed_1 := ⟨start1.p0, start1.e0, start1.about1, start1.theMethod, start1.args0, start1.below0, start1.atStart⟩
end Jvm.Pilot.@@N@@
