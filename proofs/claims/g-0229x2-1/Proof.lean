import JvmDerived
import JvmDerived.Pilot.@@N@@Statement
import JvmDerived.Pilot.@@N@@Code
set_option linter.unusedVariables false
set_option linter.unusedSimpArgs false
namespace Jvm.RoadKit
open Sem ClassFile Op Lib Jvm.Stand Jvm.Free Jvm.LawKit
section New
variable {p : Program} {l : Launch} {e : Env} {R : Room} {s : State} {m : MethodId} {args : Array Value} {below : List Frame} {meth : Method} {c : Code} {T : State} {locs : List Loc} {cells slots : Nat}
theorem retI (X : Stand p l e R s m args below meth c T locs cells slots) (hx : p.tables.exec = Jvm.exec) {pc : Nat} {Ls : Array Slot} {z : Int32} {rest : List Value} (hret : meth.sig.returnType = some .int) (hd : decode c.code pc = .ok (.ireturn, 1)) {fs : List Frame}
    (hl : ∀ (f : JFrame) (acts : List Action), f.method = m → f.locked = none → f.entered = [] → (doReturn e (T.setTop f) acts (some (.int z))).1 = T.setFrames fs) : Steps p.tables e below (T.setTop (mkF m pc Ls (.int z :: rest))) (T.setFrames fs) := by
  have hm' : T.vm.method? m = some meth := X.method'
  have hn : narrow .int (.int z) = .int z := rfl
  show Steps p.tables e below (T.setTop { method := m, pc := pc, locals := Ls, stack := _ :: rest, locked := none }) _
  jvm_step X.here [X.here.top, hx, hd, hm', hret, hn]
  first | (intro acts; rw [hl _ acts rfl rfl rfl]) | rw [hl _ _ rfl rfl rfl]
  exact Steps.refl _
end New
end Jvm.RoadKit
namespace Jvm.Pilot.@@N@@
open Jvm Jvm.ClassFile Sem Op Lib Jvm.Free Jvm.Stand Jvm.LawKit Jvm.RoadKit Bundle Jvm.Pilot.@@N@@.Jvm.D
/-! TABLES of this claim: printed by claim.py -/
def k0 : Nat := 1
def cName : String := "SliceAggregate"
def cN : Nat := 18
def nF : Nat := 18
def kName (k : Nat) : String := bif Nat.beq k 0 then "SliceAggregateOwnLaw" else "SliceAggregate"
def fNm (k : Nat) : String := (bif Nat.ble 9 k then (bif Nat.ble 13 k then (bif Nat.ble 15 k then (bif Nat.ble 16 k then (bif Nat.ble 17 k then "n" else "queries") else "capacity") else (bif Nat.ble 14 k then "reg" else "snap")) else (bif Nat.ble 11 k then (bif Nat.ble 12 k then "backAgg" else "frontAgg") else (bif Nat.ble 10 k then "backElem" else "backSize"))) else (bif Nat.ble 4 k then (bif Nat.ble 6 k then (bif Nat.ble 7 k then (bif Nat.ble 8 k then "frontSize" else "slide") else "range") else (bif Nat.ble 5 k then "slots" else "regCount")) else (bif Nat.ble 2 k then (bif Nat.ble 3 k then "regC" else "regB") else (bif Nat.ble 1 k then "regA" else "regTuple"))))
def fDs (k : Nat) : String := (bif Nat.ble 9 k then (bif Nat.ble 13 k then (bif Nat.ble 15 k then (bif Nat.ble 16 k then (bif Nat.ble 17 k then "I" else "I") else "I") else (bif Nat.ble 14 k then "[I" else "[I")) else (bif Nat.ble 11 k then (bif Nat.ble 12 k then "[I" else "[I") else (bif Nat.ble 10 k then "[I" else "[I"))) else (bif Nat.ble 4 k then (bif Nat.ble 6 k then (bif Nat.ble 7 k then (bif Nat.ble 8 k then "[I" else "[I") else "[I") else (bif Nat.ble 5 k then "I" else "I")) else (bif Nat.ble 2 k then (bif Nat.ble 3 k then "I" else "I") else (bif Nat.ble 1 k then "I" else "I"))))
def fTy (k : Nat) : FieldType := (bif Nat.ble 9 k then (bif Nat.ble 13 k then (bif Nat.ble 15 k then (bif Nat.ble 16 k then (bif Nat.ble 17 k then .int else .int) else .int) else (bif Nat.ble 14 k then (.array .int) else (.array .int))) else (bif Nat.ble 11 k then (bif Nat.ble 12 k then (.array .int) else (.array .int)) else (bif Nat.ble 10 k then (.array .int) else (.array .int)))) else (bif Nat.ble 4 k then (bif Nat.ble 6 k then (bif Nat.ble 7 k then (bif Nat.ble 8 k then (.array .int) else (.array .int)) else (.array .int)) else (bif Nat.ble 5 k then .int else .int)) else (bif Nat.ble 2 k then (bif Nat.ble 3 k then .int else .int) else (bif Nat.ble 1 k then .int else .int))))
def fFin (k : Nat) : Bool := (bif Nat.ble 9 k then (bif Nat.ble 13 k then (bif Nat.ble 15 k then (bif Nat.ble 16 k then (bif Nat.ble 17 k then false else false) else false) else (bif Nat.ble 14 k then true else true)) else (bif Nat.ble 11 k then (bif Nat.ble 12 k then true else true) else (bif Nat.ble 10 k then true else true))) else (bif Nat.ble 4 k then (bif Nat.ble 6 k then (bif Nat.ble 7 k then (bif Nat.ble 8 k then true else true) else true) else (bif Nat.ble 5 k then true else true)) else (bif Nat.ble 2 k then (bif Nat.ble 3 k then true else true) else (bif Nat.ble 1 k then true else true))))
def cDef : List Value := [.int 0, .int 0, .int 0, .int 0, .int 0, .int 0, .null, .null, .null, .null, .null, .null, .null, .null, .null, .int 0, .int 0, .int 0]
def cK : List Value := [.int (-1640531535)]
def pN : Nat := 44
def pTop (m : Nat) : Nat := (bif Nat.ble 22 m then (bif Nat.ble 33 m then (bif Nat.ble 38 m then (bif Nat.ble 41 m then (bif Nat.ble 42 m then (bif Nat.ble 43 m then 24 else 67) else 67) else (bif Nat.ble 39 m then (bif Nat.ble 40 m then 67 else 85) else 38)) else (bif Nat.ble 35 m then (bif Nat.ble 36 m then (bif Nat.ble 37 m then 13 else 9) else 67) else (bif Nat.ble 34 m then 25 else 92))) else (bif Nat.ble 27 m then (bif Nat.ble 30 m then (bif Nat.ble 31 m then (bif Nat.ble 32 m then 84 else 21) else 24) else (bif Nat.ble 28 m then (bif Nat.ble 29 m then 29 else 203) else 58)) else (bif Nat.ble 24 m then (bif Nat.ble 25 m then (bif Nat.ble 26 m then 42 else 33) else 222) else (bif Nat.ble 23 m then 15 else 31)))) else (bif Nat.ble 11 m then (bif Nat.ble 16 m then (bif Nat.ble 19 m then (bif Nat.ble 20 m then (bif Nat.ble 21 m then 31 else 16) else 23) else (bif Nat.ble 17 m then (bif Nat.ble 18 m then 31 else 17) else 23)) else (bif Nat.ble 13 m then (bif Nat.ble 14 m then (bif Nat.ble 15 m then 17 else 5) else 5) else (bif Nat.ble 12 m then 231 else 84))) else (bif Nat.ble 5 m then (bif Nat.ble 8 m then (bif Nat.ble 9 m then (bif Nat.ble 10 m then 15 else 15) else 58) else (bif Nat.ble 6 m then (bif Nat.ble 7 m then 58 else 15) else 55)) else (bif Nat.ble 2 m then (bif Nat.ble 3 m then (bif Nat.ble 4 m then 10 else 42) else 155) else (bif Nat.ble 1 m then 14 else 269)))))
def pK (m : Nat) : Nat := (bif Nat.ble 22 m then (bif Nat.ble 33 m then (bif Nat.ble 38 m then (bif Nat.ble 41 m then (bif Nat.ble 42 m then (bif Nat.ble 43 m then 1 else 1) else 1) else (bif Nat.ble 39 m then (bif Nat.ble 40 m then 1 else 1) else 1)) else (bif Nat.ble 35 m then (bif Nat.ble 36 m then (bif Nat.ble 37 m then 1 else 1) else 1) else (bif Nat.ble 34 m then 1 else 1))) else (bif Nat.ble 27 m then (bif Nat.ble 30 m then (bif Nat.ble 31 m then (bif Nat.ble 32 m then 1 else 0) else 0) else (bif Nat.ble 28 m then (bif Nat.ble 29 m then 1 else 1) else 1)) else (bif Nat.ble 24 m then (bif Nat.ble 25 m then (bif Nat.ble 26 m then 1 else 1) else 0) else (bif Nat.ble 23 m then 1 else 1)))) else (bif Nat.ble 11 m then (bif Nat.ble 16 m then (bif Nat.ble 19 m then (bif Nat.ble 20 m then (bif Nat.ble 21 m then 1 else 1) else 1) else (bif Nat.ble 17 m then (bif Nat.ble 18 m then 1 else 1) else 1)) else (bif Nat.ble 13 m then (bif Nat.ble 14 m then (bif Nat.ble 15 m then 1 else 1) else 1) else (bif Nat.ble 12 m then 0 else 1))) else (bif Nat.ble 5 m then (bif Nat.ble 8 m then (bif Nat.ble 9 m then (bif Nat.ble 10 m then 0 else 0) else 1) else (bif Nat.ble 6 m then (bif Nat.ble 7 m then 1 else 1) else 1)) else (bif Nat.ble 2 m then (bif Nat.ble 3 m then (bif Nat.ble 4 m then 1 else 1) else 1) else (bif Nat.ble 1 m then 0 else 0)))))
def pNm (m : Nat) : String := (bif Nat.ble 22 m then (bif Nat.ble 33 m then (bif Nat.ble 38 m then (bif Nat.ble 41 m then (bif Nat.ble 42 m then (bif Nat.ble 43 m then "clearStream" else "loadFront") else "storeFront") else (bif Nat.ble 39 m then (bif Nat.ble 40 m then "loadBack" else "flip") else "evictOldest")) else (bif Nat.ble 35 m then (bif Nat.ble 36 m then (bif Nat.ble 37 m then "takeSnapshot" else "slotOffset") else "storeBack") else (bif Nat.ble 34 m then "validSlot" else "appendToQuery"))) else (bif Nat.ble 27 m then (bif Nat.ble 30 m then (bif Nat.ble 31 m then (bif Nat.ble 32 m then "push" else "val") else "isPush") else (bif Nat.ble 28 m then (bif Nat.ble 29 m then "regEntry" else "regMul") else "loadBackAgg")) else (bif Nat.ble 24 m then (bif Nat.ble 25 m then (bif Nat.ble 26 m then "liveFold" else "liveResult") else "fold") else (bif Nat.ble 23 m then "validEntry" else "result")))) else (bif Nat.ble 11 m then (bif Nat.ble 16 m then (bif Nat.ble 19 m then (bif Nat.ble 20 m then (bif Nat.ble 21 m then "evaluations" else "windowEnd") else "endOf") else (bif Nat.ble 17 m then (bif Nat.ble 18 m then "windowStart" else "querySlide") else "validQuery")) else (bif Nat.ble 13 m then (bif Nat.ble 14 m then (bif Nat.ble 15 m then "queryRange" else "queryCount") else "tupleCount") else (bif Nat.ble 12 m then "check" else "addQuery"))) else (bif Nat.ble 5 m then (bif Nat.ble 8 m then (bif Nat.ble 9 m then (bif Nat.ble 10 m then "slideOf" else "rangeOf") else "storeSnap") else (bif Nat.ble 6 m then (bif Nat.ble 7 m then "storeBackAgg" else "validReg") else "regSet")) else (bif Nat.ble 2 m then (bif Nat.ble 3 m then (bif Nat.ble 4 m then "regIdentity" else "resetQuery") else "<init>") else (bif Nat.ble 1 m then "cell" else "law")))))
def pDs (m : Nat) : String := (bif Nat.ble 22 m then (bif Nat.ble 33 m then (bif Nat.ble 38 m then (bif Nat.ble 41 m then (bif Nat.ble 42 m then (bif Nat.ble 43 m then "()V" else "(III)V") else "(III)V") else (bif Nat.ble 39 m then (bif Nat.ble 40 m then "(III)V" else "(I)V") else "(I)V")) else (bif Nat.ble 35 m then (bif Nat.ble 36 m then (bif Nat.ble 37 m then "(I)V" else "(II)I") else "(III)V") else (bif Nat.ble 34 m then "(II)Z" else "(I)V"))) else (bif Nat.ble 27 m then (bif Nat.ble 30 m then (bif Nat.ble 31 m then (bif Nat.ble 32 m then "(IIII)I" else "(I)I") else "([II)Z") else (bif Nat.ble 28 m then (bif Nat.ble 29 m then "(II)I" else "(III)V") else "(II)V")) else (bif Nat.ble 24 m then (bif Nat.ble 25 m then (bif Nat.ble 26 m then "(II)V" else "(II)I") else "([IIIIII)I") else (bif Nat.ble 23 m then "(I)Z" else "(II)I")))) else (bif Nat.ble 11 m then (bif Nat.ble 16 m then (bif Nat.ble 19 m then (bif Nat.ble 20 m then (bif Nat.ble 21 m then "(I)I" else "(I)I") else "(I)I") else (bif Nat.ble 17 m then (bif Nat.ble 18 m then "(I)I" else "(I)I") else "(I)Z")) else (bif Nat.ble 13 m then (bif Nat.ble 14 m then (bif Nat.ble 15 m then "(I)I" else "()I") else "()I") else (bif Nat.ble 12 m then "(LSliceAggregate;[IIIII)Z" else "(II)I"))) else (bif Nat.ble 5 m then (bif Nat.ble 8 m then (bif Nat.ble 9 m then (bif Nat.ble 10 m then "([II)I" else "([II)I") else "(II)V") else (bif Nat.ble 6 m then (bif Nat.ble 7 m then "(II)V" else "(I)Z") else "(IIIII)V")) else (bif Nat.ble 2 m then (bif Nat.ble 3 m then (bif Nat.ble 4 m then "(I)V" else "(I)V") else "(I)V") else (bif Nat.ble 1 m then "([II)I" else "([I)Z")))))
def pName (m : Nat) : MethodName := ⟨kName (pK m), pNm m, pDs m⟩
def pBytes (m : Nat) : ByteArray := (bif Nat.ble 22 m then (bif Nat.ble 33 m then (bif Nat.ble 38 m then (bif Nat.ble 41 m then (bif Nat.ble 42 m then (bif Nat.ble 43 m then prog_1_method_13_code else prog_1_method_32_code) else prog_1_method_33_code) else (bif Nat.ble 39 m then (bif Nat.ble 40 m then prog_1_method_30_code else prog_1_method_23_code) else prog_1_method_22_code)) else (bif Nat.ble 35 m then (bif Nat.ble 36 m then (bif Nat.ble 37 m then prog_1_method_25_code else prog_1_method_18_code) else prog_1_method_31_code) else (bif Nat.ble 34 m then prog_1_method_17_code else prog_1_method_21_code))) else (bif Nat.ble 27 m then (bif Nat.ble 30 m then (bif Nat.ble 31 m then (bif Nat.ble 32 m then prog_1_method_3_code else method_3_code) else method_4_code) else (bif Nat.ble 28 m then (bif Nat.ble 29 m then prog_1_method_28_code else prog_1_method_29_code) else prog_1_method_34_code)) else (bif Nat.ble 24 m then (bif Nat.ble 25 m then (bif Nat.ble 26 m then prog_1_method_24_code else prog_1_method_5_code) else method_7_code) else (bif Nat.ble 23 m then prog_1_method_15_code else prog_1_method_4_code)))) else (bif Nat.ble 11 m then (bif Nat.ble 16 m then (bif Nat.ble 19 m then (bif Nat.ble 20 m then (bif Nat.ble 21 m then prog_1_method_8_code else prog_1_method_7_code) else prog_1_method_19_code) else (bif Nat.ble 17 m then (bif Nat.ble 18 m then prog_1_method_6_code else prog_1_method_10_code) else prog_1_method_14_code)) else (bif Nat.ble 13 m then (bif Nat.ble 14 m then (bif Nat.ble 15 m then prog_1_method_9_code else prog_1_method_11_code) else prog_1_method_12_code) else (bif Nat.ble 12 m then method_8_code else prog_1_method_2_code))) else (bif Nat.ble 5 m then (bif Nat.ble 8 m then (bif Nat.ble 9 m then (bif Nat.ble 10 m then method_6_code else method_5_code) else prog_1_method_36_code) else (bif Nat.ble 6 m then (bif Nat.ble 7 m then prog_1_method_35_code else prog_1_method_16_code) else prog_1_method_26_code)) else (bif Nat.ble 2 m then (bif Nat.ble 3 m then (bif Nat.ble 4 m then prog_1_method_27_code else prog_1_method_20_code) else prog_1_method_1_code) else (bif Nat.ble 1 m then method_2_code else code)))))
def pMaxL (m : Nat) : Nat := (bif Nat.ble 22 m then (bif Nat.ble 33 m then (bif Nat.ble 38 m then (bif Nat.ble 41 m then (bif Nat.ble 42 m then (bif Nat.ble 43 m then 2 else 7) else 7) else (bif Nat.ble 39 m then (bif Nat.ble 40 m then 7 else 4) else 2)) else (bif Nat.ble 35 m then (bif Nat.ble 36 m then (bif Nat.ble 37 m then 2 else 3) else 7) else (bif Nat.ble 34 m then 3 else 4))) else (bif Nat.ble 27 m then (bif Nat.ble 30 m then (bif Nat.ble 31 m then (bif Nat.ble 32 m then 8 else 1) else 2) else (bif Nat.ble 28 m then (bif Nat.ble 29 m then 3 else 15) else 5)) else (bif Nat.ble 24 m then (bif Nat.ble 25 m then (bif Nat.ble 26 m then 4 else 3) else 21) else (bif Nat.ble 23 m then 2 else 3)))) else (bif Nat.ble 11 m then (bif Nat.ble 16 m then (bif Nat.ble 19 m then (bif Nat.ble 20 m then (bif Nat.ble 21 m then 3 else 2) else 3) else (bif Nat.ble 17 m then (bif Nat.ble 18 m then 3 else 2) else 2)) else (bif Nat.ble 13 m then (bif Nat.ble 14 m then (bif Nat.ble 15 m then 2 else 1) else 1) else (bif Nat.ble 12 m then 13 else 4))) else (bif Nat.ble 5 m then (bif Nat.ble 8 m then (bif Nat.ble 9 m then (bif Nat.ble 10 m then 2 else 2) else 5) else (bif Nat.ble 6 m then (bif Nat.ble 7 m then 5 else 2) else 7)) else (bif Nat.ble 2 m then (bif Nat.ble 3 m then (bif Nat.ble 4 m then 2 else 2) else 4) else (bif Nat.ble 1 m then 2 else 11)))))
def pRet (m : Nat) : Option FieldType := (bif Nat.ble 22 m then (bif Nat.ble 33 m then (bif Nat.ble 38 m then (bif Nat.ble 41 m then (bif Nat.ble 42 m then (bif Nat.ble 43 m then none else none) else none) else (bif Nat.ble 39 m then (bif Nat.ble 40 m then none else none) else none)) else (bif Nat.ble 35 m then (bif Nat.ble 36 m then (bif Nat.ble 37 m then none else (some .int)) else none) else (bif Nat.ble 34 m then (some .boolean) else none))) else (bif Nat.ble 27 m then (bif Nat.ble 30 m then (bif Nat.ble 31 m then (bif Nat.ble 32 m then (some .int) else (some .int)) else (some .boolean)) else (bif Nat.ble 28 m then (bif Nat.ble 29 m then (some .int) else none) else none)) else (bif Nat.ble 24 m then (bif Nat.ble 25 m then (bif Nat.ble 26 m then none else (some .int)) else (some .int)) else (bif Nat.ble 23 m then (some .boolean) else (some .int))))) else (bif Nat.ble 11 m then (bif Nat.ble 16 m then (bif Nat.ble 19 m then (bif Nat.ble 20 m then (bif Nat.ble 21 m then (some .int) else (some .int)) else (some .int)) else (bif Nat.ble 17 m then (bif Nat.ble 18 m then (some .int) else (some .int)) else (some .boolean))) else (bif Nat.ble 13 m then (bif Nat.ble 14 m then (bif Nat.ble 15 m then (some .int) else (some .int)) else (some .int)) else (bif Nat.ble 12 m then (some .boolean) else (some .int)))) else (bif Nat.ble 5 m then (bif Nat.ble 8 m then (bif Nat.ble 9 m then (bif Nat.ble 10 m then (some .int) else (some .int)) else none) else (bif Nat.ble 6 m then (bif Nat.ble 7 m then none else (some .boolean)) else none)) else (bif Nat.ble 2 m then (bif Nat.ble 3 m then (bif Nat.ble 4 m then none else none) else none) else (bif Nat.ble 1 m then (some .int) else (some .boolean))))))
def pNA (m : Nat) : Nat := (bif Nat.ble 22 m then (bif Nat.ble 33 m then (bif Nat.ble 38 m then (bif Nat.ble 41 m then (bif Nat.ble 42 m then (bif Nat.ble 43 m then 0 else 3) else 3) else (bif Nat.ble 39 m then (bif Nat.ble 40 m then 3 else 1) else 1)) else (bif Nat.ble 35 m then (bif Nat.ble 36 m then (bif Nat.ble 37 m then 1 else 2) else 3) else (bif Nat.ble 34 m then 2 else 1))) else (bif Nat.ble 27 m then (bif Nat.ble 30 m then (bif Nat.ble 31 m then (bif Nat.ble 32 m then 4 else 1) else 2) else (bif Nat.ble 28 m then (bif Nat.ble 29 m then 2 else 3) else 2)) else (bif Nat.ble 24 m then (bif Nat.ble 25 m then (bif Nat.ble 26 m then 2 else 2) else 6) else (bif Nat.ble 23 m then 1 else 2)))) else (bif Nat.ble 11 m then (bif Nat.ble 16 m then (bif Nat.ble 19 m then (bif Nat.ble 20 m then (bif Nat.ble 21 m then 1 else 1) else 1) else (bif Nat.ble 17 m then (bif Nat.ble 18 m then 1 else 1) else 1)) else (bif Nat.ble 13 m then (bif Nat.ble 14 m then (bif Nat.ble 15 m then 1 else 0) else 0) else (bif Nat.ble 12 m then 6 else 2))) else (bif Nat.ble 5 m then (bif Nat.ble 8 m then (bif Nat.ble 9 m then (bif Nat.ble 10 m then 2 else 2) else 2) else (bif Nat.ble 6 m then (bif Nat.ble 7 m then 2 else 1) else 5)) else (bif Nat.ble 2 m then (bif Nat.ble 3 m then (bif Nat.ble 4 m then 1 else 1) else 1) else (bif Nat.ble 1 m then 2 else 1)))))
def pFr (m : Nat) : Nat := (bif Nat.ble 22 m then (bif Nat.ble 33 m then (bif Nat.ble 38 m then (bif Nat.ble 41 m then (bif Nat.ble 42 m then (bif Nat.ble 43 m then 4 else 1) else 1) else (bif Nat.ble 39 m then (bif Nat.ble 40 m then 1 else 3) else 4)) else (bif Nat.ble 35 m then (bif Nat.ble 36 m then (bif Nat.ble 37 m then 4 else 0) else 1) else (bif Nat.ble 34 m then 0 else 5))) else (bif Nat.ble 27 m then (bif Nat.ble 30 m then (bif Nat.ble 31 m then (bif Nat.ble 32 m then 6 else 0) else 1) else (bif Nat.ble 28 m then (bif Nat.ble 29 m then 1 else 1) else 1)) else (bif Nat.ble 24 m then (bif Nat.ble 25 m then (bif Nat.ble 26 m then 3 else 4) else 2) else (bif Nat.ble 23 m then 0 else 1)))) else (bif Nat.ble 11 m then (bif Nat.ble 16 m then (bif Nat.ble 19 m then (bif Nat.ble 20 m then (bif Nat.ble 21 m then 1 else 1) else 0) else (bif Nat.ble 17 m then (bif Nat.ble 18 m then 1 else 1) else 0)) else (bif Nat.ble 13 m then (bif Nat.ble 14 m then (bif Nat.ble 15 m then 1 else 0) else 0) else (bif Nat.ble 12 m then 5 else 4))) else (bif Nat.ble 5 m then (bif Nat.ble 8 m then (bif Nat.ble 9 m then (bif Nat.ble 10 m then 1 else 1) else 1) else (bif Nat.ble 6 m then (bif Nat.ble 7 m then 1 else 0) else 1)) else (bif Nat.ble 2 m then (bif Nat.ble 3 m then (bif Nat.ble 4 m then 2 else 3) else 4) else (bif Nat.ble 1 m then 0 else 7)))))
def pLo (m : Nat) : Nat := (bif Nat.ble 22 m then (bif Nat.ble 33 m then (bif Nat.ble 38 m then (bif Nat.ble 41 m then (bif Nat.ble 42 m then (bif Nat.ble 43 m then 57 else 14) else 14) else (bif Nat.ble 39 m then (bif Nat.ble 40 m then 14 else 44) else 59)) else (bif Nat.ble 35 m then (bif Nat.ble 36 m then (bif Nat.ble 37 m then 59 else 0) else 14) else (bif Nat.ble 34 m then 0 else 72))) else (bif Nat.ble 27 m then (bif Nat.ble 30 m then (bif Nat.ble 31 m then (bif Nat.ble 32 m then 87 else 0) else 13) else (bif Nat.ble 28 m then (bif Nat.ble 29 m then 13 else 13) else 13)) else (bif Nat.ble 24 m then (bif Nat.ble 25 m then (bif Nat.ble 26 m then 44 else 59) else 26) else (bif Nat.ble 23 m then 0 else 13)))) else (bif Nat.ble 11 m then (bif Nat.ble 16 m then (bif Nat.ble 19 m then (bif Nat.ble 20 m then (bif Nat.ble 21 m then 13 else 14) else 0) else (bif Nat.ble 17 m then (bif Nat.ble 18 m then 14 else 13) else 0)) else (bif Nat.ble 13 m then (bif Nat.ble 14 m then (bif Nat.ble 15 m then 13 else 0) else 0) else (bif Nat.ble 12 m then 73 else 57))) else (bif Nat.ble 5 m then (bif Nat.ble 8 m then (bif Nat.ble 9 m then (bif Nat.ble 10 m then 14 else 14) else 13) else (bif Nat.ble 6 m then (bif Nat.ble 7 m then 13 else 0) else 13)) else (bif Nat.ble 2 m then (bif Nat.ble 3 m then (bif Nat.ble 4 m then 31 else 44) else 57) else (bif Nat.ble 1 m then 0 else 106)))))
def tB (k p : Nat) (a b : Option (Instr × Nat)) : Option (Instr × Nat) := bif Nat.ble k p then a else b
def tL (k p : Nat) (i : Instr) (x : Nat) : Option (Instr × Nat) := bif Nat.beq p k then some (i, x) else none
set_option maxHeartbeats 4000000 in
def cd0 (p : Nat) : Option (Instr × Nat) := (tB 122 p (tB 194 p (tB 235 p (tB 249 p (tB 260 p (tB 264 p (tB 267 p (tB 268 p (tL 268 p .ireturn 0) (tL 267 p (.iconst 1) 0)) (tL 264 p (.goto (-155)) 109)) (tB 261 p (tL 261 p (.iinc 6 1) 0) (tL 260 p .ireturn 0))) (tB 253 p (tB 256 p (tB 259 p (tL 259 p (.iconst 0) 0) (tL 256 p (.ifCond .ne 5) 261)) (tL 253 p (.invokestatic 69) 12)) (tB 251 p (tL 251 p (.iload 5) 0) (tL 249 p (.iload 6) 0)))) (tB 242 p (tB 245 p (tB 246 p (tB 247 p (tL 247 p (.iload 4) 0) (tL 246 p (.iload_n 1) 0)) (tL 245 p (.aload_n 0) 0)) (tB 244 p (tL 244 p (.aload_n 2) 0) (tL 242 p (.istore 4) 0))) (tB 238 p (tB 240 p (tB 241 p (tL 241 p .iadd 0) (tL 240 p (.iconst 1) 0)) (tL 238 p (.iload 6) 0)) (tB 236 p (tL 236 p (.istore 5) 0) (tL 235 p (.iconst 0) 0))))) (tB 213 p (tB 226 p (tB 228 p (tB 231 p (tB 232 p (tL 232 p (.invokevirtual 77) 43) (tL 231 p (.aload_n 2) 0)) (tL 228 p (.goto 16) 244)) (tB 227 p (tL 227 p .ireturn 0) (tL 226 p (.iconst 0) 0))) (tB 219 p (tB 221 p (tB 223 p (tL 223 p (.if_icmp .eq 5) 228) (tL 221 p (.iload 9) 0)) (tL 219 p (.iload 8) 0)) (tB 216 p (tL 216 p (.goto (-24)) 192) (tL 213 p (.iinc 10 1) 0)))) (tB 201 p (tB 206 p (tB 207 p (tB 210 p (tL 210 p (.iinc 9 1) 0) (tL 207 p (.ifCond .ne 6) 213)) (tL 206 p .irem 0)) (tB 203 p (tL 203 p (.invokestatic 34) 10) (tL 201 p (.iload 10) 0))) (tB 198 p (tB 200 p (tL 200 p (.aload_n 0) 0) (tL 198 p (.iload 5) 0)) (tB 195 p (tL 195 p (.if_icmp .ge 24) 219) (tL 194 p (.iload_n 1) 0)))))) (tB 157 p (tB 172 p (tB 186 p (tB 189 p (tB 190 p (tB 192 p (tL 192 p (.iload 10) 0) (tL 190 p (.istore 10) 0)) (tL 189 p (.iconst 0) 0)) (tB 187 p (tL 187 p (.istore 9) 0) (tL 186 p (.iconst 0) 0))) (tB 178 p (tB 181 p (tB 183 p (tL 183 p (.iinc 5 1) 0) (tL 181 p (.istore 8) 0)) (tL 178 p (.invokevirtual 73) 32)) (tB 175 p (tL 175 p (.invokestatic 18) 31) (tL 172 p (.invokestatic 10) 1)))) (tB 164 p (tB 168 p (tB 170 p (tB 171 p (tL 171 p .iadd 0) (tL 170 p (.iconst 4) 0)) (tL 168 p (.iload 7) 0)) (tB 167 p (tL 167 p (.aload_n 0) 0) (tL 164 p (.invokestatic 18) 31))) (tB 160 p (tB 161 p (tL 161 p (.invokestatic 10) 1) (tL 160 p .iadd 0)) (tB 159 p (tL 159 p (.iconst 3) 0) (tL 157 p (.iload 7) 0))))) (tB 138 p (tB 148 p (tB 150 p (tB 153 p (tB 156 p (tL 156 p (.aload_n 0) 0) (tL 153 p (.invokestatic 18) 31)) (tL 150 p (.invokestatic 10) 1)) (tB 149 p (tL 149 p .iadd 0) (tL 148 p (.iconst 2) 0))) (tB 142 p (tB 145 p (tB 146 p (tL 146 p (.iload 7) 0) (tL 145 p (.aload_n 0) 0)) (tL 142 p (.invokestatic 18) 31)) (tB 139 p (tL 139 p (.invokestatic 10) 1) (tL 138 p .iadd 0)))) (tB 130 p (tB 134 p (tB 135 p (tB 137 p (tL 137 p (.iconst 1) 0) (tL 135 p (.iload 7) 0)) (tL 134 p (.aload_n 0) 0)) (tB 133 p (tL 133 p (.aload_n 2) 0) (tL 130 p (.ifCond .eq 101) 231))) (tB 125 p (tB 127 p (tL 127 p (.invokestatic 14) 30) (tL 125 p (.iload 6) 0)) (tB 124 p (tL 124 p (.aload_n 0) 0) (tL 122 p (.istore 7) 0))))))) (tB 61 p (tB 91 p (tB 106 p (tB 115 p (tB 118 p (tB 120 p (tB 121 p (tL 121 p .iadd 0) (tL 120 p .imul 0)) (tL 118 p (.iload 6) 0)) (tB 117 p (tL 117 p (.iconst 5) 0) (tL 115 p (.bipush 9) 0))) (tB 109 p (tB 111 p (tB 112 p (tL 112 p (.if_icmp .ge 155) 267) (tL 111 p (.iload_n 3) 0)) (tL 109 p (.iload 6) 0)) (tB 107 p (tL 107 p (.istore 6) 0) (tL 106 p (.iconst 0) 0)))) (tB 96 p (tB 101 p (tB 104 p (tB 105 p (tL 105 p .ireturn 0) (tL 104 p (.iconst 0) 0)) (tL 101 p (.ifCond .ne 5) 106)) (tB 98 p (tL 98 p (.invokestatic 69) 12) (tL 96 p (.iload 5) 0))) (tB 93 p (tB 95 p (tL 95 p (.iconst (-1)) 0) (tL 93 p (.iload 4) 0)) (tB 92 p (tL 92 p (.iload_n 1) 0) (tL 91 p (.aload_n 0) 0))))) (tB 73 p (tB 84 p (tB 87 p (tB 88 p (tB 90 p (tL 90 p (.aload_n 2) 0) (tL 88 p (.istore 5) 0)) (tL 87 p (.iconst 0) 0)) (tB 85 p (tL 85 p (.istore 4) 0) (tL 84 p (.iconst 0) 0))) (tB 77 p (tB 80 p (tB 83 p (tL 83 p (.istore_n 3) 0) (tL 80 p (.sipush 200) 0)) (tL 77 p (.if_icmp .le 7) 84)) (tB 74 p (tL 74 p (.sipush 200) 0) (tL 73 p (.iload_n 3) 0)))) (tB 66 p (tB 68 p (tB 71 p (tB 72 p (tL 72 p (.istore_n 3) 0) (tL 71 p (.iconst 0) 0)) (tL 68 p (.goto 4) 72)) (tB 67 p (tL 67 p .idiv 0) (tL 66 p (.iconst 5) 0))) (tB 64 p (tB 65 p (tL 65 p .iadd 0) (tL 64 p (.iconst 4) 0)) (tB 63 p (tL 63 p .isub 0) (tL 61 p (.bipush 9) 0)))))) (tB 27 p (tB 44 p (tB 53 p (tB 56 p (tB 59 p (tB 60 p (tL 60 p .arraylength 0) (tL 59 p (.aload_n 0) 0)) (tL 56 p (.if_icmp .le 15) 71)) (tB 54 p (tL 54 p (.bipush 9) 0) (tL 53 p .arraylength 0))) (tB 46 p (tB 49 p (tB 52 p (tL 52 p (.aload_n 0) 0) (tL 49 p (.goto (-28)) 21)) (tL 46 p (.iinc 3 1) 0)) (tB 45 p (tL 45 p .ireturn 0) (tL 44 p (.iconst 0) 0)))) (tB 33 p (tB 37 p (tB 40 p (tB 41 p (tL 41 p (.if_icmp .eq 5) 46) (tL 40 p (.iload_n 3) 0)) (tL 37 p (.invokevirtual 66) 11)) (tB 34 p (tL 34 p (.invokestatic 34) 10) (tL 33 p (.iload_n 3) 0))) (tB 29 p (tB 32 p (tL 32 p (.aload_n 0) 0) (tL 29 p (.invokestatic 31) 9)) (tB 28 p (tL 28 p (.iload_n 3) 0) (tL 27 p (.aload_n 0) 0))))) (tB 13 p (tB 20 p (tB 22 p (tB 23 p (tB 26 p (tL 26 p (.aload_n 2) 0) (tL 23 p (.if_icmp .ge 29) 52)) (tL 22 p (.iload_n 1) 0)) (tB 21 p (tL 21 p (.iload_n 3) 0) (tL 20 p (.istore_n 3) 0))) (tB 15 p (tB 18 p (tB 19 p (tL 19 p (.iconst 0) 0) (tL 18 p (.astore_n 2) 0)) (tL 15 p (.invokespecial 63) 2)) (tB 14 p (tL 14 p (.iload_n 1) 0) (tL 13 p .dup 0)))) (tB 6 p (tB 8 p (tB 9 p (tB 10 p (tL 10 p (.new 23) 0) (tL 9 p (.istore_n 1) 0)) (tL 8 p .iadd 0)) (tB 7 p (tL 7 p .iand 0) (tL 6 p (.iconst 3) 0))) (tB 2 p (tB 3 p (tL 3 p (.invokestatic 10) 1) (tL 2 p (.iconst 0) 0)) (tB 1 p (tL 1 p (.aload_n 0) 0) (tL 0 p (.iconst 1) 0))))))))
set_option maxHeartbeats 4000000 in
def cd1 (p : Nat) : Option (Instr × Nat) := (tB 7 p (tB 9 p (tB 12 p (tB 13 p (tL 13 p .ireturn 0) (tL 12 p (.iconst 0) 0)) (tL 9 p (.goto 4) 13)) (tB 8 p (tL 8 p .iaload 0) (tL 7 p (.iload_n 1) 0))) (tB 2 p (tB 3 p (tB 6 p (tL 6 p (.aload_n 0) 0) (tL 3 p (.if_icmp .ge 9) 12)) (tL 2 p .arraylength 0)) (tB 1 p (tL 1 p (.aload_n 0) 0) (tL 0 p (.iload_n 1) 0))))
set_option maxHeartbeats 4000000 in
def cd2 (p : Nat) : Option (Instr × Nat) := (tB 81 p (tB 119 p (tB 136 p (tB 143 p (tB 148 p (tB 151 p (tB 154 p (tL 154 p .return_ 0) (tL 151 p (.goto (-13)) 138)) (tL 148 p (.iinc 3 1) 0)) (tB 144 p (tB 145 p (tL 145 p (.invokevirtual 65) 3) (tL 144 p (.iload_n 3) 0)) (tL 143 p (.aload_n 0) 0))) (tB 138 p (tB 139 p (tB 140 p (tL 140 p (.if_icmp .ge 14) 154) (tL 139 p (.iconst 4) 0)) (tL 138 p (.iload_n 3) 0)) (tB 137 p (tL 137 p (.istore_n 3) 0) (tL 136 p (.iconst 0) 0)))) (tB 126 p (tB 131 p (tB 132 p (tB 133 p (tL 133 p (.putfield 62) 17) (tL 132 p (.iconst 0) 0)) (tL 131 p (.aload_n 0) 0)) (tB 127 p (tB 128 p (tL 128 p (.putfield 59) 16) (tL 127 p (.iconst 0) 0)) (tL 126 p (.aload_n 0) 0))) (tB 121 p (tB 122 p (tB 123 p (tL 123 p (.putfield 56) 15) (tL 122 p (.iload_n 2) 0)) (tL 121 p (.aload_n 0) 0)) (tB 120 p (tL 120 p (.istore_n 2) 0) (tL 119 p (.iconst 4) 0))))) (tB 102 p (tB 109 p (tB 114 p (tB 115 p (tB 116 p (tL 116 p (.if_icmp .le 5) 121) (tL 115 p (.iconst 4) 0)) (tL 114 p (.iload_n 2) 0)) (tB 112 p (tB 113 p (tL 113 p (.istore_n 2) 0) (tL 112 p (.iconst 1) 0)) (tL 109 p (.if_icmp .ge 5) 114))) (tB 106 p (tB 107 p (tB 108 p (tL 108 p (.iconst 1) 0) (tL 107 p (.iload_n 2) 0)) (tL 106 p (.istore_n 2) 0)) (tB 105 p (tL 105 p (.iload_n 1) 0) (tL 102 p (.putfield 53) 14)))) (tB 90 p (tB 97 p (tB 98 p (tB 100 p (tL 100 p (.newarray .int) 0) (tL 98 p (.bipush 16) 0)) (tL 97 p (.aload_n 0) 0)) (tB 92 p (tB 94 p (tL 94 p (.putfield 50) 13) (tL 92 p (.newarray .int) 0)) (tL 90 p (.bipush 16) 0))) (tB 84 p (tB 86 p (tB 89 p (tL 89 p (.aload_n 0) 0) (tL 86 p (.putfield 47) 12)) (tL 84 p (.newarray .int) 0)) (tB 82 p (tL 82 p (.bipush 16) 0) (tL 81 p (.aload_n 0) 0)))))) (tB 37 p (tB 57 p (tB 67 p (tB 73 p (tB 76 p (tB 78 p (tL 78 p (.putfield 44) 11) (tL 76 p (.newarray .int) 0)) (tL 73 p (.sipush 512) 0)) (tB 69 p (tB 72 p (tL 72 p (.aload_n 0) 0) (tL 69 p (.putfield 41) 10)) (tL 67 p (.newarray .int) 0))) (tB 60 p (tB 63 p (tB 64 p (tL 64 p (.sipush 512) 0) (tL 63 p (.aload_n 0) 0)) (tL 60 p (.putfield 38) 9)) (tB 58 p (tL 58 p (.newarray .int) 0) (tL 57 p (.iconst 4) 0)))) (tB 46 p (tB 51 p (tB 53 p (tB 56 p (tL 56 p (.aload_n 0) 0) (tL 53 p (.putfield 35) 8)) (tL 51 p (.newarray .int) 0)) (tB 49 p (tB 50 p (tL 50 p (.iconst 4) 0) (tL 49 p (.aload_n 0) 0)) (tL 46 p (.putfield 32) 7))) (tB 42 p (tB 43 p (tB 44 p (tL 44 p (.newarray .int) 0) (tL 43 p (.iconst 4) 0)) (tL 42 p (.aload_n 0) 0)) (tB 39 p (tL 39 p (.putfield 28) 6) (tL 37 p (.newarray .int) 0))))) (tB 19 p (tB 26 p (tB 32 p (tB 35 p (tB 36 p (tL 36 p (.iconst 4) 0) (tL 35 p (.aload_n 0) 0)) (tL 32 p (.putfield 25) 5)) (tB 29 p (tB 30 p (tL 30 p (.bipush 32) 0) (tL 29 p (.aload_n 0) 0)) (tL 26 p (.putfield 22) 4))) (tB 21 p (tB 24 p (tB 25 p (tL 25 p (.iconst 4) 0) (tL 24 p (.aload_n 0) 0)) (tL 21 p (.putfield 19) 3)) (tB 20 p (tL 20 p (.iconst 3) 0) (tL 19 p (.aload_n 0) 0)))) (tB 9 p (tB 14 p (tB 15 p (tB 16 p (tL 16 p (.putfield 16) 2) (tL 15 p (.iconst 2) 0)) (tL 14 p (.aload_n 0) 0)) (tB 10 p (tB 11 p (tL 11 p (.putfield 13) 1) (tL 10 p (.iconst 1) 0)) (tL 9 p (.aload_n 0) 0))) (tB 4 p (tB 5 p (tB 6 p (tL 6 p (.putfield 7) 0) (tL 5 p (.iconst 0) 0)) (tL 4 p (.aload_n 0) 0)) (tB 1 p (tL 1 p (.invokespecial 1) 0) (tL 0 p (.aload_n 0) 0)))))))
set_option maxHeartbeats 4000000 in
def cd3 (p : Nat) : Option (Instr × Nat) := (tB 22 p (tB 31 p (tB 36 p (tB 38 p (tB 41 p (tL 41 p .return_ 0) (tL 38 p (.invokevirtual 104) 8)) (tB 37 p (tL 37 p (.iconst 1) 0) (tL 36 p (.iload_n 1) 0))) (tB 32 p (tB 35 p (tL 35 p (.aload_n 0) 0) (tL 32 p (.invokevirtual 101) 7)) (tL 31 p (.iconst 1) 0))) (tB 25 p (tB 29 p (tB 30 p (tL 30 p (.iload_n 1) 0) (tL 29 p (.aload_n 0) 0)) (tB 26 p (tL 26 p (.invokevirtual 98) 4) (tL 25 p (.iconst 1) 0))) (tB 23 p (tB 24 p (tL 24 p (.aload_n 0) 0) (tL 23 p .iastore 0)) (tL 22 p (.iconst 0) 0)))) (tB 11 p (tB 16 p (tB 18 p (tB 21 p (tL 21 p (.iload_n 1) 0) (tL 18 p (.getfield 38) 9)) (tB 17 p (tL 17 p (.aload_n 0) 0) (tL 16 p .iastore 0))) (tB 14 p (tB 15 p (tL 15 p (.iconst 0) 0) (tL 14 p (.iload_n 1) 0)) (tL 11 p (.getfield 35) 8))) (tB 5 p (tB 9 p (tB 10 p (tL 10 p (.aload_n 0) 0) (tL 9 p .return_ 0)) (tB 6 p (tL 6 p (.if_icmp .lt 4) 10) (tL 5 p (.iconst 4) 0))) (tB 1 p (tB 4 p (tL 4 p (.iload_n 1) 0) (tL 1 p (.ifCond .lt 8) 9)) (tL 0 p (.iload_n 1) 0)))))
set_option maxHeartbeats 4000000 in
def cd4 (p : Nat) : Option (Instr × Nat) := (tB 4 p (tB 6 p (tB 9 p (tL 9 p .return_ 0) (tL 6 p (.invokevirtual 69) 5)) (tB 5 p (tL 5 p (.iconst 1) 0) (tL 4 p (.iconst 0) 0))) (tB 2 p (tB 3 p (tL 3 p (.iconst 0) 0) (tL 2 p (.iconst 1) 0)) (tB 1 p (tL 1 p (.iload_n 1) 0) (tL 0 p (.aload_n 0) 0))))
set_option maxHeartbeats 4000000 in
def cd5 (p : Nat) : Option (Instr × Nat) := (tB 29 p (tB 42 p (tB 49 p (tB 51 p (tB 53 p (tB 54 p (tL 54 p .return_ 0) (tL 53 p .iastore 0)) (tL 51 p (.iload 5) 0)) (tB 50 p (tL 50 p .iadd 0) (tL 49 p (.iconst 3) 0))) (tB 44 p (tB 47 p (tL 47 p (.iload 6) 0) (tL 44 p (.getfield 53) 14)) (tB 43 p (tL 43 p (.aload_n 0) 0) (tL 42 p .iastore 0)))) (tB 33 p (tB 38 p (tB 39 p (tB 40 p (tL 40 p (.iload 4) 0) (tL 39 p .iadd 0)) (tL 38 p (.iconst 2) 0)) (tB 36 p (tL 36 p (.iload 6) 0) (tL 33 p (.getfield 53) 14))) (tB 31 p (tB 32 p (tL 32 p (.aload_n 0) 0) (tL 31 p .iastore 0)) (tB 30 p (tL 30 p (.iload_n 3) 0) (tL 29 p .iadd 0))))) (tB 14 p (tB 21 p (tB 23 p (tB 26 p (tB 28 p (tL 28 p (.iconst 1) 0) (tL 26 p (.iload 6) 0)) (tL 23 p (.getfield 53) 14)) (tB 22 p (tL 22 p (.aload_n 0) 0) (tL 21 p .iastore 0))) (tB 18 p (tB 20 p (tL 20 p (.iload_n 2) 0) (tL 18 p (.iload 6) 0)) (tB 15 p (tL 15 p (.getfield 53) 14) (tL 14 p (.aload_n 0) 0)))) (tB 8 p (tB 10 p (tB 11 p (tB 12 p (tL 12 p (.istore 6) 0) (tL 11 p .imul 0)) (tL 10 p (.iconst 4) 0)) (tB 9 p (tL 9 p (.iload_n 1) 0) (tL 8 p .return_ 0))) (tB 2 p (tB 5 p (tL 5 p (.ifCond .ne 4) 9) (tL 2 p (.invokevirtual 136) 6)) (tB 1 p (tL 1 p (.iload_n 1) 0) (tL 0 p (.aload_n 0) 0))))))
set_option maxHeartbeats 4000000 in
def cd6 (p : Nat) : Option (Instr × Nat) := (tB 6 p (tB 10 p (tB 13 p (tB 14 p (tL 14 p .ireturn 0) (tL 13 p (.iconst 0) 0)) (tL 10 p (.goto 4) 14)) (tB 9 p (tL 9 p (.iconst 1) 0) (tL 6 p (.if_icmp .ge 7) 13))) (tB 4 p (tB 5 p (tL 5 p (.iconst 4) 0) (tL 4 p (.iload_n 1) 0)) (tB 1 p (tL 1 p (.ifCond .lt 12) 13) (tL 0 p (.iload_n 1) 0))))
set_option maxHeartbeats 4000000 in
def cd7 (p : Nat) : Option (Instr × Nat) := (tB 28 p (tB 42 p (tB 49 p (tB 51 p (tB 54 p (tB 57 p (tL 57 p .return_ 0) (tL 54 p (.goto (-29)) 25)) (tL 51 p (.iinc 4 1) 0)) (tB 50 p (tL 50 p .iastore 0) (tL 49 p .iaload 0))) (tB 46 p (tB 48 p (tL 48 p .iadd 0) (tL 46 p (.iload 4) 0)) (tB 45 p (tL 45 p (.iload_n 3) 0) (tL 42 p (.getfield 53) 14)))) (tB 36 p (tB 38 p (tB 40 p (tB 41 p (tL 41 p (.aload_n 0) 0) (tL 40 p .iadd 0)) (tL 38 p (.iload 4) 0)) (tB 37 p (tL 37 p .imul 0) (tL 36 p (.iconst 4) 0))) (tB 32 p (tB 35 p (tL 35 p (.iload_n 1) 0) (tL 32 p (.getfield 47) 12)) (tB 31 p (tL 31 p (.aload_n 0) 0) (tL 28 p (.if_icmp .ge 29) 57))))) (tB 17 p (tB 21 p (tB 23 p (tB 25 p (tB 27 p (tL 27 p (.iconst 4) 0) (tL 25 p (.iload 4) 0)) (tL 23 p (.istore 4) 0)) (tB 22 p (tL 22 p (.iconst 0) 0) (tL 21 p (.istore_n 3) 0))) (tB 19 p (tB 20 p (tL 20 p .imul 0) (tL 19 p (.iconst 4) 0)) (tB 18 p (tL 18 p (.iload_n 2) 0) (tL 17 p .return_ 0)))) (tB 8 p (tB 12 p (tB 13 p (tB 14 p (tL 14 p (.if_icmp .lt 4) 18) (tL 13 p (.iconst 4) 0)) (tL 12 p (.iload_n 1) 0)) (tB 9 p (tL 9 p (.ifCond .lt 8) 17) (tL 8 p (.iload_n 1) 0))) (tB 2 p (tB 5 p (tL 5 p (.ifCond .eq 12) 17) (tL 2 p (.invokevirtual 136) 6)) (tB 1 p (tL 1 p (.iload_n 2) 0) (tL 0 p (.aload_n 0) 0))))))
set_option maxHeartbeats 4000000 in
def cd8 (p : Nat) : Option (Instr × Nat) := (tB 28 p (tB 42 p (tB 49 p (tB 51 p (tB 54 p (tB 57 p (tL 57 p .return_ 0) (tL 54 p (.goto (-29)) 25)) (tL 51 p (.iinc 4 1) 0)) (tB 50 p (tL 50 p .iastore 0) (tL 49 p .iaload 0))) (tB 46 p (tB 48 p (tL 48 p .iadd 0) (tL 46 p (.iload 4) 0)) (tB 45 p (tL 45 p (.iload_n 3) 0) (tL 42 p (.getfield 53) 14)))) (tB 36 p (tB 38 p (tB 40 p (tB 41 p (tL 41 p (.aload_n 0) 0) (tL 40 p .iadd 0)) (tL 38 p (.iload 4) 0)) (tB 37 p (tL 37 p .imul 0) (tL 36 p (.iconst 4) 0))) (tB 32 p (tB 35 p (tL 35 p (.iload_n 1) 0) (tL 32 p (.getfield 50) 13)) (tB 31 p (tL 31 p (.aload_n 0) 0) (tL 28 p (.if_icmp .ge 29) 57))))) (tB 17 p (tB 21 p (tB 23 p (tB 25 p (tB 27 p (tL 27 p (.iconst 4) 0) (tL 25 p (.iload 4) 0)) (tL 23 p (.istore 4) 0)) (tB 22 p (tL 22 p (.iconst 0) 0) (tL 21 p (.istore_n 3) 0))) (tB 19 p (tB 20 p (tL 20 p .imul 0) (tL 19 p (.iconst 4) 0)) (tB 18 p (tL 18 p (.iload_n 2) 0) (tL 17 p .return_ 0)))) (tB 8 p (tB 12 p (tB 13 p (tB 14 p (tL 14 p (.if_icmp .lt 4) 18) (tL 13 p (.iconst 4) 0)) (tL 12 p (.iload_n 1) 0)) (tB 9 p (tL 9 p (.ifCond .lt 8) 17) (tL 8 p (.iload_n 1) 0))) (tB 2 p (tB 5 p (tL 5 p (.ifCond .eq 12) 17) (tL 2 p (.invokevirtual 136) 6)) (tB 1 p (tL 1 p (.iload_n 2) 0) (tL 0 p (.aload_n 0) 0))))))
set_option maxHeartbeats 4000000 in
def cd9 (p : Nat) : Option (Instr × Nat) := (tB 6 p (tB 12 p (tB 13 p (tB 14 p (tL 14 p .ireturn 0) (tL 13 p .iadd 0)) (tL 12 p .iand 0)) (tB 7 p (tB 10 p (tL 10 p (.bipush 31) 0) (tL 7 p (.invokestatic 10) 1)) (tL 6 p .iadd 0))) (tB 3 p (tB 4 p (tB 5 p (tL 5 p .imul 0) (tL 4 p (.iload_n 1) 0)) (tL 3 p (.iconst 2) 0)) (tB 1 p (tB 2 p (tL 2 p (.iconst 1) 0) (tL 1 p (.aload_n 0) 0)) (tL 0 p (.iconst 1) 0))))
set_option maxHeartbeats 4000000 in
def cd10 (p : Nat) : Option (Instr × Nat) := (tB 6 p (tB 12 p (tB 13 p (tB 14 p (tL 14 p .ireturn 0) (tL 13 p .iadd 0)) (tL 12 p .iand 0)) (tB 7 p (tB 10 p (tL 10 p (.bipush 31) 0) (tL 7 p (.invokestatic 10) 1)) (tL 6 p .iadd 0))) (tB 3 p (tB 4 p (tB 5 p (tL 5 p .imul 0) (tL 4 p (.iload_n 1) 0)) (tL 3 p (.iconst 2) 0)) (tB 1 p (tB 2 p (tL 2 p (.iconst 2) 0) (tL 1 p (.aload_n 0) 0)) (tL 0 p (.iconst 1) 0))))
set_option maxHeartbeats 4000000 in
def cd11 (p : Nat) : Option (Instr × Nat) := (tB 46 p (tB 65 p (tB 73 p (tB 78 p (tB 82 p (tB 83 p (tL 83 p .ireturn 0) (tL 82 p (.iload_n 3) 0)) (tB 79 p (tL 79 p (.putfield 59) 16) (tL 78 p .iadd 0))) (tB 74 p (tB 77 p (tL 77 p (.iconst 1) 0) (tL 74 p (.getfield 59) 16)) (tL 73 p (.aload_n 0) 0))) (tB 68 p (tB 69 p (tB 72 p (tL 72 p (.aload_n 0) 0) (tL 69 p (.invokevirtual 65) 3)) (tL 68 p (.iload_n 3) 0)) (tB 66 p (tB 67 p (tL 67 p (.aload_n 0) 0) (tL 66 p .iastore 0)) (tL 65 p (.iload_n 2) 0)))) (tB 54 p (tB 59 p (tB 61 p (tB 64 p (tL 64 p (.iload_n 3) 0) (tL 61 p (.getfield 32) 7)) (tB 60 p (tL 60 p (.aload_n 0) 0) (tL 59 p .iastore 0))) (tB 57 p (tB 58 p (tL 58 p (.iload_n 1) 0) (tL 57 p (.iload_n 3) 0)) (tL 54 p (.getfield 28) 6))) (tB 49 p (tB 52 p (tB 53 p (tL 53 p (.aload_n 0) 0) (tL 52 p (.istore_n 3) 0)) (tL 49 p (.getfield 59) 16)) (tB 47 p (tB 48 p (tL 48 p (.aload_n 0) 0) (tL 47 p .ireturn 0)) (tL 46 p (.iconst (-1)) 0))))) (tB 23 p (tB 34 p (tB 37 p (tB 41 p (tB 43 p (tL 43 p (.if_icmp .le 5) 48) (tL 41 p (.bipush 32) 0)) (tB 40 p (tL 40 p (.iload_n 2) 0) (tL 37 p (.if_icmp .lt 9) 46))) (tB 35 p (tB 36 p (tL 36 p (.iconst 1) 0) (tL 35 p (.iload_n 2) 0)) (tL 34 p .ireturn 0))) (tB 28 p (tB 30 p (tB 33 p (tL 33 p (.iconst (-1)) 0) (tL 30 p (.if_icmp .le 5) 35)) (tL 28 p (.bipush 32) 0)) (tB 24 p (tB 27 p (tL 27 p (.iload_n 1) 0) (tL 24 p (.if_icmp .lt 9) 33)) (tL 23 p (.iconst 1) 0)))) (tB 10 p (tB 17 p (tB 21 p (tB 22 p (tL 22 p (.iload_n 1) 0) (tL 21 p .ireturn 0)) (tB 20 p (tL 20 p (.iconst (-1)) 0) (tL 17 p (.if_icmp .lt 5) 22))) (tB 13 p (tB 14 p (tL 14 p (.getfield 56) 15) (tL 13 p (.aload_n 0) 0)) (tL 10 p (.getfield 59) 16))) (tB 7 p (tB 8 p (tB 9 p (tL 9 p (.aload_n 0) 0) (tL 8 p .ireturn 0)) (tL 7 p (.iconst (-1)) 0)) (tB 1 p (tB 4 p (tL 4 p (.ifCond .eq 5) 9) (tL 1 p (.getfield 62) 17)) (tL 0 p (.aload_n 0) 0))))))
set_option maxHeartbeats 4000000 in
def cd12 (p : Nat) : Option (Instr × Nat) := (tB 113 p (tB 170 p (tB 199 p (tB 215 p (tB 223 p (tB 229 p (tB 230 p (tL 230 p .ireturn 0) (tL 229 p (.iconst 1) 0)) (tB 226 p (tL 226 p (.goto (-202)) 24) (tL 223 p (.iinc 6 1) 0))) (tB 217 p (tB 220 p (tL 220 p (.goto (-61)) 159) (tL 217 p (.iinc 12 1) 0)) (tB 216 p (tL 216 p .ireturn 0) (tL 215 p (.iconst 0) 0)))) (tB 205 p (tB 209 p (tB 212 p (tL 212 p (.if_icmp .eq 5) 217) (tL 209 p (.invokestatic 56) 24)) (tB 207 p (tL 207 p (.iload 12) 0) (tL 205 p (.iload 5) 0))) (tB 201 p (tB 203 p (tL 203 p (.iload 11) 0) (tL 201 p (.iload 4) 0)) (tB 200 p (tL 200 p (.iload_n 3) 0) (tL 199 p (.aload_n 1) 0))))) (tB 183 p (tB 191 p (tB 194 p (tB 196 p (tL 196 p (.invokevirtual 60) 25) (tL 194 p (.iload 12) 0)) (tB 192 p (tL 192 p (.iload 6) 0) (tL 191 p (.aload_n 0) 0))) (tB 189 p (tB 190 p (tL 190 p .ireturn 0) (tL 189 p (.iconst 0) 0)) (tB 186 p (tL 186 p (.if_icmp .eq 5) 191) (tL 183 p (.invokestatic 56) 24)))) (tB 175 p (tB 179 p (tB 181 p (tL 181 p (.iload 12) 0) (tL 179 p (.iload 9) 0)) (tB 177 p (tL 177 p (.iload 10) 0) (tL 175 p (.iload 4) 0))) (tB 173 p (tB 174 p (tL 174 p (.iload_n 3) 0) (tL 173 p (.aload_n 1) 0)) (tL 170 p (.invokevirtual 52) 22))))) (tB 143 p (tB 156 p (tB 162 p (tB 166 p (tB 168 p (tL 168 p (.iload 12) 0) (tL 166 p (.iload 6) 0)) (tB 165 p (tL 165 p (.aload_n 0) 0) (tL 162 p (.if_icmp .ge 61) 223))) (tB 159 p (tB 161 p (tL 161 p (.iconst 4) 0) (tL 159 p (.iload 12) 0)) (tB 157 p (tL 157 p (.istore 12) 0) (tL 156 p (.iconst 0) 0)))) (tB 150 p (tB 154 p (tB 155 p (tL 155 p .ireturn 0) (tL 154 p (.iconst 0) 0)) (tB 151 p (tL 151 p (.if_icmp .eq 5) 156) (tL 150 p .idiv 0))) (tB 146 p (tB 148 p (tL 148 p (.iload 8) 0) (tL 146 p (.iload 5) 0)) (tL 143 p (.invokevirtual 49) 21)))) (tB 126 p (tB 135 p (tB 140 p (tB 141 p (tL 141 p (.iload 6) 0) (tL 140 p (.aload_n 0) 0)) (tB 137 p (tL 137 p (.if_icmp .ne 17) 154) (tL 135 p (.iload 9) 0))) (tB 130 p (tB 132 p (tL 132 p (.invokevirtual 46) 20) (tL 130 p (.iload 6) 0)) (tB 129 p (tL 129 p (.aload_n 0) 0) (tL 126 p (.if_icmp .ne 28) 154)))) (tB 118 p (tB 121 p (tB 124 p (tL 124 p (.iload 10) 0) (tL 121 p (.invokevirtual 43) 18)) (tB 119 p (tL 119 p (.iload 6) 0) (tL 118 p (.aload_n 0) 0))) (tB 115 p (tB 116 p (tL 116 p (.istore 11) 0) (tL 115 p .isub 0)) (tL 113 p (.iload 7) 0)))))) (tB 57 p (tB 84 p (tB 97 p (tB 104 p (tB 108 p (tB 111 p (tL 111 p (.iload 5) 0) (tL 108 p (.goto 8) 116)) (tB 107 p (tL 107 p (.iconst 0) 0) (tL 104 p (.ifCond .ge 7) 111))) (tB 101 p (tB 103 p (tL 103 p .isub 0) (tL 101 p (.iload 7) 0)) (tB 99 p (tL 99 p (.iload 5) 0) (tL 97 p (.istore 10) 0)))) (tB 89 p (tB 94 p (tB 96 p (tL 96 p .isub 0) (tL 94 p (.iload 7) 0)) (tB 92 p (tL 92 p (.iload 9) 0) (tL 89 p (.goto 8) 97))) (tB 85 p (tB 88 p (tL 88 p (.iconst 0) 0) (tL 85 p (.ifCond .ge 7) 92)) (tL 84 p .isub 0)))) (tB 70 p (tB 77 p (tB 80 p (tB 82 p (tL 82 p (.iload 7) 0) (tL 80 p (.iload 9) 0)) (tB 78 p (tL 78 p (.istore 9) 0) (tL 77 p .imul 0))) (tB 74 p (tB 76 p (tL 76 p .idiv 0) (tL 74 p (.iload 8) 0)) (tB 72 p (tL 72 p (.iload 5) 0) (tL 70 p (.iload 8) 0)))) (tB 63 p (tB 68 p (tB 69 p (tL 69 p .ireturn 0) (tL 68 p (.iconst 0) 0)) (tB 65 p (tL 65 p (.if_icmp .eq 5) 70) (tL 63 p (.iload 8) 0))) (tB 58 p (tB 60 p (tL 60 p (.invokevirtual 40) 17) (tL 58 p (.iload 6) 0)) (tL 57 p (.aload_n 0) 0))))) (tB 26 p (tB 39 p (tB 47 p (tB 52 p (tB 54 p (tL 54 p (.if_icmp .ne 14) 68) (tL 52 p (.iload 7) 0)) (tB 49 p (tL 49 p (.invokevirtual 37) 15) (tL 47 p (.iload 6) 0))) (tB 44 p (tB 46 p (tL 46 p (.aload_n 0) 0) (tL 44 p (.istore 8) 0)) (tB 41 p (tL 41 p (.invokestatic 34) 10) (tL 39 p (.iload 6) 0)))) (tB 31 p (tB 36 p (tB 38 p (tL 38 p (.aload_n 1) 0) (tL 36 p (.istore 7) 0)) (tB 33 p (tL 33 p (.invokestatic 31) 9) (tL 31 p (.iload 6) 0))) (tB 27 p (tB 30 p (tL 30 p (.aload_n 1) 0) (tL 27 p (.if_icmp .ge 202) 229)) (tL 26 p (.iload_n 2) 0)))) (tB 12 p (tB 20 p (tB 22 p (tB 24 p (tL 24 p (.iload 6) 0) (tL 22 p (.istore 6) 0)) (tB 21 p (tL 21 p (.iconst 0) 0) (tL 20 p .ireturn 0))) (tB 16 p (tB 19 p (tL 19 p (.iconst 0) 0) (tL 16 p (.if_icmp .eq 5) 21)) (tB 15 p (tL 15 p (.iload_n 2) 0) (tL 12 p (.invokevirtual 28) 14)))) (tB 6 p (tB 10 p (tB 11 p (tL 11 p (.aload_n 0) 0) (tL 10 p .ireturn 0)) (tB 9 p (tL 9 p (.iconst 0) 0) (tL 6 p (.if_icmp .eq 5) 11))) (tB 1 p (tB 4 p (tL 4 p (.iload 5) 0) (tL 1 p (.invokevirtual 22) 13)) (tL 0 p (.aload_n 0) 0)))))))
set_option maxHeartbeats 4000000 in
def cd13 (p : Nat) : Option (Instr × Nat) := (tB 1 p (tB 4 p (tL 4 p .ireturn 0) (tL 1 p (.getfield 62) 17)) (tL 0 p (.aload_n 0) 0))
set_option maxHeartbeats 4000000 in
def cd14 (p : Nat) : Option (Instr × Nat) := (tB 1 p (tB 4 p (tL 4 p .ireturn 0) (tL 1 p (.getfield 59) 16)) (tL 0 p (.aload_n 0) 0))
set_option maxHeartbeats 4000000 in
def cd15 (p : Nat) : Option (Instr × Nat) := (tB 9 p (tB 14 p (tB 15 p (tB 16 p (tL 16 p .ireturn 0) (tL 15 p .iaload 0)) (tL 14 p (.iload_n 1) 0)) (tB 10 p (tB 11 p (tL 11 p (.getfield 28) 6) (tL 10 p (.aload_n 0) 0)) (tL 9 p .ireturn 0))) (tB 2 p (tB 5 p (tB 8 p (tL 8 p (.iconst (-1)) 0) (tL 5 p (.ifCond .ne 5) 10)) (tL 2 p (.invokevirtual 79) 16)) (tB 1 p (tL 1 p (.iload_n 1) 0) (tL 0 p (.aload_n 0) 0))))
set_option maxHeartbeats 4000000 in
def cd16 (p : Nat) : Option (Instr × Nat) := (tB 12 p (tB 17 p (tB 21 p (tB 22 p (tL 22 p .ireturn 0) (tL 21 p (.iconst 0) 0)) (tB 18 p (tL 18 p (.goto 4) 22) (tL 17 p (.iconst 1) 0))) (tB 13 p (tB 14 p (tL 14 p (.if_icmp .ge 7) 21) (tL 13 p (.iconst 4) 0)) (tL 12 p (.iload_n 1) 0))) (tB 5 p (tB 6 p (tB 9 p (tL 9 p (.if_icmp .ge 12) 21) (tL 6 p (.getfield 59) 16)) (tL 5 p (.aload_n 0) 0)) (tB 1 p (tB 4 p (tL 4 p (.iload_n 1) 0) (tL 1 p (.ifCond .lt 20) 21)) (tL 0 p (.iload_n 1) 0))))
set_option maxHeartbeats 4000000 in
def cd17 (p : Nat) : Option (Instr × Nat) := (tB 9 p (tB 14 p (tB 15 p (tB 16 p (tL 16 p .ireturn 0) (tL 15 p .iaload 0)) (tL 14 p (.iload_n 1) 0)) (tB 10 p (tB 11 p (tL 11 p (.getfield 32) 7) (tL 10 p (.aload_n 0) 0)) (tL 9 p .ireturn 0))) (tB 2 p (tB 5 p (tB 8 p (tL 8 p (.iconst (-1)) 0) (tL 5 p (.ifCond .ne 5) 10)) (tL 2 p (.invokevirtual 79) 16)) (tB 1 p (tL 1 p (.iload_n 1) 0) (tL 0 p (.aload_n 0) 0))))
set_option maxHeartbeats 4000000 in
def cd18 (p : Nat) : Option (Instr × Nat) := (tB 16 p (tB 23 p (tB 28 p (tB 29 p (tB 30 p (tL 30 p .ireturn 0) (tL 29 p (.iload_n 2) 0)) (tL 28 p .ireturn 0)) (tB 24 p (tB 27 p (tL 27 p (.iconst 0) 0) (tL 24 p (.ifCond .ge 5) 29)) (tL 23 p (.iload_n 2) 0))) (tB 20 p (tB 21 p (tB 22 p (tL 22 p (.istore_n 2) 0) (tL 21 p .isub 0)) (tL 20 p .iaload 0)) (tB 19 p (tL 19 p (.iload_n 1) 0) (tL 16 p (.getfield 28) 6)))) (tB 9 p (tB 11 p (tB 12 p (tB 15 p (tL 15 p (.aload_n 0) 0) (tL 12 p (.invokevirtual 94) 19)) (tL 11 p (.iload_n 1) 0)) (tB 10 p (tL 10 p (.aload_n 0) 0) (tL 9 p .ireturn 0))) (tB 2 p (tB 5 p (tB 8 p (tL 8 p (.iconst (-1)) 0) (tL 5 p (.ifCond .ne 5) 10)) (tL 2 p (.invokevirtual 79) 16)) (tB 1 p (tL 1 p (.iload_n 1) 0) (tL 0 p (.aload_n 0) 0)))))
set_option maxHeartbeats 4000000 in
def cd19 (p : Nat) : Option (Instr × Nat) := (tB 12 p (tB 16 p (tB 20 p (tB 21 p (tB 22 p (tL 22 p .ireturn 0) (tL 21 p .imul 0)) (tL 20 p .idiv 0)) (tB 19 p (tL 19 p (.iload_n 2) 0) (tL 16 p (.getfield 62) 17))) (tB 14 p (tB 15 p (tL 15 p (.aload_n 0) 0) (tL 14 p (.iload_n 2) 0)) (tB 13 p (tL 13 p .ireturn 0) (tL 12 p (.iconst 0) 0)))) (tB 6 p (tB 8 p (tB 9 p (tL 9 p (.if_icmp .ge 5) 14) (tL 8 p (.iconst 1) 0)) (tB 7 p (tL 7 p (.iload_n 2) 0) (tL 6 p (.istore_n 2) 0))) (tB 4 p (tB 5 p (tL 5 p .iaload 0) (tL 4 p (.iload_n 1) 0)) (tB 1 p (tL 1 p (.getfield 32) 7) (tL 0 p (.aload_n 0) 0)))))
set_option maxHeartbeats 4000000 in
def cd20 (p : Nat) : Option (Instr × Nat) := (tB 9 p (tB 11 p (tB 12 p (tB 15 p (tL 15 p .ireturn 0) (tL 12 p (.invokevirtual 94) 19)) (tL 11 p (.iload_n 1) 0)) (tB 10 p (tL 10 p (.aload_n 0) 0) (tL 9 p .ireturn 0))) (tB 2 p (tB 5 p (tB 8 p (tL 8 p (.iconst (-1)) 0) (tL 5 p (.ifCond .ne 5) 10)) (tL 2 p (.invokevirtual 79) 16)) (tB 1 p (tL 1 p (.iload_n 1) 0) (tL 0 p (.aload_n 0) 0))))
set_option maxHeartbeats 4000000 in
def cd21 (p : Nat) : Option (Instr × Nat) := (tB 16 p (tB 23 p (tB 28 p (tB 29 p (tB 30 p (tL 30 p .ireturn 0) (tL 29 p .idiv 0)) (tL 28 p (.iload_n 2) 0)) (tB 24 p (tB 25 p (tL 25 p (.getfield 62) 17) (tL 24 p (.aload_n 0) 0)) (tL 23 p .ireturn 0))) (tB 18 p (tB 19 p (tB 22 p (tL 22 p (.iconst 0) 0) (tL 19 p (.if_icmp .ge 5) 24)) (tL 18 p (.iconst 1) 0)) (tB 17 p (tL 17 p (.iload_n 2) 0) (tL 16 p (.istore_n 2) 0)))) (tB 9 p (tB 11 p (tB 14 p (tB 15 p (tL 15 p .iaload 0) (tL 14 p (.iload_n 1) 0)) (tL 11 p (.getfield 32) 7)) (tB 10 p (tL 10 p (.aload_n 0) 0) (tL 9 p .ireturn 0))) (tB 2 p (tB 5 p (tB 8 p (tL 8 p (.iconst (-1)) 0) (tL 5 p (.ifCond .ne 5) 10)) (tL 2 p (.invokevirtual 79) 16)) (tB 1 p (tL 1 p (.iload_n 1) 0) (tL 0 p (.aload_n 0) 0)))))
set_option maxHeartbeats 4000000 in
def cd22 (p : Nat) : Option (Instr × Nat) := (tB 18 p (tB 25 p (tB 28 p (tB 29 p (tB 30 p (tL 30 p .ireturn 0) (tL 29 p .iaload 0)) (tL 28 p .iadd 0)) (tB 26 p (tB 27 p (tL 27 p (.iload_n 2) 0) (tL 26 p .imul 0)) (tL 25 p (.iconst 4) 0))) (tB 20 p (tB 21 p (tB 24 p (tL 24 p (.iload_n 1) 0) (tL 21 p (.getfield 50) 13)) (tL 20 p (.aload_n 0) 0)) (tB 19 p (tL 19 p .ireturn 0) (tL 18 p (.iconst 0) 0)))) (tB 9 p (tB 11 p (tB 12 p (tB 15 p (tL 15 p (.ifCond .ne 5) 20) (tL 12 p (.invokevirtual 83) 23)) (tL 11 p (.iload_n 2) 0)) (tB 10 p (tL 10 p (.aload_n 0) 0) (tL 9 p .ireturn 0))) (tB 2 p (tB 5 p (tB 8 p (tL 8 p (.iconst 0) 0) (tL 5 p (.ifCond .ne 5) 10)) (tL 2 p (.invokevirtual 79) 16)) (tB 1 p (tL 1 p (.iload_n 1) 0) (tL 0 p (.aload_n 0) 0)))))
set_option maxHeartbeats 4000000 in
def cd23 (p : Nat) : Option (Instr × Nat) := (tB 6 p (tB 10 p (tB 13 p (tB 14 p (tL 14 p .ireturn 0) (tL 13 p (.iconst 0) 0)) (tL 10 p (.goto 4) 14)) (tB 9 p (tL 9 p (.iconst 1) 0) (tL 6 p (.if_icmp .gt 7) 13))) (tB 4 p (tB 5 p (tL 5 p (.iconst 3) 0) (tL 4 p (.iload_n 1) 0)) (tB 1 p (tL 1 p (.ifCond .lt 12) 13) (tL 0 p (.iload_n 1) 0))))
set_option maxHeartbeats 4000000 in
def cd24 (p : Nat) : Option (Instr × Nat) := (tB 108 p (tB 158 p (tB 189 p (tB 205 p (tB 214 p (tB 219 p (tB 221 p (tL 221 p .ireturn 0) (tL 219 p (.iload 9) 0)) (tB 216 p (tL 216 p (.goto 5) 221) (tL 214 p (.iload 8) 0))) (tB 210 p (tB 211 p (tL 211 p (.if_icmp .ne 8) 219) (tL 210 p (.iconst 2) 0)) (tB 208 p (tL 208 p (.iload 5) 0) (tL 205 p (.goto 16) 221)))) (tB 197 p (tB 200 p (tB 203 p (tL 203 p (.iload 7) 0) (tL 200 p (.if_icmp .ne 8) 208)) (tB 199 p (tL 199 p (.iconst 1) 0) (tL 197 p (.iload 5) 0))) (tB 192 p (tB 194 p (tL 194 p (.goto 27) 221) (tL 192 p (.iload 6) 0)) (tL 189 p (.ifCond .ne 8) 197)))) (tB 170 p (tB 178 p (tB 184 p (tB 187 p (tL 187 p (.iload 5) 0) (tL 184 p (.goto (-166)) 18)) (tB 181 p (tL 181 p (.iinc 11 1) 0) (tL 178 p (.iinc 10 1) 0))) (tB 174 p (tB 176 p (tL 176 p (.istore 9) 0) (tL 174 p (.iload 20) 0)) (tB 172 p (tL 172 p (.istore 8) 0) (tL 170 p (.iload 19) 0)))) (tB 162 p (tB 166 p (tB 168 p (tL 168 p (.istore 7) 0) (tL 166 p (.iload 18) 0)) (tB 164 p (tL 164 p (.istore 6) 0) (tL 162 p (.iload 17) 0))) (tB 159 p (tB 160 p (tL 160 p (.istore 20) 0) (tL 159 p .iadd 0)) (tL 158 p .imul 0))))) (tB 133 p (tB 145 p (tB 151 p (tB 154 p (tB 156 p (tL 156 p (.iload 16) 0) (tL 154 p (.iload 9) 0)) (tB 153 p (tL 153 p .imul 0) (tL 151 p (.iload 14) 0))) (tB 147 p (tB 149 p (tL 149 p (.iload 8) 0) (tL 147 p (.istore 19) 0)) (tB 146 p (tL 146 p .iadd 0) (tL 145 p .imul 0)))) (tB 138 p (tB 141 p (tB 143 p (tL 143 p (.iload 15) 0) (tL 141 p (.iload 9) 0)) (tB 140 p (tL 140 p .imul 0) (tL 138 p (.iload 13) 0))) (tB 134 p (tB 136 p (tL 136 p (.iload 8) 0) (tL 134 p (.istore 18) 0)) (tL 133 p .iadd 0)))) (tB 120 p (tB 127 p (tB 130 p (tB 132 p (tL 132 p .imul 0) (tL 130 p (.iload 16) 0)) (tB 128 p (tL 128 p (.iload 7) 0) (tL 127 p .imul 0))) (tB 123 p (tB 125 p (tL 125 p (.iload 14) 0) (tL 123 p (.iload 6) 0)) (tB 121 p (tL 121 p (.istore 17) 0) (tL 120 p .iadd 0)))) (tB 114 p (tB 117 p (tB 119 p (tL 119 p .imul 0) (tL 117 p (.iload 15) 0)) (tB 115 p (tL 115 p (.iload 7) 0) (tL 114 p .imul 0))) (tB 110 p (tB 112 p (tL 112 p (.iload 13) 0) (tL 110 p (.iload 6) 0)) (tL 108 p (.istore 16) 0)))))) (tB 54 p (tB 79 p (tB 92 p (tB 100 p (tB 102 p (tB 105 p (tL 105 p (.invokestatic 18) 31) (tL 102 p (.invokestatic 10) 1)) (tB 101 p (tL 101 p .iadd 0) (tL 100 p (.iconst 4) 0))) (tB 97 p (tB 98 p (tL 98 p (.iload 12) 0) (tL 97 p (.aload_n 0) 0)) (tB 95 p (tL 95 p (.istore 15) 0) (tL 92 p (.invokestatic 18) 31)))) (tB 85 p (tB 88 p (tB 89 p (tL 89 p (.invokestatic 10) 1) (tL 88 p .iadd 0)) (tB 87 p (tL 87 p (.iconst 3) 0) (tL 85 p (.iload 12) 0))) (tB 82 p (tB 84 p (tL 84 p (.aload_n 0) 0) (tL 82 p (.istore 14) 0)) (tL 79 p (.invokestatic 18) 31)))) (tB 63 p (tB 72 p (tB 75 p (tB 76 p (tL 76 p (.invokestatic 10) 1) (tL 75 p .iadd 0)) (tB 74 p (tL 74 p (.iconst 2) 0) (tL 72 p (.iload 12) 0))) (tB 69 p (tB 71 p (tL 71 p (.aload_n 0) 0) (tL 69 p (.istore 13) 0)) (tB 66 p (tL 66 p (.invokestatic 18) 31) (tL 63 p (.invokestatic 10) 1)))) (tB 58 p (tB 61 p (tB 62 p (tL 62 p .iadd 0) (tL 61 p (.iconst 1) 0)) (tB 59 p (tL 59 p (.iload 12) 0) (tL 58 p (.aload_n 0) 0))) (tB 55 p (tB 56 p (tL 56 p (.istore 12) 0) (tL 55 p .iadd 0)) (tL 54 p .imul 0))))) (tB 21 p (tB 38 p (tB 46 p (tB 51 p (tB 52 p (tL 52 p (.iload 11) 0) (tL 51 p (.iconst 5) 0)) (tB 49 p (tL 49 p (.bipush 9) 0) (tL 46 p (.if_icmp .ge 132) 178))) (tB 42 p (tB 44 p (tL 44 p (.iload 4) 0) (tL 42 p (.iload 10) 0)) (tB 39 p (tL 39 p (.if_icmp .lt 139) 178) (tL 38 p (.iload_n 3) 0)))) (tB 27 p (tB 33 p (tB 36 p (tL 36 p (.iload 10) 0) (tL 33 p (.goto 148) 181)) (tB 30 p (tL 30 p (.ifCond .ne 6) 36) (tL 27 p (.invokestatic 14) 30))) (tB 24 p (tB 25 p (tL 25 p (.iload 11) 0) (tL 24 p (.aload_n 0) 0)) (tL 21 p (.if_icmp .gt 166) 187)))) (tB 10 p (tB 15 p (tB 18 p (tB 20 p (tL 20 p (.iload_n 2) 0) (tL 18 p (.iload 11) 0)) (tB 16 p (tL 16 p (.istore 11) 0) (tL 15 p (.iload_n 1) 0))) (tB 12 p (tB 13 p (tL 13 p (.istore 10) 0) (tL 12 p (.iconst 0) 0)) (tL 10 p (.istore 9) 0))) (tB 4 p (tB 7 p (tB 9 p (tL 9 p (.iconst 1) 0) (tL 7 p (.istore 8) 0)) (tB 6 p (tL 6 p (.iconst 0) 0) (tL 4 p (.istore 7) 0))) (tB 1 p (tB 3 p (tL 3 p (.iconst 0) 0) (tL 1 p (.istore 6) 0)) (tL 0 p (.iconst 1) 0)))))))
set_option maxHeartbeats 4000000 in
def cd25 (p : Nat) : Option (Instr × Nat) := (tB 18 p (tB 23 p (tB 28 p (tB 29 p (tB 32 p (tL 32 p .ireturn 0) (tL 29 p (.invokevirtual 90) 29)) (tL 28 p (.iload_n 2) 0)) (tB 26 p (tB 27 p (tL 27 p (.iconst 3) 0) (tL 26 p (.aload_n 0) 0)) (tL 23 p (.invokevirtual 86) 26))) (tB 20 p (tB 21 p (tB 22 p (tL 22 p (.iconst 3) 0) (tL 21 p (.iload_n 1) 0)) (tL 20 p (.aload_n 0) 0)) (tB 19 p (tL 19 p .ireturn 0) (tL 18 p (.iconst 0) 0)))) (tB 9 p (tB 11 p (tB 12 p (tB 15 p (tL 15 p (.ifCond .ne 5) 20) (tL 12 p (.invokevirtual 83) 23)) (tL 11 p (.iload_n 2) 0)) (tB 10 p (tL 10 p (.aload_n 0) 0) (tL 9 p .ireturn 0))) (tB 2 p (tB 5 p (tB 8 p (tL 8 p (.iconst 0) 0) (tL 5 p (.ifCond .ne 5) 10)) (tL 2 p (.invokevirtual 79) 16)) (tB 1 p (tL 1 p (.iload_n 1) 0) (tL 0 p (.aload_n 0) 0)))))
set_option maxHeartbeats 4000000 in
def cd26 (p : Nat) : Option (Instr × Nat) := (tB 20 p (tB 31 p (tB 36 p (tB 38 p (tB 41 p (tL 41 p .return_ 0) (tL 38 p (.invokevirtual 121) 28)) (tB 37 p (tL 37 p (.iconst 2) 0) (tL 36 p (.iconst 1) 0))) (tB 34 p (tB 35 p (tL 35 p (.iload_n 2) 0) (tL 34 p (.aload_n 0) 0)) (tL 31 p (.invokevirtual 118) 27))) (tB 25 p (tB 29 p (tB 30 p (tL 30 p (.iload_n 1) 0) (tL 29 p (.iconst 2) 0)) (tB 28 p (tL 28 p (.aload_n 0) 0) (tL 25 p (.invokevirtual 98) 4))) (tB 23 p (tB 24 p (tL 24 p (.iconst 1) 0) (tL 23 p (.aload_n 0) 0)) (tL 20 p (.goto 8) 28)))) (tB 11 p (tB 14 p (tB 16 p (tB 17 p (tL 17 p (.invokevirtual 133) 42) (tL 16 p .isub 0)) (tB 15 p (tL 15 p (.iconst 1) 0) (tL 14 p (.iload_n 3) 0))) (tB 12 p (tB 13 p (tL 13 p (.iload_n 1) 0) (tL 12 p (.iconst 1) 0)) (tL 11 p (.aload_n 0) 0))) (tB 5 p (tB 7 p (tB 8 p (tL 8 p (.ifCond .le 15) 23) (tL 7 p (.iload_n 3) 0)) (tB 6 p (tL 6 p (.istore_n 3) 0) (tL 5 p .iaload 0))) (tB 1 p (tB 4 p (tL 4 p (.iload_n 1) 0) (tL 1 p (.getfield 35) 8)) (tL 0 p (.aload_n 0) 0)))))
set_option maxHeartbeats 4000000 in
def cd27 (p : Nat) : Option (Instr × Nat) := (tB 28 p (tB 44 p (tB 49 p (tB 51 p (tB 54 p (tB 57 p (tL 57 p .return_ 0) (tL 54 p (.goto (-29)) 25)) (tL 51 p (.iinc 4 1) 0)) (tB 50 p (tL 50 p .iastore 0) (tL 49 p .iaload 0))) (tB 46 p (tB 48 p (tL 48 p .iadd 0) (tL 46 p (.iload 4) 0)) (tB 45 p (tL 45 p .imul 0) (tL 44 p (.iconst 4) 0)))) (tB 36 p (tB 39 p (tB 40 p (tB 43 p (tL 43 p (.iload_n 2) 0) (tL 40 p (.getfield 47) 12)) (tL 39 p (.aload_n 0) 0)) (tB 38 p (tL 38 p .iadd 0) (tL 36 p (.iload 4) 0))) (tB 32 p (tB 35 p (tL 35 p (.iload_n 3) 0) (tL 32 p (.getfield 53) 14)) (tB 31 p (tL 31 p (.aload_n 0) 0) (tL 28 p (.if_icmp .ge 29) 57))))) (tB 17 p (tB 21 p (tB 23 p (tB 25 p (tB 27 p (tL 27 p (.iconst 4) 0) (tL 25 p (.iload 4) 0)) (tL 23 p (.istore 4) 0)) (tB 22 p (tL 22 p (.iconst 0) 0) (tL 21 p (.istore_n 3) 0))) (tB 19 p (tB 20 p (tL 20 p .imul 0) (tL 19 p (.iconst 4) 0)) (tB 18 p (tL 18 p (.iload_n 1) 0) (tL 17 p .return_ 0)))) (tB 8 p (tB 12 p (tB 13 p (tB 14 p (tL 14 p (.if_icmp .lt 4) 18) (tL 13 p (.iconst 4) 0)) (tL 12 p (.iload_n 2) 0)) (tB 9 p (tL 9 p (.ifCond .lt 8) 17) (tL 8 p (.iload_n 2) 0))) (tB 2 p (tB 5 p (tL 5 p (.ifCond .eq 12) 17) (tL 2 p (.invokevirtual 136) 6)) (tB 1 p (tL 1 p (.iload_n 1) 0) (tL 0 p (.aload_n 0) 0))))))
set_option maxHeartbeats 4000000 in
def cd28 (p : Nat) : Option (Instr × Nat) := (tB 105 p (tB 155 p (tB 180 p (tB 192 p (tB 199 p (tB 201 p (tB 202 p (tL 202 p .return_ 0) (tL 201 p .iastore 0)) (tB 200 p (tL 200 p .iadd 0) (tL 199 p .imul 0))) (tB 195 p (tB 197 p (tL 197 p (.iload 13) 0) (tL 195 p (.iload 9) 0)) (tB 194 p (tL 194 p .imul 0) (tL 192 p (.iload 11) 0)))) (tB 186 p (tB 189 p (tB 190 p (tL 190 p (.iload 8) 0) (tL 189 p .iadd 0)) (tB 188 p (tL 188 p (.iconst 3) 0) (tL 186 p (.iload 14) 0))) (tB 182 p (tB 183 p (tL 183 p (.getfield 53) 14) (tL 182 p (.aload_n 0) 0)) (tB 181 p (tL 181 p .iastore 0) (tL 180 p .iadd 0))))) (tB 168 p (tB 174 p (tB 177 p (tB 179 p (tL 179 p .imul 0) (tL 177 p (.iload 12) 0)) (tB 175 p (tL 175 p (.iload 9) 0) (tL 174 p .imul 0))) (tB 170 p (tB 172 p (tL 172 p (.iload 10) 0) (tL 170 p (.iload 8) 0)) (tB 169 p (tL 169 p .iadd 0) (tL 168 p (.iconst 2) 0)))) (tB 161 p (tB 163 p (tB 166 p (tL 166 p (.iload 14) 0) (tL 163 p (.getfield 53) 14)) (tB 162 p (tL 162 p (.aload_n 0) 0) (tL 161 p .iastore 0))) (tB 159 p (tB 160 p (tL 160 p .iadd 0) (tL 159 p .imul 0)) (tB 157 p (tL 157 p (.iload 13) 0) (tL 155 p (.iload 7) 0)))))) (tB 130 p (tB 142 p (tB 149 p (tB 152 p (tB 154 p (tL 154 p .imul 0) (tL 152 p (.iload 11) 0)) (tB 150 p (tL 150 p (.iload 6) 0) (tL 149 p .iadd 0))) (tB 146 p (tB 148 p (tL 148 p (.iconst 1) 0) (tL 146 p (.iload 14) 0)) (tB 143 p (tL 143 p (.getfield 53) 14) (tL 142 p (.aload_n 0) 0)))) (tB 137 p (tB 140 p (tB 141 p (tL 141 p .iastore 0) (tL 140 p .iadd 0)) (tB 139 p (tL 139 p .imul 0) (tL 137 p (.iload 12) 0))) (tB 134 p (tB 135 p (tL 135 p (.iload 7) 0) (tL 134 p .imul 0)) (tB 132 p (tL 132 p (.iload 10) 0) (tL 130 p (.iload 6) 0))))) (tB 117 p (tB 122 p (tB 125 p (tB 128 p (tL 128 p (.iload 14) 0) (tL 125 p (.getfield 53) 14)) (tB 124 p (tL 124 p (.aload_n 0) 0) (tL 122 p (.istore 14) 0))) (tB 120 p (tB 121 p (tL 121 p .imul 0) (tL 120 p (.iconst 4) 0)) (tB 119 p (tL 119 p (.iload_n 1) 0) (tL 117 p (.istore 13) 0)))) (tB 112 p (tB 115 p (tB 116 p (tL 116 p .iaload 0) (tL 115 p .iadd 0)) (tB 114 p (tL 114 p (.iconst 3) 0) (tL 112 p (.iload 5) 0))) (tB 108 p (tB 109 p (tL 109 p (.getfield 53) 14) (tL 108 p (.aload_n 0) 0)) (tB 106 p (tL 106 p (.istore 12) 0) (tL 105 p .iaload 0))))))) (tB 53 p (tB 78 p (tB 93 p (tB 98 p (tB 103 p (tB 104 p (tL 104 p .iadd 0) (tL 103 p (.iconst 2) 0)) (tB 101 p (tL 101 p (.iload 5) 0) (tL 98 p (.getfield 53) 14))) (tB 95 p (tB 97 p (tL 97 p (.aload_n 0) 0) (tL 95 p (.istore 11) 0)) (tB 94 p (tL 94 p .iaload 0) (tL 93 p .iadd 0)))) (tB 86 p (tB 90 p (tB 92 p (tL 92 p (.iconst 1) 0) (tL 90 p (.iload 5) 0)) (tB 87 p (tL 87 p (.getfield 53) 14) (tL 86 p (.aload_n 0) 0))) (tB 83 p (tB 84 p (tL 84 p (.istore 10) 0) (tL 83 p .iaload 0)) (tB 81 p (tL 81 p (.iload 5) 0) (tL 78 p (.getfield 53) 14))))) (tB 66 p (tB 73 p (tB 75 p (tB 77 p (tL 77 p (.aload_n 0) 0) (tL 75 p (.istore 9) 0)) (tB 74 p (tL 74 p .iaload 0) (tL 73 p .iadd 0))) (tB 70 p (tB 72 p (tL 72 p (.iconst 3) 0) (tL 70 p (.iload 4) 0)) (tB 67 p (tL 67 p (.getfield 53) 14) (tL 66 p (.aload_n 0) 0)))) (tB 61 p (tB 63 p (tB 64 p (tL 64 p (.istore 8) 0) (tL 63 p .iaload 0)) (tB 62 p (tL 62 p .iadd 0) (tL 61 p (.iconst 2) 0))) (tB 56 p (tB 59 p (tL 59 p (.iload 4) 0) (tL 56 p (.getfield 53) 14)) (tB 55 p (tL 55 p (.aload_n 0) 0) (tL 53 p (.istore 7) 0)))))) (tB 28 p (tB 41 p (tB 48 p (tB 51 p (tB 52 p (tL 52 p .iaload 0) (tL 51 p .iadd 0)) (tB 50 p (tL 50 p (.iconst 1) 0) (tL 48 p (.iload 4) 0))) (tB 44 p (tB 45 p (tL 45 p (.getfield 53) 14) (tL 44 p (.aload_n 0) 0)) (tB 42 p (tL 42 p (.istore 6) 0) (tL 41 p .iaload 0)))) (tB 33 p (tB 36 p (tB 39 p (tL 39 p (.iload 4) 0) (tL 36 p (.getfield 53) 14)) (tB 35 p (tL 35 p (.aload_n 0) 0) (tL 33 p (.istore 5) 0))) (tB 31 p (tB 32 p (tL 32 p .imul 0) (tL 31 p (.iconst 4) 0)) (tB 30 p (tL 30 p (.iload_n 3) 0) (tL 28 p (.istore 4) 0))))) (tB 16 p (tB 24 p (tB 26 p (tB 27 p (tL 27 p .imul 0) (tL 26 p (.iconst 4) 0)) (tB 25 p (tL 25 p (.iload_n 2) 0) (tL 24 p .return_ 0))) (tB 18 p (tB 21 p (tL 21 p (.ifCond .ne 4) 25) (tL 18 p (.invokevirtual 136) 6)) (tB 17 p (tL 17 p (.iload_n 3) 0) (tL 16 p (.aload_n 0) 0)))) (tB 8 p (tB 10 p (tB 13 p (tL 13 p (.ifCond .eq 11) 24) (tL 10 p (.invokevirtual 136) 6)) (tB 9 p (tL 9 p (.iload_n 2) 0) (tL 8 p (.aload_n 0) 0))) (tB 2 p (tB 5 p (tL 5 p (.ifCond .eq 19) 24) (tL 2 p (.invokevirtual 136) 6)) (tB 1 p (tL 1 p (.iload_n 1) 0) (tL 0 p (.aload_n 0) 0))))))))
set_option maxHeartbeats 4000000 in
def cd29 (p : Nat) : Option (Instr × Nat) := (tB 17 p (tB 24 p (tB 26 p (tB 27 p (tB 28 p (tL 28 p .ireturn 0) (tL 27 p .iaload 0)) (tL 26 p .iadd 0)) (tB 25 p (tL 25 p (.iload_n 2) 0) (tL 24 p .imul 0))) (tB 19 p (tB 22 p (tB 23 p (tL 23 p (.iconst 4) 0) (tL 22 p (.iload_n 1) 0)) (tL 19 p (.getfield 53) 14)) (tB 18 p (tL 18 p (.aload_n 0) 0) (tL 17 p .ireturn 0)))) (tB 8 p (tB 10 p (tB 13 p (tB 16 p (tL 16 p (.iconst 0) 0) (tL 13 p (.ifCond .ne 5) 18)) (tL 10 p (.invokevirtual 83) 23)) (tB 9 p (tL 9 p (.iload_n 2) 0) (tL 8 p (.aload_n 0) 0))) (tB 2 p (tB 5 p (tL 5 p (.ifCond .eq 11) 16) (tL 2 p (.invokevirtual 136) 6)) (tB 1 p (tL 1 p (.iload_n 1) 0) (tL 0 p (.aload_n 0) 0)))))
set_option maxHeartbeats 4000000 in
def cd30 (p : Nat) : Option (Instr × Nat) := (tB 10 p (tB 18 p (tB 22 p (tB 23 p (tL 23 p .ireturn 0) (tL 22 p (.iconst 0) 0)) (tB 19 p (tL 19 p (.goto 4) 23) (tL 18 p (.iconst 1) 0))) (tB 13 p (tB 15 p (tL 15 p (.if_icmp .eq 7) 22) (tL 13 p (.bipush 15) 0)) (tB 12 p (tL 12 p .iand 0) (tL 10 p (.bipush 15) 0)))) (tB 4 p (tB 6 p (tB 7 p (tL 7 p (.invokestatic 10) 1) (tL 6 p .iadd 0)) (tB 5 p (tL 5 p .imul 0) (tL 4 p (.iload_n 1) 0))) (tB 1 p (tB 3 p (tL 3 p (.iconst 5) 0) (tL 1 p (.bipush 9) 0)) (tL 0 p (.aload_n 0) 0))))
set_option maxHeartbeats 4000000 in
def cd31 (p : Nat) : Option (Instr × Nat) := (tB 11 p (tB 16 p (tB 19 p (tB 20 p (tL 20 p .ireturn 0) (tL 19 p .imul 0)) (tB 17 p (tL 17 p (.ldc 7) 0) (tL 16 p (.iload_n 0) 0))) (tB 12 p (tB 13 p (tL 13 p (.goto 7) 20) (tL 12 p .isub 0)) (tL 11 p (.iconst 3) 0))) (tB 4 p (tB 8 p (tB 10 p (tL 10 p .iand 0) (tL 8 p (.bipush 7) 0)) (tB 7 p (tL 7 p (.iload_n 0) 0) (tL 4 p (.ifCond .ne 12) 16))) (tB 1 p (tB 3 p (tL 3 p .iand 0) (tL 1 p (.bipush 8) 0)) (tL 0 p (.iload_n 0) 0))))
set_option maxHeartbeats 4000000 in
def cd32 (p : Nat) : Option (Instr × Nat) := (tB 36 p (tB 57 p (tB 69 p (tB 78 p (tB 81 p (tB 83 p (tL 83 p .ireturn 0) (tL 81 p (.iload 5) 0)) (tL 78 p (.goto (-52)) 26)) (tB 72 p (tB 75 p (tL 75 p (.iinc 6 1) 0) (tL 72 p (.iinc 5 1) 0)) (tL 69 p (.invokevirtual 76) 37))) (tB 63 p (tB 66 p (tB 67 p (tL 67 p (.iload 6) 0) (tL 66 p (.aload_n 0) 0)) (tL 63 p (.ifCond .ne 12) 75)) (tB 60 p (tB 62 p (tL 62 p .irem 0) (tL 60 p (.iload 7) 0)) (tL 57 p (.getfield 62) 17)))) (tB 47 p (tB 52 p (tB 53 p (tB 56 p (tL 56 p (.aload_n 0) 0) (tL 53 p (.if_icmp .lt 22) 75)) (tL 52 p (.iconst 1) 0)) (tB 48 p (tB 50 p (tL 50 p (.iload 7) 0) (tL 48 p (.istore 7) 0)) (tL 47 p .iaload 0))) (tB 41 p (tB 42 p (tB 45 p (tL 45 p (.iload 6) 0) (tL 42 p (.getfield 32) 7)) (tL 41 p (.aload_n 0) 0)) (tB 38 p (tL 38 p (.invokevirtual 73) 33) (tL 36 p (.iload 6) 0))))) (tB 15 p (tB 24 p (tB 29 p (tB 32 p (tB 35 p (tL 35 p (.aload_n 0) 0) (tL 32 p (.if_icmp .ge 49) 81)) (tL 29 p (.getfield 59) 16)) (tB 26 p (tB 28 p (tL 28 p (.aload_n 0) 0) (tL 26 p (.iload 6) 0)) (tL 24 p (.istore 6) 0))) (tB 20 p (tB 21 p (tB 23 p (tL 23 p (.iconst 0) 0) (tL 21 p (.istore 5) 0)) (tL 20 p (.iconst 0) 0)) (tB 17 p (tL 17 p (.invokevirtual 69) 5) (tL 15 p (.iload 4) 0)))) (tB 7 p (tB 12 p (tB 13 p (tB 14 p (tL 14 p (.iload_n 3) 0) (tL 13 p (.iload_n 2) 0)) (tL 12 p (.iload_n 1) 0)) (tB 10 p (tB 11 p (tL 11 p (.iconst 0) 0) (tL 10 p (.aload_n 0) 0)) (tL 7 p (.putfield 62) 17))) (tB 2 p (tB 5 p (tB 6 p (tL 6 p .iadd 0) (tL 5 p (.iconst 1) 0)) (tL 2 p (.getfield 62) 17)) (tB 1 p (tL 1 p (.aload_n 0) 0) (tL 0 p (.aload_n 0) 0))))))
set_option maxHeartbeats 4000000 in
def cd33 (p : Nat) : Option (Instr × Nat) := (tB 47 p (tB 70 p (tB 82 p (tB 88 p (tB 90 p (tB 91 p (tL 91 p .return_ 0) (tL 90 p .iastore 0)) (tB 89 p (tL 89 p .iadd 0) (tL 88 p (.iconst 1) 0))) (tB 86 p (tB 87 p (tL 87 p (.iload_n 3) 0) (tL 86 p (.iload_n 1) 0)) (tB 83 p (tL 83 p (.getfield 38) 9) (tL 82 p (.aload_n 0) 0)))) (tB 76 p (tB 78 p (tB 79 p (tL 79 p (.invokevirtual 101) 7) (tL 78 p (.iconst 1) 0)) (tB 77 p (tL 77 p (.iload_n 1) 0) (tL 76 p (.aload_n 0) 0))) (tB 72 p (tB 73 p (tL 73 p (.invokevirtual 121) 28) (tL 72 p (.iconst 0) 0)) (tB 71 p (tL 71 p (.iconst 1) 0) (tL 70 p (.iconst 1) 0))))) (tB 58 p (tB 64 p (tB 66 p (tB 69 p (tL 69 p (.aload_n 0) 0) (tL 66 p (.invokevirtual 118) 27)) (tB 65 p (tL 65 p (.iload_n 1) 0) (tL 64 p (.iconst 1) 0))) (tB 60 p (tB 63 p (tL 63 p (.aload_n 0) 0) (tL 60 p (.invokevirtual 114) 35)) (tB 59 p (tL 59 p (.iconst 0) 0) (tL 58 p (.iload_n 3) 0)))) (tB 52 p (tB 56 p (tB 57 p (tL 57 p (.iload_n 1) 0) (tL 56 p (.aload_n 0) 0)) (tB 55 p (tL 55 p .return_ 0) (tL 52 p (.ifCond .ne 4) 56))) (tB 48 p (tB 49 p (tL 49 p (.invokevirtual 110) 34) (tL 48 p (.iload_n 3) 0)) (tL 47 p (.iload_n 1) 0))))) (tB 23 p (tB 35 p (tB 43 p (tB 45 p (tB 46 p (tL 46 p (.aload_n 0) 0) (tL 45 p (.istore_n 3) 0)) (tB 44 p (tL 44 p .iaload 0) (tL 43 p (.iload_n 1) 0))) (tB 39 p (tB 40 p (tL 40 p (.getfield 38) 9) (tL 39 p (.aload_n 0) 0)) (tB 36 p (tL 36 p (.invokevirtual 107) 38) (tL 35 p (.iload_n 1) 0)))) (tB 29 p (tB 31 p (tB 34 p (tL 34 p (.aload_n 0) 0) (tL 31 p (.if_icmp .lt 8) 39)) (tB 30 p (tL 30 p .iaload 0) (tL 29 p (.iload_n 1) 0))) (tB 25 p (tB 26 p (tL 26 p (.getfield 28) 6) (tL 25 p (.aload_n 0) 0)) (tB 24 p (tL 24 p (.iload_n 2) 0) (tL 23 p (.istore_n 2) 0))))) (tB 11 p (tB 17 p (tB 21 p (tB 22 p (tL 22 p .iadd 0) (tL 21 p .iaload 0)) (tB 20 p (tL 20 p (.iload_n 1) 0) (tL 17 p (.getfield 38) 9))) (tB 15 p (tB 16 p (tL 16 p (.aload_n 0) 0) (tL 15 p .iaload 0)) (tB 14 p (tL 14 p (.iload_n 1) 0) (tL 11 p (.getfield 35) 8)))) (tB 5 p (tB 9 p (tB 10 p (tL 10 p (.aload_n 0) 0) (tL 9 p .return_ 0)) (tB 6 p (tL 6 p (.if_icmp .lt 4) 10) (tL 5 p (.iconst 4) 0))) (tB 1 p (tB 4 p (tL 4 p (.iload_n 1) 0) (tL 1 p (.ifCond .lt 8) 9)) (tL 0 p (.iload_n 1) 0))))))
set_option maxHeartbeats 4000000 in
def cd34 (p : Nat) : Option (Instr × Nat) := (tB 13 p (tB 19 p (tB 23 p (tB 24 p (tL 24 p .ireturn 0) (tL 23 p (.iconst 0) 0)) (tB 20 p (tL 20 p (.goto 4) 24) (tL 19 p (.iconst 1) 0))) (tB 14 p (tB 16 p (tL 16 p (.if_icmp .ge 7) 23) (tL 14 p (.bipush 32) 0)) (tL 13 p (.iload_n 2) 0))) (tB 5 p (tB 9 p (tB 10 p (tL 10 p (.ifCond .lt 13) 23) (tL 9 p (.iload_n 2) 0)) (tB 6 p (tL 6 p (.if_icmp .ge 17) 23) (tL 5 p (.iconst 4) 0))) (tB 1 p (tB 4 p (tL 4 p (.iload_n 1) 0) (tL 1 p (.ifCond .lt 22) 23)) (tL 0 p (.iload_n 1) 0))))
set_option maxHeartbeats 4000000 in
def cd35 (p : Nat) : Option (Instr × Nat) := (tB 31 p (tB 49 p (tB 58 p (tB 60 p (tB 63 p (tB 66 p (tL 66 p .return_ 0) (tL 63 p (.goto (-29)) 34)) (tL 60 p (.iinc 6 1) 0)) (tB 59 p (tL 59 p .iastore 0) (tL 58 p .iaload 0))) (tB 53 p (tB 55 p (tB 57 p (tL 57 p .iadd 0) (tL 55 p (.iload 6) 0)) (tL 53 p (.iload 5) 0)) (tB 50 p (tL 50 p (.getfield 53) 14) (tL 49 p (.aload_n 0) 0)))) (tB 40 p (tB 44 p (tB 46 p (tB 48 p (tL 48 p .iadd 0) (tL 46 p (.iload 6) 0)) (tL 44 p (.iload 4) 0)) (tB 41 p (tL 41 p (.getfield 41) 10) (tL 40 p (.aload_n 0) 0))) (tB 34 p (tB 36 p (tB 37 p (tL 37 p (.if_icmp .ge 29) 66) (tL 36 p (.iconst 4) 0)) (tL 34 p (.iload 6) 0)) (tB 32 p (tL 32 p (.istore 6) 0) (tL 31 p (.iconst 0) 0))))) (tB 17 p (tB 24 p (tB 27 p (tB 28 p (tB 29 p (tL 29 p (.istore 5) 0) (tL 28 p .imul 0)) (tL 27 p (.iconst 4) 0)) (tB 26 p (tL 26 p (.iload_n 3) 0) (tL 24 p (.istore 4) 0))) (tB 19 p (tB 20 p (tB 21 p (tL 21 p (.invokevirtual 139) 36) (tL 20 p (.iload_n 2) 0)) (tL 19 p (.iload_n 1) 0)) (tB 18 p (tL 18 p (.aload_n 0) 0) (tL 17 p .return_ 0)))) (tB 8 p (tB 10 p (tB 11 p (tB 14 p (tL 14 p (.ifCond .ne 4) 18) (tL 11 p (.invokevirtual 110) 34)) (tL 10 p (.iload_n 2) 0)) (tB 9 p (tL 9 p (.iload_n 1) 0) (tL 8 p (.aload_n 0) 0))) (tB 2 p (tB 5 p (tL 5 p (.ifCond .eq 12) 17) (tL 2 p (.invokevirtual 136) 6)) (tB 1 p (tL 1 p (.iload_n 3) 0) (tL 0 p (.aload_n 0) 0))))))
set_option maxHeartbeats 4000000 in
def cd36 (p : Nat) : Option (Instr × Nat) := (tB 5 p (tB 7 p (tB 8 p (tL 8 p .ireturn 0) (tL 7 p .imul 0)) (tB 6 p (tL 6 p (.iconst 4) 0) (tL 5 p .iadd 0))) (tB 3 p (tB 4 p (tL 4 p (.iload_n 2) 0) (tL 3 p .imul 0)) (tB 1 p (tL 1 p (.bipush 32) 0) (tL 0 p (.iload_n 1) 0))))
set_option maxHeartbeats 4000000 in
def cd37 (p : Nat) : Option (Instr × Nat) := (tB 6 p (tB 8 p (tB 9 p (tB 12 p (tL 12 p .return_ 0) (tL 9 p (.invokevirtual 104) 8)) (tL 8 p (.iconst 3) 0)) (tB 7 p (tL 7 p (.iload_n 1) 0) (tL 6 p (.aload_n 0) 0))) (tB 2 p (tB 3 p (tL 3 p (.invokevirtual 86) 26) (tL 2 p (.iconst 3) 0)) (tB 1 p (tL 1 p (.iload_n 1) 0) (tL 0 p (.aload_n 0) 0))))
set_option maxHeartbeats 4000000 in
def cd38 (p : Nat) : Option (Instr × Nat) := (tB 20 p (tB 32 p (tB 35 p (tB 36 p (tB 37 p (tL 37 p .return_ 0) (tL 36 p .iastore 0)) (tL 35 p .isub 0)) (tB 33 p (tB 34 p (tL 34 p (.iconst 1) 0) (tL 33 p .iaload 0)) (tL 32 p (.iload_n 1) 0))) (tB 27 p (tB 28 p (tB 29 p (tL 29 p (.getfield 35) 8) (tL 28 p (.aload_n 0) 0)) (tL 27 p (.iload_n 1) 0)) (tB 23 p (tB 24 p (tL 24 p (.getfield 35) 8) (tL 23 p (.aload_n 0) 0)) (tL 20 p (.ifCond .le 17) 37)))) (tB 10 p (tB 15 p (tB 18 p (tB 19 p (tL 19 p .iaload 0) (tL 18 p (.iload_n 1) 0)) (tL 15 p (.getfield 35) 8)) (tB 11 p (tB 14 p (tL 14 p (.aload_n 0) 0) (tL 11 p (.invokevirtual 124) 39)) (tL 10 p (.iload_n 1) 0))) (tB 5 p (tB 6 p (tB 9 p (tL 9 p (.aload_n 0) 0) (tL 6 p (.ifCond .ne 8) 14)) (tL 5 p .iaload 0)) (tB 1 p (tB 4 p (tL 4 p (.iload_n 1) 0) (tL 1 p (.getfield 35) 8)) (tL 0 p (.aload_n 0) 0)))))
set_option maxHeartbeats 4000000 in
def cd39 (p : Nat) : Option (Instr × Nat) := (tB 40 p (tB 64 p (tB 73 p (tB 79 p (tB 81 p (tB 84 p (tL 84 p .return_ 0) (tL 81 p (.invokevirtual 101) 7)) (tB 80 p (tL 80 p (.iconst 1) 0) (tL 79 p (.iload_n 1) 0))) (tB 75 p (tB 78 p (tL 78 p (.aload_n 0) 0) (tL 75 p (.invokevirtual 98) 4)) (tB 74 p (tL 74 p (.iconst 1) 0) (tL 73 p (.aload_n 0) 0)))) (tB 67 p (tB 71 p (tB 72 p (tL 72 p .iastore 0) (tL 71 p (.iconst 0) 0)) (tB 70 p (tL 70 p (.iload_n 1) 0) (tL 67 p (.getfield 38) 9))) (tB 65 p (tB 66 p (tL 66 p (.aload_n 0) 0) (tL 65 p .iastore 0)) (tL 64 p (.iload_n 2) 0)))) (tB 49 p (tB 56 p (tB 60 p (tB 63 p (tL 63 p (.iload_n 1) 0) (tL 60 p (.getfield 35) 8)) (tB 59 p (tL 59 p (.aload_n 0) 0) (tL 56 p (.goto (-33)) 23))) (tB 50 p (tB 53 p (tL 53 p (.iinc 3 1) 0) (tL 50 p (.invokevirtual 130) 41)) (tL 49 p (.iconst 1) 0))) (tB 43 p (tB 47 p (tB 48 p (tL 48 p (.iload_n 3) 0) (tL 47 p (.iload_n 1) 0)) (tB 46 p (tL 46 p (.aload_n 0) 0) (tL 43 p (.invokevirtual 121) 28))) (tB 41 p (tB 42 p (tL 42 p (.iconst 1) 0) (tL 41 p (.iconst 2) 0)) (tL 40 p (.iconst 1) 0))))) (tB 22 p (tB 31 p (tB 34 p (tB 36 p (tB 39 p (tL 39 p (.aload_n 0) 0) (tL 36 p (.invokevirtual 127) 40)) (tB 35 p (tL 35 p .isub 0) (tL 34 p (.iload_n 3) 0))) (tB 32 p (tB 33 p (tL 33 p .isub 0) (tL 32 p (.iconst 1) 0)) (tL 31 p (.iload_n 2) 0))) (tB 25 p (tB 29 p (tB 30 p (tL 30 p (.iload_n 1) 0) (tL 29 p (.iconst 2) 0)) (tB 28 p (tL 28 p (.aload_n 0) 0) (tL 25 p (.if_icmp .ge 34) 59))) (tB 23 p (tB 24 p (tL 24 p (.iload_n 2) 0) (tL 23 p (.iload_n 3) 0)) (tL 22 p (.istore_n 3) 0)))) (tB 10 p (tB 16 p (tB 18 p (tB 21 p (tL 21 p (.iconst 0) 0) (tL 18 p (.invokevirtual 98) 4)) (tB 17 p (tL 17 p (.iconst 1) 0) (tL 16 p (.aload_n 0) 0))) (tB 13 p (tB 15 p (tL 15 p (.istore_n 2) 0) (tL 13 p (.bipush 32) 0)) (tL 10 p (.if_icmp .le 6) 16))) (tB 5 p (tB 7 p (tB 8 p (tL 8 p (.bipush 32) 0) (tL 7 p (.iload_n 2) 0)) (tB 6 p (tL 6 p (.istore_n 2) 0) (tL 5 p .iaload 0))) (tB 1 p (tB 4 p (tL 4 p (.iload_n 1) 0) (tL 1 p (.getfield 38) 9)) (tL 0 p (.aload_n 0) 0))))))
set_option maxHeartbeats 4000000 in
def cd40 (p : Nat) : Option (Instr × Nat) := (tB 31 p (tB 49 p (tB 58 p (tB 60 p (tB 63 p (tB 66 p (tL 66 p .return_ 0) (tL 63 p (.goto (-29)) 34)) (tL 60 p (.iinc 6 1) 0)) (tB 59 p (tL 59 p .iastore 0) (tL 58 p .iaload 0))) (tB 53 p (tB 55 p (tB 57 p (tL 57 p .iadd 0) (tL 55 p (.iload 6) 0)) (tL 53 p (.iload 4) 0)) (tB 50 p (tL 50 p (.getfield 41) 10) (tL 49 p (.aload_n 0) 0)))) (tB 40 p (tB 44 p (tB 46 p (tB 48 p (tL 48 p .iadd 0) (tL 46 p (.iload 6) 0)) (tL 44 p (.iload 5) 0)) (tB 41 p (tL 41 p (.getfield 53) 14) (tL 40 p (.aload_n 0) 0))) (tB 34 p (tB 36 p (tB 37 p (tL 37 p (.if_icmp .ge 29) 66) (tL 36 p (.iconst 4) 0)) (tL 34 p (.iload 6) 0)) (tB 32 p (tL 32 p (.istore 6) 0) (tL 31 p (.iconst 0) 0))))) (tB 17 p (tB 24 p (tB 27 p (tB 28 p (tB 29 p (tL 29 p (.istore 5) 0) (tL 28 p .imul 0)) (tL 27 p (.iconst 4) 0)) (tB 26 p (tL 26 p (.iload_n 1) 0) (tL 24 p (.istore 4) 0))) (tB 19 p (tB 20 p (tB 21 p (tL 21 p (.invokevirtual 139) 36) (tL 20 p (.iload_n 3) 0)) (tL 19 p (.iload_n 2) 0)) (tB 18 p (tL 18 p (.aload_n 0) 0) (tL 17 p .return_ 0)))) (tB 8 p (tB 10 p (tB 11 p (tB 14 p (tL 14 p (.ifCond .ne 4) 18) (tL 11 p (.invokevirtual 110) 34)) (tL 10 p (.iload_n 3) 0)) (tB 9 p (tL 9 p (.iload_n 2) 0) (tL 8 p (.aload_n 0) 0))) (tB 2 p (tB 5 p (tL 5 p (.ifCond .eq 12) 17) (tL 2 p (.invokevirtual 136) 6)) (tB 1 p (tL 1 p (.iload_n 1) 0) (tL 0 p (.aload_n 0) 0))))))
set_option maxHeartbeats 4000000 in
def cd41 (p : Nat) : Option (Instr × Nat) := (tB 31 p (tB 49 p (tB 58 p (tB 60 p (tB 63 p (tB 66 p (tL 66 p .return_ 0) (tL 63 p (.goto (-29)) 34)) (tL 60 p (.iinc 6 1) 0)) (tB 59 p (tL 59 p .iastore 0) (tL 58 p .iaload 0))) (tB 53 p (tB 55 p (tB 57 p (tL 57 p .iadd 0) (tL 55 p (.iload 6) 0)) (tL 53 p (.iload 5) 0)) (tB 50 p (tL 50 p (.getfield 53) 14) (tL 49 p (.aload_n 0) 0)))) (tB 40 p (tB 44 p (tB 46 p (tB 48 p (tL 48 p .iadd 0) (tL 46 p (.iload 6) 0)) (tL 44 p (.iload 4) 0)) (tB 41 p (tL 41 p (.getfield 44) 11) (tL 40 p (.aload_n 0) 0))) (tB 34 p (tB 36 p (tB 37 p (tL 37 p (.if_icmp .ge 29) 66) (tL 36 p (.iconst 4) 0)) (tL 34 p (.iload 6) 0)) (tB 32 p (tL 32 p (.istore 6) 0) (tL 31 p (.iconst 0) 0))))) (tB 17 p (tB 24 p (tB 27 p (tB 28 p (tB 29 p (tL 29 p (.istore 5) 0) (tL 28 p .imul 0)) (tL 27 p (.iconst 4) 0)) (tB 26 p (tL 26 p (.iload_n 3) 0) (tL 24 p (.istore 4) 0))) (tB 19 p (tB 20 p (tB 21 p (tL 21 p (.invokevirtual 139) 36) (tL 20 p (.iload_n 2) 0)) (tL 19 p (.iload_n 1) 0)) (tB 18 p (tL 18 p (.aload_n 0) 0) (tL 17 p .return_ 0)))) (tB 8 p (tB 10 p (tB 11 p (tB 14 p (tL 14 p (.ifCond .ne 4) 18) (tL 11 p (.invokevirtual 110) 34)) (tL 10 p (.iload_n 2) 0)) (tB 9 p (tL 9 p (.iload_n 1) 0) (tL 8 p (.aload_n 0) 0))) (tB 2 p (tB 5 p (tL 5 p (.ifCond .eq 12) 17) (tL 2 p (.invokevirtual 136) 6)) (tB 1 p (tL 1 p (.iload_n 3) 0) (tL 0 p (.aload_n 0) 0))))))
set_option maxHeartbeats 4000000 in
def cd42 (p : Nat) : Option (Instr × Nat) := (tB 31 p (tB 49 p (tB 58 p (tB 60 p (tB 63 p (tB 66 p (tL 66 p .return_ 0) (tL 63 p (.goto (-29)) 34)) (tL 60 p (.iinc 6 1) 0)) (tB 59 p (tL 59 p .iastore 0) (tL 58 p .iaload 0))) (tB 53 p (tB 55 p (tB 57 p (tL 57 p .iadd 0) (tL 55 p (.iload 6) 0)) (tL 53 p (.iload 4) 0)) (tB 50 p (tL 50 p (.getfield 44) 11) (tL 49 p (.aload_n 0) 0)))) (tB 40 p (tB 44 p (tB 46 p (tB 48 p (tL 48 p .iadd 0) (tL 46 p (.iload 6) 0)) (tL 44 p (.iload 5) 0)) (tB 41 p (tL 41 p (.getfield 53) 14) (tL 40 p (.aload_n 0) 0))) (tB 34 p (tB 36 p (tB 37 p (tL 37 p (.if_icmp .ge 29) 66) (tL 36 p (.iconst 4) 0)) (tL 34 p (.iload 6) 0)) (tB 32 p (tL 32 p (.istore 6) 0) (tL 31 p (.iconst 0) 0))))) (tB 17 p (tB 24 p (tB 27 p (tB 28 p (tB 29 p (tL 29 p (.istore 5) 0) (tL 28 p .imul 0)) (tL 27 p (.iconst 4) 0)) (tB 26 p (tL 26 p (.iload_n 1) 0) (tL 24 p (.istore 4) 0))) (tB 19 p (tB 20 p (tB 21 p (tL 21 p (.invokevirtual 139) 36) (tL 20 p (.iload_n 3) 0)) (tL 19 p (.iload_n 2) 0)) (tB 18 p (tL 18 p (.aload_n 0) 0) (tL 17 p .return_ 0)))) (tB 8 p (tB 10 p (tB 11 p (tB 14 p (tL 14 p (.ifCond .ne 4) 18) (tL 11 p (.invokevirtual 110) 34)) (tL 10 p (.iload_n 3) 0)) (tB 9 p (tL 9 p (.iload_n 2) 0) (tL 8 p (.aload_n 0) 0))) (tB 2 p (tB 5 p (tL 5 p (.ifCond .eq 12) 17) (tL 2 p (.invokevirtual 136) 6)) (tB 1 p (tL 1 p (.iload_n 1) 0) (tL 0 p (.aload_n 0) 0))))))
set_option maxHeartbeats 4000000 in
def cd43 (p : Nat) : Option (Instr × Nat) := (tB 9 p (tB 14 p (tB 20 p (tB 23 p (tL 23 p .return_ 0) (tL 20 p (.goto (-13)) 7)) (tB 17 p (tL 17 p (.iinc 1 1) 0) (tL 14 p (.invokevirtual 65) 3))) (tB 12 p (tB 13 p (tL 13 p (.iload_n 1) 0) (tL 12 p (.aload_n 0) 0)) (tL 9 p (.if_icmp .ge 14) 23))) (tB 5 p (tB 7 p (tB 8 p (tL 8 p (.iconst 4) 0) (tL 7 p (.iload_n 1) 0)) (tB 6 p (tL 6 p (.istore_n 1) 0) (tL 5 p (.iconst 0) 0))) (tB 1 p (tB 2 p (tL 2 p (.putfield 62) 17) (tL 1 p (.iconst 0) 0)) (tL 0 p (.aload_n 0) 0))))
def pCode (m pc : Nat) : Option (Instr × Nat) := bif Nat.ble pN m then none else bif Nat.ble (pTop m) pc then none else (bif Nat.ble 22 m then (bif Nat.ble 33 m then (bif Nat.ble 38 m then (bif Nat.ble 41 m then (bif Nat.ble 42 m then (bif Nat.ble 43 m then cd43 pc else cd42 pc) else cd41 pc) else (bif Nat.ble 39 m then (bif Nat.ble 40 m then cd40 pc else cd39 pc) else cd38 pc)) else (bif Nat.ble 35 m then (bif Nat.ble 36 m then (bif Nat.ble 37 m then cd37 pc else cd36 pc) else cd35 pc) else (bif Nat.ble 34 m then cd34 pc else cd33 pc))) else (bif Nat.ble 27 m then (bif Nat.ble 30 m then (bif Nat.ble 31 m then (bif Nat.ble 32 m then cd32 pc else cd31 pc) else cd30 pc) else (bif Nat.ble 28 m then (bif Nat.ble 29 m then cd29 pc else cd28 pc) else cd27 pc)) else (bif Nat.ble 24 m then (bif Nat.ble 25 m then (bif Nat.ble 26 m then cd26 pc else cd25 pc) else cd24 pc) else (bif Nat.ble 23 m then cd23 pc else cd22 pc)))) else (bif Nat.ble 11 m then (bif Nat.ble 16 m then (bif Nat.ble 19 m then (bif Nat.ble 20 m then (bif Nat.ble 21 m then cd21 pc else cd20 pc) else cd19 pc) else (bif Nat.ble 17 m then (bif Nat.ble 18 m then cd18 pc else cd17 pc) else cd16 pc)) else (bif Nat.ble 13 m then (bif Nat.ble 14 m then (bif Nat.ble 15 m then cd15 pc else cd14 pc) else cd13 pc) else (bif Nat.ble 12 m then cd12 pc else cd11 pc))) else (bif Nat.ble 5 m then (bif Nat.ble 8 m then (bif Nat.ble 9 m then (bif Nat.ble 10 m then cd10 pc else cd9 pc) else cd8 pc) else (bif Nat.ble 6 m then (bif Nat.ble 7 m then cd7 pc else cd6 pc) else cd5 pc)) else (bif Nat.ble 2 m then (bif Nat.ble 3 m then (bif Nat.ble 4 m then cd4 pc else cd3 pc) else cd2 pc) else (bif Nat.ble 1 m then cd1 pc else cd0 pc)))))
def lkF : List (Nat × Nat × Nat) := [(1, 7, 0), (1, 13, 1), (1, 16, 2), (1, 19, 3), (1, 22, 4), (1, 25, 5), (1, 28, 6), (1, 32, 7), (1, 35, 8), (1, 38, 9), (1, 41, 10), (1, 44, 11), (1, 47, 12), (1, 50, 13), (1, 53, 14), (1, 56, 15), (1, 59, 16), (1, 62, 17)]
def lkN : List (Nat × Nat) := [(0, 23)]
def lkC : List (Nat × Nat × Nat) := [(0, 7, 0)]
def lkD : List (Nat × Nat × Nat) := []
def lkV : List (Nat × Nat × Nat) := [(0, 10, 1), (0, 63, 2), (1, 65, 3), (1, 98, 4), (1, 69, 5), (1, 136, 6), (1, 101, 7), (1, 104, 8), (0, 31, 9), (0, 34, 10), (0, 66, 11), (0, 69, 12), (0, 22, 13), (0, 28, 14), (0, 37, 15), (1, 79, 16), (0, 40, 17), (0, 43, 18), (1, 94, 19), (0, 46, 20), (0, 49, 21), (0, 52, 22), (1, 83, 23), (0, 56, 24), (0, 60, 25), (1, 86, 26), (1, 118, 27), (1, 121, 28), (1, 90, 29), (0, 14, 30), (0, 18, 31), (0, 73, 32), (1, 73, 33), (1, 110, 34), (1, 114, 35), (1, 139, 36), (1, 76, 37), (1, 107, 38), (1, 124, 39), (1, 127, 40), (1, 130, 41), (1, 133, 42), (0, 77, 43)]
def lkO : List (Nat × Nat) := [(1, 1)]
def mV : List Nat := [11, 13, 14, 15, 17, 18, 20, 21, 22, 25, 32, 43]
def mP : List Nat := [3, 4, 5, 6, 7, 8, 16, 19, 23, 26, 27, 28, 29, 33, 34, 35, 36, 37, 38, 39, 40, 41, 42]
def mS : List Nat := [1, 9, 10, 12, 24, 30, 31]
def mI : List Nat := [2]
def mA : List Nat := [1, 2, 3, 4, 5, 6, 7, 8, 9, 10, 11, 12, 13, 14, 15, 16, 17, 18, 19, 20, 21, 22, 23, 24, 25, 26, 27, 28, 29, 30, 31, 32, 33, 34, 35, 36, 37, 38, 39, 40, 41, 42, 43]
def aTys : List FieldType := [.int]
abbrev QCell := List Value ⊕ ((FieldType × List Int32) ⊕ List Int64)
abbrev QHeap := List QCell
abbrev QLoc := List (Option Value)
abbrev vI (x : Int32) : Option Value := some (.int x)
abbrev vR (a : Addr) : Option Value := some (.ref a)
abbrev vL (x : Int64) : Option Value := some (.long x)
abbrev QSt := Nat × QLoc × List Value × QHeap
def qv (ad : Nat → Addr) : Value → Value
 | .ref k => .ref (ad k)
 | v => v
def qsz : QCell → Nat
 | .inl _ => cN
 | .inr (.inl x) => x.2.length
 | .inr (.inr x) => x.length
def qhs : QHeap → Nat
 | [] => 0
 | c :: t => qsz c + qhs t
def aget {α : Type} (xs : List α) (j : Int32) : Option α := if j < 0 then none else xs[j.toNatClampNeg]?
def aset {α : Type} (xs : List α) (j : Int32) (v : α) : Option (List α) := if j < 0 then none else if j.toNatClampNeg < xs.length then some (xs.set j.toNatClampNeg v) else none
def qnew (n : Int32) : Option Nat := if n < 0 then none else if n.toNatClampNeg ≤ 67108864 then some n.toNatClampNeg else none
def qdiv (x y : Int32) : Option Int32 := if y = 0 then none else some (x / y)
def qrem (x y : Int32) : Option Int32 := if y = 0 then none else some (x % y)
def qboo (x : Int32) : Option Int32 := if x = 0 then some x else if x = 1 then some x else none
def lget : QLoc → Nat → Option Value
 | [], _ => none
 | v :: _, 0 => v
 | _ :: t, k + 1 => lget t k
def hget : QHeap → Nat → Option QCell
 | [], _ => none
 | v :: _, 0 => some v
 | _ :: t, k + 1 => hget t k
def vget : List Value → Nat → Option Value
 | [], _ => none
 | v :: _, 0 => some v
 | _ :: t, k + 1 => vget t k
def lkill (L : QLoc) : Nat → QLoc
 | 0 => L
 | k + 1 => match lget L k with
  | some (.long _) => L.set k none
  | some (.double _) => L.set k none
  | _ => L
def lput (L : QLoc) (k : Nat) (v : Value) : Option QLoc :=
 match v with
 | .long x => bif Nat.ble (k + 2) L.length then some (((lkill L k).set k (some (.long x))).set (k + 1) none) else none
 | .double _ => none
 | v => bif Nat.ble (k + 1) L.length then some ((lkill L k).set k (some v)) else none
def qload (pc : Nat) (L : QLoc) (S : List Value) (σ : QHeap) (k : Nat) (ok : Value → Bool) : Option QSt :=
 match lget L k with
 | some v => bif ok v then some (pc, L, v :: S, σ) else none
 | none => none
def isI : Value → Bool | .int _ => true | _ => false
def isJ : Value → Bool | .long _ => true | _ => false
def isR : Value → Bool | .ref _ => true | _ => false
def qstore (pc : Nat) (L : QLoc) (S : List Value) (σ : QHeap) (k : Nat) (ok : Value → Bool) : Option QSt :=
 match S with
 | v :: S' => bif ok v then (match lput L k v with | some L' => some (pc, L', S', σ) | none => none) else none
 | [] => none
def qbin (pc : Nat) (L : QLoc) (S : List Value) (σ : QHeap) (f : Int32 → Int32 → Int32) : Option QSt :=
 match S with
 | .int y :: .int x :: S' => some (pc, L, .int (f x y) :: S', σ)
 | _ => none
def qbino (pc : Nat) (L : QLoc) (S : List Value) (σ : QHeap) (f : Int32 → Int32 → Option Int32) : Option QSt :=
 match S with
 | .int y :: .int x :: S' => (f x y).bind fun z => some (pc, L, .int z :: S', σ)
 | _ => none
def qbinJ (pc : Nat) (L : QLoc) (S : List Value) (σ : QHeap) (f : Int64 → Int64 → Int64) : Option QSt :=
 match S with
 | .long y :: .long x :: S' => some (pc, L, .long (f x y) :: S', σ)
 | _ => none
def qshJ (pc : Nat) (L : QLoc) (S : List Value) (σ : QHeap) (f : Int64 → Int32 → Int64) : Option QSt :=
 match S with
 | .int y :: .long x :: S' => some (pc, L, .long (f x y) :: S', σ)
 | _ => none
def quni (pc : Nat) (L : QLoc) (S : List Value) (σ : QHeap) (f : Int32 → Value) : Option QSt :=
 match S with
 | .int x :: S' => some (pc, L, f x :: S', σ)
 | _ => none
def quniJ (pc : Nat) (L : QLoc) (S : List Value) (σ : QHeap) (f : Int64 → Value) : Option QSt :=
 match S with
 | .long x :: S' => some (pc, L, f x :: S', σ)
 | _ => none
def qald (pc : Nat) (L : QLoc) (S : List Value) (σ : QHeap) (ok : FieldType → Bool) : Option QSt :=
 match S with
 | .int j :: .ref a :: S' => (match hget σ a with
  | some (.inr (.inl x)) => bif ok x.1 then (aget x.2 j).bind fun v => some (pc, L, .int v :: S', σ) else none
  | _ => none)
 | _ => none
def qaldJ (pc : Nat) (L : QLoc) (S : List Value) (σ : QHeap) : Option QSt :=
 match S with
 | .int j :: .ref a :: S' => (match hget σ a with
  | some (.inr (.inr x)) => (aget x j).bind fun v => some (pc, L, .long v :: S', σ)
  | _ => none)
 | _ => none
def qnar : FieldType → Int32 → Int32
 | .boolean, x => x &&& 1
 | .byte, x => x.toInt8.toInt32
 | _, x => x
def qast (pc : Nat) (L : QLoc) (S : List Value) (σ : QHeap) (ok : FieldType → Bool) : Option QSt :=
 match S with
 | .int v :: .int j :: .ref a :: S' => (match hget σ a with
  | some (.inr (.inl x)) => bif ok x.1 && Nat.ble k0 a then (aset x.2 j (qnar x.1 v)).bind fun y => some (pc, L, S', σ.set a (.inr (.inl (x.1, y)))) else none
  | _ => none)
 | _ => none
def qastJ (pc : Nat) (L : QLoc) (S : List Value) (σ : QHeap) : Option QSt :=
 match S with
 | .long v :: .int j :: .ref a :: S' => (match hget σ a with
  | some (.inr (.inr x)) => bif Nat.ble k0 a then (aset x j v).bind fun y => some (pc, L, S', σ.set a (.inr (.inr y))) else none
  | _ => none)
 | _ => none
def tyI : FieldType → Bool | .int => true | _ => false
def tyB : FieldType → Bool | .boolean => true | .byte => true | _ => false
def qfit : FieldType → Value → Option Value
 | .int, .int x => some (.int x)
 | .boolean, .int x => (qboo x).bind fun y => some (.int y)
 | .long, .long x => some (.long x)
 | .array t, .ref a => some (.ref a)
 | _, _ => none
def qget (pc : Nat) (L : QLoc) (S : List Value) (σ : QHeap) (k : Nat) : Option QSt :=
 match S with
 | .ref a :: S' => (match hget σ a with
  | some (.inl vs) => (match vget vs k with | some v => some (pc, L, v :: S', σ) | none => none)
  | _ => none)
 | _ => none
def qput (pc : Nat) (L : QLoc) (S : List Value) (σ : QHeap) (k : Nat) : Option QSt :=
 match S with
 | v :: .ref a :: S' => (match hget σ a with
  | some (.inl vs) => bif Nat.ble k0 a && Nat.ble (k + 1) vs.length then (qfit (fTy k) v).bind fun w => some (pc, L, S', σ.set a (.inl (vs.set k w))) else none
  | _ => none)
 | _ => none
def qnewA (pc : Nat) (L : QLoc) (S : List Value) (σ : QHeap) (t : ArrayType) : Option QSt :=
 match S with
 | .int n :: S' => (match t with
  | .int => (qnew n).bind fun k => some (pc, L, .ref σ.length :: S', σ ++ [.inr (.inl (.int, List.replicate k 0))])
  | .boolean => (qnew n).bind fun k => some (pc, L, .ref σ.length :: S', σ ++ [.inr (.inl (.boolean, List.replicate k 0))])
  | .byte => (qnew n).bind fun k => some (pc, L, .ref σ.length :: S', σ ++ [.inr (.inl (.byte, List.replicate k 0))])
  | .long => (qnew n).bind fun k => some (pc, L, .ref σ.length :: S', σ ++ [.inr (.inr (List.replicate k 0))])
  | _ => none)
 | _ => none
def qlen (pc : Nat) (L : QLoc) (S : List Value) (σ : QHeap) : Option QSt :=
 match S with
 | .ref a :: S' => (match hget σ a with
  | some (.inr (.inl x)) => some (pc, L, .int x.2.length.toInt32 :: S', σ)
  | some (.inr (.inr x)) => some (pc, L, .int x.length.toInt32 :: S', σ)
  | _ => none)
 | _ => none
def qdup (pc : Nat) (L : QLoc) (S : List Value) (σ : QHeap) : Option QSt :=
 match S with
 | .int x :: S' => some (pc, L, .int x :: .int x :: S', σ)
 | .ref x :: S' => some (pc, L, .ref x :: .ref x :: S', σ)
 | _ => none
def qdup2 (pc : Nat) (L : QLoc) (S : List Value) (σ : QHeap) : Option QSt :=
 match S with
 | .int x :: .ref y :: S' => some (pc, L, .int x :: .ref y :: .int x :: .ref y :: S', σ)
 | .int x :: .int y :: S' => some (pc, L, .int x :: .int y :: .int x :: .int y :: S', σ)
 | .long x :: S' => some (pc, L, .long x :: .long x :: S', σ)
 | _ => none
def qpop (pc : Nat) (L : QLoc) (S : List Value) (σ : QHeap) : Option QSt :=
 match S with
 | .int _ :: S' => some (pc, L, S', σ)
 | .ref _ :: S' => some (pc, L, S', σ)
 | _ => none
def qif (pc : Nat) (L : QLoc) (S : List Value) (σ : QHeap) (cd : ClassFile.Cond) (tgt : Nat) : Option QSt :=
 match S with
 | .int x :: S' => some (bif ifCond.holds cd x then tgt else pc, L, S', σ)
 | _ => none
def qicmp (pc : Nat) (L : QLoc) (S : List Value) (σ : QHeap) (cd : ClassFile.Cond) (tgt : Nat) : Option QSt :=
 match S with
 | .int y :: .int x :: S' => some (bif if_icmp.holds cd x y then tgt else pc, L, S', σ)
 | _ => none
def qinc (pc : Nat) (L : QLoc) (S : List Value) (σ : QHeap) (k : Nat) (i : Int) : Option QSt :=
 match lget L k with
 | some (.int x) => (match lput L k (.int (x + Int32.ofInt i)) with | some L' => some (pc, L', S, σ) | none => none)
 | _ => none
def qldc (pc : Nat) (L : QLoc) (S : List Value) (σ : QHeap) (k : Nat) : Option QSt :=
 match vget cK k with
 | some v => some (pc, L, v :: S, σ)
 | none => none
def qexec (pc : Nat) (L : QLoc) (S : List Value) (σ : QHeap) (aux : Nat) : Instr → Option QSt
 | .aload_n k => qload (pc + 1) L S σ k.val isR
 | .aload k => qload (pc + 2) L S σ k isR
 | .iload_n k => qload (pc + 1) L S σ k.val isI
 | .iload k => qload (pc + 2) L S σ k isI
 | .lload_n k => qload (pc + 1) L S σ k.val isJ
 | .lload k => qload (pc + 2) L S σ k isJ
 | .iconst i => some (pc + 1, L, .int (Int32.ofInt i) :: S, σ)
 | .bipush i => some (pc + 2, L, .int (Int8.ofInt i).toInt32 :: S, σ)
 | .sipush i => some (pc + 3, L, .int (Int16.ofInt i).toInt32 :: S, σ)
 | .lconst k => some (pc + 1, L, .long (Int64.ofNat k.val) :: S, σ)
 | .ldc _ => qldc (pc + 2) L S σ aux
 | .ldc2_w _ => qldc (pc + 3) L S σ aux
 | .istore_n k => qstore (pc + 1) L S σ k.val isI
 | .istore k => qstore (pc + 2) L S σ k isI
 | .lstore_n k => qstore (pc + 1) L S σ k.val isJ
 | .lstore k => qstore (pc + 2) L S σ k isJ
 | .astore_n k => qstore (pc + 1) L S σ k.val isR
 | .astore k => qstore (pc + 2) L S σ k isR
 | .iinc k i => qinc (pc + 3) L S σ k i
 | .iadd => qbin (pc + 1) L S σ fun x y => x + y
 | .isub => qbin (pc + 1) L S σ fun x y => x - y
 | .imul => qbin (pc + 1) L S σ fun x y => x * y
 | .iand => qbin (pc + 1) L S σ fun x y => x &&& y
 | .ior => qbin (pc + 1) L S σ fun x y => x ||| y
 | .ixor => qbin (pc + 1) L S σ fun x y => x ^^^ y
 | .ishl => qbin (pc + 1) L S σ fun x y => x <<< (y &&& 31)
 | .ishr => qbin (pc + 1) L S σ fun x y => x >>> (y &&& 31)
 | .iushr => qbin (pc + 1) L S σ fun x y => XT.ushr x y
 | .idiv => qbino (pc + 1) L S σ qdiv
 | .irem => qbino (pc + 1) L S σ qrem
 | .ineg => quni (pc + 1) L S σ fun x => .int (-x)
 | .i2l => quni (pc + 1) L S σ fun x => .long x.toInt64
 | .i2b => quni (pc + 1) L S σ fun x => .int x.toInt8.toInt32
 | .l2i => quniJ (pc + 1) L S σ fun x => .int x.toInt32
 | .lneg => quniJ (pc + 1) L S σ fun x => .long (-x)
 | .ladd => qbinJ (pc + 1) L S σ fun x y => x + y
 | .lsub => qbinJ (pc + 1) L S σ fun x y => x - y
 | .lmul => qbinJ (pc + 1) L S σ fun x y => x * y
 | .land => qbinJ (pc + 1) L S σ fun x y => x &&& y
 | .lor => qbinJ (pc + 1) L S σ fun x y => x ||| y
 | .lxor => qbinJ (pc + 1) L S σ fun x y => x ^^^ y
 | .lshl => qshJ (pc + 1) L S σ fun x y => x <<< (y.toInt64 &&& 63)
 | .lshr => qshJ (pc + 1) L S σ fun x y => x >>> (y.toInt64 &&& 63)
 | .lushr => qshJ (pc + 1) L S σ fun x y => XT.ushrL x y
 | .lcmp => (match S with
  | .long y :: .long x :: S' => some (pc + 1, L, .int (XT.cmpL x y) :: S', σ)
  | _ => none)
 | .goto _ => some (aux, L, S, σ)
 | .ifCond cd _ => qif (pc + 3) L S σ cd aux
 | .if_icmp cd _ => qicmp (pc + 3) L S σ cd aux
 | .dup => qdup (pc + 1) L S σ
 | .dup2 => qdup2 (pc + 1) L S σ
 | .pop => qpop (pc + 1) L S σ
 | .getfield _ => qget (pc + 3) L S σ aux
 | .putfield _ => qput (pc + 3) L S σ aux
 | .iaload => qald (pc + 1) L S σ tyI
 | .baload => qald (pc + 1) L S σ tyB
 | .laload => qaldJ (pc + 1) L S σ
 | .iastore => qast (pc + 1) L S σ tyI
 | .bastore => qast (pc + 1) L S σ tyB
 | .lastore => qastJ (pc + 1) L S σ
 | .arraylength => qlen (pc + 1) L S σ
 | .newarray t => qnewA (pc + 2) L S σ t
 | .new _ => some (pc + 3, L, .ref σ.length :: S, σ ++ [.inl cDef])
 | _ => none
def qstep (m : Nat) (st : QSt) : Option QSt :=
 match pCode m st.1 with
 | some (i, aux) => qexec st.1 st.2.1 st.2.2.1 st.2.2.2 aux i
 | none => none
def qsteps (m : Nat) : Nat → QSt → Option QSt
 | 0, st => some st
 | n + 1, st => match qstep m st with | some st' => qsteps m n st' | none => none
def qentry (args : List Value) (mx : Nat) : QLoc := (args.flatMap fun v => match v with | .long x => [some (.long x), none] | .double x => [some (.double x), none] | v => [some v]) ++ List.replicate (mx - (args.map fun v => v.category).sum) none
def ilen : Instr → Nat
 | .aload _ | .iload _ | .lload _ | .istore _ | .lstore _ | .astore _ | .bipush _ | .ldc _ | .newarray _ => 2
 | .sipush _ | .ldc2_w _ | .iinc _ _ | .goto _ | .ifCond _ _ | .if_icmp _ _ | .getfield _ | .putfield _ | .new _ | .invokevirtual _ | .invokespecial _ | .invokestatic _ => 3
 | _ => 1
def qtgt (pc : Nat) (o : Int) (aux : Nat) : Bool := decide (0 ≤ (pc : Int) + o) && decide (((pc : Int) + o).toNat = aux)
def qlk (m pc : Nat) (i : Instr) (aux : Nat) : Bool :=
 match i with
 | .goto o => qtgt pc o aux
 | .ifCond _ o => qtgt pc o aux
 | .if_icmp _ o => qtgt pc o aux
 | .getfield idx => lkF.contains (pK m, idx, aux)
 | .putfield idx => lkF.contains (pK m, idx, aux) && (!fFin aux || (pK m == 1 && pNm m == "<init>"))
 | .new idx => lkN.contains (pK m, idx)
 | .newarray t => aTys.contains (newarray.typeOf t)
 | .ldc idx => lkC.contains (pK m, idx, aux)
 | .ldc2_w idx => lkD.contains (pK m, idx, aux)
 | _ => true
def qchk (m pc : Nat) (i : Instr) (aux : Nat) : Bool := decide (decode (pBytes m) pc = .ok (i, ilen i)) && qlk m pc i aux
def QCellOk (Z : State) (ad : Nat → Addr) (h : Heap) (a : Addr) : QCell → Prop
 | .inl vs => Exa Z h a cName ∧ vs.length = nF ∧ ∀ (k : Nat) (v : Value), k < nF → vget vs k = some v → Fld Z h a cName (fNm k) (fDs k) (qv ad v)
 | .inr (.inl x) => ∃ c : Cell, Arr Z h a c x.1 ∧ c.slots = (x.2.map Value.int).toArray
 | .inr (.inr x) => ∃ c : Cell, Arr Z h a c .long ∧ c.slots = (x.map Value.long).toArray
def QAd (n0 : Nat) (ad : Nat → Addr) : Prop := (∀ k, k0 ≤ k → ad k = n0 + (k - k0)) ∧ ∀ i j, ad i = ad j → i = j
def QRep (Z : State) (n0 : Nat) (ad : Nat → Addr) (h : Heap) (σ : QHeap) : Prop := k0 ≤ σ.length ∧ h.size = n0 + (σ.length - k0) ∧ ∀ k c, hget σ k = some c → QCellOk Z ad h (ad k) c
def QLocOk (ad : Nat → Addr) (L : QLoc) (C : Array Slot) : Prop :=
 L.length = C.size ∧ (∀ k v, lget L k = some v → C[k]? = some (.val (qv ad v))) ∧ (∀ k w, C[k]? = some (.val w) → w.category = 2 → C[k + 1]? = some .second) ∧ ∀ k, C[k]? = some .second → ∃ j w, k = j + 1 ∧ C[j]? = some (.val w) ∧ w.category = 2
def QW (Z : State) (a0 : Array Value) : Prop :=
 (∀ t ∈ lkF, (Cond.fieldLink (kName t.1) t.2.1 cName (fNm t.2.2) (fDs t.2.2)).before a0 Z = true) ∧
 (∀ t ∈ lkN, (Cond.classLink (kName t.1) t.2 cName).before a0 Z = true) ∧
 (∀ t ∈ lkC, ∃ v, vget cK t.2.2 = some (.int v) ∧ (Cond.constant (kName t.1) t.2.1 v).before a0 Z = true) ∧
 (∀ t ∈ lkD, ∃ v, vget cK t.2.2 = some (.long v) ∧ (Cond.constantLong (kName t.1) t.2.1 v).before a0 Z = true) ∧
 (∀ t ∈ lkV, (Cond.methodLink (kName t.1) t.2.1 (pName t.2.2)).before a0 Z = true) ∧
 (∀ t ∈ lkO, (Cond.methodLink (kName t.1) t.2 Lib.objectInit).before a0 Z = true) ∧
 (∀ m ∈ mV, (Cond.declares (pName m)).before a0 Z = true ∧ (Cond.selects cName (pName m) (pName m)).before a0 Z = true ∧ (Cond.instanceMethod (pName m)).before a0 Z = true) ∧
 (∀ m ∈ mP, (Cond.instanceMethod (pName m)).before a0 Z = true ∧ (Cond.privateMethod (pName m)).before a0 Z = true) ∧
 (∀ m ∈ mS, (Cond.static (pName m)).before a0 Z = true) ∧
 (∀ m ∈ mI, (Cond.instanceMethod (pName m)).before a0 Z = true) ∧
 (∀ m ∈ mA, (Cond.code (pName m) (pBytes m) (pMaxL m) (pRet m)).before a0 Z = true ∧ (Cond.initialized (kName (pK m))).before a0 Z = true) ∧
 (Cond.instanceMethod Lib.objectInit).before a0 Z = true ∧ (Cond.code Lib.objectInit ⟨#[0xb1]⟩ 1 none).before a0 Z = true ∧
 (∀ k, k < nF → bif fFin k then (Cond.laysFinal cName cName (fNm k) (fDs k)).before a0 Z = true else (Cond.lays cName cName (fNm k) (fDs k)).before a0 Z = true) ∧
 (Cond.instantiable cName cN).before a0 Z = true ∧ (Cond.initialized cName).before a0 Z = true ∧
 ∀ ty ∈ aTys, (Cond.arrayClass ty).before a0 Z = true
section Words
variable {Z : State} {a0 : Array Value}
theorem qw_fl (W : QW Z a0) : ∀ t ∈ lkF, (Cond.fieldLink (kName t.1) t.2.1 cName (fNm t.2.2) (fDs t.2.2)).before a0 Z = true := W.1
theorem qw_nw (W : QW Z a0) : ∀ t ∈ lkN, (Cond.classLink (kName t.1) t.2 cName).before a0 Z = true := W.2.1
theorem qw_cI (W : QW Z a0) : ∀ t ∈ lkC, ∃ v, vget cK t.2.2 = some (.int v) ∧ (Cond.constant (kName t.1) t.2.1 v).before a0 Z = true := W.2.2.1
theorem qw_cJ (W : QW Z a0) : ∀ t ∈ lkD, ∃ v, vget cK t.2.2 = some (.long v) ∧ (Cond.constantLong (kName t.1) t.2.1 v).before a0 Z = true := W.2.2.2.1
theorem qw_ml (W : QW Z a0) : ∀ t ∈ lkV, (Cond.methodLink (kName t.1) t.2.1 (pName t.2.2)).before a0 Z = true := W.2.2.2.2.1
theorem qw_mo (W : QW Z a0) : ∀ t ∈ lkO, (Cond.methodLink (kName t.1) t.2 Lib.objectInit).before a0 Z = true := W.2.2.2.2.2.1
theorem qw_vi (W : QW Z a0) : ∀ m ∈ mV, (Cond.declares (pName m)).before a0 Z = true ∧ (Cond.selects cName (pName m) (pName m)).before a0 Z = true ∧ (Cond.instanceMethod (pName m)).before a0 Z = true := W.2.2.2.2.2.2.1
theorem qw_pr (W : QW Z a0) : ∀ m ∈ mP, (Cond.instanceMethod (pName m)).before a0 Z = true ∧ (Cond.privateMethod (pName m)).before a0 Z = true := W.2.2.2.2.2.2.2.1
theorem qw_st (W : QW Z a0) : ∀ m ∈ mS, (Cond.static (pName m)).before a0 Z = true := W.2.2.2.2.2.2.2.2.1
theorem qw_ini (W : QW Z a0) : ∀ m ∈ mI, (Cond.instanceMethod (pName m)).before a0 Z = true := W.2.2.2.2.2.2.2.2.2.1
theorem qw_cod (W : QW Z a0) : ∀ m ∈ mA, (Cond.code (pName m) (pBytes m) (pMaxL m) (pRet m)).before a0 Z = true ∧ (Cond.initialized (kName (pK m))).before a0 Z = true := W.2.2.2.2.2.2.2.2.2.2.1
theorem qw_oi (W : QW Z a0) : (Cond.instanceMethod Lib.objectInit).before a0 Z = true := W.2.2.2.2.2.2.2.2.2.2.2.1
theorem qw_oc (W : QW Z a0) : (Cond.code Lib.objectInit ⟨#[0xb1]⟩ 1 none).before a0 Z = true := W.2.2.2.2.2.2.2.2.2.2.2.2.1
theorem qw_lay (W : QW Z a0) : ∀ k, k < nF → bif fFin k then (Cond.laysFinal cName cName (fNm k) (fDs k)).before a0 Z = true else (Cond.lays cName cName (fNm k) (fDs k)).before a0 Z = true := W.2.2.2.2.2.2.2.2.2.2.2.2.2.1
theorem qw_inst (W : QW Z a0) : (Cond.instantiable cName cN).before a0 Z = true := W.2.2.2.2.2.2.2.2.2.2.2.2.2.2.1
theorem qw_init (W : QW Z a0) : (Cond.initialized cName).before a0 Z = true := W.2.2.2.2.2.2.2.2.2.2.2.2.2.2.2.1
theorem qw_arr (W : QW Z a0) : ∀ ty ∈ aTys, (Cond.arrayClass ty).before a0 Z = true := W.2.2.2.2.2.2.2.2.2.2.2.2.2.2.2.2
end Words
theorem hget_eq : ∀ (σ : QHeap) k, hget σ k = σ[k]?
 | [], _ => by simp [hget]
 | _ :: _, 0 => by simp [hget]
 | _ :: t, k + 1 => by simp [hget, hget_eq t k]
theorem vget_eq : ∀ (σ : List Value) k, vget σ k = σ[k]?
 | [], _ => by simp [vget]
 | _ :: _, 0 => by simp [vget]
 | _ :: t, k + 1 => by simp [vget, vget_eq t k]
theorem lget_eq : ∀ (L : QLoc) k, lget L k = (L[k]?).getD none
 | [], _ => by simp [lget]
 | _ :: _, 0 => by simp [lget]
 | _ :: t, k + 1 => by simp [lget, lget_eq t k]
theorem lget_lt {L : QLoc} {k : Nat} {v : Value} (h : lget L k = some v) : k < L.length := by
 rw [lget_eq] at h
 rcases Nat.lt_or_ge k L.length with q | q
 ·exact q
 ·simp [List.getElem?_eq_none q] at h
theorem lget_set {L : QLoc} {k j : Nat} {o : Option Value} (hk : k < L.length) : lget (L.set k o) j = if j = k then o else lget L j := by
 simp only [lget_eq, List.getElem?_set]
 by_cases e : k = j
 ·subst e; simp [hk]
 ·simp [e, Ne.symm e]
theorem qhs_app (σ τ : QHeap) : qhs (σ ++ τ) = qhs σ + qhs τ := by
 induction σ with
 | nil => simp [qhs]
 | cons c t ih => simp [qhs, ih, Nat.add_assoc]
theorem qhs_set {σ : QHeap} {k : Nat} {c d : QCell} (h : hget σ k = some c) (hs : qsz d = qsz c) : qhs (σ.set k d) = qhs σ := by
 induction σ generalizing k with
 | nil => simp [hget] at h
 | cons x t ih =>
  cases k with
  | zero => simp only [hget, Option.some.injEq] at h; subst h; simp [qhs, hs]
  | succ k => simp only [hget] at h; simp [qhs, ih h]
theorem hget_set {σ : QHeap} {k j : Nat} {c d : QCell} (h : hget σ k = some c) : hget (σ.set k d) j = if j = k then some d else hget σ j := by
 rw [hget_eq] at h
 have hk := (List.getElem?_eq_some_iff.mp h).1
 simp only [hget_eq, List.getElem?_set]
 by_cases e : k = j
 ·subst e; simp [hk]
 ·simp [e, Ne.symm e]
theorem lkill_len (L : QLoc) (k : Nat) : (lkill L k).length = L.length := by
 cases k with
 | zero => rfl
 | succ k => simp only [lkill]; split <;> simp
theorem lget_kill {L : QLoc} {k j : Nat} {v : Value} (h : lget (lkill L k) j = some v) : lget L j = some v ∧ (k = j + 1 → v.category ≠ 2) := by
 cases k with
 | zero => exact ⟨h, fun e => by omega⟩
 | succ k =>
  simp only [lkill] at h
  split at h
  ·rename_i x q
   rw [lget_set (lget_lt q)] at h
   split at h
   ·cases h
   ·rename_i ne; exact ⟨h, fun e => absurd (by omega) ne⟩
  ·rename_i x q
   rw [lget_set (lget_lt q)] at h
   split at h
   ·cases h
   ·rename_i ne; exact ⟨h, fun e => absurd (by omega) ne⟩
  ·rename_i q1 q2
   refine ⟨h, fun e hc => ?_⟩
   obtain rfl : j = k := by omega
   cases v with
   | long x => exact q1 _ h
   | double x => exact q2 _ h
   | _ => simp [Value.category] at hc
theorem qv_cat (ad : Nat → Addr) (v : Value) : (qv ad v).category = v.category := by cases v <;> rfl
def kA (C : Array Slot) (k j : Nat) : Prop := k = j + 1 ∧ C[k]? = some .second
def kB (C : Array Slot) (k j : Nat) : Prop := j = k + 1 ∧ ∃ u, C[k]? = some (.val u) ∧ u.category = 2
def kD (C : Array Slot) (k j : Nat) : Prop := j = k + 2 ∧ ∃ u, C[k + 1]? = some (.val u) ∧ u.category = 2
theorem set1_at {C D : Array Slot} {k : Nat} {w : Value} (hk : k < C.size) (hw : w.category = 1) (h : storeLocals C k w = some D) :
  D.size = C.size ∧ D[k]? = some (.val w) ∧ ∀ j, j ≠ k → (D[j]? = C[j]? ∧ ¬ kA C k j ∧ ¬ kB C k j) ∨ D[j]? = some .unset ∧ (kA C k j ∨ kB C k j) := by
 have hck : C[k]? = some C[k] := Array.getElem?_eq_getElem hk
 unfold storeLocals at h
 simp only [hck, Option.bind_eq_bind, Option.bind_some] at h
 have self : ∀ {E : Array Slot}, k < E.size → storeSelf E k w = some D → D = E.setIfInBounds k (.val w) := by
  intro E hE q
  simp only [storeSelf, setAt, hE, if_true, Option.bind_eq_bind, Option.bind_some, hw] at q
  simpa using q.symm
 split at h
 ·rename_i q
  have hk1 : k - 1 < C.size := by omega
  simp only [setAt, hk1, if_true, Option.bind_some] at h
  have e := self (by simpa using hk) h
  subst e
  refine ⟨by simp, by simp [hk], fun j hj => ?_⟩
  by_cases ej : k = j + 1
  ·refine Or.inr ⟨?_, Or.inl ⟨ej, by rw [hck, q]⟩⟩
   rw [Array.getElem?_setIfInBounds_ne (Ne.symm hj), show j = k - 1 by omega]
   simp [hk1]
  ·refine Or.inl ⟨?_, fun x => ej x.1, fun x => ?_⟩
   ·rw [Array.getElem?_setIfInBounds_ne (Ne.symm hj), Array.getElem?_setIfInBounds_ne (by omega)]
   ·obtain ⟨-, u, x1, -⟩ := x
    rw [hck, q] at x1; cases x1
 ·rename_i u q
  split at h
  ·rename_i hu
   by_cases hk1 : k + 1 < C.size
   ·simp only [setAt, hk1, if_true, Option.bind_some] at h
    have e := self (by simpa using hk) h
    subst e
    refine ⟨by simp, by simp [hk], fun j hj => ?_⟩
    by_cases ej : j = k + 1
    ·refine Or.inr ⟨?_, Or.inr ⟨ej, u, by rw [hck, q], hu⟩⟩
     rw [Array.getElem?_setIfInBounds_ne (Ne.symm hj), ej]
     simp [hk1]
    ·refine Or.inl ⟨?_, fun x => ?_, fun x => ej x.1⟩
     ·rw [Array.getElem?_setIfInBounds_ne (Ne.symm hj), Array.getElem?_setIfInBounds_ne (by omega)]
     ·obtain ⟨-, x1⟩ := x
      rw [hck, q] at x1; cases x1
   ·simp [setAt, hk1] at h
  ·rename_i hu
   have e := self hk h
   subst e
   refine ⟨by simp, by simp [hk], fun j hj => Or.inl ⟨Array.getElem?_setIfInBounds_ne (Ne.symm hj), fun x => ?_, fun x => ?_⟩⟩
   ·obtain ⟨-, x1⟩ := x
    rw [hck, q] at x1; cases x1
   ·obtain ⟨-, u', x1, x2⟩ := x
    rw [hck, q] at x1; cases x1; exact hu x2
 ·rename_i q
  have e := self hk h
  subst e
  refine ⟨by simp, by simp [hk], fun j hj => Or.inl ⟨Array.getElem?_setIfInBounds_ne (Ne.symm hj), fun x => ?_, fun x => ?_⟩⟩
  ·obtain ⟨-, x1⟩ := x
   rw [hck, q] at x1; cases x1
  ·obtain ⟨-, u', x1, x2⟩ := x
   rw [hck, q] at x1; cases x1
theorem set2_at {C D : Array Slot} {k : Nat} {w : Value} (hk : k + 1 < C.size) (hw : w.category = 2) (wf : ∀ k w, C[k]? = some (.val w) → w.category = 2 → C[k + 1]? = some .second) (h : storeLocals C k w = some D) :
  D.size = C.size ∧ D[k]? = some (.val w) ∧ D[k + 1]? = some .second ∧ ∀ j, j ≠ k → j ≠ k + 1 → (D[j]? = C[j]? ∧ ¬ kA C k j ∧ ¬ kD C k j) ∨ D[j]? = some .unset ∧ (kA C k j ∨ kD C k j) := by
 have hk0 : k < C.size := by omega
 have hck : C[k]? = some C[k] := Array.getElem?_eq_getElem hk0
 unfold storeLocals at h
 simp only [hck, Option.bind_eq_bind, Option.bind_some] at h
 have self : ∀ {E : Array Slot}, E.size = C.size → storeSelf E k w = some D → D.size = C.size ∧ D[k]? = some (.val w) ∧ D[k + 1]? = some .second ∧ ∀ j, j ≠ k → j ≠ k + 1 → (D[j]? = E[j]? ∧ ¬ kD E k j) ∨ D[j]? = some .unset ∧ kD E k j := by
  intro E hs q
  have h1 : k < E.size := by omega
  have h2 : k + 1 < E.size := by omega
  have h3 : (E.setIfInBounds k (.val w))[k + 1]? = some E[k + 1] := by rw [Array.getElem?_setIfInBounds_ne (by omega)]; exact Array.getElem?_eq_getElem h2
  simp only [storeSelf, setAt, h1, if_true, Option.bind_eq_bind, Option.bind_some, hw, h3] at q
  have plain : (¬ ∃ u, E[k + 1]? = some (.val u) ∧ u.category = 2) → some ((E.setIfInBounds k (.val w)).setIfInBounds (k + 1) .second) = some D → D.size = C.size ∧ D[k]? = some (.val w) ∧ D[k + 1]? = some .second ∧ ∀ j, j ≠ k → j ≠ k + 1 → (D[j]? = E[j]? ∧ ¬ kD E k j) ∨ D[j]? = some .unset ∧ kD E k j := by
   intro no q
   cases q
   refine ⟨by simp [hs], ?_, ?_, fun j hj hj1 => Or.inl ⟨?_, fun x => no x.2⟩⟩
   ·rw [Array.getElem?_setIfInBounds_ne (by omega)]; simp [h1]
   ·simp [h2]
   ·rw [Array.getElem?_setIfInBounds_ne (by omega), Array.getElem?_setIfInBounds_ne (by omega)]
  split at q
  ·rename_i u hu
   split at q
   ·rename_i hu2
    by_cases h5 : k + 2 < E.size
    ·simp [h5, h2] at q
     cases q
     refine ⟨by simp [hs], ?_, ?_, fun j hj hj1 => ?_⟩
     ·rw [Array.getElem?_setIfInBounds_ne (by omega), Array.getElem?_setIfInBounds_ne (by omega)]; simp [h1]
     ·simp [h2]
     ·by_cases e : j = k + 2
      ·refine Or.inr ⟨?_, e, u, by rw [Array.getElem?_eq_getElem h2, hu], hu2⟩
       rw [Array.getElem?_setIfInBounds_ne (by omega), e]
       simp [h5]
      ·refine Or.inl ⟨?_, fun x => e x.1⟩
       rw [Array.getElem?_setIfInBounds_ne (by omega), Array.getElem?_setIfInBounds_ne (by omega), Array.getElem?_setIfInBounds_ne (by omega)]
    ·simp [h5] at q
   ·rename_i hu2
    refine plain ?_ (by simpa [h2] using q)
    rintro ⟨u', x1, x2⟩
    rw [Array.getElem?_eq_getElem h2, hu] at x1; cases x1; exact hu2 x2
  ·rename_i hu
   refine plain ?_ (by simpa [h2] using q)
   rintro ⟨u', x1, x2⟩
   rw [Array.getElem?_eq_getElem h2] at x1; exact hu _ (Option.some.inj x1)
 split at h
 ·rename_i q
  have hk1 : k - 1 < C.size := by omega
  simp only [setAt, hk1, if_true, Option.bind_some] at h
  obtain ⟨e1, e2, e3, e4⟩ := self (by simp) h
  refine ⟨e1, e2, e3, fun j hj hj1 => ?_⟩
  have h6 : ∀ i, i + 1 ≠ k ∨ k = 0 → i ≠ k ∨ k ≠ 0 → (C.setIfInBounds (k - 1) Slot.unset)[i]? = C[i]? := fun i hi hi2 => Array.getElem?_setIfInBounds_ne (by omega)
  have h7 : (C.setIfInBounds (k - 1) Slot.unset)[k + 1]? = C[k + 1]? := Array.getElem?_setIfInBounds_ne (by omega)
  rcases e4 j hj hj1 with ⟨r, r'⟩ | ⟨r, r1, u, r2, r3⟩
  ·by_cases ej : k = j + 1
   ·refine Or.inr ⟨?_, Or.inl ⟨ej, by rw [hck, q]⟩⟩
    rw [r, show j = k - 1 by omega]; simp [hk1]
   ·refine Or.inl ⟨by rw [r]; exact h6 _ (by omega) (by omega), fun x => ej x.1, fun x => r' ⟨x.1, ?_⟩⟩
    rw [h7]; exact x.2
  ·exact Or.inr ⟨r, Or.inr ⟨r1, u, by rw [← h7]; exact r2, r3⟩⟩
 ·rename_i u q
  split at h
  ·rename_i hu
   simp only [setAt, hk, if_true, Option.bind_some] at h
   obtain ⟨e1, e2, e3, e4⟩ := self (by simp) h
   have hsec := wf k u (by rw [hck, q]) hu
   refine ⟨e1, e2, e3, fun j hj hj1 => ?_⟩
   rcases e4 j hj hj1 with ⟨r, r'⟩ | ⟨r, r1, u', r2, r3⟩
   ·refine Or.inl ⟨by rw [r]; exact Array.getElem?_setIfInBounds_ne (by omega), fun x => ?_, fun x => ?_⟩
    ·obtain ⟨-, x1⟩ := x
     rw [hck, q] at x1; cases x1
    ·obtain ⟨-, u', x1, x2⟩ := x
     rw [hsec] at x1; cases x1
   ·simp [hk] at r2
  ·rename_i hu
   obtain ⟨e1, e2, e3, e4⟩ := self rfl h
   refine ⟨e1, e2, e3, fun j hj hj1 => ?_⟩
   rcases e4 j hj hj1 with ⟨r, r'⟩ | ⟨r, r'⟩
   ·refine Or.inl ⟨r, fun x => ?_, r'⟩
    obtain ⟨-, x1⟩ := x
    rw [hck, q] at x1; cases x1
   ·exact Or.inr ⟨r, Or.inr r'⟩
 ·rename_i q
  obtain ⟨e1, e2, e3, e4⟩ := self rfl h
  refine ⟨e1, e2, e3, fun j hj hj1 => ?_⟩
  rcases e4 j hj hj1 with ⟨r, r'⟩ | ⟨r, r'⟩
  ·refine Or.inl ⟨r, fun x => ?_, r'⟩
   obtain ⟨-, x1⟩ := x
   rw [hck, q] at x1; cases x1
  ·exact Or.inr ⟨r, Or.inr r'⟩
theorem store_some {C : Array Slot} {k : Nat} {w : Value} (hk : k + (w.category - 1) < C.size) (hc : w.category = 1 ∨ w.category = 2) (wf : ∀ k w, C[k]? = some (.val w) → w.category = 2 → C[k + 1]? = some .second) :
  ∃ D, storeLocals C k w = some D := by
 have hk0 : k < C.size := by omega
 have hck : C[k]? = some C[k] := Array.getElem?_eq_getElem hk0
 have self : ∀ {E : Array Slot}, E.size = C.size → (∀ u, E[k + 1]? = some (.val u) → u.category = 2 → k + 2 < E.size) → ∃ D, storeSelf E k w = some D := by
  intro E hs hn
  have h1 : k < E.size := by omega
  simp only [storeSelf, setAt, h1, if_true, Option.bind_eq_bind, Option.bind_some]
  rcases hc with hc | hc
  ·exact ⟨E.setIfInBounds k (.val w), by simp [hc]⟩
  ·have h2 : k + 1 < E.size := by omega
   have h3 : (E.setIfInBounds k (.val w))[k + 1]? = some E[k + 1] := by rw [Array.getElem?_setIfInBounds_ne (by omega)]; exact Array.getElem?_eq_getElem h2
   simp only [hc, if_true, h3, Option.bind_some]
   split
   ·rename_i u hu
    split
    ·rename_i hu2
     have h5 := hn u (by rw [Array.getElem?_eq_getElem h2, hu]) hu2
     exact ⟨_, by simp [h5, h2]; rfl⟩
    ·exact ⟨_, by simp [h2]; rfl⟩
   ·exact ⟨_, by simp [h2]; rfl⟩
 have next : ∀ u, C[k + 1]? = some (.val u) → u.category = 2 → k + 2 < C.size := fun u h1 h2 => (Array.getElem?_eq_some_iff.mp (wf _ _ h1 h2)).1
 unfold storeLocals
 simp only [hck, Option.bind_eq_bind, Option.bind_some]
 split
 ·have hk1 : k - 1 < C.size := by omega
  simp only [setAt, hk1, if_true, Option.bind_some]
  refine self (by simp) fun u h1 h2 => ?_
  rw [Array.getElem?_setIfInBounds_ne (by omega)] at h1
  simpa using next u h1 h2
 ·rename_i u q
  split
  ·rename_i hu
   have h5 := (Array.getElem?_eq_some_iff.mp (wf k u (by rw [hck, q]) hu)).1
   simp only [setAt, h5, if_true, Option.bind_some]
   refine self (by simp) fun u h1 h2 => ?_
   simp [h5] at h1
  ·exact self rfl next
 ·exact self rfl next
theorem store_ok1 {ad : Nat → Addr} {L : QLoc} {C : Array Slot} {k : Nat} {v : Value} (H : QLocOk ad L C) (hv : v.category = 1) (hk : k < L.length) :
  ∃ D, storeLocals C k (qv ad v) = some D ∧ QLocOk ad ((lkill L k).set k (some v)) D ∧ D.size = C.size := by
 obtain ⟨H1, H2, H3, H4⟩ := H
 have hc : (qv ad v).category = 1 := by rw [qv_cat, hv]
 obtain ⟨D, hD⟩ := store_some (C := C) (k := k) (w := qv ad v) (by rw [hc]; omega) (Or.inl hc) H3
 obtain ⟨d1, d2, d3⟩ := set1_at (by omega) hc hD
 refine ⟨D, hD, ⟨by simp [lkill_len, H1, d1], fun j u hj => ?_, fun j w hj hw => ?_, fun j hj => ?_⟩, d1⟩
 ·rw [lget_set (by rw [lkill_len]; exact hk)] at hj
  split at hj
  ·rename_i e; cases hj; rw [e]; exact d2
  ·rename_i ne
   obtain ⟨g1, g2⟩ := lget_kill hj
   have g3 := H2 j u g1
   rcases d3 j ne with ⟨r, -, -⟩ | ⟨-, ⟨r1, r2⟩ | ⟨r1, w, r2, r3⟩⟩
   ·rw [r]; exact g3
   ·obtain ⟨i, w, z1, z2, z3⟩ := H4 k r2
    obtain rfl : i = j := by omega
    rw [g3] at z2
    cases z2
    rw [qv_cat] at z3
    exact absurd z3 (g2 r1)
   ·have := H3 k w r2 r3
    rw [← r1, g3] at this
    cases this
 ·by_cases e : j = k
  ·subst e; rw [d2] at hj; cases hj; rw [hc] at hw; cases hw
  ·rcases d3 j e with ⟨r, nA, nB⟩ | ⟨r, -⟩
   ·rw [r] at hj
    have g := H3 j w hj hw
    have e2 : j + 1 ≠ k := fun q => nA ⟨q.symm, by rw [← q]; exact g⟩
    rcases d3 (j + 1) e2 with ⟨z, -, -⟩ | ⟨-, ⟨z1, z2⟩ | ⟨z1, -⟩⟩
    ·rw [z]; exact g
    ·obtain ⟨i, u, y1, y2, y3⟩ := H4 k z2
     obtain rfl : i = j + 1 := by omega
     rw [g] at y2; cases y2
    ·omega
   ·rw [r] at hj; cases hj
 ·by_cases e : j = k
  ·subst e; rw [d2] at hj; cases hj
  ·rcases d3 j e with ⟨r, nA, nB⟩ | ⟨r, -⟩
   ·rw [r] at hj
    obtain ⟨i, w, y1, y2, y3⟩ := H4 j hj
    refine ⟨i, w, y1, ?_, y3⟩
    have ei : i ≠ k := fun q => nB ⟨by omega, w, by rw [← q]; exact y2, y3⟩
    rcases d3 i ei with ⟨z, -, -⟩ | ⟨-, ⟨z1, z2⟩ | ⟨z1, u, z2, z3⟩⟩
    ·rw [z]; exact y2
    ·omega
    ·have := H3 k u z2 z3
     rw [← z1, y2] at this; cases this
   ·rw [r] at hj; cases hj
theorem store_ok2 {ad : Nat → Addr} {L : QLoc} {C : Array Slot} {k : Nat} {x : Int64} (H : QLocOk ad L C) (hk : k + 1 < L.length) :
  ∃ D, storeLocals C k (.long x) = some D ∧ QLocOk ad (((lkill L k).set k (some (.long x))).set (k + 1) none) D ∧ D.size = C.size := by
 obtain ⟨H1, H2, H3, H4⟩ := H
 have hc : (Value.long x).category = 2 := rfl
 obtain ⟨D, hD⟩ := store_some (C := C) (k := k) (w := .long x) (by rw [hc]; omega) (Or.inr hc) H3
 obtain ⟨d1, d2, d2', d3⟩ := set2_at (by omega) hc H3 hD
 refine ⟨D, hD, ⟨by simp [lkill_len, H1, d1], fun j u hj => ?_, fun j w hj hw => ?_, fun j hj => ?_⟩, d1⟩
 ·rw [lget_set (by simp [lkill_len]; exact hk)] at hj
  split at hj
  ·cases hj
  ·rename_i ne1
   rw [lget_set (by rw [lkill_len]; omega)] at hj
   split at hj
   ·rename_i e; cases hj; rw [e]; exact d2
   ·rename_i ne
    obtain ⟨g1, g2⟩ := lget_kill hj
    have g3 := H2 j u g1
    rcases d3 j ne ne1 with ⟨r, -, -⟩ | ⟨-, ⟨r1, r2⟩ | ⟨r1, w, r2, r3⟩⟩
    ·rw [r]; exact g3
    ·obtain ⟨i, w, z1, z2, z3⟩ := H4 k r2
     obtain rfl : i = j := by omega
     rw [g3] at z2
     cases z2
     rw [qv_cat] at z3
     exact absurd z3 (g2 r1)
    ·have := H3 (k + 1) w r2 r3
     rw [show k + 1 + 1 = j by omega, g3] at this
     cases this
 ·by_cases e : j = k
  ·rw [e]; exact d2'
  ·by_cases e1 : j = k + 1
   ·rw [e1, d2'] at hj; cases hj
   ·rcases d3 j e e1 with ⟨r, nA, nB⟩ | ⟨r, -⟩
    ·rw [r] at hj
     have g := H3 j w hj hw
     have e2 : j + 1 ≠ k := fun q => nA ⟨q.symm, by rw [← q]; exact g⟩
     rcases d3 (j + 1) e2 (by omega) with ⟨z, -, -⟩ | ⟨-, ⟨z1, z2⟩ | ⟨z1, -⟩⟩
     ·rw [z]; exact g
     ·obtain ⟨i, u, y1, y2, y3⟩ := H4 k z2
      obtain rfl : i = j + 1 := by omega
      rw [g] at y2; cases y2
     ·omega
    ·rw [r] at hj; cases hj
 ·by_cases e : j = k
  ·rw [e, d2] at hj; cases hj
  ·by_cases e1 : j = k + 1
   ·exact ⟨k, _, e1, d2, hc⟩
   ·rcases d3 j e e1 with ⟨r, nA, nB⟩ | ⟨r, -⟩
    ·rw [r] at hj
     obtain ⟨i, w, y1, y2, y3⟩ := H4 j hj
     refine ⟨i, w, y1, ?_, y3⟩
     have ei : i ≠ k := fun q => e1 (by omega)
     have ei1 : i ≠ k + 1 := fun q => nB ⟨by omega, w, by rw [← q]; exact y2, y3⟩
     rcases d3 i ei ei1 with ⟨z, -, -⟩ | ⟨-, ⟨z1, z2⟩ | ⟨z1, u, z2, z3⟩⟩
     ·rw [z]; exact y2
     ·omega
     ·have := H3 (k + 1) u z2 z3
      rw [show k + 1 + 1 = i by omega, y2] at this; cases this
    ·rw [r] at hj; cases hj
theorem store_ok {ad : Nat → Addr} {L L' : QLoc} {C : Array Slot} {k : Nat} {v : Value} (H : QLocOk ad L C) (h : lput L k v = some L') :
  ∃ D, storeLocals C k (qv ad v) = some D ∧ QLocOk ad L' D ∧ D.size = C.size := by
 have one : v.category = 1 → (bif Nat.ble (k + 1) L.length then some ((lkill L k).set k (some v)) else none) = some L' → ∃ D, storeLocals C k (qv ad v) = some D ∧ QLocOk ad L' D ∧ D.size = C.size := by
  intro hv h
  cases hb : Nat.ble (k + 1) L.length with
  | false => rw [hb] at h; cases h
  | true => rw [hb] at h; cases h; exact store_ok1 H hv (Nat.le_of_ble_eq_true hb)
 cases v with
 | long x =>
  simp only [lput] at h
  cases hb : Nat.ble (k + 2) L.length with
  | false => rw [hb] at h; cases h
  | true => rw [hb] at h; cases h; exact store_ok2 H (Nat.le_of_ble_eq_true hb)
 | double x => simp [lput] at h
 | int x => exact one rfl h
 | float x => exact one rfl h
 | null => exact one rfl h
 | ref x => exact one rfl h
 | retAddr x => exact one rfl h
theorem fInj : ∀ i, i < nF → ∀ j, j < nF → fNm i = fNm j → i = j := by decide +kernel
theorem fPrs : ∀ i, i < nF → parseFieldDescriptor (fDs i) = some (fTy i) := by decide +kernel
theorem cDefs : ∀ i, i < nF → vget cDef i = some (defaultValue (fTy i)) := by decide +kernel
theorem cDefL : cDef.length = nF := by decide +kernel
theorem fDef : ∀ i, i < nF → ∀ a, defaultValue (fTy i) ≠ .ref a := by
 intro i _ a
 cases fTy i <;> simp [defaultValue]
theorem kPlain : ∀ k, k < 2 → plainName (kName k) = true := by
 intro k hk
 rcases k with _ | _ | k
 ·first | decide +kernel | (simp [kName, plainName, overriddenIn]; done)
 ·first | decide +kernel | (simp [kName, plainName, overriddenIn]; done)
 ·omega
theorem pKlt : ∀ m, m < pN → pK m < 2 := by decide +kernel
theorem pSig : ∀ m, m < pN → (parseMethodDescriptor (pDs m)).map (fun sg => sg.parameters.length) = some (pNA m) := by decide +kernel
theorem pOwn : ∀ k, k < 2 → kName k ≠ "java/lang/invoke/MethodHandle" ∧ kName k ≠ "java/lang/invoke/VarHandle" := by decide +kernel
theorem mAlt : ∀ m ∈ mA, m < pN := by decide +kernel
theorem mVlt : ∀ m ∈ mV, m ∈ mA ∧ pK m = 1 := by decide +kernel
theorem mPlt : ∀ m ∈ mP, m ∈ mA ∧ pK m = 1 := by decide +kernel
theorem mSlt : ∀ m ∈ mS, m ∈ mA := by decide +kernel
theorem mIlt : ∀ m ∈ mI, m ∈ mA ∧ pK m = 1 ∧ pNm m = "<init>" ∧ pRet m = none := by decide +kernel
theorem kOne : kName 1 = cName := rfl
def pX (m pc : Nat) : Bool := match pCode m pc with | some t => qchk m pc t.1 t.2 | none => true
set_option maxRecDepth 100000 in
set_option maxHeartbeats 4000000 in
theorem pC0_0 : ∀ q, q < 128 → pX 0 (0 + q) = true := by decide +kernel
set_option maxRecDepth 100000 in
set_option maxHeartbeats 4000000 in
theorem pC0_128 : ∀ q, q < 128 → pX 0 (128 + q) = true := by decide +kernel
set_option maxRecDepth 100000 in
set_option maxHeartbeats 4000000 in
theorem pC0_256 : ∀ q, q < 13 → pX 0 (256 + q) = true := by decide +kernel
theorem pCm0 (pc : Nat) (h : pc < pTop 0) : pX 0 pc = true := by
 replace h : pc < 269 := h
 by_cases h0 : pc < 128
 ·have q := pC0_0 (pc - 0) (by omega)
  rwa [show 0 + (pc - 0) = pc from by omega] at q
 by_cases h128 : pc < 256
 ·have q := pC0_128 (pc - 128) (by omega)
  rwa [show 128 + (pc - 128) = pc from by omega] at q
 have q := pC0_256 (pc - 256) (by omega)
 rwa [show 256 + (pc - 256) = pc from by omega] at q
set_option maxRecDepth 100000 in
set_option maxHeartbeats 4000000 in
theorem pC1_0 : ∀ q, q < 14 → pX 1 (0 + q) = true := by decide +kernel
theorem pCm1 (pc : Nat) (h : pc < pTop 1) : pX 1 pc = true := by
 replace h : pc < 14 := h
 have q := pC1_0 (pc - 0) (by omega)
 rwa [show 0 + (pc - 0) = pc from by omega] at q
set_option maxRecDepth 100000 in
set_option maxHeartbeats 4000000 in
theorem pC2_0 : ∀ q, q < 128 → pX 2 (0 + q) = true := by decide +kernel
set_option maxRecDepth 100000 in
set_option maxHeartbeats 4000000 in
theorem pC2_128 : ∀ q, q < 27 → pX 2 (128 + q) = true := by decide +kernel
theorem pCm2 (pc : Nat) (h : pc < pTop 2) : pX 2 pc = true := by
 replace h : pc < 155 := h
 by_cases h0 : pc < 128
 ·have q := pC2_0 (pc - 0) (by omega)
  rwa [show 0 + (pc - 0) = pc from by omega] at q
 have q := pC2_128 (pc - 128) (by omega)
 rwa [show 128 + (pc - 128) = pc from by omega] at q
set_option maxRecDepth 100000 in
set_option maxHeartbeats 4000000 in
theorem pC3_0 : ∀ q, q < 42 → pX 3 (0 + q) = true := by decide +kernel
theorem pCm3 (pc : Nat) (h : pc < pTop 3) : pX 3 pc = true := by
 replace h : pc < 42 := h
 have q := pC3_0 (pc - 0) (by omega)
 rwa [show 0 + (pc - 0) = pc from by omega] at q
set_option maxRecDepth 100000 in
set_option maxHeartbeats 4000000 in
theorem pC4_0 : ∀ q, q < 10 → pX 4 (0 + q) = true := by decide +kernel
theorem pCm4 (pc : Nat) (h : pc < pTop 4) : pX 4 pc = true := by
 replace h : pc < 10 := h
 have q := pC4_0 (pc - 0) (by omega)
 rwa [show 0 + (pc - 0) = pc from by omega] at q
set_option maxRecDepth 100000 in
set_option maxHeartbeats 4000000 in
theorem pC5_0 : ∀ q, q < 55 → pX 5 (0 + q) = true := by decide +kernel
theorem pCm5 (pc : Nat) (h : pc < pTop 5) : pX 5 pc = true := by
 replace h : pc < 55 := h
 have q := pC5_0 (pc - 0) (by omega)
 rwa [show 0 + (pc - 0) = pc from by omega] at q
set_option maxRecDepth 100000 in
set_option maxHeartbeats 4000000 in
theorem pC6_0 : ∀ q, q < 15 → pX 6 (0 + q) = true := by decide +kernel
theorem pCm6 (pc : Nat) (h : pc < pTop 6) : pX 6 pc = true := by
 replace h : pc < 15 := h
 have q := pC6_0 (pc - 0) (by omega)
 rwa [show 0 + (pc - 0) = pc from by omega] at q
set_option maxRecDepth 100000 in
set_option maxHeartbeats 4000000 in
theorem pC7_0 : ∀ q, q < 58 → pX 7 (0 + q) = true := by decide +kernel
theorem pCm7 (pc : Nat) (h : pc < pTop 7) : pX 7 pc = true := by
 replace h : pc < 58 := h
 have q := pC7_0 (pc - 0) (by omega)
 rwa [show 0 + (pc - 0) = pc from by omega] at q
set_option maxRecDepth 100000 in
set_option maxHeartbeats 4000000 in
theorem pC8_0 : ∀ q, q < 58 → pX 8 (0 + q) = true := by decide +kernel
theorem pCm8 (pc : Nat) (h : pc < pTop 8) : pX 8 pc = true := by
 replace h : pc < 58 := h
 have q := pC8_0 (pc - 0) (by omega)
 rwa [show 0 + (pc - 0) = pc from by omega] at q
set_option maxRecDepth 100000 in
set_option maxHeartbeats 4000000 in
theorem pC9_0 : ∀ q, q < 15 → pX 9 (0 + q) = true := by decide +kernel
theorem pCm9 (pc : Nat) (h : pc < pTop 9) : pX 9 pc = true := by
 replace h : pc < 15 := h
 have q := pC9_0 (pc - 0) (by omega)
 rwa [show 0 + (pc - 0) = pc from by omega] at q
set_option maxRecDepth 100000 in
set_option maxHeartbeats 4000000 in
theorem pC10_0 : ∀ q, q < 15 → pX 10 (0 + q) = true := by decide +kernel
theorem pCm10 (pc : Nat) (h : pc < pTop 10) : pX 10 pc = true := by
 replace h : pc < 15 := h
 have q := pC10_0 (pc - 0) (by omega)
 rwa [show 0 + (pc - 0) = pc from by omega] at q
set_option maxRecDepth 100000 in
set_option maxHeartbeats 4000000 in
theorem pC11_0 : ∀ q, q < 84 → pX 11 (0 + q) = true := by decide +kernel
theorem pCm11 (pc : Nat) (h : pc < pTop 11) : pX 11 pc = true := by
 replace h : pc < 84 := h
 have q := pC11_0 (pc - 0) (by omega)
 rwa [show 0 + (pc - 0) = pc from by omega] at q
set_option maxRecDepth 100000 in
set_option maxHeartbeats 4000000 in
theorem pC12_0 : ∀ q, q < 128 → pX 12 (0 + q) = true := by decide +kernel
set_option maxRecDepth 100000 in
set_option maxHeartbeats 4000000 in
theorem pC12_128 : ∀ q, q < 103 → pX 12 (128 + q) = true := by decide +kernel
theorem pCm12 (pc : Nat) (h : pc < pTop 12) : pX 12 pc = true := by
 replace h : pc < 231 := h
 by_cases h0 : pc < 128
 ·have q := pC12_0 (pc - 0) (by omega)
  rwa [show 0 + (pc - 0) = pc from by omega] at q
 have q := pC12_128 (pc - 128) (by omega)
 rwa [show 128 + (pc - 128) = pc from by omega] at q
set_option maxRecDepth 100000 in
set_option maxHeartbeats 4000000 in
theorem pC13_0 : ∀ q, q < 5 → pX 13 (0 + q) = true := by decide +kernel
theorem pCm13 (pc : Nat) (h : pc < pTop 13) : pX 13 pc = true := by
 replace h : pc < 5 := h
 have q := pC13_0 (pc - 0) (by omega)
 rwa [show 0 + (pc - 0) = pc from by omega] at q
set_option maxRecDepth 100000 in
set_option maxHeartbeats 4000000 in
theorem pC14_0 : ∀ q, q < 5 → pX 14 (0 + q) = true := by decide +kernel
theorem pCm14 (pc : Nat) (h : pc < pTop 14) : pX 14 pc = true := by
 replace h : pc < 5 := h
 have q := pC14_0 (pc - 0) (by omega)
 rwa [show 0 + (pc - 0) = pc from by omega] at q
set_option maxRecDepth 100000 in
set_option maxHeartbeats 4000000 in
theorem pC15_0 : ∀ q, q < 17 → pX 15 (0 + q) = true := by decide +kernel
theorem pCm15 (pc : Nat) (h : pc < pTop 15) : pX 15 pc = true := by
 replace h : pc < 17 := h
 have q := pC15_0 (pc - 0) (by omega)
 rwa [show 0 + (pc - 0) = pc from by omega] at q
set_option maxRecDepth 100000 in
set_option maxHeartbeats 4000000 in
theorem pC16_0 : ∀ q, q < 23 → pX 16 (0 + q) = true := by decide +kernel
theorem pCm16 (pc : Nat) (h : pc < pTop 16) : pX 16 pc = true := by
 replace h : pc < 23 := h
 have q := pC16_0 (pc - 0) (by omega)
 rwa [show 0 + (pc - 0) = pc from by omega] at q
set_option maxRecDepth 100000 in
set_option maxHeartbeats 4000000 in
theorem pC17_0 : ∀ q, q < 17 → pX 17 (0 + q) = true := by decide +kernel
theorem pCm17 (pc : Nat) (h : pc < pTop 17) : pX 17 pc = true := by
 replace h : pc < 17 := h
 have q := pC17_0 (pc - 0) (by omega)
 rwa [show 0 + (pc - 0) = pc from by omega] at q
set_option maxRecDepth 100000 in
set_option maxHeartbeats 4000000 in
theorem pC18_0 : ∀ q, q < 31 → pX 18 (0 + q) = true := by decide +kernel
theorem pCm18 (pc : Nat) (h : pc < pTop 18) : pX 18 pc = true := by
 replace h : pc < 31 := h
 have q := pC18_0 (pc - 0) (by omega)
 rwa [show 0 + (pc - 0) = pc from by omega] at q
set_option maxRecDepth 100000 in
set_option maxHeartbeats 4000000 in
theorem pC19_0 : ∀ q, q < 23 → pX 19 (0 + q) = true := by decide +kernel
theorem pCm19 (pc : Nat) (h : pc < pTop 19) : pX 19 pc = true := by
 replace h : pc < 23 := h
 have q := pC19_0 (pc - 0) (by omega)
 rwa [show 0 + (pc - 0) = pc from by omega] at q
set_option maxRecDepth 100000 in
set_option maxHeartbeats 4000000 in
theorem pC20_0 : ∀ q, q < 16 → pX 20 (0 + q) = true := by decide +kernel
theorem pCm20 (pc : Nat) (h : pc < pTop 20) : pX 20 pc = true := by
 replace h : pc < 16 := h
 have q := pC20_0 (pc - 0) (by omega)
 rwa [show 0 + (pc - 0) = pc from by omega] at q
set_option maxRecDepth 100000 in
set_option maxHeartbeats 4000000 in
theorem pC21_0 : ∀ q, q < 31 → pX 21 (0 + q) = true := by decide +kernel
theorem pCm21 (pc : Nat) (h : pc < pTop 21) : pX 21 pc = true := by
 replace h : pc < 31 := h
 have q := pC21_0 (pc - 0) (by omega)
 rwa [show 0 + (pc - 0) = pc from by omega] at q
set_option maxRecDepth 100000 in
set_option maxHeartbeats 4000000 in
theorem pC22_0 : ∀ q, q < 31 → pX 22 (0 + q) = true := by decide +kernel
theorem pCm22 (pc : Nat) (h : pc < pTop 22) : pX 22 pc = true := by
 replace h : pc < 31 := h
 have q := pC22_0 (pc - 0) (by omega)
 rwa [show 0 + (pc - 0) = pc from by omega] at q
set_option maxRecDepth 100000 in
set_option maxHeartbeats 4000000 in
theorem pC23_0 : ∀ q, q < 15 → pX 23 (0 + q) = true := by decide +kernel
theorem pCm23 (pc : Nat) (h : pc < pTop 23) : pX 23 pc = true := by
 replace h : pc < 15 := h
 have q := pC23_0 (pc - 0) (by omega)
 rwa [show 0 + (pc - 0) = pc from by omega] at q
set_option maxRecDepth 100000 in
set_option maxHeartbeats 4000000 in
theorem pC24_0 : ∀ q, q < 128 → pX 24 (0 + q) = true := by decide +kernel
set_option maxRecDepth 100000 in
set_option maxHeartbeats 4000000 in
theorem pC24_128 : ∀ q, q < 94 → pX 24 (128 + q) = true := by decide +kernel
theorem pCm24 (pc : Nat) (h : pc < pTop 24) : pX 24 pc = true := by
 replace h : pc < 222 := h
 by_cases h0 : pc < 128
 ·have q := pC24_0 (pc - 0) (by omega)
  rwa [show 0 + (pc - 0) = pc from by omega] at q
 have q := pC24_128 (pc - 128) (by omega)
 rwa [show 128 + (pc - 128) = pc from by omega] at q
set_option maxRecDepth 100000 in
set_option maxHeartbeats 4000000 in
theorem pC25_0 : ∀ q, q < 33 → pX 25 (0 + q) = true := by decide +kernel
theorem pCm25 (pc : Nat) (h : pc < pTop 25) : pX 25 pc = true := by
 replace h : pc < 33 := h
 have q := pC25_0 (pc - 0) (by omega)
 rwa [show 0 + (pc - 0) = pc from by omega] at q
set_option maxRecDepth 100000 in
set_option maxHeartbeats 4000000 in
theorem pC26_0 : ∀ q, q < 42 → pX 26 (0 + q) = true := by decide +kernel
theorem pCm26 (pc : Nat) (h : pc < pTop 26) : pX 26 pc = true := by
 replace h : pc < 42 := h
 have q := pC26_0 (pc - 0) (by omega)
 rwa [show 0 + (pc - 0) = pc from by omega] at q
set_option maxRecDepth 100000 in
set_option maxHeartbeats 4000000 in
theorem pC27_0 : ∀ q, q < 58 → pX 27 (0 + q) = true := by decide +kernel
theorem pCm27 (pc : Nat) (h : pc < pTop 27) : pX 27 pc = true := by
 replace h : pc < 58 := h
 have q := pC27_0 (pc - 0) (by omega)
 rwa [show 0 + (pc - 0) = pc from by omega] at q
set_option maxRecDepth 100000 in
set_option maxHeartbeats 4000000 in
theorem pC28_0 : ∀ q, q < 128 → pX 28 (0 + q) = true := by decide +kernel
set_option maxRecDepth 100000 in
set_option maxHeartbeats 4000000 in
theorem pC28_128 : ∀ q, q < 75 → pX 28 (128 + q) = true := by decide +kernel
theorem pCm28 (pc : Nat) (h : pc < pTop 28) : pX 28 pc = true := by
 replace h : pc < 203 := h
 by_cases h0 : pc < 128
 ·have q := pC28_0 (pc - 0) (by omega)
  rwa [show 0 + (pc - 0) = pc from by omega] at q
 have q := pC28_128 (pc - 128) (by omega)
 rwa [show 128 + (pc - 128) = pc from by omega] at q
set_option maxRecDepth 100000 in
set_option maxHeartbeats 4000000 in
theorem pC29_0 : ∀ q, q < 29 → pX 29 (0 + q) = true := by decide +kernel
theorem pCm29 (pc : Nat) (h : pc < pTop 29) : pX 29 pc = true := by
 replace h : pc < 29 := h
 have q := pC29_0 (pc - 0) (by omega)
 rwa [show 0 + (pc - 0) = pc from by omega] at q
set_option maxRecDepth 100000 in
set_option maxHeartbeats 4000000 in
theorem pC30_0 : ∀ q, q < 24 → pX 30 (0 + q) = true := by decide +kernel
theorem pCm30 (pc : Nat) (h : pc < pTop 30) : pX 30 pc = true := by
 replace h : pc < 24 := h
 have q := pC30_0 (pc - 0) (by omega)
 rwa [show 0 + (pc - 0) = pc from by omega] at q
set_option maxRecDepth 100000 in
set_option maxHeartbeats 4000000 in
theorem pC31_0 : ∀ q, q < 21 → pX 31 (0 + q) = true := by decide +kernel
theorem pCm31 (pc : Nat) (h : pc < pTop 31) : pX 31 pc = true := by
 replace h : pc < 21 := h
 have q := pC31_0 (pc - 0) (by omega)
 rwa [show 0 + (pc - 0) = pc from by omega] at q
set_option maxRecDepth 100000 in
set_option maxHeartbeats 4000000 in
theorem pC32_0 : ∀ q, q < 84 → pX 32 (0 + q) = true := by decide +kernel
theorem pCm32 (pc : Nat) (h : pc < pTop 32) : pX 32 pc = true := by
 replace h : pc < 84 := h
 have q := pC32_0 (pc - 0) (by omega)
 rwa [show 0 + (pc - 0) = pc from by omega] at q
set_option maxRecDepth 100000 in
set_option maxHeartbeats 4000000 in
theorem pC33_0 : ∀ q, q < 92 → pX 33 (0 + q) = true := by decide +kernel
theorem pCm33 (pc : Nat) (h : pc < pTop 33) : pX 33 pc = true := by
 replace h : pc < 92 := h
 have q := pC33_0 (pc - 0) (by omega)
 rwa [show 0 + (pc - 0) = pc from by omega] at q
set_option maxRecDepth 100000 in
set_option maxHeartbeats 4000000 in
theorem pC34_0 : ∀ q, q < 25 → pX 34 (0 + q) = true := by decide +kernel
theorem pCm34 (pc : Nat) (h : pc < pTop 34) : pX 34 pc = true := by
 replace h : pc < 25 := h
 have q := pC34_0 (pc - 0) (by omega)
 rwa [show 0 + (pc - 0) = pc from by omega] at q
set_option maxRecDepth 100000 in
set_option maxHeartbeats 4000000 in
theorem pC35_0 : ∀ q, q < 67 → pX 35 (0 + q) = true := by decide +kernel
theorem pCm35 (pc : Nat) (h : pc < pTop 35) : pX 35 pc = true := by
 replace h : pc < 67 := h
 have q := pC35_0 (pc - 0) (by omega)
 rwa [show 0 + (pc - 0) = pc from by omega] at q
set_option maxRecDepth 100000 in
set_option maxHeartbeats 4000000 in
theorem pC36_0 : ∀ q, q < 9 → pX 36 (0 + q) = true := by decide +kernel
theorem pCm36 (pc : Nat) (h : pc < pTop 36) : pX 36 pc = true := by
 replace h : pc < 9 := h
 have q := pC36_0 (pc - 0) (by omega)
 rwa [show 0 + (pc - 0) = pc from by omega] at q
set_option maxRecDepth 100000 in
set_option maxHeartbeats 4000000 in
theorem pC37_0 : ∀ q, q < 13 → pX 37 (0 + q) = true := by decide +kernel
theorem pCm37 (pc : Nat) (h : pc < pTop 37) : pX 37 pc = true := by
 replace h : pc < 13 := h
 have q := pC37_0 (pc - 0) (by omega)
 rwa [show 0 + (pc - 0) = pc from by omega] at q
set_option maxRecDepth 100000 in
set_option maxHeartbeats 4000000 in
theorem pC38_0 : ∀ q, q < 38 → pX 38 (0 + q) = true := by decide +kernel
theorem pCm38 (pc : Nat) (h : pc < pTop 38) : pX 38 pc = true := by
 replace h : pc < 38 := h
 have q := pC38_0 (pc - 0) (by omega)
 rwa [show 0 + (pc - 0) = pc from by omega] at q
set_option maxRecDepth 100000 in
set_option maxHeartbeats 4000000 in
theorem pC39_0 : ∀ q, q < 85 → pX 39 (0 + q) = true := by decide +kernel
theorem pCm39 (pc : Nat) (h : pc < pTop 39) : pX 39 pc = true := by
 replace h : pc < 85 := h
 have q := pC39_0 (pc - 0) (by omega)
 rwa [show 0 + (pc - 0) = pc from by omega] at q
set_option maxRecDepth 100000 in
set_option maxHeartbeats 4000000 in
theorem pC40_0 : ∀ q, q < 67 → pX 40 (0 + q) = true := by decide +kernel
theorem pCm40 (pc : Nat) (h : pc < pTop 40) : pX 40 pc = true := by
 replace h : pc < 67 := h
 have q := pC40_0 (pc - 0) (by omega)
 rwa [show 0 + (pc - 0) = pc from by omega] at q
set_option maxRecDepth 100000 in
set_option maxHeartbeats 4000000 in
theorem pC41_0 : ∀ q, q < 67 → pX 41 (0 + q) = true := by decide +kernel
theorem pCm41 (pc : Nat) (h : pc < pTop 41) : pX 41 pc = true := by
 replace h : pc < 67 := h
 have q := pC41_0 (pc - 0) (by omega)
 rwa [show 0 + (pc - 0) = pc from by omega] at q
set_option maxRecDepth 100000 in
set_option maxHeartbeats 4000000 in
theorem pC42_0 : ∀ q, q < 67 → pX 42 (0 + q) = true := by decide +kernel
theorem pCm42 (pc : Nat) (h : pc < pTop 42) : pX 42 pc = true := by
 replace h : pc < 67 := h
 have q := pC42_0 (pc - 0) (by omega)
 rwa [show 0 + (pc - 0) = pc from by omega] at q
set_option maxRecDepth 100000 in
set_option maxHeartbeats 4000000 in
theorem pC43_0 : ∀ q, q < 24 → pX 43 (0 + q) = true := by decide +kernel
theorem pCm43 (pc : Nat) (h : pc < pTop 43) : pX 43 pc = true := by
 replace h : pc < 24 := h
 have q := pC43_0 (pc - 0) (by omega)
 rwa [show 0 + (pc - 0) = pc from by omega] at q
theorem pChk0 : ∀ m, m < pN → ∀ pc, pc < pTop m → (match pCode m pc with | some t => qchk m pc t.1 t.2 | none => true) = true := by
 intro m hm pc hp
 change pX m pc = true
 match m, hm, hp with
 | 0, _, hp => exact pCm0 pc hp
 | 1, _, hp => exact pCm1 pc hp
 | 2, _, hp => exact pCm2 pc hp
 | 3, _, hp => exact pCm3 pc hp
 | 4, _, hp => exact pCm4 pc hp
 | 5, _, hp => exact pCm5 pc hp
 | 6, _, hp => exact pCm6 pc hp
 | 7, _, hp => exact pCm7 pc hp
 | 8, _, hp => exact pCm8 pc hp
 | 9, _, hp => exact pCm9 pc hp
 | 10, _, hp => exact pCm10 pc hp
 | 11, _, hp => exact pCm11 pc hp
 | 12, _, hp => exact pCm12 pc hp
 | 13, _, hp => exact pCm13 pc hp
 | 14, _, hp => exact pCm14 pc hp
 | 15, _, hp => exact pCm15 pc hp
 | 16, _, hp => exact pCm16 pc hp
 | 17, _, hp => exact pCm17 pc hp
 | 18, _, hp => exact pCm18 pc hp
 | 19, _, hp => exact pCm19 pc hp
 | 20, _, hp => exact pCm20 pc hp
 | 21, _, hp => exact pCm21 pc hp
 | 22, _, hp => exact pCm22 pc hp
 | 23, _, hp => exact pCm23 pc hp
 | 24, _, hp => exact pCm24 pc hp
 | 25, _, hp => exact pCm25 pc hp
 | 26, _, hp => exact pCm26 pc hp
 | 27, _, hp => exact pCm27 pc hp
 | 28, _, hp => exact pCm28 pc hp
 | 29, _, hp => exact pCm29 pc hp
 | 30, _, hp => exact pCm30 pc hp
 | 31, _, hp => exact pCm31 pc hp
 | 32, _, hp => exact pCm32 pc hp
 | 33, _, hp => exact pCm33 pc hp
 | 34, _, hp => exact pCm34 pc hp
 | 35, _, hp => exact pCm35 pc hp
 | 36, _, hp => exact pCm36 pc hp
 | 37, _, hp => exact pCm37 pc hp
 | 38, _, hp => exact pCm38 pc hp
 | 39, _, hp => exact pCm39 pc hp
 | 40, _, hp => exact pCm40 pc hp
 | 41, _, hp => exact pCm41 pc hp
 | 42, _, hp => exact pCm42 pc hp
 | 43, _, hp => exact pCm43 pc hp
 | m + 44, hm, _ => exact absurd hm (by unfold pN; omega)
theorem pIn {m pc : Nat} {t : Instr × Nat} (h : pCode m pc = some t) : m < pN ∧ pc < pTop m := by
 unfold pCode at h
 cases h1 : Nat.ble pN m with
 | true => rw [h1] at h; cases h
 | false =>
  cases h2 : Nat.ble (pTop m) pc with
  | true => rw [h1, h2] at h; cases h
  | false => exact ⟨Nat.lt_of_not_le (fun q => by rw [Nat.ble_eq_true_of_le q] at h1; cases h1), Nat.lt_of_not_le (fun q => by rw [Nat.ble_eq_true_of_le q] at h2; cases h2)⟩
theorem pChk {m pc : Nat} {i : Instr} {aux : Nat} (h : pCode m pc = some (i, aux)) : qchk m pc i aux = true := by
 have q := pChk0 m (pIn h).1 pc (pIn h).2
 rw [h] at q
 exact q
theorem pDec {m pc : Nat} {i : Instr} {aux : Nat} (h : pCode m pc = some (i, aux)) : decode (pBytes m) pc = .ok (i, ilen i) := by
 have q := pChk h
 unfold qchk at q
 exact of_decide_eq_true (Bool.and_eq_true_iff.mp q).1
theorem pDecN {m pc n : Nat} {i : Instr} {aux : Nat} (h : pCode m pc = some (i, aux)) (hn : ilen i = n) : decode (pBytes m) pc = .ok (i, n) := by
 rw [← hn]; exact pDec h
theorem pRest {m pc : Nat} {i : Instr} {aux : Nat} (h : pCode m pc = some (i, aux)) : qlk m pc i aux = true := by
 have q := pChk h
 unfold qchk at q
 exact (Bool.and_eq_true_iff.mp q).2
theorem qtgt_spec {pc : Nat} {o : Int} {aux : Nat} (h : qtgt pc o aux = true) : 0 ≤ (pc : Int) + o ∧ ((pc : Int) + o).toNat = aux := by
 unfold qtgt at h
 have h2 := Bool.and_eq_true_iff.mp h
 exact ⟨of_decide_eq_true h2.1, of_decide_eq_true h2.2⟩
def QCx (Z : State) (p : Program) (R : Room) (s : State) (mid : MethodId) (meth : Method) (c : Code) (m : Nat) : Prop :=
 p.tables.exec = Jvm.exec ∧ Z.Warmed39 s.vm ∧ c.code = pBytes m ∧ c.maxLocals = pMaxL m ∧ meth.sig.returnType = pRet m ∧ s.vm.findClass (kName (pK m)) = some mid.cls ∧ meth.name = pNm m ∧ pFr m ≤ R.frames ∧ pLo m ≤ R.locals
def QTri (l : Launch) (Z : State) (n0 : Nat) (ad : Nat → Addr) (m : Nat) (st : QSt) (v : Option Value) (σ' : QHeap) : Prop :=
 st.2.2.2.length ≤ σ'.length ∧ qhs st.2.2.2 ≤ qhs σ' ∧
 ∀ (p : Program) (e : Env) (R : Room) (s : State) (mid : MethodId) (args : Array Value) (below : List Frame) (meth : Method) (c : Code) (T : State) (locs : List Loc) (cells slots : Nat) (C : Array Slot),
  QCx Z p R s mid meth c m → Stand p l e R s mid args below meth c T locs cells slots → QRep Z n0 ad T.heap st.2.2.2 → Fr n0 locs → QLocOk ad st.2.1 C → C.size = c.maxLocals →
  n0 + (st.2.2.2.length - k0) = s.heap.size + cells → cells + (σ'.length - st.2.2.2.length) ≤ R.cells → slots + (qhs σ' - qhs st.2.2.2) ≤ R.slots →
  ∃ T' locs', Stand p l e R s mid args below meth c T' locs' (cells + (σ'.length - st.2.2.2.length)) (slots + (qhs σ' - qhs st.2.2.2)) ∧ QRep Z n0 ad T'.heap σ' ∧ Fr n0 locs' ∧
   ∀ fs, (∀ (f : JFrame) (acts : List Action), f.method = mid → f.locked = none → f.entered = [] → (doReturn e (T'.setTop f) acts (v.map (qv ad))).1 = T'.setFrames fs) →
    Steps p.tables e below (T.setTop (mkF mid st.1 C (st.2.2.1.map (qv ad)))) (T'.setFrames fs)
section Triples
variable {l : Launch} {Z : State} {n0 : Nat} {ad : Nat → Addr} {a0 : Array Value} {m : Nat} {v : Option Value} {σ' : QHeap}
theorem QTri.gen {st st' : QSt} (h : QTri l Z n0 ad m st' v σ') (g1 : st.2.2.2.length ≤ st'.2.2.2.length) (g2 : qhs st.2.2.2 ≤ qhs st'.2.2.2)
  (hs : ∀ (p : Program) (e : Env) (R : Room) (s : State) (mid : MethodId) (args : Array Value) (below : List Frame) (meth : Method) (c : Code) (T : State) (locs : List Loc) (cells slots : Nat) (C : Array Slot),
   QCx Z p R s mid meth c m → Stand p l e R s mid args below meth c T locs cells slots → QRep Z n0 ad T.heap st.2.2.2 → Fr n0 locs → QLocOk ad st.2.1 C → C.size = c.maxLocals →
   n0 + (st.2.2.2.length - k0) = s.heap.size + cells → cells + (st'.2.2.2.length - st.2.2.2.length) ≤ R.cells → slots + (qhs st'.2.2.2 - qhs st.2.2.2) ≤ R.slots →
   ∃ T₁ locs₁ C₁, Stand p l e R s mid args below meth c T₁ locs₁ (cells + (st'.2.2.2.length - st.2.2.2.length)) (slots + (qhs st'.2.2.2 - qhs st.2.2.2)) ∧ QRep Z n0 ad T₁.heap st'.2.2.2 ∧ Fr n0 locs₁ ∧ QLocOk ad st'.2.1 C₁ ∧ C₁.size = c.maxLocals ∧
    ∀ target, Steps p.tables e below (T₁.setTop (mkF mid st'.1 C₁ (st'.2.2.1.map (qv ad)))) target → Steps p.tables e below (T.setTop (mkF mid st.1 C (st.2.2.1.map (qv ad)))) target) :
  QTri l Z n0 ad m st v σ' := by
 obtain ⟨h1, h2, h3⟩ := h
 refine ⟨Nat.le_trans g1 h1, Nat.le_trans g2 h2, fun p e R s mid args below meth c T locs cells slots C hcx X hR hF hL hC hn hc hsl => ?_⟩
 obtain ⟨T₁, locs₁, C₁, X₁, R₁, F₁, L₁, C1, S₁⟩ := hs p e R s mid args below meth c T locs cells slots C hcx X hR hF hL hC hn (by omega) (by omega)
 have hk := hR.1
 obtain ⟨T', locs', X', R', F', S'⟩ := h3 p e R s mid args below meth c T₁ locs₁ _ _ C₁ hcx X₁ R₁ F₁ L₁ C1 (by omega) (by omega) (by omega)
 have e1 : cells + (st'.2.2.2.length - st.2.2.2.length) + (σ'.length - st'.2.2.2.length) = cells + (σ'.length - st.2.2.2.length) := by omega
 have e2 : slots + (qhs st'.2.2.2 - qhs st.2.2.2) + (qhs σ' - qhs st'.2.2.2) = slots + (qhs σ' - qhs st.2.2.2) := by omega
 rw [e1, e2] at X'
 exact ⟨T', locs', X', R', F', fun fs hf => S₁ _ (S' fs hf)⟩
theorem QTri.pure {st st' : QSt} (h : QTri l Z n0 ad m st' v σ') (hσ : st'.2.2.2 = st.2.2.2)
  (hs : ∀ (p : Program) (e : Env) (R : Room) (s : State) (mid : MethodId) (args : Array Value) (below : List Frame) (meth : Method) (c : Code) (T : State) (locs : List Loc) (cells slots : Nat) (C : Array Slot),
   QCx Z p R s mid meth c m → Stand p l e R s mid args below meth c T locs cells slots → QRep Z n0 ad T.heap st.2.2.2 → QLocOk ad st.2.1 C → C.size = c.maxLocals →
   ∃ T₁ C₁, Stand p l e R s mid args below meth c T₁ locs cells slots ∧ T₁.heap = T.heap ∧ QLocOk ad st'.2.1 C₁ ∧ C₁.size = c.maxLocals ∧
    ∀ target, Steps p.tables e below (T₁.setTop (mkF mid st'.1 C₁ (st'.2.2.1.map (qv ad)))) target → Steps p.tables e below (T.setTop (mkF mid st.1 C (st.2.2.1.map (qv ad)))) target) :
  QTri l Z n0 ad m st v σ' := by
 refine QTri.gen h (by rw [hσ]; exact Nat.le_refl _) (by rw [hσ]; exact Nat.le_refl _) fun p e R s mid args below meth c T locs cells slots C hcx X hR hF hL hC hn hc hsl => ?_
 obtain ⟨T₁, C₁, X₁, hh, L₁, C1, S₁⟩ := hs p e R s mid args below meth c T locs cells slots C hcx X hR hL hC
 refine ⟨T₁, locs, C₁, ?_, by rw [hσ, hh]; exact hR, hF, L₁, C1, S₁⟩
 rw [hσ, Nat.sub_self, Nat.sub_self]
 exact X₁
theorem QTri.frame {pc pc' : Nat} {L L' : QLoc} {S S' : List Value} {σ : QHeap} (h : QTri l Z n0 ad m (pc', L', S', σ) v σ')
  (hs : ∀ (p : Program) (e : Env) (R : Room) (s : State) (mid : MethodId) (args : Array Value) (below : List Frame) (meth : Method) (c : Code) (T : State) (locs : List Loc) (cells slots : Nat) (C : Array Slot),
   QCx Z p R s mid meth c m → Stand p l e R s mid args below meth c T locs cells slots → QRep Z n0 ad T.heap σ → QLocOk ad L C → C.size = c.maxLocals →
   ∃ C₁, QLocOk ad L' C₁ ∧ C₁.size = c.maxLocals ∧ ∀ target, Steps p.tables e below (T.setTop (mkF mid pc' C₁ (S'.map (qv ad)))) target → Steps p.tables e below (T.setTop (mkF mid pc C (S.map (qv ad)))) target) :
  QTri l Z n0 ad m (pc, L, S, σ) v σ' :=
 QTri.pure h rfl fun p e R s mid args below meth c T locs cells slots C hcx X hR hL hC => by
  obtain ⟨C₁, h1, h2, h3⟩ := hs p e R s mid args below meth c T locs cells slots C hcx X hR hL hC
  exact ⟨T, C₁, X, rfl, h1, h2, h3⟩
theorem QTri.stack {pc pc' : Nat} {L : QLoc} {S S' : List Value} {σ : QHeap} (h : QTri l Z n0 ad m (pc', L, S', σ) v σ')
  (hs : ∀ (p : Program) (e : Env) (R : Room) (s : State) (mid : MethodId) (args : Array Value) (below : List Frame) (meth : Method) (c : Code) (T : State) (locs : List Loc) (cells slots : Nat) (C : Array Slot) (target : State),
   p.tables.exec = Jvm.exec → Z.Warmed39 s.vm → c.code = pBytes m → s.vm.findClass (kName (pK m)) = some mid.cls → Stand p l e R s mid args below meth c T locs cells slots → QRep Z n0 ad T.heap σ → QLocOk ad L C →
   Steps p.tables e below (T.setTop (mkF mid pc' C (S'.map (qv ad)))) target → Steps p.tables e below (T.setTop (mkF mid pc C (S.map (qv ad)))) target) :
  QTri l Z n0 ad m (pc, L, S, σ) v σ' :=
 QTri.frame h fun p e R s mid args below meth c T locs cells slots C hcx X hR hL hC => ⟨C, hL, hC, fun target k => hs p e R s mid args below meth c T locs cells slots C target hcx.1 hcx.2.1 hcx.2.2.1 hcx.2.2.2.2.2.1 X hR hL k⟩
theorem qload_inv {pc : Nat} {L : QLoc} {S : List Value} {σ : QHeap} {k : Nat} {ok : Value → Bool} {st' : QSt} (h : qload pc L S σ k ok = some st') : ∃ v, lget L k = some v ∧ ok v = true ∧ st' = (pc, L, v :: S, σ) := by
 unfold qload at h
 split at h
 ·rename_i v hv
  cases ho : ok v with
  | true => rw [ho] at h; cases h; exact ⟨v, hv, ho, rfl⟩
  | false => rw [ho] at h; cases h
 ·cases h
theorem qstore_inv {pc : Nat} {L : QLoc} {S : List Value} {σ : QHeap} {k : Nat} {ok : Value → Bool} {st' : QSt} (h : qstore pc L S σ k ok = some st') : ∃ v S' L', S = v :: S' ∧ ok v = true ∧ lput L k v = some L' ∧ st' = (pc, L', S', σ) := by
 unfold qstore at h
 split at h
 ·rename_i v S'
  cases ho : ok v with
  | true =>
   rw [ho] at h
   simp only [cond_true] at h
   split at h
   ·rename_i L' hL'
    cases h; exact ⟨v, S', L', rfl, ho, hL', rfl⟩
   ·cases h
  | false => rw [ho] at h; cases h
 ·cases h
theorem qbin_inv {pc : Nat} {L : QLoc} {S : List Value} {σ : QHeap} {f : Int32 → Int32 → Int32} {st' : QSt} (h : qbin pc L S σ f = some st') : ∃ x y S', S = .int y :: .int x :: S' ∧ st' = (pc, L, .int (f x y) :: S', σ) := by
 unfold qbin at h
 split at h
 ·cases h; exact ⟨_, _, _, rfl, rfl⟩
 ·cases h
theorem qbino_inv {pc : Nat} {L : QLoc} {S : List Value} {σ : QHeap} {f : Int32 → Int32 → Option Int32} {st' : QSt} (h : qbino pc L S σ f = some st') : ∃ x y z S', S = .int y :: .int x :: S' ∧ f x y = some z ∧ st' = (pc, L, .int z :: S', σ) := by
 unfold qbino at h
 split at h
 ·obtain ⟨z, hz, h⟩ := Option.bind_eq_some_iff.mp h
  cases h; exact ⟨_, _, _, _, rfl, hz, rfl⟩
 ·cases h
theorem qbinJ_inv {pc : Nat} {L : QLoc} {S : List Value} {σ : QHeap} {f : Int64 → Int64 → Int64} {st' : QSt} (h : qbinJ pc L S σ f = some st') : ∃ x y S', S = .long y :: .long x :: S' ∧ st' = (pc, L, .long (f x y) :: S', σ) := by
 unfold qbinJ at h
 split at h
 ·cases h; exact ⟨_, _, _, rfl, rfl⟩
 ·cases h
theorem qshJ_inv {pc : Nat} {L : QLoc} {S : List Value} {σ : QHeap} {f : Int64 → Int32 → Int64} {st' : QSt} (h : qshJ pc L S σ f = some st') : ∃ x y S', S = .int y :: .long x :: S' ∧ st' = (pc, L, .long (f x y) :: S', σ) := by
 unfold qshJ at h
 split at h
 ·cases h; exact ⟨_, _, _, rfl, rfl⟩
 ·cases h
theorem quni_inv {pc : Nat} {L : QLoc} {S : List Value} {σ : QHeap} {f : Int32 → Value} {st' : QSt} (h : quni pc L S σ f = some st') : ∃ x S', S = .int x :: S' ∧ st' = (pc, L, f x :: S', σ) := by
 unfold quni at h
 split at h
 ·cases h; exact ⟨_, _, rfl, rfl⟩
 ·cases h
theorem quniJ_inv {pc : Nat} {L : QLoc} {S : List Value} {σ : QHeap} {f : Int64 → Value} {st' : QSt} (h : quniJ pc L S σ f = some st') : ∃ x S', S = .long x :: S' ∧ st' = (pc, L, f x :: S', σ) := by
 unfold quniJ at h
 split at h
 ·cases h; exact ⟨_, _, rfl, rfl⟩
 ·cases h
theorem qif_inv {pc : Nat} {L : QLoc} {S : List Value} {σ : QHeap} {cd : ClassFile.Cond} {t : Nat} {st' : QSt} (h : qif pc L S σ cd t = some st') : ∃ x S', S = .int x :: S' ∧ st' = (bif ifCond.holds cd x then t else pc, L, S', σ) := by
 unfold qif at h
 split at h
 ·cases h; exact ⟨_, _, rfl, rfl⟩
 ·cases h
theorem qicmp_inv {pc : Nat} {L : QLoc} {S : List Value} {σ : QHeap} {cd : ClassFile.Cond} {t : Nat} {st' : QSt} (h : qicmp pc L S σ cd t = some st') : ∃ x y S', S = .int y :: .int x :: S' ∧ st' = (bif if_icmp.holds cd x y then t else pc, L, S', σ) := by
 unfold qicmp at h
 split at h
 ·cases h; exact ⟨_, _, _, rfl, rfl⟩
 ·cases h
theorem qget_inv {pc : Nat} {L : QLoc} {S : List Value} {σ : QHeap} {k : Nat} {st' : QSt} (h : qget pc L S σ k = some st') : ∃ a S' vs v, S = .ref a :: S' ∧ hget σ a = some (.inl vs) ∧ vget vs k = some v ∧ st' = (pc, L, v :: S', σ) := by
 unfold qget at h
 split at h
 ·split at h
  ·split at h
   ·cases h; exact ⟨_, _, _, _, rfl, by assumption, by assumption, rfl⟩
   ·cases h
  ·cases h
 ·cases h
theorem qput_inv {pc : Nat} {L : QLoc} {S : List Value} {σ : QHeap} {k : Nat} {st' : QSt} (h : qput pc L S σ k = some st') : ∃ v a S' vs w, S = v :: .ref a :: S' ∧ hget σ a = some (.inl vs) ∧ k0 ≤ a ∧ k < vs.length ∧ qfit (fTy k) v = some w ∧ st' = (pc, L, S', σ.set a (.inl (vs.set k w))) := by
 unfold qput at h
 split at h
 ·rename_i v a S'
  split at h
  ·rename_i vs hvs
   cases hbb : (Nat.ble k0 a && Nat.ble (k + 1) vs.length) with
   | false => rw [hbb] at h; cases h
   | true =>
    rw [hbb] at h
    simp only [cond_true] at h
    obtain ⟨u, hu, h⟩ := Option.bind_eq_some_iff.mp h
    cases h
    obtain ⟨b1, b2⟩ := Bool.and_eq_true_iff.mp hbb
    exact ⟨v, a, S', vs, u, rfl, hvs, Nat.le_of_ble_eq_true b1, Nat.le_of_ble_eq_true b2, hu, rfl⟩
  ·cases h
 ·cases h
theorem qald_inv {pc : Nat} {L : QLoc} {S : List Value} {σ : QHeap} {ok : FieldType → Bool} {st' : QSt} (h : qald pc L S σ ok = some st') : ∃ j a S' ty xs v, S = .int j :: .ref a :: S' ∧ hget σ a = some (.inr (.inl (ty, xs))) ∧ ok ty = true ∧ aget xs j = some v ∧ st' = (pc, L, .int v :: S', σ) := by
 unfold qald at h
 split at h
 ·rename_i j a S'
  split at h
  ·rename_i x hx
   cases ht : ok x.1 with
   | false => rw [ht] at h; cases h
   | true =>
    rw [ht] at h
    simp only [cond_true] at h
    obtain ⟨u, hu, h⟩ := Option.bind_eq_some_iff.mp h
    cases h
    exact ⟨j, a, S', x.1, x.2, u, rfl, hx, ht, hu, rfl⟩
  ·cases h
 ·cases h
theorem qaldJ_inv {pc : Nat} {L : QLoc} {S : List Value} {σ : QHeap} {st' : QSt} (h : qaldJ pc L S σ = some st') : ∃ j a S' xs v, S = .int j :: .ref a :: S' ∧ hget σ a = some (.inr (.inr xs)) ∧ aget xs j = some v ∧ st' = (pc, L, .long v :: S', σ) := by
 unfold qaldJ at h
 split at h
 ·rename_i j a S'
  split at h
  ·rename_i x hx
   obtain ⟨u, hu, h⟩ := Option.bind_eq_some_iff.mp h
   cases h
   exact ⟨j, a, S', x, u, rfl, hx, hu, rfl⟩
  ·cases h
 ·cases h
theorem qast_inv {pc : Nat} {L : QLoc} {S : List Value} {σ : QHeap} {ok : FieldType → Bool} {st' : QSt} (h : qast pc L S σ ok = some st') : ∃ v j a S' ty xs ys, S = .int v :: .int j :: .ref a :: S' ∧ hget σ a = some (.inr (.inl (ty, xs))) ∧ ok ty = true ∧ k0 ≤ a ∧ aset xs j (qnar ty v) = some ys ∧ st' = (pc, L, S', σ.set a (.inr (.inl (ty, ys)))) := by
 unfold qast at h
 split at h
 ·rename_i v j a S'
  split at h
  ·rename_i x hx
   cases ht : (ok x.1 && Nat.ble k0 a) with
   | false => rw [ht] at h; cases h
   | true =>
    rw [ht] at h
    simp only [cond_true] at h
    obtain ⟨u, hu, h⟩ := Option.bind_eq_some_iff.mp h
    cases h
    obtain ⟨b1, b2⟩ := Bool.and_eq_true_iff.mp ht
    exact ⟨v, j, a, S', x.1, x.2, u, rfl, hx, b1, Nat.le_of_ble_eq_true b2, hu, rfl⟩
  ·cases h
 ·cases h
theorem qastJ_inv {pc : Nat} {L : QLoc} {S : List Value} {σ : QHeap} {st' : QSt} (h : qastJ pc L S σ = some st') : ∃ v j a S' xs ys, S = .long v :: .int j :: .ref a :: S' ∧ hget σ a = some (.inr (.inr xs)) ∧ k0 ≤ a ∧ aset xs j v = some ys ∧ st' = (pc, L, S', σ.set a (.inr (.inr ys))) := by
 unfold qastJ at h
 split at h
 ·rename_i v j a S'
  split at h
  ·rename_i x hx
   cases ht : (Nat.ble k0 a) with
   | false => rw [ht] at h; cases h
   | true =>
    rw [ht] at h
    simp only [cond_true] at h
    obtain ⟨u, hu, h⟩ := Option.bind_eq_some_iff.mp h
    cases h
    exact ⟨v, j, a, S', x, u, rfl, hx, Nat.le_of_ble_eq_true ht, hu, rfl⟩
  ·cases h
 ·cases h
theorem qlen_inv {pc : Nat} {L : QLoc} {S : List Value} {σ : QHeap} {st' : QSt} (h : qlen pc L S σ = some st') : ∃ a S' n, S = .ref a :: S' ∧ ((∃ ty xs, hget σ a = some (.inr (.inl (ty, xs))) ∧ n = xs.length) ∨ ∃ xs, hget σ a = some (.inr (.inr xs)) ∧ n = xs.length) ∧ st' = (pc, L, .int n.toInt32 :: S', σ) := by
 unfold qlen at h
 split at h
 ·rename_i a S'
  split at h
  ·rename_i x hx
   cases h; exact ⟨a, S', _, rfl, Or.inl ⟨x.1, x.2, hx, rfl⟩, rfl⟩
  ·rename_i x hx
   cases h; exact ⟨a, S', _, rfl, Or.inr ⟨x, hx, rfl⟩, rfl⟩
  ·cases h
 ·cases h
theorem isI_inv {v : Value} (h : isI v = true) : ∃ x, v = .int x := by cases v <;> simp [isI] at h; exact ⟨_, rfl⟩
theorem isJ_inv {v : Value} (h : isJ v = true) : ∃ x, v = .long x := by cases v <;> simp [isJ] at h; exact ⟨_, rfl⟩
theorem isR_inv {v : Value} (h : isR v = true) : ∃ x, v = .ref x := by cases v <;> simp [isR] at h; exact ⟨_, rfl⟩
theorem aget_inv {α : Type} {xs : List α} {j : Int32} {x : α} (h : aget xs j = some x) : ¬ j < 0 ∧ xs[j.toNatClampNeg]? = some x := by
 unfold aget at h
 split at h
 ·cases h
 ·rename_i q; exact ⟨q, h⟩
theorem aset_inv {α : Type} {xs ys : List α} {j : Int32} {x : α} (h : aset xs j x = some ys) : ¬ j < 0 ∧ j.toNatClampNeg < xs.length ∧ ys = xs.set j.toNatClampNeg x := by
 unfold aset at h
 split at h
 ·cases h
 ·rename_i q
  split at h
  ·rename_i q2; cases h; exact ⟨q, q2, rfl⟩
  ·cases h
theorem qnew_inv {n : Int32} {k : Nat} (h : qnew n = some k) : ¬ n < 0 ∧ n.toNatClampNeg = k ∧ k ≤ 67108864 := by
 unfold qnew at h
 split at h
 ·cases h
 ·rename_i q
  split at h
  ·rename_i q2; cases h; exact ⟨q, rfl, q2⟩
  ·cases h
theorem QCellOk.other {h h' : Heap} {a b : Addr} {sl : Nat} {w : Value} {c : QCell} (H : QCellOk Z ad h b c) (W : Wr h h' a sl w) (ne : b ≠ a) : QCellOk Z ad h' b c := by
 rcases c with vs | ⟨ty, xs⟩ | xs
 ·obtain ⟨h1, h2, h3⟩ := H
  exact ⟨h1.wr W, h2, fun k u hk hu => (h3 k u hk hu).other W (Or.inl ne)⟩
 ·obtain ⟨c, h1, h2⟩ := H
  exact ⟨c, h1.other W ne, h2⟩
 ·obtain ⟨c, h1, h2⟩ := H
  exact ⟨c, h1.other W ne, h2⟩
theorem QCellOk.ext {h h' : Heap} {b : Addr} {c : QCell} (H : QCellOk Z ad h b c) (E : Ext h h') : QCellOk Z ad h' b c := by
 rcases c with vs | ⟨ty, xs⟩ | xs
 ·obtain ⟨h1, h2, h3⟩ := H
  exact ⟨h1.ext E, h2, fun k u hk hu => (h3 k u hk hu).ext E⟩
 ·obtain ⟨c, h1, h2⟩ := H
  exact ⟨c, h1.ext E, h2⟩
 ·obtain ⟨c, h1, h2⟩ := H
  exact ⟨c, h1.ext E, h2⟩
theorem QRep.set {h h' : Heap} {σ : QHeap} {a : Nat} {sl : Nat} {w : Value} {c d : QCell} (H : QRep Z n0 ad h σ) (Ad : QAd n0 ad) (W : Wr h h' (ad a) sl w) (hc : hget σ a = some c) (hd : QCellOk Z ad h' (ad a) d) : QRep Z n0 ad h' (σ.set a d) := by
 obtain ⟨h1, h2, h3⟩ := H
 refine ⟨by simpa using h1, by rw [W.size, h2]; simp, fun k e he => ?_⟩
 rw [hget_set hc] at he
 split at he
 ·rename_i q; cases he; rw [q]; exact hd
 ·rename_i q; exact (h3 k e he).other W fun z => q (Ad.2 _ _ z)
theorem QRep.push {h h' : Heap} {σ : QHeap} {c : QCell} (H : QRep Z n0 ad h σ) (Ad : QAd n0 ad) (E : Ext h h') (hs : h'.size = h.size + 1) (hc : QCellOk Z ad h' h.size c) : QRep Z n0 ad h' (σ ++ [c]) := by
 obtain ⟨h1, h2, h3⟩ := H
 refine ⟨by simp; omega, by rw [hs, h2]; simp; omega, fun k e he => ?_⟩
 rw [hget_eq] at he
 rcases Nat.lt_or_ge k σ.length with q | q
 ·rw [List.getElem?_append_left q, ← hget_eq] at he
  exact (h3 k e he).ext E
 ·rw [List.getElem?_append_right q] at he
  obtain rfl : k = σ.length := by
   rcases Nat.lt_or_ge (k - σ.length) 1 with z | z
   ·omega
   ·rw [List.getElem?_eq_none (by simpa using z)] at he; cases he
  simp at he
  rw [← he, Ad.1 _ h1, ← h2]
  exact hc
theorem mem_of_contains {α : Type} [BEq α] [LawfulBEq α] {L : List α} {a : α} (h : L.contains a = true) : a ∈ L := by simpa using h
theorem lkF_lt : ∀ t ∈ lkF, t.2.2 < nF := by decide +kernel
theorem laid_of (W : QW Z a0) {k : Nat} (hk : k < nF) : Laid Z a0 cName cName (fNm k) (fDs k) := by
 have q := (qw_lay W) k hk
 cases hf : fFin k with
 | true => rw [hf] at q; exact Or.inr q
 | false => rw [hf] at q; exact Or.inl q
theorem qfit_inv {ty : FieldType} {v w : Value} (h : qfit ty v = some w) : v = w ∧ narrow ty (qv ad w) = qv ad w ∧ fits ty (qv ad w) = true := by
 unfold qfit at h
 split at h
 ·cases h; exact ⟨rfl, rfl, rfl⟩
 ·rename_i x
  obtain ⟨y, hy, h⟩ := Option.bind_eq_some_iff.mp h
  cases h
  unfold qboo at hy
  split at hy
  ·rename_i e; cases hy; subst e; exact ⟨rfl, rfl, rfl⟩
  ·split at hy
   ·rename_i e; cases hy; subst e; exact ⟨rfl, rfl, rfl⟩
   ·cases hy
 ·cases h; exact ⟨rfl, rfl, rfl⟩
 ·cases h; exact ⟨rfl, rfl, rfl⟩
 ·cases h
theorem vget_set {vs : List Value} {k j : Nat} {w : Value} (hk : k < vs.length) : vget (vs.set k w) j = if j = k then some w else vget vs j := by
 simp only [vget_eq, List.getElem?_set]
 by_cases e : k = j
 ·subst e; simp [hk]
 ·simp [e, Ne.symm e]
theorem ald_in {α : Type} {f : α → Value} {xs : List α} {c : Cell} {j : Int32} {x : α} (hc : c.slots = (xs.map f).toArray) (h : aget xs j = some x) : ¬ (j < 0 ∨ c.slots.size ≤ j.toNatClampNeg) ∧ c.slots[j.toNatClampNeg]? = some (f x) := by
 obtain ⟨h1, h2⟩ := aget_inv h
 have h3 := (List.getElem?_eq_some_iff.mp h2).1
 refine ⟨fun q => ?_, by rw [hc]; simp [h2]⟩
 rcases q with q | q
 ·exact h1 q
 ·rw [hc] at q; simp at q; omega
theorem ast_in {α : Type} {f : α → Value} {xs ys : List α} {c : Cell} {j : Int32} {x : α} (hc : c.slots = (xs.map f).toArray) (h : aset xs j x = some ys) : ¬ (j < 0 ∨ c.slots.size ≤ j.toNatClampNeg) ∧ (c.setSlot j.toNatClampNeg (f x)).slots = (ys.map f).toArray := by
 obtain ⟨h1, h2, rfl⟩ := aset_inv h
 refine ⟨fun q => ?_, by simp [Cell.setSlot, hc, List.map_set]⟩
 rcases q with q | q
 ·exact h1 q
 ·rw [hc] at q; simp at q; omega
theorem qgrow {σ : QHeap} {c : QCell} : qhs (σ ++ [c]) - qhs σ = qsz c := by rw [qhs_app]; simp [qhs]
set_option maxHeartbeats 4000000 in
theorem QTri.newArr (Ad : QAd n0 ad) (W : QW Z a0) {pc aux : Nat} {L : QLoc} {S : List Value} {σ : QHeap} {aty : ArrayType} {n : Int32} {k : Nat} {c : QCell} (hk : qnew n = some k) (hc : pCode m pc = some (.newarray aty, aux)) (hz : qsz c = k)
  (hq : ∀ (h' : Heap) (a : Addr) (cA : ClassId), Arr Z h' a (newA cA (newarray.typeOf aty) n) (newarray.typeOf aty) → QCellOk Z ad h' a c)
  (h : QTri l Z n0 ad m (pc + 2, L, .ref σ.length :: S, σ ++ [c]) v σ') : QTri l Z n0 ad m (pc, L, .int n :: S, σ) v σ' := by
 have hd : decode (pBytes m) pc = .ok (.newarray aty, 2) := pDecN hc rfl
 obtain ⟨n1, n2, n3⟩ := qnew_inv hk
 refine QTri.gen h (by simp) (by simp [qhs_app]) fun p e R s mid args below meth c' T locs cells slots C hcx X hR hF hL hC hn hc1 hsl => ?_
 obtain ⟨hx, hZ, hby, hml, hret, hown, hnm, hfr, hlo⟩ := hcx
 have hd2 : decode c'.code pc = .ok (.newarray aty, 2) := by rw [hby]; exact hd
 simp only [List.length_append, List.length_singleton, Nat.add_sub_cancel_left, qgrow, hz] at hc1 hsl ⊢
 obtain ⟨T₁, h₁, cA, X₁, e₁, E₁, A₁, st⟩ := newP X hx hZ (aty := aty) (qw_arr W (newarray.typeOf aty) (mem_of_contains (show aTys.contains (newarray.typeOf aty) = true from pRest hc))) rfl (g := mkF mid pc C (.int n :: S.map (qv ad))) rfl hd2 rfl n1 (cap := k) (by omega) (by omega) hc1 hsl
 have hsz : h₁.size = T.heap.size + 1 := by
  have q1 := X₁.heapSize
  have q2 : T.heap.size < h₁.size := A₁.lt
  have q3 := hR.2.1
  rw [e₁] at q1
  have : n0 + (σ.length - k0) = s.heap.size + cells := hn
  have q3' : T.heap.size = n0 + (σ.length - k0) := q3
  omega
 refine ⟨T₁, locs, C, X₁, ?_, hF, hL, hC, fun target q => ?_⟩
 ·rw [e₁]; exact QRep.push hR Ad E₁ hsz (hq _ _ _ A₁)
 ·refine st _ ?_
  have e2 : ad σ.length = T.heap.size := by rw [Ad.1 _ hR.1]; exact hR.2.1.symm
  simp only [List.map_cons, qv, e2] at q
  exact q
set_option maxHeartbeats 4000000 in
theorem QTri.getfield (W : QW Z a0) {pc idx aux : Nat} {L : QLoc} {S : List Value} {σ : QHeap} {st' : QSt} (h : QTri l Z n0 ad m st' v σ') (hc : pCode m pc = some (.getfield idx, aux)) (hs : qget (pc + 3) L S σ aux = some st') : QTri l Z n0 ad m (pc, L, S, σ) v σ' := by
 have hd : decode (pBytes m) pc = .ok (.getfield idx, 3) := pDecN hc rfl
 obtain ⟨a, S', vs, w, rfl, hvs, hw, rfl⟩ := qget_inv hs
 have hm := mem_of_contains (show lkF.contains (pK m, idx, aux) = true from pRest hc)
 have hlt := lkF_lt _ hm
 refine QTri.pure h rfl fun p e R s mid args below meth c T locs cells slots C hcx X hR hL hC => ?_
 obtain ⟨hx, hZ, hby, hml, hret, hown, hnm, hfr, hlo⟩ := hcx
 have hd2 : decode c.code pc = .ok (.getfield idx, 3) := by rw [hby]; exact hd
 have F := (hR.2.2 _ _ hvs).2.2 aux w hlt hw
 obtain ⟨T₁, X₁, e₁, st⟩ := getF X hx hZ hown (host := "") (index := idx) (Or.inl (qw_fl W (pK m, idx, aux) hm)) Via.refl rfl F (g := mkF mid pc C (List.map (qv ad) (.ref a :: S'))) rfl rfl hd2
 exact ⟨T₁, C, X₁, e₁, hL, hC, st⟩
set_option maxHeartbeats 4000000 in
theorem QTri.putfield (Ad : QAd n0 ad) (W : QW Z a0) {pc idx aux : Nat} {L : QLoc} {S : List Value} {σ : QHeap} {st' : QSt} (h : QTri l Z n0 ad m st' v σ') (hc : pCode m pc = some (.putfield idx, aux)) (hs : qput (pc + 3) L S σ aux = some st') : QTri l Z n0 ad m (pc, L, S, σ) v σ' := by
 have hd : decode (pBytes m) pc = .ok (.putfield idx, 3) := pDecN hc rfl
 obtain ⟨w, a, S', vs, u, rfl, hvs, b1, b2, hu, rfl⟩ := qput_inv hs
 obtain ⟨r1, r2⟩ := Bool.and_eq_true_iff.mp (show (lkF.contains (pK m, idx, aux) && (!fFin aux || (pK m == 1 && pNm m == "<init>"))) = true from pRest hc)
 have hm := mem_of_contains r1
 have hlt := lkF_lt _ hm
 obtain ⟨rfl, q2, q3⟩ := qfit_inv (ad := ad) hu
 have hsz : qhs (σ.set a (Sum.inl (vs.set aux w))) = qhs σ := qhs_set hvs rfl
 refine QTri.gen h (by simp) (by show qhs σ ≤ qhs (σ.set a (Sum.inl (vs.set aux w))); rw [hsz]; exact Nat.le_refl _) fun p e R s mid args below meth c T locs cells slots C hcx X hR hF hL hC hn hc1 hsl => ?_
 obtain ⟨hx, hZ, hby, hml, hret, hown, hnm, hfr, hlo⟩ := hcx
 have hd2 : decode c.code pc = .ok (.putfield idx, 3) := by rw [hby]; exact hd
 obtain ⟨E, l1, Fs⟩ := hR.2.2 _ _ hvs
 obtain ⟨old, hold⟩ : ∃ old, vget vs aux = some old := by rw [vget_eq]; exact ⟨_, List.getElem?_eq_getElem b2⟩
 have lay : (Cond.lays cName cName (fNm aux) (fDs aux)).before a0 Z = true ∨ ((Cond.laysFinal cName cName (fNm aux) (fDs aux)).before a0 Z = true ∧ kName (pK m) = cName ∧ meth.name = "<init>") := by
  have q := (qw_lay W) aux hlt
  cases hf : fFin aux with
  | false => rw [hf] at q; exact Or.inl q
  | true =>
   rw [hf] at q r2
   simp at r2
   exact Or.inr ⟨q, by rw [r2.1]; exact kOne, by rw [hnm]; exact r2.2⟩
 obtain ⟨T₁, h₁, X₁, e₁, W₁, st⟩ := putF X hx hZ hown (host := "") (index := idx) (Or.inl (qw_fl W (pK m, idx, aux) hm)) Via.refl rfl (Fs aux old hlt hold) E lay ((qw_inst W)) (fPrs aux hlt) q2 q3 (g := mkF mid pc C (List.map (qv ad) (w :: .ref a :: S'))) rfl rfl hd2
 refine ⟨T₁, _, C, ?_, ?_, Fr.snoc X₁ hF (by rw [Ad.1 a b1]; exact Nat.le_add_right _ _), hL, hC, st⟩
 ·show Stand _ _ _ _ _ _ _ _ _ _ _ _ (cells + ((σ.set a (Sum.inl (vs.set aux w))).length - σ.length)) (slots + (qhs (σ.set a (Sum.inl (vs.set aux w))) - qhs σ))
  rw [hsz, Nat.sub_self, List.length_set, Nat.sub_self]
  exact X₁
 ·rw [e₁]
  refine QRep.set hR Ad W₁ hvs ⟨E.wr W₁, by simpa using l1, fun k u hk hu => ?_⟩
  rw [vget_set b2] at hu
  split at hu
  ·rename_i e; cases hu; rw [e]; exact (Fs aux old hlt hold).same W₁
  ·rename_i ne
   exact (Fs k u hk hu).other W₁ (Or.inr (slot_ne (laid_of W hk) (laid_of W hlt) (fun z => ne (fInj _ hk _ hlt z)) (fPrs _ hk) (fPrs _ hlt)))
theorem tyI_inv {ty : FieldType} (h : tyI ty = true) : ty = .int := by cases ty <;> simp [tyI] at h; rfl
theorem tyB_inv {ty : FieldType} (h : tyB ty = true) : ty = .boolean ∨ ty = .byte := by cases ty <;> simp [tyB] at h <;> simp
set_option maxHeartbeats 4000000 in
theorem QTri.iaload {pc aux : Nat} {L : QLoc} {S : List Value} {σ : QHeap} {st' : QSt} (h : QTri l Z n0 ad m st' v σ') (hc : pCode m pc = some (.iaload, aux)) (hs : qald (pc + 1) L S σ tyI = some st') : QTri l Z n0 ad m (pc, L, S, σ) v σ' := by
 have hd : decode (pBytes m) pc = .ok (.iaload, 1) := pDecN hc rfl
 obtain ⟨j, a, S', ty, xs, w, rfl, hx1, ht, hw, rfl⟩ := qald_inv hs
 obtain rfl := tyI_inv ht
 refine QTri.stack h fun p e R s mid args below meth c T locs cells slots C target hx hZ hby hown X hR hL k => ?_
 have hd2 : decode c.code pc = .ok (.iaload, 1) := by rw [hby]; exact hd
 obtain ⟨cl, A, hsl⟩ := hR.2.2 _ _ hx1
 obtain ⟨i1, i2⟩ := ald_in hsl hw
 exact X.iaload hx A.1 (State.isArrayOf_alike hZ.alike A.2.1) A.2.2 i1 i2 (g := mkF mid pc C (List.map (qv ad) (.int j :: .ref a :: S'))) rfl rfl hd2 _ k
set_option maxHeartbeats 4000000 in
theorem QTri.baload {pc aux : Nat} {L : QLoc} {S : List Value} {σ : QHeap} {st' : QSt} (h : QTri l Z n0 ad m st' v σ') (hc : pCode m pc = some (.baload, aux)) (hs : qald (pc + 1) L S σ tyB = some st') : QTri l Z n0 ad m (pc, L, S, σ) v σ' := by
 have hd : decode (pBytes m) pc = .ok (.baload, 1) := pDecN hc rfl
 obtain ⟨j, a, S', ty, xs, w, rfl, hx1, ht, hw, rfl⟩ := qald_inv hs
 refine QTri.stack h fun p e R s mid args below meth c T locs cells slots C target hx hZ hby hown X hR hL k => ?_
 have hd2 : decode c.code pc = .ok (.baload, 1) := by rw [hby]; exact hd
 obtain ⟨cl, A, hsl⟩ := hR.2.2 _ _ hx1
 obtain ⟨i1, i2⟩ := ald_in hsl hw
 rcases tyB_inv ht with rfl | rfl
 ·exact X.baloadBooleans hx A.1 (State.isArrayOf_alike hZ.alike A.2.1) A.2.2 i1 i2 (g := mkF mid pc C (List.map (qv ad) (.int j :: .ref a :: S'))) rfl rfl hd2 _ k
 ·exact X.baloadBytes hx A.1 (State.isArrayOf_alike hZ.alike A.2.1) A.2.2 i1 i2 (g := mkF mid pc C (List.map (qv ad) (.int j :: .ref a :: S'))) rfl rfl hd2 _ k
set_option maxHeartbeats 4000000 in
theorem QTri.laload {pc aux : Nat} {L : QLoc} {S : List Value} {σ : QHeap} {st' : QSt} (h : QTri l Z n0 ad m st' v σ') (hc : pCode m pc = some (.laload, aux)) (hs : qaldJ (pc + 1) L S σ = some st') : QTri l Z n0 ad m (pc, L, S, σ) v σ' := by
 have hd : decode (pBytes m) pc = .ok (.laload, 1) := pDecN hc rfl
 obtain ⟨j, a, S', xs, w, rfl, hx1, hw, rfl⟩ := qaldJ_inv hs
 refine QTri.stack h fun p e R s mid args below meth c T locs cells slots C target hx hZ hby hown X hR hL k => ?_
 have hd2 : decode c.code pc = .ok (.laload, 1) := by rw [hby]; exact hd
 obtain ⟨cl, A, hsl⟩ := hR.2.2 _ _ hx1
 obtain ⟨i1, i2⟩ := ald_in hsl hw
 exact X.laload hx A.1 (State.isArrayOf_alike hZ.alike A.2.1) A.2.2 i1 i2 (g := mkF mid pc C (List.map (qv ad) (.int j :: .ref a :: S'))) rfl rfl hd2 _ k
theorem QTri.stored (Ad : QAd n0 ad) {pc : Nat} {L : QLoc} {S S' : List Value} {σ : QHeap} {a j : Nat} {w : Value} {c d : QCell} (hx1 : hget σ a = some c) (b1 : k0 ≤ a) (hz : qsz d = qsz c) (h : QTri l Z n0 ad m (pc + 1, L, S', σ.set a d) v σ')
  (hs : ∀ (p : Program) (e : Env) (R : Room) (s : State) (mid : MethodId) (args : Array Value) (below : List Frame) (meth : Method) (c : Code) (T : State) (locs : List Loc) (cells slots : Nat) (C : Array Slot),
   QCx Z p R s mid meth c m → Stand p l e R s mid args below meth c T locs cells slots → QRep Z n0 ad T.heap σ →
   ∃ T' h', Stand p l e R s mid args below meth c T' (locs ++ [⟨ad a, j⟩]) cells slots ∧ T'.heap = h' ∧ Wr T.heap h' (ad a) j w ∧ QCellOk Z ad h' (ad a) d ∧ ∀ target, Steps p.tables e below (T'.setTop (mkF mid (pc + 1) C (S'.map (qv ad)))) target → Steps p.tables e below (T.setTop (mkF mid pc C (S.map (qv ad)))) target) :
  QTri l Z n0 ad m (pc, L, S, σ) v σ' := by
 have hsz : qhs (σ.set a d) = qhs σ := qhs_set hx1 hz
 refine QTri.gen h (by simp) (by show qhs σ ≤ qhs (σ.set a d); rw [hsz]; exact Nat.le_refl _) fun p e R s mid args below meth c T locs cells slots C hcx X hR hF hL hC hn hc1 hsl => ?_
 obtain ⟨T₁, h₁, X₁, e₁, W₁, Q₁, st⟩ := hs p e R s mid args below meth c T locs cells slots C hcx X hR
 refine ⟨T₁, _, C, ?_, ?_, Fr.snoc X₁ hF (by rw [Ad.1 a b1]; exact Nat.le_add_right _ _), hL, hC, st⟩
 ·show Stand _ _ _ _ _ _ _ _ _ _ _ _ (cells + ((σ.set a d).length - σ.length)) (slots + (qhs (σ.set a d) - qhs σ))
  rw [hsz, Nat.sub_self, List.length_set, Nat.sub_self]
  exact X₁
 ·rw [e₁]
  exact QRep.set hR Ad W₁ hx1 Q₁
set_option maxHeartbeats 4000000 in
theorem QTri.iastore (Ad : QAd n0 ad) {pc aux : Nat} {L : QLoc} {S : List Value} {σ : QHeap} {st' : QSt} (h : QTri l Z n0 ad m st' v σ') (hc : pCode m pc = some (.iastore, aux)) (hs : qast (pc + 1) L S σ tyI = some st') : QTri l Z n0 ad m (pc, L, S, σ) v σ' := by
 have hd : decode (pBytes m) pc = .ok (.iastore, 1) := pDecN hc rfl
 obtain ⟨w, j, a, S', ty, xs, ys, rfl, hx1, ht, b1, hw, rfl⟩ := qast_inv hs
 obtain rfl := tyI_inv ht
 refine QTri.stored Ad (j := j.toNatClampNeg) (w := .int w) hx1 b1 (by rw [(aset_inv hw).2.2]; simp [qsz]) h fun p e R s mid args below meth c T locs cells slots C hcx X hR => ?_
 have hd2 : decode c.code pc = .ok (.iastore, 1) := by rw [hcx.2.2.1]; exact hd
 obtain ⟨cl, A, hsl⟩ := hR.2.2 _ _ hx1
 obtain ⟨i1, i2⟩ := ast_in hsl hw
 obtain ⟨T₁, h₁, X₁, e₁, W₁, st⟩ := stI X hcx.1 hcx.2.1 rfl A i1 (g := mkF mid pc C (List.map (qv ad) (.int w :: .int j :: .ref a :: S'))) rfl rfl hd2
 exact ⟨T₁, h₁, X₁, e₁, W₁, ⟨_, A.same W₁, i2⟩, st⟩
set_option maxHeartbeats 4000000 in
theorem QTri.bastore (Ad : QAd n0 ad) {pc aux : Nat} {L : QLoc} {S : List Value} {σ : QHeap} {st' : QSt} (h : QTri l Z n0 ad m st' v σ') (hc : pCode m pc = some (.bastore, aux)) (hs : qast (pc + 1) L S σ tyB = some st') : QTri l Z n0 ad m (pc, L, S, σ) v σ' := by
 have hd : decode (pBytes m) pc = .ok (.bastore, 1) := pDecN hc rfl
 obtain ⟨w, j, a, S', ty, xs, ys, rfl, hx1, ht, b1, hw, rfl⟩ := qast_inv hs
 refine QTri.stored Ad (j := j.toNatClampNeg) (w := .int (qnar ty w)) hx1 b1 (by rw [(aset_inv hw).2.2]; simp [qsz]) h fun p e R s mid args below meth c T locs cells slots C hcx X hR => ?_
 have hd2 : decode c.code pc = .ok (.bastore, 1) := by rw [hcx.2.2.1]; exact hd
 obtain ⟨cl, A, hsl⟩ := hR.2.2 _ _ hx1
 obtain ⟨i1, i2⟩ := ast_in hsl hw
 rcases tyB_inv ht with rfl | rfl
 ·obtain ⟨T₁, h₁, X₁, e₁, W₁, st⟩ := stZ X hcx.1 hcx.2.1 rfl A i1 (g := mkF mid pc C (List.map (qv ad) (.int w :: .int j :: .ref a :: S'))) rfl rfl hd2
  exact ⟨T₁, h₁, X₁, e₁, W₁, ⟨_, A.same W₁, i2⟩, st⟩
 ·obtain ⟨T₁, h₁, X₁, e₁, W₁, st⟩ := stB X hcx.1 hcx.2.1 rfl A i1 (g := mkF mid pc C (List.map (qv ad) (.int w :: .int j :: .ref a :: S'))) rfl rfl hd2
  exact ⟨T₁, h₁, X₁, e₁, W₁, ⟨_, A.same W₁, i2⟩, st⟩
set_option maxHeartbeats 4000000 in
theorem QTri.lastore (Ad : QAd n0 ad) {pc aux : Nat} {L : QLoc} {S : List Value} {σ : QHeap} {st' : QSt} (h : QTri l Z n0 ad m st' v σ') (hc : pCode m pc = some (.lastore, aux)) (hs : qastJ (pc + 1) L S σ = some st') : QTri l Z n0 ad m (pc, L, S, σ) v σ' := by
 have hd : decode (pBytes m) pc = .ok (.lastore, 1) := pDecN hc rfl
 obtain ⟨w, j, a, S', xs, ys, rfl, hx1, b1, hw, rfl⟩ := qastJ_inv hs
 refine QTri.stored Ad (j := j.toNatClampNeg) (w := .long w) hx1 b1 (by rw [(aset_inv hw).2.2]; simp [qsz]) h fun p e R s mid args below meth c T locs cells slots C hcx X hR => ?_
 have hd2 : decode c.code pc = .ok (.lastore, 1) := by rw [hcx.2.2.1]; exact hd
 obtain ⟨cl, A, hsl⟩ := hR.2.2 _ _ hx1
 obtain ⟨i1, i2⟩ := ast_in hsl hw
 obtain ⟨T₁, h₁, X₁, e₁, W₁, st⟩ := stJ X hcx.1 hcx.2.1 rfl A i1 (g := mkF mid pc C (List.map (qv ad) (.long w :: .int j :: .ref a :: S'))) rfl rfl hd2
 exact ⟨T₁, h₁, X₁, e₁, W₁, ⟨_, A.same W₁, i2⟩, st⟩
set_option maxHeartbeats 4000000 in
theorem QTri.alen {pc aux : Nat} {L : QLoc} {S : List Value} {σ : QHeap} {st' : QSt} (h : QTri l Z n0 ad m st' v σ') (hc : pCode m pc = some (.arraylength, aux)) (hs : qlen (pc + 1) L S σ = some st') : QTri l Z n0 ad m (pc, L, S, σ) v σ' := by
 have hd : decode (pBytes m) pc = .ok (.arraylength, 1) := pDecN hc rfl
 obtain ⟨a, S', n, rfl, hx1, rfl⟩ := qlen_inv hs
 refine QTri.stack h fun p e R s mid args below meth c T locs cells slots C target hx hZ hby hown X hR hL k => ?_
 have hd2 : decode c.code pc = .ok (.arraylength, 1) := by rw [hby]; exact hd
 rcases hx1 with ⟨ty, xs, hx1, rfl⟩ | ⟨xs, hx1, rfl⟩
 ·obtain ⟨cl, A, hsl⟩ := hR.2.2 _ _ hx1
  have e1 : cl.slots.size = xs.length := by rw [hsl]; simp
  rw [← e1] at k
  exact X.arraylength hx A.1 (State.isArrayOf_alike hZ.alike A.2.1) (g := mkF mid pc C (List.map (qv ad) (.ref a :: S'))) rfl rfl hd2 _ k
 ·obtain ⟨cl, A, hsl⟩ := hR.2.2 _ _ hx1
  have e1 : cl.slots.size = xs.length := by rw [hsl]; simp
  rw [← e1] at k
  exact X.arraylength hx A.1 (State.isArrayOf_alike hZ.alike A.2.1) (g := mkF mid pc C (List.map (qv ad) (.ref a :: S'))) rfl rfl hd2 _ k
set_option maxHeartbeats 4000000 in
theorem QTri.newObj (Ad : QAd n0 ad) (W : QW Z a0) {pc idx aux : Nat} {L : QLoc} {S : List Value} {σ : QHeap} (h : QTri l Z n0 ad m (pc + 3, L, .ref σ.length :: S, σ ++ [.inl cDef]) v σ') (hc : pCode m pc = some (.new idx, aux)) : QTri l Z n0 ad m (pc, L, S, σ) v σ' := by
 have hd : decode (pBytes m) pc = .ok (.new idx, 3) := pDecN hc rfl
 have hm := mem_of_contains (show lkN.contains (pK m, idx) = true from pRest hc)
 refine QTri.gen h (by simp) (by simp [qhs_app]) fun p e R s mid args below meth c T locs cells slots C hcx X hR hF hL hC hn hc1 hsl => ?_
 obtain ⟨hx, hZ, hby, hml, hret, hown, hnm, hfr, hlo⟩ := hcx
 have hd2 : decode c.code pc = .ok (.new idx, 3) := by rw [hby]; exact hd
 simp only [List.length_append, List.length_singleton, Nat.add_sub_cancel_left, qgrow, qsz] at hc1 hsl ⊢
 obtain ⟨T₁, h₁, X₁, e₁, E₁, A₁, D₁, -, st⟩ := newO X hx hZ hown (index := idx) (qw_nw W (pK m, idx) hm) ((qw_inst W)) ((qw_init W)) rfl (g := mkF mid pc C (S.map (qv ad))) rfl hd2 hc1 hsl
 have hsz : h₁.size = T.heap.size + 1 := by
  have q1 := X₁.heapSize
  have q2 : T.heap.size < h₁.size := A₁.lt
  have q3 : T.heap.size = n0 + (σ.length - k0) := hR.2.1
  rw [e₁] at q1
  have : n0 + (σ.length - k0) = s.heap.size + cells := hn
  omega
 refine ⟨T₁, locs, C, X₁, ?_, hF, hL, hC, fun target q => ?_⟩
 ·rw [e₁]
  refine QRep.push hR Ad E₁ hsz ⟨A₁, cDefL, fun k u hk hu => ?_⟩
  rw [cDefs k hk] at hu
  cases hu
  have e3 : qv ad (defaultValue (fTy k)) = defaultValue (fTy k) := by
   cases hq : defaultValue (fTy k) with
   | ref a => exact absurd hq (fDef k hk a)
   | _ => rfl
  rw [e3]
  exact D₁ (laid_of W hk) (fPrs k hk)
 ·refine st _ ?_
  have e2 : ad σ.length = T.heap.size := by rw [Ad.1 _ hR.1]; exact hR.2.1.symm
  simp only [List.map_cons, qv, e2] at q
  exact q
set_option maxHeartbeats 8000000 in
theorem QTri.step (Ad : QAd n0 ad) (W : QW Z a0) {st st' : QSt} (h : QTri l Z n0 ad m st' v σ') (hs : qstep m st = some st') : QTri l Z n0 ad m st v σ' := by
 obtain ⟨pc, L, S, σ⟩ := st
 unfold qstep at hs
 dsimp only at hs
 split at hs
 rotate_left
 ·cases hs
 rename_i i aux hc
 have hd := pDecN hc rfl
 have hr := pRest hc
 unfold qexec at hs
 split at hs
 ·-- aload_n
  obtain ⟨w, h1, h2, rfl⟩ := qload_inv hs
  obtain ⟨a, rfl⟩ := isR_inv h2
  exact QTri.stack h fun p e R s mid args below meth c T locs cells slots C target hx hZ hby hown X hR hL k => XS.aloadN X.here hx rfl (hb hby hd) (hL.2.1 _ _ h1) rfl k
 ·obtain ⟨w, h1, h2, rfl⟩ := qload_inv hs
  obtain ⟨a, rfl⟩ := isR_inv h2
  exact QTri.stack h fun p e R s mid args below meth c T locs cells slots C target hx hZ hby hown X hR hL k => XS.aload X.here hx rfl (hb hby hd) (hL.2.1 _ _ h1) rfl k
 ·obtain ⟨w, h1, h2, rfl⟩ := qload_inv hs
  obtain ⟨a, rfl⟩ := isI_inv h2
  exact QTri.stack h fun p e R s mid args below meth c T locs cells slots C target hx hZ hby hown X hR hL k => XS.iloadN X.here hx rfl (hb hby hd) (hL.2.1 _ _ h1) k
 ·obtain ⟨w, h1, h2, rfl⟩ := qload_inv hs
  obtain ⟨a, rfl⟩ := isI_inv h2
  exact QTri.stack h fun p e R s mid args below meth c T locs cells slots C target hx hZ hby hown X hR hL k => XS.iload X.here hx rfl (hb hby hd) (hL.2.1 _ _ h1) k
 ·obtain ⟨w, h1, h2, rfl⟩ := qload_inv hs
  obtain ⟨a, rfl⟩ := isJ_inv h2
  exact QTri.stack h fun p e R s mid args below meth c T locs cells slots C target hx hZ hby hown X hR hL k => XT.lloadN X.here hx rfl (hb hby hd) (hL.2.1 _ _ h1) k
 ·obtain ⟨w, h1, h2, rfl⟩ := qload_inv hs
  obtain ⟨a, rfl⟩ := isJ_inv h2
  exact QTri.stack h fun p e R s mid args below meth c T locs cells slots C target hx hZ hby hown X hR hL k => XT.lload X.here hx rfl (hb hby hd) (hL.2.1 _ _ h1) k
 ·cases hs -- iconst
  exact QTri.stack h fun p e R s mid args below meth c T locs cells slots C target hx hZ hby hown X hR hL k => XS.iconst X.here hx rfl (hb hby hd) k
 ·cases hs
  exact QTri.stack h fun p e R s mid args below meth c T locs cells slots C target hx hZ hby hown X hR hL k => XS.bipush X.here hx rfl (hb hby hd) k
 ·cases hs
  exact QTri.stack h fun p e R s mid args below meth c T locs cells slots C target hx hZ hby hown X hR hL k => XS.sipush X.here hx rfl (hb hby hd) k
 ·cases hs
  exact QTri.stack h fun p e R s mid args below meth c T locs cells slots C target hx hZ hby hown X hR hL k => XT.lconst X.here hx rfl (hb hby hd) k
 ·-- ldc
  unfold qldc at hs
  split at hs
  ·rename_i w hw
   cases hs
   obtain ⟨x, hx1, hx2⟩ := qw_cI W (pK m, _, aux) (mem_of_contains (show lkC.contains (pK m, _, aux) = true from hr))
   rw [show vget cK aux = some w from hw] at hx1
   cases hx1
   exact QTri.stack h fun p e R s mid args below meth c T locs cells slots C target hx hZ hby hown X hR hL k => X.ldcI hx hown (mv hZ hx2) rfl (hb hby hd) k
  ·cases hs
 ·unfold qldc at hs
  split at hs
  ·rename_i w hw
   cases hs
   obtain ⟨x, hx1, hx2⟩ := qw_cJ W (pK m, _, aux) (mem_of_contains (show lkD.contains (pK m, _, aux) = true from hr))
   rw [show vget cK aux = some w from hw] at hx1
   cases hx1
   exact QTri.stack h fun p e R s mid args below meth c T locs cells slots C target hx hZ hby hown X hR hL k => X.ldc2J hx hown (mv hZ hx2) rfl (hb hby hd) k
  ·cases hs
 ·-- istore_n
  obtain ⟨w, S', L', rfl, h2, h3, rfl⟩ := qstore_inv hs
  obtain ⟨a, rfl⟩ := isI_inv h2
  exact QTri.frame h fun p e R s mid args below meth c T locs cells slots C hcx X hR hL hC => by
   obtain ⟨D, d1, d2, d3⟩ := store_ok hL h3
   exact ⟨D, d2, d3.trans hC, fun target k => XS.istoreN X.here hcx.1 rfl (hb hcx.2.2.1 hd) rfl d1 k⟩
 ·obtain ⟨w, S', L', rfl, h2, h3, rfl⟩ := qstore_inv hs
  obtain ⟨a, rfl⟩ := isI_inv h2
  exact QTri.frame h fun p e R s mid args below meth c T locs cells slots C hcx X hR hL hC => by
   obtain ⟨D, d1, d2, d3⟩ := store_ok hL h3
   exact ⟨D, d2, d3.trans hC, fun target k => XS.istore X.here hcx.1 rfl (hb hcx.2.2.1 hd) rfl d1 k⟩
 ·obtain ⟨w, S', L', rfl, h2, h3, rfl⟩ := qstore_inv hs
  obtain ⟨a, rfl⟩ := isJ_inv h2
  exact QTri.frame h fun p e R s mid args below meth c T locs cells slots C hcx X hR hL hC => by
   obtain ⟨D, d1, d2, d3⟩ := store_ok hL h3
   exact ⟨D, d2, d3.trans hC, fun target k => XT.lstoreN X.here hcx.1 rfl (hb hcx.2.2.1 hd) rfl d1 k⟩
 ·obtain ⟨w, S', L', rfl, h2, h3, rfl⟩ := qstore_inv hs
  obtain ⟨a, rfl⟩ := isJ_inv h2
  exact QTri.frame h fun p e R s mid args below meth c T locs cells slots C hcx X hR hL hC => by
   obtain ⟨D, d1, d2, d3⟩ := store_ok hL h3
   exact ⟨D, d2, d3.trans hC, fun target k => XT.lstore X.here hcx.1 rfl (hb hcx.2.2.1 hd) rfl d1 k⟩
 ·obtain ⟨w, S', L', rfl, h2, h3, rfl⟩ := qstore_inv hs
  obtain ⟨a, rfl⟩ := isR_inv h2
  exact QTri.frame h fun p e R s mid args below meth c T locs cells slots C hcx X hR hL hC => by
   obtain ⟨D, d1, d2, d3⟩ := store_ok hL h3
   exact ⟨D, d2, d3.trans hC, fun target k => XS.astoreN X.here hcx.1 rfl (hb hcx.2.2.1 hd) rfl rfl d1 k⟩
 ·obtain ⟨w, S', L', rfl, h2, h3, rfl⟩ := qstore_inv hs
  obtain ⟨a, rfl⟩ := isR_inv h2
  exact QTri.frame h fun p e R s mid args below meth c T locs cells slots C hcx X hR hL hC => by
   obtain ⟨D, d1, d2, d3⟩ := store_ok hL h3
   exact ⟨D, d2, d3.trans hC, fun target k => XS.astore X.here hcx.1 rfl (hb hcx.2.2.1 hd) rfl rfl d1 k⟩
 ·-- iinc
  unfold qinc at hs
  split at hs
  ·rename_i x hx1
   split at hs
   ·rename_i L' hL'
    cases hs
    exact QTri.frame h fun p e R s mid args below meth c T locs cells slots C hcx X hR hL hC => by
     obtain ⟨D, d1, d2, d3⟩ := store_ok hL hL'
     exact ⟨D, d2, d3.trans hC, fun target k => XS.iinc X.here hcx.1 rfl (hb hcx.2.2.1 hd) (hL.2.1 _ _ hx1) d1 k⟩
   ·cases hs
  ·cases hs
 ·obtain ⟨x, y, S', rfl, rfl⟩ := qbin_inv hs -- iadd
  exact QTri.stack h fun p e R s mid args below meth c T locs cells slots C target hx hZ hby hown X hR hL k => XS.iadd X.here hx rfl (hb hby hd) rfl k
 ·obtain ⟨x, y, S', rfl, rfl⟩ := qbin_inv hs
  exact QTri.stack h fun p e R s mid args below meth c T locs cells slots C target hx hZ hby hown X hR hL k => XS.isub X.here hx rfl (hb hby hd) rfl k
 ·obtain ⟨x, y, S', rfl, rfl⟩ := qbin_inv hs
  exact QTri.stack h fun p e R s mid args below meth c T locs cells slots C target hx hZ hby hown X hR hL k => XS.imul X.here hx rfl (hb hby hd) rfl k
 ·obtain ⟨x, y, S', rfl, rfl⟩ := qbin_inv hs
  exact QTri.stack h fun p e R s mid args below meth c T locs cells slots C target hx hZ hby hown X hR hL k => XS.iand X.here hx rfl (hb hby hd) rfl k
 ·obtain ⟨x, y, S', rfl, rfl⟩ := qbin_inv hs
  exact QTri.stack h fun p e R s mid args below meth c T locs cells slots C target hx hZ hby hown X hR hL k => XT.ior X.here hx rfl (hb hby hd) rfl k
 ·obtain ⟨x, y, S', rfl, rfl⟩ := qbin_inv hs
  exact QTri.stack h fun p e R s mid args below meth c T locs cells slots C target hx hZ hby hown X hR hL k => XT.ixor X.here hx rfl (hb hby hd) rfl k
 ·obtain ⟨x, y, S', rfl, rfl⟩ := qbin_inv hs
  exact QTri.stack h fun p e R s mid args below meth c T locs cells slots C target hx hZ hby hown X hR hL k => XT.ishl X.here hx rfl (hb hby hd) rfl k
 ·obtain ⟨x, y, S', rfl, rfl⟩ := qbin_inv hs
  exact QTri.stack h fun p e R s mid args below meth c T locs cells slots C target hx hZ hby hown X hR hL k => XT.ishr X.here hx rfl (hb hby hd) rfl k
 ·obtain ⟨x, y, S', rfl, rfl⟩ := qbin_inv hs
  exact QTri.stack h fun p e R s mid args below meth c T locs cells slots C target hx hZ hby hown X hR hL k => XT.iushr X.here hx rfl (hb hby hd) rfl k
 ·obtain ⟨x, y, z, S', rfl, hz, rfl⟩ := qbino_inv hs -- idiv
  unfold qdiv at hz
  split at hz
  ·cases hz
  ·rename_i hy
   cases hz
   exact QTri.stack h fun p e R s mid args below meth c T locs cells slots C target hx hZ hby hown X hR hL k => XS.idiv X.here hx rfl (hb hby hd) rfl hy k
 ·obtain ⟨x, y, z, S', rfl, hz, rfl⟩ := qbino_inv hs
  unfold qrem at hz
  split at hz
  ·cases hz
  ·rename_i hy
   cases hz
   exact QTri.stack h fun p e R s mid args below meth c T locs cells slots C target hx hZ hby hown X hR hL k => iremM X hx rfl (hb hby hd) rfl hy k
 ·obtain ⟨x, S', rfl, rfl⟩ := quni_inv hs -- ineg
  exact QTri.stack h fun p e R s mid args below meth c T locs cells slots C target hx hZ hby hown X hR hL k => XS.ineg X.here hx rfl (hb hby hd) rfl k
 ·obtain ⟨x, S', rfl, rfl⟩ := quni_inv hs
  exact QTri.stack h fun p e R s mid args below meth c T locs cells slots C target hx hZ hby hown X hR hL k => XT.i2l X.here hx rfl (hb hby hd) rfl k
 ·obtain ⟨x, S', rfl, rfl⟩ := quni_inv hs
  exact QTri.stack h fun p e R s mid args below meth c T locs cells slots C target hx hZ hby hown X hR hL k => XT.i2b X.here hx rfl (hb hby hd) rfl k
 ·obtain ⟨x, S', rfl, rfl⟩ := quniJ_inv hs
  exact QTri.stack h fun p e R s mid args below meth c T locs cells slots C target hx hZ hby hown X hR hL k => XT.l2i X.here hx rfl (hb hby hd) rfl k
 ·obtain ⟨x, S', rfl, rfl⟩ := quniJ_inv hs
  exact QTri.stack h fun p e R s mid args below meth c T locs cells slots C target hx hZ hby hown X hR hL k => XT.lneg X.here hx rfl (hb hby hd) rfl k
 ·obtain ⟨x, y, S', rfl, rfl⟩ := qbinJ_inv hs
  exact QTri.stack h fun p e R s mid args below meth c T locs cells slots C target hx hZ hby hown X hR hL k => XT.ladd X.here hx rfl (hb hby hd) rfl k
 ·obtain ⟨x, y, S', rfl, rfl⟩ := qbinJ_inv hs
  exact QTri.stack h fun p e R s mid args below meth c T locs cells slots C target hx hZ hby hown X hR hL k => XT.lsub X.here hx rfl (hb hby hd) rfl k
 ·obtain ⟨x, y, S', rfl, rfl⟩ := qbinJ_inv hs
  exact QTri.stack h fun p e R s mid args below meth c T locs cells slots C target hx hZ hby hown X hR hL k => XT.lmul X.here hx rfl (hb hby hd) rfl k
 ·obtain ⟨x, y, S', rfl, rfl⟩ := qbinJ_inv hs
  exact QTri.stack h fun p e R s mid args below meth c T locs cells slots C target hx hZ hby hown X hR hL k => XT.land X.here hx rfl (hb hby hd) rfl k
 ·obtain ⟨x, y, S', rfl, rfl⟩ := qbinJ_inv hs
  exact QTri.stack h fun p e R s mid args below meth c T locs cells slots C target hx hZ hby hown X hR hL k => XT.lor X.here hx rfl (hb hby hd) rfl k
 ·obtain ⟨x, y, S', rfl, rfl⟩ := qbinJ_inv hs
  exact QTri.stack h fun p e R s mid args below meth c T locs cells slots C target hx hZ hby hown X hR hL k => XT.lxor X.here hx rfl (hb hby hd) rfl k
 ·obtain ⟨x, y, S', rfl, rfl⟩ := qshJ_inv hs
  exact QTri.stack h fun p e R s mid args below meth c T locs cells slots C target hx hZ hby hown X hR hL k => XT.lshl X.here hx rfl (hb hby hd) rfl k
 ·obtain ⟨x, y, S', rfl, rfl⟩ := qshJ_inv hs
  exact QTri.stack h fun p e R s mid args below meth c T locs cells slots C target hx hZ hby hown X hR hL k => XT.lshr X.here hx rfl (hb hby hd) rfl k
 ·obtain ⟨x, y, S', rfl, rfl⟩ := qshJ_inv hs
  exact QTri.stack h fun p e R s mid args below meth c T locs cells slots C target hx hZ hby hown X hR hL k => XT.lushr X.here hx rfl (hb hby hd) rfl k
 ·split at hs -- lcmp
  ·cases hs
   exact QTri.stack h fun p e R s mid args below meth c T locs cells slots C target hx hZ hby hown X hR hL k => XT.lcmp X.here hx rfl (hb hby hd) rfl k
  ·cases hs
 ·cases hs -- goto
  obtain ⟨t1, t2⟩ := qtgt_spec hr
  exact QTri.stack h fun p e R s mid args below meth c T locs cells slots C target hx hZ hby hown X hR hL k => XS.goto X.here hx rfl rfl (hb hby hd) t1 t2 k
 ·obtain ⟨x, S', rfl, rfl⟩ := qif_inv hs
  obtain ⟨t1, t2⟩ := qtgt_spec hr
  cases hh : ifCond.holds _ x with
  | true => rw [hh] at h; exact QTri.stack h fun p e R s mid args below meth c T locs cells slots C target hx hZ hby hown X hR hL k => XS.ifYes X.here hx rfl rfl (hb hby hd) rfl hh t1 t2 k
  | false => rw [hh] at h; exact QTri.stack h fun p e R s mid args below meth c T locs cells slots C target hx hZ hby hown X hR hL k => XS.ifNo X.here hx rfl (hb hby hd) rfl hh k
 ·obtain ⟨x, y, S', rfl, rfl⟩ := qicmp_inv hs
  obtain ⟨t1, t2⟩ := qtgt_spec hr
  cases hh : if_icmp.holds _ x y with
  | true => rw [hh] at h; exact QTri.stack h fun p e R s mid args below meth c T locs cells slots C target hx hZ hby hown X hR hL k => XS.icmpYes X.here hx rfl rfl (hb hby hd) rfl hh t1 t2 k
  | false => rw [hh] at h; exact QTri.stack h fun p e R s mid args below meth c T locs cells slots C target hx hZ hby hown X hR hL k => XS.icmpNo X.here hx rfl (hb hby hd) rfl hh k
 ·unfold qdup at hs
  split at hs
  ·cases hs
   exact QTri.stack h fun p e R s mid args below meth c T locs cells slots C target hx hZ hby hown X hR hL k => XS.dup X.here hx rfl (hb hby hd) rfl rfl k
  ·cases hs
   exact QTri.stack h fun p e R s mid args below meth c T locs cells slots C target hx hZ hby hown X hR hL k => XS.dup X.here hx rfl (hb hby hd) rfl rfl k
  ·cases hs
 ·unfold qdup2 at hs
  split at hs
  ·cases hs
   exact QTri.stack h fun p e R s mid args below meth c T locs cells slots C target hx hZ hby hown X hR hL k => XT.dup2 X.here hx rfl (hb hby hd) rfl rfl rfl k
  ·cases hs
   exact QTri.stack h fun p e R s mid args below meth c T locs cells slots C target hx hZ hby hown X hR hL k => XT.dup2 X.here hx rfl (hb hby hd) rfl rfl rfl k
  ·cases hs
   exact QTri.stack h fun p e R s mid args below meth c T locs cells slots C target hx hZ hby hown X hR hL k => XT.dup2L X.here hx rfl (hb hby hd) rfl k
  ·cases hs
 ·unfold qpop at hs
  split at hs
  ·cases hs
   exact QTri.stack h fun p e R s mid args below meth c T locs cells slots C target hx hZ hby hown X hR hL k => XT.pop X.here hx rfl (hb hby hd) rfl rfl k
  ·cases hs
   exact QTri.stack h fun p e R s mid args below meth c T locs cells slots C target hx hZ hby hown X hR hL k => XT.pop X.here hx rfl (hb hby hd) rfl rfl k
  ·cases hs
 ·exact QTri.getfield W h hc hs
 ·exact QTri.putfield Ad W h hc hs
 ·exact QTri.iaload h hc hs
 ·exact QTri.baload h hc hs
 ·exact QTri.laload h hc hs
 ·exact QTri.iastore Ad h hc hs
 ·exact QTri.bastore Ad h hc hs
 ·exact QTri.lastore Ad h hc hs
 ·exact QTri.alen h hc hs
 ·-- newarray
  unfold qnewA at hs
  split at hs
  ·split at hs
   ·obtain ⟨k, hk, hs⟩ := Option.bind_eq_some_iff.mp hs
    cases hs
    exact QTri.newArr (c := .inr (.inl (.int, List.replicate k 0))) Ad W hk hc (by simp [qsz]) (fun h' a cA A => ⟨_, A, by simp [newA, (qnew_inv hk).2.1]; exact Or.inr rfl⟩) h
   ·obtain ⟨k, hk, hs⟩ := Option.bind_eq_some_iff.mp hs
    cases hs
    exact QTri.newArr (c := .inr (.inl (.boolean, List.replicate k 0))) Ad W hk hc (by simp [qsz]) (fun h' a cA A => ⟨_, A, by simp [newA, (qnew_inv hk).2.1]; exact Or.inr rfl⟩) h
   ·obtain ⟨k, hk, hs⟩ := Option.bind_eq_some_iff.mp hs
    cases hs
    exact QTri.newArr (c := .inr (.inl (.byte, List.replicate k 0))) Ad W hk hc (by simp [qsz]) (fun h' a cA A => ⟨_, A, by simp [newA, (qnew_inv hk).2.1]; exact Or.inr rfl⟩) h
   ·obtain ⟨k, hk, hs⟩ := Option.bind_eq_some_iff.mp hs
    cases hs
    exact QTri.newArr (c := .inr (.inr (List.replicate k 0))) Ad W hk hc (by simp [qsz]) (fun h' a cA A => ⟨_, A, by simp [newA, (qnew_inv hk).2.1]; exact Or.inr rfl⟩) h
   ·cases hs
  ·cases hs
 ·cases hs; exact QTri.newObj Ad W h hc
 ·cases hs
theorem QTri.steps (Ad : QAd n0 ad) (W : QW Z a0) : ∀ (n : Nat) {st st' : QSt}, qsteps m n st = some st' → QTri l Z n0 ad m st' v σ' → QTri l Z n0 ad m st v σ'
 | 0, st, st', h, k => by cases h; exact k
 | n + 1, st, st', h, k => by
  simp only [qsteps] at h
  split at h
  ·rename_i st₁ h1
   exact QTri.step Ad W (QTri.steps Ad W n h k) h1
  ·cases h
def lmask : List Bool → QLoc → QLoc
 | b :: t, x :: u => (bif b then x else none) :: lmask t u
 | _, L => L.map fun _ => none
theorem lmask_len : ∀ (b : List Bool) (L : QLoc), (lmask b L).length = L.length
 | [], L => by simp [lmask]
 | _ :: _, [] => by simp [lmask]
 | _ :: t, _ :: u => by simp [lmask, lmask_len t u]
theorem lmask_get : ∀ (b : List Bool) (L : QLoc) (k : Nat) (v : Value), lget (lmask b L) k = some v → lget L k = some v
 | [], L, k, v, h => by
  simp only [lmask, lget_eq, List.getElem?_map] at h
  cases hq : L[k]? <;> simp [hq] at h
 | _ :: _, [], k, v, h => by simp [lmask, lget] at h
 | b :: t, x :: u, 0, v, h => by
  simp only [lmask, lget] at h ⊢
  cases b
  ·cases h
  ·exact h
 | b :: t, x :: u, k + 1, v, h => by
  simp only [lmask, lget] at h ⊢
  exact lmask_get t u k v h
theorem QTri.mask {pc : Nat} {L : QLoc} {S : List Value} {σ : QHeap} (b : List Bool) (h : QTri l Z n0 ad m (pc, lmask b L, S, σ) v σ') : QTri l Z n0 ad m (pc, L, S, σ) v σ' :=
 QTri.frame h fun p e R s mid args below meth c T locs cells slots C hcx X hR hL hC => ⟨C, ⟨by rw [lmask_len]; exact hL.1, fun k u hk => hL.2.1 k u (lmask_get b L k u hk), hL.2.2⟩, hC, fun target k => k⟩
theorem QTri.ret0 {pc aux : Nat} {L : QLoc} {σ : QHeap} (hc : pCode m pc = some (.return_, aux)) (hr : pRet m = none) : QTri l Z n0 ad m (pc, L, [], σ) none σ :=
 have hd : decode (pBytes m) pc = .ok (.return_, 1) := pDecN hc rfl
 ⟨Nat.le_refl _, Nat.le_refl _, fun p e R s mid args below meth c T locs cells slots C hcx X hR hF hL hC hn hc1 hsl => ⟨T, locs, by simpa using X, hR, hF, fun fs hf => X.returnOut hcx.1 (hcx.2.2.2.2.1.trans hr) (hb hcx.2.2.1 hd) hf⟩⟩
theorem QTri.retI {pc aux : Nat} {L : QLoc} {S : List Value} {σ : QHeap} {x : Int32} (hc : pCode m pc = some (.ireturn, aux)) (hr : pRet m = some .int) : QTri l Z n0 ad m (pc, L, .int x :: S, σ) (some (.int x)) σ :=
 have hd : decode (pBytes m) pc = .ok (.ireturn, 1) := pDecN hc rfl
 ⟨Nat.le_refl _, Nat.le_refl _, fun p e R s mid args below meth c T locs cells slots C hcx X hR hF hL hC hn hc1 hsl => ⟨T, locs, by simpa using X, hR, hF, fun fs hf => Jvm.RoadKit.retI X hcx.1 (hcx.2.2.2.2.1.trans hr) (hb hcx.2.2.1 hd) hf⟩⟩
theorem QTri.retZ {pc aux : Nat} {L : QLoc} {S : List Value} {σ : QHeap} {x : Int32} (hc : pCode m pc = some (.ireturn, aux)) (hr : pRet m = some .boolean) : QTri l Z n0 ad m (pc, L, .int x :: S, σ) (some (.int (x &&& 1))) σ :=
 have hd : decode (pBytes m) pc = .ok (.ireturn, 1) := pDecN hc rfl
 ⟨Nat.le_refl _, Nat.le_refl _, fun p e R s mid args below meth c T locs cells slots C hcx X hR hF hL hC hn hc1 hsl => ⟨T, locs, by simpa using X, hR, hF, fun fs hf => retN X hcx.1 (t := .boolean) (hcx.2.2.2.2.1.trans hr) (by simp) (hb hcx.2.2.1 hd) hf⟩⟩
theorem QTri.retJ {pc aux : Nat} {L : QLoc} {S : List Value} {σ : QHeap} {x : Int64} (hc : pCode m pc = some (.lreturn, aux)) (hr : pRet m = some .long) : QTri l Z n0 ad m (pc, L, .long x :: S, σ) (some (.long x)) σ :=
 have hd : decode (pBytes m) pc = .ok (.lreturn, 1) := pDecN hc rfl
 ⟨Nat.le_refl _, Nat.le_refl _, fun p e R s mid args below meth c T locs cells slots C hcx X hR hF hL hC hn hc1 hsl => ⟨T, locs, by simpa using X, hR, hF, fun fs hf => retOut X hcx.1 (t := .long) (hcx.2.2.2.2.1.trans hr) rfl (Or.inr (Or.inl ⟨rfl, rfl, _, rfl⟩)) (hb hcx.2.2.1 hd) hf⟩⟩
def LOk (ad : Nat → Addr) (L : QLoc) (C : List Slot) : Prop :=
 L.length = C.length ∧ (∀ k v, lget L k = some v → C[k]? = some (.val (qv ad v))) ∧ (∀ k w, C[k]? = some (.val w) → w.category = 2 → C[k + 1]? = some .second) ∧ ∀ k, C[k]? = some .second → ∃ j w, k = j + 1 ∧ C[j]? = some (.val w) ∧ w.category = 2
theorem LOk.base (ad : Nat → Addr) (n : Nat) : LOk ad (List.replicate n none) (List.replicate n .unset) := by
 refine ⟨by simp, fun k u h => ?_, fun k w h => ?_, fun k h => ?_⟩
 ·rw [lget_eq] at h
  rcases Nat.lt_or_ge k n with q | q
  ·simp [List.getElem?_replicate, q] at h
  ·simp [List.getElem?_eq_none, q] at h
 ·rcases Nat.lt_or_ge k n with q | q
  ·simp [List.getElem?_replicate, q] at h
  ·simp [List.getElem?_eq_none, q] at h
 ·rcases Nat.lt_or_ge k n with q | q
  ·simp [List.getElem?_replicate, q] at h
  ·simp [List.getElem?_eq_none, q] at h
theorem LOk.one {L : QLoc} {C : List Slot} (H : LOk ad L C) {u : Value} (hu : u.category = 1) : LOk ad (some u :: L) (.val (qv ad u) :: C) := by
 obtain ⟨h1, h2, h3, h4⟩ := H
 refine ⟨by simp [h1], fun k w h => ?_, fun k w h hw => ?_, fun k h => ?_⟩
 ·cases k with
  | zero => simp only [lget] at h; cases h; simp
  | succ k => simp only [lget] at h; simpa using h2 k w h
 ·cases k with
  | zero => simp at h; rw [← h, qv_cat, hu] at hw; cases hw
  | succ k => simpa using h3 k w (by simpa using h) hw
 ·cases k with
  | zero => simp at h
  | succ k =>
   obtain ⟨j, w, z1, z2, z3⟩ := h4 k (by simpa using h)
   exact ⟨j + 1, w, by omega, by simpa using z2, z3⟩
theorem LOk.two {L : QLoc} {C : List Slot} (H : LOk ad L C) {u : Value} (hu : u.category = 2) : LOk ad (some u :: none :: L) (.val (qv ad u) :: .second :: C) := by
 obtain ⟨h1, h2, h3, h4⟩ := H
 refine ⟨by simp [h1], fun k w h => ?_, fun k w h hw => ?_, fun k h => ?_⟩
 ·rcases k with _ | _ | k
  ·simp only [lget] at h; cases h; simp
  ·simp [lget] at h
  ·simp only [lget] at h; simpa using h2 k w h
 ·rcases k with _ | _ | k
  ·simp
  ·simp at h
  ·simpa using h3 k w (by simpa using h) hw
 ·rcases k with _ | _ | k
  ·simp at h
  ·exact ⟨0, qv ad u, rfl, by simp, by rw [qv_cat]; exact hu⟩
  ·obtain ⟨j, w, z1, z2, z3⟩ := h4 k (by simpa using h)
   exact ⟨j + 2, w, by omega, by simpa using z2, z3⟩
def slotsOf (u : Value) : List Slot := if u.category = 2 then [.val u, .second] else [.val u]
theorem fold_slots : ∀ (as : List Value) (acc : Array Slot), (as.foldl (fun acc v => if v.category = 2 then (acc.push (.val v)).push .second else acc.push (.val v)) acc).toList = acc.toList ++ as.flatMap slotsOf
 | [], acc => by simp
 | u :: t, acc => by
  rw [List.foldl_cons, fold_slots t]
  by_cases hc : u.category = 2 <;> simp [slotsOf, hc]
theorem slots_len : ∀ (as : List Value), (as.flatMap slotsOf).length = (as.map fun v => v.category).sum
 | [] => rfl
 | u :: t => by
  rw [List.flatMap_cons, List.length_append, slots_len t, List.map_cons, List.sum_cons]
  cases u <;> simp [slotsOf, Value.category]
theorem cats_qv (as : List Value) : ((as.map (qv ad)).map fun v => v.category).sum = (as.map fun v => v.category).sum := by
 rw [List.map_map]
 congr 1
 exact List.map_congr_left fun x _ => qv_cat ad x
theorem entry_list : ∀ (as : List Value) (n : Nat), LOk ad ((as.flatMap fun v => match v with | .long x => [some (.long x), none] | .double x => [some (.double x), none] | v => [some v]) ++ List.replicate n none) ((as.map (qv ad)).flatMap slotsOf ++ List.replicate n .unset)
 | [], n => by simpa using LOk.base ad n
 | u :: t, n => by
  have ih := entry_list t n
  cases u with
  | long x => exact LOk.two ih rfl
  | double x => exact LOk.two ih rfl
  | int x => exact LOk.one ih rfl
  | float x => exact LOk.one ih rfl
  | null => exact LOk.one ih rfl
  | ref x => exact LOk.one ih rfl
  | retAddr x => exact LOk.one ih rfl
theorem qentry_ok (as : List Value) (mx : Nat) (h : (as.map fun v => v.category).sum ≤ mx) : QLocOk ad (qentry as mx) (argsToLocals (as.map (qv ad)).toArray mx) ∧ (argsToLocals (as.map (qv ad)).toArray mx).size = mx := by
 have e : (argsToLocals (as.map (qv ad)).toArray mx).toList = (as.map (qv ad)).flatMap slotsOf ++ List.replicate (mx - (as.map fun v => v.category).sum) .unset := by
  unfold argsToLocals
  have q := fold_slots (as.map (qv ad)) #[]
  simp only [List.foldl_toArray', Array.toList_append, Array.toList_replicate]
  have q2 : ((as.map (qv ad)).foldl (fun (acc : Array Slot) (v : Value) => if v.category = 2 then (acc.push (.val v)).push .second else acc.push (.val v)) #[]).size = (as.map fun v => v.category).sum := by
   rw [← Array.length_toList, q]
   simp only [List.nil_append]
   rw [slots_len, cats_qv]
  rw [q, q2]
  simp
 have H := entry_list (ad := ad) as (mx - (as.map fun v => v.category).sum)
 rw [← e] at H
 obtain ⟨h1, h2, h3, h4⟩ := H
 have hs : (argsToLocals (as.map (qv ad)).toArray mx).size = mx := by
  rw [← Array.length_toList, e, List.length_append, slots_len, cats_qv, List.length_replicate]
  omega
 refine ⟨⟨h1.trans Array.length_toList, fun k u hk => ?_, fun k w hk hw => ?_, fun k hk => ?_⟩, hs⟩
 ·have := h2 k u hk; rwa [Array.getElem?_toList] at this
 ·have := h3 k w (by rw [Array.getElem?_toList]; exact hk) hw; rwa [Array.getElem?_toList] at this
 ·obtain ⟨j, w, z1, z2, z3⟩ := h4 k (by rw [Array.getElem?_toList]; exact hk)
  exact ⟨j, w, z1, by rwa [Array.getElem?_toList] at z2, z3⟩
set_option maxHeartbeats 4000000 in
theorem QTri.met {k : Nat} {as : List Value} {σ σ₁ : QHeap} {w : Option Value} {h0 : Heap} (hk : k < pN) (h : QTri l Z n0 ad k (0, qentry as (pMaxL k), [], σ) w σ₁) (hR : QRep Z n0 ad h0 σ) (hlen : (as.map fun v => v.category).sum ≤ pMaxL k) (hret : pRet k = none → w = none) (ws : List Jvm.Cond) {rm : Room}
  (r1 : pFr k ≤ rm.frames) (r2 : pLo k ≤ rm.locals) (r3 : σ₁.length - σ.length ≤ rm.cells) (r4 : qhs σ₁ - qhs σ ≤ rm.slots) :
  MetFree l (pName k) (head1 (Jvm.Cond.code (pName k) (pBytes k) (pMaxL k) (pRet k) :: ws) rm) (fun a U => a = (as.map (qv ad)).toArray ∧ Z.Warmed39 U.vm ∧ U.heap = h0) (fun _ _ _ _ _ => True)
   (fun _ U o U' => ∃ v L, o = .returned v ∧ (v = w.map (qv ad) ∧ QRep Z n0 ad U'.heap σ₁ ∧ Fr n0 L) ∧ FrameEnd U o U' L (σ₁.length - σ.length) (qhs σ₁ - qhs σ)) := by
 refine MetFree.of_bodySF (plainFor_of_name (kPlain _ (pKlt k hk))) hisR ?_
 intro p e s mid args below meth c s₁ Bd hml0 hP hK
 obtain ⟨rfl, hZ, hh⟩ := hP
 have e0 : s₁.heap = h0 := by rw [← hh, Bd.state]; rfl
 obtain ⟨hl1, hl2⟩ := qentry_ok (ad := ad) as (pMaxL k) hlen
 have hX : Stand p l e rm s mid (as.map (qv ad)).toArray below meth c s₁ [] 0 0 := Stand.of_body Bd
 obtain ⟨T', locs', X', R', F', S'⟩ := h.2.2 p e rm s mid _ below meth c s₁ [] 0 0 _ ⟨Bd.exec, hZ, Bd.bytes, hml0, Bd.returns, findClass_of_methodNamed Bd.named, (name_of_methodNamed Bd.named Bd.method).1, r1, r2⟩ hX (by rw [e0]; exact hR) (Fr.nil _) hl1 (hl2.trans hml0.symm) (by rw [hh, Nat.add_zero]; exact hR.2.1.symm) (by rw [Nat.zero_add]; exact r3) (by rw [Nat.zero_add]; exact r4)
 obtain ⟨fs, hr, hrun, hended, hW, hsame⟩ := X'.leave (v := w.map (qv ad)) (fun q => by rw [hret (Bd.returns.symm.trans q)]; rfl)
 refine ⟨_, _, S' fs hr, hrun, hended, _, _, rfl, ⟨rfl, R', F'⟩, ⟨_, rfl⟩, hW, ?_⟩
 simp only [Nat.zero_add] at hsame
 exact hsame
theorem QTri.room {k : Nat} {σ σ₁ : QHeap} {rest : List Value} {R : Room} (hroom : (Nat.ble (pFr k + 1) (pFr m) && Nat.ble ((rest.map fun v => v.category).sum + (pMaxL k + 11) + pLo k) (pLo m)) = true) (hfr : pFr m ≤ R.frames) (hlo : pLo m ≤ R.locals) :
  pFr k + 1 ≤ R.frames ∧ (rest.map fun v => v.category).sum + (pMaxL k + 11) + pLo k ≤ R.locals := by
 obtain ⟨q1, q2⟩ := Bool.and_eq_true_iff.mp hroom
 exact ⟨Nat.le_trans (Nat.le_of_ble_eq_true q1) hfr, Nat.le_trans (Nat.le_of_ble_eq_true q2) hlo⟩
theorem sig_len {k : Nat} (hk : k < pN) {as : List Value} (hna : as.length = pNA k) : ∀ sig, parseMethodDescriptor (pName k).desc = some sig → (as.map (qv ad)).length = sig.parameters.length := fun sig hs => by
 have q := pSig k hk
 rw [show parseMethodDescriptor (pDs k) = some sig from hs] at q
 simp at q
 simp [hna, q]
theorem ret_map (w : Option Value) (rest : List Value) : (w.toList ++ rest).map (qv ad) = (w.map (qv ad)).toList ++ rest.map (qv ad) := by cases w <;> simp
theorem QTri.after {as0 : List Value} {pc : Nat} {L : QLoc} {S rest : List Value} {σ σ₁ : QHeap} {w : Option Value} {k : Nat} (hcal : QTri l Z n0 ad k (0, qentry as0 (pMaxL k), [], σ) w σ₁) (h : QTri l Z n0 ad m (pc + 3, L, w.toList ++ rest, σ₁) v σ')
  (hs : ∀ (p : Program) (e : Env) (R : Room) (s : State) (mid : MethodId) (args : Array Value) (below : List Frame) (meth : Method) (c : Code) (T : State) (locs : List Loc) (cells slots : Nat) (C : Array Slot),
   QCx Z p R s mid meth c m → Stand p l e R s mid args below meth c T locs cells slots → QRep Z n0 ad T.heap σ → C.size = c.maxLocals → cells + (σ₁.length - σ.length) ≤ R.cells → slots + (qhs σ₁ - qhs σ) ≤ R.slots →
   ∃ T₁ Lc, Stand p l e R s mid args below meth c T₁ (locs ++ Lc) (cells + (σ₁.length - σ.length)) (slots + (qhs σ₁ - qhs σ)) ∧ QRep Z n0 ad T₁.heap σ₁ ∧ Fr n0 Lc ∧
    ∀ target, Steps p.tables e below (T₁.setTop (mkF mid (pc + 3) C ((w.map (qv ad)).toList ++ rest.map (qv ad)))) target → Steps p.tables e below (T.setTop (mkF mid pc C (S.map (qv ad)))) target) :
  QTri l Z n0 ad m (pc, L, S, σ) v σ' := by
 refine QTri.gen h hcal.1 hcal.2.1 fun p e R s mid args below meth c T locs cells slots C hcx X hR hF hL hC hn hc1 hsl => ?_
 obtain ⟨T₁, Lc, X₁, R₁, F₁, st⟩ := hs p e R s mid args below meth c T locs cells slots C hcx X hR hC hc1 hsl
 refine ⟨T₁, locs ++ Lc, C, X₁, R₁, hF.app F₁, hL, hC, fun target q => st target ?_⟩
 rw [← ret_map]
 exact q
set_option maxHeartbeats 4000000 in
theorem QTri.callV (W : QW Z a0) {pc idx k a : Nat} {L : QLoc} {S as rest vs : List Value} {σ σ₁ : QHeap} {w : Option Value} (hc : pCode m pc = some (.invokevirtual idx, k)) (hm : (lkV.contains (pK m, idx, k) && mV.contains k) = true) (hcell : hget σ a = some (.inl vs)) (hS : S = as.reverse ++ .ref a :: rest)
  (hna : as.length = pNA k) (hlen : Nat.ble (((Value.ref a :: as).map fun v => v.category).sum) (pMaxL k) = true) (hroom : (Nat.ble (pFr k + 1) (pFr m) && Nat.ble ((rest.map fun v => v.category).sum + (pMaxL k + 11) + pLo k) (pLo m)) = true) (hrb : (w.isNone || (pRet k).isSome) = true)
  (hcal : QTri l Z n0 ad k (0, qentry (.ref a :: as) (pMaxL k), [], σ) w σ₁) (h : QTri l Z n0 ad m (pc + 3, L, w.toList ++ rest, σ₁) v σ') : QTri l Z n0 ad m (pc, L, S, σ) v σ' := by
 have hd : decode (pBytes m) pc = .ok (.invokevirtual idx, 3) := pDecN hc rfl
 subst hS
 obtain ⟨m1, m2⟩ := Bool.and_eq_true_iff.mp hm
 have m1 := mem_of_contains m1
 have m2 := mem_of_contains m2
 have hkA := (mVlt k m2).1
 have hkN := mAlt k hkA
 have hret : pRet k = none → w = none := fun q => by
  rw [q] at hrb
  cases w with
  | none => rfl
  | some w => simp at hrb
 refine QTri.after hcal h fun p e R s mid args below meth c T locs cells slots C hcx X hR hC hc1 hsl => ?_
 obtain ⟨hx, hZ, hby, hml, hret', hown, hnm, hfr, hlo⟩ := hcx
 have hd2 : decode c.code pc = .ok (.invokevirtual idx, 3) := by rw [hby]; exact hd
 obtain ⟨f1, f2⟩ := QTri.room (σ := σ) (σ₁ := σ₁) hroom hfr hlo
 obtain ⟨cq, kq, q1, q2, q3⟩ := isOf hZ rfl (hR.2.2 _ _ hcell).1
 obtain ⟨w1, w2, w3⟩ := (qw_vi W) k m2
 obtain ⟨c1, c2⟩ := (qw_cod W) k hkA
 obtain ⟨_, _, ⟨T₁, L₁, k₁, n₁⟩, -, X₁, ⟨Lc, ⟨rfl, hR1, hF1⟩, l₁, y₁, z₁⟩, st⟩ := X.virtualBack hx (own := kName (pK m)) (index := idx) (y := pName k) (z := pName k) hown (mvT hZ (qw_ml W (pK m, idx, k) m1)) (mvT hZ w1) (notFace_of_selects (args := #[]) (mvT hZ w2)) (mvT hZ w2) (mvT hZ w3) (pOwn _ (pKlt k hkN))
  (backOf (W := (rest.map fun v => v.category).sum) (rm := ⟨pFr k, σ₁.length - σ.length, qhs σ₁ - qhs σ, pLo k⟩) (Q := fun v h L => v = Option.map (qv ad) w ∧ QRep Z n0 ad h σ₁ ∧ Fr n0 L) (QTri.met hkN hcal hR (Nat.le_of_ble_eq_true hlen) hret [] (Nat.le_refl _) (Nat.le_refl _) (Nat.le_refl _) (Nat.le_refl _)) hZ c1 c2 f1 f2) q1 q3 (g := mkF mid pc C (List.map (qv ad) (as.reverse ++ .ref a :: rest))) rfl hC (Steps.refl _) (argsL := as.map (qv ad)) (rest := rest.map (qv ad)) (sig_len hkN hna) (by simp [qv]) (by show 2 * 0 + _ ≤ _; rw [cats_qv]; omega) hd2 (fun _ _ => ⟨rfl, rfl, hc1, hsl⟩)
 dsimp only [Pt.U, Pt.locs, Pt.cells, Pt.slots] at X₁ l₁ y₁ z₁ st hR1
 subst l₁ y₁ z₁
 exact ⟨T₁, Lc, X₁, hR1, hF1, fun target q => st.trans q⟩
set_option maxHeartbeats 4000000 in
theorem QTri.callI (W : QW Z a0) {pc idx k a : Nat} {L : QLoc} {S as rest : List Value} {σ σ₁ : QHeap} (hc : pCode m pc = some (.invokespecial idx, k)) (hm : (lkV.contains (pK m, idx, k) && mI.contains k) = true) (hS : S = as.reverse ++ .ref a :: rest)
  (hna : as.length = pNA k) (hlen : Nat.ble (((Value.ref a :: as).map fun v => v.category).sum) (pMaxL k) = true) (hroom : (Nat.ble (pFr k + 1) (pFr m) && Nat.ble ((rest.map fun v => v.category).sum + (pMaxL k + 11) + pLo k) (pLo m)) = true)
  (hcal : QTri l Z n0 ad k (0, qentry (.ref a :: as) (pMaxL k), [], σ) none σ₁) (h : QTri l Z n0 ad m (pc + 3, L, rest, σ₁) v σ') : QTri l Z n0 ad m (pc, L, S, σ) v σ' := by
 have hd : decode (pBytes m) pc = .ok (.invokespecial idx, 3) := pDecN hc rfl
 subst hS
 obtain ⟨m1, m2⟩ := Bool.and_eq_true_iff.mp hm
 have m1 := mem_of_contains m1
 have m2 := mem_of_contains m2
 obtain ⟨hkA, -, hin, hrt⟩ := mIlt k m2
 have hkN := mAlt k hkA
 refine QTri.after (w := none) hcal h fun p e R s mid args below meth c T locs cells slots C hcx X hR hC hc1 hsl => ?_
 obtain ⟨hx, hZ, hby, hml, hret', hown, hnm, hfr, hlo⟩ := hcx
 have hd2 : decode c.code pc = .ok (.invokespecial idx, 3) := by rw [hby]; exact hd
 obtain ⟨f1, f2⟩ := QTri.room (σ := σ) (σ₁ := σ₁) hroom hfr hlo
 obtain ⟨c1, c2⟩ := (qw_cod W) k hkA
 have c1' := c1
 rw [hrt] at c1'
 obtain ⟨_, _, ⟨T₁, L₁, k₁, n₁⟩, -, X₁, ⟨Lc, ⟨rfl, hR1, hF1⟩, l₁, y₁, z₁⟩, st⟩ := X.specialBack hx (own := kName (pK m)) (index := idx) (y := pName k) hin hown (mvT hZ (qw_ml W (pK m, idx, k) m1)) (mvT hZ ((qw_ini W) k m2)) (mvT hZ c1') (pOwn _ (pKlt k hkN))
  (backOf (W := (rest.map fun v => v.category).sum) (rm := ⟨pFr k, σ₁.length - σ.length, qhs σ₁ - qhs σ, pLo k⟩) (Q := fun v h L => v = Option.map (qv ad) none ∧ QRep Z n0 ad h σ₁ ∧ Fr n0 L) (QTri.met hkN hcal hR (Nat.le_of_ble_eq_true hlen) (fun _ => rfl) [] (Nat.le_refl _) (Nat.le_refl _) (Nat.le_refl _) (Nat.le_refl _)) hZ c1 c2 f1 f2) (g := mkF mid pc C (List.map (qv ad) (as.reverse ++ .ref a :: rest))) rfl hC (Steps.refl _) (a := ad a) (argsL := as.map (qv ad)) (rest := rest.map (qv ad)) (sig_len hkN hna) (by simp [qv]) (by show 2 * 0 + _ ≤ _; rw [cats_qv]; omega) hd2 (fun _ _ => ⟨rfl, rfl, hc1, hsl⟩)
 dsimp only [Pt.U, Pt.locs, Pt.cells, Pt.slots] at X₁ l₁ y₁ z₁ st hR1
 subst l₁ y₁ z₁
 exact ⟨T₁, Lc, X₁, hR1, hF1, fun target q => st.trans q⟩
set_option maxHeartbeats 4000000 in
theorem QTri.callP (W : QW Z a0) {pc idx k a : Nat} {L : QLoc} {S as rest vs : List Value} {σ σ₁ : QHeap} {w : Option Value} (hc : pCode m pc = some (.invokevirtual idx, k)) (hm : (lkV.contains (pK m, idx, k) && mP.contains k) = true) (hcell : hget σ a = some (.inl vs)) (hS : S = as.reverse ++ .ref a :: rest)
  (hna : as.length = pNA k) (hlen : Nat.ble (((Value.ref a :: as).map fun v => v.category).sum) (pMaxL k) = true) (hroom : (Nat.ble (pFr k + 1) (pFr m) && Nat.ble ((rest.map fun v => v.category).sum + (pMaxL k + 11) + pLo k) (pLo m)) = true) (hrb : (w.isNone || (pRet k).isSome) = true)
  (hcal : QTri l Z n0 ad k (0, qentry (.ref a :: as) (pMaxL k), [], σ) w σ₁) (h : QTri l Z n0 ad m (pc + 3, L, w.toList ++ rest, σ₁) v σ') : QTri l Z n0 ad m (pc, L, S, σ) v σ' := by
 have hd : decode (pBytes m) pc = .ok (.invokevirtual idx, 3) := pDecN hc rfl
 subst hS
 obtain ⟨m1, m2⟩ := Bool.and_eq_true_iff.mp hm
 have m1 := mem_of_contains m1
 have m2 := mem_of_contains m2
 obtain ⟨hkA, hk1⟩ := mPlt k m2
 have hkN := mAlt k hkA
 have hret : pRet k = none → w = none := fun q => by
  rw [q] at hrb
  cases w with
  | none => rfl
  | some w => simp at hrb
 refine QTri.after hcal h fun p e R s mid args below meth c T locs cells slots C hcx X hR hC hc1 hsl => ?_
 obtain ⟨hx, hZ, hby, hml, hret', hown, hnm, hfr, hlo⟩ := hcx
 have hd2 : decode c.code pc = .ok (.invokevirtual idx, 3) := by rw [hby]; exact hd
 obtain ⟨f1, f2⟩ := QTri.room (σ := σ) (σ₁ := σ₁) hroom hfr hlo
 obtain ⟨cell, h1, h2⟩ := (hR.2.2 _ _ hcell).1.cell
 obtain ⟨w1, w2⟩ := (qw_pr W) k m2
 obtain ⟨c1, c2⟩ := (qw_cod W) k hkA
 have hpr : s.PrivateAt (pName k) := Cond.privateMethod_at (mvP hZ w2 (args := #[]))
 obtain ⟨cC, kC, i1, i2, i3, i4⟩ := Cond.instantiable_spec (args := #[]) (mvT hZ (qw_inst W))
 have hsel : (Cond.selects (pName k).cls (pName k) (pName k)).before args s = true := selects_self_of_private (c := cC) (k := kC) (by show s.vm.findClass (kName (pK k)) = _; rw [hk1]; exact i1) i2 (by have q := i4.1; cases hq : kC.isInterface with | false => rfl | true => rw [hq] at q; simp at q) hpr (mvT hZ w1) (pOwn _ (pKlt k hkN))
 obtain ⟨_, _, ⟨T₁, L₁, k₁, n₁⟩, -, X₁, ⟨Lc, ⟨rfl, hR1, hF1⟩, l₁, y₁, z₁⟩, st⟩ := X.privateBack hx (own := kName (pK m)) (index := idx) (y := pName k) hown (mvT hZ (qw_ml W (pK m, idx, k) m1)) (mvT hZ w1) hsel hpr (mvT hZ c1) (pOwn _ (pKlt k hkN))
  (backOf (W := (rest.map fun v => v.category).sum) (rm := ⟨pFr k, σ₁.length - σ.length, qhs σ₁ - qhs σ, pLo k⟩) (Q := fun v h L => v = Option.map (qv ad) w ∧ QRep Z n0 ad h σ₁ ∧ Fr n0 L) (QTri.met hkN hcal hR (Nat.le_of_ble_eq_true hlen) hret [] (Nat.le_refl _) (Nat.le_refl _) (Nat.le_refl _) (Nat.le_refl _)) hZ c1 c2 f1 f2) (g := mkF mid pc C (List.map (qv ad) (as.reverse ++ .ref a :: rest))) rfl hC (Steps.refl _) (a := ad a) h1 h2 (argsL := as.map (qv ad)) (rest := rest.map (qv ad)) (sig_len hkN hna) (by simp [qv]) (by show 2 * 0 + _ ≤ _; rw [cats_qv]; omega) hd2 (fun _ _ => ⟨rfl, rfl, hc1, hsl⟩)
 dsimp only [Pt.U, Pt.locs, Pt.cells, Pt.slots] at X₁ l₁ y₁ z₁ st hR1
 subst l₁ y₁ z₁
 exact ⟨T₁, Lc, X₁, hR1, hF1, fun target q => st.trans q⟩
set_option maxHeartbeats 4000000 in
theorem QTri.callS (W : QW Z a0) {pc idx k : Nat} {L : QLoc} {S as rest : List Value} {σ σ₁ : QHeap} {w : Option Value} (hc : pCode m pc = some (.invokestatic idx, k)) (hm : (lkV.contains (pK m, idx, k) && mS.contains k) = true) (hS : S = as.reverse ++ rest)
  (hna : as.length = pNA k) (hlen : Nat.ble ((as.map fun v => v.category).sum) (pMaxL k) = true) (hroom : (Nat.ble (pFr k + 1) (pFr m) && Nat.ble ((rest.map fun v => v.category).sum + (pMaxL k + 11) + pLo k) (pLo m)) = true) (hrb : (w.isNone || (pRet k).isSome) = true)
  (hcal : QTri l Z n0 ad k (0, qentry as (pMaxL k), [], σ) w σ₁) (h : QTri l Z n0 ad m (pc + 3, L, w.toList ++ rest, σ₁) v σ') : QTri l Z n0 ad m (pc, L, S, σ) v σ' := by
 have hd : decode (pBytes m) pc = .ok (.invokestatic idx, 3) := pDecN hc rfl
 subst hS
 obtain ⟨m1, m2⟩ := Bool.and_eq_true_iff.mp hm
 have m1 := mem_of_contains m1
 have m2 := mem_of_contains m2
 have hkA := mSlt k m2
 have hkN := mAlt k hkA
 have hret : pRet k = none → w = none := fun q => by
  rw [q] at hrb
  cases w with
  | none => rfl
  | some w => simp at hrb
 refine QTri.after hcal h fun p e R s mid args below meth c T locs cells slots C hcx X hR hC hc1 hsl => ?_
 obtain ⟨hx, hZ, hby, hml, hret', hown, hnm, hfr, hlo⟩ := hcx
 have hd2 : decode c.code pc = .ok (.invokestatic idx, 3) := by rw [hby]; exact hd
 obtain ⟨f1, f2⟩ := QTri.room (σ := σ) (σ₁ := σ₁) hroom hfr hlo
 obtain ⟨c1, c2⟩ := (qw_cod W) k hkA
 obtain ⟨_, _, ⟨T₁, L₁, k₁, n₁⟩, -, X₁, ⟨Lc, ⟨rfl, hR1, hF1⟩, l₁, y₁, z₁⟩, st⟩ := Jvm.LawKit.callS X hx (own := kName (pK m)) (index := idx) (y := pName k) hown (mvT hZ (qw_ml W (pK m, idx, k) m1)) (mvT hZ ((qw_st W) k m2)) (mvT hZ c2) (mvT hZ c1) (pOwn _ (pKlt k hkN))
  (backOf (W := (rest.map fun v => v.category).sum) (rm := ⟨pFr k, σ₁.length - σ.length, qhs σ₁ - qhs σ, pLo k⟩) (Q := fun v h L => v = Option.map (qv ad) w ∧ QRep Z n0 ad h σ₁ ∧ Fr n0 L) (QTri.met hkN hcal hR (Nat.le_of_ble_eq_true hlen) hret [] (Nat.le_refl _) (Nat.le_refl _) (Nat.le_refl _) (Nat.le_refl _)) hZ c1 c2 f1 f2) (g := mkF mid pc C (List.map (qv ad) (as.reverse ++ rest))) rfl hC (argsL := as.map (qv ad)) (rest := rest.map (qv ad)) (sig_len hkN hna) (by simp) (by show 2 * 0 + _ ≤ _; rw [cats_qv]; omega) hd2 (fun _ _ => ⟨rfl, rfl, hc1, hsl⟩)
 dsimp only [Pt.U, Pt.locs, Pt.cells, Pt.slots] at X₁ l₁ y₁ z₁ st hR1
 subst l₁ y₁ z₁
 exact ⟨T₁, Lc, X₁, hR1, hF1, fun target q => st target q⟩
set_option maxHeartbeats 4000000 in
theorem QTri.callO (W : QW Z a0) {pc idx k a : Nat} {L : QLoc} {rest : List Value} {σ : QHeap} (hc : pCode m pc = some (.invokespecial idx, k)) (hm : lkO.contains (pK m, idx) = true) (hroom : (Nat.ble 1 (pFr m) && Nat.ble ((rest.map fun v => v.category).sum + 12) (pLo m)) = true)
  (h : QTri l Z n0 ad m (pc + 3, L, rest, σ) v σ') : QTri l Z n0 ad m (pc, L, .ref a :: rest, σ) v σ' :=
 have hd : decode (pBytes m) pc = .ok (.invokespecial idx, 3) := pDecN hc rfl
 QTri.pure h rfl fun p e R s mid args below meth c T locs cells slots C hcx X hR hL hC => by
  obtain ⟨hx, hZ, hby, hml, hret', hown, hnm, hfr, hlo⟩ := hcx
  have hd2 : decode c.code pc = .ok (.invokespecial idx, 3) := by rw [hby]; exact hd
  obtain ⟨q1, q2⟩ := Bool.and_eq_true_iff.mp hroom
  obtain ⟨T₁, X₁, e₁, st⟩ := initO X hx hZ hown (idx := idx) (qw_mo W (pK m, idx) (mem_of_contains hm)) ((qw_oi W)) ((qw_oc W)) rfl (g := mkF mid pc C (List.map (qv ad) (.ref a :: rest))) rfl hC rfl hd2 (Nat.le_trans (Nat.le_of_ble_eq_true q1) hfr) (W := (rest.map fun v => v.category).sum) (by show 2 * 0 + _ ≤ _; rw [cats_qv]; omega) (Nat.le_trans (Nat.le_of_ble_eq_true q2) hlo)
  exact ⟨T₁, C, X₁, e₁, hL, hC, st⟩
theorem QTri.brT (Ad : QAd n0 ad) (W : QW Z a0) {st : QSt} {t f : Nat} {L : QLoc} {S : List Value} {σ : QHeap} {b : Bool} (hs : qstep m st = some (bif b then t else f, L, S, σ)) (hb : b = true) (h : QTri l Z n0 ad m (t, L, S, σ) v σ') : QTri l Z n0 ad m st v σ' := by
 subst hb; exact QTri.step Ad W h hs
theorem QTri.brF (Ad : QAd n0 ad) (W : QW Z a0) {st : QSt} {t f : Nat} {L : QLoc} {S : List Value} {σ : QHeap} {b : Bool} (hs : qstep m st = some (bif b then t else f, L, S, σ)) (hb : b = false) (h : QTri l Z n0 ad m (f, L, S, σ) v σ') : QTri l Z n0 ad m st v σ' := by
 subst hb; exact QTri.step Ad W h hs
theorem QTri.bnd {α : Type} (Ad : QAd n0 ad) (W : QW Z a0) {st : QSt} {x : Option α} {f : α → QSt} {a : α} (hs : qstep m st = x.bind fun v => some (f v)) (hx : x = some a) (h : QTri l Z n0 ad m (f a) v σ') : QTri l Z n0 ad m st v σ' :=
 QTri.step Ad W h (by rw [hs, hx]; rfl)
theorem QTri.bndB (Ad : QAd n0 ad) (W : QW Z a0) {st : QSt} {x y : Int32} {g : Value → QSt} (hs : qstep m st = ((qboo x).bind fun y => some (Value.int y)).bind fun w => some (g w)) (hx : qboo x = some y) (h : QTri l Z n0 ad m (g (.int y)) v σ') : QTri l Z n0 ad m st v σ' :=
 QTri.step Ad W h (by rw [hs, hx]; rfl)
end Triples
theorem qite {α : Type} {c : Prop} [Decidable c] {a b : Option α} {r : α} (h : (if c then a else b) = some r) : (c ∧ a = some r) ∨ (¬ c ∧ b = some r) := by
 by_cases hc : c
 ·exact Or.inl ⟨hc, by rwa [if_pos hc] at h⟩
 ·exact Or.inr ⟨hc, by rwa [if_neg hc] at h⟩
def qN : Nat := 4000
def loopN {V E : Type} (B : V → Option (E ⊕ V)) : Nat → V → Option E
 | 0, _ => none
 | n + 1, v => match B v with
  | none => none
  | some (.inl e) => some e
  | some (.inr v') => loopN B n v'
theorem loopN_tri {V E : Type} {B : V → Option (E ⊕ V)} {T : V → Prop} {KE : E → Prop} (hB : ∀ v r, B v = some r → (∀ e, r = .inl e → KE e) → (∀ v', r = .inr v' → T v') → T v) : ∀ (n : Nat) (v : V) (e : E), loopN B n v = some e → KE e → T v
 | 0, _, _, h, _ => by cases h
 | n + 1, v, e, h, k => by
  simp only [loopN] at h
  split at h
  ·cases h
  ·rename_i e' he
   cases h
   exact hB v _ he (fun e q => by cases q; exact k) (fun v' q => by cases q)
  ·rename_i v' he
   exact hB v _ he (fun e q => by cases q) (fun v'' q => by cases q; exact loopN_tri hB n v' e h k)
theorem loopN_inv {V E : Type} {B : V → Option (E ⊕ V)} (I : V → Prop) (P : E → Prop) (μ : V → Nat) (hB : ∀ v, I v → (∃ e, B v = some (.inl e) ∧ P e) ∨ ∃ v', B v = some (.inr v') ∧ I v' ∧ μ v' < μ v) : ∀ (n : Nat) (v : V), I v → μ v < n → ∃ e, loopN B n v = some e ∧ P e
 | 0, _, _, h => absurd h (Nat.not_lt_zero _)
 | n + 1, v, hv, hm => by
  rcases hB v hv with ⟨e, h1, h2⟩ | ⟨v', h1, h2, h3⟩
  ·exact ⟨e, by simp only [loopN, h1], h2⟩
  ·obtain ⟨e, g1, g2⟩ := loopN_inv I P μ hB n v' h2 (by omega)
   exact ⟨e, by simp only [loopN, h1]; exact g1, g2⟩
theorem qfn {α : Type} {P : α → Prop} : ∀ t ∈ ([] : List α), P t := fun _ h => nomatch h
theorem qfc {α : Type} {P : α → Prop} {a : α} {t : List α} (h : P a) (ht : ∀ x ∈ t, P x) : ∀ x ∈ a :: t, P x := fun x hx => by rcases List.mem_cons.mp hx with rfl | q; exact h; exact ht x q
theorem QW_ok {Z : State} {a0 : Array Value} (hw : ∀ d ∈ tables_1, d.before a0 Z = true) : QW Z a0 := by
  have w0 : ∀ k ∈ List.range nF, bif fFin k then (Jvm.Cond.laysFinal cName cName (fNm k) (fDs k)).before a0 Z = true else (Jvm.Cond.lays cName cName (fNm k) (fDs k)).before a0 Z = true :=
    show ∀ k ∈ [0, 1, 2, 3, 4, 5, 6, 7, 8, 9, 10, 11, 12, 13, 14, 15, 16, 17], bif fFin k then (Jvm.Cond.laysFinal cName cName (fNm k) (fDs k)).before a0 Z = true else (Jvm.Cond.lays cName cName (fNm k) (fDs k)).before a0 Z = true from
    (qfc (hw _ (List.mem_of_getElem? (i := 14) rfl)) (qfc (hw _ (List.mem_of_getElem? (i := 16) rfl)) (qfc (hw _ (List.mem_of_getElem? (i := 18) rfl)) (qfc (hw _ (List.mem_of_getElem? (i := 20) rfl)) (qfc (hw _ (List.mem_of_getElem? (i := 22) rfl)) (qfc (hw _ (List.mem_of_getElem? (i := 24) rfl)) (qfc (hw _ (List.mem_of_getElem? (i := 27) rfl)) (qfc (hw _ (List.mem_of_getElem? (i := 29) rfl)) (qfc (hw _ (List.mem_of_getElem? (i := 31) rfl)) (qfc (hw _ (List.mem_of_getElem? (i := 33) rfl)) (qfc (hw _ (List.mem_of_getElem? (i := 35) rfl)) (qfc (hw _ (List.mem_of_getElem? (i := 37) rfl)) (qfc (hw _ (List.mem_of_getElem? (i := 39) rfl)) (qfc (hw _ (List.mem_of_getElem? (i := 41) rfl)) (qfc (hw _ (List.mem_of_getElem? (i := 43) rfl)) (qfc (hw _ (List.mem_of_getElem? (i := 45) rfl)) (qfc (hw _ (List.mem_of_getElem? (i := 47) rfl)) (qfc (hw _ (List.mem_of_getElem? (i := 49) rfl)) qfn))))))))))))))))))
  refine ⟨?_, ?_, ?_, ?_, ?_, ?_, ?_, ?_, ?_, ?_, ?_, ?_, ?_, (fun k hk => w0 k (List.mem_range.mpr hk)), ?_, ?_, ?_⟩
  · exact (qfc (hw _ (List.mem_of_getElem? (i := 13) rfl)) (qfc (hw _ (List.mem_of_getElem? (i := 15) rfl)) (qfc (hw _ (List.mem_of_getElem? (i := 17) rfl)) (qfc (hw _ (List.mem_of_getElem? (i := 19) rfl)) (qfc (hw _ (List.mem_of_getElem? (i := 21) rfl)) (qfc (hw _ (List.mem_of_getElem? (i := 23) rfl)) (qfc (hw _ (List.mem_of_getElem? (i := 26) rfl)) (qfc (hw _ (List.mem_of_getElem? (i := 28) rfl)) (qfc (hw _ (List.mem_of_getElem? (i := 30) rfl)) (qfc (hw _ (List.mem_of_getElem? (i := 32) rfl)) (qfc (hw _ (List.mem_of_getElem? (i := 34) rfl)) (qfc (hw _ (List.mem_of_getElem? (i := 36) rfl)) (qfc (hw _ (List.mem_of_getElem? (i := 38) rfl)) (qfc (hw _ (List.mem_of_getElem? (i := 40) rfl)) (qfc (hw _ (List.mem_of_getElem? (i := 42) rfl)) (qfc (hw _ (List.mem_of_getElem? (i := 44) rfl)) (qfc (hw _ (List.mem_of_getElem? (i := 46) rfl)) (qfc (hw _ (List.mem_of_getElem? (i := 48) rfl)) qfn))))))))))))))))))
  · exact (qfc (hw _ (List.mem_of_getElem? (i := 4) rfl)) qfn)
  · exact (qfc ⟨_, rfl, (hw _ (List.mem_of_getElem? (i := 215) rfl))⟩ qfn)
  · exact qfn
  · exact (qfc (hw _ (List.mem_of_getElem? (i := 0) rfl)) (qfc (hw _ (List.mem_of_getElem? (i := 7) rfl)) (qfc (hw _ (List.mem_of_getElem? (i := 50) rfl)) (qfc (hw _ (List.mem_of_getElem? (i := 54) rfl)) (qfc (hw _ (List.mem_of_getElem? (i := 58) rfl)) (qfc (hw _ (List.mem_of_getElem? (i := 62) rfl)) (qfc (hw _ (List.mem_of_getElem? (i := 66) rfl)) (qfc (hw _ (List.mem_of_getElem? (i := 70) rfl)) (qfc (hw _ (List.mem_of_getElem? (i := 74) rfl)) (qfc (hw _ (List.mem_of_getElem? (i := 77) rfl)) (qfc (hw _ (List.mem_of_getElem? (i := 80) rfl)) (qfc (hw _ (List.mem_of_getElem? (i := 85) rfl)) (qfc (hw _ (List.mem_of_getElem? (i := 88) rfl)) (qfc (hw _ (List.mem_of_getElem? (i := 93) rfl)) (qfc (hw _ (List.mem_of_getElem? (i := 98) rfl)) (qfc (hw _ (List.mem_of_getElem? (i := 103) rfl)) (qfc (hw _ (List.mem_of_getElem? (i := 107) rfl)) (qfc (hw _ (List.mem_of_getElem? (i := 112) rfl)) (qfc (hw _ (List.mem_of_getElem? (i := 117) rfl)) (qfc (hw _ (List.mem_of_getElem? (i := 121) rfl)) (qfc (hw _ (List.mem_of_getElem? (i := 126) rfl)) (qfc (hw _ (List.mem_of_getElem? (i := 131) rfl)) (qfc (hw _ (List.mem_of_getElem? (i := 136) rfl)) (qfc (hw _ (List.mem_of_getElem? (i := 140) rfl)) (qfc (hw _ (List.mem_of_getElem? (i := 143) rfl)) (qfc (hw _ (List.mem_of_getElem? (i := 148) rfl)) (qfc (hw _ (List.mem_of_getElem? (i := 152) rfl)) (qfc (hw _ (List.mem_of_getElem? (i := 156) rfl)) (qfc (hw _ (List.mem_of_getElem? (i := 160) rfl)) (qfc (hw _ (List.mem_of_getElem? (i := 164) rfl)) (qfc (hw _ (List.mem_of_getElem? (i := 167) rfl)) (qfc (hw _ (List.mem_of_getElem? (i := 170) rfl)) (qfc (hw _ (List.mem_of_getElem? (i := 175) rfl)) (qfc (hw _ (List.mem_of_getElem? (i := 179) rfl)) (qfc (hw _ (List.mem_of_getElem? (i := 183) rfl)) (qfc (hw _ (List.mem_of_getElem? (i := 187) rfl)) (qfc (hw _ (List.mem_of_getElem? (i := 191) rfl)) (qfc (hw _ (List.mem_of_getElem? (i := 195) rfl)) (qfc (hw _ (List.mem_of_getElem? (i := 199) rfl)) (qfc (hw _ (List.mem_of_getElem? (i := 203) rfl)) (qfc (hw _ (List.mem_of_getElem? (i := 207) rfl)) (qfc (hw _ (List.mem_of_getElem? (i := 211) rfl)) (qfc (hw _ (List.mem_of_getElem? (i := 216) rfl)) qfn)))))))))))))))))))))))))))))))))))))))))))
  · exact (qfc (hw _ (List.mem_of_getElem? (i := 10) rfl)) qfn)
  · exact (qfc ⟨(hw _ (List.mem_of_getElem? (i := 81) rfl)), (hw _ (List.mem_of_getElem? (i := 83) rfl)), (hw _ (List.mem_of_getElem? (i := 82) rfl))⟩ (qfc ⟨(hw _ (List.mem_of_getElem? (i := 89) rfl)), (hw _ (List.mem_of_getElem? (i := 91) rfl)), (hw _ (List.mem_of_getElem? (i := 90) rfl))⟩ (qfc ⟨(hw _ (List.mem_of_getElem? (i := 94) rfl)), (hw _ (List.mem_of_getElem? (i := 96) rfl)), (hw _ (List.mem_of_getElem? (i := 95) rfl))⟩ (qfc ⟨(hw _ (List.mem_of_getElem? (i := 99) rfl)), (hw _ (List.mem_of_getElem? (i := 101) rfl)), (hw _ (List.mem_of_getElem? (i := 100) rfl))⟩ (qfc ⟨(hw _ (List.mem_of_getElem? (i := 108) rfl)), (hw _ (List.mem_of_getElem? (i := 110) rfl)), (hw _ (List.mem_of_getElem? (i := 109) rfl))⟩ (qfc ⟨(hw _ (List.mem_of_getElem? (i := 113) rfl)), (hw _ (List.mem_of_getElem? (i := 115) rfl)), (hw _ (List.mem_of_getElem? (i := 114) rfl))⟩ (qfc ⟨(hw _ (List.mem_of_getElem? (i := 122) rfl)), (hw _ (List.mem_of_getElem? (i := 124) rfl)), (hw _ (List.mem_of_getElem? (i := 123) rfl))⟩ (qfc ⟨(hw _ (List.mem_of_getElem? (i := 127) rfl)), (hw _ (List.mem_of_getElem? (i := 129) rfl)), (hw _ (List.mem_of_getElem? (i := 128) rfl))⟩ (qfc ⟨(hw _ (List.mem_of_getElem? (i := 132) rfl)), (hw _ (List.mem_of_getElem? (i := 134) rfl)), (hw _ (List.mem_of_getElem? (i := 133) rfl))⟩ (qfc ⟨(hw _ (List.mem_of_getElem? (i := 144) rfl)), (hw _ (List.mem_of_getElem? (i := 146) rfl)), (hw _ (List.mem_of_getElem? (i := 145) rfl))⟩ (qfc ⟨(hw _ (List.mem_of_getElem? (i := 171) rfl)), (hw _ (List.mem_of_getElem? (i := 173) rfl)), (hw _ (List.mem_of_getElem? (i := 172) rfl))⟩ (qfc ⟨(hw _ (List.mem_of_getElem? (i := 217) rfl)), (hw _ (List.mem_of_getElem? (i := 219) rfl)), (hw _ (List.mem_of_getElem? (i := 218) rfl))⟩ qfn))))))))))))
  · exact (qfc ⟨(hw _ (List.mem_of_getElem? (i := 51) rfl)), (hw _ (List.mem_of_getElem? (i := 52) rfl))⟩ (qfc ⟨(hw _ (List.mem_of_getElem? (i := 55) rfl)), (hw _ (List.mem_of_getElem? (i := 56) rfl))⟩ (qfc ⟨(hw _ (List.mem_of_getElem? (i := 59) rfl)), (hw _ (List.mem_of_getElem? (i := 60) rfl))⟩ (qfc ⟨(hw _ (List.mem_of_getElem? (i := 63) rfl)), (hw _ (List.mem_of_getElem? (i := 64) rfl))⟩ (qfc ⟨(hw _ (List.mem_of_getElem? (i := 67) rfl)), (hw _ (List.mem_of_getElem? (i := 68) rfl))⟩ (qfc ⟨(hw _ (List.mem_of_getElem? (i := 71) rfl)), (hw _ (List.mem_of_getElem? (i := 72) rfl))⟩ (qfc ⟨(hw _ (List.mem_of_getElem? (i := 104) rfl)), (hw _ (List.mem_of_getElem? (i := 105) rfl))⟩ (qfc ⟨(hw _ (List.mem_of_getElem? (i := 118) rfl)), (hw _ (List.mem_of_getElem? (i := 119) rfl))⟩ (qfc ⟨(hw _ (List.mem_of_getElem? (i := 137) rfl)), (hw _ (List.mem_of_getElem? (i := 138) rfl))⟩ (qfc ⟨(hw _ (List.mem_of_getElem? (i := 149) rfl)), (hw _ (List.mem_of_getElem? (i := 150) rfl))⟩ (qfc ⟨(hw _ (List.mem_of_getElem? (i := 153) rfl)), (hw _ (List.mem_of_getElem? (i := 154) rfl))⟩ (qfc ⟨(hw _ (List.mem_of_getElem? (i := 157) rfl)), (hw _ (List.mem_of_getElem? (i := 158) rfl))⟩ (qfc ⟨(hw _ (List.mem_of_getElem? (i := 161) rfl)), (hw _ (List.mem_of_getElem? (i := 162) rfl))⟩ (qfc ⟨(hw _ (List.mem_of_getElem? (i := 176) rfl)), (hw _ (List.mem_of_getElem? (i := 177) rfl))⟩ (qfc ⟨(hw _ (List.mem_of_getElem? (i := 180) rfl)), (hw _ (List.mem_of_getElem? (i := 181) rfl))⟩ (qfc ⟨(hw _ (List.mem_of_getElem? (i := 184) rfl)), (hw _ (List.mem_of_getElem? (i := 185) rfl))⟩ (qfc ⟨(hw _ (List.mem_of_getElem? (i := 188) rfl)), (hw _ (List.mem_of_getElem? (i := 189) rfl))⟩ (qfc ⟨(hw _ (List.mem_of_getElem? (i := 192) rfl)), (hw _ (List.mem_of_getElem? (i := 193) rfl))⟩ (qfc ⟨(hw _ (List.mem_of_getElem? (i := 196) rfl)), (hw _ (List.mem_of_getElem? (i := 197) rfl))⟩ (qfc ⟨(hw _ (List.mem_of_getElem? (i := 200) rfl)), (hw _ (List.mem_of_getElem? (i := 201) rfl))⟩ (qfc ⟨(hw _ (List.mem_of_getElem? (i := 204) rfl)), (hw _ (List.mem_of_getElem? (i := 205) rfl))⟩ (qfc ⟨(hw _ (List.mem_of_getElem? (i := 208) rfl)), (hw _ (List.mem_of_getElem? (i := 209) rfl))⟩ (qfc ⟨(hw _ (List.mem_of_getElem? (i := 212) rfl)), (hw _ (List.mem_of_getElem? (i := 213) rfl))⟩ qfn)))))))))))))))))))))))
  · exact (qfc (hw _ (List.mem_of_getElem? (i := 1) rfl)) (qfc (hw _ (List.mem_of_getElem? (i := 75) rfl)) (qfc (hw _ (List.mem_of_getElem? (i := 78) rfl)) (qfc (hw _ (List.mem_of_getElem? (i := 86) rfl)) (qfc (hw _ (List.mem_of_getElem? (i := 141) rfl)) (qfc (hw _ (List.mem_of_getElem? (i := 165) rfl)) (qfc (hw _ (List.mem_of_getElem? (i := 168) rfl)) qfn)))))))
  · exact (qfc (hw _ (List.mem_of_getElem? (i := 8) rfl)) qfn)
  · exact (qfc ⟨(hw _ (List.mem_of_getElem? (i := 3) rfl)), (hw _ (List.mem_of_getElem? (i := 2) rfl))⟩ (qfc ⟨(hw _ (List.mem_of_getElem? (i := 9) rfl)), (hw _ (List.mem_of_getElem? (i := 6) rfl))⟩ (qfc ⟨(hw _ (List.mem_of_getElem? (i := 53) rfl)), (hw _ (List.mem_of_getElem? (i := 6) rfl))⟩ (qfc ⟨(hw _ (List.mem_of_getElem? (i := 57) rfl)), (hw _ (List.mem_of_getElem? (i := 6) rfl))⟩ (qfc ⟨(hw _ (List.mem_of_getElem? (i := 61) rfl)), (hw _ (List.mem_of_getElem? (i := 6) rfl))⟩ (qfc ⟨(hw _ (List.mem_of_getElem? (i := 65) rfl)), (hw _ (List.mem_of_getElem? (i := 6) rfl))⟩ (qfc ⟨(hw _ (List.mem_of_getElem? (i := 69) rfl)), (hw _ (List.mem_of_getElem? (i := 6) rfl))⟩ (qfc ⟨(hw _ (List.mem_of_getElem? (i := 73) rfl)), (hw _ (List.mem_of_getElem? (i := 6) rfl))⟩ (qfc ⟨(hw _ (List.mem_of_getElem? (i := 76) rfl)), (hw _ (List.mem_of_getElem? (i := 2) rfl))⟩ (qfc ⟨(hw _ (List.mem_of_getElem? (i := 79) rfl)), (hw _ (List.mem_of_getElem? (i := 2) rfl))⟩ (qfc ⟨(hw _ (List.mem_of_getElem? (i := 84) rfl)), (hw _ (List.mem_of_getElem? (i := 6) rfl))⟩ (qfc ⟨(hw _ (List.mem_of_getElem? (i := 87) rfl)), (hw _ (List.mem_of_getElem? (i := 2) rfl))⟩ (qfc ⟨(hw _ (List.mem_of_getElem? (i := 92) rfl)), (hw _ (List.mem_of_getElem? (i := 6) rfl))⟩ (qfc ⟨(hw _ (List.mem_of_getElem? (i := 97) rfl)), (hw _ (List.mem_of_getElem? (i := 6) rfl))⟩ (qfc ⟨(hw _ (List.mem_of_getElem? (i := 102) rfl)), (hw _ (List.mem_of_getElem? (i := 6) rfl))⟩ (qfc ⟨(hw _ (List.mem_of_getElem? (i := 106) rfl)), (hw _ (List.mem_of_getElem? (i := 6) rfl))⟩ (qfc ⟨(hw _ (List.mem_of_getElem? (i := 111) rfl)), (hw _ (List.mem_of_getElem? (i := 6) rfl))⟩ (qfc ⟨(hw _ (List.mem_of_getElem? (i := 116) rfl)), (hw _ (List.mem_of_getElem? (i := 6) rfl))⟩ (qfc ⟨(hw _ (List.mem_of_getElem? (i := 120) rfl)), (hw _ (List.mem_of_getElem? (i := 6) rfl))⟩ (qfc ⟨(hw _ (List.mem_of_getElem? (i := 125) rfl)), (hw _ (List.mem_of_getElem? (i := 6) rfl))⟩ (qfc ⟨(hw _ (List.mem_of_getElem? (i := 130) rfl)), (hw _ (List.mem_of_getElem? (i := 6) rfl))⟩ (qfc ⟨(hw _ (List.mem_of_getElem? (i := 135) rfl)), (hw _ (List.mem_of_getElem? (i := 6) rfl))⟩ (qfc ⟨(hw _ (List.mem_of_getElem? (i := 139) rfl)), (hw _ (List.mem_of_getElem? (i := 6) rfl))⟩ (qfc ⟨(hw _ (List.mem_of_getElem? (i := 142) rfl)), (hw _ (List.mem_of_getElem? (i := 2) rfl))⟩ (qfc ⟨(hw _ (List.mem_of_getElem? (i := 147) rfl)), (hw _ (List.mem_of_getElem? (i := 6) rfl))⟩ (qfc ⟨(hw _ (List.mem_of_getElem? (i := 151) rfl)), (hw _ (List.mem_of_getElem? (i := 6) rfl))⟩ (qfc ⟨(hw _ (List.mem_of_getElem? (i := 155) rfl)), (hw _ (List.mem_of_getElem? (i := 6) rfl))⟩ (qfc ⟨(hw _ (List.mem_of_getElem? (i := 159) rfl)), (hw _ (List.mem_of_getElem? (i := 6) rfl))⟩ (qfc ⟨(hw _ (List.mem_of_getElem? (i := 163) rfl)), (hw _ (List.mem_of_getElem? (i := 6) rfl))⟩ (qfc ⟨(hw _ (List.mem_of_getElem? (i := 166) rfl)), (hw _ (List.mem_of_getElem? (i := 2) rfl))⟩ (qfc ⟨(hw _ (List.mem_of_getElem? (i := 169) rfl)), (hw _ (List.mem_of_getElem? (i := 2) rfl))⟩ (qfc ⟨(hw _ (List.mem_of_getElem? (i := 174) rfl)), (hw _ (List.mem_of_getElem? (i := 6) rfl))⟩ (qfc ⟨(hw _ (List.mem_of_getElem? (i := 178) rfl)), (hw _ (List.mem_of_getElem? (i := 6) rfl))⟩ (qfc ⟨(hw _ (List.mem_of_getElem? (i := 182) rfl)), (hw _ (List.mem_of_getElem? (i := 6) rfl))⟩ (qfc ⟨(hw _ (List.mem_of_getElem? (i := 186) rfl)), (hw _ (List.mem_of_getElem? (i := 6) rfl))⟩ (qfc ⟨(hw _ (List.mem_of_getElem? (i := 190) rfl)), (hw _ (List.mem_of_getElem? (i := 6) rfl))⟩ (qfc ⟨(hw _ (List.mem_of_getElem? (i := 194) rfl)), (hw _ (List.mem_of_getElem? (i := 6) rfl))⟩ (qfc ⟨(hw _ (List.mem_of_getElem? (i := 198) rfl)), (hw _ (List.mem_of_getElem? (i := 6) rfl))⟩ (qfc ⟨(hw _ (List.mem_of_getElem? (i := 202) rfl)), (hw _ (List.mem_of_getElem? (i := 6) rfl))⟩ (qfc ⟨(hw _ (List.mem_of_getElem? (i := 206) rfl)), (hw _ (List.mem_of_getElem? (i := 6) rfl))⟩ (qfc ⟨(hw _ (List.mem_of_getElem? (i := 210) rfl)), (hw _ (List.mem_of_getElem? (i := 6) rfl))⟩ (qfc ⟨(hw _ (List.mem_of_getElem? (i := 214) rfl)), (hw _ (List.mem_of_getElem? (i := 6) rfl))⟩ (qfc ⟨(hw _ (List.mem_of_getElem? (i := 220) rfl)), (hw _ (List.mem_of_getElem? (i := 6) rfl))⟩ qfn)))))))))))))))))))))))))))))))))))))))))))
  · exact (hw _ (List.mem_of_getElem? (i := 11) rfl))
  · exact (hw _ (List.mem_of_getElem? (i := 12) rfl))
  · exact (hw _ (List.mem_of_getElem? (i := 5) rfl))
  · exact (hw _ (List.mem_of_getElem? (i := 6) rfl))
  · exact (qfc (hw _ (List.mem_of_getElem? (i := 25) rfl)) qfn)
abbrev Ob := Int32 × Int32 × Int32 × Int32 × Int32 × Int32 × List Int32 × List Int32 × List Int32 × List Int32 × List Int32 × List Int32 × List Int32 × List Int32 × List Int32 × Int32 × Int32 × Int32
def f_regTuple (o : Ob) : Int32 := o.1
def f_regA (o : Ob) : Int32 := o.2.1
def f_regB (o : Ob) : Int32 := o.2.2.1
def f_regC (o : Ob) : Int32 := o.2.2.2.1
def f_regCount (o : Ob) : Int32 := o.2.2.2.2.1
def f_slots (o : Ob) : Int32 := o.2.2.2.2.2.1
def f_range (o : Ob) : List Int32 := o.2.2.2.2.2.2.1
def f_slide (o : Ob) : List Int32 := o.2.2.2.2.2.2.2.1
def f_frontSize (o : Ob) : List Int32 := o.2.2.2.2.2.2.2.2.1
def f_backSize (o : Ob) : List Int32 := o.2.2.2.2.2.2.2.2.2.1
def f_backElem (o : Ob) : List Int32 := o.2.2.2.2.2.2.2.2.2.2.1
def f_frontAgg (o : Ob) : List Int32 := o.2.2.2.2.2.2.2.2.2.2.2.1
def f_backAgg (o : Ob) : List Int32 := o.2.2.2.2.2.2.2.2.2.2.2.2.1
def f_snap (o : Ob) : List Int32 := o.2.2.2.2.2.2.2.2.2.2.2.2.2.1
def f_reg (o : Ob) : List Int32 := o.2.2.2.2.2.2.2.2.2.2.2.2.2.2.1
def f_capacity (o : Ob) : Int32 := o.2.2.2.2.2.2.2.2.2.2.2.2.2.2.2.1
def f_queries (o : Ob) : Int32 := o.2.2.2.2.2.2.2.2.2.2.2.2.2.2.2.2.1
def f_n (o : Ob) : Int32 := o.2.2.2.2.2.2.2.2.2.2.2.2.2.2.2.2.2
def s_regTuple (o : Ob) (v : Int32) : Ob := (v, o.2.1, o.2.2.1, o.2.2.2.1, o.2.2.2.2.1, o.2.2.2.2.2.1, o.2.2.2.2.2.2.1, o.2.2.2.2.2.2.2.1, o.2.2.2.2.2.2.2.2.1, o.2.2.2.2.2.2.2.2.2.1, o.2.2.2.2.2.2.2.2.2.2.1, o.2.2.2.2.2.2.2.2.2.2.2.1, o.2.2.2.2.2.2.2.2.2.2.2.2.1, o.2.2.2.2.2.2.2.2.2.2.2.2.2.1, o.2.2.2.2.2.2.2.2.2.2.2.2.2.2.1, o.2.2.2.2.2.2.2.2.2.2.2.2.2.2.2.1, o.2.2.2.2.2.2.2.2.2.2.2.2.2.2.2.2.1, o.2.2.2.2.2.2.2.2.2.2.2.2.2.2.2.2.2)
def s_regA (o : Ob) (v : Int32) : Ob := (o.1, v, o.2.2.1, o.2.2.2.1, o.2.2.2.2.1, o.2.2.2.2.2.1, o.2.2.2.2.2.2.1, o.2.2.2.2.2.2.2.1, o.2.2.2.2.2.2.2.2.1, o.2.2.2.2.2.2.2.2.2.1, o.2.2.2.2.2.2.2.2.2.2.1, o.2.2.2.2.2.2.2.2.2.2.2.1, o.2.2.2.2.2.2.2.2.2.2.2.2.1, o.2.2.2.2.2.2.2.2.2.2.2.2.2.1, o.2.2.2.2.2.2.2.2.2.2.2.2.2.2.1, o.2.2.2.2.2.2.2.2.2.2.2.2.2.2.2.1, o.2.2.2.2.2.2.2.2.2.2.2.2.2.2.2.2.1, o.2.2.2.2.2.2.2.2.2.2.2.2.2.2.2.2.2)
def s_regB (o : Ob) (v : Int32) : Ob := (o.1, o.2.1, v, o.2.2.2.1, o.2.2.2.2.1, o.2.2.2.2.2.1, o.2.2.2.2.2.2.1, o.2.2.2.2.2.2.2.1, o.2.2.2.2.2.2.2.2.1, o.2.2.2.2.2.2.2.2.2.1, o.2.2.2.2.2.2.2.2.2.2.1, o.2.2.2.2.2.2.2.2.2.2.2.1, o.2.2.2.2.2.2.2.2.2.2.2.2.1, o.2.2.2.2.2.2.2.2.2.2.2.2.2.1, o.2.2.2.2.2.2.2.2.2.2.2.2.2.2.1, o.2.2.2.2.2.2.2.2.2.2.2.2.2.2.2.1, o.2.2.2.2.2.2.2.2.2.2.2.2.2.2.2.2.1, o.2.2.2.2.2.2.2.2.2.2.2.2.2.2.2.2.2)
def s_regC (o : Ob) (v : Int32) : Ob := (o.1, o.2.1, o.2.2.1, v, o.2.2.2.2.1, o.2.2.2.2.2.1, o.2.2.2.2.2.2.1, o.2.2.2.2.2.2.2.1, o.2.2.2.2.2.2.2.2.1, o.2.2.2.2.2.2.2.2.2.1, o.2.2.2.2.2.2.2.2.2.2.1, o.2.2.2.2.2.2.2.2.2.2.2.1, o.2.2.2.2.2.2.2.2.2.2.2.2.1, o.2.2.2.2.2.2.2.2.2.2.2.2.2.1, o.2.2.2.2.2.2.2.2.2.2.2.2.2.2.1, o.2.2.2.2.2.2.2.2.2.2.2.2.2.2.2.1, o.2.2.2.2.2.2.2.2.2.2.2.2.2.2.2.2.1, o.2.2.2.2.2.2.2.2.2.2.2.2.2.2.2.2.2)
def s_regCount (o : Ob) (v : Int32) : Ob := (o.1, o.2.1, o.2.2.1, o.2.2.2.1, v, o.2.2.2.2.2.1, o.2.2.2.2.2.2.1, o.2.2.2.2.2.2.2.1, o.2.2.2.2.2.2.2.2.1, o.2.2.2.2.2.2.2.2.2.1, o.2.2.2.2.2.2.2.2.2.2.1, o.2.2.2.2.2.2.2.2.2.2.2.1, o.2.2.2.2.2.2.2.2.2.2.2.2.1, o.2.2.2.2.2.2.2.2.2.2.2.2.2.1, o.2.2.2.2.2.2.2.2.2.2.2.2.2.2.1, o.2.2.2.2.2.2.2.2.2.2.2.2.2.2.2.1, o.2.2.2.2.2.2.2.2.2.2.2.2.2.2.2.2.1, o.2.2.2.2.2.2.2.2.2.2.2.2.2.2.2.2.2)
def s_slots (o : Ob) (v : Int32) : Ob := (o.1, o.2.1, o.2.2.1, o.2.2.2.1, o.2.2.2.2.1, v, o.2.2.2.2.2.2.1, o.2.2.2.2.2.2.2.1, o.2.2.2.2.2.2.2.2.1, o.2.2.2.2.2.2.2.2.2.1, o.2.2.2.2.2.2.2.2.2.2.1, o.2.2.2.2.2.2.2.2.2.2.2.1, o.2.2.2.2.2.2.2.2.2.2.2.2.1, o.2.2.2.2.2.2.2.2.2.2.2.2.2.1, o.2.2.2.2.2.2.2.2.2.2.2.2.2.2.1, o.2.2.2.2.2.2.2.2.2.2.2.2.2.2.2.1, o.2.2.2.2.2.2.2.2.2.2.2.2.2.2.2.2.1, o.2.2.2.2.2.2.2.2.2.2.2.2.2.2.2.2.2)
def s_range (o : Ob) (v : List Int32) : Ob := (o.1, o.2.1, o.2.2.1, o.2.2.2.1, o.2.2.2.2.1, o.2.2.2.2.2.1, v, o.2.2.2.2.2.2.2.1, o.2.2.2.2.2.2.2.2.1, o.2.2.2.2.2.2.2.2.2.1, o.2.2.2.2.2.2.2.2.2.2.1, o.2.2.2.2.2.2.2.2.2.2.2.1, o.2.2.2.2.2.2.2.2.2.2.2.2.1, o.2.2.2.2.2.2.2.2.2.2.2.2.2.1, o.2.2.2.2.2.2.2.2.2.2.2.2.2.2.1, o.2.2.2.2.2.2.2.2.2.2.2.2.2.2.2.1, o.2.2.2.2.2.2.2.2.2.2.2.2.2.2.2.2.1, o.2.2.2.2.2.2.2.2.2.2.2.2.2.2.2.2.2)
def s_slide (o : Ob) (v : List Int32) : Ob := (o.1, o.2.1, o.2.2.1, o.2.2.2.1, o.2.2.2.2.1, o.2.2.2.2.2.1, o.2.2.2.2.2.2.1, v, o.2.2.2.2.2.2.2.2.1, o.2.2.2.2.2.2.2.2.2.1, o.2.2.2.2.2.2.2.2.2.2.1, o.2.2.2.2.2.2.2.2.2.2.2.1, o.2.2.2.2.2.2.2.2.2.2.2.2.1, o.2.2.2.2.2.2.2.2.2.2.2.2.2.1, o.2.2.2.2.2.2.2.2.2.2.2.2.2.2.1, o.2.2.2.2.2.2.2.2.2.2.2.2.2.2.2.1, o.2.2.2.2.2.2.2.2.2.2.2.2.2.2.2.2.1, o.2.2.2.2.2.2.2.2.2.2.2.2.2.2.2.2.2)
def s_frontSize (o : Ob) (v : List Int32) : Ob := (o.1, o.2.1, o.2.2.1, o.2.2.2.1, o.2.2.2.2.1, o.2.2.2.2.2.1, o.2.2.2.2.2.2.1, o.2.2.2.2.2.2.2.1, v, o.2.2.2.2.2.2.2.2.2.1, o.2.2.2.2.2.2.2.2.2.2.1, o.2.2.2.2.2.2.2.2.2.2.2.1, o.2.2.2.2.2.2.2.2.2.2.2.2.1, o.2.2.2.2.2.2.2.2.2.2.2.2.2.1, o.2.2.2.2.2.2.2.2.2.2.2.2.2.2.1, o.2.2.2.2.2.2.2.2.2.2.2.2.2.2.2.1, o.2.2.2.2.2.2.2.2.2.2.2.2.2.2.2.2.1, o.2.2.2.2.2.2.2.2.2.2.2.2.2.2.2.2.2)
def s_backSize (o : Ob) (v : List Int32) : Ob := (o.1, o.2.1, o.2.2.1, o.2.2.2.1, o.2.2.2.2.1, o.2.2.2.2.2.1, o.2.2.2.2.2.2.1, o.2.2.2.2.2.2.2.1, o.2.2.2.2.2.2.2.2.1, v, o.2.2.2.2.2.2.2.2.2.2.1, o.2.2.2.2.2.2.2.2.2.2.2.1, o.2.2.2.2.2.2.2.2.2.2.2.2.1, o.2.2.2.2.2.2.2.2.2.2.2.2.2.1, o.2.2.2.2.2.2.2.2.2.2.2.2.2.2.1, o.2.2.2.2.2.2.2.2.2.2.2.2.2.2.2.1, o.2.2.2.2.2.2.2.2.2.2.2.2.2.2.2.2.1, o.2.2.2.2.2.2.2.2.2.2.2.2.2.2.2.2.2)
def s_backElem (o : Ob) (v : List Int32) : Ob := (o.1, o.2.1, o.2.2.1, o.2.2.2.1, o.2.2.2.2.1, o.2.2.2.2.2.1, o.2.2.2.2.2.2.1, o.2.2.2.2.2.2.2.1, o.2.2.2.2.2.2.2.2.1, o.2.2.2.2.2.2.2.2.2.1, v, o.2.2.2.2.2.2.2.2.2.2.2.1, o.2.2.2.2.2.2.2.2.2.2.2.2.1, o.2.2.2.2.2.2.2.2.2.2.2.2.2.1, o.2.2.2.2.2.2.2.2.2.2.2.2.2.2.1, o.2.2.2.2.2.2.2.2.2.2.2.2.2.2.2.1, o.2.2.2.2.2.2.2.2.2.2.2.2.2.2.2.2.1, o.2.2.2.2.2.2.2.2.2.2.2.2.2.2.2.2.2)
def s_frontAgg (o : Ob) (v : List Int32) : Ob := (o.1, o.2.1, o.2.2.1, o.2.2.2.1, o.2.2.2.2.1, o.2.2.2.2.2.1, o.2.2.2.2.2.2.1, o.2.2.2.2.2.2.2.1, o.2.2.2.2.2.2.2.2.1, o.2.2.2.2.2.2.2.2.2.1, o.2.2.2.2.2.2.2.2.2.2.1, v, o.2.2.2.2.2.2.2.2.2.2.2.2.1, o.2.2.2.2.2.2.2.2.2.2.2.2.2.1, o.2.2.2.2.2.2.2.2.2.2.2.2.2.2.1, o.2.2.2.2.2.2.2.2.2.2.2.2.2.2.2.1, o.2.2.2.2.2.2.2.2.2.2.2.2.2.2.2.2.1, o.2.2.2.2.2.2.2.2.2.2.2.2.2.2.2.2.2)
def s_backAgg (o : Ob) (v : List Int32) : Ob := (o.1, o.2.1, o.2.2.1, o.2.2.2.1, o.2.2.2.2.1, o.2.2.2.2.2.1, o.2.2.2.2.2.2.1, o.2.2.2.2.2.2.2.1, o.2.2.2.2.2.2.2.2.1, o.2.2.2.2.2.2.2.2.2.1, o.2.2.2.2.2.2.2.2.2.2.1, o.2.2.2.2.2.2.2.2.2.2.2.1, v, o.2.2.2.2.2.2.2.2.2.2.2.2.2.1, o.2.2.2.2.2.2.2.2.2.2.2.2.2.2.1, o.2.2.2.2.2.2.2.2.2.2.2.2.2.2.2.1, o.2.2.2.2.2.2.2.2.2.2.2.2.2.2.2.2.1, o.2.2.2.2.2.2.2.2.2.2.2.2.2.2.2.2.2)
def s_snap (o : Ob) (v : List Int32) : Ob := (o.1, o.2.1, o.2.2.1, o.2.2.2.1, o.2.2.2.2.1, o.2.2.2.2.2.1, o.2.2.2.2.2.2.1, o.2.2.2.2.2.2.2.1, o.2.2.2.2.2.2.2.2.1, o.2.2.2.2.2.2.2.2.2.1, o.2.2.2.2.2.2.2.2.2.2.1, o.2.2.2.2.2.2.2.2.2.2.2.1, o.2.2.2.2.2.2.2.2.2.2.2.2.1, v, o.2.2.2.2.2.2.2.2.2.2.2.2.2.2.1, o.2.2.2.2.2.2.2.2.2.2.2.2.2.2.2.1, o.2.2.2.2.2.2.2.2.2.2.2.2.2.2.2.2.1, o.2.2.2.2.2.2.2.2.2.2.2.2.2.2.2.2.2)
def s_reg (o : Ob) (v : List Int32) : Ob := (o.1, o.2.1, o.2.2.1, o.2.2.2.1, o.2.2.2.2.1, o.2.2.2.2.2.1, o.2.2.2.2.2.2.1, o.2.2.2.2.2.2.2.1, o.2.2.2.2.2.2.2.2.1, o.2.2.2.2.2.2.2.2.2.1, o.2.2.2.2.2.2.2.2.2.2.1, o.2.2.2.2.2.2.2.2.2.2.2.1, o.2.2.2.2.2.2.2.2.2.2.2.2.1, o.2.2.2.2.2.2.2.2.2.2.2.2.2.1, v, o.2.2.2.2.2.2.2.2.2.2.2.2.2.2.2.1, o.2.2.2.2.2.2.2.2.2.2.2.2.2.2.2.2.1, o.2.2.2.2.2.2.2.2.2.2.2.2.2.2.2.2.2)
def s_capacity (o : Ob) (v : Int32) : Ob := (o.1, o.2.1, o.2.2.1, o.2.2.2.1, o.2.2.2.2.1, o.2.2.2.2.2.1, o.2.2.2.2.2.2.1, o.2.2.2.2.2.2.2.1, o.2.2.2.2.2.2.2.2.1, o.2.2.2.2.2.2.2.2.2.1, o.2.2.2.2.2.2.2.2.2.2.1, o.2.2.2.2.2.2.2.2.2.2.2.1, o.2.2.2.2.2.2.2.2.2.2.2.2.1, o.2.2.2.2.2.2.2.2.2.2.2.2.2.1, o.2.2.2.2.2.2.2.2.2.2.2.2.2.2.1, v, o.2.2.2.2.2.2.2.2.2.2.2.2.2.2.2.2.1, o.2.2.2.2.2.2.2.2.2.2.2.2.2.2.2.2.2)
def s_queries (o : Ob) (v : Int32) : Ob := (o.1, o.2.1, o.2.2.1, o.2.2.2.1, o.2.2.2.2.1, o.2.2.2.2.2.1, o.2.2.2.2.2.2.1, o.2.2.2.2.2.2.2.1, o.2.2.2.2.2.2.2.2.1, o.2.2.2.2.2.2.2.2.2.1, o.2.2.2.2.2.2.2.2.2.2.1, o.2.2.2.2.2.2.2.2.2.2.2.1, o.2.2.2.2.2.2.2.2.2.2.2.2.1, o.2.2.2.2.2.2.2.2.2.2.2.2.2.1, o.2.2.2.2.2.2.2.2.2.2.2.2.2.2.1, o.2.2.2.2.2.2.2.2.2.2.2.2.2.2.2.1, v, o.2.2.2.2.2.2.2.2.2.2.2.2.2.2.2.2.2)
def s_n (o : Ob) (v : Int32) : Ob := (o.1, o.2.1, o.2.2.1, o.2.2.2.1, o.2.2.2.2.1, o.2.2.2.2.2.1, o.2.2.2.2.2.2.1, o.2.2.2.2.2.2.2.1, o.2.2.2.2.2.2.2.2.1, o.2.2.2.2.2.2.2.2.2.1, o.2.2.2.2.2.2.2.2.2.2.1, o.2.2.2.2.2.2.2.2.2.2.2.1, o.2.2.2.2.2.2.2.2.2.2.2.2.1, o.2.2.2.2.2.2.2.2.2.2.2.2.2.1, o.2.2.2.2.2.2.2.2.2.2.2.2.2.2.1, o.2.2.2.2.2.2.2.2.2.2.2.2.2.2.2.1, o.2.2.2.2.2.2.2.2.2.2.2.2.2.2.2.2.1, v)
theorem fs (o : Ob) : f_regTuple o = o.1 ∧ f_regA o = o.2.1 ∧ f_regB o = o.2.2.1 ∧ f_regC o = o.2.2.2.1 ∧ f_regCount o = o.2.2.2.2.1 ∧ f_slots o = o.2.2.2.2.2.1 ∧ f_range o = o.2.2.2.2.2.2.1 ∧ f_slide o = o.2.2.2.2.2.2.2.1 ∧ f_frontSize o = o.2.2.2.2.2.2.2.2.1 ∧ f_backSize o = o.2.2.2.2.2.2.2.2.2.1 ∧ f_backElem o = o.2.2.2.2.2.2.2.2.2.2.1 ∧ f_frontAgg o = o.2.2.2.2.2.2.2.2.2.2.2.1 ∧ f_backAgg o = o.2.2.2.2.2.2.2.2.2.2.2.2.1 ∧ f_snap o = o.2.2.2.2.2.2.2.2.2.2.2.2.2.1 ∧ f_reg o = o.2.2.2.2.2.2.2.2.2.2.2.2.2.2.1 ∧ f_capacity o = o.2.2.2.2.2.2.2.2.2.2.2.2.2.2.2.1 ∧ f_queries o = o.2.2.2.2.2.2.2.2.2.2.2.2.2.2.2.2.1 ∧ f_n o = o.2.2.2.2.2.2.2.2.2.2.2.2.2.2.2.2.2 := by simp only [f_regTuple, f_regA, f_regB, f_regC, f_regCount, f_slots, f_range, f_slide, f_frontSize, f_backSize, f_backElem, f_frontAgg, f_backAgg, f_snap, f_reg, f_capacity, f_queries, f_n, and_self]
def ob0 : Ob := (0, 0, 0, 0, 0, 0, [], [], [], [], [], [], [], [], [], 0, 0, 0)
section Walks
variable {l : Launch} {Z : State} {n0 : Nat} {ad : Nat → Addr} {a0 : Array Value}
set_option maxRecDepth 20000
set_option maxHeartbeats 2000000
abbrev tt : Bool := true
abbrev ff : Bool := false
open QTri renaming steps → zS, brT → zT, brF → zF, bnd → zB, mask → zM
open Option (bind_eq_some_iff)
open Classical (em)
/-- cell([II)I -/
def F1 (s : List Int32) (x1 : Int32) : Option (Int32) :=
 (if x1 < (s.length.toInt32) then (aget s x1).bind fun y2 => some y2 else some (0:Int32))
theorem tF1 (Ad : QAd n0 ad) (W : QW Z a0) (s : List Int32) (x1 : Int32) {r : Int32} (h : F1 s x1 = some r) : QTri l Z n0 ad 1 (0, qentry [.ref 0, .int x1] (pMaxL 1), [], [.inr (.inl (.int, s))]) (some (Value.int r)) [.inr (.inl (.int, s))] := by
 unfold F1 at h
 refine zS Ad W 3 (st' := (3, [vR 0, vI x1], [.int (s.length.toInt32), .int x1], [.inr (.inl (.int, s))])) rfl ?_
 rcases qite h with ⟨hc1, h⟩ | ⟨hc1, h⟩
 ·refine zF Ad W (t := 12) (f := 6) rfl (XT.ii_ge_f hc1) ?_
  refine zS Ad W 2 (st' := (8, [vR 0, vI x1], [.int x1, .ref 0], [.inr (.inl (.int, s))])) rfl ?_
  obtain ⟨y2, hy2, h⟩ := bind_eq_some_iff.mp h
  refine zB Ad W (f := fun y2 => (9, [vR 0, vI x1], [.int y2], [.inr (.inl (.int, s))])) rfl hy2 ?_
  refine zS Ad W 1 (st' := (13, [vR 0, vI x1], [.int y2], [.inr (.inl (.int, s))])) rfl ?_
  obtain rfl := Option.some.inj h
  exact QTri.retI rfl rfl
 ·refine zT Ad W (t := 12) (f := 6) rfl (XT.ii_ge_t hc1) ?_
  refine zS Ad W 1 (st' := (13, [vR 0, vI x1], [.int (0:Int32)], [.inr (.inl (.int, s))])) rfl ?_
  obtain rfl := Option.some.inj h
  exact QTri.retI rfl rfl
def H0 (s : List Int32) (o0 : Ob) : QHeap := [.inr (.inl (.int, s)), .inl [.int (f_regTuple o0), .int (f_regA o0), .int (f_regB o0), .int (f_regC o0), .int (f_regCount o0), .int (f_slots o0), .ref 2, .ref 3, .ref 4, .ref 5, .ref 6, .ref 7, .ref 8, .ref 9, .ref 10, .int (f_capacity o0), .int (f_queries o0), .int (f_n o0)], .inr (.inl (.int, (f_range o0))), .inr (.inl (.int, (f_slide o0))), .inr (.inl (.int, (f_frontSize o0))), .inr (.inl (.int, (f_backSize o0))), .inr (.inl (.int, (f_backElem o0))), .inr (.inl (.int, (f_frontAgg o0))), .inr (.inl (.int, (f_backAgg o0))), .inr (.inl (.int, (f_snap o0))), .inr (.inl (.int, (f_reg o0)))]
def H0v (s : List Int32) (a0_0 : Int32) (a0_1 : Int32) (a0_2 : Int32) (a0_3 : Int32) (a0_4 : Int32) (a0_5 : Int32) (a0_6 : List Int32) (a0_7 : List Int32) (a0_8 : List Int32) (a0_9 : List Int32) (a0_10 : List Int32) (a0_11 : List Int32) (a0_12 : List Int32) (a0_13 : List Int32) (a0_14 : List Int32) (a0_15 : Int32) (a0_16 : Int32) (a0_17 : Int32) : QHeap := [.inr (.inl (.int, s)), .inl [.int a0_0, .int a0_1, .int a0_2, .int a0_3, .int a0_4, .int a0_5, .ref 2, .ref 3, .ref 4, .ref 5, .ref 6, .ref 7, .ref 8, .ref 9, .ref 10, .int a0_15, .int a0_16, .int a0_17], .inr (.inl (.int, a0_6)), .inr (.inl (.int, a0_7)), .inr (.inl (.int, a0_8)), .inr (.inl (.int, a0_9)), .inr (.inl (.int, a0_10)), .inr (.inl (.int, a0_11)), .inr (.inl (.int, a0_12)), .inr (.inl (.int, a0_13)), .inr (.inl (.int, a0_14))]
def H0x0 (s : List Int32) (o0 : Ob) (a0_0 : Int32) (a0_1 : Int32) (a0_2 : Int32) (a0_3 : Int32) (a0_4 : Int32) (a0_5 : Int32) (a0_6 : List Int32) (a0_7 : List Int32) (a0_8 : List Int32) (a0_9 : List Int32) (a0_10 : List Int32) (a0_11 : List Int32) (a0_12 : List Int32) (a0_13 : List Int32) (a0_14 : List Int32) : QHeap := H0v s a0_0 a0_1 a0_2 a0_3 a0_4 a0_5 a0_6 a0_7 a0_8 a0_9 a0_10 a0_11 a0_12 a0_13 a0_14 (f_capacity o0) (f_queries o0) (f_n o0)
def H0x1 (s : List Int32) (o0 : Ob) (a0_0 : Int32) (a0_1 : Int32) (a0_2 : Int32) (a0_3 : Int32) (a0_4 : Int32) (a0_5 : Int32) (a0_6 : List Int32) (a0_7 : List Int32) (a0_8 : List Int32) (a0_9 : List Int32) (a0_10 : List Int32) (a0_11 : List Int32) (a0_12 : List Int32) (a0_13 : List Int32) (a0_14 : List Int32) (a0_15 : Int32) : QHeap := H0v s a0_0 a0_1 a0_2 a0_3 a0_4 a0_5 a0_6 a0_7 a0_8 a0_9 a0_10 a0_11 a0_12 a0_13 a0_14 a0_15 (f_queries o0) (f_n o0)
def H0x2 (s : List Int32) (o0 : Ob) (a0_0 : Int32) (a0_1 : Int32) (a0_2 : Int32) (a0_3 : Int32) (a0_4 : Int32) (a0_5 : Int32) (a0_6 : List Int32) (a0_7 : List Int32) (a0_8 : List Int32) (a0_9 : List Int32) (a0_10 : List Int32) (a0_11 : List Int32) (a0_12 : List Int32) (a0_13 : List Int32) (a0_14 : List Int32) (a0_15 : Int32) (a0_16 : Int32) : QHeap := H0v s a0_0 a0_1 a0_2 a0_3 a0_4 a0_5 a0_6 a0_7 a0_8 a0_9 a0_10 a0_11 a0_12 a0_13 a0_14 a0_15 a0_16 (f_n o0)
def H0x3 (s : List Int32) (o0 : Ob) (a0_0 : Int32) (a0_1 : Int32) (a0_2 : Int32) (a0_3 : Int32) (a0_4 : Int32) (a0_5 : Int32) (a0_6 : List Int32) (a0_7 : List Int32) (a0_8 : List Int32) (a0_9 : List Int32) (a0_10 : List Int32) (a0_11 : List Int32) (a0_12 : List Int32) (a0_13 : List Int32) (a0_14 : List Int32) (a0_15 : Int32) (a0_16 : Int32) (a0_17 : Int32) : QHeap := H0v s a0_0 a0_1 a0_2 a0_3 a0_4 a0_5 a0_6 a0_7 a0_8 a0_9 a0_10 a0_11 a0_12 a0_13 a0_14 a0_15 a0_16 a0_17
def H0x4 (s : List Int32) (o0 : Ob) (a0_8 : List Int32) : QHeap := H0v s (f_regTuple o0) (f_regA o0) (f_regB o0) (f_regC o0) (f_regCount o0) (f_slots o0) (f_range o0) (f_slide o0) a0_8 (f_backSize o0) (f_backElem o0) (f_frontAgg o0) (f_backAgg o0) (f_snap o0) (f_reg o0) (f_capacity o0) (f_queries o0) (f_n o0)
def H0x5 (s : List Int32) (o0 : Ob) (a0_8 : List Int32) (a0_9 : List Int32) : QHeap := H0v s (f_regTuple o0) (f_regA o0) (f_regB o0) (f_regC o0) (f_regCount o0) (f_slots o0) (f_range o0) (f_slide o0) a0_8 a0_9 (f_backElem o0) (f_frontAgg o0) (f_backAgg o0) (f_snap o0) (f_reg o0) (f_capacity o0) (f_queries o0) (f_n o0)
/-- validReg(I)Z -/
def F6 (x1 : Int32) : Option (Int32) :=
 (if x1 < (0:Int32) then some (0:Int32) else (if x1 < (4:Int32) then some (1:Int32) else some (0:Int32)))
theorem tF6 (Ad : QAd n0 ad) (W : QW Z a0) {a : Nat} {σ : QHeap} (x1 : Int32) {r : Int32} (h : F6 x1 = some r) : QTri l Z n0 ad 6 (0, qentry [.ref a, .int x1] (pMaxL 6), [], σ) (some (Value.int r)) σ := by
 unfold F6 at h
 refine zS Ad W 1 (st' := (1, [vR a, vI x1], [.int x1], σ)) rfl ?_
 rcases qite h with ⟨hc17, h⟩ | ⟨hc17, h⟩
 ·refine zT Ad W (t := 13) (f := 4) rfl (XT.i0_lt_t hc17) ?_
  refine zS Ad W 1 (st' := (14, [vR a, vI x1], [.int (0:Int32)], σ)) rfl ?_
  obtain rfl := Option.some.inj h
  exact QTri.retZ rfl rfl
 ·refine zF Ad W (t := 13) (f := 4) rfl (XT.i0_lt_f hc17) ?_
  refine zS Ad W 2 (st' := (6, [vR a, vI x1], [.int (4:Int32), .int x1], σ)) rfl ?_
  rcases qite h with ⟨hc18, h⟩ | ⟨hc18, h⟩
  ·refine zF Ad W (t := 13) (f := 9) rfl (XT.ii_ge_f hc18) ?_
   refine zS Ad W 2 (st' := (14, [vR a, vI x1], [.int (1:Int32)], σ)) rfl ?_
   obtain rfl := Option.some.inj h
   exact QTri.retZ rfl rfl
  ·refine zT Ad W (t := 13) (f := 9) rfl (XT.ii_ge_t hc18) ?_
   refine zS Ad W 1 (st' := (14, [vR a, vI x1], [.int (0:Int32)], σ)) rfl ?_
   obtain rfl := Option.some.inj h
   exact QTri.retZ rfl rfl
def H0x6 (s : List Int32) (o0 : Ob) (a0_14 : List Int32) : QHeap := H0v s (f_regTuple o0) (f_regA o0) (f_regB o0) (f_regC o0) (f_regCount o0) (f_slots o0) (f_range o0) (f_slide o0) (f_frontSize o0) (f_backSize o0) (f_backElem o0) (f_frontAgg o0) (f_backAgg o0) (f_snap o0) a0_14 (f_capacity o0) (f_queries o0) (f_n o0)
/-- regSet(IIIII)V -/
def F5 (o : Ob) (x1 : Int32) (x2 : Int32) (x3 : Int32) (x4 : Int32) (x5 : Int32) : Option (Ob) :=
 (F6 x1).bind fun r19 => (if r19 = (0:Int32) then some o else (aset (f_reg o) (x1 * (4:Int32)) x2).bind fun y21 => (aset y21 ((x1 * (4:Int32)) + (1:Int32)) x3).bind fun y22 => (aset y22 ((x1 * (4:Int32)) + (2:Int32)) x4).bind fun y23 => (aset y23 ((x1 * (4:Int32)) + (3:Int32)) x5).bind fun y24 => some (s_reg o y24))
theorem tF5 (Ad : QAd n0 ad) (W : QW Z a0) (s : List Int32) (o : Ob) (x1 : Int32) (x2 : Int32) (x3 : Int32) (x4 : Int32) (x5 : Int32) {r : Ob} (h : F5 o x1 x2 x3 x4 x5 = some r) : QTri l Z n0 ad 5 (0, qentry [.ref 1, .int x1, .int x2, .int x3, .int x4, .int x5] (pMaxL 5), [], (H0 s o)) (none : Option Value) (H0 s r) := by
 unfold F5 at h
 refine zS Ad W 2 (st' := (2, [vR 1, vI x1, vI x2, vI x3, vI x4, vI x5, none], [.int x1, .ref 1], (H0 s o))) rfl ?_
 obtain ⟨r19, hr19, h⟩ := bind_eq_some_iff.mp h
 refine QTri.callP W (a := 1) (as := [.int x1]) (rest := []) (w := (some (.int r19))) (σ₁ := (H0 s o)) rfl rfl rfl rfl rfl rfl rfl rfl (tF6 Ad W x1 hr19) ?_
 rcases qite h with ⟨hc20, h⟩ | ⟨hc20, h⟩
 ·refine zF Ad W (t := 9) (f := 8) rfl (XT.i0_ne_f hc20) ?_
  obtain rfl := Option.some.inj h
  exact QTri.ret0 rfl rfl
 ·refine zT Ad W (t := 9) (f := 8) rfl (XT.i0_ne_t hc20) ?_
  refine zS Ad W 8 (st' := (21, [vR 1, vI x1, vI x2, vI x3, vI x4, vI x5, vI (x1 * (4:Int32))], [.int x2, .int (x1 * (4:Int32)), .ref 10], (H0 s o))) rfl ?_
  obtain ⟨y21, hy21, h⟩ := bind_eq_some_iff.mp h
  refine zB Ad W (f := fun y21 => (22, [vR 1, vI x1, vI x2, vI x3, vI x4, vI x5, vI (x1 * (4:Int32))], [], (H0x6 s o y21))) rfl hy21 ?_
  refine zS Ad W 6 (st' := (31, [vR 1, vI x1, vI x2, vI x3, vI x4, vI x5, vI (x1 * (4:Int32))], [.int x3, .int ((x1 * (4:Int32)) + (1:Int32)), .ref 10], (H0x6 s o y21))) rfl ?_
  obtain ⟨y22, hy22, h⟩ := bind_eq_some_iff.mp h
  refine zB Ad W (f := fun y22 => (32, [vR 1, vI x1, vI x2, vI x3, vI x4, vI x5, vI (x1 * (4:Int32))], [], (H0x6 s o y22))) rfl hy22 ?_
  refine zS Ad W 6 (st' := (42, [vR 1, vI x1, vI x2, vI x3, vI x4, vI x5, vI (x1 * (4:Int32))], [.int x4, .int ((x1 * (4:Int32)) + (2:Int32)), .ref 10], (H0x6 s o y22))) rfl ?_
  obtain ⟨y23, hy23, h⟩ := bind_eq_some_iff.mp h
  refine zB Ad W (f := fun y23 => (43, [vR 1, vI x1, vI x2, vI x3, vI x4, vI x5, vI (x1 * (4:Int32))], [], (H0x6 s o y23))) rfl hy23 ?_
  refine zS Ad W 6 (st' := (53, [vR 1, vI x1, vI x2, vI x3, vI x4, vI x5, vI (x1 * (4:Int32))], [.int x5, .int ((x1 * (4:Int32)) + (3:Int32)), .ref 10], (H0x6 s o y23))) rfl ?_
  obtain ⟨y24, hy24, h⟩ := bind_eq_some_iff.mp h
  refine zB Ad W (f := fun y24 => (54, [vR 1, vI x1, vI x2, vI x3, vI x4, vI x5, vI (x1 * (4:Int32))], [], (H0x6 s o y24))) rfl hy24 ?_
  have E25 : ((H0x6 s o y24) : QHeap) = (H0 s (s_reg o y24)) := by simp only [fs, H0, H0v, H0x6, s_reg]
  rw [E25]
  obtain rfl := Option.some.inj h
  exact QTri.ret0 rfl rfl
/-- regIdentity(I)V -/
def F4 (o : Ob) (x1 : Int32) : Option (Ob) :=
 (F5 o x1 (1:Int32) (0:Int32) (0:Int32) (1:Int32)).bind fun r26 => some r26
theorem tF4 (Ad : QAd n0 ad) (W : QW Z a0) (s : List Int32) (o : Ob) (x1 : Int32) {r : Ob} (h : F4 o x1 = some r) : QTri l Z n0 ad 4 (0, qentry [.ref 1, .int x1] (pMaxL 4), [], (H0 s o)) (none : Option Value) (H0 s r) := by
 unfold F4 at h
 refine zS Ad W 6 (st' := (6, [vR 1, vI x1], [.int (1:Int32), .int (0:Int32), .int (0:Int32), .int (1:Int32), .int x1, .ref 1], (H0 s o))) rfl ?_
 obtain ⟨r26, hr26, h⟩ := bind_eq_some_iff.mp h
 refine QTri.callP W (a := 1) (as := [.int x1, .int (1:Int32), .int (0:Int32), .int (0:Int32), .int (1:Int32)]) (rest := []) (w := none) (σ₁ := (H0 s r26)) rfl rfl rfl rfl rfl rfl rfl rfl (tF5 Ad W s o x1 (1:Int32) (0:Int32) (0:Int32) (1:Int32) hr26) ?_
 obtain rfl := Option.some.inj h
 exact QTri.ret0 rfl rfl
def H0x7 (s : List Int32) (o0 : Ob) (a0_12 : List Int32) : QHeap := H0v s (f_regTuple o0) (f_regA o0) (f_regB o0) (f_regC o0) (f_regCount o0) (f_slots o0) (f_range o0) (f_slide o0) (f_frontSize o0) (f_backSize o0) (f_backElem o0) (f_frontAgg o0) a0_12 (f_snap o0) (f_reg o0) (f_capacity o0) (f_queries o0) (f_n o0)
def B7_25 (x1 : Int32) (x3 : Int32) (v : Int32 × Ob) : Option (((Ob)) ⊕ (Int32 × Ob)) :=
  (if v.1 < (4 : Int32) then (aget (f_reg v.2) (x3 + v.1)).bind fun y33 => (aset (f_backAgg v.2) ((x1 * (4 : Int32)) + v.1) y33).bind fun y34 => some (.inr ((v.1 + (1 : Int32)), (s_backAgg v.2 y34))) else some (.inl v.2))
theorem tB7_25 (Ad : QAd n0 ad) (W : QW Z a0) (s : List Int32) (x1 : Int32) (x3 : Int32) (v : Int32 × Ob) {r : ((Ob)) ⊕ (Int32 × Ob)} {u : Option Value} {τ : QHeap} (h : B7_25 x1 x3 v = some r) (hx0 : ∀ x : Ob, r = .inl x → u = (none : Option Value) ∧ τ = (H0 s x)) (hc : ∀ x : Int32 × Ob, r = .inr x → QTri l Z n0 ad 7 (25, [vR 1, vI x1, none, vI x3, vI x.1], [], (H0 s x.2)) u τ) : QTri l Z n0 ad 7 (25, [vR 1, vI x1, none, vI x3, vI v.1], [], (H0 s v.2)) u τ := by
 unfold B7_25 at h
 refine zS Ad W 2 (st' := (28, [vR 1, vI x1, none, vI x3, vI v.1], [.int (4:Int32), .int v.1], (H0 s v.2))) rfl ?_
 rcases qite h with ⟨hc32, h⟩ | ⟨hc32, h⟩
 ·refine zF Ad W (t := 57) (f := 31) rfl (XT.ii_ge_f hc32) ?_
  refine zS Ad W 12 (st' := (49, [vR 1, vI x1, none, vI x3, vI v.1], [.int (x3 + v.1), .ref 10, .int ((x1 * (4:Int32)) + v.1), .ref 8], (H0 s v.2))) rfl ?_
  obtain ⟨y33, hy33, h⟩ := bind_eq_some_iff.mp h
  refine zB Ad W (f := fun y33 => (50, [vR 1, vI x1, none, vI x3, vI v.1], [.int y33, .int ((x1 * (4:Int32)) + v.1), .ref 8], (H0 s v.2))) rfl hy33 ?_
  obtain ⟨y34, hy34, h⟩ := bind_eq_some_iff.mp h
  refine zB Ad W (f := fun y34 => (51, [vR 1, vI x1, none, vI x3, vI v.1], [], (H0x7 s v.2 y34))) rfl hy34 ?_
  refine zS Ad W 2 (st' := (25, [vR 1, vI x1, none, vI x3, vI (v.1 + (1:Int32))], [], (H0x7 s v.2 y34))) rfl ?_
  have E35 : ((H0x7 s v.2 y34) : QHeap) = (H0 s (s_backAgg v.2 y34)) := by simp only [fs, H0, H0v, H0x7, s_backAgg]
  rw [E35]
  obtain rfl := Option.some.inj h
  exact zM [tt,tt,ff,tt,tt] (hc ((v.1 + (1:Int32)), (s_backAgg v.2 y34)) rfl)
 ·refine zT Ad W (t := 57) (f := 31) rfl (XT.ii_ge_t hc32) ?_
  obtain rfl := Option.some.inj h
  obtain ⟨rfl, rfl⟩ := hx0 v.2 rfl
  exact QTri.ret0 rfl rfl
/-- storeBackAgg(II)V -/
def F7 (o : Ob) (x1 : Int32) (x2 : Int32) : Option (Ob) :=
 (F6 x2).bind fun r28 => (if r28 = (0:Int32) then some o else (if x1 < (0:Int32) then some o else (if x1 < (4:Int32) then (loopN (B7_25 x1 (x2 * (4:Int32))) qN ((0:Int32), o)).bind fun e36 => some e36 else some o)))
theorem tF7 (Ad : QAd n0 ad) (W : QW Z a0) (s : List Int32) (o : Ob) (x1 : Int32) (x2 : Int32) {r : Ob} (h : F7 o x1 x2 = some r) : QTri l Z n0 ad 7 (0, qentry [.ref 1, .int x1, .int x2] (pMaxL 7), [], (H0 s o)) (none : Option Value) (H0 s r) := by
 unfold F7 at h
 refine zS Ad W 2 (st' := (2, [vR 1, vI x1, vI x2, none, none], [.int x2, .ref 1], (H0 s o))) rfl ?_
 obtain ⟨r28, hr28, h⟩ := bind_eq_some_iff.mp h
 refine QTri.callP W (a := 1) (as := [.int x2]) (rest := []) (w := (some (.int r28))) (σ₁ := (H0 s o)) rfl rfl rfl rfl rfl rfl rfl rfl (tF6 Ad W x2 hr28) ?_
 rcases qite h with ⟨hc29, h⟩ | ⟨hc29, h⟩
 ·refine zT Ad W (t := 17) (f := 8) rfl (XT.i0_eq_t hc29) ?_
  obtain rfl := Option.some.inj h
  exact QTri.ret0 rfl rfl
 ·refine zF Ad W (t := 17) (f := 8) rfl (XT.i0_eq_f hc29) ?_
  refine zS Ad W 1 (st' := (9, [vR 1, vI x1, vI x2, none, none], [.int x1], (H0 s o))) rfl ?_
  rcases qite h with ⟨hc30, h⟩ | ⟨hc30, h⟩
  ·refine zT Ad W (t := 17) (f := 12) rfl (XT.i0_lt_t hc30) ?_
   obtain rfl := Option.some.inj h
   exact QTri.ret0 rfl rfl
  ·refine zF Ad W (t := 17) (f := 12) rfl (XT.i0_lt_f hc30) ?_
   refine zS Ad W 2 (st' := (14, [vR 1, vI x1, vI x2, none, none], [.int (4:Int32), .int x1], (H0 s o))) rfl ?_
   rcases qite h with ⟨hc31, h⟩ | ⟨hc31, h⟩
   ·refine zT Ad W (t := 18) (f := 17) rfl (XT.ii_lt_t hc31) ?_
    refine zS Ad W 6 (st' := (25, [vR 1, vI x1, vI x2, vI (x2 * (4:Int32)), vI (0:Int32)], [], (H0 s o))) rfl ?_
    obtain ⟨e36, he36, h⟩ := bind_eq_some_iff.mp h
    refine zM [tt,tt,ff,tt,tt] (loopN_tri (B := B7_25 x1 (x2 * (4:Int32))) (T := fun lv37 => QTri l Z n0 ad 7 (25, [vR 1, vI x1, none, vI (x2 * (4:Int32)), vI lv37.1], [], (H0 s lv37.2)) (none : Option Value) (H0 s r)) (KE := fun e36a => (none : Option Value) = (none : Option Value) ∧ (H0 s r) = (H0 s e36a)) (fun lv37 r hB hE hC => tB7_25 Ad W s x1 (x2 * (4:Int32)) lv37 hB (fun x q => hE _ q) (fun x q => hC x q)) qN ((0:Int32), o) e36 he36 ?_)
    obtain rfl := Option.some.inj h
    exact ⟨rfl, rfl⟩
   ·refine zF Ad W (t := 18) (f := 17) rfl (XT.ii_lt_f hc31) ?_
    obtain rfl := Option.some.inj h
    exact QTri.ret0 rfl rfl
def H0x8 (s : List Int32) (o0 : Ob) (a0_13 : List Int32) : QHeap := H0v s (f_regTuple o0) (f_regA o0) (f_regB o0) (f_regC o0) (f_regCount o0) (f_slots o0) (f_range o0) (f_slide o0) (f_frontSize o0) (f_backSize o0) (f_backElem o0) (f_frontAgg o0) (f_backAgg o0) a0_13 (f_reg o0) (f_capacity o0) (f_queries o0) (f_n o0)
def B8_25 (x1 : Int32) (x3 : Int32) (v : Int32 × Ob) : Option (((Ob)) ⊕ (Int32 × Ob)) :=
  (if v.1 < (4 : Int32) then (aget (f_reg v.2) (x3 + v.1)).bind fun y44 => (aset (f_snap v.2) ((x1 * (4 : Int32)) + v.1) y44).bind fun y45 => some (.inr ((v.1 + (1 : Int32)), (s_snap v.2 y45))) else some (.inl v.2))
theorem tB8_25 (Ad : QAd n0 ad) (W : QW Z a0) (s : List Int32) (x1 : Int32) (x3 : Int32) (v : Int32 × Ob) {r : ((Ob)) ⊕ (Int32 × Ob)} {u : Option Value} {τ : QHeap} (h : B8_25 x1 x3 v = some r) (hx0 : ∀ x : Ob, r = .inl x → u = (none : Option Value) ∧ τ = (H0 s x)) (hc : ∀ x : Int32 × Ob, r = .inr x → QTri l Z n0 ad 8 (25, [vR 1, vI x1, none, vI x3, vI x.1], [], (H0 s x.2)) u τ) : QTri l Z n0 ad 8 (25, [vR 1, vI x1, none, vI x3, vI v.1], [], (H0 s v.2)) u τ := by
 unfold B8_25 at h
 refine zS Ad W 2 (st' := (28, [vR 1, vI x1, none, vI x3, vI v.1], [.int (4:Int32), .int v.1], (H0 s v.2))) rfl ?_
 rcases qite h with ⟨hc43, h⟩ | ⟨hc43, h⟩
 ·refine zF Ad W (t := 57) (f := 31) rfl (XT.ii_ge_f hc43) ?_
  refine zS Ad W 12 (st' := (49, [vR 1, vI x1, none, vI x3, vI v.1], [.int (x3 + v.1), .ref 10, .int ((x1 * (4:Int32)) + v.1), .ref 9], (H0 s v.2))) rfl ?_
  obtain ⟨y44, hy44, h⟩ := bind_eq_some_iff.mp h
  refine zB Ad W (f := fun y44 => (50, [vR 1, vI x1, none, vI x3, vI v.1], [.int y44, .int ((x1 * (4:Int32)) + v.1), .ref 9], (H0 s v.2))) rfl hy44 ?_
  obtain ⟨y45, hy45, h⟩ := bind_eq_some_iff.mp h
  refine zB Ad W (f := fun y45 => (51, [vR 1, vI x1, none, vI x3, vI v.1], [], (H0x8 s v.2 y45))) rfl hy45 ?_
  refine zS Ad W 2 (st' := (25, [vR 1, vI x1, none, vI x3, vI (v.1 + (1:Int32))], [], (H0x8 s v.2 y45))) rfl ?_
  have E46 : ((H0x8 s v.2 y45) : QHeap) = (H0 s (s_snap v.2 y45)) := by simp only [fs, H0, H0v, H0x8, s_snap]
  rw [E46]
  obtain rfl := Option.some.inj h
  exact zM [tt,tt,ff,tt,tt] (hc ((v.1 + (1:Int32)), (s_snap v.2 y45)) rfl)
 ·refine zT Ad W (t := 57) (f := 31) rfl (XT.ii_ge_t hc43) ?_
  obtain rfl := Option.some.inj h
  obtain ⟨rfl, rfl⟩ := hx0 v.2 rfl
  exact QTri.ret0 rfl rfl
/-- storeSnap(II)V -/
def F8 (o : Ob) (x1 : Int32) (x2 : Int32) : Option (Ob) :=
 (F6 x2).bind fun r39 => (if r39 = (0:Int32) then some o else (if x1 < (0:Int32) then some o else (if x1 < (4:Int32) then (loopN (B8_25 x1 (x2 * (4:Int32))) qN ((0:Int32), o)).bind fun e47 => some e47 else some o)))
theorem tF8 (Ad : QAd n0 ad) (W : QW Z a0) (s : List Int32) (o : Ob) (x1 : Int32) (x2 : Int32) {r : Ob} (h : F8 o x1 x2 = some r) : QTri l Z n0 ad 8 (0, qentry [.ref 1, .int x1, .int x2] (pMaxL 8), [], (H0 s o)) (none : Option Value) (H0 s r) := by
 unfold F8 at h
 refine zS Ad W 2 (st' := (2, [vR 1, vI x1, vI x2, none, none], [.int x2, .ref 1], (H0 s o))) rfl ?_
 obtain ⟨r39, hr39, h⟩ := bind_eq_some_iff.mp h
 refine QTri.callP W (a := 1) (as := [.int x2]) (rest := []) (w := (some (.int r39))) (σ₁ := (H0 s o)) rfl rfl rfl rfl rfl rfl rfl rfl (tF6 Ad W x2 hr39) ?_
 rcases qite h with ⟨hc40, h⟩ | ⟨hc40, h⟩
 ·refine zT Ad W (t := 17) (f := 8) rfl (XT.i0_eq_t hc40) ?_
  obtain rfl := Option.some.inj h
  exact QTri.ret0 rfl rfl
 ·refine zF Ad W (t := 17) (f := 8) rfl (XT.i0_eq_f hc40) ?_
  refine zS Ad W 1 (st' := (9, [vR 1, vI x1, vI x2, none, none], [.int x1], (H0 s o))) rfl ?_
  rcases qite h with ⟨hc41, h⟩ | ⟨hc41, h⟩
  ·refine zT Ad W (t := 17) (f := 12) rfl (XT.i0_lt_t hc41) ?_
   obtain rfl := Option.some.inj h
   exact QTri.ret0 rfl rfl
  ·refine zF Ad W (t := 17) (f := 12) rfl (XT.i0_lt_f hc41) ?_
   refine zS Ad W 2 (st' := (14, [vR 1, vI x1, vI x2, none, none], [.int (4:Int32), .int x1], (H0 s o))) rfl ?_
   rcases qite h with ⟨hc42, h⟩ | ⟨hc42, h⟩
   ·refine zT Ad W (t := 18) (f := 17) rfl (XT.ii_lt_t hc42) ?_
    refine zS Ad W 6 (st' := (25, [vR 1, vI x1, vI x2, vI (x2 * (4:Int32)), vI (0:Int32)], [], (H0 s o))) rfl ?_
    obtain ⟨e47, he47, h⟩ := bind_eq_some_iff.mp h
    refine zM [tt,tt,ff,tt,tt] (loopN_tri (B := B8_25 x1 (x2 * (4:Int32))) (T := fun lv48 => QTri l Z n0 ad 8 (25, [vR 1, vI x1, none, vI (x2 * (4:Int32)), vI lv48.1], [], (H0 s lv48.2)) (none : Option Value) (H0 s r)) (KE := fun e47a => (none : Option Value) = (none : Option Value) ∧ (H0 s r) = (H0 s e47a)) (fun lv48 r hB hE hC => tB8_25 Ad W s x1 (x2 * (4:Int32)) lv48 hB (fun x q => hE _ q) (fun x q => hC x q)) qN ((0:Int32), o) e47 he47 ?_)
    obtain rfl := Option.some.inj h
    exact ⟨rfl, rfl⟩
   ·refine zF Ad W (t := 18) (f := 17) rfl (XT.ii_lt_f hc42) ?_
    obtain rfl := Option.some.inj h
    exact QTri.ret0 rfl rfl
/-- resetQuery(I)V -/
def F3 (o : Ob) (x1 : Int32) : Option (Ob) :=
 (if x1 < (0:Int32) then some o else (if x1 < (4:Int32) then (aset (f_frontSize o) x1 (0:Int32)).bind fun y14 => (aset (f_backSize o) x1 (0:Int32)).bind fun y15 => (F4 (s_backSize (s_frontSize o y14) y15) (1:Int32)).bind fun r27 => (F7 r27 x1 (1:Int32)).bind fun r38 => (F8 r38 x1 (1:Int32)).bind fun r49 => some r49 else some o))
theorem tF3 (Ad : QAd n0 ad) (W : QW Z a0) (s : List Int32) (o : Ob) (x1 : Int32) {r : Ob} (h : F3 o x1 = some r) : QTri l Z n0 ad 3 (0, qentry [.ref 1, .int x1] (pMaxL 3), [], (H0 s o)) (none : Option Value) (H0 s r) := by
 unfold F3 at h
 refine zS Ad W 1 (st' := (1, [vR 1, vI x1], [.int x1], (H0 s o))) rfl ?_
 rcases qite h with ⟨hc12, h⟩ | ⟨hc12, h⟩
 ·refine zT Ad W (t := 9) (f := 4) rfl (XT.i0_lt_t hc12) ?_
  obtain rfl := Option.some.inj h
  exact QTri.ret0 rfl rfl
 ·refine zF Ad W (t := 9) (f := 4) rfl (XT.i0_lt_f hc12) ?_
  refine zS Ad W 2 (st' := (6, [vR 1, vI x1], [.int (4:Int32), .int x1], (H0 s o))) rfl ?_
  rcases qite h with ⟨hc13, h⟩ | ⟨hc13, h⟩
  ·refine zT Ad W (t := 10) (f := 9) rfl (XT.ii_lt_t hc13) ?_
   refine zS Ad W 4 (st' := (16, [vR 1, vI x1], [.int (0:Int32), .int x1, .ref 4], (H0 s o))) rfl ?_
   obtain ⟨y14, hy14, h⟩ := bind_eq_some_iff.mp h
   refine zB Ad W (f := fun y14 => (17, [vR 1, vI x1], [], (H0x4 s o y14))) rfl hy14 ?_
   refine zS Ad W 4 (st' := (23, [vR 1, vI x1], [.int (0:Int32), .int x1, .ref 5], (H0x4 s o y14))) rfl ?_
   obtain ⟨y15, hy15, h⟩ := bind_eq_some_iff.mp h
   refine zB Ad W (f := fun y15 => (24, [vR 1, vI x1], [], (H0x5 s o y14 y15))) rfl hy15 ?_
   refine zS Ad W 2 (st' := (26, [vR 1, vI x1], [.int (1:Int32), .ref 1], (H0x5 s o y14 y15))) rfl ?_
   have E16 : ((H0x5 s o y14 y15) : QHeap) = (H0 s (s_backSize (s_frontSize o y14) y15)) := by simp only [fs, H0, H0v, H0x5, s_frontSize, s_backSize]
   rw [E16]
   obtain ⟨r27, hr27, h⟩ := bind_eq_some_iff.mp h
   refine QTri.callP W (a := 1) (as := [.int (1:Int32)]) (rest := []) (w := none) (σ₁ := (H0 s r27)) rfl rfl rfl rfl rfl rfl rfl rfl (tF4 Ad W s (s_backSize (s_frontSize o y14) y15) (1:Int32) hr27) ?_
   refine zS Ad W 3 (st' := (32, [vR 1, vI x1], [.int (1:Int32), .int x1, .ref 1], (H0 s r27))) rfl ?_
   obtain ⟨r38, hr38, h⟩ := bind_eq_some_iff.mp h
   refine QTri.callP W (a := 1) (as := [.int x1, .int (1:Int32)]) (rest := []) (w := none) (σ₁ := (H0 s r38)) rfl rfl rfl rfl rfl rfl rfl rfl (tF7 Ad W s r27 x1 (1:Int32) hr38) ?_
   refine zS Ad W 3 (st' := (38, [vR 1, vI x1], [.int (1:Int32), .int x1, .ref 1], (H0 s r38))) rfl ?_
   obtain ⟨r49, hr49, h⟩ := bind_eq_some_iff.mp h
   refine QTri.callP W (a := 1) (as := [.int x1, .int (1:Int32)]) (rest := []) (w := none) (σ₁ := (H0 s r49)) rfl rfl rfl rfl rfl rfl rfl rfl (tF8 Ad W s r38 x1 (1:Int32) hr49) ?_
   obtain rfl := Option.some.inj h
   exact QTri.ret0 rfl rfl
  ·refine zF Ad W (t := 10) (f := 9) rfl (XT.ii_lt_f hc13) ?_
   obtain rfl := Option.some.inj h
   exact QTri.ret0 rfl rfl
def B2_138 (v : Int32 × Ob) : Option (((Ob)) ⊕ (Int32 × Ob)) :=
  (if v.1 < (4 : Int32) then (F3 v.2 v.1).bind fun r50 => some (.inr ((v.1 + (1 : Int32)), r50)) else some (.inl v.2))
theorem tB2_138 (Ad : QAd n0 ad) (W : QW Z a0) (s : List Int32) (v : Int32 × Ob) {r : ((Ob)) ⊕ (Int32 × Ob)} {u : Option Value} {τ : QHeap} (h : B2_138 v = some r) (hx0 : ∀ x : Ob, r = .inl x → u = (none : Option Value) ∧ τ = (H0 s x)) (hc : ∀ x : Int32 × Ob, r = .inr x → QTri l Z n0 ad 2 (138, [vR 1, none, none, vI x.1], [], (H0 s x.2)) u τ) : QTri l Z n0 ad 2 (138, [vR 1, none, none, vI v.1], [], (H0 s v.2)) u τ := by
 unfold B2_138 at h
 refine zS Ad W 2 (st' := (140, [vR 1, none, none, vI v.1], [.int (4:Int32), .int v.1], (H0 s v.2))) rfl ?_
 rcases qite h with ⟨hc11, h⟩ | ⟨hc11, h⟩
 ·refine zF Ad W (t := 154) (f := 143) rfl (XT.ii_ge_f hc11) ?_
  refine zS Ad W 2 (st' := (145, [vR 1, none, none, vI v.1], [.int v.1, .ref 1], (H0 s v.2))) rfl ?_
  obtain ⟨r50, hr50, h⟩ := bind_eq_some_iff.mp h
  refine QTri.callP W (a := 1) (as := [.int v.1]) (rest := []) (w := none) (σ₁ := (H0 s r50)) rfl rfl rfl rfl rfl rfl rfl rfl (tF3 Ad W s v.2 v.1 hr50) ?_
  refine zS Ad W 2 (st' := (138, [vR 1, none, none, vI (v.1 + (1:Int32))], [], (H0 s r50))) rfl ?_
  obtain rfl := Option.some.inj h
  exact zM [tt,ff,ff,tt] (hc ((v.1 + (1:Int32)), r50) rfl)
 ·refine zT Ad W (t := 154) (f := 143) rfl (XT.ii_ge_t hc11) ?_
  obtain rfl := Option.some.inj h
  obtain ⟨rfl, rfl⟩ := hx0 v.2 rfl
  exact QTri.ret0 rfl rfl
/-- init(I)V -/
def F2 (x1 : Int32) : Option (Ob) :=
 (loopN (B2_138) qN ((0:Int32), (s_n (s_queries (s_capacity (s_reg (s_snap (s_backAgg (s_frontAgg (s_backElem (s_backSize (s_frontSize (s_slide (s_range (s_slots (s_regCount (s_regC (s_regB (s_regA (s_regTuple ob0 (0:Int32)) (1:Int32)) (2:Int32)) (3:Int32)) (4:Int32)) (32:Int32)) (List.replicate 4 0)) (List.replicate 4 0)) (List.replicate 4 0)) (List.replicate 4 0)) (List.replicate 512 0)) (List.replicate 512 0)) (List.replicate 16 0)) (List.replicate 16 0)) (List.replicate 16 0)) (if (4:Int32) < (if x1 < (1:Int32) then (1:Int32) else x1) then (4:Int32) else (if x1 < (1:Int32) then (1:Int32) else x1))) (0:Int32)) (0:Int32)))).bind fun e51 => some e51
theorem tF2 (Ad : QAd n0 ad) (W : QW Z a0) (s : List Int32) (x1 : Int32) {r : Ob} (h : F2 x1 = some r) : QTri l Z n0 ad 2 (0, qentry [.ref 1, .int x1] (pMaxL 2), [], [.inr (.inl (.int, s)), .inl [.int (f_regTuple ob0), .int (f_regA ob0), .int (f_regB ob0), .int (f_regC ob0), .int (f_regCount ob0), .int (f_slots ob0), .null, .null, .null, .null, .null, .null, .null, .null, .null, .int (f_capacity ob0), .int (f_queries ob0), .int (f_n ob0)]]) (none : Option Value) (H0 s r) := by
 unfold F2 at h
 refine zS Ad W 1 (st' := (1, [vR 1, vI x1, none, none], [.ref 1], [.inr (.inl (.int, s)), .inl [.int (f_regTuple ob0), .int (f_regA ob0), .int (f_regB ob0), .int (f_regC ob0), .int (f_regCount ob0), .int (f_slots ob0), .null, .null, .null, .null, .null, .null, .null, .null, .null, .int (f_capacity ob0), .int (f_queries ob0), .int (f_n ob0)]])) rfl ?_
 refine QTri.callO W rfl rfl rfl ?_
 refine zS Ad W 3 (st' := (9, [vR 1, vI x1, none, none], [], [.inr (.inl (.int, s)), .inl [.int (0:Int32), .int (f_regA ob0), .int (f_regB ob0), .int (f_regC ob0), .int (f_regCount ob0), .int (f_slots ob0), .null, .null, .null, .null, .null, .null, .null, .null, .null, .int (f_capacity ob0), .int (f_queries ob0), .int (f_n ob0)]])) rfl ?_
 refine zS Ad W 3 (st' := (14, [vR 1, vI x1, none, none], [], [.inr (.inl (.int, s)), .inl [.int (0:Int32), .int (1:Int32), .int (f_regB ob0), .int (f_regC ob0), .int (f_regCount ob0), .int (f_slots ob0), .null, .null, .null, .null, .null, .null, .null, .null, .null, .int (f_capacity ob0), .int (f_queries ob0), .int (f_n ob0)]])) rfl ?_
 refine zS Ad W 3 (st' := (19, [vR 1, vI x1, none, none], [], [.inr (.inl (.int, s)), .inl [.int (0:Int32), .int (1:Int32), .int (2:Int32), .int (f_regC ob0), .int (f_regCount ob0), .int (f_slots ob0), .null, .null, .null, .null, .null, .null, .null, .null, .null, .int (f_capacity ob0), .int (f_queries ob0), .int (f_n ob0)]])) rfl ?_
 refine zS Ad W 3 (st' := (24, [vR 1, vI x1, none, none], [], [.inr (.inl (.int, s)), .inl [.int (0:Int32), .int (1:Int32), .int (2:Int32), .int (3:Int32), .int (f_regCount ob0), .int (f_slots ob0), .null, .null, .null, .null, .null, .null, .null, .null, .null, .int (f_capacity ob0), .int (f_queries ob0), .int (f_n ob0)]])) rfl ?_
 refine zS Ad W 3 (st' := (29, [vR 1, vI x1, none, none], [], [.inr (.inl (.int, s)), .inl [.int (0:Int32), .int (1:Int32), .int (2:Int32), .int (3:Int32), .int (4:Int32), .int (f_slots ob0), .null, .null, .null, .null, .null, .null, .null, .null, .null, .int (f_capacity ob0), .int (f_queries ob0), .int (f_n ob0)]])) rfl ?_
 refine zS Ad W 3 (st' := (35, [vR 1, vI x1, none, none], [], [.inr (.inl (.int, s)), .inl [.int (0:Int32), .int (1:Int32), .int (2:Int32), .int (3:Int32), .int (4:Int32), .int (32:Int32), .null, .null, .null, .null, .null, .null, .null, .null, .null, .int (f_capacity ob0), .int (f_queries ob0), .int (f_n ob0)]])) rfl ?_
 refine zS Ad W 3 (st' := (39, [vR 1, vI x1, none, none], [.ref 2, .ref 1], [.inr (.inl (.int, s)), .inl [.int (0:Int32), .int (1:Int32), .int (2:Int32), .int (3:Int32), .int (4:Int32), .int (32:Int32), .null, .null, .null, .null, .null, .null, .null, .null, .null, .int (f_capacity ob0), .int (f_queries ob0), .int (f_n ob0)], .inr (.inl (.int, (List.replicate 4 0)))])) rfl ?_
 refine zS Ad W 1 (st' := (42, [vR 1, vI x1, none, none], [], [.inr (.inl (.int, s)), .inl [.int (0:Int32), .int (1:Int32), .int (2:Int32), .int (3:Int32), .int (4:Int32), .int (32:Int32), .ref 2, .null, .null, .null, .null, .null, .null, .null, .null, .int (f_capacity ob0), .int (f_queries ob0), .int (f_n ob0)], .inr (.inl (.int, (List.replicate 4 0)))])) rfl ?_
 refine zS Ad W 3 (st' := (46, [vR 1, vI x1, none, none], [.ref 3, .ref 1], [.inr (.inl (.int, s)), .inl [.int (0:Int32), .int (1:Int32), .int (2:Int32), .int (3:Int32), .int (4:Int32), .int (32:Int32), .ref 2, .null, .null, .null, .null, .null, .null, .null, .null, .int (f_capacity ob0), .int (f_queries ob0), .int (f_n ob0)], .inr (.inl (.int, (List.replicate 4 0))), .inr (.inl (.int, (List.replicate 4 0)))])) rfl ?_
 refine zS Ad W 1 (st' := (49, [vR 1, vI x1, none, none], [], [.inr (.inl (.int, s)), .inl [.int (0:Int32), .int (1:Int32), .int (2:Int32), .int (3:Int32), .int (4:Int32), .int (32:Int32), .ref 2, .ref 3, .null, .null, .null, .null, .null, .null, .null, .int (f_capacity ob0), .int (f_queries ob0), .int (f_n ob0)], .inr (.inl (.int, (List.replicate 4 0))), .inr (.inl (.int, (List.replicate 4 0)))])) rfl ?_
 refine zS Ad W 3 (st' := (53, [vR 1, vI x1, none, none], [.ref 4, .ref 1], [.inr (.inl (.int, s)), .inl [.int (0:Int32), .int (1:Int32), .int (2:Int32), .int (3:Int32), .int (4:Int32), .int (32:Int32), .ref 2, .ref 3, .null, .null, .null, .null, .null, .null, .null, .int (f_capacity ob0), .int (f_queries ob0), .int (f_n ob0)], .inr (.inl (.int, (List.replicate 4 0))), .inr (.inl (.int, (List.replicate 4 0))), .inr (.inl (.int, (List.replicate 4 0)))])) rfl ?_
 refine zS Ad W 1 (st' := (56, [vR 1, vI x1, none, none], [], [.inr (.inl (.int, s)), .inl [.int (0:Int32), .int (1:Int32), .int (2:Int32), .int (3:Int32), .int (4:Int32), .int (32:Int32), .ref 2, .ref 3, .ref 4, .null, .null, .null, .null, .null, .null, .int (f_capacity ob0), .int (f_queries ob0), .int (f_n ob0)], .inr (.inl (.int, (List.replicate 4 0))), .inr (.inl (.int, (List.replicate 4 0))), .inr (.inl (.int, (List.replicate 4 0)))])) rfl ?_
 refine zS Ad W 3 (st' := (60, [vR 1, vI x1, none, none], [.ref 5, .ref 1], [.inr (.inl (.int, s)), .inl [.int (0:Int32), .int (1:Int32), .int (2:Int32), .int (3:Int32), .int (4:Int32), .int (32:Int32), .ref 2, .ref 3, .ref 4, .null, .null, .null, .null, .null, .null, .int (f_capacity ob0), .int (f_queries ob0), .int (f_n ob0)], .inr (.inl (.int, (List.replicate 4 0))), .inr (.inl (.int, (List.replicate 4 0))), .inr (.inl (.int, (List.replicate 4 0))), .inr (.inl (.int, (List.replicate 4 0)))])) rfl ?_
 refine zS Ad W 1 (st' := (63, [vR 1, vI x1, none, none], [], [.inr (.inl (.int, s)), .inl [.int (0:Int32), .int (1:Int32), .int (2:Int32), .int (3:Int32), .int (4:Int32), .int (32:Int32), .ref 2, .ref 3, .ref 4, .ref 5, .null, .null, .null, .null, .null, .int (f_capacity ob0), .int (f_queries ob0), .int (f_n ob0)], .inr (.inl (.int, (List.replicate 4 0))), .inr (.inl (.int, (List.replicate 4 0))), .inr (.inl (.int, (List.replicate 4 0))), .inr (.inl (.int, (List.replicate 4 0)))])) rfl ?_
 refine zS Ad W 3 (st' := (69, [vR 1, vI x1, none, none], [.ref 6, .ref 1], [.inr (.inl (.int, s)), .inl [.int (0:Int32), .int (1:Int32), .int (2:Int32), .int (3:Int32), .int (4:Int32), .int (32:Int32), .ref 2, .ref 3, .ref 4, .ref 5, .null, .null, .null, .null, .null, .int (f_capacity ob0), .int (f_queries ob0), .int (f_n ob0)], .inr (.inl (.int, (List.replicate 4 0))), .inr (.inl (.int, (List.replicate 4 0))), .inr (.inl (.int, (List.replicate 4 0))), .inr (.inl (.int, (List.replicate 4 0))), .inr (.inl (.int, (List.replicate 512 0)))])) rfl ?_
 refine zS Ad W 1 (st' := (72, [vR 1, vI x1, none, none], [], [.inr (.inl (.int, s)), .inl [.int (0:Int32), .int (1:Int32), .int (2:Int32), .int (3:Int32), .int (4:Int32), .int (32:Int32), .ref 2, .ref 3, .ref 4, .ref 5, .ref 6, .null, .null, .null, .null, .int (f_capacity ob0), .int (f_queries ob0), .int (f_n ob0)], .inr (.inl (.int, (List.replicate 4 0))), .inr (.inl (.int, (List.replicate 4 0))), .inr (.inl (.int, (List.replicate 4 0))), .inr (.inl (.int, (List.replicate 4 0))), .inr (.inl (.int, (List.replicate 512 0)))])) rfl ?_
 refine zS Ad W 3 (st' := (78, [vR 1, vI x1, none, none], [.ref 7, .ref 1], [.inr (.inl (.int, s)), .inl [.int (0:Int32), .int (1:Int32), .int (2:Int32), .int (3:Int32), .int (4:Int32), .int (32:Int32), .ref 2, .ref 3, .ref 4, .ref 5, .ref 6, .null, .null, .null, .null, .int (f_capacity ob0), .int (f_queries ob0), .int (f_n ob0)], .inr (.inl (.int, (List.replicate 4 0))), .inr (.inl (.int, (List.replicate 4 0))), .inr (.inl (.int, (List.replicate 4 0))), .inr (.inl (.int, (List.replicate 4 0))), .inr (.inl (.int, (List.replicate 512 0))), .inr (.inl (.int, (List.replicate 512 0)))])) rfl ?_
 refine zS Ad W 1 (st' := (81, [vR 1, vI x1, none, none], [], [.inr (.inl (.int, s)), .inl [.int (0:Int32), .int (1:Int32), .int (2:Int32), .int (3:Int32), .int (4:Int32), .int (32:Int32), .ref 2, .ref 3, .ref 4, .ref 5, .ref 6, .ref 7, .null, .null, .null, .int (f_capacity ob0), .int (f_queries ob0), .int (f_n ob0)], .inr (.inl (.int, (List.replicate 4 0))), .inr (.inl (.int, (List.replicate 4 0))), .inr (.inl (.int, (List.replicate 4 0))), .inr (.inl (.int, (List.replicate 4 0))), .inr (.inl (.int, (List.replicate 512 0))), .inr (.inl (.int, (List.replicate 512 0)))])) rfl ?_
 refine zS Ad W 3 (st' := (86, [vR 1, vI x1, none, none], [.ref 8, .ref 1], [.inr (.inl (.int, s)), .inl [.int (0:Int32), .int (1:Int32), .int (2:Int32), .int (3:Int32), .int (4:Int32), .int (32:Int32), .ref 2, .ref 3, .ref 4, .ref 5, .ref 6, .ref 7, .null, .null, .null, .int (f_capacity ob0), .int (f_queries ob0), .int (f_n ob0)], .inr (.inl (.int, (List.replicate 4 0))), .inr (.inl (.int, (List.replicate 4 0))), .inr (.inl (.int, (List.replicate 4 0))), .inr (.inl (.int, (List.replicate 4 0))), .inr (.inl (.int, (List.replicate 512 0))), .inr (.inl (.int, (List.replicate 512 0))), .inr (.inl (.int, (List.replicate 16 0)))])) rfl ?_
 refine zS Ad W 1 (st' := (89, [vR 1, vI x1, none, none], [], [.inr (.inl (.int, s)), .inl [.int (0:Int32), .int (1:Int32), .int (2:Int32), .int (3:Int32), .int (4:Int32), .int (32:Int32), .ref 2, .ref 3, .ref 4, .ref 5, .ref 6, .ref 7, .ref 8, .null, .null, .int (f_capacity ob0), .int (f_queries ob0), .int (f_n ob0)], .inr (.inl (.int, (List.replicate 4 0))), .inr (.inl (.int, (List.replicate 4 0))), .inr (.inl (.int, (List.replicate 4 0))), .inr (.inl (.int, (List.replicate 4 0))), .inr (.inl (.int, (List.replicate 512 0))), .inr (.inl (.int, (List.replicate 512 0))), .inr (.inl (.int, (List.replicate 16 0)))])) rfl ?_
 refine zS Ad W 3 (st' := (94, [vR 1, vI x1, none, none], [.ref 9, .ref 1], [.inr (.inl (.int, s)), .inl [.int (0:Int32), .int (1:Int32), .int (2:Int32), .int (3:Int32), .int (4:Int32), .int (32:Int32), .ref 2, .ref 3, .ref 4, .ref 5, .ref 6, .ref 7, .ref 8, .null, .null, .int (f_capacity ob0), .int (f_queries ob0), .int (f_n ob0)], .inr (.inl (.int, (List.replicate 4 0))), .inr (.inl (.int, (List.replicate 4 0))), .inr (.inl (.int, (List.replicate 4 0))), .inr (.inl (.int, (List.replicate 4 0))), .inr (.inl (.int, (List.replicate 512 0))), .inr (.inl (.int, (List.replicate 512 0))), .inr (.inl (.int, (List.replicate 16 0))), .inr (.inl (.int, (List.replicate 16 0)))])) rfl ?_
 refine zS Ad W 1 (st' := (97, [vR 1, vI x1, none, none], [], [.inr (.inl (.int, s)), .inl [.int (0:Int32), .int (1:Int32), .int (2:Int32), .int (3:Int32), .int (4:Int32), .int (32:Int32), .ref 2, .ref 3, .ref 4, .ref 5, .ref 6, .ref 7, .ref 8, .ref 9, .null, .int (f_capacity ob0), .int (f_queries ob0), .int (f_n ob0)], .inr (.inl (.int, (List.replicate 4 0))), .inr (.inl (.int, (List.replicate 4 0))), .inr (.inl (.int, (List.replicate 4 0))), .inr (.inl (.int, (List.replicate 4 0))), .inr (.inl (.int, (List.replicate 512 0))), .inr (.inl (.int, (List.replicate 512 0))), .inr (.inl (.int, (List.replicate 16 0))), .inr (.inl (.int, (List.replicate 16 0)))])) rfl ?_
 refine zS Ad W 3 (st' := (102, [vR 1, vI x1, none, none], [.ref 10, .ref 1], [.inr (.inl (.int, s)), .inl [.int (0:Int32), .int (1:Int32), .int (2:Int32), .int (3:Int32), .int (4:Int32), .int (32:Int32), .ref 2, .ref 3, .ref 4, .ref 5, .ref 6, .ref 7, .ref 8, .ref 9, .null, .int (f_capacity ob0), .int (f_queries ob0), .int (f_n ob0)], .inr (.inl (.int, (List.replicate 4 0))), .inr (.inl (.int, (List.replicate 4 0))), .inr (.inl (.int, (List.replicate 4 0))), .inr (.inl (.int, (List.replicate 4 0))), .inr (.inl (.int, (List.replicate 512 0))), .inr (.inl (.int, (List.replicate 512 0))), .inr (.inl (.int, (List.replicate 16 0))), .inr (.inl (.int, (List.replicate 16 0))), .inr (.inl (.int, (List.replicate 16 0)))])) rfl ?_
 refine zS Ad W 1 (st' := (105, [vR 1, vI x1, none, none], [], (H0x0 s ob0 (0:Int32) (1:Int32) (2:Int32) (3:Int32) (4:Int32) (32:Int32) (List.replicate 4 0) (List.replicate 4 0) (List.replicate 4 0) (List.replicate 4 0) (List.replicate 512 0) (List.replicate 512 0) (List.replicate 16 0) (List.replicate 16 0) (List.replicate 16 0)))) rfl ?_
 refine zS Ad W 4 (st' := (109, [vR 1, vI x1, vI x1, none], [.int (1:Int32), .int x1], (H0x0 s ob0 (0:Int32) (1:Int32) (2:Int32) (3:Int32) (4:Int32) (32:Int32) (List.replicate 4 0) (List.replicate 4 0) (List.replicate 4 0) (List.replicate 4 0) (List.replicate 512 0) (List.replicate 512 0) (List.replicate 16 0) (List.replicate 16 0) (List.replicate 16 0)))) rfl ?_
 have K5 : ∀ z4 : Int32, z4 = (if x1 < (1:Int32) then (1:Int32) else x1) → QTri l Z n0 ad 2 (114, [vR 1, none, vI z4, none], [], (H0x0 s ob0 (0:Int32) (1:Int32) (2:Int32) (3:Int32) (4:Int32) (32:Int32) (List.replicate 4 0) (List.replicate 4 0) (List.replicate 4 0) (List.replicate 4 0) (List.replicate 512 0) (List.replicate 512 0) (List.replicate 16 0) (List.replicate 16 0) (List.replicate 16 0))) (none : Option Value) (H0 s r) := by
  intro z4 ez4
  subst ez4
  refine zS Ad W 2 (st' := (116, [vR 1, none, vI (if x1 < (1:Int32) then (1:Int32) else x1), none], [.int (4:Int32), .int (if x1 < (1:Int32) then (1:Int32) else x1)], (H0x0 s ob0 (0:Int32) (1:Int32) (2:Int32) (3:Int32) (4:Int32) (32:Int32) (List.replicate 4 0) (List.replicate 4 0) (List.replicate 4 0) (List.replicate 4 0) (List.replicate 512 0) (List.replicate 512 0) (List.replicate 16 0) (List.replicate 16 0) (List.replicate 16 0)))) rfl ?_
  have K8 : ∀ z7 : Int32, z7 = (if (4:Int32) < (if x1 < (1:Int32) then (1:Int32) else x1) then (4:Int32) else (if x1 < (1:Int32) then (1:Int32) else x1)) → QTri l Z n0 ad 2 (121, [vR 1, none, vI z7, none], [], (H0x0 s ob0 (0:Int32) (1:Int32) (2:Int32) (3:Int32) (4:Int32) (32:Int32) (List.replicate 4 0) (List.replicate 4 0) (List.replicate 4 0) (List.replicate 4 0) (List.replicate 512 0) (List.replicate 512 0) (List.replicate 16 0) (List.replicate 16 0) (List.replicate 16 0))) (none : Option Value) (H0 s r) := by
   intro z7 ez7
   subst ez7
   refine zS Ad W 3 (st' := (126, [vR 1, none, vI (if (4:Int32) < (if x1 < (1:Int32) then (1:Int32) else x1) then (4:Int32) else (if x1 < (1:Int32) then (1:Int32) else x1)), none], [], (H0x1 s ob0 (0:Int32) (1:Int32) (2:Int32) (3:Int32) (4:Int32) (32:Int32) (List.replicate 4 0) (List.replicate 4 0) (List.replicate 4 0) (List.replicate 4 0) (List.replicate 512 0) (List.replicate 512 0) (List.replicate 16 0) (List.replicate 16 0) (List.replicate 16 0) (if (4:Int32) < (if x1 < (1:Int32) then (1:Int32) else x1) then (4:Int32) else (if x1 < (1:Int32) then (1:Int32) else x1))))) rfl ?_
   refine zS Ad W 3 (st' := (131, [vR 1, none, vI (if (4:Int32) < (if x1 < (1:Int32) then (1:Int32) else x1) then (4:Int32) else (if x1 < (1:Int32) then (1:Int32) else x1)), none], [], (H0x2 s ob0 (0:Int32) (1:Int32) (2:Int32) (3:Int32) (4:Int32) (32:Int32) (List.replicate 4 0) (List.replicate 4 0) (List.replicate 4 0) (List.replicate 4 0) (List.replicate 512 0) (List.replicate 512 0) (List.replicate 16 0) (List.replicate 16 0) (List.replicate 16 0) (if (4:Int32) < (if x1 < (1:Int32) then (1:Int32) else x1) then (4:Int32) else (if x1 < (1:Int32) then (1:Int32) else x1)) (0:Int32)))) rfl ?_
   refine zS Ad W 3 (st' := (136, [vR 1, none, vI (if (4:Int32) < (if x1 < (1:Int32) then (1:Int32) else x1) then (4:Int32) else (if x1 < (1:Int32) then (1:Int32) else x1)), none], [], (H0x3 s ob0 (0:Int32) (1:Int32) (2:Int32) (3:Int32) (4:Int32) (32:Int32) (List.replicate 4 0) (List.replicate 4 0) (List.replicate 4 0) (List.replicate 4 0) (List.replicate 512 0) (List.replicate 512 0) (List.replicate 16 0) (List.replicate 16 0) (List.replicate 16 0) (if (4:Int32) < (if x1 < (1:Int32) then (1:Int32) else x1) then (4:Int32) else (if x1 < (1:Int32) then (1:Int32) else x1)) (0:Int32) (0:Int32)))) rfl ?_
   refine zS Ad W 2 (st' := (138, [vR 1, none, vI (if (4:Int32) < (if x1 < (1:Int32) then (1:Int32) else x1) then (4:Int32) else (if x1 < (1:Int32) then (1:Int32) else x1)), vI (0:Int32)], [], (H0x3 s ob0 (0:Int32) (1:Int32) (2:Int32) (3:Int32) (4:Int32) (32:Int32) (List.replicate 4 0) (List.replicate 4 0) (List.replicate 4 0) (List.replicate 4 0) (List.replicate 512 0) (List.replicate 512 0) (List.replicate 16 0) (List.replicate 16 0) (List.replicate 16 0) (if (4:Int32) < (if x1 < (1:Int32) then (1:Int32) else x1) then (4:Int32) else (if x1 < (1:Int32) then (1:Int32) else x1)) (0:Int32) (0:Int32)))) rfl ?_
   have E10 : ((H0x3 s ob0 (0:Int32) (1:Int32) (2:Int32) (3:Int32) (4:Int32) (32:Int32) (List.replicate 4 0) (List.replicate 4 0) (List.replicate 4 0) (List.replicate 4 0) (List.replicate 512 0) (List.replicate 512 0) (List.replicate 16 0) (List.replicate 16 0) (List.replicate 16 0) (if (4:Int32) < (if x1 < (1:Int32) then (1:Int32) else x1) then (4:Int32) else (if x1 < (1:Int32) then (1:Int32) else x1)) (0:Int32) (0:Int32)) : QHeap) = (H0 s (s_n (s_queries (s_capacity (s_reg (s_snap (s_backAgg (s_frontAgg (s_backElem (s_backSize (s_frontSize (s_slide (s_range (s_slots (s_regCount (s_regC (s_regB (s_regA (s_regTuple ob0 (0:Int32)) (1:Int32)) (2:Int32)) (3:Int32)) (4:Int32)) (32:Int32)) (List.replicate 4 0)) (List.replicate 4 0)) (List.replicate 4 0)) (List.replicate 4 0)) (List.replicate 512 0)) (List.replicate 512 0)) (List.replicate 16 0)) (List.replicate 16 0)) (List.replicate 16 0)) (if (4:Int32) < (if x1 < (1:Int32) then (1:Int32) else x1) then (4:Int32) else (if x1 < (1:Int32) then (1:Int32) else x1))) (0:Int32)) (0:Int32))) := by simp only [fs, H0, H0v, H0x3, s_regTuple, s_regA, s_regB, s_regC, s_regCount, s_slots, s_range, s_slide, s_frontSize, s_backSize, s_backElem, s_frontAgg, s_backAgg, s_snap, s_reg, s_capacity, s_queries, s_n, ob0]
   rw [E10]
   obtain ⟨e51, he51, h⟩ := bind_eq_some_iff.mp h
   refine zM [tt,ff,ff,tt] (loopN_tri (B := B2_138) (T := fun lv52 => QTri l Z n0 ad 2 (138, [vR 1, none, none, vI lv52.1], [], (H0 s lv52.2)) (none : Option Value) (H0 s r)) (KE := fun e51a => (none : Option Value) = (none : Option Value) ∧ (H0 s r) = (H0 s e51a)) (fun lv52 r hB hE hC => tB2_138 Ad W s lv52 hB (fun x q => hE _ q) (fun x q => hC x q)) qN ((0:Int32), (s_n (s_queries (s_capacity (s_reg (s_snap (s_backAgg (s_frontAgg (s_backElem (s_backSize (s_frontSize (s_slide (s_range (s_slots (s_regCount (s_regC (s_regB (s_regA (s_regTuple ob0 (0:Int32)) (1:Int32)) (2:Int32)) (3:Int32)) (4:Int32)) (32:Int32)) (List.replicate 4 0)) (List.replicate 4 0)) (List.replicate 4 0)) (List.replicate 4 0)) (List.replicate 512 0)) (List.replicate 512 0)) (List.replicate 16 0)) (List.replicate 16 0)) (List.replicate 16 0)) (if (4:Int32) < (if x1 < (1:Int32) then (1:Int32) else x1) then (4:Int32) else (if x1 < (1:Int32) then (1:Int32) else x1))) (0:Int32)) (0:Int32))) e51 he51 ?_)
   obtain rfl := Option.some.inj h
   exact ⟨rfl, rfl⟩
  rcases em ((4:Int32) < (if x1 < (1:Int32) then (1:Int32) else x1)) with hc9 | hc9
  ·refine zF Ad W (t := 121) (f := 119) rfl (XT.ii_le_f hc9) ?_
   refine zS Ad W 2 (st' := (121, [vR 1, none, vI (4:Int32), none], [], (H0x0 s ob0 (0:Int32) (1:Int32) (2:Int32) (3:Int32) (4:Int32) (32:Int32) (List.replicate 4 0) (List.replicate 4 0) (List.replicate 4 0) (List.replicate 4 0) (List.replicate 512 0) (List.replicate 512 0) (List.replicate 16 0) (List.replicate 16 0) (List.replicate 16 0)))) rfl ?_
   exact zM [tt,ff,tt,ff] (K8 _ (if_pos hc9).symm)
  ·refine zT Ad W (t := 121) (f := 119) rfl (XT.ii_le_t hc9) ?_
   exact zM [tt,ff,tt,ff] (K8 _ (if_neg hc9).symm)
 rcases em (x1 < (1:Int32)) with hc6 | hc6
 ·refine zF Ad W (t := 114) (f := 112) rfl (XT.ii_ge_f hc6) ?_
  refine zS Ad W 2 (st' := (114, [vR 1, vI x1, vI (1:Int32), none], [], (H0x0 s ob0 (0:Int32) (1:Int32) (2:Int32) (3:Int32) (4:Int32) (32:Int32) (List.replicate 4 0) (List.replicate 4 0) (List.replicate 4 0) (List.replicate 4 0) (List.replicate 512 0) (List.replicate 512 0) (List.replicate 16 0) (List.replicate 16 0) (List.replicate 16 0)))) rfl ?_
  exact zM [tt,ff,tt,ff] (K5 _ (if_pos hc6).symm)
 ·refine zT Ad W (t := 114) (f := 112) rfl (XT.ii_ge_t hc6) ?_
  exact zM [tt,ff,tt,ff] (K5 _ (if_neg hc6).symm)
theorem tF1a1 (Ad : QAd n0 ad) (W : QW Z a0) (e0 : Ob) (s : List Int32) (x1 : Int32) {r : Int32} (h : F1 s x1 = some r) : QTri l Z n0 ad 1 (0, qentry [.ref 0, .int x1] (pMaxL 1), [], (H0 s e0)) (some (Value.int r)) (H0 s e0) := by
 unfold F1 at h
 refine zS Ad W 3 (st' := (3, [vR 0, vI x1], [.int (s.length.toInt32), .int x1], (H0 s e0))) rfl ?_
 rcases qite h with ⟨hc55, h⟩ | ⟨hc55, h⟩
 ·refine zF Ad W (t := 12) (f := 6) rfl (XT.ii_ge_f hc55) ?_
  refine zS Ad W 2 (st' := (8, [vR 0, vI x1], [.int x1, .ref 0], (H0 s e0))) rfl ?_
  obtain ⟨y56, hy56, h⟩ := bind_eq_some_iff.mp h
  refine zB Ad W (f := fun y56 => (9, [vR 0, vI x1], [.int y56], (H0 s e0))) rfl hy56 ?_
  refine zS Ad W 1 (st' := (13, [vR 0, vI x1], [.int y56], (H0 s e0))) rfl ?_
  obtain rfl := Option.some.inj h
  exact QTri.retI rfl rfl
 ·refine zT Ad W (t := 12) (f := 6) rfl (XT.ii_ge_t hc55) ?_
  refine zS Ad W 1 (st' := (13, [vR 0, vI x1], [.int (0:Int32)], (H0 s e0))) rfl ?_
  obtain rfl := Option.some.inj h
  exact QTri.retI rfl rfl
/-- rangeOf([II)I -/
def F9 (s : List Int32) (x1 : Int32) : Option (Int32) :=
 (F1 s ((1:Int32) + ((2:Int32) * x1))).bind fun r57 => some ((1:Int32) + (r57 &&& (31:Int32)))
theorem tF9 (Ad : QAd n0 ad) (W : QW Z a0) (e0 : Ob) (s : List Int32) (x1 : Int32) {r : Int32} (h : F9 s x1 = some r) : QTri l Z n0 ad 9 (0, qentry [.ref 0, .int x1] (pMaxL 9), [], (H0 s e0)) (some (Value.int r)) (H0 s e0) := by
 unfold F9 at h
 refine zS Ad W 7 (st' := (7, [vR 0, vI x1], [.int ((1:Int32) + ((2:Int32) * x1)), .ref 0, .int (1:Int32)], (H0 s e0))) rfl ?_
 obtain ⟨r57, hr57, h⟩ := bind_eq_some_iff.mp h
 refine QTri.callS W (as := [.ref 0, .int ((1:Int32) + ((2:Int32) * x1))]) (rest := [.int (1:Int32)]) (w := (some (.int r57))) (σ₁ := (H0 s e0)) rfl rfl rfl rfl rfl rfl rfl (tF1a1 Ad W e0 s ((1:Int32) + ((2:Int32) * x1)) hr57) ?_
 refine zS Ad W 3 (st' := (14, [vR 0, vI x1], [.int ((1:Int32) + (r57 &&& (31:Int32)))], (H0 s e0))) rfl ?_
 obtain rfl := Option.some.inj h
 exact QTri.retI rfl rfl
/-- slideOf([II)I -/
def F10 (s : List Int32) (x1 : Int32) : Option (Int32) :=
 (F1 s ((2:Int32) + ((2:Int32) * x1))).bind fun r59 => some ((1:Int32) + (r59 &&& (31:Int32)))
theorem tF10 (Ad : QAd n0 ad) (W : QW Z a0) (e0 : Ob) (s : List Int32) (x1 : Int32) {r : Int32} (h : F10 s x1 = some r) : QTri l Z n0 ad 10 (0, qentry [.ref 0, .int x1] (pMaxL 10), [], (H0 s e0)) (some (Value.int r)) (H0 s e0) := by
 unfold F10 at h
 refine zS Ad W 7 (st' := (7, [vR 0, vI x1], [.int ((2:Int32) + ((2:Int32) * x1)), .ref 0, .int (1:Int32)], (H0 s e0))) rfl ?_
 obtain ⟨r59, hr59, h⟩ := bind_eq_some_iff.mp h
 refine QTri.callS W (as := [.ref 0, .int ((2:Int32) + ((2:Int32) * x1))]) (rest := [.int (1:Int32)]) (w := (some (.int r59))) (σ₁ := (H0 s e0)) rfl rfl rfl rfl rfl rfl rfl (tF1a1 Ad W e0 s ((2:Int32) + ((2:Int32) * x1)) hr59) ?_
 refine zS Ad W 3 (st' := (14, [vR 0, vI x1], [.int ((1:Int32) + (r59 &&& (31:Int32)))], (H0 s e0))) rfl ?_
 obtain rfl := Option.some.inj h
 exact QTri.retI rfl rfl
def H0x9 (s : List Int32) (o0 : Ob) (a0_6 : List Int32) : QHeap := H0v s (f_regTuple o0) (f_regA o0) (f_regB o0) (f_regC o0) (f_regCount o0) (f_slots o0) a0_6 (f_slide o0) (f_frontSize o0) (f_backSize o0) (f_backElem o0) (f_frontAgg o0) (f_backAgg o0) (f_snap o0) (f_reg o0) (f_capacity o0) (f_queries o0) (f_n o0)
def H0x10 (s : List Int32) (o0 : Ob) (a0_6 : List Int32) (a0_7 : List Int32) : QHeap := H0v s (f_regTuple o0) (f_regA o0) (f_regB o0) (f_regC o0) (f_regCount o0) (f_slots o0) a0_6 a0_7 (f_frontSize o0) (f_backSize o0) (f_backElem o0) (f_frontAgg o0) (f_backAgg o0) (f_snap o0) (f_reg o0) (f_capacity o0) (f_queries o0) (f_n o0)
def H0x11 (s : List Int32) (o0 : Ob) (a0_16 : Int32) : QHeap := H0v s (f_regTuple o0) (f_regA o0) (f_regB o0) (f_regC o0) (f_regCount o0) (f_slots o0) (f_range o0) (f_slide o0) (f_frontSize o0) (f_backSize o0) (f_backElem o0) (f_frontAgg o0) (f_backAgg o0) (f_snap o0) (f_reg o0) (f_capacity o0) a0_16 (f_n o0)
/-- addQuery(II)I -/
def F11 (o : Ob) (x1 : Int32) (x2 : Int32) : Option (Int32 × Ob) :=
 (if (f_n o) = (0:Int32) then (if (f_queries o) < (f_capacity o) then (if x1 < (1:Int32) then some ((-1:Int32), o) else (if (32:Int32) < x1 then some ((-1:Int32), o) else (if x2 < (1:Int32) then some ((-1:Int32), o) else (if (32:Int32) < x2 then some ((-1:Int32), o) else (aset (f_range o) (f_queries o) x1).bind fun y67 => (aset (f_slide o) (f_queries o) x2).bind fun y68 => (F3 (s_slide (s_range o y67) y68) (f_queries o)).bind fun r70 => some ((f_queries o), (s_queries r70 ((f_queries r70) + (1:Int32)))))))) else some ((-1:Int32), o)) else some ((-1:Int32), o))
theorem tF11 (Ad : QAd n0 ad) (W : QW Z a0) (s : List Int32) (o : Ob) (x1 : Int32) (x2 : Int32) {r : Int32 × Ob} (h : F11 o x1 x2 = some r) : QTri l Z n0 ad 11 (0, qentry [.ref 1, .int x1, .int x2] (pMaxL 11), [], (H0 s o)) (some (Value.int r.1)) (H0 s r.2) := by
 unfold F11 at h
 refine zS Ad W 2 (st' := (4, [vR 1, vI x1, vI x2, none], [.int (f_n o)], (H0 s o))) rfl ?_
 rcases qite h with ⟨hc61, h⟩ | ⟨hc61, h⟩
 ·refine zT Ad W (t := 9) (f := 7) rfl (XT.i0_eq_t hc61) ?_
  refine zS Ad W 4 (st' := (17, [vR 1, vI x1, vI x2, none], [.int (f_capacity o), .int (f_queries o)], (H0 s o))) rfl ?_
  rcases qite h with ⟨hc62, h⟩ | ⟨hc62, h⟩
  ·refine zT Ad W (t := 22) (f := 20) rfl (XT.ii_lt_t hc62) ?_
   refine zS Ad W 2 (st' := (24, [vR 1, vI x1, vI x2, none], [.int (1:Int32), .int x1], (H0 s o))) rfl ?_
   rcases qite h with ⟨hc63, h⟩ | ⟨hc63, h⟩
   ·refine zT Ad W (t := 33) (f := 27) rfl (XT.ii_lt_t hc63) ?_
    refine zS Ad W 1 (st' := (34, [vR 1, vI x1, vI x2, none], [.int (-1:Int32)], (H0 s o))) rfl ?_
    obtain rfl := Option.some.inj h
    exact QTri.retI rfl rfl
   ·refine zF Ad W (t := 33) (f := 27) rfl (XT.ii_lt_f hc63) ?_
    refine zS Ad W 2 (st' := (30, [vR 1, vI x1, vI x2, none], [.int (32:Int32), .int x1], (H0 s o))) rfl ?_
    rcases qite h with ⟨hc64, h⟩ | ⟨hc64, h⟩
    ·refine zF Ad W (t := 35) (f := 33) rfl (XT.ii_le_f hc64) ?_
     refine zS Ad W 1 (st' := (34, [vR 1, vI x1, vI x2, none], [.int (-1:Int32)], (H0 s o))) rfl ?_
     obtain rfl := Option.some.inj h
     exact QTri.retI rfl rfl
    ·refine zT Ad W (t := 35) (f := 33) rfl (XT.ii_le_t hc64) ?_
     refine zS Ad W 2 (st' := (37, [vR 1, vI x1, vI x2, none], [.int (1:Int32), .int x2], (H0 s o))) rfl ?_
     rcases qite h with ⟨hc65, h⟩ | ⟨hc65, h⟩
     ·refine zT Ad W (t := 46) (f := 40) rfl (XT.ii_lt_t hc65) ?_
      refine zS Ad W 1 (st' := (47, [vR 1, vI x1, vI x2, none], [.int (-1:Int32)], (H0 s o))) rfl ?_
      obtain rfl := Option.some.inj h
      exact QTri.retI rfl rfl
     ·refine zF Ad W (t := 46) (f := 40) rfl (XT.ii_lt_f hc65) ?_
      refine zS Ad W 2 (st' := (43, [vR 1, vI x1, vI x2, none], [.int (32:Int32), .int x2], (H0 s o))) rfl ?_
      rcases qite h with ⟨hc66, h⟩ | ⟨hc66, h⟩
      ·refine zF Ad W (t := 48) (f := 46) rfl (XT.ii_le_f hc66) ?_
       refine zS Ad W 1 (st' := (47, [vR 1, vI x1, vI x2, none], [.int (-1:Int32)], (H0 s o))) rfl ?_
       obtain rfl := Option.some.inj h
       exact QTri.retI rfl rfl
      ·refine zT Ad W (t := 48) (f := 46) rfl (XT.ii_le_t hc66) ?_
       refine zS Ad W 7 (st' := (59, [vR 1, vI x1, vI x2, vI (f_queries o)], [.int x1, .int (f_queries o), .ref 2], (H0 s o))) rfl ?_
       obtain ⟨y67, hy67, h⟩ := bind_eq_some_iff.mp h
       refine zB Ad W (f := fun y67 => (60, [vR 1, vI x1, vI x2, vI (f_queries o)], [], (H0x9 s o y67))) rfl hy67 ?_
       refine zS Ad W 4 (st' := (66, [vR 1, vI x1, vI x2, vI (f_queries o)], [.int x2, .int (f_queries o), .ref 3], (H0x9 s o y67))) rfl ?_
       obtain ⟨y68, hy68, h⟩ := bind_eq_some_iff.mp h
       refine zB Ad W (f := fun y68 => (67, [vR 1, vI x1, vI x2, vI (f_queries o)], [], (H0x10 s o y67 y68))) rfl hy68 ?_
       refine zS Ad W 2 (st' := (69, [vR 1, vI x1, vI x2, vI (f_queries o)], [.int (f_queries o), .ref 1], (H0x10 s o y67 y68))) rfl ?_
       have E69 : ((H0x10 s o y67 y68) : QHeap) = (H0 s (s_slide (s_range o y67) y68)) := by simp only [fs, H0, H0v, H0x10, s_range, s_slide]
       rw [E69]
       obtain ⟨r70, hr70, h⟩ := bind_eq_some_iff.mp h
       refine QTri.callP W (a := 1) (as := [.int (f_queries o)]) (rest := []) (w := none) (σ₁ := (H0 s r70)) rfl rfl rfl rfl rfl rfl rfl rfl (tF3 Ad W s (s_slide (s_range o y67) y68) (f_queries o) hr70) ?_
       refine zS Ad W 6 (st' := (82, [vR 1, vI x1, vI x2, vI (f_queries o)], [], (H0x11 s r70 ((f_queries r70) + (1:Int32))))) rfl ?_
       refine zS Ad W 1 (st' := (83, [vR 1, vI x1, vI x2, vI (f_queries o)], [.int (f_queries o)], (H0x11 s r70 ((f_queries r70) + (1:Int32))))) rfl ?_
       have E71 : ((H0x11 s r70 ((f_queries r70) + (1:Int32))) : QHeap) = (H0 s (s_queries r70 ((f_queries r70) + (1:Int32)))) := by simp only [fs, H0, H0v, H0x11, s_queries]
       rw [E71]
       obtain rfl := Option.some.inj h
       exact QTri.retI rfl rfl
  ·refine zF Ad W (t := 22) (f := 20) rfl (XT.ii_lt_f hc62) ?_
   refine zS Ad W 1 (st' := (21, [vR 1, vI x1, vI x2, none], [.int (-1:Int32)], (H0 s o))) rfl ?_
   obtain rfl := Option.some.inj h
   exact QTri.retI rfl rfl
 ·refine zF Ad W (t := 9) (f := 7) rfl (XT.i0_eq_f hc61) ?_
  refine zS Ad W 1 (st' := (8, [vR 1, vI x1, vI x2, none], [.int (-1:Int32)], (H0 s o))) rfl ?_
  obtain rfl := Option.some.inj h
  exact QTri.retI rfl rfl
def B0_21 (s : List Int32) (x1 : Int32) (v : Int32 × Ob) : Option (((Ob) ⊕ (Int32 × QHeap)) ⊕ (Int32 × Ob)) :=
  (if v.1 < x1 then (F9 s v.1).bind fun r58 => (F10 s v.1).bind fun r60 => (F11 v.2 r58 r60).bind fun r72 => (if r72.1 = v.1 then some (.inr ((v.1 + (1 : Int32)), r72.2)) else some (.inl (Sum.inr ((0 : Int32), (H0 s r72.2))))) else some (.inl (Sum.inl v.2)))
theorem tB0_21 (Ad : QAd n0 ad) (W : QW Z a0) (s : List Int32) (x1 : Int32) (v : Int32 × Ob) {r : ((Ob) ⊕ (Int32 × QHeap)) ⊕ (Int32 × Ob)} {u : Option Value} {τ : QHeap} (h : B0_21 s x1 v = some r) (hx0 : ∀ x : Ob, r = .inl (Sum.inl x) → QTri l Z n0 ad 0 (52, [vR 0, vI x1, vR 1, none, none, none, none, none, none, none, none], [], (H0 s x)) u τ) (hx1 : ∀ x : Int32 × QHeap, r = .inl (Sum.inr x) → u = (some (Value.int x.1)) ∧ τ = x.2) (hc : ∀ x : Int32 × Ob, r = .inr x → QTri l Z n0 ad 0 (21, [vR 0, vI x1, vR 1, vI x.1, none, none, none, none, none, none, none], [], (H0 s x.2)) u τ) : QTri l Z n0 ad 0 (21, [vR 0, vI x1, vR 1, vI v.1, none, none, none, none, none, none, none], [], (H0 s v.2)) u τ := by
 unfold B0_21 at h
 refine zS Ad W 2 (st' := (23, [vR 0, vI x1, vR 1, vI v.1, none, none, none, none, none, none, none], [.int x1, .int v.1], (H0 s v.2))) rfl ?_
 rcases qite h with ⟨hc54, h⟩ | ⟨hc54, h⟩
 ·refine zF Ad W (t := 52) (f := 26) rfl (XT.ii_ge_f hc54) ?_
  refine zS Ad W 3 (st' := (29, [vR 0, vI x1, vR 1, vI v.1, none, none, none, none, none, none, none], [.int v.1, .ref 0, .ref 1], (H0 s v.2))) rfl ?_
  obtain ⟨r58, hr58, h⟩ := bind_eq_some_iff.mp h
  refine QTri.callS W (as := [.ref 0, .int v.1]) (rest := [.ref 1]) (w := (some (.int r58))) (σ₁ := (H0 s v.2)) rfl rfl rfl rfl rfl rfl rfl (tF9 Ad W v.2 s v.1 hr58) ?_
  refine zS Ad W 2 (st' := (34, [vR 0, vI x1, vR 1, vI v.1, none, none, none, none, none, none, none], [.int v.1, .ref 0, .int r58, .ref 1], (H0 s v.2))) rfl ?_
  obtain ⟨r60, hr60, h⟩ := bind_eq_some_iff.mp h
  refine QTri.callS W (as := [.ref 0, .int v.1]) (rest := [.int r58, .ref 1]) (w := (some (.int r60))) (σ₁ := (H0 s v.2)) rfl rfl rfl rfl rfl rfl rfl (tF10 Ad W v.2 s v.1 hr60) ?_
  obtain ⟨r72, hr72, h⟩ := bind_eq_some_iff.mp h
  refine QTri.callV W (a := 1) (as := [.int r58, .int r60]) (rest := []) (w := (some (.int r72.1))) (σ₁ := (H0 s r72.2)) rfl rfl rfl rfl rfl rfl rfl rfl (tF11 Ad W s v.2 r58 r60 hr72) ?_
  refine zS Ad W 1 (st' := (41, [vR 0, vI x1, vR 1, vI v.1, none, none, none, none, none, none, none], [.int v.1, .int r72.1], (H0 s r72.2))) rfl ?_
  rcases qite h with ⟨hc73, h⟩ | ⟨hc73, h⟩
  ·refine zT Ad W (t := 46) (f := 44) rfl (XT.ii_eq_t hc73) ?_
   refine zS Ad W 2 (st' := (21, [vR 0, vI x1, vR 1, vI (v.1 + (1:Int32)), none, none, none, none, none, none, none], [], (H0 s r72.2))) rfl ?_
   obtain rfl := Option.some.inj h
   exact zM [tt,tt,tt,tt,ff,ff,ff,ff,ff,ff,ff] (hc ((v.1 + (1:Int32)), r72.2) rfl)
  ·refine zF Ad W (t := 46) (f := 44) rfl (XT.ii_eq_f hc73) ?_
   refine zS Ad W 1 (st' := (45, [vR 0, vI x1, vR 1, vI v.1, none, none, none, none, none, none, none], [.int (0:Int32)], (H0 s r72.2))) rfl ?_
   obtain rfl := Option.some.inj h
   obtain ⟨rfl, rfl⟩ := hx1 ((0:Int32), (H0 s r72.2)) rfl
   exact QTri.retZ rfl rfl
 ·refine zT Ad W (t := 52) (f := 26) rfl (XT.ii_ge_t hc54) ?_
  obtain rfl := Option.some.inj h
  exact zM [tt,tt,tt,ff,ff,ff,ff,ff,ff,ff,ff] (hx0 v.2 rfl)
/-- tupleCount()I -/
def F13 (o : Ob) : Option (Int32) :=
 some (f_n o)
theorem tF13 (Ad : QAd n0 ad) (W : QW Z a0) (s : List Int32) (o : Ob) {r : Int32} (h : F13 o = some r) : QTri l Z n0 ad 13 (0, qentry [.ref 1] (pMaxL 13), [], (H0 s o)) (some (Value.int r)) (H0 s o) := by
 unfold F13 at h
 refine zS Ad W 2 (st' := (4, [vR 1], [.int (f_n o)], (H0 s o))) rfl ?_
 obtain rfl := Option.some.inj h
 exact QTri.retI rfl rfl
/-- queryCount()I -/
def F14 (o : Ob) : Option (Int32) :=
 some (f_queries o)
theorem tF14 (Ad : QAd n0 ad) (W : QW Z a0) (s : List Int32) (o : Ob) {r : Int32} (h : F14 o = some r) : QTri l Z n0 ad 14 (0, qentry [.ref 1] (pMaxL 14), [], (H0 s o)) (some (Value.int r)) (H0 s o) := by
 unfold F14 at h
 refine zS Ad W 2 (st' := (4, [vR 1], [.int (f_queries o)], (H0 s o))) rfl ?_
 obtain rfl := Option.some.inj h
 exact QTri.retI rfl rfl
/-- validQuery(I)Z -/
def F16 (o : Ob) (x1 : Int32) : Option (Int32) :=
 (if x1 < (0:Int32) then some (0:Int32) else (if x1 < (f_queries o) then (if x1 < (4:Int32) then some (1:Int32) else some (0:Int32)) else some (0:Int32)))
theorem tF16 (Ad : QAd n0 ad) (W : QW Z a0) (s : List Int32) (o : Ob) (x1 : Int32) {r : Int32} (h : F16 o x1 = some r) : QTri l Z n0 ad 16 (0, qentry [.ref 1, .int x1] (pMaxL 16), [], (H0 s o)) (some (Value.int r)) (H0 s o) := by
 unfold F16 at h
 refine zS Ad W 1 (st' := (1, [vR 1, vI x1], [.int x1], (H0 s o))) rfl ?_
 rcases qite h with ⟨hc88, h⟩ | ⟨hc88, h⟩
 ·refine zT Ad W (t := 21) (f := 4) rfl (XT.i0_lt_t hc88) ?_
  refine zS Ad W 1 (st' := (22, [vR 1, vI x1], [.int (0:Int32)], (H0 s o))) rfl ?_
  obtain rfl := Option.some.inj h
  exact QTri.retZ rfl rfl
 ·refine zF Ad W (t := 21) (f := 4) rfl (XT.i0_lt_f hc88) ?_
  refine zS Ad W 3 (st' := (9, [vR 1, vI x1], [.int (f_queries o), .int x1], (H0 s o))) rfl ?_
  rcases qite h with ⟨hc89, h⟩ | ⟨hc89, h⟩
  ·refine zF Ad W (t := 21) (f := 12) rfl (XT.ii_ge_f hc89) ?_
   refine zS Ad W 2 (st' := (14, [vR 1, vI x1], [.int (4:Int32), .int x1], (H0 s o))) rfl ?_
   rcases qite h with ⟨hc90, h⟩ | ⟨hc90, h⟩
   ·refine zF Ad W (t := 21) (f := 17) rfl (XT.ii_ge_f hc90) ?_
    refine zS Ad W 2 (st' := (22, [vR 1, vI x1], [.int (1:Int32)], (H0 s o))) rfl ?_
    obtain rfl := Option.some.inj h
    exact QTri.retZ rfl rfl
   ·refine zT Ad W (t := 21) (f := 17) rfl (XT.ii_ge_t hc90) ?_
    refine zS Ad W 1 (st' := (22, [vR 1, vI x1], [.int (0:Int32)], (H0 s o))) rfl ?_
    obtain rfl := Option.some.inj h
    exact QTri.retZ rfl rfl
  ·refine zT Ad W (t := 21) (f := 12) rfl (XT.ii_ge_t hc89) ?_
   refine zS Ad W 1 (st' := (22, [vR 1, vI x1], [.int (0:Int32)], (H0 s o))) rfl ?_
   obtain rfl := Option.some.inj h
   exact QTri.retZ rfl rfl
/-- queryRange(I)I -/
def F15 (o : Ob) (x1 : Int32) : Option (Int32) :=
 (F16 o x1).bind fun r91 => (if r91 = (0:Int32) then some (-1:Int32) else (aget (f_range o) x1).bind fun y93 => some y93)
theorem tF15 (Ad : QAd n0 ad) (W : QW Z a0) (s : List Int32) (o : Ob) (x1 : Int32) {r : Int32} (h : F15 o x1 = some r) : QTri l Z n0 ad 15 (0, qentry [.ref 1, .int x1] (pMaxL 15), [], (H0 s o)) (some (Value.int r)) (H0 s o) := by
 unfold F15 at h
 refine zS Ad W 2 (st' := (2, [vR 1, vI x1], [.int x1, .ref 1], (H0 s o))) rfl ?_
 obtain ⟨r91, hr91, h⟩ := bind_eq_some_iff.mp h
 refine QTri.callP W (a := 1) (as := [.int x1]) (rest := []) (w := (some (.int r91))) (σ₁ := (H0 s o)) rfl rfl rfl rfl rfl rfl rfl rfl (tF16 Ad W s o x1 hr91) ?_
 rcases qite h with ⟨hc92, h⟩ | ⟨hc92, h⟩
 ·refine zF Ad W (t := 10) (f := 8) rfl (XT.i0_ne_f hc92) ?_
  refine zS Ad W 1 (st' := (9, [vR 1, vI x1], [.int (-1:Int32)], (H0 s o))) rfl ?_
  obtain rfl := Option.some.inj h
  exact QTri.retI rfl rfl
 ·refine zT Ad W (t := 10) (f := 8) rfl (XT.i0_ne_t hc92) ?_
  refine zS Ad W 3 (st' := (15, [vR 1, vI x1], [.int x1, .ref 2], (H0 s o))) rfl ?_
  obtain ⟨y93, hy93, h⟩ := bind_eq_some_iff.mp h
  refine zB Ad W (f := fun y93 => (16, [vR 1, vI x1], [.int y93], (H0 s o))) rfl hy93 ?_
  obtain rfl := Option.some.inj h
  exact QTri.retI rfl rfl
/-- querySlide(I)I -/
def F17 (o : Ob) (x1 : Int32) : Option (Int32) :=
 (F16 o x1).bind fun r96 => (if r96 = (0:Int32) then some (-1:Int32) else (aget (f_slide o) x1).bind fun y98 => some y98)
theorem tF17 (Ad : QAd n0 ad) (W : QW Z a0) (s : List Int32) (o : Ob) (x1 : Int32) {r : Int32} (h : F17 o x1 = some r) : QTri l Z n0 ad 17 (0, qentry [.ref 1, .int x1] (pMaxL 17), [], (H0 s o)) (some (Value.int r)) (H0 s o) := by
 unfold F17 at h
 refine zS Ad W 2 (st' := (2, [vR 1, vI x1], [.int x1, .ref 1], (H0 s o))) rfl ?_
 obtain ⟨r96, hr96, h⟩ := bind_eq_some_iff.mp h
 refine QTri.callP W (a := 1) (as := [.int x1]) (rest := []) (w := (some (.int r96))) (σ₁ := (H0 s o)) rfl rfl rfl rfl rfl rfl rfl rfl (tF16 Ad W s o x1 hr96) ?_
 rcases qite h with ⟨hc97, h⟩ | ⟨hc97, h⟩
 ·refine zF Ad W (t := 10) (f := 8) rfl (XT.i0_ne_f hc97) ?_
  refine zS Ad W 1 (st' := (9, [vR 1, vI x1], [.int (-1:Int32)], (H0 s o))) rfl ?_
  obtain rfl := Option.some.inj h
  exact QTri.retI rfl rfl
 ·refine zT Ad W (t := 10) (f := 8) rfl (XT.i0_ne_t hc97) ?_
  refine zS Ad W 3 (st' := (15, [vR 1, vI x1], [.int x1, .ref 3], (H0 s o))) rfl ?_
  obtain ⟨y98, hy98, h⟩ := bind_eq_some_iff.mp h
  refine zB Ad W (f := fun y98 => (16, [vR 1, vI x1], [.int y98], (H0 s o))) rfl hy98 ?_
  obtain rfl := Option.some.inj h
  exact QTri.retI rfl rfl
/-- endOf(I)I -/
def F19 (o : Ob) (x1 : Int32) : Option (Int32) :=
 (aget (f_slide o) x1).bind fun y110 => (if y110 < (1:Int32) then some (0:Int32) else (qdiv (f_n o) y110).bind fun y112 => some (y110 * y112))
theorem tF19 (Ad : QAd n0 ad) (W : QW Z a0) (s : List Int32) (o : Ob) (x1 : Int32) {r : Int32} (h : F19 o x1 = some r) : QTri l Z n0 ad 19 (0, qentry [.ref 1, .int x1] (pMaxL 19), [], (H0 s o)) (some (Value.int r)) (H0 s o) := by
 unfold F19 at h
 refine zS Ad W 3 (st' := (5, [vR 1, vI x1, none], [.int x1, .ref 3], (H0 s o))) rfl ?_
 obtain ⟨y110, hy110, h⟩ := bind_eq_some_iff.mp h
 refine zB Ad W (f := fun y110 => (6, [vR 1, vI x1, none], [.int y110], (H0 s o))) rfl hy110 ?_
 refine zS Ad W 3 (st' := (9, [vR 1, vI x1, vI y110], [.int (1:Int32), .int y110], (H0 s o))) rfl ?_
 rcases qite h with ⟨hc111, h⟩ | ⟨hc111, h⟩
 ·refine zF Ad W (t := 14) (f := 12) rfl (XT.ii_ge_f hc111) ?_
  refine zS Ad W 1 (st' := (13, [vR 1, vI x1, vI y110], [.int (0:Int32)], (H0 s o))) rfl ?_
  obtain rfl := Option.some.inj h
  exact QTri.retI rfl rfl
 ·refine zT Ad W (t := 14) (f := 12) rfl (XT.ii_ge_t hc111) ?_
  refine zS Ad W 4 (st' := (20, [vR 1, vI x1, vI y110], [.int y110, .int (f_n o), .int y110], (H0 s o))) rfl ?_
  obtain ⟨y112, hy112, h⟩ := bind_eq_some_iff.mp h
  refine zB Ad W (f := fun y112 => (21, [vR 1, vI x1, vI y110], [.int y112, .int y110], (H0 s o))) rfl hy112 ?_
  refine zS Ad W 1 (st' := (22, [vR 1, vI x1, vI y110], [.int (y110 * y112)], (H0 s o))) rfl ?_
  obtain rfl := Option.some.inj h
  exact QTri.retI rfl rfl
/-- windowStart(I)I -/
def F18 (o : Ob) (x1 : Int32) : Option (Int32) :=
 (F16 o x1).bind fun r108 => (if r108 = (0:Int32) then some (-1:Int32) else (F19 o x1).bind fun r113 => (aget (f_range o) x1).bind fun y114 => (if (r113 - y114) < (0:Int32) then some (0:Int32) else some (r113 - y114)))
theorem tF18 (Ad : QAd n0 ad) (W : QW Z a0) (s : List Int32) (o : Ob) (x1 : Int32) {r : Int32} (h : F18 o x1 = some r) : QTri l Z n0 ad 18 (0, qentry [.ref 1, .int x1] (pMaxL 18), [], (H0 s o)) (some (Value.int r)) (H0 s o) := by
 unfold F18 at h
 refine zS Ad W 2 (st' := (2, [vR 1, vI x1, none], [.int x1, .ref 1], (H0 s o))) rfl ?_
 obtain ⟨r108, hr108, h⟩ := bind_eq_some_iff.mp h
 refine QTri.callP W (a := 1) (as := [.int x1]) (rest := []) (w := (some (.int r108))) (σ₁ := (H0 s o)) rfl rfl rfl rfl rfl rfl rfl rfl (tF16 Ad W s o x1 hr108) ?_
 rcases qite h with ⟨hc109, h⟩ | ⟨hc109, h⟩
 ·refine zF Ad W (t := 10) (f := 8) rfl (XT.i0_ne_f hc109) ?_
  refine zS Ad W 1 (st' := (9, [vR 1, vI x1, none], [.int (-1:Int32)], (H0 s o))) rfl ?_
  obtain rfl := Option.some.inj h
  exact QTri.retI rfl rfl
 ·refine zT Ad W (t := 10) (f := 8) rfl (XT.i0_ne_t hc109) ?_
  refine zS Ad W 2 (st' := (12, [vR 1, vI x1, none], [.int x1, .ref 1], (H0 s o))) rfl ?_
  obtain ⟨r113, hr113, h⟩ := bind_eq_some_iff.mp h
  refine QTri.callP W (a := 1) (as := [.int x1]) (rest := []) (w := (some (.int r113))) (σ₁ := (H0 s o)) rfl rfl rfl rfl rfl rfl rfl rfl (tF19 Ad W s o x1 hr113) ?_
  refine zS Ad W 3 (st' := (20, [vR 1, vI x1, none], [.int x1, .ref 2, .int r113], (H0 s o))) rfl ?_
  obtain ⟨y114, hy114, h⟩ := bind_eq_some_iff.mp h
  refine zB Ad W (f := fun y114 => (21, [vR 1, vI x1, none], [.int y114, .int r113], (H0 s o))) rfl hy114 ?_
  refine zS Ad W 3 (st' := (24, [vR 1, vI x1, vI (r113 - y114)], [.int (r113 - y114)], (H0 s o))) rfl ?_
  rcases qite h with ⟨hc115, h⟩ | ⟨hc115, h⟩
  ·refine zF Ad W (t := 29) (f := 27) rfl (XT.i0_ge_f hc115) ?_
   refine zS Ad W 1 (st' := (28, [vR 1, vI x1, vI (r113 - y114)], [.int (0:Int32)], (H0 s o))) rfl ?_
   obtain rfl := Option.some.inj h
   exact QTri.retI rfl rfl
  ·refine zT Ad W (t := 29) (f := 27) rfl (XT.i0_ge_t hc115) ?_
   refine zS Ad W 1 (st' := (30, [vR 1, vI x1, vI (r113 - y114)], [.int (r113 - y114)], (H0 s o))) rfl ?_
   obtain rfl := Option.some.inj h
   exact QTri.retI rfl rfl
/-- windowEnd(I)I -/
def F20 (o : Ob) (x1 : Int32) : Option (Int32) :=
 (F16 o x1).bind fun r118 => (if r118 = (0:Int32) then some (-1:Int32) else (F19 o x1).bind fun r120 => some r120)
theorem tF20 (Ad : QAd n0 ad) (W : QW Z a0) (s : List Int32) (o : Ob) (x1 : Int32) {r : Int32} (h : F20 o x1 = some r) : QTri l Z n0 ad 20 (0, qentry [.ref 1, .int x1] (pMaxL 20), [], (H0 s o)) (some (Value.int r)) (H0 s o) := by
 unfold F20 at h
 refine zS Ad W 2 (st' := (2, [vR 1, vI x1], [.int x1, .ref 1], (H0 s o))) rfl ?_
 obtain ⟨r118, hr118, h⟩ := bind_eq_some_iff.mp h
 refine QTri.callP W (a := 1) (as := [.int x1]) (rest := []) (w := (some (.int r118))) (σ₁ := (H0 s o)) rfl rfl rfl rfl rfl rfl rfl rfl (tF16 Ad W s o x1 hr118) ?_
 rcases qite h with ⟨hc119, h⟩ | ⟨hc119, h⟩
 ·refine zF Ad W (t := 10) (f := 8) rfl (XT.i0_ne_f hc119) ?_
  refine zS Ad W 1 (st' := (9, [vR 1, vI x1], [.int (-1:Int32)], (H0 s o))) rfl ?_
  obtain rfl := Option.some.inj h
  exact QTri.retI rfl rfl
 ·refine zT Ad W (t := 10) (f := 8) rfl (XT.i0_ne_t hc119) ?_
  refine zS Ad W 2 (st' := (12, [vR 1, vI x1], [.int x1, .ref 1], (H0 s o))) rfl ?_
  obtain ⟨r120, hr120, h⟩ := bind_eq_some_iff.mp h
  refine QTri.callP W (a := 1) (as := [.int x1]) (rest := []) (w := (some (.int r120))) (σ₁ := (H0 s o)) rfl rfl rfl rfl rfl rfl rfl rfl (tF19 Ad W s o x1 hr120) ?_
  obtain rfl := Option.some.inj h
  exact QTri.retI rfl rfl
/-- evaluations(I)I -/
def F21 (o : Ob) (x1 : Int32) : Option (Int32) :=
 (F16 o x1).bind fun r123 => (if r123 = (0:Int32) then some (-1:Int32) else (aget (f_slide o) x1).bind fun y125 => (if y125 < (1:Int32) then some (0:Int32) else (qdiv (f_n o) y125).bind fun y127 => some y127))
theorem tF21 (Ad : QAd n0 ad) (W : QW Z a0) (s : List Int32) (o : Ob) (x1 : Int32) {r : Int32} (h : F21 o x1 = some r) : QTri l Z n0 ad 21 (0, qentry [.ref 1, .int x1] (pMaxL 21), [], (H0 s o)) (some (Value.int r)) (H0 s o) := by
 unfold F21 at h
 refine zS Ad W 2 (st' := (2, [vR 1, vI x1, none], [.int x1, .ref 1], (H0 s o))) rfl ?_
 obtain ⟨r123, hr123, h⟩ := bind_eq_some_iff.mp h
 refine QTri.callP W (a := 1) (as := [.int x1]) (rest := []) (w := (some (.int r123))) (σ₁ := (H0 s o)) rfl rfl rfl rfl rfl rfl rfl rfl (tF16 Ad W s o x1 hr123) ?_
 rcases qite h with ⟨hc124, h⟩ | ⟨hc124, h⟩
 ·refine zF Ad W (t := 10) (f := 8) rfl (XT.i0_ne_f hc124) ?_
  refine zS Ad W 1 (st' := (9, [vR 1, vI x1, none], [.int (-1:Int32)], (H0 s o))) rfl ?_
  obtain rfl := Option.some.inj h
  exact QTri.retI rfl rfl
 ·refine zT Ad W (t := 10) (f := 8) rfl (XT.i0_ne_t hc124) ?_
  refine zS Ad W 3 (st' := (15, [vR 1, vI x1, none], [.int x1, .ref 3], (H0 s o))) rfl ?_
  obtain ⟨y125, hy125, h⟩ := bind_eq_some_iff.mp h
  refine zB Ad W (f := fun y125 => (16, [vR 1, vI x1, none], [.int y125], (H0 s o))) rfl hy125 ?_
  refine zS Ad W 3 (st' := (19, [vR 1, vI x1, vI y125], [.int (1:Int32), .int y125], (H0 s o))) rfl ?_
  rcases qite h with ⟨hc126, h⟩ | ⟨hc126, h⟩
  ·refine zF Ad W (t := 24) (f := 22) rfl (XT.ii_ge_f hc126) ?_
   refine zS Ad W 1 (st' := (23, [vR 1, vI x1, vI y125], [.int (0:Int32)], (H0 s o))) rfl ?_
   obtain rfl := Option.some.inj h
   exact QTri.retI rfl rfl
  ·refine zT Ad W (t := 24) (f := 22) rfl (XT.ii_ge_t hc126) ?_
   refine zS Ad W 3 (st' := (29, [vR 1, vI x1, vI y125], [.int y125, .int (f_n o)], (H0 s o))) rfl ?_
   obtain ⟨y127, hy127, h⟩ := bind_eq_some_iff.mp h
   refine zB Ad W (f := fun y127 => (30, [vR 1, vI x1, vI y125], [.int y127], (H0 s o))) rfl hy127 ?_
   obtain rfl := Option.some.inj h
   exact QTri.retI rfl rfl
/-- validEntry(I)Z -/
def F23 (x1 : Int32) : Option (Int32) :=
 (if x1 < (0:Int32) then some (0:Int32) else (if (3:Int32) < x1 then some (0:Int32) else some (1:Int32)))
theorem tF23 (Ad : QAd n0 ad) (W : QW Z a0) {a : Nat} {σ : QHeap} (x1 : Int32) {r : Int32} (h : F23 x1 = some r) : QTri l Z n0 ad 23 (0, qentry [.ref a, .int x1] (pMaxL 23), [], σ) (some (Value.int r)) σ := by
 unfold F23 at h
 refine zS Ad W 1 (st' := (1, [vR a, vI x1], [.int x1], σ)) rfl ?_
 rcases qite h with ⟨hc134, h⟩ | ⟨hc134, h⟩
 ·refine zT Ad W (t := 13) (f := 4) rfl (XT.i0_lt_t hc134) ?_
  refine zS Ad W 1 (st' := (14, [vR a, vI x1], [.int (0:Int32)], σ)) rfl ?_
  obtain rfl := Option.some.inj h
  exact QTri.retZ rfl rfl
 ·refine zF Ad W (t := 13) (f := 4) rfl (XT.i0_lt_f hc134) ?_
  refine zS Ad W 2 (st' := (6, [vR a, vI x1], [.int (3:Int32), .int x1], σ)) rfl ?_
  rcases qite h with ⟨hc135, h⟩ | ⟨hc135, h⟩
  ·refine zT Ad W (t := 13) (f := 9) rfl (XT.ii_gt_t hc135) ?_
   refine zS Ad W 1 (st' := (14, [vR a, vI x1], [.int (0:Int32)], σ)) rfl ?_
   obtain rfl := Option.some.inj h
   exact QTri.retZ rfl rfl
  ·refine zF Ad W (t := 13) (f := 9) rfl (XT.ii_gt_f hc135) ?_
   refine zS Ad W 2 (st' := (14, [vR a, vI x1], [.int (1:Int32)], σ)) rfl ?_
   obtain rfl := Option.some.inj h
   exact QTri.retZ rfl rfl
/-- result(II)I -/
def F22 (o : Ob) (x1 : Int32) (x2 : Int32) : Option (Int32) :=
 (F16 o x1).bind fun r132 => (if r132 = (0:Int32) then some (0:Int32) else (F23 x2).bind fun r136 => (if r136 = (0:Int32) then some (0:Int32) else (aget (f_snap o) ((x1 * (4:Int32)) + x2)).bind fun y138 => some y138))
theorem tF22 (Ad : QAd n0 ad) (W : QW Z a0) (s : List Int32) (o : Ob) (x1 : Int32) (x2 : Int32) {r : Int32} (h : F22 o x1 x2 = some r) : QTri l Z n0 ad 22 (0, qentry [.ref 1, .int x1, .int x2] (pMaxL 22), [], (H0 s o)) (some (Value.int r)) (H0 s o) := by
 unfold F22 at h
 refine zS Ad W 2 (st' := (2, [vR 1, vI x1, vI x2], [.int x1, .ref 1], (H0 s o))) rfl ?_
 obtain ⟨r132, hr132, h⟩ := bind_eq_some_iff.mp h
 refine QTri.callP W (a := 1) (as := [.int x1]) (rest := []) (w := (some (.int r132))) (σ₁ := (H0 s o)) rfl rfl rfl rfl rfl rfl rfl rfl (tF16 Ad W s o x1 hr132) ?_
 rcases qite h with ⟨hc133, h⟩ | ⟨hc133, h⟩
 ·refine zF Ad W (t := 10) (f := 8) rfl (XT.i0_ne_f hc133) ?_
  refine zS Ad W 1 (st' := (9, [vR 1, vI x1, vI x2], [.int (0:Int32)], (H0 s o))) rfl ?_
  obtain rfl := Option.some.inj h
  exact QTri.retI rfl rfl
 ·refine zT Ad W (t := 10) (f := 8) rfl (XT.i0_ne_t hc133) ?_
  refine zS Ad W 2 (st' := (12, [vR 1, vI x1, vI x2], [.int x2, .ref 1], (H0 s o))) rfl ?_
  obtain ⟨r136, hr136, h⟩ := bind_eq_some_iff.mp h
  refine QTri.callP W (a := 1) (as := [.int x2]) (rest := []) (w := (some (.int r136))) (σ₁ := (H0 s o)) rfl rfl rfl rfl rfl rfl rfl rfl (tF23 Ad W x2 hr136) ?_
  rcases qite h with ⟨hc137, h⟩ | ⟨hc137, h⟩
  ·refine zF Ad W (t := 20) (f := 18) rfl (XT.i0_ne_f hc137) ?_
   refine zS Ad W 1 (st' := (19, [vR 1, vI x1, vI x2], [.int (0:Int32)], (H0 s o))) rfl ?_
   obtain rfl := Option.some.inj h
   exact QTri.retI rfl rfl
  ·refine zT Ad W (t := 20) (f := 18) rfl (XT.i0_ne_t hc137) ?_
   refine zS Ad W 7 (st' := (29, [vR 1, vI x1, vI x2], [.int ((x1 * (4:Int32)) + x2), .ref 9], (H0 s o))) rfl ?_
   obtain ⟨y138, hy138, h⟩ := bind_eq_some_iff.mp h
   refine zB Ad W (f := fun y138 => (30, [vR 1, vI x1, vI x2], [.int y138], (H0 s o))) rfl hy138 ?_
   obtain rfl := Option.some.inj h
   exact QTri.retI rfl rfl
/-- isPush([II)Z -/
def F30 (s : List Int32) (x1 : Int32) : Option (Int32) :=
 (F1 s ((9:Int32) + ((5:Int32) * x1))).bind fun r141 => (if (r141 &&& (15:Int32)) = (15:Int32) then some (0:Int32) else some (1:Int32))
theorem tF30 (Ad : QAd n0 ad) (W : QW Z a0) (e0 : Ob) (s : List Int32) (x1 : Int32) {r : Int32} (h : F30 s x1 = some r) : QTri l Z n0 ad 30 (0, qentry [.ref 0, .int x1] (pMaxL 30), [], (H0 s e0)) (some (Value.int r)) (H0 s e0) := by
 unfold F30 at h
 refine zS Ad W 6 (st' := (7, [vR 0, vI x1], [.int ((9:Int32) + ((5:Int32) * x1)), .ref 0], (H0 s e0))) rfl ?_
 obtain ⟨r141, hr141, h⟩ := bind_eq_some_iff.mp h
 refine QTri.callS W (as := [.ref 0, .int ((9:Int32) + ((5:Int32) * x1))]) (rest := []) (w := (some (.int r141))) (σ₁ := (H0 s e0)) rfl rfl rfl rfl rfl rfl rfl (tF1a1 Ad W e0 s ((9:Int32) + ((5:Int32) * x1)) hr141) ?_
 refine zS Ad W 3 (st' := (15, [vR 0, vI x1], [.int (15:Int32), .int (r141 &&& (15:Int32))], (H0 s e0))) rfl ?_
 rcases qite h with ⟨hc142, h⟩ | ⟨hc142, h⟩
 ·refine zT Ad W (t := 22) (f := 18) rfl (XT.ii_eq_t hc142) ?_
  refine zS Ad W 1 (st' := (23, [vR 0, vI x1], [.int (0:Int32)], (H0 s e0))) rfl ?_
  obtain rfl := Option.some.inj h
  exact QTri.retZ rfl rfl
 ·refine zF Ad W (t := 22) (f := 18) rfl (XT.ii_eq_f hc142) ?_
  refine zS Ad W 2 (st' := (23, [vR 0, vI x1], [.int (1:Int32)], (H0 s e0))) rfl ?_
  obtain rfl := Option.some.inj h
  exact QTri.retZ rfl rfl
def J24_181 (s : List Int32) (x2 : Int32) (x3 : Int32) (x4 : Int32) (x5 : Int32) (x6 : Int32) (x7 : Int32) (x8 : Int32) (x9 : Int32) (x10 : Int32) (x11 : Int32) : Option (((Int32 × Int32 × Int32 × Int32)) ⊕ (Int32 × Int32 × Int32 × Int32 × Int32 × Int32)) :=
  some (.inr (x6, x7, x8, x9, x10, (x11 + (1 : Int32))))
theorem tJ24_181 (Ad : QAd n0 ad) (W : QW Z a0) (e0 : Ob) (s : List Int32) (x2 : Int32) (x3 : Int32) (x4 : Int32) (x5 : Int32) (x6 : Int32) (x7 : Int32) (x8 : Int32) (x9 : Int32) (x10 : Int32) (x11 : Int32) {r : ((Int32 × Int32 × Int32 × Int32)) ⊕ (Int32 × Int32 × Int32 × Int32 × Int32 × Int32)} {u : Option Value} {τ : QHeap} (h : J24_181 s x2 x3 x4 x5 x6 x7 x8 x9 x10 x11 = some r) (hx0 : ∀ x : Int32 × Int32 × Int32 × Int32, r = .inl x → QTri l Z n0 ad 24 (187, [none, none, none, none, none, vI x5, vI x.1, vI x.2.1, vI x.2.2.1, vI x.2.2.2, none, none, none, none, none, none, none, none, none, none, none], [], (H0 s e0)) u τ) (hc : ∀ x : Int32 × Int32 × Int32 × Int32 × Int32 × Int32, r = .inr x → QTri l Z n0 ad 24 (18, [vR 0, none, vI x2, vI x3, vI x4, vI x5, vI x.1, vI x.2.1, vI x.2.2.1, vI x.2.2.2.1, vI x.2.2.2.2.1, vI x.2.2.2.2.2, none, none, none, none, none, none, none, none, none], [], (H0 s e0)) u τ) : QTri l Z n0 ad 24 (181, [vR 0, none, vI x2, vI x3, vI x4, vI x5, vI x6, vI x7, vI x8, vI x9, vI x10, vI x11, none, none, none, none, none, none, none, none, none], [], (H0 s e0)) u τ := by
 unfold J24_181 at h
 refine zS Ad W 2 (st' := (18, [vR 0, none, vI x2, vI x3, vI x4, vI x5, vI x6, vI x7, vI x8, vI x9, vI x10, vI (x11 + (1:Int32)), none, none, none, none, none, none, none, none, none], [], (H0 s e0))) rfl ?_
 obtain rfl := Option.some.inj h
 exact zM [tt,ff,tt,tt,tt,tt,tt,tt,tt,tt,tt,tt,ff,ff,ff,ff,ff,ff,ff,ff,ff] (hc (x6, x7, x8, x9, x10, (x11 + (1:Int32))) rfl)
def J24_178 (s : List Int32) (x2 : Int32) (x3 : Int32) (x4 : Int32) (x5 : Int32) (x6 : Int32) (x7 : Int32) (x8 : Int32) (x9 : Int32) (x10 : Int32) (x11 : Int32) : Option (((Int32 × Int32 × Int32 × Int32)) ⊕ (Int32 × Int32 × Int32 × Int32 × Int32 × Int32)) :=
  (J24_181 s x2 x3 x4 x5 x6 x7 x8 x9 (x10 + (1 : Int32)) x11)
theorem tJ24_178 (Ad : QAd n0 ad) (W : QW Z a0) (e0 : Ob) (s : List Int32) (x2 : Int32) (x3 : Int32) (x4 : Int32) (x5 : Int32) (x6 : Int32) (x7 : Int32) (x8 : Int32) (x9 : Int32) (x10 : Int32) (x11 : Int32) {r : ((Int32 × Int32 × Int32 × Int32)) ⊕ (Int32 × Int32 × Int32 × Int32 × Int32 × Int32)} {u : Option Value} {τ : QHeap} (h : J24_178 s x2 x3 x4 x5 x6 x7 x8 x9 x10 x11 = some r) (hx0 : ∀ x : Int32 × Int32 × Int32 × Int32, r = .inl x → QTri l Z n0 ad 24 (187, [none, none, none, none, none, vI x5, vI x.1, vI x.2.1, vI x.2.2.1, vI x.2.2.2, none, none, none, none, none, none, none, none, none, none, none], [], (H0 s e0)) u τ) (hc : ∀ x : Int32 × Int32 × Int32 × Int32 × Int32 × Int32, r = .inr x → QTri l Z n0 ad 24 (18, [vR 0, none, vI x2, vI x3, vI x4, vI x5, vI x.1, vI x.2.1, vI x.2.2.1, vI x.2.2.2.1, vI x.2.2.2.2.1, vI x.2.2.2.2.2, none, none, none, none, none, none, none, none, none], [], (H0 s e0)) u τ) : QTri l Z n0 ad 24 (178, [vR 0, none, vI x2, vI x3, vI x4, vI x5, vI x6, vI x7, vI x8, vI x9, vI x10, vI x11, none, none, none, none, none, none, none, none, none], [], (H0 s e0)) u τ := by
 unfold J24_178 at h
 refine zS Ad W 1 (st' := (181, [vR 0, none, vI x2, vI x3, vI x4, vI x5, vI x6, vI x7, vI x8, vI x9, vI (x10 + (1:Int32)), vI x11, none, none, none, none, none, none, none, none, none], [], (H0 s e0))) rfl ?_
 exact zM [tt,ff,tt,tt,tt,tt,tt,tt,tt,tt,tt,tt,ff,ff,ff,ff,ff,ff,ff,ff,ff] (tJ24_181 Ad W e0 s x2 x3 x4 x5 x6 x7 x8 x9 (x10 + (1:Int32)) x11 h hx0 hc)
/-- val(I)I -/
def F31 (x0 : Int32) : Option (Int32) :=
 (if (x0 &&& (8:Int32)) = (0:Int32) then some ((x0 &&& (7:Int32)) - (3:Int32)) else some (x0 * (-1640531535:Int32)))
theorem tF31 (Ad : QAd n0 ad) (W : QW Z a0) {σ : QHeap} (x0 : Int32) {r : Int32} (h : F31 x0 = some r) : QTri l Z n0 ad 31 (0, qentry [.int x0] (pMaxL 31), [], σ) (some (Value.int r)) σ := by
 unfold F31 at h
 refine zS Ad W 3 (st' := (4, [vI x0], [.int (x0 &&& (8:Int32))], σ)) rfl ?_
 rcases qite h with ⟨hc148, h⟩ | ⟨hc148, h⟩
 ·refine zF Ad W (t := 16) (f := 7) rfl (XT.i0_ne_f hc148) ?_
  refine zS Ad W 6 (st' := (20, [vI x0], [.int ((x0 &&& (7:Int32)) - (3:Int32))], σ)) rfl ?_
  obtain rfl := Option.some.inj h
  exact QTri.retI rfl rfl
 ·refine zT Ad W (t := 16) (f := 7) rfl (XT.i0_ne_t hc148) ?_
  refine zS Ad W 3 (st' := (20, [vI x0], [.int (x0 * (-1640531535:Int32))], σ)) rfl ?_
  obtain rfl := Option.some.inj h
  exact QTri.retI rfl rfl
def B24_18 (s : List Int32) (x2 : Int32) (x3 : Int32) (x4 : Int32) (x5 : Int32) (v : Int32 × Int32 × Int32 × Int32 × Int32 × Int32) : Option (((Int32 × Int32 × Int32 × Int32)) ⊕ (Int32 × Int32 × Int32 × Int32 × Int32 × Int32)) :=
  (if x2 < v.2.2.2.2.2 then some (.inl (v.1, v.2.1, v.2.2.1, v.2.2.2.1)) else (F30 s v.2.2.2.2.2).bind fun r143 => (if r143 = (0 : Int32) then (J24_181 s x2 x3 x4 x5 v.1 v.2.1 v.2.2.1 v.2.2.2.1 v.2.2.2.2.1 v.2.2.2.2.2) else (if v.2.2.2.2.1 < x3 then (J24_178 s x2 x3 x4 x5 v.1 v.2.1 v.2.2.1 v.2.2.2.1 v.2.2.2.2.1 v.2.2.2.2.2) else (if v.2.2.2.2.1 < x4 then (F1 s (((9 : Int32) + ((5 : Int32) * v.2.2.2.2.2)) + (1 : Int32))).bind fun r147 => (F31 r147).bind fun r149 => (F1 s (((9 : Int32) + ((5 : Int32) * v.2.2.2.2.2)) + (2 : Int32))).bind fun r150 => (F31 r150).bind fun r151 => (F1 s (((9 : Int32) + ((5 : Int32) * v.2.2.2.2.2)) + (3 : Int32))).bind fun r152 => (F31 r152).bind fun r153 => (F1 s (((9 : Int32) + ((5 : Int32) * v.2.2.2.2.2)) + (4 : Int32))).bind fun r154 => (F31 r154).bind fun r155 => (J24_178 s x2 x3 x4 x5 ((v.1 * r149) + (v.2.1 * r153)) ((v.1 * r151) + (v.2.1 * r155)) ((v.2.2.1 * r149) + (v.2.2.2.1 * r153)) ((v.2.2.1 * r151) + (v.2.2.2.1 * r155)) v.2.2.2.2.1 v.2.2.2.2.2) else (J24_178 s x2 x3 x4 x5 v.1 v.2.1 v.2.2.1 v.2.2.2.1 v.2.2.2.2.1 v.2.2.2.2.2)))))
theorem tB24_18 (Ad : QAd n0 ad) (W : QW Z a0) (e0 : Ob) (s : List Int32) (x2 : Int32) (x3 : Int32) (x4 : Int32) (x5 : Int32) (v : Int32 × Int32 × Int32 × Int32 × Int32 × Int32) {r : ((Int32 × Int32 × Int32 × Int32)) ⊕ (Int32 × Int32 × Int32 × Int32 × Int32 × Int32)} {u : Option Value} {τ : QHeap} (h : B24_18 s x2 x3 x4 x5 v = some r) (hx0 : ∀ x : Int32 × Int32 × Int32 × Int32, r = .inl x → QTri l Z n0 ad 24 (187, [none, none, none, none, none, vI x5, vI x.1, vI x.2.1, vI x.2.2.1, vI x.2.2.2, none, none, none, none, none, none, none, none, none, none, none], [], (H0 s e0)) u τ) (hc : ∀ x : Int32 × Int32 × Int32 × Int32 × Int32 × Int32, r = .inr x → QTri l Z n0 ad 24 (18, [vR 0, none, vI x2, vI x3, vI x4, vI x5, vI x.1, vI x.2.1, vI x.2.2.1, vI x.2.2.2.1, vI x.2.2.2.2.1, vI x.2.2.2.2.2, none, none, none, none, none, none, none, none, none], [], (H0 s e0)) u τ) : QTri l Z n0 ad 24 (18, [vR 0, none, vI x2, vI x3, vI x4, vI x5, vI v.1, vI v.2.1, vI v.2.2.1, vI v.2.2.2.1, vI v.2.2.2.2.1, vI v.2.2.2.2.2, none, none, none, none, none, none, none, none, none], [], (H0 s e0)) u τ := by
 unfold B24_18 at h
 refine zS Ad W 2 (st' := (21, [vR 0, none, vI x2, vI x3, vI x4, vI x5, vI v.1, vI v.2.1, vI v.2.2.1, vI v.2.2.2.1, vI v.2.2.2.2.1, vI v.2.2.2.2.2, none, none, none, none, none, none, none, none, none], [.int x2, .int v.2.2.2.2.2], (H0 s e0))) rfl ?_
 rcases qite h with ⟨hc140, h⟩ | ⟨hc140, h⟩
 ·refine zT Ad W (t := 187) (f := 24) rfl (XT.ii_gt_t hc140) ?_
  obtain rfl := Option.some.inj h
  exact zM [ff,ff,ff,ff,ff,tt,tt,tt,tt,tt,ff,ff,ff,ff,ff,ff,ff,ff,ff,ff,ff] (hx0 (v.1, v.2.1, v.2.2.1, v.2.2.2.1) rfl)
 ·refine zF Ad W (t := 187) (f := 24) rfl (XT.ii_gt_f hc140) ?_
  refine zS Ad W 2 (st' := (27, [vR 0, none, vI x2, vI x3, vI x4, vI x5, vI v.1, vI v.2.1, vI v.2.2.1, vI v.2.2.2.1, vI v.2.2.2.2.1, vI v.2.2.2.2.2, none, none, none, none, none, none, none, none, none], [.int v.2.2.2.2.2, .ref 0], (H0 s e0))) rfl ?_
  obtain ⟨r143, hr143, h⟩ := bind_eq_some_iff.mp h
  refine QTri.callS W (as := [.ref 0, .int v.2.2.2.2.2]) (rest := []) (w := (some (.int r143))) (σ₁ := (H0 s e0)) rfl rfl rfl rfl rfl rfl rfl (tF30 Ad W e0 s v.2.2.2.2.2 hr143) ?_
  rcases qite h with ⟨hc144, h⟩ | ⟨hc144, h⟩
  ·refine zF Ad W (t := 36) (f := 33) rfl (XT.i0_ne_f hc144) ?_
   refine zS Ad W 1 (st' := (181, [vR 0, none, vI x2, vI x3, vI x4, vI x5, vI v.1, vI v.2.1, vI v.2.2.1, vI v.2.2.2.1, vI v.2.2.2.2.1, vI v.2.2.2.2.2, none, none, none, none, none, none, none, none, none], [], (H0 s e0))) rfl ?_
   exact zM [tt,ff,tt,tt,tt,tt,tt,tt,tt,tt,tt,tt,ff,ff,ff,ff,ff,ff,ff,ff,ff] (tJ24_181 Ad W e0 s x2 x3 x4 x5 v.1 v.2.1 v.2.2.1 v.2.2.2.1 v.2.2.2.2.1 v.2.2.2.2.2 h hx0 hc)
  ·refine zT Ad W (t := 36) (f := 33) rfl (XT.i0_ne_t hc144) ?_
   refine zS Ad W 2 (st' := (39, [vR 0, none, vI x2, vI x3, vI x4, vI x5, vI v.1, vI v.2.1, vI v.2.2.1, vI v.2.2.2.1, vI v.2.2.2.2.1, vI v.2.2.2.2.2, none, none, none, none, none, none, none, none, none], [.int x3, .int v.2.2.2.2.1], (H0 s e0))) rfl ?_
   rcases qite h with ⟨hc145, h⟩ | ⟨hc145, h⟩
   ·refine zT Ad W (t := 178) (f := 42) rfl (XT.ii_lt_t hc145) ?_
    exact zM [tt,ff,tt,tt,tt,tt,tt,tt,tt,tt,tt,tt,ff,ff,ff,ff,ff,ff,ff,ff,ff] (tJ24_178 Ad W e0 s x2 x3 x4 x5 v.1 v.2.1 v.2.2.1 v.2.2.2.1 v.2.2.2.2.1 v.2.2.2.2.2 h hx0 hc)
   ·refine zF Ad W (t := 178) (f := 42) rfl (XT.ii_lt_f hc145) ?_
    refine zS Ad W 2 (st' := (46, [vR 0, none, vI x2, vI x3, vI x4, vI x5, vI v.1, vI v.2.1, vI v.2.2.1, vI v.2.2.2.1, vI v.2.2.2.2.1, vI v.2.2.2.2.2, none, none, none, none, none, none, none, none, none], [.int x4, .int v.2.2.2.2.1], (H0 s e0))) rfl ?_
    rcases qite h with ⟨hc146, h⟩ | ⟨hc146, h⟩
    ·refine zF Ad W (t := 178) (f := 49) rfl (XT.ii_ge_f hc146) ?_
     refine zS Ad W 10 (st' := (63, [vR 0, none, vI x2, vI x3, vI x4, vI x5, vI v.1, vI v.2.1, vI v.2.2.1, vI v.2.2.2.1, vI v.2.2.2.2.1, vI v.2.2.2.2.2, vI ((9:Int32) + ((5:Int32) * v.2.2.2.2.2)), none, none, none, none, none, none, none, none], [.int (((9:Int32) + ((5:Int32) * v.2.2.2.2.2)) + (1:Int32)), .ref 0], (H0 s e0))) rfl ?_
     obtain ⟨r147, hr147, h⟩ := bind_eq_some_iff.mp h
     refine QTri.callS W (as := [.ref 0, .int (((9:Int32) + ((5:Int32) * v.2.2.2.2.2)) + (1:Int32))]) (rest := []) (w := (some (.int r147))) (σ₁ := (H0 s e0)) rfl rfl rfl rfl rfl rfl rfl (tF1a1 Ad W e0 s (((9:Int32) + ((5:Int32) * v.2.2.2.2.2)) + (1:Int32)) hr147) ?_
     obtain ⟨r149, hr149, h⟩ := bind_eq_some_iff.mp h
     refine QTri.callS W (as := [.int r147]) (rest := []) (w := (some (.int r149))) (σ₁ := (H0 s e0)) rfl rfl rfl rfl rfl rfl rfl (tF31 Ad W r147 hr149) ?_
     refine zS Ad W 5 (st' := (76, [vR 0, none, vI x2, vI x3, vI x4, vI x5, vI v.1, vI v.2.1, vI v.2.2.1, vI v.2.2.2.1, vI v.2.2.2.2.1, vI v.2.2.2.2.2, vI ((9:Int32) + ((5:Int32) * v.2.2.2.2.2)), vI r149, none, none, none, none, none, none, none], [.int (((9:Int32) + ((5:Int32) * v.2.2.2.2.2)) + (2:Int32)), .ref 0], (H0 s e0))) rfl ?_
     obtain ⟨r150, hr150, h⟩ := bind_eq_some_iff.mp h
     refine QTri.callS W (as := [.ref 0, .int (((9:Int32) + ((5:Int32) * v.2.2.2.2.2)) + (2:Int32))]) (rest := []) (w := (some (.int r150))) (σ₁ := (H0 s e0)) rfl rfl rfl rfl rfl rfl rfl (tF1a1 Ad W e0 s (((9:Int32) + ((5:Int32) * v.2.2.2.2.2)) + (2:Int32)) hr150) ?_
     obtain ⟨r151, hr151, h⟩ := bind_eq_some_iff.mp h
     refine QTri.callS W (as := [.int r150]) (rest := []) (w := (some (.int r151))) (σ₁ := (H0 s e0)) rfl rfl rfl rfl rfl rfl rfl (tF31 Ad W r150 hr151) ?_
     refine zS Ad W 5 (st' := (89, [vR 0, none, vI x2, vI x3, vI x4, vI x5, vI v.1, vI v.2.1, vI v.2.2.1, vI v.2.2.2.1, vI v.2.2.2.2.1, vI v.2.2.2.2.2, vI ((9:Int32) + ((5:Int32) * v.2.2.2.2.2)), vI r149, vI r151, none, none, none, none, none, none], [.int (((9:Int32) + ((5:Int32) * v.2.2.2.2.2)) + (3:Int32)), .ref 0], (H0 s e0))) rfl ?_
     obtain ⟨r152, hr152, h⟩ := bind_eq_some_iff.mp h
     refine QTri.callS W (as := [.ref 0, .int (((9:Int32) + ((5:Int32) * v.2.2.2.2.2)) + (3:Int32))]) (rest := []) (w := (some (.int r152))) (σ₁ := (H0 s e0)) rfl rfl rfl rfl rfl rfl rfl (tF1a1 Ad W e0 s (((9:Int32) + ((5:Int32) * v.2.2.2.2.2)) + (3:Int32)) hr152) ?_
     obtain ⟨r153, hr153, h⟩ := bind_eq_some_iff.mp h
     refine QTri.callS W (as := [.int r152]) (rest := []) (w := (some (.int r153))) (σ₁ := (H0 s e0)) rfl rfl rfl rfl rfl rfl rfl (tF31 Ad W r152 hr153) ?_
     refine zS Ad W 5 (st' := (102, [vR 0, none, vI x2, vI x3, vI x4, vI x5, vI v.1, vI v.2.1, vI v.2.2.1, vI v.2.2.2.1, vI v.2.2.2.2.1, vI v.2.2.2.2.2, vI ((9:Int32) + ((5:Int32) * v.2.2.2.2.2)), vI r149, vI r151, vI r153, none, none, none, none, none], [.int (((9:Int32) + ((5:Int32) * v.2.2.2.2.2)) + (4:Int32)), .ref 0], (H0 s e0))) rfl ?_
     obtain ⟨r154, hr154, h⟩ := bind_eq_some_iff.mp h
     refine QTri.callS W (as := [.ref 0, .int (((9:Int32) + ((5:Int32) * v.2.2.2.2.2)) + (4:Int32))]) (rest := []) (w := (some (.int r154))) (σ₁ := (H0 s e0)) rfl rfl rfl rfl rfl rfl rfl (tF1a1 Ad W e0 s (((9:Int32) + ((5:Int32) * v.2.2.2.2.2)) + (4:Int32)) hr154) ?_
     obtain ⟨r155, hr155, h⟩ := bind_eq_some_iff.mp h
     refine QTri.callS W (as := [.int r154]) (rest := []) (w := (some (.int r155))) (σ₁ := (H0 s e0)) rfl rfl rfl rfl rfl rfl rfl (tF31 Ad W r154 hr155) ?_
     refine zS Ad W 9 (st' := (123, [vR 0, none, vI x2, vI x3, vI x4, vI x5, vI v.1, vI v.2.1, vI v.2.2.1, vI v.2.2.2.1, vI v.2.2.2.2.1, vI v.2.2.2.2.2, vI ((9:Int32) + ((5:Int32) * v.2.2.2.2.2)), vI r149, vI r151, vI r153, vI r155, vI ((v.1 * r149) + (v.2.1 * r153)), none, none, none], [], (H0 s e0))) rfl ?_
     refine zS Ad W 12 (st' := (143, [vR 0, none, vI x2, vI x3, vI x4, vI x5, vI v.1, vI v.2.1, vI v.2.2.1, vI v.2.2.2.1, vI v.2.2.2.2.1, vI v.2.2.2.2.2, vI ((9:Int32) + ((5:Int32) * v.2.2.2.2.2)), vI r149, vI r151, vI r153, vI r155, vI ((v.1 * r149) + (v.2.1 * r153)), vI ((v.1 * r151) + (v.2.1 * r155)), none, none], [.int v.2.2.2.1, .int (v.2.2.1 * r149)], (H0 s e0))) rfl ?_
     refine zS Ad W 12 (st' := (162, [vR 0, none, vI x2, vI x3, vI x4, vI x5, vI v.1, vI v.2.1, vI v.2.2.1, vI v.2.2.2.1, vI v.2.2.2.2.1, vI v.2.2.2.2.2, vI ((9:Int32) + ((5:Int32) * v.2.2.2.2.2)), vI r149, vI r151, vI r153, vI r155, vI ((v.1 * r149) + (v.2.1 * r153)), vI ((v.1 * r151) + (v.2.1 * r155)), vI ((v.2.2.1 * r149) + (v.2.2.2.1 * r153)), vI ((v.2.2.1 * r151) + (v.2.2.2.1 * r155))], [], (H0 s e0))) rfl ?_
     refine zS Ad W 4 (st' := (170, [vR 0, none, vI x2, vI x3, vI x4, vI x5, vI ((v.1 * r149) + (v.2.1 * r153)), vI ((v.1 * r151) + (v.2.1 * r155)), vI v.2.2.1, vI v.2.2.2.1, vI v.2.2.2.2.1, vI v.2.2.2.2.2, vI ((9:Int32) + ((5:Int32) * v.2.2.2.2.2)), vI r149, vI r151, vI r153, vI r155, vI ((v.1 * r149) + (v.2.1 * r153)), vI ((v.1 * r151) + (v.2.1 * r155)), vI ((v.2.2.1 * r149) + (v.2.2.2.1 * r153)), vI ((v.2.2.1 * r151) + (v.2.2.2.1 * r155))], [], (H0 s e0))) rfl ?_
     refine zS Ad W 4 (st' := (178, [vR 0, none, vI x2, vI x3, vI x4, vI x5, vI ((v.1 * r149) + (v.2.1 * r153)), vI ((v.1 * r151) + (v.2.1 * r155)), vI ((v.2.2.1 * r149) + (v.2.2.2.1 * r153)), vI ((v.2.2.1 * r151) + (v.2.2.2.1 * r155)), vI v.2.2.2.2.1, vI v.2.2.2.2.2, vI ((9:Int32) + ((5:Int32) * v.2.2.2.2.2)), vI r149, vI r151, vI r153, vI r155, vI ((v.1 * r149) + (v.2.1 * r153)), vI ((v.1 * r151) + (v.2.1 * r155)), vI ((v.2.2.1 * r149) + (v.2.2.2.1 * r153)), vI ((v.2.2.1 * r151) + (v.2.2.2.1 * r155))], [], (H0 s e0))) rfl ?_
     exact zM [tt,ff,tt,tt,tt,tt,tt,tt,tt,tt,tt,tt,ff,ff,ff,ff,ff,ff,ff,ff,ff] (tJ24_178 Ad W e0 s x2 x3 x4 x5 ((v.1 * r149) + (v.2.1 * r153)) ((v.1 * r151) + (v.2.1 * r155)) ((v.2.2.1 * r149) + (v.2.2.2.1 * r153)) ((v.2.2.1 * r151) + (v.2.2.2.1 * r155)) v.2.2.2.2.1 v.2.2.2.2.2 h hx0 hc)
    ·refine zT Ad W (t := 178) (f := 49) rfl (XT.ii_ge_t hc146) ?_
     exact zM [tt,ff,tt,tt,tt,tt,tt,tt,tt,tt,tt,tt,ff,ff,ff,ff,ff,ff,ff,ff,ff] (tJ24_178 Ad W e0 s x2 x3 x4 x5 v.1 v.2.1 v.2.2.1 v.2.2.2.1 v.2.2.2.2.1 v.2.2.2.2.2 h hx0 hc)
/-- fold([IIIIII)I -/
def F24 (s : List Int32) (x1 : Int32) (x2 : Int32) (x3 : Int32) (x4 : Int32) (x5 : Int32) : Option (Int32) :=
 (loopN (B24_18 s x2 x3 x4 x5) qN ((1:Int32), (0:Int32), (0:Int32), (1:Int32), (0:Int32), x1)).bind fun e156 => (if x5 = (0:Int32) then some e156.1 else (if x5 = (1:Int32) then some e156.2.1 else (if x5 = (2:Int32) then some e156.2.2.1 else some e156.2.2.2)))
theorem tF24 (Ad : QAd n0 ad) (W : QW Z a0) (e0 : Ob) (s : List Int32) (x1 : Int32) (x2 : Int32) (x3 : Int32) (x4 : Int32) (x5 : Int32) {r : Int32} (h : F24 s x1 x2 x3 x4 x5 = some r) : QTri l Z n0 ad 24 (0, qentry [.ref 0, .int x1, .int x2, .int x3, .int x4, .int x5] (pMaxL 24), [], (H0 s e0)) (some (Value.int r)) (H0 s e0) := by
 unfold F24 at h
 refine zS Ad W 4 (st' := (6, [vR 0, vI x1, vI x2, vI x3, vI x4, vI x5, vI (1:Int32), vI (0:Int32), none, none, none, none, none, none, none, none, none, none, none, none, none], [], (H0 s e0))) rfl ?_
 refine zS Ad W 4 (st' := (12, [vR 0, vI x1, vI x2, vI x3, vI x4, vI x5, vI (1:Int32), vI (0:Int32), vI (0:Int32), vI (1:Int32), none, none, none, none, none, none, none, none, none, none, none], [], (H0 s e0))) rfl ?_
 refine zS Ad W 4 (st' := (18, [vR 0, vI x1, vI x2, vI x3, vI x4, vI x5, vI (1:Int32), vI (0:Int32), vI (0:Int32), vI (1:Int32), vI (0:Int32), vI x1, none, none, none, none, none, none, none, none, none], [], (H0 s e0))) rfl ?_
 obtain ⟨e156, he156, h⟩ := bind_eq_some_iff.mp h
 refine zM [tt,ff,tt,tt,tt,tt,tt,tt,tt,tt,tt,tt,ff,ff,ff,ff,ff,ff,ff,ff,ff] (loopN_tri (B := B24_18 s x2 x3 x4 x5) (T := fun lv157 => QTri l Z n0 ad 24 (18, [vR 0, none, vI x2, vI x3, vI x4, vI x5, vI lv157.1, vI lv157.2.1, vI lv157.2.2.1, vI lv157.2.2.2.1, vI lv157.2.2.2.2.1, vI lv157.2.2.2.2.2, none, none, none, none, none, none, none, none, none], [], (H0 s e0)) (some (Value.int r)) (H0 s e0)) (KE := fun e156a => QTri l Z n0 ad 24 (187, [none, none, none, none, none, vI x5, vI e156a.1, vI e156a.2.1, vI e156a.2.2.1, vI e156a.2.2.2, none, none, none, none, none, none, none, none, none, none, none], [], (H0 s e0)) (some (Value.int r)) (H0 s e0)) (fun lv157 r hB hE hC => tB24_18 Ad W e0 s x2 x3 x4 x5 lv157 hB (fun x q => hE _ q) (fun x q => hC x q)) qN ((1:Int32), (0:Int32), (0:Int32), (1:Int32), (0:Int32), x1) e156 he156 ?_)
 refine zS Ad W 1 (st' := (189, [none, none, none, none, none, vI x5, vI e156.1, vI e156.2.1, vI e156.2.2.1, vI e156.2.2.2, none, none, none, none, none, none, none, none, none, none, none], [.int x5], (H0 s e0))) rfl ?_
 rcases qite h with ⟨hc158, h⟩ | ⟨hc158, h⟩
 ·refine zF Ad W (t := 197) (f := 192) rfl (XT.i0_ne_f hc158) ?_
  refine zS Ad W 2 (st' := (221, [none, none, none, none, none, vI x5, vI e156.1, vI e156.2.1, vI e156.2.2.1, vI e156.2.2.2, none, none, none, none, none, none, none, none, none, none, none], [.int e156.1], (H0 s e0))) rfl ?_
  obtain rfl := Option.some.inj h
  exact QTri.retI rfl rfl
 ·refine zT Ad W (t := 197) (f := 192) rfl (XT.i0_ne_t hc158) ?_
  refine zS Ad W 2 (st' := (200, [none, none, none, none, none, vI x5, vI e156.1, vI e156.2.1, vI e156.2.2.1, vI e156.2.2.2, none, none, none, none, none, none, none, none, none, none, none], [.int (1:Int32), .int x5], (H0 s e0))) rfl ?_
  rcases qite h with ⟨hc159, h⟩ | ⟨hc159, h⟩
  ·refine zF Ad W (t := 208) (f := 203) rfl (XT.ii_ne_f hc159) ?_
   refine zS Ad W 2 (st' := (221, [none, none, none, none, none, vI x5, vI e156.1, vI e156.2.1, vI e156.2.2.1, vI e156.2.2.2, none, none, none, none, none, none, none, none, none, none, none], [.int e156.2.1], (H0 s e0))) rfl ?_
   obtain rfl := Option.some.inj h
   exact QTri.retI rfl rfl
  ·refine zT Ad W (t := 208) (f := 203) rfl (XT.ii_ne_t hc159) ?_
   refine zS Ad W 2 (st' := (211, [none, none, none, none, none, vI x5, vI e156.1, vI e156.2.1, vI e156.2.2.1, vI e156.2.2.2, none, none, none, none, none, none, none, none, none, none, none], [.int (2:Int32), .int x5], (H0 s e0))) rfl ?_
   rcases qite h with ⟨hc160, h⟩ | ⟨hc160, h⟩
   ·refine zF Ad W (t := 219) (f := 214) rfl (XT.ii_ne_f hc160) ?_
    refine zS Ad W 2 (st' := (221, [none, none, none, none, none, vI x5, vI e156.1, vI e156.2.1, vI e156.2.2.1, vI e156.2.2.2, none, none, none, none, none, none, none, none, none, none, none], [.int e156.2.2.1], (H0 s e0))) rfl ?_
    obtain rfl := Option.some.inj h
    exact QTri.retI rfl rfl
   ·refine zT Ad W (t := 219) (f := 214) rfl (XT.ii_ne_t hc160) ?_
    refine zS Ad W 1 (st' := (221, [none, none, none, none, none, vI x5, vI e156.1, vI e156.2.1, vI e156.2.2.1, vI e156.2.2.2, none, none, none, none, none, none, none, none, none, none, none], [.int e156.2.2.2], (H0 s e0))) rfl ?_
    obtain rfl := Option.some.inj h
    exact QTri.retI rfl rfl
/-- validSlot(II)Z -/
def F34 (x1 : Int32) (x2 : Int32) : Option (Int32) :=
 (if x1 < (0:Int32) then some (0:Int32) else (if x1 < (4:Int32) then (if x2 < (0:Int32) then some (0:Int32) else (if x2 < (32:Int32) then some (1:Int32) else some (0:Int32))) else some (0:Int32)))
theorem tF34 (Ad : QAd n0 ad) (W : QW Z a0) {a : Nat} {σ : QHeap} (x1 : Int32) (x2 : Int32) {r : Int32} (h : F34 x1 x2 = some r) : QTri l Z n0 ad 34 (0, qentry [.ref a, .int x1, .int x2] (pMaxL 34), [], σ) (some (Value.int r)) σ := by
 unfold F34 at h
 refine zS Ad W 1 (st' := (1, [vR a, vI x1, vI x2], [.int x1], σ)) rfl ?_
 rcases qite h with ⟨hc171, h⟩ | ⟨hc171, h⟩
 ·refine zT Ad W (t := 23) (f := 4) rfl (XT.i0_lt_t hc171) ?_
  refine zS Ad W 1 (st' := (24, [vR a, vI x1, vI x2], [.int (0:Int32)], σ)) rfl ?_
  obtain rfl := Option.some.inj h
  exact QTri.retZ rfl rfl
 ·refine zF Ad W (t := 23) (f := 4) rfl (XT.i0_lt_f hc171) ?_
  refine zS Ad W 2 (st' := (6, [vR a, vI x1, vI x2], [.int (4:Int32), .int x1], σ)) rfl ?_
  rcases qite h with ⟨hc172, h⟩ | ⟨hc172, h⟩
  ·refine zF Ad W (t := 23) (f := 9) rfl (XT.ii_ge_f hc172) ?_
   refine zS Ad W 1 (st' := (10, [vR a, vI x1, vI x2], [.int x2], σ)) rfl ?_
   rcases qite h with ⟨hc173, h⟩ | ⟨hc173, h⟩
   ·refine zT Ad W (t := 23) (f := 13) rfl (XT.i0_lt_t hc173) ?_
    refine zS Ad W 1 (st' := (24, [vR a, vI x1, vI x2], [.int (0:Int32)], σ)) rfl ?_
    obtain rfl := Option.some.inj h
    exact QTri.retZ rfl rfl
   ·refine zF Ad W (t := 23) (f := 13) rfl (XT.i0_lt_f hc173) ?_
    refine zS Ad W 2 (st' := (16, [vR a, vI x1, vI x2], [.int (32:Int32), .int x2], σ)) rfl ?_
    rcases qite h with ⟨hc174, h⟩ | ⟨hc174, h⟩
    ·refine zF Ad W (t := 23) (f := 19) rfl (XT.ii_ge_f hc174) ?_
     refine zS Ad W 2 (st' := (24, [vR a, vI x1, vI x2], [.int (1:Int32)], σ)) rfl ?_
     obtain rfl := Option.some.inj h
     exact QTri.retZ rfl rfl
    ·refine zT Ad W (t := 23) (f := 19) rfl (XT.ii_ge_t hc174) ?_
     refine zS Ad W 1 (st' := (24, [vR a, vI x1, vI x2], [.int (0:Int32)], σ)) rfl ?_
     obtain rfl := Option.some.inj h
     exact QTri.retZ rfl rfl
  ·refine zT Ad W (t := 23) (f := 9) rfl (XT.ii_ge_t hc172) ?_
   refine zS Ad W 1 (st' := (24, [vR a, vI x1, vI x2], [.int (0:Int32)], σ)) rfl ?_
   obtain rfl := Option.some.inj h
   exact QTri.retZ rfl rfl
/-- slotOffset(II)I -/
def F36 (x1 : Int32) (x2 : Int32) : Option (Int32) :=
 some (((x1 * (32:Int32)) + x2) * (4:Int32))
theorem tF36 (Ad : QAd n0 ad) (W : QW Z a0) {a : Nat} {σ : QHeap} (x1 : Int32) (x2 : Int32) {r : Int32} (h : F36 x1 x2 = some r) : QTri l Z n0 ad 36 (0, qentry [.ref a, .int x1, .int x2] (pMaxL 36), [], σ) (some (Value.int r)) σ := by
 unfold F36 at h
 refine zS Ad W 7 (st' := (8, [vR a, vI x1, vI x2], [.int (((x1 * (32:Int32)) + x2) * (4:Int32))], σ)) rfl ?_
 obtain rfl := Option.some.inj h
 exact QTri.retI rfl rfl
def B42_34 (x4 : Int32) (x5 : Int32) (v : Int32 × Ob) : Option (((Ob)) ⊕ (Int32 × Ob)) :=
  (if v.1 < (4 : Int32) then (aget (f_frontAgg v.2) (x4 + v.1)).bind fun y179 => (aset (f_reg v.2) (x5 + v.1) y179).bind fun y180 => some (.inr ((v.1 + (1 : Int32)), (s_reg v.2 y180))) else some (.inl v.2))
theorem tB42_34 (Ad : QAd n0 ad) (W : QW Z a0) (s : List Int32) (x4 : Int32) (x5 : Int32) (v : Int32 × Ob) {r : ((Ob)) ⊕ (Int32 × Ob)} {u : Option Value} {τ : QHeap} (h : B42_34 x4 x5 v = some r) (hx0 : ∀ x : Ob, r = .inl x → u = (none : Option Value) ∧ τ = (H0 s x)) (hc : ∀ x : Int32 × Ob, r = .inr x → QTri l Z n0 ad 42 (34, [vR 1, none, none, none, vI x4, vI x5, vI x.1], [], (H0 s x.2)) u τ) : QTri l Z n0 ad 42 (34, [vR 1, none, none, none, vI x4, vI x5, vI v.1], [], (H0 s v.2)) u τ := by
 unfold B42_34 at h
 refine zS Ad W 2 (st' := (37, [vR 1, none, none, none, vI x4, vI x5, vI v.1], [.int (4:Int32), .int v.1], (H0 s v.2))) rfl ?_
 rcases qite h with ⟨hc178, h⟩ | ⟨hc178, h⟩
 ·refine zF Ad W (t := 66) (f := 40) rfl (XT.ii_ge_f hc178) ?_
  refine zS Ad W 10 (st' := (58, [vR 1, none, none, none, vI x4, vI x5, vI v.1], [.int (x4 + v.1), .ref 7, .int (x5 + v.1), .ref 10], (H0 s v.2))) rfl ?_
  obtain ⟨y179, hy179, h⟩ := bind_eq_some_iff.mp h
  refine zB Ad W (f := fun y179 => (59, [vR 1, none, none, none, vI x4, vI x5, vI v.1], [.int y179, .int (x5 + v.1), .ref 10], (H0 s v.2))) rfl hy179 ?_
  obtain ⟨y180, hy180, h⟩ := bind_eq_some_iff.mp h
  refine zB Ad W (f := fun y180 => (60, [vR 1, none, none, none, vI x4, vI x5, vI v.1], [], (H0x6 s v.2 y180))) rfl hy180 ?_
  refine zS Ad W 2 (st' := (34, [vR 1, none, none, none, vI x4, vI x5, vI (v.1 + (1:Int32))], [], (H0x6 s v.2 y180))) rfl ?_
  have E181 : ((H0x6 s v.2 y180) : QHeap) = (H0 s (s_reg v.2 y180)) := by simp only [fs, H0, H0v, H0x6, s_reg]
  rw [E181]
  obtain rfl := Option.some.inj h
  exact zM [tt,ff,ff,ff,tt,tt,tt] (hc ((v.1 + (1:Int32)), (s_reg v.2 y180)) rfl)
 ·refine zT Ad W (t := 66) (f := 40) rfl (XT.ii_ge_t hc178) ?_
  obtain rfl := Option.some.inj h
  obtain ⟨rfl, rfl⟩ := hx0 v.2 rfl
  exact QTri.ret0 rfl rfl
/-- loadFront(III)V -/
def F42 (o : Ob) (x1 : Int32) (x2 : Int32) (x3 : Int32) : Option (Ob) :=
 (F6 x1).bind fun r169 => (if r169 = (0:Int32) then some o else (F34 x2 x3).bind fun r175 => (if r175 = (0:Int32) then some o else (F36 x2 x3).bind fun r177 => (loopN (B42_34 r177 (x1 * (4:Int32))) qN ((0:Int32), o)).bind fun e182 => some e182))
theorem tF42 (Ad : QAd n0 ad) (W : QW Z a0) (s : List Int32) (o : Ob) (x1 : Int32) (x2 : Int32) (x3 : Int32) {r : Ob} (h : F42 o x1 x2 x3 = some r) : QTri l Z n0 ad 42 (0, qentry [.ref 1, .int x1, .int x2, .int x3] (pMaxL 42), [], (H0 s o)) (none : Option Value) (H0 s r) := by
 unfold F42 at h
 refine zS Ad W 2 (st' := (2, [vR 1, vI x1, vI x2, vI x3, none, none, none], [.int x1, .ref 1], (H0 s o))) rfl ?_
 obtain ⟨r169, hr169, h⟩ := bind_eq_some_iff.mp h
 refine QTri.callP W (a := 1) (as := [.int x1]) (rest := []) (w := (some (.int r169))) (σ₁ := (H0 s o)) rfl rfl rfl rfl rfl rfl rfl rfl (tF6 Ad W x1 hr169) ?_
 rcases qite h with ⟨hc170, h⟩ | ⟨hc170, h⟩
 ·refine zT Ad W (t := 17) (f := 8) rfl (XT.i0_eq_t hc170) ?_
  obtain rfl := Option.some.inj h
  exact QTri.ret0 rfl rfl
 ·refine zF Ad W (t := 17) (f := 8) rfl (XT.i0_eq_f hc170) ?_
  refine zS Ad W 3 (st' := (11, [vR 1, vI x1, vI x2, vI x3, none, none, none], [.int x3, .int x2, .ref 1], (H0 s o))) rfl ?_
  obtain ⟨r175, hr175, h⟩ := bind_eq_some_iff.mp h
  refine QTri.callP W (a := 1) (as := [.int x2, .int x3]) (rest := []) (w := (some (.int r175))) (σ₁ := (H0 s o)) rfl rfl rfl rfl rfl rfl rfl rfl (tF34 Ad W x2 x3 hr175) ?_
  rcases qite h with ⟨hc176, h⟩ | ⟨hc176, h⟩
  ·refine zF Ad W (t := 18) (f := 17) rfl (XT.i0_ne_f hc176) ?_
   obtain rfl := Option.some.inj h
   exact QTri.ret0 rfl rfl
  ·refine zT Ad W (t := 18) (f := 17) rfl (XT.i0_ne_t hc176) ?_
   refine zS Ad W 3 (st' := (21, [vR 1, vI x1, vI x2, vI x3, none, none, none], [.int x3, .int x2, .ref 1], (H0 s o))) rfl ?_
   obtain ⟨r177, hr177, h⟩ := bind_eq_some_iff.mp h
   refine QTri.callP W (a := 1) (as := [.int x2, .int x3]) (rest := []) (w := (some (.int r177))) (σ₁ := (H0 s o)) rfl rfl rfl rfl rfl rfl rfl rfl (tF36 Ad W x2 x3 hr177) ?_
   refine zS Ad W 5 (st' := (31, [vR 1, vI x1, vI x2, vI x3, vI r177, vI (x1 * (4:Int32)), none], [], (H0 s o))) rfl ?_
   refine zS Ad W 2 (st' := (34, [vR 1, vI x1, vI x2, vI x3, vI r177, vI (x1 * (4:Int32)), vI (0:Int32)], [], (H0 s o))) rfl ?_
   obtain ⟨e182, he182, h⟩ := bind_eq_some_iff.mp h
   refine zM [tt,ff,ff,ff,tt,tt,tt] (loopN_tri (B := B42_34 r177 (x1 * (4:Int32))) (T := fun lv183 => QTri l Z n0 ad 42 (34, [vR 1, none, none, none, vI r177, vI (x1 * (4:Int32)), vI lv183.1], [], (H0 s lv183.2)) (none : Option Value) (H0 s r)) (KE := fun e182a => (none : Option Value) = (none : Option Value) ∧ (H0 s r) = (H0 s e182a)) (fun lv183 r hB hE hC => tB42_34 Ad W s r177 (x1 * (4:Int32)) lv183 hB (fun x q => hE _ q) (fun x q => hC x q)) qN ((0:Int32), o) e182 he182 ?_)
   obtain rfl := Option.some.inj h
   exact ⟨rfl, rfl⟩
def B27_25 (x2 : Int32) (x3 : Int32) (v : Int32 × Ob) : Option (((Ob)) ⊕ (Int32 × Ob)) :=
  (if v.1 < (4 : Int32) then (aget (f_backAgg v.2) ((x2 * (4 : Int32)) + v.1)).bind fun y190 => (aset (f_reg v.2) (x3 + v.1) y190).bind fun y191 => some (.inr ((v.1 + (1 : Int32)), (s_reg v.2 y191))) else some (.inl v.2))
theorem tB27_25 (Ad : QAd n0 ad) (W : QW Z a0) (s : List Int32) (x2 : Int32) (x3 : Int32) (v : Int32 × Ob) {r : ((Ob)) ⊕ (Int32 × Ob)} {u : Option Value} {τ : QHeap} (h : B27_25 x2 x3 v = some r) (hx0 : ∀ x : Ob, r = .inl x → u = (none : Option Value) ∧ τ = (H0 s x)) (hc : ∀ x : Int32 × Ob, r = .inr x → QTri l Z n0 ad 27 (25, [vR 1, none, vI x2, vI x3, vI x.1], [], (H0 s x.2)) u τ) : QTri l Z n0 ad 27 (25, [vR 1, none, vI x2, vI x3, vI v.1], [], (H0 s v.2)) u τ := by
 unfold B27_25 at h
 refine zS Ad W 2 (st' := (28, [vR 1, none, vI x2, vI x3, vI v.1], [.int (4:Int32), .int v.1], (H0 s v.2))) rfl ?_
 rcases qite h with ⟨hc189, h⟩ | ⟨hc189, h⟩
 ·refine zF Ad W (t := 57) (f := 31) rfl (XT.ii_ge_f hc189) ?_
  refine zS Ad W 12 (st' := (49, [vR 1, none, vI x2, vI x3, vI v.1], [.int ((x2 * (4:Int32)) + v.1), .ref 8, .int (x3 + v.1), .ref 10], (H0 s v.2))) rfl ?_
  obtain ⟨y190, hy190, h⟩ := bind_eq_some_iff.mp h
  refine zB Ad W (f := fun y190 => (50, [vR 1, none, vI x2, vI x3, vI v.1], [.int y190, .int (x3 + v.1), .ref 10], (H0 s v.2))) rfl hy190 ?_
  obtain ⟨y191, hy191, h⟩ := bind_eq_some_iff.mp h
  refine zB Ad W (f := fun y191 => (51, [vR 1, none, vI x2, vI x3, vI v.1], [], (H0x6 s v.2 y191))) rfl hy191 ?_
  refine zS Ad W 2 (st' := (25, [vR 1, none, vI x2, vI x3, vI (v.1 + (1:Int32))], [], (H0x6 s v.2 y191))) rfl ?_
  have E192 : ((H0x6 s v.2 y191) : QHeap) = (H0 s (s_reg v.2 y191)) := by simp only [fs, H0, H0v, H0x6, s_reg]
  rw [E192]
  obtain rfl := Option.some.inj h
  exact zM [tt,ff,tt,tt,tt] (hc ((v.1 + (1:Int32)), (s_reg v.2 y191)) rfl)
 ·refine zT Ad W (t := 57) (f := 31) rfl (XT.ii_ge_t hc189) ?_
  obtain rfl := Option.some.inj h
  obtain ⟨rfl, rfl⟩ := hx0 v.2 rfl
  exact QTri.ret0 rfl rfl
/-- loadBackAgg(II)V -/
def F27 (o : Ob) (x1 : Int32) (x2 : Int32) : Option (Ob) :=
 (F6 x1).bind fun r185 => (if r185 = (0:Int32) then some o else (if x2 < (0:Int32) then some o else (if x2 < (4:Int32) then (loopN (B27_25 x2 (x1 * (4:Int32))) qN ((0:Int32), o)).bind fun e193 => some e193 else some o)))
theorem tF27 (Ad : QAd n0 ad) (W : QW Z a0) (s : List Int32) (o : Ob) (x1 : Int32) (x2 : Int32) {r : Ob} (h : F27 o x1 x2 = some r) : QTri l Z n0 ad 27 (0, qentry [.ref 1, .int x1, .int x2] (pMaxL 27), [], (H0 s o)) (none : Option Value) (H0 s r) := by
 unfold F27 at h
 refine zS Ad W 2 (st' := (2, [vR 1, vI x1, vI x2, none, none], [.int x1, .ref 1], (H0 s o))) rfl ?_
 obtain ⟨r185, hr185, h⟩ := bind_eq_some_iff.mp h
 refine QTri.callP W (a := 1) (as := [.int x1]) (rest := []) (w := (some (.int r185))) (σ₁ := (H0 s o)) rfl rfl rfl rfl rfl rfl rfl rfl (tF6 Ad W x1 hr185) ?_
 rcases qite h with ⟨hc186, h⟩ | ⟨hc186, h⟩
 ·refine zT Ad W (t := 17) (f := 8) rfl (XT.i0_eq_t hc186) ?_
  obtain rfl := Option.some.inj h
  exact QTri.ret0 rfl rfl
 ·refine zF Ad W (t := 17) (f := 8) rfl (XT.i0_eq_f hc186) ?_
  refine zS Ad W 1 (st' := (9, [vR 1, vI x1, vI x2, none, none], [.int x2], (H0 s o))) rfl ?_
  rcases qite h with ⟨hc187, h⟩ | ⟨hc187, h⟩
  ·refine zT Ad W (t := 17) (f := 12) rfl (XT.i0_lt_t hc187) ?_
   obtain rfl := Option.some.inj h
   exact QTri.ret0 rfl rfl
  ·refine zF Ad W (t := 17) (f := 12) rfl (XT.i0_lt_f hc187) ?_
   refine zS Ad W 2 (st' := (14, [vR 1, vI x1, vI x2, none, none], [.int (4:Int32), .int x2], (H0 s o))) rfl ?_
   rcases qite h with ⟨hc188, h⟩ | ⟨hc188, h⟩
   ·refine zT Ad W (t := 18) (f := 17) rfl (XT.ii_lt_t hc188) ?_
    refine zS Ad W 6 (st' := (25, [vR 1, vI x1, vI x2, vI (x1 * (4:Int32)), vI (0:Int32)], [], (H0 s o))) rfl ?_
    obtain ⟨e193, he193, h⟩ := bind_eq_some_iff.mp h
    refine zM [tt,ff,tt,tt,tt] (loopN_tri (B := B27_25 x2 (x1 * (4:Int32))) (T := fun lv194 => QTri l Z n0 ad 27 (25, [vR 1, none, vI x2, vI (x1 * (4:Int32)), vI lv194.1], [], (H0 s lv194.2)) (none : Option Value) (H0 s r)) (KE := fun e193a => (none : Option Value) = (none : Option Value) ∧ (H0 s r) = (H0 s e193a)) (fun lv194 r hB hE hC => tB27_25 Ad W s x2 (x1 * (4:Int32)) lv194 hB (fun x q => hE _ q) (fun x q => hC x q)) qN ((0:Int32), o) e193 he193 ?_)
    obtain rfl := Option.some.inj h
    exact ⟨rfl, rfl⟩
   ·refine zF Ad W (t := 18) (f := 17) rfl (XT.ii_lt_f hc188) ?_
    obtain rfl := Option.some.inj h
    exact QTri.ret0 rfl rfl
/-- regMul(III)V -/
def F28 (o : Ob) (x1 : Int32) (x2 : Int32) (x3 : Int32) : Option (Ob) :=
 (F6 x1).bind fun r196 => (if r196 = (0:Int32) then some o else (F6 x2).bind fun r198 => (if r198 = (0:Int32) then some o else (F6 x3).bind fun r200 => (if r200 = (0:Int32) then some o else (aget (f_reg o) (x2 * (4:Int32))).bind fun y202 => (aget (f_reg o) ((x2 * (4:Int32)) + (1:Int32))).bind fun y203 => (aget (f_reg o) ((x2 * (4:Int32)) + (2:Int32))).bind fun y204 => (aget (f_reg o) ((x2 * (4:Int32)) + (3:Int32))).bind fun y205 => (aget (f_reg o) (x3 * (4:Int32))).bind fun y206 => (aget (f_reg o) ((x3 * (4:Int32)) + (1:Int32))).bind fun y207 => (aget (f_reg o) ((x3 * (4:Int32)) + (2:Int32))).bind fun y208 => (aget (f_reg o) ((x3 * (4:Int32)) + (3:Int32))).bind fun y209 => (aset (f_reg o) (x1 * (4:Int32)) ((y202 * y206) + (y203 * y208))).bind fun y210 => (aset y210 ((x1 * (4:Int32)) + (1:Int32)) ((y202 * y207) + (y203 * y209))).bind fun y211 => (aset y211 ((x1 * (4:Int32)) + (2:Int32)) ((y204 * y206) + (y205 * y208))).bind fun y212 => (aset y212 ((x1 * (4:Int32)) + (3:Int32)) ((y204 * y207) + (y205 * y209))).bind fun y213 => some (s_reg o y213))))
theorem tF28 (Ad : QAd n0 ad) (W : QW Z a0) (s : List Int32) (o : Ob) (x1 : Int32) (x2 : Int32) (x3 : Int32) {r : Ob} (h : F28 o x1 x2 x3 = some r) : QTri l Z n0 ad 28 (0, qentry [.ref 1, .int x1, .int x2, .int x3] (pMaxL 28), [], (H0 s o)) (none : Option Value) (H0 s r) := by
 unfold F28 at h
 refine zS Ad W 2 (st' := (2, [vR 1, vI x1, vI x2, vI x3, none, none, none, none, none, none, none, none, none, none, none], [.int x1, .ref 1], (H0 s o))) rfl ?_
 obtain ⟨r196, hr196, h⟩ := bind_eq_some_iff.mp h
 refine QTri.callP W (a := 1) (as := [.int x1]) (rest := []) (w := (some (.int r196))) (σ₁ := (H0 s o)) rfl rfl rfl rfl rfl rfl rfl rfl (tF6 Ad W x1 hr196) ?_
 rcases qite h with ⟨hc197, h⟩ | ⟨hc197, h⟩
 ·refine zT Ad W (t := 24) (f := 8) rfl (XT.i0_eq_t hc197) ?_
  obtain rfl := Option.some.inj h
  exact QTri.ret0 rfl rfl
 ·refine zF Ad W (t := 24) (f := 8) rfl (XT.i0_eq_f hc197) ?_
  refine zS Ad W 2 (st' := (10, [vR 1, vI x1, vI x2, vI x3, none, none, none, none, none, none, none, none, none, none, none], [.int x2, .ref 1], (H0 s o))) rfl ?_
  obtain ⟨r198, hr198, h⟩ := bind_eq_some_iff.mp h
  refine QTri.callP W (a := 1) (as := [.int x2]) (rest := []) (w := (some (.int r198))) (σ₁ := (H0 s o)) rfl rfl rfl rfl rfl rfl rfl rfl (tF6 Ad W x2 hr198) ?_
  rcases qite h with ⟨hc199, h⟩ | ⟨hc199, h⟩
  ·refine zT Ad W (t := 24) (f := 16) rfl (XT.i0_eq_t hc199) ?_
   obtain rfl := Option.some.inj h
   exact QTri.ret0 rfl rfl
  ·refine zF Ad W (t := 24) (f := 16) rfl (XT.i0_eq_f hc199) ?_
   refine zS Ad W 2 (st' := (18, [vR 1, vI x1, vI x2, vI x3, none, none, none, none, none, none, none, none, none, none, none], [.int x3, .ref 1], (H0 s o))) rfl ?_
   obtain ⟨r200, hr200, h⟩ := bind_eq_some_iff.mp h
   refine QTri.callP W (a := 1) (as := [.int x3]) (rest := []) (w := (some (.int r200))) (σ₁ := (H0 s o)) rfl rfl rfl rfl rfl rfl rfl rfl (tF6 Ad W x3 hr200) ?_
   rcases qite h with ⟨hc201, h⟩ | ⟨hc201, h⟩
   ·refine zF Ad W (t := 25) (f := 24) rfl (XT.i0_ne_f hc201) ?_
    obtain rfl := Option.some.inj h
    exact QTri.ret0 rfl rfl
   ·refine zT Ad W (t := 25) (f := 24) rfl (XT.i0_ne_t hc201) ?_
    refine zS Ad W 8 (st' := (35, [vR 1, vI x1, vI x2, vI x3, vI (x2 * (4:Int32)), vI (x3 * (4:Int32)), none, none, none, none, none, none, none, none, none], [], (H0 s o))) rfl ?_
    refine zS Ad W 3 (st' := (41, [vR 1, vI x1, vI x2, vI x3, vI (x2 * (4:Int32)), vI (x3 * (4:Int32)), none, none, none, none, none, none, none, none, none], [.int (x2 * (4:Int32)), .ref 10], (H0 s o))) rfl ?_
    obtain ⟨y202, hy202, h⟩ := bind_eq_some_iff.mp h
    refine zB Ad W (f := fun y202 => (42, [vR 1, vI x1, vI x2, vI x3, vI (x2 * (4:Int32)), vI (x3 * (4:Int32)), none, none, none, none, none, none, none, none, none], [.int y202], (H0 s o))) rfl hy202 ?_
    refine zS Ad W 6 (st' := (52, [vR 1, vI x1, vI x2, vI x3, vI (x2 * (4:Int32)), vI (x3 * (4:Int32)), vI y202, none, none, none, none, none, none, none, none], [.int ((x2 * (4:Int32)) + (1:Int32)), .ref 10], (H0 s o))) rfl ?_
    obtain ⟨y203, hy203, h⟩ := bind_eq_some_iff.mp h
    refine zB Ad W (f := fun y203 => (53, [vR 1, vI x1, vI x2, vI x3, vI (x2 * (4:Int32)), vI (x3 * (4:Int32)), vI y202, none, none, none, none, none, none, none, none], [.int y203], (H0 s o))) rfl hy203 ?_
    refine zS Ad W 6 (st' := (63, [vR 1, vI x1, vI x2, vI x3, vI (x2 * (4:Int32)), vI (x3 * (4:Int32)), vI y202, vI y203, none, none, none, none, none, none, none], [.int ((x2 * (4:Int32)) + (2:Int32)), .ref 10], (H0 s o))) rfl ?_
    obtain ⟨y204, hy204, h⟩ := bind_eq_some_iff.mp h
    refine zB Ad W (f := fun y204 => (64, [vR 1, vI x1, vI x2, vI x3, vI (x2 * (4:Int32)), vI (x3 * (4:Int32)), vI y202, vI y203, none, none, none, none, none, none, none], [.int y204], (H0 s o))) rfl hy204 ?_
    refine zS Ad W 6 (st' := (74, [vR 1, vI x1, vI x2, vI x3, vI (x2 * (4:Int32)), vI (x3 * (4:Int32)), vI y202, vI y203, vI y204, none, none, none, none, none, none], [.int ((x2 * (4:Int32)) + (3:Int32)), .ref 10], (H0 s o))) rfl ?_
    obtain ⟨y205, hy205, h⟩ := bind_eq_some_iff.mp h
    refine zB Ad W (f := fun y205 => (75, [vR 1, vI x1, vI x2, vI x3, vI (x2 * (4:Int32)), vI (x3 * (4:Int32)), vI y202, vI y203, vI y204, none, none, none, none, none, none], [.int y205], (H0 s o))) rfl hy205 ?_
    refine zS Ad W 4 (st' := (83, [vR 1, vI x1, vI x2, vI x3, vI (x2 * (4:Int32)), vI (x3 * (4:Int32)), vI y202, vI y203, vI y204, vI y205, none, none, none, none, none], [.int (x3 * (4:Int32)), .ref 10], (H0 s o))) rfl ?_
    obtain ⟨y206, hy206, h⟩ := bind_eq_some_iff.mp h
    refine zB Ad W (f := fun y206 => (84, [vR 1, vI x1, vI x2, vI x3, vI (x2 * (4:Int32)), vI (x3 * (4:Int32)), vI y202, vI y203, vI y204, vI y205, none, none, none, none, none], [.int y206], (H0 s o))) rfl hy206 ?_
    refine zS Ad W 6 (st' := (94, [vR 1, vI x1, vI x2, vI x3, vI (x2 * (4:Int32)), vI (x3 * (4:Int32)), vI y202, vI y203, vI y204, vI y205, vI y206, none, none, none, none], [.int ((x3 * (4:Int32)) + (1:Int32)), .ref 10], (H0 s o))) rfl ?_
    obtain ⟨y207, hy207, h⟩ := bind_eq_some_iff.mp h
    refine zB Ad W (f := fun y207 => (95, [vR 1, vI x1, vI x2, vI x3, vI (x2 * (4:Int32)), vI (x3 * (4:Int32)), vI y202, vI y203, vI y204, vI y205, vI y206, none, none, none, none], [.int y207], (H0 s o))) rfl hy207 ?_
    refine zS Ad W 6 (st' := (105, [vR 1, vI x1, vI x2, vI x3, vI (x2 * (4:Int32)), vI (x3 * (4:Int32)), vI y202, vI y203, vI y204, vI y205, vI y206, vI y207, none, none, none], [.int ((x3 * (4:Int32)) + (2:Int32)), .ref 10], (H0 s o))) rfl ?_
    obtain ⟨y208, hy208, h⟩ := bind_eq_some_iff.mp h
    refine zB Ad W (f := fun y208 => (106, [vR 1, vI x1, vI x2, vI x3, vI (x2 * (4:Int32)), vI (x3 * (4:Int32)), vI y202, vI y203, vI y204, vI y205, vI y206, vI y207, none, none, none], [.int y208], (H0 s o))) rfl hy208 ?_
    refine zS Ad W 6 (st' := (116, [vR 1, vI x1, vI x2, vI x3, vI (x2 * (4:Int32)), vI (x3 * (4:Int32)), vI y202, vI y203, vI y204, vI y205, vI y206, vI y207, vI y208, none, none], [.int ((x3 * (4:Int32)) + (3:Int32)), .ref 10], (H0 s o))) rfl ?_
    obtain ⟨y209, hy209, h⟩ := bind_eq_some_iff.mp h
    refine zB Ad W (f := fun y209 => (117, [vR 1, vI x1, vI x2, vI x3, vI (x2 * (4:Int32)), vI (x3 * (4:Int32)), vI y202, vI y203, vI y204, vI y205, vI y206, vI y207, vI y208, none, none], [.int y209], (H0 s o))) rfl hy209 ?_
    refine zS Ad W 5 (st' := (124, [vR 1, vI x1, vI x2, vI x3, vI (x2 * (4:Int32)), vI (x3 * (4:Int32)), vI y202, vI y203, vI y204, vI y205, vI y206, vI y207, vI y208, vI y209, vI (x1 * (4:Int32))], [], (H0 s o))) rfl ?_
    refine zS Ad W 10 (st' := (141, [vR 1, vI x1, vI x2, vI x3, vI (x2 * (4:Int32)), vI (x3 * (4:Int32)), vI y202, vI y203, vI y204, vI y205, vI y206, vI y207, vI y208, vI y209, vI (x1 * (4:Int32))], [.int ((y202 * y206) + (y203 * y208)), .int (x1 * (4:Int32)), .ref 10], (H0 s o))) rfl ?_
    obtain ⟨y210, hy210, h⟩ := bind_eq_some_iff.mp h
    refine zB Ad W (f := fun y210 => (142, [vR 1, vI x1, vI x2, vI x3, vI (x2 * (4:Int32)), vI (x3 * (4:Int32)), vI y202, vI y203, vI y204, vI y205, vI y206, vI y207, vI y208, vI y209, vI (x1 * (4:Int32))], [], (H0x6 s o y210))) rfl hy210 ?_
    refine zS Ad W 12 (st' := (161, [vR 1, vI x1, vI x2, vI x3, vI (x2 * (4:Int32)), vI (x3 * (4:Int32)), vI y202, vI y203, vI y204, vI y205, vI y206, vI y207, vI y208, vI y209, vI (x1 * (4:Int32))], [.int ((y202 * y207) + (y203 * y209)), .int ((x1 * (4:Int32)) + (1:Int32)), .ref 10], (H0x6 s o y210))) rfl ?_
    obtain ⟨y211, hy211, h⟩ := bind_eq_some_iff.mp h
    refine zB Ad W (f := fun y211 => (162, [vR 1, vI x1, vI x2, vI x3, vI (x2 * (4:Int32)), vI (x3 * (4:Int32)), vI y202, vI y203, vI y204, vI y205, vI y206, vI y207, vI y208, vI y209, vI (x1 * (4:Int32))], [], (H0x6 s o y211))) rfl hy211 ?_
    refine zS Ad W 12 (st' := (181, [vR 1, vI x1, vI x2, vI x3, vI (x2 * (4:Int32)), vI (x3 * (4:Int32)), vI y202, vI y203, vI y204, vI y205, vI y206, vI y207, vI y208, vI y209, vI (x1 * (4:Int32))], [.int ((y204 * y206) + (y205 * y208)), .int ((x1 * (4:Int32)) + (2:Int32)), .ref 10], (H0x6 s o y211))) rfl ?_
    obtain ⟨y212, hy212, h⟩ := bind_eq_some_iff.mp h
    refine zB Ad W (f := fun y212 => (182, [vR 1, vI x1, vI x2, vI x3, vI (x2 * (4:Int32)), vI (x3 * (4:Int32)), vI y202, vI y203, vI y204, vI y205, vI y206, vI y207, vI y208, vI y209, vI (x1 * (4:Int32))], [], (H0x6 s o y212))) rfl hy212 ?_
    refine zS Ad W 12 (st' := (201, [vR 1, vI x1, vI x2, vI x3, vI (x2 * (4:Int32)), vI (x3 * (4:Int32)), vI y202, vI y203, vI y204, vI y205, vI y206, vI y207, vI y208, vI y209, vI (x1 * (4:Int32))], [.int ((y204 * y207) + (y205 * y209)), .int ((x1 * (4:Int32)) + (3:Int32)), .ref 10], (H0x6 s o y212))) rfl ?_
    obtain ⟨y213, hy213, h⟩ := bind_eq_some_iff.mp h
    refine zB Ad W (f := fun y213 => (202, [vR 1, vI x1, vI x2, vI x3, vI (x2 * (4:Int32)), vI (x3 * (4:Int32)), vI y202, vI y203, vI y204, vI y205, vI y206, vI y207, vI y208, vI y209, vI (x1 * (4:Int32))], [], (H0x6 s o y213))) rfl hy213 ?_
    have E214 : ((H0x6 s o y213) : QHeap) = (H0 s (s_reg o y213)) := by simp only [fs, H0, H0v, H0x6, s_reg]
    rw [E214]
    obtain rfl := Option.some.inj h
    exact QTri.ret0 rfl rfl
def J26_28 (o : Ob) (x1 : Int32) (x2 : Int32) : Option (Ob) :=
  (F27 o (2 : Int32) x1).bind fun r195 => (F28 r195 x2 (1 : Int32) (2 : Int32)).bind fun r215 => some r215
theorem tJ26_28 (Ad : QAd n0 ad) (W : QW Z a0) (s : List Int32) (o : Ob) (x1 : Int32) (x2 : Int32) {r : Ob} (h : J26_28 o x1 x2 = some r) : QTri l Z n0 ad 26 (28, [vR 1, vI x1, vI x2, none], [], (H0 s o)) (none : Option Value) (H0 s r) := by
 unfold J26_28 at h
 refine zS Ad W 3 (st' := (31, [vR 1, vI x1, vI x2, none], [.int x1, .int (2:Int32), .ref 1], (H0 s o))) rfl ?_
 obtain ⟨r195, hr195, h⟩ := bind_eq_some_iff.mp h
 refine QTri.callP W (a := 1) (as := [.int (2:Int32), .int x1]) (rest := []) (w := none) (σ₁ := (H0 s r195)) rfl rfl rfl rfl rfl rfl rfl rfl (tF27 Ad W s o (2:Int32) x1 hr195) ?_
 refine zS Ad W 4 (st' := (38, [vR 1, vI x1, vI x2, none], [.int (2:Int32), .int (1:Int32), .int x2, .ref 1], (H0 s r195))) rfl ?_
 obtain ⟨r215, hr215, h⟩ := bind_eq_some_iff.mp h
 refine QTri.callP W (a := 1) (as := [.int x2, .int (1:Int32), .int (2:Int32)]) (rest := []) (w := none) (σ₁ := (H0 s r215)) rfl rfl rfl rfl rfl rfl rfl rfl (tF28 Ad W s r195 x2 (1:Int32) (2:Int32) hr215) ?_
 obtain rfl := Option.some.inj h
 exact QTri.ret0 rfl rfl
/-- liveFold(II)V -/
def F26 (o : Ob) (x1 : Int32) (x2 : Int32) : Option (Ob) :=
 (aget (f_frontSize o) x1).bind fun y167 => (if (0:Int32) < y167 then (F42 o (1:Int32) x1 (y167 - (1:Int32))).bind fun r184 => (J26_28 r184 x1 x2) else (F4 o (1:Int32)).bind fun r216 => (J26_28 r216 x1 x2))
theorem tF26 (Ad : QAd n0 ad) (W : QW Z a0) (s : List Int32) (o : Ob) (x1 : Int32) (x2 : Int32) {r : Ob} (h : F26 o x1 x2 = some r) : QTri l Z n0 ad 26 (0, qentry [.ref 1, .int x1, .int x2] (pMaxL 26), [], (H0 s o)) (none : Option Value) (H0 s r) := by
 unfold F26 at h
 refine zS Ad W 3 (st' := (5, [vR 1, vI x1, vI x2, none], [.int x1, .ref 4], (H0 s o))) rfl ?_
 obtain ⟨y167, hy167, h⟩ := bind_eq_some_iff.mp h
 refine zB Ad W (f := fun y167 => (6, [vR 1, vI x1, vI x2, none], [.int y167], (H0 s o))) rfl hy167 ?_
 refine zS Ad W 2 (st' := (8, [vR 1, vI x1, vI x2, vI y167], [.int y167], (H0 s o))) rfl ?_
 rcases qite h with ⟨hc168, h⟩ | ⟨hc168, h⟩
 ·refine zF Ad W (t := 23) (f := 11) rfl (XT.i0_le_f hc168) ?_
  refine zS Ad W 6 (st' := (17, [vR 1, vI x1, vI x2, vI y167], [.int (y167 - (1:Int32)), .int x1, .int (1:Int32), .ref 1], (H0 s o))) rfl ?_
  obtain ⟨r184, hr184, h⟩ := bind_eq_some_iff.mp h
  refine QTri.callP W (a := 1) (as := [.int (1:Int32), .int x1, .int (y167 - (1:Int32))]) (rest := []) (w := none) (σ₁ := (H0 s r184)) rfl rfl rfl rfl rfl rfl rfl rfl (tF42 Ad W s o (1:Int32) x1 (y167 - (1:Int32)) hr184) ?_
  refine zS Ad W 1 (st' := (28, [vR 1, vI x1, vI x2, vI y167], [], (H0 s r184))) rfl ?_
  exact zM [tt,tt,tt,ff] (tJ26_28 Ad W s r184 x1 x2 h)
 ·refine zT Ad W (t := 23) (f := 11) rfl (XT.i0_le_t hc168) ?_
  refine zS Ad W 2 (st' := (25, [vR 1, vI x1, vI x2, vI y167], [.int (1:Int32), .ref 1], (H0 s o))) rfl ?_
  obtain ⟨r216, hr216, h⟩ := bind_eq_some_iff.mp h
  refine QTri.callP W (a := 1) (as := [.int (1:Int32)]) (rest := []) (w := none) (σ₁ := (H0 s r216)) rfl rfl rfl rfl rfl rfl rfl rfl (tF4 Ad W s o (1:Int32) hr216) ?_
  exact zM [tt,tt,tt,ff] (tJ26_28 Ad W s r216 x1 x2 h)
/-- regEntry(II)I -/
def F29 (o : Ob) (x1 : Int32) (x2 : Int32) : Option (Int32) :=
 (F6 x1).bind fun r218 => (if r218 = (0:Int32) then some (0:Int32) else (F23 x2).bind fun r220 => (if r220 = (0:Int32) then some (0:Int32) else (aget (f_reg o) ((x1 * (4:Int32)) + x2)).bind fun y222 => some y222))
theorem tF29 (Ad : QAd n0 ad) (W : QW Z a0) (s : List Int32) (o : Ob) (x1 : Int32) (x2 : Int32) {r : Int32} (h : F29 o x1 x2 = some r) : QTri l Z n0 ad 29 (0, qentry [.ref 1, .int x1, .int x2] (pMaxL 29), [], (H0 s o)) (some (Value.int r)) (H0 s o) := by
 unfold F29 at h
 refine zS Ad W 2 (st' := (2, [vR 1, vI x1, vI x2], [.int x1, .ref 1], (H0 s o))) rfl ?_
 obtain ⟨r218, hr218, h⟩ := bind_eq_some_iff.mp h
 refine QTri.callP W (a := 1) (as := [.int x1]) (rest := []) (w := (some (.int r218))) (σ₁ := (H0 s o)) rfl rfl rfl rfl rfl rfl rfl rfl (tF6 Ad W x1 hr218) ?_
 rcases qite h with ⟨hc219, h⟩ | ⟨hc219, h⟩
 ·refine zT Ad W (t := 16) (f := 8) rfl (XT.i0_eq_t hc219) ?_
  refine zS Ad W 1 (st' := (17, [vR 1, vI x1, vI x2], [.int (0:Int32)], (H0 s o))) rfl ?_
  obtain rfl := Option.some.inj h
  exact QTri.retI rfl rfl
 ·refine zF Ad W (t := 16) (f := 8) rfl (XT.i0_eq_f hc219) ?_
  refine zS Ad W 2 (st' := (10, [vR 1, vI x1, vI x2], [.int x2, .ref 1], (H0 s o))) rfl ?_
  obtain ⟨r220, hr220, h⟩ := bind_eq_some_iff.mp h
  refine QTri.callP W (a := 1) (as := [.int x2]) (rest := []) (w := (some (.int r220))) (σ₁ := (H0 s o)) rfl rfl rfl rfl rfl rfl rfl rfl (tF23 Ad W x2 hr220) ?_
  rcases qite h with ⟨hc221, h⟩ | ⟨hc221, h⟩
  ·refine zF Ad W (t := 18) (f := 16) rfl (XT.i0_ne_f hc221) ?_
   refine zS Ad W 1 (st' := (17, [vR 1, vI x1, vI x2], [.int (0:Int32)], (H0 s o))) rfl ?_
   obtain rfl := Option.some.inj h
   exact QTri.retI rfl rfl
  ·refine zT Ad W (t := 18) (f := 16) rfl (XT.i0_ne_t hc221) ?_
   refine zS Ad W 7 (st' := (27, [vR 1, vI x1, vI x2], [.int ((x1 * (4:Int32)) + x2), .ref 10], (H0 s o))) rfl ?_
   obtain ⟨y222, hy222, h⟩ := bind_eq_some_iff.mp h
   refine zB Ad W (f := fun y222 => (28, [vR 1, vI x1, vI x2], [.int y222], (H0 s o))) rfl hy222 ?_
   obtain rfl := Option.some.inj h
   exact QTri.retI rfl rfl
/-- liveResult(II)I -/
def F25 (o : Ob) (x1 : Int32) (x2 : Int32) : Option (Int32 × Ob) :=
 (F16 o x1).bind fun r163 => (if r163 = (0:Int32) then some ((0:Int32), o) else (F23 x2).bind fun r165 => (if r165 = (0:Int32) then some ((0:Int32), o) else (F26 o x1 (3:Int32)).bind fun r217 => (F29 r217 (3:Int32) x2).bind fun r223 => some (r223, r217)))
theorem tF25 (Ad : QAd n0 ad) (W : QW Z a0) (s : List Int32) (o : Ob) (x1 : Int32) (x2 : Int32) {r : Int32 × Ob} (h : F25 o x1 x2 = some r) : QTri l Z n0 ad 25 (0, qentry [.ref 1, .int x1, .int x2] (pMaxL 25), [], (H0 s o)) (some (Value.int r.1)) (H0 s r.2) := by
 unfold F25 at h
 refine zS Ad W 2 (st' := (2, [vR 1, vI x1, vI x2], [.int x1, .ref 1], (H0 s o))) rfl ?_
 obtain ⟨r163, hr163, h⟩ := bind_eq_some_iff.mp h
 refine QTri.callP W (a := 1) (as := [.int x1]) (rest := []) (w := (some (.int r163))) (σ₁ := (H0 s o)) rfl rfl rfl rfl rfl rfl rfl rfl (tF16 Ad W s o x1 hr163) ?_
 rcases qite h with ⟨hc164, h⟩ | ⟨hc164, h⟩
 ·refine zF Ad W (t := 10) (f := 8) rfl (XT.i0_ne_f hc164) ?_
  refine zS Ad W 1 (st' := (9, [vR 1, vI x1, vI x2], [.int (0:Int32)], (H0 s o))) rfl ?_
  obtain rfl := Option.some.inj h
  exact QTri.retI rfl rfl
 ·refine zT Ad W (t := 10) (f := 8) rfl (XT.i0_ne_t hc164) ?_
  refine zS Ad W 2 (st' := (12, [vR 1, vI x1, vI x2], [.int x2, .ref 1], (H0 s o))) rfl ?_
  obtain ⟨r165, hr165, h⟩ := bind_eq_some_iff.mp h
  refine QTri.callP W (a := 1) (as := [.int x2]) (rest := []) (w := (some (.int r165))) (σ₁ := (H0 s o)) rfl rfl rfl rfl rfl rfl rfl rfl (tF23 Ad W x2 hr165) ?_
  rcases qite h with ⟨hc166, h⟩ | ⟨hc166, h⟩
  ·refine zF Ad W (t := 20) (f := 18) rfl (XT.i0_ne_f hc166) ?_
   refine zS Ad W 1 (st' := (19, [vR 1, vI x1, vI x2], [.int (0:Int32)], (H0 s o))) rfl ?_
   obtain rfl := Option.some.inj h
   exact QTri.retI rfl rfl
  ·refine zT Ad W (t := 20) (f := 18) rfl (XT.i0_ne_t hc166) ?_
   refine zS Ad W 3 (st' := (23, [vR 1, vI x1, vI x2], [.int (3:Int32), .int x1, .ref 1], (H0 s o))) rfl ?_
   obtain ⟨r217, hr217, h⟩ := bind_eq_some_iff.mp h
   refine QTri.callP W (a := 1) (as := [.int x1, .int (3:Int32)]) (rest := []) (w := none) (σ₁ := (H0 s r217)) rfl rfl rfl rfl rfl rfl rfl rfl (tF26 Ad W s o x1 (3:Int32) hr217) ?_
   refine zS Ad W 3 (st' := (29, [vR 1, vI x1, vI x2], [.int x2, .int (3:Int32), .ref 1], (H0 s r217))) rfl ?_
   obtain ⟨r223, hr223, h⟩ := bind_eq_some_iff.mp h
   refine QTri.callP W (a := 1) (as := [.int (3:Int32), .int x2]) (rest := []) (w := (some (.int r223))) (σ₁ := (H0 s r217)) rfl rfl rfl rfl rfl rfl rfl rfl (tF29 Ad W s r217 (3:Int32) x2 hr223) ?_
   obtain rfl := Option.some.inj h
   exact QTri.retI rfl rfl
def B12_159 (s : List Int32) (x2 : Int32) (x3 : Int32) (x4 : Int32) (x5 : Int32) (x6 : Int32) (x9 : Int32) (x10 : Int32) (x11 : Int32) (v : Int32 × Ob) : Option (((Ob) ⊕ (Int32 × Ob)) ⊕ (Int32 × Ob)) :=
  (if v.1 < (4 : Int32) then (F22 v.2 x6 v.1).bind fun r139 => (F24 s x3 x4 x10 x9 v.1).bind fun r161 => (if r139 = r161 then (F25 v.2 x6 v.1).bind fun r224 => (F24 s x3 x4 x11 x5 v.1).bind fun r225 => (if r224.1 = r225 then some (.inr ((v.1 + (1 : Int32)), r224.2)) else some (.inl (Sum.inr ((0 : Int32), r224.2)))) else some (.inl (Sum.inr ((0 : Int32), v.2)))) else some (.inl (Sum.inl v.2)))
theorem tB12_159 (Ad : QAd n0 ad) (W : QW Z a0) (s : List Int32) (x2 : Int32) (x3 : Int32) (x4 : Int32) (x5 : Int32) (x6 : Int32) (x9 : Int32) (x10 : Int32) (x11 : Int32) (v : Int32 × Ob) {r : ((Ob) ⊕ (Int32 × Ob)) ⊕ (Int32 × Ob)} {u : Option Value} {τ : QHeap} (h : B12_159 s x2 x3 x4 x5 x6 x9 x10 x11 v = some r) (hx0 : ∀ x : Ob, r = .inl (Sum.inl x) → QTri l Z n0 ad 12 (223, [vR 1, vR 0, vI x2, vI x3, vI x4, vI x5, vI x6, none, none, none, none, none, none], [], (H0 s x)) u τ) (hx1 : ∀ x : Int32 × Ob, r = .inl (Sum.inr x) → u = (some (Value.int x.1)) ∧ τ = (H0 s x.2)) (hc : ∀ x : Int32 × Ob, r = .inr x → QTri l Z n0 ad 12 (159, [vR 1, vR 0, vI x2, vI x3, vI x4, vI x5, vI x6, none, none, vI x9, vI x10, vI x11, vI x.1], [], (H0 s x.2)) u τ) : QTri l Z n0 ad 12 (159, [vR 1, vR 0, vI x2, vI x3, vI x4, vI x5, vI x6, none, none, vI x9, vI x10, vI x11, vI v.1], [], (H0 s v.2)) u τ := by
 unfold B12_159 at h
 refine zS Ad W 2 (st' := (162, [vR 1, vR 0, vI x2, vI x3, vI x4, vI x5, vI x6, none, none, vI x9, vI x10, vI x11, vI v.1], [.int (4:Int32), .int v.1], (H0 s v.2))) rfl ?_
 rcases qite h with ⟨hc131, h⟩ | ⟨hc131, h⟩
 ·refine zF Ad W (t := 223) (f := 165) rfl (XT.ii_ge_f hc131) ?_
  refine zS Ad W 3 (st' := (170, [vR 1, vR 0, vI x2, vI x3, vI x4, vI x5, vI x6, none, none, vI x9, vI x10, vI x11, vI v.1], [.int v.1, .int x6, .ref 1], (H0 s v.2))) rfl ?_
  obtain ⟨r139, hr139, h⟩ := bind_eq_some_iff.mp h
  refine QTri.callV W (a := 1) (as := [.int x6, .int v.1]) (rest := []) (w := (some (.int r139))) (σ₁ := (H0 s v.2)) rfl rfl rfl rfl rfl rfl rfl rfl (tF22 Ad W s v.2 x6 v.1 hr139) ?_
  refine zS Ad W 6 (st' := (183, [vR 1, vR 0, vI x2, vI x3, vI x4, vI x5, vI x6, none, none, vI x9, vI x10, vI x11, vI v.1], [.int v.1, .int x9, .int x10, .int x4, .int x3, .ref 0, .int r139], (H0 s v.2))) rfl ?_
  obtain ⟨r161, hr161, h⟩ := bind_eq_some_iff.mp h
  refine QTri.callS W (as := [.ref 0, .int x3, .int x4, .int x10, .int x9, .int v.1]) (rest := [.int r139]) (w := (some (.int r161))) (σ₁ := (H0 s v.2)) rfl rfl rfl rfl rfl rfl rfl (tF24 Ad W v.2 s x3 x4 x10 x9 v.1 hr161) ?_
  rcases qite h with ⟨hc162, h⟩ | ⟨hc162, h⟩
  ·refine zT Ad W (t := 191) (f := 189) rfl (XT.ii_eq_t hc162) ?_
   refine zS Ad W 3 (st' := (196, [vR 1, vR 0, vI x2, vI x3, vI x4, vI x5, vI x6, none, none, vI x9, vI x10, vI x11, vI v.1], [.int v.1, .int x6, .ref 1], (H0 s v.2))) rfl ?_
   obtain ⟨r224, hr224, h⟩ := bind_eq_some_iff.mp h
   refine QTri.callV W (a := 1) (as := [.int x6, .int v.1]) (rest := []) (w := (some (.int r224.1))) (σ₁ := (H0 s r224.2)) rfl rfl rfl rfl rfl rfl rfl rfl (tF25 Ad W s v.2 x6 v.1 hr224) ?_
   refine zS Ad W 6 (st' := (209, [vR 1, vR 0, vI x2, vI x3, vI x4, vI x5, vI x6, none, none, vI x9, vI x10, vI x11, vI v.1], [.int v.1, .int x5, .int x11, .int x4, .int x3, .ref 0, .int r224.1], (H0 s r224.2))) rfl ?_
   obtain ⟨r225, hr225, h⟩ := bind_eq_some_iff.mp h
   refine QTri.callS W (as := [.ref 0, .int x3, .int x4, .int x11, .int x5, .int v.1]) (rest := [.int r224.1]) (w := (some (.int r225))) (σ₁ := (H0 s r224.2)) rfl rfl rfl rfl rfl rfl rfl (tF24 Ad W r224.2 s x3 x4 x11 x5 v.1 hr225) ?_
   rcases qite h with ⟨hc226, h⟩ | ⟨hc226, h⟩
   ·refine zT Ad W (t := 217) (f := 215) rfl (XT.ii_eq_t hc226) ?_
    refine zS Ad W 2 (st' := (159, [vR 1, vR 0, vI x2, vI x3, vI x4, vI x5, vI x6, none, none, vI x9, vI x10, vI x11, vI (v.1 + (1:Int32))], [], (H0 s r224.2))) rfl ?_
    obtain rfl := Option.some.inj h
    exact zM [tt,tt,tt,tt,tt,tt,tt,ff,ff,tt,tt,tt,tt] (hc ((v.1 + (1:Int32)), r224.2) rfl)
   ·refine zF Ad W (t := 217) (f := 215) rfl (XT.ii_eq_f hc226) ?_
    refine zS Ad W 1 (st' := (216, [vR 1, vR 0, vI x2, vI x3, vI x4, vI x5, vI x6, none, none, vI x9, vI x10, vI x11, vI v.1], [.int (0:Int32)], (H0 s r224.2))) rfl ?_
    obtain rfl := Option.some.inj h
    obtain ⟨rfl, rfl⟩ := hx1 ((0:Int32), r224.2) rfl
    exact QTri.retZ rfl rfl
  ·refine zF Ad W (t := 191) (f := 189) rfl (XT.ii_eq_f hc162) ?_
   refine zS Ad W 1 (st' := (190, [vR 1, vR 0, vI x2, vI x3, vI x4, vI x5, vI x6, none, none, vI x9, vI x10, vI x11, vI v.1], [.int (0:Int32)], (H0 s v.2))) rfl ?_
   obtain rfl := Option.some.inj h
   obtain ⟨rfl, rfl⟩ := hx1 ((0:Int32), v.2) rfl
   exact QTri.retZ rfl rfl
 ·refine zT Ad W (t := 223) (f := 165) rfl (XT.ii_ge_t hc131) ?_
  obtain rfl := Option.some.inj h
  exact zM [tt,tt,tt,tt,tt,tt,tt,ff,ff,ff,ff,ff,ff] (hx0 v.2 rfl)
def B12_24 (s : List Int32) (x2 : Int32) (x3 : Int32) (x4 : Int32) (x5 : Int32) (v : Int32 × Ob) : Option (((Int32 × Ob)) ⊕ (Int32 × Ob)) :=
  (if v.1 < x2 then (F9 s v.1).bind fun r86 => (F10 s v.1).bind fun r87 => (F15 v.2 v.1).bind fun r94 => (if r94 = r86 then (F17 v.2 v.1).bind fun r99 => (if r99 = r87 then (qdiv x5 r87).bind fun y101 => (F18 v.2 v.1).bind fun r116 => (if r116 = (if ((r87 * y101) - r86) < (0 : Int32) then (0 : Int32) else ((r87 * y101) - r86)) then (F20 v.2 v.1).bind fun r121 => (if r121 = (r87 * y101) then (F21 v.2 v.1).bind fun r128 => (qdiv x5 r87).bind fun y129 => (if r128 = y129 then ((loopN (B12_159 s x2 x3 x4 x5 v.1 (r87 * y101) (if ((r87 * y101) - r86) < (0 : Int32) then (0 : Int32) else ((r87 * y101) - r86)) (if (x5 - r86) < (0 : Int32) then (0 : Int32) else (x5 - r86))) qN ((0 : Int32), v.2)).bind fun e227 => match e227 with | .inl e227a => some (.inr ((v.1 + (1 : Int32)), e227a)) | .inr e227a => some (.inl e227a)) else some (.inl ((0 : Int32), v.2))) else some (.inl ((0 : Int32), v.2))) else some (.inl ((0 : Int32), v.2))) else some (.inl ((0 : Int32), v.2))) else some (.inl ((0 : Int32), v.2))) else some (.inl ((1 : Int32), v.2)))
theorem tB12_24 (Ad : QAd n0 ad) (W : QW Z a0) (s : List Int32) (x2 : Int32) (x3 : Int32) (x4 : Int32) (x5 : Int32) (v : Int32 × Ob) {r : ((Int32 × Ob)) ⊕ (Int32 × Ob)} {u : Option Value} {τ : QHeap} (h : B12_24 s x2 x3 x4 x5 v = some r) (hx0 : ∀ x : Int32 × Ob, r = .inl x → u = (some (Value.int x.1)) ∧ τ = (H0 s x.2)) (hc : ∀ x : Int32 × Ob, r = .inr x → QTri l Z n0 ad 12 (24, [vR 1, vR 0, vI x2, vI x3, vI x4, vI x5, vI x.1, none, none, none, none, none, none], [], (H0 s x.2)) u τ) : QTri l Z n0 ad 12 (24, [vR 1, vR 0, vI x2, vI x3, vI x4, vI x5, vI v.1, none, none, none, none, none, none], [], (H0 s v.2)) u τ := by
 unfold B12_24 at h
 refine zS Ad W 2 (st' := (27, [vR 1, vR 0, vI x2, vI x3, vI x4, vI x5, vI v.1, none, none, none, none, none, none], [.int x2, .int v.1], (H0 s v.2))) rfl ?_
 rcases qite h with ⟨hc85, h⟩ | ⟨hc85, h⟩
 ·refine zF Ad W (t := 229) (f := 30) rfl (XT.ii_ge_f hc85) ?_
  refine zS Ad W 2 (st' := (33, [vR 1, vR 0, vI x2, vI x3, vI x4, vI x5, vI v.1, none, none, none, none, none, none], [.int v.1, .ref 0], (H0 s v.2))) rfl ?_
  obtain ⟨r86, hr86, h⟩ := bind_eq_some_iff.mp h
  refine QTri.callS W (as := [.ref 0, .int v.1]) (rest := []) (w := (some (.int r86))) (σ₁ := (H0 s v.2)) rfl rfl rfl rfl rfl rfl rfl (tF9 Ad W v.2 s v.1 hr86) ?_
  refine zS Ad W 3 (st' := (41, [vR 1, vR 0, vI x2, vI x3, vI x4, vI x5, vI v.1, vI r86, none, none, none, none, none], [.int v.1, .ref 0], (H0 s v.2))) rfl ?_
  obtain ⟨r87, hr87, h⟩ := bind_eq_some_iff.mp h
  refine QTri.callS W (as := [.ref 0, .int v.1]) (rest := []) (w := (some (.int r87))) (σ₁ := (H0 s v.2)) rfl rfl rfl rfl rfl rfl rfl (tF10 Ad W v.2 s v.1 hr87) ?_
  refine zS Ad W 3 (st' := (49, [vR 1, vR 0, vI x2, vI x3, vI x4, vI x5, vI v.1, vI r86, vI r87, none, none, none, none], [.int v.1, .ref 1], (H0 s v.2))) rfl ?_
  obtain ⟨r94, hr94, h⟩ := bind_eq_some_iff.mp h
  refine QTri.callV W (a := 1) (as := [.int v.1]) (rest := []) (w := (some (.int r94))) (σ₁ := (H0 s v.2)) rfl rfl rfl rfl rfl rfl rfl rfl (tF15 Ad W s v.2 v.1 hr94) ?_
  refine zS Ad W 1 (st' := (54, [vR 1, vR 0, vI x2, vI x3, vI x4, vI x5, vI v.1, vI r86, vI r87, none, none, none, none], [.int r86, .int r94], (H0 s v.2))) rfl ?_
  rcases qite h with ⟨hc95, h⟩ | ⟨hc95, h⟩
  ·refine zF Ad W (t := 68) (f := 57) rfl (XT.ii_ne_f hc95) ?_
   refine zS Ad W 2 (st' := (60, [vR 1, vR 0, vI x2, vI x3, vI x4, vI x5, vI v.1, vI r86, vI r87, none, none, none, none], [.int v.1, .ref 1], (H0 s v.2))) rfl ?_
   obtain ⟨r99, hr99, h⟩ := bind_eq_some_iff.mp h
   refine QTri.callV W (a := 1) (as := [.int v.1]) (rest := []) (w := (some (.int r99))) (σ₁ := (H0 s v.2)) rfl rfl rfl rfl rfl rfl rfl rfl (tF17 Ad W s v.2 v.1 hr99) ?_
   refine zS Ad W 1 (st' := (65, [vR 1, vR 0, vI x2, vI x3, vI x4, vI x5, vI v.1, vI r86, vI r87, none, none, none, none], [.int r87, .int r99], (H0 s v.2))) rfl ?_
   rcases qite h with ⟨hc100, h⟩ | ⟨hc100, h⟩
   ·refine zT Ad W (t := 70) (f := 68) rfl (XT.ii_eq_t hc100) ?_
    refine zS Ad W 3 (st' := (76, [vR 1, vR 0, vI x2, vI x3, vI x4, vI x5, vI v.1, vI r86, vI r87, none, none, none, none], [.int r87, .int x5, .int r87], (H0 s v.2))) rfl ?_
    obtain ⟨y101, hy101, h⟩ := bind_eq_some_iff.mp h
    refine zB Ad W (f := fun y101 => (77, [vR 1, vR 0, vI x2, vI x3, vI x4, vI x5, vI v.1, vI r86, vI r87, none, none, none, none], [.int y101, .int r87], (H0 s v.2))) rfl hy101 ?_
    refine zS Ad W 5 (st' := (85, [vR 1, vR 0, vI x2, vI x3, vI x4, vI x5, vI v.1, vI r86, vI r87, vI (r87 * y101), none, none, none], [.int ((r87 * y101) - r86)], (H0 s v.2))) rfl ?_
    have K103 : ∀ z102 : Int32, z102 = (if ((r87 * y101) - r86) < (0:Int32) then (0:Int32) else ((r87 * y101) - r86)) → QTri l Z n0 ad 12 (97, [vR 1, vR 0, vI x2, vI x3, vI x4, vI x5, vI v.1, vI r86, vI r87, vI (r87 * y101), none, none, none], [.int z102], (H0 s v.2)) u τ := by
     intro z102 ez102
     subst ez102
     refine zS Ad W 4 (st' := (104, [vR 1, vR 0, vI x2, vI x3, vI x4, vI x5, vI v.1, vI r86, vI r87, vI (r87 * y101), vI (if ((r87 * y101) - r86) < (0:Int32) then (0:Int32) else ((r87 * y101) - r86)), none, none], [.int (x5 - r86)], (H0 s v.2))) rfl ?_
     have K106 : ∀ z105 : Int32, z105 = (if (x5 - r86) < (0:Int32) then (0:Int32) else (x5 - r86)) → QTri l Z n0 ad 12 (116, [vR 1, vR 0, vI x2, vI x3, vI x4, vI x5, vI v.1, none, vI r87, vI (r87 * y101), vI (if ((r87 * y101) - r86) < (0:Int32) then (0:Int32) else ((r87 * y101) - r86)), none, none], [.int z105], (H0 s v.2)) u τ := by
      intro z105 ez105
      subst ez105
      refine zS Ad W 3 (st' := (121, [vR 1, vR 0, vI x2, vI x3, vI x4, vI x5, vI v.1, none, vI r87, vI (r87 * y101), vI (if ((r87 * y101) - r86) < (0:Int32) then (0:Int32) else ((r87 * y101) - r86)), vI (if (x5 - r86) < (0:Int32) then (0:Int32) else (x5 - r86)), none], [.int v.1, .ref 1], (H0 s v.2))) rfl ?_
      obtain ⟨r116, hr116, h⟩ := bind_eq_some_iff.mp h
      refine QTri.callV W (a := 1) (as := [.int v.1]) (rest := []) (w := (some (.int r116))) (σ₁ := (H0 s v.2)) rfl rfl rfl rfl rfl rfl rfl rfl (tF18 Ad W s v.2 v.1 hr116) ?_
      refine zS Ad W 1 (st' := (126, [vR 1, vR 0, vI x2, vI x3, vI x4, vI x5, vI v.1, none, vI r87, vI (r87 * y101), vI (if ((r87 * y101) - r86) < (0:Int32) then (0:Int32) else ((r87 * y101) - r86)), vI (if (x5 - r86) < (0:Int32) then (0:Int32) else (x5 - r86)), none], [.int (if ((r87 * y101) - r86) < (0:Int32) then (0:Int32) else ((r87 * y101) - r86)), .int r116], (H0 s v.2))) rfl ?_
      rcases qite h with ⟨hc117, h⟩ | ⟨hc117, h⟩
      ·refine zF Ad W (t := 154) (f := 129) rfl (XT.ii_ne_f hc117) ?_
       refine zS Ad W 2 (st' := (132, [vR 1, vR 0, vI x2, vI x3, vI x4, vI x5, vI v.1, none, vI r87, vI (r87 * y101), vI (if ((r87 * y101) - r86) < (0:Int32) then (0:Int32) else ((r87 * y101) - r86)), vI (if (x5 - r86) < (0:Int32) then (0:Int32) else (x5 - r86)), none], [.int v.1, .ref 1], (H0 s v.2))) rfl ?_
       obtain ⟨r121, hr121, h⟩ := bind_eq_some_iff.mp h
       refine QTri.callV W (a := 1) (as := [.int v.1]) (rest := []) (w := (some (.int r121))) (σ₁ := (H0 s v.2)) rfl rfl rfl rfl rfl rfl rfl rfl (tF20 Ad W s v.2 v.1 hr121) ?_
       refine zS Ad W 1 (st' := (137, [vR 1, vR 0, vI x2, vI x3, vI x4, vI x5, vI v.1, none, vI r87, vI (r87 * y101), vI (if ((r87 * y101) - r86) < (0:Int32) then (0:Int32) else ((r87 * y101) - r86)), vI (if (x5 - r86) < (0:Int32) then (0:Int32) else (x5 - r86)), none], [.int (r87 * y101), .int r121], (H0 s v.2))) rfl ?_
       rcases qite h with ⟨hc122, h⟩ | ⟨hc122, h⟩
       ·refine zF Ad W (t := 154) (f := 140) rfl (XT.ii_ne_f hc122) ?_
        refine zS Ad W 2 (st' := (143, [vR 1, vR 0, vI x2, vI x3, vI x4, vI x5, vI v.1, none, vI r87, vI (r87 * y101), vI (if ((r87 * y101) - r86) < (0:Int32) then (0:Int32) else ((r87 * y101) - r86)), vI (if (x5 - r86) < (0:Int32) then (0:Int32) else (x5 - r86)), none], [.int v.1, .ref 1], (H0 s v.2))) rfl ?_
        obtain ⟨r128, hr128, h⟩ := bind_eq_some_iff.mp h
        refine QTri.callV W (a := 1) (as := [.int v.1]) (rest := []) (w := (some (.int r128))) (σ₁ := (H0 s v.2)) rfl rfl rfl rfl rfl rfl rfl rfl (tF21 Ad W s v.2 v.1 hr128) ?_
        refine zS Ad W 2 (st' := (150, [vR 1, vR 0, vI x2, vI x3, vI x4, vI x5, vI v.1, none, vI r87, vI (r87 * y101), vI (if ((r87 * y101) - r86) < (0:Int32) then (0:Int32) else ((r87 * y101) - r86)), vI (if (x5 - r86) < (0:Int32) then (0:Int32) else (x5 - r86)), none], [.int r87, .int x5, .int r128], (H0 s v.2))) rfl ?_
        obtain ⟨y129, hy129, h⟩ := bind_eq_some_iff.mp h
        refine zB Ad W (f := fun y129 => (151, [vR 1, vR 0, vI x2, vI x3, vI x4, vI x5, vI v.1, none, vI r87, vI (r87 * y101), vI (if ((r87 * y101) - r86) < (0:Int32) then (0:Int32) else ((r87 * y101) - r86)), vI (if (x5 - r86) < (0:Int32) then (0:Int32) else (x5 - r86)), none], [.int y129, .int r128], (H0 s v.2))) rfl hy129 ?_
        rcases qite h with ⟨hc130, h⟩ | ⟨hc130, h⟩
        ·refine zT Ad W (t := 156) (f := 154) rfl (XT.ii_eq_t hc130) ?_
         refine zS Ad W 2 (st' := (159, [vR 1, vR 0, vI x2, vI x3, vI x4, vI x5, vI v.1, none, vI r87, vI (r87 * y101), vI (if ((r87 * y101) - r86) < (0:Int32) then (0:Int32) else ((r87 * y101) - r86)), vI (if (x5 - r86) < (0:Int32) then (0:Int32) else (x5 - r86)), vI (0:Int32)], [], (H0 s v.2))) rfl ?_
         obtain ⟨e227, he227, h⟩ := bind_eq_some_iff.mp h
         refine zM [tt,tt,tt,tt,tt,tt,tt,ff,ff,tt,tt,tt,tt] (loopN_tri (B := B12_159 s x2 x3 x4 x5 v.1 (r87 * y101) (if ((r87 * y101) - r86) < (0:Int32) then (0:Int32) else ((r87 * y101) - r86)) (if (x5 - r86) < (0:Int32) then (0:Int32) else (x5 - r86))) (T := fun lv228 => QTri l Z n0 ad 12 (159, [vR 1, vR 0, vI x2, vI x3, vI x4, vI x5, vI v.1, none, none, vI (r87 * y101), vI (if ((r87 * y101) - r86) < (0:Int32) then (0:Int32) else ((r87 * y101) - r86)), vI (if (x5 - r86) < (0:Int32) then (0:Int32) else (x5 - r86)), vI lv228.1], [], (H0 s lv228.2)) u τ) (KE := fun e => match e with | .inl e227a => QTri l Z n0 ad 12 (223, [vR 1, vR 0, vI x2, vI x3, vI x4, vI x5, vI v.1, none, none, none, none, none, none], [], (H0 s e227a)) u τ | .inr e227a => u = (some (Value.int e227a.1)) ∧ τ = (H0 s e227a.2)) (fun lv228 r hB hE hC => tB12_159 Ad W s x2 x3 x4 x5 v.1 (r87 * y101) (if ((r87 * y101) - r86) < (0:Int32) then (0:Int32) else ((r87 * y101) - r86)) (if (x5 - r86) < (0:Int32) then (0:Int32) else (x5 - r86)) lv228 hB (fun x q => hE _ q) (fun x q => hE _ q) (fun x q => hC x q)) qN ((0:Int32), v.2) e227 he227 ?_)
         rcases e227 with e227a | e227a
         ·refine zS Ad W 2 (st' := (24, [vR 1, vR 0, vI x2, vI x3, vI x4, vI x5, vI (v.1 + (1:Int32)), none, none, none, none, none, none], [], (H0 s e227a))) rfl ?_
          obtain rfl := Option.some.inj h
          exact zM [tt,tt,tt,tt,tt,tt,tt,ff,ff,ff,ff,ff,ff] (hc ((v.1 + (1:Int32)), e227a) rfl)
         ·obtain rfl := Option.some.inj h
          exact hx0 e227a rfl
        ·refine zF Ad W (t := 156) (f := 154) rfl (XT.ii_eq_f hc130) ?_
         refine zS Ad W 1 (st' := (155, [vR 1, vR 0, vI x2, vI x3, vI x4, vI x5, vI v.1, none, vI r87, vI (r87 * y101), vI (if ((r87 * y101) - r86) < (0:Int32) then (0:Int32) else ((r87 * y101) - r86)), vI (if (x5 - r86) < (0:Int32) then (0:Int32) else (x5 - r86)), none], [.int (0:Int32)], (H0 s v.2))) rfl ?_
         obtain rfl := Option.some.inj h
         obtain ⟨rfl, rfl⟩ := hx0 ((0:Int32), v.2) rfl
         exact QTri.retZ rfl rfl
       ·refine zT Ad W (t := 154) (f := 140) rfl (XT.ii_ne_t hc122) ?_
        refine zS Ad W 1 (st' := (155, [vR 1, vR 0, vI x2, vI x3, vI x4, vI x5, vI v.1, none, vI r87, vI (r87 * y101), vI (if ((r87 * y101) - r86) < (0:Int32) then (0:Int32) else ((r87 * y101) - r86)), vI (if (x5 - r86) < (0:Int32) then (0:Int32) else (x5 - r86)), none], [.int (0:Int32)], (H0 s v.2))) rfl ?_
        obtain rfl := Option.some.inj h
        obtain ⟨rfl, rfl⟩ := hx0 ((0:Int32), v.2) rfl
        exact QTri.retZ rfl rfl
      ·refine zT Ad W (t := 154) (f := 129) rfl (XT.ii_ne_t hc117) ?_
       refine zS Ad W 1 (st' := (155, [vR 1, vR 0, vI x2, vI x3, vI x4, vI x5, vI v.1, none, vI r87, vI (r87 * y101), vI (if ((r87 * y101) - r86) < (0:Int32) then (0:Int32) else ((r87 * y101) - r86)), vI (if (x5 - r86) < (0:Int32) then (0:Int32) else (x5 - r86)), none], [.int (0:Int32)], (H0 s v.2))) rfl ?_
       obtain rfl := Option.some.inj h
       obtain ⟨rfl, rfl⟩ := hx0 ((0:Int32), v.2) rfl
       exact QTri.retZ rfl rfl
     rcases em ((x5 - r86) < (0:Int32)) with hc107 | hc107
     ·refine zF Ad W (t := 111) (f := 107) rfl (XT.i0_ge_f hc107) ?_
      refine zS Ad W 2 (st' := (116, [vR 1, vR 0, vI x2, vI x3, vI x4, vI x5, vI v.1, vI r86, vI r87, vI (r87 * y101), vI (if ((r87 * y101) - r86) < (0:Int32) then (0:Int32) else ((r87 * y101) - r86)), none, none], [.int (0:Int32)], (H0 s v.2))) rfl ?_
      exact zM [tt,tt,tt,tt,tt,tt,tt,ff,tt,tt,tt,ff,ff] (K106 _ (if_pos hc107).symm)
     ·refine zT Ad W (t := 111) (f := 107) rfl (XT.i0_ge_t hc107) ?_
      refine zS Ad W 3 (st' := (116, [vR 1, vR 0, vI x2, vI x3, vI x4, vI x5, vI v.1, vI r86, vI r87, vI (r87 * y101), vI (if ((r87 * y101) - r86) < (0:Int32) then (0:Int32) else ((r87 * y101) - r86)), none, none], [.int (x5 - r86)], (H0 s v.2))) rfl ?_
      exact zM [tt,tt,tt,tt,tt,tt,tt,ff,tt,tt,tt,ff,ff] (K106 _ (if_neg hc107).symm)
    rcases em (((r87 * y101) - r86) < (0:Int32)) with hc104 | hc104
    ·refine zF Ad W (t := 92) (f := 88) rfl (XT.i0_ge_f hc104) ?_
     refine zS Ad W 2 (st' := (97, [vR 1, vR 0, vI x2, vI x3, vI x4, vI x5, vI v.1, vI r86, vI r87, vI (r87 * y101), none, none, none], [.int (0:Int32)], (H0 s v.2))) rfl ?_
     exact zM [tt,tt,tt,tt,tt,tt,tt,tt,tt,tt,ff,ff,ff] (K103 _ (if_pos hc104).symm)
    ·refine zT Ad W (t := 92) (f := 88) rfl (XT.i0_ge_t hc104) ?_
     refine zS Ad W 3 (st' := (97, [vR 1, vR 0, vI x2, vI x3, vI x4, vI x5, vI v.1, vI r86, vI r87, vI (r87 * y101), none, none, none], [.int ((r87 * y101) - r86)], (H0 s v.2))) rfl ?_
     exact zM [tt,tt,tt,tt,tt,tt,tt,tt,tt,tt,ff,ff,ff] (K103 _ (if_neg hc104).symm)
   ·refine zF Ad W (t := 70) (f := 68) rfl (XT.ii_eq_f hc100) ?_
    refine zS Ad W 1 (st' := (69, [vR 1, vR 0, vI x2, vI x3, vI x4, vI x5, vI v.1, vI r86, vI r87, none, none, none, none], [.int (0:Int32)], (H0 s v.2))) rfl ?_
    obtain rfl := Option.some.inj h
    obtain ⟨rfl, rfl⟩ := hx0 ((0:Int32), v.2) rfl
    exact QTri.retZ rfl rfl
  ·refine zT Ad W (t := 68) (f := 57) rfl (XT.ii_ne_t hc95) ?_
   refine zS Ad W 1 (st' := (69, [vR 1, vR 0, vI x2, vI x3, vI x4, vI x5, vI v.1, vI r86, vI r87, none, none, none, none], [.int (0:Int32)], (H0 s v.2))) rfl ?_
   obtain rfl := Option.some.inj h
   obtain ⟨rfl, rfl⟩ := hx0 ((0:Int32), v.2) rfl
   exact QTri.retZ rfl rfl
 ·refine zT Ad W (t := 229) (f := 30) rfl (XT.ii_ge_t hc85) ?_
  refine zS Ad W 1 (st' := (230, [vR 1, vR 0, vI x2, vI x3, vI x4, vI x5, vI v.1, none, none, none, none, none, none], [.int (1:Int32)], (H0 s v.2))) rfl ?_
  obtain rfl := Option.some.inj h
  obtain ⟨rfl, rfl⟩ := hx0 ((1:Int32), v.2) rfl
  exact QTri.retZ rfl rfl
/-- check(LSliceAggregate;[IIIII)Z -/
def F12 (s : List Int32) (o : Ob) (x2 : Int32) (x3 : Int32) (x4 : Int32) (x5 : Int32) : Option (Int32 × Ob) :=
 (F13 o).bind fun r81 => (if r81 = x5 then (F14 o).bind fun r83 => (if r83 = x2 then (loopN (B12_24 s x2 x3 x4 x5) qN ((0:Int32), o)).bind fun e229 => some e229 else some ((0:Int32), o)) else some ((0:Int32), o))
theorem tF12 (Ad : QAd n0 ad) (W : QW Z a0) (s : List Int32) (o : Ob) (x2 : Int32) (x3 : Int32) (x4 : Int32) (x5 : Int32) {r : Int32 × Ob} (h : F12 s o x2 x3 x4 x5 = some r) : QTri l Z n0 ad 12 (0, qentry [.ref 1, .ref 0, .int x2, .int x3, .int x4, .int x5] (pMaxL 12), [], (H0 s o)) (some (Value.int r.1)) (H0 s r.2) := by
 unfold F12 at h
 refine zS Ad W 1 (st' := (1, [vR 1, vR 0, vI x2, vI x3, vI x4, vI x5, none, none, none, none, none, none, none], [.ref 1], (H0 s o))) rfl ?_
 obtain ⟨r81, hr81, h⟩ := bind_eq_some_iff.mp h
 refine QTri.callV W (a := 1) (as := []) (rest := []) (w := (some (.int r81))) (σ₁ := (H0 s o)) rfl rfl rfl rfl rfl rfl rfl rfl (tF13 Ad W s o hr81) ?_
 refine zS Ad W 1 (st' := (6, [vR 1, vR 0, vI x2, vI x3, vI x4, vI x5, none, none, none, none, none, none, none], [.int x5, .int r81], (H0 s o))) rfl ?_
 rcases qite h with ⟨hc82, h⟩ | ⟨hc82, h⟩
 ·refine zT Ad W (t := 11) (f := 9) rfl (XT.ii_eq_t hc82) ?_
  refine zS Ad W 1 (st' := (12, [vR 1, vR 0, vI x2, vI x3, vI x4, vI x5, none, none, none, none, none, none, none], [.ref 1], (H0 s o))) rfl ?_
  obtain ⟨r83, hr83, h⟩ := bind_eq_some_iff.mp h
  refine QTri.callV W (a := 1) (as := []) (rest := []) (w := (some (.int r83))) (σ₁ := (H0 s o)) rfl rfl rfl rfl rfl rfl rfl rfl (tF14 Ad W s o hr83) ?_
  refine zS Ad W 1 (st' := (16, [vR 1, vR 0, vI x2, vI x3, vI x4, vI x5, none, none, none, none, none, none, none], [.int x2, .int r83], (H0 s o))) rfl ?_
  rcases qite h with ⟨hc84, h⟩ | ⟨hc84, h⟩
  ·refine zT Ad W (t := 21) (f := 19) rfl (XT.ii_eq_t hc84) ?_
   refine zS Ad W 2 (st' := (24, [vR 1, vR 0, vI x2, vI x3, vI x4, vI x5, vI (0:Int32), none, none, none, none, none, none], [], (H0 s o))) rfl ?_
   obtain ⟨e229, he229, h⟩ := bind_eq_some_iff.mp h
   refine zM [tt,tt,tt,tt,tt,tt,tt,ff,ff,ff,ff,ff,ff] (loopN_tri (B := B12_24 s x2 x3 x4 x5) (T := fun lv230 => QTri l Z n0 ad 12 (24, [vR 1, vR 0, vI x2, vI x3, vI x4, vI x5, vI lv230.1, none, none, none, none, none, none], [], (H0 s lv230.2)) (some (Value.int r.1)) (H0 s r.2)) (KE := fun e229a => (some (Value.int r.1)) = (some (Value.int e229a.1)) ∧ (H0 s r.2) = (H0 s e229a.2)) (fun lv230 r hB hE hC => tB12_24 Ad W s x2 x3 x4 x5 lv230 hB (fun x q => hE _ q) (fun x q => hC x q)) qN ((0:Int32), o) e229 he229 ?_)
   obtain rfl := Option.some.inj h
   exact ⟨rfl, rfl⟩
  ·refine zF Ad W (t := 21) (f := 19) rfl (XT.ii_eq_f hc84) ?_
   refine zS Ad W 1 (st' := (20, [vR 1, vR 0, vI x2, vI x3, vI x4, vI x5, none, none, none, none, none, none, none], [.int (0:Int32)], (H0 s o))) rfl ?_
   obtain rfl := Option.some.inj h
   exact QTri.retZ rfl rfl
 ·refine zF Ad W (t := 11) (f := 9) rfl (XT.ii_eq_f hc82) ?_
  refine zS Ad W 1 (st' := (10, [vR 1, vR 0, vI x2, vI x3, vI x4, vI x5, none, none, none, none, none, none, none], [.int (0:Int32)], (H0 s o))) rfl ?_
  obtain rfl := Option.some.inj h
  exact QTri.retZ rfl rfl
def H0x12 (s : List Int32) (o0 : Ob) (a0_17 : Int32) : QHeap := H0v s (f_regTuple o0) (f_regA o0) (f_regB o0) (f_regC o0) (f_regCount o0) (f_slots o0) (f_range o0) (f_slide o0) (f_frontSize o0) (f_backSize o0) (f_backElem o0) (f_frontAgg o0) (f_backAgg o0) (f_snap o0) (f_reg o0) (f_capacity o0) (f_queries o0) a0_17
def B43_7 (v : Int32 × Ob) : Option (((Ob)) ⊕ (Int32 × Ob)) :=
  (if v.1 < (4 : Int32) then (F3 v.2 v.1).bind fun r238 => some (.inr ((v.1 + (1 : Int32)), r238)) else some (.inl v.2))
theorem tB43_7 (Ad : QAd n0 ad) (W : QW Z a0) (s : List Int32) (v : Int32 × Ob) {r : ((Ob)) ⊕ (Int32 × Ob)} {u : Option Value} {τ : QHeap} (h : B43_7 v = some r) (hx0 : ∀ x : Ob, r = .inl x → u = (none : Option Value) ∧ τ = (H0 s x)) (hc : ∀ x : Int32 × Ob, r = .inr x → QTri l Z n0 ad 43 (7, [vR 1, vI x.1], [], (H0 s x.2)) u τ) : QTri l Z n0 ad 43 (7, [vR 1, vI v.1], [], (H0 s v.2)) u τ := by
 unfold B43_7 at h
 refine zS Ad W 2 (st' := (9, [vR 1, vI v.1], [.int (4:Int32), .int v.1], (H0 s v.2))) rfl ?_
 rcases qite h with ⟨hc237, h⟩ | ⟨hc237, h⟩
 ·refine zF Ad W (t := 23) (f := 12) rfl (XT.ii_ge_f hc237) ?_
  refine zS Ad W 2 (st' := (14, [vR 1, vI v.1], [.int v.1, .ref 1], (H0 s v.2))) rfl ?_
  obtain ⟨r238, hr238, h⟩ := bind_eq_some_iff.mp h
  refine QTri.callP W (a := 1) (as := [.int v.1]) (rest := []) (w := none) (σ₁ := (H0 s r238)) rfl rfl rfl rfl rfl rfl rfl rfl (tF3 Ad W s v.2 v.1 hr238) ?_
  refine zS Ad W 2 (st' := (7, [vR 1, vI (v.1 + (1:Int32))], [], (H0 s r238))) rfl ?_
  obtain rfl := Option.some.inj h
  exact zM [tt,tt] (hc ((v.1 + (1:Int32)), r238) rfl)
 ·refine zT Ad W (t := 23) (f := 12) rfl (XT.ii_ge_t hc237) ?_
  obtain rfl := Option.some.inj h
  obtain ⟨rfl, rfl⟩ := hx0 v.2 rfl
  exact QTri.ret0 rfl rfl
/-- clearStream()V -/
def F43 (o : Ob) : Option (Ob) :=
 (loopN (B43_7) qN ((0:Int32), (s_n o (0:Int32)))).bind fun e239 => some e239
theorem tF43 (Ad : QAd n0 ad) (W : QW Z a0) (s : List Int32) (o : Ob) {r : Ob} (h : F43 o = some r) : QTri l Z n0 ad 43 (0, qentry [.ref 1] (pMaxL 43), [], (H0 s o)) (none : Option Value) (H0 s r) := by
 unfold F43 at h
 refine zS Ad W 3 (st' := (5, [vR 1, none], [], (H0x12 s o (0:Int32)))) rfl ?_
 refine zS Ad W 2 (st' := (7, [vR 1, vI (0:Int32)], [], (H0x12 s o (0:Int32)))) rfl ?_
 have E236 : ((H0x12 s o (0:Int32)) : QHeap) = (H0 s (s_n o (0:Int32))) := by simp only [fs, H0, H0v, H0x12, s_n]
 rw [E236]
 obtain ⟨e239, he239, h⟩ := bind_eq_some_iff.mp h
 refine zM [tt,tt] (loopN_tri (B := B43_7) (T := fun lv240 => QTri l Z n0 ad 43 (7, [vR 1, vI lv240.1], [], (H0 s lv240.2)) (none : Option Value) (H0 s r)) (KE := fun e239a => (none : Option Value) = (none : Option Value) ∧ (H0 s r) = (H0 s e239a)) (fun lv240 r hB hE hC => tB43_7 Ad W s lv240 hB (fun x q => hE _ q) (fun x q => hC x q)) qN ((0:Int32), (s_n o (0:Int32))) e239 he239 ?_)
 obtain rfl := Option.some.inj h
 exact ⟨rfl, rfl⟩
def J0_244 (s : List Int32) (p0 : Ob) (x1 : Int32) (x3 : Int32) (x4 : Int32) (x5 : Int32) (x6 : Int32) : Option (((Int32 × QHeap)) ⊕ (Int32 × Int32 × Int32 × Ob)) :=
  (F12 s p0 x1 x4 x6 x5).bind fun r242 => (if r242.1 = (0 : Int32) then some (.inl ((0 : Int32), (H0 s r242.2))) else some (.inr (x4, x5, (x6 + (1 : Int32)), r242.2)))
theorem tJ0_244 (Ad : QAd n0 ad) (W : QW Z a0) (s : List Int32) (p0 : Ob) (x1 : Int32) (x3 : Int32) (x4 : Int32) (x5 : Int32) (x6 : Int32) {r : ((Int32 × QHeap)) ⊕ (Int32 × Int32 × Int32 × Ob)} {u : Option Value} {τ : QHeap} (h : J0_244 s p0 x1 x3 x4 x5 x6 = some r) (hx0 : ∀ x : Int32 × QHeap, r = .inl x → u = (some (Value.int x.1)) ∧ τ = x.2) (hc : ∀ x : Int32 × Int32 × Int32 × Ob, r = .inr x → QTri l Z n0 ad 0 (109, [vR 0, vI x1, vR 1, vI x3, vI x.1, vI x.2.1, vI x.2.2.1, none, none, none, none], [], (H0 s x.2.2.2)) u τ) : QTri l Z n0 ad 0 (244, [vR 0, vI x1, vR 1, vI x3, vI x4, vI x5, vI x6, none, none, none, none], [], (H0 s p0)) u τ := by
 unfold J0_244 at h
 refine zS Ad W 6 (st' := (253, [vR 0, vI x1, vR 1, vI x3, vI x4, vI x5, vI x6, none, none, none, none], [.int x5, .int x6, .int x4, .int x1, .ref 0, .ref 1], (H0 s p0))) rfl ?_
 obtain ⟨r242, hr242, h⟩ := bind_eq_some_iff.mp h
 refine QTri.callS W (as := [.ref 1, .ref 0, .int x1, .int x4, .int x6, .int x5]) (rest := []) (w := (some (.int r242.1))) (σ₁ := (H0 s r242.2)) rfl rfl rfl rfl rfl rfl rfl (tF12 Ad W s p0 x1 x4 x6 x5 hr242) ?_
 rcases qite h with ⟨hc243, h⟩ | ⟨hc243, h⟩
 ·refine zF Ad W (t := 261) (f := 259) rfl (XT.i0_ne_f hc243) ?_
  refine zS Ad W 1 (st' := (260, [vR 0, vI x1, vR 1, vI x3, vI x4, vI x5, vI x6, none, none, none, none], [.int (0:Int32)], (H0 s r242.2))) rfl ?_
  obtain rfl := Option.some.inj h
  obtain ⟨rfl, rfl⟩ := hx0 ((0:Int32), (H0 s r242.2)) rfl
  exact QTri.retZ rfl rfl
 ·refine zT Ad W (t := 261) (f := 259) rfl (XT.i0_ne_t hc243) ?_
  refine zS Ad W 2 (st' := (109, [vR 0, vI x1, vR 1, vI x3, vI x4, vI x5, vI (x6 + (1:Int32)), none, none, none, none], [], (H0 s r242.2))) rfl ?_
  obtain rfl := Option.some.inj h
  exact zM [tt,tt,tt,tt,tt,tt,tt,ff,ff,ff,ff] (hc (x4, x5, (x6 + (1:Int32)), r242.2) rfl)
def H0x13 (s : List Int32) (o0 : Ob) (a0_10 : List Int32) : QHeap := H0v s (f_regTuple o0) (f_regA o0) (f_regB o0) (f_regC o0) (f_regCount o0) (f_slots o0) (f_range o0) (f_slide o0) (f_frontSize o0) (f_backSize o0) a0_10 (f_frontAgg o0) (f_backAgg o0) (f_snap o0) (f_reg o0) (f_capacity o0) (f_queries o0) (f_n o0)
def B35_34 (x4 : Int32) (x5 : Int32) (v : Int32 × Ob) : Option (((Ob)) ⊕ (Int32 × Ob)) :=
  (if v.1 < (4 : Int32) then (aget (f_reg v.2) (x5 + v.1)).bind fun y270 => (aset (f_backElem v.2) (x4 + v.1) y270).bind fun y271 => some (.inr ((v.1 + (1 : Int32)), (s_backElem v.2 y271))) else some (.inl v.2))
theorem tB35_34 (Ad : QAd n0 ad) (W : QW Z a0) (s : List Int32) (x4 : Int32) (x5 : Int32) (v : Int32 × Ob) {r : ((Ob)) ⊕ (Int32 × Ob)} {u : Option Value} {τ : QHeap} (h : B35_34 x4 x5 v = some r) (hx0 : ∀ x : Ob, r = .inl x → u = (none : Option Value) ∧ τ = (H0 s x)) (hc : ∀ x : Int32 × Ob, r = .inr x → QTri l Z n0 ad 35 (34, [vR 1, none, none, none, vI x4, vI x5, vI x.1], [], (H0 s x.2)) u τ) : QTri l Z n0 ad 35 (34, [vR 1, none, none, none, vI x4, vI x5, vI v.1], [], (H0 s v.2)) u τ := by
 unfold B35_34 at h
 refine zS Ad W 2 (st' := (37, [vR 1, none, none, none, vI x4, vI x5, vI v.1], [.int (4:Int32), .int v.1], (H0 s v.2))) rfl ?_
 rcases qite h with ⟨hc269, h⟩ | ⟨hc269, h⟩
 ·refine zF Ad W (t := 66) (f := 40) rfl (XT.ii_ge_f hc269) ?_
  refine zS Ad W 10 (st' := (58, [vR 1, none, none, none, vI x4, vI x5, vI v.1], [.int (x5 + v.1), .ref 10, .int (x4 + v.1), .ref 6], (H0 s v.2))) rfl ?_
  obtain ⟨y270, hy270, h⟩ := bind_eq_some_iff.mp h
  refine zB Ad W (f := fun y270 => (59, [vR 1, none, none, none, vI x4, vI x5, vI v.1], [.int y270, .int (x4 + v.1), .ref 6], (H0 s v.2))) rfl hy270 ?_
  obtain ⟨y271, hy271, h⟩ := bind_eq_some_iff.mp h
  refine zB Ad W (f := fun y271 => (60, [vR 1, none, none, none, vI x4, vI x5, vI v.1], [], (H0x13 s v.2 y271))) rfl hy271 ?_
  refine zS Ad W 2 (st' := (34, [vR 1, none, none, none, vI x4, vI x5, vI (v.1 + (1:Int32))], [], (H0x13 s v.2 y271))) rfl ?_
  have E272 : ((H0x13 s v.2 y271) : QHeap) = (H0 s (s_backElem v.2 y271)) := by simp only [fs, H0, H0v, H0x13, s_backElem]
  rw [E272]
  obtain rfl := Option.some.inj h
  exact zM [tt,ff,ff,ff,tt,tt,tt] (hc ((v.1 + (1:Int32)), (s_backElem v.2 y271)) rfl)
 ·refine zT Ad W (t := 66) (f := 40) rfl (XT.ii_ge_t hc269) ?_
  obtain rfl := Option.some.inj h
  obtain ⟨rfl, rfl⟩ := hx0 v.2 rfl
  exact QTri.ret0 rfl rfl
/-- storeBack(III)V -/
def F35 (o : Ob) (x1 : Int32) (x2 : Int32) (x3 : Int32) : Option (Ob) :=
 (F6 x3).bind fun r264 => (if r264 = (0:Int32) then some o else (F34 x1 x2).bind fun r266 => (if r266 = (0:Int32) then some o else (F36 x1 x2).bind fun r268 => (loopN (B35_34 r268 (x3 * (4:Int32))) qN ((0:Int32), o)).bind fun e273 => some e273))
theorem tF35 (Ad : QAd n0 ad) (W : QW Z a0) (s : List Int32) (o : Ob) (x1 : Int32) (x2 : Int32) (x3 : Int32) {r : Ob} (h : F35 o x1 x2 x3 = some r) : QTri l Z n0 ad 35 (0, qentry [.ref 1, .int x1, .int x2, .int x3] (pMaxL 35), [], (H0 s o)) (none : Option Value) (H0 s r) := by
 unfold F35 at h
 refine zS Ad W 2 (st' := (2, [vR 1, vI x1, vI x2, vI x3, none, none, none], [.int x3, .ref 1], (H0 s o))) rfl ?_
 obtain ⟨r264, hr264, h⟩ := bind_eq_some_iff.mp h
 refine QTri.callP W (a := 1) (as := [.int x3]) (rest := []) (w := (some (.int r264))) (σ₁ := (H0 s o)) rfl rfl rfl rfl rfl rfl rfl rfl (tF6 Ad W x3 hr264) ?_
 rcases qite h with ⟨hc265, h⟩ | ⟨hc265, h⟩
 ·refine zT Ad W (t := 17) (f := 8) rfl (XT.i0_eq_t hc265) ?_
  obtain rfl := Option.some.inj h
  exact QTri.ret0 rfl rfl
 ·refine zF Ad W (t := 17) (f := 8) rfl (XT.i0_eq_f hc265) ?_
  refine zS Ad W 3 (st' := (11, [vR 1, vI x1, vI x2, vI x3, none, none, none], [.int x2, .int x1, .ref 1], (H0 s o))) rfl ?_
  obtain ⟨r266, hr266, h⟩ := bind_eq_some_iff.mp h
  refine QTri.callP W (a := 1) (as := [.int x1, .int x2]) (rest := []) (w := (some (.int r266))) (σ₁ := (H0 s o)) rfl rfl rfl rfl rfl rfl rfl rfl (tF34 Ad W x1 x2 hr266) ?_
  rcases qite h with ⟨hc267, h⟩ | ⟨hc267, h⟩
  ·refine zF Ad W (t := 18) (f := 17) rfl (XT.i0_ne_f hc267) ?_
   obtain rfl := Option.some.inj h
   exact QTri.ret0 rfl rfl
  ·refine zT Ad W (t := 18) (f := 17) rfl (XT.i0_ne_t hc267) ?_
   refine zS Ad W 3 (st' := (21, [vR 1, vI x1, vI x2, vI x3, none, none, none], [.int x2, .int x1, .ref 1], (H0 s o))) rfl ?_
   obtain ⟨r268, hr268, h⟩ := bind_eq_some_iff.mp h
   refine QTri.callP W (a := 1) (as := [.int x1, .int x2]) (rest := []) (w := (some (.int r268))) (σ₁ := (H0 s o)) rfl rfl rfl rfl rfl rfl rfl rfl (tF36 Ad W x1 x2 hr268) ?_
   refine zS Ad W 5 (st' := (31, [vR 1, vI x1, vI x2, vI x3, vI r268, vI (x3 * (4:Int32)), none], [], (H0 s o))) rfl ?_
   refine zS Ad W 2 (st' := (34, [vR 1, vI x1, vI x2, vI x3, vI r268, vI (x3 * (4:Int32)), vI (0:Int32)], [], (H0 s o))) rfl ?_
   obtain ⟨e273, he273, h⟩ := bind_eq_some_iff.mp h
   refine zM [tt,ff,ff,ff,tt,tt,tt] (loopN_tri (B := B35_34 r268 (x3 * (4:Int32))) (T := fun lv274 => QTri l Z n0 ad 35 (34, [vR 1, none, none, none, vI r268, vI (x3 * (4:Int32)), vI lv274.1], [], (H0 s lv274.2)) (none : Option Value) (H0 s r)) (KE := fun e273a => (none : Option Value) = (none : Option Value) ∧ (H0 s r) = (H0 s e273a)) (fun lv274 r hB hE hC => tB35_34 Ad W s r268 (x3 * (4:Int32)) lv274 hB (fun x q => hE _ q) (fun x q => hC x q)) qN ((0:Int32), o) e273 he273 ?_)
   obtain rfl := Option.some.inj h
   exact ⟨rfl, rfl⟩
def H0x14 (s : List Int32) (o0 : Ob) (a0_9 : List Int32) : QHeap := H0v s (f_regTuple o0) (f_regA o0) (f_regB o0) (f_regC o0) (f_regCount o0) (f_slots o0) (f_range o0) (f_slide o0) (f_frontSize o0) a0_9 (f_backElem o0) (f_frontAgg o0) (f_backAgg o0) (f_snap o0) (f_reg o0) (f_capacity o0) (f_queries o0) (f_n o0)
def J33_39 (o : Ob) (x1 : Int32) : Option (Ob) :=
  (aget (f_backSize o) x1).bind fun y261 => (F34 x1 y261).bind fun r262 => (if r262 = (0 : Int32) then some o else (F35 o x1 y261 (0 : Int32)).bind fun r275 => (F27 r275 (1 : Int32) x1).bind fun r276 => (F28 r276 (1 : Int32) (1 : Int32) (0 : Int32)).bind fun r277 => (F7 r277 x1 (1 : Int32)).bind fun r278 => (aset (f_backSize r278) x1 (y261 + (1 : Int32))).bind fun y279 => some (s_backSize r278 y279))
theorem tJ33_39 (Ad : QAd n0 ad) (W : QW Z a0) (s : List Int32) (o : Ob) (x1 : Int32) {r : Ob} (h : J33_39 o x1 = some r) : QTri l Z n0 ad 33 (39, [vR 1, vI x1, none, none], [], (H0 s o)) (none : Option Value) (H0 s r) := by
 unfold J33_39 at h
 refine zS Ad W 3 (st' := (44, [vR 1, vI x1, none, none], [.int x1, .ref 5], (H0 s o))) rfl ?_
 obtain ⟨y261, hy261, h⟩ := bind_eq_some_iff.mp h
 refine zB Ad W (f := fun y261 => (45, [vR 1, vI x1, none, none], [.int y261], (H0 s o))) rfl hy261 ?_
 refine zS Ad W 4 (st' := (49, [vR 1, vI x1, none, vI y261], [.int y261, .int x1, .ref 1], (H0 s o))) rfl ?_
 obtain ⟨r262, hr262, h⟩ := bind_eq_some_iff.mp h
 refine QTri.callP W (a := 1) (as := [.int x1, .int y261]) (rest := []) (w := (some (.int r262))) (σ₁ := (H0 s o)) rfl rfl rfl rfl rfl rfl rfl rfl (tF34 Ad W x1 y261 hr262) ?_
 rcases qite h with ⟨hc263, h⟩ | ⟨hc263, h⟩
 ·refine zF Ad W (t := 56) (f := 55) rfl (XT.i0_ne_f hc263) ?_
  obtain rfl := Option.some.inj h
  exact QTri.ret0 rfl rfl
 ·refine zT Ad W (t := 56) (f := 55) rfl (XT.i0_ne_t hc263) ?_
  refine zS Ad W 4 (st' := (60, [vR 1, vI x1, none, vI y261], [.int (0:Int32), .int y261, .int x1, .ref 1], (H0 s o))) rfl ?_
  obtain ⟨r275, hr275, h⟩ := bind_eq_some_iff.mp h
  refine QTri.callP W (a := 1) (as := [.int x1, .int y261, .int (0:Int32)]) (rest := []) (w := none) (σ₁ := (H0 s r275)) rfl rfl rfl rfl rfl rfl rfl rfl (tF35 Ad W s o x1 y261 (0:Int32) hr275) ?_
  refine zS Ad W 3 (st' := (66, [vR 1, vI x1, none, vI y261], [.int x1, .int (1:Int32), .ref 1], (H0 s r275))) rfl ?_
  obtain ⟨r276, hr276, h⟩ := bind_eq_some_iff.mp h
  refine QTri.callP W (a := 1) (as := [.int (1:Int32), .int x1]) (rest := []) (w := none) (σ₁ := (H0 s r276)) rfl rfl rfl rfl rfl rfl rfl rfl (tF27 Ad W s r275 (1:Int32) x1 hr276) ?_
  refine zS Ad W 4 (st' := (73, [vR 1, vI x1, none, vI y261], [.int (0:Int32), .int (1:Int32), .int (1:Int32), .ref 1], (H0 s r276))) rfl ?_
  obtain ⟨r277, hr277, h⟩ := bind_eq_some_iff.mp h
  refine QTri.callP W (a := 1) (as := [.int (1:Int32), .int (1:Int32), .int (0:Int32)]) (rest := []) (w := none) (σ₁ := (H0 s r277)) rfl rfl rfl rfl rfl rfl rfl rfl (tF28 Ad W s r276 (1:Int32) (1:Int32) (0:Int32) hr277) ?_
  refine zS Ad W 3 (st' := (79, [vR 1, vI x1, none, vI y261], [.int (1:Int32), .int x1, .ref 1], (H0 s r277))) rfl ?_
  obtain ⟨r278, hr278, h⟩ := bind_eq_some_iff.mp h
  refine QTri.callP W (a := 1) (as := [.int x1, .int (1:Int32)]) (rest := []) (w := none) (σ₁ := (H0 s r278)) rfl rfl rfl rfl rfl rfl rfl rfl (tF7 Ad W s r277 x1 (1:Int32) hr278) ?_
  refine zS Ad W 6 (st' := (90, [vR 1, vI x1, none, vI y261], [.int (y261 + (1:Int32)), .int x1, .ref 5], (H0 s r278))) rfl ?_
  obtain ⟨y279, hy279, h⟩ := bind_eq_some_iff.mp h
  refine zB Ad W (f := fun y279 => (91, [vR 1, vI x1, none, vI y261], [], (H0x14 s r278 y279))) rfl hy279 ?_
  have E280 : ((H0x14 s r278 y279) : QHeap) = (H0 s (s_backSize r278 y279)) := by simp only [fs, H0, H0v, H0x14, s_backSize]
  rw [E280]
  obtain rfl := Option.some.inj h
  exact QTri.ret0 rfl rfl
def B40_34 (x4 : Int32) (x5 : Int32) (v : Int32 × Ob) : Option (((Ob)) ⊕ (Int32 × Ob)) :=
  (if v.1 < (4 : Int32) then (aget (f_backElem v.2) (x4 + v.1)).bind fun y295 => (aset (f_reg v.2) (x5 + v.1) y295).bind fun y296 => some (.inr ((v.1 + (1 : Int32)), (s_reg v.2 y296))) else some (.inl v.2))
theorem tB40_34 (Ad : QAd n0 ad) (W : QW Z a0) (s : List Int32) (x4 : Int32) (x5 : Int32) (v : Int32 × Ob) {r : ((Ob)) ⊕ (Int32 × Ob)} {u : Option Value} {τ : QHeap} (h : B40_34 x4 x5 v = some r) (hx0 : ∀ x : Ob, r = .inl x → u = (none : Option Value) ∧ τ = (H0 s x)) (hc : ∀ x : Int32 × Ob, r = .inr x → QTri l Z n0 ad 40 (34, [vR 1, none, none, none, vI x4, vI x5, vI x.1], [], (H0 s x.2)) u τ) : QTri l Z n0 ad 40 (34, [vR 1, none, none, none, vI x4, vI x5, vI v.1], [], (H0 s v.2)) u τ := by
 unfold B40_34 at h
 refine zS Ad W 2 (st' := (37, [vR 1, none, none, none, vI x4, vI x5, vI v.1], [.int (4:Int32), .int v.1], (H0 s v.2))) rfl ?_
 rcases qite h with ⟨hc294, h⟩ | ⟨hc294, h⟩
 ·refine zF Ad W (t := 66) (f := 40) rfl (XT.ii_ge_f hc294) ?_
  refine zS Ad W 10 (st' := (58, [vR 1, none, none, none, vI x4, vI x5, vI v.1], [.int (x4 + v.1), .ref 6, .int (x5 + v.1), .ref 10], (H0 s v.2))) rfl ?_
  obtain ⟨y295, hy295, h⟩ := bind_eq_some_iff.mp h
  refine zB Ad W (f := fun y295 => (59, [vR 1, none, none, none, vI x4, vI x5, vI v.1], [.int y295, .int (x5 + v.1), .ref 10], (H0 s v.2))) rfl hy295 ?_
  obtain ⟨y296, hy296, h⟩ := bind_eq_some_iff.mp h
  refine zB Ad W (f := fun y296 => (60, [vR 1, none, none, none, vI x4, vI x5, vI v.1], [], (H0x6 s v.2 y296))) rfl hy296 ?_
  refine zS Ad W 2 (st' := (34, [vR 1, none, none, none, vI x4, vI x5, vI (v.1 + (1:Int32))], [], (H0x6 s v.2 y296))) rfl ?_
  have E297 : ((H0x6 s v.2 y296) : QHeap) = (H0 s (s_reg v.2 y296)) := by simp only [fs, H0, H0v, H0x6, s_reg]
  rw [E297]
  obtain rfl := Option.some.inj h
  exact zM [tt,ff,ff,ff,tt,tt,tt] (hc ((v.1 + (1:Int32)), (s_reg v.2 y296)) rfl)
 ·refine zT Ad W (t := 66) (f := 40) rfl (XT.ii_ge_t hc294) ?_
  obtain rfl := Option.some.inj h
  obtain ⟨rfl, rfl⟩ := hx0 v.2 rfl
  exact QTri.ret0 rfl rfl
/-- loadBack(III)V -/
def F40 (o : Ob) (x1 : Int32) (x2 : Int32) (x3 : Int32) : Option (Ob) :=
 (F6 x1).bind fun r289 => (if r289 = (0:Int32) then some o else (F34 x2 x3).bind fun r291 => (if r291 = (0:Int32) then some o else (F36 x2 x3).bind fun r293 => (loopN (B40_34 r293 (x1 * (4:Int32))) qN ((0:Int32), o)).bind fun e298 => some e298))
theorem tF40 (Ad : QAd n0 ad) (W : QW Z a0) (s : List Int32) (o : Ob) (x1 : Int32) (x2 : Int32) (x3 : Int32) {r : Ob} (h : F40 o x1 x2 x3 = some r) : QTri l Z n0 ad 40 (0, qentry [.ref 1, .int x1, .int x2, .int x3] (pMaxL 40), [], (H0 s o)) (none : Option Value) (H0 s r) := by
 unfold F40 at h
 refine zS Ad W 2 (st' := (2, [vR 1, vI x1, vI x2, vI x3, none, none, none], [.int x1, .ref 1], (H0 s o))) rfl ?_
 obtain ⟨r289, hr289, h⟩ := bind_eq_some_iff.mp h
 refine QTri.callP W (a := 1) (as := [.int x1]) (rest := []) (w := (some (.int r289))) (σ₁ := (H0 s o)) rfl rfl rfl rfl rfl rfl rfl rfl (tF6 Ad W x1 hr289) ?_
 rcases qite h with ⟨hc290, h⟩ | ⟨hc290, h⟩
 ·refine zT Ad W (t := 17) (f := 8) rfl (XT.i0_eq_t hc290) ?_
  obtain rfl := Option.some.inj h
  exact QTri.ret0 rfl rfl
 ·refine zF Ad W (t := 17) (f := 8) rfl (XT.i0_eq_f hc290) ?_
  refine zS Ad W 3 (st' := (11, [vR 1, vI x1, vI x2, vI x3, none, none, none], [.int x3, .int x2, .ref 1], (H0 s o))) rfl ?_
  obtain ⟨r291, hr291, h⟩ := bind_eq_some_iff.mp h
  refine QTri.callP W (a := 1) (as := [.int x2, .int x3]) (rest := []) (w := (some (.int r291))) (σ₁ := (H0 s o)) rfl rfl rfl rfl rfl rfl rfl rfl (tF34 Ad W x2 x3 hr291) ?_
  rcases qite h with ⟨hc292, h⟩ | ⟨hc292, h⟩
  ·refine zF Ad W (t := 18) (f := 17) rfl (XT.i0_ne_f hc292) ?_
   obtain rfl := Option.some.inj h
   exact QTri.ret0 rfl rfl
  ·refine zT Ad W (t := 18) (f := 17) rfl (XT.i0_ne_t hc292) ?_
   refine zS Ad W 3 (st' := (21, [vR 1, vI x1, vI x2, vI x3, none, none, none], [.int x3, .int x2, .ref 1], (H0 s o))) rfl ?_
   obtain ⟨r293, hr293, h⟩ := bind_eq_some_iff.mp h
   refine QTri.callP W (a := 1) (as := [.int x2, .int x3]) (rest := []) (w := (some (.int r293))) (σ₁ := (H0 s o)) rfl rfl rfl rfl rfl rfl rfl rfl (tF36 Ad W x2 x3 hr293) ?_
   refine zS Ad W 5 (st' := (31, [vR 1, vI x1, vI x2, vI x3, vI r293, vI (x1 * (4:Int32)), none], [], (H0 s o))) rfl ?_
   refine zS Ad W 2 (st' := (34, [vR 1, vI x1, vI x2, vI x3, vI r293, vI (x1 * (4:Int32)), vI (0:Int32)], [], (H0 s o))) rfl ?_
   obtain ⟨e298, he298, h⟩ := bind_eq_some_iff.mp h
   refine zM [tt,ff,ff,ff,tt,tt,tt] (loopN_tri (B := B40_34 r293 (x1 * (4:Int32))) (T := fun lv299 => QTri l Z n0 ad 40 (34, [vR 1, none, none, none, vI r293, vI (x1 * (4:Int32)), vI lv299.1], [], (H0 s lv299.2)) (none : Option Value) (H0 s r)) (KE := fun e298a => (none : Option Value) = (none : Option Value) ∧ (H0 s r) = (H0 s e298a)) (fun lv299 r hB hE hC => tB40_34 Ad W s r293 (x1 * (4:Int32)) lv299 hB (fun x q => hE _ q) (fun x q => hC x q)) qN ((0:Int32), o) e298 he298 ?_)
   obtain rfl := Option.some.inj h
   exact ⟨rfl, rfl⟩
def H0x15 (s : List Int32) (o0 : Ob) (a0_11 : List Int32) : QHeap := H0v s (f_regTuple o0) (f_regA o0) (f_regB o0) (f_regC o0) (f_regCount o0) (f_slots o0) (f_range o0) (f_slide o0) (f_frontSize o0) (f_backSize o0) (f_backElem o0) a0_11 (f_backAgg o0) (f_snap o0) (f_reg o0) (f_capacity o0) (f_queries o0) (f_n o0)
def B41_34 (x4 : Int32) (x5 : Int32) (v : Int32 × Ob) : Option (((Ob)) ⊕ (Int32 × Ob)) :=
  (if v.1 < (4 : Int32) then (aget (f_reg v.2) (x5 + v.1)).bind fun y308 => (aset (f_frontAgg v.2) (x4 + v.1) y308).bind fun y309 => some (.inr ((v.1 + (1 : Int32)), (s_frontAgg v.2 y309))) else some (.inl v.2))
theorem tB41_34 (Ad : QAd n0 ad) (W : QW Z a0) (s : List Int32) (x4 : Int32) (x5 : Int32) (v : Int32 × Ob) {r : ((Ob)) ⊕ (Int32 × Ob)} {u : Option Value} {τ : QHeap} (h : B41_34 x4 x5 v = some r) (hx0 : ∀ x : Ob, r = .inl x → u = (none : Option Value) ∧ τ = (H0 s x)) (hc : ∀ x : Int32 × Ob, r = .inr x → QTri l Z n0 ad 41 (34, [vR 1, none, none, none, vI x4, vI x5, vI x.1], [], (H0 s x.2)) u τ) : QTri l Z n0 ad 41 (34, [vR 1, none, none, none, vI x4, vI x5, vI v.1], [], (H0 s v.2)) u τ := by
 unfold B41_34 at h
 refine zS Ad W 2 (st' := (37, [vR 1, none, none, none, vI x4, vI x5, vI v.1], [.int (4:Int32), .int v.1], (H0 s v.2))) rfl ?_
 rcases qite h with ⟨hc307, h⟩ | ⟨hc307, h⟩
 ·refine zF Ad W (t := 66) (f := 40) rfl (XT.ii_ge_f hc307) ?_
  refine zS Ad W 10 (st' := (58, [vR 1, none, none, none, vI x4, vI x5, vI v.1], [.int (x5 + v.1), .ref 10, .int (x4 + v.1), .ref 7], (H0 s v.2))) rfl ?_
  obtain ⟨y308, hy308, h⟩ := bind_eq_some_iff.mp h
  refine zB Ad W (f := fun y308 => (59, [vR 1, none, none, none, vI x4, vI x5, vI v.1], [.int y308, .int (x4 + v.1), .ref 7], (H0 s v.2))) rfl hy308 ?_
  obtain ⟨y309, hy309, h⟩ := bind_eq_some_iff.mp h
  refine zB Ad W (f := fun y309 => (60, [vR 1, none, none, none, vI x4, vI x5, vI v.1], [], (H0x15 s v.2 y309))) rfl hy309 ?_
  refine zS Ad W 2 (st' := (34, [vR 1, none, none, none, vI x4, vI x5, vI (v.1 + (1:Int32))], [], (H0x15 s v.2 y309))) rfl ?_
  have E310 : ((H0x15 s v.2 y309) : QHeap) = (H0 s (s_frontAgg v.2 y309)) := by simp only [fs, H0, H0v, H0x15, s_frontAgg]
  rw [E310]
  obtain rfl := Option.some.inj h
  exact zM [tt,ff,ff,ff,tt,tt,tt] (hc ((v.1 + (1:Int32)), (s_frontAgg v.2 y309)) rfl)
 ·refine zT Ad W (t := 66) (f := 40) rfl (XT.ii_ge_t hc307) ?_
  obtain rfl := Option.some.inj h
  obtain ⟨rfl, rfl⟩ := hx0 v.2 rfl
  exact QTri.ret0 rfl rfl
/-- storeFront(III)V -/
def F41 (o : Ob) (x1 : Int32) (x2 : Int32) (x3 : Int32) : Option (Ob) :=
 (F6 x3).bind fun r302 => (if r302 = (0:Int32) then some o else (F34 x1 x2).bind fun r304 => (if r304 = (0:Int32) then some o else (F36 x1 x2).bind fun r306 => (loopN (B41_34 r306 (x3 * (4:Int32))) qN ((0:Int32), o)).bind fun e311 => some e311))
theorem tF41 (Ad : QAd n0 ad) (W : QW Z a0) (s : List Int32) (o : Ob) (x1 : Int32) (x2 : Int32) (x3 : Int32) {r : Ob} (h : F41 o x1 x2 x3 = some r) : QTri l Z n0 ad 41 (0, qentry [.ref 1, .int x1, .int x2, .int x3] (pMaxL 41), [], (H0 s o)) (none : Option Value) (H0 s r) := by
 unfold F41 at h
 refine zS Ad W 2 (st' := (2, [vR 1, vI x1, vI x2, vI x3, none, none, none], [.int x3, .ref 1], (H0 s o))) rfl ?_
 obtain ⟨r302, hr302, h⟩ := bind_eq_some_iff.mp h
 refine QTri.callP W (a := 1) (as := [.int x3]) (rest := []) (w := (some (.int r302))) (σ₁ := (H0 s o)) rfl rfl rfl rfl rfl rfl rfl rfl (tF6 Ad W x3 hr302) ?_
 rcases qite h with ⟨hc303, h⟩ | ⟨hc303, h⟩
 ·refine zT Ad W (t := 17) (f := 8) rfl (XT.i0_eq_t hc303) ?_
  obtain rfl := Option.some.inj h
  exact QTri.ret0 rfl rfl
 ·refine zF Ad W (t := 17) (f := 8) rfl (XT.i0_eq_f hc303) ?_
  refine zS Ad W 3 (st' := (11, [vR 1, vI x1, vI x2, vI x3, none, none, none], [.int x2, .int x1, .ref 1], (H0 s o))) rfl ?_
  obtain ⟨r304, hr304, h⟩ := bind_eq_some_iff.mp h
  refine QTri.callP W (a := 1) (as := [.int x1, .int x2]) (rest := []) (w := (some (.int r304))) (σ₁ := (H0 s o)) rfl rfl rfl rfl rfl rfl rfl rfl (tF34 Ad W x1 x2 hr304) ?_
  rcases qite h with ⟨hc305, h⟩ | ⟨hc305, h⟩
  ·refine zF Ad W (t := 18) (f := 17) rfl (XT.i0_ne_f hc305) ?_
   obtain rfl := Option.some.inj h
   exact QTri.ret0 rfl rfl
  ·refine zT Ad W (t := 18) (f := 17) rfl (XT.i0_ne_t hc305) ?_
   refine zS Ad W 3 (st' := (21, [vR 1, vI x1, vI x2, vI x3, none, none, none], [.int x2, .int x1, .ref 1], (H0 s o))) rfl ?_
   obtain ⟨r306, hr306, h⟩ := bind_eq_some_iff.mp h
   refine QTri.callP W (a := 1) (as := [.int x1, .int x2]) (rest := []) (w := (some (.int r306))) (σ₁ := (H0 s o)) rfl rfl rfl rfl rfl rfl rfl rfl (tF36 Ad W x1 x2 hr306) ?_
   refine zS Ad W 5 (st' := (31, [vR 1, vI x1, vI x2, vI x3, vI r306, vI (x3 * (4:Int32)), none], [], (H0 s o))) rfl ?_
   refine zS Ad W 2 (st' := (34, [vR 1, vI x1, vI x2, vI x3, vI r306, vI (x3 * (4:Int32)), vI (0:Int32)], [], (H0 s o))) rfl ?_
   obtain ⟨e311, he311, h⟩ := bind_eq_some_iff.mp h
   refine zM [tt,ff,ff,ff,tt,tt,tt] (loopN_tri (B := B41_34 r306 (x3 * (4:Int32))) (T := fun lv312 => QTri l Z n0 ad 41 (34, [vR 1, none, none, none, vI r306, vI (x3 * (4:Int32)), vI lv312.1], [], (H0 s lv312.2)) (none : Option Value) (H0 s r)) (KE := fun e311a => (none : Option Value) = (none : Option Value) ∧ (H0 s r) = (H0 s e311a)) (fun lv312 r hB hE hC => tB41_34 Ad W s r306 (x3 * (4:Int32)) lv312 hB (fun x q => hE _ q) (fun x q => hC x q)) qN ((0:Int32), o) e311 he311 ?_)
   obtain rfl := Option.some.inj h
   exact ⟨rfl, rfl⟩
def B39_23 (x1 : Int32) (x2 : Int32) (v : Int32 × Ob) : Option (((Ob)) ⊕ (Int32 × Ob)) :=
  (if v.1 < x2 then (F40 v.2 (2 : Int32) x1 ((x2 - (1 : Int32)) - v.1)).bind fun r300 => (F28 r300 (1 : Int32) (2 : Int32) (1 : Int32)).bind fun r301 => (F41 r301 x1 v.1 (1 : Int32)).bind fun r313 => some (.inr ((v.1 + (1 : Int32)), r313)) else some (.inl v.2))
theorem tB39_23 (Ad : QAd n0 ad) (W : QW Z a0) (s : List Int32) (x1 : Int32) (x2 : Int32) (v : Int32 × Ob) {r : ((Ob)) ⊕ (Int32 × Ob)} {u : Option Value} {τ : QHeap} (h : B39_23 x1 x2 v = some r) (hx0 : ∀ x : Ob, r = .inl x → QTri l Z n0 ad 39 (59, [vR 1, vI x1, vI x2, none], [], (H0 s x)) u τ) (hc : ∀ x : Int32 × Ob, r = .inr x → QTri l Z n0 ad 39 (23, [vR 1, vI x1, vI x2, vI x.1], [], (H0 s x.2)) u τ) : QTri l Z n0 ad 39 (23, [vR 1, vI x1, vI x2, vI v.1], [], (H0 s v.2)) u τ := by
 unfold B39_23 at h
 refine zS Ad W 2 (st' := (25, [vR 1, vI x1, vI x2, vI v.1], [.int x2, .int v.1], (H0 s v.2))) rfl ?_
 rcases qite h with ⟨hc288, h⟩ | ⟨hc288, h⟩
 ·refine zF Ad W (t := 59) (f := 28) rfl (XT.ii_ge_f hc288) ?_
  refine zS Ad W 8 (st' := (36, [vR 1, vI x1, vI x2, vI v.1], [.int ((x2 - (1:Int32)) - v.1), .int x1, .int (2:Int32), .ref 1], (H0 s v.2))) rfl ?_
  obtain ⟨r300, hr300, h⟩ := bind_eq_some_iff.mp h
  refine QTri.callP W (a := 1) (as := [.int (2:Int32), .int x1, .int ((x2 - (1:Int32)) - v.1)]) (rest := []) (w := none) (σ₁ := (H0 s r300)) rfl rfl rfl rfl rfl rfl rfl rfl (tF40 Ad W s v.2 (2:Int32) x1 ((x2 - (1:Int32)) - v.1) hr300) ?_
  refine zS Ad W 4 (st' := (43, [vR 1, vI x1, vI x2, vI v.1], [.int (1:Int32), .int (2:Int32), .int (1:Int32), .ref 1], (H0 s r300))) rfl ?_
  obtain ⟨r301, hr301, h⟩ := bind_eq_some_iff.mp h
  refine QTri.callP W (a := 1) (as := [.int (1:Int32), .int (2:Int32), .int (1:Int32)]) (rest := []) (w := none) (σ₁ := (H0 s r301)) rfl rfl rfl rfl rfl rfl rfl rfl (tF28 Ad W s r300 (1:Int32) (2:Int32) (1:Int32) hr301) ?_
  refine zS Ad W 4 (st' := (50, [vR 1, vI x1, vI x2, vI v.1], [.int (1:Int32), .int v.1, .int x1, .ref 1], (H0 s r301))) rfl ?_
  obtain ⟨r313, hr313, h⟩ := bind_eq_some_iff.mp h
  refine QTri.callP W (a := 1) (as := [.int x1, .int v.1, .int (1:Int32)]) (rest := []) (w := none) (σ₁ := (H0 s r313)) rfl rfl rfl rfl rfl rfl rfl rfl (tF41 Ad W s r301 x1 v.1 (1:Int32) hr313) ?_
  refine zS Ad W 2 (st' := (23, [vR 1, vI x1, vI x2, vI (v.1 + (1:Int32))], [], (H0 s r313))) rfl ?_
  obtain rfl := Option.some.inj h
  exact zM [tt,tt,tt,tt] (hc ((v.1 + (1:Int32)), r313) rfl)
 ·refine zT Ad W (t := 59) (f := 28) rfl (XT.ii_ge_t hc288) ?_
  obtain rfl := Option.some.inj h
  exact zM [tt,tt,tt,ff] (hx0 v.2 rfl)
/-- flip(I)V -/
def F39 (o : Ob) (x1 : Int32) : Option (Ob) :=
 (aget (f_backSize o) x1).bind fun y283 => (F4 o (1:Int32)).bind fun r287 => (loopN (B39_23 x1 (if (32:Int32) < y283 then (32:Int32) else y283)) qN ((0:Int32), r287)).bind fun e314 => (aset (f_frontSize e314) x1 (if (32:Int32) < y283 then (32:Int32) else y283)).bind fun y316 => (aset (f_backSize e314) x1 (0:Int32)).bind fun y317 => (F4 (s_backSize (s_frontSize e314 y316) y317) (1:Int32)).bind fun r319 => (F7 r319 x1 (1:Int32)).bind fun r320 => some r320
theorem tF39 (Ad : QAd n0 ad) (W : QW Z a0) (s : List Int32) (o : Ob) (x1 : Int32) {r : Ob} (h : F39 o x1 = some r) : QTri l Z n0 ad 39 (0, qentry [.ref 1, .int x1] (pMaxL 39), [], (H0 s o)) (none : Option Value) (H0 s r) := by
 unfold F39 at h
 refine zS Ad W 3 (st' := (5, [vR 1, vI x1, none, none], [.int x1, .ref 5], (H0 s o))) rfl ?_
 obtain ⟨y283, hy283, h⟩ := bind_eq_some_iff.mp h
 refine zB Ad W (f := fun y283 => (6, [vR 1, vI x1, none, none], [.int y283], (H0 s o))) rfl hy283 ?_
 refine zS Ad W 3 (st' := (10, [vR 1, vI x1, vI y283, none], [.int (32:Int32), .int y283], (H0 s o))) rfl ?_
 have K285 : ∀ z284 : Int32, z284 = (if (32:Int32) < y283 then (32:Int32) else y283) → QTri l Z n0 ad 39 (16, [vR 1, vI x1, vI z284, none], [], (H0 s o)) (none : Option Value) (H0 s r) := by
  intro z284 ez284
  subst ez284
  refine zS Ad W 2 (st' := (18, [vR 1, vI x1, vI (if (32:Int32) < y283 then (32:Int32) else y283), none], [.int (1:Int32), .ref 1], (H0 s o))) rfl ?_
  obtain ⟨r287, hr287, h⟩ := bind_eq_some_iff.mp h
  refine QTri.callP W (a := 1) (as := [.int (1:Int32)]) (rest := []) (w := none) (σ₁ := (H0 s r287)) rfl rfl rfl rfl rfl rfl rfl rfl (tF4 Ad W s o (1:Int32) hr287) ?_
  refine zS Ad W 2 (st' := (23, [vR 1, vI x1, vI (if (32:Int32) < y283 then (32:Int32) else y283), vI (0:Int32)], [], (H0 s r287))) rfl ?_
  obtain ⟨e314, he314, h⟩ := bind_eq_some_iff.mp h
  refine zM [tt,tt,tt,tt] (loopN_tri (B := B39_23 x1 (if (32:Int32) < y283 then (32:Int32) else y283)) (T := fun lv315 => QTri l Z n0 ad 39 (23, [vR 1, vI x1, vI (if (32:Int32) < y283 then (32:Int32) else y283), vI lv315.1], [], (H0 s lv315.2)) (none : Option Value) (H0 s r)) (KE := fun e314a => QTri l Z n0 ad 39 (59, [vR 1, vI x1, vI (if (32:Int32) < y283 then (32:Int32) else y283), none], [], (H0 s e314a)) (none : Option Value) (H0 s r)) (fun lv315 r hB hE hC => tB39_23 Ad W s x1 (if (32:Int32) < y283 then (32:Int32) else y283) lv315 hB (fun x q => hE _ q) (fun x q => hC x q)) qN ((0:Int32), r287) e314 he314 ?_)
  refine zS Ad W 4 (st' := (65, [vR 1, vI x1, vI (if (32:Int32) < y283 then (32:Int32) else y283), none], [.int (if (32:Int32) < y283 then (32:Int32) else y283), .int x1, .ref 4], (H0 s e314))) rfl ?_
  obtain ⟨y316, hy316, h⟩ := bind_eq_some_iff.mp h
  refine zB Ad W (f := fun y316 => (66, [vR 1, vI x1, vI (if (32:Int32) < y283 then (32:Int32) else y283), none], [], (H0x4 s e314 y316))) rfl hy316 ?_
  refine zS Ad W 4 (st' := (72, [vR 1, vI x1, vI (if (32:Int32) < y283 then (32:Int32) else y283), none], [.int (0:Int32), .int x1, .ref 5], (H0x4 s e314 y316))) rfl ?_
  obtain ⟨y317, hy317, h⟩ := bind_eq_some_iff.mp h
  refine zB Ad W (f := fun y317 => (73, [vR 1, vI x1, vI (if (32:Int32) < y283 then (32:Int32) else y283), none], [], (H0x5 s e314 y316 y317))) rfl hy317 ?_
  refine zS Ad W 2 (st' := (75, [vR 1, vI x1, vI (if (32:Int32) < y283 then (32:Int32) else y283), none], [.int (1:Int32), .ref 1], (H0x5 s e314 y316 y317))) rfl ?_
  have E318 : ((H0x5 s e314 y316 y317) : QHeap) = (H0 s (s_backSize (s_frontSize e314 y316) y317)) := by simp only [fs, H0, H0v, H0x5, s_frontSize, s_backSize]
  rw [E318]
  obtain ⟨r319, hr319, h⟩ := bind_eq_some_iff.mp h
  refine QTri.callP W (a := 1) (as := [.int (1:Int32)]) (rest := []) (w := none) (σ₁ := (H0 s r319)) rfl rfl rfl rfl rfl rfl rfl rfl (tF4 Ad W s (s_backSize (s_frontSize e314 y316) y317) (1:Int32) hr319) ?_
  refine zS Ad W 3 (st' := (81, [vR 1, vI x1, vI (if (32:Int32) < y283 then (32:Int32) else y283), none], [.int (1:Int32), .int x1, .ref 1], (H0 s r319))) rfl ?_
  obtain ⟨r320, hr320, h⟩ := bind_eq_some_iff.mp h
  refine QTri.callP W (a := 1) (as := [.int x1, .int (1:Int32)]) (rest := []) (w := none) (σ₁ := (H0 s r320)) rfl rfl rfl rfl rfl rfl rfl rfl (tF7 Ad W s r319 x1 (1:Int32) hr320) ?_
  obtain rfl := Option.some.inj h
  exact QTri.ret0 rfl rfl
 rcases em ((32:Int32) < y283) with hc286 | hc286
 ·refine zF Ad W (t := 16) (f := 13) rfl (XT.ii_le_f hc286) ?_
  refine zS Ad W 2 (st' := (16, [vR 1, vI x1, vI (32:Int32), none], [], (H0 s o))) rfl ?_
  exact zM [tt,tt,tt,ff] (K285 _ (if_pos hc286).symm)
 ·refine zT Ad W (t := 16) (f := 13) rfl (XT.ii_le_t hc286) ?_
  exact zM [tt,tt,tt,ff] (K285 _ (if_neg hc286).symm)
def J38_14 (o : Ob) (x1 : Int32) : Option (Ob) :=
  (aget (f_frontSize o) x1).bind fun y322 => (if (0 : Int32) < y322 then (aget (f_frontSize o) x1).bind fun y324 => (aset (f_frontSize o) x1 (y324 - (1 : Int32))).bind fun y325 => some (s_frontSize o y325) else some o)
theorem tJ38_14 (Ad : QAd n0 ad) (W : QW Z a0) (s : List Int32) (o : Ob) (x1 : Int32) {r : Ob} (h : J38_14 o x1 = some r) : QTri l Z n0 ad 38 (14, [vR 1, vI x1], [], (H0 s o)) (none : Option Value) (H0 s r) := by
 unfold J38_14 at h
 refine zS Ad W 3 (st' := (19, [vR 1, vI x1], [.int x1, .ref 4], (H0 s o))) rfl ?_
 obtain ⟨y322, hy322, h⟩ := bind_eq_some_iff.mp h
 refine zB Ad W (f := fun y322 => (20, [vR 1, vI x1], [.int y322], (H0 s o))) rfl hy322 ?_
 rcases qite h with ⟨hc323, h⟩ | ⟨hc323, h⟩
 ·refine zF Ad W (t := 37) (f := 23) rfl (XT.i0_le_f hc323) ?_
  refine zS Ad W 6 (st' := (33, [vR 1, vI x1], [.int x1, .ref 4, .int x1, .ref 4], (H0 s o))) rfl ?_
  obtain ⟨y324, hy324, h⟩ := bind_eq_some_iff.mp h
  refine zB Ad W (f := fun y324 => (34, [vR 1, vI x1], [.int y324, .int x1, .ref 4], (H0 s o))) rfl hy324 ?_
  refine zS Ad W 2 (st' := (36, [vR 1, vI x1], [.int (y324 - (1:Int32)), .int x1, .ref 4], (H0 s o))) rfl ?_
  obtain ⟨y325, hy325, h⟩ := bind_eq_some_iff.mp h
  refine zB Ad W (f := fun y325 => (37, [vR 1, vI x1], [], (H0x4 s o y325))) rfl hy325 ?_
  have E326 : ((H0x4 s o y325) : QHeap) = (H0 s (s_frontSize o y325)) := by simp only [fs, H0, H0v, H0x4, s_frontSize]
  rw [E326]
  obtain rfl := Option.some.inj h
  exact QTri.ret0 rfl rfl
 ·refine zT Ad W (t := 37) (f := 23) rfl (XT.i0_le_t hc323) ?_
  obtain rfl := Option.some.inj h
  exact QTri.ret0 rfl rfl
/-- evictOldest(I)V -/
def F38 (o : Ob) (x1 : Int32) : Option (Ob) :=
 (aget (f_frontSize o) x1).bind fun y281 => (if y281 = (0:Int32) then (F39 o x1).bind fun r321 => (J38_14 r321 x1) else (J38_14 o x1))
theorem tF38 (Ad : QAd n0 ad) (W : QW Z a0) (s : List Int32) (o : Ob) (x1 : Int32) {r : Ob} (h : F38 o x1 = some r) : QTri l Z n0 ad 38 (0, qentry [.ref 1, .int x1] (pMaxL 38), [], (H0 s o)) (none : Option Value) (H0 s r) := by
 unfold F38 at h
 refine zS Ad W 3 (st' := (5, [vR 1, vI x1], [.int x1, .ref 4], (H0 s o))) rfl ?_
 obtain ⟨y281, hy281, h⟩ := bind_eq_some_iff.mp h
 refine zB Ad W (f := fun y281 => (6, [vR 1, vI x1], [.int y281], (H0 s o))) rfl hy281 ?_
 rcases qite h with ⟨hc282, h⟩ | ⟨hc282, h⟩
 ·refine zF Ad W (t := 14) (f := 9) rfl (XT.i0_ne_f hc282) ?_
  refine zS Ad W 2 (st' := (11, [vR 1, vI x1], [.int x1, .ref 1], (H0 s o))) rfl ?_
  obtain ⟨r321, hr321, h⟩ := bind_eq_some_iff.mp h
  refine QTri.callP W (a := 1) (as := [.int x1]) (rest := []) (w := none) (σ₁ := (H0 s r321)) rfl rfl rfl rfl rfl rfl rfl rfl (tF39 Ad W s o x1 hr321) ?_
  exact zM [tt,tt] (tJ38_14 Ad W s r321 x1 h)
 ·refine zT Ad W (t := 14) (f := 9) rfl (XT.i0_ne_t hc282) ?_
  exact zM [tt,tt] (tJ38_14 Ad W s o x1 h)
/-- appendToQuery(I)V -/
def F33 (o : Ob) (x1 : Int32) : Option (Ob) :=
 (if x1 < (0:Int32) then some o else (if x1 < (4:Int32) then (aget (f_frontSize o) x1).bind fun y257 => (aget (f_backSize o) x1).bind fun y258 => (aget (f_range o) x1).bind fun y259 => (if (y257 + y258) < y259 then (J33_39 o x1) else (F38 o x1).bind fun r327 => (J33_39 r327 x1)) else some o))
theorem tF33 (Ad : QAd n0 ad) (W : QW Z a0) (s : List Int32) (o : Ob) (x1 : Int32) {r : Ob} (h : F33 o x1 = some r) : QTri l Z n0 ad 33 (0, qentry [.ref 1, .int x1] (pMaxL 33), [], (H0 s o)) (none : Option Value) (H0 s r) := by
 unfold F33 at h
 refine zS Ad W 1 (st' := (1, [vR 1, vI x1, none, none], [.int x1], (H0 s o))) rfl ?_
 rcases qite h with ⟨hc255, h⟩ | ⟨hc255, h⟩
 ·refine zT Ad W (t := 9) (f := 4) rfl (XT.i0_lt_t hc255) ?_
  obtain rfl := Option.some.inj h
  exact QTri.ret0 rfl rfl
 ·refine zF Ad W (t := 9) (f := 4) rfl (XT.i0_lt_f hc255) ?_
  refine zS Ad W 2 (st' := (6, [vR 1, vI x1, none, none], [.int (4:Int32), .int x1], (H0 s o))) rfl ?_
  rcases qite h with ⟨hc256, h⟩ | ⟨hc256, h⟩
  ·refine zT Ad W (t := 10) (f := 9) rfl (XT.ii_lt_t hc256) ?_
   refine zS Ad W 3 (st' := (15, [vR 1, vI x1, none, none], [.int x1, .ref 4], (H0 s o))) rfl ?_
   obtain ⟨y257, hy257, h⟩ := bind_eq_some_iff.mp h
   refine zB Ad W (f := fun y257 => (16, [vR 1, vI x1, none, none], [.int y257], (H0 s o))) rfl hy257 ?_
   refine zS Ad W 3 (st' := (21, [vR 1, vI x1, none, none], [.int x1, .ref 5, .int y257], (H0 s o))) rfl ?_
   obtain ⟨y258, hy258, h⟩ := bind_eq_some_iff.mp h
   refine zB Ad W (f := fun y258 => (22, [vR 1, vI x1, none, none], [.int y258, .int y257], (H0 s o))) rfl hy258 ?_
   refine zS Ad W 6 (st' := (30, [vR 1, vI x1, vI (y257 + y258), none], [.int x1, .ref 2, .int (y257 + y258)], (H0 s o))) rfl ?_
   obtain ⟨y259, hy259, h⟩ := bind_eq_some_iff.mp h
   refine zB Ad W (f := fun y259 => (31, [vR 1, vI x1, vI (y257 + y258), none], [.int y259, .int (y257 + y258)], (H0 s o))) rfl hy259 ?_
   rcases qite h with ⟨hc260, h⟩ | ⟨hc260, h⟩
   ·refine zT Ad W (t := 39) (f := 34) rfl (XT.ii_lt_t hc260) ?_
    exact zM [tt,tt,ff,ff] (tJ33_39 Ad W s o x1 h)
   ·refine zF Ad W (t := 39) (f := 34) rfl (XT.ii_lt_f hc260) ?_
    refine zS Ad W 2 (st' := (36, [vR 1, vI x1, vI (y257 + y258), none], [.int x1, .ref 1], (H0 s o))) rfl ?_
    obtain ⟨r327, hr327, h⟩ := bind_eq_some_iff.mp h
    refine QTri.callP W (a := 1) (as := [.int x1]) (rest := []) (w := none) (σ₁ := (H0 s r327)) rfl rfl rfl rfl rfl rfl rfl rfl (tF38 Ad W s o x1 hr327) ?_
    exact zM [tt,tt,ff,ff] (tJ33_39 Ad W s r327 x1 h)
  ·refine zF Ad W (t := 10) (f := 9) rfl (XT.ii_lt_f hc256) ?_
   obtain rfl := Option.some.inj h
   exact QTri.ret0 rfl rfl
def J32_75 (o : Ob) (x5 : Int32) (x6 : Int32) : Option (((Int32 × Ob)) ⊕ (Int32 × Int32 × Ob)) :=
  some (.inr (x5, (x6 + (1 : Int32)), o))
theorem tJ32_75 (Ad : QAd n0 ad) (W : QW Z a0) (s : List Int32) (o : Ob) (x5 : Int32) (x6 : Int32) {r : ((Int32 × Ob)) ⊕ (Int32 × Int32 × Ob)} {u : Option Value} {τ : QHeap} (h : J32_75 o x5 x6 = some r) (hx0 : ∀ x : Int32 × Ob, r = .inl x → u = (some (Value.int x.1)) ∧ τ = (H0 s x.2)) (hc : ∀ x : Int32 × Int32 × Ob, r = .inr x → QTri l Z n0 ad 32 (26, [vR 1, none, none, none, none, vI x.1, vI x.2.1, none], [], (H0 s x.2.2)) u τ) : QTri l Z n0 ad 32 (75, [vR 1, none, none, none, none, vI x5, vI x6, none], [], (H0 s o)) u τ := by
 unfold J32_75 at h
 refine zS Ad W 2 (st' := (26, [vR 1, none, none, none, none, vI x5, vI (x6 + (1:Int32)), none], [], (H0 s o))) rfl ?_
 obtain rfl := Option.some.inj h
 exact zM [tt,ff,ff,ff,ff,tt,tt,ff] (hc (x5, (x6 + (1:Int32)), o) rfl)
/-- takeSnapshot(I)V -/
def F37 (o : Ob) (x1 : Int32) : Option (Ob) :=
 (F26 o x1 (3:Int32)).bind fun r333 => (F8 r333 x1 (3:Int32)).bind fun r334 => some r334
theorem tF37 (Ad : QAd n0 ad) (W : QW Z a0) (s : List Int32) (o : Ob) (x1 : Int32) {r : Ob} (h : F37 o x1 = some r) : QTri l Z n0 ad 37 (0, qentry [.ref 1, .int x1] (pMaxL 37), [], (H0 s o)) (none : Option Value) (H0 s r) := by
 unfold F37 at h
 refine zS Ad W 3 (st' := (3, [vR 1, vI x1], [.int (3:Int32), .int x1, .ref 1], (H0 s o))) rfl ?_
 obtain ⟨r333, hr333, h⟩ := bind_eq_some_iff.mp h
 refine QTri.callP W (a := 1) (as := [.int x1, .int (3:Int32)]) (rest := []) (w := none) (σ₁ := (H0 s r333)) rfl rfl rfl rfl rfl rfl rfl rfl (tF26 Ad W s o x1 (3:Int32) hr333) ?_
 refine zS Ad W 3 (st' := (9, [vR 1, vI x1], [.int (3:Int32), .int x1, .ref 1], (H0 s r333))) rfl ?_
 obtain ⟨r334, hr334, h⟩ := bind_eq_some_iff.mp h
 refine QTri.callP W (a := 1) (as := [.int x1, .int (3:Int32)]) (rest := []) (w := none) (σ₁ := (H0 s r334)) rfl rfl rfl rfl rfl rfl rfl rfl (tF8 Ad W s r333 x1 (3:Int32) hr334) ?_
 obtain rfl := Option.some.inj h
 exact QTri.ret0 rfl rfl
def B32_26 (v : Int32 × Int32 × Ob) : Option (((Int32 × Ob)) ⊕ (Int32 × Int32 × Ob)) :=
  (if v.2.1 < (f_queries v.2.2) then (F33 v.2.2 v.2.1).bind fun r328 => (aget (f_slide r328) v.2.1).bind fun y329 => (if y329 < (1 : Int32) then (J32_75 r328 v.1 v.2.1) else (qrem (f_n r328) y329).bind fun y331 => (if y331 = (0 : Int32) then (F37 r328 v.2.1).bind fun r335 => (J32_75 r335 (v.1 + (1 : Int32)) v.2.1) else (J32_75 r328 v.1 v.2.1))) else some (.inl (v.1, v.2.2)))
theorem tB32_26 (Ad : QAd n0 ad) (W : QW Z a0) (s : List Int32) (v : Int32 × Int32 × Ob) {r : ((Int32 × Ob)) ⊕ (Int32 × Int32 × Ob)} {u : Option Value} {τ : QHeap} (h : B32_26 v = some r) (hx0 : ∀ x : Int32 × Ob, r = .inl x → u = (some (Value.int x.1)) ∧ τ = (H0 s x.2)) (hc : ∀ x : Int32 × Int32 × Ob, r = .inr x → QTri l Z n0 ad 32 (26, [vR 1, none, none, none, none, vI x.1, vI x.2.1, none], [], (H0 s x.2.2)) u τ) : QTri l Z n0 ad 32 (26, [vR 1, none, none, none, none, vI v.1, vI v.2.1, none], [], (H0 s v.2.2)) u τ := by
 unfold B32_26 at h
 refine zS Ad W 3 (st' := (32, [vR 1, none, none, none, none, vI v.1, vI v.2.1, none], [.int (f_queries v.2.2), .int v.2.1], (H0 s v.2.2))) rfl ?_
 rcases qite h with ⟨hc254, h⟩ | ⟨hc254, h⟩
 ·refine zF Ad W (t := 81) (f := 35) rfl (XT.ii_ge_f hc254) ?_
  refine zS Ad W 2 (st' := (38, [vR 1, none, none, none, none, vI v.1, vI v.2.1, none], [.int v.2.1, .ref 1], (H0 s v.2.2))) rfl ?_
  obtain ⟨r328, hr328, h⟩ := bind_eq_some_iff.mp h
  refine QTri.callP W (a := 1) (as := [.int v.2.1]) (rest := []) (w := none) (σ₁ := (H0 s r328)) rfl rfl rfl rfl rfl rfl rfl rfl (tF33 Ad W s v.2.2 v.2.1 hr328) ?_
  refine zS Ad W 3 (st' := (47, [vR 1, none, none, none, none, vI v.1, vI v.2.1, none], [.int v.2.1, .ref 3], (H0 s r328))) rfl ?_
  obtain ⟨y329, hy329, h⟩ := bind_eq_some_iff.mp h
  refine zB Ad W (f := fun y329 => (48, [vR 1, none, none, none, none, vI v.1, vI v.2.1, none], [.int y329], (H0 s r328))) rfl hy329 ?_
  refine zS Ad W 3 (st' := (53, [vR 1, none, none, none, none, vI v.1, vI v.2.1, vI y329], [.int (1:Int32), .int y329], (H0 s r328))) rfl ?_
  rcases qite h with ⟨hc330, h⟩ | ⟨hc330, h⟩
  ·refine zT Ad W (t := 75) (f := 56) rfl (XT.ii_lt_t hc330) ?_
   exact zM [tt,ff,ff,ff,ff,tt,tt,ff] (tJ32_75 Ad W s r328 v.1 v.2.1 h hx0 hc)
  ·refine zF Ad W (t := 75) (f := 56) rfl (XT.ii_lt_f hc330) ?_
   refine zS Ad W 3 (st' := (62, [vR 1, none, none, none, none, vI v.1, vI v.2.1, vI y329], [.int y329, .int (f_n r328)], (H0 s r328))) rfl ?_
   obtain ⟨y331, hy331, h⟩ := bind_eq_some_iff.mp h
   refine zB Ad W (f := fun y331 => (63, [vR 1, none, none, none, none, vI v.1, vI v.2.1, vI y329], [.int y331], (H0 s r328))) rfl hy331 ?_
   rcases qite h with ⟨hc332, h⟩ | ⟨hc332, h⟩
   ·refine zF Ad W (t := 75) (f := 66) rfl (XT.i0_ne_f hc332) ?_
    refine zS Ad W 2 (st' := (69, [vR 1, none, none, none, none, vI v.1, vI v.2.1, vI y329], [.int v.2.1, .ref 1], (H0 s r328))) rfl ?_
    obtain ⟨r335, hr335, h⟩ := bind_eq_some_iff.mp h
    refine QTri.callP W (a := 1) (as := [.int v.2.1]) (rest := []) (w := none) (σ₁ := (H0 s r335)) rfl rfl rfl rfl rfl rfl rfl rfl (tF37 Ad W s r328 v.2.1 hr335) ?_
    refine zS Ad W 1 (st' := (75, [vR 1, none, none, none, none, vI (v.1 + (1:Int32)), vI v.2.1, vI y329], [], (H0 s r335))) rfl ?_
    exact zM [tt,ff,ff,ff,ff,tt,tt,ff] (tJ32_75 Ad W s r335 (v.1 + (1:Int32)) v.2.1 h hx0 hc)
   ·refine zT Ad W (t := 75) (f := 66) rfl (XT.i0_ne_t hc332) ?_
    exact zM [tt,ff,ff,ff,ff,tt,tt,ff] (tJ32_75 Ad W s r328 v.1 v.2.1 h hx0 hc)
 ·refine zT Ad W (t := 81) (f := 35) rfl (XT.ii_ge_t hc254) ?_
  refine zS Ad W 1 (st' := (83, [vR 1, none, none, none, none, vI v.1, vI v.2.1, none], [.int v.1], (H0 s v.2.2))) rfl ?_
  obtain rfl := Option.some.inj h
  obtain ⟨rfl, rfl⟩ := hx0 (v.1, v.2.2) rfl
  exact QTri.retI rfl rfl
/-- push(IIII)I -/
def F32 (o : Ob) (x1 : Int32) (x2 : Int32) (x3 : Int32) (x4 : Int32) : Option (Int32 × Ob) :=
 (F5 (s_n o ((f_n o) + (1:Int32))) (0:Int32) x1 x2 x3 x4).bind fun r253 => (loopN (B32_26) qN ((0:Int32), (0:Int32), r253)).bind fun e336 => some e336
theorem tF32 (Ad : QAd n0 ad) (W : QW Z a0) (s : List Int32) (o : Ob) (x1 : Int32) (x2 : Int32) (x3 : Int32) (x4 : Int32) {r : Int32 × Ob} (h : F32 o x1 x2 x3 x4 = some r) : QTri l Z n0 ad 32 (0, qentry [.ref 1, .int x1, .int x2, .int x3, .int x4] (pMaxL 32), [], (H0 s o)) (some (Value.int r.1)) (H0 s r.2) := by
 unfold F32 at h
 refine zS Ad W 6 (st' := (10, [vR 1, vI x1, vI x2, vI x3, vI x4, none, none, none], [], (H0x12 s o ((f_n o) + (1:Int32))))) rfl ?_
 refine zS Ad W 6 (st' := (17, [vR 1, vI x1, vI x2, vI x3, vI x4, none, none, none], [.int x4, .int x3, .int x2, .int x1, .int (0:Int32), .ref 1], (H0x12 s o ((f_n o) + (1:Int32))))) rfl ?_
 have E252 : ((H0x12 s o ((f_n o) + (1:Int32))) : QHeap) = (H0 s (s_n o ((f_n o) + (1:Int32)))) := by simp only [fs, H0, H0v, H0x12, s_n]
 rw [E252]
 obtain ⟨r253, hr253, h⟩ := bind_eq_some_iff.mp h
 refine QTri.callP W (a := 1) (as := [.int (0:Int32), .int x1, .int x2, .int x3, .int x4]) (rest := []) (w := none) (σ₁ := (H0 s r253)) rfl rfl rfl rfl rfl rfl rfl rfl (tF5 Ad W s (s_n o ((f_n o) + (1:Int32))) (0:Int32) x1 x2 x3 x4 hr253) ?_
 refine zS Ad W 4 (st' := (26, [vR 1, vI x1, vI x2, vI x3, vI x4, vI (0:Int32), vI (0:Int32), none], [], (H0 s r253))) rfl ?_
 obtain ⟨e336, he336, h⟩ := bind_eq_some_iff.mp h
 refine zM [tt,ff,ff,ff,ff,tt,tt,ff] (loopN_tri (B := B32_26) (T := fun lv337 => QTri l Z n0 ad 32 (26, [vR 1, none, none, none, none, vI lv337.1, vI lv337.2.1, none], [], (H0 s lv337.2.2)) (some (Value.int r.1)) (H0 s r.2)) (KE := fun e336a => (some (Value.int r.1)) = (some (Value.int e336a.1)) ∧ (H0 s r.2) = (H0 s e336a.2)) (fun lv337 r hB hE hC => tB32_26 Ad W s lv337 hB (fun x q => hE _ q) (fun x q => hC x q)) qN ((0:Int32), (0:Int32), r253) e336 he336 ?_)
 obtain rfl := Option.some.inj h
 exact ⟨rfl, rfl⟩
def B0_192 (s : List Int32) (p0 : Ob) (x1 : Int32) (x3 : Int32) (x4 : Int32) (x5 : Int32) (x6 : Int32) (x8 : Int32) (v : Int32 × Int32) : Option (((Int32)) ⊕ (Int32 × Int32)) :=
  (if v.2 < x1 then (F10 s v.2).bind fun r340 => (qrem x5 r340).bind fun y341 => some (.inr ((if y341 = (0 : Int32) then (v.1 + (1 : Int32)) else v.1), (v.2 + (1 : Int32)))) else some (.inl v.1))
theorem tB0_192 (Ad : QAd n0 ad) (W : QW Z a0) (s : List Int32) (p0 : Ob) (x1 : Int32) (x3 : Int32) (x4 : Int32) (x5 : Int32) (x6 : Int32) (x8 : Int32) (v : Int32 × Int32) {r : ((Int32)) ⊕ (Int32 × Int32)} {u : Option Value} {τ : QHeap} (h : B0_192 s p0 x1 x3 x4 x5 x6 x8 v = some r) (hx0 : ∀ x : Int32, r = .inl x → QTri l Z n0 ad 0 (219, [vR 0, vI x1, vR 1, vI x3, vI x4, vI x5, vI x6, none, vI x8, vI x, none], [], (H0 s p0)) u τ) (hc : ∀ x : Int32 × Int32, r = .inr x → QTri l Z n0 ad 0 (192, [vR 0, vI x1, vR 1, vI x3, vI x4, vI x5, vI x6, none, vI x8, vI x.1, vI x.2], [], (H0 s p0)) u τ) : QTri l Z n0 ad 0 (192, [vR 0, vI x1, vR 1, vI x3, vI x4, vI x5, vI x6, none, vI x8, vI v.1, vI v.2], [], (H0 s p0)) u τ := by
 unfold B0_192 at h
 refine zS Ad W 2 (st' := (195, [vR 0, vI x1, vR 1, vI x3, vI x4, vI x5, vI x6, none, vI x8, vI v.1, vI v.2], [.int x1, .int v.2], (H0 s p0))) rfl ?_
 rcases qite h with ⟨hc339, h⟩ | ⟨hc339, h⟩
 ·refine zF Ad W (t := 219) (f := 198) rfl (XT.ii_ge_f hc339) ?_
  refine zS Ad W 3 (st' := (203, [vR 0, vI x1, vR 1, vI x3, vI x4, vI x5, vI x6, none, vI x8, vI v.1, vI v.2], [.int v.2, .ref 0, .int x5], (H0 s p0))) rfl ?_
  obtain ⟨r340, hr340, h⟩ := bind_eq_some_iff.mp h
  refine QTri.callS W (as := [.ref 0, .int v.2]) (rest := [.int x5]) (w := (some (.int r340))) (σ₁ := (H0 s p0)) rfl rfl rfl rfl rfl rfl rfl (tF10 Ad W p0 s v.2 hr340) ?_
  obtain ⟨y341, hy341, h⟩ := bind_eq_some_iff.mp h
  refine zB Ad W (f := fun y341 => (207, [vR 0, vI x1, vR 1, vI x3, vI x4, vI x5, vI x6, none, vI x8, vI v.1, vI v.2], [.int y341], (H0 s p0))) rfl hy341 ?_
  have K343 : ∀ z342 : Int32, z342 = (if y341 = (0:Int32) then (v.1 + (1:Int32)) else v.1) → QTri l Z n0 ad 0 (213, [vR 0, vI x1, vR 1, vI x3, vI x4, vI x5, vI x6, none, vI x8, vI z342, vI v.2], [], (H0 s p0)) u τ := by
   intro z342 ez342
   subst ez342
   refine zS Ad W 2 (st' := (192, [vR 0, vI x1, vR 1, vI x3, vI x4, vI x5, vI x6, none, vI x8, vI (if y341 = (0:Int32) then (v.1 + (1:Int32)) else v.1), vI (v.2 + (1:Int32))], [], (H0 s p0))) rfl ?_
   obtain rfl := Option.some.inj h
   exact zM [tt,tt,tt,tt,tt,tt,tt,ff,tt,tt,tt] (hc ((if y341 = (0:Int32) then (v.1 + (1:Int32)) else v.1), (v.2 + (1:Int32))) rfl)
  rcases em (y341 = (0:Int32)) with hc344 | hc344
  ·refine zF Ad W (t := 213) (f := 210) rfl (XT.i0_ne_f hc344) ?_
   refine zS Ad W 1 (st' := (213, [vR 0, vI x1, vR 1, vI x3, vI x4, vI x5, vI x6, none, vI x8, vI (v.1 + (1:Int32)), vI v.2], [], (H0 s p0))) rfl ?_
   exact zM [tt,tt,tt,tt,tt,tt,tt,ff,tt,tt,tt] (K343 _ (if_pos hc344).symm)
  ·refine zT Ad W (t := 213) (f := 210) rfl (XT.i0_ne_t hc344) ?_
   exact zM [tt,tt,tt,tt,tt,tt,tt,ff,tt,tt,tt] (K343 _ (if_neg hc344).symm)
 ·refine zT Ad W (t := 219) (f := 198) rfl (XT.ii_ge_t hc339) ?_
  obtain rfl := Option.some.inj h
  exact zM [tt,tt,tt,tt,tt,tt,tt,ff,tt,tt,ff] (hx0 v.1 rfl)
def B0_109 (s : List Int32) (x1 : Int32) (x3 : Int32) (v : Int32 × Int32 × Int32 × Ob) : Option (((Int32 × QHeap)) ⊕ (Int32 × Int32 × Int32 × Ob)) :=
  (if v.2.2.1 < x3 then (F30 s v.2.2.1).bind fun r234 => (if r234 = (0 : Int32) then (F43 v.2.2.2).bind fun r241 => (J0_244 s r241 x1 x3 (v.2.2.1 + (1 : Int32)) (0 : Int32) v.2.2.1) else (F1 s (((9 : Int32) + ((5 : Int32) * v.2.2.1)) + (1 : Int32))).bind fun r244 => (F31 r244).bind fun r245 => (F1 s (((9 : Int32) + ((5 : Int32) * v.2.2.1)) + (2 : Int32))).bind fun r246 => (F31 r246).bind fun r247 => (F1 s (((9 : Int32) + ((5 : Int32) * v.2.2.1)) + (3 : Int32))).bind fun r248 => (F31 r248).bind fun r249 => (F1 s (((9 : Int32) + ((5 : Int32) * v.2.2.1)) + (4 : Int32))).bind fun r250 => (F31 r250).bind fun r251 => (F32 v.2.2.2 r245 r247 r249 r251).bind fun r338 => (loopN (B0_192 s r338.2 x1 x3 v.1 (v.2.1 + (1 : Int32)) v.2.2.1 r338.1) qN ((0 : Int32), (0 : Int32))).bind fun e345 => (if r338.1 = e345 then (J0_244 s r338.2 x1 x3 v.1 (v.2.1 + (1 : Int32)) v.2.2.1) else some (.inl ((0 : Int32), (H0 s r338.2))))) else some (.inl ((1 : Int32), (H0 s v.2.2.2))))
theorem tB0_109 (Ad : QAd n0 ad) (W : QW Z a0) (s : List Int32) (x1 : Int32) (x3 : Int32) (v : Int32 × Int32 × Int32 × Ob) {r : ((Int32 × QHeap)) ⊕ (Int32 × Int32 × Int32 × Ob)} {u : Option Value} {τ : QHeap} (h : B0_109 s x1 x3 v = some r) (hx0 : ∀ x : Int32 × QHeap, r = .inl x → u = (some (Value.int x.1)) ∧ τ = x.2) (hc : ∀ x : Int32 × Int32 × Int32 × Ob, r = .inr x → QTri l Z n0 ad 0 (109, [vR 0, vI x1, vR 1, vI x3, vI x.1, vI x.2.1, vI x.2.2.1, none, none, none, none], [], (H0 s x.2.2.2)) u τ) : QTri l Z n0 ad 0 (109, [vR 0, vI x1, vR 1, vI x3, vI v.1, vI v.2.1, vI v.2.2.1, none, none, none, none], [], (H0 s v.2.2.2)) u τ := by
 unfold B0_109 at h
 refine zS Ad W 2 (st' := (112, [vR 0, vI x1, vR 1, vI x3, vI v.1, vI v.2.1, vI v.2.2.1, none, none, none, none], [.int x3, .int v.2.2.1], (H0 s v.2.2.2))) rfl ?_
 rcases qite h with ⟨hc233, h⟩ | ⟨hc233, h⟩
 ·refine zF Ad W (t := 267) (f := 115) rfl (XT.ii_ge_f hc233) ?_
  refine zS Ad W 8 (st' := (127, [vR 0, vI x1, vR 1, vI x3, vI v.1, vI v.2.1, vI v.2.2.1, vI ((9:Int32) + ((5:Int32) * v.2.2.1)), none, none, none], [.int v.2.2.1, .ref 0], (H0 s v.2.2.2))) rfl ?_
  obtain ⟨r234, hr234, h⟩ := bind_eq_some_iff.mp h
  refine QTri.callS W (as := [.ref 0, .int v.2.2.1]) (rest := []) (w := (some (.int r234))) (σ₁ := (H0 s v.2.2.2)) rfl rfl rfl rfl rfl rfl rfl (tF30 Ad W v.2.2.2 s v.2.2.1 hr234) ?_
  rcases qite h with ⟨hc235, h⟩ | ⟨hc235, h⟩
  ·refine zT Ad W (t := 231) (f := 133) rfl (XT.i0_eq_t hc235) ?_
   refine zS Ad W 1 (st' := (232, [vR 0, vI x1, vR 1, vI x3, vI v.1, vI v.2.1, vI v.2.2.1, vI ((9:Int32) + ((5:Int32) * v.2.2.1)), none, none, none], [.ref 1], (H0 s v.2.2.2))) rfl ?_
   obtain ⟨r241, hr241, h⟩ := bind_eq_some_iff.mp h
   refine QTri.callV W (a := 1) (as := []) (rest := []) (w := none) (σ₁ := (H0 s r241)) rfl rfl rfl rfl rfl rfl rfl rfl (tF43 Ad W s v.2.2.2 hr241) ?_
   refine zS Ad W 6 (st' := (244, [vR 0, vI x1, vR 1, vI x3, vI (v.2.2.1 + (1:Int32)), vI (0:Int32), vI v.2.2.1, vI ((9:Int32) + ((5:Int32) * v.2.2.1)), none, none, none], [], (H0 s r241))) rfl ?_
   exact zM [tt,tt,tt,tt,tt,tt,tt,ff,ff,ff,ff] (tJ0_244 Ad W s r241 x1 x3 (v.2.2.1 + (1:Int32)) (0:Int32) v.2.2.1 h hx0 hc)
  ·refine zF Ad W (t := 231) (f := 133) rfl (XT.i0_eq_f hc235) ?_
   refine zS Ad W 5 (st' := (139, [vR 0, vI x1, vR 1, vI x3, vI v.1, vI v.2.1, vI v.2.2.1, vI ((9:Int32) + ((5:Int32) * v.2.2.1)), none, none, none], [.int (((9:Int32) + ((5:Int32) * v.2.2.1)) + (1:Int32)), .ref 0, .ref 1], (H0 s v.2.2.2))) rfl ?_
   obtain ⟨r244, hr244, h⟩ := bind_eq_some_iff.mp h
   refine QTri.callS W (as := [.ref 0, .int (((9:Int32) + ((5:Int32) * v.2.2.1)) + (1:Int32))]) (rest := [.ref 1]) (w := (some (.int r244))) (σ₁ := (H0 s v.2.2.2)) rfl rfl rfl rfl rfl rfl rfl (tF1a1 Ad W v.2.2.2 s (((9:Int32) + ((5:Int32) * v.2.2.1)) + (1:Int32)) hr244) ?_
   obtain ⟨r245, hr245, h⟩ := bind_eq_some_iff.mp h
   refine QTri.callS W (as := [.int r244]) (rest := [.ref 1]) (w := (some (.int r245))) (σ₁ := (H0 s v.2.2.2)) rfl rfl rfl rfl rfl rfl rfl (tF31 Ad W r244 hr245) ?_
   refine zS Ad W 4 (st' := (150, [vR 0, vI x1, vR 1, vI x3, vI v.1, vI v.2.1, vI v.2.2.1, vI ((9:Int32) + ((5:Int32) * v.2.2.1)), none, none, none], [.int (((9:Int32) + ((5:Int32) * v.2.2.1)) + (2:Int32)), .ref 0, .int r245, .ref 1], (H0 s v.2.2.2))) rfl ?_
   obtain ⟨r246, hr246, h⟩ := bind_eq_some_iff.mp h
   refine QTri.callS W (as := [.ref 0, .int (((9:Int32) + ((5:Int32) * v.2.2.1)) + (2:Int32))]) (rest := [.int r245, .ref 1]) (w := (some (.int r246))) (σ₁ := (H0 s v.2.2.2)) rfl rfl rfl rfl rfl rfl rfl (tF1a1 Ad W v.2.2.2 s (((9:Int32) + ((5:Int32) * v.2.2.1)) + (2:Int32)) hr246) ?_
   obtain ⟨r247, hr247, h⟩ := bind_eq_some_iff.mp h
   refine QTri.callS W (as := [.int r246]) (rest := [.int r245, .ref 1]) (w := (some (.int r247))) (σ₁ := (H0 s v.2.2.2)) rfl rfl rfl rfl rfl rfl rfl (tF31 Ad W r246 hr247) ?_
   refine zS Ad W 4 (st' := (161, [vR 0, vI x1, vR 1, vI x3, vI v.1, vI v.2.1, vI v.2.2.1, vI ((9:Int32) + ((5:Int32) * v.2.2.1)), none, none, none], [.int (((9:Int32) + ((5:Int32) * v.2.2.1)) + (3:Int32)), .ref 0, .int r247, .int r245, .ref 1], (H0 s v.2.2.2))) rfl ?_
   obtain ⟨r248, hr248, h⟩ := bind_eq_some_iff.mp h
   refine QTri.callS W (as := [.ref 0, .int (((9:Int32) + ((5:Int32) * v.2.2.1)) + (3:Int32))]) (rest := [.int r247, .int r245, .ref 1]) (w := (some (.int r248))) (σ₁ := (H0 s v.2.2.2)) rfl rfl rfl rfl rfl rfl rfl (tF1a1 Ad W v.2.2.2 s (((9:Int32) + ((5:Int32) * v.2.2.1)) + (3:Int32)) hr248) ?_
   obtain ⟨r249, hr249, h⟩ := bind_eq_some_iff.mp h
   refine QTri.callS W (as := [.int r248]) (rest := [.int r247, .int r245, .ref 1]) (w := (some (.int r249))) (σ₁ := (H0 s v.2.2.2)) rfl rfl rfl rfl rfl rfl rfl (tF31 Ad W r248 hr249) ?_
   refine zS Ad W 4 (st' := (172, [vR 0, vI x1, vR 1, vI x3, vI v.1, vI v.2.1, vI v.2.2.1, vI ((9:Int32) + ((5:Int32) * v.2.2.1)), none, none, none], [.int (((9:Int32) + ((5:Int32) * v.2.2.1)) + (4:Int32)), .ref 0, .int r249, .int r247, .int r245, .ref 1], (H0 s v.2.2.2))) rfl ?_
   obtain ⟨r250, hr250, h⟩ := bind_eq_some_iff.mp h
   refine QTri.callS W (as := [.ref 0, .int (((9:Int32) + ((5:Int32) * v.2.2.1)) + (4:Int32))]) (rest := [.int r249, .int r247, .int r245, .ref 1]) (w := (some (.int r250))) (σ₁ := (H0 s v.2.2.2)) rfl rfl rfl rfl rfl rfl rfl (tF1a1 Ad W v.2.2.2 s (((9:Int32) + ((5:Int32) * v.2.2.1)) + (4:Int32)) hr250) ?_
   obtain ⟨r251, hr251, h⟩ := bind_eq_some_iff.mp h
   refine QTri.callS W (as := [.int r250]) (rest := [.int r249, .int r247, .int r245, .ref 1]) (w := (some (.int r251))) (σ₁ := (H0 s v.2.2.2)) rfl rfl rfl rfl rfl rfl rfl (tF31 Ad W r250 hr251) ?_
   obtain ⟨r338, hr338, h⟩ := bind_eq_some_iff.mp h
   refine QTri.callV W (a := 1) (as := [.int r245, .int r247, .int r249, .int r251]) (rest := []) (w := (some (.int r338.1))) (σ₁ := (H0 s r338.2)) rfl rfl rfl rfl rfl rfl rfl rfl (tF32 Ad W s v.2.2.2 r245 r247 r249 r251 hr338) ?_
   refine zS Ad W 2 (st' := (186, [vR 0, vI x1, vR 1, vI x3, vI v.1, vI (v.2.1 + (1:Int32)), vI v.2.2.1, vI ((9:Int32) + ((5:Int32) * v.2.2.1)), vI r338.1, none, none], [], (H0 s r338.2))) rfl ?_
   refine zS Ad W 4 (st' := (192, [vR 0, vI x1, vR 1, vI x3, vI v.1, vI (v.2.1 + (1:Int32)), vI v.2.2.1, vI ((9:Int32) + ((5:Int32) * v.2.2.1)), vI r338.1, vI (0:Int32), vI (0:Int32)], [], (H0 s r338.2))) rfl ?_
   obtain ⟨e345, he345, h⟩ := bind_eq_some_iff.mp h
   refine zM [tt,tt,tt,tt,tt,tt,tt,ff,tt,tt,tt] (loopN_tri (B := B0_192 s r338.2 x1 x3 v.1 (v.2.1 + (1:Int32)) v.2.2.1 r338.1) (T := fun lv346 => QTri l Z n0 ad 0 (192, [vR 0, vI x1, vR 1, vI x3, vI v.1, vI (v.2.1 + (1:Int32)), vI v.2.2.1, none, vI r338.1, vI lv346.1, vI lv346.2], [], (H0 s r338.2)) u τ) (KE := fun e345a => QTri l Z n0 ad 0 (219, [vR 0, vI x1, vR 1, vI x3, vI v.1, vI (v.2.1 + (1:Int32)), vI v.2.2.1, none, vI r338.1, vI e345a, none], [], (H0 s r338.2)) u τ) (fun lv346 r hB hE hC => tB0_192 Ad W s r338.2 x1 x3 v.1 (v.2.1 + (1:Int32)) v.2.2.1 r338.1 lv346 hB (fun x q => hE _ q) (fun x q => hC x q)) qN ((0:Int32), (0:Int32)) e345 he345 ?_)
   refine zS Ad W 2 (st' := (223, [vR 0, vI x1, vR 1, vI x3, vI v.1, vI (v.2.1 + (1:Int32)), vI v.2.2.1, none, vI r338.1, vI e345, none], [.int e345, .int r338.1], (H0 s r338.2))) rfl ?_
   rcases qite h with ⟨hc347, h⟩ | ⟨hc347, h⟩
   ·refine zT Ad W (t := 228) (f := 226) rfl (XT.ii_eq_t hc347) ?_
    refine zS Ad W 1 (st' := (244, [vR 0, vI x1, vR 1, vI x3, vI v.1, vI (v.2.1 + (1:Int32)), vI v.2.2.1, none, vI r338.1, vI e345, none], [], (H0 s r338.2))) rfl ?_
    exact zM [tt,tt,tt,tt,tt,tt,tt,ff,ff,ff,ff] (tJ0_244 Ad W s r338.2 x1 x3 v.1 (v.2.1 + (1:Int32)) v.2.2.1 h hx0 hc)
   ·refine zF Ad W (t := 228) (f := 226) rfl (XT.ii_eq_f hc347) ?_
    refine zS Ad W 1 (st' := (227, [vR 0, vI x1, vR 1, vI x3, vI v.1, vI (v.2.1 + (1:Int32)), vI v.2.2.1, none, vI r338.1, vI e345, none], [.int (0:Int32)], (H0 s r338.2))) rfl ?_
    obtain rfl := Option.some.inj h
    obtain ⟨rfl, rfl⟩ := hx0 ((0:Int32), (H0 s r338.2)) rfl
    exact QTri.retZ rfl rfl
 ·refine zT Ad W (t := 267) (f := 115) rfl (XT.ii_ge_t hc233) ?_
  refine zS Ad W 1 (st' := (268, [vR 0, vI x1, vR 1, vI x3, vI v.1, vI v.2.1, vI v.2.2.1, none, none, none, none], [.int (1:Int32)], (H0 s v.2.2.2))) rfl ?_
  obtain rfl := Option.some.inj h
  obtain ⟨rfl, rfl⟩ := hx0 ((1:Int32), (H0 s v.2.2.2)) rfl
  exact QTri.retZ rfl rfl
def J0_72 (s : List Int32) (p0 : Ob) (x1 : Int32) (w0 : Int32) : Option (Int32 × QHeap) :=
  (F12 s p0 x1 (0 : Int32) (-1 : Int32) (0 : Int32)).bind fun r231 => (if r231.1 = (0 : Int32) then some ((0 : Int32), (H0 s r231.2)) else (loopN (B0_109 s x1 (if (200 : Int32) < w0 then (200 : Int32) else w0)) qN ((0 : Int32), (0 : Int32), (0 : Int32), r231.2)).bind fun e348 => some e348)
theorem tJ0_72 (Ad : QAd n0 ad) (W : QW Z a0) (s : List Int32) (p0 : Ob) (x1 : Int32) (w0 : Int32) {r : Int32 × QHeap} (h : J0_72 s p0 x1 w0 = some r) : QTri l Z n0 ad 0 (72, [vR 0, vI x1, vR 1, none, none, none, none, none, none, none, none], [.int w0], (H0 s p0)) (some (Value.int r.1)) r.2 := by
 unfold J0_72 at h
 refine zS Ad W 3 (st' := (77, [vR 0, vI x1, vR 1, vI w0, none, none, none, none, none, none, none], [.int (200:Int32), .int w0], (H0 s p0))) rfl ?_
 have K79 : ∀ z78 : Int32, z78 = (if (200:Int32) < w0 then (200:Int32) else w0) → QTri l Z n0 ad 0 (84, [vR 0, vI x1, vR 1, vI z78, none, none, none, none, none, none, none], [], (H0 s p0)) (some (Value.int r.1)) r.2 := by
  intro z78 ez78
  subst ez78
  refine zS Ad W 4 (st' := (90, [vR 0, vI x1, vR 1, vI (if (200:Int32) < w0 then (200:Int32) else w0), vI (0:Int32), vI (0:Int32), none, none, none, none, none], [], (H0 s p0))) rfl ?_
  refine zS Ad W 6 (st' := (98, [vR 0, vI x1, vR 1, vI (if (200:Int32) < w0 then (200:Int32) else w0), vI (0:Int32), vI (0:Int32), none, none, none, none, none], [.int (0:Int32), .int (-1:Int32), .int (0:Int32), .int x1, .ref 0, .ref 1], (H0 s p0))) rfl ?_
  obtain ⟨r231, hr231, h⟩ := bind_eq_some_iff.mp h
  refine QTri.callS W (as := [.ref 1, .ref 0, .int x1, .int (0:Int32), .int (-1:Int32), .int (0:Int32)]) (rest := []) (w := (some (.int r231.1))) (σ₁ := (H0 s r231.2)) rfl rfl rfl rfl rfl rfl rfl (tF12 Ad W s p0 x1 (0:Int32) (-1:Int32) (0:Int32) hr231) ?_
  rcases qite h with ⟨hc232, h⟩ | ⟨hc232, h⟩
  ·refine zF Ad W (t := 106) (f := 104) rfl (XT.i0_ne_f hc232) ?_
   refine zS Ad W 1 (st' := (105, [vR 0, vI x1, vR 1, vI (if (200:Int32) < w0 then (200:Int32) else w0), vI (0:Int32), vI (0:Int32), none, none, none, none, none], [.int (0:Int32)], (H0 s r231.2))) rfl ?_
   obtain rfl := Option.some.inj h
   exact QTri.retZ rfl rfl
  ·refine zT Ad W (t := 106) (f := 104) rfl (XT.i0_ne_t hc232) ?_
   refine zS Ad W 2 (st' := (109, [vR 0, vI x1, vR 1, vI (if (200:Int32) < w0 then (200:Int32) else w0), vI (0:Int32), vI (0:Int32), vI (0:Int32), none, none, none, none], [], (H0 s r231.2))) rfl ?_
   obtain ⟨e348, he348, h⟩ := bind_eq_some_iff.mp h
   refine zM [tt,tt,tt,tt,tt,tt,tt,ff,ff,ff,ff] (loopN_tri (B := B0_109 s x1 (if (200:Int32) < w0 then (200:Int32) else w0)) (T := fun lv349 => QTri l Z n0 ad 0 (109, [vR 0, vI x1, vR 1, vI (if (200:Int32) < w0 then (200:Int32) else w0), vI lv349.1, vI lv349.2.1, vI lv349.2.2.1, none, none, none, none], [], (H0 s lv349.2.2.2)) (some (Value.int r.1)) r.2) (KE := fun e348a => (some (Value.int r.1)) = (some (Value.int e348a.1)) ∧ r.2 = e348a.2) (fun lv349 r hB hE hC => tB0_109 Ad W s x1 (if (200:Int32) < w0 then (200:Int32) else w0) lv349 hB (fun x q => hE _ q) (fun x q => hC x q)) qN ((0:Int32), (0:Int32), (0:Int32), r231.2) e348 he348 ?_)
   obtain rfl := Option.some.inj h
   exact ⟨rfl, rfl⟩
 rcases em ((200:Int32) < w0) with hc80 | hc80
 ·refine zF Ad W (t := 84) (f := 80) rfl (XT.ii_le_f hc80) ?_
  refine zS Ad W 2 (st' := (84, [vR 0, vI x1, vR 1, vI (200:Int32), none, none, none, none, none, none, none], [], (H0 s p0))) rfl ?_
  exact zM [tt,tt,tt,tt,ff,ff,ff,ff,ff,ff,ff] (K79 _ (if_pos hc80).symm)
 ·refine zT Ad W (t := 84) (f := 80) rfl (XT.ii_le_t hc80) ?_
  exact zM [tt,tt,tt,tt,ff,ff,ff,ff,ff,ff,ff] (K79 _ (if_neg hc80).symm)
/-- the law -/
def F0 (s : List Int32) : Option (Int32 × QHeap) :=
 (F1 s (0:Int32)).bind fun r3 => (F2 ((1:Int32) + (r3 &&& (3:Int32)))).bind fun r53 => ((loopN (B0_21 s ((1:Int32) + (r3 &&& (3:Int32)))) qN ((0:Int32), r53)).bind fun e74 => match e74 with | .inl e74a => (if (9:Int32) < (s.length.toInt32) then (J0_72 s e74a ((1:Int32) + (r3 &&& (3:Int32))) ((((s.length.toInt32) - (9:Int32)) + (4:Int32)) / (5:Int32))) else (J0_72 s e74a ((1:Int32) + (r3 &&& (3:Int32))) (0:Int32))) | .inr e74a => some e74a)
theorem tF0 (Ad : QAd n0 ad) (W : QW Z a0) (s : List Int32) {r : Int32 × QHeap} (h : F0 s = some r) : QTri l Z n0 ad 0 (0, qentry [.ref 0] (pMaxL 0), [], [.inr (.inl (.int, s))]) (some (Value.int r.1)) r.2 := by
 unfold F0 at h
 refine zS Ad W 3 (st' := (3, [vR 0, none, none, none, none, none, none, none, none, none, none], [.int (0:Int32), .ref 0, .int (1:Int32)], [.inr (.inl (.int, s))])) rfl ?_
 obtain ⟨r3, hr3, h⟩ := bind_eq_some_iff.mp h
 refine QTri.callS W (as := [.ref 0, .int (0:Int32)]) (rest := [.int (1:Int32)]) (w := (some (.int r3))) (σ₁ := [.inr (.inl (.int, s))]) rfl rfl rfl rfl rfl rfl rfl (tF1 Ad W s (0:Int32) hr3) ?_
 refine zS Ad W 5 (st' := (13, [vR 0, vI ((1:Int32) + (r3 &&& (3:Int32))), none, none, none, none, none, none, none, none, none], [.ref 1], [.inr (.inl (.int, s)), .inl [.int (f_regTuple ob0), .int (f_regA ob0), .int (f_regB ob0), .int (f_regC ob0), .int (f_regCount ob0), .int (f_slots ob0), .null, .null, .null, .null, .null, .null, .null, .null, .null, .int (f_capacity ob0), .int (f_queries ob0), .int (f_n ob0)]])) rfl ?_
 refine zS Ad W 2 (st' := (15, [vR 0, vI ((1:Int32) + (r3 &&& (3:Int32))), none, none, none, none, none, none, none, none, none], [.int ((1:Int32) + (r3 &&& (3:Int32))), .ref 1, .ref 1], [.inr (.inl (.int, s)), .inl [.int (f_regTuple ob0), .int (f_regA ob0), .int (f_regB ob0), .int (f_regC ob0), .int (f_regCount ob0), .int (f_slots ob0), .null, .null, .null, .null, .null, .null, .null, .null, .null, .int (f_capacity ob0), .int (f_queries ob0), .int (f_n ob0)]])) rfl ?_
 obtain ⟨r53, hr53, h⟩ := bind_eq_some_iff.mp h
 refine QTri.callI W (a := 1) (as := [.int ((1:Int32) + (r3 &&& (3:Int32)))]) (rest := [.ref 1]) (σ₁ := (H0 s r53)) rfl rfl rfl rfl rfl rfl (tF2 Ad W s ((1:Int32) + (r3 &&& (3:Int32))) hr53) ?_
 refine zS Ad W 3 (st' := (21, [vR 0, vI ((1:Int32) + (r3 &&& (3:Int32))), vR 1, vI (0:Int32), none, none, none, none, none, none, none], [], (H0 s r53))) rfl ?_
 obtain ⟨e74, he74, h⟩ := bind_eq_some_iff.mp h
 refine zM [tt,tt,tt,tt,ff,ff,ff,ff,ff,ff,ff] (loopN_tri (B := B0_21 s ((1:Int32) + (r3 &&& (3:Int32)))) (T := fun lv75 => QTri l Z n0 ad 0 (21, [vR 0, vI ((1:Int32) + (r3 &&& (3:Int32))), vR 1, vI lv75.1, none, none, none, none, none, none, none], [], (H0 s lv75.2)) (some (Value.int r.1)) r.2) (KE := fun e => match e with | .inl e74a => QTri l Z n0 ad 0 (52, [vR 0, vI ((1:Int32) + (r3 &&& (3:Int32))), vR 1, none, none, none, none, none, none, none, none], [], (H0 s e74a)) (some (Value.int r.1)) r.2 | .inr e74a => (some (Value.int r.1)) = (some (Value.int e74a.1)) ∧ r.2 = e74a.2) (fun lv75 r hB hE hC => tB0_21 Ad W s ((1:Int32) + (r3 &&& (3:Int32))) lv75 hB (fun x q => hE _ q) (fun x q => hE _ q) (fun x q => hC x q)) qN ((0:Int32), r53) e74 he74 ?_)
 rcases e74 with e74a | e74a
 ·refine zS Ad W 3 (st' := (56, [vR 0, vI ((1:Int32) + (r3 &&& (3:Int32))), vR 1, none, none, none, none, none, none, none, none], [.int (9:Int32), .int (s.length.toInt32)], (H0 s e74a))) rfl ?_
  rcases qite h with ⟨hc76, h⟩ | ⟨hc76, h⟩
  ·refine zF Ad W (t := 71) (f := 59) rfl (XT.ii_le_f hc76) ?_
   refine zS Ad W 9 (st' := (72, [vR 0, vI ((1:Int32) + (r3 &&& (3:Int32))), vR 1, none, none, none, none, none, none, none, none], [.int ((((s.length.toInt32) - (9:Int32)) + (4:Int32)) / (5:Int32))], (H0 s e74a))) rfl ?_
   exact zM [tt,tt,tt,ff,ff,ff,ff,ff,ff,ff,ff] (tJ0_72 Ad W s e74a ((1:Int32) + (r3 &&& (3:Int32))) ((((s.length.toInt32) - (9:Int32)) + (4:Int32)) / (5:Int32)) h)
  ·refine zT Ad W (t := 71) (f := 59) rfl (XT.ii_le_t hc76) ?_
   refine zS Ad W 1 (st' := (72, [vR 0, vI ((1:Int32) + (r3 &&& (3:Int32))), vR 1, none, none, none, none, none, none, none, none], [.int (0:Int32)], (H0 s e74a))) rfl ?_
   exact zM [tt,tt,tt,ff,ff,ff,ff,ff,ff,ff,ff] (tJ0_72 Ad W s e74a ((1:Int32) + (r3 &&& (3:Int32))) (0:Int32) h)
 ·obtain rfl := Option.some.inj h
  exact ⟨rfl, rfl⟩
end Walks
theorem script_ok {s : State} {w : Value} (hfit : Fit s) (h1 : (Jvm.Cond.arrayOf (Jvm.Term.arg 0) Jvm.ClassFile.FieldType.int).value #[w] s none s [] = some true) (h2 : (Jvm.Cond.le (Jvm.Term.length (Jvm.Term.arg 0)) (Jvm.Term.int 260)).value #[w] s none s [] = some true) :
    ∃ (a : Addr) (c : Cell) (xs : List Int32), w = .ref a ∧ Arr s s.heap a c .int ∧ c.slots = (xs.map Value.int).toArray ∧ xs.length ≤ 260 := by
  obtain ⟨a, ha⟩ := arr_v h1
  obtain ⟨c, A⟩ := Arr.start ha h1
  have hw : w = .ref a := by simpa [Term.eval] using ha
  subst hw
  have hel : ∀ i, i < c.slots.size → ∃ x, c.slots[i]? = some (.int x) := fun i hi => by
    have q := hfit A.1 hi
    obtain ⟨hs, k, hk, comp, hkind⟩ := A.2.1
    have e : s.slotType? c.cls c.vm i = some .int := by
      cases hq : c.vm <;> first | exact absurd hq (hs _) | simp [State.slotType?, hk, hkind]
    have q2 : fits .int c.slots[i] = true := by simpa [State.fitsSlot, e] using q
    obtain ⟨x, hx⟩ := fit_I q2 (Or.inl rfl)
    exact ⟨x, by rw [Array.getElem?_eq_getElem hi, hx]⟩
  refine ⟨a, c, c.slots.toList.map (fun v => match v with | .int x => x | _ => 0), rfl, A, ?_, ?_⟩
  · apply Array.ext'
    rw [List.map_map]
    have : c.slots.toList.map (Value.int ∘ fun v => match v with | .int x => x | _ => 0) = c.slots.toList := by
      conv => rhs; rw [← List.map_id c.slots.toList]
      refine List.map_congr_left fun v hv => ?_
      obtain ⟨i, hi⟩ := List.mem_iff_getElem?.mp hv
      rw [Array.getElem?_toList] at hi
      obtain ⟨x, hx⟩ := hel i (Array.getElem?_eq_some_iff.mp hi).1
      rw [hi] at hx
      cases hx
      rfl
    exact this.symm
  · have hl := A.fin (Vm.Alike.refl _)
    simp only [List.length_map, Array.length_toList]
    simp only [Cond.value, Term.eval] at h2
    simp [hl] at h2
    by_cases hs : c.slots.size < 2147483648
    · rw [if_pos hs] at h2
      have h3 : c.slots.size.toInt32 ≤ 260 := by simpa using h2
      rw [Int32.le_iff_toInt_le] at h3
      have h4 : (c.slots.size.toInt32).toInt = c.slots.size := Int32.toInt_ofNat_of_lt (by omega)
      rw [h4] at h3
      have h5 : (260 : Int32).toInt = 260 := rfl
      rw [h5] at h3
      omega
    · rw [if_neg hs] at h2
      simp at h2
set_option maxHeartbeats 4000000
theorem i_lt {x y : Int32} : x < y ↔ x.toInt < y.toInt := Int32.lt_iff_toInt_lt
theorem i_eq {x y : Int32} : x = y ↔ x.toInt = y.toInt := Int32.toInt_inj.symm
theorem i_lo (x : Int32) : -2147483648 ≤ x.toInt := Int32.le_toInt x
theorem i_hi (x : Int32) : x.toInt < 2147483648 := Int32.toInt_lt x
theorem i_add {x y : Int32} (h1 : -2147483648 ≤ x.toInt + y.toInt) (h2 : x.toInt + y.toInt < 2147483648) : (x + y).toInt = x.toInt + y.toInt := XT.add32 ⟨h1, by omega⟩
theorem i_sub {x y : Int32} (h1 : -2147483648 ≤ x.toInt - y.toInt) (h2 : x.toInt - y.toInt < 2147483648) : (x - y).toInt = x.toInt - y.toInt := XT.sub32 ⟨h1, by omega⟩
theorem i_mul {x y : Int32} (h1 : -2147483648 ≤ x.toInt * y.toInt) (h2 : x.toInt * y.toInt < 2147483648) : (x * y).toInt = x.toInt * y.toInt := XT.mul32 ⟨h1, by omega⟩
theorem i_nat (x : Int32) : x.toNatClampNeg = x.toInt.toNat := rfl
theorem aget_at {α : Type} {xs : List α} {j : Int32} {n : Nat} (hj : j.toInt = n) (hn : n < xs.length) : aget xs j = some xs[n] := by
 have h0 : ¬ j < 0 := by rw [i_lt]; show ¬ j.toInt < 0; omega
 unfold aget
 rw [if_neg h0, i_nat, hj]
 simp [hn]
theorem aget_rep {α : Type} {m : Nat} {a : α} {j : Int32} (h0 : 0 ≤ j.toInt) (h1 : j.toInt < m) : aget (List.replicate m a) j = some a := by
 rw [aget_at (n := j.toInt.toNat) (by omega) (by rw [List.length_replicate]; omega)]
 simp
theorem aset_at {α : Type} {xs : List α} {j : Int32} {n : Nat} {v : α} (hj : j.toInt = n) (hn : n < xs.length) : aset xs j v = some (xs.set n v) := by
 have h0 : ¬ j < 0 := by rw [i_lt]; show ¬ j.toInt < 0; omega
 unfold aset
 have e : j.toNatClampNeg = n := by rw [i_nat, hj]; simp
 rw [if_neg h0, e, if_pos hn]
theorem rep_set {α : Type} (m k : Nat) (a : α) : (List.replicate m a).set k a = List.replicate m a := by
 apply List.ext_getElem (by simp)
 intro i h1 h2
 rw [List.getElem_set]
 split <;> simp
theorem small_cases {x : Int32} (h0 : 0 ≤ x.toInt) {n : Nat} (h1 : x.toInt < n) {P : Int32 → Prop} (h : ∀ m : Nat, m < n → P (Int32.ofInt m)) : P x := by
 have e : Int32.ofInt (x.toInt.toNat : Nat) = x := by
  rw [Int.toNat_of_nonneg h0, Int32.ofInt_toInt]
 rw [← e]
 exact h _ (by omega)
theorem bit_ne {x : Int32} (h0 : 0 ≤ x.toInt) (h1 : x.toInt < 32) : ¬ (((1 : Int32) <<< (x &&& 31)) &&& ((1 : Int32) <<< (x &&& 31))) = 0 :=
 small_cases (P := fun x => ¬ (((1 : Int32) <<< (x &&& 31)) &&& ((1 : Int32) <<< (x &&& 31))) = 0) h0 (n := 32) h1 (by decide)
def okP {α : Type} (m : Option α) (P : α → Prop) : Prop := ∃ a, m = some a ∧ P a
theorem okP.some {α : Type} {a : α} {P : α → Prop} (h : P a) : okP (some a) P := ⟨a, rfl, h⟩
theorem okP.bind {α β : Type} {m : Option α} {f : α → Option β} {P : β → Prop} (h : okP m fun a => okP (f a) P) : okP (m.bind f) P := by
 obtain ⟨a, e, b, e2, h2⟩ := h
 exact ⟨b, by rw [e]; exact e2, h2⟩
theorem okP.ite {α : Type} {c : Prop} [Decidable c] {a b : Option α} {P : α → Prop} (h1 : c → okP a P) (h2 : ¬ c → okP b P) : okP (if c then a else b) P := by
 by_cases h : c
 ·rw [if_pos h]; exact h1 h
 ·rw [if_neg h]; exact h2 h
theorem okP.mono {α : Type} {m : Option α} {P Q : α → Prop} (h : okP m P) (k : ∀ a, P a → Q a) : okP m Q := by
 obtain ⟨a, e, h⟩ := h
 exact ⟨a, e, k a h⟩
theorem okP.of {α : Type} {m : Option α} {a : α} {P : α → Prop} (e : m = Option.some a) (h : P a) : okP m P := ⟨a, e, h⟩
theorem okP.aget {α : Type} {xs : List α} {j : Int32} {P : α → Prop} (h0 : 0 ≤ j.toInt) (h1 : j.toInt < xs.length) (k : ∀ v, xs[j.toInt.toNat]? = Option.some v → P v) : okP (aget xs j) P :=
 ⟨_, aget_at (n := j.toInt.toNat) (by omega) (by omega), k _ (List.getElem?_eq_getElem _)⟩
theorem okP.aset {α : Type} {xs : List α} {j : Int32} {v : α} {P : List α → Prop} (h0 : 0 ≤ j.toInt) (h1 : j.toInt < xs.length) (k : P (xs.set j.toInt.toNat v)) : okP (aset xs j v) P :=
 ⟨_, aset_at (n := j.toInt.toNat) (by omega) (by omega), k⟩
theorem okP.loop {V E : Type} {B : V → Option (E ⊕ V)} {P : E → Prop} {n : Nat} {v : V} (I : V → Prop) (μ : V → Nat) (hv : I v) (hm : μ v < n) (hB : ∀ v, I v → okP (B v) (fun r => Sum.elim P (fun v' => I v' ∧ μ v' < μ v) r)) : okP (loopN B n v) P := by
 refine loopN_inv I P μ ?_ n v hv hm
 intro v hv
 obtain ⟨r, e, h⟩ := hB v hv
 cases r with
 | inl x => exact Or.inl ⟨x, e, h⟩
 | inr x => exact Or.inr ⟨x, e, h⟩
theorem len_i {n : Nat} (h : n ≤ 1000) : (n.toInt32).toInt = n := by
 have e : n.toInt32 = Int32.ofInt n := rfl
 rw [e, Int32.toInt_ofInt_of_le (by show _ ≤ (n : Int); omega) (by show (n : Int) < _; omega)]
theorem and1 (x : Int32) : x &&& 1 = 0 ∨ x &&& 1 = 1 := by
 have e : (x &&& 1).toBitVec = x.toBitVec &&& 1#32 := rfl
 have h := BitVec.and_one_eq_setWidth_ofBool_getLsbD (x := x.toBitVec)
 cases g : x.toBitVec.getLsbD 0
 ·left; apply Int32.toBitVec_inj.1; rw [e, h, g]; rfl
 ·right; apply Int32.toBitVec_inj.1; rw [e, h, g]; rfl
theorem okP.not {α : Type} {m : Option α} {a : α} {P : α → Prop} (h : okP m P) (e : m = Option.some a) : P a := by
 obtain ⟨b, e2, h⟩ := h
 rw [e] at e2
 exact (Option.some.inj e2) ▸ h
theorem and_rng {x m : Int32} (hm : 0 ≤ m.toInt) : 0 ≤ (x &&& m).toInt ∧ (x &&& m).toInt ≤ m.toInt := by
 have e : (x &&& m).toBitVec.toNat = x.toBitVec.toNat &&& m.toBitVec.toNat := BitVec.toNat_and ..
 have l : (x &&& m).toBitVec.toNat ≤ m.toBitVec.toNat := by rw [e]; exact Nat.and_le_right
 have c1 : m.toInt = if 2 * m.toBitVec.toNat < 2 ^ 32 then (m.toBitVec.toNat : Int) else m.toBitVec.toNat - (2 ^ 32 : Nat) := BitVec.toInt_eq_toNat_cond m.toBitVec
 have c2 : (x &&& m).toInt = if 2 * (x &&& m).toBitVec.toNat < 2 ^ 32 then ((x &&& m).toBitVec.toNat : Int) else (x &&& m).toBitVec.toNat - (2 ^ 32 : Nat) := BitVec.toInt_eq_toNat_cond (x &&& m).toBitVec
 have b : m.toBitVec.toNat < 2 ^ 32 := m.toBitVec.isLt
 by_cases h : 2 * m.toBitVec.toNat < 2 ^ 32
 ·rw [if_pos h] at c1
  rw [if_pos (by omega)] at c2
  omega
 ·rw [if_neg h] at c1
  omega
theorem mod_rng {x m : Int32} (hx : 0 ≤ x.toInt) (hm : 0 < m.toInt) : 0 ≤ (x % m).toInt ∧ (x % m).toInt < m.toInt := by
 rw [Int32.toInt_mod, Int.tmod_eq_emod_of_nonneg hx]
 exact ⟨Int.emod_nonneg _ (by omega), Int.emod_lt_of_pos _ hm⟩
def sFit (s : List Int32) (τ : QHeap) : Prop := τ.length - List.length ([Sum.inr (Sum.inl (FieldType.int, s))] : QHeap) ≤ room_1.cells ∧ qhs τ - qhs [Sum.inr (Sum.inl (FieldType.int, s))] ≤ room_1.slots
def Sh (C : Int32) (R : List Int32) (S : List Int32) (n : Int32) (q : Int32) (o : Ob) : Prop := (f_frontSize o).length = 4 ∧ (f_backSize o).length = 4 ∧ (f_backElem o).length = 512 ∧ (f_frontAgg o).length = 512 ∧ (f_backAgg o).length = 16 ∧ (f_snap o).length = 16 ∧ (f_reg o).length = 16 ∧ f_range o = R ∧ f_slide o = S ∧ f_n o = n ∧ f_queries o = q ∧ f_capacity o = C
theorem Sh_regTuple {C : Int32} {R : List Int32} {S : List Int32} {n : Int32} {q : Int32} {o : Ob} {x : Int32} (h : Sh C R S n q o) : Sh C R S n q (s_regTuple o x) := by
 dsimp only [Sh, f_range, f_slide, f_frontSize, f_backSize, f_backElem, f_frontAgg, f_backAgg, f_snap, f_reg, f_capacity, f_queries, f_n, s_regTuple] at h ⊢
 exact h
theorem Sh_regA {C : Int32} {R : List Int32} {S : List Int32} {n : Int32} {q : Int32} {o : Ob} {x : Int32} (h : Sh C R S n q o) : Sh C R S n q (s_regA o x) := by
 dsimp only [Sh, f_range, f_slide, f_frontSize, f_backSize, f_backElem, f_frontAgg, f_backAgg, f_snap, f_reg, f_capacity, f_queries, f_n, s_regA] at h ⊢
 exact h
theorem Sh_regB {C : Int32} {R : List Int32} {S : List Int32} {n : Int32} {q : Int32} {o : Ob} {x : Int32} (h : Sh C R S n q o) : Sh C R S n q (s_regB o x) := by
 dsimp only [Sh, f_range, f_slide, f_frontSize, f_backSize, f_backElem, f_frontAgg, f_backAgg, f_snap, f_reg, f_capacity, f_queries, f_n, s_regB] at h ⊢
 exact h
theorem Sh_regC {C : Int32} {R : List Int32} {S : List Int32} {n : Int32} {q : Int32} {o : Ob} {x : Int32} (h : Sh C R S n q o) : Sh C R S n q (s_regC o x) := by
 dsimp only [Sh, f_range, f_slide, f_frontSize, f_backSize, f_backElem, f_frontAgg, f_backAgg, f_snap, f_reg, f_capacity, f_queries, f_n, s_regC] at h ⊢
 exact h
theorem Sh_regCount {C : Int32} {R : List Int32} {S : List Int32} {n : Int32} {q : Int32} {o : Ob} {x : Int32} (h : Sh C R S n q o) : Sh C R S n q (s_regCount o x) := by
 dsimp only [Sh, f_range, f_slide, f_frontSize, f_backSize, f_backElem, f_frontAgg, f_backAgg, f_snap, f_reg, f_capacity, f_queries, f_n, s_regCount] at h ⊢
 exact h
theorem Sh_slots {C : Int32} {R : List Int32} {S : List Int32} {n : Int32} {q : Int32} {o : Ob} {x : Int32} (h : Sh C R S n q o) : Sh C R S n q (s_slots o x) := by
 dsimp only [Sh, f_range, f_slide, f_frontSize, f_backSize, f_backElem, f_frontAgg, f_backAgg, f_snap, f_reg, f_capacity, f_queries, f_n, s_slots] at h ⊢
 exact h
theorem Sh_frontSize {C : Int32} {R : List Int32} {S : List Int32} {n : Int32} {q : Int32} {o : Ob} {x : List Int32} (h : Sh C R S n q o) (hx : x.length = 4) : Sh C R S n q (s_frontSize o x) := by
 dsimp only [Sh, f_range, f_slide, f_frontSize, f_backSize, f_backElem, f_frontAgg, f_backAgg, f_snap, f_reg, f_capacity, f_queries, f_n, s_frontSize] at h ⊢
 exact ⟨hx, h.2.1, h.2.2.1, h.2.2.2.1, h.2.2.2.2.1, h.2.2.2.2.2.1, h.2.2.2.2.2.2.1, h.2.2.2.2.2.2.2⟩
theorem Sh_l_frontSize {C : Int32} {R : List Int32} {S : List Int32} {n : Int32} {q : Int32} {o : Ob} (h : Sh C R S n q o) : (f_frontSize o).length = 4 := h.1
theorem Sh_backSize {C : Int32} {R : List Int32} {S : List Int32} {n : Int32} {q : Int32} {o : Ob} {x : List Int32} (h : Sh C R S n q o) (hx : x.length = 4) : Sh C R S n q (s_backSize o x) := by
 dsimp only [Sh, f_range, f_slide, f_frontSize, f_backSize, f_backElem, f_frontAgg, f_backAgg, f_snap, f_reg, f_capacity, f_queries, f_n, s_backSize] at h ⊢
 exact ⟨h.1, hx, h.2.2.1, h.2.2.2.1, h.2.2.2.2.1, h.2.2.2.2.2.1, h.2.2.2.2.2.2.1, h.2.2.2.2.2.2.2⟩
theorem Sh_l_backSize {C : Int32} {R : List Int32} {S : List Int32} {n : Int32} {q : Int32} {o : Ob} (h : Sh C R S n q o) : (f_backSize o).length = 4 := h.2.1
theorem Sh_backElem {C : Int32} {R : List Int32} {S : List Int32} {n : Int32} {q : Int32} {o : Ob} {x : List Int32} (h : Sh C R S n q o) (hx : x.length = 512) : Sh C R S n q (s_backElem o x) := by
 dsimp only [Sh, f_range, f_slide, f_frontSize, f_backSize, f_backElem, f_frontAgg, f_backAgg, f_snap, f_reg, f_capacity, f_queries, f_n, s_backElem] at h ⊢
 exact ⟨h.1, h.2.1, hx, h.2.2.2.1, h.2.2.2.2.1, h.2.2.2.2.2.1, h.2.2.2.2.2.2.1, h.2.2.2.2.2.2.2⟩
theorem Sh_l_backElem {C : Int32} {R : List Int32} {S : List Int32} {n : Int32} {q : Int32} {o : Ob} (h : Sh C R S n q o) : (f_backElem o).length = 512 := h.2.2.1
theorem Sh_frontAgg {C : Int32} {R : List Int32} {S : List Int32} {n : Int32} {q : Int32} {o : Ob} {x : List Int32} (h : Sh C R S n q o) (hx : x.length = 512) : Sh C R S n q (s_frontAgg o x) := by
 dsimp only [Sh, f_range, f_slide, f_frontSize, f_backSize, f_backElem, f_frontAgg, f_backAgg, f_snap, f_reg, f_capacity, f_queries, f_n, s_frontAgg] at h ⊢
 exact ⟨h.1, h.2.1, h.2.2.1, hx, h.2.2.2.2.1, h.2.2.2.2.2.1, h.2.2.2.2.2.2.1, h.2.2.2.2.2.2.2⟩
theorem Sh_l_frontAgg {C : Int32} {R : List Int32} {S : List Int32} {n : Int32} {q : Int32} {o : Ob} (h : Sh C R S n q o) : (f_frontAgg o).length = 512 := h.2.2.2.1
theorem Sh_backAgg {C : Int32} {R : List Int32} {S : List Int32} {n : Int32} {q : Int32} {o : Ob} {x : List Int32} (h : Sh C R S n q o) (hx : x.length = 16) : Sh C R S n q (s_backAgg o x) := by
 dsimp only [Sh, f_range, f_slide, f_frontSize, f_backSize, f_backElem, f_frontAgg, f_backAgg, f_snap, f_reg, f_capacity, f_queries, f_n, s_backAgg] at h ⊢
 exact ⟨h.1, h.2.1, h.2.2.1, h.2.2.2.1, hx, h.2.2.2.2.2.1, h.2.2.2.2.2.2.1, h.2.2.2.2.2.2.2⟩
theorem Sh_l_backAgg {C : Int32} {R : List Int32} {S : List Int32} {n : Int32} {q : Int32} {o : Ob} (h : Sh C R S n q o) : (f_backAgg o).length = 16 := h.2.2.2.2.1
theorem Sh_snap {C : Int32} {R : List Int32} {S : List Int32} {n : Int32} {q : Int32} {o : Ob} {x : List Int32} (h : Sh C R S n q o) (hx : x.length = 16) : Sh C R S n q (s_snap o x) := by
 dsimp only [Sh, f_range, f_slide, f_frontSize, f_backSize, f_backElem, f_frontAgg, f_backAgg, f_snap, f_reg, f_capacity, f_queries, f_n, s_snap] at h ⊢
 exact ⟨h.1, h.2.1, h.2.2.1, h.2.2.2.1, h.2.2.2.2.1, hx, h.2.2.2.2.2.2.1, h.2.2.2.2.2.2.2⟩
theorem Sh_l_snap {C : Int32} {R : List Int32} {S : List Int32} {n : Int32} {q : Int32} {o : Ob} (h : Sh C R S n q o) : (f_snap o).length = 16 := h.2.2.2.2.2.1
theorem Sh_reg {C : Int32} {R : List Int32} {S : List Int32} {n : Int32} {q : Int32} {o : Ob} {x : List Int32} (h : Sh C R S n q o) (hx : x.length = 16) : Sh C R S n q (s_reg o x) := by
 dsimp only [Sh, f_range, f_slide, f_frontSize, f_backSize, f_backElem, f_frontAgg, f_backAgg, f_snap, f_reg, f_capacity, f_queries, f_n, s_reg] at h ⊢
 exact ⟨h.1, h.2.1, h.2.2.1, h.2.2.2.1, h.2.2.2.2.1, h.2.2.2.2.2.1, hx, h.2.2.2.2.2.2.2⟩
theorem Sh_l_reg {C : Int32} {R : List Int32} {S : List Int32} {n : Int32} {q : Int32} {o : Ob} (h : Sh C R S n q o) : (f_reg o).length = 16 := h.2.2.2.2.2.2.1
theorem Sh_R {C : Int32} {R S : List Int32} {n q : Int32} {o : Ob} (h : Sh C R S n q o) : f_range o = R := h.2.2.2.2.2.2.2.1
theorem Sh_S {C : Int32} {R S : List Int32} {n q : Int32} {o : Ob} (h : Sh C R S n q o) : f_slide o = S := h.2.2.2.2.2.2.2.2.1
theorem Sh_N {C : Int32} {R S : List Int32} {n q : Int32} {o : Ob} (h : Sh C R S n q o) : f_n o = n := h.2.2.2.2.2.2.2.2.2.1
theorem Sh_Q {C : Int32} {R S : List Int32} {n q : Int32} {o : Ob} (h : Sh C R S n q o) : f_queries o = q := h.2.2.2.2.2.2.2.2.2.2.1
theorem Sh_C {C : Int32} {R S : List Int32} {n q : Int32} {o : Ob} (h : Sh C R S n q o) : f_capacity o = C := h.2.2.2.2.2.2.2.2.2.2.2
theorem inc1 {x : Int32} (h : x.toInt < 2147483647) : (x + 1).toInt = x.toInt + 1 := by
 have := i_lo x
 have e1 : (1 : Int32).toInt = 1 := rfl
 rw [i_add (by omega) (by omega), e1]
theorem z4' : (4 : Int32).toInt = 4 := rfl
theorem m4 {x : Int32} (h0 : 0 ≤ x.toInt) (h : x.toInt < 1000) : (x * 4).toInt = x.toInt * 4 := i_mul (x := x) (y := 4) (by show _ ≤ x.toInt * 4; omega) (by show x.toInt * 4 < _; omega)
theorem vreg (x : Int32) : okP (F6 x) (fun r => r = 0 ∨ (r ≠ 0 ∧ 0 ≤ x.toInt ∧ x.toInt < 4)) := by
 unfold F6
 have z0 : (0 : Int32).toInt = 0 := rfl
 apply okP.ite <;> intro a
 ·exact okP.some (Or.inl rfl)
 apply okP.ite <;> intro b
 ·rw [i_lt, z0] at a
  rw [i_lt, z4'] at b
  exact okP.some (Or.inr ⟨by decide, by omega, b⟩)
 ·exact okP.some (Or.inl rfl)
theorem slotI {x y : Int32} (s0 : 0 ≤ x.toInt) (s4 : x.toInt < 4) (t0 : 0 ≤ y.toInt) (t4 : y.toInt < 32) : ((x * 32 + y) * 4).toInt = (x.toInt * 32 + y.toInt) * 4 := by
 have e : (x * 32).toInt = x.toInt * 32 := i_mul (x := x) (y := 32) (by show _ ≤ x.toInt * 32; omega) (by show x.toInt * 32 < _; omega)
 have e2 : (x * 32 + y).toInt = x.toInt * 32 + y.toInt := by rw [i_add (by omega) (by omega), e]
 rw [m4 (by omega) (by omega), e2]
theorem copy4 {src dst : Ob → List Int32} {upd : Ob → List Int32 → Ob} (h1 : ∀ o z, src (upd o z) = src o) (h2 : ∀ o z, dst (upd o z) = z) (h3 : ∀ o z z', upd (upd o z) z' = upd o z') (h4 : ∀ o, upd o (dst o) = o) {B : Int32 × Ob → Option (Ob ⊕ (Int32 × Ob))} {u w : Int32} (hB : ∀ v : Int32 × Ob, B v = (if v.1 < 4 then (aget (src v.2) (u + v.1)).bind fun y => (aset (dst v.2) (w + v.1) y).bind fun z => some (.inr (v.1 + 1, upd v.2 z)) else some (.inl v.2))) {o : Ob} {U V : Nat} (hu : u.toInt = U) (hw : w.toInt = V) (lu : U + 4 ≤ (src o).length) (lw : V + 4 ≤ (dst o).length) (su : U ≤ 2000) (sv : V ≤ 2000) : okP (loopN B qN (0, o)) (fun p => ∃ R, p = upd o R ∧ R.length = (dst o).length ∧ ∀ k, R[k]? = if V ≤ k ∧ k < V + 4 then (src o)[U + (k - V)]? else (dst o)[k]?) := by
 refine okP.loop (fun x => 0 ≤ x.1.toInt ∧ x.1.toInt ≤ 4 ∧ ∃ R, x.2 = upd o R ∧ R.length = (dst o).length ∧ ∀ k, R[k]? = if V ≤ k ∧ k < V + x.1.toInt.toNat then (src o)[U + (k - V)]? else (dst o)[k]?) (fun x => (4 - x.1.toInt).toNat) ⟨by show (0 : Int) ≤ 0; decide, by show (0 : Int) ≤ 4; decide, dst o, (h4 o).symm, rfl, fun k => by rw [if_neg (by show ¬ (V ≤ k ∧ k < V + 0); omega)]⟩ (by show (4 - (0 : Int)).toNat < 4000; decide) ?_
 rintro ⟨i, p⟩ ⟨a1, a2, R, a3, a4, a5⟩
 simp only at a1 a2 a3 a5
 subst a3
 rw [hB]
 simp only
 apply okP.ite <;> intro c
 ·rw [i_lt, z4'] at c
  have e2 : (i + 1).toInt = i.toInt + 1 := inc1 (by omega)
  have en : (i + 1).toInt.toNat = i.toInt.toNat + 1 := by omega
  have i1 : (u + i).toInt = u.toInt + i.toInt := i_add (by omega) (by omega)
  have i2 : (w + i).toInt = w.toInt + i.toInt := i_add (by omega) (by omega)
  rw [h1, h2]
  apply okP.bind
  refine okP.aget (by omega) (by omega) (fun y hy => ?_)
  have ey : (u + i).toInt.toNat = U + i.toInt.toNat := by omega
  rw [ey] at hy
  apply okP.bind
  refine okP.aset (by omega) (by omega) ?_
  have ew : (w + i).toInt.toNat = V + i.toInt.toNat := by omega
  rw [ew]
  apply okP.some
  refine ⟨⟨by simp only; omega, by simp only; omega, R.set (V + i.toInt.toNat) y, by simp only; rw [h3], by rw [List.length_set]; exact a4, fun k => ?_⟩, by simp only; omega⟩
  simp only
  rw [List.getElem?_set, en, a5 k]
  by_cases e : V + i.toInt.toNat = k
  ·rw [if_pos e, if_pos (by omega), if_pos (by omega), ← hy]
   congr 1; omega
  ·rw [if_neg e]
   by_cases q : V ≤ k ∧ k < V + i.toInt.toNat
   ·rw [if_pos q, if_pos (by omega)]
   ·rw [if_neg q, if_neg (by omega)]
 ·rw [i_lt, z4'] at c
  apply okP.some
  refine ⟨R, rfl, a4, fun k => ?_⟩
  have : i.toInt.toNat = 4 := by omega
  rw [a5 k, this]
theorem set_ex {C : Int32} {R S : List Int32} {n q : Int32} {o : Ob} (h : Sh C R S n q o) {x : Int32} (x0 : 0 ≤ x.toInt) (x4 : x.toInt < 4) (a b c d : Int32) : F5 o x a b c d = some (s_reg o (((((f_reg o).set (x.toInt.toNat * 4) a).set (x.toInt.toNat * 4 + 1) b).set (x.toInt.toNat * 4 + 2) c).set (x.toInt.toNat * 4 + 3) d)) := by
 have l := Sh_l_reg h
 unfold F5
 obtain ⟨r, hr, q⟩ := vreg x
 have r0 : r ≠ 0 := by
  rcases q with rfl | q
  ·exfalso
   unfold F6 at hr
   rw [if_neg (by rw [i_lt]; show ¬ x.toInt < 0; omega), if_pos (by rw [i_lt]; exact x4)] at hr
   cases hr
  ·exact q.1
 rw [hr]
 simp only [Option.bind_some]
 rw [if_neg r0]
 have e := m4 x0 (by omega)
 have e1 : (x * 4 + 1).toInt = x.toInt * 4 + 1 := by rw [inc1 (by omega), e]
 have e2 : (x * 4 + 2).toInt = x.toInt * 4 + 2 := by rw [i_add (by rw [e]; show _ ≤ x.toInt * 4 + 2; omega) (by rw [e]; show x.toInt * 4 + 2 < _; omega), e]; rfl
 have e3 : (x * 4 + 3).toInt = x.toInt * 4 + 3 := by rw [i_add (by rw [e]; show _ ≤ x.toInt * 4 + 3; omega) (by rw [e]; show x.toInt * 4 + 3 < _; omega), e]; rfl
 rw [aset_at (n := x.toInt.toNat * 4) (by omega) (by omega)]
 simp only [Option.bind_some]
 rw [aset_at (n := x.toInt.toNat * 4 + 1) (by omega) (by rw [List.length_set]; omega)]
 simp only [Option.bind_some]
 rw [aset_at (n := x.toInt.toNat * 4 + 2) (by omega) (by simp only [List.length_set]; omega)]
 simp only [Option.bind_some]
 rw [aset_at (n := x.toInt.toNat * 4 + 3) (by omega) (by simp only [List.length_set]; omega)]
 rfl
def M4 (l : List Int32) (k : Nat) (m : Int32 × Int32 × Int32 × Int32) : Prop := l[k]? = some m.1 ∧ l[k + 1]? = some m.2.1 ∧ l[k + 2]? = some m.2.2.1 ∧ l[k + 3]? = some m.2.2.2
theorem M4_cp {R src dst : List Int32} {U V : Nat} {m : Int32 × Int32 × Int32 × Int32} (h : ∀ k, R[k]? = if V ≤ k ∧ k < V + 4 then src[U + (k - V)]? else dst[k]?) (hm : M4 src U m) : M4 R V m := by
 obtain ⟨m1, m2, m3, m4⟩ := hm
 refine ⟨?_, ?_, ?_, ?_⟩
 ·rw [h, if_pos (by omega), show U + (V - V) = U by omega]; exact m1
 ·rw [h, if_pos (by omega), show U + (V + 1 - V) = U + 1 by omega]; exact m2
 ·rw [h, if_pos (by omega), show U + (V + 2 - V) = U + 2 by omega]; exact m3
 ·rw [h, if_pos (by omega), show U + (V + 3 - V) = U + 3 by omega]; exact m4
theorem M4_ot {R src dst : List Int32} {U V k : Nat} {m : Int32 × Int32 × Int32 × Int32} (h : ∀ k, R[k]? = if V ≤ k ∧ k < V + 4 then src[U + (k - V)]? else dst[k]?) (hk : k + 4 ≤ V ∨ V + 4 ≤ k) (hm : M4 dst k m) : M4 R k m := by
 obtain ⟨m1, m2, m3, m4⟩ := hm
 refine ⟨?_, ?_, ?_, ?_⟩ <;> rw [h, if_neg (by omega)] <;> assumption
theorem vr {u : Int32} (u0 : 0 ≤ u.toInt) (u4 : u.toInt < 4) : F6 u = some 1 := by
 unfold F6
 rw [if_neg (by rw [i_lt]; show ¬ u.toInt < 0; omega), if_pos (by rw [i_lt]; exact u4)]
theorem vsl {x y : Int32} (x0 : 0 ≤ x.toInt) (x4 : x.toInt < 4) (y0 : 0 ≤ y.toInt) (y1 : y.toInt < 32) : F34 x y = some 1 := by
 unfold F34
 rw [if_neg (by rw [i_lt]; show ¬ x.toInt < 0; omega), if_pos (by rw [i_lt]; exact x4), if_neg (by rw [i_lt]; show ¬ y.toInt < 0; omega), if_pos (by rw [i_lt]; exact y1)]
def mm (A B : Int32 × Int32 × Int32 × Int32) : Int32 × Int32 × Int32 × Int32 := (A.1 * B.1 + A.2.1 * B.2.2.1, A.1 * B.2.1 + A.2.1 * B.2.2.2, A.2.2.1 * B.1 + A.2.2.2 * B.2.2.1, A.2.2.1 * B.2.1 + A.2.2.2 * B.2.2.2)
theorem mm_l (A : Int32 × Int32 × Int32 × Int32) : mm (1, 0, 0, 1) A = A := by
 obtain ⟨a, b, c, d⟩ := A
 simp only [mm, Int32.one_mul, Int32.zero_mul, Int32.add_zero, Int32.zero_add]
theorem mm_r (A : Int32 × Int32 × Int32 × Int32) : mm A (1, 0, 0, 1) = A := by
 obtain ⟨a, b, c, d⟩ := A
 simp only [mm, Int32.mul_one, Int32.mul_zero, Int32.add_zero, Int32.zero_add]
abbrev MX := Int32 × Int32 × Int32 × Int32
theorem M4_ex {l : List Int32} {k : Nat} (h : k + 4 ≤ l.length) : ∃ m, M4 l k m := ⟨(l[k]'(by omega), l[k + 1]'(by omega), l[k + 2]'(by omega), l[k + 3]'(by omega)), List.getElem?_eq_getElem _, List.getElem?_eq_getElem _, List.getElem?_eq_getElem _, List.getElem?_eq_getElem _⟩
theorem mul_m {C : Int32} {R S : List Int32} {n q : Int32} {o : Ob} (h : Sh C R S n q o) {x y z : Int32} {X Y Z : Nat} (hx : x.toInt * 4 = X) (hy : y.toInt * 4 = Y) (hz : z.toInt * 4 = Z) (x4 : x.toInt < 4) (y4 : y.toInt < 4) (w4 : z.toInt < 4) {A B : Int32 × Int32 × Int32 × Int32} (hA : M4 (f_reg o) Y A) (hB : M4 (f_reg o) Z B) : okP (F28 o x y z) (fun p => ∃ L : List Int32, p = s_reg o L ∧ L.length = 16 ∧ M4 L X (mm A B) ∧ ∀ k m, (k + 4 ≤ X ∨ X + 4 ≤ k) → M4 (f_reg o) k m → M4 L k m) := by
 have l := Sh_l_reg h
 obtain ⟨A1, A2, A3, A4⟩ := hA
 obtain ⟨B1, B2, B3, B4⟩ := hB
 unfold F28
 rw [vr (u := x) (by omega) x4, vr (u := y) (by omega) y4, vr (u := z) (by omega) w4]
 simp only [Option.bind_some]
 rw [if_neg (by decide), if_neg (by decide), if_neg (by decide)]
 have three : ∀ (x : Int32) (X : Nat), x.toInt * 4 = X → x.toInt < 4 → (x * 4).toInt = X ∧ (x * 4 + 1).toInt = (X + 1 : Nat) ∧ (x * 4 + 2).toInt = (X + 2 : Nat) ∧ (x * 4 + 3).toInt = (X + 3 : Nat) := by
  intro x X hX x4
  have e := m4 (x := x) (by omega) (by omega)
  refine ⟨by omega, ?_, ?_, ?_⟩
  ·rw [inc1 (by omega), e]; omega
  ·rw [i_add (by rw [e]; show _ ≤ x.toInt * 4 + 2; omega) (by rw [e]; show x.toInt * 4 + 2 < _; omega), e]; show x.toInt * 4 + 2 = _; omega
  ·rw [i_add (by rw [e]; show _ ≤ x.toInt * 4 + 3; omega) (by rw [e]; show x.toInt * 4 + 3 < _; omega), e]; show x.toInt * 4 + 3 = _; omega
 obtain ⟨x1, x2, x3, x5⟩ := three x X hx x4
 obtain ⟨y1, y2, y3, y5⟩ := three y Y hy y4
 obtain ⟨w1, w2, w3, w5⟩ := three z Z hz w4
 have rd : ∀ {j : Int32} {k : Nat} {w : Int32}, j.toInt = k → (f_reg o)[k]? = some w → aget (f_reg o) j = some w := by
  intro j k w h2 h3
  unfold aget
  rw [if_neg (by rw [i_lt]; show ¬ j.toInt < 0; omega), i_nat, h2, Int.toNat_natCast]
  exact h3
 rw [rd y1 A1, rd y2 A2, rd y3 A3, rd y5 A4, rd w1 B1, rd w2 B2, rd w3 B3, rd w5 B4]
 simp only [Option.bind_some]
 rw [aset_at x1 (by omega)]
 simp only [Option.bind_some]
 rw [aset_at x2 (by rw [List.length_set]; omega)]
 simp only [Option.bind_some]
 rw [aset_at x3 (by simp only [List.length_set]; omega)]
 simp only [Option.bind_some]
 rw [aset_at x5 (by simp only [List.length_set]; omega)]
 simp only [Option.bind_some]
 refine okP.some ⟨_, rfl, by simp only [List.length_set]; exact l, ⟨?_, ?_, ?_, ?_⟩, fun k m hk hm => ?_⟩
 ·rw [List.getElem?_set_ne (by omega), List.getElem?_set_ne (by omega), List.getElem?_set_ne (by omega), List.getElem?_set_self (by omega)]; rfl
 ·rw [List.getElem?_set_ne (by omega), List.getElem?_set_ne (by omega), List.getElem?_set_self (by simp only [List.length_set]; omega)]; rfl
 ·rw [List.getElem?_set_ne (by omega), List.getElem?_set_self (by simp only [List.length_set]; omega)]; rfl
 ·rw [List.getElem?_set_self (by simp only [List.length_set]; omega)]; rfl
 ·obtain ⟨m1, m2, m3, m4⟩ := hm
  refine ⟨?_, ?_, ?_, ?_⟩ <;> rw [List.getElem?_set_ne (by omega), List.getElem?_set_ne (by omega), List.getElem?_set_ne (by omega), List.getElem?_set_ne (by omega)] <;> assumption
theorem id_m {C : Int32} {R S : List Int32} {n q : Int32} {o : Ob} (h : Sh C R S n q o) : ∃ L : List Int32, F4 o 1 = some (s_reg o L) ∧ L.length = 16 ∧ M4 L 4 (1, 0, 0, 1) ∧ ∀ k m, (k + 4 ≤ 4 ∨ 8 ≤ k) → M4 (f_reg o) k m → M4 L k m := by
 have l := Sh_l_reg h
 unfold F4
 rw [set_ex h (x := 1) (by decide) (by decide)]
 refine ⟨(((((f_reg o).set 4 1).set 5 0).set 6 0).set 7 1), rfl, by simp only [List.length_set]; exact l, ⟨?_, ?_, ?_, ?_⟩, fun k m hk hm => ?_⟩
 ·rw [List.getElem?_set_ne (by decide), List.getElem?_set_ne (by decide), List.getElem?_set_ne (by decide), List.getElem?_set_self (by omega)]
 ·show (((((f_reg o).set 4 1).set 5 0).set 6 0).set 7 1)[5]? = _
  rw [List.getElem?_set_ne (by decide), List.getElem?_set_ne (by decide), List.getElem?_set_self (by rw [List.length_set]; omega)]
 ·show (((((f_reg o).set 4 1).set 5 0).set 6 0).set 7 1)[6]? = _
  rw [List.getElem?_set_ne (by decide), List.getElem?_set_self (by simp only [List.length_set]; omega)]
 ·show (((((f_reg o).set 4 1).set 5 0).set 6 0).set 7 1)[7]? = _
  rw [List.getElem?_set_self (by simp only [List.length_set]; omega)]
 ·obtain ⟨m1, m2, m3, m4⟩ := hm
  refine ⟨?_, ?_, ?_, ?_⟩ <;> rw [List.getElem?_set_ne (by omega), List.getElem?_set_ne (by omega), List.getElem?_set_ne (by omega), List.getElem?_set_ne (by omega)] <;> assumption
theorem ba_m {C : Int32} {R S : List Int32} {n q : Int32} {o : Ob} (h : Sh C R S n q o) {x : Int32} (x0 : 0 ≤ x.toInt) (x4 : x.toInt < 4) {r : Int32} {U : Nat} (r0 : 0 ≤ r.toInt) (r4 : r.toInt < 4) (hU : r.toInt * 4 = U) {m : MX} (hm : M4 (f_reg o) U m) : okP (F7 o x r) (fun p => ∃ L : List Int32, p = s_backAgg o L ∧ L.length = 16 ∧ M4 L (x.toInt.toNat * 4) m ∧ ∀ k, ¬ (x.toInt.toNat * 4 ≤ k ∧ k < x.toInt.toNat * 4 + 4) → L[k]? = (f_backAgg o)[k]?) := by
 have l := Sh_l_reg h
 have l2 := Sh_l_backAgg h
 unfold F7
 rw [vr r0 r4]
 simp only [Option.bind_some]
 rw [if_neg (by decide), if_neg (by rw [i_lt]; show ¬ x.toInt < 0; omega), if_pos (by rw [i_lt]; exact x4)]
 have e := m4 r0 (by omega)
 have e2 := m4 x0 (by omega)
 apply okP.bind
 refine okP.mono (copy4 (src := f_reg) (dst := f_backAgg) (upd := s_backAgg) (u := r * 4) (w := x * 4) (U := U) (V := x.toInt.toNat * 4) (fun _ _ => rfl) (fun _ _ => rfl) (fun _ _ _ => rfl) (fun _ => rfl) (fun _ => rfl) (by omega) (by omega) (by omega) (by omega) (by omega) (by omega)) ?_
 rintro p ⟨L, hp, hl, hk⟩
 exact okP.some ⟨L, hp, by rw [hl]; exact l2, M4_cp hk hm, fun k hk' => by rw [hk, if_neg hk']⟩
theorem sn_m {C : Int32} {R S : List Int32} {n q : Int32} {o : Ob} (h : Sh C R S n q o) {x : Int32} (x0 : 0 ≤ x.toInt) (x4 : x.toInt < 4) {r : Int32} {U : Nat} (r0 : 0 ≤ r.toInt) (r4 : r.toInt < 4) (hU : r.toInt * 4 = U) {m : MX} (hm : M4 (f_reg o) U m) : okP (F8 o x r) (fun p => ∃ L : List Int32, p = s_snap o L ∧ L.length = 16 ∧ M4 L (x.toInt.toNat * 4) m ∧ ∀ k, ¬ (x.toInt.toNat * 4 ≤ k ∧ k < x.toInt.toNat * 4 + 4) → L[k]? = (f_snap o)[k]?) := by
 have l := Sh_l_reg h
 have l2 := Sh_l_snap h
 unfold F8
 rw [vr r0 r4]
 simp only [Option.bind_some]
 rw [if_neg (by decide), if_neg (by rw [i_lt]; show ¬ x.toInt < 0; omega), if_pos (by rw [i_lt]; exact x4)]
 have e := m4 r0 (by omega)
 have e2 := m4 x0 (by omega)
 apply okP.bind
 refine okP.mono (copy4 (src := f_reg) (dst := f_snap) (upd := s_snap) (u := r * 4) (w := x * 4) (U := U) (V := x.toInt.toNat * 4) (fun _ _ => rfl) (fun _ _ => rfl) (fun _ _ _ => rfl) (fun _ => rfl) (fun _ => rfl) (by omega) (by omega) (by omega) (by omega) (by omega) (by omega)) ?_
 rintro p ⟨L, hp, hl, hk⟩
 exact okP.some ⟨L, hp, by rw [hl]; exact l2, M4_cp hk hm, fun k hk' => by rw [hk, if_neg hk']⟩
theorem ld_m {C : Int32} {R S : List Int32} {n q : Int32} {o : Ob} (h : Sh C R S n q o) {x : Int32} (x0 : 0 ≤ x.toInt) (x4 : x.toInt < 4) {r : Int32} {V : Nat} (r0 : 0 ≤ r.toInt) (r4 : r.toInt < 4) (hV : r.toInt * 4 = V) {m : MX} (hm : M4 (f_backAgg o) (x.toInt.toNat * 4) m) : okP (F27 o r x) (fun p => ∃ L : List Int32, p = s_reg o L ∧ L.length = 16 ∧ M4 L V m ∧ ∀ k m, (k + 4 ≤ V ∨ V + 4 ≤ k) → M4 (f_reg o) k m → M4 L k m) := by
 have l := Sh_l_reg h
 have l2 := Sh_l_backAgg h
 unfold F27
 rw [vr r0 r4]
 simp only [Option.bind_some]
 rw [if_neg (by decide), if_neg (by rw [i_lt]; show ¬ x.toInt < 0; omega), if_pos (by rw [i_lt]; exact x4)]
 have e := m4 r0 (by omega)
 have e2 := m4 x0 (by omega)
 apply okP.bind
 refine okP.mono (copy4 (src := f_backAgg) (dst := f_reg) (upd := s_reg) (u := x * 4) (w := r * 4) (U := x.toInt.toNat * 4) (V := V) (fun _ _ => rfl) (fun _ _ => rfl) (fun _ _ _ => rfl) (fun _ => rfl) (fun _ => rfl) (by omega) (by omega) (by omega) (by omega) (by omega) (by omega)) ?_
 rintro p ⟨L, hp, hl, hk⟩
 exact okP.some ⟨L, hp, by rw [hl]; exact l, M4_cp hk hm, fun k m hk' hm' => M4_ot hk hk' hm'⟩
theorem sb_m {C : Int32} {R S : List Int32} {n q : Int32} {o : Ob} (h : Sh C R S n q o) {x : Int32} (x0 : 0 ≤ x.toInt) (x4 : x.toInt < 4) {y : Int32} (y0 : 0 ≤ y.toInt) (y1 : y.toInt < 32) {r : Int32} {U : Nat} (r0 : 0 ≤ r.toInt) (r4 : r.toInt < 4) (hU : r.toInt * 4 = U) {m : MX} (hm : M4 (f_reg o) U m) : okP (F35 o x y r) (fun p => ∃ L : List Int32, p = s_backElem o L ∧ L.length = 512 ∧ M4 L ((x.toInt.toNat * 32 + y.toInt.toNat) * 4) m ∧ ∀ k, ¬ ((x.toInt.toNat * 32 + y.toInt.toNat) * 4 ≤ k ∧ k < (x.toInt.toNat * 32 + y.toInt.toNat) * 4 + 4) → L[k]? = (f_backElem o)[k]?) := by
 have l := Sh_l_reg h
 have l2 := Sh_l_backElem h
 unfold F35 F36
 rw [vr r0 r4, vsl x0 x4 y0 y1]
 simp only [Option.bind_some]
 rw [if_neg (by decide), if_neg (by decide)]
 have e := slotI x0 x4 y0 y1
 have e2 := m4 r0 (by omega)
 apply okP.bind
 refine okP.mono (copy4 (src := f_reg) (dst := f_backElem) (upd := s_backElem) (u := r * 4) (w := (x * 32 + y) * 4) (U := U) (V := (x.toInt.toNat * 32 + y.toInt.toNat) * 4) (fun _ _ => rfl) (fun _ _ => rfl) (fun _ _ _ => rfl) (fun _ => rfl) (fun _ => rfl) (by omega) (by omega) (by omega) (by omega) (by omega) (by omega)) ?_
 rintro p ⟨L, hp, hl, hk⟩
 exact okP.some ⟨L, hp, by rw [hl]; exact l2, M4_cp hk hm, fun k hk' => by rw [hk, if_neg hk']⟩
theorem lb_m {C : Int32} {R S : List Int32} {n q : Int32} {o : Ob} (h : Sh C R S n q o) {x : Int32} (x0 : 0 ≤ x.toInt) (x4 : x.toInt < 4) {y : Int32} (y0 : 0 ≤ y.toInt) (y1 : y.toInt < 32) {r : Int32} {V : Nat} (r0 : 0 ≤ r.toInt) (r4 : r.toInt < 4) (hV : r.toInt * 4 = V) {m : MX} (hm : M4 (f_backElem o) ((x.toInt.toNat * 32 + y.toInt.toNat) * 4) m) : okP (F40 o r x y) (fun p => ∃ L : List Int32, p = s_reg o L ∧ L.length = 16 ∧ M4 L V m ∧ ∀ k m, (k + 4 ≤ V ∨ V + 4 ≤ k) → M4 (f_reg o) k m → M4 L k m) := by
 have l := Sh_l_reg h
 have l2 := Sh_l_backElem h
 unfold F40 F36
 rw [vr r0 r4, vsl x0 x4 y0 y1]
 simp only [Option.bind_some]
 rw [if_neg (by decide), if_neg (by decide)]
 have e := slotI x0 x4 y0 y1
 have e2 := m4 r0 (by omega)
 apply okP.bind
 refine okP.mono (copy4 (src := f_backElem) (dst := f_reg) (upd := s_reg) (u := (x * 32 + y) * 4) (w := r * 4) (U := (x.toInt.toNat * 32 + y.toInt.toNat) * 4) (V := V) (fun _ _ => rfl) (fun _ _ => rfl) (fun _ _ _ => rfl) (fun _ => rfl) (fun _ => rfl) (by omega) (by omega) (by omega) (by omega) (by omega) (by omega)) ?_
 rintro p ⟨L, hp, hl, hk⟩
 exact okP.some ⟨L, hp, by rw [hl]; exact l, M4_cp hk hm, fun k m hk' hm' => M4_ot hk hk' hm'⟩
theorem sf_m {C : Int32} {R S : List Int32} {n q : Int32} {o : Ob} (h : Sh C R S n q o) {x : Int32} (x0 : 0 ≤ x.toInt) (x4 : x.toInt < 4) {y : Int32} (y0 : 0 ≤ y.toInt) (y1 : y.toInt < 32) {r : Int32} {U : Nat} (r0 : 0 ≤ r.toInt) (r4 : r.toInt < 4) (hU : r.toInt * 4 = U) {m : MX} (hm : M4 (f_reg o) U m) : okP (F41 o x y r) (fun p => ∃ L : List Int32, p = s_frontAgg o L ∧ L.length = 512 ∧ M4 L ((x.toInt.toNat * 32 + y.toInt.toNat) * 4) m ∧ ∀ k, ¬ ((x.toInt.toNat * 32 + y.toInt.toNat) * 4 ≤ k ∧ k < (x.toInt.toNat * 32 + y.toInt.toNat) * 4 + 4) → L[k]? = (f_frontAgg o)[k]?) := by
 have l := Sh_l_reg h
 have l2 := Sh_l_frontAgg h
 unfold F41 F36
 rw [vr r0 r4, vsl x0 x4 y0 y1]
 simp only [Option.bind_some]
 rw [if_neg (by decide), if_neg (by decide)]
 have e := slotI x0 x4 y0 y1
 have e2 := m4 r0 (by omega)
 apply okP.bind
 refine okP.mono (copy4 (src := f_reg) (dst := f_frontAgg) (upd := s_frontAgg) (u := r * 4) (w := (x * 32 + y) * 4) (U := U) (V := (x.toInt.toNat * 32 + y.toInt.toNat) * 4) (fun _ _ => rfl) (fun _ _ => rfl) (fun _ _ _ => rfl) (fun _ => rfl) (fun _ => rfl) (by omega) (by omega) (by omega) (by omega) (by omega) (by omega)) ?_
 rintro p ⟨L, hp, hl, hk⟩
 exact okP.some ⟨L, hp, by rw [hl]; exact l2, M4_cp hk hm, fun k hk' => by rw [hk, if_neg hk']⟩
theorem lf_m {C : Int32} {R S : List Int32} {n q : Int32} {o : Ob} (h : Sh C R S n q o) {x : Int32} (x0 : 0 ≤ x.toInt) (x4 : x.toInt < 4) {y : Int32} (y0 : 0 ≤ y.toInt) (y1 : y.toInt < 32) {r : Int32} {V : Nat} (r0 : 0 ≤ r.toInt) (r4 : r.toInt < 4) (hV : r.toInt * 4 = V) {m : MX} (hm : M4 (f_frontAgg o) ((x.toInt.toNat * 32 + y.toInt.toNat) * 4) m) : okP (F42 o r x y) (fun p => ∃ L : List Int32, p = s_reg o L ∧ L.length = 16 ∧ M4 L V m ∧ ∀ k m, (k + 4 ≤ V ∨ V + 4 ≤ k) → M4 (f_reg o) k m → M4 L k m) := by
 have l := Sh_l_reg h
 have l2 := Sh_l_frontAgg h
 unfold F42 F36
 rw [vr r0 r4, vsl x0 x4 y0 y1]
 simp only [Option.bind_some]
 rw [if_neg (by decide), if_neg (by decide)]
 have e := slotI x0 x4 y0 y1
 have e2 := m4 r0 (by omega)
 apply okP.bind
 refine okP.mono (copy4 (src := f_frontAgg) (dst := f_reg) (upd := s_reg) (u := (x * 32 + y) * 4) (w := r * 4) (U := (x.toInt.toNat * 32 + y.toInt.toNat) * 4) (V := V) (fun _ _ => rfl) (fun _ _ => rfl) (fun _ _ _ => rfl) (fun _ => rfl) (fun _ => rfl) (by omega) (by omega) (by omega) (by omega) (by omega) (by omega)) ?_
 rintro p ⟨L, hp, hl, hk⟩
 exact okP.some ⟨L, hp, by rw [hl]; exact l, M4_cp hk hm, fun k m hk' hm' => M4_ot hk hk' hm'⟩
theorem mm_assoc (A B D : MX) : mm (mm A B) D = mm A (mm B D) := by
 obtain ⟨a1, a2, a3, a4⟩ := A
 obtain ⟨b1, b2, b3, b4⟩ := B
 obtain ⟨d1, d2, d3, d4⟩ := D
 simp only [mm, Prod.mk.injEq]
 refine ⟨?_, ?_, ?_, ?_⟩ <;> grind
def prod : List MX → MX
 | [] => (1, 0, 0, 1)
 | A :: l => mm A (prod l)
theorem prod_app : ∀ (l m : List MX), prod (l ++ m) = mm (prod l) (prod m)
 | [], m => (mm_l _).symm
 | A :: l, m => by
  show mm A (prod (l ++ m)) = mm (mm A (prod l)) (prod m)
  rw [prod_app l m, mm_assoc]
theorem prod_one (A : MX) : prod [A] = A := mm_r A
theorem prod_snoc (l : List MX) (A : MX) : prod (l ++ [A]) = mm (prod l) A := by rw [prod_app, prod_one]
def Zq (o : Ob) (x : Nat) (F B : List MX) (SN : MX) : Prop := (∃ fs : Int32, (f_frontSize o)[x]? = some fs ∧ fs.toInt = F.length) ∧ (∃ bs : Int32, (f_backSize o)[x]? = some bs ∧ bs.toInt = B.length) ∧ M4 (f_backAgg o) (x * 4) (prod B) ∧ (∀ j m, B[j]? = some m → M4 (f_backElem o) ((x * 32 + j) * 4) m) ∧ (∀ i, i < F.length → M4 (f_frontAgg o) ((x * 32 + i) * 4) (prod (F.drop (F.length - 1 - i)))) ∧ M4 (f_snap o) (x * 4) SN ∧ F.length + B.length ≤ 32
def Keep (o p : Ob) (x : Nat) : Prop := (f_frontSize p)[x]? = (f_frontSize o)[x]? ∧ (f_backSize p)[x]? = (f_backSize o)[x]? ∧ (∀ k, x * 4 ≤ k → k < x * 4 + 4 → (f_backAgg p)[k]? = (f_backAgg o)[k]?) ∧ (∀ k, x * 128 ≤ k → k < x * 128 + 128 → (f_backElem p)[k]? = (f_backElem o)[k]?) ∧ (∀ k, x * 128 ≤ k → k < x * 128 + 128 → (f_frontAgg p)[k]? = (f_frontAgg o)[k]?) ∧ (∀ k, x * 4 ≤ k → k < x * 4 + 4 → (f_snap p)[k]? = (f_snap o)[k]?)
theorem Keep.refl (o : Ob) (x : Nat) : Keep o o x := ⟨rfl, rfl, fun _ _ _ => rfl, fun _ _ _ => rfl, fun _ _ _ => rfl, fun _ _ _ => rfl⟩
theorem Keep.trans {o p r : Ob} {x : Nat} (h : Keep o p x) (g : Keep p r x) : Keep o r x := ⟨g.1.trans h.1, g.2.1.trans h.2.1, fun k a b => (g.2.2.1 k a b).trans (h.2.2.1 k a b), fun k a b => (g.2.2.2.1 k a b).trans (h.2.2.2.1 k a b), fun k a b => (g.2.2.2.2.1 k a b).trans (h.2.2.2.2.1 k a b), fun k a b => (g.2.2.2.2.2 k a b).trans (h.2.2.2.2.2 k a b)⟩
theorem M4_k {l l' : List Int32} {k : Nat} {m : MX} (h : M4 l k m) (e : ∀ i, k ≤ i → i < k + 4 → l'[i]? = l[i]?) : M4 l' k m := by
 obtain ⟨m1, m2, m3, m4⟩ := h
 exact ⟨by rw [e _ (by omega) (by omega)]; exact m1, by rw [e _ (by omega) (by omega)]; exact m2, by rw [e _ (by omega) (by omega)]; exact m3, by rw [e _ (by omega) (by omega)]; exact m4⟩
theorem Zq.keep {o p : Ob} {x : Nat} {F B : List MX} {SN : MX} (h : Zq o x F B SN) (k : Keep o p x) : Zq p x F B SN := by
 obtain ⟨h1, h2, h3, h4, h5, h6, h7⟩ := h
 obtain ⟨k1, k2, k3, k4, k5, k6⟩ := k
 refine ⟨by rw [k1]; exact h1, by rw [k2]; exact h2, M4_k h3 k3, fun j m hj => M4_k (h4 j m hj) (fun i a b => k4 i (by omega) ?_), fun i hi => M4_k (h5 i hi) (fun j a b => k5 j (by omega) (by omega)), M4_k h6 k6, h7⟩
 have : j < B.length := by
  obtain ⟨l, _⟩ := List.getElem?_eq_some_iff.1 hj
  exact l
 omega
theorem keep_reg (o : Ob) (l : List Int32) (x : Nat) : Keep o (s_reg o l) x := by
 dsimp only [Keep, f_regTuple, f_regA, f_regB, f_regC, f_regCount, f_slots, f_range, f_slide, f_frontSize, f_backSize, f_backElem, f_frontAgg, f_backAgg, f_snap, f_reg, f_capacity, f_queries, f_n, s_reg]
 exact ⟨rfl, rfl, fun _ _ _ => rfl, fun _ _ _ => rfl, fun _ _ _ => rfl, fun _ _ _ => rfl⟩
theorem keep_n (o : Ob) (l : Int32) (x : Nat) : Keep o (s_n o l) x := by
 dsimp only [Keep, f_regTuple, f_regA, f_regB, f_regC, f_regCount, f_slots, f_range, f_slide, f_frontSize, f_backSize, f_backElem, f_frontAgg, f_backAgg, f_snap, f_reg, f_capacity, f_queries, f_n, s_n]
 exact ⟨rfl, rfl, fun _ _ _ => rfl, fun _ _ _ => rfl, fun _ _ _ => rfl, fun _ _ _ => rfl⟩
theorem keep_q (o : Ob) (l : Int32) (x : Nat) : Keep o (s_queries o l) x := by
 dsimp only [Keep, f_regTuple, f_regA, f_regB, f_regC, f_regCount, f_slots, f_range, f_slide, f_frontSize, f_backSize, f_backElem, f_frontAgg, f_backAgg, f_snap, f_reg, f_capacity, f_queries, f_n, s_queries]
 exact ⟨rfl, rfl, fun _ _ _ => rfl, fun _ _ _ => rfl, fun _ _ _ => rfl, fun _ _ _ => rfl⟩
theorem keep_rs (o : Ob) (l m : List Int32) (x : Nat) : Keep o (s_slide (s_range o l) m) x := by
 dsimp only [Keep, f_regTuple, f_regA, f_regB, f_regC, f_regCount, f_slots, f_range, f_slide, f_frontSize, f_backSize, f_backElem, f_frontAgg, f_backAgg, f_snap, f_reg, f_capacity, f_queries, f_n, s_slide, s_range]
 exact ⟨rfl, rfl, fun _ _ _ => rfl, fun _ _ _ => rfl, fun _ _ _ => rfl, fun _ _ _ => rfl⟩
theorem keep_ba (o : Ob) {l : List Int32} {x : Nat} (h : ∀ k, x * 4 ≤ k → k < x * 4 + 4 → l[k]? = (f_backAgg o)[k]?) : Keep o (s_backAgg o l) x := by
 dsimp only [Keep, f_regTuple, f_regA, f_regB, f_regC, f_regCount, f_slots, f_range, f_slide, f_frontSize, f_backSize, f_backElem, f_frontAgg, f_backAgg, f_snap, f_reg, f_capacity, f_queries, f_n, s_backAgg] at h ⊢
 exact ⟨rfl, rfl, h, fun _ _ _ => rfl, fun _ _ _ => rfl, fun _ _ _ => rfl⟩
theorem keep_sn (o : Ob) {l : List Int32} {x : Nat} (h : ∀ k, x * 4 ≤ k → k < x * 4 + 4 → l[k]? = (f_snap o)[k]?) : Keep o (s_snap o l) x := by
 dsimp only [Keep, f_regTuple, f_regA, f_regB, f_regC, f_regCount, f_slots, f_range, f_slide, f_frontSize, f_backSize, f_backElem, f_frontAgg, f_backAgg, f_snap, f_reg, f_capacity, f_queries, f_n, s_snap] at h ⊢
 exact ⟨rfl, rfl, fun _ _ _ => rfl, fun _ _ _ => rfl, fun _ _ _ => rfl, h⟩
theorem keep_be (o : Ob) {l : List Int32} {x : Nat} (h : ∀ k, x * 128 ≤ k → k < x * 128 + 128 → l[k]? = (f_backElem o)[k]?) : Keep o (s_backElem o l) x := by
 dsimp only [Keep, f_regTuple, f_regA, f_regB, f_regC, f_regCount, f_slots, f_range, f_slide, f_frontSize, f_backSize, f_backElem, f_frontAgg, f_backAgg, f_snap, f_reg, f_capacity, f_queries, f_n, s_backElem] at h ⊢
 exact ⟨rfl, rfl, fun _ _ _ => rfl, h, fun _ _ _ => rfl, fun _ _ _ => rfl⟩
theorem keep_fa (o : Ob) {l : List Int32} {x : Nat} (h : ∀ k, x * 128 ≤ k → k < x * 128 + 128 → l[k]? = (f_frontAgg o)[k]?) : Keep o (s_frontAgg o l) x := by
 dsimp only [Keep, f_regTuple, f_regA, f_regB, f_regC, f_regCount, f_slots, f_range, f_slide, f_frontSize, f_backSize, f_backElem, f_frontAgg, f_backAgg, f_snap, f_reg, f_capacity, f_queries, f_n, s_frontAgg] at h ⊢
 exact ⟨rfl, rfl, fun _ _ _ => rfl, fun _ _ _ => rfl, h, fun _ _ _ => rfl⟩
theorem keep_fs (o : Ob) {l : List Int32} {x : Nat} (h : l[x]? = (f_frontSize o)[x]?) : Keep o (s_frontSize o l) x := by
 dsimp only [Keep, f_regTuple, f_regA, f_regB, f_regC, f_regCount, f_slots, f_range, f_slide, f_frontSize, f_backSize, f_backElem, f_frontAgg, f_backAgg, f_snap, f_reg, f_capacity, f_queries, f_n, s_frontSize] at h ⊢
 exact ⟨h, rfl, fun _ _ _ => rfl, fun _ _ _ => rfl, fun _ _ _ => rfl, fun _ _ _ => rfl⟩
theorem keep_bs (o : Ob) {l : List Int32} {x : Nat} (h : l[x]? = (f_backSize o)[x]?) : Keep o (s_backSize o l) x := by
 dsimp only [Keep, f_regTuple, f_regA, f_regB, f_regC, f_regCount, f_slots, f_range, f_slide, f_frontSize, f_backSize, f_backElem, f_frontAgg, f_backAgg, f_snap, f_reg, f_capacity, f_queries, f_n, s_backSize] at h ⊢
 exact ⟨rfl, h, fun _ _ _ => rfl, fun _ _ _ => rfl, fun _ _ _ => rfl, fun _ _ _ => rfl⟩
theorem g0 {l : List Int32} {x v : Int32} (h0 : 0 ≤ x.toInt) (h : l[x.toInt.toNat]? = some v) : aget l x = some v := by
 unfold aget
 rw [if_neg (by rw [i_lt]; show ¬ x.toInt < 0; omega)]
 exact h
theorem reset_m {C : Int32} {R S : List Int32} {n q : Int32} {o : Ob} (h : Sh C R S n q o) {x : Int32} (x0 : 0 ≤ x.toInt) (x4 : x.toInt < 4) : okP (F3 o x) (fun p => Sh C R S n q p ∧ Zq p x.toInt.toNat [] [] (1, 0, 0, 1) ∧ ∀ y, y ≠ x.toInt.toNat → Keep o p y) := by
 have l1 := Sh_l_frontSize h
 have l2 := Sh_l_backSize h
 unfold F3
 rw [if_neg (by rw [i_lt]; show ¬ x.toInt < 0; omega), if_pos (by rw [i_lt]; exact x4), aset_at (n := x.toInt.toNat) (by omega) (by omega)]
 simp only [Option.bind_some]
 rw [aset_at (n := x.toInt.toNat) (by omega) (by omega)]
 simp only [Option.bind_some]
 have h1 := Sh_backSize (Sh_frontSize h (x := (f_frontSize o).set x.toInt.toNat 0) (by rw [List.length_set]; exact l1)) (x := (f_backSize o).set x.toInt.toNat 0) (by rw [List.length_set]; exact l2)
 obtain ⟨o1, ho1⟩ : ∃ o1, o1 = s_backSize (s_frontSize o ((f_frontSize o).set x.toInt.toNat 0)) ((f_backSize o).set x.toInt.toNat 0) := ⟨_, rfl⟩
 rw [← ho1] at h1 ⊢
 have a1 : (f_frontSize o1)[x.toInt.toNat]? = some 0 := by
  rw [ho1]
  show ((f_frontSize o).set x.toInt.toNat 0)[x.toInt.toNat]? = some 0
  rw [List.getElem?_set_self (by omega)]
 have a2 : (f_backSize o1)[x.toInt.toNat]? = some 0 := by
  rw [ho1]
  show ((f_backSize o).set x.toInt.toNat 0)[x.toInt.toNat]? = some 0
  rw [List.getElem?_set_self (by omega)]
 have k1 : ∀ y, y ≠ x.toInt.toNat → Keep o o1 y := by
  intro y hy
  rw [ho1]
  exact (keep_fs o (by rw [List.getElem?_set_ne (fun e => hy e.symm)])).trans (keep_bs _ (by rw [List.getElem?_set_ne (fun e => hy e.symm)]; rfl))
 clear ho1
 obtain ⟨L, e1, l3, m1, _⟩ := id_m h1
 rw [e1]
 simp only [Option.bind_some]
 have h2 := Sh_reg h1 (x := L) l3
 apply okP.bind
 refine okP.mono (ba_m h2 x0 x4 (r := 1) (U := 4) (by decide) (by decide) rfl m1) ?_
 rintro _ ⟨L2, rfl, l4, m2, q2⟩
 have h3 := Sh_backAgg h2 (x := L2) l4
 apply okP.bind
 refine okP.mono (sn_m h3 x0 x4 (r := 1) (U := 4) (m := (1, 0, 0, 1)) (by decide) (by decide) rfl m1) ?_
 rintro _ ⟨L3, rfl, l5, m3, q3⟩
 have h4 := Sh_snap h3 (x := L3) l5
 refine okP.some ⟨h4, ⟨⟨0, a1, rfl⟩, ⟨0, a2, rfl⟩, m2, fun j m hj => by simp at hj, fun i hi => absurd hi (Nat.not_lt_zero _), m3, by decide⟩, fun y hy => ?_⟩
 refine (k1 y hy).trans ((keep_reg _ _ _).trans ((keep_ba _ ?_).trans (keep_sn _ ?_)))
 ·intro k b1 b2
  exact q2 k (by omega)
 ·intro k b1 b2
  exact q3 k (by omega)
theorem fold_m {C : Int32} {R S : List Int32} {n q : Int32} {o : Ob} (h : Sh C R S n q o) {x : Int32} (x0 : 0 ≤ x.toInt) (x4 : x.toInt < 4) {F B : List MX} {SN T : MX} (z : Zq o x.toInt.toNat F B SN) (hT : M4 (f_reg o) 0 T) : okP (F26 o x 3) (fun p => ∃ L : List Int32, p = s_reg o L ∧ L.length = 16 ∧ M4 L 12 (prod (F ++ B)) ∧ M4 L 0 T) := by
 have z0 : (0 : Int32).toInt = 0 := rfl
 have z1 : (1 : Int32).toInt = 1 := rfl
 obtain ⟨⟨fs, f1, f2⟩, ⟨bs, b1, b2⟩, z3, z4, z5, z6, z7⟩ := z
 have tail : ∀ L : List Int32, L.length = 16 → M4 L 4 (prod F) → M4 L 0 T → okP (J26_28 (s_reg o L) x 3) (fun p => ∃ L : List Int32, p = s_reg o L ∧ L.length = 16 ∧ M4 L 12 (prod (F ++ B)) ∧ M4 L 0 T) := by
  intro L lL mL mT
  have h2 := Sh_reg h (x := L) lL
  unfold J26_28
  apply okP.bind
  refine okP.mono (ld_m h2 x0 x4 (r := 2) (V := 8) (by decide) (by decide) rfl z3) ?_
  rintro _ ⟨L2, rfl, l2, m2, q2⟩
  have h3 := Sh_reg h2 (x := L2) l2
  apply okP.bind
  refine okP.mono (mul_m h3 (x := 3) (y := 1) (z := 2) (X := 12) (Y := 4) (Z := 8) rfl rfl rfl (by decide) (by decide) (by decide) (q2 4 _ (by omega) mL) m2) ?_
  rintro _ ⟨L3, rfl, l3, m3, q3⟩
  refine okP.some ⟨L3, rfl, l3, ?_, q3 0 _ (by omega) (q2 0 _ (by omega) mT)⟩
  rw [prod_app]; exact m3
 unfold F26
 rw [g0 x0 f1]
 simp only [Option.bind_some]
 apply okP.ite <;> intro c
 ·rw [i_lt, z0] at c
  have e : (fs - 1).toInt = fs.toInt - 1 := by
   rw [i_sub (by omega) (by omega), z1]
  obtain ⟨f', hf'⟩ : ∃ f', f' = fs - 1 := ⟨_, rfl⟩
  rw [← hf'] at e ⊢
  clear hf'
  have m := z5 f'.toInt.toNat (by omega)
  rw [show F.length - 1 - f'.toInt.toNat = 0 by omega, List.drop_zero] at m
  apply okP.bind
  refine okP.mono (lf_m h x0 x4 (y := f') (by omega) (by omega) (r := 1) (V := 4) (by decide) (by decide) rfl m) ?_
  rintro _ ⟨L, rfl, lL, mL, qL⟩
  exact tail L lL mL (qL 0 _ (by omega) hT)
 ·rw [i_lt, z0] at c
  obtain ⟨L, e1, lL, mL, qL⟩ := id_m h
  rw [e1]
  simp only [Option.bind_some]
  have : F = [] := List.eq_nil_of_length_eq_zero (by omega)
  rw [this] at tail ⊢
  exact tail L lL mL (qL 0 _ (by omega) hT)
theorem snap_m {C : Int32} {R S : List Int32} {n q : Int32} {o : Ob} (h : Sh C R S n q o) {x : Int32} (x0 : 0 ≤ x.toInt) (x4 : x.toInt < 4) {F B : List MX} {SN T : MX} (z : Zq o x.toInt.toNat F B SN) (hT : M4 (f_reg o) 0 T) : okP (F37 o x) (fun p => Sh C R S n q p ∧ Zq p x.toInt.toNat F B (prod (F ++ B)) ∧ M4 (f_reg p) 0 T ∧ ∀ y, y ≠ x.toInt.toNat → Keep o p y) := by
 unfold F37
 apply okP.bind
 refine okP.mono (fold_m h x0 x4 z hT) ?_
 rintro _ ⟨L, rfl, lL, mL, mT⟩
 have h2 := Sh_reg h (x := L) lL
 apply okP.bind
 refine okP.mono (sn_m h2 x0 x4 (r := 3) (U := 12) (by decide) (by decide) rfl mL) ?_
 rintro _ ⟨L3, rfl, l5, m3, q3⟩
 have h4 := Sh_snap h2 (x := L3) l5
 obtain ⟨z1, z2, z3, z4, z5, z6, z7⟩ := z
 refine okP.some ⟨h4, ⟨z1, z2, z3, z4, z5, m3, z7⟩, mT, fun y hy => ?_⟩
 refine (keep_reg _ _ _).trans (keep_sn _ ?_)
 intro k b1 b2
 exact q3 k (by omega)
theorem flip_m {C : Int32} {R S : List Int32} {n q : Int32} {o : Ob} (h : Sh C R S n q o) {x : Int32} (x0 : 0 ≤ x.toInt) (x4 : x.toInt < 4) {B : List MX} {SN T : MX} (z : Zq o x.toInt.toNat [] B SN) (hT : M4 (f_reg o) 0 T) : okP (F39 o x) (fun p => Sh C R S n q p ∧ Zq p x.toInt.toNat B [] SN ∧ M4 (f_reg p) 0 T ∧ ∀ y, y ≠ x.toInt.toNat → Keep o p y) := by
 have z0 : (0 : Int32).toInt = 0 := rfl
 have z1 : (1 : Int32).toInt = 1 := rfl
 have z32 : (32 : Int32).toInt = 32 := rfl
 have l1 := Sh_l_frontSize h
 have l2 := Sh_l_backSize h
 obtain ⟨⟨fs, f1, f2⟩, ⟨bs, b1, b2⟩, z3, z4, z5, z6, z7⟩ := z
 have z7' : B.length ≤ 32 := by
  have : ([] : List MX).length = 0 := rfl
  omega
 unfold F39
 rw [g0 x0 b1]
 simp only [Option.bind_some]
 rw [if_neg (show ¬ (32 : Int32) < bs by rw [i_lt, z32]; omega)]
 obtain ⟨L, e1, lL, mL, qL⟩ := id_m h
 rw [e1]
 simp only [Option.bind_some]
 have h2 := Sh_reg h (x := L) lL
 have lp : okP (loopN (B39_23 x bs) qN (0, s_reg o L)) (fun p => ∃ L FA, p = s_frontAgg (s_reg o L) FA ∧ L.length = 16 ∧ FA.length = 512 ∧ M4 L 0 T ∧ (∀ i, i < B.length → M4 FA ((x.toInt.toNat * 32 + i) * 4) (prod (B.drop (B.length - 1 - i)))) ∧ ∀ k, ¬ (x.toInt.toNat * 128 ≤ k ∧ k < x.toInt.toNat * 128 + 128) → FA[k]? = (f_frontAgg o)[k]?) := by
  refine okP.loop (fun v => 0 ≤ v.1.toInt ∧ v.1.toInt ≤ B.length ∧ ∃ L FA, v.2 = s_frontAgg (s_reg o L) FA ∧ L.length = 16 ∧ FA.length = 512 ∧ M4 L 0 T ∧ M4 L 4 (prod (B.drop (B.length - v.1.toInt.toNat))) ∧ (∀ i, i < v.1.toInt.toNat → M4 FA ((x.toInt.toNat * 32 + i) * 4) (prod (B.drop (B.length - 1 - i)))) ∧ ∀ k, ¬ (x.toInt.toNat * 128 ≤ k ∧ k < x.toInt.toNat * 128 + 128) → FA[k]? = (f_frontAgg o)[k]?) (fun v => (32 - v.1.toInt).toNat) ⟨by show (0 : Int) ≤ 0; decide, by show (0 : Int) ≤ _; omega, L, f_frontAgg o, rfl, lL, Sh_l_frontAgg h, qL 0 _ (by omega) hT, ?_, fun i hi => absurd hi (Nat.not_lt_zero _), fun _ _ => rfl⟩ (by show (32 - (0 : Int)).toNat < 4000; decide) ?_
  ·show M4 L 4 (prod (B.drop (B.length - 0)))
   rw [Nat.sub_zero, List.drop_length]; exact mL
  rintro ⟨i, p⟩ ⟨i0, i1, L, FA, hp, lL, lF, mT, mA, mF, kF⟩
  simp only at i0 i1 hp mA mF
  subst hp
  have h3 : Sh C R S n q (s_frontAgg (s_reg o L) FA) := Sh_frontAgg (Sh_reg h (x := L) lL) (x := FA) lF
  unfold B39_23
  simp only
  apply okP.ite <;> intro c
  ·rw [i_lt] at c
   have e2 : (i + 1).toInt = i.toInt + 1 := inc1 (by omega)
   have en : (i + 1).toInt.toNat = i.toInt.toNat + 1 := by omega
   have e3 : (bs - 1 - i).toInt = bs.toInt - 1 - i.toInt := by
    have e : (bs - 1).toInt = bs.toInt - 1 := by rw [i_sub (by omega) (by omega), z1]
    rw [i_sub (by omega) (by omega), e]
   obtain ⟨j, hj⟩ : ∃ j, j = bs - 1 - i := ⟨_, rfl⟩
   rw [← hj] at e3 ⊢
   clear hj
   have jl : j.toInt.toNat < B.length := by omega
   have mB : M4 (f_backElem (s_frontAgg (s_reg o L) FA)) ((x.toInt.toNat * 32 + j.toInt.toNat) * 4) B[j.toInt.toNat] := z4 j.toInt.toNat _ (List.getElem?_eq_getElem jl)
   apply okP.bind
   refine okP.mono (lb_m h3 x0 x4 (y := j) (by omega) (by omega) (r := 2) (V := 8) (by decide) (by decide) rfl mB) ?_
   rintro _ ⟨L2, rfl, l3, m3, q3⟩
   have h4 := Sh_reg h3 (x := L2) l3
   apply okP.bind
   refine okP.mono (mul_m h4 (x := 1) (y := 2) (z := 1) (X := 4) (Y := 8) (Z := 4) rfl rfl rfl (by decide) (by decide) (by decide) m3 (q3 4 _ (by omega) mA)) ?_
   rintro _ ⟨L3, rfl, l4, m4', q4⟩
   have h5 := Sh_reg h4 (x := L3) l4
   have pe : mm B[j.toInt.toNat] (prod (B.drop (B.length - i.toInt.toNat))) = prod (B.drop (B.length - (i.toInt.toNat + 1))) := by
    have ej : B.length - (i.toInt.toNat + 1) = j.toInt.toNat := by omega
    rw [ej, List.drop_eq_getElem_cons jl, show B.length - i.toInt.toNat = j.toInt.toNat + 1 by omega]
    rfl
   rw [pe] at m4'
   apply okP.bind
   refine okP.mono (sf_m h5 x0 x4 (y := i) i0 (by omega) (r := 1) (U := 4) (by decide) (by decide) rfl m4') ?_
   rintro _ ⟨FA2, rfl, l5, m5, q5⟩
   apply okP.some
   refine ⟨⟨by simp only; omega, by simp only; omega, L3, FA2, ?_, l4, l5, q4 0 _ (by omega) (q3 0 _ (by omega) mT), ?_, ?_, ?_⟩, by simp only; omega⟩
   ·dsimp only [s_frontAgg, s_reg, f_regTuple, f_regA, f_regB, f_regC, f_regCount, f_slots, f_range, f_slide, f_frontSize, f_backSize, f_backElem, f_frontAgg, f_backAgg, f_snap, f_reg, f_capacity, f_queries, f_n]
   ·simp only [en]; exact m4'
   ·intro k hk
    simp only [en] at hk
    by_cases e : k = i.toInt.toNat
    ·rw [e, show B.length - 1 - i.toInt.toNat = B.length - (i.toInt.toNat + 1) by omega]; exact m5
    ·refine M4_k (mF k (by omega)) (fun t a b => ?_)
     rw [q5 t (by omega)]; rfl
   ·intro k hk
    rw [q5 k (by omega)]
    exact kF k hk
  ·rw [i_lt] at c
   have : i.toInt.toNat = B.length := by omega
   rw [this] at mF
   exact okP.some ⟨L, FA, rfl, lL, lF, mT, mF, kF⟩
 apply okP.bind
 refine okP.mono lp ?_
 rintro _ ⟨L4, FA, rfl, l4, lF, mT, mF, kF⟩
 have h3 : Sh C R S n q (s_frontAgg (s_reg o L4) FA) := Sh_frontAgg (Sh_reg h (x := L4) l4) (x := FA) lF
 have y1 : f_frontSize (s_frontAgg (s_reg o L4) FA) = f_frontSize o := by dsimp only [f_regTuple, f_regA, f_regB, f_regC, f_regCount, f_slots, f_range, f_slide, f_frontSize, f_backSize, f_backElem, f_frontAgg, f_backAgg, f_snap, f_reg, f_capacity, f_queries, f_n, s_frontAgg, s_reg]
 have y2 : f_backSize (s_frontAgg (s_reg o L4) FA) = f_backSize o := by dsimp only [f_regTuple, f_regA, f_regB, f_regC, f_regCount, f_slots, f_range, f_slide, f_frontSize, f_backSize, f_backElem, f_frontAgg, f_backAgg, f_snap, f_reg, f_capacity, f_queries, f_n, s_frontAgg, s_reg]
 rw [y1, y2, aset_at (n := x.toInt.toNat) (by omega) (by omega)]
 simp only [Option.bind_some]
 rw [aset_at (n := x.toInt.toNat) (by omega) (by omega)]
 simp only [Option.bind_some]
 have h4 := Sh_backSize (Sh_frontSize h3 (x := (f_frontSize o).set x.toInt.toNat bs) (by rw [List.length_set]; exact l1)) (x := (f_backSize o).set x.toInt.toNat 0) (by rw [List.length_set]; exact l2)
 obtain ⟨o1, ho1⟩ : ∃ o1, o1 = s_backSize (s_frontSize (s_frontAgg (s_reg o L4) FA) ((f_frontSize o).set x.toInt.toNat bs)) ((f_backSize o).set x.toInt.toNat 0) := ⟨_, rfl⟩
 rw [← ho1] at h4 ⊢
 have g1 : f_frontSize o1 = (f_frontSize o).set x.toInt.toNat bs := by rw [ho1]; dsimp only [f_regTuple, f_regA, f_regB, f_regC, f_regCount, f_slots, f_range, f_slide, f_frontSize, f_backSize, f_backElem, f_frontAgg, f_backAgg, f_snap, f_reg, f_capacity, f_queries, f_n, s_frontAgg, s_reg, s_backSize, s_frontSize]
 have g2 : f_backSize o1 = (f_backSize o).set x.toInt.toNat 0 := by rw [ho1]; dsimp only [f_regTuple, f_regA, f_regB, f_regC, f_regCount, f_slots, f_range, f_slide, f_frontSize, f_backSize, f_backElem, f_frontAgg, f_backAgg, f_snap, f_reg, f_capacity, f_queries, f_n, s_frontAgg, s_reg, s_backSize, s_frontSize]
 have g3 : f_frontAgg o1 = FA := by rw [ho1]; dsimp only [f_regTuple, f_regA, f_regB, f_regC, f_regCount, f_slots, f_range, f_slide, f_frontSize, f_backSize, f_backElem, f_frontAgg, f_backAgg, f_snap, f_reg, f_capacity, f_queries, f_n, s_frontAgg, s_reg, s_backSize, s_frontSize]
 have g4 : f_snap o1 = f_snap o := by rw [ho1]; dsimp only [f_regTuple, f_regA, f_regB, f_regC, f_regCount, f_slots, f_range, f_slide, f_frontSize, f_backSize, f_backElem, f_frontAgg, f_backAgg, f_snap, f_reg, f_capacity, f_queries, f_n, s_frontAgg, s_reg, s_backSize, s_frontSize]
 have g5 : f_reg o1 = L4 := by rw [ho1]; dsimp only [f_regTuple, f_regA, f_regB, f_regC, f_regCount, f_slots, f_range, f_slide, f_frontSize, f_backSize, f_backElem, f_frontAgg, f_backAgg, f_snap, f_reg, f_capacity, f_queries, f_n, s_frontAgg, s_reg, s_backSize, s_frontSize]
 have k1 : ∀ y, y ≠ x.toInt.toNat → Keep o o1 y := by
  intro y hy
  rw [ho1]
  refine (keep_reg o L4 y).trans ((keep_fa _ ?_).trans ((keep_fs _ ?_).trans (keep_bs _ ?_)))
  ·intro k a b
   exact kF k (by omega)
  ·rw [List.getElem?_set_ne (fun e => hy e.symm)]; exact congrArg (fun l : List Int32 => l[y]?) y1.symm
  ·rw [List.getElem?_set_ne (fun e => hy e.symm)]
   have : f_backSize (s_frontSize (s_frontAgg (s_reg o L4) FA) ((f_frontSize o).set x.toInt.toNat bs)) = f_backSize o := by dsimp only [f_regTuple, f_regA, f_regB, f_regC, f_regCount, f_slots, f_range, f_slide, f_frontSize, f_backSize, f_backElem, f_frontAgg, f_backAgg, f_snap, f_reg, f_capacity, f_queries, f_n, s_frontAgg, s_reg, s_backSize, s_frontSize]
   rw [this]
 clear ho1
 obtain ⟨L5, e5, l5, m5, q5⟩ := id_m h4
 rw [e5]
 simp only [Option.bind_some]
 have h5 := Sh_reg h4 (x := L5) l5
 apply okP.bind
 refine okP.mono (ba_m h5 x0 x4 (r := 1) (U := 4) (by decide) (by decide) rfl m5) ?_
 rintro _ ⟨L6, rfl, l6, m6, q6⟩
 have h6 := Sh_backAgg h5 (x := L6) l6
 rw [← g5] at mT
 have w1 : f_frontSize (s_backAgg (s_reg o1 L5) L6) = f_frontSize o1 := by dsimp only [f_regTuple, f_regA, f_regB, f_regC, f_regCount, f_slots, f_range, f_slide, f_frontSize, f_backSize, f_backElem, f_frontAgg, f_backAgg, f_snap, f_reg, f_capacity, f_queries, f_n, s_backAgg, s_reg]
 have w2 : f_backSize (s_backAgg (s_reg o1 L5) L6) = f_backSize o1 := by dsimp only [f_regTuple, f_regA, f_regB, f_regC, f_regCount, f_slots, f_range, f_slide, f_frontSize, f_backSize, f_backElem, f_frontAgg, f_backAgg, f_snap, f_reg, f_capacity, f_queries, f_n, s_backAgg, s_reg]
 have w3 : f_frontAgg (s_backAgg (s_reg o1 L5) L6) = f_frontAgg o1 := by dsimp only [f_regTuple, f_regA, f_regB, f_regC, f_regCount, f_slots, f_range, f_slide, f_frontSize, f_backSize, f_backElem, f_frontAgg, f_backAgg, f_snap, f_reg, f_capacity, f_queries, f_n, s_backAgg, s_reg]
 have w4 : f_snap (s_backAgg (s_reg o1 L5) L6) = f_snap o1 := by dsimp only [f_regTuple, f_regA, f_regB, f_regC, f_regCount, f_slots, f_range, f_slide, f_frontSize, f_backSize, f_backElem, f_frontAgg, f_backAgg, f_snap, f_reg, f_capacity, f_queries, f_n, s_backAgg, s_reg]
 have w5 : f_reg (s_backAgg (s_reg o1 L5) L6) = L5 := by dsimp only [f_regTuple, f_regA, f_regB, f_regC, f_regCount, f_slots, f_range, f_slide, f_frontSize, f_backSize, f_backElem, f_frontAgg, f_backAgg, f_snap, f_reg, f_capacity, f_queries, f_n, s_backAgg, s_reg]
 have w6 : f_backAgg (s_backAgg (s_reg o1 L5) L6) = L6 := by dsimp only [f_regTuple, f_regA, f_regB, f_regC, f_regCount, f_slots, f_range, f_slide, f_frontSize, f_backSize, f_backElem, f_frontAgg, f_backAgg, f_snap, f_reg, f_capacity, f_queries, f_n, s_backAgg, s_reg]
 refine okP.some ⟨h6, ⟨⟨bs, ?_, b2⟩, ⟨0, ?_, rfl⟩, ?_, fun j m hj => by simp at hj, ?_, ?_, ?_⟩, ?_, fun y hy => ?_⟩
 ·rw [w1, g1, List.getElem?_set_self (by omega)]
 ·rw [w2, g2, List.getElem?_set_self (by omega)]
 ·rw [w6]; exact m6
 ·rw [w3, g3]; exact mF
 ·rw [w4, g4]; exact z6
 ·show B.length + 0 ≤ 32; omega
 ·rw [w5]; exact q5 0 _ (by omega) mT
 ·refine (k1 y hy).trans ((keep_reg _ _ _).trans (keep_ba _ ?_))
  intro k a b
  exact q6 k (by omega)
theorem evict_m {C : Int32} {R S : List Int32} {n q : Int32} {o : Ob} (h : Sh C R S n q o) {x : Int32} (x0 : 0 ≤ x.toInt) (x4 : x.toInt < 4) {F B : List MX} {SN T : MX} (z : Zq o x.toInt.toNat F B SN) (hT : M4 (f_reg o) 0 T) : okP (F38 o x) (fun p => Sh C R S n q p ∧ (∃ F' B', F' ++ B' = (F ++ B).tail ∧ Zq p x.toInt.toNat F' B' SN) ∧ M4 (f_reg p) 0 T ∧ ∀ y, y ≠ x.toInt.toNat → Keep o p y) := by
 have z0 : (0 : Int32).toInt = 0 := rfl
 have z1 : (1 : Int32).toInt = 1 := rfl
 have tail : ∀ {p : Ob} {F B : List MX}, Sh C R S n q p → Zq p x.toInt.toNat F B SN → (F = [] → B = []) → M4 (f_reg p) 0 T → okP (J38_14 p x) (fun r => Sh C R S n q r ∧ (∃ F' B', F' ++ B' = (F ++ B).tail ∧ Zq r x.toInt.toNat F' B' SN) ∧ M4 (f_reg r) 0 T ∧ ∀ y, y ≠ x.toInt.toNat → Keep p r y) := by
  intro p F B hp z hF mT
  have l1 := Sh_l_frontSize hp
  have z' := z
  obtain ⟨⟨fs, f1, f2⟩, ⟨bs, b1, b2⟩, z3, z4, z5, z6, z7⟩ := z'
  unfold J38_14
  rw [g0 x0 f1]
  simp only [Option.bind_some]
  apply okP.ite <;> intro c
  ·rw [i_lt, z0] at c
   have e : (fs - 1).toInt = fs.toInt - 1 := by rw [i_sub (by omega) (by omega), z1]
   rw [aset_at (n := x.toInt.toNat) (by omega) (by omega)]
   simp only [Option.bind_some]
   have h2 := Sh_frontSize hp (x := (f_frontSize p).set x.toInt.toNat (fs - 1)) (by rw [List.length_set]; exact l1)
   cases F with
   | nil => simp at f2; omega
   | cons A F =>
    have f2' : fs.toInt = F.length + 1 := f2
    have w1 : f_frontSize (s_frontSize p ((f_frontSize p).set x.toInt.toNat (fs - 1))) = (f_frontSize p).set x.toInt.toNat (fs - 1) := by dsimp only [f_regTuple, f_regA, f_regB, f_regC, f_regCount, f_slots, f_range, f_slide, f_frontSize, f_backSize, f_backElem, f_frontAgg, f_backAgg, f_snap, f_reg, f_capacity, f_queries, f_n, s_frontSize]
    refine okP.some ⟨h2, ⟨F, B, rfl, ⟨fs - 1, ?_, by omega⟩, ⟨bs, b1, b2⟩, z3, z4, ?_, z6, ?_⟩, mT, fun y hy => keep_fs _ (by rw [List.getElem?_set_ne (fun e => hy e.symm)])⟩
    ·rw [w1, List.getElem?_set_self (by omega)]
    ·intro i hi
     have := z5 i (by show i < F.length + 1; omega)
     rw [show (A :: F).length - 1 - i = (F.length - 1 - i) + 1 by show F.length + 1 - 1 - i = _; omega, List.drop_succ_cons] at this
     exact this
    ·have : (A :: F).length = F.length + 1 := rfl
     omega
  ·rw [i_lt, z0] at c
   have e1 : F = [] := List.eq_nil_of_length_eq_zero (by omega)
   have e2 := hF e1
   subst e1
   subst e2
   exact okP.some ⟨hp, ⟨[], [], rfl, z⟩, mT, fun y _ => Keep.refl _ _⟩
 unfold F38
 obtain ⟨⟨fs, f1, f2⟩, _⟩ := id z
 rw [g0 x0 f1]
 simp only [Option.bind_some]
 apply okP.ite <;> intro c
 ·have e1 : F = [] := List.eq_nil_of_length_eq_zero (by rw [c, z0] at f2; omega)
  subst e1
  apply okP.bind
  refine okP.mono (flip_m h x0 x4 z hT) ?_
  rintro p ⟨hp, zp, mp, kp⟩
  refine okP.mono (tail hp zp (fun _ => rfl) mp) ?_
  rintro r ⟨hr, ⟨F', B', e, zr⟩, mr, kr⟩
  exact ⟨hr, ⟨F', B', by rw [e, List.append_nil]; rfl, zr⟩, mr, fun y hy => (kp y hy).trans (kr y hy)⟩
 ·refine tail h z (fun e => absurd ?_ c) hT
  rw [e] at f2
  rw [i_eq, z0]
  exact f2
theorem app_m {C : Int32} {R S : List Int32} {n q : Int32} {o : Ob} (h : Sh C R S n q o) {x : Int32} (x0 : 0 ≤ x.toInt) (x4 : x.toInt < 4) {F B : List MX} {SN T : MX} (z : Zq o x.toInt.toNat F B SN) (hT : M4 (f_reg o) 0 T) {r : Int32} (hr : R[x.toInt.toNat]? = some r) (r1 : 1 ≤ r.toInt) (r32 : r.toInt ≤ 32) (hw : (F ++ B).length ≤ r.toInt) : okP (F33 o x) (fun p => Sh C R S n q p ∧ (∃ F' B', F' ++ B' = (if (F ++ B).length < r.toInt then F ++ B else (F ++ B).tail) ++ [T] ∧ Zq p x.toInt.toNat F' B' SN) ∧ M4 (f_reg p) 0 T ∧ ∀ y, y ≠ x.toInt.toNat → Keep o p y) := by
 have z0 : (0 : Int32).toInt = 0 := rfl
 have tail : ∀ {p : Ob} {F B : List MX}, Sh C R S n q p → Zq p x.toInt.toNat F B SN → (F ++ B).length < 32 → M4 (f_reg p) 0 T → okP (J33_39 p x) (fun r => Sh C R S n q r ∧ (∃ F' B', F' ++ B' = (F ++ B) ++ [T] ∧ Zq r x.toInt.toNat F' B' SN) ∧ M4 (f_reg r) 0 T ∧ ∀ y, y ≠ x.toInt.toNat → Keep p r y) := by
  intro p F B hp z hl mT
  rw [List.length_append] at hl
  obtain ⟨⟨fs, f1, f2⟩, ⟨bs, b1, b2⟩, z3, z4, z5, z6, z7⟩ := z
  unfold J33_39
  rw [g0 x0 b1]
  simp only [Option.bind_some]
  rw [vsl x0 x4 (y := bs) (by omega) (by omega)]
  simp only [Option.bind_some]
  rw [if_neg (by decide)]
  have bn : bs.toInt.toNat = B.length := by omega
  apply okP.bind
  refine okP.mono (sb_m hp x0 x4 (y := bs) (by omega) (by omega) (r := 0) (U := 0) (by decide) (by decide) rfl mT) ?_
  rintro _ ⟨E, rfl, lE, mE, qE⟩
  rw [bn] at mE qE
  have h2 := Sh_backElem hp (x := E) lE
  apply okP.bind
  refine okP.mono (ld_m h2 x0 x4 (r := 1) (V := 4) (by decide) (by decide) rfl z3) ?_
  rintro _ ⟨L2, rfl, l2, m2, q2⟩
  have h3 := Sh_reg h2 (x := L2) l2
  have mT2 := q2 0 _ (by omega) mT
  apply okP.bind
  refine okP.mono (mul_m h3 (x := 1) (y := 1) (z := 0) (X := 4) (Y := 4) (Z := 0) rfl rfl rfl (by decide) (by decide) (by decide) m2 mT2) ?_
  rintro _ ⟨L3, rfl, l3, m3, q3⟩
  have h4 := Sh_reg h3 (x := L3) l3
  have mT3 := q3 0 _ (by omega) mT2
  apply okP.bind
  refine okP.mono (ba_m h4 x0 x4 (r := 1) (U := 4) (by decide) (by decide) rfl m3) ?_
  rintro _ ⟨L5, rfl, l5, m5, q5⟩
  have h5 := Sh_backAgg h4 (x := L5) l5
  have l6 := Sh_l_backSize h5
  obtain ⟨u, hu⟩ : ∃ u, u = s_backAgg (s_reg (s_reg (s_backElem p E) L2) L3) L5 := ⟨_, rfl⟩
  have u1 : f_frontSize u = f_frontSize p := by rw [hu]; dsimp only [f_regTuple, f_regA, f_regB, f_regC, f_regCount, f_slots, f_range, f_slide, f_frontSize, f_backSize, f_backElem, f_frontAgg, f_backAgg, f_snap, f_reg, f_capacity, f_queries, f_n, s_backAgg, s_reg, s_backElem]
  have u2 : f_backSize u = f_backSize p := by rw [hu]; dsimp only [f_regTuple, f_regA, f_regB, f_regC, f_regCount, f_slots, f_range, f_slide, f_frontSize, f_backSize, f_backElem, f_frontAgg, f_backAgg, f_snap, f_reg, f_capacity, f_queries, f_n, s_backAgg, s_reg, s_backElem]
  have u3 : f_backAgg u = L5 := by rw [hu]; dsimp only [f_regTuple, f_regA, f_regB, f_regC, f_regCount, f_slots, f_range, f_slide, f_frontSize, f_backSize, f_backElem, f_frontAgg, f_backAgg, f_snap, f_reg, f_capacity, f_queries, f_n, s_backAgg, s_reg, s_backElem]
  have u4 : f_backElem u = E := by rw [hu]; dsimp only [f_regTuple, f_regA, f_regB, f_regC, f_regCount, f_slots, f_range, f_slide, f_frontSize, f_backSize, f_backElem, f_frontAgg, f_backAgg, f_snap, f_reg, f_capacity, f_queries, f_n, s_backAgg, s_reg, s_backElem]
  have u5 : f_frontAgg u = f_frontAgg p := by rw [hu]; dsimp only [f_regTuple, f_regA, f_regB, f_regC, f_regCount, f_slots, f_range, f_slide, f_frontSize, f_backSize, f_backElem, f_frontAgg, f_backAgg, f_snap, f_reg, f_capacity, f_queries, f_n, s_backAgg, s_reg, s_backElem]
  have u6 : f_snap u = f_snap p := by rw [hu]; dsimp only [f_regTuple, f_regA, f_regB, f_regC, f_regCount, f_slots, f_range, f_slide, f_frontSize, f_backSize, f_backElem, f_frontAgg, f_backAgg, f_snap, f_reg, f_capacity, f_queries, f_n, s_backAgg, s_reg, s_backElem]
  have u7 : f_reg u = L3 := by rw [hu]; dsimp only [f_regTuple, f_regA, f_regB, f_regC, f_regCount, f_slots, f_range, f_slide, f_frontSize, f_backSize, f_backElem, f_frontAgg, f_backAgg, f_snap, f_reg, f_capacity, f_queries, f_n, s_backAgg, s_reg, s_backElem]
  have ku : ∀ y, y ≠ x.toInt.toNat → Keep p u y := by
   intro y hy
   rw [hu]
   refine (keep_be p ?_).trans ((keep_reg _ _ _).trans ((keep_reg _ _ _).trans (keep_ba _ ?_)))
   ·intro k a b
    exact qE k (by omega)
   ·intro k a b
    exact q5 k (by omega)
  rw [← hu] at h5 l6 ⊢
  clear hu
  rw [aset_at (n := x.toInt.toNat) (by omega) (by omega)]
  simp only [Option.bind_some]
  have h6 := Sh_backSize h5 (x := (f_backSize u).set x.toInt.toNat (bs + 1)) (by rw [List.length_set]; exact l6)
  have b3 : (bs + 1).toInt = bs.toInt + 1 := inc1 (by omega)
  refine okP.some ⟨h6, ⟨F, B ++ [T], by rw [List.append_assoc], ⟨fs, ?_, f2⟩, ⟨bs + 1, ?_, ?_⟩, ?_, ?_, ?_, ?_, ?_⟩, ?_, fun y hy => (ku y hy).trans (keep_bs _ (by rw [List.getElem?_set_ne (fun e => hy e.symm)]))⟩
  ·show (f_frontSize u)[_]? = _
   rw [u1]; exact f1
  ·show ((f_backSize u).set x.toInt.toNat (bs + 1))[_]? = _
   rw [List.getElem?_set_self (by omega)]
  ·rw [b3, b2, List.length_append]; rfl
  ·show M4 (f_backAgg u) _ _
   rw [u3, prod_snoc]; exact m5
  ·intro j m hj
   show M4 (f_backElem u) _ _
   rw [u4]
   by_cases e : j = B.length
   ·subst e
    rw [List.getElem?_append_right (Nat.le_refl _), Nat.sub_self] at hj
    cases hj
    exact mE
   ·have jl : j < B.length := by
     obtain ⟨l, _⟩ := List.getElem?_eq_some_iff.1 hj
     rw [List.length_append] at l
     have : [T].length = 1 := rfl
     omega
    rw [List.getElem?_append_left jl] at hj
    exact M4_k (z4 j m hj) (fun i a b => qE i (by omega))
  ·intro i hi
   show M4 (f_frontAgg u) _ _
   rw [u5]; exact z5 i hi
  ·show M4 (f_snap u) _ _
   rw [u6]; exact z6
  ·rw [List.length_append]
   have : [T].length = 1 := rfl
   omega
  ·show M4 (f_reg u) 0 T
   rw [u7]; exact mT3
 obtain ⟨⟨fs, f1, f2⟩, ⟨bs, b1, b2⟩, _⟩ := id z
 unfold F33
 rw [if_neg (by rw [i_lt]; show ¬ x.toInt < 0; omega), if_pos (by rw [i_lt]; exact x4), g0 x0 f1, g0 x0 b1, Sh_R h, g0 x0 hr]
 simp only [Option.bind_some]
 have e : (fs + bs).toInt = (F ++ B).length := by
  rw [List.length_append] at hw ⊢
  rw [i_add (by omega) (by omega)]; omega
 apply okP.ite <;> intro c
 ·rw [i_lt, e] at c
  rw [if_pos c]
  exact tail h z (by omega) hT
 ·rw [i_lt, e] at c
  rw [if_neg c]
  apply okP.bind
  refine okP.mono (evict_m h x0 x4 z hT) ?_
  rintro p ⟨hp, ⟨F', B', ew, zp⟩, mp, kp⟩
  refine okP.mono (tail hp zp (by rw [ew, List.length_tail]; omega) mp) ?_
  rintro w ⟨hw', ⟨F2, B2, e2, zw⟩, mw, kw⟩
  exact ⟨hw', ⟨F2, B2, by rw [e2, ew], zw⟩, mw, fun y hy => (kp y hy).trans (kw y hy)⟩
def lastr (r : Nat) (l : List MX) : List MX := l.drop (l.length - r)
theorem lastr_len (r : Nat) (l : List MX) : (lastr r l).length ≤ r ∧ (lastr r l).length ≤ l.length ∧ (r ≤ l.length → (lastr r l).length = r) := by
 unfold lastr
 rw [List.length_drop]
 omega
theorem lastr_snoc {r : Nat} (h : 1 ≤ r) (l : List MX) (T : MX) : lastr r (l ++ [T]) = (if (lastr r l).length < r then lastr r l else (lastr r l).tail) ++ [T] := by
 have e1 : (l ++ [T]).length = l.length + 1 := by rw [List.length_append]; rfl
 by_cases c : l.length < r
 ·have : (lastr r l).length < r := by have := (lastr_len r l).2.1; omega
  rw [if_pos this]
  unfold lastr
  rw [e1, show l.length + 1 - r = 0 by omega, show l.length - r = 0 by omega, List.drop_zero, List.drop_zero]
 ·have : ¬ (lastr r l).length < r := by have := (lastr_len r l).2.2 (by omega); omega
  rw [if_neg this]
  unfold lastr
  rw [e1, List.tail_drop, List.drop_append_of_le_length (by omega), show l.length + 1 - r = l.length - r + 1 by omega]
def SNv (r s : Nat) (H : List MX) : MX := prod (lastr r (H.take (s * (H.length / s))))
theorem SNv_hit {r s : Nat} {H : List MX} {T : MX} (h : (H.length + 1) % s = 0) : SNv r s (H ++ [T]) = prod (lastr r (H ++ [T])) := by
 have e1 : (H ++ [T]).length = H.length + 1 := by rw [List.length_append]; rfl
 have e2 : s * ((H.length + 1) / s) = H.length + 1 := by
  have := Nat.div_add_mod (H.length + 1) s
  omega
 unfold SNv
 rw [e1, e2, List.take_of_length_le (by omega)]
theorem SNv_miss {r s : Nat} {H : List MX} {T : MX} (s1 : 1 ≤ s) (h : ¬ (H.length + 1) % s = 0) : SNv r s (H ++ [T]) = SNv r s H := by
 have e1 : (H ++ [T]).length = H.length + 1 := by rw [List.length_append]; rfl
 have e2 : (H.length + 1) / s = H.length / s := by
  rw [Nat.succ_div, if_neg (fun q => h (Nat.mod_eq_zero_of_dvd q))]
  rfl
 have e3 : s * (H.length / s) ≤ H.length := Nat.mul_div_le _ _
 unfold SNv
 rw [e1, e2, List.take_append_of_le_length e3]
def Qo (o : Ob) (R S : List Int32) (H : List MX) (x : Nat) : Prop := ∃ r s : Int32, R[x]? = some r ∧ S[x]? = some s ∧ (1 ≤ r.toInt ∧ r.toInt ≤ 32) ∧ (1 ≤ s.toInt ∧ s.toInt ≤ 32) ∧ ∃ F B, F ++ B = lastr r.toInt.toNat H ∧ Zq o x F B (SNv r.toInt.toNat s.toInt.toNat H)
def St (C : Int32) (R S : List Int32) (q : Int32) (H : List MX) (o : Ob) : Prop := ∃ n : Int32, Sh C R S n q o ∧ n.toInt = H.length ∧ H.length ≤ 1000 ∧ (0 ≤ q.toInt ∧ q.toInt ≤ 4) ∧ R.length = 4 ∧ S.length = 4 ∧ ∀ x, x < q.toInt.toNat → Qo o R S H x
theorem Qo.keep {o p : Ob} {R S : List Int32} {H : List MX} {x : Nat} (h : Qo o R S H x) (k : Keep o p x) : Qo p R S H x := by
 obtain ⟨r, s, h1, h2, h3, h4, F, B, h5, h6⟩ := h
 exact ⟨r, s, h1, h2, h3, h4, F, B, h5, h6.keep k⟩
def hit (S : List Int32) (n : Nat) (x : Nat) : Bool := n % ((S[x]?).getD 0).toInt.toNat == 0
def cM (S : List Int32) (n k : Nat) : Nat := ((List.range k).filter (hit S n)).length
theorem cM_s (S : List Int32) (n k : Nat) : cM S n (k + 1) = if hit S n k then cM S n k + 1 else cM S n k := by
 unfold cM
 rw [List.range_succ, List.filter_append, List.length_append]
 by_cases h : hit S n k = true
 ·rw [if_pos h, List.filter_cons_of_pos h]; rfl
 ·rw [if_neg h, List.filter_cons_of_neg h]; rfl
theorem cM_le (S : List Int32) (n k : Nat) : cM S n k ≤ k := by
 have := List.length_filter_le (hit S n) (List.range k)
 rw [List.length_range] at this
 exact this
theorem rem_i {x y : Int32} (hx : 0 ≤ x.toInt) (hy : 1 ≤ y.toInt) : (x % y).toInt = (x.toInt.toNat % y.toInt.toNat : Nat) := by
 rw [Int32.toInt_mod, Int.tmod_eq_emod_of_nonneg hx]
 have e1 : x.toInt = (x.toInt.toNat : Int) := by omega
 have e2 : y.toInt = (y.toInt.toNat : Int) := by omega
 rw [e1, e2]
 simp
theorem push_m {C : Int32} {R S : List Int32} {q : Int32} {H : List MX} {o : Ob} (h : St C R S q H o) (hH : H.length < 1000) (a b c d : Int32) : okP (F32 o a b c d) (fun r => St C R S q (H ++ [(a, b, c, d)]) r.2 ∧ r.1.toInt = cM S (H.length + 1) q.toInt.toNat) := by
 obtain ⟨n, hS, hn, _, hq, lR, lS, hQ⟩ := h
 have z0 : (0 : Int32).toInt = 0 := rfl
 have z1 : (1 : Int32).toInt = 1 := rfl
 have n1 : (n + 1).toInt = n.toInt + 1 := inc1 (by omega)
 unfold F32
 rw [Sh_N hS]
 have hS1 : Sh C R S (n + 1) q (s_n o (n + 1)) := by
  dsimp only [Sh, f_regTuple, f_regA, f_regB, f_regC, f_regCount, f_slots, f_range, f_slide, f_frontSize, f_backSize, f_backElem, f_frontAgg, f_backAgg, f_snap, f_reg, f_capacity, f_queries, f_n, s_n] at hS ⊢
  obtain ⟨y1, y2, y3, y4, y5, y6, y7, y8, y9, y10, y11, y12⟩ := hS
  exact ⟨y1, y2, y3, y4, y5, y6, y7, y8, y9, rfl, y11, y12⟩
 have lr := Sh_l_reg hS1
 rw [set_ex hS1 (x := 0) (by decide) (by decide)]
 simp only [Option.bind_some]
 have mT : M4 (((((f_reg (s_n o (n + 1))).set ((0 : Int32).toInt.toNat * 4) a).set ((0 : Int32).toInt.toNat * 4 + 1) b).set ((0 : Int32).toInt.toNat * 4 + 2) c).set ((0 : Int32).toInt.toNat * 4 + 3) d) 0 (a, b, c, d) := by
  have e : (0 : Int32).toInt.toNat * 4 = 0 := rfl
  rw [e]
  refine ⟨?_, ?_, ?_, ?_⟩
  ·rw [List.getElem?_set_ne (by decide), List.getElem?_set_ne (by decide), List.getElem?_set_ne (by decide), List.getElem?_set_self (by omega)]
  ·rw [List.getElem?_set_ne (by decide), List.getElem?_set_ne (by decide), List.getElem?_set_self (by simp only [List.length_set]; omega)]
  ·rw [List.getElem?_set_ne (by decide), List.getElem?_set_self (by simp only [List.length_set]; omega)]
  ·rw [List.getElem?_set_self (by simp only [List.length_set]; omega)]
 obtain ⟨L, hL⟩ : ∃ L, L = ((((f_reg (s_n o (n + 1))).set ((0 : Int32).toInt.toNat * 4) a).set ((0 : Int32).toInt.toNat * 4 + 1) b).set ((0 : Int32).toInt.toNat * 4 + 2) c).set ((0 : Int32).toInt.toNat * 4 + 3) d := ⟨_, rfl⟩
 have lL : L.length = 16 := by rw [hL]; simp only [List.length_set]; exact lr
 rw [← hL] at mT ⊢
 clear hL
 have hS2 := Sh_reg hS1 (x := L) lL
 have hH1 : (H ++ [(a, b, c, d)]).length = H.length + 1 := by rw [List.length_append]; rfl
 apply okP.bind
 refine okP.mono (P := fun (e : Int32 × Ob) => Sh C R S (n + 1) q e.2 ∧ (∀ x, x < q.toInt.toNat → Qo e.2 R S (H ++ [(a, b, c, d)]) x) ∧ e.1.toInt = cM S (H.length + 1) q.toInt.toNat) ?_ (fun e he => okP.some ⟨⟨n + 1, he.1, by omega, by omega, hq, lR, lS, he.2.1⟩, he.2.2⟩)
 refine okP.loop (fun v => 0 ≤ v.2.1.toInt ∧ v.2.1.toInt ≤ q.toInt ∧ Sh C R S (n + 1) q v.2.2 ∧ M4 (f_reg v.2.2) 0 (a, b, c, d) ∧ (∀ x, x < v.2.1.toInt.toNat → Qo v.2.2 R S (H ++ [(a, b, c, d)]) x) ∧ (∀ x, v.2.1.toInt.toNat ≤ x → x < q.toInt.toNat → Qo v.2.2 R S H x) ∧ v.1.toInt = cM S (H.length + 1) v.2.1.toInt.toNat) (fun v => (4 - v.2.1.toInt).toNat) ⟨by show (0 : Int) ≤ 0; decide, by show (0 : Int) ≤ q.toInt; omega, hS2, mT, fun x hx => absurd hx (Nat.not_lt_zero _), fun x _ hx => (hQ x hx).keep ((keep_n _ _ _).trans (keep_reg _ _ _)), rfl⟩ (by show (4 - (0 : Int)).toNat < 4000; decide) ?_
 rintro ⟨w, x, p⟩ ⟨x0, x1, hp, mp, hnew, hold, hw⟩
 simp only at x0 x1 hp mp hnew hold hw
 unfold B32_26
 simp only
 rw [Sh_Q hp]
 apply okP.ite <;> intro cc
 ·rw [i_lt] at cc
  have e2 : (x + 1).toInt = x.toInt + 1 := inc1 (by omega)
  have en : (x + 1).toInt.toNat = x.toInt.toNat + 1 := by omega
  obtain ⟨r, s, hr, hs, r1, s1, F, B, hFB, zq⟩ := hold x.toInt.toNat (Nat.le_refl _) (by omega)
  have ll := (lastr_len r.toInt.toNat H).1
  rw [← hFB] at ll
  apply okP.bind
  refine okP.mono (app_m hp x0 (by omega) zq mp hr r1.1 r1.2 (by omega)) ?_
  rintro p2 ⟨hp2, ⟨F', B', eF, zq2⟩, mp2, kp2⟩
  have eL : F' ++ B' = lastr r.toInt.toNat (H ++ [(a, b, c, d)]) := by
   rw [eF, lastr_snoc (by omega), ← hFB]
   congr 1
   by_cases q' : (F ++ B).length < r.toInt.toNat
   ·rw [if_pos q', if_pos (by omega)]
   ·rw [if_neg q', if_neg (by omega)]
  have g1 : S[x.toInt.toNat]?.getD 0 = s := by rw [hs]; rfl
  rw [Sh_S hp2, g0 x0 hs]
  simp only [Option.bind_some]
  rw [if_neg (by rw [i_lt, z1]; omega), Sh_N hp2]
  have qe : qrem (n + 1) s = some ((n + 1) % s) := by
   unfold qrem
   rw [if_neg (by rw [i_eq, z0]; omega)]
  rw [qe]
  simp only [Option.bind_some]
  have re := rem_i (x := n + 1) (y := s) (by omega) s1.1
  have nn : (n + 1).toInt.toNat = H.length + 1 := by omega
  rw [nn] at re
  have old2 : ∀ {u : Ob}, (∀ y, y ≠ x.toInt.toNat → Keep p2 u y) → ∀ y, x.toInt.toNat + 1 ≤ y → y < q.toInt.toNat → Qo u R S H y := fun k y y1 y2 => ((hold y (by omega) y2).keep (kp2 y (by omega))).keep (k y (by omega))
  have new2 : ∀ {u : Ob}, (∀ y, y ≠ x.toInt.toNat → Keep p2 u y) → ∀ y, y < x.toInt.toNat → Qo u R S (H ++ [(a, b, c, d)]) y := fun k y y1 => ((hnew y y1).keep (kp2 y (by omega))).keep (k y (by omega))
  unfold J32_75
  have cl := cM_le S (H.length + 1) x.toInt.toNat
  have w1 : (w + 1).toInt = w.toInt + 1 := inc1 (by omega)
  by_cases dv : (H.length + 1) % s.toInt.toNat = 0
  ·rw [if_pos (by rw [i_eq, re, dv]; rfl)]
   apply okP.bind
   refine okP.mono (snap_m hp2 x0 (by omega) zq2 mp2) ?_
   rintro p3 ⟨hp3, zq3, mp3, kp3⟩
   apply okP.some
   refine ⟨⟨by simp only; omega, by simp only; omega, hp3, mp3, ?_, ?_, ?_⟩, by simp only; omega⟩
   ·intro y hy
    simp only [en] at hy
    by_cases e : y = x.toInt.toNat
    ·rw [e]
     exact ⟨r, s, hr, hs, r1, s1, F', B', eL, by rw [SNv_hit dv, ← eL]; exact zq3⟩
    ·exact new2 kp3 y (by omega)
   ·intro y y1 y2
    simp only [en] at y1
    exact old2 kp3 y y1 y2
   ·simp only [en]
    rw [cM_s, show hit S (H.length + 1) x.toInt.toNat = true from by unfold hit; rw [g1, dv]; rfl, if_pos rfl, w1, hw]; rfl
  ·rw [if_neg (by rw [i_eq, re, z0]; omega)]
   apply okP.some
   refine ⟨⟨by simp only; omega, by simp only; omega, hp2, mp2, ?_, ?_, ?_⟩, by simp only; omega⟩
   ·intro y hy
    simp only [en] at hy
    by_cases e : y = x.toInt.toNat
    ·rw [e]
     exact ⟨r, s, hr, hs, r1, s1, F', B', eL, by rw [SNv_miss (by omega) dv]; exact zq2⟩
    ·exact new2 (fun y _ => Keep.refl _ _) y (by omega)
   ·intro y y1 y2
    simp only [en] at y1
    exact old2 (fun y _ => Keep.refl _ _) y y1 y2
   ·simp only [en]
    rw [cM_s, show hit S (H.length + 1) x.toInt.toNat = false from by unfold hit; rw [g1]; exact beq_false_of_ne dv]
    exact hw
 ·rw [i_lt] at cc
  have : x.toInt.toNat = q.toInt.toNat := by omega
  rw [this] at hnew hw
  exact okP.some ⟨hp, hnew, hw⟩
theorem reset_all {C : Int32} {R S : List Int32} {n q : Int32} {o : Ob} {B : Int32 × Ob → Option (Ob ⊕ (Int32 × Ob))} (hB : ∀ v, B v = (if v.1 < 4 then (F3 v.2 v.1).bind fun r => some (.inr (v.1 + 1, r)) else some (.inl v.2))) (h : Sh C R S n q o) : okP (loopN B qN (0, o)) (fun p => Sh C R S n q p ∧ ∀ x, x < 4 → Zq p x [] [] (1, 0, 0, 1)) := by
 refine okP.loop (fun v => 0 ≤ v.1.toInt ∧ v.1.toInt ≤ 4 ∧ Sh C R S n q v.2 ∧ ∀ x, x < v.1.toInt.toNat → Zq v.2 x [] [] (1, 0, 0, 1)) (fun v => (4 - v.1.toInt).toNat) ⟨by show (0 : Int) ≤ 0; decide, by show (0 : Int) ≤ 4; decide, h, fun x hx => absurd hx (Nat.not_lt_zero _)⟩ (by show (4 - (0 : Int)).toNat < 4000; decide) ?_
 rintro ⟨i, p⟩ ⟨i0, i1, hp, hz⟩
 simp only at i0 i1 hp hz
 rw [hB]
 simp only
 apply okP.ite <;> intro c
 ·rw [i_lt, z4'] at c
  have e2 : (i + 1).toInt = i.toInt + 1 := inc1 (by omega)
  have en : (i + 1).toInt.toNat = i.toInt.toNat + 1 := by omega
  apply okP.bind
  refine okP.mono (reset_m hp i0 c) ?_
  rintro r ⟨hr, zr, kr⟩
  apply okP.some
  refine ⟨⟨by simp only; omega, by simp only; omega, hr, ?_⟩, by simp only; omega⟩
  intro x hx
  simp only [en] at hx
  by_cases e : x = i.toInt.toNat
  ·rw [e]; exact zr
  ·exact (hz x (by omega)).keep (kr x e)
 ·rw [i_lt, z4'] at c
  have : i.toInt.toNat = 4 := by omega
  rw [this] at hz
  exact okP.some ⟨hp, hz⟩
theorem SNv_nil (r s : Nat) : SNv r s [] = (1, 0, 0, 1) := by
 unfold SNv lastr
 simp [prod]
theorem lastr_nil (r : Nat) : lastr r [] = [] := by
 unfold lastr; simp
def RS (R S : List Int32) (q : Int32) : Prop := (0 ≤ q.toInt ∧ q.toInt ≤ 4) ∧ R.length = 4 ∧ S.length = 4 ∧ ∀ x, x < q.toInt.toNat → ∃ r s : Int32, R[x]? = some r ∧ S[x]? = some s ∧ (1 ≤ r.toInt ∧ r.toInt ≤ 32) ∧ (1 ≤ s.toInt ∧ s.toInt ≤ 32)
theorem St.rs {C : Int32} {R S : List Int32} {q : Int32} {H : List MX} {o : Ob} (h : St C R S q H o) : RS R S q := by
 obtain ⟨n, hS, hn, _, hq, lR, lS, hQ⟩ := h
 refine ⟨hq, lR, lS, fun x hx => ?_⟩
 obtain ⟨r, s, h1, h2, h3, h4, _⟩ := hQ x hx
 exact ⟨r, s, h1, h2, h3, h4⟩
theorem St_empty {C : Int32} {R S : List Int32} {q : Int32} {p : Ob} (rs : RS R S q) (h : Sh C R S 0 q p) (hz : ∀ x, x < q.toInt.toNat → Zq p x [] [] (1, 0, 0, 1)) : St C R S q [] p := by
 obtain ⟨hq, lR, lS, hx⟩ := rs
 refine ⟨0, h, rfl, by decide, hq, lR, lS, fun x hx' => ?_⟩
 obtain ⟨r, s, h1, h2, h3, h4⟩ := hx x hx'
 exact ⟨r, s, h1, h2, h3, h4, [], [], by rw [lastr_nil]; rfl, by rw [SNv_nil]; exact hz x hx'⟩
theorem clear_m {C : Int32} {R S : List Int32} {q : Int32} {H : List MX} {o : Ob} (h : St C R S q H o) : okP (F43 o) (fun p => St C R S q [] p) := by
 have rs := h.rs
 obtain ⟨n, hS, hn, _, hq, lR, lS, hQ⟩ := h
 have hS1 : Sh C R S 0 q (s_n o 0) := by
  dsimp only [Sh, f_regTuple, f_regA, f_regB, f_regC, f_regCount, f_slots, f_range, f_slide, f_frontSize, f_backSize, f_backElem, f_frontAgg, f_backAgg, f_snap, f_reg, f_capacity, f_queries, f_n, s_n] at hS ⊢
  obtain ⟨y1, y2, y3, y4, y5, y6, y7, y8, y9, y10, y11, y12⟩ := hS
  exact ⟨y1, y2, y3, y4, y5, y6, y7, y8, y9, rfl, y11, y12⟩
 unfold F43
 apply okP.bind
 refine okP.mono (reset_all (fun _ => rfl) hS1) ?_
 rintro p ⟨hp, hz⟩
 exact okP.some (St_empty rs hp (fun x hx => hz x (by omega)))
theorem add_m {C : Int32} {R S : List Int32} {q : Int32} {H : List MX} {o : Ob} (h : St C R S q H o) (c4 : C.toInt ≤ 4) (x y : Int32) : okP (F11 o x y) (fun r => if H = [] ∧ q.toInt < C.toInt ∧ (1 ≤ x.toInt ∧ x.toInt ≤ 32) ∧ (1 ≤ y.toInt ∧ y.toInt ≤ 32) then r.1 = q ∧ St C (R.set q.toInt.toNat x) (S.set q.toInt.toNat y) (q + 1) [] r.2 else r = (-1, o)) := by
 have z0 : (0 : Int32).toInt = 0 := rfl
 have z1 : (1 : Int32).toInt = 1 := rfl
 have z32 : (32 : Int32).toInt = 32 := rfl
 obtain ⟨n, hS, hn, _, hq, lR, lS, hQ⟩ := h
 unfold F11
 rw [Sh_N hS, Sh_Q hS, Sh_C hS]
 by_cases a0 : n = 0
 ·rw [if_pos a0]
  subst a0
  have hH : H = [] := List.eq_nil_of_length_eq_zero (by rw [z0] at hn; omega)
  subst hH
  by_cases a1 : q < C
  ·rw [if_pos a1]
   rw [i_lt] at a1
   by_cases a2 : x < 1
   ·rw [if_pos a2]; rw [i_lt, z1] at a2
    exact okP.some (by rw [if_neg (by omega)])
   rw [if_neg a2]; rw [i_lt, z1] at a2
   by_cases a3 : 32 < x
   ·rw [if_pos a3]; rw [i_lt, z32] at a3
    exact okP.some (by rw [if_neg (by omega)])
   rw [if_neg a3]; rw [i_lt, z32] at a3
   by_cases a4 : y < 1
   ·rw [if_pos a4]; rw [i_lt, z1] at a4
    exact okP.some (by rw [if_neg (by omega)])
   rw [if_neg a4]; rw [i_lt, z1] at a4
   by_cases a5 : 32 < y
   ·rw [if_pos a5]; rw [i_lt, z32] at a5
    exact okP.some (by rw [if_neg (by omega)])
   rw [if_neg a5]; rw [i_lt, z32] at a5
   refine okP.mono (P := fun r => r.1 = q ∧ St C (R.set q.toInt.toNat x) (S.set q.toInt.toNat y) (q + 1) [] r.2) ?_ (fun r hr => by rw [if_pos (show ([] : List MX) = [] ∧ q.toInt < C.toInt ∧ (1 ≤ x.toInt ∧ x.toInt ≤ 32) ∧ (1 ≤ y.toInt ∧ y.toInt ≤ 32) from ⟨rfl, by omega, by omega, by omega⟩)]; exact hr)
   rw [Sh_R hS, Sh_S hS, aset_at (n := q.toInt.toNat) (by omega) (by omega)]
   simp only [Option.bind_some]
   rw [aset_at (n := q.toInt.toNat) (by omega) (by omega)]
   simp only [Option.bind_some]
   have hS1 : Sh C (R.set q.toInt.toNat x) (S.set q.toInt.toNat y) 0 q (s_slide (s_range o (R.set q.toInt.toNat x)) (S.set q.toInt.toNat y)) := by
    dsimp only [Sh, f_regTuple, f_regA, f_regB, f_regC, f_regCount, f_slots, f_range, f_slide, f_frontSize, f_backSize, f_backElem, f_frontAgg, f_backAgg, f_snap, f_reg, f_capacity, f_queries, f_n, s_slide, s_range] at hS ⊢
    obtain ⟨y1, y2, y3, y4, y5, y6, y7, y8, y9, y10, y11, y12⟩ := hS
    exact ⟨y1, y2, y3, y4, y5, y6, y7, rfl, rfl, y10, y11, y12⟩
   apply okP.bind
   refine okP.mono (reset_m hS1 hq.1 (by omega)) ?_
   rintro p ⟨hp, zp, kp⟩
   apply okP.some
   have q1 : (q + 1).toInt = q.toInt + 1 := inc1 (by omega)
   refine ⟨rfl, ?_⟩
   rw [Sh_Q hp]
   have hp2 : Sh C (R.set q.toInt.toNat x) (S.set q.toInt.toNat y) 0 (q + 1) (s_queries p (q + 1)) := by
    dsimp only [Sh, f_regTuple, f_regA, f_regB, f_regC, f_regCount, f_slots, f_range, f_slide, f_frontSize, f_backSize, f_backElem, f_frontAgg, f_backAgg, f_snap, f_reg, f_capacity, f_queries, f_n, s_queries] at hp ⊢
    obtain ⟨y1, y2, y3, y4, y5, y6, y7, y8, y9, y10, y11, y12⟩ := hp
    exact ⟨y1, y2, y3, y4, y5, y6, y7, y8, y9, y10, rfl, y12⟩
   refine St_empty ⟨⟨by omega, by omega⟩, by rw [List.length_set]; exact lR, by rw [List.length_set]; exact lS, fun k hk => ?_⟩ hp2 (fun k hk => ?_)
   ·by_cases e : q.toInt.toNat = k
    ·subst e
     exact ⟨x, y, by rw [List.getElem?_set_self (by omega)], by rw [List.getElem?_set_self (by omega)], by omega, by omega⟩
    ·obtain ⟨r, s, h1, h2, h3, h4, _⟩ := hQ k (by omega)
     exact ⟨r, s, by rw [List.getElem?_set_ne e]; exact h1, by rw [List.getElem?_set_ne e]; exact h2, h3, h4⟩
   ·by_cases e : q.toInt.toNat = k
    ·subst e
     exact zp.keep (keep_q _ _ _)
    ·obtain ⟨r, s, h1, h2, h3, h4, F, B, hFB, zq⟩ := hQ k (by omega)
     rw [lastr_nil] at hFB
     rw [SNv_nil] at zq
     obtain ⟨e1, e2⟩ := List.append_eq_nil_iff.1 hFB
     subst e1
     subst e2
     exact ((zq.keep (keep_rs _ _ _ _)).keep (kp k (fun e' => e e'.symm))).keep (keep_q _ _ _)
  ·rw [if_neg a1]
   rw [i_lt] at a1
   exact okP.some (by rw [if_neg (by omega)])
 ·rw [if_neg a0]
  refine okP.some ?_
  rw [if_neg]
  rintro ⟨q1, _⟩
  rw [q1] at hn
  exact a0 (by rw [i_eq, z0, hn]; rfl)
theorem init_m {x c : Int32} (hc : c = (if (4 : Int32) < (if x < 1 then 1 else x) then 4 else (if x < 1 then 1 else x))) : okP (F2 x) (fun p => St c (List.replicate 4 0) (List.replicate 4 0) 0 [] p) := by
 unfold F2
 rw [← hc]
 apply okP.bind
 refine okP.mono (reset_all (C := c) (R := List.replicate 4 0) (S := List.replicate 4 0) (n := 0) (q := 0) (fun _ => rfl) ?_) ?_
 ·dsimp only [Sh, f_regTuple, f_regA, f_regB, f_regC, f_regCount, f_slots, f_range, f_slide, f_frontSize, f_backSize, f_backElem, f_frontAgg, f_backAgg, f_snap, f_reg, f_capacity, f_queries, f_n, s_regTuple, s_regA, s_regB, s_regC, s_regCount, s_slots, s_range, s_slide, s_frontSize, s_backSize, s_backElem, s_frontAgg, s_backAgg, s_snap, s_reg, s_capacity, s_queries, s_n]
  exact ⟨List.length_replicate, List.length_replicate, List.length_replicate, List.length_replicate, List.length_replicate, List.length_replicate, List.length_replicate, rfl, rfl, rfl, rfl, rfl⟩
 rintro p ⟨hp, hz⟩
 exact okP.some (St_empty ⟨⟨by decide, by decide⟩, List.length_replicate, List.length_replicate, fun k hk => absurd hk (Nat.not_lt_zero _)⟩ hp (fun k hk => absurd hk (Nat.not_lt_zero _)))
def ent (m : MX) (k : Int32) : Int32 := if k = 0 then m.1 else if k = 1 then m.2.1 else if k = 2 then m.2.2.1 else m.2.2.2
theorem M4_get {l : List Int32} {U : Nat} {m : MX} (h : M4 l U m) {j k : Int32} (hk : 0 ≤ k.toInt ∧ k.toInt ≤ 3) (hj : j.toInt = U + k.toInt) : aget l j = some (ent m k) := by
 obtain ⟨m1, m2, m3, m4⟩ := h
 have four : k = 0 ∨ k = 1 ∨ k = 2 ∨ k = 3 := small_cases (P := fun k => k = 0 ∨ k = 1 ∨ k = 2 ∨ k = 3) hk.1 (n := 4) (by omega) (by decide)
 rcases four with e | e | e | e <;> subst e
 ·exact g0 (by omega) (by rw [show j.toInt.toNat = U by rw [hj]; show ((U : Int) + 0).toNat = U; omega]; exact m1)
 ·exact g0 (by omega) (by rw [show j.toInt.toNat = U + 1 by rw [hj]; show ((U : Int) + 1).toNat = U + 1; omega]; exact m2)
 ·exact g0 (by omega) (by rw [show j.toInt.toNat = U + 2 by rw [hj]; show ((U : Int) + 2).toNat = U + 2; omega]; exact m3)
 ·exact g0 (by omega) (by rw [show j.toInt.toNat = U + 3 by rw [hj]; show ((U : Int) + 3).toNat = U + 3; omega]; exact m4)
theorem vq {C : Int32} {R S : List Int32} {n q : Int32} {o : Ob} (h : Sh C R S n q o) (hq : q.toInt ≤ 4) (x : Int32) : F16 o x = some (if 0 ≤ x.toInt ∧ x.toInt < q.toInt then 1 else 0) := by
 have z0 : (0 : Int32).toInt = 0 := rfl
 unfold F16
 rw [Sh_Q h]
 by_cases a : x < 0
 ·rw [if_pos a, if_neg (by rw [i_lt, z0] at a; omega)]
 rw [if_neg a]
 rw [i_lt, z0] at a
 by_cases b : x < q
 ·rw [if_pos b]
  rw [i_lt] at b
  rw [if_pos (by rw [i_lt, z4']; omega), if_pos ⟨by omega, b⟩]
 ·rw [if_neg b, if_neg (by rw [i_lt] at b; omega)]
theorem ve (k : Int32) : F23 k = some (if 0 ≤ k.toInt ∧ k.toInt ≤ 3 then 1 else 0) := by
 have z0 : (0 : Int32).toInt = 0 := rfl
 have z3 : (3 : Int32).toInt = 3 := rfl
 unfold F23
 by_cases a : k < 0
 ·rw [if_pos a, if_neg (by rw [i_lt, z0] at a; omega)]
 rw [if_neg a]
 rw [i_lt, z0] at a
 by_cases b : 3 < k
 ·rw [if_pos b, if_neg (by rw [i_lt, z3] at b; omega)]
 ·rw [if_neg b, if_pos (by rw [i_lt, z3] at b; omega)]
def rq (R : List Int32) (x : Int32) : Int32 := (R[x.toInt.toNat]?).getD 0
abbrev isQ (q x : Int32) : Prop := 0 ≤ x.toInt ∧ x.toInt < q.toInt
theorem res_m {C : Int32} {R S : List Int32} {q : Int32} {H : List MX} {o : Ob} (h : St C R S q H o) (x k : Int32) : F22 o x k = some (if isQ q x ∧ (0 ≤ k.toInt ∧ k.toInt ≤ 3) then ent (SNv (rq R x).toInt.toNat (rq S x).toInt.toNat H) k else 0) := by
 obtain ⟨n, hS, hn, _, hq, lR, lS, hQ⟩ := h
 unfold F22
 rw [vq hS hq.2]
 simp only [Option.bind_some]
 by_cases a : 0 ≤ x.toInt ∧ x.toInt < q.toInt
 ·rw [if_pos a, if_neg (by decide), ve]
  simp only [Option.bind_some]
  by_cases b : 0 ≤ k.toInt ∧ k.toInt ≤ 3
  ·obtain ⟨r, s, h1, h2, h3, h4, F, B, hFB, zq⟩ := hQ x.toInt.toNat (by omega)
   have e := m4 a.1 (by omega)
   have er : rq R x = r := by unfold rq; rw [h1]; rfl
   have es : rq S x = s := by unfold rq; rw [h2]; rfl
   rw [if_pos b, if_neg (by decide), if_pos ⟨a, b⟩, er, es, M4_get zq.2.2.2.2.2.1 b (by rw [i_add (by omega) (by omega), e]; omega)]
   rfl
  ·rw [if_neg b, if_pos rfl, if_neg (fun q => b q.2)]
 ·rw [if_neg a, if_pos rfl, if_neg (fun q => a q.1)]
theorem live_m {C : Int32} {R S : List Int32} {q : Int32} {H : List MX} {o : Ob} (h : St C R S q H o) (x k : Int32) : okP (F25 o x k) (fun z => z.1 = (if isQ q x ∧ (0 ≤ k.toInt ∧ k.toInt ≤ 3) then ent (prod (lastr (rq R x).toInt.toNat H)) k else 0) ∧ St C R S q H z.2) := by
 have h' := h
 obtain ⟨n, hS, hn, hH, hq, lR, lS, hQ⟩ := h
 unfold F25
 rw [vq hS hq.2]
 simp only [Option.bind_some]
 by_cases a : 0 ≤ x.toInt ∧ x.toInt < q.toInt
 ·rw [if_pos a, if_neg (by decide), ve]
  simp only [Option.bind_some]
  by_cases b : 0 ≤ k.toInt ∧ k.toInt ≤ 3
  ·obtain ⟨r, s, h1, h2, h3, h4, F, B, hFB, zq⟩ := hQ x.toInt.toNat (by omega)
   have er : rq R x = r := by unfold rq; rw [h1]; rfl
   rw [if_pos b, if_neg (by decide), er]
   obtain ⟨T, hT⟩ := M4_ex (l := f_reg o) (k := 0) (by have := Sh_l_reg hS; omega)
   apply okP.bind
   refine okP.mono (fold_m hS a.1 (by omega) zq hT) ?_
   rintro _ ⟨L, rfl, lL, mL, mT⟩
   have e12 : (3 * 4 + k : Int32).toInt = 12 + k.toInt := by
    have z12 : (3 * 4 : Int32).toInt = 12 := rfl
    rw [i_add (by rw [z12]; omega) (by rw [z12]; omega), z12]
   have gr : F29 (s_reg o L) 3 k = some (ent (prod (F ++ B)) k) := by
    unfold F29
    rw [vr (u := 3) (by decide) (by decide), ve]
    simp only [Option.bind_some]
    rw [if_neg (by decide), if_pos b, if_neg (by decide)]
    have rl : f_reg (s_reg o L) = L := by dsimp only [f_regTuple, f_regA, f_regB, f_regC, f_regCount, f_slots, f_range, f_slide, f_frontSize, f_backSize, f_backElem, f_frontAgg, f_backAgg, f_snap, f_reg, f_capacity, f_queries, f_n, s_reg]
    rw [rl, M4_get mL b e12]
    rfl
   rw [gr]
   simp only [Option.bind_some]
   refine okP.some ⟨by rw [if_pos ⟨a, b⟩, hFB], n, Sh_reg hS (x := L) lL, hn, hH, hq, lR, lS, fun y hy => (hQ y hy).keep (keep_reg _ _ _)⟩
  ·rw [if_neg b, if_pos rfl]
   exact okP.some ⟨by rw [if_neg (fun q => b q.2)], h'⟩
 ·rw [if_neg a, if_pos rfl]
  exact okP.some ⟨by rw [if_neg (fun q => a q.1)], h'⟩
theorem rng_m {C : Int32} {R S : List Int32} {q : Int32} {H : List MX} {o : Ob} (h : St C R S q H o) (x : Int32) : F15 o x = some (if isQ q x then rq R x else -1) := by
 obtain ⟨n, hS, hn, hH, hq, lR, lS, hQ⟩ := h
 unfold F15
 rw [vq hS hq.2]
 simp only [Option.bind_some]
 by_cases a : 0 ≤ x.toInt ∧ x.toInt < q.toInt
 ·obtain ⟨r, s, h1, h2, h3, h4, _⟩ := hQ x.toInt.toNat (by omega)
  have er : rq R x = r := by unfold rq; rw [h1]; rfl
  rw [if_pos a, if_neg (by decide), if_pos a, Sh_R hS, g0 a.1 h1, er]; rfl
 ·rw [if_neg a, if_pos rfl, if_neg a]
theorem sld_m {C : Int32} {R S : List Int32} {q : Int32} {H : List MX} {o : Ob} (h : St C R S q H o) (x : Int32) : F17 o x = some (if isQ q x then rq S x else -1) := by
 obtain ⟨n, hS, hn, hH, hq, lR, lS, hQ⟩ := h
 unfold F17
 rw [vq hS hq.2]
 simp only [Option.bind_some]
 by_cases a : 0 ≤ x.toInt ∧ x.toInt < q.toInt
 ·obtain ⟨r, s, h1, h2, h3, h4, _⟩ := hQ x.toInt.toNat (by omega)
  have er : rq S x = s := by unfold rq; rw [h2]; rfl
  rw [if_pos a, if_neg (by decide), if_pos a, Sh_S hS, g0 a.1 h2, er]; rfl
 ·rw [if_neg a, if_pos rfl, if_neg a]
theorem div_i {x y : Int32} (hx : 0 ≤ x.toInt) (hy : 1 ≤ y.toInt) : (x / y).toInt = (x.toInt.toNat / y.toInt.toNat : Nat) := by
 have hi := i_hi x
 have e1 : x.toInt = (x.toInt.toNat : Int) := by omega
 have e2 : y.toInt = (y.toInt.toNat : Int) := by omega
 have le : x.toInt.toNat / y.toInt.toNat ≤ x.toInt.toNat := Nat.div_le_self _ _
 rw [Int32.toInt_div, Int.tdiv_eq_ediv_of_nonneg hx, e1, e2]
 have : ((x.toInt.toNat : Int) / (y.toInt.toNat : Int)) = ((x.toInt.toNat / y.toInt.toNat : Nat) : Int) := by simp
 rw [this]
 simp only [Int.toNat_natCast]
 obtain ⟨w, hw⟩ : ∃ w, w = x.toInt.toNat / y.toInt.toNat := ⟨_, rfl⟩
 rw [← hw] at le ⊢
 exact Int.bmod_eq_of_le (by omega) (by omega)
theorem end_m {C : Int32} {R S : List Int32} {q n : Int32} {H : List MX} {o : Ob} (h : St C R S q H o) {x : Int32} (a : isQ q x) : ∃ e d : Int32, F19 o x = some e ∧ e.toInt = ((rq S x).toInt.toNat * (H.length / (rq S x).toInt.toNat) : Nat) ∧ d.toInt = (H.length / (rq S x).toInt.toNat : Nat) ∧ F21 o x = some d ∧ (1 ≤ (rq S x).toInt ∧ (rq S x).toInt ≤ 32) ∧ (1 ≤ (rq R x).toInt ∧ (rq R x).toInt ≤ 32) ∧ R[x.toInt.toNat]? = some (rq R x) := by
 obtain ⟨n, hS, hn, hH, hq, lR, lS, hQ⟩ := h
 have z0 : (0 : Int32).toInt = 0 := rfl
 have z1 : (1 : Int32).toInt = 1 := rfl
 obtain ⟨r, s, h1, h2, h3, h4, _⟩ := hQ x.toInt.toNat (by omega)
 have es : rq S x = s := by unfold rq; rw [h2]; rfl
 have er : rq R x = r := by unfold rq; rw [h1]; rfl
 rw [es, er]
 have dv := div_i (x := n) (y := s) (by omega) h4.1
 rw [hn, Int.toNat_natCast] at dv
 have qe : qdiv n s = some (n / s) := by
  unfold qdiv
  rw [if_neg (by rw [i_eq, z0]; omega)]
 have le : s.toInt.toNat * (H.length / s.toInt.toNat) ≤ H.length := Nat.mul_div_le _ _
 have le2 : H.length / s.toInt.toNat ≤ H.length := Nat.div_le_self _ _
 have mu : s.toInt * (n / s).toInt = (s.toInt.toNat * (H.length / s.toInt.toNat) : Nat) := by
  rw [dv]
  have : s.toInt = (s.toInt.toNat : Int) := by omega
  rw [this]
  simp
 refine ⟨s * (n / s), n / s, ?_, ?_, dv, ?_, h4, h3, h1⟩
 ·unfold F19
  rw [Sh_S hS, g0 a.1 h2]
  simp only [Option.bind_some]
  rw [if_neg (by rw [i_lt, z1]; omega), Sh_N hS, qe]
  rfl
 ·rw [i_mul (by omega) (by omega), mu]
 ·unfold F21
  rw [vq hS hq.2]
  simp only [Option.bind_some]
  rw [if_pos a, if_neg (by decide), Sh_S hS, g0 a.1 h2]
  simp only [Option.bind_some]
  rw [if_neg (by rw [i_lt, z1]; omega), Sh_N hS, qe]
  rfl
def nV (H : List MX) : Int32 := Int32.ofInt H.length
def eV (S : List Int32) (H : List MX) (x : Int32) : Int32 := rq S x * (nV H / rq S x)
theorem nV_i {H : List MX} (h : H.length ≤ 1000) : (nV H).toInt = H.length := by
 unfold nV
 rw [Int32.toInt_ofInt_of_le (by show _ ≤ (H.length : Int); omega) (by show (H.length : Int) < _; omega)]
theorem eV_i {s : Int32} (s1 : 1 ≤ s.toInt ∧ s.toInt ≤ 32) {H : List MX} (h : H.length ≤ 1000) : (s * (nV H / s)).toInt = (s.toInt.toNat * (H.length / s.toInt.toNat) : Nat) ∧ (nV H / s).toInt = (H.length / s.toInt.toNat : Nat) := by
 have e := nV_i h
 have dv := div_i (x := nV H) (y := s) (by omega) s1.1
 rw [e, Int.toNat_natCast] at dv
 have le : s.toInt.toNat * (H.length / s.toInt.toNat) ≤ H.length := Nat.mul_div_le _ _
 have mu : s.toInt * (nV H / s).toInt = (s.toInt.toNat * (H.length / s.toInt.toNat) : Nat) := by
  rw [dv]
  have : s.toInt = (s.toInt.toNat : Int) := by omega
  rw [this]
  simp
 refine ⟨?_, dv⟩
 obtain ⟨w, hw⟩ : ∃ w, w = s.toInt.toNat * (H.length / s.toInt.toNat) := ⟨_, rfl⟩
 rw [← hw] at le mu ⊢
 rw [i_mul (by omega) (by omega), mu]
theorem endV {C : Int32} {R S : List Int32} {q : Int32} {H : List MX} {o : Ob} (h : St C R S q H o) {x : Int32} (a : isQ q x) : F19 o x = some (eV S H x) := by
 obtain ⟨n, hS, hn, hH, hq, lR, lS, hQ⟩ := h
 have z0 : (0 : Int32).toInt = 0 := rfl
 have z1 : (1 : Int32).toInt = 1 := rfl
 obtain ⟨r, s, h1, h2, h3, h4, _⟩ := hQ x.toInt.toNat (by omega)
 have es : rq S x = s := by unfold rq; rw [h2]; rfl
 have en : nV H = n := by rw [i_eq, nV_i hH, hn]
 have qe : qdiv n s = some (n / s) := by
  unfold qdiv
  rw [if_neg (by rw [i_eq, z0]; omega)]
 unfold F19 eV
 rw [es, en, Sh_S hS, g0 a.1 h2]
 simp only [Option.bind_some]
 rw [if_neg (by rw [i_lt, z1]; omega), Sh_N hS, qe]
 rfl
theorem wend_m {C : Int32} {R S : List Int32} {q : Int32} {H : List MX} {o : Ob} (h : St C R S q H o) (x : Int32) : F20 o x = some (if isQ q x then eV S H x else -1) := by
 unfold F20
 have h' := h
 obtain ⟨n, hS, hn, hH, hq, lR, lS, hQ⟩ := h'
 rw [vq hS hq.2]
 simp only [Option.bind_some]
 by_cases a : isQ q x
 ·rw [if_pos a, if_neg (by decide), if_pos a, endV h a]; rfl
 ·rw [if_neg a, if_pos rfl, if_neg a]
theorem wsta_m {C : Int32} {R S : List Int32} {q : Int32} {H : List MX} {o : Ob} (h : St C R S q H o) (x : Int32) : F18 o x = some (if isQ q x then (if eV S H x - rq R x < 0 then 0 else eV S H x - rq R x) else -1) := by
 unfold F18
 have h' := h
 obtain ⟨n, hS, hn, hH, hq, lR, lS, hQ⟩ := h'
 rw [vq hS hq.2]
 simp only [Option.bind_some]
 by_cases a : isQ q x
 ·obtain ⟨r, s, h1, h2, h3, h4, _⟩ := hQ x.toInt.toNat (by omega)
  have er : rq R x = r := by unfold rq; rw [h1]; rfl
  rw [if_pos a, if_neg (by decide), if_pos a, endV h a]
  simp only [Option.bind_some]
  rw [Sh_R hS, g0 a.1 h1, er]
  simp only [Option.bind_some]
  by_cases c : eV S H x - r < 0
  ·rw [if_pos c, if_pos c]
  ·rw [if_neg c, if_neg c]
 ·rw [if_neg a, if_pos rfl, if_neg a]
theorem evl_m {C : Int32} {R S : List Int32} {q : Int32} {H : List MX} {o : Ob} (h : St C R S q H o) (x : Int32) : F21 o x = some (if isQ q x then nV H / rq S x else -1) := by
 unfold F21
 obtain ⟨n, hS, hn, hH, hq, lR, lS, hQ⟩ := h
 have z0 : (0 : Int32).toInt = 0 := rfl
 have z1 : (1 : Int32).toInt = 1 := rfl
 rw [vq hS hq.2]
 simp only [Option.bind_some]
 by_cases a : isQ q x
 ·obtain ⟨r, s, h1, h2, h3, h4, _⟩ := hQ x.toInt.toNat (by omega)
  have es : rq S x = s := by unfold rq; rw [h2]; rfl
  have en : nV H = n := by rw [i_eq, nV_i hH, hn]
  have qe : qdiv n s = some (n / s) := by
   unfold qdiv
   rw [if_neg (by rw [i_eq, z0]; omega)]
  rw [if_pos a, if_neg (by decide), if_pos a, Sh_S hS, g0 a.1 h2, es, en]
  simp only [Option.bind_some]
  rw [if_neg (by rw [i_lt, z1]; omega), Sh_N hS, qe]
  rfl
 ·rw [if_neg a, if_pos rfl, if_neg a]
theorem tup_m {C : Int32} {R S : List Int32} {q : Int32} {H : List MX} {o : Ob} (h : St C R S q H o) : F13 o = some (nV H) := by
 obtain ⟨n, hS, hn, hH, _⟩ := h
 unfold F13
 rw [Sh_N hS, show nV H = n by rw [i_eq, nV_i hH, hn]]
theorem qct_m {C : Int32} {R S : List Int32} {q : Int32} {H : List MX} {o : Ob} (h : St C R S q H o) : F14 o = some q := by
 obtain ⟨n, hS, _⟩ := h
 unfold F14
 rw [Sh_Q hS]

def cl (s : List Int32) (i : Nat) : Int32 := (s[i]?).getD 0
theorem cell_ok {s : List Int32} (hs : s.length ≤ 260) {k : Int32} {i : Nat} (hk : k.toInt = i) : F1 s k = some (cl s i) := by
 have hl := len_i (n := s.length) (by omega)
 unfold F1 cl
 by_cases c : k < s.length.toInt32
 ·rw [if_pos c]
  rw [i_lt, hl] at c
  rw [aget_at (n := i) hk (by omega), List.getElem?_eq_getElem (by omega)]; rfl
 ·rw [if_neg c]
  rw [i_lt, hl] at c
  rw [List.getElem?_eq_none (by omega)]; rfl
def vl (x : Int32) : Int32 := if (x &&& 8) = 0 then (x &&& 7) - 3 else x * (-1640531535)
theorem val_ok (x : Int32) : F31 x = some (vl x) := by
 unfold F31 vl
 split <;> rfl
def mat (s : List Int32) (j : Nat) : MX := (vl (cl s (9 + 5 * j + 1)), vl (cl s (9 + 5 * j + 2)), vl (cl s (9 + 5 * j + 3)), vl (cl s (9 + 5 * j + 4)))
def isP (s : List Int32) (j : Nat) : Bool := !(cl s (9 + 5 * j) &&& 15 == 15)
def rgO (s : List Int32) (x : Nat) : Int32 := 1 + (cl s (1 + 2 * x) &&& 31)
def slO (s : List Int32) (x : Nat) : Int32 := 1 + (cl s (2 + 2 * x) &&& 31)
theorem one_and (y : Int32) : 1 ≤ (1 + (y &&& 31)).toInt ∧ (1 + (y &&& 31)).toInt ≤ 32 := by
 have k := and_rng (x := y) (m := 31) (by decide)
 have z31 : (31 : Int32).toInt = 31 := rfl
 have z1 : (1 : Int32).toInt = 1 := rfl
 rw [z31] at k
 rw [i_add (by omega) (by omega), z1]
 omega
theorem rg_ok {s : List Int32} (hs : s.length ≤ 260) {x : Int32} (x0 : 0 ≤ x.toInt) (x4 : x.toInt ≤ 4) : F9 s x = some (rgO s x.toInt.toNat) := by
 have z2 : (2 : Int32).toInt = 2 := rfl
 have z1 : (1 : Int32).toInt = 1 := rfl
 have e : ((2 : Int32) * x).toInt = 2 * x.toInt := by rw [i_mul (by rw [z2]; omega) (by rw [z2]; omega), z2]
 unfold F9
 rw [cell_ok hs (i := 1 + 2 * x.toInt.toNat) (by rw [i_add (by omega) (by omega), e, z1]; omega)]
 rfl
theorem sl_ok {s : List Int32} (hs : s.length ≤ 260) {x : Int32} (x0 : 0 ≤ x.toInt) (x4 : x.toInt ≤ 4) : F10 s x = some (slO s x.toInt.toNat) := by
 have z2 : (2 : Int32).toInt = 2 := rfl
 have e : ((2 : Int32) * x).toInt = 2 * x.toInt := by rw [i_mul (by rw [z2]; omega) (by rw [z2]; omega), z2]
 unfold F10
 rw [cell_ok hs (i := 2 + 2 * x.toInt.toNat) (by rw [i_add (by omega) (by omega), e, z2]; omega)]
 rfl
theorem nine {j : Int32} (j0 : 0 ≤ j.toInt) (j1 : j.toInt ≤ 1000) : ((9 : Int32) + (5 : Int32) * j).toInt = (9 + 5 * j.toInt.toNat : Nat) := by
 have z5 : (5 : Int32).toInt = 5 := rfl
 have z9 : (9 : Int32).toInt = 9 := rfl
 have e : ((5 : Int32) * j).toInt = 5 * j.toInt := by rw [i_mul (by rw [z5]; omega) (by rw [z5]; omega), z5]
 rw [i_add (by omega) (by omega), e, z9]; omega
theorem isP_ok {s : List Int32} (hs : s.length ≤ 260) {j : Int32} (j0 : 0 ≤ j.toInt) (j1 : j.toInt ≤ 1000) : F30 s j = some (if isP s j.toInt.toNat then 1 else 0) := by
 unfold F30 isP
 rw [cell_ok hs (nine j0 j1)]
 simp only [Option.bind_some]
 by_cases c : cl s (9 + 5 * j.toInt.toNat) &&& 15 = 15
 ·rw [if_pos c, c]; rfl
 ·rw [if_neg c, beq_false_of_ne c]; rfl
theorem pos_ok {s : List Int32} (hs : s.length ≤ 260) {j : Int32} (j0 : 0 ≤ j.toInt) (j1 : j.toInt ≤ 1000) : F1 s ((9 : Int32) + (5 : Int32) * j + 1) = some (cl s (9 + 5 * j.toInt.toNat + 1)) ∧ F1 s ((9 : Int32) + (5 : Int32) * j + 2) = some (cl s (9 + 5 * j.toInt.toNat + 2)) ∧ F1 s ((9 : Int32) + (5 : Int32) * j + 3) = some (cl s (9 + 5 * j.toInt.toNat + 3)) ∧ F1 s ((9 : Int32) + (5 : Int32) * j + 4) = some (cl s (9 + 5 * j.toInt.toNat + 4)) := by
 have e := nine j0 j1
 have z1 : (1 : Int32).toInt = 1 := rfl
 have z2 : (2 : Int32).toInt = 2 := rfl
 have z3 : (3 : Int32).toInt = 3 := rfl
 refine ⟨cell_ok hs ?_, cell_ok hs ?_, cell_ok hs ?_, cell_ok hs ?_⟩
 ·rw [i_add (by omega) (by omega), e, z1]; omega
 ·rw [i_add (by omega) (by omega), e, z2]; omega
 ·rw [i_add (by omega) (by omega), e, z3]; omega
 ·rw [i_add (by rw [z4']; omega) (by rw [z4']; omega), e, z4']; omega
def HB (s : List Int32) (f n : Nat) : List MX := ((List.range n).filter (fun j => decide (f ≤ j) && isP s j)).map (mat s)
theorem HB_s (s : List Int32) {f n : Nat} (h : f ≤ n) : HB s f (n + 1) = if isP s n then HB s f n ++ [mat s n] else HB s f n := by
 unfold HB
 rw [List.range_succ, List.filter_append, List.map_append]
 by_cases c : isP s n = true
 ·rw [if_pos c, List.filter_cons_of_pos (by rw [c, decide_eq_true h]; rfl)]; rfl
 ·rw [if_neg c, List.filter_cons_of_neg (by rw [Bool.eq_false_iff.2 c]; simp)]; simp
theorem HB_0 (s : List Int32) (f n : Nat) (h : n ≤ f) : HB s f n = [] := by
 unfold HB
 have : (List.range n).filter (fun j => decide (f ≤ j) && isP s j) = [] := by
  rw [List.filter_eq_nil_iff]
  intro j hj
  rw [List.mem_range] at hj
  rw [decide_eq_false (by omega)]; simp
 rw [this]; rfl
theorem HB_len (s : List Int32) (f n : Nat) : (HB s f n).length ≤ n := by
 have := List.length_filter_le (fun j => decide (f ≤ j) && isP s j) (List.range n)
 rw [List.length_range] at this
 unfold HB
 rw [List.length_map]
 exact this
def sub (lo hi : Nat) (L : List MX) : MX := prod ((L.take hi).drop lo)
theorem sub_in {lo hi : Nat} {L : List MX} {x : MX} (h1 : lo ≤ L.length) (h2 : L.length < hi) : sub lo hi (L ++ [x]) = mm (sub lo hi L) x := by
 unfold sub
 rw [List.take_of_length_le (by rw [List.length_append]; show L.length + 1 ≤ hi; omega), List.take_of_length_le (by omega), List.drop_append_of_le_length h1, prod_snoc]
theorem sub_lo {lo hi : Nat} {L : List MX} {x : MX} (h1 : L.length < lo) : sub lo hi (L ++ [x]) = sub lo hi L := by
 unfold sub
 rw [List.drop_eq_nil_of_le (by rw [List.length_take, List.length_append]; show min hi (L.length + 1) ≤ lo; omega), List.drop_eq_nil_of_le (by rw [List.length_take]; omega)]
theorem sub_hi {lo hi : Nat} {L : List MX} {x : MX} (h1 : hi ≤ L.length) : sub lo hi (L ++ [x]) = sub lo hi L := by
 unfold sub
 rw [List.take_append_of_le_length h1]
theorem fold_ok {s : List Int32} (hs : s.length ≤ 260) {f u lo hi k : Int32} {U : Nat} (f0 : 0 ≤ f.toInt) (fu : f.toInt ≤ U) (hu : u.toInt + 1 = U) (u1 : U ≤ 300) (lo0 : 0 ≤ lo.toInt) (hi0 : 0 ≤ hi.toInt) (hk : 0 ≤ k.toInt ∧ k.toInt ≤ 3) : F24 s f u lo hi k = some (ent (sub lo.toInt.toNat hi.toInt.toNat (HB s f.toInt.toNat U)) k) := by
 have lp : okP (loopN (B24_18 s u lo hi k) qN (1, 0, 0, 1, 0, f)) (fun e => e = sub lo.toInt.toNat hi.toInt.toNat (HB s f.toInt.toNat U)) := by
  refine okP.loop (fun v : Int32 × Int32 × Int32 × Int32 × Int32 × Int32 => f.toInt ≤ v.2.2.2.2.2.toInt ∧ v.2.2.2.2.2.toInt ≤ U ∧ (v.1, v.2.1, v.2.2.1, v.2.2.2.1) = sub lo.toInt.toNat hi.toInt.toNat (HB s f.toInt.toNat v.2.2.2.2.2.toInt.toNat) ∧ v.2.2.2.2.1.toInt = (HB s f.toInt.toNat v.2.2.2.2.2.toInt.toNat).length) (fun v => (U - v.2.2.2.2.2.toInt).toNat) ⟨by show f.toInt ≤ f.toInt; omega, fu, ?_, ?_⟩ (by show ((U : Int) - f.toInt).toNat < 4000; omega) ?_
  ·show ((1, 0, 0, 1) : MX) = sub _ _ (HB s f.toInt.toNat f.toInt.toNat)
   rw [HB_0 s _ _ (Nat.le_refl _)]
   unfold sub
   simp [prod]
  ·show (0 : Int) = (HB s f.toInt.toNat f.toInt.toNat).length
   rw [HB_0 s _ _ (Nat.le_refl _)]; rfl
  rintro ⟨m0, m1, m2, m3, ix, j⟩ ⟨j0, j1, hm, hi'⟩
  simp only at j0 j1 hm hi'
  unfold B24_18
  simp only
  refine okP.ite (fun c => ?_) (fun c => ?_)
  ·rw [i_lt] at c
   have : j.toInt.toNat = U := by omega
   rw [this] at hm
   exact okP.some hm
  ·rw [i_lt] at c
   have e1 : (j + 1).toInt = j.toInt + 1 := inc1 (by omega)
   have en : (j + 1).toInt.toNat = j.toInt.toNat + 1 := by omega
   have hb := HB_s s (f := f.toInt.toNat) (n := j.toInt.toNat) (by omega)
   have hbl := HB_len s f.toInt.toNat j.toInt.toNat
   have ix1 : (ix + 1).toInt = ix.toInt + 1 := inc1 (by omega)
   rw [isP_ok hs (by omega) (by omega)]
   simp only [Option.bind_some]
   unfold J24_181 J24_178 J24_181
   by_cases p : isP s j.toInt.toNat = true
   ·rw [if_pos p] at hb ⊢
    rw [if_neg (by decide)]
    have hl2 : (HB s f.toInt.toNat (j.toInt.toNat + 1)).length = (HB s f.toInt.toNat j.toInt.toNat).length + 1 := by rw [hb, List.length_append]; rfl
    refine okP.ite (fun c1 => ?_) (fun c1 => ?_)
    ·rw [i_lt] at c1
     refine okP.some ⟨⟨by simp only; omega, by simp only; omega, ?_, ?_⟩, by simp only; omega⟩
     ·simp only [en]; rw [hb, sub_lo (by omega)]; exact hm
     ·simp only [en]; rw [hl2, ix1]; omega
    rw [i_lt] at c1
    refine okP.ite (fun c2 => ?_) (fun c2 => ?_)
    ·rw [i_lt] at c2
     obtain ⟨g1, g2, g3, g4⟩ := pos_ok hs (j := j) (by omega) (by omega)
     rw [g1, g2, g3, g4]
     simp only [Option.bind_some, val_ok]
     refine okP.some ⟨⟨by simp only; omega, by simp only; omega, ?_, ?_⟩, by simp only; omega⟩
     ·simp only [en]; rw [hb, sub_in (by omega) (by omega), ← hm]; rfl
     ·simp only [en]; rw [hl2, ix1]; omega
    ·rw [i_lt] at c2
     refine okP.some ⟨⟨by simp only; omega, by simp only; omega, ?_, ?_⟩, by simp only; omega⟩
     ·simp only [en]; rw [hb, sub_hi (by omega)]; exact hm
     ·simp only [en]; rw [hl2, ix1]; omega
   ·rw [if_neg p] at hb ⊢
    rw [if_pos rfl]
    refine okP.some ⟨⟨by simp only; omega, by simp only; omega, ?_, ?_⟩, by simp only; omega⟩
    ·simp only [en]; rw [hb]; exact hm
    ·simp only [en]; rw [hb]; exact hi'
 obtain ⟨e, he, ee⟩ := lp
 unfold F24
 rw [he, ee]
 simp only [Option.bind_some]
 have four : k = 0 ∨ k = 1 ∨ k = 2 ∨ k = 3 := small_cases (P := fun k => k = 0 ∨ k = 1 ∨ k = 2 ∨ k = 3) hk.1 (n := 4) (by omega) (by decide)
 unfold ent
 split
 ·rfl
 split
 ·rfl
 split <;> rfl
def RO (s : List Int32) (R S : List Int32) (q : Int32) : Prop := ∀ x : Int32, isQ q x → rq R x = rgO s x.toInt.toNat ∧ rq S x = slO s x.toInt.toNat
theorem clampN {a r : Int32} (a0 : 0 ≤ a.toInt ∧ a.toInt ≤ 1000) (r0 : 1 ≤ r.toInt ∧ r.toInt ≤ 32) : (if a - r < 0 then (0 : Int32) else a - r).toInt = (a.toInt.toNat - r.toInt.toNat : Nat) := by
 have z0 : (0 : Int32).toInt = 0 := rfl
 have e : (a - r).toInt = a.toInt - r.toInt := i_sub (by omega) (by omega)
 by_cases c : a - r < 0
 ·rw [if_pos c]
  rw [i_lt, e, z0] at c
  rw [z0]; omega
 ·rw [if_neg c]
  rw [i_lt, e, z0] at c
  rw [e]; omega
theorem ck_in {C : Int32} {R S : List Int32} {q : Int32} {H : List MX} {o : Ob} (h : St C R S q H o) {s : List Int32} (hs : s.length ≤ 260) {f u x t ws ls : Int32} {U : Nat} (f0 : 0 ≤ f.toInt) (fu : f.toInt ≤ U) (hu : u.toInt + 1 = U) (u1 : U ≤ 300) (hH : H = HB s f.toInt.toNat U) (a : isQ q x) (t0 : 0 ≤ t.toInt) (w0 : 0 ≤ ws.toInt) (l0 : 0 ≤ ls.toInt) (e1 : SNv (rq R x).toInt.toNat (rq S x).toInt.toNat H = sub ws.toInt.toNat t.toInt.toNat H) (e2 : prod (lastr (rq R x).toInt.toNat H) = sub ls.toInt.toNat (nV H).toInt.toNat H) (n0 : 0 ≤ (nV H).toInt) : okP (loopN (B12_159 s q f u (nV H) x t ws ls) qN (0, o)) (fun e => ∃ p, e = .inl p ∧ St C R S q H p) := by
 refine okP.loop (fun v => 0 ≤ v.1.toInt ∧ v.1.toInt ≤ 4 ∧ St C R S q H v.2) (fun v => (4 - v.1.toInt).toNat) ⟨by show (0 : Int) ≤ 0; decide, by show (0 : Int) ≤ 4; decide, h⟩ (by show (4 - (0 : Int)).toNat < 4000; decide) ?_
 rintro ⟨k, p⟩ ⟨k0, k1, hp⟩
 simp only at k0 k1 hp
 unfold B12_159
 simp only
 refine okP.ite (fun c => ?_) (fun _ => okP.some ⟨p, rfl, hp⟩)
 rw [i_lt, z4'] at c
 have ei : (k + 1).toInt = k.toInt + 1 := inc1 (by omega)
 have hk : 0 ≤ k.toInt ∧ k.toInt ≤ 3 := by omega
 rw [res_m hp, if_pos ⟨a, hk⟩, fold_ok hs f0 fu hu u1 w0 t0 hk, fold_ok hs f0 fu hu u1 l0 n0 hk, ← hH, e1, ← e2]
 simp only [Option.bind_some, if_true]
 apply okP.bind
 refine okP.mono (live_m hp x k) ?_
 rintro ⟨w, p2⟩ ⟨hw, hp2⟩
 rw [if_pos ⟨a, hk⟩] at hw
 simp only at hw hp2 ⊢
 rw [if_pos hw]
 exact okP.some ⟨⟨by simp only; omega, by simp only; omega, hp2⟩, by simp only; omega⟩
theorem check_ok {C : Int32} {R S : List Int32} {q : Int32} {H : List MX} {o : Ob} (h : St C R S q H o) {s : List Int32} (hs : s.length ≤ 260) (ro : RO s R S q) {f u : Int32} {U : Nat} (f0 : 0 ≤ f.toInt) (fu : f.toInt ≤ U) (hu : u.toInt + 1 = U) (u1 : U ≤ 300) (hH : H = HB s f.toInt.toNat U) : okP (F12 s o q f u (nV H)) (fun e => e.1 = 1 ∧ St C R S q H e.2) := by
 have z0 : (0 : Int32).toInt = 0 := rfl
 have rs := h.rs
 have hl : H.length ≤ 300 := by rw [hH]; have := HB_len s f.toInt.toNat U; omega
 have nv := nV_i (H := H) (by omega)
 unfold F12
 rw [tup_m h, qct_m h]
 simp only [Option.bind_some, if_true]
 apply okP.bind
 refine okP.mono (P := fun (e : Int32 × Ob) => e.1 = 1 ∧ St C R S q H e.2) ?_ (fun e he => okP.some he)
 refine okP.loop (fun v => 0 ≤ v.1.toInt ∧ v.1.toInt ≤ q.toInt ∧ St C R S q H v.2) (fun v => (4 - v.1.toInt).toNat) ⟨by show (0 : Int) ≤ 0; decide, by show (0 : Int) ≤ q.toInt; have := rs.1; omega, h⟩ (by show (4 - (0 : Int)).toNat < 4000; decide) ?_
 rintro ⟨x, p⟩ ⟨x0, x1, hp⟩
 simp only at x0 x1 hp
 have q4 := rs.1
 unfold B12_24
 simp only
 refine okP.ite (fun c => ?_) (fun _ => okP.some ⟨rfl, hp⟩)
 rw [i_lt] at c
 have ei : (x + 1).toInt = x.toInt + 1 := inc1 (by omega)
 have a : isQ q x := ⟨x0, c⟩
 obtain ⟨r1, r2⟩ := ro x a
 rw [rg_ok hs x0 (by omega), sl_ok hs x0 (by omega)]
 simp only [Option.bind_some]
 obtain ⟨r, hr⟩ : ∃ r, r = rgO s x.toInt.toNat := ⟨_, rfl⟩
 obtain ⟨sl, hsl⟩ : ∃ sl, sl = slO s x.toInt.toNat := ⟨_, rfl⟩
 rw [← hr] at r1 ⊢
 rw [← hsl] at r2 ⊢
 have rr : 1 ≤ r.toInt ∧ r.toInt ≤ 32 := by rw [hr]; exact one_and _
 have ss : 1 ≤ sl.toInt ∧ sl.toInt ≤ 32 := by rw [hsl]; exact one_and _
 clear hr hsl
 have qe : qdiv (nV H) sl = some (nV H / sl) := by
  unfold qdiv
  rw [if_neg (by rw [i_eq, z0]; omega)]
 rw [rng_m hp, sld_m hp, wsta_m hp, wend_m hp, evl_m hp, if_pos a, if_pos a, if_pos a, if_pos a, if_pos a, qe]
 unfold eV
 rw [r1, r2]
 simp only [Option.bind_some, if_true]
 obtain ⟨ev, _⟩ := eV_i ss (H := H) (by omega)
 have le : sl.toInt.toNat * (H.length / sl.toInt.toNat) ≤ H.length := Nat.mul_div_le _ _
 obtain ⟨t, ht⟩ : ∃ t, t = sl * (nV H / sl) := ⟨_, rfl⟩
 rw [← ht] at ev ⊢
 obtain ⟨tn, htn⟩ : ∃ tn, tn = sl.toInt.toNat * (H.length / sl.toInt.toNat) := ⟨_, rfl⟩
 rw [← htn] at ev le
 have cw := clampN (a := t) (r := r) (by omega) rr
 have cl' := clampN (a := nV H) (r := r) (by omega) rr
 obtain ⟨ws, hws⟩ : ∃ ws, ws = (if t - r < 0 then (0 : Int32) else t - r) := ⟨_, rfl⟩
 obtain ⟨ls, hls⟩ : ∃ ls, ls = (if nV H - r < 0 then (0 : Int32) else nV H - r) := ⟨_, rfl⟩
 rw [← hws] at cw ⊢
 rw [← hls] at cl' ⊢
 clear hws hls
 apply okP.bind
 refine okP.mono (ck_in hp hs f0 fu hu u1 hH a (t := t) (ws := ws) (ls := ls) (by omega) (by omega) (by omega) ?_ ?_ (by omega)) ?_
 ·rw [r1, r2]
  unfold SNv sub lastr
  rw [← htn, List.length_take, show min tn H.length = tn by omega]
  have b1 : t.toInt.toNat = tn := by omega
  have b2 : ws.toInt.toNat = tn - r.toInt.toNat := by rw [cw, b1]; omega
  rw [b1, b2]
 ·rw [r1]
  unfold sub lastr
  have b1 : (nV H).toInt.toNat = H.length := by omega
  have b2 : ls.toInt.toNat = H.length - r.toInt.toNat := by rw [cl', b1]; omega
  rw [b1, b2, List.take_length]
 ·rintro _ ⟨p2, rfl, hp2⟩
  exact okP.some ⟨⟨by simp only; omega, by simp only; omega, hp2⟩, by simp only; omega⟩
theorem mv_ok {s : List Int32} (hs : s.length ≤ 260) {R S : List Int32} {q : Int32} (rs : RS R S q) (ro : RO s R S q) {p : Ob} {x3 x4 n j w : Int32} (n0 : 0 ≤ n.toInt) : okP (loopN (B0_192 s p q x3 x4 n j w) qN (0, 0)) (fun e => e.toInt = cM S n.toInt.toNat q.toInt.toNat) := by
 have z0 : (0 : Int32).toInt = 0 := rfl
 have q4 := rs.1
 refine okP.loop (fun v => 0 ≤ v.2.toInt ∧ v.2.toInt ≤ q.toInt ∧ v.1.toInt = cM S n.toInt.toNat v.2.toInt.toNat) (fun v => (4 - v.2.toInt).toNat) ⟨by show (0 : Int) ≤ 0; decide, by show (0 : Int) ≤ q.toInt; omega, rfl⟩ (by show (4 - (0 : Int)).toNat < 4000; decide) ?_
 rintro ⟨c, x⟩ ⟨x0, x1, hc⟩
 simp only at x0 x1 hc
 unfold B0_192
 simp only
 refine okP.ite (fun d => ?_) (fun d => ?_)
 ·rw [i_lt] at d
  have ei : (x + 1).toInt = x.toInt + 1 := inc1 (by omega)
  have en : (x + 1).toInt.toNat = x.toInt.toNat + 1 := by omega
  have a : isQ q x := ⟨x0, d⟩
  obtain ⟨r1, r2⟩ := ro x a
  have ss : 1 ≤ (slO s x.toInt.toNat).toInt ∧ (slO s x.toInt.toNat).toInt ≤ 32 := one_and _
  rw [sl_ok hs x0 (by omega)]
  simp only [Option.bind_some]
  have qe : qrem n (slO s x.toInt.toNat) = some (n % (slO s x.toInt.toNat)) := by
   unfold qrem
   rw [if_neg (by rw [i_eq, z0]; omega)]
  rw [qe]
  simp only [Option.bind_some]
  have re := rem_i (x := n) (y := slO s x.toInt.toNat) n0 ss.1
  have cl := cM_le S n.toInt.toNat x.toInt.toNat
  have c1 : (c + 1).toInt = c.toInt + 1 := inc1 (by omega)
  have hh : hit S n.toInt.toNat x.toInt.toNat = (n.toInt.toNat % (slO s x.toInt.toNat).toInt.toNat == 0) := by
   unfold hit
   rw [← r2]; rfl
  refine okP.some ⟨⟨by simp only; omega, by simp only; omega, ?_⟩, by simp only; omega⟩
  simp only [en]
  rw [cM_s, hh]
  by_cases e : n.toInt.toNat % (slO s x.toInt.toNat).toInt.toNat = 0
  ·rw [if_pos (by rw [i_eq, re, e]; rfl), e, if_pos (show ((0 : Nat) == 0) = true from rfl), c1, hc]; rfl
  ·rw [if_neg (by rw [i_eq, re, z0]; omega), beq_false_of_ne e]
   exact hc
 ·rw [i_lt] at d
  have : x.toInt.toNat = q.toInt.toNat := by omega
  rw [this] at hc
  exact okP.some hc
def Inv (s : List Int32) (q f n j : Int32) (o : Ob) : Prop := ∃ R S, St q R S q (HB s f.toInt.toNat j.toInt.toNat) o ∧ RO s R S q ∧ n = nV (HB s f.toInt.toNat j.toInt.toNat) ∧ 0 ≤ f.toInt ∧ f.toInt ≤ j.toInt
theorem turn {s : List Int32} (hs : s.length ≤ 260) {q m f n j : Int32} {o : Ob} (hm : m.toInt ≤ 200) (I : Inv s q f n j o) (j0 : 0 ≤ j.toInt) (j1 : j.toInt ≤ 200) : okP (B0_109 s q m (f, n, j, o)) (fun r => Sum.elim (fun e => e.1 = 1 ∧ sFit s e.2) (fun w => (0 ≤ w.2.2.1.toInt ∧ w.2.2.1.toInt ≤ 200 ∧ Inv s q w.1 w.2.1 w.2.2.1 w.2.2.2) ∧ (201 - w.2.2.1.toInt).toNat < (201 - j.toInt).toNat) r) := by
 obtain ⟨R, S, h, ro, en, f0, fj⟩ := I
 have rs := h.rs
 have fn : sFit s (H0 s o) := by
  obtain ⟨n', hS, hn, hH, hq, lR, lS, hQ⟩ := id h
  have b1 : (f_range o).length = 4 := by rw [Sh_R hS]; exact lR
  have b2 : (f_slide o).length = 4 := by rw [Sh_S hS]; exact lS
  have b3 := Sh_l_frontSize hS
  have b4 := Sh_l_backSize hS
  have b5 := Sh_l_backElem hS
  have b6 := Sh_l_frontAgg hS
  have b7 := Sh_l_backAgg hS
  have b8 := Sh_l_snap hS
  have b9 := Sh_l_reg hS
  refine ⟨by show 11 - 1 ≤ _; decide, ?_⟩
  simp only [H0, H0v, qhs, qsz, b1, b2, b3, b4, b5, b6, b7, b8, b9]
  simp only [cN, room_1]
  omega
 unfold B0_109
 simp only
 refine okP.ite (fun c => ?_) (fun _ => okP.some ⟨rfl, fn⟩)
 rw [i_lt] at c
 have ei : (j + 1).toInt = j.toInt + 1 := inc1 (by omega)
 have eni : (j + 1).toInt.toNat = j.toInt.toNat + 1 := by omega
 have hbl := HB_len s f.toInt.toNat j.toInt.toNat
 have next : ∀ {f' n' : Int32} {p : Ob}, St q R S q (HB s f'.toInt.toNat (j.toInt.toNat + 1)) p → n' = nV (HB s f'.toInt.toNat (j.toInt.toNat + 1)) → 0 ≤ f'.toInt → f'.toInt ≤ j.toInt + 1 → okP (J0_244 s p q m f' n' j) (fun r => Sum.elim (fun e => e.1 = 1 ∧ sFit s e.2) (fun w => (0 ≤ w.2.2.1.toInt ∧ w.2.2.1.toInt ≤ 200 ∧ Inv s q w.1 w.2.1 w.2.2.1 w.2.2.2) ∧ (201 - w.2.2.1.toInt).toNat < (201 - j.toInt).toNat) r) := by
  intro f' n' p hp e' g0 g1
  unfold J0_244
  rw [e']
  apply okP.bind
  refine okP.mono (check_ok hp hs ro (U := j.toInt.toNat + 1) g0 (by omega) (by omega) (by omega) rfl) ?_
  rintro ⟨v, p2⟩ ⟨hv, hp2⟩
  simp only at hv hp2 ⊢
  subst hv
  rw [if_neg (by decide)]
  exact okP.some ⟨⟨by simp only; omega, by simp only; omega, R, S, by simp only [eni]; exact hp2, ro, by simp only [eni], g0, by simp only; omega⟩, by simp only; omega⟩
 have hb := HB_s s (f := f.toInt.toNat) (n := j.toInt.toNat) (by omega)
 rw [isP_ok hs j0 (by omega)]
 simp only [Option.bind_some]
 by_cases p : isP s j.toInt.toNat = true
 ·rw [if_pos p] at hb ⊢
  rw [if_neg (by decide)]
  obtain ⟨g1, g2, g3, g4⟩ := pos_ok hs (j := j) j0 (by omega)
  rw [g1, g2, g3, g4]
  simp only [Option.bind_some, val_ok]
  apply okP.bind
  refine okP.mono (push_m h (by omega) _ _ _ _) ?_
  rintro ⟨v, o2⟩ ⟨h2, hv⟩
  simp only at h2 hv ⊢
  have h2' : St q R S q (HB s f.toInt.toNat (j.toInt.toNat + 1)) o2 := by rw [hb]; exact h2
  have nv := nV_i (H := HB s f.toInt.toNat j.toInt.toNat) (by omega)
  have hl2 : (HB s f.toInt.toNat (j.toInt.toNat + 1)).length = (HB s f.toInt.toNat j.toInt.toNat).length + 1 := by rw [hb, List.length_append]; rfl
  have nv2 := nV_i (H := HB s f.toInt.toNat (j.toInt.toNat + 1)) (by omega)
  have n1 : (n + 1).toInt = n.toInt + 1 := inc1 (by rw [en, nv]; omega)
  have e2 : n + 1 = nV (HB s f.toInt.toNat (j.toInt.toNat + 1)) := by rw [i_eq, n1, nv2, hl2, en, nv]; omega
  have nn : (n + 1).toInt.toNat = (HB s f.toInt.toNat j.toInt.toNat).length + 1 := by rw [e2, nv2, hl2]; omega
  apply okP.bind
  refine okP.mono (mv_ok hs rs ro (n := n + 1) (by omega)) ?_
  intro e he
  rw [if_pos (show v = e by rw [i_eq, hv, he, nn])]
  exact next h2' e2 f0 (by omega)
 ·rw [if_neg p, if_pos rfl]
  apply okP.bind
  refine okP.mono (clear_m h) (fun o2 h2 => ?_)
  have e0 : HB s (j + 1).toInt.toNat (j.toInt.toNat + 1) = [] := HB_0 s _ _ (by omega)
  exact next (by rw [e0]; exact h2) (by rw [e0]; rfl) (by omega) (by omega)
theorem add_all {s : List Int32} (hs : s.length ≤ 260) {q : Int32} (q0 : 1 ≤ q.toInt) (q4 : q.toInt ≤ 4) {o : Ob} (h : St q (List.replicate 4 0) (List.replicate 4 0) 0 [] o) : okP (loopN (B0_21 s q) qN (0, o)) (fun e => ∃ p, e = .inl p ∧ ∃ R S, St q R S q [] p ∧ RO s R S q) := by
 refine okP.loop (fun v => 0 ≤ v.1.toInt ∧ v.1.toInt ≤ q.toInt ∧ ∃ R S, St q R S v.1 [] v.2 ∧ RO s R S v.1) (fun v => (4 - v.1.toInt).toNat) ⟨by show (0 : Int) ≤ 0; decide, by show (0 : Int) ≤ q.toInt; omega, _, _, h, fun x hx => ?_⟩ (by show (4 - (0 : Int)).toNat < 4000; decide) ?_
 ·have : x.toInt < 0 := hx.2
  omega
 rintro ⟨x, p⟩ ⟨x0, x1, R, S, hp, ro⟩
 simp only at x0 x1 hp ro
 have rs := hp.rs
 unfold B0_21
 simp only
 refine okP.ite (fun c => ?_) (fun c => ?_)
 ·rw [i_lt] at c
  have ei : (x + 1).toInt = x.toInt + 1 := inc1 (by omega)
  rw [rg_ok hs x0 (by omega), sl_ok hs x0 (by omega)]
  simp only [Option.bind_some]
  apply okP.bind
  refine okP.mono (add_m hp q4 _ _) ?_
  rintro ⟨v, p2⟩ hv
  rw [if_pos ⟨rfl, c, one_and _, one_and _⟩] at hv
  obtain ⟨v1, v2⟩ := hv
  simp only at v1 v2 ⊢
  rw [if_pos v1]
  refine okP.some ⟨⟨by simp only; omega, by simp only; omega, _, _, v2, fun y hy => ?_⟩, by simp only; omega⟩
  have hy' : 0 ≤ y.toInt ∧ y.toInt < (x + 1).toInt := hy
  have l1 := rs.2.1
  have l2 := rs.2.2.1
  unfold rq
  by_cases e : x.toInt.toNat = y.toInt.toNat
  ·rw [← e, List.getElem?_set_self (by omega), List.getElem?_set_self (by omega)]
   exact ⟨rfl, rfl⟩
  ·rw [List.getElem?_set_ne e, List.getElem?_set_ne e]
   exact ro y ⟨hy'.1, by omega⟩
 ·rw [i_lt] at c
  have e : x = q := by rw [i_eq]; omega
  subst e
  exact okP.some ⟨p, rfl, R, S, hp, ro⟩
theorem law_ok (s : List Int32) (hs : s.length ≤ 260) : ∃ τ, F0 s = some (1, τ) ∧ τ.length - List.length ([Sum.inr (Sum.inl (FieldType.int, s))] : QHeap) ≤ room_1.cells ∧ qhs τ - qhs [Sum.inr (Sum.inl (FieldType.int, s))] ≤ room_1.slots := by
 have hl := len_i (n := s.length) (by omega)
 have z1 : (1 : Int32).toInt = 1 := rfl
 have z3 : (3 : Int32).toInt = 3 := rfl
 have z200 : (200 : Int32).toInt = 200 := rfl
 have j72 : ∀ {q : Int32} {p : Ob} (w : Int32), (∃ R S, St q R S q [] p ∧ RO s R S q) → okP (J0_72 s p q w) (fun e => e.1 = 1 ∧ sFit s e.2) := by
  rintro q p w ⟨R, S, hp, ro⟩
  unfold J0_72
  have e0 : HB s (0 : Int32).toInt.toNat 0 = [] := HB_0 s _ _ (Nat.le_refl _)
  have ck := check_ok hp hs ro (f := 0) (u := -1) (U := 0) (by decide) (by decide) (by decide) (by decide) e0.symm
  apply okP.bind
  refine okP.mono ck ?_
  rintro ⟨v, p2⟩ ⟨hv, hp2⟩
  simp only at hv hp2 ⊢
  subst hv
  rw [if_neg (by decide)]
  obtain ⟨m, hm⟩ : ∃ m, m = (if (200 : Int32) < w then (200 : Int32) else w) := ⟨_, rfl⟩
  have m200 : m.toInt ≤ 200 := by
   rw [hm]
   by_cases c : (200 : Int32) < w
   ·rw [if_pos c]; decide
   ·rw [if_neg c]; rw [i_lt, z200] at c; omega
  rw [← hm]
  apply okP.bind
  refine okP.mono (P := fun e => e.1 = 1 ∧ sFit s e.2) ?_ (fun e he => okP.some he)
  refine okP.loop (fun v => 0 ≤ v.2.2.1.toInt ∧ v.2.2.1.toInt ≤ 200 ∧ Inv s q v.1 v.2.1 v.2.2.1 v.2.2.2) (fun v => (201 - v.2.2.1.toInt).toNat) ⟨by show (0 : Int) ≤ 0; decide, by show (0 : Int) ≤ 200; decide, R, S, ?_, ro, ?_, by show (0 : Int) ≤ 0; decide, by show (0 : Int) ≤ 0; decide⟩ (by show (201 - (0 : Int)).toNat < 4000; decide) ?_
  ·show St q R S q (HB s (0 : Int32).toInt.toNat 0) p2
   rw [e0]; exact hp2
  ·show (0 : Int32) = nV (HB s (0 : Int32).toInt.toNat 0)
   rw [e0]; rfl
  rintro ⟨f, n, j, o⟩ ⟨h1, h2, h3⟩
  exact turn hs m200 h3 h1 h2
 have : okP (F0 s) (fun e => e.1 = 1 ∧ sFit s e.2) := by
  unfold F0
  rw [cell_ok hs (k := 0) (i := 0) rfl]
  simp only [Option.bind_some]
  have k := and_rng (x := cl s 0) (m := 3) (by decide)
  rw [z3] at k
  obtain ⟨q, hq⟩ : ∃ q, q = 1 + (cl s 0 &&& 3) := ⟨_, rfl⟩
  have qi : q.toInt = 1 + (cl s 0 &&& 3).toInt := by rw [hq, i_add (by omega) (by omega), z1]
  rw [← hq]
  clear hq
  apply okP.bind
  refine okP.mono (init_m (x := q) (c := q) (by rw [if_neg (show ¬ q < 1 by rw [i_lt, z1]; omega), if_neg (show ¬ (4 : Int32) < q by rw [i_lt, z4']; omega)])) (fun o ho => ?_)
  apply okP.bind
  refine okP.mono (add_all hs (by omega) (by omega) ho) ?_
  rintro _ ⟨p, rfl, hp⟩
  simp only
  exact okP.ite (fun _ => j72 _ hp) (fun _ => j72 _ hp)
 obtain ⟨⟨r, τ⟩, q1, q2, q3⟩ := this
 simp only at q2
 subst q2
 exact ⟨τ, q1, q3⟩
set_option maxRecDepth 65536 in
theorem comes_1 {Post : Tables → Env → Array Value → State → Outcome → State → Prop} (hpost : ∀ tb e args s v u, (limb_1_1.after args s (.returned v) u = true ∧ limb_1_2.after args s (.returned v) u = true ∧ True) → FrameEnd s (.returned v) u (Jvm.fieldLocs frame_1_writes args s ++ Jvm.arrayLocs frame_1_arrays args s ++ Jvm.staticLocs frame_1_statics s) 32 2304 → Post tb e args s (.returned v) u) :
    ArmFor flags0 classFile x code maxLocals ret World_1 tables_1 room_1 Calls_1 rest_1 Pre_1 Post := by
  intro l hfl _ _ p e ha hc hk s m args below hf hA hF happ hP
  obtain ⟨hcalls, hrest, hpre⟩ := hP
  obtain ⟨-, -, -, hnamed, -, -, -, hat⟩ := (Spec.applies_iff hf).mp happ
  obtain ⟨hg, hn⟩ := and_e (Cond.before_iff.mp (show (Jvm.Cond.and given_1 narrow_1).before args s = true from hpre))
  obtain ⟨g0, g1⟩ := and_e hg
  obtain ⟨w0, rfl⟩ : ∃ w0 : Value, args = #[w0] := by
    have hs : args.size = 1 := by simpa [Cond.value, given_1] using g0
    obtain ⟨L⟩ := args
    match L, hs with
    | [w0], _ => exact ⟨w0, rfl⟩
  have hw := fun d (hd : d ∈ tables_1) => atoms_spec (ws := Jvm.Cond.code x code maxLocals ret :: tables_1) hat d (List.mem_cons_of_mem _ hd)
  have hfit : Fit s := fun {y c} hc i hi => by
    obtain ⟨ha, rfl⟩ := Array.getElem?_eq_some_iff.mp hc
    have q := List.all_eq_true.mp ((Array.all_eq_true_iff_forall_mem.mp hF) _ (Array.getElem_mem ha)) i (List.mem_range.mpr hi)
    simpa [Array.getElem?_eq_getElem hi] using q
  obtain ⟨n1, n2⟩ := and_e hn
  obtain ⟨a, cl, xs, rfl, hA1, hA2, hlen⟩ := script_ok hfit n1 n2
  obtain ⟨τ, hF0, hc1, hs1⟩ := law_ok xs hlen
  have hlt := hA1.lt
  have Ad : QAd s.heap.size (fun k => match k with | 0 => a | k + 1 => s.heap.size + k) := ⟨fun k hk => by cases k with | zero => exact absurd hk (by decide) | succ k => rfl, fun i j h => by
    cases i with
    | zero => cases j with
      | zero => rfl
      | succ j => have h' : a = s.heap.size + j := h; exact absurd hA1.lt (by rw [h']; exact Nat.not_lt.mpr (Nat.le_add_right _ _))
    | succ i => cases j with
      | zero => have h' : s.heap.size + i = a := h; exact absurd hA1.lt (by rw [← h']; exact Nat.not_lt.mpr (Nat.le_add_right _ _))
      | succ j => have h' : s.heap.size + i = s.heap.size + j := h; omega⟩
  have hR : QRep s s.heap.size (fun k => match k with | 0 => a | k + 1 => s.heap.size + k) s.heap [.inr (.inl (.int, xs))] := ⟨Nat.le_refl _, rfl, fun k c h => by
    cases k with
    | zero => cases h; exact ⟨cl, hA1, hA2⟩
    | succ k => cases h⟩
  have T := tF0 (l := l) (Z := s) Ad (QW_ok hw) xs hF0
  have M := QTri.met (k := 0) (as := [.ref 0]) (by decide) T hR (Nat.le_of_ble_eq_true rfl) (fun q => by cases q) tables_1 (rm := room_1) (by decide) (by decide) hc1 hs1
  obtain ⟨n, o, h1, h2, h3, _, L, rfl, ⟨rfl, R', N⟩, hq⟩ := M p e ha hc hk s m _ below hf ((Spec.applies_iff_loose hf).mp happ).1 ⟨rfl, State.Warmed39.refl s, rfl⟩ trivial
  refine ⟨n, _, h1, h2, h3, hpost _ _ _ _ _ _ ⟨Cond.after_iff.mpr rfl, Cond.after_iff.mpr (eq_i res_at (Term.int_eval (1)) rfl), trivial⟩ ⟨hq.1, hq.2.1, (hq.2.2.sift fun y hy => Or.inr (N y hy)).mono hc1 hs1⟩⟩
theorem main_1_1 : Claimed_1_1 := comes_1 fun _ _ _ _ _ _ h hF => ⟨h.1, hF⟩
theorem main_1_2 : Claimed_1_2 := comes_1 fun _ _ _ _ _ _ h hF => ⟨h.2.1, hF⟩
end Jvm.Pilot.@@N@@
namespace Jvm.Pilot.@@N@@
open Jvm Jvm.ClassFile Sem Op Lib Jvm.Free Jvm.Stand Jvm.Pilot.@@N@@.Jvm.D
/-! MADE BY PROGRAM (witnessworld.py) out of the Statement's table words and the real class files: 9 classes; the members and pool entries that the words name. The judged class is class 1, her method 8. -/
namespace start1
open Jvm.ClassFile
def u (s : String) : CpInfo := .utf8 (stringToUtf16 s)
/-- a pool by its gaps: so many unusable entries, then the entry; so many at the end -/
def gap : Nat → List CpInfo → List CpInfo
  | 0, r => r
  | n + 1, r => .unusable :: gap n r
def poolList (es : List (Nat × CpInfo)) (last : Nat) : List CpInfo := es.foldr (fun e r => gap e.1 (e.2 :: r)) (gap last [])
def pool (es : List (Nat × CpInfo)) (last : Nat) : Array CpInfo := ⟨poolList es last⟩
def fileOf (pool : Array CpInfo) (this : Nat) (attrs : Array Attribute := #[]) (ms : Array MethodInfo := #[]) (fl : Nat := 33) (sup : Nat := 0) (ifs : Array Nat := #[]) (fds : Array FieldInfo := #[]) : ClassFile where
  minorVersion := 0
  majorVersion := 65
  constantPool := pool
  accessFlags := fl
  thisClass := this
  superClass := sup
  interfaces := ifs
  fields := fds
  methods := ms
  attributes := attrs
def plain (name : String) (sup : Option ClassId) : Class where
  name := name
  kind := .ordinary
  loader := none
  accessFlags := 33
  super := sup
  interfaces := #[]
  cf := none
  fields := #[]
  methods := #[]
  instanceTypes := #[]
  staticTypes := #[]
  resolved := #[]
  callSites := []
  init := .initialized
  statics := none
  mirror := none

def pool0 : Array CpInfo := pool [(5, u "<init>"), (0, u "()V"), (1, .class_ 10), (1, u "java/lang/Object")] 113

def k0c0 : Code := { maxStack := 0, maxLocals := 1, code := object_method_1_code, exceptionTable := #[], attributes := #[] }
def k0m0 : Method := { name := "<init>", desc := "()V", sig := { parameters := [], returnType := none }, accessFlags := 1, code := some k0c0 }
/-- java/lang/Object -/
def k0 : Class := { plain "java/lang/Object" none with
  accessFlags := 33
  interfaces := #[]
  cf := some (fileOf pool0 8 #[] #[{ accessFlags := 1, nameIndex := 5, descriptorIndex := 6, attributes := #[] }] 33 0 #[] #[])
  fields := #[]
  methods := #[k0m0]
  instanceTypes := #[]
  staticTypes := #[]
  resolved := Array.replicate 124 none
  statics := none }

def pool1 : Array CpInfo := pool [(2, .class_ 4), (1, u "java/lang/Object"), (0, u "<init>"), (0, u "()V"), (0, .integer 2654435761), (0, .class_ 9), (0, u "SliceAggregateOwnLaw"), (0, .methodref 8 11), (0, .nameAndType 12 13), (0, u "cell"), (0, u "([II)I"), (0, .methodref 8 15), (0, .nameAndType 16 17), (0, u "isPush"), (0, u "([II)Z"), (0, .methodref 8 19), (0, .nameAndType 20 21), (0, u "val"), (0, u "(I)I"), (0, .methodref 23 24), (0, .class_ 25), (0, .nameAndType 26 27), (0, u "SliceAggregate"), (0, u "tupleCount"), (0, u "()I"), (0, .methodref 23 29), (0, .nameAndType 30 27), (0, u "queryCount"), (0, .methodref 8 32), (0, .nameAndType 33 13), (0, u "rangeOf"), (0, .methodref 8 35), (0, .nameAndType 36 13), (0, u "slideOf"), (0, .methodref 23 38), (0, .nameAndType 39 21), (0, u "queryRange"), (0, .methodref 23 41), (0, .nameAndType 42 21), (0, u "querySlide"), (0, .methodref 23 44), (0, .nameAndType 45 21), (0, u "windowStart"), (0, .methodref 23 47), (0, .nameAndType 48 21), (0, u "windowEnd"), (0, .methodref 23 50), (0, .nameAndType 51 21), (0, u "evaluations"), (0, .methodref 23 53), (0, .nameAndType 54 55), (0, u "result"), (0, u "(II)I"), (0, .methodref 8 57), (0, .nameAndType 58 59), (0, u "fold"), (0, u "([IIIIII)I"), (0, .methodref 23 61), (0, .nameAndType 62 55), (0, u "liveResult"), (0, .methodref 23 64), (0, .nameAndType 5 65), (0, u "(I)V"), (0, .methodref 23 67), (0, .nameAndType 68 55), (0, u "addQuery"), (0, .methodref 8 70), (0, .nameAndType 71 72), (0, u "check"), (0, u "(LSliceAggregate;[IIIII)Z"), (0, .methodref 23 74), (0, .nameAndType 75 76), (0, u "push"), (0, u "(IIII)I"), (0, .methodref 23 78), (0, .nameAndType 79 6), (0, u "clearStream"), (0, u "BASE"), (0, u "I"), (7, u "law"), (0, u "([I)Z")] 2

def k1m0 : Method := { name := "<init>", desc := "()V", sig := { parameters := [], returnType := none }, accessFlags := 1, code := none }
def k1c1 : Code := { maxStack := 2, maxLocals := 2, code := method_2_code, exceptionTable := #[], attributes := #[] }
def k1m1 : Method := { name := "cell", desc := "([II)I", sig := { parameters := [(.array .int), .int], returnType := some .int }, accessFlags := 10, code := some k1c1 }
def k1c2 : Code := { maxStack := 2, maxLocals := 1, code := method_3_code, exceptionTable := #[], attributes := #[] }
def k1m2 : Method := { name := "val", desc := "(I)I", sig := { parameters := [.int], returnType := some .int }, accessFlags := 10, code := some k1c2 }
def k1c3 : Code := { maxStack := 4, maxLocals := 2, code := method_4_code, exceptionTable := #[], attributes := #[] }
def k1m3 : Method := { name := "isPush", desc := "([II)Z", sig := { parameters := [(.array .int), .int], returnType := some .boolean }, accessFlags := 10, code := some k1c3 }
def k1c4 : Code := { maxStack := 5, maxLocals := 2, code := method_5_code, exceptionTable := #[], attributes := #[] }
def k1m4 : Method := { name := "rangeOf", desc := "([II)I", sig := { parameters := [(.array .int), .int], returnType := some .int }, accessFlags := 10, code := some k1c4 }
def k1c5 : Code := { maxStack := 5, maxLocals := 2, code := method_6_code, exceptionTable := #[], attributes := #[] }
def k1m5 : Method := { name := "slideOf", desc := "([II)I", sig := { parameters := [(.array .int), .int], returnType := some .int }, accessFlags := 10, code := some k1c5 }
def k1c6 : Code := { maxStack := 3, maxLocals := 21, code := method_7_code, exceptionTable := #[], attributes := #[] }
def k1m6 : Method := { name := "fold", desc := "([IIIIII)I", sig := { parameters := [(.array .int), .int, .int, .int, .int, .int], returnType := some .int }, accessFlags := 10, code := some k1c6 }
def k1c7 : Code := { maxStack := 7, maxLocals := 13, code := method_8_code, exceptionTable := #[], attributes := #[] }
def k1m7 : Method := { name := "check", desc := "(LSliceAggregate;[IIIII)Z", sig := { parameters := [(.object "SliceAggregate"), (.array .int), .int, .int, .int, .int], returnType := some .boolean }, accessFlags := 10, code := some k1c7 }
def k1c8 : Code := { maxStack := 7, maxLocals := 11, code := code, exceptionTable := #[], attributes := #[] }
def k1m8 : Method := { name := "law", desc := "([I)Z", sig := { parameters := [(.array .int)], returnType := some .boolean }, accessFlags := 9, code := some k1c8 }
/-- SliceAggregateOwnLaw -/
def k1 : Class := { plain "SliceAggregateOwnLaw" (some 0) with
  accessFlags := 49
  interfaces := #[]
  cf := some (fileOf pool1 8 #[] #[{ accessFlags := 1, nameIndex := 5, descriptorIndex := 6, attributes := #[] }, { accessFlags := 10, nameIndex := 12, descriptorIndex := 13, attributes := #[] }, { accessFlags := 10, nameIndex := 20, descriptorIndex := 21, attributes := #[] }, { accessFlags := 10, nameIndex := 16, descriptorIndex := 17, attributes := #[] }, { accessFlags := 10, nameIndex := 33, descriptorIndex := 13, attributes := #[] }, { accessFlags := 10, nameIndex := 36, descriptorIndex := 13, attributes := #[] }, { accessFlags := 10, nameIndex := 58, descriptorIndex := 59, attributes := #[] }, { accessFlags := 10, nameIndex := 71, descriptorIndex := 72, attributes := #[] }, { accessFlags := 9, nameIndex := 89, descriptorIndex := 90, attributes := #[] }] 49 2 #[] #[{ accessFlags := 26, nameIndex := 80, descriptorIndex := 81, attributes := #[] }])
  fields := #[{ name := "BASE", type := .int, accessFlags := 26, slot := 0, constantValue := 0 }]
  methods := #[k1m0, k1m1, k1m2, k1m3, k1m4, k1m5, k1m6, k1m7, k1m8]
  instanceTypes := #[]
  staticTypes := #[.int]
  resolved := Array.replicate 93 none
  statics := none }

def pool2 : Array CpInfo := pool [(1, .methodref 2 3), (0, .class_ 4), (0, .nameAndType 5 6), (0, u "java/lang/Object"), (0, u "<init>"), (0, u "()V"), (0, .fieldref 8 9), (0, .class_ 10), (0, .nameAndType 11 12), (0, u "SliceAggregate"), (0, u "regTuple"), (0, u "I"), (0, .fieldref 8 14), (0, .nameAndType 15 12), (0, u "regA"), (0, .fieldref 8 17), (0, .nameAndType 18 12), (0, u "regB"), (0, .fieldref 8 20), (0, .nameAndType 21 12), (0, u "regC"), (0, .fieldref 8 23), (0, .nameAndType 24 12), (0, u "regCount"), (0, .fieldref 8 26), (0, .nameAndType 27 12), (0, u "slots"), (0, .fieldref 8 29), (0, .nameAndType 30 31), (0, u "range"), (0, u "[I"), (0, .fieldref 8 33), (0, .nameAndType 34 31), (0, u "slide"), (0, .fieldref 8 36), (0, .nameAndType 37 31), (0, u "frontSize"), (0, .fieldref 8 39), (0, .nameAndType 40 31), (0, u "backSize"), (0, .fieldref 8 42), (0, .nameAndType 43 31), (0, u "backElem"), (0, .fieldref 8 45), (0, .nameAndType 46 31), (0, u "frontAgg"), (0, .fieldref 8 48), (0, .nameAndType 49 31), (0, u "backAgg"), (0, .fieldref 8 51), (0, .nameAndType 52 31), (0, u "snap"), (0, .fieldref 8 54), (0, .nameAndType 55 31), (0, u "reg"), (0, .fieldref 8 57), (0, .nameAndType 58 12), (0, u "capacity"), (0, .fieldref 8 60), (0, .nameAndType 61 12), (0, u "queries"), (0, .fieldref 8 63), (0, .nameAndType 64 12), (0, u "n"), (0, .methodref 8 66), (0, .nameAndType 67 68), (0, u "resetQuery"), (0, u "(I)V"), (0, .methodref 8 70), (0, .nameAndType 71 72), (0, u "regSet"), (0, u "(IIIII)V"), (0, .methodref 8 74), (0, .nameAndType 75 68), (0, u "appendToQuery"), (0, .methodref 8 77), (0, .nameAndType 78 68), (0, u "takeSnapshot"), (0, .methodref 8 80), (0, .nameAndType 81 82), (0, u "validQuery"), (0, u "(I)Z"), (0, .methodref 8 84), (0, .nameAndType 85 82), (0, u "validEntry"), (0, .methodref 8 87), (0, .nameAndType 88 89), (0, u "liveFold"), (0, u "(II)V"), (0, .methodref 8 91), (0, .nameAndType 92 93), (0, u "regEntry"), (0, u "(II)I"), (0, .methodref 8 95), (0, .nameAndType 96 97), (0, u "endOf"), (0, u "(I)I"), (0, .methodref 8 99), (0, .nameAndType 100 68), (0, u "regIdentity"), (0, .methodref 8 102), (0, .nameAndType 103 89), (0, u "storeBackAgg"), (0, .methodref 8 105), (0, .nameAndType 106 89), (0, u "storeSnap"), (0, .methodref 8 108), (0, .nameAndType 109 68), (0, u "evictOldest"), (0, .methodref 8 111), (0, .nameAndType 112 113), (0, u "validSlot"), (0, u "(II)Z"), (0, .methodref 8 115), (0, .nameAndType 116 117), (0, u "storeBack"), (0, u "(III)V"), (0, .methodref 8 119), (0, .nameAndType 120 89), (0, u "loadBackAgg"), (0, .methodref 8 122), (0, .nameAndType 123 117), (0, u "regMul"), (0, .methodref 8 125), (0, .nameAndType 126 68), (0, u "flip"), (0, .methodref 8 128), (0, .nameAndType 129 117), (0, u "loadBack"), (0, .methodref 8 131), (0, .nameAndType 132 117), (0, u "storeFront"), (0, .methodref 8 134), (0, .nameAndType 135 117), (0, u "loadFront"), (0, .methodref 8 137), (0, .nameAndType 138 82), (0, u "validReg"), (0, .methodref 8 140), (0, .nameAndType 141 93), (0, u "slotOffset"), (0, u "ERR"), (2, u "MIN_RANGE"), (1, u "MAX_RANGE"), (1, u "MIN_SLIDE"), (0, u "MAX_SLIDE"), (0, u "MAX_QUERIES"), (7, u "addQuery"), (0, u "push"), (0, u "(IIII)I"), (0, u "result"), (0, u "liveResult"), (0, u "windowStart"), (0, u "windowEnd"), (0, u "evaluations"), (0, u "queryRange"), (0, u "querySlide"), (0, u "queryCount"), (0, u "()I"), (0, u "tupleCount"), (0, u "clearStream")] 2

def k2c0 : Code := { maxStack := 2, maxLocals := 4, code := prog_1_method_1_code, exceptionTable := #[], attributes := #[] }
def k2m0 : Method := { name := "<init>", desc := "(I)V", sig := { parameters := [.int], returnType := none }, accessFlags := 1, code := some k2c0 }
def k2c1 : Code := { maxStack := 3, maxLocals := 4, code := prog_1_method_2_code, exceptionTable := #[], attributes := #[] }
def k2m1 : Method := { name := "addQuery", desc := "(II)I", sig := { parameters := [.int, .int], returnType := some .int }, accessFlags := 1, code := some k2c1 }
def k2c2 : Code := { maxStack := 6, maxLocals := 8, code := prog_1_method_3_code, exceptionTable := #[], attributes := #[] }
def k2m2 : Method := { name := "push", desc := "(IIII)I", sig := { parameters := [.int, .int, .int, .int], returnType := some .int }, accessFlags := 1, code := some k2c2 }
def k2c3 : Code := { maxStack := 3, maxLocals := 3, code := prog_1_method_4_code, exceptionTable := #[], attributes := #[] }
def k2m3 : Method := { name := "result", desc := "(II)I", sig := { parameters := [.int, .int], returnType := some .int }, accessFlags := 1, code := some k2c3 }
def k2c4 : Code := { maxStack := 3, maxLocals := 3, code := prog_1_method_5_code, exceptionTable := #[], attributes := #[] }
def k2m4 : Method := { name := "liveResult", desc := "(II)I", sig := { parameters := [.int, .int], returnType := some .int }, accessFlags := 1, code := some k2c4 }
def k2c5 : Code := { maxStack := 3, maxLocals := 3, code := prog_1_method_6_code, exceptionTable := #[], attributes := #[] }
def k2m5 : Method := { name := "windowStart", desc := "(I)I", sig := { parameters := [.int], returnType := some .int }, accessFlags := 1, code := some k2c5 }
def k2c6 : Code := { maxStack := 2, maxLocals := 2, code := prog_1_method_7_code, exceptionTable := #[], attributes := #[] }
def k2m6 : Method := { name := "windowEnd", desc := "(I)I", sig := { parameters := [.int], returnType := some .int }, accessFlags := 1, code := some k2c6 }
def k2c7 : Code := { maxStack := 2, maxLocals := 3, code := prog_1_method_8_code, exceptionTable := #[], attributes := #[] }
def k2m7 : Method := { name := "evaluations", desc := "(I)I", sig := { parameters := [.int], returnType := some .int }, accessFlags := 1, code := some k2c7 }
def k2c8 : Code := { maxStack := 2, maxLocals := 2, code := prog_1_method_9_code, exceptionTable := #[], attributes := #[] }
def k2m8 : Method := { name := "queryRange", desc := "(I)I", sig := { parameters := [.int], returnType := some .int }, accessFlags := 1, code := some k2c8 }
def k2c9 : Code := { maxStack := 2, maxLocals := 2, code := prog_1_method_10_code, exceptionTable := #[], attributes := #[] }
def k2m9 : Method := { name := "querySlide", desc := "(I)I", sig := { parameters := [.int], returnType := some .int }, accessFlags := 1, code := some k2c9 }
def k2c10 : Code := { maxStack := 1, maxLocals := 1, code := prog_1_method_11_code, exceptionTable := #[], attributes := #[] }
def k2m10 : Method := { name := "queryCount", desc := "()I", sig := { parameters := [], returnType := some .int }, accessFlags := 1, code := some k2c10 }
def k2c11 : Code := { maxStack := 1, maxLocals := 1, code := prog_1_method_12_code, exceptionTable := #[], attributes := #[] }
def k2m11 : Method := { name := "tupleCount", desc := "()I", sig := { parameters := [], returnType := some .int }, accessFlags := 1, code := some k2c11 }
def k2c12 : Code := { maxStack := 2, maxLocals := 2, code := prog_1_method_13_code, exceptionTable := #[], attributes := #[] }
def k2m12 : Method := { name := "clearStream", desc := "()V", sig := { parameters := [], returnType := none }, accessFlags := 1, code := some k2c12 }
def k2c13 : Code := { maxStack := 2, maxLocals := 2, code := prog_1_method_14_code, exceptionTable := #[], attributes := #[] }
def k2m13 : Method := { name := "validQuery", desc := "(I)Z", sig := { parameters := [.int], returnType := some .boolean }, accessFlags := 2, code := some k2c13 }
def k2c14 : Code := { maxStack := 2, maxLocals := 2, code := prog_1_method_15_code, exceptionTable := #[], attributes := #[] }
def k2m14 : Method := { name := "validEntry", desc := "(I)Z", sig := { parameters := [.int], returnType := some .boolean }, accessFlags := 2, code := some k2c14 }
def k2c15 : Code := { maxStack := 2, maxLocals := 2, code := prog_1_method_16_code, exceptionTable := #[], attributes := #[] }
def k2m15 : Method := { name := "validReg", desc := "(I)Z", sig := { parameters := [.int], returnType := some .boolean }, accessFlags := 2, code := some k2c15 }
def k2c16 : Code := { maxStack := 2, maxLocals := 3, code := prog_1_method_17_code, exceptionTable := #[], attributes := #[] }
def k2m16 : Method := { name := "validSlot", desc := "(II)Z", sig := { parameters := [.int, .int], returnType := some .boolean }, accessFlags := 2, code := some k2c16 }
def k2c17 : Code := { maxStack := 2, maxLocals := 3, code := prog_1_method_18_code, exceptionTable := #[], attributes := #[] }
def k2m17 : Method := { name := "slotOffset", desc := "(II)I", sig := { parameters := [.int, .int], returnType := some .int }, accessFlags := 2, code := some k2c17 }
def k2c18 : Code := { maxStack := 3, maxLocals := 3, code := prog_1_method_19_code, exceptionTable := #[], attributes := #[] }
def k2m18 : Method := { name := "endOf", desc := "(I)I", sig := { parameters := [.int], returnType := some .int }, accessFlags := 2, code := some k2c18 }
def k2c19 : Code := { maxStack := 3, maxLocals := 2, code := prog_1_method_20_code, exceptionTable := #[], attributes := #[] }
def k2m19 : Method := { name := "resetQuery", desc := "(I)V", sig := { parameters := [.int], returnType := none }, accessFlags := 2, code := some k2c19 }
def k2c20 : Code := { maxStack := 4, maxLocals := 4, code := prog_1_method_21_code, exceptionTable := #[], attributes := #[] }
def k2m20 : Method := { name := "appendToQuery", desc := "(I)V", sig := { parameters := [.int], returnType := none }, accessFlags := 2, code := some k2c20 }
def k2c21 : Code := { maxStack := 4, maxLocals := 2, code := prog_1_method_22_code, exceptionTable := #[], attributes := #[] }
def k2m21 : Method := { name := "evictOldest", desc := "(I)V", sig := { parameters := [.int], returnType := none }, accessFlags := 2, code := some k2c21 }
def k2c22 : Code := { maxStack := 5, maxLocals := 4, code := prog_1_method_23_code, exceptionTable := #[], attributes := #[] }
def k2m22 : Method := { name := "flip", desc := "(I)V", sig := { parameters := [.int], returnType := none }, accessFlags := 2, code := some k2c22 }
def k2c23 : Code := { maxStack := 5, maxLocals := 4, code := prog_1_method_24_code, exceptionTable := #[], attributes := #[] }
def k2m23 : Method := { name := "liveFold", desc := "(II)V", sig := { parameters := [.int, .int], returnType := none }, accessFlags := 2, code := some k2c23 }
def k2c24 : Code := { maxStack := 3, maxLocals := 2, code := prog_1_method_25_code, exceptionTable := #[], attributes := #[] }
def k2m24 : Method := { name := "takeSnapshot", desc := "(I)V", sig := { parameters := [.int], returnType := none }, accessFlags := 2, code := some k2c24 }
def k2c25 : Code := { maxStack := 3, maxLocals := 7, code := prog_1_method_26_code, exceptionTable := #[], attributes := #[] }
def k2m25 : Method := { name := "regSet", desc := "(IIIII)V", sig := { parameters := [.int, .int, .int, .int, .int], returnType := none }, accessFlags := 2, code := some k2c25 }
def k2c26 : Code := { maxStack := 6, maxLocals := 2, code := prog_1_method_27_code, exceptionTable := #[], attributes := #[] }
def k2m26 : Method := { name := "regIdentity", desc := "(I)V", sig := { parameters := [.int], returnType := none }, accessFlags := 2, code := some k2c26 }
def k2c27 : Code := { maxStack := 3, maxLocals := 3, code := prog_1_method_28_code, exceptionTable := #[], attributes := #[] }
def k2m27 : Method := { name := "regEntry", desc := "(II)I", sig := { parameters := [.int, .int], returnType := some .int }, accessFlags := 2, code := some k2c27 }
def k2c28 : Code := { maxStack := 5, maxLocals := 15, code := prog_1_method_29_code, exceptionTable := #[], attributes := #[] }
def k2m28 : Method := { name := "regMul", desc := "(III)V", sig := { parameters := [.int, .int, .int], returnType := none }, accessFlags := 2, code := some k2c28 }
def k2c29 : Code := { maxStack := 5, maxLocals := 7, code := prog_1_method_30_code, exceptionTable := #[], attributes := #[] }
def k2m29 : Method := { name := "loadBack", desc := "(III)V", sig := { parameters := [.int, .int, .int], returnType := none }, accessFlags := 2, code := some k2c29 }
def k2c30 : Code := { maxStack := 5, maxLocals := 7, code := prog_1_method_31_code, exceptionTable := #[], attributes := #[] }
def k2m30 : Method := { name := "storeBack", desc := "(III)V", sig := { parameters := [.int, .int, .int], returnType := none }, accessFlags := 2, code := some k2c30 }
def k2c31 : Code := { maxStack := 5, maxLocals := 7, code := prog_1_method_32_code, exceptionTable := #[], attributes := #[] }
def k2m31 : Method := { name := "loadFront", desc := "(III)V", sig := { parameters := [.int, .int, .int], returnType := none }, accessFlags := 2, code := some k2c31 }
def k2c32 : Code := { maxStack := 5, maxLocals := 7, code := prog_1_method_33_code, exceptionTable := #[], attributes := #[] }
def k2m32 : Method := { name := "storeFront", desc := "(III)V", sig := { parameters := [.int, .int, .int], returnType := none }, accessFlags := 2, code := some k2c32 }
def k2c33 : Code := { maxStack := 5, maxLocals := 5, code := prog_1_method_34_code, exceptionTable := #[], attributes := #[] }
def k2m33 : Method := { name := "loadBackAgg", desc := "(II)V", sig := { parameters := [.int, .int], returnType := none }, accessFlags := 2, code := some k2c33 }
def k2c34 : Code := { maxStack := 5, maxLocals := 5, code := prog_1_method_35_code, exceptionTable := #[], attributes := #[] }
def k2m34 : Method := { name := "storeBackAgg", desc := "(II)V", sig := { parameters := [.int, .int], returnType := none }, accessFlags := 2, code := some k2c34 }
def k2c35 : Code := { maxStack := 5, maxLocals := 5, code := prog_1_method_36_code, exceptionTable := #[], attributes := #[] }
def k2m35 : Method := { name := "storeSnap", desc := "(II)V", sig := { parameters := [.int, .int], returnType := none }, accessFlags := 2, code := some k2c35 }
/-- SliceAggregate -/
def k2 : Class := { plain "SliceAggregate" (some 0) with
  accessFlags := 49
  interfaces := #[]
  cf := some (fileOf pool2 8 #[] #[{ accessFlags := 1, nameIndex := 5, descriptorIndex := 68, attributes := #[] }, { accessFlags := 1, nameIndex := 159, descriptorIndex := 93, attributes := #[] }, { accessFlags := 1, nameIndex := 160, descriptorIndex := 161, attributes := #[] }, { accessFlags := 1, nameIndex := 162, descriptorIndex := 93, attributes := #[] }, { accessFlags := 1, nameIndex := 163, descriptorIndex := 93, attributes := #[] }, { accessFlags := 1, nameIndex := 164, descriptorIndex := 97, attributes := #[] }, { accessFlags := 1, nameIndex := 165, descriptorIndex := 97, attributes := #[] }, { accessFlags := 1, nameIndex := 166, descriptorIndex := 97, attributes := #[] }, { accessFlags := 1, nameIndex := 167, descriptorIndex := 97, attributes := #[] }, { accessFlags := 1, nameIndex := 168, descriptorIndex := 97, attributes := #[] }, { accessFlags := 1, nameIndex := 169, descriptorIndex := 170, attributes := #[] }, { accessFlags := 1, nameIndex := 171, descriptorIndex := 170, attributes := #[] }, { accessFlags := 1, nameIndex := 172, descriptorIndex := 6, attributes := #[] }, { accessFlags := 2, nameIndex := 81, descriptorIndex := 82, attributes := #[] }, { accessFlags := 2, nameIndex := 85, descriptorIndex := 82, attributes := #[] }, { accessFlags := 2, nameIndex := 138, descriptorIndex := 82, attributes := #[] }, { accessFlags := 2, nameIndex := 112, descriptorIndex := 113, attributes := #[] }, { accessFlags := 2, nameIndex := 141, descriptorIndex := 93, attributes := #[] }, { accessFlags := 2, nameIndex := 96, descriptorIndex := 97, attributes := #[] }, { accessFlags := 2, nameIndex := 67, descriptorIndex := 68, attributes := #[] }, { accessFlags := 2, nameIndex := 75, descriptorIndex := 68, attributes := #[] }, { accessFlags := 2, nameIndex := 109, descriptorIndex := 68, attributes := #[] }, { accessFlags := 2, nameIndex := 126, descriptorIndex := 68, attributes := #[] }, { accessFlags := 2, nameIndex := 88, descriptorIndex := 89, attributes := #[] }, { accessFlags := 2, nameIndex := 78, descriptorIndex := 68, attributes := #[] }, { accessFlags := 2, nameIndex := 71, descriptorIndex := 72, attributes := #[] }, { accessFlags := 2, nameIndex := 100, descriptorIndex := 68, attributes := #[] }, { accessFlags := 2, nameIndex := 92, descriptorIndex := 93, attributes := #[] }, { accessFlags := 2, nameIndex := 123, descriptorIndex := 117, attributes := #[] }, { accessFlags := 2, nameIndex := 129, descriptorIndex := 117, attributes := #[] }, { accessFlags := 2, nameIndex := 116, descriptorIndex := 117, attributes := #[] }, { accessFlags := 2, nameIndex := 135, descriptorIndex := 117, attributes := #[] }, { accessFlags := 2, nameIndex := 132, descriptorIndex := 117, attributes := #[] }, { accessFlags := 2, nameIndex := 120, descriptorIndex := 89, attributes := #[] }, { accessFlags := 2, nameIndex := 103, descriptorIndex := 89, attributes := #[] }, { accessFlags := 2, nameIndex := 106, descriptorIndex := 89, attributes := #[] }] 49 2 #[] #[{ accessFlags := 25, nameIndex := 142, descriptorIndex := 12, attributes := #[] }, { accessFlags := 25, nameIndex := 145, descriptorIndex := 12, attributes := #[] }, { accessFlags := 25, nameIndex := 147, descriptorIndex := 12, attributes := #[] }, { accessFlags := 25, nameIndex := 149, descriptorIndex := 12, attributes := #[] }, { accessFlags := 25, nameIndex := 150, descriptorIndex := 12, attributes := #[] }, { accessFlags := 25, nameIndex := 151, descriptorIndex := 12, attributes := #[] }, { accessFlags := 18, nameIndex := 11, descriptorIndex := 12, attributes := #[] }, { accessFlags := 18, nameIndex := 15, descriptorIndex := 12, attributes := #[] }, { accessFlags := 18, nameIndex := 18, descriptorIndex := 12, attributes := #[] }, { accessFlags := 18, nameIndex := 21, descriptorIndex := 12, attributes := #[] }, { accessFlags := 18, nameIndex := 24, descriptorIndex := 12, attributes := #[] }, { accessFlags := 18, nameIndex := 27, descriptorIndex := 12, attributes := #[] }, { accessFlags := 2, nameIndex := 58, descriptorIndex := 12, attributes := #[] }, { accessFlags := 2, nameIndex := 61, descriptorIndex := 12, attributes := #[] }, { accessFlags := 2, nameIndex := 64, descriptorIndex := 12, attributes := #[] }, { accessFlags := 18, nameIndex := 30, descriptorIndex := 31, attributes := #[] }, { accessFlags := 18, nameIndex := 34, descriptorIndex := 31, attributes := #[] }, { accessFlags := 18, nameIndex := 37, descriptorIndex := 31, attributes := #[] }, { accessFlags := 18, nameIndex := 40, descriptorIndex := 31, attributes := #[] }, { accessFlags := 18, nameIndex := 43, descriptorIndex := 31, attributes := #[] }, { accessFlags := 18, nameIndex := 46, descriptorIndex := 31, attributes := #[] }, { accessFlags := 18, nameIndex := 49, descriptorIndex := 31, attributes := #[] }, { accessFlags := 18, nameIndex := 52, descriptorIndex := 31, attributes := #[] }, { accessFlags := 18, nameIndex := 55, descriptorIndex := 31, attributes := #[] }])
  fields := #[{ name := "ERR", type := .int, accessFlags := 25, slot := 0, constantValue := 0 }, { name := "MIN_RANGE", type := .int, accessFlags := 25, slot := 1, constantValue := 0 }, { name := "MAX_RANGE", type := .int, accessFlags := 25, slot := 2, constantValue := 0 }, { name := "MIN_SLIDE", type := .int, accessFlags := 25, slot := 3, constantValue := 0 }, { name := "MAX_SLIDE", type := .int, accessFlags := 25, slot := 4, constantValue := 0 }, { name := "MAX_QUERIES", type := .int, accessFlags := 25, slot := 5, constantValue := 0 }, { name := "regTuple", type := .int, accessFlags := 18, slot := 0, constantValue := 0 }, { name := "regA", type := .int, accessFlags := 18, slot := 1, constantValue := 0 }, { name := "regB", type := .int, accessFlags := 18, slot := 2, constantValue := 0 }, { name := "regC", type := .int, accessFlags := 18, slot := 3, constantValue := 0 }, { name := "regCount", type := .int, accessFlags := 18, slot := 4, constantValue := 0 }, { name := "slots", type := .int, accessFlags := 18, slot := 5, constantValue := 0 }, { name := "capacity", type := .int, accessFlags := 2, slot := 6, constantValue := 0 }, { name := "queries", type := .int, accessFlags := 2, slot := 7, constantValue := 0 }, { name := "n", type := .int, accessFlags := 2, slot := 8, constantValue := 0 }, { name := "range", type := (.array .int), accessFlags := 18, slot := 9, constantValue := 0 }, { name := "slide", type := (.array .int), accessFlags := 18, slot := 10, constantValue := 0 }, { name := "frontSize", type := (.array .int), accessFlags := 18, slot := 11, constantValue := 0 }, { name := "backSize", type := (.array .int), accessFlags := 18, slot := 12, constantValue := 0 }, { name := "backElem", type := (.array .int), accessFlags := 18, slot := 13, constantValue := 0 }, { name := "frontAgg", type := (.array .int), accessFlags := 18, slot := 14, constantValue := 0 }, { name := "backAgg", type := (.array .int), accessFlags := 18, slot := 15, constantValue := 0 }, { name := "snap", type := (.array .int), accessFlags := 18, slot := 16, constantValue := 0 }, { name := "reg", type := (.array .int), accessFlags := 18, slot := 17, constantValue := 0 }]
  methods := #[k2m0, k2m1, k2m2, k2m3, k2m4, k2m5, k2m6, k2m7, k2m8, k2m9, k2m10, k2m11, k2m12, k2m13, k2m14, k2m15, k2m16, k2m17, k2m18, k2m19, k2m20, k2m21, k2m22, k2m23, k2m24, k2m25, k2m26, k2m27, k2m28, k2m29, k2m30, k2m31, k2m32, k2m33, k2m34, k2m35]
  instanceTypes := #[.int, .int, .int, .int, .int, .int, .int, .int, .int, (.array .int), (.array .int), (.array .int), (.array .int), (.array .int), (.array .int), (.array .int), (.array .int), (.array .int)]
  staticTypes := #[.int, .int, .int, .int, .int, .int]
  resolved := Array.replicate 175 none
  statics := none }

def pool3 : Array CpInfo := pool [(1, u "java/lang/Cloneable"), (0, .class_ 1), (0, u "java/lang/Object"), (0, .class_ 3)] 3

/-- java/lang/Cloneable -/
def k3 : Class := { plain "java/lang/Cloneable" (some 0) with
  accessFlags := 1537
  interfaces := #[]
  cf := some (fileOf pool3 2 #[] #[] 1537 4 #[] #[])
  fields := #[]
  methods := #[]
  instanceTypes := #[]
  staticTypes := #[]
  resolved := Array.replicate 8 none
  statics := none }

def pool4 : Array CpInfo := pool [(1, u "java/io/Serializable"), (0, .class_ 1), (0, u "java/lang/Object"), (0, .class_ 3)] 3

/-- java/io/Serializable -/
def k4 : Class := { plain "java/io/Serializable" (some 0) with
  accessFlags := 1537
  interfaces := #[]
  cf := some (fileOf pool4 2 #[] #[] 1537 4 #[] #[])
  fields := #[]
  methods := #[]
  instanceTypes := #[]
  staticTypes := #[]
  resolved := Array.replicate 8 none
  statics := none }

/-- the primitive byte -/
def k5 : Class := { plain "byte" none with kind := .primitive 'B', accessFlags := 0x411 }
/-- [B -/
def k6 : Class := { plain "[B" (some 0) with kind := .array 5 .byte, interfaces := #[3, 4], accessFlags := 1041 }

/-- the primitive int -/
def k7 : Class := { plain "int" none with kind := .primitive 'I', accessFlags := 0x411 }
/-- [I -/
def k8 : Class := { plain "[I" (some 0) with kind := .array 7 .int, interfaces := #[3, 4], accessFlags := 1041 }

def heap : Heap := #[{ cls := 8, slots := #[.int 1, .int 2, .int 3], vm := .none }]
def classes : Array Class := #[k0, k1, k2, k3, k4, k5, k6, k7, k8]
def interned : List (Array UInt16 × Addr) := []
def slotsUsed : Nat := 3
def theMethod : MethodId := ⟨1, 8⟩
def args0 : Array Value := #[.ref 0]
def aboutOver (below : List Frame) : State where
  vm := { classes := classes, interned := interned.toArray }
  heap := heap
  slotsUsed := slotsUsed
  threads := #[{ frames := .invoking theMethod args0 :: below }]
def below0 : List Frame := [.native { method := ⟨0, 0⟩, args := #[] }]
def about1 : State := aboutOver below0
def p0 : Program := .bare "" "" ""
def e0 : Env := launch0.env 0 0 0
theorem w_frames : about1.frames = Frame.invoking theMethod args0 :: below0 := rfl
set_option maxRecDepth 65536 in
theorem w_args : argsFit about1.vm theMethod args0 = true := by decide +kernel
set_option maxRecDepth 65536 in
theorem w_heap : heapFits about1 = true := by decide +kernel
set_option maxRecDepth 65536 in
theorem w_runnable : about1.curStatus? = some .runnable := by decide +kernel
set_option maxRecDepth 65536 in
theorem w_alone : about1.alone = true := by decide +kernel
set_option maxRecDepth 65536 in
theorem w_named : about1.methodNamed? x = some theMethod := by decide +kernel
set_option maxRecDepth 65536 in
theorem w_hears : about1.hears theMethod below0 = true := by decide +kernel
set_option maxRecDepth 65536 in
theorem w_ripe : about1.ripe theMethod args0 below0 = true := by decide +kernel
theorem w_running : about1.status = .running := rfl
set_option maxRecDepth 65536 in
theorem w_room : about1.hasRoom e0.platform room_1 = true :=
  launch0.hasRoom_least _ room_1 (by decide +kernel) (by decide +kernel) (by decide +kernel) (by decide +kernel) (by decide +kernel) (by decide +kernel)
theorem allAtoms_all (ts : List Jvm.Cond) (a : Array Jvm.Value) (st : Jvm.State) : (allAtoms ts).before a st = ts.all (fun c => c.before a st) := by
  induction ts with
  | nil => rfl
  | cons c t ih =>
    show (Jvm.Cond.and c (allAtoms t)).before a st = _
    rw [Jvm.Cond.before_and, ih, List.all_cons]
def words1 : List Jvm.Cond := Jvm.Cond.code x code maxLocals ret :: tables_1
/-- a 'code' word, met by the world's own term for the bytes: nothing is compared byte by byte -/
theorem code_word {y : MethodName} {bytes : ByteArray} {mx : Nat} {rt : Option FieldType} {a : Array Value} {s : State} {m : MethodId} {meth : Method} {c : Code} (h1 : s.methodNamed? y = some m) (h2 : s.vm.method? m = some meth) (h3 : meth.code = some c) (h4 : c.code = bytes)
    (h5 : (c.maxLocals == mx && c.exceptionTable.isEmpty && decide (c.maxStack ≤ mostOperands) && decide (meth.sig.returnType = rt) && !meth.locks && decide (parseMethodDescriptor y.desc = some meth.sig)) = true) : (Jvm.Cond.code y bytes mx rt).before a s = true := by
  simp only [Bool.and_eq_true, beq_iff_eq, Bool.not_eq_true', decide_eq_true_eq] at h5
  obtain ⟨⟨⟨⟨⟨g1, g2⟩, g3⟩, g4⟩, g5⟩, g6⟩ := h5
  simp [Cond.before, Cond.holds, Cond.value, h1, h2, h3, h4, g1, g2, g3, g4, g5, g6]
def isCode : Jvm.Cond → Bool
  | .code _ _ _ _ => true
  | _ => false
theorem all_split {L : List Jvm.Cond} {P : Jvm.Cond → Bool} (h1 : L.all (fun c => isCode c || P c) = true) (h2 : ∀ c ∈ L.filter isCode, P c = true) : L.all P = true := by
  refine List.all_eq_true.mpr fun c hc => ?_
  have h := List.all_eq_true.mp h1 c hc
  rcases Bool.eq_false_or_eq_true (isCode c) with hi | hi
  · exact h2 c (List.mem_filter.mpr ⟨hc, hi⟩)
  · simpa [hi] using h
set_option maxRecDepth 65536 in
theorem w_c0 : (Jvm.Cond.code x code maxLocals ret).before args0 about1 = true := code_word (m := ⟨1, 8⟩) (meth := k1m8) (c := k1c8) (by decide +kernel) rfl rfl rfl (by decide +kernel)
set_option maxRecDepth 65536 in
theorem w_c1 : (Jvm.Cond.code ({ cls := "SliceAggregateOwnLaw", name := "cell", desc := "([II)I" } : Jvm.MethodName) method_2_code (2 : Nat) (Option.some Jvm.ClassFile.FieldType.int)).before args0 about1 = true := code_word (m := ⟨1, 1⟩) (meth := k1m1) (c := k1c1) (by decide +kernel) rfl rfl rfl (by decide +kernel)
set_option maxRecDepth 65536 in
theorem w_c2 : (Jvm.Cond.code ({ cls := "SliceAggregate", name := "<init>", desc := "(I)V" } : Jvm.MethodName) prog_1_method_1_code (4 : Nat) (Option.none : Option Jvm.ClassFile.FieldType)).before args0 about1 = true := code_word (m := ⟨2, 0⟩) (meth := k2m0) (c := k2c0) (by decide +kernel) rfl rfl rfl (by decide +kernel)
set_option maxRecDepth 65536 in
theorem w_c3 : (Jvm.Cond.code ({ cls := "java/lang/Object", name := "<init>", desc := "()V" } : Jvm.MethodName) object_method_1_code (1 : Nat) (Option.none : Option Jvm.ClassFile.FieldType)).before args0 about1 = true := code_word (m := ⟨0, 0⟩) (meth := k0m0) (c := k0c0) (by decide +kernel) rfl rfl rfl (by decide +kernel)
set_option maxRecDepth 65536 in
theorem w_c4 : (Jvm.Cond.code ({ cls := "SliceAggregate", name := "resetQuery", desc := "(I)V" } : Jvm.MethodName) prog_1_method_20_code (2 : Nat) (Option.none : Option Jvm.ClassFile.FieldType)).before args0 about1 = true := code_word (m := ⟨2, 19⟩) (meth := k2m19) (c := k2c19) (by decide +kernel) rfl rfl rfl (by decide +kernel)
set_option maxRecDepth 65536 in
theorem w_c5 : (Jvm.Cond.code ({ cls := "SliceAggregate", name := "regIdentity", desc := "(I)V" } : Jvm.MethodName) prog_1_method_27_code (2 : Nat) (Option.none : Option Jvm.ClassFile.FieldType)).before args0 about1 = true := code_word (m := ⟨2, 26⟩) (meth := k2m26) (c := k2c26) (by decide +kernel) rfl rfl rfl (by decide +kernel)
set_option maxRecDepth 65536 in
theorem w_c6 : (Jvm.Cond.code ({ cls := "SliceAggregate", name := "regSet", desc := "(IIIII)V" } : Jvm.MethodName) prog_1_method_26_code (7 : Nat) (Option.none : Option Jvm.ClassFile.FieldType)).before args0 about1 = true := code_word (m := ⟨2, 25⟩) (meth := k2m25) (c := k2c25) (by decide +kernel) rfl rfl rfl (by decide +kernel)
set_option maxRecDepth 65536 in
theorem w_c7 : (Jvm.Cond.code ({ cls := "SliceAggregate", name := "validReg", desc := "(I)Z" } : Jvm.MethodName) prog_1_method_16_code (2 : Nat) (Option.some Jvm.ClassFile.FieldType.boolean)).before args0 about1 = true := code_word (m := ⟨2, 15⟩) (meth := k2m15) (c := k2c15) (by decide +kernel) rfl rfl rfl (by decide +kernel)
set_option maxRecDepth 65536 in
theorem w_c8 : (Jvm.Cond.code ({ cls := "SliceAggregate", name := "storeBackAgg", desc := "(II)V" } : Jvm.MethodName) prog_1_method_35_code (5 : Nat) (Option.none : Option Jvm.ClassFile.FieldType)).before args0 about1 = true := code_word (m := ⟨2, 34⟩) (meth := k2m34) (c := k2c34) (by decide +kernel) rfl rfl rfl (by decide +kernel)
set_option maxRecDepth 65536 in
theorem w_c9 : (Jvm.Cond.code ({ cls := "SliceAggregate", name := "storeSnap", desc := "(II)V" } : Jvm.MethodName) prog_1_method_36_code (5 : Nat) (Option.none : Option Jvm.ClassFile.FieldType)).before args0 about1 = true := code_word (m := ⟨2, 35⟩) (meth := k2m35) (c := k2c35) (by decide +kernel) rfl rfl rfl (by decide +kernel)
set_option maxRecDepth 65536 in
theorem w_c10 : (Jvm.Cond.code ({ cls := "SliceAggregateOwnLaw", name := "rangeOf", desc := "([II)I" } : Jvm.MethodName) method_5_code (2 : Nat) (Option.some Jvm.ClassFile.FieldType.int)).before args0 about1 = true := code_word (m := ⟨1, 4⟩) (meth := k1m4) (c := k1c4) (by decide +kernel) rfl rfl rfl (by decide +kernel)
set_option maxRecDepth 65536 in
theorem w_c11 : (Jvm.Cond.code ({ cls := "SliceAggregateOwnLaw", name := "slideOf", desc := "([II)I" } : Jvm.MethodName) method_6_code (2 : Nat) (Option.some Jvm.ClassFile.FieldType.int)).before args0 about1 = true := code_word (m := ⟨1, 5⟩) (meth := k1m5) (c := k1c5) (by decide +kernel) rfl rfl rfl (by decide +kernel)
set_option maxRecDepth 65536 in
theorem w_c12 : (Jvm.Cond.code ({ cls := "SliceAggregate", name := "addQuery", desc := "(II)I" } : Jvm.MethodName) prog_1_method_2_code (4 : Nat) (Option.some Jvm.ClassFile.FieldType.int)).before args0 about1 = true := code_word (m := ⟨2, 1⟩) (meth := k2m1) (c := k2c1) (by decide +kernel) rfl rfl rfl (by decide +kernel)
set_option maxRecDepth 65536 in
theorem w_c13 : (Jvm.Cond.code ({ cls := "SliceAggregateOwnLaw", name := "check", desc := "(LSliceAggregate;[IIIII)Z" } : Jvm.MethodName) method_8_code (13 : Nat) (Option.some Jvm.ClassFile.FieldType.boolean)).before args0 about1 = true := code_word (m := ⟨1, 7⟩) (meth := k1m7) (c := k1c7) (by decide +kernel) rfl rfl rfl (by decide +kernel)
set_option maxRecDepth 65536 in
theorem w_c14 : (Jvm.Cond.code ({ cls := "SliceAggregate", name := "tupleCount", desc := "()I" } : Jvm.MethodName) prog_1_method_12_code (1 : Nat) (Option.some Jvm.ClassFile.FieldType.int)).before args0 about1 = true := code_word (m := ⟨2, 11⟩) (meth := k2m11) (c := k2c11) (by decide +kernel) rfl rfl rfl (by decide +kernel)
set_option maxRecDepth 65536 in
theorem w_c15 : (Jvm.Cond.code ({ cls := "SliceAggregate", name := "queryCount", desc := "()I" } : Jvm.MethodName) prog_1_method_11_code (1 : Nat) (Option.some Jvm.ClassFile.FieldType.int)).before args0 about1 = true := code_word (m := ⟨2, 10⟩) (meth := k2m10) (c := k2c10) (by decide +kernel) rfl rfl rfl (by decide +kernel)
set_option maxRecDepth 65536 in
theorem w_c16 : (Jvm.Cond.code ({ cls := "SliceAggregate", name := "queryRange", desc := "(I)I" } : Jvm.MethodName) prog_1_method_9_code (2 : Nat) (Option.some Jvm.ClassFile.FieldType.int)).before args0 about1 = true := code_word (m := ⟨2, 8⟩) (meth := k2m8) (c := k2c8) (by decide +kernel) rfl rfl rfl (by decide +kernel)
set_option maxRecDepth 65536 in
theorem w_c17 : (Jvm.Cond.code ({ cls := "SliceAggregate", name := "validQuery", desc := "(I)Z" } : Jvm.MethodName) prog_1_method_14_code (2 : Nat) (Option.some Jvm.ClassFile.FieldType.boolean)).before args0 about1 = true := code_word (m := ⟨2, 13⟩) (meth := k2m13) (c := k2c13) (by decide +kernel) rfl rfl rfl (by decide +kernel)
set_option maxRecDepth 65536 in
theorem w_c18 : (Jvm.Cond.code ({ cls := "SliceAggregate", name := "querySlide", desc := "(I)I" } : Jvm.MethodName) prog_1_method_10_code (2 : Nat) (Option.some Jvm.ClassFile.FieldType.int)).before args0 about1 = true := code_word (m := ⟨2, 9⟩) (meth := k2m9) (c := k2c9) (by decide +kernel) rfl rfl rfl (by decide +kernel)
set_option maxRecDepth 65536 in
theorem w_c19 : (Jvm.Cond.code ({ cls := "SliceAggregate", name := "windowStart", desc := "(I)I" } : Jvm.MethodName) prog_1_method_6_code (3 : Nat) (Option.some Jvm.ClassFile.FieldType.int)).before args0 about1 = true := code_word (m := ⟨2, 5⟩) (meth := k2m5) (c := k2c5) (by decide +kernel) rfl rfl rfl (by decide +kernel)
set_option maxRecDepth 65536 in
theorem w_c20 : (Jvm.Cond.code ({ cls := "SliceAggregate", name := "endOf", desc := "(I)I" } : Jvm.MethodName) prog_1_method_19_code (3 : Nat) (Option.some Jvm.ClassFile.FieldType.int)).before args0 about1 = true := code_word (m := ⟨2, 18⟩) (meth := k2m18) (c := k2c18) (by decide +kernel) rfl rfl rfl (by decide +kernel)
set_option maxRecDepth 65536 in
theorem w_c21 : (Jvm.Cond.code ({ cls := "SliceAggregate", name := "windowEnd", desc := "(I)I" } : Jvm.MethodName) prog_1_method_7_code (2 : Nat) (Option.some Jvm.ClassFile.FieldType.int)).before args0 about1 = true := code_word (m := ⟨2, 6⟩) (meth := k2m6) (c := k2c6) (by decide +kernel) rfl rfl rfl (by decide +kernel)
set_option maxRecDepth 65536 in
theorem w_c22 : (Jvm.Cond.code ({ cls := "SliceAggregate", name := "evaluations", desc := "(I)I" } : Jvm.MethodName) prog_1_method_8_code (3 : Nat) (Option.some Jvm.ClassFile.FieldType.int)).before args0 about1 = true := code_word (m := ⟨2, 7⟩) (meth := k2m7) (c := k2c7) (by decide +kernel) rfl rfl rfl (by decide +kernel)
set_option maxRecDepth 65536 in
theorem w_c23 : (Jvm.Cond.code ({ cls := "SliceAggregate", name := "result", desc := "(II)I" } : Jvm.MethodName) prog_1_method_4_code (3 : Nat) (Option.some Jvm.ClassFile.FieldType.int)).before args0 about1 = true := code_word (m := ⟨2, 3⟩) (meth := k2m3) (c := k2c3) (by decide +kernel) rfl rfl rfl (by decide +kernel)
set_option maxRecDepth 65536 in
theorem w_c24 : (Jvm.Cond.code ({ cls := "SliceAggregate", name := "validEntry", desc := "(I)Z" } : Jvm.MethodName) prog_1_method_15_code (2 : Nat) (Option.some Jvm.ClassFile.FieldType.boolean)).before args0 about1 = true := code_word (m := ⟨2, 14⟩) (meth := k2m14) (c := k2c14) (by decide +kernel) rfl rfl rfl (by decide +kernel)
set_option maxRecDepth 65536 in
theorem w_c25 : (Jvm.Cond.code ({ cls := "SliceAggregateOwnLaw", name := "fold", desc := "([IIIIII)I" } : Jvm.MethodName) method_7_code (21 : Nat) (Option.some Jvm.ClassFile.FieldType.int)).before args0 about1 = true := code_word (m := ⟨1, 6⟩) (meth := k1m6) (c := k1c6) (by decide +kernel) rfl rfl rfl (by decide +kernel)
set_option maxRecDepth 65536 in
theorem w_c26 : (Jvm.Cond.code ({ cls := "SliceAggregate", name := "liveResult", desc := "(II)I" } : Jvm.MethodName) prog_1_method_5_code (3 : Nat) (Option.some Jvm.ClassFile.FieldType.int)).before args0 about1 = true := code_word (m := ⟨2, 4⟩) (meth := k2m4) (c := k2c4) (by decide +kernel) rfl rfl rfl (by decide +kernel)
set_option maxRecDepth 65536 in
theorem w_c27 : (Jvm.Cond.code ({ cls := "SliceAggregate", name := "liveFold", desc := "(II)V" } : Jvm.MethodName) prog_1_method_24_code (4 : Nat) (Option.none : Option Jvm.ClassFile.FieldType)).before args0 about1 = true := code_word (m := ⟨2, 23⟩) (meth := k2m23) (c := k2c23) (by decide +kernel) rfl rfl rfl (by decide +kernel)
set_option maxRecDepth 65536 in
theorem w_c28 : (Jvm.Cond.code ({ cls := "SliceAggregate", name := "loadBackAgg", desc := "(II)V" } : Jvm.MethodName) prog_1_method_34_code (5 : Nat) (Option.none : Option Jvm.ClassFile.FieldType)).before args0 about1 = true := code_word (m := ⟨2, 33⟩) (meth := k2m33) (c := k2c33) (by decide +kernel) rfl rfl rfl (by decide +kernel)
set_option maxRecDepth 65536 in
theorem w_c29 : (Jvm.Cond.code ({ cls := "SliceAggregate", name := "regMul", desc := "(III)V" } : Jvm.MethodName) prog_1_method_29_code (15 : Nat) (Option.none : Option Jvm.ClassFile.FieldType)).before args0 about1 = true := code_word (m := ⟨2, 28⟩) (meth := k2m28) (c := k2c28) (by decide +kernel) rfl rfl rfl (by decide +kernel)
set_option maxRecDepth 65536 in
theorem w_c30 : (Jvm.Cond.code ({ cls := "SliceAggregate", name := "regEntry", desc := "(II)I" } : Jvm.MethodName) prog_1_method_28_code (3 : Nat) (Option.some Jvm.ClassFile.FieldType.int)).before args0 about1 = true := code_word (m := ⟨2, 27⟩) (meth := k2m27) (c := k2c27) (by decide +kernel) rfl rfl rfl (by decide +kernel)
set_option maxRecDepth 65536 in
theorem w_c31 : (Jvm.Cond.code ({ cls := "SliceAggregateOwnLaw", name := "isPush", desc := "([II)Z" } : Jvm.MethodName) method_4_code (2 : Nat) (Option.some Jvm.ClassFile.FieldType.boolean)).before args0 about1 = true := code_word (m := ⟨1, 3⟩) (meth := k1m3) (c := k1c3) (by decide +kernel) rfl rfl rfl (by decide +kernel)
set_option maxRecDepth 65536 in
theorem w_c32 : (Jvm.Cond.code ({ cls := "SliceAggregateOwnLaw", name := "val", desc := "(I)I" } : Jvm.MethodName) method_3_code (1 : Nat) (Option.some Jvm.ClassFile.FieldType.int)).before args0 about1 = true := code_word (m := ⟨1, 2⟩) (meth := k1m2) (c := k1c2) (by decide +kernel) rfl rfl rfl (by decide +kernel)
set_option maxRecDepth 65536 in
theorem w_c33 : (Jvm.Cond.code ({ cls := "SliceAggregate", name := "push", desc := "(IIII)I" } : Jvm.MethodName) prog_1_method_3_code (8 : Nat) (Option.some Jvm.ClassFile.FieldType.int)).before args0 about1 = true := code_word (m := ⟨2, 2⟩) (meth := k2m2) (c := k2c2) (by decide +kernel) rfl rfl rfl (by decide +kernel)
set_option maxRecDepth 65536 in
theorem w_c34 : (Jvm.Cond.code ({ cls := "SliceAggregate", name := "appendToQuery", desc := "(I)V" } : Jvm.MethodName) prog_1_method_21_code (4 : Nat) (Option.none : Option Jvm.ClassFile.FieldType)).before args0 about1 = true := code_word (m := ⟨2, 20⟩) (meth := k2m20) (c := k2c20) (by decide +kernel) rfl rfl rfl (by decide +kernel)
set_option maxRecDepth 65536 in
theorem w_c35 : (Jvm.Cond.code ({ cls := "SliceAggregate", name := "validSlot", desc := "(II)Z" } : Jvm.MethodName) prog_1_method_17_code (3 : Nat) (Option.some Jvm.ClassFile.FieldType.boolean)).before args0 about1 = true := code_word (m := ⟨2, 16⟩) (meth := k2m16) (c := k2c16) (by decide +kernel) rfl rfl rfl (by decide +kernel)
set_option maxRecDepth 65536 in
theorem w_c36 : (Jvm.Cond.code ({ cls := "SliceAggregate", name := "storeBack", desc := "(III)V" } : Jvm.MethodName) prog_1_method_31_code (7 : Nat) (Option.none : Option Jvm.ClassFile.FieldType)).before args0 about1 = true := code_word (m := ⟨2, 30⟩) (meth := k2m30) (c := k2c30) (by decide +kernel) rfl rfl rfl (by decide +kernel)
set_option maxRecDepth 65536 in
theorem w_c37 : (Jvm.Cond.code ({ cls := "SliceAggregate", name := "slotOffset", desc := "(II)I" } : Jvm.MethodName) prog_1_method_18_code (3 : Nat) (Option.some Jvm.ClassFile.FieldType.int)).before args0 about1 = true := code_word (m := ⟨2, 17⟩) (meth := k2m17) (c := k2c17) (by decide +kernel) rfl rfl rfl (by decide +kernel)
set_option maxRecDepth 65536 in
theorem w_c38 : (Jvm.Cond.code ({ cls := "SliceAggregate", name := "takeSnapshot", desc := "(I)V" } : Jvm.MethodName) prog_1_method_25_code (2 : Nat) (Option.none : Option Jvm.ClassFile.FieldType)).before args0 about1 = true := code_word (m := ⟨2, 24⟩) (meth := k2m24) (c := k2c24) (by decide +kernel) rfl rfl rfl (by decide +kernel)
set_option maxRecDepth 65536 in
theorem w_c39 : (Jvm.Cond.code ({ cls := "SliceAggregate", name := "evictOldest", desc := "(I)V" } : Jvm.MethodName) prog_1_method_22_code (2 : Nat) (Option.none : Option Jvm.ClassFile.FieldType)).before args0 about1 = true := code_word (m := ⟨2, 21⟩) (meth := k2m21) (c := k2c21) (by decide +kernel) rfl rfl rfl (by decide +kernel)
set_option maxRecDepth 65536 in
theorem w_c40 : (Jvm.Cond.code ({ cls := "SliceAggregate", name := "flip", desc := "(I)V" } : Jvm.MethodName) prog_1_method_23_code (4 : Nat) (Option.none : Option Jvm.ClassFile.FieldType)).before args0 about1 = true := code_word (m := ⟨2, 22⟩) (meth := k2m22) (c := k2c22) (by decide +kernel) rfl rfl rfl (by decide +kernel)
set_option maxRecDepth 65536 in
theorem w_c41 : (Jvm.Cond.code ({ cls := "SliceAggregate", name := "loadBack", desc := "(III)V" } : Jvm.MethodName) prog_1_method_30_code (7 : Nat) (Option.none : Option Jvm.ClassFile.FieldType)).before args0 about1 = true := code_word (m := ⟨2, 29⟩) (meth := k2m29) (c := k2c29) (by decide +kernel) rfl rfl rfl (by decide +kernel)
set_option maxRecDepth 65536 in
theorem w_c42 : (Jvm.Cond.code ({ cls := "SliceAggregate", name := "storeFront", desc := "(III)V" } : Jvm.MethodName) prog_1_method_33_code (7 : Nat) (Option.none : Option Jvm.ClassFile.FieldType)).before args0 about1 = true := code_word (m := ⟨2, 32⟩) (meth := k2m32) (c := k2c32) (by decide +kernel) rfl rfl rfl (by decide +kernel)
set_option maxRecDepth 65536 in
theorem w_c43 : (Jvm.Cond.code ({ cls := "SliceAggregate", name := "loadFront", desc := "(III)V" } : Jvm.MethodName) prog_1_method_32_code (7 : Nat) (Option.none : Option Jvm.ClassFile.FieldType)).before args0 about1 = true := code_word (m := ⟨2, 31⟩) (meth := k2m31) (c := k2c31) (by decide +kernel) rfl rfl rfl (by decide +kernel)
set_option maxRecDepth 65536 in
theorem w_c44 : (Jvm.Cond.code ({ cls := "SliceAggregate", name := "clearStream", desc := "()V" } : Jvm.MethodName) prog_1_method_13_code (2 : Nat) (Option.none : Option Jvm.ClassFile.FieldType)).before args0 about1 = true := code_word (m := ⟨2, 12⟩) (meth := k2m12) (c := k2c12) (by decide +kernel) rfl rfl rfl (by decide +kernel)
def codes1 : List Jvm.Cond := [Jvm.Cond.code x code maxLocals ret, Jvm.Cond.code ({ cls := "SliceAggregateOwnLaw", name := "cell", desc := "([II)I" } : Jvm.MethodName) method_2_code (2 : Nat) (Option.some Jvm.ClassFile.FieldType.int), Jvm.Cond.code ({ cls := "SliceAggregate", name := "<init>", desc := "(I)V" } : Jvm.MethodName) prog_1_method_1_code (4 : Nat) (Option.none : Option Jvm.ClassFile.FieldType), Jvm.Cond.code ({ cls := "java/lang/Object", name := "<init>", desc := "()V" } : Jvm.MethodName) object_method_1_code (1 : Nat) (Option.none : Option Jvm.ClassFile.FieldType), Jvm.Cond.code ({ cls := "SliceAggregate", name := "resetQuery", desc := "(I)V" } : Jvm.MethodName) prog_1_method_20_code (2 : Nat) (Option.none : Option Jvm.ClassFile.FieldType), Jvm.Cond.code ({ cls := "SliceAggregate", name := "regIdentity", desc := "(I)V" } : Jvm.MethodName) prog_1_method_27_code (2 : Nat) (Option.none : Option Jvm.ClassFile.FieldType), Jvm.Cond.code ({ cls := "SliceAggregate", name := "regSet", desc := "(IIIII)V" } : Jvm.MethodName) prog_1_method_26_code (7 : Nat) (Option.none : Option Jvm.ClassFile.FieldType), Jvm.Cond.code ({ cls := "SliceAggregate", name := "validReg", desc := "(I)Z" } : Jvm.MethodName) prog_1_method_16_code (2 : Nat) (Option.some Jvm.ClassFile.FieldType.boolean), Jvm.Cond.code ({ cls := "SliceAggregate", name := "storeBackAgg", desc := "(II)V" } : Jvm.MethodName) prog_1_method_35_code (5 : Nat) (Option.none : Option Jvm.ClassFile.FieldType), Jvm.Cond.code ({ cls := "SliceAggregate", name := "storeSnap", desc := "(II)V" } : Jvm.MethodName) prog_1_method_36_code (5 : Nat) (Option.none : Option Jvm.ClassFile.FieldType), Jvm.Cond.code ({ cls := "SliceAggregateOwnLaw", name := "rangeOf", desc := "([II)I" } : Jvm.MethodName) method_5_code (2 : Nat) (Option.some Jvm.ClassFile.FieldType.int), Jvm.Cond.code ({ cls := "SliceAggregateOwnLaw", name := "slideOf", desc := "([II)I" } : Jvm.MethodName) method_6_code (2 : Nat) (Option.some Jvm.ClassFile.FieldType.int), Jvm.Cond.code ({ cls := "SliceAggregate", name := "addQuery", desc := "(II)I" } : Jvm.MethodName) prog_1_method_2_code (4 : Nat) (Option.some Jvm.ClassFile.FieldType.int), Jvm.Cond.code ({ cls := "SliceAggregateOwnLaw", name := "check", desc := "(LSliceAggregate;[IIIII)Z" } : Jvm.MethodName) method_8_code (13 : Nat) (Option.some Jvm.ClassFile.FieldType.boolean), Jvm.Cond.code ({ cls := "SliceAggregate", name := "tupleCount", desc := "()I" } : Jvm.MethodName) prog_1_method_12_code (1 : Nat) (Option.some Jvm.ClassFile.FieldType.int), Jvm.Cond.code ({ cls := "SliceAggregate", name := "queryCount", desc := "()I" } : Jvm.MethodName) prog_1_method_11_code (1 : Nat) (Option.some Jvm.ClassFile.FieldType.int), Jvm.Cond.code ({ cls := "SliceAggregate", name := "queryRange", desc := "(I)I" } : Jvm.MethodName) prog_1_method_9_code (2 : Nat) (Option.some Jvm.ClassFile.FieldType.int), Jvm.Cond.code ({ cls := "SliceAggregate", name := "validQuery", desc := "(I)Z" } : Jvm.MethodName) prog_1_method_14_code (2 : Nat) (Option.some Jvm.ClassFile.FieldType.boolean), Jvm.Cond.code ({ cls := "SliceAggregate", name := "querySlide", desc := "(I)I" } : Jvm.MethodName) prog_1_method_10_code (2 : Nat) (Option.some Jvm.ClassFile.FieldType.int), Jvm.Cond.code ({ cls := "SliceAggregate", name := "windowStart", desc := "(I)I" } : Jvm.MethodName) prog_1_method_6_code (3 : Nat) (Option.some Jvm.ClassFile.FieldType.int), Jvm.Cond.code ({ cls := "SliceAggregate", name := "endOf", desc := "(I)I" } : Jvm.MethodName) prog_1_method_19_code (3 : Nat) (Option.some Jvm.ClassFile.FieldType.int), Jvm.Cond.code ({ cls := "SliceAggregate", name := "windowEnd", desc := "(I)I" } : Jvm.MethodName) prog_1_method_7_code (2 : Nat) (Option.some Jvm.ClassFile.FieldType.int), Jvm.Cond.code ({ cls := "SliceAggregate", name := "evaluations", desc := "(I)I" } : Jvm.MethodName) prog_1_method_8_code (3 : Nat) (Option.some Jvm.ClassFile.FieldType.int), Jvm.Cond.code ({ cls := "SliceAggregate", name := "result", desc := "(II)I" } : Jvm.MethodName) prog_1_method_4_code (3 : Nat) (Option.some Jvm.ClassFile.FieldType.int), Jvm.Cond.code ({ cls := "SliceAggregate", name := "validEntry", desc := "(I)Z" } : Jvm.MethodName) prog_1_method_15_code (2 : Nat) (Option.some Jvm.ClassFile.FieldType.boolean), Jvm.Cond.code ({ cls := "SliceAggregateOwnLaw", name := "fold", desc := "([IIIIII)I" } : Jvm.MethodName) method_7_code (21 : Nat) (Option.some Jvm.ClassFile.FieldType.int), Jvm.Cond.code ({ cls := "SliceAggregate", name := "liveResult", desc := "(II)I" } : Jvm.MethodName) prog_1_method_5_code (3 : Nat) (Option.some Jvm.ClassFile.FieldType.int), Jvm.Cond.code ({ cls := "SliceAggregate", name := "liveFold", desc := "(II)V" } : Jvm.MethodName) prog_1_method_24_code (4 : Nat) (Option.none : Option Jvm.ClassFile.FieldType), Jvm.Cond.code ({ cls := "SliceAggregate", name := "loadBackAgg", desc := "(II)V" } : Jvm.MethodName) prog_1_method_34_code (5 : Nat) (Option.none : Option Jvm.ClassFile.FieldType), Jvm.Cond.code ({ cls := "SliceAggregate", name := "regMul", desc := "(III)V" } : Jvm.MethodName) prog_1_method_29_code (15 : Nat) (Option.none : Option Jvm.ClassFile.FieldType), Jvm.Cond.code ({ cls := "SliceAggregate", name := "regEntry", desc := "(II)I" } : Jvm.MethodName) prog_1_method_28_code (3 : Nat) (Option.some Jvm.ClassFile.FieldType.int), Jvm.Cond.code ({ cls := "SliceAggregateOwnLaw", name := "isPush", desc := "([II)Z" } : Jvm.MethodName) method_4_code (2 : Nat) (Option.some Jvm.ClassFile.FieldType.boolean), Jvm.Cond.code ({ cls := "SliceAggregateOwnLaw", name := "val", desc := "(I)I" } : Jvm.MethodName) method_3_code (1 : Nat) (Option.some Jvm.ClassFile.FieldType.int), Jvm.Cond.code ({ cls := "SliceAggregate", name := "push", desc := "(IIII)I" } : Jvm.MethodName) prog_1_method_3_code (8 : Nat) (Option.some Jvm.ClassFile.FieldType.int), Jvm.Cond.code ({ cls := "SliceAggregate", name := "appendToQuery", desc := "(I)V" } : Jvm.MethodName) prog_1_method_21_code (4 : Nat) (Option.none : Option Jvm.ClassFile.FieldType), Jvm.Cond.code ({ cls := "SliceAggregate", name := "validSlot", desc := "(II)Z" } : Jvm.MethodName) prog_1_method_17_code (3 : Nat) (Option.some Jvm.ClassFile.FieldType.boolean), Jvm.Cond.code ({ cls := "SliceAggregate", name := "storeBack", desc := "(III)V" } : Jvm.MethodName) prog_1_method_31_code (7 : Nat) (Option.none : Option Jvm.ClassFile.FieldType), Jvm.Cond.code ({ cls := "SliceAggregate", name := "slotOffset", desc := "(II)I" } : Jvm.MethodName) prog_1_method_18_code (3 : Nat) (Option.some Jvm.ClassFile.FieldType.int), Jvm.Cond.code ({ cls := "SliceAggregate", name := "takeSnapshot", desc := "(I)V" } : Jvm.MethodName) prog_1_method_25_code (2 : Nat) (Option.none : Option Jvm.ClassFile.FieldType), Jvm.Cond.code ({ cls := "SliceAggregate", name := "evictOldest", desc := "(I)V" } : Jvm.MethodName) prog_1_method_22_code (2 : Nat) (Option.none : Option Jvm.ClassFile.FieldType), Jvm.Cond.code ({ cls := "SliceAggregate", name := "flip", desc := "(I)V" } : Jvm.MethodName) prog_1_method_23_code (4 : Nat) (Option.none : Option Jvm.ClassFile.FieldType), Jvm.Cond.code ({ cls := "SliceAggregate", name := "loadBack", desc := "(III)V" } : Jvm.MethodName) prog_1_method_30_code (7 : Nat) (Option.none : Option Jvm.ClassFile.FieldType), Jvm.Cond.code ({ cls := "SliceAggregate", name := "storeFront", desc := "(III)V" } : Jvm.MethodName) prog_1_method_33_code (7 : Nat) (Option.none : Option Jvm.ClassFile.FieldType), Jvm.Cond.code ({ cls := "SliceAggregate", name := "loadFront", desc := "(III)V" } : Jvm.MethodName) prog_1_method_32_code (7 : Nat) (Option.none : Option Jvm.ClassFile.FieldType), Jvm.Cond.code ({ cls := "SliceAggregate", name := "clearStream", desc := "()V" } : Jvm.MethodName) prog_1_method_13_code (2 : Nat) (Option.none : Option Jvm.ClassFile.FieldType)]
set_option maxRecDepth 65536 in
theorem codes_eq : words1.filter isCode = codes1 := rfl
theorem w_codes : ∀ c ∈ words1.filter isCode, c.before args0 about1 = true := by
  rw [codes_eq]
  intro c hc
  simp only [codes1, List.mem_cons, List.not_mem_nil, or_false] at hc
  rcases hc with rfl | rfl | rfl | rfl | rfl | rfl | rfl | rfl | rfl | rfl | rfl | rfl | rfl | rfl | rfl | rfl | rfl | rfl | rfl | rfl | rfl | rfl | rfl | rfl | rfl | rfl | rfl | rfl | rfl | rfl | rfl | rfl | rfl | rfl | rfl | rfl | rfl | rfl | rfl | rfl | rfl | rfl | rfl | rfl | rfl
  · exact w_c0
  · exact w_c1
  · exact w_c2
  · exact w_c3
  · exact w_c4
  · exact w_c5
  · exact w_c6
  · exact w_c7
  · exact w_c8
  · exact w_c9
  · exact w_c10
  · exact w_c11
  · exact w_c12
  · exact w_c13
  · exact w_c14
  · exact w_c15
  · exact w_c16
  · exact w_c17
  · exact w_c18
  · exact w_c19
  · exact w_c20
  · exact w_c21
  · exact w_c22
  · exact w_c23
  · exact w_c24
  · exact w_c25
  · exact w_c26
  · exact w_c27
  · exact w_c28
  · exact w_c29
  · exact w_c30
  · exact w_c31
  · exact w_c32
  · exact w_c33
  · exact w_c34
  · exact w_c35
  · exact w_c36
  · exact w_c37
  · exact w_c38
  · exact w_c39
  · exact w_c40
  · exact w_c41
  · exact w_c42
  · exact w_c43
  · exact w_c44
set_option maxRecDepth 65536 in
theorem w_t1 : (words1.take 24).all (fun c => isCode c || c.before args0 about1) = true := by decide +kernel
set_option maxRecDepth 65536 in
theorem w_t2 : ((words1.drop 24).take 24).all (fun c => isCode c || c.before args0 about1) = true := by decide +kernel
set_option maxRecDepth 65536 in
theorem w_t3 : (((words1.drop 24).drop 24).take 24).all (fun c => isCode c || c.before args0 about1) = true := by decide +kernel
set_option maxRecDepth 65536 in
theorem w_t4 : ((((words1.drop 24).drop 24).drop 24).take 24).all (fun c => isCode c || c.before args0 about1) = true := by decide +kernel
set_option maxRecDepth 65536 in
theorem w_t5 : (((((words1.drop 24).drop 24).drop 24).drop 24).take 24).all (fun c => isCode c || c.before args0 about1) = true := by decide +kernel
set_option maxRecDepth 65536 in
theorem w_t6 : ((((((words1.drop 24).drop 24).drop 24).drop 24).drop 24).take 24).all (fun c => isCode c || c.before args0 about1) = true := by decide +kernel
set_option maxRecDepth 65536 in
theorem w_t7 : (((((((words1.drop 24).drop 24).drop 24).drop 24).drop 24).drop 24).take 24).all (fun c => isCode c || c.before args0 about1) = true := by decide +kernel
set_option maxRecDepth 65536 in
theorem w_t8 : ((((((((words1.drop 24).drop 24).drop 24).drop 24).drop 24).drop 24).drop 24).take 24).all (fun c => isCode c || c.before args0 about1) = true := by decide +kernel
set_option maxRecDepth 65536 in
theorem w_t9 : (((((((((words1.drop 24).drop 24).drop 24).drop 24).drop 24).drop 24).drop 24).drop 24).take 24).all (fun c => isCode c || c.before args0 about1) = true := by decide +kernel
set_option maxRecDepth 65536 in
theorem w_t10 : (((((((((words1.drop 24).drop 24).drop 24).drop 24).drop 24).drop 24).drop 24).drop 24).drop 24).all (fun c => isCode c || c.before args0 about1) = true := by decide +kernel
theorem w_tables : (allAtoms (Jvm.Cond.code x code maxLocals ret :: tables_1)).before args0 about1 = true := by
  rw [allAtoms_all]
  show words1.all (fun c => c.before args0 about1) = true
  refine all_split ?_ w_codes
  rw [← List.take_append_drop 24 words1, List.all_append, w_t1, ← List.take_append_drop 24 (words1.drop 24), List.all_append, w_t2, ← List.take_append_drop 24 ((words1.drop 24).drop 24), List.all_append, w_t3, ← List.take_append_drop 24 (((words1.drop 24).drop 24).drop 24), List.all_append, w_t4, ← List.take_append_drop 24 ((((words1.drop 24).drop 24).drop 24).drop 24), List.all_append, w_t5, ← List.take_append_drop 24 (((((words1.drop 24).drop 24).drop 24).drop 24).drop 24), List.all_append, w_t6, ← List.take_append_drop 24 ((((((words1.drop 24).drop 24).drop 24).drop 24).drop 24).drop 24), List.all_append, w_t7, ← List.take_append_drop 24 (((((((words1.drop 24).drop 24).drop 24).drop 24).drop 24).drop 24).drop 24), List.all_append, w_t8, ← List.take_append_drop 24 ((((((((words1.drop 24).drop 24).drop 24).drop 24).drop 24).drop 24).drop 24).drop 24), List.all_append, w_t9, w_t10]
  rfl
set_option maxRecDepth 65536 in
theorem w_rest : rest_1_c.before args0 about1 = true := by decide +kernel
set_option maxRecDepth 65536 in
theorem w_case : (Jvm.Cond.and given_1 narrow_1).before args0 about1 = true := by decide +kernel
theorem w_applies : (headSpec (Jvm.Cond.code x code maxLocals ret :: tables_1) room_1).applies x e0.platform about1 = true :=
  (Spec.applies_iff w_frames).mpr ⟨w_running, w_runnable, w_alone, w_named, w_hears, w_ripe, w_room, w_tables⟩
theorem atStart : AtStart classFile x code maxLocals ret World_1 tables_1 room_1 Calls_1 rest_1 Pre_1 launch0 p0 e0 about1 theMethod args0 below0 :=
  ⟨lists_1, trivial, launch0.admits_env _ _ _, launch0.least_env, fairChoices_fair.cas, fairChoices_fair.clock, w_frames, w_args, w_heap, w_applies, trivial, w_rest, w_case⟩
end start1
theorem witness_1 : WitnessClaimed_1 := ⟨start1.p0, start1.e0, start1.about1, start1.theMethod, start1.args0, start1.below0, start1.atStart⟩
end Jvm.Pilot.@@N@@
