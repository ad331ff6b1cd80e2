import JvmDerived
import JvmDerived.Pilot.@@N@@Statement
import JvmDerived.Pilot.@@N@@Code
set_option linter.unusedVariables false
set_option linter.unusedSimpArgs false
namespace Jvm.RoadKit
open Sem ClassFile Op Lib Jvm.Stand Jvm.Free Jvm.LawKit
section New
variable {p : Program} {l : Launch} {e : Env} {R : Room} {s : State} {m : MethodId} {args : Array Value} {below : List Frame} {meth : Method} {c : Code} {T : State} {locs : List Loc} {cells slots : Nat}
theorem retI (X : Stand p l e R s m args below meth c T locs cells slots) (hx : p.tables.exec = Jvm.exec) {pc : Nat} {Ls : Array Slot} {z : Int32} {rest : List Value} (hret : meth.sig.returnType = some .int) (hd : decode c.code pc = .ok (.ireturn, 1)) {fs : List Frame}
    (hl : ∀ (f : JFrame) (acts : List Action), f.method = m → f.locked = none → f.entered = [] → (doReturn e (T.setTop f) acts (some (.int z))).1 = T.setFrames fs) : Steps p.tables e below (T.setTop (mkF m pc Ls (.int z :: rest))) (T.setFrames fs) := by
  have hm' : T.vm.method? m = some meth := X.method'
  have hn : narrow .int (.int z) = .int z := rfl
  show Steps p.tables e below (T.setTop { method := m, pc := pc, locals := Ls, stack := _ :: rest, locked := none }) _
  jvm_step X.here [X.here.top, hx, hd, hm', hret, hn]
  first | (intro acts; rw [hl _ acts rfl rfl rfl]) | rw [hl _ _ rfl rfl rfl]
  exact Steps.refl _
end New
end Jvm.RoadKit
namespace Jvm.Pilot.@@N@@
open Jvm Jvm.ClassFile Sem Op Lib Jvm.Free Jvm.Stand Jvm.LawKit Jvm.RoadKit Bundle Jvm.Pilot.@@N@@.Jvm.D
/-! TABLES of this claim: printed by claim.py -/
def k0 : Nat := 1
def cName : String := "SliceAggregate"
def cN : Nat := 18
def nF : Nat := 18
def kName (k : Nat) : String := bif Nat.beq k 0 then "SliceAggregateL4" else "SliceAggregate"
def fNm (k : Nat) : String := (bif Nat.ble 9 k then (bif Nat.ble 13 k then (bif Nat.ble 15 k then (bif Nat.ble 16 k then (bif Nat.ble 17 k then "n" else "queries") else "capacity") else (bif Nat.ble 14 k then "reg" else "snap")) else (bif Nat.ble 11 k then (bif Nat.ble 12 k then "backAgg" else "frontAgg") else (bif Nat.ble 10 k then "backElem" else "backSize"))) else (bif Nat.ble 4 k then (bif Nat.ble 6 k then (bif Nat.ble 7 k then (bif Nat.ble 8 k then "frontSize" else "slide") else "range") else (bif Nat.ble 5 k then "slots" else "regCount")) else (bif Nat.ble 2 k then (bif Nat.ble 3 k then "regC" else "regB") else (bif Nat.ble 1 k then "regA" else "regTuple"))))
def fDs (k : Nat) : String := (bif Nat.ble 9 k then (bif Nat.ble 13 k then (bif Nat.ble 15 k then (bif Nat.ble 16 k then (bif Nat.ble 17 k then "I" else "I") else "I") else (bif Nat.ble 14 k then "[I" else "[I")) else (bif Nat.ble 11 k then (bif Nat.ble 12 k then "[I" else "[I") else (bif Nat.ble 10 k then "[I" else "[I"))) else (bif Nat.ble 4 k then (bif Nat.ble 6 k then (bif Nat.ble 7 k then (bif Nat.ble 8 k then "[I" else "[I") else "[I") else (bif Nat.ble 5 k then "I" else "I")) else (bif Nat.ble 2 k then (bif Nat.ble 3 k then "I" else "I") else (bif Nat.ble 1 k then "I" else "I"))))
def fTy (k : Nat) : FieldType := (bif Nat.ble 9 k then (bif Nat.ble 13 k then (bif Nat.ble 15 k then (bif Nat.ble 16 k then (bif Nat.ble 17 k then .int else .int) else .int) else (bif Nat.ble 14 k then (.array .int) else (.array .int))) else (bif Nat.ble 11 k then (bif Nat.ble 12 k then (.array .int) else (.array .int)) else (bif Nat.ble 10 k then (.array .int) else (.array .int)))) else (bif Nat.ble 4 k then (bif Nat.ble 6 k then (bif Nat.ble 7 k then (bif Nat.ble 8 k then (.array .int) else (.array .int)) else (.array .int)) else (bif Nat.ble 5 k then .int else .int)) else (bif Nat.ble 2 k then (bif Nat.ble 3 k then .int else .int) else (bif Nat.ble 1 k then .int else .int))))
def fFin (k : Nat) : Bool := (bif Nat.ble 9 k then (bif Nat.ble 13 k then (bif Nat.ble 15 k then (bif Nat.ble 16 k then (bif Nat.ble 17 k then false else false) else false) else (bif Nat.ble 14 k then true else true)) else (bif Nat.ble 11 k then (bif Nat.ble 12 k then true else true) else (bif Nat.ble 10 k then true else true))) else (bif Nat.ble 4 k then (bif Nat.ble 6 k then (bif Nat.ble 7 k then (bif Nat.ble 8 k then true else true) else true) else (bif Nat.ble 5 k then true else true)) else (bif Nat.ble 2 k then (bif Nat.ble 3 k then true else true) else (bif Nat.ble 1 k then true else true))))
def cDef : List Value := [.int 0, .int 0, .int 0, .int 0, .int 0, .int 0, .null, .null, .null, .null, .null, .null, .null, .null, .null, .int 0, .int 0, .int 0]
def cK : List Value := []
def pN : Nat := 34
def pTop : Nat := 215
def pK (m : Nat) : Nat := (bif Nat.ble 17 m then (bif Nat.ble 25 m then (bif Nat.ble 29 m then (bif Nat.ble 31 m then (bif Nat.ble 32 m then (bif Nat.ble 33 m then 1 else 1) else 1) else (bif Nat.ble 30 m then 1 else 1)) else (bif Nat.ble 27 m then (bif Nat.ble 28 m then 1 else 1) else (bif Nat.ble 26 m then 1 else 1))) else (bif Nat.ble 21 m then (bif Nat.ble 23 m then (bif Nat.ble 24 m then 1 else 1) else (bif Nat.ble 22 m then 1 else 1)) else (bif Nat.ble 19 m then (bif Nat.ble 20 m then 1 else 1) else (bif Nat.ble 18 m then 1 else 1)))) else (bif Nat.ble 8 m then (bif Nat.ble 12 m then (bif Nat.ble 14 m then (bif Nat.ble 15 m then (bif Nat.ble 16 m then 1 else 1) else 1) else (bif Nat.ble 13 m then 1 else 1)) else (bif Nat.ble 10 m then (bif Nat.ble 11 m then 1 else 1) else (bif Nat.ble 9 m then 1 else 0))) else (bif Nat.ble 4 m then (bif Nat.ble 6 m then (bif Nat.ble 7 m then 1 else 1) else (bif Nat.ble 5 m then 1 else 1)) else (bif Nat.ble 2 m then (bif Nat.ble 3 m then 1 else 1) else (bif Nat.ble 1 m then 1 else 0)))))
def pNm (m : Nat) : String := (bif Nat.ble 17 m then (bif Nat.ble 25 m then (bif Nat.ble 29 m then (bif Nat.ble 31 m then (bif Nat.ble 32 m then (bif Nat.ble 33 m then "loadFront" else "liveFold") else "takeSnapshot") else (bif Nat.ble 30 m then "storeFront" else "loadBack")) else (bif Nat.ble 27 m then (bif Nat.ble 28 m then "flip" else "evictOldest") else (bif Nat.ble 26 m then "regMul" else "loadBackAgg"))) else (bif Nat.ble 21 m then (bif Nat.ble 23 m then (bif Nat.ble 24 m then "slotOffset" else "storeBack") else (bif Nat.ble 22 m then "validSlot" else "appendToQuery")) else (bif Nat.ble 19 m then (bif Nat.ble 20 m then "push" else "endOf") else (bif Nat.ble 18 m then "addQuery" else "clearStream")))) else (bif Nat.ble 8 m then (bif Nat.ble 12 m then (bif Nat.ble 14 m then (bif Nat.ble 15 m then (bif Nat.ble 16 m then "windowStart" else "windowEnd") else "evaluations") else (bif Nat.ble 13 m then "querySlide" else "validQuery")) else (bif Nat.ble 10 m then (bif Nat.ble 11 m then "queryRange" else "tupleCount") else (bif Nat.ble 9 m then "queryCount" else "inv"))) else (bif Nat.ble 4 m then (bif Nat.ble 6 m then (bif Nat.ble 7 m then "storeSnap" else "storeBackAgg") else (bif Nat.ble 5 m then "validReg" else "regSet")) else (bif Nat.ble 2 m then (bif Nat.ble 3 m then "regIdentity" else "resetQuery") else (bif Nat.ble 1 m then "<init>" else "law")))))
def pDs (m : Nat) : String := (bif Nat.ble 17 m then (bif Nat.ble 25 m then (bif Nat.ble 29 m then (bif Nat.ble 31 m then (bif Nat.ble 32 m then (bif Nat.ble 33 m then "(III)V" else "(II)V") else "(I)V") else (bif Nat.ble 30 m then "(III)V" else "(III)V")) else (bif Nat.ble 27 m then (bif Nat.ble 28 m then "(I)V" else "(I)V") else (bif Nat.ble 26 m then "(III)V" else "(II)V"))) else (bif Nat.ble 21 m then (bif Nat.ble 23 m then (bif Nat.ble 24 m then "(II)I" else "(III)V") else (bif Nat.ble 22 m then "(II)Z" else "(I)V")) else (bif Nat.ble 19 m then (bif Nat.ble 20 m then "(IIII)I" else "(I)I") else (bif Nat.ble 18 m then "(II)I" else "()V")))) else (bif Nat.ble 8 m then (bif Nat.ble 12 m then (bif Nat.ble 14 m then (bif Nat.ble 15 m then (bif Nat.ble 16 m then "(I)I" else "(I)I") else "(I)I") else (bif Nat.ble 13 m then "(I)I" else "(I)Z")) else (bif Nat.ble 10 m then (bif Nat.ble 11 m then "(I)I" else "()I") else (bif Nat.ble 9 m then "()I" else "(LSliceAggregate;)Z"))) else (bif Nat.ble 4 m then (bif Nat.ble 6 m then (bif Nat.ble 7 m then "(II)V" else "(II)V") else (bif Nat.ble 5 m then "(I)Z" else "(IIIII)V")) else (bif Nat.ble 2 m then (bif Nat.ble 3 m then "(I)V" else "(I)V") else (bif Nat.ble 1 m then "(I)V" else "([I)Z")))))
def pName (m : Nat) : MethodName := ⟨kName (pK m), pNm m, pDs m⟩
def pBytes (m : Nat) : ByteArray := (bif Nat.ble 17 m then (bif Nat.ble 25 m then (bif Nat.ble 29 m then (bif Nat.ble 31 m then (bif Nat.ble 32 m then (bif Nat.ble 33 m then prog_1_method_32_code else prog_1_method_24_code) else prog_1_method_25_code) else (bif Nat.ble 30 m then prog_1_method_33_code else prog_1_method_30_code)) else (bif Nat.ble 27 m then (bif Nat.ble 28 m then prog_1_method_23_code else prog_1_method_22_code) else (bif Nat.ble 26 m then prog_1_method_29_code else prog_1_method_34_code))) else (bif Nat.ble 21 m then (bif Nat.ble 23 m then (bif Nat.ble 24 m then prog_1_method_18_code else prog_1_method_31_code) else (bif Nat.ble 22 m then prog_1_method_17_code else prog_1_method_21_code)) else (bif Nat.ble 19 m then (bif Nat.ble 20 m then prog_1_method_3_code else prog_1_method_19_code) else (bif Nat.ble 18 m then prog_1_method_2_code else prog_1_method_13_code)))) else (bif Nat.ble 8 m then (bif Nat.ble 12 m then (bif Nat.ble 14 m then (bif Nat.ble 15 m then (bif Nat.ble 16 m then prog_1_method_6_code else prog_1_method_7_code) else prog_1_method_8_code) else (bif Nat.ble 13 m then prog_1_method_10_code else prog_1_method_14_code)) else (bif Nat.ble 10 m then (bif Nat.ble 11 m then prog_1_method_9_code else prog_1_method_12_code) else (bif Nat.ble 9 m then prog_1_method_11_code else method_2_code))) else (bif Nat.ble 4 m then (bif Nat.ble 6 m then (bif Nat.ble 7 m then prog_1_method_36_code else prog_1_method_35_code) else (bif Nat.ble 5 m then prog_1_method_16_code else prog_1_method_26_code)) else (bif Nat.ble 2 m then (bif Nat.ble 3 m then prog_1_method_27_code else prog_1_method_20_code) else (bif Nat.ble 1 m then prog_1_method_1_code else code)))))
def pMaxL (m : Nat) : Nat := (bif Nat.ble 17 m then (bif Nat.ble 25 m then (bif Nat.ble 29 m then (bif Nat.ble 31 m then (bif Nat.ble 32 m then (bif Nat.ble 33 m then 7 else 4) else 2) else (bif Nat.ble 30 m then 7 else 7)) else (bif Nat.ble 27 m then (bif Nat.ble 28 m then 4 else 2) else (bif Nat.ble 26 m then 15 else 5))) else (bif Nat.ble 21 m then (bif Nat.ble 23 m then (bif Nat.ble 24 m then 3 else 7) else (bif Nat.ble 22 m then 3 else 4)) else (bif Nat.ble 19 m then (bif Nat.ble 20 m then 8 else 3) else (bif Nat.ble 18 m then 4 else 2)))) else (bif Nat.ble 8 m then (bif Nat.ble 12 m then (bif Nat.ble 14 m then (bif Nat.ble 15 m then (bif Nat.ble 16 m then 3 else 2) else 3) else (bif Nat.ble 13 m then 2 else 2)) else (bif Nat.ble 10 m then (bif Nat.ble 11 m then 2 else 1) else (bif Nat.ble 9 m then 1 else 9))) else (bif Nat.ble 4 m then (bif Nat.ble 6 m then (bif Nat.ble 7 m then 5 else 5) else (bif Nat.ble 5 m then 2 else 7)) else (bif Nat.ble 2 m then (bif Nat.ble 3 m then 2 else 2) else (bif Nat.ble 1 m then 4 else 14)))))
def pRet (m : Nat) : Option FieldType := (bif Nat.ble 17 m then (bif Nat.ble 25 m then (bif Nat.ble 29 m then (bif Nat.ble 31 m then (bif Nat.ble 32 m then (bif Nat.ble 33 m then none else none) else none) else (bif Nat.ble 30 m then none else none)) else (bif Nat.ble 27 m then (bif Nat.ble 28 m then none else none) else (bif Nat.ble 26 m then none else none))) else (bif Nat.ble 21 m then (bif Nat.ble 23 m then (bif Nat.ble 24 m then (some .int) else none) else (bif Nat.ble 22 m then (some .boolean) else none)) else (bif Nat.ble 19 m then (bif Nat.ble 20 m then (some .int) else (some .int)) else (bif Nat.ble 18 m then (some .int) else none)))) else (bif Nat.ble 8 m then (bif Nat.ble 12 m then (bif Nat.ble 14 m then (bif Nat.ble 15 m then (bif Nat.ble 16 m then (some .int) else (some .int)) else (some .int)) else (bif Nat.ble 13 m then (some .int) else (some .boolean))) else (bif Nat.ble 10 m then (bif Nat.ble 11 m then (some .int) else (some .int)) else (bif Nat.ble 9 m then (some .int) else (some .boolean)))) else (bif Nat.ble 4 m then (bif Nat.ble 6 m then (bif Nat.ble 7 m then none else none) else (bif Nat.ble 5 m then (some .boolean) else none)) else (bif Nat.ble 2 m then (bif Nat.ble 3 m then none else none) else (bif Nat.ble 1 m then none else (some .boolean))))))
def pNA (m : Nat) : Nat := (bif Nat.ble 17 m then (bif Nat.ble 25 m then (bif Nat.ble 29 m then (bif Nat.ble 31 m then (bif Nat.ble 32 m then (bif Nat.ble 33 m then 3 else 2) else 1) else (bif Nat.ble 30 m then 3 else 3)) else (bif Nat.ble 27 m then (bif Nat.ble 28 m then 1 else 1) else (bif Nat.ble 26 m then 3 else 2))) else (bif Nat.ble 21 m then (bif Nat.ble 23 m then (bif Nat.ble 24 m then 2 else 3) else (bif Nat.ble 22 m then 2 else 1)) else (bif Nat.ble 19 m then (bif Nat.ble 20 m then 4 else 1) else (bif Nat.ble 18 m then 2 else 0)))) else (bif Nat.ble 8 m then (bif Nat.ble 12 m then (bif Nat.ble 14 m then (bif Nat.ble 15 m then (bif Nat.ble 16 m then 1 else 1) else 1) else (bif Nat.ble 13 m then 1 else 1)) else (bif Nat.ble 10 m then (bif Nat.ble 11 m then 1 else 0) else (bif Nat.ble 9 m then 0 else 1))) else (bif Nat.ble 4 m then (bif Nat.ble 6 m then (bif Nat.ble 7 m then 2 else 2) else (bif Nat.ble 5 m then 1 else 5)) else (bif Nat.ble 2 m then (bif Nat.ble 3 m then 1 else 1) else (bif Nat.ble 1 m then 1 else 1)))))
def pFr (m : Nat) : Nat := (bif Nat.ble 17 m then (bif Nat.ble 25 m then (bif Nat.ble 29 m then (bif Nat.ble 31 m then (bif Nat.ble 32 m then (bif Nat.ble 33 m then 1 else 3) else 4) else (bif Nat.ble 30 m then 1 else 1)) else (bif Nat.ble 27 m then (bif Nat.ble 28 m then 3 else 4) else (bif Nat.ble 26 m then 1 else 1))) else (bif Nat.ble 21 m then (bif Nat.ble 23 m then (bif Nat.ble 24 m then 0 else 1) else (bif Nat.ble 22 m then 0 else 5)) else (bif Nat.ble 19 m then (bif Nat.ble 20 m then 6 else 0) else (bif Nat.ble 18 m then 4 else 4)))) else (bif Nat.ble 8 m then (bif Nat.ble 12 m then (bif Nat.ble 14 m then (bif Nat.ble 15 m then (bif Nat.ble 16 m then 1 else 1) else 1) else (bif Nat.ble 13 m then 1 else 0)) else (bif Nat.ble 10 m then (bif Nat.ble 11 m then 1 else 0) else (bif Nat.ble 9 m then 0 else 2))) else (bif Nat.ble 4 m then (bif Nat.ble 6 m then (bif Nat.ble 7 m then 1 else 1) else (bif Nat.ble 5 m then 0 else 1)) else (bif Nat.ble 2 m then (bif Nat.ble 3 m then 2 else 3) else (bif Nat.ble 1 m then 4 else 7)))))
def pLo (m : Nat) : Nat := (bif Nat.ble 17 m then (bif Nat.ble 25 m then (bif Nat.ble 29 m then (bif Nat.ble 31 m then (bif Nat.ble 32 m then (bif Nat.ble 33 m then 14 else 44) else 59) else (bif Nat.ble 30 m then 14 else 14)) else (bif Nat.ble 27 m then (bif Nat.ble 28 m then 44 else 59) else (bif Nat.ble 26 m then 13 else 13))) else (bif Nat.ble 21 m then (bif Nat.ble 23 m then (bif Nat.ble 24 m then 0 else 14) else (bif Nat.ble 22 m then 0 else 72)) else (bif Nat.ble 19 m then (bif Nat.ble 20 m then 87 else 0) else (bif Nat.ble 18 m then 57 else 57)))) else (bif Nat.ble 8 m then (bif Nat.ble 12 m then (bif Nat.ble 14 m then (bif Nat.ble 15 m then (bif Nat.ble 16 m then 14 else 14) else 13) else (bif Nat.ble 13 m then 13 else 0)) else (bif Nat.ble 10 m then (bif Nat.ble 11 m then 13 else 0) else (bif Nat.ble 9 m then 0 else 28))) else (bif Nat.ble 4 m then (bif Nat.ble 6 m then (bif Nat.ble 7 m then 13 else 13) else (bif Nat.ble 5 m then 0 else 13)) else (bif Nat.ble 2 m then (bif Nat.ble 3 m then 31 else 44) else (bif Nat.ble 1 m then 57 else 106)))))
abbrev tB (k p : Nat) (a b : Option (Instr × Nat)) : Option (Instr × Nat) := bif Nat.ble k p then a else b
abbrev tL (k p : Nat) (i : Instr) (x : Nat) : Option (Instr × Nat) := bif Nat.beq p k then some (i, x) else none
def cd0 (p : Nat) : Option (Instr × Nat) := (tB 90 p (tB 148 p (tB 183 p (tB 199 p (tB 207 p (tB 213 p (tB 214 p (tL 214 p .ireturn 0) (tL 213 p (.iconst 1) 0)) (tB 210 p (tL 210 p (.goto (-190)) 20) (tL 207 p (.iinc 2 5) 0))) (tB 205 p (tB 206 p (tL 206 p .ireturn 0) (tL 205 p (.iconst 0) 0)) (tB 202 p (tL 202 p (.ifCond .ne 5) 207) (tL 199 p (.invokestatic 35) 8)))) (tB 193 p (tB 197 p (tB 198 p (tL 198 p (.aload_n 1) 0) (tL 197 p .ireturn 0)) (tB 196 p (tL 196 p (.iconst 0) 0) (tL 193 p (.if_icmp .eq 5) 198))) (tB 189 p (tB 191 p (tL 191 p (.iload 11) 0) (tL 189 p (.iload 8) 0)) (tB 186 p (tL 186 p (.goto (-40)) 146) (tL 183 p (.iinc 12 1) 0))))) (tB 165 p (tB 174 p (tB 177 p (tB 180 p (tL 180 p (.iinc 11 1) 0) (tL 177 p (.ifCond .ne 6) 183)) (tB 176 p (tL 176 p .irem 0) (tL 174 p (.iload 13) 0))) (tB 169 p (tB 172 p (tL 172 p (.iload 9) 0) (tL 169 p (.ifCond .le 14) 183)) (tB 167 p (tL 167 p (.iload 13) 0) (tL 165 p (.istore 13) 0)))) (tB 156 p (tB 160 p (tB 162 p (tL 162 p (.invokevirtual 20) 13) (tL 160 p (.iload 12) 0)) (tB 159 p (tL 159 p (.aload_n 1) 0) (tL 156 p (.if_icmp .ge 27) 183))) (tB 152 p (tB 154 p (tL 154 p (.iload 10) 0) (tL 152 p (.iload 12) 0)) (tB 149 p (tL 149 p (.if_icmp .ge 40) 189) (tL 148 p (.iconst 4) 0)))))) (tB 117 p (tB 134 p (tB 141 p (tB 144 p (tB 146 p (tL 146 p (.iload 12) 0) (tL 144 p (.istore 12) 0)) (tB 143 p (tL 143 p (.iconst 0) 0) (tL 141 p (.istore 11) 0))) (tB 138 p (tB 140 p (tL 140 p (.iconst 0) 0) (tL 138 p (.istore 10) 0)) (tB 135 p (tL 135 p (.invokevirtual 7) 9) (tL 134 p (.aload_n 1) 0)))) (tB 126 p (tB 129 p (tB 132 p (tL 132 p (.istore 9) 0) (tL 129 p (.invokevirtual 13) 10)) (tB 128 p (tL 128 p (.aload_n 1) 0) (tL 126 p (.istore 8) 0))) (tB 121 p (tB 123 p (tL 123 p (.invokevirtual 48) 20) (tL 121 p (.iload 7) 0)) (tB 119 p (tL 119 p (.iload 6) 0) (tL 117 p (.iload 5) 0))))) (tB 102 p (tB 108 p (tB 114 p (tB 115 p (tL 115 p (.iload 4) 0) (tL 114 p (.aload_n 1) 0)) (tB 111 p (tL 111 p (.goto 87) 198) (tL 108 p (.invokevirtual 45) 17))) (tB 104 p (tB 107 p (tL 107 p (.aload_n 1) 0) (tL 104 p (.if_icmp .ne 10) 114)) (tB 103 p (tL 103 p (.iconst 3) 0) (tL 102 p (.iload_n 3) 0)))) (tB 94 p (tB 98 p (tB 99 p (tL 99 p (.goto 99) 198) (tL 98 p .ireturn 0)) (tB 97 p (tL 97 p (.iconst 0) 0) (tL 94 p (.if_icmp .eq 5) 99))) (tB 92 p (tB 93 p (tL 93 p .isub 0) (tL 92 p (.iconst 1) 0)) (tL 90 p (.iload 9) 0)))))) (tB 42 p (tB 59 p (tB 74 p (tB 82 p (tB 85 p (tB 88 p (tL 88 p (.iload 8) 0) (tL 85 p (.if_icmp .eq 14) 99)) (tB 84 p (tL 84 p (.iconst (-1)) 0) (tL 82 p (.iload 8) 0))) (tB 77 p (tB 80 p (tL 80 p (.istore 9) 0) (tL 77 p (.invokevirtual 7) 9)) (tB 76 p (tL 76 p (.aload_n 1) 0) (tL 74 p (.istore 8) 0)))) (tB 66 p (tB 69 p (tB 71 p (tL 71 p (.invokevirtual 41) 18) (tL 69 p (.iload 5) 0)) (tB 67 p (tL 67 p (.iload 4) 0) (tL 66 p (.aload_n 1) 0))) (tB 62 p (tB 63 p (tL 63 p (.ifCond .ne 39) 102) (tL 62 p (.iload_n 3) 0)) (tB 60 p (tL 60 p (.istore 7) 0) (tL 59 p .iaload 0))))) (tB 50 p (tB 55 p (tB 57 p (tB 58 p (tL 58 p .iadd 0) (tL 57 p (.iconst 4) 0)) (tB 56 p (tL 56 p (.iload_n 2) 0) (tL 55 p (.aload_n 0) 0))) (tB 52 p (tB 53 p (tL 53 p (.istore 6) 0) (tL 52 p .iaload 0)) (tB 51 p (tL 51 p .iadd 0) (tL 50 p (.iconst 3) 0)))) (tB 45 p (tB 48 p (tB 49 p (tL 49 p (.iload_n 2) 0) (tL 48 p (.aload_n 0) 0)) (tB 46 p (tL 46 p (.istore 5) 0) (tL 45 p .iaload 0))) (tB 43 p (tB 44 p (tL 44 p .iadd 0) (tL 43 p (.iconst 2) 0)) (tL 42 p (.iload_n 2) 0))))) (tB 23 p (tB 33 p (tB 37 p (tB 39 p (tB 41 p (tL 41 p (.aload_n 0) 0) (tL 39 p (.istore 4) 0)) (tB 38 p (tL 38 p .iaload 0) (tL 37 p .iadd 0))) (tB 35 p (tB 36 p (tL 36 p (.iconst 1) 0) (tL 35 p (.iload_n 2) 0)) (tB 34 p (tL 34 p (.aload_n 0) 0) (tL 33 p (.istore_n 3) 0)))) (tB 29 p (tB 31 p (tB 32 p (tL 32 p .iand 0) (tL 31 p (.iconst 3) 0)) (tB 30 p (tL 30 p .iaload 0) (tL 29 p (.iload_n 2) 0))) (tB 25 p (tB 28 p (tL 28 p (.aload_n 0) 0) (tL 25 p (.if_icmp .gt 188) 213)) (tB 24 p (tL 24 p .arraylength 0) (tL 23 p (.aload_n 0) 0))))) (tB 13 p (tB 19 p (tB 21 p (tB 22 p (tL 22 p .iadd 0) (tL 21 p (.iconst 5) 0)) (tB 20 p (tL 20 p (.iload_n 2) 0) (tL 19 p (.istore_n 2) 0))) (tB 17 p (tB 18 p (tL 18 p (.iconst 0) 0) (tL 17 p .ireturn 0)) (tB 16 p (tL 16 p (.iconst 0) 0) (tL 13 p (.ifCond .ne 5) 18)))) (tB 5 p (tB 9 p (tB 10 p (tL 10 p (.invokestatic 35) 8) (tL 9 p (.aload_n 1) 0)) (tB 8 p (tL 8 p (.astore_n 1) 0) (tL 5 p (.invokespecial 32) 1))) (tB 3 p (tB 4 p (tL 4 p (.iconst 4) 0) (tL 3 p .dup 0)) (tL 0 p (.new 8) 0)))))))
def cd1 (p : Nat) : Option (Instr × Nat) := (tB 81 p (tB 119 p (tB 136 p (tB 143 p (tB 148 p (tB 151 p (tB 154 p (tL 154 p .return_ 0) (tL 151 p (.goto (-13)) 138)) (tL 148 p (.iinc 3 1) 0)) (tB 144 p (tB 145 p (tL 145 p (.invokevirtual 65) 2) (tL 144 p (.iload_n 3) 0)) (tL 143 p (.aload_n 0) 0))) (tB 138 p (tB 139 p (tB 140 p (tL 140 p (.if_icmp .ge 14) 154) (tL 139 p (.iconst 4) 0)) (tL 138 p (.iload_n 3) 0)) (tB 137 p (tL 137 p (.istore_n 3) 0) (tL 136 p (.iconst 0) 0)))) (tB 126 p (tB 131 p (tB 132 p (tB 133 p (tL 133 p (.putfield 62) 17) (tL 132 p (.iconst 0) 0)) (tL 131 p (.aload_n 0) 0)) (tB 127 p (tB 128 p (tL 128 p (.putfield 59) 16) (tL 127 p (.iconst 0) 0)) (tL 126 p (.aload_n 0) 0))) (tB 121 p (tB 122 p (tB 123 p (tL 123 p (.putfield 56) 15) (tL 122 p (.iload_n 2) 0)) (tL 121 p (.aload_n 0) 0)) (tB 120 p (tL 120 p (.istore_n 2) 0) (tL 119 p (.iconst 4) 0))))) (tB 102 p (tB 109 p (tB 114 p (tB 115 p (tB 116 p (tL 116 p (.if_icmp .le 5) 121) (tL 115 p (.iconst 4) 0)) (tL 114 p (.iload_n 2) 0)) (tB 112 p (tB 113 p (tL 113 p (.istore_n 2) 0) (tL 112 p (.iconst 1) 0)) (tL 109 p (.if_icmp .ge 5) 114))) (tB 106 p (tB 107 p (tB 108 p (tL 108 p (.iconst 1) 0) (tL 107 p (.iload_n 2) 0)) (tL 106 p (.istore_n 2) 0)) (tB 105 p (tL 105 p (.iload_n 1) 0) (tL 102 p (.putfield 53) 14)))) (tB 90 p (tB 97 p (tB 98 p (tB 100 p (tL 100 p (.newarray .int) 0) (tL 98 p (.bipush 16) 0)) (tL 97 p (.aload_n 0) 0)) (tB 92 p (tB 94 p (tL 94 p (.putfield 50) 13) (tL 92 p (.newarray .int) 0)) (tL 90 p (.bipush 16) 0))) (tB 84 p (tB 86 p (tB 89 p (tL 89 p (.aload_n 0) 0) (tL 86 p (.putfield 47) 12)) (tL 84 p (.newarray .int) 0)) (tB 82 p (tL 82 p (.bipush 16) 0) (tL 81 p (.aload_n 0) 0)))))) (tB 37 p (tB 57 p (tB 67 p (tB 73 p (tB 76 p (tB 78 p (tL 78 p (.putfield 44) 11) (tL 76 p (.newarray .int) 0)) (tL 73 p (.sipush 512) 0)) (tB 69 p (tB 72 p (tL 72 p (.aload_n 0) 0) (tL 69 p (.putfield 41) 10)) (tL 67 p (.newarray .int) 0))) (tB 60 p (tB 63 p (tB 64 p (tL 64 p (.sipush 512) 0) (tL 63 p (.aload_n 0) 0)) (tL 60 p (.putfield 38) 9)) (tB 58 p (tL 58 p (.newarray .int) 0) (tL 57 p (.iconst 4) 0)))) (tB 46 p (tB 51 p (tB 53 p (tB 56 p (tL 56 p (.aload_n 0) 0) (tL 53 p (.putfield 35) 8)) (tL 51 p (.newarray .int) 0)) (tB 49 p (tB 50 p (tL 50 p (.iconst 4) 0) (tL 49 p (.aload_n 0) 0)) (tL 46 p (.putfield 32) 7))) (tB 42 p (tB 43 p (tB 44 p (tL 44 p (.newarray .int) 0) (tL 43 p (.iconst 4) 0)) (tL 42 p (.aload_n 0) 0)) (tB 39 p (tL 39 p (.putfield 28) 6) (tL 37 p (.newarray .int) 0))))) (tB 19 p (tB 26 p (tB 32 p (tB 35 p (tB 36 p (tL 36 p (.iconst 4) 0) (tL 35 p (.aload_n 0) 0)) (tL 32 p (.putfield 25) 5)) (tB 29 p (tB 30 p (tL 30 p (.bipush 32) 0) (tL 29 p (.aload_n 0) 0)) (tL 26 p (.putfield 22) 4))) (tB 21 p (tB 24 p (tB 25 p (tL 25 p (.iconst 4) 0) (tL 24 p (.aload_n 0) 0)) (tL 21 p (.putfield 19) 3)) (tB 20 p (tL 20 p (.iconst 3) 0) (tL 19 p (.aload_n 0) 0)))) (tB 9 p (tB 14 p (tB 15 p (tB 16 p (tL 16 p (.putfield 16) 2) (tL 15 p (.iconst 2) 0)) (tL 14 p (.aload_n 0) 0)) (tB 10 p (tB 11 p (tL 11 p (.putfield 13) 1) (tL 10 p (.iconst 1) 0)) (tL 9 p (.aload_n 0) 0))) (tB 4 p (tB 5 p (tB 6 p (tL 6 p (.putfield 7) 0) (tL 5 p (.iconst 0) 0)) (tL 4 p (.aload_n 0) 0)) (tB 1 p (tL 1 p (.invokespecial 1) 0) (tL 0 p (.aload_n 0) 0)))))))
def cd2 (p : Nat) : Option (Instr × Nat) := (tB 22 p (tB 31 p (tB 36 p (tB 38 p (tB 41 p (tL 41 p .return_ 0) (tL 38 p (.invokevirtual 104) 7)) (tB 37 p (tL 37 p (.iconst 1) 0) (tL 36 p (.iload_n 1) 0))) (tB 32 p (tB 35 p (tL 35 p (.aload_n 0) 0) (tL 32 p (.invokevirtual 101) 6)) (tL 31 p (.iconst 1) 0))) (tB 25 p (tB 29 p (tB 30 p (tL 30 p (.iload_n 1) 0) (tL 29 p (.aload_n 0) 0)) (tB 26 p (tL 26 p (.invokevirtual 98) 3) (tL 25 p (.iconst 1) 0))) (tB 23 p (tB 24 p (tL 24 p (.aload_n 0) 0) (tL 23 p .iastore 0)) (tL 22 p (.iconst 0) 0)))) (tB 11 p (tB 16 p (tB 18 p (tB 21 p (tL 21 p (.iload_n 1) 0) (tL 18 p (.getfield 38) 9)) (tB 17 p (tL 17 p (.aload_n 0) 0) (tL 16 p .iastore 0))) (tB 14 p (tB 15 p (tL 15 p (.iconst 0) 0) (tL 14 p (.iload_n 1) 0)) (tL 11 p (.getfield 35) 8))) (tB 5 p (tB 9 p (tB 10 p (tL 10 p (.aload_n 0) 0) (tL 9 p .return_ 0)) (tB 6 p (tL 6 p (.if_icmp .lt 4) 10) (tL 5 p (.iconst 4) 0))) (tB 1 p (tB 4 p (tL 4 p (.iload_n 1) 0) (tL 1 p (.ifCond .lt 8) 9)) (tL 0 p (.iload_n 1) 0)))))
def cd3 (p : Nat) : Option (Instr × Nat) := (tB 4 p (tB 6 p (tB 9 p (tL 9 p .return_ 0) (tL 6 p (.invokevirtual 69) 4)) (tB 5 p (tL 5 p (.iconst 1) 0) (tL 4 p (.iconst 0) 0))) (tB 2 p (tB 3 p (tL 3 p (.iconst 0) 0) (tL 2 p (.iconst 1) 0)) (tB 1 p (tL 1 p (.iload_n 1) 0) (tL 0 p (.aload_n 0) 0))))
def cd4 (p : Nat) : Option (Instr × Nat) := (tB 29 p (tB 42 p (tB 49 p (tB 51 p (tB 53 p (tB 54 p (tL 54 p .return_ 0) (tL 53 p .iastore 0)) (tL 51 p (.iload 5) 0)) (tB 50 p (tL 50 p .iadd 0) (tL 49 p (.iconst 3) 0))) (tB 44 p (tB 47 p (tL 47 p (.iload 6) 0) (tL 44 p (.getfield 53) 14)) (tB 43 p (tL 43 p (.aload_n 0) 0) (tL 42 p .iastore 0)))) (tB 33 p (tB 38 p (tB 39 p (tB 40 p (tL 40 p (.iload 4) 0) (tL 39 p .iadd 0)) (tL 38 p (.iconst 2) 0)) (tB 36 p (tL 36 p (.iload 6) 0) (tL 33 p (.getfield 53) 14))) (tB 31 p (tB 32 p (tL 32 p (.aload_n 0) 0) (tL 31 p .iastore 0)) (tB 30 p (tL 30 p (.iload_n 3) 0) (tL 29 p .iadd 0))))) (tB 14 p (tB 21 p (tB 23 p (tB 26 p (tB 28 p (tL 28 p (.iconst 1) 0) (tL 26 p (.iload 6) 0)) (tL 23 p (.getfield 53) 14)) (tB 22 p (tL 22 p (.aload_n 0) 0) (tL 21 p .iastore 0))) (tB 18 p (tB 20 p (tL 20 p (.iload_n 2) 0) (tL 18 p (.iload 6) 0)) (tB 15 p (tL 15 p (.getfield 53) 14) (tL 14 p (.aload_n 0) 0)))) (tB 8 p (tB 10 p (tB 11 p (tB 12 p (tL 12 p (.istore 6) 0) (tL 11 p .imul 0)) (tL 10 p (.iconst 4) 0)) (tB 9 p (tL 9 p (.iload_n 1) 0) (tL 8 p .return_ 0))) (tB 2 p (tB 5 p (tL 5 p (.ifCond .ne 4) 9) (tL 2 p (.invokevirtual 136) 5)) (tB 1 p (tL 1 p (.iload_n 1) 0) (tL 0 p (.aload_n 0) 0))))))
def cd5 (p : Nat) : Option (Instr × Nat) := (tB 6 p (tB 10 p (tB 13 p (tB 14 p (tL 14 p .ireturn 0) (tL 13 p (.iconst 0) 0)) (tL 10 p (.goto 4) 14)) (tB 9 p (tL 9 p (.iconst 1) 0) (tL 6 p (.if_icmp .ge 7) 13))) (tB 4 p (tB 5 p (tL 5 p (.iconst 4) 0) (tL 4 p (.iload_n 1) 0)) (tB 1 p (tL 1 p (.ifCond .lt 12) 13) (tL 0 p (.iload_n 1) 0))))
def cd6 (p : Nat) : Option (Instr × Nat) := (tB 28 p (tB 42 p (tB 49 p (tB 51 p (tB 54 p (tB 57 p (tL 57 p .return_ 0) (tL 54 p (.goto (-29)) 25)) (tL 51 p (.iinc 4 1) 0)) (tB 50 p (tL 50 p .iastore 0) (tL 49 p .iaload 0))) (tB 46 p (tB 48 p (tL 48 p .iadd 0) (tL 46 p (.iload 4) 0)) (tB 45 p (tL 45 p (.iload_n 3) 0) (tL 42 p (.getfield 53) 14)))) (tB 36 p (tB 38 p (tB 40 p (tB 41 p (tL 41 p (.aload_n 0) 0) (tL 40 p .iadd 0)) (tL 38 p (.iload 4) 0)) (tB 37 p (tL 37 p .imul 0) (tL 36 p (.iconst 4) 0))) (tB 32 p (tB 35 p (tL 35 p (.iload_n 1) 0) (tL 32 p (.getfield 47) 12)) (tB 31 p (tL 31 p (.aload_n 0) 0) (tL 28 p (.if_icmp .ge 29) 57))))) (tB 17 p (tB 21 p (tB 23 p (tB 25 p (tB 27 p (tL 27 p (.iconst 4) 0) (tL 25 p (.iload 4) 0)) (tL 23 p (.istore 4) 0)) (tB 22 p (tL 22 p (.iconst 0) 0) (tL 21 p (.istore_n 3) 0))) (tB 19 p (tB 20 p (tL 20 p .imul 0) (tL 19 p (.iconst 4) 0)) (tB 18 p (tL 18 p (.iload_n 2) 0) (tL 17 p .return_ 0)))) (tB 8 p (tB 12 p (tB 13 p (tB 14 p (tL 14 p (.if_icmp .lt 4) 18) (tL 13 p (.iconst 4) 0)) (tL 12 p (.iload_n 1) 0)) (tB 9 p (tL 9 p (.ifCond .lt 8) 17) (tL 8 p (.iload_n 1) 0))) (tB 2 p (tB 5 p (tL 5 p (.ifCond .eq 12) 17) (tL 2 p (.invokevirtual 136) 5)) (tB 1 p (tL 1 p (.iload_n 2) 0) (tL 0 p (.aload_n 0) 0))))))
def cd7 (p : Nat) : Option (Instr × Nat) := (tB 28 p (tB 42 p (tB 49 p (tB 51 p (tB 54 p (tB 57 p (tL 57 p .return_ 0) (tL 54 p (.goto (-29)) 25)) (tL 51 p (.iinc 4 1) 0)) (tB 50 p (tL 50 p .iastore 0) (tL 49 p .iaload 0))) (tB 46 p (tB 48 p (tL 48 p .iadd 0) (tL 46 p (.iload 4) 0)) (tB 45 p (tL 45 p (.iload_n 3) 0) (tL 42 p (.getfield 53) 14)))) (tB 36 p (tB 38 p (tB 40 p (tB 41 p (tL 41 p (.aload_n 0) 0) (tL 40 p .iadd 0)) (tL 38 p (.iload 4) 0)) (tB 37 p (tL 37 p .imul 0) (tL 36 p (.iconst 4) 0))) (tB 32 p (tB 35 p (tL 35 p (.iload_n 1) 0) (tL 32 p (.getfield 50) 13)) (tB 31 p (tL 31 p (.aload_n 0) 0) (tL 28 p (.if_icmp .ge 29) 57))))) (tB 17 p (tB 21 p (tB 23 p (tB 25 p (tB 27 p (tL 27 p (.iconst 4) 0) (tL 25 p (.iload 4) 0)) (tL 23 p (.istore 4) 0)) (tB 22 p (tL 22 p (.iconst 0) 0) (tL 21 p (.istore_n 3) 0))) (tB 19 p (tB 20 p (tL 20 p .imul 0) (tL 19 p (.iconst 4) 0)) (tB 18 p (tL 18 p (.iload_n 2) 0) (tL 17 p .return_ 0)))) (tB 8 p (tB 12 p (tB 13 p (tB 14 p (tL 14 p (.if_icmp .lt 4) 18) (tL 13 p (.iconst 4) 0)) (tL 12 p (.iload_n 1) 0)) (tB 9 p (tL 9 p (.ifCond .lt 8) 17) (tL 8 p (.iload_n 1) 0))) (tB 2 p (tB 5 p (tL 5 p (.ifCond .eq 12) 17) (tL 2 p (.invokevirtual 136) 5)) (tB 1 p (tL 1 p (.iload_n 2) 0) (tL 0 p (.aload_n 0) 0))))))
def cd8 (p : Nat) : Option (Instr × Nat) := (tB 93 p (tB 141 p (tB 165 p (tB 178 p (tB 183 p (tB 189 p (tB 190 p (tL 190 p .ireturn 0) (tL 189 p (.iconst 1) 0)) (tB 186 p (tL 186 p (.goto (-159)) 27) (tL 183 p (.iinc 3 1) 0))) (tB 181 p (tB 182 p (tL 182 p .ireturn 0) (tL 181 p (.iconst 0) 0)) (tL 178 p (.if_icmp .eq 5) 183))) (tB 171 p (tB 175 p (tB 177 p (tL 177 p (.iconst (-1)) 0) (tL 175 p (.iload 8) 0)) (tB 172 p (tL 172 p (.if_icmp .ne 9) 181) (tL 171 p (.iconst (-1)) 0))) (tB 166 p (tB 169 p (tL 169 p (.iload 7) 0) (tL 166 p (.if_icmp .ne 15) 181)) (tL 165 p (.iconst (-1)) 0)))) (tB 151 p (tB 157 p (tB 160 p (tB 163 p (tL 163 p (.iload 6) 0) (tL 160 p (.if_icmp .ne 21) 181)) (tB 159 p (tL 159 p (.iconst (-1)) 0) (tL 157 p (.iload 5) 0))) (tB 153 p (tB 154 p (tL 154 p (.if_icmp .ne 27) 181) (tL 153 p (.iconst (-1)) 0)) (tL 151 p (.iload 4) 0))) (tB 146 p (tB 149 p (tB 150 p (tL 150 p .ireturn 0) (tL 149 p (.iconst 0) 0)) (tL 146 p (.if_icmp .eq 37) 183)) (tB 142 p (tB 145 p (tL 145 p (.iconst 0) 0) (tL 142 p (.goto 4) 146)) (tL 141 p .isub 0))))) (tB 117 p (tB 127 p (tB 133 p (tB 137 p (tB 139 p (tL 139 p (.iload 4) 0) (tL 137 p (.iload 7) 0)) (tB 134 p (tL 134 p (.ifCond .le 11) 145) (tL 133 p .isub 0))) (tB 129 p (tB 131 p (tL 131 p (.iload 4) 0) (tL 129 p (.iload 7) 0)) (tL 127 p (.iload 8) 0))) (tB 122 p (tB 125 p (tB 126 p (tL 126 p .ireturn 0) (tL 125 p (.iconst 0) 0)) (tL 122 p (.if_icmp .lt 5) 127)) (tB 119 p (tB 120 p (tL 120 p (.iload 5) 0) (tL 119 p .isub 0)) (tL 117 p (.iload 7) 0)))) (tB 104 p (tB 110 p (tB 113 p (tB 116 p (tL 116 p (.iload_n 2) 0) (tL 113 p (.if_icmp .gt 12) 125)) (tB 112 p (tL 112 p (.iload_n 2) 0) (tL 110 p (.iload 7) 0))) (tB 106 p (tB 107 p (tL 107 p (.if_icmp .ne 18) 125) (tL 106 p .imul 0)) (tL 104 p (.iload 6) 0))) (tB 99 p (tB 100 p (tB 102 p (tL 102 p (.iload 5) 0) (tL 100 p (.iload 7) 0)) (tL 99 p .ireturn 0)) (tB 95 p (tB 98 p (tL 98 p (.iconst 0) 0) (tL 95 p (.if_icmp .le 5) 100)) (tL 93 p (.bipush 32) 0)))))) (tB 41 p (tB 65 p (tB 78 p (tB 85 p (tB 88 p (tB 91 p (tL 91 p (.iload 5) 0) (tL 88 p (.if_icmp .lt 10) 98)) (tB 87 p (tL 87 p (.iconst 1) 0) (tL 85 p (.iload 5) 0))) (tB 80 p (tB 82 p (tL 82 p (.if_icmp .gt 16) 98) (tL 80 p (.bipush 32) 0)) (tL 78 p (.iload 4) 0))) (tB 69 p (tB 74 p (tB 75 p (tL 75 p (.if_icmp .lt 23) 98) (tL 74 p (.iconst 1) 0)) (tB 72 p (tL 72 p (.iload 4) 0) (tL 69 p (.if_icmp .ge 82) 151))) (tB 67 p (tB 68 p (tL 68 p (.iload_n 1) 0) (tL 67 p (.iload_n 3) 0)) (tL 65 p (.istore 8) 0)))) (tB 53 p (tB 58 p (tB 61 p (tB 62 p (tL 62 p (.invokevirtual 29) 16) (tL 61 p (.iload_n 3) 0)) (tB 60 p (tL 60 p (.aload_n 0) 0) (tL 58 p (.istore 7) 0))) (tB 54 p (tB 55 p (tL 55 p (.invokevirtual 26) 15) (tL 54 p (.iload_n 3) 0)) (tL 53 p (.aload_n 0) 0))) (tB 47 p (tB 48 p (tB 51 p (tL 51 p (.istore 6) 0) (tL 48 p (.invokevirtual 23) 14)) (tL 47 p (.iload_n 3) 0)) (tB 44 p (tB 46 p (tL 46 p (.aload_n 0) 0) (tL 44 p (.istore 5) 0)) (tL 41 p (.invokevirtual 20) 13))))) (tB 23 p (tB 29 p (tB 34 p (tB 39 p (tB 40 p (tL 40 p (.iload_n 3) 0) (tL 39 p (.aload_n 0) 0)) (tB 37 p (tL 37 p (.istore 4) 0) (tL 34 p (.invokevirtual 16) 11))) (tB 32 p (tB 33 p (tL 33 p (.iload_n 3) 0) (tL 32 p (.aload_n 0) 0)) (tL 29 p (.if_icmp .ge 160) 189))) (tB 26 p (tB 27 p (tB 28 p (tL 28 p (.iconst 5) 0) (tL 27 p (.iload_n 3) 0)) (tL 26 p (.istore_n 3) 0)) (tB 24 p (tB 25 p (tL 25 p (.iconst 0) 0) (tL 24 p .ireturn 0)) (tL 23 p (.iconst 0) 0)))) (tB 10 p (tB 15 p (tB 19 p (tB 20 p (tL 20 p (.ifCond .ge 5) 25) (tL 19 p (.iload_n 2) 0)) (tB 16 p (tL 16 p (.if_icmp .gt 7) 23) (tL 15 p (.iconst 4) 0))) (tB 11 p (tB 14 p (tL 14 p (.iload_n 1) 0) (tL 11 p (.ifCond .lt 12) 23)) (tL 10 p (.iload_n 1) 0))) (tB 5 p (tB 6 p (tB 9 p (tL 9 p (.istore_n 2) 0) (tL 6 p (.invokevirtual 13) 10)) (tL 5 p (.aload_n 0) 0)) (tB 1 p (tB 4 p (tL 4 p (.istore_n 1) 0) (tL 1 p (.invokevirtual 7) 9)) (tL 0 p (.aload_n 0) 0)))))))
def cd9 (p : Nat) : Option (Instr × Nat) := (tB 1 p (tB 4 p (tL 4 p .ireturn 0) (tL 1 p (.getfield 59) 16)) (tL 0 p (.aload_n 0) 0))
def cd10 (p : Nat) : Option (Instr × Nat) := (tB 1 p (tB 4 p (tL 4 p .ireturn 0) (tL 1 p (.getfield 62) 17)) (tL 0 p (.aload_n 0) 0))
def cd11 (p : Nat) : Option (Instr × Nat) := (tB 9 p (tB 14 p (tB 15 p (tB 16 p (tL 16 p .ireturn 0) (tL 15 p .iaload 0)) (tL 14 p (.iload_n 1) 0)) (tB 10 p (tB 11 p (tL 11 p (.getfield 28) 6) (tL 10 p (.aload_n 0) 0)) (tL 9 p .ireturn 0))) (tB 2 p (tB 5 p (tB 8 p (tL 8 p (.iconst (-1)) 0) (tL 5 p (.ifCond .ne 5) 10)) (tL 2 p (.invokevirtual 79) 12)) (tB 1 p (tL 1 p (.iload_n 1) 0) (tL 0 p (.aload_n 0) 0))))
def cd12 (p : Nat) : Option (Instr × Nat) := (tB 12 p (tB 17 p (tB 21 p (tB 22 p (tL 22 p .ireturn 0) (tL 21 p (.iconst 0) 0)) (tB 18 p (tL 18 p (.goto 4) 22) (tL 17 p (.iconst 1) 0))) (tB 13 p (tB 14 p (tL 14 p (.if_icmp .ge 7) 21) (tL 13 p (.iconst 4) 0)) (tL 12 p (.iload_n 1) 0))) (tB 5 p (tB 6 p (tB 9 p (tL 9 p (.if_icmp .ge 12) 21) (tL 6 p (.getfield 59) 16)) (tL 5 p (.aload_n 0) 0)) (tB 1 p (tB 4 p (tL 4 p (.iload_n 1) 0) (tL 1 p (.ifCond .lt 20) 21)) (tL 0 p (.iload_n 1) 0))))
def cd13 (p : Nat) : Option (Instr × Nat) := (tB 9 p (tB 14 p (tB 15 p (tB 16 p (tL 16 p .ireturn 0) (tL 15 p .iaload 0)) (tL 14 p (.iload_n 1) 0)) (tB 10 p (tB 11 p (tL 11 p (.getfield 32) 7) (tL 10 p (.aload_n 0) 0)) (tL 9 p .ireturn 0))) (tB 2 p (tB 5 p (tB 8 p (tL 8 p (.iconst (-1)) 0) (tL 5 p (.ifCond .ne 5) 10)) (tL 2 p (.invokevirtual 79) 12)) (tB 1 p (tL 1 p (.iload_n 1) 0) (tL 0 p (.aload_n 0) 0))))
def cd14 (p : Nat) : Option (Instr × Nat) := (tB 16 p (tB 23 p (tB 28 p (tB 29 p (tB 30 p (tL 30 p .ireturn 0) (tL 29 p .idiv 0)) (tL 28 p (.iload_n 2) 0)) (tB 24 p (tB 25 p (tL 25 p (.getfield 62) 17) (tL 24 p (.aload_n 0) 0)) (tL 23 p .ireturn 0))) (tB 18 p (tB 19 p (tB 22 p (tL 22 p (.iconst 0) 0) (tL 19 p (.if_icmp .ge 5) 24)) (tL 18 p (.iconst 1) 0)) (tB 17 p (tL 17 p (.iload_n 2) 0) (tL 16 p (.istore_n 2) 0)))) (tB 9 p (tB 11 p (tB 14 p (tB 15 p (tL 15 p .iaload 0) (tL 14 p (.iload_n 1) 0)) (tL 11 p (.getfield 32) 7)) (tB 10 p (tL 10 p (.aload_n 0) 0) (tL 9 p .ireturn 0))) (tB 2 p (tB 5 p (tB 8 p (tL 8 p (.iconst (-1)) 0) (tL 5 p (.ifCond .ne 5) 10)) (tL 2 p (.invokevirtual 79) 12)) (tB 1 p (tL 1 p (.iload_n 1) 0) (tL 0 p (.aload_n 0) 0)))))
def cd15 (p : Nat) : Option (Instr × Nat) := (tB 9 p (tB 11 p (tB 12 p (tB 15 p (tL 15 p .ireturn 0) (tL 12 p (.invokevirtual 94) 19)) (tL 11 p (.iload_n 1) 0)) (tB 10 p (tL 10 p (.aload_n 0) 0) (tL 9 p .ireturn 0))) (tB 2 p (tB 5 p (tB 8 p (tL 8 p (.iconst (-1)) 0) (tL 5 p (.ifCond .ne 5) 10)) (tL 2 p (.invokevirtual 79) 12)) (tB 1 p (tL 1 p (.iload_n 1) 0) (tL 0 p (.aload_n 0) 0))))
def cd16 (p : Nat) : Option (Instr × Nat) := (tB 16 p (tB 23 p (tB 28 p (tB 29 p (tB 30 p (tL 30 p .ireturn 0) (tL 29 p (.iload_n 2) 0)) (tL 28 p .ireturn 0)) (tB 24 p (tB 27 p (tL 27 p (.iconst 0) 0) (tL 24 p (.ifCond .ge 5) 29)) (tL 23 p (.iload_n 2) 0))) (tB 20 p (tB 21 p (tB 22 p (tL 22 p (.istore_n 2) 0) (tL 21 p .isub 0)) (tL 20 p .iaload 0)) (tB 19 p (tL 19 p (.iload_n 1) 0) (tL 16 p (.getfield 28) 6)))) (tB 9 p (tB 11 p (tB 12 p (tB 15 p (tL 15 p (.aload_n 0) 0) (tL 12 p (.invokevirtual 94) 19)) (tL 11 p (.iload_n 1) 0)) (tB 10 p (tL 10 p (.aload_n 0) 0) (tL 9 p .ireturn 0))) (tB 2 p (tB 5 p (tB 8 p (tL 8 p (.iconst (-1)) 0) (tL 5 p (.ifCond .ne 5) 10)) (tL 2 p (.invokevirtual 79) 12)) (tB 1 p (tL 1 p (.iload_n 1) 0) (tL 0 p (.aload_n 0) 0)))))
def cd17 (p : Nat) : Option (Instr × Nat) := (tB 9 p (tB 14 p (tB 20 p (tB 23 p (tL 23 p .return_ 0) (tL 20 p (.goto (-13)) 7)) (tB 17 p (tL 17 p (.iinc 1 1) 0) (tL 14 p (.invokevirtual 65) 2))) (tB 12 p (tB 13 p (tL 13 p (.iload_n 1) 0) (tL 12 p (.aload_n 0) 0)) (tL 9 p (.if_icmp .ge 14) 23))) (tB 5 p (tB 7 p (tB 8 p (tL 8 p (.iconst 4) 0) (tL 7 p (.iload_n 1) 0)) (tB 6 p (tL 6 p (.istore_n 1) 0) (tL 5 p (.iconst 0) 0))) (tB 1 p (tB 2 p (tL 2 p (.putfield 62) 17) (tL 1 p (.iconst 0) 0)) (tL 0 p (.aload_n 0) 0))))
def cd18 (p : Nat) : Option (Instr × Nat) := (tB 46 p (tB 65 p (tB 73 p (tB 78 p (tB 82 p (tB 83 p (tL 83 p .ireturn 0) (tL 82 p (.iload_n 3) 0)) (tB 79 p (tL 79 p (.putfield 59) 16) (tL 78 p .iadd 0))) (tB 74 p (tB 77 p (tL 77 p (.iconst 1) 0) (tL 74 p (.getfield 59) 16)) (tL 73 p (.aload_n 0) 0))) (tB 68 p (tB 69 p (tB 72 p (tL 72 p (.aload_n 0) 0) (tL 69 p (.invokevirtual 65) 2)) (tL 68 p (.iload_n 3) 0)) (tB 66 p (tB 67 p (tL 67 p (.aload_n 0) 0) (tL 66 p .iastore 0)) (tL 65 p (.iload_n 2) 0)))) (tB 54 p (tB 59 p (tB 61 p (tB 64 p (tL 64 p (.iload_n 3) 0) (tL 61 p (.getfield 32) 7)) (tB 60 p (tL 60 p (.aload_n 0) 0) (tL 59 p .iastore 0))) (tB 57 p (tB 58 p (tL 58 p (.iload_n 1) 0) (tL 57 p (.iload_n 3) 0)) (tL 54 p (.getfield 28) 6))) (tB 49 p (tB 52 p (tB 53 p (tL 53 p (.aload_n 0) 0) (tL 52 p (.istore_n 3) 0)) (tL 49 p (.getfield 59) 16)) (tB 47 p (tB 48 p (tL 48 p (.aload_n 0) 0) (tL 47 p .ireturn 0)) (tL 46 p (.iconst (-1)) 0))))) (tB 23 p (tB 34 p (tB 37 p (tB 41 p (tB 43 p (tL 43 p (.if_icmp .le 5) 48) (tL 41 p (.bipush 32) 0)) (tB 40 p (tL 40 p (.iload_n 2) 0) (tL 37 p (.if_icmp .lt 9) 46))) (tB 35 p (tB 36 p (tL 36 p (.iconst 1) 0) (tL 35 p (.iload_n 2) 0)) (tL 34 p .ireturn 0))) (tB 28 p (tB 30 p (tB 33 p (tL 33 p (.iconst (-1)) 0) (tL 30 p (.if_icmp .le 5) 35)) (tL 28 p (.bipush 32) 0)) (tB 24 p (tB 27 p (tL 27 p (.iload_n 1) 0) (tL 24 p (.if_icmp .lt 9) 33)) (tL 23 p (.iconst 1) 0)))) (tB 10 p (tB 17 p (tB 21 p (tB 22 p (tL 22 p (.iload_n 1) 0) (tL 21 p .ireturn 0)) (tB 20 p (tL 20 p (.iconst (-1)) 0) (tL 17 p (.if_icmp .lt 5) 22))) (tB 13 p (tB 14 p (tL 14 p (.getfield 56) 15) (tL 13 p (.aload_n 0) 0)) (tL 10 p (.getfield 59) 16))) (tB 7 p (tB 8 p (tB 9 p (tL 9 p (.aload_n 0) 0) (tL 8 p .ireturn 0)) (tL 7 p (.iconst (-1)) 0)) (tB 1 p (tB 4 p (tL 4 p (.ifCond .eq 5) 9) (tL 1 p (.getfield 62) 17)) (tL 0 p (.aload_n 0) 0))))))
def cd19 (p : Nat) : Option (Instr × Nat) := (tB 12 p (tB 16 p (tB 20 p (tB 21 p (tB 22 p (tL 22 p .ireturn 0) (tL 21 p .imul 0)) (tL 20 p .idiv 0)) (tB 19 p (tL 19 p (.iload_n 2) 0) (tL 16 p (.getfield 62) 17))) (tB 14 p (tB 15 p (tL 15 p (.aload_n 0) 0) (tL 14 p (.iload_n 2) 0)) (tB 13 p (tL 13 p .ireturn 0) (tL 12 p (.iconst 0) 0)))) (tB 6 p (tB 8 p (tB 9 p (tL 9 p (.if_icmp .ge 5) 14) (tL 8 p (.iconst 1) 0)) (tB 7 p (tL 7 p (.iload_n 2) 0) (tL 6 p (.istore_n 2) 0))) (tB 4 p (tB 5 p (tL 5 p .iaload 0) (tL 4 p (.iload_n 1) 0)) (tB 1 p (tL 1 p (.getfield 32) 7) (tL 0 p (.aload_n 0) 0)))))
def cd20 (p : Nat) : Option (Instr × Nat) := (tB 36 p (tB 57 p (tB 69 p (tB 78 p (tB 81 p (tB 83 p (tL 83 p .ireturn 0) (tL 81 p (.iload 5) 0)) (tL 78 p (.goto (-52)) 26)) (tB 72 p (tB 75 p (tL 75 p (.iinc 6 1) 0) (tL 72 p (.iinc 5 1) 0)) (tL 69 p (.invokevirtual 76) 31))) (tB 63 p (tB 66 p (tB 67 p (tL 67 p (.iload 6) 0) (tL 66 p (.aload_n 0) 0)) (tL 63 p (.ifCond .ne 12) 75)) (tB 60 p (tB 62 p (tL 62 p .irem 0) (tL 60 p (.iload 7) 0)) (tL 57 p (.getfield 62) 17)))) (tB 47 p (tB 52 p (tB 53 p (tB 56 p (tL 56 p (.aload_n 0) 0) (tL 53 p (.if_icmp .lt 22) 75)) (tL 52 p (.iconst 1) 0)) (tB 48 p (tB 50 p (tL 50 p (.iload 7) 0) (tL 48 p (.istore 7) 0)) (tL 47 p .iaload 0))) (tB 41 p (tB 42 p (tB 45 p (tL 45 p (.iload 6) 0) (tL 42 p (.getfield 32) 7)) (tL 41 p (.aload_n 0) 0)) (tB 38 p (tL 38 p (.invokevirtual 73) 21) (tL 36 p (.iload 6) 0))))) (tB 15 p (tB 24 p (tB 29 p (tB 32 p (tB 35 p (tL 35 p (.aload_n 0) 0) (tL 32 p (.if_icmp .ge 49) 81)) (tL 29 p (.getfield 59) 16)) (tB 26 p (tB 28 p (tL 28 p (.aload_n 0) 0) (tL 26 p (.iload 6) 0)) (tL 24 p (.istore 6) 0))) (tB 20 p (tB 21 p (tB 23 p (tL 23 p (.iconst 0) 0) (tL 21 p (.istore 5) 0)) (tL 20 p (.iconst 0) 0)) (tB 17 p (tL 17 p (.invokevirtual 69) 4) (tL 15 p (.iload 4) 0)))) (tB 7 p (tB 12 p (tB 13 p (tB 14 p (tL 14 p (.iload_n 3) 0) (tL 13 p (.iload_n 2) 0)) (tL 12 p (.iload_n 1) 0)) (tB 10 p (tB 11 p (tL 11 p (.iconst 0) 0) (tL 10 p (.aload_n 0) 0)) (tL 7 p (.putfield 62) 17))) (tB 2 p (tB 5 p (tB 6 p (tL 6 p .iadd 0) (tL 5 p (.iconst 1) 0)) (tL 2 p (.getfield 62) 17)) (tB 1 p (tL 1 p (.aload_n 0) 0) (tL 0 p (.aload_n 0) 0))))))
def cd21 (p : Nat) : Option (Instr × Nat) := (tB 47 p (tB 70 p (tB 82 p (tB 88 p (tB 90 p (tB 91 p (tL 91 p .return_ 0) (tL 90 p .iastore 0)) (tB 89 p (tL 89 p .iadd 0) (tL 88 p (.iconst 1) 0))) (tB 86 p (tB 87 p (tL 87 p (.iload_n 3) 0) (tL 86 p (.iload_n 1) 0)) (tB 83 p (tL 83 p (.getfield 38) 9) (tL 82 p (.aload_n 0) 0)))) (tB 76 p (tB 78 p (tB 79 p (tL 79 p (.invokevirtual 101) 6) (tL 78 p (.iconst 1) 0)) (tB 77 p (tL 77 p (.iload_n 1) 0) (tL 76 p (.aload_n 0) 0))) (tB 72 p (tB 73 p (tL 73 p (.invokevirtual 121) 26) (tL 72 p (.iconst 0) 0)) (tB 71 p (tL 71 p (.iconst 1) 0) (tL 70 p (.iconst 1) 0))))) (tB 58 p (tB 64 p (tB 66 p (tB 69 p (tL 69 p (.aload_n 0) 0) (tL 66 p (.invokevirtual 118) 25)) (tB 65 p (tL 65 p (.iload_n 1) 0) (tL 64 p (.iconst 1) 0))) (tB 60 p (tB 63 p (tL 63 p (.aload_n 0) 0) (tL 60 p (.invokevirtual 114) 23)) (tB 59 p (tL 59 p (.iconst 0) 0) (tL 58 p (.iload_n 3) 0)))) (tB 52 p (tB 56 p (tB 57 p (tL 57 p (.iload_n 1) 0) (tL 56 p (.aload_n 0) 0)) (tB 55 p (tL 55 p .return_ 0) (tL 52 p (.ifCond .ne 4) 56))) (tB 48 p (tB 49 p (tL 49 p (.invokevirtual 110) 22) (tL 48 p (.iload_n 3) 0)) (tL 47 p (.iload_n 1) 0))))) (tB 23 p (tB 35 p (tB 43 p (tB 45 p (tB 46 p (tL 46 p (.aload_n 0) 0) (tL 45 p (.istore_n 3) 0)) (tB 44 p (tL 44 p .iaload 0) (tL 43 p (.iload_n 1) 0))) (tB 39 p (tB 40 p (tL 40 p (.getfield 38) 9) (tL 39 p (.aload_n 0) 0)) (tB 36 p (tL 36 p (.invokevirtual 107) 27) (tL 35 p (.iload_n 1) 0)))) (tB 29 p (tB 31 p (tB 34 p (tL 34 p (.aload_n 0) 0) (tL 31 p (.if_icmp .lt 8) 39)) (tB 30 p (tL 30 p .iaload 0) (tL 29 p (.iload_n 1) 0))) (tB 25 p (tB 26 p (tL 26 p (.getfield 28) 6) (tL 25 p (.aload_n 0) 0)) (tB 24 p (tL 24 p (.iload_n 2) 0) (tL 23 p (.istore_n 2) 0))))) (tB 11 p (tB 17 p (tB 21 p (tB 22 p (tL 22 p .iadd 0) (tL 21 p .iaload 0)) (tB 20 p (tL 20 p (.iload_n 1) 0) (tL 17 p (.getfield 38) 9))) (tB 15 p (tB 16 p (tL 16 p (.aload_n 0) 0) (tL 15 p .iaload 0)) (tB 14 p (tL 14 p (.iload_n 1) 0) (tL 11 p (.getfield 35) 8)))) (tB 5 p (tB 9 p (tB 10 p (tL 10 p (.aload_n 0) 0) (tL 9 p .return_ 0)) (tB 6 p (tL 6 p (.if_icmp .lt 4) 10) (tL 5 p (.iconst 4) 0))) (tB 1 p (tB 4 p (tL 4 p (.iload_n 1) 0) (tL 1 p (.ifCond .lt 8) 9)) (tL 0 p (.iload_n 1) 0))))))
def cd22 (p : Nat) : Option (Instr × Nat) := (tB 13 p (tB 19 p (tB 23 p (tB 24 p (tL 24 p .ireturn 0) (tL 23 p (.iconst 0) 0)) (tB 20 p (tL 20 p (.goto 4) 24) (tL 19 p (.iconst 1) 0))) (tB 14 p (tB 16 p (tL 16 p (.if_icmp .ge 7) 23) (tL 14 p (.bipush 32) 0)) (tL 13 p (.iload_n 2) 0))) (tB 5 p (tB 9 p (tB 10 p (tL 10 p (.ifCond .lt 13) 23) (tL 9 p (.iload_n 2) 0)) (tB 6 p (tL 6 p (.if_icmp .ge 17) 23) (tL 5 p (.iconst 4) 0))) (tB 1 p (tB 4 p (tL 4 p (.iload_n 1) 0) (tL 1 p (.ifCond .lt 22) 23)) (tL 0 p (.iload_n 1) 0))))
def cd23 (p : Nat) : Option (Instr × Nat) := (tB 31 p (tB 49 p (tB 58 p (tB 60 p (tB 63 p (tB 66 p (tL 66 p .return_ 0) (tL 63 p (.goto (-29)) 34)) (tL 60 p (.iinc 6 1) 0)) (tB 59 p (tL 59 p .iastore 0) (tL 58 p .iaload 0))) (tB 53 p (tB 55 p (tB 57 p (tL 57 p .iadd 0) (tL 55 p (.iload 6) 0)) (tL 53 p (.iload 5) 0)) (tB 50 p (tL 50 p (.getfield 53) 14) (tL 49 p (.aload_n 0) 0)))) (tB 40 p (tB 44 p (tB 46 p (tB 48 p (tL 48 p .iadd 0) (tL 46 p (.iload 6) 0)) (tL 44 p (.iload 4) 0)) (tB 41 p (tL 41 p (.getfield 41) 10) (tL 40 p (.aload_n 0) 0))) (tB 34 p (tB 36 p (tB 37 p (tL 37 p (.if_icmp .ge 29) 66) (tL 36 p (.iconst 4) 0)) (tL 34 p (.iload 6) 0)) (tB 32 p (tL 32 p (.istore 6) 0) (tL 31 p (.iconst 0) 0))))) (tB 17 p (tB 24 p (tB 27 p (tB 28 p (tB 29 p (tL 29 p (.istore 5) 0) (tL 28 p .imul 0)) (tL 27 p (.iconst 4) 0)) (tB 26 p (tL 26 p (.iload_n 3) 0) (tL 24 p (.istore 4) 0))) (tB 19 p (tB 20 p (tB 21 p (tL 21 p (.invokevirtual 139) 24) (tL 20 p (.iload_n 2) 0)) (tL 19 p (.iload_n 1) 0)) (tB 18 p (tL 18 p (.aload_n 0) 0) (tL 17 p .return_ 0)))) (tB 8 p (tB 10 p (tB 11 p (tB 14 p (tL 14 p (.ifCond .ne 4) 18) (tL 11 p (.invokevirtual 110) 22)) (tL 10 p (.iload_n 2) 0)) (tB 9 p (tL 9 p (.iload_n 1) 0) (tL 8 p (.aload_n 0) 0))) (tB 2 p (tB 5 p (tL 5 p (.ifCond .eq 12) 17) (tL 2 p (.invokevirtual 136) 5)) (tB 1 p (tL 1 p (.iload_n 3) 0) (tL 0 p (.aload_n 0) 0))))))
def cd24 (p : Nat) : Option (Instr × Nat) := (tB 5 p (tB 7 p (tB 8 p (tL 8 p .ireturn 0) (tL 7 p .imul 0)) (tB 6 p (tL 6 p (.iconst 4) 0) (tL 5 p .iadd 0))) (tB 3 p (tB 4 p (tL 4 p (.iload_n 2) 0) (tL 3 p .imul 0)) (tB 1 p (tL 1 p (.bipush 32) 0) (tL 0 p (.iload_n 1) 0))))
def cd25 (p : Nat) : Option (Instr × Nat) := (tB 28 p (tB 44 p (tB 49 p (tB 51 p (tB 54 p (tB 57 p (tL 57 p .return_ 0) (tL 54 p (.goto (-29)) 25)) (tL 51 p (.iinc 4 1) 0)) (tB 50 p (tL 50 p .iastore 0) (tL 49 p .iaload 0))) (tB 46 p (tB 48 p (tL 48 p .iadd 0) (tL 46 p (.iload 4) 0)) (tB 45 p (tL 45 p .imul 0) (tL 44 p (.iconst 4) 0)))) (tB 36 p (tB 39 p (tB 40 p (tB 43 p (tL 43 p (.iload_n 2) 0) (tL 40 p (.getfield 47) 12)) (tL 39 p (.aload_n 0) 0)) (tB 38 p (tL 38 p .iadd 0) (tL 36 p (.iload 4) 0))) (tB 32 p (tB 35 p (tL 35 p (.iload_n 3) 0) (tL 32 p (.getfield 53) 14)) (tB 31 p (tL 31 p (.aload_n 0) 0) (tL 28 p (.if_icmp .ge 29) 57))))) (tB 17 p (tB 21 p (tB 23 p (tB 25 p (tB 27 p (tL 27 p (.iconst 4) 0) (tL 25 p (.iload 4) 0)) (tL 23 p (.istore 4) 0)) (tB 22 p (tL 22 p (.iconst 0) 0) (tL 21 p (.istore_n 3) 0))) (tB 19 p (tB 20 p (tL 20 p .imul 0) (tL 19 p (.iconst 4) 0)) (tB 18 p (tL 18 p (.iload_n 1) 0) (tL 17 p .return_ 0)))) (tB 8 p (tB 12 p (tB 13 p (tB 14 p (tL 14 p (.if_icmp .lt 4) 18) (tL 13 p (.iconst 4) 0)) (tL 12 p (.iload_n 2) 0)) (tB 9 p (tL 9 p (.ifCond .lt 8) 17) (tL 8 p (.iload_n 2) 0))) (tB 2 p (tB 5 p (tL 5 p (.ifCond .eq 12) 17) (tL 2 p (.invokevirtual 136) 5)) (tB 1 p (tL 1 p (.iload_n 1) 0) (tL 0 p (.aload_n 0) 0))))))
def cd26 (p : Nat) : Option (Instr × Nat) := (tB 105 p (tB 155 p (tB 180 p (tB 192 p (tB 199 p (tB 201 p (tB 202 p (tL 202 p .return_ 0) (tL 201 p .iastore 0)) (tB 200 p (tL 200 p .iadd 0) (tL 199 p .imul 0))) (tB 195 p (tB 197 p (tL 197 p (.iload 13) 0) (tL 195 p (.iload 9) 0)) (tB 194 p (tL 194 p .imul 0) (tL 192 p (.iload 11) 0)))) (tB 186 p (tB 189 p (tB 190 p (tL 190 p (.iload 8) 0) (tL 189 p .iadd 0)) (tB 188 p (tL 188 p (.iconst 3) 0) (tL 186 p (.iload 14) 0))) (tB 182 p (tB 183 p (tL 183 p (.getfield 53) 14) (tL 182 p (.aload_n 0) 0)) (tB 181 p (tL 181 p .iastore 0) (tL 180 p .iadd 0))))) (tB 168 p (tB 174 p (tB 177 p (tB 179 p (tL 179 p .imul 0) (tL 177 p (.iload 12) 0)) (tB 175 p (tL 175 p (.iload 9) 0) (tL 174 p .imul 0))) (tB 170 p (tB 172 p (tL 172 p (.iload 10) 0) (tL 170 p (.iload 8) 0)) (tB 169 p (tL 169 p .iadd 0) (tL 168 p (.iconst 2) 0)))) (tB 161 p (tB 163 p (tB 166 p (tL 166 p (.iload 14) 0) (tL 163 p (.getfield 53) 14)) (tB 162 p (tL 162 p (.aload_n 0) 0) (tL 161 p .iastore 0))) (tB 159 p (tB 160 p (tL 160 p .iadd 0) (tL 159 p .imul 0)) (tB 157 p (tL 157 p (.iload 13) 0) (tL 155 p (.iload 7) 0)))))) (tB 130 p (tB 142 p (tB 149 p (tB 152 p (tB 154 p (tL 154 p .imul 0) (tL 152 p (.iload 11) 0)) (tB 150 p (tL 150 p (.iload 6) 0) (tL 149 p .iadd 0))) (tB 146 p (tB 148 p (tL 148 p (.iconst 1) 0) (tL 146 p (.iload 14) 0)) (tB 143 p (tL 143 p (.getfield 53) 14) (tL 142 p (.aload_n 0) 0)))) (tB 137 p (tB 140 p (tB 141 p (tL 141 p .iastore 0) (tL 140 p .iadd 0)) (tB 139 p (tL 139 p .imul 0) (tL 137 p (.iload 12) 0))) (tB 134 p (tB 135 p (tL 135 p (.iload 7) 0) (tL 134 p .imul 0)) (tB 132 p (tL 132 p (.iload 10) 0) (tL 130 p (.iload 6) 0))))) (tB 117 p (tB 122 p (tB 125 p (tB 128 p (tL 128 p (.iload 14) 0) (tL 125 p (.getfield 53) 14)) (tB 124 p (tL 124 p (.aload_n 0) 0) (tL 122 p (.istore 14) 0))) (tB 120 p (tB 121 p (tL 121 p .imul 0) (tL 120 p (.iconst 4) 0)) (tB 119 p (tL 119 p (.iload_n 1) 0) (tL 117 p (.istore 13) 0)))) (tB 112 p (tB 115 p (tB 116 p (tL 116 p .iaload 0) (tL 115 p .iadd 0)) (tB 114 p (tL 114 p (.iconst 3) 0) (tL 112 p (.iload 5) 0))) (tB 108 p (tB 109 p (tL 109 p (.getfield 53) 14) (tL 108 p (.aload_n 0) 0)) (tB 106 p (tL 106 p (.istore 12) 0) (tL 105 p .iaload 0))))))) (tB 53 p (tB 78 p (tB 93 p (tB 98 p (tB 103 p (tB 104 p (tL 104 p .iadd 0) (tL 103 p (.iconst 2) 0)) (tB 101 p (tL 101 p (.iload 5) 0) (tL 98 p (.getfield 53) 14))) (tB 95 p (tB 97 p (tL 97 p (.aload_n 0) 0) (tL 95 p (.istore 11) 0)) (tB 94 p (tL 94 p .iaload 0) (tL 93 p .iadd 0)))) (tB 86 p (tB 90 p (tB 92 p (tL 92 p (.iconst 1) 0) (tL 90 p (.iload 5) 0)) (tB 87 p (tL 87 p (.getfield 53) 14) (tL 86 p (.aload_n 0) 0))) (tB 83 p (tB 84 p (tL 84 p (.istore 10) 0) (tL 83 p .iaload 0)) (tB 81 p (tL 81 p (.iload 5) 0) (tL 78 p (.getfield 53) 14))))) (tB 66 p (tB 73 p (tB 75 p (tB 77 p (tL 77 p (.aload_n 0) 0) (tL 75 p (.istore 9) 0)) (tB 74 p (tL 74 p .iaload 0) (tL 73 p .iadd 0))) (tB 70 p (tB 72 p (tL 72 p (.iconst 3) 0) (tL 70 p (.iload 4) 0)) (tB 67 p (tL 67 p (.getfield 53) 14) (tL 66 p (.aload_n 0) 0)))) (tB 61 p (tB 63 p (tB 64 p (tL 64 p (.istore 8) 0) (tL 63 p .iaload 0)) (tB 62 p (tL 62 p .iadd 0) (tL 61 p (.iconst 2) 0))) (tB 56 p (tB 59 p (tL 59 p (.iload 4) 0) (tL 56 p (.getfield 53) 14)) (tB 55 p (tL 55 p (.aload_n 0) 0) (tL 53 p (.istore 7) 0)))))) (tB 28 p (tB 41 p (tB 48 p (tB 51 p (tB 52 p (tL 52 p .iaload 0) (tL 51 p .iadd 0)) (tB 50 p (tL 50 p (.iconst 1) 0) (tL 48 p (.iload 4) 0))) (tB 44 p (tB 45 p (tL 45 p (.getfield 53) 14) (tL 44 p (.aload_n 0) 0)) (tB 42 p (tL 42 p (.istore 6) 0) (tL 41 p .iaload 0)))) (tB 33 p (tB 36 p (tB 39 p (tL 39 p (.iload 4) 0) (tL 36 p (.getfield 53) 14)) (tB 35 p (tL 35 p (.aload_n 0) 0) (tL 33 p (.istore 5) 0))) (tB 31 p (tB 32 p (tL 32 p .imul 0) (tL 31 p (.iconst 4) 0)) (tB 30 p (tL 30 p (.iload_n 3) 0) (tL 28 p (.istore 4) 0))))) (tB 16 p (tB 24 p (tB 26 p (tB 27 p (tL 27 p .imul 0) (tL 26 p (.iconst 4) 0)) (tB 25 p (tL 25 p (.iload_n 2) 0) (tL 24 p .return_ 0))) (tB 18 p (tB 21 p (tL 21 p (.ifCond .ne 4) 25) (tL 18 p (.invokevirtual 136) 5)) (tB 17 p (tL 17 p (.iload_n 3) 0) (tL 16 p (.aload_n 0) 0)))) (tB 8 p (tB 10 p (tB 13 p (tL 13 p (.ifCond .eq 11) 24) (tL 10 p (.invokevirtual 136) 5)) (tB 9 p (tL 9 p (.iload_n 2) 0) (tL 8 p (.aload_n 0) 0))) (tB 2 p (tB 5 p (tL 5 p (.ifCond .eq 19) 24) (tL 2 p (.invokevirtual 136) 5)) (tB 1 p (tL 1 p (.iload_n 1) 0) (tL 0 p (.aload_n 0) 0))))))))
def cd27 (p : Nat) : Option (Instr × Nat) := (tB 20 p (tB 32 p (tB 35 p (tB 36 p (tB 37 p (tL 37 p .return_ 0) (tL 36 p .iastore 0)) (tL 35 p .isub 0)) (tB 33 p (tB 34 p (tL 34 p (.iconst 1) 0) (tL 33 p .iaload 0)) (tL 32 p (.iload_n 1) 0))) (tB 27 p (tB 28 p (tB 29 p (tL 29 p (.getfield 35) 8) (tL 28 p (.aload_n 0) 0)) (tL 27 p (.iload_n 1) 0)) (tB 23 p (tB 24 p (tL 24 p (.getfield 35) 8) (tL 23 p (.aload_n 0) 0)) (tL 20 p (.ifCond .le 17) 37)))) (tB 10 p (tB 15 p (tB 18 p (tB 19 p (tL 19 p .iaload 0) (tL 18 p (.iload_n 1) 0)) (tL 15 p (.getfield 35) 8)) (tB 11 p (tB 14 p (tL 14 p (.aload_n 0) 0) (tL 11 p (.invokevirtual 124) 28)) (tL 10 p (.iload_n 1) 0))) (tB 5 p (tB 6 p (tB 9 p (tL 9 p (.aload_n 0) 0) (tL 6 p (.ifCond .ne 8) 14)) (tL 5 p .iaload 0)) (tB 1 p (tB 4 p (tL 4 p (.iload_n 1) 0) (tL 1 p (.getfield 35) 8)) (tL 0 p (.aload_n 0) 0)))))
def cd28 (p : Nat) : Option (Instr × Nat) := (tB 40 p (tB 64 p (tB 73 p (tB 79 p (tB 81 p (tB 84 p (tL 84 p .return_ 0) (tL 81 p (.invokevirtual 101) 6)) (tB 80 p (tL 80 p (.iconst 1) 0) (tL 79 p (.iload_n 1) 0))) (tB 75 p (tB 78 p (tL 78 p (.aload_n 0) 0) (tL 75 p (.invokevirtual 98) 3)) (tB 74 p (tL 74 p (.iconst 1) 0) (tL 73 p (.aload_n 0) 0)))) (tB 67 p (tB 71 p (tB 72 p (tL 72 p .iastore 0) (tL 71 p (.iconst 0) 0)) (tB 70 p (tL 70 p (.iload_n 1) 0) (tL 67 p (.getfield 38) 9))) (tB 65 p (tB 66 p (tL 66 p (.aload_n 0) 0) (tL 65 p .iastore 0)) (tL 64 p (.iload_n 2) 0)))) (tB 49 p (tB 56 p (tB 60 p (tB 63 p (tL 63 p (.iload_n 1) 0) (tL 60 p (.getfield 35) 8)) (tB 59 p (tL 59 p (.aload_n 0) 0) (tL 56 p (.goto (-33)) 23))) (tB 50 p (tB 53 p (tL 53 p (.iinc 3 1) 0) (tL 50 p (.invokevirtual 130) 30)) (tL 49 p (.iconst 1) 0))) (tB 43 p (tB 47 p (tB 48 p (tL 48 p (.iload_n 3) 0) (tL 47 p (.iload_n 1) 0)) (tB 46 p (tL 46 p (.aload_n 0) 0) (tL 43 p (.invokevirtual 121) 26))) (tB 41 p (tB 42 p (tL 42 p (.iconst 1) 0) (tL 41 p (.iconst 2) 0)) (tL 40 p (.iconst 1) 0))))) (tB 22 p (tB 31 p (tB 34 p (tB 36 p (tB 39 p (tL 39 p (.aload_n 0) 0) (tL 36 p (.invokevirtual 127) 29)) (tB 35 p (tL 35 p .isub 0) (tL 34 p (.iload_n 3) 0))) (tB 32 p (tB 33 p (tL 33 p .isub 0) (tL 32 p (.iconst 1) 0)) (tL 31 p (.iload_n 2) 0))) (tB 25 p (tB 29 p (tB 30 p (tL 30 p (.iload_n 1) 0) (tL 29 p (.iconst 2) 0)) (tB 28 p (tL 28 p (.aload_n 0) 0) (tL 25 p (.if_icmp .ge 34) 59))) (tB 23 p (tB 24 p (tL 24 p (.iload_n 2) 0) (tL 23 p (.iload_n 3) 0)) (tL 22 p (.istore_n 3) 0)))) (tB 10 p (tB 16 p (tB 18 p (tB 21 p (tL 21 p (.iconst 0) 0) (tL 18 p (.invokevirtual 98) 3)) (tB 17 p (tL 17 p (.iconst 1) 0) (tL 16 p (.aload_n 0) 0))) (tB 13 p (tB 15 p (tL 15 p (.istore_n 2) 0) (tL 13 p (.bipush 32) 0)) (tL 10 p (.if_icmp .le 6) 16))) (tB 5 p (tB 7 p (tB 8 p (tL 8 p (.bipush 32) 0) (tL 7 p (.iload_n 2) 0)) (tB 6 p (tL 6 p (.istore_n 2) 0) (tL 5 p .iaload 0))) (tB 1 p (tB 4 p (tL 4 p (.iload_n 1) 0) (tL 1 p (.getfield 38) 9)) (tL 0 p (.aload_n 0) 0))))))
def cd29 (p : Nat) : Option (Instr × Nat) := (tB 31 p (tB 49 p (tB 58 p (tB 60 p (tB 63 p (tB 66 p (tL 66 p .return_ 0) (tL 63 p (.goto (-29)) 34)) (tL 60 p (.iinc 6 1) 0)) (tB 59 p (tL 59 p .iastore 0) (tL 58 p .iaload 0))) (tB 53 p (tB 55 p (tB 57 p (tL 57 p .iadd 0) (tL 55 p (.iload 6) 0)) (tL 53 p (.iload 4) 0)) (tB 50 p (tL 50 p (.getfield 41) 10) (tL 49 p (.aload_n 0) 0)))) (tB 40 p (tB 44 p (tB 46 p (tB 48 p (tL 48 p .iadd 0) (tL 46 p (.iload 6) 0)) (tL 44 p (.iload 5) 0)) (tB 41 p (tL 41 p (.getfield 53) 14) (tL 40 p (.aload_n 0) 0))) (tB 34 p (tB 36 p (tB 37 p (tL 37 p (.if_icmp .ge 29) 66) (tL 36 p (.iconst 4) 0)) (tL 34 p (.iload 6) 0)) (tB 32 p (tL 32 p (.istore 6) 0) (tL 31 p (.iconst 0) 0))))) (tB 17 p (tB 24 p (tB 27 p (tB 28 p (tB 29 p (tL 29 p (.istore 5) 0) (tL 28 p .imul 0)) (tL 27 p (.iconst 4) 0)) (tB 26 p (tL 26 p (.iload_n 1) 0) (tL 24 p (.istore 4) 0))) (tB 19 p (tB 20 p (tB 21 p (tL 21 p (.invokevirtual 139) 24) (tL 20 p (.iload_n 3) 0)) (tL 19 p (.iload_n 2) 0)) (tB 18 p (tL 18 p (.aload_n 0) 0) (tL 17 p .return_ 0)))) (tB 8 p (tB 10 p (tB 11 p (tB 14 p (tL 14 p (.ifCond .ne 4) 18) (tL 11 p (.invokevirtual 110) 22)) (tL 10 p (.iload_n 3) 0)) (tB 9 p (tL 9 p (.iload_n 2) 0) (tL 8 p (.aload_n 0) 0))) (tB 2 p (tB 5 p (tL 5 p (.ifCond .eq 12) 17) (tL 2 p (.invokevirtual 136) 5)) (tB 1 p (tL 1 p (.iload_n 1) 0) (tL 0 p (.aload_n 0) 0))))))
def cd30 (p : Nat) : Option (Instr × Nat) := (tB 31 p (tB 49 p (tB 58 p (tB 60 p (tB 63 p (tB 66 p (tL 66 p .return_ 0) (tL 63 p (.goto (-29)) 34)) (tL 60 p (.iinc 6 1) 0)) (tB 59 p (tL 59 p .iastore 0) (tL 58 p .iaload 0))) (tB 53 p (tB 55 p (tB 57 p (tL 57 p .iadd 0) (tL 55 p (.iload 6) 0)) (tL 53 p (.iload 5) 0)) (tB 50 p (tL 50 p (.getfield 53) 14) (tL 49 p (.aload_n 0) 0)))) (tB 40 p (tB 44 p (tB 46 p (tB 48 p (tL 48 p .iadd 0) (tL 46 p (.iload 6) 0)) (tL 44 p (.iload 4) 0)) (tB 41 p (tL 41 p (.getfield 44) 11) (tL 40 p (.aload_n 0) 0))) (tB 34 p (tB 36 p (tB 37 p (tL 37 p (.if_icmp .ge 29) 66) (tL 36 p (.iconst 4) 0)) (tL 34 p (.iload 6) 0)) (tB 32 p (tL 32 p (.istore 6) 0) (tL 31 p (.iconst 0) 0))))) (tB 17 p (tB 24 p (tB 27 p (tB 28 p (tB 29 p (tL 29 p (.istore 5) 0) (tL 28 p .imul 0)) (tL 27 p (.iconst 4) 0)) (tB 26 p (tL 26 p (.iload_n 3) 0) (tL 24 p (.istore 4) 0))) (tB 19 p (tB 20 p (tB 21 p (tL 21 p (.invokevirtual 139) 24) (tL 20 p (.iload_n 2) 0)) (tL 19 p (.iload_n 1) 0)) (tB 18 p (tL 18 p (.aload_n 0) 0) (tL 17 p .return_ 0)))) (tB 8 p (tB 10 p (tB 11 p (tB 14 p (tL 14 p (.ifCond .ne 4) 18) (tL 11 p (.invokevirtual 110) 22)) (tL 10 p (.iload_n 2) 0)) (tB 9 p (tL 9 p (.iload_n 1) 0) (tL 8 p (.aload_n 0) 0))) (tB 2 p (tB 5 p (tL 5 p (.ifCond .eq 12) 17) (tL 2 p (.invokevirtual 136) 5)) (tB 1 p (tL 1 p (.iload_n 3) 0) (tL 0 p (.aload_n 0) 0))))))
def cd31 (p : Nat) : Option (Instr × Nat) := (tB 6 p (tB 8 p (tB 9 p (tB 12 p (tL 12 p .return_ 0) (tL 9 p (.invokevirtual 104) 7)) (tL 8 p (.iconst 3) 0)) (tB 7 p (tL 7 p (.iload_n 1) 0) (tL 6 p (.aload_n 0) 0))) (tB 2 p (tB 3 p (tL 3 p (.invokevirtual 86) 32) (tL 2 p (.iconst 3) 0)) (tB 1 p (tL 1 p (.iload_n 1) 0) (tL 0 p (.aload_n 0) 0))))
def cd32 (p : Nat) : Option (Instr × Nat) := (tB 20 p (tB 31 p (tB 36 p (tB 38 p (tB 41 p (tL 41 p .return_ 0) (tL 38 p (.invokevirtual 121) 26)) (tB 37 p (tL 37 p (.iconst 2) 0) (tL 36 p (.iconst 1) 0))) (tB 34 p (tB 35 p (tL 35 p (.iload_n 2) 0) (tL 34 p (.aload_n 0) 0)) (tL 31 p (.invokevirtual 118) 25))) (tB 25 p (tB 29 p (tB 30 p (tL 30 p (.iload_n 1) 0) (tL 29 p (.iconst 2) 0)) (tB 28 p (tL 28 p (.aload_n 0) 0) (tL 25 p (.invokevirtual 98) 3))) (tB 23 p (tB 24 p (tL 24 p (.iconst 1) 0) (tL 23 p (.aload_n 0) 0)) (tL 20 p (.goto 8) 28)))) (tB 11 p (tB 14 p (tB 16 p (tB 17 p (tL 17 p (.invokevirtual 133) 33) (tL 16 p .isub 0)) (tB 15 p (tL 15 p (.iconst 1) 0) (tL 14 p (.iload_n 3) 0))) (tB 12 p (tB 13 p (tL 13 p (.iload_n 1) 0) (tL 12 p (.iconst 1) 0)) (tL 11 p (.aload_n 0) 0))) (tB 5 p (tB 7 p (tB 8 p (tL 8 p (.ifCond .le 15) 23) (tL 7 p (.iload_n 3) 0)) (tB 6 p (tL 6 p (.istore_n 3) 0) (tL 5 p .iaload 0))) (tB 1 p (tB 4 p (tL 4 p (.iload_n 1) 0) (tL 1 p (.getfield 35) 8)) (tL 0 p (.aload_n 0) 0)))))
def cd33 (p : Nat) : Option (Instr × Nat) := (tB 31 p (tB 49 p (tB 58 p (tB 60 p (tB 63 p (tB 66 p (tL 66 p .return_ 0) (tL 63 p (.goto (-29)) 34)) (tL 60 p (.iinc 6 1) 0)) (tB 59 p (tL 59 p .iastore 0) (tL 58 p .iaload 0))) (tB 53 p (tB 55 p (tB 57 p (tL 57 p .iadd 0) (tL 55 p (.iload 6) 0)) (tL 53 p (.iload 4) 0)) (tB 50 p (tL 50 p (.getfield 44) 11) (tL 49 p (.aload_n 0) 0)))) (tB 40 p (tB 44 p (tB 46 p (tB 48 p (tL 48 p .iadd 0) (tL 46 p (.iload 6) 0)) (tL 44 p (.iload 5) 0)) (tB 41 p (tL 41 p (.getfield 53) 14) (tL 40 p (.aload_n 0) 0))) (tB 34 p (tB 36 p (tB 37 p (tL 37 p (.if_icmp .ge 29) 66) (tL 36 p (.iconst 4) 0)) (tL 34 p (.iload 6) 0)) (tB 32 p (tL 32 p (.istore 6) 0) (tL 31 p (.iconst 0) 0))))) (tB 17 p (tB 24 p (tB 27 p (tB 28 p (tB 29 p (tL 29 p (.istore 5) 0) (tL 28 p .imul 0)) (tL 27 p (.iconst 4) 0)) (tB 26 p (tL 26 p (.iload_n 1) 0) (tL 24 p (.istore 4) 0))) (tB 19 p (tB 20 p (tB 21 p (tL 21 p (.invokevirtual 139) 24) (tL 20 p (.iload_n 3) 0)) (tL 19 p (.iload_n 2) 0)) (tB 18 p (tL 18 p (.aload_n 0) 0) (tL 17 p .return_ 0)))) (tB 8 p (tB 10 p (tB 11 p (tB 14 p (tL 14 p (.ifCond .ne 4) 18) (tL 11 p (.invokevirtual 110) 22)) (tL 10 p (.iload_n 3) 0)) (tB 9 p (tL 9 p (.iload_n 2) 0) (tL 8 p (.aload_n 0) 0))) (tB 2 p (tB 5 p (tL 5 p (.ifCond .eq 12) 17) (tL 2 p (.invokevirtual 136) 5)) (tB 1 p (tL 1 p (.iload_n 1) 0) (tL 0 p (.aload_n 0) 0))))))
def pCode (m pc : Nat) : Option (Instr × Nat) := bif Nat.ble pN m then none else bif Nat.ble pTop pc then none else (bif Nat.ble 17 m then (bif Nat.ble 25 m then (bif Nat.ble 29 m then (bif Nat.ble 31 m then (bif Nat.ble 32 m then (bif Nat.ble 33 m then cd33 pc else cd32 pc) else cd31 pc) else (bif Nat.ble 30 m then cd30 pc else cd29 pc)) else (bif Nat.ble 27 m then (bif Nat.ble 28 m then cd28 pc else cd27 pc) else (bif Nat.ble 26 m then cd26 pc else cd25 pc))) else (bif Nat.ble 21 m then (bif Nat.ble 23 m then (bif Nat.ble 24 m then cd24 pc else cd23 pc) else (bif Nat.ble 22 m then cd22 pc else cd21 pc)) else (bif Nat.ble 19 m then (bif Nat.ble 20 m then cd20 pc else cd19 pc) else (bif Nat.ble 18 m then cd18 pc else cd17 pc)))) else (bif Nat.ble 8 m then (bif Nat.ble 12 m then (bif Nat.ble 14 m then (bif Nat.ble 15 m then (bif Nat.ble 16 m then cd16 pc else cd15 pc) else cd14 pc) else (bif Nat.ble 13 m then cd13 pc else cd12 pc)) else (bif Nat.ble 10 m then (bif Nat.ble 11 m then cd11 pc else cd10 pc) else (bif Nat.ble 9 m then cd9 pc else cd8 pc))) else (bif Nat.ble 4 m then (bif Nat.ble 6 m then (bif Nat.ble 7 m then cd7 pc else cd6 pc) else (bif Nat.ble 5 m then cd5 pc else cd4 pc)) else (bif Nat.ble 2 m then (bif Nat.ble 3 m then cd3 pc else cd2 pc) else (bif Nat.ble 1 m then cd1 pc else cd0 pc)))))
def lkF : List (Nat × Nat × Nat) := [(1, 7, 0), (1, 13, 1), (1, 16, 2), (1, 19, 3), (1, 22, 4), (1, 25, 5), (1, 28, 6), (1, 32, 7), (1, 35, 8), (1, 38, 9), (1, 41, 10), (1, 44, 11), (1, 47, 12), (1, 50, 13), (1, 53, 14), (1, 56, 15), (1, 59, 16), (1, 62, 17)]
def lkN : List (Nat × Nat) := [(0, 8)]
def lkC : List (Nat × Nat × Nat) := []
def lkD : List (Nat × Nat × Nat) := []
def lkV : List (Nat × Nat × Nat) := [(0, 32, 1), (1, 65, 2), (1, 98, 3), (1, 69, 4), (1, 136, 5), (1, 101, 6), (1, 104, 7), (0, 35, 8), (0, 7, 9), (0, 13, 10), (0, 16, 11), (1, 79, 12), (0, 20, 13), (0, 23, 14), (0, 26, 15), (0, 29, 16), (0, 45, 17), (0, 41, 18), (1, 94, 19), (0, 48, 20), (1, 73, 21), (1, 110, 22), (1, 114, 23), (1, 139, 24), (1, 118, 25), (1, 121, 26), (1, 107, 27), (1, 124, 28), (1, 127, 29), (1, 130, 30), (1, 76, 31), (1, 86, 32), (1, 133, 33)]
def lkO : List (Nat × Nat) := [(1, 1)]
def mV : List Nat := [9, 10, 11, 13, 14, 15, 16, 17, 18, 20]
def mP : List Nat := [2, 3, 4, 5, 6, 7, 12, 19, 21, 22, 23, 24, 25, 26, 27, 28, 29, 30, 31, 32, 33]
def mS : List Nat := [8]
def mI : List Nat := [1]
def mA : List Nat := [1, 2, 3, 4, 5, 6, 7, 8, 9, 10, 11, 12, 13, 14, 15, 16, 17, 18, 19, 20, 21, 22, 23, 24, 25, 26, 27, 28, 29, 30, 31, 32, 33]
def aTys : List FieldType := [.int]
/-! ENGINE: abstract cells, locals, one-step function, and what a triple says of the model. -/
abbrev QCell := List Value ⊕ ((FieldType × List Int32) ⊕ List Int64)
abbrev QHeap := List QCell
abbrev QLoc := List (Option Value)
abbrev vI (x : Int32) : Option Value := some (.int x)
abbrev QSt := Nat × QLoc × List Value × QHeap
def qv (ad : Nat → Addr) : Value → Value
  | .ref k => .ref (ad k)
  | v => v
def qsz : QCell → Nat
  | .inl _ => cN
  | .inr (.inl x) => x.2.length
  | .inr (.inr x) => x.length
def qhs : QHeap → Nat
  | [] => 0
  | c :: t => qsz c + qhs t
def aget {α : Type} (xs : List α) (j : Int32) : Option α := if j < 0 then none else xs[j.toNatClampNeg]?
def aset {α : Type} (xs : List α) (j : Int32) (v : α) : Option (List α) := if j < 0 then none else if j.toNatClampNeg < xs.length then some (xs.set j.toNatClampNeg v) else none
def qnew (n : Int32) : Option Nat := if n < 0 then none else if n.toNatClampNeg ≤ 67108864 then some n.toNatClampNeg else none
def qdiv (x y : Int32) : Option Int32 := if y = 0 then none else some (x / y)
def qrem (x y : Int32) : Option Int32 := if y = 0 then none else some (x % y)
def qboo (x : Int32) : Option Int32 := if x = 0 then some x else if x = 1 then some x else none
def lget : QLoc → Nat → Option Value
  | [], _ => none
  | v :: _, 0 => v
  | _ :: t, k + 1 => lget t k
def hget : QHeap → Nat → Option QCell
  | [], _ => none
  | v :: _, 0 => some v
  | _ :: t, k + 1 => hget t k
def vget : List Value → Nat → Option Value
  | [], _ => none
  | v :: _, 0 => some v
  | _ :: t, k + 1 => vget t k
def lkill (L : QLoc) : Nat → QLoc
  | 0 => L
  | k + 1 => match lget L k with
    | some (.long _) => L.set k none
    | some (.double _) => L.set k none
    | _ => L
def lput (L : QLoc) (k : Nat) (v : Value) : Option QLoc :=
  match v with
  | .long x => bif Nat.ble (k + 2) L.length then some (((lkill L k).set k (some (.long x))).set (k + 1) none) else none
  | .double _ => none
  | v => bif Nat.ble (k + 1) L.length then some ((lkill L k).set k (some v)) else none
/-- push what a local holds, if it is of the kind -/
def qload (pc : Nat) (L : QLoc) (S : List Value) (σ : QHeap) (k : Nat) (ok : Value → Bool) : Option QSt :=
  match lget L k with
  | some v => bif ok v then some (pc, L, v :: S, σ) else none
  | none => none
def isI : Value → Bool | .int _ => true | _ => false
def isJ : Value → Bool | .long _ => true | _ => false
def isR : Value → Bool | .ref _ => true | _ => false
def qstore (pc : Nat) (L : QLoc) (S : List Value) (σ : QHeap) (k : Nat) (ok : Value → Bool) : Option QSt :=
  match S with
  | v :: S' => bif ok v then (match lput L k v with | some L' => some (pc, L', S', σ) | none => none) else none
  | [] => none
def qbin (pc : Nat) (L : QLoc) (S : List Value) (σ : QHeap) (f : Int32 → Int32 → Int32) : Option QSt :=
  match S with
  | .int y :: .int x :: S' => some (pc, L, .int (f x y) :: S', σ)
  | _ => none
def qbino (pc : Nat) (L : QLoc) (S : List Value) (σ : QHeap) (f : Int32 → Int32 → Option Int32) : Option QSt :=
  match S with
  | .int y :: .int x :: S' => (f x y).bind fun z => some (pc, L, .int z :: S', σ)
  | _ => none
def qbinJ (pc : Nat) (L : QLoc) (S : List Value) (σ : QHeap) (f : Int64 → Int64 → Int64) : Option QSt :=
  match S with
  | .long y :: .long x :: S' => some (pc, L, .long (f x y) :: S', σ)
  | _ => none
def qshJ (pc : Nat) (L : QLoc) (S : List Value) (σ : QHeap) (f : Int64 → Int32 → Int64) : Option QSt :=
  match S with
  | .int y :: .long x :: S' => some (pc, L, .long (f x y) :: S', σ)
  | _ => none
def quni (pc : Nat) (L : QLoc) (S : List Value) (σ : QHeap) (f : Int32 → Value) : Option QSt :=
  match S with
  | .int x :: S' => some (pc, L, f x :: S', σ)
  | _ => none
def quniJ (pc : Nat) (L : QLoc) (S : List Value) (σ : QHeap) (f : Int64 → Value) : Option QSt :=
  match S with
  | .long x :: S' => some (pc, L, f x :: S', σ)
  | _ => none
def qald (pc : Nat) (L : QLoc) (S : List Value) (σ : QHeap) (ok : FieldType → Bool) : Option QSt :=
  match S with
  | .int j :: .ref a :: S' => (match hget σ a with
    | some (.inr (.inl x)) => bif ok x.1 then (aget x.2 j).bind fun v => some (pc, L, .int v :: S', σ) else none
    | _ => none)
  | _ => none
def qaldJ (pc : Nat) (L : QLoc) (S : List Value) (σ : QHeap) : Option QSt :=
  match S with
  | .int j :: .ref a :: S' => (match hget σ a with
    | some (.inr (.inr x)) => (aget x j).bind fun v => some (pc, L, .long v :: S', σ)
    | _ => none)
  | _ => none
def qnar : FieldType → Int32 → Int32
  | .boolean, x => x &&& 1
  | .byte, x => x.toInt8.toInt32
  | _, x => x
def qast (pc : Nat) (L : QLoc) (S : List Value) (σ : QHeap) (ok : FieldType → Bool) : Option QSt :=
  match S with
  | .int v :: .int j :: .ref a :: S' => (match hget σ a with
    | some (.inr (.inl x)) => bif ok x.1 && Nat.ble k0 a then (aset x.2 j (qnar x.1 v)).bind fun y => some (pc, L, S', σ.set a (.inr (.inl (x.1, y)))) else none
    | _ => none)
  | _ => none
def qastJ (pc : Nat) (L : QLoc) (S : List Value) (σ : QHeap) : Option QSt :=
  match S with
  | .long v :: .int j :: .ref a :: S' => (match hget σ a with
    | some (.inr (.inr x)) => bif Nat.ble k0 a then (aset x j v).bind fun y => some (pc, L, S', σ.set a (.inr (.inr y))) else none
    | _ => none)
  | _ => none
def tyI : FieldType → Bool | .int => true | _ => false
def tyB : FieldType → Bool | .boolean => true | .byte => true | _ => false
/-- what a value becomes in a field of the type (none: it doesn't fit) -/
def qfit : FieldType → Value → Option Value
  | .int, .int x => some (.int x)
  | .boolean, .int x => (qboo x).bind fun y => some (.int y)
  | .long, .long x => some (.long x)
  | .array t, .ref a => some (.ref a)
  | _, _ => none
def qget (pc : Nat) (L : QLoc) (S : List Value) (σ : QHeap) (k : Nat) : Option QSt :=
  match S with
  | .ref a :: S' => (match hget σ a with
    | some (.inl vs) => (match vget vs k with | some v => some (pc, L, v :: S', σ) | none => none)
    | _ => none)
  | _ => none
def qput (pc : Nat) (L : QLoc) (S : List Value) (σ : QHeap) (k : Nat) : Option QSt :=
  match S with
  | v :: .ref a :: S' => (match hget σ a with
    | some (.inl vs) => bif Nat.ble k0 a && Nat.ble (k + 1) vs.length then (qfit (fTy k) v).bind fun w => some (pc, L, S', σ.set a (.inl (vs.set k w))) else none
    | _ => none)
  | _ => none
def qnewA (pc : Nat) (L : QLoc) (S : List Value) (σ : QHeap) (t : ArrayType) : Option QSt :=
  match S with
  | .int n :: S' => (match t with
    | .int => (qnew n).bind fun k => some (pc, L, .ref σ.length :: S', σ ++ [.inr (.inl (.int, List.replicate k 0))])
    | .boolean => (qnew n).bind fun k => some (pc, L, .ref σ.length :: S', σ ++ [.inr (.inl (.boolean, List.replicate k 0))])
    | .byte => (qnew n).bind fun k => some (pc, L, .ref σ.length :: S', σ ++ [.inr (.inl (.byte, List.replicate k 0))])
    | .long => (qnew n).bind fun k => some (pc, L, .ref σ.length :: S', σ ++ [.inr (.inr (List.replicate k 0))])
    | _ => none)
  | _ => none
def qlen (pc : Nat) (L : QLoc) (S : List Value) (σ : QHeap) : Option QSt :=
  match S with
  | .ref a :: S' => (match hget σ a with
    | some (.inr (.inl x)) => some (pc, L, .int x.2.length.toInt32 :: S', σ)
    | some (.inr (.inr x)) => some (pc, L, .int x.length.toInt32 :: S', σ)
    | _ => none)
  | _ => none
def qdup (pc : Nat) (L : QLoc) (S : List Value) (σ : QHeap) : Option QSt :=
  match S with
  | .int x :: S' => some (pc, L, .int x :: .int x :: S', σ)
  | .ref x :: S' => some (pc, L, .ref x :: .ref x :: S', σ)
  | _ => none
def qdup2 (pc : Nat) (L : QLoc) (S : List Value) (σ : QHeap) : Option QSt :=
  match S with
  | .int x :: .ref y :: S' => some (pc, L, .int x :: .ref y :: .int x :: .ref y :: S', σ)
  | .int x :: .int y :: S' => some (pc, L, .int x :: .int y :: .int x :: .int y :: S', σ)
  | .long x :: S' => some (pc, L, .long x :: .long x :: S', σ)
  | _ => none
def qpop (pc : Nat) (L : QLoc) (S : List Value) (σ : QHeap) : Option QSt :=
  match S with
  | .int _ :: S' => some (pc, L, S', σ)
  | .ref _ :: S' => some (pc, L, S', σ)
  | _ => none
def qif (pc : Nat) (L : QLoc) (S : List Value) (σ : QHeap) (cd : ClassFile.Cond) (tgt : Nat) : Option QSt :=
  match S with
  | .int x :: S' => some (bif ifCond.holds cd x then tgt else pc, L, S', σ)
  | _ => none
def qicmp (pc : Nat) (L : QLoc) (S : List Value) (σ : QHeap) (cd : ClassFile.Cond) (tgt : Nat) : Option QSt :=
  match S with
  | .int y :: .int x :: S' => some (bif if_icmp.holds cd x y then tgt else pc, L, S', σ)
  | _ => none
def qinc (pc : Nat) (L : QLoc) (S : List Value) (σ : QHeap) (k : Nat) (i : Int) : Option QSt :=
  match lget L k with
  | some (.int x) => (match lput L k (.int (x + Int32.ofInt i)) with | some L' => some (pc, L', S, σ) | none => none)
  | _ => none
def qldc (pc : Nat) (L : QLoc) (S : List Value) (σ : QHeap) (k : Nat) : Option QSt :=
  match vget cK k with
  | some v => some (pc, L, v :: S, σ)
  | none => none
def qexec (pc : Nat) (L : QLoc) (S : List Value) (σ : QHeap) (aux : Nat) : Instr → Option QSt
  | .aload_n k => qload (pc + 1) L S σ k.val isR
  | .aload k => qload (pc + 2) L S σ k isR
  | .iload_n k => qload (pc + 1) L S σ k.val isI
  | .iload k => qload (pc + 2) L S σ k isI
  | .lload_n k => qload (pc + 1) L S σ k.val isJ
  | .lload k => qload (pc + 2) L S σ k isJ
  | .iconst i => some (pc + 1, L, .int (Int32.ofInt i) :: S, σ)
  | .bipush i => some (pc + 2, L, .int (Int8.ofInt i).toInt32 :: S, σ)
  | .sipush i => some (pc + 3, L, .int (Int16.ofInt i).toInt32 :: S, σ)
  | .lconst k => some (pc + 1, L, .long (Int64.ofNat k.val) :: S, σ)
  | .ldc _ => qldc (pc + 2) L S σ aux
  | .ldc2_w _ => qldc (pc + 3) L S σ aux
  | .istore_n k => qstore (pc + 1) L S σ k.val isI
  | .istore k => qstore (pc + 2) L S σ k isI
  | .lstore_n k => qstore (pc + 1) L S σ k.val isJ
  | .lstore k => qstore (pc + 2) L S σ k isJ
  | .astore_n k => qstore (pc + 1) L S σ k.val isR
  | .astore k => qstore (pc + 2) L S σ k isR
  | .iinc k i => qinc (pc + 3) L S σ k i
  | .iadd => qbin (pc + 1) L S σ fun x y => x + y
  | .isub => qbin (pc + 1) L S σ fun x y => x - y
  | .imul => qbin (pc + 1) L S σ fun x y => x * y
  | .iand => qbin (pc + 1) L S σ fun x y => x &&& y
  | .ior => qbin (pc + 1) L S σ fun x y => x ||| y
  | .ixor => qbin (pc + 1) L S σ fun x y => x ^^^ y
  | .ishl => qbin (pc + 1) L S σ fun x y => x <<< (y &&& 31)
  | .ishr => qbin (pc + 1) L S σ fun x y => x >>> (y &&& 31)
  | .iushr => qbin (pc + 1) L S σ fun x y => XT.ushr x y
  | .idiv => qbino (pc + 1) L S σ qdiv
  | .irem => qbino (pc + 1) L S σ qrem
  | .ineg => quni (pc + 1) L S σ fun x => .int (-x)
  | .i2l => quni (pc + 1) L S σ fun x => .long x.toInt64
  | .i2b => quni (pc + 1) L S σ fun x => .int x.toInt8.toInt32
  | .l2i => quniJ (pc + 1) L S σ fun x => .int x.toInt32
  | .lneg => quniJ (pc + 1) L S σ fun x => .long (-x)
  | .ladd => qbinJ (pc + 1) L S σ fun x y => x + y
  | .lsub => qbinJ (pc + 1) L S σ fun x y => x - y
  | .lmul => qbinJ (pc + 1) L S σ fun x y => x * y
  | .land => qbinJ (pc + 1) L S σ fun x y => x &&& y
  | .lor => qbinJ (pc + 1) L S σ fun x y => x ||| y
  | .lxor => qbinJ (pc + 1) L S σ fun x y => x ^^^ y
  | .lshl => qshJ (pc + 1) L S σ fun x y => x <<< (y.toInt64 &&& 63)
  | .lshr => qshJ (pc + 1) L S σ fun x y => x >>> (y.toInt64 &&& 63)
  | .lushr => qshJ (pc + 1) L S σ fun x y => XT.ushrL x y
  | .lcmp => (match S with
    | .long y :: .long x :: S' => some (pc + 1, L, .int (XT.cmpL x y) :: S', σ)
    | _ => none)
  | .goto _ => some (aux, L, S, σ)
  | .ifCond cd _ => qif (pc + 3) L S σ cd aux
  | .if_icmp cd _ => qicmp (pc + 3) L S σ cd aux
  | .dup => qdup (pc + 1) L S σ
  | .dup2 => qdup2 (pc + 1) L S σ
  | .pop => qpop (pc + 1) L S σ
  | .getfield _ => qget (pc + 3) L S σ aux
  | .putfield _ => qput (pc + 3) L S σ aux
  | .iaload => qald (pc + 1) L S σ tyI
  | .baload => qald (pc + 1) L S σ tyB
  | .laload => qaldJ (pc + 1) L S σ
  | .iastore => qast (pc + 1) L S σ tyI
  | .bastore => qast (pc + 1) L S σ tyB
  | .lastore => qastJ (pc + 1) L S σ
  | .arraylength => qlen (pc + 1) L S σ
  | .newarray t => qnewA (pc + 2) L S σ t
  | .new _ => some (pc + 3, L, .ref σ.length :: S, σ ++ [.inl cDef])
  | _ => none
def qstep (m : Nat) (st : QSt) : Option QSt :=
  match pCode m st.1 with
  | some (i, aux) => qexec st.1 st.2.1 st.2.2.1 st.2.2.2 aux i
  | none => none
def qsteps (m : Nat) : Nat → QSt → Option QSt
  | 0, st => some st
  | n + 1, st => match qstep m st with | some st' => qsteps m n st' | none => none
def qentry (args : List Value) (mx : Nat) : QLoc := (args.flatMap fun v => match v with | .long x => [some (.long x), none] | .double x => [some (.double x), none] | v => [some v]) ++ List.replicate (mx - (args.map fun v => v.category).sum) none
/-! ## what the abstract state says of the model's -/
def ilen : Instr → Nat
  | .aload _ | .iload _ | .lload _ | .istore _ | .lstore _ | .astore _ | .bipush _ | .ldc _ | .newarray _ => 2
  | .sipush _ | .ldc2_w _ | .iinc _ _ | .goto _ | .ifCond _ _ | .if_icmp _ _ | .getfield _ | .putfield _ | .new _ | .invokevirtual _ | .invokespecial _ | .invokestatic _ => 3
  | _ => 1
def qtgt (pc : Nat) (o : Int) (aux : Nat) : Bool := decide (0 ≤ (pc : Int) + o) && decide (((pc : Int) + o).toNat = aux)
def qlk (m pc : Nat) (i : Instr) (aux : Nat) : Bool :=
  match i with
  | .goto o => qtgt pc o aux
  | .ifCond _ o => qtgt pc o aux
  | .if_icmp _ o => qtgt pc o aux
  | .getfield idx => lkF.contains (pK m, idx, aux)
  | .putfield idx => lkF.contains (pK m, idx, aux) && (!fFin aux || (pK m == 1 && pNm m == "<init>"))
  | .new idx => lkN.contains (pK m, idx)
  | .newarray t => aTys.contains (newarray.typeOf t)
  | .ldc idx => lkC.contains (pK m, idx, aux)
  | .ldc2_w idx => lkD.contains (pK m, idx, aux)
  | _ => true
def qchk (m pc : Nat) (i : Instr) (aux : Nat) : Bool := decide (decode (pBytes m) pc = .ok (i, ilen i)) && qlk m pc i aux
def QCellOk (Z : State) (ad : Nat → Addr) (h : Heap) (a : Addr) : QCell → Prop
  | .inl vs => Exa Z h a cName ∧ vs.length = nF ∧ ∀ (k : Nat) (v : Value), k < nF → vget vs k = some v → Fld Z h a cName (fNm k) (fDs k) (qv ad v)
  | .inr (.inl x) => ∃ c : Cell, Arr Z h a c x.1 ∧ c.slots = (x.2.map Value.int).toArray
  | .inr (.inr x) => ∃ c : Cell, Arr Z h a c .long ∧ c.slots = (x.map Value.long).toArray
def QAd (n0 : Nat) (ad : Nat → Addr) : Prop := (∀ k, k0 ≤ k → ad k = n0 + (k - k0)) ∧ ∀ i j, ad i = ad j → i = j
def QRep (Z : State) (n0 : Nat) (ad : Nat → Addr) (h : Heap) (σ : QHeap) : Prop := k0 ≤ σ.length ∧ h.size = n0 + (σ.length - k0) ∧ ∀ k c, hget σ k = some c → QCellOk Z ad h (ad k) c
def QLocOk (ad : Nat → Addr) (L : QLoc) (C : Array Slot) : Prop :=
  L.length = C.size ∧ (∀ k v, lget L k = some v → C[k]? = some (.val (qv ad v))) ∧ (∀ k w, C[k]? = some (.val w) → w.category = 2 → C[k + 1]? = some .second) ∧ ∀ k, C[k]? = some .second → ∃ j w, k = j + 1 ∧ C[j]? = some (.val w) ∧ w.category = 2
/-- the words of the sheet, as the engine uses them -/
def QW (Z : State) (a0 : Array Value) : Prop :=
  (∀ t ∈ lkF, (Cond.fieldLink (kName t.1) t.2.1 cName (fNm t.2.2) (fDs t.2.2)).before a0 Z = true) ∧
  (∀ t ∈ lkN, (Cond.classLink (kName t.1) t.2 cName).before a0 Z = true) ∧
  (∀ t ∈ lkC, ∃ v, vget cK t.2.2 = some (.int v) ∧ (Cond.constant (kName t.1) t.2.1 v).before a0 Z = true) ∧
  (∀ t ∈ lkD, ∃ v, vget cK t.2.2 = some (.long v) ∧ (Cond.constantLong (kName t.1) t.2.1 v).before a0 Z = true) ∧
  (∀ t ∈ lkV, (Cond.methodLink (kName t.1) t.2.1 (pName t.2.2)).before a0 Z = true) ∧
  (∀ t ∈ lkO, (Cond.methodLink (kName t.1) t.2 Lib.objectInit).before a0 Z = true) ∧
  (∀ m ∈ mV, (Cond.declares (pName m)).before a0 Z = true ∧ (Cond.selects cName (pName m) (pName m)).before a0 Z = true ∧ (Cond.instanceMethod (pName m)).before a0 Z = true) ∧
  (∀ m ∈ mP, (Cond.instanceMethod (pName m)).before a0 Z = true ∧ (Cond.privateMethod (pName m)).before a0 Z = true) ∧
  (∀ m ∈ mS, (Cond.static (pName m)).before a0 Z = true) ∧
  (∀ m ∈ mI, (Cond.instanceMethod (pName m)).before a0 Z = true) ∧
  (∀ m ∈ mA, (Cond.code (pName m) (pBytes m) (pMaxL m) (pRet m)).before a0 Z = true ∧ (Cond.initialized (kName (pK m))).before a0 Z = true) ∧
  (Cond.instanceMethod Lib.objectInit).before a0 Z = true ∧ (Cond.code Lib.objectInit ⟨#[0xb1]⟩ 1 none).before a0 Z = true ∧
  (∀ k, k < nF → bif fFin k then (Cond.laysFinal cName cName (fNm k) (fDs k)).before a0 Z = true else (Cond.lays cName cName (fNm k) (fDs k)).before a0 Z = true) ∧
  (Cond.instantiable cName cN).before a0 Z = true ∧ (Cond.initialized cName).before a0 Z = true ∧
  ∀ ty ∈ aTys, (Cond.arrayClass ty).before a0 Z = true
section Words
variable {Z : State} {a0 : Array Value}
theorem qw_fl (W : QW Z a0) : ∀ t ∈ lkF, (Cond.fieldLink (kName t.1) t.2.1 cName (fNm t.2.2) (fDs t.2.2)).before a0 Z = true := W.1
theorem qw_nw (W : QW Z a0) : ∀ t ∈ lkN, (Cond.classLink (kName t.1) t.2 cName).before a0 Z = true := W.2.1
theorem qw_cI (W : QW Z a0) : ∀ t ∈ lkC, ∃ v, vget cK t.2.2 = some (.int v) ∧ (Cond.constant (kName t.1) t.2.1 v).before a0 Z = true := W.2.2.1
theorem qw_cJ (W : QW Z a0) : ∀ t ∈ lkD, ∃ v, vget cK t.2.2 = some (.long v) ∧ (Cond.constantLong (kName t.1) t.2.1 v).before a0 Z = true := W.2.2.2.1
theorem qw_ml (W : QW Z a0) : ∀ t ∈ lkV, (Cond.methodLink (kName t.1) t.2.1 (pName t.2.2)).before a0 Z = true := W.2.2.2.2.1
theorem qw_mo (W : QW Z a0) : ∀ t ∈ lkO, (Cond.methodLink (kName t.1) t.2 Lib.objectInit).before a0 Z = true := W.2.2.2.2.2.1
theorem qw_vi (W : QW Z a0) : ∀ m ∈ mV, (Cond.declares (pName m)).before a0 Z = true ∧ (Cond.selects cName (pName m) (pName m)).before a0 Z = true ∧ (Cond.instanceMethod (pName m)).before a0 Z = true := W.2.2.2.2.2.2.1
theorem qw_pr (W : QW Z a0) : ∀ m ∈ mP, (Cond.instanceMethod (pName m)).before a0 Z = true ∧ (Cond.privateMethod (pName m)).before a0 Z = true := W.2.2.2.2.2.2.2.1
theorem qw_st (W : QW Z a0) : ∀ m ∈ mS, (Cond.static (pName m)).before a0 Z = true := W.2.2.2.2.2.2.2.2.1
theorem qw_ini (W : QW Z a0) : ∀ m ∈ mI, (Cond.instanceMethod (pName m)).before a0 Z = true := W.2.2.2.2.2.2.2.2.2.1
theorem qw_cod (W : QW Z a0) : ∀ m ∈ mA, (Cond.code (pName m) (pBytes m) (pMaxL m) (pRet m)).before a0 Z = true ∧ (Cond.initialized (kName (pK m))).before a0 Z = true := W.2.2.2.2.2.2.2.2.2.2.1
theorem qw_oi (W : QW Z a0) : (Cond.instanceMethod Lib.objectInit).before a0 Z = true := W.2.2.2.2.2.2.2.2.2.2.2.1
theorem qw_oc (W : QW Z a0) : (Cond.code Lib.objectInit ⟨#[0xb1]⟩ 1 none).before a0 Z = true := W.2.2.2.2.2.2.2.2.2.2.2.2.1
theorem qw_lay (W : QW Z a0) : ∀ k, k < nF → bif fFin k then (Cond.laysFinal cName cName (fNm k) (fDs k)).before a0 Z = true else (Cond.lays cName cName (fNm k) (fDs k)).before a0 Z = true := W.2.2.2.2.2.2.2.2.2.2.2.2.2.1
theorem qw_inst (W : QW Z a0) : (Cond.instantiable cName cN).before a0 Z = true := W.2.2.2.2.2.2.2.2.2.2.2.2.2.2.1
theorem qw_init (W : QW Z a0) : (Cond.initialized cName).before a0 Z = true := W.2.2.2.2.2.2.2.2.2.2.2.2.2.2.2.1
theorem qw_arr (W : QW Z a0) : ∀ ty ∈ aTys, (Cond.arrayClass ty).before a0 Z = true := W.2.2.2.2.2.2.2.2.2.2.2.2.2.2.2.2
end Words
/-! ## small laws of lists -/
theorem hget_eq : ∀ (σ : QHeap) k, hget σ k = σ[k]?
  | [], _ => by simp [hget]
  | _ :: _, 0 => by simp [hget]
  | _ :: t, k + 1 => by simp [hget, hget_eq t k]
theorem vget_eq : ∀ (σ : List Value) k, vget σ k = σ[k]?
  | [], _ => by simp [vget]
  | _ :: _, 0 => by simp [vget]
  | _ :: t, k + 1 => by simp [vget, vget_eq t k]
theorem lget_eq : ∀ (L : QLoc) k, lget L k = (L[k]?).getD none
  | [], _ => by simp [lget]
  | _ :: _, 0 => by simp [lget]
  | _ :: t, k + 1 => by simp [lget, lget_eq t k]
theorem lget_lt {L : QLoc} {k : Nat} {v : Value} (h : lget L k = some v) : k < L.length := by
  rw [lget_eq] at h
  rcases Nat.lt_or_ge k L.length with q | q
  · exact q
  · simp [List.getElem?_eq_none q] at h
theorem lget_set {L : QLoc} {k j : Nat} {o : Option Value} (hk : k < L.length) : lget (L.set k o) j = if j = k then o else lget L j := by
  simp only [lget_eq, List.getElem?_set]
  by_cases e : k = j
  · subst e; simp [hk]
  · simp [e, Ne.symm e]
theorem qhs_app (σ τ : QHeap) : qhs (σ ++ τ) = qhs σ + qhs τ := by
  induction σ with
  | nil => simp [qhs]
  | cons c t ih => simp [qhs, ih, Nat.add_assoc]
theorem qhs_set {σ : QHeap} {k : Nat} {c d : QCell} (h : hget σ k = some c) (hs : qsz d = qsz c) : qhs (σ.set k d) = qhs σ := by
  induction σ generalizing k with
  | nil => simp [hget] at h
  | cons x t ih =>
    cases k with
    | zero => simp only [hget, Option.some.injEq] at h; subst h; simp [qhs, hs]
    | succ k => simp only [hget] at h; simp [qhs, ih h]
theorem hget_set {σ : QHeap} {k j : Nat} {c d : QCell} (h : hget σ k = some c) : hget (σ.set k d) j = if j = k then some d else hget σ j := by
  rw [hget_eq] at h
  have hk := (List.getElem?_eq_some_iff.mp h).1
  simp only [hget_eq, List.getElem?_set]
  by_cases e : k = j
  · subst e; simp [hk]
  · simp [e, Ne.symm e]
theorem lkill_len (L : QLoc) (k : Nat) : (lkill L k).length = L.length := by
  cases k with
  | zero => rfl
  | succ k => simp only [lkill]; split <;> simp
theorem lget_kill {L : QLoc} {k j : Nat} {v : Value} (h : lget (lkill L k) j = some v) : lget L j = some v ∧ (k = j + 1 → v.category ≠ 2) := by
  cases k with
  | zero => exact ⟨h, fun e => by omega⟩
  | succ k =>
    simp only [lkill] at h
    split at h
    · rename_i x q
      rw [lget_set (lget_lt q)] at h
      split at h
      · cases h
      · rename_i ne; exact ⟨h, fun e => absurd (by omega) ne⟩
    · rename_i x q
      rw [lget_set (lget_lt q)] at h
      split at h
      · cases h
      · rename_i ne; exact ⟨h, fun e => absurd (by omega) ne⟩
    · rename_i q1 q2
      refine ⟨h, fun e hc => ?_⟩
      obtain rfl : j = k := by omega
      cases v with
      | long x => exact q1 _ h
      | double x => exact q2 _ h
      | _ => simp [Value.category] at hc
theorem qv_cat (ad : Nat → Addr) (v : Value) : (qv ad v).category = v.category := by cases v <;> rfl
/-! ## storing into a local -/
def kA (C : Array Slot) (k j : Nat) : Prop := k = j + 1 ∧ C[k]? = some .second
def kB (C : Array Slot) (k j : Nat) : Prop := j = k + 1 ∧ ∃ u, C[k]? = some (.val u) ∧ u.category = 2
def kD (C : Array Slot) (k j : Nat) : Prop := j = k + 2 ∧ ∃ u, C[k + 1]? = some (.val u) ∧ u.category = 2
theorem set1_at {C D : Array Slot} {k : Nat} {w : Value} (hk : k < C.size) (hw : w.category = 1) (h : storeLocals C k w = some D) :
    D.size = C.size ∧ D[k]? = some (.val w) ∧ ∀ j, j ≠ k → (D[j]? = C[j]? ∧ ¬ kA C k j ∧ ¬ kB C k j) ∨ D[j]? = some .unset ∧ (kA C k j ∨ kB C k j) := by
  have hck : C[k]? = some C[k] := Array.getElem?_eq_getElem hk
  unfold storeLocals at h
  simp only [hck, Option.bind_eq_bind, Option.bind_some] at h
  have self : ∀ {E : Array Slot}, k < E.size → storeSelf E k w = some D → D = E.setIfInBounds k (.val w) := by
    intro E hE q
    simp only [storeSelf, setAt, hE, if_true, Option.bind_eq_bind, Option.bind_some, hw] at q
    simpa using q.symm
  split at h
  · rename_i q
    have hk1 : k - 1 < C.size := by omega
    simp only [setAt, hk1, if_true, Option.bind_some] at h
    have e := self (by simpa using hk) h
    subst e
    refine ⟨by simp, by simp [hk], fun j hj => ?_⟩
    by_cases ej : k = j + 1
    · refine Or.inr ⟨?_, Or.inl ⟨ej, by rw [hck, q]⟩⟩
      rw [Array.getElem?_setIfInBounds_ne (Ne.symm hj), show j = k - 1 by omega]
      simp [hk1]
    · refine Or.inl ⟨?_, fun x => ej x.1, fun x => ?_⟩
      · rw [Array.getElem?_setIfInBounds_ne (Ne.symm hj), Array.getElem?_setIfInBounds_ne (by omega)]
      · obtain ⟨-, u, x1, -⟩ := x
        rw [hck, q] at x1; cases x1
  · rename_i u q
    split at h
    · rename_i hu
      by_cases hk1 : k + 1 < C.size
      · simp only [setAt, hk1, if_true, Option.bind_some] at h
        have e := self (by simpa using hk) h
        subst e
        refine ⟨by simp, by simp [hk], fun j hj => ?_⟩
        by_cases ej : j = k + 1
        · refine Or.inr ⟨?_, Or.inr ⟨ej, u, by rw [hck, q], hu⟩⟩
          rw [Array.getElem?_setIfInBounds_ne (Ne.symm hj), ej]
          simp [hk1]
        · refine Or.inl ⟨?_, fun x => ?_, fun x => ej x.1⟩
          · rw [Array.getElem?_setIfInBounds_ne (Ne.symm hj), Array.getElem?_setIfInBounds_ne (by omega)]
          · obtain ⟨-, x1⟩ := x
            rw [hck, q] at x1; cases x1
      · simp [setAt, hk1] at h
    · rename_i hu
      have e := self hk h
      subst e
      refine ⟨by simp, by simp [hk], fun j hj => Or.inl ⟨Array.getElem?_setIfInBounds_ne (Ne.symm hj), fun x => ?_, fun x => ?_⟩⟩
      · obtain ⟨-, x1⟩ := x
        rw [hck, q] at x1; cases x1
      · obtain ⟨-, u', x1, x2⟩ := x
        rw [hck, q] at x1; cases x1; exact hu x2
  · rename_i q
    have e := self hk h
    subst e
    refine ⟨by simp, by simp [hk], fun j hj => Or.inl ⟨Array.getElem?_setIfInBounds_ne (Ne.symm hj), fun x => ?_, fun x => ?_⟩⟩
    · obtain ⟨-, x1⟩ := x
      rw [hck, q] at x1; cases x1
    · obtain ⟨-, u', x1, x2⟩ := x
      rw [hck, q] at x1; cases x1
theorem set2_at {C D : Array Slot} {k : Nat} {w : Value} (hk : k + 1 < C.size) (hw : w.category = 2) (wf : ∀ k w, C[k]? = some (.val w) → w.category = 2 → C[k + 1]? = some .second) (h : storeLocals C k w = some D) :
    D.size = C.size ∧ D[k]? = some (.val w) ∧ D[k + 1]? = some .second ∧ ∀ j, j ≠ k → j ≠ k + 1 → (D[j]? = C[j]? ∧ ¬ kA C k j ∧ ¬ kD C k j) ∨ D[j]? = some .unset ∧ (kA C k j ∨ kD C k j) := by
  have hk0 : k < C.size := by omega
  have hck : C[k]? = some C[k] := Array.getElem?_eq_getElem hk0
  unfold storeLocals at h
  simp only [hck, Option.bind_eq_bind, Option.bind_some] at h
  have self : ∀ {E : Array Slot}, E.size = C.size → storeSelf E k w = some D → D.size = C.size ∧ D[k]? = some (.val w) ∧ D[k + 1]? = some .second ∧ ∀ j, j ≠ k → j ≠ k + 1 → (D[j]? = E[j]? ∧ ¬ kD E k j) ∨ D[j]? = some .unset ∧ kD E k j := by
    intro E hs q
    have h1 : k < E.size := by omega
    have h2 : k + 1 < E.size := by omega
    have h3 : (E.setIfInBounds k (.val w))[k + 1]? = some E[k + 1] := by rw [Array.getElem?_setIfInBounds_ne (by omega)]; exact Array.getElem?_eq_getElem h2
    simp only [storeSelf, setAt, h1, if_true, Option.bind_eq_bind, Option.bind_some, hw, h3] at q
    have plain : (¬ ∃ u, E[k + 1]? = some (.val u) ∧ u.category = 2) → some ((E.setIfInBounds k (.val w)).setIfInBounds (k + 1) .second) = some D → D.size = C.size ∧ D[k]? = some (.val w) ∧ D[k + 1]? = some .second ∧ ∀ j, j ≠ k → j ≠ k + 1 → (D[j]? = E[j]? ∧ ¬ kD E k j) ∨ D[j]? = some .unset ∧ kD E k j := by
      intro no q
      cases q
      refine ⟨by simp [hs], ?_, ?_, fun j hj hj1 => Or.inl ⟨?_, fun x => no x.2⟩⟩
      · rw [Array.getElem?_setIfInBounds_ne (by omega)]; simp [h1]
      · simp [h2]
      · rw [Array.getElem?_setIfInBounds_ne (by omega), Array.getElem?_setIfInBounds_ne (by omega)]
    split at q
    · rename_i u hu
      split at q
      · rename_i hu2
        by_cases h5 : k + 2 < E.size
        · simp [h5, h2] at q
          cases q
          refine ⟨by simp [hs], ?_, ?_, fun j hj hj1 => ?_⟩
          · rw [Array.getElem?_setIfInBounds_ne (by omega), Array.getElem?_setIfInBounds_ne (by omega)]; simp [h1]
          · simp [h2]
          · by_cases e : j = k + 2
            · refine Or.inr ⟨?_, e, u, by rw [Array.getElem?_eq_getElem h2, hu], hu2⟩
              rw [Array.getElem?_setIfInBounds_ne (by omega), e]
              simp [h5]
            · refine Or.inl ⟨?_, fun x => e x.1⟩
              rw [Array.getElem?_setIfInBounds_ne (by omega), Array.getElem?_setIfInBounds_ne (by omega), Array.getElem?_setIfInBounds_ne (by omega)]
        · simp [h5] at q
      · rename_i hu2
        refine plain ?_ (by simpa [h2] using q)
        rintro ⟨u', x1, x2⟩
        rw [Array.getElem?_eq_getElem h2, hu] at x1; cases x1; exact hu2 x2
    · rename_i hu
      refine plain ?_ (by simpa [h2] using q)
      rintro ⟨u', x1, x2⟩
      rw [Array.getElem?_eq_getElem h2] at x1; exact hu _ (Option.some.inj x1)
  split at h
  · rename_i q
    have hk1 : k - 1 < C.size := by omega
    simp only [setAt, hk1, if_true, Option.bind_some] at h
    obtain ⟨e1, e2, e3, e4⟩ := self (by simp) h
    refine ⟨e1, e2, e3, fun j hj hj1 => ?_⟩
    have h6 : ∀ i, i + 1 ≠ k ∨ k = 0 → i ≠ k ∨ k ≠ 0 → (C.setIfInBounds (k - 1) Slot.unset)[i]? = C[i]? := fun i hi hi2 => Array.getElem?_setIfInBounds_ne (by omega)
    have h7 : (C.setIfInBounds (k - 1) Slot.unset)[k + 1]? = C[k + 1]? := Array.getElem?_setIfInBounds_ne (by omega)
    rcases e4 j hj hj1 with ⟨r, r'⟩ | ⟨r, r1, u, r2, r3⟩
    · by_cases ej : k = j + 1
      · refine Or.inr ⟨?_, Or.inl ⟨ej, by rw [hck, q]⟩⟩
        rw [r, show j = k - 1 by omega]; simp [hk1]
      · refine Or.inl ⟨by rw [r]; exact h6 _ (by omega) (by omega), fun x => ej x.1, fun x => r' ⟨x.1, ?_⟩⟩
        rw [h7]; exact x.2
    · exact Or.inr ⟨r, Or.inr ⟨r1, u, by rw [← h7]; exact r2, r3⟩⟩
  · rename_i u q
    split at h
    · rename_i hu
      simp only [setAt, hk, if_true, Option.bind_some] at h
      obtain ⟨e1, e2, e3, e4⟩ := self (by simp) h
      have hsec := wf k u (by rw [hck, q]) hu
      refine ⟨e1, e2, e3, fun j hj hj1 => ?_⟩
      rcases e4 j hj hj1 with ⟨r, r'⟩ | ⟨r, r1, u', r2, r3⟩
      · refine Or.inl ⟨by rw [r]; exact Array.getElem?_setIfInBounds_ne (by omega), fun x => ?_, fun x => ?_⟩
        · obtain ⟨-, x1⟩ := x
          rw [hck, q] at x1; cases x1
        · obtain ⟨-, u', x1, x2⟩ := x
          rw [hsec] at x1; cases x1
      · simp [hk] at r2
    · rename_i hu
      obtain ⟨e1, e2, e3, e4⟩ := self rfl h
      refine ⟨e1, e2, e3, fun j hj hj1 => ?_⟩
      rcases e4 j hj hj1 with ⟨r, r'⟩ | ⟨r, r'⟩
      · refine Or.inl ⟨r, fun x => ?_, r'⟩
        obtain ⟨-, x1⟩ := x
        rw [hck, q] at x1; cases x1
      · exact Or.inr ⟨r, Or.inr r'⟩
  · rename_i q
    obtain ⟨e1, e2, e3, e4⟩ := self rfl h
    refine ⟨e1, e2, e3, fun j hj hj1 => ?_⟩
    rcases e4 j hj hj1 with ⟨r, r'⟩ | ⟨r, r'⟩
    · refine Or.inl ⟨r, fun x => ?_, r'⟩
      obtain ⟨-, x1⟩ := x
      rw [hck, q] at x1; cases x1
    · exact Or.inr ⟨r, Or.inr r'⟩
/-- a store succeeds: in a well kept array of locals -/
theorem store_some {C : Array Slot} {k : Nat} {w : Value} (hk : k + (w.category - 1) < C.size) (hc : w.category = 1 ∨ w.category = 2) (wf : ∀ k w, C[k]? = some (.val w) → w.category = 2 → C[k + 1]? = some .second) :
    ∃ D, storeLocals C k w = some D := by
  have hk0 : k < C.size := by omega
  have hck : C[k]? = some C[k] := Array.getElem?_eq_getElem hk0
  have self : ∀ {E : Array Slot}, E.size = C.size → (∀ u, E[k + 1]? = some (.val u) → u.category = 2 → k + 2 < E.size) → ∃ D, storeSelf E k w = some D := by
    intro E hs hn
    have h1 : k < E.size := by omega
    simp only [storeSelf, setAt, h1, if_true, Option.bind_eq_bind, Option.bind_some]
    rcases hc with hc | hc
    · exact ⟨E.setIfInBounds k (.val w), by simp [hc]⟩
    · have h2 : k + 1 < E.size := by omega
      have h3 : (E.setIfInBounds k (.val w))[k + 1]? = some E[k + 1] := by rw [Array.getElem?_setIfInBounds_ne (by omega)]; exact Array.getElem?_eq_getElem h2
      simp only [hc, if_true, h3, Option.bind_some]
      split
      · rename_i u hu
        split
        · rename_i hu2
          have h5 := hn u (by rw [Array.getElem?_eq_getElem h2, hu]) hu2
          exact ⟨_, by simp [h5, h2]; rfl⟩
        · exact ⟨_, by simp [h2]; rfl⟩
      · exact ⟨_, by simp [h2]; rfl⟩
  have next : ∀ u, C[k + 1]? = some (.val u) → u.category = 2 → k + 2 < C.size := fun u h1 h2 => (Array.getElem?_eq_some_iff.mp (wf _ _ h1 h2)).1
  unfold storeLocals
  simp only [hck, Option.bind_eq_bind, Option.bind_some]
  split
  · have hk1 : k - 1 < C.size := by omega
    simp only [setAt, hk1, if_true, Option.bind_some]
    refine self (by simp) fun u h1 h2 => ?_
    rw [Array.getElem?_setIfInBounds_ne (by omega)] at h1
    simpa using next u h1 h2
  · rename_i u q
    split
    · rename_i hu
      have h5 := (Array.getElem?_eq_some_iff.mp (wf k u (by rw [hck, q]) hu)).1
      simp only [setAt, h5, if_true, Option.bind_some]
      refine self (by simp) fun u h1 h2 => ?_
      simp [h5] at h1
    · exact self rfl next
  · exact self rfl next
theorem store_ok1 {ad : Nat → Addr} {L : QLoc} {C : Array Slot} {k : Nat} {v : Value} (H : QLocOk ad L C) (hv : v.category = 1) (hk : k < L.length) :
    ∃ D, storeLocals C k (qv ad v) = some D ∧ QLocOk ad ((lkill L k).set k (some v)) D ∧ D.size = C.size := by
  obtain ⟨H1, H2, H3, H4⟩ := H
  have hc : (qv ad v).category = 1 := by rw [qv_cat, hv]
  obtain ⟨D, hD⟩ := store_some (C := C) (k := k) (w := qv ad v) (by rw [hc]; omega) (Or.inl hc) H3
  obtain ⟨d1, d2, d3⟩ := set1_at (by omega) hc hD
  refine ⟨D, hD, ⟨by simp [lkill_len, H1, d1], fun j u hj => ?_, fun j w hj hw => ?_, fun j hj => ?_⟩, d1⟩
  · rw [lget_set (by rw [lkill_len]; exact hk)] at hj
    split at hj
    · rename_i e; cases hj; rw [e]; exact d2
    · rename_i ne
      obtain ⟨g1, g2⟩ := lget_kill hj
      have g3 := H2 j u g1
      rcases d3 j ne with ⟨r, -, -⟩ | ⟨-, ⟨r1, r2⟩ | ⟨r1, w, r2, r3⟩⟩
      · rw [r]; exact g3
      · obtain ⟨i, w, z1, z2, z3⟩ := H4 k r2
        obtain rfl : i = j := by omega
        rw [g3] at z2
        cases z2
        rw [qv_cat] at z3
        exact absurd z3 (g2 r1)
      · have := H3 k w r2 r3
        rw [← r1, g3] at this
        cases this
  · by_cases e : j = k
    · subst e; rw [d2] at hj; cases hj; rw [hc] at hw; cases hw
    · rcases d3 j e with ⟨r, nA, nB⟩ | ⟨r, -⟩
      · rw [r] at hj
        have g := H3 j w hj hw
        have e2 : j + 1 ≠ k := fun q => nA ⟨q.symm, by rw [← q]; exact g⟩
        rcases d3 (j + 1) e2 with ⟨z, -, -⟩ | ⟨-, ⟨z1, z2⟩ | ⟨z1, -⟩⟩
        · rw [z]; exact g
        · obtain ⟨i, u, y1, y2, y3⟩ := H4 k z2
          obtain rfl : i = j + 1 := by omega
          rw [g] at y2; cases y2
        · omega
      · rw [r] at hj; cases hj
  · by_cases e : j = k
    · subst e; rw [d2] at hj; cases hj
    · rcases d3 j e with ⟨r, nA, nB⟩ | ⟨r, -⟩
      · rw [r] at hj
        obtain ⟨i, w, y1, y2, y3⟩ := H4 j hj
        refine ⟨i, w, y1, ?_, y3⟩
        have ei : i ≠ k := fun q => nB ⟨by omega, w, by rw [← q]; exact y2, y3⟩
        rcases d3 i ei with ⟨z, -, -⟩ | ⟨-, ⟨z1, z2⟩ | ⟨z1, u, z2, z3⟩⟩
        · rw [z]; exact y2
        · omega
        · have := H3 k u z2 z3
          rw [← z1, y2] at this; cases this
      · rw [r] at hj; cases hj
theorem store_ok2 {ad : Nat → Addr} {L : QLoc} {C : Array Slot} {k : Nat} {x : Int64} (H : QLocOk ad L C) (hk : k + 1 < L.length) :
    ∃ D, storeLocals C k (.long x) = some D ∧ QLocOk ad (((lkill L k).set k (some (.long x))).set (k + 1) none) D ∧ D.size = C.size := by
  obtain ⟨H1, H2, H3, H4⟩ := H
  have hc : (Value.long x).category = 2 := rfl
  obtain ⟨D, hD⟩ := store_some (C := C) (k := k) (w := .long x) (by rw [hc]; omega) (Or.inr hc) H3
  obtain ⟨d1, d2, d2', d3⟩ := set2_at (by omega) hc H3 hD
  refine ⟨D, hD, ⟨by simp [lkill_len, H1, d1], fun j u hj => ?_, fun j w hj hw => ?_, fun j hj => ?_⟩, d1⟩
  · rw [lget_set (by simp [lkill_len]; exact hk)] at hj
    split at hj
    · cases hj
    · rename_i ne1
      rw [lget_set (by rw [lkill_len]; omega)] at hj
      split at hj
      · rename_i e; cases hj; rw [e]; exact d2
      · rename_i ne
        obtain ⟨g1, g2⟩ := lget_kill hj
        have g3 := H2 j u g1
        rcases d3 j ne ne1 with ⟨r, -, -⟩ | ⟨-, ⟨r1, r2⟩ | ⟨r1, w, r2, r3⟩⟩
        · rw [r]; exact g3
        · obtain ⟨i, w, z1, z2, z3⟩ := H4 k r2
          obtain rfl : i = j := by omega
          rw [g3] at z2
          cases z2
          rw [qv_cat] at z3
          exact absurd z3 (g2 r1)
        · have := H3 (k + 1) w r2 r3
          rw [show k + 1 + 1 = j by omega, g3] at this
          cases this
  · by_cases e : j = k
    · rw [e]; exact d2'
    · by_cases e1 : j = k + 1
      · rw [e1, d2'] at hj; cases hj
      · rcases d3 j e e1 with ⟨r, nA, nB⟩ | ⟨r, -⟩
        · rw [r] at hj
          have g := H3 j w hj hw
          have e2 : j + 1 ≠ k := fun q => nA ⟨q.symm, by rw [← q]; exact g⟩
          rcases d3 (j + 1) e2 (by omega) with ⟨z, -, -⟩ | ⟨-, ⟨z1, z2⟩ | ⟨z1, -⟩⟩
          · rw [z]; exact g
          · obtain ⟨i, u, y1, y2, y3⟩ := H4 k z2
            obtain rfl : i = j + 1 := by omega
            rw [g] at y2; cases y2
          · omega
        · rw [r] at hj; cases hj
  · by_cases e : j = k
    · rw [e, d2] at hj; cases hj
    · by_cases e1 : j = k + 1
      · exact ⟨k, _, e1, d2, hc⟩
      · rcases d3 j e e1 with ⟨r, nA, nB⟩ | ⟨r, -⟩
        · rw [r] at hj
          obtain ⟨i, w, y1, y2, y3⟩ := H4 j hj
          refine ⟨i, w, y1, ?_, y3⟩
          have ei : i ≠ k := fun q => e1 (by omega)
          have ei1 : i ≠ k + 1 := fun q => nB ⟨by omega, w, by rw [← q]; exact y2, y3⟩
          rcases d3 i ei ei1 with ⟨z, -, -⟩ | ⟨-, ⟨z1, z2⟩ | ⟨z1, u, z2, z3⟩⟩
          · rw [z]; exact y2
          · omega
          · have := H3 (k + 1) u z2 z3
            rw [show k + 1 + 1 = i by omega, y2] at this; cases this
        · rw [r] at hj; cases hj
theorem store_ok {ad : Nat → Addr} {L L' : QLoc} {C : Array Slot} {k : Nat} {v : Value} (H : QLocOk ad L C) (h : lput L k v = some L') :
    ∃ D, storeLocals C k (qv ad v) = some D ∧ QLocOk ad L' D ∧ D.size = C.size := by
  have one : v.category = 1 → (bif Nat.ble (k + 1) L.length then some ((lkill L k).set k (some v)) else none) = some L' → ∃ D, storeLocals C k (qv ad v) = some D ∧ QLocOk ad L' D ∧ D.size = C.size := by
    intro hv h
    cases hb : Nat.ble (k + 1) L.length with
    | false => rw [hb] at h; cases h
    | true => rw [hb] at h; cases h; exact store_ok1 H hv (Nat.le_of_ble_eq_true hb)
  cases v with
  | long x =>
    simp only [lput] at h
    cases hb : Nat.ble (k + 2) L.length with
    | false => rw [hb] at h; cases h
    | true => rw [hb] at h; cases h; exact store_ok2 H (Nat.le_of_ble_eq_true hb)
  | double x => simp [lput] at h
  | int x => exact one rfl h
  | float x => exact one rfl h
  | null => exact one rfl h
  | ref x => exact one rfl h
  | retAddr x => exact one rfl h
/-! ## facts of the tables, by evaluation -/
theorem fInj : ∀ i, i < nF → ∀ j, j < nF → fNm i = fNm j → i = j := by decide +kernel
theorem fPrs : ∀ i, i < nF → parseFieldDescriptor (fDs i) = some (fTy i) := by decide +kernel
theorem cDefs : ∀ i, i < nF → vget cDef i = some (defaultValue (fTy i)) := by decide +kernel
theorem cDefL : cDef.length = nF := by decide +kernel
theorem fDef : ∀ i, i < nF → ∀ a, defaultValue (fTy i) ≠ .ref a := by
  intro i _ a
  cases fTy i <;> simp [defaultValue]
theorem kPlain : ∀ k, k < 2 → plainName (kName k) = true := by
  intro k hk
  rcases k with _ | _ | k
  · first | decide +kernel | (simp [kName, plainName, overriddenIn]; done)
  · first | decide +kernel | (simp [kName, plainName, overriddenIn]; done)
  · omega
theorem pKlt : ∀ m, m < pN → pK m < 2 := by decide +kernel
theorem pSig : ∀ m, m < pN → (parseMethodDescriptor (pDs m)).map (fun sg => sg.parameters.length) = some (pNA m) := by decide +kernel
theorem pOwn : ∀ k, k < 2 → kName k ≠ "java/lang/invoke/MethodHandle" ∧ kName k ≠ "java/lang/invoke/VarHandle" := by decide +kernel
theorem mAlt : ∀ m ∈ mA, m < pN := by decide +kernel
theorem mVlt : ∀ m ∈ mV, m ∈ mA ∧ pK m = 1 := by decide +kernel
theorem mPlt : ∀ m ∈ mP, m ∈ mA ∧ pK m = 1 := by decide +kernel
theorem mSlt : ∀ m ∈ mS, m ∈ mA := by decide +kernel
theorem mIlt : ∀ m ∈ mI, m ∈ mA ∧ pK m = 1 ∧ pNm m = "<init>" ∧ pRet m = none := by decide +kernel
theorem kOne : kName 1 = cName := rfl
set_option maxRecDepth 100000 in
theorem pChk0 : ∀ m, m < pN → ∀ pc, pc < pTop → (match pCode m pc with | some t => qchk m pc t.1 t.2 | none => true) = true := by decide +kernel
theorem pIn {m pc : Nat} {t : Instr × Nat} (h : pCode m pc = some t) : m < pN ∧ pc < pTop := by
  unfold pCode at h
  cases h1 : Nat.ble pN m with
  | true => rw [h1] at h; cases h
  | false =>
    cases h2 : Nat.ble pTop pc with
    | true => rw [h1, h2] at h; cases h
    | false => exact ⟨Nat.lt_of_not_le (fun q => by rw [Nat.ble_eq_true_of_le q] at h1; cases h1), Nat.lt_of_not_le (fun q => by rw [Nat.ble_eq_true_of_le q] at h2; cases h2)⟩
theorem pChk {m pc : Nat} {i : Instr} {aux : Nat} (h : pCode m pc = some (i, aux)) : qchk m pc i aux = true := by
  have q := pChk0 m (pIn h).1 pc (pIn h).2
  rw [h] at q
  exact q
theorem pDec {m pc : Nat} {i : Instr} {aux : Nat} (h : pCode m pc = some (i, aux)) : decode (pBytes m) pc = .ok (i, ilen i) := by
  have q := pChk h
  unfold qchk at q
  exact of_decide_eq_true (Bool.and_eq_true_iff.mp q).1
theorem pDecN {m pc n : Nat} {i : Instr} {aux : Nat} (h : pCode m pc = some (i, aux)) (hn : ilen i = n) : decode (pBytes m) pc = .ok (i, n) := by
  rw [← hn]; exact pDec h
theorem pRest {m pc : Nat} {i : Instr} {aux : Nat} (h : pCode m pc = some (i, aux)) : qlk m pc i aux = true := by
  have q := pChk h
  unfold qchk at q
  exact (Bool.and_eq_true_iff.mp q).2
theorem qtgt_spec {pc : Nat} {o : Int} {aux : Nat} (h : qtgt pc o aux = true) : 0 ≤ (pc : Int) + o ∧ ((pc : Int) + o).toNat = aux := by
  unfold qtgt at h
  have h2 := Bool.and_eq_true_iff.mp h
  exact ⟨of_decide_eq_true h2.1, of_decide_eq_true h2.2⟩
/-! ## triples -/
def QCx (Z : State) (p : Program) (R : Room) (s : State) (mid : MethodId) (meth : Method) (c : Code) (m : Nat) : Prop :=
  p.tables.exec = Jvm.exec ∧ Z.Warmed39 s.vm ∧ c.code = pBytes m ∧ c.maxLocals = pMaxL m ∧ meth.sig.returnType = pRet m ∧ s.vm.findClass (kName (pK m)) = some mid.cls ∧ meth.name = pNm m ∧ pFr m ≤ R.frames ∧ pLo m ≤ R.locals
def QTri (l : Launch) (Z : State) (n0 : Nat) (ad : Nat → Addr) (m : Nat) (st : QSt) (v : Option Value) (σ' : QHeap) : Prop :=
  st.2.2.2.length ≤ σ'.length ∧ qhs st.2.2.2 ≤ qhs σ' ∧
  ∀ (p : Program) (e : Env) (R : Room) (s : State) (mid : MethodId) (args : Array Value) (below : List Frame) (meth : Method) (c : Code) (T : State) (locs : List Loc) (cells slots : Nat) (C : Array Slot),
    QCx Z p R s mid meth c m → Stand p l e R s mid args below meth c T locs cells slots → QRep Z n0 ad T.heap st.2.2.2 → Fr n0 locs → QLocOk ad st.2.1 C → C.size = c.maxLocals →
    n0 + (st.2.2.2.length - k0) = s.heap.size + cells → cells + (σ'.length - st.2.2.2.length) ≤ R.cells → slots + (qhs σ' - qhs st.2.2.2) ≤ R.slots →
    ∃ T' locs', Stand p l e R s mid args below meth c T' locs' (cells + (σ'.length - st.2.2.2.length)) (slots + (qhs σ' - qhs st.2.2.2)) ∧ QRep Z n0 ad T'.heap σ' ∧ Fr n0 locs' ∧
      ∀ fs, (∀ (f : JFrame) (acts : List Action), f.method = mid → f.locked = none → f.entered = [] → (doReturn e (T'.setTop f) acts (v.map (qv ad))).1 = T'.setFrames fs) →
        Steps p.tables e below (T.setTop (mkF mid st.1 C (st.2.2.1.map (qv ad)))) (T'.setFrames fs)
section Triples
variable {l : Launch} {Z : State} {n0 : Nat} {ad : Nat → Addr} {a0 : Array Value} {m : Nat} {v : Option Value} {σ' : QHeap}
theorem QTri.gen {st st' : QSt} (h : QTri l Z n0 ad m st' v σ') (g1 : st.2.2.2.length ≤ st'.2.2.2.length) (g2 : qhs st.2.2.2 ≤ qhs st'.2.2.2)
    (hs : ∀ (p : Program) (e : Env) (R : Room) (s : State) (mid : MethodId) (args : Array Value) (below : List Frame) (meth : Method) (c : Code) (T : State) (locs : List Loc) (cells slots : Nat) (C : Array Slot),
      QCx Z p R s mid meth c m → Stand p l e R s mid args below meth c T locs cells slots → QRep Z n0 ad T.heap st.2.2.2 → Fr n0 locs → QLocOk ad st.2.1 C → C.size = c.maxLocals →
      n0 + (st.2.2.2.length - k0) = s.heap.size + cells → cells + (st'.2.2.2.length - st.2.2.2.length) ≤ R.cells → slots + (qhs st'.2.2.2 - qhs st.2.2.2) ≤ R.slots →
      ∃ T₁ locs₁ C₁, Stand p l e R s mid args below meth c T₁ locs₁ (cells + (st'.2.2.2.length - st.2.2.2.length)) (slots + (qhs st'.2.2.2 - qhs st.2.2.2)) ∧ QRep Z n0 ad T₁.heap st'.2.2.2 ∧ Fr n0 locs₁ ∧ QLocOk ad st'.2.1 C₁ ∧ C₁.size = c.maxLocals ∧
        ∀ target, Steps p.tables e below (T₁.setTop (mkF mid st'.1 C₁ (st'.2.2.1.map (qv ad)))) target → Steps p.tables e below (T.setTop (mkF mid st.1 C (st.2.2.1.map (qv ad)))) target) :
    QTri l Z n0 ad m st v σ' := by
  obtain ⟨h1, h2, h3⟩ := h
  refine ⟨Nat.le_trans g1 h1, Nat.le_trans g2 h2, fun p e R s mid args below meth c T locs cells slots C hcx X hR hF hL hC hn hc hsl => ?_⟩
  obtain ⟨T₁, locs₁, C₁, X₁, R₁, F₁, L₁, C1, S₁⟩ := hs p e R s mid args below meth c T locs cells slots C hcx X hR hF hL hC hn (by omega) (by omega)
  have hk := hR.1
  obtain ⟨T', locs', X', R', F', S'⟩ := h3 p e R s mid args below meth c T₁ locs₁ _ _ C₁ hcx X₁ R₁ F₁ L₁ C1 (by omega) (by omega) (by omega)
  have e1 : cells + (st'.2.2.2.length - st.2.2.2.length) + (σ'.length - st'.2.2.2.length) = cells + (σ'.length - st.2.2.2.length) := by omega
  have e2 : slots + (qhs st'.2.2.2 - qhs st.2.2.2) + (qhs σ' - qhs st'.2.2.2) = slots + (qhs σ' - qhs st.2.2.2) := by omega
  rw [e1, e2] at X'
  exact ⟨T', locs', X', R', F', fun fs hf => S₁ _ (S' fs hf)⟩
theorem QTri.pure {st st' : QSt} (h : QTri l Z n0 ad m st' v σ') (hσ : st'.2.2.2 = st.2.2.2)
    (hs : ∀ (p : Program) (e : Env) (R : Room) (s : State) (mid : MethodId) (args : Array Value) (below : List Frame) (meth : Method) (c : Code) (T : State) (locs : List Loc) (cells slots : Nat) (C : Array Slot),
      QCx Z p R s mid meth c m → Stand p l e R s mid args below meth c T locs cells slots → QRep Z n0 ad T.heap st.2.2.2 → QLocOk ad st.2.1 C → C.size = c.maxLocals →
      ∃ T₁ C₁, Stand p l e R s mid args below meth c T₁ locs cells slots ∧ T₁.heap = T.heap ∧ QLocOk ad st'.2.1 C₁ ∧ C₁.size = c.maxLocals ∧
        ∀ target, Steps p.tables e below (T₁.setTop (mkF mid st'.1 C₁ (st'.2.2.1.map (qv ad)))) target → Steps p.tables e below (T.setTop (mkF mid st.1 C (st.2.2.1.map (qv ad)))) target) :
    QTri l Z n0 ad m st v σ' := by
  refine QTri.gen h (by rw [hσ]; exact Nat.le_refl _) (by rw [hσ]; exact Nat.le_refl _) fun p e R s mid args below meth c T locs cells slots C hcx X hR hF hL hC hn hc hsl => ?_
  obtain ⟨T₁, C₁, X₁, hh, L₁, C1, S₁⟩ := hs p e R s mid args below meth c T locs cells slots C hcx X hR hL hC
  refine ⟨T₁, locs, C₁, ?_, by rw [hσ, hh]; exact hR, hF, L₁, C1, S₁⟩
  rw [hσ, Nat.sub_self, Nat.sub_self]
  exact X₁
/-- a step of the frame alone -/
theorem QTri.frame {pc pc' : Nat} {L L' : QLoc} {S S' : List Value} {σ : QHeap} (h : QTri l Z n0 ad m (pc', L', S', σ) v σ')
    (hs : ∀ (p : Program) (e : Env) (R : Room) (s : State) (mid : MethodId) (args : Array Value) (below : List Frame) (meth : Method) (c : Code) (T : State) (locs : List Loc) (cells slots : Nat) (C : Array Slot),
      QCx Z p R s mid meth c m → Stand p l e R s mid args below meth c T locs cells slots → QRep Z n0 ad T.heap σ → QLocOk ad L C → C.size = c.maxLocals →
      ∃ C₁, QLocOk ad L' C₁ ∧ C₁.size = c.maxLocals ∧ ∀ target, Steps p.tables e below (T.setTop (mkF mid pc' C₁ (S'.map (qv ad)))) target → Steps p.tables e below (T.setTop (mkF mid pc C (S.map (qv ad)))) target) :
    QTri l Z n0 ad m (pc, L, S, σ) v σ' :=
  QTri.pure h rfl fun p e R s mid args below meth c T locs cells slots C hcx X hR hL hC => by
    obtain ⟨C₁, h1, h2, h3⟩ := hs p e R s mid args below meth c T locs cells slots C hcx X hR hL hC
    exact ⟨T, C₁, X, rfl, h1, h2, h3⟩
/-- a step of pc and stack alone -/
theorem QTri.stack {pc pc' : Nat} {L : QLoc} {S S' : List Value} {σ : QHeap} (h : QTri l Z n0 ad m (pc', L, S', σ) v σ')
    (hs : ∀ (p : Program) (e : Env) (R : Room) (s : State) (mid : MethodId) (args : Array Value) (below : List Frame) (meth : Method) (c : Code) (T : State) (locs : List Loc) (cells slots : Nat) (C : Array Slot) (target : State),
      p.tables.exec = Jvm.exec → Z.Warmed39 s.vm → c.code = pBytes m → s.vm.findClass (kName (pK m)) = some mid.cls → Stand p l e R s mid args below meth c T locs cells slots → QRep Z n0 ad T.heap σ → QLocOk ad L C →
      Steps p.tables e below (T.setTop (mkF mid pc' C (S'.map (qv ad)))) target → Steps p.tables e below (T.setTop (mkF mid pc C (S.map (qv ad)))) target) :
    QTri l Z n0 ad m (pc, L, S, σ) v σ' :=
  QTri.frame h fun p e R s mid args below meth c T locs cells slots C hcx X hR hL hC => ⟨C, hL, hC, fun target k => hs p e R s mid args below meth c T locs cells slots C target hcx.1 hcx.2.1 hcx.2.2.1 hcx.2.2.2.2.2.1 X hR hL k⟩
/-! ### what each helper says -/
theorem qload_inv {pc : Nat} {L : QLoc} {S : List Value} {σ : QHeap} {k : Nat} {ok : Value → Bool} {st' : QSt} (h : qload pc L S σ k ok = some st') : ∃ v, lget L k = some v ∧ ok v = true ∧ st' = (pc, L, v :: S, σ) := by
  unfold qload at h
  split at h
  · rename_i v hv
    cases ho : ok v with
    | true => rw [ho] at h; cases h; exact ⟨v, hv, ho, rfl⟩
    | false => rw [ho] at h; cases h
  · cases h
theorem qstore_inv {pc : Nat} {L : QLoc} {S : List Value} {σ : QHeap} {k : Nat} {ok : Value → Bool} {st' : QSt} (h : qstore pc L S σ k ok = some st') : ∃ v S' L', S = v :: S' ∧ ok v = true ∧ lput L k v = some L' ∧ st' = (pc, L', S', σ) := by
  unfold qstore at h
  split at h
  · rename_i v S'
    cases ho : ok v with
    | true =>
      rw [ho] at h
      simp only [cond_true] at h
      split at h
      · rename_i L' hL'
        cases h; exact ⟨v, S', L', rfl, ho, hL', rfl⟩
      · cases h
    | false => rw [ho] at h; cases h
  · cases h
theorem qbin_inv {pc : Nat} {L : QLoc} {S : List Value} {σ : QHeap} {f : Int32 → Int32 → Int32} {st' : QSt} (h : qbin pc L S σ f = some st') : ∃ x y S', S = .int y :: .int x :: S' ∧ st' = (pc, L, .int (f x y) :: S', σ) := by
  unfold qbin at h
  split at h
  · cases h; exact ⟨_, _, _, rfl, rfl⟩
  · cases h
theorem qbino_inv {pc : Nat} {L : QLoc} {S : List Value} {σ : QHeap} {f : Int32 → Int32 → Option Int32} {st' : QSt} (h : qbino pc L S σ f = some st') : ∃ x y z S', S = .int y :: .int x :: S' ∧ f x y = some z ∧ st' = (pc, L, .int z :: S', σ) := by
  unfold qbino at h
  split at h
  · obtain ⟨z, hz, h⟩ := Option.bind_eq_some_iff.mp h
    cases h; exact ⟨_, _, _, _, rfl, hz, rfl⟩
  · cases h
theorem qbinJ_inv {pc : Nat} {L : QLoc} {S : List Value} {σ : QHeap} {f : Int64 → Int64 → Int64} {st' : QSt} (h : qbinJ pc L S σ f = some st') : ∃ x y S', S = .long y :: .long x :: S' ∧ st' = (pc, L, .long (f x y) :: S', σ) := by
  unfold qbinJ at h
  split at h
  · cases h; exact ⟨_, _, _, rfl, rfl⟩
  · cases h
theorem qshJ_inv {pc : Nat} {L : QLoc} {S : List Value} {σ : QHeap} {f : Int64 → Int32 → Int64} {st' : QSt} (h : qshJ pc L S σ f = some st') : ∃ x y S', S = .int y :: .long x :: S' ∧ st' = (pc, L, .long (f x y) :: S', σ) := by
  unfold qshJ at h
  split at h
  · cases h; exact ⟨_, _, _, rfl, rfl⟩
  · cases h
theorem quni_inv {pc : Nat} {L : QLoc} {S : List Value} {σ : QHeap} {f : Int32 → Value} {st' : QSt} (h : quni pc L S σ f = some st') : ∃ x S', S = .int x :: S' ∧ st' = (pc, L, f x :: S', σ) := by
  unfold quni at h
  split at h
  · cases h; exact ⟨_, _, rfl, rfl⟩
  · cases h
theorem quniJ_inv {pc : Nat} {L : QLoc} {S : List Value} {σ : QHeap} {f : Int64 → Value} {st' : QSt} (h : quniJ pc L S σ f = some st') : ∃ x S', S = .long x :: S' ∧ st' = (pc, L, f x :: S', σ) := by
  unfold quniJ at h
  split at h
  · cases h; exact ⟨_, _, rfl, rfl⟩
  · cases h
theorem qif_inv {pc : Nat} {L : QLoc} {S : List Value} {σ : QHeap} {cd : ClassFile.Cond} {t : Nat} {st' : QSt} (h : qif pc L S σ cd t = some st') : ∃ x S', S = .int x :: S' ∧ st' = (bif ifCond.holds cd x then t else pc, L, S', σ) := by
  unfold qif at h
  split at h
  · cases h; exact ⟨_, _, rfl, rfl⟩
  · cases h
theorem qicmp_inv {pc : Nat} {L : QLoc} {S : List Value} {σ : QHeap} {cd : ClassFile.Cond} {t : Nat} {st' : QSt} (h : qicmp pc L S σ cd t = some st') : ∃ x y S', S = .int y :: .int x :: S' ∧ st' = (bif if_icmp.holds cd x y then t else pc, L, S', σ) := by
  unfold qicmp at h
  split at h
  · cases h; exact ⟨_, _, _, rfl, rfl⟩
  · cases h
theorem qget_inv {pc : Nat} {L : QLoc} {S : List Value} {σ : QHeap} {k : Nat} {st' : QSt} (h : qget pc L S σ k = some st') : ∃ a S' vs v, S = .ref a :: S' ∧ hget σ a = some (.inl vs) ∧ vget vs k = some v ∧ st' = (pc, L, v :: S', σ) := by
  unfold qget at h
  split at h
  · split at h
    · split at h
      · cases h; exact ⟨_, _, _, _, rfl, by assumption, by assumption, rfl⟩
      · cases h
    · cases h
  · cases h
theorem qput_inv {pc : Nat} {L : QLoc} {S : List Value} {σ : QHeap} {k : Nat} {st' : QSt} (h : qput pc L S σ k = some st') : ∃ v a S' vs w, S = v :: .ref a :: S' ∧ hget σ a = some (.inl vs) ∧ k0 ≤ a ∧ k < vs.length ∧ qfit (fTy k) v = some w ∧ st' = (pc, L, S', σ.set a (.inl (vs.set k w))) := by
  unfold qput at h
  split at h
  · rename_i v a S'
    split at h
    · rename_i vs hvs
      cases hbb : (Nat.ble k0 a && Nat.ble (k + 1) vs.length) with
      | false => rw [hbb] at h; cases h
      | true =>
        rw [hbb] at h
        simp only [cond_true] at h
        obtain ⟨u, hu, h⟩ := Option.bind_eq_some_iff.mp h
        cases h
        obtain ⟨b1, b2⟩ := Bool.and_eq_true_iff.mp hbb
        exact ⟨v, a, S', vs, u, rfl, hvs, Nat.le_of_ble_eq_true b1, Nat.le_of_ble_eq_true b2, hu, rfl⟩
    · cases h
  · cases h
theorem qald_inv {pc : Nat} {L : QLoc} {S : List Value} {σ : QHeap} {ok : FieldType → Bool} {st' : QSt} (h : qald pc L S σ ok = some st') : ∃ j a S' ty xs v, S = .int j :: .ref a :: S' ∧ hget σ a = some (.inr (.inl (ty, xs))) ∧ ok ty = true ∧ aget xs j = some v ∧ st' = (pc, L, .int v :: S', σ) := by
  unfold qald at h
  split at h
  · rename_i j a S'
    split at h
    · rename_i x hx
      cases ht : ok x.1 with
      | false => rw [ht] at h; cases h
      | true =>
        rw [ht] at h
        simp only [cond_true] at h
        obtain ⟨u, hu, h⟩ := Option.bind_eq_some_iff.mp h
        cases h
        exact ⟨j, a, S', x.1, x.2, u, rfl, hx, ht, hu, rfl⟩
    · cases h
  · cases h
theorem qaldJ_inv {pc : Nat} {L : QLoc} {S : List Value} {σ : QHeap} {st' : QSt} (h : qaldJ pc L S σ = some st') : ∃ j a S' xs v, S = .int j :: .ref a :: S' ∧ hget σ a = some (.inr (.inr xs)) ∧ aget xs j = some v ∧ st' = (pc, L, .long v :: S', σ) := by
  unfold qaldJ at h
  split at h
  · rename_i j a S'
    split at h
    · rename_i x hx
      obtain ⟨u, hu, h⟩ := Option.bind_eq_some_iff.mp h
      cases h
      exact ⟨j, a, S', x, u, rfl, hx, hu, rfl⟩
    · cases h
  · cases h
theorem qast_inv {pc : Nat} {L : QLoc} {S : List Value} {σ : QHeap} {ok : FieldType → Bool} {st' : QSt} (h : qast pc L S σ ok = some st') : ∃ v j a S' ty xs ys, S = .int v :: .int j :: .ref a :: S' ∧ hget σ a = some (.inr (.inl (ty, xs))) ∧ ok ty = true ∧ k0 ≤ a ∧ aset xs j (qnar ty v) = some ys ∧ st' = (pc, L, S', σ.set a (.inr (.inl (ty, ys)))) := by
  unfold qast at h
  split at h
  · rename_i v j a S'
    split at h
    · rename_i x hx
      cases ht : (ok x.1 && Nat.ble k0 a) with
      | false => rw [ht] at h; cases h
      | true =>
        rw [ht] at h
        simp only [cond_true] at h
        obtain ⟨u, hu, h⟩ := Option.bind_eq_some_iff.mp h
        cases h
        obtain ⟨b1, b2⟩ := Bool.and_eq_true_iff.mp ht
        exact ⟨v, j, a, S', x.1, x.2, u, rfl, hx, b1, Nat.le_of_ble_eq_true b2, hu, rfl⟩
    · cases h
  · cases h
theorem qastJ_inv {pc : Nat} {L : QLoc} {S : List Value} {σ : QHeap} {st' : QSt} (h : qastJ pc L S σ = some st') : ∃ v j a S' xs ys, S = .long v :: .int j :: .ref a :: S' ∧ hget σ a = some (.inr (.inr xs)) ∧ k0 ≤ a ∧ aset xs j v = some ys ∧ st' = (pc, L, S', σ.set a (.inr (.inr ys))) := by
  unfold qastJ at h
  split at h
  · rename_i v j a S'
    split at h
    · rename_i x hx
      cases ht : (Nat.ble k0 a) with
      | false => rw [ht] at h; cases h
      | true =>
        rw [ht] at h
        simp only [cond_true] at h
        obtain ⟨u, hu, h⟩ := Option.bind_eq_some_iff.mp h
        cases h
        exact ⟨v, j, a, S', x, u, rfl, hx, Nat.le_of_ble_eq_true ht, hu, rfl⟩
    · cases h
  · cases h
theorem qlen_inv {pc : Nat} {L : QLoc} {S : List Value} {σ : QHeap} {st' : QSt} (h : qlen pc L S σ = some st') : ∃ a S' n, S = .ref a :: S' ∧ ((∃ ty xs, hget σ a = some (.inr (.inl (ty, xs))) ∧ n = xs.length) ∨ ∃ xs, hget σ a = some (.inr (.inr xs)) ∧ n = xs.length) ∧ st' = (pc, L, .int n.toInt32 :: S', σ) := by
  unfold qlen at h
  split at h
  · rename_i a S'
    split at h
    · rename_i x hx
      cases h; exact ⟨a, S', _, rfl, Or.inl ⟨x.1, x.2, hx, rfl⟩, rfl⟩
    · rename_i x hx
      cases h; exact ⟨a, S', _, rfl, Or.inr ⟨x, hx, rfl⟩, rfl⟩
    · cases h
  · cases h
theorem isI_inv {v : Value} (h : isI v = true) : ∃ x, v = .int x := by cases v <;> simp [isI] at h; exact ⟨_, rfl⟩
theorem isJ_inv {v : Value} (h : isJ v = true) : ∃ x, v = .long x := by cases v <;> simp [isJ] at h; exact ⟨_, rfl⟩
theorem isR_inv {v : Value} (h : isR v = true) : ∃ x, v = .ref x := by cases v <;> simp [isR] at h; exact ⟨_, rfl⟩
theorem aget_inv {α : Type} {xs : List α} {j : Int32} {x : α} (h : aget xs j = some x) : ¬ j < 0 ∧ xs[j.toNatClampNeg]? = some x := by
  unfold aget at h
  split at h
  · cases h
  · rename_i q; exact ⟨q, h⟩
theorem aset_inv {α : Type} {xs ys : List α} {j : Int32} {x : α} (h : aset xs j x = some ys) : ¬ j < 0 ∧ j.toNatClampNeg < xs.length ∧ ys = xs.set j.toNatClampNeg x := by
  unfold aset at h
  split at h
  · cases h
  · rename_i q
    split at h
    · rename_i q2; cases h; exact ⟨q, q2, rfl⟩
    · cases h
theorem qnew_inv {n : Int32} {k : Nat} (h : qnew n = some k) : ¬ n < 0 ∧ n.toNatClampNeg = k ∧ k ≤ 67108864 := by
  unfold qnew at h
  split at h
  · cases h
  · rename_i q
    split at h
    · rename_i q2; cases h; exact ⟨q, rfl, q2⟩
    · cases h
/-! ### the heap's facts over a step -/
theorem QCellOk.other {h h' : Heap} {a b : Addr} {sl : Nat} {w : Value} {c : QCell} (H : QCellOk Z ad h b c) (W : Wr h h' a sl w) (ne : b ≠ a) : QCellOk Z ad h' b c := by
  rcases c with vs | ⟨ty, xs⟩ | xs
  · obtain ⟨h1, h2, h3⟩ := H
    exact ⟨h1.wr W, h2, fun k u hk hu => (h3 k u hk hu).other W (Or.inl ne)⟩
  · obtain ⟨c, h1, h2⟩ := H
    exact ⟨c, h1.other W ne, h2⟩
  · obtain ⟨c, h1, h2⟩ := H
    exact ⟨c, h1.other W ne, h2⟩
theorem QCellOk.ext {h h' : Heap} {b : Addr} {c : QCell} (H : QCellOk Z ad h b c) (E : Ext h h') : QCellOk Z ad h' b c := by
  rcases c with vs | ⟨ty, xs⟩ | xs
  · obtain ⟨h1, h2, h3⟩ := H
    exact ⟨h1.ext E, h2, fun k u hk hu => (h3 k u hk hu).ext E⟩
  · obtain ⟨c, h1, h2⟩ := H
    exact ⟨c, h1.ext E, h2⟩
  · obtain ⟨c, h1, h2⟩ := H
    exact ⟨c, h1.ext E, h2⟩
theorem QRep.set {h h' : Heap} {σ : QHeap} {a : Nat} {sl : Nat} {w : Value} {c d : QCell} (H : QRep Z n0 ad h σ) (Ad : QAd n0 ad) (W : Wr h h' (ad a) sl w) (hc : hget σ a = some c) (hd : QCellOk Z ad h' (ad a) d) : QRep Z n0 ad h' (σ.set a d) := by
  obtain ⟨h1, h2, h3⟩ := H
  refine ⟨by simpa using h1, by rw [W.size, h2]; simp, fun k e he => ?_⟩
  rw [hget_set hc] at he
  split at he
  · rename_i q; cases he; rw [q]; exact hd
  · rename_i q; exact (h3 k e he).other W fun z => q (Ad.2 _ _ z)
theorem QRep.push {h h' : Heap} {σ : QHeap} {c : QCell} (H : QRep Z n0 ad h σ) (Ad : QAd n0 ad) (E : Ext h h') (hs : h'.size = h.size + 1) (hc : QCellOk Z ad h' h.size c) : QRep Z n0 ad h' (σ ++ [c]) := by
  obtain ⟨h1, h2, h3⟩ := H
  refine ⟨by simp; omega, by rw [hs, h2]; simp; omega, fun k e he => ?_⟩
  rw [hget_eq] at he
  rcases Nat.lt_or_ge k σ.length with q | q
  · rw [List.getElem?_append_left q, ← hget_eq] at he
    exact (h3 k e he).ext E
  · rw [List.getElem?_append_right q] at he
    obtain rfl : k = σ.length := by
      rcases Nat.lt_or_ge (k - σ.length) 1 with z | z
      · omega
      · rw [List.getElem?_eq_none (by simpa using z)] at he; cases he
    simp at he
    rw [← he, Ad.1 _ h1, ← h2]
    exact hc
theorem mem_of_contains {α : Type} [BEq α] [LawfulBEq α] {L : List α} {a : α} (h : L.contains a = true) : a ∈ L := by simpa using h
theorem lkF_lt : ∀ t ∈ lkF, t.2.2 < nF := by decide +kernel
theorem laid_of (W : QW Z a0) {k : Nat} (hk : k < nF) : Laid Z a0 cName cName (fNm k) (fDs k) := by
  have q := (qw_lay W) k hk
  cases hf : fFin k with
  | true => rw [hf] at q; exact Or.inr q
  | false => rw [hf] at q; exact Or.inl q
theorem qfit_inv {ty : FieldType} {v w : Value} (h : qfit ty v = some w) : v = w ∧ narrow ty (qv ad w) = qv ad w ∧ fits ty (qv ad w) = true := by
  unfold qfit at h
  split at h
  · cases h; exact ⟨rfl, rfl, rfl⟩
  · rename_i x
    obtain ⟨y, hy, h⟩ := Option.bind_eq_some_iff.mp h
    cases h
    unfold qboo at hy
    split at hy
    · rename_i e; cases hy; subst e; exact ⟨rfl, rfl, rfl⟩
    · split at hy
      · rename_i e; cases hy; subst e; exact ⟨rfl, rfl, rfl⟩
      · cases hy
  · cases h; exact ⟨rfl, rfl, rfl⟩
  · cases h; exact ⟨rfl, rfl, rfl⟩
  · cases h
theorem vget_set {vs : List Value} {k j : Nat} {w : Value} (hk : k < vs.length) : vget (vs.set k w) j = if j = k then some w else vget vs j := by
  simp only [vget_eq, List.getElem?_set]
  by_cases e : k = j
  · subst e; simp [hk]
  · simp [e, Ne.symm e]
theorem ald_in {α : Type} {f : α → Value} {xs : List α} {c : Cell} {j : Int32} {x : α} (hc : c.slots = (xs.map f).toArray) (h : aget xs j = some x) : ¬ (j < 0 ∨ c.slots.size ≤ j.toNatClampNeg) ∧ c.slots[j.toNatClampNeg]? = some (f x) := by
  obtain ⟨h1, h2⟩ := aget_inv h
  have h3 := (List.getElem?_eq_some_iff.mp h2).1
  refine ⟨fun q => ?_, by rw [hc]; simp [h2]⟩
  rcases q with q | q
  · exact h1 q
  · rw [hc] at q; simp at q; omega
theorem ast_in {α : Type} {f : α → Value} {xs ys : List α} {c : Cell} {j : Int32} {x : α} (hc : c.slots = (xs.map f).toArray) (h : aset xs j x = some ys) : ¬ (j < 0 ∨ c.slots.size ≤ j.toNatClampNeg) ∧ (c.setSlot j.toNatClampNeg (f x)).slots = (ys.map f).toArray := by
  obtain ⟨h1, h2, rfl⟩ := aset_inv h
  refine ⟨fun q => ?_, by simp [Cell.setSlot, hc, List.map_set]⟩
  rcases q with q | q
  · exact h1 q
  · rw [hc] at q; simp at q; omega
theorem qgrow {σ : QHeap} {c : QCell} : qhs (σ ++ [c]) - qhs σ = qsz c := by rw [qhs_app]; simp [qhs]
set_option maxHeartbeats 4000000 in
theorem QTri.newArr (Ad : QAd n0 ad) (W : QW Z a0) {pc aux : Nat} {L : QLoc} {S : List Value} {σ : QHeap} {aty : ArrayType} {n : Int32} {k : Nat} {c : QCell} (hk : qnew n = some k) (hc : pCode m pc = some (.newarray aty, aux)) (hz : qsz c = k)
    (hq : ∀ (h' : Heap) (a : Addr) (cA : ClassId), Arr Z h' a (newA cA (newarray.typeOf aty) n) (newarray.typeOf aty) → QCellOk Z ad h' a c)
    (h : QTri l Z n0 ad m (pc + 2, L, .ref σ.length :: S, σ ++ [c]) v σ') : QTri l Z n0 ad m (pc, L, .int n :: S, σ) v σ' := by
  have hd : decode (pBytes m) pc = .ok (.newarray aty, 2) := pDecN hc rfl
  obtain ⟨n1, n2, n3⟩ := qnew_inv hk
  refine QTri.gen h (by simp) (by simp [qhs_app]) fun p e R s mid args below meth c' T locs cells slots C hcx X hR hF hL hC hn hc1 hsl => ?_
  obtain ⟨hx, hZ, hby, hml, hret, hown, hnm, hfr, hlo⟩ := hcx
  have hd2 : decode c'.code pc = .ok (.newarray aty, 2) := by rw [hby]; exact hd
  simp only [List.length_append, List.length_singleton, Nat.add_sub_cancel_left, qgrow, hz] at hc1 hsl ⊢
  obtain ⟨T₁, h₁, cA, X₁, e₁, E₁, A₁, st⟩ := newP X hx hZ (aty := aty) (qw_arr W (newarray.typeOf aty) (mem_of_contains (show aTys.contains (newarray.typeOf aty) = true from pRest hc))) rfl (g := mkF mid pc C (.int n :: S.map (qv ad))) rfl hd2 rfl n1 (cap := k) (by omega) (by omega) hc1 hsl
  have hsz : h₁.size = T.heap.size + 1 := by
    have q1 := X₁.heapSize
    have q2 : T.heap.size < h₁.size := A₁.lt
    have q3 := hR.2.1
    rw [e₁] at q1
    have : n0 + (σ.length - k0) = s.heap.size + cells := hn
    have q3' : T.heap.size = n0 + (σ.length - k0) := q3
    omega
  refine ⟨T₁, locs, C, X₁, ?_, hF, hL, hC, fun target q => ?_⟩
  · rw [e₁]; exact QRep.push hR Ad E₁ hsz (hq _ _ _ A₁)
  · refine st _ ?_
    have e2 : ad σ.length = T.heap.size := by rw [Ad.1 _ hR.1]; exact hR.2.1.symm
    simp only [List.map_cons, qv, e2] at q
    exact q
set_option maxHeartbeats 4000000 in
theorem QTri.getfield (W : QW Z a0) {pc idx aux : Nat} {L : QLoc} {S : List Value} {σ : QHeap} {st' : QSt} (h : QTri l Z n0 ad m st' v σ') (hc : pCode m pc = some (.getfield idx, aux)) (hs : qget (pc + 3) L S σ aux = some st') : QTri l Z n0 ad m (pc, L, S, σ) v σ' := by
  have hd : decode (pBytes m) pc = .ok (.getfield idx, 3) := pDecN hc rfl
  obtain ⟨a, S', vs, w, rfl, hvs, hw, rfl⟩ := qget_inv hs
  have hm := mem_of_contains (show lkF.contains (pK m, idx, aux) = true from pRest hc)
  have hlt := lkF_lt _ hm
  refine QTri.pure h rfl fun p e R s mid args below meth c T locs cells slots C hcx X hR hL hC => ?_
  obtain ⟨hx, hZ, hby, hml, hret, hown, hnm, hfr, hlo⟩ := hcx
  have hd2 : decode c.code pc = .ok (.getfield idx, 3) := by rw [hby]; exact hd
  have F := (hR.2.2 _ _ hvs).2.2 aux w hlt hw
  obtain ⟨T₁, X₁, e₁, st⟩ := getF X hx hZ hown (host := "") (index := idx) (Or.inl (qw_fl W (pK m, idx, aux) hm)) Via.refl rfl F (g := mkF mid pc C (List.map (qv ad) (.ref a :: S'))) rfl rfl hd2
  exact ⟨T₁, C, X₁, e₁, hL, hC, st⟩
set_option maxHeartbeats 4000000 in
theorem QTri.putfield (Ad : QAd n0 ad) (W : QW Z a0) {pc idx aux : Nat} {L : QLoc} {S : List Value} {σ : QHeap} {st' : QSt} (h : QTri l Z n0 ad m st' v σ') (hc : pCode m pc = some (.putfield idx, aux)) (hs : qput (pc + 3) L S σ aux = some st') : QTri l Z n0 ad m (pc, L, S, σ) v σ' := by
  have hd : decode (pBytes m) pc = .ok (.putfield idx, 3) := pDecN hc rfl
  obtain ⟨w, a, S', vs, u, rfl, hvs, b1, b2, hu, rfl⟩ := qput_inv hs
  obtain ⟨r1, r2⟩ := Bool.and_eq_true_iff.mp (show (lkF.contains (pK m, idx, aux) && (!fFin aux || (pK m == 1 && pNm m == "<init>"))) = true from pRest hc)
  have hm := mem_of_contains r1
  have hlt := lkF_lt _ hm
  obtain ⟨rfl, q2, q3⟩ := qfit_inv (ad := ad) hu
  have hsz : qhs (σ.set a (Sum.inl (vs.set aux w))) = qhs σ := qhs_set hvs rfl
  refine QTri.gen h (by simp) (by show qhs σ ≤ qhs (σ.set a (Sum.inl (vs.set aux w))); rw [hsz]; exact Nat.le_refl _) fun p e R s mid args below meth c T locs cells slots C hcx X hR hF hL hC hn hc1 hsl => ?_
  obtain ⟨hx, hZ, hby, hml, hret, hown, hnm, hfr, hlo⟩ := hcx
  have hd2 : decode c.code pc = .ok (.putfield idx, 3) := by rw [hby]; exact hd
  obtain ⟨E, l1, Fs⟩ := hR.2.2 _ _ hvs
  obtain ⟨old, hold⟩ : ∃ old, vget vs aux = some old := by rw [vget_eq]; exact ⟨_, List.getElem?_eq_getElem b2⟩
  have lay : (Cond.lays cName cName (fNm aux) (fDs aux)).before a0 Z = true ∨ ((Cond.laysFinal cName cName (fNm aux) (fDs aux)).before a0 Z = true ∧ kName (pK m) = cName ∧ meth.name = "<init>") := by
    have q := (qw_lay W) aux hlt
    cases hf : fFin aux with
    | false => rw [hf] at q; exact Or.inl q
    | true =>
      rw [hf] at q r2
      simp at r2
      exact Or.inr ⟨q, by rw [r2.1]; exact kOne, by rw [hnm]; exact r2.2⟩
  obtain ⟨T₁, h₁, X₁, e₁, W₁, st⟩ := putF X hx hZ hown (host := "") (index := idx) (Or.inl (qw_fl W (pK m, idx, aux) hm)) Via.refl rfl (Fs aux old hlt hold) E lay ((qw_inst W)) (fPrs aux hlt) q2 q3 (g := mkF mid pc C (List.map (qv ad) (w :: .ref a :: S'))) rfl rfl hd2
  refine ⟨T₁, _, C, ?_, ?_, Fr.snoc X₁ hF (by rw [Ad.1 a b1]; exact Nat.le_add_right _ _), hL, hC, st⟩
  · show Stand _ _ _ _ _ _ _ _ _ _ _ _ (cells + ((σ.set a (Sum.inl (vs.set aux w))).length - σ.length)) (slots + (qhs (σ.set a (Sum.inl (vs.set aux w))) - qhs σ))
    rw [hsz, Nat.sub_self, List.length_set, Nat.sub_self]
    exact X₁
  · rw [e₁]
    refine QRep.set hR Ad W₁ hvs ⟨E.wr W₁, by simpa using l1, fun k u hk hu => ?_⟩
    rw [vget_set b2] at hu
    split at hu
    · rename_i e; cases hu; rw [e]; exact (Fs aux old hlt hold).same W₁
    · rename_i ne
      exact (Fs k u hk hu).other W₁ (Or.inr (slot_ne (laid_of W hk) (laid_of W hlt) (fun z => ne (fInj _ hk _ hlt z)) (fPrs _ hk) (fPrs _ hlt)))
theorem tyI_inv {ty : FieldType} (h : tyI ty = true) : ty = .int := by cases ty <;> simp [tyI] at h; rfl
theorem tyB_inv {ty : FieldType} (h : tyB ty = true) : ty = .boolean ∨ ty = .byte := by cases ty <;> simp [tyB] at h <;> simp
set_option maxHeartbeats 4000000 in
theorem QTri.iaload {pc aux : Nat} {L : QLoc} {S : List Value} {σ : QHeap} {st' : QSt} (h : QTri l Z n0 ad m st' v σ') (hc : pCode m pc = some (.iaload, aux)) (hs : qald (pc + 1) L S σ tyI = some st') : QTri l Z n0 ad m (pc, L, S, σ) v σ' := by
  have hd : decode (pBytes m) pc = .ok (.iaload, 1) := pDecN hc rfl
  obtain ⟨j, a, S', ty, xs, w, rfl, hx1, ht, hw, rfl⟩ := qald_inv hs
  obtain rfl := tyI_inv ht
  refine QTri.stack h fun p e R s mid args below meth c T locs cells slots C target hx hZ hby hown X hR hL k => ?_
  have hd2 : decode c.code pc = .ok (.iaload, 1) := by rw [hby]; exact hd
  obtain ⟨cl, A, hsl⟩ := hR.2.2 _ _ hx1
  obtain ⟨i1, i2⟩ := ald_in hsl hw
  exact X.iaload hx A.1 (State.isArrayOf_alike hZ.alike A.2.1) A.2.2 i1 i2 (g := mkF mid pc C (List.map (qv ad) (.int j :: .ref a :: S'))) rfl rfl hd2 _ k
set_option maxHeartbeats 4000000 in
theorem QTri.baload {pc aux : Nat} {L : QLoc} {S : List Value} {σ : QHeap} {st' : QSt} (h : QTri l Z n0 ad m st' v σ') (hc : pCode m pc = some (.baload, aux)) (hs : qald (pc + 1) L S σ tyB = some st') : QTri l Z n0 ad m (pc, L, S, σ) v σ' := by
  have hd : decode (pBytes m) pc = .ok (.baload, 1) := pDecN hc rfl
  obtain ⟨j, a, S', ty, xs, w, rfl, hx1, ht, hw, rfl⟩ := qald_inv hs
  refine QTri.stack h fun p e R s mid args below meth c T locs cells slots C target hx hZ hby hown X hR hL k => ?_
  have hd2 : decode c.code pc = .ok (.baload, 1) := by rw [hby]; exact hd
  obtain ⟨cl, A, hsl⟩ := hR.2.2 _ _ hx1
  obtain ⟨i1, i2⟩ := ald_in hsl hw
  rcases tyB_inv ht with rfl | rfl
  · exact X.baloadBooleans hx A.1 (State.isArrayOf_alike hZ.alike A.2.1) A.2.2 i1 i2 (g := mkF mid pc C (List.map (qv ad) (.int j :: .ref a :: S'))) rfl rfl hd2 _ k
  · exact X.baloadBytes hx A.1 (State.isArrayOf_alike hZ.alike A.2.1) A.2.2 i1 i2 (g := mkF mid pc C (List.map (qv ad) (.int j :: .ref a :: S'))) rfl rfl hd2 _ k
set_option maxHeartbeats 4000000 in
theorem QTri.laload {pc aux : Nat} {L : QLoc} {S : List Value} {σ : QHeap} {st' : QSt} (h : QTri l Z n0 ad m st' v σ') (hc : pCode m pc = some (.laload, aux)) (hs : qaldJ (pc + 1) L S σ = some st') : QTri l Z n0 ad m (pc, L, S, σ) v σ' := by
  have hd : decode (pBytes m) pc = .ok (.laload, 1) := pDecN hc rfl
  obtain ⟨j, a, S', xs, w, rfl, hx1, hw, rfl⟩ := qaldJ_inv hs
  refine QTri.stack h fun p e R s mid args below meth c T locs cells slots C target hx hZ hby hown X hR hL k => ?_
  have hd2 : decode c.code pc = .ok (.laload, 1) := by rw [hby]; exact hd
  obtain ⟨cl, A, hsl⟩ := hR.2.2 _ _ hx1
  obtain ⟨i1, i2⟩ := ald_in hsl hw
  exact X.laload hx A.1 (State.isArrayOf_alike hZ.alike A.2.1) A.2.2 i1 i2 (g := mkF mid pc C (List.map (qv ad) (.int j :: .ref a :: S'))) rfl rfl hd2 _ k
/-- behind a store into an array -/
theorem QTri.stored (Ad : QAd n0 ad) {pc : Nat} {L : QLoc} {S S' : List Value} {σ : QHeap} {a j : Nat} {w : Value} {c d : QCell} (hx1 : hget σ a = some c) (b1 : k0 ≤ a) (hz : qsz d = qsz c) (h : QTri l Z n0 ad m (pc + 1, L, S', σ.set a d) v σ')
    (hs : ∀ (p : Program) (e : Env) (R : Room) (s : State) (mid : MethodId) (args : Array Value) (below : List Frame) (meth : Method) (c : Code) (T : State) (locs : List Loc) (cells slots : Nat) (C : Array Slot),
      QCx Z p R s mid meth c m → Stand p l e R s mid args below meth c T locs cells slots → QRep Z n0 ad T.heap σ →
      ∃ T' h', Stand p l e R s mid args below meth c T' (locs ++ [⟨ad a, j⟩]) cells slots ∧ T'.heap = h' ∧ Wr T.heap h' (ad a) j w ∧ QCellOk Z ad h' (ad a) d ∧ ∀ target, Steps p.tables e below (T'.setTop (mkF mid (pc + 1) C (S'.map (qv ad)))) target → Steps p.tables e below (T.setTop (mkF mid pc C (S.map (qv ad)))) target) :
    QTri l Z n0 ad m (pc, L, S, σ) v σ' := by
  have hsz : qhs (σ.set a d) = qhs σ := qhs_set hx1 hz
  refine QTri.gen h (by simp) (by show qhs σ ≤ qhs (σ.set a d); rw [hsz]; exact Nat.le_refl _) fun p e R s mid args below meth c T locs cells slots C hcx X hR hF hL hC hn hc1 hsl => ?_
  obtain ⟨T₁, h₁, X₁, e₁, W₁, Q₁, st⟩ := hs p e R s mid args below meth c T locs cells slots C hcx X hR
  refine ⟨T₁, _, C, ?_, ?_, Fr.snoc X₁ hF (by rw [Ad.1 a b1]; exact Nat.le_add_right _ _), hL, hC, st⟩
  · show Stand _ _ _ _ _ _ _ _ _ _ _ _ (cells + ((σ.set a d).length - σ.length)) (slots + (qhs (σ.set a d) - qhs σ))
    rw [hsz, Nat.sub_self, List.length_set, Nat.sub_self]
    exact X₁
  · rw [e₁]
    exact QRep.set hR Ad W₁ hx1 Q₁
set_option maxHeartbeats 4000000 in
theorem QTri.iastore (Ad : QAd n0 ad) {pc aux : Nat} {L : QLoc} {S : List Value} {σ : QHeap} {st' : QSt} (h : QTri l Z n0 ad m st' v σ') (hc : pCode m pc = some (.iastore, aux)) (hs : qast (pc + 1) L S σ tyI = some st') : QTri l Z n0 ad m (pc, L, S, σ) v σ' := by
  have hd : decode (pBytes m) pc = .ok (.iastore, 1) := pDecN hc rfl
  obtain ⟨w, j, a, S', ty, xs, ys, rfl, hx1, ht, b1, hw, rfl⟩ := qast_inv hs
  obtain rfl := tyI_inv ht
  refine QTri.stored Ad (j := j.toNatClampNeg) (w := .int w) hx1 b1 (by rw [(aset_inv hw).2.2]; simp [qsz]) h fun p e R s mid args below meth c T locs cells slots C hcx X hR => ?_
  have hd2 : decode c.code pc = .ok (.iastore, 1) := by rw [hcx.2.2.1]; exact hd
  obtain ⟨cl, A, hsl⟩ := hR.2.2 _ _ hx1
  obtain ⟨i1, i2⟩ := ast_in hsl hw
  obtain ⟨T₁, h₁, X₁, e₁, W₁, st⟩ := stI X hcx.1 hcx.2.1 rfl A i1 (g := mkF mid pc C (List.map (qv ad) (.int w :: .int j :: .ref a :: S'))) rfl rfl hd2
  exact ⟨T₁, h₁, X₁, e₁, W₁, ⟨_, A.same W₁, i2⟩, st⟩
set_option maxHeartbeats 4000000 in
theorem QTri.bastore (Ad : QAd n0 ad) {pc aux : Nat} {L : QLoc} {S : List Value} {σ : QHeap} {st' : QSt} (h : QTri l Z n0 ad m st' v σ') (hc : pCode m pc = some (.bastore, aux)) (hs : qast (pc + 1) L S σ tyB = some st') : QTri l Z n0 ad m (pc, L, S, σ) v σ' := by
  have hd : decode (pBytes m) pc = .ok (.bastore, 1) := pDecN hc rfl
  obtain ⟨w, j, a, S', ty, xs, ys, rfl, hx1, ht, b1, hw, rfl⟩ := qast_inv hs
  refine QTri.stored Ad (j := j.toNatClampNeg) (w := .int (qnar ty w)) hx1 b1 (by rw [(aset_inv hw).2.2]; simp [qsz]) h fun p e R s mid args below meth c T locs cells slots C hcx X hR => ?_
  have hd2 : decode c.code pc = .ok (.bastore, 1) := by rw [hcx.2.2.1]; exact hd
  obtain ⟨cl, A, hsl⟩ := hR.2.2 _ _ hx1
  obtain ⟨i1, i2⟩ := ast_in hsl hw
  rcases tyB_inv ht with rfl | rfl
  · obtain ⟨T₁, h₁, X₁, e₁, W₁, st⟩ := stZ X hcx.1 hcx.2.1 rfl A i1 (g := mkF mid pc C (List.map (qv ad) (.int w :: .int j :: .ref a :: S'))) rfl rfl hd2
    exact ⟨T₁, h₁, X₁, e₁, W₁, ⟨_, A.same W₁, i2⟩, st⟩
  · obtain ⟨T₁, h₁, X₁, e₁, W₁, st⟩ := stB X hcx.1 hcx.2.1 rfl A i1 (g := mkF mid pc C (List.map (qv ad) (.int w :: .int j :: .ref a :: S'))) rfl rfl hd2
    exact ⟨T₁, h₁, X₁, e₁, W₁, ⟨_, A.same W₁, i2⟩, st⟩
set_option maxHeartbeats 4000000 in
theorem QTri.lastore (Ad : QAd n0 ad) {pc aux : Nat} {L : QLoc} {S : List Value} {σ : QHeap} {st' : QSt} (h : QTri l Z n0 ad m st' v σ') (hc : pCode m pc = some (.lastore, aux)) (hs : qastJ (pc + 1) L S σ = some st') : QTri l Z n0 ad m (pc, L, S, σ) v σ' := by
  have hd : decode (pBytes m) pc = .ok (.lastore, 1) := pDecN hc rfl
  obtain ⟨w, j, a, S', xs, ys, rfl, hx1, b1, hw, rfl⟩ := qastJ_inv hs
  refine QTri.stored Ad (j := j.toNatClampNeg) (w := .long w) hx1 b1 (by rw [(aset_inv hw).2.2]; simp [qsz]) h fun p e R s mid args below meth c T locs cells slots C hcx X hR => ?_
  have hd2 : decode c.code pc = .ok (.lastore, 1) := by rw [hcx.2.2.1]; exact hd
  obtain ⟨cl, A, hsl⟩ := hR.2.2 _ _ hx1
  obtain ⟨i1, i2⟩ := ast_in hsl hw
  obtain ⟨T₁, h₁, X₁, e₁, W₁, st⟩ := stJ X hcx.1 hcx.2.1 rfl A i1 (g := mkF mid pc C (List.map (qv ad) (.long w :: .int j :: .ref a :: S'))) rfl rfl hd2
  exact ⟨T₁, h₁, X₁, e₁, W₁, ⟨_, A.same W₁, i2⟩, st⟩
set_option maxHeartbeats 4000000 in
theorem QTri.alen {pc aux : Nat} {L : QLoc} {S : List Value} {σ : QHeap} {st' : QSt} (h : QTri l Z n0 ad m st' v σ') (hc : pCode m pc = some (.arraylength, aux)) (hs : qlen (pc + 1) L S σ = some st') : QTri l Z n0 ad m (pc, L, S, σ) v σ' := by
  have hd : decode (pBytes m) pc = .ok (.arraylength, 1) := pDecN hc rfl
  obtain ⟨a, S', n, rfl, hx1, rfl⟩ := qlen_inv hs
  refine QTri.stack h fun p e R s mid args below meth c T locs cells slots C target hx hZ hby hown X hR hL k => ?_
  have hd2 : decode c.code pc = .ok (.arraylength, 1) := by rw [hby]; exact hd
  rcases hx1 with ⟨ty, xs, hx1, rfl⟩ | ⟨xs, hx1, rfl⟩
  · obtain ⟨cl, A, hsl⟩ := hR.2.2 _ _ hx1
    have e1 : cl.slots.size = xs.length := by rw [hsl]; simp
    rw [← e1] at k
    exact X.arraylength hx A.1 (State.isArrayOf_alike hZ.alike A.2.1) (g := mkF mid pc C (List.map (qv ad) (.ref a :: S'))) rfl rfl hd2 _ k
  · obtain ⟨cl, A, hsl⟩ := hR.2.2 _ _ hx1
    have e1 : cl.slots.size = xs.length := by rw [hsl]; simp
    rw [← e1] at k
    exact X.arraylength hx A.1 (State.isArrayOf_alike hZ.alike A.2.1) (g := mkF mid pc C (List.map (qv ad) (.ref a :: S'))) rfl rfl hd2 _ k
set_option maxHeartbeats 4000000 in
theorem QTri.newObj (Ad : QAd n0 ad) (W : QW Z a0) {pc idx aux : Nat} {L : QLoc} {S : List Value} {σ : QHeap} (h : QTri l Z n0 ad m (pc + 3, L, .ref σ.length :: S, σ ++ [.inl cDef]) v σ') (hc : pCode m pc = some (.new idx, aux)) : QTri l Z n0 ad m (pc, L, S, σ) v σ' := by
  have hd : decode (pBytes m) pc = .ok (.new idx, 3) := pDecN hc rfl
  have hm := mem_of_contains (show lkN.contains (pK m, idx) = true from pRest hc)
  refine QTri.gen h (by simp) (by simp [qhs_app]) fun p e R s mid args below meth c T locs cells slots C hcx X hR hF hL hC hn hc1 hsl => ?_
  obtain ⟨hx, hZ, hby, hml, hret, hown, hnm, hfr, hlo⟩ := hcx
  have hd2 : decode c.code pc = .ok (.new idx, 3) := by rw [hby]; exact hd
  simp only [List.length_append, List.length_singleton, Nat.add_sub_cancel_left, qgrow, qsz] at hc1 hsl ⊢
  obtain ⟨T₁, h₁, X₁, e₁, E₁, A₁, D₁, -, st⟩ := newO X hx hZ hown (index := idx) (qw_nw W (pK m, idx) hm) ((qw_inst W)) ((qw_init W)) rfl (g := mkF mid pc C (S.map (qv ad))) rfl hd2 hc1 hsl
  have hsz : h₁.size = T.heap.size + 1 := by
    have q1 := X₁.heapSize
    have q2 : T.heap.size < h₁.size := A₁.lt
    have q3 : T.heap.size = n0 + (σ.length - k0) := hR.2.1
    rw [e₁] at q1
    have : n0 + (σ.length - k0) = s.heap.size + cells := hn
    omega
  refine ⟨T₁, locs, C, X₁, ?_, hF, hL, hC, fun target q => ?_⟩
  · rw [e₁]
    refine QRep.push hR Ad E₁ hsz ⟨A₁, cDefL, fun k u hk hu => ?_⟩
    rw [cDefs k hk] at hu
    cases hu
    have e3 : qv ad (defaultValue (fTy k)) = defaultValue (fTy k) := by
      cases hq : defaultValue (fTy k) with
      | ref a => exact absurd hq (fDef k hk a)
      | _ => rfl
    rw [e3]
    exact D₁ (laid_of W hk) (fPrs k hk)
  · refine st _ ?_
    have e2 : ad σ.length = T.heap.size := by rw [Ad.1 _ hR.1]; exact hR.2.1.symm
    simp only [List.map_cons, qv, e2] at q
    exact q
set_option maxHeartbeats 8000000 in
theorem QTri.step (Ad : QAd n0 ad) (W : QW Z a0) {st st' : QSt} (h : QTri l Z n0 ad m st' v σ') (hs : qstep m st = some st') : QTri l Z n0 ad m st v σ' := by
  obtain ⟨pc, L, S, σ⟩ := st
  unfold qstep at hs
  dsimp only at hs
  split at hs
  rotate_left
  · cases hs
  rename_i i aux hc
  have hd := pDecN hc rfl
  have hr := pRest hc
  unfold qexec at hs
  split at hs
  · -- aload_n
    obtain ⟨w, h1, h2, rfl⟩ := qload_inv hs
    obtain ⟨a, rfl⟩ := isR_inv h2
    exact QTri.stack h fun p e R s mid args below meth c T locs cells slots C target hx hZ hby hown X hR hL k => XS.aloadN X.here hx rfl (hb hby hd) (hL.2.1 _ _ h1) rfl k
  · obtain ⟨w, h1, h2, rfl⟩ := qload_inv hs
    obtain ⟨a, rfl⟩ := isR_inv h2
    exact QTri.stack h fun p e R s mid args below meth c T locs cells slots C target hx hZ hby hown X hR hL k => XS.aload X.here hx rfl (hb hby hd) (hL.2.1 _ _ h1) rfl k
  · obtain ⟨w, h1, h2, rfl⟩ := qload_inv hs
    obtain ⟨a, rfl⟩ := isI_inv h2
    exact QTri.stack h fun p e R s mid args below meth c T locs cells slots C target hx hZ hby hown X hR hL k => XS.iloadN X.here hx rfl (hb hby hd) (hL.2.1 _ _ h1) k
  · obtain ⟨w, h1, h2, rfl⟩ := qload_inv hs
    obtain ⟨a, rfl⟩ := isI_inv h2
    exact QTri.stack h fun p e R s mid args below meth c T locs cells slots C target hx hZ hby hown X hR hL k => XS.iload X.here hx rfl (hb hby hd) (hL.2.1 _ _ h1) k
  · obtain ⟨w, h1, h2, rfl⟩ := qload_inv hs
    obtain ⟨a, rfl⟩ := isJ_inv h2
    exact QTri.stack h fun p e R s mid args below meth c T locs cells slots C target hx hZ hby hown X hR hL k => XT.lloadN X.here hx rfl (hb hby hd) (hL.2.1 _ _ h1) k
  · obtain ⟨w, h1, h2, rfl⟩ := qload_inv hs
    obtain ⟨a, rfl⟩ := isJ_inv h2
    exact QTri.stack h fun p e R s mid args below meth c T locs cells slots C target hx hZ hby hown X hR hL k => XT.lload X.here hx rfl (hb hby hd) (hL.2.1 _ _ h1) k
  · cases hs -- iconst
    exact QTri.stack h fun p e R s mid args below meth c T locs cells slots C target hx hZ hby hown X hR hL k => XS.iconst X.here hx rfl (hb hby hd) k
  · cases hs
    exact QTri.stack h fun p e R s mid args below meth c T locs cells slots C target hx hZ hby hown X hR hL k => XS.bipush X.here hx rfl (hb hby hd) k
  · cases hs
    exact QTri.stack h fun p e R s mid args below meth c T locs cells slots C target hx hZ hby hown X hR hL k => XS.sipush X.here hx rfl (hb hby hd) k
  · cases hs
    exact QTri.stack h fun p e R s mid args below meth c T locs cells slots C target hx hZ hby hown X hR hL k => XT.lconst X.here hx rfl (hb hby hd) k
  · -- ldc
    unfold qldc at hs
    split at hs
    · rename_i w hw
      cases hs
      obtain ⟨x, hx1, hx2⟩ := qw_cI W (pK m, _, aux) (mem_of_contains (show lkC.contains (pK m, _, aux) = true from hr))
      rw [show vget cK aux = some w from hw] at hx1
      cases hx1
      exact QTri.stack h fun p e R s mid args below meth c T locs cells slots C target hx hZ hby hown X hR hL k => X.ldcI hx hown (mv hZ hx2) rfl (hb hby hd) k
    · cases hs
  · unfold qldc at hs
    split at hs
    · rename_i w hw
      cases hs
      obtain ⟨x, hx1, hx2⟩ := qw_cJ W (pK m, _, aux) (mem_of_contains (show lkD.contains (pK m, _, aux) = true from hr))
      rw [show vget cK aux = some w from hw] at hx1
      cases hx1
      exact QTri.stack h fun p e R s mid args below meth c T locs cells slots C target hx hZ hby hown X hR hL k => X.ldc2J hx hown (mv hZ hx2) rfl (hb hby hd) k
    · cases hs
  · -- istore_n
    obtain ⟨w, S', L', rfl, h2, h3, rfl⟩ := qstore_inv hs
    obtain ⟨a, rfl⟩ := isI_inv h2
    exact QTri.frame h fun p e R s mid args below meth c T locs cells slots C hcx X hR hL hC => by
      obtain ⟨D, d1, d2, d3⟩ := store_ok hL h3
      exact ⟨D, d2, d3.trans hC, fun target k => XS.istoreN X.here hcx.1 rfl (hb hcx.2.2.1 hd) rfl d1 k⟩
  · obtain ⟨w, S', L', rfl, h2, h3, rfl⟩ := qstore_inv hs
    obtain ⟨a, rfl⟩ := isI_inv h2
    exact QTri.frame h fun p e R s mid args below meth c T locs cells slots C hcx X hR hL hC => by
      obtain ⟨D, d1, d2, d3⟩ := store_ok hL h3
      exact ⟨D, d2, d3.trans hC, fun target k => XS.istore X.here hcx.1 rfl (hb hcx.2.2.1 hd) rfl d1 k⟩
  · obtain ⟨w, S', L', rfl, h2, h3, rfl⟩ := qstore_inv hs
    obtain ⟨a, rfl⟩ := isJ_inv h2
    exact QTri.frame h fun p e R s mid args below meth c T locs cells slots C hcx X hR hL hC => by
      obtain ⟨D, d1, d2, d3⟩ := store_ok hL h3
      exact ⟨D, d2, d3.trans hC, fun target k => XT.lstoreN X.here hcx.1 rfl (hb hcx.2.2.1 hd) rfl d1 k⟩
  · obtain ⟨w, S', L', rfl, h2, h3, rfl⟩ := qstore_inv hs
    obtain ⟨a, rfl⟩ := isJ_inv h2
    exact QTri.frame h fun p e R s mid args below meth c T locs cells slots C hcx X hR hL hC => by
      obtain ⟨D, d1, d2, d3⟩ := store_ok hL h3
      exact ⟨D, d2, d3.trans hC, fun target k => XT.lstore X.here hcx.1 rfl (hb hcx.2.2.1 hd) rfl d1 k⟩
  · obtain ⟨w, S', L', rfl, h2, h3, rfl⟩ := qstore_inv hs
    obtain ⟨a, rfl⟩ := isR_inv h2
    exact QTri.frame h fun p e R s mid args below meth c T locs cells slots C hcx X hR hL hC => by
      obtain ⟨D, d1, d2, d3⟩ := store_ok hL h3
      exact ⟨D, d2, d3.trans hC, fun target k => XS.astoreN X.here hcx.1 rfl (hb hcx.2.2.1 hd) rfl rfl d1 k⟩
  · obtain ⟨w, S', L', rfl, h2, h3, rfl⟩ := qstore_inv hs
    obtain ⟨a, rfl⟩ := isR_inv h2
    exact QTri.frame h fun p e R s mid args below meth c T locs cells slots C hcx X hR hL hC => by
      obtain ⟨D, d1, d2, d3⟩ := store_ok hL h3
      exact ⟨D, d2, d3.trans hC, fun target k => XS.astore X.here hcx.1 rfl (hb hcx.2.2.1 hd) rfl rfl d1 k⟩
  · -- iinc
    unfold qinc at hs
    split at hs
    · rename_i x hx1
      split at hs
      · rename_i L' hL'
        cases hs
        exact QTri.frame h fun p e R s mid args below meth c T locs cells slots C hcx X hR hL hC => by
          obtain ⟨D, d1, d2, d3⟩ := store_ok hL hL'
          exact ⟨D, d2, d3.trans hC, fun target k => XS.iinc X.here hcx.1 rfl (hb hcx.2.2.1 hd) (hL.2.1 _ _ hx1) d1 k⟩
      · cases hs
    · cases hs
  · obtain ⟨x, y, S', rfl, rfl⟩ := qbin_inv hs -- iadd
    exact QTri.stack h fun p e R s mid args below meth c T locs cells slots C target hx hZ hby hown X hR hL k => XS.iadd X.here hx rfl (hb hby hd) rfl k
  · obtain ⟨x, y, S', rfl, rfl⟩ := qbin_inv hs
    exact QTri.stack h fun p e R s mid args below meth c T locs cells slots C target hx hZ hby hown X hR hL k => XS.isub X.here hx rfl (hb hby hd) rfl k
  · obtain ⟨x, y, S', rfl, rfl⟩ := qbin_inv hs
    exact QTri.stack h fun p e R s mid args below meth c T locs cells slots C target hx hZ hby hown X hR hL k => XS.imul X.here hx rfl (hb hby hd) rfl k
  · obtain ⟨x, y, S', rfl, rfl⟩ := qbin_inv hs
    exact QTri.stack h fun p e R s mid args below meth c T locs cells slots C target hx hZ hby hown X hR hL k => XS.iand X.here hx rfl (hb hby hd) rfl k
  · obtain ⟨x, y, S', rfl, rfl⟩ := qbin_inv hs
    exact QTri.stack h fun p e R s mid args below meth c T locs cells slots C target hx hZ hby hown X hR hL k => XT.ior X.here hx rfl (hb hby hd) rfl k
  · obtain ⟨x, y, S', rfl, rfl⟩ := qbin_inv hs
    exact QTri.stack h fun p e R s mid args below meth c T locs cells slots C target hx hZ hby hown X hR hL k => XT.ixor X.here hx rfl (hb hby hd) rfl k
  · obtain ⟨x, y, S', rfl, rfl⟩ := qbin_inv hs
    exact QTri.stack h fun p e R s mid args below meth c T locs cells slots C target hx hZ hby hown X hR hL k => XT.ishl X.here hx rfl (hb hby hd) rfl k
  · obtain ⟨x, y, S', rfl, rfl⟩ := qbin_inv hs
    exact QTri.stack h fun p e R s mid args below meth c T locs cells slots C target hx hZ hby hown X hR hL k => XT.ishr X.here hx rfl (hb hby hd) rfl k
  · obtain ⟨x, y, S', rfl, rfl⟩ := qbin_inv hs
    exact QTri.stack h fun p e R s mid args below meth c T locs cells slots C target hx hZ hby hown X hR hL k => XT.iushr X.here hx rfl (hb hby hd) rfl k
  · obtain ⟨x, y, z, S', rfl, hz, rfl⟩ := qbino_inv hs -- idiv
    unfold qdiv at hz
    split at hz
    · cases hz
    · rename_i hy
      cases hz
      exact QTri.stack h fun p e R s mid args below meth c T locs cells slots C target hx hZ hby hown X hR hL k => XS.idiv X.here hx rfl (hb hby hd) rfl hy k
  · obtain ⟨x, y, z, S', rfl, hz, rfl⟩ := qbino_inv hs
    unfold qrem at hz
    split at hz
    · cases hz
    · rename_i hy
      cases hz
      exact QTri.stack h fun p e R s mid args below meth c T locs cells slots C target hx hZ hby hown X hR hL k => iremM X hx rfl (hb hby hd) rfl hy k
  · obtain ⟨x, S', rfl, rfl⟩ := quni_inv hs -- ineg
    exact QTri.stack h fun p e R s mid args below meth c T locs cells slots C target hx hZ hby hown X hR hL k => XS.ineg X.here hx rfl (hb hby hd) rfl k
  · obtain ⟨x, S', rfl, rfl⟩ := quni_inv hs
    exact QTri.stack h fun p e R s mid args below meth c T locs cells slots C target hx hZ hby hown X hR hL k => XT.i2l X.here hx rfl (hb hby hd) rfl k
  · obtain ⟨x, S', rfl, rfl⟩ := quni_inv hs
    exact QTri.stack h fun p e R s mid args below meth c T locs cells slots C target hx hZ hby hown X hR hL k => XT.i2b X.here hx rfl (hb hby hd) rfl k
  · obtain ⟨x, S', rfl, rfl⟩ := quniJ_inv hs
    exact QTri.stack h fun p e R s mid args below meth c T locs cells slots C target hx hZ hby hown X hR hL k => XT.l2i X.here hx rfl (hb hby hd) rfl k
  · obtain ⟨x, S', rfl, rfl⟩ := quniJ_inv hs
    exact QTri.stack h fun p e R s mid args below meth c T locs cells slots C target hx hZ hby hown X hR hL k => XT.lneg X.here hx rfl (hb hby hd) rfl k
  · obtain ⟨x, y, S', rfl, rfl⟩ := qbinJ_inv hs
    exact QTri.stack h fun p e R s mid args below meth c T locs cells slots C target hx hZ hby hown X hR hL k => XT.ladd X.here hx rfl (hb hby hd) rfl k
  · obtain ⟨x, y, S', rfl, rfl⟩ := qbinJ_inv hs
    exact QTri.stack h fun p e R s mid args below meth c T locs cells slots C target hx hZ hby hown X hR hL k => XT.lsub X.here hx rfl (hb hby hd) rfl k
  · obtain ⟨x, y, S', rfl, rfl⟩ := qbinJ_inv hs
    exact QTri.stack h fun p e R s mid args below meth c T locs cells slots C target hx hZ hby hown X hR hL k => XT.lmul X.here hx rfl (hb hby hd) rfl k
  · obtain ⟨x, y, S', rfl, rfl⟩ := qbinJ_inv hs
    exact QTri.stack h fun p e R s mid args below meth c T locs cells slots C target hx hZ hby hown X hR hL k => XT.land X.here hx rfl (hb hby hd) rfl k
  · obtain ⟨x, y, S', rfl, rfl⟩ := qbinJ_inv hs
    exact QTri.stack h fun p e R s mid args below meth c T locs cells slots C target hx hZ hby hown X hR hL k => XT.lor X.here hx rfl (hb hby hd) rfl k
  · obtain ⟨x, y, S', rfl, rfl⟩ := qbinJ_inv hs
    exact QTri.stack h fun p e R s mid args below meth c T locs cells slots C target hx hZ hby hown X hR hL k => XT.lxor X.here hx rfl (hb hby hd) rfl k
  · obtain ⟨x, y, S', rfl, rfl⟩ := qshJ_inv hs
    exact QTri.stack h fun p e R s mid args below meth c T locs cells slots C target hx hZ hby hown X hR hL k => XT.lshl X.here hx rfl (hb hby hd) rfl k
  · obtain ⟨x, y, S', rfl, rfl⟩ := qshJ_inv hs
    exact QTri.stack h fun p e R s mid args below meth c T locs cells slots C target hx hZ hby hown X hR hL k => XT.lshr X.here hx rfl (hb hby hd) rfl k
  · obtain ⟨x, y, S', rfl, rfl⟩ := qshJ_inv hs
    exact QTri.stack h fun p e R s mid args below meth c T locs cells slots C target hx hZ hby hown X hR hL k => XT.lushr X.here hx rfl (hb hby hd) rfl k
  · split at hs -- lcmp
    · cases hs
      exact QTri.stack h fun p e R s mid args below meth c T locs cells slots C target hx hZ hby hown X hR hL k => XT.lcmp X.here hx rfl (hb hby hd) rfl k
    · cases hs
  · cases hs -- goto
    obtain ⟨t1, t2⟩ := qtgt_spec hr
    exact QTri.stack h fun p e R s mid args below meth c T locs cells slots C target hx hZ hby hown X hR hL k => XS.goto X.here hx rfl rfl (hb hby hd) t1 t2 k
  · obtain ⟨x, S', rfl, rfl⟩ := qif_inv hs
    obtain ⟨t1, t2⟩ := qtgt_spec hr
    cases hh : ifCond.holds _ x with
    | true => rw [hh] at h; exact QTri.stack h fun p e R s mid args below meth c T locs cells slots C target hx hZ hby hown X hR hL k => XS.ifYes X.here hx rfl rfl (hb hby hd) rfl hh t1 t2 k
    | false => rw [hh] at h; exact QTri.stack h fun p e R s mid args below meth c T locs cells slots C target hx hZ hby hown X hR hL k => XS.ifNo X.here hx rfl (hb hby hd) rfl hh k
  · obtain ⟨x, y, S', rfl, rfl⟩ := qicmp_inv hs
    obtain ⟨t1, t2⟩ := qtgt_spec hr
    cases hh : if_icmp.holds _ x y with
    | true => rw [hh] at h; exact QTri.stack h fun p e R s mid args below meth c T locs cells slots C target hx hZ hby hown X hR hL k => XS.icmpYes X.here hx rfl rfl (hb hby hd) rfl hh t1 t2 k
    | false => rw [hh] at h; exact QTri.stack h fun p e R s mid args below meth c T locs cells slots C target hx hZ hby hown X hR hL k => XS.icmpNo X.here hx rfl (hb hby hd) rfl hh k
  · unfold qdup at hs
    split at hs
    · cases hs
      exact QTri.stack h fun p e R s mid args below meth c T locs cells slots C target hx hZ hby hown X hR hL k => XS.dup X.here hx rfl (hb hby hd) rfl rfl k
    · cases hs
      exact QTri.stack h fun p e R s mid args below meth c T locs cells slots C target hx hZ hby hown X hR hL k => XS.dup X.here hx rfl (hb hby hd) rfl rfl k
    · cases hs
  · unfold qdup2 at hs
    split at hs
    · cases hs
      exact QTri.stack h fun p e R s mid args below meth c T locs cells slots C target hx hZ hby hown X hR hL k => XT.dup2 X.here hx rfl (hb hby hd) rfl rfl rfl k
    · cases hs
      exact QTri.stack h fun p e R s mid args below meth c T locs cells slots C target hx hZ hby hown X hR hL k => XT.dup2 X.here hx rfl (hb hby hd) rfl rfl rfl k
    · cases hs
      exact QTri.stack h fun p e R s mid args below meth c T locs cells slots C target hx hZ hby hown X hR hL k => XT.dup2L X.here hx rfl (hb hby hd) rfl k
    · cases hs
  · unfold qpop at hs
    split at hs
    · cases hs
      exact QTri.stack h fun p e R s mid args below meth c T locs cells slots C target hx hZ hby hown X hR hL k => XT.pop X.here hx rfl (hb hby hd) rfl rfl k
    · cases hs
      exact QTri.stack h fun p e R s mid args below meth c T locs cells slots C target hx hZ hby hown X hR hL k => XT.pop X.here hx rfl (hb hby hd) rfl rfl k
    · cases hs
  · exact QTri.getfield W h hc hs
  · exact QTri.putfield Ad W h hc hs
  · exact QTri.iaload h hc hs
  · exact QTri.baload h hc hs
  · exact QTri.laload h hc hs
  · exact QTri.iastore Ad h hc hs
  · exact QTri.bastore Ad h hc hs
  · exact QTri.lastore Ad h hc hs
  · exact QTri.alen h hc hs
  · -- newarray
    unfold qnewA at hs
    split at hs
    · split at hs
      · obtain ⟨k, hk, hs⟩ := Option.bind_eq_some_iff.mp hs
        cases hs
        exact QTri.newArr (c := .inr (.inl (.int, List.replicate k 0))) Ad W hk hc (by simp [qsz]) (fun h' a cA A => ⟨_, A, by simp [newA, (qnew_inv hk).2.1]; exact Or.inr rfl⟩) h
      · obtain ⟨k, hk, hs⟩ := Option.bind_eq_some_iff.mp hs
        cases hs
        exact QTri.newArr (c := .inr (.inl (.boolean, List.replicate k 0))) Ad W hk hc (by simp [qsz]) (fun h' a cA A => ⟨_, A, by simp [newA, (qnew_inv hk).2.1]; exact Or.inr rfl⟩) h
      · obtain ⟨k, hk, hs⟩ := Option.bind_eq_some_iff.mp hs
        cases hs
        exact QTri.newArr (c := .inr (.inl (.byte, List.replicate k 0))) Ad W hk hc (by simp [qsz]) (fun h' a cA A => ⟨_, A, by simp [newA, (qnew_inv hk).2.1]; exact Or.inr rfl⟩) h
      · obtain ⟨k, hk, hs⟩ := Option.bind_eq_some_iff.mp hs
        cases hs
        exact QTri.newArr (c := .inr (.inr (List.replicate k 0))) Ad W hk hc (by simp [qsz]) (fun h' a cA A => ⟨_, A, by simp [newA, (qnew_inv hk).2.1]; exact Or.inr rfl⟩) h
      · cases hs
    · cases hs
  · cases hs; exact QTri.newObj Ad W h hc
  · cases hs
theorem QTri.steps (Ad : QAd n0 ad) (W : QW Z a0) : ∀ (n : Nat) {st st' : QSt}, qsteps m n st = some st' → QTri l Z n0 ad m st' v σ' → QTri l Z n0 ad m st v σ'
  | 0, st, st', h, k => by cases h; exact k
  | n + 1, st, st', h, k => by
    simp only [qsteps] at h
    split at h
    · rename_i st₁ h1
      exact QTri.step Ad W (QTri.steps Ad W n h k) h1
    · cases h
/-! ## returns, masks, calls -/
def lmask : List Bool → QLoc → QLoc
  | b :: t, x :: u => (bif b then x else none) :: lmask t u
  | _, L => L.map fun _ => none
theorem lmask_len : ∀ (b : List Bool) (L : QLoc), (lmask b L).length = L.length
  | [], L => by simp [lmask]
  | _ :: _, [] => by simp [lmask]
  | _ :: t, _ :: u => by simp [lmask, lmask_len t u]
theorem lmask_get : ∀ (b : List Bool) (L : QLoc) (k : Nat) (v : Value), lget (lmask b L) k = some v → lget L k = some v
  | [], L, k, v, h => by
    simp only [lmask, lget_eq, List.getElem?_map] at h
    cases hq : L[k]? <;> simp [hq] at h
  | _ :: _, [], k, v, h => by simp [lmask, lget] at h
  | b :: t, x :: u, 0, v, h => by
    simp only [lmask, lget] at h ⊢
    cases b
    · cases h
    · exact h
  | b :: t, x :: u, k + 1, v, h => by
    simp only [lmask, lget] at h ⊢
    exact lmask_get t u k v h
theorem QTri.mask {pc : Nat} {L : QLoc} {S : List Value} {σ : QHeap} (b : List Bool) (h : QTri l Z n0 ad m (pc, lmask b L, S, σ) v σ') : QTri l Z n0 ad m (pc, L, S, σ) v σ' :=
  QTri.frame h fun p e R s mid args below meth c T locs cells slots C hcx X hR hL hC => ⟨C, ⟨by rw [lmask_len]; exact hL.1, fun k u hk => hL.2.1 k u (lmask_get b L k u hk), hL.2.2⟩, hC, fun target k => k⟩
theorem QTri.ret0 {pc aux : Nat} {L : QLoc} {σ : QHeap} (hc : pCode m pc = some (.return_, aux)) (hr : pRet m = none) : QTri l Z n0 ad m (pc, L, [], σ) none σ :=
  have hd : decode (pBytes m) pc = .ok (.return_, 1) := pDecN hc rfl
  ⟨Nat.le_refl _, Nat.le_refl _, fun p e R s mid args below meth c T locs cells slots C hcx X hR hF hL hC hn hc1 hsl => ⟨T, locs, by simpa using X, hR, hF, fun fs hf => X.returnOut hcx.1 (hcx.2.2.2.2.1.trans hr) (hb hcx.2.2.1 hd) hf⟩⟩
theorem QTri.retI {pc aux : Nat} {L : QLoc} {S : List Value} {σ : QHeap} {x : Int32} (hc : pCode m pc = some (.ireturn, aux)) (hr : pRet m = some .int) : QTri l Z n0 ad m (pc, L, .int x :: S, σ) (some (.int x)) σ :=
  have hd : decode (pBytes m) pc = .ok (.ireturn, 1) := pDecN hc rfl
  ⟨Nat.le_refl _, Nat.le_refl _, fun p e R s mid args below meth c T locs cells slots C hcx X hR hF hL hC hn hc1 hsl => ⟨T, locs, by simpa using X, hR, hF, fun fs hf => Jvm.RoadKit.retI X hcx.1 (hcx.2.2.2.2.1.trans hr) (hb hcx.2.2.1 hd) hf⟩⟩
theorem QTri.retZ {pc aux : Nat} {L : QLoc} {S : List Value} {σ : QHeap} {x : Int32} (hc : pCode m pc = some (.ireturn, aux)) (hr : pRet m = some .boolean) : QTri l Z n0 ad m (pc, L, .int x :: S, σ) (some (.int (x &&& 1))) σ :=
  have hd : decode (pBytes m) pc = .ok (.ireturn, 1) := pDecN hc rfl
  ⟨Nat.le_refl _, Nat.le_refl _, fun p e R s mid args below meth c T locs cells slots C hcx X hR hF hL hC hn hc1 hsl => ⟨T, locs, by simpa using X, hR, hF, fun fs hf => retN X hcx.1 (t := .boolean) (hcx.2.2.2.2.1.trans hr) (by simp) (hb hcx.2.2.1 hd) hf⟩⟩
theorem QTri.retJ {pc aux : Nat} {L : QLoc} {S : List Value} {σ : QHeap} {x : Int64} (hc : pCode m pc = some (.lreturn, aux)) (hr : pRet m = some .long) : QTri l Z n0 ad m (pc, L, .long x :: S, σ) (some (.long x)) σ :=
  have hd : decode (pBytes m) pc = .ok (.lreturn, 1) := pDecN hc rfl
  ⟨Nat.le_refl _, Nat.le_refl _, fun p e R s mid args below meth c T locs cells slots C hcx X hR hF hL hC hn hc1 hsl => ⟨T, locs, by simpa using X, hR, hF, fun fs hf => retOut X hcx.1 (t := .long) (hcx.2.2.2.2.1.trans hr) rfl (Or.inr (Or.inl ⟨rfl, rfl, _, rfl⟩)) (hb hcx.2.2.1 hd) hf⟩⟩
def LOk (ad : Nat → Addr) (L : QLoc) (C : List Slot) : Prop :=
  L.length = C.length ∧ (∀ k v, lget L k = some v → C[k]? = some (.val (qv ad v))) ∧ (∀ k w, C[k]? = some (.val w) → w.category = 2 → C[k + 1]? = some .second) ∧ ∀ k, C[k]? = some .second → ∃ j w, k = j + 1 ∧ C[j]? = some (.val w) ∧ w.category = 2
theorem LOk.base (ad : Nat → Addr) (n : Nat) : LOk ad (List.replicate n none) (List.replicate n .unset) := by
  refine ⟨by simp, fun k u h => ?_, fun k w h => ?_, fun k h => ?_⟩
  · rw [lget_eq] at h
    rcases Nat.lt_or_ge k n with q | q
    · simp [List.getElem?_replicate, q] at h
    · simp [List.getElem?_eq_none, q] at h
  · rcases Nat.lt_or_ge k n with q | q
    · simp [List.getElem?_replicate, q] at h
    · simp [List.getElem?_eq_none, q] at h
  · rcases Nat.lt_or_ge k n with q | q
    · simp [List.getElem?_replicate, q] at h
    · simp [List.getElem?_eq_none, q] at h
theorem LOk.one {L : QLoc} {C : List Slot} (H : LOk ad L C) {u : Value} (hu : u.category = 1) : LOk ad (some u :: L) (.val (qv ad u) :: C) := by
  obtain ⟨h1, h2, h3, h4⟩ := H
  refine ⟨by simp [h1], fun k w h => ?_, fun k w h hw => ?_, fun k h => ?_⟩
  · cases k with
    | zero => simp only [lget] at h; cases h; simp
    | succ k => simp only [lget] at h; simpa using h2 k w h
  · cases k with
    | zero => simp at h; rw [← h, qv_cat, hu] at hw; cases hw
    | succ k => simpa using h3 k w (by simpa using h) hw
  · cases k with
    | zero => simp at h
    | succ k =>
      obtain ⟨j, w, z1, z2, z3⟩ := h4 k (by simpa using h)
      exact ⟨j + 1, w, by omega, by simpa using z2, z3⟩
theorem LOk.two {L : QLoc} {C : List Slot} (H : LOk ad L C) {u : Value} (hu : u.category = 2) : LOk ad (some u :: none :: L) (.val (qv ad u) :: .second :: C) := by
  obtain ⟨h1, h2, h3, h4⟩ := H
  refine ⟨by simp [h1], fun k w h => ?_, fun k w h hw => ?_, fun k h => ?_⟩
  · rcases k with _ | _ | k
    · simp only [lget] at h; cases h; simp
    · simp [lget] at h
    · simp only [lget] at h; simpa using h2 k w h
  · rcases k with _ | _ | k
    · simp
    · simp at h
    · simpa using h3 k w (by simpa using h) hw
  · rcases k with _ | _ | k
    · simp at h
    · exact ⟨0, qv ad u, rfl, by simp, by rw [qv_cat]; exact hu⟩
    · obtain ⟨j, w, z1, z2, z3⟩ := h4 k (by simpa using h)
      exact ⟨j + 2, w, by omega, by simpa using z2, z3⟩
def slotsOf (u : Value) : List Slot := if u.category = 2 then [.val u, .second] else [.val u]
theorem fold_slots : ∀ (as : List Value) (acc : Array Slot), (as.foldl (fun acc v => if v.category = 2 then (acc.push (.val v)).push .second else acc.push (.val v)) acc).toList = acc.toList ++ as.flatMap slotsOf
  | [], acc => by simp
  | u :: t, acc => by
    rw [List.foldl_cons, fold_slots t]
    by_cases hc : u.category = 2 <;> simp [slotsOf, hc]
theorem slots_len : ∀ (as : List Value), (as.flatMap slotsOf).length = (as.map fun v => v.category).sum
  | [] => rfl
  | u :: t => by
    rw [List.flatMap_cons, List.length_append, slots_len t, List.map_cons, List.sum_cons]
    cases u <;> simp [slotsOf, Value.category]
theorem cats_qv (as : List Value) : ((as.map (qv ad)).map fun v => v.category).sum = (as.map fun v => v.category).sum := by
  rw [List.map_map]
  congr 1
  exact List.map_congr_left fun x _ => qv_cat ad x
theorem entry_list : ∀ (as : List Value) (n : Nat), LOk ad ((as.flatMap fun v => match v with | .long x => [some (.long x), none] | .double x => [some (.double x), none] | v => [some v]) ++ List.replicate n none) ((as.map (qv ad)).flatMap slotsOf ++ List.replicate n .unset)
  | [], n => by simpa using LOk.base ad n
  | u :: t, n => by
    have ih := entry_list t n
    cases u with
    | long x => exact LOk.two ih rfl
    | double x => exact LOk.two ih rfl
    | int x => exact LOk.one ih rfl
    | float x => exact LOk.one ih rfl
    | null => exact LOk.one ih rfl
    | ref x => exact LOk.one ih rfl
    | retAddr x => exact LOk.one ih rfl
theorem qentry_ok (as : List Value) (mx : Nat) (h : (as.map fun v => v.category).sum ≤ mx) : QLocOk ad (qentry as mx) (argsToLocals (as.map (qv ad)).toArray mx) ∧ (argsToLocals (as.map (qv ad)).toArray mx).size = mx := by
  have e : (argsToLocals (as.map (qv ad)).toArray mx).toList = (as.map (qv ad)).flatMap slotsOf ++ List.replicate (mx - (as.map fun v => v.category).sum) .unset := by
    unfold argsToLocals
    have q := fold_slots (as.map (qv ad)) #[]
    simp only [List.foldl_toArray', Array.toList_append, Array.toList_replicate]
    have q2 : ((as.map (qv ad)).foldl (fun (acc : Array Slot) (v : Value) => if v.category = 2 then (acc.push (.val v)).push .second else acc.push (.val v)) #[]).size = (as.map fun v => v.category).sum := by
      rw [← Array.length_toList, q]
      simp only [List.nil_append]
      rw [slots_len, cats_qv]
    rw [q, q2]
    simp
  have H := entry_list (ad := ad) as (mx - (as.map fun v => v.category).sum)
  rw [← e] at H
  obtain ⟨h1, h2, h3, h4⟩ := H
  have hs : (argsToLocals (as.map (qv ad)).toArray mx).size = mx := by
    rw [← Array.length_toList, e, List.length_append, slots_len, cats_qv, List.length_replicate]
    omega
  refine ⟨⟨h1.trans Array.length_toList, fun k u hk => ?_, fun k w hk hw => ?_, fun k hk => ?_⟩, hs⟩
  · have := h2 k u hk; rwa [Array.getElem?_toList] at this
  · have := h3 k w (by rw [Array.getElem?_toList]; exact hk) hw; rwa [Array.getElem?_toList] at this
  · obtain ⟨j, w, z1, z2, z3⟩ := h4 k (by rw [Array.getElem?_toList]; exact hk)
    exact ⟨j, w, z1, by rwa [Array.getElem?_toList] at z2, z3⟩
set_option maxHeartbeats 4000000 in
theorem QTri.met {k : Nat} {as : List Value} {σ σ₁ : QHeap} {w : Option Value} {h0 : Heap} (hk : k < pN) (h : QTri l Z n0 ad k (0, qentry as (pMaxL k), [], σ) w σ₁) (hR : QRep Z n0 ad h0 σ) (hlen : (as.map fun v => v.category).sum ≤ pMaxL k) (hret : pRet k = none → w = none) (ws : List Jvm.Cond) {rm : Room}
    (r1 : pFr k ≤ rm.frames) (r2 : pLo k ≤ rm.locals) (r3 : σ₁.length - σ.length ≤ rm.cells) (r4 : qhs σ₁ - qhs σ ≤ rm.slots) :
    MetFree l (pName k) (head1 (Jvm.Cond.code (pName k) (pBytes k) (pMaxL k) (pRet k) :: ws) rm) (fun a U => a = (as.map (qv ad)).toArray ∧ Z.Warmed39 U.vm ∧ U.heap = h0) (fun _ _ _ _ _ => True)
      (fun _ U o U' => ∃ v L, o = .returned v ∧ (v = w.map (qv ad) ∧ QRep Z n0 ad U'.heap σ₁ ∧ Fr n0 L) ∧ FrameEnd U o U' L (σ₁.length - σ.length) (qhs σ₁ - qhs σ)) := by
  refine MetFree.of_bodySF (plainFor_of_name (kPlain _ (pKlt k hk))) hisR ?_
  intro p e s mid args below meth c s₁ Bd hml0 hP hK
  obtain ⟨rfl, hZ, hh⟩ := hP
  have e0 : s₁.heap = h0 := by rw [← hh, Bd.state]; rfl
  obtain ⟨hl1, hl2⟩ := qentry_ok (ad := ad) as (pMaxL k) hlen
  have hX : Stand p l e rm s mid (as.map (qv ad)).toArray below meth c s₁ [] 0 0 := Stand.of_body Bd
  obtain ⟨T', locs', X', R', F', S'⟩ := h.2.2 p e rm s mid _ below meth c s₁ [] 0 0 _ ⟨Bd.exec, hZ, Bd.bytes, hml0, Bd.returns, findClass_of_methodNamed Bd.named, (name_of_methodNamed Bd.named Bd.method).1, r1, r2⟩ hX (by rw [e0]; exact hR) (Fr.nil _) hl1 (hl2.trans hml0.symm) (by rw [hh, Nat.add_zero]; exact hR.2.1.symm) (by rw [Nat.zero_add]; exact r3) (by rw [Nat.zero_add]; exact r4)
  obtain ⟨fs, hr, hrun, hended, hW, hsame⟩ := X'.leave (v := w.map (qv ad)) (fun q => by rw [hret (Bd.returns.symm.trans q)]; rfl)
  refine ⟨_, _, S' fs hr, hrun, hended, _, _, rfl, ⟨rfl, R', F'⟩, ⟨_, rfl⟩, hW, ?_⟩
  simp only [Nat.zero_add] at hsame
  exact hsame
theorem QTri.room {k : Nat} {σ σ₁ : QHeap} {rest : List Value} {R : Room} (hroom : (Nat.ble (pFr k + 1) (pFr m) && Nat.ble ((rest.map fun v => v.category).sum + (pMaxL k + 11) + pLo k) (pLo m)) = true) (hfr : pFr m ≤ R.frames) (hlo : pLo m ≤ R.locals) :
    pFr k + 1 ≤ R.frames ∧ (rest.map fun v => v.category).sum + (pMaxL k + 11) + pLo k ≤ R.locals := by
  obtain ⟨q1, q2⟩ := Bool.and_eq_true_iff.mp hroom
  exact ⟨Nat.le_trans (Nat.le_of_ble_eq_true q1) hfr, Nat.le_trans (Nat.le_of_ble_eq_true q2) hlo⟩
theorem sig_len {k : Nat} (hk : k < pN) {as : List Value} (hna : as.length = pNA k) : ∀ sig, parseMethodDescriptor (pName k).desc = some sig → (as.map (qv ad)).length = sig.parameters.length := fun sig hs => by
  have q := pSig k hk
  rw [show parseMethodDescriptor (pDs k) = some sig from hs] at q
  simp at q
  simp [hna, q]
theorem ret_map (w : Option Value) (rest : List Value) : (w.toList ++ rest).map (qv ad) = (w.map (qv ad)).toList ++ rest.map (qv ad) := by cases w <;> simp
theorem QTri.after {as0 : List Value} {pc : Nat} {L : QLoc} {S rest : List Value} {σ σ₁ : QHeap} {w : Option Value} {k : Nat} (hcal : QTri l Z n0 ad k (0, qentry as0 (pMaxL k), [], σ) w σ₁) (h : QTri l Z n0 ad m (pc + 3, L, w.toList ++ rest, σ₁) v σ')
    (hs : ∀ (p : Program) (e : Env) (R : Room) (s : State) (mid : MethodId) (args : Array Value) (below : List Frame) (meth : Method) (c : Code) (T : State) (locs : List Loc) (cells slots : Nat) (C : Array Slot),
      QCx Z p R s mid meth c m → Stand p l e R s mid args below meth c T locs cells slots → QRep Z n0 ad T.heap σ → C.size = c.maxLocals → cells + (σ₁.length - σ.length) ≤ R.cells → slots + (qhs σ₁ - qhs σ) ≤ R.slots →
      ∃ T₁ Lc, Stand p l e R s mid args below meth c T₁ (locs ++ Lc) (cells + (σ₁.length - σ.length)) (slots + (qhs σ₁ - qhs σ)) ∧ QRep Z n0 ad T₁.heap σ₁ ∧ Fr n0 Lc ∧
        ∀ target, Steps p.tables e below (T₁.setTop (mkF mid (pc + 3) C ((w.map (qv ad)).toList ++ rest.map (qv ad)))) target → Steps p.tables e below (T.setTop (mkF mid pc C (S.map (qv ad)))) target) :
    QTri l Z n0 ad m (pc, L, S, σ) v σ' := by
  refine QTri.gen h hcal.1 hcal.2.1 fun p e R s mid args below meth c T locs cells slots C hcx X hR hF hL hC hn hc1 hsl => ?_
  obtain ⟨T₁, Lc, X₁, R₁, F₁, st⟩ := hs p e R s mid args below meth c T locs cells slots C hcx X hR hC hc1 hsl
  refine ⟨T₁, locs ++ Lc, C, X₁, R₁, hF.app F₁, hL, hC, fun target q => st target ?_⟩
  rw [← ret_map]
  exact q
set_option maxHeartbeats 4000000 in
theorem QTri.callV (W : QW Z a0) {pc idx k a : Nat} {L : QLoc} {S as rest vs : List Value} {σ σ₁ : QHeap} {w : Option Value} (hc : pCode m pc = some (.invokevirtual idx, k)) (hm : (lkV.contains (pK m, idx, k) && mV.contains k) = true) (hcell : hget σ a = some (.inl vs)) (hS : S = as.reverse ++ .ref a :: rest)
    (hna : as.length = pNA k) (hlen : Nat.ble (((Value.ref a :: as).map fun v => v.category).sum) (pMaxL k) = true) (hroom : (Nat.ble (pFr k + 1) (pFr m) && Nat.ble ((rest.map fun v => v.category).sum + (pMaxL k + 11) + pLo k) (pLo m)) = true) (hrb : (w.isNone || (pRet k).isSome) = true)
    (hcal : QTri l Z n0 ad k (0, qentry (.ref a :: as) (pMaxL k), [], σ) w σ₁) (h : QTri l Z n0 ad m (pc + 3, L, w.toList ++ rest, σ₁) v σ') : QTri l Z n0 ad m (pc, L, S, σ) v σ' := by
  have hd : decode (pBytes m) pc = .ok (.invokevirtual idx, 3) := pDecN hc rfl
  subst hS
  obtain ⟨m1, m2⟩ := Bool.and_eq_true_iff.mp hm
  have m1 := mem_of_contains m1
  have m2 := mem_of_contains m2
  have hkA := (mVlt k m2).1
  have hkN := mAlt k hkA
  have hret : pRet k = none → w = none := fun q => by
    rw [q] at hrb
    cases w with
    | none => rfl
    | some w => simp at hrb
  refine QTri.after hcal h fun p e R s mid args below meth c T locs cells slots C hcx X hR hC hc1 hsl => ?_
  obtain ⟨hx, hZ, hby, hml, hret', hown, hnm, hfr, hlo⟩ := hcx
  have hd2 : decode c.code pc = .ok (.invokevirtual idx, 3) := by rw [hby]; exact hd
  obtain ⟨f1, f2⟩ := QTri.room (σ := σ) (σ₁ := σ₁) hroom hfr hlo
  obtain ⟨cq, kq, q1, q2, q3⟩ := isOf hZ rfl (hR.2.2 _ _ hcell).1
  obtain ⟨w1, w2, w3⟩ := (qw_vi W) k m2
  obtain ⟨c1, c2⟩ := (qw_cod W) k hkA
  obtain ⟨_, _, ⟨T₁, L₁, k₁, n₁⟩, -, X₁, ⟨Lc, ⟨rfl, hR1, hF1⟩, l₁, y₁, z₁⟩, st⟩ := X.virtualBack hx (own := kName (pK m)) (index := idx) (y := pName k) (z := pName k) hown (mvT hZ (qw_ml W (pK m, idx, k) m1)) (mvT hZ w1) (notFace_of_selects (args := #[]) (mvT hZ w2)) (mvT hZ w2) (mvT hZ w3) (pOwn _ (pKlt k hkN))
    (backOf (W := (rest.map fun v => v.category).sum) (rm := ⟨pFr k, σ₁.length - σ.length, qhs σ₁ - qhs σ, pLo k⟩) (Q := fun v h L => v = Option.map (qv ad) w ∧ QRep Z n0 ad h σ₁ ∧ Fr n0 L) (QTri.met hkN hcal hR (Nat.le_of_ble_eq_true hlen) hret [] (Nat.le_refl _) (Nat.le_refl _) (Nat.le_refl _) (Nat.le_refl _)) hZ c1 c2 f1 f2) q1 q3 (g := mkF mid pc C (List.map (qv ad) (as.reverse ++ .ref a :: rest))) rfl hC (Steps.refl _) (argsL := as.map (qv ad)) (rest := rest.map (qv ad)) (sig_len hkN hna) (by simp [qv]) (by show 2 * 0 + _ ≤ _; rw [cats_qv]; omega) hd2 (fun _ _ => ⟨rfl, rfl, hc1, hsl⟩)
  dsimp only [Pt.U, Pt.locs, Pt.cells, Pt.slots] at X₁ l₁ y₁ z₁ st hR1
  subst l₁ y₁ z₁
  exact ⟨T₁, Lc, X₁, hR1, hF1, fun target q => st.trans q⟩
set_option maxHeartbeats 4000000 in
theorem QTri.callI (W : QW Z a0) {pc idx k a : Nat} {L : QLoc} {S as rest : List Value} {σ σ₁ : QHeap} (hc : pCode m pc = some (.invokespecial idx, k)) (hm : (lkV.contains (pK m, idx, k) && mI.contains k) = true) (hS : S = as.reverse ++ .ref a :: rest)
    (hna : as.length = pNA k) (hlen : Nat.ble (((Value.ref a :: as).map fun v => v.category).sum) (pMaxL k) = true) (hroom : (Nat.ble (pFr k + 1) (pFr m) && Nat.ble ((rest.map fun v => v.category).sum + (pMaxL k + 11) + pLo k) (pLo m)) = true)
    (hcal : QTri l Z n0 ad k (0, qentry (.ref a :: as) (pMaxL k), [], σ) none σ₁) (h : QTri l Z n0 ad m (pc + 3, L, rest, σ₁) v σ') : QTri l Z n0 ad m (pc, L, S, σ) v σ' := by
  have hd : decode (pBytes m) pc = .ok (.invokespecial idx, 3) := pDecN hc rfl
  subst hS
  obtain ⟨m1, m2⟩ := Bool.and_eq_true_iff.mp hm
  have m1 := mem_of_contains m1
  have m2 := mem_of_contains m2
  obtain ⟨hkA, -, hin, hrt⟩ := mIlt k m2
  have hkN := mAlt k hkA
  refine QTri.after (w := none) hcal h fun p e R s mid args below meth c T locs cells slots C hcx X hR hC hc1 hsl => ?_
  obtain ⟨hx, hZ, hby, hml, hret', hown, hnm, hfr, hlo⟩ := hcx
  have hd2 : decode c.code pc = .ok (.invokespecial idx, 3) := by rw [hby]; exact hd
  obtain ⟨f1, f2⟩ := QTri.room (σ := σ) (σ₁ := σ₁) hroom hfr hlo
  obtain ⟨c1, c2⟩ := (qw_cod W) k hkA
  have c1' := c1
  rw [hrt] at c1'
  obtain ⟨_, _, ⟨T₁, L₁, k₁, n₁⟩, -, X₁, ⟨Lc, ⟨rfl, hR1, hF1⟩, l₁, y₁, z₁⟩, st⟩ := X.specialBack hx (own := kName (pK m)) (index := idx) (y := pName k) hin hown (mvT hZ (qw_ml W (pK m, idx, k) m1)) (mvT hZ ((qw_ini W) k m2)) (mvT hZ c1') (pOwn _ (pKlt k hkN))
    (backOf (W := (rest.map fun v => v.category).sum) (rm := ⟨pFr k, σ₁.length - σ.length, qhs σ₁ - qhs σ, pLo k⟩) (Q := fun v h L => v = Option.map (qv ad) none ∧ QRep Z n0 ad h σ₁ ∧ Fr n0 L) (QTri.met hkN hcal hR (Nat.le_of_ble_eq_true hlen) (fun _ => rfl) [] (Nat.le_refl _) (Nat.le_refl _) (Nat.le_refl _) (Nat.le_refl _)) hZ c1 c2 f1 f2) (g := mkF mid pc C (List.map (qv ad) (as.reverse ++ .ref a :: rest))) rfl hC (Steps.refl _) (a := ad a) (argsL := as.map (qv ad)) (rest := rest.map (qv ad)) (sig_len hkN hna) (by simp [qv]) (by show 2 * 0 + _ ≤ _; rw [cats_qv]; omega) hd2 (fun _ _ => ⟨rfl, rfl, hc1, hsl⟩)
  dsimp only [Pt.U, Pt.locs, Pt.cells, Pt.slots] at X₁ l₁ y₁ z₁ st hR1
  subst l₁ y₁ z₁
  exact ⟨T₁, Lc, X₁, hR1, hF1, fun target q => st.trans q⟩
set_option maxHeartbeats 4000000 in
theorem QTri.callP (W : QW Z a0) {pc idx k a : Nat} {L : QLoc} {S as rest vs : List Value} {σ σ₁ : QHeap} {w : Option Value} (hc : pCode m pc = some (.invokevirtual idx, k)) (hm : (lkV.contains (pK m, idx, k) && mP.contains k) = true) (hcell : hget σ a = some (.inl vs)) (hS : S = as.reverse ++ .ref a :: rest)
    (hna : as.length = pNA k) (hlen : Nat.ble (((Value.ref a :: as).map fun v => v.category).sum) (pMaxL k) = true) (hroom : (Nat.ble (pFr k + 1) (pFr m) && Nat.ble ((rest.map fun v => v.category).sum + (pMaxL k + 11) + pLo k) (pLo m)) = true) (hrb : (w.isNone || (pRet k).isSome) = true)
    (hcal : QTri l Z n0 ad k (0, qentry (.ref a :: as) (pMaxL k), [], σ) w σ₁) (h : QTri l Z n0 ad m (pc + 3, L, w.toList ++ rest, σ₁) v σ') : QTri l Z n0 ad m (pc, L, S, σ) v σ' := by
  have hd : decode (pBytes m) pc = .ok (.invokevirtual idx, 3) := pDecN hc rfl
  subst hS
  obtain ⟨m1, m2⟩ := Bool.and_eq_true_iff.mp hm
  have m1 := mem_of_contains m1
  have m2 := mem_of_contains m2
  obtain ⟨hkA, hk1⟩ := mPlt k m2
  have hkN := mAlt k hkA
  have hret : pRet k = none → w = none := fun q => by
    rw [q] at hrb
    cases w with
    | none => rfl
    | some w => simp at hrb
  refine QTri.after hcal h fun p e R s mid args below meth c T locs cells slots C hcx X hR hC hc1 hsl => ?_
  obtain ⟨hx, hZ, hby, hml, hret', hown, hnm, hfr, hlo⟩ := hcx
  have hd2 : decode c.code pc = .ok (.invokevirtual idx, 3) := by rw [hby]; exact hd
  obtain ⟨f1, f2⟩ := QTri.room (σ := σ) (σ₁ := σ₁) hroom hfr hlo
  obtain ⟨cell, h1, h2⟩ := (hR.2.2 _ _ hcell).1.cell
  obtain ⟨w1, w2⟩ := (qw_pr W) k m2
  obtain ⟨c1, c2⟩ := (qw_cod W) k hkA
  have hpr : s.PrivateAt (pName k) := Cond.privateMethod_at (mvP hZ w2 (args := #[]))
  obtain ⟨cC, kC, i1, i2, i3, i4⟩ := Cond.instantiable_spec (args := #[]) (mvT hZ (qw_inst W))
  have hsel : (Cond.selects (pName k).cls (pName k) (pName k)).before args s = true := selects_self_of_private (c := cC) (k := kC) (by show s.vm.findClass (kName (pK k)) = _; rw [hk1]; exact i1) i2 (by have q := i4.1; cases hq : kC.isInterface with | false => rfl | true => rw [hq] at q; simp at q) hpr (mvT hZ w1) (pOwn _ (pKlt k hkN))
  obtain ⟨_, _, ⟨T₁, L₁, k₁, n₁⟩, -, X₁, ⟨Lc, ⟨rfl, hR1, hF1⟩, l₁, y₁, z₁⟩, st⟩ := X.privateBack hx (own := kName (pK m)) (index := idx) (y := pName k) hown (mvT hZ (qw_ml W (pK m, idx, k) m1)) (mvT hZ w1) hsel hpr (mvT hZ c1) (pOwn _ (pKlt k hkN))
    (backOf (W := (rest.map fun v => v.category).sum) (rm := ⟨pFr k, σ₁.length - σ.length, qhs σ₁ - qhs σ, pLo k⟩) (Q := fun v h L => v = Option.map (qv ad) w ∧ QRep Z n0 ad h σ₁ ∧ Fr n0 L) (QTri.met hkN hcal hR (Nat.le_of_ble_eq_true hlen) hret [] (Nat.le_refl _) (Nat.le_refl _) (Nat.le_refl _) (Nat.le_refl _)) hZ c1 c2 f1 f2) (g := mkF mid pc C (List.map (qv ad) (as.reverse ++ .ref a :: rest))) rfl hC (Steps.refl _) (a := ad a) h1 h2 (argsL := as.map (qv ad)) (rest := rest.map (qv ad)) (sig_len hkN hna) (by simp [qv]) (by show 2 * 0 + _ ≤ _; rw [cats_qv]; omega) hd2 (fun _ _ => ⟨rfl, rfl, hc1, hsl⟩)
  dsimp only [Pt.U, Pt.locs, Pt.cells, Pt.slots] at X₁ l₁ y₁ z₁ st hR1
  subst l₁ y₁ z₁
  exact ⟨T₁, Lc, X₁, hR1, hF1, fun target q => st.trans q⟩
set_option maxHeartbeats 4000000 in
theorem QTri.callS (W : QW Z a0) {pc idx k : Nat} {L : QLoc} {S as rest : List Value} {σ σ₁ : QHeap} {w : Option Value} (hc : pCode m pc = some (.invokestatic idx, k)) (hm : (lkV.contains (pK m, idx, k) && mS.contains k) = true) (hS : S = as.reverse ++ rest)
    (hna : as.length = pNA k) (hlen : Nat.ble ((as.map fun v => v.category).sum) (pMaxL k) = true) (hroom : (Nat.ble (pFr k + 1) (pFr m) && Nat.ble ((rest.map fun v => v.category).sum + (pMaxL k + 11) + pLo k) (pLo m)) = true) (hrb : (w.isNone || (pRet k).isSome) = true)
    (hcal : QTri l Z n0 ad k (0, qentry as (pMaxL k), [], σ) w σ₁) (h : QTri l Z n0 ad m (pc + 3, L, w.toList ++ rest, σ₁) v σ') : QTri l Z n0 ad m (pc, L, S, σ) v σ' := by
  have hd : decode (pBytes m) pc = .ok (.invokestatic idx, 3) := pDecN hc rfl
  subst hS
  obtain ⟨m1, m2⟩ := Bool.and_eq_true_iff.mp hm
  have m1 := mem_of_contains m1
  have m2 := mem_of_contains m2
  have hkA := mSlt k m2
  have hkN := mAlt k hkA
  have hret : pRet k = none → w = none := fun q => by
    rw [q] at hrb
    cases w with
    | none => rfl
    | some w => simp at hrb
  refine QTri.after hcal h fun p e R s mid args below meth c T locs cells slots C hcx X hR hC hc1 hsl => ?_
  obtain ⟨hx, hZ, hby, hml, hret', hown, hnm, hfr, hlo⟩ := hcx
  have hd2 : decode c.code pc = .ok (.invokestatic idx, 3) := by rw [hby]; exact hd
  obtain ⟨f1, f2⟩ := QTri.room (σ := σ) (σ₁ := σ₁) hroom hfr hlo
  obtain ⟨c1, c2⟩ := (qw_cod W) k hkA
  obtain ⟨_, _, ⟨T₁, L₁, k₁, n₁⟩, -, X₁, ⟨Lc, ⟨rfl, hR1, hF1⟩, l₁, y₁, z₁⟩, st⟩ := Jvm.LawKit.callS X hx (own := kName (pK m)) (index := idx) (y := pName k) hown (mvT hZ (qw_ml W (pK m, idx, k) m1)) (mvT hZ ((qw_st W) k m2)) (mvT hZ c2) (mvT hZ c1) (pOwn _ (pKlt k hkN))
    (backOf (W := (rest.map fun v => v.category).sum) (rm := ⟨pFr k, σ₁.length - σ.length, qhs σ₁ - qhs σ, pLo k⟩) (Q := fun v h L => v = Option.map (qv ad) w ∧ QRep Z n0 ad h σ₁ ∧ Fr n0 L) (QTri.met hkN hcal hR (Nat.le_of_ble_eq_true hlen) hret [] (Nat.le_refl _) (Nat.le_refl _) (Nat.le_refl _) (Nat.le_refl _)) hZ c1 c2 f1 f2) (g := mkF mid pc C (List.map (qv ad) (as.reverse ++ rest))) rfl hC (argsL := as.map (qv ad)) (rest := rest.map (qv ad)) (sig_len hkN hna) (by simp) (by show 2 * 0 + _ ≤ _; rw [cats_qv]; omega) hd2 (fun _ _ => ⟨rfl, rfl, hc1, hsl⟩)
  dsimp only [Pt.U, Pt.locs, Pt.cells, Pt.slots] at X₁ l₁ y₁ z₁ st hR1
  subst l₁ y₁ z₁
  exact ⟨T₁, Lc, X₁, hR1, hF1, fun target q => st target q⟩
set_option maxHeartbeats 4000000 in
theorem QTri.callO (W : QW Z a0) {pc idx k a : Nat} {L : QLoc} {rest : List Value} {σ : QHeap} (hc : pCode m pc = some (.invokespecial idx, k)) (hm : lkO.contains (pK m, idx) = true) (hroom : (Nat.ble 1 (pFr m) && Nat.ble ((rest.map fun v => v.category).sum + 12) (pLo m)) = true)
    (h : QTri l Z n0 ad m (pc + 3, L, rest, σ) v σ') : QTri l Z n0 ad m (pc, L, .ref a :: rest, σ) v σ' :=
  have hd : decode (pBytes m) pc = .ok (.invokespecial idx, 3) := pDecN hc rfl
  QTri.pure h rfl fun p e R s mid args below meth c T locs cells slots C hcx X hR hL hC => by
    obtain ⟨hx, hZ, hby, hml, hret', hown, hnm, hfr, hlo⟩ := hcx
    have hd2 : decode c.code pc = .ok (.invokespecial idx, 3) := by rw [hby]; exact hd
    obtain ⟨q1, q2⟩ := Bool.and_eq_true_iff.mp hroom
    obtain ⟨T₁, X₁, e₁, st⟩ := initO X hx hZ hown (idx := idx) (qw_mo W (pK m, idx) (mem_of_contains hm)) ((qw_oi W)) ((qw_oc W)) rfl (g := mkF mid pc C (List.map (qv ad) (.ref a :: rest))) rfl hC rfl hd2 (Nat.le_trans (Nat.le_of_ble_eq_true q1) hfr) (W := (rest.map fun v => v.category).sum) (by show 2 * 0 + _ ≤ _; rw [cats_qv]; omega) (Nat.le_trans (Nat.le_of_ble_eq_true q2) hlo)
    exact ⟨T₁, C, X₁, e₁, hL, hC, st⟩
theorem QTri.brT (Ad : QAd n0 ad) (W : QW Z a0) {st : QSt} {t f : Nat} {L : QLoc} {S : List Value} {σ : QHeap} {b : Bool} (hs : qstep m st = some (bif b then t else f, L, S, σ)) (hb : b = true) (h : QTri l Z n0 ad m (t, L, S, σ) v σ') : QTri l Z n0 ad m st v σ' := by
  subst hb; exact QTri.step Ad W h hs
theorem QTri.brF (Ad : QAd n0 ad) (W : QW Z a0) {st : QSt} {t f : Nat} {L : QLoc} {S : List Value} {σ : QHeap} {b : Bool} (hs : qstep m st = some (bif b then t else f, L, S, σ)) (hb : b = false) (h : QTri l Z n0 ad m (f, L, S, σ) v σ') : QTri l Z n0 ad m st v σ' := by
  subst hb; exact QTri.step Ad W h hs
theorem QTri.bnd {α : Type} (Ad : QAd n0 ad) (W : QW Z a0) {st : QSt} {x : Option α} {f : α → QSt} {a : α} (hs : qstep m st = x.bind fun v => some (f v)) (hx : x = some a) (h : QTri l Z n0 ad m (f a) v σ') : QTri l Z n0 ad m st v σ' :=
  QTri.step Ad W h (by rw [hs, hx]; rfl)
theorem QTri.bndB (Ad : QAd n0 ad) (W : QW Z a0) {st : QSt} {x y : Int32} {g : Value → QSt} (hs : qstep m st = ((qboo x).bind fun y => some (Value.int y)).bind fun w => some (g w)) (hx : qboo x = some y) (h : QTri l Z n0 ad m (g (.int y)) v σ') : QTri l Z n0 ad m st v σ' :=
  QTri.step Ad W h (by rw [hs, hx]; rfl)
end Triples
/-! ## plain: branches and loops -/
theorem qite {α : Type} {c : Prop} [Decidable c] {a b : Option α} {r : α} (h : (if c then a else b) = some r) : (c ∧ a = some r) ∨ (¬ c ∧ b = some r) := by
  by_cases hc : c
  · exact Or.inl ⟨hc, by rwa [if_pos hc] at h⟩
  · exact Or.inr ⟨hc, by rwa [if_neg hc] at h⟩
def qN : Nat := 4000
def loopN {V E : Type} (B : V → Option (E ⊕ V)) : Nat → V → Option E
  | 0, _ => none
  | n + 1, v => match B v with
    | none => none
    | some (.inl e) => some e
    | some (.inr v') => loopN B n v'
theorem loopN_tri {V E : Type} {B : V → Option (E ⊕ V)} {T : V → Prop} {KE : E → Prop} (hB : ∀ v r, B v = some r → (∀ e, r = .inl e → KE e) → (∀ v', r = .inr v' → T v') → T v) : ∀ (n : Nat) (v : V) (e : E), loopN B n v = some e → KE e → T v
  | 0, _, _, h, _ => by cases h
  | n + 1, v, e, h, k => by
    simp only [loopN] at h
    split at h
    · cases h
    · rename_i e' he
      cases h
      exact hB v _ he (fun e q => by cases q; exact k) (fun v' q => by cases q)
    · rename_i v' he
      exact hB v _ he (fun e q => by cases q) (fun v'' q => by cases q; exact loopN_tri hB n v' e h k)
/-- a loop: an invariant, a measure -/
theorem loopN_inv {V E : Type} {B : V → Option (E ⊕ V)} (I : V → Prop) (P : E → Prop) (μ : V → Nat) (hB : ∀ v, I v → (∃ e, B v = some (.inl e) ∧ P e) ∨ ∃ v', B v = some (.inr v') ∧ I v' ∧ μ v' < μ v) : ∀ (n : Nat) (v : V), I v → μ v < n → ∃ e, loopN B n v = some e ∧ P e
  | 0, _, _, h => absurd h (Nat.not_lt_zero _)
  | n + 1, v, hv, hm => by
    rcases hB v hv with ⟨e, h1, h2⟩ | ⟨v', h1, h2, h3⟩
    · exact ⟨e, by simp only [loopN, h1], h2⟩
    · obtain ⟨e, g1, g2⟩ := loopN_inv I P μ hB n v' h2 (by omega)
      exact ⟨e, by simp only [loopN, h1]; exact g1, g2⟩
theorem qfn {α : Type} {P : α → Prop} : ∀ t ∈ ([] : List α), P t := fun _ h => nomatch h
theorem qfc {α : Type} {P : α → Prop} {a : α} {t : List α} (h : P a) (ht : ∀ x ∈ t, P x) : ∀ x ∈ a :: t, P x := fun x hx => by rcases List.mem_cons.mp hx with rfl | q; exact h; exact ht x q
theorem QW_ok {Z : State} {a0 : Array Value} (hw : ∀ d ∈ tables_1, d.before a0 Z = true) : QW Z a0 := by
  have w0 : ∀ k ∈ List.range nF, bif fFin k then (Jvm.Cond.laysFinal cName cName (fNm k) (fDs k)).before a0 Z = true else (Jvm.Cond.lays cName cName (fNm k) (fDs k)).before a0 Z = true :=
    show ∀ k ∈ [0, 1, 2, 3, 4, 5, 6, 7, 8, 9, 10, 11, 12, 13, 14, 15, 16, 17], bif fFin k then (Jvm.Cond.laysFinal cName cName (fNm k) (fDs k)).before a0 Z = true else (Jvm.Cond.lays cName cName (fNm k) (fDs k)).before a0 Z = true from
    (qfc (hw _ (List.mem_of_getElem? (i := 10) rfl)) (qfc (hw _ (List.mem_of_getElem? (i := 12) rfl)) (qfc (hw _ (List.mem_of_getElem? (i := 14) rfl)) (qfc (hw _ (List.mem_of_getElem? (i := 16) rfl)) (qfc (hw _ (List.mem_of_getElem? (i := 18) rfl)) (qfc (hw _ (List.mem_of_getElem? (i := 20) rfl)) (qfc (hw _ (List.mem_of_getElem? (i := 23) rfl)) (qfc (hw _ (List.mem_of_getElem? (i := 25) rfl)) (qfc (hw _ (List.mem_of_getElem? (i := 27) rfl)) (qfc (hw _ (List.mem_of_getElem? (i := 29) rfl)) (qfc (hw _ (List.mem_of_getElem? (i := 31) rfl)) (qfc (hw _ (List.mem_of_getElem? (i := 33) rfl)) (qfc (hw _ (List.mem_of_getElem? (i := 35) rfl)) (qfc (hw _ (List.mem_of_getElem? (i := 37) rfl)) (qfc (hw _ (List.mem_of_getElem? (i := 39) rfl)) (qfc (hw _ (List.mem_of_getElem? (i := 41) rfl)) (qfc (hw _ (List.mem_of_getElem? (i := 43) rfl)) (qfc (hw _ (List.mem_of_getElem? (i := 45) rfl)) qfn))))))))))))))))))
  refine ⟨?_, ?_, ?_, ?_, ?_, ?_, ?_, ?_, ?_, ?_, ?_, ?_, ?_, (fun k hk => w0 k (List.mem_range.mpr hk)), ?_, ?_, ?_⟩
  · exact (qfc (hw _ (List.mem_of_getElem? (i := 9) rfl)) (qfc (hw _ (List.mem_of_getElem? (i := 11) rfl)) (qfc (hw _ (List.mem_of_getElem? (i := 13) rfl)) (qfc (hw _ (List.mem_of_getElem? (i := 15) rfl)) (qfc (hw _ (List.mem_of_getElem? (i := 17) rfl)) (qfc (hw _ (List.mem_of_getElem? (i := 19) rfl)) (qfc (hw _ (List.mem_of_getElem? (i := 22) rfl)) (qfc (hw _ (List.mem_of_getElem? (i := 24) rfl)) (qfc (hw _ (List.mem_of_getElem? (i := 26) rfl)) (qfc (hw _ (List.mem_of_getElem? (i := 28) rfl)) (qfc (hw _ (List.mem_of_getElem? (i := 30) rfl)) (qfc (hw _ (List.mem_of_getElem? (i := 32) rfl)) (qfc (hw _ (List.mem_of_getElem? (i := 34) rfl)) (qfc (hw _ (List.mem_of_getElem? (i := 36) rfl)) (qfc (hw _ (List.mem_of_getElem? (i := 38) rfl)) (qfc (hw _ (List.mem_of_getElem? (i := 40) rfl)) (qfc (hw _ (List.mem_of_getElem? (i := 42) rfl)) (qfc (hw _ (List.mem_of_getElem? (i := 44) rfl)) qfn))))))))))))))))))
  · exact (qfc (hw _ (List.mem_of_getElem? (i := 0) rfl)) qfn)
  · exact qfn
  · exact qfn
  · exact (qfc (hw _ (List.mem_of_getElem? (i := 3) rfl)) (qfc (hw _ (List.mem_of_getElem? (i := 46) rfl)) (qfc (hw _ (List.mem_of_getElem? (i := 50) rfl)) (qfc (hw _ (List.mem_of_getElem? (i := 54) rfl)) (qfc (hw _ (List.mem_of_getElem? (i := 58) rfl)) (qfc (hw _ (List.mem_of_getElem? (i := 62) rfl)) (qfc (hw _ (List.mem_of_getElem? (i := 66) rfl)) (qfc (hw _ (List.mem_of_getElem? (i := 70) rfl)) (qfc (hw _ (List.mem_of_getElem? (i := 74) rfl)) (qfc (hw _ (List.mem_of_getElem? (i := 79) rfl)) (qfc (hw _ (List.mem_of_getElem? (i := 84) rfl)) (qfc (hw _ (List.mem_of_getElem? (i := 89) rfl)) (qfc (hw _ (List.mem_of_getElem? (i := 93) rfl)) (qfc (hw _ (List.mem_of_getElem? (i := 98) rfl)) (qfc (hw _ (List.mem_of_getElem? (i := 103) rfl)) (qfc (hw _ (List.mem_of_getElem? (i := 108) rfl)) (qfc (hw _ (List.mem_of_getElem? (i := 113) rfl)) (qfc (hw _ (List.mem_of_getElem? (i := 118) rfl)) (qfc (hw _ (List.mem_of_getElem? (i := 123) rfl)) (qfc (hw _ (List.mem_of_getElem? (i := 127) rfl)) (qfc (hw _ (List.mem_of_getElem? (i := 132) rfl)) (qfc (hw _ (List.mem_of_getElem? (i := 136) rfl)) (qfc (hw _ (List.mem_of_getElem? (i := 140) rfl)) (qfc (hw _ (List.mem_of_getElem? (i := 144) rfl)) (qfc (hw _ (List.mem_of_getElem? (i := 148) rfl)) (qfc (hw _ (List.mem_of_getElem? (i := 152) rfl)) (qfc (hw _ (List.mem_of_getElem? (i := 156) rfl)) (qfc (hw _ (List.mem_of_getElem? (i := 160) rfl)) (qfc (hw _ (List.mem_of_getElem? (i := 164) rfl)) (qfc (hw _ (List.mem_of_getElem? (i := 168) rfl)) (qfc (hw _ (List.mem_of_getElem? (i := 172) rfl)) (qfc (hw _ (List.mem_of_getElem? (i := 176) rfl)) (qfc (hw _ (List.mem_of_getElem? (i := 180) rfl)) qfn)))))))))))))))))))))))))))))))))
  · exact (qfc (hw _ (List.mem_of_getElem? (i := 6) rfl)) qfn)
  · exact (qfc ⟨(hw _ (List.mem_of_getElem? (i := 75) rfl)), (hw _ (List.mem_of_getElem? (i := 77) rfl)), (hw _ (List.mem_of_getElem? (i := 76) rfl))⟩ (qfc ⟨(hw _ (List.mem_of_getElem? (i := 80) rfl)), (hw _ (List.mem_of_getElem? (i := 82) rfl)), (hw _ (List.mem_of_getElem? (i := 81) rfl))⟩ (qfc ⟨(hw _ (List.mem_of_getElem? (i := 85) rfl)), (hw _ (List.mem_of_getElem? (i := 87) rfl)), (hw _ (List.mem_of_getElem? (i := 86) rfl))⟩ (qfc ⟨(hw _ (List.mem_of_getElem? (i := 94) rfl)), (hw _ (List.mem_of_getElem? (i := 96) rfl)), (hw _ (List.mem_of_getElem? (i := 95) rfl))⟩ (qfc ⟨(hw _ (List.mem_of_getElem? (i := 99) rfl)), (hw _ (List.mem_of_getElem? (i := 101) rfl)), (hw _ (List.mem_of_getElem? (i := 100) rfl))⟩ (qfc ⟨(hw _ (List.mem_of_getElem? (i := 104) rfl)), (hw _ (List.mem_of_getElem? (i := 106) rfl)), (hw _ (List.mem_of_getElem? (i := 105) rfl))⟩ (qfc ⟨(hw _ (List.mem_of_getElem? (i := 109) rfl)), (hw _ (List.mem_of_getElem? (i := 111) rfl)), (hw _ (List.mem_of_getElem? (i := 110) rfl))⟩ (qfc ⟨(hw _ (List.mem_of_getElem? (i := 114) rfl)), (hw _ (List.mem_of_getElem? (i := 116) rfl)), (hw _ (List.mem_of_getElem? (i := 115) rfl))⟩ (qfc ⟨(hw _ (List.mem_of_getElem? (i := 119) rfl)), (hw _ (List.mem_of_getElem? (i := 121) rfl)), (hw _ (List.mem_of_getElem? (i := 120) rfl))⟩ (qfc ⟨(hw _ (List.mem_of_getElem? (i := 128) rfl)), (hw _ (List.mem_of_getElem? (i := 130) rfl)), (hw _ (List.mem_of_getElem? (i := 129) rfl))⟩ qfn))))))))))
  · exact (qfc ⟨(hw _ (List.mem_of_getElem? (i := 47) rfl)), (hw _ (List.mem_of_getElem? (i := 48) rfl))⟩ (qfc ⟨(hw _ (List.mem_of_getElem? (i := 51) rfl)), (hw _ (List.mem_of_getElem? (i := 52) rfl))⟩ (qfc ⟨(hw _ (List.mem_of_getElem? (i := 55) rfl)), (hw _ (List.mem_of_getElem? (i := 56) rfl))⟩ (qfc ⟨(hw _ (List.mem_of_getElem? (i := 59) rfl)), (hw _ (List.mem_of_getElem? (i := 60) rfl))⟩ (qfc ⟨(hw _ (List.mem_of_getElem? (i := 63) rfl)), (hw _ (List.mem_of_getElem? (i := 64) rfl))⟩ (qfc ⟨(hw _ (List.mem_of_getElem? (i := 67) rfl)), (hw _ (List.mem_of_getElem? (i := 68) rfl))⟩ (qfc ⟨(hw _ (List.mem_of_getElem? (i := 90) rfl)), (hw _ (List.mem_of_getElem? (i := 91) rfl))⟩ (qfc ⟨(hw _ (List.mem_of_getElem? (i := 124) rfl)), (hw _ (List.mem_of_getElem? (i := 125) rfl))⟩ (qfc ⟨(hw _ (List.mem_of_getElem? (i := 133) rfl)), (hw _ (List.mem_of_getElem? (i := 134) rfl))⟩ (qfc ⟨(hw _ (List.mem_of_getElem? (i := 137) rfl)), (hw _ (List.mem_of_getElem? (i := 138) rfl))⟩ (qfc ⟨(hw _ (List.mem_of_getElem? (i := 141) rfl)), (hw _ (List.mem_of_getElem? (i := 142) rfl))⟩ (qfc ⟨(hw _ (List.mem_of_getElem? (i := 145) rfl)), (hw _ (List.mem_of_getElem? (i := 146) rfl))⟩ (qfc ⟨(hw _ (List.mem_of_getElem? (i := 149) rfl)), (hw _ (List.mem_of_getElem? (i := 150) rfl))⟩ (qfc ⟨(hw _ (List.mem_of_getElem? (i := 153) rfl)), (hw _ (List.mem_of_getElem? (i := 154) rfl))⟩ (qfc ⟨(hw _ (List.mem_of_getElem? (i := 157) rfl)), (hw _ (List.mem_of_getElem? (i := 158) rfl))⟩ (qfc ⟨(hw _ (List.mem_of_getElem? (i := 161) rfl)), (hw _ (List.mem_of_getElem? (i := 162) rfl))⟩ (qfc ⟨(hw _ (List.mem_of_getElem? (i := 165) rfl)), (hw _ (List.mem_of_getElem? (i := 166) rfl))⟩ (qfc ⟨(hw _ (List.mem_of_getElem? (i := 169) rfl)), (hw _ (List.mem_of_getElem? (i := 170) rfl))⟩ (qfc ⟨(hw _ (List.mem_of_getElem? (i := 173) rfl)), (hw _ (List.mem_of_getElem? (i := 174) rfl))⟩ (qfc ⟨(hw _ (List.mem_of_getElem? (i := 177) rfl)), (hw _ (List.mem_of_getElem? (i := 178) rfl))⟩ (qfc ⟨(hw _ (List.mem_of_getElem? (i := 181) rfl)), (hw _ (List.mem_of_getElem? (i := 182) rfl))⟩ qfn)))))))))))))))))))))
  · exact (qfc (hw _ (List.mem_of_getElem? (i := 71) rfl)) qfn)
  · exact (qfc (hw _ (List.mem_of_getElem? (i := 4) rfl)) qfn)
  · exact (qfc ⟨(hw _ (List.mem_of_getElem? (i := 5) rfl)), (hw _ (List.mem_of_getElem? (i := 2) rfl))⟩ (qfc ⟨(hw _ (List.mem_of_getElem? (i := 49) rfl)), (hw _ (List.mem_of_getElem? (i := 2) rfl))⟩ (qfc ⟨(hw _ (List.mem_of_getElem? (i := 53) rfl)), (hw _ (List.mem_of_getElem? (i := 2) rfl))⟩ (qfc ⟨(hw _ (List.mem_of_getElem? (i := 57) rfl)), (hw _ (List.mem_of_getElem? (i := 2) rfl))⟩ (qfc ⟨(hw _ (List.mem_of_getElem? (i := 61) rfl)), (hw _ (List.mem_of_getElem? (i := 2) rfl))⟩ (qfc ⟨(hw _ (List.mem_of_getElem? (i := 65) rfl)), (hw _ (List.mem_of_getElem? (i := 2) rfl))⟩ (qfc ⟨(hw _ (List.mem_of_getElem? (i := 69) rfl)), (hw _ (List.mem_of_getElem? (i := 2) rfl))⟩ (qfc ⟨(hw _ (List.mem_of_getElem? (i := 73) rfl)), (hw _ (List.mem_of_getElem? (i := 72) rfl))⟩ (qfc ⟨(hw _ (List.mem_of_getElem? (i := 78) rfl)), (hw _ (List.mem_of_getElem? (i := 2) rfl))⟩ (qfc ⟨(hw _ (List.mem_of_getElem? (i := 83) rfl)), (hw _ (List.mem_of_getElem? (i := 2) rfl))⟩ (qfc ⟨(hw _ (List.mem_of_getElem? (i := 88) rfl)), (hw _ (List.mem_of_getElem? (i := 2) rfl))⟩ (qfc ⟨(hw _ (List.mem_of_getElem? (i := 92) rfl)), (hw _ (List.mem_of_getElem? (i := 2) rfl))⟩ (qfc ⟨(hw _ (List.mem_of_getElem? (i := 97) rfl)), (hw _ (List.mem_of_getElem? (i := 2) rfl))⟩ (qfc ⟨(hw _ (List.mem_of_getElem? (i := 102) rfl)), (hw _ (List.mem_of_getElem? (i := 2) rfl))⟩ (qfc ⟨(hw _ (List.mem_of_getElem? (i := 107) rfl)), (hw _ (List.mem_of_getElem? (i := 2) rfl))⟩ (qfc ⟨(hw _ (List.mem_of_getElem? (i := 112) rfl)), (hw _ (List.mem_of_getElem? (i := 2) rfl))⟩ (qfc ⟨(hw _ (List.mem_of_getElem? (i := 117) rfl)), (hw _ (List.mem_of_getElem? (i := 2) rfl))⟩ (qfc ⟨(hw _ (List.mem_of_getElem? (i := 122) rfl)), (hw _ (List.mem_of_getElem? (i := 2) rfl))⟩ (qfc ⟨(hw _ (List.mem_of_getElem? (i := 126) rfl)), (hw _ (List.mem_of_getElem? (i := 2) rfl))⟩ (qfc ⟨(hw _ (List.mem_of_getElem? (i := 131) rfl)), (hw _ (List.mem_of_getElem? (i := 2) rfl))⟩ (qfc ⟨(hw _ (List.mem_of_getElem? (i := 135) rfl)), (hw _ (List.mem_of_getElem? (i := 2) rfl))⟩ (qfc ⟨(hw _ (List.mem_of_getElem? (i := 139) rfl)), (hw _ (List.mem_of_getElem? (i := 2) rfl))⟩ (qfc ⟨(hw _ (List.mem_of_getElem? (i := 143) rfl)), (hw _ (List.mem_of_getElem? (i := 2) rfl))⟩ (qfc ⟨(hw _ (List.mem_of_getElem? (i := 147) rfl)), (hw _ (List.mem_of_getElem? (i := 2) rfl))⟩ (qfc ⟨(hw _ (List.mem_of_getElem? (i := 151) rfl)), (hw _ (List.mem_of_getElem? (i := 2) rfl))⟩ (qfc ⟨(hw _ (List.mem_of_getElem? (i := 155) rfl)), (hw _ (List.mem_of_getElem? (i := 2) rfl))⟩ (qfc ⟨(hw _ (List.mem_of_getElem? (i := 159) rfl)), (hw _ (List.mem_of_getElem? (i := 2) rfl))⟩ (qfc ⟨(hw _ (List.mem_of_getElem? (i := 163) rfl)), (hw _ (List.mem_of_getElem? (i := 2) rfl))⟩ (qfc ⟨(hw _ (List.mem_of_getElem? (i := 167) rfl)), (hw _ (List.mem_of_getElem? (i := 2) rfl))⟩ (qfc ⟨(hw _ (List.mem_of_getElem? (i := 171) rfl)), (hw _ (List.mem_of_getElem? (i := 2) rfl))⟩ (qfc ⟨(hw _ (List.mem_of_getElem? (i := 175) rfl)), (hw _ (List.mem_of_getElem? (i := 2) rfl))⟩ (qfc ⟨(hw _ (List.mem_of_getElem? (i := 179) rfl)), (hw _ (List.mem_of_getElem? (i := 2) rfl))⟩ (qfc ⟨(hw _ (List.mem_of_getElem? (i := 183) rfl)), (hw _ (List.mem_of_getElem? (i := 2) rfl))⟩ qfn)))))))))))))))))))))))))))))))))
  · exact (hw _ (List.mem_of_getElem? (i := 7) rfl))
  · exact (hw _ (List.mem_of_getElem? (i := 8) rfl))
  · exact (hw _ (List.mem_of_getElem? (i := 1) rfl))
  · exact (hw _ (List.mem_of_getElem? (i := 2) rfl))
  · exact (qfc (hw _ (List.mem_of_getElem? (i := 21) rfl)) qfn)
abbrev Ob := Int32 × Int32 × Int32 × Int32 × Int32 × Int32 × List Int32 × List Int32 × List Int32 × List Int32 × List Int32 × List Int32 × List Int32 × List Int32 × List Int32 × Int32 × Int32 × Int32
def f_regTuple (o : Ob) : Int32 := o.1
def f_regA (o : Ob) : Int32 := o.2.1
def f_regB (o : Ob) : Int32 := o.2.2.1
def f_regC (o : Ob) : Int32 := o.2.2.2.1
def f_regCount (o : Ob) : Int32 := o.2.2.2.2.1
def f_slots (o : Ob) : Int32 := o.2.2.2.2.2.1
def f_range (o : Ob) : List Int32 := o.2.2.2.2.2.2.1
def f_slide (o : Ob) : List Int32 := o.2.2.2.2.2.2.2.1
def f_frontSize (o : Ob) : List Int32 := o.2.2.2.2.2.2.2.2.1
def f_backSize (o : Ob) : List Int32 := o.2.2.2.2.2.2.2.2.2.1
def f_backElem (o : Ob) : List Int32 := o.2.2.2.2.2.2.2.2.2.2.1
def f_frontAgg (o : Ob) : List Int32 := o.2.2.2.2.2.2.2.2.2.2.2.1
def f_backAgg (o : Ob) : List Int32 := o.2.2.2.2.2.2.2.2.2.2.2.2.1
def f_snap (o : Ob) : List Int32 := o.2.2.2.2.2.2.2.2.2.2.2.2.2.1
def f_reg (o : Ob) : List Int32 := o.2.2.2.2.2.2.2.2.2.2.2.2.2.2.1
def f_capacity (o : Ob) : Int32 := o.2.2.2.2.2.2.2.2.2.2.2.2.2.2.2.1
def f_queries (o : Ob) : Int32 := o.2.2.2.2.2.2.2.2.2.2.2.2.2.2.2.2.1
def f_n (o : Ob) : Int32 := o.2.2.2.2.2.2.2.2.2.2.2.2.2.2.2.2.2
def s_regTuple (o : Ob) (v : Int32) : Ob := (v, o.2.1, o.2.2.1, o.2.2.2.1, o.2.2.2.2.1, o.2.2.2.2.2.1, o.2.2.2.2.2.2.1, o.2.2.2.2.2.2.2.1, o.2.2.2.2.2.2.2.2.1, o.2.2.2.2.2.2.2.2.2.1, o.2.2.2.2.2.2.2.2.2.2.1, o.2.2.2.2.2.2.2.2.2.2.2.1, o.2.2.2.2.2.2.2.2.2.2.2.2.1, o.2.2.2.2.2.2.2.2.2.2.2.2.2.1, o.2.2.2.2.2.2.2.2.2.2.2.2.2.2.1, o.2.2.2.2.2.2.2.2.2.2.2.2.2.2.2.1, o.2.2.2.2.2.2.2.2.2.2.2.2.2.2.2.2.1, o.2.2.2.2.2.2.2.2.2.2.2.2.2.2.2.2.2)
def s_regA (o : Ob) (v : Int32) : Ob := (o.1, v, o.2.2.1, o.2.2.2.1, o.2.2.2.2.1, o.2.2.2.2.2.1, o.2.2.2.2.2.2.1, o.2.2.2.2.2.2.2.1, o.2.2.2.2.2.2.2.2.1, o.2.2.2.2.2.2.2.2.2.1, o.2.2.2.2.2.2.2.2.2.2.1, o.2.2.2.2.2.2.2.2.2.2.2.1, o.2.2.2.2.2.2.2.2.2.2.2.2.1, o.2.2.2.2.2.2.2.2.2.2.2.2.2.1, o.2.2.2.2.2.2.2.2.2.2.2.2.2.2.1, o.2.2.2.2.2.2.2.2.2.2.2.2.2.2.2.1, o.2.2.2.2.2.2.2.2.2.2.2.2.2.2.2.2.1, o.2.2.2.2.2.2.2.2.2.2.2.2.2.2.2.2.2)
def s_regB (o : Ob) (v : Int32) : Ob := (o.1, o.2.1, v, o.2.2.2.1, o.2.2.2.2.1, o.2.2.2.2.2.1, o.2.2.2.2.2.2.1, o.2.2.2.2.2.2.2.1, o.2.2.2.2.2.2.2.2.1, o.2.2.2.2.2.2.2.2.2.1, o.2.2.2.2.2.2.2.2.2.2.1, o.2.2.2.2.2.2.2.2.2.2.2.1, o.2.2.2.2.2.2.2.2.2.2.2.2.1, o.2.2.2.2.2.2.2.2.2.2.2.2.2.1, o.2.2.2.2.2.2.2.2.2.2.2.2.2.2.1, o.2.2.2.2.2.2.2.2.2.2.2.2.2.2.2.1, o.2.2.2.2.2.2.2.2.2.2.2.2.2.2.2.2.1, o.2.2.2.2.2.2.2.2.2.2.2.2.2.2.2.2.2)
def s_regC (o : Ob) (v : Int32) : Ob := (o.1, o.2.1, o.2.2.1, v, o.2.2.2.2.1, o.2.2.2.2.2.1, o.2.2.2.2.2.2.1, o.2.2.2.2.2.2.2.1, o.2.2.2.2.2.2.2.2.1, o.2.2.2.2.2.2.2.2.2.1, o.2.2.2.2.2.2.2.2.2.2.1, o.2.2.2.2.2.2.2.2.2.2.2.1, o.2.2.2.2.2.2.2.2.2.2.2.2.1, o.2.2.2.2.2.2.2.2.2.2.2.2.2.1, o.2.2.2.2.2.2.2.2.2.2.2.2.2.2.1, o.2.2.2.2.2.2.2.2.2.2.2.2.2.2.2.1, o.2.2.2.2.2.2.2.2.2.2.2.2.2.2.2.2.1, o.2.2.2.2.2.2.2.2.2.2.2.2.2.2.2.2.2)
def s_regCount (o : Ob) (v : Int32) : Ob := (o.1, o.2.1, o.2.2.1, o.2.2.2.1, v, o.2.2.2.2.2.1, o.2.2.2.2.2.2.1, o.2.2.2.2.2.2.2.1, o.2.2.2.2.2.2.2.2.1, o.2.2.2.2.2.2.2.2.2.1, o.2.2.2.2.2.2.2.2.2.2.1, o.2.2.2.2.2.2.2.2.2.2.2.1, o.2.2.2.2.2.2.2.2.2.2.2.2.1, o.2.2.2.2.2.2.2.2.2.2.2.2.2.1, o.2.2.2.2.2.2.2.2.2.2.2.2.2.2.1, o.2.2.2.2.2.2.2.2.2.2.2.2.2.2.2.1, o.2.2.2.2.2.2.2.2.2.2.2.2.2.2.2.2.1, o.2.2.2.2.2.2.2.2.2.2.2.2.2.2.2.2.2)
def s_slots (o : Ob) (v : Int32) : Ob := (o.1, o.2.1, o.2.2.1, o.2.2.2.1, o.2.2.2.2.1, v, o.2.2.2.2.2.2.1, o.2.2.2.2.2.2.2.1, o.2.2.2.2.2.2.2.2.1, o.2.2.2.2.2.2.2.2.2.1, o.2.2.2.2.2.2.2.2.2.2.1, o.2.2.2.2.2.2.2.2.2.2.2.1, o.2.2.2.2.2.2.2.2.2.2.2.2.1, o.2.2.2.2.2.2.2.2.2.2.2.2.2.1, o.2.2.2.2.2.2.2.2.2.2.2.2.2.2.1, o.2.2.2.2.2.2.2.2.2.2.2.2.2.2.2.1, o.2.2.2.2.2.2.2.2.2.2.2.2.2.2.2.2.1, o.2.2.2.2.2.2.2.2.2.2.2.2.2.2.2.2.2)
def s_range (o : Ob) (v : List Int32) : Ob := (o.1, o.2.1, o.2.2.1, o.2.2.2.1, o.2.2.2.2.1, o.2.2.2.2.2.1, v, o.2.2.2.2.2.2.2.1, o.2.2.2.2.2.2.2.2.1, o.2.2.2.2.2.2.2.2.2.1, o.2.2.2.2.2.2.2.2.2.2.1, o.2.2.2.2.2.2.2.2.2.2.2.1, o.2.2.2.2.2.2.2.2.2.2.2.2.1, o.2.2.2.2.2.2.2.2.2.2.2.2.2.1, o.2.2.2.2.2.2.2.2.2.2.2.2.2.2.1, o.2.2.2.2.2.2.2.2.2.2.2.2.2.2.2.1, o.2.2.2.2.2.2.2.2.2.2.2.2.2.2.2.2.1, o.2.2.2.2.2.2.2.2.2.2.2.2.2.2.2.2.2)
def s_slide (o : Ob) (v : List Int32) : Ob := (o.1, o.2.1, o.2.2.1, o.2.2.2.1, o.2.2.2.2.1, o.2.2.2.2.2.1, o.2.2.2.2.2.2.1, v, o.2.2.2.2.2.2.2.2.1, o.2.2.2.2.2.2.2.2.2.1, o.2.2.2.2.2.2.2.2.2.2.1, o.2.2.2.2.2.2.2.2.2.2.2.1, o.2.2.2.2.2.2.2.2.2.2.2.2.1, o.2.2.2.2.2.2.2.2.2.2.2.2.2.1, o.2.2.2.2.2.2.2.2.2.2.2.2.2.2.1, o.2.2.2.2.2.2.2.2.2.2.2.2.2.2.2.1, o.2.2.2.2.2.2.2.2.2.2.2.2.2.2.2.2.1, o.2.2.2.2.2.2.2.2.2.2.2.2.2.2.2.2.2)
def s_frontSize (o : Ob) (v : List Int32) : Ob := (o.1, o.2.1, o.2.2.1, o.2.2.2.1, o.2.2.2.2.1, o.2.2.2.2.2.1, o.2.2.2.2.2.2.1, o.2.2.2.2.2.2.2.1, v, o.2.2.2.2.2.2.2.2.2.1, o.2.2.2.2.2.2.2.2.2.2.1, o.2.2.2.2.2.2.2.2.2.2.2.1, o.2.2.2.2.2.2.2.2.2.2.2.2.1, o.2.2.2.2.2.2.2.2.2.2.2.2.2.1, o.2.2.2.2.2.2.2.2.2.2.2.2.2.2.1, o.2.2.2.2.2.2.2.2.2.2.2.2.2.2.2.1, o.2.2.2.2.2.2.2.2.2.2.2.2.2.2.2.2.1, o.2.2.2.2.2.2.2.2.2.2.2.2.2.2.2.2.2)
def s_backSize (o : Ob) (v : List Int32) : Ob := (o.1, o.2.1, o.2.2.1, o.2.2.2.1, o.2.2.2.2.1, o.2.2.2.2.2.1, o.2.2.2.2.2.2.1, o.2.2.2.2.2.2.2.1, o.2.2.2.2.2.2.2.2.1, v, o.2.2.2.2.2.2.2.2.2.2.1, o.2.2.2.2.2.2.2.2.2.2.2.1, o.2.2.2.2.2.2.2.2.2.2.2.2.1, o.2.2.2.2.2.2.2.2.2.2.2.2.2.1, o.2.2.2.2.2.2.2.2.2.2.2.2.2.2.1, o.2.2.2.2.2.2.2.2.2.2.2.2.2.2.2.1, o.2.2.2.2.2.2.2.2.2.2.2.2.2.2.2.2.1, o.2.2.2.2.2.2.2.2.2.2.2.2.2.2.2.2.2)
def s_backElem (o : Ob) (v : List Int32) : Ob := (o.1, o.2.1, o.2.2.1, o.2.2.2.1, o.2.2.2.2.1, o.2.2.2.2.2.1, o.2.2.2.2.2.2.1, o.2.2.2.2.2.2.2.1, o.2.2.2.2.2.2.2.2.1, o.2.2.2.2.2.2.2.2.2.1, v, o.2.2.2.2.2.2.2.2.2.2.2.1, o.2.2.2.2.2.2.2.2.2.2.2.2.1, o.2.2.2.2.2.2.2.2.2.2.2.2.2.1, o.2.2.2.2.2.2.2.2.2.2.2.2.2.2.1, o.2.2.2.2.2.2.2.2.2.2.2.2.2.2.2.1, o.2.2.2.2.2.2.2.2.2.2.2.2.2.2.2.2.1, o.2.2.2.2.2.2.2.2.2.2.2.2.2.2.2.2.2)
def s_frontAgg (o : Ob) (v : List Int32) : Ob := (o.1, o.2.1, o.2.2.1, o.2.2.2.1, o.2.2.2.2.1, o.2.2.2.2.2.1, o.2.2.2.2.2.2.1, o.2.2.2.2.2.2.2.1, o.2.2.2.2.2.2.2.2.1, o.2.2.2.2.2.2.2.2.2.1, o.2.2.2.2.2.2.2.2.2.2.1, v, o.2.2.2.2.2.2.2.2.2.2.2.2.1, o.2.2.2.2.2.2.2.2.2.2.2.2.2.1, o.2.2.2.2.2.2.2.2.2.2.2.2.2.2.1, o.2.2.2.2.2.2.2.2.2.2.2.2.2.2.2.1, o.2.2.2.2.2.2.2.2.2.2.2.2.2.2.2.2.1, o.2.2.2.2.2.2.2.2.2.2.2.2.2.2.2.2.2)
def s_backAgg (o : Ob) (v : List Int32) : Ob := (o.1, o.2.1, o.2.2.1, o.2.2.2.1, o.2.2.2.2.1, o.2.2.2.2.2.1, o.2.2.2.2.2.2.1, o.2.2.2.2.2.2.2.1, o.2.2.2.2.2.2.2.2.1, o.2.2.2.2.2.2.2.2.2.1, o.2.2.2.2.2.2.2.2.2.2.1, o.2.2.2.2.2.2.2.2.2.2.2.1, v, o.2.2.2.2.2.2.2.2.2.2.2.2.2.1, o.2.2.2.2.2.2.2.2.2.2.2.2.2.2.1, o.2.2.2.2.2.2.2.2.2.2.2.2.2.2.2.1, o.2.2.2.2.2.2.2.2.2.2.2.2.2.2.2.2.1, o.2.2.2.2.2.2.2.2.2.2.2.2.2.2.2.2.2)
def s_snap (o : Ob) (v : List Int32) : Ob := (o.1, o.2.1, o.2.2.1, o.2.2.2.1, o.2.2.2.2.1, o.2.2.2.2.2.1, o.2.2.2.2.2.2.1, o.2.2.2.2.2.2.2.1, o.2.2.2.2.2.2.2.2.1, o.2.2.2.2.2.2.2.2.2.1, o.2.2.2.2.2.2.2.2.2.2.1, o.2.2.2.2.2.2.2.2.2.2.2.1, o.2.2.2.2.2.2.2.2.2.2.2.2.1, v, o.2.2.2.2.2.2.2.2.2.2.2.2.2.2.1, o.2.2.2.2.2.2.2.2.2.2.2.2.2.2.2.1, o.2.2.2.2.2.2.2.2.2.2.2.2.2.2.2.2.1, o.2.2.2.2.2.2.2.2.2.2.2.2.2.2.2.2.2)
def s_reg (o : Ob) (v : List Int32) : Ob := (o.1, o.2.1, o.2.2.1, o.2.2.2.1, o.2.2.2.2.1, o.2.2.2.2.2.1, o.2.2.2.2.2.2.1, o.2.2.2.2.2.2.2.1, o.2.2.2.2.2.2.2.2.1, o.2.2.2.2.2.2.2.2.2.1, o.2.2.2.2.2.2.2.2.2.2.1, o.2.2.2.2.2.2.2.2.2.2.2.1, o.2.2.2.2.2.2.2.2.2.2.2.2.1, o.2.2.2.2.2.2.2.2.2.2.2.2.2.1, v, o.2.2.2.2.2.2.2.2.2.2.2.2.2.2.2.1, o.2.2.2.2.2.2.2.2.2.2.2.2.2.2.2.2.1, o.2.2.2.2.2.2.2.2.2.2.2.2.2.2.2.2.2)
def s_capacity (o : Ob) (v : Int32) : Ob := (o.1, o.2.1, o.2.2.1, o.2.2.2.1, o.2.2.2.2.1, o.2.2.2.2.2.1, o.2.2.2.2.2.2.1, o.2.2.2.2.2.2.2.1, o.2.2.2.2.2.2.2.2.1, o.2.2.2.2.2.2.2.2.2.1, o.2.2.2.2.2.2.2.2.2.2.1, o.2.2.2.2.2.2.2.2.2.2.2.1, o.2.2.2.2.2.2.2.2.2.2.2.2.1, o.2.2.2.2.2.2.2.2.2.2.2.2.2.1, o.2.2.2.2.2.2.2.2.2.2.2.2.2.2.1, v, o.2.2.2.2.2.2.2.2.2.2.2.2.2.2.2.2.1, o.2.2.2.2.2.2.2.2.2.2.2.2.2.2.2.2.2)
def s_queries (o : Ob) (v : Int32) : Ob := (o.1, o.2.1, o.2.2.1, o.2.2.2.1, o.2.2.2.2.1, o.2.2.2.2.2.1, o.2.2.2.2.2.2.1, o.2.2.2.2.2.2.2.1, o.2.2.2.2.2.2.2.2.1, o.2.2.2.2.2.2.2.2.2.1, o.2.2.2.2.2.2.2.2.2.2.1, o.2.2.2.2.2.2.2.2.2.2.2.1, o.2.2.2.2.2.2.2.2.2.2.2.2.1, o.2.2.2.2.2.2.2.2.2.2.2.2.2.1, o.2.2.2.2.2.2.2.2.2.2.2.2.2.2.1, o.2.2.2.2.2.2.2.2.2.2.2.2.2.2.2.1, v, o.2.2.2.2.2.2.2.2.2.2.2.2.2.2.2.2.2)
def s_n (o : Ob) (v : Int32) : Ob := (o.1, o.2.1, o.2.2.1, o.2.2.2.1, o.2.2.2.2.1, o.2.2.2.2.2.1, o.2.2.2.2.2.2.1, o.2.2.2.2.2.2.2.1, o.2.2.2.2.2.2.2.2.1, o.2.2.2.2.2.2.2.2.2.1, o.2.2.2.2.2.2.2.2.2.2.1, o.2.2.2.2.2.2.2.2.2.2.2.1, o.2.2.2.2.2.2.2.2.2.2.2.2.1, o.2.2.2.2.2.2.2.2.2.2.2.2.2.1, o.2.2.2.2.2.2.2.2.2.2.2.2.2.2.1, o.2.2.2.2.2.2.2.2.2.2.2.2.2.2.2.1, o.2.2.2.2.2.2.2.2.2.2.2.2.2.2.2.2.1, v)
def ob0 : Ob := (0, 0, 0, 0, 0, 0, [], [], [], [], [], [], [], [], [], 0, 0, 0)
section Walks
variable {l : Launch} {Z : State} {n0 : Nat} {ad : Nat → Addr} {a0 : Array Value}
set_option maxRecDepth 20000
def H0 (s : List Int32) (o0 : Ob) : QHeap := [.inr (.inl (.int, s)), .inl [.int (f_regTuple o0), .int (f_regA o0), .int (f_regB o0), .int (f_regC o0), .int (f_regCount o0), .int (f_slots o0), .ref 2, .ref 3, .ref 4, .ref 5, .ref 6, .ref 7, .ref 8, .ref 9, .ref 10, .int (f_capacity o0), .int (f_queries o0), .int (f_n o0)], .inr (.inl (.int, (f_range o0))), .inr (.inl (.int, (f_slide o0))), .inr (.inl (.int, (f_frontSize o0))), .inr (.inl (.int, (f_backSize o0))), .inr (.inl (.int, (f_backElem o0))), .inr (.inl (.int, (f_frontAgg o0))), .inr (.inl (.int, (f_backAgg o0))), .inr (.inl (.int, (f_snap o0))), .inr (.inl (.int, (f_reg o0)))]
def H0v (s : List Int32) (a0_0 : Int32) (a0_1 : Int32) (a0_2 : Int32) (a0_3 : Int32) (a0_4 : Int32) (a0_5 : Int32) (a0_6 : List Int32) (a0_7 : List Int32) (a0_8 : List Int32) (a0_9 : List Int32) (a0_10 : List Int32) (a0_11 : List Int32) (a0_12 : List Int32) (a0_13 : List Int32) (a0_14 : List Int32) (a0_15 : Int32) (a0_16 : Int32) (a0_17 : Int32) : QHeap := [.inr (.inl (.int, s)), .inl [.int a0_0, .int a0_1, .int a0_2, .int a0_3, .int a0_4, .int a0_5, .ref 2, .ref 3, .ref 4, .ref 5, .ref 6, .ref 7, .ref 8, .ref 9, .ref 10, .int a0_15, .int a0_16, .int a0_17], .inr (.inl (.int, a0_6)), .inr (.inl (.int, a0_7)), .inr (.inl (.int, a0_8)), .inr (.inl (.int, a0_9)), .inr (.inl (.int, a0_10)), .inr (.inl (.int, a0_11)), .inr (.inl (.int, a0_12)), .inr (.inl (.int, a0_13)), .inr (.inl (.int, a0_14))]
/-- validReg(I)Z -/
def F5 (x1 : Int32) : Option (Int32) :=
  (if x1 < (0 : Int32) then some (0 : Int32) else (if x1 < (4 : Int32) then some (1 : Int32) else some (0 : Int32)))
theorem tF5 (Ad : QAd n0 ad) (W : QW Z a0) {a : Nat} {σ : QHeap} (x1 : Int32) {r : Int32} (h : F5 x1 = some r) : QTri l Z n0 ad 5 (0, qentry [.ref a, .int x1] (pMaxL 5), [], σ) (some (Value.int r)) σ := by
  unfold F5 at h
  refine QTri.steps Ad W 1 (st' := (1, [some (.ref a), vI x1], [.int x1], σ)) rfl ?_
  rcases qite h with ⟨hc14, h⟩ | ⟨hc14, h⟩
  · refine QTri.brT Ad W (t := 13) (f := 4) (L := [some (.ref a), vI x1]) (S := []) (σ := σ) rfl (XT.i0_lt_t hc14) ?_
    refine QTri.steps Ad W 1 (st' := (14, [some (.ref a), vI x1], [.int (0 : Int32)], σ)) rfl ?_
    obtain rfl := Option.some.inj h
    exact QTri.retZ rfl rfl
  · refine QTri.brF Ad W (t := 13) (f := 4) (L := [some (.ref a), vI x1]) (S := []) (σ := σ) rfl (XT.i0_lt_f hc14) ?_
    refine QTri.steps Ad W 2 (st' := (6, [some (.ref a), vI x1], [.int (4 : Int32), .int x1], σ)) rfl ?_
    rcases qite h with ⟨hc15, h⟩ | ⟨hc15, h⟩
    · refine QTri.brF Ad W (t := 13) (f := 9) (L := [some (.ref a), vI x1]) (S := []) (σ := σ) rfl (XT.ii_ge_f hc15) ?_
      refine QTri.steps Ad W 2 (st' := (14, [some (.ref a), vI x1], [.int (1 : Int32)], σ)) rfl ?_
      obtain rfl := Option.some.inj h
      exact QTri.retZ rfl rfl
    · refine QTri.brT Ad W (t := 13) (f := 9) (L := [some (.ref a), vI x1]) (S := []) (σ := σ) rfl (XT.ii_ge_t hc15) ?_
      refine QTri.steps Ad W 1 (st' := (14, [some (.ref a), vI x1], [.int (0 : Int32)], σ)) rfl ?_
      obtain rfl := Option.some.inj h
      exact QTri.retZ rfl rfl
/-- regSet(IIIII)V -/
def F4 (o : Ob) (x1 : Int32) (x2 : Int32) (x3 : Int32) (x4 : Int32) (x5 : Int32) : Option (Ob) :=
  (F5 x1).bind fun r16 => (if r16 = (0 : Int32) then some o else (aset (f_reg o) (x1 * (4 : Int32)) x2).bind fun y18 => (aset y18 ((x1 * (4 : Int32)) + (1 : Int32)) x3).bind fun y19 => (aset y19 ((x1 * (4 : Int32)) + (2 : Int32)) x4).bind fun y20 => (aset y20 ((x1 * (4 : Int32)) + (3 : Int32)) x5).bind fun y21 => some (s_reg o y21))
theorem tF4 (Ad : QAd n0 ad) (W : QW Z a0) (s : List Int32) (o : Ob) (x1 : Int32) (x2 : Int32) (x3 : Int32) (x4 : Int32) (x5 : Int32) {r : Ob} (h : F4 o x1 x2 x3 x4 x5 = some r) : QTri l Z n0 ad 4 (0, qentry [.ref 1, .int x1, .int x2, .int x3, .int x4, .int x5] (pMaxL 4), [], (H0 s o)) (none : Option Value) (H0 s r) := by
  unfold F4 at h
  refine QTri.steps Ad W 2 (st' := (2, [some (.ref 1), vI x1, vI x2, vI x3, vI x4, vI x5, none], [.int x1, .ref 1], (H0 s o))) rfl ?_
  obtain ⟨r16, hr16, h⟩ := Option.bind_eq_some_iff.mp h
  refine QTri.callP W (a := 1) (as := [.int x1]) (rest := []) (w := (some (.int r16))) (σ₁ := (H0 s o)) rfl rfl rfl rfl rfl rfl rfl rfl (tF5 Ad W x1 hr16) ?_
  rcases qite h with ⟨hc17, h⟩ | ⟨hc17, h⟩
  · refine QTri.brF Ad W (t := 9) (f := 8) (L := [some (.ref 1), vI x1, vI x2, vI x3, vI x4, vI x5, none]) (S := []) (σ := (H0 s o)) rfl (XT.i0_ne_f hc17) ?_
    obtain rfl := Option.some.inj h
    exact QTri.ret0 rfl rfl
  · refine QTri.brT Ad W (t := 9) (f := 8) (L := [some (.ref 1), vI x1, vI x2, vI x3, vI x4, vI x5, none]) (S := []) (σ := (H0 s o)) rfl (XT.i0_ne_t hc17) ?_
    refine QTri.steps Ad W 8 (st' := (21, [some (.ref 1), vI x1, vI x2, vI x3, vI x4, vI x5, vI (x1 * (4 : Int32))], [.int x2, .int (x1 * (4 : Int32)), .ref 10], (H0 s o))) rfl ?_
    obtain ⟨y18, hy18, h⟩ := Option.bind_eq_some_iff.mp h
    refine QTri.bnd Ad W (f := fun y18 => (22, [some (.ref 1), vI x1, vI x2, vI x3, vI x4, vI x5, vI (x1 * (4 : Int32))], [], (H0v s (f_regTuple o) (f_regA o) (f_regB o) (f_regC o) (f_regCount o) (f_slots o) (f_range o) (f_slide o) (f_frontSize o) (f_backSize o) (f_backElem o) (f_frontAgg o) (f_backAgg o) (f_snap o) y18 (f_capacity o) (f_queries o) (f_n o)))) rfl hy18 ?_
    refine QTri.steps Ad W 6 (st' := (31, [some (.ref 1), vI x1, vI x2, vI x3, vI x4, vI x5, vI (x1 * (4 : Int32))], [.int x3, .int ((x1 * (4 : Int32)) + (1 : Int32)), .ref 10], (H0v s (f_regTuple o) (f_regA o) (f_regB o) (f_regC o) (f_regCount o) (f_slots o) (f_range o) (f_slide o) (f_frontSize o) (f_backSize o) (f_backElem o) (f_frontAgg o) (f_backAgg o) (f_snap o) y18 (f_capacity o) (f_queries o) (f_n o)))) rfl ?_
    obtain ⟨y19, hy19, h⟩ := Option.bind_eq_some_iff.mp h
    refine QTri.bnd Ad W (f := fun y19 => (32, [some (.ref 1), vI x1, vI x2, vI x3, vI x4, vI x5, vI (x1 * (4 : Int32))], [], (H0v s (f_regTuple o) (f_regA o) (f_regB o) (f_regC o) (f_regCount o) (f_slots o) (f_range o) (f_slide o) (f_frontSize o) (f_backSize o) (f_backElem o) (f_frontAgg o) (f_backAgg o) (f_snap o) y19 (f_capacity o) (f_queries o) (f_n o)))) rfl hy19 ?_
    refine QTri.steps Ad W 6 (st' := (42, [some (.ref 1), vI x1, vI x2, vI x3, vI x4, vI x5, vI (x1 * (4 : Int32))], [.int x4, .int ((x1 * (4 : Int32)) + (2 : Int32)), .ref 10], (H0v s (f_regTuple o) (f_regA o) (f_regB o) (f_regC o) (f_regCount o) (f_slots o) (f_range o) (f_slide o) (f_frontSize o) (f_backSize o) (f_backElem o) (f_frontAgg o) (f_backAgg o) (f_snap o) y19 (f_capacity o) (f_queries o) (f_n o)))) rfl ?_
    obtain ⟨y20, hy20, h⟩ := Option.bind_eq_some_iff.mp h
    refine QTri.bnd Ad W (f := fun y20 => (43, [some (.ref 1), vI x1, vI x2, vI x3, vI x4, vI x5, vI (x1 * (4 : Int32))], [], (H0v s (f_regTuple o) (f_regA o) (f_regB o) (f_regC o) (f_regCount o) (f_slots o) (f_range o) (f_slide o) (f_frontSize o) (f_backSize o) (f_backElem o) (f_frontAgg o) (f_backAgg o) (f_snap o) y20 (f_capacity o) (f_queries o) (f_n o)))) rfl hy20 ?_
    refine QTri.steps Ad W 6 (st' := (53, [some (.ref 1), vI x1, vI x2, vI x3, vI x4, vI x5, vI (x1 * (4 : Int32))], [.int x5, .int ((x1 * (4 : Int32)) + (3 : Int32)), .ref 10], (H0v s (f_regTuple o) (f_regA o) (f_regB o) (f_regC o) (f_regCount o) (f_slots o) (f_range o) (f_slide o) (f_frontSize o) (f_backSize o) (f_backElem o) (f_frontAgg o) (f_backAgg o) (f_snap o) y20 (f_capacity o) (f_queries o) (f_n o)))) rfl ?_
    obtain ⟨y21, hy21, h⟩ := Option.bind_eq_some_iff.mp h
    refine QTri.bnd Ad W (f := fun y21 => (54, [some (.ref 1), vI x1, vI x2, vI x3, vI x4, vI x5, vI (x1 * (4 : Int32))], [], (H0v s (f_regTuple o) (f_regA o) (f_regB o) (f_regC o) (f_regCount o) (f_slots o) (f_range o) (f_slide o) (f_frontSize o) (f_backSize o) (f_backElem o) (f_frontAgg o) (f_backAgg o) (f_snap o) y21 (f_capacity o) (f_queries o) (f_n o)))) rfl hy21 ?_
    have E22 : ((H0v s (f_regTuple o) (f_regA o) (f_regB o) (f_regC o) (f_regCount o) (f_slots o) (f_range o) (f_slide o) (f_frontSize o) (f_backSize o) (f_backElem o) (f_frontAgg o) (f_backAgg o) (f_snap o) y21 (f_capacity o) (f_queries o) (f_n o)) : QHeap) = (H0 s (s_reg o y21)) := by dsimp only [H0, H0v, f_regTuple, f_regA, f_regB, f_regC, f_regCount, f_slots, f_range, f_slide, f_frontSize, f_backSize, f_backElem, f_frontAgg, f_backAgg, f_snap, f_reg, f_capacity, f_queries, f_n, s_reg]
    rw [E22]
    obtain rfl := Option.some.inj h
    exact QTri.ret0 rfl rfl
/-- regIdentity(I)V -/
def F3 (o : Ob) (x1 : Int32) : Option (Ob) :=
  (F4 o x1 (1 : Int32) (0 : Int32) (0 : Int32) (1 : Int32)).bind fun r23 => some r23
theorem tF3 (Ad : QAd n0 ad) (W : QW Z a0) (s : List Int32) (o : Ob) (x1 : Int32) {r : Ob} (h : F3 o x1 = some r) : QTri l Z n0 ad 3 (0, qentry [.ref 1, .int x1] (pMaxL 3), [], (H0 s o)) (none : Option Value) (H0 s r) := by
  unfold F3 at h
  refine QTri.steps Ad W 6 (st' := (6, [some (.ref 1), vI x1], [.int (1 : Int32), .int (0 : Int32), .int (0 : Int32), .int (1 : Int32), .int x1, .ref 1], (H0 s o))) rfl ?_
  obtain ⟨r23, hr23, h⟩ := Option.bind_eq_some_iff.mp h
  refine QTri.callP W (a := 1) (as := [.int x1, .int (1 : Int32), .int (0 : Int32), .int (0 : Int32), .int (1 : Int32)]) (rest := []) (w := none) (σ₁ := (H0 s r23)) rfl rfl rfl rfl rfl rfl rfl rfl (tF4 Ad W s o x1 (1 : Int32) (0 : Int32) (0 : Int32) (1 : Int32) hr23) ?_
  obtain rfl := Option.some.inj h
  exact QTri.ret0 rfl rfl
def B6_25 (x1 : Int32) (x3 : Int32) (v : Int32 × Ob) : Option (((Ob)) ⊕ (Int32 × Ob)) :=
  (if v.1 < (4 : Int32) then (aget (f_reg v.2) (x3 + v.1)).bind fun y30 => (aset (f_backAgg v.2) ((x1 * (4 : Int32)) + v.1) y30).bind fun y31 => some (.inr ((v.1 + (1 : Int32)), (s_backAgg v.2 y31))) else some (.inl v.2))
theorem tB6_25 (Ad : QAd n0 ad) (W : QW Z a0) (s : List Int32) (x1 : Int32) (x3 : Int32) (v : Int32 × Ob) {r : ((Ob)) ⊕ (Int32 × Ob)} {u : Option Value} {τ : QHeap} (h : B6_25 x1 x3 v = some r) (hx0 : ∀ x : Ob, r = .inl x → u = (none : Option Value) ∧ τ = (H0 s x)) (hc : ∀ x : Int32 × Ob, r = .inr x → QTri l Z n0 ad 6 (25, [some (.ref 1), vI x1, none, vI x3, vI x.1], [], (H0 s x.2)) u τ) : QTri l Z n0 ad 6 (25, [some (.ref 1), vI x1, none, vI x3, vI v.1], [], (H0 s v.2)) u τ := by
  unfold B6_25 at h
  refine QTri.steps Ad W 2 (st' := (28, [some (.ref 1), vI x1, none, vI x3, vI v.1], [.int (4 : Int32), .int v.1], (H0 s v.2))) rfl ?_
  rcases qite h with ⟨hc29, h⟩ | ⟨hc29, h⟩
  · refine QTri.brF Ad W (t := 57) (f := 31) (L := [some (.ref 1), vI x1, none, vI x3, vI v.1]) (S := []) (σ := (H0 s v.2)) rfl (XT.ii_ge_f hc29) ?_
    refine QTri.steps Ad W 12 (st' := (49, [some (.ref 1), vI x1, none, vI x3, vI v.1], [.int (x3 + v.1), .ref 10, .int ((x1 * (4 : Int32)) + v.1), .ref 8], (H0 s v.2))) rfl ?_
    obtain ⟨y30, hy30, h⟩ := Option.bind_eq_some_iff.mp h
    refine QTri.bnd Ad W (f := fun y30 => (50, [some (.ref 1), vI x1, none, vI x3, vI v.1], [.int y30, .int ((x1 * (4 : Int32)) + v.1), .ref 8], (H0 s v.2))) rfl hy30 ?_
    obtain ⟨y31, hy31, h⟩ := Option.bind_eq_some_iff.mp h
    refine QTri.bnd Ad W (f := fun y31 => (51, [some (.ref 1), vI x1, none, vI x3, vI v.1], [], (H0v s (f_regTuple v.2) (f_regA v.2) (f_regB v.2) (f_regC v.2) (f_regCount v.2) (f_slots v.2) (f_range v.2) (f_slide v.2) (f_frontSize v.2) (f_backSize v.2) (f_backElem v.2) (f_frontAgg v.2) y31 (f_snap v.2) (f_reg v.2) (f_capacity v.2) (f_queries v.2) (f_n v.2)))) rfl hy31 ?_
    refine QTri.steps Ad W 2 (st' := (25, [some (.ref 1), vI x1, none, vI x3, vI (v.1 + (1 : Int32))], [], (H0v s (f_regTuple v.2) (f_regA v.2) (f_regB v.2) (f_regC v.2) (f_regCount v.2) (f_slots v.2) (f_range v.2) (f_slide v.2) (f_frontSize v.2) (f_backSize v.2) (f_backElem v.2) (f_frontAgg v.2) y31 (f_snap v.2) (f_reg v.2) (f_capacity v.2) (f_queries v.2) (f_n v.2)))) rfl ?_
    have E32 : ((H0v s (f_regTuple v.2) (f_regA v.2) (f_regB v.2) (f_regC v.2) (f_regCount v.2) (f_slots v.2) (f_range v.2) (f_slide v.2) (f_frontSize v.2) (f_backSize v.2) (f_backElem v.2) (f_frontAgg v.2) y31 (f_snap v.2) (f_reg v.2) (f_capacity v.2) (f_queries v.2) (f_n v.2)) : QHeap) = (H0 s (s_backAgg v.2 y31)) := by dsimp only [H0, H0v, f_regTuple, f_regA, f_regB, f_regC, f_regCount, f_slots, f_range, f_slide, f_frontSize, f_backSize, f_backElem, f_frontAgg, f_backAgg, f_snap, f_reg, f_capacity, f_queries, f_n, s_backAgg]
    rw [E32]
    obtain rfl := Option.some.inj h
    exact QTri.mask [true, true, false, true, true] (hc ((v.1 + (1 : Int32)), (s_backAgg v.2 y31)) rfl)
  · refine QTri.brT Ad W (t := 57) (f := 31) (L := [some (.ref 1), vI x1, none, vI x3, vI v.1]) (S := []) (σ := (H0 s v.2)) rfl (XT.ii_ge_t hc29) ?_
    obtain rfl := Option.some.inj h
    obtain ⟨rfl, rfl⟩ := hx0 v.2 rfl
    exact QTri.ret0 rfl rfl
/-- storeBackAgg(II)V -/
def F6 (o : Ob) (x1 : Int32) (x2 : Int32) : Option (Ob) :=
  (F5 x2).bind fun r25 => (if r25 = (0 : Int32) then some o else (if x1 < (0 : Int32) then some o else (if x1 < (4 : Int32) then (loopN (B6_25 x1 (x2 * (4 : Int32))) qN ((0 : Int32), o)).bind fun e33 => some e33 else some o)))
theorem tF6 (Ad : QAd n0 ad) (W : QW Z a0) (s : List Int32) (o : Ob) (x1 : Int32) (x2 : Int32) {r : Ob} (h : F6 o x1 x2 = some r) : QTri l Z n0 ad 6 (0, qentry [.ref 1, .int x1, .int x2] (pMaxL 6), [], (H0 s o)) (none : Option Value) (H0 s r) := by
  unfold F6 at h
  refine QTri.steps Ad W 2 (st' := (2, [some (.ref 1), vI x1, vI x2, none, none], [.int x2, .ref 1], (H0 s o))) rfl ?_
  obtain ⟨r25, hr25, h⟩ := Option.bind_eq_some_iff.mp h
  refine QTri.callP W (a := 1) (as := [.int x2]) (rest := []) (w := (some (.int r25))) (σ₁ := (H0 s o)) rfl rfl rfl rfl rfl rfl rfl rfl (tF5 Ad W x2 hr25) ?_
  rcases qite h with ⟨hc26, h⟩ | ⟨hc26, h⟩
  · refine QTri.brT Ad W (t := 17) (f := 8) (L := [some (.ref 1), vI x1, vI x2, none, none]) (S := []) (σ := (H0 s o)) rfl (XT.i0_eq_t hc26) ?_
    obtain rfl := Option.some.inj h
    exact QTri.ret0 rfl rfl
  · refine QTri.brF Ad W (t := 17) (f := 8) (L := [some (.ref 1), vI x1, vI x2, none, none]) (S := []) (σ := (H0 s o)) rfl (XT.i0_eq_f hc26) ?_
    refine QTri.steps Ad W 1 (st' := (9, [some (.ref 1), vI x1, vI x2, none, none], [.int x1], (H0 s o))) rfl ?_
    rcases qite h with ⟨hc27, h⟩ | ⟨hc27, h⟩
    · refine QTri.brT Ad W (t := 17) (f := 12) (L := [some (.ref 1), vI x1, vI x2, none, none]) (S := []) (σ := (H0 s o)) rfl (XT.i0_lt_t hc27) ?_
      obtain rfl := Option.some.inj h
      exact QTri.ret0 rfl rfl
    · refine QTri.brF Ad W (t := 17) (f := 12) (L := [some (.ref 1), vI x1, vI x2, none, none]) (S := []) (σ := (H0 s o)) rfl (XT.i0_lt_f hc27) ?_
      refine QTri.steps Ad W 2 (st' := (14, [some (.ref 1), vI x1, vI x2, none, none], [.int (4 : Int32), .int x1], (H0 s o))) rfl ?_
      rcases qite h with ⟨hc28, h⟩ | ⟨hc28, h⟩
      · refine QTri.brT Ad W (t := 18) (f := 17) (L := [some (.ref 1), vI x1, vI x2, none, none]) (S := []) (σ := (H0 s o)) rfl (XT.ii_lt_t hc28) ?_
        refine QTri.steps Ad W 6 (st' := (25, [some (.ref 1), vI x1, vI x2, vI (x2 * (4 : Int32)), vI (0 : Int32)], [], (H0 s o))) rfl ?_
        obtain ⟨e33, he33, h⟩ := Option.bind_eq_some_iff.mp h
        refine QTri.mask [true, true, false, true, true] (loopN_tri (B := B6_25 x1 (x2 * (4 : Int32))) (T := fun lv34 => QTri l Z n0 ad 6 (25, [some (.ref 1), vI x1, none, vI (x2 * (4 : Int32)), vI lv34.1], [], (H0 s lv34.2)) (none : Option Value) (H0 s r)) (KE := fun e33a => (none : Option Value) = (none : Option Value) ∧ (H0 s r) = (H0 s e33a)) (fun lv34 r hB hE hC => tB6_25 Ad W s x1 (x2 * (4 : Int32)) lv34 hB (fun x q => hE _ q) (fun x q => hC x q)) qN ((0 : Int32), o) e33 he33 ?_)
        obtain rfl := Option.some.inj h
        exact ⟨rfl, rfl⟩
      · refine QTri.brF Ad W (t := 18) (f := 17) (L := [some (.ref 1), vI x1, vI x2, none, none]) (S := []) (σ := (H0 s o)) rfl (XT.ii_lt_f hc28) ?_
        obtain rfl := Option.some.inj h
        exact QTri.ret0 rfl rfl
def B7_25 (x1 : Int32) (x3 : Int32) (v : Int32 × Ob) : Option (((Ob)) ⊕ (Int32 × Ob)) :=
  (if v.1 < (4 : Int32) then (aget (f_reg v.2) (x3 + v.1)).bind fun y41 => (aset (f_snap v.2) ((x1 * (4 : Int32)) + v.1) y41).bind fun y42 => some (.inr ((v.1 + (1 : Int32)), (s_snap v.2 y42))) else some (.inl v.2))
theorem tB7_25 (Ad : QAd n0 ad) (W : QW Z a0) (s : List Int32) (x1 : Int32) (x3 : Int32) (v : Int32 × Ob) {r : ((Ob)) ⊕ (Int32 × Ob)} {u : Option Value} {τ : QHeap} (h : B7_25 x1 x3 v = some r) (hx0 : ∀ x : Ob, r = .inl x → u = (none : Option Value) ∧ τ = (H0 s x)) (hc : ∀ x : Int32 × Ob, r = .inr x → QTri l Z n0 ad 7 (25, [some (.ref 1), vI x1, none, vI x3, vI x.1], [], (H0 s x.2)) u τ) : QTri l Z n0 ad 7 (25, [some (.ref 1), vI x1, none, vI x3, vI v.1], [], (H0 s v.2)) u τ := by
  unfold B7_25 at h
  refine QTri.steps Ad W 2 (st' := (28, [some (.ref 1), vI x1, none, vI x3, vI v.1], [.int (4 : Int32), .int v.1], (H0 s v.2))) rfl ?_
  rcases qite h with ⟨hc40, h⟩ | ⟨hc40, h⟩
  · refine QTri.brF Ad W (t := 57) (f := 31) (L := [some (.ref 1), vI x1, none, vI x3, vI v.1]) (S := []) (σ := (H0 s v.2)) rfl (XT.ii_ge_f hc40) ?_
    refine QTri.steps Ad W 12 (st' := (49, [some (.ref 1), vI x1, none, vI x3, vI v.1], [.int (x3 + v.1), .ref 10, .int ((x1 * (4 : Int32)) + v.1), .ref 9], (H0 s v.2))) rfl ?_
    obtain ⟨y41, hy41, h⟩ := Option.bind_eq_some_iff.mp h
    refine QTri.bnd Ad W (f := fun y41 => (50, [some (.ref 1), vI x1, none, vI x3, vI v.1], [.int y41, .int ((x1 * (4 : Int32)) + v.1), .ref 9], (H0 s v.2))) rfl hy41 ?_
    obtain ⟨y42, hy42, h⟩ := Option.bind_eq_some_iff.mp h
    refine QTri.bnd Ad W (f := fun y42 => (51, [some (.ref 1), vI x1, none, vI x3, vI v.1], [], (H0v s (f_regTuple v.2) (f_regA v.2) (f_regB v.2) (f_regC v.2) (f_regCount v.2) (f_slots v.2) (f_range v.2) (f_slide v.2) (f_frontSize v.2) (f_backSize v.2) (f_backElem v.2) (f_frontAgg v.2) (f_backAgg v.2) y42 (f_reg v.2) (f_capacity v.2) (f_queries v.2) (f_n v.2)))) rfl hy42 ?_
    refine QTri.steps Ad W 2 (st' := (25, [some (.ref 1), vI x1, none, vI x3, vI (v.1 + (1 : Int32))], [], (H0v s (f_regTuple v.2) (f_regA v.2) (f_regB v.2) (f_regC v.2) (f_regCount v.2) (f_slots v.2) (f_range v.2) (f_slide v.2) (f_frontSize v.2) (f_backSize v.2) (f_backElem v.2) (f_frontAgg v.2) (f_backAgg v.2) y42 (f_reg v.2) (f_capacity v.2) (f_queries v.2) (f_n v.2)))) rfl ?_
    have E43 : ((H0v s (f_regTuple v.2) (f_regA v.2) (f_regB v.2) (f_regC v.2) (f_regCount v.2) (f_slots v.2) (f_range v.2) (f_slide v.2) (f_frontSize v.2) (f_backSize v.2) (f_backElem v.2) (f_frontAgg v.2) (f_backAgg v.2) y42 (f_reg v.2) (f_capacity v.2) (f_queries v.2) (f_n v.2)) : QHeap) = (H0 s (s_snap v.2 y42)) := by dsimp only [H0, H0v, f_regTuple, f_regA, f_regB, f_regC, f_regCount, f_slots, f_range, f_slide, f_frontSize, f_backSize, f_backElem, f_frontAgg, f_backAgg, f_snap, f_reg, f_capacity, f_queries, f_n, s_snap]
    rw [E43]
    obtain rfl := Option.some.inj h
    exact QTri.mask [true, true, false, true, true] (hc ((v.1 + (1 : Int32)), (s_snap v.2 y42)) rfl)
  · refine QTri.brT Ad W (t := 57) (f := 31) (L := [some (.ref 1), vI x1, none, vI x3, vI v.1]) (S := []) (σ := (H0 s v.2)) rfl (XT.ii_ge_t hc40) ?_
    obtain rfl := Option.some.inj h
    obtain ⟨rfl, rfl⟩ := hx0 v.2 rfl
    exact QTri.ret0 rfl rfl
/-- storeSnap(II)V -/
def F7 (o : Ob) (x1 : Int32) (x2 : Int32) : Option (Ob) :=
  (F5 x2).bind fun r36 => (if r36 = (0 : Int32) then some o else (if x1 < (0 : Int32) then some o else (if x1 < (4 : Int32) then (loopN (B7_25 x1 (x2 * (4 : Int32))) qN ((0 : Int32), o)).bind fun e44 => some e44 else some o)))
theorem tF7 (Ad : QAd n0 ad) (W : QW Z a0) (s : List Int32) (o : Ob) (x1 : Int32) (x2 : Int32) {r : Ob} (h : F7 o x1 x2 = some r) : QTri l Z n0 ad 7 (0, qentry [.ref 1, .int x1, .int x2] (pMaxL 7), [], (H0 s o)) (none : Option Value) (H0 s r) := by
  unfold F7 at h
  refine QTri.steps Ad W 2 (st' := (2, [some (.ref 1), vI x1, vI x2, none, none], [.int x2, .ref 1], (H0 s o))) rfl ?_
  obtain ⟨r36, hr36, h⟩ := Option.bind_eq_some_iff.mp h
  refine QTri.callP W (a := 1) (as := [.int x2]) (rest := []) (w := (some (.int r36))) (σ₁ := (H0 s o)) rfl rfl rfl rfl rfl rfl rfl rfl (tF5 Ad W x2 hr36) ?_
  rcases qite h with ⟨hc37, h⟩ | ⟨hc37, h⟩
  · refine QTri.brT Ad W (t := 17) (f := 8) (L := [some (.ref 1), vI x1, vI x2, none, none]) (S := []) (σ := (H0 s o)) rfl (XT.i0_eq_t hc37) ?_
    obtain rfl := Option.some.inj h
    exact QTri.ret0 rfl rfl
  · refine QTri.brF Ad W (t := 17) (f := 8) (L := [some (.ref 1), vI x1, vI x2, none, none]) (S := []) (σ := (H0 s o)) rfl (XT.i0_eq_f hc37) ?_
    refine QTri.steps Ad W 1 (st' := (9, [some (.ref 1), vI x1, vI x2, none, none], [.int x1], (H0 s o))) rfl ?_
    rcases qite h with ⟨hc38, h⟩ | ⟨hc38, h⟩
    · refine QTri.brT Ad W (t := 17) (f := 12) (L := [some (.ref 1), vI x1, vI x2, none, none]) (S := []) (σ := (H0 s o)) rfl (XT.i0_lt_t hc38) ?_
      obtain rfl := Option.some.inj h
      exact QTri.ret0 rfl rfl
    · refine QTri.brF Ad W (t := 17) (f := 12) (L := [some (.ref 1), vI x1, vI x2, none, none]) (S := []) (σ := (H0 s o)) rfl (XT.i0_lt_f hc38) ?_
      refine QTri.steps Ad W 2 (st' := (14, [some (.ref 1), vI x1, vI x2, none, none], [.int (4 : Int32), .int x1], (H0 s o))) rfl ?_
      rcases qite h with ⟨hc39, h⟩ | ⟨hc39, h⟩
      · refine QTri.brT Ad W (t := 18) (f := 17) (L := [some (.ref 1), vI x1, vI x2, none, none]) (S := []) (σ := (H0 s o)) rfl (XT.ii_lt_t hc39) ?_
        refine QTri.steps Ad W 6 (st' := (25, [some (.ref 1), vI x1, vI x2, vI (x2 * (4 : Int32)), vI (0 : Int32)], [], (H0 s o))) rfl ?_
        obtain ⟨e44, he44, h⟩ := Option.bind_eq_some_iff.mp h
        refine QTri.mask [true, true, false, true, true] (loopN_tri (B := B7_25 x1 (x2 * (4 : Int32))) (T := fun lv45 => QTri l Z n0 ad 7 (25, [some (.ref 1), vI x1, none, vI (x2 * (4 : Int32)), vI lv45.1], [], (H0 s lv45.2)) (none : Option Value) (H0 s r)) (KE := fun e44a => (none : Option Value) = (none : Option Value) ∧ (H0 s r) = (H0 s e44a)) (fun lv45 r hB hE hC => tB7_25 Ad W s x1 (x2 * (4 : Int32)) lv45 hB (fun x q => hE _ q) (fun x q => hC x q)) qN ((0 : Int32), o) e44 he44 ?_)
        obtain rfl := Option.some.inj h
        exact ⟨rfl, rfl⟩
      · refine QTri.brF Ad W (t := 18) (f := 17) (L := [some (.ref 1), vI x1, vI x2, none, none]) (S := []) (σ := (H0 s o)) rfl (XT.ii_lt_f hc39) ?_
        obtain rfl := Option.some.inj h
        exact QTri.ret0 rfl rfl
/-- resetQuery(I)V -/
def F2 (o : Ob) (x1 : Int32) : Option (Ob) :=
  (if x1 < (0 : Int32) then some o else (if x1 < (4 : Int32) then (aset (f_frontSize o) x1 (0 : Int32)).bind fun y11 => (aset (f_backSize o) x1 (0 : Int32)).bind fun y12 => (F3 (s_backSize (s_frontSize o y11) y12) (1 : Int32)).bind fun r24 => (F6 r24 x1 (1 : Int32)).bind fun r35 => (F7 r35 x1 (1 : Int32)).bind fun r46 => some r46 else some o))
theorem tF2 (Ad : QAd n0 ad) (W : QW Z a0) (s : List Int32) (o : Ob) (x1 : Int32) {r : Ob} (h : F2 o x1 = some r) : QTri l Z n0 ad 2 (0, qentry [.ref 1, .int x1] (pMaxL 2), [], (H0 s o)) (none : Option Value) (H0 s r) := by
  unfold F2 at h
  refine QTri.steps Ad W 1 (st' := (1, [some (.ref 1), vI x1], [.int x1], (H0 s o))) rfl ?_
  rcases qite h with ⟨hc9, h⟩ | ⟨hc9, h⟩
  · refine QTri.brT Ad W (t := 9) (f := 4) (L := [some (.ref 1), vI x1]) (S := []) (σ := (H0 s o)) rfl (XT.i0_lt_t hc9) ?_
    obtain rfl := Option.some.inj h
    exact QTri.ret0 rfl rfl
  · refine QTri.brF Ad W (t := 9) (f := 4) (L := [some (.ref 1), vI x1]) (S := []) (σ := (H0 s o)) rfl (XT.i0_lt_f hc9) ?_
    refine QTri.steps Ad W 2 (st' := (6, [some (.ref 1), vI x1], [.int (4 : Int32), .int x1], (H0 s o))) rfl ?_
    rcases qite h with ⟨hc10, h⟩ | ⟨hc10, h⟩
    · refine QTri.brT Ad W (t := 10) (f := 9) (L := [some (.ref 1), vI x1]) (S := []) (σ := (H0 s o)) rfl (XT.ii_lt_t hc10) ?_
      refine QTri.steps Ad W 4 (st' := (16, [some (.ref 1), vI x1], [.int (0 : Int32), .int x1, .ref 4], (H0 s o))) rfl ?_
      obtain ⟨y11, hy11, h⟩ := Option.bind_eq_some_iff.mp h
      refine QTri.bnd Ad W (f := fun y11 => (17, [some (.ref 1), vI x1], [], (H0v s (f_regTuple o) (f_regA o) (f_regB o) (f_regC o) (f_regCount o) (f_slots o) (f_range o) (f_slide o) y11 (f_backSize o) (f_backElem o) (f_frontAgg o) (f_backAgg o) (f_snap o) (f_reg o) (f_capacity o) (f_queries o) (f_n o)))) rfl hy11 ?_
      refine QTri.steps Ad W 4 (st' := (23, [some (.ref 1), vI x1], [.int (0 : Int32), .int x1, .ref 5], (H0v s (f_regTuple o) (f_regA o) (f_regB o) (f_regC o) (f_regCount o) (f_slots o) (f_range o) (f_slide o) y11 (f_backSize o) (f_backElem o) (f_frontAgg o) (f_backAgg o) (f_snap o) (f_reg o) (f_capacity o) (f_queries o) (f_n o)))) rfl ?_
      obtain ⟨y12, hy12, h⟩ := Option.bind_eq_some_iff.mp h
      refine QTri.bnd Ad W (f := fun y12 => (24, [some (.ref 1), vI x1], [], (H0v s (f_regTuple o) (f_regA o) (f_regB o) (f_regC o) (f_regCount o) (f_slots o) (f_range o) (f_slide o) y11 y12 (f_backElem o) (f_frontAgg o) (f_backAgg o) (f_snap o) (f_reg o) (f_capacity o) (f_queries o) (f_n o)))) rfl hy12 ?_
      refine QTri.steps Ad W 2 (st' := (26, [some (.ref 1), vI x1], [.int (1 : Int32), .ref 1], (H0v s (f_regTuple o) (f_regA o) (f_regB o) (f_regC o) (f_regCount o) (f_slots o) (f_range o) (f_slide o) y11 y12 (f_backElem o) (f_frontAgg o) (f_backAgg o) (f_snap o) (f_reg o) (f_capacity o) (f_queries o) (f_n o)))) rfl ?_
      have E13 : ((H0v s (f_regTuple o) (f_regA o) (f_regB o) (f_regC o) (f_regCount o) (f_slots o) (f_range o) (f_slide o) y11 y12 (f_backElem o) (f_frontAgg o) (f_backAgg o) (f_snap o) (f_reg o) (f_capacity o) (f_queries o) (f_n o)) : QHeap) = (H0 s (s_backSize (s_frontSize o y11) y12)) := by dsimp only [H0, H0v, f_regTuple, f_regA, f_regB, f_regC, f_regCount, f_slots, f_range, f_slide, f_frontSize, f_backSize, f_backElem, f_frontAgg, f_backAgg, f_snap, f_reg, f_capacity, f_queries, f_n, s_frontSize, s_backSize]
      rw [E13]
      obtain ⟨r24, hr24, h⟩ := Option.bind_eq_some_iff.mp h
      refine QTri.callP W (a := 1) (as := [.int (1 : Int32)]) (rest := []) (w := none) (σ₁ := (H0 s r24)) rfl rfl rfl rfl rfl rfl rfl rfl (tF3 Ad W s (s_backSize (s_frontSize o y11) y12) (1 : Int32) hr24) ?_
      refine QTri.steps Ad W 3 (st' := (32, [some (.ref 1), vI x1], [.int (1 : Int32), .int x1, .ref 1], (H0 s r24))) rfl ?_
      obtain ⟨r35, hr35, h⟩ := Option.bind_eq_some_iff.mp h
      refine QTri.callP W (a := 1) (as := [.int x1, .int (1 : Int32)]) (rest := []) (w := none) (σ₁ := (H0 s r35)) rfl rfl rfl rfl rfl rfl rfl rfl (tF6 Ad W s r24 x1 (1 : Int32) hr35) ?_
      refine QTri.steps Ad W 3 (st' := (38, [some (.ref 1), vI x1], [.int (1 : Int32), .int x1, .ref 1], (H0 s r35))) rfl ?_
      obtain ⟨r46, hr46, h⟩ := Option.bind_eq_some_iff.mp h
      refine QTri.callP W (a := 1) (as := [.int x1, .int (1 : Int32)]) (rest := []) (w := none) (σ₁ := (H0 s r46)) rfl rfl rfl rfl rfl rfl rfl rfl (tF7 Ad W s r35 x1 (1 : Int32) hr46) ?_
      obtain rfl := Option.some.inj h
      exact QTri.ret0 rfl rfl
    · refine QTri.brF Ad W (t := 10) (f := 9) (L := [some (.ref 1), vI x1]) (S := []) (σ := (H0 s o)) rfl (XT.ii_lt_f hc10) ?_
      obtain rfl := Option.some.inj h
      exact QTri.ret0 rfl rfl
def B1_138 (v : Int32 × Ob) : Option (((Ob)) ⊕ (Int32 × Ob)) :=
  (if v.1 < (4 : Int32) then (F2 v.2 v.1).bind fun r47 => some (.inr ((v.1 + (1 : Int32)), r47)) else some (.inl v.2))
theorem tB1_138 (Ad : QAd n0 ad) (W : QW Z a0) (s : List Int32) (v : Int32 × Ob) {r : ((Ob)) ⊕ (Int32 × Ob)} {u : Option Value} {τ : QHeap} (h : B1_138 v = some r) (hx0 : ∀ x : Ob, r = .inl x → u = (none : Option Value) ∧ τ = (H0 s x)) (hc : ∀ x : Int32 × Ob, r = .inr x → QTri l Z n0 ad 1 (138, [some (.ref 1), none, none, vI x.1], [], (H0 s x.2)) u τ) : QTri l Z n0 ad 1 (138, [some (.ref 1), none, none, vI v.1], [], (H0 s v.2)) u τ := by
  unfold B1_138 at h
  refine QTri.steps Ad W 2 (st' := (140, [some (.ref 1), none, none, vI v.1], [.int (4 : Int32), .int v.1], (H0 s v.2))) rfl ?_
  rcases qite h with ⟨hc8, h⟩ | ⟨hc8, h⟩
  · refine QTri.brF Ad W (t := 154) (f := 143) (L := [some (.ref 1), none, none, vI v.1]) (S := []) (σ := (H0 s v.2)) rfl (XT.ii_ge_f hc8) ?_
    refine QTri.steps Ad W 2 (st' := (145, [some (.ref 1), none, none, vI v.1], [.int v.1, .ref 1], (H0 s v.2))) rfl ?_
    obtain ⟨r47, hr47, h⟩ := Option.bind_eq_some_iff.mp h
    refine QTri.callP W (a := 1) (as := [.int v.1]) (rest := []) (w := none) (σ₁ := (H0 s r47)) rfl rfl rfl rfl rfl rfl rfl rfl (tF2 Ad W s v.2 v.1 hr47) ?_
    refine QTri.steps Ad W 2 (st' := (138, [some (.ref 1), none, none, vI (v.1 + (1 : Int32))], [], (H0 s r47))) rfl ?_
    obtain rfl := Option.some.inj h
    exact QTri.mask [true, false, false, true] (hc ((v.1 + (1 : Int32)), r47) rfl)
  · refine QTri.brT Ad W (t := 154) (f := 143) (L := [some (.ref 1), none, none, vI v.1]) (S := []) (σ := (H0 s v.2)) rfl (XT.ii_ge_t hc8) ?_
    obtain rfl := Option.some.inj h
    obtain ⟨rfl, rfl⟩ := hx0 v.2 rfl
    exact QTri.ret0 rfl rfl
/-- init(I)V -/
def F1 (x1 : Int32) : Option (Ob) :=
  (loopN (B1_138) qN ((0 : Int32), (s_n (s_queries (s_capacity (s_reg (s_snap (s_backAgg (s_frontAgg (s_backElem (s_backSize (s_frontSize (s_slide (s_range (s_slots (s_regCount (s_regC (s_regB (s_regA (s_regTuple ob0 (0 : Int32)) (1 : Int32)) (2 : Int32)) (3 : Int32)) (4 : Int32)) (32 : Int32)) (List.replicate 4 0)) (List.replicate 4 0)) (List.replicate 4 0)) (List.replicate 4 0)) (List.replicate 512 0)) (List.replicate 512 0)) (List.replicate 16 0)) (List.replicate 16 0)) (List.replicate 16 0)) (if (4 : Int32) < (if x1 < (1 : Int32) then (1 : Int32) else x1) then (4 : Int32) else (if x1 < (1 : Int32) then (1 : Int32) else x1))) (0 : Int32)) (0 : Int32)))).bind fun e48 => some e48
theorem tF1 (Ad : QAd n0 ad) (W : QW Z a0) (s : List Int32) (x1 : Int32) {r : Ob} (h : F1 x1 = some r) : QTri l Z n0 ad 1 (0, qentry [.ref 1, .int x1] (pMaxL 1), [], [.inr (.inl (.int, s)), .inl [.int (f_regTuple ob0), .int (f_regA ob0), .int (f_regB ob0), .int (f_regC ob0), .int (f_regCount ob0), .int (f_slots ob0), .null, .null, .null, .null, .null, .null, .null, .null, .null, .int (f_capacity ob0), .int (f_queries ob0), .int (f_n ob0)]]) (none : Option Value) (H0 s r) := by
  unfold F1 at h
  refine QTri.steps Ad W 1 (st' := (1, [some (.ref 1), vI x1, none, none], [.ref 1], [.inr (.inl (.int, s)), .inl [.int (f_regTuple ob0), .int (f_regA ob0), .int (f_regB ob0), .int (f_regC ob0), .int (f_regCount ob0), .int (f_slots ob0), .null, .null, .null, .null, .null, .null, .null, .null, .null, .int (f_capacity ob0), .int (f_queries ob0), .int (f_n ob0)]])) rfl ?_
  refine QTri.callO W rfl rfl rfl ?_
  refine QTri.steps Ad W 3 (st' := (9, [some (.ref 1), vI x1, none, none], [], [.inr (.inl (.int, s)), .inl [.int (0 : Int32), .int (f_regA ob0), .int (f_regB ob0), .int (f_regC ob0), .int (f_regCount ob0), .int (f_slots ob0), .null, .null, .null, .null, .null, .null, .null, .null, .null, .int (f_capacity ob0), .int (f_queries ob0), .int (f_n ob0)]])) rfl ?_
  refine QTri.steps Ad W 3 (st' := (14, [some (.ref 1), vI x1, none, none], [], [.inr (.inl (.int, s)), .inl [.int (0 : Int32), .int (1 : Int32), .int (f_regB ob0), .int (f_regC ob0), .int (f_regCount ob0), .int (f_slots ob0), .null, .null, .null, .null, .null, .null, .null, .null, .null, .int (f_capacity ob0), .int (f_queries ob0), .int (f_n ob0)]])) rfl ?_
  refine QTri.steps Ad W 3 (st' := (19, [some (.ref 1), vI x1, none, none], [], [.inr (.inl (.int, s)), .inl [.int (0 : Int32), .int (1 : Int32), .int (2 : Int32), .int (f_regC ob0), .int (f_regCount ob0), .int (f_slots ob0), .null, .null, .null, .null, .null, .null, .null, .null, .null, .int (f_capacity ob0), .int (f_queries ob0), .int (f_n ob0)]])) rfl ?_
  refine QTri.steps Ad W 3 (st' := (24, [some (.ref 1), vI x1, none, none], [], [.inr (.inl (.int, s)), .inl [.int (0 : Int32), .int (1 : Int32), .int (2 : Int32), .int (3 : Int32), .int (f_regCount ob0), .int (f_slots ob0), .null, .null, .null, .null, .null, .null, .null, .null, .null, .int (f_capacity ob0), .int (f_queries ob0), .int (f_n ob0)]])) rfl ?_
  refine QTri.steps Ad W 3 (st' := (29, [some (.ref 1), vI x1, none, none], [], [.inr (.inl (.int, s)), .inl [.int (0 : Int32), .int (1 : Int32), .int (2 : Int32), .int (3 : Int32), .int (4 : Int32), .int (f_slots ob0), .null, .null, .null, .null, .null, .null, .null, .null, .null, .int (f_capacity ob0), .int (f_queries ob0), .int (f_n ob0)]])) rfl ?_
  refine QTri.steps Ad W 3 (st' := (35, [some (.ref 1), vI x1, none, none], [], [.inr (.inl (.int, s)), .inl [.int (0 : Int32), .int (1 : Int32), .int (2 : Int32), .int (3 : Int32), .int (4 : Int32), .int (32 : Int32), .null, .null, .null, .null, .null, .null, .null, .null, .null, .int (f_capacity ob0), .int (f_queries ob0), .int (f_n ob0)]])) rfl ?_
  refine QTri.steps Ad W 3 (st' := (39, [some (.ref 1), vI x1, none, none], [.ref 2, .ref 1], [.inr (.inl (.int, s)), .inl [.int (0 : Int32), .int (1 : Int32), .int (2 : Int32), .int (3 : Int32), .int (4 : Int32), .int (32 : Int32), .null, .null, .null, .null, .null, .null, .null, .null, .null, .int (f_capacity ob0), .int (f_queries ob0), .int (f_n ob0)], .inr (.inl (.int, (List.replicate 4 0)))])) rfl ?_
  refine QTri.steps Ad W 1 (st' := (42, [some (.ref 1), vI x1, none, none], [], [.inr (.inl (.int, s)), .inl [.int (0 : Int32), .int (1 : Int32), .int (2 : Int32), .int (3 : Int32), .int (4 : Int32), .int (32 : Int32), .ref 2, .null, .null, .null, .null, .null, .null, .null, .null, .int (f_capacity ob0), .int (f_queries ob0), .int (f_n ob0)], .inr (.inl (.int, (List.replicate 4 0)))])) rfl ?_
  refine QTri.steps Ad W 3 (st' := (46, [some (.ref 1), vI x1, none, none], [.ref 3, .ref 1], [.inr (.inl (.int, s)), .inl [.int (0 : Int32), .int (1 : Int32), .int (2 : Int32), .int (3 : Int32), .int (4 : Int32), .int (32 : Int32), .ref 2, .null, .null, .null, .null, .null, .null, .null, .null, .int (f_capacity ob0), .int (f_queries ob0), .int (f_n ob0)], .inr (.inl (.int, (List.replicate 4 0))), .inr (.inl (.int, (List.replicate 4 0)))])) rfl ?_
  refine QTri.steps Ad W 1 (st' := (49, [some (.ref 1), vI x1, none, none], [], [.inr (.inl (.int, s)), .inl [.int (0 : Int32), .int (1 : Int32), .int (2 : Int32), .int (3 : Int32), .int (4 : Int32), .int (32 : Int32), .ref 2, .ref 3, .null, .null, .null, .null, .null, .null, .null, .int (f_capacity ob0), .int (f_queries ob0), .int (f_n ob0)], .inr (.inl (.int, (List.replicate 4 0))), .inr (.inl (.int, (List.replicate 4 0)))])) rfl ?_
  refine QTri.steps Ad W 3 (st' := (53, [some (.ref 1), vI x1, none, none], [.ref 4, .ref 1], [.inr (.inl (.int, s)), .inl [.int (0 : Int32), .int (1 : Int32), .int (2 : Int32), .int (3 : Int32), .int (4 : Int32), .int (32 : Int32), .ref 2, .ref 3, .null, .null, .null, .null, .null, .null, .null, .int (f_capacity ob0), .int (f_queries ob0), .int (f_n ob0)], .inr (.inl (.int, (List.replicate 4 0))), .inr (.inl (.int, (List.replicate 4 0))), .inr (.inl (.int, (List.replicate 4 0)))])) rfl ?_
  refine QTri.steps Ad W 1 (st' := (56, [some (.ref 1), vI x1, none, none], [], [.inr (.inl (.int, s)), .inl [.int (0 : Int32), .int (1 : Int32), .int (2 : Int32), .int (3 : Int32), .int (4 : Int32), .int (32 : Int32), .ref 2, .ref 3, .ref 4, .null, .null, .null, .null, .null, .null, .int (f_capacity ob0), .int (f_queries ob0), .int (f_n ob0)], .inr (.inl (.int, (List.replicate 4 0))), .inr (.inl (.int, (List.replicate 4 0))), .inr (.inl (.int, (List.replicate 4 0)))])) rfl ?_
  refine QTri.steps Ad W 3 (st' := (60, [some (.ref 1), vI x1, none, none], [.ref 5, .ref 1], [.inr (.inl (.int, s)), .inl [.int (0 : Int32), .int (1 : Int32), .int (2 : Int32), .int (3 : Int32), .int (4 : Int32), .int (32 : Int32), .ref 2, .ref 3, .ref 4, .null, .null, .null, .null, .null, .null, .int (f_capacity ob0), .int (f_queries ob0), .int (f_n ob0)], .inr (.inl (.int, (List.replicate 4 0))), .inr (.inl (.int, (List.replicate 4 0))), .inr (.inl (.int, (List.replicate 4 0))), .inr (.inl (.int, (List.replicate 4 0)))])) rfl ?_
  refine QTri.steps Ad W 1 (st' := (63, [some (.ref 1), vI x1, none, none], [], [.inr (.inl (.int, s)), .inl [.int (0 : Int32), .int (1 : Int32), .int (2 : Int32), .int (3 : Int32), .int (4 : Int32), .int (32 : Int32), .ref 2, .ref 3, .ref 4, .ref 5, .null, .null, .null, .null, .null, .int (f_capacity ob0), .int (f_queries ob0), .int (f_n ob0)], .inr (.inl (.int, (List.replicate 4 0))), .inr (.inl (.int, (List.replicate 4 0))), .inr (.inl (.int, (List.replicate 4 0))), .inr (.inl (.int, (List.replicate 4 0)))])) rfl ?_
  refine QTri.steps Ad W 3 (st' := (69, [some (.ref 1), vI x1, none, none], [.ref 6, .ref 1], [.inr (.inl (.int, s)), .inl [.int (0 : Int32), .int (1 : Int32), .int (2 : Int32), .int (3 : Int32), .int (4 : Int32), .int (32 : Int32), .ref 2, .ref 3, .ref 4, .ref 5, .null, .null, .null, .null, .null, .int (f_capacity ob0), .int (f_queries ob0), .int (f_n ob0)], .inr (.inl (.int, (List.replicate 4 0))), .inr (.inl (.int, (List.replicate 4 0))), .inr (.inl (.int, (List.replicate 4 0))), .inr (.inl (.int, (List.replicate 4 0))), .inr (.inl (.int, (List.replicate 512 0)))])) rfl ?_
  refine QTri.steps Ad W 1 (st' := (72, [some (.ref 1), vI x1, none, none], [], [.inr (.inl (.int, s)), .inl [.int (0 : Int32), .int (1 : Int32), .int (2 : Int32), .int (3 : Int32), .int (4 : Int32), .int (32 : Int32), .ref 2, .ref 3, .ref 4, .ref 5, .ref 6, .null, .null, .null, .null, .int (f_capacity ob0), .int (f_queries ob0), .int (f_n ob0)], .inr (.inl (.int, (List.replicate 4 0))), .inr (.inl (.int, (List.replicate 4 0))), .inr (.inl (.int, (List.replicate 4 0))), .inr (.inl (.int, (List.replicate 4 0))), .inr (.inl (.int, (List.replicate 512 0)))])) rfl ?_
  refine QTri.steps Ad W 3 (st' := (78, [some (.ref 1), vI x1, none, none], [.ref 7, .ref 1], [.inr (.inl (.int, s)), .inl [.int (0 : Int32), .int (1 : Int32), .int (2 : Int32), .int (3 : Int32), .int (4 : Int32), .int (32 : Int32), .ref 2, .ref 3, .ref 4, .ref 5, .ref 6, .null, .null, .null, .null, .int (f_capacity ob0), .int (f_queries ob0), .int (f_n ob0)], .inr (.inl (.int, (List.replicate 4 0))), .inr (.inl (.int, (List.replicate 4 0))), .inr (.inl (.int, (List.replicate 4 0))), .inr (.inl (.int, (List.replicate 4 0))), .inr (.inl (.int, (List.replicate 512 0))), .inr (.inl (.int, (List.replicate 512 0)))])) rfl ?_
  refine QTri.steps Ad W 1 (st' := (81, [some (.ref 1), vI x1, none, none], [], [.inr (.inl (.int, s)), .inl [.int (0 : Int32), .int (1 : Int32), .int (2 : Int32), .int (3 : Int32), .int (4 : Int32), .int (32 : Int32), .ref 2, .ref 3, .ref 4, .ref 5, .ref 6, .ref 7, .null, .null, .null, .int (f_capacity ob0), .int (f_queries ob0), .int (f_n ob0)], .inr (.inl (.int, (List.replicate 4 0))), .inr (.inl (.int, (List.replicate 4 0))), .inr (.inl (.int, (List.replicate 4 0))), .inr (.inl (.int, (List.replicate 4 0))), .inr (.inl (.int, (List.replicate 512 0))), .inr (.inl (.int, (List.replicate 512 0)))])) rfl ?_
  refine QTri.steps Ad W 3 (st' := (86, [some (.ref 1), vI x1, none, none], [.ref 8, .ref 1], [.inr (.inl (.int, s)), .inl [.int (0 : Int32), .int (1 : Int32), .int (2 : Int32), .int (3 : Int32), .int (4 : Int32), .int (32 : Int32), .ref 2, .ref 3, .ref 4, .ref 5, .ref 6, .ref 7, .null, .null, .null, .int (f_capacity ob0), .int (f_queries ob0), .int (f_n ob0)], .inr (.inl (.int, (List.replicate 4 0))), .inr (.inl (.int, (List.replicate 4 0))), .inr (.inl (.int, (List.replicate 4 0))), .inr (.inl (.int, (List.replicate 4 0))), .inr (.inl (.int, (List.replicate 512 0))), .inr (.inl (.int, (List.replicate 512 0))), .inr (.inl (.int, (List.replicate 16 0)))])) rfl ?_
  refine QTri.steps Ad W 1 (st' := (89, [some (.ref 1), vI x1, none, none], [], [.inr (.inl (.int, s)), .inl [.int (0 : Int32), .int (1 : Int32), .int (2 : Int32), .int (3 : Int32), .int (4 : Int32), .int (32 : Int32), .ref 2, .ref 3, .ref 4, .ref 5, .ref 6, .ref 7, .ref 8, .null, .null, .int (f_capacity ob0), .int (f_queries ob0), .int (f_n ob0)], .inr (.inl (.int, (List.replicate 4 0))), .inr (.inl (.int, (List.replicate 4 0))), .inr (.inl (.int, (List.replicate 4 0))), .inr (.inl (.int, (List.replicate 4 0))), .inr (.inl (.int, (List.replicate 512 0))), .inr (.inl (.int, (List.replicate 512 0))), .inr (.inl (.int, (List.replicate 16 0)))])) rfl ?_
  refine QTri.steps Ad W 3 (st' := (94, [some (.ref 1), vI x1, none, none], [.ref 9, .ref 1], [.inr (.inl (.int, s)), .inl [.int (0 : Int32), .int (1 : Int32), .int (2 : Int32), .int (3 : Int32), .int (4 : Int32), .int (32 : Int32), .ref 2, .ref 3, .ref 4, .ref 5, .ref 6, .ref 7, .ref 8, .null, .null, .int (f_capacity ob0), .int (f_queries ob0), .int (f_n ob0)], .inr (.inl (.int, (List.replicate 4 0))), .inr (.inl (.int, (List.replicate 4 0))), .inr (.inl (.int, (List.replicate 4 0))), .inr (.inl (.int, (List.replicate 4 0))), .inr (.inl (.int, (List.replicate 512 0))), .inr (.inl (.int, (List.replicate 512 0))), .inr (.inl (.int, (List.replicate 16 0))), .inr (.inl (.int, (List.replicate 16 0)))])) rfl ?_
  refine QTri.steps Ad W 1 (st' := (97, [some (.ref 1), vI x1, none, none], [], [.inr (.inl (.int, s)), .inl [.int (0 : Int32), .int (1 : Int32), .int (2 : Int32), .int (3 : Int32), .int (4 : Int32), .int (32 : Int32), .ref 2, .ref 3, .ref 4, .ref 5, .ref 6, .ref 7, .ref 8, .ref 9, .null, .int (f_capacity ob0), .int (f_queries ob0), .int (f_n ob0)], .inr (.inl (.int, (List.replicate 4 0))), .inr (.inl (.int, (List.replicate 4 0))), .inr (.inl (.int, (List.replicate 4 0))), .inr (.inl (.int, (List.replicate 4 0))), .inr (.inl (.int, (List.replicate 512 0))), .inr (.inl (.int, (List.replicate 512 0))), .inr (.inl (.int, (List.replicate 16 0))), .inr (.inl (.int, (List.replicate 16 0)))])) rfl ?_
  refine QTri.steps Ad W 3 (st' := (102, [some (.ref 1), vI x1, none, none], [.ref 10, .ref 1], [.inr (.inl (.int, s)), .inl [.int (0 : Int32), .int (1 : Int32), .int (2 : Int32), .int (3 : Int32), .int (4 : Int32), .int (32 : Int32), .ref 2, .ref 3, .ref 4, .ref 5, .ref 6, .ref 7, .ref 8, .ref 9, .null, .int (f_capacity ob0), .int (f_queries ob0), .int (f_n ob0)], .inr (.inl (.int, (List.replicate 4 0))), .inr (.inl (.int, (List.replicate 4 0))), .inr (.inl (.int, (List.replicate 4 0))), .inr (.inl (.int, (List.replicate 4 0))), .inr (.inl (.int, (List.replicate 512 0))), .inr (.inl (.int, (List.replicate 512 0))), .inr (.inl (.int, (List.replicate 16 0))), .inr (.inl (.int, (List.replicate 16 0))), .inr (.inl (.int, (List.replicate 16 0)))])) rfl ?_
  refine QTri.steps Ad W 1 (st' := (105, [some (.ref 1), vI x1, none, none], [], (H0v s (0 : Int32) (1 : Int32) (2 : Int32) (3 : Int32) (4 : Int32) (32 : Int32) (List.replicate 4 0) (List.replicate 4 0) (List.replicate 4 0) (List.replicate 4 0) (List.replicate 512 0) (List.replicate 512 0) (List.replicate 16 0) (List.replicate 16 0) (List.replicate 16 0) (f_capacity ob0) (f_queries ob0) (f_n ob0)))) rfl ?_
  refine QTri.steps Ad W 4 (st' := (109, [some (.ref 1), vI x1, vI x1, none], [.int (1 : Int32), .int x1], (H0v s (0 : Int32) (1 : Int32) (2 : Int32) (3 : Int32) (4 : Int32) (32 : Int32) (List.replicate 4 0) (List.replicate 4 0) (List.replicate 4 0) (List.replicate 4 0) (List.replicate 512 0) (List.replicate 512 0) (List.replicate 16 0) (List.replicate 16 0) (List.replicate 16 0) (f_capacity ob0) (f_queries ob0) (f_n ob0)))) rfl ?_
  have K2 : ∀ z1 : Int32, z1 = (if x1 < (1 : Int32) then (1 : Int32) else x1) → QTri l Z n0 ad 1 (114, [some (.ref 1), none, vI z1, none], [], (H0v s (0 : Int32) (1 : Int32) (2 : Int32) (3 : Int32) (4 : Int32) (32 : Int32) (List.replicate 4 0) (List.replicate 4 0) (List.replicate 4 0) (List.replicate 4 0) (List.replicate 512 0) (List.replicate 512 0) (List.replicate 16 0) (List.replicate 16 0) (List.replicate 16 0) (f_capacity ob0) (f_queries ob0) (f_n ob0))) (none : Option Value) (H0 s r) := by
    intro z1 ez1
    subst ez1
    refine QTri.steps Ad W 2 (st' := (116, [some (.ref 1), none, vI (if x1 < (1 : Int32) then (1 : Int32) else x1), none], [.int (4 : Int32), .int (if x1 < (1 : Int32) then (1 : Int32) else x1)], (H0v s (0 : Int32) (1 : Int32) (2 : Int32) (3 : Int32) (4 : Int32) (32 : Int32) (List.replicate 4 0) (List.replicate 4 0) (List.replicate 4 0) (List.replicate 4 0) (List.replicate 512 0) (List.replicate 512 0) (List.replicate 16 0) (List.replicate 16 0) (List.replicate 16 0) (f_capacity ob0) (f_queries ob0) (f_n ob0)))) rfl ?_
    have K5 : ∀ z4 : Int32, z4 = (if (4 : Int32) < (if x1 < (1 : Int32) then (1 : Int32) else x1) then (4 : Int32) else (if x1 < (1 : Int32) then (1 : Int32) else x1)) → QTri l Z n0 ad 1 (121, [some (.ref 1), none, vI z4, none], [], (H0v s (0 : Int32) (1 : Int32) (2 : Int32) (3 : Int32) (4 : Int32) (32 : Int32) (List.replicate 4 0) (List.replicate 4 0) (List.replicate 4 0) (List.replicate 4 0) (List.replicate 512 0) (List.replicate 512 0) (List.replicate 16 0) (List.replicate 16 0) (List.replicate 16 0) (f_capacity ob0) (f_queries ob0) (f_n ob0))) (none : Option Value) (H0 s r) := by
      intro z4 ez4
      subst ez4
      refine QTri.steps Ad W 3 (st' := (126, [some (.ref 1), none, vI (if (4 : Int32) < (if x1 < (1 : Int32) then (1 : Int32) else x1) then (4 : Int32) else (if x1 < (1 : Int32) then (1 : Int32) else x1)), none], [], (H0v s (0 : Int32) (1 : Int32) (2 : Int32) (3 : Int32) (4 : Int32) (32 : Int32) (List.replicate 4 0) (List.replicate 4 0) (List.replicate 4 0) (List.replicate 4 0) (List.replicate 512 0) (List.replicate 512 0) (List.replicate 16 0) (List.replicate 16 0) (List.replicate 16 0) (if (4 : Int32) < (if x1 < (1 : Int32) then (1 : Int32) else x1) then (4 : Int32) else (if x1 < (1 : Int32) then (1 : Int32) else x1)) (f_queries ob0) (f_n ob0)))) rfl ?_
      refine QTri.steps Ad W 3 (st' := (131, [some (.ref 1), none, vI (if (4 : Int32) < (if x1 < (1 : Int32) then (1 : Int32) else x1) then (4 : Int32) else (if x1 < (1 : Int32) then (1 : Int32) else x1)), none], [], (H0v s (0 : Int32) (1 : Int32) (2 : Int32) (3 : Int32) (4 : Int32) (32 : Int32) (List.replicate 4 0) (List.replicate 4 0) (List.replicate 4 0) (List.replicate 4 0) (List.replicate 512 0) (List.replicate 512 0) (List.replicate 16 0) (List.replicate 16 0) (List.replicate 16 0) (if (4 : Int32) < (if x1 < (1 : Int32) then (1 : Int32) else x1) then (4 : Int32) else (if x1 < (1 : Int32) then (1 : Int32) else x1)) (0 : Int32) (f_n ob0)))) rfl ?_
      refine QTri.steps Ad W 3 (st' := (136, [some (.ref 1), none, vI (if (4 : Int32) < (if x1 < (1 : Int32) then (1 : Int32) else x1) then (4 : Int32) else (if x1 < (1 : Int32) then (1 : Int32) else x1)), none], [], (H0v s (0 : Int32) (1 : Int32) (2 : Int32) (3 : Int32) (4 : Int32) (32 : Int32) (List.replicate 4 0) (List.replicate 4 0) (List.replicate 4 0) (List.replicate 4 0) (List.replicate 512 0) (List.replicate 512 0) (List.replicate 16 0) (List.replicate 16 0) (List.replicate 16 0) (if (4 : Int32) < (if x1 < (1 : Int32) then (1 : Int32) else x1) then (4 : Int32) else (if x1 < (1 : Int32) then (1 : Int32) else x1)) (0 : Int32) (0 : Int32)))) rfl ?_
      refine QTri.steps Ad W 2 (st' := (138, [some (.ref 1), none, vI (if (4 : Int32) < (if x1 < (1 : Int32) then (1 : Int32) else x1) then (4 : Int32) else (if x1 < (1 : Int32) then (1 : Int32) else x1)), vI (0 : Int32)], [], (H0v s (0 : Int32) (1 : Int32) (2 : Int32) (3 : Int32) (4 : Int32) (32 : Int32) (List.replicate 4 0) (List.replicate 4 0) (List.replicate 4 0) (List.replicate 4 0) (List.replicate 512 0) (List.replicate 512 0) (List.replicate 16 0) (List.replicate 16 0) (List.replicate 16 0) (if (4 : Int32) < (if x1 < (1 : Int32) then (1 : Int32) else x1) then (4 : Int32) else (if x1 < (1 : Int32) then (1 : Int32) else x1)) (0 : Int32) (0 : Int32)))) rfl ?_
      have E7 : ((H0v s (0 : Int32) (1 : Int32) (2 : Int32) (3 : Int32) (4 : Int32) (32 : Int32) (List.replicate 4 0) (List.replicate 4 0) (List.replicate 4 0) (List.replicate 4 0) (List.replicate 512 0) (List.replicate 512 0) (List.replicate 16 0) (List.replicate 16 0) (List.replicate 16 0) (if (4 : Int32) < (if x1 < (1 : Int32) then (1 : Int32) else x1) then (4 : Int32) else (if x1 < (1 : Int32) then (1 : Int32) else x1)) (0 : Int32) (0 : Int32)) : QHeap) = (H0 s (s_n (s_queries (s_capacity (s_reg (s_snap (s_backAgg (s_frontAgg (s_backElem (s_backSize (s_frontSize (s_slide (s_range (s_slots (s_regCount (s_regC (s_regB (s_regA (s_regTuple ob0 (0 : Int32)) (1 : Int32)) (2 : Int32)) (3 : Int32)) (4 : Int32)) (32 : Int32)) (List.replicate 4 0)) (List.replicate 4 0)) (List.replicate 4 0)) (List.replicate 4 0)) (List.replicate 512 0)) (List.replicate 512 0)) (List.replicate 16 0)) (List.replicate 16 0)) (List.replicate 16 0)) (if (4 : Int32) < (if x1 < (1 : Int32) then (1 : Int32) else x1) then (4 : Int32) else (if x1 < (1 : Int32) then (1 : Int32) else x1))) (0 : Int32)) (0 : Int32))) := by dsimp only [H0, H0v, f_regTuple, f_regA, f_regB, f_regC, f_regCount, f_slots, f_range, f_slide, f_frontSize, f_backSize, f_backElem, f_frontAgg, f_backAgg, f_snap, f_reg, f_capacity, f_queries, f_n, s_regTuple, s_regA, s_regB, s_regC, s_regCount, s_slots, s_range, s_slide, s_frontSize, s_backSize, s_backElem, s_frontAgg, s_backAgg, s_snap, s_reg, s_capacity, s_queries, s_n, ob0]
      rw [E7]
      obtain ⟨e48, he48, h⟩ := Option.bind_eq_some_iff.mp h
      refine QTri.mask [true, false, false, true] (loopN_tri (B := B1_138) (T := fun lv49 => QTri l Z n0 ad 1 (138, [some (.ref 1), none, none, vI lv49.1], [], (H0 s lv49.2)) (none : Option Value) (H0 s r)) (KE := fun e48a => (none : Option Value) = (none : Option Value) ∧ (H0 s r) = (H0 s e48a)) (fun lv49 r hB hE hC => tB1_138 Ad W s lv49 hB (fun x q => hE _ q) (fun x q => hC x q)) qN ((0 : Int32), (s_n (s_queries (s_capacity (s_reg (s_snap (s_backAgg (s_frontAgg (s_backElem (s_backSize (s_frontSize (s_slide (s_range (s_slots (s_regCount (s_regC (s_regB (s_regA (s_regTuple ob0 (0 : Int32)) (1 : Int32)) (2 : Int32)) (3 : Int32)) (4 : Int32)) (32 : Int32)) (List.replicate 4 0)) (List.replicate 4 0)) (List.replicate 4 0)) (List.replicate 4 0)) (List.replicate 512 0)) (List.replicate 512 0)) (List.replicate 16 0)) (List.replicate 16 0)) (List.replicate 16 0)) (if (4 : Int32) < (if x1 < (1 : Int32) then (1 : Int32) else x1) then (4 : Int32) else (if x1 < (1 : Int32) then (1 : Int32) else x1))) (0 : Int32)) (0 : Int32))) e48 he48 ?_)
      obtain rfl := Option.some.inj h
      exact ⟨rfl, rfl⟩
    rcases Classical.em ((4 : Int32) < (if x1 < (1 : Int32) then (1 : Int32) else x1)) with hc6 | hc6
    · refine QTri.brF Ad W (t := 121) (f := 119) (L := [some (.ref 1), none, vI (if x1 < (1 : Int32) then (1 : Int32) else x1), none]) (S := []) (σ := (H0v s (0 : Int32) (1 : Int32) (2 : Int32) (3 : Int32) (4 : Int32) (32 : Int32) (List.replicate 4 0) (List.replicate 4 0) (List.replicate 4 0) (List.replicate 4 0) (List.replicate 512 0) (List.replicate 512 0) (List.replicate 16 0) (List.replicate 16 0) (List.replicate 16 0) (f_capacity ob0) (f_queries ob0) (f_n ob0))) rfl (XT.ii_le_f hc6) ?_
      refine QTri.steps Ad W 2 (st' := (121, [some (.ref 1), none, vI (4 : Int32), none], [], (H0v s (0 : Int32) (1 : Int32) (2 : Int32) (3 : Int32) (4 : Int32) (32 : Int32) (List.replicate 4 0) (List.replicate 4 0) (List.replicate 4 0) (List.replicate 4 0) (List.replicate 512 0) (List.replicate 512 0) (List.replicate 16 0) (List.replicate 16 0) (List.replicate 16 0) (f_capacity ob0) (f_queries ob0) (f_n ob0)))) rfl ?_
      exact QTri.mask [true, false, true, false] (K5 _ (if_pos hc6).symm)
    · refine QTri.brT Ad W (t := 121) (f := 119) (L := [some (.ref 1), none, vI (if x1 < (1 : Int32) then (1 : Int32) else x1), none]) (S := []) (σ := (H0v s (0 : Int32) (1 : Int32) (2 : Int32) (3 : Int32) (4 : Int32) (32 : Int32) (List.replicate 4 0) (List.replicate 4 0) (List.replicate 4 0) (List.replicate 4 0) (List.replicate 512 0) (List.replicate 512 0) (List.replicate 16 0) (List.replicate 16 0) (List.replicate 16 0) (f_capacity ob0) (f_queries ob0) (f_n ob0))) rfl (XT.ii_le_t hc6) ?_
      exact QTri.mask [true, false, true, false] (K5 _ (if_neg hc6).symm)
  rcases Classical.em (x1 < (1 : Int32)) with hc3 | hc3
  · refine QTri.brF Ad W (t := 114) (f := 112) (L := [some (.ref 1), vI x1, vI x1, none]) (S := []) (σ := (H0v s (0 : Int32) (1 : Int32) (2 : Int32) (3 : Int32) (4 : Int32) (32 : Int32) (List.replicate 4 0) (List.replicate 4 0) (List.replicate 4 0) (List.replicate 4 0) (List.replicate 512 0) (List.replicate 512 0) (List.replicate 16 0) (List.replicate 16 0) (List.replicate 16 0) (f_capacity ob0) (f_queries ob0) (f_n ob0))) rfl (XT.ii_ge_f hc3) ?_
    refine QTri.steps Ad W 2 (st' := (114, [some (.ref 1), vI x1, vI (1 : Int32), none], [], (H0v s (0 : Int32) (1 : Int32) (2 : Int32) (3 : Int32) (4 : Int32) (32 : Int32) (List.replicate 4 0) (List.replicate 4 0) (List.replicate 4 0) (List.replicate 4 0) (List.replicate 512 0) (List.replicate 512 0) (List.replicate 16 0) (List.replicate 16 0) (List.replicate 16 0) (f_capacity ob0) (f_queries ob0) (f_n ob0)))) rfl ?_
    exact QTri.mask [true, false, true, false] (K2 _ (if_pos hc3).symm)
  · refine QTri.brT Ad W (t := 114) (f := 112) (L := [some (.ref 1), vI x1, vI x1, none]) (S := []) (σ := (H0v s (0 : Int32) (1 : Int32) (2 : Int32) (3 : Int32) (4 : Int32) (32 : Int32) (List.replicate 4 0) (List.replicate 4 0) (List.replicate 4 0) (List.replicate 4 0) (List.replicate 512 0) (List.replicate 512 0) (List.replicate 16 0) (List.replicate 16 0) (List.replicate 16 0) (f_capacity ob0) (f_queries ob0) (f_n ob0))) rfl (XT.ii_ge_t hc3) ?_
    exact QTri.mask [true, false, true, false] (K2 _ (if_neg hc3).symm)
/-- queryCount()I -/
def F9 (o : Ob) : Option (Int32) :=
  some (f_queries o)
theorem tF9 (Ad : QAd n0 ad) (W : QW Z a0) (s : List Int32) (o : Ob) {r : Int32} (h : F9 o = some r) : QTri l Z n0 ad 9 (0, qentry [.ref 1] (pMaxL 9), [], (H0 s o)) (some (Value.int r)) (H0 s o) := by
  unfold F9 at h
  refine QTri.steps Ad W 2 (st' := (4, [some (.ref 1)], [.int (f_queries o)], (H0 s o))) rfl ?_
  obtain rfl := Option.some.inj h
  exact QTri.retI rfl rfl
/-- tupleCount()I -/
def F10 (o : Ob) : Option (Int32) :=
  some (f_n o)
theorem tF10 (Ad : QAd n0 ad) (W : QW Z a0) (s : List Int32) (o : Ob) {r : Int32} (h : F10 o = some r) : QTri l Z n0 ad 10 (0, qentry [.ref 1] (pMaxL 10), [], (H0 s o)) (some (Value.int r)) (H0 s o) := by
  unfold F10 at h
  refine QTri.steps Ad W 2 (st' := (4, [some (.ref 1)], [.int (f_n o)], (H0 s o))) rfl ?_
  obtain rfl := Option.some.inj h
  exact QTri.retI rfl rfl
/-- validQuery(I)Z -/
def F12 (o : Ob) (x1 : Int32) : Option (Int32) :=
  (if x1 < (0 : Int32) then some (0 : Int32) else (if x1 < (f_queries o) then (if x1 < (4 : Int32) then some (1 : Int32) else some (0 : Int32)) else some (0 : Int32)))
theorem tF12 (Ad : QAd n0 ad) (W : QW Z a0) (s : List Int32) (o : Ob) (x1 : Int32) {r : Int32} (h : F12 o x1 = some r) : QTri l Z n0 ad 12 (0, qentry [.ref 1, .int x1] (pMaxL 12), [], (H0 s o)) (some (Value.int r)) (H0 s o) := by
  unfold F12 at h
  refine QTri.steps Ad W 1 (st' := (1, [some (.ref 1), vI x1], [.int x1], (H0 s o))) rfl ?_
  rcases qite h with ⟨hc57, h⟩ | ⟨hc57, h⟩
  · refine QTri.brT Ad W (t := 21) (f := 4) (L := [some (.ref 1), vI x1]) (S := []) (σ := (H0 s o)) rfl (XT.i0_lt_t hc57) ?_
    refine QTri.steps Ad W 1 (st' := (22, [some (.ref 1), vI x1], [.int (0 : Int32)], (H0 s o))) rfl ?_
    obtain rfl := Option.some.inj h
    exact QTri.retZ rfl rfl
  · refine QTri.brF Ad W (t := 21) (f := 4) (L := [some (.ref 1), vI x1]) (S := []) (σ := (H0 s o)) rfl (XT.i0_lt_f hc57) ?_
    refine QTri.steps Ad W 3 (st' := (9, [some (.ref 1), vI x1], [.int (f_queries o), .int x1], (H0 s o))) rfl ?_
    rcases qite h with ⟨hc58, h⟩ | ⟨hc58, h⟩
    · refine QTri.brF Ad W (t := 21) (f := 12) (L := [some (.ref 1), vI x1]) (S := []) (σ := (H0 s o)) rfl (XT.ii_ge_f hc58) ?_
      refine QTri.steps Ad W 2 (st' := (14, [some (.ref 1), vI x1], [.int (4 : Int32), .int x1], (H0 s o))) rfl ?_
      rcases qite h with ⟨hc59, h⟩ | ⟨hc59, h⟩
      · refine QTri.brF Ad W (t := 21) (f := 17) (L := [some (.ref 1), vI x1]) (S := []) (σ := (H0 s o)) rfl (XT.ii_ge_f hc59) ?_
        refine QTri.steps Ad W 2 (st' := (22, [some (.ref 1), vI x1], [.int (1 : Int32)], (H0 s o))) rfl ?_
        obtain rfl := Option.some.inj h
        exact QTri.retZ rfl rfl
      · refine QTri.brT Ad W (t := 21) (f := 17) (L := [some (.ref 1), vI x1]) (S := []) (σ := (H0 s o)) rfl (XT.ii_ge_t hc59) ?_
        refine QTri.steps Ad W 1 (st' := (22, [some (.ref 1), vI x1], [.int (0 : Int32)], (H0 s o))) rfl ?_
        obtain rfl := Option.some.inj h
        exact QTri.retZ rfl rfl
    · refine QTri.brT Ad W (t := 21) (f := 12) (L := [some (.ref 1), vI x1]) (S := []) (σ := (H0 s o)) rfl (XT.ii_ge_t hc58) ?_
      refine QTri.steps Ad W 1 (st' := (22, [some (.ref 1), vI x1], [.int (0 : Int32)], (H0 s o))) rfl ?_
      obtain rfl := Option.some.inj h
      exact QTri.retZ rfl rfl
/-- queryRange(I)I -/
def F11 (o : Ob) (x1 : Int32) : Option (Int32) :=
  (F12 o x1).bind fun r60 => (if r60 = (0 : Int32) then some (-1 : Int32) else (aget (f_range o) x1).bind fun y62 => some y62)
theorem tF11 (Ad : QAd n0 ad) (W : QW Z a0) (s : List Int32) (o : Ob) (x1 : Int32) {r : Int32} (h : F11 o x1 = some r) : QTri l Z n0 ad 11 (0, qentry [.ref 1, .int x1] (pMaxL 11), [], (H0 s o)) (some (Value.int r)) (H0 s o) := by
  unfold F11 at h
  refine QTri.steps Ad W 2 (st' := (2, [some (.ref 1), vI x1], [.int x1, .ref 1], (H0 s o))) rfl ?_
  obtain ⟨r60, hr60, h⟩ := Option.bind_eq_some_iff.mp h
  refine QTri.callP W (a := 1) (as := [.int x1]) (rest := []) (w := (some (.int r60))) (σ₁ := (H0 s o)) rfl rfl rfl rfl rfl rfl rfl rfl (tF12 Ad W s o x1 hr60) ?_
  rcases qite h with ⟨hc61, h⟩ | ⟨hc61, h⟩
  · refine QTri.brF Ad W (t := 10) (f := 8) (L := [some (.ref 1), vI x1]) (S := []) (σ := (H0 s o)) rfl (XT.i0_ne_f hc61) ?_
    refine QTri.steps Ad W 1 (st' := (9, [some (.ref 1), vI x1], [.int (-1 : Int32)], (H0 s o))) rfl ?_
    obtain rfl := Option.some.inj h
    exact QTri.retI rfl rfl
  · refine QTri.brT Ad W (t := 10) (f := 8) (L := [some (.ref 1), vI x1]) (S := []) (σ := (H0 s o)) rfl (XT.i0_ne_t hc61) ?_
    refine QTri.steps Ad W 3 (st' := (15, [some (.ref 1), vI x1], [.int x1, .ref 2], (H0 s o))) rfl ?_
    obtain ⟨y62, hy62, h⟩ := Option.bind_eq_some_iff.mp h
    refine QTri.bnd Ad W (f := fun y62 => (16, [some (.ref 1), vI x1], [.int y62], (H0 s o))) rfl hy62 ?_
    obtain rfl := Option.some.inj h
    exact QTri.retI rfl rfl
/-- querySlide(I)I -/
def F13 (o : Ob) (x1 : Int32) : Option (Int32) :=
  (F12 o x1).bind fun r64 => (if r64 = (0 : Int32) then some (-1 : Int32) else (aget (f_slide o) x1).bind fun y66 => some y66)
theorem tF13 (Ad : QAd n0 ad) (W : QW Z a0) (s : List Int32) (o : Ob) (x1 : Int32) {r : Int32} (h : F13 o x1 = some r) : QTri l Z n0 ad 13 (0, qentry [.ref 1, .int x1] (pMaxL 13), [], (H0 s o)) (some (Value.int r)) (H0 s o) := by
  unfold F13 at h
  refine QTri.steps Ad W 2 (st' := (2, [some (.ref 1), vI x1], [.int x1, .ref 1], (H0 s o))) rfl ?_
  obtain ⟨r64, hr64, h⟩ := Option.bind_eq_some_iff.mp h
  refine QTri.callP W (a := 1) (as := [.int x1]) (rest := []) (w := (some (.int r64))) (σ₁ := (H0 s o)) rfl rfl rfl rfl rfl rfl rfl rfl (tF12 Ad W s o x1 hr64) ?_
  rcases qite h with ⟨hc65, h⟩ | ⟨hc65, h⟩
  · refine QTri.brF Ad W (t := 10) (f := 8) (L := [some (.ref 1), vI x1]) (S := []) (σ := (H0 s o)) rfl (XT.i0_ne_f hc65) ?_
    refine QTri.steps Ad W 1 (st' := (9, [some (.ref 1), vI x1], [.int (-1 : Int32)], (H0 s o))) rfl ?_
    obtain rfl := Option.some.inj h
    exact QTri.retI rfl rfl
  · refine QTri.brT Ad W (t := 10) (f := 8) (L := [some (.ref 1), vI x1]) (S := []) (σ := (H0 s o)) rfl (XT.i0_ne_t hc65) ?_
    refine QTri.steps Ad W 3 (st' := (15, [some (.ref 1), vI x1], [.int x1, .ref 3], (H0 s o))) rfl ?_
    obtain ⟨y66, hy66, h⟩ := Option.bind_eq_some_iff.mp h
    refine QTri.bnd Ad W (f := fun y66 => (16, [some (.ref 1), vI x1], [.int y66], (H0 s o))) rfl hy66 ?_
    obtain rfl := Option.some.inj h
    exact QTri.retI rfl rfl
/-- evaluations(I)I -/
def F14 (o : Ob) (x1 : Int32) : Option (Int32) :=
  (F12 o x1).bind fun r68 => (if r68 = (0 : Int32) then some (-1 : Int32) else (aget (f_slide o) x1).bind fun y70 => (if y70 < (1 : Int32) then some (0 : Int32) else (qdiv (f_n o) y70).bind fun y72 => some y72))
theorem tF14 (Ad : QAd n0 ad) (W : QW Z a0) (s : List Int32) (o : Ob) (x1 : Int32) {r : Int32} (h : F14 o x1 = some r) : QTri l Z n0 ad 14 (0, qentry [.ref 1, .int x1] (pMaxL 14), [], (H0 s o)) (some (Value.int r)) (H0 s o) := by
  unfold F14 at h
  refine QTri.steps Ad W 2 (st' := (2, [some (.ref 1), vI x1, none], [.int x1, .ref 1], (H0 s o))) rfl ?_
  obtain ⟨r68, hr68, h⟩ := Option.bind_eq_some_iff.mp h
  refine QTri.callP W (a := 1) (as := [.int x1]) (rest := []) (w := (some (.int r68))) (σ₁ := (H0 s o)) rfl rfl rfl rfl rfl rfl rfl rfl (tF12 Ad W s o x1 hr68) ?_
  rcases qite h with ⟨hc69, h⟩ | ⟨hc69, h⟩
  · refine QTri.brF Ad W (t := 10) (f := 8) (L := [some (.ref 1), vI x1, none]) (S := []) (σ := (H0 s o)) rfl (XT.i0_ne_f hc69) ?_
    refine QTri.steps Ad W 1 (st' := (9, [some (.ref 1), vI x1, none], [.int (-1 : Int32)], (H0 s o))) rfl ?_
    obtain rfl := Option.some.inj h
    exact QTri.retI rfl rfl
  · refine QTri.brT Ad W (t := 10) (f := 8) (L := [some (.ref 1), vI x1, none]) (S := []) (σ := (H0 s o)) rfl (XT.i0_ne_t hc69) ?_
    refine QTri.steps Ad W 3 (st' := (15, [some (.ref 1), vI x1, none], [.int x1, .ref 3], (H0 s o))) rfl ?_
    obtain ⟨y70, hy70, h⟩ := Option.bind_eq_some_iff.mp h
    refine QTri.bnd Ad W (f := fun y70 => (16, [some (.ref 1), vI x1, none], [.int y70], (H0 s o))) rfl hy70 ?_
    refine QTri.steps Ad W 3 (st' := (19, [some (.ref 1), vI x1, vI y70], [.int (1 : Int32), .int y70], (H0 s o))) rfl ?_
    rcases qite h with ⟨hc71, h⟩ | ⟨hc71, h⟩
    · refine QTri.brF Ad W (t := 24) (f := 22) (L := [some (.ref 1), vI x1, vI y70]) (S := []) (σ := (H0 s o)) rfl (XT.ii_ge_f hc71) ?_
      refine QTri.steps Ad W 1 (st' := (23, [some (.ref 1), vI x1, vI y70], [.int (0 : Int32)], (H0 s o))) rfl ?_
      obtain rfl := Option.some.inj h
      exact QTri.retI rfl rfl
    · refine QTri.brT Ad W (t := 24) (f := 22) (L := [some (.ref 1), vI x1, vI y70]) (S := []) (σ := (H0 s o)) rfl (XT.ii_ge_t hc71) ?_
      refine QTri.steps Ad W 3 (st' := (29, [some (.ref 1), vI x1, vI y70], [.int y70, .int (f_n o)], (H0 s o))) rfl ?_
      obtain ⟨y72, hy72, h⟩ := Option.bind_eq_some_iff.mp h
      refine QTri.bnd Ad W (f := fun y72 => (30, [some (.ref 1), vI x1, vI y70], [.int y72], (H0 s o))) rfl hy72 ?_
      obtain rfl := Option.some.inj h
      exact QTri.retI rfl rfl
/-- endOf(I)I -/
def F19 (o : Ob) (x1 : Int32) : Option (Int32) :=
  (aget (f_slide o) x1).bind fun y76 => (if y76 < (1 : Int32) then some (0 : Int32) else (qdiv (f_n o) y76).bind fun y78 => some (y76 * y78))
theorem tF19 (Ad : QAd n0 ad) (W : QW Z a0) (s : List Int32) (o : Ob) (x1 : Int32) {r : Int32} (h : F19 o x1 = some r) : QTri l Z n0 ad 19 (0, qentry [.ref 1, .int x1] (pMaxL 19), [], (H0 s o)) (some (Value.int r)) (H0 s o) := by
  unfold F19 at h
  refine QTri.steps Ad W 3 (st' := (5, [some (.ref 1), vI x1, none], [.int x1, .ref 3], (H0 s o))) rfl ?_
  obtain ⟨y76, hy76, h⟩ := Option.bind_eq_some_iff.mp h
  refine QTri.bnd Ad W (f := fun y76 => (6, [some (.ref 1), vI x1, none], [.int y76], (H0 s o))) rfl hy76 ?_
  refine QTri.steps Ad W 3 (st' := (9, [some (.ref 1), vI x1, vI y76], [.int (1 : Int32), .int y76], (H0 s o))) rfl ?_
  rcases qite h with ⟨hc77, h⟩ | ⟨hc77, h⟩
  · refine QTri.brF Ad W (t := 14) (f := 12) (L := [some (.ref 1), vI x1, vI y76]) (S := []) (σ := (H0 s o)) rfl (XT.ii_ge_f hc77) ?_
    refine QTri.steps Ad W 1 (st' := (13, [some (.ref 1), vI x1, vI y76], [.int (0 : Int32)], (H0 s o))) rfl ?_
    obtain rfl := Option.some.inj h
    exact QTri.retI rfl rfl
  · refine QTri.brT Ad W (t := 14) (f := 12) (L := [some (.ref 1), vI x1, vI y76]) (S := []) (σ := (H0 s o)) rfl (XT.ii_ge_t hc77) ?_
    refine QTri.steps Ad W 4 (st' := (20, [some (.ref 1), vI x1, vI y76], [.int y76, .int (f_n o), .int y76], (H0 s o))) rfl ?_
    obtain ⟨y78, hy78, h⟩ := Option.bind_eq_some_iff.mp h
    refine QTri.bnd Ad W (f := fun y78 => (21, [some (.ref 1), vI x1, vI y76], [.int y78, .int y76], (H0 s o))) rfl hy78 ?_
    refine QTri.steps Ad W 1 (st' := (22, [some (.ref 1), vI x1, vI y76], [.int (y76 * y78)], (H0 s o))) rfl ?_
    obtain rfl := Option.some.inj h
    exact QTri.retI rfl rfl
/-- windowEnd(I)I -/
def F15 (o : Ob) (x1 : Int32) : Option (Int32) :=
  (F12 o x1).bind fun r74 => (if r74 = (0 : Int32) then some (-1 : Int32) else (F19 o x1).bind fun r79 => some r79)
theorem tF15 (Ad : QAd n0 ad) (W : QW Z a0) (s : List Int32) (o : Ob) (x1 : Int32) {r : Int32} (h : F15 o x1 = some r) : QTri l Z n0 ad 15 (0, qentry [.ref 1, .int x1] (pMaxL 15), [], (H0 s o)) (some (Value.int r)) (H0 s o) := by
  unfold F15 at h
  refine QTri.steps Ad W 2 (st' := (2, [some (.ref 1), vI x1], [.int x1, .ref 1], (H0 s o))) rfl ?_
  obtain ⟨r74, hr74, h⟩ := Option.bind_eq_some_iff.mp h
  refine QTri.callP W (a := 1) (as := [.int x1]) (rest := []) (w := (some (.int r74))) (σ₁ := (H0 s o)) rfl rfl rfl rfl rfl rfl rfl rfl (tF12 Ad W s o x1 hr74) ?_
  rcases qite h with ⟨hc75, h⟩ | ⟨hc75, h⟩
  · refine QTri.brF Ad W (t := 10) (f := 8) (L := [some (.ref 1), vI x1]) (S := []) (σ := (H0 s o)) rfl (XT.i0_ne_f hc75) ?_
    refine QTri.steps Ad W 1 (st' := (9, [some (.ref 1), vI x1], [.int (-1 : Int32)], (H0 s o))) rfl ?_
    obtain rfl := Option.some.inj h
    exact QTri.retI rfl rfl
  · refine QTri.brT Ad W (t := 10) (f := 8) (L := [some (.ref 1), vI x1]) (S := []) (σ := (H0 s o)) rfl (XT.i0_ne_t hc75) ?_
    refine QTri.steps Ad W 2 (st' := (12, [some (.ref 1), vI x1], [.int x1, .ref 1], (H0 s o))) rfl ?_
    obtain ⟨r79, hr79, h⟩ := Option.bind_eq_some_iff.mp h
    refine QTri.callP W (a := 1) (as := [.int x1]) (rest := []) (w := (some (.int r79))) (σ₁ := (H0 s o)) rfl rfl rfl rfl rfl rfl rfl rfl (tF19 Ad W s o x1 hr79) ?_
    obtain rfl := Option.some.inj h
    exact QTri.retI rfl rfl
/-- windowStart(I)I -/
def F16 (o : Ob) (x1 : Int32) : Option (Int32) :=
  (F12 o x1).bind fun r81 => (if r81 = (0 : Int32) then some (-1 : Int32) else (F19 o x1).bind fun r83 => (aget (f_range o) x1).bind fun y84 => (if (r83 - y84) < (0 : Int32) then some (0 : Int32) else some (r83 - y84)))
theorem tF16 (Ad : QAd n0 ad) (W : QW Z a0) (s : List Int32) (o : Ob) (x1 : Int32) {r : Int32} (h : F16 o x1 = some r) : QTri l Z n0 ad 16 (0, qentry [.ref 1, .int x1] (pMaxL 16), [], (H0 s o)) (some (Value.int r)) (H0 s o) := by
  unfold F16 at h
  refine QTri.steps Ad W 2 (st' := (2, [some (.ref 1), vI x1, none], [.int x1, .ref 1], (H0 s o))) rfl ?_
  obtain ⟨r81, hr81, h⟩ := Option.bind_eq_some_iff.mp h
  refine QTri.callP W (a := 1) (as := [.int x1]) (rest := []) (w := (some (.int r81))) (σ₁ := (H0 s o)) rfl rfl rfl rfl rfl rfl rfl rfl (tF12 Ad W s o x1 hr81) ?_
  rcases qite h with ⟨hc82, h⟩ | ⟨hc82, h⟩
  · refine QTri.brF Ad W (t := 10) (f := 8) (L := [some (.ref 1), vI x1, none]) (S := []) (σ := (H0 s o)) rfl (XT.i0_ne_f hc82) ?_
    refine QTri.steps Ad W 1 (st' := (9, [some (.ref 1), vI x1, none], [.int (-1 : Int32)], (H0 s o))) rfl ?_
    obtain rfl := Option.some.inj h
    exact QTri.retI rfl rfl
  · refine QTri.brT Ad W (t := 10) (f := 8) (L := [some (.ref 1), vI x1, none]) (S := []) (σ := (H0 s o)) rfl (XT.i0_ne_t hc82) ?_
    refine QTri.steps Ad W 2 (st' := (12, [some (.ref 1), vI x1, none], [.int x1, .ref 1], (H0 s o))) rfl ?_
    obtain ⟨r83, hr83, h⟩ := Option.bind_eq_some_iff.mp h
    refine QTri.callP W (a := 1) (as := [.int x1]) (rest := []) (w := (some (.int r83))) (σ₁ := (H0 s o)) rfl rfl rfl rfl rfl rfl rfl rfl (tF19 Ad W s o x1 hr83) ?_
    refine QTri.steps Ad W 3 (st' := (20, [some (.ref 1), vI x1, none], [.int x1, .ref 2, .int r83], (H0 s o))) rfl ?_
    obtain ⟨y84, hy84, h⟩ := Option.bind_eq_some_iff.mp h
    refine QTri.bnd Ad W (f := fun y84 => (21, [some (.ref 1), vI x1, none], [.int y84, .int r83], (H0 s o))) rfl hy84 ?_
    refine QTri.steps Ad W 3 (st' := (24, [some (.ref 1), vI x1, vI (r83 - y84)], [.int (r83 - y84)], (H0 s o))) rfl ?_
    rcases qite h with ⟨hc85, h⟩ | ⟨hc85, h⟩
    · refine QTri.brF Ad W (t := 29) (f := 27) (L := [some (.ref 1), vI x1, vI (r83 - y84)]) (S := []) (σ := (H0 s o)) rfl (XT.i0_ge_f hc85) ?_
      refine QTri.steps Ad W 1 (st' := (28, [some (.ref 1), vI x1, vI (r83 - y84)], [.int (0 : Int32)], (H0 s o))) rfl ?_
      obtain rfl := Option.some.inj h
      exact QTri.retI rfl rfl
    · refine QTri.brT Ad W (t := 29) (f := 27) (L := [some (.ref 1), vI x1, vI (r83 - y84)]) (S := []) (σ := (H0 s o)) rfl (XT.i0_ge_t hc85) ?_
      refine QTri.steps Ad W 1 (st' := (30, [some (.ref 1), vI x1, vI (r83 - y84)], [.int (r83 - y84)], (H0 s o))) rfl ?_
      obtain rfl := Option.some.inj h
      exact QTri.retI rfl rfl
def J8_183 (o : Ob) (x1 : Int32) (x2 : Int32) (x3 : Int32) : Option (((Int32)) ⊕ (Int32)) :=
  some (.inr (x3 + (1 : Int32)))
theorem tJ8_183 (Ad : QAd n0 ad) (W : QW Z a0) (s : List Int32) (o : Ob) (x1 : Int32) (x2 : Int32) (x3 : Int32) {r : ((Int32)) ⊕ (Int32)} {u : Option Value} {τ : QHeap} (h : J8_183 o x1 x2 x3 = some r) (hx0 : ∀ x : Int32, r = .inl x → u = (some (Value.int x)) ∧ τ = (H0 s o)) (hc : ∀ x : Int32, r = .inr x → QTri l Z n0 ad 8 (27, [some (.ref 1), vI x1, vI x2, vI x, none, none, none, none, none], [], (H0 s o)) u τ) : QTri l Z n0 ad 8 (183, [some (.ref 1), vI x1, vI x2, vI x3, none, none, none, none, none], [], (H0 s o)) u τ := by
  unfold J8_183 at h
  refine QTri.steps Ad W 2 (st' := (27, [some (.ref 1), vI x1, vI x2, vI (x3 + (1 : Int32)), none, none, none, none, none], [], (H0 s o))) rfl ?_
  obtain rfl := Option.some.inj h
  exact QTri.mask [true, true, true, true, false, false, false, false, false] (hc (x3 + (1 : Int32)) rfl)
def B8_27 (o : Ob) (x1 : Int32) (x2 : Int32) (v : Int32) : Option (((Int32)) ⊕ (Int32)) :=
  (if v < (5 : Int32) then (F11 o v).bind fun r63 => (F13 o v).bind fun r67 => (F14 o v).bind fun r73 => (F15 o v).bind fun r80 => (F16 o v).bind fun r86 => (if v < x1 then (if r63 < (1 : Int32) then some (.inl (0 : Int32)) else (if (32 : Int32) < r63 then some (.inl (0 : Int32)) else (if r67 < (1 : Int32) then some (.inl (0 : Int32)) else (if (32 : Int32) < r67 then some (.inl (0 : Int32)) else (if r80 = (r67 * r73) then (if x2 < r80 then some (.inl (0 : Int32)) else (if (x2 - r80) < r67 then (if r86 = (if (0 : Int32) < (r80 - r63) then (r80 - r63) else (0 : Int32)) then (J8_183 o x1 x2 v) else some (.inl (0 : Int32))) else some (.inl (0 : Int32)))) else some (.inl (0 : Int32))))))) else (if r63 = (-1 : Int32) then (if r67 = (-1 : Int32) then (if r73 = (-1 : Int32) then (if r80 = (-1 : Int32) then (if r86 = (-1 : Int32) then (J8_183 o x1 x2 v) else some (.inl (0 : Int32))) else some (.inl (0 : Int32))) else some (.inl (0 : Int32))) else some (.inl (0 : Int32))) else some (.inl (0 : Int32)))) else some (.inl (1 : Int32)))
theorem tB8_27 (Ad : QAd n0 ad) (W : QW Z a0) (s : List Int32) (o : Ob) (x1 : Int32) (x2 : Int32) (v : Int32) {r : ((Int32)) ⊕ (Int32)} {u : Option Value} {τ : QHeap} (h : B8_27 o x1 x2 v = some r) (hx0 : ∀ x : Int32, r = .inl x → u = (some (Value.int x)) ∧ τ = (H0 s o)) (hc : ∀ x : Int32, r = .inr x → QTri l Z n0 ad 8 (27, [some (.ref 1), vI x1, vI x2, vI x, none, none, none, none, none], [], (H0 s o)) u τ) : QTri l Z n0 ad 8 (27, [some (.ref 1), vI x1, vI x2, vI v, none, none, none, none, none], [], (H0 s o)) u τ := by
  unfold B8_27 at h
  refine QTri.steps Ad W 2 (st' := (29, [some (.ref 1), vI x1, vI x2, vI v, none, none, none, none, none], [.int (5 : Int32), .int v], (H0 s o))) rfl ?_
  rcases qite h with ⟨hc56, h⟩ | ⟨hc56, h⟩
  · refine QTri.brF Ad W (t := 189) (f := 32) (L := [some (.ref 1), vI x1, vI x2, vI v, none, none, none, none, none]) (S := []) (σ := (H0 s o)) rfl (XT.ii_ge_f hc56) ?_
    refine QTri.steps Ad W 2 (st' := (34, [some (.ref 1), vI x1, vI x2, vI v, none, none, none, none, none], [.int v, .ref 1], (H0 s o))) rfl ?_
    obtain ⟨r63, hr63, h⟩ := Option.bind_eq_some_iff.mp h
    refine QTri.callV W (a := 1) (as := [.int v]) (rest := []) (w := (some (.int r63))) (σ₁ := (H0 s o)) rfl rfl rfl rfl rfl rfl rfl rfl (tF11 Ad W s o v hr63) ?_
    refine QTri.steps Ad W 3 (st' := (41, [some (.ref 1), vI x1, vI x2, vI v, vI r63, none, none, none, none], [.int v, .ref 1], (H0 s o))) rfl ?_
    obtain ⟨r67, hr67, h⟩ := Option.bind_eq_some_iff.mp h
    refine QTri.callV W (a := 1) (as := [.int v]) (rest := []) (w := (some (.int r67))) (σ₁ := (H0 s o)) rfl rfl rfl rfl rfl rfl rfl rfl (tF13 Ad W s o v hr67) ?_
    refine QTri.steps Ad W 3 (st' := (48, [some (.ref 1), vI x1, vI x2, vI v, vI r63, vI r67, none, none, none], [.int v, .ref 1], (H0 s o))) rfl ?_
    obtain ⟨r73, hr73, h⟩ := Option.bind_eq_some_iff.mp h
    refine QTri.callV W (a := 1) (as := [.int v]) (rest := []) (w := (some (.int r73))) (σ₁ := (H0 s o)) rfl rfl rfl rfl rfl rfl rfl rfl (tF14 Ad W s o v hr73) ?_
    refine QTri.steps Ad W 3 (st' := (55, [some (.ref 1), vI x1, vI x2, vI v, vI r63, vI r67, vI r73, none, none], [.int v, .ref 1], (H0 s o))) rfl ?_
    obtain ⟨r80, hr80, h⟩ := Option.bind_eq_some_iff.mp h
    refine QTri.callV W (a := 1) (as := [.int v]) (rest := []) (w := (some (.int r80))) (σ₁ := (H0 s o)) rfl rfl rfl rfl rfl rfl rfl rfl (tF15 Ad W s o v hr80) ?_
    refine QTri.steps Ad W 3 (st' := (62, [some (.ref 1), vI x1, vI x2, vI v, vI r63, vI r67, vI r73, vI r80, none], [.int v, .ref 1], (H0 s o))) rfl ?_
    obtain ⟨r86, hr86, h⟩ := Option.bind_eq_some_iff.mp h
    refine QTri.callV W (a := 1) (as := [.int v]) (rest := []) (w := (some (.int r86))) (σ₁ := (H0 s o)) rfl rfl rfl rfl rfl rfl rfl rfl (tF16 Ad W s o v hr86) ?_
    refine QTri.steps Ad W 3 (st' := (69, [some (.ref 1), vI x1, vI x2, vI v, vI r63, vI r67, vI r73, vI r80, vI r86], [.int x1, .int v], (H0 s o))) rfl ?_
    rcases qite h with ⟨hc87, h⟩ | ⟨hc87, h⟩
    · refine QTri.brF Ad W (t := 151) (f := 72) (L := [some (.ref 1), vI x1, vI x2, vI v, vI r63, vI r67, vI r73, vI r80, vI r86]) (S := []) (σ := (H0 s o)) rfl (XT.ii_ge_f hc87) ?_
      refine QTri.steps Ad W 2 (st' := (75, [some (.ref 1), vI x1, vI x2, vI v, vI r63, vI r67, vI r73, vI r80, vI r86], [.int (1 : Int32), .int r63], (H0 s o))) rfl ?_
      rcases qite h with ⟨hc88, h⟩ | ⟨hc88, h⟩
      · refine QTri.brT Ad W (t := 98) (f := 78) (L := [some (.ref 1), vI x1, vI x2, vI v, vI r63, vI r67, vI r73, vI r80, vI r86]) (S := []) (σ := (H0 s o)) rfl (XT.ii_lt_t hc88) ?_
        refine QTri.steps Ad W 1 (st' := (99, [some (.ref 1), vI x1, vI x2, vI v, vI r63, vI r67, vI r73, vI r80, vI r86], [.int (0 : Int32)], (H0 s o))) rfl ?_
        obtain rfl := Option.some.inj h
        obtain ⟨rfl, rfl⟩ := hx0 (0 : Int32) rfl
        exact QTri.retZ rfl rfl
      · refine QTri.brF Ad W (t := 98) (f := 78) (L := [some (.ref 1), vI x1, vI x2, vI v, vI r63, vI r67, vI r73, vI r80, vI r86]) (S := []) (σ := (H0 s o)) rfl (XT.ii_lt_f hc88) ?_
        refine QTri.steps Ad W 2 (st' := (82, [some (.ref 1), vI x1, vI x2, vI v, vI r63, vI r67, vI r73, vI r80, vI r86], [.int (32 : Int32), .int r63], (H0 s o))) rfl ?_
        rcases qite h with ⟨hc89, h⟩ | ⟨hc89, h⟩
        · refine QTri.brT Ad W (t := 98) (f := 85) (L := [some (.ref 1), vI x1, vI x2, vI v, vI r63, vI r67, vI r73, vI r80, vI r86]) (S := []) (σ := (H0 s o)) rfl (XT.ii_gt_t hc89) ?_
          refine QTri.steps Ad W 1 (st' := (99, [some (.ref 1), vI x1, vI x2, vI v, vI r63, vI r67, vI r73, vI r80, vI r86], [.int (0 : Int32)], (H0 s o))) rfl ?_
          obtain rfl := Option.some.inj h
          obtain ⟨rfl, rfl⟩ := hx0 (0 : Int32) rfl
          exact QTri.retZ rfl rfl
        · refine QTri.brF Ad W (t := 98) (f := 85) (L := [some (.ref 1), vI x1, vI x2, vI v, vI r63, vI r67, vI r73, vI r80, vI r86]) (S := []) (σ := (H0 s o)) rfl (XT.ii_gt_f hc89) ?_
          refine QTri.steps Ad W 2 (st' := (88, [some (.ref 1), vI x1, vI x2, vI v, vI r63, vI r67, vI r73, vI r80, vI r86], [.int (1 : Int32), .int r67], (H0 s o))) rfl ?_
          rcases qite h with ⟨hc90, h⟩ | ⟨hc90, h⟩
          · refine QTri.brT Ad W (t := 98) (f := 91) (L := [some (.ref 1), vI x1, vI x2, vI v, vI r63, vI r67, vI r73, vI r80, vI r86]) (S := []) (σ := (H0 s o)) rfl (XT.ii_lt_t hc90) ?_
            refine QTri.steps Ad W 1 (st' := (99, [some (.ref 1), vI x1, vI x2, vI v, vI r63, vI r67, vI r73, vI r80, vI r86], [.int (0 : Int32)], (H0 s o))) rfl ?_
            obtain rfl := Option.some.inj h
            obtain ⟨rfl, rfl⟩ := hx0 (0 : Int32) rfl
            exact QTri.retZ rfl rfl
          · refine QTri.brF Ad W (t := 98) (f := 91) (L := [some (.ref 1), vI x1, vI x2, vI v, vI r63, vI r67, vI r73, vI r80, vI r86]) (S := []) (σ := (H0 s o)) rfl (XT.ii_lt_f hc90) ?_
            refine QTri.steps Ad W 2 (st' := (95, [some (.ref 1), vI x1, vI x2, vI v, vI r63, vI r67, vI r73, vI r80, vI r86], [.int (32 : Int32), .int r67], (H0 s o))) rfl ?_
            rcases qite h with ⟨hc91, h⟩ | ⟨hc91, h⟩
            · refine QTri.brF Ad W (t := 100) (f := 98) (L := [some (.ref 1), vI x1, vI x2, vI v, vI r63, vI r67, vI r73, vI r80, vI r86]) (S := []) (σ := (H0 s o)) rfl (XT.ii_le_f hc91) ?_
              refine QTri.steps Ad W 1 (st' := (99, [some (.ref 1), vI x1, vI x2, vI v, vI r63, vI r67, vI r73, vI r80, vI r86], [.int (0 : Int32)], (H0 s o))) rfl ?_
              obtain rfl := Option.some.inj h
              obtain ⟨rfl, rfl⟩ := hx0 (0 : Int32) rfl
              exact QTri.retZ rfl rfl
            · refine QTri.brT Ad W (t := 100) (f := 98) (L := [some (.ref 1), vI x1, vI x2, vI v, vI r63, vI r67, vI r73, vI r80, vI r86]) (S := []) (σ := (H0 s o)) rfl (XT.ii_le_t hc91) ?_
              refine QTri.steps Ad W 4 (st' := (107, [some (.ref 1), vI x1, vI x2, vI v, vI r63, vI r67, vI r73, vI r80, vI r86], [.int (r67 * r73), .int r80], (H0 s o))) rfl ?_
              rcases qite h with ⟨hc92, h⟩ | ⟨hc92, h⟩
              · refine QTri.brF Ad W (t := 125) (f := 110) (L := [some (.ref 1), vI x1, vI x2, vI v, vI r63, vI r67, vI r73, vI r80, vI r86]) (S := []) (σ := (H0 s o)) rfl (XT.ii_ne_f hc92) ?_
                refine QTri.steps Ad W 2 (st' := (113, [some (.ref 1), vI x1, vI x2, vI v, vI r63, vI r67, vI r73, vI r80, vI r86], [.int x2, .int r80], (H0 s o))) rfl ?_
                rcases qite h with ⟨hc93, h⟩ | ⟨hc93, h⟩
                · refine QTri.brT Ad W (t := 125) (f := 116) (L := [some (.ref 1), vI x1, vI x2, vI v, vI r63, vI r67, vI r73, vI r80, vI r86]) (S := []) (σ := (H0 s o)) rfl (XT.ii_gt_t hc93) ?_
                  refine QTri.steps Ad W 1 (st' := (126, [some (.ref 1), vI x1, vI x2, vI v, vI r63, vI r67, vI r73, vI r80, vI r86], [.int (0 : Int32)], (H0 s o))) rfl ?_
                  obtain rfl := Option.some.inj h
                  obtain ⟨rfl, rfl⟩ := hx0 (0 : Int32) rfl
                  exact QTri.retZ rfl rfl
                · refine QTri.brF Ad W (t := 125) (f := 116) (L := [some (.ref 1), vI x1, vI x2, vI v, vI r63, vI r67, vI r73, vI r80, vI r86]) (S := []) (σ := (H0 s o)) rfl (XT.ii_gt_f hc93) ?_
                  refine QTri.steps Ad W 4 (st' := (122, [some (.ref 1), vI x1, vI x2, vI v, vI r63, vI r67, vI r73, vI r80, vI r86], [.int r67, .int (x2 - r80)], (H0 s o))) rfl ?_
                  rcases qite h with ⟨hc94, h⟩ | ⟨hc94, h⟩
                  · refine QTri.brT Ad W (t := 127) (f := 125) (L := [some (.ref 1), vI x1, vI x2, vI v, vI r63, vI r67, vI r73, vI r80, vI r86]) (S := []) (σ := (H0 s o)) rfl (XT.ii_lt_t hc94) ?_
                    refine QTri.steps Ad W 4 (st' := (134, [some (.ref 1), vI x1, vI x2, vI v, vI r63, vI r67, vI r73, vI r80, vI r86], [.int (r80 - r63), .int r86], (H0 s o))) rfl ?_
                    have K96 : ∀ z95 : Int32, z95 = (if (0 : Int32) < (r80 - r63) then (r80 - r63) else (0 : Int32)) → QTri l Z n0 ad 8 (146, [some (.ref 1), vI x1, vI x2, vI v, none, none, none, none, none], [.int z95, .int r86], (H0 s o)) u τ := by
                      intro z95 ez95
                      subst ez95
                      rcases qite h with ⟨hc98, h⟩ | ⟨hc98, h⟩
                      · refine QTri.brT Ad W (t := 183) (f := 149) (L := [some (.ref 1), vI x1, vI x2, vI v, none, none, none, none, none]) (S := []) (σ := (H0 s o)) rfl (XT.ii_eq_t hc98) ?_
                        exact QTri.mask [true, true, true, true, false, false, false, false, false] (tJ8_183 Ad W s o x1 x2 v h hx0 hc)
                      · refine QTri.brF Ad W (t := 183) (f := 149) (L := [some (.ref 1), vI x1, vI x2, vI v, none, none, none, none, none]) (S := []) (σ := (H0 s o)) rfl (XT.ii_eq_f hc98) ?_
                        refine QTri.steps Ad W 1 (st' := (150, [some (.ref 1), vI x1, vI x2, vI v, none, none, none, none, none], [.int (0 : Int32)], (H0 s o))) rfl ?_
                        obtain rfl := Option.some.inj h
                        obtain ⟨rfl, rfl⟩ := hx0 (0 : Int32) rfl
                        exact QTri.retZ rfl rfl
                    rcases Classical.em ((0 : Int32) < (r80 - r63)) with hc97 | hc97
                    · refine QTri.brF Ad W (t := 145) (f := 137) (L := [some (.ref 1), vI x1, vI x2, vI v, vI r63, vI r67, vI r73, vI r80, vI r86]) (S := [.int r86]) (σ := (H0 s o)) rfl (XT.i0_le_f hc97) ?_
                      refine QTri.steps Ad W 4 (st' := (146, [some (.ref 1), vI x1, vI x2, vI v, vI r63, vI r67, vI r73, vI r80, vI r86], [.int (r80 - r63), .int r86], (H0 s o))) rfl ?_
                      exact QTri.mask [true, true, true, true, false, false, false, false, false] (K96 _ (if_pos hc97).symm)
                    · refine QTri.brT Ad W (t := 145) (f := 137) (L := [some (.ref 1), vI x1, vI x2, vI v, vI r63, vI r67, vI r73, vI r80, vI r86]) (S := [.int r86]) (σ := (H0 s o)) rfl (XT.i0_le_t hc97) ?_
                      refine QTri.steps Ad W 1 (st' := (146, [some (.ref 1), vI x1, vI x2, vI v, vI r63, vI r67, vI r73, vI r80, vI r86], [.int (0 : Int32), .int r86], (H0 s o))) rfl ?_
                      exact QTri.mask [true, true, true, true, false, false, false, false, false] (K96 _ (if_neg hc97).symm)
                  · refine QTri.brF Ad W (t := 127) (f := 125) (L := [some (.ref 1), vI x1, vI x2, vI v, vI r63, vI r67, vI r73, vI r80, vI r86]) (S := []) (σ := (H0 s o)) rfl (XT.ii_lt_f hc94) ?_
                    refine QTri.steps Ad W 1 (st' := (126, [some (.ref 1), vI x1, vI x2, vI v, vI r63, vI r67, vI r73, vI r80, vI r86], [.int (0 : Int32)], (H0 s o))) rfl ?_
                    obtain rfl := Option.some.inj h
                    obtain ⟨rfl, rfl⟩ := hx0 (0 : Int32) rfl
                    exact QTri.retZ rfl rfl
              · refine QTri.brT Ad W (t := 125) (f := 110) (L := [some (.ref 1), vI x1, vI x2, vI v, vI r63, vI r67, vI r73, vI r80, vI r86]) (S := []) (σ := (H0 s o)) rfl (XT.ii_ne_t hc92) ?_
                refine QTri.steps Ad W 1 (st' := (126, [some (.ref 1), vI x1, vI x2, vI v, vI r63, vI r67, vI r73, vI r80, vI r86], [.int (0 : Int32)], (H0 s o))) rfl ?_
                obtain rfl := Option.some.inj h
                obtain ⟨rfl, rfl⟩ := hx0 (0 : Int32) rfl
                exact QTri.retZ rfl rfl
    · refine QTri.brT Ad W (t := 151) (f := 72) (L := [some (.ref 1), vI x1, vI x2, vI v, vI r63, vI r67, vI r73, vI r80, vI r86]) (S := []) (σ := (H0 s o)) rfl (XT.ii_ge_t hc87) ?_
      refine QTri.steps Ad W 2 (st' := (154, [some (.ref 1), vI x1, vI x2, vI v, vI r63, vI r67, vI r73, vI r80, vI r86], [.int (-1 : Int32), .int r63], (H0 s o))) rfl ?_
      rcases qite h with ⟨hc99, h⟩ | ⟨hc99, h⟩
      · refine QTri.brF Ad W (t := 181) (f := 157) (L := [some (.ref 1), vI x1, vI x2, vI v, vI r63, vI r67, vI r73, vI r80, vI r86]) (S := []) (σ := (H0 s o)) rfl (XT.ii_ne_f hc99) ?_
        refine QTri.steps Ad W 2 (st' := (160, [some (.ref 1), vI x1, vI x2, vI v, vI r63, vI r67, vI r73, vI r80, vI r86], [.int (-1 : Int32), .int r67], (H0 s o))) rfl ?_
        rcases qite h with ⟨hc100, h⟩ | ⟨hc100, h⟩
        · refine QTri.brF Ad W (t := 181) (f := 163) (L := [some (.ref 1), vI x1, vI x2, vI v, vI r63, vI r67, vI r73, vI r80, vI r86]) (S := []) (σ := (H0 s o)) rfl (XT.ii_ne_f hc100) ?_
          refine QTri.steps Ad W 2 (st' := (166, [some (.ref 1), vI x1, vI x2, vI v, vI r63, vI r67, vI r73, vI r80, vI r86], [.int (-1 : Int32), .int r73], (H0 s o))) rfl ?_
          rcases qite h with ⟨hc101, h⟩ | ⟨hc101, h⟩
          · refine QTri.brF Ad W (t := 181) (f := 169) (L := [some (.ref 1), vI x1, vI x2, vI v, vI r63, vI r67, vI r73, vI r80, vI r86]) (S := []) (σ := (H0 s o)) rfl (XT.ii_ne_f hc101) ?_
            refine QTri.steps Ad W 2 (st' := (172, [some (.ref 1), vI x1, vI x2, vI v, vI r63, vI r67, vI r73, vI r80, vI r86], [.int (-1 : Int32), .int r80], (H0 s o))) rfl ?_
            rcases qite h with ⟨hc102, h⟩ | ⟨hc102, h⟩
            · refine QTri.brF Ad W (t := 181) (f := 175) (L := [some (.ref 1), vI x1, vI x2, vI v, vI r63, vI r67, vI r73, vI r80, vI r86]) (S := []) (σ := (H0 s o)) rfl (XT.ii_ne_f hc102) ?_
              refine QTri.steps Ad W 2 (st' := (178, [some (.ref 1), vI x1, vI x2, vI v, vI r63, vI r67, vI r73, vI r80, vI r86], [.int (-1 : Int32), .int r86], (H0 s o))) rfl ?_
              rcases qite h with ⟨hc103, h⟩ | ⟨hc103, h⟩
              · refine QTri.brT Ad W (t := 183) (f := 181) (L := [some (.ref 1), vI x1, vI x2, vI v, vI r63, vI r67, vI r73, vI r80, vI r86]) (S := []) (σ := (H0 s o)) rfl (XT.ii_eq_t hc103) ?_
                exact QTri.mask [true, true, true, true, false, false, false, false, false] (tJ8_183 Ad W s o x1 x2 v h hx0 hc)
              · refine QTri.brF Ad W (t := 183) (f := 181) (L := [some (.ref 1), vI x1, vI x2, vI v, vI r63, vI r67, vI r73, vI r80, vI r86]) (S := []) (σ := (H0 s o)) rfl (XT.ii_eq_f hc103) ?_
                refine QTri.steps Ad W 1 (st' := (182, [some (.ref 1), vI x1, vI x2, vI v, vI r63, vI r67, vI r73, vI r80, vI r86], [.int (0 : Int32)], (H0 s o))) rfl ?_
                obtain rfl := Option.some.inj h
                obtain ⟨rfl, rfl⟩ := hx0 (0 : Int32) rfl
                exact QTri.retZ rfl rfl
            · refine QTri.brT Ad W (t := 181) (f := 175) (L := [some (.ref 1), vI x1, vI x2, vI v, vI r63, vI r67, vI r73, vI r80, vI r86]) (S := []) (σ := (H0 s o)) rfl (XT.ii_ne_t hc102) ?_
              refine QTri.steps Ad W 1 (st' := (182, [some (.ref 1), vI x1, vI x2, vI v, vI r63, vI r67, vI r73, vI r80, vI r86], [.int (0 : Int32)], (H0 s o))) rfl ?_
              obtain rfl := Option.some.inj h
              obtain ⟨rfl, rfl⟩ := hx0 (0 : Int32) rfl
              exact QTri.retZ rfl rfl
          · refine QTri.brT Ad W (t := 181) (f := 169) (L := [some (.ref 1), vI x1, vI x2, vI v, vI r63, vI r67, vI r73, vI r80, vI r86]) (S := []) (σ := (H0 s o)) rfl (XT.ii_ne_t hc101) ?_
            refine QTri.steps Ad W 1 (st' := (182, [some (.ref 1), vI x1, vI x2, vI v, vI r63, vI r67, vI r73, vI r80, vI r86], [.int (0 : Int32)], (H0 s o))) rfl ?_
            obtain rfl := Option.some.inj h
            obtain ⟨rfl, rfl⟩ := hx0 (0 : Int32) rfl
            exact QTri.retZ rfl rfl
        · refine QTri.brT Ad W (t := 181) (f := 163) (L := [some (.ref 1), vI x1, vI x2, vI v, vI r63, vI r67, vI r73, vI r80, vI r86]) (S := []) (σ := (H0 s o)) rfl (XT.ii_ne_t hc100) ?_
          refine QTri.steps Ad W 1 (st' := (182, [some (.ref 1), vI x1, vI x2, vI v, vI r63, vI r67, vI r73, vI r80, vI r86], [.int (0 : Int32)], (H0 s o))) rfl ?_
          obtain rfl := Option.some.inj h
          obtain ⟨rfl, rfl⟩ := hx0 (0 : Int32) rfl
          exact QTri.retZ rfl rfl
      · refine QTri.brT Ad W (t := 181) (f := 157) (L := [some (.ref 1), vI x1, vI x2, vI v, vI r63, vI r67, vI r73, vI r80, vI r86]) (S := []) (σ := (H0 s o)) rfl (XT.ii_ne_t hc99) ?_
        refine QTri.steps Ad W 1 (st' := (182, [some (.ref 1), vI x1, vI x2, vI v, vI r63, vI r67, vI r73, vI r80, vI r86], [.int (0 : Int32)], (H0 s o))) rfl ?_
        obtain rfl := Option.some.inj h
        obtain ⟨rfl, rfl⟩ := hx0 (0 : Int32) rfl
        exact QTri.retZ rfl rfl
  · refine QTri.brT Ad W (t := 189) (f := 32) (L := [some (.ref 1), vI x1, vI x2, vI v, none, none, none, none, none]) (S := []) (σ := (H0 s o)) rfl (XT.ii_ge_t hc56) ?_
    refine QTri.steps Ad W 1 (st' := (190, [some (.ref 1), vI x1, vI x2, vI v, none, none, none, none, none], [.int (1 : Int32)], (H0 s o))) rfl ?_
    obtain rfl := Option.some.inj h
    obtain ⟨rfl, rfl⟩ := hx0 (1 : Int32) rfl
    exact QTri.retZ rfl rfl
/-- inv(LSliceAggregate;)Z -/
def F8 (o : Ob) : Option (Int32) :=
  (F9 o).bind fun r51 => (F10 o).bind fun r52 => (if r51 < (0 : Int32) then some (0 : Int32) else (if (4 : Int32) < r51 then some (0 : Int32) else (if r52 < (0 : Int32) then some (0 : Int32) else (loopN (B8_27 o r51 r52) qN (0 : Int32)).bind fun e104 => some e104)))
theorem tF8 (Ad : QAd n0 ad) (W : QW Z a0) (s : List Int32) (o : Ob) {r : Int32} (h : F8 o = some r) : QTri l Z n0 ad 8 (0, qentry [.ref 1] (pMaxL 8), [], (H0 s o)) (some (Value.int r)) (H0 s o) := by
  unfold F8 at h
  refine QTri.steps Ad W 1 (st' := (1, [some (.ref 1), none, none, none, none, none, none, none, none], [.ref 1], (H0 s o))) rfl ?_
  obtain ⟨r51, hr51, h⟩ := Option.bind_eq_some_iff.mp h
  refine QTri.callV W (a := 1) (as := []) (rest := []) (w := (some (.int r51))) (σ₁ := (H0 s o)) rfl rfl rfl rfl rfl rfl rfl rfl (tF9 Ad W s o hr51) ?_
  refine QTri.steps Ad W 2 (st' := (6, [some (.ref 1), vI r51, none, none, none, none, none, none, none], [.ref 1], (H0 s o))) rfl ?_
  obtain ⟨r52, hr52, h⟩ := Option.bind_eq_some_iff.mp h
  refine QTri.callV W (a := 1) (as := []) (rest := []) (w := (some (.int r52))) (σ₁ := (H0 s o)) rfl rfl rfl rfl rfl rfl rfl rfl (tF10 Ad W s o hr52) ?_
  refine QTri.steps Ad W 2 (st' := (11, [some (.ref 1), vI r51, vI r52, none, none, none, none, none, none], [.int r51], (H0 s o))) rfl ?_
  rcases qite h with ⟨hc53, h⟩ | ⟨hc53, h⟩
  · refine QTri.brT Ad W (t := 23) (f := 14) (L := [some (.ref 1), vI r51, vI r52, none, none, none, none, none, none]) (S := []) (σ := (H0 s o)) rfl (XT.i0_lt_t hc53) ?_
    refine QTri.steps Ad W 1 (st' := (24, [some (.ref 1), vI r51, vI r52, none, none, none, none, none, none], [.int (0 : Int32)], (H0 s o))) rfl ?_
    obtain rfl := Option.some.inj h
    exact QTri.retZ rfl rfl
  · refine QTri.brF Ad W (t := 23) (f := 14) (L := [some (.ref 1), vI r51, vI r52, none, none, none, none, none, none]) (S := []) (σ := (H0 s o)) rfl (XT.i0_lt_f hc53) ?_
    refine QTri.steps Ad W 2 (st' := (16, [some (.ref 1), vI r51, vI r52, none, none, none, none, none, none], [.int (4 : Int32), .int r51], (H0 s o))) rfl ?_
    rcases qite h with ⟨hc54, h⟩ | ⟨hc54, h⟩
    · refine QTri.brT Ad W (t := 23) (f := 19) (L := [some (.ref 1), vI r51, vI r52, none, none, none, none, none, none]) (S := []) (σ := (H0 s o)) rfl (XT.ii_gt_t hc54) ?_
      refine QTri.steps Ad W 1 (st' := (24, [some (.ref 1), vI r51, vI r52, none, none, none, none, none, none], [.int (0 : Int32)], (H0 s o))) rfl ?_
      obtain rfl := Option.some.inj h
      exact QTri.retZ rfl rfl
    · refine QTri.brF Ad W (t := 23) (f := 19) (L := [some (.ref 1), vI r51, vI r52, none, none, none, none, none, none]) (S := []) (σ := (H0 s o)) rfl (XT.ii_gt_f hc54) ?_
      refine QTri.steps Ad W 1 (st' := (20, [some (.ref 1), vI r51, vI r52, none, none, none, none, none, none], [.int r52], (H0 s o))) rfl ?_
      rcases qite h with ⟨hc55, h⟩ | ⟨hc55, h⟩
      · refine QTri.brF Ad W (t := 25) (f := 23) (L := [some (.ref 1), vI r51, vI r52, none, none, none, none, none, none]) (S := []) (σ := (H0 s o)) rfl (XT.i0_ge_f hc55) ?_
        refine QTri.steps Ad W 1 (st' := (24, [some (.ref 1), vI r51, vI r52, none, none, none, none, none, none], [.int (0 : Int32)], (H0 s o))) rfl ?_
        obtain rfl := Option.some.inj h
        exact QTri.retZ rfl rfl
      · refine QTri.brT Ad W (t := 25) (f := 23) (L := [some (.ref 1), vI r51, vI r52, none, none, none, none, none, none]) (S := []) (σ := (H0 s o)) rfl (XT.i0_ge_t hc55) ?_
        refine QTri.steps Ad W 2 (st' := (27, [some (.ref 1), vI r51, vI r52, vI (0 : Int32), none, none, none, none, none], [], (H0 s o))) rfl ?_
        obtain ⟨e104, he104, h⟩ := Option.bind_eq_some_iff.mp h
        refine QTri.mask [true, true, true, true, false, false, false, false, false] (loopN_tri (B := B8_27 o r51 r52) (T := fun lv105 => QTri l Z n0 ad 8 (27, [some (.ref 1), vI r51, vI r52, vI lv105, none, none, none, none, none], [], (H0 s o)) (some (Value.int r)) (H0 s o)) (KE := fun e104a => (some (Value.int r)) = (some (Value.int e104a)) ∧ (H0 s o) = (H0 s o)) (fun lv105 r hB hE hC => tB8_27 Ad W s o r51 r52 lv105 hB (fun x q => hE _ q) (fun x q => hC x q)) qN (0 : Int32) e104 he104 ?_)
        obtain rfl := Option.some.inj h
        exact ⟨rfl, rfl⟩
/-- addQuery(II)I -/
def F18 (o : Ob) (x1 : Int32) (x2 : Int32) : Option (Int32 × Ob) :=
  (if (f_n o) = (0 : Int32) then (if (f_queries o) < (f_capacity o) then (if x1 < (1 : Int32) then some ((-1 : Int32), o) else (if (32 : Int32) < x1 then some ((-1 : Int32), o) else (if x2 < (1 : Int32) then some ((-1 : Int32), o) else (if (32 : Int32) < x2 then some ((-1 : Int32), o) else (aset (f_range o) (f_queries o) x1).bind fun y121 => (aset (f_slide o) (f_queries o) x2).bind fun y122 => (F2 (s_slide (s_range o y121) y122) (f_queries o)).bind fun r124 => some ((f_queries o), (s_queries r124 ((f_queries r124) + (1 : Int32)))))))) else some ((-1 : Int32), o)) else some ((-1 : Int32), o))
theorem tF18 (Ad : QAd n0 ad) (W : QW Z a0) (s : List Int32) (o : Ob) (x1 : Int32) (x2 : Int32) {r : Int32 × Ob} (h : F18 o x1 x2 = some r) : QTri l Z n0 ad 18 (0, qentry [.ref 1, .int x1, .int x2] (pMaxL 18), [], (H0 s o)) (some (Value.int r.1)) (H0 s r.2) := by
  unfold F18 at h
  refine QTri.steps Ad W 2 (st' := (4, [some (.ref 1), vI x1, vI x2, none], [.int (f_n o)], (H0 s o))) rfl ?_
  rcases qite h with ⟨hc115, h⟩ | ⟨hc115, h⟩
  · refine QTri.brT Ad W (t := 9) (f := 7) (L := [some (.ref 1), vI x1, vI x2, none]) (S := []) (σ := (H0 s o)) rfl (XT.i0_eq_t hc115) ?_
    refine QTri.steps Ad W 4 (st' := (17, [some (.ref 1), vI x1, vI x2, none], [.int (f_capacity o), .int (f_queries o)], (H0 s o))) rfl ?_
    rcases qite h with ⟨hc116, h⟩ | ⟨hc116, h⟩
    · refine QTri.brT Ad W (t := 22) (f := 20) (L := [some (.ref 1), vI x1, vI x2, none]) (S := []) (σ := (H0 s o)) rfl (XT.ii_lt_t hc116) ?_
      refine QTri.steps Ad W 2 (st' := (24, [some (.ref 1), vI x1, vI x2, none], [.int (1 : Int32), .int x1], (H0 s o))) rfl ?_
      rcases qite h with ⟨hc117, h⟩ | ⟨hc117, h⟩
      · refine QTri.brT Ad W (t := 33) (f := 27) (L := [some (.ref 1), vI x1, vI x2, none]) (S := []) (σ := (H0 s o)) rfl (XT.ii_lt_t hc117) ?_
        refine QTri.steps Ad W 1 (st' := (34, [some (.ref 1), vI x1, vI x2, none], [.int (-1 : Int32)], (H0 s o))) rfl ?_
        obtain rfl := Option.some.inj h
        exact QTri.retI rfl rfl
      · refine QTri.brF Ad W (t := 33) (f := 27) (L := [some (.ref 1), vI x1, vI x2, none]) (S := []) (σ := (H0 s o)) rfl (XT.ii_lt_f hc117) ?_
        refine QTri.steps Ad W 2 (st' := (30, [some (.ref 1), vI x1, vI x2, none], [.int (32 : Int32), .int x1], (H0 s o))) rfl ?_
        rcases qite h with ⟨hc118, h⟩ | ⟨hc118, h⟩
        · refine QTri.brF Ad W (t := 35) (f := 33) (L := [some (.ref 1), vI x1, vI x2, none]) (S := []) (σ := (H0 s o)) rfl (XT.ii_le_f hc118) ?_
          refine QTri.steps Ad W 1 (st' := (34, [some (.ref 1), vI x1, vI x2, none], [.int (-1 : Int32)], (H0 s o))) rfl ?_
          obtain rfl := Option.some.inj h
          exact QTri.retI rfl rfl
        · refine QTri.brT Ad W (t := 35) (f := 33) (L := [some (.ref 1), vI x1, vI x2, none]) (S := []) (σ := (H0 s o)) rfl (XT.ii_le_t hc118) ?_
          refine QTri.steps Ad W 2 (st' := (37, [some (.ref 1), vI x1, vI x2, none], [.int (1 : Int32), .int x2], (H0 s o))) rfl ?_
          rcases qite h with ⟨hc119, h⟩ | ⟨hc119, h⟩
          · refine QTri.brT Ad W (t := 46) (f := 40) (L := [some (.ref 1), vI x1, vI x2, none]) (S := []) (σ := (H0 s o)) rfl (XT.ii_lt_t hc119) ?_
            refine QTri.steps Ad W 1 (st' := (47, [some (.ref 1), vI x1, vI x2, none], [.int (-1 : Int32)], (H0 s o))) rfl ?_
            obtain rfl := Option.some.inj h
            exact QTri.retI rfl rfl
          · refine QTri.brF Ad W (t := 46) (f := 40) (L := [some (.ref 1), vI x1, vI x2, none]) (S := []) (σ := (H0 s o)) rfl (XT.ii_lt_f hc119) ?_
            refine QTri.steps Ad W 2 (st' := (43, [some (.ref 1), vI x1, vI x2, none], [.int (32 : Int32), .int x2], (H0 s o))) rfl ?_
            rcases qite h with ⟨hc120, h⟩ | ⟨hc120, h⟩
            · refine QTri.brF Ad W (t := 48) (f := 46) (L := [some (.ref 1), vI x1, vI x2, none]) (S := []) (σ := (H0 s o)) rfl (XT.ii_le_f hc120) ?_
              refine QTri.steps Ad W 1 (st' := (47, [some (.ref 1), vI x1, vI x2, none], [.int (-1 : Int32)], (H0 s o))) rfl ?_
              obtain rfl := Option.some.inj h
              exact QTri.retI rfl rfl
            · refine QTri.brT Ad W (t := 48) (f := 46) (L := [some (.ref 1), vI x1, vI x2, none]) (S := []) (σ := (H0 s o)) rfl (XT.ii_le_t hc120) ?_
              refine QTri.steps Ad W 7 (st' := (59, [some (.ref 1), vI x1, vI x2, vI (f_queries o)], [.int x1, .int (f_queries o), .ref 2], (H0 s o))) rfl ?_
              obtain ⟨y121, hy121, h⟩ := Option.bind_eq_some_iff.mp h
              refine QTri.bnd Ad W (f := fun y121 => (60, [some (.ref 1), vI x1, vI x2, vI (f_queries o)], [], (H0v s (f_regTuple o) (f_regA o) (f_regB o) (f_regC o) (f_regCount o) (f_slots o) y121 (f_slide o) (f_frontSize o) (f_backSize o) (f_backElem o) (f_frontAgg o) (f_backAgg o) (f_snap o) (f_reg o) (f_capacity o) (f_queries o) (f_n o)))) rfl hy121 ?_
              refine QTri.steps Ad W 4 (st' := (66, [some (.ref 1), vI x1, vI x2, vI (f_queries o)], [.int x2, .int (f_queries o), .ref 3], (H0v s (f_regTuple o) (f_regA o) (f_regB o) (f_regC o) (f_regCount o) (f_slots o) y121 (f_slide o) (f_frontSize o) (f_backSize o) (f_backElem o) (f_frontAgg o) (f_backAgg o) (f_snap o) (f_reg o) (f_capacity o) (f_queries o) (f_n o)))) rfl ?_
              obtain ⟨y122, hy122, h⟩ := Option.bind_eq_some_iff.mp h
              refine QTri.bnd Ad W (f := fun y122 => (67, [some (.ref 1), vI x1, vI x2, vI (f_queries o)], [], (H0v s (f_regTuple o) (f_regA o) (f_regB o) (f_regC o) (f_regCount o) (f_slots o) y121 y122 (f_frontSize o) (f_backSize o) (f_backElem o) (f_frontAgg o) (f_backAgg o) (f_snap o) (f_reg o) (f_capacity o) (f_queries o) (f_n o)))) rfl hy122 ?_
              refine QTri.steps Ad W 2 (st' := (69, [some (.ref 1), vI x1, vI x2, vI (f_queries o)], [.int (f_queries o), .ref 1], (H0v s (f_regTuple o) (f_regA o) (f_regB o) (f_regC o) (f_regCount o) (f_slots o) y121 y122 (f_frontSize o) (f_backSize o) (f_backElem o) (f_frontAgg o) (f_backAgg o) (f_snap o) (f_reg o) (f_capacity o) (f_queries o) (f_n o)))) rfl ?_
              have E123 : ((H0v s (f_regTuple o) (f_regA o) (f_regB o) (f_regC o) (f_regCount o) (f_slots o) y121 y122 (f_frontSize o) (f_backSize o) (f_backElem o) (f_frontAgg o) (f_backAgg o) (f_snap o) (f_reg o) (f_capacity o) (f_queries o) (f_n o)) : QHeap) = (H0 s (s_slide (s_range o y121) y122)) := by dsimp only [H0, H0v, f_regTuple, f_regA, f_regB, f_regC, f_regCount, f_slots, f_range, f_slide, f_frontSize, f_backSize, f_backElem, f_frontAgg, f_backAgg, f_snap, f_reg, f_capacity, f_queries, f_n, s_range, s_slide]
              rw [E123]
              obtain ⟨r124, hr124, h⟩ := Option.bind_eq_some_iff.mp h
              refine QTri.callP W (a := 1) (as := [.int (f_queries o)]) (rest := []) (w := none) (σ₁ := (H0 s r124)) rfl rfl rfl rfl rfl rfl rfl rfl (tF2 Ad W s (s_slide (s_range o y121) y122) (f_queries o) hr124) ?_
              refine QTri.steps Ad W 6 (st' := (82, [some (.ref 1), vI x1, vI x2, vI (f_queries o)], [], (H0v s (f_regTuple r124) (f_regA r124) (f_regB r124) (f_regC r124) (f_regCount r124) (f_slots r124) (f_range r124) (f_slide r124) (f_frontSize r124) (f_backSize r124) (f_backElem r124) (f_frontAgg r124) (f_backAgg r124) (f_snap r124) (f_reg r124) (f_capacity r124) ((f_queries r124) + (1 : Int32)) (f_n r124)))) rfl ?_
              refine QTri.steps Ad W 1 (st' := (83, [some (.ref 1), vI x1, vI x2, vI (f_queries o)], [.int (f_queries o)], (H0v s (f_regTuple r124) (f_regA r124) (f_regB r124) (f_regC r124) (f_regCount r124) (f_slots r124) (f_range r124) (f_slide r124) (f_frontSize r124) (f_backSize r124) (f_backElem r124) (f_frontAgg r124) (f_backAgg r124) (f_snap r124) (f_reg r124) (f_capacity r124) ((f_queries r124) + (1 : Int32)) (f_n r124)))) rfl ?_
              have E125 : ((H0v s (f_regTuple r124) (f_regA r124) (f_regB r124) (f_regC r124) (f_regCount r124) (f_slots r124) (f_range r124) (f_slide r124) (f_frontSize r124) (f_backSize r124) (f_backElem r124) (f_frontAgg r124) (f_backAgg r124) (f_snap r124) (f_reg r124) (f_capacity r124) ((f_queries r124) + (1 : Int32)) (f_n r124)) : QHeap) = (H0 s (s_queries r124 ((f_queries r124) + (1 : Int32)))) := by dsimp only [H0, H0v, f_regTuple, f_regA, f_regB, f_regC, f_regCount, f_slots, f_range, f_slide, f_frontSize, f_backSize, f_backElem, f_frontAgg, f_backAgg, f_snap, f_reg, f_capacity, f_queries, f_n, s_queries]
              rw [E125]
              obtain rfl := Option.some.inj h
              exact QTri.retI rfl rfl
    · refine QTri.brF Ad W (t := 22) (f := 20) (L := [some (.ref 1), vI x1, vI x2, none]) (S := []) (σ := (H0 s o)) rfl (XT.ii_lt_f hc116) ?_
      refine QTri.steps Ad W 1 (st' := (21, [some (.ref 1), vI x1, vI x2, none], [.int (-1 : Int32)], (H0 s o))) rfl ?_
      obtain rfl := Option.some.inj h
      exact QTri.retI rfl rfl
  · refine QTri.brF Ad W (t := 9) (f := 7) (L := [some (.ref 1), vI x1, vI x2, none]) (S := []) (σ := (H0 s o)) rfl (XT.i0_eq_f hc115) ?_
    refine QTri.steps Ad W 1 (st' := (8, [some (.ref 1), vI x1, vI x2, none], [.int (-1 : Int32)], (H0 s o))) rfl ?_
    obtain rfl := Option.some.inj h
    exact QTri.retI rfl rfl
def J0_198 (s : List Int32) (p0 : Ob) (x2 : Int32) : Option (((Int32 × QHeap)) ⊕ (Int32 × Ob)) :=
  (F8 p0).bind fun r129 => (if r129 = (0 : Int32) then some (.inl ((0 : Int32), (H0 s p0))) else some (.inr ((x2 + (5 : Int32)), p0)))
theorem tJ0_198 (Ad : QAd n0 ad) (W : QW Z a0) (s : List Int32) (p0 : Ob) (x2 : Int32) {r : ((Int32 × QHeap)) ⊕ (Int32 × Ob)} {u : Option Value} {τ : QHeap} (h : J0_198 s p0 x2 = some r) (hx0 : ∀ x : Int32 × QHeap, r = .inl x → u = (some (Value.int x.1)) ∧ τ = x.2) (hc : ∀ x : Int32 × Ob, r = .inr x → QTri l Z n0 ad 0 (20, [some (.ref 0), some (.ref 1), vI x.1, none, none, none, none, none, none, none, none, none, none, none], [], (H0 s x.2)) u τ) : QTri l Z n0 ad 0 (198, [some (.ref 0), some (.ref 1), vI x2, none, none, none, none, none, none, none, none, none, none, none], [], (H0 s p0)) u τ := by
  unfold J0_198 at h
  refine QTri.steps Ad W 1 (st' := (199, [some (.ref 0), some (.ref 1), vI x2, none, none, none, none, none, none, none, none, none, none, none], [.ref 1], (H0 s p0))) rfl ?_
  obtain ⟨r129, hr129, h⟩ := Option.bind_eq_some_iff.mp h
  refine QTri.callS W (as := [.ref 1]) (rest := []) (w := (some (.int r129))) (σ₁ := (H0 s p0)) rfl rfl rfl rfl rfl rfl rfl (tF8 Ad W s p0 hr129) ?_
  rcases qite h with ⟨hc130, h⟩ | ⟨hc130, h⟩
  · refine QTri.brF Ad W (t := 207) (f := 205) (L := [some (.ref 0), some (.ref 1), vI x2, none, none, none, none, none, none, none, none, none, none, none]) (S := []) (σ := (H0 s p0)) rfl (XT.i0_ne_f hc130) ?_
    refine QTri.steps Ad W 1 (st' := (206, [some (.ref 0), some (.ref 1), vI x2, none, none, none, none, none, none, none, none, none, none, none], [.int (0 : Int32)], (H0 s p0))) rfl ?_
    obtain rfl := Option.some.inj h
    obtain ⟨rfl, rfl⟩ := hx0 ((0 : Int32), (H0 s p0)) rfl
    exact QTri.retZ rfl rfl
  · refine QTri.brT Ad W (t := 207) (f := 205) (L := [some (.ref 0), some (.ref 1), vI x2, none, none, none, none, none, none, none, none, none, none, none]) (S := []) (σ := (H0 s p0)) rfl (XT.i0_ne_t hc130) ?_
    refine QTri.steps Ad W 2 (st' := (20, [some (.ref 0), some (.ref 1), vI (x2 + (5 : Int32)), none, none, none, none, none, none, none, none, none, none, none], [], (H0 s p0))) rfl ?_
    obtain rfl := Option.some.inj h
    exact QTri.mask [true, true, true, false, false, false, false, false, false, false, false, false, false, false] (hc ((x2 + (5 : Int32)), p0) rfl)
def J0_99 (s : List Int32) (p0 : Ob) (x2 : Int32) : Option (((Int32 × QHeap)) ⊕ (Int32 × Ob)) :=
  (J0_198 s p0 x2)
theorem tJ0_99 (Ad : QAd n0 ad) (W : QW Z a0) (s : List Int32) (p0 : Ob) (x2 : Int32) {r : ((Int32 × QHeap)) ⊕ (Int32 × Ob)} {u : Option Value} {τ : QHeap} (h : J0_99 s p0 x2 = some r) (hx0 : ∀ x : Int32 × QHeap, r = .inl x → u = (some (Value.int x.1)) ∧ τ = x.2) (hc : ∀ x : Int32 × Ob, r = .inr x → QTri l Z n0 ad 0 (20, [some (.ref 0), some (.ref 1), vI x.1, none, none, none, none, none, none, none, none, none, none, none], [], (H0 s x.2)) u τ) : QTri l Z n0 ad 0 (99, [some (.ref 0), some (.ref 1), vI x2, none, none, none, none, none, none, none, none, none, none, none], [], (H0 s p0)) u τ := by
  unfold J0_99 at h
  refine QTri.steps Ad W 1 (st' := (198, [some (.ref 0), some (.ref 1), vI x2, none, none, none, none, none, none, none, none, none, none, none], [], (H0 s p0))) rfl ?_
  exact QTri.mask [true, true, true, false, false, false, false, false, false, false, false, false, false, false] (tJ0_198 Ad W s p0 x2 h hx0 hc)
def B17_7 (v : Int32 × Ob) : Option (((Ob)) ⊕ (Int32 × Ob)) :=
  (if v.1 < (4 : Int32) then (F2 v.2 v.1).bind fun r135 => some (.inr ((v.1 + (1 : Int32)), r135)) else some (.inl v.2))
theorem tB17_7 (Ad : QAd n0 ad) (W : QW Z a0) (s : List Int32) (v : Int32 × Ob) {r : ((Ob)) ⊕ (Int32 × Ob)} {u : Option Value} {τ : QHeap} (h : B17_7 v = some r) (hx0 : ∀ x : Ob, r = .inl x → u = (none : Option Value) ∧ τ = (H0 s x)) (hc : ∀ x : Int32 × Ob, r = .inr x → QTri l Z n0 ad 17 (7, [some (.ref 1), vI x.1], [], (H0 s x.2)) u τ) : QTri l Z n0 ad 17 (7, [some (.ref 1), vI v.1], [], (H0 s v.2)) u τ := by
  unfold B17_7 at h
  refine QTri.steps Ad W 2 (st' := (9, [some (.ref 1), vI v.1], [.int (4 : Int32), .int v.1], (H0 s v.2))) rfl ?_
  rcases qite h with ⟨hc134, h⟩ | ⟨hc134, h⟩
  · refine QTri.brF Ad W (t := 23) (f := 12) (L := [some (.ref 1), vI v.1]) (S := []) (σ := (H0 s v.2)) rfl (XT.ii_ge_f hc134) ?_
    refine QTri.steps Ad W 2 (st' := (14, [some (.ref 1), vI v.1], [.int v.1, .ref 1], (H0 s v.2))) rfl ?_
    obtain ⟨r135, hr135, h⟩ := Option.bind_eq_some_iff.mp h
    refine QTri.callP W (a := 1) (as := [.int v.1]) (rest := []) (w := none) (σ₁ := (H0 s r135)) rfl rfl rfl rfl rfl rfl rfl rfl (tF2 Ad W s v.2 v.1 hr135) ?_
    refine QTri.steps Ad W 2 (st' := (7, [some (.ref 1), vI (v.1 + (1 : Int32))], [], (H0 s r135))) rfl ?_
    obtain rfl := Option.some.inj h
    exact QTri.mask [true, true] (hc ((v.1 + (1 : Int32)), r135) rfl)
  · refine QTri.brT Ad W (t := 23) (f := 12) (L := [some (.ref 1), vI v.1]) (S := []) (σ := (H0 s v.2)) rfl (XT.ii_ge_t hc134) ?_
    obtain rfl := Option.some.inj h
    obtain ⟨rfl, rfl⟩ := hx0 v.2 rfl
    exact QTri.ret0 rfl rfl
/-- clearStream()V -/
def F17 (o : Ob) : Option (Ob) :=
  (loopN (B17_7) qN ((0 : Int32), (s_n o (0 : Int32)))).bind fun e136 => some e136
theorem tF17 (Ad : QAd n0 ad) (W : QW Z a0) (s : List Int32) (o : Ob) {r : Ob} (h : F17 o = some r) : QTri l Z n0 ad 17 (0, qentry [.ref 1] (pMaxL 17), [], (H0 s o)) (none : Option Value) (H0 s r) := by
  unfold F17 at h
  refine QTri.steps Ad W 3 (st' := (5, [some (.ref 1), none], [], (H0v s (f_regTuple o) (f_regA o) (f_regB o) (f_regC o) (f_regCount o) (f_slots o) (f_range o) (f_slide o) (f_frontSize o) (f_backSize o) (f_backElem o) (f_frontAgg o) (f_backAgg o) (f_snap o) (f_reg o) (f_capacity o) (f_queries o) (0 : Int32)))) rfl ?_
  refine QTri.steps Ad W 2 (st' := (7, [some (.ref 1), vI (0 : Int32)], [], (H0v s (f_regTuple o) (f_regA o) (f_regB o) (f_regC o) (f_regCount o) (f_slots o) (f_range o) (f_slide o) (f_frontSize o) (f_backSize o) (f_backElem o) (f_frontAgg o) (f_backAgg o) (f_snap o) (f_reg o) (f_capacity o) (f_queries o) (0 : Int32)))) rfl ?_
  have E133 : ((H0v s (f_regTuple o) (f_regA o) (f_regB o) (f_regC o) (f_regCount o) (f_slots o) (f_range o) (f_slide o) (f_frontSize o) (f_backSize o) (f_backElem o) (f_frontAgg o) (f_backAgg o) (f_snap o) (f_reg o) (f_capacity o) (f_queries o) (0 : Int32)) : QHeap) = (H0 s (s_n o (0 : Int32))) := by dsimp only [H0, H0v, f_regTuple, f_regA, f_regB, f_regC, f_regCount, f_slots, f_range, f_slide, f_frontSize, f_backSize, f_backElem, f_frontAgg, f_backAgg, f_snap, f_reg, f_capacity, f_queries, f_n, s_n]
  rw [E133]
  obtain ⟨e136, he136, h⟩ := Option.bind_eq_some_iff.mp h
  refine QTri.mask [true, true] (loopN_tri (B := B17_7) (T := fun lv137 => QTri l Z n0 ad 17 (7, [some (.ref 1), vI lv137.1], [], (H0 s lv137.2)) (none : Option Value) (H0 s r)) (KE := fun e136a => (none : Option Value) = (none : Option Value) ∧ (H0 s r) = (H0 s e136a)) (fun lv137 r hB hE hC => tB17_7 Ad W s lv137 hB (fun x q => hE _ q) (fun x q => hC x q)) qN ((0 : Int32), (s_n o (0 : Int32))) e136 he136 ?_)
  obtain rfl := Option.some.inj h
  exact ⟨rfl, rfl⟩
/-- validSlot(II)Z -/
def F22 (x1 : Int32) (x2 : Int32) : Option (Int32) :=
  (if x1 < (0 : Int32) then some (0 : Int32) else (if x1 < (4 : Int32) then (if x2 < (0 : Int32) then some (0 : Int32) else (if x2 < (32 : Int32) then some (1 : Int32) else some (0 : Int32))) else some (0 : Int32)))
theorem tF22 (Ad : QAd n0 ad) (W : QW Z a0) {a : Nat} {σ : QHeap} (x1 : Int32) (x2 : Int32) {r : Int32} (h : F22 x1 x2 = some r) : QTri l Z n0 ad 22 (0, qentry [.ref a, .int x1, .int x2] (pMaxL 22), [], σ) (some (Value.int r)) σ := by
  unfold F22 at h
  refine QTri.steps Ad W 1 (st' := (1, [some (.ref a), vI x1, vI x2], [.int x1], σ)) rfl ?_
  rcases qite h with ⟨hc149, h⟩ | ⟨hc149, h⟩
  · refine QTri.brT Ad W (t := 23) (f := 4) (L := [some (.ref a), vI x1, vI x2]) (S := []) (σ := σ) rfl (XT.i0_lt_t hc149) ?_
    refine QTri.steps Ad W 1 (st' := (24, [some (.ref a), vI x1, vI x2], [.int (0 : Int32)], σ)) rfl ?_
    obtain rfl := Option.some.inj h
    exact QTri.retZ rfl rfl
  · refine QTri.brF Ad W (t := 23) (f := 4) (L := [some (.ref a), vI x1, vI x2]) (S := []) (σ := σ) rfl (XT.i0_lt_f hc149) ?_
    refine QTri.steps Ad W 2 (st' := (6, [some (.ref a), vI x1, vI x2], [.int (4 : Int32), .int x1], σ)) rfl ?_
    rcases qite h with ⟨hc150, h⟩ | ⟨hc150, h⟩
    · refine QTri.brF Ad W (t := 23) (f := 9) (L := [some (.ref a), vI x1, vI x2]) (S := []) (σ := σ) rfl (XT.ii_ge_f hc150) ?_
      refine QTri.steps Ad W 1 (st' := (10, [some (.ref a), vI x1, vI x2], [.int x2], σ)) rfl ?_
      rcases qite h with ⟨hc151, h⟩ | ⟨hc151, h⟩
      · refine QTri.brT Ad W (t := 23) (f := 13) (L := [some (.ref a), vI x1, vI x2]) (S := []) (σ := σ) rfl (XT.i0_lt_t hc151) ?_
        refine QTri.steps Ad W 1 (st' := (24, [some (.ref a), vI x1, vI x2], [.int (0 : Int32)], σ)) rfl ?_
        obtain rfl := Option.some.inj h
        exact QTri.retZ rfl rfl
      · refine QTri.brF Ad W (t := 23) (f := 13) (L := [some (.ref a), vI x1, vI x2]) (S := []) (σ := σ) rfl (XT.i0_lt_f hc151) ?_
        refine QTri.steps Ad W 2 (st' := (16, [some (.ref a), vI x1, vI x2], [.int (32 : Int32), .int x2], σ)) rfl ?_
        rcases qite h with ⟨hc152, h⟩ | ⟨hc152, h⟩
        · refine QTri.brF Ad W (t := 23) (f := 19) (L := [some (.ref a), vI x1, vI x2]) (S := []) (σ := σ) rfl (XT.ii_ge_f hc152) ?_
          refine QTri.steps Ad W 2 (st' := (24, [some (.ref a), vI x1, vI x2], [.int (1 : Int32)], σ)) rfl ?_
          obtain rfl := Option.some.inj h
          exact QTri.retZ rfl rfl
        · refine QTri.brT Ad W (t := 23) (f := 19) (L := [some (.ref a), vI x1, vI x2]) (S := []) (σ := σ) rfl (XT.ii_ge_t hc152) ?_
          refine QTri.steps Ad W 1 (st' := (24, [some (.ref a), vI x1, vI x2], [.int (0 : Int32)], σ)) rfl ?_
          obtain rfl := Option.some.inj h
          exact QTri.retZ rfl rfl
    · refine QTri.brT Ad W (t := 23) (f := 9) (L := [some (.ref a), vI x1, vI x2]) (S := []) (σ := σ) rfl (XT.ii_ge_t hc150) ?_
      refine QTri.steps Ad W 1 (st' := (24, [some (.ref a), vI x1, vI x2], [.int (0 : Int32)], σ)) rfl ?_
      obtain rfl := Option.some.inj h
      exact QTri.retZ rfl rfl
/-- slotOffset(II)I -/
def F24 (x1 : Int32) (x2 : Int32) : Option (Int32) :=
  some (((x1 * (32 : Int32)) + x2) * (4 : Int32))
theorem tF24 (Ad : QAd n0 ad) (W : QW Z a0) {a : Nat} {σ : QHeap} (x1 : Int32) (x2 : Int32) {r : Int32} (h : F24 x1 x2 = some r) : QTri l Z n0 ad 24 (0, qentry [.ref a, .int x1, .int x2] (pMaxL 24), [], σ) (some (Value.int r)) σ := by
  unfold F24 at h
  refine QTri.steps Ad W 7 (st' := (8, [some (.ref a), vI x1, vI x2], [.int (((x1 * (32 : Int32)) + x2) * (4 : Int32))], σ)) rfl ?_
  obtain rfl := Option.some.inj h
  exact QTri.retI rfl rfl
def B23_34 (x4 : Int32) (x5 : Int32) (v : Int32 × Ob) : Option (((Ob)) ⊕ (Int32 × Ob)) :=
  (if v.1 < (4 : Int32) then (aget (f_reg v.2) (x5 + v.1)).bind fun y161 => (aset (f_backElem v.2) (x4 + v.1) y161).bind fun y162 => some (.inr ((v.1 + (1 : Int32)), (s_backElem v.2 y162))) else some (.inl v.2))
theorem tB23_34 (Ad : QAd n0 ad) (W : QW Z a0) (s : List Int32) (x4 : Int32) (x5 : Int32) (v : Int32 × Ob) {r : ((Ob)) ⊕ (Int32 × Ob)} {u : Option Value} {τ : QHeap} (h : B23_34 x4 x5 v = some r) (hx0 : ∀ x : Ob, r = .inl x → u = (none : Option Value) ∧ τ = (H0 s x)) (hc : ∀ x : Int32 × Ob, r = .inr x → QTri l Z n0 ad 23 (34, [some (.ref 1), none, none, none, vI x4, vI x5, vI x.1], [], (H0 s x.2)) u τ) : QTri l Z n0 ad 23 (34, [some (.ref 1), none, none, none, vI x4, vI x5, vI v.1], [], (H0 s v.2)) u τ := by
  unfold B23_34 at h
  refine QTri.steps Ad W 2 (st' := (37, [some (.ref 1), none, none, none, vI x4, vI x5, vI v.1], [.int (4 : Int32), .int v.1], (H0 s v.2))) rfl ?_
  rcases qite h with ⟨hc160, h⟩ | ⟨hc160, h⟩
  · refine QTri.brF Ad W (t := 66) (f := 40) (L := [some (.ref 1), none, none, none, vI x4, vI x5, vI v.1]) (S := []) (σ := (H0 s v.2)) rfl (XT.ii_ge_f hc160) ?_
    refine QTri.steps Ad W 10 (st' := (58, [some (.ref 1), none, none, none, vI x4, vI x5, vI v.1], [.int (x5 + v.1), .ref 10, .int (x4 + v.1), .ref 6], (H0 s v.2))) rfl ?_
    obtain ⟨y161, hy161, h⟩ := Option.bind_eq_some_iff.mp h
    refine QTri.bnd Ad W (f := fun y161 => (59, [some (.ref 1), none, none, none, vI x4, vI x5, vI v.1], [.int y161, .int (x4 + v.1), .ref 6], (H0 s v.2))) rfl hy161 ?_
    obtain ⟨y162, hy162, h⟩ := Option.bind_eq_some_iff.mp h
    refine QTri.bnd Ad W (f := fun y162 => (60, [some (.ref 1), none, none, none, vI x4, vI x5, vI v.1], [], (H0v s (f_regTuple v.2) (f_regA v.2) (f_regB v.2) (f_regC v.2) (f_regCount v.2) (f_slots v.2) (f_range v.2) (f_slide v.2) (f_frontSize v.2) (f_backSize v.2) y162 (f_frontAgg v.2) (f_backAgg v.2) (f_snap v.2) (f_reg v.2) (f_capacity v.2) (f_queries v.2) (f_n v.2)))) rfl hy162 ?_
    refine QTri.steps Ad W 2 (st' := (34, [some (.ref 1), none, none, none, vI x4, vI x5, vI (v.1 + (1 : Int32))], [], (H0v s (f_regTuple v.2) (f_regA v.2) (f_regB v.2) (f_regC v.2) (f_regCount v.2) (f_slots v.2) (f_range v.2) (f_slide v.2) (f_frontSize v.2) (f_backSize v.2) y162 (f_frontAgg v.2) (f_backAgg v.2) (f_snap v.2) (f_reg v.2) (f_capacity v.2) (f_queries v.2) (f_n v.2)))) rfl ?_
    have E163 : ((H0v s (f_regTuple v.2) (f_regA v.2) (f_regB v.2) (f_regC v.2) (f_regCount v.2) (f_slots v.2) (f_range v.2) (f_slide v.2) (f_frontSize v.2) (f_backSize v.2) y162 (f_frontAgg v.2) (f_backAgg v.2) (f_snap v.2) (f_reg v.2) (f_capacity v.2) (f_queries v.2) (f_n v.2)) : QHeap) = (H0 s (s_backElem v.2 y162)) := by dsimp only [H0, H0v, f_regTuple, f_regA, f_regB, f_regC, f_regCount, f_slots, f_range, f_slide, f_frontSize, f_backSize, f_backElem, f_frontAgg, f_backAgg, f_snap, f_reg, f_capacity, f_queries, f_n, s_backElem]
    rw [E163]
    obtain rfl := Option.some.inj h
    exact QTri.mask [true, false, false, false, true, true, true] (hc ((v.1 + (1 : Int32)), (s_backElem v.2 y162)) rfl)
  · refine QTri.brT Ad W (t := 66) (f := 40) (L := [some (.ref 1), none, none, none, vI x4, vI x5, vI v.1]) (S := []) (σ := (H0 s v.2)) rfl (XT.ii_ge_t hc160) ?_
    obtain rfl := Option.some.inj h
    obtain ⟨rfl, rfl⟩ := hx0 v.2 rfl
    exact QTri.ret0 rfl rfl
/-- storeBack(III)V -/
def F23 (o : Ob) (x1 : Int32) (x2 : Int32) (x3 : Int32) : Option (Ob) :=
  (F5 x3).bind fun r155 => (if r155 = (0 : Int32) then some o else (F22 x1 x2).bind fun r157 => (if r157 = (0 : Int32) then some o else (F24 x1 x2).bind fun r159 => (loopN (B23_34 r159 (x3 * (4 : Int32))) qN ((0 : Int32), o)).bind fun e164 => some e164))
theorem tF23 (Ad : QAd n0 ad) (W : QW Z a0) (s : List Int32) (o : Ob) (x1 : Int32) (x2 : Int32) (x3 : Int32) {r : Ob} (h : F23 o x1 x2 x3 = some r) : QTri l Z n0 ad 23 (0, qentry [.ref 1, .int x1, .int x2, .int x3] (pMaxL 23), [], (H0 s o)) (none : Option Value) (H0 s r) := by
  unfold F23 at h
  refine QTri.steps Ad W 2 (st' := (2, [some (.ref 1), vI x1, vI x2, vI x3, none, none, none], [.int x3, .ref 1], (H0 s o))) rfl ?_
  obtain ⟨r155, hr155, h⟩ := Option.bind_eq_some_iff.mp h
  refine QTri.callP W (a := 1) (as := [.int x3]) (rest := []) (w := (some (.int r155))) (σ₁ := (H0 s o)) rfl rfl rfl rfl rfl rfl rfl rfl (tF5 Ad W x3 hr155) ?_
  rcases qite h with ⟨hc156, h⟩ | ⟨hc156, h⟩
  · refine QTri.brT Ad W (t := 17) (f := 8) (L := [some (.ref 1), vI x1, vI x2, vI x3, none, none, none]) (S := []) (σ := (H0 s o)) rfl (XT.i0_eq_t hc156) ?_
    obtain rfl := Option.some.inj h
    exact QTri.ret0 rfl rfl
  · refine QTri.brF Ad W (t := 17) (f := 8) (L := [some (.ref 1), vI x1, vI x2, vI x3, none, none, none]) (S := []) (σ := (H0 s o)) rfl (XT.i0_eq_f hc156) ?_
    refine QTri.steps Ad W 3 (st' := (11, [some (.ref 1), vI x1, vI x2, vI x3, none, none, none], [.int x2, .int x1, .ref 1], (H0 s o))) rfl ?_
    obtain ⟨r157, hr157, h⟩ := Option.bind_eq_some_iff.mp h
    refine QTri.callP W (a := 1) (as := [.int x1, .int x2]) (rest := []) (w := (some (.int r157))) (σ₁ := (H0 s o)) rfl rfl rfl rfl rfl rfl rfl rfl (tF22 Ad W x1 x2 hr157) ?_
    rcases qite h with ⟨hc158, h⟩ | ⟨hc158, h⟩
    · refine QTri.brF Ad W (t := 18) (f := 17) (L := [some (.ref 1), vI x1, vI x2, vI x3, none, none, none]) (S := []) (σ := (H0 s o)) rfl (XT.i0_ne_f hc158) ?_
      obtain rfl := Option.some.inj h
      exact QTri.ret0 rfl rfl
    · refine QTri.brT Ad W (t := 18) (f := 17) (L := [some (.ref 1), vI x1, vI x2, vI x3, none, none, none]) (S := []) (σ := (H0 s o)) rfl (XT.i0_ne_t hc158) ?_
      refine QTri.steps Ad W 3 (st' := (21, [some (.ref 1), vI x1, vI x2, vI x3, none, none, none], [.int x2, .int x1, .ref 1], (H0 s o))) rfl ?_
      obtain ⟨r159, hr159, h⟩ := Option.bind_eq_some_iff.mp h
      refine QTri.callP W (a := 1) (as := [.int x1, .int x2]) (rest := []) (w := (some (.int r159))) (σ₁ := (H0 s o)) rfl rfl rfl rfl rfl rfl rfl rfl (tF24 Ad W x1 x2 hr159) ?_
      refine QTri.steps Ad W 5 (st' := (31, [some (.ref 1), vI x1, vI x2, vI x3, vI r159, vI (x3 * (4 : Int32)), none], [], (H0 s o))) rfl ?_
      refine QTri.steps Ad W 2 (st' := (34, [some (.ref 1), vI x1, vI x2, vI x3, vI r159, vI (x3 * (4 : Int32)), vI (0 : Int32)], [], (H0 s o))) rfl ?_
      obtain ⟨e164, he164, h⟩ := Option.bind_eq_some_iff.mp h
      refine QTri.mask [true, false, false, false, true, true, true] (loopN_tri (B := B23_34 r159 (x3 * (4 : Int32))) (T := fun lv165 => QTri l Z n0 ad 23 (34, [some (.ref 1), none, none, none, vI r159, vI (x3 * (4 : Int32)), vI lv165.1], [], (H0 s lv165.2)) (none : Option Value) (H0 s r)) (KE := fun e164a => (none : Option Value) = (none : Option Value) ∧ (H0 s r) = (H0 s e164a)) (fun lv165 r hB hE hC => tB23_34 Ad W s r159 (x3 * (4 : Int32)) lv165 hB (fun x q => hE _ q) (fun x q => hC x q)) qN ((0 : Int32), o) e164 he164 ?_)
      obtain rfl := Option.some.inj h
      exact ⟨rfl, rfl⟩
def B25_25 (x2 : Int32) (x3 : Int32) (v : Int32 × Ob) : Option (((Ob)) ⊕ (Int32 × Ob)) :=
  (if v.1 < (4 : Int32) then (aget (f_backAgg v.2) ((x2 * (4 : Int32)) + v.1)).bind fun y172 => (aset (f_reg v.2) (x3 + v.1) y172).bind fun y173 => some (.inr ((v.1 + (1 : Int32)), (s_reg v.2 y173))) else some (.inl v.2))
theorem tB25_25 (Ad : QAd n0 ad) (W : QW Z a0) (s : List Int32) (x2 : Int32) (x3 : Int32) (v : Int32 × Ob) {r : ((Ob)) ⊕ (Int32 × Ob)} {u : Option Value} {τ : QHeap} (h : B25_25 x2 x3 v = some r) (hx0 : ∀ x : Ob, r = .inl x → u = (none : Option Value) ∧ τ = (H0 s x)) (hc : ∀ x : Int32 × Ob, r = .inr x → QTri l Z n0 ad 25 (25, [some (.ref 1), none, vI x2, vI x3, vI x.1], [], (H0 s x.2)) u τ) : QTri l Z n0 ad 25 (25, [some (.ref 1), none, vI x2, vI x3, vI v.1], [], (H0 s v.2)) u τ := by
  unfold B25_25 at h
  refine QTri.steps Ad W 2 (st' := (28, [some (.ref 1), none, vI x2, vI x3, vI v.1], [.int (4 : Int32), .int v.1], (H0 s v.2))) rfl ?_
  rcases qite h with ⟨hc171, h⟩ | ⟨hc171, h⟩
  · refine QTri.brF Ad W (t := 57) (f := 31) (L := [some (.ref 1), none, vI x2, vI x3, vI v.1]) (S := []) (σ := (H0 s v.2)) rfl (XT.ii_ge_f hc171) ?_
    refine QTri.steps Ad W 12 (st' := (49, [some (.ref 1), none, vI x2, vI x3, vI v.1], [.int ((x2 * (4 : Int32)) + v.1), .ref 8, .int (x3 + v.1), .ref 10], (H0 s v.2))) rfl ?_
    obtain ⟨y172, hy172, h⟩ := Option.bind_eq_some_iff.mp h
    refine QTri.bnd Ad W (f := fun y172 => (50, [some (.ref 1), none, vI x2, vI x3, vI v.1], [.int y172, .int (x3 + v.1), .ref 10], (H0 s v.2))) rfl hy172 ?_
    obtain ⟨y173, hy173, h⟩ := Option.bind_eq_some_iff.mp h
    refine QTri.bnd Ad W (f := fun y173 => (51, [some (.ref 1), none, vI x2, vI x3, vI v.1], [], (H0v s (f_regTuple v.2) (f_regA v.2) (f_regB v.2) (f_regC v.2) (f_regCount v.2) (f_slots v.2) (f_range v.2) (f_slide v.2) (f_frontSize v.2) (f_backSize v.2) (f_backElem v.2) (f_frontAgg v.2) (f_backAgg v.2) (f_snap v.2) y173 (f_capacity v.2) (f_queries v.2) (f_n v.2)))) rfl hy173 ?_
    refine QTri.steps Ad W 2 (st' := (25, [some (.ref 1), none, vI x2, vI x3, vI (v.1 + (1 : Int32))], [], (H0v s (f_regTuple v.2) (f_regA v.2) (f_regB v.2) (f_regC v.2) (f_regCount v.2) (f_slots v.2) (f_range v.2) (f_slide v.2) (f_frontSize v.2) (f_backSize v.2) (f_backElem v.2) (f_frontAgg v.2) (f_backAgg v.2) (f_snap v.2) y173 (f_capacity v.2) (f_queries v.2) (f_n v.2)))) rfl ?_
    have E174 : ((H0v s (f_regTuple v.2) (f_regA v.2) (f_regB v.2) (f_regC v.2) (f_regCount v.2) (f_slots v.2) (f_range v.2) (f_slide v.2) (f_frontSize v.2) (f_backSize v.2) (f_backElem v.2) (f_frontAgg v.2) (f_backAgg v.2) (f_snap v.2) y173 (f_capacity v.2) (f_queries v.2) (f_n v.2)) : QHeap) = (H0 s (s_reg v.2 y173)) := by dsimp only [H0, H0v, f_regTuple, f_regA, f_regB, f_regC, f_regCount, f_slots, f_range, f_slide, f_frontSize, f_backSize, f_backElem, f_frontAgg, f_backAgg, f_snap, f_reg, f_capacity, f_queries, f_n, s_reg]
    rw [E174]
    obtain rfl := Option.some.inj h
    exact QTri.mask [true, false, true, true, true] (hc ((v.1 + (1 : Int32)), (s_reg v.2 y173)) rfl)
  · refine QTri.brT Ad W (t := 57) (f := 31) (L := [some (.ref 1), none, vI x2, vI x3, vI v.1]) (S := []) (σ := (H0 s v.2)) rfl (XT.ii_ge_t hc171) ?_
    obtain rfl := Option.some.inj h
    obtain ⟨rfl, rfl⟩ := hx0 v.2 rfl
    exact QTri.ret0 rfl rfl
/-- loadBackAgg(II)V -/
def F25 (o : Ob) (x1 : Int32) (x2 : Int32) : Option (Ob) :=
  (F5 x1).bind fun r167 => (if r167 = (0 : Int32) then some o else (if x2 < (0 : Int32) then some o else (if x2 < (4 : Int32) then (loopN (B25_25 x2 (x1 * (4 : Int32))) qN ((0 : Int32), o)).bind fun e175 => some e175 else some o)))
theorem tF25 (Ad : QAd n0 ad) (W : QW Z a0) (s : List Int32) (o : Ob) (x1 : Int32) (x2 : Int32) {r : Ob} (h : F25 o x1 x2 = some r) : QTri l Z n0 ad 25 (0, qentry [.ref 1, .int x1, .int x2] (pMaxL 25), [], (H0 s o)) (none : Option Value) (H0 s r) := by
  unfold F25 at h
  refine QTri.steps Ad W 2 (st' := (2, [some (.ref 1), vI x1, vI x2, none, none], [.int x1, .ref 1], (H0 s o))) rfl ?_
  obtain ⟨r167, hr167, h⟩ := Option.bind_eq_some_iff.mp h
  refine QTri.callP W (a := 1) (as := [.int x1]) (rest := []) (w := (some (.int r167))) (σ₁ := (H0 s o)) rfl rfl rfl rfl rfl rfl rfl rfl (tF5 Ad W x1 hr167) ?_
  rcases qite h with ⟨hc168, h⟩ | ⟨hc168, h⟩
  · refine QTri.brT Ad W (t := 17) (f := 8) (L := [some (.ref 1), vI x1, vI x2, none, none]) (S := []) (σ := (H0 s o)) rfl (XT.i0_eq_t hc168) ?_
    obtain rfl := Option.some.inj h
    exact QTri.ret0 rfl rfl
  · refine QTri.brF Ad W (t := 17) (f := 8) (L := [some (.ref 1), vI x1, vI x2, none, none]) (S := []) (σ := (H0 s o)) rfl (XT.i0_eq_f hc168) ?_
    refine QTri.steps Ad W 1 (st' := (9, [some (.ref 1), vI x1, vI x2, none, none], [.int x2], (H0 s o))) rfl ?_
    rcases qite h with ⟨hc169, h⟩ | ⟨hc169, h⟩
    · refine QTri.brT Ad W (t := 17) (f := 12) (L := [some (.ref 1), vI x1, vI x2, none, none]) (S := []) (σ := (H0 s o)) rfl (XT.i0_lt_t hc169) ?_
      obtain rfl := Option.some.inj h
      exact QTri.ret0 rfl rfl
    · refine QTri.brF Ad W (t := 17) (f := 12) (L := [some (.ref 1), vI x1, vI x2, none, none]) (S := []) (σ := (H0 s o)) rfl (XT.i0_lt_f hc169) ?_
      refine QTri.steps Ad W 2 (st' := (14, [some (.ref 1), vI x1, vI x2, none, none], [.int (4 : Int32), .int x2], (H0 s o))) rfl ?_
      rcases qite h with ⟨hc170, h⟩ | ⟨hc170, h⟩
      · refine QTri.brT Ad W (t := 18) (f := 17) (L := [some (.ref 1), vI x1, vI x2, none, none]) (S := []) (σ := (H0 s o)) rfl (XT.ii_lt_t hc170) ?_
        refine QTri.steps Ad W 6 (st' := (25, [some (.ref 1), vI x1, vI x2, vI (x1 * (4 : Int32)), vI (0 : Int32)], [], (H0 s o))) rfl ?_
        obtain ⟨e175, he175, h⟩ := Option.bind_eq_some_iff.mp h
        refine QTri.mask [true, false, true, true, true] (loopN_tri (B := B25_25 x2 (x1 * (4 : Int32))) (T := fun lv176 => QTri l Z n0 ad 25 (25, [some (.ref 1), none, vI x2, vI (x1 * (4 : Int32)), vI lv176.1], [], (H0 s lv176.2)) (none : Option Value) (H0 s r)) (KE := fun e175a => (none : Option Value) = (none : Option Value) ∧ (H0 s r) = (H0 s e175a)) (fun lv176 r hB hE hC => tB25_25 Ad W s x2 (x1 * (4 : Int32)) lv176 hB (fun x q => hE _ q) (fun x q => hC x q)) qN ((0 : Int32), o) e175 he175 ?_)
        obtain rfl := Option.some.inj h
        exact ⟨rfl, rfl⟩
      · refine QTri.brF Ad W (t := 18) (f := 17) (L := [some (.ref 1), vI x1, vI x2, none, none]) (S := []) (σ := (H0 s o)) rfl (XT.ii_lt_f hc170) ?_
        obtain rfl := Option.some.inj h
        exact QTri.ret0 rfl rfl
/-- regMul(III)V -/
def F26 (o : Ob) (x1 : Int32) (x2 : Int32) (x3 : Int32) : Option (Ob) :=
  (F5 x1).bind fun r178 => (if r178 = (0 : Int32) then some o else (F5 x2).bind fun r180 => (if r180 = (0 : Int32) then some o else (F5 x3).bind fun r182 => (if r182 = (0 : Int32) then some o else (aget (f_reg o) (x2 * (4 : Int32))).bind fun y184 => (aget (f_reg o) ((x2 * (4 : Int32)) + (1 : Int32))).bind fun y185 => (aget (f_reg o) ((x2 * (4 : Int32)) + (2 : Int32))).bind fun y186 => (aget (f_reg o) ((x2 * (4 : Int32)) + (3 : Int32))).bind fun y187 => (aget (f_reg o) (x3 * (4 : Int32))).bind fun y188 => (aget (f_reg o) ((x3 * (4 : Int32)) + (1 : Int32))).bind fun y189 => (aget (f_reg o) ((x3 * (4 : Int32)) + (2 : Int32))).bind fun y190 => (aget (f_reg o) ((x3 * (4 : Int32)) + (3 : Int32))).bind fun y191 => (aset (f_reg o) (x1 * (4 : Int32)) ((y184 * y188) + (y185 * y190))).bind fun y192 => (aset y192 ((x1 * (4 : Int32)) + (1 : Int32)) ((y184 * y189) + (y185 * y191))).bind fun y193 => (aset y193 ((x1 * (4 : Int32)) + (2 : Int32)) ((y186 * y188) + (y187 * y190))).bind fun y194 => (aset y194 ((x1 * (4 : Int32)) + (3 : Int32)) ((y186 * y189) + (y187 * y191))).bind fun y195 => some (s_reg o y195))))
theorem tF26 (Ad : QAd n0 ad) (W : QW Z a0) (s : List Int32) (o : Ob) (x1 : Int32) (x2 : Int32) (x3 : Int32) {r : Ob} (h : F26 o x1 x2 x3 = some r) : QTri l Z n0 ad 26 (0, qentry [.ref 1, .int x1, .int x2, .int x3] (pMaxL 26), [], (H0 s o)) (none : Option Value) (H0 s r) := by
  unfold F26 at h
  refine QTri.steps Ad W 2 (st' := (2, [some (.ref 1), vI x1, vI x2, vI x3, none, none, none, none, none, none, none, none, none, none, none], [.int x1, .ref 1], (H0 s o))) rfl ?_
  obtain ⟨r178, hr178, h⟩ := Option.bind_eq_some_iff.mp h
  refine QTri.callP W (a := 1) (as := [.int x1]) (rest := []) (w := (some (.int r178))) (σ₁ := (H0 s o)) rfl rfl rfl rfl rfl rfl rfl rfl (tF5 Ad W x1 hr178) ?_
  rcases qite h with ⟨hc179, h⟩ | ⟨hc179, h⟩
  · refine QTri.brT Ad W (t := 24) (f := 8) (L := [some (.ref 1), vI x1, vI x2, vI x3, none, none, none, none, none, none, none, none, none, none, none]) (S := []) (σ := (H0 s o)) rfl (XT.i0_eq_t hc179) ?_
    obtain rfl := Option.some.inj h
    exact QTri.ret0 rfl rfl
  · refine QTri.brF Ad W (t := 24) (f := 8) (L := [some (.ref 1), vI x1, vI x2, vI x3, none, none, none, none, none, none, none, none, none, none, none]) (S := []) (σ := (H0 s o)) rfl (XT.i0_eq_f hc179) ?_
    refine QTri.steps Ad W 2 (st' := (10, [some (.ref 1), vI x1, vI x2, vI x3, none, none, none, none, none, none, none, none, none, none, none], [.int x2, .ref 1], (H0 s o))) rfl ?_
    obtain ⟨r180, hr180, h⟩ := Option.bind_eq_some_iff.mp h
    refine QTri.callP W (a := 1) (as := [.int x2]) (rest := []) (w := (some (.int r180))) (σ₁ := (H0 s o)) rfl rfl rfl rfl rfl rfl rfl rfl (tF5 Ad W x2 hr180) ?_
    rcases qite h with ⟨hc181, h⟩ | ⟨hc181, h⟩
    · refine QTri.brT Ad W (t := 24) (f := 16) (L := [some (.ref 1), vI x1, vI x2, vI x3, none, none, none, none, none, none, none, none, none, none, none]) (S := []) (σ := (H0 s o)) rfl (XT.i0_eq_t hc181) ?_
      obtain rfl := Option.some.inj h
      exact QTri.ret0 rfl rfl
    · refine QTri.brF Ad W (t := 24) (f := 16) (L := [some (.ref 1), vI x1, vI x2, vI x3, none, none, none, none, none, none, none, none, none, none, none]) (S := []) (σ := (H0 s o)) rfl (XT.i0_eq_f hc181) ?_
      refine QTri.steps Ad W 2 (st' := (18, [some (.ref 1), vI x1, vI x2, vI x3, none, none, none, none, none, none, none, none, none, none, none], [.int x3, .ref 1], (H0 s o))) rfl ?_
      obtain ⟨r182, hr182, h⟩ := Option.bind_eq_some_iff.mp h
      refine QTri.callP W (a := 1) (as := [.int x3]) (rest := []) (w := (some (.int r182))) (σ₁ := (H0 s o)) rfl rfl rfl rfl rfl rfl rfl rfl (tF5 Ad W x3 hr182) ?_
      rcases qite h with ⟨hc183, h⟩ | ⟨hc183, h⟩
      · refine QTri.brF Ad W (t := 25) (f := 24) (L := [some (.ref 1), vI x1, vI x2, vI x3, none, none, none, none, none, none, none, none, none, none, none]) (S := []) (σ := (H0 s o)) rfl (XT.i0_ne_f hc183) ?_
        obtain rfl := Option.some.inj h
        exact QTri.ret0 rfl rfl
      · refine QTri.brT Ad W (t := 25) (f := 24) (L := [some (.ref 1), vI x1, vI x2, vI x3, none, none, none, none, none, none, none, none, none, none, none]) (S := []) (σ := (H0 s o)) rfl (XT.i0_ne_t hc183) ?_
        refine QTri.steps Ad W 8 (st' := (35, [some (.ref 1), vI x1, vI x2, vI x3, vI (x2 * (4 : Int32)), vI (x3 * (4 : Int32)), none, none, none, none, none, none, none, none, none], [], (H0 s o))) rfl ?_
        refine QTri.steps Ad W 3 (st' := (41, [some (.ref 1), vI x1, vI x2, vI x3, vI (x2 * (4 : Int32)), vI (x3 * (4 : Int32)), none, none, none, none, none, none, none, none, none], [.int (x2 * (4 : Int32)), .ref 10], (H0 s o))) rfl ?_
        obtain ⟨y184, hy184, h⟩ := Option.bind_eq_some_iff.mp h
        refine QTri.bnd Ad W (f := fun y184 => (42, [some (.ref 1), vI x1, vI x2, vI x3, vI (x2 * (4 : Int32)), vI (x3 * (4 : Int32)), none, none, none, none, none, none, none, none, none], [.int y184], (H0 s o))) rfl hy184 ?_
        refine QTri.steps Ad W 6 (st' := (52, [some (.ref 1), vI x1, vI x2, vI x3, vI (x2 * (4 : Int32)), vI (x3 * (4 : Int32)), vI y184, none, none, none, none, none, none, none, none], [.int ((x2 * (4 : Int32)) + (1 : Int32)), .ref 10], (H0 s o))) rfl ?_
        obtain ⟨y185, hy185, h⟩ := Option.bind_eq_some_iff.mp h
        refine QTri.bnd Ad W (f := fun y185 => (53, [some (.ref 1), vI x1, vI x2, vI x3, vI (x2 * (4 : Int32)), vI (x3 * (4 : Int32)), vI y184, none, none, none, none, none, none, none, none], [.int y185], (H0 s o))) rfl hy185 ?_
        refine QTri.steps Ad W 6 (st' := (63, [some (.ref 1), vI x1, vI x2, vI x3, vI (x2 * (4 : Int32)), vI (x3 * (4 : Int32)), vI y184, vI y185, none, none, none, none, none, none, none], [.int ((x2 * (4 : Int32)) + (2 : Int32)), .ref 10], (H0 s o))) rfl ?_
        obtain ⟨y186, hy186, h⟩ := Option.bind_eq_some_iff.mp h
        refine QTri.bnd Ad W (f := fun y186 => (64, [some (.ref 1), vI x1, vI x2, vI x3, vI (x2 * (4 : Int32)), vI (x3 * (4 : Int32)), vI y184, vI y185, none, none, none, none, none, none, none], [.int y186], (H0 s o))) rfl hy186 ?_
        refine QTri.steps Ad W 6 (st' := (74, [some (.ref 1), vI x1, vI x2, vI x3, vI (x2 * (4 : Int32)), vI (x3 * (4 : Int32)), vI y184, vI y185, vI y186, none, none, none, none, none, none], [.int ((x2 * (4 : Int32)) + (3 : Int32)), .ref 10], (H0 s o))) rfl ?_
        obtain ⟨y187, hy187, h⟩ := Option.bind_eq_some_iff.mp h
        refine QTri.bnd Ad W (f := fun y187 => (75, [some (.ref 1), vI x1, vI x2, vI x3, vI (x2 * (4 : Int32)), vI (x3 * (4 : Int32)), vI y184, vI y185, vI y186, none, none, none, none, none, none], [.int y187], (H0 s o))) rfl hy187 ?_
        refine QTri.steps Ad W 4 (st' := (83, [some (.ref 1), vI x1, vI x2, vI x3, vI (x2 * (4 : Int32)), vI (x3 * (4 : Int32)), vI y184, vI y185, vI y186, vI y187, none, none, none, none, none], [.int (x3 * (4 : Int32)), .ref 10], (H0 s o))) rfl ?_
        obtain ⟨y188, hy188, h⟩ := Option.bind_eq_some_iff.mp h
        refine QTri.bnd Ad W (f := fun y188 => (84, [some (.ref 1), vI x1, vI x2, vI x3, vI (x2 * (4 : Int32)), vI (x3 * (4 : Int32)), vI y184, vI y185, vI y186, vI y187, none, none, none, none, none], [.int y188], (H0 s o))) rfl hy188 ?_
        refine QTri.steps Ad W 6 (st' := (94, [some (.ref 1), vI x1, vI x2, vI x3, vI (x2 * (4 : Int32)), vI (x3 * (4 : Int32)), vI y184, vI y185, vI y186, vI y187, vI y188, none, none, none, none], [.int ((x3 * (4 : Int32)) + (1 : Int32)), .ref 10], (H0 s o))) rfl ?_
        obtain ⟨y189, hy189, h⟩ := Option.bind_eq_some_iff.mp h
        refine QTri.bnd Ad W (f := fun y189 => (95, [some (.ref 1), vI x1, vI x2, vI x3, vI (x2 * (4 : Int32)), vI (x3 * (4 : Int32)), vI y184, vI y185, vI y186, vI y187, vI y188, none, none, none, none], [.int y189], (H0 s o))) rfl hy189 ?_
        refine QTri.steps Ad W 6 (st' := (105, [some (.ref 1), vI x1, vI x2, vI x3, vI (x2 * (4 : Int32)), vI (x3 * (4 : Int32)), vI y184, vI y185, vI y186, vI y187, vI y188, vI y189, none, none, none], [.int ((x3 * (4 : Int32)) + (2 : Int32)), .ref 10], (H0 s o))) rfl ?_
        obtain ⟨y190, hy190, h⟩ := Option.bind_eq_some_iff.mp h
        refine QTri.bnd Ad W (f := fun y190 => (106, [some (.ref 1), vI x1, vI x2, vI x3, vI (x2 * (4 : Int32)), vI (x3 * (4 : Int32)), vI y184, vI y185, vI y186, vI y187, vI y188, vI y189, none, none, none], [.int y190], (H0 s o))) rfl hy190 ?_
        refine QTri.steps Ad W 6 (st' := (116, [some (.ref 1), vI x1, vI x2, vI x3, vI (x2 * (4 : Int32)), vI (x3 * (4 : Int32)), vI y184, vI y185, vI y186, vI y187, vI y188, vI y189, vI y190, none, none], [.int ((x3 * (4 : Int32)) + (3 : Int32)), .ref 10], (H0 s o))) rfl ?_
        obtain ⟨y191, hy191, h⟩ := Option.bind_eq_some_iff.mp h
        refine QTri.bnd Ad W (f := fun y191 => (117, [some (.ref 1), vI x1, vI x2, vI x3, vI (x2 * (4 : Int32)), vI (x3 * (4 : Int32)), vI y184, vI y185, vI y186, vI y187, vI y188, vI y189, vI y190, none, none], [.int y191], (H0 s o))) rfl hy191 ?_
        refine QTri.steps Ad W 5 (st' := (124, [some (.ref 1), vI x1, vI x2, vI x3, vI (x2 * (4 : Int32)), vI (x3 * (4 : Int32)), vI y184, vI y185, vI y186, vI y187, vI y188, vI y189, vI y190, vI y191, vI (x1 * (4 : Int32))], [], (H0 s o))) rfl ?_
        refine QTri.steps Ad W 10 (st' := (141, [some (.ref 1), vI x1, vI x2, vI x3, vI (x2 * (4 : Int32)), vI (x3 * (4 : Int32)), vI y184, vI y185, vI y186, vI y187, vI y188, vI y189, vI y190, vI y191, vI (x1 * (4 : Int32))], [.int ((y184 * y188) + (y185 * y190)), .int (x1 * (4 : Int32)), .ref 10], (H0 s o))) rfl ?_
        obtain ⟨y192, hy192, h⟩ := Option.bind_eq_some_iff.mp h
        refine QTri.bnd Ad W (f := fun y192 => (142, [some (.ref 1), vI x1, vI x2, vI x3, vI (x2 * (4 : Int32)), vI (x3 * (4 : Int32)), vI y184, vI y185, vI y186, vI y187, vI y188, vI y189, vI y190, vI y191, vI (x1 * (4 : Int32))], [], (H0v s (f_regTuple o) (f_regA o) (f_regB o) (f_regC o) (f_regCount o) (f_slots o) (f_range o) (f_slide o) (f_frontSize o) (f_backSize o) (f_backElem o) (f_frontAgg o) (f_backAgg o) (f_snap o) y192 (f_capacity o) (f_queries o) (f_n o)))) rfl hy192 ?_
        refine QTri.steps Ad W 12 (st' := (161, [some (.ref 1), vI x1, vI x2, vI x3, vI (x2 * (4 : Int32)), vI (x3 * (4 : Int32)), vI y184, vI y185, vI y186, vI y187, vI y188, vI y189, vI y190, vI y191, vI (x1 * (4 : Int32))], [.int ((y184 * y189) + (y185 * y191)), .int ((x1 * (4 : Int32)) + (1 : Int32)), .ref 10], (H0v s (f_regTuple o) (f_regA o) (f_regB o) (f_regC o) (f_regCount o) (f_slots o) (f_range o) (f_slide o) (f_frontSize o) (f_backSize o) (f_backElem o) (f_frontAgg o) (f_backAgg o) (f_snap o) y192 (f_capacity o) (f_queries o) (f_n o)))) rfl ?_
        obtain ⟨y193, hy193, h⟩ := Option.bind_eq_some_iff.mp h
        refine QTri.bnd Ad W (f := fun y193 => (162, [some (.ref 1), vI x1, vI x2, vI x3, vI (x2 * (4 : Int32)), vI (x3 * (4 : Int32)), vI y184, vI y185, vI y186, vI y187, vI y188, vI y189, vI y190, vI y191, vI (x1 * (4 : Int32))], [], (H0v s (f_regTuple o) (f_regA o) (f_regB o) (f_regC o) (f_regCount o) (f_slots o) (f_range o) (f_slide o) (f_frontSize o) (f_backSize o) (f_backElem o) (f_frontAgg o) (f_backAgg o) (f_snap o) y193 (f_capacity o) (f_queries o) (f_n o)))) rfl hy193 ?_
        refine QTri.steps Ad W 12 (st' := (181, [some (.ref 1), vI x1, vI x2, vI x3, vI (x2 * (4 : Int32)), vI (x3 * (4 : Int32)), vI y184, vI y185, vI y186, vI y187, vI y188, vI y189, vI y190, vI y191, vI (x1 * (4 : Int32))], [.int ((y186 * y188) + (y187 * y190)), .int ((x1 * (4 : Int32)) + (2 : Int32)), .ref 10], (H0v s (f_regTuple o) (f_regA o) (f_regB o) (f_regC o) (f_regCount o) (f_slots o) (f_range o) (f_slide o) (f_frontSize o) (f_backSize o) (f_backElem o) (f_frontAgg o) (f_backAgg o) (f_snap o) y193 (f_capacity o) (f_queries o) (f_n o)))) rfl ?_
        obtain ⟨y194, hy194, h⟩ := Option.bind_eq_some_iff.mp h
        refine QTri.bnd Ad W (f := fun y194 => (182, [some (.ref 1), vI x1, vI x2, vI x3, vI (x2 * (4 : Int32)), vI (x3 * (4 : Int32)), vI y184, vI y185, vI y186, vI y187, vI y188, vI y189, vI y190, vI y191, vI (x1 * (4 : Int32))], [], (H0v s (f_regTuple o) (f_regA o) (f_regB o) (f_regC o) (f_regCount o) (f_slots o) (f_range o) (f_slide o) (f_frontSize o) (f_backSize o) (f_backElem o) (f_frontAgg o) (f_backAgg o) (f_snap o) y194 (f_capacity o) (f_queries o) (f_n o)))) rfl hy194 ?_
        refine QTri.steps Ad W 12 (st' := (201, [some (.ref 1), vI x1, vI x2, vI x3, vI (x2 * (4 : Int32)), vI (x3 * (4 : Int32)), vI y184, vI y185, vI y186, vI y187, vI y188, vI y189, vI y190, vI y191, vI (x1 * (4 : Int32))], [.int ((y186 * y189) + (y187 * y191)), .int ((x1 * (4 : Int32)) + (3 : Int32)), .ref 10], (H0v s (f_regTuple o) (f_regA o) (f_regB o) (f_regC o) (f_regCount o) (f_slots o) (f_range o) (f_slide o) (f_frontSize o) (f_backSize o) (f_backElem o) (f_frontAgg o) (f_backAgg o) (f_snap o) y194 (f_capacity o) (f_queries o) (f_n o)))) rfl ?_
        obtain ⟨y195, hy195, h⟩ := Option.bind_eq_some_iff.mp h
        refine QTri.bnd Ad W (f := fun y195 => (202, [some (.ref 1), vI x1, vI x2, vI x3, vI (x2 * (4 : Int32)), vI (x3 * (4 : Int32)), vI y184, vI y185, vI y186, vI y187, vI y188, vI y189, vI y190, vI y191, vI (x1 * (4 : Int32))], [], (H0v s (f_regTuple o) (f_regA o) (f_regB o) (f_regC o) (f_regCount o) (f_slots o) (f_range o) (f_slide o) (f_frontSize o) (f_backSize o) (f_backElem o) (f_frontAgg o) (f_backAgg o) (f_snap o) y195 (f_capacity o) (f_queries o) (f_n o)))) rfl hy195 ?_
        have E196 : ((H0v s (f_regTuple o) (f_regA o) (f_regB o) (f_regC o) (f_regCount o) (f_slots o) (f_range o) (f_slide o) (f_frontSize o) (f_backSize o) (f_backElem o) (f_frontAgg o) (f_backAgg o) (f_snap o) y195 (f_capacity o) (f_queries o) (f_n o)) : QHeap) = (H0 s (s_reg o y195)) := by dsimp only [H0, H0v, f_regTuple, f_regA, f_regB, f_regC, f_regCount, f_slots, f_range, f_slide, f_frontSize, f_backSize, f_backElem, f_frontAgg, f_backAgg, f_snap, f_reg, f_capacity, f_queries, f_n, s_reg]
        rw [E196]
        obtain rfl := Option.some.inj h
        exact QTri.ret0 rfl rfl
def J21_39 (o : Ob) (x1 : Int32) : Option (Ob) :=
  (aget (f_backSize o) x1).bind fun y148 => (F22 x1 y148).bind fun r153 => (if r153 = (0 : Int32) then some o else (F23 o x1 y148 (0 : Int32)).bind fun r166 => (F25 r166 (1 : Int32) x1).bind fun r177 => (F26 r177 (1 : Int32) (1 : Int32) (0 : Int32)).bind fun r197 => (F6 r197 x1 (1 : Int32)).bind fun r198 => (aset (f_backSize r198) x1 (y148 + (1 : Int32))).bind fun y199 => some (s_backSize r198 y199))
theorem tJ21_39 (Ad : QAd n0 ad) (W : QW Z a0) (s : List Int32) (o : Ob) (x1 : Int32) {r : Ob} (h : J21_39 o x1 = some r) : QTri l Z n0 ad 21 (39, [some (.ref 1), vI x1, none, none], [], (H0 s o)) (none : Option Value) (H0 s r) := by
  unfold J21_39 at h
  refine QTri.steps Ad W 3 (st' := (44, [some (.ref 1), vI x1, none, none], [.int x1, .ref 5], (H0 s o))) rfl ?_
  obtain ⟨y148, hy148, h⟩ := Option.bind_eq_some_iff.mp h
  refine QTri.bnd Ad W (f := fun y148 => (45, [some (.ref 1), vI x1, none, none], [.int y148], (H0 s o))) rfl hy148 ?_
  refine QTri.steps Ad W 4 (st' := (49, [some (.ref 1), vI x1, none, vI y148], [.int y148, .int x1, .ref 1], (H0 s o))) rfl ?_
  obtain ⟨r153, hr153, h⟩ := Option.bind_eq_some_iff.mp h
  refine QTri.callP W (a := 1) (as := [.int x1, .int y148]) (rest := []) (w := (some (.int r153))) (σ₁ := (H0 s o)) rfl rfl rfl rfl rfl rfl rfl rfl (tF22 Ad W x1 y148 hr153) ?_
  rcases qite h with ⟨hc154, h⟩ | ⟨hc154, h⟩
  · refine QTri.brF Ad W (t := 56) (f := 55) (L := [some (.ref 1), vI x1, none, vI y148]) (S := []) (σ := (H0 s o)) rfl (XT.i0_ne_f hc154) ?_
    obtain rfl := Option.some.inj h
    exact QTri.ret0 rfl rfl
  · refine QTri.brT Ad W (t := 56) (f := 55) (L := [some (.ref 1), vI x1, none, vI y148]) (S := []) (σ := (H0 s o)) rfl (XT.i0_ne_t hc154) ?_
    refine QTri.steps Ad W 4 (st' := (60, [some (.ref 1), vI x1, none, vI y148], [.int (0 : Int32), .int y148, .int x1, .ref 1], (H0 s o))) rfl ?_
    obtain ⟨r166, hr166, h⟩ := Option.bind_eq_some_iff.mp h
    refine QTri.callP W (a := 1) (as := [.int x1, .int y148, .int (0 : Int32)]) (rest := []) (w := none) (σ₁ := (H0 s r166)) rfl rfl rfl rfl rfl rfl rfl rfl (tF23 Ad W s o x1 y148 (0 : Int32) hr166) ?_
    refine QTri.steps Ad W 3 (st' := (66, [some (.ref 1), vI x1, none, vI y148], [.int x1, .int (1 : Int32), .ref 1], (H0 s r166))) rfl ?_
    obtain ⟨r177, hr177, h⟩ := Option.bind_eq_some_iff.mp h
    refine QTri.callP W (a := 1) (as := [.int (1 : Int32), .int x1]) (rest := []) (w := none) (σ₁ := (H0 s r177)) rfl rfl rfl rfl rfl rfl rfl rfl (tF25 Ad W s r166 (1 : Int32) x1 hr177) ?_
    refine QTri.steps Ad W 4 (st' := (73, [some (.ref 1), vI x1, none, vI y148], [.int (0 : Int32), .int (1 : Int32), .int (1 : Int32), .ref 1], (H0 s r177))) rfl ?_
    obtain ⟨r197, hr197, h⟩ := Option.bind_eq_some_iff.mp h
    refine QTri.callP W (a := 1) (as := [.int (1 : Int32), .int (1 : Int32), .int (0 : Int32)]) (rest := []) (w := none) (σ₁ := (H0 s r197)) rfl rfl rfl rfl rfl rfl rfl rfl (tF26 Ad W s r177 (1 : Int32) (1 : Int32) (0 : Int32) hr197) ?_
    refine QTri.steps Ad W 3 (st' := (79, [some (.ref 1), vI x1, none, vI y148], [.int (1 : Int32), .int x1, .ref 1], (H0 s r197))) rfl ?_
    obtain ⟨r198, hr198, h⟩ := Option.bind_eq_some_iff.mp h
    refine QTri.callP W (a := 1) (as := [.int x1, .int (1 : Int32)]) (rest := []) (w := none) (σ₁ := (H0 s r198)) rfl rfl rfl rfl rfl rfl rfl rfl (tF6 Ad W s r197 x1 (1 : Int32) hr198) ?_
    refine QTri.steps Ad W 6 (st' := (90, [some (.ref 1), vI x1, none, vI y148], [.int (y148 + (1 : Int32)), .int x1, .ref 5], (H0 s r198))) rfl ?_
    obtain ⟨y199, hy199, h⟩ := Option.bind_eq_some_iff.mp h
    refine QTri.bnd Ad W (f := fun y199 => (91, [some (.ref 1), vI x1, none, vI y148], [], (H0v s (f_regTuple r198) (f_regA r198) (f_regB r198) (f_regC r198) (f_regCount r198) (f_slots r198) (f_range r198) (f_slide r198) (f_frontSize r198) y199 (f_backElem r198) (f_frontAgg r198) (f_backAgg r198) (f_snap r198) (f_reg r198) (f_capacity r198) (f_queries r198) (f_n r198)))) rfl hy199 ?_
    have E200 : ((H0v s (f_regTuple r198) (f_regA r198) (f_regB r198) (f_regC r198) (f_regCount r198) (f_slots r198) (f_range r198) (f_slide r198) (f_frontSize r198) y199 (f_backElem r198) (f_frontAgg r198) (f_backAgg r198) (f_snap r198) (f_reg r198) (f_capacity r198) (f_queries r198) (f_n r198)) : QHeap) = (H0 s (s_backSize r198 y199)) := by dsimp only [H0, H0v, f_regTuple, f_regA, f_regB, f_regC, f_regCount, f_slots, f_range, f_slide, f_frontSize, f_backSize, f_backElem, f_frontAgg, f_backAgg, f_snap, f_reg, f_capacity, f_queries, f_n, s_backSize]
    rw [E200]
    obtain rfl := Option.some.inj h
    exact QTri.ret0 rfl rfl
def B29_34 (x4 : Int32) (x5 : Int32) (v : Int32 × Ob) : Option (((Ob)) ⊕ (Int32 × Ob)) :=
  (if v.1 < (4 : Int32) then (aget (f_backElem v.2) (x4 + v.1)).bind fun y215 => (aset (f_reg v.2) (x5 + v.1) y215).bind fun y216 => some (.inr ((v.1 + (1 : Int32)), (s_reg v.2 y216))) else some (.inl v.2))
theorem tB29_34 (Ad : QAd n0 ad) (W : QW Z a0) (s : List Int32) (x4 : Int32) (x5 : Int32) (v : Int32 × Ob) {r : ((Ob)) ⊕ (Int32 × Ob)} {u : Option Value} {τ : QHeap} (h : B29_34 x4 x5 v = some r) (hx0 : ∀ x : Ob, r = .inl x → u = (none : Option Value) ∧ τ = (H0 s x)) (hc : ∀ x : Int32 × Ob, r = .inr x → QTri l Z n0 ad 29 (34, [some (.ref 1), none, none, none, vI x4, vI x5, vI x.1], [], (H0 s x.2)) u τ) : QTri l Z n0 ad 29 (34, [some (.ref 1), none, none, none, vI x4, vI x5, vI v.1], [], (H0 s v.2)) u τ := by
  unfold B29_34 at h
  refine QTri.steps Ad W 2 (st' := (37, [some (.ref 1), none, none, none, vI x4, vI x5, vI v.1], [.int (4 : Int32), .int v.1], (H0 s v.2))) rfl ?_
  rcases qite h with ⟨hc214, h⟩ | ⟨hc214, h⟩
  · refine QTri.brF Ad W (t := 66) (f := 40) (L := [some (.ref 1), none, none, none, vI x4, vI x5, vI v.1]) (S := []) (σ := (H0 s v.2)) rfl (XT.ii_ge_f hc214) ?_
    refine QTri.steps Ad W 10 (st' := (58, [some (.ref 1), none, none, none, vI x4, vI x5, vI v.1], [.int (x4 + v.1), .ref 6, .int (x5 + v.1), .ref 10], (H0 s v.2))) rfl ?_
    obtain ⟨y215, hy215, h⟩ := Option.bind_eq_some_iff.mp h
    refine QTri.bnd Ad W (f := fun y215 => (59, [some (.ref 1), none, none, none, vI x4, vI x5, vI v.1], [.int y215, .int (x5 + v.1), .ref 10], (H0 s v.2))) rfl hy215 ?_
    obtain ⟨y216, hy216, h⟩ := Option.bind_eq_some_iff.mp h
    refine QTri.bnd Ad W (f := fun y216 => (60, [some (.ref 1), none, none, none, vI x4, vI x5, vI v.1], [], (H0v s (f_regTuple v.2) (f_regA v.2) (f_regB v.2) (f_regC v.2) (f_regCount v.2) (f_slots v.2) (f_range v.2) (f_slide v.2) (f_frontSize v.2) (f_backSize v.2) (f_backElem v.2) (f_frontAgg v.2) (f_backAgg v.2) (f_snap v.2) y216 (f_capacity v.2) (f_queries v.2) (f_n v.2)))) rfl hy216 ?_
    refine QTri.steps Ad W 2 (st' := (34, [some (.ref 1), none, none, none, vI x4, vI x5, vI (v.1 + (1 : Int32))], [], (H0v s (f_regTuple v.2) (f_regA v.2) (f_regB v.2) (f_regC v.2) (f_regCount v.2) (f_slots v.2) (f_range v.2) (f_slide v.2) (f_frontSize v.2) (f_backSize v.2) (f_backElem v.2) (f_frontAgg v.2) (f_backAgg v.2) (f_snap v.2) y216 (f_capacity v.2) (f_queries v.2) (f_n v.2)))) rfl ?_
    have E217 : ((H0v s (f_regTuple v.2) (f_regA v.2) (f_regB v.2) (f_regC v.2) (f_regCount v.2) (f_slots v.2) (f_range v.2) (f_slide v.2) (f_frontSize v.2) (f_backSize v.2) (f_backElem v.2) (f_frontAgg v.2) (f_backAgg v.2) (f_snap v.2) y216 (f_capacity v.2) (f_queries v.2) (f_n v.2)) : QHeap) = (H0 s (s_reg v.2 y216)) := by dsimp only [H0, H0v, f_regTuple, f_regA, f_regB, f_regC, f_regCount, f_slots, f_range, f_slide, f_frontSize, f_backSize, f_backElem, f_frontAgg, f_backAgg, f_snap, f_reg, f_capacity, f_queries, f_n, s_reg]
    rw [E217]
    obtain rfl := Option.some.inj h
    exact QTri.mask [true, false, false, false, true, true, true] (hc ((v.1 + (1 : Int32)), (s_reg v.2 y216)) rfl)
  · refine QTri.brT Ad W (t := 66) (f := 40) (L := [some (.ref 1), none, none, none, vI x4, vI x5, vI v.1]) (S := []) (σ := (H0 s v.2)) rfl (XT.ii_ge_t hc214) ?_
    obtain rfl := Option.some.inj h
    obtain ⟨rfl, rfl⟩ := hx0 v.2 rfl
    exact QTri.ret0 rfl rfl
/-- loadBack(III)V -/
def F29 (o : Ob) (x1 : Int32) (x2 : Int32) (x3 : Int32) : Option (Ob) :=
  (F5 x1).bind fun r209 => (if r209 = (0 : Int32) then some o else (F22 x2 x3).bind fun r211 => (if r211 = (0 : Int32) then some o else (F24 x2 x3).bind fun r213 => (loopN (B29_34 r213 (x1 * (4 : Int32))) qN ((0 : Int32), o)).bind fun e218 => some e218))
theorem tF29 (Ad : QAd n0 ad) (W : QW Z a0) (s : List Int32) (o : Ob) (x1 : Int32) (x2 : Int32) (x3 : Int32) {r : Ob} (h : F29 o x1 x2 x3 = some r) : QTri l Z n0 ad 29 (0, qentry [.ref 1, .int x1, .int x2, .int x3] (pMaxL 29), [], (H0 s o)) (none : Option Value) (H0 s r) := by
  unfold F29 at h
  refine QTri.steps Ad W 2 (st' := (2, [some (.ref 1), vI x1, vI x2, vI x3, none, none, none], [.int x1, .ref 1], (H0 s o))) rfl ?_
  obtain ⟨r209, hr209, h⟩ := Option.bind_eq_some_iff.mp h
  refine QTri.callP W (a := 1) (as := [.int x1]) (rest := []) (w := (some (.int r209))) (σ₁ := (H0 s o)) rfl rfl rfl rfl rfl rfl rfl rfl (tF5 Ad W x1 hr209) ?_
  rcases qite h with ⟨hc210, h⟩ | ⟨hc210, h⟩
  · refine QTri.brT Ad W (t := 17) (f := 8) (L := [some (.ref 1), vI x1, vI x2, vI x3, none, none, none]) (S := []) (σ := (H0 s o)) rfl (XT.i0_eq_t hc210) ?_
    obtain rfl := Option.some.inj h
    exact QTri.ret0 rfl rfl
  · refine QTri.brF Ad W (t := 17) (f := 8) (L := [some (.ref 1), vI x1, vI x2, vI x3, none, none, none]) (S := []) (σ := (H0 s o)) rfl (XT.i0_eq_f hc210) ?_
    refine QTri.steps Ad W 3 (st' := (11, [some (.ref 1), vI x1, vI x2, vI x3, none, none, none], [.int x3, .int x2, .ref 1], (H0 s o))) rfl ?_
    obtain ⟨r211, hr211, h⟩ := Option.bind_eq_some_iff.mp h
    refine QTri.callP W (a := 1) (as := [.int x2, .int x3]) (rest := []) (w := (some (.int r211))) (σ₁ := (H0 s o)) rfl rfl rfl rfl rfl rfl rfl rfl (tF22 Ad W x2 x3 hr211) ?_
    rcases qite h with ⟨hc212, h⟩ | ⟨hc212, h⟩
    · refine QTri.brF Ad W (t := 18) (f := 17) (L := [some (.ref 1), vI x1, vI x2, vI x3, none, none, none]) (S := []) (σ := (H0 s o)) rfl (XT.i0_ne_f hc212) ?_
      obtain rfl := Option.some.inj h
      exact QTri.ret0 rfl rfl
    · refine QTri.brT Ad W (t := 18) (f := 17) (L := [some (.ref 1), vI x1, vI x2, vI x3, none, none, none]) (S := []) (σ := (H0 s o)) rfl (XT.i0_ne_t hc212) ?_
      refine QTri.steps Ad W 3 (st' := (21, [some (.ref 1), vI x1, vI x2, vI x3, none, none, none], [.int x3, .int x2, .ref 1], (H0 s o))) rfl ?_
      obtain ⟨r213, hr213, h⟩ := Option.bind_eq_some_iff.mp h
      refine QTri.callP W (a := 1) (as := [.int x2, .int x3]) (rest := []) (w := (some (.int r213))) (σ₁ := (H0 s o)) rfl rfl rfl rfl rfl rfl rfl rfl (tF24 Ad W x2 x3 hr213) ?_
      refine QTri.steps Ad W 5 (st' := (31, [some (.ref 1), vI x1, vI x2, vI x3, vI r213, vI (x1 * (4 : Int32)), none], [], (H0 s o))) rfl ?_
      refine QTri.steps Ad W 2 (st' := (34, [some (.ref 1), vI x1, vI x2, vI x3, vI r213, vI (x1 * (4 : Int32)), vI (0 : Int32)], [], (H0 s o))) rfl ?_
      obtain ⟨e218, he218, h⟩ := Option.bind_eq_some_iff.mp h
      refine QTri.mask [true, false, false, false, true, true, true] (loopN_tri (B := B29_34 r213 (x1 * (4 : Int32))) (T := fun lv219 => QTri l Z n0 ad 29 (34, [some (.ref 1), none, none, none, vI r213, vI (x1 * (4 : Int32)), vI lv219.1], [], (H0 s lv219.2)) (none : Option Value) (H0 s r)) (KE := fun e218a => (none : Option Value) = (none : Option Value) ∧ (H0 s r) = (H0 s e218a)) (fun lv219 r hB hE hC => tB29_34 Ad W s r213 (x1 * (4 : Int32)) lv219 hB (fun x q => hE _ q) (fun x q => hC x q)) qN ((0 : Int32), o) e218 he218 ?_)
      obtain rfl := Option.some.inj h
      exact ⟨rfl, rfl⟩
def B30_34 (x4 : Int32) (x5 : Int32) (v : Int32 × Ob) : Option (((Ob)) ⊕ (Int32 × Ob)) :=
  (if v.1 < (4 : Int32) then (aget (f_reg v.2) (x5 + v.1)).bind fun y228 => (aset (f_frontAgg v.2) (x4 + v.1) y228).bind fun y229 => some (.inr ((v.1 + (1 : Int32)), (s_frontAgg v.2 y229))) else some (.inl v.2))
theorem tB30_34 (Ad : QAd n0 ad) (W : QW Z a0) (s : List Int32) (x4 : Int32) (x5 : Int32) (v : Int32 × Ob) {r : ((Ob)) ⊕ (Int32 × Ob)} {u : Option Value} {τ : QHeap} (h : B30_34 x4 x5 v = some r) (hx0 : ∀ x : Ob, r = .inl x → u = (none : Option Value) ∧ τ = (H0 s x)) (hc : ∀ x : Int32 × Ob, r = .inr x → QTri l Z n0 ad 30 (34, [some (.ref 1), none, none, none, vI x4, vI x5, vI x.1], [], (H0 s x.2)) u τ) : QTri l Z n0 ad 30 (34, [some (.ref 1), none, none, none, vI x4, vI x5, vI v.1], [], (H0 s v.2)) u τ := by
  unfold B30_34 at h
  refine QTri.steps Ad W 2 (st' := (37, [some (.ref 1), none, none, none, vI x4, vI x5, vI v.1], [.int (4 : Int32), .int v.1], (H0 s v.2))) rfl ?_
  rcases qite h with ⟨hc227, h⟩ | ⟨hc227, h⟩
  · refine QTri.brF Ad W (t := 66) (f := 40) (L := [some (.ref 1), none, none, none, vI x4, vI x5, vI v.1]) (S := []) (σ := (H0 s v.2)) rfl (XT.ii_ge_f hc227) ?_
    refine QTri.steps Ad W 10 (st' := (58, [some (.ref 1), none, none, none, vI x4, vI x5, vI v.1], [.int (x5 + v.1), .ref 10, .int (x4 + v.1), .ref 7], (H0 s v.2))) rfl ?_
    obtain ⟨y228, hy228, h⟩ := Option.bind_eq_some_iff.mp h
    refine QTri.bnd Ad W (f := fun y228 => (59, [some (.ref 1), none, none, none, vI x4, vI x5, vI v.1], [.int y228, .int (x4 + v.1), .ref 7], (H0 s v.2))) rfl hy228 ?_
    obtain ⟨y229, hy229, h⟩ := Option.bind_eq_some_iff.mp h
    refine QTri.bnd Ad W (f := fun y229 => (60, [some (.ref 1), none, none, none, vI x4, vI x5, vI v.1], [], (H0v s (f_regTuple v.2) (f_regA v.2) (f_regB v.2) (f_regC v.2) (f_regCount v.2) (f_slots v.2) (f_range v.2) (f_slide v.2) (f_frontSize v.2) (f_backSize v.2) (f_backElem v.2) y229 (f_backAgg v.2) (f_snap v.2) (f_reg v.2) (f_capacity v.2) (f_queries v.2) (f_n v.2)))) rfl hy229 ?_
    refine QTri.steps Ad W 2 (st' := (34, [some (.ref 1), none, none, none, vI x4, vI x5, vI (v.1 + (1 : Int32))], [], (H0v s (f_regTuple v.2) (f_regA v.2) (f_regB v.2) (f_regC v.2) (f_regCount v.2) (f_slots v.2) (f_range v.2) (f_slide v.2) (f_frontSize v.2) (f_backSize v.2) (f_backElem v.2) y229 (f_backAgg v.2) (f_snap v.2) (f_reg v.2) (f_capacity v.2) (f_queries v.2) (f_n v.2)))) rfl ?_
    have E230 : ((H0v s (f_regTuple v.2) (f_regA v.2) (f_regB v.2) (f_regC v.2) (f_regCount v.2) (f_slots v.2) (f_range v.2) (f_slide v.2) (f_frontSize v.2) (f_backSize v.2) (f_backElem v.2) y229 (f_backAgg v.2) (f_snap v.2) (f_reg v.2) (f_capacity v.2) (f_queries v.2) (f_n v.2)) : QHeap) = (H0 s (s_frontAgg v.2 y229)) := by dsimp only [H0, H0v, f_regTuple, f_regA, f_regB, f_regC, f_regCount, f_slots, f_range, f_slide, f_frontSize, f_backSize, f_backElem, f_frontAgg, f_backAgg, f_snap, f_reg, f_capacity, f_queries, f_n, s_frontAgg]
    rw [E230]
    obtain rfl := Option.some.inj h
    exact QTri.mask [true, false, false, false, true, true, true] (hc ((v.1 + (1 : Int32)), (s_frontAgg v.2 y229)) rfl)
  · refine QTri.brT Ad W (t := 66) (f := 40) (L := [some (.ref 1), none, none, none, vI x4, vI x5, vI v.1]) (S := []) (σ := (H0 s v.2)) rfl (XT.ii_ge_t hc227) ?_
    obtain rfl := Option.some.inj h
    obtain ⟨rfl, rfl⟩ := hx0 v.2 rfl
    exact QTri.ret0 rfl rfl
/-- storeFront(III)V -/
def F30 (o : Ob) (x1 : Int32) (x2 : Int32) (x3 : Int32) : Option (Ob) :=
  (F5 x3).bind fun r222 => (if r222 = (0 : Int32) then some o else (F22 x1 x2).bind fun r224 => (if r224 = (0 : Int32) then some o else (F24 x1 x2).bind fun r226 => (loopN (B30_34 r226 (x3 * (4 : Int32))) qN ((0 : Int32), o)).bind fun e231 => some e231))
theorem tF30 (Ad : QAd n0 ad) (W : QW Z a0) (s : List Int32) (o : Ob) (x1 : Int32) (x2 : Int32) (x3 : Int32) {r : Ob} (h : F30 o x1 x2 x3 = some r) : QTri l Z n0 ad 30 (0, qentry [.ref 1, .int x1, .int x2, .int x3] (pMaxL 30), [], (H0 s o)) (none : Option Value) (H0 s r) := by
  unfold F30 at h
  refine QTri.steps Ad W 2 (st' := (2, [some (.ref 1), vI x1, vI x2, vI x3, none, none, none], [.int x3, .ref 1], (H0 s o))) rfl ?_
  obtain ⟨r222, hr222, h⟩ := Option.bind_eq_some_iff.mp h
  refine QTri.callP W (a := 1) (as := [.int x3]) (rest := []) (w := (some (.int r222))) (σ₁ := (H0 s o)) rfl rfl rfl rfl rfl rfl rfl rfl (tF5 Ad W x3 hr222) ?_
  rcases qite h with ⟨hc223, h⟩ | ⟨hc223, h⟩
  · refine QTri.brT Ad W (t := 17) (f := 8) (L := [some (.ref 1), vI x1, vI x2, vI x3, none, none, none]) (S := []) (σ := (H0 s o)) rfl (XT.i0_eq_t hc223) ?_
    obtain rfl := Option.some.inj h
    exact QTri.ret0 rfl rfl
  · refine QTri.brF Ad W (t := 17) (f := 8) (L := [some (.ref 1), vI x1, vI x2, vI x3, none, none, none]) (S := []) (σ := (H0 s o)) rfl (XT.i0_eq_f hc223) ?_
    refine QTri.steps Ad W 3 (st' := (11, [some (.ref 1), vI x1, vI x2, vI x3, none, none, none], [.int x2, .int x1, .ref 1], (H0 s o))) rfl ?_
    obtain ⟨r224, hr224, h⟩ := Option.bind_eq_some_iff.mp h
    refine QTri.callP W (a := 1) (as := [.int x1, .int x2]) (rest := []) (w := (some (.int r224))) (σ₁ := (H0 s o)) rfl rfl rfl rfl rfl rfl rfl rfl (tF22 Ad W x1 x2 hr224) ?_
    rcases qite h with ⟨hc225, h⟩ | ⟨hc225, h⟩
    · refine QTri.brF Ad W (t := 18) (f := 17) (L := [some (.ref 1), vI x1, vI x2, vI x3, none, none, none]) (S := []) (σ := (H0 s o)) rfl (XT.i0_ne_f hc225) ?_
      obtain rfl := Option.some.inj h
      exact QTri.ret0 rfl rfl
    · refine QTri.brT Ad W (t := 18) (f := 17) (L := [some (.ref 1), vI x1, vI x2, vI x3, none, none, none]) (S := []) (σ := (H0 s o)) rfl (XT.i0_ne_t hc225) ?_
      refine QTri.steps Ad W 3 (st' := (21, [some (.ref 1), vI x1, vI x2, vI x3, none, none, none], [.int x2, .int x1, .ref 1], (H0 s o))) rfl ?_
      obtain ⟨r226, hr226, h⟩ := Option.bind_eq_some_iff.mp h
      refine QTri.callP W (a := 1) (as := [.int x1, .int x2]) (rest := []) (w := (some (.int r226))) (σ₁ := (H0 s o)) rfl rfl rfl rfl rfl rfl rfl rfl (tF24 Ad W x1 x2 hr226) ?_
      refine QTri.steps Ad W 5 (st' := (31, [some (.ref 1), vI x1, vI x2, vI x3, vI r226, vI (x3 * (4 : Int32)), none], [], (H0 s o))) rfl ?_
      refine QTri.steps Ad W 2 (st' := (34, [some (.ref 1), vI x1, vI x2, vI x3, vI r226, vI (x3 * (4 : Int32)), vI (0 : Int32)], [], (H0 s o))) rfl ?_
      obtain ⟨e231, he231, h⟩ := Option.bind_eq_some_iff.mp h
      refine QTri.mask [true, false, false, false, true, true, true] (loopN_tri (B := B30_34 r226 (x3 * (4 : Int32))) (T := fun lv232 => QTri l Z n0 ad 30 (34, [some (.ref 1), none, none, none, vI r226, vI (x3 * (4 : Int32)), vI lv232.1], [], (H0 s lv232.2)) (none : Option Value) (H0 s r)) (KE := fun e231a => (none : Option Value) = (none : Option Value) ∧ (H0 s r) = (H0 s e231a)) (fun lv232 r hB hE hC => tB30_34 Ad W s r226 (x3 * (4 : Int32)) lv232 hB (fun x q => hE _ q) (fun x q => hC x q)) qN ((0 : Int32), o) e231 he231 ?_)
      obtain rfl := Option.some.inj h
      exact ⟨rfl, rfl⟩
def B28_23 (x1 : Int32) (x2 : Int32) (v : Int32 × Ob) : Option (((Ob)) ⊕ (Int32 × Ob)) :=
  (if v.1 < x2 then (F29 v.2 (2 : Int32) x1 ((x2 - (1 : Int32)) - v.1)).bind fun r220 => (F26 r220 (1 : Int32) (2 : Int32) (1 : Int32)).bind fun r221 => (F30 r221 x1 v.1 (1 : Int32)).bind fun r233 => some (.inr ((v.1 + (1 : Int32)), r233)) else some (.inl v.2))
theorem tB28_23 (Ad : QAd n0 ad) (W : QW Z a0) (s : List Int32) (x1 : Int32) (x2 : Int32) (v : Int32 × Ob) {r : ((Ob)) ⊕ (Int32 × Ob)} {u : Option Value} {τ : QHeap} (h : B28_23 x1 x2 v = some r) (hx0 : ∀ x : Ob, r = .inl x → QTri l Z n0 ad 28 (59, [some (.ref 1), vI x1, vI x2, none], [], (H0 s x)) u τ) (hc : ∀ x : Int32 × Ob, r = .inr x → QTri l Z n0 ad 28 (23, [some (.ref 1), vI x1, vI x2, vI x.1], [], (H0 s x.2)) u τ) : QTri l Z n0 ad 28 (23, [some (.ref 1), vI x1, vI x2, vI v.1], [], (H0 s v.2)) u τ := by
  unfold B28_23 at h
  refine QTri.steps Ad W 2 (st' := (25, [some (.ref 1), vI x1, vI x2, vI v.1], [.int x2, .int v.1], (H0 s v.2))) rfl ?_
  rcases qite h with ⟨hc208, h⟩ | ⟨hc208, h⟩
  · refine QTri.brF Ad W (t := 59) (f := 28) (L := [some (.ref 1), vI x1, vI x2, vI v.1]) (S := []) (σ := (H0 s v.2)) rfl (XT.ii_ge_f hc208) ?_
    refine QTri.steps Ad W 8 (st' := (36, [some (.ref 1), vI x1, vI x2, vI v.1], [.int ((x2 - (1 : Int32)) - v.1), .int x1, .int (2 : Int32), .ref 1], (H0 s v.2))) rfl ?_
    obtain ⟨r220, hr220, h⟩ := Option.bind_eq_some_iff.mp h
    refine QTri.callP W (a := 1) (as := [.int (2 : Int32), .int x1, .int ((x2 - (1 : Int32)) - v.1)]) (rest := []) (w := none) (σ₁ := (H0 s r220)) rfl rfl rfl rfl rfl rfl rfl rfl (tF29 Ad W s v.2 (2 : Int32) x1 ((x2 - (1 : Int32)) - v.1) hr220) ?_
    refine QTri.steps Ad W 4 (st' := (43, [some (.ref 1), vI x1, vI x2, vI v.1], [.int (1 : Int32), .int (2 : Int32), .int (1 : Int32), .ref 1], (H0 s r220))) rfl ?_
    obtain ⟨r221, hr221, h⟩ := Option.bind_eq_some_iff.mp h
    refine QTri.callP W (a := 1) (as := [.int (1 : Int32), .int (2 : Int32), .int (1 : Int32)]) (rest := []) (w := none) (σ₁ := (H0 s r221)) rfl rfl rfl rfl rfl rfl rfl rfl (tF26 Ad W s r220 (1 : Int32) (2 : Int32) (1 : Int32) hr221) ?_
    refine QTri.steps Ad W 4 (st' := (50, [some (.ref 1), vI x1, vI x2, vI v.1], [.int (1 : Int32), .int v.1, .int x1, .ref 1], (H0 s r221))) rfl ?_
    obtain ⟨r233, hr233, h⟩ := Option.bind_eq_some_iff.mp h
    refine QTri.callP W (a := 1) (as := [.int x1, .int v.1, .int (1 : Int32)]) (rest := []) (w := none) (σ₁ := (H0 s r233)) rfl rfl rfl rfl rfl rfl rfl rfl (tF30 Ad W s r221 x1 v.1 (1 : Int32) hr233) ?_
    refine QTri.steps Ad W 2 (st' := (23, [some (.ref 1), vI x1, vI x2, vI (v.1 + (1 : Int32))], [], (H0 s r233))) rfl ?_
    obtain rfl := Option.some.inj h
    exact QTri.mask [true, true, true, true] (hc ((v.1 + (1 : Int32)), r233) rfl)
  · refine QTri.brT Ad W (t := 59) (f := 28) (L := [some (.ref 1), vI x1, vI x2, vI v.1]) (S := []) (σ := (H0 s v.2)) rfl (XT.ii_ge_t hc208) ?_
    obtain rfl := Option.some.inj h
    exact QTri.mask [true, true, true, false] (hx0 v.2 rfl)
/-- flip(I)V -/
def F28 (o : Ob) (x1 : Int32) : Option (Ob) :=
  (aget (f_backSize o) x1).bind fun y203 => (F3 o (1 : Int32)).bind fun r207 => (loopN (B28_23 x1 (if (32 : Int32) < y203 then (32 : Int32) else y203)) qN ((0 : Int32), r207)).bind fun e234 => (aset (f_frontSize e234) x1 (if (32 : Int32) < y203 then (32 : Int32) else y203)).bind fun y236 => (aset (f_backSize e234) x1 (0 : Int32)).bind fun y237 => (F3 (s_backSize (s_frontSize e234 y236) y237) (1 : Int32)).bind fun r239 => (F6 r239 x1 (1 : Int32)).bind fun r240 => some r240
theorem tF28 (Ad : QAd n0 ad) (W : QW Z a0) (s : List Int32) (o : Ob) (x1 : Int32) {r : Ob} (h : F28 o x1 = some r) : QTri l Z n0 ad 28 (0, qentry [.ref 1, .int x1] (pMaxL 28), [], (H0 s o)) (none : Option Value) (H0 s r) := by
  unfold F28 at h
  refine QTri.steps Ad W 3 (st' := (5, [some (.ref 1), vI x1, none, none], [.int x1, .ref 5], (H0 s o))) rfl ?_
  obtain ⟨y203, hy203, h⟩ := Option.bind_eq_some_iff.mp h
  refine QTri.bnd Ad W (f := fun y203 => (6, [some (.ref 1), vI x1, none, none], [.int y203], (H0 s o))) rfl hy203 ?_
  refine QTri.steps Ad W 3 (st' := (10, [some (.ref 1), vI x1, vI y203, none], [.int (32 : Int32), .int y203], (H0 s o))) rfl ?_
  have K205 : ∀ z204 : Int32, z204 = (if (32 : Int32) < y203 then (32 : Int32) else y203) → QTri l Z n0 ad 28 (16, [some (.ref 1), vI x1, vI z204, none], [], (H0 s o)) (none : Option Value) (H0 s r) := by
    intro z204 ez204
    subst ez204
    refine QTri.steps Ad W 2 (st' := (18, [some (.ref 1), vI x1, vI (if (32 : Int32) < y203 then (32 : Int32) else y203), none], [.int (1 : Int32), .ref 1], (H0 s o))) rfl ?_
    obtain ⟨r207, hr207, h⟩ := Option.bind_eq_some_iff.mp h
    refine QTri.callP W (a := 1) (as := [.int (1 : Int32)]) (rest := []) (w := none) (σ₁ := (H0 s r207)) rfl rfl rfl rfl rfl rfl rfl rfl (tF3 Ad W s o (1 : Int32) hr207) ?_
    refine QTri.steps Ad W 2 (st' := (23, [some (.ref 1), vI x1, vI (if (32 : Int32) < y203 then (32 : Int32) else y203), vI (0 : Int32)], [], (H0 s r207))) rfl ?_
    obtain ⟨e234, he234, h⟩ := Option.bind_eq_some_iff.mp h
    refine QTri.mask [true, true, true, true] (loopN_tri (B := B28_23 x1 (if (32 : Int32) < y203 then (32 : Int32) else y203)) (T := fun lv235 => QTri l Z n0 ad 28 (23, [some (.ref 1), vI x1, vI (if (32 : Int32) < y203 then (32 : Int32) else y203), vI lv235.1], [], (H0 s lv235.2)) (none : Option Value) (H0 s r)) (KE := fun e234a => QTri l Z n0 ad 28 (59, [some (.ref 1), vI x1, vI (if (32 : Int32) < y203 then (32 : Int32) else y203), none], [], (H0 s e234a)) (none : Option Value) (H0 s r)) (fun lv235 r hB hE hC => tB28_23 Ad W s x1 (if (32 : Int32) < y203 then (32 : Int32) else y203) lv235 hB (fun x q => hE _ q) (fun x q => hC x q)) qN ((0 : Int32), r207) e234 he234 ?_)
    refine QTri.steps Ad W 4 (st' := (65, [some (.ref 1), vI x1, vI (if (32 : Int32) < y203 then (32 : Int32) else y203), none], [.int (if (32 : Int32) < y203 then (32 : Int32) else y203), .int x1, .ref 4], (H0 s e234))) rfl ?_
    obtain ⟨y236, hy236, h⟩ := Option.bind_eq_some_iff.mp h
    refine QTri.bnd Ad W (f := fun y236 => (66, [some (.ref 1), vI x1, vI (if (32 : Int32) < y203 then (32 : Int32) else y203), none], [], (H0v s (f_regTuple e234) (f_regA e234) (f_regB e234) (f_regC e234) (f_regCount e234) (f_slots e234) (f_range e234) (f_slide e234) y236 (f_backSize e234) (f_backElem e234) (f_frontAgg e234) (f_backAgg e234) (f_snap e234) (f_reg e234) (f_capacity e234) (f_queries e234) (f_n e234)))) rfl hy236 ?_
    refine QTri.steps Ad W 4 (st' := (72, [some (.ref 1), vI x1, vI (if (32 : Int32) < y203 then (32 : Int32) else y203), none], [.int (0 : Int32), .int x1, .ref 5], (H0v s (f_regTuple e234) (f_regA e234) (f_regB e234) (f_regC e234) (f_regCount e234) (f_slots e234) (f_range e234) (f_slide e234) y236 (f_backSize e234) (f_backElem e234) (f_frontAgg e234) (f_backAgg e234) (f_snap e234) (f_reg e234) (f_capacity e234) (f_queries e234) (f_n e234)))) rfl ?_
    obtain ⟨y237, hy237, h⟩ := Option.bind_eq_some_iff.mp h
    refine QTri.bnd Ad W (f := fun y237 => (73, [some (.ref 1), vI x1, vI (if (32 : Int32) < y203 then (32 : Int32) else y203), none], [], (H0v s (f_regTuple e234) (f_regA e234) (f_regB e234) (f_regC e234) (f_regCount e234) (f_slots e234) (f_range e234) (f_slide e234) y236 y237 (f_backElem e234) (f_frontAgg e234) (f_backAgg e234) (f_snap e234) (f_reg e234) (f_capacity e234) (f_queries e234) (f_n e234)))) rfl hy237 ?_
    refine QTri.steps Ad W 2 (st' := (75, [some (.ref 1), vI x1, vI (if (32 : Int32) < y203 then (32 : Int32) else y203), none], [.int (1 : Int32), .ref 1], (H0v s (f_regTuple e234) (f_regA e234) (f_regB e234) (f_regC e234) (f_regCount e234) (f_slots e234) (f_range e234) (f_slide e234) y236 y237 (f_backElem e234) (f_frontAgg e234) (f_backAgg e234) (f_snap e234) (f_reg e234) (f_capacity e234) (f_queries e234) (f_n e234)))) rfl ?_
    have E238 : ((H0v s (f_regTuple e234) (f_regA e234) (f_regB e234) (f_regC e234) (f_regCount e234) (f_slots e234) (f_range e234) (f_slide e234) y236 y237 (f_backElem e234) (f_frontAgg e234) (f_backAgg e234) (f_snap e234) (f_reg e234) (f_capacity e234) (f_queries e234) (f_n e234)) : QHeap) = (H0 s (s_backSize (s_frontSize e234 y236) y237)) := by dsimp only [H0, H0v, f_regTuple, f_regA, f_regB, f_regC, f_regCount, f_slots, f_range, f_slide, f_frontSize, f_backSize, f_backElem, f_frontAgg, f_backAgg, f_snap, f_reg, f_capacity, f_queries, f_n, s_frontSize, s_backSize]
    rw [E238]
    obtain ⟨r239, hr239, h⟩ := Option.bind_eq_some_iff.mp h
    refine QTri.callP W (a := 1) (as := [.int (1 : Int32)]) (rest := []) (w := none) (σ₁ := (H0 s r239)) rfl rfl rfl rfl rfl rfl rfl rfl (tF3 Ad W s (s_backSize (s_frontSize e234 y236) y237) (1 : Int32) hr239) ?_
    refine QTri.steps Ad W 3 (st' := (81, [some (.ref 1), vI x1, vI (if (32 : Int32) < y203 then (32 : Int32) else y203), none], [.int (1 : Int32), .int x1, .ref 1], (H0 s r239))) rfl ?_
    obtain ⟨r240, hr240, h⟩ := Option.bind_eq_some_iff.mp h
    refine QTri.callP W (a := 1) (as := [.int x1, .int (1 : Int32)]) (rest := []) (w := none) (σ₁ := (H0 s r240)) rfl rfl rfl rfl rfl rfl rfl rfl (tF6 Ad W s r239 x1 (1 : Int32) hr240) ?_
    obtain rfl := Option.some.inj h
    exact QTri.ret0 rfl rfl
  rcases Classical.em ((32 : Int32) < y203) with hc206 | hc206
  · refine QTri.brF Ad W (t := 16) (f := 13) (L := [some (.ref 1), vI x1, vI y203, none]) (S := []) (σ := (H0 s o)) rfl (XT.ii_le_f hc206) ?_
    refine QTri.steps Ad W 2 (st' := (16, [some (.ref 1), vI x1, vI (32 : Int32), none], [], (H0 s o))) rfl ?_
    exact QTri.mask [true, true, true, false] (K205 _ (if_pos hc206).symm)
  · refine QTri.brT Ad W (t := 16) (f := 13) (L := [some (.ref 1), vI x1, vI y203, none]) (S := []) (σ := (H0 s o)) rfl (XT.ii_le_t hc206) ?_
    exact QTri.mask [true, true, true, false] (K205 _ (if_neg hc206).symm)
def J27_14 (o : Ob) (x1 : Int32) : Option (Ob) :=
  (aget (f_frontSize o) x1).bind fun y242 => (if (0 : Int32) < y242 then (aget (f_frontSize o) x1).bind fun y244 => (aset (f_frontSize o) x1 (y244 - (1 : Int32))).bind fun y245 => some (s_frontSize o y245) else some o)
theorem tJ27_14 (Ad : QAd n0 ad) (W : QW Z a0) (s : List Int32) (o : Ob) (x1 : Int32) {r : Ob} (h : J27_14 o x1 = some r) : QTri l Z n0 ad 27 (14, [some (.ref 1), vI x1], [], (H0 s o)) (none : Option Value) (H0 s r) := by
  unfold J27_14 at h
  refine QTri.steps Ad W 3 (st' := (19, [some (.ref 1), vI x1], [.int x1, .ref 4], (H0 s o))) rfl ?_
  obtain ⟨y242, hy242, h⟩ := Option.bind_eq_some_iff.mp h
  refine QTri.bnd Ad W (f := fun y242 => (20, [some (.ref 1), vI x1], [.int y242], (H0 s o))) rfl hy242 ?_
  rcases qite h with ⟨hc243, h⟩ | ⟨hc243, h⟩
  · refine QTri.brF Ad W (t := 37) (f := 23) (L := [some (.ref 1), vI x1]) (S := []) (σ := (H0 s o)) rfl (XT.i0_le_f hc243) ?_
    refine QTri.steps Ad W 6 (st' := (33, [some (.ref 1), vI x1], [.int x1, .ref 4, .int x1, .ref 4], (H0 s o))) rfl ?_
    obtain ⟨y244, hy244, h⟩ := Option.bind_eq_some_iff.mp h
    refine QTri.bnd Ad W (f := fun y244 => (34, [some (.ref 1), vI x1], [.int y244, .int x1, .ref 4], (H0 s o))) rfl hy244 ?_
    refine QTri.steps Ad W 2 (st' := (36, [some (.ref 1), vI x1], [.int (y244 - (1 : Int32)), .int x1, .ref 4], (H0 s o))) rfl ?_
    obtain ⟨y245, hy245, h⟩ := Option.bind_eq_some_iff.mp h
    refine QTri.bnd Ad W (f := fun y245 => (37, [some (.ref 1), vI x1], [], (H0v s (f_regTuple o) (f_regA o) (f_regB o) (f_regC o) (f_regCount o) (f_slots o) (f_range o) (f_slide o) y245 (f_backSize o) (f_backElem o) (f_frontAgg o) (f_backAgg o) (f_snap o) (f_reg o) (f_capacity o) (f_queries o) (f_n o)))) rfl hy245 ?_
    have E246 : ((H0v s (f_regTuple o) (f_regA o) (f_regB o) (f_regC o) (f_regCount o) (f_slots o) (f_range o) (f_slide o) y245 (f_backSize o) (f_backElem o) (f_frontAgg o) (f_backAgg o) (f_snap o) (f_reg o) (f_capacity o) (f_queries o) (f_n o)) : QHeap) = (H0 s (s_frontSize o y245)) := by dsimp only [H0, H0v, f_regTuple, f_regA, f_regB, f_regC, f_regCount, f_slots, f_range, f_slide, f_frontSize, f_backSize, f_backElem, f_frontAgg, f_backAgg, f_snap, f_reg, f_capacity, f_queries, f_n, s_frontSize]
    rw [E246]
    obtain rfl := Option.some.inj h
    exact QTri.ret0 rfl rfl
  · refine QTri.brT Ad W (t := 37) (f := 23) (L := [some (.ref 1), vI x1]) (S := []) (σ := (H0 s o)) rfl (XT.i0_le_t hc243) ?_
    obtain rfl := Option.some.inj h
    exact QTri.ret0 rfl rfl
/-- evictOldest(I)V -/
def F27 (o : Ob) (x1 : Int32) : Option (Ob) :=
  (aget (f_frontSize o) x1).bind fun y201 => (if y201 = (0 : Int32) then (F28 o x1).bind fun r241 => (J27_14 r241 x1) else (J27_14 o x1))
theorem tF27 (Ad : QAd n0 ad) (W : QW Z a0) (s : List Int32) (o : Ob) (x1 : Int32) {r : Ob} (h : F27 o x1 = some r) : QTri l Z n0 ad 27 (0, qentry [.ref 1, .int x1] (pMaxL 27), [], (H0 s o)) (none : Option Value) (H0 s r) := by
  unfold F27 at h
  refine QTri.steps Ad W 3 (st' := (5, [some (.ref 1), vI x1], [.int x1, .ref 4], (H0 s o))) rfl ?_
  obtain ⟨y201, hy201, h⟩ := Option.bind_eq_some_iff.mp h
  refine QTri.bnd Ad W (f := fun y201 => (6, [some (.ref 1), vI x1], [.int y201], (H0 s o))) rfl hy201 ?_
  rcases qite h with ⟨hc202, h⟩ | ⟨hc202, h⟩
  · refine QTri.brF Ad W (t := 14) (f := 9) (L := [some (.ref 1), vI x1]) (S := []) (σ := (H0 s o)) rfl (XT.i0_ne_f hc202) ?_
    refine QTri.steps Ad W 2 (st' := (11, [some (.ref 1), vI x1], [.int x1, .ref 1], (H0 s o))) rfl ?_
    obtain ⟨r241, hr241, h⟩ := Option.bind_eq_some_iff.mp h
    refine QTri.callP W (a := 1) (as := [.int x1]) (rest := []) (w := none) (σ₁ := (H0 s r241)) rfl rfl rfl rfl rfl rfl rfl rfl (tF28 Ad W s o x1 hr241) ?_
    exact QTri.mask [true, true] (tJ27_14 Ad W s r241 x1 h)
  · refine QTri.brT Ad W (t := 14) (f := 9) (L := [some (.ref 1), vI x1]) (S := []) (σ := (H0 s o)) rfl (XT.i0_ne_t hc202) ?_
    exact QTri.mask [true, true] (tJ27_14 Ad W s o x1 h)
/-- appendToQuery(I)V -/
def F21 (o : Ob) (x1 : Int32) : Option (Ob) :=
  (if x1 < (0 : Int32) then some o else (if x1 < (4 : Int32) then (aget (f_frontSize o) x1).bind fun y144 => (aget (f_backSize o) x1).bind fun y145 => (aget (f_range o) x1).bind fun y146 => (if (y144 + y145) < y146 then (J21_39 o x1) else (F27 o x1).bind fun r247 => (J21_39 r247 x1)) else some o))
theorem tF21 (Ad : QAd n0 ad) (W : QW Z a0) (s : List Int32) (o : Ob) (x1 : Int32) {r : Ob} (h : F21 o x1 = some r) : QTri l Z n0 ad 21 (0, qentry [.ref 1, .int x1] (pMaxL 21), [], (H0 s o)) (none : Option Value) (H0 s r) := by
  unfold F21 at h
  refine QTri.steps Ad W 1 (st' := (1, [some (.ref 1), vI x1, none, none], [.int x1], (H0 s o))) rfl ?_
  rcases qite h with ⟨hc142, h⟩ | ⟨hc142, h⟩
  · refine QTri.brT Ad W (t := 9) (f := 4) (L := [some (.ref 1), vI x1, none, none]) (S := []) (σ := (H0 s o)) rfl (XT.i0_lt_t hc142) ?_
    obtain rfl := Option.some.inj h
    exact QTri.ret0 rfl rfl
  · refine QTri.brF Ad W (t := 9) (f := 4) (L := [some (.ref 1), vI x1, none, none]) (S := []) (σ := (H0 s o)) rfl (XT.i0_lt_f hc142) ?_
    refine QTri.steps Ad W 2 (st' := (6, [some (.ref 1), vI x1, none, none], [.int (4 : Int32), .int x1], (H0 s o))) rfl ?_
    rcases qite h with ⟨hc143, h⟩ | ⟨hc143, h⟩
    · refine QTri.brT Ad W (t := 10) (f := 9) (L := [some (.ref 1), vI x1, none, none]) (S := []) (σ := (H0 s o)) rfl (XT.ii_lt_t hc143) ?_
      refine QTri.steps Ad W 3 (st' := (15, [some (.ref 1), vI x1, none, none], [.int x1, .ref 4], (H0 s o))) rfl ?_
      obtain ⟨y144, hy144, h⟩ := Option.bind_eq_some_iff.mp h
      refine QTri.bnd Ad W (f := fun y144 => (16, [some (.ref 1), vI x1, none, none], [.int y144], (H0 s o))) rfl hy144 ?_
      refine QTri.steps Ad W 3 (st' := (21, [some (.ref 1), vI x1, none, none], [.int x1, .ref 5, .int y144], (H0 s o))) rfl ?_
      obtain ⟨y145, hy145, h⟩ := Option.bind_eq_some_iff.mp h
      refine QTri.bnd Ad W (f := fun y145 => (22, [some (.ref 1), vI x1, none, none], [.int y145, .int y144], (H0 s o))) rfl hy145 ?_
      refine QTri.steps Ad W 6 (st' := (30, [some (.ref 1), vI x1, vI (y144 + y145), none], [.int x1, .ref 2, .int (y144 + y145)], (H0 s o))) rfl ?_
      obtain ⟨y146, hy146, h⟩ := Option.bind_eq_some_iff.mp h
      refine QTri.bnd Ad W (f := fun y146 => (31, [some (.ref 1), vI x1, vI (y144 + y145), none], [.int y146, .int (y144 + y145)], (H0 s o))) rfl hy146 ?_
      rcases qite h with ⟨hc147, h⟩ | ⟨hc147, h⟩
      · refine QTri.brT Ad W (t := 39) (f := 34) (L := [some (.ref 1), vI x1, vI (y144 + y145), none]) (S := []) (σ := (H0 s o)) rfl (XT.ii_lt_t hc147) ?_
        exact QTri.mask [true, true, false, false] (tJ21_39 Ad W s o x1 h)
      · refine QTri.brF Ad W (t := 39) (f := 34) (L := [some (.ref 1), vI x1, vI (y144 + y145), none]) (S := []) (σ := (H0 s o)) rfl (XT.ii_lt_f hc147) ?_
        refine QTri.steps Ad W 2 (st' := (36, [some (.ref 1), vI x1, vI (y144 + y145), none], [.int x1, .ref 1], (H0 s o))) rfl ?_
        obtain ⟨r247, hr247, h⟩ := Option.bind_eq_some_iff.mp h
        refine QTri.callP W (a := 1) (as := [.int x1]) (rest := []) (w := none) (σ₁ := (H0 s r247)) rfl rfl rfl rfl rfl rfl rfl rfl (tF27 Ad W s o x1 hr247) ?_
        exact QTri.mask [true, true, false, false] (tJ21_39 Ad W s r247 x1 h)
    · refine QTri.brF Ad W (t := 10) (f := 9) (L := [some (.ref 1), vI x1, none, none]) (S := []) (σ := (H0 s o)) rfl (XT.ii_lt_f hc143) ?_
      obtain rfl := Option.some.inj h
      exact QTri.ret0 rfl rfl
def J20_75 (o : Ob) (x5 : Int32) (x6 : Int32) : Option (((Int32 × Ob)) ⊕ (Int32 × Int32 × Ob)) :=
  some (.inr (x5, (x6 + (1 : Int32)), o))
theorem tJ20_75 (Ad : QAd n0 ad) (W : QW Z a0) (s : List Int32) (o : Ob) (x5 : Int32) (x6 : Int32) {r : ((Int32 × Ob)) ⊕ (Int32 × Int32 × Ob)} {u : Option Value} {τ : QHeap} (h : J20_75 o x5 x6 = some r) (hx0 : ∀ x : Int32 × Ob, r = .inl x → u = (some (Value.int x.1)) ∧ τ = (H0 s x.2)) (hc : ∀ x : Int32 × Int32 × Ob, r = .inr x → QTri l Z n0 ad 20 (26, [some (.ref 1), none, none, none, none, vI x.1, vI x.2.1, none], [], (H0 s x.2.2)) u τ) : QTri l Z n0 ad 20 (75, [some (.ref 1), none, none, none, none, vI x5, vI x6, none], [], (H0 s o)) u τ := by
  unfold J20_75 at h
  refine QTri.steps Ad W 2 (st' := (26, [some (.ref 1), none, none, none, none, vI x5, vI (x6 + (1 : Int32)), none], [], (H0 s o))) rfl ?_
  obtain rfl := Option.some.inj h
  exact QTri.mask [true, false, false, false, false, true, true, false] (hc (x5, (x6 + (1 : Int32)), o) rfl)
def B33_34 (x4 : Int32) (x5 : Int32) (v : Int32 × Ob) : Option (((Ob)) ⊕ (Int32 × Ob)) :=
  (if v.1 < (4 : Int32) then (aget (f_frontAgg v.2) (x4 + v.1)).bind fun y261 => (aset (f_reg v.2) (x5 + v.1) y261).bind fun y262 => some (.inr ((v.1 + (1 : Int32)), (s_reg v.2 y262))) else some (.inl v.2))
theorem tB33_34 (Ad : QAd n0 ad) (W : QW Z a0) (s : List Int32) (x4 : Int32) (x5 : Int32) (v : Int32 × Ob) {r : ((Ob)) ⊕ (Int32 × Ob)} {u : Option Value} {τ : QHeap} (h : B33_34 x4 x5 v = some r) (hx0 : ∀ x : Ob, r = .inl x → u = (none : Option Value) ∧ τ = (H0 s x)) (hc : ∀ x : Int32 × Ob, r = .inr x → QTri l Z n0 ad 33 (34, [some (.ref 1), none, none, none, vI x4, vI x5, vI x.1], [], (H0 s x.2)) u τ) : QTri l Z n0 ad 33 (34, [some (.ref 1), none, none, none, vI x4, vI x5, vI v.1], [], (H0 s v.2)) u τ := by
  unfold B33_34 at h
  refine QTri.steps Ad W 2 (st' := (37, [some (.ref 1), none, none, none, vI x4, vI x5, vI v.1], [.int (4 : Int32), .int v.1], (H0 s v.2))) rfl ?_
  rcases qite h with ⟨hc260, h⟩ | ⟨hc260, h⟩
  · refine QTri.brF Ad W (t := 66) (f := 40) (L := [some (.ref 1), none, none, none, vI x4, vI x5, vI v.1]) (S := []) (σ := (H0 s v.2)) rfl (XT.ii_ge_f hc260) ?_
    refine QTri.steps Ad W 10 (st' := (58, [some (.ref 1), none, none, none, vI x4, vI x5, vI v.1], [.int (x4 + v.1), .ref 7, .int (x5 + v.1), .ref 10], (H0 s v.2))) rfl ?_
    obtain ⟨y261, hy261, h⟩ := Option.bind_eq_some_iff.mp h
    refine QTri.bnd Ad W (f := fun y261 => (59, [some (.ref 1), none, none, none, vI x4, vI x5, vI v.1], [.int y261, .int (x5 + v.1), .ref 10], (H0 s v.2))) rfl hy261 ?_
    obtain ⟨y262, hy262, h⟩ := Option.bind_eq_some_iff.mp h
    refine QTri.bnd Ad W (f := fun y262 => (60, [some (.ref 1), none, none, none, vI x4, vI x5, vI v.1], [], (H0v s (f_regTuple v.2) (f_regA v.2) (f_regB v.2) (f_regC v.2) (f_regCount v.2) (f_slots v.2) (f_range v.2) (f_slide v.2) (f_frontSize v.2) (f_backSize v.2) (f_backElem v.2) (f_frontAgg v.2) (f_backAgg v.2) (f_snap v.2) y262 (f_capacity v.2) (f_queries v.2) (f_n v.2)))) rfl hy262 ?_
    refine QTri.steps Ad W 2 (st' := (34, [some (.ref 1), none, none, none, vI x4, vI x5, vI (v.1 + (1 : Int32))], [], (H0v s (f_regTuple v.2) (f_regA v.2) (f_regB v.2) (f_regC v.2) (f_regCount v.2) (f_slots v.2) (f_range v.2) (f_slide v.2) (f_frontSize v.2) (f_backSize v.2) (f_backElem v.2) (f_frontAgg v.2) (f_backAgg v.2) (f_snap v.2) y262 (f_capacity v.2) (f_queries v.2) (f_n v.2)))) rfl ?_
    have E263 : ((H0v s (f_regTuple v.2) (f_regA v.2) (f_regB v.2) (f_regC v.2) (f_regCount v.2) (f_slots v.2) (f_range v.2) (f_slide v.2) (f_frontSize v.2) (f_backSize v.2) (f_backElem v.2) (f_frontAgg v.2) (f_backAgg v.2) (f_snap v.2) y262 (f_capacity v.2) (f_queries v.2) (f_n v.2)) : QHeap) = (H0 s (s_reg v.2 y262)) := by dsimp only [H0, H0v, f_regTuple, f_regA, f_regB, f_regC, f_regCount, f_slots, f_range, f_slide, f_frontSize, f_backSize, f_backElem, f_frontAgg, f_backAgg, f_snap, f_reg, f_capacity, f_queries, f_n, s_reg]
    rw [E263]
    obtain rfl := Option.some.inj h
    exact QTri.mask [true, false, false, false, true, true, true] (hc ((v.1 + (1 : Int32)), (s_reg v.2 y262)) rfl)
  · refine QTri.brT Ad W (t := 66) (f := 40) (L := [some (.ref 1), none, none, none, vI x4, vI x5, vI v.1]) (S := []) (σ := (H0 s v.2)) rfl (XT.ii_ge_t hc260) ?_
    obtain rfl := Option.some.inj h
    obtain ⟨rfl, rfl⟩ := hx0 v.2 rfl
    exact QTri.ret0 rfl rfl
/-- loadFront(III)V -/
def F33 (o : Ob) (x1 : Int32) (x2 : Int32) (x3 : Int32) : Option (Ob) :=
  (F5 x1).bind fun r255 => (if r255 = (0 : Int32) then some o else (F22 x2 x3).bind fun r257 => (if r257 = (0 : Int32) then some o else (F24 x2 x3).bind fun r259 => (loopN (B33_34 r259 (x1 * (4 : Int32))) qN ((0 : Int32), o)).bind fun e264 => some e264))
theorem tF33 (Ad : QAd n0 ad) (W : QW Z a0) (s : List Int32) (o : Ob) (x1 : Int32) (x2 : Int32) (x3 : Int32) {r : Ob} (h : F33 o x1 x2 x3 = some r) : QTri l Z n0 ad 33 (0, qentry [.ref 1, .int x1, .int x2, .int x3] (pMaxL 33), [], (H0 s o)) (none : Option Value) (H0 s r) := by
  unfold F33 at h
  refine QTri.steps Ad W 2 (st' := (2, [some (.ref 1), vI x1, vI x2, vI x3, none, none, none], [.int x1, .ref 1], (H0 s o))) rfl ?_
  obtain ⟨r255, hr255, h⟩ := Option.bind_eq_some_iff.mp h
  refine QTri.callP W (a := 1) (as := [.int x1]) (rest := []) (w := (some (.int r255))) (σ₁ := (H0 s o)) rfl rfl rfl rfl rfl rfl rfl rfl (tF5 Ad W x1 hr255) ?_
  rcases qite h with ⟨hc256, h⟩ | ⟨hc256, h⟩
  · refine QTri.brT Ad W (t := 17) (f := 8) (L := [some (.ref 1), vI x1, vI x2, vI x3, none, none, none]) (S := []) (σ := (H0 s o)) rfl (XT.i0_eq_t hc256) ?_
    obtain rfl := Option.some.inj h
    exact QTri.ret0 rfl rfl
  · refine QTri.brF Ad W (t := 17) (f := 8) (L := [some (.ref 1), vI x1, vI x2, vI x3, none, none, none]) (S := []) (σ := (H0 s o)) rfl (XT.i0_eq_f hc256) ?_
    refine QTri.steps Ad W 3 (st' := (11, [some (.ref 1), vI x1, vI x2, vI x3, none, none, none], [.int x3, .int x2, .ref 1], (H0 s o))) rfl ?_
    obtain ⟨r257, hr257, h⟩ := Option.bind_eq_some_iff.mp h
    refine QTri.callP W (a := 1) (as := [.int x2, .int x3]) (rest := []) (w := (some (.int r257))) (σ₁ := (H0 s o)) rfl rfl rfl rfl rfl rfl rfl rfl (tF22 Ad W x2 x3 hr257) ?_
    rcases qite h with ⟨hc258, h⟩ | ⟨hc258, h⟩
    · refine QTri.brF Ad W (t := 18) (f := 17) (L := [some (.ref 1), vI x1, vI x2, vI x3, none, none, none]) (S := []) (σ := (H0 s o)) rfl (XT.i0_ne_f hc258) ?_
      obtain rfl := Option.some.inj h
      exact QTri.ret0 rfl rfl
    · refine QTri.brT Ad W (t := 18) (f := 17) (L := [some (.ref 1), vI x1, vI x2, vI x3, none, none, none]) (S := []) (σ := (H0 s o)) rfl (XT.i0_ne_t hc258) ?_
      refine QTri.steps Ad W 3 (st' := (21, [some (.ref 1), vI x1, vI x2, vI x3, none, none, none], [.int x3, .int x2, .ref 1], (H0 s o))) rfl ?_
      obtain ⟨r259, hr259, h⟩ := Option.bind_eq_some_iff.mp h
      refine QTri.callP W (a := 1) (as := [.int x2, .int x3]) (rest := []) (w := (some (.int r259))) (σ₁ := (H0 s o)) rfl rfl rfl rfl rfl rfl rfl rfl (tF24 Ad W x2 x3 hr259) ?_
      refine QTri.steps Ad W 5 (st' := (31, [some (.ref 1), vI x1, vI x2, vI x3, vI r259, vI (x1 * (4 : Int32)), none], [], (H0 s o))) rfl ?_
      refine QTri.steps Ad W 2 (st' := (34, [some (.ref 1), vI x1, vI x2, vI x3, vI r259, vI (x1 * (4 : Int32)), vI (0 : Int32)], [], (H0 s o))) rfl ?_
      obtain ⟨e264, he264, h⟩ := Option.bind_eq_some_iff.mp h
      refine QTri.mask [true, false, false, false, true, true, true] (loopN_tri (B := B33_34 r259 (x1 * (4 : Int32))) (T := fun lv265 => QTri l Z n0 ad 33 (34, [some (.ref 1), none, none, none, vI r259, vI (x1 * (4 : Int32)), vI lv265.1], [], (H0 s lv265.2)) (none : Option Value) (H0 s r)) (KE := fun e264a => (none : Option Value) = (none : Option Value) ∧ (H0 s r) = (H0 s e264a)) (fun lv265 r hB hE hC => tB33_34 Ad W s r259 (x1 * (4 : Int32)) lv265 hB (fun x q => hE _ q) (fun x q => hC x q)) qN ((0 : Int32), o) e264 he264 ?_)
      obtain rfl := Option.some.inj h
      exact ⟨rfl, rfl⟩
def J32_28 (o : Ob) (x1 : Int32) (x2 : Int32) : Option (Ob) :=
  (F25 o (2 : Int32) x1).bind fun r267 => (F26 r267 x2 (1 : Int32) (2 : Int32)).bind fun r268 => some r268
theorem tJ32_28 (Ad : QAd n0 ad) (W : QW Z a0) (s : List Int32) (o : Ob) (x1 : Int32) (x2 : Int32) {r : Ob} (h : J32_28 o x1 x2 = some r) : QTri l Z n0 ad 32 (28, [some (.ref 1), vI x1, vI x2, none], [], (H0 s o)) (none : Option Value) (H0 s r) := by
  unfold J32_28 at h
  refine QTri.steps Ad W 3 (st' := (31, [some (.ref 1), vI x1, vI x2, none], [.int x1, .int (2 : Int32), .ref 1], (H0 s o))) rfl ?_
  obtain ⟨r267, hr267, h⟩ := Option.bind_eq_some_iff.mp h
  refine QTri.callP W (a := 1) (as := [.int (2 : Int32), .int x1]) (rest := []) (w := none) (σ₁ := (H0 s r267)) rfl rfl rfl rfl rfl rfl rfl rfl (tF25 Ad W s o (2 : Int32) x1 hr267) ?_
  refine QTri.steps Ad W 4 (st' := (38, [some (.ref 1), vI x1, vI x2, none], [.int (2 : Int32), .int (1 : Int32), .int x2, .ref 1], (H0 s r267))) rfl ?_
  obtain ⟨r268, hr268, h⟩ := Option.bind_eq_some_iff.mp h
  refine QTri.callP W (a := 1) (as := [.int x2, .int (1 : Int32), .int (2 : Int32)]) (rest := []) (w := none) (σ₁ := (H0 s r268)) rfl rfl rfl rfl rfl rfl rfl rfl (tF26 Ad W s r267 x2 (1 : Int32) (2 : Int32) hr268) ?_
  obtain rfl := Option.some.inj h
  exact QTri.ret0 rfl rfl
/-- liveFold(II)V -/
def F32 (o : Ob) (x1 : Int32) (x2 : Int32) : Option (Ob) :=
  (aget (f_frontSize o) x1).bind fun y253 => (if (0 : Int32) < y253 then (F33 o (1 : Int32) x1 (y253 - (1 : Int32))).bind fun r266 => (J32_28 r266 x1 x2) else (F3 o (1 : Int32)).bind fun r269 => (J32_28 r269 x1 x2))
theorem tF32 (Ad : QAd n0 ad) (W : QW Z a0) (s : List Int32) (o : Ob) (x1 : Int32) (x2 : Int32) {r : Ob} (h : F32 o x1 x2 = some r) : QTri l Z n0 ad 32 (0, qentry [.ref 1, .int x1, .int x2] (pMaxL 32), [], (H0 s o)) (none : Option Value) (H0 s r) := by
  unfold F32 at h
  refine QTri.steps Ad W 3 (st' := (5, [some (.ref 1), vI x1, vI x2, none], [.int x1, .ref 4], (H0 s o))) rfl ?_
  obtain ⟨y253, hy253, h⟩ := Option.bind_eq_some_iff.mp h
  refine QTri.bnd Ad W (f := fun y253 => (6, [some (.ref 1), vI x1, vI x2, none], [.int y253], (H0 s o))) rfl hy253 ?_
  refine QTri.steps Ad W 2 (st' := (8, [some (.ref 1), vI x1, vI x2, vI y253], [.int y253], (H0 s o))) rfl ?_
  rcases qite h with ⟨hc254, h⟩ | ⟨hc254, h⟩
  · refine QTri.brF Ad W (t := 23) (f := 11) (L := [some (.ref 1), vI x1, vI x2, vI y253]) (S := []) (σ := (H0 s o)) rfl (XT.i0_le_f hc254) ?_
    refine QTri.steps Ad W 6 (st' := (17, [some (.ref 1), vI x1, vI x2, vI y253], [.int (y253 - (1 : Int32)), .int x1, .int (1 : Int32), .ref 1], (H0 s o))) rfl ?_
    obtain ⟨r266, hr266, h⟩ := Option.bind_eq_some_iff.mp h
    refine QTri.callP W (a := 1) (as := [.int (1 : Int32), .int x1, .int (y253 - (1 : Int32))]) (rest := []) (w := none) (σ₁ := (H0 s r266)) rfl rfl rfl rfl rfl rfl rfl rfl (tF33 Ad W s o (1 : Int32) x1 (y253 - (1 : Int32)) hr266) ?_
    refine QTri.steps Ad W 1 (st' := (28, [some (.ref 1), vI x1, vI x2, vI y253], [], (H0 s r266))) rfl ?_
    exact QTri.mask [true, true, true, false] (tJ32_28 Ad W s r266 x1 x2 h)
  · refine QTri.brT Ad W (t := 23) (f := 11) (L := [some (.ref 1), vI x1, vI x2, vI y253]) (S := []) (σ := (H0 s o)) rfl (XT.i0_le_t hc254) ?_
    refine QTri.steps Ad W 2 (st' := (25, [some (.ref 1), vI x1, vI x2, vI y253], [.int (1 : Int32), .ref 1], (H0 s o))) rfl ?_
    obtain ⟨r269, hr269, h⟩ := Option.bind_eq_some_iff.mp h
    refine QTri.callP W (a := 1) (as := [.int (1 : Int32)]) (rest := []) (w := none) (σ₁ := (H0 s r269)) rfl rfl rfl rfl rfl rfl rfl rfl (tF3 Ad W s o (1 : Int32) hr269) ?_
    exact QTri.mask [true, true, true, false] (tJ32_28 Ad W s r269 x1 x2 h)
/-- takeSnapshot(I)V -/
def F31 (o : Ob) (x1 : Int32) : Option (Ob) :=
  (F32 o x1 (3 : Int32)).bind fun r270 => (F7 r270 x1 (3 : Int32)).bind fun r271 => some r271
theorem tF31 (Ad : QAd n0 ad) (W : QW Z a0) (s : List Int32) (o : Ob) (x1 : Int32) {r : Ob} (h : F31 o x1 = some r) : QTri l Z n0 ad 31 (0, qentry [.ref 1, .int x1] (pMaxL 31), [], (H0 s o)) (none : Option Value) (H0 s r) := by
  unfold F31 at h
  refine QTri.steps Ad W 3 (st' := (3, [some (.ref 1), vI x1], [.int (3 : Int32), .int x1, .ref 1], (H0 s o))) rfl ?_
  obtain ⟨r270, hr270, h⟩ := Option.bind_eq_some_iff.mp h
  refine QTri.callP W (a := 1) (as := [.int x1, .int (3 : Int32)]) (rest := []) (w := none) (σ₁ := (H0 s r270)) rfl rfl rfl rfl rfl rfl rfl rfl (tF32 Ad W s o x1 (3 : Int32) hr270) ?_
  refine QTri.steps Ad W 3 (st' := (9, [some (.ref 1), vI x1], [.int (3 : Int32), .int x1, .ref 1], (H0 s r270))) rfl ?_
  obtain ⟨r271, hr271, h⟩ := Option.bind_eq_some_iff.mp h
  refine QTri.callP W (a := 1) (as := [.int x1, .int (3 : Int32)]) (rest := []) (w := none) (σ₁ := (H0 s r271)) rfl rfl rfl rfl rfl rfl rfl rfl (tF7 Ad W s r270 x1 (3 : Int32) hr271) ?_
  obtain rfl := Option.some.inj h
  exact QTri.ret0 rfl rfl
def B20_26 (v : Int32 × Int32 × Ob) : Option (((Int32 × Ob)) ⊕ (Int32 × Int32 × Ob)) :=
  (if v.2.1 < (f_queries v.2.2) then (F21 v.2.2 v.2.1).bind fun r248 => (aget (f_slide r248) v.2.1).bind fun y249 => (if y249 < (1 : Int32) then (J20_75 r248 v.1 v.2.1) else (qrem (f_n r248) y249).bind fun y251 => (if y251 = (0 : Int32) then (F31 r248 v.2.1).bind fun r272 => (J20_75 r272 (v.1 + (1 : Int32)) v.2.1) else (J20_75 r248 v.1 v.2.1))) else some (.inl (v.1, v.2.2)))
theorem tB20_26 (Ad : QAd n0 ad) (W : QW Z a0) (s : List Int32) (v : Int32 × Int32 × Ob) {r : ((Int32 × Ob)) ⊕ (Int32 × Int32 × Ob)} {u : Option Value} {τ : QHeap} (h : B20_26 v = some r) (hx0 : ∀ x : Int32 × Ob, r = .inl x → u = (some (Value.int x.1)) ∧ τ = (H0 s x.2)) (hc : ∀ x : Int32 × Int32 × Ob, r = .inr x → QTri l Z n0 ad 20 (26, [some (.ref 1), none, none, none, none, vI x.1, vI x.2.1, none], [], (H0 s x.2.2)) u τ) : QTri l Z n0 ad 20 (26, [some (.ref 1), none, none, none, none, vI v.1, vI v.2.1, none], [], (H0 s v.2.2)) u τ := by
  unfold B20_26 at h
  refine QTri.steps Ad W 3 (st' := (32, [some (.ref 1), none, none, none, none, vI v.1, vI v.2.1, none], [.int (f_queries v.2.2), .int v.2.1], (H0 s v.2.2))) rfl ?_
  rcases qite h with ⟨hc141, h⟩ | ⟨hc141, h⟩
  · refine QTri.brF Ad W (t := 81) (f := 35) (L := [some (.ref 1), none, none, none, none, vI v.1, vI v.2.1, none]) (S := []) (σ := (H0 s v.2.2)) rfl (XT.ii_ge_f hc141) ?_
    refine QTri.steps Ad W 2 (st' := (38, [some (.ref 1), none, none, none, none, vI v.1, vI v.2.1, none], [.int v.2.1, .ref 1], (H0 s v.2.2))) rfl ?_
    obtain ⟨r248, hr248, h⟩ := Option.bind_eq_some_iff.mp h
    refine QTri.callP W (a := 1) (as := [.int v.2.1]) (rest := []) (w := none) (σ₁ := (H0 s r248)) rfl rfl rfl rfl rfl rfl rfl rfl (tF21 Ad W s v.2.2 v.2.1 hr248) ?_
    refine QTri.steps Ad W 3 (st' := (47, [some (.ref 1), none, none, none, none, vI v.1, vI v.2.1, none], [.int v.2.1, .ref 3], (H0 s r248))) rfl ?_
    obtain ⟨y249, hy249, h⟩ := Option.bind_eq_some_iff.mp h
    refine QTri.bnd Ad W (f := fun y249 => (48, [some (.ref 1), none, none, none, none, vI v.1, vI v.2.1, none], [.int y249], (H0 s r248))) rfl hy249 ?_
    refine QTri.steps Ad W 3 (st' := (53, [some (.ref 1), none, none, none, none, vI v.1, vI v.2.1, vI y249], [.int (1 : Int32), .int y249], (H0 s r248))) rfl ?_
    rcases qite h with ⟨hc250, h⟩ | ⟨hc250, h⟩
    · refine QTri.brT Ad W (t := 75) (f := 56) (L := [some (.ref 1), none, none, none, none, vI v.1, vI v.2.1, vI y249]) (S := []) (σ := (H0 s r248)) rfl (XT.ii_lt_t hc250) ?_
      exact QTri.mask [true, false, false, false, false, true, true, false] (tJ20_75 Ad W s r248 v.1 v.2.1 h hx0 hc)
    · refine QTri.brF Ad W (t := 75) (f := 56) (L := [some (.ref 1), none, none, none, none, vI v.1, vI v.2.1, vI y249]) (S := []) (σ := (H0 s r248)) rfl (XT.ii_lt_f hc250) ?_
      refine QTri.steps Ad W 3 (st' := (62, [some (.ref 1), none, none, none, none, vI v.1, vI v.2.1, vI y249], [.int y249, .int (f_n r248)], (H0 s r248))) rfl ?_
      obtain ⟨y251, hy251, h⟩ := Option.bind_eq_some_iff.mp h
      refine QTri.bnd Ad W (f := fun y251 => (63, [some (.ref 1), none, none, none, none, vI v.1, vI v.2.1, vI y249], [.int y251], (H0 s r248))) rfl hy251 ?_
      rcases qite h with ⟨hc252, h⟩ | ⟨hc252, h⟩
      · refine QTri.brF Ad W (t := 75) (f := 66) (L := [some (.ref 1), none, none, none, none, vI v.1, vI v.2.1, vI y249]) (S := []) (σ := (H0 s r248)) rfl (XT.i0_ne_f hc252) ?_
        refine QTri.steps Ad W 2 (st' := (69, [some (.ref 1), none, none, none, none, vI v.1, vI v.2.1, vI y249], [.int v.2.1, .ref 1], (H0 s r248))) rfl ?_
        obtain ⟨r272, hr272, h⟩ := Option.bind_eq_some_iff.mp h
        refine QTri.callP W (a := 1) (as := [.int v.2.1]) (rest := []) (w := none) (σ₁ := (H0 s r272)) rfl rfl rfl rfl rfl rfl rfl rfl (tF31 Ad W s r248 v.2.1 hr272) ?_
        refine QTri.steps Ad W 1 (st' := (75, [some (.ref 1), none, none, none, none, vI (v.1 + (1 : Int32)), vI v.2.1, vI y249], [], (H0 s r272))) rfl ?_
        exact QTri.mask [true, false, false, false, false, true, true, false] (tJ20_75 Ad W s r272 (v.1 + (1 : Int32)) v.2.1 h hx0 hc)
      · refine QTri.brT Ad W (t := 75) (f := 66) (L := [some (.ref 1), none, none, none, none, vI v.1, vI v.2.1, vI y249]) (S := []) (σ := (H0 s r248)) rfl (XT.i0_ne_t hc252) ?_
        exact QTri.mask [true, false, false, false, false, true, true, false] (tJ20_75 Ad W s r248 v.1 v.2.1 h hx0 hc)
  · refine QTri.brT Ad W (t := 81) (f := 35) (L := [some (.ref 1), none, none, none, none, vI v.1, vI v.2.1, none]) (S := []) (σ := (H0 s v.2.2)) rfl (XT.ii_ge_t hc141) ?_
    refine QTri.steps Ad W 1 (st' := (83, [some (.ref 1), none, none, none, none, vI v.1, vI v.2.1, none], [.int v.1], (H0 s v.2.2))) rfl ?_
    obtain rfl := Option.some.inj h
    obtain ⟨rfl, rfl⟩ := hx0 (v.1, v.2.2) rfl
    exact QTri.retI rfl rfl
/-- push(IIII)I -/
def F20 (o : Ob) (x1 : Int32) (x2 : Int32) (x3 : Int32) (x4 : Int32) : Option (Int32 × Ob) :=
  (F4 (s_n o ((f_n o) + (1 : Int32))) (0 : Int32) x1 x2 x3 x4).bind fun r140 => (loopN (B20_26) qN ((0 : Int32), (0 : Int32), r140)).bind fun e273 => some e273
theorem tF20 (Ad : QAd n0 ad) (W : QW Z a0) (s : List Int32) (o : Ob) (x1 : Int32) (x2 : Int32) (x3 : Int32) (x4 : Int32) {r : Int32 × Ob} (h : F20 o x1 x2 x3 x4 = some r) : QTri l Z n0 ad 20 (0, qentry [.ref 1, .int x1, .int x2, .int x3, .int x4] (pMaxL 20), [], (H0 s o)) (some (Value.int r.1)) (H0 s r.2) := by
  unfold F20 at h
  refine QTri.steps Ad W 6 (st' := (10, [some (.ref 1), vI x1, vI x2, vI x3, vI x4, none, none, none], [], (H0v s (f_regTuple o) (f_regA o) (f_regB o) (f_regC o) (f_regCount o) (f_slots o) (f_range o) (f_slide o) (f_frontSize o) (f_backSize o) (f_backElem o) (f_frontAgg o) (f_backAgg o) (f_snap o) (f_reg o) (f_capacity o) (f_queries o) ((f_n o) + (1 : Int32))))) rfl ?_
  refine QTri.steps Ad W 6 (st' := (17, [some (.ref 1), vI x1, vI x2, vI x3, vI x4, none, none, none], [.int x4, .int x3, .int x2, .int x1, .int (0 : Int32), .ref 1], (H0v s (f_regTuple o) (f_regA o) (f_regB o) (f_regC o) (f_regCount o) (f_slots o) (f_range o) (f_slide o) (f_frontSize o) (f_backSize o) (f_backElem o) (f_frontAgg o) (f_backAgg o) (f_snap o) (f_reg o) (f_capacity o) (f_queries o) ((f_n o) + (1 : Int32))))) rfl ?_
  have E139 : ((H0v s (f_regTuple o) (f_regA o) (f_regB o) (f_regC o) (f_regCount o) (f_slots o) (f_range o) (f_slide o) (f_frontSize o) (f_backSize o) (f_backElem o) (f_frontAgg o) (f_backAgg o) (f_snap o) (f_reg o) (f_capacity o) (f_queries o) ((f_n o) + (1 : Int32))) : QHeap) = (H0 s (s_n o ((f_n o) + (1 : Int32)))) := by dsimp only [H0, H0v, f_regTuple, f_regA, f_regB, f_regC, f_regCount, f_slots, f_range, f_slide, f_frontSize, f_backSize, f_backElem, f_frontAgg, f_backAgg, f_snap, f_reg, f_capacity, f_queries, f_n, s_n]
  rw [E139]
  obtain ⟨r140, hr140, h⟩ := Option.bind_eq_some_iff.mp h
  refine QTri.callP W (a := 1) (as := [.int (0 : Int32), .int x1, .int x2, .int x3, .int x4]) (rest := []) (w := none) (σ₁ := (H0 s r140)) rfl rfl rfl rfl rfl rfl rfl rfl (tF4 Ad W s (s_n o ((f_n o) + (1 : Int32))) (0 : Int32) x1 x2 x3 x4 hr140) ?_
  refine QTri.steps Ad W 4 (st' := (26, [some (.ref 1), vI x1, vI x2, vI x3, vI x4, vI (0 : Int32), vI (0 : Int32), none], [], (H0 s r140))) rfl ?_
  obtain ⟨e273, he273, h⟩ := Option.bind_eq_some_iff.mp h
  refine QTri.mask [true, false, false, false, false, true, true, false] (loopN_tri (B := B20_26) (T := fun lv274 => QTri l Z n0 ad 20 (26, [some (.ref 1), none, none, none, none, vI lv274.1, vI lv274.2.1, none], [], (H0 s lv274.2.2)) (some (Value.int r.1)) (H0 s r.2)) (KE := fun e273a => (some (Value.int r.1)) = (some (Value.int e273a.1)) ∧ (H0 s r.2) = (H0 s e273a.2)) (fun lv274 r hB hE hC => tB20_26 Ad W s lv274 hB (fun x q => hE _ q) (fun x q => hC x q)) qN ((0 : Int32), (0 : Int32), r140) e273 he273 ?_)
  obtain rfl := Option.some.inj h
  exact ⟨rfl, rfl⟩
def J0_183 (s : List Int32) (p0 : Ob) (x2 : Int32) (x8 : Int32) (x9 : Int32) (x10 : Int32) (x11 : Int32) (x12 : Int32) : Option (((Int32)) ⊕ (Int32 × Int32)) :=
  some (.inr (x11, (x12 + (1 : Int32))))
theorem tJ0_183 (Ad : QAd n0 ad) (W : QW Z a0) (s : List Int32) (p0 : Ob) (x2 : Int32) (x8 : Int32) (x9 : Int32) (x10 : Int32) (x11 : Int32) (x12 : Int32) {r : ((Int32)) ⊕ (Int32 × Int32)} {u : Option Value} {τ : QHeap} (h : J0_183 s p0 x2 x8 x9 x10 x11 x12 = some r) (hx0 : ∀ x : Int32, r = .inl x → QTri l Z n0 ad 0 (189, [some (.ref 0), some (.ref 1), vI x2, none, none, none, none, none, vI x8, none, none, vI x, none, none], [], (H0 s p0)) u τ) (hc : ∀ x : Int32 × Int32, r = .inr x → QTri l Z n0 ad 0 (146, [some (.ref 0), some (.ref 1), vI x2, none, none, none, none, none, vI x8, vI x9, vI x10, vI x.1, vI x.2, none], [], (H0 s p0)) u τ) : QTri l Z n0 ad 0 (183, [some (.ref 0), some (.ref 1), vI x2, none, none, none, none, none, vI x8, vI x9, vI x10, vI x11, vI x12, none], [], (H0 s p0)) u τ := by
  unfold J0_183 at h
  refine QTri.steps Ad W 2 (st' := (146, [some (.ref 0), some (.ref 1), vI x2, none, none, none, none, none, vI x8, vI x9, vI x10, vI x11, vI (x12 + (1 : Int32)), none], [], (H0 s p0))) rfl ?_
  obtain rfl := Option.some.inj h
  exact QTri.mask [true, true, true, false, false, false, false, false, true, true, true, true, true, false] (hc (x11, (x12 + (1 : Int32))) rfl)
def B0_146 (s : List Int32) (p0 : Ob) (x2 : Int32) (x8 : Int32) (x9 : Int32) (x10 : Int32) (v : Int32 × Int32) : Option (((Int32)) ⊕ (Int32 × Int32)) :=
  (if v.2 < (4 : Int32) then (if v.2 < x10 then (F13 p0 v.2).bind fun r280 => (if (0 : Int32) < r280 then (qrem x9 r280).bind fun y282 => (J0_183 s p0 x2 x8 x9 x10 (if y282 = (0 : Int32) then (v.1 + (1 : Int32)) else v.1) v.2) else (J0_183 s p0 x2 x8 x9 x10 v.1 v.2)) else (J0_183 s p0 x2 x8 x9 x10 v.1 v.2)) else some (.inl v.1))
theorem tB0_146 (Ad : QAd n0 ad) (W : QW Z a0) (s : List Int32) (p0 : Ob) (x2 : Int32) (x8 : Int32) (x9 : Int32) (x10 : Int32) (v : Int32 × Int32) {r : ((Int32)) ⊕ (Int32 × Int32)} {u : Option Value} {τ : QHeap} (h : B0_146 s p0 x2 x8 x9 x10 v = some r) (hx0 : ∀ x : Int32, r = .inl x → QTri l Z n0 ad 0 (189, [some (.ref 0), some (.ref 1), vI x2, none, none, none, none, none, vI x8, none, none, vI x, none, none], [], (H0 s p0)) u τ) (hc : ∀ x : Int32 × Int32, r = .inr x → QTri l Z n0 ad 0 (146, [some (.ref 0), some (.ref 1), vI x2, none, none, none, none, none, vI x8, vI x9, vI x10, vI x.1, vI x.2, none], [], (H0 s p0)) u τ) : QTri l Z n0 ad 0 (146, [some (.ref 0), some (.ref 1), vI x2, none, none, none, none, none, vI x8, vI x9, vI x10, vI v.1, vI v.2, none], [], (H0 s p0)) u τ := by
  unfold B0_146 at h
  refine QTri.steps Ad W 2 (st' := (149, [some (.ref 0), some (.ref 1), vI x2, none, none, none, none, none, vI x8, vI x9, vI x10, vI v.1, vI v.2, none], [.int (4 : Int32), .int v.2], (H0 s p0))) rfl ?_
  rcases qite h with ⟨hc278, h⟩ | ⟨hc278, h⟩
  · refine QTri.brF Ad W (t := 189) (f := 152) (L := [some (.ref 0), some (.ref 1), vI x2, none, none, none, none, none, vI x8, vI x9, vI x10, vI v.1, vI v.2, none]) (S := []) (σ := (H0 s p0)) rfl (XT.ii_ge_f hc278) ?_
    refine QTri.steps Ad W 2 (st' := (156, [some (.ref 0), some (.ref 1), vI x2, none, none, none, none, none, vI x8, vI x9, vI x10, vI v.1, vI v.2, none], [.int x10, .int v.2], (H0 s p0))) rfl ?_
    rcases qite h with ⟨hc279, h⟩ | ⟨hc279, h⟩
    · refine QTri.brF Ad W (t := 183) (f := 159) (L := [some (.ref 0), some (.ref 1), vI x2, none, none, none, none, none, vI x8, vI x9, vI x10, vI v.1, vI v.2, none]) (S := []) (σ := (H0 s p0)) rfl (XT.ii_ge_f hc279) ?_
      refine QTri.steps Ad W 2 (st' := (162, [some (.ref 0), some (.ref 1), vI x2, none, none, none, none, none, vI x8, vI x9, vI x10, vI v.1, vI v.2, none], [.int v.2, .ref 1], (H0 s p0))) rfl ?_
      obtain ⟨r280, hr280, h⟩ := Option.bind_eq_some_iff.mp h
      refine QTri.callV W (a := 1) (as := [.int v.2]) (rest := []) (w := (some (.int r280))) (σ₁ := (H0 s p0)) rfl rfl rfl rfl rfl rfl rfl rfl (tF13 Ad W s p0 v.2 hr280) ?_
      refine QTri.steps Ad W 2 (st' := (169, [some (.ref 0), some (.ref 1), vI x2, none, none, none, none, none, vI x8, vI x9, vI x10, vI v.1, vI v.2, vI r280], [.int r280], (H0 s p0))) rfl ?_
      rcases qite h with ⟨hc281, h⟩ | ⟨hc281, h⟩
      · refine QTri.brF Ad W (t := 183) (f := 172) (L := [some (.ref 0), some (.ref 1), vI x2, none, none, none, none, none, vI x8, vI x9, vI x10, vI v.1, vI v.2, vI r280]) (S := []) (σ := (H0 s p0)) rfl (XT.i0_le_f hc281) ?_
        refine QTri.steps Ad W 2 (st' := (176, [some (.ref 0), some (.ref 1), vI x2, none, none, none, none, none, vI x8, vI x9, vI x10, vI v.1, vI v.2, vI r280], [.int r280, .int x9], (H0 s p0))) rfl ?_
        obtain ⟨y282, hy282, h⟩ := Option.bind_eq_some_iff.mp h
        refine QTri.bnd Ad W (f := fun y282 => (177, [some (.ref 0), some (.ref 1), vI x2, none, none, none, none, none, vI x8, vI x9, vI x10, vI v.1, vI v.2, vI r280], [.int y282], (H0 s p0))) rfl hy282 ?_
        have K284 : ∀ z283 : Int32, z283 = (if y282 = (0 : Int32) then (v.1 + (1 : Int32)) else v.1) → QTri l Z n0 ad 0 (183, [some (.ref 0), some (.ref 1), vI x2, none, none, none, none, none, vI x8, vI x9, vI x10, vI z283, vI v.2, none], [], (H0 s p0)) u τ := by
          intro z283 ez283
          subst ez283
          exact QTri.mask [true, true, true, false, false, false, false, false, true, true, true, true, true, false] (tJ0_183 Ad W s p0 x2 x8 x9 x10 (if y282 = (0 : Int32) then (v.1 + (1 : Int32)) else v.1) v.2 h hx0 hc)
        rcases Classical.em (y282 = (0 : Int32)) with hc285 | hc285
        · refine QTri.brF Ad W (t := 183) (f := 180) (L := [some (.ref 0), some (.ref 1), vI x2, none, none, none, none, none, vI x8, vI x9, vI x10, vI v.1, vI v.2, vI r280]) (S := []) (σ := (H0 s p0)) rfl (XT.i0_ne_f hc285) ?_
          refine QTri.steps Ad W 1 (st' := (183, [some (.ref 0), some (.ref 1), vI x2, none, none, none, none, none, vI x8, vI x9, vI x10, vI (v.1 + (1 : Int32)), vI v.2, vI r280], [], (H0 s p0))) rfl ?_
          exact QTri.mask [true, true, true, false, false, false, false, false, true, true, true, true, true, false] (K284 _ (if_pos hc285).symm)
        · refine QTri.brT Ad W (t := 183) (f := 180) (L := [some (.ref 0), some (.ref 1), vI x2, none, none, none, none, none, vI x8, vI x9, vI x10, vI v.1, vI v.2, vI r280]) (S := []) (σ := (H0 s p0)) rfl (XT.i0_ne_t hc285) ?_
          exact QTri.mask [true, true, true, false, false, false, false, false, true, true, true, true, true, false] (K284 _ (if_neg hc285).symm)
      · refine QTri.brT Ad W (t := 183) (f := 172) (L := [some (.ref 0), some (.ref 1), vI x2, none, none, none, none, none, vI x8, vI x9, vI x10, vI v.1, vI v.2, vI r280]) (S := []) (σ := (H0 s p0)) rfl (XT.i0_le_t hc281) ?_
        exact QTri.mask [true, true, true, false, false, false, false, false, true, true, true, true, true, false] (tJ0_183 Ad W s p0 x2 x8 x9 x10 v.1 v.2 h hx0 hc)
    · refine QTri.brT Ad W (t := 183) (f := 159) (L := [some (.ref 0), some (.ref 1), vI x2, none, none, none, none, none, vI x8, vI x9, vI x10, vI v.1, vI v.2, none]) (S := []) (σ := (H0 s p0)) rfl (XT.ii_ge_t hc279) ?_
      exact QTri.mask [true, true, true, false, false, false, false, false, true, true, true, true, true, false] (tJ0_183 Ad W s p0 x2 x8 x9 x10 v.1 v.2 h hx0 hc)
  · refine QTri.brT Ad W (t := 189) (f := 152) (L := [some (.ref 0), some (.ref 1), vI x2, none, none, none, none, none, vI x8, vI x9, vI x10, vI v.1, vI v.2, none]) (S := []) (σ := (H0 s p0)) rfl (XT.ii_ge_t hc278) ?_
    obtain rfl := Option.some.inj h
    exact QTri.mask [true, true, true, false, false, false, false, false, true, false, false, true, false, false] (hx0 v.1 rfl)
def B0_20 (s : List Int32) (v : Int32 × Ob) : Option (((Int32 × QHeap)) ⊕ (Int32 × Ob)) :=
  (if (s.length.toInt32) < (v.1 + (5 : Int32)) then some (.inl ((1 : Int32), (H0 s v.2))) else (aget s v.1).bind fun y109 => (aget s (v.1 + (1 : Int32))).bind fun y110 => (aget s (v.1 + (2 : Int32))).bind fun y111 => (aget s (v.1 + (3 : Int32))).bind fun y112 => (aget s (v.1 + (4 : Int32))).bind fun y113 => (if (y109 &&& (3 : Int32)) = (0 : Int32) then (F18 v.2 y110 y111).bind fun r126 => (F9 r126.2).bind fun r127 => (if r126.1 = (-1 : Int32) then (J0_99 s r126.2 v.1) else (if r126.1 = (r127 - (1 : Int32)) then (J0_99 s r126.2 v.1) else some (.inl ((0 : Int32), (H0 s r126.2))))) else (if (y109 &&& (3 : Int32)) = (3 : Int32) then (F17 v.2).bind fun r138 => (J0_198 s r138 v.1) else (F20 v.2 y110 y111 y112 y113).bind fun r275 => (F10 r275.2).bind fun r276 => (F9 r275.2).bind fun r277 => (loopN (B0_146 s r275.2 v.1 r275.1 r276 r277) qN ((0 : Int32), (0 : Int32))).bind fun e286 => (if r275.1 = e286 then (J0_198 s r275.2 v.1) else some (.inl ((0 : Int32), (H0 s r275.2)))))))
theorem tB0_20 (Ad : QAd n0 ad) (W : QW Z a0) (s : List Int32) (v : Int32 × Ob) {r : ((Int32 × QHeap)) ⊕ (Int32 × Ob)} {u : Option Value} {τ : QHeap} (h : B0_20 s v = some r) (hx0 : ∀ x : Int32 × QHeap, r = .inl x → u = (some (Value.int x.1)) ∧ τ = x.2) (hc : ∀ x : Int32 × Ob, r = .inr x → QTri l Z n0 ad 0 (20, [some (.ref 0), some (.ref 1), vI x.1, none, none, none, none, none, none, none, none, none, none, none], [], (H0 s x.2)) u τ) : QTri l Z n0 ad 0 (20, [some (.ref 0), some (.ref 1), vI v.1, none, none, none, none, none, none, none, none, none, none, none], [], (H0 s v.2)) u τ := by
  unfold B0_20 at h
  refine QTri.steps Ad W 5 (st' := (25, [some (.ref 0), some (.ref 1), vI v.1, none, none, none, none, none, none, none, none, none, none, none], [.int (s.length.toInt32), .int (v.1 + (5 : Int32))], (H0 s v.2))) rfl ?_
  rcases qite h with ⟨hc108, h⟩ | ⟨hc108, h⟩
  · refine QTri.brT Ad W (t := 213) (f := 28) (L := [some (.ref 0), some (.ref 1), vI v.1, none, none, none, none, none, none, none, none, none, none, none]) (S := []) (σ := (H0 s v.2)) rfl (XT.ii_gt_t hc108) ?_
    refine QTri.steps Ad W 1 (st' := (214, [some (.ref 0), some (.ref 1), vI v.1, none, none, none, none, none, none, none, none, none, none, none], [.int (1 : Int32)], (H0 s v.2))) rfl ?_
    obtain rfl := Option.some.inj h
    obtain ⟨rfl, rfl⟩ := hx0 ((1 : Int32), (H0 s v.2)) rfl
    exact QTri.retZ rfl rfl
  · refine QTri.brF Ad W (t := 213) (f := 28) (L := [some (.ref 0), some (.ref 1), vI v.1, none, none, none, none, none, none, none, none, none, none, none]) (S := []) (σ := (H0 s v.2)) rfl (XT.ii_gt_f hc108) ?_
    refine QTri.steps Ad W 2 (st' := (30, [some (.ref 0), some (.ref 1), vI v.1, none, none, none, none, none, none, none, none, none, none, none], [.int v.1, .ref 0], (H0 s v.2))) rfl ?_
    obtain ⟨y109, hy109, h⟩ := Option.bind_eq_some_iff.mp h
    refine QTri.bnd Ad W (f := fun y109 => (31, [some (.ref 0), some (.ref 1), vI v.1, none, none, none, none, none, none, none, none, none, none, none], [.int y109], (H0 s v.2))) rfl hy109 ?_
    refine QTri.steps Ad W 7 (st' := (38, [some (.ref 0), some (.ref 1), vI v.1, vI (y109 &&& (3 : Int32)), none, none, none, none, none, none, none, none, none, none], [.int (v.1 + (1 : Int32)), .ref 0], (H0 s v.2))) rfl ?_
    obtain ⟨y110, hy110, h⟩ := Option.bind_eq_some_iff.mp h
    refine QTri.bnd Ad W (f := fun y110 => (39, [some (.ref 0), some (.ref 1), vI v.1, vI (y109 &&& (3 : Int32)), none, none, none, none, none, none, none, none, none, none], [.int y110], (H0 s v.2))) rfl hy110 ?_
    refine QTri.steps Ad W 5 (st' := (45, [some (.ref 0), some (.ref 1), vI v.1, vI (y109 &&& (3 : Int32)), vI y110, none, none, none, none, none, none, none, none, none], [.int (v.1 + (2 : Int32)), .ref 0], (H0 s v.2))) rfl ?_
    obtain ⟨y111, hy111, h⟩ := Option.bind_eq_some_iff.mp h
    refine QTri.bnd Ad W (f := fun y111 => (46, [some (.ref 0), some (.ref 1), vI v.1, vI (y109 &&& (3 : Int32)), vI y110, none, none, none, none, none, none, none, none, none], [.int y111], (H0 s v.2))) rfl hy111 ?_
    refine QTri.steps Ad W 5 (st' := (52, [some (.ref 0), some (.ref 1), vI v.1, vI (y109 &&& (3 : Int32)), vI y110, vI y111, none, none, none, none, none, none, none, none], [.int (v.1 + (3 : Int32)), .ref 0], (H0 s v.2))) rfl ?_
    obtain ⟨y112, hy112, h⟩ := Option.bind_eq_some_iff.mp h
    refine QTri.bnd Ad W (f := fun y112 => (53, [some (.ref 0), some (.ref 1), vI v.1, vI (y109 &&& (3 : Int32)), vI y110, vI y111, none, none, none, none, none, none, none, none], [.int y112], (H0 s v.2))) rfl hy112 ?_
    refine QTri.steps Ad W 5 (st' := (59, [some (.ref 0), some (.ref 1), vI v.1, vI (y109 &&& (3 : Int32)), vI y110, vI y111, vI y112, none, none, none, none, none, none, none], [.int (v.1 + (4 : Int32)), .ref 0], (H0 s v.2))) rfl ?_
    obtain ⟨y113, hy113, h⟩ := Option.bind_eq_some_iff.mp h
    refine QTri.bnd Ad W (f := fun y113 => (60, [some (.ref 0), some (.ref 1), vI v.1, vI (y109 &&& (3 : Int32)), vI y110, vI y111, vI y112, none, none, none, none, none, none, none], [.int y113], (H0 s v.2))) rfl hy113 ?_
    refine QTri.steps Ad W 2 (st' := (63, [some (.ref 0), some (.ref 1), vI v.1, vI (y109 &&& (3 : Int32)), vI y110, vI y111, vI y112, vI y113, none, none, none, none, none, none], [.int (y109 &&& (3 : Int32))], (H0 s v.2))) rfl ?_
    rcases qite h with ⟨hc114, h⟩ | ⟨hc114, h⟩
    · refine QTri.brF Ad W (t := 102) (f := 66) (L := [some (.ref 0), some (.ref 1), vI v.1, vI (y109 &&& (3 : Int32)), vI y110, vI y111, vI y112, vI y113, none, none, none, none, none, none]) (S := []) (σ := (H0 s v.2)) rfl (XT.i0_ne_f hc114) ?_
      refine QTri.steps Ad W 3 (st' := (71, [some (.ref 0), some (.ref 1), vI v.1, vI (y109 &&& (3 : Int32)), vI y110, vI y111, vI y112, vI y113, none, none, none, none, none, none], [.int y111, .int y110, .ref 1], (H0 s v.2))) rfl ?_
      obtain ⟨r126, hr126, h⟩ := Option.bind_eq_some_iff.mp h
      refine QTri.callV W (a := 1) (as := [.int y110, .int y111]) (rest := []) (w := (some (.int r126.1))) (σ₁ := (H0 s r126.2)) rfl rfl rfl rfl rfl rfl rfl rfl (tF18 Ad W s v.2 y110 y111 hr126) ?_
      refine QTri.steps Ad W 2 (st' := (77, [some (.ref 0), some (.ref 1), vI v.1, vI (y109 &&& (3 : Int32)), vI y110, vI y111, vI y112, vI y113, vI r126.1, none, none, none, none, none], [.ref 1], (H0 s r126.2))) rfl ?_
      obtain ⟨r127, hr127, h⟩ := Option.bind_eq_some_iff.mp h
      refine QTri.callV W (a := 1) (as := []) (rest := []) (w := (some (.int r127))) (σ₁ := (H0 s r126.2)) rfl rfl rfl rfl rfl rfl rfl rfl (tF9 Ad W s r126.2 hr127) ?_
      refine QTri.steps Ad W 3 (st' := (85, [some (.ref 0), some (.ref 1), vI v.1, vI (y109 &&& (3 : Int32)), vI y110, vI y111, vI y112, vI y113, vI r126.1, vI r127, none, none, none, none], [.int (-1 : Int32), .int r126.1], (H0 s r126.2))) rfl ?_
      rcases qite h with ⟨hc128, h⟩ | ⟨hc128, h⟩
      · refine QTri.brT Ad W (t := 99) (f := 88) (L := [some (.ref 0), some (.ref 1), vI v.1, vI (y109 &&& (3 : Int32)), vI y110, vI y111, vI y112, vI y113, vI r126.1, vI r127, none, none, none, none]) (S := []) (σ := (H0 s r126.2)) rfl (XT.ii_eq_t hc128) ?_
        exact QTri.mask [true, true, true, false, false, false, false, false, false, false, false, false, false, false] (tJ0_99 Ad W s r126.2 v.1 h hx0 hc)
      · refine QTri.brF Ad W (t := 99) (f := 88) (L := [some (.ref 0), some (.ref 1), vI v.1, vI (y109 &&& (3 : Int32)), vI y110, vI y111, vI y112, vI y113, vI r126.1, vI r127, none, none, none, none]) (S := []) (σ := (H0 s r126.2)) rfl (XT.ii_eq_f hc128) ?_
        refine QTri.steps Ad W 4 (st' := (94, [some (.ref 0), some (.ref 1), vI v.1, vI (y109 &&& (3 : Int32)), vI y110, vI y111, vI y112, vI y113, vI r126.1, vI r127, none, none, none, none], [.int (r127 - (1 : Int32)), .int r126.1], (H0 s r126.2))) rfl ?_
        rcases qite h with ⟨hc131, h⟩ | ⟨hc131, h⟩
        · refine QTri.brT Ad W (t := 99) (f := 97) (L := [some (.ref 0), some (.ref 1), vI v.1, vI (y109 &&& (3 : Int32)), vI y110, vI y111, vI y112, vI y113, vI r126.1, vI r127, none, none, none, none]) (S := []) (σ := (H0 s r126.2)) rfl (XT.ii_eq_t hc131) ?_
          exact QTri.mask [true, true, true, false, false, false, false, false, false, false, false, false, false, false] (tJ0_99 Ad W s r126.2 v.1 h hx0 hc)
        · refine QTri.brF Ad W (t := 99) (f := 97) (L := [some (.ref 0), some (.ref 1), vI v.1, vI (y109 &&& (3 : Int32)), vI y110, vI y111, vI y112, vI y113, vI r126.1, vI r127, none, none, none, none]) (S := []) (σ := (H0 s r126.2)) rfl (XT.ii_eq_f hc131) ?_
          refine QTri.steps Ad W 1 (st' := (98, [some (.ref 0), some (.ref 1), vI v.1, vI (y109 &&& (3 : Int32)), vI y110, vI y111, vI y112, vI y113, vI r126.1, vI r127, none, none, none, none], [.int (0 : Int32)], (H0 s r126.2))) rfl ?_
          obtain rfl := Option.some.inj h
          obtain ⟨rfl, rfl⟩ := hx0 ((0 : Int32), (H0 s r126.2)) rfl
          exact QTri.retZ rfl rfl
    · refine QTri.brT Ad W (t := 102) (f := 66) (L := [some (.ref 0), some (.ref 1), vI v.1, vI (y109 &&& (3 : Int32)), vI y110, vI y111, vI y112, vI y113, none, none, none, none, none, none]) (S := []) (σ := (H0 s v.2)) rfl (XT.i0_ne_t hc114) ?_
      refine QTri.steps Ad W 2 (st' := (104, [some (.ref 0), some (.ref 1), vI v.1, vI (y109 &&& (3 : Int32)), vI y110, vI y111, vI y112, vI y113, none, none, none, none, none, none], [.int (3 : Int32), .int (y109 &&& (3 : Int32))], (H0 s v.2))) rfl ?_
      rcases qite h with ⟨hc132, h⟩ | ⟨hc132, h⟩
      · refine QTri.brF Ad W (t := 114) (f := 107) (L := [some (.ref 0), some (.ref 1), vI v.1, vI (y109 &&& (3 : Int32)), vI y110, vI y111, vI y112, vI y113, none, none, none, none, none, none]) (S := []) (σ := (H0 s v.2)) rfl (XT.ii_ne_f hc132) ?_
        refine QTri.steps Ad W 1 (st' := (108, [some (.ref 0), some (.ref 1), vI v.1, vI (y109 &&& (3 : Int32)), vI y110, vI y111, vI y112, vI y113, none, none, none, none, none, none], [.ref 1], (H0 s v.2))) rfl ?_
        obtain ⟨r138, hr138, h⟩ := Option.bind_eq_some_iff.mp h
        refine QTri.callV W (a := 1) (as := []) (rest := []) (w := none) (σ₁ := (H0 s r138)) rfl rfl rfl rfl rfl rfl rfl rfl (tF17 Ad W s v.2 hr138) ?_
        refine QTri.steps Ad W 1 (st' := (198, [some (.ref 0), some (.ref 1), vI v.1, vI (y109 &&& (3 : Int32)), vI y110, vI y111, vI y112, vI y113, none, none, none, none, none, none], [], (H0 s r138))) rfl ?_
        exact QTri.mask [true, true, true, false, false, false, false, false, false, false, false, false, false, false] (tJ0_198 Ad W s r138 v.1 h hx0 hc)
      · refine QTri.brT Ad W (t := 114) (f := 107) (L := [some (.ref 0), some (.ref 1), vI v.1, vI (y109 &&& (3 : Int32)), vI y110, vI y111, vI y112, vI y113, none, none, none, none, none, none]) (S := []) (σ := (H0 s v.2)) rfl (XT.ii_ne_t hc132) ?_
        refine QTri.steps Ad W 5 (st' := (123, [some (.ref 0), some (.ref 1), vI v.1, vI (y109 &&& (3 : Int32)), vI y110, vI y111, vI y112, vI y113, none, none, none, none, none, none], [.int y113, .int y112, .int y111, .int y110, .ref 1], (H0 s v.2))) rfl ?_
        obtain ⟨r275, hr275, h⟩ := Option.bind_eq_some_iff.mp h
        refine QTri.callV W (a := 1) (as := [.int y110, .int y111, .int y112, .int y113]) (rest := []) (w := (some (.int r275.1))) (σ₁ := (H0 s r275.2)) rfl rfl rfl rfl rfl rfl rfl rfl (tF20 Ad W s v.2 y110 y111 y112 y113 hr275) ?_
        refine QTri.steps Ad W 2 (st' := (129, [some (.ref 0), some (.ref 1), vI v.1, vI (y109 &&& (3 : Int32)), vI y110, vI y111, vI y112, vI y113, vI r275.1, none, none, none, none, none], [.ref 1], (H0 s r275.2))) rfl ?_
        obtain ⟨r276, hr276, h⟩ := Option.bind_eq_some_iff.mp h
        refine QTri.callV W (a := 1) (as := []) (rest := []) (w := (some (.int r276))) (σ₁ := (H0 s r275.2)) rfl rfl rfl rfl rfl rfl rfl rfl (tF10 Ad W s r275.2 hr276) ?_
        refine QTri.steps Ad W 2 (st' := (135, [some (.ref 0), some (.ref 1), vI v.1, vI (y109 &&& (3 : Int32)), vI y110, vI y111, vI y112, vI y113, vI r275.1, vI r276, none, none, none, none], [.ref 1], (H0 s r275.2))) rfl ?_
        obtain ⟨r277, hr277, h⟩ := Option.bind_eq_some_iff.mp h
        refine QTri.callV W (a := 1) (as := []) (rest := []) (w := (some (.int r277))) (σ₁ := (H0 s r275.2)) rfl rfl rfl rfl rfl rfl rfl rfl (tF9 Ad W s r275.2 hr277) ?_
        refine QTri.steps Ad W 3 (st' := (143, [some (.ref 0), some (.ref 1), vI v.1, vI (y109 &&& (3 : Int32)), vI y110, vI y111, vI y112, vI y113, vI r275.1, vI r276, vI r277, vI (0 : Int32), none, none], [], (H0 s r275.2))) rfl ?_
        refine QTri.steps Ad W 2 (st' := (146, [some (.ref 0), some (.ref 1), vI v.1, vI (y109 &&& (3 : Int32)), vI y110, vI y111, vI y112, vI y113, vI r275.1, vI r276, vI r277, vI (0 : Int32), vI (0 : Int32), none], [], (H0 s r275.2))) rfl ?_
        obtain ⟨e286, he286, h⟩ := Option.bind_eq_some_iff.mp h
        refine QTri.mask [true, true, true, false, false, false, false, false, true, true, true, true, true, false] (loopN_tri (B := B0_146 s r275.2 v.1 r275.1 r276 r277) (T := fun lv287 => QTri l Z n0 ad 0 (146, [some (.ref 0), some (.ref 1), vI v.1, none, none, none, none, none, vI r275.1, vI r276, vI r277, vI lv287.1, vI lv287.2, none], [], (H0 s r275.2)) u τ) (KE := fun e286a => QTri l Z n0 ad 0 (189, [some (.ref 0), some (.ref 1), vI v.1, none, none, none, none, none, vI r275.1, none, none, vI e286a, none, none], [], (H0 s r275.2)) u τ) (fun lv287 r hB hE hC => tB0_146 Ad W s r275.2 v.1 r275.1 r276 r277 lv287 hB (fun x q => hE _ q) (fun x q => hC x q)) qN ((0 : Int32), (0 : Int32)) e286 he286 ?_)
        refine QTri.steps Ad W 2 (st' := (193, [some (.ref 0), some (.ref 1), vI v.1, none, none, none, none, none, vI r275.1, none, none, vI e286, none, none], [.int e286, .int r275.1], (H0 s r275.2))) rfl ?_
        rcases qite h with ⟨hc288, h⟩ | ⟨hc288, h⟩
        · refine QTri.brT Ad W (t := 198) (f := 196) (L := [some (.ref 0), some (.ref 1), vI v.1, none, none, none, none, none, vI r275.1, none, none, vI e286, none, none]) (S := []) (σ := (H0 s r275.2)) rfl (XT.ii_eq_t hc288) ?_
          exact QTri.mask [true, true, true, false, false, false, false, false, false, false, false, false, false, false] (tJ0_198 Ad W s r275.2 v.1 h hx0 hc)
        · refine QTri.brF Ad W (t := 198) (f := 196) (L := [some (.ref 0), some (.ref 1), vI v.1, none, none, none, none, none, vI r275.1, none, none, vI e286, none, none]) (S := []) (σ := (H0 s r275.2)) rfl (XT.ii_eq_f hc288) ?_
          refine QTri.steps Ad W 1 (st' := (197, [some (.ref 0), some (.ref 1), vI v.1, none, none, none, none, none, vI r275.1, none, none, vI e286, none, none], [.int (0 : Int32)], (H0 s r275.2))) rfl ?_
          obtain rfl := Option.some.inj h
          obtain ⟨rfl, rfl⟩ := hx0 ((0 : Int32), (H0 s r275.2)) rfl
          exact QTri.retZ rfl rfl
/-- the law -/
def F0 (s : List Int32) : Option (Int32 × QHeap) :=
  (F1 (4 : Int32)).bind fun r50 => (F8 r50).bind fun r106 => (if r106 = (0 : Int32) then some ((0 : Int32), (H0 s r50)) else (loopN (B0_20 s) qN ((0 : Int32), r50)).bind fun e289 => some e289)
theorem tF0 (Ad : QAd n0 ad) (W : QW Z a0) (s : List Int32) {r : Int32 × QHeap} (h : F0 s = some r) : QTri l Z n0 ad 0 (0, qentry [.ref 0] (pMaxL 0), [], [.inr (.inl (.int, s))]) (some (Value.int r.1)) r.2 := by
  unfold F0 at h
  refine QTri.steps Ad W 1 (st' := (3, [some (.ref 0), none, none, none, none, none, none, none, none, none, none, none, none, none], [.ref 1], [.inr (.inl (.int, s)), .inl [.int (f_regTuple ob0), .int (f_regA ob0), .int (f_regB ob0), .int (f_regC ob0), .int (f_regCount ob0), .int (f_slots ob0), .null, .null, .null, .null, .null, .null, .null, .null, .null, .int (f_capacity ob0), .int (f_queries ob0), .int (f_n ob0)]])) rfl ?_
  refine QTri.steps Ad W 2 (st' := (5, [some (.ref 0), none, none, none, none, none, none, none, none, none, none, none, none, none], [.int (4 : Int32), .ref 1, .ref 1], [.inr (.inl (.int, s)), .inl [.int (f_regTuple ob0), .int (f_regA ob0), .int (f_regB ob0), .int (f_regC ob0), .int (f_regCount ob0), .int (f_slots ob0), .null, .null, .null, .null, .null, .null, .null, .null, .null, .int (f_capacity ob0), .int (f_queries ob0), .int (f_n ob0)]])) rfl ?_
  obtain ⟨r50, hr50, h⟩ := Option.bind_eq_some_iff.mp h
  refine QTri.callI W (a := 1) (as := [.int (4 : Int32)]) (rest := [.ref 1]) (σ₁ := (H0 s r50)) rfl rfl rfl rfl rfl rfl (tF1 Ad W s (4 : Int32) hr50) ?_
  refine QTri.steps Ad W 2 (st' := (10, [some (.ref 0), some (.ref 1), none, none, none, none, none, none, none, none, none, none, none, none], [.ref 1], (H0 s r50))) rfl ?_
  obtain ⟨r106, hr106, h⟩ := Option.bind_eq_some_iff.mp h
  refine QTri.callS W (as := [.ref 1]) (rest := []) (w := (some (.int r106))) (σ₁ := (H0 s r50)) rfl rfl rfl rfl rfl rfl rfl (tF8 Ad W s r50 hr106) ?_
  rcases qite h with ⟨hc107, h⟩ | ⟨hc107, h⟩
  · refine QTri.brF Ad W (t := 18) (f := 16) (L := [some (.ref 0), some (.ref 1), none, none, none, none, none, none, none, none, none, none, none, none]) (S := []) (σ := (H0 s r50)) rfl (XT.i0_ne_f hc107) ?_
    refine QTri.steps Ad W 1 (st' := (17, [some (.ref 0), some (.ref 1), none, none, none, none, none, none, none, none, none, none, none, none], [.int (0 : Int32)], (H0 s r50))) rfl ?_
    obtain rfl := Option.some.inj h
    exact QTri.retZ rfl rfl
  · refine QTri.brT Ad W (t := 18) (f := 16) (L := [some (.ref 0), some (.ref 1), none, none, none, none, none, none, none, none, none, none, none, none]) (S := []) (σ := (H0 s r50)) rfl (XT.i0_ne_t hc107) ?_
    refine QTri.steps Ad W 2 (st' := (20, [some (.ref 0), some (.ref 1), vI (0 : Int32), none, none, none, none, none, none, none, none, none, none, none], [], (H0 s r50))) rfl ?_
    obtain ⟨e289, he289, h⟩ := Option.bind_eq_some_iff.mp h
    refine QTri.mask [true, true, true, false, false, false, false, false, false, false, false, false, false, false] (loopN_tri (B := B0_20 s) (T := fun lv290 => QTri l Z n0 ad 0 (20, [some (.ref 0), some (.ref 1), vI lv290.1, none, none, none, none, none, none, none, none, none, none, none], [], (H0 s lv290.2)) (some (Value.int r.1)) r.2) (KE := fun e289a => (some (Value.int r.1)) = (some (Value.int e289a.1)) ∧ r.2 = e289a.2) (fun lv290 r hB hE hC => tB0_20 Ad W s lv290 hB (fun x q => hE _ q) (fun x q => hC x q)) qN ((0 : Int32), r50) e289 he289 ?_)
    obtain rfl := Option.some.inj h
    exact ⟨rfl, rfl⟩
end Walks
theorem script_ok {s : State} {w : Value} (hfit : Fit s) (h1 : (Jvm.Cond.arrayOf (Jvm.Term.arg 0) Jvm.ClassFile.FieldType.int).value #[w] s none s [] = some true) (h2 : (Jvm.Cond.le (Jvm.Term.length (Jvm.Term.arg 0)) (Jvm.Term.int 260)).value #[w] s none s [] = some true) :
    ∃ (a : Addr) (c : Cell) (xs : List Int32), w = .ref a ∧ Arr s s.heap a c .int ∧ c.slots = (xs.map Value.int).toArray ∧ xs.length ≤ 260 := by
  obtain ⟨a, ha⟩ := arr_v h1
  obtain ⟨c, A⟩ := Arr.start ha h1
  have hw : w = .ref a := by simpa [Term.eval] using ha
  subst hw
  have hel : ∀ i, i < c.slots.size → ∃ x, c.slots[i]? = some (.int x) := fun i hi => by
    have q := hfit A.1 hi
    obtain ⟨hs, k, hk, comp, hkind⟩ := A.2.1
    have e : s.slotType? c.cls c.vm i = some .int := by
      cases hq : c.vm <;> first | exact absurd hq (hs _) | simp [State.slotType?, hk, hkind]
    have q2 : fits .int c.slots[i] = true := by simpa [State.fitsSlot, e] using q
    obtain ⟨x, hx⟩ := fit_I q2 (Or.inl rfl)
    exact ⟨x, by rw [Array.getElem?_eq_getElem hi, hx]⟩
  refine ⟨a, c, c.slots.toList.map (fun v => match v with | .int x => x | _ => 0), rfl, A, ?_, ?_⟩
  · apply Array.ext'
    rw [List.map_map]
    have : c.slots.toList.map (Value.int ∘ fun v => match v with | .int x => x | _ => 0) = c.slots.toList := by
      conv => rhs; rw [← List.map_id c.slots.toList]
      refine List.map_congr_left fun v hv => ?_
      obtain ⟨i, hi⟩ := List.mem_iff_getElem?.mp hv
      rw [Array.getElem?_toList] at hi
      obtain ⟨x, hx⟩ := hel i (Array.getElem?_eq_some_iff.mp hi).1
      rw [hi] at hx
      cases hx
      rfl
    exact this.symm
  · have hl := A.fin (Vm.Alike.refl _)
    simp only [List.length_map, Array.length_toList]
    simp only [Cond.value, Term.eval] at h2
    simp [hl] at h2
    by_cases hs : c.slots.size < 2147483648
    · rw [if_pos hs] at h2
      have h3 : c.slots.size.toInt32 ≤ 260 := by simpa using h2
      rw [Int32.le_iff_toInt_le] at h3
      have h4 : (c.slots.size.toInt32).toInt = c.slots.size := Int32.toInt_ofNat_of_lt (by omega)
      rw [h4] at h3
      have h5 : (260 : Int32).toInt = 260 := rfl
      rw [h5] at h3
      omega
    · rw [if_neg hs] at h2
      simp at h2
/-! ## ints, plainly -/
theorem i_lt {x y : Int32} : x < y ↔ x.toInt < y.toInt := Int32.lt_iff_toInt_lt
theorem i_eq {x y : Int32} : x = y ↔ x.toInt = y.toInt := Int32.toInt_inj.symm
theorem i_lo (x : Int32) : -2147483648 ≤ x.toInt := Int32.le_toInt x
theorem i_hi (x : Int32) : x.toInt < 2147483648 := Int32.toInt_lt x
theorem i_add {x y : Int32} (h1 : -2147483648 ≤ x.toInt + y.toInt) (h2 : x.toInt + y.toInt < 2147483648) : (x + y).toInt = x.toInt + y.toInt := XT.add32 ⟨h1, by omega⟩
theorem i_sub {x y : Int32} (h1 : -2147483648 ≤ x.toInt - y.toInt) (h2 : x.toInt - y.toInt < 2147483648) : (x - y).toInt = x.toInt - y.toInt := XT.sub32 ⟨h1, by omega⟩
theorem i_mul {x y : Int32} (h1 : -2147483648 ≤ x.toInt * y.toInt) (h2 : x.toInt * y.toInt < 2147483648) : (x * y).toInt = x.toInt * y.toInt := XT.mul32 ⟨h1, by omega⟩
theorem i_nat (x : Int32) : x.toNatClampNeg = x.toInt.toNat := rfl
theorem aget_at {α : Type} {xs : List α} {j : Int32} {n : Nat} (hj : j.toInt = n) (hn : n < xs.length) : aget xs j = some xs[n] := by
  have h0 : ¬ j < 0 := by rw [i_lt]; show ¬ j.toInt < 0; omega
  unfold aget
  rw [if_neg h0, i_nat, hj]
  simp [hn]
theorem aget_rep {α : Type} {m : Nat} {a : α} {j : Int32} (h0 : 0 ≤ j.toInt) (h1 : j.toInt < m) : aget (List.replicate m a) j = some a := by
  rw [aget_at (n := j.toInt.toNat) (by omega) (by rw [List.length_replicate]; omega)]
  simp
theorem aset_at {α : Type} {xs : List α} {j : Int32} {n : Nat} {v : α} (hj : j.toInt = n) (hn : n < xs.length) : aset xs j v = some (xs.set n v) := by
  have h0 : ¬ j < 0 := by rw [i_lt]; show ¬ j.toInt < 0; omega
  unfold aset
  have e : j.toNatClampNeg = n := by rw [i_nat, hj]; simp
  rw [if_neg h0, e, if_pos hn]
theorem rep_set {α : Type} (m k : Nat) (a : α) : (List.replicate m a).set k a = List.replicate m a := by
  apply List.ext_getElem (by simp)
  intro i h1 h2
  rw [List.getElem_set]
  split <;> simp
theorem small_cases {x : Int32} (h0 : 0 ≤ x.toInt) {n : Nat} (h1 : x.toInt < n) {P : Int32 → Prop} (h : ∀ m : Nat, m < n → P (Int32.ofInt m)) : P x := by
  have e : Int32.ofInt (x.toInt.toNat : Nat) = x := by
    rw [Int.toNat_of_nonneg h0, Int32.ofInt_toInt]
  rw [← e]
  exact h _ (by omega)
theorem bit_ne {x : Int32} (h0 : 0 ≤ x.toInt) (h1 : x.toInt < 32) : ¬ (((1 : Int32) <<< (x &&& 31)) &&& ((1 : Int32) <<< (x &&& 31))) = 0 :=
  small_cases (P := fun x => ¬ (((1 : Int32) <<< (x &&& 31)) &&& ((1 : Int32) <<< (x &&& 31))) = 0) h0 (n := 32) h1 (by decide)
/-! ## a plain run that succeeds, and what it gives -/
def okP {α : Type} (m : Option α) (P : α → Prop) : Prop := ∃ a, m = some a ∧ P a
theorem okP.some {α : Type} {a : α} {P : α → Prop} (h : P a) : okP (some a) P := ⟨a, rfl, h⟩
theorem okP.bind {α β : Type} {m : Option α} {f : α → Option β} {P : β → Prop} (h : okP m fun a => okP (f a) P) : okP (m.bind f) P := by
  obtain ⟨a, e, b, e2, h2⟩ := h
  exact ⟨b, by rw [e]; exact e2, h2⟩
theorem okP.ite {α : Type} {c : Prop} [Decidable c] {a b : Option α} {P : α → Prop} (h1 : c → okP a P) (h2 : ¬ c → okP b P) : okP (if c then a else b) P := by
  by_cases h : c
  · rw [if_pos h]; exact h1 h
  · rw [if_neg h]; exact h2 h
theorem okP.mono {α : Type} {m : Option α} {P Q : α → Prop} (h : okP m P) (k : ∀ a, P a → Q a) : okP m Q := by
  obtain ⟨a, e, h⟩ := h
  exact ⟨a, e, k a h⟩
theorem okP.of {α : Type} {m : Option α} {a : α} {P : α → Prop} (e : m = Option.some a) (h : P a) : okP m P := ⟨a, e, h⟩
theorem okP.aget {α : Type} {xs : List α} {j : Int32} {P : α → Prop} (h0 : 0 ≤ j.toInt) (h1 : j.toInt < xs.length) (k : ∀ v, xs[j.toInt.toNat]? = Option.some v → P v) : okP (aget xs j) P :=
  ⟨_, aget_at (n := j.toInt.toNat) (by omega) (by omega), k _ (List.getElem?_eq_getElem _)⟩
theorem okP.aset {α : Type} {xs : List α} {j : Int32} {v : α} {P : List α → Prop} (h0 : 0 ≤ j.toInt) (h1 : j.toInt < xs.length) (k : P (xs.set j.toInt.toNat v)) : okP (aset xs j v) P :=
  ⟨_, aset_at (n := j.toInt.toNat) (by omega) (by omega), k⟩
theorem okP.loop {V E : Type} {B : V → Option (E ⊕ V)} {P : E → Prop} {n : Nat} {v : V} (I : V → Prop) (μ : V → Nat) (hv : I v) (hm : μ v < n) (hB : ∀ v, I v → okP (B v) (fun r => Sum.elim P (fun v' => I v' ∧ μ v' < μ v) r)) : okP (loopN B n v) P := by
  refine loopN_inv I P μ ?_ n v hv hm
  intro v hv
  obtain ⟨r, e, h⟩ := hB v hv
  cases r with
  | inl x => exact Or.inl ⟨x, e, h⟩
  | inr x => exact Or.inr ⟨x, e, h⟩
theorem len_i {n : Nat} (h : n ≤ 1000) : (n.toInt32).toInt = n := by
  have e : n.toInt32 = Int32.ofInt n := rfl
  rw [e, Int32.toInt_ofInt_of_le (by show _ ≤ (n : Int); omega) (by show (n : Int) < _; omega)]
theorem and1 (x : Int32) : x &&& 1 = 0 ∨ x &&& 1 = 1 := by
  have e : (x &&& 1).toBitVec = x.toBitVec &&& 1#32 := rfl
  have h := BitVec.and_one_eq_setWidth_ofBool_getLsbD (x := x.toBitVec)
  cases g : x.toBitVec.getLsbD 0
  · left; apply Int32.toBitVec_inj.1; rw [e, h, g]; rfl
  · right; apply Int32.toBitVec_inj.1; rw [e, h, g]; rfl
theorem okP.not {α : Type} {m : Option α} {a : α} {P : α → Prop} (h : okP m P) (e : m = Option.some a) : P a := by
  obtain ⟨b, e2, h⟩ := h
  rw [e] at e2
  exact (Option.some.inj e2) ▸ h
theorem and_rng {x m : Int32} (hm : 0 ≤ m.toInt) : 0 ≤ (x &&& m).toInt ∧ (x &&& m).toInt ≤ m.toInt := by
  have e : (x &&& m).toBitVec.toNat = x.toBitVec.toNat &&& m.toBitVec.toNat := BitVec.toNat_and ..
  have l : (x &&& m).toBitVec.toNat ≤ m.toBitVec.toNat := by rw [e]; exact Nat.and_le_right
  have c1 : m.toInt = if 2 * m.toBitVec.toNat < 2 ^ 32 then (m.toBitVec.toNat : Int) else m.toBitVec.toNat - (2 ^ 32 : Nat) := BitVec.toInt_eq_toNat_cond m.toBitVec
  have c2 : (x &&& m).toInt = if 2 * (x &&& m).toBitVec.toNat < 2 ^ 32 then ((x &&& m).toBitVec.toNat : Int) else (x &&& m).toBitVec.toNat - (2 ^ 32 : Nat) := BitVec.toInt_eq_toNat_cond (x &&& m).toBitVec
  have b : m.toBitVec.toNat < 2 ^ 32 := m.toBitVec.isLt
  by_cases h : 2 * m.toBitVec.toNat < 2 ^ 32
  · rw [if_pos h] at c1
    rw [if_pos (by omega)] at c2
    omega
  · rw [if_neg h] at c1
    omega
theorem mod_rng {x m : Int32} (hx : 0 ≤ x.toInt) (hm : 0 < m.toInt) : 0 ≤ (x % m).toInt ∧ (x % m).toInt < m.toInt := by
  rw [Int32.toInt_mod, Int.tmod_eq_emod_of_nonneg hx]
  exact ⟨Int.emod_nonneg _ (by omega), Int.emod_lt_of_pos _ hm⟩
/-- the law's own room, over the script's array -/
def sFit (s : List Int32) (τ : QHeap) : Prop := τ.length - List.length ([Sum.inr (Sum.inl (FieldType.int, s))] : QHeap) ≤ room_1.cells ∧ qhs τ - qhs [Sum.inr (Sum.inl (FieldType.int, s))] ≤ room_1.slots
def Sh (R : List Int32) (S : List Int32) (n : Int32) (q : Int32) (o : Ob) : Prop := (f_frontSize o).length = 4 ∧ (f_backSize o).length = 4 ∧ (f_backElem o).length = 512 ∧ (f_frontAgg o).length = 512 ∧ (f_backAgg o).length = 16 ∧ (f_snap o).length = 16 ∧ (f_reg o).length = 16 ∧ f_range o = R ∧ f_slide o = S ∧ f_n o = n ∧ f_queries o = q ∧ f_capacity o = 4
theorem Sh_regTuple {R : List Int32} {S : List Int32} {n : Int32} {q : Int32} {o : Ob} {x : Int32} (h : Sh R S n q o) : Sh R S n q (s_regTuple o x) := by
  dsimp only [Sh, f_range, f_slide, f_frontSize, f_backSize, f_backElem, f_frontAgg, f_backAgg, f_snap, f_reg, f_capacity, f_queries, f_n, s_regTuple] at h ⊢
  exact h
theorem Sh_regA {R : List Int32} {S : List Int32} {n : Int32} {q : Int32} {o : Ob} {x : Int32} (h : Sh R S n q o) : Sh R S n q (s_regA o x) := by
  dsimp only [Sh, f_range, f_slide, f_frontSize, f_backSize, f_backElem, f_frontAgg, f_backAgg, f_snap, f_reg, f_capacity, f_queries, f_n, s_regA] at h ⊢
  exact h
theorem Sh_regB {R : List Int32} {S : List Int32} {n : Int32} {q : Int32} {o : Ob} {x : Int32} (h : Sh R S n q o) : Sh R S n q (s_regB o x) := by
  dsimp only [Sh, f_range, f_slide, f_frontSize, f_backSize, f_backElem, f_frontAgg, f_backAgg, f_snap, f_reg, f_capacity, f_queries, f_n, s_regB] at h ⊢
  exact h
theorem Sh_regC {R : List Int32} {S : List Int32} {n : Int32} {q : Int32} {o : Ob} {x : Int32} (h : Sh R S n q o) : Sh R S n q (s_regC o x) := by
  dsimp only [Sh, f_range, f_slide, f_frontSize, f_backSize, f_backElem, f_frontAgg, f_backAgg, f_snap, f_reg, f_capacity, f_queries, f_n, s_regC] at h ⊢
  exact h
theorem Sh_regCount {R : List Int32} {S : List Int32} {n : Int32} {q : Int32} {o : Ob} {x : Int32} (h : Sh R S n q o) : Sh R S n q (s_regCount o x) := by
  dsimp only [Sh, f_range, f_slide, f_frontSize, f_backSize, f_backElem, f_frontAgg, f_backAgg, f_snap, f_reg, f_capacity, f_queries, f_n, s_regCount] at h ⊢
  exact h
theorem Sh_slots {R : List Int32} {S : List Int32} {n : Int32} {q : Int32} {o : Ob} {x : Int32} (h : Sh R S n q o) : Sh R S n q (s_slots o x) := by
  dsimp only [Sh, f_range, f_slide, f_frontSize, f_backSize, f_backElem, f_frontAgg, f_backAgg, f_snap, f_reg, f_capacity, f_queries, f_n, s_slots] at h ⊢
  exact h
theorem Sh_frontSize {R : List Int32} {S : List Int32} {n : Int32} {q : Int32} {o : Ob} {x : List Int32} (h : Sh R S n q o) (hx : x.length = 4) : Sh R S n q (s_frontSize o x) := by
  dsimp only [Sh, f_range, f_slide, f_frontSize, f_backSize, f_backElem, f_frontAgg, f_backAgg, f_snap, f_reg, f_capacity, f_queries, f_n, s_frontSize] at h ⊢
  exact ⟨hx, h.2.1, h.2.2.1, h.2.2.2.1, h.2.2.2.2.1, h.2.2.2.2.2.1, h.2.2.2.2.2.2.1, h.2.2.2.2.2.2.2⟩
theorem Sh_l_frontSize {R : List Int32} {S : List Int32} {n : Int32} {q : Int32} {o : Ob} (h : Sh R S n q o) : (f_frontSize o).length = 4 := h.1
theorem Sh_backSize {R : List Int32} {S : List Int32} {n : Int32} {q : Int32} {o : Ob} {x : List Int32} (h : Sh R S n q o) (hx : x.length = 4) : Sh R S n q (s_backSize o x) := by
  dsimp only [Sh, f_range, f_slide, f_frontSize, f_backSize, f_backElem, f_frontAgg, f_backAgg, f_snap, f_reg, f_capacity, f_queries, f_n, s_backSize] at h ⊢
  exact ⟨h.1, hx, h.2.2.1, h.2.2.2.1, h.2.2.2.2.1, h.2.2.2.2.2.1, h.2.2.2.2.2.2.1, h.2.2.2.2.2.2.2⟩
theorem Sh_l_backSize {R : List Int32} {S : List Int32} {n : Int32} {q : Int32} {o : Ob} (h : Sh R S n q o) : (f_backSize o).length = 4 := h.2.1
theorem Sh_backElem {R : List Int32} {S : List Int32} {n : Int32} {q : Int32} {o : Ob} {x : List Int32} (h : Sh R S n q o) (hx : x.length = 512) : Sh R S n q (s_backElem o x) := by
  dsimp only [Sh, f_range, f_slide, f_frontSize, f_backSize, f_backElem, f_frontAgg, f_backAgg, f_snap, f_reg, f_capacity, f_queries, f_n, s_backElem] at h ⊢
  exact ⟨h.1, h.2.1, hx, h.2.2.2.1, h.2.2.2.2.1, h.2.2.2.2.2.1, h.2.2.2.2.2.2.1, h.2.2.2.2.2.2.2⟩
theorem Sh_l_backElem {R : List Int32} {S : List Int32} {n : Int32} {q : Int32} {o : Ob} (h : Sh R S n q o) : (f_backElem o).length = 512 := h.2.2.1
theorem Sh_frontAgg {R : List Int32} {S : List Int32} {n : Int32} {q : Int32} {o : Ob} {x : List Int32} (h : Sh R S n q o) (hx : x.length = 512) : Sh R S n q (s_frontAgg o x) := by
  dsimp only [Sh, f_range, f_slide, f_frontSize, f_backSize, f_backElem, f_frontAgg, f_backAgg, f_snap, f_reg, f_capacity, f_queries, f_n, s_frontAgg] at h ⊢
  exact ⟨h.1, h.2.1, h.2.2.1, hx, h.2.2.2.2.1, h.2.2.2.2.2.1, h.2.2.2.2.2.2.1, h.2.2.2.2.2.2.2⟩
theorem Sh_l_frontAgg {R : List Int32} {S : List Int32} {n : Int32} {q : Int32} {o : Ob} (h : Sh R S n q o) : (f_frontAgg o).length = 512 := h.2.2.2.1
theorem Sh_backAgg {R : List Int32} {S : List Int32} {n : Int32} {q : Int32} {o : Ob} {x : List Int32} (h : Sh R S n q o) (hx : x.length = 16) : Sh R S n q (s_backAgg o x) := by
  dsimp only [Sh, f_range, f_slide, f_frontSize, f_backSize, f_backElem, f_frontAgg, f_backAgg, f_snap, f_reg, f_capacity, f_queries, f_n, s_backAgg] at h ⊢
  exact ⟨h.1, h.2.1, h.2.2.1, h.2.2.2.1, hx, h.2.2.2.2.2.1, h.2.2.2.2.2.2.1, h.2.2.2.2.2.2.2⟩
theorem Sh_l_backAgg {R : List Int32} {S : List Int32} {n : Int32} {q : Int32} {o : Ob} (h : Sh R S n q o) : (f_backAgg o).length = 16 := h.2.2.2.2.1
theorem Sh_snap {R : List Int32} {S : List Int32} {n : Int32} {q : Int32} {o : Ob} {x : List Int32} (h : Sh R S n q o) (hx : x.length = 16) : Sh R S n q (s_snap o x) := by
  dsimp only [Sh, f_range, f_slide, f_frontSize, f_backSize, f_backElem, f_frontAgg, f_backAgg, f_snap, f_reg, f_capacity, f_queries, f_n, s_snap] at h ⊢
  exact ⟨h.1, h.2.1, h.2.2.1, h.2.2.2.1, h.2.2.2.2.1, hx, h.2.2.2.2.2.2.1, h.2.2.2.2.2.2.2⟩
theorem Sh_l_snap {R : List Int32} {S : List Int32} {n : Int32} {q : Int32} {o : Ob} (h : Sh R S n q o) : (f_snap o).length = 16 := h.2.2.2.2.2.1
theorem Sh_reg {R : List Int32} {S : List Int32} {n : Int32} {q : Int32} {o : Ob} {x : List Int32} (h : Sh R S n q o) (hx : x.length = 16) : Sh R S n q (s_reg o x) := by
  dsimp only [Sh, f_range, f_slide, f_frontSize, f_backSize, f_backElem, f_frontAgg, f_backAgg, f_snap, f_reg, f_capacity, f_queries, f_n, s_reg] at h ⊢
  exact ⟨h.1, h.2.1, h.2.2.1, h.2.2.2.1, h.2.2.2.2.1, h.2.2.2.2.2.1, hx, h.2.2.2.2.2.2.2⟩
theorem Sh_l_reg {R : List Int32} {S : List Int32} {n : Int32} {q : Int32} {o : Ob} (h : Sh R S n q o) : (f_reg o).length = 16 := h.2.2.2.2.2.2.1
theorem inc1 {x : Int32} (h : x.toInt < 2147483647) : (x + 1).toInt = x.toInt + 1 := by
  have := i_lo x
  have e1 : (1 : Int32).toInt = 1 := rfl
  rw [i_add (by omega) (by omega), e1]
theorem z4' : (4 : Int32).toInt = 4 := rfl
theorem m4 {x : Int32} (h0 : 0 ≤ x.toInt) (h : x.toInt < 1000) : (x * 4).toInt = x.toInt * 4 := i_mul (x := x) (y := 4) (by show _ ≤ x.toInt * 4; omega) (by show x.toInt * 4 < _; omega)
theorem vreg (x : Int32) : okP (F5 x) (fun r => r = 0 ∨ (r ≠ 0 ∧ 0 ≤ x.toInt ∧ x.toInt < 4)) := by
  unfold F5
  have z0 : (0 : Int32).toInt = 0 := rfl
  apply okP.ite <;> intro a
  · exact okP.some (Or.inl rfl)
  apply okP.ite <;> intro b
  · rw [i_lt, z0] at a
    rw [i_lt, z4'] at b
    exact okP.some (Or.inr ⟨by decide, by omega, b⟩)
  · exact okP.some (Or.inl rfl)
theorem regSet_ok {R S : List Int32} {n q : Int32} {o : Ob} (h : Sh R S n q o) (x a b c d : Int32) : okP (F4 o x a b c d) (fun p => Sh R S n q p) := by
  have l := Sh_l_reg h
  unfold F4
  apply okP.bind
  refine okP.mono (vreg x) ?_
  rintro r (rfl | ⟨r0, x0, x4⟩)
  · rw [if_pos rfl]; exact okP.some h
  rw [if_neg r0]
  have e := m4 x0 (by omega)
  have e1 : (x * 4 + 1).toInt = x.toInt * 4 + 1 := by rw [inc1 (by omega), e]
  have e2 : (x * 4 + 2).toInt = x.toInt * 4 + 2 := by rw [i_add (by rw [e]; show _ ≤ x.toInt * 4 + 2; omega) (by rw [e]; show x.toInt * 4 + 2 < _; omega), e]; rfl
  have e3 : (x * 4 + 3).toInt = x.toInt * 4 + 3 := by rw [i_add (by rw [e]; show _ ≤ x.toInt * 4 + 3; omega) (by rw [e]; show x.toInt * 4 + 3 < _; omega), e]; rfl
  apply okP.bind
  refine okP.aset (by omega) (by omega) ?_
  apply okP.bind
  refine okP.aset (by omega) (by rw [List.length_set]; omega) ?_
  apply okP.bind
  refine okP.aset (by omega) (by simp only [List.length_set]; omega) ?_
  apply okP.bind
  refine okP.aset (by omega) (by simp only [List.length_set]; omega) ?_
  apply okP.some
  exact Sh_reg h (by simp only [List.length_set]; exact l)
theorem regId_ok {R S : List Int32} {n q : Int32} {o : Ob} (h : Sh R S n q o) (x : Int32) : okP (F3 o x) (fun p => Sh R S n q p) := by
  unfold F3
  apply okP.bind
  exact okP.mono (regSet_ok h x 1 0 0 1) (fun p hp => okP.some hp)
/-- four words copied from one array to another -/
theorem stBA_ok {R S : List Int32} {n q : Int32} {o : Ob} (h : Sh R S n q o) (x y : Int32) : okP (F6 o x y) (fun p => Sh R S n q p) := by
  unfold F6
  apply okP.bind
  refine okP.mono (vreg y) ?_
  rintro r (rfl | ⟨r0, y0, y4⟩)
  · rw [if_pos rfl]; exact okP.some h
  rw [if_neg r0]
  apply okP.ite <;> intro x0
  · exact okP.some h
  refine okP.ite ?_ (fun _ => okP.some h)
  intro x4
  rw [i_lt] at x0 x4
  have zz : (0 : Int32).toInt = 0 := rfl
  rw [zz] at x0
  rw [z4'] at x4
  have ex := m4 (x := x) (by omega) (by omega)
  have ey := m4 (x := y) (by omega) (by omega)
  obtain ⟨u, hu⟩ : ∃ u, u = x * 4 := ⟨_, rfl⟩
  obtain ⟨v, hv⟩ : ∃ v, v = y * 4 := ⟨_, rfl⟩
  rw [← hu] at ex
  rw [← hv] at ey
  rw [← hv]
  apply okP.bind
  refine okP.loop (fun w => 0 ≤ w.1.toInt ∧ w.1.toInt ≤ 4 ∧ Sh R S n q w.2) (fun w => (4 - w.1.toInt).toNat) ⟨by show (0 : Int) ≤ 0; decide, by show (0 : Int) ≤ 4; decide, h⟩ (by show (4 - (0 : Int)).toNat < 4000; decide) ?_
  rintro ⟨w, p⟩ ⟨a1, a2, a3⟩
  simp only at a1 a2 a3
  unfold B6_25
  rw [← hu]
  simp only
  apply okP.ite <;> intro c
  · rw [i_lt, z4'] at c
    have e2 : (w + 1).toInt = w.toInt + 1 := inc1 (by omega)
    have i1 : (u + w).toInt = u.toInt + w.toInt := i_add (by omega) (by omega)
    have i2 : (v + w).toInt = v.toInt + w.toInt := i_add (by omega) (by omega)
    apply okP.bind
    refine okP.aget (by omega) (by rw [Sh_l_reg a3]; omega) (fun z _ => ?_)
    apply okP.bind
    refine okP.aset (by omega) (by rw [Sh_l_backAgg a3]; omega) ?_
    apply okP.some
    exact ⟨⟨by simp only; omega, by simp only; omega, Sh_backAgg a3 (by rw [List.length_set]; exact Sh_l_backAgg a3)⟩, by simp only; omega⟩
  · exact okP.some (okP.some a3)
theorem stSn_ok {R S : List Int32} {n q : Int32} {o : Ob} (h : Sh R S n q o) (x y : Int32) : okP (F7 o x y) (fun p => Sh R S n q p) := by
  unfold F7
  apply okP.bind
  refine okP.mono (vreg y) ?_
  rintro r (rfl | ⟨r0, y0, y4⟩)
  · rw [if_pos rfl]; exact okP.some h
  rw [if_neg r0]
  apply okP.ite <;> intro x0
  · exact okP.some h
  refine okP.ite ?_ (fun _ => okP.some h)
  intro x4
  rw [i_lt] at x0 x4
  have zz : (0 : Int32).toInt = 0 := rfl
  rw [zz] at x0
  rw [z4'] at x4
  have ex := m4 (x := x) (by omega) (by omega)
  have ey := m4 (x := y) (by omega) (by omega)
  obtain ⟨u, hu⟩ : ∃ u, u = x * 4 := ⟨_, rfl⟩
  obtain ⟨v, hv⟩ : ∃ v, v = y * 4 := ⟨_, rfl⟩
  rw [← hu] at ex
  rw [← hv] at ey
  rw [← hv]
  apply okP.bind
  refine okP.loop (fun w => 0 ≤ w.1.toInt ∧ w.1.toInt ≤ 4 ∧ Sh R S n q w.2) (fun w => (4 - w.1.toInt).toNat) ⟨by show (0 : Int) ≤ 0; decide, by show (0 : Int) ≤ 4; decide, h⟩ (by show (4 - (0 : Int)).toNat < 4000; decide) ?_
  rintro ⟨w, p⟩ ⟨a1, a2, a3⟩
  simp only at a1 a2 a3
  unfold B7_25
  rw [← hu]
  simp only
  apply okP.ite <;> intro c
  · rw [i_lt, z4'] at c
    have e2 : (w + 1).toInt = w.toInt + 1 := inc1 (by omega)
    have i1 : (u + w).toInt = u.toInt + w.toInt := i_add (by omega) (by omega)
    have i2 : (v + w).toInt = v.toInt + w.toInt := i_add (by omega) (by omega)
    apply okP.bind
    refine okP.aget (by omega) (by rw [Sh_l_reg a3]; omega) (fun z _ => ?_)
    apply okP.bind
    refine okP.aset (by omega) (by rw [Sh_l_snap a3]; omega) ?_
    apply okP.some
    exact ⟨⟨by simp only; omega, by simp only; omega, Sh_snap a3 (by rw [List.length_set]; exact Sh_l_snap a3)⟩, by simp only; omega⟩
  · exact okP.some (okP.some a3)
theorem ldBA_ok {R S : List Int32} {n q : Int32} {o : Ob} (h : Sh R S n q o) (x y : Int32) : okP (F25 o x y) (fun p => Sh R S n q p) := by
  unfold F25
  apply okP.bind
  refine okP.mono (vreg x) ?_
  rintro r (rfl | ⟨r0, y0, y4⟩)
  · rw [if_pos rfl]; exact okP.some h
  rw [if_neg r0]
  apply okP.ite <;> intro x0
  · exact okP.some h
  refine okP.ite ?_ (fun _ => okP.some h)
  intro x4
  rw [i_lt] at x0 x4
  have zz : (0 : Int32).toInt = 0 := rfl
  rw [zz] at x0
  rw [z4'] at x4
  have ex := m4 (x := y) (by omega) (by omega)
  have ey := m4 (x := x) (by omega) (by omega)
  obtain ⟨u, hu⟩ : ∃ u, u = y * 4 := ⟨_, rfl⟩
  obtain ⟨v, hv⟩ : ∃ v, v = x * 4 := ⟨_, rfl⟩
  rw [← hu] at ex
  rw [← hv] at ey
  rw [← hv]
  apply okP.bind
  refine okP.loop (fun w => 0 ≤ w.1.toInt ∧ w.1.toInt ≤ 4 ∧ Sh R S n q w.2) (fun w => (4 - w.1.toInt).toNat) ⟨by show (0 : Int) ≤ 0; decide, by show (0 : Int) ≤ 4; decide, h⟩ (by show (4 - (0 : Int)).toNat < 4000; decide) ?_
  rintro ⟨w, p⟩ ⟨a1, a2, a3⟩
  simp only at a1 a2 a3
  unfold B25_25
  rw [← hu]
  simp only
  apply okP.ite <;> intro c
  · rw [i_lt, z4'] at c
    have e2 : (w + 1).toInt = w.toInt + 1 := inc1 (by omega)
    have i1 : (u + w).toInt = u.toInt + w.toInt := i_add (by omega) (by omega)
    have i2 : (v + w).toInt = v.toInt + w.toInt := i_add (by omega) (by omega)
    apply okP.bind
    refine okP.aget (by omega) (by rw [Sh_l_backAgg a3]; omega) (fun z _ => ?_)
    apply okP.bind
    refine okP.aset (by omega) (by rw [Sh_l_reg a3]; omega) ?_
    apply okP.some
    exact ⟨⟨by simp only; omega, by simp only; omega, Sh_reg a3 (by rw [List.length_set]; exact Sh_l_reg a3)⟩, by simp only; omega⟩
  · exact okP.some (okP.some a3)
theorem vslot (x y : Int32) : okP (F22 x y) (fun r => r = 0 ∨ (r ≠ 0 ∧ 0 ≤ x.toInt ∧ x.toInt < 4 ∧ 0 ≤ y.toInt ∧ y.toInt < 32)) := by
  unfold F22
  have z0 : (0 : Int32).toInt = 0 := rfl
  have z32 : (32 : Int32).toInt = 32 := rfl
  apply okP.ite <;> intro a
  · exact okP.some (Or.inl rfl)
  refine okP.ite ?_ (fun _ => okP.some (Or.inl rfl))
  intro b
  apply okP.ite <;> intro c
  · exact okP.some (Or.inl rfl)
  refine okP.ite ?_ (fun _ => okP.some (Or.inl rfl))
  intro d
  rw [i_lt, z0] at a c
  rw [i_lt, z4'] at b
  rw [i_lt, z32] at d
  exact okP.some (Or.inr ⟨by decide, by omega, b, by omega, d⟩)
theorem slotE {x y : Int32} (s0 : 0 ≤ x.toInt) (s4 : x.toInt < 4) (t0 : 0 ≤ y.toInt) (t4 : y.toInt < 32) : F24 x y = some ((x * 32 + y) * 4) := rfl
theorem slotI {x y : Int32} (s0 : 0 ≤ x.toInt) (s4 : x.toInt < 4) (t0 : 0 ≤ y.toInt) (t4 : y.toInt < 32) : ((x * 32 + y) * 4).toInt = (x.toInt * 32 + y.toInt) * 4 := by
  have e : (x * 32).toInt = x.toInt * 32 := i_mul (x := x) (y := 32) (by show _ ≤ x.toInt * 32; omega) (by show x.toInt * 32 < _; omega)
  have e2 : (x * 32 + y).toInt = x.toInt * 32 + y.toInt := by rw [i_add (by omega) (by omega), e]
  rw [m4 (by omega) (by omega), e2]
theorem stB_ok {R S : List Int32} {n q : Int32} {o : Ob} (h : Sh R S n q o) (x y z : Int32) : okP (F23 o x y z) (fun p => Sh R S n q p) := by
  unfold F23
  apply okP.bind
  refine okP.mono (vreg z) ?_
  rintro r (rfl | ⟨r0, y0, y4⟩)
  · rw [if_pos rfl]; exact okP.some h
  rw [if_neg r0]
  apply okP.bind
  refine okP.mono (vslot x y) ?_
  rintro r' (rfl | ⟨r0', s0, s4, t0, t4⟩)
  · rw [if_pos rfl]; exact okP.some h
  rw [if_neg r0', slotE s0 s4 t0 t4]
  simp only [Option.bind_some]
  have ex := slotI s0 s4 t0 t4
  have ey := m4 (x := z) (by omega) (by omega)
  obtain ⟨u, hu⟩ : ∃ u, u = (x * 32 + y) * 4 := ⟨_, rfl⟩
  obtain ⟨v, hv⟩ : ∃ v, v = z * 4 := ⟨_, rfl⟩
  rw [← hu] at ex ⊢
  rw [← hv] at ey ⊢
  apply okP.bind
  refine okP.loop (fun w => 0 ≤ w.1.toInt ∧ w.1.toInt ≤ 4 ∧ Sh R S n q w.2) (fun w => (4 - w.1.toInt).toNat) ⟨by show (0 : Int) ≤ 0; decide, by show (0 : Int) ≤ 4; decide, h⟩ (by show (4 - (0 : Int)).toNat < 4000; decide) ?_
  rintro ⟨w, p⟩ ⟨a1, a2, a3⟩
  simp only at a1 a2 a3
  unfold B23_34
  simp only
  apply okP.ite <;> intro c
  · rw [i_lt, z4'] at c
    have e2 : (w + 1).toInt = w.toInt + 1 := inc1 (by omega)
    have i1 : (u + w).toInt = u.toInt + w.toInt := i_add (by omega) (by omega)
    have i2 : (v + w).toInt = v.toInt + w.toInt := i_add (by omega) (by omega)
    apply okP.bind
    refine okP.aget (by omega) (by rw [Sh_l_reg a3]; omega) (fun z _ => ?_)
    apply okP.bind
    refine okP.aset (by omega) (by rw [Sh_l_backElem a3]; omega) ?_
    apply okP.some
    exact ⟨⟨by simp only; omega, by simp only; omega, Sh_backElem a3 (by rw [List.length_set]; exact Sh_l_backElem a3)⟩, by simp only; omega⟩
  · exact okP.some (okP.some a3)
theorem ldB_ok {R S : List Int32} {n q : Int32} {o : Ob} (h : Sh R S n q o) (x y z : Int32) : okP (F29 o x y z) (fun p => Sh R S n q p) := by
  unfold F29
  apply okP.bind
  refine okP.mono (vreg x) ?_
  rintro r (rfl | ⟨r0, y0, y4⟩)
  · rw [if_pos rfl]; exact okP.some h
  rw [if_neg r0]
  apply okP.bind
  refine okP.mono (vslot y z) ?_
  rintro r' (rfl | ⟨r0', s0, s4, t0, t4⟩)
  · rw [if_pos rfl]; exact okP.some h
  rw [if_neg r0', slotE s0 s4 t0 t4]
  simp only [Option.bind_some]
  have ex := slotI s0 s4 t0 t4
  have ey := m4 (x := x) (by omega) (by omega)
  obtain ⟨u, hu⟩ : ∃ u, u = (y * 32 + z) * 4 := ⟨_, rfl⟩
  obtain ⟨v, hv⟩ : ∃ v, v = x * 4 := ⟨_, rfl⟩
  rw [← hu] at ex ⊢
  rw [← hv] at ey ⊢
  apply okP.bind
  refine okP.loop (fun w => 0 ≤ w.1.toInt ∧ w.1.toInt ≤ 4 ∧ Sh R S n q w.2) (fun w => (4 - w.1.toInt).toNat) ⟨by show (0 : Int) ≤ 0; decide, by show (0 : Int) ≤ 4; decide, h⟩ (by show (4 - (0 : Int)).toNat < 4000; decide) ?_
  rintro ⟨w, p⟩ ⟨a1, a2, a3⟩
  simp only at a1 a2 a3
  unfold B29_34
  simp only
  apply okP.ite <;> intro c
  · rw [i_lt, z4'] at c
    have e2 : (w + 1).toInt = w.toInt + 1 := inc1 (by omega)
    have i1 : (u + w).toInt = u.toInt + w.toInt := i_add (by omega) (by omega)
    have i2 : (v + w).toInt = v.toInt + w.toInt := i_add (by omega) (by omega)
    apply okP.bind
    refine okP.aget (by omega) (by rw [Sh_l_backElem a3]; omega) (fun z _ => ?_)
    apply okP.bind
    refine okP.aset (by omega) (by rw [Sh_l_reg a3]; omega) ?_
    apply okP.some
    exact ⟨⟨by simp only; omega, by simp only; omega, Sh_reg a3 (by rw [List.length_set]; exact Sh_l_reg a3)⟩, by simp only; omega⟩
  · exact okP.some (okP.some a3)
theorem stF_ok {R S : List Int32} {n q : Int32} {o : Ob} (h : Sh R S n q o) (x y z : Int32) : okP (F30 o x y z) (fun p => Sh R S n q p) := by
  unfold F30
  apply okP.bind
  refine okP.mono (vreg z) ?_
  rintro r (rfl | ⟨r0, y0, y4⟩)
  · rw [if_pos rfl]; exact okP.some h
  rw [if_neg r0]
  apply okP.bind
  refine okP.mono (vslot x y) ?_
  rintro r' (rfl | ⟨r0', s0, s4, t0, t4⟩)
  · rw [if_pos rfl]; exact okP.some h
  rw [if_neg r0', slotE s0 s4 t0 t4]
  simp only [Option.bind_some]
  have ex := slotI s0 s4 t0 t4
  have ey := m4 (x := z) (by omega) (by omega)
  obtain ⟨u, hu⟩ : ∃ u, u = (x * 32 + y) * 4 := ⟨_, rfl⟩
  obtain ⟨v, hv⟩ : ∃ v, v = z * 4 := ⟨_, rfl⟩
  rw [← hu] at ex ⊢
  rw [← hv] at ey ⊢
  apply okP.bind
  refine okP.loop (fun w => 0 ≤ w.1.toInt ∧ w.1.toInt ≤ 4 ∧ Sh R S n q w.2) (fun w => (4 - w.1.toInt).toNat) ⟨by show (0 : Int) ≤ 0; decide, by show (0 : Int) ≤ 4; decide, h⟩ (by show (4 - (0 : Int)).toNat < 4000; decide) ?_
  rintro ⟨w, p⟩ ⟨a1, a2, a3⟩
  simp only at a1 a2 a3
  unfold B30_34
  simp only
  apply okP.ite <;> intro c
  · rw [i_lt, z4'] at c
    have e2 : (w + 1).toInt = w.toInt + 1 := inc1 (by omega)
    have i1 : (u + w).toInt = u.toInt + w.toInt := i_add (by omega) (by omega)
    have i2 : (v + w).toInt = v.toInt + w.toInt := i_add (by omega) (by omega)
    apply okP.bind
    refine okP.aget (by omega) (by rw [Sh_l_reg a3]; omega) (fun z _ => ?_)
    apply okP.bind
    refine okP.aset (by omega) (by rw [Sh_l_frontAgg a3]; omega) ?_
    apply okP.some
    exact ⟨⟨by simp only; omega, by simp only; omega, Sh_frontAgg a3 (by rw [List.length_set]; exact Sh_l_frontAgg a3)⟩, by simp only; omega⟩
  · exact okP.some (okP.some a3)
theorem ldF_ok {R S : List Int32} {n q : Int32} {o : Ob} (h : Sh R S n q o) (x y z : Int32) : okP (F33 o x y z) (fun p => Sh R S n q p) := by
  unfold F33
  apply okP.bind
  refine okP.mono (vreg x) ?_
  rintro r (rfl | ⟨r0, y0, y4⟩)
  · rw [if_pos rfl]; exact okP.some h
  rw [if_neg r0]
  apply okP.bind
  refine okP.mono (vslot y z) ?_
  rintro r' (rfl | ⟨r0', s0, s4, t0, t4⟩)
  · rw [if_pos rfl]; exact okP.some h
  rw [if_neg r0', slotE s0 s4 t0 t4]
  simp only [Option.bind_some]
  have ex := slotI s0 s4 t0 t4
  have ey := m4 (x := x) (by omega) (by omega)
  obtain ⟨u, hu⟩ : ∃ u, u = (y * 32 + z) * 4 := ⟨_, rfl⟩
  obtain ⟨v, hv⟩ : ∃ v, v = x * 4 := ⟨_, rfl⟩
  rw [← hu] at ex ⊢
  rw [← hv] at ey ⊢
  apply okP.bind
  refine okP.loop (fun w => 0 ≤ w.1.toInt ∧ w.1.toInt ≤ 4 ∧ Sh R S n q w.2) (fun w => (4 - w.1.toInt).toNat) ⟨by show (0 : Int) ≤ 0; decide, by show (0 : Int) ≤ 4; decide, h⟩ (by show (4 - (0 : Int)).toNat < 4000; decide) ?_
  rintro ⟨w, p⟩ ⟨a1, a2, a3⟩
  simp only at a1 a2 a3
  unfold B33_34
  simp only
  apply okP.ite <;> intro c
  · rw [i_lt, z4'] at c
    have e2 : (w + 1).toInt = w.toInt + 1 := inc1 (by omega)
    have i1 : (u + w).toInt = u.toInt + w.toInt := i_add (by omega) (by omega)
    have i2 : (v + w).toInt = v.toInt + w.toInt := i_add (by omega) (by omega)
    apply okP.bind
    refine okP.aget (by omega) (by rw [Sh_l_frontAgg a3]; omega) (fun z _ => ?_)
    apply okP.bind
    refine okP.aset (by omega) (by rw [Sh_l_reg a3]; omega) ?_
    apply okP.some
    exact ⟨⟨by simp only; omega, by simp only; omega, Sh_reg a3 (by rw [List.length_set]; exact Sh_l_reg a3)⟩, by simp only; omega⟩
  · exact okP.some (okP.some a3)
theorem mul_ok {R S : List Int32} {n q : Int32} {o : Ob} (h : Sh R S n q o) (x y z : Int32) : okP (F26 o x y z) (fun p => Sh R S n q p) := by
  have l := Sh_l_reg h
  unfold F26
  apply okP.bind
  refine okP.mono (vreg x) ?_
  rintro r (rfl | ⟨r0, x0, x4⟩)
  · rw [if_pos rfl]; exact okP.some h
  rw [if_neg r0]
  apply okP.bind
  refine okP.mono (vreg y) ?_
  rintro r' (rfl | ⟨r0', y0, y4⟩)
  · rw [if_pos rfl]; exact okP.some h
  rw [if_neg r0']
  apply okP.bind
  refine okP.mono (vreg z) ?_
  rintro r'' (rfl | ⟨r0'', w0, w4⟩)
  · rw [if_pos rfl]; exact okP.some h
  rw [if_neg r0'']
  have three : ∀ x : Int32, 0 ≤ x.toInt → x.toInt < 4 → (x * 4).toInt = x.toInt * 4 ∧ (x * 4 + 1).toInt = x.toInt * 4 + 1 ∧ (x * 4 + 2).toInt = x.toInt * 4 + 2 ∧ (x * 4 + 3).toInt = x.toInt * 4 + 3 := by
    intro x x0 x4
    have e := m4 x0 (by omega)
    refine ⟨e, ?_, ?_, ?_⟩
    · rw [inc1 (by omega), e]
    · rw [i_add (by rw [e]; show _ ≤ x.toInt * 4 + 2; omega) (by rw [e]; show x.toInt * 4 + 2 < _; omega), e]; rfl
    · rw [i_add (by rw [e]; show _ ≤ x.toInt * 4 + 3; omega) (by rw [e]; show x.toInt * 4 + 3 < _; omega), e]; rfl
  obtain ⟨x1, x2, x3, x5⟩ := three x x0 x4
  obtain ⟨y1, y2, y3, y5⟩ := three y y0 y4
  obtain ⟨w1, w2, w3, w5⟩ := three z w0 w4
  apply okP.bind
  refine okP.aget (by omega) (by omega) (fun _ _ => ?_)
  apply okP.bind
  refine okP.aget (by omega) (by omega) (fun _ _ => ?_)
  apply okP.bind
  refine okP.aget (by omega) (by omega) (fun _ _ => ?_)
  apply okP.bind
  refine okP.aget (by omega) (by omega) (fun _ _ => ?_)
  apply okP.bind
  refine okP.aget (by omega) (by omega) (fun _ _ => ?_)
  apply okP.bind
  refine okP.aget (by omega) (by omega) (fun _ _ => ?_)
  apply okP.bind
  refine okP.aget (by omega) (by omega) (fun _ _ => ?_)
  apply okP.bind
  refine okP.aget (by omega) (by omega) (fun _ _ => ?_)
  apply okP.bind
  refine okP.aset (by omega) (by omega) ?_
  apply okP.bind
  refine okP.aset (by omega) (by simp only [List.length_set]; omega) ?_
  apply okP.bind
  refine okP.aset (by omega) (by simp only [List.length_set]; omega) ?_
  apply okP.bind
  refine okP.aset (by omega) (by simp only [List.length_set]; omega) ?_
  apply okP.some
  exact Sh_reg h (by simp only [List.length_set]; exact l)
theorem reset_ok {R S : List Int32} {n q : Int32} {o : Ob} (h : Sh R S n q o) (x : Int32) : okP (F2 o x) (fun p => Sh R S n q p) := by
  unfold F2
  have l1 := Sh_l_frontSize h
  have l2 := Sh_l_backSize h
  apply okP.ite <;> intro x0
  · exact okP.some h
  refine okP.ite ?_ (fun _ => okP.some h)
  intro x4
  rw [i_lt] at x0 x4
  have zz : (0 : Int32).toInt = 0 := rfl
  rw [zz] at x0
  rw [z4'] at x4
  apply okP.bind
  refine okP.aset (by omega) (by omega) ?_
  apply okP.bind
  refine okP.aset (by omega) (by omega) ?_
  apply okP.bind
  have g : Sh R S n q (s_backSize (s_frontSize o ((f_frontSize o).set x.toInt.toNat 0)) ((f_backSize o).set x.toInt.toNat 0)) := Sh_backSize (Sh_frontSize h (by rw [List.length_set]; exact l1)) (by rw [List.length_set]; exact l2)
  refine okP.mono (regId_ok g 1) (fun p hp => ?_)
  apply okP.bind
  refine okP.mono (stBA_ok hp x 1) (fun p hp => ?_)
  apply okP.bind
  exact okP.mono (stSn_ok hp x 1) (fun p hp => okP.some hp)
theorem flip_ok {R S : List Int32} {n q : Int32} {o : Ob} (h : Sh R S n q o) {x : Int32} (x0 : 0 ≤ x.toInt) (x4 : x.toInt < 4) : okP (F28 o x) (fun p => Sh R S n q p) := by
  unfold F28
  have l2 := Sh_l_backSize h
  have z32 : (32 : Int32).toInt = 32 := rfl
  apply okP.bind
  refine okP.aget x0 (by omega) (fun y _ => ?_)
  have yb : (if (32 : Int32) < y then (32 : Int32) else y).toInt ≤ 32 := by
    by_cases c : (32 : Int32) < y
    · rw [if_pos c]; decide
    · rw [if_neg c]; rw [i_lt, z32] at c; omega
  obtain ⟨b, hb⟩ : ∃ b, b = (if (32 : Int32) < y then (32 : Int32) else y) := ⟨_, rfl⟩
  rw [← hb] at yb ⊢
  apply okP.bind
  refine okP.mono (regId_ok h 1) (fun p hp => ?_)
  apply okP.bind
  refine okP.loop (fun w => 0 ≤ w.1.toInt ∧ w.1.toInt ≤ 32 ∧ Sh R S n q w.2) (fun w => (32 - w.1.toInt).toNat) ⟨by show (0 : Int) ≤ 0; decide, by show (0 : Int) ≤ 32; decide, hp⟩ (by show (32 - (0 : Int)).toNat < 4000; decide) ?_
  rintro ⟨w, p⟩ ⟨a1, a2, a3⟩
  simp only at a1 a2 a3
  unfold B28_23
  simp only
  apply okP.ite <;> intro c
  · rw [i_lt] at c
    have e2 : (w + 1).toInt = w.toInt + 1 := inc1 (by omega)
    apply okP.bind
    refine okP.mono (ldB_ok a3 2 x _) (fun p hp => ?_)
    apply okP.bind
    refine okP.mono (mul_ok hp 1 2 1) (fun p hp => ?_)
    apply okP.bind
    refine okP.mono (stF_ok hp x _ 1) (fun p hp => ?_)
    apply okP.some
    exact ⟨⟨by simp only; omega, by simp only; omega, hp⟩, by simp only; omega⟩
  · apply okP.some
    simp only [Sum.elim_inl]
    have m1 := Sh_l_frontSize a3
    have m2 := Sh_l_backSize a3
    apply okP.bind
    refine okP.aset x0 (by omega) ?_
    apply okP.bind
    refine okP.aset x0 (by omega) ?_
    apply okP.bind
    refine okP.mono (regId_ok (Sh_backSize (Sh_frontSize a3 (by rw [List.length_set]; exact m1)) (by rw [List.length_set]; exact m2)) 1) (fun p hp => ?_)
    apply okP.bind
    exact okP.mono (stBA_ok hp x 1) (fun p hp => okP.some hp)
theorem evict_ok {R S : List Int32} {n q : Int32} {o : Ob} (h : Sh R S n q o) {x : Int32} (x0 : 0 ≤ x.toInt) (x4 : x.toInt < 4) : okP (F27 o x) (fun p => Sh R S n q p) := by
  have j : ∀ p, Sh R S n q p → okP (J27_14 p x) (fun p => Sh R S n q p) := by
    intro p hp
    have l := Sh_l_frontSize hp
    unfold J27_14
    apply okP.bind
    refine okP.aget x0 (by omega) (fun y _ => ?_)
    refine okP.ite ?_ (fun _ => okP.some hp)
    intro _
    apply okP.bind
    refine okP.aget x0 (by omega) (fun y _ => ?_)
    apply okP.bind
    refine okP.aset x0 (by omega) ?_
    exact okP.some (Sh_frontSize hp (by rw [List.length_set]; exact l))
  have l := Sh_l_frontSize h
  unfold F27
  apply okP.bind
  refine okP.aget x0 (by omega) (fun y _ => ?_)
  refine okP.ite ?_ (fun _ => j o h)
  intro _
  apply okP.bind
  exact okP.mono (flip_ok h x0 x4) j
theorem append_ok {R S : List Int32} {n q : Int32} {o : Ob} (h : Sh R S n q o) (hR : R.length = 4) (x : Int32) : okP (F21 o x) (fun p => Sh R S n q p) := by
  have zz : (0 : Int32).toInt = 0 := rfl
  unfold F21
  apply okP.ite <;> intro x0
  · exact okP.some h
  refine okP.ite ?_ (fun _ => okP.some h)
  intro x4
  rw [i_lt, zz] at x0
  rw [i_lt, z4'] at x4
  have x0' : 0 ≤ x.toInt := by omega
  have j : ∀ p, Sh R S n q p → okP (J21_39 p x) (fun p => Sh R S n q p) := by
    intro p hp
    have l := Sh_l_backSize hp
    unfold J21_39
    apply okP.bind
    refine okP.aget x0' (by omega) (fun y _ => ?_)
    apply okP.bind
    refine okP.mono (vslot x y) (fun r _ => ?_)
    apply okP.ite <;> intro _
    · exact okP.some hp
    apply okP.bind
    refine okP.mono (stB_ok hp x y 0) (fun p hp => ?_)
    apply okP.bind
    refine okP.mono (ldBA_ok hp 1 x) (fun p hp => ?_)
    apply okP.bind
    refine okP.mono (mul_ok hp 1 1 0) (fun p hp => ?_)
    apply okP.bind
    refine okP.mono (stBA_ok hp x 1) (fun p hp => ?_)
    have l := Sh_l_backSize hp
    apply okP.bind
    refine okP.aset x0' (by omega) ?_
    exact okP.some (Sh_backSize hp (by rw [List.length_set]; exact l))
  have l1 := Sh_l_frontSize h
  have l2 := Sh_l_backSize h
  have l3 : f_range o = R := h.2.2.2.2.2.2.2.1
  apply okP.bind
  refine okP.aget x0' (by omega) (fun y _ => ?_)
  apply okP.bind
  refine okP.aget x0' (by omega) (fun y _ => ?_)
  apply okP.bind
  refine okP.aget x0' (by rw [l3, hR]; omega) (fun y _ => ?_)
  apply okP.ite <;> intro _
  · exact j o h
  apply okP.bind
  exact okP.mono (evict_ok h x0' x4) j
theorem fold_ok {R S : List Int32} {n q : Int32} {o : Ob} (h : Sh R S n q o) {x : Int32} (x0 : 0 ≤ x.toInt) (x4 : x.toInt < 4) (y : Int32) : okP (F32 o x y) (fun p => Sh R S n q p) := by
  have j : ∀ p, Sh R S n q p → okP (J32_28 p x y) (fun p => Sh R S n q p) := by
    intro p hp
    unfold J32_28
    apply okP.bind
    refine okP.mono (ldBA_ok hp 2 x) (fun p hp => ?_)
    apply okP.bind
    exact okP.mono (mul_ok hp y 1 2) (fun p hp => okP.some hp)
  have l := Sh_l_frontSize h
  unfold F32
  apply okP.bind
  refine okP.aget x0 (by omega) (fun z _ => ?_)
  apply okP.ite <;> intro _
  · apply okP.bind
    exact okP.mono (ldF_ok h 1 x _) j
  · apply okP.bind
    exact okP.mono (regId_ok h 1) j
theorem snapT_ok {R S : List Int32} {n q : Int32} {o : Ob} (h : Sh R S n q o) {x : Int32} (x0 : 0 ≤ x.toInt) (x4 : x.toInt < 4) : okP (F31 o x) (fun p => Sh R S n q p) := by
  unfold F31
  apply okP.bind
  refine okP.mono (fold_ok h x0 x4 3) (fun p hp => ?_)
  apply okP.bind
  exact okP.mono (stSn_ok hp x 3) (fun p hp => okP.some hp)
/-- how many slides divide -/
def cq (S : List Int32) (n : Int32) : Nat → Int32
  | 0 => 0
  | k + 1 => if n % (S.getD k 0) = 0 then cq S n k + 1 else cq S n k
theorem push_ok {R S : List Int32} {n q : Int32} {o : Ob} (h : Sh R S n q o) (hR : R.length = 4) (hS : S.length = 4) (hq : 0 ≤ q.toInt ∧ q.toInt ≤ 4) (hs : ∀ k, k < q.toInt.toNat → 1 ≤ (S.getD k 0).toInt) (a b c d : Int32) : okP (F20 o a b c d) (fun r => Sh R S (n + 1) q r.2 ∧ r.1 = cq S (n + 1) q.toInt.toNat) := by
  unfold F20
  have hn : f_n o = n := h.2.2.2.2.2.2.2.2.2.1
  rw [hn]
  have g : Sh R S (n + 1) q (s_n o (n + 1)) := by
    obtain ⟨m, hm⟩ : ∃ m, m = n + 1 := ⟨_, rfl⟩
    rw [← hm]
    dsimp only [Sh, f_regTuple, f_regA, f_regB, f_regC, f_regCount, f_slots, f_range, f_slide, f_frontSize, f_backSize, f_backElem, f_frontAgg, f_backAgg, f_snap, f_reg, f_capacity, f_queries, f_n, s_n] at h ⊢
    exact ⟨h.1, h.2.1, h.2.2.1, h.2.2.2.1, h.2.2.2.2.1, h.2.2.2.2.2.1, h.2.2.2.2.2.2.1, h.2.2.2.2.2.2.2.1, h.2.2.2.2.2.2.2.2.1, rfl, h.2.2.2.2.2.2.2.2.2.2⟩
  obtain ⟨m, hm⟩ : ∃ m, m = n + 1 := ⟨_, rfl⟩
  rw [← hm] at g ⊢
  apply okP.bind
  refine okP.mono (regSet_ok g 0 a b c d) (fun p hp => ?_)
  apply okP.bind
  have z1 : (1 : Int32).toInt = 1 := rfl
  refine okP.loop (fun w => 0 ≤ w.2.1.toInt ∧ w.2.1.toInt ≤ q.toInt ∧ Sh R S m q w.2.2 ∧ w.1 = cq S m w.2.1.toInt.toNat) (fun w => (4 - w.2.1.toInt).toNat) ⟨by show (0 : Int) ≤ 0; decide, hq.1, hp, rfl⟩ (by show (4 - (0 : Int)).toNat < 4000; decide) ?_
  rintro ⟨e, w, p⟩ ⟨a1, a2, a3, a4⟩
  simp only at a1 a2 a3 a4
  unfold B20_26 J20_75
  simp only
  rw [a3.2.2.2.2.2.2.2.2.2.2.1]
  apply okP.ite <;> intro c
  · rw [i_lt] at c
    have e2 : (w + 1).toInt = w.toInt + 1 := inc1 (by omega)
    have en : (w + 1).toInt.toNat = w.toInt.toNat + 1 := by omega
    apply okP.bind
    refine okP.mono (append_ok a3 hR w) (fun p hp => ?_)
    rw [hp.2.2.2.2.2.2.2.2.1, hp.2.2.2.2.2.2.2.2.2.1]
    apply okP.bind
    refine okP.aget a1 (by rw [hS]; omega) (fun y hy => ?_)
    have hy' : S.getD w.toInt.toNat 0 = y := by rw [List.getD_eq_getElem?_getD, hy]; rfl
    have y1 := hs w.toInt.toNat (by omega)
    rw [hy'] at y1
    rw [if_neg (by rw [i_lt, z1]; omega)]
    have yz : ¬ y = 0 := by intro z; rw [z] at y1; revert y1; decide
    have qr : qrem m y = some (m % y) := by unfold qrem; rw [if_neg yz]
    rw [qr]
    simp only [Option.bind_some]
    apply okP.ite <;> intro mz
    · apply okP.bind
      refine okP.mono (snapT_ok hp a1 (by omega)) (fun p hp => ?_)
      apply okP.some
      refine ⟨⟨by simp only; omega, by simp only; omega, hp, ?_⟩, by simp only; omega⟩
      simp only
      rw [en, cq, hy', if_pos mz, a4]
    · apply okP.some
      refine ⟨⟨by simp only; omega, by simp only; omega, hp, ?_⟩, by simp only; omega⟩
      simp only
      rw [en, cq, hy', if_neg mz, a4]
  · rw [i_lt] at c
    apply okP.some
    apply okP.some
    refine ⟨a3, ?_⟩
    simp only
    rw [a4]
    congr 1
    omega
theorem loopReset {R S : List Int32} {n q : Int32} {o : Ob} {B : Int32 × Ob → Option (Ob ⊕ (Int32 × Ob))} (hB : ∀ v, B v = (if v.1 < 4 then (F2 v.2 v.1).bind fun r => some (.inr (v.1 + 1, r)) else some (.inl v.2))) (h : Sh R S n q o) : okP (loopN B qN (0, o)) (fun p => Sh R S n q p) := by
  refine okP.loop (fun w => 0 ≤ w.1.toInt ∧ w.1.toInt ≤ 4 ∧ Sh R S n q w.2) (fun w => (4 - w.1.toInt).toNat) ⟨by show (0 : Int) ≤ 0; decide, by show (0 : Int) ≤ 4; decide, h⟩ (by show (4 - (0 : Int)).toNat < 4000; decide) ?_
  rintro ⟨w, p⟩ ⟨a1, a2, a3⟩
  simp only at a1 a2 a3
  rw [hB]
  simp only
  apply okP.ite <;> intro c
  · rw [i_lt, z4'] at c
    have e2 : (w + 1).toInt = w.toInt + 1 := inc1 (by omega)
    apply okP.bind
    refine okP.mono (reset_ok a3 w) (fun p hp => ?_)
    apply okP.some
    exact ⟨⟨by simp only; omega, by simp only; omega, hp⟩, by simp only; omega⟩
  · exact okP.some a3
theorem init_ok : okP (F1 4) (fun p => Sh (List.replicate 4 0) (List.replicate 4 0) 0 0 p) := by
  unfold F1
  have e : (if (4 : Int32) < (if (4 : Int32) < 1 then 1 else 4) then (4 : Int32) else (if (4 : Int32) < 1 then 1 else 4)) = 4 := by decide
  rw [e]
  apply okP.bind
  refine okP.mono (loopReset (R := List.replicate 4 0) (S := List.replicate 4 0) (n := 0) (q := 0) (fun v => rfl) ?_) (fun p hp => okP.some hp)
  dsimp only [Sh, f_regTuple, f_regA, f_regB, f_regC, f_regCount, f_slots, f_range, f_slide, f_frontSize, f_backSize, f_backElem, f_frontAgg, f_backAgg, f_snap, f_reg, f_capacity, f_queries, f_n, s_regTuple, s_regA, s_regB, s_regC, s_regCount, s_slots, s_range, s_slide, s_frontSize, s_backSize, s_backElem, s_frontAgg, s_backAgg, s_snap, s_reg, s_capacity, s_queries, s_n]
  refine ⟨?_, ?_, ?_, ?_, ?_, ?_, ?_, rfl, rfl, rfl, rfl, rfl⟩ <;> exact List.length_replicate
theorem clear_ok {R S : List Int32} {n q : Int32} {o : Ob} (h : Sh R S n q o) : okP (F17 o) (fun p => Sh R S 0 q p) := by
  unfold F17
  have g : Sh R S 0 q (s_n o 0) := by
    dsimp only [Sh, f_regTuple, f_regA, f_regB, f_regC, f_regCount, f_slots, f_range, f_slide, f_frontSize, f_backSize, f_backElem, f_frontAgg, f_backAgg, f_snap, f_reg, f_capacity, f_queries, f_n, s_n] at h ⊢
    exact ⟨h.1, h.2.1, h.2.2.1, h.2.2.2.1, h.2.2.2.2.1, h.2.2.2.2.2.1, h.2.2.2.2.2.2.1, h.2.2.2.2.2.2.2.1, h.2.2.2.2.2.2.2.2.1, rfl, h.2.2.2.2.2.2.2.2.2.2⟩
  apply okP.bind
  exact okP.mono (loopReset (fun v => rfl) g) (fun p hp => okP.some hp)
theorem add_ok {R S : List Int32} {n q : Int32} {o : Ob} (h : Sh R S n q o) (hR : R.length = 4) (hS : S.length = 4) (hq : 0 ≤ q.toInt) (x y : Int32) : okP (F18 o x y) (fun r => r = (-1, o) ∨ (n = 0 ∧ q.toInt < 4 ∧ (1 ≤ x.toInt ∧ x.toInt ≤ 32) ∧ (1 ≤ y.toInt ∧ y.toInt ≤ 32) ∧ r.1 = q ∧ Sh (R.set q.toInt.toNat x) (S.set q.toInt.toNat y) n (q + 1) r.2)) := by
  have hr : f_range o = R := h.2.2.2.2.2.2.2.1
  have hs : f_slide o = S := h.2.2.2.2.2.2.2.2.1
  have hn : f_n o = n := h.2.2.2.2.2.2.2.2.2.1
  have hqq : f_queries o = q := h.2.2.2.2.2.2.2.2.2.2.1
  have hc : f_capacity o = 4 := h.2.2.2.2.2.2.2.2.2.2.2
  have z1 : (1 : Int32).toInt = 1 := rfl
  have z32 : (32 : Int32).toInt = 32 := rfl
  unfold F18
  rw [hn, hqq, hc, hr, hs]
  have bad : okP (some ((-1 : Int32), o)) (fun r => r = (-1, o) ∨ (n = 0 ∧ q.toInt < 4 ∧ (1 ≤ x.toInt ∧ x.toInt ≤ 32) ∧ (1 ≤ y.toInt ∧ y.toInt ≤ 32) ∧ r.1 = q ∧ Sh (R.set q.toInt.toNat x) (S.set q.toInt.toNat y) n (q + 1) r.2)) := okP.some (Or.inl rfl)
  refine okP.ite ?_ (fun _ => bad)
  intro n0
  refine okP.ite ?_ (fun _ => bad)
  intro q4
  refine okP.ite (fun _ => bad) ?_
  intro a
  refine okP.ite (fun _ => bad) ?_
  intro b
  refine okP.ite (fun _ => bad) ?_
  intro c
  refine okP.ite (fun _ => bad) ?_
  intro d
  rw [i_lt, z4'] at q4
  rw [i_lt, z1] at a c
  rw [i_lt, z32] at b d
  apply okP.bind
  refine okP.aset hq (by omega) ?_
  apply okP.bind
  refine okP.aset hq (by omega) ?_
  have g : Sh (R.set q.toInt.toNat x) (S.set q.toInt.toNat y) n q (s_slide (s_range o (R.set q.toInt.toNat x)) (S.set q.toInt.toNat y)) := by
    dsimp only [Sh, f_regTuple, f_regA, f_regB, f_regC, f_regCount, f_slots, f_range, f_slide, f_frontSize, f_backSize, f_backElem, f_frontAgg, f_backAgg, f_snap, f_reg, f_capacity, f_queries, f_n, s_slide, s_range] at h ⊢
    exact ⟨h.1, h.2.1, h.2.2.1, h.2.2.2.1, h.2.2.2.2.1, h.2.2.2.2.2.1, h.2.2.2.2.2.2.1, rfl, rfl, h.2.2.2.2.2.2.2.2.2⟩
  apply okP.bind
  refine okP.mono (reset_ok g q) (fun p hp => ?_)
  apply okP.some
  refine Or.inr ⟨n0, q4, by omega, by omega, rfl, ?_⟩
  have hpq : f_queries p = q := hp.2.2.2.2.2.2.2.2.2.2.1
  rw [hpq]
  obtain ⟨q1, hq1⟩ : ∃ q1, q1 = q + 1 := ⟨_, rfl⟩
  rw [← hq1]
  dsimp only [Sh, f_regTuple, f_regA, f_regB, f_regC, f_regCount, f_slots, f_range, f_slide, f_frontSize, f_backSize, f_backElem, f_frontAgg, f_backAgg, f_snap, f_reg, f_capacity, f_queries, f_n, s_queries] at hp ⊢
  exact ⟨hp.1, hp.2.1, hp.2.2.1, hp.2.2.2.1, hp.2.2.2.2.1, hp.2.2.2.2.2.1, hp.2.2.2.2.2.2.1, hp.2.2.2.2.2.2.2.1, hp.2.2.2.2.2.2.2.2.1, hp.2.2.2.2.2.2.2.2.2.1, rfl, hp.2.2.2.2.2.2.2.2.2.2.2⟩

def Good (R S : List Int32) (n q : Int32) (i : Int) : Prop := R.length = 4 ∧ S.length = 4 ∧ (0 ≤ q.toInt ∧ q.toInt ≤ 4) ∧ (∀ k, k < q.toInt.toNat → (1 ≤ (R.getD k 0).toInt ∧ (R.getD k 0).toInt ≤ 32) ∧ (1 ≤ (S.getD k 0).toInt ∧ (S.getD k 0).toInt ≤ 32)) ∧ 0 ≤ n.toInt ∧ n.toInt ≤ i
theorem vq {R S : List Int32} {n q : Int32} {o : Ob} (h : Sh R S n q o) (hq : q.toInt ≤ 4) (x : Int32) : F12 o x = some (if 0 ≤ x.toInt ∧ x.toInt < q.toInt then 1 else 0) := by
  have z0 : (0 : Int32).toInt = 0 := rfl
  unfold F12
  rw [h.2.2.2.2.2.2.2.2.2.2.1]
  simp only [i_lt, z0, z4']
  by_cases a : x.toInt < 0
  · rw [if_pos a, if_neg (by omega)]
  · rw [if_neg a]
    by_cases b : x.toInt < q.toInt
    · rw [if_pos b, if_pos (by omega), if_pos (by omega)]
    · rw [if_neg b, if_neg (by omega)]
theorem ag {l : List Int32} {k : Int32} (h0 : 0 ≤ k.toInt) (hl : k.toInt < l.length) : aget l k = some (l.getD k.toInt.toNat 0) := by
  rw [aget_at (n := k.toInt.toNat) (by omega) (by omega), List.getD_eq_getElem?_getD, List.getElem?_eq_getElem (by omega)]; rfl
theorem inv_ok {R S : List Int32} {n q : Int32} {o : Ob} (h : Sh R S n q o) {i : Int} (G : Good R S n q i) (hi : i ≤ 1000) : F8 o = some 1 := by
  obtain ⟨lR, lS, hq, hs, n0, n1⟩ := G
  have z0 : (0 : Int32).toInt = 0 := rfl
  have z1 : (1 : Int32).toInt = 1 := rfl
  have z5 : (5 : Int32).toInt = 5 := rfl
  have z32 : (32 : Int32).toInt = 32 := rfl
  unfold F8 F9 F10
  have hr : f_range o = R := h.2.2.2.2.2.2.2.1
  have hsl : f_slide o = S := h.2.2.2.2.2.2.2.2.1
  have hn : f_n o = n := h.2.2.2.2.2.2.2.2.2.1
  have hqq : f_queries o = q := h.2.2.2.2.2.2.2.2.2.2.1
  rw [hqq, hn]
  simp only [Option.bind_some]
  rw [if_neg (by rw [i_lt, z0]; omega), if_neg (by rw [i_lt, z4']; omega), if_neg (by rw [i_lt, z0]; omega)]
  have : okP (loopN (B8_27 o q n) qN 0) (fun r => r = 1) := by
    refine okP.loop (fun w => 0 ≤ w.toInt ∧ w.toInt ≤ 5) (fun w => (5 - w.toInt).toNat) ⟨by show (0 : Int) ≤ 0; decide, by show (0 : Int) ≤ 5; decide⟩ (by show (5 - (0 : Int)).toNat < 4000; decide) ?_
    intro w ⟨a1, a2⟩
    unfold B8_27 J8_183
    refine okP.ite ?_ (fun _ => okP.some rfl)
    intro c
    rw [i_lt, z5] at c
    have e2 : (w + 1).toInt = w.toInt + 1 := inc1 (by omega)
    have nx : (0 ≤ (w + 1).toInt ∧ (w + 1).toInt ≤ 5) ∧ (5 - (w + 1).toInt).toNat < (5 - w.toInt).toNat := ⟨⟨by omega, by omega⟩, by omega⟩
    unfold F11 F13 F14 F15 F16 F19
    simp only [vq h hq.2, Option.bind_some, hr, hsl, hn]
    by_cases wq : 0 ≤ w.toInt ∧ w.toInt < q.toInt
    · simp only [if_pos wq]
      have nz : ¬ (1 : Int32) = 0 := by decide
      simp only [if_neg nz, ag a1 (show w.toInt < R.length by omega), ag a1 (show w.toInt < S.length by omega), Option.bind_some]
      obtain ⟨⟨r1, r2⟩, s1, s2⟩ := hs w.toInt.toNat (by omega)
      obtain ⟨x, hx⟩ : ∃ x, x = R.getD w.toInt.toNat 0 := ⟨_, rfl⟩
      obtain ⟨y, hy⟩ : ∃ y, y = S.getD w.toInt.toNat 0 := ⟨_, rfl⟩
      rw [← hx] at r1 r2
      rw [← hy] at s1 s2
      simp only [← hx, ← hy]
      have l1 : ¬ y < 1 := by rw [i_lt, z1]; omega
      have qd : qdiv n y = some (n / y) := by
        unfold qdiv
        rw [if_neg (by intro z; rw [z] at s1; revert s1; decide)]
      have l2 : ¬ x < 1 := by rw [i_lt, z1]; omega
      have l3 : ¬ (32 : Int32) < x := by rw [i_lt, z32]; omega
      have l4 : ¬ (32 : Int32) < y := by rw [i_lt, z32]; omega
      have l5 : w < q := by rw [i_lt]; omega
      simp only [if_neg l1, qd, Option.bind_some, if_neg l2, if_neg l3, if_neg l4, if_pos l5, if_true]
      have dv : (n / y).toInt = n.toInt / y.toInt := by
        rw [Int32.toInt_div_of_ne_left _ _ (by intro z; rw [z] at n0; revert n0; decide), Int.tdiv_eq_ediv_of_nonneg n0]
      have ed := Int.mul_ediv_add_emod n.toInt y.toInt
      have em0 := Int.emod_nonneg n.toInt (show y.toInt ≠ 0 by omega)
      have em1 := Int.emod_lt_of_pos n.toInt (show 0 < y.toInt by omega)
      have d0 : 0 ≤ n.toInt / y.toInt := Int.ediv_nonneg n0 (by omega)
      have pm : (y * (n / y)).toInt = y.toInt * (n.toInt / y.toInt) := by
        have p0 : 0 ≤ y.toInt * (n.toInt / y.toInt) := Int.mul_nonneg (by omega) d0
        rw [i_mul (by rw [dv]; omega) (by rw [dv]; omega), dv]
      obtain ⟨t, ht⟩ : ∃ t, t = y * (n / y) := ⟨_, rfl⟩
      have p0 : 0 ≤ y.toInt * (n.toInt / y.toInt) := Int.mul_nonneg (by omega) d0
      rw [← ht] at pm ⊢
      have l6 : ¬ n < t := by rw [i_lt, pm]; omega
      have l7 : n - t < y := by rw [i_lt, i_sub (by omega) (by omega), pm]; omega
      have tx : (t - x).toInt = t.toInt - x.toInt := i_sub (by omega) (by omega)
      have ws : (if t - x < 0 then some (0 : Int32) else some (t - x)) = some (if (0 : Int32) < t - x then t - x else 0) := by
        simp only [i_lt, z0]
        by_cases g : (t - x).toInt < 0
        · rw [if_pos g, if_neg (by omega)]
        · rw [if_neg g]
          by_cases g2 : 0 < (t - x).toInt
          · rw [if_pos g2]
          · rw [if_neg g2]
            congr 1
            rw [i_eq, z0]; omega
      rw [ws]
      simp only [Option.bind_some, if_neg l6, if_pos l7, if_true]
      exact okP.some nx
    · simp only [if_neg wq, if_true, Option.bind_some]
      have l5 : ¬ w < q := by rw [i_lt]; omega
      rw [if_neg l5]
      exact okP.some nx
  obtain ⟨_, e, rfl⟩ := this
  rw [e]; rfl
theorem law_ok (s : List Int32) (hs : s.length ≤ 260) : ∃ τ, F0 s = some (1, τ) ∧ τ.length - List.length ([Sum.inr (Sum.inl (FieldType.int, s))] : QHeap) ≤ room_1.cells ∧ qhs τ - qhs [Sum.inr (Sum.inl (FieldType.int, s))] ≤ room_1.slots := by
  have hl := len_i (n := s.length) (by omega)
  have z0 : (0 : Int32).toInt = 0 := rfl
  have z1 : (1 : Int32).toInt = 1 := rfl
  obtain ⟨o, ho, hS⟩ := init_ok
  have g0 : Good (List.replicate 4 0) (List.replicate 4 0) 0 0 0 := ⟨rfl, rfl, by decide, fun k hk => absurd hk (Nat.not_lt_zero _), by decide, by decide⟩
  have siz : ∀ {R S n q p}, Sh R S n q p → R.length = 4 → S.length = 4 → sFit s (H0 s p) := by
    intro R S n q p h lR lS
    obtain ⟨y1, y2, y3, y4, y5, y6, y7, y8, y9, _⟩ := h
    refine ⟨by show 11 - 1 ≤ _; decide, ?_⟩
    simp only [H0, qhs, qsz, y1, y2, y3, y4, y5, y6, y7, y8, y9, lR, lS]
    simp only [cN, room_1]
    omega
  have key : okP (loopN (B0_20 s) qN (0, o)) (fun e => e.1 = 1 ∧ sFit s e.2) := by
    refine okP.loop (fun v => 0 ≤ v.1.toInt ∧ v.1.toInt ≤ 260 ∧ ∃ R S n q, Good R S n q v.1.toInt ∧ Sh R S n q v.2) (fun v => (265 - v.1.toInt).toNat) ⟨by show (0 : Int) ≤ 0; decide, by show (0 : Int) ≤ 260; decide, _, _, _, _, g0, hS⟩ (by show (265 - (0 : Int)).toNat < 4000; decide) ?_
    rintro ⟨i, o⟩ ⟨a1, a2, R, S, n, q, G, h⟩
    simp only at a1 a2 G h
    obtain ⟨lR, lS, hq, hs, n0, n1⟩ := id G
    unfold B0_20
    have e1 : (1 : Int32).toInt = 1 := rfl
    have e2 : (2 : Int32).toInt = 2 := rfl
    have e3 : (3 : Int32).toInt = 3 := rfl
    have e4 : (4 : Int32).toInt = 4 := rfl
    have e5 : (5 : Int32).toInt = 5 := rfl
    have i1 : (i + 1).toInt = i.toInt + 1 := by rw [i_add (by omega) (by omega), e1]
    have i2 : (i + 2).toInt = i.toInt + 2 := by rw [i_add (by omega) (by omega), e2]
    have i3 : (i + 3).toInt = i.toInt + 3 := by rw [i_add (by omega) (by omega), e3]
    have i4 : (i + 4).toInt = i.toInt + 4 := by rw [i_add (by omega) (by omega), e4]
    have i5 : (i + 5).toInt = i.toInt + 5 := by rw [i_add (by omega) (by omega), e5]
    simp only
    apply okP.ite
    · intro c
      exact okP.some ⟨rfl, siz h lR lS⟩
    · intro c
      rw [i_lt, hl, i5] at c
      have rest : ∀ {R S n q p}, Good R S n q (i.toInt + 5) → Sh R S n q p → okP (J0_198 s p i) (fun r => Sum.elim (fun e => e.1 = 1 ∧ sFit s e.2) (fun v' => (0 ≤ v'.1.toInt ∧ v'.1.toInt ≤ 260 ∧ ∃ R S n q, Good R S n q v'.1.toInt ∧ Sh R S n q v'.2) ∧ (265 - v'.1.toInt).toNat < (265 - i.toInt).toNat) r) := by
        intro R S n q p G h
        unfold J0_198
        rw [inv_ok h G (by omega)]
        simp only [Option.bind_some]
        rw [if_neg (by decide)]
        apply okP.some
        exact ⟨⟨by simp only; omega, by simp only; omega, R, S, n, q, by simp only; rw [i5]; exact G, h⟩, by simp only; omega⟩
      have G5 : Good R S n q (i.toInt + 5) := ⟨lR, lS, hq, hs, n0, by omega⟩
      apply okP.bind
      refine okP.aget (by omega) (by omega) (fun y0 _ => ?_)
      apply okP.bind
      refine okP.aget (by omega) (by omega) (fun y1 _ => ?_)
      apply okP.bind
      refine okP.aget (by omega) (by omega) (fun y2 _ => ?_)
      apply okP.bind
      refine okP.aget (by omega) (by omega) (fun y3 _ => ?_)
      apply okP.bind
      refine okP.aget (by omega) (by omega) (fun y4 _ => ?_)
      apply okP.ite
      · intro _
        apply okP.bind
        refine okP.mono (add_ok h lR lS hq.1 y1 y2) ?_
        rintro r (rfl | ⟨q1, q2, q3, q4, q5, q6⟩)
        · unfold F9
          simp only [Option.bind_some, if_true]
          unfold J0_99
          exact rest G5 h
        · unfold F9
          simp only [Option.bind_some]
          have hqq : f_queries r.2 = q + 1 := q6.2.2.2.2.2.2.2.2.2.2.1
          have qi : (q + 1).toInt = q.toInt + 1 := inc1 (by omega)
          have G6 : Good (R.set q.toInt.toNat y1) (S.set q.toInt.toNat y2) n (q + 1) (i.toInt + 5) := by
            refine ⟨by rw [List.length_set]; exact lR, by rw [List.length_set]; exact lS, by omega, ?_, n0, by omega⟩
            intro k hk
            simp only [List.getD_eq_getElem?_getD, List.getElem?_set]
            by_cases e : q.toInt.toNat = k
            · rw [if_pos e, if_pos e, if_pos (by omega), if_pos (by omega)]
              exact ⟨q3, q4⟩
            · rw [if_neg e, if_neg e]
              have t := hs k (by omega)
              simp only [List.getD_eq_getElem?_getD] at t
              exact t
          unfold J0_99
          rw [hqq, q5]
          apply okP.ite
          · intro _; exact rest G6 q6
          · intro _
            rw [if_pos (by rw [i_eq, i_sub (by omega) (by omega), qi, e1]; omega)]
            exact rest G6 q6
      intro _
      apply okP.ite
      · intro _
        apply okP.bind
        refine okP.mono (clear_ok h) (fun p hp => ?_)
        exact rest ⟨lR, lS, hq, hs, by decide, by rw [z0]; omega⟩ hp
      · intro _
        apply okP.bind
        refine okP.mono (push_ok h lR lS hq (fun k hk => (hs k hk).2.1) y1 y2 y3 y4) ?_
        rintro r ⟨hr, hr1⟩
        have ni : (n + 1).toInt = n.toInt + 1 := inc1 (by omega)
        obtain ⟨m, hm⟩ : ∃ m, m = n + 1 := ⟨_, rfl⟩
        rw [← hm] at hr hr1 ni
        unfold F10 F9
        have hnn : f_n r.2 = m := hr.2.2.2.2.2.2.2.2.2.1
        have hqq : f_queries r.2 = q := hr.2.2.2.2.2.2.2.2.2.2.1
        have hss : f_slide r.2 = S := hr.2.2.2.2.2.2.2.2.1
        rw [hnn, hqq]
        simp only [Option.bind_some]
        apply okP.bind
        refine okP.loop (P := fun e => okP (if r.1 = e then J0_198 s r.2 i else some (Sum.inl (0, H0 s r.2))) _) (fun w => 0 ≤ w.2.toInt ∧ w.2.toInt ≤ 4 ∧ w.1 = cq S m (min w.2.toInt.toNat q.toInt.toNat)) (fun w => (4 - w.2.toInt).toNat) ⟨by show (0 : Int) ≤ 0; decide, by show (0 : Int) ≤ 4; decide, by rw [show (0 : Int32).toInt.toNat = 0 from rfl, Nat.zero_min]; rfl⟩ (by show (4 - (0 : Int)).toNat < 4000; decide) ?_
        rintro ⟨a, w⟩ ⟨b1, b2, b3⟩
        simp only at b1 b2 b3
        unfold B0_146 J0_183
        simp only
        apply okP.ite <;> intro c4
        · rw [i_lt, e4] at c4
          have w2 : (w + 1).toInt = w.toInt + 1 := inc1 (by omega)
          have en : (w + 1).toInt.toNat = w.toInt.toNat + 1 := by omega
          apply okP.ite <;> intro cq'
          · rw [i_lt] at cq'
            unfold F13
            rw [vq hr hq.2, if_pos ⟨b1, cq'⟩, hss, ag b1 (by omega)]
            simp only [Option.bind_some]
            rw [if_neg (by decide)]
            simp only [Option.bind_some]
            obtain ⟨y, hy⟩ : ∃ y, y = S.getD w.toInt.toNat 0 := ⟨_, rfl⟩
            have t := (hs w.toInt.toNat (by omega)).2
            rw [← hy] at t ⊢
            rw [if_pos (by rw [i_lt, z0]; omega)]
            have qr : qrem m y = some (m % y) := by
              unfold qrem
              rw [if_neg (by intro z; rw [z] at t; revert t; decide)]
            rw [qr]
            simp only [Option.bind_some]
            apply okP.some
            refine ⟨⟨by simp only; omega, by simp only; omega, ?_⟩, by simp only; omega⟩
            simp only
            have m1 : min (w + 1).toInt.toNat q.toInt.toNat = w.toInt.toNat + 1 := by omega
            have m2 : min w.toInt.toNat q.toInt.toNat = w.toInt.toNat := by omega
            rw [m1, cq, ← hy, b3, m2]
          · rw [i_lt] at cq'
            apply okP.some
            refine ⟨⟨by simp only; omega, by simp only; omega, ?_⟩, by simp only; omega⟩
            simp only
            have m1 : min (w + 1).toInt.toNat q.toInt.toNat = min w.toInt.toNat q.toInt.toNat := by omega
            rw [m1, b3]
        · rw [i_lt, e4] at c4
          apply okP.some
          simp only [Sum.elim_inl]
          have m1 : min w.toInt.toNat q.toInt.toNat = q.toInt.toNat := by omega
          rw [if_pos (by rw [hr1, b3, m1])]
          exact rest ⟨lR, lS, hq, hs, by omega, by omega⟩ hr
  unfold F0
  rw [ho]
  simp only [Option.bind_some]
  rw [inv_ok hS g0 (by omega)]
  simp only [Option.bind_some]
  rw [if_neg (by decide)]
  obtain ⟨⟨r, τ⟩, q1, q2, q3⟩ := key
  rw [q1]
  simp only at q2
  subst q2
  exact ⟨τ, rfl, q3⟩
set_option maxRecDepth 65536 in
theorem comes_1 {Post : Tables → Env → Array Value → State → Outcome → State → Prop} (hpost : ∀ tb e args s v u, (limb_1_1.after args s (.returned v) u = true ∧ limb_1_2.after args s (.returned v) u = true ∧ True) → FrameEnd s (.returned v) u (Jvm.fieldLocs frame_1_writes args s ++ Jvm.arrayLocs frame_1_arrays args s ++ Jvm.staticLocs frame_1_statics s) 32 2304 → Post tb e args s (.returned v) u) :
    ArmFor flags0 classFile x code maxLocals ret World_1 tables_1 room_1 Calls_1 rest_1 Pre_1 Post := by
  intro l hfl _ _ p e ha hc hk s m args below hf hA hF happ hP
  obtain ⟨hcalls, hrest, hpre⟩ := hP
  obtain ⟨-, -, -, hnamed, -, -, -, hat⟩ := (Spec.applies_iff hf).mp happ
  obtain ⟨hg, hn⟩ := and_e (Cond.before_iff.mp (show (Jvm.Cond.and given_1 narrow_1).before args s = true from hpre))
  obtain ⟨g0, g1⟩ := and_e hg
  obtain ⟨w0, rfl⟩ : ∃ w0 : Value, args = #[w0] := by
    have hs : args.size = 1 := by simpa [Cond.value, given_1] using g0
    obtain ⟨L⟩ := args
    match L, hs with
    | [w0], _ => exact ⟨w0, rfl⟩
  have hw := fun d (hd : d ∈ tables_1) => atoms_spec (ws := Jvm.Cond.code x code maxLocals ret :: tables_1) hat d (List.mem_cons_of_mem _ hd)
  have hfit : Fit s := fun {y c} hc i hi => by
    obtain ⟨ha, rfl⟩ := Array.getElem?_eq_some_iff.mp hc
    have q := List.all_eq_true.mp ((Array.all_eq_true_iff_forall_mem.mp hF) _ (Array.getElem_mem ha)) i (List.mem_range.mpr hi)
    simpa [Array.getElem?_eq_getElem hi] using q
  obtain ⟨n1, n2⟩ := and_e hn
  obtain ⟨a, cl, xs, rfl, hA1, hA2, hlen⟩ := script_ok hfit n1 n2
  obtain ⟨τ, hF0, hc1, hs1⟩ := law_ok xs hlen
  have hlt := hA1.lt
  have Ad : QAd s.heap.size (fun k => match k with | 0 => a | k + 1 => s.heap.size + k) := ⟨fun k hk => by cases k with | zero => exact absurd hk (by decide) | succ k => rfl, fun i j h => by
    cases i with
    | zero => cases j with
      | zero => rfl
      | succ j => have h' : a = s.heap.size + j := h; exact absurd hA1.lt (by rw [h']; exact Nat.not_lt.mpr (Nat.le_add_right _ _))
    | succ i => cases j with
      | zero => have h' : s.heap.size + i = a := h; exact absurd hA1.lt (by rw [← h']; exact Nat.not_lt.mpr (Nat.le_add_right _ _))
      | succ j => have h' : s.heap.size + i = s.heap.size + j := h; omega⟩
  have hR : QRep s s.heap.size (fun k => match k with | 0 => a | k + 1 => s.heap.size + k) s.heap [.inr (.inl (.int, xs))] := ⟨Nat.le_refl _, rfl, fun k c h => by
    cases k with
    | zero => cases h; exact ⟨cl, hA1, hA2⟩
    | succ k => cases h⟩
  have T := tF0 (l := l) (Z := s) Ad (QW_ok hw) xs hF0
  have M := QTri.met (k := 0) (as := [.ref 0]) (by decide) T hR (Nat.le_of_ble_eq_true rfl) (fun q => by cases q) tables_1 (rm := room_1) (by decide) (by decide) hc1 hs1
  obtain ⟨n, o, h1, h2, h3, _, L, rfl, ⟨rfl, R', N⟩, hq⟩ := M p e ha hc hk s m _ below hf ((Spec.applies_iff_loose hf).mp happ).1 ⟨rfl, State.Warmed39.refl s, rfl⟩ trivial
  refine ⟨n, _, h1, h2, h3, hpost _ _ _ _ _ _ ⟨Cond.after_iff.mpr rfl, Cond.after_iff.mpr (eq_i res_at (Term.int_eval (1)) rfl), trivial⟩ ⟨hq.1, hq.2.1, (hq.2.2.sift fun y hy => Or.inr (N y hy)).mono hc1 hs1⟩⟩
theorem main_1_1 : Claimed_1_1 := comes_1 fun _ _ _ _ _ _ h hF => ⟨h.1, hF⟩
theorem main_1_2 : Claimed_1_2 := comes_1 fun _ _ _ _ _ _ h hF => ⟨h.2.1, hF⟩
end Jvm.Pilot.@@N@@
namespace Jvm.Pilot.@@N@@
open Jvm Jvm.ClassFile Sem Op Lib Jvm.Free Jvm.Stand Jvm.Pilot.@@N@@.Jvm.D
/-! MADE BY PROGRAM (witnessworld.py) out of the Statement's table words and the real class files: 9 classes; the members and pool entries that the words name. The judged class is class 1, her method 2. -/
namespace start1
open Jvm.ClassFile
def u (s : String) : CpInfo := .utf8 (stringToUtf16 s)
/-- a pool by its gaps: so many unusable entries, then the entry; so many at the end -/
def gap : Nat → List CpInfo → List CpInfo
  | 0, r => r
  | n + 1, r => .unusable :: gap n r
def poolList (es : List (Nat × CpInfo)) (last : Nat) : List CpInfo := es.foldr (fun e r => gap e.1 (e.2 :: r)) (gap last [])
def pool (es : List (Nat × CpInfo)) (last : Nat) : Array CpInfo := ⟨poolList es last⟩
def fileOf (pool : Array CpInfo) (this : Nat) (attrs : Array Attribute := #[]) (ms : Array MethodInfo := #[]) (fl : Nat := 33) (sup : Nat := 0) (ifs : Array Nat := #[]) (fds : Array FieldInfo := #[]) : ClassFile where
  minorVersion := 0
  majorVersion := 65
  constantPool := pool
  accessFlags := fl
  thisClass := this
  superClass := sup
  interfaces := ifs
  fields := fds
  methods := ms
  attributes := attrs
def plain (name : String) (sup : Option ClassId) : Class where
  name := name
  kind := .ordinary
  loader := none
  accessFlags := 33
  super := sup
  interfaces := #[]
  cf := none
  fields := #[]
  methods := #[]
  instanceTypes := #[]
  staticTypes := #[]
  resolved := #[]
  callSites := []
  init := .initialized
  statics := none
  mirror := none

def pool0 : Array CpInfo := pool [(5, u "<init>"), (0, u "()V"), (1, .class_ 10), (1, u "java/lang/Object")] 113

def k0c0 : Code := { maxStack := 0, maxLocals := 1, code := object_method_1_code, exceptionTable := #[], attributes := #[] }
def k0m0 : Method := { name := "<init>", desc := "()V", sig := { parameters := [], returnType := none }, accessFlags := 1, code := some k0c0 }
/-- java/lang/Object -/
def k0 : Class := { plain "java/lang/Object" none with
  accessFlags := 33
  interfaces := #[]
  cf := some (fileOf pool0 8 #[] #[{ accessFlags := 1, nameIndex := 5, descriptorIndex := 6, attributes := #[] }] 33 0 #[] #[])
  fields := #[]
  methods := #[k0m0]
  instanceTypes := #[]
  staticTypes := #[]
  resolved := Array.replicate 124 none
  statics := none }

def pool1 : Array CpInfo := pool [(2, .class_ 4), (1, u "java/lang/Object"), (0, u "<init>"), (0, u "()V"), (0, .methodref 8 9), (0, .class_ 10), (0, .nameAndType 11 12), (0, u "SliceAggregate"), (0, u "queryCount"), (0, u "()I"), (0, .methodref 8 14), (0, .nameAndType 15 12), (0, u "tupleCount"), (0, .methodref 8 17), (0, .nameAndType 18 19), (0, u "queryRange"), (0, u "(I)I"), (0, .methodref 8 21), (0, .nameAndType 22 19), (0, u "querySlide"), (0, .methodref 8 24), (0, .nameAndType 25 19), (0, u "evaluations"), (0, .methodref 8 27), (0, .nameAndType 28 19), (0, u "windowEnd"), (0, .methodref 8 30), (0, .nameAndType 31 19), (0, u "windowStart"), (0, .methodref 8 33), (0, .nameAndType 5 34), (0, u "(I)V"), (0, .methodref 36 37), (0, .class_ 38), (0, .nameAndType 39 40), (0, u "SliceAggregateL4"), (0, u "inv"), (0, u "(LSliceAggregate;)Z"), (0, .methodref 8 42), (0, .nameAndType 43 44), (0, u "addQuery"), (0, u "(II)I"), (0, .methodref 8 46), (0, .nameAndType 47 6), (0, u "clearStream"), (0, .methodref 8 49), (0, .nameAndType 50 51), (0, u "push"), (0, u "(IIII)I"), (3, u "law"), (0, u "([I)Z")] 4

def k1m0 : Method := { name := "<init>", desc := "()V", sig := { parameters := [], returnType := none }, accessFlags := 1, code := none }
def k1c1 : Code := { maxStack := 3, maxLocals := 9, code := method_2_code, exceptionTable := #[], attributes := #[] }
def k1m1 : Method := { name := "inv", desc := "(LSliceAggregate;)Z", sig := { parameters := [(.object "SliceAggregate")], returnType := some .boolean }, accessFlags := 10, code := some k1c1 }
def k1c2 : Code := { maxStack := 5, maxLocals := 14, code := code, exceptionTable := #[], attributes := #[] }
def k1m2 : Method := { name := "law", desc := "([I)Z", sig := { parameters := [(.array .int)], returnType := some .boolean }, accessFlags := 9, code := some k1c2 }
/-- SliceAggregateL4 -/
def k1 : Class := { plain "SliceAggregateL4" (some 0) with
  accessFlags := 49
  interfaces := #[]
  cf := some (fileOf pool1 36 #[] #[{ accessFlags := 1, nameIndex := 5, descriptorIndex := 6, attributes := #[] }, { accessFlags := 10, nameIndex := 39, descriptorIndex := 40, attributes := #[] }, { accessFlags := 9, nameIndex := 55, descriptorIndex := 56, attributes := #[] }] 49 2 #[] #[])
  fields := #[]
  methods := #[k1m0, k1m1, k1m2]
  instanceTypes := #[]
  staticTypes := #[]
  resolved := Array.replicate 61 none
  statics := none }

def pool2 : Array CpInfo := pool [(1, .methodref 2 3), (0, .class_ 4), (0, .nameAndType 5 6), (0, u "java/lang/Object"), (0, u "<init>"), (0, u "()V"), (0, .fieldref 8 9), (0, .class_ 10), (0, .nameAndType 11 12), (0, u "SliceAggregate"), (0, u "regTuple"), (0, u "I"), (0, .fieldref 8 14), (0, .nameAndType 15 12), (0, u "regA"), (0, .fieldref 8 17), (0, .nameAndType 18 12), (0, u "regB"), (0, .fieldref 8 20), (0, .nameAndType 21 12), (0, u "regC"), (0, .fieldref 8 23), (0, .nameAndType 24 12), (0, u "regCount"), (0, .fieldref 8 26), (0, .nameAndType 27 12), (0, u "slots"), (0, .fieldref 8 29), (0, .nameAndType 30 31), (0, u "range"), (0, u "[I"), (0, .fieldref 8 33), (0, .nameAndType 34 31), (0, u "slide"), (0, .fieldref 8 36), (0, .nameAndType 37 31), (0, u "frontSize"), (0, .fieldref 8 39), (0, .nameAndType 40 31), (0, u "backSize"), (0, .fieldref 8 42), (0, .nameAndType 43 31), (0, u "backElem"), (0, .fieldref 8 45), (0, .nameAndType 46 31), (0, u "frontAgg"), (0, .fieldref 8 48), (0, .nameAndType 49 31), (0, u "backAgg"), (0, .fieldref 8 51), (0, .nameAndType 52 31), (0, u "snap"), (0, .fieldref 8 54), (0, .nameAndType 55 31), (0, u "reg"), (0, .fieldref 8 57), (0, .nameAndType 58 12), (0, u "capacity"), (0, .fieldref 8 60), (0, .nameAndType 61 12), (0, u "queries"), (0, .fieldref 8 63), (0, .nameAndType 64 12), (0, u "n"), (0, .methodref 8 66), (0, .nameAndType 67 68), (0, u "resetQuery"), (0, u "(I)V"), (0, .methodref 8 70), (0, .nameAndType 71 72), (0, u "regSet"), (0, u "(IIIII)V"), (0, .methodref 8 74), (0, .nameAndType 75 68), (0, u "appendToQuery"), (0, .methodref 8 77), (0, .nameAndType 78 68), (0, u "takeSnapshot"), (0, .methodref 8 80), (0, .nameAndType 81 82), (0, u "validQuery"), (0, u "(I)Z"), (3, .methodref 8 87), (0, .nameAndType 88 89), (0, u "liveFold"), (0, u "(II)V"), (3, u "(II)I"), (0, .methodref 8 95), (0, .nameAndType 96 97), (0, u "endOf"), (0, u "(I)I"), (0, .methodref 8 99), (0, .nameAndType 100 68), (0, u "regIdentity"), (0, .methodref 8 102), (0, .nameAndType 103 89), (0, u "storeBackAgg"), (0, .methodref 8 105), (0, .nameAndType 106 89), (0, u "storeSnap"), (0, .methodref 8 108), (0, .nameAndType 109 68), (0, u "evictOldest"), (0, .methodref 8 111), (0, .nameAndType 112 113), (0, u "validSlot"), (0, u "(II)Z"), (0, .methodref 8 115), (0, .nameAndType 116 117), (0, u "storeBack"), (0, u "(III)V"), (0, .methodref 8 119), (0, .nameAndType 120 89), (0, u "loadBackAgg"), (0, .methodref 8 122), (0, .nameAndType 123 117), (0, u "regMul"), (0, .methodref 8 125), (0, .nameAndType 126 68), (0, u "flip"), (0, .methodref 8 128), (0, .nameAndType 129 117), (0, u "loadBack"), (0, .methodref 8 131), (0, .nameAndType 132 117), (0, u "storeFront"), (0, .methodref 8 134), (0, .nameAndType 135 117), (0, u "loadFront"), (0, .methodref 8 137), (0, .nameAndType 138 82), (0, u "validReg"), (0, .methodref 8 140), (0, .nameAndType 141 93), (0, u "slotOffset"), (0, u "ERR"), (2, u "MIN_RANGE"), (1, u "MAX_RANGE"), (1, u "MIN_SLIDE"), (0, u "MAX_SLIDE"), (0, u "MAX_QUERIES"), (7, u "addQuery"), (0, u "push"), (0, u "(IIII)I"), (2, u "windowStart"), (0, u "windowEnd"), (0, u "evaluations"), (0, u "queryRange"), (0, u "querySlide"), (0, u "queryCount"), (0, u "()I"), (0, u "tupleCount"), (0, u "clearStream")] 2

def k2c0 : Code := { maxStack := 2, maxLocals := 4, code := prog_1_method_1_code, exceptionTable := #[], attributes := #[] }
def k2m0 : Method := { name := "<init>", desc := "(I)V", sig := { parameters := [.int], returnType := none }, accessFlags := 1, code := some k2c0 }
def k2c1 : Code := { maxStack := 3, maxLocals := 4, code := prog_1_method_2_code, exceptionTable := #[], attributes := #[] }
def k2m1 : Method := { name := "addQuery", desc := "(II)I", sig := { parameters := [.int, .int], returnType := some .int }, accessFlags := 1, code := some k2c1 }
def k2c2 : Code := { maxStack := 6, maxLocals := 8, code := prog_1_method_3_code, exceptionTable := #[], attributes := #[] }
def k2m2 : Method := { name := "push", desc := "(IIII)I", sig := { parameters := [.int, .int, .int, .int], returnType := some .int }, accessFlags := 1, code := some k2c2 }
def k2c3 : Code := { maxStack := 3, maxLocals := 3, code := prog_1_method_6_code, exceptionTable := #[], attributes := #[] }
def k2m3 : Method := { name := "windowStart", desc := "(I)I", sig := { parameters := [.int], returnType := some .int }, accessFlags := 1, code := some k2c3 }
def k2c4 : Code := { maxStack := 2, maxLocals := 2, code := prog_1_method_7_code, exceptionTable := #[], attributes := #[] }
def k2m4 : Method := { name := "windowEnd", desc := "(I)I", sig := { parameters := [.int], returnType := some .int }, accessFlags := 1, code := some k2c4 }
def k2c5 : Code := { maxStack := 2, maxLocals := 3, code := prog_1_method_8_code, exceptionTable := #[], attributes := #[] }
def k2m5 : Method := { name := "evaluations", desc := "(I)I", sig := { parameters := [.int], returnType := some .int }, accessFlags := 1, code := some k2c5 }
def k2c6 : Code := { maxStack := 2, maxLocals := 2, code := prog_1_method_9_code, exceptionTable := #[], attributes := #[] }
def k2m6 : Method := { name := "queryRange", desc := "(I)I", sig := { parameters := [.int], returnType := some .int }, accessFlags := 1, code := some k2c6 }
def k2c7 : Code := { maxStack := 2, maxLocals := 2, code := prog_1_method_10_code, exceptionTable := #[], attributes := #[] }
def k2m7 : Method := { name := "querySlide", desc := "(I)I", sig := { parameters := [.int], returnType := some .int }, accessFlags := 1, code := some k2c7 }
def k2c8 : Code := { maxStack := 1, maxLocals := 1, code := prog_1_method_11_code, exceptionTable := #[], attributes := #[] }
def k2m8 : Method := { name := "queryCount", desc := "()I", sig := { parameters := [], returnType := some .int }, accessFlags := 1, code := some k2c8 }
def k2c9 : Code := { maxStack := 1, maxLocals := 1, code := prog_1_method_12_code, exceptionTable := #[], attributes := #[] }
def k2m9 : Method := { name := "tupleCount", desc := "()I", sig := { parameters := [], returnType := some .int }, accessFlags := 1, code := some k2c9 }
def k2c10 : Code := { maxStack := 2, maxLocals := 2, code := prog_1_method_13_code, exceptionTable := #[], attributes := #[] }
def k2m10 : Method := { name := "clearStream", desc := "()V", sig := { parameters := [], returnType := none }, accessFlags := 1, code := some k2c10 }
def k2c11 : Code := { maxStack := 2, maxLocals := 2, code := prog_1_method_14_code, exceptionTable := #[], attributes := #[] }
def k2m11 : Method := { name := "validQuery", desc := "(I)Z", sig := { parameters := [.int], returnType := some .boolean }, accessFlags := 2, code := some k2c11 }
def k2c12 : Code := { maxStack := 2, maxLocals := 2, code := prog_1_method_16_code, exceptionTable := #[], attributes := #[] }
def k2m12 : Method := { name := "validReg", desc := "(I)Z", sig := { parameters := [.int], returnType := some .boolean }, accessFlags := 2, code := some k2c12 }
def k2c13 : Code := { maxStack := 2, maxLocals := 3, code := prog_1_method_17_code, exceptionTable := #[], attributes := #[] }
def k2m13 : Method := { name := "validSlot", desc := "(II)Z", sig := { parameters := [.int, .int], returnType := some .boolean }, accessFlags := 2, code := some k2c13 }
def k2c14 : Code := { maxStack := 2, maxLocals := 3, code := prog_1_method_18_code, exceptionTable := #[], attributes := #[] }
def k2m14 : Method := { name := "slotOffset", desc := "(II)I", sig := { parameters := [.int, .int], returnType := some .int }, accessFlags := 2, code := some k2c14 }
def k2c15 : Code := { maxStack := 3, maxLocals := 3, code := prog_1_method_19_code, exceptionTable := #[], attributes := #[] }
def k2m15 : Method := { name := "endOf", desc := "(I)I", sig := { parameters := [.int], returnType := some .int }, accessFlags := 2, code := some k2c15 }
def k2c16 : Code := { maxStack := 3, maxLocals := 2, code := prog_1_method_20_code, exceptionTable := #[], attributes := #[] }
def k2m16 : Method := { name := "resetQuery", desc := "(I)V", sig := { parameters := [.int], returnType := none }, accessFlags := 2, code := some k2c16 }
def k2c17 : Code := { maxStack := 4, maxLocals := 4, code := prog_1_method_21_code, exceptionTable := #[], attributes := #[] }
def k2m17 : Method := { name := "appendToQuery", desc := "(I)V", sig := { parameters := [.int], returnType := none }, accessFlags := 2, code := some k2c17 }
def k2c18 : Code := { maxStack := 4, maxLocals := 2, code := prog_1_method_22_code, exceptionTable := #[], attributes := #[] }
def k2m18 : Method := { name := "evictOldest", desc := "(I)V", sig := { parameters := [.int], returnType := none }, accessFlags := 2, code := some k2c18 }
def k2c19 : Code := { maxStack := 5, maxLocals := 4, code := prog_1_method_23_code, exceptionTable := #[], attributes := #[] }
def k2m19 : Method := { name := "flip", desc := "(I)V", sig := { parameters := [.int], returnType := none }, accessFlags := 2, code := some k2c19 }
def k2c20 : Code := { maxStack := 5, maxLocals := 4, code := prog_1_method_24_code, exceptionTable := #[], attributes := #[] }
def k2m20 : Method := { name := "liveFold", desc := "(II)V", sig := { parameters := [.int, .int], returnType := none }, accessFlags := 2, code := some k2c20 }
def k2c21 : Code := { maxStack := 3, maxLocals := 2, code := prog_1_method_25_code, exceptionTable := #[], attributes := #[] }
def k2m21 : Method := { name := "takeSnapshot", desc := "(I)V", sig := { parameters := [.int], returnType := none }, accessFlags := 2, code := some k2c21 }
def k2c22 : Code := { maxStack := 3, maxLocals := 7, code := prog_1_method_26_code, exceptionTable := #[], attributes := #[] }
def k2m22 : Method := { name := "regSet", desc := "(IIIII)V", sig := { parameters := [.int, .int, .int, .int, .int], returnType := none }, accessFlags := 2, code := some k2c22 }
def k2c23 : Code := { maxStack := 6, maxLocals := 2, code := prog_1_method_27_code, exceptionTable := #[], attributes := #[] }
def k2m23 : Method := { name := "regIdentity", desc := "(I)V", sig := { parameters := [.int], returnType := none }, accessFlags := 2, code := some k2c23 }
def k2c24 : Code := { maxStack := 5, maxLocals := 15, code := prog_1_method_29_code, exceptionTable := #[], attributes := #[] }
def k2m24 : Method := { name := "regMul", desc := "(III)V", sig := { parameters := [.int, .int, .int], returnType := none }, accessFlags := 2, code := some k2c24 }
def k2c25 : Code := { maxStack := 5, maxLocals := 7, code := prog_1_method_30_code, exceptionTable := #[], attributes := #[] }
def k2m25 : Method := { name := "loadBack", desc := "(III)V", sig := { parameters := [.int, .int, .int], returnType := none }, accessFlags := 2, code := some k2c25 }
def k2c26 : Code := { maxStack := 5, maxLocals := 7, code := prog_1_method_31_code, exceptionTable := #[], attributes := #[] }
def k2m26 : Method := { name := "storeBack", desc := "(III)V", sig := { parameters := [.int, .int, .int], returnType := none }, accessFlags := 2, code := some k2c26 }
def k2c27 : Code := { maxStack := 5, maxLocals := 7, code := prog_1_method_32_code, exceptionTable := #[], attributes := #[] }
def k2m27 : Method := { name := "loadFront", desc := "(III)V", sig := { parameters := [.int, .int, .int], returnType := none }, accessFlags := 2, code := some k2c27 }
def k2c28 : Code := { maxStack := 5, maxLocals := 7, code := prog_1_method_33_code, exceptionTable := #[], attributes := #[] }
def k2m28 : Method := { name := "storeFront", desc := "(III)V", sig := { parameters := [.int, .int, .int], returnType := none }, accessFlags := 2, code := some k2c28 }
def k2c29 : Code := { maxStack := 5, maxLocals := 5, code := prog_1_method_34_code, exceptionTable := #[], attributes := #[] }
def k2m29 : Method := { name := "loadBackAgg", desc := "(II)V", sig := { parameters := [.int, .int], returnType := none }, accessFlags := 2, code := some k2c29 }
def k2c30 : Code := { maxStack := 5, maxLocals := 5, code := prog_1_method_35_code, exceptionTable := #[], attributes := #[] }
def k2m30 : Method := { name := "storeBackAgg", desc := "(II)V", sig := { parameters := [.int, .int], returnType := none }, accessFlags := 2, code := some k2c30 }
def k2c31 : Code := { maxStack := 5, maxLocals := 5, code := prog_1_method_36_code, exceptionTable := #[], attributes := #[] }
def k2m31 : Method := { name := "storeSnap", desc := "(II)V", sig := { parameters := [.int, .int], returnType := none }, accessFlags := 2, code := some k2c31 }
/-- SliceAggregate -/
def k2 : Class := { plain "SliceAggregate" (some 0) with
  accessFlags := 49
  interfaces := #[]
  cf := some (fileOf pool2 8 #[] #[{ accessFlags := 1, nameIndex := 5, descriptorIndex := 68, attributes := #[] }, { accessFlags := 1, nameIndex := 159, descriptorIndex := 93, attributes := #[] }, { accessFlags := 1, nameIndex := 160, descriptorIndex := 161, attributes := #[] }, { accessFlags := 1, nameIndex := 164, descriptorIndex := 97, attributes := #[] }, { accessFlags := 1, nameIndex := 165, descriptorIndex := 97, attributes := #[] }, { accessFlags := 1, nameIndex := 166, descriptorIndex := 97, attributes := #[] }, { accessFlags := 1, nameIndex := 167, descriptorIndex := 97, attributes := #[] }, { accessFlags := 1, nameIndex := 168, descriptorIndex := 97, attributes := #[] }, { accessFlags := 1, nameIndex := 169, descriptorIndex := 170, attributes := #[] }, { accessFlags := 1, nameIndex := 171, descriptorIndex := 170, attributes := #[] }, { accessFlags := 1, nameIndex := 172, descriptorIndex := 6, attributes := #[] }, { accessFlags := 2, nameIndex := 81, descriptorIndex := 82, attributes := #[] }, { accessFlags := 2, nameIndex := 138, descriptorIndex := 82, attributes := #[] }, { accessFlags := 2, nameIndex := 112, descriptorIndex := 113, attributes := #[] }, { accessFlags := 2, nameIndex := 141, descriptorIndex := 93, attributes := #[] }, { accessFlags := 2, nameIndex := 96, descriptorIndex := 97, attributes := #[] }, { accessFlags := 2, nameIndex := 67, descriptorIndex := 68, attributes := #[] }, { accessFlags := 2, nameIndex := 75, descriptorIndex := 68, attributes := #[] }, { accessFlags := 2, nameIndex := 109, descriptorIndex := 68, attributes := #[] }, { accessFlags := 2, nameIndex := 126, descriptorIndex := 68, attributes := #[] }, { accessFlags := 2, nameIndex := 88, descriptorIndex := 89, attributes := #[] }, { accessFlags := 2, nameIndex := 78, descriptorIndex := 68, attributes := #[] }, { accessFlags := 2, nameIndex := 71, descriptorIndex := 72, attributes := #[] }, { accessFlags := 2, nameIndex := 100, descriptorIndex := 68, attributes := #[] }, { accessFlags := 2, nameIndex := 123, descriptorIndex := 117, attributes := #[] }, { accessFlags := 2, nameIndex := 129, descriptorIndex := 117, attributes := #[] }, { accessFlags := 2, nameIndex := 116, descriptorIndex := 117, attributes := #[] }, { accessFlags := 2, nameIndex := 135, descriptorIndex := 117, attributes := #[] }, { accessFlags := 2, nameIndex := 132, descriptorIndex := 117, attributes := #[] }, { accessFlags := 2, nameIndex := 120, descriptorIndex := 89, attributes := #[] }, { accessFlags := 2, nameIndex := 103, descriptorIndex := 89, attributes := #[] }, { accessFlags := 2, nameIndex := 106, descriptorIndex := 89, attributes := #[] }] 49 2 #[] #[{ accessFlags := 25, nameIndex := 142, descriptorIndex := 12, attributes := #[] }, { accessFlags := 25, nameIndex := 145, descriptorIndex := 12, attributes := #[] }, { accessFlags := 25, nameIndex := 147, descriptorIndex := 12, attributes := #[] }, { accessFlags := 25, nameIndex := 149, descriptorIndex := 12, attributes := #[] }, { accessFlags := 25, nameIndex := 150, descriptorIndex := 12, attributes := #[] }, { accessFlags := 25, nameIndex := 151, descriptorIndex := 12, attributes := #[] }, { accessFlags := 18, nameIndex := 11, descriptorIndex := 12, attributes := #[] }, { accessFlags := 18, nameIndex := 15, descriptorIndex := 12, attributes := #[] }, { accessFlags := 18, nameIndex := 18, descriptorIndex := 12, attributes := #[] }, { accessFlags := 18, nameIndex := 21, descriptorIndex := 12, attributes := #[] }, { accessFlags := 18, nameIndex := 24, descriptorIndex := 12, attributes := #[] }, { accessFlags := 18, nameIndex := 27, descriptorIndex := 12, attributes := #[] }, { accessFlags := 2, nameIndex := 58, descriptorIndex := 12, attributes := #[] }, { accessFlags := 2, nameIndex := 61, descriptorIndex := 12, attributes := #[] }, { accessFlags := 2, nameIndex := 64, descriptorIndex := 12, attributes := #[] }, { accessFlags := 18, nameIndex := 30, descriptorIndex := 31, attributes := #[] }, { accessFlags := 18, nameIndex := 34, descriptorIndex := 31, attributes := #[] }, { accessFlags := 18, nameIndex := 37, descriptorIndex := 31, attributes := #[] }, { accessFlags := 18, nameIndex := 40, descriptorIndex := 31, attributes := #[] }, { accessFlags := 18, nameIndex := 43, descriptorIndex := 31, attributes := #[] }, { accessFlags := 18, nameIndex := 46, descriptorIndex := 31, attributes := #[] }, { accessFlags := 18, nameIndex := 49, descriptorIndex := 31, attributes := #[] }, { accessFlags := 18, nameIndex := 52, descriptorIndex := 31, attributes := #[] }, { accessFlags := 18, nameIndex := 55, descriptorIndex := 31, attributes := #[] }])
  fields := #[{ name := "ERR", type := .int, accessFlags := 25, slot := 0, constantValue := 0 }, { name := "MIN_RANGE", type := .int, accessFlags := 25, slot := 1, constantValue := 0 }, { name := "MAX_RANGE", type := .int, accessFlags := 25, slot := 2, constantValue := 0 }, { name := "MIN_SLIDE", type := .int, accessFlags := 25, slot := 3, constantValue := 0 }, { name := "MAX_SLIDE", type := .int, accessFlags := 25, slot := 4, constantValue := 0 }, { name := "MAX_QUERIES", type := .int, accessFlags := 25, slot := 5, constantValue := 0 }, { name := "regTuple", type := .int, accessFlags := 18, slot := 0, constantValue := 0 }, { name := "regA", type := .int, accessFlags := 18, slot := 1, constantValue := 0 }, { name := "regB", type := .int, accessFlags := 18, slot := 2, constantValue := 0 }, { name := "regC", type := .int, accessFlags := 18, slot := 3, constantValue := 0 }, { name := "regCount", type := .int, accessFlags := 18, slot := 4, constantValue := 0 }, { name := "slots", type := .int, accessFlags := 18, slot := 5, constantValue := 0 }, { name := "capacity", type := .int, accessFlags := 2, slot := 6, constantValue := 0 }, { name := "queries", type := .int, accessFlags := 2, slot := 7, constantValue := 0 }, { name := "n", type := .int, accessFlags := 2, slot := 8, constantValue := 0 }, { name := "range", type := (.array .int), accessFlags := 18, slot := 9, constantValue := 0 }, { name := "slide", type := (.array .int), accessFlags := 18, slot := 10, constantValue := 0 }, { name := "frontSize", type := (.array .int), accessFlags := 18, slot := 11, constantValue := 0 }, { name := "backSize", type := (.array .int), accessFlags := 18, slot := 12, constantValue := 0 }, { name := "backElem", type := (.array .int), accessFlags := 18, slot := 13, constantValue := 0 }, { name := "frontAgg", type := (.array .int), accessFlags := 18, slot := 14, constantValue := 0 }, { name := "backAgg", type := (.array .int), accessFlags := 18, slot := 15, constantValue := 0 }, { name := "snap", type := (.array .int), accessFlags := 18, slot := 16, constantValue := 0 }, { name := "reg", type := (.array .int), accessFlags := 18, slot := 17, constantValue := 0 }]
  methods := #[k2m0, k2m1, k2m2, k2m3, k2m4, k2m5, k2m6, k2m7, k2m8, k2m9, k2m10, k2m11, k2m12, k2m13, k2m14, k2m15, k2m16, k2m17, k2m18, k2m19, k2m20, k2m21, k2m22, k2m23, k2m24, k2m25, k2m26, k2m27, k2m28, k2m29, k2m30, k2m31]
  instanceTypes := #[.int, .int, .int, .int, .int, .int, .int, .int, .int, (.array .int), (.array .int), (.array .int), (.array .int), (.array .int), (.array .int), (.array .int), (.array .int), (.array .int)]
  staticTypes := #[.int, .int, .int, .int, .int, .int]
  resolved := Array.replicate 175 none
  statics := none }

def pool3 : Array CpInfo := pool [(1, u "java/lang/Cloneable"), (0, .class_ 1), (0, u "java/lang/Object"), (0, .class_ 3)] 3

/-- java/lang/Cloneable -/
def k3 : Class := { plain "java/lang/Cloneable" (some 0) with
  accessFlags := 1537
  interfaces := #[]
  cf := some (fileOf pool3 2 #[] #[] 1537 4 #[] #[])
  fields := #[]
  methods := #[]
  instanceTypes := #[]
  staticTypes := #[]
  resolved := Array.replicate 8 none
  statics := none }

def pool4 : Array CpInfo := pool [(1, u "java/io/Serializable"), (0, .class_ 1), (0, u "java/lang/Object"), (0, .class_ 3)] 3

/-- java/io/Serializable -/
def k4 : Class := { plain "java/io/Serializable" (some 0) with
  accessFlags := 1537
  interfaces := #[]
  cf := some (fileOf pool4 2 #[] #[] 1537 4 #[] #[])
  fields := #[]
  methods := #[]
  instanceTypes := #[]
  staticTypes := #[]
  resolved := Array.replicate 8 none
  statics := none }

/-- the primitive byte -/
def k5 : Class := { plain "byte" none with kind := .primitive 'B', accessFlags := 0x411 }
/-- [B -/
def k6 : Class := { plain "[B" (some 0) with kind := .array 5 .byte, interfaces := #[3, 4], accessFlags := 1041 }

/-- the primitive int -/
def k7 : Class := { plain "int" none with kind := .primitive 'I', accessFlags := 0x411 }
/-- [I -/
def k8 : Class := { plain "[I" (some 0) with kind := .array 7 .int, interfaces := #[3, 4], accessFlags := 1041 }

def heap : Heap := #[{ cls := 8, slots := #[.int 1, .int 2, .int 3], vm := .none }]
def classes : Array Class := #[k0, k1, k2, k3, k4, k5, k6, k7, k8]
def interned : List (Array UInt16 × Addr) := []
def slotsUsed : Nat := 3
def theMethod : MethodId := ⟨1, 2⟩
def args0 : Array Value := #[.ref 0]
def aboutOver (below : List Frame) : State where
  vm := { classes := classes, interned := interned.toArray }
  heap := heap
  slotsUsed := slotsUsed
  threads := #[{ frames := .invoking theMethod args0 :: below }]
def below0 : List Frame := [.native { method := ⟨0, 0⟩, args := #[] }]
def about1 : State := aboutOver below0
def p0 : Program := .bare "" "" ""
def e0 : Env := launch0.env 0 0 0
theorem w_frames : about1.frames = Frame.invoking theMethod args0 :: below0 := rfl
set_option maxRecDepth 65536 in
theorem w_args : argsFit about1.vm theMethod args0 = true := by decide +kernel
set_option maxRecDepth 65536 in
theorem w_heap : heapFits about1 = true := by decide +kernel
set_option maxRecDepth 65536 in
theorem w_runnable : about1.curStatus? = some .runnable := by decide +kernel
set_option maxRecDepth 65536 in
theorem w_alone : about1.alone = true := by decide +kernel
set_option maxRecDepth 65536 in
theorem w_named : about1.methodNamed? x = some theMethod := by decide +kernel
set_option maxRecDepth 65536 in
theorem w_hears : about1.hears theMethod below0 = true := by decide +kernel
set_option maxRecDepth 65536 in
theorem w_ripe : about1.ripe theMethod args0 below0 = true := by decide +kernel
theorem w_running : about1.status = .running := rfl
set_option maxRecDepth 65536 in
theorem w_room : about1.hasRoom e0.platform room_1 = true :=
  launch0.hasRoom_least _ room_1 (by decide +kernel) (by decide +kernel) (by decide +kernel) (by decide +kernel) (by decide +kernel) (by decide +kernel)
theorem allAtoms_all (ts : List Jvm.Cond) (a : Array Jvm.Value) (st : Jvm.State) : (allAtoms ts).before a st = ts.all (fun c => c.before a st) := by
  induction ts with
  | nil => rfl
  | cons c t ih =>
    show (Jvm.Cond.and c (allAtoms t)).before a st = _
    rw [Jvm.Cond.before_and, ih, List.all_cons]
def words1 : List Jvm.Cond := Jvm.Cond.code x code maxLocals ret :: tables_1
/-- a 'code' word, met by the world's own term for the bytes: nothing is compared byte by byte -/
theorem code_word {y : MethodName} {bytes : ByteArray} {mx : Nat} {rt : Option FieldType} {a : Array Value} {s : State} {m : MethodId} {meth : Method} {c : Code} (h1 : s.methodNamed? y = some m) (h2 : s.vm.method? m = some meth) (h3 : meth.code = some c) (h4 : c.code = bytes)
    (h5 : (c.maxLocals == mx && c.exceptionTable.isEmpty && decide (c.maxStack ≤ mostOperands) && decide (meth.sig.returnType = rt) && !meth.locks && decide (parseMethodDescriptor y.desc = some meth.sig)) = true) : (Jvm.Cond.code y bytes mx rt).before a s = true := by
  simp only [Bool.and_eq_true, beq_iff_eq, Bool.not_eq_true', decide_eq_true_eq] at h5
  obtain ⟨⟨⟨⟨⟨g1, g2⟩, g3⟩, g4⟩, g5⟩, g6⟩ := h5
  simp [Cond.before, Cond.holds, Cond.value, h1, h2, h3, h4, g1, g2, g3, g4, g5, g6]
def isCode : Jvm.Cond → Bool
  | .code _ _ _ _ => true
  | _ => false
theorem all_split {L : List Jvm.Cond} {P : Jvm.Cond → Bool} (h1 : L.all (fun c => isCode c || P c) = true) (h2 : ∀ c ∈ L.filter isCode, P c = true) : L.all P = true := by
  refine List.all_eq_true.mpr fun c hc => ?_
  have h := List.all_eq_true.mp h1 c hc
  rcases Bool.eq_false_or_eq_true (isCode c) with hi | hi
  · exact h2 c (List.mem_filter.mpr ⟨hc, hi⟩)
  · simpa [hi] using h
set_option maxRecDepth 65536 in
theorem w_c0 : (Jvm.Cond.code x code maxLocals ret).before args0 about1 = true := code_word (m := ⟨1, 2⟩) (meth := k1m2) (c := k1c2) (by decide +kernel) rfl rfl rfl (by decide +kernel)
set_option maxRecDepth 65536 in
theorem w_c1 : (Jvm.Cond.code ({ cls := "SliceAggregate", name := "<init>", desc := "(I)V" } : Jvm.MethodName) prog_1_method_1_code (4 : Nat) (Option.none : Option Jvm.ClassFile.FieldType)).before args0 about1 = true := code_word (m := ⟨2, 0⟩) (meth := k2m0) (c := k2c0) (by decide +kernel) rfl rfl rfl (by decide +kernel)
set_option maxRecDepth 65536 in
theorem w_c2 : (Jvm.Cond.code ({ cls := "java/lang/Object", name := "<init>", desc := "()V" } : Jvm.MethodName) object_method_1_code (1 : Nat) (Option.none : Option Jvm.ClassFile.FieldType)).before args0 about1 = true := code_word (m := ⟨0, 0⟩) (meth := k0m0) (c := k0c0) (by decide +kernel) rfl rfl rfl (by decide +kernel)
set_option maxRecDepth 65536 in
theorem w_c3 : (Jvm.Cond.code ({ cls := "SliceAggregate", name := "resetQuery", desc := "(I)V" } : Jvm.MethodName) prog_1_method_20_code (2 : Nat) (Option.none : Option Jvm.ClassFile.FieldType)).before args0 about1 = true := code_word (m := ⟨2, 16⟩) (meth := k2m16) (c := k2c16) (by decide +kernel) rfl rfl rfl (by decide +kernel)
set_option maxRecDepth 65536 in
theorem w_c4 : (Jvm.Cond.code ({ cls := "SliceAggregate", name := "regIdentity", desc := "(I)V" } : Jvm.MethodName) prog_1_method_27_code (2 : Nat) (Option.none : Option Jvm.ClassFile.FieldType)).before args0 about1 = true := code_word (m := ⟨2, 23⟩) (meth := k2m23) (c := k2c23) (by decide +kernel) rfl rfl rfl (by decide +kernel)
set_option maxRecDepth 65536 in
theorem w_c5 : (Jvm.Cond.code ({ cls := "SliceAggregate", name := "regSet", desc := "(IIIII)V" } : Jvm.MethodName) prog_1_method_26_code (7 : Nat) (Option.none : Option Jvm.ClassFile.FieldType)).before args0 about1 = true := code_word (m := ⟨2, 22⟩) (meth := k2m22) (c := k2c22) (by decide +kernel) rfl rfl rfl (by decide +kernel)
set_option maxRecDepth 65536 in
theorem w_c6 : (Jvm.Cond.code ({ cls := "SliceAggregate", name := "validReg", desc := "(I)Z" } : Jvm.MethodName) prog_1_method_16_code (2 : Nat) (Option.some Jvm.ClassFile.FieldType.boolean)).before args0 about1 = true := code_word (m := ⟨2, 12⟩) (meth := k2m12) (c := k2c12) (by decide +kernel) rfl rfl rfl (by decide +kernel)
set_option maxRecDepth 65536 in
theorem w_c7 : (Jvm.Cond.code ({ cls := "SliceAggregate", name := "storeBackAgg", desc := "(II)V" } : Jvm.MethodName) prog_1_method_35_code (5 : Nat) (Option.none : Option Jvm.ClassFile.FieldType)).before args0 about1 = true := code_word (m := ⟨2, 30⟩) (meth := k2m30) (c := k2c30) (by decide +kernel) rfl rfl rfl (by decide +kernel)
set_option maxRecDepth 65536 in
theorem w_c8 : (Jvm.Cond.code ({ cls := "SliceAggregate", name := "storeSnap", desc := "(II)V" } : Jvm.MethodName) prog_1_method_36_code (5 : Nat) (Option.none : Option Jvm.ClassFile.FieldType)).before args0 about1 = true := code_word (m := ⟨2, 31⟩) (meth := k2m31) (c := k2c31) (by decide +kernel) rfl rfl rfl (by decide +kernel)
set_option maxRecDepth 65536 in
theorem w_c9 : (Jvm.Cond.code ({ cls := "SliceAggregateL4", name := "inv", desc := "(LSliceAggregate;)Z" } : Jvm.MethodName) method_2_code (9 : Nat) (Option.some Jvm.ClassFile.FieldType.boolean)).before args0 about1 = true := code_word (m := ⟨1, 1⟩) (meth := k1m1) (c := k1c1) (by decide +kernel) rfl rfl rfl (by decide +kernel)
set_option maxRecDepth 65536 in
theorem w_c10 : (Jvm.Cond.code ({ cls := "SliceAggregate", name := "queryCount", desc := "()I" } : Jvm.MethodName) prog_1_method_11_code (1 : Nat) (Option.some Jvm.ClassFile.FieldType.int)).before args0 about1 = true := code_word (m := ⟨2, 8⟩) (meth := k2m8) (c := k2c8) (by decide +kernel) rfl rfl rfl (by decide +kernel)
set_option maxRecDepth 65536 in
theorem w_c11 : (Jvm.Cond.code ({ cls := "SliceAggregate", name := "tupleCount", desc := "()I" } : Jvm.MethodName) prog_1_method_12_code (1 : Nat) (Option.some Jvm.ClassFile.FieldType.int)).before args0 about1 = true := code_word (m := ⟨2, 9⟩) (meth := k2m9) (c := k2c9) (by decide +kernel) rfl rfl rfl (by decide +kernel)
set_option maxRecDepth 65536 in
theorem w_c12 : (Jvm.Cond.code ({ cls := "SliceAggregate", name := "queryRange", desc := "(I)I" } : Jvm.MethodName) prog_1_method_9_code (2 : Nat) (Option.some Jvm.ClassFile.FieldType.int)).before args0 about1 = true := code_word (m := ⟨2, 6⟩) (meth := k2m6) (c := k2c6) (by decide +kernel) rfl rfl rfl (by decide +kernel)
set_option maxRecDepth 65536 in
theorem w_c13 : (Jvm.Cond.code ({ cls := "SliceAggregate", name := "validQuery", desc := "(I)Z" } : Jvm.MethodName) prog_1_method_14_code (2 : Nat) (Option.some Jvm.ClassFile.FieldType.boolean)).before args0 about1 = true := code_word (m := ⟨2, 11⟩) (meth := k2m11) (c := k2c11) (by decide +kernel) rfl rfl rfl (by decide +kernel)
set_option maxRecDepth 65536 in
theorem w_c14 : (Jvm.Cond.code ({ cls := "SliceAggregate", name := "querySlide", desc := "(I)I" } : Jvm.MethodName) prog_1_method_10_code (2 : Nat) (Option.some Jvm.ClassFile.FieldType.int)).before args0 about1 = true := code_word (m := ⟨2, 7⟩) (meth := k2m7) (c := k2c7) (by decide +kernel) rfl rfl rfl (by decide +kernel)
set_option maxRecDepth 65536 in
theorem w_c15 : (Jvm.Cond.code ({ cls := "SliceAggregate", name := "evaluations", desc := "(I)I" } : Jvm.MethodName) prog_1_method_8_code (3 : Nat) (Option.some Jvm.ClassFile.FieldType.int)).before args0 about1 = true := code_word (m := ⟨2, 5⟩) (meth := k2m5) (c := k2c5) (by decide +kernel) rfl rfl rfl (by decide +kernel)
set_option maxRecDepth 65536 in
theorem w_c16 : (Jvm.Cond.code ({ cls := "SliceAggregate", name := "windowEnd", desc := "(I)I" } : Jvm.MethodName) prog_1_method_7_code (2 : Nat) (Option.some Jvm.ClassFile.FieldType.int)).before args0 about1 = true := code_word (m := ⟨2, 4⟩) (meth := k2m4) (c := k2c4) (by decide +kernel) rfl rfl rfl (by decide +kernel)
set_option maxRecDepth 65536 in
theorem w_c17 : (Jvm.Cond.code ({ cls := "SliceAggregate", name := "windowStart", desc := "(I)I" } : Jvm.MethodName) prog_1_method_6_code (3 : Nat) (Option.some Jvm.ClassFile.FieldType.int)).before args0 about1 = true := code_word (m := ⟨2, 3⟩) (meth := k2m3) (c := k2c3) (by decide +kernel) rfl rfl rfl (by decide +kernel)
set_option maxRecDepth 65536 in
theorem w_c18 : (Jvm.Cond.code ({ cls := "SliceAggregate", name := "clearStream", desc := "()V" } : Jvm.MethodName) prog_1_method_13_code (2 : Nat) (Option.none : Option Jvm.ClassFile.FieldType)).before args0 about1 = true := code_word (m := ⟨2, 10⟩) (meth := k2m10) (c := k2c10) (by decide +kernel) rfl rfl rfl (by decide +kernel)
set_option maxRecDepth 65536 in
theorem w_c19 : (Jvm.Cond.code ({ cls := "SliceAggregate", name := "addQuery", desc := "(II)I" } : Jvm.MethodName) prog_1_method_2_code (4 : Nat) (Option.some Jvm.ClassFile.FieldType.int)).before args0 about1 = true := code_word (m := ⟨2, 1⟩) (meth := k2m1) (c := k2c1) (by decide +kernel) rfl rfl rfl (by decide +kernel)
set_option maxRecDepth 65536 in
theorem w_c20 : (Jvm.Cond.code ({ cls := "SliceAggregate", name := "endOf", desc := "(I)I" } : Jvm.MethodName) prog_1_method_19_code (3 : Nat) (Option.some Jvm.ClassFile.FieldType.int)).before args0 about1 = true := code_word (m := ⟨2, 15⟩) (meth := k2m15) (c := k2c15) (by decide +kernel) rfl rfl rfl (by decide +kernel)
set_option maxRecDepth 65536 in
theorem w_c21 : (Jvm.Cond.code ({ cls := "SliceAggregate", name := "push", desc := "(IIII)I" } : Jvm.MethodName) prog_1_method_3_code (8 : Nat) (Option.some Jvm.ClassFile.FieldType.int)).before args0 about1 = true := code_word (m := ⟨2, 2⟩) (meth := k2m2) (c := k2c2) (by decide +kernel) rfl rfl rfl (by decide +kernel)
set_option maxRecDepth 65536 in
theorem w_c22 : (Jvm.Cond.code ({ cls := "SliceAggregate", name := "appendToQuery", desc := "(I)V" } : Jvm.MethodName) prog_1_method_21_code (4 : Nat) (Option.none : Option Jvm.ClassFile.FieldType)).before args0 about1 = true := code_word (m := ⟨2, 17⟩) (meth := k2m17) (c := k2c17) (by decide +kernel) rfl rfl rfl (by decide +kernel)
set_option maxRecDepth 65536 in
theorem w_c23 : (Jvm.Cond.code ({ cls := "SliceAggregate", name := "validSlot", desc := "(II)Z" } : Jvm.MethodName) prog_1_method_17_code (3 : Nat) (Option.some Jvm.ClassFile.FieldType.boolean)).before args0 about1 = true := code_word (m := ⟨2, 13⟩) (meth := k2m13) (c := k2c13) (by decide +kernel) rfl rfl rfl (by decide +kernel)
set_option maxRecDepth 65536 in
theorem w_c24 : (Jvm.Cond.code ({ cls := "SliceAggregate", name := "storeBack", desc := "(III)V" } : Jvm.MethodName) prog_1_method_31_code (7 : Nat) (Option.none : Option Jvm.ClassFile.FieldType)).before args0 about1 = true := code_word (m := ⟨2, 26⟩) (meth := k2m26) (c := k2c26) (by decide +kernel) rfl rfl rfl (by decide +kernel)
set_option maxRecDepth 65536 in
theorem w_c25 : (Jvm.Cond.code ({ cls := "SliceAggregate", name := "slotOffset", desc := "(II)I" } : Jvm.MethodName) prog_1_method_18_code (3 : Nat) (Option.some Jvm.ClassFile.FieldType.int)).before args0 about1 = true := code_word (m := ⟨2, 14⟩) (meth := k2m14) (c := k2c14) (by decide +kernel) rfl rfl rfl (by decide +kernel)
set_option maxRecDepth 65536 in
theorem w_c26 : (Jvm.Cond.code ({ cls := "SliceAggregate", name := "loadBackAgg", desc := "(II)V" } : Jvm.MethodName) prog_1_method_34_code (5 : Nat) (Option.none : Option Jvm.ClassFile.FieldType)).before args0 about1 = true := code_word (m := ⟨2, 29⟩) (meth := k2m29) (c := k2c29) (by decide +kernel) rfl rfl rfl (by decide +kernel)
set_option maxRecDepth 65536 in
theorem w_c27 : (Jvm.Cond.code ({ cls := "SliceAggregate", name := "regMul", desc := "(III)V" } : Jvm.MethodName) prog_1_method_29_code (15 : Nat) (Option.none : Option Jvm.ClassFile.FieldType)).before args0 about1 = true := code_word (m := ⟨2, 24⟩) (meth := k2m24) (c := k2c24) (by decide +kernel) rfl rfl rfl (by decide +kernel)
set_option maxRecDepth 65536 in
theorem w_c28 : (Jvm.Cond.code ({ cls := "SliceAggregate", name := "evictOldest", desc := "(I)V" } : Jvm.MethodName) prog_1_method_22_code (2 : Nat) (Option.none : Option Jvm.ClassFile.FieldType)).before args0 about1 = true := code_word (m := ⟨2, 18⟩) (meth := k2m18) (c := k2c18) (by decide +kernel) rfl rfl rfl (by decide +kernel)
set_option maxRecDepth 65536 in
theorem w_c29 : (Jvm.Cond.code ({ cls := "SliceAggregate", name := "flip", desc := "(I)V" } : Jvm.MethodName) prog_1_method_23_code (4 : Nat) (Option.none : Option Jvm.ClassFile.FieldType)).before args0 about1 = true := code_word (m := ⟨2, 19⟩) (meth := k2m19) (c := k2c19) (by decide +kernel) rfl rfl rfl (by decide +kernel)
set_option maxRecDepth 65536 in
theorem w_c30 : (Jvm.Cond.code ({ cls := "SliceAggregate", name := "loadBack", desc := "(III)V" } : Jvm.MethodName) prog_1_method_30_code (7 : Nat) (Option.none : Option Jvm.ClassFile.FieldType)).before args0 about1 = true := code_word (m := ⟨2, 25⟩) (meth := k2m25) (c := k2c25) (by decide +kernel) rfl rfl rfl (by decide +kernel)
set_option maxRecDepth 65536 in
theorem w_c31 : (Jvm.Cond.code ({ cls := "SliceAggregate", name := "storeFront", desc := "(III)V" } : Jvm.MethodName) prog_1_method_33_code (7 : Nat) (Option.none : Option Jvm.ClassFile.FieldType)).before args0 about1 = true := code_word (m := ⟨2, 28⟩) (meth := k2m28) (c := k2c28) (by decide +kernel) rfl rfl rfl (by decide +kernel)
set_option maxRecDepth 65536 in
theorem w_c32 : (Jvm.Cond.code ({ cls := "SliceAggregate", name := "takeSnapshot", desc := "(I)V" } : Jvm.MethodName) prog_1_method_25_code (2 : Nat) (Option.none : Option Jvm.ClassFile.FieldType)).before args0 about1 = true := code_word (m := ⟨2, 21⟩) (meth := k2m21) (c := k2c21) (by decide +kernel) rfl rfl rfl (by decide +kernel)
set_option maxRecDepth 65536 in
theorem w_c33 : (Jvm.Cond.code ({ cls := "SliceAggregate", name := "liveFold", desc := "(II)V" } : Jvm.MethodName) prog_1_method_24_code (4 : Nat) (Option.none : Option Jvm.ClassFile.FieldType)).before args0 about1 = true := code_word (m := ⟨2, 20⟩) (meth := k2m20) (c := k2c20) (by decide +kernel) rfl rfl rfl (by decide +kernel)
set_option maxRecDepth 65536 in
theorem w_c34 : (Jvm.Cond.code ({ cls := "SliceAggregate", name := "loadFront", desc := "(III)V" } : Jvm.MethodName) prog_1_method_32_code (7 : Nat) (Option.none : Option Jvm.ClassFile.FieldType)).before args0 about1 = true := code_word (m := ⟨2, 27⟩) (meth := k2m27) (c := k2c27) (by decide +kernel) rfl rfl rfl (by decide +kernel)
def codes1 : List Jvm.Cond := [Jvm.Cond.code x code maxLocals ret, Jvm.Cond.code ({ cls := "SliceAggregate", name := "<init>", desc := "(I)V" } : Jvm.MethodName) prog_1_method_1_code (4 : Nat) (Option.none : Option Jvm.ClassFile.FieldType), Jvm.Cond.code ({ cls := "java/lang/Object", name := "<init>", desc := "()V" } : Jvm.MethodName) object_method_1_code (1 : Nat) (Option.none : Option Jvm.ClassFile.FieldType), Jvm.Cond.code ({ cls := "SliceAggregate", name := "resetQuery", desc := "(I)V" } : Jvm.MethodName) prog_1_method_20_code (2 : Nat) (Option.none : Option Jvm.ClassFile.FieldType), Jvm.Cond.code ({ cls := "SliceAggregate", name := "regIdentity", desc := "(I)V" } : Jvm.MethodName) prog_1_method_27_code (2 : Nat) (Option.none : Option Jvm.ClassFile.FieldType), Jvm.Cond.code ({ cls := "SliceAggregate", name := "regSet", desc := "(IIIII)V" } : Jvm.MethodName) prog_1_method_26_code (7 : Nat) (Option.none : Option Jvm.ClassFile.FieldType), Jvm.Cond.code ({ cls := "SliceAggregate", name := "validReg", desc := "(I)Z" } : Jvm.MethodName) prog_1_method_16_code (2 : Nat) (Option.some Jvm.ClassFile.FieldType.boolean), Jvm.Cond.code ({ cls := "SliceAggregate", name := "storeBackAgg", desc := "(II)V" } : Jvm.MethodName) prog_1_method_35_code (5 : Nat) (Option.none : Option Jvm.ClassFile.FieldType), Jvm.Cond.code ({ cls := "SliceAggregate", name := "storeSnap", desc := "(II)V" } : Jvm.MethodName) prog_1_method_36_code (5 : Nat) (Option.none : Option Jvm.ClassFile.FieldType), Jvm.Cond.code ({ cls := "SliceAggregateL4", name := "inv", desc := "(LSliceAggregate;)Z" } : Jvm.MethodName) method_2_code (9 : Nat) (Option.some Jvm.ClassFile.FieldType.boolean), Jvm.Cond.code ({ cls := "SliceAggregate", name := "queryCount", desc := "()I" } : Jvm.MethodName) prog_1_method_11_code (1 : Nat) (Option.some Jvm.ClassFile.FieldType.int), Jvm.Cond.code ({ cls := "SliceAggregate", name := "tupleCount", desc := "()I" } : Jvm.MethodName) prog_1_method_12_code (1 : Nat) (Option.some Jvm.ClassFile.FieldType.int), Jvm.Cond.code ({ cls := "SliceAggregate", name := "queryRange", desc := "(I)I" } : Jvm.MethodName) prog_1_method_9_code (2 : Nat) (Option.some Jvm.ClassFile.FieldType.int), Jvm.Cond.code ({ cls := "SliceAggregate", name := "validQuery", desc := "(I)Z" } : Jvm.MethodName) prog_1_method_14_code (2 : Nat) (Option.some Jvm.ClassFile.FieldType.boolean), Jvm.Cond.code ({ cls := "SliceAggregate", name := "querySlide", desc := "(I)I" } : Jvm.MethodName) prog_1_method_10_code (2 : Nat) (Option.some Jvm.ClassFile.FieldType.int), Jvm.Cond.code ({ cls := "SliceAggregate", name := "evaluations", desc := "(I)I" } : Jvm.MethodName) prog_1_method_8_code (3 : Nat) (Option.some Jvm.ClassFile.FieldType.int), Jvm.Cond.code ({ cls := "SliceAggregate", name := "windowEnd", desc := "(I)I" } : Jvm.MethodName) prog_1_method_7_code (2 : Nat) (Option.some Jvm.ClassFile.FieldType.int), Jvm.Cond.code ({ cls := "SliceAggregate", name := "windowStart", desc := "(I)I" } : Jvm.MethodName) prog_1_method_6_code (3 : Nat) (Option.some Jvm.ClassFile.FieldType.int), Jvm.Cond.code ({ cls := "SliceAggregate", name := "clearStream", desc := "()V" } : Jvm.MethodName) prog_1_method_13_code (2 : Nat) (Option.none : Option Jvm.ClassFile.FieldType), Jvm.Cond.code ({ cls := "SliceAggregate", name := "addQuery", desc := "(II)I" } : Jvm.MethodName) prog_1_method_2_code (4 : Nat) (Option.some Jvm.ClassFile.FieldType.int), Jvm.Cond.code ({ cls := "SliceAggregate", name := "endOf", desc := "(I)I" } : Jvm.MethodName) prog_1_method_19_code (3 : Nat) (Option.some Jvm.ClassFile.FieldType.int), Jvm.Cond.code ({ cls := "SliceAggregate", name := "push", desc := "(IIII)I" } : Jvm.MethodName) prog_1_method_3_code (8 : Nat) (Option.some Jvm.ClassFile.FieldType.int), Jvm.Cond.code ({ cls := "SliceAggregate", name := "appendToQuery", desc := "(I)V" } : Jvm.MethodName) prog_1_method_21_code (4 : Nat) (Option.none : Option Jvm.ClassFile.FieldType), Jvm.Cond.code ({ cls := "SliceAggregate", name := "validSlot", desc := "(II)Z" } : Jvm.MethodName) prog_1_method_17_code (3 : Nat) (Option.some Jvm.ClassFile.FieldType.boolean), Jvm.Cond.code ({ cls := "SliceAggregate", name := "storeBack", desc := "(III)V" } : Jvm.MethodName) prog_1_method_31_code (7 : Nat) (Option.none : Option Jvm.ClassFile.FieldType), Jvm.Cond.code ({ cls := "SliceAggregate", name := "slotOffset", desc := "(II)I" } : Jvm.MethodName) prog_1_method_18_code (3 : Nat) (Option.some Jvm.ClassFile.FieldType.int), Jvm.Cond.code ({ cls := "SliceAggregate", name := "loadBackAgg", desc := "(II)V" } : Jvm.MethodName) prog_1_method_34_code (5 : Nat) (Option.none : Option Jvm.ClassFile.FieldType), Jvm.Cond.code ({ cls := "SliceAggregate", name := "regMul", desc := "(III)V" } : Jvm.MethodName) prog_1_method_29_code (15 : Nat) (Option.none : Option Jvm.ClassFile.FieldType), Jvm.Cond.code ({ cls := "SliceAggregate", name := "evictOldest", desc := "(I)V" } : Jvm.MethodName) prog_1_method_22_code (2 : Nat) (Option.none : Option Jvm.ClassFile.FieldType), Jvm.Cond.code ({ cls := "SliceAggregate", name := "flip", desc := "(I)V" } : Jvm.MethodName) prog_1_method_23_code (4 : Nat) (Option.none : Option Jvm.ClassFile.FieldType), Jvm.Cond.code ({ cls := "SliceAggregate", name := "loadBack", desc := "(III)V" } : Jvm.MethodName) prog_1_method_30_code (7 : Nat) (Option.none : Option Jvm.ClassFile.FieldType), Jvm.Cond.code ({ cls := "SliceAggregate", name := "storeFront", desc := "(III)V" } : Jvm.MethodName) prog_1_method_33_code (7 : Nat) (Option.none : Option Jvm.ClassFile.FieldType), Jvm.Cond.code ({ cls := "SliceAggregate", name := "takeSnapshot", desc := "(I)V" } : Jvm.MethodName) prog_1_method_25_code (2 : Nat) (Option.none : Option Jvm.ClassFile.FieldType), Jvm.Cond.code ({ cls := "SliceAggregate", name := "liveFold", desc := "(II)V" } : Jvm.MethodName) prog_1_method_24_code (4 : Nat) (Option.none : Option Jvm.ClassFile.FieldType), Jvm.Cond.code ({ cls := "SliceAggregate", name := "loadFront", desc := "(III)V" } : Jvm.MethodName) prog_1_method_32_code (7 : Nat) (Option.none : Option Jvm.ClassFile.FieldType)]
set_option maxRecDepth 65536 in
theorem codes_eq : words1.filter isCode = codes1 := rfl
theorem w_codes : ∀ c ∈ words1.filter isCode, c.before args0 about1 = true := by
  rw [codes_eq]
  intro c hc
  simp only [codes1, List.mem_cons, List.not_mem_nil, or_false] at hc
  rcases hc with rfl | rfl | rfl | rfl | rfl | rfl | rfl | rfl | rfl | rfl | rfl | rfl | rfl | rfl | rfl | rfl | rfl | rfl | rfl | rfl | rfl | rfl | rfl | rfl | rfl | rfl | rfl | rfl | rfl | rfl | rfl | rfl | rfl | rfl | rfl
  · exact w_c0
  · exact w_c1
  · exact w_c2
  · exact w_c3
  · exact w_c4
  · exact w_c5
  · exact w_c6
  · exact w_c7
  · exact w_c8
  · exact w_c9
  · exact w_c10
  · exact w_c11
  · exact w_c12
  · exact w_c13
  · exact w_c14
  · exact w_c15
  · exact w_c16
  · exact w_c17
  · exact w_c18
  · exact w_c19
  · exact w_c20
  · exact w_c21
  · exact w_c22
  · exact w_c23
  · exact w_c24
  · exact w_c25
  · exact w_c26
  · exact w_c27
  · exact w_c28
  · exact w_c29
  · exact w_c30
  · exact w_c31
  · exact w_c32
  · exact w_c33
  · exact w_c34
set_option maxRecDepth 65536 in
theorem w_t1 : (words1.take 24).all (fun c => isCode c || c.before args0 about1) = true := by decide +kernel
set_option maxRecDepth 65536 in
theorem w_t2 : ((words1.drop 24).take 24).all (fun c => isCode c || c.before args0 about1) = true := by decide +kernel
set_option maxRecDepth 65536 in
theorem w_t3 : (((words1.drop 24).drop 24).take 24).all (fun c => isCode c || c.before args0 about1) = true := by decide +kernel
set_option maxRecDepth 65536 in
theorem w_t4 : ((((words1.drop 24).drop 24).drop 24).take 24).all (fun c => isCode c || c.before args0 about1) = true := by decide +kernel
set_option maxRecDepth 65536 in
theorem w_t5 : (((((words1.drop 24).drop 24).drop 24).drop 24).take 24).all (fun c => isCode c || c.before args0 about1) = true := by decide +kernel
set_option maxRecDepth 65536 in
theorem w_t6 : ((((((words1.drop 24).drop 24).drop 24).drop 24).drop 24).take 24).all (fun c => isCode c || c.before args0 about1) = true := by decide +kernel
set_option maxRecDepth 65536 in
theorem w_t7 : (((((((words1.drop 24).drop 24).drop 24).drop 24).drop 24).drop 24).take 24).all (fun c => isCode c || c.before args0 about1) = true := by decide +kernel
set_option maxRecDepth 65536 in
theorem w_t8 : (((((((words1.drop 24).drop 24).drop 24).drop 24).drop 24).drop 24).drop 24).all (fun c => isCode c || c.before args0 about1) = true := by decide +kernel
theorem w_tables : (allAtoms (Jvm.Cond.code x code maxLocals ret :: tables_1)).before args0 about1 = true := by
  rw [allAtoms_all]
  show words1.all (fun c => c.before args0 about1) = true
  refine all_split ?_ w_codes
  rw [← List.take_append_drop 24 words1, List.all_append, w_t1, ← List.take_append_drop 24 (words1.drop 24), List.all_append, w_t2, ← List.take_append_drop 24 ((words1.drop 24).drop 24), List.all_append, w_t3, ← List.take_append_drop 24 (((words1.drop 24).drop 24).drop 24), List.all_append, w_t4, ← List.take_append_drop 24 ((((words1.drop 24).drop 24).drop 24).drop 24), List.all_append, w_t5, ← List.take_append_drop 24 (((((words1.drop 24).drop 24).drop 24).drop 24).drop 24), List.all_append, w_t6, ← List.take_append_drop 24 ((((((words1.drop 24).drop 24).drop 24).drop 24).drop 24).drop 24), List.all_append, w_t7, w_t8]
  rfl
set_option maxRecDepth 65536 in
theorem w_rest : rest_1_c.before args0 about1 = true := by decide +kernel
set_option maxRecDepth 65536 in
theorem w_case : (Jvm.Cond.and given_1 narrow_1).before args0 about1 = true := by decide +kernel
theorem w_applies : (headSpec (Jvm.Cond.code x code maxLocals ret :: tables_1) room_1).applies x e0.platform about1 = true :=
  (Spec.applies_iff w_frames).mpr ⟨w_running, w_runnable, w_alone, w_named, w_hears, w_ripe, w_room, w_tables⟩
theorem atStart : AtStart classFile x code maxLocals ret World_1 tables_1 room_1 Calls_1 rest_1 Pre_1 launch0 p0 e0 about1 theMethod args0 below0 :=
  ⟨lists_1, trivial, launch0.admits_env _ _ _, launch0.least_env, fairChoices_fair.cas, fairChoices_fair.clock, w_frames, w_args, w_heap, w_applies, trivial, w_rest, w_case⟩
end start1
theorem witness_1 : WitnessClaimed_1 := ⟨start1.p0, start1.e0, start1.about1, start1.theMethod, start1.args0, start1.below0, start1.atStart⟩
end Jvm.Pilot.@@N@@
