import JvmDerived
import JvmDerived.Pilot.@@N@@Statement
import JvmDerived.Pilot.@@N@@Code
set_option linter.unusedVariables false
set_option linter.unusedSimpArgs false
namespace Jvm.RoadKit
open Sem ClassFile Op Lib Jvm.Stand Jvm.Free Jvm.LawKit
section New
variable {p : Program} {l : Launch} {e : Env} {R : Room} {s : State} {m : MethodId} {args : Array Value} {below : List Frame} {meth : Method} {c : Code} {T : State} {locs : List Loc} {cells slots : Nat}
theorem retI (X : Stand p l e R s m args below meth c T locs cells slots) (hx : p.tables.exec = Jvm.exec) {pc : Nat} {Ls : Array Slot} {z : Int32} {rest : List Value} (hret : meth.sig.returnType = some .int) (hd : decode c.code pc = .ok (.ireturn, 1)) {fs : List Frame}
    (hl : ∀ (f : JFrame) (acts : List Action), f.method = m → f.locked = none → f.entered = [] → (doReturn e (T.setTop f) acts (some (.int z))).1 = T.setFrames fs) : Steps p.tables e below (T.setTop (mkF m pc Ls (.int z :: rest))) (T.setFrames fs) := by
  have hm' : T.vm.method? m = some meth := X.method'
  have hn : narrow .int (.int z) = .int z := rfl
  show Steps p.tables e below (T.setTop { method := m, pc := pc, locals := Ls, stack := _ :: rest, locked := none }) _
  jvm_step X.here [X.here.top, hx, hd, hm', hret, hn]
  first | (intro acts; rw [hl _ acts rfl rfl rfl]) | rw [hl _ _ rfl rfl rfl]
  exact Steps.refl _
end New
end Jvm.RoadKit
namespace Jvm.Pilot.@@N@@
open Jvm Jvm.ClassFile Sem Op Lib Jvm.Free Jvm.Stand Jvm.LawKit Jvm.RoadKit Bundle Jvm.Pilot.@@N@@.Jvm.D
/-! TABLES of this claim: printed by claim.py -/
def k0 : Nat := 1
def cName : String := "ChainLayout"
def cN : Nat := 36
def nF : Nat := 36
def kName (k : Nat) : String := bif Nat.beq k 0 then "ChainLayoutOwnLaw" else "ChainLayout"
def fNm (k : Nat) : String := (bif Nat.ble 18 k then (bif Nat.ble 27 k then (bif Nat.ble 31 k then (bif Nat.ble 33 k then (bif Nat.ble 34 k then (bif Nat.ble 35 k then "edgeN" else "status") else "steps") else (bif Nat.ble 32 k then "outCount" else "arranged")) else (bif Nat.ble 29 k then (bif Nat.ble 30 k then "n" else "maxSteps") else (bif Nat.ble 28 k then "maxBlocks" else "cOther"))) else (bif Nat.ble 22 k then (bif Nat.ble 24 k then (bif Nat.ble 25 k then (bif Nat.ble 26 k then "cTaken" else "cTest") else "cKind") else (bif Nat.ble 23 k then "cImm" else "cS")) else (bif Nat.ble 20 k then (bif Nat.ble 21 k then "cD" else "cOp") else (bif Nat.ble 19 k then "order" else "posOf")))) else (bif Nat.ble 9 k then (bif Nat.ble 13 k then (bif Nat.ble 15 k then (bif Nat.ble 16 k then (bif Nat.ble 17 k then "heat" else "chHead") else "chPrev") else (bif Nat.ble 14 k then "chNext" else "edgeW")) else (bif Nat.ble 11 k then (bif Nat.ble 12 k then "edgeId" else "outs") else (bif Nat.ble 10 k then "regs" else "cnt1"))) else (bif Nat.ble 4 k then (bif Nat.ble 6 k then (bif Nat.ble 7 k then (bif Nat.ble 8 k then "cnt0" else "bT1") else "bT0") else (bif Nat.ble 5 k then "bTest" else "bTerm")) else (bif Nat.ble 2 k then (bif Nat.ble 3 k then "bImm" else "bS") else (bif Nat.ble 1 k then "bD" else "bOp")))))
def fDs (k : Nat) : String := (bif Nat.ble 18 k then (bif Nat.ble 27 k then (bif Nat.ble 31 k then (bif Nat.ble 33 k then (bif Nat.ble 34 k then (bif Nat.ble 35 k then "I" else "I") else "I") else (bif Nat.ble 32 k then "I" else "Z")) else (bif Nat.ble 29 k then (bif Nat.ble 30 k then "I" else "I") else (bif Nat.ble 28 k then "I" else "[I"))) else (bif Nat.ble 22 k then (bif Nat.ble 24 k then (bif Nat.ble 25 k then (bif Nat.ble 26 k then "[I" else "[I") else "[I") else (bif Nat.ble 23 k then "[I" else "[I")) else (bif Nat.ble 20 k then (bif Nat.ble 21 k then "[I" else "[I") else (bif Nat.ble 19 k then "[I" else "[I")))) else (bif Nat.ble 9 k then (bif Nat.ble 13 k then (bif Nat.ble 15 k then (bif Nat.ble 16 k then (bif Nat.ble 17 k then "[I" else "[I") else "[I") else (bif Nat.ble 14 k then "[I" else "[I")) else (bif Nat.ble 11 k then (bif Nat.ble 12 k then "[I" else "[I") else (bif Nat.ble 10 k then "[I" else "[I"))) else (bif Nat.ble 4 k then (bif Nat.ble 6 k then (bif Nat.ble 7 k then (bif Nat.ble 8 k then "[I" else "[I") else "[I") else (bif Nat.ble 5 k then "[I" else "[I")) else (bif Nat.ble 2 k then (bif Nat.ble 3 k then "[I" else "[I") else (bif Nat.ble 1 k then "[I" else "[I")))))
def fTy (k : Nat) : FieldType := (bif Nat.ble 18 k then (bif Nat.ble 27 k then (bif Nat.ble 31 k then (bif Nat.ble 33 k then (bif Nat.ble 34 k then (bif Nat.ble 35 k then .int else .int) else .int) else (bif Nat.ble 32 k then .int else .boolean)) else (bif Nat.ble 29 k then (bif Nat.ble 30 k then .int else .int) else (bif Nat.ble 28 k then .int else (.array .int)))) else (bif Nat.ble 22 k then (bif Nat.ble 24 k then (bif Nat.ble 25 k then (bif Nat.ble 26 k then (.array .int) else (.array .int)) else (.array .int)) else (bif Nat.ble 23 k then (.array .int) else (.array .int))) else (bif Nat.ble 20 k then (bif Nat.ble 21 k then (.array .int) else (.array .int)) else (bif Nat.ble 19 k then (.array .int) else (.array .int))))) else (bif Nat.ble 9 k then (bif Nat.ble 13 k then (bif Nat.ble 15 k then (bif Nat.ble 16 k then (bif Nat.ble 17 k then (.array .int) else (.array .int)) else (.array .int)) else (bif Nat.ble 14 k then (.array .int) else (.array .int))) else (bif Nat.ble 11 k then (bif Nat.ble 12 k then (.array .int) else (.array .int)) else (bif Nat.ble 10 k then (.array .int) else (.array .int)))) else (bif Nat.ble 4 k then (bif Nat.ble 6 k then (bif Nat.ble 7 k then (bif Nat.ble 8 k then (.array .int) else (.array .int)) else (.array .int)) else (bif Nat.ble 5 k then (.array .int) else (.array .int))) else (bif Nat.ble 2 k then (bif Nat.ble 3 k then (.array .int) else (.array .int)) else (bif Nat.ble 1 k then (.array .int) else (.array .int))))))
def fFin (k : Nat) : Bool := (bif Nat.ble 18 k then (bif Nat.ble 27 k then (bif Nat.ble 31 k then (bif Nat.ble 33 k then (bif Nat.ble 34 k then (bif Nat.ble 35 k then false else false) else false) else (bif Nat.ble 32 k then false else false)) else (bif Nat.ble 29 k then (bif Nat.ble 30 k then false else false) else (bif Nat.ble 28 k then false else false))) else (bif Nat.ble 22 k then (bif Nat.ble 24 k then (bif Nat.ble 25 k then (bif Nat.ble 26 k then false else false) else false) else (bif Nat.ble 23 k then false else false)) else (bif Nat.ble 20 k then (bif Nat.ble 21 k then false else false) else (bif Nat.ble 19 k then false else false)))) else (bif Nat.ble 9 k then (bif Nat.ble 13 k then (bif Nat.ble 15 k then (bif Nat.ble 16 k then (bif Nat.ble 17 k then false else false) else false) else (bif Nat.ble 14 k then false else false)) else (bif Nat.ble 11 k then (bif Nat.ble 12 k then false else false) else (bif Nat.ble 10 k then false else false))) else (bif Nat.ble 4 k then (bif Nat.ble 6 k then (bif Nat.ble 7 k then (bif Nat.ble 8 k then false else false) else false) else (bif Nat.ble 5 k then false else false)) else (bif Nat.ble 2 k then (bif Nat.ble 3 k then false else false) else (bif Nat.ble 1 k then false else false)))))
def cDef : List Value := [.null, .null, .null, .null, .null, .null, .null, .null, .null, .null, .null, .null, .null, .null, .null, .null, .null, .null, .null, .null, .null, .null, .null, .null, .null, .null, .null, .null, .int 0, .int 0, .int 0, .int 0, .int 0, .int 0, .int 0, .int 0]
def cK : List Value := [.long (4294967295)]
def pN : Nat := 36
def pTop (m : Nat) : Nat := (bif Nat.ble 18 m then (bif Nat.ble 27 m then (bif Nat.ble 31 m then (bif Nat.ble 33 m then (bif Nat.ble 34 m then (bif Nat.ble 35 m then 28 else 71) else 110) else (bif Nat.ble 32 m then 204 else 84)) else (bif Nat.ble 29 m then (bif Nat.ble 30 m then 62 else 136) else (bif Nat.ble 28 m then 115 else 101))) else (bif Nat.ble 22 m then (bif Nat.ble 24 m then (bif Nat.ble 25 m then (bif Nat.ble 26 m then 128 else 87) else 107) else (bif Nat.ble 23 m then 43 else 35)) else (bif Nat.ble 20 m then (bif Nat.ble 21 m then 109 else 27) else (bif Nat.ble 19 m then 18 else 5)))) else (bif Nat.ble 9 m then (bif Nat.ble 13 m then (bif Nat.ble 15 m then (bif Nat.ble 16 m then (bif Nat.ble 17 m then 5 else 5) else 5) else (bif Nat.ble 14 m then 69 else 203)) else (bif Nat.ble 11 m then (bif Nat.ble 12 m then 121 else 119) else (bif Nat.ble 10 m then 46 else 24))) else (bif Nat.ble 4 m then (bif Nat.ble 6 m then (bif Nat.ble 7 m then (bif Nat.ble 8 m then 68 else 23) else 130) else (bif Nat.ble 5 m then 16 else 14)) else (bif Nat.ble 2 m then (bif Nat.ble 3 m then 29 else 71) else (bif Nat.ble 1 m then 309 else 792)))))
def pK (m : Nat) : Nat := (bif Nat.ble 18 m then (bif Nat.ble 27 m then (bif Nat.ble 31 m then (bif Nat.ble 33 m then (bif Nat.ble 34 m then (bif Nat.ble 35 m then 1 else 0) else 1) else (bif Nat.ble 32 m then 1 else 1)) else (bif Nat.ble 29 m then (bif Nat.ble 30 m then 1 else 1) else (bif Nat.ble 28 m then 1 else 1))) else (bif Nat.ble 22 m then (bif Nat.ble 24 m then (bif Nat.ble 25 m then (bif Nat.ble 26 m then 1 else 1) else 1) else (bif Nat.ble 23 m then 1 else 1)) else (bif Nat.ble 20 m then (bif Nat.ble 21 m then 1 else 1) else (bif Nat.ble 19 m then 1 else 1)))) else (bif Nat.ble 9 m then (bif Nat.ble 13 m then (bif Nat.ble 15 m then (bif Nat.ble 16 m then (bif Nat.ble 17 m then 1 else 1) else 1) else (bif Nat.ble 14 m then 1 else 1)) else (bif Nat.ble 11 m then (bif Nat.ble 12 m then 1 else 1) else (bif Nat.ble 10 m then 1 else 1))) else (bif Nat.ble 4 m then (bif Nat.ble 6 m then (bif Nat.ble 7 m then (bif Nat.ble 8 m then 1 else 1) else 1) else (bif Nat.ble 5 m then 0 else 0)) else (bif Nat.ble 2 m then (bif Nat.ble 3 m then 1 else 1) else (bif Nat.ble 1 m then 1 else 0)))))
def pNm (m : Nat) : String := (bif Nat.ble 18 m then (bif Nat.ble 27 m then (bif Nat.ble 31 m then (bif Nat.ble 33 m then (bif Nat.ble 34 m then (bif Nat.ble 35 m then "before" else "word") else "stepFlat") else (bif Nat.ble 32 m then "compileTerm" else "compileCode")) else (bif Nat.ble 29 m then (bif Nat.ble 30 m then "placeChain" else "placeChains") else (bif Nat.ble 28 m then "tryMerge" else "buildChains"))) else (bif Nat.ble 22 m then (bif Nat.ble 24 m then (bif Nat.ble 25 m then (bif Nat.ble 26 m then "sortEdges" else "addEdge") else "collectEdges") else (bif Nat.ble 23 m then "layout" else "edgeCount")) else (bif Nat.ble 20 m then (bif Nat.ble 21 m then "blockInfo" else "output") else (bif Nat.ble 19 m then "reg" else "blockCount")))) else (bif Nat.ble 9 m then (bif Nat.ble 13 m then (bif Nat.ble 15 m then (bif Nat.ble 16 m then (bif Nat.ble 17 m then "outputCount" else "lastSteps") else "lastStatus") else (bif Nat.ble 14 m then "holds" else "doOp")) else (bif Nat.ble 11 m then (bif Nat.ble 12 m then "stepBlock" else "run") else (bif Nat.ble 10 m then "setJump" else "validBlock"))) else (bif Nat.ble 4 m then (bif Nat.ble 6 m then (bif Nat.ble 7 m then (bif Nat.ble 8 m then "setBranch" else "writeTerm") else "addBlock") else (bif Nat.ble 5 m then "mod" else "cell")) else (bif Nat.ble 2 m then (bif Nat.ble 3 m then "clearCounts" else "reset") else (bif Nat.ble 1 m then "<init>" else "law")))))
def pDs (m : Nat) : String := (bif Nat.ble 18 m then (bif Nat.ble 27 m then (bif Nat.ble 31 m then (bif Nat.ble 33 m then (bif Nat.ble 34 m then (bif Nat.ble 35 m then "(IIII)Z" else "(IJJJJJJJJ)J") else "(I)I") else (bif Nat.ble 32 m then "(II)V" else "()V")) else (bif Nat.ble 29 m then (bif Nat.ble 30 m then "(II)I" else "()V") else (bif Nat.ble 28 m then "(II)V" else "()V"))) else (bif Nat.ble 22 m then (bif Nat.ble 24 m then (bif Nat.ble 25 m then (bif Nat.ble 26 m then "()V" else "(IIII)V") else "()V") else (bif Nat.ble 23 m then "()Z" else "(II)I")) else (bif Nat.ble 20 m then (bif Nat.ble 21 m then "(II)I" else "(I)I") else (bif Nat.ble 19 m then "(I)I" else "()I")))) else (bif Nat.ble 9 m then (bif Nat.ble 13 m then (bif Nat.ble 15 m then (bif Nat.ble 16 m then (bif Nat.ble 17 m then "()I" else "()I") else "()I") else (bif Nat.ble 14 m then "(I)Z" else "(IIII)V")) else (bif Nat.ble 11 m then (bif Nat.ble 12 m then "(I)I" else "(I)I") else (bif Nat.ble 10 m then "(II)Z" else "(I)Z"))) else (bif Nat.ble 4 m then (bif Nat.ble 6 m then (bif Nat.ble 7 m then (bif Nat.ble 8 m then "(IIII)Z" else "(IIII)V") else "(IIII)I") else (bif Nat.ble 5 m then "(II)I" else "([II)I")) else (bif Nat.ble 2 m then (bif Nat.ble 3 m then "()V" else "()V") else (bif Nat.ble 1 m then "(II)V" else "([I)Z")))))
def pName (m : Nat) : MethodName := ⟨kName (pK m), pNm m, pDs m⟩
def pBytes (m : Nat) : ByteArray := (bif Nat.ble 18 m then (bif Nat.ble 27 m then (bif Nat.ble 31 m then (bif Nat.ble 33 m then (bif Nat.ble 34 m then (bif Nat.ble 35 m then prog_1_method_28_code else method_4_code) else prog_1_method_24_code) else (bif Nat.ble 32 m then prog_1_method_34_code else prog_1_method_33_code)) else (bif Nat.ble 29 m then (bif Nat.ble 30 m then prog_1_method_32_code else prog_1_method_31_code) else (bif Nat.ble 28 m then prog_1_method_30_code else prog_1_method_29_code))) else (bif Nat.ble 22 m then (bif Nat.ble 24 m then (bif Nat.ble 25 m then (bif Nat.ble 26 m then prog_1_method_27_code else prog_1_method_26_code) else prog_1_method_25_code) else (bif Nat.ble 23 m then prog_1_method_7_code else prog_1_method_12_code)) else (bif Nat.ble 20 m then (bif Nat.ble 21 m then prog_1_method_11_code else prog_1_method_17_code) else (bif Nat.ble 19 m then prog_1_method_15_code else prog_1_method_10_code)))) else (bif Nat.ble 9 m then (bif Nat.ble 13 m then (bif Nat.ble 15 m then (bif Nat.ble 16 m then (bif Nat.ble 17 m then prog_1_method_16_code else prog_1_method_14_code) else prog_1_method_13_code) else (bif Nat.ble 14 m then prog_1_method_22_code else prog_1_method_21_code)) else (bif Nat.ble 11 m then (bif Nat.ble 12 m then prog_1_method_23_code else prog_1_method_6_code) else (bif Nat.ble 10 m then prog_1_method_3_code else prog_1_method_18_code))) else (bif Nat.ble 4 m then (bif Nat.ble 6 m then (bif Nat.ble 7 m then (bif Nat.ble 8 m then prog_1_method_4_code else prog_1_method_19_code) else prog_1_method_2_code) else (bif Nat.ble 5 m then method_3_code else method_2_code)) else (bif Nat.ble 2 m then (bif Nat.ble 3 m then prog_1_method_20_code else prog_1_method_9_code) else (bif Nat.ble 1 m then prog_1_method_1_code else code)))))
def pMaxL (m : Nat) : Nat := (bif Nat.ble 18 m then (bif Nat.ble 27 m then (bif Nat.ble 31 m then (bif Nat.ble 33 m then (bif Nat.ble 34 m then (bif Nat.ble 35 m then 5 else 17) else 3) else (bif Nat.ble 32 m then 6 else 3)) else (bif Nat.ble 29 m then (bif Nat.ble 30 m then 6 else 5) else (bif Nat.ble 28 m then 6 else 5))) else (bif Nat.ble 22 m then (bif Nat.ble 24 m then (bif Nat.ble 25 m then (bif Nat.ble 26 m then 5 else 5) else 3) else (bif Nat.ble 23 m then 1 else 3)) else (bif Nat.ble 20 m then (bif Nat.ble 21 m then 3 else 2) else (bif Nat.ble 19 m then 2 else 1)))) else (bif Nat.ble 9 m then (bif Nat.ble 13 m then (bif Nat.ble 15 m then (bif Nat.ble 16 m then (bif Nat.ble 17 m then 1 else 1) else 1) else (bif Nat.ble 14 m then 4 else 5)) else (bif Nat.ble 11 m then (bif Nat.ble 12 m then 3 else 5) else (bif Nat.ble 10 m then 3 else 2))) else (bif Nat.ble 4 m then (bif Nat.ble 6 m then (bif Nat.ble 7 m then (bif Nat.ble 8 m then 5 else 5) else 6) else (bif Nat.ble 5 m then 3 else 2)) else (bif Nat.ble 2 m then (bif Nat.ble 3 m then 2 else 2) else (bif Nat.ble 1 m then 5 else 29)))))
def pRet (m : Nat) : Option FieldType := (bif Nat.ble 18 m then (bif Nat.ble 27 m then (bif Nat.ble 31 m then (bif Nat.ble 33 m then (bif Nat.ble 34 m then (bif Nat.ble 35 m then (some .boolean) else (some .long)) else (some .int)) else (bif Nat.ble 32 m then none else none)) else (bif Nat.ble 29 m then (bif Nat.ble 30 m then (some .int) else none) else (bif Nat.ble 28 m then none else none))) else (bif Nat.ble 22 m then (bif Nat.ble 24 m then (bif Nat.ble 25 m then (bif Nat.ble 26 m then none else none) else none) else (bif Nat.ble 23 m then (some .boolean) else (some .int))) else (bif Nat.ble 20 m then (bif Nat.ble 21 m then (some .int) else (some .int)) else (bif Nat.ble 19 m then (some .int) else (some .int))))) else (bif Nat.ble 9 m then (bif Nat.ble 13 m then (bif Nat.ble 15 m then (bif Nat.ble 16 m then (bif Nat.ble 17 m then (some .int) else (some .int)) else (some .int)) else (bif Nat.ble 14 m then (some .boolean) else none)) else (bif Nat.ble 11 m then (bif Nat.ble 12 m then (some .int) else (some .int)) else (bif Nat.ble 10 m then (some .boolean) else (some .boolean)))) else (bif Nat.ble 4 m then (bif Nat.ble 6 m then (bif Nat.ble 7 m then (bif Nat.ble 8 m then (some .boolean) else none) else (some .int)) else (bif Nat.ble 5 m then (some .int) else (some .int))) else (bif Nat.ble 2 m then (bif Nat.ble 3 m then none else none) else (bif Nat.ble 1 m then none else (some .boolean))))))
def pNA (m : Nat) : Nat := (bif Nat.ble 18 m then (bif Nat.ble 27 m then (bif Nat.ble 31 m then (bif Nat.ble 33 m then (bif Nat.ble 34 m then (bif Nat.ble 35 m then 4 else 9) else 1) else (bif Nat.ble 32 m then 2 else 0)) else (bif Nat.ble 29 m then (bif Nat.ble 30 m then 2 else 0) else (bif Nat.ble 28 m then 2 else 0))) else (bif Nat.ble 22 m then (bif Nat.ble 24 m then (bif Nat.ble 25 m then (bif Nat.ble 26 m then 0 else 4) else 0) else (bif Nat.ble 23 m then 0 else 2)) else (bif Nat.ble 20 m then (bif Nat.ble 21 m then 2 else 1) else (bif Nat.ble 19 m then 1 else 0)))) else (bif Nat.ble 9 m then (bif Nat.ble 13 m then (bif Nat.ble 15 m then (bif Nat.ble 16 m then (bif Nat.ble 17 m then 0 else 0) else 0) else (bif Nat.ble 14 m then 1 else 4)) else (bif Nat.ble 11 m then (bif Nat.ble 12 m then 1 else 1) else (bif Nat.ble 10 m then 2 else 1))) else (bif Nat.ble 4 m then (bif Nat.ble 6 m then (bif Nat.ble 7 m then (bif Nat.ble 8 m then 4 else 4) else 4) else (bif Nat.ble 5 m then 2 else 2)) else (bif Nat.ble 2 m then (bif Nat.ble 3 m then 0 else 0) else (bif Nat.ble 1 m then 2 else 1)))))
def pFr (m : Nat) : Nat := (bif Nat.ble 18 m then (bif Nat.ble 27 m then (bif Nat.ble 31 m then (bif Nat.ble 33 m then (bif Nat.ble 34 m then (bif Nat.ble 35 m then 0 else 0) else 1) else (bif Nat.ble 32 m then 0 else 1)) else (bif Nat.ble 29 m then (bif Nat.ble 30 m then 0 else 1) else (bif Nat.ble 28 m then 0 else 1))) else (bif Nat.ble 22 m then (bif Nat.ble 24 m then (bif Nat.ble 25 m then (bif Nat.ble 26 m then 1 else 0) else 1) else (bif Nat.ble 23 m then 2 else 1)) else (bif Nat.ble 20 m then (bif Nat.ble 21 m then 1 else 0) else (bif Nat.ble 19 m then 0 else 0)))) else (bif Nat.ble 9 m then (bif Nat.ble 13 m then (bif Nat.ble 15 m then (bif Nat.ble 16 m then (bif Nat.ble 17 m then 0 else 0) else 0) else (bif Nat.ble 14 m then 0 else 0)) else (bif Nat.ble 11 m then (bif Nat.ble 12 m then 1 else 2) else (bif Nat.ble 10 m then 1 else 0))) else (bif Nat.ble 4 m then (bif Nat.ble 6 m then (bif Nat.ble 7 m then (bif Nat.ble 8 m then 1 else 0) else 1) else (bif Nat.ble 5 m then 0 else 0)) else (bif Nat.ble 2 m then (bif Nat.ble 3 m then 0 else 1) else (bif Nat.ble 1 m then 1 else 3)))))
def pLo (m : Nat) : Nat := (bif Nat.ble 18 m then (bif Nat.ble 27 m then (bif Nat.ble 31 m then (bif Nat.ble 33 m then (bif Nat.ble 34 m then (bif Nat.ble 35 m then 0 else 0) else 16) else (bif Nat.ble 32 m then 0 else 17)) else (bif Nat.ble 29 m then (bif Nat.ble 30 m then 0 else 17) else (bif Nat.ble 28 m then 0 else 17))) else (bif Nat.ble 22 m then (bif Nat.ble 24 m then (bif Nat.ble 25 m then (bif Nat.ble 26 m then 16 else 0) else 16) else (bif Nat.ble 23 m then 33 else 13)) else (bif Nat.ble 20 m then (bif Nat.ble 21 m then 13 else 0) else (bif Nat.ble 19 m then 0 else 0)))) else (bif Nat.ble 9 m then (bif Nat.ble 13 m then (bif Nat.ble 15 m then (bif Nat.ble 16 m then (bif Nat.ble 17 m then 0 else 0) else 0) else (bif Nat.ble 14 m then 0 else 0)) else (bif Nat.ble 11 m then (bif Nat.ble 12 m then 16 else 30) else (bif Nat.ble 10 m then 16 else 0))) else (bif Nat.ble 4 m then (bif Nat.ble 6 m then (bif Nat.ble 7 m then (bif Nat.ble 8 m then 16 else 0) else 16) else (bif Nat.ble 5 m then 0 else 0)) else (bif Nat.ble 2 m then (bif Nat.ble 3 m then 0 else 13) else (bif Nat.ble 1 m then 12 else 47)))))
def tB (k : Nat) (a b : Nat → Option (Instr × Nat)) (p : Nat) : Option (Instr × Nat) := bif Nat.ble k p then a p else b p
def tL (k : Nat) (i : Instr) (x p : Nat) : Option (Instr × Nat) := bif Nat.beq p k then some (i, x) else none
def tZ (k : Nat) (i : Instr) (p : Nat) : Option (Instr × Nat) := bif Nat.beq p k then some (i, 0) else none
set_option maxHeartbeats 4000000 in
def cd0 (p : Nat) : Option (Instr × Nat) := (tB 376 (tB 583 (tB 687 (tB 742 (tB 765 (tB 775 (tB 784 (tB 790 (tB 791 (tZ 791 .ireturn) (tZ 790 (.iconst 1))) (tB 787 (tL 787 (.goto (-758)) 29) (tZ 784 (.iinc 4 1)))) (tB 778 (tB 781 (tL 781 (.goto (-444)) 337) (tZ 778 (.iinc 24 1))) (tL 775 (.goto (-66)) 709))) (tB 770 (tB 771 (tB 772 (tZ 772 (.iinc 26 1)) (tZ 771 .ireturn)) (tZ 770 (.iconst 0))) (tB 766 (tB 767 (tL 767 (.if_icmp .eq 5) 772) (tZ 766 .l2i)) (tZ 765 .lushr)))) (tB 753 (tB 757 (tB 761 (tB 763 (tZ 763 (.bipush 32)) (tZ 761 (.lload 27))) (tB 758 (tL 758 (.invokevirtual 37) 22) (tZ 757 (.iconst 1)))) (tB 754 (tB 755 (tZ 755 (.iload 26)) (tZ 754 (.aload_n 1))) (tZ 753 .ireturn))) (tB 748 (tB 749 (tB 752 (tZ 752 (.iconst 0)) (tL 749 (.if_icmp .eq 5) 754)) (tZ 748 .l2i)) (tB 743 (tB 746 (tZ 746 (.lload 27)) (tL 743 (.invokevirtual 37) 22)) (tZ 742 (.iconst 0)))))) (tB 716 (tB 728 (tB 734 (tB 739 (tB 740 (tZ 740 (.iload 26)) (tZ 739 (.aload_n 1))) (tB 737 (tZ 737 (.lstore 27)) (tL 734 (.invokestatic 72) 34))) (tB 730 (tB 732 (tZ 732 (.lload 21)) (tZ 730 (.lload 19))) (tZ 728 (.lload 17)))) (tB 722 (tB 724 (tB 726 (tZ 726 (.lload 15)) (tZ 724 (.lload 13))) (tZ 722 (.lload 11))) (tB 718 (tB 720 (tZ 720 (.lload 9)) (tZ 718 (.lload 7))) (tZ 716 (.iload 26))))) (tB 701 (tB 707 (tB 711 (tB 713 (tL 713 (.if_icmp .ge 65) 778) (tZ 711 (.bipush 8))) (tB 709 (tZ 709 (.iload 26)) (tZ 707 (.istore 26)))) (tB 703 (tB 706 (tZ 706 (.iconst 0)) (tL 703 (.ifCond .eq 75) 778)) (tZ 701 (.iload 23)))) (tB 692 (tB 695 (tB 698 (tL 698 (.goto (-47)) 651) (tZ 695 (.iinc 26 1))) (tL 692 (.goto (-31)) 661)) (tB 688 (tB 689 (tZ 689 (.iinc 27 1)) (tZ 688 .ireturn)) (tZ 687 (.iconst 0))))))) (tB 632 (tB 659 (tB 671 (tB 677 (tB 681 (tB 684 (tL 684 (.if_icmp .eq 5) 689) (tL 681 (.invokevirtual 69) 21)) (tB 679 (tZ 679 (.iload 27)) (tZ 677 (.iload 26)))) (tB 673 (tB 676 (tZ 676 (.aload_n 2)) (tL 673 (.invokevirtual 69) 21)) (tZ 671 (.iload 27)))) (tB 665 (tB 668 (tB 669 (tZ 669 (.iload 26)) (tZ 668 (.aload_n 1))) (tL 665 (.if_icmp .ge 30) 695)) (tB 661 (tB 663 (tZ 663 (.bipush 8)) (tZ 661 (.iload 27))) (tZ 659 (.istore 27))))) (tB 645 (tB 651 (tB 655 (tB 658 (tZ 658 (.iconst 0)) (tL 655 (.if_icmp .ge 46) 701)) (tB 653 (tZ 653 (.iload 5)) (tZ 651 (.iload 26)))) (tB 648 (tB 649 (tZ 649 (.istore 26)) (tZ 648 (.iconst 0))) (tL 645 (.goto (-27)) 618))) (tB 640 (tB 641 (tB 642 (tZ 642 (.iinc 26 1)) (tZ 641 .ireturn)) (tZ 640 (.iconst 0))) (tB 634 (tB 637 (tL 637 (.if_icmp .eq 5) 642) (tL 634 (.invokevirtual 66) 20)) (tZ 632 (.iload 26)))))) (tB 607 (tB 618 (tB 625 (tB 628 (tB 631 (tZ 631 (.aload_n 2)) (tL 628 (.invokevirtual 66) 20)) (tB 626 (tZ 626 (.iload 26)) (tZ 625 (.aload_n 1)))) (tB 620 (tB 622 (tL 622 (.if_icmp .ge 26) 648) (tZ 620 (.bipush 16))) (tZ 618 (.iload 26)))) (tB 612 (tB 615 (tB 616 (tZ 616 (.istore 26)) (tZ 615 (.iconst 0))) (tL 612 (.goto (-26)) 586)) (tB 608 (tB 609 (tZ 609 (.iinc 26 1)) (tZ 608 .ireturn)) (tZ 607 (.iconst 0))))) (tB 593 (tB 599 (tB 601 (tB 604 (tL 604 (.if_icmp .eq 5) 609) (tL 601 (.invokevirtual 63) 19)) (tZ 599 (.iload 26))) (tB 595 (tB 598 (tZ 598 (.aload_n 2)) (tL 595 (.invokevirtual 63) 19)) (tZ 593 (.iload 26)))) (tB 588 (tB 589 (tB 592 (tZ 592 (.aload_n 1)) (tL 589 (.if_icmp .ge 26) 615)) (tZ 588 (.iconst 4))) (tB 584 (tB 586 (tZ 586 (.iload 26)) (tZ 584 (.istore 26))) (tZ 583 (.iconst 0)))))))) (tB 484 (tB 535 (tB 558 (tB 570 (tB 575 (tB 581 (tB 582 (tZ 582 .ireturn) (tZ 581 (.iconst 0))) (tB 578 (tL 578 (.if_icmp .eq 5) 583) (tL 575 (.invokevirtual 60) 18))) (tB 571 (tB 574 (tZ 574 (.aload_n 2)) (tL 571 (.invokevirtual 60) 18)) (tZ 570 (.aload_n 1)))) (tB 565 (tB 568 (tB 569 (tZ 569 .ireturn) (tZ 568 (.iconst 0))) (tL 565 (.if_icmp .eq 5) 570)) (tB 561 (tB 562 (tL 562 (.invokevirtual 57) 17) (tZ 561 (.aload_n 2))) (tL 558 (.invokevirtual 57) 17)))) (tB 545 (tB 552 (tB 556 (tB 557 (tZ 557 (.aload_n 1)) (tZ 556 .ireturn)) (tB 555 (tZ 555 (.iconst 0)) (tL 552 (.if_icmp .eq 5) 557))) (tB 548 (tB 549 (tL 549 (.invokevirtual 54) 16) (tZ 548 (.aload_n 2))) (tL 545 (.invokevirtual 54) 16))) (tB 542 (tB 543 (tB 544 (tZ 544 (.aload_n 1)) (tZ 543 .ireturn)) (tZ 542 (.iconst 0))) (tB 536 (tB 539 (tL 539 (.if_icmp .eq 5) 544) (tL 536 (.invokevirtual 50) 15)) (tZ 535 (.aload_n 2)))))) (tB 511 (tB 521 (tB 529 (tB 531 (tB 532 (tL 532 (.invokevirtual 50) 15) (tZ 531 (.aload_n 1))) (tB 530 (tZ 530 .ireturn) (tZ 529 (.iconst 0)))) (tB 523 (tB 526 (tL 526 (.if_icmp .eq 5) 531) (tL 523 (.invokevirtual 46) 11)) (tZ 521 (.iload 25)))) (tB 515 (tB 517 (tB 520 (tZ 520 (.aload_n 2)) (tL 517 (.invokevirtual 46) 11)) (tZ 515 (.iload 25))) (tB 512 (tB 514 (tZ 514 (.aload_n 1)) (tZ 512 (.istore 25))) (tZ 511 .isub)))) (tB 497 (tB 504 (tB 506 (tB 509 (tZ 509 (.bipush 20)) (tL 506 (.invokestatic 21) 5)) (tZ 504 (.bipush 41))) (tB 498 (tB 501 (tL 501 (.invokestatic 15) 4) (tZ 498 (.iinc 3 1))) (tZ 497 (.iload_n 3)))) (tB 491 (tB 494 (tB 496 (tZ 496 (.aload_n 0)) (tZ 494 (.istore 23))) (tL 491 (.invokevirtual 42) 23)) (tB 487 (tB 490 (tZ 490 (.aload_n 1)) (tL 487 (.goto (-131)) 356)) (tZ 484 (.iinc 25 1))))))) (tB 427 (tB 455 (tB 468 (tB 475 (tB 480 (tB 482 (tZ 482 (.lstore 21)) (tZ 480 (.lload 26))) (tB 477 (tL 477 (.goto 7) 484) (tZ 475 (.lstore 19)))) (tB 470 (tB 473 (tZ 473 (.lload 26)) (tL 470 (.if_icmp .ne 10) 480)) (tZ 468 (.bipush 6)))) (tB 461 (tB 463 (tB 466 (tZ 466 (.iload 25)) (tL 463 (.goto 21) 484)) (tZ 461 (.lstore 17))) (tB 456 (tB 459 (tZ 459 (.lload 26)) (tL 456 (.if_icmp .ne 10) 466)) (tZ 455 (.iconst 5))))) (tB 440 (tB 446 (tB 450 (tB 453 (tZ 453 (.iload 25)) (tL 450 (.goto 34) 484)) (tB 448 (tZ 448 (.lstore 15)) (tZ 446 (.lload 26)))) (tB 442 (tB 443 (tL 443 (.if_icmp .ne 10) 453) (tZ 442 (.iconst 4))) (tZ 440 (.iload 25)))) (tB 433 (tB 435 (tB 437 (tL 437 (.goto 47) 484) (tZ 435 (.lstore 13))) (tZ 433 (.lload 26))) (tB 429 (tB 430 (tL 430 (.if_icmp .ne 10) 440) (tZ 429 (.iconst 3))) (tZ 427 (.iload 25)))))) (tB 398 (tB 411 (tB 417 (tB 422 (tB 424 (tL 424 (.goto 60) 484) (tZ 422 (.lstore 11))) (tB 420 (tZ 420 (.lload 26)) (tL 417 (.if_icmp .ne 10) 427))) (tB 414 (tB 416 (tZ 416 (.iconst 2)) (tZ 414 (.iload 25))) (tL 411 (.goto 73) 484))) (tB 404 (tB 407 (tB 409 (tZ 409 (.lstore 9)) (tZ 407 (.lload 26))) (tL 404 (.if_icmp .ne 10) 414)) (tB 401 (tB 403 (tZ 403 (.iconst 1)) (tZ 401 (.iload 25))) (tL 398 (.goto 86) 484)))) (tB 386 (tB 391 (tB 394 (tB 396 (tZ 396 (.lstore 7)) (tZ 394 (.lload 26))) (tL 391 (.ifCond .ne 10) 401)) (tB 387 (tB 389 (tZ 389 (.iload 25)) (tZ 387 (.lstore 26))) (tZ 386 .lor))) (tB 382 (tB 383 (tB 385 (tZ 385 .lshl) (tZ 383 (.bipush 32))) (tZ 382 .i2l)) (tB 378 (tB 379 (tL 379 (.invokevirtual 37) 22) (tZ 378 (.iconst 1))) (tZ 376 (.iload 25))))))))) (tB 188 (tB 285 (tB 329 (tB 353 (tB 364 (tB 370 (tB 374 (tB 375 (tZ 375 (.aload_n 1)) (tZ 374 .land)) (tB 371 (tZ 371 (.ldc2_w 40)) (tZ 370 .i2l))) (tB 366 (tB 367 (tL 367 (.invokevirtual 37) 22) (tZ 366 (.iconst 0))) (tZ 364 (.iload 25)))) (tB 358 (tB 360 (tB 363 (tZ 363 (.aload_n 1)) (tL 360 (.if_icmp .ge 130) 490)) (tZ 358 (.bipush 8))) (tB 354 (tB 356 (tZ 356 (.iload 25)) (tZ 354 (.istore 25))) (tZ 353 (.iconst 0))))) (tB 339 (tB 343 (tB 348 (tB 350 (tL 350 (.if_icmp .ne 146) 496) (tZ 348 (.iload 6))) (tB 346 (tZ 346 (.iload 24)) (tL 343 (.if_icmp .ge 441) 784))) (tB 341 (tB 342 (tZ 342 .iadd) (tZ 341 (.iconst 4))) (tZ 339 (.iload 6)))) (tB 334 (tB 335 (tB 337 (tZ 337 (.iload 24)) (tZ 335 (.istore 24))) (tZ 334 (.iconst 0))) (tB 331 (tB 332 (tZ 332 (.istore 23)) (tZ 331 (.iconst 0))) (tZ 329 (.lstore 21)))))) (tB 310 (tB 319 (tB 323 (tB 326 (tB 328 (tZ 328 (.lconst 0)) (tZ 326 (.lstore 19))) (tB 325 (tZ 325 (.lconst 0)) (tZ 323 (.lstore 17)))) (tB 320 (tB 322 (tZ 322 (.lconst 0)) (tZ 320 (.lstore 15))) (tZ 319 (.lconst 0)))) (tB 314 (tB 316 (tB 317 (tZ 317 (.lstore 13)) (tZ 316 (.lconst 0))) (tZ 314 (.lstore 11))) (tB 311 (tB 313 (tZ 313 (.lconst 0)) (tZ 311 (.lstore 9))) (tZ 310 (.lconst 0))))) (tB 297 (tB 304 (tB 307 (tB 308 (tZ 308 (.lstore 7)) (tZ 307 (.lconst 0))) (tB 305 (tZ 305 (.istore 6)) (tZ 304 .iadd))) (tB 300 (tB 301 (tL 301 (.invokestatic 21) 5) (tZ 300 (.iconst 3))) (tL 297 (.invokestatic 15) 4))) (tB 292 (tB 293 (tB 294 (tZ 294 (.iinc 3 1)) (tZ 293 (.iload_n 3))) (tZ 292 (.aload_n 0))) (tB 288 (tB 291 (tZ 291 (.iconst 1)) (tL 288 (.goto (-125)) 163)) (tZ 285 (.iinc 6 1))))))) (tB 235 (tB 260 (tB 272 (tB 277 (tB 281 (tB 284 (tZ 284 .pop) (tL 281 (.invokevirtual 33) 8)) (tB 279 (tZ 279 (.iload 10)) (tZ 277 (.iload 9)))) (tB 273 (tB 275 (tZ 275 (.iload 8)) (tZ 273 (.iload 6))) (tZ 272 (.aload_n 2)))) (tB 266 (tB 268 (tB 271 (tZ 271 .pop) (tL 268 (.invokevirtual 33) 8)) (tZ 266 (.iload 10))) (tB 262 (tB 264 (tZ 264 (.iload 9)) (tZ 262 (.iload 8))) (tZ 260 (.iload 6))))) (tB 246 (tB 253 (tB 256 (tB 259 (tZ 259 (.aload_n 1)) (tL 256 (.if_icmp .ne 29) 285)) (tB 255 (tZ 255 (.iconst 2)) (tZ 253 (.iload 7)))) (tB 249 (tB 250 (tL 250 (.goto 35) 285) (tZ 249 .pop)) (tL 246 (.invokevirtual 29) 10))) (tB 241 (tB 242 (tB 244 (tZ 244 (.iload 9)) (tZ 242 (.iload 6))) (tZ 241 (.aload_n 2))) (tB 237 (tB 240 (tZ 240 .pop) (tL 237 (.invokevirtual 29) 10)) (tZ 235 (.iload 9)))))) (tB 210 (tB 221 (tB 228 (tB 232 (tB 233 (tZ 233 (.iload 6)) (tZ 232 (.aload_n 1))) (tB 229 (tL 229 (.if_icmp .ne 24) 253) (tZ 228 (.iconst 1)))) (tB 223 (tB 226 (tZ 226 (.iload 7)) (tZ 223 (.iinc 3 4))) (tZ 221 (.istore 10)))) (tB 213 (tB 216 (tB 218 (tL 218 (.invokestatic 21) 5) (tZ 216 (.iload 5))) (tL 213 (.invokestatic 15) 4)) (tB 211 (tB 212 (tZ 212 .iadd) (tZ 211 (.iconst 3))) (tZ 210 (.iload_n 3))))) (tB 198 (tB 204 (tB 207 (tB 209 (tZ 209 (.aload_n 0)) (tZ 207 (.istore 9))) (tL 204 (.invokestatic 21) 5)) (tB 199 (tB 202 (tZ 202 (.iload 5)) (tL 199 (.invokestatic 15) 4)) (tZ 198 .iadd))) (tB 195 (tB 196 (tB 197 (tZ 197 (.iconst 2)) (tZ 196 (.iload_n 3))) (tZ 195 (.aload_n 0))) (tB 190 (tB 193 (tZ 193 (.istore 8)) (tL 190 (.invokestatic 21) 5)) (tZ 188 (.bipush 16)))))))) (tB 95 (tB 140 (tB 165 (tB 176 (tB 182 (tB 184 (tB 185 (tL 185 (.invokestatic 15) 4) (tZ 184 .iadd)) (tB 183 (tZ 183 (.iconst 1)) (tZ 182 (.iload_n 3)))) (tB 179 (tB 181 (tZ 181 (.aload_n 0)) (tZ 179 (.istore 7))) (tL 176 (.invokestatic 21) 5))) (tB 171 (tB 172 (tB 175 (tZ 175 (.iconst 3)) (tL 172 (.invokestatic 15) 4)) (tZ 171 (.iload_n 3))) (tB 167 (tB 170 (tZ 170 (.aload_n 0)) (tL 167 (.if_icmp .ge 124) 291)) (tZ 165 (.iload 5))))) (tB 150 (tB 157 (tB 161 (tB 163 (tZ 163 (.iload 6)) (tZ 161 (.istore 6))) (tB 160 (tZ 160 (.iconst 0)) (tL 157 (.goto (-94)) 63))) (tB 153 (tB 154 (tZ 154 (.iinc 6 1)) (tZ 153 .pop)) (tL 150 (.invokevirtual 25) 6))) (tB 144 (tB 146 (tB 148 (tZ 148 (.iload 10)) (tZ 146 (.iload 9))) (tZ 144 (.iload 8))) (tB 141 (tB 142 (tZ 142 (.iload 7)) (tZ 141 (.aload_n 2))) (tZ 140 .pop))))) (tB 112 (tB 125 (tB 131 (tB 135 (tB 137 (tL 137 (.invokevirtual 25) 6) (tZ 135 (.iload 10))) (tB 133 (tZ 133 (.iload 9)) (tZ 131 (.iload 8)))) (tB 128 (tB 129 (tZ 129 (.iload 7)) (tZ 128 (.aload_n 1))) (tZ 125 (.iinc 3 4)))) (tB 120 (tB 122 (tB 123 (tZ 123 (.istore 10)) (tZ 122 .isub)) (tZ 120 (.bipush 8))) (tB 115 (tB 117 (tL 117 (.invokestatic 21) 5) (tZ 115 (.bipush 17))) (tL 112 (.invokestatic 15) 4)))) (tB 103 (tB 109 (tB 110 (tB 111 (tZ 111 .iadd) (tZ 110 (.iconst 3))) (tZ 109 (.iload_n 3))) (tB 106 (tB 108 (tZ 108 (.aload_n 0)) (tZ 106 (.istore 9))) (tL 103 (.invokestatic 21) 5))) (tB 98 (tB 99 (tB 102 (tZ 102 (.iconst 4)) (tL 99 (.invokestatic 15) 4)) (tZ 98 .iadd)) (tB 96 (tB 97 (tZ 97 (.iconst 2)) (tZ 96 (.iload_n 3))) (tZ 95 (.aload_n 0))))))) (tB 45 (tB 71 (tB 83 (tB 86 (tB 90 (tB 93 (tZ 93 (.istore 8)) (tL 90 (.invokestatic 21) 5)) (tB 89 (tZ 89 (.iconst 4)) (tL 86 (.invokestatic 15) 4))) (tB 84 (tB 85 (tZ 85 .iadd) (tZ 84 (.iconst 1))) (tZ 83 (.iload_n 3)))) (tB 77 (tB 80 (tB 82 (tZ 82 (.aload_n 0)) (tZ 80 (.istore 7))) (tL 77 (.invokestatic 21) 5)) (tB 72 (tB 75 (tZ 75 (.bipush 8)) (tL 72 (.invokestatic 15) 4)) (tZ 71 (.iload_n 3))))) (tB 58 (tB 63 (tB 67 (tB 70 (tZ 70 (.aload_n 0)) (tL 67 (.if_icmp .ge 93) 160)) (tB 65 (tZ 65 (.iload 5)) (tZ 63 (.iload 6)))) (tB 60 (tB 61 (tZ 61 (.istore 6)) (tZ 60 (.iconst 0))) (tZ 58 (.istore 5)))) (tB 52 (tB 54 (tB 57 (tZ 57 .iadd) (tL 54 (.invokestatic 21) 5)) (tZ 52 (.bipush 8))) (tB 46 (tB 49 (tL 49 (.invokestatic 15) 4) (tZ 46 (.iinc 3 1))) (tZ 45 (.iload_n 3)))))) (tB 24 (tB 32 (tB 39 (tB 43 (tB 44 (tZ 44 (.aload_n 0)) (tZ 43 (.iconst 1))) (tB 40 (tL 40 (.invokevirtual 12) 2) (tZ 39 (.aload_n 2)))) (tB 35 (tB 36 (tL 36 (.invokevirtual 12) 2) (tZ 35 (.aload_n 1))) (tL 32 (.if_icmp .ge 758) 790))) (tB 27 (tB 29 (tB 31 (tZ 31 (.iconst 2)) (tZ 29 (.iload 4))) (tZ 27 (.istore 4))) (tB 25 (tB 26 (tZ 26 (.iconst 0)) (tZ 25 (.istore_n 3))) (tZ 24 (.iconst 0))))) (tB 12 (tB 18 (tB 20 (tB 23 (tZ 23 (.astore_n 2)) (tL 20 (.invokespecial 9) 1)) (tZ 18 (.bipush 32))) (tB 15 (tB 16 (tZ 16 (.bipush 8)) (tZ 15 .dup)) (tZ 12 (.new 7)))) (tB 6 (tB 8 (tB 11 (tZ 11 (.astore_n 1)) (tL 8 (.invokespecial 9) 1)) (tZ 6 (.bipush 32))) (tB 3 (tB 4 (tZ 4 (.bipush 8)) (tZ 3 .dup)) (tZ 0 (.new 7)))))))))) p
set_option maxHeartbeats 4000000 in
def cd1 (p : Nat) : Option (Instr × Nat) := (tB 158 (tB 235 (tB 274 (tB 293 (tB 300 (tB 304 (tB 305 (tB 308 (tZ 308 .return_) (tL 305 (.putfield 114) 34)) (tZ 304 (.iconst 0))) (tB 303 (tZ 303 (.aload_n 0)) (tL 300 (.putfield 111) 33))) (tB 295 (tB 298 (tB 299 (tZ 299 (.iconst 0)) (tZ 298 (.aload_n 0))) (tL 295 (.putfield 108) 32)) (tB 294 (tZ 294 (.iconst 0)) (tZ 293 (.aload_n 0))))) (tB 284 (tB 288 (tB 289 (tB 290 (tL 290 (.putfield 104) 31) (tZ 289 (.iconst 0))) (tZ 288 (.aload_n 0))) (tB 285 (tL 285 (.putfield 101) 30) (tZ 284 (.iconst 0)))) (tB 278 (tB 280 (tB 283 (tZ 283 (.aload_n 0)) (tL 280 (.putfield 98) 29)) (tZ 278 (.iload 4))) (tB 277 (tZ 277 (.aload_n 0)) (tL 274 (.putfield 94) 28))))) (tB 252 (tB 264 (tB 270 (tB 272 (tB 273 (tZ 273 (.iload_n 3)) (tZ 272 (.aload_n 0))) (tZ 270 (.istore 4))) (tB 267 (tZ 267 (.sipush 1024)) (tL 264 (.if_icmp .le 8) 272))) (tB 257 (tB 259 (tB 261 (tZ 261 (.sipush 1024)) (tZ 259 (.iload 4))) (tZ 257 (.istore 4))) (tB 255 (tZ 255 (.bipush 16)) (tL 252 (.if_icmp .ge 7) 259)))) (tB 244 (tB 246 (tB 248 (tB 250 (tZ 250 (.bipush 16)) (tZ 248 (.iload 4))) (tZ 246 (.istore 4))) (tB 245 (tZ 245 (.iload_n 2)) (tZ 244 (.istore_n 3)))) (tB 237 (tB 239 (tB 242 (tZ 242 (.bipush 16)) (tL 239 (.if_icmp .le 6) 245)) (tZ 237 (.bipush 16))) (tB 236 (tZ 236 (.iload_n 3)) (tZ 235 (.istore_n 3))))))) (tB 198 (tB 219 (tB 228 (tB 230 (tB 231 (tB 234 (tZ 234 (.iconst 2)) (tL 231 (.if_icmp .ge 5) 236)) (tZ 230 (.iconst 2))) (tB 229 (tZ 229 (.iload_n 3)) (tZ 228 (.istore_n 3)))) (tB 222 (tB 224 (tB 227 (tZ 227 (.iload_n 1)) (tL 224 (.putfield 91) 27)) (tZ 222 (.newarray .int))) (tB 220 (tZ 220 (.bipush 16)) (tZ 219 (.aload_n 0))))) (tB 208 (tB 212 (tB 214 (tB 216 (tL 216 (.putfield 88) 26) (tZ 214 (.newarray .int))) (tZ 212 (.bipush 16))) (tB 211 (tZ 211 (.aload_n 0)) (tL 208 (.putfield 85) 25))) (tB 203 (tB 204 (tB 206 (tZ 206 (.newarray .int)) (tZ 204 (.bipush 16))) (tZ 203 (.aload_n 0))) (tB 200 (tL 200 (.putfield 82) 24) (tZ 198 (.newarray .int)))))) (tB 179 (tB 188 (tB 192 (tB 195 (tB 196 (tZ 196 (.bipush 16)) (tZ 195 (.aload_n 0))) (tL 192 (.putfield 79) 23)) (tB 190 (tZ 190 (.newarray .int)) (tZ 188 (.bipush 16)))) (tB 182 (tB 184 (tB 187 (tZ 187 (.aload_n 0)) (tL 184 (.putfield 76) 22)) (tZ 182 (.newarray .int))) (tB 180 (tZ 180 (.bipush 16)) (tZ 179 (.aload_n 0))))) (tB 168 (tB 172 (tB 174 (tB 176 (tL 176 (.putfield 73) 21) (tZ 174 (.newarray .int))) (tZ 172 (.bipush 16))) (tB 171 (tZ 171 (.aload_n 0)) (tL 168 (.putfield 70) 20))) (tB 163 (tB 164 (tB 166 (tZ 166 (.newarray .int)) (tZ 164 (.bipush 16))) (tZ 163 (.aload_n 0))) (tB 160 (tL 160 (.putfield 67) 19) (tZ 158 (.newarray .int)))))))) (tB 79 (tB 118 (tB 139 (tB 148 (tB 152 (tB 155 (tB 156 (tZ 156 (.bipush 16)) (tZ 155 (.aload_n 0))) (tL 152 (.putfield 64) 18)) (tB 150 (tZ 150 (.newarray .int)) (tZ 148 (.bipush 16)))) (tB 142 (tB 144 (tB 147 (tZ 147 (.aload_n 0)) (tL 144 (.putfield 61) 17)) (tZ 142 (.newarray .int))) (tB 140 (tZ 140 (.bipush 16)) (tZ 139 (.aload_n 0))))) (tB 128 (tB 132 (tB 134 (tB 136 (tL 136 (.putfield 58) 16) (tZ 134 (.newarray .int))) (tZ 132 (.bipush 16))) (tB 131 (tZ 131 (.aload_n 0)) (tL 128 (.putfield 55) 15))) (tB 123 (tB 124 (tB 126 (tZ 126 (.newarray .int)) (tZ 124 (.bipush 16))) (tZ 123 (.aload_n 0))) (tB 120 (tL 120 (.putfield 52) 14) (tZ 118 (.newarray .int)))))) (tB 99 (tB 108 (tB 112 (tB 115 (tB 116 (tZ 116 (.bipush 16)) (tZ 115 (.aload_n 0))) (tL 112 (.putfield 49) 13)) (tB 110 (tZ 110 (.newarray .int)) (tZ 108 (.bipush 32)))) (tB 102 (tB 104 (tB 107 (tZ 107 (.aload_n 0)) (tL 104 (.putfield 46) 12)) (tZ 102 (.newarray .int))) (tB 100 (tZ 100 (.bipush 32)) (tZ 99 (.aload_n 0))))) (tB 88 (tB 92 (tB 94 (tB 96 (tL 96 (.putfield 43) 11) (tZ 94 (.newarray .int))) (tZ 92 (.bipush 16))) (tB 91 (tZ 91 (.aload_n 0)) (tL 88 (.putfield 40) 10))) (tB 84 (tB 85 (tB 86 (tZ 86 (.newarray .int)) (tZ 85 (.iconst 4))) (tZ 84 (.aload_n 0))) (tB 81 (tL 81 (.putfield 37) 9) (tZ 79 (.newarray .int))))))) (tB 39 (tB 60 (tB 69 (tB 73 (tB 76 (tB 77 (tZ 77 (.bipush 16)) (tZ 76 (.aload_n 0))) (tL 73 (.putfield 34) 8)) (tB 71 (tZ 71 (.newarray .int)) (tZ 69 (.bipush 16)))) (tB 63 (tB 65 (tB 68 (tZ 68 (.aload_n 0)) (tL 65 (.putfield 31) 7)) (tZ 63 (.newarray .int))) (tB 61 (tZ 61 (.bipush 16)) (tZ 60 (.aload_n 0))))) (tB 49 (tB 53 (tB 55 (tB 57 (tL 57 (.putfield 28) 6) (tZ 55 (.newarray .int))) (tZ 53 (.bipush 16))) (tB 52 (tZ 52 (.aload_n 0)) (tL 49 (.putfield 25) 5))) (tB 44 (tB 45 (tB 47 (tZ 47 (.newarray .int)) (tZ 45 (.bipush 16))) (tZ 44 (.aload_n 0))) (tB 41 (tL 41 (.putfield 22) 4) (tZ 39 (.newarray .int)))))) (tB 20 (tB 29 (tB 33 (tB 36 (tB 37 (tZ 37 (.bipush 16)) (tZ 36 (.aload_n 0))) (tL 33 (.putfield 19) 3)) (tB 31 (tZ 31 (.newarray .int)) (tZ 29 (.bipush 16)))) (tB 23 (tB 25 (tB 28 (tZ 28 (.aload_n 0)) (tL 25 (.putfield 16) 2)) (tZ 23 (.newarray .int))) (tB 21 (tZ 21 (.bipush 16)) (tZ 20 (.aload_n 0))))) (tB 9 (tB 13 (tB 15 (tB 17 (tL 17 (.putfield 13) 1) (tZ 15 (.newarray .int))) (tZ 13 (.bipush 16))) (tB 12 (tZ 12 (.aload_n 0)) (tZ 9 (.putfield 7)))) (tB 4 (tB 5 (tB 7 (tZ 7 (.newarray .int)) (tZ 5 (.bipush 16))) (tZ 4 (.aload_n 0))) (tB 1 (tZ 1 (.invokespecial 1)) (tZ 0 (.aload_n 0))))))))) p
set_option maxHeartbeats 4000000 in
def cd2 (p : Nat) : Option (Instr × Nat) := (tB 35 (tB 52 (tB 61 (tB 66 (tB 67 (tB 70 (tZ 70 .return_) (tL 67 (.putfield 114) 34)) (tZ 66 (.iconst 0))) (tB 62 (tB 65 (tZ 65 (.aload_n 0)) (tL 62 (.putfield 111) 33)) (tZ 61 (.iconst 0)))) (tB 56 (tB 57 (tB 60 (tZ 60 (.aload_n 0)) (tL 57 (.putfield 108) 32)) (tZ 56 (.iconst 0))) (tB 55 (tZ 55 (.aload_n 0)) (tL 52 (.goto (-16)) 36)))) (tB 43 (tB 47 (tB 48 (tB 49 (tZ 49 (.iinc 1 1)) (tZ 48 .iastore)) (tZ 47 (.iconst 0))) (tB 46 (tZ 46 (.iload_n 1)) (tL 43 (.getfield 43) 11))) (tB 37 (tB 39 (tB 42 (tZ 42 (.aload_n 0)) (tL 39 (.if_icmp .ge 16) 55)) (tZ 37 (.bipush 16))) (tB 36 (tZ 36 (.iload_n 1)) (tZ 35 (.istore_n 1)))))) (tB 16 (tB 25 (tB 28 (tB 31 (tB 34 (tZ 34 (.iconst 0)) (tL 31 (.goto (-15)) 16)) (tZ 28 (.iinc 1 1))) (tB 26 (tB 27 (tZ 27 .iastore) (tZ 26 (.iconst 0))) (tZ 25 (.iload_n 1)))) (tB 18 (tB 21 (tB 22 (tL 22 (.getfield 40) 10) (tZ 21 (.aload_n 0))) (tL 18 (.if_icmp .ge 16) 34)) (tB 17 (tZ 17 (.iconst 4)) (tZ 16 (.iload_n 1))))) (tB 7 (tB 11 (tB 14 (tB 15 (tZ 15 (.istore_n 1)) (tZ 14 (.iconst 0))) (tL 11 (.invokevirtual 121) 3)) (tB 10 (tZ 10 (.aload_n 0)) (tL 7 (.putfield 104) 31))) (tB 2 (tB 5 (tB 6 (tZ 6 (.iconst 0)) (tZ 5 (.aload_n 0))) (tL 2 (.putfield 101) 30)) (tB 1 (tZ 1 (.iconst 0)) (tZ 0 (.aload_n 0))))))) p
set_option maxHeartbeats 4000000 in
def cd3 (p : Nat) : Option (Instr × Nat) := (tB 14 (tB 20 (tB 22 (tB 25 (tB 28 (tZ 28 .return_) (tL 25 (.goto (-23)) 2)) (tZ 22 (.iinc 1 1))) (tB 21 (tZ 21 .iastore) (tZ 20 (.iconst 0)))) (tB 16 (tB 19 (tZ 19 (.iload_n 1)) (tL 16 (.getfield 37) 9)) (tB 15 (tZ 15 (.aload_n 0)) (tZ 14 .iastore)))) (tB 5 (tB 9 (tB 12 (tB 13 (tZ 13 (.iconst 0)) (tZ 12 (.iload_n 1))) (tL 9 (.getfield 34) 8)) (tB 8 (tZ 8 (.aload_n 0)) (tL 5 (.if_icmp .ge 23) 28))) (tB 2 (tB 3 (tZ 3 (.bipush 16)) (tZ 2 (.iload_n 1))) (tB 1 (tZ 1 (.istore_n 1)) (tZ 0 (.iconst 0)))))) p
set_option maxHeartbeats 4000000 in
def cd4 (p : Nat) : Option (Instr × Nat) := (tB 7 (tB 9 (tB 12 (tB 13 (tZ 13 .ireturn) (tZ 12 (.iconst 0))) (tL 9 (.goto 4) 13)) (tB 8 (tZ 8 .iaload) (tZ 7 (.iload_n 1)))) (tB 2 (tB 3 (tB 6 (tZ 6 (.aload_n 0)) (tL 3 (.if_icmp .ge 9) 12)) (tZ 2 .arraylength)) (tB 1 (tZ 1 (.aload_n 0)) (tZ 0 (.iload_n 1))))) p
set_option maxHeartbeats 4000000 in
def cd5 (p : Nat) : Option (Instr × Nat) := (tB 8 (tB 11 (tB 14 (tB 15 (tZ 15 .ireturn) (tZ 14 (.iload_n 2))) (tL 11 (.goto 4) 15)) (tB 9 (tB 10 (tZ 10 .iadd) (tZ 9 (.iload_n 1))) (tZ 8 (.iload_n 2)))) (tB 3 (tB 4 (tB 5 (tL 5 (.ifCond .ge 9) 14) (tZ 4 (.iload_n 2))) (tZ 3 (.istore_n 2))) (tB 1 (tB 2 (tZ 2 .irem) (tZ 1 (.iload_n 1))) (tZ 0 (.iload_n 0))))) p
set_option maxHeartbeats 4000000 in
def cd6 (p : Nat) : Option (Instr × Nat) := (tB 71 (tB 99 (tB 114 (tB 120 (tB 124 (tB 127 (tB 129 (tZ 129 .ireturn) (tZ 127 (.iload 5))) (tL 124 (.invokevirtual 121) 3)) (tB 123 (tZ 123 (.aload_n 0)) (tL 120 (.putfield 101) 30))) (tB 116 (tB 118 (tB 119 (tZ 119 .iadd) (tZ 118 (.iconst 1))) (tZ 116 (.iload 5))) (tB 115 (tZ 115 (.aload_n 0)) (tZ 114 .iastore)))) (tB 104 (tB 108 (tB 111 (tB 113 (tZ 113 (.iconst 0)) (tZ 111 (.iload 5))) (tL 108 (.getfield 31) 7)) (tB 107 (tZ 107 (.aload_n 0)) (tL 104 (.invokevirtual 117) 7))) (tB 102 (tB 103 (tZ 103 (.iconst 0)) (tZ 102 (.iconst 0))) (tB 101 (tZ 101 (.iconst 0)) (tZ 99 (.iload 5)))))) (tB 85 (tB 90 (tB 95 (tB 97 (tB 98 (tZ 98 (.aload_n 0)) (tZ 97 .iastore)) (tZ 95 (.iload 4))) (tB 93 (tZ 93 (.iload 5)) (tL 90 (.getfield 19) 3))) (tB 88 (tB 89 (tZ 89 (.aload_n 0)) (tZ 88 .iastore)) (tB 87 (tZ 87 (.iload_n 3)) (tZ 85 (.iload 5))))) (tB 77 (tB 80 (tB 81 (tB 82 (tL 82 (.getfield 16) 2) (tZ 81 (.aload_n 0))) (tZ 80 .iastore)) (tB 79 (tZ 79 (.iload_n 2)) (tZ 77 (.iload 5)))) (tB 73 (tB 74 (tL 74 (.getfield 13) 1) (tZ 73 (.aload_n 0))) (tB 72 (tZ 72 .iastore) (tZ 71 (.iload_n 1))))))) (tB 36 (tB 53 (tB 60 (tB 65 (tB 66 (tB 69 (tZ 69 (.iload 5)) (tZ 66 (.getfield 7))) (tZ 65 (.aload_n 0))) (tB 63 (tZ 63 (.istore 5)) (tL 60 (.getfield 101) 30))) (tB 57 (tB 58 (tB 59 (tZ 59 (.aload_n 0)) (tZ 58 .ireturn)) (tZ 57 (.iconst (-1)))) (tB 54 (tL 54 (.if_icmp .le 5) 59) (tZ 53 (.iconst 3))))) (tB 44 (tB 48 (tB 49 (tB 52 (tZ 52 (.iload_n 3)) (tL 49 (.ifCond .lt 8) 57)) (tZ 48 (.iload_n 3))) (tB 45 (tL 45 (.if_icmp .gt 12) 57) (tZ 44 (.iconst 3)))) (tB 40 (tB 43 (tZ 43 (.iload_n 2)) (tL 40 (.ifCond .lt 17) 57)) (tB 39 (tZ 39 (.iload_n 2)) (tL 36 (.if_icmp .gt 21) 57))))) (tB 19 (tB 28 (tB 30 (tB 33 (tB 34 (tZ 34 (.bipush 7)) (tZ 33 (.iload_n 1))) (tL 30 (.ifCond .lt 27) 57)) (tB 29 (tZ 29 (.iload_n 1)) (tZ 28 .ireturn))) (tB 24 (tB 27 (tZ 27 (.iconst (-1))) (tL 24 (.if_icmp .lt 5) 29)) (tB 22 (tZ 22 (.bipush 16)) (tL 19 (.getfield 101) 30)))) (tB 8 (tB 12 (tB 15 (tB 18 (tZ 18 (.aload_n 0)) (tL 15 (.if_icmp .eq 12) 27)) (tL 12 (.getfield 94) 28)) (tB 11 (tZ 11 (.aload_n 0)) (tL 8 (.getfield 101) 30))) (tB 4 (tB 7 (tZ 7 (.aload_n 0)) (tL 4 (.ifCond .ne 23) 27)) (tB 1 (tL 1 (.getfield 104) 31) (tZ 0 (.aload_n 0)))))))) p
set_option maxHeartbeats 4000000 in
def cd7 (p : Nat) : Option (Instr × Nat) := (tB 12 (tB 18 (tB 21 (tB 22 (tZ 22 .return_) (tZ 21 .iastore)) (tB 19 (tZ 19 (.iload 4)) (tZ 18 (.iload_n 1)))) (tB 14 (tB 15 (tL 15 (.getfield 28) 6) (tZ 14 (.aload_n 0))) (tB 13 (tZ 13 .iastore) (tZ 12 (.iload_n 3))))) (tB 6 (tB 8 (tB 11 (tZ 11 (.iload_n 1)) (tL 8 (.getfield 25) 5)) (tB 7 (tZ 7 (.aload_n 0)) (tZ 6 .iastore))) (tB 4 (tB 5 (tZ 5 (.iload_n 2)) (tZ 4 (.iload_n 1))) (tB 1 (tL 1 (.getfield 22) 4) (tZ 0 (.aload_n 0)))))) p
set_option maxHeartbeats 4000000 in
def cd8 (p : Nat) : Option (Instr × Nat) := (tB 36 (tB 51 (tB 61 (tB 63 (tB 66 (tB 67 (tZ 67 .ireturn) (tZ 66 (.iconst 1))) (tL 63 (.invokevirtual 121) 3)) (tB 62 (tZ 62 (.aload_n 0)) (tZ 61 .iastore))) (tB 55 (tB 58 (tB 59 (tZ 59 (.iload 4)) (tZ 58 (.iload_n 1))) (tL 55 (.getfield 31) 7)) (tB 54 (tZ 54 (.aload_n 0)) (tL 51 (.invokevirtual 117) 7)))) (tB 46 (tB 48 (tB 49 (tB 50 (tZ 50 (.iload_n 3)) (tZ 49 (.iload_n 2))) (tZ 48 (.iconst 2))) (tB 47 (tZ 47 (.iload_n 1)) (tZ 46 (.aload_n 0)))) (tB 41 (tB 44 (tB 45 (tZ 45 .ireturn) (tZ 44 (.iconst 0))) (tL 41 (.ifCond .ne 5) 46)) (tB 38 (tL 38 (.invokevirtual 124) 9) (tZ 36 (.iload 4)))))) (tB 17 (tB 27 (tB 29 (tB 32 (tB 35 (tZ 35 (.aload_n 0)) (tL 32 (.ifCond .eq 12) 44)) (tL 29 (.invokevirtual 124) 9)) (tB 28 (tZ 28 (.iload_n 3)) (tZ 27 (.aload_n 0)))) (tB 21 (tB 22 (tB 24 (tL 24 (.if_icmp .gt 20) 44) (tZ 22 (.bipush 15))) (tZ 21 (.iload_n 2))) (tB 18 (tL 18 (.ifCond .lt 26) 44) (tZ 17 (.iload_n 2))))) (tB 8 (tB 12 (tB 15 (tB 16 (tZ 16 .ireturn) (tZ 15 (.iconst 0))) (tL 12 (.ifCond .ne 5) 17)) (tB 9 (tL 9 (.invokevirtual 124) 9) (tZ 8 (.iload_n 1)))) (tB 4 (tB 7 (tZ 7 (.aload_n 0)) (tL 4 (.ifCond .ne 11) 15)) (tB 1 (tL 1 (.getfield 104) 31) (tZ 0 (.aload_n 0))))))) p
set_option maxHeartbeats 4000000 in
def cd9 (p : Nat) : Option (Instr × Nat) := (tB 12 (tB 18 (tB 22 (tB 23 (tZ 23 .ireturn) (tZ 22 (.iconst 0))) (tB 19 (tL 19 (.goto 4) 23) (tZ 18 (.iconst 1)))) (tB 13 (tB 15 (tL 15 (.if_icmp .ge 7) 22) (tZ 13 (.bipush 16))) (tZ 12 (.iload_n 1)))) (tB 5 (tB 6 (tB 9 (tL 9 (.if_icmp .ge 13) 22) (tL 6 (.getfield 101) 30)) (tZ 5 (.aload_n 0))) (tB 1 (tB 4 (tZ 4 (.iload_n 1)) (tL 1 (.ifCond .lt 21) 22)) (tZ 0 (.iload_n 1))))) p
set_option maxHeartbeats 4000000 in
def cd10 (p : Nat) : Option (Instr × Nat) := (tB 26 (tB 37 (tB 40 (tB 44 (tB 45 (tZ 45 .ireturn) (tZ 44 (.iconst 1))) (tB 41 (tL 41 (.invokevirtual 121) 3) (tZ 40 (.aload_n 0)))) (tB 38 (tB 39 (tZ 39 .iastore) (tZ 38 (.iconst 0))) (tZ 37 (.iload_n 1)))) (tB 29 (tB 33 (tB 34 (tL 34 (.getfield 31) 7) (tZ 33 (.aload_n 0))) (tB 30 (tL 30 (.invokevirtual 117) 7) (tZ 29 (.iload_n 2)))) (tB 27 (tB 28 (tZ 28 (.iconst 0)) (tZ 27 (.iconst 1))) (tZ 26 (.iload_n 1))))) (tB 15 (tB 20 (tB 24 (tB 25 (tZ 25 (.aload_n 0)) (tZ 24 .ireturn)) (tB 23 (tZ 23 (.iconst 0)) (tL 20 (.ifCond .ne 5) 25))) (tB 16 (tB 17 (tL 17 (.invokevirtual 124) 9) (tZ 16 (.iload_n 2))) (tZ 15 (.aload_n 0)))) (tB 7 (tB 9 (tB 12 (tL 12 (.ifCond .eq 11) 23) (tL 9 (.invokevirtual 124) 9)) (tB 8 (tZ 8 (.iload_n 1)) (tZ 7 (.aload_n 0)))) (tB 1 (tB 4 (tL 4 (.ifCond .ne 19) 23) (tL 1 (.getfield 104) 31)) (tZ 0 (.aload_n 0)))))) p
set_option maxHeartbeats 4000000 in
def cd11 (p : Nat) : Option (Instr × Nat) := (tB 51 (tB 86 (tB 103 (tB 112 (tB 114 (tB 117 (tB 118 (tZ 118 .ireturn) (tZ 117 (.iload_n 3))) (tL 114 (.putfield 114) 34)) (tB 113 (tZ 113 (.iload_n 3)) (tZ 112 (.aload_n 0)))) (tB 108 (tB 109 (tL 109 (.goto (-58)) 51) (tZ 108 (.istore_n 2))) (tB 106 (tZ 106 (.iload 4)) (tL 103 (.goto 9) 112)))) (tB 94 (tB 98 (tB 101 (tB 102 (tZ 102 (.istore_n 3)) (tZ 101 (.iconst 1))) (tL 98 (.ifCond .ge 8) 106)) (tB 96 (tZ 96 (.iload 4)) (tZ 94 (.istore 4)))) (tB 90 (tB 91 (tL 91 (.invokevirtual 132) 12) (tZ 90 (.iload_n 2))) (tB 89 (tZ 89 (.aload_n 0)) (tL 86 (.goto 10) 96))))) (tB 68 (tB 76 (tB 80 (tB 81 (tB 84 (tZ 84 (.istore 4)) (tL 81 (.invokevirtual 128) 33)) (tZ 80 (.iload_n 2))) (tB 79 (tZ 79 (.aload_n 0)) (tL 76 (.ifCond .eq 13) 89))) (tB 72 (tB 73 (tL 73 (.getfield 104) 31) (tZ 72 (.aload_n 0))) (tB 69 (tL 69 (.putfield 111) 33) (tZ 68 .iadd)))) (tB 59 (tB 63 (tB 64 (tB 67 (tZ 67 (.iconst 1)) (tL 64 (.getfield 111) 33)) (tZ 63 .dup)) (tB 62 (tZ 62 (.aload_n 0)) (tL 59 (.if_icmp .ge 53) 112))) (tB 55 (tB 56 (tL 56 (.getfield 98) 29) (tZ 55 (.aload_n 0))) (tB 52 (tL 52 (.getfield 111) 33) (tZ 51 (.aload_n 0))))))) (tB 27 (tB 38 (tB 44 (tB 48 (tB 49 (tB 50 (tZ 50 (.istore_n 3)) (tZ 49 (.iconst 2))) (tZ 48 (.istore_n 2))) (tB 47 (tZ 47 (.iconst 0)) (tL 44 (.putfield 111) 33))) (tB 42 (tB 43 (tZ 43 (.iconst 0)) (tZ 42 (.aload_n 0))) (tB 39 (tL 39 (.putfield 108) 32) (tZ 38 (.iconst 0))))) (tB 31 (tB 35 (tB 36 (tB 37 (tZ 37 (.aload_n 0)) (tZ 36 .iastore)) (tZ 35 (.iconst 0))) (tB 34 (tZ 34 (.iconst 3)) (tL 31 (.getfield 40) 10))) (tB 29 (tB 30 (tZ 30 (.aload_n 0)) (tZ 29 .iastore)) (tB 28 (tZ 28 (.iconst 0)) (tZ 27 (.iconst 2)))))) (tB 14 (tB 20 (tB 22 (tB 23 (tB 24 (tL 24 (.getfield 40) 10) (tZ 23 (.aload_n 0))) (tZ 22 .iastore)) (tB 21 (tZ 21 (.iconst 0)) (tZ 20 (.iconst 1)))) (tB 16 (tB 17 (tL 17 (.getfield 40) 10) (tZ 16 (.aload_n 0))) (tB 15 (tZ 15 .iastore) (tZ 14 (.iload_n 1))))) (tB 8 (tB 10 (tB 13 (tZ 13 (.iconst 0)) (tL 10 (.getfield 40) 10)) (tB 9 (tZ 9 (.aload_n 0)) (tZ 8 .ireturn))) (tB 4 (tB 7 (tZ 7 (.iconst 3)) (tL 4 (.ifCond .ne 5) 9)) (tB 1 (tL 1 (.getfield 101) 30) (tZ 0 (.aload_n 0)))))))) p
set_option maxHeartbeats 4000000 in
def cd12 (p : Nat) : Option (Instr × Nat) := (tB 61 (tB 94 (tB 108 (tB 113 (tB 118 (tB 119 (tB 120 (tZ 120 .ireturn) (tZ 119 (.iconst (-1)))) (tZ 118 .ireturn)) (tB 116 (tB 117 (tZ 117 .iaload) (tZ 116 (.iload_n 1))) (tL 113 (.getfield 31) 7))) (tB 110 (tB 111 (tB 112 (tZ 112 (.aload_n 0)) (tZ 111 .iastore)) (tZ 110 .iadd)) (tB 109 (tZ 109 (.iconst 1)) (tZ 108 .iaload)))) (tB 101 (tB 103 (tB 106 (tB 107 (tZ 107 .dup2) (tZ 106 (.iload_n 1))) (tL 103 (.getfield 37) 9)) (tB 102 (tZ 102 (.aload_n 0)) (tZ 101 .ireturn))) (tB 96 (tB 99 (tB 100 (tZ 100 .iaload) (tZ 99 (.iload_n 1))) (tL 96 (.getfield 28) 6)) (tB 95 (tZ 95 (.aload_n 0)) (tZ 94 .iastore))))) (tB 77 (tB 86 (tB 91 (tB 92 (tB 93 (tZ 93 .iadd) (tZ 92 (.iconst 1))) (tZ 91 .iaload)) (tB 89 (tB 90 (tZ 90 .dup2) (tZ 89 (.iload_n 1))) (tL 86 (.getfield 34) 8))) (tB 79 (tB 82 (tB 85 (tZ 85 (.aload_n 0)) (tL 82 (.ifCond .eq 20) 102)) (tL 79 (.invokevirtual 153) 14)) (tB 78 (tZ 78 .iaload) (tZ 77 (.iload_n 1))))) (tB 68 (tB 72 (tB 73 (tB 74 (tL 74 (.getfield 25) 5) (tZ 73 (.aload_n 0))) (tZ 72 (.aload_n 0))) (tB 69 (tL 69 (.if_icmp .ne 50) 119) (tZ 68 (.iconst 2)))) (tB 65 (tB 66 (tB 67 (tZ 67 (.iload_n 2)) (tZ 66 .ireturn)) (tZ 65 .iaload)) (tB 64 (tZ 64 (.iload_n 1)) (tL 61 (.getfield 28) 6)))))) (tB 30 (tB 46 (tB 55 (tB 58 (tB 59 (tB 60 (tZ 60 (.aload_n 0)) (tZ 59 .iastore)) (tZ 58 .iadd)) (tB 56 (tB 57 (tZ 57 (.iconst 1)) (tZ 56 .iaload)) (tZ 55 .dup2))) (tB 50 (tB 51 (tB 54 (tZ 54 (.iload_n 1)) (tL 51 (.getfield 34) 8)) (tZ 50 (.aload_n 0))) (tB 47 (tL 47 (.if_icmp .ne 20) 67) (tZ 46 (.iconst 1))))) (tB 39 (tB 43 (tB 44 (tB 45 (tZ 45 (.iload_n 2)) (tZ 44 (.istore_n 2))) (tZ 43 .iaload)) (tB 42 (tZ 42 (.iload_n 1)) (tL 39 (.getfield 22) 4))) (tB 34 (tB 35 (tB 38 (tZ 38 (.aload_n 0)) (tL 35 (.invokevirtual 150) 13)) (tZ 34 .iaload)) (tB 33 (tZ 33 (.iload_n 1)) (tL 30 (.getfield 19) 3))))) (tB 16 (tB 23 (tB 27 (tB 28 (tB 29 (tZ 29 (.aload_n 0)) (tZ 28 .iaload)) (tZ 27 (.iload_n 1))) (tB 24 (tL 24 (.getfield 16) 2) (tZ 23 (.aload_n 0)))) (tB 18 (tB 21 (tB 22 (tZ 22 .iaload) (tZ 21 (.iload_n 1))) (tL 18 (.getfield 13) 1)) (tB 17 (tZ 17 (.aload_n 0)) (tZ 16 .iaload)))) (tB 9 (tB 11 (tB 12 (tB 15 (tZ 15 (.iload_n 1)) (tZ 12 (.getfield 7))) (tZ 11 (.aload_n 0))) (tB 10 (tZ 10 (.aload_n 0)) (tZ 9 .ireturn))) (tB 2 (tB 5 (tB 8 (tZ 8 (.iconst (-1))) (tL 5 (.ifCond .ne 5) 10)) (tL 2 (.invokevirtual 124) 9)) (tB 1 (tZ 1 (.iload_n 1)) (tZ 0 (.aload_n 0)))))))) p
set_option maxHeartbeats 4000000 in
def cd13 (p : Nat) : Option (Instr × Nat) := (tB 100 (tB 149 (tB 178 (tB 191 (tB 197 (tB 199 (tB 202 (tZ 202 .return_) (tL 199 (.putfield 108) 32)) (tB 198 (tZ 198 .iadd) (tZ 197 (.iconst 1)))) (tB 193 (tB 194 (tL 194 (.getfield 108) 32) (tZ 193 .dup)) (tB 192 (tZ 192 (.aload_n 0)) (tZ 191 .iastore)))) (tB 185 (tB 189 (tB 190 (tZ 190 .iaload) (tZ 189 (.iload_n 2))) (tB 186 (tL 186 (.getfield 40) 10) (tZ 185 (.aload_n 0)))) (tB 181 (tB 182 (tL 182 (.getfield 108) 32) (tZ 181 (.aload_n 0))) (tL 178 (.getfield 43) 11)))) (tB 161 (tB 169 (tB 174 (tB 177 (tZ 177 (.aload_n 0)) (tL 174 (.if_icmp .ge 18) 192)) (tB 172 (tZ 172 (.bipush 16)) (tL 169 (.getfield 108) 32))) (tB 165 (tB 168 (tZ 168 (.aload_n 0)) (tL 165 (.ifCond .lt 27) 192)) (tB 162 (tL 162 (.getfield 108) 32) (tZ 161 (.aload_n 0))))) (tB 152 (tB 156 (tB 158 (tL 158 (.if_icmp .ne 44) 202) (tZ 156 (.bipush 7))) (tB 155 (tZ 155 (.iload_n 1)) (tL 152 (.goto 50) 202))) (tB 150 (tB 151 (tZ 151 .iastore) (tZ 150 .ishr)) (tZ 149 (.iconst 1)))))) (tB 125 (tB 135 (tB 143 (tB 147 (tB 148 (tZ 148 .iaload) (tZ 147 (.iload_n 2))) (tB 144 (tL 144 (.getfield 40) 10) (tZ 143 (.aload_n 0)))) (tB 139 (tB 142 (tZ 142 (.iload_n 2)) (tL 139 (.getfield 40) 10)) (tB 138 (tZ 138 (.aload_n 0)) (tL 135 (.if_icmp .ne 20) 155)))) (tB 128 (tB 132 (tB 133 (tZ 133 (.bipush 6)) (tZ 132 (.iload_n 1))) (tB 129 (tL 129 (.goto 73) 202) (tZ 128 .iastore))) (tB 126 (tB 127 (tZ 127 .isub) (tZ 126 .iaload)) (tZ 125 (.iload_n 3))))) (tB 111 (tB 119 (tB 121 (tB 122 (tL 122 (.getfield 40) 10) (tZ 121 (.aload_n 0))) (tB 120 (tZ 120 .iaload) (tZ 119 (.iload_n 2)))) (tB 115 (tB 116 (tL 116 (.getfield 40) 10) (tZ 115 (.aload_n 0))) (tB 114 (tZ 114 (.iload_n 2)) (tL 111 (.getfield 40) 10)))) (tB 105 (tB 107 (tB 110 (tZ 110 (.aload_n 0)) (tL 107 (.if_icmp .ne 25) 132)) (tB 106 (tZ 106 (.iconst 5)) (tZ 105 (.iload_n 1)))) (tB 101 (tB 102 (tL 102 (.goto 100) 202) (tZ 101 .iastore)) (tZ 100 .iadd)))))) (tB 51 (tB 75 (tB 88 (tB 94 (tB 98 (tB 99 (tZ 99 .iaload) (tZ 98 (.iload_n 3))) (tB 95 (tL 95 (.getfield 40) 10) (tZ 94 (.aload_n 0)))) (tB 92 (tB 93 (tZ 93 .iaload) (tZ 92 (.iload_n 2))) (tB 89 (tL 89 (.getfield 40) 10) (tZ 88 (.aload_n 0))))) (tB 80 (tB 84 (tB 87 (tZ 87 (.iload_n 2)) (tL 84 (.getfield 40) 10)) (tB 83 (tZ 83 (.aload_n 0)) (tL 80 (.if_icmp .ne 25) 105))) (tB 78 (tB 79 (tZ 79 (.iconst 4)) (tZ 78 (.iload_n 1))) (tL 75 (.goto 127) 202)))) (tB 64 (tB 70 (tB 73 (tB 74 (tZ 74 .iastore) (tZ 73 .iadd)) (tB 71 (tZ 71 (.iload 4)) (tZ 70 .iaload))) (tB 66 (tB 69 (tZ 69 (.iload_n 2)) (tL 66 (.getfield 40) 10)) (tB 65 (tZ 65 (.aload_n 0)) (tZ 64 (.iload_n 2))))) (tB 56 (tB 60 (tB 61 (tL 61 (.getfield 40) 10) (tZ 60 (.aload_n 0))) (tB 57 (tL 57 (.if_icmp .ne 21) 78) (tZ 56 (.iconst 3)))) (tB 52 (tB 55 (tZ 55 (.iload_n 1)) (tL 52 (.goto 150) 202)) (tZ 51 .iastore))))) (tB 25 (tB 37 (tB 45 (tB 49 (tB 50 (tZ 50 .iaload) (tZ 49 (.iload_n 3))) (tB 46 (tL 46 (.getfield 40) 10) (tZ 45 (.aload_n 0)))) (tB 41 (tB 44 (tZ 44 (.iload_n 2)) (tL 41 (.getfield 40) 10)) (tB 40 (tZ 40 (.aload_n 0)) (tL 37 (.if_icmp .ne 18) 55)))) (tB 31 (tB 35 (tB 36 (tZ 36 (.iconst 2)) (tZ 35 (.iload_n 1))) (tB 32 (tL 32 (.goto 170) 202) (tZ 31 .iastore))) (tB 28 (tB 29 (tZ 29 (.iload 4)) (tZ 28 (.iload_n 2))) (tL 25 (.getfield 40) 10)))) (tB 13 (tB 19 (tB 21 (tB 24 (tZ 24 (.aload_n 0)) (tL 21 (.if_icmp .ne 14) 35)) (tB 20 (tZ 20 (.iconst 1)) (tZ 19 (.iload_n 1)))) (tB 15 (tB 18 (tZ 18 .return_) (tL 15 (.if_icmp .le 4) 19)) (tB 14 (tZ 14 (.iconst 3)) (tZ 13 (.iload_n 3))))) (tB 5 (tB 9 (tB 10 (tL 10 (.ifCond .lt 8) 18) (tZ 9 (.iload_n 3))) (tB 6 (tL 6 (.if_icmp .gt 12) 18) (tZ 5 (.iconst 3)))) (tB 1 (tB 4 (tZ 4 (.iload_n 2)) (tL 1 (.ifCond .lt 17) 18)) (tZ 0 (.iload_n 2)))))))) p
set_option maxHeartbeats 4000000 in
def cd14 (p : Nat) : Option (Instr × Nat) := (tB 30 (tB 49 (tB 59 (tB 64 (tB 67 (tB 68 (tZ 68 .ireturn) (tZ 67 (.iconst 0))) (tL 64 (.goto 4) 68)) (tB 60 (tB 63 (tZ 63 (.iconst 1)) (tL 60 (.ifCond .lt 7) 67)) (tZ 59 (.iload_n 2)))) (tB 54 (tB 57 (tB 58 (tZ 58 .ireturn) (tZ 57 (.iconst 0))) (tL 54 (.goto 4) 58)) (tB 50 (tB 53 (tZ 53 (.iconst 1)) (tL 50 (.ifCond .ge 7) 57)) (tZ 49 (.iload_n 2))))) (tB 39 (tB 44 (tB 45 (tB 46 (tL 46 (.if_icmp .ne 13) 59) (tZ 45 (.iconst 2))) (tZ 44 (.iload_n 3))) (tB 42 (tB 43 (tZ 43 .ireturn) (tZ 42 (.iconst 0))) (tL 39 (.goto 4) 43))) (tB 34 (tB 35 (tB 38 (tZ 38 (.iconst 1)) (tL 35 (.ifCond .eq 7) 42)) (tZ 34 (.iload_n 2))) (tB 31 (tL 31 (.if_icmp .ne 13) 44) (tZ 30 (.iconst 1)))))) (tB 13 (tB 20 (tB 27 (tB 28 (tB 29 (tZ 29 (.iload_n 3)) (tZ 28 .ireturn)) (tZ 27 (.iconst 0))) (tB 23 (tB 24 (tL 24 (.goto 4) 28) (tZ 23 (.iconst 1))) (tL 20 (.ifCond .ne 7) 27))) (tB 15 (tB 16 (tB 19 (tZ 19 (.iload_n 2)) (tL 16 (.ifCond .ne 13) 29)) (tZ 15 (.iload_n 3))) (tB 14 (tZ 14 (.istore_n 3)) (tZ 13 .iand)))) (tB 7 (tB 10 (tB 11 (tB 12 (tZ 12 (.iconst 3)) (tZ 11 .ishr)) (tZ 10 (.iconst 2))) (tB 8 (tB 9 (tZ 9 (.iload_n 1)) (tZ 8 (.istore_n 2))) (tZ 7 .iaload))) (tB 4 (tB 5 (tB 6 (tZ 6 .iand) (tZ 5 (.iconst 3))) (tZ 4 (.iload_n 1))) (tB 1 (tL 1 (.getfield 40) 10) (tZ 0 (.aload_n 0))))))) p
set_option maxHeartbeats 4000000 in
def cd15 (p : Nat) : Option (Instr × Nat) := (tB 1 (tB 4 (tZ 4 .ireturn) (tL 1 (.getfield 114) 34)) (tZ 0 (.aload_n 0))) p
set_option maxHeartbeats 4000000 in
def cd16 (p : Nat) : Option (Instr × Nat) := (tB 1 (tB 4 (tZ 4 .ireturn) (tL 1 (.getfield 111) 33)) (tZ 0 (.aload_n 0))) p
set_option maxHeartbeats 4000000 in
def cd17 (p : Nat) : Option (Instr × Nat) := (tB 1 (tB 4 (tZ 4 .ireturn) (tL 1 (.getfield 108) 32)) (tZ 0 (.aload_n 0))) p
set_option maxHeartbeats 4000000 in
def cd18 (p : Nat) : Option (Instr × Nat) := (tB 1 (tB 4 (tZ 4 .ireturn) (tL 1 (.getfield 101) 30)) (tZ 0 (.aload_n 0))) p
set_option maxHeartbeats 4000000 in
def cd19 (p : Nat) : Option (Instr × Nat) := (tB 10 (tB 15 (tB 16 (tB 17 (tZ 17 .ireturn) (tZ 16 .iaload)) (tZ 15 (.iload_n 1))) (tB 11 (tB 12 (tL 12 (.getfield 40) 10) (tZ 11 (.aload_n 0))) (tZ 10 .ireturn))) (tB 5 (tB 6 (tB 9 (tZ 9 (.iconst 0)) (tL 6 (.if_icmp .le 5) 11)) (tZ 5 (.iconst 3))) (tB 1 (tB 4 (tZ 4 (.iload_n 1)) (tL 1 (.ifCond .lt 8) 9)) (tZ 0 (.iload_n 1))))) p
set_option maxHeartbeats 4000000 in
def cd20 (p : Nat) : Option (Instr × Nat) := (tB 15 (tB 21 (tB 25 (tB 26 (tZ 26 .ireturn) (tZ 25 .iaload)) (tB 24 (tZ 24 (.iload_n 1)) (tL 21 (.getfield 43) 11))) (tB 19 (tB 20 (tZ 20 (.aload_n 0)) (tZ 19 .ireturn)) (tB 18 (tZ 18 (.iconst 0)) (tL 15 (.if_icmp .lt 5) 20)))) (tB 6 (tB 12 (tB 13 (tZ 13 (.bipush 16)) (tZ 12 (.iload_n 1))) (tB 9 (tL 9 (.if_icmp .ge 9) 18) (tL 6 (.getfield 108) 32))) (tB 4 (tB 5 (tZ 5 (.aload_n 0)) (tZ 4 (.iload_n 1))) (tB 1 (tL 1 (.ifCond .lt 17) 18) (tZ 0 (.iload_n 1)))))) p
set_option maxHeartbeats 4000000 in
def cd21 (p : Nat) : Option (Instr × Nat) := (tB 55 (tB 81 (tB 95 (tB 104 (tB 106 (tB 107 (tB 108 (tZ 108 .ireturn) (tZ 107 (.iconst 0))) (tZ 106 .ireturn)) (tB 105 (tZ 105 .iaload) (tZ 104 (.iload_n 1)))) (tB 100 (tB 101 (tL 101 (.getfield 31) 7) (tZ 100 (.aload_n 0))) (tB 97 (tL 97 (.if_icmp .ne 10) 107) (tZ 95 (.bipush 7))))) (tB 88 (tB 92 (tB 93 (tB 94 (tZ 94 (.iload_n 2)) (tZ 93 .ireturn)) (tZ 92 .iaload)) (tB 91 (tZ 91 (.iload_n 1)) (tL 88 (.getfield 28) 6))) (tB 84 (tB 87 (tZ 87 (.aload_n 0)) (tL 84 (.if_icmp .ne 10) 94)) (tB 82 (tZ 82 (.bipush 6)) (tZ 81 (.iload_n 2)))))) (tB 68 (tB 74 (tB 78 (tB 79 (tB 80 (tZ 80 .ireturn) (tZ 79 .iaload)) (tZ 78 (.iload_n 1))) (tB 75 (tL 75 (.getfield 25) 5) (tZ 74 (.aload_n 0)))) (tB 70 (tB 71 (tL 71 (.if_icmp .ne 10) 81) (tZ 70 (.iconst 5))) (tB 69 (tZ 69 (.iload_n 2)) (tZ 68 .ireturn)))) (tB 59 (tB 63 (tB 66 (tB 67 (tZ 67 .iaload) (tZ 66 (.iload_n 1))) (tL 63 (.getfield 22) 4)) (tB 62 (tZ 62 (.aload_n 0)) (tL 59 (.if_icmp .ne 10) 69))) (tB 57 (tB 58 (tZ 58 (.iconst 4)) (tZ 57 (.iload_n 2))) (tB 56 (tZ 56 .ireturn) (tZ 55 .iaload)))))) (tB 27 (tB 42 (tB 46 (tB 50 (tB 51 (tB 54 (tZ 54 (.iload_n 1)) (tL 51 (.getfield 19) 3)) (tZ 50 (.aload_n 0))) (tB 47 (tL 47 (.if_icmp .ne 10) 57) (tZ 46 (.iconst 3)))) (tB 44 (tB 45 (tZ 45 (.iload_n 2)) (tZ 44 .ireturn)) (tB 43 (tZ 43 .iaload) (tZ 42 (.iload_n 1))))) (tB 33 (tB 35 (tB 38 (tB 39 (tL 39 (.getfield 16) 2) (tZ 38 (.aload_n 0))) (tL 35 (.if_icmp .ne 10) 45)) (tB 34 (tZ 34 (.iconst 2)) (tZ 33 (.iload_n 2)))) (tB 31 (tB 32 (tZ 32 .ireturn) (tZ 31 .iaload)) (tB 30 (tZ 30 (.iload_n 1)) (tL 27 (.getfield 13) 1))))) (tB 14 (tB 20 (tB 22 (tB 23 (tB 26 (tZ 26 (.aload_n 0)) (tL 23 (.if_icmp .ne 10) 33)) (tZ 22 (.iconst 1))) (tB 21 (tZ 21 (.iload_n 2)) (tZ 20 .ireturn))) (tB 18 (tB 19 (tZ 19 .iaload) (tZ 18 (.iload_n 1))) (tB 15 (tZ 15 (.getfield 7)) (tZ 14 (.aload_n 0))))) (tB 8 (tB 10 (tB 11 (tL 11 (.ifCond .ne 10) 21) (tZ 10 (.iload_n 2))) (tB 9 (tZ 9 .ireturn) (tZ 8 (.iconst 0)))) (tB 2 (tB 5 (tL 5 (.ifCond .ne 5) 10) (tL 2 (.invokevirtual 124) 9)) (tB 1 (tZ 1 (.iload_n 1)) (tZ 0 (.aload_n 0)))))))) p
set_option maxHeartbeats 4000000 in
def cd22 (p : Nat) : Option (Instr × Nat) := (tB 19 (tB 27 (tB 32 (tB 33 (tB 34 (tZ 34 .ireturn) (tZ 33 (.iconst 0))) (tZ 32 .ireturn)) (tB 30 (tB 31 (tZ 31 .iaload) (tZ 30 (.iload_n 1))) (tL 27 (.getfield 37) 9))) (tB 22 (tB 23 (tB 26 (tZ 26 (.aload_n 0)) (tL 23 (.if_icmp .ne 10) 33)) (tZ 22 (.iconst 1))) (tB 20 (tB 21 (tZ 21 (.iload_n 2)) (tZ 20 .ireturn)) (tZ 19 .iaload)))) (tB 9 (tB 14 (tB 15 (tB 18 (tZ 18 (.iload_n 1)) (tL 15 (.getfield 34) 8)) (tZ 14 (.aload_n 0))) (tB 10 (tB 11 (tL 11 (.ifCond .ne 10) 21) (tZ 10 (.iload_n 2))) (tZ 9 .ireturn))) (tB 2 (tB 5 (tB 8 (tZ 8 (.iconst 0)) (tL 5 (.ifCond .ne 5) 10)) (tL 2 (.invokevirtual 124) 9)) (tB 1 (tZ 1 (.iload_n 1)) (tZ 0 (.aload_n 0)))))) p
set_option maxHeartbeats 4000000 in
def cd23 (p : Nat) : Option (Instr × Nat) := (tB 21 (tB 33 (tB 38 (tB 41 (tB 42 (tZ 42 .ireturn) (tZ 41 (.iconst 1))) (tL 38 (.putfield 104) 31)) (tB 36 (tB 37 (tZ 37 (.iconst 1)) (tZ 36 (.aload_n 0))) (tL 33 (.invokevirtual 147) 31))) (tB 28 (tB 29 (tB 32 (tZ 32 (.aload_n 0)) (tL 29 (.invokevirtual 144) 29)) (tZ 28 (.aload_n 0))) (tB 24 (tB 25 (tL 25 (.invokevirtual 141) 27) (tZ 24 (.aload_n 0))) (tL 21 (.invokevirtual 138) 26)))) (tB 11 (tB 16 (tB 17 (tB 20 (tZ 20 (.aload_n 0)) (tL 17 (.invokevirtual 135) 24)) (tZ 16 (.aload_n 0))) (tB 14 (tB 15 (tZ 15 .ireturn) (tZ 14 (.iconst 0))) (tL 11 (.ifCond .ne 5) 16))) (tB 4 (tB 7 (tB 8 (tL 8 (.getfield 101) 30) (tZ 7 (.aload_n 0))) (tL 4 (.ifCond .ne 10) 14)) (tB 1 (tL 1 (.getfield 104) 31) (tZ 0 (.aload_n 0)))))) p
set_option maxHeartbeats 4000000 in
def cd24 (p : Nat) : Option (Instr × Nat) := (tB 54 (tB 78 (tB 90 (tB 96 (tB 100 (tB 103 (tB 106 (tZ 106 .return_) (tL 103 (.goto (-75)) 28)) (tZ 100 (.iinc 1 1))) (tB 97 (tL 97 (.invokevirtual 159) 25) (tZ 96 .iaload))) (tB 92 (tB 95 (tZ 95 (.iload_n 1)) (tL 92 (.getfield 37) 9)) (tB 91 (tZ 91 (.aload_n 0)) (tZ 90 .iaload)))) (tB 84 (tB 86 (tB 89 (tZ 89 (.iload_n 1)) (tL 86 (.getfield 31) 7)) (tB 85 (tZ 85 (.aload_n 0)) (tZ 84 (.iconst 1)))) (tB 82 (tB 83 (tZ 83 (.iload_n 1)) (tZ 82 (.aload_n 0))) (tB 79 (tL 79 (.if_icmp .ne 21) 100) (tZ 78 (.iconst 2)))))) (tB 66 (tB 72 (tB 74 (tB 77 (tZ 77 (.iload_n 2)) (tL 74 (.invokevirtual 159) 25)) (tB 73 (tZ 73 .iaload) (tZ 72 (.iload_n 1)))) (tB 68 (tB 69 (tL 69 (.getfield 34) 8) (tZ 68 (.aload_n 0))) (tB 67 (tZ 67 .iaload) (tZ 66 (.iload_n 1))))) (tB 60 (tB 62 (tB 63 (tL 63 (.getfield 28) 6) (tZ 62 (.aload_n 0))) (tB 61 (tZ 61 (.iconst 0)) (tZ 60 (.iload_n 1)))) (tB 56 (tB 59 (tZ 59 (.aload_n 0)) (tL 56 (.if_icmp .ne 21) 77)) (tB 55 (tZ 55 (.iconst 2)) (tZ 54 (.iload_n 2))))))) (tB 27 (tB 42 (tB 48 (tB 50 (tB 51 (tL 51 (.if_icmp .eq 8) 59) (tZ 50 (.iconst 1))) (tB 49 (tZ 49 (.iload_n 2)) (tZ 48 (.istore_n 2)))) (tB 46 (tB 47 (tZ 47 .iaload) (tZ 46 (.iload_n 1))) (tB 43 (tL 43 (.getfield 22) 4) (tZ 42 (.aload_n 0))))) (tB 33 (tB 37 (tB 39 (tL 39 (.if_icmp .ge 67) 106) (tZ 37 (.bipush 16))) (tB 36 (tZ 36 (.iload_n 1)) (tL 33 (.if_icmp .ge 73) 106))) (tB 29 (tB 30 (tL 30 (.getfield 101) 30) (tZ 29 (.aload_n 0))) (tB 28 (tZ 28 (.iload_n 1)) (tZ 27 (.istore_n 1)))))) (tB 13 (tB 19 (tB 23 (tB 26 (tZ 26 (.iconst 0)) (tL 23 (.goto (-16)) 7)) (tB 20 (tZ 20 (.iinc 1 1)) (tZ 19 .iastore))) (tB 17 (tB 18 (tZ 18 (.iconst 0)) (tZ 17 (.iload_n 1))) (tB 14 (tL 14 (.getfield 61) 17) (tZ 13 (.aload_n 0))))) (tB 6 (tB 8 (tB 10 (tL 10 (.if_icmp .ge 16) 26) (tZ 8 (.bipush 16))) (tB 7 (tZ 7 (.iload_n 1)) (tZ 6 (.istore_n 1)))) (tB 2 (tB 5 (tZ 5 (.iconst 0)) (tL 2 (.putfield 156) 35)) (tB 1 (tZ 1 (.iconst 0)) (tZ 0 (.aload_n 0)))))))) p
set_option maxHeartbeats 4000000 in
def cd25 (p : Nat) : Option (Instr × Nat) := (tB 45 (tB 65 (tB 76 (tB 81 (tB 83 (tB 86 (tZ 86 .return_) (tL 83 (.putfield 156) 35)) (tB 82 (tZ 82 .iadd) (tZ 81 (.iconst 1)))) (tB 77 (tB 78 (tL 78 (.getfield 156) 35) (tZ 77 .dup)) (tZ 76 (.aload_n 0)))) (tB 70 (tB 73 (tB 75 (tZ 75 .iastore) (tZ 73 (.iload 4))) (tL 70 (.getfield 156) 35)) (tB 66 (tB 69 (tZ 69 (.aload_n 0)) (tL 66 (.getfield 49) 13)) (tZ 65 (.aload_n 0))))) (tB 56 (tB 61 (tB 63 (tB 64 (tZ 64 .iastore) (tZ 63 .iadd)) (tB 62 (tZ 62 (.iload_n 2)) (tZ 61 .imul))) (tB 59 (tB 60 (tZ 60 (.iconst 2)) (tZ 59 (.iload_n 1))) (tL 56 (.getfield 156) 35))) (tB 51 (tB 52 (tB 55 (tZ 55 (.aload_n 0)) (tL 52 (.getfield 46) 12)) (tZ 51 (.aload_n 0))) (tB 47 (tB 50 (tZ 50 .return_) (tL 47 (.if_icmp .lt 4) 51)) (tZ 45 (.bipush 32)))))) (tB 22 (tB 31 (tB 37 (tB 41 (tB 42 (tL 42 (.getfield 156) 35) (tZ 41 (.aload_n 0))) (tB 38 (tL 38 (.if_icmp .eq 12) 50) (tZ 37 (.iload_n 1)))) (tB 33 (tB 36 (tZ 36 (.iload_n 3)) (tL 33 (.ifCond .le 17) 50)) (tZ 31 (.iload 4)))) (tB 27 (tB 29 (tB 30 (tZ 30 .iastore) (tZ 29 .iadd)) (tZ 27 (.iload 4))) (tB 25 (tB 26 (tZ 26 .iaload) (tZ 25 (.iload_n 3))) (tL 22 (.getfield 61) 17)))) (tB 11 (tB 17 (tB 20 (tB 21 (tZ 21 (.aload_n 0)) (tZ 20 (.iload_n 3))) (tL 17 (.getfield 61) 17)) (tB 13 (tB 16 (tZ 16 (.aload_n 0)) (tL 13 (.ifCond .le 18) 31)) (tZ 11 (.iload 4)))) (tB 5 (tB 7 (tB 10 (tZ 10 .return_) (tL 7 (.if_icmp .lt 4) 11)) (tZ 5 (.bipush 16))) (tB 1 (tB 4 (tZ 4 (.iload_n 3)) (tL 1 (.ifCond .lt 9) 10)) (tZ 0 (.iload_n 3))))))) p
set_option maxHeartbeats 4000000 in
def cd26 (p : Nat) : Option (Instr × Nat) := (tB 63 (tB 94 (tB 111 (tB 119 (tB 121 (tB 124 (tB 127 (tZ 127 .return_) (tL 124 (.goto (-122)) 2)) (tZ 121 (.iinc 1 1))) (tB 120 (tZ 120 .iastore) (tZ 119 (.iload_n 3)))) (tB 115 (tB 117 (tB 118 (tZ 118 .iadd) (tZ 117 (.iconst 1))) (tZ 115 (.iload 4))) (tB 112 (tL 112 (.getfield 49) 13) (tZ 111 (.aload_n 0))))) (tB 105 (tB 108 (tB 109 (tB 110 (tZ 110 .iastore) (tZ 109 (.iload_n 2))) (tZ 108 .iadd)) (tB 107 (tZ 107 (.iconst 1)) (tZ 105 (.iload 4)))) (tB 98 (tB 101 (tB 102 (tL 102 (.getfield 46) 12) (tZ 101 (.aload_n 0))) (tL 98 (.goto (-63)) 35)) (tB 95 (tZ 95 (.iinc 4 (-1))) (tZ 94 .iastore))))) (tB 78 (tB 86 (tB 88 (tB 91 (tB 93 (tZ 93 .iaload) (tZ 91 (.iload 4))) (tL 88 (.getfield 49) 13)) (tB 87 (tZ 87 (.aload_n 0)) (tZ 86 .iadd))) (tB 80 (tB 83 (tB 85 (tZ 85 (.iconst 1)) (tZ 83 (.iload 4))) (tL 80 (.getfield 49) 13)) (tB 79 (tZ 79 (.aload_n 0)) (tZ 78 .iastore)))) (tB 70 (tB 72 (tB 75 (tB 77 (tZ 77 .iaload) (tZ 75 (.iload 4))) (tL 72 (.getfield 46) 12)) (tB 71 (tZ 71 (.aload_n 0)) (tZ 70 .iadd))) (tB 67 (tB 69 (tZ 69 (.iconst 1)) (tZ 67 (.iload 4))) (tB 64 (tL 64 (.getfield 46) 12) (tZ 63 (.aload_n 0))))))) (tB 30 (tB 43 (tB 51 (tB 56 (tB 57 (tB 60 (tL 60 (.ifCond .eq 41) 101) (tL 57 (.invokevirtual 162) 35)) (tZ 56 .iaload)) (tB 54 (tZ 54 (.iload 4)) (tL 51 (.getfield 46) 12))) (tB 47 (tB 49 (tB 50 (tZ 50 (.aload_n 0)) (tZ 49 .iaload)) (tZ 47 (.iload 4))) (tB 44 (tL 44 (.getfield 49) 13) (tZ 43 (.aload_n 0))))) (tB 35 (tB 40 (tB 41 (tB 42 (tZ 42 (.iload_n 2)) (tZ 41 (.iload_n 3))) (tZ 40 (.aload_n 0))) (tB 37 (tL 37 (.ifCond .lt 64) 101) (tZ 35 (.iload 4)))) (tB 32 (tB 33 (tZ 33 (.istore 4)) (tZ 32 .isub)) (tB 31 (tZ 31 (.iconst 1)) (tZ 30 (.iload_n 1)))))) (tB 16 (tB 23 (tB 27 (tB 28 (tB 29 (tZ 29 (.istore_n 3)) (tZ 28 .iaload)) (tZ 27 (.iload_n 1))) (tB 24 (tL 24 (.getfield 49) 13) (tZ 23 (.aload_n 0)))) (tB 20 (tB 21 (tB 22 (tZ 22 (.istore_n 2)) (tZ 21 .iaload)) (tZ 20 (.iload_n 1))) (tB 17 (tL 17 (.getfield 46) 12) (tZ 16 (.aload_n 0))))) (tB 4 (tB 10 (tB 11 (tB 13 (tL 13 (.if_icmp .ge 114) 127) (tZ 11 (.bipush 32))) (tZ 10 (.iload_n 1))) (tB 7 (tL 7 (.if_icmp .ge 120) 127) (tL 4 (.getfield 156) 35))) (tB 2 (tB 3 (tZ 3 (.aload_n 0)) (tZ 2 (.iload_n 1))) (tB 1 (tZ 1 (.istore_n 1)) (tZ 0 (.iconst 1)))))))) p
set_option maxHeartbeats 4000000 in
def cd27 (p : Nat) : Option (Instr × Nat) := (tB 51 (tB 72 (tB 85 (tB 91 (tB 97 (tB 100 (tZ 100 .return_) (tL 97 (.goto (-60)) 37)) (tB 94 (tZ 94 (.iinc 1 1)) (tL 91 (.invokevirtual 166) 28))) (tB 88 (tB 89 (tZ 89 (.iload 4)) (tZ 88 (.iload_n 3))) (tB 87 (tZ 87 (.aload_n 0)) (tZ 85 (.istore 4))))) (tB 79 (tB 83 (tB 84 (tZ 84 .iaload) (tZ 83 (.iload_n 3))) (tB 80 (tL 80 (.getfield 31) 7) (tZ 79 (.aload_n 0)))) (tB 74 (tB 76 (tL 76 (.goto 11) 87) (tZ 74 (.istore 4))) (tB 73 (tZ 73 .iaload) (tZ 72 (.iload_n 3)))))) (tB 60 (tB 64 (tB 68 (tB 69 (tL 69 (.getfield 28) 6) (tZ 68 (.aload_n 0))) (tB 65 (tL 65 (.ifCond .ne 14) 79) (tZ 64 .iand))) (tB 62 (tB 63 (tZ 63 (.iconst 1)) (tZ 62 (.iload_n 2))) (tB 61 (tZ 61 (.istore_n 3)) (tZ 60 .ishr)))) (tB 56 (tB 58 (tB 59 (tZ 59 (.iconst 1)) (tZ 58 (.iload_n 2))) (tB 57 (tZ 57 (.istore_n 2)) (tZ 56 .iaload))) (tB 52 (tB 55 (tZ 55 (.iload_n 1)) (tL 52 (.getfield 46) 12)) (tZ 51 (.aload_n 0)))))) (tB 22 (tB 36 (tB 42 (tB 46 (tB 48 (tL 48 (.if_icmp .ge 52) 100) (tZ 46 (.bipush 32))) (tB 45 (tZ 45 (.iload_n 1)) (tL 42 (.if_icmp .ge 58) 100))) (tB 38 (tB 39 (tL 39 (.getfield 156) 35) (tZ 38 (.aload_n 0))) (tB 37 (tZ 37 (.iload_n 1)) (tZ 36 (.istore_n 1))))) (tB 28 (tB 32 (tB 35 (tZ 35 (.iconst 0)) (tL 32 (.goto (-30)) 2)) (tB 29 (tZ 29 (.iinc 1 1)) (tZ 28 .iastore))) (tB 26 (tB 27 (tZ 27 (.iload_n 1)) (tZ 26 (.iload_n 1))) (tB 23 (tL 23 (.getfield 58) 16) (tZ 22 (.aload_n 0)))))) (tB 12 (tB 16 (tB 20 (tB 21 (tZ 21 .iastore) (tZ 20 (.iconst (-1)))) (tB 19 (tZ 19 (.iload_n 1)) (tL 16 (.getfield 55) 15))) (tB 14 (tB 15 (tZ 15 (.aload_n 0)) (tZ 14 .iastore)) (tB 13 (tZ 13 (.iconst (-1))) (tZ 12 (.iload_n 1))))) (tB 3 (tB 8 (tB 9 (tL 9 (.getfield 52) 14) (tZ 8 (.aload_n 0))) (tB 5 (tL 5 (.if_icmp .ge 30) 35) (tZ 3 (.bipush 16)))) (tB 1 (tB 2 (tZ 2 (.iload_n 1)) (tZ 1 (.istore_n 1))) (tZ 0 (.iconst 0))))))) p
set_option maxHeartbeats 4000000 in
def cd28 (p : Nat) : Option (Instr × Nat) := (tB 57 (tB 81 (tB 98 (tB 105 (tB 108 (tB 111 (tB 114 (tZ 114 .return_) (tL 111 (.goto (-32)) 79)) (tZ 108 (.iinc 5 1))) (tB 106 (tZ 106 (.istore 4)) (tZ 105 .iaload))) (tB 100 (tB 103 (tZ 103 (.iload 4)) (tL 100 (.getfield 52) 14)) (tB 99 (tZ 99 (.aload_n 0)) (tZ 98 .iastore)))) (tB 91 (tB 95 (tB 97 (tZ 97 (.iload_n 3)) (tZ 95 (.iload 4))) (tB 92 (tL 92 (.getfield 58) 16) (tZ 91 (.aload_n 0)))) (tB 86 (tB 88 (tL 88 (.ifCond .lt 26) 114) (tZ 86 (.iload 4))) (tB 83 (tL 83 (.if_icmp .ge 31) 114) (tZ 81 (.bipush 16)))))) (tB 67 (tB 73 (tB 76 (tB 77 (tB 79 (tZ 79 (.iload 5)) (tZ 77 (.istore 5))) (tZ 76 (.iconst 0))) (tB 74 (tZ 74 (.istore 4)) (tZ 73 (.iload_n 2)))) (tB 71 (tB 72 (tZ 72 (.istore_n 3)) (tZ 71 .iaload)) (tB 70 (tZ 70 (.iload_n 1)) (tL 67 (.getfield 58) 16)))) (tB 63 (tB 65 (tB 66 (tZ 66 (.aload_n 0)) (tZ 65 .iastore)) (tB 64 (tZ 64 (.iload_n 1)) (tZ 63 (.iload_n 2)))) (tB 59 (tB 60 (tL 60 (.getfield 55) 15) (tZ 59 (.aload_n 0))) (tB 58 (tZ 58 .iastore) (tZ 57 (.iload_n 2))))))) (tB 28 (tB 42 (tB 48 (tB 52 (tB 53 (tB 56 (tZ 56 (.iload_n 1)) (tL 53 (.getfield 52) 14)) (tZ 52 (.aload_n 0))) (tB 51 (tZ 51 .return_) (tL 48 (.if_icmp .ne 4) 52))) (tB 46 (tB 47 (tZ 47 (.iload_n 2)) (tZ 46 .iaload)) (tB 45 (tZ 45 (.iload_n 1)) (tL 42 (.getfield 58) 16)))) (tB 36 (tB 38 (tB 41 (tZ 41 (.aload_n 0)) (tL 38 (.if_icmp .ne 13) 51)) (tB 37 (tZ 37 (.iconst (-1))) (tZ 36 .iaload))) (tB 32 (tB 35 (tZ 35 (.iload_n 2)) (tL 32 (.getfield 55) 15)) (tB 31 (tZ 31 (.aload_n 0)) (tL 28 (.if_icmp .ne 23) 51))))) (tB 15 (tB 22 (tB 26 (tB 27 (tZ 27 (.iconst (-1))) (tZ 26 .iaload)) (tB 25 (tZ 25 (.iload_n 1)) (tL 22 (.getfield 52) 14))) (tB 20 (tB 21 (tZ 21 (.aload_n 0)) (tZ 20 .return_)) (tB 17 (tL 17 (.if_icmp .lt 4) 21) (tZ 15 (.bipush 16))))) (tB 7 (tB 11 (tB 14 (tZ 14 (.iload_n 2)) (tL 11 (.ifCond .le 9) 20)) (tB 10 (tZ 10 (.iload_n 2)) (tL 7 (.if_icmp .ge 13) 20))) (tB 4 (tB 5 (tZ 5 (.bipush 16)) (tZ 4 (.iload_n 1))) (tB 1 (tL 1 (.ifCond .lt 19) 20) (tZ 0 (.iload_n 1)))))))) p
set_option maxHeartbeats 4000000 in
def cd29 (p : Nat) : Option (Instr × Nat) := (tB 65 (tB 98 (tB 116 (tB 125 (tB 129 (tB 132 (tB 135 (tZ 135 .return_) (tL 132 (.goto (-102)) 30)) (tZ 129 (.iinc 2 1))) (tB 128 (tZ 128 (.istore_n 1)) (tL 125 (.invokevirtual 170) 30))) (tB 122 (tB 123 (tB 124 (tZ 124 (.iload_n 1)) (tZ 123 (.iload_n 3))) (tZ 122 (.aload_n 0))) (tB 119 (tL 119 (.goto 16) 135) (tL 116 (.ifCond .ge 6) 122)))) (tB 106 (tB 109 (tB 112 (tB 115 (tZ 115 (.iload_n 3)) (tL 112 (.goto (-63)) 49)) (tZ 109 (.iinc 4 1))) (tB 108 (tZ 108 (.istore_n 3)) (tZ 106 (.iload 4)))) (tB 102 (tB 103 (tL 103 (.if_icmp .le 6) 109) (tZ 102 .iaload)) (tB 101 (tZ 101 (.iload_n 3)) (tL 98 (.getfield 61) 17))))) (tB 82 (tB 90 (tB 94 (tB 96 (tB 97 (tZ 97 (.aload_n 0)) (tZ 96 .iaload)) (tZ 94 (.iload 4))) (tB 91 (tL 91 (.getfield 61) 17) (tZ 90 (.aload_n 0)))) (tB 86 (tB 87 (tL 87 (.ifCond .lt 19) 106) (tZ 86 (.iload_n 3))) (tB 83 (tL 83 (.ifCond .ge 26) 109) (tZ 82 .iaload)))) (tB 72 (tB 76 (tB 77 (tB 80 (tZ 80 (.iload 4)) (tL 77 (.getfield 64) 18)) (tZ 76 (.aload_n 0))) (tB 73 (tL 73 (.if_icmp .ne 36) 109) (tZ 72 (.iconst (-1))))) (tB 69 (tB 71 (tZ 71 .iaload) (tZ 69 (.iload 4))) (tB 66 (tL 66 (.getfield 55) 15) (tZ 65 (.aload_n 0))))))) (tB 29 (tB 45 (tB 52 (tB 58 (tB 60 (tB 62 (tL 62 (.if_icmp .ge 53) 115) (tZ 60 (.bipush 16))) (tZ 58 (.iload 4))) (tB 55 (tL 55 (.if_icmp .ge 60) 115) (tL 52 (.getfield 101) 30))) (tB 47 (tB 49 (tB 51 (tZ 51 (.aload_n 0)) (tZ 49 (.iload 4))) (tZ 47 (.istore 4))) (tB 46 (tZ 46 (.iconst 1)) (tZ 45 (.istore_n 3))))) (tB 35 (tB 39 (tB 41 (tB 44 (tZ 44 (.iconst (-1))) (tL 41 (.if_icmp .ge 94) 135)) (tZ 39 (.bipush 16))) (tB 38 (tZ 38 (.iload_n 2)) (tL 35 (.if_icmp .ge 100) 135))) (tB 31 (tB 32 (tL 32 (.getfield 101) 30) (tZ 31 (.aload_n 0))) (tB 30 (tZ 30 (.iload_n 2)) (tZ 29 (.istore_n 2)))))) (tB 14 (tB 22 (tB 24 (tB 27 (tB 28 (tZ 28 (.iconst 0)) (tZ 27 (.istore_n 1))) (tL 24 (.invokevirtual 170) 30)) (tB 23 (tZ 23 (.iconst 0)) (tZ 22 (.iconst 0)))) (tB 18 (tB 21 (tZ 21 (.aload_n 0)) (tL 18 (.goto (-16)) 2)) (tB 15 (tZ 15 (.iinc 1 1)) (tZ 14 .iastore)))) (tB 5 (tB 9 (tB 12 (tB 13 (tZ 13 (.iconst (-1))) (tZ 12 (.iload_n 1))) (tL 9 (.getfield 64) 18)) (tB 8 (tZ 8 (.aload_n 0)) (tL 5 (.if_icmp .ge 16) 21))) (tB 2 (tB 3 (tZ 3 (.bipush 16)) (tZ 2 (.iload_n 1))) (tB 1 (tZ 1 (.istore_n 1)) (tZ 0 (.iconst 0)))))))) p
set_option maxHeartbeats 4000000 in
def cd30 (p : Nat) : Option (Instr × Nat) := (tB 31 (tB 45 (tB 52 (tB 57 (tB 60 (tB 61 (tZ 61 .ireturn) (tZ 60 (.iload_n 3))) (tL 57 (.goto (-49)) 8)) (tB 54 (tZ 54 (.iinc 5 1)) (tZ 52 (.istore 4)))) (tB 49 (tB 51 (tZ 51 .iaload) (tZ 49 (.iload 4))) (tB 46 (tL 46 (.getfield 52) 14) (tZ 45 (.aload_n 0))))) (tB 38 (tB 41 (tB 42 (tZ 42 (.iinc 3 1)) (tZ 41 .iastore)) (tB 40 (tZ 40 (.iload_n 3)) (tZ 38 (.iload 4)))) (tB 34 (tB 35 (tL 35 (.getfield 64) 18) (tZ 34 (.aload_n 0))) (tB 33 (tZ 33 .iastore) (tZ 31 (.iload 4)))))) (tB 12 (tB 21 (tB 26 (tB 27 (tB 30 (tZ 30 (.iload_n 3)) (tL 27 (.getfield 67) 19)) (tZ 26 (.aload_n 0))) (tB 23 (tL 23 (.if_icmp .ge 37) 60) (tZ 21 (.bipush 16)))) (tB 17 (tB 20 (tZ 20 (.iload_n 3)) (tL 17 (.ifCond .lt 43) 60)) (tB 15 (tZ 15 (.iload 4)) (tL 12 (.if_icmp .ge 48) 60)))) (tB 5 (tB 8 (tB 10 (tZ 10 (.bipush 16)) (tZ 8 (.iload 5))) (tB 6 (tZ 6 (.istore 5)) (tZ 5 (.iconst 0)))) (tB 2 (tB 3 (tZ 3 (.istore 4)) (tZ 2 (.iload_n 1))) (tB 1 (tZ 1 (.istore_n 3)) (tZ 0 (.iload_n 2))))))) p
set_option maxHeartbeats 4000000 in
def cd31 (p : Nat) : Option (Instr × Nat) := (tB 41 (tB 60 (tB 71 (tB 74 (tB 80 (tB 83 (tZ 83 .return_) (tL 80 (.goto (-78)) 2)) (tB 77 (tZ 77 (.iinc 1 1)) (tL 74 (.invokevirtual 174) 32))) (tB 72 (tB 73 (tZ 73 (.iload_n 2)) (tZ 72 (.iload_n 1))) (tZ 71 (.aload_n 0)))) (tB 65 (tB 69 (tB 70 (tZ 70 .iastore) (tZ 69 .iaload)) (tB 68 (tZ 68 (.iload_n 2)) (tL 65 (.getfield 19) 3))) (tB 63 (tB 64 (tZ 64 (.aload_n 0)) (tZ 63 (.iload_n 1))) (tL 60 (.getfield 79) 23)))) (tB 51 (tB 56 (tB 58 (tB 59 (tZ 59 (.aload_n 0)) (tZ 58 .iastore)) (tB 57 (tZ 57 .iaload) (tZ 56 (.iload_n 2)))) (tB 52 (tB 53 (tL 53 (.getfield 16) 2) (tZ 52 (.aload_n 0))) (tZ 51 (.iload_n 1)))) (tB 46 (tB 47 (tB 48 (tL 48 (.getfield 76) 22) (tZ 47 (.aload_n 0))) (tZ 46 .iastore)) (tB 44 (tB 45 (tZ 45 .iaload) (tZ 44 (.iload_n 2))) (tL 41 (.getfield 13) 1))))) (tB 22 (tB 32 (tB 35 (tB 39 (tB 40 (tZ 40 (.aload_n 0)) (tZ 39 (.iload_n 1))) (tB 36 (tL 36 (.getfield 73) 21) (tZ 35 (.aload_n 0)))) (tB 33 (tB 34 (tZ 34 .iastore) (tZ 33 .iaload)) (tZ 32 (.iload_n 2)))) (tB 27 (tB 28 (tB 29 (tZ 29 (.getfield 7)) (tZ 28 (.aload_n 0))) (tZ 27 (.iload_n 1))) (tB 23 (tB 24 (tL 24 (.getfield 70) 20) (tZ 23 (.aload_n 0))) (tZ 22 (.istore_n 2))))) (tB 10 (tB 16 (tB 20 (tB 21 (tZ 21 .iaload) (tZ 20 (.iload_n 1))) (tB 17 (tL 17 (.getfield 67) 19) (tZ 16 (.aload_n 0)))) (tB 11 (tB 13 (tL 13 (.if_icmp .ge 70) 83) (tZ 11 (.bipush 16))) (tZ 10 (.iload_n 1)))) (tB 3 (tB 4 (tB 7 (tL 7 (.if_icmp .ge 76) 83) (tL 4 (.getfield 101) 30)) (tZ 3 (.aload_n 0))) (tB 1 (tB 2 (tZ 2 (.iload_n 1)) (tZ 1 (.istore_n 1))) (tZ 0 (.iconst 0))))))) p
set_option maxHeartbeats 4000000 in
def cd32 (p : Nat) : Option (Instr × Nat) := (tB 101 (tB 152 (tB 179 (tB 191 (tB 196 (tB 200 (tB 202 (tB 203 (tZ 203 .return_) (tZ 202 .iastore)) (tZ 200 (.iload 5))) (tB 199 (tZ 199 (.iload_n 1)) (tL 196 (.getfield 91) 27))) (tB 194 (tB 195 (tZ 195 (.aload_n 0)) (tZ 194 .iastore)) (tB 192 (tZ 192 (.iload 4)) (tZ 191 (.iload_n 1))))) (tB 185 (tB 187 (tB 188 (tL 188 (.getfield 88) 26) (tZ 187 (.aload_n 0))) (tB 186 (tZ 186 .iastore) (tZ 185 .iaload))) (tB 181 (tB 184 (tZ 184 (.iload_n 2)) (tL 181 (.getfield 25) 5)) (tB 180 (tZ 180 (.aload_n 0)) (tZ 179 (.iload_n 1)))))) (tB 163 (tB 169 (tB 172 (tB 175 (tB 176 (tL 176 (.getfield 85) 25) (tZ 175 (.aload_n 0))) (tL 172 (.goto 31) 203)) (tB 171 (tZ 171 .iastore) (tZ 169 (.iload 4)))) (tB 165 (tB 168 (tZ 168 (.iload_n 1)) (tL 165 (.getfield 91) 27)) (tB 164 (tZ 164 (.aload_n 0)) (tZ 163 .iastore)))) (tB 156 (tB 160 (tB 161 (tZ 161 (.iload 5)) (tZ 160 (.iload_n 1))) (tB 157 (tL 157 (.getfield 88) 26) (tZ 156 (.aload_n 0)))) (tB 154 (tB 155 (tZ 155 .iastore) (tZ 154 .ixor)) (tB 153 (tZ 153 (.iconst 4)) (tZ 152 .iaload)))))) (tB 125 (tB 137 (tB 143 (tB 147 (tB 148 (tB 151 (tZ 151 (.iload_n 2)) (tL 148 (.getfield 25) 5)) (tZ 147 (.aload_n 0))) (tB 146 (tZ 146 (.iload_n 1)) (tL 143 (.getfield 85) 25))) (tB 139 (tB 142 (tZ 142 (.aload_n 0)) (tL 139 (.if_icmp .eq 36) 175)) (tB 138 (tZ 138 .iadd) (tZ 137 (.iconst 1))))) (tB 130 (tB 134 (tB 136 (tZ 136 (.iload_n 1)) (tZ 134 (.iload 5))) (tB 131 (tL 131 (.if_icmp .ne 44) 175) (tZ 130 .iadd))) (tB 128 (tB 129 (tZ 129 (.iconst 1)) (tZ 128 (.iload_n 1))) (tB 126 (tZ 126 (.iload 4)) (tZ 125 .iastore))))) (tB 114 (tB 119 (tB 123 (tB 124 (tZ 124 (.iconst 2)) (tZ 123 (.iload_n 1))) (tB 120 (tL 120 (.getfield 82) 24) (tZ 119 (.aload_n 0)))) (tB 116 (tB 117 (tZ 117 (.istore 5)) (tZ 116 .iaload)) (tB 115 (tZ 115 .iaload) (tZ 114 (.iload_n 2))))) (tB 106 (tB 110 (tB 111 (tL 111 (.getfield 31) 7) (tZ 110 (.aload_n 0))) (tB 107 (tL 107 (.getfield 64) 18) (tZ 106 (.aload_n 0)))) (tB 103 (tB 104 (tZ 104 (.istore 4)) (tZ 103 .iaload)) (tB 102 (tZ 102 .iaload) (tZ 101 (.iload_n 2)))))))) (tB 50 (tB 76 (tB 86 (tB 92 (tB 94 (tB 97 (tB 98 (tL 98 (.getfield 28) 6) (tZ 97 (.aload_n 0))) (tL 94 (.getfield 64) 18)) (tB 93 (tZ 93 (.aload_n 0)) (tZ 92 .return_))) (tB 90 (tB 91 (tZ 91 .iastore) (tZ 90 (.iconst 0))) (tB 89 (tZ 89 (.iload_n 1)) (tL 86 (.getfield 82) 24)))) (tB 80 (tB 82 (tB 85 (tZ 85 (.aload_n 0)) (tL 82 (.if_icmp .eq 11) 93)) (tB 81 (tZ 81 (.iconst 2)) (tZ 80 (.iload_n 3)))) (tB 78 (tB 79 (tZ 79 .return_) (tZ 78 .iastore)) (tB 77 (tZ 77 (.iconst 1)) (tZ 76 (.iload_n 1)))))) (tB 62 (tB 68 (tB 72 (tB 73 (tL 73 (.getfield 82) 24) (tZ 72 (.aload_n 0))) (tB 69 (tL 69 (.goto 10) 79) (tZ 68 .iastore))) (tB 66 (tB 67 (tZ 67 (.iconst 3)) (tZ 66 (.iload_n 1))) (tB 63 (tL 63 (.getfield 82) 24) (tZ 62 (.aload_n 0))))) (tB 56 (tB 58 (tB 59 (tL 59 (.if_icmp .ne 13) 72) (tZ 58 .iadd)) (tB 57 (tZ 57 (.iconst 1)) (tZ 56 (.iload_n 1)))) (tB 53 (tB 54 (tZ 54 (.iload 4)) (tZ 53 .iastore)) (tB 51 (tZ 51 (.iload 4)) (tZ 50 (.iload_n 1))))))) (tB 22 (tB 34 (tB 42 (tB 44 (tB 46 (tB 47 (tL 47 (.getfield 88) 26) (tZ 46 (.aload_n 0))) (tZ 44 (.istore 4))) (tB 43 (tZ 43 .iaload) (tZ 42 .iaload))) (tB 38 (tB 41 (tZ 41 (.iload_n 2)) (tL 38 (.getfield 28) 6)) (tB 37 (tZ 37 (.aload_n 0)) (tL 34 (.getfield 64) 18)))) (tB 28 (tB 30 (tB 33 (tZ 33 (.aload_n 0)) (tL 30 (.if_icmp .ne 50) 80)) (tB 29 (tZ 29 (.iconst 1)) (tZ 28 (.iload_n 3)))) (tB 26 (tB 27 (tZ 27 .iastore) (tZ 26 (.iconst 0))) (tB 25 (tZ 25 (.iload_n 1)) (tL 22 (.getfield 91) 27))))) (tB 12 (tB 18 (tB 20 (tB 21 (tZ 21 (.aload_n 0)) (tZ 20 .iastore)) (tB 19 (tZ 19 (.iconst 0)) (tZ 18 (.iload_n 1)))) (tB 14 (tB 15 (tL 15 (.getfield 88) 26) (tZ 14 (.aload_n 0))) (tB 13 (tZ 13 .iastore) (tZ 12 (.iconst 0))))) (tB 6 (tB 8 (tB 11 (tZ 11 (.iload_n 1)) (tL 8 (.getfield 85) 25)) (tB 7 (tZ 7 (.aload_n 0)) (tZ 6 (.istore_n 3)))) (tB 4 (tB 5 (tZ 5 .iaload) (tZ 4 (.iload_n 2))) (tB 1 (tL 1 (.getfield 22) 4) (tZ 0 (.aload_n 0))))))))) p
set_option maxHeartbeats 4000000 in
def cd33 (p : Nat) : Option (Instr × Nat) := (tB 56 (tB 82 (tB 99 (tB 105 (tB 107 (tB 108 (tB 109 (tZ 109 .ireturn) (tZ 108 (.iconst (-1)))) (tZ 107 .ireturn)) (tB 106 (tZ 106 .iaload) (tZ 105 (.iload_n 1)))) (tB 101 (tB 102 (tL 102 (.getfield 91) 27) (tZ 101 (.aload_n 0))) (tB 100 (tZ 100 .ireturn) (tZ 99 .iaload)))) (tB 88 (tB 94 (tB 95 (tB 98 (tZ 98 (.iload_n 1)) (tL 95 (.getfield 88) 26)) (tZ 94 (.aload_n 0))) (tB 91 (tL 91 (.ifCond .eq 10) 101) (tL 88 (.invokevirtual 153) 14))) (tB 86 (tB 87 (tZ 87 .iaload) (tZ 86 (.iload_n 1))) (tB 83 (tL 83 (.getfield 85) 25) (tZ 82 (.aload_n 0)))))) (tB 69 (tB 75 (tB 77 (tB 78 (tB 81 (tZ 81 (.aload_n 0)) (tL 78 (.if_icmp .ne 30) 108)) (tZ 77 (.iconst 2))) (tB 76 (tZ 76 (.iload_n 2)) (tZ 75 .ireturn))) (tB 73 (tB 74 (tZ 74 .iaload) (tZ 73 (.iload_n 1))) (tB 70 (tL 70 (.getfield 88) 26) (tZ 69 (.aload_n 0))))) (tB 62 (tB 64 (tB 65 (tB 66 (tL 66 (.if_icmp .ne 10) 76) (tZ 65 (.iconst 1))) (tZ 64 (.iload_n 2))) (tB 63 (tZ 63 .ireturn) (tZ 62 .iadd))) (tB 60 (tB 61 (tZ 61 (.iconst 1)) (tZ 60 (.iload_n 1))) (tB 57 (tL 57 (.if_icmp .ne 7) 64) (tZ 56 (.iconst 3))))))) (tB 28 (tB 43 (tB 49 (tB 53 (tB 54 (tB 55 (tZ 55 (.iload_n 2)) (tZ 54 (.istore_n 2))) (tZ 53 .iaload)) (tB 52 (tZ 52 (.iload_n 1)) (tL 49 (.getfield 82) 24))) (tB 45 (tB 48 (tZ 48 (.aload_n 0)) (tL 45 (.invokevirtual 150) 13)) (tB 44 (tZ 44 .iaload) (tZ 43 (.iload_n 1))))) (tB 34 (tB 38 (tB 39 (tB 40 (tL 40 (.getfield 79) 23) (tZ 39 (.aload_n 0))) (tZ 38 .iaload)) (tB 37 (tZ 37 (.iload_n 1)) (tL 34 (.getfield 76) 22))) (tB 32 (tB 33 (tZ 33 (.aload_n 0)) (tZ 32 .iaload)) (tB 31 (tZ 31 (.iload_n 1)) (tL 28 (.getfield 73) 21))))) (tB 15 (tB 21 (tB 25 (tB 26 (tB 27 (tZ 27 (.aload_n 0)) (tZ 26 .iaload)) (tZ 25 (.iload_n 1))) (tB 22 (tL 22 (.getfield 70) 20) (tZ 21 (.aload_n 0)))) (tB 19 (tB 20 (tZ 20 (.aload_n 0)) (tZ 19 .ireturn)) (tB 18 (tZ 18 (.iconst (-1))) (tL 15 (.if_icmp .lt 5) 20)))) (tB 6 (tB 12 (tB 13 (tZ 13 (.bipush 16)) (tZ 12 (.iload_n 1))) (tB 9 (tL 9 (.if_icmp .ge 9) 18) (tL 6 (.getfield 101) 30))) (tB 4 (tB 5 (tZ 5 (.aload_n 0)) (tZ 4 (.iload_n 1))) (tB 1 (tL 1 (.ifCond .lt 17) 18) (tZ 0 (.iload_n 1)))))))) p
set_option maxHeartbeats 4000000 in
def cd34 (p : Nat) : Option (Instr × Nat) := (tB 34 (tB 52 (tB 60 (tB 65 (tB 68 (tB 70 (tZ 70 .lreturn) (tZ 68 (.lload 15))) (tL 65 (.goto 5) 70)) (tB 63 (tZ 63 (.lload 13)) (tL 60 (.if_icmp .ne 8) 68))) (tB 57 (tB 58 (tZ 58 (.bipush 6)) (tZ 57 (.iload_n 0))) (tB 54 (tL 54 (.goto 16) 70) (tZ 52 (.lload 11))))) (tB 42 (tB 47 (tB 48 (tB 49 (tL 49 (.if_icmp .ne 8) 57) (tZ 48 (.iconst 5))) (tZ 47 (.iload_n 0))) (tB 44 (tL 44 (.goto 26) 70) (tZ 42 (.lload 9)))) (tB 38 (tB 39 (tL 39 (.if_icmp .ne 8) 47) (tZ 38 (.iconst 4))) (tB 37 (tZ 37 (.iload_n 0)) (tL 34 (.goto 36) 70))))) (tB 17 (tB 24 (tB 28 (tB 29 (tB 32 (tZ 32 (.lload 7)) (tL 29 (.if_icmp .ne 8) 37)) (tZ 28 (.iconst 3))) (tB 27 (tZ 27 (.iload_n 0)) (tL 24 (.goto 46) 70))) (tB 19 (tB 22 (tZ 22 (.lload 5)) (tL 19 (.if_icmp .ne 8) 27)) (tB 18 (tZ 18 (.iconst 2)) (tZ 17 (.iload_n 0))))) (tB 8 (tB 10 (tB 13 (tB 14 (tL 14 (.goto 56) 70) (tZ 13 (.lload_n 3))) (tL 10 (.if_icmp .ne 7) 17)) (tB 9 (tZ 9 (.iconst 1)) (tZ 8 (.iload_n 0)))) (tB 4 (tB 5 (tL 5 (.goto 65) 70) (tZ 4 (.lload_n 1))) (tB 1 (tL 1 (.ifCond .ne 7) 8) (tZ 0 (.iload_n 0))))))) p
set_option maxHeartbeats 4000000 in
def cd35 (p : Nat) : Option (Instr × Nat) := (tB 14 (tB 19 (tB 23 (tB 26 (tB 27 (tZ 27 .ireturn) (tZ 26 (.iconst 0))) (tL 23 (.goto 4) 27)) (tB 22 (tZ 22 (.iconst 1)) (tL 19 (.if_icmp .ge 7) 26))) (tB 16 (tB 17 (tZ 17 (.iload 4)) (tZ 16 (.iload_n 2))) (tB 15 (tZ 15 .ireturn) (tZ 14 (.iconst 0))))) (tB 6 (tB 10 (tB 11 (tL 11 (.goto 4) 15) (tZ 10 (.iconst 1))) (tB 7 (tL 7 (.if_icmp .le 7) 14) (tZ 6 (.iload_n 3)))) (tB 2 (tB 5 (tZ 5 (.iload_n 1)) (tL 2 (.if_icmp .eq 14) 16)) (tB 1 (tZ 1 (.iload_n 3)) (tZ 0 (.iload_n 1)))))) p
def pCode (m pc : Nat) : Option (Instr × Nat) := bif Nat.ble pN m then none else bif Nat.ble (pTop m) pc then none else (bif Nat.ble 18 m then (bif Nat.ble 27 m then (bif Nat.ble 31 m then (bif Nat.ble 33 m then (bif Nat.ble 34 m then (bif Nat.ble 35 m then cd35 pc else cd34 pc) else cd33 pc) else (bif Nat.ble 32 m then cd32 pc else cd31 pc)) else (bif Nat.ble 29 m then (bif Nat.ble 30 m then cd30 pc else cd29 pc) else (bif Nat.ble 28 m then cd28 pc else cd27 pc))) else (bif Nat.ble 22 m then (bif Nat.ble 24 m then (bif Nat.ble 25 m then (bif Nat.ble 26 m then cd26 pc else cd25 pc) else cd24 pc) else (bif Nat.ble 23 m then cd23 pc else cd22 pc)) else (bif Nat.ble 20 m then (bif Nat.ble 21 m then cd21 pc else cd20 pc) else (bif Nat.ble 19 m then cd19 pc else cd18 pc)))) else (bif Nat.ble 9 m then (bif Nat.ble 13 m then (bif Nat.ble 15 m then (bif Nat.ble 16 m then (bif Nat.ble 17 m then cd17 pc else cd16 pc) else cd15 pc) else (bif Nat.ble 14 m then cd14 pc else cd13 pc)) else (bif Nat.ble 11 m then (bif Nat.ble 12 m then cd12 pc else cd11 pc) else (bif Nat.ble 10 m then cd10 pc else cd9 pc))) else (bif Nat.ble 4 m then (bif Nat.ble 6 m then (bif Nat.ble 7 m then (bif Nat.ble 8 m then cd8 pc else cd7 pc) else cd6 pc) else (bif Nat.ble 5 m then cd5 pc else cd4 pc)) else (bif Nat.ble 2 m then (bif Nat.ble 3 m then cd3 pc else cd2 pc) else (bif Nat.ble 1 m then cd1 pc else cd0 pc)))))
def lkF : List (Nat × Nat × Nat) := [(1, 7, 0), (1, 13, 1), (1, 16, 2), (1, 19, 3), (1, 22, 4), (1, 25, 5), (1, 28, 6), (1, 31, 7), (1, 34, 8), (1, 37, 9), (1, 40, 10), (1, 43, 11), (1, 46, 12), (1, 49, 13), (1, 52, 14), (1, 55, 15), (1, 58, 16), (1, 61, 17), (1, 64, 18), (1, 67, 19), (1, 70, 20), (1, 73, 21), (1, 76, 22), (1, 79, 23), (1, 82, 24), (1, 85, 25), (1, 88, 26), (1, 91, 27), (1, 94, 28), (1, 98, 29), (1, 101, 30), (1, 104, 31), (1, 108, 32), (1, 111, 33), (1, 114, 34), (1, 156, 35)]
def lkN : List (Nat × Nat) := [(0, 7)]
def lkC : List (Nat × Nat × Nat) := []
def lkD : List (Nat × Nat × Nat) := [(0, 40, 0)]
def lkV : List (Nat × Nat × Nat) := [(0, 9, 1), (0, 12, 2), (1, 121, 3), (0, 15, 4), (0, 21, 5), (0, 25, 6), (1, 117, 7), (0, 33, 8), (1, 124, 9), (0, 29, 10), (0, 46, 11), (1, 132, 12), (1, 150, 13), (1, 153, 14), (0, 50, 15), (0, 54, 16), (0, 57, 17), (0, 60, 18), (0, 63, 19), (0, 66, 20), (0, 69, 21), (0, 37, 22), (0, 42, 23), (1, 135, 24), (1, 159, 25), (1, 138, 26), (1, 141, 27), (1, 166, 28), (1, 144, 29), (1, 170, 30), (1, 147, 31), (1, 174, 32), (1, 128, 33), (0, 72, 34), (1, 162, 35)]
def lkO : List (Nat × Nat) := [(1, 1)]
def mV : List Nat := [2, 6, 8, 10, 11, 15, 16, 17, 18, 19, 20, 21, 22, 23]
def mP : List Nat := [3, 7, 9, 12, 13, 14, 24, 25, 26, 27, 28, 29, 30, 31, 32, 33, 35]
def mS : List Nat := [4, 5, 34]
def mI : List Nat := [1]
def mA : List Nat := [1, 2, 3, 4, 5, 6, 7, 8, 9, 10, 11, 12, 13, 14, 15, 16, 17, 18, 19, 20, 21, 22, 23, 24, 25, 26, 27, 28, 29, 30, 31, 32, 33, 34, 35]
def aTys : List FieldType := [.int]
abbrev QCell := List Value ⊕ ((FieldType × List Int32) ⊕ List Int64)
abbrev QHeap := List QCell
abbrev QLoc := List (Option Value)
abbrev vI (x : Int32) : Option Value := some (.int x)
abbrev vR (a : Addr) : Option Value := some (.ref a)
abbrev vL (x : Int64) : Option Value := some (.long x)
abbrev QSt := Nat × QLoc × List Value × QHeap
def qv (ad : Nat → Addr) : Value → Value
 | .ref k => .ref (ad k)
 | v => v
def qsz : QCell → Nat
 | .inl _ => cN
 | .inr (.inl x) => x.2.length
 | .inr (.inr x) => x.length
def qhs : QHeap → Nat
 | [] => 0
 | c :: t => qsz c + qhs t
def aget {α : Type} (xs : List α) (j : Int32) : Option α := if j < 0 then none else xs[j.toNatClampNeg]?
def aset {α : Type} (xs : List α) (j : Int32) (v : α) : Option (List α) := if j < 0 then none else if j.toNatClampNeg < xs.length then some (xs.set j.toNatClampNeg v) else none
def qnew (n : Int32) : Option Nat := if n < 0 then none else if n.toNatClampNeg ≤ 67108864 then some n.toNatClampNeg else none
def qdiv (x y : Int32) : Option Int32 := if y = 0 then none else some (x / y)
def qrem (x y : Int32) : Option Int32 := if y = 0 then none else some (x % y)
def qboo (x : Int32) : Option Int32 := if x = 0 then some x else if x = 1 then some x else none
def lget : QLoc → Nat → Option Value
 | [], _ => none
 | v :: _, 0 => v
 | _ :: t, k + 1 => lget t k
def hget : QHeap → Nat → Option QCell
 | [], _ => none
 | v :: _, 0 => some v
 | _ :: t, k + 1 => hget t k
def vget : List Value → Nat → Option Value
 | [], _ => none
 | v :: _, 0 => some v
 | _ :: t, k + 1 => vget t k
def lkill (L : QLoc) : Nat → QLoc
 | 0 => L
 | k + 1 => match lget L k with
  | some (.long _) => L.set k none
  | some (.double _) => L.set k none
  | _ => L
def lput (L : QLoc) (k : Nat) (v : Value) : Option QLoc :=
 match v with
 | .long x => bif Nat.ble (k + 2) L.length then some (((lkill L k).set k (some (.long x))).set (k + 1) none) else none
 | .double _ => none
 | v => bif Nat.ble (k + 1) L.length then some ((lkill L k).set k (some v)) else none
def qload (pc : Nat) (L : QLoc) (S : List Value) (σ : QHeap) (k : Nat) (ok : Value → Bool) : Option QSt :=
 match lget L k with
 | some v => bif ok v then some (pc, L, v :: S, σ) else none
 | none => none
def isI : Value → Bool | .int _ => true | _ => false
def isJ : Value → Bool | .long _ => true | _ => false
def isR : Value → Bool | .ref _ => true | _ => false
def qstore (pc : Nat) (L : QLoc) (S : List Value) (σ : QHeap) (k : Nat) (ok : Value → Bool) : Option QSt :=
 match S with
 | v :: S' => bif ok v then (match lput L k v with | some L' => some (pc, L', S', σ) | none => none) else none
 | [] => none
def qbin (pc : Nat) (L : QLoc) (S : List Value) (σ : QHeap) (f : Int32 → Int32 → Int32) : Option QSt :=
 match S with
 | .int y :: .int x :: S' => some (pc, L, .int (f x y) :: S', σ)
 | _ => none
def qbino (pc : Nat) (L : QLoc) (S : List Value) (σ : QHeap) (f : Int32 → Int32 → Option Int32) : Option QSt :=
 match S with
 | .int y :: .int x :: S' => (f x y).bind fun z => some (pc, L, .int z :: S', σ)
 | _ => none
def qbinJ (pc : Nat) (L : QLoc) (S : List Value) (σ : QHeap) (f : Int64 → Int64 → Int64) : Option QSt :=
 match S with
 | .long y :: .long x :: S' => some (pc, L, .long (f x y) :: S', σ)
 | _ => none
def qshJ (pc : Nat) (L : QLoc) (S : List Value) (σ : QHeap) (f : Int64 → Int32 → Int64) : Option QSt :=
 match S with
 | .int y :: .long x :: S' => some (pc, L, .long (f x y) :: S', σ)
 | _ => none
def quni (pc : Nat) (L : QLoc) (S : List Value) (σ : QHeap) (f : Int32 → Value) : Option QSt :=
 match S with
 | .int x :: S' => some (pc, L, f x :: S', σ)
 | _ => none
def quniJ (pc : Nat) (L : QLoc) (S : List Value) (σ : QHeap) (f : Int64 → Value) : Option QSt :=
 match S with
 | .long x :: S' => some (pc, L, f x :: S', σ)
 | _ => none
def qald (pc : Nat) (L : QLoc) (S : List Value) (σ : QHeap) (ok : FieldType → Bool) : Option QSt :=
 match S with
 | .int j :: .ref a :: S' => (match hget σ a with
  | some (.inr (.inl x)) => bif ok x.1 then (aget x.2 j).bind fun v => some (pc, L, .int v :: S', σ) else none
  | _ => none)
 | _ => none
def qaldJ (pc : Nat) (L : QLoc) (S : List Value) (σ : QHeap) : Option QSt :=
 match S with
 | .int j :: .ref a :: S' => (match hget σ a with
  | some (.inr (.inr x)) => (aget x j).bind fun v => some (pc, L, .long v :: S', σ)
  | _ => none)
 | _ => none
def qnar : FieldType → Int32 → Int32
 | .boolean, x => x &&& 1
 | .byte, x => x.toInt8.toInt32
 | _, x => x
def qast (pc : Nat) (L : QLoc) (S : List Value) (σ : QHeap) (ok : FieldType → Bool) : Option QSt :=
 match S with
 | .int v :: .int j :: .ref a :: S' => (match hget σ a with
  | some (.inr (.inl x)) => bif ok x.1 && Nat.ble k0 a then (aset x.2 j (qnar x.1 v)).bind fun y => some (pc, L, S', σ.set a (.inr (.inl (x.1, y)))) else none
  | _ => none)
 | _ => none
def qastJ (pc : Nat) (L : QLoc) (S : List Value) (σ : QHeap) : Option QSt :=
 match S with
 | .long v :: .int j :: .ref a :: S' => (match hget σ a with
  | some (.inr (.inr x)) => bif Nat.ble k0 a then (aset x j v).bind fun y => some (pc, L, S', σ.set a (.inr (.inr y))) else none
  | _ => none)
 | _ => none
def tyI : FieldType → Bool | .int => true | _ => false
def tyB : FieldType → Bool | .boolean => true | .byte => true | _ => false
def qfit : FieldType → Value → Option Value
 | .int, .int x => some (.int x)
 | .boolean, .int x => (qboo x).bind fun y => some (.int y)
 | .long, .long x => some (.long x)
 | .array t, .ref a => some (.ref a)
 | _, _ => none
def qget (pc : Nat) (L : QLoc) (S : List Value) (σ : QHeap) (k : Nat) : Option QSt :=
 match S with
 | .ref a :: S' => (match hget σ a with
  | some (.inl vs) => (match vget vs k with | some v => some (pc, L, v :: S', σ) | none => none)
  | _ => none)
 | _ => none
def qput (pc : Nat) (L : QLoc) (S : List Value) (σ : QHeap) (k : Nat) : Option QSt :=
 match S with
 | v :: .ref a :: S' => (match hget σ a with
  | some (.inl vs) => bif Nat.ble k0 a && Nat.ble (k + 1) vs.length then (qfit (fTy k) v).bind fun w => some (pc, L, S', σ.set a (.inl (vs.set k w))) else none
  | _ => none)
 | _ => none
def qnewA (pc : Nat) (L : QLoc) (S : List Value) (σ : QHeap) (t : ArrayType) : Option QSt :=
 match S with
 | .int n :: S' => (match t with
  | .int => (qnew n).bind fun k => some (pc, L, .ref σ.length :: S', σ ++ [.inr (.inl (.int, List.replicate k 0))])
  | .boolean => (qnew n).bind fun k => some (pc, L, .ref σ.length :: S', σ ++ [.inr (.inl (.boolean, List.replicate k 0))])
  | .byte => (qnew n).bind fun k => some (pc, L, .ref σ.length :: S', σ ++ [.inr (.inl (.byte, List.replicate k 0))])
  | .long => (qnew n).bind fun k => some (pc, L, .ref σ.length :: S', σ ++ [.inr (.inr (List.replicate k 0))])
  | _ => none)
 | _ => none
def qlen (pc : Nat) (L : QLoc) (S : List Value) (σ : QHeap) : Option QSt :=
 match S with
 | .ref a :: S' => (match hget σ a with
  | some (.inr (.inl x)) => some (pc, L, .int x.2.length.toInt32 :: S', σ)
  | some (.inr (.inr x)) => some (pc, L, .int x.length.toInt32 :: S', σ)
  | _ => none)
 | _ => none
def qdup (pc : Nat) (L : QLoc) (S : List Value) (σ : QHeap) : Option QSt :=
 match S with
 | .int x :: S' => some (pc, L, .int x :: .int x :: S', σ)
 | .ref x :: S' => some (pc, L, .ref x :: .ref x :: S', σ)
 | _ => none
def qdup2 (pc : Nat) (L : QLoc) (S : List Value) (σ : QHeap) : Option QSt :=
 match S with
 | .int x :: .ref y :: S' => some (pc, L, .int x :: .ref y :: .int x :: .ref y :: S', σ)
 | .int x :: .int y :: S' => some (pc, L, .int x :: .int y :: .int x :: .int y :: S', σ)
 | .long x :: S' => some (pc, L, .long x :: .long x :: S', σ)
 | _ => none
def qpop (pc : Nat) (L : QLoc) (S : List Value) (σ : QHeap) : Option QSt :=
 match S with
 | .int _ :: S' => some (pc, L, S', σ)
 | .ref _ :: S' => some (pc, L, S', σ)
 | _ => none
def qif (pc : Nat) (L : QLoc) (S : List Value) (σ : QHeap) (cd : ClassFile.Cond) (tgt : Nat) : Option QSt :=
 match S with
 | .int x :: S' => some (bif ifCond.holds cd x then tgt else pc, L, S', σ)
 | _ => none
def qicmp (pc : Nat) (L : QLoc) (S : List Value) (σ : QHeap) (cd : ClassFile.Cond) (tgt : Nat) : Option QSt :=
 match S with
 | .int y :: .int x :: S' => some (bif if_icmp.holds cd x y then tgt else pc, L, S', σ)
 | _ => none
def qinc (pc : Nat) (L : QLoc) (S : List Value) (σ : QHeap) (k : Nat) (i : Int) : Option QSt :=
 match lget L k with
 | some (.int x) => (match lput L k (.int (x + Int32.ofInt i)) with | some L' => some (pc, L', S, σ) | none => none)
 | _ => none
def qldc (pc : Nat) (L : QLoc) (S : List Value) (σ : QHeap) (k : Nat) : Option QSt :=
 match vget cK k with
 | some v => some (pc, L, v :: S, σ)
 | none => none
def qexec (pc : Nat) (L : QLoc) (S : List Value) (σ : QHeap) (aux : Nat) : Instr → Option QSt
 | .aload_n k => qload (pc + 1) L S σ k.val isR
 | .aload k => qload (pc + 2) L S σ k isR
 | .iload_n k => qload (pc + 1) L S σ k.val isI
 | .iload k => qload (pc + 2) L S σ k isI
 | .lload_n k => qload (pc + 1) L S σ k.val isJ
 | .lload k => qload (pc + 2) L S σ k isJ
 | .iconst i => some (pc + 1, L, .int (Int32.ofInt i) :: S, σ)
 | .bipush i => some (pc + 2, L, .int (Int8.ofInt i).toInt32 :: S, σ)
 | .sipush i => some (pc + 3, L, .int (Int16.ofInt i).toInt32 :: S, σ)
 | .lconst k => some (pc + 1, L, .long (Int64.ofNat k.val) :: S, σ)
 | .ldc _ => qldc (pc + 2) L S σ aux
 | .ldc2_w _ => qldc (pc + 3) L S σ aux
 | .istore_n k => qstore (pc + 1) L S σ k.val isI
 | .istore k => qstore (pc + 2) L S σ k isI
 | .lstore_n k => qstore (pc + 1) L S σ k.val isJ
 | .lstore k => qstore (pc + 2) L S σ k isJ
 | .astore_n k => qstore (pc + 1) L S σ k.val isR
 | .astore k => qstore (pc + 2) L S σ k isR
 | .iinc k i => qinc (pc + 3) L S σ k i
 | .iadd => qbin (pc + 1) L S σ fun x y => x + y
 | .isub => qbin (pc + 1) L S σ fun x y => x - y
 | .imul => qbin (pc + 1) L S σ fun x y => x * y
 | .iand => qbin (pc + 1) L S σ fun x y => x &&& y
 | .ior => qbin (pc + 1) L S σ fun x y => x ||| y
 | .ixor => qbin (pc + 1) L S σ fun x y => x ^^^ y
 | .ishl => qbin (pc + 1) L S σ fun x y => x <<< (y &&& 31)
 | .ishr => qbin (pc + 1) L S σ fun x y => x >>> (y &&& 31)
 | .iushr => qbin (pc + 1) L S σ fun x y => XT.ushr x y
 | .idiv => qbino (pc + 1) L S σ qdiv
 | .irem => qbino (pc + 1) L S σ qrem
 | .ineg => quni (pc + 1) L S σ fun x => .int (-x)
 | .i2l => quni (pc + 1) L S σ fun x => .long x.toInt64
 | .i2b => quni (pc + 1) L S σ fun x => .int x.toInt8.toInt32
 | .l2i => quniJ (pc + 1) L S σ fun x => .int x.toInt32
 | .lneg => quniJ (pc + 1) L S σ fun x => .long (-x)
 | .ladd => qbinJ (pc + 1) L S σ fun x y => x + y
 | .lsub => qbinJ (pc + 1) L S σ fun x y => x - y
 | .lmul => qbinJ (pc + 1) L S σ fun x y => x * y
 | .land => qbinJ (pc + 1) L S σ fun x y => x &&& y
 | .lor => qbinJ (pc + 1) L S σ fun x y => x ||| y
 | .lxor => qbinJ (pc + 1) L S σ fun x y => x ^^^ y
 | .lshl => qshJ (pc + 1) L S σ fun x y => x <<< (y.toInt64 &&& 63)
 | .lshr => qshJ (pc + 1) L S σ fun x y => x >>> (y.toInt64 &&& 63)
 | .lushr => qshJ (pc + 1) L S σ fun x y => XT.ushrL x y
 | .lcmp => (match S with
  | .long y :: .long x :: S' => some (pc + 1, L, .int (XT.cmpL x y) :: S', σ)
  | _ => none)
 | .goto _ => some (aux, L, S, σ)
 | .ifCond cd _ => qif (pc + 3) L S σ cd aux
 | .if_icmp cd _ => qicmp (pc + 3) L S σ cd aux
 | .dup => qdup (pc + 1) L S σ
 | .dup2 => qdup2 (pc + 1) L S σ
 | .pop => qpop (pc + 1) L S σ
 | .getfield _ => qget (pc + 3) L S σ aux
 | .putfield _ => qput (pc + 3) L S σ aux
 | .iaload => qald (pc + 1) L S σ tyI
 | .baload => qald (pc + 1) L S σ tyB
 | .laload => qaldJ (pc + 1) L S σ
 | .iastore => qast (pc + 1) L S σ tyI
 | .bastore => qast (pc + 1) L S σ tyB
 | .lastore => qastJ (pc + 1) L S σ
 | .arraylength => qlen (pc + 1) L S σ
 | .newarray t => qnewA (pc + 2) L S σ t
 | .new _ => some (pc + 3, L, .ref σ.length :: S, σ ++ [.inl cDef])
 | _ => none
def qstep (m : Nat) (st : QSt) : Option QSt :=
 match pCode m st.1 with
 | some (i, aux) => qexec st.1 st.2.1 st.2.2.1 st.2.2.2 aux i
 | none => none
def qsteps (m : Nat) : Nat → QSt → Option QSt
 | 0, st => some st
 | n + 1, st => match qstep m st with | some st' => qsteps m n st' | none => none
def qentry (args : List Value) (mx : Nat) : QLoc := (args.flatMap fun v => match v with | .long x => [some (.long x), none] | .double x => [some (.double x), none] | v => [some v]) ++ List.replicate (mx - (args.map fun v => v.category).sum) none
def ilen : Instr → Nat
 | .aload _ | .iload _ | .lload _ | .istore _ | .lstore _ | .astore _ | .bipush _ | .ldc _ | .newarray _ => 2
 | .sipush _ | .ldc2_w _ | .iinc _ _ | .goto _ | .ifCond _ _ | .if_icmp _ _ | .getfield _ | .putfield _ | .new _ | .invokevirtual _ | .invokespecial _ | .invokestatic _ => 3
 | _ => 1
def qtgt (pc : Nat) (o : Int) (aux : Nat) : Bool := decide (0 ≤ (pc : Int) + o) && decide (((pc : Int) + o).toNat = aux)
def qlk (m pc : Nat) (i : Instr) (aux : Nat) : Bool :=
 match i with
 | .goto o => qtgt pc o aux
 | .ifCond _ o => qtgt pc o aux
 | .if_icmp _ o => qtgt pc o aux
 | .getfield idx => lkF.contains (pK m, idx, aux)
 | .putfield idx => lkF.contains (pK m, idx, aux) && (!fFin aux || (pK m == 1 && pNm m == "<init>"))
 | .new idx => lkN.contains (pK m, idx)
 | .newarray t => aTys.contains (newarray.typeOf t)
 | .ldc idx => lkC.contains (pK m, idx, aux)
 | .ldc2_w idx => lkD.contains (pK m, idx, aux)
 | _ => true
def qchk (m pc : Nat) (i : Instr) (aux : Nat) : Bool := decide (decode (pBytes m) pc = .ok (i, ilen i)) && qlk m pc i aux
def QCellOk (Z : State) (ad : Nat → Addr) (h : Heap) (a : Addr) : QCell → Prop
 | .inl vs => Exa Z h a cName ∧ vs.length = nF ∧ ∀ (k : Nat) (v : Value), k < nF → vget vs k = some v → Fld Z h a cName (fNm k) (fDs k) (qv ad v)
 | .inr (.inl x) => ∃ c : Cell, Arr Z h a c x.1 ∧ c.slots = (x.2.map Value.int).toArray
 | .inr (.inr x) => ∃ c : Cell, Arr Z h a c .long ∧ c.slots = (x.map Value.long).toArray
def QAd (n0 : Nat) (ad : Nat → Addr) : Prop := (∀ k, k0 ≤ k → n0 ≤ ad k) ∧ ∀ i j, ad i = ad j → i = j
def QRep (Z : State) (n0 : Nat) (ad : Nat → Addr) (h : Heap) (σ : QHeap) : Prop := (k0 ≤ σ.length ∧ ∀ k, σ.length ≤ k → ad k = n0 + (k - k0)) ∧ h.size = n0 + (σ.length - k0) ∧ ∀ k c, hget σ k = some c → QCellOk Z ad h (ad k) c
def QLocOk (ad : Nat → Addr) (L : QLoc) (C : Array Slot) : Prop :=
 L.length = C.size ∧ (∀ k v, lget L k = some v → C[k]? = some (.val (qv ad v))) ∧ (∀ k w, C[k]? = some (.val w) → w.category = 2 → C[k + 1]? = some .second) ∧ ∀ k, C[k]? = some .second → ∃ j w, k = j + 1 ∧ C[j]? = some (.val w) ∧ w.category = 2
def QW (Z : State) (a0 : Array Value) : Prop :=
 (∀ t ∈ lkF, (Cond.fieldLink (kName t.1) t.2.1 cName (fNm t.2.2) (fDs t.2.2)).before a0 Z = true) ∧
 (∀ t ∈ lkN, (Cond.classLink (kName t.1) t.2 cName).before a0 Z = true) ∧
 (∀ t ∈ lkC, ∃ v, vget cK t.2.2 = some (.int v) ∧ (Cond.constant (kName t.1) t.2.1 v).before a0 Z = true) ∧
 (∀ t ∈ lkD, ∃ v, vget cK t.2.2 = some (.long v) ∧ (Cond.constantLong (kName t.1) t.2.1 v).before a0 Z = true) ∧
 (∀ t ∈ lkV, (Cond.methodLink (kName t.1) t.2.1 (pName t.2.2)).before a0 Z = true) ∧
 (∀ t ∈ lkO, (Cond.methodLink (kName t.1) t.2 Lib.objectInit).before a0 Z = true) ∧
 (∀ m ∈ mV, (Cond.declares (pName m)).before a0 Z = true ∧ (Cond.selects cName (pName m) (pName m)).before a0 Z = true ∧ (Cond.instanceMethod (pName m)).before a0 Z = true) ∧
 (∀ m ∈ mP, (Cond.instanceMethod (pName m)).before a0 Z = true ∧ (Cond.privateMethod (pName m)).before a0 Z = true) ∧
 (∀ m ∈ mS, (Cond.static (pName m)).before a0 Z = true) ∧
 (∀ m ∈ mI, (Cond.instanceMethod (pName m)).before a0 Z = true) ∧
 (∀ m ∈ mA, (Cond.code (pName m) (pBytes m) (pMaxL m) (pRet m)).before a0 Z = true ∧ (Cond.initialized (kName (pK m))).before a0 Z = true) ∧
 (Cond.instanceMethod Lib.objectInit).before a0 Z = true ∧ (Cond.code Lib.objectInit ⟨#[0xb1]⟩ 1 none).before a0 Z = true ∧
 (∀ k, k < nF → bif fFin k then (Cond.laysFinal cName cName (fNm k) (fDs k)).before a0 Z = true else (Cond.lays cName cName (fNm k) (fDs k)).before a0 Z = true) ∧
 (Cond.instantiable cName cN).before a0 Z = true ∧ (Cond.initialized cName).before a0 Z = true ∧
 ∀ ty ∈ aTys, (Cond.arrayClass ty).before a0 Z = true
section Words
variable {Z : State} {a0 : Array Value}
theorem qw_fl (W : QW Z a0) : ∀ t ∈ lkF, (Cond.fieldLink (kName t.1) t.2.1 cName (fNm t.2.2) (fDs t.2.2)).before a0 Z = true := W.1
theorem qw_nw (W : QW Z a0) : ∀ t ∈ lkN, (Cond.classLink (kName t.1) t.2 cName).before a0 Z = true := W.2.1
theorem qw_cI (W : QW Z a0) : ∀ t ∈ lkC, ∃ v, vget cK t.2.2 = some (.int v) ∧ (Cond.constant (kName t.1) t.2.1 v).before a0 Z = true := W.2.2.1
theorem qw_cJ (W : QW Z a0) : ∀ t ∈ lkD, ∃ v, vget cK t.2.2 = some (.long v) ∧ (Cond.constantLong (kName t.1) t.2.1 v).before a0 Z = true := W.2.2.2.1
theorem qw_ml (W : QW Z a0) : ∀ t ∈ lkV, (Cond.methodLink (kName t.1) t.2.1 (pName t.2.2)).before a0 Z = true := W.2.2.2.2.1
theorem qw_mo (W : QW Z a0) : ∀ t ∈ lkO, (Cond.methodLink (kName t.1) t.2 Lib.objectInit).before a0 Z = true := W.2.2.2.2.2.1
theorem qw_vi (W : QW Z a0) : ∀ m ∈ mV, (Cond.declares (pName m)).before a0 Z = true ∧ (Cond.selects cName (pName m) (pName m)).before a0 Z = true ∧ (Cond.instanceMethod (pName m)).before a0 Z = true := W.2.2.2.2.2.2.1
theorem qw_pr (W : QW Z a0) : ∀ m ∈ mP, (Cond.instanceMethod (pName m)).before a0 Z = true ∧ (Cond.privateMethod (pName m)).before a0 Z = true := W.2.2.2.2.2.2.2.1
theorem qw_st (W : QW Z a0) : ∀ m ∈ mS, (Cond.static (pName m)).before a0 Z = true := W.2.2.2.2.2.2.2.2.1
theorem qw_ini (W : QW Z a0) : ∀ m ∈ mI, (Cond.instanceMethod (pName m)).before a0 Z = true := W.2.2.2.2.2.2.2.2.2.1
theorem qw_cod (W : QW Z a0) : ∀ m ∈ mA, (Cond.code (pName m) (pBytes m) (pMaxL m) (pRet m)).before a0 Z = true ∧ (Cond.initialized (kName (pK m))).before a0 Z = true := W.2.2.2.2.2.2.2.2.2.2.1
theorem qw_oi (W : QW Z a0) : (Cond.instanceMethod Lib.objectInit).before a0 Z = true := W.2.2.2.2.2.2.2.2.2.2.2.1
theorem qw_oc (W : QW Z a0) : (Cond.code Lib.objectInit ⟨#[0xb1]⟩ 1 none).before a0 Z = true := W.2.2.2.2.2.2.2.2.2.2.2.2.1
theorem qw_lay (W : QW Z a0) : ∀ k, k < nF → bif fFin k then (Cond.laysFinal cName cName (fNm k) (fDs k)).before a0 Z = true else (Cond.lays cName cName (fNm k) (fDs k)).before a0 Z = true := W.2.2.2.2.2.2.2.2.2.2.2.2.2.1
theorem qw_inst (W : QW Z a0) : (Cond.instantiable cName cN).before a0 Z = true := W.2.2.2.2.2.2.2.2.2.2.2.2.2.2.1
theorem qw_init (W : QW Z a0) : (Cond.initialized cName).before a0 Z = true := W.2.2.2.2.2.2.2.2.2.2.2.2.2.2.2.1
theorem qw_arr (W : QW Z a0) : ∀ ty ∈ aTys, (Cond.arrayClass ty).before a0 Z = true := W.2.2.2.2.2.2.2.2.2.2.2.2.2.2.2.2
end Words
theorem hget_eq : ∀ (σ : QHeap) k, hget σ k = σ[k]?
 | [], _ => by simp [hget]
 | _ :: _, 0 => by simp [hget]
 | _ :: t, k + 1 => by simp [hget, hget_eq t k]
theorem vget_eq : ∀ (σ : List Value) k, vget σ k = σ[k]?
 | [], _ => by simp [vget]
 | _ :: _, 0 => by simp [vget]
 | _ :: t, k + 1 => by simp [vget, vget_eq t k]
theorem lget_eq : ∀ (L : QLoc) k, lget L k = (L[k]?).getD none
 | [], _ => by simp [lget]
 | _ :: _, 0 => by simp [lget]
 | _ :: t, k + 1 => by simp [lget, lget_eq t k]
theorem lget_lt {L : QLoc} {k : Nat} {v : Value} (h : lget L k = some v) : k < L.length := by
 rw [lget_eq] at h
 rcases Nat.lt_or_ge k L.length with q | q
 ·exact q
 ·simp [List.getElem?_eq_none q] at h
theorem lget_set {L : QLoc} {k j : Nat} {o : Option Value} (hk : k < L.length) : lget (L.set k o) j = if j = k then o else lget L j := by
 simp only [lget_eq, List.getElem?_set]
 by_cases e : k = j
 ·subst e; simp [hk]
 ·simp [e, Ne.symm e]
theorem qhs_app (σ τ : QHeap) : qhs (σ ++ τ) = qhs σ + qhs τ := by
 induction σ with
 | nil => simp [qhs]
 | cons c t ih => simp [qhs, ih, Nat.add_assoc]
theorem qhs_set {σ : QHeap} {k : Nat} {c d : QCell} (h : hget σ k = some c) (hs : qsz d = qsz c) : qhs (σ.set k d) = qhs σ := by
 induction σ generalizing k with
 | nil => simp [hget] at h
 | cons x t ih =>
  cases k with
  | zero => simp only [hget, Option.some.injEq] at h; subst h; simp [qhs, hs]
  | succ k => simp only [hget] at h; simp [qhs, ih h]
theorem hget_set {σ : QHeap} {k j : Nat} {c d : QCell} (h : hget σ k = some c) : hget (σ.set k d) j = if j = k then some d else hget σ j := by
 rw [hget_eq] at h
 have hk := (List.getElem?_eq_some_iff.mp h).1
 simp only [hget_eq, List.getElem?_set]
 by_cases e : k = j
 ·subst e; simp [hk]
 ·simp [e, Ne.symm e]
theorem lkill_len (L : QLoc) (k : Nat) : (lkill L k).length = L.length := by
 cases k with
 | zero => rfl
 | succ k => simp only [lkill]; split <;> simp
theorem lget_kill {L : QLoc} {k j : Nat} {v : Value} (h : lget (lkill L k) j = some v) : lget L j = some v ∧ (k = j + 1 → v.category ≠ 2) := by
 cases k with
 | zero => exact ⟨h, fun e => by omega⟩
 | succ k =>
  simp only [lkill] at h
  split at h
  ·rename_i x q
   rw [lget_set (lget_lt q)] at h
   split at h
   ·cases h
   ·rename_i ne; exact ⟨h, fun e => absurd (by omega) ne⟩
  ·rename_i x q
   rw [lget_set (lget_lt q)] at h
   split at h
   ·cases h
   ·rename_i ne; exact ⟨h, fun e => absurd (by omega) ne⟩
  ·rename_i q1 q2
   refine ⟨h, fun e hc => ?_⟩
   obtain rfl : j = k := by omega
   cases v with
   | long x => exact q1 _ h
   | double x => exact q2 _ h
   | _ => simp [Value.category] at hc
theorem qv_cat (ad : Nat → Addr) (v : Value) : (qv ad v).category = v.category := by cases v <;> rfl
def kA (C : Array Slot) (k j : Nat) : Prop := k = j + 1 ∧ C[k]? = some .second
def kB (C : Array Slot) (k j : Nat) : Prop := j = k + 1 ∧ ∃ u, C[k]? = some (.val u) ∧ u.category = 2
def kD (C : Array Slot) (k j : Nat) : Prop := j = k + 2 ∧ ∃ u, C[k + 1]? = some (.val u) ∧ u.category = 2
theorem set1_at {C D : Array Slot} {k : Nat} {w : Value} (hk : k < C.size) (hw : w.category = 1) (h : storeLocals C k w = some D) :
  D.size = C.size ∧ D[k]? = some (.val w) ∧ ∀ j, j ≠ k → (D[j]? = C[j]? ∧ ¬ kA C k j ∧ ¬ kB C k j) ∨ D[j]? = some .unset ∧ (kA C k j ∨ kB C k j) := by
 have hck : C[k]? = some C[k] := Array.getElem?_eq_getElem hk
 unfold storeLocals at h
 simp only [hck, Option.bind_eq_bind, Option.bind_some] at h
 have self : ∀ {E : Array Slot}, k < E.size → storeSelf E k w = some D → D = E.setIfInBounds k (.val w) := by
  intro E hE q
  simp only [storeSelf, setAt, hE, if_true, Option.bind_eq_bind, Option.bind_some, hw] at q
  simpa using q.symm
 split at h
 ·rename_i q
  have hk1 : k - 1 < C.size := by omega
  simp only [setAt, hk1, if_true, Option.bind_some] at h
  have e := self (by simpa using hk) h
  subst e
  refine ⟨by simp, by simp [hk], fun j hj => ?_⟩
  by_cases ej : k = j + 1
  ·refine Or.inr ⟨?_, Or.inl ⟨ej, by rw [hck, q]⟩⟩
   rw [Array.getElem?_setIfInBounds_ne (Ne.symm hj), show j = k - 1 by omega]
   simp [hk1]
  ·refine Or.inl ⟨?_, fun x => ej x.1, fun x => ?_⟩
   ·rw [Array.getElem?_setIfInBounds_ne (Ne.symm hj), Array.getElem?_setIfInBounds_ne (by omega)]
   ·obtain ⟨-, u, x1, -⟩ := x
    rw [hck, q] at x1; cases x1
 ·rename_i u q
  split at h
  ·rename_i hu
   by_cases hk1 : k + 1 < C.size
   ·simp only [setAt, hk1, if_true, Option.bind_some] at h
    have e := self (by simpa using hk) h
    subst e
    refine ⟨by simp, by simp [hk], fun j hj => ?_⟩
    by_cases ej : j = k + 1
    ·refine Or.inr ⟨?_, Or.inr ⟨ej, u, by rw [hck, q], hu⟩⟩
     rw [Array.getElem?_setIfInBounds_ne (Ne.symm hj), ej]
     simp [hk1]
    ·refine Or.inl ⟨?_, fun x => ?_, fun x => ej x.1⟩
     ·rw [Array.getElem?_setIfInBounds_ne (Ne.symm hj), Array.getElem?_setIfInBounds_ne (by omega)]
     ·obtain ⟨-, x1⟩ := x
      rw [hck, q] at x1; cases x1
   ·simp [setAt, hk1] at h
  ·rename_i hu
   have e := self hk h
   subst e
   refine ⟨by simp, by simp [hk], fun j hj => Or.inl ⟨Array.getElem?_setIfInBounds_ne (Ne.symm hj), fun x => ?_, fun x => ?_⟩⟩
   ·obtain ⟨-, x1⟩ := x
    rw [hck, q] at x1; cases x1
   ·obtain ⟨-, u', x1, x2⟩ := x
    rw [hck, q] at x1; cases x1; exact hu x2
 ·rename_i q
  have e := self hk h
  subst e
  refine ⟨by simp, by simp [hk], fun j hj => Or.inl ⟨Array.getElem?_setIfInBounds_ne (Ne.symm hj), fun x => ?_, fun x => ?_⟩⟩
  ·obtain ⟨-, x1⟩ := x
   rw [hck, q] at x1; cases x1
  ·obtain ⟨-, u', x1, x2⟩ := x
   rw [hck, q] at x1; cases x1
theorem set2_at {C D : Array Slot} {k : Nat} {w : Value} (hk : k + 1 < C.size) (hw : w.category = 2) (wf : ∀ k w, C[k]? = some (.val w) → w.category = 2 → C[k + 1]? = some .second) (h : storeLocals C k w = some D) :
  D.size = C.size ∧ D[k]? = some (.val w) ∧ D[k + 1]? = some .second ∧ ∀ j, j ≠ k → j ≠ k + 1 → (D[j]? = C[j]? ∧ ¬ kA C k j ∧ ¬ kD C k j) ∨ D[j]? = some .unset ∧ (kA C k j ∨ kD C k j) := by
 have hk0 : k < C.size := by omega
 have hck : C[k]? = some C[k] := Array.getElem?_eq_getElem hk0
 unfold storeLocals at h
 simp only [hck, Option.bind_eq_bind, Option.bind_some] at h
 have self : ∀ {E : Array Slot}, E.size = C.size → storeSelf E k w = some D → D.size = C.size ∧ D[k]? = some (.val w) ∧ D[k + 1]? = some .second ∧ ∀ j, j ≠ k → j ≠ k + 1 → (D[j]? = E[j]? ∧ ¬ kD E k j) ∨ D[j]? = some .unset ∧ kD E k j := by
  intro E hs q
  have h1 : k < E.size := by omega
  have h2 : k + 1 < E.size := by omega
  have h3 : (E.setIfInBounds k (.val w))[k + 1]? = some E[k + 1] := by rw [Array.getElem?_setIfInBounds_ne (by omega)]; exact Array.getElem?_eq_getElem h2
  simp only [storeSelf, setAt, h1, if_true, Option.bind_eq_bind, Option.bind_some, hw, h3] at q
  have plain : (¬ ∃ u, E[k + 1]? = some (.val u) ∧ u.category = 2) → some ((E.setIfInBounds k (.val w)).setIfInBounds (k + 1) .second) = some D → D.size = C.size ∧ D[k]? = some (.val w) ∧ D[k + 1]? = some .second ∧ ∀ j, j ≠ k → j ≠ k + 1 → (D[j]? = E[j]? ∧ ¬ kD E k j) ∨ D[j]? = some .unset ∧ kD E k j := by
   intro no q
   cases q
   refine ⟨by simp [hs], ?_, ?_, fun j hj hj1 => Or.inl ⟨?_, fun x => no x.2⟩⟩
   ·rw [Array.getElem?_setIfInBounds_ne (by omega)]; simp [h1]
   ·simp [h2]
   ·rw [Array.getElem?_setIfInBounds_ne (by omega), Array.getElem?_setIfInBounds_ne (by omega)]
  split at q
  ·rename_i u hu
   split at q
   ·rename_i hu2
    by_cases h5 : k + 2 < E.size
    ·simp [h5, h2] at q
     cases q
     refine ⟨by simp [hs], ?_, ?_, fun j hj hj1 => ?_⟩
     ·rw [Array.getElem?_setIfInBounds_ne (by omega), Array.getElem?_setIfInBounds_ne (by omega)]; simp [h1]
     ·simp [h2]
     ·by_cases e : j = k + 2
      ·refine Or.inr ⟨?_, e, u, by rw [Array.getElem?_eq_getElem h2, hu], hu2⟩
       rw [Array.getElem?_setIfInBounds_ne (by omega), e]
       simp [h5]
      ·refine Or.inl ⟨?_, fun x => e x.1⟩
       rw [Array.getElem?_setIfInBounds_ne (by omega), Array.getElem?_setIfInBounds_ne (by omega), Array.getElem?_setIfInBounds_ne (by omega)]
    ·simp [h5] at q
   ·rename_i hu2
    refine plain ?_ (by simpa [h2] using q)
    rintro ⟨u', x1, x2⟩
    rw [Array.getElem?_eq_getElem h2, hu] at x1; cases x1; exact hu2 x2
  ·rename_i hu
   refine plain ?_ (by simpa [h2] using q)
   rintro ⟨u', x1, x2⟩
   rw [Array.getElem?_eq_getElem h2] at x1; exact hu _ (Option.some.inj x1)
 split at h
 ·rename_i q
  have hk1 : k - 1 < C.size := by omega
  simp only [setAt, hk1, if_true, Option.bind_some] at h
  obtain ⟨e1, e2, e3, e4⟩ := self (by simp) h
  refine ⟨e1, e2, e3, fun j hj hj1 => ?_⟩
  have h6 : ∀ i, i + 1 ≠ k ∨ k = 0 → i ≠ k ∨ k ≠ 0 → (C.setIfInBounds (k - 1) Slot.unset)[i]? = C[i]? := fun i hi hi2 => Array.getElem?_setIfInBounds_ne (by omega)
  have h7 : (C.setIfInBounds (k - 1) Slot.unset)[k + 1]? = C[k + 1]? := Array.getElem?_setIfInBounds_ne (by omega)
  rcases e4 j hj hj1 with ⟨r, r'⟩ | ⟨r, r1, u, r2, r3⟩
  ·by_cases ej : k = j + 1
   ·refine Or.inr ⟨?_, Or.inl ⟨ej, by rw [hck, q]⟩⟩
    rw [r, show j = k - 1 by omega]; simp [hk1]
   ·refine Or.inl ⟨by rw [r]; exact h6 _ (by omega) (by omega), fun x => ej x.1, fun x => r' ⟨x.1, ?_⟩⟩
    rw [h7]; exact x.2
  ·exact Or.inr ⟨r, Or.inr ⟨r1, u, by rw [← h7]; exact r2, r3⟩⟩
 ·rename_i u q
  split at h
  ·rename_i hu
   simp only [setAt, hk, if_true, Option.bind_some] at h
   obtain ⟨e1, e2, e3, e4⟩ := self (by simp) h
   have hsec := wf k u (by rw [hck, q]) hu
   refine ⟨e1, e2, e3, fun j hj hj1 => ?_⟩
   rcases e4 j hj hj1 with ⟨r, r'⟩ | ⟨r, r1, u', r2, r3⟩
   ·refine Or.inl ⟨by rw [r]; exact Array.getElem?_setIfInBounds_ne (by omega), fun x => ?_, fun x => ?_⟩
    ·obtain ⟨-, x1⟩ := x
     rw [hck, q] at x1; cases x1
    ·obtain ⟨-, u', x1, x2⟩ := x
     rw [hsec] at x1; cases x1
   ·simp [hk] at r2
  ·rename_i hu
   obtain ⟨e1, e2, e3, e4⟩ := self rfl h
   refine ⟨e1, e2, e3, fun j hj hj1 => ?_⟩
   rcases e4 j hj hj1 with ⟨r, r'⟩ | ⟨r, r'⟩
   ·refine Or.inl ⟨r, fun x => ?_, r'⟩
    obtain ⟨-, x1⟩ := x
    rw [hck, q] at x1; cases x1
   ·exact Or.inr ⟨r, Or.inr r'⟩
 ·rename_i q
  obtain ⟨e1, e2, e3, e4⟩ := self rfl h
  refine ⟨e1, e2, e3, fun j hj hj1 => ?_⟩
  rcases e4 j hj hj1 with ⟨r, r'⟩ | ⟨r, r'⟩
  ·refine Or.inl ⟨r, fun x => ?_, r'⟩
   obtain ⟨-, x1⟩ := x
   rw [hck, q] at x1; cases x1
  ·exact Or.inr ⟨r, Or.inr r'⟩
theorem store_some {C : Array Slot} {k : Nat} {w : Value} (hk : k + (w.category - 1) < C.size) (hc : w.category = 1 ∨ w.category = 2) (wf : ∀ k w, C[k]? = some (.val w) → w.category = 2 → C[k + 1]? = some .second) :
  ∃ D, storeLocals C k w = some D := by
 have hk0 : k < C.size := by omega
 have hck : C[k]? = some C[k] := Array.getElem?_eq_getElem hk0
 have self : ∀ {E : Array Slot}, E.size = C.size → (∀ u, E[k + 1]? = some (.val u) → u.category = 2 → k + 2 < E.size) → ∃ D, storeSelf E k w = some D := by
  intro E hs hn
  have h1 : k < E.size := by omega
  simp only [storeSelf, setAt, h1, if_true, Option.bind_eq_bind, Option.bind_some]
  rcases hc with hc | hc
  ·exact ⟨E.setIfInBounds k (.val w), by simp [hc]⟩
  ·have h2 : k + 1 < E.size := by omega
   have h3 : (E.setIfInBounds k (.val w))[k + 1]? = some E[k + 1] := by rw [Array.getElem?_setIfInBounds_ne (by omega)]; exact Array.getElem?_eq_getElem h2
   simp only [hc, if_true, h3, Option.bind_some]
   split
   ·rename_i u hu
    split
    ·rename_i hu2
     have h5 := hn u (by rw [Array.getElem?_eq_getElem h2, hu]) hu2
     exact ⟨_, by simp [h5, h2]; rfl⟩
    ·exact ⟨_, by simp [h2]; rfl⟩
   ·exact ⟨_, by simp [h2]; rfl⟩
 have next : ∀ u, C[k + 1]? = some (.val u) → u.category = 2 → k + 2 < C.size := fun u h1 h2 => (Array.getElem?_eq_some_iff.mp (wf _ _ h1 h2)).1
 unfold storeLocals
 simp only [hck, Option.bind_eq_bind, Option.bind_some]
 split
 ·have hk1 : k - 1 < C.size := by omega
  simp only [setAt, hk1, if_true, Option.bind_some]
  refine self (by simp) fun u h1 h2 => ?_
  rw [Array.getElem?_setIfInBounds_ne (by omega)] at h1
  simpa using next u h1 h2
 ·rename_i u q
  split
  ·rename_i hu
   have h5 := (Array.getElem?_eq_some_iff.mp (wf k u (by rw [hck, q]) hu)).1
   simp only [setAt, h5, if_true, Option.bind_some]
   refine self (by simp) fun u h1 h2 => ?_
   simp [h5] at h1
  ·exact self rfl next
 ·exact self rfl next
theorem store_ok1 {ad : Nat → Addr} {L : QLoc} {C : Array Slot} {k : Nat} {v : Value} (H : QLocOk ad L C) (hv : v.category = 1) (hk : k < L.length) :
  ∃ D, storeLocals C k (qv ad v) = some D ∧ QLocOk ad ((lkill L k).set k (some v)) D ∧ D.size = C.size := by
 obtain ⟨H1, H2, H3, H4⟩ := H
 have hc : (qv ad v).category = 1 := by rw [qv_cat, hv]
 obtain ⟨D, hD⟩ := store_some (C := C) (k := k) (w := qv ad v) (by rw [hc]; omega) (Or.inl hc) H3
 obtain ⟨d1, d2, d3⟩ := set1_at (by omega) hc hD
 refine ⟨D, hD, ⟨by simp [lkill_len, H1, d1], fun j u hj => ?_, fun j w hj hw => ?_, fun j hj => ?_⟩, d1⟩
 ·rw [lget_set (by rw [lkill_len]; exact hk)] at hj
  split at hj
  ·rename_i e; cases hj; rw [e]; exact d2
  ·rename_i ne
   obtain ⟨g1, g2⟩ := lget_kill hj
   have g3 := H2 j u g1
   rcases d3 j ne with ⟨r, -, -⟩ | ⟨-, ⟨r1, r2⟩ | ⟨r1, w, r2, r3⟩⟩
   ·rw [r]; exact g3
   ·obtain ⟨i, w, z1, z2, z3⟩ := H4 k r2
    obtain rfl : i = j := by omega
    rw [g3] at z2
    cases z2
    rw [qv_cat] at z3
    exact absurd z3 (g2 r1)
   ·have := H3 k w r2 r3
    rw [← r1, g3] at this
    cases this
 ·by_cases e : j = k
  ·subst e; rw [d2] at hj; cases hj; rw [hc] at hw; cases hw
  ·rcases d3 j e with ⟨r, nA, nB⟩ | ⟨r, -⟩
   ·rw [r] at hj
    have g := H3 j w hj hw
    have e2 : j + 1 ≠ k := fun q => nA ⟨q.symm, by rw [← q]; exact g⟩
    rcases d3 (j + 1) e2 with ⟨z, -, -⟩ | ⟨-, ⟨z1, z2⟩ | ⟨z1, -⟩⟩
    ·rw [z]; exact g
    ·obtain ⟨i, u, y1, y2, y3⟩ := H4 k z2
     obtain rfl : i = j + 1 := by omega
     rw [g] at y2; cases y2
    ·omega
   ·rw [r] at hj; cases hj
 ·by_cases e : j = k
  ·subst e; rw [d2] at hj; cases hj
  ·rcases d3 j e with ⟨r, nA, nB⟩ | ⟨r, -⟩
   ·rw [r] at hj
    obtain ⟨i, w, y1, y2, y3⟩ := H4 j hj
    refine ⟨i, w, y1, ?_, y3⟩
    have ei : i ≠ k := fun q => nB ⟨by omega, w, by rw [← q]; exact y2, y3⟩
    rcases d3 i ei with ⟨z, -, -⟩ | ⟨-, ⟨z1, z2⟩ | ⟨z1, u, z2, z3⟩⟩
    ·rw [z]; exact y2
    ·omega
    ·have := H3 k u z2 z3
     rw [← z1, y2] at this; cases this
   ·rw [r] at hj; cases hj
theorem store_ok2 {ad : Nat → Addr} {L : QLoc} {C : Array Slot} {k : Nat} {x : Int64} (H : QLocOk ad L C) (hk : k + 1 < L.length) :
  ∃ D, storeLocals C k (.long x) = some D ∧ QLocOk ad (((lkill L k).set k (some (.long x))).set (k + 1) none) D ∧ D.size = C.size := by
 obtain ⟨H1, H2, H3, H4⟩ := H
 have hc : (Value.long x).category = 2 := rfl
 obtain ⟨D, hD⟩ := store_some (C := C) (k := k) (w := .long x) (by rw [hc]; omega) (Or.inr hc) H3
 obtain ⟨d1, d2, d2', d3⟩ := set2_at (by omega) hc H3 hD
 refine ⟨D, hD, ⟨by simp [lkill_len, H1, d1], fun j u hj => ?_, fun j w hj hw => ?_, fun j hj => ?_⟩, d1⟩
 ·rw [lget_set (by simp [lkill_len]; exact hk)] at hj
  split at hj
  ·cases hj
  ·rename_i ne1
   rw [lget_set (by rw [lkill_len]; omega)] at hj
   split at hj
   ·rename_i e; cases hj; rw [e]; exact d2
   ·rename_i ne
    obtain ⟨g1, g2⟩ := lget_kill hj
    have g3 := H2 j u g1
    rcases d3 j ne ne1 with ⟨r, -, -⟩ | ⟨-, ⟨r1, r2⟩ | ⟨r1, w, r2, r3⟩⟩
    ·rw [r]; exact g3
    ·obtain ⟨i, w, z1, z2, z3⟩ := H4 k r2
     obtain rfl : i = j := by omega
     rw [g3] at z2
     cases z2
     rw [qv_cat] at z3
     exact absurd z3 (g2 r1)
    ·have := H3 (k + 1) w r2 r3
     rw [show k + 1 + 1 = j by omega, g3] at this
     cases this
 ·by_cases e : j = k
  ·rw [e]; exact d2'
  ·by_cases e1 : j = k + 1
   ·rw [e1, d2'] at hj; cases hj
   ·rcases d3 j e e1 with ⟨r, nA, nB⟩ | ⟨r, -⟩
    ·rw [r] at hj
     have g := H3 j w hj hw
     have e2 : j + 1 ≠ k := fun q => nA ⟨q.symm, by rw [← q]; exact g⟩
     rcases d3 (j + 1) e2 (by omega) with ⟨z, -, -⟩ | ⟨-, ⟨z1, z2⟩ | ⟨z1, -⟩⟩
     ·rw [z]; exact g
     ·obtain ⟨i, u, y1, y2, y3⟩ := H4 k z2
      obtain rfl : i = j + 1 := by omega
      rw [g] at y2; cases y2
     ·omega
    ·rw [r] at hj; cases hj
 ·by_cases e : j = k
  ·rw [e, d2] at hj; cases hj
  ·by_cases e1 : j = k + 1
   ·exact ⟨k, _, e1, d2, hc⟩
   ·rcases d3 j e e1 with ⟨r, nA, nB⟩ | ⟨r, -⟩
    ·rw [r] at hj
     obtain ⟨i, w, y1, y2, y3⟩ := H4 j hj
     refine ⟨i, w, y1, ?_, y3⟩
     have ei : i ≠ k := fun q => e1 (by omega)
     have ei1 : i ≠ k + 1 := fun q => nB ⟨by omega, w, by rw [← q]; exact y2, y3⟩
     rcases d3 i ei ei1 with ⟨z, -, -⟩ | ⟨-, ⟨z1, z2⟩ | ⟨z1, u, z2, z3⟩⟩
     ·rw [z]; exact y2
     ·omega
     ·have := H3 (k + 1) u z2 z3
      rw [show k + 1 + 1 = i by omega, y2] at this; cases this
    ·rw [r] at hj; cases hj
theorem store_ok {ad : Nat → Addr} {L L' : QLoc} {C : Array Slot} {k : Nat} {v : Value} (H : QLocOk ad L C) (h : lput L k v = some L') :
  ∃ D, storeLocals C k (qv ad v) = some D ∧ QLocOk ad L' D ∧ D.size = C.size := by
 have one : v.category = 1 → (bif Nat.ble (k + 1) L.length then some ((lkill L k).set k (some v)) else none) = some L' → ∃ D, storeLocals C k (qv ad v) = some D ∧ QLocOk ad L' D ∧ D.size = C.size := by
  intro hv h
  cases hb : Nat.ble (k + 1) L.length with
  | false => rw [hb] at h; cases h
  | true => rw [hb] at h; cases h; exact store_ok1 H hv (Nat.le_of_ble_eq_true hb)
 cases v with
 | long x =>
  simp only [lput] at h
  cases hb : Nat.ble (k + 2) L.length with
  | false => rw [hb] at h; cases h
  | true => rw [hb] at h; cases h; exact store_ok2 H (Nat.le_of_ble_eq_true hb)
 | double x => simp [lput] at h
 | int x => exact one rfl h
 | float x => exact one rfl h
 | null => exact one rfl h
 | ref x => exact one rfl h
 | retAddr x => exact one rfl h
theorem fInj : ∀ i, i < nF → ∀ j, j < nF → fNm i = fNm j → i = j := by decide +kernel
theorem fPrs : ∀ i, i < nF → parseFieldDescriptor (fDs i) = some (fTy i) := by decide +kernel
theorem cDefs : ∀ i, i < nF → vget cDef i = some (defaultValue (fTy i)) := by decide +kernel
theorem cDefL : cDef.length = nF := by decide +kernel
theorem fDef : ∀ i, i < nF → ∀ a, defaultValue (fTy i) ≠ .ref a := by
 intro i _ a
 cases fTy i <;> simp [defaultValue]
theorem kPlain : ∀ k, k < 2 → plainName (kName k) = true := by
 intro k hk
 rcases k with _ | _ | k
 ·first | decide +kernel | (simp [kName, plainName, overriddenIn]; done)
 ·first | decide +kernel | (simp [kName, plainName, overriddenIn]; done)
 ·omega
theorem pKlt : ∀ m, m < pN → pK m < 2 := by decide +kernel
theorem pSig : ∀ m, m < pN → (parseMethodDescriptor (pDs m)).map (fun sg => sg.parameters.length) = some (pNA m) := by decide +kernel
theorem pOwn : ∀ k, k < 2 → kName k ≠ "java/lang/invoke/MethodHandle" ∧ kName k ≠ "java/lang/invoke/VarHandle" := by decide +kernel
theorem mAlt : ∀ m ∈ mA, m < pN := by decide +kernel
theorem mVlt : ∀ m ∈ mV, m ∈ mA ∧ pK m = 1 := by decide +kernel
theorem mPlt : ∀ m ∈ mP, m ∈ mA ∧ pK m = 1 := by decide +kernel
theorem mSlt : ∀ m ∈ mS, m ∈ mA := by decide +kernel
theorem mIlt : ∀ m ∈ mI, m ∈ mA ∧ pK m = 1 ∧ pNm m = "<init>" ∧ pRet m = none := by decide +kernel
theorem kOne : kName 1 = cName := rfl
def pX (m pc : Nat) : Bool := match pCode m pc with | some t => qchk m pc t.1 t.2 | none => true
set_option maxRecDepth 100000 in
set_option maxHeartbeats 4000000 in
theorem pC0_0 : ∀ q, q < 128 → pX 0 (0 + q) = true := by decide +kernel
set_option maxRecDepth 100000 in
set_option maxHeartbeats 4000000 in
theorem pC0_128 : ∀ q, q < 128 → pX 0 (128 + q) = true := by decide +kernel
set_option maxRecDepth 100000 in
set_option maxHeartbeats 4000000 in
theorem pC0_256 : ∀ q, q < 128 → pX 0 (256 + q) = true := by decide +kernel
set_option maxRecDepth 100000 in
set_option maxHeartbeats 4000000 in
theorem pC0_384 : ∀ q, q < 128 → pX 0 (384 + q) = true := by decide +kernel
set_option maxRecDepth 100000 in
set_option maxHeartbeats 4000000 in
theorem pC0_512 : ∀ q, q < 128 → pX 0 (512 + q) = true := by decide +kernel
set_option maxRecDepth 100000 in
set_option maxHeartbeats 4000000 in
theorem pC0_640 : ∀ q, q < 128 → pX 0 (640 + q) = true := by decide +kernel
set_option maxRecDepth 100000 in
set_option maxHeartbeats 4000000 in
theorem pC0_768 : ∀ q, q < 24 → pX 0 (768 + q) = true := by decide +kernel
theorem pCm0 (pc : Nat) (h : pc < pTop 0) : pX 0 pc = true := by
 replace h : pc < 792 := h
 by_cases h0 : pc < 128
 ·have q := pC0_0 (pc - 0) (by omega)
  rwa [show 0 + (pc - 0) = pc from by omega] at q
 by_cases h128 : pc < 256
 ·have q := pC0_128 (pc - 128) (by omega)
  rwa [show 128 + (pc - 128) = pc from by omega] at q
 by_cases h256 : pc < 384
 ·have q := pC0_256 (pc - 256) (by omega)
  rwa [show 256 + (pc - 256) = pc from by omega] at q
 by_cases h384 : pc < 512
 ·have q := pC0_384 (pc - 384) (by omega)
  rwa [show 384 + (pc - 384) = pc from by omega] at q
 by_cases h512 : pc < 640
 ·have q := pC0_512 (pc - 512) (by omega)
  rwa [show 512 + (pc - 512) = pc from by omega] at q
 by_cases h640 : pc < 768
 ·have q := pC0_640 (pc - 640) (by omega)
  rwa [show 640 + (pc - 640) = pc from by omega] at q
 have q := pC0_768 (pc - 768) (by omega)
 rwa [show 768 + (pc - 768) = pc from by omega] at q
set_option maxRecDepth 100000 in
set_option maxHeartbeats 4000000 in
theorem pC1_0 : ∀ q, q < 128 → pX 1 (0 + q) = true := by decide +kernel
set_option maxRecDepth 100000 in
set_option maxHeartbeats 4000000 in
theorem pC1_128 : ∀ q, q < 128 → pX 1 (128 + q) = true := by decide +kernel
set_option maxRecDepth 100000 in
set_option maxHeartbeats 4000000 in
theorem pC1_256 : ∀ q, q < 53 → pX 1 (256 + q) = true := by decide +kernel
theorem pCm1 (pc : Nat) (h : pc < pTop 1) : pX 1 pc = true := by
 replace h : pc < 309 := h
 by_cases h0 : pc < 128
 ·have q := pC1_0 (pc - 0) (by omega)
  rwa [show 0 + (pc - 0) = pc from by omega] at q
 by_cases h128 : pc < 256
 ·have q := pC1_128 (pc - 128) (by omega)
  rwa [show 128 + (pc - 128) = pc from by omega] at q
 have q := pC1_256 (pc - 256) (by omega)
 rwa [show 256 + (pc - 256) = pc from by omega] at q
set_option maxRecDepth 100000 in
set_option maxHeartbeats 4000000 in
theorem pC2_0 : ∀ q, q < 71 → pX 2 (0 + q) = true := by decide +kernel
theorem pCm2 (pc : Nat) (h : pc < pTop 2) : pX 2 pc = true := by
 replace h : pc < 71 := h
 have q := pC2_0 (pc - 0) (by omega)
 rwa [show 0 + (pc - 0) = pc from by omega] at q
set_option maxRecDepth 100000 in
set_option maxHeartbeats 4000000 in
theorem pC3_0 : ∀ q, q < 29 → pX 3 (0 + q) = true := by decide +kernel
theorem pCm3 (pc : Nat) (h : pc < pTop 3) : pX 3 pc = true := by
 replace h : pc < 29 := h
 have q := pC3_0 (pc - 0) (by omega)
 rwa [show 0 + (pc - 0) = pc from by omega] at q
set_option maxRecDepth 100000 in
set_option maxHeartbeats 4000000 in
theorem pC4_0 : ∀ q, q < 14 → pX 4 (0 + q) = true := by decide +kernel
theorem pCm4 (pc : Nat) (h : pc < pTop 4) : pX 4 pc = true := by
 replace h : pc < 14 := h
 have q := pC4_0 (pc - 0) (by omega)
 rwa [show 0 + (pc - 0) = pc from by omega] at q
set_option maxRecDepth 100000 in
set_option maxHeartbeats 4000000 in
theorem pC5_0 : ∀ q, q < 16 → pX 5 (0 + q) = true := by decide +kernel
theorem pCm5 (pc : Nat) (h : pc < pTop 5) : pX 5 pc = true := by
 replace h : pc < 16 := h
 have q := pC5_0 (pc - 0) (by omega)
 rwa [show 0 + (pc - 0) = pc from by omega] at q
set_option maxRecDepth 100000 in
set_option maxHeartbeats 4000000 in
theorem pC6_0 : ∀ q, q < 128 → pX 6 (0 + q) = true := by decide +kernel
set_option maxRecDepth 100000 in
set_option maxHeartbeats 4000000 in
theorem pC6_128 : ∀ q, q < 2 → pX 6 (128 + q) = true := by decide +kernel
theorem pCm6 (pc : Nat) (h : pc < pTop 6) : pX 6 pc = true := by
 replace h : pc < 130 := h
 by_cases h0 : pc < 128
 ·have q := pC6_0 (pc - 0) (by omega)
  rwa [show 0 + (pc - 0) = pc from by omega] at q
 have q := pC6_128 (pc - 128) (by omega)
 rwa [show 128 + (pc - 128) = pc from by omega] at q
set_option maxRecDepth 100000 in
set_option maxHeartbeats 4000000 in
theorem pC7_0 : ∀ q, q < 23 → pX 7 (0 + q) = true := by decide +kernel
theorem pCm7 (pc : Nat) (h : pc < pTop 7) : pX 7 pc = true := by
 replace h : pc < 23 := h
 have q := pC7_0 (pc - 0) (by omega)
 rwa [show 0 + (pc - 0) = pc from by omega] at q
set_option maxRecDepth 100000 in
set_option maxHeartbeats 4000000 in
theorem pC8_0 : ∀ q, q < 68 → pX 8 (0 + q) = true := by decide +kernel
theorem pCm8 (pc : Nat) (h : pc < pTop 8) : pX 8 pc = true := by
 replace h : pc < 68 := h
 have q := pC8_0 (pc - 0) (by omega)
 rwa [show 0 + (pc - 0) = pc from by omega] at q
set_option maxRecDepth 100000 in
set_option maxHeartbeats 4000000 in
theorem pC9_0 : ∀ q, q < 24 → pX 9 (0 + q) = true := by decide +kernel
theorem pCm9 (pc : Nat) (h : pc < pTop 9) : pX 9 pc = true := by
 replace h : pc < 24 := h
 have q := pC9_0 (pc - 0) (by omega)
 rwa [show 0 + (pc - 0) = pc from by omega] at q
set_option maxRecDepth 100000 in
set_option maxHeartbeats 4000000 in
theorem pC10_0 : ∀ q, q < 46 → pX 10 (0 + q) = true := by decide +kernel
theorem pCm10 (pc : Nat) (h : pc < pTop 10) : pX 10 pc = true := by
 replace h : pc < 46 := h
 have q := pC10_0 (pc - 0) (by omega)
 rwa [show 0 + (pc - 0) = pc from by omega] at q
set_option maxRecDepth 100000 in
set_option maxHeartbeats 4000000 in
theorem pC11_0 : ∀ q, q < 119 → pX 11 (0 + q) = true := by decide +kernel
theorem pCm11 (pc : Nat) (h : pc < pTop 11) : pX 11 pc = true := by
 replace h : pc < 119 := h
 have q := pC11_0 (pc - 0) (by omega)
 rwa [show 0 + (pc - 0) = pc from by omega] at q
set_option maxRecDepth 100000 in
set_option maxHeartbeats 4000000 in
theorem pC12_0 : ∀ q, q < 121 → pX 12 (0 + q) = true := by decide +kernel
theorem pCm12 (pc : Nat) (h : pc < pTop 12) : pX 12 pc = true := by
 replace h : pc < 121 := h
 have q := pC12_0 (pc - 0) (by omega)
 rwa [show 0 + (pc - 0) = pc from by omega] at q
set_option maxRecDepth 100000 in
set_option maxHeartbeats 4000000 in
theorem pC13_0 : ∀ q, q < 128 → pX 13 (0 + q) = true := by decide +kernel
set_option maxRecDepth 100000 in
set_option maxHeartbeats 4000000 in
theorem pC13_128 : ∀ q, q < 75 → pX 13 (128 + q) = true := by decide +kernel
theorem pCm13 (pc : Nat) (h : pc < pTop 13) : pX 13 pc = true := by
 replace h : pc < 203 := h
 by_cases h0 : pc < 128
 ·have q := pC13_0 (pc - 0) (by omega)
  rwa [show 0 + (pc - 0) = pc from by omega] at q
 have q := pC13_128 (pc - 128) (by omega)
 rwa [show 128 + (pc - 128) = pc from by omega] at q
set_option maxRecDepth 100000 in
set_option maxHeartbeats 4000000 in
theorem pC14_0 : ∀ q, q < 69 → pX 14 (0 + q) = true := by decide +kernel
theorem pCm14 (pc : Nat) (h : pc < pTop 14) : pX 14 pc = true := by
 replace h : pc < 69 := h
 have q := pC14_0 (pc - 0) (by omega)
 rwa [show 0 + (pc - 0) = pc from by omega] at q
set_option maxRecDepth 100000 in
set_option maxHeartbeats 4000000 in
theorem pC15_0 : ∀ q, q < 5 → pX 15 (0 + q) = true := by decide +kernel
theorem pCm15 (pc : Nat) (h : pc < pTop 15) : pX 15 pc = true := by
 replace h : pc < 5 := h
 have q := pC15_0 (pc - 0) (by omega)
 rwa [show 0 + (pc - 0) = pc from by omega] at q
set_option maxRecDepth 100000 in
set_option maxHeartbeats 4000000 in
theorem pC16_0 : ∀ q, q < 5 → pX 16 (0 + q) = true := by decide +kernel
theorem pCm16 (pc : Nat) (h : pc < pTop 16) : pX 16 pc = true := by
 replace h : pc < 5 := h
 have q := pC16_0 (pc - 0) (by omega)
 rwa [show 0 + (pc - 0) = pc from by omega] at q
set_option maxRecDepth 100000 in
set_option maxHeartbeats 4000000 in
theorem pC17_0 : ∀ q, q < 5 → pX 17 (0 + q) = true := by decide +kernel
theorem pCm17 (pc : Nat) (h : pc < pTop 17) : pX 17 pc = true := by
 replace h : pc < 5 := h
 have q := pC17_0 (pc - 0) (by omega)
 rwa [show 0 + (pc - 0) = pc from by omega] at q
set_option maxRecDepth 100000 in
set_option maxHeartbeats 4000000 in
theorem pC18_0 : ∀ q, q < 5 → pX 18 (0 + q) = true := by decide +kernel
theorem pCm18 (pc : Nat) (h : pc < pTop 18) : pX 18 pc = true := by
 replace h : pc < 5 := h
 have q := pC18_0 (pc - 0) (by omega)
 rwa [show 0 + (pc - 0) = pc from by omega] at q
set_option maxRecDepth 100000 in
set_option maxHeartbeats 4000000 in
theorem pC19_0 : ∀ q, q < 18 → pX 19 (0 + q) = true := by decide +kernel
theorem pCm19 (pc : Nat) (h : pc < pTop 19) : pX 19 pc = true := by
 replace h : pc < 18 := h
 have q := pC19_0 (pc - 0) (by omega)
 rwa [show 0 + (pc - 0) = pc from by omega] at q
set_option maxRecDepth 100000 in
set_option maxHeartbeats 4000000 in
theorem pC20_0 : ∀ q, q < 27 → pX 20 (0 + q) = true := by decide +kernel
theorem pCm20 (pc : Nat) (h : pc < pTop 20) : pX 20 pc = true := by
 replace h : pc < 27 := h
 have q := pC20_0 (pc - 0) (by omega)
 rwa [show 0 + (pc - 0) = pc from by omega] at q
set_option maxRecDepth 100000 in
set_option maxHeartbeats 4000000 in
theorem pC21_0 : ∀ q, q < 109 → pX 21 (0 + q) = true := by decide +kernel
theorem pCm21 (pc : Nat) (h : pc < pTop 21) : pX 21 pc = true := by
 replace h : pc < 109 := h
 have q := pC21_0 (pc - 0) (by omega)
 rwa [show 0 + (pc - 0) = pc from by omega] at q
set_option maxRecDepth 100000 in
set_option maxHeartbeats 4000000 in
theorem pC22_0 : ∀ q, q < 35 → pX 22 (0 + q) = true := by decide +kernel
theorem pCm22 (pc : Nat) (h : pc < pTop 22) : pX 22 pc = true := by
 replace h : pc < 35 := h
 have q := pC22_0 (pc - 0) (by omega)
 rwa [show 0 + (pc - 0) = pc from by omega] at q
set_option maxRecDepth 100000 in
set_option maxHeartbeats 4000000 in
theorem pC23_0 : ∀ q, q < 43 → pX 23 (0 + q) = true := by decide +kernel
theorem pCm23 (pc : Nat) (h : pc < pTop 23) : pX 23 pc = true := by
 replace h : pc < 43 := h
 have q := pC23_0 (pc - 0) (by omega)
 rwa [show 0 + (pc - 0) = pc from by omega] at q
set_option maxRecDepth 100000 in
set_option maxHeartbeats 4000000 in
theorem pC24_0 : ∀ q, q < 107 → pX 24 (0 + q) = true := by decide +kernel
theorem pCm24 (pc : Nat) (h : pc < pTop 24) : pX 24 pc = true := by
 replace h : pc < 107 := h
 have q := pC24_0 (pc - 0) (by omega)
 rwa [show 0 + (pc - 0) = pc from by omega] at q
set_option maxRecDepth 100000 in
set_option maxHeartbeats 4000000 in
theorem pC25_0 : ∀ q, q < 87 → pX 25 (0 + q) = true := by decide +kernel
theorem pCm25 (pc : Nat) (h : pc < pTop 25) : pX 25 pc = true := by
 replace h : pc < 87 := h
 have q := pC25_0 (pc - 0) (by omega)
 rwa [show 0 + (pc - 0) = pc from by omega] at q
set_option maxRecDepth 100000 in
set_option maxHeartbeats 4000000 in
theorem pC26_0 : ∀ q, q < 128 → pX 26 (0 + q) = true := by decide +kernel
theorem pCm26 (pc : Nat) (h : pc < pTop 26) : pX 26 pc = true := by
 replace h : pc < 128 := h
 have q := pC26_0 (pc - 0) (by omega)
 rwa [show 0 + (pc - 0) = pc from by omega] at q
set_option maxRecDepth 100000 in
set_option maxHeartbeats 4000000 in
theorem pC27_0 : ∀ q, q < 101 → pX 27 (0 + q) = true := by decide +kernel
theorem pCm27 (pc : Nat) (h : pc < pTop 27) : pX 27 pc = true := by
 replace h : pc < 101 := h
 have q := pC27_0 (pc - 0) (by omega)
 rwa [show 0 + (pc - 0) = pc from by omega] at q
set_option maxRecDepth 100000 in
set_option maxHeartbeats 4000000 in
theorem pC28_0 : ∀ q, q < 115 → pX 28 (0 + q) = true := by decide +kernel
theorem pCm28 (pc : Nat) (h : pc < pTop 28) : pX 28 pc = true := by
 replace h : pc < 115 := h
 have q := pC28_0 (pc - 0) (by omega)
 rwa [show 0 + (pc - 0) = pc from by omega] at q
set_option maxRecDepth 100000 in
set_option maxHeartbeats 4000000 in
theorem pC29_0 : ∀ q, q < 128 → pX 29 (0 + q) = true := by decide +kernel
set_option maxRecDepth 100000 in
set_option maxHeartbeats 4000000 in
theorem pC29_128 : ∀ q, q < 8 → pX 29 (128 + q) = true := by decide +kernel
theorem pCm29 (pc : Nat) (h : pc < pTop 29) : pX 29 pc = true := by
 replace h : pc < 136 := h
 by_cases h0 : pc < 128
 ·have q := pC29_0 (pc - 0) (by omega)
  rwa [show 0 + (pc - 0) = pc from by omega] at q
 have q := pC29_128 (pc - 128) (by omega)
 rwa [show 128 + (pc - 128) = pc from by omega] at q
set_option maxRecDepth 100000 in
set_option maxHeartbeats 4000000 in
theorem pC30_0 : ∀ q, q < 62 → pX 30 (0 + q) = true := by decide +kernel
theorem pCm30 (pc : Nat) (h : pc < pTop 30) : pX 30 pc = true := by
 replace h : pc < 62 := h
 have q := pC30_0 (pc - 0) (by omega)
 rwa [show 0 + (pc - 0) = pc from by omega] at q
set_option maxRecDepth 100000 in
set_option maxHeartbeats 4000000 in
theorem pC31_0 : ∀ q, q < 84 → pX 31 (0 + q) = true := by decide +kernel
theorem pCm31 (pc : Nat) (h : pc < pTop 31) : pX 31 pc = true := by
 replace h : pc < 84 := h
 have q := pC31_0 (pc - 0) (by omega)
 rwa [show 0 + (pc - 0) = pc from by omega] at q
set_option maxRecDepth 100000 in
set_option maxHeartbeats 4000000 in
theorem pC32_0 : ∀ q, q < 128 → pX 32 (0 + q) = true := by decide +kernel
set_option maxRecDepth 100000 in
set_option maxHeartbeats 4000000 in
theorem pC32_128 : ∀ q, q < 76 → pX 32 (128 + q) = true := by decide +kernel
theorem pCm32 (pc : Nat) (h : pc < pTop 32) : pX 32 pc = true := by
 replace h : pc < 204 := h
 by_cases h0 : pc < 128
 ·have q := pC32_0 (pc - 0) (by omega)
  rwa [show 0 + (pc - 0) = pc from by omega] at q
 have q := pC32_128 (pc - 128) (by omega)
 rwa [show 128 + (pc - 128) = pc from by omega] at q
set_option maxRecDepth 100000 in
set_option maxHeartbeats 4000000 in
theorem pC33_0 : ∀ q, q < 110 → pX 33 (0 + q) = true := by decide +kernel
theorem pCm33 (pc : Nat) (h : pc < pTop 33) : pX 33 pc = true := by
 replace h : pc < 110 := h
 have q := pC33_0 (pc - 0) (by omega)
 rwa [show 0 + (pc - 0) = pc from by omega] at q
set_option maxRecDepth 100000 in
set_option maxHeartbeats 4000000 in
theorem pC34_0 : ∀ q, q < 71 → pX 34 (0 + q) = true := by decide +kernel
theorem pCm34 (pc : Nat) (h : pc < pTop 34) : pX 34 pc = true := by
 replace h : pc < 71 := h
 have q := pC34_0 (pc - 0) (by omega)
 rwa [show 0 + (pc - 0) = pc from by omega] at q
set_option maxRecDepth 100000 in
set_option maxHeartbeats 4000000 in
theorem pC35_0 : ∀ q, q < 28 → pX 35 (0 + q) = true := by decide +kernel
theorem pCm35 (pc : Nat) (h : pc < pTop 35) : pX 35 pc = true := by
 replace h : pc < 28 := h
 have q := pC35_0 (pc - 0) (by omega)
 rwa [show 0 + (pc - 0) = pc from by omega] at q
theorem pChk0 : ∀ m, m < pN → ∀ pc, pc < pTop m → (match pCode m pc with | some t => qchk m pc t.1 t.2 | none => true) = true := by
 intro m hm pc hp
 change pX m pc = true
 match m, hm, hp with
 | 0, _, hp => exact pCm0 pc hp
 | 1, _, hp => exact pCm1 pc hp
 | 2, _, hp => exact pCm2 pc hp
 | 3, _, hp => exact pCm3 pc hp
 | 4, _, hp => exact pCm4 pc hp
 | 5, _, hp => exact pCm5 pc hp
 | 6, _, hp => exact pCm6 pc hp
 | 7, _, hp => exact pCm7 pc hp
 | 8, _, hp => exact pCm8 pc hp
 | 9, _, hp => exact pCm9 pc hp
 | 10, _, hp => exact pCm10 pc hp
 | 11, _, hp => exact pCm11 pc hp
 | 12, _, hp => exact pCm12 pc hp
 | 13, _, hp => exact pCm13 pc hp
 | 14, _, hp => exact pCm14 pc hp
 | 15, _, hp => exact pCm15 pc hp
 | 16, _, hp => exact pCm16 pc hp
 | 17, _, hp => exact pCm17 pc hp
 | 18, _, hp => exact pCm18 pc hp
 | 19, _, hp => exact pCm19 pc hp
 | 20, _, hp => exact pCm20 pc hp
 | 21, _, hp => exact pCm21 pc hp
 | 22, _, hp => exact pCm22 pc hp
 | 23, _, hp => exact pCm23 pc hp
 | 24, _, hp => exact pCm24 pc hp
 | 25, _, hp => exact pCm25 pc hp
 | 26, _, hp => exact pCm26 pc hp
 | 27, _, hp => exact pCm27 pc hp
 | 28, _, hp => exact pCm28 pc hp
 | 29, _, hp => exact pCm29 pc hp
 | 30, _, hp => exact pCm30 pc hp
 | 31, _, hp => exact pCm31 pc hp
 | 32, _, hp => exact pCm32 pc hp
 | 33, _, hp => exact pCm33 pc hp
 | 34, _, hp => exact pCm34 pc hp
 | 35, _, hp => exact pCm35 pc hp
 | m + 36, hm, _ => exact absurd hm (by unfold pN; omega)
theorem pIn {m pc : Nat} {t : Instr × Nat} (h : pCode m pc = some t) : m < pN ∧ pc < pTop m := by
 unfold pCode at h
 cases h1 : Nat.ble pN m with
 | true => rw [h1] at h; cases h
 | false =>
  cases h2 : Nat.ble (pTop m) pc with
  | true => rw [h1, h2] at h; cases h
  | false => exact ⟨Nat.lt_of_not_le (fun q => by rw [Nat.ble_eq_true_of_le q] at h1; cases h1), Nat.lt_of_not_le (fun q => by rw [Nat.ble_eq_true_of_le q] at h2; cases h2)⟩
theorem pChk {m pc : Nat} {i : Instr} {aux : Nat} (h : pCode m pc = some (i, aux)) : qchk m pc i aux = true := by
 have q := pChk0 m (pIn h).1 pc (pIn h).2
 rw [h] at q
 exact q
theorem pDec {m pc : Nat} {i : Instr} {aux : Nat} (h : pCode m pc = some (i, aux)) : decode (pBytes m) pc = .ok (i, ilen i) := by
 have q := pChk h
 unfold qchk at q
 exact of_decide_eq_true (Bool.and_eq_true_iff.mp q).1
theorem pDecN {m pc n : Nat} {i : Instr} {aux : Nat} (h : pCode m pc = some (i, aux)) (hn : ilen i = n) : decode (pBytes m) pc = .ok (i, n) := by
 rw [← hn]; exact pDec h
theorem pRest {m pc : Nat} {i : Instr} {aux : Nat} (h : pCode m pc = some (i, aux)) : qlk m pc i aux = true := by
 have q := pChk h
 unfold qchk at q
 exact (Bool.and_eq_true_iff.mp q).2
theorem qtgt_spec {pc : Nat} {o : Int} {aux : Nat} (h : qtgt pc o aux = true) : 0 ≤ (pc : Int) + o ∧ ((pc : Int) + o).toNat = aux := by
 unfold qtgt at h
 have h2 := Bool.and_eq_true_iff.mp h
 exact ⟨of_decide_eq_true h2.1, of_decide_eq_true h2.2⟩
def QCx (Z : State) (p : Program) (R : Room) (s : State) (mid : MethodId) (meth : Method) (c : Code) (m : Nat) : Prop :=
 p.tables.exec = Jvm.exec ∧ Z.Warmed39 s.vm ∧ c.code = pBytes m ∧ c.maxLocals = pMaxL m ∧ meth.sig.returnType = pRet m ∧ s.vm.findClass (kName (pK m)) = some mid.cls ∧ meth.name = pNm m ∧ pFr m ≤ R.frames ∧ pLo m ≤ R.locals
def QTri (l : Launch) (Z : State) (n0 : Nat) (ad : Nat → Addr) (m : Nat) (st : QSt) (v : Option Value) (σ' : QHeap) : Prop :=
 st.2.2.2.length ≤ σ'.length ∧ qhs st.2.2.2 ≤ qhs σ' ∧
 ∀ (p : Program) (e : Env) (R : Room) (s : State) (mid : MethodId) (args : Array Value) (below : List Frame) (meth : Method) (c : Code) (T : State) (locs : List Loc) (cells slots : Nat) (C : Array Slot),
  QCx Z p R s mid meth c m → Stand p l e R s mid args below meth c T locs cells slots → QRep Z n0 ad T.heap st.2.2.2 → Fr n0 locs → QLocOk ad st.2.1 C → C.size = c.maxLocals →
  n0 + (st.2.2.2.length - k0) = s.heap.size + cells → cells + (σ'.length - st.2.2.2.length) ≤ R.cells → slots + (qhs σ' - qhs st.2.2.2) ≤ R.slots →
  ∃ T' locs', Stand p l e R s mid args below meth c T' locs' (cells + (σ'.length - st.2.2.2.length)) (slots + (qhs σ' - qhs st.2.2.2)) ∧ QRep Z n0 ad T'.heap σ' ∧ Fr n0 locs' ∧
   ∀ fs, (∀ (f : JFrame) (acts : List Action), f.method = mid → f.locked = none → f.entered = [] → (doReturn e (T'.setTop f) acts (v.map (qv ad))).1 = T'.setFrames fs) →
    Steps p.tables e below (T.setTop (mkF mid st.1 C (st.2.2.1.map (qv ad)))) (T'.setFrames fs)
section Triples
variable {l : Launch} {Z : State} {n0 : Nat} {ad : Nat → Addr} {a0 : Array Value} {m : Nat} {v : Option Value} {σ' : QHeap}
theorem QTri.gen {st st' : QSt} (h : QTri l Z n0 ad m st' v σ') (g1 : st.2.2.2.length ≤ st'.2.2.2.length) (g2 : qhs st.2.2.2 ≤ qhs st'.2.2.2)
  (hs : ∀ (p : Program) (e : Env) (R : Room) (s : State) (mid : MethodId) (args : Array Value) (below : List Frame) (meth : Method) (c : Code) (T : State) (locs : List Loc) (cells slots : Nat) (C : Array Slot),
   QCx Z p R s mid meth c m → Stand p l e R s mid args below meth c T locs cells slots → QRep Z n0 ad T.heap st.2.2.2 → Fr n0 locs → QLocOk ad st.2.1 C → C.size = c.maxLocals →
   n0 + (st.2.2.2.length - k0) = s.heap.size + cells → cells + (st'.2.2.2.length - st.2.2.2.length) ≤ R.cells → slots + (qhs st'.2.2.2 - qhs st.2.2.2) ≤ R.slots →
   ∃ T₁ locs₁ C₁, Stand p l e R s mid args below meth c T₁ locs₁ (cells + (st'.2.2.2.length - st.2.2.2.length)) (slots + (qhs st'.2.2.2 - qhs st.2.2.2)) ∧ QRep Z n0 ad T₁.heap st'.2.2.2 ∧ Fr n0 locs₁ ∧ QLocOk ad st'.2.1 C₁ ∧ C₁.size = c.maxLocals ∧
    ∀ target, Steps p.tables e below (T₁.setTop (mkF mid st'.1 C₁ (st'.2.2.1.map (qv ad)))) target → Steps p.tables e below (T.setTop (mkF mid st.1 C (st.2.2.1.map (qv ad)))) target) :
  QTri l Z n0 ad m st v σ' := by
 obtain ⟨h1, h2, h3⟩ := h
 refine ⟨Nat.le_trans g1 h1, Nat.le_trans g2 h2, fun p e R s mid args below meth c T locs cells slots C hcx X hR hF hL hC hn hc hsl => ?_⟩
 obtain ⟨T₁, locs₁, C₁, X₁, R₁, F₁, L₁, C1, S₁⟩ := hs p e R s mid args below meth c T locs cells slots C hcx X hR hF hL hC hn (by omega) (by omega)
 have hk := hR.1.1
 obtain ⟨T', locs', X', R', F', S'⟩ := h3 p e R s mid args below meth c T₁ locs₁ _ _ C₁ hcx X₁ R₁ F₁ L₁ C1 (by omega) (by omega) (by omega)
 have e1 : cells + (st'.2.2.2.length - st.2.2.2.length) + (σ'.length - st'.2.2.2.length) = cells + (σ'.length - st.2.2.2.length) := by omega
 have e2 : slots + (qhs st'.2.2.2 - qhs st.2.2.2) + (qhs σ' - qhs st'.2.2.2) = slots + (qhs σ' - qhs st.2.2.2) := by omega
 rw [e1, e2] at X'
 exact ⟨T', locs', X', R', F', fun fs hf => S₁ _ (S' fs hf)⟩
theorem QTri.pure {st st' : QSt} (h : QTri l Z n0 ad m st' v σ') (hσ : st'.2.2.2 = st.2.2.2)
  (hs : ∀ (p : Program) (e : Env) (R : Room) (s : State) (mid : MethodId) (args : Array Value) (below : List Frame) (meth : Method) (c : Code) (T : State) (locs : List Loc) (cells slots : Nat) (C : Array Slot),
   QCx Z p R s mid meth c m → Stand p l e R s mid args below meth c T locs cells slots → QRep Z n0 ad T.heap st.2.2.2 → QLocOk ad st.2.1 C → C.size = c.maxLocals →
   ∃ T₁ C₁, Stand p l e R s mid args below meth c T₁ locs cells slots ∧ T₁.heap = T.heap ∧ QLocOk ad st'.2.1 C₁ ∧ C₁.size = c.maxLocals ∧
    ∀ target, Steps p.tables e below (T₁.setTop (mkF mid st'.1 C₁ (st'.2.2.1.map (qv ad)))) target → Steps p.tables e below (T.setTop (mkF mid st.1 C (st.2.2.1.map (qv ad)))) target) :
  QTri l Z n0 ad m st v σ' := by
 refine QTri.gen h (by rw [hσ]; exact Nat.le_refl _) (by rw [hσ]; exact Nat.le_refl _) fun p e R s mid args below meth c T locs cells slots C hcx X hR hF hL hC hn hc hsl => ?_
 obtain ⟨T₁, C₁, X₁, hh, L₁, C1, S₁⟩ := hs p e R s mid args below meth c T locs cells slots C hcx X hR hL hC
 refine ⟨T₁, locs, C₁, ?_, by rw [hσ, hh]; exact hR, hF, L₁, C1, S₁⟩
 rw [hσ, Nat.sub_self, Nat.sub_self]
 exact X₁
theorem QTri.frame {pc pc' : Nat} {L L' : QLoc} {S S' : List Value} {σ : QHeap} (h : QTri l Z n0 ad m (pc', L', S', σ) v σ')
  (hs : ∀ (p : Program) (e : Env) (R : Room) (s : State) (mid : MethodId) (args : Array Value) (below : List Frame) (meth : Method) (c : Code) (T : State) (locs : List Loc) (cells slots : Nat) (C : Array Slot),
   QCx Z p R s mid meth c m → Stand p l e R s mid args below meth c T locs cells slots → QRep Z n0 ad T.heap σ → QLocOk ad L C → C.size = c.maxLocals →
   ∃ C₁, QLocOk ad L' C₁ ∧ C₁.size = c.maxLocals ∧ ∀ target, Steps p.tables e below (T.setTop (mkF mid pc' C₁ (S'.map (qv ad)))) target → Steps p.tables e below (T.setTop (mkF mid pc C (S.map (qv ad)))) target) :
  QTri l Z n0 ad m (pc, L, S, σ) v σ' :=
 QTri.pure h rfl fun p e R s mid args below meth c T locs cells slots C hcx X hR hL hC => by
  obtain ⟨C₁, h1, h2, h3⟩ := hs p e R s mid args below meth c T locs cells slots C hcx X hR hL hC
  exact ⟨T, C₁, X, rfl, h1, h2, h3⟩
theorem QTri.stack {pc pc' : Nat} {L : QLoc} {S S' : List Value} {σ : QHeap} (h : QTri l Z n0 ad m (pc', L, S', σ) v σ')
  (hs : ∀ (p : Program) (e : Env) (R : Room) (s : State) (mid : MethodId) (args : Array Value) (below : List Frame) (meth : Method) (c : Code) (T : State) (locs : List Loc) (cells slots : Nat) (C : Array Slot) (target : State),
   p.tables.exec = Jvm.exec → Z.Warmed39 s.vm → c.code = pBytes m → s.vm.findClass (kName (pK m)) = some mid.cls → Stand p l e R s mid args below meth c T locs cells slots → QRep Z n0 ad T.heap σ → QLocOk ad L C →
   Steps p.tables e below (T.setTop (mkF mid pc' C (S'.map (qv ad)))) target → Steps p.tables e below (T.setTop (mkF mid pc C (S.map (qv ad)))) target) :
  QTri l Z n0 ad m (pc, L, S, σ) v σ' :=
 QTri.frame h fun p e R s mid args below meth c T locs cells slots C hcx X hR hL hC => ⟨C, hL, hC, fun target k => hs p e R s mid args below meth c T locs cells slots C target hcx.1 hcx.2.1 hcx.2.2.1 hcx.2.2.2.2.2.1 X hR hL k⟩
theorem qload_inv {pc : Nat} {L : QLoc} {S : List Value} {σ : QHeap} {k : Nat} {ok : Value → Bool} {st' : QSt} (h : qload pc L S σ k ok = some st') : ∃ v, lget L k = some v ∧ ok v = true ∧ st' = (pc, L, v :: S, σ) := by
 unfold qload at h
 split at h
 ·rename_i v hv
  cases ho : ok v with
  | true => rw [ho] at h; cases h; exact ⟨v, hv, ho, rfl⟩
  | false => rw [ho] at h; cases h
 ·cases h
theorem qstore_inv {pc : Nat} {L : QLoc} {S : List Value} {σ : QHeap} {k : Nat} {ok : Value → Bool} {st' : QSt} (h : qstore pc L S σ k ok = some st') : ∃ v S' L', S = v :: S' ∧ ok v = true ∧ lput L k v = some L' ∧ st' = (pc, L', S', σ) := by
 unfold qstore at h
 split at h
 ·rename_i v S'
  cases ho : ok v with
  | true =>
   rw [ho] at h
   simp only [cond_true] at h
   split at h
   ·rename_i L' hL'
    cases h; exact ⟨v, S', L', rfl, ho, hL', rfl⟩
   ·cases h
  | false => rw [ho] at h; cases h
 ·cases h
theorem qbin_inv {pc : Nat} {L : QLoc} {S : List Value} {σ : QHeap} {f : Int32 → Int32 → Int32} {st' : QSt} (h : qbin pc L S σ f = some st') : ∃ x y S', S = .int y :: .int x :: S' ∧ st' = (pc, L, .int (f x y) :: S', σ) := by
 unfold qbin at h
 split at h
 ·cases h; exact ⟨_, _, _, rfl, rfl⟩
 ·cases h
theorem qbino_inv {pc : Nat} {L : QLoc} {S : List Value} {σ : QHeap} {f : Int32 → Int32 → Option Int32} {st' : QSt} (h : qbino pc L S σ f = some st') : ∃ x y z S', S = .int y :: .int x :: S' ∧ f x y = some z ∧ st' = (pc, L, .int z :: S', σ) := by
 unfold qbino at h
 split at h
 ·obtain ⟨z, hz, h⟩ := Option.bind_eq_some_iff.mp h
  cases h; exact ⟨_, _, _, _, rfl, hz, rfl⟩
 ·cases h
theorem qbinJ_inv {pc : Nat} {L : QLoc} {S : List Value} {σ : QHeap} {f : Int64 → Int64 → Int64} {st' : QSt} (h : qbinJ pc L S σ f = some st') : ∃ x y S', S = .long y :: .long x :: S' ∧ st' = (pc, L, .long (f x y) :: S', σ) := by
 unfold qbinJ at h
 split at h
 ·cases h; exact ⟨_, _, _, rfl, rfl⟩
 ·cases h
theorem qshJ_inv {pc : Nat} {L : QLoc} {S : List Value} {σ : QHeap} {f : Int64 → Int32 → Int64} {st' : QSt} (h : qshJ pc L S σ f = some st') : ∃ x y S', S = .int y :: .long x :: S' ∧ st' = (pc, L, .long (f x y) :: S', σ) := by
 unfold qshJ at h
 split at h
 ·cases h; exact ⟨_, _, _, rfl, rfl⟩
 ·cases h
theorem quni_inv {pc : Nat} {L : QLoc} {S : List Value} {σ : QHeap} {f : Int32 → Value} {st' : QSt} (h : quni pc L S σ f = some st') : ∃ x S', S = .int x :: S' ∧ st' = (pc, L, f x :: S', σ) := by
 unfold quni at h
 split at h
 ·cases h; exact ⟨_, _, rfl, rfl⟩
 ·cases h
theorem quniJ_inv {pc : Nat} {L : QLoc} {S : List Value} {σ : QHeap} {f : Int64 → Value} {st' : QSt} (h : quniJ pc L S σ f = some st') : ∃ x S', S = .long x :: S' ∧ st' = (pc, L, f x :: S', σ) := by
 unfold quniJ at h
 split at h
 ·cases h; exact ⟨_, _, rfl, rfl⟩
 ·cases h
theorem qif_inv {pc : Nat} {L : QLoc} {S : List Value} {σ : QHeap} {cd : ClassFile.Cond} {t : Nat} {st' : QSt} (h : qif pc L S σ cd t = some st') : ∃ x S', S = .int x :: S' ∧ st' = (bif ifCond.holds cd x then t else pc, L, S', σ) := by
 unfold qif at h
 split at h
 ·cases h; exact ⟨_, _, rfl, rfl⟩
 ·cases h
theorem qicmp_inv {pc : Nat} {L : QLoc} {S : List Value} {σ : QHeap} {cd : ClassFile.Cond} {t : Nat} {st' : QSt} (h : qicmp pc L S σ cd t = some st') : ∃ x y S', S = .int y :: .int x :: S' ∧ st' = (bif if_icmp.holds cd x y then t else pc, L, S', σ) := by
 unfold qicmp at h
 split at h
 ·cases h; exact ⟨_, _, _, rfl, rfl⟩
 ·cases h
theorem qget_inv {pc : Nat} {L : QLoc} {S : List Value} {σ : QHeap} {k : Nat} {st' : QSt} (h : qget pc L S σ k = some st') : ∃ a S' vs v, S = .ref a :: S' ∧ hget σ a = some (.inl vs) ∧ vget vs k = some v ∧ st' = (pc, L, v :: S', σ) := by
 unfold qget at h
 split at h
 ·split at h
  ·split at h
   ·cases h; exact ⟨_, _, _, _, rfl, by assumption, by assumption, rfl⟩
   ·cases h
  ·cases h
 ·cases h
theorem qput_inv {pc : Nat} {L : QLoc} {S : List Value} {σ : QHeap} {k : Nat} {st' : QSt} (h : qput pc L S σ k = some st') : ∃ v a S' vs w, S = v :: .ref a :: S' ∧ hget σ a = some (.inl vs) ∧ k0 ≤ a ∧ k < vs.length ∧ qfit (fTy k) v = some w ∧ st' = (pc, L, S', σ.set a (.inl (vs.set k w))) := by
 unfold qput at h
 split at h
 ·rename_i v a S'
  split at h
  ·rename_i vs hvs
   cases hbb : (Nat.ble k0 a && Nat.ble (k + 1) vs.length) with
   | false => rw [hbb] at h; cases h
   | true =>
    rw [hbb] at h
    simp only [cond_true] at h
    obtain ⟨u, hu, h⟩ := Option.bind_eq_some_iff.mp h
    cases h
    obtain ⟨b1, b2⟩ := Bool.and_eq_true_iff.mp hbb
    exact ⟨v, a, S', vs, u, rfl, hvs, Nat.le_of_ble_eq_true b1, Nat.le_of_ble_eq_true b2, hu, rfl⟩
  ·cases h
 ·cases h
theorem qald_inv {pc : Nat} {L : QLoc} {S : List Value} {σ : QHeap} {ok : FieldType → Bool} {st' : QSt} (h : qald pc L S σ ok = some st') : ∃ j a S' ty xs v, S = .int j :: .ref a :: S' ∧ hget σ a = some (.inr (.inl (ty, xs))) ∧ ok ty = true ∧ aget xs j = some v ∧ st' = (pc, L, .int v :: S', σ) := by
 unfold qald at h
 split at h
 ·rename_i j a S'
  split at h
  ·rename_i x hx
   cases ht : ok x.1 with
   | false => rw [ht] at h; cases h
   | true =>
    rw [ht] at h
    simp only [cond_true] at h
    obtain ⟨u, hu, h⟩ := Option.bind_eq_some_iff.mp h
    cases h
    exact ⟨j, a, S', x.1, x.2, u, rfl, hx, ht, hu, rfl⟩
  ·cases h
 ·cases h
theorem qaldJ_inv {pc : Nat} {L : QLoc} {S : List Value} {σ : QHeap} {st' : QSt} (h : qaldJ pc L S σ = some st') : ∃ j a S' xs v, S = .int j :: .ref a :: S' ∧ hget σ a = some (.inr (.inr xs)) ∧ aget xs j = some v ∧ st' = (pc, L, .long v :: S', σ) := by
 unfold qaldJ at h
 split at h
 ·rename_i j a S'
  split at h
  ·rename_i x hx
   obtain ⟨u, hu, h⟩ := Option.bind_eq_some_iff.mp h
   cases h
   exact ⟨j, a, S', x, u, rfl, hx, hu, rfl⟩
  ·cases h
 ·cases h
theorem qast_inv {pc : Nat} {L : QLoc} {S : List Value} {σ : QHeap} {ok : FieldType → Bool} {st' : QSt} (h : qast pc L S σ ok = some st') : ∃ v j a S' ty xs ys, S = .int v :: .int j :: .ref a :: S' ∧ hget σ a = some (.inr (.inl (ty, xs))) ∧ ok ty = true ∧ k0 ≤ a ∧ aset xs j (qnar ty v) = some ys ∧ st' = (pc, L, S', σ.set a (.inr (.inl (ty, ys)))) := by
 unfold qast at h
 split at h
 ·rename_i v j a S'
  split at h
  ·rename_i x hx
   cases ht : (ok x.1 && Nat.ble k0 a) with
   | false => rw [ht] at h; cases h
   | true =>
    rw [ht] at h
    simp only [cond_true] at h
    obtain ⟨u, hu, h⟩ := Option.bind_eq_some_iff.mp h
    cases h
    obtain ⟨b1, b2⟩ := Bool.and_eq_true_iff.mp ht
    exact ⟨v, j, a, S', x.1, x.2, u, rfl, hx, b1, Nat.le_of_ble_eq_true b2, hu, rfl⟩
  ·cases h
 ·cases h
theorem qastJ_inv {pc : Nat} {L : QLoc} {S : List Value} {σ : QHeap} {st' : QSt} (h : qastJ pc L S σ = some st') : ∃ v j a S' xs ys, S = .long v :: .int j :: .ref a :: S' ∧ hget σ a = some (.inr (.inr xs)) ∧ k0 ≤ a ∧ aset xs j v = some ys ∧ st' = (pc, L, S', σ.set a (.inr (.inr ys))) := by
 unfold qastJ at h
 split at h
 ·rename_i v j a S'
  split at h
  ·rename_i x hx
   cases ht : (Nat.ble k0 a) with
   | false => rw [ht] at h; cases h
   | true =>
    rw [ht] at h
    simp only [cond_true] at h
    obtain ⟨u, hu, h⟩ := Option.bind_eq_some_iff.mp h
    cases h
    exact ⟨v, j, a, S', x, u, rfl, hx, Nat.le_of_ble_eq_true ht, hu, rfl⟩
  ·cases h
 ·cases h
theorem qlen_inv {pc : Nat} {L : QLoc} {S : List Value} {σ : QHeap} {st' : QSt} (h : qlen pc L S σ = some st') : ∃ a S' n, S = .ref a :: S' ∧ ((∃ ty xs, hget σ a = some (.inr (.inl (ty, xs))) ∧ n = xs.length) ∨ ∃ xs, hget σ a = some (.inr (.inr xs)) ∧ n = xs.length) ∧ st' = (pc, L, .int n.toInt32 :: S', σ) := by
 unfold qlen at h
 split at h
 ·rename_i a S'
  split at h
  ·rename_i x hx
   cases h; exact ⟨a, S', _, rfl, Or.inl ⟨x.1, x.2, hx, rfl⟩, rfl⟩
  ·rename_i x hx
   cases h; exact ⟨a, S', _, rfl, Or.inr ⟨x, hx, rfl⟩, rfl⟩
  ·cases h
 ·cases h
theorem isI_inv {v : Value} (h : isI v = true) : ∃ x, v = .int x := by cases v <;> simp [isI] at h; exact ⟨_, rfl⟩
theorem isJ_inv {v : Value} (h : isJ v = true) : ∃ x, v = .long x := by cases v <;> simp [isJ] at h; exact ⟨_, rfl⟩
theorem isR_inv {v : Value} (h : isR v = true) : ∃ x, v = .ref x := by cases v <;> simp [isR] at h; exact ⟨_, rfl⟩
theorem aget_inv {α : Type} {xs : List α} {j : Int32} {x : α} (h : aget xs j = some x) : ¬ j < 0 ∧ xs[j.toNatClampNeg]? = some x := by
 unfold aget at h
 split at h
 ·cases h
 ·rename_i q; exact ⟨q, h⟩
theorem aset_inv {α : Type} {xs ys : List α} {j : Int32} {x : α} (h : aset xs j x = some ys) : ¬ j < 0 ∧ j.toNatClampNeg < xs.length ∧ ys = xs.set j.toNatClampNeg x := by
 unfold aset at h
 split at h
 ·cases h
 ·rename_i q
  split at h
  ·rename_i q2; cases h; exact ⟨q, q2, rfl⟩
  ·cases h
theorem qnew_inv {n : Int32} {k : Nat} (h : qnew n = some k) : ¬ n < 0 ∧ n.toNatClampNeg = k ∧ k ≤ 67108864 := by
 unfold qnew at h
 split at h
 ·cases h
 ·rename_i q
  split at h
  ·rename_i q2; cases h; exact ⟨q, rfl, q2⟩
  ·cases h
theorem QCellOk.other {h h' : Heap} {a b : Addr} {sl : Nat} {w : Value} {c : QCell} (H : QCellOk Z ad h b c) (W : Wr h h' a sl w) (ne : b ≠ a) : QCellOk Z ad h' b c := by
 rcases c with vs | ⟨ty, xs⟩ | xs
 ·obtain ⟨h1, h2, h3⟩ := H
  exact ⟨h1.wr W, h2, fun k u hk hu => (h3 k u hk hu).other W (Or.inl ne)⟩
 ·obtain ⟨c, h1, h2⟩ := H
  exact ⟨c, h1.other W ne, h2⟩
 ·obtain ⟨c, h1, h2⟩ := H
  exact ⟨c, h1.other W ne, h2⟩
theorem QCellOk.ext {h h' : Heap} {b : Addr} {c : QCell} (H : QCellOk Z ad h b c) (E : Ext h h') : QCellOk Z ad h' b c := by
 rcases c with vs | ⟨ty, xs⟩ | xs
 ·obtain ⟨h1, h2, h3⟩ := H
  exact ⟨h1.ext E, h2, fun k u hk hu => (h3 k u hk hu).ext E⟩
 ·obtain ⟨c, h1, h2⟩ := H
  exact ⟨c, h1.ext E, h2⟩
 ·obtain ⟨c, h1, h2⟩ := H
  exact ⟨c, h1.ext E, h2⟩
theorem QRep.set {h h' : Heap} {σ : QHeap} {a : Nat} {sl : Nat} {w : Value} {c d : QCell} (H : QRep Z n0 ad h σ) (Ad : QAd n0 ad) (W : Wr h h' (ad a) sl w) (hc : hget σ a = some c) (hd : QCellOk Z ad h' (ad a) d) : QRep Z n0 ad h' (σ.set a d) := by
 obtain ⟨h1, h2, h3⟩ := H
 refine ⟨by rw [List.length_set]; exact h1, by rw [W.size, h2]; simp, fun k e he => ?_⟩
 rw [hget_set hc] at he
 split at he
 ·rename_i q; cases he; rw [q]; exact hd
 ·rename_i q; exact (h3 k e he).other W fun z => q (Ad.2 _ _ z)
theorem QRep.push {h h' : Heap} {σ : QHeap} {c : QCell} (H : QRep Z n0 ad h σ) (Ad : QAd n0 ad) (E : Ext h h') (hs : h'.size = h.size + 1) (hc : QCellOk Z ad h' h.size c) : QRep Z n0 ad h' (σ ++ [c]) := by
 obtain ⟨h1, h2, h3⟩ := H
 have h11 := h1.1
 refine ⟨⟨by simp; omega, fun k hk => h1.2 k (by simp at hk; omega)⟩, by rw [hs, h2]; simp; omega, fun k e he => ?_⟩
 rw [hget_eq] at he
 rcases Nat.lt_or_ge k σ.length with q | q
 ·rw [List.getElem?_append_left q, ← hget_eq] at he
  exact (h3 k e he).ext E
 ·rw [List.getElem?_append_right q] at he
  obtain rfl : k = σ.length := by
   rcases Nat.lt_or_ge (k - σ.length) 1 with z | z
   ·omega
   ·rw [List.getElem?_eq_none (by simpa using z)] at he; cases he
  simp at he
  rw [← he, h1.2 _ (Nat.le_refl _), ← h2]
  exact hc
theorem mem_of_contains {α : Type} [BEq α] [LawfulBEq α] {L : List α} {a : α} (h : L.contains a = true) : a ∈ L := by simpa using h
theorem lkF_lt : ∀ t ∈ lkF, t.2.2 < nF := by decide +kernel
theorem laid_of (W : QW Z a0) {k : Nat} (hk : k < nF) : Laid Z a0 cName cName (fNm k) (fDs k) := by
 have q := (qw_lay W) k hk
 cases hf : fFin k with
 | true => rw [hf] at q; exact Or.inr q
 | false => rw [hf] at q; exact Or.inl q
theorem qfit_inv {ty : FieldType} {v w : Value} (h : qfit ty v = some w) : v = w ∧ narrow ty (qv ad w) = qv ad w ∧ fits ty (qv ad w) = true := by
 unfold qfit at h
 split at h
 ·cases h; exact ⟨rfl, rfl, rfl⟩
 ·rename_i x
  obtain ⟨y, hy, h⟩ := Option.bind_eq_some_iff.mp h
  cases h
  unfold qboo at hy
  split at hy
  ·rename_i e; cases hy; subst e; exact ⟨rfl, rfl, rfl⟩
  ·split at hy
   ·rename_i e; cases hy; subst e; exact ⟨rfl, rfl, rfl⟩
   ·cases hy
 ·cases h; exact ⟨rfl, rfl, rfl⟩
 ·cases h; exact ⟨rfl, rfl, rfl⟩
 ·cases h
theorem vget_set {vs : List Value} {k j : Nat} {w : Value} (hk : k < vs.length) : vget (vs.set k w) j = if j = k then some w else vget vs j := by
 simp only [vget_eq, List.getElem?_set]
 by_cases e : k = j
 ·subst e; simp [hk]
 ·simp [e, Ne.symm e]
theorem ald_in {α : Type} {f : α → Value} {xs : List α} {c : Cell} {j : Int32} {x : α} (hc : c.slots = (xs.map f).toArray) (h : aget xs j = some x) : ¬ (j < 0 ∨ c.slots.size ≤ j.toNatClampNeg) ∧ c.slots[j.toNatClampNeg]? = some (f x) := by
 obtain ⟨h1, h2⟩ := aget_inv h
 have h3 := (List.getElem?_eq_some_iff.mp h2).1
 refine ⟨fun q => ?_, by rw [hc]; simp [h2]⟩
 rcases q with q | q
 ·exact h1 q
 ·rw [hc] at q; simp at q; omega
theorem ast_in {α : Type} {f : α → Value} {xs ys : List α} {c : Cell} {j : Int32} {x : α} (hc : c.slots = (xs.map f).toArray) (h : aset xs j x = some ys) : ¬ (j < 0 ∨ c.slots.size ≤ j.toNatClampNeg) ∧ (c.setSlot j.toNatClampNeg (f x)).slots = (ys.map f).toArray := by
 obtain ⟨h1, h2, rfl⟩ := aset_inv h
 refine ⟨fun q => ?_, by simp [Cell.setSlot, hc, List.map_set]⟩
 rcases q with q | q
 ·exact h1 q
 ·rw [hc] at q; simp at q; omega
theorem qgrow {σ : QHeap} {c : QCell} : qhs (σ ++ [c]) - qhs σ = qsz c := by rw [qhs_app]; simp [qhs]
set_option maxHeartbeats 4000000 in
theorem QTri.newArr (Ad : QAd n0 ad) (W : QW Z a0) {pc aux : Nat} {L : QLoc} {S : List Value} {σ : QHeap} {aty : ArrayType} {n : Int32} {k : Nat} {c : QCell} (hk : qnew n = some k) (hc : pCode m pc = some (.newarray aty, aux)) (hz : qsz c = k)
  (hq : ∀ (h' : Heap) (a : Addr) (cA : ClassId), Arr Z h' a (newA cA (newarray.typeOf aty) n) (newarray.typeOf aty) → QCellOk Z ad h' a c)
  (h : QTri l Z n0 ad m (pc + 2, L, .ref σ.length :: S, σ ++ [c]) v σ') : QTri l Z n0 ad m (pc, L, .int n :: S, σ) v σ' := by
 have hd : decode (pBytes m) pc = .ok (.newarray aty, 2) := pDecN hc rfl
 obtain ⟨n1, n2, n3⟩ := qnew_inv hk
 refine QTri.gen h (by simp) (by simp [qhs_app]) fun p e R s mid args below meth c' T locs cells slots C hcx X hR hF hL hC hn hc1 hsl => ?_
 obtain ⟨hx, hZ, hby, hml, hret, hown, hnm, hfr, hlo⟩ := hcx
 have hd2 : decode c'.code pc = .ok (.newarray aty, 2) := by rw [hby]; exact hd
 simp only [List.length_append, List.length_singleton, Nat.add_sub_cancel_left, qgrow, hz] at hc1 hsl ⊢
 obtain ⟨T₁, h₁, cA, X₁, e₁, E₁, A₁, st⟩ := newP X hx hZ (aty := aty) (qw_arr W (newarray.typeOf aty) (mem_of_contains (show aTys.contains (newarray.typeOf aty) = true from pRest hc))) rfl (g := mkF mid pc C (.int n :: S.map (qv ad))) rfl hd2 rfl n1 (cap := k) (by omega) (by omega) hc1 hsl
 have hsz : h₁.size = T.heap.size + 1 := by
  have q1 := X₁.heapSize
  have q2 : T.heap.size < h₁.size := A₁.lt
  have q3 := hR.2.1
  rw [e₁] at q1
  have : n0 + (σ.length - k0) = s.heap.size + cells := hn
  have q3' : T.heap.size = n0 + (σ.length - k0) := q3
  omega
 refine ⟨T₁, locs, C, X₁, ?_, hF, hL, hC, fun target q => ?_⟩
 ·rw [e₁]; exact QRep.push hR Ad E₁ hsz (hq _ _ _ A₁)
 ·refine st _ ?_
  have e2 : ad σ.length = T.heap.size := by rw [hR.1.2 _ (Nat.le_refl _)]; exact hR.2.1.symm
  simp only [List.map_cons, qv, e2] at q
  exact q
set_option maxHeartbeats 4000000 in
theorem QTri.getfield (W : QW Z a0) {pc idx aux : Nat} {L : QLoc} {S : List Value} {σ : QHeap} {st' : QSt} (h : QTri l Z n0 ad m st' v σ') (hc : pCode m pc = some (.getfield idx, aux)) (hs : qget (pc + 3) L S σ aux = some st') : QTri l Z n0 ad m (pc, L, S, σ) v σ' := by
 have hd : decode (pBytes m) pc = .ok (.getfield idx, 3) := pDecN hc rfl
 obtain ⟨a, S', vs, w, rfl, hvs, hw, rfl⟩ := qget_inv hs
 have hm := mem_of_contains (show lkF.contains (pK m, idx, aux) = true from pRest hc)
 have hlt := lkF_lt _ hm
 refine QTri.pure h rfl fun p e R s mid args below meth c T locs cells slots C hcx X hR hL hC => ?_
 obtain ⟨hx, hZ, hby, hml, hret, hown, hnm, hfr, hlo⟩ := hcx
 have hd2 : decode c.code pc = .ok (.getfield idx, 3) := by rw [hby]; exact hd
 have F := (hR.2.2 _ _ hvs).2.2 aux w hlt hw
 obtain ⟨T₁, X₁, e₁, st⟩ := getF X hx hZ hown (host := "") (index := idx) (Or.inl (qw_fl W (pK m, idx, aux) hm)) Via.refl rfl F (g := mkF mid pc C (List.map (qv ad) (.ref a :: S'))) rfl rfl hd2
 exact ⟨T₁, C, X₁, e₁, hL, hC, st⟩
set_option maxHeartbeats 4000000 in
theorem QTri.putfield (Ad : QAd n0 ad) (W : QW Z a0) {pc idx aux : Nat} {L : QLoc} {S : List Value} {σ : QHeap} {st' : QSt} (h : QTri l Z n0 ad m st' v σ') (hc : pCode m pc = some (.putfield idx, aux)) (hs : qput (pc + 3) L S σ aux = some st') : QTri l Z n0 ad m (pc, L, S, σ) v σ' := by
 have hd : decode (pBytes m) pc = .ok (.putfield idx, 3) := pDecN hc rfl
 obtain ⟨w, a, S', vs, u, rfl, hvs, b1, b2, hu, rfl⟩ := qput_inv hs
 obtain ⟨r1, r2⟩ := Bool.and_eq_true_iff.mp (show (lkF.contains (pK m, idx, aux) && (!fFin aux || (pK m == 1 && pNm m == "<init>"))) = true from pRest hc)
 have hm := mem_of_contains r1
 have hlt := lkF_lt _ hm
 obtain ⟨rfl, q2, q3⟩ := qfit_inv (ad := ad) hu
 have hsz : qhs (σ.set a (Sum.inl (vs.set aux w))) = qhs σ := qhs_set hvs rfl
 refine QTri.gen h (by simp) (by show qhs σ ≤ qhs (σ.set a (Sum.inl (vs.set aux w))); rw [hsz]; exact Nat.le_refl _) fun p e R s mid args below meth c T locs cells slots C hcx X hR hF hL hC hn hc1 hsl => ?_
 obtain ⟨hx, hZ, hby, hml, hret, hown, hnm, hfr, hlo⟩ := hcx
 have hd2 : decode c.code pc = .ok (.putfield idx, 3) := by rw [hby]; exact hd
 obtain ⟨E, l1, Fs⟩ := hR.2.2 _ _ hvs
 obtain ⟨old, hold⟩ : ∃ old, vget vs aux = some old := by rw [vget_eq]; exact ⟨_, List.getElem?_eq_getElem b2⟩
 have lay : (Cond.lays cName cName (fNm aux) (fDs aux)).before a0 Z = true ∨ ((Cond.laysFinal cName cName (fNm aux) (fDs aux)).before a0 Z = true ∧ kName (pK m) = cName ∧ meth.name = "<init>") := by
  have q := (qw_lay W) aux hlt
  cases hf : fFin aux with
  | false => rw [hf] at q; exact Or.inl q
  | true =>
   rw [hf] at q r2
   simp at r2
   exact Or.inr ⟨q, by rw [r2.1]; exact kOne, by rw [hnm]; exact r2.2⟩
 obtain ⟨T₁, h₁, X₁, e₁, W₁, st⟩ := putF X hx hZ hown (host := "") (index := idx) (Or.inl (qw_fl W (pK m, idx, aux) hm)) Via.refl rfl (Fs aux old hlt hold) E lay ((qw_inst W)) (fPrs aux hlt) q2 q3 (g := mkF mid pc C (List.map (qv ad) (w :: .ref a :: S'))) rfl rfl hd2
 refine ⟨T₁, _, C, ?_, ?_, Fr.snoc X₁ hF (Ad.1 a b1), hL, hC, st⟩
 ·show Stand _ _ _ _ _ _ _ _ _ _ _ _ (cells + ((σ.set a (Sum.inl (vs.set aux w))).length - σ.length)) (slots + (qhs (σ.set a (Sum.inl (vs.set aux w))) - qhs σ))
  rw [hsz, Nat.sub_self, List.length_set, Nat.sub_self]
  exact X₁
 ·rw [e₁]
  refine QRep.set hR Ad W₁ hvs ⟨E.wr W₁, by simpa using l1, fun k u hk hu => ?_⟩
  rw [vget_set b2] at hu
  split at hu
  ·rename_i e; cases hu; rw [e]; exact (Fs aux old hlt hold).same W₁
  ·rename_i ne
   exact (Fs k u hk hu).other W₁ (Or.inr (slot_ne (laid_of W hk) (laid_of W hlt) (fun z => ne (fInj _ hk _ hlt z)) (fPrs _ hk) (fPrs _ hlt)))
theorem tyI_inv {ty : FieldType} (h : tyI ty = true) : ty = .int := by cases ty <;> simp [tyI] at h; rfl
theorem tyB_inv {ty : FieldType} (h : tyB ty = true) : ty = .boolean ∨ ty = .byte := by cases ty <;> simp [tyB] at h <;> simp
set_option maxHeartbeats 4000000 in
theorem QTri.iaload {pc aux : Nat} {L : QLoc} {S : List Value} {σ : QHeap} {st' : QSt} (h : QTri l Z n0 ad m st' v σ') (hc : pCode m pc = some (.iaload, aux)) (hs : qald (pc + 1) L S σ tyI = some st') : QTri l Z n0 ad m (pc, L, S, σ) v σ' := by
 have hd : decode (pBytes m) pc = .ok (.iaload, 1) := pDecN hc rfl
 obtain ⟨j, a, S', ty, xs, w, rfl, hx1, ht, hw, rfl⟩ := qald_inv hs
 obtain rfl := tyI_inv ht
 refine QTri.stack h fun p e R s mid args below meth c T locs cells slots C target hx hZ hby hown X hR hL k => ?_
 have hd2 : decode c.code pc = .ok (.iaload, 1) := by rw [hby]; exact hd
 obtain ⟨cl, A, hsl⟩ := hR.2.2 _ _ hx1
 obtain ⟨i1, i2⟩ := ald_in hsl hw
 exact X.iaload hx A.1 (State.isArrayOf_alike hZ.alike A.2.1) A.2.2 i1 i2 (g := mkF mid pc C (List.map (qv ad) (.int j :: .ref a :: S'))) rfl rfl hd2 _ k
set_option maxHeartbeats 4000000 in
theorem QTri.baload {pc aux : Nat} {L : QLoc} {S : List Value} {σ : QHeap} {st' : QSt} (h : QTri l Z n0 ad m st' v σ') (hc : pCode m pc = some (.baload, aux)) (hs : qald (pc + 1) L S σ tyB = some st') : QTri l Z n0 ad m (pc, L, S, σ) v σ' := by
 have hd : decode (pBytes m) pc = .ok (.baload, 1) := pDecN hc rfl
 obtain ⟨j, a, S', ty, xs, w, rfl, hx1, ht, hw, rfl⟩ := qald_inv hs
 refine QTri.stack h fun p e R s mid args below meth c T locs cells slots C target hx hZ hby hown X hR hL k => ?_
 have hd2 : decode c.code pc = .ok (.baload, 1) := by rw [hby]; exact hd
 obtain ⟨cl, A, hsl⟩ := hR.2.2 _ _ hx1
 obtain ⟨i1, i2⟩ := ald_in hsl hw
 rcases tyB_inv ht with rfl | rfl
 ·exact X.baloadBooleans hx A.1 (State.isArrayOf_alike hZ.alike A.2.1) A.2.2 i1 i2 (g := mkF mid pc C (List.map (qv ad) (.int j :: .ref a :: S'))) rfl rfl hd2 _ k
 ·exact X.baloadBytes hx A.1 (State.isArrayOf_alike hZ.alike A.2.1) A.2.2 i1 i2 (g := mkF mid pc C (List.map (qv ad) (.int j :: .ref a :: S'))) rfl rfl hd2 _ k
set_option maxHeartbeats 4000000 in
theorem QTri.laload {pc aux : Nat} {L : QLoc} {S : List Value} {σ : QHeap} {st' : QSt} (h : QTri l Z n0 ad m st' v σ') (hc : pCode m pc = some (.laload, aux)) (hs : qaldJ (pc + 1) L S σ = some st') : QTri l Z n0 ad m (pc, L, S, σ) v σ' := by
 have hd : decode (pBytes m) pc = .ok (.laload, 1) := pDecN hc rfl
 obtain ⟨j, a, S', xs, w, rfl, hx1, hw, rfl⟩ := qaldJ_inv hs
 refine QTri.stack h fun p e R s mid args below meth c T locs cells slots C target hx hZ hby hown X hR hL k => ?_
 have hd2 : decode c.code pc = .ok (.laload, 1) := by rw [hby]; exact hd
 obtain ⟨cl, A, hsl⟩ := hR.2.2 _ _ hx1
 obtain ⟨i1, i2⟩ := ald_in hsl hw
 exact X.laload hx A.1 (State.isArrayOf_alike hZ.alike A.2.1) A.2.2 i1 i2 (g := mkF mid pc C (List.map (qv ad) (.int j :: .ref a :: S'))) rfl rfl hd2 _ k
theorem QTri.stored (Ad : QAd n0 ad) {pc : Nat} {L : QLoc} {S S' : List Value} {σ : QHeap} {a j : Nat} {w : Value} {c d : QCell} (hx1 : hget σ a = some c) (b1 : k0 ≤ a) (hz : qsz d = qsz c) (h : QTri l Z n0 ad m (pc + 1, L, S', σ.set a d) v σ')
  (hs : ∀ (p : Program) (e : Env) (R : Room) (s : State) (mid : MethodId) (args : Array Value) (below : List Frame) (meth : Method) (c : Code) (T : State) (locs : List Loc) (cells slots : Nat) (C : Array Slot),
   QCx Z p R s mid meth c m → Stand p l e R s mid args below meth c T locs cells slots → QRep Z n0 ad T.heap σ →
   ∃ T' h', Stand p l e R s mid args below meth c T' (locs ++ [⟨ad a, j⟩]) cells slots ∧ T'.heap = h' ∧ Wr T.heap h' (ad a) j w ∧ QCellOk Z ad h' (ad a) d ∧ ∀ target, Steps p.tables e below (T'.setTop (mkF mid (pc + 1) C (S'.map (qv ad)))) target → Steps p.tables e below (T.setTop (mkF mid pc C (S.map (qv ad)))) target) :
  QTri l Z n0 ad m (pc, L, S, σ) v σ' := by
 have hsz : qhs (σ.set a d) = qhs σ := qhs_set hx1 hz
 refine QTri.gen h (by simp) (by show qhs σ ≤ qhs (σ.set a d); rw [hsz]; exact Nat.le_refl _) fun p e R s mid args below meth c T locs cells slots C hcx X hR hF hL hC hn hc1 hsl => ?_
 obtain ⟨T₁, h₁, X₁, e₁, W₁, Q₁, st⟩ := hs p e R s mid args below meth c T locs cells slots C hcx X hR
 refine ⟨T₁, _, C, ?_, ?_, Fr.snoc X₁ hF (Ad.1 a b1), hL, hC, st⟩
 ·show Stand _ _ _ _ _ _ _ _ _ _ _ _ (cells + ((σ.set a d).length - σ.length)) (slots + (qhs (σ.set a d) - qhs σ))
  rw [hsz, Nat.sub_self, List.length_set, Nat.sub_self]
  exact X₁
 ·rw [e₁]
  exact QRep.set hR Ad W₁ hx1 Q₁
set_option maxHeartbeats 4000000 in
theorem QTri.iastore (Ad : QAd n0 ad) {pc aux : Nat} {L : QLoc} {S : List Value} {σ : QHeap} {st' : QSt} (h : QTri l Z n0 ad m st' v σ') (hc : pCode m pc = some (.iastore, aux)) (hs : qast (pc + 1) L S σ tyI = some st') : QTri l Z n0 ad m (pc, L, S, σ) v σ' := by
 have hd : decode (pBytes m) pc = .ok (.iastore, 1) := pDecN hc rfl
 obtain ⟨w, j, a, S', ty, xs, ys, rfl, hx1, ht, b1, hw, rfl⟩ := qast_inv hs
 obtain rfl := tyI_inv ht
 refine QTri.stored Ad (j := j.toNatClampNeg) (w := .int w) hx1 b1 (by rw [(aset_inv hw).2.2]; simp [qsz]) h fun p e R s mid args below meth c T locs cells slots C hcx X hR => ?_
 have hd2 : decode c.code pc = .ok (.iastore, 1) := by rw [hcx.2.2.1]; exact hd
 obtain ⟨cl, A, hsl⟩ := hR.2.2 _ _ hx1
 obtain ⟨i1, i2⟩ := ast_in hsl hw
 obtain ⟨T₁, h₁, X₁, e₁, W₁, st⟩ := stI X hcx.1 hcx.2.1 rfl A i1 (g := mkF mid pc C (List.map (qv ad) (.int w :: .int j :: .ref a :: S'))) rfl rfl hd2
 exact ⟨T₁, h₁, X₁, e₁, W₁, ⟨_, A.same W₁, i2⟩, st⟩
set_option maxHeartbeats 4000000 in
theorem QTri.bastore (Ad : QAd n0 ad) {pc aux : Nat} {L : QLoc} {S : List Value} {σ : QHeap} {st' : QSt} (h : QTri l Z n0 ad m st' v σ') (hc : pCode m pc = some (.bastore, aux)) (hs : qast (pc + 1) L S σ tyB = some st') : QTri l Z n0 ad m (pc, L, S, σ) v σ' := by
 have hd : decode (pBytes m) pc = .ok (.bastore, 1) := pDecN hc rfl
 obtain ⟨w, j, a, S', ty, xs, ys, rfl, hx1, ht, b1, hw, rfl⟩ := qast_inv hs
 refine QTri.stored Ad (j := j.toNatClampNeg) (w := .int (qnar ty w)) hx1 b1 (by rw [(aset_inv hw).2.2]; simp [qsz]) h fun p e R s mid args below meth c T locs cells slots C hcx X hR => ?_
 have hd2 : decode c.code pc = .ok (.bastore, 1) := by rw [hcx.2.2.1]; exact hd
 obtain ⟨cl, A, hsl⟩ := hR.2.2 _ _ hx1
 obtain ⟨i1, i2⟩ := ast_in hsl hw
 rcases tyB_inv ht with rfl | rfl
 ·obtain ⟨T₁, h₁, X₁, e₁, W₁, st⟩ := stZ X hcx.1 hcx.2.1 rfl A i1 (g := mkF mid pc C (List.map (qv ad) (.int w :: .int j :: .ref a :: S'))) rfl rfl hd2
  exact ⟨T₁, h₁, X₁, e₁, W₁, ⟨_, A.same W₁, i2⟩, st⟩
 ·obtain ⟨T₁, h₁, X₁, e₁, W₁, st⟩ := stB X hcx.1 hcx.2.1 rfl A i1 (g := mkF mid pc C (List.map (qv ad) (.int w :: .int j :: .ref a :: S'))) rfl rfl hd2
  exact ⟨T₁, h₁, X₁, e₁, W₁, ⟨_, A.same W₁, i2⟩, st⟩
set_option maxHeartbeats 4000000 in
theorem QTri.lastore (Ad : QAd n0 ad) {pc aux : Nat} {L : QLoc} {S : List Value} {σ : QHeap} {st' : QSt} (h : QTri l Z n0 ad m st' v σ') (hc : pCode m pc = some (.lastore, aux)) (hs : qastJ (pc + 1) L S σ = some st') : QTri l Z n0 ad m (pc, L, S, σ) v σ' := by
 have hd : decode (pBytes m) pc = .ok (.lastore, 1) := pDecN hc rfl
 obtain ⟨w, j, a, S', xs, ys, rfl, hx1, b1, hw, rfl⟩ := qastJ_inv hs
 refine QTri.stored Ad (j := j.toNatClampNeg) (w := .long w) hx1 b1 (by rw [(aset_inv hw).2.2]; simp [qsz]) h fun p e R s mid args below meth c T locs cells slots C hcx X hR => ?_
 have hd2 : decode c.code pc = .ok (.lastore, 1) := by rw [hcx.2.2.1]; exact hd
 obtain ⟨cl, A, hsl⟩ := hR.2.2 _ _ hx1
 obtain ⟨i1, i2⟩ := ast_in hsl hw
 obtain ⟨T₁, h₁, X₁, e₁, W₁, st⟩ := stJ X hcx.1 hcx.2.1 rfl A i1 (g := mkF mid pc C (List.map (qv ad) (.long w :: .int j :: .ref a :: S'))) rfl rfl hd2
 exact ⟨T₁, h₁, X₁, e₁, W₁, ⟨_, A.same W₁, i2⟩, st⟩
set_option maxHeartbeats 4000000 in
theorem QTri.alen {pc aux : Nat} {L : QLoc} {S : List Value} {σ : QHeap} {st' : QSt} (h : QTri l Z n0 ad m st' v σ') (hc : pCode m pc = some (.arraylength, aux)) (hs : qlen (pc + 1) L S σ = some st') : QTri l Z n0 ad m (pc, L, S, σ) v σ' := by
 have hd : decode (pBytes m) pc = .ok (.arraylength, 1) := pDecN hc rfl
 obtain ⟨a, S', n, rfl, hx1, rfl⟩ := qlen_inv hs
 refine QTri.stack h fun p e R s mid args below meth c T locs cells slots C target hx hZ hby hown X hR hL k => ?_
 have hd2 : decode c.code pc = .ok (.arraylength, 1) := by rw [hby]; exact hd
 rcases hx1 with ⟨ty, xs, hx1, rfl⟩ | ⟨xs, hx1, rfl⟩
 ·obtain ⟨cl, A, hsl⟩ := hR.2.2 _ _ hx1
  have e1 : cl.slots.size = xs.length := by rw [hsl]; simp
  rw [← e1] at k
  exact X.arraylength hx A.1 (State.isArrayOf_alike hZ.alike A.2.1) (g := mkF mid pc C (List.map (qv ad) (.ref a :: S'))) rfl rfl hd2 _ k
 ·obtain ⟨cl, A, hsl⟩ := hR.2.2 _ _ hx1
  have e1 : cl.slots.size = xs.length := by rw [hsl]; simp
  rw [← e1] at k
  exact X.arraylength hx A.1 (State.isArrayOf_alike hZ.alike A.2.1) (g := mkF mid pc C (List.map (qv ad) (.ref a :: S'))) rfl rfl hd2 _ k
set_option maxHeartbeats 4000000 in
theorem QTri.newObj (Ad : QAd n0 ad) (W : QW Z a0) {pc idx aux : Nat} {L : QLoc} {S : List Value} {σ : QHeap} (h : QTri l Z n0 ad m (pc + 3, L, .ref σ.length :: S, σ ++ [.inl cDef]) v σ') (hc : pCode m pc = some (.new idx, aux)) : QTri l Z n0 ad m (pc, L, S, σ) v σ' := by
 have hd : decode (pBytes m) pc = .ok (.new idx, 3) := pDecN hc rfl
 have hm := mem_of_contains (show lkN.contains (pK m, idx) = true from pRest hc)
 refine QTri.gen h (by simp) (by simp [qhs_app]) fun p e R s mid args below meth c T locs cells slots C hcx X hR hF hL hC hn hc1 hsl => ?_
 obtain ⟨hx, hZ, hby, hml, hret, hown, hnm, hfr, hlo⟩ := hcx
 have hd2 : decode c.code pc = .ok (.new idx, 3) := by rw [hby]; exact hd
 simp only [List.length_append, List.length_singleton, Nat.add_sub_cancel_left, qgrow, qsz] at hc1 hsl ⊢
 obtain ⟨T₁, h₁, X₁, e₁, E₁, A₁, D₁, -, st⟩ := newO X hx hZ hown (index := idx) (qw_nw W (pK m, idx) hm) ((qw_inst W)) ((qw_init W)) rfl (g := mkF mid pc C (S.map (qv ad))) rfl hd2 hc1 hsl
 have hsz : h₁.size = T.heap.size + 1 := by
  have q1 := X₁.heapSize
  have q2 : T.heap.size < h₁.size := A₁.lt
  have q3 : T.heap.size = n0 + (σ.length - k0) := hR.2.1
  rw [e₁] at q1
  have : n0 + (σ.length - k0) = s.heap.size + cells := hn
  omega
 refine ⟨T₁, locs, C, X₁, ?_, hF, hL, hC, fun target q => ?_⟩
 ·rw [e₁]
  refine QRep.push hR Ad E₁ hsz ⟨A₁, cDefL, fun k u hk hu => ?_⟩
  rw [cDefs k hk] at hu
  cases hu
  have e3 : qv ad (defaultValue (fTy k)) = defaultValue (fTy k) := by
   cases hq : defaultValue (fTy k) with
   | ref a => exact absurd hq (fDef k hk a)
   | _ => rfl
  rw [e3]
  exact D₁ (laid_of W hk) (fPrs k hk)
 ·refine st _ ?_
  have e2 : ad σ.length = T.heap.size := by rw [hR.1.2 _ (Nat.le_refl _)]; exact hR.2.1.symm
  simp only [List.map_cons, qv, e2] at q
  exact q
set_option maxHeartbeats 8000000 in
theorem QTri.step (Ad : QAd n0 ad) (W : QW Z a0) {st st' : QSt} (h : QTri l Z n0 ad m st' v σ') (hs : qstep m st = some st') : QTri l Z n0 ad m st v σ' := by
 obtain ⟨pc, L, S, σ⟩ := st
 unfold qstep at hs
 dsimp only at hs
 split at hs
 rotate_left
 ·cases hs
 rename_i i aux hc
 have hd := pDecN hc rfl
 have hr := pRest hc
 unfold qexec at hs
 split at hs
 ·-- aload_n
  obtain ⟨w, h1, h2, rfl⟩ := qload_inv hs
  obtain ⟨a, rfl⟩ := isR_inv h2
  exact QTri.stack h fun p e R s mid args below meth c T locs cells slots C target hx hZ hby hown X hR hL k => XS.aloadN X.here hx rfl (hb hby hd) (hL.2.1 _ _ h1) rfl k
 ·obtain ⟨w, h1, h2, rfl⟩ := qload_inv hs
  obtain ⟨a, rfl⟩ := isR_inv h2
  exact QTri.stack h fun p e R s mid args below meth c T locs cells slots C target hx hZ hby hown X hR hL k => XS.aload X.here hx rfl (hb hby hd) (hL.2.1 _ _ h1) rfl k
 ·obtain ⟨w, h1, h2, rfl⟩ := qload_inv hs
  obtain ⟨a, rfl⟩ := isI_inv h2
  exact QTri.stack h fun p e R s mid args below meth c T locs cells slots C target hx hZ hby hown X hR hL k => XS.iloadN X.here hx rfl (hb hby hd) (hL.2.1 _ _ h1) k
 ·obtain ⟨w, h1, h2, rfl⟩ := qload_inv hs
  obtain ⟨a, rfl⟩ := isI_inv h2
  exact QTri.stack h fun p e R s mid args below meth c T locs cells slots C target hx hZ hby hown X hR hL k => XS.iload X.here hx rfl (hb hby hd) (hL.2.1 _ _ h1) k
 ·obtain ⟨w, h1, h2, rfl⟩ := qload_inv hs
  obtain ⟨a, rfl⟩ := isJ_inv h2
  exact QTri.stack h fun p e R s mid args below meth c T locs cells slots C target hx hZ hby hown X hR hL k => XT.lloadN X.here hx rfl (hb hby hd) (hL.2.1 _ _ h1) k
 ·obtain ⟨w, h1, h2, rfl⟩ := qload_inv hs
  obtain ⟨a, rfl⟩ := isJ_inv h2
  exact QTri.stack h fun p e R s mid args below meth c T locs cells slots C target hx hZ hby hown X hR hL k => XT.lload X.here hx rfl (hb hby hd) (hL.2.1 _ _ h1) k
 ·cases hs -- iconst
  exact QTri.stack h fun p e R s mid args below meth c T locs cells slots C target hx hZ hby hown X hR hL k => XS.iconst X.here hx rfl (hb hby hd) k
 ·cases hs
  exact QTri.stack h fun p e R s mid args below meth c T locs cells slots C target hx hZ hby hown X hR hL k => XS.bipush X.here hx rfl (hb hby hd) k
 ·cases hs
  exact QTri.stack h fun p e R s mid args below meth c T locs cells slots C target hx hZ hby hown X hR hL k => XS.sipush X.here hx rfl (hb hby hd) k
 ·cases hs
  exact QTri.stack h fun p e R s mid args below meth c T locs cells slots C target hx hZ hby hown X hR hL k => XT.lconst X.here hx rfl (hb hby hd) k
 ·-- ldc
  unfold qldc at hs
  split at hs
  ·rename_i w hw
   cases hs
   obtain ⟨x, hx1, hx2⟩ := qw_cI W (pK m, _, aux) (mem_of_contains (show lkC.contains (pK m, _, aux) = true from hr))
   rw [show vget cK aux = some w from hw] at hx1
   cases hx1
   exact QTri.stack h fun p e R s mid args below meth c T locs cells slots C target hx hZ hby hown X hR hL k => X.ldcI hx hown (mv hZ hx2) rfl (hb hby hd) k
  ·cases hs
 ·unfold qldc at hs
  split at hs
  ·rename_i w hw
   cases hs
   obtain ⟨x, hx1, hx2⟩ := qw_cJ W (pK m, _, aux) (mem_of_contains (show lkD.contains (pK m, _, aux) = true from hr))
   rw [show vget cK aux = some w from hw] at hx1
   cases hx1
   exact QTri.stack h fun p e R s mid args below meth c T locs cells slots C target hx hZ hby hown X hR hL k => X.ldc2J hx hown (mv hZ hx2) rfl (hb hby hd) k
  ·cases hs
 ·-- istore_n
  obtain ⟨w, S', L', rfl, h2, h3, rfl⟩ := qstore_inv hs
  obtain ⟨a, rfl⟩ := isI_inv h2
  exact QTri.frame h fun p e R s mid args below meth c T locs cells slots C hcx X hR hL hC => by
   obtain ⟨D, d1, d2, d3⟩ := store_ok hL h3
   exact ⟨D, d2, d3.trans hC, fun target k => XS.istoreN X.here hcx.1 rfl (hb hcx.2.2.1 hd) rfl d1 k⟩
 ·obtain ⟨w, S', L', rfl, h2, h3, rfl⟩ := qstore_inv hs
  obtain ⟨a, rfl⟩ := isI_inv h2
  exact QTri.frame h fun p e R s mid args below meth c T locs cells slots C hcx X hR hL hC => by
   obtain ⟨D, d1, d2, d3⟩ := store_ok hL h3
   exact ⟨D, d2, d3.trans hC, fun target k => XS.istore X.here hcx.1 rfl (hb hcx.2.2.1 hd) rfl d1 k⟩
 ·obtain ⟨w, S', L', rfl, h2, h3, rfl⟩ := qstore_inv hs
  obtain ⟨a, rfl⟩ := isJ_inv h2
  exact QTri.frame h fun p e R s mid args below meth c T locs cells slots C hcx X hR hL hC => by
   obtain ⟨D, d1, d2, d3⟩ := store_ok hL h3
   exact ⟨D, d2, d3.trans hC, fun target k => XT.lstoreN X.here hcx.1 rfl (hb hcx.2.2.1 hd) rfl d1 k⟩
 ·obtain ⟨w, S', L', rfl, h2, h3, rfl⟩ := qstore_inv hs
  obtain ⟨a, rfl⟩ := isJ_inv h2
  exact QTri.frame h fun p e R s mid args below meth c T locs cells slots C hcx X hR hL hC => by
   obtain ⟨D, d1, d2, d3⟩ := store_ok hL h3
   exact ⟨D, d2, d3.trans hC, fun target k => XT.lstore X.here hcx.1 rfl (hb hcx.2.2.1 hd) rfl d1 k⟩
 ·obtain ⟨w, S', L', rfl, h2, h3, rfl⟩ := qstore_inv hs
  obtain ⟨a, rfl⟩ := isR_inv h2
  exact QTri.frame h fun p e R s mid args below meth c T locs cells slots C hcx X hR hL hC => by
   obtain ⟨D, d1, d2, d3⟩ := store_ok hL h3
   exact ⟨D, d2, d3.trans hC, fun target k => XS.astoreN X.here hcx.1 rfl (hb hcx.2.2.1 hd) rfl rfl d1 k⟩
 ·obtain ⟨w, S', L', rfl, h2, h3, rfl⟩ := qstore_inv hs
  obtain ⟨a, rfl⟩ := isR_inv h2
  exact QTri.frame h fun p e R s mid args below meth c T locs cells slots C hcx X hR hL hC => by
   obtain ⟨D, d1, d2, d3⟩ := store_ok hL h3
   exact ⟨D, d2, d3.trans hC, fun target k => XS.astore X.here hcx.1 rfl (hb hcx.2.2.1 hd) rfl rfl d1 k⟩
 ·-- iinc
  unfold qinc at hs
  split at hs
  ·rename_i x hx1
   split at hs
   ·rename_i L' hL'
    cases hs
    exact QTri.frame h fun p e R s mid args below meth c T locs cells slots C hcx X hR hL hC => by
     obtain ⟨D, d1, d2, d3⟩ := store_ok hL hL'
     exact ⟨D, d2, d3.trans hC, fun target k => XS.iinc X.here hcx.1 rfl (hb hcx.2.2.1 hd) (hL.2.1 _ _ hx1) d1 k⟩
   ·cases hs
  ·cases hs
 ·obtain ⟨x, y, S', rfl, rfl⟩ := qbin_inv hs -- iadd
  exact QTri.stack h fun p e R s mid args below meth c T locs cells slots C target hx hZ hby hown X hR hL k => XS.iadd X.here hx rfl (hb hby hd) rfl k
 ·obtain ⟨x, y, S', rfl, rfl⟩ := qbin_inv hs
  exact QTri.stack h fun p e R s mid args below meth c T locs cells slots C target hx hZ hby hown X hR hL k => XS.isub X.here hx rfl (hb hby hd) rfl k
 ·obtain ⟨x, y, S', rfl, rfl⟩ := qbin_inv hs
  exact QTri.stack h fun p e R s mid args below meth c T locs cells slots C target hx hZ hby hown X hR hL k => XS.imul X.here hx rfl (hb hby hd) rfl k
 ·obtain ⟨x, y, S', rfl, rfl⟩ := qbin_inv hs
  exact QTri.stack h fun p e R s mid args below meth c T locs cells slots C target hx hZ hby hown X hR hL k => XS.iand X.here hx rfl (hb hby hd) rfl k
 ·obtain ⟨x, y, S', rfl, rfl⟩ := qbin_inv hs
  exact QTri.stack h fun p e R s mid args below meth c T locs cells slots C target hx hZ hby hown X hR hL k => XT.ior X.here hx rfl (hb hby hd) rfl k
 ·obtain ⟨x, y, S', rfl, rfl⟩ := qbin_inv hs
  exact QTri.stack h fun p e R s mid args below meth c T locs cells slots C target hx hZ hby hown X hR hL k => XT.ixor X.here hx rfl (hb hby hd) rfl k
 ·obtain ⟨x, y, S', rfl, rfl⟩ := qbin_inv hs
  exact QTri.stack h fun p e R s mid args below meth c T locs cells slots C target hx hZ hby hown X hR hL k => XT.ishl X.here hx rfl (hb hby hd) rfl k
 ·obtain ⟨x, y, S', rfl, rfl⟩ := qbin_inv hs
  exact QTri.stack h fun p e R s mid args below meth c T locs cells slots C target hx hZ hby hown X hR hL k => XT.ishr X.here hx rfl (hb hby hd) rfl k
 ·obtain ⟨x, y, S', rfl, rfl⟩ := qbin_inv hs
  exact QTri.stack h fun p e R s mid args below meth c T locs cells slots C target hx hZ hby hown X hR hL k => XT.iushr X.here hx rfl (hb hby hd) rfl k
 ·obtain ⟨x, y, z, S', rfl, hz, rfl⟩ := qbino_inv hs -- idiv
  unfold qdiv at hz
  split at hz
  ·cases hz
  ·rename_i hy
   cases hz
   exact QTri.stack h fun p e R s mid args below meth c T locs cells slots C target hx hZ hby hown X hR hL k => XS.idiv X.here hx rfl (hb hby hd) rfl hy k
 ·obtain ⟨x, y, z, S', rfl, hz, rfl⟩ := qbino_inv hs
  unfold qrem at hz
  split at hz
  ·cases hz
  ·rename_i hy
   cases hz
   exact QTri.stack h fun p e R s mid args below meth c T locs cells slots C target hx hZ hby hown X hR hL k => iremM X hx rfl (hb hby hd) rfl hy k
 ·obtain ⟨x, S', rfl, rfl⟩ := quni_inv hs -- ineg
  exact QTri.stack h fun p e R s mid args below meth c T locs cells slots C target hx hZ hby hown X hR hL k => XS.ineg X.here hx rfl (hb hby hd) rfl k
 ·obtain ⟨x, S', rfl, rfl⟩ := quni_inv hs
  exact QTri.stack h fun p e R s mid args below meth c T locs cells slots C target hx hZ hby hown X hR hL k => XT.i2l X.here hx rfl (hb hby hd) rfl k
 ·obtain ⟨x, S', rfl, rfl⟩ := quni_inv hs
  exact QTri.stack h fun p e R s mid args below meth c T locs cells slots C target hx hZ hby hown X hR hL k => XT.i2b X.here hx rfl (hb hby hd) rfl k
 ·obtain ⟨x, S', rfl, rfl⟩ := quniJ_inv hs
  exact QTri.stack h fun p e R s mid args below meth c T locs cells slots C target hx hZ hby hown X hR hL k => XT.l2i X.here hx rfl (hb hby hd) rfl k
 ·obtain ⟨x, S', rfl, rfl⟩ := quniJ_inv hs
  exact QTri.stack h fun p e R s mid args below meth c T locs cells slots C target hx hZ hby hown X hR hL k => XT.lneg X.here hx rfl (hb hby hd) rfl k
 ·obtain ⟨x, y, S', rfl, rfl⟩ := qbinJ_inv hs
  exact QTri.stack h fun p e R s mid args below meth c T locs cells slots C target hx hZ hby hown X hR hL k => XT.ladd X.here hx rfl (hb hby hd) rfl k
 ·obtain ⟨x, y, S', rfl, rfl⟩ := qbinJ_inv hs
  exact QTri.stack h fun p e R s mid args below meth c T locs cells slots C target hx hZ hby hown X hR hL k => XT.lsub X.here hx rfl (hb hby hd) rfl k
 ·obtain ⟨x, y, S', rfl, rfl⟩ := qbinJ_inv hs
  exact QTri.stack h fun p e R s mid args below meth c T locs cells slots C target hx hZ hby hown X hR hL k => XT.lmul X.here hx rfl (hb hby hd) rfl k
 ·obtain ⟨x, y, S', rfl, rfl⟩ := qbinJ_inv hs
  exact QTri.stack h fun p e R s mid args below meth c T locs cells slots C target hx hZ hby hown X hR hL k => XT.land X.here hx rfl (hb hby hd) rfl k
 ·obtain ⟨x, y, S', rfl, rfl⟩ := qbinJ_inv hs
  exact QTri.stack h fun p e R s mid args below meth c T locs cells slots C target hx hZ hby hown X hR hL k => XT.lor X.here hx rfl (hb hby hd) rfl k
 ·obtain ⟨x, y, S', rfl, rfl⟩ := qbinJ_inv hs
  exact QTri.stack h fun p e R s mid args below meth c T locs cells slots C target hx hZ hby hown X hR hL k => XT.lxor X.here hx rfl (hb hby hd) rfl k
 ·obtain ⟨x, y, S', rfl, rfl⟩ := qshJ_inv hs
  exact QTri.stack h fun p e R s mid args below meth c T locs cells slots C target hx hZ hby hown X hR hL k => XT.lshl X.here hx rfl (hb hby hd) rfl k
 ·obtain ⟨x, y, S', rfl, rfl⟩ := qshJ_inv hs
  exact QTri.stack h fun p e R s mid args below meth c T locs cells slots C target hx hZ hby hown X hR hL k => XT.lshr X.here hx rfl (hb hby hd) rfl k
 ·obtain ⟨x, y, S', rfl, rfl⟩ := qshJ_inv hs
  exact QTri.stack h fun p e R s mid args below meth c T locs cells slots C target hx hZ hby hown X hR hL k => XT.lushr X.here hx rfl (hb hby hd) rfl k
 ·split at hs -- lcmp
  ·cases hs
   exact QTri.stack h fun p e R s mid args below meth c T locs cells slots C target hx hZ hby hown X hR hL k => XT.lcmp X.here hx rfl (hb hby hd) rfl k
  ·cases hs
 ·cases hs -- goto
  obtain ⟨t1, t2⟩ := qtgt_spec hr
  exact QTri.stack h fun p e R s mid args below meth c T locs cells slots C target hx hZ hby hown X hR hL k => XS.goto X.here hx rfl rfl (hb hby hd) t1 t2 k
 ·obtain ⟨x, S', rfl, rfl⟩ := qif_inv hs
  obtain ⟨t1, t2⟩ := qtgt_spec hr
  cases hh : ifCond.holds _ x with
  | true => rw [hh] at h; exact QTri.stack h fun p e R s mid args below meth c T locs cells slots C target hx hZ hby hown X hR hL k => XS.ifYes X.here hx rfl rfl (hb hby hd) rfl hh t1 t2 k
  | false => rw [hh] at h; exact QTri.stack h fun p e R s mid args below meth c T locs cells slots C target hx hZ hby hown X hR hL k => XS.ifNo X.here hx rfl (hb hby hd) rfl hh k
 ·obtain ⟨x, y, S', rfl, rfl⟩ := qicmp_inv hs
  obtain ⟨t1, t2⟩ := qtgt_spec hr
  cases hh : if_icmp.holds _ x y with
  | true => rw [hh] at h; exact QTri.stack h fun p e R s mid args below meth c T locs cells slots C target hx hZ hby hown X hR hL k => XS.icmpYes X.here hx rfl rfl (hb hby hd) rfl hh t1 t2 k
  | false => rw [hh] at h; exact QTri.stack h fun p e R s mid args below meth c T locs cells slots C target hx hZ hby hown X hR hL k => XS.icmpNo X.here hx rfl (hb hby hd) rfl hh k
 ·unfold qdup at hs
  split at hs
  ·cases hs
   exact QTri.stack h fun p e R s mid args below meth c T locs cells slots C target hx hZ hby hown X hR hL k => XS.dup X.here hx rfl (hb hby hd) rfl rfl k
  ·cases hs
   exact QTri.stack h fun p e R s mid args below meth c T locs cells slots C target hx hZ hby hown X hR hL k => XS.dup X.here hx rfl (hb hby hd) rfl rfl k
  ·cases hs
 ·unfold qdup2 at hs
  split at hs
  ·cases hs
   exact QTri.stack h fun p e R s mid args below meth c T locs cells slots C target hx hZ hby hown X hR hL k => XT.dup2 X.here hx rfl (hb hby hd) rfl rfl rfl k
  ·cases hs
   exact QTri.stack h fun p e R s mid args below meth c T locs cells slots C target hx hZ hby hown X hR hL k => XT.dup2 X.here hx rfl (hb hby hd) rfl rfl rfl k
  ·cases hs
   exact QTri.stack h fun p e R s mid args below meth c T locs cells slots C target hx hZ hby hown X hR hL k => XT.dup2L X.here hx rfl (hb hby hd) rfl k
  ·cases hs
 ·unfold qpop at hs
  split at hs
  ·cases hs
   exact QTri.stack h fun p e R s mid args below meth c T locs cells slots C target hx hZ hby hown X hR hL k => XT.pop X.here hx rfl (hb hby hd) rfl rfl k
  ·cases hs
   exact QTri.stack h fun p e R s mid args below meth c T locs cells slots C target hx hZ hby hown X hR hL k => XT.pop X.here hx rfl (hb hby hd) rfl rfl k
  ·cases hs
 ·exact QTri.getfield W h hc hs
 ·exact QTri.putfield Ad W h hc hs
 ·exact QTri.iaload h hc hs
 ·exact QTri.baload h hc hs
 ·exact QTri.laload h hc hs
 ·exact QTri.iastore Ad h hc hs
 ·exact QTri.bastore Ad h hc hs
 ·exact QTri.lastore Ad h hc hs
 ·exact QTri.alen h hc hs
 ·-- newarray
  unfold qnewA at hs
  split at hs
  ·split at hs
   ·obtain ⟨k, hk, hs⟩ := Option.bind_eq_some_iff.mp hs
    cases hs
    exact QTri.newArr (c := .inr (.inl (.int, List.replicate k 0))) Ad W hk hc (by simp [qsz]) (fun h' a cA A => ⟨_, A, by simp [newA, (qnew_inv hk).2.1]; exact Or.inr rfl⟩) h
   ·obtain ⟨k, hk, hs⟩ := Option.bind_eq_some_iff.mp hs
    cases hs
    exact QTri.newArr (c := .inr (.inl (.boolean, List.replicate k 0))) Ad W hk hc (by simp [qsz]) (fun h' a cA A => ⟨_, A, by simp [newA, (qnew_inv hk).2.1]; exact Or.inr rfl⟩) h
   ·obtain ⟨k, hk, hs⟩ := Option.bind_eq_some_iff.mp hs
    cases hs
    exact QTri.newArr (c := .inr (.inl (.byte, List.replicate k 0))) Ad W hk hc (by simp [qsz]) (fun h' a cA A => ⟨_, A, by simp [newA, (qnew_inv hk).2.1]; exact Or.inr rfl⟩) h
   ·obtain ⟨k, hk, hs⟩ := Option.bind_eq_some_iff.mp hs
    cases hs
    exact QTri.newArr (c := .inr (.inr (List.replicate k 0))) Ad W hk hc (by simp [qsz]) (fun h' a cA A => ⟨_, A, by simp [newA, (qnew_inv hk).2.1]; exact Or.inr rfl⟩) h
   ·cases hs
  ·cases hs
 ·cases hs; exact QTri.newObj Ad W h hc
 ·cases hs
theorem QTri.steps (Ad : QAd n0 ad) (W : QW Z a0) : ∀ (n : Nat) {st st' : QSt}, qsteps m n st = some st' → QTri l Z n0 ad m st' v σ' → QTri l Z n0 ad m st v σ'
 | 0, st, st', h, k => by cases h; exact k
 | n + 1, st, st', h, k => by
  simp only [qsteps] at h
  split at h
  ·rename_i st₁ h1
   exact QTri.step Ad W (QTri.steps Ad W n h k) h1
  ·cases h
def lmask : List Bool → QLoc → QLoc
 | b :: t, x :: u => (bif b then x else none) :: lmask t u
 | _, L => L.map fun _ => none
theorem lmask_len : ∀ (b : List Bool) (L : QLoc), (lmask b L).length = L.length
 | [], L => by simp [lmask]
 | _ :: _, [] => by simp [lmask]
 | _ :: t, _ :: u => by simp [lmask, lmask_len t u]
theorem lmask_get : ∀ (b : List Bool) (L : QLoc) (k : Nat) (v : Value), lget (lmask b L) k = some v → lget L k = some v
 | [], L, k, v, h => by
  simp only [lmask, lget_eq, List.getElem?_map] at h
  cases hq : L[k]? <;> simp [hq] at h
 | _ :: _, [], k, v, h => by simp [lmask, lget] at h
 | b :: t, x :: u, 0, v, h => by
  simp only [lmask, lget] at h ⊢
  cases b
  ·cases h
  ·exact h
 | b :: t, x :: u, k + 1, v, h => by
  simp only [lmask, lget] at h ⊢
  exact lmask_get t u k v h
theorem QTri.mask {pc : Nat} {L : QLoc} {S : List Value} {σ : QHeap} (b : List Bool) (h : QTri l Z n0 ad m (pc, lmask b L, S, σ) v σ') : QTri l Z n0 ad m (pc, L, S, σ) v σ' :=
 QTri.frame h fun p e R s mid args below meth c T locs cells slots C hcx X hR hL hC => ⟨C, ⟨by rw [lmask_len]; exact hL.1, fun k u hk => hL.2.1 k u (lmask_get b L k u hk), hL.2.2⟩, hC, fun target k => k⟩
theorem QTri.ret0 {pc aux : Nat} {L : QLoc} {σ : QHeap} (hc : pCode m pc = some (.return_, aux)) (hr : pRet m = none) : QTri l Z n0 ad m (pc, L, [], σ) none σ :=
 have hd : decode (pBytes m) pc = .ok (.return_, 1) := pDecN hc rfl
 ⟨Nat.le_refl _, Nat.le_refl _, fun p e R s mid args below meth c T locs cells slots C hcx X hR hF hL hC hn hc1 hsl => ⟨T, locs, by simpa using X, hR, hF, fun fs hf => X.returnOut hcx.1 (hcx.2.2.2.2.1.trans hr) (hb hcx.2.2.1 hd) hf⟩⟩
theorem QTri.retI {pc aux : Nat} {L : QLoc} {S : List Value} {σ : QHeap} {x : Int32} (hc : pCode m pc = some (.ireturn, aux)) (hr : pRet m = some .int) : QTri l Z n0 ad m (pc, L, .int x :: S, σ) (some (.int x)) σ :=
 have hd : decode (pBytes m) pc = .ok (.ireturn, 1) := pDecN hc rfl
 ⟨Nat.le_refl _, Nat.le_refl _, fun p e R s mid args below meth c T locs cells slots C hcx X hR hF hL hC hn hc1 hsl => ⟨T, locs, by simpa using X, hR, hF, fun fs hf => Jvm.RoadKit.retI X hcx.1 (hcx.2.2.2.2.1.trans hr) (hb hcx.2.2.1 hd) hf⟩⟩
theorem QTri.retZ {pc aux : Nat} {L : QLoc} {S : List Value} {σ : QHeap} {x : Int32} (hc : pCode m pc = some (.ireturn, aux)) (hr : pRet m = some .boolean) : QTri l Z n0 ad m (pc, L, .int x :: S, σ) (some (.int (x &&& 1))) σ :=
 have hd : decode (pBytes m) pc = .ok (.ireturn, 1) := pDecN hc rfl
 ⟨Nat.le_refl _, Nat.le_refl _, fun p e R s mid args below meth c T locs cells slots C hcx X hR hF hL hC hn hc1 hsl => ⟨T, locs, by simpa using X, hR, hF, fun fs hf => retN X hcx.1 (t := .boolean) (hcx.2.2.2.2.1.trans hr) (by simp) (hb hcx.2.2.1 hd) hf⟩⟩
theorem QTri.retJ {pc aux : Nat} {L : QLoc} {S : List Value} {σ : QHeap} {x : Int64} (hc : pCode m pc = some (.lreturn, aux)) (hr : pRet m = some .long) : QTri l Z n0 ad m (pc, L, .long x :: S, σ) (some (.long x)) σ :=
 have hd : decode (pBytes m) pc = .ok (.lreturn, 1) := pDecN hc rfl
 ⟨Nat.le_refl _, Nat.le_refl _, fun p e R s mid args below meth c T locs cells slots C hcx X hR hF hL hC hn hc1 hsl => ⟨T, locs, by simpa using X, hR, hF, fun fs hf => retOut X hcx.1 (t := .long) (hcx.2.2.2.2.1.trans hr) rfl (Or.inr (Or.inl ⟨rfl, rfl, _, rfl⟩)) (hb hcx.2.2.1 hd) hf⟩⟩
def LOk (ad : Nat → Addr) (L : QLoc) (C : List Slot) : Prop :=
 L.length = C.length ∧ (∀ k v, lget L k = some v → C[k]? = some (.val (qv ad v))) ∧ (∀ k w, C[k]? = some (.val w) → w.category = 2 → C[k + 1]? = some .second) ∧ ∀ k, C[k]? = some .second → ∃ j w, k = j + 1 ∧ C[j]? = some (.val w) ∧ w.category = 2
theorem LOk.base (ad : Nat → Addr) (n : Nat) : LOk ad (List.replicate n none) (List.replicate n .unset) := by
 refine ⟨by simp, fun k u h => ?_, fun k w h => ?_, fun k h => ?_⟩
 ·rw [lget_eq] at h
  rcases Nat.lt_or_ge k n with q | q
  ·simp [List.getElem?_replicate, q] at h
  ·simp [List.getElem?_eq_none, q] at h
 ·rcases Nat.lt_or_ge k n with q | q
  ·simp [List.getElem?_replicate, q] at h
  ·simp [List.getElem?_eq_none, q] at h
 ·rcases Nat.lt_or_ge k n with q | q
  ·simp [List.getElem?_replicate, q] at h
  ·simp [List.getElem?_eq_none, q] at h
theorem LOk.one {L : QLoc} {C : List Slot} (H : LOk ad L C) {u : Value} (hu : u.category = 1) : LOk ad (some u :: L) (.val (qv ad u) :: C) := by
 obtain ⟨h1, h2, h3, h4⟩ := H
 refine ⟨by simp [h1], fun k w h => ?_, fun k w h hw => ?_, fun k h => ?_⟩
 ·cases k with
  | zero => simp only [lget] at h; cases h; simp
  | succ k => simp only [lget] at h; simpa using h2 k w h
 ·cases k with
  | zero => simp at h; rw [← h, qv_cat, hu] at hw; cases hw
  | succ k => simpa using h3 k w (by simpa using h) hw
 ·cases k with
  | zero => simp at h
  | succ k =>
   obtain ⟨j, w, z1, z2, z3⟩ := h4 k (by simpa using h)
   exact ⟨j + 1, w, by omega, by simpa using z2, z3⟩
theorem LOk.two {L : QLoc} {C : List Slot} (H : LOk ad L C) {u : Value} (hu : u.category = 2) : LOk ad (some u :: none :: L) (.val (qv ad u) :: .second :: C) := by
 obtain ⟨h1, h2, h3, h4⟩ := H
 refine ⟨by simp [h1], fun k w h => ?_, fun k w h hw => ?_, fun k h => ?_⟩
 ·rcases k with _ | _ | k
  ·simp only [lget] at h; cases h; simp
  ·simp [lget] at h
  ·simp only [lget] at h; simpa using h2 k w h
 ·rcases k with _ | _ | k
  ·simp
  ·simp at h
  ·simpa using h3 k w (by simpa using h) hw
 ·rcases k with _ | _ | k
  ·simp at h
  ·exact ⟨0, qv ad u, rfl, by simp, by rw [qv_cat]; exact hu⟩
  ·obtain ⟨j, w, z1, z2, z3⟩ := h4 k (by simpa using h)
   exact ⟨j + 2, w, by omega, by simpa using z2, z3⟩
def slotsOf (u : Value) : List Slot := if u.category = 2 then [.val u, .second] else [.val u]
theorem fold_slots : ∀ (as : List Value) (acc : Array Slot), (as.foldl (fun acc v => if v.category = 2 then (acc.push (.val v)).push .second else acc.push (.val v)) acc).toList = acc.toList ++ as.flatMap slotsOf
 | [], acc => by simp
 | u :: t, acc => by
  rw [List.foldl_cons, fold_slots t]
  by_cases hc : u.category = 2 <;> simp [slotsOf, hc]
theorem slots_len : ∀ (as : List Value), (as.flatMap slotsOf).length = (as.map fun v => v.category).sum
 | [] => rfl
 | u :: t => by
  rw [List.flatMap_cons, List.length_append, slots_len t, List.map_cons, List.sum_cons]
  cases u <;> simp [slotsOf, Value.category]
theorem cats_qv (as : List Value) : ((as.map (qv ad)).map fun v => v.category).sum = (as.map fun v => v.category).sum := by
 rw [List.map_map]
 congr 1
 exact List.map_congr_left fun x _ => qv_cat ad x
theorem entry_list : ∀ (as : List Value) (n : Nat), LOk ad ((as.flatMap fun v => match v with | .long x => [some (.long x), none] | .double x => [some (.double x), none] | v => [some v]) ++ List.replicate n none) ((as.map (qv ad)).flatMap slotsOf ++ List.replicate n .unset)
 | [], n => by simpa using LOk.base ad n
 | u :: t, n => by
  have ih := entry_list t n
  cases u with
  | long x => exact LOk.two ih rfl
  | double x => exact LOk.two ih rfl
  | int x => exact LOk.one ih rfl
  | float x => exact LOk.one ih rfl
  | null => exact LOk.one ih rfl
  | ref x => exact LOk.one ih rfl
  | retAddr x => exact LOk.one ih rfl
theorem qentry_ok (as : List Value) (mx : Nat) (h : (as.map fun v => v.category).sum ≤ mx) : QLocOk ad (qentry as mx) (argsToLocals (as.map (qv ad)).toArray mx) ∧ (argsToLocals (as.map (qv ad)).toArray mx).size = mx := by
 have e : (argsToLocals (as.map (qv ad)).toArray mx).toList = (as.map (qv ad)).flatMap slotsOf ++ List.replicate (mx - (as.map fun v => v.category).sum) .unset := by
  unfold argsToLocals
  have q := fold_slots (as.map (qv ad)) #[]
  simp only [List.foldl_toArray', Array.toList_append, Array.toList_replicate]
  have q2 : ((as.map (qv ad)).foldl (fun (acc : Array Slot) (v : Value) => if v.category = 2 then (acc.push (.val v)).push .second else acc.push (.val v)) #[]).size = (as.map fun v => v.category).sum := by
   rw [← Array.length_toList, q]
   simp only [List.nil_append]
   rw [slots_len, cats_qv]
  rw [q, q2]
  simp
 have H := entry_list (ad := ad) as (mx - (as.map fun v => v.category).sum)
 rw [← e] at H
 obtain ⟨h1, h2, h3, h4⟩ := H
 have hs : (argsToLocals (as.map (qv ad)).toArray mx).size = mx := by
  rw [← Array.length_toList, e, List.length_append, slots_len, cats_qv, List.length_replicate]
  omega
 refine ⟨⟨h1.trans Array.length_toList, fun k u hk => ?_, fun k w hk hw => ?_, fun k hk => ?_⟩, hs⟩
 ·have := h2 k u hk; rwa [Array.getElem?_toList] at this
 ·have := h3 k w (by rw [Array.getElem?_toList]; exact hk) hw; rwa [Array.getElem?_toList] at this
 ·obtain ⟨j, w, z1, z2, z3⟩ := h4 k (by rw [Array.getElem?_toList]; exact hk)
  exact ⟨j, w, z1, by rwa [Array.getElem?_toList] at z2, z3⟩
set_option maxHeartbeats 4000000 in
theorem QTri.met {k : Nat} {as : List Value} {σ σ₁ : QHeap} {w : Option Value} {h0 : Heap} (hk : k < pN) (h : QTri l Z n0 ad k (0, qentry as (pMaxL k), [], σ) w σ₁) (hR : QRep Z n0 ad h0 σ) (hlen : (as.map fun v => v.category).sum ≤ pMaxL k) (hret : pRet k = none → w = none) (ws : List Jvm.Cond) {rm : Room}
  (r1 : pFr k ≤ rm.frames) (r2 : pLo k ≤ rm.locals) (r3 : σ₁.length - σ.length ≤ rm.cells) (r4 : qhs σ₁ - qhs σ ≤ rm.slots) :
  MetFree l (pName k) (head1 (Jvm.Cond.code (pName k) (pBytes k) (pMaxL k) (pRet k) :: ws) rm) (fun a U => a = (as.map (qv ad)).toArray ∧ Z.Warmed39 U.vm ∧ U.heap = h0) (fun _ _ _ _ _ => True)
   (fun _ U o U' => ∃ v L, o = .returned v ∧ (v = w.map (qv ad) ∧ QRep Z n0 ad U'.heap σ₁ ∧ Fr n0 L) ∧ FrameEnd U o U' L (σ₁.length - σ.length) (qhs σ₁ - qhs σ)) := by
 refine MetFree.of_bodySF (plainFor_of_name (kPlain _ (pKlt k hk))) hisR ?_
 intro p e s mid args below meth c s₁ Bd hml0 hP hK
 obtain ⟨rfl, hZ, hh⟩ := hP
 have e0 : s₁.heap = h0 := by rw [← hh, Bd.state]; rfl
 obtain ⟨hl1, hl2⟩ := qentry_ok (ad := ad) as (pMaxL k) hlen
 have hX : Stand p l e rm s mid (as.map (qv ad)).toArray below meth c s₁ [] 0 0 := Stand.of_body Bd
 obtain ⟨T', locs', X', R', F', S'⟩ := h.2.2 p e rm s mid _ below meth c s₁ [] 0 0 _ ⟨Bd.exec, hZ, Bd.bytes, hml0, Bd.returns, findClass_of_methodNamed Bd.named, (name_of_methodNamed Bd.named Bd.method).1, r1, r2⟩ hX (by rw [e0]; exact hR) (Fr.nil _) hl1 (hl2.trans hml0.symm) (by rw [hh, Nat.add_zero]; exact hR.2.1.symm) (by rw [Nat.zero_add]; exact r3) (by rw [Nat.zero_add]; exact r4)
 obtain ⟨fs, hr, hrun, hended, hW, hsame⟩ := X'.leave (v := w.map (qv ad)) (fun q => by rw [hret (Bd.returns.symm.trans q)]; rfl)
 refine ⟨_, _, S' fs hr, hrun, hended, _, _, rfl, ⟨rfl, R', F'⟩, ⟨_, rfl⟩, hW, ?_⟩
 simp only [Nat.zero_add] at hsame
 exact hsame
theorem QTri.room {k : Nat} {σ σ₁ : QHeap} {rest : List Value} {R : Room} (hroom : (Nat.ble (pFr k + 1) (pFr m) && Nat.ble ((rest.map fun v => v.category).sum + (pMaxL k + 11) + pLo k) (pLo m)) = true) (hfr : pFr m ≤ R.frames) (hlo : pLo m ≤ R.locals) :
  pFr k + 1 ≤ R.frames ∧ (rest.map fun v => v.category).sum + (pMaxL k + 11) + pLo k ≤ R.locals := by
 obtain ⟨q1, q2⟩ := Bool.and_eq_true_iff.mp hroom
 exact ⟨Nat.le_trans (Nat.le_of_ble_eq_true q1) hfr, Nat.le_trans (Nat.le_of_ble_eq_true q2) hlo⟩
theorem sig_len {k : Nat} (hk : k < pN) {as : List Value} (hna : as.length = pNA k) : ∀ sig, parseMethodDescriptor (pName k).desc = some sig → (as.map (qv ad)).length = sig.parameters.length := fun sig hs => by
 have q := pSig k hk
 rw [show parseMethodDescriptor (pDs k) = some sig from hs] at q
 simp at q
 simp [hna, q]
theorem ret_map (w : Option Value) (rest : List Value) : (w.toList ++ rest).map (qv ad) = (w.map (qv ad)).toList ++ rest.map (qv ad) := by cases w <;> simp
theorem QTri.after {as0 : List Value} {pc : Nat} {L : QLoc} {S rest : List Value} {σ σ₁ : QHeap} {w : Option Value} {k : Nat} (hcal : QTri l Z n0 ad k (0, qentry as0 (pMaxL k), [], σ) w σ₁) (h : QTri l Z n0 ad m (pc + 3, L, w.toList ++ rest, σ₁) v σ')
  (hs : ∀ (p : Program) (e : Env) (R : Room) (s : State) (mid : MethodId) (args : Array Value) (below : List Frame) (meth : Method) (c : Code) (T : State) (locs : List Loc) (cells slots : Nat) (C : Array Slot),
   QCx Z p R s mid meth c m → Stand p l e R s mid args below meth c T locs cells slots → QRep Z n0 ad T.heap σ → C.size = c.maxLocals → cells + (σ₁.length - σ.length) ≤ R.cells → slots + (qhs σ₁ - qhs σ) ≤ R.slots →
   ∃ T₁ Lc, Stand p l e R s mid args below meth c T₁ (locs ++ Lc) (cells + (σ₁.length - σ.length)) (slots + (qhs σ₁ - qhs σ)) ∧ QRep Z n0 ad T₁.heap σ₁ ∧ Fr n0 Lc ∧
    ∀ target, Steps p.tables e below (T₁.setTop (mkF mid (pc + 3) C ((w.map (qv ad)).toList ++ rest.map (qv ad)))) target → Steps p.tables e below (T.setTop (mkF mid pc C (S.map (qv ad)))) target) :
  QTri l Z n0 ad m (pc, L, S, σ) v σ' := by
 refine QTri.gen h hcal.1 hcal.2.1 fun p e R s mid args below meth c T locs cells slots C hcx X hR hF hL hC hn hc1 hsl => ?_
 obtain ⟨T₁, Lc, X₁, R₁, F₁, st⟩ := hs p e R s mid args below meth c T locs cells slots C hcx X hR hC hc1 hsl
 refine ⟨T₁, locs ++ Lc, C, X₁, R₁, hF.app F₁, hL, hC, fun target q => st target ?_⟩
 rw [← ret_map]
 exact q
set_option maxHeartbeats 4000000 in
theorem QTri.callV (W : QW Z a0) {pc idx k a : Nat} {L : QLoc} {S as rest vs : List Value} {σ σ₁ : QHeap} {w : Option Value} (hc : pCode m pc = some (.invokevirtual idx, k)) (hm : (lkV.contains (pK m, idx, k) && mV.contains k) = true) (hcell : hget σ a = some (.inl vs)) (hS : S = as.reverse ++ .ref a :: rest)
  (hna : as.length = pNA k) (hlen : Nat.ble (((Value.ref a :: as).map fun v => v.category).sum) (pMaxL k) = true) (hroom : (Nat.ble (pFr k + 1) (pFr m) && Nat.ble ((rest.map fun v => v.category).sum + (pMaxL k + 11) + pLo k) (pLo m)) = true) (hrb : (w.isNone || (pRet k).isSome) = true)
  (hcal : QTri l Z n0 ad k (0, qentry (.ref a :: as) (pMaxL k), [], σ) w σ₁) (h : QTri l Z n0 ad m (pc + 3, L, w.toList ++ rest, σ₁) v σ') : QTri l Z n0 ad m (pc, L, S, σ) v σ' := by
 have hd : decode (pBytes m) pc = .ok (.invokevirtual idx, 3) := pDecN hc rfl
 subst hS
 obtain ⟨m1, m2⟩ := Bool.and_eq_true_iff.mp hm
 have m1 := mem_of_contains m1
 have m2 := mem_of_contains m2
 have hkA := (mVlt k m2).1
 have hkN := mAlt k hkA
 have hret : pRet k = none → w = none := fun q => by
  rw [q] at hrb
  cases w with
  | none => rfl
  | some w => simp at hrb
 refine QTri.after hcal h fun p e R s mid args below meth c T locs cells slots C hcx X hR hC hc1 hsl => ?_
 obtain ⟨hx, hZ, hby, hml, hret', hown, hnm, hfr, hlo⟩ := hcx
 have hd2 : decode c.code pc = .ok (.invokevirtual idx, 3) := by rw [hby]; exact hd
 obtain ⟨f1, f2⟩ := QTri.room (σ := σ) (σ₁ := σ₁) hroom hfr hlo
 obtain ⟨cq, kq, q1, q2, q3⟩ := isOf hZ rfl (hR.2.2 _ _ hcell).1
 obtain ⟨w1, w2, w3⟩ := (qw_vi W) k m2
 obtain ⟨c1, c2⟩ := (qw_cod W) k hkA
 obtain ⟨_, _, ⟨T₁, L₁, k₁, n₁⟩, -, X₁, ⟨Lc, ⟨rfl, hR1, hF1⟩, l₁, y₁, z₁⟩, st⟩ := X.virtualBack hx (own := kName (pK m)) (index := idx) (y := pName k) (z := pName k) hown (mvT hZ (qw_ml W (pK m, idx, k) m1)) (mvT hZ w1) (notFace_of_selects (args := #[]) (mvT hZ w2)) (mvT hZ w2) (mvT hZ w3) (pOwn _ (pKlt k hkN))
  (backOf (W := (rest.map fun v => v.category).sum) (rm := ⟨pFr k, σ₁.length - σ.length, qhs σ₁ - qhs σ, pLo k⟩) (Q := fun v h L => v = Option.map (qv ad) w ∧ QRep Z n0 ad h σ₁ ∧ Fr n0 L) (QTri.met hkN hcal hR (Nat.le_of_ble_eq_true hlen) hret [] (Nat.le_refl _) (Nat.le_refl _) (Nat.le_refl _) (Nat.le_refl _)) hZ c1 c2 f1 f2) q1 q3 (g := mkF mid pc C (List.map (qv ad) (as.reverse ++ .ref a :: rest))) rfl hC (Steps.refl _) (argsL := as.map (qv ad)) (rest := rest.map (qv ad)) (sig_len hkN hna) (by simp [qv]) (by show 2 * 0 + _ ≤ _; rw [cats_qv]; omega) hd2 (fun _ _ => ⟨rfl, rfl, hc1, hsl⟩)
 dsimp only [Pt.U, Pt.locs, Pt.cells, Pt.slots] at X₁ l₁ y₁ z₁ st hR1
 subst l₁ y₁ z₁
 exact ⟨T₁, Lc, X₁, hR1, hF1, fun target q => st.trans q⟩
set_option maxHeartbeats 4000000 in
theorem QTri.callI (W : QW Z a0) {pc idx k a : Nat} {L : QLoc} {S as rest : List Value} {σ σ₁ : QHeap} (hc : pCode m pc = some (.invokespecial idx, k)) (hm : (lkV.contains (pK m, idx, k) && mI.contains k) = true) (hS : S = as.reverse ++ .ref a :: rest)
  (hna : as.length = pNA k) (hlen : Nat.ble (((Value.ref a :: as).map fun v => v.category).sum) (pMaxL k) = true) (hroom : (Nat.ble (pFr k + 1) (pFr m) && Nat.ble ((rest.map fun v => v.category).sum + (pMaxL k + 11) + pLo k) (pLo m)) = true)
  (hcal : QTri l Z n0 ad k (0, qentry (.ref a :: as) (pMaxL k), [], σ) none σ₁) (h : QTri l Z n0 ad m (pc + 3, L, rest, σ₁) v σ') : QTri l Z n0 ad m (pc, L, S, σ) v σ' := by
 have hd : decode (pBytes m) pc = .ok (.invokespecial idx, 3) := pDecN hc rfl
 subst hS
 obtain ⟨m1, m2⟩ := Bool.and_eq_true_iff.mp hm
 have m1 := mem_of_contains m1
 have m2 := mem_of_contains m2
 obtain ⟨hkA, -, hin, hrt⟩ := mIlt k m2
 have hkN := mAlt k hkA
 refine QTri.after (w := none) hcal h fun p e R s mid args below meth c T locs cells slots C hcx X hR hC hc1 hsl => ?_
 obtain ⟨hx, hZ, hby, hml, hret', hown, hnm, hfr, hlo⟩ := hcx
 have hd2 : decode c.code pc = .ok (.invokespecial idx, 3) := by rw [hby]; exact hd
 obtain ⟨f1, f2⟩ := QTri.room (σ := σ) (σ₁ := σ₁) hroom hfr hlo
 obtain ⟨c1, c2⟩ := (qw_cod W) k hkA
 have c1' := c1
 rw [hrt] at c1'
 obtain ⟨_, _, ⟨T₁, L₁, k₁, n₁⟩, -, X₁, ⟨Lc, ⟨rfl, hR1, hF1⟩, l₁, y₁, z₁⟩, st⟩ := X.specialBack hx (own := kName (pK m)) (index := idx) (y := pName k) hin hown (mvT hZ (qw_ml W (pK m, idx, k) m1)) (mvT hZ ((qw_ini W) k m2)) (mvT hZ c1') (pOwn _ (pKlt k hkN))
  (backOf (W := (rest.map fun v => v.category).sum) (rm := ⟨pFr k, σ₁.length - σ.length, qhs σ₁ - qhs σ, pLo k⟩) (Q := fun v h L => v = Option.map (qv ad) none ∧ QRep Z n0 ad h σ₁ ∧ Fr n0 L) (QTri.met hkN hcal hR (Nat.le_of_ble_eq_true hlen) (fun _ => rfl) [] (Nat.le_refl _) (Nat.le_refl _) (Nat.le_refl _) (Nat.le_refl _)) hZ c1 c2 f1 f2) (g := mkF mid pc C (List.map (qv ad) (as.reverse ++ .ref a :: rest))) rfl hC (Steps.refl _) (a := ad a) (argsL := as.map (qv ad)) (rest := rest.map (qv ad)) (sig_len hkN hna) (by simp [qv]) (by show 2 * 0 + _ ≤ _; rw [cats_qv]; omega) hd2 (fun _ _ => ⟨rfl, rfl, hc1, hsl⟩)
 dsimp only [Pt.U, Pt.locs, Pt.cells, Pt.slots] at X₁ l₁ y₁ z₁ st hR1
 subst l₁ y₁ z₁
 exact ⟨T₁, Lc, X₁, hR1, hF1, fun target q => st.trans q⟩
set_option maxHeartbeats 4000000 in
theorem QTri.callP (W : QW Z a0) {pc idx k a : Nat} {L : QLoc} {S as rest vs : List Value} {σ σ₁ : QHeap} {w : Option Value} (hc : pCode m pc = some (.invokevirtual idx, k)) (hm : (lkV.contains (pK m, idx, k) && mP.contains k) = true) (hcell : hget σ a = some (.inl vs)) (hS : S = as.reverse ++ .ref a :: rest)
  (hna : as.length = pNA k) (hlen : Nat.ble (((Value.ref a :: as).map fun v => v.category).sum) (pMaxL k) = true) (hroom : (Nat.ble (pFr k + 1) (pFr m) && Nat.ble ((rest.map fun v => v.category).sum + (pMaxL k + 11) + pLo k) (pLo m)) = true) (hrb : (w.isNone || (pRet k).isSome) = true)
  (hcal : QTri l Z n0 ad k (0, qentry (.ref a :: as) (pMaxL k), [], σ) w σ₁) (h : QTri l Z n0 ad m (pc + 3, L, w.toList ++ rest, σ₁) v σ') : QTri l Z n0 ad m (pc, L, S, σ) v σ' := by
 have hd : decode (pBytes m) pc = .ok (.invokevirtual idx, 3) := pDecN hc rfl
 subst hS
 obtain ⟨m1, m2⟩ := Bool.and_eq_true_iff.mp hm
 have m1 := mem_of_contains m1
 have m2 := mem_of_contains m2
 obtain ⟨hkA, hk1⟩ := mPlt k m2
 have hkN := mAlt k hkA
 have hret : pRet k = none → w = none := fun q => by
  rw [q] at hrb
  cases w with
  | none => rfl
  | some w => simp at hrb
 refine QTri.after hcal h fun p e R s mid args below meth c T locs cells slots C hcx X hR hC hc1 hsl => ?_
 obtain ⟨hx, hZ, hby, hml, hret', hown, hnm, hfr, hlo⟩ := hcx
 have hd2 : decode c.code pc = .ok (.invokevirtual idx, 3) := by rw [hby]; exact hd
 obtain ⟨f1, f2⟩ := QTri.room (σ := σ) (σ₁ := σ₁) hroom hfr hlo
 obtain ⟨cell, h1, h2⟩ := (hR.2.2 _ _ hcell).1.cell
 obtain ⟨w1, w2⟩ := (qw_pr W) k m2
 obtain ⟨c1, c2⟩ := (qw_cod W) k hkA
 have hpr : s.PrivateAt (pName k) := Cond.privateMethod_at (mvP hZ w2 (args := #[]))
 obtain ⟨cC, kC, i1, i2, i3, i4⟩ := Cond.instantiable_spec (args := #[]) (mvT hZ (qw_inst W))
 have hsel : (Cond.selects (pName k).cls (pName k) (pName k)).before args s = true := selects_self_of_private (c := cC) (k := kC) (by show s.vm.findClass (kName (pK k)) = _; rw [hk1]; exact i1) i2 (by have q := i4.1; cases hq : kC.isInterface with | false => rfl | true => rw [hq] at q; simp at q) hpr (mvT hZ w1) (pOwn _ (pKlt k hkN))
 obtain ⟨_, _, ⟨T₁, L₁, k₁, n₁⟩, -, X₁, ⟨Lc, ⟨rfl, hR1, hF1⟩, l₁, y₁, z₁⟩, st⟩ := X.privateBack hx (own := kName (pK m)) (index := idx) (y := pName k) hown (mvT hZ (qw_ml W (pK m, idx, k) m1)) (mvT hZ w1) hsel hpr (mvT hZ c1) (pOwn _ (pKlt k hkN))
  (backOf (W := (rest.map fun v => v.category).sum) (rm := ⟨pFr k, σ₁.length - σ.length, qhs σ₁ - qhs σ, pLo k⟩) (Q := fun v h L => v = Option.map (qv ad) w ∧ QRep Z n0 ad h σ₁ ∧ Fr n0 L) (QTri.met hkN hcal hR (Nat.le_of_ble_eq_true hlen) hret [] (Nat.le_refl _) (Nat.le_refl _) (Nat.le_refl _) (Nat.le_refl _)) hZ c1 c2 f1 f2) (g := mkF mid pc C (List.map (qv ad) (as.reverse ++ .ref a :: rest))) rfl hC (Steps.refl _) (a := ad a) h1 h2 (argsL := as.map (qv ad)) (rest := rest.map (qv ad)) (sig_len hkN hna) (by simp [qv]) (by show 2 * 0 + _ ≤ _; rw [cats_qv]; omega) hd2 (fun _ _ => ⟨rfl, rfl, hc1, hsl⟩)
 dsimp only [Pt.U, Pt.locs, Pt.cells, Pt.slots] at X₁ l₁ y₁ z₁ st hR1
 subst l₁ y₁ z₁
 exact ⟨T₁, Lc, X₁, hR1, hF1, fun target q => st.trans q⟩
set_option maxHeartbeats 4000000 in
theorem QTri.callS (W : QW Z a0) {pc idx k : Nat} {L : QLoc} {S as rest : List Value} {σ σ₁ : QHeap} {w : Option Value} (hc : pCode m pc = some (.invokestatic idx, k)) (hm : (lkV.contains (pK m, idx, k) && mS.contains k) = true) (hS : S = as.reverse ++ rest)
  (hna : as.length = pNA k) (hlen : Nat.ble ((as.map fun v => v.category).sum) (pMaxL k) = true) (hroom : (Nat.ble (pFr k + 1) (pFr m) && Nat.ble ((rest.map fun v => v.category).sum + (pMaxL k + 11) + pLo k) (pLo m)) = true) (hrb : (w.isNone || (pRet k).isSome) = true)
  (hcal : QTri l Z n0 ad k (0, qentry as (pMaxL k), [], σ) w σ₁) (h : QTri l Z n0 ad m (pc + 3, L, w.toList ++ rest, σ₁) v σ') : QTri l Z n0 ad m (pc, L, S, σ) v σ' := by
 have hd : decode (pBytes m) pc = .ok (.invokestatic idx, 3) := pDecN hc rfl
 subst hS
 obtain ⟨m1, m2⟩ := Bool.and_eq_true_iff.mp hm
 have m1 := mem_of_contains m1
 have m2 := mem_of_contains m2
 have hkA := mSlt k m2
 have hkN := mAlt k hkA
 have hret : pRet k = none → w = none := fun q => by
  rw [q] at hrb
  cases w with
  | none => rfl
  | some w => simp at hrb
 refine QTri.after hcal h fun p e R s mid args below meth c T locs cells slots C hcx X hR hC hc1 hsl => ?_
 obtain ⟨hx, hZ, hby, hml, hret', hown, hnm, hfr, hlo⟩ := hcx
 have hd2 : decode c.code pc = .ok (.invokestatic idx, 3) := by rw [hby]; exact hd
 obtain ⟨f1, f2⟩ := QTri.room (σ := σ) (σ₁ := σ₁) hroom hfr hlo
 obtain ⟨c1, c2⟩ := (qw_cod W) k hkA
 obtain ⟨_, _, ⟨T₁, L₁, k₁, n₁⟩, -, X₁, ⟨Lc, ⟨rfl, hR1, hF1⟩, l₁, y₁, z₁⟩, st⟩ := Jvm.LawKit.callS X hx (own := kName (pK m)) (index := idx) (y := pName k) hown (mvT hZ (qw_ml W (pK m, idx, k) m1)) (mvT hZ ((qw_st W) k m2)) (mvT hZ c2) (mvT hZ c1) (pOwn _ (pKlt k hkN))
  (backOf (W := (rest.map fun v => v.category).sum) (rm := ⟨pFr k, σ₁.length - σ.length, qhs σ₁ - qhs σ, pLo k⟩) (Q := fun v h L => v = Option.map (qv ad) w ∧ QRep Z n0 ad h σ₁ ∧ Fr n0 L) (QTri.met hkN hcal hR (Nat.le_of_ble_eq_true hlen) hret [] (Nat.le_refl _) (Nat.le_refl _) (Nat.le_refl _) (Nat.le_refl _)) hZ c1 c2 f1 f2) (g := mkF mid pc C (List.map (qv ad) (as.reverse ++ rest))) rfl hC (argsL := as.map (qv ad)) (rest := rest.map (qv ad)) (sig_len hkN hna) (by simp) (by show 2 * 0 + _ ≤ _; rw [cats_qv]; omega) hd2 (fun _ _ => ⟨rfl, rfl, hc1, hsl⟩)
 dsimp only [Pt.U, Pt.locs, Pt.cells, Pt.slots] at X₁ l₁ y₁ z₁ st hR1
 subst l₁ y₁ z₁
 exact ⟨T₁, Lc, X₁, hR1, hF1, fun target q => st target q⟩
set_option maxHeartbeats 4000000 in
theorem QTri.callO (W : QW Z a0) {pc idx k a : Nat} {L : QLoc} {rest : List Value} {σ : QHeap} (hc : pCode m pc = some (.invokespecial idx, k)) (hm : lkO.contains (pK m, idx) = true) (hroom : (Nat.ble 1 (pFr m) && Nat.ble ((rest.map fun v => v.category).sum + 12) (pLo m)) = true)
  (h : QTri l Z n0 ad m (pc + 3, L, rest, σ) v σ') : QTri l Z n0 ad m (pc, L, .ref a :: rest, σ) v σ' :=
 have hd : decode (pBytes m) pc = .ok (.invokespecial idx, 3) := pDecN hc rfl
 QTri.pure h rfl fun p e R s mid args below meth c T locs cells slots C hcx X hR hL hC => by
  obtain ⟨hx, hZ, hby, hml, hret', hown, hnm, hfr, hlo⟩ := hcx
  have hd2 : decode c.code pc = .ok (.invokespecial idx, 3) := by rw [hby]; exact hd
  obtain ⟨q1, q2⟩ := Bool.and_eq_true_iff.mp hroom
  obtain ⟨T₁, X₁, e₁, st⟩ := initO X hx hZ hown (idx := idx) (qw_mo W (pK m, idx) (mem_of_contains hm)) ((qw_oi W)) ((qw_oc W)) rfl (g := mkF mid pc C (List.map (qv ad) (.ref a :: rest))) rfl hC rfl hd2 (Nat.le_trans (Nat.le_of_ble_eq_true q1) hfr) (W := (rest.map fun v => v.category).sum) (by show 2 * 0 + _ ≤ _; rw [cats_qv]; omega) (Nat.le_trans (Nat.le_of_ble_eq_true q2) hlo)
  exact ⟨T₁, C, X₁, e₁, hL, hC, st⟩
theorem QTri.brT (Ad : QAd n0 ad) (W : QW Z a0) {st : QSt} {t f : Nat} {L : QLoc} {S : List Value} {σ : QHeap} {b : Bool} (hs : qstep m st = some (bif b then t else f, L, S, σ)) (hb : b = true) (h : QTri l Z n0 ad m (t, L, S, σ) v σ') : QTri l Z n0 ad m st v σ' := by
 subst hb; exact QTri.step Ad W h hs
theorem QTri.brF (Ad : QAd n0 ad) (W : QW Z a0) {st : QSt} {t f : Nat} {L : QLoc} {S : List Value} {σ : QHeap} {b : Bool} (hs : qstep m st = some (bif b then t else f, L, S, σ)) (hb : b = false) (h : QTri l Z n0 ad m (f, L, S, σ) v σ') : QTri l Z n0 ad m st v σ' := by
 subst hb; exact QTri.step Ad W h hs
theorem QTri.bnd {α : Type} (Ad : QAd n0 ad) (W : QW Z a0) {st : QSt} {x : Option α} {f : α → QSt} {a : α} (hs : qstep m st = x.bind fun v => some (f v)) (hx : x = some a) (h : QTri l Z n0 ad m (f a) v σ') : QTri l Z n0 ad m st v σ' :=
 QTri.step Ad W h (by rw [hs, hx]; rfl)
end Triples
theorem qite {α : Type} {c : Prop} [Decidable c] {a b : Option α} {r : α} (h : (if c then a else b) = some r) : (c ∧ a = some r) ∨ (¬ c ∧ b = some r) := by
 by_cases hc : c
 ·exact Or.inl ⟨hc, by rwa [if_pos hc] at h⟩
 ·exact Or.inr ⟨hc, by rwa [if_neg hc] at h⟩
def qN : Nat := 4000
def loopN {V E : Type} (B : V → Option (E ⊕ V)) : Nat → V → Option E
 | 0, _ => none
 | n + 1, v => match B v with
  | none => none
  | some (.inl e) => some e
  | some (.inr v') => loopN B n v'
theorem loopN_tri {V E : Type} {B : V → Option (E ⊕ V)} {T : V → Prop} {KE : E → Prop} (hB : ∀ v r, B v = some r → (∀ e, r = .inl e → KE e) → (∀ v', r = .inr v' → T v') → T v) : ∀ (n : Nat) (v : V) (e : E), loopN B n v = some e → KE e → T v
 | 0, _, _, h, _ => by cases h
 | n + 1, v, e, h, k => by
  simp only [loopN] at h
  split at h
  ·cases h
  ·rename_i e' he
   cases h
   exact hB v _ he (fun e q => by cases q; exact k) (fun v' q => by cases q)
  ·rename_i v' he
   exact hB v _ he (fun e q => by cases q) (fun v'' q => by cases q; exact loopN_tri hB n v' e h k)
theorem loopN_inv {V E : Type} {B : V → Option (E ⊕ V)} (I : V → Prop) (P : E → Prop) (μ : V → Nat) (hB : ∀ v, I v → (∃ e, B v = some (.inl e) ∧ P e) ∨ ∃ v', B v = some (.inr v') ∧ I v' ∧ μ v' < μ v) : ∀ (n : Nat) (v : V), I v → μ v < n → ∃ e, loopN B n v = some e ∧ P e
 | 0, _, _, h => absurd h (Nat.not_lt_zero _)
 | n + 1, v, hv, hm => by
  rcases hB v hv with ⟨e, h1, h2⟩ | ⟨v', h1, h2, h3⟩
  ·exact ⟨e, by simp only [loopN, h1], h2⟩
  ·obtain ⟨e, g1, g2⟩ := loopN_inv I P μ hB n v' h2 (by omega)
   exact ⟨e, by simp only [loopN, h1]; exact g1, g2⟩
theorem qfn {α : Type} {P : α → Prop} : ∀ t ∈ ([] : List α), P t := fun _ h => nomatch h
theorem qfc {α : Type} {P : α → Prop} {a : α} {t : List α} (h : P a) (ht : ∀ x ∈ t, P x) : ∀ x ∈ a :: t, P x := fun x hx => by rcases List.mem_cons.mp hx with rfl | q; exact h; exact ht x q
theorem hW {Z : State} {a0 : Array Value} (hw : ∀ d ∈ tables_1, d.before a0 Z = true) (i : Nat) {c : Jvm.Cond} (h : tables_1[i]? = some c) : c.before a0 Z = true := hw c (List.mem_of_getElem? h)
theorem QW_ok {Z : State} {a0 : Array Value} (hw : ∀ d ∈ tables_1, d.before a0 Z = true) : QW Z a0 := by
  have w0 : ∀ k ∈ List.range nF, bif fFin k then (Jvm.Cond.laysFinal cName cName (fNm k) (fDs k)).before a0 Z = true else (Jvm.Cond.lays cName cName (fNm k) (fDs k)).before a0 Z = true :=
    show ∀ k ∈ [0, 1, 2, 3, 4, 5, 6, 7, 8, 9, 10, 11, 12, 13, 14, 15, 16, 17, 18, 19, 20, 21, 22, 23, 24, 25, 26, 27, 28, 29, 30, 31, 32, 33, 34, 35], bif fFin k then (Jvm.Cond.laysFinal cName cName (fNm k) (fDs k)).before a0 Z = true else (Jvm.Cond.lays cName cName (fNm k) (fDs k)).before a0 Z = true from
    (qfc (hW hw 11 rfl) (qfc (hW hw 13 rfl) (qfc (hW hw 15 rfl) (qfc (hW hw 17 rfl) (qfc (hW hw 19 rfl) (qfc (hW hw 21 rfl) (qfc (hW hw 23 rfl) (qfc (hW hw 25 rfl) (qfc (hW hw 27 rfl) (qfc (hW hw 29 rfl) (qfc (hW hw 31 rfl) (qfc (hW hw 33 rfl) (qfc (hW hw 35 rfl) (qfc (hW hw 37 rfl) (qfc (hW hw 39 rfl) (qfc (hW hw 41 rfl) (qfc (hW hw 43 rfl) (qfc (hW hw 45 rfl) (qfc (hW hw 47 rfl) (qfc (hW hw 49 rfl) (qfc (hW hw 51 rfl) (qfc (hW hw 53 rfl) (qfc (hW hw 55 rfl) (qfc (hW hw 57 rfl) (qfc (hW hw 59 rfl) (qfc (hW hw 61 rfl) (qfc (hW hw 63 rfl) (qfc (hW hw 65 rfl) (qfc (hW hw 67 rfl) (qfc (hW hw 69 rfl) (qfc (hW hw 71 rfl) (qfc (hW hw 73 rfl) (qfc (hW hw 75 rfl) (qfc (hW hw 77 rfl) (qfc (hW hw 79 rfl) (qfc (hW hw 187 rfl) qfn))))))))))))))))))))))))))))))))))))
  refine ⟨?_, ?_, ?_, ?_, ?_, ?_, ?_, ?_, ?_, ?_, ?_, ?_, ?_, (fun k hk => w0 k (List.mem_range.mpr hk)), ?_, ?_, ?_⟩
  · exact (qfc (hW hw 10 rfl) (qfc (hW hw 12 rfl) (qfc (hW hw 14 rfl) (qfc (hW hw 16 rfl) (qfc (hW hw 18 rfl) (qfc (hW hw 20 rfl) (qfc (hW hw 22 rfl) (qfc (hW hw 24 rfl) (qfc (hW hw 26 rfl) (qfc (hW hw 28 rfl) (qfc (hW hw 30 rfl) (qfc (hW hw 32 rfl) (qfc (hW hw 34 rfl) (qfc (hW hw 36 rfl) (qfc (hW hw 38 rfl) (qfc (hW hw 40 rfl) (qfc (hW hw 42 rfl) (qfc (hW hw 44 rfl) (qfc (hW hw 46 rfl) (qfc (hW hw 48 rfl) (qfc (hW hw 50 rfl) (qfc (hW hw 52 rfl) (qfc (hW hw 54 rfl) (qfc (hW hw 56 rfl) (qfc (hW hw 58 rfl) (qfc (hW hw 60 rfl) (qfc (hW hw 62 rfl) (qfc (hW hw 64 rfl) (qfc (hW hw 66 rfl) (qfc (hW hw 68 rfl) (qfc (hW hw 70 rfl) (qfc (hW hw 72 rfl) (qfc (hW hw 74 rfl) (qfc (hW hw 76 rfl) (qfc (hW hw 78 rfl) (qfc (hW hw 186 rfl) qfn))))))))))))))))))))))))))))))))))))
  · exact (qfc (hW hw 0 rfl) qfn)
  · exact qfn
  · exact (qfc ⟨_, rfl, (hW hw 176 rfl)⟩ qfn)
  · exact (qfc (hW hw 3 rfl) (qfc (hW hw 80 rfl) (qfc (hW hw 85 rfl) (qfc (hW hw 89 rfl) (qfc (hW hw 93 rfl) (qfc (hW hw 96 rfl) (qfc (hW hw 101 rfl) (qfc (hW hw 105 rfl) (qfc (hW hw 110 rfl) (qfc (hW hw 114 rfl) (qfc (hW hw 119 rfl) (qfc (hW hw 124 rfl) (qfc (hW hw 128 rfl) (qfc (hW hw 132 rfl) (qfc (hW hw 136 rfl) (qfc (hW hw 141 rfl) (qfc (hW hw 146 rfl) (qfc (hW hw 151 rfl) (qfc (hW hw 156 rfl) (qfc (hW hw 161 rfl) (qfc (hW hw 166 rfl) (qfc (hW hw 171 rfl) (qfc (hW hw 177 rfl) (qfc (hW hw 182 rfl) (qfc (hW hw 188 rfl) (qfc (hW hw 192 rfl) (qfc (hW hw 196 rfl) (qfc (hW hw 200 rfl) (qfc (hW hw 204 rfl) (qfc (hW hw 208 rfl) (qfc (hW hw 212 rfl) (qfc (hW hw 216 rfl) (qfc (hW hw 220 rfl) (qfc (hW hw 224 rfl) (qfc (hW hw 227 rfl) qfn)))))))))))))))))))))))))))))))))))
  · exact (qfc (hW hw 6 rfl) qfn)
  · exact (qfc ⟨(hW hw 81 rfl), (hW hw 83 rfl), (hW hw 82 rfl)⟩ (qfc ⟨(hW hw 97 rfl), (hW hw 99 rfl), (hW hw 98 rfl)⟩ (qfc ⟨(hW hw 106 rfl), (hW hw 108 rfl), (hW hw 107 rfl)⟩ (qfc ⟨(hW hw 115 rfl), (hW hw 117 rfl), (hW hw 116 rfl)⟩ (qfc ⟨(hW hw 120 rfl), (hW hw 122 rfl), (hW hw 121 rfl)⟩ (qfc ⟨(hW hw 137 rfl), (hW hw 139 rfl), (hW hw 138 rfl)⟩ (qfc ⟨(hW hw 142 rfl), (hW hw 144 rfl), (hW hw 143 rfl)⟩ (qfc ⟨(hW hw 147 rfl), (hW hw 149 rfl), (hW hw 148 rfl)⟩ (qfc ⟨(hW hw 152 rfl), (hW hw 154 rfl), (hW hw 153 rfl)⟩ (qfc ⟨(hW hw 157 rfl), (hW hw 159 rfl), (hW hw 158 rfl)⟩ (qfc ⟨(hW hw 162 rfl), (hW hw 164 rfl), (hW hw 163 rfl)⟩ (qfc ⟨(hW hw 167 rfl), (hW hw 169 rfl), (hW hw 168 rfl)⟩ (qfc ⟨(hW hw 172 rfl), (hW hw 174 rfl), (hW hw 173 rfl)⟩ (qfc ⟨(hW hw 178 rfl), (hW hw 180 rfl), (hW hw 179 rfl)⟩ qfn))))))))))))))
  · exact (qfc ⟨(hW hw 86 rfl), (hW hw 87 rfl)⟩ (qfc ⟨(hW hw 102 rfl), (hW hw 103 rfl)⟩ (qfc ⟨(hW hw 111 rfl), (hW hw 112 rfl)⟩ (qfc ⟨(hW hw 125 rfl), (hW hw 126 rfl)⟩ (qfc ⟨(hW hw 129 rfl), (hW hw 130 rfl)⟩ (qfc ⟨(hW hw 133 rfl), (hW hw 134 rfl)⟩ (qfc ⟨(hW hw 183 rfl), (hW hw 184 rfl)⟩ (qfc ⟨(hW hw 189 rfl), (hW hw 190 rfl)⟩ (qfc ⟨(hW hw 193 rfl), (hW hw 194 rfl)⟩ (qfc ⟨(hW hw 197 rfl), (hW hw 198 rfl)⟩ (qfc ⟨(hW hw 201 rfl), (hW hw 202 rfl)⟩ (qfc ⟨(hW hw 205 rfl), (hW hw 206 rfl)⟩ (qfc ⟨(hW hw 209 rfl), (hW hw 210 rfl)⟩ (qfc ⟨(hW hw 213 rfl), (hW hw 214 rfl)⟩ (qfc ⟨(hW hw 217 rfl), (hW hw 218 rfl)⟩ (qfc ⟨(hW hw 221 rfl), (hW hw 222 rfl)⟩ (qfc ⟨(hW hw 228 rfl), (hW hw 229 rfl)⟩ qfn)))))))))))))))))
  · exact (qfc (hW hw 90 rfl) (qfc (hW hw 94 rfl) (qfc (hW hw 225 rfl) qfn)))
  · exact (qfc (hW hw 4 rfl) qfn)
  · exact (qfc ⟨(hW hw 5 rfl), (hW hw 2 rfl)⟩ (qfc ⟨(hW hw 84 rfl), (hW hw 2 rfl)⟩ (qfc ⟨(hW hw 88 rfl), (hW hw 2 rfl)⟩ (qfc ⟨(hW hw 92 rfl), (hW hw 91 rfl)⟩ (qfc ⟨(hW hw 95 rfl), (hW hw 91 rfl)⟩ (qfc ⟨(hW hw 100 rfl), (hW hw 2 rfl)⟩ (qfc ⟨(hW hw 104 rfl), (hW hw 2 rfl)⟩ (qfc ⟨(hW hw 109 rfl), (hW hw 2 rfl)⟩ (qfc ⟨(hW hw 113 rfl), (hW hw 2 rfl)⟩ (qfc ⟨(hW hw 118 rfl), (hW hw 2 rfl)⟩ (qfc ⟨(hW hw 123 rfl), (hW hw 2 rfl)⟩ (qfc ⟨(hW hw 127 rfl), (hW hw 2 rfl)⟩ (qfc ⟨(hW hw 131 rfl), (hW hw 2 rfl)⟩ (qfc ⟨(hW hw 135 rfl), (hW hw 2 rfl)⟩ (qfc ⟨(hW hw 140 rfl), (hW hw 2 rfl)⟩ (qfc ⟨(hW hw 145 rfl), (hW hw 2 rfl)⟩ (qfc ⟨(hW hw 150 rfl), (hW hw 2 rfl)⟩ (qfc ⟨(hW hw 155 rfl), (hW hw 2 rfl)⟩ (qfc ⟨(hW hw 160 rfl), (hW hw 2 rfl)⟩ (qfc ⟨(hW hw 165 rfl), (hW hw 2 rfl)⟩ (qfc ⟨(hW hw 170 rfl), (hW hw 2 rfl)⟩ (qfc ⟨(hW hw 175 rfl), (hW hw 2 rfl)⟩ (qfc ⟨(hW hw 181 rfl), (hW hw 2 rfl)⟩ (qfc ⟨(hW hw 185 rfl), (hW hw 2 rfl)⟩ (qfc ⟨(hW hw 191 rfl), (hW hw 2 rfl)⟩ (qfc ⟨(hW hw 195 rfl), (hW hw 2 rfl)⟩ (qfc ⟨(hW hw 199 rfl), (hW hw 2 rfl)⟩ (qfc ⟨(hW hw 203 rfl), (hW hw 2 rfl)⟩ (qfc ⟨(hW hw 207 rfl), (hW hw 2 rfl)⟩ (qfc ⟨(hW hw 211 rfl), (hW hw 2 rfl)⟩ (qfc ⟨(hW hw 215 rfl), (hW hw 2 rfl)⟩ (qfc ⟨(hW hw 219 rfl), (hW hw 2 rfl)⟩ (qfc ⟨(hW hw 223 rfl), (hW hw 2 rfl)⟩ (qfc ⟨(hW hw 226 rfl), (hW hw 91 rfl)⟩ (qfc ⟨(hW hw 230 rfl), (hW hw 2 rfl)⟩ qfn)))))))))))))))))))))))))))))))))))
  · exact (hW hw 7 rfl)
  · exact (hW hw 8 rfl)
  · exact (hW hw 1 rfl)
  · exact (hW hw 2 rfl)
  · exact (qfc (hW hw 9 rfl) qfn)
abbrev Ob := List Int32 × List Int32 × List Int32 × List Int32 × List Int32 × List Int32 × List Int32 × List Int32 × List Int32 × List Int32 × List Int32 × List Int32 × List Int32 × List Int32 × List Int32 × List Int32 × List Int32 × List Int32 × List Int32 × List Int32 × List Int32 × List Int32 × List Int32 × List Int32 × List Int32 × List Int32 × List Int32 × List Int32 × Int32 × Int32 × Int32 × Int32 × Int32 × Int32 × Int32 × Int32
def fA (o : Ob) : List Int32 := o.1
def fB (o : Ob) : List Int32 := o.2.1
def fC (o : Ob) : List Int32 := o.2.2.1
def fD (o : Ob) : List Int32 := o.2.2.2.1
def fE (o : Ob) : List Int32 := o.2.2.2.2.1
def fF (o : Ob) : List Int32 := o.2.2.2.2.2.1
def fG (o : Ob) : List Int32 := o.2.2.2.2.2.2.1
def fH (o : Ob) : List Int32 := o.2.2.2.2.2.2.2.1
def fI (o : Ob) : List Int32 := o.2.2.2.2.2.2.2.2.1
def fJ (o : Ob) : List Int32 := o.2.2.2.2.2.2.2.2.2.1
def fK (o : Ob) : List Int32 := o.2.2.2.2.2.2.2.2.2.2.1
def fL (o : Ob) : List Int32 := o.2.2.2.2.2.2.2.2.2.2.2.1
def fM (o : Ob) : List Int32 := o.2.2.2.2.2.2.2.2.2.2.2.2.1
def fO (o : Ob) : List Int32 := o.2.2.2.2.2.2.2.2.2.2.2.2.2.1
def fP (o : Ob) : List Int32 := o.2.2.2.2.2.2.2.2.2.2.2.2.2.2.1
def fQ (o : Ob) : List Int32 := o.2.2.2.2.2.2.2.2.2.2.2.2.2.2.2.1
def fR (o : Ob) : List Int32 := o.2.2.2.2.2.2.2.2.2.2.2.2.2.2.2.2.1
def fT (o : Ob) : List Int32 := o.2.2.2.2.2.2.2.2.2.2.2.2.2.2.2.2.2.1
def fU (o : Ob) : List Int32 := o.2.2.2.2.2.2.2.2.2.2.2.2.2.2.2.2.2.2.1
def fV (o : Ob) : List Int32 := o.2.2.2.2.2.2.2.2.2.2.2.2.2.2.2.2.2.2.2.1
def fW (o : Ob) : List Int32 := o.2.2.2.2.2.2.2.2.2.2.2.2.2.2.2.2.2.2.2.2.1
def fX (o : Ob) : List Int32 := o.2.2.2.2.2.2.2.2.2.2.2.2.2.2.2.2.2.2.2.2.2.1
def fY (o : Ob) : List Int32 := o.2.2.2.2.2.2.2.2.2.2.2.2.2.2.2.2.2.2.2.2.2.2.1
def fZ (o : Ob) : List Int32 := o.2.2.2.2.2.2.2.2.2.2.2.2.2.2.2.2.2.2.2.2.2.2.2.1
def fa (o : Ob) : List Int32 := o.2.2.2.2.2.2.2.2.2.2.2.2.2.2.2.2.2.2.2.2.2.2.2.2.1
def fb (o : Ob) : List Int32 := o.2.2.2.2.2.2.2.2.2.2.2.2.2.2.2.2.2.2.2.2.2.2.2.2.2.1
def fc (o : Ob) : List Int32 := o.2.2.2.2.2.2.2.2.2.2.2.2.2.2.2.2.2.2.2.2.2.2.2.2.2.2.1
def fd (o : Ob) : List Int32 := o.2.2.2.2.2.2.2.2.2.2.2.2.2.2.2.2.2.2.2.2.2.2.2.2.2.2.2.1
def fe (o : Ob) : Int32 := o.2.2.2.2.2.2.2.2.2.2.2.2.2.2.2.2.2.2.2.2.2.2.2.2.2.2.2.2.1
def fh (o : Ob) : Int32 := o.2.2.2.2.2.2.2.2.2.2.2.2.2.2.2.2.2.2.2.2.2.2.2.2.2.2.2.2.2.1
def fi (o : Ob) : Int32 := o.2.2.2.2.2.2.2.2.2.2.2.2.2.2.2.2.2.2.2.2.2.2.2.2.2.2.2.2.2.2.1
def fm (o : Ob) : Int32 := o.2.2.2.2.2.2.2.2.2.2.2.2.2.2.2.2.2.2.2.2.2.2.2.2.2.2.2.2.2.2.2.1
def fo (o : Ob) : Int32 := o.2.2.2.2.2.2.2.2.2.2.2.2.2.2.2.2.2.2.2.2.2.2.2.2.2.2.2.2.2.2.2.2.1
def fp (o : Ob) : Int32 := o.2.2.2.2.2.2.2.2.2.2.2.2.2.2.2.2.2.2.2.2.2.2.2.2.2.2.2.2.2.2.2.2.2.1
def fq (o : Ob) : Int32 := o.2.2.2.2.2.2.2.2.2.2.2.2.2.2.2.2.2.2.2.2.2.2.2.2.2.2.2.2.2.2.2.2.2.2.1
def fr (o : Ob) : Int32 := o.2.2.2.2.2.2.2.2.2.2.2.2.2.2.2.2.2.2.2.2.2.2.2.2.2.2.2.2.2.2.2.2.2.2.2
def sA (o : Ob) (v : List Int32) : Ob := (v, o.2.1, o.2.2.1, o.2.2.2.1, o.2.2.2.2.1, o.2.2.2.2.2.1, o.2.2.2.2.2.2.1, o.2.2.2.2.2.2.2.1, o.2.2.2.2.2.2.2.2.1, o.2.2.2.2.2.2.2.2.2.1, o.2.2.2.2.2.2.2.2.2.2.1, o.2.2.2.2.2.2.2.2.2.2.2.1, o.2.2.2.2.2.2.2.2.2.2.2.2.1, o.2.2.2.2.2.2.2.2.2.2.2.2.2.1, o.2.2.2.2.2.2.2.2.2.2.2.2.2.2.1, o.2.2.2.2.2.2.2.2.2.2.2.2.2.2.2.1, o.2.2.2.2.2.2.2.2.2.2.2.2.2.2.2.2.1, o.2.2.2.2.2.2.2.2.2.2.2.2.2.2.2.2.2.1, o.2.2.2.2.2.2.2.2.2.2.2.2.2.2.2.2.2.2.1, o.2.2.2.2.2.2.2.2.2.2.2.2.2.2.2.2.2.2.2.1, o.2.2.2.2.2.2.2.2.2.2.2.2.2.2.2.2.2.2.2.2.1, o.2.2.2.2.2.2.2.2.2.2.2.2.2.2.2.2.2.2.2.2.2.1, o.2.2.2.2.2.2.2.2.2.2.2.2.2.2.2.2.2.2.2.2.2.2.1, o.2.2.2.2.2.2.2.2.2.2.2.2.2.2.2.2.2.2.2.2.2.2.2.1, o.2.2.2.2.2.2.2.2.2.2.2.2.2.2.2.2.2.2.2.2.2.2.2.2.1, o.2.2.2.2.2.2.2.2.2.2.2.2.2.2.2.2.2.2.2.2.2.2.2.2.2.1, o.2.2.2.2.2.2.2.2.2.2.2.2.2.2.2.2.2.2.2.2.2.2.2.2.2.2.1, o.2.2.2.2.2.2.2.2.2.2.2.2.2.2.2.2.2.2.2.2.2.2.2.2.2.2.2.1, o.2.2.2.2.2.2.2.2.2.2.2.2.2.2.2.2.2.2.2.2.2.2.2.2.2.2.2.2.1, o.2.2.2.2.2.2.2.2.2.2.2.2.2.2.2.2.2.2.2.2.2.2.2.2.2.2.2.2.2.1, o.2.2.2.2.2.2.2.2.2.2.2.2.2.2.2.2.2.2.2.2.2.2.2.2.2.2.2.2.2.2.1, o.2.2.2.2.2.2.2.2.2.2.2.2.2.2.2.2.2.2.2.2.2.2.2.2.2.2.2.2.2.2.2.1, o.2.2.2.2.2.2.2.2.2.2.2.2.2.2.2.2.2.2.2.2.2.2.2.2.2.2.2.2.2.2.2.2.1, o.2.2.2.2.2.2.2.2.2.2.2.2.2.2.2.2.2.2.2.2.2.2.2.2.2.2.2.2.2.2.2.2.2.1, o.2.2.2.2.2.2.2.2.2.2.2.2.2.2.2.2.2.2.2.2.2.2.2.2.2.2.2.2.2.2.2.2.2.2.1, o.2.2.2.2.2.2.2.2.2.2.2.2.2.2.2.2.2.2.2.2.2.2.2.2.2.2.2.2.2.2.2.2.2.2.2)
def sB (o : Ob) (v : List Int32) : Ob := (o.1, v, o.2.2.1, o.2.2.2.1, o.2.2.2.2.1, o.2.2.2.2.2.1, o.2.2.2.2.2.2.1, o.2.2.2.2.2.2.2.1, o.2.2.2.2.2.2.2.2.1, o.2.2.2.2.2.2.2.2.2.1, o.2.2.2.2.2.2.2.2.2.2.1, o.2.2.2.2.2.2.2.2.2.2.2.1, o.2.2.2.2.2.2.2.2.2.2.2.2.1, o.2.2.2.2.2.2.2.2.2.2.2.2.2.1, o.2.2.2.2.2.2.2.2.2.2.2.2.2.2.1, o.2.2.2.2.2.2.2.2.2.2.2.2.2.2.2.1, o.2.2.2.2.2.2.2.2.2.2.2.2.2.2.2.2.1, o.2.2.2.2.2.2.2.2.2.2.2.2.2.2.2.2.2.1, o.2.2.2.2.2.2.2.2.2.2.2.2.2.2.2.2.2.2.1, o.2.2.2.2.2.2.2.2.2.2.2.2.2.2.2.2.2.2.2.1, o.2.2.2.2.2.2.2.2.2.2.2.2.2.2.2.2.2.2.2.2.1, o.2.2.2.2.2.2.2.2.2.2.2.2.2.2.2.2.2.2.2.2.2.1, o.2.2.2.2.2.2.2.2.2.2.2.2.2.2.2.2.2.2.2.2.2.2.1, o.2.2.2.2.2.2.2.2.2.2.2.2.2.2.2.2.2.2.2.2.2.2.2.1, o.2.2.2.2.2.2.2.2.2.2.2.2.2.2.2.2.2.2.2.2.2.2.2.2.1, o.2.2.2.2.2.2.2.2.2.2.2.2.2.2.2.2.2.2.2.2.2.2.2.2.2.1, o.2.2.2.2.2.2.2.2.2.2.2.2.2.2.2.2.2.2.2.2.2.2.2.2.2.2.1, o.2.2.2.2.2.2.2.2.2.2.2.2.2.2.2.2.2.2.2.2.2.2.2.2.2.2.2.1, o.2.2.2.2.2.2.2.2.2.2.2.2.2.2.2.2.2.2.2.2.2.2.2.2.2.2.2.2.1, o.2.2.2.2.2.2.2.2.2.2.2.2.2.2.2.2.2.2.2.2.2.2.2.2.2.2.2.2.2.1, o.2.2.2.2.2.2.2.2.2.2.2.2.2.2.2.2.2.2.2.2.2.2.2.2.2.2.2.2.2.2.1, o.2.2.2.2.2.2.2.2.2.2.2.2.2.2.2.2.2.2.2.2.2.2.2.2.2.2.2.2.2.2.2.1, o.2.2.2.2.2.2.2.2.2.2.2.2.2.2.2.2.2.2.2.2.2.2.2.2.2.2.2.2.2.2.2.2.1, o.2.2.2.2.2.2.2.2.2.2.2.2.2.2.2.2.2.2.2.2.2.2.2.2.2.2.2.2.2.2.2.2.2.1, o.2.2.2.2.2.2.2.2.2.2.2.2.2.2.2.2.2.2.2.2.2.2.2.2.2.2.2.2.2.2.2.2.2.2.1, o.2.2.2.2.2.2.2.2.2.2.2.2.2.2.2.2.2.2.2.2.2.2.2.2.2.2.2.2.2.2.2.2.2.2.2)
def sC (o : Ob) (v : List Int32) : Ob := (o.1, o.2.1, v, o.2.2.2.1, o.2.2.2.2.1, o.2.2.2.2.2.1, o.2.2.2.2.2.2.1, o.2.2.2.2.2.2.2.1, o.2.2.2.2.2.2.2.2.1, o.2.2.2.2.2.2.2.2.2.1, o.2.2.2.2.2.2.2.2.2.2.1, o.2.2.2.2.2.2.2.2.2.2.2.1, o.2.2.2.2.2.2.2.2.2.2.2.2.1, o.2.2.2.2.2.2.2.2.2.2.2.2.2.1, o.2.2.2.2.2.2.2.2.2.2.2.2.2.2.1, o.2.2.2.2.2.2.2.2.2.2.2.2.2.2.2.1, o.2.2.2.2.2.2.2.2.2.2.2.2.2.2.2.2.1, o.2.2.2.2.2.2.2.2.2.2.2.2.2.2.2.2.2.1, o.2.2.2.2.2.2.2.2.2.2.2.2.2.2.2.2.2.2.1, o.2.2.2.2.2.2.2.2.2.2.2.2.2.2.2.2.2.2.2.1, o.2.2.2.2.2.2.2.2.2.2.2.2.2.2.2.2.2.2.2.2.1, o.2.2.2.2.2.2.2.2.2.2.2.2.2.2.2.2.2.2.2.2.2.1, o.2.2.2.2.2.2.2.2.2.2.2.2.2.2.2.2.2.2.2.2.2.2.1, o.2.2.2.2.2.2.2.2.2.2.2.2.2.2.2.2.2.2.2.2.2.2.2.1, o.2.2.2.2.2.2.2.2.2.2.2.2.2.2.2.2.2.2.2.2.2.2.2.2.1, o.2.2.2.2.2.2.2.2.2.2.2.2.2.2.2.2.2.2.2.2.2.2.2.2.2.1, o.2.2.2.2.2.2.2.2.2.2.2.2.2.2.2.2.2.2.2.2.2.2.2.2.2.2.1, o.2.2.2.2.2.2.2.2.2.2.2.2.2.2.2.2.2.2.2.2.2.2.2.2.2.2.2.1, o.2.2.2.2.2.2.2.2.2.2.2.2.2.2.2.2.2.2.2.2.2.2.2.2.2.2.2.2.1, o.2.2.2.2.2.2.2.2.2.2.2.2.2.2.2.2.2.2.2.2.2.2.2.2.2.2.2.2.2.1, o.2.2.2.2.2.2.2.2.2.2.2.2.2.2.2.2.2.2.2.2.2.2.2.2.2.2.2.2.2.2.1, o.2.2.2.2.2.2.2.2.2.2.2.2.2.2.2.2.2.2.2.2.2.2.2.2.2.2.2.2.2.2.2.1, o.2.2.2.2.2.2.2.2.2.2.2.2.2.2.2.2.2.2.2.2.2.2.2.2.2.2.2.2.2.2.2.2.1, o.2.2.2.2.2.2.2.2.2.2.2.2.2.2.2.2.2.2.2.2.2.2.2.2.2.2.2.2.2.2.2.2.2.1, o.2.2.2.2.2.2.2.2.2.2.2.2.2.2.2.2.2.2.2.2.2.2.2.2.2.2.2.2.2.2.2.2.2.2.1, o.2.2.2.2.2.2.2.2.2.2.2.2.2.2.2.2.2.2.2.2.2.2.2.2.2.2.2.2.2.2.2.2.2.2.2)
def sD (o : Ob) (v : List Int32) : Ob := (o.1, o.2.1, o.2.2.1, v, o.2.2.2.2.1, o.2.2.2.2.2.1, o.2.2.2.2.2.2.1, o.2.2.2.2.2.2.2.1, o.2.2.2.2.2.2.2.2.1, o.2.2.2.2.2.2.2.2.2.1, o.2.2.2.2.2.2.2.2.2.2.1, o.2.2.2.2.2.2.2.2.2.2.2.1, o.2.2.2.2.2.2.2.2.2.2.2.2.1, o.2.2.2.2.2.2.2.2.2.2.2.2.2.1, o.2.2.2.2.2.2.2.2.2.2.2.2.2.2.1, o.2.2.2.2.2.2.2.2.2.2.2.2.2.2.2.1, o.2.2.2.2.2.2.2.2.2.2.2.2.2.2.2.2.1, o.2.2.2.2.2.2.2.2.2.2.2.2.2.2.2.2.2.1, o.2.2.2.2.2.2.2.2.2.2.2.2.2.2.2.2.2.2.1, o.2.2.2.2.2.2.2.2.2.2.2.2.2.2.2.2.2.2.2.1, o.2.2.2.2.2.2.2.2.2.2.2.2.2.2.2.2.2.2.2.2.1, o.2.2.2.2.2.2.2.2.2.2.2.2.2.2.2.2.2.2.2.2.2.1, o.2.2.2.2.2.2.2.2.2.2.2.2.2.2.2.2.2.2.2.2.2.2.1, o.2.2.2.2.2.2.2.2.2.2.2.2.2.2.2.2.2.2.2.2.2.2.2.1, o.2.2.2.2.2.2.2.2.2.2.2.2.2.2.2.2.2.2.2.2.2.2.2.2.1, o.2.2.2.2.2.2.2.2.2.2.2.2.2.2.2.2.2.2.2.2.2.2.2.2.2.1, o.2.2.2.2.2.2.2.2.2.2.2.2.2.2.2.2.2.2.2.2.2.2.2.2.2.2.1, o.2.2.2.2.2.2.2.2.2.2.2.2.2.2.2.2.2.2.2.2.2.2.2.2.2.2.2.1, o.2.2.2.2.2.2.2.2.2.2.2.2.2.2.2.2.2.2.2.2.2.2.2.2.2.2.2.2.1, o.2.2.2.2.2.2.2.2.2.2.2.2.2.2.2.2.2.2.2.2.2.2.2.2.2.2.2.2.2.1, o.2.2.2.2.2.2.2.2.2.2.2.2.2.2.2.2.2.2.2.2.2.2.2.2.2.2.2.2.2.2.1, o.2.2.2.2.2.2.2.2.2.2.2.2.2.2.2.2.2.2.2.2.2.2.2.2.2.2.2.2.2.2.2.1, o.2.2.2.2.2.2.2.2.2.2.2.2.2.2.2.2.2.2.2.2.2.2.2.2.2.2.2.2.2.2.2.2.1, o.2.2.2.2.2.2.2.2.2.2.2.2.2.2.2.2.2.2.2.2.2.2.2.2.2.2.2.2.2.2.2.2.2.1, o.2.2.2.2.2.2.2.2.2.2.2.2.2.2.2.2.2.2.2.2.2.2.2.2.2.2.2.2.2.2.2.2.2.2.1, o.2.2.2.2.2.2.2.2.2.2.2.2.2.2.2.2.2.2.2.2.2.2.2.2.2.2.2.2.2.2.2.2.2.2.2)
def sE (o : Ob) (v : List Int32) : Ob := (o.1, o.2.1, o.2.2.1, o.2.2.2.1, v, o.2.2.2.2.2.1, o.2.2.2.2.2.2.1, o.2.2.2.2.2.2.2.1, o.2.2.2.2.2.2.2.2.1, o.2.2.2.2.2.2.2.2.2.1, o.2.2.2.2.2.2.2.2.2.2.1, o.2.2.2.2.2.2.2.2.2.2.2.1, o.2.2.2.2.2.2.2.2.2.2.2.2.1, o.2.2.2.2.2.2.2.2.2.2.2.2.2.1, o.2.2.2.2.2.2.2.2.2.2.2.2.2.2.1, o.2.2.2.2.2.2.2.2.2.2.2.2.2.2.2.1, o.2.2.2.2.2.2.2.2.2.2.2.2.2.2.2.2.1, o.2.2.2.2.2.2.2.2.2.2.2.2.2.2.2.2.2.1, o.2.2.2.2.2.2.2.2.2.2.2.2.2.2.2.2.2.2.1, o.2.2.2.2.2.2.2.2.2.2.2.2.2.2.2.2.2.2.2.1, o.2.2.2.2.2.2.2.2.2.2.2.2.2.2.2.2.2.2.2.2.1, o.2.2.2.2.2.2.2.2.2.2.2.2.2.2.2.2.2.2.2.2.2.1, o.2.2.2.2.2.2.2.2.2.2.2.2.2.2.2.2.2.2.2.2.2.2.1, o.2.2.2.2.2.2.2.2.2.2.2.2.2.2.2.2.2.2.2.2.2.2.2.1, o.2.2.2.2.2.2.2.2.2.2.2.2.2.2.2.2.2.2.2.2.2.2.2.2.1, o.2.2.2.2.2.2.2.2.2.2.2.2.2.2.2.2.2.2.2.2.2.2.2.2.2.1, o.2.2.2.2.2.2.2.2.2.2.2.2.2.2.2.2.2.2.2.2.2.2.2.2.2.2.1, o.2.2.2.2.2.2.2.2.2.2.2.2.2.2.2.2.2.2.2.2.2.2.2.2.2.2.2.1, o.2.2.2.2.2.2.2.2.2.2.2.2.2.2.2.2.2.2.2.2.2.2.2.2.2.2.2.2.1, o.2.2.2.2.2.2.2.2.2.2.2.2.2.2.2.2.2.2.2.2.2.2.2.2.2.2.2.2.2.1, o.2.2.2.2.2.2.2.2.2.2.2.2.2.2.2.2.2.2.2.2.2.2.2.2.2.2.2.2.2.2.1, o.2.2.2.2.2.2.2.2.2.2.2.2.2.2.2.2.2.2.2.2.2.2.2.2.2.2.2.2.2.2.2.1, o.2.2.2.2.2.2.2.2.2.2.2.2.2.2.2.2.2.2.2.2.2.2.2.2.2.2.2.2.2.2.2.2.1, o.2.2.2.2.2.2.2.2.2.2.2.2.2.2.2.2.2.2.2.2.2.2.2.2.2.2.2.2.2.2.2.2.2.1, o.2.2.2.2.2.2.2.2.2.2.2.2.2.2.2.2.2.2.2.2.2.2.2.2.2.2.2.2.2.2.2.2.2.2.1, o.2.2.2.2.2.2.2.2.2.2.2.2.2.2.2.2.2.2.2.2.2.2.2.2.2.2.2.2.2.2.2.2.2.2.2)
def sF (o : Ob) (v : List Int32) : Ob := (o.1, o.2.1, o.2.2.1, o.2.2.2.1, o.2.2.2.2.1, v, o.2.2.2.2.2.2.1, o.2.2.2.2.2.2.2.1, o.2.2.2.2.2.2.2.2.1, o.2.2.2.2.2.2.2.2.2.1, o.2.2.2.2.2.2.2.2.2.2.1, o.2.2.2.2.2.2.2.2.2.2.2.1, o.2.2.2.2.2.2.2.2.2.2.2.2.1, o.2.2.2.2.2.2.2.2.2.2.2.2.2.1, o.2.2.2.2.2.2.2.2.2.2.2.2.2.2.1, o.2.2.2.2.2.2.2.2.2.2.2.2.2.2.2.1, o.2.2.2.2.2.2.2.2.2.2.2.2.2.2.2.2.1, o.2.2.2.2.2.2.2.2.2.2.2.2.2.2.2.2.2.1, o.2.2.2.2.2.2.2.2.2.2.2.2.2.2.2.2.2.2.1, o.2.2.2.2.2.2.2.2.2.2.2.2.2.2.2.2.2.2.2.1, o.2.2.2.2.2.2.2.2.2.2.2.2.2.2.2.2.2.2.2.2.1, o.2.2.2.2.2.2.2.2.2.2.2.2.2.2.2.2.2.2.2.2.2.1, o.2.2.2.2.2.2.2.2.2.2.2.2.2.2.2.2.2.2.2.2.2.2.1, o.2.2.2.2.2.2.2.2.2.2.2.2.2.2.2.2.2.2.2.2.2.2.2.1, o.2.2.2.2.2.2.2.2.2.2.2.2.2.2.2.2.2.2.2.2.2.2.2.2.1, o.2.2.2.2.2.2.2.2.2.2.2.2.2.2.2.2.2.2.2.2.2.2.2.2.2.1, o.2.2.2.2.2.2.2.2.2.2.2.2.2.2.2.2.2.2.2.2.2.2.2.2.2.2.1, o.2.2.2.2.2.2.2.2.2.2.2.2.2.2.2.2.2.2.2.2.2.2.2.2.2.2.2.1, o.2.2.2.2.2.2.2.2.2.2.2.2.2.2.2.2.2.2.2.2.2.2.2.2.2.2.2.2.1, o.2.2.2.2.2.2.2.2.2.2.2.2.2.2.2.2.2.2.2.2.2.2.2.2.2.2.2.2.2.1, o.2.2.2.2.2.2.2.2.2.2.2.2.2.2.2.2.2.2.2.2.2.2.2.2.2.2.2.2.2.2.1, o.2.2.2.2.2.2.2.2.2.2.2.2.2.2.2.2.2.2.2.2.2.2.2.2.2.2.2.2.2.2.2.1, o.2.2.2.2.2.2.2.2.2.2.2.2.2.2.2.2.2.2.2.2.2.2.2.2.2.2.2.2.2.2.2.2.1, o.2.2.2.2.2.2.2.2.2.2.2.2.2.2.2.2.2.2.2.2.2.2.2.2.2.2.2.2.2.2.2.2.2.1, o.2.2.2.2.2.2.2.2.2.2.2.2.2.2.2.2.2.2.2.2.2.2.2.2.2.2.2.2.2.2.2.2.2.2.1, o.2.2.2.2.2.2.2.2.2.2.2.2.2.2.2.2.2.2.2.2.2.2.2.2.2.2.2.2.2.2.2.2.2.2.2)
def sG (o : Ob) (v : List Int32) : Ob := (o.1, o.2.1, o.2.2.1, o.2.2.2.1, o.2.2.2.2.1, o.2.2.2.2.2.1, v, o.2.2.2.2.2.2.2.1, o.2.2.2.2.2.2.2.2.1, o.2.2.2.2.2.2.2.2.2.1, o.2.2.2.2.2.2.2.2.2.2.1, o.2.2.2.2.2.2.2.2.2.2.2.1, o.2.2.2.2.2.2.2.2.2.2.2.2.1, o.2.2.2.2.2.2.2.2.2.2.2.2.2.1, o.2.2.2.2.2.2.2.2.2.2.2.2.2.2.1, o.2.2.2.2.2.2.2.2.2.2.2.2.2.2.2.1, o.2.2.2.2.2.2.2.2.2.2.2.2.2.2.2.2.1, o.2.2.2.2.2.2.2.2.2.2.2.2.2.2.2.2.2.1, o.2.2.2.2.2.2.2.2.2.2.2.2.2.2.2.2.2.2.1, o.2.2.2.2.2.2.2.2.2.2.2.2.2.2.2.2.2.2.2.1, o.2.2.2.2.2.2.2.2.2.2.2.2.2.2.2.2.2.2.2.2.1, o.2.2.2.2.2.2.2.2.2.2.2.2.2.2.2.2.2.2.2.2.2.1, o.2.2.2.2.2.2.2.2.2.2.2.2.2.2.2.2.2.2.2.2.2.2.1, o.2.2.2.2.2.2.2.2.2.2.2.2.2.2.2.2.2.2.2.2.2.2.2.1, o.2.2.2.2.2.2.2.2.2.2.2.2.2.2.2.2.2.2.2.2.2.2.2.2.1, o.2.2.2.2.2.2.2.2.2.2.2.2.2.2.2.2.2.2.2.2.2.2.2.2.2.1, o.2.2.2.2.2.2.2.2.2.2.2.2.2.2.2.2.2.2.2.2.2.2.2.2.2.2.1, o.2.2.2.2.2.2.2.2.2.2.2.2.2.2.2.2.2.2.2.2.2.2.2.2.2.2.2.1, o.2.2.2.2.2.2.2.2.2.2.2.2.2.2.2.2.2.2.2.2.2.2.2.2.2.2.2.2.1, o.2.2.2.2.2.2.2.2.2.2.2.2.2.2.2.2.2.2.2.2.2.2.2.2.2.2.2.2.2.1, o.2.2.2.2.2.2.2.2.2.2.2.2.2.2.2.2.2.2.2.2.2.2.2.2.2.2.2.2.2.2.1, o.2.2.2.2.2.2.2.2.2.2.2.2.2.2.2.2.2.2.2.2.2.2.2.2.2.2.2.2.2.2.2.1, o.2.2.2.2.2.2.2.2.2.2.2.2.2.2.2.2.2.2.2.2.2.2.2.2.2.2.2.2.2.2.2.2.1, o.2.2.2.2.2.2.2.2.2.2.2.2.2.2.2.2.2.2.2.2.2.2.2.2.2.2.2.2.2.2.2.2.2.1, o.2.2.2.2.2.2.2.2.2.2.2.2.2.2.2.2.2.2.2.2.2.2.2.2.2.2.2.2.2.2.2.2.2.2.1, o.2.2.2.2.2.2.2.2.2.2.2.2.2.2.2.2.2.2.2.2.2.2.2.2.2.2.2.2.2.2.2.2.2.2.2)
def sH (o : Ob) (v : List Int32) : Ob := (o.1, o.2.1, o.2.2.1, o.2.2.2.1, o.2.2.2.2.1, o.2.2.2.2.2.1, o.2.2.2.2.2.2.1, v, o.2.2.2.2.2.2.2.2.1, o.2.2.2.2.2.2.2.2.2.1, o.2.2.2.2.2.2.2.2.2.2.1, o.2.2.2.2.2.2.2.2.2.2.2.1, o.2.2.2.2.2.2.2.2.2.2.2.2.1, o.2.2.2.2.2.2.2.2.2.2.2.2.2.1, o.2.2.2.2.2.2.2.2.2.2.2.2.2.2.1, o.2.2.2.2.2.2.2.2.2.2.2.2.2.2.2.1, o.2.2.2.2.2.2.2.2.2.2.2.2.2.2.2.2.1, o.2.2.2.2.2.2.2.2.2.2.2.2.2.2.2.2.2.1, o.2.2.2.2.2.2.2.2.2.2.2.2.2.2.2.2.2.2.1, o.2.2.2.2.2.2.2.2.2.2.2.2.2.2.2.2.2.2.2.1, o.2.2.2.2.2.2.2.2.2.2.2.2.2.2.2.2.2.2.2.2.1, o.2.2.2.2.2.2.2.2.2.2.2.2.2.2.2.2.2.2.2.2.2.1, o.2.2.2.2.2.2.2.2.2.2.2.2.2.2.2.2.2.2.2.2.2.2.1, o.2.2.2.2.2.2.2.2.2.2.2.2.2.2.2.2.2.2.2.2.2.2.2.1, o.2.2.2.2.2.2.2.2.2.2.2.2.2.2.2.2.2.2.2.2.2.2.2.2.1, o.2.2.2.2.2.2.2.2.2.2.2.2.2.2.2.2.2.2.2.2.2.2.2.2.2.1, o.2.2.2.2.2.2.2.2.2.2.2.2.2.2.2.2.2.2.2.2.2.2.2.2.2.2.1, o.2.2.2.2.2.2.2.2.2.2.2.2.2.2.2.2.2.2.2.2.2.2.2.2.2.2.2.1, o.2.2.2.2.2.2.2.2.2.2.2.2.2.2.2.2.2.2.2.2.2.2.2.2.2.2.2.2.1, o.2.2.2.2.2.2.2.2.2.2.2.2.2.2.2.2.2.2.2.2.2.2.2.2.2.2.2.2.2.1, o.2.2.2.2.2.2.2.2.2.2.2.2.2.2.2.2.2.2.2.2.2.2.2.2.2.2.2.2.2.2.1, o.2.2.2.2.2.2.2.2.2.2.2.2.2.2.2.2.2.2.2.2.2.2.2.2.2.2.2.2.2.2.2.1, o.2.2.2.2.2.2.2.2.2.2.2.2.2.2.2.2.2.2.2.2.2.2.2.2.2.2.2.2.2.2.2.2.1, o.2.2.2.2.2.2.2.2.2.2.2.2.2.2.2.2.2.2.2.2.2.2.2.2.2.2.2.2.2.2.2.2.2.1, o.2.2.2.2.2.2.2.2.2.2.2.2.2.2.2.2.2.2.2.2.2.2.2.2.2.2.2.2.2.2.2.2.2.2.1, o.2.2.2.2.2.2.2.2.2.2.2.2.2.2.2.2.2.2.2.2.2.2.2.2.2.2.2.2.2.2.2.2.2.2.2)
def sI (o : Ob) (v : List Int32) : Ob := (o.1, o.2.1, o.2.2.1, o.2.2.2.1, o.2.2.2.2.1, o.2.2.2.2.2.1, o.2.2.2.2.2.2.1, o.2.2.2.2.2.2.2.1, v, o.2.2.2.2.2.2.2.2.2.1, o.2.2.2.2.2.2.2.2.2.2.1, o.2.2.2.2.2.2.2.2.2.2.2.1, o.2.2.2.2.2.2.2.2.2.2.2.2.1, o.2.2.2.2.2.2.2.2.2.2.2.2.2.1, o.2.2.2.2.2.2.2.2.2.2.2.2.2.2.1, o.2.2.2.2.2.2.2.2.2.2.2.2.2.2.2.1, o.2.2.2.2.2.2.2.2.2.2.2.2.2.2.2.2.1, o.2.2.2.2.2.2.2.2.2.2.2.2.2.2.2.2.2.1, o.2.2.2.2.2.2.2.2.2.2.2.2.2.2.2.2.2.2.1, o.2.2.2.2.2.2.2.2.2.2.2.2.2.2.2.2.2.2.2.1, o.2.2.2.2.2.2.2.2.2.2.2.2.2.2.2.2.2.2.2.2.1, o.2.2.2.2.2.2.2.2.2.2.2.2.2.2.2.2.2.2.2.2.2.1, o.2.2.2.2.2.2.2.2.2.2.2.2.2.2.2.2.2.2.2.2.2.2.1, o.2.2.2.2.2.2.2.2.2.2.2.2.2.2.2.2.2.2.2.2.2.2.2.1, o.2.2.2.2.2.2.2.2.2.2.2.2.2.2.2.2.2.2.2.2.2.2.2.2.1, o.2.2.2.2.2.2.2.2.2.2.2.2.2.2.2.2.2.2.2.2.2.2.2.2.2.1, o.2.2.2.2.2.2.2.2.2.2.2.2.2.2.2.2.2.2.2.2.2.2.2.2.2.2.1, o.2.2.2.2.2.2.2.2.2.2.2.2.2.2.2.2.2.2.2.2.2.2.2.2.2.2.2.1, o.2.2.2.2.2.2.2.2.2.2.2.2.2.2.2.2.2.2.2.2.2.2.2.2.2.2.2.2.1, o.2.2.2.2.2.2.2.2.2.2.2.2.2.2.2.2.2.2.2.2.2.2.2.2.2.2.2.2.2.1, o.2.2.2.2.2.2.2.2.2.2.2.2.2.2.2.2.2.2.2.2.2.2.2.2.2.2.2.2.2.2.1, o.2.2.2.2.2.2.2.2.2.2.2.2.2.2.2.2.2.2.2.2.2.2.2.2.2.2.2.2.2.2.2.1, o.2.2.2.2.2.2.2.2.2.2.2.2.2.2.2.2.2.2.2.2.2.2.2.2.2.2.2.2.2.2.2.2.1, o.2.2.2.2.2.2.2.2.2.2.2.2.2.2.2.2.2.2.2.2.2.2.2.2.2.2.2.2.2.2.2.2.2.1, o.2.2.2.2.2.2.2.2.2.2.2.2.2.2.2.2.2.2.2.2.2.2.2.2.2.2.2.2.2.2.2.2.2.2.1, o.2.2.2.2.2.2.2.2.2.2.2.2.2.2.2.2.2.2.2.2.2.2.2.2.2.2.2.2.2.2.2.2.2.2.2)
def sJ (o : Ob) (v : List Int32) : Ob := (o.1, o.2.1, o.2.2.1, o.2.2.2.1, o.2.2.2.2.1, o.2.2.2.2.2.1, o.2.2.2.2.2.2.1, o.2.2.2.2.2.2.2.1, o.2.2.2.2.2.2.2.2.1, v, o.2.2.2.2.2.2.2.2.2.2.1, o.2.2.2.2.2.2.2.2.2.2.2.1, o.2.2.2.2.2.2.2.2.2.2.2.2.1, o.2.2.2.2.2.2.2.2.2.2.2.2.2.1, o.2.2.2.2.2.2.2.2.2.2.2.2.2.2.1, o.2.2.2.2.2.2.2.2.2.2.2.2.2.2.2.1, o.2.2.2.2.2.2.2.2.2.2.2.2.2.2.2.2.1, o.2.2.2.2.2.2.2.2.2.2.2.2.2.2.2.2.2.1, o.2.2.2.2.2.2.2.2.2.2.2.2.2.2.2.2.2.2.1, o.2.2.2.2.2.2.2.2.2.2.2.2.2.2.2.2.2.2.2.1, o.2.2.2.2.2.2.2.2.2.2.2.2.2.2.2.2.2.2.2.2.1, o.2.2.2.2.2.2.2.2.2.2.2.2.2.2.2.2.2.2.2.2.2.1, o.2.2.2.2.2.2.2.2.2.2.2.2.2.2.2.2.2.2.2.2.2.2.1, o.2.2.2.2.2.2.2.2.2.2.2.2.2.2.2.2.2.2.2.2.2.2.2.1, o.2.2.2.2.2.2.2.2.2.2.2.2.2.2.2.2.2.2.2.2.2.2.2.2.1, o.2.2.2.2.2.2.2.2.2.2.2.2.2.2.2.2.2.2.2.2.2.2.2.2.2.1, o.2.2.2.2.2.2.2.2.2.2.2.2.2.2.2.2.2.2.2.2.2.2.2.2.2.2.1, o.2.2.2.2.2.2.2.2.2.2.2.2.2.2.2.2.2.2.2.2.2.2.2.2.2.2.2.1, o.2.2.2.2.2.2.2.2.2.2.2.2.2.2.2.2.2.2.2.2.2.2.2.2.2.2.2.2.1, o.2.2.2.2.2.2.2.2.2.2.2.2.2.2.2.2.2.2.2.2.2.2.2.2.2.2.2.2.2.1, o.2.2.2.2.2.2.2.2.2.2.2.2.2.2.2.2.2.2.2.2.2.2.2.2.2.2.2.2.2.2.1, o.2.2.2.2.2.2.2.2.2.2.2.2.2.2.2.2.2.2.2.2.2.2.2.2.2.2.2.2.2.2.2.1, o.2.2.2.2.2.2.2.2.2.2.2.2.2.2.2.2.2.2.2.2.2.2.2.2.2.2.2.2.2.2.2.2.1, o.2.2.2.2.2.2.2.2.2.2.2.2.2.2.2.2.2.2.2.2.2.2.2.2.2.2.2.2.2.2.2.2.2.1, o.2.2.2.2.2.2.2.2.2.2.2.2.2.2.2.2.2.2.2.2.2.2.2.2.2.2.2.2.2.2.2.2.2.2.1, o.2.2.2.2.2.2.2.2.2.2.2.2.2.2.2.2.2.2.2.2.2.2.2.2.2.2.2.2.2.2.2.2.2.2.2)
def sK (o : Ob) (v : List Int32) : Ob := (o.1, o.2.1, o.2.2.1, o.2.2.2.1, o.2.2.2.2.1, o.2.2.2.2.2.1, o.2.2.2.2.2.2.1, o.2.2.2.2.2.2.2.1, o.2.2.2.2.2.2.2.2.1, o.2.2.2.2.2.2.2.2.2.1, v, o.2.2.2.2.2.2.2.2.2.2.2.1, o.2.2.2.2.2.2.2.2.2.2.2.2.1, o.2.2.2.2.2.2.2.2.2.2.2.2.2.1, o.2.2.2.2.2.2.2.2.2.2.2.2.2.2.1, o.2.2.2.2.2.2.2.2.2.2.2.2.2.2.2.1, o.2.2.2.2.2.2.2.2.2.2.2.2.2.2.2.2.1, o.2.2.2.2.2.2.2.2.2.2.2.2.2.2.2.2.2.1, o.2.2.2.2.2.2.2.2.2.2.2.2.2.2.2.2.2.2.1, o.2.2.2.2.2.2.2.2.2.2.2.2.2.2.2.2.2.2.2.1, o.2.2.2.2.2.2.2.2.2.2.2.2.2.2.2.2.2.2.2.2.1, o.2.2.2.2.2.2.2.2.2.2.2.2.2.2.2.2.2.2.2.2.2.1, o.2.2.2.2.2.2.2.2.2.2.2.2.2.2.2.2.2.2.2.2.2.2.1, o.2.2.2.2.2.2.2.2.2.2.2.2.2.2.2.2.2.2.2.2.2.2.2.1, o.2.2.2.2.2.2.2.2.2.2.2.2.2.2.2.2.2.2.2.2.2.2.2.2.1, o.2.2.2.2.2.2.2.2.2.2.2.2.2.2.2.2.2.2.2.2.2.2.2.2.2.1, o.2.2.2.2.2.2.2.2.2.2.2.2.2.2.2.2.2.2.2.2.2.2.2.2.2.2.1, o.2.2.2.2.2.2.2.2.2.2.2.2.2.2.2.2.2.2.2.2.2.2.2.2.2.2.2.1, o.2.2.2.2.2.2.2.2.2.2.2.2.2.2.2.2.2.2.2.2.2.2.2.2.2.2.2.2.1, o.2.2.2.2.2.2.2.2.2.2.2.2.2.2.2.2.2.2.2.2.2.2.2.2.2.2.2.2.2.1, o.2.2.2.2.2.2.2.2.2.2.2.2.2.2.2.2.2.2.2.2.2.2.2.2.2.2.2.2.2.2.1, o.2.2.2.2.2.2.2.2.2.2.2.2.2.2.2.2.2.2.2.2.2.2.2.2.2.2.2.2.2.2.2.1, o.2.2.2.2.2.2.2.2.2.2.2.2.2.2.2.2.2.2.2.2.2.2.2.2.2.2.2.2.2.2.2.2.1, o.2.2.2.2.2.2.2.2.2.2.2.2.2.2.2.2.2.2.2.2.2.2.2.2.2.2.2.2.2.2.2.2.2.1, o.2.2.2.2.2.2.2.2.2.2.2.2.2.2.2.2.2.2.2.2.2.2.2.2.2.2.2.2.2.2.2.2.2.2.1, o.2.2.2.2.2.2.2.2.2.2.2.2.2.2.2.2.2.2.2.2.2.2.2.2.2.2.2.2.2.2.2.2.2.2.2)
def sL (o : Ob) (v : List Int32) : Ob := (o.1, o.2.1, o.2.2.1, o.2.2.2.1, o.2.2.2.2.1, o.2.2.2.2.2.1, o.2.2.2.2.2.2.1, o.2.2.2.2.2.2.2.1, o.2.2.2.2.2.2.2.2.1, o.2.2.2.2.2.2.2.2.2.1, o.2.2.2.2.2.2.2.2.2.2.1, v, o.2.2.2.2.2.2.2.2.2.2.2.2.1, o.2.2.2.2.2.2.2.2.2.2.2.2.2.1, o.2.2.2.2.2.2.2.2.2.2.2.2.2.2.1, o.2.2.2.2.2.2.2.2.2.2.2.2.2.2.2.1, o.2.2.2.2.2.2.2.2.2.2.2.2.2.2.2.2.1, o.2.2.2.2.2.2.2.2.2.2.2.2.2.2.2.2.2.1, o.2.2.2.2.2.2.2.2.2.2.2.2.2.2.2.2.2.2.1, o.2.2.2.2.2.2.2.2.2.2.2.2.2.2.2.2.2.2.2.1, o.2.2.2.2.2.2.2.2.2.2.2.2.2.2.2.2.2.2.2.2.1, o.2.2.2.2.2.2.2.2.2.2.2.2.2.2.2.2.2.2.2.2.2.1, o.2.2.2.2.2.2.2.2.2.2.2.2.2.2.2.2.2.2.2.2.2.2.1, o.2.2.2.2.2.2.2.2.2.2.2.2.2.2.2.2.2.2.2.2.2.2.2.1, o.2.2.2.2.2.2.2.2.2.2.2.2.2.2.2.2.2.2.2.2.2.2.2.2.1, o.2.2.2.2.2.2.2.2.2.2.2.2.2.2.2.2.2.2.2.2.2.2.2.2.2.1, o.2.2.2.2.2.2.2.2.2.2.2.2.2.2.2.2.2.2.2.2.2.2.2.2.2.2.1, o.2.2.2.2.2.2.2.2.2.2.2.2.2.2.2.2.2.2.2.2.2.2.2.2.2.2.2.1, o.2.2.2.2.2.2.2.2.2.2.2.2.2.2.2.2.2.2.2.2.2.2.2.2.2.2.2.2.1, o.2.2.2.2.2.2.2.2.2.2.2.2.2.2.2.2.2.2.2.2.2.2.2.2.2.2.2.2.2.1, o.2.2.2.2.2.2.2.2.2.2.2.2.2.2.2.2.2.2.2.2.2.2.2.2.2.2.2.2.2.2.1, o.2.2.2.2.2.2.2.2.2.2.2.2.2.2.2.2.2.2.2.2.2.2.2.2.2.2.2.2.2.2.2.1, o.2.2.2.2.2.2.2.2.2.2.2.2.2.2.2.2.2.2.2.2.2.2.2.2.2.2.2.2.2.2.2.2.1, o.2.2.2.2.2.2.2.2.2.2.2.2.2.2.2.2.2.2.2.2.2.2.2.2.2.2.2.2.2.2.2.2.2.1, o.2.2.2.2.2.2.2.2.2.2.2.2.2.2.2.2.2.2.2.2.2.2.2.2.2.2.2.2.2.2.2.2.2.2.1, o.2.2.2.2.2.2.2.2.2.2.2.2.2.2.2.2.2.2.2.2.2.2.2.2.2.2.2.2.2.2.2.2.2.2.2)
def sM (o : Ob) (v : List Int32) : Ob := (o.1, o.2.1, o.2.2.1, o.2.2.2.1, o.2.2.2.2.1, o.2.2.2.2.2.1, o.2.2.2.2.2.2.1, o.2.2.2.2.2.2.2.1, o.2.2.2.2.2.2.2.2.1, o.2.2.2.2.2.2.2.2.2.1, o.2.2.2.2.2.2.2.2.2.2.1, o.2.2.2.2.2.2.2.2.2.2.2.1, v, o.2.2.2.2.2.2.2.2.2.2.2.2.2.1, o.2.2.2.2.2.2.2.2.2.2.2.2.2.2.1, o.2.2.2.2.2.2.2.2.2.2.2.2.2.2.2.1, o.2.2.2.2.2.2.2.2.2.2.2.2.2.2.2.2.1, o.2.2.2.2.2.2.2.2.2.2.2.2.2.2.2.2.2.1, o.2.2.2.2.2.2.2.2.2.2.2.2.2.2.2.2.2.2.1, o.2.2.2.2.2.2.2.2.2.2.2.2.2.2.2.2.2.2.2.1, o.2.2.2.2.2.2.2.2.2.2.2.2.2.2.2.2.2.2.2.2.1, o.2.2.2.2.2.2.2.2.2.2.2.2.2.2.2.2.2.2.2.2.2.1, o.2.2.2.2.2.2.2.2.2.2.2.2.2.2.2.2.2.2.2.2.2.2.1, o.2.2.2.2.2.2.2.2.2.2.2.2.2.2.2.2.2.2.2.2.2.2.2.1, o.2.2.2.2.2.2.2.2.2.2.2.2.2.2.2.2.2.2.2.2.2.2.2.2.1, o.2.2.2.2.2.2.2.2.2.2.2.2.2.2.2.2.2.2.2.2.2.2.2.2.2.1, o.2.2.2.2.2.2.2.2.2.2.2.2.2.2.2.2.2.2.2.2.2.2.2.2.2.2.1, o.2.2.2.2.2.2.2.2.2.2.2.2.2.2.2.2.2.2.2.2.2.2.2.2.2.2.2.1, o.2.2.2.2.2.2.2.2.2.2.2.2.2.2.2.2.2.2.2.2.2.2.2.2.2.2.2.2.1, o.2.2.2.2.2.2.2.2.2.2.2.2.2.2.2.2.2.2.2.2.2.2.2.2.2.2.2.2.2.1, o.2.2.2.2.2.2.2.2.2.2.2.2.2.2.2.2.2.2.2.2.2.2.2.2.2.2.2.2.2.2.1, o.2.2.2.2.2.2.2.2.2.2.2.2.2.2.2.2.2.2.2.2.2.2.2.2.2.2.2.2.2.2.2.1, o.2.2.2.2.2.2.2.2.2.2.2.2.2.2.2.2.2.2.2.2.2.2.2.2.2.2.2.2.2.2.2.2.1, o.2.2.2.2.2.2.2.2.2.2.2.2.2.2.2.2.2.2.2.2.2.2.2.2.2.2.2.2.2.2.2.2.2.1, o.2.2.2.2.2.2.2.2.2.2.2.2.2.2.2.2.2.2.2.2.2.2.2.2.2.2.2.2.2.2.2.2.2.2.1, o.2.2.2.2.2.2.2.2.2.2.2.2.2.2.2.2.2.2.2.2.2.2.2.2.2.2.2.2.2.2.2.2.2.2.2)
def sO (o : Ob) (v : List Int32) : Ob := (o.1, o.2.1, o.2.2.1, o.2.2.2.1, o.2.2.2.2.1, o.2.2.2.2.2.1, o.2.2.2.2.2.2.1, o.2.2.2.2.2.2.2.1, o.2.2.2.2.2.2.2.2.1, o.2.2.2.2.2.2.2.2.2.1, o.2.2.2.2.2.2.2.2.2.2.1, o.2.2.2.2.2.2.2.2.2.2.2.1, o.2.2.2.2.2.2.2.2.2.2.2.2.1, v, o.2.2.2.2.2.2.2.2.2.2.2.2.2.2.1, o.2.2.2.2.2.2.2.2.2.2.2.2.2.2.2.1, o.2.2.2.2.2.2.2.2.2.2.2.2.2.2.2.2.1, o.2.2.2.2.2.2.2.2.2.2.2.2.2.2.2.2.2.1, o.2.2.2.2.2.2.2.2.2.2.2.2.2.2.2.2.2.2.1, o.2.2.2.2.2.2.2.2.2.2.2.2.2.2.2.2.2.2.2.1, o.2.2.2.2.2.2.2.2.2.2.2.2.2.2.2.2.2.2.2.2.1, o.2.2.2.2.2.2.2.2.2.2.2.2.2.2.2.2.2.2.2.2.2.1, o.2.2.2.2.2.2.2.2.2.2.2.2.2.2.2.2.2.2.2.2.2.2.1, o.2.2.2.2.2.2.2.2.2.2.2.2.2.2.2.2.2.2.2.2.2.2.2.1, o.2.2.2.2.2.2.2.2.2.2.2.2.2.2.2.2.2.2.2.2.2.2.2.2.1, o.2.2.2.2.2.2.2.2.2.2.2.2.2.2.2.2.2.2.2.2.2.2.2.2.2.1, o.2.2.2.2.2.2.2.2.2.2.2.2.2.2.2.2.2.2.2.2.2.2.2.2.2.2.1, o.2.2.2.2.2.2.2.2.2.2.2.2.2.2.2.2.2.2.2.2.2.2.2.2.2.2.2.1, o.2.2.2.2.2.2.2.2.2.2.2.2.2.2.2.2.2.2.2.2.2.2.2.2.2.2.2.2.1, o.2.2.2.2.2.2.2.2.2.2.2.2.2.2.2.2.2.2.2.2.2.2.2.2.2.2.2.2.2.1, o.2.2.2.2.2.2.2.2.2.2.2.2.2.2.2.2.2.2.2.2.2.2.2.2.2.2.2.2.2.2.1, o.2.2.2.2.2.2.2.2.2.2.2.2.2.2.2.2.2.2.2.2.2.2.2.2.2.2.2.2.2.2.2.1, o.2.2.2.2.2.2.2.2.2.2.2.2.2.2.2.2.2.2.2.2.2.2.2.2.2.2.2.2.2.2.2.2.1, o.2.2.2.2.2.2.2.2.2.2.2.2.2.2.2.2.2.2.2.2.2.2.2.2.2.2.2.2.2.2.2.2.2.1, o.2.2.2.2.2.2.2.2.2.2.2.2.2.2.2.2.2.2.2.2.2.2.2.2.2.2.2.2.2.2.2.2.2.2.1, o.2.2.2.2.2.2.2.2.2.2.2.2.2.2.2.2.2.2.2.2.2.2.2.2.2.2.2.2.2.2.2.2.2.2.2)
def sP (o : Ob) (v : List Int32) : Ob := (o.1, o.2.1, o.2.2.1, o.2.2.2.1, o.2.2.2.2.1, o.2.2.2.2.2.1, o.2.2.2.2.2.2.1, o.2.2.2.2.2.2.2.1, o.2.2.2.2.2.2.2.2.1, o.2.2.2.2.2.2.2.2.2.1, o.2.2.2.2.2.2.2.2.2.2.1, o.2.2.2.2.2.2.2.2.2.2.2.1, o.2.2.2.2.2.2.2.2.2.2.2.2.1, o.2.2.2.2.2.2.2.2.2.2.2.2.2.1, v, o.2.2.2.2.2.2.2.2.2.2.2.2.2.2.2.1, o.2.2.2.2.2.2.2.2.2.2.2.2.2.2.2.2.1, o.2.2.2.2.2.2.2.2.2.2.2.2.2.2.2.2.2.1, o.2.2.2.2.2.2.2.2.2.2.2.2.2.2.2.2.2.2.1, o.2.2.2.2.2.2.2.2.2.2.2.2.2.2.2.2.2.2.2.1, o.2.2.2.2.2.2.2.2.2.2.2.2.2.2.2.2.2.2.2.2.1, o.2.2.2.2.2.2.2.2.2.2.2.2.2.2.2.2.2.2.2.2.2.1, o.2.2.2.2.2.2.2.2.2.2.2.2.2.2.2.2.2.2.2.2.2.2.1, o.2.2.2.2.2.2.2.2.2.2.2.2.2.2.2.2.2.2.2.2.2.2.2.1, o.2.2.2.2.2.2.2.2.2.2.2.2.2.2.2.2.2.2.2.2.2.2.2.2.1, o.2.2.2.2.2.2.2.2.2.2.2.2.2.2.2.2.2.2.2.2.2.2.2.2.2.1, o.2.2.2.2.2.2.2.2.2.2.2.2.2.2.2.2.2.2.2.2.2.2.2.2.2.2.1, o.2.2.2.2.2.2.2.2.2.2.2.2.2.2.2.2.2.2.2.2.2.2.2.2.2.2.2.1, o.2.2.2.2.2.2.2.2.2.2.2.2.2.2.2.2.2.2.2.2.2.2.2.2.2.2.2.2.1, o.2.2.2.2.2.2.2.2.2.2.2.2.2.2.2.2.2.2.2.2.2.2.2.2.2.2.2.2.2.1, o.2.2.2.2.2.2.2.2.2.2.2.2.2.2.2.2.2.2.2.2.2.2.2.2.2.2.2.2.2.2.1, o.2.2.2.2.2.2.2.2.2.2.2.2.2.2.2.2.2.2.2.2.2.2.2.2.2.2.2.2.2.2.2.1, o.2.2.2.2.2.2.2.2.2.2.2.2.2.2.2.2.2.2.2.2.2.2.2.2.2.2.2.2.2.2.2.2.1, o.2.2.2.2.2.2.2.2.2.2.2.2.2.2.2.2.2.2.2.2.2.2.2.2.2.2.2.2.2.2.2.2.2.1, o.2.2.2.2.2.2.2.2.2.2.2.2.2.2.2.2.2.2.2.2.2.2.2.2.2.2.2.2.2.2.2.2.2.2.1, o.2.2.2.2.2.2.2.2.2.2.2.2.2.2.2.2.2.2.2.2.2.2.2.2.2.2.2.2.2.2.2.2.2.2.2)
def sQ (o : Ob) (v : List Int32) : Ob := (o.1, o.2.1, o.2.2.1, o.2.2.2.1, o.2.2.2.2.1, o.2.2.2.2.2.1, o.2.2.2.2.2.2.1, o.2.2.2.2.2.2.2.1, o.2.2.2.2.2.2.2.2.1, o.2.2.2.2.2.2.2.2.2.1, o.2.2.2.2.2.2.2.2.2.2.1, o.2.2.2.2.2.2.2.2.2.2.2.1, o.2.2.2.2.2.2.2.2.2.2.2.2.1, o.2.2.2.2.2.2.2.2.2.2.2.2.2.1, o.2.2.2.2.2.2.2.2.2.2.2.2.2.2.1, v, o.2.2.2.2.2.2.2.2.2.2.2.2.2.2.2.2.1, o.2.2.2.2.2.2.2.2.2.2.2.2.2.2.2.2.2.1, o.2.2.2.2.2.2.2.2.2.2.2.2.2.2.2.2.2.2.1, o.2.2.2.2.2.2.2.2.2.2.2.2.2.2.2.2.2.2.2.1, o.2.2.2.2.2.2.2.2.2.2.2.2.2.2.2.2.2.2.2.2.1, o.2.2.2.2.2.2.2.2.2.2.2.2.2.2.2.2.2.2.2.2.2.1, o.2.2.2.2.2.2.2.2.2.2.2.2.2.2.2.2.2.2.2.2.2.2.1, o.2.2.2.2.2.2.2.2.2.2.2.2.2.2.2.2.2.2.2.2.2.2.2.1, o.2.2.2.2.2.2.2.2.2.2.2.2.2.2.2.2.2.2.2.2.2.2.2.2.1, o.2.2.2.2.2.2.2.2.2.2.2.2.2.2.2.2.2.2.2.2.2.2.2.2.2.1, o.2.2.2.2.2.2.2.2.2.2.2.2.2.2.2.2.2.2.2.2.2.2.2.2.2.2.1, o.2.2.2.2.2.2.2.2.2.2.2.2.2.2.2.2.2.2.2.2.2.2.2.2.2.2.2.1, o.2.2.2.2.2.2.2.2.2.2.2.2.2.2.2.2.2.2.2.2.2.2.2.2.2.2.2.2.1, o.2.2.2.2.2.2.2.2.2.2.2.2.2.2.2.2.2.2.2.2.2.2.2.2.2.2.2.2.2.1, o.2.2.2.2.2.2.2.2.2.2.2.2.2.2.2.2.2.2.2.2.2.2.2.2.2.2.2.2.2.2.1, o.2.2.2.2.2.2.2.2.2.2.2.2.2.2.2.2.2.2.2.2.2.2.2.2.2.2.2.2.2.2.2.1, o.2.2.2.2.2.2.2.2.2.2.2.2.2.2.2.2.2.2.2.2.2.2.2.2.2.2.2.2.2.2.2.2.1, o.2.2.2.2.2.2.2.2.2.2.2.2.2.2.2.2.2.2.2.2.2.2.2.2.2.2.2.2.2.2.2.2.2.1, o.2.2.2.2.2.2.2.2.2.2.2.2.2.2.2.2.2.2.2.2.2.2.2.2.2.2.2.2.2.2.2.2.2.2.1, o.2.2.2.2.2.2.2.2.2.2.2.2.2.2.2.2.2.2.2.2.2.2.2.2.2.2.2.2.2.2.2.2.2.2.2)
def sR (o : Ob) (v : List Int32) : Ob := (o.1, o.2.1, o.2.2.1, o.2.2.2.1, o.2.2.2.2.1, o.2.2.2.2.2.1, o.2.2.2.2.2.2.1, o.2.2.2.2.2.2.2.1, o.2.2.2.2.2.2.2.2.1, o.2.2.2.2.2.2.2.2.2.1, o.2.2.2.2.2.2.2.2.2.2.1, o.2.2.2.2.2.2.2.2.2.2.2.1, o.2.2.2.2.2.2.2.2.2.2.2.2.1, o.2.2.2.2.2.2.2.2.2.2.2.2.2.1, o.2.2.2.2.2.2.2.2.2.2.2.2.2.2.1, o.2.2.2.2.2.2.2.2.2.2.2.2.2.2.2.1, v, o.2.2.2.2.2.2.2.2.2.2.2.2.2.2.2.2.2.1, o.2.2.2.2.2.2.2.2.2.2.2.2.2.2.2.2.2.2.1, o.2.2.2.2.2.2.2.2.2.2.2.2.2.2.2.2.2.2.2.1, o.2.2.2.2.2.2.2.2.2.2.2.2.2.2.2.2.2.2.2.2.1, o.2.2.2.2.2.2.2.2.2.2.2.2.2.2.2.2.2.2.2.2.2.1, o.2.2.2.2.2.2.2.2.2.2.2.2.2.2.2.2.2.2.2.2.2.2.1, o.2.2.2.2.2.2.2.2.2.2.2.2.2.2.2.2.2.2.2.2.2.2.2.1, o.2.2.2.2.2.2.2.2.2.2.2.2.2.2.2.2.2.2.2.2.2.2.2.2.1, o.2.2.2.2.2.2.2.2.2.2.2.2.2.2.2.2.2.2.2.2.2.2.2.2.2.1, o.2.2.2.2.2.2.2.2.2.2.2.2.2.2.2.2.2.2.2.2.2.2.2.2.2.2.1, o.2.2.2.2.2.2.2.2.2.2.2.2.2.2.2.2.2.2.2.2.2.2.2.2.2.2.2.1, o.2.2.2.2.2.2.2.2.2.2.2.2.2.2.2.2.2.2.2.2.2.2.2.2.2.2.2.2.1, o.2.2.2.2.2.2.2.2.2.2.2.2.2.2.2.2.2.2.2.2.2.2.2.2.2.2.2.2.2.1, o.2.2.2.2.2.2.2.2.2.2.2.2.2.2.2.2.2.2.2.2.2.2.2.2.2.2.2.2.2.2.1, o.2.2.2.2.2.2.2.2.2.2.2.2.2.2.2.2.2.2.2.2.2.2.2.2.2.2.2.2.2.2.2.1, o.2.2.2.2.2.2.2.2.2.2.2.2.2.2.2.2.2.2.2.2.2.2.2.2.2.2.2.2.2.2.2.2.1, o.2.2.2.2.2.2.2.2.2.2.2.2.2.2.2.2.2.2.2.2.2.2.2.2.2.2.2.2.2.2.2.2.2.1, o.2.2.2.2.2.2.2.2.2.2.2.2.2.2.2.2.2.2.2.2.2.2.2.2.2.2.2.2.2.2.2.2.2.2.1, o.2.2.2.2.2.2.2.2.2.2.2.2.2.2.2.2.2.2.2.2.2.2.2.2.2.2.2.2.2.2.2.2.2.2.2)
def sT (o : Ob) (v : List Int32) : Ob := (o.1, o.2.1, o.2.2.1, o.2.2.2.1, o.2.2.2.2.1, o.2.2.2.2.2.1, o.2.2.2.2.2.2.1, o.2.2.2.2.2.2.2.1, o.2.2.2.2.2.2.2.2.1, o.2.2.2.2.2.2.2.2.2.1, o.2.2.2.2.2.2.2.2.2.2.1, o.2.2.2.2.2.2.2.2.2.2.2.1, o.2.2.2.2.2.2.2.2.2.2.2.2.1, o.2.2.2.2.2.2.2.2.2.2.2.2.2.1, o.2.2.2.2.2.2.2.2.2.2.2.2.2.2.1, o.2.2.2.2.2.2.2.2.2.2.2.2.2.2.2.1, o.2.2.2.2.2.2.2.2.2.2.2.2.2.2.2.2.1, v, o.2.2.2.2.2.2.2.2.2.2.2.2.2.2.2.2.2.2.1, o.2.2.2.2.2.2.2.2.2.2.2.2.2.2.2.2.2.2.2.1, o.2.2.2.2.2.2.2.2.2.2.2.2.2.2.2.2.2.2.2.2.1, o.2.2.2.2.2.2.2.2.2.2.2.2.2.2.2.2.2.2.2.2.2.1, o.2.2.2.2.2.2.2.2.2.2.2.2.2.2.2.2.2.2.2.2.2.2.1, o.2.2.2.2.2.2.2.2.2.2.2.2.2.2.2.2.2.2.2.2.2.2.2.1, o.2.2.2.2.2.2.2.2.2.2.2.2.2.2.2.2.2.2.2.2.2.2.2.2.1, o.2.2.2.2.2.2.2.2.2.2.2.2.2.2.2.2.2.2.2.2.2.2.2.2.2.1, o.2.2.2.2.2.2.2.2.2.2.2.2.2.2.2.2.2.2.2.2.2.2.2.2.2.2.1, o.2.2.2.2.2.2.2.2.2.2.2.2.2.2.2.2.2.2.2.2.2.2.2.2.2.2.2.1, o.2.2.2.2.2.2.2.2.2.2.2.2.2.2.2.2.2.2.2.2.2.2.2.2.2.2.2.2.1, o.2.2.2.2.2.2.2.2.2.2.2.2.2.2.2.2.2.2.2.2.2.2.2.2.2.2.2.2.2.1, o.2.2.2.2.2.2.2.2.2.2.2.2.2.2.2.2.2.2.2.2.2.2.2.2.2.2.2.2.2.2.1, o.2.2.2.2.2.2.2.2.2.2.2.2.2.2.2.2.2.2.2.2.2.2.2.2.2.2.2.2.2.2.2.1, o.2.2.2.2.2.2.2.2.2.2.2.2.2.2.2.2.2.2.2.2.2.2.2.2.2.2.2.2.2.2.2.2.1, o.2.2.2.2.2.2.2.2.2.2.2.2.2.2.2.2.2.2.2.2.2.2.2.2.2.2.2.2.2.2.2.2.2.1, o.2.2.2.2.2.2.2.2.2.2.2.2.2.2.2.2.2.2.2.2.2.2.2.2.2.2.2.2.2.2.2.2.2.2.1, o.2.2.2.2.2.2.2.2.2.2.2.2.2.2.2.2.2.2.2.2.2.2.2.2.2.2.2.2.2.2.2.2.2.2.2)
def sU (o : Ob) (v : List Int32) : Ob := (o.1, o.2.1, o.2.2.1, o.2.2.2.1, o.2.2.2.2.1, o.2.2.2.2.2.1, o.2.2.2.2.2.2.1, o.2.2.2.2.2.2.2.1, o.2.2.2.2.2.2.2.2.1, o.2.2.2.2.2.2.2.2.2.1, o.2.2.2.2.2.2.2.2.2.2.1, o.2.2.2.2.2.2.2.2.2.2.2.1, o.2.2.2.2.2.2.2.2.2.2.2.2.1, o.2.2.2.2.2.2.2.2.2.2.2.2.2.1, o.2.2.2.2.2.2.2.2.2.2.2.2.2.2.1, o.2.2.2.2.2.2.2.2.2.2.2.2.2.2.2.1, o.2.2.2.2.2.2.2.2.2.2.2.2.2.2.2.2.1, o.2.2.2.2.2.2.2.2.2.2.2.2.2.2.2.2.2.1, v, o.2.2.2.2.2.2.2.2.2.2.2.2.2.2.2.2.2.2.2.1, o.2.2.2.2.2.2.2.2.2.2.2.2.2.2.2.2.2.2.2.2.1, o.2.2.2.2.2.2.2.2.2.2.2.2.2.2.2.2.2.2.2.2.2.1, o.2.2.2.2.2.2.2.2.2.2.2.2.2.2.2.2.2.2.2.2.2.2.1, o.2.2.2.2.2.2.2.2.2.2.2.2.2.2.2.2.2.2.2.2.2.2.2.1, o.2.2.2.2.2.2.2.2.2.2.2.2.2.2.2.2.2.2.2.2.2.2.2.2.1, o.2.2.2.2.2.2.2.2.2.2.2.2.2.2.2.2.2.2.2.2.2.2.2.2.2.1, o.2.2.2.2.2.2.2.2.2.2.2.2.2.2.2.2.2.2.2.2.2.2.2.2.2.2.1, o.2.2.2.2.2.2.2.2.2.2.2.2.2.2.2.2.2.2.2.2.2.2.2.2.2.2.2.1, o.2.2.2.2.2.2.2.2.2.2.2.2.2.2.2.2.2.2.2.2.2.2.2.2.2.2.2.2.1, o.2.2.2.2.2.2.2.2.2.2.2.2.2.2.2.2.2.2.2.2.2.2.2.2.2.2.2.2.2.1, o.2.2.2.2.2.2.2.2.2.2.2.2.2.2.2.2.2.2.2.2.2.2.2.2.2.2.2.2.2.2.1, o.2.2.2.2.2.2.2.2.2.2.2.2.2.2.2.2.2.2.2.2.2.2.2.2.2.2.2.2.2.2.2.1, o.2.2.2.2.2.2.2.2.2.2.2.2.2.2.2.2.2.2.2.2.2.2.2.2.2.2.2.2.2.2.2.2.1, o.2.2.2.2.2.2.2.2.2.2.2.2.2.2.2.2.2.2.2.2.2.2.2.2.2.2.2.2.2.2.2.2.2.1, o.2.2.2.2.2.2.2.2.2.2.2.2.2.2.2.2.2.2.2.2.2.2.2.2.2.2.2.2.2.2.2.2.2.2.1, o.2.2.2.2.2.2.2.2.2.2.2.2.2.2.2.2.2.2.2.2.2.2.2.2.2.2.2.2.2.2.2.2.2.2.2)
def sV (o : Ob) (v : List Int32) : Ob := (o.1, o.2.1, o.2.2.1, o.2.2.2.1, o.2.2.2.2.1, o.2.2.2.2.2.1, o.2.2.2.2.2.2.1, o.2.2.2.2.2.2.2.1, o.2.2.2.2.2.2.2.2.1, o.2.2.2.2.2.2.2.2.2.1, o.2.2.2.2.2.2.2.2.2.2.1, o.2.2.2.2.2.2.2.2.2.2.2.1, o.2.2.2.2.2.2.2.2.2.2.2.2.1, o.2.2.2.2.2.2.2.2.2.2.2.2.2.1, o.2.2.2.2.2.2.2.2.2.2.2.2.2.2.1, o.2.2.2.2.2.2.2.2.2.2.2.2.2.2.2.1, o.2.2.2.2.2.2.2.2.2.2.2.2.2.2.2.2.1, o.2.2.2.2.2.2.2.2.2.2.2.2.2.2.2.2.2.1, o.2.2.2.2.2.2.2.2.2.2.2.2.2.2.2.2.2.2.1, v, o.2.2.2.2.2.2.2.2.2.2.2.2.2.2.2.2.2.2.2.2.1, o.2.2.2.2.2.2.2.2.2.2.2.2.2.2.2.2.2.2.2.2.2.1, o.2.2.2.2.2.2.2.2.2.2.2.2.2.2.2.2.2.2.2.2.2.2.1, o.2.2.2.2.2.2.2.2.2.2.2.2.2.2.2.2.2.2.2.2.2.2.2.1, o.2.2.2.2.2.2.2.2.2.2.2.2.2.2.2.2.2.2.2.2.2.2.2.2.1, o.2.2.2.2.2.2.2.2.2.2.2.2.2.2.2.2.2.2.2.2.2.2.2.2.2.1, o.2.2.2.2.2.2.2.2.2.2.2.2.2.2.2.2.2.2.2.2.2.2.2.2.2.2.1, o.2.2.2.2.2.2.2.2.2.2.2.2.2.2.2.2.2.2.2.2.2.2.2.2.2.2.2.1, o.2.2.2.2.2.2.2.2.2.2.2.2.2.2.2.2.2.2.2.2.2.2.2.2.2.2.2.2.1, o.2.2.2.2.2.2.2.2.2.2.2.2.2.2.2.2.2.2.2.2.2.2.2.2.2.2.2.2.2.1, o.2.2.2.2.2.2.2.2.2.2.2.2.2.2.2.2.2.2.2.2.2.2.2.2.2.2.2.2.2.2.1, o.2.2.2.2.2.2.2.2.2.2.2.2.2.2.2.2.2.2.2.2.2.2.2.2.2.2.2.2.2.2.2.1, o.2.2.2.2.2.2.2.2.2.2.2.2.2.2.2.2.2.2.2.2.2.2.2.2.2.2.2.2.2.2.2.2.1, o.2.2.2.2.2.2.2.2.2.2.2.2.2.2.2.2.2.2.2.2.2.2.2.2.2.2.2.2.2.2.2.2.2.1, o.2.2.2.2.2.2.2.2.2.2.2.2.2.2.2.2.2.2.2.2.2.2.2.2.2.2.2.2.2.2.2.2.2.2.1, o.2.2.2.2.2.2.2.2.2.2.2.2.2.2.2.2.2.2.2.2.2.2.2.2.2.2.2.2.2.2.2.2.2.2.2)
def sW (o : Ob) (v : List Int32) : Ob := (o.1, o.2.1, o.2.2.1, o.2.2.2.1, o.2.2.2.2.1, o.2.2.2.2.2.1, o.2.2.2.2.2.2.1, o.2.2.2.2.2.2.2.1, o.2.2.2.2.2.2.2.2.1, o.2.2.2.2.2.2.2.2.2.1, o.2.2.2.2.2.2.2.2.2.2.1, o.2.2.2.2.2.2.2.2.2.2.2.1, o.2.2.2.2.2.2.2.2.2.2.2.2.1, o.2.2.2.2.2.2.2.2.2.2.2.2.2.1, o.2.2.2.2.2.2.2.2.2.2.2.2.2.2.1, o.2.2.2.2.2.2.2.2.2.2.2.2.2.2.2.1, o.2.2.2.2.2.2.2.2.2.2.2.2.2.2.2.2.1, o.2.2.2.2.2.2.2.2.2.2.2.2.2.2.2.2.2.1, o.2.2.2.2.2.2.2.2.2.2.2.2.2.2.2.2.2.2.1, o.2.2.2.2.2.2.2.2.2.2.2.2.2.2.2.2.2.2.2.1, v, o.2.2.2.2.2.2.2.2.2.2.2.2.2.2.2.2.2.2.2.2.2.1, o.2.2.2.2.2.2.2.2.2.2.2.2.2.2.2.2.2.2.2.2.2.2.1, o.2.2.2.2.2.2.2.2.2.2.2.2.2.2.2.2.2.2.2.2.2.2.2.1, o.2.2.2.2.2.2.2.2.2.2.2.2.2.2.2.2.2.2.2.2.2.2.2.2.1, o.2.2.2.2.2.2.2.2.2.2.2.2.2.2.2.2.2.2.2.2.2.2.2.2.2.1, o.2.2.2.2.2.2.2.2.2.2.2.2.2.2.2.2.2.2.2.2.2.2.2.2.2.2.1, o.2.2.2.2.2.2.2.2.2.2.2.2.2.2.2.2.2.2.2.2.2.2.2.2.2.2.2.1, o.2.2.2.2.2.2.2.2.2.2.2.2.2.2.2.2.2.2.2.2.2.2.2.2.2.2.2.2.1, o.2.2.2.2.2.2.2.2.2.2.2.2.2.2.2.2.2.2.2.2.2.2.2.2.2.2.2.2.2.1, o.2.2.2.2.2.2.2.2.2.2.2.2.2.2.2.2.2.2.2.2.2.2.2.2.2.2.2.2.2.2.1, o.2.2.2.2.2.2.2.2.2.2.2.2.2.2.2.2.2.2.2.2.2.2.2.2.2.2.2.2.2.2.2.1, o.2.2.2.2.2.2.2.2.2.2.2.2.2.2.2.2.2.2.2.2.2.2.2.2.2.2.2.2.2.2.2.2.1, o.2.2.2.2.2.2.2.2.2.2.2.2.2.2.2.2.2.2.2.2.2.2.2.2.2.2.2.2.2.2.2.2.2.1, o.2.2.2.2.2.2.2.2.2.2.2.2.2.2.2.2.2.2.2.2.2.2.2.2.2.2.2.2.2.2.2.2.2.2.1, o.2.2.2.2.2.2.2.2.2.2.2.2.2.2.2.2.2.2.2.2.2.2.2.2.2.2.2.2.2.2.2.2.2.2.2)
def sX (o : Ob) (v : List Int32) : Ob := (o.1, o.2.1, o.2.2.1, o.2.2.2.1, o.2.2.2.2.1, o.2.2.2.2.2.1, o.2.2.2.2.2.2.1, o.2.2.2.2.2.2.2.1, o.2.2.2.2.2.2.2.2.1, o.2.2.2.2.2.2.2.2.2.1, o.2.2.2.2.2.2.2.2.2.2.1, o.2.2.2.2.2.2.2.2.2.2.2.1, o.2.2.2.2.2.2.2.2.2.2.2.2.1, o.2.2.2.2.2.2.2.2.2.2.2.2.2.1, o.2.2.2.2.2.2.2.2.2.2.2.2.2.2.1, o.2.2.2.2.2.2.2.2.2.2.2.2.2.2.2.1, o.2.2.2.2.2.2.2.2.2.2.2.2.2.2.2.2.1, o.2.2.2.2.2.2.2.2.2.2.2.2.2.2.2.2.2.1, o.2.2.2.2.2.2.2.2.2.2.2.2.2.2.2.2.2.2.1, o.2.2.2.2.2.2.2.2.2.2.2.2.2.2.2.2.2.2.2.1, o.2.2.2.2.2.2.2.2.2.2.2.2.2.2.2.2.2.2.2.2.1, v, o.2.2.2.2.2.2.2.2.2.2.2.2.2.2.2.2.2.2.2.2.2.2.1, o.2.2.2.2.2.2.2.2.2.2.2.2.2.2.2.2.2.2.2.2.2.2.2.1, o.2.2.2.2.2.2.2.2.2.2.2.2.2.2.2.2.2.2.2.2.2.2.2.2.1, o.2.2.2.2.2.2.2.2.2.2.2.2.2.2.2.2.2.2.2.2.2.2.2.2.2.1, o.2.2.2.2.2.2.2.2.2.2.2.2.2.2.2.2.2.2.2.2.2.2.2.2.2.2.1, o.2.2.2.2.2.2.2.2.2.2.2.2.2.2.2.2.2.2.2.2.2.2.2.2.2.2.2.1, o.2.2.2.2.2.2.2.2.2.2.2.2.2.2.2.2.2.2.2.2.2.2.2.2.2.2.2.2.1, o.2.2.2.2.2.2.2.2.2.2.2.2.2.2.2.2.2.2.2.2.2.2.2.2.2.2.2.2.2.1, o.2.2.2.2.2.2.2.2.2.2.2.2.2.2.2.2.2.2.2.2.2.2.2.2.2.2.2.2.2.2.1, o.2.2.2.2.2.2.2.2.2.2.2.2.2.2.2.2.2.2.2.2.2.2.2.2.2.2.2.2.2.2.2.1, o.2.2.2.2.2.2.2.2.2.2.2.2.2.2.2.2.2.2.2.2.2.2.2.2.2.2.2.2.2.2.2.2.1, o.2.2.2.2.2.2.2.2.2.2.2.2.2.2.2.2.2.2.2.2.2.2.2.2.2.2.2.2.2.2.2.2.2.1, o.2.2.2.2.2.2.2.2.2.2.2.2.2.2.2.2.2.2.2.2.2.2.2.2.2.2.2.2.2.2.2.2.2.2.1, o.2.2.2.2.2.2.2.2.2.2.2.2.2.2.2.2.2.2.2.2.2.2.2.2.2.2.2.2.2.2.2.2.2.2.2)
def sY (o : Ob) (v : List Int32) : Ob := (o.1, o.2.1, o.2.2.1, o.2.2.2.1, o.2.2.2.2.1, o.2.2.2.2.2.1, o.2.2.2.2.2.2.1, o.2.2.2.2.2.2.2.1, o.2.2.2.2.2.2.2.2.1, o.2.2.2.2.2.2.2.2.2.1, o.2.2.2.2.2.2.2.2.2.2.1, o.2.2.2.2.2.2.2.2.2.2.2.1, o.2.2.2.2.2.2.2.2.2.2.2.2.1, o.2.2.2.2.2.2.2.2.2.2.2.2.2.1, o.2.2.2.2.2.2.2.2.2.2.2.2.2.2.1, o.2.2.2.2.2.2.2.2.2.2.2.2.2.2.2.1, o.2.2.2.2.2.2.2.2.2.2.2.2.2.2.2.2.1, o.2.2.2.2.2.2.2.2.2.2.2.2.2.2.2.2.2.1, o.2.2.2.2.2.2.2.2.2.2.2.2.2.2.2.2.2.2.1, o.2.2.2.2.2.2.2.2.2.2.2.2.2.2.2.2.2.2.2.1, o.2.2.2.2.2.2.2.2.2.2.2.2.2.2.2.2.2.2.2.2.1, o.2.2.2.2.2.2.2.2.2.2.2.2.2.2.2.2.2.2.2.2.2.1, v, o.2.2.2.2.2.2.2.2.2.2.2.2.2.2.2.2.2.2.2.2.2.2.2.1, o.2.2.2.2.2.2.2.2.2.2.2.2.2.2.2.2.2.2.2.2.2.2.2.2.1, o.2.2.2.2.2.2.2.2.2.2.2.2.2.2.2.2.2.2.2.2.2.2.2.2.2.1, o.2.2.2.2.2.2.2.2.2.2.2.2.2.2.2.2.2.2.2.2.2.2.2.2.2.2.1, o.2.2.2.2.2.2.2.2.2.2.2.2.2.2.2.2.2.2.2.2.2.2.2.2.2.2.2.1, o.2.2.2.2.2.2.2.2.2.2.2.2.2.2.2.2.2.2.2.2.2.2.2.2.2.2.2.2.1, o.2.2.2.2.2.2.2.2.2.2.2.2.2.2.2.2.2.2.2.2.2.2.2.2.2.2.2.2.2.1, o.2.2.2.2.2.2.2.2.2.2.2.2.2.2.2.2.2.2.2.2.2.2.2.2.2.2.2.2.2.2.1, o.2.2.2.2.2.2.2.2.2.2.2.2.2.2.2.2.2.2.2.2.2.2.2.2.2.2.2.2.2.2.2.1, o.2.2.2.2.2.2.2.2.2.2.2.2.2.2.2.2.2.2.2.2.2.2.2.2.2.2.2.2.2.2.2.2.1, o.2.2.2.2.2.2.2.2.2.2.2.2.2.2.2.2.2.2.2.2.2.2.2.2.2.2.2.2.2.2.2.2.2.1, o.2.2.2.2.2.2.2.2.2.2.2.2.2.2.2.2.2.2.2.2.2.2.2.2.2.2.2.2.2.2.2.2.2.2.1, o.2.2.2.2.2.2.2.2.2.2.2.2.2.2.2.2.2.2.2.2.2.2.2.2.2.2.2.2.2.2.2.2.2.2.2)
def sZ (o : Ob) (v : List Int32) : Ob := (o.1, o.2.1, o.2.2.1, o.2.2.2.1, o.2.2.2.2.1, o.2.2.2.2.2.1, o.2.2.2.2.2.2.1, o.2.2.2.2.2.2.2.1, o.2.2.2.2.2.2.2.2.1, o.2.2.2.2.2.2.2.2.2.1, o.2.2.2.2.2.2.2.2.2.2.1, o.2.2.2.2.2.2.2.2.2.2.2.1, o.2.2.2.2.2.2.2.2.2.2.2.2.1, o.2.2.2.2.2.2.2.2.2.2.2.2.2.1, o.2.2.2.2.2.2.2.2.2.2.2.2.2.2.1, o.2.2.2.2.2.2.2.2.2.2.2.2.2.2.2.1, o.2.2.2.2.2.2.2.2.2.2.2.2.2.2.2.2.1, o.2.2.2.2.2.2.2.2.2.2.2.2.2.2.2.2.2.1, o.2.2.2.2.2.2.2.2.2.2.2.2.2.2.2.2.2.2.1, o.2.2.2.2.2.2.2.2.2.2.2.2.2.2.2.2.2.2.2.1, o.2.2.2.2.2.2.2.2.2.2.2.2.2.2.2.2.2.2.2.2.1, o.2.2.2.2.2.2.2.2.2.2.2.2.2.2.2.2.2.2.2.2.2.1, o.2.2.2.2.2.2.2.2.2.2.2.2.2.2.2.2.2.2.2.2.2.2.1, v, o.2.2.2.2.2.2.2.2.2.2.2.2.2.2.2.2.2.2.2.2.2.2.2.2.1, o.2.2.2.2.2.2.2.2.2.2.2.2.2.2.2.2.2.2.2.2.2.2.2.2.2.1, o.2.2.2.2.2.2.2.2.2.2.2.2.2.2.2.2.2.2.2.2.2.2.2.2.2.2.1, o.2.2.2.2.2.2.2.2.2.2.2.2.2.2.2.2.2.2.2.2.2.2.2.2.2.2.2.1, o.2.2.2.2.2.2.2.2.2.2.2.2.2.2.2.2.2.2.2.2.2.2.2.2.2.2.2.2.1, o.2.2.2.2.2.2.2.2.2.2.2.2.2.2.2.2.2.2.2.2.2.2.2.2.2.2.2.2.2.1, o.2.2.2.2.2.2.2.2.2.2.2.2.2.2.2.2.2.2.2.2.2.2.2.2.2.2.2.2.2.2.1, o.2.2.2.2.2.2.2.2.2.2.2.2.2.2.2.2.2.2.2.2.2.2.2.2.2.2.2.2.2.2.2.1, o.2.2.2.2.2.2.2.2.2.2.2.2.2.2.2.2.2.2.2.2.2.2.2.2.2.2.2.2.2.2.2.2.1, o.2.2.2.2.2.2.2.2.2.2.2.2.2.2.2.2.2.2.2.2.2.2.2.2.2.2.2.2.2.2.2.2.2.1, o.2.2.2.2.2.2.2.2.2.2.2.2.2.2.2.2.2.2.2.2.2.2.2.2.2.2.2.2.2.2.2.2.2.2.1, o.2.2.2.2.2.2.2.2.2.2.2.2.2.2.2.2.2.2.2.2.2.2.2.2.2.2.2.2.2.2.2.2.2.2.2)
def sa (o : Ob) (v : List Int32) : Ob := (o.1, o.2.1, o.2.2.1, o.2.2.2.1, o.2.2.2.2.1, o.2.2.2.2.2.1, o.2.2.2.2.2.2.1, o.2.2.2.2.2.2.2.1, o.2.2.2.2.2.2.2.2.1, o.2.2.2.2.2.2.2.2.2.1, o.2.2.2.2.2.2.2.2.2.2.1, o.2.2.2.2.2.2.2.2.2.2.2.1, o.2.2.2.2.2.2.2.2.2.2.2.2.1, o.2.2.2.2.2.2.2.2.2.2.2.2.2.1, o.2.2.2.2.2.2.2.2.2.2.2.2.2.2.1, o.2.2.2.2.2.2.2.2.2.2.2.2.2.2.2.1, o.2.2.2.2.2.2.2.2.2.2.2.2.2.2.2.2.1, o.2.2.2.2.2.2.2.2.2.2.2.2.2.2.2.2.2.1, o.2.2.2.2.2.2.2.2.2.2.2.2.2.2.2.2.2.2.1, o.2.2.2.2.2.2.2.2.2.2.2.2.2.2.2.2.2.2.2.1, o.2.2.2.2.2.2.2.2.2.2.2.2.2.2.2.2.2.2.2.2.1, o.2.2.2.2.2.2.2.2.2.2.2.2.2.2.2.2.2.2.2.2.2.1, o.2.2.2.2.2.2.2.2.2.2.2.2.2.2.2.2.2.2.2.2.2.2.1, o.2.2.2.2.2.2.2.2.2.2.2.2.2.2.2.2.2.2.2.2.2.2.2.1, v, o.2.2.2.2.2.2.2.2.2.2.2.2.2.2.2.2.2.2.2.2.2.2.2.2.2.1, o.2.2.2.2.2.2.2.2.2.2.2.2.2.2.2.2.2.2.2.2.2.2.2.2.2.2.1, o.2.2.2.2.2.2.2.2.2.2.2.2.2.2.2.2.2.2.2.2.2.2.2.2.2.2.2.1, o.2.2.2.2.2.2.2.2.2.2.2.2.2.2.2.2.2.2.2.2.2.2.2.2.2.2.2.2.1, o.2.2.2.2.2.2.2.2.2.2.2.2.2.2.2.2.2.2.2.2.2.2.2.2.2.2.2.2.2.1, o.2.2.2.2.2.2.2.2.2.2.2.2.2.2.2.2.2.2.2.2.2.2.2.2.2.2.2.2.2.2.1, o.2.2.2.2.2.2.2.2.2.2.2.2.2.2.2.2.2.2.2.2.2.2.2.2.2.2.2.2.2.2.2.1, o.2.2.2.2.2.2.2.2.2.2.2.2.2.2.2.2.2.2.2.2.2.2.2.2.2.2.2.2.2.2.2.2.1, o.2.2.2.2.2.2.2.2.2.2.2.2.2.2.2.2.2.2.2.2.2.2.2.2.2.2.2.2.2.2.2.2.2.1, o.2.2.2.2.2.2.2.2.2.2.2.2.2.2.2.2.2.2.2.2.2.2.2.2.2.2.2.2.2.2.2.2.2.2.1, o.2.2.2.2.2.2.2.2.2.2.2.2.2.2.2.2.2.2.2.2.2.2.2.2.2.2.2.2.2.2.2.2.2.2.2)
def sb (o : Ob) (v : List Int32) : Ob := (o.1, o.2.1, o.2.2.1, o.2.2.2.1, o.2.2.2.2.1, o.2.2.2.2.2.1, o.2.2.2.2.2.2.1, o.2.2.2.2.2.2.2.1, o.2.2.2.2.2.2.2.2.1, o.2.2.2.2.2.2.2.2.2.1, o.2.2.2.2.2.2.2.2.2.2.1, o.2.2.2.2.2.2.2.2.2.2.2.1, o.2.2.2.2.2.2.2.2.2.2.2.2.1, o.2.2.2.2.2.2.2.2.2.2.2.2.2.1, o.2.2.2.2.2.2.2.2.2.2.2.2.2.2.1, o.2.2.2.2.2.2.2.2.2.2.2.2.2.2.2.1, o.2.2.2.2.2.2.2.2.2.2.2.2.2.2.2.2.1, o.2.2.2.2.2.2.2.2.2.2.2.2.2.2.2.2.2.1, o.2.2.2.2.2.2.2.2.2.2.2.2.2.2.2.2.2.2.1, o.2.2.2.2.2.2.2.2.2.2.2.2.2.2.2.2.2.2.2.1, o.2.2.2.2.2.2.2.2.2.2.2.2.2.2.2.2.2.2.2.2.1, o.2.2.2.2.2.2.2.2.2.2.2.2.2.2.2.2.2.2.2.2.2.1, o.2.2.2.2.2.2.2.2.2.2.2.2.2.2.2.2.2.2.2.2.2.2.1, o.2.2.2.2.2.2.2.2.2.2.2.2.2.2.2.2.2.2.2.2.2.2.2.1, o.2.2.2.2.2.2.2.2.2.2.2.2.2.2.2.2.2.2.2.2.2.2.2.2.1, v, o.2.2.2.2.2.2.2.2.2.2.2.2.2.2.2.2.2.2.2.2.2.2.2.2.2.2.1, o.2.2.2.2.2.2.2.2.2.2.2.2.2.2.2.2.2.2.2.2.2.2.2.2.2.2.2.1, o.2.2.2.2.2.2.2.2.2.2.2.2.2.2.2.2.2.2.2.2.2.2.2.2.2.2.2.2.1, o.2.2.2.2.2.2.2.2.2.2.2.2.2.2.2.2.2.2.2.2.2.2.2.2.2.2.2.2.2.1, o.2.2.2.2.2.2.2.2.2.2.2.2.2.2.2.2.2.2.2.2.2.2.2.2.2.2.2.2.2.2.1, o.2.2.2.2.2.2.2.2.2.2.2.2.2.2.2.2.2.2.2.2.2.2.2.2.2.2.2.2.2.2.2.1, o.2.2.2.2.2.2.2.2.2.2.2.2.2.2.2.2.2.2.2.2.2.2.2.2.2.2.2.2.2.2.2.2.1, o.2.2.2.2.2.2.2.2.2.2.2.2.2.2.2.2.2.2.2.2.2.2.2.2.2.2.2.2.2.2.2.2.2.1, o.2.2.2.2.2.2.2.2.2.2.2.2.2.2.2.2.2.2.2.2.2.2.2.2.2.2.2.2.2.2.2.2.2.2.1, o.2.2.2.2.2.2.2.2.2.2.2.2.2.2.2.2.2.2.2.2.2.2.2.2.2.2.2.2.2.2.2.2.2.2.2)
def sc (o : Ob) (v : List Int32) : Ob := (o.1, o.2.1, o.2.2.1, o.2.2.2.1, o.2.2.2.2.1, o.2.2.2.2.2.1, o.2.2.2.2.2.2.1, o.2.2.2.2.2.2.2.1, o.2.2.2.2.2.2.2.2.1, o.2.2.2.2.2.2.2.2.2.1, o.2.2.2.2.2.2.2.2.2.2.1, o.2.2.2.2.2.2.2.2.2.2.2.1, o.2.2.2.2.2.2.2.2.2.2.2.2.1, o.2.2.2.2.2.2.2.2.2.2.2.2.2.1, o.2.2.2.2.2.2.2.2.2.2.2.2.2.2.1, o.2.2.2.2.2.2.2.2.2.2.2.2.2.2.2.1, o.2.2.2.2.2.2.2.2.2.2.2.2.2.2.2.2.1, o.2.2.2.2.2.2.2.2.2.2.2.2.2.2.2.2.2.1, o.2.2.2.2.2.2.2.2.2.2.2.2.2.2.2.2.2.2.1, o.2.2.2.2.2.2.2.2.2.2.2.2.2.2.2.2.2.2.2.1, o.2.2.2.2.2.2.2.2.2.2.2.2.2.2.2.2.2.2.2.2.1, o.2.2.2.2.2.2.2.2.2.2.2.2.2.2.2.2.2.2.2.2.2.1, o.2.2.2.2.2.2.2.2.2.2.2.2.2.2.2.2.2.2.2.2.2.2.1, o.2.2.2.2.2.2.2.2.2.2.2.2.2.2.2.2.2.2.2.2.2.2.2.1, o.2.2.2.2.2.2.2.2.2.2.2.2.2.2.2.2.2.2.2.2.2.2.2.2.1, o.2.2.2.2.2.2.2.2.2.2.2.2.2.2.2.2.2.2.2.2.2.2.2.2.2.1, v, o.2.2.2.2.2.2.2.2.2.2.2.2.2.2.2.2.2.2.2.2.2.2.2.2.2.2.2.1, o.2.2.2.2.2.2.2.2.2.2.2.2.2.2.2.2.2.2.2.2.2.2.2.2.2.2.2.2.1, o.2.2.2.2.2.2.2.2.2.2.2.2.2.2.2.2.2.2.2.2.2.2.2.2.2.2.2.2.2.1, o.2.2.2.2.2.2.2.2.2.2.2.2.2.2.2.2.2.2.2.2.2.2.2.2.2.2.2.2.2.2.1, o.2.2.2.2.2.2.2.2.2.2.2.2.2.2.2.2.2.2.2.2.2.2.2.2.2.2.2.2.2.2.2.1, o.2.2.2.2.2.2.2.2.2.2.2.2.2.2.2.2.2.2.2.2.2.2.2.2.2.2.2.2.2.2.2.2.1, o.2.2.2.2.2.2.2.2.2.2.2.2.2.2.2.2.2.2.2.2.2.2.2.2.2.2.2.2.2.2.2.2.2.1, o.2.2.2.2.2.2.2.2.2.2.2.2.2.2.2.2.2.2.2.2.2.2.2.2.2.2.2.2.2.2.2.2.2.2.1, o.2.2.2.2.2.2.2.2.2.2.2.2.2.2.2.2.2.2.2.2.2.2.2.2.2.2.2.2.2.2.2.2.2.2.2)
def sd (o : Ob) (v : List Int32) : Ob := (o.1, o.2.1, o.2.2.1, o.2.2.2.1, o.2.2.2.2.1, o.2.2.2.2.2.1, o.2.2.2.2.2.2.1, o.2.2.2.2.2.2.2.1, o.2.2.2.2.2.2.2.2.1, o.2.2.2.2.2.2.2.2.2.1, o.2.2.2.2.2.2.2.2.2.2.1, o.2.2.2.2.2.2.2.2.2.2.2.1, o.2.2.2.2.2.2.2.2.2.2.2.2.1, o.2.2.2.2.2.2.2.2.2.2.2.2.2.1, o.2.2.2.2.2.2.2.2.2.2.2.2.2.2.1, o.2.2.2.2.2.2.2.2.2.2.2.2.2.2.2.1, o.2.2.2.2.2.2.2.2.2.2.2.2.2.2.2.2.1, o.2.2.2.2.2.2.2.2.2.2.2.2.2.2.2.2.2.1, o.2.2.2.2.2.2.2.2.2.2.2.2.2.2.2.2.2.2.1, o.2.2.2.2.2.2.2.2.2.2.2.2.2.2.2.2.2.2.2.1, o.2.2.2.2.2.2.2.2.2.2.2.2.2.2.2.2.2.2.2.2.1, o.2.2.2.2.2.2.2.2.2.2.2.2.2.2.2.2.2.2.2.2.2.1, o.2.2.2.2.2.2.2.2.2.2.2.2.2.2.2.2.2.2.2.2.2.2.1, o.2.2.2.2.2.2.2.2.2.2.2.2.2.2.2.2.2.2.2.2.2.2.2.1, o.2.2.2.2.2.2.2.2.2.2.2.2.2.2.2.2.2.2.2.2.2.2.2.2.1, o.2.2.2.2.2.2.2.2.2.2.2.2.2.2.2.2.2.2.2.2.2.2.2.2.2.1, o.2.2.2.2.2.2.2.2.2.2.2.2.2.2.2.2.2.2.2.2.2.2.2.2.2.2.1, v, o.2.2.2.2.2.2.2.2.2.2.2.2.2.2.2.2.2.2.2.2.2.2.2.2.2.2.2.2.1, o.2.2.2.2.2.2.2.2.2.2.2.2.2.2.2.2.2.2.2.2.2.2.2.2.2.2.2.2.2.1, o.2.2.2.2.2.2.2.2.2.2.2.2.2.2.2.2.2.2.2.2.2.2.2.2.2.2.2.2.2.2.1, o.2.2.2.2.2.2.2.2.2.2.2.2.2.2.2.2.2.2.2.2.2.2.2.2.2.2.2.2.2.2.2.1, o.2.2.2.2.2.2.2.2.2.2.2.2.2.2.2.2.2.2.2.2.2.2.2.2.2.2.2.2.2.2.2.2.1, o.2.2.2.2.2.2.2.2.2.2.2.2.2.2.2.2.2.2.2.2.2.2.2.2.2.2.2.2.2.2.2.2.2.1, o.2.2.2.2.2.2.2.2.2.2.2.2.2.2.2.2.2.2.2.2.2.2.2.2.2.2.2.2.2.2.2.2.2.2.1, o.2.2.2.2.2.2.2.2.2.2.2.2.2.2.2.2.2.2.2.2.2.2.2.2.2.2.2.2.2.2.2.2.2.2.2)
def se (o : Ob) (v : Int32) : Ob := (o.1, o.2.1, o.2.2.1, o.2.2.2.1, o.2.2.2.2.1, o.2.2.2.2.2.1, o.2.2.2.2.2.2.1, o.2.2.2.2.2.2.2.1, o.2.2.2.2.2.2.2.2.1, o.2.2.2.2.2.2.2.2.2.1, o.2.2.2.2.2.2.2.2.2.2.1, o.2.2.2.2.2.2.2.2.2.2.2.1, o.2.2.2.2.2.2.2.2.2.2.2.2.1, o.2.2.2.2.2.2.2.2.2.2.2.2.2.1, o.2.2.2.2.2.2.2.2.2.2.2.2.2.2.1, o.2.2.2.2.2.2.2.2.2.2.2.2.2.2.2.1, o.2.2.2.2.2.2.2.2.2.2.2.2.2.2.2.2.1, o.2.2.2.2.2.2.2.2.2.2.2.2.2.2.2.2.2.1, o.2.2.2.2.2.2.2.2.2.2.2.2.2.2.2.2.2.2.1, o.2.2.2.2.2.2.2.2.2.2.2.2.2.2.2.2.2.2.2.1, o.2.2.2.2.2.2.2.2.2.2.2.2.2.2.2.2.2.2.2.2.1, o.2.2.2.2.2.2.2.2.2.2.2.2.2.2.2.2.2.2.2.2.2.1, o.2.2.2.2.2.2.2.2.2.2.2.2.2.2.2.2.2.2.2.2.2.2.1, o.2.2.2.2.2.2.2.2.2.2.2.2.2.2.2.2.2.2.2.2.2.2.2.1, o.2.2.2.2.2.2.2.2.2.2.2.2.2.2.2.2.2.2.2.2.2.2.2.2.1, o.2.2.2.2.2.2.2.2.2.2.2.2.2.2.2.2.2.2.2.2.2.2.2.2.2.1, o.2.2.2.2.2.2.2.2.2.2.2.2.2.2.2.2.2.2.2.2.2.2.2.2.2.2.1, o.2.2.2.2.2.2.2.2.2.2.2.2.2.2.2.2.2.2.2.2.2.2.2.2.2.2.2.1, v, o.2.2.2.2.2.2.2.2.2.2.2.2.2.2.2.2.2.2.2.2.2.2.2.2.2.2.2.2.2.1, o.2.2.2.2.2.2.2.2.2.2.2.2.2.2.2.2.2.2.2.2.2.2.2.2.2.2.2.2.2.2.1, o.2.2.2.2.2.2.2.2.2.2.2.2.2.2.2.2.2.2.2.2.2.2.2.2.2.2.2.2.2.2.2.1, o.2.2.2.2.2.2.2.2.2.2.2.2.2.2.2.2.2.2.2.2.2.2.2.2.2.2.2.2.2.2.2.2.1, o.2.2.2.2.2.2.2.2.2.2.2.2.2.2.2.2.2.2.2.2.2.2.2.2.2.2.2.2.2.2.2.2.2.1, o.2.2.2.2.2.2.2.2.2.2.2.2.2.2.2.2.2.2.2.2.2.2.2.2.2.2.2.2.2.2.2.2.2.2.1, o.2.2.2.2.2.2.2.2.2.2.2.2.2.2.2.2.2.2.2.2.2.2.2.2.2.2.2.2.2.2.2.2.2.2.2)
def sh (o : Ob) (v : Int32) : Ob := (o.1, o.2.1, o.2.2.1, o.2.2.2.1, o.2.2.2.2.1, o.2.2.2.2.2.1, o.2.2.2.2.2.2.1, o.2.2.2.2.2.2.2.1, o.2.2.2.2.2.2.2.2.1, o.2.2.2.2.2.2.2.2.2.1, o.2.2.2.2.2.2.2.2.2.2.1, o.2.2.2.2.2.2.2.2.2.2.2.1, o.2.2.2.2.2.2.2.2.2.2.2.2.1, o.2.2.2.2.2.2.2.2.2.2.2.2.2.1, o.2.2.2.2.2.2.2.2.2.2.2.2.2.2.1, o.2.2.2.2.2.2.2.2.2.2.2.2.2.2.2.1, o.2.2.2.2.2.2.2.2.2.2.2.2.2.2.2.2.1, o.2.2.2.2.2.2.2.2.2.2.2.2.2.2.2.2.2.1, o.2.2.2.2.2.2.2.2.2.2.2.2.2.2.2.2.2.2.1, o.2.2.2.2.2.2.2.2.2.2.2.2.2.2.2.2.2.2.2.1, o.2.2.2.2.2.2.2.2.2.2.2.2.2.2.2.2.2.2.2.2.1, o.2.2.2.2.2.2.2.2.2.2.2.2.2.2.2.2.2.2.2.2.2.1, o.2.2.2.2.2.2.2.2.2.2.2.2.2.2.2.2.2.2.2.2.2.2.1, o.2.2.2.2.2.2.2.2.2.2.2.2.2.2.2.2.2.2.2.2.2.2.2.1, o.2.2.2.2.2.2.2.2.2.2.2.2.2.2.2.2.2.2.2.2.2.2.2.2.1, o.2.2.2.2.2.2.2.2.2.2.2.2.2.2.2.2.2.2.2.2.2.2.2.2.2.1, o.2.2.2.2.2.2.2.2.2.2.2.2.2.2.2.2.2.2.2.2.2.2.2.2.2.2.1, o.2.2.2.2.2.2.2.2.2.2.2.2.2.2.2.2.2.2.2.2.2.2.2.2.2.2.2.1, o.2.2.2.2.2.2.2.2.2.2.2.2.2.2.2.2.2.2.2.2.2.2.2.2.2.2.2.2.1, v, o.2.2.2.2.2.2.2.2.2.2.2.2.2.2.2.2.2.2.2.2.2.2.2.2.2.2.2.2.2.2.1, o.2.2.2.2.2.2.2.2.2.2.2.2.2.2.2.2.2.2.2.2.2.2.2.2.2.2.2.2.2.2.2.1, o.2.2.2.2.2.2.2.2.2.2.2.2.2.2.2.2.2.2.2.2.2.2.2.2.2.2.2.2.2.2.2.2.1, o.2.2.2.2.2.2.2.2.2.2.2.2.2.2.2.2.2.2.2.2.2.2.2.2.2.2.2.2.2.2.2.2.2.1, o.2.2.2.2.2.2.2.2.2.2.2.2.2.2.2.2.2.2.2.2.2.2.2.2.2.2.2.2.2.2.2.2.2.2.1, o.2.2.2.2.2.2.2.2.2.2.2.2.2.2.2.2.2.2.2.2.2.2.2.2.2.2.2.2.2.2.2.2.2.2.2)
def si (o : Ob) (v : Int32) : Ob := (o.1, o.2.1, o.2.2.1, o.2.2.2.1, o.2.2.2.2.1, o.2.2.2.2.2.1, o.2.2.2.2.2.2.1, o.2.2.2.2.2.2.2.1, o.2.2.2.2.2.2.2.2.1, o.2.2.2.2.2.2.2.2.2.1, o.2.2.2.2.2.2.2.2.2.2.1, o.2.2.2.2.2.2.2.2.2.2.2.1, o.2.2.2.2.2.2.2.2.2.2.2.2.1, o.2.2.2.2.2.2.2.2.2.2.2.2.2.1, o.2.2.2.2.2.2.2.2.2.2.2.2.2.2.1, o.2.2.2.2.2.2.2.2.2.2.2.2.2.2.2.1, o.2.2.2.2.2.2.2.2.2.2.2.2.2.2.2.2.1, o.2.2.2.2.2.2.2.2.2.2.2.2.2.2.2.2.2.1, o.2.2.2.2.2.2.2.2.2.2.2.2.2.2.2.2.2.2.1, o.2.2.2.2.2.2.2.2.2.2.2.2.2.2.2.2.2.2.2.1, o.2.2.2.2.2.2.2.2.2.2.2.2.2.2.2.2.2.2.2.2.1, o.2.2.2.2.2.2.2.2.2.2.2.2.2.2.2.2.2.2.2.2.2.1, o.2.2.2.2.2.2.2.2.2.2.2.2.2.2.2.2.2.2.2.2.2.2.1, o.2.2.2.2.2.2.2.2.2.2.2.2.2.2.2.2.2.2.2.2.2.2.2.1, o.2.2.2.2.2.2.2.2.2.2.2.2.2.2.2.2.2.2.2.2.2.2.2.2.1, o.2.2.2.2.2.2.2.2.2.2.2.2.2.2.2.2.2.2.2.2.2.2.2.2.2.1, o.2.2.2.2.2.2.2.2.2.2.2.2.2.2.2.2.2.2.2.2.2.2.2.2.2.2.1, o.2.2.2.2.2.2.2.2.2.2.2.2.2.2.2.2.2.2.2.2.2.2.2.2.2.2.2.1, o.2.2.2.2.2.2.2.2.2.2.2.2.2.2.2.2.2.2.2.2.2.2.2.2.2.2.2.2.1, o.2.2.2.2.2.2.2.2.2.2.2.2.2.2.2.2.2.2.2.2.2.2.2.2.2.2.2.2.2.1, v, o.2.2.2.2.2.2.2.2.2.2.2.2.2.2.2.2.2.2.2.2.2.2.2.2.2.2.2.2.2.2.2.1, o.2.2.2.2.2.2.2.2.2.2.2.2.2.2.2.2.2.2.2.2.2.2.2.2.2.2.2.2.2.2.2.2.1, o.2.2.2.2.2.2.2.2.2.2.2.2.2.2.2.2.2.2.2.2.2.2.2.2.2.2.2.2.2.2.2.2.2.1, o.2.2.2.2.2.2.2.2.2.2.2.2.2.2.2.2.2.2.2.2.2.2.2.2.2.2.2.2.2.2.2.2.2.2.1, o.2.2.2.2.2.2.2.2.2.2.2.2.2.2.2.2.2.2.2.2.2.2.2.2.2.2.2.2.2.2.2.2.2.2.2)
def sm (o : Ob) (v : Int32) : Ob := (o.1, o.2.1, o.2.2.1, o.2.2.2.1, o.2.2.2.2.1, o.2.2.2.2.2.1, o.2.2.2.2.2.2.1, o.2.2.2.2.2.2.2.1, o.2.2.2.2.2.2.2.2.1, o.2.2.2.2.2.2.2.2.2.1, o.2.2.2.2.2.2.2.2.2.2.1, o.2.2.2.2.2.2.2.2.2.2.2.1, o.2.2.2.2.2.2.2.2.2.2.2.2.1, o.2.2.2.2.2.2.2.2.2.2.2.2.2.1, o.2.2.2.2.2.2.2.2.2.2.2.2.2.2.1, o.2.2.2.2.2.2.2.2.2.2.2.2.2.2.2.1, o.2.2.2.2.2.2.2.2.2.2.2.2.2.2.2.2.1, o.2.2.2.2.2.2.2.2.2.2.2.2.2.2.2.2.2.1, o.2.2.2.2.2.2.2.2.2.2.2.2.2.2.2.2.2.2.1, o.2.2.2.2.2.2.2.2.2.2.2.2.2.2.2.2.2.2.2.1, o.2.2.2.2.2.2.2.2.2.2.2.2.2.2.2.2.2.2.2.2.1, o.2.2.2.2.2.2.2.2.2.2.2.2.2.2.2.2.2.2.2.2.2.1, o.2.2.2.2.2.2.2.2.2.2.2.2.2.2.2.2.2.2.2.2.2.2.1, o.2.2.2.2.2.2.2.2.2.2.2.2.2.2.2.2.2.2.2.2.2.2.2.1, o.2.2.2.2.2.2.2.2.2.2.2.2.2.2.2.2.2.2.2.2.2.2.2.2.1, o.2.2.2.2.2.2.2.2.2.2.2.2.2.2.2.2.2.2.2.2.2.2.2.2.2.1, o.2.2.2.2.2.2.2.2.2.2.2.2.2.2.2.2.2.2.2.2.2.2.2.2.2.2.1, o.2.2.2.2.2.2.2.2.2.2.2.2.2.2.2.2.2.2.2.2.2.2.2.2.2.2.2.1, o.2.2.2.2.2.2.2.2.2.2.2.2.2.2.2.2.2.2.2.2.2.2.2.2.2.2.2.2.1, o.2.2.2.2.2.2.2.2.2.2.2.2.2.2.2.2.2.2.2.2.2.2.2.2.2.2.2.2.2.1, o.2.2.2.2.2.2.2.2.2.2.2.2.2.2.2.2.2.2.2.2.2.2.2.2.2.2.2.2.2.2.1, v, o.2.2.2.2.2.2.2.2.2.2.2.2.2.2.2.2.2.2.2.2.2.2.2.2.2.2.2.2.2.2.2.2.1, o.2.2.2.2.2.2.2.2.2.2.2.2.2.2.2.2.2.2.2.2.2.2.2.2.2.2.2.2.2.2.2.2.2.1, o.2.2.2.2.2.2.2.2.2.2.2.2.2.2.2.2.2.2.2.2.2.2.2.2.2.2.2.2.2.2.2.2.2.2.1, o.2.2.2.2.2.2.2.2.2.2.2.2.2.2.2.2.2.2.2.2.2.2.2.2.2.2.2.2.2.2.2.2.2.2.2)
def so (o : Ob) (v : Int32) : Ob := (o.1, o.2.1, o.2.2.1, o.2.2.2.1, o.2.2.2.2.1, o.2.2.2.2.2.1, o.2.2.2.2.2.2.1, o.2.2.2.2.2.2.2.1, o.2.2.2.2.2.2.2.2.1, o.2.2.2.2.2.2.2.2.2.1, o.2.2.2.2.2.2.2.2.2.2.1, o.2.2.2.2.2.2.2.2.2.2.2.1, o.2.2.2.2.2.2.2.2.2.2.2.2.1, o.2.2.2.2.2.2.2.2.2.2.2.2.2.1, o.2.2.2.2.2.2.2.2.2.2.2.2.2.2.1, o.2.2.2.2.2.2.2.2.2.2.2.2.2.2.2.1, o.2.2.2.2.2.2.2.2.2.2.2.2.2.2.2.2.1, o.2.2.2.2.2.2.2.2.2.2.2.2.2.2.2.2.2.1, o.2.2.2.2.2.2.2.2.2.2.2.2.2.2.2.2.2.2.1, o.2.2.2.2.2.2.2.2.2.2.2.2.2.2.2.2.2.2.2.1, o.2.2.2.2.2.2.2.2.2.2.2.2.2.2.2.2.2.2.2.2.1, o.2.2.2.2.2.2.2.2.2.2.2.2.2.2.2.2.2.2.2.2.2.1, o.2.2.2.2.2.2.2.2.2.2.2.2.2.2.2.2.2.2.2.2.2.2.1, o.2.2.2.2.2.2.2.2.2.2.2.2.2.2.2.2.2.2.2.2.2.2.2.1, o.2.2.2.2.2.2.2.2.2.2.2.2.2.2.2.2.2.2.2.2.2.2.2.2.1, o.2.2.2.2.2.2.2.2.2.2.2.2.2.2.2.2.2.2.2.2.2.2.2.2.2.1, o.2.2.2.2.2.2.2.2.2.2.2.2.2.2.2.2.2.2.2.2.2.2.2.2.2.2.1, o.2.2.2.2.2.2.2.2.2.2.2.2.2.2.2.2.2.2.2.2.2.2.2.2.2.2.2.1, o.2.2.2.2.2.2.2.2.2.2.2.2.2.2.2.2.2.2.2.2.2.2.2.2.2.2.2.2.1, o.2.2.2.2.2.2.2.2.2.2.2.2.2.2.2.2.2.2.2.2.2.2.2.2.2.2.2.2.2.1, o.2.2.2.2.2.2.2.2.2.2.2.2.2.2.2.2.2.2.2.2.2.2.2.2.2.2.2.2.2.2.1, o.2.2.2.2.2.2.2.2.2.2.2.2.2.2.2.2.2.2.2.2.2.2.2.2.2.2.2.2.2.2.2.1, v, o.2.2.2.2.2.2.2.2.2.2.2.2.2.2.2.2.2.2.2.2.2.2.2.2.2.2.2.2.2.2.2.2.2.1, o.2.2.2.2.2.2.2.2.2.2.2.2.2.2.2.2.2.2.2.2.2.2.2.2.2.2.2.2.2.2.2.2.2.2.1, o.2.2.2.2.2.2.2.2.2.2.2.2.2.2.2.2.2.2.2.2.2.2.2.2.2.2.2.2.2.2.2.2.2.2.2)
def sp (o : Ob) (v : Int32) : Ob := (o.1, o.2.1, o.2.2.1, o.2.2.2.1, o.2.2.2.2.1, o.2.2.2.2.2.1, o.2.2.2.2.2.2.1, o.2.2.2.2.2.2.2.1, o.2.2.2.2.2.2.2.2.1, o.2.2.2.2.2.2.2.2.2.1, o.2.2.2.2.2.2.2.2.2.2.1, o.2.2.2.2.2.2.2.2.2.2.2.1, o.2.2.2.2.2.2.2.2.2.2.2.2.1, o.2.2.2.2.2.2.2.2.2.2.2.2.2.1, o.2.2.2.2.2.2.2.2.2.2.2.2.2.2.1, o.2.2.2.2.2.2.2.2.2.2.2.2.2.2.2.1, o.2.2.2.2.2.2.2.2.2.2.2.2.2.2.2.2.1, o.2.2.2.2.2.2.2.2.2.2.2.2.2.2.2.2.2.1, o.2.2.2.2.2.2.2.2.2.2.2.2.2.2.2.2.2.2.1, o.2.2.2.2.2.2.2.2.2.2.2.2.2.2.2.2.2.2.2.1, o.2.2.2.2.2.2.2.2.2.2.2.2.2.2.2.2.2.2.2.2.1, o.2.2.2.2.2.2.2.2.2.2.2.2.2.2.2.2.2.2.2.2.2.1, o.2.2.2.2.2.2.2.2.2.2.2.2.2.2.2.2.2.2.2.2.2.2.1, o.2.2.2.2.2.2.2.2.2.2.2.2.2.2.2.2.2.2.2.2.2.2.2.1, o.2.2.2.2.2.2.2.2.2.2.2.2.2.2.2.2.2.2.2.2.2.2.2.2.1, o.2.2.2.2.2.2.2.2.2.2.2.2.2.2.2.2.2.2.2.2.2.2.2.2.2.1, o.2.2.2.2.2.2.2.2.2.2.2.2.2.2.2.2.2.2.2.2.2.2.2.2.2.2.1, o.2.2.2.2.2.2.2.2.2.2.2.2.2.2.2.2.2.2.2.2.2.2.2.2.2.2.2.1, o.2.2.2.2.2.2.2.2.2.2.2.2.2.2.2.2.2.2.2.2.2.2.2.2.2.2.2.2.1, o.2.2.2.2.2.2.2.2.2.2.2.2.2.2.2.2.2.2.2.2.2.2.2.2.2.2.2.2.2.1, o.2.2.2.2.2.2.2.2.2.2.2.2.2.2.2.2.2.2.2.2.2.2.2.2.2.2.2.2.2.2.1, o.2.2.2.2.2.2.2.2.2.2.2.2.2.2.2.2.2.2.2.2.2.2.2.2.2.2.2.2.2.2.2.1, o.2.2.2.2.2.2.2.2.2.2.2.2.2.2.2.2.2.2.2.2.2.2.2.2.2.2.2.2.2.2.2.2.1, v, o.2.2.2.2.2.2.2.2.2.2.2.2.2.2.2.2.2.2.2.2.2.2.2.2.2.2.2.2.2.2.2.2.2.2.1, o.2.2.2.2.2.2.2.2.2.2.2.2.2.2.2.2.2.2.2.2.2.2.2.2.2.2.2.2.2.2.2.2.2.2.2)
def sq (o : Ob) (v : Int32) : Ob := (o.1, o.2.1, o.2.2.1, o.2.2.2.1, o.2.2.2.2.1, o.2.2.2.2.2.1, o.2.2.2.2.2.2.1, o.2.2.2.2.2.2.2.1, o.2.2.2.2.2.2.2.2.1, o.2.2.2.2.2.2.2.2.2.1, o.2.2.2.2.2.2.2.2.2.2.1, o.2.2.2.2.2.2.2.2.2.2.2.1, o.2.2.2.2.2.2.2.2.2.2.2.2.1, o.2.2.2.2.2.2.2.2.2.2.2.2.2.1, o.2.2.2.2.2.2.2.2.2.2.2.2.2.2.1, o.2.2.2.2.2.2.2.2.2.2.2.2.2.2.2.1, o.2.2.2.2.2.2.2.2.2.2.2.2.2.2.2.2.1, o.2.2.2.2.2.2.2.2.2.2.2.2.2.2.2.2.2.1, o.2.2.2.2.2.2.2.2.2.2.2.2.2.2.2.2.2.2.1, o.2.2.2.2.2.2.2.2.2.2.2.2.2.2.2.2.2.2.2.1, o.2.2.2.2.2.2.2.2.2.2.2.2.2.2.2.2.2.2.2.2.1, o.2.2.2.2.2.2.2.2.2.2.2.2.2.2.2.2.2.2.2.2.2.1, o.2.2.2.2.2.2.2.2.2.2.2.2.2.2.2.2.2.2.2.2.2.2.1, o.2.2.2.2.2.2.2.2.2.2.2.2.2.2.2.2.2.2.2.2.2.2.2.1, o.2.2.2.2.2.2.2.2.2.2.2.2.2.2.2.2.2.2.2.2.2.2.2.2.1, o.2.2.2.2.2.2.2.2.2.2.2.2.2.2.2.2.2.2.2.2.2.2.2.2.2.1, o.2.2.2.2.2.2.2.2.2.2.2.2.2.2.2.2.2.2.2.2.2.2.2.2.2.2.1, o.2.2.2.2.2.2.2.2.2.2.2.2.2.2.2.2.2.2.2.2.2.2.2.2.2.2.2.1, o.2.2.2.2.2.2.2.2.2.2.2.2.2.2.2.2.2.2.2.2.2.2.2.2.2.2.2.2.1, o.2.2.2.2.2.2.2.2.2.2.2.2.2.2.2.2.2.2.2.2.2.2.2.2.2.2.2.2.2.1, o.2.2.2.2.2.2.2.2.2.2.2.2.2.2.2.2.2.2.2.2.2.2.2.2.2.2.2.2.2.2.1, o.2.2.2.2.2.2.2.2.2.2.2.2.2.2.2.2.2.2.2.2.2.2.2.2.2.2.2.2.2.2.2.1, o.2.2.2.2.2.2.2.2.2.2.2.2.2.2.2.2.2.2.2.2.2.2.2.2.2.2.2.2.2.2.2.2.1, o.2.2.2.2.2.2.2.2.2.2.2.2.2.2.2.2.2.2.2.2.2.2.2.2.2.2.2.2.2.2.2.2.2.1, v, o.2.2.2.2.2.2.2.2.2.2.2.2.2.2.2.2.2.2.2.2.2.2.2.2.2.2.2.2.2.2.2.2.2.2.2)
def sr (o : Ob) (v : Int32) : Ob := (o.1, o.2.1, o.2.2.1, o.2.2.2.1, o.2.2.2.2.1, o.2.2.2.2.2.1, o.2.2.2.2.2.2.1, o.2.2.2.2.2.2.2.1, o.2.2.2.2.2.2.2.2.1, o.2.2.2.2.2.2.2.2.2.1, o.2.2.2.2.2.2.2.2.2.2.1, o.2.2.2.2.2.2.2.2.2.2.2.1, o.2.2.2.2.2.2.2.2.2.2.2.2.1, o.2.2.2.2.2.2.2.2.2.2.2.2.2.1, o.2.2.2.2.2.2.2.2.2.2.2.2.2.2.1, o.2.2.2.2.2.2.2.2.2.2.2.2.2.2.2.1, o.2.2.2.2.2.2.2.2.2.2.2.2.2.2.2.2.1, o.2.2.2.2.2.2.2.2.2.2.2.2.2.2.2.2.2.1, o.2.2.2.2.2.2.2.2.2.2.2.2.2.2.2.2.2.2.1, o.2.2.2.2.2.2.2.2.2.2.2.2.2.2.2.2.2.2.2.1, o.2.2.2.2.2.2.2.2.2.2.2.2.2.2.2.2.2.2.2.2.1, o.2.2.2.2.2.2.2.2.2.2.2.2.2.2.2.2.2.2.2.2.2.1, o.2.2.2.2.2.2.2.2.2.2.2.2.2.2.2.2.2.2.2.2.2.2.1, o.2.2.2.2.2.2.2.2.2.2.2.2.2.2.2.2.2.2.2.2.2.2.2.1, o.2.2.2.2.2.2.2.2.2.2.2.2.2.2.2.2.2.2.2.2.2.2.2.2.1, o.2.2.2.2.2.2.2.2.2.2.2.2.2.2.2.2.2.2.2.2.2.2.2.2.2.1, o.2.2.2.2.2.2.2.2.2.2.2.2.2.2.2.2.2.2.2.2.2.2.2.2.2.2.1, o.2.2.2.2.2.2.2.2.2.2.2.2.2.2.2.2.2.2.2.2.2.2.2.2.2.2.2.1, o.2.2.2.2.2.2.2.2.2.2.2.2.2.2.2.2.2.2.2.2.2.2.2.2.2.2.2.2.1, o.2.2.2.2.2.2.2.2.2.2.2.2.2.2.2.2.2.2.2.2.2.2.2.2.2.2.2.2.2.1, o.2.2.2.2.2.2.2.2.2.2.2.2.2.2.2.2.2.2.2.2.2.2.2.2.2.2.2.2.2.2.1, o.2.2.2.2.2.2.2.2.2.2.2.2.2.2.2.2.2.2.2.2.2.2.2.2.2.2.2.2.2.2.2.1, o.2.2.2.2.2.2.2.2.2.2.2.2.2.2.2.2.2.2.2.2.2.2.2.2.2.2.2.2.2.2.2.2.1, o.2.2.2.2.2.2.2.2.2.2.2.2.2.2.2.2.2.2.2.2.2.2.2.2.2.2.2.2.2.2.2.2.2.1, o.2.2.2.2.2.2.2.2.2.2.2.2.2.2.2.2.2.2.2.2.2.2.2.2.2.2.2.2.2.2.2.2.2.2.1, v)
theorem fs (o : Ob) : fA o = o.1 ∧ fB o = o.2.1 ∧ fC o = o.2.2.1 ∧ fD o = o.2.2.2.1 ∧ fE o = o.2.2.2.2.1 ∧ fF o = o.2.2.2.2.2.1 ∧ fG o = o.2.2.2.2.2.2.1 ∧ fH o = o.2.2.2.2.2.2.2.1 ∧ fI o = o.2.2.2.2.2.2.2.2.1 ∧ fJ o = o.2.2.2.2.2.2.2.2.2.1 ∧ fK o = o.2.2.2.2.2.2.2.2.2.2.1 ∧ fL o = o.2.2.2.2.2.2.2.2.2.2.2.1 ∧ fM o = o.2.2.2.2.2.2.2.2.2.2.2.2.1 ∧ fO o = o.2.2.2.2.2.2.2.2.2.2.2.2.2.1 ∧ fP o = o.2.2.2.2.2.2.2.2.2.2.2.2.2.2.1 ∧ fQ o = o.2.2.2.2.2.2.2.2.2.2.2.2.2.2.2.1 ∧ fR o = o.2.2.2.2.2.2.2.2.2.2.2.2.2.2.2.2.1 ∧ fT o = o.2.2.2.2.2.2.2.2.2.2.2.2.2.2.2.2.2.1 ∧ fU o = o.2.2.2.2.2.2.2.2.2.2.2.2.2.2.2.2.2.2.1 ∧ fV o = o.2.2.2.2.2.2.2.2.2.2.2.2.2.2.2.2.2.2.2.1 ∧ fW o = o.2.2.2.2.2.2.2.2.2.2.2.2.2.2.2.2.2.2.2.2.1 ∧ fX o = o.2.2.2.2.2.2.2.2.2.2.2.2.2.2.2.2.2.2.2.2.2.1 ∧ fY o = o.2.2.2.2.2.2.2.2.2.2.2.2.2.2.2.2.2.2.2.2.2.2.1 ∧ fZ o = o.2.2.2.2.2.2.2.2.2.2.2.2.2.2.2.2.2.2.2.2.2.2.2.1 ∧ fa o = o.2.2.2.2.2.2.2.2.2.2.2.2.2.2.2.2.2.2.2.2.2.2.2.2.1 ∧ fb o = o.2.2.2.2.2.2.2.2.2.2.2.2.2.2.2.2.2.2.2.2.2.2.2.2.2.1 ∧ fc o = o.2.2.2.2.2.2.2.2.2.2.2.2.2.2.2.2.2.2.2.2.2.2.2.2.2.2.1 ∧ fd o = o.2.2.2.2.2.2.2.2.2.2.2.2.2.2.2.2.2.2.2.2.2.2.2.2.2.2.2.1 ∧ fe o = o.2.2.2.2.2.2.2.2.2.2.2.2.2.2.2.2.2.2.2.2.2.2.2.2.2.2.2.2.1 ∧ fh o = o.2.2.2.2.2.2.2.2.2.2.2.2.2.2.2.2.2.2.2.2.2.2.2.2.2.2.2.2.2.1 ∧ fi o = o.2.2.2.2.2.2.2.2.2.2.2.2.2.2.2.2.2.2.2.2.2.2.2.2.2.2.2.2.2.2.1 ∧ fm o = o.2.2.2.2.2.2.2.2.2.2.2.2.2.2.2.2.2.2.2.2.2.2.2.2.2.2.2.2.2.2.2.1 ∧ fo o = o.2.2.2.2.2.2.2.2.2.2.2.2.2.2.2.2.2.2.2.2.2.2.2.2.2.2.2.2.2.2.2.2.1 ∧ fp o = o.2.2.2.2.2.2.2.2.2.2.2.2.2.2.2.2.2.2.2.2.2.2.2.2.2.2.2.2.2.2.2.2.2.1 ∧ fq o = o.2.2.2.2.2.2.2.2.2.2.2.2.2.2.2.2.2.2.2.2.2.2.2.2.2.2.2.2.2.2.2.2.2.2.1 ∧ fr o = o.2.2.2.2.2.2.2.2.2.2.2.2.2.2.2.2.2.2.2.2.2.2.2.2.2.2.2.2.2.2.2.2.2.2.2 := by simp only [fA, fB, fC, fD, fE, fF, fG, fH, fI, fJ, fK, fL, fM, fO, fP, fQ, fR, fT, fU, fV, fW, fX, fY, fZ, fa, fb, fc, fd, fe, fh, fi, fm, fo, fp, fq, fr, and_self]
def pw (a b i : Nat) : Nat := bif Nat.blt i a then i else bif Nat.blt i (a + b) then i + b else bif Nat.blt i (a + b + b) then i - b else i
def rw0 (a b : Nat) : Value → Value
 | .ref k => .ref (pw a b k)
 | v => v
def rwc (a b : Nat) : QCell → QCell
 | .inl vs => .inl (vs.map (rw0 a b))
 | .inr x => .inr x
def rwh (a b : Nat) (σ : QHeap) : QHeap := ((σ.take a) ++ (((σ.drop a).drop b).take b ++ ((σ.drop a).take b ++ ((σ.drop a).drop b).drop b))).map (rwc a b)
theorem pw_c (a b i : Nat) : (i < a ∧ pw a b i = i) ∨ (a ≤ i ∧ i < a + b ∧ pw a b i = i + b) ∨ (a + b ≤ i ∧ i < a + b + b ∧ pw a b i = i - b) ∨ (a + b + b ≤ i ∧ pw a b i = i) := by
 unfold pw
 have T : ∀ {x y : Nat}, x < y → Nat.blt x y = true := fun h => by rw [Nat.blt_eq]; exact h
 have F : ∀ {x y : Nat}, ¬ x < y → Nat.blt x y = false := fun h => Bool.eq_false_iff.2 fun z => h (by rw [Nat.blt_eq] at z; exact z)
 by_cases c1 : i < a
 ·exact Or.inl ⟨c1, by rw [T c1]; rfl⟩
 ·by_cases c2 : i < a + b
  ·exact Or.inr (Or.inl ⟨by omega, c2, by rw [F c1, T c2]; rfl⟩)
  ·by_cases c3 : i < a + b + b
   ·exact Or.inr (Or.inr (Or.inl ⟨by omega, c3, by rw [F c1, F c2, T c3]; rfl⟩))
   ·exact Or.inr (Or.inr (Or.inr ⟨by omega, by rw [F c1, F c2, F c3]; rfl⟩))
theorem pw_pw (a b i : Nat) : pw a b (pw a b i) = i := by
 have h := pw_c a b i
 have h' := pw_c a b (pw a b i)
 omega
theorem qv_rw (ad : Nat → Addr) (a b : Nat) (v : Value) : qv ad (rw0 a b v) = qv (fun i => ad (pw a b i)) v := by
 cases v <;> rfl
theorem qsz_rw (a b : Nat) (c : QCell) : qsz (rwc a b c) = qsz c := by
 rcases c with _ | _ | _ <;> rfl
theorem qhs_map (a b : Nat) (x : QHeap) : qhs (x.map (rwc a b)) = qhs x := by
 induction x with
 | nil => rfl
 | cons c t ih => show qsz (rwc a b c) + qhs (t.map (rwc a b)) = qsz c + qhs t; rw [ih, qsz_rw]
theorem qhs_rw (a b : Nat) (σ : QHeap) : qhs (rwh a b σ) = qhs σ := by
 unfold rwh
 rw [qhs_map, qhs_app, qhs_app, qhs_app]
 have e1 : qhs σ = qhs (σ.take a) + qhs (σ.drop a) := by rw [← qhs_app, List.take_append_drop]
 have e2 : qhs (σ.drop a) = qhs ((σ.drop a).take b) + qhs ((σ.drop a).drop b) := by rw [← qhs_app, List.take_append_drop]
 have e3 : qhs ((σ.drop a).drop b) = qhs (((σ.drop a).drop b).take b) + qhs (((σ.drop a).drop b).drop b) := by rw [← qhs_app, List.take_append_drop]
 omega
theorem len_rw (a b : Nat) (σ : QHeap) : (rwh a b σ).length = σ.length := by
 unfold rwh
 simp
 omega
theorem hget_rw {a b : Nat} {σ : QHeap} (h : σ.length = a + b + b) (k : Nat) : hget (rwh a b σ) k = (hget σ (pw a b k)).map (rwc a b) := by
 rw [hget_eq, hget_eq]
 unfold rwh
 rw [List.getElem?_map]
 congr 1
 have l1 : (σ.take a).length = a := by simp; omega
 have l2 : (((σ.drop a).drop b).take b).length = b := by simp; omega
 have l3 : ((σ.drop a).take b).length = b := by simp; omega
 rcases pw_c a b k with ⟨c1, e⟩ | ⟨c1, c2, e⟩ | ⟨c1, c2, e⟩ | ⟨c1, e⟩ <;> rw [e]
 ·rw [List.getElem?_append_left (by omega), List.getElem?_take_of_lt c1]
 ·rw [List.getElem?_append_right (by omega), l1, List.getElem?_append_left (by omega), List.getElem?_take_of_lt (by omega), List.getElem?_drop, List.getElem?_drop]
  congr 1; omega
 ·rw [List.getElem?_append_right (by omega), l1, List.getElem?_append_right (by omega), l2, List.getElem?_append_left (by omega), List.getElem?_take_of_lt (by omega), List.getElem?_drop]
  congr 1; omega
 ·rw [List.getElem?_append_right (by omega), l1, List.getElem?_append_right (by omega), l2, List.getElem?_append_right (by omega), l3, List.getElem?_drop, List.getElem?_drop, List.getElem?_drop]
  congr 1; omega
theorem vget_map {f : Value → Value} : ∀ (vs : List Value) (k : Nat), vget (vs.map f) k = (vget vs k).map f
 | [], _ => rfl
 | _ :: _, 0 => rfl
 | _ :: t, k + 1 => vget_map t k
theorem lget_map {f : Value → Value} : ∀ (L : QLoc) (k : Nat), lget (L.map (Option.map f)) k = (lget L k).map f
 | [], _ => rfl
 | _ :: _, 0 => rfl
 | _ :: t, k + 1 => lget_map t k
theorem QCellOk_rw {Z : State} {ad : Nat → Addr} {h : Heap} {x : Addr} (a b : Nat) (c : QCell) : QCellOk Z ad h x (rwc a b c) ↔ QCellOk Z (fun i => ad (pw a b i)) h x c := by
 rcases c with vs | y | y
 ·show (_ ∧ (vs.map (rw0 a b)).length = nF ∧ ∀ (k : Nat) (v : Value), k < nF → vget (vs.map (rw0 a b)) k = some v → Fld Z h x cName (fNm k) (fDs k) (qv ad v)) ↔ _
  rw [List.length_map]
  refine ⟨fun ⟨h1, h2, h3⟩ => ⟨h1, h2, fun k v hk hv => ?_⟩, fun ⟨h1, h2, h3⟩ => ⟨h1, h2, fun k v hk hv => ?_⟩⟩
  ·rw [← qv_rw]
   exact h3 k _ hk (by rw [vget_map, hv]; rfl)
  ·rw [vget_map] at hv
   cases e : vget vs k with
   | none => rw [e] at hv; cases hv
   | some w =>
    rw [e] at hv
    obtain rfl : rw0 a b w = v := Option.some.inj hv
    rw [qv_rw]
    exact h3 k w hk e
 ·exact Iff.rfl
 ·exact Iff.rfl
theorem QAd.swap {n0 : Nat} {ad : Nat → Addr} (Ad : QAd n0 ad) {a : Nat} (b : Nat) (ha : k0 ≤ a) : QAd n0 (fun i => ad (pw a b i)) := by
 refine ⟨fun k hk => Ad.1 _ ?_, fun i j h => ?_⟩
 ·have := pw_c a b k
  omega
 ·have := Ad.2 _ _ h
  rw [← pw_pw a b i, this, pw_pw]
theorem QRep_rw {Z : State} {n0 : Nat} {ad : Nat → Addr} {h : Heap} {σ : QHeap} {a b : Nat} (hl : σ.length = a + b + b) : QRep Z n0 ad h (rwh a b σ) ↔ QRep Z n0 (fun i => ad (pw a b i)) h σ := by
 unfold QRep
 rw [len_rw]
 refine ⟨fun ⟨⟨h1, h2⟩, h3, h4⟩ => ⟨⟨h1, fun k hk => ?_⟩, h3, fun k c hc => ?_⟩, fun ⟨⟨h1, h2⟩, h3, h4⟩ => ⟨⟨h1, fun k hk => ?_⟩, h3, fun k c hc => ?_⟩⟩
 ·have := pw_c a b k
  have e : pw a b k = k := by omega
  show ad (pw a b k) = _
  rw [e]; exact h2 k hk
 ·refine (QCellOk_rw a b c).1 (h4 (pw a b k) _ ?_)
  rw [hget_rw hl, pw_pw, hc]; rfl
 ·have := pw_c a b k
  have e : pw a b k = k := by omega
  have := h2 k hk
  simp only [e] at this
  exact this
 ·rw [hget_rw hl] at hc
  cases e : hget σ (pw a b k) with
  | none => rw [e] at hc; cases hc
  | some w =>
   rw [e] at hc
   obtain rfl : rwc a b w = c := Option.some.inj hc
   have := h4 (pw a b k) w e
   simp only [pw_pw] at this
   exact (QCellOk_rw a b w).2 this
theorem QTri.swap {l : Launch} {Z : State} {n0 : Nat} {ad : Nat → Addr} {m pc : Nat} {L L' : QLoc} {S S' : List Value} {σ σ' τ τ' : QHeap} {v v' : Option Value} (a b : Nat) (h : QTri l Z n0 (fun i => ad (pw a b i)) m (pc, L, S, σ) v σ') (h1 : σ.length = a + b + b) (h2 : σ'.length = a + b + b) (eL : L.map (Option.map (rw0 a b)) = L') (eS : S.map (rw0 a b) = S') (ev : v.map (rw0 a b) = v') (e1 : rwh a b σ = τ) (e2 : rwh a b σ' = τ') : QTri l Z n0 ad m (pc, L', S', τ) v' τ' := by
 subst eL; subst eS; subst ev; subst e1; subst e2
 obtain ⟨q1, q2, q⟩ := h
 refine ⟨by show (rwh a b σ).length ≤ _; rw [len_rw, len_rw]; exact q1, by show qhs (rwh a b σ) ≤ _; rw [qhs_rw, qhs_rw]; exact q2, ?_⟩
 intro p e R s mid args below meth c T locs cells slots C hcx X hR hF hL hC hn hc hs
 simp only [len_rw, qhs_rw] at hn hc hs ⊢
 have fS : ∀ x : List Value, (x.map (rw0 a b)).map (qv ad) = x.map (qv fun i => ad (pw a b i)) := by
  intro x
  rw [List.map_map]
  exact List.map_congr_left fun w _ => qv_rw ad a b w
 have fv : (v.map (rw0 a b)).map (qv ad) = v.map (qv fun i => ad (pw a b i)) := by
  cases v with
  | none => rfl
  | some w => exact congrArg some (qv_rw ad a b w)
 have hL' : QLocOk (fun i => ad (pw a b i)) L C := by
  obtain ⟨l1, l2, l3, l4⟩ := hL
  refine ⟨by rw [← l1]; exact (List.length_map _).symm, fun k w hk => ?_, l3, l4⟩
  rw [← qv_rw]
  exact l2 k _ (by show lget (L.map _) k = _; rw [lget_map, hk]; rfl)
 obtain ⟨T', locs', x1, x2, x3, x4⟩ := q p e R s mid args below meth c T locs cells slots C hcx X ((QRep_rw h1).1 hR) hF hL' hC hn hc hs
 refine ⟨T', locs', x1, (QRep_rw h2).2 x2, x3, fun fs hfs => ?_⟩
 rw [fS]
 exact x4 fs (fun f acts z1 z2 z3 => by rw [← fv]; exact hfs f acts z1 z2 z3)
abbrev nU : Value := .null
abbrev rr4 {α : Type} [OfNat α 0] : List α := List.replicate 4 0
abbrev rr16 {α : Type} [OfNat α 0] : List α := List.replicate 16 0
abbrev rr32 {α : Type} [OfNat α 0] : List α := List.replicate 32 0
abbrev iC (x : List Int32) : QCell := .inr (.inl (.int, x))
def ob0 : Ob := ([], [], [], [], [], [], [], [], [], [], [], [], [], [], [], [], [], [], [], [], [], [], [], [], [], [], [], [], 0, 0, 0, 0, 0, 0, 0, 0)
abbrev i4 : QCell := iC rr4
abbrev i16 : QCell := iC rr16
abbrev i32 : QCell := iC rr32
section Walks
variable {l : Launch} {Z : State} {n0 : Nat} {ad : Nat → Addr} {a0 : Array Value}
set_option maxRecDepth 20000
set_option maxHeartbeats 2000000
abbrev tt : Bool := true
abbrev ff : Bool := false
open QTri renaming steps → zS, brT → zT, brF → zF, bnd → zB, mask → zM
open Option (bind_eq_some_iff)
open Classical (em)
abbrev nN : Option Value := none
theorem sj {α : Type} {a b : α} (h : some a = some b) : a = b := Option.some.inj h
theorem be {α β : Type} {x : Option α} {f : α → Option β} {b : β} (h : x.bind f = some b) : ∃ a, x = some a ∧ f a = some b := bind_eq_some_iff.mp h
open QTri (callI callO callP callS callV ret0 retI retJ retZ swap)
theorem yS {m : Nat} {v : Option Value} {σ' : QHeap} (Ad : QAd n0 ad) (W : QW Z a0) (n : Nat) {st : QSt} (st' : QSt) (h : qsteps m n st = some st') (k : QTri l Z n0 ad m st' v σ') : QTri l Z n0 ad m st v σ' := QTri.steps Ad W n h k
theorem yT {m : Nat} {v : Option Value} {σ' : QHeap} (Ad : QAd n0 ad) (W : QW Z a0) {st : QSt} (t f : Nat) {L : QLoc} {S : List Value} {σ : QHeap} {b : Bool} (hs : qstep m st = some (bif b then t else f, L, S, σ)) (hb : b = true) (h : QTri l Z n0 ad m (t, L, S, σ) v σ') : QTri l Z n0 ad m st v σ' := QTri.brT Ad W hs hb h
theorem yF {m : Nat} {v : Option Value} {σ' : QHeap} (Ad : QAd n0 ad) (W : QW Z a0) {st : QSt} (t f : Nat) {L : QLoc} {S : List Value} {σ : QHeap} {b : Bool} (hs : qstep m st = some (bif b then t else f, L, S, σ)) (hb : b = false) (h : QTri l Z n0 ad m (f, L, S, σ) v σ') : QTri l Z n0 ad m st v σ' := QTri.brF Ad W hs hb h
def H0 (s : List Int32) (o0 : Ob) : QHeap := [iC s, .inl [.ref 2, .ref 3, .ref 4, .ref 5, .ref 6, .ref 7, .ref 8, .ref 9, .ref 10, .ref 11, .ref 12, .ref 13, .ref 14, .ref 15, .ref 16, .ref 17, .ref 18, .ref 19, .ref 20, .ref 21, .ref 22, .ref 23, .ref 24, .ref 25, .ref 26, .ref 27, .ref 28, .ref 29, .int (fe o0), .int (fh o0), .int (fi o0), .int (fm o0), .int (fo o0), .int (fp o0), .int (fq o0), .int (fr o0)], iC (fA o0), iC (fB o0), iC (fC o0), iC (fD o0), iC (fE o0), iC (fF o0), iC (fG o0), iC (fH o0), iC (fI o0), iC (fJ o0), iC (fK o0), iC (fL o0), iC (fM o0), iC (fO o0), iC (fP o0), iC (fQ o0), iC (fR o0), iC (fT o0), iC (fU o0), iC (fV o0), iC (fW o0), iC (fX o0), iC (fY o0), iC (fZ o0), iC (fa o0), iC (fb o0), iC (fc o0), iC (fd o0)]
def H0v (s a0_0 : List Int32) (a0_1 a0_2 : List Int32) (a0_3 a0_4 : List Int32) (a0_5 a0_6 : List Int32) (a0_7 a0_8 : List Int32) (a0_9 a0_10 : List Int32) (a0_11 a0_12 : List Int32) (a0_13 a0_14 : List Int32) (a0_15 a0_16 : List Int32) (a0_17 a0_18 : List Int32) (a0_19 a0_20 : List Int32) (a0_21 a0_22 : List Int32) (a0_23 a0_24 : List Int32) (a0_25 a0_26 a0_27 : List Int32) (a0_28 a0_29 : Int32) (a0_30 a0_31 : Int32) (a0_32 a0_33 : Int32) (a0_34 a0_35 : Int32) : QHeap := [iC s, .inl [.ref 2, .ref 3, .ref 4, .ref 5, .ref 6, .ref 7, .ref 8, .ref 9, .ref 10, .ref 11, .ref 12, .ref 13, .ref 14, .ref 15, .ref 16, .ref 17, .ref 18, .ref 19, .ref 20, .ref 21, .ref 22, .ref 23, .ref 24, .ref 25, .ref 26, .ref 27, .ref 28, .ref 29, .int a0_28, .int a0_29, .int a0_30, .int a0_31, .int a0_32, .int a0_33, .int a0_34, .int a0_35], iC a0_0, iC a0_1, iC a0_2, iC a0_3, iC a0_4, iC a0_5, iC a0_6, iC a0_7, iC a0_8, iC a0_9, iC a0_10, iC a0_11, iC a0_12, iC a0_13, iC a0_14, iC a0_15, iC a0_16, iC a0_17, iC a0_18, iC a0_19, iC a0_20, iC a0_21, iC a0_22, iC a0_23, iC a0_24, iC a0_25, iC a0_26, iC a0_27]
def H0x0 (s : List Int32) (o0 : Ob) (a0_0 a0_1 : List Int32) (a0_2 a0_3 : List Int32) (a0_4 a0_5 : List Int32) (a0_6 a0_7 : List Int32) (a0_8 a0_9 : List Int32) (a0_10 a0_11 : List Int32) (a0_12 a0_13 : List Int32) (a0_14 a0_15 : List Int32) (a0_16 a0_17 : List Int32) (a0_18 a0_19 : List Int32) (a0_20 a0_21 : List Int32) (a0_22 a0_23 : List Int32) (a0_24 a0_25 : List Int32) (a0_26 a0_27 : List Int32) : QHeap := H0v s a0_0 a0_1 a0_2 a0_3 a0_4 a0_5 a0_6 a0_7 a0_8 a0_9 a0_10 a0_11 a0_12 a0_13 a0_14 a0_15 a0_16 a0_17 a0_18 a0_19 a0_20 a0_21 a0_22 a0_23 a0_24 a0_25 a0_26 a0_27 (fe o0) (fh o0) (fi o0) (fm o0) (fo o0) (fp o0) (fq o0) (fr o0)
def H0x1 (s : List Int32) (o0 : Ob) (a0_0 a0_1 : List Int32) (a0_2 a0_3 : List Int32) (a0_4 a0_5 : List Int32) (a0_6 a0_7 : List Int32) (a0_8 a0_9 : List Int32) (a0_10 a0_11 : List Int32) (a0_12 a0_13 : List Int32) (a0_14 a0_15 : List Int32) (a0_16 a0_17 : List Int32) (a0_18 a0_19 : List Int32) (a0_20 a0_21 : List Int32) (a0_22 a0_23 : List Int32) (a0_24 a0_25 : List Int32) (a0_26 a0_27 : List Int32) (a0_28 : Int32) : QHeap := H0v s a0_0 a0_1 a0_2 a0_3 a0_4 a0_5 a0_6 a0_7 a0_8 a0_9 a0_10 a0_11 a0_12 a0_13 a0_14 a0_15 a0_16 a0_17 a0_18 a0_19 a0_20 a0_21 a0_22 a0_23 a0_24 a0_25 a0_26 a0_27 a0_28 (fh o0) (fi o0) (fm o0) (fo o0) (fp o0) (fq o0) (fr o0)
def H0x2 (s : List Int32) (o0 : Ob) (a0_0 a0_1 : List Int32) (a0_2 a0_3 : List Int32) (a0_4 a0_5 : List Int32) (a0_6 a0_7 : List Int32) (a0_8 a0_9 : List Int32) (a0_10 a0_11 : List Int32) (a0_12 a0_13 : List Int32) (a0_14 a0_15 : List Int32) (a0_16 a0_17 : List Int32) (a0_18 a0_19 : List Int32) (a0_20 a0_21 : List Int32) (a0_22 a0_23 : List Int32) (a0_24 a0_25 : List Int32) (a0_26 a0_27 : List Int32) (a0_28 a0_29 : Int32) : QHeap := H0v s a0_0 a0_1 a0_2 a0_3 a0_4 a0_5 a0_6 a0_7 a0_8 a0_9 a0_10 a0_11 a0_12 a0_13 a0_14 a0_15 a0_16 a0_17 a0_18 a0_19 a0_20 a0_21 a0_22 a0_23 a0_24 a0_25 a0_26 a0_27 a0_28 a0_29 (fi o0) (fm o0) (fo o0) (fp o0) (fq o0) (fr o0)
def H0x3 (s : List Int32) (o0 : Ob) (a0_0 a0_1 : List Int32) (a0_2 a0_3 : List Int32) (a0_4 a0_5 : List Int32) (a0_6 a0_7 : List Int32) (a0_8 a0_9 : List Int32) (a0_10 a0_11 : List Int32) (a0_12 a0_13 : List Int32) (a0_14 a0_15 : List Int32) (a0_16 a0_17 : List Int32) (a0_18 a0_19 : List Int32) (a0_20 a0_21 : List Int32) (a0_22 a0_23 : List Int32) (a0_24 a0_25 : List Int32) (a0_26 a0_27 : List Int32) (a0_28 a0_29 a0_30 : Int32) : QHeap := H0v s a0_0 a0_1 a0_2 a0_3 a0_4 a0_5 a0_6 a0_7 a0_8 a0_9 a0_10 a0_11 a0_12 a0_13 a0_14 a0_15 a0_16 a0_17 a0_18 a0_19 a0_20 a0_21 a0_22 a0_23 a0_24 a0_25 a0_26 a0_27 a0_28 a0_29 a0_30 (fm o0) (fo o0) (fp o0) (fq o0) (fr o0)
def H0x4 (s : List Int32) (o0 : Ob) (a0_0 a0_1 : List Int32) (a0_2 a0_3 : List Int32) (a0_4 a0_5 : List Int32) (a0_6 a0_7 : List Int32) (a0_8 a0_9 : List Int32) (a0_10 a0_11 : List Int32) (a0_12 a0_13 : List Int32) (a0_14 a0_15 : List Int32) (a0_16 a0_17 : List Int32) (a0_18 a0_19 : List Int32) (a0_20 a0_21 : List Int32) (a0_22 a0_23 : List Int32) (a0_24 a0_25 : List Int32) (a0_26 a0_27 : List Int32) (a0_28 a0_29 : Int32) (a0_30 a0_31 : Int32) : QHeap := H0v s a0_0 a0_1 a0_2 a0_3 a0_4 a0_5 a0_6 a0_7 a0_8 a0_9 a0_10 a0_11 a0_12 a0_13 a0_14 a0_15 a0_16 a0_17 a0_18 a0_19 a0_20 a0_21 a0_22 a0_23 a0_24 a0_25 a0_26 a0_27 a0_28 a0_29 a0_30 a0_31 (fo o0) (fp o0) (fq o0) (fr o0)
def H0x5 (s : List Int32) (o0 : Ob) (a0_0 a0_1 : List Int32) (a0_2 a0_3 : List Int32) (a0_4 a0_5 : List Int32) (a0_6 a0_7 : List Int32) (a0_8 a0_9 : List Int32) (a0_10 a0_11 : List Int32) (a0_12 a0_13 : List Int32) (a0_14 a0_15 : List Int32) (a0_16 a0_17 : List Int32) (a0_18 a0_19 : List Int32) (a0_20 a0_21 : List Int32) (a0_22 a0_23 : List Int32) (a0_24 a0_25 : List Int32) (a0_26 a0_27 : List Int32) (a0_28 a0_29 : Int32) (a0_30 a0_31 a0_32 : Int32) : QHeap := H0v s a0_0 a0_1 a0_2 a0_3 a0_4 a0_5 a0_6 a0_7 a0_8 a0_9 a0_10 a0_11 a0_12 a0_13 a0_14 a0_15 a0_16 a0_17 a0_18 a0_19 a0_20 a0_21 a0_22 a0_23 a0_24 a0_25 a0_26 a0_27 a0_28 a0_29 a0_30 a0_31 a0_32 (fp o0) (fq o0) (fr o0)
def H0x6 (s : List Int32) (o0 : Ob) (a0_0 a0_1 : List Int32) (a0_2 a0_3 : List Int32) (a0_4 a0_5 : List Int32) (a0_6 a0_7 : List Int32) (a0_8 a0_9 : List Int32) (a0_10 a0_11 : List Int32) (a0_12 a0_13 : List Int32) (a0_14 a0_15 : List Int32) (a0_16 a0_17 : List Int32) (a0_18 a0_19 : List Int32) (a0_20 a0_21 : List Int32) (a0_22 a0_23 : List Int32) (a0_24 a0_25 : List Int32) (a0_26 a0_27 : List Int32) (a0_28 a0_29 : Int32) (a0_30 a0_31 : Int32) (a0_32 a0_33 : Int32) : QHeap := H0v s a0_0 a0_1 a0_2 a0_3 a0_4 a0_5 a0_6 a0_7 a0_8 a0_9 a0_10 a0_11 a0_12 a0_13 a0_14 a0_15 a0_16 a0_17 a0_18 a0_19 a0_20 a0_21 a0_22 a0_23 a0_24 a0_25 a0_26 a0_27 a0_28 a0_29 a0_30 a0_31 a0_32 a0_33 (fq o0) (fr o0)
def H0x7 (s : List Int32) (o0 : Ob) (a0_0 a0_1 : List Int32) (a0_2 a0_3 : List Int32) (a0_4 a0_5 : List Int32) (a0_6 a0_7 : List Int32) (a0_8 a0_9 : List Int32) (a0_10 a0_11 : List Int32) (a0_12 a0_13 : List Int32) (a0_14 a0_15 : List Int32) (a0_16 a0_17 : List Int32) (a0_18 a0_19 : List Int32) (a0_20 a0_21 : List Int32) (a0_22 a0_23 : List Int32) (a0_24 a0_25 : List Int32) (a0_26 a0_27 : List Int32) (a0_28 a0_29 : Int32) (a0_30 a0_31 : Int32) (a0_32 a0_33 a0_34 : Int32) : QHeap := H0v s a0_0 a0_1 a0_2 a0_3 a0_4 a0_5 a0_6 a0_7 a0_8 a0_9 a0_10 a0_11 a0_12 a0_13 a0_14 a0_15 a0_16 a0_17 a0_18 a0_19 a0_20 a0_21 a0_22 a0_23 a0_24 a0_25 a0_26 a0_27 a0_28 a0_29 a0_30 a0_31 a0_32 a0_33 a0_34 (fr o0)
/-- init(II)V -/
def F1 (x1 x2 : Int32) : Option (Ob) :=
 some (sq (sp (so (sm (si (sh (se (sd (sc (sb (sa (sZ (sY (sX (sW (sV (sU (sT (sR (sQ (sP (sO (sM (sL (sK (sJ (sI (sH (sG (sF (sE (sD (sC (sB (sA ob0 (List.replicate 16 0)) (List.replicate 16 0)) (List.replicate 16 0)) (List.replicate 16 0)) (List.replicate 16 0)) (List.replicate 16 0)) (List.replicate 16 0)) (List.replicate 16 0)) (List.replicate 16 0)) (List.replicate 16 0)) (List.replicate 4 0)) (List.replicate 16 0)) (List.replicate 32 0)) (List.replicate 32 0)) (List.replicate 16 0)) (List.replicate 16 0)) (List.replicate 16 0)) (List.replicate 16 0)) (List.replicate 16 0)) (List.replicate 16 0)) (List.replicate 16 0)) (List.replicate 16 0)) (List.replicate 16 0)) (List.replicate 16 0)) (List.replicate 16 0)) (List.replicate 16 0)) (List.replicate 16 0)) (List.replicate 16 0)) (if (16:Int32) < (if x1 < (2:Int32) then (2:Int32) else x1) then (16:Int32) else (if x1 < (2:Int32) then (2:Int32) else x1))) (if (1024:Int32) < (if x2 < (16:Int32) then (16:Int32) else x2) then (1024:Int32) else (if x2 < (16:Int32) then (16:Int32) else x2))) (0:Int32)) (0:Int32)) (0:Int32)) (0:Int32)) (0:Int32))
theorem tF1 (Ad : QAd n0 ad) (W : QW Z a0) (s : List Int32) (x1 x2 : Int32) {r : Ob} (h : F1 x1 x2 = some r) : QTri l Z n0 ad 1 (0, qentry [.ref 1, .int x1, .int x2] (pMaxL 1), [], [iC s, .inl [.null, .null, .null, .null, .null, .null, .null, .null, .null, .null, .null, .null, .null, .null, .null, .null, .null, .null, .null, .null, .null, .null, .null, .null, .null, .null, .null, .null, .int (fe ob0), .int (fh ob0), .int (fi ob0), .int (fm ob0), .int (fo ob0), .int (fp ob0), .int (fq ob0), .int (fr ob0)]]) (none : Option Value) (H0 s r) := by
 unfold F1 at h
 refine yS Ad W 1 (1, [vR 1, vI x1, vI x2, nN, nN], [.ref 1], [iC s, .inl [nU, nU, nU, nU, nU, nU, nU, nU, nU, nU, nU, nU, nU, nU, nU, nU, nU, nU, nU, nU, nU, nU, nU, nU, nU, nU, nU, nU, .int (fe ob0), .int (fh ob0), .int (fi ob0), .int (fm ob0), .int (fo ob0), .int (fp ob0), .int (fq ob0), .int (fr ob0)]]) rfl ?_
 refine callO W rfl rfl rfl ?_
 refine yS Ad W 4 (12, [vR 1, vI x1, vI x2, nN, nN], [], [iC s, .inl [.ref 2, nU, nU, nU, nU, nU, nU, nU, nU, nU, nU, nU, nU, nU, nU, nU, nU, nU, nU, nU, nU, nU, nU, nU, nU, nU, nU, nU, .int (fe ob0), .int (fh ob0), .int (fi ob0), .int (fm ob0), .int (fo ob0), .int (fp ob0), .int (fq ob0), .int (fr ob0)], i16]) rfl ?_
 refine yS Ad W 4 (20, [vR 1, vI x1, vI x2, nN, nN], [], [iC s, .inl [.ref 2, .ref 3, nU, nU, nU, nU, nU, nU, nU, nU, nU, nU, nU, nU, nU, nU, nU, nU, nU, nU, nU, nU, nU, nU, nU, nU, nU, nU, .int (fe ob0), .int (fh ob0), .int (fi ob0), .int (fm ob0), .int (fo ob0), .int (fp ob0), .int (fq ob0), .int (fr ob0)], i16, i16]) rfl ?_
 refine yS Ad W 4 (28, [vR 1, vI x1, vI x2, nN, nN], [], [iC s, .inl [.ref 2, .ref 3, .ref 4, nU, nU, nU, nU, nU, nU, nU, nU, nU, nU, nU, nU, nU, nU, nU, nU, nU, nU, nU, nU, nU, nU, nU, nU, nU, .int (fe ob0), .int (fh ob0), .int (fi ob0), .int (fm ob0), .int (fo ob0), .int (fp ob0), .int (fq ob0), .int (fr ob0)], i16, i16, i16]) rfl ?_
 refine yS Ad W 4 (36, [vR 1, vI x1, vI x2, nN, nN], [], [iC s, .inl [.ref 2, .ref 3, .ref 4, .ref 5, nU, nU, nU, nU, nU, nU, nU, nU, nU, nU, nU, nU, nU, nU, nU, nU, nU, nU, nU, nU, nU, nU, nU, nU, .int (fe ob0), .int (fh ob0), .int (fi ob0), .int (fm ob0), .int (fo ob0), .int (fp ob0), .int (fq ob0), .int (fr ob0)], i16, i16, i16, i16]) rfl ?_
 refine yS Ad W 4 (44, [vR 1, vI x1, vI x2, nN, nN], [], [iC s, .inl [.ref 2, .ref 3, .ref 4, .ref 5, .ref 6, nU, nU, nU, nU, nU, nU, nU, nU, nU, nU, nU, nU, nU, nU, nU, nU, nU, nU, nU, nU, nU, nU, nU, .int (fe ob0), .int (fh ob0), .int (fi ob0), .int (fm ob0), .int (fo ob0), .int (fp ob0), .int (fq ob0), .int (fr ob0)], i16, i16, i16, i16, i16]) rfl ?_
 refine yS Ad W 4 (52, [vR 1, vI x1, vI x2, nN, nN], [], [iC s, .inl [.ref 2, .ref 3, .ref 4, .ref 5, .ref 6, .ref 7, nU, nU, nU, nU, nU, nU, nU, nU, nU, nU, nU, nU, nU, nU, nU, nU, nU, nU, nU, nU, nU, nU, .int (fe ob0), .int (fh ob0), .int (fi ob0), .int (fm ob0), .int (fo ob0), .int (fp ob0), .int (fq ob0), .int (fr ob0)], i16, i16, i16, i16, i16, i16]) rfl ?_
 refine yS Ad W 4 (60, [vR 1, vI x1, vI x2, nN, nN], [], [iC s, .inl [.ref 2, .ref 3, .ref 4, .ref 5, .ref 6, .ref 7, .ref 8, nU, nU, nU, nU, nU, nU, nU, nU, nU, nU, nU, nU, nU, nU, nU, nU, nU, nU, nU, nU, nU, .int (fe ob0), .int (fh ob0), .int (fi ob0), .int (fm ob0), .int (fo ob0), .int (fp ob0), .int (fq ob0), .int (fr ob0)], i16, i16, i16, i16, i16, i16, i16]) rfl ?_
 refine yS Ad W 4 (68, [vR 1, vI x1, vI x2, nN, nN], [], [iC s, .inl [.ref 2, .ref 3, .ref 4, .ref 5, .ref 6, .ref 7, .ref 8, .ref 9, nU, nU, nU, nU, nU, nU, nU, nU, nU, nU, nU, nU, nU, nU, nU, nU, nU, nU, nU, nU, .int (fe ob0), .int (fh ob0), .int (fi ob0), .int (fm ob0), .int (fo ob0), .int (fp ob0), .int (fq ob0), .int (fr ob0)], i16, i16, i16, i16, i16, i16, i16, i16]) rfl ?_
 refine yS Ad W 4 (76, [vR 1, vI x1, vI x2, nN, nN], [], [iC s, .inl [.ref 2, .ref 3, .ref 4, .ref 5, .ref 6, .ref 7, .ref 8, .ref 9, .ref 10, nU, nU, nU, nU, nU, nU, nU, nU, nU, nU, nU, nU, nU, nU, nU, nU, nU, nU, nU, .int (fe ob0), .int (fh ob0), .int (fi ob0), .int (fm ob0), .int (fo ob0), .int (fp ob0), .int (fq ob0), .int (fr ob0)], i16, i16, i16, i16, i16, i16, i16, i16, i16]) rfl ?_
 refine yS Ad W 4 (84, [vR 1, vI x1, vI x2, nN, nN], [], [iC s, .inl [.ref 2, .ref 3, .ref 4, .ref 5, .ref 6, .ref 7, .ref 8, .ref 9, .ref 10, .ref 11, nU, nU, nU, nU, nU, nU, nU, nU, nU, nU, nU, nU, nU, nU, nU, nU, nU, nU, .int (fe ob0), .int (fh ob0), .int (fi ob0), .int (fm ob0), .int (fo ob0), .int (fp ob0), .int (fq ob0), .int (fr ob0)], i16, i16, i16, i16, i16, i16, i16, i16, i16, i16]) rfl ?_
 refine yS Ad W 4 (91, [vR 1, vI x1, vI x2, nN, nN], [], [iC s, .inl [.ref 2, .ref 3, .ref 4, .ref 5, .ref 6, .ref 7, .ref 8, .ref 9, .ref 10, .ref 11, .ref 12, nU, nU, nU, nU, nU, nU, nU, nU, nU, nU, nU, nU, nU, nU, nU, nU, nU, .int (fe ob0), .int (fh ob0), .int (fi ob0), .int (fm ob0), .int (fo ob0), .int (fp ob0), .int (fq ob0), .int (fr ob0)], i16, i16, i16, i16, i16, i16, i16, i16, i16, i16, i4]) rfl ?_
 refine yS Ad W 4 (99, [vR 1, vI x1, vI x2, nN, nN], [], [iC s, .inl [.ref 2, .ref 3, .ref 4, .ref 5, .ref 6, .ref 7, .ref 8, .ref 9, .ref 10, .ref 11, .ref 12, .ref 13, nU, nU, nU, nU, nU, nU, nU, nU, nU, nU, nU, nU, nU, nU, nU, nU, .int (fe ob0), .int (fh ob0), .int (fi ob0), .int (fm ob0), .int (fo ob0), .int (fp ob0), .int (fq ob0), .int (fr ob0)], i16, i16, i16, i16, i16, i16, i16, i16, i16, i16, i4, i16]) rfl ?_
 refine yS Ad W 4 (107, [vR 1, vI x1, vI x2, nN, nN], [], [iC s, .inl [.ref 2, .ref 3, .ref 4, .ref 5, .ref 6, .ref 7, .ref 8, .ref 9, .ref 10, .ref 11, .ref 12, .ref 13, .ref 14, nU, nU, nU, nU, nU, nU, nU, nU, nU, nU, nU, nU, nU, nU, nU, .int (fe ob0), .int (fh ob0), .int (fi ob0), .int (fm ob0), .int (fo ob0), .int (fp ob0), .int (fq ob0), .int (fr ob0)], i16, i16, i16, i16, i16, i16, i16, i16, i16, i16, i4, i16, i32]) rfl ?_
 refine yS Ad W 4 (115, [vR 1, vI x1, vI x2, nN, nN], [], [iC s, .inl [.ref 2, .ref 3, .ref 4, .ref 5, .ref 6, .ref 7, .ref 8, .ref 9, .ref 10, .ref 11, .ref 12, .ref 13, .ref 14, .ref 15, nU, nU, nU, nU, nU, nU, nU, nU, nU, nU, nU, nU, nU, nU, .int (fe ob0), .int (fh ob0), .int (fi ob0), .int (fm ob0), .int (fo ob0), .int (fp ob0), .int (fq ob0), .int (fr ob0)], i16, i16, i16, i16, i16, i16, i16, i16, i16, i16, i4, i16, i32, i32]) rfl ?_
 refine yS Ad W 4 (123, [vR 1, vI x1, vI x2, nN, nN], [], [iC s, .inl [.ref 2, .ref 3, .ref 4, .ref 5, .ref 6, .ref 7, .ref 8, .ref 9, .ref 10, .ref 11, .ref 12, .ref 13, .ref 14, .ref 15, .ref 16, nU, nU, nU, nU, nU, nU, nU, nU, nU, nU, nU, nU, nU, .int (fe ob0), .int (fh ob0), .int (fi ob0), .int (fm ob0), .int (fo ob0), .int (fp ob0), .int (fq ob0), .int (fr ob0)], i16, i16, i16, i16, i16, i16, i16, i16, i16, i16, i4, i16, i32, i32, i16]) rfl ?_
 refine yS Ad W 4 (131, [vR 1, vI x1, vI x2, nN, nN], [], [iC s, .inl [.ref 2, .ref 3, .ref 4, .ref 5, .ref 6, .ref 7, .ref 8, .ref 9, .ref 10, .ref 11, .ref 12, .ref 13, .ref 14, .ref 15, .ref 16, .ref 17, nU, nU, nU, nU, nU, nU, nU, nU, nU, nU, nU, nU, .int (fe ob0), .int (fh ob0), .int (fi ob0), .int (fm ob0), .int (fo ob0), .int (fp ob0), .int (fq ob0), .int (fr ob0)], i16, i16, i16, i16, i16, i16, i16, i16, i16, i16, i4, i16, i32, i32, i16, i16]) rfl ?_
 refine yS Ad W 4 (139, [vR 1, vI x1, vI x2, nN, nN], [], [iC s, .inl [.ref 2, .ref 3, .ref 4, .ref 5, .ref 6, .ref 7, .ref 8, .ref 9, .ref 10, .ref 11, .ref 12, .ref 13, .ref 14, .ref 15, .ref 16, .ref 17, .ref 18, nU, nU, nU, nU, nU, nU, nU, nU, nU, nU, nU, .int (fe ob0), .int (fh ob0), .int (fi ob0), .int (fm ob0), .int (fo ob0), .int (fp ob0), .int (fq ob0), .int (fr ob0)], i16, i16, i16, i16, i16, i16, i16, i16, i16, i16, i4, i16, i32, i32, i16, i16, i16]) rfl ?_
 refine yS Ad W 4 (147, [vR 1, vI x1, vI x2, nN, nN], [], [iC s, .inl [.ref 2, .ref 3, .ref 4, .ref 5, .ref 6, .ref 7, .ref 8, .ref 9, .ref 10, .ref 11, .ref 12, .ref 13, .ref 14, .ref 15, .ref 16, .ref 17, .ref 18, .ref 19, nU, nU, nU, nU, nU, nU, nU, nU, nU, nU, .int (fe ob0), .int (fh ob0), .int (fi ob0), .int (fm ob0), .int (fo ob0), .int (fp ob0), .int (fq ob0), .int (fr ob0)], i16, i16, i16, i16, i16, i16, i16, i16, i16, i16, i4, i16, i32, i32, i16, i16, i16, i16]) rfl ?_
 refine yS Ad W 4 (155, [vR 1, vI x1, vI x2, nN, nN], [], [iC s, .inl [.ref 2, .ref 3, .ref 4, .ref 5, .ref 6, .ref 7, .ref 8, .ref 9, .ref 10, .ref 11, .ref 12, .ref 13, .ref 14, .ref 15, .ref 16, .ref 17, .ref 18, .ref 19, .ref 20, nU, nU, nU, nU, nU, nU, nU, nU, nU, .int (fe ob0), .int (fh ob0), .int (fi ob0), .int (fm ob0), .int (fo ob0), .int (fp ob0), .int (fq ob0), .int (fr ob0)], i16, i16, i16, i16, i16, i16, i16, i16, i16, i16, i4, i16, i32, i32, i16, i16, i16, i16, i16]) rfl ?_
 refine yS Ad W 4 (163, [vR 1, vI x1, vI x2, nN, nN], [], [iC s, .inl [.ref 2, .ref 3, .ref 4, .ref 5, .ref 6, .ref 7, .ref 8, .ref 9, .ref 10, .ref 11, .ref 12, .ref 13, .ref 14, .ref 15, .ref 16, .ref 17, .ref 18, .ref 19, .ref 20, .ref 21, nU, nU, nU, nU, nU, nU, nU, nU, .int (fe ob0), .int (fh ob0), .int (fi ob0), .int (fm ob0), .int (fo ob0), .int (fp ob0), .int (fq ob0), .int (fr ob0)], i16, i16, i16, i16, i16, i16, i16, i16, i16, i16, i4, i16, i32, i32, i16, i16, i16, i16, i16, i16]) rfl ?_
 refine yS Ad W 4 (171, [vR 1, vI x1, vI x2, nN, nN], [], [iC s, .inl [.ref 2, .ref 3, .ref 4, .ref 5, .ref 6, .ref 7, .ref 8, .ref 9, .ref 10, .ref 11, .ref 12, .ref 13, .ref 14, .ref 15, .ref 16, .ref 17, .ref 18, .ref 19, .ref 20, .ref 21, .ref 22, nU, nU, nU, nU, nU, nU, nU, .int (fe ob0), .int (fh ob0), .int (fi ob0), .int (fm ob0), .int (fo ob0), .int (fp ob0), .int (fq ob0), .int (fr ob0)], i16, i16, i16, i16, i16, i16, i16, i16, i16, i16, i4, i16, i32, i32, i16, i16, i16, i16, i16, i16, i16]) rfl ?_
 refine yS Ad W 4 (179, [vR 1, vI x1, vI x2, nN, nN], [], [iC s, .inl [.ref 2, .ref 3, .ref 4, .ref 5, .ref 6, .ref 7, .ref 8, .ref 9, .ref 10, .ref 11, .ref 12, .ref 13, .ref 14, .ref 15, .ref 16, .ref 17, .ref 18, .ref 19, .ref 20, .ref 21, .ref 22, .ref 23, nU, nU, nU, nU, nU, nU, .int (fe ob0), .int (fh ob0), .int (fi ob0), .int (fm ob0), .int (fo ob0), .int (fp ob0), .int (fq ob0), .int (fr ob0)], i16, i16, i16, i16, i16, i16, i16, i16, i16, i16, i4, i16, i32, i32, i16, i16, i16, i16, i16, i16, i16, i16]) rfl ?_
 refine yS Ad W 4 (187, [vR 1, vI x1, vI x2, nN, nN], [], [iC s, .inl [.ref 2, .ref 3, .ref 4, .ref 5, .ref 6, .ref 7, .ref 8, .ref 9, .ref 10, .ref 11, .ref 12, .ref 13, .ref 14, .ref 15, .ref 16, .ref 17, .ref 18, .ref 19, .ref 20, .ref 21, .ref 22, .ref 23, .ref 24, nU, nU, nU, nU, nU, .int (fe ob0), .int (fh ob0), .int (fi ob0), .int (fm ob0), .int (fo ob0), .int (fp ob0), .int (fq ob0), .int (fr ob0)], i16, i16, i16, i16, i16, i16, i16, i16, i16, i16, i4, i16, i32, i32, i16, i16, i16, i16, i16, i16, i16, i16, i16]) rfl ?_
 refine yS Ad W 4 (195, [vR 1, vI x1, vI x2, nN, nN], [], [iC s, .inl [.ref 2, .ref 3, .ref 4, .ref 5, .ref 6, .ref 7, .ref 8, .ref 9, .ref 10, .ref 11, .ref 12, .ref 13, .ref 14, .ref 15, .ref 16, .ref 17, .ref 18, .ref 19, .ref 20, .ref 21, .ref 22, .ref 23, .ref 24, .ref 25, nU, nU, nU, nU, .int (fe ob0), .int (fh ob0), .int (fi ob0), .int (fm ob0), .int (fo ob0), .int (fp ob0), .int (fq ob0), .int (fr ob0)], i16, i16, i16, i16, i16, i16, i16, i16, i16, i16, i4, i16, i32, i32, i16, i16, i16, i16, i16, i16, i16, i16, i16, i16]) rfl ?_
 refine yS Ad W 4 (203, [vR 1, vI x1, vI x2, nN, nN], [], [iC s, .inl [.ref 2, .ref 3, .ref 4, .ref 5, .ref 6, .ref 7, .ref 8, .ref 9, .ref 10, .ref 11, .ref 12, .ref 13, .ref 14, .ref 15, .ref 16, .ref 17, .ref 18, .ref 19, .ref 20, .ref 21, .ref 22, .ref 23, .ref 24, .ref 25, .ref 26, nU, nU, nU, .int (fe ob0), .int (fh ob0), .int (fi ob0), .int (fm ob0), .int (fo ob0), .int (fp ob0), .int (fq ob0), .int (fr ob0)], i16, i16, i16, i16, i16, i16, i16, i16, i16, i16, i4, i16, i32, i32, i16, i16, i16, i16, i16, i16, i16, i16, i16, i16, i16]) rfl ?_
 refine yS Ad W 4 (211, [vR 1, vI x1, vI x2, nN, nN], [], [iC s, .inl [.ref 2, .ref 3, .ref 4, .ref 5, .ref 6, .ref 7, .ref 8, .ref 9, .ref 10, .ref 11, .ref 12, .ref 13, .ref 14, .ref 15, .ref 16, .ref 17, .ref 18, .ref 19, .ref 20, .ref 21, .ref 22, .ref 23, .ref 24, .ref 25, .ref 26, .ref 27, nU, nU, .int (fe ob0), .int (fh ob0), .int (fi ob0), .int (fm ob0), .int (fo ob0), .int (fp ob0), .int (fq ob0), .int (fr ob0)], i16, i16, i16, i16, i16, i16, i16, i16, i16, i16, i4, i16, i32, i32, i16, i16, i16, i16, i16, i16, i16, i16, i16, i16, i16, i16]) rfl ?_
 refine yS Ad W 4 (219, [vR 1, vI x1, vI x2, nN, nN], [], [iC s, .inl [.ref 2, .ref 3, .ref 4, .ref 5, .ref 6, .ref 7, .ref 8, .ref 9, .ref 10, .ref 11, .ref 12, .ref 13, .ref 14, .ref 15, .ref 16, .ref 17, .ref 18, .ref 19, .ref 20, .ref 21, .ref 22, .ref 23, .ref 24, .ref 25, .ref 26, .ref 27, .ref 28, nU, .int (fe ob0), .int (fh ob0), .int (fi ob0), .int (fm ob0), .int (fo ob0), .int (fp ob0), .int (fq ob0), .int (fr ob0)], i16, i16, i16, i16, i16, i16, i16, i16, i16, i16, i4, i16, i32, i32, i16, i16, i16, i16, i16, i16, i16, i16, i16, i16, i16, i16, i16]) rfl ?_
 refine yS Ad W 4 (227, [vR 1, vI x1, vI x2, nN, nN], [], (H0x0 s ob0 rr16 rr16 rr16 rr16 rr16 rr16 rr16 rr16 rr16 rr16 rr4 rr16 rr32 rr32 rr16 rr16 rr16 rr16 rr16 rr16 rr16 rr16 rr16 rr16 rr16 rr16 rr16 rr16)) rfl ?_
 refine yS Ad W 4 (231, [vR 1, vI x1, vI x2, vI x1, nN], [.int 2, .int x1], (H0x0 s ob0 rr16 rr16 rr16 rr16 rr16 rr16 rr16 rr16 rr16 rr16 rr4 rr16 rr32 rr32 rr16 rr16 rr16 rr16 rr16 rr16 rr16 rr16 rr16 rr16 rr16 rr16 rr16 rr16)) rfl ?_
 have K2 : ∀ z1 : Int32, z1 = (if x1 < (2:Int32) then (2:Int32) else x1) → QTri l Z n0 ad 1 (236, [vR 1, nN, vI x2, vI z1, nN], [], (H0x0 s ob0 rr16 rr16 rr16 rr16 rr16 rr16 rr16 rr16 rr16 rr16 rr4 rr16 rr32 rr32 rr16 rr16 rr16 rr16 rr16 rr16 rr16 rr16 rr16 rr16 rr16 rr16 rr16 rr16)) (none : Option Value) (H0 s r) := by
  intro z1 ez1
  subst ez1
  refine yS Ad W 2 (239, [vR 1, nN, vI x2, vI (if x1 < (2:Int32) then (2:Int32) else x1), nN], [.int 16, .int (if x1 < (2:Int32) then (2:Int32) else x1)], (H0x0 s ob0 rr16 rr16 rr16 rr16 rr16 rr16 rr16 rr16 rr16 rr16 rr4 rr16 rr32 rr32 rr16 rr16 rr16 rr16 rr16 rr16 rr16 rr16 rr16 rr16 rr16 rr16 rr16 rr16)) rfl ?_
  have K5 : ∀ z4 : Int32, z4 = (if (16:Int32) < (if x1 < (2:Int32) then (2:Int32) else x1) then (16:Int32) else (if x1 < (2:Int32) then (2:Int32) else x1)) → QTri l Z n0 ad 1 (245, [vR 1, nN, vI x2, vI z4, nN], [], (H0x0 s ob0 rr16 rr16 rr16 rr16 rr16 rr16 rr16 rr16 rr16 rr16 rr4 rr16 rr32 rr32 rr16 rr16 rr16 rr16 rr16 rr16 rr16 rr16 rr16 rr16 rr16 rr16 rr16 rr16)) (none : Option Value) (H0 s r) := by
   intro z4 ez4
   subst ez4
   refine yS Ad W 4 (252, [vR 1, nN, vI x2, vI (if (16:Int32) < (if x1 < (2:Int32) then (2:Int32) else x1) then (16:Int32) else (if x1 < (2:Int32) then (2:Int32) else x1)), vI x2], [.int 16, .int x2], (H0x0 s ob0 rr16 rr16 rr16 rr16 rr16 rr16 rr16 rr16 rr16 rr16 rr4 rr16 rr32 rr32 rr16 rr16 rr16 rr16 rr16 rr16 rr16 rr16 rr16 rr16 rr16 rr16 rr16 rr16)) rfl ?_
   have K8 : ∀ z7 : Int32, z7 = (if x2 < (16:Int32) then (16:Int32) else x2) → QTri l Z n0 ad 1 (259, [vR 1, nN, nN, vI (if (16:Int32) < (if x1 < (2:Int32) then (2:Int32) else x1) then (16:Int32) else (if x1 < (2:Int32) then (2:Int32) else x1)), vI z7], [], (H0x0 s ob0 rr16 rr16 rr16 rr16 rr16 rr16 rr16 rr16 rr16 rr16 rr4 rr16 rr32 rr32 rr16 rr16 rr16 rr16 rr16 rr16 rr16 rr16 rr16 rr16 rr16 rr16 rr16 rr16)) (none : Option Value) (H0 s r) := by
    intro z7 ez7
    subst ez7
    refine yS Ad W 2 (264, [vR 1, nN, nN, vI (if (16:Int32) < (if x1 < (2:Int32) then (2:Int32) else x1) then (16:Int32) else (if x1 < (2:Int32) then (2:Int32) else x1)), vI (if x2 < (16:Int32) then (16:Int32) else x2)], [.int 1024, .int (if x2 < (16:Int32) then (16:Int32) else x2)], (H0x0 s ob0 rr16 rr16 rr16 rr16 rr16 rr16 rr16 rr16 rr16 rr16 rr4 rr16 rr32 rr32 rr16 rr16 rr16 rr16 rr16 rr16 rr16 rr16 rr16 rr16 rr16 rr16 rr16 rr16)) rfl ?_
    have K11 : ∀ z10 : Int32, z10 = (if (1024:Int32) < (if x2 < (16:Int32) then (16:Int32) else x2) then (1024:Int32) else (if x2 < (16:Int32) then (16:Int32) else x2)) → QTri l Z n0 ad 1 (272, [vR 1, nN, nN, vI (if (16:Int32) < (if x1 < (2:Int32) then (2:Int32) else x1) then (16:Int32) else (if x1 < (2:Int32) then (2:Int32) else x1)), vI z10], [], (H0x0 s ob0 rr16 rr16 rr16 rr16 rr16 rr16 rr16 rr16 rr16 rr16 rr4 rr16 rr32 rr32 rr16 rr16 rr16 rr16 rr16 rr16 rr16 rr16 rr16 rr16 rr16 rr16 rr16 rr16)) (none : Option Value) (H0 s r) := by
     intro z10 ez10
     subst ez10
     refine yS Ad W 3 (277, [vR 1, nN, nN, vI (if (16:Int32) < (if x1 < (2:Int32) then (2:Int32) else x1) then (16:Int32) else (if x1 < (2:Int32) then (2:Int32) else x1)), vI (if (1024:Int32) < (if x2 < (16:Int32) then (16:Int32) else x2) then (1024:Int32) else (if x2 < (16:Int32) then (16:Int32) else x2))], [], (H0x1 s ob0 rr16 rr16 rr16 rr16 rr16 rr16 rr16 rr16 rr16 rr16 rr4 rr16 rr32 rr32 rr16 rr16 rr16 rr16 rr16 rr16 rr16 rr16 rr16 rr16 rr16 rr16 rr16 rr16 (if (16:Int32) < (if x1 < (2:Int32) then (2:Int32) else x1) then (16:Int32) else (if x1 < (2:Int32) then (2:Int32) else x1)))) rfl ?_
     refine yS Ad W 3 (283, [vR 1, nN, nN, vI (if (16:Int32) < (if x1 < (2:Int32) then (2:Int32) else x1) then (16:Int32) else (if x1 < (2:Int32) then (2:Int32) else x1)), vI (if (1024:Int32) < (if x2 < (16:Int32) then (16:Int32) else x2) then (1024:Int32) else (if x2 < (16:Int32) then (16:Int32) else x2))], [], (H0x2 s ob0 rr16 rr16 rr16 rr16 rr16 rr16 rr16 rr16 rr16 rr16 rr4 rr16 rr32 rr32 rr16 rr16 rr16 rr16 rr16 rr16 rr16 rr16 rr16 rr16 rr16 rr16 rr16 rr16 (if (16:Int32) < (if x1 < (2:Int32) then (2:Int32) else x1) then (16:Int32) else (if x1 < (2:Int32) then (2:Int32) else x1)) (if (1024:Int32) < (if x2 < (16:Int32) then (16:Int32) else x2) then (1024:Int32) else (if x2 < (16:Int32) then (16:Int32) else x2)))) rfl ?_
     refine yS Ad W 3 (288, [vR 1, nN, nN, vI (if (16:Int32) < (if x1 < (2:Int32) then (2:Int32) else x1) then (16:Int32) else (if x1 < (2:Int32) then (2:Int32) else x1)), vI (if (1024:Int32) < (if x2 < (16:Int32) then (16:Int32) else x2) then (1024:Int32) else (if x2 < (16:Int32) then (16:Int32) else x2))], [], (H0x3 s ob0 rr16 rr16 rr16 rr16 rr16 rr16 rr16 rr16 rr16 rr16 rr4 rr16 rr32 rr32 rr16 rr16 rr16 rr16 rr16 rr16 rr16 rr16 rr16 rr16 rr16 rr16 rr16 rr16 (if (16:Int32) < (if x1 < (2:Int32) then (2:Int32) else x1) then (16:Int32) else (if x1 < (2:Int32) then (2:Int32) else x1)) (if (1024:Int32) < (if x2 < (16:Int32) then (16:Int32) else x2) then (1024:Int32) else (if x2 < (16:Int32) then (16:Int32) else x2)) (0:Int32))) rfl ?_
     refine yS Ad W 3 (293, [vR 1, nN, nN, vI (if (16:Int32) < (if x1 < (2:Int32) then (2:Int32) else x1) then (16:Int32) else (if x1 < (2:Int32) then (2:Int32) else x1)), vI (if (1024:Int32) < (if x2 < (16:Int32) then (16:Int32) else x2) then (1024:Int32) else (if x2 < (16:Int32) then (16:Int32) else x2))], [], (H0x4 s ob0 rr16 rr16 rr16 rr16 rr16 rr16 rr16 rr16 rr16 rr16 rr4 rr16 rr32 rr32 rr16 rr16 rr16 rr16 rr16 rr16 rr16 rr16 rr16 rr16 rr16 rr16 rr16 rr16 (if (16:Int32) < (if x1 < (2:Int32) then (2:Int32) else x1) then (16:Int32) else (if x1 < (2:Int32) then (2:Int32) else x1)) (if (1024:Int32) < (if x2 < (16:Int32) then (16:Int32) else x2) then (1024:Int32) else (if x2 < (16:Int32) then (16:Int32) else x2)) (0:Int32) (0:Int32))) rfl ?_
     refine yS Ad W 3 (298, [vR 1, nN, nN, vI (if (16:Int32) < (if x1 < (2:Int32) then (2:Int32) else x1) then (16:Int32) else (if x1 < (2:Int32) then (2:Int32) else x1)), vI (if (1024:Int32) < (if x2 < (16:Int32) then (16:Int32) else x2) then (1024:Int32) else (if x2 < (16:Int32) then (16:Int32) else x2))], [], (H0x5 s ob0 rr16 rr16 rr16 rr16 rr16 rr16 rr16 rr16 rr16 rr16 rr4 rr16 rr32 rr32 rr16 rr16 rr16 rr16 rr16 rr16 rr16 rr16 rr16 rr16 rr16 rr16 rr16 rr16 (if (16:Int32) < (if x1 < (2:Int32) then (2:Int32) else x1) then (16:Int32) else (if x1 < (2:Int32) then (2:Int32) else x1)) (if (1024:Int32) < (if x2 < (16:Int32) then (16:Int32) else x2) then (1024:Int32) else (if x2 < (16:Int32) then (16:Int32) else x2)) (0:Int32) (0:Int32) (0:Int32))) rfl ?_
     refine yS Ad W 3 (303, [vR 1, nN, nN, vI (if (16:Int32) < (if x1 < (2:Int32) then (2:Int32) else x1) then (16:Int32) else (if x1 < (2:Int32) then (2:Int32) else x1)), vI (if (1024:Int32) < (if x2 < (16:Int32) then (16:Int32) else x2) then (1024:Int32) else (if x2 < (16:Int32) then (16:Int32) else x2))], [], (H0x6 s ob0 rr16 rr16 rr16 rr16 rr16 rr16 rr16 rr16 rr16 rr16 rr4 rr16 rr32 rr32 rr16 rr16 rr16 rr16 rr16 rr16 rr16 rr16 rr16 rr16 rr16 rr16 rr16 rr16 (if (16:Int32) < (if x1 < (2:Int32) then (2:Int32) else x1) then (16:Int32) else (if x1 < (2:Int32) then (2:Int32) else x1)) (if (1024:Int32) < (if x2 < (16:Int32) then (16:Int32) else x2) then (1024:Int32) else (if x2 < (16:Int32) then (16:Int32) else x2)) (0:Int32) (0:Int32) (0:Int32) (0:Int32))) rfl ?_
     refine yS Ad W 3 (308, [vR 1, nN, nN, vI (if (16:Int32) < (if x1 < (2:Int32) then (2:Int32) else x1) then (16:Int32) else (if x1 < (2:Int32) then (2:Int32) else x1)), vI (if (1024:Int32) < (if x2 < (16:Int32) then (16:Int32) else x2) then (1024:Int32) else (if x2 < (16:Int32) then (16:Int32) else x2))], [], (H0x7 s ob0 rr16 rr16 rr16 rr16 rr16 rr16 rr16 rr16 rr16 rr16 rr4 rr16 rr32 rr32 rr16 rr16 rr16 rr16 rr16 rr16 rr16 rr16 rr16 rr16 rr16 rr16 rr16 rr16 (if (16:Int32) < (if x1 < (2:Int32) then (2:Int32) else x1) then (16:Int32) else (if x1 < (2:Int32) then (2:Int32) else x1)) (if (1024:Int32) < (if x2 < (16:Int32) then (16:Int32) else x2) then (1024:Int32) else (if x2 < (16:Int32) then (16:Int32) else x2)) (0:Int32) (0:Int32) (0:Int32) (0:Int32) (0:Int32))) rfl ?_
     have E13 : ((H0x7 s ob0 rr16 rr16 rr16 rr16 rr16 rr16 rr16 rr16 rr16 rr16 rr4 rr16 rr32 rr32 rr16 rr16 rr16 rr16 rr16 rr16 rr16 rr16 rr16 rr16 rr16 rr16 rr16 rr16 (if (16:Int32) < (if x1 < (2:Int32) then (2:Int32) else x1) then (16:Int32) else (if x1 < (2:Int32) then (2:Int32) else x1)) (if (1024:Int32) < (if x2 < (16:Int32) then (16:Int32) else x2) then (1024:Int32) else (if x2 < (16:Int32) then (16:Int32) else x2)) (0:Int32) (0:Int32) (0:Int32) (0:Int32) (0:Int32)) : QHeap) = (H0 s (sq (sp (so (sm (si (sh (se (sd (sc (sb (sa (sZ (sY (sX (sW (sV (sU (sT (sR (sQ (sP (sO (sM (sL (sK (sJ (sI (sH (sG (sF (sE (sD (sC (sB (sA ob0 rr16) rr16) rr16) rr16) rr16) rr16) rr16) rr16) rr16) rr16) rr4) rr16) rr32) rr32) rr16) rr16) rr16) rr16) rr16) rr16) rr16) rr16) rr16) rr16) rr16) rr16) rr16) rr16) (if (16:Int32) < (if x1 < (2:Int32) then (2:Int32) else x1) then (16:Int32) else (if x1 < (2:Int32) then (2:Int32) else x1))) (if (1024:Int32) < (if x2 < (16:Int32) then (16:Int32) else x2) then (1024:Int32) else (if x2 < (16:Int32) then (16:Int32) else x2))) (0:Int32)) (0:Int32)) (0:Int32)) (0:Int32)) (0:Int32))) := by simp only [fs, H0, H0v, H0x7, sA, sB, sC, sD, sE, sF, sG, sH, sI, sJ, sK, sL, sM, sO, sP, sQ, sR, sT, sU, sV, sW, sX, sY, sZ, sa, sb, sc, sd, se, sh, si, sm, so, sp, sq, ob0]
     rw [E13]
     obtain rfl := sj h
     exact ret0 rfl rfl
    rcases em ((1024:Int32) < (if x2 < (16:Int32) then (16:Int32) else x2)) with c12 | c12
    ·refine yF Ad W 272 267 rfl (XT.ii_le_f c12) ?_
     refine yS Ad W 2 (272, [vR 1, nN, nN, vI (if (16:Int32) < (if x1 < (2:Int32) then (2:Int32) else x1) then (16:Int32) else (if x1 < (2:Int32) then (2:Int32) else x1)), vI 1024], [], (H0x0 s ob0 rr16 rr16 rr16 rr16 rr16 rr16 rr16 rr16 rr16 rr16 rr4 rr16 rr32 rr32 rr16 rr16 rr16 rr16 rr16 rr16 rr16 rr16 rr16 rr16 rr16 rr16 rr16 rr16)) rfl ?_
     exact zM [tt,ff,ff,tt,tt] (K11 _ (if_pos c12).symm)
    ·refine yT Ad W 272 267 rfl (XT.ii_le_t c12) ?_
     exact zM [tt,ff,ff,tt,tt] (K11 _ (if_neg c12).symm)
   rcases em (x2 < (16:Int32)) with c9 | c9
   ·refine yF Ad W 259 255 rfl (XT.ii_ge_f c9) ?_
    refine yS Ad W 2 (259, [vR 1, nN, vI x2, vI (if (16:Int32) < (if x1 < (2:Int32) then (2:Int32) else x1) then (16:Int32) else (if x1 < (2:Int32) then (2:Int32) else x1)), vI 16], [], (H0x0 s ob0 rr16 rr16 rr16 rr16 rr16 rr16 rr16 rr16 rr16 rr16 rr4 rr16 rr32 rr32 rr16 rr16 rr16 rr16 rr16 rr16 rr16 rr16 rr16 rr16 rr16 rr16 rr16 rr16)) rfl ?_
    exact zM [tt,ff,ff,tt,tt] (K8 _ (if_pos c9).symm)
   ·refine yT Ad W 259 255 rfl (XT.ii_ge_t c9) ?_
    exact zM [tt,ff,ff,tt,tt] (K8 _ (if_neg c9).symm)
  rcases em ((16:Int32) < (if x1 < (2:Int32) then (2:Int32) else x1)) with c6 | c6
  ·refine yF Ad W 245 242 rfl (XT.ii_le_f c6) ?_
   refine yS Ad W 2 (245, [vR 1, nN, vI x2, vI 16, nN], [], (H0x0 s ob0 rr16 rr16 rr16 rr16 rr16 rr16 rr16 rr16 rr16 rr16 rr4 rr16 rr32 rr32 rr16 rr16 rr16 rr16 rr16 rr16 rr16 rr16 rr16 rr16 rr16 rr16 rr16 rr16)) rfl ?_
   exact zM [tt,ff,tt,tt,ff] (K5 _ (if_pos c6).symm)
  ·refine yT Ad W 245 242 rfl (XT.ii_le_t c6) ?_
   exact zM [tt,ff,tt,tt,ff] (K5 _ (if_neg c6).symm)
 rcases em (x1 < (2:Int32)) with c3 | c3
 ·refine yF Ad W 236 234 rfl (XT.ii_ge_f c3) ?_
  refine yS Ad W 2 (236, [vR 1, vI x1, vI x2, vI 2, nN], [], (H0x0 s ob0 rr16 rr16 rr16 rr16 rr16 rr16 rr16 rr16 rr16 rr16 rr4 rr16 rr32 rr32 rr16 rr16 rr16 rr16 rr16 rr16 rr16 rr16 rr16 rr16 rr16 rr16 rr16 rr16)) rfl ?_
  exact zM [tt,ff,tt,tt,ff] (K2 _ (if_pos c3).symm)
 ·refine yT Ad W 236 234 rfl (XT.ii_ge_t c3) ?_
  exact zM [tt,ff,tt,tt,ff] (K2 _ (if_neg c3).symm)
def H1 (s : List Int32) (o0 o1 : Ob) : QHeap := [iC s, .inl [.ref 2, .ref 3, .ref 4, .ref 5, .ref 6, .ref 7, .ref 8, .ref 9, .ref 10, .ref 11, .ref 12, .ref 13, .ref 14, .ref 15, .ref 16, .ref 17, .ref 18, .ref 19, .ref 20, .ref 21, .ref 22, .ref 23, .ref 24, .ref 25, .ref 26, .ref 27, .ref 28, .ref 29, .int (fe o0), .int (fh o0), .int (fi o0), .int (fm o0), .int (fo o0), .int (fp o0), .int (fq o0), .int (fr o0)], iC (fA o0), iC (fB o0), iC (fC o0), iC (fD o0), iC (fE o0), iC (fF o0), iC (fG o0), iC (fH o0), iC (fI o0), iC (fJ o0), iC (fK o0), iC (fL o0), iC (fM o0), iC (fO o0), iC (fP o0), iC (fQ o0), iC (fR o0), iC (fT o0), iC (fU o0), iC (fV o0), iC (fW o0), iC (fX o0), iC (fY o0), iC (fZ o0), iC (fa o0), iC (fb o0), iC (fc o0), iC (fd o0), .inl [.ref 31, .ref 32, .ref 33, .ref 34, .ref 35, .ref 36, .ref 37, .ref 38, .ref 39, .ref 40, .ref 41, .ref 42, .ref 43, .ref 44, .ref 45, .ref 46, .ref 47, .ref 48, .ref 49, .ref 50, .ref 51, .ref 52, .ref 53, .ref 54, .ref 55, .ref 56, .ref 57, .ref 58, .int (fe o1), .int (fh o1), .int (fi o1), .int (fm o1), .int (fo o1), .int (fp o1), .int (fq o1), .int (fr o1)], iC (fA o1), iC (fB o1), iC (fC o1), iC (fD o1), iC (fE o1), iC (fF o1), iC (fG o1), iC (fH o1), iC (fI o1), iC (fJ o1), iC (fK o1), iC (fL o1), iC (fM o1), iC (fO o1), iC (fP o1), iC (fQ o1), iC (fR o1), iC (fT o1), iC (fU o1), iC (fV o1), iC (fW o1), iC (fX o1), iC (fY o1), iC (fZ o1), iC (fa o1), iC (fb o1), iC (fc o1), iC (fd o1)]
theorem zA (Ad : QAd n0 ad) : QAd n0 (fun i => ad (pw 1 29 i)) := Ad.swap 29 (by decide)
theorem zW {m pc : Nat} {L L' : QLoc} {S S' : List Value} {v v' : Option Value} {s : List Int32} {x y x' y' : Ob} (h : QTri l Z n0 (fun i => ad (pw 1 29 i)) m (pc, L, S, H1 s x y) v (H1 s x' y')) (eL : L.map (Option.map (rw0 1 29)) = L') (eS : S.map (rw0 1 29) = S') (ev : v.map (rw0 1 29) = v') : QTri l Z n0 ad m (pc, L', S', H1 s y x) v' (H1 s y' x') := swap 1 29 h rfl rfl eL eS ev rfl rfl
def H1v (s a0_0 : List Int32) (a0_1 a0_2 : List Int32) (a0_3 a0_4 : List Int32) (a0_5 a0_6 : List Int32) (a0_7 a0_8 : List Int32) (a0_9 a0_10 : List Int32) (a0_11 a0_12 : List Int32) (a0_13 a0_14 : List Int32) (a0_15 a0_16 : List Int32) (a0_17 a0_18 : List Int32) (a0_19 a0_20 : List Int32) (a0_21 a0_22 : List Int32) (a0_23 a0_24 : List Int32) (a0_25 a0_26 a0_27 : List Int32) (a0_28 a0_29 : Int32) (a0_30 a0_31 : Int32) (a0_32 a0_33 : Int32) (a0_34 a0_35 : Int32) (a1_0 a1_1 : List Int32) (a1_2 a1_3 : List Int32) (a1_4 a1_5 : List Int32) (a1_6 a1_7 : List Int32) (a1_8 a1_9 : List Int32) (a1_10 a1_11 : List Int32) (a1_12 a1_13 : List Int32) (a1_14 a1_15 : List Int32) (a1_16 a1_17 : List Int32) (a1_18 a1_19 : List Int32) (a1_20 a1_21 : List Int32) (a1_22 a1_23 : List Int32) (a1_24 a1_25 : List Int32) (a1_26 a1_27 : List Int32) (a1_28 a1_29 : Int32) (a1_30 a1_31 : Int32) (a1_32 a1_33 : Int32) (a1_34 a1_35 : Int32) : QHeap := [iC s, .inl [.ref 2, .ref 3, .ref 4, .ref 5, .ref 6, .ref 7, .ref 8, .ref 9, .ref 10, .ref 11, .ref 12, .ref 13, .ref 14, .ref 15, .ref 16, .ref 17, .ref 18, .ref 19, .ref 20, .ref 21, .ref 22, .ref 23, .ref 24, .ref 25, .ref 26, .ref 27, .ref 28, .ref 29, .int a0_28, .int a0_29, .int a0_30, .int a0_31, .int a0_32, .int a0_33, .int a0_34, .int a0_35], iC a0_0, iC a0_1, iC a0_2, iC a0_3, iC a0_4, iC a0_5, iC a0_6, iC a0_7, iC a0_8, iC a0_9, iC a0_10, iC a0_11, iC a0_12, iC a0_13, iC a0_14, iC a0_15, iC a0_16, iC a0_17, iC a0_18, iC a0_19, iC a0_20, iC a0_21, iC a0_22, iC a0_23, iC a0_24, iC a0_25, iC a0_26, iC a0_27, .inl [.ref 31, .ref 32, .ref 33, .ref 34, .ref 35, .ref 36, .ref 37, .ref 38, .ref 39, .ref 40, .ref 41, .ref 42, .ref 43, .ref 44, .ref 45, .ref 46, .ref 47, .ref 48, .ref 49, .ref 50, .ref 51, .ref 52, .ref 53, .ref 54, .ref 55, .ref 56, .ref 57, .ref 58, .int a1_28, .int a1_29, .int a1_30, .int a1_31, .int a1_32, .int a1_33, .int a1_34, .int a1_35], iC a1_0, iC a1_1, iC a1_2, iC a1_3, iC a1_4, iC a1_5, iC a1_6, iC a1_7, iC a1_8, iC a1_9, iC a1_10, iC a1_11, iC a1_12, iC a1_13, iC a1_14, iC a1_15, iC a1_16, iC a1_17, iC a1_18, iC a1_19, iC a1_20, iC a1_21, iC a1_22, iC a1_23, iC a1_24, iC a1_25, iC a1_26, iC a1_27]
def H1x8 (s : List Int32) (o0 o1 : Ob) (a1_0 a1_1 : List Int32) (a1_2 a1_3 : List Int32) (a1_4 a1_5 : List Int32) (a1_6 a1_7 : List Int32) (a1_8 a1_9 : List Int32) (a1_10 a1_11 : List Int32) (a1_12 a1_13 : List Int32) (a1_14 a1_15 : List Int32) (a1_16 a1_17 : List Int32) (a1_18 a1_19 : List Int32) (a1_20 a1_21 : List Int32) (a1_22 a1_23 : List Int32) (a1_24 a1_25 : List Int32) (a1_26 a1_27 : List Int32) : QHeap := H1v s (fA o0) (fB o0) (fC o0) (fD o0) (fE o0) (fF o0) (fG o0) (fH o0) (fI o0) (fJ o0) (fK o0) (fL o0) (fM o0) (fO o0) (fP o0) (fQ o0) (fR o0) (fT o0) (fU o0) (fV o0) (fW o0) (fX o0) (fY o0) (fZ o0) (fa o0) (fb o0) (fc o0) (fd o0) (fe o0) (fh o0) (fi o0) (fm o0) (fo o0) (fp o0) (fq o0) (fr o0) a1_0 a1_1 a1_2 a1_3 a1_4 a1_5 a1_6 a1_7 a1_8 a1_9 a1_10 a1_11 a1_12 a1_13 a1_14 a1_15 a1_16 a1_17 a1_18 a1_19 a1_20 a1_21 a1_22 a1_23 a1_24 a1_25 a1_26 a1_27 (fe o1) (fh o1) (fi o1) (fm o1) (fo o1) (fp o1) (fq o1) (fr o1)
def H1x9 (s : List Int32) (o0 o1 : Ob) (a1_0 a1_1 : List Int32) (a1_2 a1_3 : List Int32) (a1_4 a1_5 : List Int32) (a1_6 a1_7 : List Int32) (a1_8 a1_9 : List Int32) (a1_10 a1_11 : List Int32) (a1_12 a1_13 : List Int32) (a1_14 a1_15 : List Int32) (a1_16 a1_17 : List Int32) (a1_18 a1_19 : List Int32) (a1_20 a1_21 : List Int32) (a1_22 a1_23 : List Int32) (a1_24 a1_25 : List Int32) (a1_26 a1_27 : List Int32) (a1_28 : Int32) : QHeap := H1v s (fA o0) (fB o0) (fC o0) (fD o0) (fE o0) (fF o0) (fG o0) (fH o0) (fI o0) (fJ o0) (fK o0) (fL o0) (fM o0) (fO o0) (fP o0) (fQ o0) (fR o0) (fT o0) (fU o0) (fV o0) (fW o0) (fX o0) (fY o0) (fZ o0) (fa o0) (fb o0) (fc o0) (fd o0) (fe o0) (fh o0) (fi o0) (fm o0) (fo o0) (fp o0) (fq o0) (fr o0) a1_0 a1_1 a1_2 a1_3 a1_4 a1_5 a1_6 a1_7 a1_8 a1_9 a1_10 a1_11 a1_12 a1_13 a1_14 a1_15 a1_16 a1_17 a1_18 a1_19 a1_20 a1_21 a1_22 a1_23 a1_24 a1_25 a1_26 a1_27 a1_28 (fh o1) (fi o1) (fm o1) (fo o1) (fp o1) (fq o1) (fr o1)
def H1x10 (s : List Int32) (o0 o1 : Ob) (a1_0 a1_1 : List Int32) (a1_2 a1_3 : List Int32) (a1_4 a1_5 : List Int32) (a1_6 a1_7 : List Int32) (a1_8 a1_9 : List Int32) (a1_10 a1_11 : List Int32) (a1_12 a1_13 : List Int32) (a1_14 a1_15 : List Int32) (a1_16 a1_17 : List Int32) (a1_18 a1_19 : List Int32) (a1_20 a1_21 : List Int32) (a1_22 a1_23 : List Int32) (a1_24 a1_25 : List Int32) (a1_26 a1_27 : List Int32) (a1_28 a1_29 : Int32) : QHeap := H1v s (fA o0) (fB o0) (fC o0) (fD o0) (fE o0) (fF o0) (fG o0) (fH o0) (fI o0) (fJ o0) (fK o0) (fL o0) (fM o0) (fO o0) (fP o0) (fQ o0) (fR o0) (fT o0) (fU o0) (fV o0) (fW o0) (fX o0) (fY o0) (fZ o0) (fa o0) (fb o0) (fc o0) (fd o0) (fe o0) (fh o0) (fi o0) (fm o0) (fo o0) (fp o0) (fq o0) (fr o0) a1_0 a1_1 a1_2 a1_3 a1_4 a1_5 a1_6 a1_7 a1_8 a1_9 a1_10 a1_11 a1_12 a1_13 a1_14 a1_15 a1_16 a1_17 a1_18 a1_19 a1_20 a1_21 a1_22 a1_23 a1_24 a1_25 a1_26 a1_27 a1_28 a1_29 (fi o1) (fm o1) (fo o1) (fp o1) (fq o1) (fr o1)
def H1x11 (s : List Int32) (o0 o1 : Ob) (a1_0 a1_1 : List Int32) (a1_2 a1_3 : List Int32) (a1_4 a1_5 : List Int32) (a1_6 a1_7 : List Int32) (a1_8 a1_9 : List Int32) (a1_10 a1_11 : List Int32) (a1_12 a1_13 : List Int32) (a1_14 a1_15 : List Int32) (a1_16 a1_17 : List Int32) (a1_18 a1_19 : List Int32) (a1_20 a1_21 : List Int32) (a1_22 a1_23 : List Int32) (a1_24 a1_25 : List Int32) (a1_26 a1_27 : List Int32) (a1_28 a1_29 a1_30 : Int32) : QHeap := H1v s (fA o0) (fB o0) (fC o0) (fD o0) (fE o0) (fF o0) (fG o0) (fH o0) (fI o0) (fJ o0) (fK o0) (fL o0) (fM o0) (fO o0) (fP o0) (fQ o0) (fR o0) (fT o0) (fU o0) (fV o0) (fW o0) (fX o0) (fY o0) (fZ o0) (fa o0) (fb o0) (fc o0) (fd o0) (fe o0) (fh o0) (fi o0) (fm o0) (fo o0) (fp o0) (fq o0) (fr o0) a1_0 a1_1 a1_2 a1_3 a1_4 a1_5 a1_6 a1_7 a1_8 a1_9 a1_10 a1_11 a1_12 a1_13 a1_14 a1_15 a1_16 a1_17 a1_18 a1_19 a1_20 a1_21 a1_22 a1_23 a1_24 a1_25 a1_26 a1_27 a1_28 a1_29 a1_30 (fm o1) (fo o1) (fp o1) (fq o1) (fr o1)
def H1x12 (s : List Int32) (o0 o1 : Ob) (a1_0 a1_1 : List Int32) (a1_2 a1_3 : List Int32) (a1_4 a1_5 : List Int32) (a1_6 a1_7 : List Int32) (a1_8 a1_9 : List Int32) (a1_10 a1_11 : List Int32) (a1_12 a1_13 : List Int32) (a1_14 a1_15 : List Int32) (a1_16 a1_17 : List Int32) (a1_18 a1_19 : List Int32) (a1_20 a1_21 : List Int32) (a1_22 a1_23 : List Int32) (a1_24 a1_25 : List Int32) (a1_26 a1_27 : List Int32) (a1_28 a1_29 : Int32) (a1_30 a1_31 : Int32) : QHeap := H1v s (fA o0) (fB o0) (fC o0) (fD o0) (fE o0) (fF o0) (fG o0) (fH o0) (fI o0) (fJ o0) (fK o0) (fL o0) (fM o0) (fO o0) (fP o0) (fQ o0) (fR o0) (fT o0) (fU o0) (fV o0) (fW o0) (fX o0) (fY o0) (fZ o0) (fa o0) (fb o0) (fc o0) (fd o0) (fe o0) (fh o0) (fi o0) (fm o0) (fo o0) (fp o0) (fq o0) (fr o0) a1_0 a1_1 a1_2 a1_3 a1_4 a1_5 a1_6 a1_7 a1_8 a1_9 a1_10 a1_11 a1_12 a1_13 a1_14 a1_15 a1_16 a1_17 a1_18 a1_19 a1_20 a1_21 a1_22 a1_23 a1_24 a1_25 a1_26 a1_27 a1_28 a1_29 a1_30 a1_31 (fo o1) (fp o1) (fq o1) (fr o1)
def H1x13 (s : List Int32) (o0 o1 : Ob) (a1_0 a1_1 : List Int32) (a1_2 a1_3 : List Int32) (a1_4 a1_5 : List Int32) (a1_6 a1_7 : List Int32) (a1_8 a1_9 : List Int32) (a1_10 a1_11 : List Int32) (a1_12 a1_13 : List Int32) (a1_14 a1_15 : List Int32) (a1_16 a1_17 : List Int32) (a1_18 a1_19 : List Int32) (a1_20 a1_21 : List Int32) (a1_22 a1_23 : List Int32) (a1_24 a1_25 : List Int32) (a1_26 a1_27 : List Int32) (a1_28 a1_29 : Int32) (a1_30 a1_31 a1_32 : Int32) : QHeap := H1v s (fA o0) (fB o0) (fC o0) (fD o0) (fE o0) (fF o0) (fG o0) (fH o0) (fI o0) (fJ o0) (fK o0) (fL o0) (fM o0) (fO o0) (fP o0) (fQ o0) (fR o0) (fT o0) (fU o0) (fV o0) (fW o0) (fX o0) (fY o0) (fZ o0) (fa o0) (fb o0) (fc o0) (fd o0) (fe o0) (fh o0) (fi o0) (fm o0) (fo o0) (fp o0) (fq o0) (fr o0) a1_0 a1_1 a1_2 a1_3 a1_4 a1_5 a1_6 a1_7 a1_8 a1_9 a1_10 a1_11 a1_12 a1_13 a1_14 a1_15 a1_16 a1_17 a1_18 a1_19 a1_20 a1_21 a1_22 a1_23 a1_24 a1_25 a1_26 a1_27 a1_28 a1_29 a1_30 a1_31 a1_32 (fp o1) (fq o1) (fr o1)
def H1x14 (s : List Int32) (o0 o1 : Ob) (a1_0 a1_1 : List Int32) (a1_2 a1_3 : List Int32) (a1_4 a1_5 : List Int32) (a1_6 a1_7 : List Int32) (a1_8 a1_9 : List Int32) (a1_10 a1_11 : List Int32) (a1_12 a1_13 : List Int32) (a1_14 a1_15 : List Int32) (a1_16 a1_17 : List Int32) (a1_18 a1_19 : List Int32) (a1_20 a1_21 : List Int32) (a1_22 a1_23 : List Int32) (a1_24 a1_25 : List Int32) (a1_26 a1_27 : List Int32) (a1_28 a1_29 : Int32) (a1_30 a1_31 : Int32) (a1_32 a1_33 : Int32) : QHeap := H1v s (fA o0) (fB o0) (fC o0) (fD o0) (fE o0) (fF o0) (fG o0) (fH o0) (fI o0) (fJ o0) (fK o0) (fL o0) (fM o0) (fO o0) (fP o0) (fQ o0) (fR o0) (fT o0) (fU o0) (fV o0) (fW o0) (fX o0) (fY o0) (fZ o0) (fa o0) (fb o0) (fc o0) (fd o0) (fe o0) (fh o0) (fi o0) (fm o0) (fo o0) (fp o0) (fq o0) (fr o0) a1_0 a1_1 a1_2 a1_3 a1_4 a1_5 a1_6 a1_7 a1_8 a1_9 a1_10 a1_11 a1_12 a1_13 a1_14 a1_15 a1_16 a1_17 a1_18 a1_19 a1_20 a1_21 a1_22 a1_23 a1_24 a1_25 a1_26 a1_27 a1_28 a1_29 a1_30 a1_31 a1_32 a1_33 (fq o1) (fr o1)
def H1x15 (s : List Int32) (o0 o1 : Ob) (a1_0 a1_1 : List Int32) (a1_2 a1_3 : List Int32) (a1_4 a1_5 : List Int32) (a1_6 a1_7 : List Int32) (a1_8 a1_9 : List Int32) (a1_10 a1_11 : List Int32) (a1_12 a1_13 : List Int32) (a1_14 a1_15 : List Int32) (a1_16 a1_17 : List Int32) (a1_18 a1_19 : List Int32) (a1_20 a1_21 : List Int32) (a1_22 a1_23 : List Int32) (a1_24 a1_25 : List Int32) (a1_26 a1_27 : List Int32) (a1_28 a1_29 : Int32) (a1_30 a1_31 : Int32) (a1_32 a1_33 a1_34 : Int32) : QHeap := H1v s (fA o0) (fB o0) (fC o0) (fD o0) (fE o0) (fF o0) (fG o0) (fH o0) (fI o0) (fJ o0) (fK o0) (fL o0) (fM o0) (fO o0) (fP o0) (fQ o0) (fR o0) (fT o0) (fU o0) (fV o0) (fW o0) (fX o0) (fY o0) (fZ o0) (fa o0) (fb o0) (fc o0) (fd o0) (fe o0) (fh o0) (fi o0) (fm o0) (fo o0) (fp o0) (fq o0) (fr o0) a1_0 a1_1 a1_2 a1_3 a1_4 a1_5 a1_6 a1_7 a1_8 a1_9 a1_10 a1_11 a1_12 a1_13 a1_14 a1_15 a1_16 a1_17 a1_18 a1_19 a1_20 a1_21 a1_22 a1_23 a1_24 a1_25 a1_26 a1_27 a1_28 a1_29 a1_30 a1_31 a1_32 a1_33 a1_34 (fr o1)
theorem tF1a1 (Ad : QAd n0 ad) (W : QW Z a0) (s : List Int32) (e0 : Ob) (x1 x2 : Int32) {r : Ob} (h : F1 x1 x2 = some r) : QTri l Z n0 ad 1 (0, qentry [.ref 30, .int x1, .int x2] (pMaxL 1), [], [iC s, .inl [.ref 2, .ref 3, .ref 4, .ref 5, .ref 6, .ref 7, .ref 8, .ref 9, .ref 10, .ref 11, .ref 12, .ref 13, .ref 14, .ref 15, .ref 16, .ref 17, .ref 18, .ref 19, .ref 20, .ref 21, .ref 22, .ref 23, .ref 24, .ref 25, .ref 26, .ref 27, .ref 28, .ref 29, .int (fe e0), .int (fh e0), .int (fi e0), .int (fm e0), .int (fo e0), .int (fp e0), .int (fq e0), .int (fr e0)], iC (fA e0), iC (fB e0), iC (fC e0), iC (fD e0), iC (fE e0), iC (fF e0), iC (fG e0), iC (fH e0), iC (fI e0), iC (fJ e0), iC (fK e0), iC (fL e0), iC (fM e0), iC (fO e0), iC (fP e0), iC (fQ e0), iC (fR e0), iC (fT e0), iC (fU e0), iC (fV e0), iC (fW e0), iC (fX e0), iC (fY e0), iC (fZ e0), iC (fa e0), iC (fb e0), iC (fc e0), iC (fd e0), .inl [.null, .null, .null, .null, .null, .null, .null, .null, .null, .null, .null, .null, .null, .null, .null, .null, .null, .null, .null, .null, .null, .null, .null, .null, .null, .null, .null, .null, .int (fe ob0), .int (fh ob0), .int (fi ob0), .int (fm ob0), .int (fo ob0), .int (fp ob0), .int (fq ob0), .int (fr ob0)]]) (none : Option Value) (H1 s e0 r) := by
 unfold F1 at h
 refine yS Ad W 1 (1, [vR 30, vI x1, vI x2, nN, nN], [.ref 30], [iC s, .inl [.ref 2, .ref 3, .ref 4, .ref 5, .ref 6, .ref 7, .ref 8, .ref 9, .ref 10, .ref 11, .ref 12, .ref 13, .ref 14, .ref 15, .ref 16, .ref 17, .ref 18, .ref 19, .ref 20, .ref 21, .ref 22, .ref 23, .ref 24, .ref 25, .ref 26, .ref 27, .ref 28, .ref 29, .int (fe e0), .int (fh e0), .int (fi e0), .int (fm e0), .int (fo e0), .int (fp e0), .int (fq e0), .int (fr e0)], iC (fA e0), iC (fB e0), iC (fC e0), iC (fD e0), iC (fE e0), iC (fF e0), iC (fG e0), iC (fH e0), iC (fI e0), iC (fJ e0), iC (fK e0), iC (fL e0), iC (fM e0), iC (fO e0), iC (fP e0), iC (fQ e0), iC (fR e0), iC (fT e0), iC (fU e0), iC (fV e0), iC (fW e0), iC (fX e0), iC (fY e0), iC (fZ e0), iC (fa e0), iC (fb e0), iC (fc e0), iC (fd e0), .inl [nU, nU, nU, nU, nU, nU, nU, nU, nU, nU, nU, nU, nU, nU, nU, nU, nU, nU, nU, nU, nU, nU, nU, nU, nU, nU, nU, nU, .int (fe ob0), .int (fh ob0), .int (fi ob0), .int (fm ob0), .int (fo ob0), .int (fp ob0), .int (fq ob0), .int (fr ob0)]]) rfl ?_
 refine callO W rfl rfl rfl ?_
 refine yS Ad W 4 (12, [vR 30, vI x1, vI x2, nN, nN], [], [iC s, .inl [.ref 2, .ref 3, .ref 4, .ref 5, .ref 6, .ref 7, .ref 8, .ref 9, .ref 10, .ref 11, .ref 12, .ref 13, .ref 14, .ref 15, .ref 16, .ref 17, .ref 18, .ref 19, .ref 20, .ref 21, .ref 22, .ref 23, .ref 24, .ref 25, .ref 26, .ref 27, .ref 28, .ref 29, .int (fe e0), .int (fh e0), .int (fi e0), .int (fm e0), .int (fo e0), .int (fp e0), .int (fq e0), .int (fr e0)], iC (fA e0), iC (fB e0), iC (fC e0), iC (fD e0), iC (fE e0), iC (fF e0), iC (fG e0), iC (fH e0), iC (fI e0), iC (fJ e0), iC (fK e0), iC (fL e0), iC (fM e0), iC (fO e0), iC (fP e0), iC (fQ e0), iC (fR e0), iC (fT e0), iC (fU e0), iC (fV e0), iC (fW e0), iC (fX e0), iC (fY e0), iC (fZ e0), iC (fa e0), iC (fb e0), iC (fc e0), iC (fd e0), .inl [.ref 31, nU, nU, nU, nU, nU, nU, nU, nU, nU, nU, nU, nU, nU, nU, nU, nU, nU, nU, nU, nU, nU, nU, nU, nU, nU, nU, nU, .int (fe ob0), .int (fh ob0), .int (fi ob0), .int (fm ob0), .int (fo ob0), .int (fp ob0), .int (fq ob0), .int (fr ob0)], i16]) rfl ?_
 refine yS Ad W 4 (20, [vR 30, vI x1, vI x2, nN, nN], [], [iC s, .inl [.ref 2, .ref 3, .ref 4, .ref 5, .ref 6, .ref 7, .ref 8, .ref 9, .ref 10, .ref 11, .ref 12, .ref 13, .ref 14, .ref 15, .ref 16, .ref 17, .ref 18, .ref 19, .ref 20, .ref 21, .ref 22, .ref 23, .ref 24, .ref 25, .ref 26, .ref 27, .ref 28, .ref 29, .int (fe e0), .int (fh e0), .int (fi e0), .int (fm e0), .int (fo e0), .int (fp e0), .int (fq e0), .int (fr e0)], iC (fA e0), iC (fB e0), iC (fC e0), iC (fD e0), iC (fE e0), iC (fF e0), iC (fG e0), iC (fH e0), iC (fI e0), iC (fJ e0), iC (fK e0), iC (fL e0), iC (fM e0), iC (fO e0), iC (fP e0), iC (fQ e0), iC (fR e0), iC (fT e0), iC (fU e0), iC (fV e0), iC (fW e0), iC (fX e0), iC (fY e0), iC (fZ e0), iC (fa e0), iC (fb e0), iC (fc e0), iC (fd e0), .inl [.ref 31, .ref 32, nU, nU, nU, nU, nU, nU, nU, nU, nU, nU, nU, nU, nU, nU, nU, nU, nU, nU, nU, nU, nU, nU, nU, nU, nU, nU, .int (fe ob0), .int (fh ob0), .int (fi ob0), .int (fm ob0), .int (fo ob0), .int (fp ob0), .int (fq ob0), .int (fr ob0)], i16, i16]) rfl ?_
 refine yS Ad W 4 (28, [vR 30, vI x1, vI x2, nN, nN], [], [iC s, .inl [.ref 2, .ref 3, .ref 4, .ref 5, .ref 6, .ref 7, .ref 8, .ref 9, .ref 10, .ref 11, .ref 12, .ref 13, .ref 14, .ref 15, .ref 16, .ref 17, .ref 18, .ref 19, .ref 20, .ref 21, .ref 22, .ref 23, .ref 24, .ref 25, .ref 26, .ref 27, .ref 28, .ref 29, .int (fe e0), .int (fh e0), .int (fi e0), .int (fm e0), .int (fo e0), .int (fp e0), .int (fq e0), .int (fr e0)], iC (fA e0), iC (fB e0), iC (fC e0), iC (fD e0), iC (fE e0), iC (fF e0), iC (fG e0), iC (fH e0), iC (fI e0), iC (fJ e0), iC (fK e0), iC (fL e0), iC (fM e0), iC (fO e0), iC (fP e0), iC (fQ e0), iC (fR e0), iC (fT e0), iC (fU e0), iC (fV e0), iC (fW e0), iC (fX e0), iC (fY e0), iC (fZ e0), iC (fa e0), iC (fb e0), iC (fc e0), iC (fd e0), .inl [.ref 31, .ref 32, .ref 33, nU, nU, nU, nU, nU, nU, nU, nU, nU, nU, nU, nU, nU, nU, nU, nU, nU, nU, nU, nU, nU, nU, nU, nU, nU, .int (fe ob0), .int (fh ob0), .int (fi ob0), .int (fm ob0), .int (fo ob0), .int (fp ob0), .int (fq ob0), .int (fr ob0)], i16, i16, i16]) rfl ?_
 refine yS Ad W 4 (36, [vR 30, vI x1, vI x2, nN, nN], [], [iC s, .inl [.ref 2, .ref 3, .ref 4, .ref 5, .ref 6, .ref 7, .ref 8, .ref 9, .ref 10, .ref 11, .ref 12, .ref 13, .ref 14, .ref 15, .ref 16, .ref 17, .ref 18, .ref 19, .ref 20, .ref 21, .ref 22, .ref 23, .ref 24, .ref 25, .ref 26, .ref 27, .ref 28, .ref 29, .int (fe e0), .int (fh e0), .int (fi e0), .int (fm e0), .int (fo e0), .int (fp e0), .int (fq e0), .int (fr e0)], iC (fA e0), iC (fB e0), iC (fC e0), iC (fD e0), iC (fE e0), iC (fF e0), iC (fG e0), iC (fH e0), iC (fI e0), iC (fJ e0), iC (fK e0), iC (fL e0), iC (fM e0), iC (fO e0), iC (fP e0), iC (fQ e0), iC (fR e0), iC (fT e0), iC (fU e0), iC (fV e0), iC (fW e0), iC (fX e0), iC (fY e0), iC (fZ e0), iC (fa e0), iC (fb e0), iC (fc e0), iC (fd e0), .inl [.ref 31, .ref 32, .ref 33, .ref 34, nU, nU, nU, nU, nU, nU, nU, nU, nU, nU, nU, nU, nU, nU, nU, nU, nU, nU, nU, nU, nU, nU, nU, nU, .int (fe ob0), .int (fh ob0), .int (fi ob0), .int (fm ob0), .int (fo ob0), .int (fp ob0), .int (fq ob0), .int (fr ob0)], i16, i16, i16, i16]) rfl ?_
 refine yS Ad W 4 (44, [vR 30, vI x1, vI x2, nN, nN], [], [iC s, .inl [.ref 2, .ref 3, .ref 4, .ref 5, .ref 6, .ref 7, .ref 8, .ref 9, .ref 10, .ref 11, .ref 12, .ref 13, .ref 14, .ref 15, .ref 16, .ref 17, .ref 18, .ref 19, .ref 20, .ref 21, .ref 22, .ref 23, .ref 24, .ref 25, .ref 26, .ref 27, .ref 28, .ref 29, .int (fe e0), .int (fh e0), .int (fi e0), .int (fm e0), .int (fo e0), .int (fp e0), .int (fq e0), .int (fr e0)], iC (fA e0), iC (fB e0), iC (fC e0), iC (fD e0), iC (fE e0), iC (fF e0), iC (fG e0), iC (fH e0), iC (fI e0), iC (fJ e0), iC (fK e0), iC (fL e0), iC (fM e0), iC (fO e0), iC (fP e0), iC (fQ e0), iC (fR e0), iC (fT e0), iC (fU e0), iC (fV e0), iC (fW e0), iC (fX e0), iC (fY e0), iC (fZ e0), iC (fa e0), iC (fb e0), iC (fc e0), iC (fd e0), .inl [.ref 31, .ref 32, .ref 33, .ref 34, .ref 35, nU, nU, nU, nU, nU, nU, nU, nU, nU, nU, nU, nU, nU, nU, nU, nU, nU, nU, nU, nU, nU, nU, nU, .int (fe ob0), .int (fh ob0), .int (fi ob0), .int (fm ob0), .int (fo ob0), .int (fp ob0), .int (fq ob0), .int (fr ob0)], i16, i16, i16, i16, i16]) rfl ?_
 refine yS Ad W 4 (52, [vR 30, vI x1, vI x2, nN, nN], [], [iC s, .inl [.ref 2, .ref 3, .ref 4, .ref 5, .ref 6, .ref 7, .ref 8, .ref 9, .ref 10, .ref 11, .ref 12, .ref 13, .ref 14, .ref 15, .ref 16, .ref 17, .ref 18, .ref 19, .ref 20, .ref 21, .ref 22, .ref 23, .ref 24, .ref 25, .ref 26, .ref 27, .ref 28, .ref 29, .int (fe e0), .int (fh e0), .int (fi e0), .int (fm e0), .int (fo e0), .int (fp e0), .int (fq e0), .int (fr e0)], iC (fA e0), iC (fB e0), iC (fC e0), iC (fD e0), iC (fE e0), iC (fF e0), iC (fG e0), iC (fH e0), iC (fI e0), iC (fJ e0), iC (fK e0), iC (fL e0), iC (fM e0), iC (fO e0), iC (fP e0), iC (fQ e0), iC (fR e0), iC (fT e0), iC (fU e0), iC (fV e0), iC (fW e0), iC (fX e0), iC (fY e0), iC (fZ e0), iC (fa e0), iC (fb e0), iC (fc e0), iC (fd e0), .inl [.ref 31, .ref 32, .ref 33, .ref 34, .ref 35, .ref 36, nU, nU, nU, nU, nU, nU, nU, nU, nU, nU, nU, nU, nU, nU, nU, nU, nU, nU, nU, nU, nU, nU, .int (fe ob0), .int (fh ob0), .int (fi ob0), .int (fm ob0), .int (fo ob0), .int (fp ob0), .int (fq ob0), .int (fr ob0)], i16, i16, i16, i16, i16, i16]) rfl ?_
 refine yS Ad W 4 (60, [vR 30, vI x1, vI x2, nN, nN], [], [iC s, .inl [.ref 2, .ref 3, .ref 4, .ref 5, .ref 6, .ref 7, .ref 8, .ref 9, .ref 10, .ref 11, .ref 12, .ref 13, .ref 14, .ref 15, .ref 16, .ref 17, .ref 18, .ref 19, .ref 20, .ref 21, .ref 22, .ref 23, .ref 24, .ref 25, .ref 26, .ref 27, .ref 28, .ref 29, .int (fe e0), .int (fh e0), .int (fi e0), .int (fm e0), .int (fo e0), .int (fp e0), .int (fq e0), .int (fr e0)], iC (fA e0), iC (fB e0), iC (fC e0), iC (fD e0), iC (fE e0), iC (fF e0), iC (fG e0), iC (fH e0), iC (fI e0), iC (fJ e0), iC (fK e0), iC (fL e0), iC (fM e0), iC (fO e0), iC (fP e0), iC (fQ e0), iC (fR e0), iC (fT e0), iC (fU e0), iC (fV e0), iC (fW e0), iC (fX e0), iC (fY e0), iC (fZ e0), iC (fa e0), iC (fb e0), iC (fc e0), iC (fd e0), .inl [.ref 31, .ref 32, .ref 33, .ref 34, .ref 35, .ref 36, .ref 37, nU, nU, nU, nU, nU, nU, nU, nU, nU, nU, nU, nU, nU, nU, nU, nU, nU, nU, nU, nU, nU, .int (fe ob0), .int (fh ob0), .int (fi ob0), .int (fm ob0), .int (fo ob0), .int (fp ob0), .int (fq ob0), .int (fr ob0)], i16, i16, i16, i16, i16, i16, i16]) rfl ?_
 refine yS Ad W 4 (68, [vR 30, vI x1, vI x2, nN, nN], [], [iC s, .inl [.ref 2, .ref 3, .ref 4, .ref 5, .ref 6, .ref 7, .ref 8, .ref 9, .ref 10, .ref 11, .ref 12, .ref 13, .ref 14, .ref 15, .ref 16, .ref 17, .ref 18, .ref 19, .ref 20, .ref 21, .ref 22, .ref 23, .ref 24, .ref 25, .ref 26, .ref 27, .ref 28, .ref 29, .int (fe e0), .int (fh e0), .int (fi e0), .int (fm e0), .int (fo e0), .int (fp e0), .int (fq e0), .int (fr e0)], iC (fA e0), iC (fB e0), iC (fC e0), iC (fD e0), iC (fE e0), iC (fF e0), iC (fG e0), iC (fH e0), iC (fI e0), iC (fJ e0), iC (fK e0), iC (fL e0), iC (fM e0), iC (fO e0), iC (fP e0), iC (fQ e0), iC (fR e0), iC (fT e0), iC (fU e0), iC (fV e0), iC (fW e0), iC (fX e0), iC (fY e0), iC (fZ e0), iC (fa e0), iC (fb e0), iC (fc e0), iC (fd e0), .inl [.ref 31, .ref 32, .ref 33, .ref 34, .ref 35, .ref 36, .ref 37, .ref 38, nU, nU, nU, nU, nU, nU, nU, nU, nU, nU, nU, nU, nU, nU, nU, nU, nU, nU, nU, nU, .int (fe ob0), .int (fh ob0), .int (fi ob0), .int (fm ob0), .int (fo ob0), .int (fp ob0), .int (fq ob0), .int (fr ob0)], i16, i16, i16, i16, i16, i16, i16, i16]) rfl ?_
 refine yS Ad W 4 (76, [vR 30, vI x1, vI x2, nN, nN], [], [iC s, .inl [.ref 2, .ref 3, .ref 4, .ref 5, .ref 6, .ref 7, .ref 8, .ref 9, .ref 10, .ref 11, .ref 12, .ref 13, .ref 14, .ref 15, .ref 16, .ref 17, .ref 18, .ref 19, .ref 20, .ref 21, .ref 22, .ref 23, .ref 24, .ref 25, .ref 26, .ref 27, .ref 28, .ref 29, .int (fe e0), .int (fh e0), .int (fi e0), .int (fm e0), .int (fo e0), .int (fp e0), .int (fq e0), .int (fr e0)], iC (fA e0), iC (fB e0), iC (fC e0), iC (fD e0), iC (fE e0), iC (fF e0), iC (fG e0), iC (fH e0), iC (fI e0), iC (fJ e0), iC (fK e0), iC (fL e0), iC (fM e0), iC (fO e0), iC (fP e0), iC (fQ e0), iC (fR e0), iC (fT e0), iC (fU e0), iC (fV e0), iC (fW e0), iC (fX e0), iC (fY e0), iC (fZ e0), iC (fa e0), iC (fb e0), iC (fc e0), iC (fd e0), .inl [.ref 31, .ref 32, .ref 33, .ref 34, .ref 35, .ref 36, .ref 37, .ref 38, .ref 39, nU, nU, nU, nU, nU, nU, nU, nU, nU, nU, nU, nU, nU, nU, nU, nU, nU, nU, nU, .int (fe ob0), .int (fh ob0), .int (fi ob0), .int (fm ob0), .int (fo ob0), .int (fp ob0), .int (fq ob0), .int (fr ob0)], i16, i16, i16, i16, i16, i16, i16, i16, i16]) rfl ?_
 refine yS Ad W 4 (84, [vR 30, vI x1, vI x2, nN, nN], [], [iC s, .inl [.ref 2, .ref 3, .ref 4, .ref 5, .ref 6, .ref 7, .ref 8, .ref 9, .ref 10, .ref 11, .ref 12, .ref 13, .ref 14, .ref 15, .ref 16, .ref 17, .ref 18, .ref 19, .ref 20, .ref 21, .ref 22, .ref 23, .ref 24, .ref 25, .ref 26, .ref 27, .ref 28, .ref 29, .int (fe e0), .int (fh e0), .int (fi e0), .int (fm e0), .int (fo e0), .int (fp e0), .int (fq e0), .int (fr e0)], iC (fA e0), iC (fB e0), iC (fC e0), iC (fD e0), iC (fE e0), iC (fF e0), iC (fG e0), iC (fH e0), iC (fI e0), iC (fJ e0), iC (fK e0), iC (fL e0), iC (fM e0), iC (fO e0), iC (fP e0), iC (fQ e0), iC (fR e0), iC (fT e0), iC (fU e0), iC (fV e0), iC (fW e0), iC (fX e0), iC (fY e0), iC (fZ e0), iC (fa e0), iC (fb e0), iC (fc e0), iC (fd e0), .inl [.ref 31, .ref 32, .ref 33, .ref 34, .ref 35, .ref 36, .ref 37, .ref 38, .ref 39, .ref 40, nU, nU, nU, nU, nU, nU, nU, nU, nU, nU, nU, nU, nU, nU, nU, nU, nU, nU, .int (fe ob0), .int (fh ob0), .int (fi ob0), .int (fm ob0), .int (fo ob0), .int (fp ob0), .int (fq ob0), .int (fr ob0)], i16, i16, i16, i16, i16, i16, i16, i16, i16, i16]) rfl ?_
 refine yS Ad W 4 (91, [vR 30, vI x1, vI x2, nN, nN], [], [iC s, .inl [.ref 2, .ref 3, .ref 4, .ref 5, .ref 6, .ref 7, .ref 8, .ref 9, .ref 10, .ref 11, .ref 12, .ref 13, .ref 14, .ref 15, .ref 16, .ref 17, .ref 18, .ref 19, .ref 20, .ref 21, .ref 22, .ref 23, .ref 24, .ref 25, .ref 26, .ref 27, .ref 28, .ref 29, .int (fe e0), .int (fh e0), .int (fi e0), .int (fm e0), .int (fo e0), .int (fp e0), .int (fq e0), .int (fr e0)], iC (fA e0), iC (fB e0), iC (fC e0), iC (fD e0), iC (fE e0), iC (fF e0), iC (fG e0), iC (fH e0), iC (fI e0), iC (fJ e0), iC (fK e0), iC (fL e0), iC (fM e0), iC (fO e0), iC (fP e0), iC (fQ e0), iC (fR e0), iC (fT e0), iC (fU e0), iC (fV e0), iC (fW e0), iC (fX e0), iC (fY e0), iC (fZ e0), iC (fa e0), iC (fb e0), iC (fc e0), iC (fd e0), .inl [.ref 31, .ref 32, .ref 33, .ref 34, .ref 35, .ref 36, .ref 37, .ref 38, .ref 39, .ref 40, .ref 41, nU, nU, nU, nU, nU, nU, nU, nU, nU, nU, nU, nU, nU, nU, nU, nU, nU, .int (fe ob0), .int (fh ob0), .int (fi ob0), .int (fm ob0), .int (fo ob0), .int (fp ob0), .int (fq ob0), .int (fr ob0)], i16, i16, i16, i16, i16, i16, i16, i16, i16, i16, i4]) rfl ?_
 refine yS Ad W 4 (99, [vR 30, vI x1, vI x2, nN, nN], [], [iC s, .inl [.ref 2, .ref 3, .ref 4, .ref 5, .ref 6, .ref 7, .ref 8, .ref 9, .ref 10, .ref 11, .ref 12, .ref 13, .ref 14, .ref 15, .ref 16, .ref 17, .ref 18, .ref 19, .ref 20, .ref 21, .ref 22, .ref 23, .ref 24, .ref 25, .ref 26, .ref 27, .ref 28, .ref 29, .int (fe e0), .int (fh e0), .int (fi e0), .int (fm e0), .int (fo e0), .int (fp e0), .int (fq e0), .int (fr e0)], iC (fA e0), iC (fB e0), iC (fC e0), iC (fD e0), iC (fE e0), iC (fF e0), iC (fG e0), iC (fH e0), iC (fI e0), iC (fJ e0), iC (fK e0), iC (fL e0), iC (fM e0), iC (fO e0), iC (fP e0), iC (fQ e0), iC (fR e0), iC (fT e0), iC (fU e0), iC (fV e0), iC (fW e0), iC (fX e0), iC (fY e0), iC (fZ e0), iC (fa e0), iC (fb e0), iC (fc e0), iC (fd e0), .inl [.ref 31, .ref 32, .ref 33, .ref 34, .ref 35, .ref 36, .ref 37, .ref 38, .ref 39, .ref 40, .ref 41, .ref 42, nU, nU, nU, nU, nU, nU, nU, nU, nU, nU, nU, nU, nU, nU, nU, nU, .int (fe ob0), .int (fh ob0), .int (fi ob0), .int (fm ob0), .int (fo ob0), .int (fp ob0), .int (fq ob0), .int (fr ob0)], i16, i16, i16, i16, i16, i16, i16, i16, i16, i16, i4, i16]) rfl ?_
 refine yS Ad W 4 (107, [vR 30, vI x1, vI x2, nN, nN], [], [iC s, .inl [.ref 2, .ref 3, .ref 4, .ref 5, .ref 6, .ref 7, .ref 8, .ref 9, .ref 10, .ref 11, .ref 12, .ref 13, .ref 14, .ref 15, .ref 16, .ref 17, .ref 18, .ref 19, .ref 20, .ref 21, .ref 22, .ref 23, .ref 24, .ref 25, .ref 26, .ref 27, .ref 28, .ref 29, .int (fe e0), .int (fh e0), .int (fi e0), .int (fm e0), .int (fo e0), .int (fp e0), .int (fq e0), .int (fr e0)], iC (fA e0), iC (fB e0), iC (fC e0), iC (fD e0), iC (fE e0), iC (fF e0), iC (fG e0), iC (fH e0), iC (fI e0), iC (fJ e0), iC (fK e0), iC (fL e0), iC (fM e0), iC (fO e0), iC (fP e0), iC (fQ e0), iC (fR e0), iC (fT e0), iC (fU e0), iC (fV e0), iC (fW e0), iC (fX e0), iC (fY e0), iC (fZ e0), iC (fa e0), iC (fb e0), iC (fc e0), iC (fd e0), .inl [.ref 31, .ref 32, .ref 33, .ref 34, .ref 35, .ref 36, .ref 37, .ref 38, .ref 39, .ref 40, .ref 41, .ref 42, .ref 43, nU, nU, nU, nU, nU, nU, nU, nU, nU, nU, nU, nU, nU, nU, nU, .int (fe ob0), .int (fh ob0), .int (fi ob0), .int (fm ob0), .int (fo ob0), .int (fp ob0), .int (fq ob0), .int (fr ob0)], i16, i16, i16, i16, i16, i16, i16, i16, i16, i16, i4, i16, i32]) rfl ?_
 refine yS Ad W 4 (115, [vR 30, vI x1, vI x2, nN, nN], [], [iC s, .inl [.ref 2, .ref 3, .ref 4, .ref 5, .ref 6, .ref 7, .ref 8, .ref 9, .ref 10, .ref 11, .ref 12, .ref 13, .ref 14, .ref 15, .ref 16, .ref 17, .ref 18, .ref 19, .ref 20, .ref 21, .ref 22, .ref 23, .ref 24, .ref 25, .ref 26, .ref 27, .ref 28, .ref 29, .int (fe e0), .int (fh e0), .int (fi e0), .int (fm e0), .int (fo e0), .int (fp e0), .int (fq e0), .int (fr e0)], iC (fA e0), iC (fB e0), iC (fC e0), iC (fD e0), iC (fE e0), iC (fF e0), iC (fG e0), iC (fH e0), iC (fI e0), iC (fJ e0), iC (fK e0), iC (fL e0), iC (fM e0), iC (fO e0), iC (fP e0), iC (fQ e0), iC (fR e0), iC (fT e0), iC (fU e0), iC (fV e0), iC (fW e0), iC (fX e0), iC (fY e0), iC (fZ e0), iC (fa e0), iC (fb e0), iC (fc e0), iC (fd e0), .inl [.ref 31, .ref 32, .ref 33, .ref 34, .ref 35, .ref 36, .ref 37, .ref 38, .ref 39, .ref 40, .ref 41, .ref 42, .ref 43, .ref 44, nU, nU, nU, nU, nU, nU, nU, nU, nU, nU, nU, nU, nU, nU, .int (fe ob0), .int (fh ob0), .int (fi ob0), .int (fm ob0), .int (fo ob0), .int (fp ob0), .int (fq ob0), .int (fr ob0)], i16, i16, i16, i16, i16, i16, i16, i16, i16, i16, i4, i16, i32, i32]) rfl ?_
 refine yS Ad W 4 (123, [vR 30, vI x1, vI x2, nN, nN], [], [iC s, .inl [.ref 2, .ref 3, .ref 4, .ref 5, .ref 6, .ref 7, .ref 8, .ref 9, .ref 10, .ref 11, .ref 12, .ref 13, .ref 14, .ref 15, .ref 16, .ref 17, .ref 18, .ref 19, .ref 20, .ref 21, .ref 22, .ref 23, .ref 24, .ref 25, .ref 26, .ref 27, .ref 28, .ref 29, .int (fe e0), .int (fh e0), .int (fi e0), .int (fm e0), .int (fo e0), .int (fp e0), .int (fq e0), .int (fr e0)], iC (fA e0), iC (fB e0), iC (fC e0), iC (fD e0), iC (fE e0), iC (fF e0), iC (fG e0), iC (fH e0), iC (fI e0), iC (fJ e0), iC (fK e0), iC (fL e0), iC (fM e0), iC (fO e0), iC (fP e0), iC (fQ e0), iC (fR e0), iC (fT e0), iC (fU e0), iC (fV e0), iC (fW e0), iC (fX e0), iC (fY e0), iC (fZ e0), iC (fa e0), iC (fb e0), iC (fc e0), iC (fd e0), .inl [.ref 31, .ref 32, .ref 33, .ref 34, .ref 35, .ref 36, .ref 37, .ref 38, .ref 39, .ref 40, .ref 41, .ref 42, .ref 43, .ref 44, .ref 45, nU, nU, nU, nU, nU, nU, nU, nU, nU, nU, nU, nU, nU, .int (fe ob0), .int (fh ob0), .int (fi ob0), .int (fm ob0), .int (fo ob0), .int (fp ob0), .int (fq ob0), .int (fr ob0)], i16, i16, i16, i16, i16, i16, i16, i16, i16, i16, i4, i16, i32, i32, i16]) rfl ?_
 refine yS Ad W 4 (131, [vR 30, vI x1, vI x2, nN, nN], [], [iC s, .inl [.ref 2, .ref 3, .ref 4, .ref 5, .ref 6, .ref 7, .ref 8, .ref 9, .ref 10, .ref 11, .ref 12, .ref 13, .ref 14, .ref 15, .ref 16, .ref 17, .ref 18, .ref 19, .ref 20, .ref 21, .ref 22, .ref 23, .ref 24, .ref 25, .ref 26, .ref 27, .ref 28, .ref 29, .int (fe e0), .int (fh e0), .int (fi e0), .int (fm e0), .int (fo e0), .int (fp e0), .int (fq e0), .int (fr e0)], iC (fA e0), iC (fB e0), iC (fC e0), iC (fD e0), iC (fE e0), iC (fF e0), iC (fG e0), iC (fH e0), iC (fI e0), iC (fJ e0), iC (fK e0), iC (fL e0), iC (fM e0), iC (fO e0), iC (fP e0), iC (fQ e0), iC (fR e0), iC (fT e0), iC (fU e0), iC (fV e0), iC (fW e0), iC (fX e0), iC (fY e0), iC (fZ e0), iC (fa e0), iC (fb e0), iC (fc e0), iC (fd e0), .inl [.ref 31, .ref 32, .ref 33, .ref 34, .ref 35, .ref 36, .ref 37, .ref 38, .ref 39, .ref 40, .ref 41, .ref 42, .ref 43, .ref 44, .ref 45, .ref 46, nU, nU, nU, nU, nU, nU, nU, nU, nU, nU, nU, nU, .int (fe ob0), .int (fh ob0), .int (fi ob0), .int (fm ob0), .int (fo ob0), .int (fp ob0), .int (fq ob0), .int (fr ob0)], i16, i16, i16, i16, i16, i16, i16, i16, i16, i16, i4, i16, i32, i32, i16, i16]) rfl ?_
 refine yS Ad W 4 (139, [vR 30, vI x1, vI x2, nN, nN], [], [iC s, .inl [.ref 2, .ref 3, .ref 4, .ref 5, .ref 6, .ref 7, .ref 8, .ref 9, .ref 10, .ref 11, .ref 12, .ref 13, .ref 14, .ref 15, .ref 16, .ref 17, .ref 18, .ref 19, .ref 20, .ref 21, .ref 22, .ref 23, .ref 24, .ref 25, .ref 26, .ref 27, .ref 28, .ref 29, .int (fe e0), .int (fh e0), .int (fi e0), .int (fm e0), .int (fo e0), .int (fp e0), .int (fq e0), .int (fr e0)], iC (fA e0), iC (fB e0), iC (fC e0), iC (fD e0), iC (fE e0), iC (fF e0), iC (fG e0), iC (fH e0), iC (fI e0), iC (fJ e0), iC (fK e0), iC (fL e0), iC (fM e0), iC (fO e0), iC (fP e0), iC (fQ e0), iC (fR e0), iC (fT e0), iC (fU e0), iC (fV e0), iC (fW e0), iC (fX e0), iC (fY e0), iC (fZ e0), iC (fa e0), iC (fb e0), iC (fc e0), iC (fd e0), .inl [.ref 31, .ref 32, .ref 33, .ref 34, .ref 35, .ref 36, .ref 37, .ref 38, .ref 39, .ref 40, .ref 41, .ref 42, .ref 43, .ref 44, .ref 45, .ref 46, .ref 47, nU, nU, nU, nU, nU, nU, nU, nU, nU, nU, nU, .int (fe ob0), .int (fh ob0), .int (fi ob0), .int (fm ob0), .int (fo ob0), .int (fp ob0), .int (fq ob0), .int (fr ob0)], i16, i16, i16, i16, i16, i16, i16, i16, i16, i16, i4, i16, i32, i32, i16, i16, i16]) rfl ?_
 refine yS Ad W 4 (147, [vR 30, vI x1, vI x2, nN, nN], [], [iC s, .inl [.ref 2, .ref 3, .ref 4, .ref 5, .ref 6, .ref 7, .ref 8, .ref 9, .ref 10, .ref 11, .ref 12, .ref 13, .ref 14, .ref 15, .ref 16, .ref 17, .ref 18, .ref 19, .ref 20, .ref 21, .ref 22, .ref 23, .ref 24, .ref 25, .ref 26, .ref 27, .ref 28, .ref 29, .int (fe e0), .int (fh e0), .int (fi e0), .int (fm e0), .int (fo e0), .int (fp e0), .int (fq e0), .int (fr e0)], iC (fA e0), iC (fB e0), iC (fC e0), iC (fD e0), iC (fE e0), iC (fF e0), iC (fG e0), iC (fH e0), iC (fI e0), iC (fJ e0), iC (fK e0), iC (fL e0), iC (fM e0), iC (fO e0), iC (fP e0), iC (fQ e0), iC (fR e0), iC (fT e0), iC (fU e0), iC (fV e0), iC (fW e0), iC (fX e0), iC (fY e0), iC (fZ e0), iC (fa e0), iC (fb e0), iC (fc e0), iC (fd e0), .inl [.ref 31, .ref 32, .ref 33, .ref 34, .ref 35, .ref 36, .ref 37, .ref 38, .ref 39, .ref 40, .ref 41, .ref 42, .ref 43, .ref 44, .ref 45, .ref 46, .ref 47, .ref 48, nU, nU, nU, nU, nU, nU, nU, nU, nU, nU, .int (fe ob0), .int (fh ob0), .int (fi ob0), .int (fm ob0), .int (fo ob0), .int (fp ob0), .int (fq ob0), .int (fr ob0)], i16, i16, i16, i16, i16, i16, i16, i16, i16, i16, i4, i16, i32, i32, i16, i16, i16, i16]) rfl ?_
 refine yS Ad W 4 (155, [vR 30, vI x1, vI x2, nN, nN], [], [iC s, .inl [.ref 2, .ref 3, .ref 4, .ref 5, .ref 6, .ref 7, .ref 8, .ref 9, .ref 10, .ref 11, .ref 12, .ref 13, .ref 14, .ref 15, .ref 16, .ref 17, .ref 18, .ref 19, .ref 20, .ref 21, .ref 22, .ref 23, .ref 24, .ref 25, .ref 26, .ref 27, .ref 28, .ref 29, .int (fe e0), .int (fh e0), .int (fi e0), .int (fm e0), .int (fo e0), .int (fp e0), .int (fq e0), .int (fr e0)], iC (fA e0), iC (fB e0), iC (fC e0), iC (fD e0), iC (fE e0), iC (fF e0), iC (fG e0), iC (fH e0), iC (fI e0), iC (fJ e0), iC (fK e0), iC (fL e0), iC (fM e0), iC (fO e0), iC (fP e0), iC (fQ e0), iC (fR e0), iC (fT e0), iC (fU e0), iC (fV e0), iC (fW e0), iC (fX e0), iC (fY e0), iC (fZ e0), iC (fa e0), iC (fb e0), iC (fc e0), iC (fd e0), .inl [.ref 31, .ref 32, .ref 33, .ref 34, .ref 35, .ref 36, .ref 37, .ref 38, .ref 39, .ref 40, .ref 41, .ref 42, .ref 43, .ref 44, .ref 45, .ref 46, .ref 47, .ref 48, .ref 49, nU, nU, nU, nU, nU, nU, nU, nU, nU, .int (fe ob0), .int (fh ob0), .int (fi ob0), .int (fm ob0), .int (fo ob0), .int (fp ob0), .int (fq ob0), .int (fr ob0)], i16, i16, i16, i16, i16, i16, i16, i16, i16, i16, i4, i16, i32, i32, i16, i16, i16, i16, i16]) rfl ?_
 refine yS Ad W 4 (163, [vR 30, vI x1, vI x2, nN, nN], [], [iC s, .inl [.ref 2, .ref 3, .ref 4, .ref 5, .ref 6, .ref 7, .ref 8, .ref 9, .ref 10, .ref 11, .ref 12, .ref 13, .ref 14, .ref 15, .ref 16, .ref 17, .ref 18, .ref 19, .ref 20, .ref 21, .ref 22, .ref 23, .ref 24, .ref 25, .ref 26, .ref 27, .ref 28, .ref 29, .int (fe e0), .int (fh e0), .int (fi e0), .int (fm e0), .int (fo e0), .int (fp e0), .int (fq e0), .int (fr e0)], iC (fA e0), iC (fB e0), iC (fC e0), iC (fD e0), iC (fE e0), iC (fF e0), iC (fG e0), iC (fH e0), iC (fI e0), iC (fJ e0), iC (fK e0), iC (fL e0), iC (fM e0), iC (fO e0), iC (fP e0), iC (fQ e0), iC (fR e0), iC (fT e0), iC (fU e0), iC (fV e0), iC (fW e0), iC (fX e0), iC (fY e0), iC (fZ e0), iC (fa e0), iC (fb e0), iC (fc e0), iC (fd e0), .inl [.ref 31, .ref 32, .ref 33, .ref 34, .ref 35, .ref 36, .ref 37, .ref 38, .ref 39, .ref 40, .ref 41, .ref 42, .ref 43, .ref 44, .ref 45, .ref 46, .ref 47, .ref 48, .ref 49, .ref 50, nU, nU, nU, nU, nU, nU, nU, nU, .int (fe ob0), .int (fh ob0), .int (fi ob0), .int (fm ob0), .int (fo ob0), .int (fp ob0), .int (fq ob0), .int (fr ob0)], i16, i16, i16, i16, i16, i16, i16, i16, i16, i16, i4, i16, i32, i32, i16, i16, i16, i16, i16, i16]) rfl ?_
 refine yS Ad W 4 (171, [vR 30, vI x1, vI x2, nN, nN], [], [iC s, .inl [.ref 2, .ref 3, .ref 4, .ref 5, .ref 6, .ref 7, .ref 8, .ref 9, .ref 10, .ref 11, .ref 12, .ref 13, .ref 14, .ref 15, .ref 16, .ref 17, .ref 18, .ref 19, .ref 20, .ref 21, .ref 22, .ref 23, .ref 24, .ref 25, .ref 26, .ref 27, .ref 28, .ref 29, .int (fe e0), .int (fh e0), .int (fi e0), .int (fm e0), .int (fo e0), .int (fp e0), .int (fq e0), .int (fr e0)], iC (fA e0), iC (fB e0), iC (fC e0), iC (fD e0), iC (fE e0), iC (fF e0), iC (fG e0), iC (fH e0), iC (fI e0), iC (fJ e0), iC (fK e0), iC (fL e0), iC (fM e0), iC (fO e0), iC (fP e0), iC (fQ e0), iC (fR e0), iC (fT e0), iC (fU e0), iC (fV e0), iC (fW e0), iC (fX e0), iC (fY e0), iC (fZ e0), iC (fa e0), iC (fb e0), iC (fc e0), iC (fd e0), .inl [.ref 31, .ref 32, .ref 33, .ref 34, .ref 35, .ref 36, .ref 37, .ref 38, .ref 39, .ref 40, .ref 41, .ref 42, .ref 43, .ref 44, .ref 45, .ref 46, .ref 47, .ref 48, .ref 49, .ref 50, .ref 51, nU, nU, nU, nU, nU, nU, nU, .int (fe ob0), .int (fh ob0), .int (fi ob0), .int (fm ob0), .int (fo ob0), .int (fp ob0), .int (fq ob0), .int (fr ob0)], i16, i16, i16, i16, i16, i16, i16, i16, i16, i16, i4, i16, i32, i32, i16, i16, i16, i16, i16, i16, i16]) rfl ?_
 refine yS Ad W 4 (179, [vR 30, vI x1, vI x2, nN, nN], [], [iC s, .inl [.ref 2, .ref 3, .ref 4, .ref 5, .ref 6, .ref 7, .ref 8, .ref 9, .ref 10, .ref 11, .ref 12, .ref 13, .ref 14, .ref 15, .ref 16, .ref 17, .ref 18, .ref 19, .ref 20, .ref 21, .ref 22, .ref 23, .ref 24, .ref 25, .ref 26, .ref 27, .ref 28, .ref 29, .int (fe e0), .int (fh e0), .int (fi e0), .int (fm e0), .int (fo e0), .int (fp e0), .int (fq e0), .int (fr e0)], iC (fA e0), iC (fB e0), iC (fC e0), iC (fD e0), iC (fE e0), iC (fF e0), iC (fG e0), iC (fH e0), iC (fI e0), iC (fJ e0), iC (fK e0), iC (fL e0), iC (fM e0), iC (fO e0), iC (fP e0), iC (fQ e0), iC (fR e0), iC (fT e0), iC (fU e0), iC (fV e0), iC (fW e0), iC (fX e0), iC (fY e0), iC (fZ e0), iC (fa e0), iC (fb e0), iC (fc e0), iC (fd e0), .inl [.ref 31, .ref 32, .ref 33, .ref 34, .ref 35, .ref 36, .ref 37, .ref 38, .ref 39, .ref 40, .ref 41, .ref 42, .ref 43, .ref 44, .ref 45, .ref 46, .ref 47, .ref 48, .ref 49, .ref 50, .ref 51, .ref 52, nU, nU, nU, nU, nU, nU, .int (fe ob0), .int (fh ob0), .int (fi ob0), .int (fm ob0), .int (fo ob0), .int (fp ob0), .int (fq ob0), .int (fr ob0)], i16, i16, i16, i16, i16, i16, i16, i16, i16, i16, i4, i16, i32, i32, i16, i16, i16, i16, i16, i16, i16, i16]) rfl ?_
 refine yS Ad W 4 (187, [vR 30, vI x1, vI x2, nN, nN], [], [iC s, .inl [.ref 2, .ref 3, .ref 4, .ref 5, .ref 6, .ref 7, .ref 8, .ref 9, .ref 10, .ref 11, .ref 12, .ref 13, .ref 14, .ref 15, .ref 16, .ref 17, .ref 18, .ref 19, .ref 20, .ref 21, .ref 22, .ref 23, .ref 24, .ref 25, .ref 26, .ref 27, .ref 28, .ref 29, .int (fe e0), .int (fh e0), .int (fi e0), .int (fm e0), .int (fo e0), .int (fp e0), .int (fq e0), .int (fr e0)], iC (fA e0), iC (fB e0), iC (fC e0), iC (fD e0), iC (fE e0), iC (fF e0), iC (fG e0), iC (fH e0), iC (fI e0), iC (fJ e0), iC (fK e0), iC (fL e0), iC (fM e0), iC (fO e0), iC (fP e0), iC (fQ e0), iC (fR e0), iC (fT e0), iC (fU e0), iC (fV e0), iC (fW e0), iC (fX e0), iC (fY e0), iC (fZ e0), iC (fa e0), iC (fb e0), iC (fc e0), iC (fd e0), .inl [.ref 31, .ref 32, .ref 33, .ref 34, .ref 35, .ref 36, .ref 37, .ref 38, .ref 39, .ref 40, .ref 41, .ref 42, .ref 43, .ref 44, .ref 45, .ref 46, .ref 47, .ref 48, .ref 49, .ref 50, .ref 51, .ref 52, .ref 53, nU, nU, nU, nU, nU, .int (fe ob0), .int (fh ob0), .int (fi ob0), .int (fm ob0), .int (fo ob0), .int (fp ob0), .int (fq ob0), .int (fr ob0)], i16, i16, i16, i16, i16, i16, i16, i16, i16, i16, i4, i16, i32, i32, i16, i16, i16, i16, i16, i16, i16, i16, i16]) rfl ?_
 refine yS Ad W 4 (195, [vR 30, vI x1, vI x2, nN, nN], [], [iC s, .inl [.ref 2, .ref 3, .ref 4, .ref 5, .ref 6, .ref 7, .ref 8, .ref 9, .ref 10, .ref 11, .ref 12, .ref 13, .ref 14, .ref 15, .ref 16, .ref 17, .ref 18, .ref 19, .ref 20, .ref 21, .ref 22, .ref 23, .ref 24, .ref 25, .ref 26, .ref 27, .ref 28, .ref 29, .int (fe e0), .int (fh e0), .int (fi e0), .int (fm e0), .int (fo e0), .int (fp e0), .int (fq e0), .int (fr e0)], iC (fA e0), iC (fB e0), iC (fC e0), iC (fD e0), iC (fE e0), iC (fF e0), iC (fG e0), iC (fH e0), iC (fI e0), iC (fJ e0), iC (fK e0), iC (fL e0), iC (fM e0), iC (fO e0), iC (fP e0), iC (fQ e0), iC (fR e0), iC (fT e0), iC (fU e0), iC (fV e0), iC (fW e0), iC (fX e0), iC (fY e0), iC (fZ e0), iC (fa e0), iC (fb e0), iC (fc e0), iC (fd e0), .inl [.ref 31, .ref 32, .ref 33, .ref 34, .ref 35, .ref 36, .ref 37, .ref 38, .ref 39, .ref 40, .ref 41, .ref 42, .ref 43, .ref 44, .ref 45, .ref 46, .ref 47, .ref 48, .ref 49, .ref 50, .ref 51, .ref 52, .ref 53, .ref 54, nU, nU, nU, nU, .int (fe ob0), .int (fh ob0), .int (fi ob0), .int (fm ob0), .int (fo ob0), .int (fp ob0), .int (fq ob0), .int (fr ob0)], i16, i16, i16, i16, i16, i16, i16, i16, i16, i16, i4, i16, i32, i32, i16, i16, i16, i16, i16, i16, i16, i16, i16, i16]) rfl ?_
 refine yS Ad W 4 (203, [vR 30, vI x1, vI x2, nN, nN], [], [iC s, .inl [.ref 2, .ref 3, .ref 4, .ref 5, .ref 6, .ref 7, .ref 8, .ref 9, .ref 10, .ref 11, .ref 12, .ref 13, .ref 14, .ref 15, .ref 16, .ref 17, .ref 18, .ref 19, .ref 20, .ref 21, .ref 22, .ref 23, .ref 24, .ref 25, .ref 26, .ref 27, .ref 28, .ref 29, .int (fe e0), .int (fh e0), .int (fi e0), .int (fm e0), .int (fo e0), .int (fp e0), .int (fq e0), .int (fr e0)], iC (fA e0), iC (fB e0), iC (fC e0), iC (fD e0), iC (fE e0), iC (fF e0), iC (fG e0), iC (fH e0), iC (fI e0), iC (fJ e0), iC (fK e0), iC (fL e0), iC (fM e0), iC (fO e0), iC (fP e0), iC (fQ e0), iC (fR e0), iC (fT e0), iC (fU e0), iC (fV e0), iC (fW e0), iC (fX e0), iC (fY e0), iC (fZ e0), iC (fa e0), iC (fb e0), iC (fc e0), iC (fd e0), .inl [.ref 31, .ref 32, .ref 33, .ref 34, .ref 35, .ref 36, .ref 37, .ref 38, .ref 39, .ref 40, .ref 41, .ref 42, .ref 43, .ref 44, .ref 45, .ref 46, .ref 47, .ref 48, .ref 49, .ref 50, .ref 51, .ref 52, .ref 53, .ref 54, .ref 55, nU, nU, nU, .int (fe ob0), .int (fh ob0), .int (fi ob0), .int (fm ob0), .int (fo ob0), .int (fp ob0), .int (fq ob0), .int (fr ob0)], i16, i16, i16, i16, i16, i16, i16, i16, i16, i16, i4, i16, i32, i32, i16, i16, i16, i16, i16, i16, i16, i16, i16, i16, i16]) rfl ?_
 refine yS Ad W 4 (211, [vR 30, vI x1, vI x2, nN, nN], [], [iC s, .inl [.ref 2, .ref 3, .ref 4, .ref 5, .ref 6, .ref 7, .ref 8, .ref 9, .ref 10, .ref 11, .ref 12, .ref 13, .ref 14, .ref 15, .ref 16, .ref 17, .ref 18, .ref 19, .ref 20, .ref 21, .ref 22, .ref 23, .ref 24, .ref 25, .ref 26, .ref 27, .ref 28, .ref 29, .int (fe e0), .int (fh e0), .int (fi e0), .int (fm e0), .int (fo e0), .int (fp e0), .int (fq e0), .int (fr e0)], iC (fA e0), iC (fB e0), iC (fC e0), iC (fD e0), iC (fE e0), iC (fF e0), iC (fG e0), iC (fH e0), iC (fI e0), iC (fJ e0), iC (fK e0), iC (fL e0), iC (fM e0), iC (fO e0), iC (fP e0), iC (fQ e0), iC (fR e0), iC (fT e0), iC (fU e0), iC (fV e0), iC (fW e0), iC (fX e0), iC (fY e0), iC (fZ e0), iC (fa e0), iC (fb e0), iC (fc e0), iC (fd e0), .inl [.ref 31, .ref 32, .ref 33, .ref 34, .ref 35, .ref 36, .ref 37, .ref 38, .ref 39, .ref 40, .ref 41, .ref 42, .ref 43, .ref 44, .ref 45, .ref 46, .ref 47, .ref 48, .ref 49, .ref 50, .ref 51, .ref 52, .ref 53, .ref 54, .ref 55, .ref 56, nU, nU, .int (fe ob0), .int (fh ob0), .int (fi ob0), .int (fm ob0), .int (fo ob0), .int (fp ob0), .int (fq ob0), .int (fr ob0)], i16, i16, i16, i16, i16, i16, i16, i16, i16, i16, i4, i16, i32, i32, i16, i16, i16, i16, i16, i16, i16, i16, i16, i16, i16, i16]) rfl ?_
 refine yS Ad W 4 (219, [vR 30, vI x1, vI x2, nN, nN], [], [iC s, .inl [.ref 2, .ref 3, .ref 4, .ref 5, .ref 6, .ref 7, .ref 8, .ref 9, .ref 10, .ref 11, .ref 12, .ref 13, .ref 14, .ref 15, .ref 16, .ref 17, .ref 18, .ref 19, .ref 20, .ref 21, .ref 22, .ref 23, .ref 24, .ref 25, .ref 26, .ref 27, .ref 28, .ref 29, .int (fe e0), .int (fh e0), .int (fi e0), .int (fm e0), .int (fo e0), .int (fp e0), .int (fq e0), .int (fr e0)], iC (fA e0), iC (fB e0), iC (fC e0), iC (fD e0), iC (fE e0), iC (fF e0), iC (fG e0), iC (fH e0), iC (fI e0), iC (fJ e0), iC (fK e0), iC (fL e0), iC (fM e0), iC (fO e0), iC (fP e0), iC (fQ e0), iC (fR e0), iC (fT e0), iC (fU e0), iC (fV e0), iC (fW e0), iC (fX e0), iC (fY e0), iC (fZ e0), iC (fa e0), iC (fb e0), iC (fc e0), iC (fd e0), .inl [.ref 31, .ref 32, .ref 33, .ref 34, .ref 35, .ref 36, .ref 37, .ref 38, .ref 39, .ref 40, .ref 41, .ref 42, .ref 43, .ref 44, .ref 45, .ref 46, .ref 47, .ref 48, .ref 49, .ref 50, .ref 51, .ref 52, .ref 53, .ref 54, .ref 55, .ref 56, .ref 57, nU, .int (fe ob0), .int (fh ob0), .int (fi ob0), .int (fm ob0), .int (fo ob0), .int (fp ob0), .int (fq ob0), .int (fr ob0)], i16, i16, i16, i16, i16, i16, i16, i16, i16, i16, i4, i16, i32, i32, i16, i16, i16, i16, i16, i16, i16, i16, i16, i16, i16, i16, i16]) rfl ?_
 refine yS Ad W 4 (227, [vR 30, vI x1, vI x2, nN, nN], [], (H1x8 s e0 ob0 rr16 rr16 rr16 rr16 rr16 rr16 rr16 rr16 rr16 rr16 rr4 rr16 rr32 rr32 rr16 rr16 rr16 rr16 rr16 rr16 rr16 rr16 rr16 rr16 rr16 rr16 rr16 rr16)) rfl ?_
 refine yS Ad W 4 (231, [vR 30, vI x1, vI x2, vI x1, nN], [.int 2, .int x1], (H1x8 s e0 ob0 rr16 rr16 rr16 rr16 rr16 rr16 rr16 rr16 rr16 rr16 rr4 rr16 rr32 rr32 rr16 rr16 rr16 rr16 rr16 rr16 rr16 rr16 rr16 rr16 rr16 rr16 rr16 rr16)) rfl ?_
 have K16 : ∀ z15 : Int32, z15 = (if x1 < (2:Int32) then (2:Int32) else x1) → QTri l Z n0 ad 1 (236, [vR 30, nN, vI x2, vI z15, nN], [], (H1x8 s e0 ob0 rr16 rr16 rr16 rr16 rr16 rr16 rr16 rr16 rr16 rr16 rr4 rr16 rr32 rr32 rr16 rr16 rr16 rr16 rr16 rr16 rr16 rr16 rr16 rr16 rr16 rr16 rr16 rr16)) (none : Option Value) (H1 s e0 r) := by
  intro z15 ez15
  subst ez15
  refine yS Ad W 2 (239, [vR 30, nN, vI x2, vI (if x1 < (2:Int32) then (2:Int32) else x1), nN], [.int 16, .int (if x1 < (2:Int32) then (2:Int32) else x1)], (H1x8 s e0 ob0 rr16 rr16 rr16 rr16 rr16 rr16 rr16 rr16 rr16 rr16 rr4 rr16 rr32 rr32 rr16 rr16 rr16 rr16 rr16 rr16 rr16 rr16 rr16 rr16 rr16 rr16 rr16 rr16)) rfl ?_
  have K19 : ∀ z18 : Int32, z18 = (if (16:Int32) < (if x1 < (2:Int32) then (2:Int32) else x1) then (16:Int32) else (if x1 < (2:Int32) then (2:Int32) else x1)) → QTri l Z n0 ad 1 (245, [vR 30, nN, vI x2, vI z18, nN], [], (H1x8 s e0 ob0 rr16 rr16 rr16 rr16 rr16 rr16 rr16 rr16 rr16 rr16 rr4 rr16 rr32 rr32 rr16 rr16 rr16 rr16 rr16 rr16 rr16 rr16 rr16 rr16 rr16 rr16 rr16 rr16)) (none : Option Value) (H1 s e0 r) := by
   intro z18 ez18
   subst ez18
   refine yS Ad W 4 (252, [vR 30, nN, vI x2, vI (if (16:Int32) < (if x1 < (2:Int32) then (2:Int32) else x1) then (16:Int32) else (if x1 < (2:Int32) then (2:Int32) else x1)), vI x2], [.int 16, .int x2], (H1x8 s e0 ob0 rr16 rr16 rr16 rr16 rr16 rr16 rr16 rr16 rr16 rr16 rr4 rr16 rr32 rr32 rr16 rr16 rr16 rr16 rr16 rr16 rr16 rr16 rr16 rr16 rr16 rr16 rr16 rr16)) rfl ?_
   have K22 : ∀ z21 : Int32, z21 = (if x2 < (16:Int32) then (16:Int32) else x2) → QTri l Z n0 ad 1 (259, [vR 30, nN, nN, vI (if (16:Int32) < (if x1 < (2:Int32) then (2:Int32) else x1) then (16:Int32) else (if x1 < (2:Int32) then (2:Int32) else x1)), vI z21], [], (H1x8 s e0 ob0 rr16 rr16 rr16 rr16 rr16 rr16 rr16 rr16 rr16 rr16 rr4 rr16 rr32 rr32 rr16 rr16 rr16 rr16 rr16 rr16 rr16 rr16 rr16 rr16 rr16 rr16 rr16 rr16)) (none : Option Value) (H1 s e0 r) := by
    intro z21 ez21
    subst ez21
    refine yS Ad W 2 (264, [vR 30, nN, nN, vI (if (16:Int32) < (if x1 < (2:Int32) then (2:Int32) else x1) then (16:Int32) else (if x1 < (2:Int32) then (2:Int32) else x1)), vI (if x2 < (16:Int32) then (16:Int32) else x2)], [.int 1024, .int (if x2 < (16:Int32) then (16:Int32) else x2)], (H1x8 s e0 ob0 rr16 rr16 rr16 rr16 rr16 rr16 rr16 rr16 rr16 rr16 rr4 rr16 rr32 rr32 rr16 rr16 rr16 rr16 rr16 rr16 rr16 rr16 rr16 rr16 rr16 rr16 rr16 rr16)) rfl ?_
    have K25 : ∀ z24 : Int32, z24 = (if (1024:Int32) < (if x2 < (16:Int32) then (16:Int32) else x2) then (1024:Int32) else (if x2 < (16:Int32) then (16:Int32) else x2)) → QTri l Z n0 ad 1 (272, [vR 30, nN, nN, vI (if (16:Int32) < (if x1 < (2:Int32) then (2:Int32) else x1) then (16:Int32) else (if x1 < (2:Int32) then (2:Int32) else x1)), vI z24], [], (H1x8 s e0 ob0 rr16 rr16 rr16 rr16 rr16 rr16 rr16 rr16 rr16 rr16 rr4 rr16 rr32 rr32 rr16 rr16 rr16 rr16 rr16 rr16 rr16 rr16 rr16 rr16 rr16 rr16 rr16 rr16)) (none : Option Value) (H1 s e0 r) := by
     intro z24 ez24
     subst ez24
     refine yS Ad W 3 (277, [vR 30, nN, nN, vI (if (16:Int32) < (if x1 < (2:Int32) then (2:Int32) else x1) then (16:Int32) else (if x1 < (2:Int32) then (2:Int32) else x1)), vI (if (1024:Int32) < (if x2 < (16:Int32) then (16:Int32) else x2) then (1024:Int32) else (if x2 < (16:Int32) then (16:Int32) else x2))], [], (H1x9 s e0 ob0 rr16 rr16 rr16 rr16 rr16 rr16 rr16 rr16 rr16 rr16 rr4 rr16 rr32 rr32 rr16 rr16 rr16 rr16 rr16 rr16 rr16 rr16 rr16 rr16 rr16 rr16 rr16 rr16 (if (16:Int32) < (if x1 < (2:Int32) then (2:Int32) else x1) then (16:Int32) else (if x1 < (2:Int32) then (2:Int32) else x1)))) rfl ?_
     refine yS Ad W 3 (283, [vR 30, nN, nN, vI (if (16:Int32) < (if x1 < (2:Int32) then (2:Int32) else x1) then (16:Int32) else (if x1 < (2:Int32) then (2:Int32) else x1)), vI (if (1024:Int32) < (if x2 < (16:Int32) then (16:Int32) else x2) then (1024:Int32) else (if x2 < (16:Int32) then (16:Int32) else x2))], [], (H1x10 s e0 ob0 rr16 rr16 rr16 rr16 rr16 rr16 rr16 rr16 rr16 rr16 rr4 rr16 rr32 rr32 rr16 rr16 rr16 rr16 rr16 rr16 rr16 rr16 rr16 rr16 rr16 rr16 rr16 rr16 (if (16:Int32) < (if x1 < (2:Int32) then (2:Int32) else x1) then (16:Int32) else (if x1 < (2:Int32) then (2:Int32) else x1)) (if (1024:Int32) < (if x2 < (16:Int32) then (16:Int32) else x2) then (1024:Int32) else (if x2 < (16:Int32) then (16:Int32) else x2)))) rfl ?_
     refine yS Ad W 3 (288, [vR 30, nN, nN, vI (if (16:Int32) < (if x1 < (2:Int32) then (2:Int32) else x1) then (16:Int32) else (if x1 < (2:Int32) then (2:Int32) else x1)), vI (if (1024:Int32) < (if x2 < (16:Int32) then (16:Int32) else x2) then (1024:Int32) else (if x2 < (16:Int32) then (16:Int32) else x2))], [], (H1x11 s e0 ob0 rr16 rr16 rr16 rr16 rr16 rr16 rr16 rr16 rr16 rr16 rr4 rr16 rr32 rr32 rr16 rr16 rr16 rr16 rr16 rr16 rr16 rr16 rr16 rr16 rr16 rr16 rr16 rr16 (if (16:Int32) < (if x1 < (2:Int32) then (2:Int32) else x1) then (16:Int32) else (if x1 < (2:Int32) then (2:Int32) else x1)) (if (1024:Int32) < (if x2 < (16:Int32) then (16:Int32) else x2) then (1024:Int32) else (if x2 < (16:Int32) then (16:Int32) else x2)) (0:Int32))) rfl ?_
     refine yS Ad W 3 (293, [vR 30, nN, nN, vI (if (16:Int32) < (if x1 < (2:Int32) then (2:Int32) else x1) then (16:Int32) else (if x1 < (2:Int32) then (2:Int32) else x1)), vI (if (1024:Int32) < (if x2 < (16:Int32) then (16:Int32) else x2) then (1024:Int32) else (if x2 < (16:Int32) then (16:Int32) else x2))], [], (H1x12 s e0 ob0 rr16 rr16 rr16 rr16 rr16 rr16 rr16 rr16 rr16 rr16 rr4 rr16 rr32 rr32 rr16 rr16 rr16 rr16 rr16 rr16 rr16 rr16 rr16 rr16 rr16 rr16 rr16 rr16 (if (16:Int32) < (if x1 < (2:Int32) then (2:Int32) else x1) then (16:Int32) else (if x1 < (2:Int32) then (2:Int32) else x1)) (if (1024:Int32) < (if x2 < (16:Int32) then (16:Int32) else x2) then (1024:Int32) else (if x2 < (16:Int32) then (16:Int32) else x2)) (0:Int32) (0:Int32))) rfl ?_
     refine yS Ad W 3 (298, [vR 30, nN, nN, vI (if (16:Int32) < (if x1 < (2:Int32) then (2:Int32) else x1) then (16:Int32) else (if x1 < (2:Int32) then (2:Int32) else x1)), vI (if (1024:Int32) < (if x2 < (16:Int32) then (16:Int32) else x2) then (1024:Int32) else (if x2 < (16:Int32) then (16:Int32) else x2))], [], (H1x13 s e0 ob0 rr16 rr16 rr16 rr16 rr16 rr16 rr16 rr16 rr16 rr16 rr4 rr16 rr32 rr32 rr16 rr16 rr16 rr16 rr16 rr16 rr16 rr16 rr16 rr16 rr16 rr16 rr16 rr16 (if (16:Int32) < (if x1 < (2:Int32) then (2:Int32) else x1) then (16:Int32) else (if x1 < (2:Int32) then (2:Int32) else x1)) (if (1024:Int32) < (if x2 < (16:Int32) then (16:Int32) else x2) then (1024:Int32) else (if x2 < (16:Int32) then (16:Int32) else x2)) (0:Int32) (0:Int32) (0:Int32))) rfl ?_
     refine yS Ad W 3 (303, [vR 30, nN, nN, vI (if (16:Int32) < (if x1 < (2:Int32) then (2:Int32) else x1) then (16:Int32) else (if x1 < (2:Int32) then (2:Int32) else x1)), vI (if (1024:Int32) < (if x2 < (16:Int32) then (16:Int32) else x2) then (1024:Int32) else (if x2 < (16:Int32) then (16:Int32) else x2))], [], (H1x14 s e0 ob0 rr16 rr16 rr16 rr16 rr16 rr16 rr16 rr16 rr16 rr16 rr4 rr16 rr32 rr32 rr16 rr16 rr16 rr16 rr16 rr16 rr16 rr16 rr16 rr16 rr16 rr16 rr16 rr16 (if (16:Int32) < (if x1 < (2:Int32) then (2:Int32) else x1) then (16:Int32) else (if x1 < (2:Int32) then (2:Int32) else x1)) (if (1024:Int32) < (if x2 < (16:Int32) then (16:Int32) else x2) then (1024:Int32) else (if x2 < (16:Int32) then (16:Int32) else x2)) (0:Int32) (0:Int32) (0:Int32) (0:Int32))) rfl ?_
     refine yS Ad W 3 (308, [vR 30, nN, nN, vI (if (16:Int32) < (if x1 < (2:Int32) then (2:Int32) else x1) then (16:Int32) else (if x1 < (2:Int32) then (2:Int32) else x1)), vI (if (1024:Int32) < (if x2 < (16:Int32) then (16:Int32) else x2) then (1024:Int32) else (if x2 < (16:Int32) then (16:Int32) else x2))], [], (H1x15 s e0 ob0 rr16 rr16 rr16 rr16 rr16 rr16 rr16 rr16 rr16 rr16 rr4 rr16 rr32 rr32 rr16 rr16 rr16 rr16 rr16 rr16 rr16 rr16 rr16 rr16 rr16 rr16 rr16 rr16 (if (16:Int32) < (if x1 < (2:Int32) then (2:Int32) else x1) then (16:Int32) else (if x1 < (2:Int32) then (2:Int32) else x1)) (if (1024:Int32) < (if x2 < (16:Int32) then (16:Int32) else x2) then (1024:Int32) else (if x2 < (16:Int32) then (16:Int32) else x2)) (0:Int32) (0:Int32) (0:Int32) (0:Int32) (0:Int32))) rfl ?_
     have E27 : ((H1x15 s e0 ob0 rr16 rr16 rr16 rr16 rr16 rr16 rr16 rr16 rr16 rr16 rr4 rr16 rr32 rr32 rr16 rr16 rr16 rr16 rr16 rr16 rr16 rr16 rr16 rr16 rr16 rr16 rr16 rr16 (if (16:Int32) < (if x1 < (2:Int32) then (2:Int32) else x1) then (16:Int32) else (if x1 < (2:Int32) then (2:Int32) else x1)) (if (1024:Int32) < (if x2 < (16:Int32) then (16:Int32) else x2) then (1024:Int32) else (if x2 < (16:Int32) then (16:Int32) else x2)) (0:Int32) (0:Int32) (0:Int32) (0:Int32) (0:Int32)) : QHeap) = (H1 s e0 (sq (sp (so (sm (si (sh (se (sd (sc (sb (sa (sZ (sY (sX (sW (sV (sU (sT (sR (sQ (sP (sO (sM (sL (sK (sJ (sI (sH (sG (sF (sE (sD (sC (sB (sA ob0 rr16) rr16) rr16) rr16) rr16) rr16) rr16) rr16) rr16) rr16) rr4) rr16) rr32) rr32) rr16) rr16) rr16) rr16) rr16) rr16) rr16) rr16) rr16) rr16) rr16) rr16) rr16) rr16) (if (16:Int32) < (if x1 < (2:Int32) then (2:Int32) else x1) then (16:Int32) else (if x1 < (2:Int32) then (2:Int32) else x1))) (if (1024:Int32) < (if x2 < (16:Int32) then (16:Int32) else x2) then (1024:Int32) else (if x2 < (16:Int32) then (16:Int32) else x2))) (0:Int32)) (0:Int32)) (0:Int32)) (0:Int32)) (0:Int32))) := by simp only [fs, H1, H1v, H1x15, sA, sB, sC, sD, sE, sF, sG, sH, sI, sJ, sK, sL, sM, sO, sP, sQ, sR, sT, sU, sV, sW, sX, sY, sZ, sa, sb, sc, sd, se, sh, si, sm, so, sp, sq, ob0]
     rw [E27]
     obtain rfl := sj h
     exact ret0 rfl rfl
    rcases em ((1024:Int32) < (if x2 < (16:Int32) then (16:Int32) else x2)) with c26 | c26
    ·refine yF Ad W 272 267 rfl (XT.ii_le_f c26) ?_
     refine yS Ad W 2 (272, [vR 30, nN, nN, vI (if (16:Int32) < (if x1 < (2:Int32) then (2:Int32) else x1) then (16:Int32) else (if x1 < (2:Int32) then (2:Int32) else x1)), vI 1024], [], (H1x8 s e0 ob0 rr16 rr16 rr16 rr16 rr16 rr16 rr16 rr16 rr16 rr16 rr4 rr16 rr32 rr32 rr16 rr16 rr16 rr16 rr16 rr16 rr16 rr16 rr16 rr16 rr16 rr16 rr16 rr16)) rfl ?_
     exact zM [tt,ff,ff,tt,tt] (K25 _ (if_pos c26).symm)
    ·refine yT Ad W 272 267 rfl (XT.ii_le_t c26) ?_
     exact zM [tt,ff,ff,tt,tt] (K25 _ (if_neg c26).symm)
   rcases em (x2 < (16:Int32)) with c23 | c23
   ·refine yF Ad W 259 255 rfl (XT.ii_ge_f c23) ?_
    refine yS Ad W 2 (259, [vR 30, nN, vI x2, vI (if (16:Int32) < (if x1 < (2:Int32) then (2:Int32) else x1) then (16:Int32) else (if x1 < (2:Int32) then (2:Int32) else x1)), vI 16], [], (H1x8 s e0 ob0 rr16 rr16 rr16 rr16 rr16 rr16 rr16 rr16 rr16 rr16 rr4 rr16 rr32 rr32 rr16 rr16 rr16 rr16 rr16 rr16 rr16 rr16 rr16 rr16 rr16 rr16 rr16 rr16)) rfl ?_
    exact zM [tt,ff,ff,tt,tt] (K22 _ (if_pos c23).symm)
   ·refine yT Ad W 259 255 rfl (XT.ii_ge_t c23) ?_
    exact zM [tt,ff,ff,tt,tt] (K22 _ (if_neg c23).symm)
  rcases em ((16:Int32) < (if x1 < (2:Int32) then (2:Int32) else x1)) with c20 | c20
  ·refine yF Ad W 245 242 rfl (XT.ii_le_f c20) ?_
   refine yS Ad W 2 (245, [vR 30, nN, vI x2, vI 16, nN], [], (H1x8 s e0 ob0 rr16 rr16 rr16 rr16 rr16 rr16 rr16 rr16 rr16 rr16 rr4 rr16 rr32 rr32 rr16 rr16 rr16 rr16 rr16 rr16 rr16 rr16 rr16 rr16 rr16 rr16 rr16 rr16)) rfl ?_
   exact zM [tt,ff,tt,tt,ff] (K19 _ (if_pos c20).symm)
  ·refine yT Ad W 245 242 rfl (XT.ii_le_t c20) ?_
   exact zM [tt,ff,tt,tt,ff] (K19 _ (if_neg c20).symm)
 rcases em (x1 < (2:Int32)) with c17 | c17
 ·refine yF Ad W 236 234 rfl (XT.ii_ge_f c17) ?_
  refine yS Ad W 2 (236, [vR 30, vI x1, vI x2, vI 2, nN], [], (H1x8 s e0 ob0 rr16 rr16 rr16 rr16 rr16 rr16 rr16 rr16 rr16 rr16 rr4 rr16 rr32 rr32 rr16 rr16 rr16 rr16 rr16 rr16 rr16 rr16 rr16 rr16 rr16 rr16 rr16 rr16)) rfl ?_
  exact zM [tt,ff,tt,tt,ff] (K16 _ (if_pos c17).symm)
 ·refine yT Ad W 236 234 rfl (XT.ii_ge_t c17) ?_
  exact zM [tt,ff,tt,tt,ff] (K16 _ (if_neg c17).symm)
def H1x16 (s : List Int32) (o0 o1 : Ob) (a0_30 : Int32) : QHeap := H1v s (fA o0) (fB o0) (fC o0) (fD o0) (fE o0) (fF o0) (fG o0) (fH o0) (fI o0) (fJ o0) (fK o0) (fL o0) (fM o0) (fO o0) (fP o0) (fQ o0) (fR o0) (fT o0) (fU o0) (fV o0) (fW o0) (fX o0) (fY o0) (fZ o0) (fa o0) (fb o0) (fc o0) (fd o0) (fe o0) (fh o0) a0_30 (fm o0) (fo o0) (fp o0) (fq o0) (fr o0) (fA o1) (fB o1) (fC o1) (fD o1) (fE o1) (fF o1) (fG o1) (fH o1) (fI o1) (fJ o1) (fK o1) (fL o1) (fM o1) (fO o1) (fP o1) (fQ o1) (fR o1) (fT o1) (fU o1) (fV o1) (fW o1) (fX o1) (fY o1) (fZ o1) (fa o1) (fb o1) (fc o1) (fd o1) (fe o1) (fh o1) (fi o1) (fm o1) (fo o1) (fp o1) (fq o1) (fr o1)
def H1x17 (s : List Int32) (o0 o1 : Ob) (a0_30 a0_31 : Int32) : QHeap := H1v s (fA o0) (fB o0) (fC o0) (fD o0) (fE o0) (fF o0) (fG o0) (fH o0) (fI o0) (fJ o0) (fK o0) (fL o0) (fM o0) (fO o0) (fP o0) (fQ o0) (fR o0) (fT o0) (fU o0) (fV o0) (fW o0) (fX o0) (fY o0) (fZ o0) (fa o0) (fb o0) (fc o0) (fd o0) (fe o0) (fh o0) a0_30 a0_31 (fo o0) (fp o0) (fq o0) (fr o0) (fA o1) (fB o1) (fC o1) (fD o1) (fE o1) (fF o1) (fG o1) (fH o1) (fI o1) (fJ o1) (fK o1) (fL o1) (fM o1) (fO o1) (fP o1) (fQ o1) (fR o1) (fT o1) (fU o1) (fV o1) (fW o1) (fX o1) (fY o1) (fZ o1) (fa o1) (fb o1) (fc o1) (fd o1) (fe o1) (fh o1) (fi o1) (fm o1) (fo o1) (fp o1) (fq o1) (fr o1)
def H1x18 (s : List Int32) (o0 o1 : Ob) (a0_8 : List Int32) : QHeap := H1v s (fA o0) (fB o0) (fC o0) (fD o0) (fE o0) (fF o0) (fG o0) (fH o0) a0_8 (fJ o0) (fK o0) (fL o0) (fM o0) (fO o0) (fP o0) (fQ o0) (fR o0) (fT o0) (fU o0) (fV o0) (fW o0) (fX o0) (fY o0) (fZ o0) (fa o0) (fb o0) (fc o0) (fd o0) (fe o0) (fh o0) (fi o0) (fm o0) (fo o0) (fp o0) (fq o0) (fr o0) (fA o1) (fB o1) (fC o1) (fD o1) (fE o1) (fF o1) (fG o1) (fH o1) (fI o1) (fJ o1) (fK o1) (fL o1) (fM o1) (fO o1) (fP o1) (fQ o1) (fR o1) (fT o1) (fU o1) (fV o1) (fW o1) (fX o1) (fY o1) (fZ o1) (fa o1) (fb o1) (fc o1) (fd o1) (fe o1) (fh o1) (fi o1) (fm o1) (fo o1) (fp o1) (fq o1) (fr o1)
def H1x19 (s : List Int32) (o0 o1 : Ob) (a0_8 a0_9 : List Int32) : QHeap := H1v s (fA o0) (fB o0) (fC o0) (fD o0) (fE o0) (fF o0) (fG o0) (fH o0) a0_8 a0_9 (fK o0) (fL o0) (fM o0) (fO o0) (fP o0) (fQ o0) (fR o0) (fT o0) (fU o0) (fV o0) (fW o0) (fX o0) (fY o0) (fZ o0) (fa o0) (fb o0) (fc o0) (fd o0) (fe o0) (fh o0) (fi o0) (fm o0) (fo o0) (fp o0) (fq o0) (fr o0) (fA o1) (fB o1) (fC o1) (fD o1) (fE o1) (fF o1) (fG o1) (fH o1) (fI o1) (fJ o1) (fK o1) (fL o1) (fM o1) (fO o1) (fP o1) (fQ o1) (fR o1) (fT o1) (fU o1) (fV o1) (fW o1) (fX o1) (fY o1) (fZ o1) (fa o1) (fb o1) (fc o1) (fd o1) (fe o1) (fh o1) (fi o1) (fm o1) (fo o1) (fp o1) (fq o1) (fr o1)
def B3_2 (v : Int32 × Ob) : Option (((Ob)) ⊕ (Int32 × Ob)) :=
  (if v.1 < (16 : Int32) then (aset (fI v.2) v.1 (0 : Int32)).bind fun y32 => (aset (fJ v.2) v.1 (0 : Int32)).bind fun y33 => some (.inr ((v.1 + (1 : Int32)), (sJ (sI v.2 y32) y33))) else some (.inl v.2))
theorem tB3_2 (Ad : QAd n0 ad) (W : QW Z a0) (s : List Int32) (e0 : Ob) (v : Int32 × Ob) {r : ((Ob)) ⊕ (Int32 × Ob)} {u : Option Value} {τ : QHeap} (h : B3_2 v = some r) (hx0 : ∀ x : Ob, r = .inl x → u = (none : Option Value) ∧ τ = (H1 s x e0)) (hc : ∀ x : Int32 × Ob, r = .inr x → QTri l Z n0 ad 3 (2, [vR 1, vI x.1], [], (H1 s x.2 e0)) u τ) : QTri l Z n0 ad 3 (2, [vR 1, vI v.1], [], (H1 s v.2 e0)) u τ := by
 unfold B3_2 at h
 refine yS Ad W 2 (5, [vR 1, vI v.1], [.int 16, .int v.1], (H1 s v.2 e0)) rfl ?_
 rcases qite h with ⟨c31, h⟩ | ⟨c31, h⟩
 ·refine yF Ad W 28 8 rfl (XT.ii_ge_f c31) ?_
  refine yS Ad W 4 (14, [vR 1, vI v.1], [.int 0, .int v.1, .ref 10], (H1 s v.2 e0)) rfl ?_
  obtain ⟨y32, hy32, h⟩ := be h
  refine zB Ad W (f := fun y32 => (15, [vR 1, vI v.1], [], (H1x18 s v.2 e0 y32))) rfl hy32 ?_
  refine yS Ad W 4 (21, [vR 1, vI v.1], [.int 0, .int v.1, .ref 11], (H1x18 s v.2 e0 y32)) rfl ?_
  obtain ⟨y33, hy33, h⟩ := be h
  refine zB Ad W (f := fun y33 => (22, [vR 1, vI v.1], [], (H1x19 s v.2 e0 y32 y33))) rfl hy33 ?_
  refine yS Ad W 2 (2, [vR 1, vI (v.1 + (1:Int32))], [], (H1x19 s v.2 e0 y32 y33)) rfl ?_
  have E34 : ((H1x19 s v.2 e0 y32 y33) : QHeap) = (H1 s (sJ (sI v.2 y32) y33) e0) := by simp only [fs, H1, H1v, H1x19, sI, sJ]
  rw [E34]
  obtain rfl := sj h
  exact zM [tt,tt] (hc ((v.1 + (1:Int32)), (sJ (sI v.2 y32) y33)) rfl)
 ·refine yT Ad W 28 8 rfl (XT.ii_ge_t c31) ?_
  obtain rfl := sj h
  obtain ⟨rfl, rfl⟩ := hx0 v.2 rfl
  exact ret0 rfl rfl
/-- clearCounts()V -/
def F3 (o : Ob) : Option (Ob) :=
 (loopN (B3_2) qN ((0:Int32), o)).bind fun e35 => some e35
theorem tF3 (Ad : QAd n0 ad) (W : QW Z a0) (s : List Int32) (e0 o : Ob) {r : Ob} (h : F3 o = some r) : QTri l Z n0 ad 3 (0, qentry [.ref 1] (pMaxL 3), [], (H1 s o e0)) (none : Option Value) (H1 s r e0) := by
 unfold F3 at h
 refine yS Ad W 2 (2, [vR 1, vI 0], [], (H1 s o e0)) rfl ?_
 obtain ⟨e35, he35, h⟩ := be h
 refine zM [tt,tt] (loopN_tri (B := B3_2) (T := fun lv36 => QTri l Z n0 ad 3 (2, [vR 1, vI lv36.1], [], (H1 s lv36.2 e0)) (none : Option Value) (H1 s r e0)) (KE := fun e35a => (none : Option Value) = (none : Option Value) ∧ (H1 s r e0) = (H1 s e35a e0)) (fun lv36 r hB hE hC => tB3_2 Ad W s e0 lv36 hB (fun x q => hE _ q) (fun x q => hC x q)) qN ((0:Int32), o) e35 he35 ?_)
 obtain rfl := sj h
 exact ⟨rfl, rfl⟩
def H1x20 (s : List Int32) (o0 o1 : Ob) (a0_10 : List Int32) : QHeap := H1v s (fA o0) (fB o0) (fC o0) (fD o0) (fE o0) (fF o0) (fG o0) (fH o0) (fI o0) (fJ o0) a0_10 (fL o0) (fM o0) (fO o0) (fP o0) (fQ o0) (fR o0) (fT o0) (fU o0) (fV o0) (fW o0) (fX o0) (fY o0) (fZ o0) (fa o0) (fb o0) (fc o0) (fd o0) (fe o0) (fh o0) (fi o0) (fm o0) (fo o0) (fp o0) (fq o0) (fr o0) (fA o1) (fB o1) (fC o1) (fD o1) (fE o1) (fF o1) (fG o1) (fH o1) (fI o1) (fJ o1) (fK o1) (fL o1) (fM o1) (fO o1) (fP o1) (fQ o1) (fR o1) (fT o1) (fU o1) (fV o1) (fW o1) (fX o1) (fY o1) (fZ o1) (fa o1) (fb o1) (fc o1) (fd o1) (fe o1) (fh o1) (fi o1) (fm o1) (fo o1) (fp o1) (fq o1) (fr o1)
def B2_16 (v : Int32 × Ob) : Option (((Ob)) ⊕ (Int32 × Ob)) :=
  (if v.1 < (4 : Int32) then (aset (fK v.2) v.1 (0 : Int32)).bind fun y39 => some (.inr ((v.1 + (1 : Int32)), (sK v.2 y39))) else some (.inl v.2))
theorem tB2_16 (Ad : QAd n0 ad) (W : QW Z a0) (s : List Int32) (e0 : Ob) (v : Int32 × Ob) {r : ((Ob)) ⊕ (Int32 × Ob)} {u : Option Value} {τ : QHeap} (h : B2_16 v = some r) (hx0 : ∀ x : Ob, r = .inl x → QTri l Z n0 ad 2 (34, [vR 1, nN], [], (H1 s x e0)) u τ) (hc : ∀ x : Int32 × Ob, r = .inr x → QTri l Z n0 ad 2 (16, [vR 1, vI x.1], [], (H1 s x.2 e0)) u τ) : QTri l Z n0 ad 2 (16, [vR 1, vI v.1], [], (H1 s v.2 e0)) u τ := by
 unfold B2_16 at h
 refine yS Ad W 2 (18, [vR 1, vI v.1], [.int 4, .int v.1], (H1 s v.2 e0)) rfl ?_
 rcases qite h with ⟨c38, h⟩ | ⟨c38, h⟩
 ·refine yF Ad W 34 21 rfl (XT.ii_ge_f c38) ?_
  refine yS Ad W 4 (27, [vR 1, vI v.1], [.int 0, .int v.1, .ref 12], (H1 s v.2 e0)) rfl ?_
  obtain ⟨y39, hy39, h⟩ := be h
  refine zB Ad W (f := fun y39 => (28, [vR 1, vI v.1], [], (H1x20 s v.2 e0 y39))) rfl hy39 ?_
  refine yS Ad W 2 (16, [vR 1, vI (v.1 + (1:Int32))], [], (H1x20 s v.2 e0 y39)) rfl ?_
  have E40 : ((H1x20 s v.2 e0 y39) : QHeap) = (H1 s (sK v.2 y39) e0) := by simp only [fs, H1, H1v, H1x20, sK]
  rw [E40]
  obtain rfl := sj h
  exact zM [tt,tt] (hc ((v.1 + (1:Int32)), (sK v.2 y39)) rfl)
 ·refine yT Ad W 34 21 rfl (XT.ii_ge_t c38) ?_
  obtain rfl := sj h
  exact zM [tt,ff] (hx0 v.2 rfl)
def H1x21 (s : List Int32) (o0 o1 : Ob) (a0_11 : List Int32) : QHeap := H1v s (fA o0) (fB o0) (fC o0) (fD o0) (fE o0) (fF o0) (fG o0) (fH o0) (fI o0) (fJ o0) (fK o0) a0_11 (fM o0) (fO o0) (fP o0) (fQ o0) (fR o0) (fT o0) (fU o0) (fV o0) (fW o0) (fX o0) (fY o0) (fZ o0) (fa o0) (fb o0) (fc o0) (fd o0) (fe o0) (fh o0) (fi o0) (fm o0) (fo o0) (fp o0) (fq o0) (fr o0) (fA o1) (fB o1) (fC o1) (fD o1) (fE o1) (fF o1) (fG o1) (fH o1) (fI o1) (fJ o1) (fK o1) (fL o1) (fM o1) (fO o1) (fP o1) (fQ o1) (fR o1) (fT o1) (fU o1) (fV o1) (fW o1) (fX o1) (fY o1) (fZ o1) (fa o1) (fb o1) (fc o1) (fd o1) (fe o1) (fh o1) (fi o1) (fm o1) (fo o1) (fp o1) (fq o1) (fr o1)
def B2_36 (v : Int32 × Ob) : Option (((Ob)) ⊕ (Int32 × Ob)) :=
  (if v.1 < (16 : Int32) then (aset (fL v.2) v.1 (0 : Int32)).bind fun y44 => some (.inr ((v.1 + (1 : Int32)), (sL v.2 y44))) else some (.inl v.2))
theorem tB2_36 (Ad : QAd n0 ad) (W : QW Z a0) (s : List Int32) (e0 : Ob) (v : Int32 × Ob) {r : ((Ob)) ⊕ (Int32 × Ob)} {u : Option Value} {τ : QHeap} (h : B2_36 v = some r) (hx0 : ∀ x : Ob, r = .inl x → QTri l Z n0 ad 2 (55, [vR 1, nN], [], (H1 s x e0)) u τ) (hc : ∀ x : Int32 × Ob, r = .inr x → QTri l Z n0 ad 2 (36, [vR 1, vI x.1], [], (H1 s x.2 e0)) u τ) : QTri l Z n0 ad 2 (36, [vR 1, vI v.1], [], (H1 s v.2 e0)) u τ := by
 unfold B2_36 at h
 refine yS Ad W 2 (39, [vR 1, vI v.1], [.int 16, .int v.1], (H1 s v.2 e0)) rfl ?_
 rcases qite h with ⟨c43, h⟩ | ⟨c43, h⟩
 ·refine yF Ad W 55 42 rfl (XT.ii_ge_f c43) ?_
  refine yS Ad W 4 (48, [vR 1, vI v.1], [.int 0, .int v.1, .ref 13], (H1 s v.2 e0)) rfl ?_
  obtain ⟨y44, hy44, h⟩ := be h
  refine zB Ad W (f := fun y44 => (49, [vR 1, vI v.1], [], (H1x21 s v.2 e0 y44))) rfl hy44 ?_
  refine yS Ad W 2 (36, [vR 1, vI (v.1 + (1:Int32))], [], (H1x21 s v.2 e0 y44)) rfl ?_
  have E45 : ((H1x21 s v.2 e0 y44) : QHeap) = (H1 s (sL v.2 y44) e0) := by simp only [fs, H1, H1v, H1x21, sL]
  rw [E45]
  obtain rfl := sj h
  exact zM [tt,tt] (hc ((v.1 + (1:Int32)), (sL v.2 y44)) rfl)
 ·refine yT Ad W 55 42 rfl (XT.ii_ge_t c43) ?_
  obtain rfl := sj h
  exact zM [tt,ff] (hx0 v.2 rfl)
def H1x22 (s : List Int32) (o0 o1 : Ob) (a0_32 : Int32) : QHeap := H1v s (fA o0) (fB o0) (fC o0) (fD o0) (fE o0) (fF o0) (fG o0) (fH o0) (fI o0) (fJ o0) (fK o0) (fL o0) (fM o0) (fO o0) (fP o0) (fQ o0) (fR o0) (fT o0) (fU o0) (fV o0) (fW o0) (fX o0) (fY o0) (fZ o0) (fa o0) (fb o0) (fc o0) (fd o0) (fe o0) (fh o0) (fi o0) (fm o0) a0_32 (fp o0) (fq o0) (fr o0) (fA o1) (fB o1) (fC o1) (fD o1) (fE o1) (fF o1) (fG o1) (fH o1) (fI o1) (fJ o1) (fK o1) (fL o1) (fM o1) (fO o1) (fP o1) (fQ o1) (fR o1) (fT o1) (fU o1) (fV o1) (fW o1) (fX o1) (fY o1) (fZ o1) (fa o1) (fb o1) (fc o1) (fd o1) (fe o1) (fh o1) (fi o1) (fm o1) (fo o1) (fp o1) (fq o1) (fr o1)
def H1x23 (s : List Int32) (o0 o1 : Ob) (a0_32 a0_33 : Int32) : QHeap := H1v s (fA o0) (fB o0) (fC o0) (fD o0) (fE o0) (fF o0) (fG o0) (fH o0) (fI o0) (fJ o0) (fK o0) (fL o0) (fM o0) (fO o0) (fP o0) (fQ o0) (fR o0) (fT o0) (fU o0) (fV o0) (fW o0) (fX o0) (fY o0) (fZ o0) (fa o0) (fb o0) (fc o0) (fd o0) (fe o0) (fh o0) (fi o0) (fm o0) a0_32 a0_33 (fq o0) (fr o0) (fA o1) (fB o1) (fC o1) (fD o1) (fE o1) (fF o1) (fG o1) (fH o1) (fI o1) (fJ o1) (fK o1) (fL o1) (fM o1) (fO o1) (fP o1) (fQ o1) (fR o1) (fT o1) (fU o1) (fV o1) (fW o1) (fX o1) (fY o1) (fZ o1) (fa o1) (fb o1) (fc o1) (fd o1) (fe o1) (fh o1) (fi o1) (fm o1) (fo o1) (fp o1) (fq o1) (fr o1)
def H1x24 (s : List Int32) (o0 o1 : Ob) (a0_32 a0_33 a0_34 : Int32) : QHeap := H1v s (fA o0) (fB o0) (fC o0) (fD o0) (fE o0) (fF o0) (fG o0) (fH o0) (fI o0) (fJ o0) (fK o0) (fL o0) (fM o0) (fO o0) (fP o0) (fQ o0) (fR o0) (fT o0) (fU o0) (fV o0) (fW o0) (fX o0) (fY o0) (fZ o0) (fa o0) (fb o0) (fc o0) (fd o0) (fe o0) (fh o0) (fi o0) (fm o0) a0_32 a0_33 a0_34 (fr o0) (fA o1) (fB o1) (fC o1) (fD o1) (fE o1) (fF o1) (fG o1) (fH o1) (fI o1) (fJ o1) (fK o1) (fL o1) (fM o1) (fO o1) (fP o1) (fQ o1) (fR o1) (fT o1) (fU o1) (fV o1) (fW o1) (fX o1) (fY o1) (fZ o1) (fa o1) (fb o1) (fc o1) (fd o1) (fe o1) (fh o1) (fi o1) (fm o1) (fo o1) (fp o1) (fq o1) (fr o1)
/-- reset()V -/
def F2 (o : Ob) : Option (Ob) :=
 (F3 (sm (si o (0:Int32)) (0:Int32))).bind fun r37 => (loopN (B2_16) qN ((0:Int32), r37)).bind fun e41 => (loopN (B2_36) qN ((0:Int32), e41)).bind fun e46 => some (sq (sp (so e46 (0:Int32)) (0:Int32)) (0:Int32))
theorem tF2 (Ad : QAd n0 ad) (W : QW Z a0) (s : List Int32) (e0 o : Ob) {r : Ob} (h : F2 o = some r) : QTri l Z n0 ad 2 (0, qentry [.ref 1] (pMaxL 2), [], (H1 s o e0)) (none : Option Value) (H1 s r e0) := by
 unfold F2 at h
 refine yS Ad W 3 (5, [vR 1, nN], [], (H1x16 s o e0 (0:Int32))) rfl ?_
 refine yS Ad W 4 (11, [vR 1, nN], [.ref 1], (H1x17 s o e0 (0:Int32) (0:Int32))) rfl ?_
 have E30 : ((H1x17 s o e0 (0:Int32) (0:Int32)) : QHeap) = (H1 s (sm (si o (0:Int32)) (0:Int32)) e0) := by simp only [fs, H1, H1v, H1x17, si, sm]
 rw [E30]
 obtain ⟨r37, hr37, h⟩ := be h
 refine callP W (a := 1) (as := []) (rest := []) (w := none) (σ₁ := (H1 s r37 e0)) rfl rfl rfl rfl rfl rfl rfl rfl (tF3 Ad W s e0 (sm (si o (0:Int32)) (0:Int32)) hr37) ?_
 refine yS Ad W 2 (16, [vR 1, vI 0], [], (H1 s r37 e0)) rfl ?_
 obtain ⟨e41, he41, h⟩ := be h
 refine zM [tt,tt] (loopN_tri (B := B2_16) (T := fun lv42 => QTri l Z n0 ad 2 (16, [vR 1, vI lv42.1], [], (H1 s lv42.2 e0)) (none : Option Value) (H1 s r e0)) (KE := fun e41a => QTri l Z n0 ad 2 (34, [vR 1, nN], [], (H1 s e41a e0)) (none : Option Value) (H1 s r e0)) (fun lv42 r hB hE hC => tB2_16 Ad W s e0 lv42 hB (fun x q => hE _ q) (fun x q => hC x q)) qN ((0:Int32), r37) e41 he41 ?_)
 refine yS Ad W 2 (36, [vR 1, vI 0], [], (H1 s e41 e0)) rfl ?_
 obtain ⟨e46, he46, h⟩ := be h
 refine zM [tt,tt] (loopN_tri (B := B2_36) (T := fun lv47 => QTri l Z n0 ad 2 (36, [vR 1, vI lv47.1], [], (H1 s lv47.2 e0)) (none : Option Value) (H1 s r e0)) (KE := fun e46a => QTri l Z n0 ad 2 (55, [vR 1, nN], [], (H1 s e46a e0)) (none : Option Value) (H1 s r e0)) (fun lv47 r hB hE hC => tB2_36 Ad W s e0 lv47 hB (fun x q => hE _ q) (fun x q => hC x q)) qN ((0:Int32), e41) e46 he46 ?_)
 refine yS Ad W 3 (60, [vR 1, nN], [], (H1x22 s e46 e0 (0:Int32))) rfl ?_
 refine yS Ad W 3 (65, [vR 1, nN], [], (H1x23 s e46 e0 (0:Int32) (0:Int32))) rfl ?_
 refine yS Ad W 3 (70, [vR 1, nN], [], (H1x24 s e46 e0 (0:Int32) (0:Int32) (0:Int32))) rfl ?_
 have E48 : ((H1x24 s e46 e0 (0:Int32) (0:Int32) (0:Int32)) : QHeap) = (H1 s (sq (sp (so e46 (0:Int32)) (0:Int32)) (0:Int32)) e0) := by simp only [fs, H1, H1v, H1x24, so, sp, sq]
 rw [E48]
 obtain rfl := sj h
 exact ret0 rfl rfl
theorem tF2a1 (Ad : QAd n0 ad) (W : QW Z a0) (s : List Int32) (e0 o : Ob) {r : Ob} (h : F2 o = some r) : QTri l Z n0 ad 2 (0, qentry [.ref 30] (pMaxL 2), [], (H1 s e0 o)) (none : Option Value) (H1 s e0 r) := zW (tF2 (zA Ad) W s e0 o h) rfl rfl rfl
/-- cell([II)I -/
def F4 (s : List Int32) (x1 : Int32) : Option (Int32) :=
 (if x1 < (s.length.toInt32) then (aget s x1).bind fun y71 => some y71 else some (0:Int32))
theorem tF4 (Ad : QAd n0 ad) (W : QW Z a0) (e0 e1 : Ob) (s : List Int32) (x1 : Int32) {r : Int32} (h : F4 s x1 = some r) : QTri l Z n0 ad 4 (0, qentry [.ref 0, .int x1] (pMaxL 4), [], (H1 s e0 e1)) (some (Value.int r)) (H1 s e0 e1) := by
 unfold F4 at h
 refine yS Ad W 3 (3, [vR 0, vI x1], [.int (s.length.toInt32), .int x1], (H1 s e0 e1)) rfl ?_
 rcases qite h with ⟨c70, h⟩ | ⟨c70, h⟩
 ·refine yF Ad W 12 6 rfl (XT.ii_ge_f c70) ?_
  refine yS Ad W 2 (8, [vR 0, vI x1], [.int x1, .ref 0], (H1 s e0 e1)) rfl ?_
  obtain ⟨y71, hy71, h⟩ := be h
  refine zB Ad W (f := fun y71 => (9, [vR 0, vI x1], [.int y71], (H1 s e0 e1))) rfl hy71 ?_
  refine yS Ad W 1 (13, [vR 0, vI x1], [.int y71], (H1 s e0 e1)) rfl ?_
  obtain rfl := sj h
  exact retI rfl rfl
 ·refine yT Ad W 12 6 rfl (XT.ii_ge_t c70) ?_
  refine yS Ad W 1 (13, [vR 0, vI x1], [.int 0], (H1 s e0 e1)) rfl ?_
  obtain rfl := sj h
  exact retI rfl rfl
/-- mod(II)I -/
def F5 (x0 x1 : Int32) : Option (Int32) :=
 (qrem x0 x1).bind fun y73 => (if y73 < (0:Int32) then some (y73 + x1) else some y73)
theorem tF5 (Ad : QAd n0 ad) (W : QW Z a0) {σ : QHeap} (x0 x1 : Int32) {r : Int32} (h : F5 x0 x1 = some r) : QTri l Z n0 ad 5 (0, qentry [.int x0, .int x1] (pMaxL 5), [], σ) (some (Value.int r)) σ := by
 unfold F5 at h
 refine yS Ad W 2 (2, [vI x0, vI x1, nN], [.int x1, .int x0], σ) rfl ?_
 obtain ⟨y73, hy73, h⟩ := be h
 refine zB Ad W (f := fun y73 => (3, [vI x0, vI x1, nN], [.int y73], σ)) rfl hy73 ?_
 refine yS Ad W 2 (5, [vI x0, vI x1, vI y73], [.int y73], σ) rfl ?_
 rcases qite h with ⟨c74, h⟩ | ⟨c74, h⟩
 ·refine yF Ad W 14 8 rfl (XT.i0_ge_f c74) ?_
  refine yS Ad W 4 (15, [vI x0, vI x1, vI y73], [.int (y73 + x1)], σ) rfl ?_
  obtain rfl := sj h
  exact retI rfl rfl
 ·refine yT Ad W 14 8 rfl (XT.i0_ge_t c74) ?_
  refine yS Ad W 1 (15, [vI x0, vI x1, vI y73], [.int y73], σ) rfl ?_
  obtain rfl := sj h
  exact retI rfl rfl
def H1x34 (s : List Int32) (o0 o1 : Ob) (a0_0 : List Int32) : QHeap := H1v s a0_0 (fB o0) (fC o0) (fD o0) (fE o0) (fF o0) (fG o0) (fH o0) (fI o0) (fJ o0) (fK o0) (fL o0) (fM o0) (fO o0) (fP o0) (fQ o0) (fR o0) (fT o0) (fU o0) (fV o0) (fW o0) (fX o0) (fY o0) (fZ o0) (fa o0) (fb o0) (fc o0) (fd o0) (fe o0) (fh o0) (fi o0) (fm o0) (fo o0) (fp o0) (fq o0) (fr o0) (fA o1) (fB o1) (fC o1) (fD o1) (fE o1) (fF o1) (fG o1) (fH o1) (fI o1) (fJ o1) (fK o1) (fL o1) (fM o1) (fO o1) (fP o1) (fQ o1) (fR o1) (fT o1) (fU o1) (fV o1) (fW o1) (fX o1) (fY o1) (fZ o1) (fa o1) (fb o1) (fc o1) (fd o1) (fe o1) (fh o1) (fi o1) (fm o1) (fo o1) (fp o1) (fq o1) (fr o1)
def H1x35 (s : List Int32) (o0 o1 : Ob) (a0_0 a0_1 : List Int32) : QHeap := H1v s a0_0 a0_1 (fC o0) (fD o0) (fE o0) (fF o0) (fG o0) (fH o0) (fI o0) (fJ o0) (fK o0) (fL o0) (fM o0) (fO o0) (fP o0) (fQ o0) (fR o0) (fT o0) (fU o0) (fV o0) (fW o0) (fX o0) (fY o0) (fZ o0) (fa o0) (fb o0) (fc o0) (fd o0) (fe o0) (fh o0) (fi o0) (fm o0) (fo o0) (fp o0) (fq o0) (fr o0) (fA o1) (fB o1) (fC o1) (fD o1) (fE o1) (fF o1) (fG o1) (fH o1) (fI o1) (fJ o1) (fK o1) (fL o1) (fM o1) (fO o1) (fP o1) (fQ o1) (fR o1) (fT o1) (fU o1) (fV o1) (fW o1) (fX o1) (fY o1) (fZ o1) (fa o1) (fb o1) (fc o1) (fd o1) (fe o1) (fh o1) (fi o1) (fm o1) (fo o1) (fp o1) (fq o1) (fr o1)
def H1x36 (s : List Int32) (o0 o1 : Ob) (a0_0 a0_1 a0_2 : List Int32) : QHeap := H1v s a0_0 a0_1 a0_2 (fD o0) (fE o0) (fF o0) (fG o0) (fH o0) (fI o0) (fJ o0) (fK o0) (fL o0) (fM o0) (fO o0) (fP o0) (fQ o0) (fR o0) (fT o0) (fU o0) (fV o0) (fW o0) (fX o0) (fY o0) (fZ o0) (fa o0) (fb o0) (fc o0) (fd o0) (fe o0) (fh o0) (fi o0) (fm o0) (fo o0) (fp o0) (fq o0) (fr o0) (fA o1) (fB o1) (fC o1) (fD o1) (fE o1) (fF o1) (fG o1) (fH o1) (fI o1) (fJ o1) (fK o1) (fL o1) (fM o1) (fO o1) (fP o1) (fQ o1) (fR o1) (fT o1) (fU o1) (fV o1) (fW o1) (fX o1) (fY o1) (fZ o1) (fa o1) (fb o1) (fc o1) (fd o1) (fe o1) (fh o1) (fi o1) (fm o1) (fo o1) (fp o1) (fq o1) (fr o1)
def H1x37 (s : List Int32) (o0 o1 : Ob) (a0_0 a0_1 : List Int32) (a0_2 a0_3 : List Int32) : QHeap := H1v s a0_0 a0_1 a0_2 a0_3 (fE o0) (fF o0) (fG o0) (fH o0) (fI o0) (fJ o0) (fK o0) (fL o0) (fM o0) (fO o0) (fP o0) (fQ o0) (fR o0) (fT o0) (fU o0) (fV o0) (fW o0) (fX o0) (fY o0) (fZ o0) (fa o0) (fb o0) (fc o0) (fd o0) (fe o0) (fh o0) (fi o0) (fm o0) (fo o0) (fp o0) (fq o0) (fr o0) (fA o1) (fB o1) (fC o1) (fD o1) (fE o1) (fF o1) (fG o1) (fH o1) (fI o1) (fJ o1) (fK o1) (fL o1) (fM o1) (fO o1) (fP o1) (fQ o1) (fR o1) (fT o1) (fU o1) (fV o1) (fW o1) (fX o1) (fY o1) (fZ o1) (fa o1) (fb o1) (fc o1) (fd o1) (fe o1) (fh o1) (fi o1) (fm o1) (fo o1) (fp o1) (fq o1) (fr o1)
def H1x38 (s : List Int32) (o0 o1 : Ob) (a0_4 : List Int32) : QHeap := H1v s (fA o0) (fB o0) (fC o0) (fD o0) a0_4 (fF o0) (fG o0) (fH o0) (fI o0) (fJ o0) (fK o0) (fL o0) (fM o0) (fO o0) (fP o0) (fQ o0) (fR o0) (fT o0) (fU o0) (fV o0) (fW o0) (fX o0) (fY o0) (fZ o0) (fa o0) (fb o0) (fc o0) (fd o0) (fe o0) (fh o0) (fi o0) (fm o0) (fo o0) (fp o0) (fq o0) (fr o0) (fA o1) (fB o1) (fC o1) (fD o1) (fE o1) (fF o1) (fG o1) (fH o1) (fI o1) (fJ o1) (fK o1) (fL o1) (fM o1) (fO o1) (fP o1) (fQ o1) (fR o1) (fT o1) (fU o1) (fV o1) (fW o1) (fX o1) (fY o1) (fZ o1) (fa o1) (fb o1) (fc o1) (fd o1) (fe o1) (fh o1) (fi o1) (fm o1) (fo o1) (fp o1) (fq o1) (fr o1)
def H1x39 (s : List Int32) (o0 o1 : Ob) (a0_4 a0_5 : List Int32) : QHeap := H1v s (fA o0) (fB o0) (fC o0) (fD o0) a0_4 a0_5 (fG o0) (fH o0) (fI o0) (fJ o0) (fK o0) (fL o0) (fM o0) (fO o0) (fP o0) (fQ o0) (fR o0) (fT o0) (fU o0) (fV o0) (fW o0) (fX o0) (fY o0) (fZ o0) (fa o0) (fb o0) (fc o0) (fd o0) (fe o0) (fh o0) (fi o0) (fm o0) (fo o0) (fp o0) (fq o0) (fr o0) (fA o1) (fB o1) (fC o1) (fD o1) (fE o1) (fF o1) (fG o1) (fH o1) (fI o1) (fJ o1) (fK o1) (fL o1) (fM o1) (fO o1) (fP o1) (fQ o1) (fR o1) (fT o1) (fU o1) (fV o1) (fW o1) (fX o1) (fY o1) (fZ o1) (fa o1) (fb o1) (fc o1) (fd o1) (fe o1) (fh o1) (fi o1) (fm o1) (fo o1) (fp o1) (fq o1) (fr o1)
def H1x40 (s : List Int32) (o0 o1 : Ob) (a0_4 a0_5 a0_6 : List Int32) : QHeap := H1v s (fA o0) (fB o0) (fC o0) (fD o0) a0_4 a0_5 a0_6 (fH o0) (fI o0) (fJ o0) (fK o0) (fL o0) (fM o0) (fO o0) (fP o0) (fQ o0) (fR o0) (fT o0) (fU o0) (fV o0) (fW o0) (fX o0) (fY o0) (fZ o0) (fa o0) (fb o0) (fc o0) (fd o0) (fe o0) (fh o0) (fi o0) (fm o0) (fo o0) (fp o0) (fq o0) (fr o0) (fA o1) (fB o1) (fC o1) (fD o1) (fE o1) (fF o1) (fG o1) (fH o1) (fI o1) (fJ o1) (fK o1) (fL o1) (fM o1) (fO o1) (fP o1) (fQ o1) (fR o1) (fT o1) (fU o1) (fV o1) (fW o1) (fX o1) (fY o1) (fZ o1) (fa o1) (fb o1) (fc o1) (fd o1) (fe o1) (fh o1) (fi o1) (fm o1) (fo o1) (fp o1) (fq o1) (fr o1)
/-- writeTerm(IIII)V -/
def F7 (o : Ob) (x1 x2 : Int32) (x3 x4 : Int32) : Option (Ob) :=
 (aset (fE o) x1 x2).bind fun y99 => (aset (fF o) x1 x3).bind fun y100 => (aset (fG o) x1 x4).bind fun y101 => some (sG (sF (sE o y99) y100) y101)
theorem tF7 (Ad : QAd n0 ad) (W : QW Z a0) (s : List Int32) (e0 o : Ob) (x1 x2 : Int32) (x3 x4 : Int32) {r : Ob} (h : F7 o x1 x2 x3 x4 = some r) : QTri l Z n0 ad 7 (0, qentry [.ref 1, .int x1, .int x2, .int x3, .int x4] (pMaxL 7), [], (H1 s o e0)) (none : Option Value) (H1 s r e0) := by
 unfold F7 at h
 refine yS Ad W 4 (6, [vR 1, vI x1, vI x2, vI x3, vI x4], [.int x2, .int x1, .ref 6], (H1 s o e0)) rfl ?_
 obtain ⟨y99, hy99, h⟩ := be h
 refine zB Ad W (f := fun y99 => (7, [vR 1, vI x1, vI x2, vI x3, vI x4], [], (H1x38 s o e0 y99))) rfl hy99 ?_
 refine yS Ad W 4 (13, [vR 1, vI x1, vI x2, vI x3, vI x4], [.int x3, .int x1, .ref 7], (H1x38 s o e0 y99)) rfl ?_
 obtain ⟨y100, hy100, h⟩ := be h
 refine zB Ad W (f := fun y100 => (14, [vR 1, vI x1, vI x2, vI x3, vI x4], [], (H1x39 s o e0 y99 y100))) rfl hy100 ?_
 refine yS Ad W 4 (21, [vR 1, vI x1, vI x2, vI x3, vI x4], [.int x4, .int x1, .ref 8], (H1x39 s o e0 y99 y100)) rfl ?_
 obtain ⟨y101, hy101, h⟩ := be h
 refine zB Ad W (f := fun y101 => (22, [vR 1, vI x1, vI x2, vI x3, vI x4], [], (H1x40 s o e0 y99 y100 y101))) rfl hy101 ?_
 have E102 : ((H1x40 s o e0 y99 y100 y101) : QHeap) = (H1 s (sG (sF (sE o y99) y100) y101) e0) := by simp only [fs, H1, H1v, H1x40, sE, sF, sG]
 rw [E102]
 obtain rfl := sj h
 exact ret0 rfl rfl
def H1x41 (s : List Int32) (o0 o1 : Ob) (a0_7 : List Int32) : QHeap := H1v s (fA o0) (fB o0) (fC o0) (fD o0) (fE o0) (fF o0) (fG o0) a0_7 (fI o0) (fJ o0) (fK o0) (fL o0) (fM o0) (fO o0) (fP o0) (fQ o0) (fR o0) (fT o0) (fU o0) (fV o0) (fW o0) (fX o0) (fY o0) (fZ o0) (fa o0) (fb o0) (fc o0) (fd o0) (fe o0) (fh o0) (fi o0) (fm o0) (fo o0) (fp o0) (fq o0) (fr o0) (fA o1) (fB o1) (fC o1) (fD o1) (fE o1) (fF o1) (fG o1) (fH o1) (fI o1) (fJ o1) (fK o1) (fL o1) (fM o1) (fO o1) (fP o1) (fQ o1) (fR o1) (fT o1) (fU o1) (fV o1) (fW o1) (fX o1) (fY o1) (fZ o1) (fa o1) (fb o1) (fc o1) (fd o1) (fe o1) (fh o1) (fi o1) (fm o1) (fo o1) (fp o1) (fq o1) (fr o1)
def H1x42 (s : List Int32) (o0 o1 : Ob) (a0_7 : List Int32) (a0_30 : Int32) : QHeap := H1v s (fA o0) (fB o0) (fC o0) (fD o0) (fE o0) (fF o0) (fG o0) a0_7 (fI o0) (fJ o0) (fK o0) (fL o0) (fM o0) (fO o0) (fP o0) (fQ o0) (fR o0) (fT o0) (fU o0) (fV o0) (fW o0) (fX o0) (fY o0) (fZ o0) (fa o0) (fb o0) (fc o0) (fd o0) (fe o0) (fh o0) a0_30 (fm o0) (fo o0) (fp o0) (fq o0) (fr o0) (fA o1) (fB o1) (fC o1) (fD o1) (fE o1) (fF o1) (fG o1) (fH o1) (fI o1) (fJ o1) (fK o1) (fL o1) (fM o1) (fO o1) (fP o1) (fQ o1) (fR o1) (fT o1) (fU o1) (fV o1) (fW o1) (fX o1) (fY o1) (fZ o1) (fa o1) (fb o1) (fc o1) (fd o1) (fe o1) (fh o1) (fi o1) (fm o1) (fo o1) (fp o1) (fq o1) (fr o1)
/-- addBlock(IIII)I -/
def F6 (o : Ob) (x1 x2 : Int32) (x3 x4 : Int32) : Option (Int32 × Ob) :=
 (if (fm o) = (0:Int32) then (if (fi o) = (fe o) then some ((-1:Int32), o) else (if (fi o) < (16:Int32) then (if x1 < (0:Int32) then some ((-1:Int32), o) else (if (7:Int32) < x1 then some ((-1:Int32), o) else (if x2 < (0:Int32) then some ((-1:Int32), o) else (if (3:Int32) < x2 then some ((-1:Int32), o) else (if x3 < (0:Int32) then some ((-1:Int32), o) else (if (3:Int32) < x3 then some ((-1:Int32), o) else (aset (fA o) (fi o) x1).bind fun y94 => (aset (fB o) (fi o) x2).bind fun y95 => (aset (fC o) (fi o) x3).bind fun y96 => (aset (fD o) (fi o) x4).bind fun y97 => (F7 (sD (sC (sB (sA o y94) y95) y96) y97) (fi o) (0:Int32) (0:Int32) (0:Int32)).bind fun r103 => (aset (fH r103) (fi o) (0:Int32)).bind fun y104 => (F3 (si (sH r103 y104) ((fi o) + (1:Int32)))).bind fun r106 => some ((fi o), r106))))))) else some ((-1:Int32), o))) else some ((-1:Int32), o))
theorem tF6 (Ad : QAd n0 ad) (W : QW Z a0) (s : List Int32) (e0 o : Ob) (x1 x2 : Int32) (x3 x4 : Int32) {r : Int32 × Ob} (h : F6 o x1 x2 x3 x4 = some r) : QTri l Z n0 ad 6 (0, qentry [.ref 1, .int x1, .int x2, .int x3, .int x4] (pMaxL 6), [], (H1 s o e0)) (some (Value.int r.1)) (H1 s r.2 e0) := by
 unfold F6 at h
 refine yS Ad W 2 (4, [vR 1, vI x1, vI x2, vI x3, vI x4, nN], [.int (fm o)], (H1 s o e0)) rfl ?_
 rcases qite h with ⟨c85, h⟩ | ⟨c85, h⟩
 ·refine yF Ad W 27 7 rfl (XT.i0_ne_f c85) ?_
  refine yS Ad W 4 (15, [vR 1, vI x1, vI x2, vI x3, vI x4, nN], [.int (fe o), .int (fi o)], (H1 s o e0)) rfl ?_
  rcases qite h with ⟨c86, h⟩ | ⟨c86, h⟩
  ·refine yT Ad W 27 18 rfl (XT.ii_eq_t c86) ?_
   refine yS Ad W 1 (28, [vR 1, vI x1, vI x2, vI x3, vI x4, nN], [.int (-1:Int32)], (H1 s o e0)) rfl ?_
   obtain rfl := sj h
   exact retI rfl rfl
  ·refine yF Ad W 27 18 rfl (XT.ii_eq_f c86) ?_
   refine yS Ad W 3 (24, [vR 1, vI x1, vI x2, vI x3, vI x4, nN], [.int 16, .int (fi o)], (H1 s o e0)) rfl ?_
   rcases qite h with ⟨c87, h⟩ | ⟨c87, h⟩
   ·refine yT Ad W 29 27 rfl (XT.ii_lt_t c87) ?_
    refine yS Ad W 1 (30, [vR 1, vI x1, vI x2, vI x3, vI x4, nN], [.int x1], (H1 s o e0)) rfl ?_
    rcases qite h with ⟨c88, h⟩ | ⟨c88, h⟩
    ·refine yT Ad W 57 33 rfl (XT.i0_lt_t c88) ?_
     refine yS Ad W 1 (58, [vR 1, vI x1, vI x2, vI x3, vI x4, nN], [.int (-1:Int32)], (H1 s o e0)) rfl ?_
     obtain rfl := sj h
     exact retI rfl rfl
    ·refine yF Ad W 57 33 rfl (XT.i0_lt_f c88) ?_
     refine yS Ad W 2 (36, [vR 1, vI x1, vI x2, vI x3, vI x4, nN], [.int 7, .int x1], (H1 s o e0)) rfl ?_
     rcases qite h with ⟨c89, h⟩ | ⟨c89, h⟩
     ·refine yT Ad W 57 39 rfl (XT.ii_gt_t c89) ?_
      refine yS Ad W 1 (58, [vR 1, vI x1, vI x2, vI x3, vI x4, nN], [.int (-1:Int32)], (H1 s o e0)) rfl ?_
      obtain rfl := sj h
      exact retI rfl rfl
     ·refine yF Ad W 57 39 rfl (XT.ii_gt_f c89) ?_
      refine yS Ad W 1 (40, [vR 1, vI x1, vI x2, vI x3, vI x4, nN], [.int x2], (H1 s o e0)) rfl ?_
      rcases qite h with ⟨c90, h⟩ | ⟨c90, h⟩
      ·refine yT Ad W 57 43 rfl (XT.i0_lt_t c90) ?_
       refine yS Ad W 1 (58, [vR 1, vI x1, vI x2, vI x3, vI x4, nN], [.int (-1:Int32)], (H1 s o e0)) rfl ?_
       obtain rfl := sj h
       exact retI rfl rfl
      ·refine yF Ad W 57 43 rfl (XT.i0_lt_f c90) ?_
       refine yS Ad W 2 (45, [vR 1, vI x1, vI x2, vI x3, vI x4, nN], [.int 3, .int x2], (H1 s o e0)) rfl ?_
       rcases qite h with ⟨c91, h⟩ | ⟨c91, h⟩
       ·refine yT Ad W 57 48 rfl (XT.ii_gt_t c91) ?_
        refine yS Ad W 1 (58, [vR 1, vI x1, vI x2, vI x3, vI x4, nN], [.int (-1:Int32)], (H1 s o e0)) rfl ?_
        obtain rfl := sj h
        exact retI rfl rfl
       ·refine yF Ad W 57 48 rfl (XT.ii_gt_f c91) ?_
        refine yS Ad W 1 (49, [vR 1, vI x1, vI x2, vI x3, vI x4, nN], [.int x3], (H1 s o e0)) rfl ?_
        rcases qite h with ⟨c92, h⟩ | ⟨c92, h⟩
        ·refine yT Ad W 57 52 rfl (XT.i0_lt_t c92) ?_
         refine yS Ad W 1 (58, [vR 1, vI x1, vI x2, vI x3, vI x4, nN], [.int (-1:Int32)], (H1 s o e0)) rfl ?_
         obtain rfl := sj h
         exact retI rfl rfl
        ·refine yF Ad W 57 52 rfl (XT.i0_lt_f c92) ?_
         refine yS Ad W 2 (54, [vR 1, vI x1, vI x2, vI x3, vI x4, nN], [.int 3, .int x3], (H1 s o e0)) rfl ?_
         rcases qite h with ⟨c93, h⟩ | ⟨c93, h⟩
         ·refine yF Ad W 59 57 rfl (XT.ii_le_f c93) ?_
          refine yS Ad W 1 (58, [vR 1, vI x1, vI x2, vI x3, vI x4, nN], [.int (-1:Int32)], (H1 s o e0)) rfl ?_
          obtain rfl := sj h
          exact retI rfl rfl
         ·refine yT Ad W 59 57 rfl (XT.ii_le_t c93) ?_
          refine yS Ad W 7 (72, [vR 1, vI x1, vI x2, vI x3, vI x4, vI (fi o)], [.int x1, .int (fi o), .ref 2], (H1 s o e0)) rfl ?_
          obtain ⟨y94, hy94, h⟩ := be h
          refine zB Ad W (f := fun y94 => (73, [vR 1, vI x1, vI x2, vI x3, vI x4, vI (fi o)], [], (H1x34 s o e0 y94))) rfl hy94 ?_
          refine yS Ad W 4 (80, [vR 1, vI x1, vI x2, vI x3, vI x4, vI (fi o)], [.int x2, .int (fi o), .ref 3], (H1x34 s o e0 y94)) rfl ?_
          obtain ⟨y95, hy95, h⟩ := be h
          refine zB Ad W (f := fun y95 => (81, [vR 1, vI x1, vI x2, vI x3, vI x4, vI (fi o)], [], (H1x35 s o e0 y94 y95))) rfl hy95 ?_
          refine yS Ad W 4 (88, [vR 1, vI x1, vI x2, vI x3, vI x4, vI (fi o)], [.int x3, .int (fi o), .ref 4], (H1x35 s o e0 y94 y95)) rfl ?_
          obtain ⟨y96, hy96, h⟩ := be h
          refine zB Ad W (f := fun y96 => (89, [vR 1, vI x1, vI x2, vI x3, vI x4, vI (fi o)], [], (H1x36 s o e0 y94 y95 y96))) rfl hy96 ?_
          refine yS Ad W 4 (97, [vR 1, vI x1, vI x2, vI x3, vI x4, vI (fi o)], [.int x4, .int (fi o), .ref 5], (H1x36 s o e0 y94 y95 y96)) rfl ?_
          obtain ⟨y97, hy97, h⟩ := be h
          refine zB Ad W (f := fun y97 => (98, [vR 1, vI x1, vI x2, vI x3, vI x4, vI (fi o)], [], (H1x37 s o e0 y94 y95 y96 y97))) rfl hy97 ?_
          refine yS Ad W 5 (104, [vR 1, vI x1, vI x2, vI x3, vI x4, vI (fi o)], [.int 0, .int 0, .int 0, .int (fi o), .ref 1], (H1x37 s o e0 y94 y95 y96 y97)) rfl ?_
          have E98 : ((H1x37 s o e0 y94 y95 y96 y97) : QHeap) = (H1 s (sD (sC (sB (sA o y94) y95) y96) y97) e0) := by simp only [fs, H1, H1v, H1x37, sA, sB, sC, sD]
          rw [E98]
          obtain ⟨r103, hr103, h⟩ := be h
          refine callP W (a := 1) (as := [.int (fi o), .int 0, .int 0, .int 0]) (rest := []) (w := none) (σ₁ := (H1 s r103 e0)) rfl rfl rfl rfl rfl rfl rfl rfl (tF7 Ad W s e0 (sD (sC (sB (sA o y94) y95) y96) y97) (fi o) (0:Int32) (0:Int32) (0:Int32) hr103) ?_
          refine yS Ad W 4 (114, [vR 1, vI x1, vI x2, vI x3, vI x4, vI (fi o)], [.int 0, .int (fi o), .ref 9], (H1 s r103 e0)) rfl ?_
          obtain ⟨y104, hy104, h⟩ := be h
          refine zB Ad W (f := fun y104 => (115, [vR 1, vI x1, vI x2, vI x3, vI x4, vI (fi o)], [], (H1x41 s r103 e0 y104))) rfl hy104 ?_
          refine yS Ad W 5 (123, [vR 1, vI x1, vI x2, vI x3, vI x4, vI (fi o)], [], (H1x42 s r103 e0 y104 ((fi o) + (1:Int32)))) rfl ?_
          refine yS Ad W 1 (124, [vR 1, vI x1, vI x2, vI x3, vI x4, vI (fi o)], [.ref 1], (H1x42 s r103 e0 y104 ((fi o) + (1:Int32)))) rfl ?_
          have E105 : ((H1x42 s r103 e0 y104 ((fi o) + (1:Int32))) : QHeap) = (H1 s (si (sH r103 y104) ((fi o) + (1:Int32))) e0) := by simp only [fs, H1, H1v, H1x42, sH, si]
          rw [E105]
          obtain ⟨r106, hr106, h⟩ := be h
          refine callP W (a := 1) (as := []) (rest := []) (w := none) (σ₁ := (H1 s r106 e0)) rfl rfl rfl rfl rfl rfl rfl rfl (tF3 Ad W s e0 (si (sH r103 y104) ((fi o) + (1:Int32))) hr106) ?_
          refine yS Ad W 1 (129, [vR 1, vI x1, vI x2, vI x3, vI x4, vI (fi o)], [.int (fi o)], (H1 s r106 e0)) rfl ?_
          obtain rfl := sj h
          exact retI rfl rfl
   ·refine yF Ad W 29 27 rfl (XT.ii_lt_f c87) ?_
    refine yS Ad W 1 (28, [vR 1, vI x1, vI x2, vI x3, vI x4, nN], [.int (-1:Int32)], (H1 s o e0)) rfl ?_
    obtain rfl := sj h
    exact retI rfl rfl
 ·refine yT Ad W 27 7 rfl (XT.i0_ne_t c85) ?_
  refine yS Ad W 1 (28, [vR 1, vI x1, vI x2, vI x3, vI x4, nN], [.int (-1:Int32)], (H1 s o e0)) rfl ?_
  obtain rfl := sj h
  exact retI rfl rfl
theorem tF6a1 (Ad : QAd n0 ad) (W : QW Z a0) (s : List Int32) (e0 o : Ob) (x1 x2 : Int32) (x3 x4 : Int32) {r : Int32 × Ob} (h : F6 o x1 x2 x3 x4 = some r) : QTri l Z n0 ad 6 (0, qentry [.ref 30, .int x1, .int x2, .int x3, .int x4] (pMaxL 6), [], (H1 s e0 o)) (some (Value.int r.1)) (H1 s e0 r.2) := zW (tF6 (zA Ad) W s e0 o x1 x2 x3 x4 h) rfl rfl rfl
def B0_63 (s : List Int32) (x4 x5 : Int32) (v : Int32 × Int32 × Ob × Ob) : Option (((Int32 × Ob × Ob)) ⊕ (Int32 × Int32 × Ob × Ob)) :=
  (if v.2.1 < x5 then (F4 s v.1).bind fun r77 => (F5 r77 (8 : Int32)).bind fun r78 => (F4 s (v.1 + (1 : Int32))).bind fun r79 => (F5 r79 (4 : Int32)).bind fun r80 => (F4 s (v.1 + (2 : Int32))).bind fun r81 => (F5 r81 (4 : Int32)).bind fun r82 => (F4 s (v.1 + (3 : Int32))).bind fun r83 => (F5 r83 (17 : Int32)).bind fun r84 => (F6 v.2.2.1 r78 r80 r82 (r84 - (8 : Int32))).bind fun r107 => (F6 v.2.2.2 r78 r80 r82 (r84 - (8 : Int32))).bind fun r130 => some (.inr ((v.1 + (4 : Int32)), (v.2.1 + (1 : Int32)), r107.2, r130.2)) else some (.inl (v.1, v.2.2.1, v.2.2.2)))
theorem tB0_63 (Ad : QAd n0 ad) (W : QW Z a0) (s : List Int32) (x4 x5 : Int32) (v : Int32 × Int32 × Ob × Ob) {r : ((Int32 × Ob × Ob)) ⊕ (Int32 × Int32 × Ob × Ob)} {u : Option Value} {τ : QHeap} (h : B0_63 s x4 x5 v = some r) (hx0 : ∀ x : Int32 × Ob × Ob, r = .inl x → QTri l Z n0 ad 0 (160, [vR 0, vR 1, vR 30, vI x.1, vI x4, vI x5, nN, nN, nN, nN, nN, nN, nN, nN, nN, nN, nN, nN, nN, nN, nN, nN, nN, nN, nN, nN, nN, nN, nN], [], (H1 s x.2.1 x.2.2)) u τ) (hc : ∀ x : Int32 × Int32 × Ob × Ob, r = .inr x → QTri l Z n0 ad 0 (63, [vR 0, vR 1, vR 30, vI x.1, vI x4, vI x5, vI x.2.1, nN, nN, nN, nN, nN, nN, nN, nN, nN, nN, nN, nN, nN, nN, nN, nN, nN, nN, nN, nN, nN, nN], [], (H1 s x.2.2.1 x.2.2.2)) u τ) : QTri l Z n0 ad 0 (63, [vR 0, vR 1, vR 30, vI v.1, vI x4, vI x5, vI v.2.1, nN, nN, nN, nN, nN, nN, nN, nN, nN, nN, nN, nN, nN, nN, nN, nN, nN, nN, nN, nN, nN, nN], [], (H1 s v.2.2.1 v.2.2.2)) u τ := by
 unfold B0_63 at h
 refine yS Ad W 2 (67, [vR 0, vR 1, vR 30, vI v.1, vI x4, vI x5, vI v.2.1, nN, nN, nN, nN, nN, nN, nN, nN, nN, nN, nN, nN, nN, nN, nN, nN, nN, nN, nN, nN, nN, nN], [.int x5, .int v.2.1], (H1 s v.2.2.1 v.2.2.2)) rfl ?_
 rcases qite h with ⟨c76, h⟩ | ⟨c76, h⟩
 ·refine yF Ad W 160 70 rfl (XT.ii_ge_f c76) ?_
  refine yS Ad W 2 (72, [vR 0, vR 1, vR 30, vI v.1, vI x4, vI x5, vI v.2.1, nN, nN, nN, nN, nN, nN, nN, nN, nN, nN, nN, nN, nN, nN, nN, nN, nN, nN, nN, nN, nN, nN], [.int v.1, .ref 0], (H1 s v.2.2.1 v.2.2.2)) rfl ?_
  obtain ⟨r77, hr77, h⟩ := be h
  refine callS W (as := [.ref 0, .int v.1]) (rest := []) (w := (some (.int r77))) (σ₁ := (H1 s v.2.2.1 v.2.2.2)) rfl rfl rfl rfl rfl rfl rfl (tF4 Ad W v.2.2.1 v.2.2.2 s v.1 hr77) ?_
  refine yS Ad W 1 (77, [vR 0, vR 1, vR 30, vI v.1, vI x4, vI x5, vI v.2.1, nN, nN, nN, nN, nN, nN, nN, nN, nN, nN, nN, nN, nN, nN, nN, nN, nN, nN, nN, nN, nN, nN], [.int 8, .int r77], (H1 s v.2.2.1 v.2.2.2)) rfl ?_
  obtain ⟨r78, hr78, h⟩ := be h
  refine callS W (as := [.int r77, .int 8]) (rest := []) (w := (some (.int r78))) (σ₁ := (H1 s v.2.2.1 v.2.2.2)) rfl rfl rfl rfl rfl rfl rfl (tF5 Ad W r77 (8:Int32) hr78) ?_
  refine yS Ad W 5 (86, [vR 0, vR 1, vR 30, vI v.1, vI x4, vI x5, vI v.2.1, vI r78, nN, nN, nN, nN, nN, nN, nN, nN, nN, nN, nN, nN, nN, nN, nN, nN, nN, nN, nN, nN, nN], [.int (v.1 + (1:Int32)), .ref 0], (H1 s v.2.2.1 v.2.2.2)) rfl ?_
  obtain ⟨r79, hr79, h⟩ := be h
  refine callS W (as := [.ref 0, .int (v.1 + (1:Int32))]) (rest := []) (w := (some (.int r79))) (σ₁ := (H1 s v.2.2.1 v.2.2.2)) rfl rfl rfl rfl rfl rfl rfl (tF4 Ad W v.2.2.1 v.2.2.2 s (v.1 + (1:Int32)) hr79) ?_
  refine yS Ad W 1 (90, [vR 0, vR 1, vR 30, vI v.1, vI x4, vI x5, vI v.2.1, vI r78, nN, nN, nN, nN, nN, nN, nN, nN, nN, nN, nN, nN, nN, nN, nN, nN, nN, nN, nN, nN, nN], [.int 4, .int r79], (H1 s v.2.2.1 v.2.2.2)) rfl ?_
  obtain ⟨r80, hr80, h⟩ := be h
  refine callS W (as := [.int r79, .int 4]) (rest := []) (w := (some (.int r80))) (σ₁ := (H1 s v.2.2.1 v.2.2.2)) rfl rfl rfl rfl rfl rfl rfl (tF5 Ad W r79 (4:Int32) hr80) ?_
  refine yS Ad W 5 (99, [vR 0, vR 1, vR 30, vI v.1, vI x4, vI x5, vI v.2.1, vI r78, vI r80, nN, nN, nN, nN, nN, nN, nN, nN, nN, nN, nN, nN, nN, nN, nN, nN, nN, nN, nN, nN], [.int (v.1 + (2:Int32)), .ref 0], (H1 s v.2.2.1 v.2.2.2)) rfl ?_
  obtain ⟨r81, hr81, h⟩ := be h
  refine callS W (as := [.ref 0, .int (v.1 + (2:Int32))]) (rest := []) (w := (some (.int r81))) (σ₁ := (H1 s v.2.2.1 v.2.2.2)) rfl rfl rfl rfl rfl rfl rfl (tF4 Ad W v.2.2.1 v.2.2.2 s (v.1 + (2:Int32)) hr81) ?_
  refine yS Ad W 1 (103, [vR 0, vR 1, vR 30, vI v.1, vI x4, vI x5, vI v.2.1, vI r78, vI r80, nN, nN, nN, nN, nN, nN, nN, nN, nN, nN, nN, nN, nN, nN, nN, nN, nN, nN, nN, nN], [.int 4, .int r81], (H1 s v.2.2.1 v.2.2.2)) rfl ?_
  obtain ⟨r82, hr82, h⟩ := be h
  refine callS W (as := [.int r81, .int 4]) (rest := []) (w := (some (.int r82))) (σ₁ := (H1 s v.2.2.1 v.2.2.2)) rfl rfl rfl rfl rfl rfl rfl (tF5 Ad W r81 (4:Int32) hr82) ?_
  refine yS Ad W 5 (112, [vR 0, vR 1, vR 30, vI v.1, vI x4, vI x5, vI v.2.1, vI r78, vI r80, vI r82, nN, nN, nN, nN, nN, nN, nN, nN, nN, nN, nN, nN, nN, nN, nN, nN, nN, nN, nN], [.int (v.1 + (3:Int32)), .ref 0], (H1 s v.2.2.1 v.2.2.2)) rfl ?_
  obtain ⟨r83, hr83, h⟩ := be h
  refine callS W (as := [.ref 0, .int (v.1 + (3:Int32))]) (rest := []) (w := (some (.int r83))) (σ₁ := (H1 s v.2.2.1 v.2.2.2)) rfl rfl rfl rfl rfl rfl rfl (tF4 Ad W v.2.2.1 v.2.2.2 s (v.1 + (3:Int32)) hr83) ?_
  refine yS Ad W 1 (117, [vR 0, vR 1, vR 30, vI v.1, vI x4, vI x5, vI v.2.1, vI r78, vI r80, vI r82, nN, nN, nN, nN, nN, nN, nN, nN, nN, nN, nN, nN, nN, nN, nN, nN, nN, nN, nN], [.int 17, .int r83], (H1 s v.2.2.1 v.2.2.2)) rfl ?_
  obtain ⟨r84, hr84, h⟩ := be h
  refine callS W (as := [.int r83, .int 17]) (rest := []) (w := (some (.int r84))) (σ₁ := (H1 s v.2.2.1 v.2.2.2)) rfl rfl rfl rfl rfl rfl rfl (tF5 Ad W r83 (17:Int32) hr84) ?_
  refine yS Ad W 4 (128, [vR 0, vR 1, vR 30, vI (v.1 + (4:Int32)), vI x4, vI x5, vI v.2.1, vI r78, vI r80, vI r82, vI (r84 - (8:Int32)), nN, nN, nN, nN, nN, nN, nN, nN, nN, nN, nN, nN, nN, nN, nN, nN, nN, nN], [], (H1 s v.2.2.1 v.2.2.2)) rfl ?_
  refine yS Ad W 5 (137, [vR 0, vR 1, vR 30, vI (v.1 + (4:Int32)), vI x4, vI x5, vI v.2.1, vI r78, vI r80, vI r82, vI (r84 - (8:Int32)), nN, nN, nN, nN, nN, nN, nN, nN, nN, nN, nN, nN, nN, nN, nN, nN, nN, nN], [.int (r84 - (8:Int32)), .int r82, .int r80, .int r78, .ref 1], (H1 s v.2.2.1 v.2.2.2)) rfl ?_
  obtain ⟨r107, hr107, h⟩ := be h
  refine callV W (a := 1) (as := [.int r78, .int r80, .int r82, .int (r84 - (8:Int32))]) (rest := []) (w := (some (.int r107.1))) (σ₁ := (H1 s r107.2 v.2.2.2)) rfl rfl rfl rfl rfl rfl rfl rfl (tF6 Ad W s v.2.2.2 v.2.2.1 r78 r80 r82 (r84 - (8:Int32)) hr107) ?_
  refine yS Ad W 6 (150, [vR 0, vR 1, vR 30, vI (v.1 + (4:Int32)), vI x4, vI x5, vI v.2.1, vI r78, vI r80, vI r82, vI (r84 - (8:Int32)), nN, nN, nN, nN, nN, nN, nN, nN, nN, nN, nN, nN, nN, nN, nN, nN, nN, nN], [.int (r84 - (8:Int32)), .int r82, .int r80, .int r78, .ref 30], (H1 s r107.2 v.2.2.2)) rfl ?_
  obtain ⟨r130, hr130, h⟩ := be h
  refine callV W (a := 30) (as := [.int r78, .int r80, .int r82, .int (r84 - (8:Int32))]) (rest := []) (w := (some (.int r130.1))) (σ₁ := (H1 s r107.2 r130.2)) rfl rfl rfl rfl rfl rfl rfl rfl (tF6a1 Ad W s r107.2 v.2.2.2 r78 r80 r82 (r84 - (8:Int32)) hr130) ?_
  refine yS Ad W 3 (63, [vR 0, vR 1, vR 30, vI (v.1 + (4:Int32)), vI x4, vI x5, vI (v.2.1 + (1:Int32)), vI r78, vI r80, vI r82, vI (r84 - (8:Int32)), nN, nN, nN, nN, nN, nN, nN, nN, nN, nN, nN, nN, nN, nN, nN, nN, nN, nN], [], (H1 s r107.2 r130.2)) rfl ?_
  obtain rfl := sj h
  exact zM [tt,tt,tt,tt,tt,tt,tt,ff,ff,ff,ff,ff,ff,ff,ff,ff,ff,ff,ff,ff,ff,ff,ff,ff,ff,ff,ff,ff,ff] (hc ((v.1 + (4:Int32)), (v.2.1 + (1:Int32)), r107.2, r130.2) rfl)
 ·refine yT Ad W 160 70 rfl (XT.ii_ge_t c76) ?_
  obtain rfl := sj h
  exact zM [tt,tt,tt,tt,tt,tt,ff,ff,ff,ff,ff,ff,ff,ff,ff,ff,ff,ff,ff,ff,ff,ff,ff,ff,ff,ff,ff,ff,ff] (hx0 (v.1, v.2.2.1, v.2.2.2) rfl)
/-- validBlock(I)Z -/
def F9 (o : Ob) (x1 : Int32) : Option (Int32) :=
 (if x1 < (0:Int32) then some (0:Int32) else (if x1 < (fi o) then (if x1 < (16:Int32) then some (1:Int32) else some (0:Int32)) else some (0:Int32)))
theorem tF9 (Ad : QAd n0 ad) (W : QW Z a0) (s : List Int32) (e0 o : Ob) (x1 : Int32) {r : Int32} (h : F9 o x1 = some r) : QTri l Z n0 ad 9 (0, qentry [.ref 1, .int x1] (pMaxL 9), [], (H1 s o e0)) (some (Value.int r)) (H1 s o e0) := by
 unfold F9 at h
 refine yS Ad W 1 (1, [vR 1, vI x1], [.int x1], (H1 s o e0)) rfl ?_
 rcases qite h with ⟨c144, h⟩ | ⟨c144, h⟩
 ·refine yT Ad W 22 4 rfl (XT.i0_lt_t c144) ?_
  refine yS Ad W 1 (23, [vR 1, vI x1], [.int 0], (H1 s o e0)) rfl ?_
  obtain rfl := sj h
  exact retZ rfl rfl
 ·refine yF Ad W 22 4 rfl (XT.i0_lt_f c144) ?_
  refine yS Ad W 3 (9, [vR 1, vI x1], [.int (fi o), .int x1], (H1 s o e0)) rfl ?_
  rcases qite h with ⟨c145, h⟩ | ⟨c145, h⟩
  ·refine yF Ad W 22 12 rfl (XT.ii_ge_f c145) ?_
   refine yS Ad W 2 (15, [vR 1, vI x1], [.int 16, .int x1], (H1 s o e0)) rfl ?_
   rcases qite h with ⟨c146, h⟩ | ⟨c146, h⟩
   ·refine yF Ad W 22 18 rfl (XT.ii_ge_f c146) ?_
    refine yS Ad W 2 (23, [vR 1, vI x1], [.int 1], (H1 s o e0)) rfl ?_
    obtain rfl := sj h
    exact retZ rfl rfl
   ·refine yT Ad W 22 18 rfl (XT.ii_ge_t c146) ?_
    refine yS Ad W 1 (23, [vR 1, vI x1], [.int 0], (H1 s o e0)) rfl ?_
    obtain rfl := sj h
    exact retZ rfl rfl
  ·refine yT Ad W 22 12 rfl (XT.ii_ge_t c145) ?_
   refine yS Ad W 1 (23, [vR 1, vI x1], [.int 0], (H1 s o e0)) rfl ?_
   obtain rfl := sj h
   exact retZ rfl rfl
/-- setJump(II)Z -/
def F10 (o : Ob) (x1 x2 : Int32) : Option (Int32 × Ob) :=
 (if (fm o) = (0:Int32) then (F9 o x1).bind fun r147 => (if r147 = (0:Int32) then some ((0:Int32), o) else (F9 o x2).bind fun r149 => (if r149 = (0:Int32) then some ((0:Int32), o) else (F7 o x1 (1:Int32) (0:Int32) x2).bind fun r151 => (aset (fH r151) x1 (0:Int32)).bind fun y152 => (F3 (sH r151 y152)).bind fun r154 => some ((1:Int32), r154))) else some ((0:Int32), o))
theorem tF10 (Ad : QAd n0 ad) (W : QW Z a0) (s : List Int32) (e0 o : Ob) (x1 x2 : Int32) {r : Int32 × Ob} (h : F10 o x1 x2 = some r) : QTri l Z n0 ad 10 (0, qentry [.ref 1, .int x1, .int x2] (pMaxL 10), [], (H1 s o e0)) (some (Value.int r.1)) (H1 s r.2 e0) := by
 unfold F10 at h
 refine yS Ad W 2 (4, [vR 1, vI x1, vI x2], [.int (fm o)], (H1 s o e0)) rfl ?_
 rcases qite h with ⟨c143, h⟩ | ⟨c143, h⟩
 ·refine yF Ad W 23 7 rfl (XT.i0_ne_f c143) ?_
  refine yS Ad W 2 (9, [vR 1, vI x1, vI x2], [.int x1, .ref 1], (H1 s o e0)) rfl ?_
  obtain ⟨r147, hr147, h⟩ := be h
  refine callP W (a := 1) (as := [.int x1]) (rest := []) (w := (some (.int r147))) (σ₁ := (H1 s o e0)) rfl rfl rfl rfl rfl rfl rfl rfl (tF9 Ad W s e0 o x1 hr147) ?_
  rcases qite h with ⟨c148, h⟩ | ⟨c148, h⟩
  ·refine yT Ad W 23 15 rfl (XT.i0_eq_t c148) ?_
   refine yS Ad W 1 (24, [vR 1, vI x1, vI x2], [.int 0], (H1 s o e0)) rfl ?_
   obtain rfl := sj h
   exact retZ rfl rfl
  ·refine yF Ad W 23 15 rfl (XT.i0_eq_f c148) ?_
   refine yS Ad W 2 (17, [vR 1, vI x1, vI x2], [.int x2, .ref 1], (H1 s o e0)) rfl ?_
   obtain ⟨r149, hr149, h⟩ := be h
   refine callP W (a := 1) (as := [.int x2]) (rest := []) (w := (some (.int r149))) (σ₁ := (H1 s o e0)) rfl rfl rfl rfl rfl rfl rfl rfl (tF9 Ad W s e0 o x2 hr149) ?_
   rcases qite h with ⟨c150, h⟩ | ⟨c150, h⟩
   ·refine yF Ad W 25 23 rfl (XT.i0_ne_f c150) ?_
    refine yS Ad W 1 (24, [vR 1, vI x1, vI x2], [.int 0], (H1 s o e0)) rfl ?_
    obtain rfl := sj h
    exact retZ rfl rfl
   ·refine yT Ad W 25 23 rfl (XT.i0_ne_t c150) ?_
    refine yS Ad W 5 (30, [vR 1, vI x1, vI x2], [.int x2, .int 0, .int 1, .int x1, .ref 1], (H1 s o e0)) rfl ?_
    obtain ⟨r151, hr151, h⟩ := be h
    refine callP W (a := 1) (as := [.int x1, .int 1, .int 0, .int x2]) (rest := []) (w := none) (σ₁ := (H1 s r151 e0)) rfl rfl rfl rfl rfl rfl rfl rfl (tF7 Ad W s e0 o x1 (1:Int32) (0:Int32) x2 hr151) ?_
    refine yS Ad W 4 (39, [vR 1, vI x1, vI x2], [.int 0, .int x1, .ref 9], (H1 s r151 e0)) rfl ?_
    obtain ⟨y152, hy152, h⟩ := be h
    refine zB Ad W (f := fun y152 => (40, [vR 1, vI x1, vI x2], [], (H1x41 s r151 e0 y152))) rfl hy152 ?_
    refine yS Ad W 1 (41, [vR 1, vI x1, vI x2], [.ref 1], (H1x41 s r151 e0 y152)) rfl ?_
    have E153 : ((H1x41 s r151 e0 y152) : QHeap) = (H1 s (sH r151 y152) e0) := by simp only [fs, H1, H1v, H1x41, sH]
    rw [E153]
    obtain ⟨r154, hr154, h⟩ := be h
    refine callP W (a := 1) (as := []) (rest := []) (w := none) (σ₁ := (H1 s r154 e0)) rfl rfl rfl rfl rfl rfl rfl rfl (tF3 Ad W s e0 (sH r151 y152) hr154) ?_
    refine yS Ad W 1 (45, [vR 1, vI x1, vI x2], [.int 1], (H1 s r154 e0)) rfl ?_
    obtain rfl := sj h
    exact retZ rfl rfl
 ·refine yT Ad W 23 7 rfl (XT.i0_ne_t c143) ?_
  refine yS Ad W 1 (24, [vR 1, vI x1, vI x2], [.int 0], (H1 s o e0)) rfl ?_
  obtain rfl := sj h
  exact retZ rfl rfl
theorem tF10a1 (Ad : QAd n0 ad) (W : QW Z a0) (s : List Int32) (e0 o : Ob) (x1 x2 : Int32) {r : Int32 × Ob} (h : F10 o x1 x2 = some r) : QTri l Z n0 ad 10 (0, qentry [.ref 30, .int x1, .int x2] (pMaxL 10), [], (H1 s e0 o)) (some (Value.int r.1)) (H1 s e0 r.2) := zW (tF10 (zA Ad) W s e0 o x1 x2 h) rfl rfl rfl
def J0_285 (s : List Int32) (p0 p1 : Ob) (x3 x4 : Int32) (x5 x6 : Int32) : Option (((Int32 × Ob × Ob)) ⊕ (Int32 × Int32 × Ob × Ob)) :=
  some (.inr (x3, (x6 + (1 : Int32)), p0, p1))
theorem tJ0_285 (Ad : QAd n0 ad) (W : QW Z a0) (s : List Int32) (p0 p1 : Ob) (x3 x4 : Int32) (x5 x6 : Int32) {r : ((Int32 × Ob × Ob)) ⊕ (Int32 × Int32 × Ob × Ob)} {u : Option Value} {τ : QHeap} (h : J0_285 s p0 p1 x3 x4 x5 x6 = some r) (hx0 : ∀ x : Int32 × Ob × Ob, r = .inl x → QTri l Z n0 ad 0 (291, [vR 0, vR 1, vR 30, vI x.1, vI x4, vI x5, nN, nN, nN, nN, nN, nN, nN, nN, nN, nN, nN, nN, nN, nN, nN, nN, nN, nN, nN, nN, nN, nN, nN], [], (H1 s x.2.1 x.2.2)) u τ) (hc : ∀ x : Int32 × Int32 × Ob × Ob, r = .inr x → QTri l Z n0 ad 0 (163, [vR 0, vR 1, vR 30, vI x.1, vI x4, vI x5, vI x.2.1, nN, nN, nN, nN, nN, nN, nN, nN, nN, nN, nN, nN, nN, nN, nN, nN, nN, nN, nN, nN, nN, nN], [], (H1 s x.2.2.1 x.2.2.2)) u τ) : QTri l Z n0 ad 0 (285, [vR 0, vR 1, vR 30, vI x3, vI x4, vI x5, vI x6, nN, nN, nN, nN, nN, nN, nN, nN, nN, nN, nN, nN, nN, nN, nN, nN, nN, nN, nN, nN, nN, nN], [], (H1 s p0 p1)) u τ := by
 unfold J0_285 at h
 refine yS Ad W 2 (163, [vR 0, vR 1, vR 30, vI x3, vI x4, vI x5, vI (x6 + (1:Int32)), nN, nN, nN, nN, nN, nN, nN, nN, nN, nN, nN, nN, nN, nN, nN, nN, nN, nN, nN, nN, nN, nN], [], (H1 s p0 p1)) rfl ?_
 obtain rfl := sj h
 exact zM [tt,tt,tt,tt,tt,tt,tt,ff,ff,ff,ff,ff,ff,ff,ff,ff,ff,ff,ff,ff,ff,ff,ff,ff,ff,ff,ff,ff,ff] (hc (x3, (x6 + (1:Int32)), p0, p1) rfl)
/-- setBranch(IIII)Z -/
def F8 (o : Ob) (x1 x2 : Int32) (x3 x4 : Int32) : Option (Int32 × Ob) :=
 (if (fm o) = (0:Int32) then (F9 o x1).bind fun r171 => (if r171 = (0:Int32) then some ((0:Int32), o) else (if x2 < (0:Int32) then some ((0:Int32), o) else (if (15:Int32) < x2 then some ((0:Int32), o) else (F9 o x3).bind fun r175 => (if r175 = (0:Int32) then some ((0:Int32), o) else (F9 o x4).bind fun r177 => (if r177 = (0:Int32) then some ((0:Int32), o) else (F7 o x1 (2:Int32) x2 x3).bind fun r179 => (aset (fH r179) x1 x4).bind fun y180 => (F3 (sH r179 y180)).bind fun r182 => some ((1:Int32), r182)))))) else some ((0:Int32), o))
theorem tF8 (Ad : QAd n0 ad) (W : QW Z a0) (s : List Int32) (e0 o : Ob) (x1 x2 : Int32) (x3 x4 : Int32) {r : Int32 × Ob} (h : F8 o x1 x2 x3 x4 = some r) : QTri l Z n0 ad 8 (0, qentry [.ref 1, .int x1, .int x2, .int x3, .int x4] (pMaxL 8), [], (H1 s o e0)) (some (Value.int r.1)) (H1 s r.2 e0) := by
 unfold F8 at h
 refine yS Ad W 2 (4, [vR 1, vI x1, vI x2, vI x3, vI x4], [.int (fm o)], (H1 s o e0)) rfl ?_
 rcases qite h with ⟨c170, h⟩ | ⟨c170, h⟩
 ·refine yF Ad W 15 7 rfl (XT.i0_ne_f c170) ?_
  refine yS Ad W 2 (9, [vR 1, vI x1, vI x2, vI x3, vI x4], [.int x1, .ref 1], (H1 s o e0)) rfl ?_
  obtain ⟨r171, hr171, h⟩ := be h
  refine callP W (a := 1) (as := [.int x1]) (rest := []) (w := (some (.int r171))) (σ₁ := (H1 s o e0)) rfl rfl rfl rfl rfl rfl rfl rfl (tF9 Ad W s e0 o x1 hr171) ?_
  rcases qite h with ⟨c172, h⟩ | ⟨c172, h⟩
  ·refine yF Ad W 17 15 rfl (XT.i0_ne_f c172) ?_
   refine yS Ad W 1 (16, [vR 1, vI x1, vI x2, vI x3, vI x4], [.int 0], (H1 s o e0)) rfl ?_
   obtain rfl := sj h
   exact retZ rfl rfl
  ·refine yT Ad W 17 15 rfl (XT.i0_ne_t c172) ?_
   refine yS Ad W 1 (18, [vR 1, vI x1, vI x2, vI x3, vI x4], [.int x2], (H1 s o e0)) rfl ?_
   rcases qite h with ⟨c173, h⟩ | ⟨c173, h⟩
   ·refine yT Ad W 44 21 rfl (XT.i0_lt_t c173) ?_
    refine yS Ad W 1 (45, [vR 1, vI x1, vI x2, vI x3, vI x4], [.int 0], (H1 s o e0)) rfl ?_
    obtain rfl := sj h
    exact retZ rfl rfl
   ·refine yF Ad W 44 21 rfl (XT.i0_lt_f c173) ?_
    refine yS Ad W 2 (24, [vR 1, vI x1, vI x2, vI x3, vI x4], [.int 15, .int x2], (H1 s o e0)) rfl ?_
    rcases qite h with ⟨c174, h⟩ | ⟨c174, h⟩
    ·refine yT Ad W 44 27 rfl (XT.ii_gt_t c174) ?_
     refine yS Ad W 1 (45, [vR 1, vI x1, vI x2, vI x3, vI x4], [.int 0], (H1 s o e0)) rfl ?_
     obtain rfl := sj h
     exact retZ rfl rfl
    ·refine yF Ad W 44 27 rfl (XT.ii_gt_f c174) ?_
     refine yS Ad W 2 (29, [vR 1, vI x1, vI x2, vI x3, vI x4], [.int x3, .ref 1], (H1 s o e0)) rfl ?_
     obtain ⟨r175, hr175, h⟩ := be h
     refine callP W (a := 1) (as := [.int x3]) (rest := []) (w := (some (.int r175))) (σ₁ := (H1 s o e0)) rfl rfl rfl rfl rfl rfl rfl rfl (tF9 Ad W s e0 o x3 hr175) ?_
     rcases qite h with ⟨c176, h⟩ | ⟨c176, h⟩
     ·refine yT Ad W 44 35 rfl (XT.i0_eq_t c176) ?_
      refine yS Ad W 1 (45, [vR 1, vI x1, vI x2, vI x3, vI x4], [.int 0], (H1 s o e0)) rfl ?_
      obtain rfl := sj h
      exact retZ rfl rfl
     ·refine yF Ad W 44 35 rfl (XT.i0_eq_f c176) ?_
      refine yS Ad W 2 (38, [vR 1, vI x1, vI x2, vI x3, vI x4], [.int x4, .ref 1], (H1 s o e0)) rfl ?_
      obtain ⟨r177, hr177, h⟩ := be h
      refine callP W (a := 1) (as := [.int x4]) (rest := []) (w := (some (.int r177))) (σ₁ := (H1 s o e0)) rfl rfl rfl rfl rfl rfl rfl rfl (tF9 Ad W s e0 o x4 hr177) ?_
      rcases qite h with ⟨c178, h⟩ | ⟨c178, h⟩
      ·refine yF Ad W 46 44 rfl (XT.i0_ne_f c178) ?_
       refine yS Ad W 1 (45, [vR 1, vI x1, vI x2, vI x3, vI x4], [.int 0], (H1 s o e0)) rfl ?_
       obtain rfl := sj h
       exact retZ rfl rfl
      ·refine yT Ad W 46 44 rfl (XT.i0_ne_t c178) ?_
       refine yS Ad W 5 (51, [vR 1, vI x1, vI x2, vI x3, vI x4], [.int x3, .int x2, .int 2, .int x1, .ref 1], (H1 s o e0)) rfl ?_
       obtain ⟨r179, hr179, h⟩ := be h
       refine callP W (a := 1) (as := [.int x1, .int 2, .int x2, .int x3]) (rest := []) (w := none) (σ₁ := (H1 s r179 e0)) rfl rfl rfl rfl rfl rfl rfl rfl (tF7 Ad W s e0 o x1 (2:Int32) x2 x3 hr179) ?_
       refine yS Ad W 4 (61, [vR 1, vI x1, vI x2, vI x3, vI x4], [.int x4, .int x1, .ref 9], (H1 s r179 e0)) rfl ?_
       obtain ⟨y180, hy180, h⟩ := be h
       refine zB Ad W (f := fun y180 => (62, [vR 1, vI x1, vI x2, vI x3, vI x4], [], (H1x41 s r179 e0 y180))) rfl hy180 ?_
       refine yS Ad W 1 (63, [vR 1, vI x1, vI x2, vI x3, vI x4], [.ref 1], (H1x41 s r179 e0 y180)) rfl ?_
       have E181 : ((H1x41 s r179 e0 y180) : QHeap) = (H1 s (sH r179 y180) e0) := by simp only [fs, H1, H1v, H1x41, sH]
       rw [E181]
       obtain ⟨r182, hr182, h⟩ := be h
       refine callP W (a := 1) (as := []) (rest := []) (w := none) (σ₁ := (H1 s r182 e0)) rfl rfl rfl rfl rfl rfl rfl rfl (tF3 Ad W s e0 (sH r179 y180) hr182) ?_
       refine yS Ad W 1 (67, [vR 1, vI x1, vI x2, vI x3, vI x4], [.int 1], (H1 s r182 e0)) rfl ?_
       obtain rfl := sj h
       exact retZ rfl rfl
 ·refine yT Ad W 15 7 rfl (XT.i0_ne_t c170) ?_
  refine yS Ad W 1 (16, [vR 1, vI x1, vI x2, vI x3, vI x4], [.int 0], (H1 s o e0)) rfl ?_
  obtain rfl := sj h
  exact retZ rfl rfl
theorem tF8a1 (Ad : QAd n0 ad) (W : QW Z a0) (s : List Int32) (e0 o : Ob) (x1 x2 : Int32) (x3 x4 : Int32) {r : Int32 × Ob} (h : F8 o x1 x2 x3 x4 = some r) : QTri l Z n0 ad 8 (0, qentry [.ref 30, .int x1, .int x2, .int x3, .int x4] (pMaxL 8), [], (H1 s e0 o)) (some (Value.int r.1)) (H1 s e0 r.2) := zW (tF8 (zA Ad) W s e0 o x1 x2 x3 x4 h) rfl rfl rfl
def B0_163 (s : List Int32) (x4 x5 : Int32) (v : Int32 × Int32 × Ob × Ob) : Option (((Int32 × Ob × Ob)) ⊕ (Int32 × Int32 × Ob × Ob)) :=
  (if v.2.1 < x5 then (F4 s v.1).bind fun r134 => (F5 r134 (3 : Int32)).bind fun r135 => (F4 s (v.1 + (1 : Int32))).bind fun r136 => (F5 r136 (16 : Int32)).bind fun r137 => (F4 s (v.1 + (2 : Int32))).bind fun r138 => (F5 r138 x5).bind fun r139 => (F4 s (v.1 + (3 : Int32))).bind fun r140 => (F5 r140 x5).bind fun r141 => (if r135 = (1 : Int32) then (F10 v.2.2.1 v.2.1 r139).bind fun r155 => (F10 v.2.2.2 v.2.1 r139).bind fun r168 => (J0_285 s r155.2 r168.2 (v.1 + (4 : Int32)) x4 x5 v.2.1) else (if r135 = (2 : Int32) then (F8 v.2.2.1 v.2.1 r137 r139 r141).bind fun r183 => (F8 v.2.2.2 v.2.1 r137 r139 r141).bind fun r197 => (J0_285 s r183.2 r197.2 (v.1 + (4 : Int32)) x4 x5 v.2.1) else (J0_285 s v.2.2.1 v.2.2.2 (v.1 + (4 : Int32)) x4 x5 v.2.1))) else some (.inl (v.1, v.2.2.1, v.2.2.2)))
theorem tB0_163 (Ad : QAd n0 ad) (W : QW Z a0) (s : List Int32) (x4 x5 : Int32) (v : Int32 × Int32 × Ob × Ob) {r : ((Int32 × Ob × Ob)) ⊕ (Int32 × Int32 × Ob × Ob)} {u : Option Value} {τ : QHeap} (h : B0_163 s x4 x5 v = some r) (hx0 : ∀ x : Int32 × Ob × Ob, r = .inl x → QTri l Z n0 ad 0 (291, [vR 0, vR 1, vR 30, vI x.1, vI x4, vI x5, nN, nN, nN, nN, nN, nN, nN, nN, nN, nN, nN, nN, nN, nN, nN, nN, nN, nN, nN, nN, nN, nN, nN], [], (H1 s x.2.1 x.2.2)) u τ) (hc : ∀ x : Int32 × Int32 × Ob × Ob, r = .inr x → QTri l Z n0 ad 0 (163, [vR 0, vR 1, vR 30, vI x.1, vI x4, vI x5, vI x.2.1, nN, nN, nN, nN, nN, nN, nN, nN, nN, nN, nN, nN, nN, nN, nN, nN, nN, nN, nN, nN, nN, nN], [], (H1 s x.2.2.1 x.2.2.2)) u τ) : QTri l Z n0 ad 0 (163, [vR 0, vR 1, vR 30, vI v.1, vI x4, vI x5, vI v.2.1, nN, nN, nN, nN, nN, nN, nN, nN, nN, nN, nN, nN, nN, nN, nN, nN, nN, nN, nN, nN, nN, nN], [], (H1 s v.2.2.1 v.2.2.2)) u τ := by
 unfold B0_163 at h
 refine yS Ad W 2 (167, [vR 0, vR 1, vR 30, vI v.1, vI x4, vI x5, vI v.2.1, nN, nN, nN, nN, nN, nN, nN, nN, nN, nN, nN, nN, nN, nN, nN, nN, nN, nN, nN, nN, nN, nN], [.int x5, .int v.2.1], (H1 s v.2.2.1 v.2.2.2)) rfl ?_
 rcases qite h with ⟨c133, h⟩ | ⟨c133, h⟩
 ·refine yF Ad W 291 170 rfl (XT.ii_ge_f c133) ?_
  refine yS Ad W 2 (172, [vR 0, vR 1, vR 30, vI v.1, vI x4, vI x5, vI v.2.1, nN, nN, nN, nN, nN, nN, nN, nN, nN, nN, nN, nN, nN, nN, nN, nN, nN, nN, nN, nN, nN, nN], [.int v.1, .ref 0], (H1 s v.2.2.1 v.2.2.2)) rfl ?_
  obtain ⟨r134, hr134, h⟩ := be h
  refine callS W (as := [.ref 0, .int v.1]) (rest := []) (w := (some (.int r134))) (σ₁ := (H1 s v.2.2.1 v.2.2.2)) rfl rfl rfl rfl rfl rfl rfl (tF4 Ad W v.2.2.1 v.2.2.2 s v.1 hr134) ?_
  refine yS Ad W 1 (176, [vR 0, vR 1, vR 30, vI v.1, vI x4, vI x5, vI v.2.1, nN, nN, nN, nN, nN, nN, nN, nN, nN, nN, nN, nN, nN, nN, nN, nN, nN, nN, nN, nN, nN, nN], [.int 3, .int r134], (H1 s v.2.2.1 v.2.2.2)) rfl ?_
  obtain ⟨r135, hr135, h⟩ := be h
  refine callS W (as := [.int r134, .int 3]) (rest := []) (w := (some (.int r135))) (σ₁ := (H1 s v.2.2.1 v.2.2.2)) rfl rfl rfl rfl rfl rfl rfl (tF5 Ad W r134 (3:Int32) hr135) ?_
  refine yS Ad W 5 (185, [vR 0, vR 1, vR 30, vI v.1, vI x4, vI x5, vI v.2.1, vI r135, nN, nN, nN, nN, nN, nN, nN, nN, nN, nN, nN, nN, nN, nN, nN, nN, nN, nN, nN, nN, nN], [.int (v.1 + (1:Int32)), .ref 0], (H1 s v.2.2.1 v.2.2.2)) rfl ?_
  obtain ⟨r136, hr136, h⟩ := be h
  refine callS W (as := [.ref 0, .int (v.1 + (1:Int32))]) (rest := []) (w := (some (.int r136))) (σ₁ := (H1 s v.2.2.1 v.2.2.2)) rfl rfl rfl rfl rfl rfl rfl (tF4 Ad W v.2.2.1 v.2.2.2 s (v.1 + (1:Int32)) hr136) ?_
  refine yS Ad W 1 (190, [vR 0, vR 1, vR 30, vI v.1, vI x4, vI x5, vI v.2.1, vI r135, nN, nN, nN, nN, nN, nN, nN, nN, nN, nN, nN, nN, nN, nN, nN, nN, nN, nN, nN, nN, nN], [.int 16, .int r136], (H1 s v.2.2.1 v.2.2.2)) rfl ?_
  obtain ⟨r137, hr137, h⟩ := be h
  refine callS W (as := [.int r136, .int 16]) (rest := []) (w := (some (.int r137))) (σ₁ := (H1 s v.2.2.1 v.2.2.2)) rfl rfl rfl rfl rfl rfl rfl (tF5 Ad W r136 (16:Int32) hr137) ?_
  refine yS Ad W 5 (199, [vR 0, vR 1, vR 30, vI v.1, vI x4, vI x5, vI v.2.1, vI r135, vI r137, nN, nN, nN, nN, nN, nN, nN, nN, nN, nN, nN, nN, nN, nN, nN, nN, nN, nN, nN, nN], [.int (v.1 + (2:Int32)), .ref 0], (H1 s v.2.2.1 v.2.2.2)) rfl ?_
  obtain ⟨r138, hr138, h⟩ := be h
  refine callS W (as := [.ref 0, .int (v.1 + (2:Int32))]) (rest := []) (w := (some (.int r138))) (σ₁ := (H1 s v.2.2.1 v.2.2.2)) rfl rfl rfl rfl rfl rfl rfl (tF4 Ad W v.2.2.1 v.2.2.2 s (v.1 + (2:Int32)) hr138) ?_
  refine yS Ad W 1 (204, [vR 0, vR 1, vR 30, vI v.1, vI x4, vI x5, vI v.2.1, vI r135, vI r137, nN, nN, nN, nN, nN, nN, nN, nN, nN, nN, nN, nN, nN, nN, nN, nN, nN, nN, nN, nN], [.int x5, .int r138], (H1 s v.2.2.1 v.2.2.2)) rfl ?_
  obtain ⟨r139, hr139, h⟩ := be h
  refine callS W (as := [.int r138, .int x5]) (rest := []) (w := (some (.int r139))) (σ₁ := (H1 s v.2.2.1 v.2.2.2)) rfl rfl rfl rfl rfl rfl rfl (tF5 Ad W r138 x5 hr139) ?_
  refine yS Ad W 5 (213, [vR 0, vR 1, vR 30, vI v.1, vI x4, vI x5, vI v.2.1, vI r135, vI r137, vI r139, nN, nN, nN, nN, nN, nN, nN, nN, nN, nN, nN, nN, nN, nN, nN, nN, nN, nN, nN], [.int (v.1 + (3:Int32)), .ref 0], (H1 s v.2.2.1 v.2.2.2)) rfl ?_
  obtain ⟨r140, hr140, h⟩ := be h
  refine callS W (as := [.ref 0, .int (v.1 + (3:Int32))]) (rest := []) (w := (some (.int r140))) (σ₁ := (H1 s v.2.2.1 v.2.2.2)) rfl rfl rfl rfl rfl rfl rfl (tF4 Ad W v.2.2.1 v.2.2.2 s (v.1 + (3:Int32)) hr140) ?_
  refine yS Ad W 1 (218, [vR 0, vR 1, vR 30, vI v.1, vI x4, vI x5, vI v.2.1, vI r135, vI r137, vI r139, nN, nN, nN, nN, nN, nN, nN, nN, nN, nN, nN, nN, nN, nN, nN, nN, nN, nN, nN], [.int x5, .int r140], (H1 s v.2.2.1 v.2.2.2)) rfl ?_
  obtain ⟨r141, hr141, h⟩ := be h
  refine callS W (as := [.int r140, .int x5]) (rest := []) (w := (some (.int r141))) (σ₁ := (H1 s v.2.2.1 v.2.2.2)) rfl rfl rfl rfl rfl rfl rfl (tF5 Ad W r140 x5 hr141) ?_
  refine yS Ad W 4 (229, [vR 0, vR 1, vR 30, vI (v.1 + (4:Int32)), vI x4, vI x5, vI v.2.1, vI r135, vI r137, vI r139, vI r141, nN, nN, nN, nN, nN, nN, nN, nN, nN, nN, nN, nN, nN, nN, nN, nN, nN, nN], [.int 1, .int r135], (H1 s v.2.2.1 v.2.2.2)) rfl ?_
  rcases qite h with ⟨c142, h⟩ | ⟨c142, h⟩
  ·refine yF Ad W 253 232 rfl (XT.ii_ne_f c142) ?_
   refine yS Ad W 3 (237, [vR 0, vR 1, vR 30, vI (v.1 + (4:Int32)), vI x4, vI x5, vI v.2.1, vI r135, vI r137, vI r139, vI r141, nN, nN, nN, nN, nN, nN, nN, nN, nN, nN, nN, nN, nN, nN, nN, nN, nN, nN], [.int r139, .int v.2.1, .ref 1], (H1 s v.2.2.1 v.2.2.2)) rfl ?_
   obtain ⟨r155, hr155, h⟩ := be h
   refine callV W (a := 1) (as := [.int v.2.1, .int r139]) (rest := []) (w := (some (.int r155.1))) (σ₁ := (H1 s r155.2 v.2.2.2)) rfl rfl rfl rfl rfl rfl rfl rfl (tF10 Ad W s v.2.2.2 v.2.2.1 v.2.1 r139 hr155) ?_
   refine yS Ad W 4 (246, [vR 0, vR 1, vR 30, vI (v.1 + (4:Int32)), vI x4, vI x5, vI v.2.1, vI r135, vI r137, vI r139, vI r141, nN, nN, nN, nN, nN, nN, nN, nN, nN, nN, nN, nN, nN, nN, nN, nN, nN, nN], [.int r139, .int v.2.1, .ref 30], (H1 s r155.2 v.2.2.2)) rfl ?_
   obtain ⟨r168, hr168, h⟩ := be h
   refine callV W (a := 30) (as := [.int v.2.1, .int r139]) (rest := []) (w := (some (.int r168.1))) (σ₁ := (H1 s r155.2 r168.2)) rfl rfl rfl rfl rfl rfl rfl rfl (tF10a1 Ad W s r155.2 v.2.2.2 v.2.1 r139 hr168) ?_
   refine yS Ad W 2 (285, [vR 0, vR 1, vR 30, vI (v.1 + (4:Int32)), vI x4, vI x5, vI v.2.1, vI r135, vI r137, vI r139, vI r141, nN, nN, nN, nN, nN, nN, nN, nN, nN, nN, nN, nN, nN, nN, nN, nN, nN, nN], [], (H1 s r155.2 r168.2)) rfl ?_
   exact zM [tt,tt,tt,tt,tt,tt,tt,ff,ff,ff,ff,ff,ff,ff,ff,ff,ff,ff,ff,ff,ff,ff,ff,ff,ff,ff,ff,ff,ff] (tJ0_285 Ad W s r155.2 r168.2 (v.1 + (4:Int32)) x4 x5 v.2.1 h hx0 hc)
  ·refine yT Ad W 253 232 rfl (XT.ii_ne_t c142) ?_
   refine yS Ad W 2 (256, [vR 0, vR 1, vR 30, vI (v.1 + (4:Int32)), vI x4, vI x5, vI v.2.1, vI r135, vI r137, vI r139, vI r141, nN, nN, nN, nN, nN, nN, nN, nN, nN, nN, nN, nN, nN, nN, nN, nN, nN, nN], [.int 2, .int r135], (H1 s v.2.2.1 v.2.2.2)) rfl ?_
   rcases qite h with ⟨c169, h⟩ | ⟨c169, h⟩
   ·refine yF Ad W 285 259 rfl (XT.ii_ne_f c169) ?_
    refine yS Ad W 5 (268, [vR 0, vR 1, vR 30, vI (v.1 + (4:Int32)), vI x4, vI x5, vI v.2.1, vI r135, vI r137, vI r139, vI r141, nN, nN, nN, nN, nN, nN, nN, nN, nN, nN, nN, nN, nN, nN, nN, nN, nN, nN], [.int r141, .int r139, .int r137, .int v.2.1, .ref 1], (H1 s v.2.2.1 v.2.2.2)) rfl ?_
    obtain ⟨r183, hr183, h⟩ := be h
    refine callV W (a := 1) (as := [.int v.2.1, .int r137, .int r139, .int r141]) (rest := []) (w := (some (.int r183.1))) (σ₁ := (H1 s r183.2 v.2.2.2)) rfl rfl rfl rfl rfl rfl rfl rfl (tF8 Ad W s v.2.2.2 v.2.2.1 v.2.1 r137 r139 r141 hr183) ?_
    refine yS Ad W 6 (281, [vR 0, vR 1, vR 30, vI (v.1 + (4:Int32)), vI x4, vI x5, vI v.2.1, vI r135, vI r137, vI r139, vI r141, nN, nN, nN, nN, nN, nN, nN, nN, nN, nN, nN, nN, nN, nN, nN, nN, nN, nN], [.int r141, .int r139, .int r137, .int v.2.1, .ref 30], (H1 s r183.2 v.2.2.2)) rfl ?_
    obtain ⟨r197, hr197, h⟩ := be h
    refine callV W (a := 30) (as := [.int v.2.1, .int r137, .int r139, .int r141]) (rest := []) (w := (some (.int r197.1))) (σ₁ := (H1 s r183.2 r197.2)) rfl rfl rfl rfl rfl rfl rfl rfl (tF8a1 Ad W s r183.2 v.2.2.2 v.2.1 r137 r139 r141 hr197) ?_
    refine yS Ad W 1 (285, [vR 0, vR 1, vR 30, vI (v.1 + (4:Int32)), vI x4, vI x5, vI v.2.1, vI r135, vI r137, vI r139, vI r141, nN, nN, nN, nN, nN, nN, nN, nN, nN, nN, nN, nN, nN, nN, nN, nN, nN, nN], [], (H1 s r183.2 r197.2)) rfl ?_
    exact zM [tt,tt,tt,tt,tt,tt,tt,ff,ff,ff,ff,ff,ff,ff,ff,ff,ff,ff,ff,ff,ff,ff,ff,ff,ff,ff,ff,ff,ff] (tJ0_285 Ad W s r183.2 r197.2 (v.1 + (4:Int32)) x4 x5 v.2.1 h hx0 hc)
   ·refine yT Ad W 285 259 rfl (XT.ii_ne_t c169) ?_
    exact zM [tt,tt,tt,tt,tt,tt,tt,ff,ff,ff,ff,ff,ff,ff,ff,ff,ff,ff,ff,ff,ff,ff,ff,ff,ff,ff,ff,ff,ff] (tJ0_285 Ad W s v.2.2.1 v.2.2.2 (v.1 + (4:Int32)) x4 x5 v.2.1 h hx0 hc)
 ·refine yT Ad W 291 170 rfl (XT.ii_ge_t c133) ?_
  obtain rfl := sj h
  exact zM [tt,tt,tt,tt,tt,tt,ff,ff,ff,ff,ff,ff,ff,ff,ff,ff,ff,ff,ff,ff,ff,ff,ff,ff,ff,ff,ff,ff,ff] (hx0 (v.1, v.2.2.1, v.2.2.2) rfl)
/-- edgeCount(II)I -/
def F22 (o : Ob) (x1 x2 : Int32) : Option (Int32) :=
 (F9 o x1).bind fun r205 => (if r205 = (0:Int32) then some (0:Int32) else (if x2 = (0:Int32) then (aget (fI o) x1).bind fun y208 => some y208 else (if x2 = (1:Int32) then (aget (fJ o) x1).bind fun y210 => some y210 else some (0:Int32))))
theorem tF22 (Ad : QAd n0 ad) (W : QW Z a0) (s : List Int32) (e0 o : Ob) (x1 x2 : Int32) {r : Int32} (h : F22 o x1 x2 = some r) : QTri l Z n0 ad 22 (0, qentry [.ref 1, .int x1, .int x2] (pMaxL 22), [], (H1 s o e0)) (some (Value.int r)) (H1 s o e0) := by
 unfold F22 at h
 refine yS Ad W 2 (2, [vR 1, vI x1, vI x2], [.int x1, .ref 1], (H1 s o e0)) rfl ?_
 obtain ⟨r205, hr205, h⟩ := be h
 refine callP W (a := 1) (as := [.int x1]) (rest := []) (w := (some (.int r205))) (σ₁ := (H1 s o e0)) rfl rfl rfl rfl rfl rfl rfl rfl (tF9 Ad W s e0 o x1 hr205) ?_
 rcases qite h with ⟨c206, h⟩ | ⟨c206, h⟩
 ·refine yF Ad W 10 8 rfl (XT.i0_ne_f c206) ?_
  refine yS Ad W 1 (9, [vR 1, vI x1, vI x2], [.int 0], (H1 s o e0)) rfl ?_
  obtain rfl := sj h
  exact retI rfl rfl
 ·refine yT Ad W 10 8 rfl (XT.i0_ne_t c206) ?_
  refine yS Ad W 1 (11, [vR 1, vI x1, vI x2], [.int x2], (H1 s o e0)) rfl ?_
  rcases qite h with ⟨c207, h⟩ | ⟨c207, h⟩
  ·refine yF Ad W 21 14 rfl (XT.i0_ne_f c207) ?_
   refine yS Ad W 3 (19, [vR 1, vI x1, vI x2], [.int x1, .ref 10], (H1 s o e0)) rfl ?_
   obtain ⟨y208, hy208, h⟩ := be h
   refine zB Ad W (f := fun y208 => (20, [vR 1, vI x1, vI x2], [.int y208], (H1 s o e0))) rfl hy208 ?_
   obtain rfl := sj h
   exact retI rfl rfl
  ·refine yT Ad W 21 14 rfl (XT.i0_ne_t c207) ?_
   refine yS Ad W 2 (23, [vR 1, vI x1, vI x2], [.int 1, .int x2], (H1 s o e0)) rfl ?_
   rcases qite h with ⟨c209, h⟩ | ⟨c209, h⟩
   ·refine yF Ad W 33 26 rfl (XT.ii_ne_f c209) ?_
    refine yS Ad W 3 (31, [vR 1, vI x1, vI x2], [.int x1, .ref 11], (H1 s o e0)) rfl ?_
    obtain ⟨y210, hy210, h⟩ := be h
    refine zB Ad W (f := fun y210 => (32, [vR 1, vI x1, vI x2], [.int y210], (H1 s o e0))) rfl hy210 ?_
    obtain rfl := sj h
    exact retI rfl rfl
   ·refine yT Ad W 33 26 rfl (XT.ii_ne_t c209) ?_
    refine yS Ad W 1 (34, [vR 1, vI x1, vI x2], [.int 0], (H1 s o e0)) rfl ?_
    obtain rfl := sj h
    exact retI rfl rfl
def B0_356 (s : List Int32) (p0 p1 : Ob) (x3 x4 : Int32) (x5 x6 x24 : Int32) (v : Int64 × Int64 × Int64 × Int64 × Int64 × Int64 × Int64 × Int64 × Int32) : Option (((Int64 × Int64 × Int64 × Int64 × Int64 × Int64 × Int64 × Int64)) ⊕ (Int64 × Int64 × Int64 × Int64 × Int64 × Int64 × Int64 × Int64 × Int32)) :=
  (if v.2.2.2.2.2.2.2.2 < (8 : Int32) then (F22 p0 v.2.2.2.2.2.2.2.2 (0 : Int32)).bind fun r211 => (F22 p0 v.2.2.2.2.2.2.2.2 (1 : Int32)).bind fun r212 => some (.inr ((if v.2.2.2.2.2.2.2.2 = (0 : Int32) then (((r211.toInt64) &&& (4294967295 : Int64)) ||| ((r212.toInt64) <<< ((32 : Int32).toInt64 &&& 63))) else v.1), (if v.2.2.2.2.2.2.2.2 = (0 : Int32) then v.2.1 else (if v.2.2.2.2.2.2.2.2 = (1 : Int32) then (((r211.toInt64) &&& (4294967295 : Int64)) ||| ((r212.toInt64) <<< ((32 : Int32).toInt64 &&& 63))) else v.2.1)), (if v.2.2.2.2.2.2.2.2 = (0 : Int32) then v.2.2.1 else (if v.2.2.2.2.2.2.2.2 = (1 : Int32) then v.2.2.1 else (if v.2.2.2.2.2.2.2.2 = (2 : Int32) then (((r211.toInt64) &&& (4294967295 : Int64)) ||| ((r212.toInt64) <<< ((32 : Int32).toInt64 &&& 63))) else v.2.2.1))), (if v.2.2.2.2.2.2.2.2 = (0 : Int32) then v.2.2.2.1 else (if v.2.2.2.2.2.2.2.2 = (1 : Int32) then v.2.2.2.1 else (if v.2.2.2.2.2.2.2.2 = (2 : Int32) then v.2.2.2.1 else (if v.2.2.2.2.2.2.2.2 = (3 : Int32) then (((r211.toInt64) &&& (4294967295 : Int64)) ||| ((r212.toInt64) <<< ((32 : Int32).toInt64 &&& 63))) else v.2.2.2.1)))), (if v.2.2.2.2.2.2.2.2 = (0 : Int32) then v.2.2.2.2.1 else (if v.2.2.2.2.2.2.2.2 = (1 : Int32) then v.2.2.2.2.1 else (if v.2.2.2.2.2.2.2.2 = (2 : Int32) then v.2.2.2.2.1 else (if v.2.2.2.2.2.2.2.2 = (3 : Int32) then v.2.2.2.2.1 else (if v.2.2.2.2.2.2.2.2 = (4 : Int32) then (((r211.toInt64) &&& (4294967295 : Int64)) ||| ((r212.toInt64) <<< ((32 : Int32).toInt64 &&& 63))) else v.2.2.2.2.1))))), (if v.2.2.2.2.2.2.2.2 = (0 : Int32) then v.2.2.2.2.2.1 else (if v.2.2.2.2.2.2.2.2 = (1 : Int32) then v.2.2.2.2.2.1 else (if v.2.2.2.2.2.2.2.2 = (2 : Int32) then v.2.2.2.2.2.1 else (if v.2.2.2.2.2.2.2.2 = (3 : Int32) then v.2.2.2.2.2.1 else (if v.2.2.2.2.2.2.2.2 = (4 : Int32) then v.2.2.2.2.2.1 else (if v.2.2.2.2.2.2.2.2 = (5 : Int32) then (((r211.toInt64) &&& (4294967295 : Int64)) ||| ((r212.toInt64) <<< ((32 : Int32).toInt64 &&& 63))) else v.2.2.2.2.2.1)))))), (if v.2.2.2.2.2.2.2.2 = (0 : Int32) then v.2.2.2.2.2.2.1 else (if v.2.2.2.2.2.2.2.2 = (1 : Int32) then v.2.2.2.2.2.2.1 else (if v.2.2.2.2.2.2.2.2 = (2 : Int32) then v.2.2.2.2.2.2.1 else (if v.2.2.2.2.2.2.2.2 = (3 : Int32) then v.2.2.2.2.2.2.1 else (if v.2.2.2.2.2.2.2.2 = (4 : Int32) then v.2.2.2.2.2.2.1 else (if v.2.2.2.2.2.2.2.2 = (5 : Int32) then v.2.2.2.2.2.2.1 else (if v.2.2.2.2.2.2.2.2 = (6 : Int32) then (((r211.toInt64) &&& (4294967295 : Int64)) ||| ((r212.toInt64) <<< ((32 : Int32).toInt64 &&& 63))) else v.2.2.2.2.2.2.1))))))), (if v.2.2.2.2.2.2.2.2 = (0 : Int32) then v.2.2.2.2.2.2.2.1 else (if v.2.2.2.2.2.2.2.2 = (1 : Int32) then v.2.2.2.2.2.2.2.1 else (if v.2.2.2.2.2.2.2.2 = (2 : Int32) then v.2.2.2.2.2.2.2.1 else (if v.2.2.2.2.2.2.2.2 = (3 : Int32) then v.2.2.2.2.2.2.2.1 else (if v.2.2.2.2.2.2.2.2 = (4 : Int32) then v.2.2.2.2.2.2.2.1 else (if v.2.2.2.2.2.2.2.2 = (5 : Int32) then v.2.2.2.2.2.2.2.1 else (if v.2.2.2.2.2.2.2.2 = (6 : Int32) then v.2.2.2.2.2.2.2.1 else (((r211.toInt64) &&& (4294967295 : Int64)) ||| ((r212.toInt64) <<< ((32 : Int32).toInt64 &&& 63)))))))))), (v.2.2.2.2.2.2.2.2 + (1 : Int32)))) else some (.inl (v.1, v.2.1, v.2.2.1, v.2.2.2.1, v.2.2.2.2.1, v.2.2.2.2.2.1, v.2.2.2.2.2.2.1, v.2.2.2.2.2.2.2.1)))
theorem tB0_356 (Ad : QAd n0 ad) (W : QW Z a0) (s : List Int32) (p0 p1 : Ob) (x3 x4 : Int32) (x5 x6 x24 : Int32) (v : Int64 × Int64 × Int64 × Int64 × Int64 × Int64 × Int64 × Int64 × Int32) {r : ((Int64 × Int64 × Int64 × Int64 × Int64 × Int64 × Int64 × Int64)) ⊕ (Int64 × Int64 × Int64 × Int64 × Int64 × Int64 × Int64 × Int64 × Int32)} {u : Option Value} {τ : QHeap} (h : B0_356 s p0 p1 x3 x4 x5 x6 x24 v = some r) (hx0 : ∀ x : Int64 × Int64 × Int64 × Int64 × Int64 × Int64 × Int64 × Int64, r = .inl x → QTri l Z n0 ad 0 (490, [vR 0, vR 1, vR 30, vI x3, vI x4, vI x5, vI x6, vL x.1, nN, vL x.2.1, nN, vL x.2.2.1, nN, vL x.2.2.2.1, nN, vL x.2.2.2.2.1, nN, vL x.2.2.2.2.2.1, nN, vL x.2.2.2.2.2.2.1, nN, vL x.2.2.2.2.2.2.2, nN, nN, vI x24, nN, nN, nN, nN], [], (H1 s p0 p1)) u τ) (hc : ∀ x : Int64 × Int64 × Int64 × Int64 × Int64 × Int64 × Int64 × Int64 × Int32, r = .inr x → QTri l Z n0 ad 0 (356, [vR 0, vR 1, vR 30, vI x3, vI x4, vI x5, vI x6, vL x.1, nN, vL x.2.1, nN, vL x.2.2.1, nN, vL x.2.2.2.1, nN, vL x.2.2.2.2.1, nN, vL x.2.2.2.2.2.1, nN, vL x.2.2.2.2.2.2.1, nN, vL x.2.2.2.2.2.2.2.1, nN, nN, vI x24, vI x.2.2.2.2.2.2.2.2, nN, nN, nN], [], (H1 s p0 p1)) u τ) : QTri l Z n0 ad 0 (356, [vR 0, vR 1, vR 30, vI x3, vI x4, vI x5, vI x6, vL v.1, nN, vL v.2.1, nN, vL v.2.2.1, nN, vL v.2.2.2.1, nN, vL v.2.2.2.2.1, nN, vL v.2.2.2.2.2.1, nN, vL v.2.2.2.2.2.2.1, nN, vL v.2.2.2.2.2.2.2.1, nN, nN, vI x24, vI v.2.2.2.2.2.2.2.2, nN, nN, nN], [], (H1 s p0 p1)) u τ := by
 unfold B0_356 at h
 refine yS Ad W 2 (360, [vR 0, vR 1, vR 30, vI x3, vI x4, vI x5, vI x6, vL v.1, nN, vL v.2.1, nN, vL v.2.2.1, nN, vL v.2.2.2.1, nN, vL v.2.2.2.2.1, nN, vL v.2.2.2.2.2.1, nN, vL v.2.2.2.2.2.2.1, nN, vL v.2.2.2.2.2.2.2.1, nN, nN, vI x24, vI v.2.2.2.2.2.2.2.2, nN, nN, nN], [.int 8, .int v.2.2.2.2.2.2.2.2], (H1 s p0 p1)) rfl ?_
 rcases qite h with ⟨c204, h⟩ | ⟨c204, h⟩
 ·refine yF Ad W 490 363 rfl (XT.ii_ge_f c204) ?_
  refine yS Ad W 3 (367, [vR 0, vR 1, vR 30, vI x3, vI x4, vI x5, vI x6, vL v.1, nN, vL v.2.1, nN, vL v.2.2.1, nN, vL v.2.2.2.1, nN, vL v.2.2.2.2.1, nN, vL v.2.2.2.2.2.1, nN, vL v.2.2.2.2.2.2.1, nN, vL v.2.2.2.2.2.2.2.1, nN, nN, vI x24, vI v.2.2.2.2.2.2.2.2, nN, nN, nN], [.int 0, .int v.2.2.2.2.2.2.2.2, .ref 1], (H1 s p0 p1)) rfl ?_
  obtain ⟨r211, hr211, h⟩ := be h
  refine callV W (a := 1) (as := [.int v.2.2.2.2.2.2.2.2, .int 0]) (rest := []) (w := (some (.int r211))) (σ₁ := (H1 s p0 p1)) rfl rfl rfl rfl rfl rfl rfl rfl (tF22 Ad W s p1 p0 v.2.2.2.2.2.2.2.2 (0:Int32) hr211) ?_
  refine yS Ad W 6 (379, [vR 0, vR 1, vR 30, vI x3, vI x4, vI x5, vI x6, vL v.1, nN, vL v.2.1, nN, vL v.2.2.1, nN, vL v.2.2.2.1, nN, vL v.2.2.2.2.1, nN, vL v.2.2.2.2.2.1, nN, vL v.2.2.2.2.2.2.1, nN, vL v.2.2.2.2.2.2.2.1, nN, nN, vI x24, vI v.2.2.2.2.2.2.2.2, nN, nN, nN], [.int 1, .int v.2.2.2.2.2.2.2.2, .ref 1, .long ((r211.toInt64) &&& (4294967295 : Int64))], (H1 s p0 p1)) rfl ?_
  obtain ⟨r212, hr212, h⟩ := be h
  refine callV W (a := 1) (as := [.int v.2.2.2.2.2.2.2.2, .int 1]) (rest := [.long ((r211.toInt64) &&& (4294967295 : Int64))]) (w := (some (.int r212))) (σ₁ := (H1 s p0 p1)) rfl rfl rfl rfl rfl rfl rfl rfl (tF22 Ad W s p1 p0 v.2.2.2.2.2.2.2.2 (1:Int32) hr212) ?_
  refine yS Ad W 6 (391, [vR 0, vR 1, vR 30, vI x3, vI x4, vI x5, vI x6, vL v.1, nN, vL v.2.1, nN, vL v.2.2.1, nN, vL v.2.2.2.1, nN, vL v.2.2.2.2.1, nN, vL v.2.2.2.2.2.1, nN, vL v.2.2.2.2.2.2.1, nN, vL v.2.2.2.2.2.2.2.1, nN, nN, vI x24, vI v.2.2.2.2.2.2.2.2, vL (((r211.toInt64) &&& (4294967295 : Int64)) ||| ((r212.toInt64) <<< ((32:Int32).toInt64 &&& 63))), nN, nN], [.int v.2.2.2.2.2.2.2.2], (H1 s p0 p1)) rfl ?_
  have K221 : ∀ z213 : Int64, z213 = (if v.2.2.2.2.2.2.2.2 = (0:Int32) then (((r211.toInt64) &&& (4294967295 : Int64)) ||| ((r212.toInt64) <<< ((32:Int32).toInt64 &&& 63))) else v.1) → ∀ z214 : Int64, z214 = (if v.2.2.2.2.2.2.2.2 = (0:Int32) then v.2.1 else (if v.2.2.2.2.2.2.2.2 = (1:Int32) then (((r211.toInt64) &&& (4294967295 : Int64)) ||| ((r212.toInt64) <<< ((32:Int32).toInt64 &&& 63))) else v.2.1)) → ∀ z215 : Int64, z215 = (if v.2.2.2.2.2.2.2.2 = (0:Int32) then v.2.2.1 else (if v.2.2.2.2.2.2.2.2 = (1:Int32) then v.2.2.1 else (if v.2.2.2.2.2.2.2.2 = (2:Int32) then (((r211.toInt64) &&& (4294967295 : Int64)) ||| ((r212.toInt64) <<< ((32:Int32).toInt64 &&& 63))) else v.2.2.1))) → ∀ z216 : Int64, z216 = (if v.2.2.2.2.2.2.2.2 = (0:Int32) then v.2.2.2.1 else (if v.2.2.2.2.2.2.2.2 = (1:Int32) then v.2.2.2.1 else (if v.2.2.2.2.2.2.2.2 = (2:Int32) then v.2.2.2.1 else (if v.2.2.2.2.2.2.2.2 = (3:Int32) then (((r211.toInt64) &&& (4294967295 : Int64)) ||| ((r212.toInt64) <<< ((32:Int32).toInt64 &&& 63))) else v.2.2.2.1)))) → ∀ z217 : Int64, z217 = (if v.2.2.2.2.2.2.2.2 = (0:Int32) then v.2.2.2.2.1 else (if v.2.2.2.2.2.2.2.2 = (1:Int32) then v.2.2.2.2.1 else (if v.2.2.2.2.2.2.2.2 = (2:Int32) then v.2.2.2.2.1 else (if v.2.2.2.2.2.2.2.2 = (3:Int32) then v.2.2.2.2.1 else (if v.2.2.2.2.2.2.2.2 = (4:Int32) then (((r211.toInt64) &&& (4294967295 : Int64)) ||| ((r212.toInt64) <<< ((32:Int32).toInt64 &&& 63))) else v.2.2.2.2.1))))) → ∀ z218 : Int64, z218 = (if v.2.2.2.2.2.2.2.2 = (0:Int32) then v.2.2.2.2.2.1 else (if v.2.2.2.2.2.2.2.2 = (1:Int32) then v.2.2.2.2.2.1 else (if v.2.2.2.2.2.2.2.2 = (2:Int32) then v.2.2.2.2.2.1 else (if v.2.2.2.2.2.2.2.2 = (3:Int32) then v.2.2.2.2.2.1 else (if v.2.2.2.2.2.2.2.2 = (4:Int32) then v.2.2.2.2.2.1 else (if v.2.2.2.2.2.2.2.2 = (5:Int32) then (((r211.toInt64) &&& (4294967295 : Int64)) ||| ((r212.toInt64) <<< ((32:Int32).toInt64 &&& 63))) else v.2.2.2.2.2.1)))))) → ∀ z219 : Int64, z219 = (if v.2.2.2.2.2.2.2.2 = (0:Int32) then v.2.2.2.2.2.2.1 else (if v.2.2.2.2.2.2.2.2 = (1:Int32) then v.2.2.2.2.2.2.1 else (if v.2.2.2.2.2.2.2.2 = (2:Int32) then v.2.2.2.2.2.2.1 else (if v.2.2.2.2.2.2.2.2 = (3:Int32) then v.2.2.2.2.2.2.1 else (if v.2.2.2.2.2.2.2.2 = (4:Int32) then v.2.2.2.2.2.2.1 else (if v.2.2.2.2.2.2.2.2 = (5:Int32) then v.2.2.2.2.2.2.1 else (if v.2.2.2.2.2.2.2.2 = (6:Int32) then (((r211.toInt64) &&& (4294967295 : Int64)) ||| ((r212.toInt64) <<< ((32:Int32).toInt64 &&& 63))) else v.2.2.2.2.2.2.1))))))) → ∀ z220 : Int64, z220 = (if v.2.2.2.2.2.2.2.2 = (0:Int32) then v.2.2.2.2.2.2.2.1 else (if v.2.2.2.2.2.2.2.2 = (1:Int32) then v.2.2.2.2.2.2.2.1 else (if v.2.2.2.2.2.2.2.2 = (2:Int32) then v.2.2.2.2.2.2.2.1 else (if v.2.2.2.2.2.2.2.2 = (3:Int32) then v.2.2.2.2.2.2.2.1 else (if v.2.2.2.2.2.2.2.2 = (4:Int32) then v.2.2.2.2.2.2.2.1 else (if v.2.2.2.2.2.2.2.2 = (5:Int32) then v.2.2.2.2.2.2.2.1 else (if v.2.2.2.2.2.2.2.2 = (6:Int32) then v.2.2.2.2.2.2.2.1 else (((r211.toInt64) &&& (4294967295 : Int64)) ||| ((r212.toInt64) <<< ((32:Int32).toInt64 &&& 63)))))))))) → QTri l Z n0 ad 0 (484, [vR 0, vR 1, vR 30, vI x3, vI x4, vI x5, vI x6, vL z213, nN, vL z214, nN, vL z215, nN, vL z216, nN, vL z217, nN, vL z218, nN, vL z219, nN, vL z220, nN, nN, vI x24, vI v.2.2.2.2.2.2.2.2, nN, nN, nN], [], (H1 s p0 p1)) u τ := by
   intro z213 ez213
   intro z214 ez214
   intro z215 ez215
   intro z216 ez216
   intro z217 ez217
   intro z218 ez218
   intro z219 ez219
   intro z220 ez220
   subst ez213
   subst ez214
   subst ez215
   subst ez216
   subst ez217
   subst ez218
   subst ez219
   subst ez220
   refine yS Ad W 2 (356, [vR 0, vR 1, vR 30, vI x3, vI x4, vI x5, vI x6, vL (if v.2.2.2.2.2.2.2.2 = (0:Int32) then (((r211.toInt64) &&& (4294967295 : Int64)) ||| ((r212.toInt64) <<< ((32:Int32).toInt64 &&& 63))) else v.1), nN, vL (if v.2.2.2.2.2.2.2.2 = (0:Int32) then v.2.1 else (if v.2.2.2.2.2.2.2.2 = (1:Int32) then (((r211.toInt64) &&& (4294967295 : Int64)) ||| ((r212.toInt64) <<< ((32:Int32).toInt64 &&& 63))) else v.2.1)), nN, vL (if v.2.2.2.2.2.2.2.2 = (0:Int32) then v.2.2.1 else (if v.2.2.2.2.2.2.2.2 = (1:Int32) then v.2.2.1 else (if v.2.2.2.2.2.2.2.2 = (2:Int32) then (((r211.toInt64) &&& (4294967295 : Int64)) ||| ((r212.toInt64) <<< ((32:Int32).toInt64 &&& 63))) else v.2.2.1))), nN, vL (if v.2.2.2.2.2.2.2.2 = (0:Int32) then v.2.2.2.1 else (if v.2.2.2.2.2.2.2.2 = (1:Int32) then v.2.2.2.1 else (if v.2.2.2.2.2.2.2.2 = (2:Int32) then v.2.2.2.1 else (if v.2.2.2.2.2.2.2.2 = (3:Int32) then (((r211.toInt64) &&& (4294967295 : Int64)) ||| ((r212.toInt64) <<< ((32:Int32).toInt64 &&& 63))) else v.2.2.2.1)))), nN, vL (if v.2.2.2.2.2.2.2.2 = (0:Int32) then v.2.2.2.2.1 else (if v.2.2.2.2.2.2.2.2 = (1:Int32) then v.2.2.2.2.1 else (if v.2.2.2.2.2.2.2.2 = (2:Int32) then v.2.2.2.2.1 else (if v.2.2.2.2.2.2.2.2 = (3:Int32) then v.2.2.2.2.1 else (if v.2.2.2.2.2.2.2.2 = (4:Int32) then (((r211.toInt64) &&& (4294967295 : Int64)) ||| ((r212.toInt64) <<< ((32:Int32).toInt64 &&& 63))) else v.2.2.2.2.1))))), nN, vL (if v.2.2.2.2.2.2.2.2 = (0:Int32) then v.2.2.2.2.2.1 else (if v.2.2.2.2.2.2.2.2 = (1:Int32) then v.2.2.2.2.2.1 else (if v.2.2.2.2.2.2.2.2 = (2:Int32) then v.2.2.2.2.2.1 else (if v.2.2.2.2.2.2.2.2 = (3:Int32) then v.2.2.2.2.2.1 else (if v.2.2.2.2.2.2.2.2 = (4:Int32) then v.2.2.2.2.2.1 else (if v.2.2.2.2.2.2.2.2 = (5:Int32) then (((r211.toInt64) &&& (4294967295 : Int64)) ||| ((r212.toInt64) <<< ((32:Int32).toInt64 &&& 63))) else v.2.2.2.2.2.1)))))), nN, vL (if v.2.2.2.2.2.2.2.2 = (0:Int32) then v.2.2.2.2.2.2.1 else (if v.2.2.2.2.2.2.2.2 = (1:Int32) then v.2.2.2.2.2.2.1 else (if v.2.2.2.2.2.2.2.2 = (2:Int32) then v.2.2.2.2.2.2.1 else (if v.2.2.2.2.2.2.2.2 = (3:Int32) then v.2.2.2.2.2.2.1 else (if v.2.2.2.2.2.2.2.2 = (4:Int32) then v.2.2.2.2.2.2.1 else (if v.2.2.2.2.2.2.2.2 = (5:Int32) then v.2.2.2.2.2.2.1 else (if v.2.2.2.2.2.2.2.2 = (6:Int32) then (((r211.toInt64) &&& (4294967295 : Int64)) ||| ((r212.toInt64) <<< ((32:Int32).toInt64 &&& 63))) else v.2.2.2.2.2.2.1))))))), nN, vL (if v.2.2.2.2.2.2.2.2 = (0:Int32) then v.2.2.2.2.2.2.2.1 else (if v.2.2.2.2.2.2.2.2 = (1:Int32) then v.2.2.2.2.2.2.2.1 else (if v.2.2.2.2.2.2.2.2 = (2:Int32) then v.2.2.2.2.2.2.2.1 else (if v.2.2.2.2.2.2.2.2 = (3:Int32) then v.2.2.2.2.2.2.2.1 else (if v.2.2.2.2.2.2.2.2 = (4:Int32) then v.2.2.2.2.2.2.2.1 else (if v.2.2.2.2.2.2.2.2 = (5:Int32) then v.2.2.2.2.2.2.2.1 else (if v.2.2.2.2.2.2.2.2 = (6:Int32) then v.2.2.2.2.2.2.2.1 else (((r211.toInt64) &&& (4294967295 : Int64)) ||| ((r212.toInt64) <<< ((32:Int32).toInt64 &&& 63)))))))))), nN, nN, vI x24, vI (v.2.2.2.2.2.2.2.2 + (1:Int32)), nN, nN, nN], [], (H1 s p0 p1)) rfl ?_
   obtain rfl := sj h
   exact zM [tt,tt,tt,tt,tt,tt,tt,tt,ff,tt,ff,tt,ff,tt,ff,tt,ff,tt,ff,tt,ff,tt,ff,ff,tt,tt,ff,ff,ff] (hc ((if v.2.2.2.2.2.2.2.2 = (0:Int32) then (((r211.toInt64) &&& (4294967295 : Int64)) ||| ((r212.toInt64) <<< ((32:Int32).toInt64 &&& 63))) else v.1), (if v.2.2.2.2.2.2.2.2 = (0:Int32) then v.2.1 else (if v.2.2.2.2.2.2.2.2 = (1:Int32) then (((r211.toInt64) &&& (4294967295 : Int64)) ||| ((r212.toInt64) <<< ((32:Int32).toInt64 &&& 63))) else v.2.1)), (if v.2.2.2.2.2.2.2.2 = (0:Int32) then v.2.2.1 else (if v.2.2.2.2.2.2.2.2 = (1:Int32) then v.2.2.1 else (if v.2.2.2.2.2.2.2.2 = (2:Int32) then (((r211.toInt64) &&& (4294967295 : Int64)) ||| ((r212.toInt64) <<< ((32:Int32).toInt64 &&& 63))) else v.2.2.1))), (if v.2.2.2.2.2.2.2.2 = (0:Int32) then v.2.2.2.1 else (if v.2.2.2.2.2.2.2.2 = (1:Int32) then v.2.2.2.1 else (if v.2.2.2.2.2.2.2.2 = (2:Int32) then v.2.2.2.1 else (if v.2.2.2.2.2.2.2.2 = (3:Int32) then (((r211.toInt64) &&& (4294967295 : Int64)) ||| ((r212.toInt64) <<< ((32:Int32).toInt64 &&& 63))) else v.2.2.2.1)))), (if v.2.2.2.2.2.2.2.2 = (0:Int32) then v.2.2.2.2.1 else (if v.2.2.2.2.2.2.2.2 = (1:Int32) then v.2.2.2.2.1 else (if v.2.2.2.2.2.2.2.2 = (2:Int32) then v.2.2.2.2.1 else (if v.2.2.2.2.2.2.2.2 = (3:Int32) then v.2.2.2.2.1 else (if v.2.2.2.2.2.2.2.2 = (4:Int32) then (((r211.toInt64) &&& (4294967295 : Int64)) ||| ((r212.toInt64) <<< ((32:Int32).toInt64 &&& 63))) else v.2.2.2.2.1))))), (if v.2.2.2.2.2.2.2.2 = (0:Int32) then v.2.2.2.2.2.1 else (if v.2.2.2.2.2.2.2.2 = (1:Int32) then v.2.2.2.2.2.1 else (if v.2.2.2.2.2.2.2.2 = (2:Int32) then v.2.2.2.2.2.1 else (if v.2.2.2.2.2.2.2.2 = (3:Int32) then v.2.2.2.2.2.1 else (if v.2.2.2.2.2.2.2.2 = (4:Int32) then v.2.2.2.2.2.1 else (if v.2.2.2.2.2.2.2.2 = (5:Int32) then (((r211.toInt64) &&& (4294967295 : Int64)) ||| ((r212.toInt64) <<< ((32:Int32).toInt64 &&& 63))) else v.2.2.2.2.2.1)))))), (if v.2.2.2.2.2.2.2.2 = (0:Int32) then v.2.2.2.2.2.2.1 else (if v.2.2.2.2.2.2.2.2 = (1:Int32) then v.2.2.2.2.2.2.1 else (if v.2.2.2.2.2.2.2.2 = (2:Int32) then v.2.2.2.2.2.2.1 else (if v.2.2.2.2.2.2.2.2 = (3:Int32) then v.2.2.2.2.2.2.1 else (if v.2.2.2.2.2.2.2.2 = (4:Int32) then v.2.2.2.2.2.2.1 else (if v.2.2.2.2.2.2.2.2 = (5:Int32) then v.2.2.2.2.2.2.1 else (if v.2.2.2.2.2.2.2.2 = (6:Int32) then (((r211.toInt64) &&& (4294967295 : Int64)) ||| ((r212.toInt64) <<< ((32:Int32).toInt64 &&& 63))) else v.2.2.2.2.2.2.1))))))), (if v.2.2.2.2.2.2.2.2 = (0:Int32) then v.2.2.2.2.2.2.2.1 else (if v.2.2.2.2.2.2.2.2 = (1:Int32) then v.2.2.2.2.2.2.2.1 else (if v.2.2.2.2.2.2.2.2 = (2:Int32) then v.2.2.2.2.2.2.2.1 else (if v.2.2.2.2.2.2.2.2 = (3:Int32) then v.2.2.2.2.2.2.2.1 else (if v.2.2.2.2.2.2.2.2 = (4:Int32) then v.2.2.2.2.2.2.2.1 else (if v.2.2.2.2.2.2.2.2 = (5:Int32) then v.2.2.2.2.2.2.2.1 else (if v.2.2.2.2.2.2.2.2 = (6:Int32) then v.2.2.2.2.2.2.2.1 else (((r211.toInt64) &&& (4294967295 : Int64)) ||| ((r212.toInt64) <<< ((32:Int32).toInt64 &&& 63)))))))))), (v.2.2.2.2.2.2.2.2 + (1:Int32))) rfl)
  rcases em (v.2.2.2.2.2.2.2.2 = (0:Int32)) with c222 | c222
  ·refine yF Ad W 401 394 rfl (XT.i0_ne_f c222) ?_
   refine yS Ad W 3 (484, [vR 0, vR 1, vR 30, vI x3, vI x4, vI x5, vI x6, vL (((r211.toInt64) &&& (4294967295 : Int64)) ||| ((r212.toInt64) <<< ((32:Int32).toInt64 &&& 63))), nN, vL v.2.1, nN, vL v.2.2.1, nN, vL v.2.2.2.1, nN, vL v.2.2.2.2.1, nN, vL v.2.2.2.2.2.1, nN, vL v.2.2.2.2.2.2.1, nN, vL v.2.2.2.2.2.2.2.1, nN, nN, vI x24, vI v.2.2.2.2.2.2.2.2, vL (((r211.toInt64) &&& (4294967295 : Int64)) ||| ((r212.toInt64) <<< ((32:Int32).toInt64 &&& 63))), nN, nN], [], (H1 s p0 p1)) rfl ?_
   exact zM [tt,tt,tt,tt,tt,tt,tt,tt,ff,tt,ff,tt,ff,tt,ff,tt,ff,tt,ff,tt,ff,tt,ff,ff,tt,tt,ff,ff,ff] (K221 _ (if_pos c222).symm _ (if_pos c222).symm _ (if_pos c222).symm _ (if_pos c222).symm _ (if_pos c222).symm _ (if_pos c222).symm _ (if_pos c222).symm _ (if_pos c222).symm)
  ·refine yT Ad W 401 394 rfl (XT.i0_ne_t c222) ?_
   refine yS Ad W 2 (404, [vR 0, vR 1, vR 30, vI x3, vI x4, vI x5, vI x6, vL v.1, nN, vL v.2.1, nN, vL v.2.2.1, nN, vL v.2.2.2.1, nN, vL v.2.2.2.2.1, nN, vL v.2.2.2.2.2.1, nN, vL v.2.2.2.2.2.2.1, nN, vL v.2.2.2.2.2.2.2.1, nN, nN, vI x24, vI v.2.2.2.2.2.2.2.2, vL (((r211.toInt64) &&& (4294967295 : Int64)) ||| ((r212.toInt64) <<< ((32:Int32).toInt64 &&& 63))), nN, nN], [.int 1, .int v.2.2.2.2.2.2.2.2], (H1 s p0 p1)) rfl ?_
   rcases em (v.2.2.2.2.2.2.2.2 = (1:Int32)) with c223 | c223
   ·refine yF Ad W 414 407 rfl (XT.ii_ne_f c223) ?_
    refine yS Ad W 3 (484, [vR 0, vR 1, vR 30, vI x3, vI x4, vI x5, vI x6, vL v.1, nN, vL (((r211.toInt64) &&& (4294967295 : Int64)) ||| ((r212.toInt64) <<< ((32:Int32).toInt64 &&& 63))), nN, vL v.2.2.1, nN, vL v.2.2.2.1, nN, vL v.2.2.2.2.1, nN, vL v.2.2.2.2.2.1, nN, vL v.2.2.2.2.2.2.1, nN, vL v.2.2.2.2.2.2.2.1, nN, nN, vI x24, vI v.2.2.2.2.2.2.2.2, vL (((r211.toInt64) &&& (4294967295 : Int64)) ||| ((r212.toInt64) <<< ((32:Int32).toInt64 &&& 63))), nN, nN], [], (H1 s p0 p1)) rfl ?_
    exact zM [tt,tt,tt,tt,tt,tt,tt,tt,ff,tt,ff,tt,ff,tt,ff,tt,ff,tt,ff,tt,ff,tt,ff,ff,tt,tt,ff,ff,ff] (K221 _ (if_neg c222).symm _ ((if_neg c222).trans (if_pos c223)).symm _ ((if_neg c222).trans (if_pos c223)).symm _ ((if_neg c222).trans (if_pos c223)).symm _ ((if_neg c222).trans (if_pos c223)).symm _ ((if_neg c222).trans (if_pos c223)).symm _ ((if_neg c222).trans (if_pos c223)).symm _ ((if_neg c222).trans (if_pos c223)).symm)
   ·refine yT Ad W 414 407 rfl (XT.ii_ne_t c223) ?_
    refine yS Ad W 2 (417, [vR 0, vR 1, vR 30, vI x3, vI x4, vI x5, vI x6, vL v.1, nN, vL v.2.1, nN, vL v.2.2.1, nN, vL v.2.2.2.1, nN, vL v.2.2.2.2.1, nN, vL v.2.2.2.2.2.1, nN, vL v.2.2.2.2.2.2.1, nN, vL v.2.2.2.2.2.2.2.1, nN, nN, vI x24, vI v.2.2.2.2.2.2.2.2, vL (((r211.toInt64) &&& (4294967295 : Int64)) ||| ((r212.toInt64) <<< ((32:Int32).toInt64 &&& 63))), nN, nN], [.int 2, .int v.2.2.2.2.2.2.2.2], (H1 s p0 p1)) rfl ?_
    rcases em (v.2.2.2.2.2.2.2.2 = (2:Int32)) with c224 | c224
    ·refine yF Ad W 427 420 rfl (XT.ii_ne_f c224) ?_
     refine yS Ad W 3 (484, [vR 0, vR 1, vR 30, vI x3, vI x4, vI x5, vI x6, vL v.1, nN, vL v.2.1, nN, vL (((r211.toInt64) &&& (4294967295 : Int64)) ||| ((r212.toInt64) <<< ((32:Int32).toInt64 &&& 63))), nN, vL v.2.2.2.1, nN, vL v.2.2.2.2.1, nN, vL v.2.2.2.2.2.1, nN, vL v.2.2.2.2.2.2.1, nN, vL v.2.2.2.2.2.2.2.1, nN, nN, vI x24, vI v.2.2.2.2.2.2.2.2, vL (((r211.toInt64) &&& (4294967295 : Int64)) ||| ((r212.toInt64) <<< ((32:Int32).toInt64 &&& 63))), nN, nN], [], (H1 s p0 p1)) rfl ?_
     exact zM [tt,tt,tt,tt,tt,tt,tt,tt,ff,tt,ff,tt,ff,tt,ff,tt,ff,tt,ff,tt,ff,tt,ff,ff,tt,tt,ff,ff,ff] (K221 _ (if_neg c222).symm _ ((if_neg c222).trans (if_neg c223)).symm _ ((if_neg c222).trans ((if_neg c223).trans (if_pos c224))).symm _ ((if_neg c222).trans ((if_neg c223).trans (if_pos c224))).symm _ ((if_neg c222).trans ((if_neg c223).trans (if_pos c224))).symm _ ((if_neg c222).trans ((if_neg c223).trans (if_pos c224))).symm _ ((if_neg c222).trans ((if_neg c223).trans (if_pos c224))).symm _ ((if_neg c222).trans ((if_neg c223).trans (if_pos c224))).symm)
    ·refine yT Ad W 427 420 rfl (XT.ii_ne_t c224) ?_
     refine yS Ad W 2 (430, [vR 0, vR 1, vR 30, vI x3, vI x4, vI x5, vI x6, vL v.1, nN, vL v.2.1, nN, vL v.2.2.1, nN, vL v.2.2.2.1, nN, vL v.2.2.2.2.1, nN, vL v.2.2.2.2.2.1, nN, vL v.2.2.2.2.2.2.1, nN, vL v.2.2.2.2.2.2.2.1, nN, nN, vI x24, vI v.2.2.2.2.2.2.2.2, vL (((r211.toInt64) &&& (4294967295 : Int64)) ||| ((r212.toInt64) <<< ((32:Int32).toInt64 &&& 63))), nN, nN], [.int 3, .int v.2.2.2.2.2.2.2.2], (H1 s p0 p1)) rfl ?_
     rcases em (v.2.2.2.2.2.2.2.2 = (3:Int32)) with c225 | c225
     ·refine yF Ad W 440 433 rfl (XT.ii_ne_f c225) ?_
      refine yS Ad W 3 (484, [vR 0, vR 1, vR 30, vI x3, vI x4, vI x5, vI x6, vL v.1, nN, vL v.2.1, nN, vL v.2.2.1, nN, vL (((r211.toInt64) &&& (4294967295 : Int64)) ||| ((r212.toInt64) <<< ((32:Int32).toInt64 &&& 63))), nN, vL v.2.2.2.2.1, nN, vL v.2.2.2.2.2.1, nN, vL v.2.2.2.2.2.2.1, nN, vL v.2.2.2.2.2.2.2.1, nN, nN, vI x24, vI v.2.2.2.2.2.2.2.2, vL (((r211.toInt64) &&& (4294967295 : Int64)) ||| ((r212.toInt64) <<< ((32:Int32).toInt64 &&& 63))), nN, nN], [], (H1 s p0 p1)) rfl ?_
      exact zM [tt,tt,tt,tt,tt,tt,tt,tt,ff,tt,ff,tt,ff,tt,ff,tt,ff,tt,ff,tt,ff,tt,ff,ff,tt,tt,ff,ff,ff] (K221 _ (if_neg c222).symm _ ((if_neg c222).trans (if_neg c223)).symm _ ((if_neg c222).trans ((if_neg c223).trans (if_neg c224))).symm _ ((if_neg c222).trans ((if_neg c223).trans ((if_neg c224).trans (if_pos c225)))).symm _ ((if_neg c222).trans ((if_neg c223).trans ((if_neg c224).trans (if_pos c225)))).symm _ ((if_neg c222).trans ((if_neg c223).trans ((if_neg c224).trans (if_pos c225)))).symm _ ((if_neg c222).trans ((if_neg c223).trans ((if_neg c224).trans (if_pos c225)))).symm _ ((if_neg c222).trans ((if_neg c223).trans ((if_neg c224).trans (if_pos c225)))).symm)
     ·refine yT Ad W 440 433 rfl (XT.ii_ne_t c225) ?_
      refine yS Ad W 2 (443, [vR 0, vR 1, vR 30, vI x3, vI x4, vI x5, vI x6, vL v.1, nN, vL v.2.1, nN, vL v.2.2.1, nN, vL v.2.2.2.1, nN, vL v.2.2.2.2.1, nN, vL v.2.2.2.2.2.1, nN, vL v.2.2.2.2.2.2.1, nN, vL v.2.2.2.2.2.2.2.1, nN, nN, vI x24, vI v.2.2.2.2.2.2.2.2, vL (((r211.toInt64) &&& (4294967295 : Int64)) ||| ((r212.toInt64) <<< ((32:Int32).toInt64 &&& 63))), nN, nN], [.int 4, .int v.2.2.2.2.2.2.2.2], (H1 s p0 p1)) rfl ?_
      rcases em (v.2.2.2.2.2.2.2.2 = (4:Int32)) with c226 | c226
      ·refine yF Ad W 453 446 rfl (XT.ii_ne_f c226) ?_
       refine yS Ad W 3 (484, [vR 0, vR 1, vR 30, vI x3, vI x4, vI x5, vI x6, vL v.1, nN, vL v.2.1, nN, vL v.2.2.1, nN, vL v.2.2.2.1, nN, vL (((r211.toInt64) &&& (4294967295 : Int64)) ||| ((r212.toInt64) <<< ((32:Int32).toInt64 &&& 63))), nN, vL v.2.2.2.2.2.1, nN, vL v.2.2.2.2.2.2.1, nN, vL v.2.2.2.2.2.2.2.1, nN, nN, vI x24, vI v.2.2.2.2.2.2.2.2, vL (((r211.toInt64) &&& (4294967295 : Int64)) ||| ((r212.toInt64) <<< ((32:Int32).toInt64 &&& 63))), nN, nN], [], (H1 s p0 p1)) rfl ?_
       exact zM [tt,tt,tt,tt,tt,tt,tt,tt,ff,tt,ff,tt,ff,tt,ff,tt,ff,tt,ff,tt,ff,tt,ff,ff,tt,tt,ff,ff,ff] (K221 _ (if_neg c222).symm _ ((if_neg c222).trans (if_neg c223)).symm _ ((if_neg c222).trans ((if_neg c223).trans (if_neg c224))).symm _ ((if_neg c222).trans ((if_neg c223).trans ((if_neg c224).trans (if_neg c225)))).symm _ ((if_neg c222).trans ((if_neg c223).trans ((if_neg c224).trans ((if_neg c225).trans (if_pos c226))))).symm _ ((if_neg c222).trans ((if_neg c223).trans ((if_neg c224).trans ((if_neg c225).trans (if_pos c226))))).symm _ ((if_neg c222).trans ((if_neg c223).trans ((if_neg c224).trans ((if_neg c225).trans (if_pos c226))))).symm _ ((if_neg c222).trans ((if_neg c223).trans ((if_neg c224).trans ((if_neg c225).trans (if_pos c226))))).symm)
      ·refine yT Ad W 453 446 rfl (XT.ii_ne_t c226) ?_
       refine yS Ad W 2 (456, [vR 0, vR 1, vR 30, vI x3, vI x4, vI x5, vI x6, vL v.1, nN, vL v.2.1, nN, vL v.2.2.1, nN, vL v.2.2.2.1, nN, vL v.2.2.2.2.1, nN, vL v.2.2.2.2.2.1, nN, vL v.2.2.2.2.2.2.1, nN, vL v.2.2.2.2.2.2.2.1, nN, nN, vI x24, vI v.2.2.2.2.2.2.2.2, vL (((r211.toInt64) &&& (4294967295 : Int64)) ||| ((r212.toInt64) <<< ((32:Int32).toInt64 &&& 63))), nN, nN], [.int 5, .int v.2.2.2.2.2.2.2.2], (H1 s p0 p1)) rfl ?_
       rcases em (v.2.2.2.2.2.2.2.2 = (5:Int32)) with c227 | c227
       ·refine yF Ad W 466 459 rfl (XT.ii_ne_f c227) ?_
        refine yS Ad W 3 (484, [vR 0, vR 1, vR 30, vI x3, vI x4, vI x5, vI x6, vL v.1, nN, vL v.2.1, nN, vL v.2.2.1, nN, vL v.2.2.2.1, nN, vL v.2.2.2.2.1, nN, vL (((r211.toInt64) &&& (4294967295 : Int64)) ||| ((r212.toInt64) <<< ((32:Int32).toInt64 &&& 63))), nN, vL v.2.2.2.2.2.2.1, nN, vL v.2.2.2.2.2.2.2.1, nN, nN, vI x24, vI v.2.2.2.2.2.2.2.2, vL (((r211.toInt64) &&& (4294967295 : Int64)) ||| ((r212.toInt64) <<< ((32:Int32).toInt64 &&& 63))), nN, nN], [], (H1 s p0 p1)) rfl ?_
        exact zM [tt,tt,tt,tt,tt,tt,tt,tt,ff,tt,ff,tt,ff,tt,ff,tt,ff,tt,ff,tt,ff,tt,ff,ff,tt,tt,ff,ff,ff] (K221 _ (if_neg c222).symm _ ((if_neg c222).trans (if_neg c223)).symm _ ((if_neg c222).trans ((if_neg c223).trans (if_neg c224))).symm _ ((if_neg c222).trans ((if_neg c223).trans ((if_neg c224).trans (if_neg c225)))).symm _ ((if_neg c222).trans ((if_neg c223).trans ((if_neg c224).trans ((if_neg c225).trans (if_neg c226))))).symm _ ((if_neg c222).trans ((if_neg c223).trans ((if_neg c224).trans ((if_neg c225).trans ((if_neg c226).trans (if_pos c227)))))).symm _ ((if_neg c222).trans ((if_neg c223).trans ((if_neg c224).trans ((if_neg c225).trans ((if_neg c226).trans (if_pos c227)))))).symm _ ((if_neg c222).trans ((if_neg c223).trans ((if_neg c224).trans ((if_neg c225).trans ((if_neg c226).trans (if_pos c227)))))).symm)
       ·refine yT Ad W 466 459 rfl (XT.ii_ne_t c227) ?_
        refine yS Ad W 2 (470, [vR 0, vR 1, vR 30, vI x3, vI x4, vI x5, vI x6, vL v.1, nN, vL v.2.1, nN, vL v.2.2.1, nN, vL v.2.2.2.1, nN, vL v.2.2.2.2.1, nN, vL v.2.2.2.2.2.1, nN, vL v.2.2.2.2.2.2.1, nN, vL v.2.2.2.2.2.2.2.1, nN, nN, vI x24, vI v.2.2.2.2.2.2.2.2, vL (((r211.toInt64) &&& (4294967295 : Int64)) ||| ((r212.toInt64) <<< ((32:Int32).toInt64 &&& 63))), nN, nN], [.int 6, .int v.2.2.2.2.2.2.2.2], (H1 s p0 p1)) rfl ?_
        rcases em (v.2.2.2.2.2.2.2.2 = (6:Int32)) with c228 | c228
        ·refine yF Ad W 480 473 rfl (XT.ii_ne_f c228) ?_
         refine yS Ad W 3 (484, [vR 0, vR 1, vR 30, vI x3, vI x4, vI x5, vI x6, vL v.1, nN, vL v.2.1, nN, vL v.2.2.1, nN, vL v.2.2.2.1, nN, vL v.2.2.2.2.1, nN, vL v.2.2.2.2.2.1, nN, vL (((r211.toInt64) &&& (4294967295 : Int64)) ||| ((r212.toInt64) <<< ((32:Int32).toInt64 &&& 63))), nN, vL v.2.2.2.2.2.2.2.1, nN, nN, vI x24, vI v.2.2.2.2.2.2.2.2, vL (((r211.toInt64) &&& (4294967295 : Int64)) ||| ((r212.toInt64) <<< ((32:Int32).toInt64 &&& 63))), nN, nN], [], (H1 s p0 p1)) rfl ?_
         exact zM [tt,tt,tt,tt,tt,tt,tt,tt,ff,tt,ff,tt,ff,tt,ff,tt,ff,tt,ff,tt,ff,tt,ff,ff,tt,tt,ff,ff,ff] (K221 _ (if_neg c222).symm _ ((if_neg c222).trans (if_neg c223)).symm _ ((if_neg c222).trans ((if_neg c223).trans (if_neg c224))).symm _ ((if_neg c222).trans ((if_neg c223).trans ((if_neg c224).trans (if_neg c225)))).symm _ ((if_neg c222).trans ((if_neg c223).trans ((if_neg c224).trans ((if_neg c225).trans (if_neg c226))))).symm _ ((if_neg c222).trans ((if_neg c223).trans ((if_neg c224).trans ((if_neg c225).trans ((if_neg c226).trans (if_neg c227)))))).symm _ ((if_neg c222).trans ((if_neg c223).trans ((if_neg c224).trans ((if_neg c225).trans ((if_neg c226).trans ((if_neg c227).trans (if_pos c228))))))).symm _ ((if_neg c222).trans ((if_neg c223).trans ((if_neg c224).trans ((if_neg c225).trans ((if_neg c226).trans ((if_neg c227).trans (if_pos c228))))))).symm)
        ·refine yT Ad W 480 473 rfl (XT.ii_ne_t c228) ?_
         refine yS Ad W 2 (484, [vR 0, vR 1, vR 30, vI x3, vI x4, vI x5, vI x6, vL v.1, nN, vL v.2.1, nN, vL v.2.2.1, nN, vL v.2.2.2.1, nN, vL v.2.2.2.2.1, nN, vL v.2.2.2.2.2.1, nN, vL v.2.2.2.2.2.2.1, nN, vL (((r211.toInt64) &&& (4294967295 : Int64)) ||| ((r212.toInt64) <<< ((32:Int32).toInt64 &&& 63))), nN, nN, vI x24, vI v.2.2.2.2.2.2.2.2, vL (((r211.toInt64) &&& (4294967295 : Int64)) ||| ((r212.toInt64) <<< ((32:Int32).toInt64 &&& 63))), nN, nN], [], (H1 s p0 p1)) rfl ?_
         exact zM [tt,tt,tt,tt,tt,tt,tt,tt,ff,tt,ff,tt,ff,tt,ff,tt,ff,tt,ff,tt,ff,tt,ff,ff,tt,tt,ff,ff,ff] (K221 _ (if_neg c222).symm _ ((if_neg c222).trans (if_neg c223)).symm _ ((if_neg c222).trans ((if_neg c223).trans (if_neg c224))).symm _ ((if_neg c222).trans ((if_neg c223).trans ((if_neg c224).trans (if_neg c225)))).symm _ ((if_neg c222).trans ((if_neg c223).trans ((if_neg c224).trans ((if_neg c225).trans (if_neg c226))))).symm _ ((if_neg c222).trans ((if_neg c223).trans ((if_neg c224).trans ((if_neg c225).trans ((if_neg c226).trans (if_neg c227)))))).symm _ ((if_neg c222).trans ((if_neg c223).trans ((if_neg c224).trans ((if_neg c225).trans ((if_neg c226).trans ((if_neg c227).trans (if_neg c228))))))).symm _ ((if_neg c222).trans ((if_neg c223).trans ((if_neg c224).trans ((if_neg c225).trans ((if_neg c226).trans ((if_neg c227).trans (if_neg c228))))))).symm)
 ·refine yT Ad W 490 363 rfl (XT.ii_ge_t c204) ?_
  obtain rfl := sj h
  exact zM [tt,tt,tt,tt,tt,tt,tt,tt,ff,tt,ff,tt,ff,tt,ff,tt,ff,tt,ff,tt,ff,tt,ff,ff,tt,ff,ff,ff,ff] (hx0 (v.1, v.2.1, v.2.2.1, v.2.2.2.1, v.2.2.2.2.1, v.2.2.2.2.2.1, v.2.2.2.2.2.2.1, v.2.2.2.2.2.2.2.1) rfl)
def H1x52 (s : List Int32) (o0 o1 : Ob) (a0_35 : Int32) : QHeap := H1v s (fA o0) (fB o0) (fC o0) (fD o0) (fE o0) (fF o0) (fG o0) (fH o0) (fI o0) (fJ o0) (fK o0) (fL o0) (fM o0) (fO o0) (fP o0) (fQ o0) (fR o0) (fT o0) (fU o0) (fV o0) (fW o0) (fX o0) (fY o0) (fZ o0) (fa o0) (fb o0) (fc o0) (fd o0) (fe o0) (fh o0) (fi o0) (fm o0) (fo o0) (fp o0) (fq o0) a0_35 (fA o1) (fB o1) (fC o1) (fD o1) (fE o1) (fF o1) (fG o1) (fH o1) (fI o1) (fJ o1) (fK o1) (fL o1) (fM o1) (fO o1) (fP o1) (fQ o1) (fR o1) (fT o1) (fU o1) (fV o1) (fW o1) (fX o1) (fY o1) (fZ o1) (fa o1) (fb o1) (fc o1) (fd o1) (fe o1) (fh o1) (fi o1) (fm o1) (fo o1) (fp o1) (fq o1) (fr o1)
def H1x53 (s : List Int32) (o0 o1 : Ob) (a0_17 : List Int32) : QHeap := H1v s (fA o0) (fB o0) (fC o0) (fD o0) (fE o0) (fF o0) (fG o0) (fH o0) (fI o0) (fJ o0) (fK o0) (fL o0) (fM o0) (fO o0) (fP o0) (fQ o0) (fR o0) a0_17 (fU o0) (fV o0) (fW o0) (fX o0) (fY o0) (fZ o0) (fa o0) (fb o0) (fc o0) (fd o0) (fe o0) (fh o0) (fi o0) (fm o0) (fo o0) (fp o0) (fq o0) (fr o0) (fA o1) (fB o1) (fC o1) (fD o1) (fE o1) (fF o1) (fG o1) (fH o1) (fI o1) (fJ o1) (fK o1) (fL o1) (fM o1) (fO o1) (fP o1) (fQ o1) (fR o1) (fT o1) (fU o1) (fV o1) (fW o1) (fX o1) (fY o1) (fZ o1) (fa o1) (fb o1) (fc o1) (fd o1) (fe o1) (fh o1) (fi o1) (fm o1) (fo o1) (fp o1) (fq o1) (fr o1)
def B24_7 (v : Int32 × Ob) : Option (((Ob)) ⊕ (Int32 × Ob)) :=
  (if v.1 < (16 : Int32) then (aset (fT v.2) v.1 (0 : Int32)).bind fun y235 => some (.inr ((v.1 + (1 : Int32)), (sT v.2 y235))) else some (.inl v.2))
theorem tB24_7 (Ad : QAd n0 ad) (W : QW Z a0) (s : List Int32) (e0 : Ob) (v : Int32 × Ob) {r : ((Ob)) ⊕ (Int32 × Ob)} {u : Option Value} {τ : QHeap} (h : B24_7 v = some r) (hx0 : ∀ x : Ob, r = .inl x → QTri l Z n0 ad 24 (26, [vR 1, nN, nN], [], (H1 s x e0)) u τ) (hc : ∀ x : Int32 × Ob, r = .inr x → QTri l Z n0 ad 24 (7, [vR 1, vI x.1, nN], [], (H1 s x.2 e0)) u τ) : QTri l Z n0 ad 24 (7, [vR 1, vI v.1, nN], [], (H1 s v.2 e0)) u τ := by
 unfold B24_7 at h
 refine yS Ad W 2 (10, [vR 1, vI v.1, nN], [.int 16, .int v.1], (H1 s v.2 e0)) rfl ?_
 rcases qite h with ⟨c234, h⟩ | ⟨c234, h⟩
 ·refine yF Ad W 26 13 rfl (XT.ii_ge_f c234) ?_
  refine yS Ad W 4 (19, [vR 1, vI v.1, nN], [.int 0, .int v.1, .ref 19], (H1 s v.2 e0)) rfl ?_
  obtain ⟨y235, hy235, h⟩ := be h
  refine zB Ad W (f := fun y235 => (20, [vR 1, vI v.1, nN], [], (H1x53 s v.2 e0 y235))) rfl hy235 ?_
  refine yS Ad W 2 (7, [vR 1, vI (v.1 + (1:Int32)), nN], [], (H1x53 s v.2 e0 y235)) rfl ?_
  have E236 : ((H1x53 s v.2 e0 y235) : QHeap) = (H1 s (sT v.2 y235) e0) := by simp only [fs, H1, H1v, H1x53, sT]
  rw [E236]
  obtain rfl := sj h
  exact zM [tt,tt,ff] (hc ((v.1 + (1:Int32)), (sT v.2 y235)) rfl)
 ·refine yT Ad W 26 13 rfl (XT.ii_ge_t c234) ?_
  obtain rfl := sj h
  exact zM [tt,ff,ff] (hx0 v.2 rfl)
def H1x54 (s : List Int32) (o0 o1 : Ob) (a0_12 : List Int32) : QHeap := H1v s (fA o0) (fB o0) (fC o0) (fD o0) (fE o0) (fF o0) (fG o0) (fH o0) (fI o0) (fJ o0) (fK o0) (fL o0) a0_12 (fO o0) (fP o0) (fQ o0) (fR o0) (fT o0) (fU o0) (fV o0) (fW o0) (fX o0) (fY o0) (fZ o0) (fa o0) (fb o0) (fc o0) (fd o0) (fe o0) (fh o0) (fi o0) (fm o0) (fo o0) (fp o0) (fq o0) (fr o0) (fA o1) (fB o1) (fC o1) (fD o1) (fE o1) (fF o1) (fG o1) (fH o1) (fI o1) (fJ o1) (fK o1) (fL o1) (fM o1) (fO o1) (fP o1) (fQ o1) (fR o1) (fT o1) (fU o1) (fV o1) (fW o1) (fX o1) (fY o1) (fZ o1) (fa o1) (fb o1) (fc o1) (fd o1) (fe o1) (fh o1) (fi o1) (fm o1) (fo o1) (fp o1) (fq o1) (fr o1)
def H1x55 (s : List Int32) (o0 o1 : Ob) (a0_12 a0_13 : List Int32) : QHeap := H1v s (fA o0) (fB o0) (fC o0) (fD o0) (fE o0) (fF o0) (fG o0) (fH o0) (fI o0) (fJ o0) (fK o0) (fL o0) a0_12 a0_13 (fP o0) (fQ o0) (fR o0) (fT o0) (fU o0) (fV o0) (fW o0) (fX o0) (fY o0) (fZ o0) (fa o0) (fb o0) (fc o0) (fd o0) (fe o0) (fh o0) (fi o0) (fm o0) (fo o0) (fp o0) (fq o0) (fr o0) (fA o1) (fB o1) (fC o1) (fD o1) (fE o1) (fF o1) (fG o1) (fH o1) (fI o1) (fJ o1) (fK o1) (fL o1) (fM o1) (fO o1) (fP o1) (fQ o1) (fR o1) (fT o1) (fU o1) (fV o1) (fW o1) (fX o1) (fY o1) (fZ o1) (fa o1) (fb o1) (fc o1) (fd o1) (fe o1) (fh o1) (fi o1) (fm o1) (fo o1) (fp o1) (fq o1) (fr o1)
def H1x56 (s : List Int32) (o0 o1 : Ob) (a0_12 a0_13 : List Int32) (a0_35 : Int32) : QHeap := H1v s (fA o0) (fB o0) (fC o0) (fD o0) (fE o0) (fF o0) (fG o0) (fH o0) (fI o0) (fJ o0) (fK o0) (fL o0) a0_12 a0_13 (fP o0) (fQ o0) (fR o0) (fT o0) (fU o0) (fV o0) (fW o0) (fX o0) (fY o0) (fZ o0) (fa o0) (fb o0) (fc o0) (fd o0) (fe o0) (fh o0) (fi o0) (fm o0) (fo o0) (fp o0) (fq o0) a0_35 (fA o1) (fB o1) (fC o1) (fD o1) (fE o1) (fF o1) (fG o1) (fH o1) (fI o1) (fJ o1) (fK o1) (fL o1) (fM o1) (fO o1) (fP o1) (fQ o1) (fR o1) (fT o1) (fU o1) (fV o1) (fW o1) (fX o1) (fY o1) (fZ o1) (fa o1) (fb o1) (fc o1) (fd o1) (fe o1) (fh o1) (fi o1) (fm o1) (fo o1) (fp o1) (fq o1) (fr o1)
def J25_31 (o : Ob) (x1 x2 : Int32) (x3 x4 : Int32) : Option (Ob) :=
  (if (0 : Int32) < x4 then (if x3 = x1 then some o else (if (fr o) < (32 : Int32) then (aset (fM o) (fr o) ((x1 * (2 : Int32)) + x2)).bind fun y254 => (aset (fO o) (fr o) x4).bind fun y255 => some (sr (sO (sM o y254) y255) ((fr o) + (1 : Int32))) else some o)) else some o)
theorem tJ25_31 (Ad : QAd n0 ad) (W : QW Z a0) (s : List Int32) (e0 o : Ob) (x1 x2 : Int32) (x3 x4 : Int32) {r : Ob} (h : J25_31 o x1 x2 x3 x4 = some r) : QTri l Z n0 ad 25 (31, [vR 1, vI x1, vI x2, vI x3, vI x4], [], (H1 s o e0)) (none : Option Value) (H1 s r e0) := by
 unfold J25_31 at h
 refine yS Ad W 1 (33, [vR 1, vI x1, vI x2, vI x3, vI x4], [.int x4], (H1 s o e0)) rfl ?_
 rcases qite h with ⟨c251, h⟩ | ⟨c251, h⟩
 ·refine yF Ad W 50 36 rfl (XT.i0_le_f c251) ?_
  refine yS Ad W 2 (38, [vR 1, vI x1, vI x2, vI x3, vI x4], [.int x1, .int x3], (H1 s o e0)) rfl ?_
  rcases qite h with ⟨c252, h⟩ | ⟨c252, h⟩
  ·refine yT Ad W 50 41 rfl (XT.ii_eq_t c252) ?_
   obtain rfl := sj h
   exact ret0 rfl rfl
  ·refine yF Ad W 50 41 rfl (XT.ii_eq_f c252) ?_
   refine yS Ad W 3 (47, [vR 1, vI x1, vI x2, vI x3, vI x4], [.int 32, .int (fr o)], (H1 s o e0)) rfl ?_
   rcases qite h with ⟨c253, h⟩ | ⟨c253, h⟩
   ·refine yT Ad W 51 50 rfl (XT.ii_lt_t c253) ?_
    refine yS Ad W 9 (64, [vR 1, vI x1, vI x2, vI x3, vI x4], [.int ((x1 * (2:Int32)) + x2), .int (fr o), .ref 14], (H1 s o e0)) rfl ?_
    obtain ⟨y254, hy254, h⟩ := be h
    refine zB Ad W (f := fun y254 => (65, [vR 1, vI x1, vI x2, vI x3, vI x4], [], (H1x54 s o e0 y254))) rfl hy254 ?_
    refine yS Ad W 5 (75, [vR 1, vI x1, vI x2, vI x3, vI x4], [.int x4, .int (fr o), .ref 15], (H1x54 s o e0 y254)) rfl ?_
    obtain ⟨y255, hy255, h⟩ := be h
    refine zB Ad W (f := fun y255 => (76, [vR 1, vI x1, vI x2, vI x3, vI x4], [], (H1x55 s o e0 y254 y255))) rfl hy255 ?_
    refine yS Ad W 6 (86, [vR 1, vI x1, vI x2, vI x3, vI x4], [], (H1x56 s o e0 y254 y255 ((fr o) + (1:Int32)))) rfl ?_
    have E256 : ((H1x56 s o e0 y254 y255 ((fr o) + (1:Int32))) : QHeap) = (H1 s (sr (sO (sM o y254) y255) ((fr o) + (1:Int32))) e0) := by simp only [fs, H1, H1v, H1x56, sM, sO, sr]
    rw [E256]
    obtain rfl := sj h
    exact ret0 rfl rfl
   ·refine yF Ad W 51 50 rfl (XT.ii_lt_f c253) ?_
    obtain rfl := sj h
    exact ret0 rfl rfl
 ·refine yT Ad W 50 36 rfl (XT.i0_le_t c251) ?_
  obtain rfl := sj h
  exact ret0 rfl rfl
/-- addEdge(IIII)V -/
def F25 (o : Ob) (x1 x2 : Int32) (x3 x4 : Int32) : Option (Ob) :=
 (if x3 < (0:Int32) then some o else (if x3 < (16:Int32) then (if (0:Int32) < x4 then (aget (fT o) x3).bind fun y248 => (aset (fT o) x3 (y248 + x4)).bind fun y249 => (J25_31 (sT o y249) x1 x2 x3 x4) else (J25_31 o x1 x2 x3 x4)) else some o))
theorem tF25 (Ad : QAd n0 ad) (W : QW Z a0) (s : List Int32) (e0 o : Ob) (x1 x2 : Int32) (x3 x4 : Int32) {r : Ob} (h : F25 o x1 x2 x3 x4 = some r) : QTri l Z n0 ad 25 (0, qentry [.ref 1, .int x1, .int x2, .int x3, .int x4] (pMaxL 25), [], (H1 s o e0)) (none : Option Value) (H1 s r e0) := by
 unfold F25 at h
 refine yS Ad W 1 (1, [vR 1, vI x1, vI x2, vI x3, vI x4], [.int x3], (H1 s o e0)) rfl ?_
 rcases qite h with ⟨c245, h⟩ | ⟨c245, h⟩
 ·refine yT Ad W 10 4 rfl (XT.i0_lt_t c245) ?_
  obtain rfl := sj h
  exact ret0 rfl rfl
 ·refine yF Ad W 10 4 rfl (XT.i0_lt_f c245) ?_
  refine yS Ad W 2 (7, [vR 1, vI x1, vI x2, vI x3, vI x4], [.int 16, .int x3], (H1 s o e0)) rfl ?_
  rcases qite h with ⟨c246, h⟩ | ⟨c246, h⟩
  ·refine yT Ad W 11 10 rfl (XT.ii_lt_t c246) ?_
   refine yS Ad W 1 (13, [vR 1, vI x1, vI x2, vI x3, vI x4], [.int x4], (H1 s o e0)) rfl ?_
   rcases qite h with ⟨c247, h⟩ | ⟨c247, h⟩
   ·refine yF Ad W 31 16 rfl (XT.i0_le_f c247) ?_
    refine yS Ad W 6 (26, [vR 1, vI x1, vI x2, vI x3, vI x4], [.int x3, .ref 19, .int x3, .ref 19], (H1 s o e0)) rfl ?_
    obtain ⟨y248, hy248, h⟩ := be h
    refine zB Ad W (f := fun y248 => (27, [vR 1, vI x1, vI x2, vI x3, vI x4], [.int y248, .int x3, .ref 19], (H1 s o e0))) rfl hy248 ?_
    refine yS Ad W 2 (30, [vR 1, vI x1, vI x2, vI x3, vI x4], [.int (y248 + x4), .int x3, .ref 19], (H1 s o e0)) rfl ?_
    obtain ⟨y249, hy249, h⟩ := be h
    refine zB Ad W (f := fun y249 => (31, [vR 1, vI x1, vI x2, vI x3, vI x4], [], (H1x53 s o e0 y249))) rfl hy249 ?_
    have E250 : ((H1x53 s o e0 y249) : QHeap) = (H1 s (sT o y249) e0) := by simp only [fs, H1, H1v, H1x53, sT]
    rw [E250]
    exact zM [tt,tt,tt,tt,tt] (tJ25_31 Ad W s e0 (sT o y249) x1 x2 x3 x4 h)
   ·refine yT Ad W 31 16 rfl (XT.i0_le_t c247) ?_
    exact zM [tt,tt,tt,tt,tt] (tJ25_31 Ad W s e0 o x1 x2 x3 x4 h)
  ·refine yF Ad W 11 10 rfl (XT.ii_lt_f c246) ?_
   obtain rfl := sj h
   exact ret0 rfl rfl
def J24_100 (o : Ob) (x1 : Int32) : Option (((Ob)) ⊕ (Int32 × Ob)) :=
  some (.inr ((x1 + (1 : Int32)), o))
theorem tJ24_100 (Ad : QAd n0 ad) (W : QW Z a0) (s : List Int32) (e0 o : Ob) (x1 : Int32) {r : ((Ob)) ⊕ (Int32 × Ob)} {u : Option Value} {τ : QHeap} (h : J24_100 o x1 = some r) (hx0 : ∀ x : Ob, r = .inl x → u = (none : Option Value) ∧ τ = (H1 s x e0)) (hc : ∀ x : Int32 × Ob, r = .inr x → QTri l Z n0 ad 24 (28, [vR 1, vI x.1, nN], [], (H1 s x.2 e0)) u τ) : QTri l Z n0 ad 24 (100, [vR 1, vI x1, nN], [], (H1 s o e0)) u τ := by
 unfold J24_100 at h
 refine yS Ad W 2 (28, [vR 1, vI (x1 + (1:Int32)), nN], [], (H1 s o e0)) rfl ?_
 obtain rfl := sj h
 exact zM [tt,tt,ff] (hc ((x1 + (1:Int32)), o) rfl)
def J24_77 (o : Ob) (x1 x2 : Int32) : Option (((Ob)) ⊕ (Int32 × Ob)) :=
  (if x2 = (2 : Int32) then (aget (fH o) x1).bind fun y259 => (aget (fJ o) x1).bind fun y260 => (F25 o x1 (1 : Int32) y259 y260).bind fun r261 => (J24_100 r261 x1) else (J24_100 o x1))
theorem tJ24_77 (Ad : QAd n0 ad) (W : QW Z a0) (s : List Int32) (e0 o : Ob) (x1 x2 : Int32) {r : ((Ob)) ⊕ (Int32 × Ob)} {u : Option Value} {τ : QHeap} (h : J24_77 o x1 x2 = some r) (hx0 : ∀ x : Ob, r = .inl x → u = (none : Option Value) ∧ τ = (H1 s x e0)) (hc : ∀ x : Int32 × Ob, r = .inr x → QTri l Z n0 ad 24 (28, [vR 1, vI x.1, nN], [], (H1 s x.2 e0)) u τ) : QTri l Z n0 ad 24 (77, [vR 1, vI x1, vI x2], [], (H1 s o e0)) u τ := by
 unfold J24_77 at h
 refine yS Ad W 2 (79, [vR 1, vI x1, vI x2], [.int 2, .int x2], (H1 s o e0)) rfl ?_
 rcases qite h with ⟨c258, h⟩ | ⟨c258, h⟩
 ·refine yF Ad W 100 82 rfl (XT.ii_ne_f c258) ?_
  refine yS Ad W 6 (90, [vR 1, vI x1, vI x2], [.int x1, .ref 9, .int 1, .int x1, .ref 1], (H1 s o e0)) rfl ?_
  obtain ⟨y259, hy259, h⟩ := be h
  refine zB Ad W (f := fun y259 => (91, [vR 1, vI x1, vI x2], [.int y259, .int 1, .int x1, .ref 1], (H1 s o e0))) rfl hy259 ?_
  refine yS Ad W 3 (96, [vR 1, vI x1, vI x2], [.int x1, .ref 11, .int y259, .int 1, .int x1, .ref 1], (H1 s o e0)) rfl ?_
  obtain ⟨y260, hy260, h⟩ := be h
  refine zB Ad W (f := fun y260 => (97, [vR 1, vI x1, vI x2], [.int y260, .int y259, .int 1, .int x1, .ref 1], (H1 s o e0))) rfl hy260 ?_
  obtain ⟨r261, hr261, h⟩ := be h
  refine callP W (a := 1) (as := [.int x1, .int 1, .int y259, .int y260]) (rest := []) (w := none) (σ₁ := (H1 s r261 e0)) rfl rfl rfl rfl rfl rfl rfl rfl (tF25 Ad W s e0 o x1 (1:Int32) y259 y260 hr261) ?_
  exact zM [tt,tt,ff] (tJ24_100 Ad W s e0 r261 x1 h hx0 hc)
 ·refine yT Ad W 100 82 rfl (XT.ii_ne_t c258) ?_
  exact zM [tt,tt,ff] (tJ24_100 Ad W s e0 o x1 h hx0 hc)
def J24_59 (o : Ob) (x1 x2 : Int32) : Option (((Ob)) ⊕ (Int32 × Ob)) :=
  (aget (fG o) x1).bind fun y243 => (aget (fI o) x1).bind fun y244 => (F25 o x1 (0 : Int32) y243 y244).bind fun r257 => (J24_77 r257 x1 x2)
theorem tJ24_59 (Ad : QAd n0 ad) (W : QW Z a0) (s : List Int32) (e0 o : Ob) (x1 x2 : Int32) {r : ((Ob)) ⊕ (Int32 × Ob)} {u : Option Value} {τ : QHeap} (h : J24_59 o x1 x2 = some r) (hx0 : ∀ x : Ob, r = .inl x → u = (none : Option Value) ∧ τ = (H1 s x e0)) (hc : ∀ x : Int32 × Ob, r = .inr x → QTri l Z n0 ad 24 (28, [vR 1, vI x.1, nN], [], (H1 s x.2 e0)) u τ) : QTri l Z n0 ad 24 (59, [vR 1, vI x1, vI x2], [], (H1 s o e0)) u τ := by
 unfold J24_59 at h
 refine yS Ad W 6 (67, [vR 1, vI x1, vI x2], [.int x1, .ref 8, .int 0, .int x1, .ref 1], (H1 s o e0)) rfl ?_
 obtain ⟨y243, hy243, h⟩ := be h
 refine zB Ad W (f := fun y243 => (68, [vR 1, vI x1, vI x2], [.int y243, .int 0, .int x1, .ref 1], (H1 s o e0))) rfl hy243 ?_
 refine yS Ad W 3 (73, [vR 1, vI x1, vI x2], [.int x1, .ref 10, .int y243, .int 0, .int x1, .ref 1], (H1 s o e0)) rfl ?_
 obtain ⟨y244, hy244, h⟩ := be h
 refine zB Ad W (f := fun y244 => (74, [vR 1, vI x1, vI x2], [.int y244, .int y243, .int 0, .int x1, .ref 1], (H1 s o e0))) rfl hy244 ?_
 obtain ⟨r257, hr257, h⟩ := be h
 refine callP W (a := 1) (as := [.int x1, .int 0, .int y243, .int y244]) (rest := []) (w := none) (σ₁ := (H1 s r257 e0)) rfl rfl rfl rfl rfl rfl rfl rfl (tF25 Ad W s e0 o x1 (0:Int32) y243 y244 hr257) ?_
 exact zM [tt,tt,tt] (tJ24_77 Ad W s e0 r257 x1 x2 h hx0 hc)
def B24_28 (v : Int32 × Ob) : Option (((Ob)) ⊕ (Int32 × Ob)) :=
  (if v.1 < (fi v.2) then (if v.1 < (16 : Int32) then (aget (fE v.2) v.1).bind fun y241 => (if y241 = (1 : Int32) then (J24_59 v.2 v.1 y241) else (if y241 = (2 : Int32) then (J24_59 v.2 v.1 y241) else (J24_77 v.2 v.1 y241))) else some (.inl v.2)) else some (.inl v.2))
theorem tB24_28 (Ad : QAd n0 ad) (W : QW Z a0) (s : List Int32) (e0 : Ob) (v : Int32 × Ob) {r : ((Ob)) ⊕ (Int32 × Ob)} {u : Option Value} {τ : QHeap} (h : B24_28 v = some r) (hx0 : ∀ x : Ob, r = .inl x → u = (none : Option Value) ∧ τ = (H1 s x e0)) (hc : ∀ x : Int32 × Ob, r = .inr x → QTri l Z n0 ad 24 (28, [vR 1, vI x.1, nN], [], (H1 s x.2 e0)) u τ) : QTri l Z n0 ad 24 (28, [vR 1, vI v.1, nN], [], (H1 s v.2 e0)) u τ := by
 unfold B24_28 at h
 refine yS Ad W 3 (33, [vR 1, vI v.1, nN], [.int (fi v.2), .int v.1], (H1 s v.2 e0)) rfl ?_
 rcases qite h with ⟨c239, h⟩ | ⟨c239, h⟩
 ·refine yF Ad W 106 36 rfl (XT.ii_ge_f c239) ?_
  refine yS Ad W 2 (39, [vR 1, vI v.1, nN], [.int 16, .int v.1], (H1 s v.2 e0)) rfl ?_
  rcases qite h with ⟨c240, h⟩ | ⟨c240, h⟩
  ·refine yF Ad W 106 42 rfl (XT.ii_ge_f c240) ?_
   refine yS Ad W 3 (47, [vR 1, vI v.1, nN], [.int v.1, .ref 6], (H1 s v.2 e0)) rfl ?_
   obtain ⟨y241, hy241, h⟩ := be h
   refine zB Ad W (f := fun y241 => (48, [vR 1, vI v.1, nN], [.int y241], (H1 s v.2 e0))) rfl hy241 ?_
   refine yS Ad W 3 (51, [vR 1, vI v.1, vI y241], [.int 1, .int y241], (H1 s v.2 e0)) rfl ?_
   rcases qite h with ⟨c242, h⟩ | ⟨c242, h⟩
   ·refine yT Ad W 59 54 rfl (XT.ii_eq_t c242) ?_
    exact zM [tt,tt,tt] (tJ24_59 Ad W s e0 v.2 v.1 y241 h hx0 hc)
   ·refine yF Ad W 59 54 rfl (XT.ii_eq_f c242) ?_
    refine yS Ad W 2 (56, [vR 1, vI v.1, vI y241], [.int 2, .int y241], (H1 s v.2 e0)) rfl ?_
    rcases qite h with ⟨c262, h⟩ | ⟨c262, h⟩
    ·refine yF Ad W 77 59 rfl (XT.ii_ne_f c262) ?_
     exact zM [tt,tt,tt] (tJ24_59 Ad W s e0 v.2 v.1 y241 h hx0 hc)
    ·refine yT Ad W 77 59 rfl (XT.ii_ne_t c262) ?_
     exact zM [tt,tt,tt] (tJ24_77 Ad W s e0 v.2 v.1 y241 h hx0 hc)
  ·refine yT Ad W 106 42 rfl (XT.ii_ge_t c240) ?_
   obtain rfl := sj h
   obtain ⟨rfl, rfl⟩ := hx0 v.2 rfl
   exact ret0 rfl rfl
 ·refine yT Ad W 106 36 rfl (XT.ii_ge_t c239) ?_
  obtain rfl := sj h
  obtain ⟨rfl, rfl⟩ := hx0 v.2 rfl
  exact ret0 rfl rfl
/-- collectEdges()V -/
def F24 (o : Ob) : Option (Ob) :=
 (loopN (B24_7) qN ((0:Int32), (sr o (0:Int32)))).bind fun e237 => (loopN (B24_28) qN ((0:Int32), e237)).bind fun e263 => some e263
theorem tF24 (Ad : QAd n0 ad) (W : QW Z a0) (s : List Int32) (e0 o : Ob) {r : Ob} (h : F24 o = some r) : QTri l Z n0 ad 24 (0, qentry [.ref 1] (pMaxL 24), [], (H1 s o e0)) (none : Option Value) (H1 s r e0) := by
 unfold F24 at h
 refine yS Ad W 3 (5, [vR 1, nN, nN], [], (H1x52 s o e0 (0:Int32))) rfl ?_
 refine yS Ad W 2 (7, [vR 1, vI 0, nN], [], (H1x52 s o e0 (0:Int32))) rfl ?_
 have E233 : ((H1x52 s o e0 (0:Int32)) : QHeap) = (H1 s (sr o (0:Int32)) e0) := by simp only [fs, H1, H1v, H1x52, sr]
 rw [E233]
 obtain ⟨e237, he237, h⟩ := be h
 refine zM [tt,tt,ff] (loopN_tri (B := B24_7) (T := fun lv238 => QTri l Z n0 ad 24 (7, [vR 1, vI lv238.1, nN], [], (H1 s lv238.2 e0)) (none : Option Value) (H1 s r e0)) (KE := fun e237a => QTri l Z n0 ad 24 (26, [vR 1, nN, nN], [], (H1 s e237a e0)) (none : Option Value) (H1 s r e0)) (fun lv238 r hB hE hC => tB24_7 Ad W s e0 lv238 hB (fun x q => hE _ q) (fun x q => hC x q)) qN ((0:Int32), (sr o (0:Int32))) e237 he237 ?_)
 refine yS Ad W 2 (28, [vR 1, vI 0, nN], [], (H1 s e237 e0)) rfl ?_
 obtain ⟨e263, he263, h⟩ := be h
 refine zM [tt,tt,ff] (loopN_tri (B := B24_28) (T := fun lv264 => QTri l Z n0 ad 24 (28, [vR 1, vI lv264.1, nN], [], (H1 s lv264.2 e0)) (none : Option Value) (H1 s r e0)) (KE := fun e263a => (none : Option Value) = (none : Option Value) ∧ (H1 s r e0) = (H1 s e263a e0)) (fun lv264 r hB hE hC => tB24_28 Ad W s e0 lv264 hB (fun x q => hE _ q) (fun x q => hC x q)) qN ((0:Int32), e237) e263 he263 ?_)
 obtain rfl := sj h
 exact ⟨rfl, rfl⟩
/-- before(IIII)Z -/
def F35 (x1 x2 : Int32) (x3 x4 : Int32) : Option (Int32) :=
 (if x1 = x3 then (if x2 < x4 then some (1:Int32) else some (0:Int32)) else (if x3 < x1 then some (1:Int32) else some (0:Int32)))
theorem tF35 (Ad : QAd n0 ad) (W : QW Z a0) {a : Nat} {σ : QHeap} (x1 x2 : Int32) (x3 x4 : Int32) {r : Int32} (h : F35 x1 x2 x3 x4 = some r) : QTri l Z n0 ad 35 (0, qentry [.ref a, .int x1, .int x2, .int x3, .int x4] (pMaxL 35), [], σ) (some (Value.int r)) σ := by
 unfold F35 at h
 refine yS Ad W 2 (2, [vR a, vI x1, vI x2, vI x3, vI x4], [.int x3, .int x1], σ) rfl ?_
 rcases qite h with ⟨c273, h⟩ | ⟨c273, h⟩
 ·refine yT Ad W 16 5 rfl (XT.ii_eq_t c273) ?_
  refine yS Ad W 2 (19, [vR a, vI x1, vI x2, vI x3, vI x4], [.int x4, .int x2], σ) rfl ?_
  rcases qite h with ⟨c274, h⟩ | ⟨c274, h⟩
  ·refine yF Ad W 26 22 rfl (XT.ii_ge_f c274) ?_
   refine yS Ad W 2 (27, [vR a, vI x1, vI x2, vI x3, vI x4], [.int 1], σ) rfl ?_
   obtain rfl := sj h
   exact retZ rfl rfl
  ·refine yT Ad W 26 22 rfl (XT.ii_ge_t c274) ?_
   refine yS Ad W 1 (27, [vR a, vI x1, vI x2, vI x3, vI x4], [.int 0], σ) rfl ?_
   obtain rfl := sj h
   exact retZ rfl rfl
 ·refine yF Ad W 16 5 rfl (XT.ii_eq_f c273) ?_
  refine yS Ad W 2 (7, [vR a, vI x1, vI x2, vI x3, vI x4], [.int x3, .int x1], σ) rfl ?_
  rcases qite h with ⟨c275, h⟩ | ⟨c275, h⟩
  ·refine yF Ad W 14 10 rfl (XT.ii_le_f c275) ?_
   refine yS Ad W 2 (15, [vR a, vI x1, vI x2, vI x3, vI x4], [.int 1], σ) rfl ?_
   obtain rfl := sj h
   exact retZ rfl rfl
  ·refine yT Ad W 14 10 rfl (XT.ii_le_t c275) ?_
   refine yS Ad W 1 (15, [vR a, vI x1, vI x2, vI x3, vI x4], [.int 0], σ) rfl ?_
   obtain rfl := sj h
   exact retZ rfl rfl
def B26_35 (x1 x2 x3 : Int32) (v : Int32 × Ob) : Option (((Int32 × Ob)) ⊕ (Int32 × Ob)) :=
  (if v.1 < (0 : Int32) then some (.inl (v.1, v.2)) else (aget (fO v.2) v.1).bind fun y271 => (aget (fM v.2) v.1).bind fun y272 => (F35 x3 x2 y271 y272).bind fun r276 => (if r276 = (0 : Int32) then some (.inl (v.1, v.2)) else (aget (fM v.2) v.1).bind fun y278 => (aset (fM v.2) (v.1 + (1 : Int32)) y278).bind fun y279 => (aget (fO v.2) v.1).bind fun y280 => (aset (fO v.2) (v.1 + (1 : Int32)) y280).bind fun y281 => some (.inr ((v.1 + (-1 : Int32)), (sO (sM v.2 y279) y281)))))
theorem tB26_35 (Ad : QAd n0 ad) (W : QW Z a0) (s : List Int32) (e0 : Ob) (x1 x2 x3 : Int32) (v : Int32 × Ob) {r : ((Int32 × Ob)) ⊕ (Int32 × Ob)} {u : Option Value} {τ : QHeap} (h : B26_35 x1 x2 x3 v = some r) (hx0 : ∀ x : Int32 × Ob, r = .inl x → QTri l Z n0 ad 26 (101, [vR 1, vI x1, vI x2, vI x3, vI x.1], [], (H1 s x.2 e0)) u τ) (hc : ∀ x : Int32 × Ob, r = .inr x → QTri l Z n0 ad 26 (35, [vR 1, vI x1, vI x2, vI x3, vI x.1], [], (H1 s x.2 e0)) u τ) : QTri l Z n0 ad 26 (35, [vR 1, vI x1, vI x2, vI x3, vI v.1], [], (H1 s v.2 e0)) u τ := by
 unfold B26_35 at h
 refine yS Ad W 1 (37, [vR 1, vI x1, vI x2, vI x3, vI v.1], [.int v.1], (H1 s v.2 e0)) rfl ?_
 rcases qite h with ⟨c270, h⟩ | ⟨c270, h⟩
 ·refine yT Ad W 101 40 rfl (XT.i0_lt_t c270) ?_
  obtain rfl := sj h
  exact zM [tt,tt,tt,tt,tt] (hx0 (v.1, v.2) rfl)
 ·refine yF Ad W 101 40 rfl (XT.i0_lt_f c270) ?_
  refine yS Ad W 6 (49, [vR 1, vI x1, vI x2, vI x3, vI v.1], [.int v.1, .ref 15, .int x2, .int x3, .ref 1], (H1 s v.2 e0)) rfl ?_
  obtain ⟨y271, hy271, h⟩ := be h
  refine zB Ad W (f := fun y271 => (50, [vR 1, vI x1, vI x2, vI x3, vI v.1], [.int y271, .int x2, .int x3, .ref 1], (H1 s v.2 e0))) rfl hy271 ?_
  refine yS Ad W 3 (56, [vR 1, vI x1, vI x2, vI x3, vI v.1], [.int v.1, .ref 14, .int y271, .int x2, .int x3, .ref 1], (H1 s v.2 e0)) rfl ?_
  obtain ⟨y272, hy272, h⟩ := be h
  refine zB Ad W (f := fun y272 => (57, [vR 1, vI x1, vI x2, vI x3, vI v.1], [.int y272, .int y271, .int x2, .int x3, .ref 1], (H1 s v.2 e0))) rfl hy272 ?_
  obtain ⟨r276, hr276, h⟩ := be h
  refine callP W (a := 1) (as := [.int x3, .int x2, .int y271, .int y272]) (rest := []) (w := (some (.int r276))) (σ₁ := (H1 s v.2 e0)) rfl rfl rfl rfl rfl rfl rfl rfl (tF35 Ad W x3 x2 y271 y272 hr276) ?_
  rcases qite h with ⟨c277, h⟩ | ⟨c277, h⟩
  ·refine yT Ad W 101 63 rfl (XT.i0_eq_t c277) ?_
   obtain rfl := sj h
   exact zM [tt,tt,tt,tt,tt] (hx0 (v.1, v.2) rfl)
  ·refine yF Ad W 101 63 rfl (XT.i0_eq_f c277) ?_
   refine yS Ad W 8 (77, [vR 1, vI x1, vI x2, vI x3, vI v.1], [.int v.1, .ref 14, .int (v.1 + (1:Int32)), .ref 14], (H1 s v.2 e0)) rfl ?_
   obtain ⟨y278, hy278, h⟩ := be h
   refine zB Ad W (f := fun y278 => (78, [vR 1, vI x1, vI x2, vI x3, vI v.1], [.int y278, .int (v.1 + (1:Int32)), .ref 14], (H1 s v.2 e0))) rfl hy278 ?_
   obtain ⟨y279, hy279, h⟩ := be h
   refine zB Ad W (f := fun y279 => (79, [vR 1, vI x1, vI x2, vI x3, vI v.1], [], (H1x54 s v.2 e0 y279))) rfl hy279 ?_
   refine yS Ad W 8 (93, [vR 1, vI x1, vI x2, vI x3, vI v.1], [.int v.1, .ref 15, .int (v.1 + (1:Int32)), .ref 15], (H1x54 s v.2 e0 y279)) rfl ?_
   obtain ⟨y280, hy280, h⟩ := be h
   refine zB Ad W (f := fun y280 => (94, [vR 1, vI x1, vI x2, vI x3, vI v.1], [.int y280, .int (v.1 + (1:Int32)), .ref 15], (H1x54 s v.2 e0 y279))) rfl hy280 ?_
   obtain ⟨y281, hy281, h⟩ := be h
   refine zB Ad W (f := fun y281 => (95, [vR 1, vI x1, vI x2, vI x3, vI v.1], [], (H1x55 s v.2 e0 y279 y281))) rfl hy281 ?_
   refine yS Ad W 2 (35, [vR 1, vI x1, vI x2, vI x3, vI (v.1 + (-1:Int32))], [], (H1x55 s v.2 e0 y279 y281)) rfl ?_
   have E282 : ((H1x55 s v.2 e0 y279 y281) : QHeap) = (H1 s (sO (sM v.2 y279) y281) e0) := by simp only [fs, H1, H1v, H1x55, sM, sO]
   rw [E282]
   obtain rfl := sj h
   exact zM [tt,tt,tt,tt,tt] (hc ((v.1 + (-1:Int32)), (sO (sM v.2 y279) y281)) rfl)
def J26_101 (o : Ob) (x1 x2 : Int32) (x3 x4 : Int32) : Option (((Ob)) ⊕ (Int32 × Ob)) :=
  (aset (fM o) (x4 + (1 : Int32)) x2).bind fun y285 => (aset (fO o) (x4 + (1 : Int32)) x3).bind fun y286 => some (.inr ((x1 + (1 : Int32)), (sO (sM o y285) y286)))
theorem tJ26_101 (Ad : QAd n0 ad) (W : QW Z a0) (s : List Int32) (e0 o : Ob) (x1 x2 : Int32) (x3 x4 : Int32) {r : ((Ob)) ⊕ (Int32 × Ob)} {u : Option Value} {τ : QHeap} (h : J26_101 o x1 x2 x3 x4 = some r) (hx0 : ∀ x : Ob, r = .inl x → u = (none : Option Value) ∧ τ = (H1 s x e0)) (hc : ∀ x : Int32 × Ob, r = .inr x → QTri l Z n0 ad 26 (2, [vR 1, vI x.1, nN, nN, nN], [], (H1 s x.2 e0)) u τ) : QTri l Z n0 ad 26 (101, [vR 1, vI x1, vI x2, vI x3, vI x4], [], (H1 s o e0)) u τ := by
 unfold J26_101 at h
 refine yS Ad W 6 (110, [vR 1, vI x1, vI x2, vI x3, vI x4], [.int x2, .int (x4 + (1:Int32)), .ref 14], (H1 s o e0)) rfl ?_
 obtain ⟨y285, hy285, h⟩ := be h
 refine zB Ad W (f := fun y285 => (111, [vR 1, vI x1, vI x2, vI x3, vI x4], [], (H1x54 s o e0 y285))) rfl hy285 ?_
 refine yS Ad W 6 (120, [vR 1, vI x1, vI x2, vI x3, vI x4], [.int x3, .int (x4 + (1:Int32)), .ref 15], (H1x54 s o e0 y285)) rfl ?_
 obtain ⟨y286, hy286, h⟩ := be h
 refine zB Ad W (f := fun y286 => (121, [vR 1, vI x1, vI x2, vI x3, vI x4], [], (H1x55 s o e0 y285 y286))) rfl hy286 ?_
 refine yS Ad W 2 (2, [vR 1, vI (x1 + (1:Int32)), vI x2, vI x3, vI x4], [], (H1x55 s o e0 y285 y286)) rfl ?_
 have E287 : ((H1x55 s o e0 y285 y286) : QHeap) = (H1 s (sO (sM o y285) y286) e0) := by simp only [fs, H1, H1v, H1x55, sM, sO]
 rw [E287]
 obtain rfl := sj h
 exact zM [tt,tt,ff,ff,ff] (hc ((x1 + (1:Int32)), (sO (sM o y285) y286)) rfl)
def B26_2 (v : Int32 × Ob) : Option (((Ob)) ⊕ (Int32 × Ob)) :=
  (if v.1 < (fr v.2) then (if v.1 < (32 : Int32) then (aget (fM v.2) v.1).bind fun y268 => (aget (fO v.2) v.1).bind fun y269 => (loopN (B26_35 v.1 y268 y269) qN ((v.1 - (1 : Int32)), v.2)).bind fun e283 => (J26_101 e283.2 v.1 y268 y269 e283.1) else some (.inl v.2)) else some (.inl v.2))
theorem tB26_2 (Ad : QAd n0 ad) (W : QW Z a0) (s : List Int32) (e0 : Ob) (v : Int32 × Ob) {r : ((Ob)) ⊕ (Int32 × Ob)} {u : Option Value} {τ : QHeap} (h : B26_2 v = some r) (hx0 : ∀ x : Ob, r = .inl x → u = (none : Option Value) ∧ τ = (H1 s x e0)) (hc : ∀ x : Int32 × Ob, r = .inr x → QTri l Z n0 ad 26 (2, [vR 1, vI x.1, nN, nN, nN], [], (H1 s x.2 e0)) u τ) : QTri l Z n0 ad 26 (2, [vR 1, vI v.1, nN, nN, nN], [], (H1 s v.2 e0)) u τ := by
 unfold B26_2 at h
 refine yS Ad W 3 (7, [vR 1, vI v.1, nN, nN, nN], [.int (fr v.2), .int v.1], (H1 s v.2 e0)) rfl ?_
 rcases qite h with ⟨c266, h⟩ | ⟨c266, h⟩
 ·refine yF Ad W 127 10 rfl (XT.ii_ge_f c266) ?_
  refine yS Ad W 2 (13, [vR 1, vI v.1, nN, nN, nN], [.int 32, .int v.1], (H1 s v.2 e0)) rfl ?_
  rcases qite h with ⟨c267, h⟩ | ⟨c267, h⟩
  ·refine yF Ad W 127 16 rfl (XT.ii_ge_f c267) ?_
   refine yS Ad W 3 (21, [vR 1, vI v.1, nN, nN, nN], [.int v.1, .ref 14], (H1 s v.2 e0)) rfl ?_
   obtain ⟨y268, hy268, h⟩ := be h
   refine zB Ad W (f := fun y268 => (22, [vR 1, vI v.1, nN, nN, nN], [.int y268], (H1 s v.2 e0))) rfl hy268 ?_
   refine yS Ad W 4 (28, [vR 1, vI v.1, vI y268, nN, nN], [.int v.1, .ref 15], (H1 s v.2 e0)) rfl ?_
   obtain ⟨y269, hy269, h⟩ := be h
   refine zB Ad W (f := fun y269 => (29, [vR 1, vI v.1, vI y268, nN, nN], [.int y269], (H1 s v.2 e0))) rfl hy269 ?_
   refine yS Ad W 5 (35, [vR 1, vI v.1, vI y268, vI y269, vI (v.1 - (1:Int32))], [], (H1 s v.2 e0)) rfl ?_
   obtain ⟨e283, he283, h⟩ := be h
   refine zM [tt,tt,tt,tt,tt] (loopN_tri (B := B26_35 v.1 y268 y269) (T := fun lv284 => QTri l Z n0 ad 26 (35, [vR 1, vI v.1, vI y268, vI y269, vI lv284.1], [], (H1 s lv284.2 e0)) u τ) (KE := fun e283a => QTri l Z n0 ad 26 (101, [vR 1, vI v.1, vI y268, vI y269, vI e283a.1], [], (H1 s e283a.2 e0)) u τ) (fun lv284 r hB hE hC => tB26_35 Ad W s e0 v.1 y268 y269 lv284 hB (fun x q => hE _ q) (fun x q => hC x q)) qN ((v.1 - (1:Int32)), v.2) e283 he283 ?_)
   exact zM [tt,tt,tt,tt,tt] (tJ26_101 Ad W s e0 e283.2 v.1 y268 y269 e283.1 h hx0 hc)
  ·refine yT Ad W 127 16 rfl (XT.ii_ge_t c267) ?_
   obtain rfl := sj h
   obtain ⟨rfl, rfl⟩ := hx0 v.2 rfl
   exact ret0 rfl rfl
 ·refine yT Ad W 127 10 rfl (XT.ii_ge_t c266) ?_
  obtain rfl := sj h
  obtain ⟨rfl, rfl⟩ := hx0 v.2 rfl
  exact ret0 rfl rfl
/-- sortEdges()V -/
def F26 (o : Ob) : Option (Ob) :=
 (loopN (B26_2) qN ((1:Int32), o)).bind fun e288 => some e288
theorem tF26 (Ad : QAd n0 ad) (W : QW Z a0) (s : List Int32) (e0 o : Ob) {r : Ob} (h : F26 o = some r) : QTri l Z n0 ad 26 (0, qentry [.ref 1] (pMaxL 26), [], (H1 s o e0)) (none : Option Value) (H1 s r e0) := by
 unfold F26 at h
 refine yS Ad W 2 (2, [vR 1, vI 1, nN, nN, nN], [], (H1 s o e0)) rfl ?_
 obtain ⟨e288, he288, h⟩ := be h
 refine zM [tt,tt,ff,ff,ff] (loopN_tri (B := B26_2) (T := fun lv289 => QTri l Z n0 ad 26 (2, [vR 1, vI lv289.1, nN, nN, nN], [], (H1 s lv289.2 e0)) (none : Option Value) (H1 s r e0)) (KE := fun e288a => (none : Option Value) = (none : Option Value) ∧ (H1 s r e0) = (H1 s e288a e0)) (fun lv289 r hB hE hC => tB26_2 Ad W s e0 lv289 hB (fun x q => hE _ q) (fun x q => hC x q)) qN ((1:Int32), o) e288 he288 ?_)
 obtain rfl := sj h
 exact ⟨rfl, rfl⟩
def H1x57 (s : List Int32) (o0 o1 : Ob) (a0_14 : List Int32) : QHeap := H1v s (fA o0) (fB o0) (fC o0) (fD o0) (fE o0) (fF o0) (fG o0) (fH o0) (fI o0) (fJ o0) (fK o0) (fL o0) (fM o0) (fO o0) a0_14 (fQ o0) (fR o0) (fT o0) (fU o0) (fV o0) (fW o0) (fX o0) (fY o0) (fZ o0) (fa o0) (fb o0) (fc o0) (fd o0) (fe o0) (fh o0) (fi o0) (fm o0) (fo o0) (fp o0) (fq o0) (fr o0) (fA o1) (fB o1) (fC o1) (fD o1) (fE o1) (fF o1) (fG o1) (fH o1) (fI o1) (fJ o1) (fK o1) (fL o1) (fM o1) (fO o1) (fP o1) (fQ o1) (fR o1) (fT o1) (fU o1) (fV o1) (fW o1) (fX o1) (fY o1) (fZ o1) (fa o1) (fb o1) (fc o1) (fd o1) (fe o1) (fh o1) (fi o1) (fm o1) (fo o1) (fp o1) (fq o1) (fr o1)
def H1x58 (s : List Int32) (o0 o1 : Ob) (a0_14 a0_15 : List Int32) : QHeap := H1v s (fA o0) (fB o0) (fC o0) (fD o0) (fE o0) (fF o0) (fG o0) (fH o0) (fI o0) (fJ o0) (fK o0) (fL o0) (fM o0) (fO o0) a0_14 a0_15 (fR o0) (fT o0) (fU o0) (fV o0) (fW o0) (fX o0) (fY o0) (fZ o0) (fa o0) (fb o0) (fc o0) (fd o0) (fe o0) (fh o0) (fi o0) (fm o0) (fo o0) (fp o0) (fq o0) (fr o0) (fA o1) (fB o1) (fC o1) (fD o1) (fE o1) (fF o1) (fG o1) (fH o1) (fI o1) (fJ o1) (fK o1) (fL o1) (fM o1) (fO o1) (fP o1) (fQ o1) (fR o1) (fT o1) (fU o1) (fV o1) (fW o1) (fX o1) (fY o1) (fZ o1) (fa o1) (fb o1) (fc o1) (fd o1) (fe o1) (fh o1) (fi o1) (fm o1) (fo o1) (fp o1) (fq o1) (fr o1)
def H1x59 (s : List Int32) (o0 o1 : Ob) (a0_14 a0_15 a0_16 : List Int32) : QHeap := H1v s (fA o0) (fB o0) (fC o0) (fD o0) (fE o0) (fF o0) (fG o0) (fH o0) (fI o0) (fJ o0) (fK o0) (fL o0) (fM o0) (fO o0) a0_14 a0_15 a0_16 (fT o0) (fU o0) (fV o0) (fW o0) (fX o0) (fY o0) (fZ o0) (fa o0) (fb o0) (fc o0) (fd o0) (fe o0) (fh o0) (fi o0) (fm o0) (fo o0) (fp o0) (fq o0) (fr o0) (fA o1) (fB o1) (fC o1) (fD o1) (fE o1) (fF o1) (fG o1) (fH o1) (fI o1) (fJ o1) (fK o1) (fL o1) (fM o1) (fO o1) (fP o1) (fQ o1) (fR o1) (fT o1) (fU o1) (fV o1) (fW o1) (fX o1) (fY o1) (fZ o1) (fa o1) (fb o1) (fc o1) (fd o1) (fe o1) (fh o1) (fi o1) (fm o1) (fo o1) (fp o1) (fq o1) (fr o1)
def B27_2 (v : Int32 × Ob) : Option (((Ob)) ⊕ (Int32 × Ob)) :=
  (if v.1 < (16 : Int32) then (aset (fP v.2) v.1 (-1 : Int32)).bind fun y292 => (aset (fQ v.2) v.1 (-1 : Int32)).bind fun y293 => (aset (fR v.2) v.1 v.1).bind fun y294 => some (.inr ((v.1 + (1 : Int32)), (sR (sQ (sP v.2 y292) y293) y294))) else some (.inl v.2))
theorem tB27_2 (Ad : QAd n0 ad) (W : QW Z a0) (s : List Int32) (e0 : Ob) (v : Int32 × Ob) {r : ((Ob)) ⊕ (Int32 × Ob)} {u : Option Value} {τ : QHeap} (h : B27_2 v = some r) (hx0 : ∀ x : Ob, r = .inl x → QTri l Z n0 ad 27 (35, [vR 1, nN, nN, nN, nN], [], (H1 s x e0)) u τ) (hc : ∀ x : Int32 × Ob, r = .inr x → QTri l Z n0 ad 27 (2, [vR 1, vI x.1, nN, nN, nN], [], (H1 s x.2 e0)) u τ) : QTri l Z n0 ad 27 (2, [vR 1, vI v.1, nN, nN, nN], [], (H1 s v.2 e0)) u τ := by
 unfold B27_2 at h
 refine yS Ad W 2 (5, [vR 1, vI v.1, nN, nN, nN], [.int 16, .int v.1], (H1 s v.2 e0)) rfl ?_
 rcases qite h with ⟨c291, h⟩ | ⟨c291, h⟩
 ·refine yF Ad W 35 8 rfl (XT.ii_ge_f c291) ?_
  refine yS Ad W 4 (14, [vR 1, vI v.1, nN, nN, nN], [.int (-1:Int32), .int v.1, .ref 16], (H1 s v.2 e0)) rfl ?_
  obtain ⟨y292, hy292, h⟩ := be h
  refine zB Ad W (f := fun y292 => (15, [vR 1, vI v.1, nN, nN, nN], [], (H1x57 s v.2 e0 y292))) rfl hy292 ?_
  refine yS Ad W 4 (21, [vR 1, vI v.1, nN, nN, nN], [.int (-1:Int32), .int v.1, .ref 17], (H1x57 s v.2 e0 y292)) rfl ?_
  obtain ⟨y293, hy293, h⟩ := be h
  refine zB Ad W (f := fun y293 => (22, [vR 1, vI v.1, nN, nN, nN], [], (H1x58 s v.2 e0 y292 y293))) rfl hy293 ?_
  refine yS Ad W 4 (28, [vR 1, vI v.1, nN, nN, nN], [.int v.1, .int v.1, .ref 18], (H1x58 s v.2 e0 y292 y293)) rfl ?_
  obtain ⟨y294, hy294, h⟩ := be h
  refine zB Ad W (f := fun y294 => (29, [vR 1, vI v.1, nN, nN, nN], [], (H1x59 s v.2 e0 y292 y293 y294))) rfl hy294 ?_
  refine yS Ad W 2 (2, [vR 1, vI (v.1 + (1:Int32)), nN, nN, nN], [], (H1x59 s v.2 e0 y292 y293 y294)) rfl ?_
  have E295 : ((H1x59 s v.2 e0 y292 y293 y294) : QHeap) = (H1 s (sR (sQ (sP v.2 y292) y293) y294) e0) := by simp only [fs, H1, H1v, H1x59, sP, sQ, sR]
  rw [E295]
  obtain rfl := sj h
  exact zM [tt,tt,ff,ff,ff] (hc ((v.1 + (1:Int32)), (sR (sQ (sP v.2 y292) y293) y294)) rfl)
 ·refine yT Ad W 35 8 rfl (XT.ii_ge_t c291) ?_
  obtain rfl := sj h
  exact zM [tt,ff,ff,ff,ff] (hx0 v.2 rfl)
def H1x60 (s : List Int32) (o0 o1 : Ob) (a0_16 : List Int32) : QHeap := H1v s (fA o0) (fB o0) (fC o0) (fD o0) (fE o0) (fF o0) (fG o0) (fH o0) (fI o0) (fJ o0) (fK o0) (fL o0) (fM o0) (fO o0) (fP o0) (fQ o0) a0_16 (fT o0) (fU o0) (fV o0) (fW o0) (fX o0) (fY o0) (fZ o0) (fa o0) (fb o0) (fc o0) (fd o0) (fe o0) (fh o0) (fi o0) (fm o0) (fo o0) (fp o0) (fq o0) (fr o0) (fA o1) (fB o1) (fC o1) (fD o1) (fE o1) (fF o1) (fG o1) (fH o1) (fI o1) (fJ o1) (fK o1) (fL o1) (fM o1) (fO o1) (fP o1) (fQ o1) (fR o1) (fT o1) (fU o1) (fV o1) (fW o1) (fX o1) (fY o1) (fZ o1) (fa o1) (fb o1) (fc o1) (fd o1) (fe o1) (fh o1) (fi o1) (fm o1) (fo o1) (fp o1) (fq o1) (fr o1)
def B28_79 (x3 : Int32) (v : Int32 × Int32 × Ob) : Option (((Ob)) ⊕ (Int32 × Int32 × Ob)) :=
  (if v.2.1 < (16 : Int32) then (if v.1 < (0 : Int32) then some (.inl v.2.2) else (aset (fR v.2.2) v.1 x3).bind fun y319 => (aget (fP v.2.2) v.1).bind fun y320 => some (.inr (y320, (v.2.1 + (1 : Int32)), (sR v.2.2 y319)))) else some (.inl v.2.2))
theorem tB28_79 (Ad : QAd n0 ad) (W : QW Z a0) (s : List Int32) (e0 : Ob) (x3 : Int32) (v : Int32 × Int32 × Ob) {r : ((Ob)) ⊕ (Int32 × Int32 × Ob)} {u : Option Value} {τ : QHeap} (h : B28_79 x3 v = some r) (hx0 : ∀ x : Ob, r = .inl x → u = (none : Option Value) ∧ τ = (H1 s x e0)) (hc : ∀ x : Int32 × Int32 × Ob, r = .inr x → QTri l Z n0 ad 28 (79, [vR 1, nN, nN, vI x3, vI x.1, vI x.2.1], [], (H1 s x.2.2 e0)) u τ) : QTri l Z n0 ad 28 (79, [vR 1, nN, nN, vI x3, vI v.1, vI v.2.1], [], (H1 s v.2.2 e0)) u τ := by
 unfold B28_79 at h
 refine yS Ad W 2 (83, [vR 1, nN, nN, vI x3, vI v.1, vI v.2.1], [.int 16, .int v.2.1], (H1 s v.2.2 e0)) rfl ?_
 rcases qite h with ⟨c317, h⟩ | ⟨c317, h⟩
 ·refine yF Ad W 114 86 rfl (XT.ii_ge_f c317) ?_
  refine yS Ad W 1 (88, [vR 1, nN, nN, vI x3, vI v.1, vI v.2.1], [.int v.1], (H1 s v.2.2 e0)) rfl ?_
  rcases qite h with ⟨c318, h⟩ | ⟨c318, h⟩
  ·refine yT Ad W 114 91 rfl (XT.i0_lt_t c318) ?_
   obtain rfl := sj h
   obtain ⟨rfl, rfl⟩ := hx0 v.2.2 rfl
   exact ret0 rfl rfl
  ·refine yF Ad W 114 91 rfl (XT.i0_lt_f c318) ?_
   refine yS Ad W 4 (98, [vR 1, nN, nN, vI x3, vI v.1, vI v.2.1], [.int x3, .int v.1, .ref 18], (H1 s v.2.2 e0)) rfl ?_
   obtain ⟨y319, hy319, h⟩ := be h
   refine zB Ad W (f := fun y319 => (99, [vR 1, nN, nN, vI x3, vI v.1, vI v.2.1], [], (H1x60 s v.2.2 e0 y319))) rfl hy319 ?_
   refine yS Ad W 3 (105, [vR 1, nN, nN, vI x3, vI v.1, vI v.2.1], [.int v.1, .ref 16], (H1x60 s v.2.2 e0 y319)) rfl ?_
   obtain ⟨y320, hy320, h⟩ := be h
   refine zB Ad W (f := fun y320 => (106, [vR 1, nN, nN, vI x3, vI v.1, vI v.2.1], [.int y320], (H1x60 s v.2.2 e0 y319))) rfl hy320 ?_
   refine yS Ad W 3 (79, [vR 1, nN, nN, vI x3, vI y320, vI (v.2.1 + (1:Int32))], [], (H1x60 s v.2.2 e0 y319)) rfl ?_
   have E321 : ((H1x60 s v.2.2 e0 y319) : QHeap) = (H1 s (sR v.2.2 y319) e0) := by simp only [fs, H1, H1v, H1x60, sR]
   rw [E321]
   obtain rfl := sj h
   exact zM [tt,ff,ff,tt,tt,tt] (hc (y320, (v.2.1 + (1:Int32)), (sR v.2.2 y319)) rfl)
 ·refine yT Ad W 114 86 rfl (XT.ii_ge_t c317) ?_
  obtain rfl := sj h
  obtain ⟨rfl, rfl⟩ := hx0 v.2.2 rfl
  exact ret0 rfl rfl
/-- tryMerge(II)V -/
def F28 (o : Ob) (x1 x2 : Int32) : Option (Ob) :=
 (if x1 < (0:Int32) then some o else (if x1 < (16:Int32) then (if (0:Int32) < x2 then (if x2 < (16:Int32) then (aget (fP o) x1).bind fun y307 => (if y307 = (-1:Int32) then (aget (fQ o) x2).bind fun y309 => (if y309 = (-1:Int32) then (aget (fR o) x1).bind fun y311 => (if y311 = x2 then some o else (aset (fP o) x1 x2).bind fun y313 => (aset (fQ o) x2 x1).bind fun y314 => (aget (fR o) x1).bind fun y315 => (loopN (B28_79 y315) qN (x2, (0:Int32), (sQ (sP o y313) y314))).bind fun e322 => some e322) else some o) else some o) else some o) else some o) else some o))
theorem tF28 (Ad : QAd n0 ad) (W : QW Z a0) (s : List Int32) (e0 o : Ob) (x1 x2 : Int32) {r : Ob} (h : F28 o x1 x2 = some r) : QTri l Z n0 ad 28 (0, qentry [.ref 1, .int x1, .int x2] (pMaxL 28), [], (H1 s o e0)) (none : Option Value) (H1 s r e0) := by
 unfold F28 at h
 refine yS Ad W 1 (1, [vR 1, vI x1, vI x2, nN, nN, nN], [.int x1], (H1 s o e0)) rfl ?_
 rcases qite h with ⟨c303, h⟩ | ⟨c303, h⟩
 ·refine yT Ad W 20 4 rfl (XT.i0_lt_t c303) ?_
  obtain rfl := sj h
  exact ret0 rfl rfl
 ·refine yF Ad W 20 4 rfl (XT.i0_lt_f c303) ?_
  refine yS Ad W 2 (7, [vR 1, vI x1, vI x2, nN, nN, nN], [.int 16, .int x1], (H1 s o e0)) rfl ?_
  rcases qite h with ⟨c304, h⟩ | ⟨c304, h⟩
  ·refine yF Ad W 20 10 rfl (XT.ii_ge_f c304) ?_
   refine yS Ad W 1 (11, [vR 1, vI x1, vI x2, nN, nN, nN], [.int x2], (H1 s o e0)) rfl ?_
   rcases qite h with ⟨c305, h⟩ | ⟨c305, h⟩
   ·refine yF Ad W 20 14 rfl (XT.i0_le_f c305) ?_
    refine yS Ad W 2 (17, [vR 1, vI x1, vI x2, nN, nN, nN], [.int 16, .int x2], (H1 s o e0)) rfl ?_
    rcases qite h with ⟨c306, h⟩ | ⟨c306, h⟩
    ·refine yT Ad W 21 20 rfl (XT.ii_lt_t c306) ?_
     refine yS Ad W 3 (26, [vR 1, vI x1, vI x2, nN, nN, nN], [.int x1, .ref 16], (H1 s o e0)) rfl ?_
     obtain ⟨y307, hy307, h⟩ := be h
     refine zB Ad W (f := fun y307 => (27, [vR 1, vI x1, vI x2, nN, nN, nN], [.int y307], (H1 s o e0))) rfl hy307 ?_
     refine yS Ad W 1 (28, [vR 1, vI x1, vI x2, nN, nN, nN], [.int (-1:Int32), .int y307], (H1 s o e0)) rfl ?_
     rcases qite h with ⟨c308, h⟩ | ⟨c308, h⟩
     ·refine yF Ad W 51 31 rfl (XT.ii_ne_f c308) ?_
      refine yS Ad W 3 (36, [vR 1, vI x1, vI x2, nN, nN, nN], [.int x2, .ref 17], (H1 s o e0)) rfl ?_
      obtain ⟨y309, hy309, h⟩ := be h
      refine zB Ad W (f := fun y309 => (37, [vR 1, vI x1, vI x2, nN, nN, nN], [.int y309], (H1 s o e0))) rfl hy309 ?_
      refine yS Ad W 1 (38, [vR 1, vI x1, vI x2, nN, nN, nN], [.int (-1:Int32), .int y309], (H1 s o e0)) rfl ?_
      rcases qite h with ⟨c310, h⟩ | ⟨c310, h⟩
      ·refine yF Ad W 51 41 rfl (XT.ii_ne_f c310) ?_
       refine yS Ad W 3 (46, [vR 1, vI x1, vI x2, nN, nN, nN], [.int x1, .ref 18], (H1 s o e0)) rfl ?_
       obtain ⟨y311, hy311, h⟩ := be h
       refine zB Ad W (f := fun y311 => (47, [vR 1, vI x1, vI x2, nN, nN, nN], [.int y311], (H1 s o e0))) rfl hy311 ?_
       refine yS Ad W 1 (48, [vR 1, vI x1, vI x2, nN, nN, nN], [.int x2, .int y311], (H1 s o e0)) rfl ?_
       rcases qite h with ⟨c312, h⟩ | ⟨c312, h⟩
       ·refine yF Ad W 52 51 rfl (XT.ii_ne_f c312) ?_
        obtain rfl := sj h
        exact ret0 rfl rfl
       ·refine yT Ad W 52 51 rfl (XT.ii_ne_t c312) ?_
        refine yS Ad W 4 (58, [vR 1, vI x1, vI x2, nN, nN, nN], [.int x2, .int x1, .ref 16], (H1 s o e0)) rfl ?_
        obtain ⟨y313, hy313, h⟩ := be h
        refine zB Ad W (f := fun y313 => (59, [vR 1, vI x1, vI x2, nN, nN, nN], [], (H1x57 s o e0 y313))) rfl hy313 ?_
        refine yS Ad W 4 (65, [vR 1, vI x1, vI x2, nN, nN, nN], [.int x1, .int x2, .ref 17], (H1x57 s o e0 y313)) rfl ?_
        obtain ⟨y314, hy314, h⟩ := be h
        refine zB Ad W (f := fun y314 => (66, [vR 1, vI x1, vI x2, nN, nN, nN], [], (H1x58 s o e0 y313 y314))) rfl hy314 ?_
        refine yS Ad W 3 (71, [vR 1, vI x1, vI x2, nN, nN, nN], [.int x1, .ref 18], (H1x58 s o e0 y313 y314)) rfl ?_
        obtain ⟨y315, hy315, h⟩ := be h
        refine zB Ad W (f := fun y315 => (72, [vR 1, vI x1, vI x2, nN, nN, nN], [.int y315], (H1x58 s o e0 y313 y314))) rfl hy315 ?_
        refine yS Ad W 3 (76, [vR 1, vI x1, vI x2, vI y315, vI x2, nN], [], (H1x58 s o e0 y313 y314)) rfl ?_
        refine yS Ad W 2 (79, [vR 1, vI x1, vI x2, vI y315, vI x2, vI 0], [], (H1x58 s o e0 y313 y314)) rfl ?_
        have E316 : ((H1x58 s o e0 y313 y314) : QHeap) = (H1 s (sQ (sP o y313) y314) e0) := by simp only [fs, H1, H1v, H1x58, sP, sQ]
        rw [E316]
        obtain ⟨e322, he322, h⟩ := be h
        refine zM [tt,ff,ff,tt,tt,tt] (loopN_tri (B := B28_79 y315) (T := fun lv323 => QTri l Z n0 ad 28 (79, [vR 1, nN, nN, vI y315, vI lv323.1, vI lv323.2.1], [], (H1 s lv323.2.2 e0)) (none : Option Value) (H1 s r e0)) (KE := fun e322a => (none : Option Value) = (none : Option Value) ∧ (H1 s r e0) = (H1 s e322a e0)) (fun lv323 r hB hE hC => tB28_79 Ad W s e0 y315 lv323 hB (fun x q => hE _ q) (fun x q => hC x q)) qN (x2, (0:Int32), (sQ (sP o y313) y314)) e322 he322 ?_)
        obtain rfl := sj h
        exact ⟨rfl, rfl⟩
      ·refine yT Ad W 51 41 rfl (XT.ii_ne_t c310) ?_
       obtain rfl := sj h
       exact ret0 rfl rfl
     ·refine yT Ad W 51 31 rfl (XT.ii_ne_t c308) ?_
      obtain rfl := sj h
      exact ret0 rfl rfl
    ·refine yF Ad W 21 20 rfl (XT.ii_lt_f c306) ?_
     obtain rfl := sj h
     exact ret0 rfl rfl
   ·refine yT Ad W 20 14 rfl (XT.i0_le_t c305) ?_
    obtain rfl := sj h
    exact ret0 rfl rfl
  ·refine yT Ad W 20 10 rfl (XT.ii_ge_t c304) ?_
   obtain rfl := sj h
   exact ret0 rfl rfl
def J27_87 (o : Ob) (x1 x3 x4 : Int32) : Option (((Ob)) ⊕ (Int32 × Ob)) :=
  (F28 o x3 x4).bind fun r324 => some (.inr ((x1 + (1 : Int32)), r324))
theorem tJ27_87 (Ad : QAd n0 ad) (W : QW Z a0) (s : List Int32) (e0 o : Ob) (x1 x3 x4 : Int32) {r : ((Ob)) ⊕ (Int32 × Ob)} {u : Option Value} {τ : QHeap} (h : J27_87 o x1 x3 x4 = some r) (hx0 : ∀ x : Ob, r = .inl x → u = (none : Option Value) ∧ τ = (H1 s x e0)) (hc : ∀ x : Int32 × Ob, r = .inr x → QTri l Z n0 ad 27 (37, [vR 1, vI x.1, nN, nN, nN], [], (H1 s x.2 e0)) u τ) : QTri l Z n0 ad 27 (87, [vR 1, vI x1, nN, vI x3, vI x4], [], (H1 s o e0)) u τ := by
 unfold J27_87 at h
 refine yS Ad W 3 (91, [vR 1, vI x1, nN, vI x3, vI x4], [.int x4, .int x3, .ref 1], (H1 s o e0)) rfl ?_
 obtain ⟨r324, hr324, h⟩ := be h
 refine callP W (a := 1) (as := [.int x3, .int x4]) (rest := []) (w := none) (σ₁ := (H1 s r324 e0)) rfl rfl rfl rfl rfl rfl rfl rfl (tF28 Ad W s e0 o x3 x4 hr324) ?_
 refine yS Ad W 2 (37, [vR 1, vI (x1 + (1:Int32)), nN, vI x3, vI x4], [], (H1 s r324 e0)) rfl ?_
 obtain rfl := sj h
 exact zM [tt,tt,ff,ff,ff] (hc ((x1 + (1:Int32)), r324) rfl)
def B27_37 (v : Int32 × Ob) : Option (((Ob)) ⊕ (Int32 × Ob)) :=
  (if v.1 < (fr v.2) then (if v.1 < (32 : Int32) then (aget (fM v.2) v.1).bind fun y300 => (if (y300 &&& (1 : Int32)) = (0 : Int32) then (aget (fG v.2) (y300 >>> ((1 : Int32) &&& 31))).bind fun y302 => (J27_87 v.2 v.1 (y300 >>> ((1 : Int32) &&& 31)) y302) else (aget (fH v.2) (y300 >>> ((1 : Int32) &&& 31))).bind fun y325 => (J27_87 v.2 v.1 (y300 >>> ((1 : Int32) &&& 31)) y325)) else some (.inl v.2)) else some (.inl v.2))
theorem tB27_37 (Ad : QAd n0 ad) (W : QW Z a0) (s : List Int32) (e0 : Ob) (v : Int32 × Ob) {r : ((Ob)) ⊕ (Int32 × Ob)} {u : Option Value} {τ : QHeap} (h : B27_37 v = some r) (hx0 : ∀ x : Ob, r = .inl x → u = (none : Option Value) ∧ τ = (H1 s x e0)) (hc : ∀ x : Int32 × Ob, r = .inr x → QTri l Z n0 ad 27 (37, [vR 1, vI x.1, nN, nN, nN], [], (H1 s x.2 e0)) u τ) : QTri l Z n0 ad 27 (37, [vR 1, vI v.1, nN, nN, nN], [], (H1 s v.2 e0)) u τ := by
 unfold B27_37 at h
 refine yS Ad W 3 (42, [vR 1, vI v.1, nN, nN, nN], [.int (fr v.2), .int v.1], (H1 s v.2 e0)) rfl ?_
 rcases qite h with ⟨c298, h⟩ | ⟨c298, h⟩
 ·refine yF Ad W 100 45 rfl (XT.ii_ge_f c298) ?_
  refine yS Ad W 2 (48, [vR 1, vI v.1, nN, nN, nN], [.int 32, .int v.1], (H1 s v.2 e0)) rfl ?_
  rcases qite h with ⟨c299, h⟩ | ⟨c299, h⟩
  ·refine yF Ad W 100 51 rfl (XT.ii_ge_f c299) ?_
   refine yS Ad W 3 (56, [vR 1, vI v.1, nN, nN, nN], [.int v.1, .ref 14], (H1 s v.2 e0)) rfl ?_
   obtain ⟨y300, hy300, h⟩ := be h
   refine zB Ad W (f := fun y300 => (57, [vR 1, vI v.1, nN, nN, nN], [.int y300], (H1 s v.2 e0))) rfl hy300 ?_
   refine yS Ad W 5 (62, [vR 1, vI v.1, vI y300, vI (y300 >>> ((1:Int32) &&& 31)), nN], [], (H1 s v.2 e0)) rfl ?_
   refine yS Ad W 3 (65, [vR 1, vI v.1, vI y300, vI (y300 >>> ((1:Int32) &&& 31)), nN], [.int (y300 &&& (1:Int32))], (H1 s v.2 e0)) rfl ?_
   rcases qite h with ⟨c301, h⟩ | ⟨c301, h⟩
   ·refine yF Ad W 79 68 rfl (XT.i0_ne_f c301) ?_
    refine yS Ad W 3 (73, [vR 1, vI v.1, vI y300, vI (y300 >>> ((1:Int32) &&& 31)), nN], [.int (y300 >>> ((1:Int32) &&& 31)), .ref 8], (H1 s v.2 e0)) rfl ?_
    obtain ⟨y302, hy302, h⟩ := be h
    refine zB Ad W (f := fun y302 => (74, [vR 1, vI v.1, vI y300, vI (y300 >>> ((1:Int32) &&& 31)), nN], [.int y302], (H1 s v.2 e0))) rfl hy302 ?_
    refine yS Ad W 2 (87, [vR 1, vI v.1, vI y300, vI (y300 >>> ((1:Int32) &&& 31)), vI y302], [], (H1 s v.2 e0)) rfl ?_
    exact zM [tt,tt,ff,tt,tt] (tJ27_87 Ad W s e0 v.2 v.1 (y300 >>> ((1:Int32) &&& 31)) y302 h hx0 hc)
   ·refine yT Ad W 79 68 rfl (XT.i0_ne_t c301) ?_
    refine yS Ad W 3 (84, [vR 1, vI v.1, vI y300, vI (y300 >>> ((1:Int32) &&& 31)), nN], [.int (y300 >>> ((1:Int32) &&& 31)), .ref 9], (H1 s v.2 e0)) rfl ?_
    obtain ⟨y325, hy325, h⟩ := be h
    refine zB Ad W (f := fun y325 => (85, [vR 1, vI v.1, vI y300, vI (y300 >>> ((1:Int32) &&& 31)), nN], [.int y325], (H1 s v.2 e0))) rfl hy325 ?_
    refine yS Ad W 1 (87, [vR 1, vI v.1, vI y300, vI (y300 >>> ((1:Int32) &&& 31)), vI y325], [], (H1 s v.2 e0)) rfl ?_
    exact zM [tt,tt,ff,tt,tt] (tJ27_87 Ad W s e0 v.2 v.1 (y300 >>> ((1:Int32) &&& 31)) y325 h hx0 hc)
  ·refine yT Ad W 100 51 rfl (XT.ii_ge_t c299) ?_
   obtain rfl := sj h
   obtain ⟨rfl, rfl⟩ := hx0 v.2 rfl
   exact ret0 rfl rfl
 ·refine yT Ad W 100 45 rfl (XT.ii_ge_t c298) ?_
  obtain rfl := sj h
  obtain ⟨rfl, rfl⟩ := hx0 v.2 rfl
  exact ret0 rfl rfl
/-- buildChains()V -/
def F27 (o : Ob) : Option (Ob) :=
 (loopN (B27_2) qN ((0:Int32), o)).bind fun e296 => (loopN (B27_37) qN ((0:Int32), e296)).bind fun e326 => some e326
theorem tF27 (Ad : QAd n0 ad) (W : QW Z a0) (s : List Int32) (e0 o : Ob) {r : Ob} (h : F27 o = some r) : QTri l Z n0 ad 27 (0, qentry [.ref 1] (pMaxL 27), [], (H1 s o e0)) (none : Option Value) (H1 s r e0) := by
 unfold F27 at h
 refine yS Ad W 2 (2, [vR 1, vI 0, nN, nN, nN], [], (H1 s o e0)) rfl ?_
 obtain ⟨e296, he296, h⟩ := be h
 refine zM [tt,tt,ff,ff,ff] (loopN_tri (B := B27_2) (T := fun lv297 => QTri l Z n0 ad 27 (2, [vR 1, vI lv297.1, nN, nN, nN], [], (H1 s lv297.2 e0)) (none : Option Value) (H1 s r e0)) (KE := fun e296a => QTri l Z n0 ad 27 (35, [vR 1, nN, nN, nN, nN], [], (H1 s e296a e0)) (none : Option Value) (H1 s r e0)) (fun lv297 r hB hE hC => tB27_2 Ad W s e0 lv297 hB (fun x q => hE _ q) (fun x q => hC x q)) qN ((0:Int32), o) e296 he296 ?_)
 refine yS Ad W 2 (37, [vR 1, vI 0, nN, nN, nN], [], (H1 s e296 e0)) rfl ?_
 obtain ⟨e326, he326, h⟩ := be h
 refine zM [tt,tt,ff,ff,ff] (loopN_tri (B := B27_37) (T := fun lv327 => QTri l Z n0 ad 27 (37, [vR 1, vI lv327.1, nN, nN, nN], [], (H1 s lv327.2 e0)) (none : Option Value) (H1 s r e0)) (KE := fun e326a => (none : Option Value) = (none : Option Value) ∧ (H1 s r e0) = (H1 s e326a e0)) (fun lv327 r hB hE hC => tB27_37 Ad W s e0 lv327 hB (fun x q => hE _ q) (fun x q => hC x q)) qN ((0:Int32), e296) e326 he326 ?_)
 obtain rfl := sj h
 exact ⟨rfl, rfl⟩
def H1x61 (s : List Int32) (o0 o1 : Ob) (a0_18 : List Int32) : QHeap := H1v s (fA o0) (fB o0) (fC o0) (fD o0) (fE o0) (fF o0) (fG o0) (fH o0) (fI o0) (fJ o0) (fK o0) (fL o0) (fM o0) (fO o0) (fP o0) (fQ o0) (fR o0) (fT o0) a0_18 (fV o0) (fW o0) (fX o0) (fY o0) (fZ o0) (fa o0) (fb o0) (fc o0) (fd o0) (fe o0) (fh o0) (fi o0) (fm o0) (fo o0) (fp o0) (fq o0) (fr o0) (fA o1) (fB o1) (fC o1) (fD o1) (fE o1) (fF o1) (fG o1) (fH o1) (fI o1) (fJ o1) (fK o1) (fL o1) (fM o1) (fO o1) (fP o1) (fQ o1) (fR o1) (fT o1) (fU o1) (fV o1) (fW o1) (fX o1) (fY o1) (fZ o1) (fa o1) (fb o1) (fc o1) (fd o1) (fe o1) (fh o1) (fi o1) (fm o1) (fo o1) (fp o1) (fq o1) (fr o1)
def B29_2 (v : Int32 × Ob) : Option (((Ob)) ⊕ (Int32 × Ob)) :=
  (if v.1 < (16 : Int32) then (aset (fU v.2) v.1 (-1 : Int32)).bind fun y330 => some (.inr ((v.1 + (1 : Int32)), (sU v.2 y330))) else some (.inl v.2))
theorem tB29_2 (Ad : QAd n0 ad) (W : QW Z a0) (s : List Int32) (e0 : Ob) (v : Int32 × Ob) {r : ((Ob)) ⊕ (Int32 × Ob)} {u : Option Value} {τ : QHeap} (h : B29_2 v = some r) (hx0 : ∀ x : Ob, r = .inl x → QTri l Z n0 ad 29 (21, [vR 1, nN, nN, nN, nN], [], (H1 s x e0)) u τ) (hc : ∀ x : Int32 × Ob, r = .inr x → QTri l Z n0 ad 29 (2, [vR 1, vI x.1, nN, nN, nN], [], (H1 s x.2 e0)) u τ) : QTri l Z n0 ad 29 (2, [vR 1, vI v.1, nN, nN, nN], [], (H1 s v.2 e0)) u τ := by
 unfold B29_2 at h
 refine yS Ad W 2 (5, [vR 1, vI v.1, nN, nN, nN], [.int 16, .int v.1], (H1 s v.2 e0)) rfl ?_
 rcases qite h with ⟨c329, h⟩ | ⟨c329, h⟩
 ·refine yF Ad W 21 8 rfl (XT.ii_ge_f c329) ?_
  refine yS Ad W 4 (14, [vR 1, vI v.1, nN, nN, nN], [.int (-1:Int32), .int v.1, .ref 20], (H1 s v.2 e0)) rfl ?_
  obtain ⟨y330, hy330, h⟩ := be h
  refine zB Ad W (f := fun y330 => (15, [vR 1, vI v.1, nN, nN, nN], [], (H1x61 s v.2 e0 y330))) rfl hy330 ?_
  refine yS Ad W 2 (2, [vR 1, vI (v.1 + (1:Int32)), nN, nN, nN], [], (H1x61 s v.2 e0 y330)) rfl ?_
  have E331 : ((H1x61 s v.2 e0 y330) : QHeap) = (H1 s (sU v.2 y330) e0) := by simp only [fs, H1, H1v, H1x61, sU]
  rw [E331]
  obtain rfl := sj h
  exact zM [tt,tt,ff,ff,ff] (hc ((v.1 + (1:Int32)), (sU v.2 y330)) rfl)
 ·refine yT Ad W 21 8 rfl (XT.ii_ge_t c329) ?_
  obtain rfl := sj h
  exact zM [tt,ff,ff,ff,ff] (hx0 v.2 rfl)
def H1x62 (s : List Int32) (o0 o1 : Ob) (a0_19 : List Int32) : QHeap := H1v s (fA o0) (fB o0) (fC o0) (fD o0) (fE o0) (fF o0) (fG o0) (fH o0) (fI o0) (fJ o0) (fK o0) (fL o0) (fM o0) (fO o0) (fP o0) (fQ o0) (fR o0) (fT o0) (fU o0) a0_19 (fW o0) (fX o0) (fY o0) (fZ o0) (fa o0) (fb o0) (fc o0) (fd o0) (fe o0) (fh o0) (fi o0) (fm o0) (fo o0) (fp o0) (fq o0) (fr o0) (fA o1) (fB o1) (fC o1) (fD o1) (fE o1) (fF o1) (fG o1) (fH o1) (fI o1) (fJ o1) (fK o1) (fL o1) (fM o1) (fO o1) (fP o1) (fQ o1) (fR o1) (fT o1) (fU o1) (fV o1) (fW o1) (fX o1) (fY o1) (fZ o1) (fa o1) (fb o1) (fc o1) (fd o1) (fe o1) (fh o1) (fi o1) (fm o1) (fo o1) (fp o1) (fq o1) (fr o1)
def H1x63 (s : List Int32) (o0 o1 : Ob) (a0_18 a0_19 : List Int32) : QHeap := H1v s (fA o0) (fB o0) (fC o0) (fD o0) (fE o0) (fF o0) (fG o0) (fH o0) (fI o0) (fJ o0) (fK o0) (fL o0) (fM o0) (fO o0) (fP o0) (fQ o0) (fR o0) (fT o0) a0_18 a0_19 (fW o0) (fX o0) (fY o0) (fZ o0) (fa o0) (fb o0) (fc o0) (fd o0) (fe o0) (fh o0) (fi o0) (fm o0) (fo o0) (fp o0) (fq o0) (fr o0) (fA o1) (fB o1) (fC o1) (fD o1) (fE o1) (fF o1) (fG o1) (fH o1) (fI o1) (fJ o1) (fK o1) (fL o1) (fM o1) (fO o1) (fP o1) (fQ o1) (fR o1) (fT o1) (fU o1) (fV o1) (fW o1) (fX o1) (fY o1) (fZ o1) (fa o1) (fb o1) (fc o1) (fd o1) (fe o1) (fh o1) (fi o1) (fm o1) (fo o1) (fp o1) (fq o1) (fr o1)
def B30_8 (v : Int32 × Int32 × Int32 × Ob) : Option (((Int32 × Ob)) ⊕ (Int32 × Int32 × Int32 × Ob)) :=
  (if v.2.2.1 < (16 : Int32) then (if v.2.1 < (0 : Int32) then some (.inl (v.1, v.2.2.2)) else (if v.1 < (16 : Int32) then (aset (fV v.2.2.2) v.1 v.2.1).bind fun y337 => (aset (fU v.2.2.2) v.2.1 v.1).bind fun y338 => (aget (fP v.2.2.2) v.2.1).bind fun y339 => some (.inr ((v.1 + (1 : Int32)), y339, (v.2.2.1 + (1 : Int32)), (sU (sV v.2.2.2 y337) y338))) else some (.inl (v.1, v.2.2.2)))) else some (.inl (v.1, v.2.2.2)))
theorem tB30_8 (Ad : QAd n0 ad) (W : QW Z a0) (s : List Int32) (e0 : Ob) (v : Int32 × Int32 × Int32 × Ob) {r : ((Int32 × Ob)) ⊕ (Int32 × Int32 × Int32 × Ob)} {u : Option Value} {τ : QHeap} (h : B30_8 v = some r) (hx0 : ∀ x : Int32 × Ob, r = .inl x → u = (some (Value.int x.1)) ∧ τ = (H1 s x.2 e0)) (hc : ∀ x : Int32 × Int32 × Int32 × Ob, r = .inr x → QTri l Z n0 ad 30 (8, [vR 1, nN, nN, vI x.1, vI x.2.1, vI x.2.2.1], [], (H1 s x.2.2.2 e0)) u τ) : QTri l Z n0 ad 30 (8, [vR 1, nN, nN, vI v.1, vI v.2.1, vI v.2.2.1], [], (H1 s v.2.2.2 e0)) u τ := by
 unfold B30_8 at h
 refine yS Ad W 2 (12, [vR 1, nN, nN, vI v.1, vI v.2.1, vI v.2.2.1], [.int 16, .int v.2.2.1], (H1 s v.2.2.2 e0)) rfl ?_
 rcases qite h with ⟨c334, h⟩ | ⟨c334, h⟩
 ·refine yF Ad W 60 15 rfl (XT.ii_ge_f c334) ?_
  refine yS Ad W 1 (17, [vR 1, nN, nN, vI v.1, vI v.2.1, vI v.2.2.1], [.int v.2.1], (H1 s v.2.2.2 e0)) rfl ?_
  rcases qite h with ⟨c335, h⟩ | ⟨c335, h⟩
  ·refine yT Ad W 60 20 rfl (XT.i0_lt_t c335) ?_
   refine yS Ad W 1 (61, [vR 1, nN, nN, vI v.1, vI v.2.1, vI v.2.2.1], [.int v.1], (H1 s v.2.2.2 e0)) rfl ?_
   obtain rfl := sj h
   obtain ⟨rfl, rfl⟩ := hx0 (v.1, v.2.2.2) rfl
   exact retI rfl rfl
  ·refine yF Ad W 60 20 rfl (XT.i0_lt_f c335) ?_
   refine yS Ad W 2 (23, [vR 1, nN, nN, vI v.1, vI v.2.1, vI v.2.2.1], [.int 16, .int v.1], (H1 s v.2.2.2 e0)) rfl ?_
   rcases qite h with ⟨c336, h⟩ | ⟨c336, h⟩
   ·refine yF Ad W 60 26 rfl (XT.ii_ge_f c336) ?_
    refine yS Ad W 4 (33, [vR 1, nN, nN, vI v.1, vI v.2.1, vI v.2.2.1], [.int v.2.1, .int v.1, .ref 21], (H1 s v.2.2.2 e0)) rfl ?_
    obtain ⟨y337, hy337, h⟩ := be h
    refine zB Ad W (f := fun y337 => (34, [vR 1, nN, nN, vI v.1, vI v.2.1, vI v.2.2.1], [], (H1x62 s v.2.2.2 e0 y337))) rfl hy337 ?_
    refine yS Ad W 4 (41, [vR 1, nN, nN, vI v.1, vI v.2.1, vI v.2.2.1], [.int v.1, .int v.2.1, .ref 20], (H1x62 s v.2.2.2 e0 y337)) rfl ?_
    obtain ⟨y338, hy338, h⟩ := be h
    refine zB Ad W (f := fun y338 => (42, [vR 1, nN, nN, vI v.1, vI v.2.1, vI v.2.2.1], [], (H1x63 s v.2.2.2 e0 y338 y337))) rfl hy338 ?_
    refine yS Ad W 4 (51, [vR 1, nN, nN, vI (v.1 + (1:Int32)), vI v.2.1, vI v.2.2.1], [.int v.2.1, .ref 16], (H1x63 s v.2.2.2 e0 y338 y337)) rfl ?_
    obtain ⟨y339, hy339, h⟩ := be h
    refine zB Ad W (f := fun y339 => (52, [vR 1, nN, nN, vI (v.1 + (1:Int32)), vI v.2.1, vI v.2.2.1], [.int y339], (H1x63 s v.2.2.2 e0 y338 y337))) rfl hy339 ?_
    refine yS Ad W 3 (8, [vR 1, nN, nN, vI (v.1 + (1:Int32)), vI y339, vI (v.2.2.1 + (1:Int32))], [], (H1x63 s v.2.2.2 e0 y338 y337)) rfl ?_
    have E340 : ((H1x63 s v.2.2.2 e0 y338 y337) : QHeap) = (H1 s (sU (sV v.2.2.2 y337) y338) e0) := by simp only [fs, H1, H1v, H1x63, sU, sV]
    rw [E340]
    obtain rfl := sj h
    exact zM [tt,ff,ff,tt,tt,tt] (hc ((v.1 + (1:Int32)), y339, (v.2.2.1 + (1:Int32)), (sU (sV v.2.2.2 y337) y338)) rfl)
   ·refine yT Ad W 60 26 rfl (XT.ii_ge_t c336) ?_
    refine yS Ad W 1 (61, [vR 1, nN, nN, vI v.1, vI v.2.1, vI v.2.2.1], [.int v.1], (H1 s v.2.2.2 e0)) rfl ?_
    obtain rfl := sj h
    obtain ⟨rfl, rfl⟩ := hx0 (v.1, v.2.2.2) rfl
    exact retI rfl rfl
 ·refine yT Ad W 60 15 rfl (XT.ii_ge_t c334) ?_
  refine yS Ad W 1 (61, [vR 1, nN, nN, vI v.1, vI v.2.1, vI v.2.2.1], [.int v.1], (H1 s v.2.2.2 e0)) rfl ?_
  obtain rfl := sj h
  obtain ⟨rfl, rfl⟩ := hx0 (v.1, v.2.2.2) rfl
  exact retI rfl rfl
/-- placeChain(II)I -/
def F30 (o : Ob) (x1 x2 : Int32) : Option (Int32 × Ob) :=
 (loopN (B30_8) qN (x2, x1, (0:Int32), o)).bind fun e341 => some e341
theorem tF30 (Ad : QAd n0 ad) (W : QW Z a0) (s : List Int32) (e0 o : Ob) (x1 x2 : Int32) {r : Int32 × Ob} (h : F30 o x1 x2 = some r) : QTri l Z n0 ad 30 (0, qentry [.ref 1, .int x1, .int x2] (pMaxL 30), [], (H1 s o e0)) (some (Value.int r.1)) (H1 s r.2 e0) := by
 unfold F30 at h
 refine yS Ad W 4 (5, [vR 1, vI x1, vI x2, vI x2, vI x1, nN], [], (H1 s o e0)) rfl ?_
 refine yS Ad W 2 (8, [vR 1, vI x1, vI x2, vI x2, vI x1, vI 0], [], (H1 s o e0)) rfl ?_
 obtain ⟨e341, he341, h⟩ := be h
 refine zM [tt,ff,ff,tt,tt,tt] (loopN_tri (B := B30_8) (T := fun lv342 => QTri l Z n0 ad 30 (8, [vR 1, nN, nN, vI lv342.1, vI lv342.2.1, vI lv342.2.2.1], [], (H1 s lv342.2.2.2 e0)) (some (Value.int r.1)) (H1 s r.2 e0)) (KE := fun e341a => (some (Value.int r.1)) = (some (Value.int e341a.1)) ∧ (H1 s r.2 e0) = (H1 s e341a.2 e0)) (fun lv342 r hB hE hC => tB30_8 Ad W s e0 lv342 hB (fun x q => hE _ q) (fun x q => hC x q)) qN (x2, x1, (0:Int32), o) e341 he341 ?_)
 obtain rfl := sj h
 exact ⟨rfl, rfl⟩
def J29_109 (o : Ob) (x1 x2 : Int32) (x3 x4 : Int32) : Option (((Int32)) ⊕ (Int32 × Int32)) :=
  some (.inr (x3, (x4 + (1 : Int32))))
theorem tJ29_109 (Ad : QAd n0 ad) (W : QW Z a0) (s : List Int32) (e0 o : Ob) (x1 x2 : Int32) (x3 x4 : Int32) {r : ((Int32)) ⊕ (Int32 × Int32)} {u : Option Value} {τ : QHeap} (h : J29_109 o x1 x2 x3 x4 = some r) (hx0 : ∀ x : Int32, r = .inl x → QTri l Z n0 ad 29 (115, [vR 1, vI x1, vI x2, vI x, nN], [], (H1 s o e0)) u τ) (hc : ∀ x : Int32 × Int32, r = .inr x → QTri l Z n0 ad 29 (49, [vR 1, vI x1, vI x2, vI x.1, vI x.2], [], (H1 s o e0)) u τ) : QTri l Z n0 ad 29 (109, [vR 1, vI x1, vI x2, vI x3, vI x4], [], (H1 s o e0)) u τ := by
 unfold J29_109 at h
 refine yS Ad W 2 (49, [vR 1, vI x1, vI x2, vI x3, vI (x4 + (1:Int32))], [], (H1 s o e0)) rfl ?_
 obtain rfl := sj h
 exact zM [tt,tt,tt,tt,tt] (hc (x3, (x4 + (1:Int32))) rfl)
def J29_106 (o : Ob) (x1 x2 x4 : Int32) : Option (((Int32)) ⊕ (Int32 × Int32)) :=
  (J29_109 o x1 x2 x4 x4)
theorem tJ29_106 (Ad : QAd n0 ad) (W : QW Z a0) (s : List Int32) (e0 o : Ob) (x1 x2 x4 : Int32) {r : ((Int32)) ⊕ (Int32 × Int32)} {u : Option Value} {τ : QHeap} (h : J29_106 o x1 x2 x4 = some r) (hx0 : ∀ x : Int32, r = .inl x → QTri l Z n0 ad 29 (115, [vR 1, vI x1, vI x2, vI x, nN], [], (H1 s o e0)) u τ) (hc : ∀ x : Int32 × Int32, r = .inr x → QTri l Z n0 ad 29 (49, [vR 1, vI x1, vI x2, vI x.1, vI x.2], [], (H1 s o e0)) u τ) : QTri l Z n0 ad 29 (106, [vR 1, vI x1, vI x2, nN, vI x4], [], (H1 s o e0)) u τ := by
 unfold J29_106 at h
 refine yS Ad W 2 (109, [vR 1, vI x1, vI x2, vI x4, vI x4], [], (H1 s o e0)) rfl ?_
 exact zM [tt,tt,tt,tt,tt] (tJ29_109 Ad W s e0 o x1 x2 x4 x4 h hx0 hc)
def B29_49 (o : Ob) (x1 x2 : Int32) (v : Int32 × Int32) : Option (((Int32)) ⊕ (Int32 × Int32)) :=
  (if v.2 < (fi o) then (if v.2 < (16 : Int32) then (aget (fQ o) v.2).bind fun y348 => (if y348 = (-1 : Int32) then (aget (fU o) v.2).bind fun y350 => (if y350 < (0 : Int32) then (if v.1 < (0 : Int32) then (J29_106 o x1 x2 v.2) else (aget (fT o) v.2).bind fun y353 => (aget (fT o) v.1).bind fun y354 => (J29_109 o x1 x2 (if y354 < y353 then v.2 else v.1) v.2)) else (J29_109 o x1 x2 v.1 v.2)) else (J29_109 o x1 x2 v.1 v.2)) else some (.inl v.1)) else some (.inl v.1))
theorem tB29_49 (Ad : QAd n0 ad) (W : QW Z a0) (s : List Int32) (e0 o : Ob) (x1 x2 : Int32) (v : Int32 × Int32) {r : ((Int32)) ⊕ (Int32 × Int32)} {u : Option Value} {τ : QHeap} (h : B29_49 o x1 x2 v = some r) (hx0 : ∀ x : Int32, r = .inl x → QTri l Z n0 ad 29 (115, [vR 1, vI x1, vI x2, vI x, nN], [], (H1 s o e0)) u τ) (hc : ∀ x : Int32 × Int32, r = .inr x → QTri l Z n0 ad 29 (49, [vR 1, vI x1, vI x2, vI x.1, vI x.2], [], (H1 s o e0)) u τ) : QTri l Z n0 ad 29 (49, [vR 1, vI x1, vI x2, vI v.1, vI v.2], [], (H1 s o e0)) u τ := by
 unfold B29_49 at h
 refine yS Ad W 3 (55, [vR 1, vI x1, vI x2, vI v.1, vI v.2], [.int (fi o), .int v.2], (H1 s o e0)) rfl ?_
 rcases qite h with ⟨c346, h⟩ | ⟨c346, h⟩
 ·refine yF Ad W 115 58 rfl (XT.ii_ge_f c346) ?_
  refine yS Ad W 2 (62, [vR 1, vI x1, vI x2, vI v.1, vI v.2], [.int 16, .int v.2], (H1 s o e0)) rfl ?_
  rcases qite h with ⟨c347, h⟩ | ⟨c347, h⟩
  ·refine yF Ad W 115 65 rfl (XT.ii_ge_f c347) ?_
   refine yS Ad W 3 (71, [vR 1, vI x1, vI x2, vI v.1, vI v.2], [.int v.2, .ref 17], (H1 s o e0)) rfl ?_
   obtain ⟨y348, hy348, h⟩ := be h
   refine zB Ad W (f := fun y348 => (72, [vR 1, vI x1, vI x2, vI v.1, vI v.2], [.int y348], (H1 s o e0))) rfl hy348 ?_
   refine yS Ad W 1 (73, [vR 1, vI x1, vI x2, vI v.1, vI v.2], [.int (-1:Int32), .int y348], (H1 s o e0)) rfl ?_
   rcases qite h with ⟨c349, h⟩ | ⟨c349, h⟩
   ·refine yF Ad W 109 76 rfl (XT.ii_ne_f c349) ?_
    refine yS Ad W 3 (82, [vR 1, vI x1, vI x2, vI v.1, vI v.2], [.int v.2, .ref 20], (H1 s o e0)) rfl ?_
    obtain ⟨y350, hy350, h⟩ := be h
    refine zB Ad W (f := fun y350 => (83, [vR 1, vI x1, vI x2, vI v.1, vI v.2], [.int y350], (H1 s o e0))) rfl hy350 ?_
    rcases qite h with ⟨c351, h⟩ | ⟨c351, h⟩
    ·refine yF Ad W 109 86 rfl (XT.i0_ge_f c351) ?_
     refine yS Ad W 1 (87, [vR 1, vI x1, vI x2, vI v.1, vI v.2], [.int v.1], (H1 s o e0)) rfl ?_
     rcases qite h with ⟨c352, h⟩ | ⟨c352, h⟩
     ·refine yT Ad W 106 90 rfl (XT.i0_lt_t c352) ?_
      exact zM [tt,tt,tt,ff,tt] (tJ29_106 Ad W s e0 o x1 x2 v.2 h hx0 hc)
     ·refine yF Ad W 106 90 rfl (XT.i0_lt_f c352) ?_
      refine yS Ad W 3 (96, [vR 1, vI x1, vI x2, vI v.1, vI v.2], [.int v.2, .ref 19], (H1 s o e0)) rfl ?_
      obtain ⟨y353, hy353, h⟩ := be h
      refine zB Ad W (f := fun y353 => (97, [vR 1, vI x1, vI x2, vI v.1, vI v.2], [.int y353], (H1 s o e0))) rfl hy353 ?_
      refine yS Ad W 3 (102, [vR 1, vI x1, vI x2, vI v.1, vI v.2], [.int v.1, .ref 19, .int y353], (H1 s o e0)) rfl ?_
      obtain ⟨y354, hy354, h⟩ := be h
      refine zB Ad W (f := fun y354 => (103, [vR 1, vI x1, vI x2, vI v.1, vI v.2], [.int y354, .int y353], (H1 s o e0))) rfl hy354 ?_
      have K356 : ∀ z355 : Int32, z355 = (if y354 < y353 then v.2 else v.1) → QTri l Z n0 ad 29 (109, [vR 1, vI x1, vI x2, vI z355, vI v.2], [], (H1 s o e0)) u τ := by
       intro z355 ez355
       subst ez355
       exact zM [tt,tt,tt,tt,tt] (tJ29_109 Ad W s e0 o x1 x2 (if y354 < y353 then v.2 else v.1) v.2 h hx0 hc)
      rcases em (y354 < y353) with c357 | c357
      ·refine yF Ad W 109 106 rfl (XT.ii_le_f c357) ?_
       refine yS Ad W 2 (109, [vR 1, vI x1, vI x2, vI v.2, vI v.2], [], (H1 s o e0)) rfl ?_
       exact zM [tt,tt,tt,tt,tt] (K356 _ (if_pos c357).symm)
      ·refine yT Ad W 109 106 rfl (XT.ii_le_t c357) ?_
       exact zM [tt,tt,tt,tt,tt] (K356 _ (if_neg c357).symm)
    ·refine yT Ad W 109 86 rfl (XT.i0_ge_t c351) ?_
     exact zM [tt,tt,tt,tt,tt] (tJ29_109 Ad W s e0 o x1 x2 v.1 v.2 h hx0 hc)
   ·refine yT Ad W 109 76 rfl (XT.ii_ne_t c349) ?_
    exact zM [tt,tt,tt,tt,tt] (tJ29_109 Ad W s e0 o x1 x2 v.1 v.2 h hx0 hc)
  ·refine yT Ad W 115 65 rfl (XT.ii_ge_t c347) ?_
   obtain rfl := sj h
   exact zM [tt,tt,tt,tt,ff] (hx0 v.1 rfl)
 ·refine yT Ad W 115 58 rfl (XT.ii_ge_t c346) ?_
  obtain rfl := sj h
  exact zM [tt,tt,tt,tt,ff] (hx0 v.1 rfl)
def J29_115 (o : Ob) (x1 x2 x3 : Int32) : Option (((Ob)) ⊕ (Int32 × Int32 × Ob)) :=
  (if x3 < (0 : Int32) then some (.inl o) else (F30 o x3 x1).bind fun r361 => some (.inr (r361.1, (x2 + (1 : Int32)), r361.2)))
theorem tJ29_115 (Ad : QAd n0 ad) (W : QW Z a0) (s : List Int32) (e0 o : Ob) (x1 x2 x3 : Int32) {r : ((Ob)) ⊕ (Int32 × Int32 × Ob)} {u : Option Value} {τ : QHeap} (h : J29_115 o x1 x2 x3 = some r) (hx0 : ∀ x : Ob, r = .inl x → u = (none : Option Value) ∧ τ = (H1 s x e0)) (hc : ∀ x : Int32 × Int32 × Ob, r = .inr x → QTri l Z n0 ad 29 (30, [vR 1, vI x.1, vI x.2.1, nN, nN], [], (H1 s x.2.2 e0)) u τ) : QTri l Z n0 ad 29 (115, [vR 1, vI x1, vI x2, vI x3, nN], [], (H1 s o e0)) u τ := by
 unfold J29_115 at h
 refine yS Ad W 1 (116, [vR 1, vI x1, vI x2, vI x3, nN], [.int x3], (H1 s o e0)) rfl ?_
 rcases qite h with ⟨c360, h⟩ | ⟨c360, h⟩
 ·refine yF Ad W 122 119 rfl (XT.i0_ge_f c360) ?_
  refine yS Ad W 1 (135, [vR 1, vI x1, vI x2, vI x3, nN], [], (H1 s o e0)) rfl ?_
  obtain rfl := sj h
  obtain ⟨rfl, rfl⟩ := hx0 o rfl
  exact ret0 rfl rfl
 ·refine yT Ad W 122 119 rfl (XT.i0_ge_t c360) ?_
  refine yS Ad W 3 (125, [vR 1, vI x1, vI x2, vI x3, nN], [.int x1, .int x3, .ref 1], (H1 s o e0)) rfl ?_
  obtain ⟨r361, hr361, h⟩ := be h
  refine callP W (a := 1) (as := [.int x3, .int x1]) (rest := []) (w := (some (.int r361.1))) (σ₁ := (H1 s r361.2 e0)) rfl rfl rfl rfl rfl rfl rfl rfl (tF30 Ad W s e0 o x3 x1 hr361) ?_
  refine yS Ad W 3 (30, [vR 1, vI r361.1, vI (x2 + (1:Int32)), vI x3, nN], [], (H1 s r361.2 e0)) rfl ?_
  obtain rfl := sj h
  exact zM [tt,tt,tt,ff,ff] (hc (r361.1, (x2 + (1:Int32)), r361.2) rfl)
def B29_30 (v : Int32 × Int32 × Ob) : Option (((Ob)) ⊕ (Int32 × Int32 × Ob)) :=
  (if v.2.1 < (fi v.2.2) then (if v.2.1 < (16 : Int32) then (loopN (B29_49 v.2.2 v.1 v.2.1) qN ((-1 : Int32), (1 : Int32))).bind fun e358 => (J29_115 v.2.2 v.1 v.2.1 e358) else some (.inl v.2.2)) else some (.inl v.2.2))
theorem tB29_30 (Ad : QAd n0 ad) (W : QW Z a0) (s : List Int32) (e0 : Ob) (v : Int32 × Int32 × Ob) {r : ((Ob)) ⊕ (Int32 × Int32 × Ob)} {u : Option Value} {τ : QHeap} (h : B29_30 v = some r) (hx0 : ∀ x : Ob, r = .inl x → u = (none : Option Value) ∧ τ = (H1 s x e0)) (hc : ∀ x : Int32 × Int32 × Ob, r = .inr x → QTri l Z n0 ad 29 (30, [vR 1, vI x.1, vI x.2.1, nN, nN], [], (H1 s x.2.2 e0)) u τ) : QTri l Z n0 ad 29 (30, [vR 1, vI v.1, vI v.2.1, nN, nN], [], (H1 s v.2.2 e0)) u τ := by
 unfold B29_30 at h
 refine yS Ad W 3 (35, [vR 1, vI v.1, vI v.2.1, nN, nN], [.int (fi v.2.2), .int v.2.1], (H1 s v.2.2 e0)) rfl ?_
 rcases qite h with ⟨c344, h⟩ | ⟨c344, h⟩
 ·refine yF Ad W 135 38 rfl (XT.ii_ge_f c344) ?_
  refine yS Ad W 2 (41, [vR 1, vI v.1, vI v.2.1, nN, nN], [.int 16, .int v.2.1], (H1 s v.2.2 e0)) rfl ?_
  rcases qite h with ⟨c345, h⟩ | ⟨c345, h⟩
  ·refine yF Ad W 135 44 rfl (XT.ii_ge_f c345) ?_
   refine yS Ad W 4 (49, [vR 1, vI v.1, vI v.2.1, vI (-1:Int32), vI 1], [], (H1 s v.2.2 e0)) rfl ?_
   obtain ⟨e358, he358, h⟩ := be h
   refine zM [tt,tt,tt,tt,tt] (loopN_tri (B := B29_49 v.2.2 v.1 v.2.1) (T := fun lv359 => QTri l Z n0 ad 29 (49, [vR 1, vI v.1, vI v.2.1, vI lv359.1, vI lv359.2], [], (H1 s v.2.2 e0)) u τ) (KE := fun e358a => QTri l Z n0 ad 29 (115, [vR 1, vI v.1, vI v.2.1, vI e358a, nN], [], (H1 s v.2.2 e0)) u τ) (fun lv359 r hB hE hC => tB29_49 Ad W s e0 v.2.2 v.1 v.2.1 lv359 hB (fun x q => hE _ q) (fun x q => hC x q)) qN ((-1:Int32), (1:Int32)) e358 he358 ?_)
   exact zM [tt,tt,tt,tt,ff] (tJ29_115 Ad W s e0 v.2.2 v.1 v.2.1 e358 h hx0 hc)
  ·refine yT Ad W 135 44 rfl (XT.ii_ge_t c345) ?_
   obtain rfl := sj h
   obtain ⟨rfl, rfl⟩ := hx0 v.2.2 rfl
   exact ret0 rfl rfl
 ·refine yT Ad W 135 38 rfl (XT.ii_ge_t c344) ?_
  obtain rfl := sj h
  obtain ⟨rfl, rfl⟩ := hx0 v.2.2 rfl
  exact ret0 rfl rfl
/-- placeChains()V -/
def F29 (o : Ob) : Option (Ob) :=
 (loopN (B29_2) qN ((0:Int32), o)).bind fun e332 => (F30 e332 (0:Int32) (0:Int32)).bind fun r343 => (loopN (B29_30) qN (r343.1, (0:Int32), r343.2)).bind fun e362 => some e362
theorem tF29 (Ad : QAd n0 ad) (W : QW Z a0) (s : List Int32) (e0 o : Ob) {r : Ob} (h : F29 o = some r) : QTri l Z n0 ad 29 (0, qentry [.ref 1] (pMaxL 29), [], (H1 s o e0)) (none : Option Value) (H1 s r e0) := by
 unfold F29 at h
 refine yS Ad W 2 (2, [vR 1, vI 0, nN, nN, nN], [], (H1 s o e0)) rfl ?_
 obtain ⟨e332, he332, h⟩ := be h
 refine zM [tt,tt,ff,ff,ff] (loopN_tri (B := B29_2) (T := fun lv333 => QTri l Z n0 ad 29 (2, [vR 1, vI lv333.1, nN, nN, nN], [], (H1 s lv333.2 e0)) (none : Option Value) (H1 s r e0)) (KE := fun e332a => QTri l Z n0 ad 29 (21, [vR 1, nN, nN, nN, nN], [], (H1 s e332a e0)) (none : Option Value) (H1 s r e0)) (fun lv333 r hB hE hC => tB29_2 Ad W s e0 lv333 hB (fun x q => hE _ q) (fun x q => hC x q)) qN ((0:Int32), o) e332 he332 ?_)
 refine yS Ad W 3 (24, [vR 1, nN, nN, nN, nN], [.int 0, .int 0, .ref 1], (H1 s e332 e0)) rfl ?_
 obtain ⟨r343, hr343, h⟩ := be h
 refine callP W (a := 1) (as := [.int 0, .int 0]) (rest := []) (w := (some (.int r343.1))) (σ₁ := (H1 s r343.2 e0)) rfl rfl rfl rfl rfl rfl rfl rfl (tF30 Ad W s e0 e332 (0:Int32) (0:Int32) hr343) ?_
 refine yS Ad W 3 (30, [vR 1, vI r343.1, vI 0, nN, nN], [], (H1 s r343.2 e0)) rfl ?_
 obtain ⟨e362, he362, h⟩ := be h
 refine zM [tt,tt,tt,ff,ff] (loopN_tri (B := B29_30) (T := fun lv363 => QTri l Z n0 ad 29 (30, [vR 1, vI lv363.1, vI lv363.2.1, nN, nN], [], (H1 s lv363.2.2 e0)) (none : Option Value) (H1 s r e0)) (KE := fun e362a => (none : Option Value) = (none : Option Value) ∧ (H1 s r e0) = (H1 s e362a e0)) (fun lv363 r hB hE hC => tB29_30 Ad W s e0 lv363 hB (fun x q => hE _ q) (fun x q => hC x q)) qN (r343.1, (0:Int32), r343.2) e362 he362 ?_)
 obtain rfl := sj h
 exact ⟨rfl, rfl⟩
def H1x64 (s : List Int32) (o0 o1 : Ob) (a0_20 : List Int32) : QHeap := H1v s (fA o0) (fB o0) (fC o0) (fD o0) (fE o0) (fF o0) (fG o0) (fH o0) (fI o0) (fJ o0) (fK o0) (fL o0) (fM o0) (fO o0) (fP o0) (fQ o0) (fR o0) (fT o0) (fU o0) (fV o0) a0_20 (fX o0) (fY o0) (fZ o0) (fa o0) (fb o0) (fc o0) (fd o0) (fe o0) (fh o0) (fi o0) (fm o0) (fo o0) (fp o0) (fq o0) (fr o0) (fA o1) (fB o1) (fC o1) (fD o1) (fE o1) (fF o1) (fG o1) (fH o1) (fI o1) (fJ o1) (fK o1) (fL o1) (fM o1) (fO o1) (fP o1) (fQ o1) (fR o1) (fT o1) (fU o1) (fV o1) (fW o1) (fX o1) (fY o1) (fZ o1) (fa o1) (fb o1) (fc o1) (fd o1) (fe o1) (fh o1) (fi o1) (fm o1) (fo o1) (fp o1) (fq o1) (fr o1)
def H1x65 (s : List Int32) (o0 o1 : Ob) (a0_20 a0_21 : List Int32) : QHeap := H1v s (fA o0) (fB o0) (fC o0) (fD o0) (fE o0) (fF o0) (fG o0) (fH o0) (fI o0) (fJ o0) (fK o0) (fL o0) (fM o0) (fO o0) (fP o0) (fQ o0) (fR o0) (fT o0) (fU o0) (fV o0) a0_20 a0_21 (fY o0) (fZ o0) (fa o0) (fb o0) (fc o0) (fd o0) (fe o0) (fh o0) (fi o0) (fm o0) (fo o0) (fp o0) (fq o0) (fr o0) (fA o1) (fB o1) (fC o1) (fD o1) (fE o1) (fF o1) (fG o1) (fH o1) (fI o1) (fJ o1) (fK o1) (fL o1) (fM o1) (fO o1) (fP o1) (fQ o1) (fR o1) (fT o1) (fU o1) (fV o1) (fW o1) (fX o1) (fY o1) (fZ o1) (fa o1) (fb o1) (fc o1) (fd o1) (fe o1) (fh o1) (fi o1) (fm o1) (fo o1) (fp o1) (fq o1) (fr o1)
def H1x66 (s : List Int32) (o0 o1 : Ob) (a0_20 a0_21 a0_22 : List Int32) : QHeap := H1v s (fA o0) (fB o0) (fC o0) (fD o0) (fE o0) (fF o0) (fG o0) (fH o0) (fI o0) (fJ o0) (fK o0) (fL o0) (fM o0) (fO o0) (fP o0) (fQ o0) (fR o0) (fT o0) (fU o0) (fV o0) a0_20 a0_21 a0_22 (fZ o0) (fa o0) (fb o0) (fc o0) (fd o0) (fe o0) (fh o0) (fi o0) (fm o0) (fo o0) (fp o0) (fq o0) (fr o0) (fA o1) (fB o1) (fC o1) (fD o1) (fE o1) (fF o1) (fG o1) (fH o1) (fI o1) (fJ o1) (fK o1) (fL o1) (fM o1) (fO o1) (fP o1) (fQ o1) (fR o1) (fT o1) (fU o1) (fV o1) (fW o1) (fX o1) (fY o1) (fZ o1) (fa o1) (fb o1) (fc o1) (fd o1) (fe o1) (fh o1) (fi o1) (fm o1) (fo o1) (fp o1) (fq o1) (fr o1)
def H1x67 (s : List Int32) (o0 o1 : Ob) (a0_20 a0_21 : List Int32) (a0_22 a0_23 : List Int32) : QHeap := H1v s (fA o0) (fB o0) (fC o0) (fD o0) (fE o0) (fF o0) (fG o0) (fH o0) (fI o0) (fJ o0) (fK o0) (fL o0) (fM o0) (fO o0) (fP o0) (fQ o0) (fR o0) (fT o0) (fU o0) (fV o0) a0_20 a0_21 a0_22 a0_23 (fa o0) (fb o0) (fc o0) (fd o0) (fe o0) (fh o0) (fi o0) (fm o0) (fo o0) (fp o0) (fq o0) (fr o0) (fA o1) (fB o1) (fC o1) (fD o1) (fE o1) (fF o1) (fG o1) (fH o1) (fI o1) (fJ o1) (fK o1) (fL o1) (fM o1) (fO o1) (fP o1) (fQ o1) (fR o1) (fT o1) (fU o1) (fV o1) (fW o1) (fX o1) (fY o1) (fZ o1) (fa o1) (fb o1) (fc o1) (fd o1) (fe o1) (fh o1) (fi o1) (fm o1) (fo o1) (fp o1) (fq o1) (fr o1)
def H1x68 (s : List Int32) (o0 o1 : Ob) (a0_25 : List Int32) : QHeap := H1v s (fA o0) (fB o0) (fC o0) (fD o0) (fE o0) (fF o0) (fG o0) (fH o0) (fI o0) (fJ o0) (fK o0) (fL o0) (fM o0) (fO o0) (fP o0) (fQ o0) (fR o0) (fT o0) (fU o0) (fV o0) (fW o0) (fX o0) (fY o0) (fZ o0) (fa o0) a0_25 (fc o0) (fd o0) (fe o0) (fh o0) (fi o0) (fm o0) (fo o0) (fp o0) (fq o0) (fr o0) (fA o1) (fB o1) (fC o1) (fD o1) (fE o1) (fF o1) (fG o1) (fH o1) (fI o1) (fJ o1) (fK o1) (fL o1) (fM o1) (fO o1) (fP o1) (fQ o1) (fR o1) (fT o1) (fU o1) (fV o1) (fW o1) (fX o1) (fY o1) (fZ o1) (fa o1) (fb o1) (fc o1) (fd o1) (fe o1) (fh o1) (fi o1) (fm o1) (fo o1) (fp o1) (fq o1) (fr o1)
def H1x69 (s : List Int32) (o0 o1 : Ob) (a0_25 a0_26 : List Int32) : QHeap := H1v s (fA o0) (fB o0) (fC o0) (fD o0) (fE o0) (fF o0) (fG o0) (fH o0) (fI o0) (fJ o0) (fK o0) (fL o0) (fM o0) (fO o0) (fP o0) (fQ o0) (fR o0) (fT o0) (fU o0) (fV o0) (fW o0) (fX o0) (fY o0) (fZ o0) (fa o0) a0_25 a0_26 (fd o0) (fe o0) (fh o0) (fi o0) (fm o0) (fo o0) (fp o0) (fq o0) (fr o0) (fA o1) (fB o1) (fC o1) (fD o1) (fE o1) (fF o1) (fG o1) (fH o1) (fI o1) (fJ o1) (fK o1) (fL o1) (fM o1) (fO o1) (fP o1) (fQ o1) (fR o1) (fT o1) (fU o1) (fV o1) (fW o1) (fX o1) (fY o1) (fZ o1) (fa o1) (fb o1) (fc o1) (fd o1) (fe o1) (fh o1) (fi o1) (fm o1) (fo o1) (fp o1) (fq o1) (fr o1)
def H1x70 (s : List Int32) (o0 o1 : Ob) (a0_25 a0_26 a0_27 : List Int32) : QHeap := H1v s (fA o0) (fB o0) (fC o0) (fD o0) (fE o0) (fF o0) (fG o0) (fH o0) (fI o0) (fJ o0) (fK o0) (fL o0) (fM o0) (fO o0) (fP o0) (fQ o0) (fR o0) (fT o0) (fU o0) (fV o0) (fW o0) (fX o0) (fY o0) (fZ o0) (fa o0) a0_25 a0_26 a0_27 (fe o0) (fh o0) (fi o0) (fm o0) (fo o0) (fp o0) (fq o0) (fr o0) (fA o1) (fB o1) (fC o1) (fD o1) (fE o1) (fF o1) (fG o1) (fH o1) (fI o1) (fJ o1) (fK o1) (fL o1) (fM o1) (fO o1) (fP o1) (fQ o1) (fR o1) (fT o1) (fU o1) (fV o1) (fW o1) (fX o1) (fY o1) (fZ o1) (fa o1) (fb o1) (fc o1) (fd o1) (fe o1) (fh o1) (fi o1) (fm o1) (fo o1) (fp o1) (fq o1) (fr o1)
def H1x71 (s : List Int32) (o0 o1 : Ob) (a0_24 a0_25 : List Int32) (a0_26 a0_27 : List Int32) : QHeap := H1v s (fA o0) (fB o0) (fC o0) (fD o0) (fE o0) (fF o0) (fG o0) (fH o0) (fI o0) (fJ o0) (fK o0) (fL o0) (fM o0) (fO o0) (fP o0) (fQ o0) (fR o0) (fT o0) (fU o0) (fV o0) (fW o0) (fX o0) (fY o0) (fZ o0) a0_24 a0_25 a0_26 a0_27 (fe o0) (fh o0) (fi o0) (fm o0) (fo o0) (fp o0) (fq o0) (fr o0) (fA o1) (fB o1) (fC o1) (fD o1) (fE o1) (fF o1) (fG o1) (fH o1) (fI o1) (fJ o1) (fK o1) (fL o1) (fM o1) (fO o1) (fP o1) (fQ o1) (fR o1) (fT o1) (fU o1) (fV o1) (fW o1) (fX o1) (fY o1) (fZ o1) (fa o1) (fb o1) (fc o1) (fd o1) (fe o1) (fh o1) (fi o1) (fm o1) (fo o1) (fp o1) (fq o1) (fr o1)
def J32_175 (o : Ob) (x1 x2 : Int32) (x4 x5 : Int32) : Option (Ob) :=
  (aget (fF o) x2).bind fun y399 => (aset (fb o) x1 y399).bind fun y400 => (aset (fc o) x1 x4).bind fun y401 => (aset (fd o) x1 x5).bind fun y402 => some (sd (sc (sb o y400) y401) y402)
theorem tJ32_175 (Ad : QAd n0 ad) (W : QW Z a0) (s : List Int32) (e0 o : Ob) (x1 x2 : Int32) (x4 x5 : Int32) {r : Ob} (h : J32_175 o x1 x2 x4 x5 = some r) : QTri l Z n0 ad 32 (175, [vR 1, vI x1, vI x2, nN, vI x4, vI x5], [], (H1 s o e0)) (none : Option Value) (H1 s r e0) := by
 unfold J32_175 at h
 refine yS Ad W 6 (185, [vR 1, vI x1, vI x2, nN, vI x4, vI x5], [.int x2, .ref 7, .int x1, .ref 27], (H1 s o e0)) rfl ?_
 obtain ⟨y399, hy399, h⟩ := be h
 refine zB Ad W (f := fun y399 => (186, [vR 1, vI x1, vI x2, nN, vI x4, vI x5], [.int y399, .int x1, .ref 27], (H1 s o e0))) rfl hy399 ?_
 obtain ⟨y400, hy400, h⟩ := be h
 refine zB Ad W (f := fun y400 => (187, [vR 1, vI x1, vI x2, nN, vI x4, vI x5], [], (H1x68 s o e0 y400))) rfl hy400 ?_
 refine yS Ad W 4 (194, [vR 1, vI x1, vI x2, nN, vI x4, vI x5], [.int x4, .int x1, .ref 28], (H1x68 s o e0 y400)) rfl ?_
 obtain ⟨y401, hy401, h⟩ := be h
 refine zB Ad W (f := fun y401 => (195, [vR 1, vI x1, vI x2, nN, vI x4, vI x5], [], (H1x69 s o e0 y400 y401))) rfl hy401 ?_
 refine yS Ad W 4 (202, [vR 1, vI x1, vI x2, nN, vI x4, vI x5], [.int x5, .int x1, .ref 29], (H1x69 s o e0 y400 y401)) rfl ?_
 obtain ⟨y402, hy402, h⟩ := be h
 refine zB Ad W (f := fun y402 => (203, [vR 1, vI x1, vI x2, nN, vI x4, vI x5], [], (H1x70 s o e0 y400 y401 y402))) rfl hy402 ?_
 have E403 : ((H1x70 s o e0 y400 y401 y402) : QHeap) = (H1 s (sd (sc (sb o y400) y401) y402) e0) := by simp only [fs, H1, H1v, H1x70, sb, sc, sd]
 rw [E403]
 obtain rfl := sj h
 exact ret0 rfl rfl
/-- compileTerm(II)V -/
def F32 (o : Ob) (x1 x2 : Int32) : Option (Ob) :=
 (aget (fE o) x2).bind fun y377 => (aset (fb o) x1 (0:Int32)).bind fun y378 => (aset (fc o) x1 (0:Int32)).bind fun y379 => (aset (fd o) x1 (0:Int32)).bind fun y380 => (if y377 = (1:Int32) then (aget (fG o) x2).bind fun y382 => (aget (fU o) y382).bind fun y383 => (aset y379 x1 y383).bind fun y384 => (if y383 = (x1 + (1:Int32)) then (aset (fa o) x1 (3:Int32)).bind fun y386 => some (sa (sc (sd (sb o y378) y380) y384) y386) else (aset (fa o) x1 (1:Int32)).bind fun y388 => some (sa (sc (sd (sb o y378) y380) y384) y388)) else (if y377 = (2:Int32) then (aget (fG o) x2).bind fun y391 => (aget (fU o) y391).bind fun y392 => (aget (fH o) x2).bind fun y393 => (aget (fU o) y393).bind fun y394 => (aset (fa o) x1 (2:Int32)).bind fun y395 => (if y392 = (x1 + (1:Int32)) then (if y394 = (x1 + (1:Int32)) then (J32_175 (sa (sd (sc (sb o y378) y379) y380) y395) x1 x2 y392 y394) else (aget (fF o) x2).bind fun y404 => (aset y378 x1 (y404 ^^^ (4:Int32))).bind fun y405 => (aset y379 x1 y394).bind fun y406 => (aset y380 x1 y392).bind fun y407 => some (sd (sc (sb (sa o y395) y405) y406) y407)) else (J32_175 (sa (sd (sc (sb o y378) y379) y380) y395) x1 x2 y392 y394)) else (aset (fa o) x1 (0:Int32)).bind fun y410 => some (sa (sd (sc (sb o y378) y379) y380) y410)))
theorem tF32 (Ad : QAd n0 ad) (W : QW Z a0) (s : List Int32) (e0 o : Ob) (x1 x2 : Int32) {r : Ob} (h : F32 o x1 x2 = some r) : QTri l Z n0 ad 32 (0, qentry [.ref 1, .int x1, .int x2] (pMaxL 32), [], (H1 s o e0)) (none : Option Value) (H1 s r e0) := by
 unfold F32 at h
 refine yS Ad W 3 (5, [vR 1, vI x1, vI x2, nN, nN, nN], [.int x2, .ref 6], (H1 s o e0)) rfl ?_
 obtain ⟨y377, hy377, h⟩ := be h
 refine zB Ad W (f := fun y377 => (6, [vR 1, vI x1, vI x2, nN, nN, nN], [.int y377], (H1 s o e0))) rfl hy377 ?_
 refine yS Ad W 5 (13, [vR 1, vI x1, vI x2, vI y377, nN, nN], [.int 0, .int x1, .ref 27], (H1 s o e0)) rfl ?_
 obtain ⟨y378, hy378, h⟩ := be h
 refine zB Ad W (f := fun y378 => (14, [vR 1, vI x1, vI x2, vI y377, nN, nN], [], (H1x68 s o e0 y378))) rfl hy378 ?_
 refine yS Ad W 4 (20, [vR 1, vI x1, vI x2, vI y377, nN, nN], [.int 0, .int x1, .ref 28], (H1x68 s o e0 y378)) rfl ?_
 obtain ⟨y379, hy379, h⟩ := be h
 refine zB Ad W (f := fun y379 => (21, [vR 1, vI x1, vI x2, vI y377, nN, nN], [], (H1x69 s o e0 y378 y379))) rfl hy379 ?_
 refine yS Ad W 4 (27, [vR 1, vI x1, vI x2, vI y377, nN, nN], [.int 0, .int x1, .ref 29], (H1x69 s o e0 y378 y379)) rfl ?_
 obtain ⟨y380, hy380, h⟩ := be h
 refine zB Ad W (f := fun y380 => (28, [vR 1, vI x1, vI x2, vI y377, nN, nN], [], (H1x70 s o e0 y378 y379 y380))) rfl hy380 ?_
 refine yS Ad W 2 (30, [vR 1, vI x1, vI x2, vI y377, nN, nN], [.int 1, .int y377], (H1x70 s o e0 y378 y379 y380)) rfl ?_
 rcases qite h with ⟨c381, h⟩ | ⟨c381, h⟩
 ·refine yF Ad W 80 33 rfl (XT.ii_ne_f c381) ?_
  refine yS Ad W 5 (42, [vR 1, vI x1, vI x2, vI y377, nN, nN], [.int x2, .ref 8, .ref 20], (H1x70 s o e0 y378 y379 y380)) rfl ?_
  obtain ⟨y382, hy382, h⟩ := be h
  refine zB Ad W (f := fun y382 => (43, [vR 1, vI x1, vI x2, vI y377, nN, nN], [.int y382, .ref 20], (H1x70 s o e0 y378 y379 y380))) rfl hy382 ?_
  obtain ⟨y383, hy383, h⟩ := be h
  refine zB Ad W (f := fun y383 => (44, [vR 1, vI x1, vI x2, vI y377, nN, nN], [.int y383], (H1x70 s o e0 y378 y379 y380))) rfl hy383 ?_
  refine yS Ad W 5 (53, [vR 1, vI x1, vI x2, vI y377, vI y383, nN], [.int y383, .int x1, .ref 28], (H1x70 s o e0 y378 y379 y380)) rfl ?_
  obtain ⟨y384, hy384, h⟩ := be h
  refine zB Ad W (f := fun y384 => (54, [vR 1, vI x1, vI x2, vI y377, vI y383, nN], [], (H1x70 s o e0 y378 y384 y380))) rfl hy384 ?_
  refine yS Ad W 4 (59, [vR 1, vI x1, vI x2, vI y377, vI y383, nN], [.int (x1 + (1:Int32)), .int y383], (H1x70 s o e0 y378 y384 y380)) rfl ?_
  rcases qite h with ⟨c385, h⟩ | ⟨c385, h⟩
  ·refine yF Ad W 72 62 rfl (XT.ii_ne_f c385) ?_
   refine yS Ad W 4 (68, [vR 1, vI x1, vI x2, vI y377, vI y383, nN], [.int 3, .int x1, .ref 26], (H1x70 s o e0 y378 y384 y380)) rfl ?_
   obtain ⟨y386, hy386, h⟩ := be h
   refine zB Ad W (f := fun y386 => (69, [vR 1, vI x1, vI x2, vI y377, vI y383, nN], [], (H1x71 s o e0 y386 y378 y384 y380))) rfl hy386 ?_
   refine yS Ad W 1 (79, [vR 1, vI x1, vI x2, vI y377, vI y383, nN], [], (H1x71 s o e0 y386 y378 y384 y380)) rfl ?_
   have E387 : ((H1x71 s o e0 y386 y378 y384 y380) : QHeap) = (H1 s (sa (sc (sd (sb o y378) y380) y384) y386) e0) := by simp only [fs, H1, H1v, H1x71, sa, sb, sc, sd]
   rw [E387]
   obtain rfl := sj h
   exact ret0 rfl rfl
  ·refine yT Ad W 72 62 rfl (XT.ii_ne_t c385) ?_
   refine yS Ad W 4 (78, [vR 1, vI x1, vI x2, vI y377, vI y383, nN], [.int 1, .int x1, .ref 26], (H1x70 s o e0 y378 y384 y380)) rfl ?_
   obtain ⟨y388, hy388, h⟩ := be h
   refine zB Ad W (f := fun y388 => (79, [vR 1, vI x1, vI x2, vI y377, vI y383, nN], [], (H1x71 s o e0 y388 y378 y384 y380))) rfl hy388 ?_
   have E389 : ((H1x71 s o e0 y388 y378 y384 y380) : QHeap) = (H1 s (sa (sc (sd (sb o y378) y380) y384) y388) e0) := by simp only [fs, H1, H1v, H1x71, sa, sb, sc, sd]
   rw [E389]
   obtain rfl := sj h
   exact ret0 rfl rfl
 ·refine yT Ad W 80 33 rfl (XT.ii_ne_t c381) ?_
  refine yS Ad W 2 (82, [vR 1, vI x1, vI x2, vI y377, nN, nN], [.int 2, .int y377], (H1x70 s o e0 y378 y379 y380)) rfl ?_
  rcases qite h with ⟨c390, h⟩ | ⟨c390, h⟩
  ·refine yT Ad W 93 85 rfl (XT.ii_eq_t c390) ?_
   refine yS Ad W 5 (102, [vR 1, vI x1, vI x2, vI y377, nN, nN], [.int x2, .ref 8, .ref 20], (H1x70 s o e0 y378 y379 y380)) rfl ?_
   obtain ⟨y391, hy391, h⟩ := be h
   refine zB Ad W (f := fun y391 => (103, [vR 1, vI x1, vI x2, vI y377, nN, nN], [.int y391, .ref 20], (H1x70 s o e0 y378 y379 y380))) rfl hy391 ?_
   obtain ⟨y392, hy392, h⟩ := be h
   refine zB Ad W (f := fun y392 => (104, [vR 1, vI x1, vI x2, vI y377, nN, nN], [.int y392], (H1x70 s o e0 y378 y379 y380))) rfl hy392 ?_
   refine yS Ad W 6 (115, [vR 1, vI x1, vI x2, vI y377, vI y392, nN], [.int x2, .ref 9, .ref 20], (H1x70 s o e0 y378 y379 y380)) rfl ?_
   obtain ⟨y393, hy393, h⟩ := be h
   refine zB Ad W (f := fun y393 => (116, [vR 1, vI x1, vI x2, vI y377, vI y392, nN], [.int y393, .ref 20], (H1x70 s o e0 y378 y379 y380))) rfl hy393 ?_
   obtain ⟨y394, hy394, h⟩ := be h
   refine zB Ad W (f := fun y394 => (117, [vR 1, vI x1, vI x2, vI y377, vI y392, nN], [.int y394], (H1x70 s o e0 y378 y379 y380))) rfl hy394 ?_
   refine yS Ad W 5 (125, [vR 1, vI x1, vI x2, vI y377, vI y392, vI y394], [.int 2, .int x1, .ref 26], (H1x70 s o e0 y378 y379 y380)) rfl ?_
   obtain ⟨y395, hy395, h⟩ := be h
   refine zB Ad W (f := fun y395 => (126, [vR 1, vI x1, vI x2, vI y377, vI y392, vI y394], [], (H1x71 s o e0 y395 y378 y379 y380))) rfl hy395 ?_
   refine yS Ad W 4 (131, [vR 1, vI x1, vI x2, vI y377, vI y392, vI y394], [.int (x1 + (1:Int32)), .int y392], (H1x71 s o e0 y395 y378 y379 y380)) rfl ?_
   rcases qite h with ⟨c396, h⟩ | ⟨c396, h⟩
   ·refine yF Ad W 175 134 rfl (XT.ii_ne_f c396) ?_
    refine yS Ad W 4 (139, [vR 1, vI x1, vI x2, vI y377, vI y392, vI y394], [.int (x1 + (1:Int32)), .int y394], (H1x71 s o e0 y395 y378 y379 y380)) rfl ?_
    rcases qite h with ⟨c397, h⟩ | ⟨c397, h⟩
    ·refine yT Ad W 175 142 rfl (XT.ii_eq_t c397) ?_
     have E398 : ((H1x71 s o e0 y395 y378 y379 y380) : QHeap) = (H1 s (sa (sd (sc (sb o y378) y379) y380) y395) e0) := by simp only [fs, H1, H1v, H1x71, sa, sb, sc, sd]
     rw [E398]
     exact zM [tt,tt,tt,ff,tt,tt] (tJ32_175 Ad W s e0 (sa (sd (sc (sb o y378) y379) y380) y395) x1 x2 y392 y394 h)
    ·refine yF Ad W 175 142 rfl (XT.ii_eq_f c397) ?_
     refine yS Ad W 6 (152, [vR 1, vI x1, vI x2, vI y377, vI y392, vI y394], [.int x2, .ref 7, .int x1, .ref 27], (H1x71 s o e0 y395 y378 y379 y380)) rfl ?_
     obtain ⟨y404, hy404, h⟩ := be h
     refine zB Ad W (f := fun y404 => (153, [vR 1, vI x1, vI x2, vI y377, vI y392, vI y394], [.int y404, .int x1, .ref 27], (H1x71 s o e0 y395 y378 y379 y380))) rfl hy404 ?_
     refine yS Ad W 2 (155, [vR 1, vI x1, vI x2, vI y377, vI y392, vI y394], [.int (y404 ^^^ (4:Int32)), .int x1, .ref 27], (H1x71 s o e0 y395 y378 y379 y380)) rfl ?_
     obtain ⟨y405, hy405, h⟩ := be h
     refine zB Ad W (f := fun y405 => (156, [vR 1, vI x1, vI x2, vI y377, vI y392, vI y394], [], (H1x71 s o e0 y395 y405 y379 y380))) rfl hy405 ?_
     refine yS Ad W 4 (163, [vR 1, vI x1, vI x2, vI y377, vI y392, vI y394], [.int y394, .int x1, .ref 28], (H1x71 s o e0 y395 y405 y379 y380)) rfl ?_
     obtain ⟨y406, hy406, h⟩ := be h
     refine zB Ad W (f := fun y406 => (164, [vR 1, vI x1, vI x2, vI y377, vI y392, vI y394], [], (H1x71 s o e0 y395 y405 y406 y380))) rfl hy406 ?_
     refine yS Ad W 4 (171, [vR 1, vI x1, vI x2, vI y377, vI y392, vI y394], [.int y392, .int x1, .ref 29], (H1x71 s o e0 y395 y405 y406 y380)) rfl ?_
     obtain ⟨y407, hy407, h⟩ := be h
     refine zB Ad W (f := fun y407 => (172, [vR 1, vI x1, vI x2, vI y377, vI y392, vI y394], [], (H1x71 s o e0 y395 y405 y406 y407))) rfl hy407 ?_
     refine yS Ad W 1 (203, [vR 1, vI x1, vI x2, vI y377, vI y392, vI y394], [], (H1x71 s o e0 y395 y405 y406 y407)) rfl ?_
     have E408 : ((H1x71 s o e0 y395 y405 y406 y407) : QHeap) = (H1 s (sd (sc (sb (sa o y395) y405) y406) y407) e0) := by simp only [fs, H1, H1v, H1x71, sa, sb, sc, sd]
     rw [E408]
     obtain rfl := sj h
     exact ret0 rfl rfl
   ·refine yT Ad W 175 134 rfl (XT.ii_ne_t c396) ?_
    have E409 : ((H1x71 s o e0 y395 y378 y379 y380) : QHeap) = (H1 s (sa (sd (sc (sb o y378) y379) y380) y395) e0) := by simp only [fs, H1, H1v, H1x71, sa, sb, sc, sd]
    rw [E409]
    exact zM [tt,tt,tt,ff,tt,tt] (tJ32_175 Ad W s e0 (sa (sd (sc (sb o y378) y379) y380) y395) x1 x2 y392 y394 h)
  ·refine yF Ad W 93 85 rfl (XT.ii_eq_f c390) ?_
   refine yS Ad W 4 (91, [vR 1, vI x1, vI x2, vI y377, nN, nN], [.int 0, .int x1, .ref 26], (H1x70 s o e0 y378 y379 y380)) rfl ?_
   obtain ⟨y410, hy410, h⟩ := be h
   refine zB Ad W (f := fun y410 => (92, [vR 1, vI x1, vI x2, vI y377, nN, nN], [], (H1x71 s o e0 y410 y378 y379 y380))) rfl hy410 ?_
   have E411 : ((H1x71 s o e0 y410 y378 y379 y380) : QHeap) = (H1 s (sa (sd (sc (sb o y378) y379) y380) y410) e0) := by simp only [fs, H1, H1v, H1x71, sa, sb, sc, sd]
   rw [E411]
   obtain rfl := sj h
   exact ret0 rfl rfl
def B31_2 (v : Int32 × Ob) : Option (((Ob)) ⊕ (Int32 × Ob)) :=
  (if v.1 < (fi v.2) then (if v.1 < (16 : Int32) then (aget (fV v.2) v.1).bind fun y367 => (aget (fA v.2) y367).bind fun y368 => (aset (fW v.2) v.1 y368).bind fun y369 => (aget (fB v.2) y367).bind fun y370 => (aset (fX v.2) v.1 y370).bind fun y371 => (aget (fC v.2) y367).bind fun y372 => (aset (fY v.2) v.1 y372).bind fun y373 => (aget (fD v.2) y367).bind fun y374 => (aset (fZ v.2) v.1 y374).bind fun y375 => (F32 (sZ (sY (sX (sW v.2 y369) y371) y373) y375) v.1 y367).bind fun r412 => some (.inr ((v.1 + (1 : Int32)), r412)) else some (.inl v.2)) else some (.inl v.2))
theorem tB31_2 (Ad : QAd n0 ad) (W : QW Z a0) (s : List Int32) (e0 : Ob) (v : Int32 × Ob) {r : ((Ob)) ⊕ (Int32 × Ob)} {u : Option Value} {τ : QHeap} (h : B31_2 v = some r) (hx0 : ∀ x : Ob, r = .inl x → u = (none : Option Value) ∧ τ = (H1 s x e0)) (hc : ∀ x : Int32 × Ob, r = .inr x → QTri l Z n0 ad 31 (2, [vR 1, vI x.1, nN], [], (H1 s x.2 e0)) u τ) : QTri l Z n0 ad 31 (2, [vR 1, vI v.1, nN], [], (H1 s v.2 e0)) u τ := by
 unfold B31_2 at h
 refine yS Ad W 3 (7, [vR 1, vI v.1, nN], [.int (fi v.2), .int v.1], (H1 s v.2 e0)) rfl ?_
 rcases qite h with ⟨c365, h⟩ | ⟨c365, h⟩
 ·refine yF Ad W 83 10 rfl (XT.ii_ge_f c365) ?_
  refine yS Ad W 2 (13, [vR 1, vI v.1, nN], [.int 16, .int v.1], (H1 s v.2 e0)) rfl ?_
  rcases qite h with ⟨c366, h⟩ | ⟨c366, h⟩
  ·refine yF Ad W 83 16 rfl (XT.ii_ge_f c366) ?_
   refine yS Ad W 3 (21, [vR 1, vI v.1, nN], [.int v.1, .ref 21], (H1 s v.2 e0)) rfl ?_
   obtain ⟨y367, hy367, h⟩ := be h
   refine zB Ad W (f := fun y367 => (22, [vR 1, vI v.1, nN], [.int y367], (H1 s v.2 e0))) rfl hy367 ?_
   refine yS Ad W 7 (33, [vR 1, vI v.1, vI y367], [.int y367, .ref 2, .int v.1, .ref 22], (H1 s v.2 e0)) rfl ?_
   obtain ⟨y368, hy368, h⟩ := be h
   refine zB Ad W (f := fun y368 => (34, [vR 1, vI v.1, vI y367], [.int y368, .int v.1, .ref 22], (H1 s v.2 e0))) rfl hy368 ?_
   obtain ⟨y369, hy369, h⟩ := be h
   refine zB Ad W (f := fun y369 => (35, [vR 1, vI v.1, vI y367], [], (H1x64 s v.2 e0 y369))) rfl hy369 ?_
   refine yS Ad W 6 (45, [vR 1, vI v.1, vI y367], [.int y367, .ref 3, .int v.1, .ref 23], (H1x64 s v.2 e0 y369)) rfl ?_
   obtain ⟨y370, hy370, h⟩ := be h
   refine zB Ad W (f := fun y370 => (46, [vR 1, vI v.1, vI y367], [.int y370, .int v.1, .ref 23], (H1x64 s v.2 e0 y369))) rfl hy370 ?_
   obtain ⟨y371, hy371, h⟩ := be h
   refine zB Ad W (f := fun y371 => (47, [vR 1, vI v.1, vI y367], [], (H1x65 s v.2 e0 y369 y371))) rfl hy371 ?_
   refine yS Ad W 6 (57, [vR 1, vI v.1, vI y367], [.int y367, .ref 4, .int v.1, .ref 24], (H1x65 s v.2 e0 y369 y371)) rfl ?_
   obtain ⟨y372, hy372, h⟩ := be h
   refine zB Ad W (f := fun y372 => (58, [vR 1, vI v.1, vI y367], [.int y372, .int v.1, .ref 24], (H1x65 s v.2 e0 y369 y371))) rfl hy372 ?_
   obtain ⟨y373, hy373, h⟩ := be h
   refine zB Ad W (f := fun y373 => (59, [vR 1, vI v.1, vI y367], [], (H1x66 s v.2 e0 y369 y371 y373))) rfl hy373 ?_
   refine yS Ad W 6 (69, [vR 1, vI v.1, vI y367], [.int y367, .ref 5, .int v.1, .ref 25], (H1x66 s v.2 e0 y369 y371 y373)) rfl ?_
   obtain ⟨y374, hy374, h⟩ := be h
   refine zB Ad W (f := fun y374 => (70, [vR 1, vI v.1, vI y367], [.int y374, .int v.1, .ref 25], (H1x66 s v.2 e0 y369 y371 y373))) rfl hy374 ?_
   obtain ⟨y375, hy375, h⟩ := be h
   refine zB Ad W (f := fun y375 => (71, [vR 1, vI v.1, vI y367], [], (H1x67 s v.2 e0 y369 y371 y373 y375))) rfl hy375 ?_
   refine yS Ad W 3 (74, [vR 1, vI v.1, vI y367], [.int y367, .int v.1, .ref 1], (H1x67 s v.2 e0 y369 y371 y373 y375)) rfl ?_
   have E376 : ((H1x67 s v.2 e0 y369 y371 y373 y375) : QHeap) = (H1 s (sZ (sY (sX (sW v.2 y369) y371) y373) y375) e0) := by simp only [fs, H1, H1v, H1x67, sW, sX, sY, sZ]
   rw [E376]
   obtain ⟨r412, hr412, h⟩ := be h
   refine callP W (a := 1) (as := [.int v.1, .int y367]) (rest := []) (w := none) (σ₁ := (H1 s r412 e0)) rfl rfl rfl rfl rfl rfl rfl rfl (tF32 Ad W s e0 (sZ (sY (sX (sW v.2 y369) y371) y373) y375) v.1 y367 hr412) ?_
   refine yS Ad W 2 (2, [vR 1, vI (v.1 + (1:Int32)), vI y367], [], (H1 s r412 e0)) rfl ?_
   obtain rfl := sj h
   exact zM [tt,tt,ff] (hc ((v.1 + (1:Int32)), r412) rfl)
  ·refine yT Ad W 83 16 rfl (XT.ii_ge_t c366) ?_
   obtain rfl := sj h
   obtain ⟨rfl, rfl⟩ := hx0 v.2 rfl
   exact ret0 rfl rfl
 ·refine yT Ad W 83 10 rfl (XT.ii_ge_t c365) ?_
  obtain rfl := sj h
  obtain ⟨rfl, rfl⟩ := hx0 v.2 rfl
  exact ret0 rfl rfl
/-- compileCode()V -/
def F31 (o : Ob) : Option (Ob) :=
 (loopN (B31_2) qN ((0:Int32), o)).bind fun e413 => some e413
theorem tF31 (Ad : QAd n0 ad) (W : QW Z a0) (s : List Int32) (e0 o : Ob) {r : Ob} (h : F31 o = some r) : QTri l Z n0 ad 31 (0, qentry [.ref 1] (pMaxL 31), [], (H1 s o e0)) (none : Option Value) (H1 s r e0) := by
 unfold F31 at h
 refine yS Ad W 2 (2, [vR 1, vI 0, nN], [], (H1 s o e0)) rfl ?_
 obtain ⟨e413, he413, h⟩ := be h
 refine zM [tt,tt,ff] (loopN_tri (B := B31_2) (T := fun lv414 => QTri l Z n0 ad 31 (2, [vR 1, vI lv414.1, nN], [], (H1 s lv414.2 e0)) (none : Option Value) (H1 s r e0)) (KE := fun e413a => (none : Option Value) = (none : Option Value) ∧ (H1 s r e0) = (H1 s e413a e0)) (fun lv414 r hB hE hC => tB31_2 Ad W s e0 lv414 hB (fun x q => hE _ q) (fun x q => hC x q)) qN ((0:Int32), o) e413 he413 ?_)
 obtain rfl := sj h
 exact ⟨rfl, rfl⟩
def H1x72 (s : List Int32) (o0 o1 : Ob) (a0_31 : Int32) : QHeap := H1v s (fA o0) (fB o0) (fC o0) (fD o0) (fE o0) (fF o0) (fG o0) (fH o0) (fI o0) (fJ o0) (fK o0) (fL o0) (fM o0) (fO o0) (fP o0) (fQ o0) (fR o0) (fT o0) (fU o0) (fV o0) (fW o0) (fX o0) (fY o0) (fZ o0) (fa o0) (fb o0) (fc o0) (fd o0) (fe o0) (fh o0) (fi o0) a0_31 (fo o0) (fp o0) (fq o0) (fr o0) (fA o1) (fB o1) (fC o1) (fD o1) (fE o1) (fF o1) (fG o1) (fH o1) (fI o1) (fJ o1) (fK o1) (fL o1) (fM o1) (fO o1) (fP o1) (fQ o1) (fR o1) (fT o1) (fU o1) (fV o1) (fW o1) (fX o1) (fY o1) (fZ o1) (fa o1) (fb o1) (fc o1) (fd o1) (fe o1) (fh o1) (fi o1) (fm o1) (fo o1) (fp o1) (fq o1) (fr o1)
/-- layout()Z -/
def F23 (o : Ob) : Option (Int32 × Ob) :=
 (if (fm o) = (0:Int32) then (if (fi o) = (0:Int32) then some ((0:Int32), o) else (F24 o).bind fun r265 => (F26 r265).bind fun r290 => (F27 r290).bind fun r328 => (F29 r328).bind fun r364 => (F31 r364).bind fun r415 => some ((1:Int32), (sm r415 (1:Int32)))) else some ((0:Int32), o))
theorem tF23 (Ad : QAd n0 ad) (W : QW Z a0) (s : List Int32) (e0 o : Ob) {r : Int32 × Ob} (h : F23 o = some r) : QTri l Z n0 ad 23 (0, qentry [.ref 1] (pMaxL 23), [], (H1 s o e0)) (some (Value.int r.1)) (H1 s r.2 e0) := by
 unfold F23 at h
 refine yS Ad W 2 (4, [vR 1], [.int (fm o)], (H1 s o e0)) rfl ?_
 rcases qite h with ⟨c231, h⟩ | ⟨c231, h⟩
 ·refine yF Ad W 14 7 rfl (XT.i0_ne_f c231) ?_
  refine yS Ad W 2 (11, [vR 1], [.int (fi o)], (H1 s o e0)) rfl ?_
  rcases qite h with ⟨c232, h⟩ | ⟨c232, h⟩
  ·refine yF Ad W 16 14 rfl (XT.i0_ne_f c232) ?_
   refine yS Ad W 1 (15, [vR 1], [.int 0], (H1 s o e0)) rfl ?_
   obtain rfl := sj h
   exact retZ rfl rfl
  ·refine yT Ad W 16 14 rfl (XT.i0_ne_t c232) ?_
   refine yS Ad W 1 (17, [vR 1], [.ref 1], (H1 s o e0)) rfl ?_
   obtain ⟨r265, hr265, h⟩ := be h
   refine callP W (a := 1) (as := []) (rest := []) (w := none) (σ₁ := (H1 s r265 e0)) rfl rfl rfl rfl rfl rfl rfl rfl (tF24 Ad W s e0 o hr265) ?_
   refine yS Ad W 1 (21, [vR 1], [.ref 1], (H1 s r265 e0)) rfl ?_
   obtain ⟨r290, hr290, h⟩ := be h
   refine callP W (a := 1) (as := []) (rest := []) (w := none) (σ₁ := (H1 s r290 e0)) rfl rfl rfl rfl rfl rfl rfl rfl (tF26 Ad W s e0 r265 hr290) ?_
   refine yS Ad W 1 (25, [vR 1], [.ref 1], (H1 s r290 e0)) rfl ?_
   obtain ⟨r328, hr328, h⟩ := be h
   refine callP W (a := 1) (as := []) (rest := []) (w := none) (σ₁ := (H1 s r328 e0)) rfl rfl rfl rfl rfl rfl rfl rfl (tF27 Ad W s e0 r290 hr328) ?_
   refine yS Ad W 1 (29, [vR 1], [.ref 1], (H1 s r328 e0)) rfl ?_
   obtain ⟨r364, hr364, h⟩ := be h
   refine callP W (a := 1) (as := []) (rest := []) (w := none) (σ₁ := (H1 s r364 e0)) rfl rfl rfl rfl rfl rfl rfl rfl (tF29 Ad W s e0 r328 hr364) ?_
   refine yS Ad W 1 (33, [vR 1], [.ref 1], (H1 s r364 e0)) rfl ?_
   obtain ⟨r415, hr415, h⟩ := be h
   refine callP W (a := 1) (as := []) (rest := []) (w := none) (σ₁ := (H1 s r415 e0)) rfl rfl rfl rfl rfl rfl rfl rfl (tF31 Ad W s e0 r364 hr415) ?_
   refine yS Ad W 4 (42, [vR 1], [.int 1], (H1x72 s r415 e0 (1:Int32))) rfl ?_
   have E416 : ((H1x72 s r415 e0 (1:Int32)) : QHeap) = (H1 s (sm r415 (1:Int32)) e0) := by simp only [fs, H1, H1v, H1x72, sm]
   rw [E416]
   obtain rfl := sj h
   exact retZ rfl rfl
 ·refine yT Ad W 14 7 rfl (XT.i0_ne_t c231) ?_
  refine yS Ad W 1 (15, [vR 1], [.int 0], (H1 s o e0)) rfl ?_
  obtain rfl := sj h
  exact retZ rfl rfl
def H1x73 (s : List Int32) (o0 o1 : Ob) (a0_10 : List Int32) (a0_32 : Int32) : QHeap := H1v s (fA o0) (fB o0) (fC o0) (fD o0) (fE o0) (fF o0) (fG o0) (fH o0) (fI o0) (fJ o0) a0_10 (fL o0) (fM o0) (fO o0) (fP o0) (fQ o0) (fR o0) (fT o0) (fU o0) (fV o0) (fW o0) (fX o0) (fY o0) (fZ o0) (fa o0) (fb o0) (fc o0) (fd o0) (fe o0) (fh o0) (fi o0) (fm o0) a0_32 (fp o0) (fq o0) (fr o0) (fA o1) (fB o1) (fC o1) (fD o1) (fE o1) (fF o1) (fG o1) (fH o1) (fI o1) (fJ o1) (fK o1) (fL o1) (fM o1) (fO o1) (fP o1) (fQ o1) (fR o1) (fT o1) (fU o1) (fV o1) (fW o1) (fX o1) (fY o1) (fZ o1) (fa o1) (fb o1) (fc o1) (fd o1) (fe o1) (fh o1) (fi o1) (fm o1) (fo o1) (fp o1) (fq o1) (fr o1)
def H1x74 (s : List Int32) (o0 o1 : Ob) (a0_10 : List Int32) (a0_32 a0_33 : Int32) : QHeap := H1v s (fA o0) (fB o0) (fC o0) (fD o0) (fE o0) (fF o0) (fG o0) (fH o0) (fI o0) (fJ o0) a0_10 (fL o0) (fM o0) (fO o0) (fP o0) (fQ o0) (fR o0) (fT o0) (fU o0) (fV o0) (fW o0) (fX o0) (fY o0) (fZ o0) (fa o0) (fb o0) (fc o0) (fd o0) (fe o0) (fh o0) (fi o0) (fm o0) a0_32 a0_33 (fq o0) (fr o0) (fA o1) (fB o1) (fC o1) (fD o1) (fE o1) (fF o1) (fG o1) (fH o1) (fI o1) (fJ o1) (fK o1) (fL o1) (fM o1) (fO o1) (fP o1) (fQ o1) (fR o1) (fT o1) (fU o1) (fV o1) (fW o1) (fX o1) (fY o1) (fZ o1) (fa o1) (fb o1) (fc o1) (fd o1) (fe o1) (fh o1) (fi o1) (fm o1) (fo o1) (fp o1) (fq o1) (fr o1)
def H1x75 (s : List Int32) (o0 o1 : Ob) (a0_33 : Int32) : QHeap := H1v s (fA o0) (fB o0) (fC o0) (fD o0) (fE o0) (fF o0) (fG o0) (fH o0) (fI o0) (fJ o0) (fK o0) (fL o0) (fM o0) (fO o0) (fP o0) (fQ o0) (fR o0) (fT o0) (fU o0) (fV o0) (fW o0) (fX o0) (fY o0) (fZ o0) (fa o0) (fb o0) (fc o0) (fd o0) (fe o0) (fh o0) (fi o0) (fm o0) (fo o0) a0_33 (fq o0) (fr o0) (fA o1) (fB o1) (fC o1) (fD o1) (fE o1) (fF o1) (fG o1) (fH o1) (fI o1) (fJ o1) (fK o1) (fL o1) (fM o1) (fO o1) (fP o1) (fQ o1) (fR o1) (fT o1) (fU o1) (fV o1) (fW o1) (fX o1) (fY o1) (fZ o1) (fa o1) (fb o1) (fc o1) (fd o1) (fe o1) (fh o1) (fi o1) (fm o1) (fo o1) (fp o1) (fq o1) (fr o1)
def J13_192 (o : Ob) : Option (Ob) :=
  some (so o ((fo o) + (1 : Int32)))
theorem tJ13_192 (Ad : QAd n0 ad) (W : QW Z a0) (s : List Int32) (e0 o : Ob) {r : Ob} (h : J13_192 o = some r) : QTri l Z n0 ad 13 (192, [vR 1, nN, nN, nN, nN], [], (H1 s o e0)) (none : Option Value) (H1 s r e0) := by
 unfold J13_192 at h
 refine yS Ad W 6 (202, [vR 1, nN, nN, nN, nN], [], (H1x22 s o e0 ((fo o) + (1:Int32)))) rfl ?_
 have E466 : ((H1x22 s o e0 ((fo o) + (1:Int32))) : QHeap) = (H1 s (so o ((fo o) + (1:Int32))) e0) := by simp only [fs, H1, H1v, H1x22, so]
 rw [E466]
 obtain rfl := sj h
 exact ret0 rfl rfl
/-- doOp(IIII)V -/
def F13 (o : Ob) (x1 x2 : Int32) (x3 x4 : Int32) : Option (Ob) :=
 (if x2 < (0:Int32) then some o else (if (3:Int32) < x2 then some o else (if x3 < (0:Int32) then some o else (if (3:Int32) < x3 then some o else (if x1 = (1:Int32) then (aset (fK o) x2 x4).bind fun y440 => some (sK o y440) else (if x1 = (2:Int32) then (aget (fK o) x3).bind fun y443 => (aset (fK o) x2 y443).bind fun y444 => some (sK o y444) else (if x1 = (3:Int32) then (aget (fK o) x2).bind fun y447 => (aset (fK o) x2 (y447 + x4)).bind fun y448 => some (sK o y448) else (if x1 = (4:Int32) then (aget (fK o) x2).bind fun y451 => (aget (fK o) x3).bind fun y452 => (aset (fK o) x2 (y451 + y452)).bind fun y453 => some (sK o y453) else (if x1 = (5:Int32) then (aget (fK o) x2).bind fun y456 => (aget (fK o) x3).bind fun y457 => (aset (fK o) x2 (y456 - y457)).bind fun y458 => some (sK o y458) else (if x1 = (6:Int32) then (aget (fK o) x2).bind fun y461 => (aset (fK o) x2 (y461 >>> ((1:Int32) &&& 31))).bind fun y462 => some (sK o y462) else (if x1 = (7:Int32) then (if (fo o) < (0:Int32) then (J13_192 o) else (if (fo o) < (16:Int32) then (aget (fK o) x2).bind fun y468 => (aset (fL o) (fo o) y468).bind fun y469 => (J13_192 (sL o y469)) else (J13_192 o))) else some o)))))))))))
theorem tF13 (Ad : QAd n0 ad) (W : QW Z a0) (s : List Int32) (e0 o : Ob) (x1 x2 : Int32) (x3 x4 : Int32) {r : Ob} (h : F13 o x1 x2 x3 x4 = some r) : QTri l Z n0 ad 13 (0, qentry [.ref 1, .int x1, .int x2, .int x3, .int x4] (pMaxL 13), [], (H1 s o e0)) (none : Option Value) (H1 s r e0) := by
 unfold F13 at h
 refine yS Ad W 1 (1, [vR 1, vI x1, vI x2, vI x3, vI x4], [.int x2], (H1 s o e0)) rfl ?_
 rcases qite h with ⟨c435, h⟩ | ⟨c435, h⟩
 ·refine yT Ad W 18 4 rfl (XT.i0_lt_t c435) ?_
  obtain rfl := sj h
  exact ret0 rfl rfl
 ·refine yF Ad W 18 4 rfl (XT.i0_lt_f c435) ?_
  refine yS Ad W 2 (6, [vR 1, vI x1, vI x2, vI x3, vI x4], [.int 3, .int x2], (H1 s o e0)) rfl ?_
  rcases qite h with ⟨c436, h⟩ | ⟨c436, h⟩
  ·refine yT Ad W 18 9 rfl (XT.ii_gt_t c436) ?_
   obtain rfl := sj h
   exact ret0 rfl rfl
  ·refine yF Ad W 18 9 rfl (XT.ii_gt_f c436) ?_
   refine yS Ad W 1 (10, [vR 1, vI x1, vI x2, vI x3, vI x4], [.int x3], (H1 s o e0)) rfl ?_
   rcases qite h with ⟨c437, h⟩ | ⟨c437, h⟩
   ·refine yT Ad W 18 13 rfl (XT.i0_lt_t c437) ?_
    obtain rfl := sj h
    exact ret0 rfl rfl
   ·refine yF Ad W 18 13 rfl (XT.i0_lt_f c437) ?_
    refine yS Ad W 2 (15, [vR 1, vI x1, vI x2, vI x3, vI x4], [.int 3, .int x3], (H1 s o e0)) rfl ?_
    rcases qite h with ⟨c438, h⟩ | ⟨c438, h⟩
    ·refine yF Ad W 19 18 rfl (XT.ii_le_f c438) ?_
     obtain rfl := sj h
     exact ret0 rfl rfl
    ·refine yT Ad W 19 18 rfl (XT.ii_le_t c438) ?_
     refine yS Ad W 2 (21, [vR 1, vI x1, vI x2, vI x3, vI x4], [.int 1, .int x1], (H1 s o e0)) rfl ?_
     rcases qite h with ⟨c439, h⟩ | ⟨c439, h⟩
     ·refine yF Ad W 35 24 rfl (XT.ii_ne_f c439) ?_
      refine yS Ad W 4 (31, [vR 1, vI x1, vI x2, vI x3, vI x4], [.int x4, .int x2, .ref 12], (H1 s o e0)) rfl ?_
      obtain ⟨y440, hy440, h⟩ := be h
      refine zB Ad W (f := fun y440 => (32, [vR 1, vI x1, vI x2, vI x3, vI x4], [], (H1x20 s o e0 y440))) rfl hy440 ?_
      refine yS Ad W 1 (202, [vR 1, vI x1, vI x2, vI x3, vI x4], [], (H1x20 s o e0 y440)) rfl ?_
      have E441 : ((H1x20 s o e0 y440) : QHeap) = (H1 s (sK o y440) e0) := by simp only [fs, H1, H1v, H1x20, sK]
      rw [E441]
      obtain rfl := sj h
      exact ret0 rfl rfl
     ·refine yT Ad W 35 24 rfl (XT.ii_ne_t c439) ?_
      refine yS Ad W 2 (37, [vR 1, vI x1, vI x2, vI x3, vI x4], [.int 2, .int x1], (H1 s o e0)) rfl ?_
      rcases qite h with ⟨c442, h⟩ | ⟨c442, h⟩
      ·refine yF Ad W 55 40 rfl (XT.ii_ne_f c442) ?_
       refine yS Ad W 6 (50, [vR 1, vI x1, vI x2, vI x3, vI x4], [.int x3, .ref 12, .int x2, .ref 12], (H1 s o e0)) rfl ?_
       obtain ⟨y443, hy443, h⟩ := be h
       refine zB Ad W (f := fun y443 => (51, [vR 1, vI x1, vI x2, vI x3, vI x4], [.int y443, .int x2, .ref 12], (H1 s o e0))) rfl hy443 ?_
       obtain ⟨y444, hy444, h⟩ := be h
       refine zB Ad W (f := fun y444 => (52, [vR 1, vI x1, vI x2, vI x3, vI x4], [], (H1x20 s o e0 y444))) rfl hy444 ?_
       refine yS Ad W 1 (202, [vR 1, vI x1, vI x2, vI x3, vI x4], [], (H1x20 s o e0 y444)) rfl ?_
       have E445 : ((H1x20 s o e0 y444) : QHeap) = (H1 s (sK o y444) e0) := by simp only [fs, H1, H1v, H1x20, sK]
       rw [E445]
       obtain rfl := sj h
       exact ret0 rfl rfl
      ·refine yT Ad W 55 40 rfl (XT.ii_ne_t c442) ?_
       refine yS Ad W 2 (57, [vR 1, vI x1, vI x2, vI x3, vI x4], [.int 3, .int x1], (H1 s o e0)) rfl ?_
       rcases qite h with ⟨c446, h⟩ | ⟨c446, h⟩
       ·refine yF Ad W 78 60 rfl (XT.ii_ne_f c446) ?_
        refine yS Ad W 6 (70, [vR 1, vI x1, vI x2, vI x3, vI x4], [.int x2, .ref 12, .int x2, .ref 12], (H1 s o e0)) rfl ?_
        obtain ⟨y447, hy447, h⟩ := be h
        refine zB Ad W (f := fun y447 => (71, [vR 1, vI x1, vI x2, vI x3, vI x4], [.int y447, .int x2, .ref 12], (H1 s o e0))) rfl hy447 ?_
        refine yS Ad W 2 (74, [vR 1, vI x1, vI x2, vI x3, vI x4], [.int (y447 + x4), .int x2, .ref 12], (H1 s o e0)) rfl ?_
        obtain ⟨y448, hy448, h⟩ := be h
        refine zB Ad W (f := fun y448 => (75, [vR 1, vI x1, vI x2, vI x3, vI x4], [], (H1x20 s o e0 y448))) rfl hy448 ?_
        refine yS Ad W 1 (202, [vR 1, vI x1, vI x2, vI x3, vI x4], [], (H1x20 s o e0 y448)) rfl ?_
        have E449 : ((H1x20 s o e0 y448) : QHeap) = (H1 s (sK o y448) e0) := by simp only [fs, H1, H1v, H1x20, sK]
        rw [E449]
        obtain rfl := sj h
        exact ret0 rfl rfl
       ·refine yT Ad W 78 60 rfl (XT.ii_ne_t c446) ?_
        refine yS Ad W 2 (80, [vR 1, vI x1, vI x2, vI x3, vI x4], [.int 4, .int x1], (H1 s o e0)) rfl ?_
        rcases qite h with ⟨c450, h⟩ | ⟨c450, h⟩
        ·refine yF Ad W 105 83 rfl (XT.ii_ne_f c450) ?_
         refine yS Ad W 6 (93, [vR 1, vI x1, vI x2, vI x3, vI x4], [.int x2, .ref 12, .int x2, .ref 12], (H1 s o e0)) rfl ?_
         obtain ⟨y451, hy451, h⟩ := be h
         refine zB Ad W (f := fun y451 => (94, [vR 1, vI x1, vI x2, vI x3, vI x4], [.int y451, .int x2, .ref 12], (H1 s o e0))) rfl hy451 ?_
         refine yS Ad W 3 (99, [vR 1, vI x1, vI x2, vI x3, vI x4], [.int x3, .ref 12, .int y451, .int x2, .ref 12], (H1 s o e0)) rfl ?_
         obtain ⟨y452, hy452, h⟩ := be h
         refine zB Ad W (f := fun y452 => (100, [vR 1, vI x1, vI x2, vI x3, vI x4], [.int y452, .int y451, .int x2, .ref 12], (H1 s o e0))) rfl hy452 ?_
         refine yS Ad W 1 (101, [vR 1, vI x1, vI x2, vI x3, vI x4], [.int (y451 + y452), .int x2, .ref 12], (H1 s o e0)) rfl ?_
         obtain ⟨y453, hy453, h⟩ := be h
         refine zB Ad W (f := fun y453 => (102, [vR 1, vI x1, vI x2, vI x3, vI x4], [], (H1x20 s o e0 y453))) rfl hy453 ?_
         refine yS Ad W 1 (202, [vR 1, vI x1, vI x2, vI x3, vI x4], [], (H1x20 s o e0 y453)) rfl ?_
         have E454 : ((H1x20 s o e0 y453) : QHeap) = (H1 s (sK o y453) e0) := by simp only [fs, H1, H1v, H1x20, sK]
         rw [E454]
         obtain rfl := sj h
         exact ret0 rfl rfl
        ·refine yT Ad W 105 83 rfl (XT.ii_ne_t c450) ?_
         refine yS Ad W 2 (107, [vR 1, vI x1, vI x2, vI x3, vI x4], [.int 5, .int x1], (H1 s o e0)) rfl ?_
         rcases qite h with ⟨c455, h⟩ | ⟨c455, h⟩
         ·refine yF Ad W 132 110 rfl (XT.ii_ne_f c455) ?_
          refine yS Ad W 6 (120, [vR 1, vI x1, vI x2, vI x3, vI x4], [.int x2, .ref 12, .int x2, .ref 12], (H1 s o e0)) rfl ?_
          obtain ⟨y456, hy456, h⟩ := be h
          refine zB Ad W (f := fun y456 => (121, [vR 1, vI x1, vI x2, vI x3, vI x4], [.int y456, .int x2, .ref 12], (H1 s o e0))) rfl hy456 ?_
          refine yS Ad W 3 (126, [vR 1, vI x1, vI x2, vI x3, vI x4], [.int x3, .ref 12, .int y456, .int x2, .ref 12], (H1 s o e0)) rfl ?_
          obtain ⟨y457, hy457, h⟩ := be h
          refine zB Ad W (f := fun y457 => (127, [vR 1, vI x1, vI x2, vI x3, vI x4], [.int y457, .int y456, .int x2, .ref 12], (H1 s o e0))) rfl hy457 ?_
          refine yS Ad W 1 (128, [vR 1, vI x1, vI x2, vI x3, vI x4], [.int (y456 - y457), .int x2, .ref 12], (H1 s o e0)) rfl ?_
          obtain ⟨y458, hy458, h⟩ := be h
          refine zB Ad W (f := fun y458 => (129, [vR 1, vI x1, vI x2, vI x3, vI x4], [], (H1x20 s o e0 y458))) rfl hy458 ?_
          refine yS Ad W 1 (202, [vR 1, vI x1, vI x2, vI x3, vI x4], [], (H1x20 s o e0 y458)) rfl ?_
          have E459 : ((H1x20 s o e0 y458) : QHeap) = (H1 s (sK o y458) e0) := by simp only [fs, H1, H1v, H1x20, sK]
          rw [E459]
          obtain rfl := sj h
          exact ret0 rfl rfl
         ·refine yT Ad W 132 110 rfl (XT.ii_ne_t c455) ?_
          refine yS Ad W 2 (135, [vR 1, vI x1, vI x2, vI x3, vI x4], [.int 6, .int x1], (H1 s o e0)) rfl ?_
          rcases qite h with ⟨c460, h⟩ | ⟨c460, h⟩
          ·refine yF Ad W 155 138 rfl (XT.ii_ne_f c460) ?_
           refine yS Ad W 6 (148, [vR 1, vI x1, vI x2, vI x3, vI x4], [.int x2, .ref 12, .int x2, .ref 12], (H1 s o e0)) rfl ?_
           obtain ⟨y461, hy461, h⟩ := be h
           refine zB Ad W (f := fun y461 => (149, [vR 1, vI x1, vI x2, vI x3, vI x4], [.int y461, .int x2, .ref 12], (H1 s o e0))) rfl hy461 ?_
           refine yS Ad W 2 (151, [vR 1, vI x1, vI x2, vI x3, vI x4], [.int (y461 >>> ((1:Int32) &&& 31)), .int x2, .ref 12], (H1 s o e0)) rfl ?_
           obtain ⟨y462, hy462, h⟩ := be h
           refine zB Ad W (f := fun y462 => (152, [vR 1, vI x1, vI x2, vI x3, vI x4], [], (H1x20 s o e0 y462))) rfl hy462 ?_
           refine yS Ad W 1 (202, [vR 1, vI x1, vI x2, vI x3, vI x4], [], (H1x20 s o e0 y462)) rfl ?_
           have E463 : ((H1x20 s o e0 y462) : QHeap) = (H1 s (sK o y462) e0) := by simp only [fs, H1, H1v, H1x20, sK]
           rw [E463]
           obtain rfl := sj h
           exact ret0 rfl rfl
          ·refine yT Ad W 155 138 rfl (XT.ii_ne_t c460) ?_
           refine yS Ad W 2 (158, [vR 1, vI x1, vI x2, vI x3, vI x4], [.int 7, .int x1], (H1 s o e0)) rfl ?_
           rcases qite h with ⟨c464, h⟩ | ⟨c464, h⟩
           ·refine yF Ad W 202 161 rfl (XT.ii_ne_f c464) ?_
            refine yS Ad W 2 (165, [vR 1, vI x1, vI x2, vI x3, vI x4], [.int (fo o)], (H1 s o e0)) rfl ?_
            rcases qite h with ⟨c465, h⟩ | ⟨c465, h⟩
            ·refine yT Ad W 192 168 rfl (XT.i0_lt_t c465) ?_
             exact zM [tt,ff,ff,ff,ff] (tJ13_192 Ad W s e0 o h)
            ·refine yF Ad W 192 168 rfl (XT.i0_lt_f c465) ?_
             refine yS Ad W 3 (174, [vR 1, vI x1, vI x2, vI x3, vI x4], [.int 16, .int (fo o)], (H1 s o e0)) rfl ?_
             rcases qite h with ⟨c467, h⟩ | ⟨c467, h⟩
             ·refine yF Ad W 192 177 rfl (XT.ii_ge_f c467) ?_
              refine yS Ad W 7 (190, [vR 1, vI x1, vI x2, vI x3, vI x4], [.int x2, .ref 12, .int (fo o), .ref 13], (H1 s o e0)) rfl ?_
              obtain ⟨y468, hy468, h⟩ := be h
              refine zB Ad W (f := fun y468 => (191, [vR 1, vI x1, vI x2, vI x3, vI x4], [.int y468, .int (fo o), .ref 13], (H1 s o e0))) rfl hy468 ?_
              obtain ⟨y469, hy469, h⟩ := be h
              refine zB Ad W (f := fun y469 => (192, [vR 1, vI x1, vI x2, vI x3, vI x4], [], (H1x21 s o e0 y469))) rfl hy469 ?_
              have E470 : ((H1x21 s o e0 y469) : QHeap) = (H1 s (sL o y469) e0) := by simp only [fs, H1, H1v, H1x21, sL]
              rw [E470]
              exact zM [tt,ff,ff,ff,ff] (tJ13_192 Ad W s e0 (sL o y469) h)
             ·refine yT Ad W 192 177 rfl (XT.ii_ge_t c467) ?_
              exact zM [tt,ff,ff,ff,ff] (tJ13_192 Ad W s e0 o h)
           ·refine yT Ad W 202 161 rfl (XT.ii_ne_t c464) ?_
            obtain rfl := sj h
            exact ret0 rfl rfl
/-- holds(I)Z -/
def F14 (o : Ob) (x1 : Int32) : Option (Int32) :=
 (aget (fK o) (x1 &&& (3:Int32))).bind fun y480 => (if ((x1 >>> ((2:Int32) &&& 31)) &&& (3:Int32)) = (0:Int32) then (if y480 = (0:Int32) then some (1:Int32) else some (0:Int32)) else (if ((x1 >>> ((2:Int32) &&& 31)) &&& (3:Int32)) = (1:Int32) then (if y480 = (0:Int32) then some (0:Int32) else some (1:Int32)) else (if ((x1 >>> ((2:Int32) &&& 31)) &&& (3:Int32)) = (2:Int32) then (if y480 < (0:Int32) then some (1:Int32) else some (0:Int32)) else (if y480 < (0:Int32) then some (0:Int32) else some (1:Int32)))))
theorem tF14 (Ad : QAd n0 ad) (W : QW Z a0) (s : List Int32) (e0 o : Ob) (x1 : Int32) {r : Int32} (h : F14 o x1 = some r) : QTri l Z n0 ad 14 (0, qentry [.ref 1, .int x1] (pMaxL 14), [], (H1 s o e0)) (some (Value.int r)) (H1 s o e0) := by
 unfold F14 at h
 refine yS Ad W 5 (7, [vR 1, vI x1, nN, nN], [.int (x1 &&& (3:Int32)), .ref 12], (H1 s o e0)) rfl ?_
 obtain ⟨y480, hy480, h⟩ := be h
 refine zB Ad W (f := fun y480 => (8, [vR 1, vI x1, nN, nN], [.int y480], (H1 s o e0))) rfl hy480 ?_
 refine yS Ad W 7 (15, [vR 1, vI x1, vI y480, vI ((x1 >>> ((2:Int32) &&& 31)) &&& (3:Int32))], [], (H1 s o e0)) rfl ?_
 refine yS Ad W 1 (16, [vR 1, vI x1, vI y480, vI ((x1 >>> ((2:Int32) &&& 31)) &&& (3:Int32))], [.int ((x1 >>> ((2:Int32) &&& 31)) &&& (3:Int32))], (H1 s o e0)) rfl ?_
 rcases qite h with ⟨c481, h⟩ | ⟨c481, h⟩
 ·refine yF Ad W 29 19 rfl (XT.i0_ne_f c481) ?_
  refine yS Ad W 1 (20, [vR 1, vI x1, vI y480, vI ((x1 >>> ((2:Int32) &&& 31)) &&& (3:Int32))], [.int y480], (H1 s o e0)) rfl ?_
  rcases qite h with ⟨c482, h⟩ | ⟨c482, h⟩
  ·refine yF Ad W 27 23 rfl (XT.i0_ne_f c482) ?_
   refine yS Ad W 2 (28, [vR 1, vI x1, vI y480, vI ((x1 >>> ((2:Int32) &&& 31)) &&& (3:Int32))], [.int 1], (H1 s o e0)) rfl ?_
   obtain rfl := sj h
   exact retZ rfl rfl
  ·refine yT Ad W 27 23 rfl (XT.i0_ne_t c482) ?_
   refine yS Ad W 1 (28, [vR 1, vI x1, vI y480, vI ((x1 >>> ((2:Int32) &&& 31)) &&& (3:Int32))], [.int 0], (H1 s o e0)) rfl ?_
   obtain rfl := sj h
   exact retZ rfl rfl
 ·refine yT Ad W 29 19 rfl (XT.i0_ne_t c481) ?_
  refine yS Ad W 2 (31, [vR 1, vI x1, vI y480, vI ((x1 >>> ((2:Int32) &&& 31)) &&& (3:Int32))], [.int 1, .int ((x1 >>> ((2:Int32) &&& 31)) &&& (3:Int32))], (H1 s o e0)) rfl ?_
  rcases qite h with ⟨c483, h⟩ | ⟨c483, h⟩
  ·refine yF Ad W 44 34 rfl (XT.ii_ne_f c483) ?_
   refine yS Ad W 1 (35, [vR 1, vI x1, vI y480, vI ((x1 >>> ((2:Int32) &&& 31)) &&& (3:Int32))], [.int y480], (H1 s o e0)) rfl ?_
   rcases qite h with ⟨c484, h⟩ | ⟨c484, h⟩
   ·refine yT Ad W 42 38 rfl (XT.i0_eq_t c484) ?_
    refine yS Ad W 1 (43, [vR 1, vI x1, vI y480, vI ((x1 >>> ((2:Int32) &&& 31)) &&& (3:Int32))], [.int 0], (H1 s o e0)) rfl ?_
    obtain rfl := sj h
    exact retZ rfl rfl
   ·refine yF Ad W 42 38 rfl (XT.i0_eq_f c484) ?_
    refine yS Ad W 2 (43, [vR 1, vI x1, vI y480, vI ((x1 >>> ((2:Int32) &&& 31)) &&& (3:Int32))], [.int 1], (H1 s o e0)) rfl ?_
    obtain rfl := sj h
    exact retZ rfl rfl
  ·refine yT Ad W 44 34 rfl (XT.ii_ne_t c483) ?_
   refine yS Ad W 2 (46, [vR 1, vI x1, vI y480, vI ((x1 >>> ((2:Int32) &&& 31)) &&& (3:Int32))], [.int 2, .int ((x1 >>> ((2:Int32) &&& 31)) &&& (3:Int32))], (H1 s o e0)) rfl ?_
   rcases qite h with ⟨c485, h⟩ | ⟨c485, h⟩
   ·refine yF Ad W 59 49 rfl (XT.ii_ne_f c485) ?_
    refine yS Ad W 1 (50, [vR 1, vI x1, vI y480, vI ((x1 >>> ((2:Int32) &&& 31)) &&& (3:Int32))], [.int y480], (H1 s o e0)) rfl ?_
    rcases qite h with ⟨c486, h⟩ | ⟨c486, h⟩
    ·refine yF Ad W 57 53 rfl (XT.i0_ge_f c486) ?_
     refine yS Ad W 2 (58, [vR 1, vI x1, vI y480, vI ((x1 >>> ((2:Int32) &&& 31)) &&& (3:Int32))], [.int 1], (H1 s o e0)) rfl ?_
     obtain rfl := sj h
     exact retZ rfl rfl
    ·refine yT Ad W 57 53 rfl (XT.i0_ge_t c486) ?_
     refine yS Ad W 1 (58, [vR 1, vI x1, vI y480, vI ((x1 >>> ((2:Int32) &&& 31)) &&& (3:Int32))], [.int 0], (H1 s o e0)) rfl ?_
     obtain rfl := sj h
     exact retZ rfl rfl
   ·refine yT Ad W 59 49 rfl (XT.ii_ne_t c485) ?_
    refine yS Ad W 1 (60, [vR 1, vI x1, vI y480, vI ((x1 >>> ((2:Int32) &&& 31)) &&& (3:Int32))], [.int y480], (H1 s o e0)) rfl ?_
    rcases qite h with ⟨c487, h⟩ | ⟨c487, h⟩
    ·refine yT Ad W 67 63 rfl (XT.i0_lt_t c487) ?_
     refine yS Ad W 1 (68, [vR 1, vI x1, vI y480, vI ((x1 >>> ((2:Int32) &&& 31)) &&& (3:Int32))], [.int 0], (H1 s o e0)) rfl ?_
     obtain rfl := sj h
     exact retZ rfl rfl
    ·refine yF Ad W 67 63 rfl (XT.i0_lt_f c487) ?_
     refine yS Ad W 2 (68, [vR 1, vI x1, vI y480, vI ((x1 >>> ((2:Int32) &&& 31)) &&& (3:Int32))], [.int 1], (H1 s o e0)) rfl ?_
     obtain rfl := sj h
     exact retZ rfl rfl
def H1x76 (s : List Int32) (o0 o1 : Ob) (a0_9 : List Int32) : QHeap := H1v s (fA o0) (fB o0) (fC o0) (fD o0) (fE o0) (fF o0) (fG o0) (fH o0) (fI o0) a0_9 (fK o0) (fL o0) (fM o0) (fO o0) (fP o0) (fQ o0) (fR o0) (fT o0) (fU o0) (fV o0) (fW o0) (fX o0) (fY o0) (fZ o0) (fa o0) (fb o0) (fc o0) (fd o0) (fe o0) (fh o0) (fi o0) (fm o0) (fo o0) (fp o0) (fq o0) (fr o0) (fA o1) (fB o1) (fC o1) (fD o1) (fE o1) (fF o1) (fG o1) (fH o1) (fI o1) (fJ o1) (fK o1) (fL o1) (fM o1) (fO o1) (fP o1) (fQ o1) (fR o1) (fT o1) (fU o1) (fV o1) (fW o1) (fX o1) (fY o1) (fZ o1) (fa o1) (fb o1) (fc o1) (fd o1) (fe o1) (fh o1) (fi o1) (fm o1) (fo o1) (fp o1) (fq o1) (fr o1)
/-- stepBlock(I)I -/
def F12 (o : Ob) (x1 : Int32) : Option (Int32 × Ob) :=
 (F9 o x1).bind fun r429 => (if r429 = (0:Int32) then some ((-1:Int32), o) else (aget (fA o) x1).bind fun y431 => (aget (fB o) x1).bind fun y432 => (aget (fC o) x1).bind fun y433 => (aget (fD o) x1).bind fun y434 => (F13 o y431 y432 y433 y434).bind fun r471 => (aget (fE r471) x1).bind fun y472 => (if y472 = (1:Int32) then (aget (fI r471) x1).bind fun y474 => (aset (fI r471) x1 (y474 + (1:Int32))).bind fun y475 => (aget (fG r471) x1).bind fun y476 => some (y476, (sI r471 y475)) else (if y472 = (2:Int32) then (aget (fF r471) x1).bind fun y479 => (F14 r471 y479).bind fun r488 => (if r488 = (0:Int32) then (aget (fJ r471) x1).bind fun y490 => (aset (fJ r471) x1 (y490 + (1:Int32))).bind fun y491 => (aget (fH r471) x1).bind fun y492 => some (y492, (sJ r471 y491)) else (aget (fI r471) x1).bind fun y494 => (aset (fI r471) x1 (y494 + (1:Int32))).bind fun y495 => (aget (fG r471) x1).bind fun y496 => some (y496, (sI r471 y495))) else some ((-1:Int32), r471))))
theorem tF12 (Ad : QAd n0 ad) (W : QW Z a0) (s : List Int32) (e0 o : Ob) (x1 : Int32) {r : Int32 × Ob} (h : F12 o x1 = some r) : QTri l Z n0 ad 12 (0, qentry [.ref 1, .int x1] (pMaxL 12), [], (H1 s o e0)) (some (Value.int r.1)) (H1 s r.2 e0) := by
 unfold F12 at h
 refine yS Ad W 2 (2, [vR 1, vI x1, nN], [.int x1, .ref 1], (H1 s o e0)) rfl ?_
 obtain ⟨r429, hr429, h⟩ := be h
 refine callP W (a := 1) (as := [.int x1]) (rest := []) (w := (some (.int r429))) (σ₁ := (H1 s o e0)) rfl rfl rfl rfl rfl rfl rfl rfl (tF9 Ad W s e0 o x1 hr429) ?_
 rcases qite h with ⟨c430, h⟩ | ⟨c430, h⟩
 ·refine yF Ad W 10 8 rfl (XT.i0_ne_f c430) ?_
  refine yS Ad W 1 (9, [vR 1, vI x1, nN], [.int (-1:Int32)], (H1 s o e0)) rfl ?_
  obtain rfl := sj h
  exact retI rfl rfl
 ·refine yT Ad W 10 8 rfl (XT.i0_ne_t c430) ?_
  refine yS Ad W 4 (16, [vR 1, vI x1, nN], [.int x1, .ref 2, .ref 1], (H1 s o e0)) rfl ?_
  obtain ⟨y431, hy431, h⟩ := be h
  refine zB Ad W (f := fun y431 => (17, [vR 1, vI x1, nN], [.int y431, .ref 1], (H1 s o e0))) rfl hy431 ?_
  refine yS Ad W 3 (22, [vR 1, vI x1, nN], [.int x1, .ref 3, .int y431, .ref 1], (H1 s o e0)) rfl ?_
  obtain ⟨y432, hy432, h⟩ := be h
  refine zB Ad W (f := fun y432 => (23, [vR 1, vI x1, nN], [.int y432, .int y431, .ref 1], (H1 s o e0))) rfl hy432 ?_
  refine yS Ad W 3 (28, [vR 1, vI x1, nN], [.int x1, .ref 4, .int y432, .int y431, .ref 1], (H1 s o e0)) rfl ?_
  obtain ⟨y433, hy433, h⟩ := be h
  refine zB Ad W (f := fun y433 => (29, [vR 1, vI x1, nN], [.int y433, .int y432, .int y431, .ref 1], (H1 s o e0))) rfl hy433 ?_
  refine yS Ad W 3 (34, [vR 1, vI x1, nN], [.int x1, .ref 5, .int y433, .int y432, .int y431, .ref 1], (H1 s o e0)) rfl ?_
  obtain ⟨y434, hy434, h⟩ := be h
  refine zB Ad W (f := fun y434 => (35, [vR 1, vI x1, nN], [.int y434, .int y433, .int y432, .int y431, .ref 1], (H1 s o e0))) rfl hy434 ?_
  obtain ⟨r471, hr471, h⟩ := be h
  refine callP W (a := 1) (as := [.int y431, .int y432, .int y433, .int y434]) (rest := []) (w := none) (σ₁ := (H1 s r471 e0)) rfl rfl rfl rfl rfl rfl rfl rfl (tF13 Ad W s e0 o y431 y432 y433 y434 hr471) ?_
  refine yS Ad W 3 (43, [vR 1, vI x1, nN], [.int x1, .ref 6], (H1 s r471 e0)) rfl ?_
  obtain ⟨y472, hy472, h⟩ := be h
  refine zB Ad W (f := fun y472 => (44, [vR 1, vI x1, nN], [.int y472], (H1 s r471 e0))) rfl hy472 ?_
  refine yS Ad W 3 (47, [vR 1, vI x1, vI y472], [.int 1, .int y472], (H1 s r471 e0)) rfl ?_
  rcases qite h with ⟨c473, h⟩ | ⟨c473, h⟩
  ·refine yF Ad W 67 50 rfl (XT.ii_ne_f c473) ?_
   refine yS Ad W 4 (56, [vR 1, vI x1, vI y472], [.int x1, .ref 10, .int x1, .ref 10], (H1 s r471 e0)) rfl ?_
   obtain ⟨y474, hy474, h⟩ := be h
   refine zB Ad W (f := fun y474 => (57, [vR 1, vI x1, vI y472], [.int y474, .int x1, .ref 10], (H1 s r471 e0))) rfl hy474 ?_
   refine yS Ad W 2 (59, [vR 1, vI x1, vI y472], [.int (y474 + (1:Int32)), .int x1, .ref 10], (H1 s r471 e0)) rfl ?_
   obtain ⟨y475, hy475, h⟩ := be h
   refine zB Ad W (f := fun y475 => (60, [vR 1, vI x1, vI y472], [], (H1x18 s r471 e0 y475))) rfl hy475 ?_
   refine yS Ad W 3 (65, [vR 1, vI x1, vI y472], [.int x1, .ref 8], (H1x18 s r471 e0 y475)) rfl ?_
   obtain ⟨y476, hy476, h⟩ := be h
   refine zB Ad W (f := fun y476 => (66, [vR 1, vI x1, vI y472], [.int y476], (H1x18 s r471 e0 y475))) rfl hy476 ?_
   have E477 : ((H1x18 s r471 e0 y475) : QHeap) = (H1 s (sI r471 y475) e0) := by simp only [fs, H1, H1v, H1x18, sI]
   rw [E477]
   obtain rfl := sj h
   exact retI rfl rfl
  ·refine yT Ad W 67 50 rfl (XT.ii_ne_t c473) ?_
   refine yS Ad W 2 (69, [vR 1, vI x1, vI y472], [.int 2, .int y472], (H1 s r471 e0)) rfl ?_
   rcases qite h with ⟨c478, h⟩ | ⟨c478, h⟩
   ·refine yF Ad W 119 72 rfl (XT.ii_ne_f c478) ?_
    refine yS Ad W 4 (78, [vR 1, vI x1, vI y472], [.int x1, .ref 7, .ref 1], (H1 s r471 e0)) rfl ?_
    obtain ⟨y479, hy479, h⟩ := be h
    refine zB Ad W (f := fun y479 => (79, [vR 1, vI x1, vI y472], [.int y479, .ref 1], (H1 s r471 e0))) rfl hy479 ?_
    obtain ⟨r488, hr488, h⟩ := be h
    refine callP W (a := 1) (as := [.int y479]) (rest := []) (w := (some (.int r488))) (σ₁ := (H1 s r471 e0)) rfl rfl rfl rfl rfl rfl rfl rfl (tF14 Ad W s e0 r471 y479 hr488) ?_
    rcases qite h with ⟨c489, h⟩ | ⟨c489, h⟩
    ·refine yT Ad W 102 85 rfl (XT.i0_eq_t c489) ?_
     refine yS Ad W 4 (108, [vR 1, vI x1, vI y472], [.int x1, .ref 11, .int x1, .ref 11], (H1 s r471 e0)) rfl ?_
     obtain ⟨y490, hy490, h⟩ := be h
     refine zB Ad W (f := fun y490 => (109, [vR 1, vI x1, vI y472], [.int y490, .int x1, .ref 11], (H1 s r471 e0))) rfl hy490 ?_
     refine yS Ad W 2 (111, [vR 1, vI x1, vI y472], [.int (y490 + (1:Int32)), .int x1, .ref 11], (H1 s r471 e0)) rfl ?_
     obtain ⟨y491, hy491, h⟩ := be h
     refine zB Ad W (f := fun y491 => (112, [vR 1, vI x1, vI y472], [], (H1x76 s r471 e0 y491))) rfl hy491 ?_
     refine yS Ad W 3 (117, [vR 1, vI x1, vI y472], [.int x1, .ref 9], (H1x76 s r471 e0 y491)) rfl ?_
     obtain ⟨y492, hy492, h⟩ := be h
     refine zB Ad W (f := fun y492 => (118, [vR 1, vI x1, vI y472], [.int y492], (H1x76 s r471 e0 y491))) rfl hy492 ?_
     have E493 : ((H1x76 s r471 e0 y491) : QHeap) = (H1 s (sJ r471 y491) e0) := by simp only [fs, H1, H1v, H1x76, sJ]
     rw [E493]
     obtain rfl := sj h
     exact retI rfl rfl
    ·refine yF Ad W 102 85 rfl (XT.i0_eq_f c489) ?_
     refine yS Ad W 4 (91, [vR 1, vI x1, vI y472], [.int x1, .ref 10, .int x1, .ref 10], (H1 s r471 e0)) rfl ?_
     obtain ⟨y494, hy494, h⟩ := be h
     refine zB Ad W (f := fun y494 => (92, [vR 1, vI x1, vI y472], [.int y494, .int x1, .ref 10], (H1 s r471 e0))) rfl hy494 ?_
     refine yS Ad W 2 (94, [vR 1, vI x1, vI y472], [.int (y494 + (1:Int32)), .int x1, .ref 10], (H1 s r471 e0)) rfl ?_
     obtain ⟨y495, hy495, h⟩ := be h
     refine zB Ad W (f := fun y495 => (95, [vR 1, vI x1, vI y472], [], (H1x18 s r471 e0 y495))) rfl hy495 ?_
     refine yS Ad W 3 (100, [vR 1, vI x1, vI y472], [.int x1, .ref 8], (H1x18 s r471 e0 y495)) rfl ?_
     obtain ⟨y496, hy496, h⟩ := be h
     refine zB Ad W (f := fun y496 => (101, [vR 1, vI x1, vI y472], [.int y496], (H1x18 s r471 e0 y495))) rfl hy496 ?_
     have E497 : ((H1x18 s r471 e0 y495) : QHeap) = (H1 s (sI r471 y495) e0) := by simp only [fs, H1, H1v, H1x18, sI]
     rw [E497]
     obtain rfl := sj h
     exact retI rfl rfl
   ·refine yT Ad W 119 72 rfl (XT.ii_ne_t c478) ?_
    refine yS Ad W 1 (120, [vR 1, vI x1, vI y472], [.int (-1:Int32)], (H1 s r471 e0)) rfl ?_
    obtain rfl := sj h
    exact retI rfl rfl
def H1x77 (s : List Int32) (o0 o1 : Ob) (a0_34 : Int32) : QHeap := H1v s (fA o0) (fB o0) (fC o0) (fD o0) (fE o0) (fF o0) (fG o0) (fH o0) (fI o0) (fJ o0) (fK o0) (fL o0) (fM o0) (fO o0) (fP o0) (fQ o0) (fR o0) (fT o0) (fU o0) (fV o0) (fW o0) (fX o0) (fY o0) (fZ o0) (fa o0) (fb o0) (fc o0) (fd o0) (fe o0) (fh o0) (fi o0) (fm o0) (fo o0) (fp o0) a0_34 (fr o0) (fA o1) (fB o1) (fC o1) (fD o1) (fE o1) (fF o1) (fG o1) (fH o1) (fI o1) (fJ o1) (fK o1) (fL o1) (fM o1) (fO o1) (fP o1) (fQ o1) (fR o1) (fT o1) (fU o1) (fV o1) (fW o1) (fX o1) (fY o1) (fZ o1) (fa o1) (fb o1) (fc o1) (fd o1) (fe o1) (fh o1) (fi o1) (fm o1) (fo o1) (fp o1) (fq o1) (fr o1)
def J11_112 (o : Ob) (q3 : Int32) : Option (((Int32 × Ob)) ⊕ (Int32 × Ob)) :=
  some (.inl (q3, (sq o q3)))
theorem tJ11_112_q3 (Ad : QAd n0 ad) (W : QW Z a0) (s : List Int32) (e0 : Ob) (x3 : Int32) (o : Ob) (q3 : Int32) {r : ((Int32 × Ob)) ⊕ (Int32 × Ob)} {u : Option Value} {τ : QHeap} (h : J11_112 o q3 = some r) (hx0 : ∀ x : Int32 × Ob, r = .inl x → u = (some (Value.int x.1)) ∧ τ = (H1 s x.2 e0)) (hc : ∀ x : Int32 × Ob, r = .inr x → QTri l Z n0 ad 11 (51, [vR 1, nN, vI x.1, vI x3, nN], [], (H1 s x.2 e0)) u τ) : QTri l Z n0 ad 11 (112, [vR 1, nN, nN, vI q3, nN], [], (H1 s o e0)) u τ := by
 unfold J11_112 at h
 refine yS Ad W 4 (118, [vR 1, nN, nN, vI q3, nN], [.int q3], (H1x77 s o e0 q3)) rfl ?_
 have E500 : ((H1x77 s o e0 q3) : QHeap) = (H1 s (sq o q3) e0) := by simp only [fs, H1, H1v, H1x77, sq]
 rw [E500]
 obtain rfl := sj h
 obtain ⟨rfl, rfl⟩ := hx0 (q3, (sq o q3)) rfl
 exact retI rfl rfl
def J11_96 (o : Ob) (x3 x4 : Int32) : Option (((Int32 × Ob)) ⊕ (Int32 × Ob)) :=
  (if x4 < (0 : Int32) then (J11_112 o (1 : Int32)) else some (.inr (x4, o)))
theorem tJ11_96 (Ad : QAd n0 ad) (W : QW Z a0) (s : List Int32) (e0 o : Ob) (x3 x4 : Int32) {r : ((Int32 × Ob)) ⊕ (Int32 × Ob)} {u : Option Value} {τ : QHeap} (h : J11_96 o x3 x4 = some r) (hx0 : ∀ x : Int32 × Ob, r = .inl x → u = (some (Value.int x.1)) ∧ τ = (H1 s x.2 e0)) (hc : ∀ x : Int32 × Ob, r = .inr x → QTri l Z n0 ad 11 (51, [vR 1, nN, vI x.1, vI x3, nN], [], (H1 s x.2 e0)) u τ) : QTri l Z n0 ad 11 (96, [vR 1, nN, nN, vI x3, vI x4], [], (H1 s o e0)) u τ := by
 unfold J11_96 at h
 refine yS Ad W 1 (98, [vR 1, nN, nN, vI x3, vI x4], [.int x4], (H1 s o e0)) rfl ?_
 rcases qite h with ⟨c499, h⟩ | ⟨c499, h⟩
 ·refine yF Ad W 106 101 rfl (XT.i0_ge_f c499) ?_
  refine yS Ad W 3 (112, [vR 1, nN, nN, vI 1, vI x4], [], (H1 s o e0)) rfl ?_
  exact zM [tt,ff,ff,tt,ff] (tJ11_112_q3 Ad W s e0 x3 o (1:Int32) h hx0 hc)
 ·refine yT Ad W 106 101 rfl (XT.i0_ge_t c499) ?_
  refine yS Ad W 3 (51, [vR 1, nN, vI x4, vI x3, vI x4], [], (H1 s o e0)) rfl ?_
  obtain rfl := sj h
  exact zM [tt,ff,tt,tt,ff] (hc (x4, o) rfl)
/-- stepFlat(I)I -/
def F33 (o : Ob) (x1 : Int32) : Option (Int32 × Ob) :=
 (if x1 < (0:Int32) then some ((-1:Int32), o) else (if x1 < (fi o) then (if x1 < (16:Int32) then (aget (fW o) x1).bind fun y505 => (aget (fX o) x1).bind fun y506 => (aget (fY o) x1).bind fun y507 => (aget (fZ o) x1).bind fun y508 => (F13 o y505 y506 y507 y508).bind fun r509 => (aget (fa r509) x1).bind fun y510 => (if y510 = (3:Int32) then some ((x1 + (1:Int32)), r509) else (if y510 = (1:Int32) then (aget (fc r509) x1).bind fun y513 => some (y513, r509) else (if y510 = (2:Int32) then (aget (fb r509) x1).bind fun y515 => (F14 r509 y515).bind fun r516 => (if r516 = (0:Int32) then (aget (fd r509) x1).bind fun y518 => some (y518, r509) else (aget (fc r509) x1).bind fun y519 => some (y519, r509)) else some ((-1:Int32), r509)))) else some ((-1:Int32), o)) else some ((-1:Int32), o)))
theorem tF33 (Ad : QAd n0 ad) (W : QW Z a0) (s : List Int32) (e0 o : Ob) (x1 : Int32) {r : Int32 × Ob} (h : F33 o x1 = some r) : QTri l Z n0 ad 33 (0, qentry [.ref 1, .int x1] (pMaxL 33), [], (H1 s o e0)) (some (Value.int r.1)) (H1 s r.2 e0) := by
 unfold F33 at h
 refine yS Ad W 1 (1, [vR 1, vI x1, nN], [.int x1], (H1 s o e0)) rfl ?_
 rcases qite h with ⟨c502, h⟩ | ⟨c502, h⟩
 ·refine yT Ad W 18 4 rfl (XT.i0_lt_t c502) ?_
  refine yS Ad W 1 (19, [vR 1, vI x1, nN], [.int (-1:Int32)], (H1 s o e0)) rfl ?_
  obtain rfl := sj h
  exact retI rfl rfl
 ·refine yF Ad W 18 4 rfl (XT.i0_lt_f c502) ?_
  refine yS Ad W 3 (9, [vR 1, vI x1, nN], [.int (fi o), .int x1], (H1 s o e0)) rfl ?_
  rcases qite h with ⟨c503, h⟩ | ⟨c503, h⟩
  ·refine yF Ad W 18 12 rfl (XT.ii_ge_f c503) ?_
   refine yS Ad W 2 (15, [vR 1, vI x1, nN], [.int 16, .int x1], (H1 s o e0)) rfl ?_
   rcases qite h with ⟨c504, h⟩ | ⟨c504, h⟩
   ·refine yT Ad W 20 18 rfl (XT.ii_lt_t c504) ?_
    refine yS Ad W 4 (26, [vR 1, vI x1, nN], [.int x1, .ref 22, .ref 1], (H1 s o e0)) rfl ?_
    obtain ⟨y505, hy505, h⟩ := be h
    refine zB Ad W (f := fun y505 => (27, [vR 1, vI x1, nN], [.int y505, .ref 1], (H1 s o e0))) rfl hy505 ?_
    refine yS Ad W 3 (32, [vR 1, vI x1, nN], [.int x1, .ref 23, .int y505, .ref 1], (H1 s o e0)) rfl ?_
    obtain ⟨y506, hy506, h⟩ := be h
    refine zB Ad W (f := fun y506 => (33, [vR 1, vI x1, nN], [.int y506, .int y505, .ref 1], (H1 s o e0))) rfl hy506 ?_
    refine yS Ad W 3 (38, [vR 1, vI x1, nN], [.int x1, .ref 24, .int y506, .int y505, .ref 1], (H1 s o e0)) rfl ?_
    obtain ⟨y507, hy507, h⟩ := be h
    refine zB Ad W (f := fun y507 => (39, [vR 1, vI x1, nN], [.int y507, .int y506, .int y505, .ref 1], (H1 s o e0))) rfl hy507 ?_
    refine yS Ad W 3 (44, [vR 1, vI x1, nN], [.int x1, .ref 25, .int y507, .int y506, .int y505, .ref 1], (H1 s o e0)) rfl ?_
    obtain ⟨y508, hy508, h⟩ := be h
    refine zB Ad W (f := fun y508 => (45, [vR 1, vI x1, nN], [.int y508, .int y507, .int y506, .int y505, .ref 1], (H1 s o e0))) rfl hy508 ?_
    obtain ⟨r509, hr509, h⟩ := be h
    refine callP W (a := 1) (as := [.int y505, .int y506, .int y507, .int y508]) (rest := []) (w := none) (σ₁ := (H1 s r509 e0)) rfl rfl rfl rfl rfl rfl rfl rfl (tF13 Ad W s e0 o y505 y506 y507 y508 hr509) ?_
    refine yS Ad W 3 (53, [vR 1, vI x1, nN], [.int x1, .ref 26], (H1 s r509 e0)) rfl ?_
    obtain ⟨y510, hy510, h⟩ := be h
    refine zB Ad W (f := fun y510 => (54, [vR 1, vI x1, nN], [.int y510], (H1 s r509 e0))) rfl hy510 ?_
    refine yS Ad W 3 (57, [vR 1, vI x1, vI y510], [.int 3, .int y510], (H1 s r509 e0)) rfl ?_
    rcases qite h with ⟨c511, h⟩ | ⟨c511, h⟩
    ·refine yF Ad W 64 60 rfl (XT.ii_ne_f c511) ?_
     refine yS Ad W 3 (63, [vR 1, vI x1, vI y510], [.int (x1 + (1:Int32))], (H1 s r509 e0)) rfl ?_
     obtain rfl := sj h
     exact retI rfl rfl
    ·refine yT Ad W 64 60 rfl (XT.ii_ne_t c511) ?_
     refine yS Ad W 2 (66, [vR 1, vI x1, vI y510], [.int 1, .int y510], (H1 s r509 e0)) rfl ?_
     rcases qite h with ⟨c512, h⟩ | ⟨c512, h⟩
     ·refine yF Ad W 76 69 rfl (XT.ii_ne_f c512) ?_
      refine yS Ad W 3 (74, [vR 1, vI x1, vI y510], [.int x1, .ref 28], (H1 s r509 e0)) rfl ?_
      obtain ⟨y513, hy513, h⟩ := be h
      refine zB Ad W (f := fun y513 => (75, [vR 1, vI x1, vI y510], [.int y513], (H1 s r509 e0))) rfl hy513 ?_
      obtain rfl := sj h
      exact retI rfl rfl
     ·refine yT Ad W 76 69 rfl (XT.ii_ne_t c512) ?_
      refine yS Ad W 2 (78, [vR 1, vI x1, vI y510], [.int 2, .int y510], (H1 s r509 e0)) rfl ?_
      rcases qite h with ⟨c514, h⟩ | ⟨c514, h⟩
      ·refine yF Ad W 108 81 rfl (XT.ii_ne_f c514) ?_
       refine yS Ad W 4 (87, [vR 1, vI x1, vI y510], [.int x1, .ref 27, .ref 1], (H1 s r509 e0)) rfl ?_
       obtain ⟨y515, hy515, h⟩ := be h
       refine zB Ad W (f := fun y515 => (88, [vR 1, vI x1, vI y510], [.int y515, .ref 1], (H1 s r509 e0))) rfl hy515 ?_
       obtain ⟨r516, hr516, h⟩ := be h
       refine callP W (a := 1) (as := [.int y515]) (rest := []) (w := (some (.int r516))) (σ₁ := (H1 s r509 e0)) rfl rfl rfl rfl rfl rfl rfl rfl (tF14 Ad W s e0 r509 y515 hr516) ?_
       rcases qite h with ⟨c517, h⟩ | ⟨c517, h⟩
       ·refine yT Ad W 101 94 rfl (XT.i0_eq_t c517) ?_
        refine yS Ad W 3 (106, [vR 1, vI x1, vI y510], [.int x1, .ref 29], (H1 s r509 e0)) rfl ?_
        obtain ⟨y518, hy518, h⟩ := be h
        refine zB Ad W (f := fun y518 => (107, [vR 1, vI x1, vI y510], [.int y518], (H1 s r509 e0))) rfl hy518 ?_
        obtain rfl := sj h
        exact retI rfl rfl
       ·refine yF Ad W 101 94 rfl (XT.i0_eq_f c517) ?_
        refine yS Ad W 3 (99, [vR 1, vI x1, vI y510], [.int x1, .ref 28], (H1 s r509 e0)) rfl ?_
        obtain ⟨y519, hy519, h⟩ := be h
        refine zB Ad W (f := fun y519 => (100, [vR 1, vI x1, vI y510], [.int y519], (H1 s r509 e0))) rfl hy519 ?_
        obtain rfl := sj h
        exact retI rfl rfl
      ·refine yT Ad W 108 81 rfl (XT.ii_ne_t c514) ?_
       refine yS Ad W 1 (109, [vR 1, vI x1, vI y510], [.int (-1:Int32)], (H1 s r509 e0)) rfl ?_
       obtain rfl := sj h
       exact retI rfl rfl
   ·refine yF Ad W 20 18 rfl (XT.ii_lt_f c504) ?_
    refine yS Ad W 1 (19, [vR 1, vI x1, nN], [.int (-1:Int32)], (H1 s o e0)) rfl ?_
    obtain rfl := sj h
    exact retI rfl rfl
  ·refine yT Ad W 18 12 rfl (XT.ii_ge_t c503) ?_
   refine yS Ad W 1 (19, [vR 1, vI x1, nN], [.int (-1:Int32)], (H1 s o e0)) rfl ?_
   obtain rfl := sj h
   exact retI rfl rfl
theorem tJ11_112 (Ad : QAd n0 ad) (W : QW Z a0) (s : List Int32) (e0 o : Ob) (x3 : Int32) {r : ((Int32 × Ob)) ⊕ (Int32 × Ob)} {u : Option Value} {τ : QHeap} (h : J11_112 o x3 = some r) (hx0 : ∀ x : Int32 × Ob, r = .inl x → u = (some (Value.int x.1)) ∧ τ = (H1 s x.2 e0)) (hc : ∀ x : Int32 × Ob, r = .inr x → QTri l Z n0 ad 11 (51, [vR 1, nN, vI x.1, vI x3, nN], [], (H1 s x.2 e0)) u τ) : QTri l Z n0 ad 11 (112, [vR 1, nN, nN, vI x3, nN], [], (H1 s o e0)) u τ := by
 unfold J11_112 at h
 refine yS Ad W 4 (118, [vR 1, nN, nN, vI x3, nN], [.int x3], (H1x77 s o e0 x3)) rfl ?_
 have E521 : ((H1x77 s o e0 x3) : QHeap) = (H1 s (sq o x3) e0) := by simp only [fs, H1, H1v, H1x77, sq]
 rw [E521]
 obtain rfl := sj h
 obtain ⟨rfl, rfl⟩ := hx0 (x3, (sq o x3)) rfl
 exact retI rfl rfl
def B11_51 (x3 : Int32) (v : Int32 × Ob) : Option (((Int32 × Ob)) ⊕ (Int32 × Ob)) :=
  (if (fp v.2) < (fh v.2) then (if (fm v.2) = (0 : Int32) then (F12 (sp v.2 ((fp v.2) + (1 : Int32))) v.1).bind fun r498 => (J11_96 r498.2 x3 r498.1) else (F33 (sp v.2 ((fp v.2) + (1 : Int32))) v.1).bind fun r520 => (J11_96 r520.2 x3 r520.1)) else (J11_112 v.2 x3))
theorem tB11_51 (Ad : QAd n0 ad) (W : QW Z a0) (s : List Int32) (e0 : Ob) (x3 : Int32) (v : Int32 × Ob) {r : ((Int32 × Ob)) ⊕ (Int32 × Ob)} {u : Option Value} {τ : QHeap} (h : B11_51 x3 v = some r) (hx0 : ∀ x : Int32 × Ob, r = .inl x → u = (some (Value.int x.1)) ∧ τ = (H1 s x.2 e0)) (hc : ∀ x : Int32 × Ob, r = .inr x → QTri l Z n0 ad 11 (51, [vR 1, nN, vI x.1, vI x3, nN], [], (H1 s x.2 e0)) u τ) : QTri l Z n0 ad 11 (51, [vR 1, nN, vI v.1, vI x3, nN], [], (H1 s v.2 e0)) u τ := by
 unfold B11_51 at h
 refine yS Ad W 4 (59, [vR 1, nN, vI v.1, vI x3, nN], [.int (fh v.2), .int (fp v.2)], (H1 s v.2 e0)) rfl ?_
 rcases qite h with ⟨c426, h⟩ | ⟨c426, h⟩
 ·refine yF Ad W 112 62 rfl (XT.ii_ge_f c426) ?_
  refine yS Ad W 6 (72, [vR 1, nN, vI v.1, vI x3, nN], [], (H1x75 s v.2 e0 ((fp v.2) + (1:Int32)))) rfl ?_
  refine yS Ad W 2 (76, [vR 1, nN, vI v.1, vI x3, nN], [.int (fm v.2)], (H1x75 s v.2 e0 ((fp v.2) + (1:Int32)))) rfl ?_
  rcases qite h with ⟨c427, h⟩ | ⟨c427, h⟩
  ·refine yT Ad W 89 79 rfl (XT.i0_eq_t c427) ?_
   refine yS Ad W 2 (91, [vR 1, nN, vI v.1, vI x3, nN], [.int v.1, .ref 1], (H1x75 s v.2 e0 ((fp v.2) + (1:Int32)))) rfl ?_
   have E428 : ((H1x75 s v.2 e0 ((fp v.2) + (1:Int32))) : QHeap) = (H1 s (sp v.2 ((fp v.2) + (1:Int32))) e0) := by simp only [fs, H1, H1v, H1x75, sp]
   rw [E428]
   obtain ⟨r498, hr498, h⟩ := be h
   refine callP W (a := 1) (as := [.int v.1]) (rest := []) (w := (some (.int r498.1))) (σ₁ := (H1 s r498.2 e0)) rfl rfl rfl rfl rfl rfl rfl rfl (tF12 Ad W s e0 (sp v.2 ((fp v.2) + (1:Int32))) v.1 hr498) ?_
   refine yS Ad W 1 (96, [vR 1, nN, vI v.1, vI x3, vI r498.1], [], (H1 s r498.2 e0)) rfl ?_
   exact zM [tt,ff,ff,tt,tt] (tJ11_96 Ad W s e0 r498.2 x3 r498.1 h hx0 hc)
  ·refine yF Ad W 89 79 rfl (XT.i0_eq_f c427) ?_
   refine yS Ad W 2 (81, [vR 1, nN, vI v.1, vI x3, nN], [.int v.1, .ref 1], (H1x75 s v.2 e0 ((fp v.2) + (1:Int32)))) rfl ?_
   have E501 : ((H1x75 s v.2 e0 ((fp v.2) + (1:Int32))) : QHeap) = (H1 s (sp v.2 ((fp v.2) + (1:Int32))) e0) := by simp only [fs, H1, H1v, H1x75, sp]
   rw [E501]
   obtain ⟨r520, hr520, h⟩ := be h
   refine callP W (a := 1) (as := [.int v.1]) (rest := []) (w := (some (.int r520.1))) (σ₁ := (H1 s r520.2 e0)) rfl rfl rfl rfl rfl rfl rfl rfl (tF33 Ad W s e0 (sp v.2 ((fp v.2) + (1:Int32))) v.1 hr520) ?_
   refine yS Ad W 2 (96, [vR 1, nN, vI v.1, vI x3, vI r520.1], [], (H1 s r520.2 e0)) rfl ?_
   exact zM [tt,ff,ff,tt,tt] (tJ11_96 Ad W s e0 r520.2 x3 r520.1 h hx0 hc)
 ·refine yT Ad W 112 62 rfl (XT.ii_ge_t c426) ?_
  exact zM [tt,ff,ff,tt,ff] (tJ11_112 Ad W s e0 v.2 x3 h hx0 hc)
/-- run(I)I -/
def F11 (o : Ob) (x1 : Int32) : Option (Int32 × Ob) :=
 (if (fi o) = (0:Int32) then some ((3:Int32), o) else (aset (fK o) (0:Int32) x1).bind fun y421 => (aset y421 (1:Int32) (0:Int32)).bind fun y422 => (aset y422 (2:Int32) (0:Int32)).bind fun y423 => (aset y423 (3:Int32) (0:Int32)).bind fun y424 => (loopN (B11_51 (2:Int32)) qN ((0:Int32), (sp (so (sK o y424) (0:Int32)) (0:Int32)))).bind fun e522 => some e522)
theorem tF11 (Ad : QAd n0 ad) (W : QW Z a0) (s : List Int32) (e0 o : Ob) (x1 : Int32) {r : Int32 × Ob} (h : F11 o x1 = some r) : QTri l Z n0 ad 11 (0, qentry [.ref 1, .int x1] (pMaxL 11), [], (H1 s o e0)) (some (Value.int r.1)) (H1 s r.2 e0) := by
 unfold F11 at h
 refine yS Ad W 2 (4, [vR 1, vI x1, nN, nN, nN], [.int (fi o)], (H1 s o e0)) rfl ?_
 rcases qite h with ⟨c420, h⟩ | ⟨c420, h⟩
 ·refine yF Ad W 9 7 rfl (XT.i0_ne_f c420) ?_
  refine yS Ad W 1 (8, [vR 1, vI x1, nN, nN, nN], [.int 3], (H1 s o e0)) rfl ?_
  obtain rfl := sj h
  exact retI rfl rfl
 ·refine yT Ad W 9 7 rfl (XT.i0_ne_t c420) ?_
  refine yS Ad W 4 (15, [vR 1, vI x1, nN, nN, nN], [.int x1, .int 0, .ref 12], (H1 s o e0)) rfl ?_
  obtain ⟨y421, hy421, h⟩ := be h
  refine zB Ad W (f := fun y421 => (16, [vR 1, vI x1, nN, nN, nN], [], (H1x20 s o e0 y421))) rfl hy421 ?_
  refine yS Ad W 4 (22, [vR 1, vI x1, nN, nN, nN], [.int 0, .int 1, .ref 12], (H1x20 s o e0 y421)) rfl ?_
  obtain ⟨y422, hy422, h⟩ := be h
  refine zB Ad W (f := fun y422 => (23, [vR 1, vI x1, nN, nN, nN], [], (H1x20 s o e0 y422))) rfl hy422 ?_
  refine yS Ad W 4 (29, [vR 1, vI x1, nN, nN, nN], [.int 0, .int 2, .ref 12], (H1x20 s o e0 y422)) rfl ?_
  obtain ⟨y423, hy423, h⟩ := be h
  refine zB Ad W (f := fun y423 => (30, [vR 1, vI x1, nN, nN, nN], [], (H1x20 s o e0 y423))) rfl hy423 ?_
  refine yS Ad W 4 (36, [vR 1, vI x1, nN, nN, nN], [.int 0, .int 3, .ref 12], (H1x20 s o e0 y423)) rfl ?_
  obtain ⟨y424, hy424, h⟩ := be h
  refine zB Ad W (f := fun y424 => (37, [vR 1, vI x1, nN, nN, nN], [], (H1x20 s o e0 y424))) rfl hy424 ?_
  refine yS Ad W 3 (42, [vR 1, vI x1, nN, nN, nN], [], (H1x73 s o e0 y424 (0:Int32))) rfl ?_
  refine yS Ad W 3 (47, [vR 1, vI x1, nN, nN, nN], [], (H1x74 s o e0 y424 (0:Int32) (0:Int32))) rfl ?_
  refine yS Ad W 4 (51, [vR 1, vI x1, vI 0, vI 2, nN], [], (H1x74 s o e0 y424 (0:Int32) (0:Int32))) rfl ?_
  have E425 : ((H1x74 s o e0 y424 (0:Int32) (0:Int32)) : QHeap) = (H1 s (sp (so (sK o y424) (0:Int32)) (0:Int32)) e0) := by simp only [fs, H1, H1v, H1x74, sK, so, sp]
  rw [E425]
  obtain ⟨e522, he522, h⟩ := be h
  refine zM [tt,ff,tt,tt,ff] (loopN_tri (B := B11_51 (2:Int32)) (T := fun lv523 => QTri l Z n0 ad 11 (51, [vR 1, nN, vI lv523.1, vI 2, nN], [], (H1 s lv523.2 e0)) (some (Value.int r.1)) (H1 s r.2 e0)) (KE := fun e522a => (some (Value.int r.1)) = (some (Value.int e522a.1)) ∧ (H1 s r.2 e0) = (H1 s e522a.2 e0)) (fun lv523 r hB hE hC => tB11_51 Ad W s e0 (2:Int32) lv523 hB (fun x q => hE _ q) (fun x q => hC x q)) qN ((0:Int32), (sp (so (sK o y424) (0:Int32)) (0:Int32))) e522 he522 ?_)
  obtain rfl := sj h
  exact ⟨rfl, rfl⟩
theorem tF11a1 (Ad : QAd n0 ad) (W : QW Z a0) (s : List Int32) (e0 o : Ob) (x1 : Int32) {r : Int32 × Ob} (h : F11 o x1 = some r) : QTri l Z n0 ad 11 (0, qentry [.ref 30, .int x1] (pMaxL 11), [], (H1 s e0 o)) (some (Value.int r.1)) (H1 s e0 r.2) := zW (tF11 (zA Ad) W s e0 o x1 h) rfl rfl rfl
/-- lastStatus()I -/
def F15 (o : Ob) : Option (Int32) :=
 some (fq o)
theorem tF15 (Ad : QAd n0 ad) (W : QW Z a0) (s : List Int32) (e0 o : Ob) {r : Int32} (h : F15 o = some r) : QTri l Z n0 ad 15 (0, qentry [.ref 1] (pMaxL 15), [], (H1 s o e0)) (some (Value.int r)) (H1 s o e0) := by
 unfold F15 at h
 refine yS Ad W 2 (4, [vR 1], [.int (fq o)], (H1 s o e0)) rfl ?_
 obtain rfl := sj h
 exact retI rfl rfl
theorem tF15a1 (Ad : QAd n0 ad) (W : QW Z a0) (s : List Int32) (e0 o : Ob) {r : Int32} (h : F15 o = some r) : QTri l Z n0 ad 15 (0, qentry [.ref 30] (pMaxL 15), [], (H1 s e0 o)) (some (Value.int r)) (H1 s e0 o) := zW (tF15 (zA Ad) W s e0 o h) rfl rfl rfl
/-- lastSteps()I -/
def F16 (o : Ob) : Option (Int32) :=
 some (fp o)
theorem tF16 (Ad : QAd n0 ad) (W : QW Z a0) (s : List Int32) (e0 o : Ob) {r : Int32} (h : F16 o = some r) : QTri l Z n0 ad 16 (0, qentry [.ref 1] (pMaxL 16), [], (H1 s o e0)) (some (Value.int r)) (H1 s o e0) := by
 unfold F16 at h
 refine yS Ad W 2 (4, [vR 1], [.int (fp o)], (H1 s o e0)) rfl ?_
 obtain rfl := sj h
 exact retI rfl rfl
theorem tF16a1 (Ad : QAd n0 ad) (W : QW Z a0) (s : List Int32) (e0 o : Ob) {r : Int32} (h : F16 o = some r) : QTri l Z n0 ad 16 (0, qentry [.ref 30] (pMaxL 16), [], (H1 s e0 o)) (some (Value.int r)) (H1 s e0 o) := zW (tF16 (zA Ad) W s e0 o h) rfl rfl rfl
/-- outputCount()I -/
def F17 (o : Ob) : Option (Int32) :=
 some (fo o)
theorem tF17 (Ad : QAd n0 ad) (W : QW Z a0) (s : List Int32) (e0 o : Ob) {r : Int32} (h : F17 o = some r) : QTri l Z n0 ad 17 (0, qentry [.ref 1] (pMaxL 17), [], (H1 s o e0)) (some (Value.int r)) (H1 s o e0) := by
 unfold F17 at h
 refine yS Ad W 2 (4, [vR 1], [.int (fo o)], (H1 s o e0)) rfl ?_
 obtain rfl := sj h
 exact retI rfl rfl
theorem tF17a1 (Ad : QAd n0 ad) (W : QW Z a0) (s : List Int32) (e0 o : Ob) {r : Int32} (h : F17 o = some r) : QTri l Z n0 ad 17 (0, qentry [.ref 30] (pMaxL 17), [], (H1 s e0 o)) (some (Value.int r)) (H1 s e0 o) := zW (tF17 (zA Ad) W s e0 o h) rfl rfl rfl
/-- blockCount()I -/
def F18 (o : Ob) : Option (Int32) :=
 some (fi o)
theorem tF18 (Ad : QAd n0 ad) (W : QW Z a0) (s : List Int32) (e0 o : Ob) {r : Int32} (h : F18 o = some r) : QTri l Z n0 ad 18 (0, qentry [.ref 1] (pMaxL 18), [], (H1 s o e0)) (some (Value.int r)) (H1 s o e0) := by
 unfold F18 at h
 refine yS Ad W 2 (4, [vR 1], [.int (fi o)], (H1 s o e0)) rfl ?_
 obtain rfl := sj h
 exact retI rfl rfl
theorem tF18a1 (Ad : QAd n0 ad) (W : QW Z a0) (s : List Int32) (e0 o : Ob) {r : Int32} (h : F18 o = some r) : QTri l Z n0 ad 18 (0, qentry [.ref 30] (pMaxL 18), [], (H1 s e0 o)) (some (Value.int r)) (H1 s e0 o) := zW (tF18 (zA Ad) W s e0 o h) rfl rfl rfl
/-- reg(I)I -/
def F19 (o : Ob) (x1 : Int32) : Option (Int32) :=
 (if x1 < (0:Int32) then some (0:Int32) else (if (3:Int32) < x1 then some (0:Int32) else (aget (fK o) x1).bind fun y646 => some y646))
theorem tF19 (Ad : QAd n0 ad) (W : QW Z a0) (s : List Int32) (e0 o : Ob) (x1 : Int32) {r : Int32} (h : F19 o x1 = some r) : QTri l Z n0 ad 19 (0, qentry [.ref 1, .int x1] (pMaxL 19), [], (H1 s o e0)) (some (Value.int r)) (H1 s o e0) := by
 unfold F19 at h
 refine yS Ad W 1 (1, [vR 1, vI x1], [.int x1], (H1 s o e0)) rfl ?_
 rcases qite h with ⟨c644, h⟩ | ⟨c644, h⟩
 ·refine yT Ad W 9 4 rfl (XT.i0_lt_t c644) ?_
  refine yS Ad W 1 (10, [vR 1, vI x1], [.int 0], (H1 s o e0)) rfl ?_
  obtain rfl := sj h
  exact retI rfl rfl
 ·refine yF Ad W 9 4 rfl (XT.i0_lt_f c644) ?_
  refine yS Ad W 2 (6, [vR 1, vI x1], [.int 3, .int x1], (H1 s o e0)) rfl ?_
  rcases qite h with ⟨c645, h⟩ | ⟨c645, h⟩
  ·refine yF Ad W 11 9 rfl (XT.ii_le_f c645) ?_
   refine yS Ad W 1 (10, [vR 1, vI x1], [.int 0], (H1 s o e0)) rfl ?_
   obtain rfl := sj h
   exact retI rfl rfl
  ·refine yT Ad W 11 9 rfl (XT.ii_le_t c645) ?_
   refine yS Ad W 3 (16, [vR 1, vI x1], [.int x1, .ref 12], (H1 s o e0)) rfl ?_
   obtain ⟨y646, hy646, h⟩ := be h
   refine zB Ad W (f := fun y646 => (17, [vR 1, vI x1], [.int y646], (H1 s o e0))) rfl hy646 ?_
   obtain rfl := sj h
   exact retI rfl rfl
theorem tF19a1 (Ad : QAd n0 ad) (W : QW Z a0) (s : List Int32) (e0 o : Ob) (x1 : Int32) {r : Int32} (h : F19 o x1 = some r) : QTri l Z n0 ad 19 (0, qentry [.ref 30, .int x1] (pMaxL 19), [], (H1 s e0 o)) (some (Value.int r)) (H1 s e0 o) := zW (tF19 (zA Ad) W s e0 o x1 h) rfl rfl rfl
def B0_586 (s : List Int32) (p0 p1 : Ob) (x3 x4 : Int32) (x5 x6 : Int32) (x7 x9 : Int64) (x11 x13 : Int64) (x15 x17 : Int64) (x19 x21 : Int64) (x23 x24 v : Int32) : Option (((Unit) ⊕ (Int32 × QHeap)) ⊕ (Int32)) :=
  (if v < (4 : Int32) then (F19 p0 v).bind fun r647 => (F19 p1 v).bind fun r651 => (if r647 = r651 then some (.inr (v + (1 : Int32))) else some (.inl (Sum.inr ((0 : Int32), (H1 s p0 p1))))) else some (.inl (Sum.inl ())))
theorem tB0_586 (Ad : QAd n0 ad) (W : QW Z a0) (s : List Int32) (p0 p1 : Ob) (x3 x4 : Int32) (x5 x6 : Int32) (x7 x9 : Int64) (x11 x13 : Int64) (x15 x17 : Int64) (x19 x21 : Int64) (x23 x24 v : Int32) {r : ((Unit) ⊕ (Int32 × QHeap)) ⊕ (Int32)} {u : Option Value} {τ : QHeap} (h : B0_586 s p0 p1 x3 x4 x5 x6 x7 x9 x11 x13 x15 x17 x19 x21 x23 x24 v = some r) (hx0 : ∀ x : Unit, r = .inl (Sum.inl x) → QTri l Z n0 ad 0 (615, [vR 0, vR 1, vR 30, vI x3, vI x4, vI x5, vI x6, vL x7, nN, vL x9, nN, vL x11, nN, vL x13, nN, vL x15, nN, vL x17, nN, vL x19, nN, vL x21, nN, vI x23, vI x24, nN, nN, nN, nN], [], (H1 s p0 p1)) u τ) (hx1 : ∀ x : Int32 × QHeap, r = .inl (Sum.inr x) → u = (some (Value.int x.1)) ∧ τ = x.2) (hc : ∀ x : Int32, r = .inr x → QTri l Z n0 ad 0 (586, [vR 0, vR 1, vR 30, vI x3, vI x4, vI x5, vI x6, vL x7, nN, vL x9, nN, vL x11, nN, vL x13, nN, vL x15, nN, vL x17, nN, vL x19, nN, vL x21, nN, vI x23, vI x24, nN, vI x, nN, nN], [], (H1 s p0 p1)) u τ) : QTri l Z n0 ad 0 (586, [vR 0, vR 1, vR 30, vI x3, vI x4, vI x5, vI x6, vL x7, nN, vL x9, nN, vL x11, nN, vL x13, nN, vL x15, nN, vL x17, nN, vL x19, nN, vL x21, nN, vI x23, vI x24, nN, vI v, nN, nN], [], (H1 s p0 p1)) u τ := by
 unfold B0_586 at h
 refine yS Ad W 2 (589, [vR 0, vR 1, vR 30, vI x3, vI x4, vI x5, vI x6, vL x7, nN, vL x9, nN, vL x11, nN, vL x13, nN, vL x15, nN, vL x17, nN, vL x19, nN, vL x21, nN, vI x23, vI x24, nN, vI v, nN, nN], [.int 4, .int v], (H1 s p0 p1)) rfl ?_
 rcases qite h with ⟨c643, h⟩ | ⟨c643, h⟩
 ·refine yF Ad W 615 592 rfl (XT.ii_ge_f c643) ?_
  refine yS Ad W 2 (595, [vR 0, vR 1, vR 30, vI x3, vI x4, vI x5, vI x6, vL x7, nN, vL x9, nN, vL x11, nN, vL x13, nN, vL x15, nN, vL x17, nN, vL x19, nN, vL x21, nN, vI x23, vI x24, nN, vI v, nN, nN], [.int v, .ref 1], (H1 s p0 p1)) rfl ?_
  obtain ⟨r647, hr647, h⟩ := be h
  refine callV W (a := 1) (as := [.int v]) (rest := []) (w := (some (.int r647))) (σ₁ := (H1 s p0 p1)) rfl rfl rfl rfl rfl rfl rfl rfl (tF19 Ad W s p1 p0 v hr647) ?_
  refine yS Ad W 2 (601, [vR 0, vR 1, vR 30, vI x3, vI x4, vI x5, vI x6, vL x7, nN, vL x9, nN, vL x11, nN, vL x13, nN, vL x15, nN, vL x17, nN, vL x19, nN, vL x21, nN, vI x23, vI x24, nN, vI v, nN, nN], [.int v, .ref 30, .int r647], (H1 s p0 p1)) rfl ?_
  obtain ⟨r651, hr651, h⟩ := be h
  refine callV W (a := 30) (as := [.int v]) (rest := [.int r647]) (w := (some (.int r651))) (σ₁ := (H1 s p0 p1)) rfl rfl rfl rfl rfl rfl rfl rfl (tF19a1 Ad W s p0 p1 v hr651) ?_
  rcases qite h with ⟨c652, h⟩ | ⟨c652, h⟩
  ·refine yT Ad W 609 607 rfl (XT.ii_eq_t c652) ?_
   refine yS Ad W 2 (586, [vR 0, vR 1, vR 30, vI x3, vI x4, vI x5, vI x6, vL x7, nN, vL x9, nN, vL x11, nN, vL x13, nN, vL x15, nN, vL x17, nN, vL x19, nN, vL x21, nN, vI x23, vI x24, nN, vI (v + (1:Int32)), nN, nN], [], (H1 s p0 p1)) rfl ?_
   obtain rfl := sj h
   exact zM [tt,tt,tt,tt,tt,tt,tt,tt,ff,tt,ff,tt,ff,tt,ff,tt,ff,tt,ff,tt,ff,tt,ff,tt,tt,ff,tt,ff,ff] (hc (v + (1:Int32)) rfl)
  ·refine yF Ad W 609 607 rfl (XT.ii_eq_f c652) ?_
   refine yS Ad W 1 (608, [vR 0, vR 1, vR 30, vI x3, vI x4, vI x5, vI x6, vL x7, nN, vL x9, nN, vL x11, nN, vL x13, nN, vL x15, nN, vL x17, nN, vL x19, nN, vL x21, nN, vI x23, vI x24, nN, vI v, nN, nN], [.int 0], (H1 s p0 p1)) rfl ?_
   obtain rfl := sj h
   obtain ⟨rfl, rfl⟩ := hx1 ((0:Int32), (H1 s p0 p1)) rfl
   exact retZ rfl rfl
 ·refine yT Ad W 615 592 rfl (XT.ii_ge_t c643) ?_
  obtain rfl := sj h
  exact zM [tt,tt,tt,tt,tt,tt,tt,tt,ff,tt,ff,tt,ff,tt,ff,tt,ff,tt,ff,tt,ff,tt,ff,tt,tt,ff,ff,ff,ff] (hx0 () rfl)
/-- output(I)I -/
def F20 (o : Ob) (x1 : Int32) : Option (Int32) :=
 (if x1 < (0:Int32) then some (0:Int32) else (if x1 < (fo o) then (if x1 < (16:Int32) then (aget (fL o) x1).bind fun y659 => some y659 else some (0:Int32)) else some (0:Int32)))
theorem tF20 (Ad : QAd n0 ad) (W : QW Z a0) (s : List Int32) (e0 o : Ob) (x1 : Int32) {r : Int32} (h : F20 o x1 = some r) : QTri l Z n0 ad 20 (0, qentry [.ref 1, .int x1] (pMaxL 20), [], (H1 s o e0)) (some (Value.int r)) (H1 s o e0) := by
 unfold F20 at h
 refine yS Ad W 1 (1, [vR 1, vI x1], [.int x1], (H1 s o e0)) rfl ?_
 rcases qite h with ⟨c656, h⟩ | ⟨c656, h⟩
 ·refine yT Ad W 18 4 rfl (XT.i0_lt_t c656) ?_
  refine yS Ad W 1 (19, [vR 1, vI x1], [.int 0], (H1 s o e0)) rfl ?_
  obtain rfl := sj h
  exact retI rfl rfl
 ·refine yF Ad W 18 4 rfl (XT.i0_lt_f c656) ?_
  refine yS Ad W 3 (9, [vR 1, vI x1], [.int (fo o), .int x1], (H1 s o e0)) rfl ?_
  rcases qite h with ⟨c657, h⟩ | ⟨c657, h⟩
  ·refine yF Ad W 18 12 rfl (XT.ii_ge_f c657) ?_
   refine yS Ad W 2 (15, [vR 1, vI x1], [.int 16, .int x1], (H1 s o e0)) rfl ?_
   rcases qite h with ⟨c658, h⟩ | ⟨c658, h⟩
   ·refine yT Ad W 20 18 rfl (XT.ii_lt_t c658) ?_
    refine yS Ad W 3 (25, [vR 1, vI x1], [.int x1, .ref 13], (H1 s o e0)) rfl ?_
    obtain ⟨y659, hy659, h⟩ := be h
    refine zB Ad W (f := fun y659 => (26, [vR 1, vI x1], [.int y659], (H1 s o e0))) rfl hy659 ?_
    obtain rfl := sj h
    exact retI rfl rfl
   ·refine yF Ad W 20 18 rfl (XT.ii_lt_f c658) ?_
    refine yS Ad W 1 (19, [vR 1, vI x1], [.int 0], (H1 s o e0)) rfl ?_
    obtain rfl := sj h
    exact retI rfl rfl
  ·refine yT Ad W 18 12 rfl (XT.ii_ge_t c657) ?_
   refine yS Ad W 1 (19, [vR 1, vI x1], [.int 0], (H1 s o e0)) rfl ?_
   obtain rfl := sj h
   exact retI rfl rfl
theorem tF20a1 (Ad : QAd n0 ad) (W : QW Z a0) (s : List Int32) (e0 o : Ob) (x1 : Int32) {r : Int32} (h : F20 o x1 = some r) : QTri l Z n0 ad 20 (0, qentry [.ref 30, .int x1] (pMaxL 20), [], (H1 s e0 o)) (some (Value.int r)) (H1 s e0 o) := zW (tF20 (zA Ad) W s e0 o x1 h) rfl rfl rfl
def B0_618 (s : List Int32) (p0 p1 : Ob) (x3 x4 : Int32) (x5 x6 : Int32) (x7 x9 : Int64) (x11 x13 : Int64) (x15 x17 : Int64) (x19 x21 : Int64) (x23 x24 v : Int32) : Option (((Unit) ⊕ (Int32 × QHeap)) ⊕ (Int32)) :=
  (if v < (16 : Int32) then (F20 p0 v).bind fun r660 => (F20 p1 v).bind fun r665 => (if r660 = r665 then some (.inr (v + (1 : Int32))) else some (.inl (Sum.inr ((0 : Int32), (H1 s p0 p1))))) else some (.inl (Sum.inl ())))
theorem tB0_618 (Ad : QAd n0 ad) (W : QW Z a0) (s : List Int32) (p0 p1 : Ob) (x3 x4 : Int32) (x5 x6 : Int32) (x7 x9 : Int64) (x11 x13 : Int64) (x15 x17 : Int64) (x19 x21 : Int64) (x23 x24 v : Int32) {r : ((Unit) ⊕ (Int32 × QHeap)) ⊕ (Int32)} {u : Option Value} {τ : QHeap} (h : B0_618 s p0 p1 x3 x4 x5 x6 x7 x9 x11 x13 x15 x17 x19 x21 x23 x24 v = some r) (hx0 : ∀ x : Unit, r = .inl (Sum.inl x) → QTri l Z n0 ad 0 (648, [vR 0, vR 1, vR 30, vI x3, vI x4, vI x5, vI x6, vL x7, nN, vL x9, nN, vL x11, nN, vL x13, nN, vL x15, nN, vL x17, nN, vL x19, nN, vL x21, nN, vI x23, vI x24, nN, nN, nN, nN], [], (H1 s p0 p1)) u τ) (hx1 : ∀ x : Int32 × QHeap, r = .inl (Sum.inr x) → u = (some (Value.int x.1)) ∧ τ = x.2) (hc : ∀ x : Int32, r = .inr x → QTri l Z n0 ad 0 (618, [vR 0, vR 1, vR 30, vI x3, vI x4, vI x5, vI x6, vL x7, nN, vL x9, nN, vL x11, nN, vL x13, nN, vL x15, nN, vL x17, nN, vL x19, nN, vL x21, nN, vI x23, vI x24, nN, vI x, nN, nN], [], (H1 s p0 p1)) u τ) : QTri l Z n0 ad 0 (618, [vR 0, vR 1, vR 30, vI x3, vI x4, vI x5, vI x6, vL x7, nN, vL x9, nN, vL x11, nN, vL x13, nN, vL x15, nN, vL x17, nN, vL x19, nN, vL x21, nN, vI x23, vI x24, nN, vI v, nN, nN], [], (H1 s p0 p1)) u τ := by
 unfold B0_618 at h
 refine yS Ad W 2 (622, [vR 0, vR 1, vR 30, vI x3, vI x4, vI x5, vI x6, vL x7, nN, vL x9, nN, vL x11, nN, vL x13, nN, vL x15, nN, vL x17, nN, vL x19, nN, vL x21, nN, vI x23, vI x24, nN, vI v, nN, nN], [.int 16, .int v], (H1 s p0 p1)) rfl ?_
 rcases qite h with ⟨c655, h⟩ | ⟨c655, h⟩
 ·refine yF Ad W 648 625 rfl (XT.ii_ge_f c655) ?_
  refine yS Ad W 2 (628, [vR 0, vR 1, vR 30, vI x3, vI x4, vI x5, vI x6, vL x7, nN, vL x9, nN, vL x11, nN, vL x13, nN, vL x15, nN, vL x17, nN, vL x19, nN, vL x21, nN, vI x23, vI x24, nN, vI v, nN, nN], [.int v, .ref 1], (H1 s p0 p1)) rfl ?_
  obtain ⟨r660, hr660, h⟩ := be h
  refine callV W (a := 1) (as := [.int v]) (rest := []) (w := (some (.int r660))) (σ₁ := (H1 s p0 p1)) rfl rfl rfl rfl rfl rfl rfl rfl (tF20 Ad W s p1 p0 v hr660) ?_
  refine yS Ad W 2 (634, [vR 0, vR 1, vR 30, vI x3, vI x4, vI x5, vI x6, vL x7, nN, vL x9, nN, vL x11, nN, vL x13, nN, vL x15, nN, vL x17, nN, vL x19, nN, vL x21, nN, vI x23, vI x24, nN, vI v, nN, nN], [.int v, .ref 30, .int r660], (H1 s p0 p1)) rfl ?_
  obtain ⟨r665, hr665, h⟩ := be h
  refine callV W (a := 30) (as := [.int v]) (rest := [.int r660]) (w := (some (.int r665))) (σ₁ := (H1 s p0 p1)) rfl rfl rfl rfl rfl rfl rfl rfl (tF20a1 Ad W s p0 p1 v hr665) ?_
  rcases qite h with ⟨c666, h⟩ | ⟨c666, h⟩
  ·refine yT Ad W 642 640 rfl (XT.ii_eq_t c666) ?_
   refine yS Ad W 2 (618, [vR 0, vR 1, vR 30, vI x3, vI x4, vI x5, vI x6, vL x7, nN, vL x9, nN, vL x11, nN, vL x13, nN, vL x15, nN, vL x17, nN, vL x19, nN, vL x21, nN, vI x23, vI x24, nN, vI (v + (1:Int32)), nN, nN], [], (H1 s p0 p1)) rfl ?_
   obtain rfl := sj h
   exact zM [tt,tt,tt,tt,tt,tt,tt,tt,ff,tt,ff,tt,ff,tt,ff,tt,ff,tt,ff,tt,ff,tt,ff,tt,tt,ff,tt,ff,ff] (hc (v + (1:Int32)) rfl)
  ·refine yF Ad W 642 640 rfl (XT.ii_eq_f c666) ?_
   refine yS Ad W 1 (641, [vR 0, vR 1, vR 30, vI x3, vI x4, vI x5, vI x6, vL x7, nN, vL x9, nN, vL x11, nN, vL x13, nN, vL x15, nN, vL x17, nN, vL x19, nN, vL x21, nN, vI x23, vI x24, nN, vI v, nN, nN], [.int 0], (H1 s p0 p1)) rfl ?_
   obtain rfl := sj h
   obtain ⟨rfl, rfl⟩ := hx1 ((0:Int32), (H1 s p0 p1)) rfl
   exact retZ rfl rfl
 ·refine yT Ad W 648 625 rfl (XT.ii_ge_t c655) ?_
  obtain rfl := sj h
  exact zM [tt,tt,tt,tt,tt,tt,tt,tt,ff,tt,ff,tt,ff,tt,ff,tt,ff,tt,ff,tt,ff,tt,ff,tt,tt,ff,ff,ff,ff] (hx0 () rfl)
/-- blockInfo(II)I -/
def F21 (o : Ob) (x1 x2 : Int32) : Option (Int32) :=
 (F9 o x1).bind fun r671 => (if r671 = (0:Int32) then some (0:Int32) else (if x2 = (0:Int32) then (aget (fA o) x1).bind fun y674 => some y674 else (if x2 = (1:Int32) then (aget (fB o) x1).bind fun y676 => some y676 else (if x2 = (2:Int32) then (aget (fC o) x1).bind fun y678 => some y678 else (if x2 = (3:Int32) then (aget (fD o) x1).bind fun y680 => some y680 else (if x2 = (4:Int32) then (aget (fE o) x1).bind fun y682 => some y682 else (if x2 = (5:Int32) then (aget (fF o) x1).bind fun y684 => some y684 else (if x2 = (6:Int32) then (aget (fG o) x1).bind fun y686 => some y686 else (if x2 = (7:Int32) then (aget (fH o) x1).bind fun y688 => some y688 else some (0:Int32))))))))))
theorem tF21 (Ad : QAd n0 ad) (W : QW Z a0) (s : List Int32) (e0 o : Ob) (x1 x2 : Int32) {r : Int32} (h : F21 o x1 x2 = some r) : QTri l Z n0 ad 21 (0, qentry [.ref 1, .int x1, .int x2] (pMaxL 21), [], (H1 s o e0)) (some (Value.int r)) (H1 s o e0) := by
 unfold F21 at h
 refine yS Ad W 2 (2, [vR 1, vI x1, vI x2], [.int x1, .ref 1], (H1 s o e0)) rfl ?_
 obtain ⟨r671, hr671, h⟩ := be h
 refine callP W (a := 1) (as := [.int x1]) (rest := []) (w := (some (.int r671))) (σ₁ := (H1 s o e0)) rfl rfl rfl rfl rfl rfl rfl rfl (tF9 Ad W s e0 o x1 hr671) ?_
 rcases qite h with ⟨c672, h⟩ | ⟨c672, h⟩
 ·refine yF Ad W 10 8 rfl (XT.i0_ne_f c672) ?_
  refine yS Ad W 1 (9, [vR 1, vI x1, vI x2], [.int 0], (H1 s o e0)) rfl ?_
  obtain rfl := sj h
  exact retI rfl rfl
 ·refine yT Ad W 10 8 rfl (XT.i0_ne_t c672) ?_
  refine yS Ad W 1 (11, [vR 1, vI x1, vI x2], [.int x2], (H1 s o e0)) rfl ?_
  rcases qite h with ⟨c673, h⟩ | ⟨c673, h⟩
  ·refine yF Ad W 21 14 rfl (XT.i0_ne_f c673) ?_
   refine yS Ad W 3 (19, [vR 1, vI x1, vI x2], [.int x1, .ref 2], (H1 s o e0)) rfl ?_
   obtain ⟨y674, hy674, h⟩ := be h
   refine zB Ad W (f := fun y674 => (20, [vR 1, vI x1, vI x2], [.int y674], (H1 s o e0))) rfl hy674 ?_
   obtain rfl := sj h
   exact retI rfl rfl
  ·refine yT Ad W 21 14 rfl (XT.i0_ne_t c673) ?_
   refine yS Ad W 2 (23, [vR 1, vI x1, vI x2], [.int 1, .int x2], (H1 s o e0)) rfl ?_
   rcases qite h with ⟨c675, h⟩ | ⟨c675, h⟩
   ·refine yF Ad W 33 26 rfl (XT.ii_ne_f c675) ?_
    refine yS Ad W 3 (31, [vR 1, vI x1, vI x2], [.int x1, .ref 3], (H1 s o e0)) rfl ?_
    obtain ⟨y676, hy676, h⟩ := be h
    refine zB Ad W (f := fun y676 => (32, [vR 1, vI x1, vI x2], [.int y676], (H1 s o e0))) rfl hy676 ?_
    obtain rfl := sj h
    exact retI rfl rfl
   ·refine yT Ad W 33 26 rfl (XT.ii_ne_t c675) ?_
    refine yS Ad W 2 (35, [vR 1, vI x1, vI x2], [.int 2, .int x2], (H1 s o e0)) rfl ?_
    rcases qite h with ⟨c677, h⟩ | ⟨c677, h⟩
    ·refine yF Ad W 45 38 rfl (XT.ii_ne_f c677) ?_
     refine yS Ad W 3 (43, [vR 1, vI x1, vI x2], [.int x1, .ref 4], (H1 s o e0)) rfl ?_
     obtain ⟨y678, hy678, h⟩ := be h
     refine zB Ad W (f := fun y678 => (44, [vR 1, vI x1, vI x2], [.int y678], (H1 s o e0))) rfl hy678 ?_
     obtain rfl := sj h
     exact retI rfl rfl
    ·refine yT Ad W 45 38 rfl (XT.ii_ne_t c677) ?_
     refine yS Ad W 2 (47, [vR 1, vI x1, vI x2], [.int 3, .int x2], (H1 s o e0)) rfl ?_
     rcases qite h with ⟨c679, h⟩ | ⟨c679, h⟩
     ·refine yF Ad W 57 50 rfl (XT.ii_ne_f c679) ?_
      refine yS Ad W 3 (55, [vR 1, vI x1, vI x2], [.int x1, .ref 5], (H1 s o e0)) rfl ?_
      obtain ⟨y680, hy680, h⟩ := be h
      refine zB Ad W (f := fun y680 => (56, [vR 1, vI x1, vI x2], [.int y680], (H1 s o e0))) rfl hy680 ?_
      obtain rfl := sj h
      exact retI rfl rfl
     ·refine yT Ad W 57 50 rfl (XT.ii_ne_t c679) ?_
      refine yS Ad W 2 (59, [vR 1, vI x1, vI x2], [.int 4, .int x2], (H1 s o e0)) rfl ?_
      rcases qite h with ⟨c681, h⟩ | ⟨c681, h⟩
      ·refine yF Ad W 69 62 rfl (XT.ii_ne_f c681) ?_
       refine yS Ad W 3 (67, [vR 1, vI x1, vI x2], [.int x1, .ref 6], (H1 s o e0)) rfl ?_
       obtain ⟨y682, hy682, h⟩ := be h
       refine zB Ad W (f := fun y682 => (68, [vR 1, vI x1, vI x2], [.int y682], (H1 s o e0))) rfl hy682 ?_
       obtain rfl := sj h
       exact retI rfl rfl
      ·refine yT Ad W 69 62 rfl (XT.ii_ne_t c681) ?_
       refine yS Ad W 2 (71, [vR 1, vI x1, vI x2], [.int 5, .int x2], (H1 s o e0)) rfl ?_
       rcases qite h with ⟨c683, h⟩ | ⟨c683, h⟩
       ·refine yF Ad W 81 74 rfl (XT.ii_ne_f c683) ?_
        refine yS Ad W 3 (79, [vR 1, vI x1, vI x2], [.int x1, .ref 7], (H1 s o e0)) rfl ?_
        obtain ⟨y684, hy684, h⟩ := be h
        refine zB Ad W (f := fun y684 => (80, [vR 1, vI x1, vI x2], [.int y684], (H1 s o e0))) rfl hy684 ?_
        obtain rfl := sj h
        exact retI rfl rfl
       ·refine yT Ad W 81 74 rfl (XT.ii_ne_t c683) ?_
        refine yS Ad W 2 (84, [vR 1, vI x1, vI x2], [.int 6, .int x2], (H1 s o e0)) rfl ?_
        rcases qite h with ⟨c685, h⟩ | ⟨c685, h⟩
        ·refine yF Ad W 94 87 rfl (XT.ii_ne_f c685) ?_
         refine yS Ad W 3 (92, [vR 1, vI x1, vI x2], [.int x1, .ref 8], (H1 s o e0)) rfl ?_
         obtain ⟨y686, hy686, h⟩ := be h
         refine zB Ad W (f := fun y686 => (93, [vR 1, vI x1, vI x2], [.int y686], (H1 s o e0))) rfl hy686 ?_
         obtain rfl := sj h
         exact retI rfl rfl
        ·refine yT Ad W 94 87 rfl (XT.ii_ne_t c685) ?_
         refine yS Ad W 2 (97, [vR 1, vI x1, vI x2], [.int 7, .int x2], (H1 s o e0)) rfl ?_
         rcases qite h with ⟨c687, h⟩ | ⟨c687, h⟩
         ·refine yF Ad W 107 100 rfl (XT.ii_ne_f c687) ?_
          refine yS Ad W 3 (105, [vR 1, vI x1, vI x2], [.int x1, .ref 9], (H1 s o e0)) rfl ?_
          obtain ⟨y688, hy688, h⟩ := be h
          refine zB Ad W (f := fun y688 => (106, [vR 1, vI x1, vI x2], [.int y688], (H1 s o e0))) rfl hy688 ?_
          obtain rfl := sj h
          exact retI rfl rfl
         ·refine yT Ad W 107 100 rfl (XT.ii_ne_t c687) ?_
          refine yS Ad W 1 (108, [vR 1, vI x1, vI x2], [.int 0], (H1 s o e0)) rfl ?_
          obtain rfl := sj h
          exact retI rfl rfl
theorem tF21a1 (Ad : QAd n0 ad) (W : QW Z a0) (s : List Int32) (e0 o : Ob) (x1 x2 : Int32) {r : Int32} (h : F21 o x1 x2 = some r) : QTri l Z n0 ad 21 (0, qentry [.ref 30, .int x1, .int x2] (pMaxL 21), [], (H1 s e0 o)) (some (Value.int r)) (H1 s e0 o) := zW (tF21 (zA Ad) W s e0 o x1 x2 h) rfl rfl rfl
def B0_661 (s : List Int32) (p0 p1 : Ob) (x3 x4 : Int32) (x5 x6 : Int32) (x7 x9 : Int64) (x11 x13 : Int64) (x15 x17 : Int64) (x19 x21 : Int64) (x23 x24 : Int32) (x26 v : Int32) : Option (((Unit) ⊕ (Int32 × QHeap)) ⊕ (Int32)) :=
  (if v < (8 : Int32) then (F21 p0 x26 v).bind fun r689 => (F21 p1 x26 v).bind fun r708 => (if r689 = r708 then some (.inr (v + (1 : Int32))) else some (.inl (Sum.inr ((0 : Int32), (H1 s p0 p1))))) else some (.inl (Sum.inl ())))
theorem tB0_661 (Ad : QAd n0 ad) (W : QW Z a0) (s : List Int32) (p0 p1 : Ob) (x3 x4 : Int32) (x5 x6 : Int32) (x7 x9 : Int64) (x11 x13 : Int64) (x15 x17 : Int64) (x19 x21 : Int64) (x23 x24 : Int32) (x26 v : Int32) {r : ((Unit) ⊕ (Int32 × QHeap)) ⊕ (Int32)} {u : Option Value} {τ : QHeap} (h : B0_661 s p0 p1 x3 x4 x5 x6 x7 x9 x11 x13 x15 x17 x19 x21 x23 x24 x26 v = some r) (hx0 : ∀ x : Unit, r = .inl (Sum.inl x) → QTri l Z n0 ad 0 (695, [vR 0, vR 1, vR 30, vI x3, vI x4, vI x5, vI x6, vL x7, nN, vL x9, nN, vL x11, nN, vL x13, nN, vL x15, nN, vL x17, nN, vL x19, nN, vL x21, nN, vI x23, vI x24, nN, vI x26, nN, nN], [], (H1 s p0 p1)) u τ) (hx1 : ∀ x : Int32 × QHeap, r = .inl (Sum.inr x) → u = (some (Value.int x.1)) ∧ τ = x.2) (hc : ∀ x : Int32, r = .inr x → QTri l Z n0 ad 0 (661, [vR 0, vR 1, vR 30, vI x3, vI x4, vI x5, vI x6, vL x7, nN, vL x9, nN, vL x11, nN, vL x13, nN, vL x15, nN, vL x17, nN, vL x19, nN, vL x21, nN, vI x23, vI x24, nN, vI x26, vI x, nN], [], (H1 s p0 p1)) u τ) : QTri l Z n0 ad 0 (661, [vR 0, vR 1, vR 30, vI x3, vI x4, vI x5, vI x6, vL x7, nN, vL x9, nN, vL x11, nN, vL x13, nN, vL x15, nN, vL x17, nN, vL x19, nN, vL x21, nN, vI x23, vI x24, nN, vI x26, vI v, nN], [], (H1 s p0 p1)) u τ := by
 unfold B0_661 at h
 refine yS Ad W 2 (665, [vR 0, vR 1, vR 30, vI x3, vI x4, vI x5, vI x6, vL x7, nN, vL x9, nN, vL x11, nN, vL x13, nN, vL x15, nN, vL x17, nN, vL x19, nN, vL x21, nN, vI x23, vI x24, nN, vI x26, vI v, nN], [.int 8, .int v], (H1 s p0 p1)) rfl ?_
 rcases qite h with ⟨c670, h⟩ | ⟨c670, h⟩
 ·refine yF Ad W 695 668 rfl (XT.ii_ge_f c670) ?_
  refine yS Ad W 3 (673, [vR 0, vR 1, vR 30, vI x3, vI x4, vI x5, vI x6, vL x7, nN, vL x9, nN, vL x11, nN, vL x13, nN, vL x15, nN, vL x17, nN, vL x19, nN, vL x21, nN, vI x23, vI x24, nN, vI x26, vI v, nN], [.int v, .int x26, .ref 1], (H1 s p0 p1)) rfl ?_
  obtain ⟨r689, hr689, h⟩ := be h
  refine callV W (a := 1) (as := [.int x26, .int v]) (rest := []) (w := (some (.int r689))) (σ₁ := (H1 s p0 p1)) rfl rfl rfl rfl rfl rfl rfl rfl (tF21 Ad W s p1 p0 x26 v hr689) ?_
  refine yS Ad W 3 (681, [vR 0, vR 1, vR 30, vI x3, vI x4, vI x5, vI x6, vL x7, nN, vL x9, nN, vL x11, nN, vL x13, nN, vL x15, nN, vL x17, nN, vL x19, nN, vL x21, nN, vI x23, vI x24, nN, vI x26, vI v, nN], [.int v, .int x26, .ref 30, .int r689], (H1 s p0 p1)) rfl ?_
  obtain ⟨r708, hr708, h⟩ := be h
  refine callV W (a := 30) (as := [.int x26, .int v]) (rest := [.int r689]) (w := (some (.int r708))) (σ₁ := (H1 s p0 p1)) rfl rfl rfl rfl rfl rfl rfl rfl (tF21a1 Ad W s p0 p1 x26 v hr708) ?_
  rcases qite h with ⟨c709, h⟩ | ⟨c709, h⟩
  ·refine yT Ad W 689 687 rfl (XT.ii_eq_t c709) ?_
   refine yS Ad W 2 (661, [vR 0, vR 1, vR 30, vI x3, vI x4, vI x5, vI x6, vL x7, nN, vL x9, nN, vL x11, nN, vL x13, nN, vL x15, nN, vL x17, nN, vL x19, nN, vL x21, nN, vI x23, vI x24, nN, vI x26, vI (v + (1:Int32)), nN], [], (H1 s p0 p1)) rfl ?_
   obtain rfl := sj h
   exact zM [tt,tt,tt,tt,tt,tt,tt,tt,ff,tt,ff,tt,ff,tt,ff,tt,ff,tt,ff,tt,ff,tt,ff,tt,tt,ff,tt,tt,ff] (hc (v + (1:Int32)) rfl)
  ·refine yF Ad W 689 687 rfl (XT.ii_eq_f c709) ?_
   refine yS Ad W 1 (688, [vR 0, vR 1, vR 30, vI x3, vI x4, vI x5, vI x6, vL x7, nN, vL x9, nN, vL x11, nN, vL x13, nN, vL x15, nN, vL x17, nN, vL x19, nN, vL x21, nN, vI x23, vI x24, nN, vI x26, vI v, nN], [.int 0], (H1 s p0 p1)) rfl ?_
   obtain rfl := sj h
   obtain ⟨rfl, rfl⟩ := hx1 ((0:Int32), (H1 s p0 p1)) rfl
   exact retZ rfl rfl
 ·refine yT Ad W 695 668 rfl (XT.ii_ge_t c670) ?_
  obtain rfl := sj h
  exact zM [tt,tt,tt,tt,tt,tt,tt,tt,ff,tt,ff,tt,ff,tt,ff,tt,ff,tt,ff,tt,ff,tt,ff,tt,tt,ff,tt,ff,ff] (hx0 () rfl)
def B0_651 (s : List Int32) (p0 p1 : Ob) (x3 x4 : Int32) (x5 x6 : Int32) (x7 x9 : Int64) (x11 x13 : Int64) (x15 x17 : Int64) (x19 x21 : Int64) (x23 x24 v : Int32) : Option (((Unit) ⊕ (Int32 × QHeap)) ⊕ (Int32)) :=
  (if v < x5 then ((loopN (B0_661 s p0 p1 x3 x4 x5 x6 x7 x9 x11 x13 x15 x17 x19 x21 x23 x24 v) qN (0 : Int32)).bind fun e710 => match e710 with | .inl e710a => some (.inr (v + (1 : Int32))) | .inr e710a => some (.inl (Sum.inr e710a))) else some (.inl (Sum.inl ())))
theorem tB0_651 (Ad : QAd n0 ad) (W : QW Z a0) (s : List Int32) (p0 p1 : Ob) (x3 x4 : Int32) (x5 x6 : Int32) (x7 x9 : Int64) (x11 x13 : Int64) (x15 x17 : Int64) (x19 x21 : Int64) (x23 x24 v : Int32) {r : ((Unit) ⊕ (Int32 × QHeap)) ⊕ (Int32)} {u : Option Value} {τ : QHeap} (h : B0_651 s p0 p1 x3 x4 x5 x6 x7 x9 x11 x13 x15 x17 x19 x21 x23 x24 v = some r) (hx0 : ∀ x : Unit, r = .inl (Sum.inl x) → QTri l Z n0 ad 0 (701, [vR 0, vR 1, vR 30, vI x3, vI x4, vI x5, vI x6, vL x7, nN, vL x9, nN, vL x11, nN, vL x13, nN, vL x15, nN, vL x17, nN, vL x19, nN, vL x21, nN, vI x23, vI x24, nN, nN, nN, nN], [], (H1 s p0 p1)) u τ) (hx1 : ∀ x : Int32 × QHeap, r = .inl (Sum.inr x) → u = (some (Value.int x.1)) ∧ τ = x.2) (hc : ∀ x : Int32, r = .inr x → QTri l Z n0 ad 0 (651, [vR 0, vR 1, vR 30, vI x3, vI x4, vI x5, vI x6, vL x7, nN, vL x9, nN, vL x11, nN, vL x13, nN, vL x15, nN, vL x17, nN, vL x19, nN, vL x21, nN, vI x23, vI x24, nN, vI x, nN, nN], [], (H1 s p0 p1)) u τ) : QTri l Z n0 ad 0 (651, [vR 0, vR 1, vR 30, vI x3, vI x4, vI x5, vI x6, vL x7, nN, vL x9, nN, vL x11, nN, vL x13, nN, vL x15, nN, vL x17, nN, vL x19, nN, vL x21, nN, vI x23, vI x24, nN, vI v, nN, nN], [], (H1 s p0 p1)) u τ := by
 unfold B0_651 at h
 refine yS Ad W 2 (655, [vR 0, vR 1, vR 30, vI x3, vI x4, vI x5, vI x6, vL x7, nN, vL x9, nN, vL x11, nN, vL x13, nN, vL x15, nN, vL x17, nN, vL x19, nN, vL x21, nN, vI x23, vI x24, nN, vI v, nN, nN], [.int x5, .int v], (H1 s p0 p1)) rfl ?_
 rcases qite h with ⟨c669, h⟩ | ⟨c669, h⟩
 ·refine yF Ad W 701 658 rfl (XT.ii_ge_f c669) ?_
  refine yS Ad W 2 (661, [vR 0, vR 1, vR 30, vI x3, vI x4, vI x5, vI x6, vL x7, nN, vL x9, nN, vL x11, nN, vL x13, nN, vL x15, nN, vL x17, nN, vL x19, nN, vL x21, nN, vI x23, vI x24, nN, vI v, vI 0, nN], [], (H1 s p0 p1)) rfl ?_
  obtain ⟨e710, he710, h⟩ := be h
  refine zM [tt,tt,tt,tt,tt,tt,tt,tt,ff,tt,ff,tt,ff,tt,ff,tt,ff,tt,ff,tt,ff,tt,ff,tt,tt,ff,tt,tt,ff] (loopN_tri (B := B0_661 s p0 p1 x3 x4 x5 x6 x7 x9 x11 x13 x15 x17 x19 x21 x23 x24 v) (T := fun lv711 => QTri l Z n0 ad 0 (661, [vR 0, vR 1, vR 30, vI x3, vI x4, vI x5, vI x6, vL x7, nN, vL x9, nN, vL x11, nN, vL x13, nN, vL x15, nN, vL x17, nN, vL x19, nN, vL x21, nN, vI x23, vI x24, nN, vI v, vI lv711, nN], [], (H1 s p0 p1)) u τ) (KE := fun e => match e with | .inl e710a => QTri l Z n0 ad 0 (695, [vR 0, vR 1, vR 30, vI x3, vI x4, vI x5, vI x6, vL x7, nN, vL x9, nN, vL x11, nN, vL x13, nN, vL x15, nN, vL x17, nN, vL x19, nN, vL x21, nN, vI x23, vI x24, nN, vI v, nN, nN], [], (H1 s p0 p1)) u τ | .inr e710a => u = (some (Value.int e710a.1)) ∧ τ = e710a.2) (fun lv711 r hB hE hC => tB0_661 Ad W s p0 p1 x3 x4 x5 x6 x7 x9 x11 x13 x15 x17 x19 x21 x23 x24 v lv711 hB (fun x q => hE _ q) (fun x q => hE _ q) (fun x q => hC x q)) qN (0:Int32) e710 he710 ?_)
  rcases e710 with e710a | e710a
  ·refine yS Ad W 2 (651, [vR 0, vR 1, vR 30, vI x3, vI x4, vI x5, vI x6, vL x7, nN, vL x9, nN, vL x11, nN, vL x13, nN, vL x15, nN, vL x17, nN, vL x19, nN, vL x21, nN, vI x23, vI x24, nN, vI (v + (1:Int32)), nN, nN], [], (H1 s p0 p1)) rfl ?_
   obtain rfl := sj h
   exact zM [tt,tt,tt,tt,tt,tt,tt,tt,ff,tt,ff,tt,ff,tt,ff,tt,ff,tt,ff,tt,ff,tt,ff,tt,tt,ff,tt,ff,ff] (hc (v + (1:Int32)) rfl)
  ·obtain rfl := sj h
   exact hx1 e710a rfl
 ·refine yT Ad W 701 658 rfl (XT.ii_ge_t c669) ?_
  obtain rfl := sj h
  exact zM [tt,tt,tt,tt,tt,tt,tt,tt,ff,tt,ff,tt,ff,tt,ff,tt,ff,tt,ff,tt,ff,tt,ff,tt,tt,ff,ff,ff,ff] (hx0 () rfl)
def J0_778 (s : List Int32) (p0 p1 : Ob) (x3 x4 : Int32) (x5 x6 : Int32) (x7 x9 : Int64) (x11 x13 : Int64) (x15 x17 : Int64) (x19 x21 : Int64) (x23 x24 : Int32) : Option (((Int32 × Ob × Ob) ⊕ (Int32 × QHeap)) ⊕ (Int32 × Int64 × Int64 × Int64 × Int64 × Int64 × Int64 × Int64 × Int64 × Int32 × Int32 × Ob × Ob)) :=
  some (.inr (x3, x7, x9, x11, x13, x15, x17, x19, x21, x23, (x24 + (1 : Int32)), p0, p1))
theorem tJ0_778 (Ad : QAd n0 ad) (W : QW Z a0) (s : List Int32) (p0 p1 : Ob) (x3 x4 : Int32) (x5 x6 : Int32) (x7 x9 : Int64) (x11 x13 : Int64) (x15 x17 : Int64) (x19 x21 : Int64) (x23 x24 : Int32) {r : ((Int32 × Ob × Ob) ⊕ (Int32 × QHeap)) ⊕ (Int32 × Int64 × Int64 × Int64 × Int64 × Int64 × Int64 × Int64 × Int64 × Int32 × Int32 × Ob × Ob)} {u : Option Value} {τ : QHeap} (h : J0_778 s p0 p1 x3 x4 x5 x6 x7 x9 x11 x13 x15 x17 x19 x21 x23 x24 = some r) (hx0 : ∀ x : Int32 × Ob × Ob, r = .inl (Sum.inl x) → QTri l Z n0 ad 0 (784, [vR 0, vR 1, vR 30, vI x.1, vI x4, nN, nN, nN, nN, nN, nN, nN, nN, nN, nN, nN, nN, nN, nN, nN, nN, nN, nN, nN, nN, nN, nN, nN, nN], [], (H1 s x.2.1 x.2.2)) u τ) (hx1 : ∀ x : Int32 × QHeap, r = .inl (Sum.inr x) → u = (some (Value.int x.1)) ∧ τ = x.2) (hc : ∀ x : Int32 × Int64 × Int64 × Int64 × Int64 × Int64 × Int64 × Int64 × Int64 × Int32 × Int32 × Ob × Ob, r = .inr x → QTri l Z n0 ad 0 (337, [vR 0, vR 1, vR 30, vI x.1, vI x4, vI x5, vI x6, vL x.2.1, nN, vL x.2.2.1, nN, vL x.2.2.2.1, nN, vL x.2.2.2.2.1, nN, vL x.2.2.2.2.2.1, nN, vL x.2.2.2.2.2.2.1, nN, vL x.2.2.2.2.2.2.2.1, nN, vL x.2.2.2.2.2.2.2.2.1, nN, vI x.2.2.2.2.2.2.2.2.2.1, vI x.2.2.2.2.2.2.2.2.2.2.1, nN, nN, nN, nN], [], (H1 s x.2.2.2.2.2.2.2.2.2.2.2.1 x.2.2.2.2.2.2.2.2.2.2.2.2)) u τ) : QTri l Z n0 ad 0 (778, [vR 0, vR 1, vR 30, vI x3, vI x4, vI x5, vI x6, vL x7, nN, vL x9, nN, vL x11, nN, vL x13, nN, vL x15, nN, vL x17, nN, vL x19, nN, vL x21, nN, vI x23, vI x24, nN, nN, nN, nN], [], (H1 s p0 p1)) u τ := by
 unfold J0_778 at h
 refine yS Ad W 2 (337, [vR 0, vR 1, vR 30, vI x3, vI x4, vI x5, vI x6, vL x7, nN, vL x9, nN, vL x11, nN, vL x13, nN, vL x15, nN, vL x17, nN, vL x19, nN, vL x21, nN, vI x23, vI (x24 + (1:Int32)), nN, nN, nN, nN], [], (H1 s p0 p1)) rfl ?_
 obtain rfl := sj h
 exact zM [tt,tt,tt,tt,tt,tt,tt,tt,ff,tt,ff,tt,ff,tt,ff,tt,ff,tt,ff,tt,ff,tt,ff,tt,tt,ff,ff,ff,ff] (hc (x3, x7, x9, x11, x13, x15, x17, x19, x21, x23, (x24 + (1:Int32)), p0, p1) rfl)
/-- word(IJJJJJJJJ)J -/
def F34 (x0 : Int32) (x1 x3 : Int64) (x5 x7 : Int64) (x9 x11 : Int64) (x13 x15 : Int64) : Option (Int64) :=
 (if x0 = (0:Int32) then some x1 else (if x0 = (1:Int32) then some x3 else (if x0 = (2:Int32) then some x5 else (if x0 = (3:Int32) then some x7 else (if x0 = (4:Int32) then some x9 else (if x0 = (5:Int32) then some x11 else (if x0 = (6:Int32) then some x13 else some x15)))))))
theorem tF34 (Ad : QAd n0 ad) (W : QW Z a0) {σ : QHeap} (x0 : Int32) (x1 x3 : Int64) (x5 x7 : Int64) (x9 x11 : Int64) (x13 x15 : Int64) {r : Int64} (h : F34 x0 x1 x3 x5 x7 x9 x11 x13 x15 = some r) : QTri l Z n0 ad 34 (0, qentry [.int x0, .long x1, .long x3, .long x5, .long x7, .long x9, .long x11, .long x13, .long x15] (pMaxL 34), [], σ) (some (Value.long r)) σ := by
 unfold F34 at h
 refine yS Ad W 1 (1, [vI x0, vL x1, nN, vL x3, nN, vL x5, nN, vL x7, nN, vL x9, nN, vL x11, nN, vL x13, nN, vL x15, nN], [.int x0], σ) rfl ?_
 rcases qite h with ⟨c716, h⟩ | ⟨c716, h⟩
 ·refine yF Ad W 8 4 rfl (XT.i0_ne_f c716) ?_
  refine yS Ad W 2 (70, [vI x0, vL x1, nN, vL x3, nN, vL x5, nN, vL x7, nN, vL x9, nN, vL x11, nN, vL x13, nN, vL x15, nN], [.long x1], σ) rfl ?_
  obtain rfl := sj h
  exact retJ rfl rfl
 ·refine yT Ad W 8 4 rfl (XT.i0_ne_t c716) ?_
  refine yS Ad W 2 (10, [vI x0, vL x1, nN, vL x3, nN, vL x5, nN, vL x7, nN, vL x9, nN, vL x11, nN, vL x13, nN, vL x15, nN], [.int 1, .int x0], σ) rfl ?_
  rcases qite h with ⟨c717, h⟩ | ⟨c717, h⟩
  ·refine yF Ad W 17 13 rfl (XT.ii_ne_f c717) ?_
   refine yS Ad W 2 (70, [vI x0, vL x1, nN, vL x3, nN, vL x5, nN, vL x7, nN, vL x9, nN, vL x11, nN, vL x13, nN, vL x15, nN], [.long x3], σ) rfl ?_
   obtain rfl := sj h
   exact retJ rfl rfl
  ·refine yT Ad W 17 13 rfl (XT.ii_ne_t c717) ?_
   refine yS Ad W 2 (19, [vI x0, vL x1, nN, vL x3, nN, vL x5, nN, vL x7, nN, vL x9, nN, vL x11, nN, vL x13, nN, vL x15, nN], [.int 2, .int x0], σ) rfl ?_
   rcases qite h with ⟨c718, h⟩ | ⟨c718, h⟩
   ·refine yF Ad W 27 22 rfl (XT.ii_ne_f c718) ?_
    refine yS Ad W 2 (70, [vI x0, vL x1, nN, vL x3, nN, vL x5, nN, vL x7, nN, vL x9, nN, vL x11, nN, vL x13, nN, vL x15, nN], [.long x5], σ) rfl ?_
    obtain rfl := sj h
    exact retJ rfl rfl
   ·refine yT Ad W 27 22 rfl (XT.ii_ne_t c718) ?_
    refine yS Ad W 2 (29, [vI x0, vL x1, nN, vL x3, nN, vL x5, nN, vL x7, nN, vL x9, nN, vL x11, nN, vL x13, nN, vL x15, nN], [.int 3, .int x0], σ) rfl ?_
    rcases qite h with ⟨c719, h⟩ | ⟨c719, h⟩
    ·refine yF Ad W 37 32 rfl (XT.ii_ne_f c719) ?_
     refine yS Ad W 2 (70, [vI x0, vL x1, nN, vL x3, nN, vL x5, nN, vL x7, nN, vL x9, nN, vL x11, nN, vL x13, nN, vL x15, nN], [.long x7], σ) rfl ?_
     obtain rfl := sj h
     exact retJ rfl rfl
    ·refine yT Ad W 37 32 rfl (XT.ii_ne_t c719) ?_
     refine yS Ad W 2 (39, [vI x0, vL x1, nN, vL x3, nN, vL x5, nN, vL x7, nN, vL x9, nN, vL x11, nN, vL x13, nN, vL x15, nN], [.int 4, .int x0], σ) rfl ?_
     rcases qite h with ⟨c720, h⟩ | ⟨c720, h⟩
     ·refine yF Ad W 47 42 rfl (XT.ii_ne_f c720) ?_
      refine yS Ad W 2 (70, [vI x0, vL x1, nN, vL x3, nN, vL x5, nN, vL x7, nN, vL x9, nN, vL x11, nN, vL x13, nN, vL x15, nN], [.long x9], σ) rfl ?_
      obtain rfl := sj h
      exact retJ rfl rfl
     ·refine yT Ad W 47 42 rfl (XT.ii_ne_t c720) ?_
      refine yS Ad W 2 (49, [vI x0, vL x1, nN, vL x3, nN, vL x5, nN, vL x7, nN, vL x9, nN, vL x11, nN, vL x13, nN, vL x15, nN], [.int 5, .int x0], σ) rfl ?_
      rcases qite h with ⟨c721, h⟩ | ⟨c721, h⟩
      ·refine yF Ad W 57 52 rfl (XT.ii_ne_f c721) ?_
       refine yS Ad W 2 (70, [vI x0, vL x1, nN, vL x3, nN, vL x5, nN, vL x7, nN, vL x9, nN, vL x11, nN, vL x13, nN, vL x15, nN], [.long x11], σ) rfl ?_
       obtain rfl := sj h
       exact retJ rfl rfl
      ·refine yT Ad W 57 52 rfl (XT.ii_ne_t c721) ?_
       refine yS Ad W 2 (60, [vI x0, vL x1, nN, vL x3, nN, vL x5, nN, vL x7, nN, vL x9, nN, vL x11, nN, vL x13, nN, vL x15, nN], [.int 6, .int x0], σ) rfl ?_
       rcases qite h with ⟨c722, h⟩ | ⟨c722, h⟩
       ·refine yF Ad W 68 63 rfl (XT.ii_ne_f c722) ?_
        refine yS Ad W 2 (70, [vI x0, vL x1, nN, vL x3, nN, vL x5, nN, vL x7, nN, vL x9, nN, vL x11, nN, vL x13, nN, vL x15, nN], [.long x13], σ) rfl ?_
        obtain rfl := sj h
        exact retJ rfl rfl
       ·refine yT Ad W 68 63 rfl (XT.ii_ne_t c722) ?_
        refine yS Ad W 1 (70, [vI x0, vL x1, nN, vL x3, nN, vL x5, nN, vL x7, nN, vL x9, nN, vL x11, nN, vL x13, nN, vL x15, nN], [.long x15], σ) rfl ?_
        obtain rfl := sj h
        exact retJ rfl rfl
def B0_709 (s : List Int32) (p0 p1 : Ob) (x3 x4 : Int32) (x5 x6 : Int32) (x7 x9 : Int64) (x11 x13 : Int64) (x15 x17 : Int64) (x19 x21 : Int64) (x23 x24 v : Int32) : Option (((Unit) ⊕ (Int32 × QHeap)) ⊕ (Int32)) :=
  (if v < (8 : Int32) then (F34 v x7 x9 x11 x13 x15 x17 x19 x21).bind fun r723 => (F22 p0 v (0 : Int32)).bind fun r724 => (if r724 = (r723.toInt32) then (F22 p0 v (1 : Int32)).bind fun r726 => (if r726 = ((XT.ushrL r723 (32 : Int32)).toInt32) then some (.inr (v + (1 : Int32))) else some (.inl (Sum.inr ((0 : Int32), (H1 s p0 p1))))) else some (.inl (Sum.inr ((0 : Int32), (H1 s p0 p1))))) else some (.inl (Sum.inl ())))
theorem tB0_709 (Ad : QAd n0 ad) (W : QW Z a0) (s : List Int32) (p0 p1 : Ob) (x3 x4 : Int32) (x5 x6 : Int32) (x7 x9 : Int64) (x11 x13 : Int64) (x15 x17 : Int64) (x19 x21 : Int64) (x23 x24 v : Int32) {r : ((Unit) ⊕ (Int32 × QHeap)) ⊕ (Int32)} {u : Option Value} {τ : QHeap} (h : B0_709 s p0 p1 x3 x4 x5 x6 x7 x9 x11 x13 x15 x17 x19 x21 x23 x24 v = some r) (hx0 : ∀ x : Unit, r = .inl (Sum.inl x) → QTri l Z n0 ad 0 (778, [vR 0, vR 1, vR 30, vI x3, vI x4, vI x5, vI x6, vL x7, nN, vL x9, nN, vL x11, nN, vL x13, nN, vL x15, nN, vL x17, nN, vL x19, nN, vL x21, nN, vI x23, vI x24, nN, nN, nN, nN], [], (H1 s p0 p1)) u τ) (hx1 : ∀ x : Int32 × QHeap, r = .inl (Sum.inr x) → u = (some (Value.int x.1)) ∧ τ = x.2) (hc : ∀ x : Int32, r = .inr x → QTri l Z n0 ad 0 (709, [vR 0, vR 1, vR 30, vI x3, vI x4, vI x5, vI x6, vL x7, nN, vL x9, nN, vL x11, nN, vL x13, nN, vL x15, nN, vL x17, nN, vL x19, nN, vL x21, nN, vI x23, vI x24, nN, vI x, nN, nN], [], (H1 s p0 p1)) u τ) : QTri l Z n0 ad 0 (709, [vR 0, vR 1, vR 30, vI x3, vI x4, vI x5, vI x6, vL x7, nN, vL x9, nN, vL x11, nN, vL x13, nN, vL x15, nN, vL x17, nN, vL x19, nN, vL x21, nN, vI x23, vI x24, nN, vI v, nN, nN], [], (H1 s p0 p1)) u τ := by
 unfold B0_709 at h
 refine yS Ad W 2 (713, [vR 0, vR 1, vR 30, vI x3, vI x4, vI x5, vI x6, vL x7, nN, vL x9, nN, vL x11, nN, vL x13, nN, vL x15, nN, vL x17, nN, vL x19, nN, vL x21, nN, vI x23, vI x24, nN, vI v, nN, nN], [.int 8, .int v], (H1 s p0 p1)) rfl ?_
 rcases qite h with ⟨c715, h⟩ | ⟨c715, h⟩
 ·refine yF Ad W 778 716 rfl (XT.ii_ge_f c715) ?_
  refine yS Ad W 9 (734, [vR 0, vR 1, vR 30, vI x3, vI x4, vI x5, vI x6, vL x7, nN, vL x9, nN, vL x11, nN, vL x13, nN, vL x15, nN, vL x17, nN, vL x19, nN, vL x21, nN, vI x23, vI x24, nN, vI v, nN, nN], [.long x21, .long x19, .long x17, .long x15, .long x13, .long x11, .long x9, .long x7, .int v], (H1 s p0 p1)) rfl ?_
  obtain ⟨r723, hr723, h⟩ := be h
  refine callS W (as := [.int v, .long x7, .long x9, .long x11, .long x13, .long x15, .long x17, .long x19, .long x21]) (rest := []) (w := (some (.long r723))) (σ₁ := (H1 s p0 p1)) rfl rfl rfl rfl rfl rfl rfl (tF34 Ad W v x7 x9 x11 x13 x15 x17 x19 x21 hr723) ?_
  refine yS Ad W 4 (743, [vR 0, vR 1, vR 30, vI x3, vI x4, vI x5, vI x6, vL x7, nN, vL x9, nN, vL x11, nN, vL x13, nN, vL x15, nN, vL x17, nN, vL x19, nN, vL x21, nN, vI x23, vI x24, nN, vI v, vL r723, nN], [.int 0, .int v, .ref 1], (H1 s p0 p1)) rfl ?_
  obtain ⟨r724, hr724, h⟩ := be h
  refine callV W (a := 1) (as := [.int v, .int 0]) (rest := []) (w := (some (.int r724))) (σ₁ := (H1 s p0 p1)) rfl rfl rfl rfl rfl rfl rfl rfl (tF22 Ad W s p1 p0 v (0:Int32) hr724) ?_
  refine yS Ad W 2 (749, [vR 0, vR 1, vR 30, vI x3, vI x4, vI x5, vI x6, vL x7, nN, vL x9, nN, vL x11, nN, vL x13, nN, vL x15, nN, vL x17, nN, vL x19, nN, vL x21, nN, vI x23, vI x24, nN, vI v, vL r723, nN], [.int (r723.toInt32), .int r724], (H1 s p0 p1)) rfl ?_
  rcases qite h with ⟨c725, h⟩ | ⟨c725, h⟩
  ·refine yT Ad W 754 752 rfl (XT.ii_eq_t c725) ?_
   refine yS Ad W 3 (758, [vR 0, vR 1, vR 30, vI x3, vI x4, vI x5, vI x6, vL x7, nN, vL x9, nN, vL x11, nN, vL x13, nN, vL x15, nN, vL x17, nN, vL x19, nN, vL x21, nN, vI x23, vI x24, nN, vI v, vL r723, nN], [.int 1, .int v, .ref 1], (H1 s p0 p1)) rfl ?_
   obtain ⟨r726, hr726, h⟩ := be h
   refine callV W (a := 1) (as := [.int v, .int 1]) (rest := []) (w := (some (.int r726))) (σ₁ := (H1 s p0 p1)) rfl rfl rfl rfl rfl rfl rfl rfl (tF22 Ad W s p1 p0 v (1:Int32) hr726) ?_
   refine yS Ad W 4 (767, [vR 0, vR 1, vR 30, vI x3, vI x4, vI x5, vI x6, vL x7, nN, vL x9, nN, vL x11, nN, vL x13, nN, vL x15, nN, vL x17, nN, vL x19, nN, vL x21, nN, vI x23, vI x24, nN, vI v, vL r723, nN], [.int ((XT.ushrL r723 (32:Int32)).toInt32), .int r726], (H1 s p0 p1)) rfl ?_
   rcases qite h with ⟨c727, h⟩ | ⟨c727, h⟩
   ·refine yT Ad W 772 770 rfl (XT.ii_eq_t c727) ?_
    refine yS Ad W 2 (709, [vR 0, vR 1, vR 30, vI x3, vI x4, vI x5, vI x6, vL x7, nN, vL x9, nN, vL x11, nN, vL x13, nN, vL x15, nN, vL x17, nN, vL x19, nN, vL x21, nN, vI x23, vI x24, nN, vI (v + (1:Int32)), vL r723, nN], [], (H1 s p0 p1)) rfl ?_
    obtain rfl := sj h
    exact zM [tt,tt,tt,tt,tt,tt,tt,tt,ff,tt,ff,tt,ff,tt,ff,tt,ff,tt,ff,tt,ff,tt,ff,tt,tt,ff,tt,ff,ff] (hc (v + (1:Int32)) rfl)
   ·refine yF Ad W 772 770 rfl (XT.ii_eq_f c727) ?_
    refine yS Ad W 1 (771, [vR 0, vR 1, vR 30, vI x3, vI x4, vI x5, vI x6, vL x7, nN, vL x9, nN, vL x11, nN, vL x13, nN, vL x15, nN, vL x17, nN, vL x19, nN, vL x21, nN, vI x23, vI x24, nN, vI v, vL r723, nN], [.int 0], (H1 s p0 p1)) rfl ?_
    obtain rfl := sj h
    obtain ⟨rfl, rfl⟩ := hx1 ((0:Int32), (H1 s p0 p1)) rfl
    exact retZ rfl rfl
  ·refine yF Ad W 754 752 rfl (XT.ii_eq_f c725) ?_
   refine yS Ad W 1 (753, [vR 0, vR 1, vR 30, vI x3, vI x4, vI x5, vI x6, vL x7, nN, vL x9, nN, vL x11, nN, vL x13, nN, vL x15, nN, vL x17, nN, vL x19, nN, vL x21, nN, vI x23, vI x24, nN, vI v, vL r723, nN], [.int 0], (H1 s p0 p1)) rfl ?_
   obtain rfl := sj h
   obtain ⟨rfl, rfl⟩ := hx1 ((0:Int32), (H1 s p0 p1)) rfl
   exact retZ rfl rfl
 ·refine yT Ad W 778 716 rfl (XT.ii_ge_t c715) ?_
  obtain rfl := sj h
  exact zM [tt,tt,tt,tt,tt,tt,tt,tt,ff,tt,ff,tt,ff,tt,ff,tt,ff,tt,ff,tt,ff,tt,ff,tt,tt,ff,ff,ff,ff] (hx0 () rfl)
def J0_496 (s : List Int32) (p0 p1 : Ob) (x3 x4 : Int32) (x5 x6 : Int32) (x7 x9 : Int64) (x11 x13 : Int64) (x15 x17 : Int64) (x19 x21 : Int64) (x23 x24 : Int32) : Option (((Int32 × Ob × Ob) ⊕ (Int32 × QHeap)) ⊕ (Int32 × Int64 × Int64 × Int64 × Int64 × Int64 × Int64 × Int64 × Int64 × Int32 × Int32 × Ob × Ob)) :=
  (F4 s x3).bind fun r418 => (F5 r418 (41 : Int32)).bind fun r419 => (F11 p0 (r419 - (20 : Int32))).bind fun r524 => (F11 p1 (r419 - (20 : Int32))).bind fun r629 => (if r524.1 = r629.1 then (F15 r524.2).bind fun r631 => (F15 r629.2).bind fun r632 => (if r631 = r632 then (F16 r524.2).bind fun r634 => (F16 r629.2).bind fun r635 => (if r634 = r635 then (F17 r524.2).bind fun r637 => (F17 r629.2).bind fun r638 => (if r637 = r638 then (F18 r524.2).bind fun r640 => (F18 r629.2).bind fun r641 => (if r640 = r641 then ((loopN (B0_586 s r524.2 r629.2 (x3 + (1 : Int32)) x4 x5 x6 x7 x9 x11 x13 x15 x17 x19 x21 x23 x24) qN (0 : Int32)).bind fun e653 => match e653 with | .inl e653a => ((loopN (B0_618 s r524.2 r629.2 (x3 + (1 : Int32)) x4 x5 x6 x7 x9 x11 x13 x15 x17 x19 x21 x23 x24) qN (0 : Int32)).bind fun e667 => match e667 with | .inl e667a => ((loopN (B0_651 s r524.2 r629.2 (x3 + (1 : Int32)) x4 x5 x6 x7 x9 x11 x13 x15 x17 x19 x21 x23 x24) qN (0 : Int32)).bind fun e712 => match e712 with | .inl e712a => (if x23 = (0 : Int32) then (J0_778 s r524.2 r629.2 (x3 + (1 : Int32)) x4 x5 x6 x7 x9 x11 x13 x15 x17 x19 x21 x23 x24) else ((loopN (B0_709 s r524.2 r629.2 (x3 + (1 : Int32)) x4 x5 x6 x7 x9 x11 x13 x15 x17 x19 x21 x23 x24) qN (0 : Int32)).bind fun e728 => match e728 with | .inl e728a => (J0_778 s r524.2 r629.2 (x3 + (1 : Int32)) x4 x5 x6 x7 x9 x11 x13 x15 x17 x19 x21 x23 x24) | .inr e728a => some (.inl (Sum.inr e728a)))) | .inr e712a => some (.inl (Sum.inr e712a))) | .inr e667a => some (.inl (Sum.inr e667a))) | .inr e653a => some (.inl (Sum.inr e653a))) else some (.inl (Sum.inr ((0 : Int32), (H1 s r524.2 r629.2))))) else some (.inl (Sum.inr ((0 : Int32), (H1 s r524.2 r629.2))))) else some (.inl (Sum.inr ((0 : Int32), (H1 s r524.2 r629.2))))) else some (.inl (Sum.inr ((0 : Int32), (H1 s r524.2 r629.2))))) else some (.inl (Sum.inr ((0 : Int32), (H1 s r524.2 r629.2)))))
theorem tJ0_496 (Ad : QAd n0 ad) (W : QW Z a0) (s : List Int32) (p0 p1 : Ob) (x3 x4 : Int32) (x5 x6 : Int32) (x7 x9 : Int64) (x11 x13 : Int64) (x15 x17 : Int64) (x19 x21 : Int64) (x23 x24 : Int32) {r : ((Int32 × Ob × Ob) ⊕ (Int32 × QHeap)) ⊕ (Int32 × Int64 × Int64 × Int64 × Int64 × Int64 × Int64 × Int64 × Int64 × Int32 × Int32 × Ob × Ob)} {u : Option Value} {τ : QHeap} (h : J0_496 s p0 p1 x3 x4 x5 x6 x7 x9 x11 x13 x15 x17 x19 x21 x23 x24 = some r) (hx0 : ∀ x : Int32 × Ob × Ob, r = .inl (Sum.inl x) → QTri l Z n0 ad 0 (784, [vR 0, vR 1, vR 30, vI x.1, vI x4, nN, nN, nN, nN, nN, nN, nN, nN, nN, nN, nN, nN, nN, nN, nN, nN, nN, nN, nN, nN, nN, nN, nN, nN], [], (H1 s x.2.1 x.2.2)) u τ) (hx1 : ∀ x : Int32 × QHeap, r = .inl (Sum.inr x) → u = (some (Value.int x.1)) ∧ τ = x.2) (hc : ∀ x : Int32 × Int64 × Int64 × Int64 × Int64 × Int64 × Int64 × Int64 × Int64 × Int32 × Int32 × Ob × Ob, r = .inr x → QTri l Z n0 ad 0 (337, [vR 0, vR 1, vR 30, vI x.1, vI x4, vI x5, vI x6, vL x.2.1, nN, vL x.2.2.1, nN, vL x.2.2.2.1, nN, vL x.2.2.2.2.1, nN, vL x.2.2.2.2.2.1, nN, vL x.2.2.2.2.2.2.1, nN, vL x.2.2.2.2.2.2.2.1, nN, vL x.2.2.2.2.2.2.2.2.1, nN, vI x.2.2.2.2.2.2.2.2.2.1, vI x.2.2.2.2.2.2.2.2.2.2.1, nN, nN, nN, nN], [], (H1 s x.2.2.2.2.2.2.2.2.2.2.2.1 x.2.2.2.2.2.2.2.2.2.2.2.2)) u τ) : QTri l Z n0 ad 0 (496, [vR 0, vR 1, vR 30, vI x3, vI x4, vI x5, vI x6, vL x7, nN, vL x9, nN, vL x11, nN, vL x13, nN, vL x15, nN, vL x17, nN, vL x19, nN, vL x21, nN, vI x23, vI x24, nN, nN, nN, nN], [], (H1 s p0 p1)) u τ := by
 unfold J0_496 at h
 refine yS Ad W 3 (501, [vR 0, vR 1, vR 30, vI (x3 + (1:Int32)), vI x4, vI x5, vI x6, vL x7, nN, vL x9, nN, vL x11, nN, vL x13, nN, vL x15, nN, vL x17, nN, vL x19, nN, vL x21, nN, vI x23, vI x24, nN, nN, nN, nN], [.int x3, .ref 0], (H1 s p0 p1)) rfl ?_
 obtain ⟨r418, hr418, h⟩ := be h
 refine callS W (as := [.ref 0, .int x3]) (rest := []) (w := (some (.int r418))) (σ₁ := (H1 s p0 p1)) rfl rfl rfl rfl rfl rfl rfl (tF4 Ad W p0 p1 s x3 hr418) ?_
 refine yS Ad W 1 (506, [vR 0, vR 1, vR 30, vI (x3 + (1:Int32)), vI x4, vI x5, vI x6, vL x7, nN, vL x9, nN, vL x11, nN, vL x13, nN, vL x15, nN, vL x17, nN, vL x19, nN, vL x21, nN, vI x23, vI x24, nN, nN, nN, nN], [.int 41, .int r418], (H1 s p0 p1)) rfl ?_
 obtain ⟨r419, hr419, h⟩ := be h
 refine callS W (as := [.int r418, .int 41]) (rest := []) (w := (some (.int r419))) (σ₁ := (H1 s p0 p1)) rfl rfl rfl rfl rfl rfl rfl (tF5 Ad W r418 (41:Int32) hr419) ?_
 refine yS Ad W 5 (517, [vR 0, vR 1, vR 30, vI (x3 + (1:Int32)), vI x4, vI x5, vI x6, vL x7, nN, vL x9, nN, vL x11, nN, vL x13, nN, vL x15, nN, vL x17, nN, vL x19, nN, vL x21, nN, vI x23, vI x24, vI (r419 - (20:Int32)), nN, nN, nN], [.int (r419 - (20:Int32)), .ref 1], (H1 s p0 p1)) rfl ?_
 obtain ⟨r524, hr524, h⟩ := be h
 refine callV W (a := 1) (as := [.int (r419 - (20:Int32))]) (rest := []) (w := (some (.int r524.1))) (σ₁ := (H1 s r524.2 p1)) rfl rfl rfl rfl rfl rfl rfl rfl (tF11 Ad W s p1 p0 (r419 - (20:Int32)) hr524) ?_
 refine yS Ad W 2 (523, [vR 0, vR 1, vR 30, vI (x3 + (1:Int32)), vI x4, vI x5, vI x6, vL x7, nN, vL x9, nN, vL x11, nN, vL x13, nN, vL x15, nN, vL x17, nN, vL x19, nN, vL x21, nN, vI x23, vI x24, vI (r419 - (20:Int32)), nN, nN, nN], [.int (r419 - (20:Int32)), .ref 30, .int r524.1], (H1 s r524.2 p1)) rfl ?_
 obtain ⟨r629, hr629, h⟩ := be h
 refine callV W (a := 30) (as := [.int (r419 - (20:Int32))]) (rest := [.int r524.1]) (w := (some (.int r629.1))) (σ₁ := (H1 s r524.2 r629.2)) rfl rfl rfl rfl rfl rfl rfl rfl (tF11a1 Ad W s r524.2 p1 (r419 - (20:Int32)) hr629) ?_
 rcases qite h with ⟨c630, h⟩ | ⟨c630, h⟩
 ·refine yT Ad W 531 529 rfl (XT.ii_eq_t c630) ?_
  refine yS Ad W 1 (532, [vR 0, vR 1, vR 30, vI (x3 + (1:Int32)), vI x4, vI x5, vI x6, vL x7, nN, vL x9, nN, vL x11, nN, vL x13, nN, vL x15, nN, vL x17, nN, vL x19, nN, vL x21, nN, vI x23, vI x24, vI (r419 - (20:Int32)), nN, nN, nN], [.ref 1], (H1 s r524.2 r629.2)) rfl ?_
  obtain ⟨r631, hr631, h⟩ := be h
  refine callV W (a := 1) (as := []) (rest := []) (w := (some (.int r631))) (σ₁ := (H1 s r524.2 r629.2)) rfl rfl rfl rfl rfl rfl rfl rfl (tF15 Ad W s r629.2 r524.2 hr631) ?_
  refine yS Ad W 1 (536, [vR 0, vR 1, vR 30, vI (x3 + (1:Int32)), vI x4, vI x5, vI x6, vL x7, nN, vL x9, nN, vL x11, nN, vL x13, nN, vL x15, nN, vL x17, nN, vL x19, nN, vL x21, nN, vI x23, vI x24, vI (r419 - (20:Int32)), nN, nN, nN], [.ref 30, .int r631], (H1 s r524.2 r629.2)) rfl ?_
  obtain ⟨r632, hr632, h⟩ := be h
  refine callV W (a := 30) (as := []) (rest := [.int r631]) (w := (some (.int r632))) (σ₁ := (H1 s r524.2 r629.2)) rfl rfl rfl rfl rfl rfl rfl rfl (tF15a1 Ad W s r524.2 r629.2 hr632) ?_
  rcases qite h with ⟨c633, h⟩ | ⟨c633, h⟩
  ·refine yT Ad W 544 542 rfl (XT.ii_eq_t c633) ?_
   refine yS Ad W 1 (545, [vR 0, vR 1, vR 30, vI (x3 + (1:Int32)), vI x4, vI x5, vI x6, vL x7, nN, vL x9, nN, vL x11, nN, vL x13, nN, vL x15, nN, vL x17, nN, vL x19, nN, vL x21, nN, vI x23, vI x24, vI (r419 - (20:Int32)), nN, nN, nN], [.ref 1], (H1 s r524.2 r629.2)) rfl ?_
   obtain ⟨r634, hr634, h⟩ := be h
   refine callV W (a := 1) (as := []) (rest := []) (w := (some (.int r634))) (σ₁ := (H1 s r524.2 r629.2)) rfl rfl rfl rfl rfl rfl rfl rfl (tF16 Ad W s r629.2 r524.2 hr634) ?_
   refine yS Ad W 1 (549, [vR 0, vR 1, vR 30, vI (x3 + (1:Int32)), vI x4, vI x5, vI x6, vL x7, nN, vL x9, nN, vL x11, nN, vL x13, nN, vL x15, nN, vL x17, nN, vL x19, nN, vL x21, nN, vI x23, vI x24, vI (r419 - (20:Int32)), nN, nN, nN], [.ref 30, .int r634], (H1 s r524.2 r629.2)) rfl ?_
   obtain ⟨r635, hr635, h⟩ := be h
   refine callV W (a := 30) (as := []) (rest := [.int r634]) (w := (some (.int r635))) (σ₁ := (H1 s r524.2 r629.2)) rfl rfl rfl rfl rfl rfl rfl rfl (tF16a1 Ad W s r524.2 r629.2 hr635) ?_
   rcases qite h with ⟨c636, h⟩ | ⟨c636, h⟩
   ·refine yT Ad W 557 555 rfl (XT.ii_eq_t c636) ?_
    refine yS Ad W 1 (558, [vR 0, vR 1, vR 30, vI (x3 + (1:Int32)), vI x4, vI x5, vI x6, vL x7, nN, vL x9, nN, vL x11, nN, vL x13, nN, vL x15, nN, vL x17, nN, vL x19, nN, vL x21, nN, vI x23, vI x24, vI (r419 - (20:Int32)), nN, nN, nN], [.ref 1], (H1 s r524.2 r629.2)) rfl ?_
    obtain ⟨r637, hr637, h⟩ := be h
    refine callV W (a := 1) (as := []) (rest := []) (w := (some (.int r637))) (σ₁ := (H1 s r524.2 r629.2)) rfl rfl rfl rfl rfl rfl rfl rfl (tF17 Ad W s r629.2 r524.2 hr637) ?_
    refine yS Ad W 1 (562, [vR 0, vR 1, vR 30, vI (x3 + (1:Int32)), vI x4, vI x5, vI x6, vL x7, nN, vL x9, nN, vL x11, nN, vL x13, nN, vL x15, nN, vL x17, nN, vL x19, nN, vL x21, nN, vI x23, vI x24, vI (r419 - (20:Int32)), nN, nN, nN], [.ref 30, .int r637], (H1 s r524.2 r629.2)) rfl ?_
    obtain ⟨r638, hr638, h⟩ := be h
    refine callV W (a := 30) (as := []) (rest := [.int r637]) (w := (some (.int r638))) (σ₁ := (H1 s r524.2 r629.2)) rfl rfl rfl rfl rfl rfl rfl rfl (tF17a1 Ad W s r524.2 r629.2 hr638) ?_
    rcases qite h with ⟨c639, h⟩ | ⟨c639, h⟩
    ·refine yT Ad W 570 568 rfl (XT.ii_eq_t c639) ?_
     refine yS Ad W 1 (571, [vR 0, vR 1, vR 30, vI (x3 + (1:Int32)), vI x4, vI x5, vI x6, vL x7, nN, vL x9, nN, vL x11, nN, vL x13, nN, vL x15, nN, vL x17, nN, vL x19, nN, vL x21, nN, vI x23, vI x24, vI (r419 - (20:Int32)), nN, nN, nN], [.ref 1], (H1 s r524.2 r629.2)) rfl ?_
     obtain ⟨r640, hr640, h⟩ := be h
     refine callV W (a := 1) (as := []) (rest := []) (w := (some (.int r640))) (σ₁ := (H1 s r524.2 r629.2)) rfl rfl rfl rfl rfl rfl rfl rfl (tF18 Ad W s r629.2 r524.2 hr640) ?_
     refine yS Ad W 1 (575, [vR 0, vR 1, vR 30, vI (x3 + (1:Int32)), vI x4, vI x5, vI x6, vL x7, nN, vL x9, nN, vL x11, nN, vL x13, nN, vL x15, nN, vL x17, nN, vL x19, nN, vL x21, nN, vI x23, vI x24, vI (r419 - (20:Int32)), nN, nN, nN], [.ref 30, .int r640], (H1 s r524.2 r629.2)) rfl ?_
     obtain ⟨r641, hr641, h⟩ := be h
     refine callV W (a := 30) (as := []) (rest := [.int r640]) (w := (some (.int r641))) (σ₁ := (H1 s r524.2 r629.2)) rfl rfl rfl rfl rfl rfl rfl rfl (tF18a1 Ad W s r524.2 r629.2 hr641) ?_
     rcases qite h with ⟨c642, h⟩ | ⟨c642, h⟩
     ·refine yT Ad W 583 581 rfl (XT.ii_eq_t c642) ?_
      refine yS Ad W 2 (586, [vR 0, vR 1, vR 30, vI (x3 + (1:Int32)), vI x4, vI x5, vI x6, vL x7, nN, vL x9, nN, vL x11, nN, vL x13, nN, vL x15, nN, vL x17, nN, vL x19, nN, vL x21, nN, vI x23, vI x24, vI (r419 - (20:Int32)), vI 0, nN, nN], [], (H1 s r524.2 r629.2)) rfl ?_
      obtain ⟨e653, he653, h⟩ := be h
      refine zM [tt,tt,tt,tt,tt,tt,tt,tt,ff,tt,ff,tt,ff,tt,ff,tt,ff,tt,ff,tt,ff,tt,ff,tt,tt,ff,tt,ff,ff] (loopN_tri (B := B0_586 s r524.2 r629.2 (x3 + (1:Int32)) x4 x5 x6 x7 x9 x11 x13 x15 x17 x19 x21 x23 x24) (T := fun lv654 => QTri l Z n0 ad 0 (586, [vR 0, vR 1, vR 30, vI (x3 + (1:Int32)), vI x4, vI x5, vI x6, vL x7, nN, vL x9, nN, vL x11, nN, vL x13, nN, vL x15, nN, vL x17, nN, vL x19, nN, vL x21, nN, vI x23, vI x24, nN, vI lv654, nN, nN], [], (H1 s r524.2 r629.2)) u τ) (KE := fun e => match e with | .inl e653a => QTri l Z n0 ad 0 (615, [vR 0, vR 1, vR 30, vI (x3 + (1:Int32)), vI x4, vI x5, vI x6, vL x7, nN, vL x9, nN, vL x11, nN, vL x13, nN, vL x15, nN, vL x17, nN, vL x19, nN, vL x21, nN, vI x23, vI x24, nN, nN, nN, nN], [], (H1 s r524.2 r629.2)) u τ | .inr e653a => u = (some (Value.int e653a.1)) ∧ τ = e653a.2) (fun lv654 r hB hE hC => tB0_586 Ad W s r524.2 r629.2 (x3 + (1:Int32)) x4 x5 x6 x7 x9 x11 x13 x15 x17 x19 x21 x23 x24 lv654 hB (fun x q => hE _ q) (fun x q => hE _ q) (fun x q => hC x q)) qN (0:Int32) e653 he653 ?_)
      rcases e653 with e653a | e653a
      ·refine yS Ad W 2 (618, [vR 0, vR 1, vR 30, vI (x3 + (1:Int32)), vI x4, vI x5, vI x6, vL x7, nN, vL x9, nN, vL x11, nN, vL x13, nN, vL x15, nN, vL x17, nN, vL x19, nN, vL x21, nN, vI x23, vI x24, nN, vI 0, nN, nN], [], (H1 s r524.2 r629.2)) rfl ?_
       obtain ⟨e667, he667, h⟩ := be h
       refine zM [tt,tt,tt,tt,tt,tt,tt,tt,ff,tt,ff,tt,ff,tt,ff,tt,ff,tt,ff,tt,ff,tt,ff,tt,tt,ff,tt,ff,ff] (loopN_tri (B := B0_618 s r524.2 r629.2 (x3 + (1:Int32)) x4 x5 x6 x7 x9 x11 x13 x15 x17 x19 x21 x23 x24) (T := fun lv668 => QTri l Z n0 ad 0 (618, [vR 0, vR 1, vR 30, vI (x3 + (1:Int32)), vI x4, vI x5, vI x6, vL x7, nN, vL x9, nN, vL x11, nN, vL x13, nN, vL x15, nN, vL x17, nN, vL x19, nN, vL x21, nN, vI x23, vI x24, nN, vI lv668, nN, nN], [], (H1 s r524.2 r629.2)) u τ) (KE := fun e => match e with | .inl e667a => QTri l Z n0 ad 0 (648, [vR 0, vR 1, vR 30, vI (x3 + (1:Int32)), vI x4, vI x5, vI x6, vL x7, nN, vL x9, nN, vL x11, nN, vL x13, nN, vL x15, nN, vL x17, nN, vL x19, nN, vL x21, nN, vI x23, vI x24, nN, nN, nN, nN], [], (H1 s r524.2 r629.2)) u τ | .inr e667a => u = (some (Value.int e667a.1)) ∧ τ = e667a.2) (fun lv668 r hB hE hC => tB0_618 Ad W s r524.2 r629.2 (x3 + (1:Int32)) x4 x5 x6 x7 x9 x11 x13 x15 x17 x19 x21 x23 x24 lv668 hB (fun x q => hE _ q) (fun x q => hE _ q) (fun x q => hC x q)) qN (0:Int32) e667 he667 ?_)
       rcases e667 with e667a | e667a
       ·refine yS Ad W 2 (651, [vR 0, vR 1, vR 30, vI (x3 + (1:Int32)), vI x4, vI x5, vI x6, vL x7, nN, vL x9, nN, vL x11, nN, vL x13, nN, vL x15, nN, vL x17, nN, vL x19, nN, vL x21, nN, vI x23, vI x24, nN, vI 0, nN, nN], [], (H1 s r524.2 r629.2)) rfl ?_
        obtain ⟨e712, he712, h⟩ := be h
        refine zM [tt,tt,tt,tt,tt,tt,tt,tt,ff,tt,ff,tt,ff,tt,ff,tt,ff,tt,ff,tt,ff,tt,ff,tt,tt,ff,tt,ff,ff] (loopN_tri (B := B0_651 s r524.2 r629.2 (x3 + (1:Int32)) x4 x5 x6 x7 x9 x11 x13 x15 x17 x19 x21 x23 x24) (T := fun lv713 => QTri l Z n0 ad 0 (651, [vR 0, vR 1, vR 30, vI (x3 + (1:Int32)), vI x4, vI x5, vI x6, vL x7, nN, vL x9, nN, vL x11, nN, vL x13, nN, vL x15, nN, vL x17, nN, vL x19, nN, vL x21, nN, vI x23, vI x24, nN, vI lv713, nN, nN], [], (H1 s r524.2 r629.2)) u τ) (KE := fun e => match e with | .inl e712a => QTri l Z n0 ad 0 (701, [vR 0, vR 1, vR 30, vI (x3 + (1:Int32)), vI x4, vI x5, vI x6, vL x7, nN, vL x9, nN, vL x11, nN, vL x13, nN, vL x15, nN, vL x17, nN, vL x19, nN, vL x21, nN, vI x23, vI x24, nN, nN, nN, nN], [], (H1 s r524.2 r629.2)) u τ | .inr e712a => u = (some (Value.int e712a.1)) ∧ τ = e712a.2) (fun lv713 r hB hE hC => tB0_651 Ad W s r524.2 r629.2 (x3 + (1:Int32)) x4 x5 x6 x7 x9 x11 x13 x15 x17 x19 x21 x23 x24 lv713 hB (fun x q => hE _ q) (fun x q => hE _ q) (fun x q => hC x q)) qN (0:Int32) e712 he712 ?_)
        rcases e712 with e712a | e712a
        ·refine yS Ad W 1 (703, [vR 0, vR 1, vR 30, vI (x3 + (1:Int32)), vI x4, vI x5, vI x6, vL x7, nN, vL x9, nN, vL x11, nN, vL x13, nN, vL x15, nN, vL x17, nN, vL x19, nN, vL x21, nN, vI x23, vI x24, nN, nN, nN, nN], [.int x23], (H1 s r524.2 r629.2)) rfl ?_
         rcases qite h with ⟨c714, h⟩ | ⟨c714, h⟩
         ·refine yT Ad W 778 706 rfl (XT.i0_eq_t c714) ?_
          exact zM [tt,tt,tt,tt,tt,tt,tt,tt,ff,tt,ff,tt,ff,tt,ff,tt,ff,tt,ff,tt,ff,tt,ff,tt,tt,ff,ff,ff,ff] (tJ0_778 Ad W s r524.2 r629.2 (x3 + (1:Int32)) x4 x5 x6 x7 x9 x11 x13 x15 x17 x19 x21 x23 x24 h hx0 hx1 hc)
         ·refine yF Ad W 778 706 rfl (XT.i0_eq_f c714) ?_
          refine yS Ad W 2 (709, [vR 0, vR 1, vR 30, vI (x3 + (1:Int32)), vI x4, vI x5, vI x6, vL x7, nN, vL x9, nN, vL x11, nN, vL x13, nN, vL x15, nN, vL x17, nN, vL x19, nN, vL x21, nN, vI x23, vI x24, nN, vI 0, nN, nN], [], (H1 s r524.2 r629.2)) rfl ?_
          obtain ⟨e728, he728, h⟩ := be h
          refine zM [tt,tt,tt,tt,tt,tt,tt,tt,ff,tt,ff,tt,ff,tt,ff,tt,ff,tt,ff,tt,ff,tt,ff,tt,tt,ff,tt,ff,ff] (loopN_tri (B := B0_709 s r524.2 r629.2 (x3 + (1:Int32)) x4 x5 x6 x7 x9 x11 x13 x15 x17 x19 x21 x23 x24) (T := fun lv729 => QTri l Z n0 ad 0 (709, [vR 0, vR 1, vR 30, vI (x3 + (1:Int32)), vI x4, vI x5, vI x6, vL x7, nN, vL x9, nN, vL x11, nN, vL x13, nN, vL x15, nN, vL x17, nN, vL x19, nN, vL x21, nN, vI x23, vI x24, nN, vI lv729, nN, nN], [], (H1 s r524.2 r629.2)) u τ) (KE := fun e => match e with | .inl e728a => QTri l Z n0 ad 0 (778, [vR 0, vR 1, vR 30, vI (x3 + (1:Int32)), vI x4, vI x5, vI x6, vL x7, nN, vL x9, nN, vL x11, nN, vL x13, nN, vL x15, nN, vL x17, nN, vL x19, nN, vL x21, nN, vI x23, vI x24, nN, nN, nN, nN], [], (H1 s r524.2 r629.2)) u τ | .inr e728a => u = (some (Value.int e728a.1)) ∧ τ = e728a.2) (fun lv729 r hB hE hC => tB0_709 Ad W s r524.2 r629.2 (x3 + (1:Int32)) x4 x5 x6 x7 x9 x11 x13 x15 x17 x19 x21 x23 x24 lv729 hB (fun x q => hE _ q) (fun x q => hE _ q) (fun x q => hC x q)) qN (0:Int32) e728 he728 ?_)
          rcases e728 with e728a | e728a
          ·exact zM [tt,tt,tt,tt,tt,tt,tt,tt,ff,tt,ff,tt,ff,tt,ff,tt,ff,tt,ff,tt,ff,tt,ff,tt,tt,ff,ff,ff,ff] (tJ0_778 Ad W s r524.2 r629.2 (x3 + (1:Int32)) x4 x5 x6 x7 x9 x11 x13 x15 x17 x19 x21 x23 x24 h hx0 hx1 hc)
          ·obtain rfl := sj h
           exact hx1 e728a rfl
        ·obtain rfl := sj h
         exact hx1 e712a rfl
       ·obtain rfl := sj h
        exact hx1 e667a rfl
      ·obtain rfl := sj h
       exact hx1 e653a rfl
     ·refine yF Ad W 583 581 rfl (XT.ii_eq_f c642) ?_
      refine yS Ad W 1 (582, [vR 0, vR 1, vR 30, vI (x3 + (1:Int32)), vI x4, vI x5, vI x6, vL x7, nN, vL x9, nN, vL x11, nN, vL x13, nN, vL x15, nN, vL x17, nN, vL x19, nN, vL x21, nN, vI x23, vI x24, vI (r419 - (20:Int32)), nN, nN, nN], [.int 0], (H1 s r524.2 r629.2)) rfl ?_
      obtain rfl := sj h
      obtain ⟨rfl, rfl⟩ := hx1 ((0:Int32), (H1 s r524.2 r629.2)) rfl
      exact retZ rfl rfl
    ·refine yF Ad W 570 568 rfl (XT.ii_eq_f c639) ?_
     refine yS Ad W 1 (569, [vR 0, vR 1, vR 30, vI (x3 + (1:Int32)), vI x4, vI x5, vI x6, vL x7, nN, vL x9, nN, vL x11, nN, vL x13, nN, vL x15, nN, vL x17, nN, vL x19, nN, vL x21, nN, vI x23, vI x24, vI (r419 - (20:Int32)), nN, nN, nN], [.int 0], (H1 s r524.2 r629.2)) rfl ?_
     obtain rfl := sj h
     obtain ⟨rfl, rfl⟩ := hx1 ((0:Int32), (H1 s r524.2 r629.2)) rfl
     exact retZ rfl rfl
   ·refine yF Ad W 557 555 rfl (XT.ii_eq_f c636) ?_
    refine yS Ad W 1 (556, [vR 0, vR 1, vR 30, vI (x3 + (1:Int32)), vI x4, vI x5, vI x6, vL x7, nN, vL x9, nN, vL x11, nN, vL x13, nN, vL x15, nN, vL x17, nN, vL x19, nN, vL x21, nN, vI x23, vI x24, vI (r419 - (20:Int32)), nN, nN, nN], [.int 0], (H1 s r524.2 r629.2)) rfl ?_
    obtain rfl := sj h
    obtain ⟨rfl, rfl⟩ := hx1 ((0:Int32), (H1 s r524.2 r629.2)) rfl
    exact retZ rfl rfl
  ·refine yF Ad W 544 542 rfl (XT.ii_eq_f c633) ?_
   refine yS Ad W 1 (543, [vR 0, vR 1, vR 30, vI (x3 + (1:Int32)), vI x4, vI x5, vI x6, vL x7, nN, vL x9, nN, vL x11, nN, vL x13, nN, vL x15, nN, vL x17, nN, vL x19, nN, vL x21, nN, vI x23, vI x24, vI (r419 - (20:Int32)), nN, nN, nN], [.int 0], (H1 s r524.2 r629.2)) rfl ?_
   obtain rfl := sj h
   obtain ⟨rfl, rfl⟩ := hx1 ((0:Int32), (H1 s r524.2 r629.2)) rfl
   exact retZ rfl rfl
 ·refine yF Ad W 531 529 rfl (XT.ii_eq_f c630) ?_
  refine yS Ad W 1 (530, [vR 0, vR 1, vR 30, vI (x3 + (1:Int32)), vI x4, vI x5, vI x6, vL x7, nN, vL x9, nN, vL x11, nN, vL x13, nN, vL x15, nN, vL x17, nN, vL x19, nN, vL x21, nN, vI x23, vI x24, vI (r419 - (20:Int32)), nN, nN, nN], [.int 0], (H1 s r524.2 r629.2)) rfl ?_
  obtain rfl := sj h
  obtain ⟨rfl, rfl⟩ := hx1 ((0:Int32), (H1 s r524.2 r629.2)) rfl
  exact retZ rfl rfl
def B0_337 (s : List Int32) (x4 x5 x6 : Int32) (v : Int32 × Int64 × Int64 × Int64 × Int64 × Int64 × Int64 × Int64 × Int64 × Int32 × Int32 × Ob × Ob) : Option (((Int32 × Ob × Ob) ⊕ (Int32 × QHeap)) ⊕ (Int32 × Int64 × Int64 × Int64 × Int64 × Int64 × Int64 × Int64 × Int64 × Int32 × Int32 × Ob × Ob)) :=
  (if v.2.2.2.2.2.2.2.2.2.2.1 < (x6 + (4 : Int32)) then (if v.2.2.2.2.2.2.2.2.2.2.1 = x6 then (loopN (B0_356 s v.2.2.2.2.2.2.2.2.2.2.2.1 v.2.2.2.2.2.2.2.2.2.2.2.2 v.1 x4 x5 x6 v.2.2.2.2.2.2.2.2.2.2.1) qN (v.2.1, v.2.2.1, v.2.2.2.1, v.2.2.2.2.1, v.2.2.2.2.2.1, v.2.2.2.2.2.2.1, v.2.2.2.2.2.2.2.1, v.2.2.2.2.2.2.2.2.1, (0 : Int32))).bind fun e229 => (F23 v.2.2.2.2.2.2.2.2.2.2.2.1).bind fun r417 => (J0_496 s r417.2 v.2.2.2.2.2.2.2.2.2.2.2.2 v.1 x4 x5 x6 e229.1 e229.2.1 e229.2.2.1 e229.2.2.2.1 e229.2.2.2.2.1 e229.2.2.2.2.2.1 e229.2.2.2.2.2.2.1 e229.2.2.2.2.2.2.2 r417.1 v.2.2.2.2.2.2.2.2.2.2.1) else (J0_496 s v.2.2.2.2.2.2.2.2.2.2.2.1 v.2.2.2.2.2.2.2.2.2.2.2.2 v.1 x4 x5 x6 v.2.1 v.2.2.1 v.2.2.2.1 v.2.2.2.2.1 v.2.2.2.2.2.1 v.2.2.2.2.2.2.1 v.2.2.2.2.2.2.2.1 v.2.2.2.2.2.2.2.2.1 v.2.2.2.2.2.2.2.2.2.1 v.2.2.2.2.2.2.2.2.2.2.1)) else some (.inl (Sum.inl (v.1, v.2.2.2.2.2.2.2.2.2.2.2.1, v.2.2.2.2.2.2.2.2.2.2.2.2))))
theorem tB0_337 (Ad : QAd n0 ad) (W : QW Z a0) (s : List Int32) (x4 x5 x6 : Int32) (v : Int32 × Int64 × Int64 × Int64 × Int64 × Int64 × Int64 × Int64 × Int64 × Int32 × Int32 × Ob × Ob) {r : ((Int32 × Ob × Ob) ⊕ (Int32 × QHeap)) ⊕ (Int32 × Int64 × Int64 × Int64 × Int64 × Int64 × Int64 × Int64 × Int64 × Int32 × Int32 × Ob × Ob)} {u : Option Value} {τ : QHeap} (h : B0_337 s x4 x5 x6 v = some r) (hx0 : ∀ x : Int32 × Ob × Ob, r = .inl (Sum.inl x) → QTri l Z n0 ad 0 (784, [vR 0, vR 1, vR 30, vI x.1, vI x4, nN, nN, nN, nN, nN, nN, nN, nN, nN, nN, nN, nN, nN, nN, nN, nN, nN, nN, nN, nN, nN, nN, nN, nN], [], (H1 s x.2.1 x.2.2)) u τ) (hx1 : ∀ x : Int32 × QHeap, r = .inl (Sum.inr x) → u = (some (Value.int x.1)) ∧ τ = x.2) (hc : ∀ x : Int32 × Int64 × Int64 × Int64 × Int64 × Int64 × Int64 × Int64 × Int64 × Int32 × Int32 × Ob × Ob, r = .inr x → QTri l Z n0 ad 0 (337, [vR 0, vR 1, vR 30, vI x.1, vI x4, vI x5, vI x6, vL x.2.1, nN, vL x.2.2.1, nN, vL x.2.2.2.1, nN, vL x.2.2.2.2.1, nN, vL x.2.2.2.2.2.1, nN, vL x.2.2.2.2.2.2.1, nN, vL x.2.2.2.2.2.2.2.1, nN, vL x.2.2.2.2.2.2.2.2.1, nN, vI x.2.2.2.2.2.2.2.2.2.1, vI x.2.2.2.2.2.2.2.2.2.2.1, nN, nN, nN, nN], [], (H1 s x.2.2.2.2.2.2.2.2.2.2.2.1 x.2.2.2.2.2.2.2.2.2.2.2.2)) u τ) : QTri l Z n0 ad 0 (337, [vR 0, vR 1, vR 30, vI v.1, vI x4, vI x5, vI x6, vL v.2.1, nN, vL v.2.2.1, nN, vL v.2.2.2.1, nN, vL v.2.2.2.2.1, nN, vL v.2.2.2.2.2.1, nN, vL v.2.2.2.2.2.2.1, nN, vL v.2.2.2.2.2.2.2.1, nN, vL v.2.2.2.2.2.2.2.2.1, nN, vI v.2.2.2.2.2.2.2.2.2.1, vI v.2.2.2.2.2.2.2.2.2.2.1, nN, nN, nN, nN], [], (H1 s v.2.2.2.2.2.2.2.2.2.2.2.1 v.2.2.2.2.2.2.2.2.2.2.2.2)) u τ := by
 unfold B0_337 at h
 refine yS Ad W 4 (343, [vR 0, vR 1, vR 30, vI v.1, vI x4, vI x5, vI x6, vL v.2.1, nN, vL v.2.2.1, nN, vL v.2.2.2.1, nN, vL v.2.2.2.2.1, nN, vL v.2.2.2.2.2.1, nN, vL v.2.2.2.2.2.2.1, nN, vL v.2.2.2.2.2.2.2.1, nN, vL v.2.2.2.2.2.2.2.2.1, nN, vI v.2.2.2.2.2.2.2.2.2.1, vI v.2.2.2.2.2.2.2.2.2.2.1, nN, nN, nN, nN], [.int (x6 + (4:Int32)), .int v.2.2.2.2.2.2.2.2.2.2.1], (H1 s v.2.2.2.2.2.2.2.2.2.2.2.1 v.2.2.2.2.2.2.2.2.2.2.2.2)) rfl ?_
 rcases qite h with ⟨c202, h⟩ | ⟨c202, h⟩
 ·refine yF Ad W 784 346 rfl (XT.ii_ge_f c202) ?_
  refine yS Ad W 2 (350, [vR 0, vR 1, vR 30, vI v.1, vI x4, vI x5, vI x6, vL v.2.1, nN, vL v.2.2.1, nN, vL v.2.2.2.1, nN, vL v.2.2.2.2.1, nN, vL v.2.2.2.2.2.1, nN, vL v.2.2.2.2.2.2.1, nN, vL v.2.2.2.2.2.2.2.1, nN, vL v.2.2.2.2.2.2.2.2.1, nN, vI v.2.2.2.2.2.2.2.2.2.1, vI v.2.2.2.2.2.2.2.2.2.2.1, nN, nN, nN, nN], [.int x6, .int v.2.2.2.2.2.2.2.2.2.2.1], (H1 s v.2.2.2.2.2.2.2.2.2.2.2.1 v.2.2.2.2.2.2.2.2.2.2.2.2)) rfl ?_
  rcases qite h with ⟨c203, h⟩ | ⟨c203, h⟩
  ·refine yF Ad W 496 353 rfl (XT.ii_ne_f c203) ?_
   refine yS Ad W 2 (356, [vR 0, vR 1, vR 30, vI v.1, vI x4, vI x5, vI x6, vL v.2.1, nN, vL v.2.2.1, nN, vL v.2.2.2.1, nN, vL v.2.2.2.2.1, nN, vL v.2.2.2.2.2.1, nN, vL v.2.2.2.2.2.2.1, nN, vL v.2.2.2.2.2.2.2.1, nN, vL v.2.2.2.2.2.2.2.2.1, nN, vI v.2.2.2.2.2.2.2.2.2.1, vI v.2.2.2.2.2.2.2.2.2.2.1, vI 0, nN, nN, nN], [], (H1 s v.2.2.2.2.2.2.2.2.2.2.2.1 v.2.2.2.2.2.2.2.2.2.2.2.2)) rfl ?_
   obtain ⟨e229, he229, h⟩ := be h
   refine zM [tt,tt,tt,tt,tt,tt,tt,tt,ff,tt,ff,tt,ff,tt,ff,tt,ff,tt,ff,tt,ff,tt,ff,ff,tt,tt,ff,ff,ff] (loopN_tri (B := B0_356 s v.2.2.2.2.2.2.2.2.2.2.2.1 v.2.2.2.2.2.2.2.2.2.2.2.2 v.1 x4 x5 x6 v.2.2.2.2.2.2.2.2.2.2.1) (T := fun lv230 => QTri l Z n0 ad 0 (356, [vR 0, vR 1, vR 30, vI v.1, vI x4, vI x5, vI x6, vL lv230.1, nN, vL lv230.2.1, nN, vL lv230.2.2.1, nN, vL lv230.2.2.2.1, nN, vL lv230.2.2.2.2.1, nN, vL lv230.2.2.2.2.2.1, nN, vL lv230.2.2.2.2.2.2.1, nN, vL lv230.2.2.2.2.2.2.2.1, nN, nN, vI v.2.2.2.2.2.2.2.2.2.2.1, vI lv230.2.2.2.2.2.2.2.2, nN, nN, nN], [], (H1 s v.2.2.2.2.2.2.2.2.2.2.2.1 v.2.2.2.2.2.2.2.2.2.2.2.2)) u τ) (KE := fun e229a => QTri l Z n0 ad 0 (490, [vR 0, vR 1, vR 30, vI v.1, vI x4, vI x5, vI x6, vL e229a.1, nN, vL e229a.2.1, nN, vL e229a.2.2.1, nN, vL e229a.2.2.2.1, nN, vL e229a.2.2.2.2.1, nN, vL e229a.2.2.2.2.2.1, nN, vL e229a.2.2.2.2.2.2.1, nN, vL e229a.2.2.2.2.2.2.2, nN, nN, vI v.2.2.2.2.2.2.2.2.2.2.1, nN, nN, nN, nN], [], (H1 s v.2.2.2.2.2.2.2.2.2.2.2.1 v.2.2.2.2.2.2.2.2.2.2.2.2)) u τ) (fun lv230 r hB hE hC => tB0_356 Ad W s v.2.2.2.2.2.2.2.2.2.2.2.1 v.2.2.2.2.2.2.2.2.2.2.2.2 v.1 x4 x5 x6 v.2.2.2.2.2.2.2.2.2.2.1 lv230 hB (fun x q => hE _ q) (fun x q => hC x q)) qN (v.2.1, v.2.2.1, v.2.2.2.1, v.2.2.2.2.1, v.2.2.2.2.2.1, v.2.2.2.2.2.2.1, v.2.2.2.2.2.2.2.1, v.2.2.2.2.2.2.2.2.1, (0:Int32)) e229 he229 ?_)
   refine yS Ad W 1 (491, [vR 0, vR 1, vR 30, vI v.1, vI x4, vI x5, vI x6, vL e229.1, nN, vL e229.2.1, nN, vL e229.2.2.1, nN, vL e229.2.2.2.1, nN, vL e229.2.2.2.2.1, nN, vL e229.2.2.2.2.2.1, nN, vL e229.2.2.2.2.2.2.1, nN, vL e229.2.2.2.2.2.2.2, nN, nN, vI v.2.2.2.2.2.2.2.2.2.2.1, nN, nN, nN, nN], [.ref 1], (H1 s v.2.2.2.2.2.2.2.2.2.2.2.1 v.2.2.2.2.2.2.2.2.2.2.2.2)) rfl ?_
   obtain ⟨r417, hr417, h⟩ := be h
   refine callV W (a := 1) (as := []) (rest := []) (w := (some (.int r417.1))) (σ₁ := (H1 s r417.2 v.2.2.2.2.2.2.2.2.2.2.2.2)) rfl rfl rfl rfl rfl rfl rfl rfl (tF23 Ad W s v.2.2.2.2.2.2.2.2.2.2.2.2 v.2.2.2.2.2.2.2.2.2.2.2.1 hr417) ?_
   refine yS Ad W 1 (496, [vR 0, vR 1, vR 30, vI v.1, vI x4, vI x5, vI x6, vL e229.1, nN, vL e229.2.1, nN, vL e229.2.2.1, nN, vL e229.2.2.2.1, nN, vL e229.2.2.2.2.1, nN, vL e229.2.2.2.2.2.1, nN, vL e229.2.2.2.2.2.2.1, nN, vL e229.2.2.2.2.2.2.2, nN, vI r417.1, vI v.2.2.2.2.2.2.2.2.2.2.1, nN, nN, nN, nN], [], (H1 s r417.2 v.2.2.2.2.2.2.2.2.2.2.2.2)) rfl ?_
   exact zM [tt,tt,tt,tt,tt,tt,tt,tt,ff,tt,ff,tt,ff,tt,ff,tt,ff,tt,ff,tt,ff,tt,ff,tt,tt,ff,ff,ff,ff] (tJ0_496 Ad W s r417.2 v.2.2.2.2.2.2.2.2.2.2.2.2 v.1 x4 x5 x6 e229.1 e229.2.1 e229.2.2.1 e229.2.2.2.1 e229.2.2.2.2.1 e229.2.2.2.2.2.1 e229.2.2.2.2.2.2.1 e229.2.2.2.2.2.2.2 r417.1 v.2.2.2.2.2.2.2.2.2.2.1 h hx0 hx1 hc)
  ·refine yT Ad W 496 353 rfl (XT.ii_ne_t c203) ?_
   exact zM [tt,tt,tt,tt,tt,tt,tt,tt,ff,tt,ff,tt,ff,tt,ff,tt,ff,tt,ff,tt,ff,tt,ff,tt,tt,ff,ff,ff,ff] (tJ0_496 Ad W s v.2.2.2.2.2.2.2.2.2.2.2.1 v.2.2.2.2.2.2.2.2.2.2.2.2 v.1 x4 x5 x6 v.2.1 v.2.2.1 v.2.2.2.1 v.2.2.2.2.1 v.2.2.2.2.2.1 v.2.2.2.2.2.2.1 v.2.2.2.2.2.2.2.1 v.2.2.2.2.2.2.2.2.1 v.2.2.2.2.2.2.2.2.2.1 v.2.2.2.2.2.2.2.2.2.2.1 h hx0 hx1 hc)
 ·refine yT Ad W 784 346 rfl (XT.ii_ge_t c202) ?_
  obtain rfl := sj h
  exact zM [tt,tt,tt,tt,tt,ff,ff,ff,ff,ff,ff,ff,ff,ff,ff,ff,ff,ff,ff,ff,ff,ff,ff,ff,ff,ff,ff,ff,ff] (hx0 (v.1, v.2.2.2.2.2.2.2.2.2.2.2.1, v.2.2.2.2.2.2.2.2.2.2.2.2) rfl)
def B0_29 (s : List Int32) (v : Int32 × Int32 × Ob × Ob) : Option (((Int32 × QHeap)) ⊕ (Int32 × Int32 × Ob × Ob)) :=
  (if v.2.1 < (2 : Int32) then (F2 v.2.2.1).bind fun r49 => (F2 v.2.2.2).bind fun r69 => (F4 s v.1).bind fun r72 => (F5 r72 (8 : Int32)).bind fun r75 => (loopN (B0_63 s v.2.1 ((1 : Int32) + r75)) qN ((v.1 + (1 : Int32)), (0 : Int32), r49, r69)).bind fun e131 => (loopN (B0_163 s v.2.1 ((1 : Int32) + r75)) qN (e131.1, (0 : Int32), e131.2.1, e131.2.2)).bind fun e198 => (F4 s e198.1).bind fun r200 => (F5 r200 (3 : Int32)).bind fun r201 => ((loopN (B0_337 s v.2.1 ((1 : Int32) + r75) ((1 : Int32) + r201)) qN ((e198.1 + (1 : Int32)), (0 : Int64), (0 : Int64), (0 : Int64), (0 : Int64), (0 : Int64), (0 : Int64), (0 : Int64), (0 : Int64), (0 : Int32), (0 : Int32), e198.2.1, e198.2.2)).bind fun e730 => match e730 with | .inl e730a => some (.inr (e730a.1, (v.2.1 + (1 : Int32)), e730a.2.1, e730a.2.2)) | .inr e730a => some (.inl e730a)) else some (.inl ((1 : Int32), (H1 s v.2.2.1 v.2.2.2))))
theorem tB0_29 (Ad : QAd n0 ad) (W : QW Z a0) (s : List Int32) (v : Int32 × Int32 × Ob × Ob) {r : ((Int32 × QHeap)) ⊕ (Int32 × Int32 × Ob × Ob)} {u : Option Value} {τ : QHeap} (h : B0_29 s v = some r) (hx0 : ∀ x : Int32 × QHeap, r = .inl x → u = (some (Value.int x.1)) ∧ τ = x.2) (hc : ∀ x : Int32 × Int32 × Ob × Ob, r = .inr x → QTri l Z n0 ad 0 (29, [vR 0, vR 1, vR 30, vI x.1, vI x.2.1, nN, nN, nN, nN, nN, nN, nN, nN, nN, nN, nN, nN, nN, nN, nN, nN, nN, nN, nN, nN, nN, nN, nN, nN], [], (H1 s x.2.2.1 x.2.2.2)) u τ) : QTri l Z n0 ad 0 (29, [vR 0, vR 1, vR 30, vI v.1, vI v.2.1, nN, nN, nN, nN, nN, nN, nN, nN, nN, nN, nN, nN, nN, nN, nN, nN, nN, nN, nN, nN, nN, nN, nN, nN], [], (H1 s v.2.2.1 v.2.2.2)) u τ := by
 unfold B0_29 at h
 refine yS Ad W 2 (32, [vR 0, vR 1, vR 30, vI v.1, vI v.2.1, nN, nN, nN, nN, nN, nN, nN, nN, nN, nN, nN, nN, nN, nN, nN, nN, nN, nN, nN, nN, nN, nN, nN, nN], [.int 2, .int v.2.1], (H1 s v.2.2.1 v.2.2.2)) rfl ?_
 rcases qite h with ⟨c29, h⟩ | ⟨c29, h⟩
 ·refine yF Ad W 790 35 rfl (XT.ii_ge_f c29) ?_
  refine yS Ad W 1 (36, [vR 0, vR 1, vR 30, vI v.1, vI v.2.1, nN, nN, nN, nN, nN, nN, nN, nN, nN, nN, nN, nN, nN, nN, nN, nN, nN, nN, nN, nN, nN, nN, nN, nN], [.ref 1], (H1 s v.2.2.1 v.2.2.2)) rfl ?_
  obtain ⟨r49, hr49, h⟩ := be h
  refine callV W (a := 1) (as := []) (rest := []) (w := none) (σ₁ := (H1 s r49 v.2.2.2)) rfl rfl rfl rfl rfl rfl rfl rfl (tF2 Ad W s v.2.2.2 v.2.2.1 hr49) ?_
  refine yS Ad W 1 (40, [vR 0, vR 1, vR 30, vI v.1, vI v.2.1, nN, nN, nN, nN, nN, nN, nN, nN, nN, nN, nN, nN, nN, nN, nN, nN, nN, nN, nN, nN, nN, nN, nN, nN], [.ref 30], (H1 s r49 v.2.2.2)) rfl ?_
  obtain ⟨r69, hr69, h⟩ := be h
  refine callV W (a := 30) (as := []) (rest := []) (w := none) (σ₁ := (H1 s r49 r69)) rfl rfl rfl rfl rfl rfl rfl rfl (tF2a1 Ad W s r49 v.2.2.2 hr69) ?_
  refine yS Ad W 4 (49, [vR 0, vR 1, vR 30, vI (v.1 + (1:Int32)), vI v.2.1, nN, nN, nN, nN, nN, nN, nN, nN, nN, nN, nN, nN, nN, nN, nN, nN, nN, nN, nN, nN, nN, nN, nN, nN], [.int v.1, .ref 0, .int 1], (H1 s r49 r69)) rfl ?_
  obtain ⟨r72, hr72, h⟩ := be h
  refine callS W (as := [.ref 0, .int v.1]) (rest := [.int 1]) (w := (some (.int r72))) (σ₁ := (H1 s r49 r69)) rfl rfl rfl rfl rfl rfl rfl (tF4 Ad W r49 r69 s v.1 hr72) ?_
  refine yS Ad W 1 (54, [vR 0, vR 1, vR 30, vI (v.1 + (1:Int32)), vI v.2.1, nN, nN, nN, nN, nN, nN, nN, nN, nN, nN, nN, nN, nN, nN, nN, nN, nN, nN, nN, nN, nN, nN, nN, nN], [.int 8, .int r72, .int 1], (H1 s r49 r69)) rfl ?_
  obtain ⟨r75, hr75, h⟩ := be h
  refine callS W (as := [.int r72, .int 8]) (rest := [.int 1]) (w := (some (.int r75))) (σ₁ := (H1 s r49 r69)) rfl rfl rfl rfl rfl rfl rfl (tF5 Ad W r72 (8:Int32) hr75) ?_
  refine yS Ad W 4 (63, [vR 0, vR 1, vR 30, vI (v.1 + (1:Int32)), vI v.2.1, vI ((1:Int32) + r75), vI 0, nN, nN, nN, nN, nN, nN, nN, nN, nN, nN, nN, nN, nN, nN, nN, nN, nN, nN, nN, nN, nN, nN], [], (H1 s r49 r69)) rfl ?_
  obtain ⟨e131, he131, h⟩ := be h
  refine zM [tt,tt,tt,tt,tt,tt,tt,ff,ff,ff,ff,ff,ff,ff,ff,ff,ff,ff,ff,ff,ff,ff,ff,ff,ff,ff,ff,ff,ff] (loopN_tri (B := B0_63 s v.2.1 ((1:Int32) + r75)) (T := fun lv132 => QTri l Z n0 ad 0 (63, [vR 0, vR 1, vR 30, vI lv132.1, vI v.2.1, vI ((1:Int32) + r75), vI lv132.2.1, nN, nN, nN, nN, nN, nN, nN, nN, nN, nN, nN, nN, nN, nN, nN, nN, nN, nN, nN, nN, nN, nN], [], (H1 s lv132.2.2.1 lv132.2.2.2)) u τ) (KE := fun e131a => QTri l Z n0 ad 0 (160, [vR 0, vR 1, vR 30, vI e131a.1, vI v.2.1, vI ((1:Int32) + r75), nN, nN, nN, nN, nN, nN, nN, nN, nN, nN, nN, nN, nN, nN, nN, nN, nN, nN, nN, nN, nN, nN, nN], [], (H1 s e131a.2.1 e131a.2.2)) u τ) (fun lv132 r hB hE hC => tB0_63 Ad W s v.2.1 ((1:Int32) + r75) lv132 hB (fun x q => hE _ q) (fun x q => hC x q)) qN ((v.1 + (1:Int32)), (0:Int32), r49, r69) e131 he131 ?_)
  refine yS Ad W 2 (163, [vR 0, vR 1, vR 30, vI e131.1, vI v.2.1, vI ((1:Int32) + r75), vI 0, nN, nN, nN, nN, nN, nN, nN, nN, nN, nN, nN, nN, nN, nN, nN, nN, nN, nN, nN, nN, nN, nN], [], (H1 s e131.2.1 e131.2.2)) rfl ?_
  obtain ⟨e198, he198, h⟩ := be h
  refine zM [tt,tt,tt,tt,tt,tt,tt,ff,ff,ff,ff,ff,ff,ff,ff,ff,ff,ff,ff,ff,ff,ff,ff,ff,ff,ff,ff,ff,ff] (loopN_tri (B := B0_163 s v.2.1 ((1:Int32) + r75)) (T := fun lv199 => QTri l Z n0 ad 0 (163, [vR 0, vR 1, vR 30, vI lv199.1, vI v.2.1, vI ((1:Int32) + r75), vI lv199.2.1, nN, nN, nN, nN, nN, nN, nN, nN, nN, nN, nN, nN, nN, nN, nN, nN, nN, nN, nN, nN, nN, nN], [], (H1 s lv199.2.2.1 lv199.2.2.2)) u τ) (KE := fun e198a => QTri l Z n0 ad 0 (291, [vR 0, vR 1, vR 30, vI e198a.1, vI v.2.1, vI ((1:Int32) + r75), nN, nN, nN, nN, nN, nN, nN, nN, nN, nN, nN, nN, nN, nN, nN, nN, nN, nN, nN, nN, nN, nN, nN], [], (H1 s e198a.2.1 e198a.2.2)) u τ) (fun lv199 r hB hE hC => tB0_163 Ad W s v.2.1 ((1:Int32) + r75) lv199 hB (fun x q => hE _ q) (fun x q => hC x q)) qN (e131.1, (0:Int32), e131.2.1, e131.2.2) e198 he198 ?_)
  refine yS Ad W 4 (297, [vR 0, vR 1, vR 30, vI (e198.1 + (1:Int32)), vI v.2.1, vI ((1:Int32) + r75), nN, nN, nN, nN, nN, nN, nN, nN, nN, nN, nN, nN, nN, nN, nN, nN, nN, nN, nN, nN, nN, nN, nN], [.int e198.1, .ref 0, .int 1], (H1 s e198.2.1 e198.2.2)) rfl ?_
  obtain ⟨r200, hr200, h⟩ := be h
  refine callS W (as := [.ref 0, .int e198.1]) (rest := [.int 1]) (w := (some (.int r200))) (σ₁ := (H1 s e198.2.1 e198.2.2)) rfl rfl rfl rfl rfl rfl rfl (tF4 Ad W e198.2.1 e198.2.2 s e198.1 hr200) ?_
  refine yS Ad W 1 (301, [vR 0, vR 1, vR 30, vI (e198.1 + (1:Int32)), vI v.2.1, vI ((1:Int32) + r75), nN, nN, nN, nN, nN, nN, nN, nN, nN, nN, nN, nN, nN, nN, nN, nN, nN, nN, nN, nN, nN, nN, nN], [.int 3, .int r200, .int 1], (H1 s e198.2.1 e198.2.2)) rfl ?_
  obtain ⟨r201, hr201, h⟩ := be h
  refine callS W (as := [.int r200, .int 3]) (rest := [.int 1]) (w := (some (.int r201))) (σ₁ := (H1 s e198.2.1 e198.2.2)) rfl rfl rfl rfl rfl rfl rfl (tF5 Ad W r200 (3:Int32) hr201) ?_
  refine yS Ad W 4 (310, [vR 0, vR 1, vR 30, vI (e198.1 + (1:Int32)), vI v.2.1, vI ((1:Int32) + r75), vI ((1:Int32) + r201), vL (0 : Int64), nN, nN, nN, nN, nN, nN, nN, nN, nN, nN, nN, nN, nN, nN, nN, nN, nN, nN, nN, nN, nN], [], (H1 s e198.2.1 e198.2.2)) rfl ?_
  refine yS Ad W 4 (316, [vR 0, vR 1, vR 30, vI (e198.1 + (1:Int32)), vI v.2.1, vI ((1:Int32) + r75), vI ((1:Int32) + r201), vL (0 : Int64), nN, vL (0 : Int64), nN, vL (0 : Int64), nN, nN, nN, nN, nN, nN, nN, nN, nN, nN, nN, nN, nN, nN, nN, nN, nN], [], (H1 s e198.2.1 e198.2.2)) rfl ?_
  refine yS Ad W 4 (322, [vR 0, vR 1, vR 30, vI (e198.1 + (1:Int32)), vI v.2.1, vI ((1:Int32) + r75), vI ((1:Int32) + r201), vL (0 : Int64), nN, vL (0 : Int64), nN, vL (0 : Int64), nN, vL (0 : Int64), nN, vL (0 : Int64), nN, nN, nN, nN, nN, nN, nN, nN, nN, nN, nN, nN, nN], [], (H1 s e198.2.1 e198.2.2)) rfl ?_
  refine yS Ad W 4 (328, [vR 0, vR 1, vR 30, vI (e198.1 + (1:Int32)), vI v.2.1, vI ((1:Int32) + r75), vI ((1:Int32) + r201), vL (0 : Int64), nN, vL (0 : Int64), nN, vL (0 : Int64), nN, vL (0 : Int64), nN, vL (0 : Int64), nN, vL (0 : Int64), nN, vL (0 : Int64), nN, nN, nN, nN, nN, nN, nN, nN, nN], [], (H1 s e198.2.1 e198.2.2)) rfl ?_
  refine yS Ad W 4 (334, [vR 0, vR 1, vR 30, vI (e198.1 + (1:Int32)), vI v.2.1, vI ((1:Int32) + r75), vI ((1:Int32) + r201), vL (0 : Int64), nN, vL (0 : Int64), nN, vL (0 : Int64), nN, vL (0 : Int64), nN, vL (0 : Int64), nN, vL (0 : Int64), nN, vL (0 : Int64), nN, vL (0 : Int64), nN, vI 0, nN, nN, nN, nN, nN], [], (H1 s e198.2.1 e198.2.2)) rfl ?_
  refine yS Ad W 2 (337, [vR 0, vR 1, vR 30, vI (e198.1 + (1:Int32)), vI v.2.1, vI ((1:Int32) + r75), vI ((1:Int32) + r201), vL (0 : Int64), nN, vL (0 : Int64), nN, vL (0 : Int64), nN, vL (0 : Int64), nN, vL (0 : Int64), nN, vL (0 : Int64), nN, vL (0 : Int64), nN, vL (0 : Int64), nN, vI 0, vI 0, nN, nN, nN, nN], [], (H1 s e198.2.1 e198.2.2)) rfl ?_
  obtain ⟨e730, he730, h⟩ := be h
  refine zM [tt,tt,tt,tt,tt,tt,tt,tt,ff,tt,ff,tt,ff,tt,ff,tt,ff,tt,ff,tt,ff,tt,ff,tt,tt,ff,ff,ff,ff] (loopN_tri (B := B0_337 s v.2.1 ((1:Int32) + r75) ((1:Int32) + r201)) (T := fun lv731 => QTri l Z n0 ad 0 (337, [vR 0, vR 1, vR 30, vI lv731.1, vI v.2.1, vI ((1:Int32) + r75), vI ((1:Int32) + r201), vL lv731.2.1, nN, vL lv731.2.2.1, nN, vL lv731.2.2.2.1, nN, vL lv731.2.2.2.2.1, nN, vL lv731.2.2.2.2.2.1, nN, vL lv731.2.2.2.2.2.2.1, nN, vL lv731.2.2.2.2.2.2.2.1, nN, vL lv731.2.2.2.2.2.2.2.2.1, nN, vI lv731.2.2.2.2.2.2.2.2.2.1, vI lv731.2.2.2.2.2.2.2.2.2.2.1, nN, nN, nN, nN], [], (H1 s lv731.2.2.2.2.2.2.2.2.2.2.2.1 lv731.2.2.2.2.2.2.2.2.2.2.2.2)) u τ) (KE := fun e => match e with | .inl e730a => QTri l Z n0 ad 0 (784, [vR 0, vR 1, vR 30, vI e730a.1, vI v.2.1, nN, nN, nN, nN, nN, nN, nN, nN, nN, nN, nN, nN, nN, nN, nN, nN, nN, nN, nN, nN, nN, nN, nN, nN], [], (H1 s e730a.2.1 e730a.2.2)) u τ | .inr e730a => u = (some (Value.int e730a.1)) ∧ τ = e730a.2) (fun lv731 r hB hE hC => tB0_337 Ad W s v.2.1 ((1:Int32) + r75) ((1:Int32) + r201) lv731 hB (fun x q => hE _ q) (fun x q => hE _ q) (fun x q => hC x q)) qN ((e198.1 + (1:Int32)), (0 : Int64), (0 : Int64), (0 : Int64), (0 : Int64), (0 : Int64), (0 : Int64), (0 : Int64), (0 : Int64), (0:Int32), (0:Int32), e198.2.1, e198.2.2) e730 he730 ?_)
  rcases e730 with e730a | e730a
  ·refine yS Ad W 2 (29, [vR 0, vR 1, vR 30, vI e730a.1, vI (v.2.1 + (1:Int32)), nN, nN, nN, nN, nN, nN, nN, nN, nN, nN, nN, nN, nN, nN, nN, nN, nN, nN, nN, nN, nN, nN, nN, nN], [], (H1 s e730a.2.1 e730a.2.2)) rfl ?_
   obtain rfl := sj h
   exact zM [tt,tt,tt,tt,tt,ff,ff,ff,ff,ff,ff,ff,ff,ff,ff,ff,ff,ff,ff,ff,ff,ff,ff,ff,ff,ff,ff,ff,ff] (hc (e730a.1, (v.2.1 + (1:Int32)), e730a.2.1, e730a.2.2) rfl)
  ·obtain rfl := sj h
   exact hx0 e730a rfl
 ·refine yT Ad W 790 35 rfl (XT.ii_ge_t c29) ?_
  refine yS Ad W 1 (791, [vR 0, vR 1, vR 30, vI v.1, vI v.2.1, nN, nN, nN, nN, nN, nN, nN, nN, nN, nN, nN, nN, nN, nN, nN, nN, nN, nN, nN, nN, nN, nN, nN, nN], [.int 1], (H1 s v.2.2.1 v.2.2.2)) rfl ?_
  obtain rfl := sj h
  obtain ⟨rfl, rfl⟩ := hx0 ((1:Int32), (H1 s v.2.2.1 v.2.2.2)) rfl
  exact retZ rfl rfl
/-- the law -/
def F0 (s : List Int32) : Option (Int32 × QHeap) :=
 (F1 (8:Int32) (32:Int32)).bind fun r14 => (F1 (8:Int32) (32:Int32)).bind fun r28 => (loopN (B0_29 s) qN ((0:Int32), (0:Int32), r14, r28)).bind fun e732 => some e732
theorem tF0 (Ad : QAd n0 ad) (W : QW Z a0) (s : List Int32) {r : Int32 × QHeap} (h : F0 s = some r) : QTri l Z n0 ad 0 (0, qentry [.ref 0] (pMaxL 0), [], [iC s]) (some (Value.int r.1)) r.2 := by
 unfold F0 at h
 refine yS Ad W 4 (8, [vR 0, nN, nN, nN, nN, nN, nN, nN, nN, nN, nN, nN, nN, nN, nN, nN, nN, nN, nN, nN, nN, nN, nN, nN, nN, nN, nN, nN, nN], [.int 32, .int 8, .ref 1, .ref 1], [iC s, .inl [nU, nU, nU, nU, nU, nU, nU, nU, nU, nU, nU, nU, nU, nU, nU, nU, nU, nU, nU, nU, nU, nU, nU, nU, nU, nU, nU, nU, .int (fe ob0), .int (fh ob0), .int (fi ob0), .int (fm ob0), .int (fo ob0), .int (fp ob0), .int (fq ob0), .int (fr ob0)]]) rfl ?_
 obtain ⟨r14, hr14, h⟩ := be h
 refine callI W (a := 1) (as := [.int 8, .int 32]) (rest := [.ref 1]) (σ₁ := (H0 s r14)) rfl rfl rfl rfl rfl rfl (tF1 Ad W s (8:Int32) (32:Int32) hr14) ?_
 refine yS Ad W 2 (15, [vR 0, vR 1, nN, nN, nN, nN, nN, nN, nN, nN, nN, nN, nN, nN, nN, nN, nN, nN, nN, nN, nN, nN, nN, nN, nN, nN, nN, nN, nN], [.ref 30], [iC s, .inl [.ref 2, .ref 3, .ref 4, .ref 5, .ref 6, .ref 7, .ref 8, .ref 9, .ref 10, .ref 11, .ref 12, .ref 13, .ref 14, .ref 15, .ref 16, .ref 17, .ref 18, .ref 19, .ref 20, .ref 21, .ref 22, .ref 23, .ref 24, .ref 25, .ref 26, .ref 27, .ref 28, .ref 29, .int (fe r14), .int (fh r14), .int (fi r14), .int (fm r14), .int (fo r14), .int (fp r14), .int (fq r14), .int (fr r14)], iC (fA r14), iC (fB r14), iC (fC r14), iC (fD r14), iC (fE r14), iC (fF r14), iC (fG r14), iC (fH r14), iC (fI r14), iC (fJ r14), iC (fK r14), iC (fL r14), iC (fM r14), iC (fO r14), iC (fP r14), iC (fQ r14), iC (fR r14), iC (fT r14), iC (fU r14), iC (fV r14), iC (fW r14), iC (fX r14), iC (fY r14), iC (fZ r14), iC (fa r14), iC (fb r14), iC (fc r14), iC (fd r14), .inl [nU, nU, nU, nU, nU, nU, nU, nU, nU, nU, nU, nU, nU, nU, nU, nU, nU, nU, nU, nU, nU, nU, nU, nU, nU, nU, nU, nU, .int (fe ob0), .int (fh ob0), .int (fi ob0), .int (fm ob0), .int (fo ob0), .int (fp ob0), .int (fq ob0), .int (fr ob0)]]) rfl ?_
 refine yS Ad W 3 (20, [vR 0, vR 1, nN, nN, nN, nN, nN, nN, nN, nN, nN, nN, nN, nN, nN, nN, nN, nN, nN, nN, nN, nN, nN, nN, nN, nN, nN, nN, nN], [.int 32, .int 8, .ref 30, .ref 30], [iC s, .inl [.ref 2, .ref 3, .ref 4, .ref 5, .ref 6, .ref 7, .ref 8, .ref 9, .ref 10, .ref 11, .ref 12, .ref 13, .ref 14, .ref 15, .ref 16, .ref 17, .ref 18, .ref 19, .ref 20, .ref 21, .ref 22, .ref 23, .ref 24, .ref 25, .ref 26, .ref 27, .ref 28, .ref 29, .int (fe r14), .int (fh r14), .int (fi r14), .int (fm r14), .int (fo r14), .int (fp r14), .int (fq r14), .int (fr r14)], iC (fA r14), iC (fB r14), iC (fC r14), iC (fD r14), iC (fE r14), iC (fF r14), iC (fG r14), iC (fH r14), iC (fI r14), iC (fJ r14), iC (fK r14), iC (fL r14), iC (fM r14), iC (fO r14), iC (fP r14), iC (fQ r14), iC (fR r14), iC (fT r14), iC (fU r14), iC (fV r14), iC (fW r14), iC (fX r14), iC (fY r14), iC (fZ r14), iC (fa r14), iC (fb r14), iC (fc r14), iC (fd r14), .inl [nU, nU, nU, nU, nU, nU, nU, nU, nU, nU, nU, nU, nU, nU, nU, nU, nU, nU, nU, nU, nU, nU, nU, nU, nU, nU, nU, nU, .int (fe ob0), .int (fh ob0), .int (fi ob0), .int (fm ob0), .int (fo ob0), .int (fp ob0), .int (fq ob0), .int (fr ob0)]]) rfl ?_
 obtain ⟨r28, hr28, h⟩ := be h
 refine callI W (a := 30) (as := [.int 8, .int 32]) (rest := [.ref 30]) (σ₁ := (H1 s r14 r28)) rfl rfl rfl rfl rfl rfl (tF1a1 Ad W s r14 (8:Int32) (32:Int32) hr28) ?_
 refine yS Ad W 3 (26, [vR 0, vR 1, vR 30, vI 0, nN, nN, nN, nN, nN, nN, nN, nN, nN, nN, nN, nN, nN, nN, nN, nN, nN, nN, nN, nN, nN, nN, nN, nN, nN], [], (H1 s r14 r28)) rfl ?_
 refine yS Ad W 2 (29, [vR 0, vR 1, vR 30, vI 0, vI 0, nN, nN, nN, nN, nN, nN, nN, nN, nN, nN, nN, nN, nN, nN, nN, nN, nN, nN, nN, nN, nN, nN, nN, nN], [], (H1 s r14 r28)) rfl ?_
 obtain ⟨e732, he732, h⟩ := be h
 refine zM [tt,tt,tt,tt,tt,ff,ff,ff,ff,ff,ff,ff,ff,ff,ff,ff,ff,ff,ff,ff,ff,ff,ff,ff,ff,ff,ff,ff,ff] (loopN_tri (B := B0_29 s) (T := fun lv733 => QTri l Z n0 ad 0 (29, [vR 0, vR 1, vR 30, vI lv733.1, vI lv733.2.1, nN, nN, nN, nN, nN, nN, nN, nN, nN, nN, nN, nN, nN, nN, nN, nN, nN, nN, nN, nN, nN, nN, nN, nN], [], (H1 s lv733.2.2.1 lv733.2.2.2)) (some (Value.int r.1)) r.2) (KE := fun e732a => (some (Value.int r.1)) = (some (Value.int e732a.1)) ∧ r.2 = e732a.2) (fun lv733 r hB hE hC => tB0_29 Ad W s lv733 hB (fun x q => hE _ q) (fun x q => hC x q)) qN ((0:Int32), (0:Int32), r14, r28) e732 he732 ?_)
 obtain rfl := sj h
 exact ⟨rfl, rfl⟩
end Walks
theorem ls {α : Type} {l : List α} {m n : Nat} {v : α} (h : l.length = n) : (l.set m v).length = n := by rw [List.length_set]; exact h
theorem script_ok {s : State} {w : Value} (hfit : Fit s) (h1 : (Jvm.Cond.arrayOf (Jvm.Term.arg 0) Jvm.ClassFile.FieldType.int).value #[w] s none s [] = some true) (h2 : (Jvm.Cond.le (Jvm.Term.length (Jvm.Term.arg 0)) (Jvm.Term.int 260)).value #[w] s none s [] = some true) :
    ∃ (a : Addr) (c : Cell) (xs : List Int32), w = .ref a ∧ Arr s s.heap a c .int ∧ c.slots = (xs.map Value.int).toArray ∧ xs.length ≤ 260 := by
  obtain ⟨a, ha⟩ := arr_v h1
  obtain ⟨c, A⟩ := Arr.start ha h1
  have hw : w = .ref a := by simpa [Term.eval] using ha
  subst hw
  have hel : ∀ i, i < c.slots.size → ∃ x, c.slots[i]? = some (.int x) := fun i hi => by
    have q := hfit A.1 hi
    obtain ⟨hs, k, hk, comp, hkind⟩ := A.2.1
    have e : s.slotType? c.cls c.vm i = some .int := by
      cases hq : c.vm <;> first | exact absurd hq (hs _) | simp [State.slotType?, hk, hkind]
    have q2 : fits .int c.slots[i] = true := by simpa [State.fitsSlot, e] using q
    obtain ⟨x, hx⟩ := fit_I q2 (Or.inl rfl)
    exact ⟨x, by rw [Array.getElem?_eq_getElem hi, hx]⟩
  refine ⟨a, c, c.slots.toList.map (fun v => match v with | .int x => x | _ => 0), rfl, A, ?_, ?_⟩
  · apply Array.ext'
    rw [List.map_map]
    have : c.slots.toList.map (Value.int ∘ fun v => match v with | .int x => x | _ => 0) = c.slots.toList := by
      conv => rhs; rw [← List.map_id c.slots.toList]
      refine List.map_congr_left fun v hv => ?_
      obtain ⟨i, hi⟩ := List.mem_iff_getElem?.mp hv
      rw [Array.getElem?_toList] at hi
      obtain ⟨x, hx⟩ := hel i (Array.getElem?_eq_some_iff.mp hi).1
      rw [hi] at hx
      cases hx
      rfl
    exact this.symm
  · have hl := A.fin (Vm.Alike.refl _)
    simp only [List.length_map, Array.length_toList]
    simp only [Cond.value, Term.eval] at h2
    simp [hl] at h2
    by_cases hs : c.slots.size < 2147483648
    · rw [if_pos hs] at h2
      have h3 : c.slots.size.toInt32 ≤ 260 := by simpa using h2
      rw [Int32.le_iff_toInt_le] at h3
      have h4 : (c.slots.size.toInt32).toInt = c.slots.size := Int32.toInt_ofNat_of_lt (by omega)
      rw [h4] at h3
      have h5 : (260 : Int32).toInt = 260 := rfl
      rw [h5] at h3
      omega
    · rw [if_neg hs] at h2
      simp at h2
set_option maxHeartbeats 4000000
theorem i_lt {x y : Int32} : x < y ↔ x.toInt < y.toInt := Int32.lt_iff_toInt_lt
theorem i_eq {x y : Int32} : x = y ↔ x.toInt = y.toInt := Int32.toInt_inj.symm
theorem i_lo (x : Int32) : -2147483648 ≤ x.toInt := Int32.le_toInt x
theorem i_add {x y : Int32} (h1 : -2147483648 ≤ x.toInt + y.toInt) (h2 : x.toInt + y.toInt < 2147483648) : (x + y).toInt = x.toInt + y.toInt := XT.add32 ⟨h1, by omega⟩
theorem i_sub {x y : Int32} (h1 : -2147483648 ≤ x.toInt - y.toInt) (h2 : x.toInt - y.toInt < 2147483648) : (x - y).toInt = x.toInt - y.toInt := XT.sub32 ⟨h1, by omega⟩
theorem i_mul {x y : Int32} (h1 : -2147483648 ≤ x.toInt * y.toInt) (h2 : x.toInt * y.toInt < 2147483648) : (x * y).toInt = x.toInt * y.toInt := XT.mul32 ⟨h1, by omega⟩
theorem i_nat (x : Int32) : x.toNatClampNeg = x.toInt.toNat := rfl
theorem aget_at {α : Type} {xs : List α} {j : Int32} {n : Nat} (hj : j.toInt = n) (hn : n < xs.length) : aget xs j = some xs[n] := by
 have h0 : ¬ j < 0 := by rw [i_lt]; show ¬ j.toInt < 0; omega
 unfold aget
 rw [if_neg h0, i_nat, hj]
 simp [hn]
theorem aset_at {α : Type} {xs : List α} {j : Int32} {n : Nat} {v : α} (hj : j.toInt = n) (hn : n < xs.length) : aset xs j v = some (xs.set n v) := by
 have h0 : ¬ j < 0 := by rw [i_lt]; show ¬ j.toInt < 0; omega
 unfold aset
 have e : j.toNatClampNeg = n := by rw [i_nat, hj]; simp
 rw [if_neg h0, e, if_pos hn]
theorem small_cases {x : Int32} (h0 : 0 ≤ x.toInt) {n : Nat} (h1 : x.toInt < n) {P : Int32 → Prop} (h : ∀ m : Nat, m < n → P (Int32.ofInt m)) : P x := by
 have e : Int32.ofInt (x.toInt.toNat : Nat) = x := by
  rw [Int.toNat_of_nonneg h0, Int32.ofInt_toInt]
 rw [← e]
 exact h _ (by omega)
def okP {α : Type} (m : Option α) (P : α → Prop) : Prop := ∃ a, m = some a ∧ P a
theorem okP.some {α : Type} {a : α} {P : α → Prop} (h : P a) : okP (some a) P := ⟨a, rfl, h⟩
theorem okP.bind {α β : Type} {m : Option α} {f : α → Option β} {P : β → Prop} (h : okP m fun a => okP (f a) P) : okP (m.bind f) P := by
 obtain ⟨a, e, b, e2, h2⟩ := h
 exact ⟨b, by rw [e]; exact e2, h2⟩
theorem okP.ite {α : Type} {c : Prop} [Decidable c] {a b : Option α} {P : α → Prop} (h1 : c → okP a P) (h2 : ¬ c → okP b P) : okP (if c then a else b) P := by
 by_cases h : c
 ·rw [if_pos h]; exact h1 h
 ·rw [if_neg h]; exact h2 h
theorem okP.mono {α : Type} {m : Option α} {P Q : α → Prop} (h : okP m P) (k : ∀ a, P a → Q a) : okP m Q := by
 obtain ⟨a, e, h⟩ := h
 exact ⟨a, e, k a h⟩
theorem okP.of {α : Type} {m : Option α} {a : α} {P : α → Prop} (e : m = Option.some a) (h : P a) : okP m P := ⟨a, e, h⟩
theorem okP.aget {α : Type} {xs : List α} {j : Int32} {P : α → Prop} (h0 : 0 ≤ j.toInt) (h1 : j.toInt < xs.length) (k : ∀ v, xs[j.toInt.toNat]? = Option.some v → P v) : okP (aget xs j) P :=
 ⟨_, aget_at (n := j.toInt.toNat) (by omega) (by omega), k _ (List.getElem?_eq_getElem _)⟩
theorem okP.aset {α : Type} {xs : List α} {j : Int32} {v : α} {P : List α → Prop} (h0 : 0 ≤ j.toInt) (h1 : j.toInt < xs.length) (k : P (xs.set j.toInt.toNat v)) : okP (aset xs j v) P :=
 ⟨_, aset_at (n := j.toInt.toNat) (by omega) (by omega), k⟩
theorem okP.loop {V E : Type} {B : V → Option (E ⊕ V)} {P : E → Prop} {n : Nat} {v : V} (I : V → Prop) (μ : V → Nat) (hv : I v) (hm : μ v < n) (hB : ∀ v, I v → okP (B v) (fun r => Sum.elim P (fun v' => I v' ∧ μ v' < μ v) r)) : okP (loopN B n v) P := by
 refine loopN_inv I P μ ?_ n v hv hm
 intro v hv
 obtain ⟨r, e, h⟩ := hB v hv
 cases r with
 | inl x => exact Or.inl ⟨x, e, h⟩
 | inr x => exact Or.inr ⟨x, e, h⟩
theorem len_i {n : Nat} (h : n ≤ 1000) : (n.toInt32).toInt = n := by
 have e : n.toInt32 = Int32.ofInt n := rfl
 rw [e, Int32.toInt_ofInt_of_le (by show _ ≤ (n : Int); omega) (by show (n : Int) < _; omega)]
theorem and_rng {x m : Int32} (hm : 0 ≤ m.toInt) : 0 ≤ (x &&& m).toInt ∧ (x &&& m).toInt ≤ m.toInt := by
 have e : (x &&& m).toBitVec.toNat = x.toBitVec.toNat &&& m.toBitVec.toNat := BitVec.toNat_and ..
 have l : (x &&& m).toBitVec.toNat ≤ m.toBitVec.toNat := by rw [e]; exact Nat.and_le_right
 have c1 : m.toInt = if 2 * m.toBitVec.toNat < 2 ^ 32 then (m.toBitVec.toNat : Int) else m.toBitVec.toNat - (2 ^ 32 : Nat) := BitVec.toInt_eq_toNat_cond m.toBitVec
 have c2 : (x &&& m).toInt = if 2 * (x &&& m).toBitVec.toNat < 2 ^ 32 then ((x &&& m).toBitVec.toNat : Int) else (x &&& m).toBitVec.toNat - (2 ^ 32 : Nat) := BitVec.toInt_eq_toNat_cond (x &&& m).toBitVec
 have b : m.toBitVec.toNat < 2 ^ 32 := m.toBitVec.isLt
 by_cases h : 2 * m.toBitVec.toNat < 2 ^ 32
 ·rw [if_pos h] at c1
  rw [if_pos (by omega)] at c2
  omega
 ·rw [if_neg h] at c1
  omega
def sFit (s : List Int32) (τ : QHeap) : Prop := τ.length - List.length ([Sum.inr (Sum.inl (FieldType.int, s))] : QHeap) ≤ room_1.cells ∧ qhs τ - qhs [Sum.inr (Sum.inl (FieldType.int, s))] ≤ room_1.slots
theorem inc1 {x : Int32} (h : x.toInt < 2147483647) : (x + 1).toInt = x.toInt + 1 := by
 have := i_lo x
 have e1 : (1 : Int32).toInt = 1 := rfl
 rw [i_add (by omega) (by omega), e1]
theorem pig : ∀ (n p : Nat) (f : Nat → Nat), (∀ q, q < p → f q < n) → (∀ q r, q < p → r < p → f q = f r → q = r) → p ≤ n
 | 0, p, f, h, _ => by
  rcases Nat.eq_zero_or_pos p with w | w
  ·omega
  ·exact absurd (h 0 w) (by omega)
 | n + 1, 0, f, _, _ => by omega
 | n + 1, p + 1, f, h, inj => by
  have := pig n p (fun q => if f q = n then f p else f q) (by
   intro q hq
   have a1 := h q (by omega)
   have a2 := h p (by omega)
   have a3 := inj q p (by omega) (by omega)
   show (if f q = n then f p else f q) < n
   split
   ·rename_i w
    have : f p ≠ n := fun z => absurd (a3 (by omega)) (by omega)
    omega
   ·omega) (by
   intro q r hq hr
   have a3 := inj q p (by omega) (by omega)
   have a4 := inj r p (by omega) (by omega)
   have a5 := inj q r (by omega) (by omega)
   show (if f q = n then f p else f q) = (if f r = n then f p else f r) → q = r
   intro e
   split at e <;> split at e
   ·exact a5 (by omega)
   ·have := a4 e.symm; omega
   ·have := a3 e; omega
   ·exact a5 e)
  omega
def CK (n : Nat) (x y z : Nat → Int) (κ : Nat → Nat) : Prop :=
 (∀ b, b < n → x b = -1 ∨ ∃ c, 0 < c ∧ c < n ∧ x b = (c : Nat) ∧ y c = (b : Nat) ∧ κ c = κ b + 1 ∧ z c = z b) ∧
 (∀ b, b < n → (y b = -1 ∧ κ b = 0 ∧ z b = (b : Nat)) ∨ ∃ c, c < n ∧ y b = (c : Nat) ∧ x c = (b : Nat) ∧ b ≠ 0) ∧
 ∀ b, b < n → ∃ h, h < n ∧ z b = (h : Nat) ∧ y h = -1
theorem CK.up {n : Nat} {x y z : Nat → Int} {κ : Nat → Nat} (C : CK n x y z κ) {b : Nat} (hb : b < n) (h : y b ≠ -1) : ∃ c, c < n ∧ y b = (c : Nat) ∧ x c = (b : Nat) ∧ κ b = κ c + 1 ∧ z b = z c := by
 rcases C.2.1 b hb with w | ⟨c, c1, c2, c3, c4⟩
 ·exact absurd w.1 h
 ·refine ⟨c, c1, c2, c3, ?_⟩
  rcases C.1 c c1 with w | ⟨e, _, e1, e2, e3, e4, e5⟩
  ·rw [c3] at w; omega
  ·have : e = b := by rw [c3] at e2; omega
   subst this
   exact ⟨e4, e5⟩
theorem CK.down {n : Nat} {x y z : Nat → Int} {κ : Nat → Nat} (C : CK n x y z κ) : ∀ (j : Nat) {b : Nat}, b < n → ∀ m, m + j = κ b → ∃ a, a < n ∧ z a = z b ∧ κ a = m
 | 0, b, hb, m, hm => ⟨b, hb, rfl, by omega⟩
 | j + 1, b, hb, m, hm => by
  have : y b ≠ -1 := by
   intro w
   rcases C.2.1 b hb with q | ⟨c, c1, c2, _⟩
   ·omega
   ·omega
  obtain ⟨c, c1, c2, c3, c4, c5⟩ := C.up hb this
  obtain ⟨a, a1, a2, a3⟩ := C.down j c1 m (by omega)
  exact ⟨a, a1, by rw [a2, c5], a3⟩
theorem CK.uniq {n : Nat} {x y z : Nat → Int} {κ : Nat → Nat} (C : CK n x y z κ) : ∀ (j : Nat) {a b : Nat}, a < n → b < n → κ a = j → κ b = j → z a = z b → a = b
 | 0, a, b, ha, hb, ka, kb, h => by
  have key : ∀ c, c < n → κ c = 0 → z c = (c : Nat) := by
   intro c hc kc
   by_cases w : y c = -1
   ·rcases C.2.1 c hc with q | ⟨d, d1, d2, _⟩
    ·exact q.2.2
    ·omega
   ·obtain ⟨d, d1, d2, d3, d4, _⟩ := C.up hc w
    omega
  have h1 := key a ha ka
  have h2 := key b hb kb
  omega
 | j + 1, a, b, ha, hb, ka, kb, h => by
  have key : ∀ c, c < n → κ c = j + 1 → y c ≠ -1 := by
   intro c hc kc w
   rcases C.2.1 c hc with q | ⟨d, d1, d2, _⟩
   ·omega
   ·omega
  obtain ⟨c, c1, c2, c3, c4, c5⟩ := C.up ha (key a ha ka)
  obtain ⟨d, d1, d2, d3, d4, d5⟩ := C.up hb (key b hb kb)
  have := C.uniq j c1 d1 (by omega) (by omega) (by rw [← c5, ← d5, h])
  subst this
  omega
theorem CK.lt {n : Nat} {x y z : Nat → Int} {κ : Nat → Nat} (C : CK n x y z κ) {b : Nat} (hb : b < n) : κ b < n := by
 have key : ∀ m, m < κ b + 1 → ∃ a, a < n ∧ κ a = m := by
  intro m hm
  obtain ⟨a, a1, _, a3⟩ := C.down (κ b - m) hb m (by omega)
  exact ⟨a, a1, a3⟩
 have sk : ∃ f : Nat → Nat, ∀ m, m < κ b + 1 → f m < n ∧ κ (f m) = m := by
  refine ⟨fun m => if h : m < κ b + 1 then Classical.choose (key m h) else 0, fun m hm => ?_⟩
  show (if h : m < κ b + 1 then Classical.choose (key m h) else 0) < n ∧ κ (if h : m < κ b + 1 then Classical.choose (key m h) else 0) = m
  rw [dif_pos hm]
  exact Classical.choose_spec (key m hm)
 obtain ⟨f, hf⟩ := sk
 have := pig n (κ b + 1) f (fun q hq => (hf q hq).1) (fun q r hq hr e => by
  rw [← (hf q hq).2, ← (hf r hr).2, e])
 omega
theorem CK.last {n : Nat} {x y z : Nat → Int} {κ : Nat → Nat} (C : CK n x y z κ) {w b : Nat} (hw : w < n) (hx : x w = -1) (hb : b < n) (hz : z b = z w) : κ b ≤ κ w := by
 rcases Nat.lt_or_ge (κ w) (κ b) with q | q
 ·obtain ⟨a, a1, a2, a3⟩ := C.down (κ b - (κ w + 1)) hb (κ w + 1) (by omega)
  have : y a ≠ -1 := by
   intro t
   rcases C.2.1 a a1 with q | ⟨d, d1, d2, _⟩
   ·omega
   ·omega
  obtain ⟨c, c1, c2, c3, c4, c5⟩ := C.up a1 this
  have := C.uniq (κ w) c1 hw (by omega) rfl (by rw [← c5, a2, hz])
  subst this
  omega
 ·exact q
theorem CK.join {n : Nat} {x y z : Nat → Int} {κ : Nat → Nat} (C : CK n x y z κ) {u v : Nat} (hu : u < n) (hv : v < n) (v0 : 0 < v) (xu : x u = -1) (yv : y v = -1) (zu : z u ≠ (v : Nat)) {x' y' z' : Nat → Int} (hx : ∀ b, b < n → x' b = if b = u then (v : Int) else x b) (hy : ∀ b, b < n → y' b = if b = v then (u : Int) else y b) (hz : ∀ b, b < n → z' b = if z b = (v : Nat) then z u else z b) : CK n x' y' z' (fun b => if z b = (v : Nat) then κ b + κ u + 1 else κ b) := by
 have zv : z v = (v : Nat) := by
  rcases C.2.1 v hv with q | ⟨c, c1, c2, _⟩
  ·exact q.2.2
  ·omega
 have kv : κ v = 0 := by
  rcases C.2.1 v hv with q | ⟨c, c1, c2, _⟩
  ·exact q.2.1
  ·omega
 refine ⟨fun b hb => ?_, fun b hb => ?_, fun b hb => ?_⟩
 ·rw [hx b hb]
  by_cases e : b = u
  ·subst e
   rw [if_pos rfl]
   right
   refine ⟨v, v0, hv, rfl, by rw [hy v hv, if_pos rfl], ?_, ?_⟩
   ·show (if z v = (v : Nat) then κ v + κ b + 1 else κ v) = (if z b = (v : Nat) then κ b + κ b + 1 else κ b) + 1
    rw [if_pos zv, if_neg zu]; omega
   ·rw [hz v hv, hz b hb, if_pos zv, if_neg zu]
  ·rw [if_neg e]
   rcases C.1 b hb with w | ⟨c, c0, c1, c2, c3, c4, c5⟩
   ·exact Or.inl w
   ·right
    have cv : c ≠ v := fun q => by subst q; omega
    refine ⟨c, c0, c1, c2, by rw [hy c c1, if_neg cv]; exact c3, ?_, ?_⟩
    ·show (if z c = (v : Nat) then κ c + κ u + 1 else κ c) = (if z b = (v : Nat) then κ b + κ u + 1 else κ b) + 1
     rw [c5, c4]
     split <;> omega
    ·rw [hz c c1, hz b hb, c5]
 ·rw [hy b hb]
  by_cases e : b = v
  ·subst e
   rw [if_pos rfl]
   right
   exact ⟨u, hu, rfl, by rw [hx u hu, if_pos rfl], by omega⟩
  ·rw [if_neg e]
   rcases C.2.1 b hb with ⟨w1, w2, w3⟩ | ⟨c, c1, c2, c3, c4⟩
   ·left
    have : ¬ z b = (v : Nat) := by omega
    refine ⟨w1, ?_, ?_⟩
    ·show (if z b = (v : Nat) then κ b + κ u + 1 else κ b) = 0
     rw [if_neg this]; exact w2
    ·rw [hz b hb, if_neg this]; exact w3
   ·right
    refine ⟨c, c1, c2, ?_, c4⟩
    rw [hx c c1, if_neg (fun q => by subst q; omega)]; exact c3
 ·rw [hz b hb]
  by_cases e : z b = (v : Nat)
  ·rw [if_pos e]
   obtain ⟨h, h1, h2, h3⟩ := C.2.2 u hu
   refine ⟨h, h1, h2, ?_⟩
   rw [hy h h1, if_neg (fun q => by subst q; omega)]; exact h3
  ·rw [if_neg e]
   obtain ⟨h, h1, h2, h3⟩ := C.2.2 b hb
   refine ⟨h, h1, h2, ?_⟩
   rw [hy h h1, if_neg (fun q => by subst q; omega)]; exact h3
theorem CK.head {n : Nat} {x y z : Nat → Int} {κ : Nat → Nat} (C : CK n x y z κ) {h : Nat} (hh : h < n) (yh : y h = -1) : κ h = 0 ∧ z h = (h : Nat) := by
 rcases C.2.1 h hh with q | ⟨c, c1, c2, _⟩
 ·exact q.2
 ·omega
def PL (n : Nat) (P O : Nat → Int) (p : Nat) (D : Nat → Prop) : Prop :=
 (∀ b, b < n → (D b → ∃ q, q < p ∧ P b = (q : Nat) ∧ O q = (b : Nat)) ∧ (¬ D b → P b = -1)) ∧
 ∀ q, q < p → ∃ b, b < n ∧ O q = (b : Nat) ∧ D b ∧ P b = (q : Nat)
theorem PL.le {n : Nat} {P O : Nat → Int} {p : Nat} {D : Nat → Prop} (L : PL n P O p D) : p ≤ n := by
 refine pig n p (fun q => (O q).toNat) (fun q hq => ?_) (fun q r hq hr e => ?_)
 ·obtain ⟨b, b1, b2, _⟩ := L.2 q hq
  show (O q).toNat < n
  omega
 ·obtain ⟨b, b1, b2, _, b3⟩ := L.2 q hq
  obtain ⟨c, c1, c2, _, c3⟩ := L.2 r hr
  have e : (O q).toNat = (O r).toNat := e
  have : b = c := by omega
  subst this
  omega
theorem PL.lt {n : Nat} {P O : Nat → Int} {p : Nat} {D : Nat → Prop} (L : PL n P O p D) {w : Nat} (hw : w < n) (hD : ¬ D w) : p < n := by
 have := pig n (p + 1) (fun q => if q = p then w else (O q).toNat) (fun q hq => by
  show (if q = p then w else (O q).toNat) < n
  split
  ·exact hw
  ·obtain ⟨b, b1, b2, _⟩ := L.2 q (by omega)
   omega) (fun q r hq hr e => by
  have e : (if q = p then w else (O q).toNat) = (if r = p then w else (O r).toNat) := e
  have key : ∀ t, t < p → (O t).toNat ≠ w := by
   intro t ht z
   obtain ⟨b, b1, b2, b3, _⟩ := L.2 t ht
   have : b = w := by omega
   subst this
   exact hD b3
  split at e <;> split at e
  ·omega
  ·exact absurd e.symm (key r (by omega))
  ·exact absurd e (key q (by omega))
  ·obtain ⟨b, b1, b2, _, b3⟩ := L.2 q (by omega)
   obtain ⟨c, c1, c2, _, c3⟩ := L.2 r (by omega)
   have : b = c := by omega
   subst this
   omega)
 omega
theorem PL.all {n : Nat} {P O : Nat → Int} {p : Nat} {D : Nat → Prop} (L : PL n P O p D) (h : ∀ b, b < n → D b) : p = n := by
 have h1 := L.le
 have := pig p n (fun b => (P b).toNat) (fun b hb => by
  obtain ⟨q, q1, q2, _⟩ := (L.1 b hb).1 (h b hb)
  show (P b).toNat < p
  omega) (fun b c hb hc e => by
  have e : (P b).toNat = (P c).toNat := e
  obtain ⟨q, q1, q2, q3⟩ := (L.1 b hb).1 (h b hb)
  obtain ⟨r, r1, r2, r3⟩ := (L.1 c hc).1 (h c hc)
  have : q = r := by omega
  subst this
  omega)
 omega
theorem PL.put {n : Nat} {P O : Nat → Int} {p : Nat} {D : Nat → Prop} (L : PL n P O p D) {w : Nat} (hw : w < n) (hD : ¬ D w) {P' O' : Nat → Int} (hP : ∀ b, b < n → P' b = if b = w then (p : Int) else P b) (hO : ∀ q, q < p + 1 → O' q = if q = p then (w : Int) else O q) {D' : Nat → Prop} (hE : ∀ b, b < n → (D' b ↔ D b ∨ b = w)) : PL n P' O' (p + 1) D' := by
 refine ⟨fun b hb => ?_, fun q hq => ?_⟩
 ·rw [hP b hb, hE b hb]
  by_cases e : b = w
  ·subst e
   rw [if_pos rfl]
   exact ⟨fun _ => ⟨p, by omega, rfl, by rw [hO p (by omega), if_pos rfl]⟩, fun q => absurd (Or.inr rfl) q⟩
  ·rw [if_neg e]
   refine ⟨fun d => ?_, fun d => (L.1 b hb).2 (fun z => d (Or.inl z))⟩
   rcases d with d | d
   ·obtain ⟨q, q1, q2, q3⟩ := (L.1 b hb).1 d
    exact ⟨q, by omega, q2, by rw [hO q (by omega), if_neg (by omega)]; exact q3⟩
   ·exact absurd d e
 ·rw [hO q hq]
  by_cases e : q = p
  ·subst e
   rw [if_pos rfl]
   exact ⟨w, hw, rfl, (hE w hw).2 (Or.inr rfl), by rw [hP w hw, if_pos rfl]⟩
  ·rw [if_neg e]
   obtain ⟨b, b1, b2, b3, b4⟩ := L.2 q (by omega)
   refine ⟨b, b1, b2, (hE b b1).2 (Or.inl b3), ?_⟩
   rw [hP b b1, if_neg (fun z => by subst z; exact hD b3)]; exact b4

def Sh (b : List Int32 × List Int32 × List Int32 × List Int32 × List Int32 × List Int32 × List Int32 × List Int32) (k : List Int32 × List Int32) (r : List Int32 × List Int32 × Int32 × Int32 × Int32) (i : Int32 × Int32 × Int32 × Int32) (o : Ob) : Prop := (fM o).length = 32 ∧ (fO o).length = 32 ∧ (fP o).length = 16 ∧ (fQ o).length = 16 ∧ (fR o).length = 16 ∧ (fT o).length = 16 ∧ (fU o).length = 16 ∧ (fV o).length = 16 ∧ (fW o).length = 16 ∧ (fX o).length = 16 ∧ (fY o).length = 16 ∧ (fZ o).length = 16 ∧ (fa o).length = 16 ∧ (fb o).length = 16 ∧ (fc o).length = 16 ∧ (fd o).length = 16 ∧ (fA o, fB o, fC o, fD o, fE o, fF o, fG o, fH o) = b ∧ (fI o, fJ o) = k ∧ (fK o, fL o, fo o, fp o, fq o) = r ∧ (fe o, fh o, fi o, fm o) = i
theorem Sh_edgeId {b : List Int32 × List Int32 × List Int32 × List Int32 × List Int32 × List Int32 × List Int32 × List Int32} {k : List Int32 × List Int32} {r : List Int32 × List Int32 × Int32 × Int32 × Int32} {i : Int32 × Int32 × Int32 × Int32} {o : Ob} {x : List Int32} (h : Sh b k r i o) (hx : x.length = 32) : Sh b k r i (sM o x) := by
 dsimp only [Sh, fA, fB, fC, fD, fE, fF, fG, fH, fI, fJ, fK, fL, fM, fO, fP, fQ, fR, fT, fU, fV, fW, fX, fY, fZ, fa, fb, fc, fd, fe, fh, fi, fm, fo, fp, fq, sM] at h ⊢
 exact ⟨hx, h.2.1, h.2.2.1, h.2.2.2.1, h.2.2.2.2.1, h.2.2.2.2.2.1, h.2.2.2.2.2.2.1, h.2.2.2.2.2.2.2.1, h.2.2.2.2.2.2.2.2.1, h.2.2.2.2.2.2.2.2.2.1, h.2.2.2.2.2.2.2.2.2.2.1, h.2.2.2.2.2.2.2.2.2.2.2.1, h.2.2.2.2.2.2.2.2.2.2.2.2.1, h.2.2.2.2.2.2.2.2.2.2.2.2.2.1, h.2.2.2.2.2.2.2.2.2.2.2.2.2.2.1, h.2.2.2.2.2.2.2.2.2.2.2.2.2.2.2.1, h.2.2.2.2.2.2.2.2.2.2.2.2.2.2.2.2⟩
theorem Sh_l_edgeId {b : List Int32 × List Int32 × List Int32 × List Int32 × List Int32 × List Int32 × List Int32 × List Int32} {k : List Int32 × List Int32} {r : List Int32 × List Int32 × Int32 × Int32 × Int32} {i : Int32 × Int32 × Int32 × Int32} {o : Ob} (h : Sh b k r i o) : (fM o).length = 32 := h.1
theorem Sh_edgeW {b : List Int32 × List Int32 × List Int32 × List Int32 × List Int32 × List Int32 × List Int32 × List Int32} {k : List Int32 × List Int32} {r : List Int32 × List Int32 × Int32 × Int32 × Int32} {i : Int32 × Int32 × Int32 × Int32} {o : Ob} {x : List Int32} (h : Sh b k r i o) (hx : x.length = 32) : Sh b k r i (sO o x) := by
 dsimp only [Sh, fA, fB, fC, fD, fE, fF, fG, fH, fI, fJ, fK, fL, fM, fO, fP, fQ, fR, fT, fU, fV, fW, fX, fY, fZ, fa, fb, fc, fd, fe, fh, fi, fm, fo, fp, fq, sO] at h ⊢
 exact ⟨h.1, hx, h.2.2.1, h.2.2.2.1, h.2.2.2.2.1, h.2.2.2.2.2.1, h.2.2.2.2.2.2.1, h.2.2.2.2.2.2.2.1, h.2.2.2.2.2.2.2.2.1, h.2.2.2.2.2.2.2.2.2.1, h.2.2.2.2.2.2.2.2.2.2.1, h.2.2.2.2.2.2.2.2.2.2.2.1, h.2.2.2.2.2.2.2.2.2.2.2.2.1, h.2.2.2.2.2.2.2.2.2.2.2.2.2.1, h.2.2.2.2.2.2.2.2.2.2.2.2.2.2.1, h.2.2.2.2.2.2.2.2.2.2.2.2.2.2.2.1, h.2.2.2.2.2.2.2.2.2.2.2.2.2.2.2.2⟩
theorem Sh_l_edgeW {b : List Int32 × List Int32 × List Int32 × List Int32 × List Int32 × List Int32 × List Int32 × List Int32} {k : List Int32 × List Int32} {r : List Int32 × List Int32 × Int32 × Int32 × Int32} {i : Int32 × Int32 × Int32 × Int32} {o : Ob} (h : Sh b k r i o) : (fO o).length = 32 := h.2.1
theorem Sh_chNext {b : List Int32 × List Int32 × List Int32 × List Int32 × List Int32 × List Int32 × List Int32 × List Int32} {k : List Int32 × List Int32} {r : List Int32 × List Int32 × Int32 × Int32 × Int32} {i : Int32 × Int32 × Int32 × Int32} {o : Ob} {x : List Int32} (h : Sh b k r i o) (hx : x.length = 16) : Sh b k r i (sP o x) := by
 dsimp only [Sh, fA, fB, fC, fD, fE, fF, fG, fH, fI, fJ, fK, fL, fM, fO, fP, fQ, fR, fT, fU, fV, fW, fX, fY, fZ, fa, fb, fc, fd, fe, fh, fi, fm, fo, fp, fq, sP] at h ⊢
 exact ⟨h.1, h.2.1, hx, h.2.2.2.1, h.2.2.2.2.1, h.2.2.2.2.2.1, h.2.2.2.2.2.2.1, h.2.2.2.2.2.2.2.1, h.2.2.2.2.2.2.2.2.1, h.2.2.2.2.2.2.2.2.2.1, h.2.2.2.2.2.2.2.2.2.2.1, h.2.2.2.2.2.2.2.2.2.2.2.1, h.2.2.2.2.2.2.2.2.2.2.2.2.1, h.2.2.2.2.2.2.2.2.2.2.2.2.2.1, h.2.2.2.2.2.2.2.2.2.2.2.2.2.2.1, h.2.2.2.2.2.2.2.2.2.2.2.2.2.2.2.1, h.2.2.2.2.2.2.2.2.2.2.2.2.2.2.2.2⟩
theorem Sh_l_chNext {b : List Int32 × List Int32 × List Int32 × List Int32 × List Int32 × List Int32 × List Int32 × List Int32} {k : List Int32 × List Int32} {r : List Int32 × List Int32 × Int32 × Int32 × Int32} {i : Int32 × Int32 × Int32 × Int32} {o : Ob} (h : Sh b k r i o) : (fP o).length = 16 := h.2.2.1
theorem Sh_chPrev {b : List Int32 × List Int32 × List Int32 × List Int32 × List Int32 × List Int32 × List Int32 × List Int32} {k : List Int32 × List Int32} {r : List Int32 × List Int32 × Int32 × Int32 × Int32} {i : Int32 × Int32 × Int32 × Int32} {o : Ob} {x : List Int32} (h : Sh b k r i o) (hx : x.length = 16) : Sh b k r i (sQ o x) := by
 dsimp only [Sh, fA, fB, fC, fD, fE, fF, fG, fH, fI, fJ, fK, fL, fM, fO, fP, fQ, fR, fT, fU, fV, fW, fX, fY, fZ, fa, fb, fc, fd, fe, fh, fi, fm, fo, fp, fq, sQ] at h ⊢
 exact ⟨h.1, h.2.1, h.2.2.1, hx, h.2.2.2.2.1, h.2.2.2.2.2.1, h.2.2.2.2.2.2.1, h.2.2.2.2.2.2.2.1, h.2.2.2.2.2.2.2.2.1, h.2.2.2.2.2.2.2.2.2.1, h.2.2.2.2.2.2.2.2.2.2.1, h.2.2.2.2.2.2.2.2.2.2.2.1, h.2.2.2.2.2.2.2.2.2.2.2.2.1, h.2.2.2.2.2.2.2.2.2.2.2.2.2.1, h.2.2.2.2.2.2.2.2.2.2.2.2.2.2.1, h.2.2.2.2.2.2.2.2.2.2.2.2.2.2.2.1, h.2.2.2.2.2.2.2.2.2.2.2.2.2.2.2.2⟩
theorem Sh_l_chPrev {b : List Int32 × List Int32 × List Int32 × List Int32 × List Int32 × List Int32 × List Int32 × List Int32} {k : List Int32 × List Int32} {r : List Int32 × List Int32 × Int32 × Int32 × Int32} {i : Int32 × Int32 × Int32 × Int32} {o : Ob} (h : Sh b k r i o) : (fQ o).length = 16 := h.2.2.2.1
theorem Sh_chHead {b : List Int32 × List Int32 × List Int32 × List Int32 × List Int32 × List Int32 × List Int32 × List Int32} {k : List Int32 × List Int32} {r : List Int32 × List Int32 × Int32 × Int32 × Int32} {i : Int32 × Int32 × Int32 × Int32} {o : Ob} {x : List Int32} (h : Sh b k r i o) (hx : x.length = 16) : Sh b k r i (sR o x) := by
 dsimp only [Sh, fA, fB, fC, fD, fE, fF, fG, fH, fI, fJ, fK, fL, fM, fO, fP, fQ, fR, fT, fU, fV, fW, fX, fY, fZ, fa, fb, fc, fd, fe, fh, fi, fm, fo, fp, fq, sR] at h ⊢
 exact ⟨h.1, h.2.1, h.2.2.1, h.2.2.2.1, hx, h.2.2.2.2.2.1, h.2.2.2.2.2.2.1, h.2.2.2.2.2.2.2.1, h.2.2.2.2.2.2.2.2.1, h.2.2.2.2.2.2.2.2.2.1, h.2.2.2.2.2.2.2.2.2.2.1, h.2.2.2.2.2.2.2.2.2.2.2.1, h.2.2.2.2.2.2.2.2.2.2.2.2.1, h.2.2.2.2.2.2.2.2.2.2.2.2.2.1, h.2.2.2.2.2.2.2.2.2.2.2.2.2.2.1, h.2.2.2.2.2.2.2.2.2.2.2.2.2.2.2.1, h.2.2.2.2.2.2.2.2.2.2.2.2.2.2.2.2⟩
theorem Sh_l_chHead {b : List Int32 × List Int32 × List Int32 × List Int32 × List Int32 × List Int32 × List Int32 × List Int32} {k : List Int32 × List Int32} {r : List Int32 × List Int32 × Int32 × Int32 × Int32} {i : Int32 × Int32 × Int32 × Int32} {o : Ob} (h : Sh b k r i o) : (fR o).length = 16 := h.2.2.2.2.1
theorem Sh_heat {b : List Int32 × List Int32 × List Int32 × List Int32 × List Int32 × List Int32 × List Int32 × List Int32} {k : List Int32 × List Int32} {r : List Int32 × List Int32 × Int32 × Int32 × Int32} {i : Int32 × Int32 × Int32 × Int32} {o : Ob} {x : List Int32} (h : Sh b k r i o) (hx : x.length = 16) : Sh b k r i (sT o x) := by
 dsimp only [Sh, fA, fB, fC, fD, fE, fF, fG, fH, fI, fJ, fK, fL, fM, fO, fP, fQ, fR, fT, fU, fV, fW, fX, fY, fZ, fa, fb, fc, fd, fe, fh, fi, fm, fo, fp, fq, sT] at h ⊢
 exact ⟨h.1, h.2.1, h.2.2.1, h.2.2.2.1, h.2.2.2.2.1, hx, h.2.2.2.2.2.2.1, h.2.2.2.2.2.2.2.1, h.2.2.2.2.2.2.2.2.1, h.2.2.2.2.2.2.2.2.2.1, h.2.2.2.2.2.2.2.2.2.2.1, h.2.2.2.2.2.2.2.2.2.2.2.1, h.2.2.2.2.2.2.2.2.2.2.2.2.1, h.2.2.2.2.2.2.2.2.2.2.2.2.2.1, h.2.2.2.2.2.2.2.2.2.2.2.2.2.2.1, h.2.2.2.2.2.2.2.2.2.2.2.2.2.2.2.1, h.2.2.2.2.2.2.2.2.2.2.2.2.2.2.2.2⟩
theorem Sh_l_heat {b : List Int32 × List Int32 × List Int32 × List Int32 × List Int32 × List Int32 × List Int32 × List Int32} {k : List Int32 × List Int32} {r : List Int32 × List Int32 × Int32 × Int32 × Int32} {i : Int32 × Int32 × Int32 × Int32} {o : Ob} (h : Sh b k r i o) : (fT o).length = 16 := h.2.2.2.2.2.1
theorem Sh_posOf {b : List Int32 × List Int32 × List Int32 × List Int32 × List Int32 × List Int32 × List Int32 × List Int32} {k : List Int32 × List Int32} {r : List Int32 × List Int32 × Int32 × Int32 × Int32} {i : Int32 × Int32 × Int32 × Int32} {o : Ob} {x : List Int32} (h : Sh b k r i o) (hx : x.length = 16) : Sh b k r i (sU o x) := by
 dsimp only [Sh, fA, fB, fC, fD, fE, fF, fG, fH, fI, fJ, fK, fL, fM, fO, fP, fQ, fR, fT, fU, fV, fW, fX, fY, fZ, fa, fb, fc, fd, fe, fh, fi, fm, fo, fp, fq, sU] at h ⊢
 exact ⟨h.1, h.2.1, h.2.2.1, h.2.2.2.1, h.2.2.2.2.1, h.2.2.2.2.2.1, hx, h.2.2.2.2.2.2.2.1, h.2.2.2.2.2.2.2.2.1, h.2.2.2.2.2.2.2.2.2.1, h.2.2.2.2.2.2.2.2.2.2.1, h.2.2.2.2.2.2.2.2.2.2.2.1, h.2.2.2.2.2.2.2.2.2.2.2.2.1, h.2.2.2.2.2.2.2.2.2.2.2.2.2.1, h.2.2.2.2.2.2.2.2.2.2.2.2.2.2.1, h.2.2.2.2.2.2.2.2.2.2.2.2.2.2.2.1, h.2.2.2.2.2.2.2.2.2.2.2.2.2.2.2.2⟩
theorem Sh_l_posOf {b : List Int32 × List Int32 × List Int32 × List Int32 × List Int32 × List Int32 × List Int32 × List Int32} {k : List Int32 × List Int32} {r : List Int32 × List Int32 × Int32 × Int32 × Int32} {i : Int32 × Int32 × Int32 × Int32} {o : Ob} (h : Sh b k r i o) : (fU o).length = 16 := h.2.2.2.2.2.2.1
theorem Sh_order {b : List Int32 × List Int32 × List Int32 × List Int32 × List Int32 × List Int32 × List Int32 × List Int32} {k : List Int32 × List Int32} {r : List Int32 × List Int32 × Int32 × Int32 × Int32} {i : Int32 × Int32 × Int32 × Int32} {o : Ob} {x : List Int32} (h : Sh b k r i o) (hx : x.length = 16) : Sh b k r i (sV o x) := by
 dsimp only [Sh, fA, fB, fC, fD, fE, fF, fG, fH, fI, fJ, fK, fL, fM, fO, fP, fQ, fR, fT, fU, fV, fW, fX, fY, fZ, fa, fb, fc, fd, fe, fh, fi, fm, fo, fp, fq, sV] at h ⊢
 exact ⟨h.1, h.2.1, h.2.2.1, h.2.2.2.1, h.2.2.2.2.1, h.2.2.2.2.2.1, h.2.2.2.2.2.2.1, hx, h.2.2.2.2.2.2.2.2.1, h.2.2.2.2.2.2.2.2.2.1, h.2.2.2.2.2.2.2.2.2.2.1, h.2.2.2.2.2.2.2.2.2.2.2.1, h.2.2.2.2.2.2.2.2.2.2.2.2.1, h.2.2.2.2.2.2.2.2.2.2.2.2.2.1, h.2.2.2.2.2.2.2.2.2.2.2.2.2.2.1, h.2.2.2.2.2.2.2.2.2.2.2.2.2.2.2.1, h.2.2.2.2.2.2.2.2.2.2.2.2.2.2.2.2⟩
theorem Sh_l_order {b : List Int32 × List Int32 × List Int32 × List Int32 × List Int32 × List Int32 × List Int32 × List Int32} {k : List Int32 × List Int32} {r : List Int32 × List Int32 × Int32 × Int32 × Int32} {i : Int32 × Int32 × Int32 × Int32} {o : Ob} (h : Sh b k r i o) : (fV o).length = 16 := h.2.2.2.2.2.2.2.1
theorem Sh_cOp {b : List Int32 × List Int32 × List Int32 × List Int32 × List Int32 × List Int32 × List Int32 × List Int32} {k : List Int32 × List Int32} {r : List Int32 × List Int32 × Int32 × Int32 × Int32} {i : Int32 × Int32 × Int32 × Int32} {o : Ob} {x : List Int32} (h : Sh b k r i o) (hx : x.length = 16) : Sh b k r i (sW o x) := by
 dsimp only [Sh, fA, fB, fC, fD, fE, fF, fG, fH, fI, fJ, fK, fL, fM, fO, fP, fQ, fR, fT, fU, fV, fW, fX, fY, fZ, fa, fb, fc, fd, fe, fh, fi, fm, fo, fp, fq, sW] at h ⊢
 exact ⟨h.1, h.2.1, h.2.2.1, h.2.2.2.1, h.2.2.2.2.1, h.2.2.2.2.2.1, h.2.2.2.2.2.2.1, h.2.2.2.2.2.2.2.1, hx, h.2.2.2.2.2.2.2.2.2.1, h.2.2.2.2.2.2.2.2.2.2.1, h.2.2.2.2.2.2.2.2.2.2.2.1, h.2.2.2.2.2.2.2.2.2.2.2.2.1, h.2.2.2.2.2.2.2.2.2.2.2.2.2.1, h.2.2.2.2.2.2.2.2.2.2.2.2.2.2.1, h.2.2.2.2.2.2.2.2.2.2.2.2.2.2.2.1, h.2.2.2.2.2.2.2.2.2.2.2.2.2.2.2.2⟩
theorem Sh_l_cOp {b : List Int32 × List Int32 × List Int32 × List Int32 × List Int32 × List Int32 × List Int32 × List Int32} {k : List Int32 × List Int32} {r : List Int32 × List Int32 × Int32 × Int32 × Int32} {i : Int32 × Int32 × Int32 × Int32} {o : Ob} (h : Sh b k r i o) : (fW o).length = 16 := h.2.2.2.2.2.2.2.2.1
theorem Sh_cD {b : List Int32 × List Int32 × List Int32 × List Int32 × List Int32 × List Int32 × List Int32 × List Int32} {k : List Int32 × List Int32} {r : List Int32 × List Int32 × Int32 × Int32 × Int32} {i : Int32 × Int32 × Int32 × Int32} {o : Ob} {x : List Int32} (h : Sh b k r i o) (hx : x.length = 16) : Sh b k r i (sX o x) := by
 dsimp only [Sh, fA, fB, fC, fD, fE, fF, fG, fH, fI, fJ, fK, fL, fM, fO, fP, fQ, fR, fT, fU, fV, fW, fX, fY, fZ, fa, fb, fc, fd, fe, fh, fi, fm, fo, fp, fq, sX] at h ⊢
 exact ⟨h.1, h.2.1, h.2.2.1, h.2.2.2.1, h.2.2.2.2.1, h.2.2.2.2.2.1, h.2.2.2.2.2.2.1, h.2.2.2.2.2.2.2.1, h.2.2.2.2.2.2.2.2.1, hx, h.2.2.2.2.2.2.2.2.2.2.1, h.2.2.2.2.2.2.2.2.2.2.2.1, h.2.2.2.2.2.2.2.2.2.2.2.2.1, h.2.2.2.2.2.2.2.2.2.2.2.2.2.1, h.2.2.2.2.2.2.2.2.2.2.2.2.2.2.1, h.2.2.2.2.2.2.2.2.2.2.2.2.2.2.2.1, h.2.2.2.2.2.2.2.2.2.2.2.2.2.2.2.2⟩
theorem Sh_l_cD {b : List Int32 × List Int32 × List Int32 × List Int32 × List Int32 × List Int32 × List Int32 × List Int32} {k : List Int32 × List Int32} {r : List Int32 × List Int32 × Int32 × Int32 × Int32} {i : Int32 × Int32 × Int32 × Int32} {o : Ob} (h : Sh b k r i o) : (fX o).length = 16 := h.2.2.2.2.2.2.2.2.2.1
theorem Sh_cS {b : List Int32 × List Int32 × List Int32 × List Int32 × List Int32 × List Int32 × List Int32 × List Int32} {k : List Int32 × List Int32} {r : List Int32 × List Int32 × Int32 × Int32 × Int32} {i : Int32 × Int32 × Int32 × Int32} {o : Ob} {x : List Int32} (h : Sh b k r i o) (hx : x.length = 16) : Sh b k r i (sY o x) := by
 dsimp only [Sh, fA, fB, fC, fD, fE, fF, fG, fH, fI, fJ, fK, fL, fM, fO, fP, fQ, fR, fT, fU, fV, fW, fX, fY, fZ, fa, fb, fc, fd, fe, fh, fi, fm, fo, fp, fq, sY] at h ⊢
 exact ⟨h.1, h.2.1, h.2.2.1, h.2.2.2.1, h.2.2.2.2.1, h.2.2.2.2.2.1, h.2.2.2.2.2.2.1, h.2.2.2.2.2.2.2.1, h.2.2.2.2.2.2.2.2.1, h.2.2.2.2.2.2.2.2.2.1, hx, h.2.2.2.2.2.2.2.2.2.2.2.1, h.2.2.2.2.2.2.2.2.2.2.2.2.1, h.2.2.2.2.2.2.2.2.2.2.2.2.2.1, h.2.2.2.2.2.2.2.2.2.2.2.2.2.2.1, h.2.2.2.2.2.2.2.2.2.2.2.2.2.2.2.1, h.2.2.2.2.2.2.2.2.2.2.2.2.2.2.2.2⟩
theorem Sh_l_cS {b : List Int32 × List Int32 × List Int32 × List Int32 × List Int32 × List Int32 × List Int32 × List Int32} {k : List Int32 × List Int32} {r : List Int32 × List Int32 × Int32 × Int32 × Int32} {i : Int32 × Int32 × Int32 × Int32} {o : Ob} (h : Sh b k r i o) : (fY o).length = 16 := h.2.2.2.2.2.2.2.2.2.2.1
theorem Sh_cImm {b : List Int32 × List Int32 × List Int32 × List Int32 × List Int32 × List Int32 × List Int32 × List Int32} {k : List Int32 × List Int32} {r : List Int32 × List Int32 × Int32 × Int32 × Int32} {i : Int32 × Int32 × Int32 × Int32} {o : Ob} {x : List Int32} (h : Sh b k r i o) (hx : x.length = 16) : Sh b k r i (sZ o x) := by
 dsimp only [Sh, fA, fB, fC, fD, fE, fF, fG, fH, fI, fJ, fK, fL, fM, fO, fP, fQ, fR, fT, fU, fV, fW, fX, fY, fZ, fa, fb, fc, fd, fe, fh, fi, fm, fo, fp, fq, sZ] at h ⊢
 exact ⟨h.1, h.2.1, h.2.2.1, h.2.2.2.1, h.2.2.2.2.1, h.2.2.2.2.2.1, h.2.2.2.2.2.2.1, h.2.2.2.2.2.2.2.1, h.2.2.2.2.2.2.2.2.1, h.2.2.2.2.2.2.2.2.2.1, h.2.2.2.2.2.2.2.2.2.2.1, hx, h.2.2.2.2.2.2.2.2.2.2.2.2.1, h.2.2.2.2.2.2.2.2.2.2.2.2.2.1, h.2.2.2.2.2.2.2.2.2.2.2.2.2.2.1, h.2.2.2.2.2.2.2.2.2.2.2.2.2.2.2.1, h.2.2.2.2.2.2.2.2.2.2.2.2.2.2.2.2⟩
theorem Sh_l_cImm {b : List Int32 × List Int32 × List Int32 × List Int32 × List Int32 × List Int32 × List Int32 × List Int32} {k : List Int32 × List Int32} {r : List Int32 × List Int32 × Int32 × Int32 × Int32} {i : Int32 × Int32 × Int32 × Int32} {o : Ob} (h : Sh b k r i o) : (fZ o).length = 16 := h.2.2.2.2.2.2.2.2.2.2.2.1
theorem Sh_cKind {b : List Int32 × List Int32 × List Int32 × List Int32 × List Int32 × List Int32 × List Int32 × List Int32} {k : List Int32 × List Int32} {r : List Int32 × List Int32 × Int32 × Int32 × Int32} {i : Int32 × Int32 × Int32 × Int32} {o : Ob} {x : List Int32} (h : Sh b k r i o) (hx : x.length = 16) : Sh b k r i (sa o x) := by
 dsimp only [Sh, fA, fB, fC, fD, fE, fF, fG, fH, fI, fJ, fK, fL, fM, fO, fP, fQ, fR, fT, fU, fV, fW, fX, fY, fZ, fa, fb, fc, fd, fe, fh, fi, fm, fo, fp, fq, sa] at h ⊢
 exact ⟨h.1, h.2.1, h.2.2.1, h.2.2.2.1, h.2.2.2.2.1, h.2.2.2.2.2.1, h.2.2.2.2.2.2.1, h.2.2.2.2.2.2.2.1, h.2.2.2.2.2.2.2.2.1, h.2.2.2.2.2.2.2.2.2.1, h.2.2.2.2.2.2.2.2.2.2.1, h.2.2.2.2.2.2.2.2.2.2.2.1, hx, h.2.2.2.2.2.2.2.2.2.2.2.2.2.1, h.2.2.2.2.2.2.2.2.2.2.2.2.2.2.1, h.2.2.2.2.2.2.2.2.2.2.2.2.2.2.2.1, h.2.2.2.2.2.2.2.2.2.2.2.2.2.2.2.2⟩
theorem Sh_l_cKind {b : List Int32 × List Int32 × List Int32 × List Int32 × List Int32 × List Int32 × List Int32 × List Int32} {k : List Int32 × List Int32} {r : List Int32 × List Int32 × Int32 × Int32 × Int32} {i : Int32 × Int32 × Int32 × Int32} {o : Ob} (h : Sh b k r i o) : (fa o).length = 16 := h.2.2.2.2.2.2.2.2.2.2.2.2.1
theorem Sh_cTest {b : List Int32 × List Int32 × List Int32 × List Int32 × List Int32 × List Int32 × List Int32 × List Int32} {k : List Int32 × List Int32} {r : List Int32 × List Int32 × Int32 × Int32 × Int32} {i : Int32 × Int32 × Int32 × Int32} {o : Ob} {x : List Int32} (h : Sh b k r i o) (hx : x.length = 16) : Sh b k r i (sb o x) := by
 dsimp only [Sh, fA, fB, fC, fD, fE, fF, fG, fH, fI, fJ, fK, fL, fM, fO, fP, fQ, fR, fT, fU, fV, fW, fX, fY, fZ, fa, fb, fc, fd, fe, fh, fi, fm, fo, fp, fq, sb] at h ⊢
 exact ⟨h.1, h.2.1, h.2.2.1, h.2.2.2.1, h.2.2.2.2.1, h.2.2.2.2.2.1, h.2.2.2.2.2.2.1, h.2.2.2.2.2.2.2.1, h.2.2.2.2.2.2.2.2.1, h.2.2.2.2.2.2.2.2.2.1, h.2.2.2.2.2.2.2.2.2.2.1, h.2.2.2.2.2.2.2.2.2.2.2.1, h.2.2.2.2.2.2.2.2.2.2.2.2.1, hx, h.2.2.2.2.2.2.2.2.2.2.2.2.2.2.1, h.2.2.2.2.2.2.2.2.2.2.2.2.2.2.2.1, h.2.2.2.2.2.2.2.2.2.2.2.2.2.2.2.2⟩
theorem Sh_l_cTest {b : List Int32 × List Int32 × List Int32 × List Int32 × List Int32 × List Int32 × List Int32 × List Int32} {k : List Int32 × List Int32} {r : List Int32 × List Int32 × Int32 × Int32 × Int32} {i : Int32 × Int32 × Int32 × Int32} {o : Ob} (h : Sh b k r i o) : (fb o).length = 16 := h.2.2.2.2.2.2.2.2.2.2.2.2.2.1
theorem Sh_cTaken {b : List Int32 × List Int32 × List Int32 × List Int32 × List Int32 × List Int32 × List Int32 × List Int32} {k : List Int32 × List Int32} {r : List Int32 × List Int32 × Int32 × Int32 × Int32} {i : Int32 × Int32 × Int32 × Int32} {o : Ob} {x : List Int32} (h : Sh b k r i o) (hx : x.length = 16) : Sh b k r i (sc o x) := by
 dsimp only [Sh, fA, fB, fC, fD, fE, fF, fG, fH, fI, fJ, fK, fL, fM, fO, fP, fQ, fR, fT, fU, fV, fW, fX, fY, fZ, fa, fb, fc, fd, fe, fh, fi, fm, fo, fp, fq, sc] at h ⊢
 exact ⟨h.1, h.2.1, h.2.2.1, h.2.2.2.1, h.2.2.2.2.1, h.2.2.2.2.2.1, h.2.2.2.2.2.2.1, h.2.2.2.2.2.2.2.1, h.2.2.2.2.2.2.2.2.1, h.2.2.2.2.2.2.2.2.2.1, h.2.2.2.2.2.2.2.2.2.2.1, h.2.2.2.2.2.2.2.2.2.2.2.1, h.2.2.2.2.2.2.2.2.2.2.2.2.1, h.2.2.2.2.2.2.2.2.2.2.2.2.2.1, hx, h.2.2.2.2.2.2.2.2.2.2.2.2.2.2.2.1, h.2.2.2.2.2.2.2.2.2.2.2.2.2.2.2.2⟩
theorem Sh_l_cTaken {b : List Int32 × List Int32 × List Int32 × List Int32 × List Int32 × List Int32 × List Int32 × List Int32} {k : List Int32 × List Int32} {r : List Int32 × List Int32 × Int32 × Int32 × Int32} {i : Int32 × Int32 × Int32 × Int32} {o : Ob} (h : Sh b k r i o) : (fc o).length = 16 := h.2.2.2.2.2.2.2.2.2.2.2.2.2.2.1
theorem Sh_cOther {b : List Int32 × List Int32 × List Int32 × List Int32 × List Int32 × List Int32 × List Int32 × List Int32} {k : List Int32 × List Int32} {r : List Int32 × List Int32 × Int32 × Int32 × Int32} {i : Int32 × Int32 × Int32 × Int32} {o : Ob} {x : List Int32} (h : Sh b k r i o) (hx : x.length = 16) : Sh b k r i (sd o x) := by
 dsimp only [Sh, fA, fB, fC, fD, fE, fF, fG, fH, fI, fJ, fK, fL, fM, fO, fP, fQ, fR, fT, fU, fV, fW, fX, fY, fZ, fa, fb, fc, fd, fe, fh, fi, fm, fo, fp, fq, sd] at h ⊢
 exact ⟨h.1, h.2.1, h.2.2.1, h.2.2.2.1, h.2.2.2.2.1, h.2.2.2.2.2.1, h.2.2.2.2.2.2.1, h.2.2.2.2.2.2.2.1, h.2.2.2.2.2.2.2.2.1, h.2.2.2.2.2.2.2.2.2.1, h.2.2.2.2.2.2.2.2.2.2.1, h.2.2.2.2.2.2.2.2.2.2.2.1, h.2.2.2.2.2.2.2.2.2.2.2.2.1, h.2.2.2.2.2.2.2.2.2.2.2.2.2.1, h.2.2.2.2.2.2.2.2.2.2.2.2.2.2.1, hx, h.2.2.2.2.2.2.2.2.2.2.2.2.2.2.2.2⟩
theorem Sh_l_cOther {b : List Int32 × List Int32 × List Int32 × List Int32 × List Int32 × List Int32 × List Int32 × List Int32} {k : List Int32 × List Int32} {r : List Int32 × List Int32 × Int32 × Int32 × Int32} {i : Int32 × Int32 × Int32 × Int32} {o : Ob} (h : Sh b k r i o) : (fd o).length = 16 := h.2.2.2.2.2.2.2.2.2.2.2.2.2.2.2.1
theorem Sh_edgeN {b : List Int32 × List Int32 × List Int32 × List Int32 × List Int32 × List Int32 × List Int32 × List Int32} {k : List Int32 × List Int32} {r : List Int32 × List Int32 × Int32 × Int32 × Int32} {i : Int32 × Int32 × Int32 × Int32} {o : Ob} {x : Int32} (h : Sh b k r i o) : Sh b k r i (sr o x) := by
 dsimp only [Sh, fA, fB, fC, fD, fE, fF, fG, fH, fI, fJ, fK, fL, fM, fO, fP, fQ, fR, fT, fU, fV, fW, fX, fY, fZ, fa, fb, fc, fd, fe, fh, fi, fm, fo, fp, fq, sr] at h ⊢
 exact h
abbrev BB := List Int32 × List Int32 × List Int32 × List Int32 × List Int32 × List Int32 × List Int32 × List Int32
abbrev KK := List Int32 × List Int32
abbrev RR := List Int32 × List Int32 × Int32 × Int32 × Int32
abbrev II := Int32 × Int32 × Int32 × Int32
def at' (l : List Int32) (j : Nat) : Int32 := l.getD j 0
def gd (l : List Int32) (j : Nat) : Int := (at' l j).toInt
theorem at_set {l : List Int32} {i k : Nat} {v : Int32} (hi : i < l.length) : at' (l.set i v) k = if k = i then v else at' l k := by
 unfold at'
 rw [List.getD_eq_getElem?_getD, List.getD_eq_getElem?_getD, List.getElem?_set]
 by_cases h : i = k
 ·rw [if_pos h, if_pos h.symm, if_pos hi]; rfl
 ·rw [if_neg h, if_neg (fun w => h w.symm)]
theorem gd_set {l : List Int32} {i k : Nat} {v : Int32} (hi : i < l.length) : gd (l.set i v) k = if k = i then v.toInt else gd l k := by
 unfold gd
 rw [at_set hi]
 split <;> rfl
theorem ag {l : List Int32} {x : Int32} {a : Nat} (hx : x.toInt = a) (ha : a < l.length) : aget l x = some (at' l a) := by
 unfold at'
 rw [aget_at hx ha, List.getD_eq_getElem?_getD, List.getElem?_eq_getElem ha]; rfl
def op (b : BB) (j : Nat) : Int32 := at' b.1 j
def dd (b : BB) (j : Nat) : Int32 := at' b.2.1 j
def ss (b : BB) (j : Nat) : Int32 := at' b.2.2.1 j
def im (b : BB) (j : Nat) : Int32 := at' b.2.2.2.1 j
def tm (b : BB) (j : Nat) : Int32 := at' b.2.2.2.2.1 j
def te (b : BB) (j : Nat) : Int32 := at' b.2.2.2.2.2.1 j
def t0 (b : BB) (j : Nat) : Int32 := at' b.2.2.2.2.2.2.1 j
def t1 (b : BB) (j : Nat) : Int32 := at' b.2.2.2.2.2.2.2 j
def LB (b : BB) : Prop := b.1.length = 16 ∧ b.2.1.length = 16 ∧ b.2.2.1.length = 16 ∧ b.2.2.2.1.length = 16 ∧ b.2.2.2.2.1.length = 16 ∧ b.2.2.2.2.2.1.length = 16 ∧ b.2.2.2.2.2.2.1.length = 16 ∧ b.2.2.2.2.2.2.2.length = 16
def GB (b : BB) (n : Nat) : Prop := LB b ∧ n ≤ 16 ∧ ∀ j, j < n → (0 ≤ (te b j).toInt ∧ (te b j).toInt ≤ 15) ∧ (0 ≤ (t0 b j).toInt ∧ (t0 b j).toInt < n) ∧ (0 ≤ (t1 b j).toInt ∧ (t1 b j).toInt < n)
def LK (k : KK) : Prop := k.1.length = 16 ∧ k.2.length = 16
theorem h_b {b : BB} {k : KK} {r : RR} {i : II} {o : Ob} (h : Sh b k r i o) : (fA o, fB o, fC o, fD o, fE o, fF o, fG o, fH o) = b := h.2.2.2.2.2.2.2.2.2.2.2.2.2.2.2.2.1
theorem h_k {b : BB} {k : KK} {r : RR} {i : II} {o : Ob} (h : Sh b k r i o) : (fI o, fJ o) = k := h.2.2.2.2.2.2.2.2.2.2.2.2.2.2.2.2.2.1
theorem h_r {b : BB} {k : KK} {r : RR} {i : II} {o : Ob} (h : Sh b k r i o) : (fK o, fL o, fo o, fp o, fq o) = r := h.2.2.2.2.2.2.2.2.2.2.2.2.2.2.2.2.2.2.1
theorem h_i {b : BB} {k : KK} {r : RR} {i : II} {o : Ob} (h : Sh b k r i o) : (fe o, fh o, fi o, fm o) = i := h.2.2.2.2.2.2.2.2.2.2.2.2.2.2.2.2.2.2.2
theorem g_bOp {b : BB} {k : KK} {r : RR} {i : II} {o : Ob} (h : Sh b k r i o) : fA o = b.1 := congrArg (fun x : BB => x.1) (h_b h)
theorem g_bD {b : BB} {k : KK} {r : RR} {i : II} {o : Ob} (h : Sh b k r i o) : fB o = b.2.1 := congrArg (fun x : BB => x.2.1) (h_b h)
theorem g_bS {b : BB} {k : KK} {r : RR} {i : II} {o : Ob} (h : Sh b k r i o) : fC o = b.2.2.1 := congrArg (fun x : BB => x.2.2.1) (h_b h)
theorem g_bImm {b : BB} {k : KK} {r : RR} {i : II} {o : Ob} (h : Sh b k r i o) : fD o = b.2.2.2.1 := congrArg (fun x : BB => x.2.2.2.1) (h_b h)
theorem g_bTerm {b : BB} {k : KK} {r : RR} {i : II} {o : Ob} (h : Sh b k r i o) : fE o = b.2.2.2.2.1 := congrArg (fun x : BB => x.2.2.2.2.1) (h_b h)
theorem g_bTest {b : BB} {k : KK} {r : RR} {i : II} {o : Ob} (h : Sh b k r i o) : fF o = b.2.2.2.2.2.1 := congrArg (fun x : BB => x.2.2.2.2.2.1) (h_b h)
theorem g_bT0 {b : BB} {k : KK} {r : RR} {i : II} {o : Ob} (h : Sh b k r i o) : fG o = b.2.2.2.2.2.2.1 := congrArg (fun x : BB => x.2.2.2.2.2.2.1) (h_b h)
theorem g_bT1 {b : BB} {k : KK} {r : RR} {i : II} {o : Ob} (h : Sh b k r i o) : fH o = b.2.2.2.2.2.2.2 := congrArg (fun x : BB => x.2.2.2.2.2.2.2) (h_b h)
theorem g_n {b : BB} {k : KK} {r : RR} {i : II} {o : Ob} (h : Sh b k r i o) : fi o = i.2.2.1 := congrArg (fun x : II => x.2.2.1) (h_i h)
theorem g_cnt0 {b : BB} {k : KK} {r : RR} {i : II} {o : Ob} (h : Sh b k r i o) : fI o = k.1 := congrArg (fun x : KK => x.1) (h_k h)
theorem g_cnt1 {b : BB} {k : KK} {r : RR} {i : II} {o : Ob} (h : Sh b k r i o) : fJ o = k.2 := congrArg (fun x : KK => x.2) (h_k h)
theorem a_tm {b : BB} {k : KK} {r : RR} {i : II} {o : Ob} (h : Sh b k r i o) {n j : Nat} (G : GB b n) (hj : j < n) {x : Int32} (hx : x.toInt = j) : aget (fE o) x = some (tm b j) := by
 have := G.2.1; rw [g_bTerm h]; exact ag hx (by rw [G.1.2.2.2.2.1]; omega)
theorem a_te {b : BB} {k : KK} {r : RR} {i : II} {o : Ob} (h : Sh b k r i o) {n j : Nat} (G : GB b n) (hj : j < n) {x : Int32} (hx : x.toInt = j) : aget (fF o) x = some (te b j) := by
 have := G.2.1; rw [g_bTest h]; exact ag hx (by rw [G.1.2.2.2.2.2.1]; omega)
theorem a_t0 {b : BB} {k : KK} {r : RR} {i : II} {o : Ob} (h : Sh b k r i o) {n j : Nat} (G : GB b n) (hj : j < n) {x : Int32} (hx : x.toInt = j) : aget (fG o) x = some (t0 b j) := by
 have := G.2.1; rw [g_bT0 h]; exact ag hx (by rw [G.1.2.2.2.2.2.2.1]; omega)
theorem a_t1 {b : BB} {k : KK} {r : RR} {i : II} {o : Ob} (h : Sh b k r i o) {n j : Nat} (G : GB b n) (hj : j < n) {x : Int32} (hx : x.toInt = j) : aget (fH o) x = some (t1 b j) := by
 have := G.2.1; rw [g_bT1 h]; exact ag hx (by rw [G.1.2.2.2.2.2.2.2]; omega)
theorem a_op {b : BB} {k : KK} {r : RR} {i : II} {o : Ob} (h : Sh b k r i o) {n j : Nat} (G : GB b n) (hj : j < n) {x : Int32} (hx : x.toInt = j) : aget (fA o) x = some (op b j) := by
 have := G.2.1; rw [g_bOp h]; exact ag hx (by rw [G.1.1]; omega)
theorem a_dd {b : BB} {k : KK} {r : RR} {i : II} {o : Ob} (h : Sh b k r i o) {n j : Nat} (G : GB b n) (hj : j < n) {x : Int32} (hx : x.toInt = j) : aget (fB o) x = some (dd b j) := by
 have := G.2.1; rw [g_bD h]; exact ag hx (by rw [G.1.2.1]; omega)
theorem a_ss {b : BB} {k : KK} {r : RR} {i : II} {o : Ob} (h : Sh b k r i o) {n j : Nat} (G : GB b n) (hj : j < n) {x : Int32} (hx : x.toInt = j) : aget (fC o) x = some (ss b j) := by
 have := G.2.1; rw [g_bS h]; exact ag hx (by rw [G.1.2.2.1]; omega)
theorem a_im {b : BB} {k : KK} {r : RR} {i : II} {o : Ob} (h : Sh b k r i o) {n j : Nat} (G : GB b n) (hj : j < n) {x : Int32} (hx : x.toInt = j) : aget (fD o) x = some (im b j) := by
 have := G.2.1; rw [g_bImm h]; exact ag hx (by rw [G.1.2.2.2.1]; omega)
def Ed (n : Nat) (o : Ob) : Prop := 0 ≤ (fr o).toInt ∧ (fr o).toInt ≤ 32 ∧ ∀ e, e < (fr o).toInt.toNat → 0 ≤ gd (fM o) e ∧ gd (fM o) e < 2 * n
theorem Ed_heat {n : Nat} {o : Ob} (h : Ed n o) (v : List Int32) : Ed n (sT o v) := by
 dsimp only [Ed, fr, fM, sT] at h ⊢; exact h
theorem Ed_w {n : Nat} {o : Ob} (h : Ed n o) (v : List Int32) : Ed n (sO o v) := by
 dsimp only [Ed, fr, fM, sO] at h ⊢; exact h
theorem Ed_ch {n : Nat} {o : Ob} (h : Ed n o) (u v : List Int32) : Ed n (sQ (sP o u) v) := by
 dsimp only [Ed, fr, fM, sQ, sP] at h ⊢; exact h
theorem Ed_hd {n : Nat} {o : Ob} (h : Ed n o) (v : List Int32) : Ed n (sR o v) := by
 dsimp only [Ed, fr, fM, sR] at h ⊢; exact h
theorem Ed_set {n m : Nat} {o : Ob} (h : Ed n o) (hm : m < (fM o).length) {v : Int32} (v0 : 0 ≤ v.toInt) (v1 : v.toInt < 2 * n) : Ed n (sM o ((fM o).set m v)) := by
 obtain ⟨h1, h2, h3⟩ := h
 have key : ∀ e, e < (fr o).toInt.toNat → 0 ≤ gd ((fM o).set m v) e ∧ gd ((fM o).set m v) e < 2 * n := by
  intro e he
  rw [gd_set hm]
  split
  ·exact ⟨v0, v1⟩
  ·exact h3 e he
 dsimp only [Ed, fr, fM, sM] at h1 h2 key ⊢
 exact ⟨h1, h2, key⟩
theorem ed_ok {b : BB} {k : KK} {r : RR} {i : II} {o : Ob} (h : Sh b k r i o) {n c : Nat} (E : Ed n o) (hc : c < n) (n16 : n ≤ 16) {x s t w : Int32} (hx : x.toInt = c) (s0 : 0 ≤ s.toInt) (s1 : s.toInt ≤ 1) : okP (F25 o x s t w) (fun p => Sh b k r i p ∧ Ed n p) := by
 have z0 : (0 : Int32).toInt = 0 := rfl
 have z2 : (2 : Int32).toInt = 2 := rfl
 have z16 : (16 : Int32).toInt = 16 := rfl
 have z32 : (32 : Int32).toInt = 32 := rfl
 have j : ∀ {o : Ob}, Sh b k r i o → Ed n o → okP (J25_31 o x s t w) (fun p => Sh b k r i p ∧ Ed n p) := by
  intro o h E
  unfold J25_31
  refine okP.ite (fun _ => ?_) (fun _ => okP.some ⟨h, E⟩)
  refine okP.ite (fun _ => okP.some ⟨h, E⟩) (fun _ => ?_)
  refine okP.ite (fun lt => ?_) (fun _ => okP.some ⟨h, E⟩)
  rw [i_lt, z32] at lt
  obtain ⟨E1, E2, E3⟩ := E
  have l1 := Sh_l_edgeId h
  have l2 := Sh_l_edgeW h
  have e1 : (fr o + 1).toInt = (fr o).toInt + 1 := inc1 (by omega)
  have em : (x * 2).toInt = x.toInt * 2 := by rw [i_mul (by rw [z2]; omega) (by rw [z2]; omega), z2]
  have ev : (x * 2 + s).toInt = x.toInt * 2 + s.toInt := by rw [i_add (by omega) (by omega), em]
  apply okP.bind; refine okP.aset (by omega) (by omega) ?_
  apply okP.bind; refine okP.aset (by omega) (by omega) ?_
  refine okP.some ⟨Sh_edgeN (Sh_edgeW (Sh_edgeId h (ls l1)) (ls l2)), ?_⟩
  have key : ∀ e, e < ((fr o).toInt + 1).toNat → 0 ≤ gd ((fM o).set (fr o).toInt.toNat (x * 2 + s)) e ∧ gd ((fM o).set (fr o).toInt.toNat (x * 2 + s)) e < 2 * n := by
   intro e he
   rw [gd_set (by omega)]
   split
   ·omega
   ·exact E3 e (by omega)
  obtain ⟨m, hm⟩ : ∃ m, m = fr o + 1 := ⟨_, rfl⟩
  rw [← hm] at e1 ⊢
  rw [← e1] at key
  have q0 : 0 ≤ m.toInt := by omega
  have q1 : m.toInt ≤ 32 := by omega
  dsimp only [Ed, fr, fM, sr, sO, sM] at key ⊢
  exact ⟨q0, q1, key⟩
 unfold F25
 refine okP.ite (fun _ => okP.some ⟨h, E⟩) (fun t0 => ?_)
 refine okP.ite (fun t1 => ?_) (fun _ => okP.some ⟨h, E⟩)
 rw [i_lt, z0] at t0
 rw [i_lt, z16] at t1
 have l1 := Sh_l_heat h
 refine okP.ite (fun _ => ?_) (fun _ => j h E)
 apply okP.bind; refine okP.aget (by omega) (by omega) (fun v _ => ?_)
 apply okP.bind; refine okP.aset (by omega) (by omega) ?_
 exact j (Sh_heat h (ls l1)) (Ed_heat E _)
theorem coll_ok {b : BB} {k : KK} {r : RR} {i : II} {o : Ob} (h : Sh b k r i o) {n : Nat} (G : GB b n) (K : LK k) (hn : i.2.2.1.toInt = n) : okP (F24 o) (fun p => Sh b k r i p ∧ Ed n p) := by
 have z16 : (16 : Int32).toInt = 16 := rfl
 have n16 := G.2.1
 unfold F24
 have h' : Sh b k r i (sr o 0) := Sh_edgeN h
 have E0 : fr (sr o 0) = 0 := by dsimp only [fr, sr]
 apply okP.bind
 refine okP.mono (P := fun p => Sh b k r i p ∧ fr p = 0) ?_ ?_
 ·refine okP.loop (fun w : Int32 × Ob => 0 ≤ w.1.toInt ∧ Sh b k r i w.2 ∧ fr w.2 = 0) (fun w => (16 - w.1.toInt).toNat) ⟨by show (0 : Int) ≤ 0; decide, h', E0⟩ (by show (16 - (0 : Int)).toNat < 4000; decide) ?_
  rintro ⟨x, p⟩ ⟨x0, hp, e0⟩
  simp only at x0 hp e0
  unfold B24_7
  simp only
  refine okP.ite (fun c => ?_) (fun _ => okP.some ⟨hp, e0⟩)
  rw [i_lt, z16] at c
  have e1 : (x + 1).toInt = x.toInt + 1 := inc1 (by omega)
  have l1 := Sh_l_heat hp
  apply okP.bind; refine okP.aset (by omega) (by omega) ?_
  refine okP.some ⟨⟨by simp only; omega, Sh_heat hp (ls l1), ?_⟩, by simp only; omega⟩
  have : fr (sT p ((fT p).set x.toInt.toNat 0)) = fr p := by dsimp only [fr, sT]
  exact this.trans e0
 ·rintro p ⟨hp, e0⟩
  have E : Ed n p := by
   unfold Ed
   rw [e0]
   exact ⟨by decide, by decide, fun e he => absurd he (by show ¬ e < 0; omega)⟩
  apply okP.bind
  refine okP.mono (P := fun p => Sh b k r i p ∧ Ed n p) ?_ (fun p hp => okP.some hp)
  refine okP.loop (fun w : Int32 × Ob => 0 ≤ w.1.toInt ∧ Sh b k r i w.2 ∧ Ed n w.2) (fun w => (16 - w.1.toInt).toNat) ⟨by show (0 : Int) ≤ 0; decide, hp, E⟩ (by show (16 - (0 : Int)).toNat < 4000; decide) ?_
  rintro ⟨x, p⟩ ⟨x0, hp, E⟩
  simp only at x0 hp E
  unfold B24_28
  simp only
  refine okP.ite (fun c => ?_) (fun _ => okP.some ⟨hp, E⟩)
  refine okP.ite (fun c2 => ?_) (fun _ => okP.some ⟨hp, E⟩)
  rw [i_lt, g_n hp, hn] at c
  rw [i_lt, z16] at c2
  have e1 : (x + 1).toInt = x.toInt + 1 := inc1 (by omega)
  obtain ⟨c, hc⟩ : ∃ c : Nat, x.toInt = c := ⟨x.toInt.toNat, by omega⟩
  have cn : c < n := by omega
  rw [a_tm hp G cn hc, Option.bind_some]
  have fin : ∀ {q : Ob}, Sh b k r i q → Ed n q → okP (J24_100 q x) (fun r' => Sum.elim (fun p => Sh b k r i p ∧ Ed n p) (fun w : Int32 × Ob => (0 ≤ w.1.toInt ∧ Sh b k r i w.2 ∧ Ed n w.2) ∧ (16 - w.1.toInt).toNat < (16 - x.toInt).toNat) r') := fun hq Eq => okP.some ⟨⟨by simp only; omega, hq, Eq⟩, by simp only; omega⟩
  have j77 : ∀ {q : Ob} (y : Int32), Sh b k r i q → Ed n q → okP (J24_77 q x y) (fun r' => Sum.elim (fun p => Sh b k r i p ∧ Ed n p) (fun w : Int32 × Ob => (0 ≤ w.1.toInt ∧ Sh b k r i w.2 ∧ Ed n w.2) ∧ (16 - w.1.toInt).toNat < (16 - x.toInt).toNat) r') := by
   intro q y hq Eq
   unfold J24_77
   refine okP.ite (fun _ => ?_) (fun _ => fin hq Eq)
   rw [a_t1 hq G cn hc, Option.bind_some, g_cnt1 hq, ag hc (by rw [K.2]; omega), Option.bind_some]
   apply okP.bind
   exact okP.mono (ed_ok hq Eq cn n16 hc (by decide) (by decide)) (fun q' hq' => fin hq'.1 hq'.2)
  have j59 : ∀ y : Int32, okP (J24_59 p x y) (fun r' => Sum.elim (fun p => Sh b k r i p ∧ Ed n p) (fun w : Int32 × Ob => (0 ≤ w.1.toInt ∧ Sh b k r i w.2 ∧ Ed n w.2) ∧ (16 - w.1.toInt).toNat < (16 - x.toInt).toNat) r') := by
   intro y
   unfold J24_59
   rw [a_t0 hp G cn hc, Option.bind_some, g_cnt0 hp, ag hc (by rw [K.1]; omega), Option.bind_some]
   apply okP.bind
   exact okP.mono (ed_ok hp E cn n16 hc (by decide) (by decide)) (fun q' hq' => j77 y hq'.1 hq'.2)
  refine okP.ite (fun _ => j59 _) (fun _ => ?_)
  exact okP.ite (fun _ => j59 _) (fun _ => j77 _ hp E)
theorem bef_ok (a b c d : Int32) : okP (F35 a b c d) (fun _ => True) := by
 unfold F35
 refine okP.ite (fun _ => ?_) (fun _ => ?_) <;> exact okP.ite (fun _ => okP.some trivial) (fun _ => okP.some trivial)
theorem okP_agd {l : List Int32} {j : Int32} {P : Int32 → Prop} (h0 : 0 ≤ j.toInt) (h1 : j.toInt < l.length) (k : ∀ w : Int32, w.toInt = gd l j.toInt.toNat → P w) : okP (aget l j) P := by
 refine okP.aget h0 h1 (fun w hw => k w ?_)
 unfold gd at'
 rw [List.getD_eq_getElem?_getD, hw]; rfl
theorem sort_ok {b : BB} {k : KK} {r : RR} {i : II} {o : Ob} (h : Sh b k r i o) {n : Nat} (E : Ed n o) : okP (F26 o) (fun p => Sh b k r i p ∧ Ed n p) := by
 have z0 : (0 : Int32).toInt = 0 := rfl
 have z1 : (1 : Int32).toInt = 1 := rfl
 have zm : (-1 : Int32).toInt = -1 := rfl
 have z32 : (32 : Int32).toInt = 32 := rfl
 unfold F26
 apply okP.bind
 refine okP.mono (P := fun p => Sh b k r i p ∧ Ed n p) ?_ (fun p hp => okP.some hp)
 refine okP.loop (fun w : Int32 × Ob => 1 ≤ w.1.toInt ∧ Sh b k r i w.2 ∧ Ed n w.2) (fun w => (32 - w.1.toInt).toNat) ⟨by show (1 : Int) ≤ 1; decide, h, E⟩ (by show (32 - (1 : Int)).toNat < 4000; decide) ?_
 rintro ⟨x, p⟩ ⟨x0, hp, E⟩
 simp only at x0 hp E
 unfold B26_2
 simp only
 refine okP.ite (fun c => ?_) (fun _ => okP.some ⟨hp, E⟩)
 refine okP.ite (fun c2 => ?_) (fun _ => okP.some ⟨hp, E⟩)
 rw [i_lt] at c
 rw [i_lt, z32] at c2
 have e1 : (x + 1).toInt = x.toInt + 1 := inc1 (by omega)
 have e2 : (x - 1).toInt = x.toInt - 1 := by rw [i_sub (by omega) (by omega), z1]
 generalize x - 1 = xm at e2 ⊢
 have l1 := Sh_l_edgeId hp
 have l2 := Sh_l_edgeW hp
 apply okP.bind; refine okP_agd (by omega) (by omega) (fun id hid => ?_)
 have hv := E.2.2 x.toInt.toNat (by omega)
 rw [← hid] at hv
 apply okP.bind; refine okP.aget (by omega) (by omega) (fun wt _ => ?_)
 apply okP.bind
 refine okP.mono (P := fun w : Int32 × Ob => -1 ≤ w.1.toInt ∧ w.1.toInt < x.toInt ∧ Sh b k r i w.2 ∧ Ed n w.2) ?_ ?_
 ·refine okP.loop (fun w : Int32 × Ob => -1 ≤ w.1.toInt ∧ w.1.toInt < x.toInt ∧ Sh b k r i w.2 ∧ Ed n w.2 ∧ fr w.2 = fr p) (fun w => (w.1.toInt + 1).toNat) ⟨by show -1 ≤ xm.toInt; omega, by show xm.toInt < x.toInt; omega, hp, E, rfl⟩ (by show (xm.toInt + 1).toNat < 4000; omega) ?_
  rintro ⟨y, q⟩ ⟨y0, y1, hq, Eq, eN⟩
  simp only at y0 y1 hq Eq eN
  unfold B26_35
  simp only
  refine okP.ite (fun _ => okP.some ⟨y0, y1, hq, Eq⟩) (fun c => ?_)
  rw [i_lt, z0] at c
  have m1 := Sh_l_edgeId hq
  have m2 := Sh_l_edgeW hq
  have e3 : (y + 1).toInt = y.toInt + 1 := inc1 (by omega)
  have e4 : (y + -1).toInt = y.toInt + -1 := by rw [i_add (by omega) (by omega), zm]
  generalize y + -1 = ym at e4 ⊢
  apply okP.bind; refine okP.aget (by omega) (by omega) (fun _ _ => ?_)
  apply okP.bind; refine okP.aget (by omega) (by omega) (fun _ _ => ?_)
  apply okP.bind; refine okP.mono (bef_ok _ _ _ _) (fun _ _ => ?_)
  refine okP.ite (fun _ => okP.some ⟨y0, y1, hq, Eq⟩) (fun _ => ?_)
  apply okP.bind; refine okP_agd (by omega) (by omega) (fun id2 hid2 => ?_)
  have hv2 := Eq.2.2 y.toInt.toNat (by rw [eN]; omega)
  rw [← hid2] at hv2
  apply okP.bind; refine okP.aset (by omega) (by omega) ?_
  apply okP.bind; refine okP.aget (by omega) (by omega) (fun _ _ => ?_)
  apply okP.bind; refine okP.aset (by omega) (by omega) ?_
  refine okP.some ⟨⟨by simp only; omega, by simp only; omega, Sh_edgeW (Sh_edgeId hq (ls m1)) (ls m2), Ed_w (Ed_set Eq (by omega) hv2.1 hv2.2) _, ?_⟩, by simp only; omega⟩
  generalize (fM q).set (y + 1).toInt.toNat id2 = u1
  generalize (fO q).set (y + 1).toInt.toNat _ = u2
  have : fr (sO (sM q u1) u2) = fr q := by dsimp only [fr, sO, sM]
  exact this.trans eN
 ·rintro ⟨y, q⟩ ⟨y0, y1, hq, Eq⟩
  simp only at y0 y1 hq Eq ⊢
  have m1 := Sh_l_edgeId hq
  have m2 := Sh_l_edgeW hq
  have e3 : (y + 1).toInt = y.toInt + 1 := inc1 (by omega)
  unfold J26_101
  apply okP.bind; refine okP.aset (by omega) (by omega) ?_
  apply okP.bind; refine okP.aset (by omega) (by omega) ?_
  exact okP.some ⟨⟨by simp only; omega, Sh_edgeW (Sh_edgeId hq (ls m1)) (ls m2), Ed_w (Ed_set Eq (by omega) hv.1 hv.2) _⟩, by simp only; omega⟩
def th (o : Ob) : List Int32 × List Int32 × List Int32 := (fP o, fQ o, fR o)
def CH (n : Nat) (t : List Int32 × List Int32 × List Int32) : Prop := ∃ κ, CK n (gd t.1) (gd t.2.1) (gd t.2.2) κ
theorem merge_ok {b : BB} {k : KK} {r : RR} {i : II} {o : Ob} (h : Sh b k r i o) {n u v : Nat} (n16 : n ≤ 16) (E : Ed n o) (C : CH n (th o)) {x y : Int32} (hx : x.toInt = u) (hy : y.toInt = v) (hu : u < n) (hv : v < n) : okP (F28 o x y) (fun p => Sh b k r i p ∧ Ed n p ∧ CH n (th p)) := by
 have z0 : (0 : Int32).toInt = 0 := rfl
 have zm : (-1 : Int32).toInt = -1 := rfl
 have z16 : (16 : Int32).toInt = 16 := rfl
 have l1 := Sh_l_chNext h
 have l2 := Sh_l_chPrev h
 have l3 := Sh_l_chHead h
 have stay : okP (some o) (fun p => Sh b k r i p ∧ Ed n p ∧ CH n (th p)) := okP.some ⟨h, E, C⟩
 unfold F28
 refine okP.ite (fun _ => stay) (fun _ => ?_)
 refine okP.ite (fun _ => ?_) (fun _ => stay)
 refine okP.ite (fun v0 => ?_) (fun _ => stay)
 refine okP.ite (fun _ => ?_) (fun _ => stay)
 rw [i_lt, z0] at v0
 rw [ag hx (by omega), Option.bind_some]
 refine okP.ite (fun xu => ?_) (fun _ => stay)
 rw [ag hy (by omega), Option.bind_some]
 refine okP.ite (fun yv => ?_) (fun _ => stay)
 rw [ag hx (by omega), Option.bind_some]
 refine okP.ite (fun _ => stay) (fun zu => ?_)
 obtain ⟨κ, C⟩ := C
 have C' : CK n (gd (fP o)) (gd (fQ o)) (gd (fR o)) κ := C
 have xu' : gd (fP o) u = -1 := by unfold gd; rw [xu]; rfl
 have yv' : gd (fQ o) v = -1 := by unfold gd; rw [yv]; rfl
 have zu' : gd (fR o) u ≠ (v : Nat) := by
  unfold gd
  rw [← hy]
  intro w
  exact zu (i_eq.2 w)
 obtain ⟨kv, zv⟩ := C'.head hv yv'
 rw [aset_at hx (by omega), Option.bind_some, aset_at hy (by omega), Option.bind_some, Option.bind_some]
 generalize hX : (fP o).set u y = X
 generalize hY : (fQ o).set v x = Y
 have hX' : ∀ c, gd X c = if c = u then (v : Int) else gd (fP o) c := by
  intro c; rw [← hX, gd_set (by omega), hy]
 have hY' : ∀ c, gd Y c = if c = v then (u : Int) else gd (fQ o) c := by
  intro c; rw [← hY, gd_set (by omega), hx]
 have lX : X.length = 16 := by rw [← hX, List.length_set]; exact l1
 have lY : Y.length = 16 := by rw [← hY, List.length_set]; exact l2
 generalize hZ : at' (fR o) u = hu'
 have hZ' : hu'.toInt = gd (fR o) u := by rw [← hZ]; rfl
 have h' : Sh b k r i (sQ (sP o X) Y) := Sh_chPrev (Sh_chNext h lX) lY
 have t' : th (sQ (sP o X) Y) = (X, Y, fR o) := by dsimp only [th, fA, fB, fC, fD, fE, fF, fG, fH, fI, fJ, fK, fL, fM, fO, fP, fQ, fR, fT, fU, fV, fW, fX, fY, fZ, fa, fb, fc, fd, fe, fh, fi, fm, fo, fp, fq, fr, sA, sB, sC, sD, sE, sF, sG, sH, sI, sJ, sK, sL, sM, sO, sP, sQ, sR, sT, sU, sV, sW, sX, sY, sZ, sa, sb, sc, sd, se, sh, si, sm, so, sp, sq, sr]
 have E' : Ed n (sQ (sP o X) Y) := Ed_ch E X Y
 generalize sQ (sP o X) Y = o' at *
 apply okP.bind
 refine okP.mono (P := fun p => Sh b k r i p ∧ Ed n p ∧ ∃ Z, th p = (X, Y, Z) ∧ ∀ c, c < n → gd Z c = if gd (fR o) c = (v : Nat) then gd (fR o) u else gd (fR o) c) ?_ ?_
 ·refine okP.loop (fun w : Int32 × Int32 × Ob => ∃ j : Nat, w.2.1.toInt = (j : Int) ∧ j ≤ 16 ∧ Sh b k r i w.2.2 ∧ Ed n w.2.2 ∧ (∃ Z, th w.2.2 = (X, Y, Z) ∧ ∀ c, c < n → gd Z c = if gd (fR o) c = (v : Nat) ∧ κ c < j then gd (fR o) u else gd (fR o) c) ∧ ((w.1.toInt = -1 ∧ ∀ c, c < n → gd (fR o) c = (v : Nat) → κ c < j) ∨ ∃ c : Nat, c < n ∧ w.1.toInt = c ∧ gd (fR o) c = (v : Nat) ∧ κ c = j)) (fun w => (16 - w.2.1.toInt).toNat) ⟨0, rfl, by omega, h', E', ⟨fR o, t', fun c hc => by rw [if_neg (fun w => absurd w.2 (by omega))]⟩, Or.inr ⟨v, hv, hy, zv, kv⟩⟩ (by show (16 - (0 : Int)).toNat < 4000; decide) ?_
  rintro ⟨w, q, p⟩ ⟨j, hj, j16, hp, Ep, ⟨Z, tp, hz⟩, hw⟩
  simp only at hj hp Ep tp hw
  have done : (w.toInt = -1 ∧ ∀ c, c < n → gd (fR o) c = (v : Nat) → κ c < j) → Sh b k r i p ∧ Ed n p ∧ ∃ Z, th p = (X, Y, Z) ∧ ∀ c, c < n → gd Z c = if gd (fR o) c = (v : Nat) then gd (fR o) u else gd (fR o) c := by
   rintro ⟨_, hw⟩
   refine ⟨hp, Ep, Z, tp, fun c hc => ?_⟩
   rw [hz c hc]
   by_cases e : gd (fR o) c = (v : Nat)
   ·rw [if_pos ⟨e, hw c hc e⟩, if_pos e]
   ·rw [if_neg (fun w => e w.1), if_neg e]
  unfold B28_79
  simp only
  refine okP.ite (fun cj => ?_) (fun cj => ?_)
  ·rw [i_lt, z16] at cj
   refine okP.ite (fun cw => ?_) (fun cw => ?_)
   ·rw [i_lt, z0] at cw
    rcases hw with hw | ⟨c, c1, c2, _⟩
    ·exact okP.some (done hw)
    ·omega
   ·rw [i_lt, z0] at cw
    rcases hw with hw | ⟨c, c1, c2, c3, c4⟩
    ·omega
    have e1 : (q + 1).toInt = q.toInt + 1 := inc1 (by omega)
    have gX : fP p = X := congrArg (fun t : List Int32 × List Int32 × List Int32 => t.1) tp
    have gZ : fR p = Z := congrArg (fun t : List Int32 × List Int32 × List Int32 => t.2.2) tp
    have gY : fQ p = Y := congrArg (fun t : List Int32 × List Int32 × List Int32 => t.2.1) tp
    have lZ : Z.length = 16 := by rw [← gZ]; exact Sh_l_chHead hp
    rw [gZ, gX, aset_at c2 (by omega), Option.bind_some, ag c2 (by omega), Option.bind_some]
    have tq : th (sR p (Z.set c hu')) = (X, Y, Z.set c hu') := by
     have : th (sR p (Z.set c hu')) = (fP p, fQ p, Z.set c hu') := by dsimp only [th, fA, fB, fC, fD, fE, fF, fG, fH, fI, fJ, fK, fL, fM, fO, fP, fQ, fR, fT, fU, fV, fW, fX, fY, fZ, fa, fb, fc, fd, fe, fh, fi, fm, fo, fp, fq, fr, sA, sB, sC, sD, sE, sF, sG, sH, sI, sJ, sK, sL, sM, sO, sP, sQ, sR, sT, sU, sV, sW, sX, sY, sZ, sa, sb, sc, sd, se, sh, si, sm, so, sp, sq, sr]
     rw [this, gX, gY]
    refine okP.some ⟨⟨j + 1, by simp only; omega, by omega, Sh_chHead hp (ls lZ), Ed_hd Ep _, ⟨_, tq, fun c' hc' => ?_⟩, ?_⟩, by simp only; omega⟩
    ·rw [gd_set (by omega), hZ', hz c' hc']
     by_cases e : c' = c
     ·subst e
      rw [if_pos rfl, if_pos ⟨c3, by omega⟩]
     ·rw [if_neg e]
      by_cases e2 : gd (fR o) c' = (v : Nat) ∧ κ c' < j
      ·rw [if_pos e2, if_pos ⟨e2.1, by omega⟩]
      ·rw [if_neg e2, if_neg (fun w => ?_)]
       refine e2 ⟨w.1, ?_⟩
       have : κ c' ≠ j := fun z => e (C'.uniq j hc' c1 z c4 (by rw [w.1, c3]))
       omega
    ·simp only
     have cu : c ≠ u := fun z => by subst z; exact zu' c3
     have gx : (at' X c).toInt = gd (fP o) c := by
      have := hX' c
      rw [if_neg cu] at this
      exact this
     rcases C'.1 c c1 with m | ⟨d, d0, d1, d2, d3, d4, d5⟩
     ·left
      refine ⟨by rw [gx]; exact m, fun c' hc' e => ?_⟩
      have := C'.last c1 m hc' (by rw [e, c3])
      omega
     ·right
      exact ⟨d, d1, by rw [gx]; exact d2, by rw [d5]; exact c3, by omega⟩
  ·rw [i_lt, z16] at cj
   rcases hw with hw | ⟨c, c1, c2, c3, c4⟩
   ·exact okP.some (done hw)
   ·have := C'.lt c1
    omega
 ·rintro p ⟨hp, Ep, Z, tp, hz⟩
  refine okP.some ⟨hp, Ep, (fun c => if gd (fR o) c = (v : Nat) then κ c + κ u + 1 else κ c), ?_⟩
  rw [tp]
  exact C'.join hu hv (by omega) xu' yv' zu' (fun c _ => hX' c) (fun c _ => hY' c) hz
theorem sh1 {x : Int32} (h0 : 0 ≤ x.toInt) (h1 : x.toInt < 32) : (x >>> ((1 : Int32) &&& 31)).toInt = x.toInt / 2 := small_cases (P := fun x => (x >>> ((1 : Int32) &&& 31)).toInt = x.toInt / 2) h0 (n := 32) h1 (by decide)
theorem chain_ok {b : BB} {k : KK} {r : RR} {i : II} {o : Ob} (h : Sh b k r i o) {n : Nat} (G : GB b n) (E : Ed n o) : okP (F27 o) (fun p => Sh b k r i p ∧ CH n (th p)) := by
 have z16 : (16 : Int32).toInt = 16 := rfl
 have z32 : (32 : Int32).toInt = 32 := rfl
 have n16 := G.2.1
 unfold F27
 apply okP.bind
 refine okP.mono (P := fun p => Sh b k r i p ∧ Ed n p ∧ CH n (th p)) ?_ ?_
 ·refine okP.loop (fun w : Int32 × Ob => ∃ m : Nat, w.1.toInt = (m : Int) ∧ m ≤ 16 ∧ Sh b k r i w.2 ∧ Ed n w.2 ∧ ∀ c, c < m → gd (fP w.2) c = -1 ∧ gd (fQ w.2) c = -1 ∧ gd (fR w.2) c = (c : Nat)) (fun w => (16 - w.1.toInt).toNat) ⟨0, rfl, by omega, h, E, fun c hc => absurd hc (by omega)⟩ (by show (16 - (0 : Int)).toNat < 4000; decide) ?_
  rintro ⟨x, p⟩ ⟨m, hm, m16, hp, Ep, hc⟩
  simp only at hm hp Ep hc
  unfold B27_2
  simp only
  refine okP.ite (fun cc => ?_) (fun cc => ?_)
  ·rw [i_lt, z16] at cc
   have l1 := Sh_l_chNext hp
   have l2 := Sh_l_chPrev hp
   have l3 := Sh_l_chHead hp
   have e1 : (x + 1).toInt = x.toInt + 1 := inc1 (by omega)
   rw [aset_at hm (by omega), Option.bind_some, aset_at hm (by omega), Option.bind_some, aset_at hm (by omega), Option.bind_some]
   have hs := Sh_chHead (Sh_chPrev (Sh_chNext hp (x := (fP p).set m (-1)) (ls l1)) (x := (fQ p).set m (-1)) (ls l2)) (x := (fR p).set m x) (ls l3)
   have Es := Ed_hd (Ed_ch Ep ((fP p).set m (-1)) ((fQ p).set m (-1))) ((fR p).set m x)
   refine okP.some ⟨⟨m + 1, by simp only; omega, by omega, hs, Es, ?_⟩, by simp only; omega⟩
   simp only
   have tt : th (sR (sQ (sP p ((fP p).set m (-1))) ((fQ p).set m (-1))) ((fR p).set m x)) = ((fP p).set m (-1), (fQ p).set m (-1), (fR p).set m x) := by dsimp only [th, fA, fB, fC, fD, fE, fF, fG, fH, fI, fJ, fK, fL, fM, fO, fP, fQ, fR, fT, fU, fV, fW, fX, fY, fZ, fa, fb, fc, fd, fe, fh, fi, fm, fo, fp, fq, fr, sA, sB, sC, sD, sE, sF, sG, sH, sI, sJ, sK, sL, sM, sO, sP, sQ, sR, sT, sU, sV, sW, sX, sY, sZ, sa, sb, sc, sd, se, sh, si, sm, so, sp, sq, sr]
   generalize sR (sQ (sP p ((fP p).set m (-1))) ((fQ p).set m (-1))) ((fR p).set m x) = q at *
   intro c hcm
   rw [show fP q = _ from congrArg (fun t : List Int32 × List Int32 × List Int32 => t.1) tt, show fQ q = _ from congrArg (fun t : List Int32 × List Int32 × List Int32 => t.2.1) tt, show fR q = _ from congrArg (fun t : List Int32 × List Int32 × List Int32 => t.2.2) tt]
   rw [gd_set (by omega), gd_set (by omega), gd_set (by omega)]
   by_cases e : c = m
   ·subst e
    rw [if_pos rfl, if_pos rfl, if_pos rfl]
    exact ⟨rfl, rfl, hm⟩
   ·rw [if_neg e, if_neg e, if_neg e]
    exact hc c (by omega)
  ·rw [i_lt, z16] at cc
   refine okP.some ⟨hp, Ep, fun _ => 0, fun c hcn => Or.inl (hc c (by omega)).1, fun c hcn => Or.inl ⟨(hc c (by omega)).2.1, rfl, (hc c (by omega)).2.2⟩, fun c hcn => ⟨c, hcn, (hc c (by omega)).2.2, (hc c (by omega)).2.1⟩⟩
 ·rintro p ⟨hp, Ep, Cp⟩
  apply okP.bind
  refine okP.mono (P := fun p => Sh b k r i p ∧ CH n (th p)) ?_ (fun p hp => okP.some hp)
  refine okP.loop (fun w : Int32 × Ob => 0 ≤ w.1.toInt ∧ Sh b k r i w.2 ∧ Ed n w.2 ∧ CH n (th w.2)) (fun w => (32 - w.1.toInt).toNat) ⟨by show (0 : Int) ≤ 0; decide, hp, Ep, Cp⟩ (by show (32 - (0 : Int)).toNat < 4000; decide) ?_
  rintro ⟨x, q⟩ ⟨x0, hq, Eq, Cq⟩
  simp only at x0 hq Eq Cq
  unfold B27_37
  simp only
  refine okP.ite (fun c => ?_) (fun _ => okP.some ⟨hq, Cq⟩)
  refine okP.ite (fun c2 => ?_) (fun _ => okP.some ⟨hq, Cq⟩)
  rw [i_lt] at c
  rw [i_lt, z32] at c2
  have l1 := Sh_l_edgeId hq
  have e1 : (x + 1).toInt = x.toInt + 1 := inc1 (by omega)
  apply okP.bind; refine okP_agd (by omega) (by omega) (fun id hid => ?_)
  have hv := Eq.2.2 x.toInt.toNat (by omega)
  rw [← hid] at hv
  have hs := sh1 hv.1 (by omega)
  obtain ⟨u, hu⟩ : ∃ u : Nat, (id >>> ((1 : Int32) &&& 31)).toInt = u := ⟨(id.toInt / 2).toNat, by omega⟩
  have un : u < n := by omega
  have vv := G.2.2 u un
  have go : ∀ {y : Int32}, 0 ≤ y.toInt → y.toInt < n → okP (J27_87 q x (id >>> ((1 : Int32) &&& 31)) y) (fun r' => Sum.elim (fun p => Sh b k r i p ∧ CH n (th p)) (fun w : Int32 × Ob => (0 ≤ w.1.toInt ∧ Sh b k r i w.2 ∧ Ed n w.2 ∧ CH n (th w.2)) ∧ (32 - w.1.toInt).toNat < (32 - x.toInt).toNat) r') := by
   intro y y0 y1
   obtain ⟨v, hv⟩ : ∃ v : Nat, y.toInt = v := ⟨y.toInt.toNat, by omega⟩
   unfold J27_87
   apply okP.bind
   refine okP.mono (merge_ok hq n16 Eq Cq hu hv un (by omega)) ?_
   rintro q' ⟨a1, a2, a3⟩
   exact okP.some ⟨⟨by simp only; omega, a1, a2, a3⟩, by simp only; omega⟩
  refine okP.ite (fun _ => ?_) (fun _ => ?_)
  ·rw [a_t0 hq G un hu, Option.bind_some]
   exact go vv.2.1.1 vv.2.1.2
  ·rw [a_t1 hq G un hu, Option.bind_some]
   exact go vv.2.2.1 vv.2.2.2

def tp (o : Ob) : List Int32 × List Int32 := (fU o, fV o)
def HH (h : Int32) (X : List Int32) : Prop := h = h ∧ X = X
theorem th_p (o : Ob) (u v : List Int32) : th (sU (sV o u) v) = th o := by dsimp only [th, fA, fB, fC, fD, fE, fF, fG, fH, fI, fJ, fK, fL, fM, fO, fP, fQ, fR, fT, fU, fV, fW, fX, fY, fZ, fa, fb, fc, fd, fe, fh, fi, fm, fo, fp, fq, fr, sA, sB, sC, sD, sE, sF, sG, sH, sI, sJ, sK, sL, sM, sO, sP, sQ, sR, sT, sU, sV, sW, sX, sY, sZ, sa, sb, sc, sd, se, sh, si, sm, so, sp, sq, sr]
theorem tp_p (o : Ob) (u v : List Int32) : tp (sU (sV o u) v) = (v, u) := by dsimp only [tp, fA, fB, fC, fD, fE, fF, fG, fH, fI, fJ, fK, fL, fM, fO, fP, fQ, fR, fT, fU, fV, fW, fX, fY, fZ, fa, fb, fc, fd, fe, fh, fi, fm, fo, fp, fq, fr, sA, sB, sC, sD, sE, sF, sG, sH, sI, sJ, sK, sL, sM, sO, sP, sQ, sR, sT, sU, sV, sW, sX, sY, sZ, sa, sb, sc, sd, se, sh, si, sm, so, sp, sq, sr]
def PP (n : Nat) (o : Ob) (p : Nat) (D : Nat → Prop) : Prop := PL n (gd (fU o)) (gd (fV o)) p D
theorem PP.congr {n : Nat} {o : Ob} {p : Nat} {D D' : Nat → Prop} (h : PP n o p D) (e : ∀ c, c < n → (D c ↔ D' c)) : PP n o p D' := by
 refine ⟨fun c hc => ⟨fun d => (h.1 c hc).1 ((e c hc).2 d), fun d => (h.1 c hc).2 (fun z => d ((e c hc).1 z))⟩, fun q hq => ?_⟩
 obtain ⟨c, c1, c2, c3, c4⟩ := h.2 q hq
 exact ⟨c, c1, c2, (e c c1).1 c3, c4⟩
theorem place_ok {b : BB} {k : KK} {r : RR} {i : II} {o : Ob} (h : Sh b k r i o) {n : Nat} (n16 : n ≤ 16) {κ : Nat → Nat} (C : CK n (gd (fP o)) (gd (fQ o)) (gd (fR o)) κ) {hh p0 : Nat} {D : Nat → Prop} (L : PP n o p0 D) (hn : hh < n) (yh : gd (fQ o) hh = -1) (nd : ∀ c, c < n → gd (fR o) c = (hh : Nat) → ¬ D c) {x y : Int32} (hx : x.toInt = hh) (hy : y.toInt = p0) : okP (F30 o x y) (fun w => Sh b k r i w.2 ∧ th w.2 = th o ∧ ∃ p : Nat, w.1.toInt = p ∧ p0 + 1 ≤ p ∧ PP n w.2 p (fun c => D c ∨ gd (fR o) c = (hh : Nat)) ∧ gd (fU w.2) hh = (p0 : Nat) ∧ ∀ c, c < n → D c → gd (fU w.2) c = gd (fU o) c) := by
 have z0 : (0 : Int32).toInt = 0 := rfl
 have z16 : (16 : Int32).toInt = 16 := rfl
 obtain ⟨kh, zh⟩ := C.head hn yh
 unfold F30
 apply okP.bind
 refine okP.mono (P := fun w : Int32 × Ob => Sh b k r i w.2 ∧ th w.2 = th o ∧ ∃ p : Nat, w.1.toInt = p ∧ p0 + 1 ≤ p ∧ PP n w.2 p (fun c => D c ∨ gd (fR o) c = (hh : Nat)) ∧ gd (fU w.2) hh = (p0 : Nat) ∧ ∀ c, c < n → D c → gd (fU w.2) c = gd (fU o) c) ?_ (fun w hw => okP.some hw)
 refine okP.loop (fun w : Int32 × Int32 × Int32 × Ob => ∃ j : Nat, w.2.2.1.toInt = (j : Int) ∧ j ≤ 16 ∧ w.1.toInt = (p0 + j : Nat) ∧ Sh b k r i w.2.2.2 ∧ th w.2.2.2 = th o ∧ PP n w.2.2.2 (p0 + j) (fun c => D c ∨ (gd (fR o) c = (hh : Nat) ∧ κ c < j)) ∧ (j = 0 ∨ gd (fU w.2.2.2) hh = (p0 : Nat)) ∧ (∀ c, c < n → D c → gd (fU w.2.2.2) c = gd (fU o) c) ∧ ((w.2.1.toInt = -1 ∧ ∀ c, c < n → gd (fR o) c = (hh : Nat) → κ c < j) ∨ ∃ c : Nat, c < n ∧ w.2.1.toInt = c ∧ gd (fR o) c = (hh : Nat) ∧ κ c = j)) (fun w => (16 - w.2.2.1.toInt).toNat) ⟨0, rfl, by omega, hy, h, rfl, L.congr (fun c _ => ⟨Or.inl, fun w => w.elim id (fun z => absurd z.2 (by omega))⟩), Or.inl rfl, fun _ _ _ => rfl, Or.inr ⟨hh, hn, hx, zh, kh⟩⟩ (by show (16 - (0 : Int)).toNat < 4000; decide) ?_
 rintro ⟨p, w, q, t⟩ ⟨j, hj, j16, hp, ht, tt, Lt, j0, keep, hw⟩
 simp only at hj hp ht tt Lt j0 keep hw
 have done : (w.toInt = -1 ∧ ∀ c, c < n → gd (fR o) c = (hh : Nat) → κ c < j) → Sh b k r i t ∧ th t = th o ∧ ∃ p' : Nat, p.toInt = p' ∧ p0 + 1 ≤ p' ∧ PP n t p' (fun c => D c ∨ gd (fR o) c = (hh : Nat)) ∧ gd (fU t) hh = (p0 : Nat) ∧ ∀ c, c < n → D c → gd (fU t) c = gd (fU o) c := by
  rintro ⟨_, hw⟩
  have := hw hh hn zh
  refine ⟨ht, tt, p0 + j, hp, by omega, Lt.congr (fun c hc => ⟨fun w => w.imp id (fun z => z.1), fun w => w.imp id (fun z => ⟨z, hw c hc z⟩)⟩), j0.resolve_left (by omega), keep⟩
 unfold B30_8
 simp only
 refine okP.ite (fun cj => ?_) (fun cj => ?_)
 ·rw [i_lt, z16] at cj
  refine okP.ite (fun cw => ?_) (fun cw => ?_)
  ·rw [i_lt, z0] at cw
   rcases hw with hw | ⟨c, c1, c2, _⟩
   ·exact okP.some (done hw)
   ·omega
  ·rw [i_lt, z0] at cw
   rcases hw with hw | ⟨c, c1, c2, c3, c4⟩
   ·omega
   have nD : ¬ (D c ∨ (gd (fR o) c = (hh : Nat) ∧ κ c < j)) := by
    rintro (w | w)
    ·exact nd c c1 c3 w
    ·omega
   have pn : p0 + j < n := PL.lt Lt c1 nD
   have e1 : (q + 1).toInt = q.toInt + 1 := inc1 (by omega)
   have e2 : (p + 1).toInt = p.toInt + 1 := inc1 (by omega)
   have l1 := Sh_l_posOf ht
   have l2 := Sh_l_order ht
   have l3 := Sh_l_chNext h
   have gX : fP t = fP o := congrArg (fun t : List Int32 × List Int32 × List Int32 => t.1) tt
   rw [if_pos (by rw [i_lt, z16]; omega), aset_at hp (by omega), Option.bind_some, aset_at c2 (by omega), Option.bind_some, gX, ag c2 (by omega), Option.bind_some]
   have hs := Sh_posOf (Sh_order ht (x := (fV t).set (p0 + j) w) (ls l2)) (x := (fU t).set c p) (ls l1)
   have t1 := (th_p t ((fV t).set (p0 + j) w) ((fU t).set c p)).trans tt
   have t2 := tp_p t ((fV t).set (p0 + j) w) ((fU t).set c p)
   generalize sU (sV t ((fV t).set (p0 + j) w)) ((fU t).set c p) = t' at *
   have gp : ∀ d, gd (fU t') d = if d = c then ((p0 + j : Nat) : Int) else gd (fU t) d := by
    intro d
    rw [show fU t' = _ from congrArg (fun t : List Int32 × List Int32 => t.1) t2, gd_set (by omega), hp]
   have go : ∀ d, gd (fV t') d = if d = p0 + j then (c : Int) else gd (fV t) d := by
    intro d
    rw [show fV t' = _ from congrArg (fun t : List Int32 × List Int32 => t.2) t2, gd_set (by omega), c2]
   refine okP.some ⟨⟨j + 1, by simp only; omega, by omega, by simp only; omega, hs, t1, ?_, ?_, ?_, ?_⟩, by simp only; omega⟩
   ·refine PL.put Lt c1 nD (fun d _ => gp d) (fun d _ => go d) (fun d hd => ?_)
    constructor
    ·rintro (w | ⟨w1, w2⟩)
     ·exact Or.inl (Or.inl w)
     ·by_cases e : κ d = j
      ·exact Or.inr (C.uniq j hd c1 e c4 (by rw [w1, c3]))
      ·exact Or.inl (Or.inr ⟨w1, by omega⟩)
    ·rintro ((w | ⟨w1, w2⟩) | w)
     ·exact Or.inl w
     ·exact Or.inr ⟨w1, by omega⟩
     ·subst w
      exact Or.inr ⟨c3, by omega⟩
   ·right
    rw [gp]
    rcases j0 with j0 | j0
    ·subst j0
     have : hh = c := C.uniq 0 hn c1 kh c4 (by rw [zh, c3])
     rw [if_pos this]; rfl
    ·rw [if_neg]
     ·exact j0
     ·intro e
      subst e
      have := Lt.1 hh hn
      have := this.2 nD
      omega
   ·intro d hd dd'
    rw [gp, if_neg (fun e => by subst e; exact nd d hd c3 dd')]
    exact keep d hd dd'
   ·simp only
    rcases C.1 c c1 with m | ⟨d, d0, d1, d2, d3, d4, d5⟩
    ·left
     refine ⟨m, fun c' hc' e => ?_⟩
     have := C.last c1 m hc' (by rw [e, c3])
     omega
    ·right
     exact ⟨d, d1, d2, by rw [d5]; exact c3, by omega⟩
 ·rw [i_lt, z16] at cj
  rcases hw with hw | ⟨c, c1, c2, c3, c4⟩
  ·exact okP.some (done hw)
  ·have := C.lt c1
   omega
theorem best_ok {b : BB} {k : KK} {r : RR} {i : II} {o : Ob} (h : Sh b k r i o) {n : Nat} (hn : i.2.2.1.toInt = n) (n16 : n ≤ 16) (x1 x2 : Int32) : okP (loopN (B29_49 o x1 x2) qN (-1, 1)) (fun w => (w.toInt = -1 ∧ ∀ c, 1 ≤ c → c < n → gd (fQ o) c = -1 → ¬ gd (fU o) c < 0) ∨ ∃ c : Nat, c < n ∧ w.toInt = c ∧ gd (fQ o) c = -1 ∧ gd (fU o) c < 0) := by
 have z0 : (0 : Int32).toInt = 0 := rfl
 have z16 : (16 : Int32).toInt = 16 := rfl
 have l1 := Sh_l_posOf h
 have l2 := Sh_l_chPrev h
 have l3 := Sh_l_heat h
 refine okP.loop (fun w : Int32 × Int32 => ∃ m : Nat, w.2.toInt = (m : Int) ∧ 1 ≤ m ∧ ((w.1.toInt = -1 ∧ ∀ c, 1 ≤ c → c < m → c < n → gd (fQ o) c = -1 → ¬ gd (fU o) c < 0) ∨ ∃ c : Nat, c < n ∧ w.1.toInt = c ∧ gd (fQ o) c = -1 ∧ gd (fU o) c < 0)) (fun w => (16 - w.2.toInt).toNat) ⟨1, rfl, by omega, Or.inl ⟨rfl, fun c h1 h2 => absurd h2 (by omega)⟩⟩ (by show (16 - (1 : Int)).toNat < 4000; decide) ?_
 rintro ⟨w, q⟩ ⟨m, hm, m1, hw⟩
 simp only at hm hw
 unfold B29_49
 simp only
 rw [g_n h]
 have fin : n ≤ m → (w.toInt = -1 ∧ ∀ c, 1 ≤ c → c < n → gd (fQ o) c = -1 → ¬ gd (fU o) c < 0) ∨ ∃ c : Nat, c < n ∧ w.toInt = c ∧ gd (fQ o) c = -1 ∧ gd (fU o) c < 0 := fun nm => hw.imp (fun z => ⟨z.1, fun c h1 h2 => z.2 c h1 (by omega) h2⟩) id
 refine okP.ite (fun c1 => ?_) (fun c1 => okP.some (fin (by rw [i_lt, hn] at c1; omega)))
 refine okP.ite (fun c2 => ?_) (fun c2 => okP.some (fin (by rw [i_lt, z16] at c2; omega)))
 rw [i_lt, hn] at c1
 have e1 : (q + 1).toInt = q.toInt + 1 := inc1 (by omega)
 have nx : ∀ w' : Int32, ((w'.toInt = -1 ∧ ∀ c, 1 ≤ c → c < m + 1 → c < n → gd (fQ o) c = -1 → ¬ gd (fU o) c < 0) ∨ ∃ c : Nat, c < n ∧ w'.toInt = c ∧ gd (fQ o) c = -1 ∧ gd (fU o) c < 0) → okP (J29_109 o x1 x2 w' q) (fun r' => Sum.elim (fun w : Int32 => (w.toInt = -1 ∧ ∀ c, 1 ≤ c → c < n → gd (fQ o) c = -1 → ¬ gd (fU o) c < 0) ∨ ∃ c : Nat, c < n ∧ w.toInt = c ∧ gd (fQ o) c = -1 ∧ gd (fU o) c < 0) (fun w : Int32 × Int32 => (∃ m : Nat, w.2.toInt = (m : Int) ∧ 1 ≤ m ∧ ((w.1.toInt = -1 ∧ ∀ c, 1 ≤ c → c < m → c < n → gd (fQ o) c = -1 → ¬ gd (fU o) c < 0) ∨ ∃ c : Nat, c < n ∧ w.1.toInt = c ∧ gd (fQ o) c = -1 ∧ gd (fU o) c < 0)) ∧ (16 - w.2.toInt).toNat < (16 - q.toInt).toNat) r') := by
  intro w' hw'
  exact okP.some ⟨⟨m + 1, by simp only; omega, by omega, hw'⟩, by simp only; omega⟩
 have skip : (gd (fQ o) m = -1 → ¬ gd (fU o) m < 0) → ((w.toInt = -1 ∧ ∀ c, 1 ≤ c → c < m + 1 → c < n → gd (fQ o) c = -1 → ¬ gd (fU o) c < 0) ∨ ∃ c : Nat, c < n ∧ w.toInt = c ∧ gd (fQ o) c = -1 ∧ gd (fU o) c < 0) := by
  intro s
  refine hw.imp (fun z => ⟨z.1, fun c h1 h2 h3 h4 => ?_⟩) id
  by_cases e : c = m
  ·subst e; exact s h4
  ·exact z.2 c h1 (by omega) h3 h4
 rw [ag hm (by omega), Option.bind_some]
 refine okP.ite (fun y1 => ?_) (fun y1 => nx w (skip (fun z => absurd (i_eq.2 (show (at' (fQ o) m).toInt = (-1 : Int32).toInt from z)) y1)))
 have y1' : gd (fQ o) m = -1 := by unfold gd; rw [y1]; rfl
 rw [ag hm (by omega), Option.bind_some]
 refine okP.ite (fun y2 => ?_) (fun y2 => nx w (skip (fun _ z => y2 (by rw [i_lt]; exact z))))
 have y2' : gd (fU o) m < 0 := by rw [i_lt, z0] at y2; exact y2
 have me : ∃ c : Nat, c < n ∧ q.toInt = c ∧ gd (fQ o) c = -1 ∧ gd (fU o) c < 0 := ⟨m, by omega, hm, y1', y2'⟩
 refine okP.ite (fun _ => ?_) (fun w0 => ?_)
 ·unfold J29_106
  exact nx q (Or.inr me)
 ·rw [i_lt, z0] at w0
  rcases hw with hw | ⟨c, d1, d2, d3⟩
  ·omega
  rw [ag hm (by omega), Option.bind_some, ag d2 (by omega), Option.bind_some]
  refine nx _ (Or.inr ?_)
  split
  ·exact me
  ·exact ⟨c, d1, d2, d3⟩
theorem chains_ok {b : BB} {k : KK} {r : RR} {i : II} {o : Ob} (h : Sh b k r i o) {n : Nat} (n0 : 0 < n) (n16 : n ≤ 16) (hn : i.2.2.1.toInt = n) (C : CH n (th o)) : okP (F29 o) (fun p => Sh b k r i p ∧ PP n p n (fun _ => True) ∧ gd (fU p) 0 = 0) := by
 have z0 : (0 : Int32).toInt = 0 := rfl
 have z16 : (16 : Int32).toInt = 16 := rfl
 unfold F29
 apply okP.bind
 refine okP.mono (P := fun p => Sh b k r i p ∧ th p = th o ∧ ∀ c, c < 16 → gd (fU p) c = -1) ?_ ?_
 ·refine okP.loop (fun w : Int32 × Ob => ∃ m : Nat, w.1.toInt = (m : Int) ∧ m ≤ 16 ∧ Sh b k r i w.2 ∧ th w.2 = th o ∧ ∀ c, c < m → gd (fU w.2) c = -1) (fun w => (16 - w.1.toInt).toNat) ⟨0, rfl, by omega, h, rfl, fun c hc => absurd hc (by omega)⟩ (by show (16 - (0 : Int)).toNat < 4000; decide) ?_
  rintro ⟨x, p⟩ ⟨m, hm, m16, hp, ht, hc⟩
  simp only at hm hp ht hc
  unfold B29_2
  simp only
  refine okP.ite (fun cc => ?_) (fun cc => ?_)
  ·rw [i_lt, z16] at cc
   have l1 := Sh_l_posOf hp
   have e1 : (x + 1).toInt = x.toInt + 1 := inc1 (by omega)
   rw [aset_at hm (by omega), Option.bind_some]
   have hs := Sh_posOf hp (x := (fU p).set m (-1)) (ls l1)
   have t1 : th (sU p ((fU p).set m (-1))) = th p := by dsimp only [th, fA, fB, fC, fD, fE, fF, fG, fH, fI, fJ, fK, fL, fM, fO, fP, fQ, fR, fT, fU, fV, fW, fX, fY, fZ, fa, fb, fc, fd, fe, fh, fi, fm, fo, fp, fq, fr, sA, sB, sC, sD, sE, sF, sG, sH, sI, sJ, sK, sL, sM, sO, sP, sQ, sR, sT, sU, sV, sW, sX, sY, sZ, sa, sb, sc, sd, se, sh, si, sm, so, sp, sq, sr]
   have t2 : fU (sU p ((fU p).set m (-1))) = (fU p).set m (-1) := by dsimp only [fA, fB, fC, fD, fE, fF, fG, fH, fI, fJ, fK, fL, fM, fO, fP, fQ, fR, fT, fU, fV, fW, fX, fY, fZ, fa, fb, fc, fd, fe, fh, fi, fm, fo, fp, fq, fr, sA, sB, sC, sD, sE, sF, sG, sH, sI, sJ, sK, sL, sM, sO, sP, sQ, sR, sT, sU, sV, sW, sX, sY, sZ, sa, sb, sc, sd, se, sh, si, sm, so, sp, sq, sr]
   generalize sU p ((fU p).set m (-1)) = q at *
   refine okP.some ⟨⟨m + 1, by simp only; omega, by omega, hs, t1.trans ht, fun c hcm => ?_⟩, by simp only; omega⟩
   simp only
   rw [t2, gd_set (by omega)]
   by_cases e : c = m
   ·rw [if_pos e]; rfl
   ·rw [if_neg e]; exact hc c (by omega)
  ·rw [i_lt, z16] at cc
   exact okP.some ⟨hp, ht, fun c hc' => hc c (by omega)⟩
 rintro p ⟨hp, ht, hneg⟩
 obtain ⟨κ, C⟩ := C
 rw [← ht] at C
 have C' : CK n (gd (fP p)) (gd (fQ p)) (gd (fR p)) κ := C
 have L0 : PP n p 0 (fun _ => False) := ⟨fun c hc => ⟨fun z => z.elim, fun _ => hneg c (by omega)⟩, fun q hq => absurd hq (by omega)⟩
 have y0 : gd (fQ p) 0 = -1 := by
  rcases C'.2.1 0 n0 with w | ⟨c, _, _, _, w⟩
  ·exact w.1
  ·exact absurd rfl w
 have zz0 : gd (fR p) 0 = ((0 : Nat) : Int) := (C'.head n0 y0).2
 apply okP.bind
 refine okP.mono (place_ok hp n16 C' L0 n0 y0 (fun _ _ _ z => z) (x := 0) (y := 0) rfl rfl) ?_
 rintro ⟨w, q⟩ ⟨hq, tq, pn, e1, e2, L1, e3, _⟩
 simp only at hq tq e1 L1 e3 ⊢
 apply okP.bind
 refine okP.mono (P := fun p => Sh b k r i p ∧ PP n p n (fun _ => True) ∧ gd (fU p) 0 = 0) ?_ (fun p hp => okP.some hp)
 refine okP.loop (fun w : Int32 × Int32 × Ob => ∃ (m pn : Nat) (Hd : Int → Prop), w.2.1.toInt = (m : Int) ∧ w.1.toInt = (pn : Int) ∧ m + 1 ≤ pn ∧ Sh b k r i w.2.2 ∧ th w.2.2 = th p ∧ PP n w.2.2 pn (fun c => Hd (gd (fR p) c)) ∧ Hd 0 ∧ gd (fU w.2.2) 0 = 0) (fun w => (16 - w.2.1.toInt).toNat) ⟨0, pn, fun t => t = 0, rfl, e1, by omega, hq, tq, L1.congr (fun c _ => ⟨fun z => z.elim False.elim id, Or.inr⟩), rfl, e3⟩ (by show (16 - (0 : Int)).toNat < 4000; decide) ?_
 rintro ⟨w, x, t⟩ ⟨m, pn, Hd, hm, hpn, mp, ht', tt, L, H0', p0⟩
 simp only at hm hpn ht' tt L p0
 have le := PL.le L
 unfold B29_30
 simp only
 have gn : (fi t).toInt = n := by rw [g_n ht']; exact hn
 rw [if_pos (by rw [i_lt, gn]; omega), if_pos (by rw [i_lt, z16]; omega)]
 have e4 : (x + 1).toInt = x.toInt + 1 := inc1 (by omega)
 have gX : fP t = fP p := congrArg (fun t : List Int32 × List Int32 × List Int32 => t.1) tt
 have gY : fQ t = fQ p := congrArg (fun t : List Int32 × List Int32 × List Int32 => t.2.1) tt
 have gZ : fR t = fR p := congrArg (fun t : List Int32 × List Int32 × List Int32 => t.2.2) tt
 have Ct : CK n (gd (fP t)) (gd (fQ t)) (gd (fR t)) κ := by rw [gX, gY, gZ]; exact C'
 apply okP.bind
 refine okP.mono (best_ok ht' hn n16 w x) ?_
 intro bw hbw
 unfold J29_115
 refine okP.ite (fun c => ?_) (fun c => ?_)
 ·rw [i_lt, z0] at c
  rcases hbw with ⟨_, hall⟩ | ⟨c', _, w2, _⟩
  ·have all : ∀ c, c < n → Hd (gd (fR p) c) := by
    intro c hc
    obtain ⟨hd, h1, h2, h3⟩ := C'.2.2 c hc
    rw [h2]
    by_cases e : hd = 0
    ·subst e; exact H0'
    ·have := hall hd (by omega) h1 (by rw [gY]; exact h3)
     have zz := (C'.head h1 h3).2
     rcases Classical.em (Hd (gd (fR p) hd)) with d | d
     ·rw [zz] at d; exact d
     ·have := (L.1 hd h1).2 d
      omega
   have en := PL.all L all
   subst en
   exact okP.some ⟨ht', L.congr (fun c hc => ⟨fun _ => trivial, fun _ => all c hc⟩), p0⟩
  ·omega
 ·rw [i_lt, z0] at c
  rcases hbw with ⟨w1, _⟩ | ⟨c', w1, w2, w3, w4⟩
  ·omega
  have zc : gd (fR p) c' = (c' : Nat) := by rw [← gZ]; exact (Ct.head w1 w3).2
  have nD : ¬ Hd (c' : Nat) := by
   intro z
   rw [← zc] at z
   obtain ⟨q', _, q2, _⟩ := (L.1 c' w1).1 z
   omega
  apply okP.bind
  refine okP.mono (place_ok ht' n16 Ct L w1 w3 (fun d _ e => by
   show ¬ Hd (gd (fR p) d)
   rw [← gZ, e]; exact nD) w2 hpn) ?_
  rintro ⟨w', t'⟩ ⟨a1, a2, pn', a3, a4, a5, _, a6⟩
  simp only at a1 a2 a3 a5 a6 ⊢
  refine okP.some ⟨⟨m + 1, pn', fun s => Hd s ∨ s = (c' : Nat), by simp only; omega, a3, by omega, a1, a2.trans tt, ?_, Or.inl H0', ?_⟩, by simp only; omega⟩
  ·rw [gZ] at a5
   exact a5
  ·have : Hd (gd (fR p) 0) := by rw [zz0]; exact H0'
   exact (a6 0 n0 this).trans p0
abbrev CO := List Int32 × List Int32 × List Int32 × List Int32 × List Int32 × List Int32 × List Int32 × List Int32
def tc (o : Ob) : CO := (fW o, fX o, fY o, fZ o, fa o, fb o, fc o, fd o)
def TM (b : BB) (pos : Nat → Nat) (kd ts tk ot : Int32) (q c : Nat) : Prop :=
 (tm b c = 1 → (kd = 3 ∧ pos (t0 b c).toInt.toNat = q + 1) ∨ (kd = 1 ∧ tk.toInt = pos (t0 b c).toInt.toNat)) ∧
 (tm b c = 2 → kd = 2 ∧ ((ts = te b c ^^^ 4 ∧ tk.toInt = pos (t1 b c).toInt.toNat ∧ ot.toInt = pos (t0 b c).toInt.toNat) ∨ (ts = te b c ∧ tk.toInt = pos (t0 b c).toInt.toNat ∧ ot.toInt = pos (t1 b c).toInt.toNat))) ∧
 (tm b c ≠ 1 → tm b c ≠ 2 → kd = 0)
def Cell (b : BB) (pos : Nat → Nat) (x : CO) (q c : Nat) : Prop := at' x.1 q = op b c ∧ at' x.2.1 q = dd b c ∧ at' x.2.2.1 q = ss b c ∧ at' x.2.2.2.1 q = im b c ∧ TM b pos (at' x.2.2.2.2.1 q) (at' x.2.2.2.2.2.1 q) (at' x.2.2.2.2.2.2.1 q) (at' x.2.2.2.2.2.2.2 q) q c
def LC (x : CO) : Prop := x.1.length = 16 ∧ x.2.1.length = 16 ∧ x.2.2.1.length = 16 ∧ x.2.2.2.1.length = 16 ∧ x.2.2.2.2.1.length = 16 ∧ x.2.2.2.2.2.1.length = 16 ∧ x.2.2.2.2.2.2.1.length = 16 ∧ x.2.2.2.2.2.2.2.length = 16
def Lay (b : BB) (n : Nat) (x : CO) : Prop := LC x ∧ ∃ pos : Nat → Nat, pos 0 = 0 ∧ ∀ c, c < n → pos c < n ∧ Cell b pos x (pos c) c
theorem Sh.lc {b : BB} {k : KK} {r : RR} {i : II} {o : Ob} (h : Sh b k r i o) : LC (tc o) := ⟨Sh_l_cOp h, Sh_l_cD h, Sh_l_cS h, Sh_l_cImm h, Sh_l_cKind h, Sh_l_cTest h, Sh_l_cTaken h, Sh_l_cOther h⟩
theorem term_ok {b : BB} {k : KK} {r : RR} {i : II} {o : Ob} (h : Sh b k r i o) {n q c : Nat} (G : GB b n) (hq : q < n) (hc : c < n) {pos : Nat → Nat} (hpos : ∀ d, d < n → gd (fU o) d = (pos d : Nat) ∧ pos d < n) {x y : Int32} (hx : x.toInt = q) (hy : y.toInt = c) : okP (F32 o x y) (fun p => Sh b k r i p ∧ tp p = tp o ∧ ∃ kd ts tk ot, tc p = (fW o, fX o, fY o, fZ o, (fa o).set q kd, (fb o).set q ts, (fc o).set q tk, (fd o).set q ot) ∧ TM b pos kd ts tk ot q c) := by
 have n16 := G.2.1
 have l1 := Sh_l_cKind h
 have l2 := Sh_l_cTest h
 have l3 := Sh_l_cTaken h
 have l4 := Sh_l_cOther h
 have l5 := Sh_l_posOf h
 obtain ⟨⟨_, _⟩, ⟨v1, v2⟩, ⟨v3, v4⟩⟩ := G.2.2 c hc
 obtain ⟨u0, hu0⟩ : ∃ u : Nat, (t0 b c).toInt = u := ⟨(t0 b c).toInt.toNat, by omega⟩
 obtain ⟨u1, hu1⟩ : ∃ u : Nat, (t1 b c).toInt = u := ⟨(t1 b c).toInt.toNat, by omega⟩
 have p0 := hpos u0 (by omega)
 have p1 := hpos u1 (by omega)
 have e0 : (t0 b c).toInt.toNat = u0 := by omega
 have e1' : (t1 b c).toInt.toNat = u1 := by omega
 have e1 : (x + 1).toInt = x.toInt + 1 := inc1 (by omega)
 have ss : ∀ {α : Type} (l : List α) (v w : α), (l.set q v).set q w = l.set q w := fun l v w => List.set_set ..
 unfold F32
 rw [a_tm h G hc hy, Option.bind_some, aset_at hx (by omega), Option.bind_some, aset_at hx (by omega), Option.bind_some, aset_at hx (by omega), Option.bind_some]
 refine okP.ite (fun m1 => ?_) (fun m1 => ?_)
 ·rw [a_t0 h G hc hy, Option.bind_some, ag hu0 (by omega), Option.bind_some, aset_at hx (by rw [List.length_set]; omega), Option.bind_some, ss]
  refine okP.ite (fun pe => ?_) (fun pe => ?_)
  ·rw [aset_at hx (by omega), Option.bind_some]
   refine okP.some ⟨Sh_cKind (Sh_cTaken (Sh_cOther (Sh_cTest h (ls l2)) (ls l4)) (ls l3)) (ls l1), by dsimp only [tp, fA, fB, fC, fD, fE, fF, fG, fH, fI, fJ, fK, fL, fM, fO, fP, fQ, fR, fT, fU, fV, fW, fX, fY, fZ, fa, fb, fc, fd, fe, fh, fi, fm, fo, fp, fq, fr, sA, sB, sC, sD, sE, sF, sG, sH, sI, sJ, sK, sL, sM, sO, sP, sQ, sR, sT, sU, sV, sW, sX, sY, sZ, sa, sb, sc, sd, se, sh, si, sm, so, sp, sq, sr], 3, 0, at' (fU o) u0, 0, by dsimp only [tc, fA, fB, fC, fD, fE, fF, fG, fH, fI, fJ, fK, fL, fM, fO, fP, fQ, fR, fT, fU, fV, fW, fX, fY, fZ, fa, fb, fc, fd, fe, fh, fi, fm, fo, fp, fq, fr, sA, sB, sC, sD, sE, sF, sG, sH, sI, sJ, sK, sL, sM, sO, sP, sQ, sR, sT, sU, sV, sW, sX, sY, sZ, sa, sb, sc, sd, se, sh, si, sm, so, sp, sq, sr], fun _ => Or.inl ⟨rfl, ?_⟩, fun w => ?_, fun w => absurd m1 w⟩
   ·rw [e0]
    rw [i_eq, e1] at pe
    have : gd (fU o) u0 = x.toInt + 1 := pe
    omega
   ·rw [m1] at w; exact absurd w (by decide)
  ·rw [aset_at hx (by omega), Option.bind_some]
   refine okP.some ⟨Sh_cKind (Sh_cTaken (Sh_cOther (Sh_cTest h (ls l2)) (ls l4)) (ls l3)) (ls l1), by dsimp only [tp, fA, fB, fC, fD, fE, fF, fG, fH, fI, fJ, fK, fL, fM, fO, fP, fQ, fR, fT, fU, fV, fW, fX, fY, fZ, fa, fb, fc, fd, fe, fh, fi, fm, fo, fp, fq, fr, sA, sB, sC, sD, sE, sF, sG, sH, sI, sJ, sK, sL, sM, sO, sP, sQ, sR, sT, sU, sV, sW, sX, sY, sZ, sa, sb, sc, sd, se, sh, si, sm, so, sp, sq, sr], 1, 0, at' (fU o) u0, 0, by dsimp only [tc, fA, fB, fC, fD, fE, fF, fG, fH, fI, fJ, fK, fL, fM, fO, fP, fQ, fR, fT, fU, fV, fW, fX, fY, fZ, fa, fb, fc, fd, fe, fh, fi, fm, fo, fp, fq, fr, sA, sB, sC, sD, sE, sF, sG, sH, sI, sJ, sK, sL, sM, sO, sP, sQ, sR, sT, sU, sV, sW, sX, sY, sZ, sa, sb, sc, sd, se, sh, si, sm, so, sp, sq, sr], fun _ => Or.inr ⟨rfl, ?_⟩, fun w => ?_, fun w => absurd m1 w⟩
   ·rw [e0]; exact p0.1
   ·rw [m1] at w; exact absurd w (by decide)
 refine okP.ite (fun m2 => ?_) (fun m2 => ?_)
 ·rw [a_t0 h G hc hy, Option.bind_some, ag hu0 (by omega), Option.bind_some, a_t1 h G hc hy, Option.bind_some, ag hu1 (by omega), Option.bind_some, aset_at hx (by omega), Option.bind_some]
  have j : okP (J32_175 (sa (sd (sc (sb o ((fb o).set q 0)) ((fc o).set q 0)) ((fd o).set q 0)) ((fa o).set q 2)) x y (at' (fU o) u0) (at' (fU o) u1)) (fun p => Sh b k r i p ∧ tp p = tp o ∧ ∃ kd ts tk ot, tc p = (fW o, fX o, fY o, fZ o, (fa o).set q kd, (fb o).set q ts, (fc o).set q tk, (fd o).set q ot) ∧ TM b pos kd ts tk ot q c) := by
   have hs : Sh b k r i (sa (sd (sc (sb o ((fb o).set q 0)) ((fc o).set q 0)) ((fd o).set q 0)) ((fa o).set q 2)) := Sh_cKind (Sh_cOther (Sh_cTaken (Sh_cTest h (ls l2)) (ls l3)) (ls l4)) (ls l1)
   have tt : tc (sa (sd (sc (sb o ((fb o).set q 0)) ((fc o).set q 0)) ((fd o).set q 0)) ((fa o).set q 2)) = (fW o, fX o, fY o, fZ o, (fa o).set q 2, (fb o).set q 0, (fc o).set q 0, (fd o).set q 0) := by dsimp only [tc, fA, fB, fC, fD, fE, fF, fG, fH, fI, fJ, fK, fL, fM, fO, fP, fQ, fR, fT, fU, fV, fW, fX, fY, fZ, fa, fb, fc, fd, fe, fh, fi, fm, fo, fp, fq, fr, sA, sB, sC, sD, sE, sF, sG, sH, sI, sJ, sK, sL, sM, sO, sP, sQ, sR, sT, sU, sV, sW, sX, sY, sZ, sa, sb, sc, sd, se, sh, si, sm, so, sp, sq, sr]
   have tpp : tp (sa (sd (sc (sb o ((fb o).set q 0)) ((fc o).set q 0)) ((fd o).set q 0)) ((fa o).set q 2)) = tp o := by dsimp only [tp, fA, fB, fC, fD, fE, fF, fG, fH, fI, fJ, fK, fL, fM, fO, fP, fQ, fR, fT, fU, fV, fW, fX, fY, fZ, fa, fb, fc, fd, fe, fh, fi, fm, fo, fp, fq, fr, sA, sB, sC, sD, sE, sF, sG, sH, sI, sJ, sK, sL, sM, sO, sP, sQ, sR, sT, sU, sV, sW, sX, sY, sZ, sa, sb, sc, sd, se, sh, si, sm, so, sp, sq, sr]
   generalize sa (sd (sc (sb o ((fb o).set q 0)) ((fc o).set q 0)) ((fd o).set q 0)) ((fa o).set q 2) = z at *
   have k1 : fb z = _ := congrArg (fun t : CO => t.2.2.2.2.2.1) tt
   have k2 : fc z = _ := congrArg (fun t : CO => t.2.2.2.2.2.2.1) tt
   have k3 : fd z = _ := congrArg (fun t : CO => t.2.2.2.2.2.2.2) tt
   simp only at k1 k2 k3
   unfold J32_175
   rw [a_te hs G hc hy, Option.bind_some, k1, k2, k3, aset_at hx (by rw [List.length_set]; omega), Option.bind_some, aset_at hx (by rw [List.length_set]; omega), Option.bind_some, aset_at hx (by rw [List.length_set]; omega), Option.bind_some, ss, ss, ss]
   refine okP.some ⟨Sh_cOther (Sh_cTaken (Sh_cTest hs (ls l2)) (ls l3)) (ls l4), ?_, 2, te b c, at' (fU o) u0, at' (fU o) u1, ?_, fun w => absurd w m1, fun _ => ⟨rfl, Or.inr ⟨rfl, by rw [e0]; exact p0.1, by rw [e1']; exact p1.1⟩⟩, fun _ w => absurd m2 w⟩
   ·have : tp (sd (sc (sb z ((fb o).set q (te b c))) ((fc o).set q (at' (fU o) u0))) ((fd o).set q (at' (fU o) u1))) = tp z := by dsimp only [tp, fA, fB, fC, fD, fE, fF, fG, fH, fI, fJ, fK, fL, fM, fO, fP, fQ, fR, fT, fU, fV, fW, fX, fY, fZ, fa, fb, fc, fd, fe, fh, fi, fm, fo, fp, fq, fr, sA, sB, sC, sD, sE, sF, sG, sH, sI, sJ, sK, sL, sM, sO, sP, sQ, sR, sT, sU, sV, sW, sX, sY, sZ, sa, sb, sc, sd, se, sh, si, sm, so, sp, sq, sr]
    exact this.trans tpp
   ·have : tc (sd (sc (sb z ((fb o).set q (te b c))) ((fc o).set q (at' (fU o) u0))) ((fd o).set q (at' (fU o) u1))) = (fW z, fX z, fY z, fZ z, fa z, (fb o).set q (te b c), (fc o).set q (at' (fU o) u0), (fd o).set q (at' (fU o) u1)) := by dsimp only [tc, fA, fB, fC, fD, fE, fF, fG, fH, fI, fJ, fK, fL, fM, fO, fP, fQ, fR, fT, fU, fV, fW, fX, fY, fZ, fa, fb, fc, fd, fe, fh, fi, fm, fo, fp, fq, fr, sA, sB, sC, sD, sE, sF, sG, sH, sI, sJ, sK, sL, sM, sO, sP, sQ, sR, sT, sU, sV, sW, sX, sY, sZ, sa, sb, sc, sd, se, sh, si, sm, so, sp, sq, sr]
    rw [this, show fW z = _ from congrArg (fun t : CO => t.1) tt, show fX z = _ from congrArg (fun t : CO => t.2.1) tt, show fY z = _ from congrArg (fun t : CO => t.2.2.1) tt, show fZ z = _ from congrArg (fun t : CO => t.2.2.2.1) tt, show fa z = _ from congrArg (fun t : CO => t.2.2.2.2.1) tt]
  refine okP.ite (fun pe => ?_) (fun _ => j)
  refine okP.ite (fun _ => j) (fun _ => ?_)
  rw [a_te h G hc hy, Option.bind_some, aset_at hx (by rw [List.length_set]; omega), Option.bind_some, aset_at hx (by rw [List.length_set]; omega), Option.bind_some, aset_at hx (by rw [List.length_set]; omega), Option.bind_some, ss, ss, ss]
  exact okP.some ⟨Sh_cOther (Sh_cTaken (Sh_cTest (Sh_cKind h (ls l1)) (ls l2)) (ls l3)) (ls l4), by dsimp only [tp, fA, fB, fC, fD, fE, fF, fG, fH, fI, fJ, fK, fL, fM, fO, fP, fQ, fR, fT, fU, fV, fW, fX, fY, fZ, fa, fb, fc, fd, fe, fh, fi, fm, fo, fp, fq, fr, sA, sB, sC, sD, sE, sF, sG, sH, sI, sJ, sK, sL, sM, sO, sP, sQ, sR, sT, sU, sV, sW, sX, sY, sZ, sa, sb, sc, sd, se, sh, si, sm, so, sp, sq, sr], 2, te b c ^^^ 4, at' (fU o) u1, at' (fU o) u0, by dsimp only [tc, fA, fB, fC, fD, fE, fF, fG, fH, fI, fJ, fK, fL, fM, fO, fP, fQ, fR, fT, fU, fV, fW, fX, fY, fZ, fa, fb, fc, fd, fe, fh, fi, fm, fo, fp, fq, fr, sA, sB, sC, sD, sE, sF, sG, sH, sI, sJ, sK, sL, sM, sO, sP, sQ, sR, sT, sU, sV, sW, sX, sY, sZ, sa, sb, sc, sd, se, sh, si, sm, so, sp, sq, sr], fun w => absurd w m1, fun _ => ⟨rfl, Or.inl ⟨rfl, by rw [e1']; exact p1.1, by rw [e0]; exact p0.1⟩⟩, fun _ w => absurd m2 w⟩
 ·rw [aset_at hx (by omega), Option.bind_some]
  exact okP.some ⟨Sh_cKind (Sh_cOther (Sh_cTaken (Sh_cTest h (ls l2)) (ls l3)) (ls l4)) (ls l1), by dsimp only [tp, fA, fB, fC, fD, fE, fF, fG, fH, fI, fJ, fK, fL, fM, fO, fP, fQ, fR, fT, fU, fV, fW, fX, fY, fZ, fa, fb, fc, fd, fe, fh, fi, fm, fo, fp, fq, fr, sA, sB, sC, sD, sE, sF, sG, sH, sI, sJ, sK, sL, sM, sO, sP, sQ, sR, sT, sU, sV, sW, sX, sY, sZ, sa, sb, sc, sd, se, sh, si, sm, so, sp, sq, sr], 0, 0, 0, 0, by dsimp only [tc, fA, fB, fC, fD, fE, fF, fG, fH, fI, fJ, fK, fL, fM, fO, fP, fQ, fR, fT, fU, fV, fW, fX, fY, fZ, fa, fb, fc, fd, fe, fh, fi, fm, fo, fp, fq, fr, sA, sB, sC, sD, sE, sF, sG, sH, sI, sJ, sK, sL, sM, sO, sP, sQ, sR, sT, sU, sV, sW, sX, sY, sZ, sa, sb, sc, sd, se, sh, si, sm, so, sp, sq, sr], fun w => absurd w m1, fun w => absurd w m2, fun _ _ => rfl⟩
theorem code_ok {b : BB} {k : KK} {r : RR} {i : II} {o : Ob} (h : Sh b k r i o) {n : Nat} (G : GB b n) (n0 : 0 < n) (hn : i.2.2.1.toInt = n) (L : PP n o n (fun _ => True)) (p0 : gd (fU o) 0 = 0) : okP (F31 o) (fun p => Sh b k r i p ∧ Lay b n (tc p)) := by
 have z16 : (16 : Int32).toInt = 16 := rfl
 have n16 := G.2.1
 obtain ⟨pos, hpos⟩ : ∃ pos : Nat → Nat, ∀ d, pos d = (gd (fU o) d).toNat := ⟨fun d => (gd (fU o) d).toNat, fun _ => rfl⟩
 have hp1 : ∀ d, d < n → gd (fU o) d = (pos d : Nat) ∧ pos d < n ∧ gd (fV o) (pos d) = (d : Nat) := by
  intro d hd
  obtain ⟨q, q1, q2, q3⟩ := (L.1 d hd).1 trivial
  have : pos d = q := by rw [hpos]; omega
  rw [this]
  exact ⟨q2, q1, q3⟩
 have lo := Sh_l_order h
 unfold F31
 apply okP.bind
 refine okP.mono (P := fun p => Sh b k r i p ∧ Lay b n (tc p)) ?_ (fun p hp => okP.some hp)
 refine okP.loop (fun w : Int32 × Ob => ∃ m : Nat, w.1.toInt = (m : Int) ∧ m ≤ n ∧ Sh b k r i w.2 ∧ tp w.2 = tp o ∧ ∀ c, c < n → pos c < m → Cell b pos (tc w.2) (pos c) c) (fun w => (16 - w.1.toInt).toNat) ⟨0, rfl, by omega, h, rfl, fun c _ hc => absurd hc (by omega)⟩ (by show (16 - (0 : Int)).toNat < 4000; decide) ?_
 rintro ⟨x, p⟩ ⟨m, hm, mn, hp, tpp, hc⟩
 simp only at hm hp tpp hc
 unfold B31_2
 simp only
 have gn : (fi p).toInt = n := by rw [g_n hp]; exact hn
 refine okP.ite (fun c1 => ?_) (fun c1 => ?_)
 ·rw [i_lt, gn] at c1
  rw [if_pos (by rw [i_lt, z16]; omega)]
  have e1 : (x + 1).toInt = x.toInt + 1 := inc1 (by omega)
  have gO : fV p = fV o := congrArg (fun t : List Int32 × List Int32 => t.2) tpp
  have gP : fU p = fU o := congrArg (fun t : List Int32 × List Int32 => t.1) tpp
  obtain ⟨c, cn, c2, _, c3⟩ := L.2 m (by omega)
  have pc : pos c = m := by rw [hpos]; omega
  have hy : (at' (fV o) m).toInt = c := c2
  have k1 := Sh_l_cOp hp
  have k2 := Sh_l_cD hp
  have k3 := Sh_l_cS hp
  have k4 := Sh_l_cImm hp
  rw [gO, ag hm (by omega), Option.bind_some, a_op hp G cn hy, Option.bind_some, aset_at hm (by omega), Option.bind_some, a_dd hp G cn hy, Option.bind_some, aset_at hm (by omega), Option.bind_some, a_ss hp G cn hy, Option.bind_some, aset_at hm (by omega), Option.bind_some, a_im hp G cn hy, Option.bind_some, aset_at hm (by omega), Option.bind_some]
  have hs := Sh_cImm (Sh_cS (Sh_cD (Sh_cOp hp (x := (fW p).set m (op b c)) (ls k1)) (x := (fX p).set m (dd b c)) (ls k2)) (x := (fY p).set m (ss b c)) (ls k3)) (x := (fZ p).set m (im b c)) (ls k4)
  have t1 : tp (sZ (sY (sX (sW p ((fW p).set m (op b c))) ((fX p).set m (dd b c))) ((fY p).set m (ss b c))) ((fZ p).set m (im b c))) = tp p := by dsimp only [tp, fA, fB, fC, fD, fE, fF, fG, fH, fI, fJ, fK, fL, fM, fO, fP, fQ, fR, fT, fU, fV, fW, fX, fY, fZ, fa, fb, fc, fd, fe, fh, fi, fm, fo, fp, fq, fr, sA, sB, sC, sD, sE, sF, sG, sH, sI, sJ, sK, sL, sM, sO, sP, sQ, sR, sT, sU, sV, sW, sX, sY, sZ, sa, sb, sc, sd, se, sh, si, sm, so, sp, sq, sr]
  have t2 : tc (sZ (sY (sX (sW p ((fW p).set m (op b c))) ((fX p).set m (dd b c))) ((fY p).set m (ss b c))) ((fZ p).set m (im b c))) = ((fW p).set m (op b c), (fX p).set m (dd b c), (fY p).set m (ss b c), (fZ p).set m (im b c), fa p, fb p, fc p, fd p) := by dsimp only [tc, fA, fB, fC, fD, fE, fF, fG, fH, fI, fJ, fK, fL, fM, fO, fP, fQ, fR, fT, fU, fV, fW, fX, fY, fZ, fa, fb, fc, fd, fe, fh, fi, fm, fo, fp, fq, fr, sA, sB, sC, sD, sE, sF, sG, sH, sI, sJ, sK, sL, sM, sO, sP, sQ, sR, sT, sU, sV, sW, sX, sY, sZ, sa, sb, sc, sd, se, sh, si, sm, so, sp, sq, sr]
  generalize sZ (sY (sX (sW p ((fW p).set m (op b c))) ((fX p).set m (dd b c))) ((fY p).set m (ss b c))) ((fZ p).set m (im b c)) = q at *
  have gP' : fU q = fU o := (congrArg (fun t : List Int32 × List Int32 => t.1) t1).trans gP
  apply okP.bind
  refine okP.mono (term_ok hs G (q := m) (by omega) cn (pos := pos) (fun d hd => by rw [gP']; exact ⟨(hp1 d hd).1, (hp1 d hd).2.1⟩) hm hy) ?_
  rintro s ⟨s1, s2, kd, ts, tk, ot, s3, s4⟩
  refine okP.some ⟨⟨m + 1, by simp only; omega, by omega, s1, s2.trans (t1.trans tpp), fun d hd dm => ?_⟩, by simp only; omega⟩
  simp only
  have u1 : fW q = (fW p).set m (op b c) := congrArg (fun t : CO => t.1) t2
  have u2 : fX q = (fX p).set m (dd b c) := congrArg (fun t : CO => t.2.1) t2
  have u3 : fY q = (fY p).set m (ss b c) := congrArg (fun t : CO => t.2.2.1) t2
  have u4 : fZ q = (fZ p).set m (im b c) := congrArg (fun t : CO => t.2.2.2.1) t2
  have u5 : fa q = fa p := congrArg (fun t : CO => t.2.2.2.2.1) t2
  have u6 : fb q = fb p := congrArg (fun t : CO => t.2.2.2.2.2.1) t2
  have u7 : fc q = fc p := congrArg (fun t : CO => t.2.2.2.2.2.2.1) t2
  have u8 : fd q = fd p := congrArg (fun t : CO => t.2.2.2.2.2.2.2) t2
  rw [s3, u1, u2, u3, u4, u5, u6, u7, u8]
  have k5 := Sh_l_cKind hp
  have k6 := Sh_l_cTest hp
  have k7 := Sh_l_cTaken hp
  have k8 := Sh_l_cOther hp
  unfold Cell
  simp only
  rw [at_set (by omega), at_set (by omega), at_set (by omega), at_set (by omega), at_set (by omega), at_set (by omega), at_set (by omega), at_set (by omega)]
  by_cases e : pos d = m
  ·have : d = c := by
    have a1 := (hp1 d hd).2.2
    rw [e] at a1
    omega
   subst this
   simp only [if_pos e]
   rw [e]
   refine ⟨?_, ?_, ?_, ?_, s4⟩ <;> first | trivial | rfl
  ·simp only [if_neg e]
   exact hc d hd (by omega)
 ·rw [i_lt, gn] at c1
  have mn' : m = n := by omega
  subst mn'
  refine okP.some ⟨hp, hp.lc, pos, by rw [hpos, p0]; rfl, fun c hcn => ⟨(hp1 c hcn).2.1, hc c hcn (hp1 c hcn).2.1⟩⟩
theorem layout_ok {b : BB} {k : KK} {r : RR} {i : II} {o : Ob} (h : Sh b k r i o) {n : Nat} (G : GB b n) (K : LK k) (n0 : 0 < n) (hn : i.2.2.1.toInt = n) (ar : i.2.2.2 = 0) : okP (F23 o) (fun w => w.1 = 1 ∧ Sh b k r (i.1, i.2.1, i.2.2.1, 1) w.2 ∧ Lay b n (tc w.2)) := by
 have z0 : (0 : Int32).toInt = 0 := rfl
 have ga : fm o = 0 := (congrArg (fun x : II => x.2.2.2) (h_i h)).trans ar
 unfold F23
 rw [if_pos ga, if_neg (by rw [i_eq, g_n h, hn, z0]; omega)]
 apply okP.bind
 refine okP.mono (coll_ok h G K hn) ?_
 rintro p ⟨hp, Ep⟩
 apply okP.bind
 refine okP.mono (sort_ok hp Ep) ?_
 rintro q ⟨hq, Eq⟩
 apply okP.bind
 refine okP.mono (chain_ok hq G Eq) ?_
 rintro s ⟨hs, Cs⟩
 apply okP.bind
 refine okP.mono (chains_ok hs n0 G.2.1 hn Cs) ?_
 rintro t ⟨ht, Lt, p0⟩
 apply okP.bind
 refine okP.mono (code_ok ht G n0 hn Lt p0) ?_
 rintro u ⟨hu, Lu⟩
 refine okP.some ⟨rfl, ?_, ?_⟩
 ·obtain ⟨hi, hb⟩ : (fe u, fh u, fi u, fm u) = i ∧ True := ⟨h_i hu, trivial⟩
  subst hi
  dsimp only [Sh, fA, fB, fC, fD, fE, fF, fG, fH, fI, fJ, fK, fL, fM, fO, fP, fQ, fR, fT, fU, fV, fW, fX, fY, fZ, fa, fb, fc, fd, fe, fh, fi, fm, fo, fp, fq, fr, sm] at hu ⊢
  exact ⟨hu.1, hu.2.1, hu.2.2.1, hu.2.2.2.1, hu.2.2.2.2.1, hu.2.2.2.2.2.1, hu.2.2.2.2.2.2.1, hu.2.2.2.2.2.2.2.1, hu.2.2.2.2.2.2.2.2.1, hu.2.2.2.2.2.2.2.2.2.1, hu.2.2.2.2.2.2.2.2.2.2.1, hu.2.2.2.2.2.2.2.2.2.2.2.1, hu.2.2.2.2.2.2.2.2.2.2.2.2.1, hu.2.2.2.2.2.2.2.2.2.2.2.2.2.1, hu.2.2.2.2.2.2.2.2.2.2.2.2.2.2.1, hu.2.2.2.2.2.2.2.2.2.2.2.2.2.2.2.1, hu.2.2.2.2.2.2.2.2.2.2.2.2.2.2.2.2.1, hu.2.2.2.2.2.2.2.2.2.2.2.2.2.2.2.2.2.1, hu.2.2.2.2.2.2.2.2.2.2.2.2.2.2.2.2.2.2.1, rfl⟩
 ·have : tc (sm u 1) = tc u := by dsimp only [tc, fA, fB, fC, fD, fE, fF, fG, fH, fI, fJ, fK, fL, fM, fO, fP, fQ, fR, fT, fU, fV, fW, fX, fY, fZ, fa, fb, fc, fd, fe, fh, fi, fm, fo, fp, fq, fr, sA, sB, sC, sD, sE, sF, sG, sH, sI, sJ, sK, sL, sM, sO, sP, sQ, sR, sT, sU, sV, sW, sX, sY, sZ, sa, sb, sc, sd, se, sh, si, sm, so, sp, sq, sr]
  rw [this]; exact Lu

abbrev SS := List Int32 × List Int32 × Int32
def ex (a d s m : Int32) (σ : SS) : SS :=
 if d < 0 then σ else if 3 < d then σ else if s < 0 then σ else if 3 < s then σ else
 if a = 1 then (σ.1.set d.toInt.toNat m, σ.2) else
 if a = 2 then (σ.1.set d.toInt.toNat (at' σ.1 s.toInt.toNat), σ.2) else
 if a = 3 then (σ.1.set d.toInt.toNat (at' σ.1 d.toInt.toNat + m), σ.2) else
 if a = 4 then (σ.1.set d.toInt.toNat (at' σ.1 d.toInt.toNat + at' σ.1 s.toInt.toNat), σ.2) else
 if a = 5 then (σ.1.set d.toInt.toNat (at' σ.1 d.toInt.toNat - at' σ.1 s.toInt.toNat), σ.2) else
 if a = 6 then (σ.1.set d.toInt.toNat (at' σ.1 d.toInt.toNat >>> ((1 : Int32) &&& 31)), σ.2) else
 if a = 7 then (if σ.2.2 < 0 then (σ.1, σ.2.1, σ.2.2 + 1) else if σ.2.2 < 16 then (σ.1, σ.2.1.set σ.2.2.toInt.toNat (at' σ.1 d.toInt.toNat), σ.2.2 + 1) else (σ.1, σ.2.1, σ.2.2 + 1)) else σ
def gt (o : Ob) : SS := (fK o, fL o, fo o)
def pu (o : Ob) (σ : SS) : Ob := so (sL (sK o σ.1) σ.2.1) σ.2.2
theorem pu_gt (o : Ob) : pu o (gt o) = o := by
 obtain ⟨o1, o2, o3, o4, o5, o6, o7, o8, o9, o10, o11, o12, o13, o14, o15, o16, o17, o18, o19, o20, o21, o22, o23, o24, o25, o26, o27, o28, o29, o30, o31, o32, o33, o34, o35, o36⟩ := o
 rfl
theorem pu_r (o : Ob) (v : List Int32) : sK o v = pu o (v, fL o, fo o) := by
 obtain ⟨o1, o2, o3, o4, o5, o6, o7, o8, o9, o10, o11, o12, o13, o14, o15, o16, o17, o18, o19, o20, o21, o22, o23, o24, o25, o26, o27, o28, o29, o30, o31, o32, o33, o34, o35, o36⟩ := o
 rfl
theorem pu_c (o : Ob) (v : Int32) : so o v = pu o (fK o, fL o, v) := by
 obtain ⟨o1, o2, o3, o4, o5, o6, o7, o8, o9, o10, o11, o12, o13, o14, o15, o16, o17, o18, o19, o20, o21, o22, o23, o24, o25, o26, o27, o28, o29, o30, o31, o32, o33, o34, o35, o36⟩ := o
 rfl
theorem pu_o (o : Ob) (u : List Int32) (v : Int32) : so (sL o u) v = pu o (fK o, u, v) := by
 obtain ⟨o1, o2, o3, o4, o5, o6, o7, o8, o9, o10, o11, o12, o13, o14, o15, o16, o17, o18, o19, o20, o21, o22, o23, o24, o25, o26, o27, o28, o29, o30, o31, o32, o33, o34, o35, o36⟩ := o
 rfl
theorem oc_o (o : Ob) (u : List Int32) : fo (sL o u) = fo o := by
 obtain ⟨o1, o2, o3, o4, o5, o6, o7, o8, o9, o10, o11, o12, o13, o14, o15, o16, o17, o18, o19, o20, o21, o22, o23, o24, o25, o26, o27, o28, o29, o30, o31, o32, o33, o34, o35, o36⟩ := o
 rfl
theorem op_m {o : Ob} (l4 : (fK o).length = 4) (l16 : (fL o).length = 16) (a d s m : Int32) : F13 o a d s m = some (pu o (ex a d s m (gt o))) := by
 have z0 : (0 : Int32).toInt = 0 := rfl
 have z3 : (3 : Int32).toInt = 3 := rfl
 have z16 : (16 : Int32).toInt = 16 := rfl
 rw [show gt o = (fK o, fL o, fo o) from rfl]
 have pg : pu o (fK o, fL o, fo o) = o := pu_gt o
 unfold F13 ex J13_192
 simp only
 by_cases d0 : d < 0
 ·rw [if_pos d0, if_pos d0, pg]
 rw [if_neg d0, if_neg d0]
 by_cases d3 : 3 < d
 ·rw [if_pos d3, if_pos d3, pg]
 rw [if_neg d3, if_neg d3]
 by_cases s0 : s < 0
 ·rw [if_pos s0, if_pos s0, pg]
 rw [if_neg s0, if_neg s0]
 by_cases s3 : 3 < s
 ·rw [if_pos s3, if_pos s3, pg]
 rw [if_neg s3, if_neg s3]
 rw [i_lt] at d0 d3 s0 s3
 have dn : d.toInt = (d.toInt.toNat : Nat) := by omega
 have sn : s.toInt = (s.toInt.toNat : Nat) := by omega
 have as : ∀ v : Int32, aset (fK o) d v = some ((fK o).set d.toInt.toNat v) := fun v => aset_at dn (by omega)
 rw [ag dn (show d.toInt.toNat < (fK o).length by omega), ag sn (show s.toInt.toNat < (fK o).length by omega)]
 simp only [Option.bind_some, as]
 by_cases a1 : a = 1
 ·rw [if_pos a1, if_pos a1, pu_r]
 rw [if_neg a1, if_neg a1]
 by_cases a2 : a = 2
 ·rw [if_pos a2, if_pos a2, pu_r]
 rw [if_neg a2, if_neg a2]
 by_cases a3 : a = 3
 ·rw [if_pos a3, if_pos a3, pu_r]
 rw [if_neg a3, if_neg a3]
 by_cases a4 : a = 4
 ·rw [if_pos a4, if_pos a4, pu_r]
 rw [if_neg a4, if_neg a4]
 by_cases a5 : a = 5
 ·rw [if_pos a5, if_pos a5, pu_r]
 rw [if_neg a5, if_neg a5]
 by_cases a6 : a = 6
 ·rw [if_pos a6, if_pos a6, pu_r]
 rw [if_neg a6, if_neg a6]
 by_cases a7 : a = 7
 ·rw [if_pos a7, if_pos a7]
  by_cases c0 : fo o < 0
  ·rw [if_pos c0, if_pos c0, pu_c]
  ·rw [if_neg c0, if_neg c0]
   by_cases c1 : fo o < 16
   ·rw [if_pos c1, if_pos c1]
    rw [i_lt] at c0 c1
    rw [aset_at (n := (fo o).toInt.toNat) (by omega) (by omega), Option.bind_some, oc_o, pu_o]
   ·rw [if_neg c1, if_neg c1, pu_c]
 ·rw [if_neg a7, if_neg a7, pg]
theorem ite_1 {α : Type} {P : α → Prop} {c : Prop} [Decidable c] {a b : α} (h1 : c → P a) (h2 : ¬ c → P b) : P (if c then a else b) := by
 by_cases h : c
 ·rw [if_pos h]; exact h1 h
 ·rw [if_neg h]; exact h2 h
theorem ex_len (a d s m : Int32) (σ : SS) : (ex a d s m σ).1.length = σ.1.length ∧ (ex a d s m σ).2.1.length = σ.2.1.length := by
 have P : ∀ v x, (σ.1.set v x, σ.2).1.length = σ.1.length ∧ (σ.1.set v x, σ.2).2.1.length = σ.2.1.length := fun v x => ⟨List.length_set, rfl⟩
 unfold ex
 refine ite_1 (P := fun X : SS => X.1.length = σ.1.length ∧ X.2.1.length = σ.2.1.length) (fun _ => ⟨rfl, rfl⟩) (fun _ => ?_)
 refine ite_1 (P := fun X : SS => X.1.length = σ.1.length ∧ X.2.1.length = σ.2.1.length) (fun _ => ⟨rfl, rfl⟩) (fun _ => ?_)
 refine ite_1 (P := fun X : SS => X.1.length = σ.1.length ∧ X.2.1.length = σ.2.1.length) (fun _ => ⟨rfl, rfl⟩) (fun _ => ?_)
 refine ite_1 (P := fun X : SS => X.1.length = σ.1.length ∧ X.2.1.length = σ.2.1.length) (fun _ => ⟨rfl, rfl⟩) (fun _ => ?_)
 refine ite_1 (P := fun X : SS => X.1.length = σ.1.length ∧ X.2.1.length = σ.2.1.length) (fun _ => P _ _) (fun _ => ?_)
 refine ite_1 (P := fun X : SS => X.1.length = σ.1.length ∧ X.2.1.length = σ.2.1.length) (fun _ => P _ _) (fun _ => ?_)
 refine ite_1 (P := fun X : SS => X.1.length = σ.1.length ∧ X.2.1.length = σ.2.1.length) (fun _ => P _ _) (fun _ => ?_)
 refine ite_1 (P := fun X : SS => X.1.length = σ.1.length ∧ X.2.1.length = σ.2.1.length) (fun _ => P _ _) (fun _ => ?_)
 refine ite_1 (P := fun X : SS => X.1.length = σ.1.length ∧ X.2.1.length = σ.2.1.length) (fun _ => P _ _) (fun _ => ?_)
 refine ite_1 (P := fun X : SS => X.1.length = σ.1.length ∧ X.2.1.length = σ.2.1.length) (fun _ => P _ _) (fun _ => ?_)
 refine ite_1 (P := fun X : SS => X.1.length = σ.1.length ∧ X.2.1.length = σ.2.1.length) (fun _ => ?_) (fun _ => ⟨rfl, rfl⟩)
 refine ite_1 (P := fun X : SS => X.1.length = σ.1.length ∧ X.2.1.length = σ.2.1.length) (fun _ => ⟨rfl, rfl⟩) (fun _ => ?_)
 exact ite_1 (P := fun X : SS => X.1.length = σ.1.length ∧ X.2.1.length = σ.2.1.length) (fun _ => ⟨rfl, List.length_set⟩) (fun _ => ⟨rfl, rfl⟩)
def hold (t : Int32) (r : List Int32) : Bool := if (t >>> ((2 : Int32) &&& 31)) &&& 3 = 0 then decide (at' r (t &&& 3).toInt.toNat = 0) else if (t >>> ((2 : Int32) &&& 31)) &&& 3 = 1 then !decide (at' r (t &&& 3).toInt.toNat = 0) else if (t >>> ((2 : Int32) &&& 31)) &&& 3 = 2 then decide (at' r (t &&& 3).toInt.toNat < 0) else !decide (at' r (t &&& 3).toInt.toNat < 0)
def bI (b : Bool) : Int32 := if b then 1 else 0
theorem bI_d {p : Prop} [Decidable p] : (if p then some (1 : Int32) else some 0) = some (bI (decide p)) := by
 by_cases h : p <;> simp [bI, h]
theorem bI_n {p : Prop} [Decidable p] : (if p then some (0 : Int32) else some 1) = some (bI (!decide p)) := by
 by_cases h : p <;> simp [bI, h]
theorem hold_m {o : Ob} (l4 : (fK o).length = 4) (t : Int32) : F14 o t = some (bI (hold t (fK o))) := by
 have r := and_rng (x := t) (m := 3) (by decide)
 have z3 : (3 : Int32).toInt = 3 := rfl
 unfold F14 hold
 rw [ag (a := (t &&& 3).toInt.toNat) (by omega) (by omega), Option.bind_some]
 by_cases c0 : (t >>> ((2 : Int32) &&& 31)) &&& 3 = 0
 ·rw [if_pos c0, if_pos c0, bI_d]
 rw [if_neg c0, if_neg c0]
 by_cases c1 : (t >>> ((2 : Int32) &&& 31)) &&& 3 = 1
 ·rw [if_pos c1, if_pos c1, bI_n]
 rw [if_neg c1, if_neg c1]
 by_cases c2 : (t >>> ((2 : Int32) &&& 31)) &&& 3 = 2
 ·rw [if_pos c2, if_pos c2, bI_d]
 rw [if_neg c2, if_neg c2, bI_n]
theorem hold_x {t : Int32} (h0 : 0 ≤ t.toInt) (h1 : t.toInt ≤ 15) (r : List Int32) : hold (t ^^^ 4) r = !hold t r := by
 have e1 : (t ^^^ 4) &&& 3 = t &&& 3 := small_cases (P := fun t => (t ^^^ 4) &&& 3 = t &&& 3) h0 (n := 16) (by omega) (by decide)
 have e2 := small_cases (P := fun t => ((t >>> ((2 : Int32) &&& 31)) &&& 3 = 0 ∧ ((t ^^^ 4) >>> ((2 : Int32) &&& 31)) &&& 3 = 1) ∨ ((t >>> ((2 : Int32) &&& 31)) &&& 3 = 1 ∧ ((t ^^^ 4) >>> ((2 : Int32) &&& 31)) &&& 3 = 0) ∨ ((t >>> ((2 : Int32) &&& 31)) &&& 3 = 2 ∧ ((t ^^^ 4) >>> ((2 : Int32) &&& 31)) &&& 3 = 3) ∨ ((t >>> ((2 : Int32) &&& 31)) &&& 3 = 3 ∧ ((t ^^^ 4) >>> ((2 : Int32) &&& 31)) &&& 3 = 2)) h0 (n := 16) (by omega) (by decide)
 have n10 : ¬ (1 : Int32) = 0 := by decide
 have n20 : ¬ (2 : Int32) = 0 := by decide
 have n21 : ¬ (2 : Int32) = 1 := by decide
 have n30 : ¬ (3 : Int32) = 0 := by decide
 have n31 : ¬ (3 : Int32) = 1 := by decide
 have n32 : ¬ (3 : Int32) = 2 := by decide
 unfold hold
 rw [e1]
 rcases e2 with ⟨a, c⟩ | ⟨a, c⟩ | ⟨a, c⟩ | ⟨a, c⟩ <;> rw [a, c] <;> simp only [n10, n20, n21, n30, n31, n32, if_true, if_false, Bool.not_not]
def slot (b : BB) (c : Nat) (r : List Int32) : Nat := if tm b c = 1 then 0 else if tm b c = 2 then (if hold (te b c) r then 0 else 1) else 2
def dest (b : BB) (c s : Nat) : Nat := if s = 0 then (t0 b c).toInt.toNat else (t1 b c).toInt.toNat
def bump (k : KK) (c s : Nat) : KK := if s = 0 then (k.1.set c (at' k.1 c + 1), k.2) else if s = 1 then (k.1, k.2.set c (at' k.2 c + 1)) else k
def ob (b : BB) (c : Nat) (σ : SS) : SS := ex (op b c) (dd b c) (ss b c) (im b c) σ
def runP (b : BB) : Nat → Nat → SS → KK → Int32 → Int32 × SS × KK × Int32
 | 0, _, σ, k, t => (2, σ, k, t)
 | f + 1, c, σ, k, t => if slot b c (ob b c σ).1 = 2 then (1, ob b c σ, k, t + 1) else runP b f (dest b c (slot b c (ob b c σ).1)) (ob b c σ) (bump k c (slot b c (ob b c σ).1)) (t + 1)
theorem bump_len {k : KK} (K : LK k) (c s : Nat) : LK (bump k c s) := by
 unfold bump
 repeat' split
 ·exact ⟨by simp only [List.length_set]; exact K.1, K.2⟩
 ·exact ⟨K.1, by simp only [List.length_set]; exact K.2⟩
 ·exact K
theorem dest_lt {b : BB} {n c : Nat} (G : GB b n) (hc : c < n) (s : Nat) : dest b c s < n := by
 obtain ⟨_, ⟨v1, v2⟩, ⟨v3, v4⟩⟩ := G.2.2 c hc
 unfold dest
 split <;> omega
def lay (o : Ob) : List Int32 × List Int32 × List Int32 × List Int32 × List Int32 × List Int32 × List Int32 × List Int32 × CO := (fM o, fO o, fP o, fQ o, fR o, fT o, fU o, fV o, fW o, fX o, fY o, fZ o, fa o, fb o, fc o, fd o)
def tb (o : Ob) : BB := (fA o, fB o, fC o, fD o, fE o, fF o, fG o, fH o)
def tk (o : Ob) : KK := (fI o, fJ o)
def tr (o : Ob) : RR := (fK o, fL o, fo o, fp o, fq o)
def ti (o : Ob) : II := (fe o, fh o, fi o, fm o)
abbrev LT := List Int32 × List Int32 × List Int32 × List Int32 × List Int32 × List Int32 × List Int32 × List Int32 × CO
def LN (x : LT) : Prop := x.1.length = 32 ∧ x.2.1.length = 32 ∧ x.2.2.1.length = 16 ∧ x.2.2.2.1.length = 16 ∧ x.2.2.2.2.1.length = 16 ∧ x.2.2.2.2.2.1.length = 16 ∧ x.2.2.2.2.2.2.1.length = 16 ∧ x.2.2.2.2.2.2.2.1.length = 16 ∧ LC x.2.2.2.2.2.2.2.2
theorem Sh.of {o : Ob} (L : LN (lay o)) : Sh (tb o) (tk o) (tr o) (ti o) o := by
 obtain ⟨a1, a2, a3, a4, a5, a6, a7, a8, a9, a10, a11, a12, a13, a14, a15, a16⟩ := L
 exact ⟨a1, a2, a3, a4, a5, a6, a7, a8, a9, a10, a11, a12, a13, a14, a15, a16, rfl, rfl, rfl, rfl⟩
theorem Sh.ln {b : BB} {k : KK} {r : RR} {i : II} {o : Ob} (h : Sh b k r i o) : LN (lay o) := ⟨Sh_l_edgeId h, Sh_l_edgeW h, Sh_l_chNext h, Sh_l_chPrev h, Sh_l_chHead h, Sh_l_heat h, Sh_l_posOf h, Sh_l_order h, h.lc⟩
theorem Sh.to {b : BB} {k : KK} {r : RR} {i : II} {o : Ob} (h : Sh b k r i o) {p : Ob} {b' : BB} {k' : KK} {r' : RR} {i' : II} (hl : lay p = lay o) (hb : tb p = b') (hk : tk p = k') (hr : tr p = r') (hi : ti p = i') : Sh b' k' r' i' p := by
 have := Sh.of (o := p) (by rw [hl]; exact h.ln)
 rw [hb, hk, hr, hi] at this
 exact this
theorem w_pu {b : BB} {k : KK} {r : RR} {i : II} {o : Ob} (h : Sh b k r i o) (σ : SS) : Sh b k (σ.1, σ.2.1, σ.2.2, r.2.2.2) i (pu o σ) := by
 refine h.to (by dsimp only [lay, pu, fA, fB, fC, fD, fE, fF, fG, fH, fI, fJ, fK, fL, fM, fO, fP, fQ, fR, fT, fU, fV, fW, fX, fY, fZ, fa, fb, fc, fd, fe, fh, fi, fm, fo, fp, fq, fr, sA, sB, sC, sD, sE, sF, sG, sH, sI, sJ, sK, sL, sM, sO, sP, sQ, sR, sT, sU, sV, sW, sX, sY, sZ, sa, sb, sc, sd, se, sh, si, sm, so, sp, sq, sr]) ?_ ?_ ?_ ?_
 ·exact (show tb (pu o σ) = tb o by dsimp only [tb, pu, fA, fB, fC, fD, fE, fF, fG, fH, fI, fJ, fK, fL, fM, fO, fP, fQ, fR, fT, fU, fV, fW, fX, fY, fZ, fa, fb, fc, fd, fe, fh, fi, fm, fo, fp, fq, fr, sA, sB, sC, sD, sE, sF, sG, sH, sI, sJ, sK, sL, sM, sO, sP, sQ, sR, sT, sU, sV, sW, sX, sY, sZ, sa, sb, sc, sd, se, sh, si, sm, so, sp, sq, sr]).trans (h_b h)
 ·exact (show tk (pu o σ) = tk o by dsimp only [tk, pu, fA, fB, fC, fD, fE, fF, fG, fH, fI, fJ, fK, fL, fM, fO, fP, fQ, fR, fT, fU, fV, fW, fX, fY, fZ, fa, fb, fc, fd, fe, fh, fi, fm, fo, fp, fq, fr, sA, sB, sC, sD, sE, sF, sG, sH, sI, sJ, sK, sL, sM, sO, sP, sQ, sR, sT, sU, sV, sW, sX, sY, sZ, sa, sb, sc, sd, se, sh, si, sm, so, sp, sq, sr]).trans (h_k h)
 ·rw [← h_r h]; dsimp only [tr, pu, fA, fB, fC, fD, fE, fF, fG, fH, fI, fJ, fK, fL, fM, fO, fP, fQ, fR, fT, fU, fV, fW, fX, fY, fZ, fa, fb, fc, fd, fe, fh, fi, fm, fo, fp, fq, fr, sA, sB, sC, sD, sE, sF, sG, sH, sI, sJ, sK, sL, sM, sO, sP, sQ, sR, sT, sU, sV, sW, sX, sY, sZ, sa, sb, sc, sd, se, sh, si, sm, so, sp, sq, sr]
 ·exact (show ti (pu o σ) = ti o by dsimp only [ti, pu, fA, fB, fC, fD, fE, fF, fG, fH, fI, fJ, fK, fL, fM, fO, fP, fQ, fR, fT, fU, fV, fW, fX, fY, fZ, fa, fb, fc, fd, fe, fh, fi, fm, fo, fp, fq, fr, sA, sB, sC, sD, sE, sF, sG, sH, sI, sJ, sK, sL, sM, sO, sP, sQ, sR, sT, sU, sV, sW, sX, sY, sZ, sa, sb, sc, sd, se, sh, si, sm, so, sp, sq, sr]).trans (h_i h)
theorem w_st {b : BB} {k : KK} {r : RR} {i : II} {o : Ob} (h : Sh b k r i o) (t : Int32) : Sh b k (r.1, r.2.1, r.2.2.1, t, r.2.2.2.2) i (sp o t) := by
 refine h.to (by dsimp only [lay, fA, fB, fC, fD, fE, fF, fG, fH, fI, fJ, fK, fL, fM, fO, fP, fQ, fR, fT, fU, fV, fW, fX, fY, fZ, fa, fb, fc, fd, fe, fh, fi, fm, fo, fp, fq, fr, sA, sB, sC, sD, sE, sF, sG, sH, sI, sJ, sK, sL, sM, sO, sP, sQ, sR, sT, sU, sV, sW, sX, sY, sZ, sa, sb, sc, sd, se, sh, si, sm, so, sp, sq, sr]) ?_ ?_ ?_ ?_
 ·exact (show tb (sp o t) = tb o by dsimp only [tb, fA, fB, fC, fD, fE, fF, fG, fH, fI, fJ, fK, fL, fM, fO, fP, fQ, fR, fT, fU, fV, fW, fX, fY, fZ, fa, fb, fc, fd, fe, fh, fi, fm, fo, fp, fq, fr, sA, sB, sC, sD, sE, sF, sG, sH, sI, sJ, sK, sL, sM, sO, sP, sQ, sR, sT, sU, sV, sW, sX, sY, sZ, sa, sb, sc, sd, se, sh, si, sm, so, sp, sq, sr]).trans (h_b h)
 ·exact (show tk (sp o t) = tk o by dsimp only [tk, fA, fB, fC, fD, fE, fF, fG, fH, fI, fJ, fK, fL, fM, fO, fP, fQ, fR, fT, fU, fV, fW, fX, fY, fZ, fa, fb, fc, fd, fe, fh, fi, fm, fo, fp, fq, fr, sA, sB, sC, sD, sE, sF, sG, sH, sI, sJ, sK, sL, sM, sO, sP, sQ, sR, sT, sU, sV, sW, sX, sY, sZ, sa, sb, sc, sd, se, sh, si, sm, so, sp, sq, sr]).trans (h_k h)
 ·rw [← h_r h]; dsimp only [tr, fA, fB, fC, fD, fE, fF, fG, fH, fI, fJ, fK, fL, fM, fO, fP, fQ, fR, fT, fU, fV, fW, fX, fY, fZ, fa, fb, fc, fd, fe, fh, fi, fm, fo, fp, fq, fr, sA, sB, sC, sD, sE, sF, sG, sH, sI, sJ, sK, sL, sM, sO, sP, sQ, sR, sT, sU, sV, sW, sX, sY, sZ, sa, sb, sc, sd, se, sh, si, sm, so, sp, sq, sr]
 ·exact (show ti (sp o t) = ti o by dsimp only [ti, fA, fB, fC, fD, fE, fF, fG, fH, fI, fJ, fK, fL, fM, fO, fP, fQ, fR, fT, fU, fV, fW, fX, fY, fZ, fa, fb, fc, fd, fe, fh, fi, fm, fo, fp, fq, fr, sA, sB, sC, sD, sE, sF, sG, sH, sI, sJ, sK, sL, sM, sO, sP, sQ, sR, sT, sU, sV, sW, sX, sY, sZ, sa, sb, sc, sd, se, sh, si, sm, so, sp, sq, sr]).trans (h_i h)
theorem w_ss {b : BB} {k : KK} {r : RR} {i : II} {o : Ob} (h : Sh b k r i o) (t : Int32) : Sh b k (r.1, r.2.1, r.2.2.1, r.2.2.2.1, t) i (sq o t) := by
 refine h.to (by dsimp only [lay, fA, fB, fC, fD, fE, fF, fG, fH, fI, fJ, fK, fL, fM, fO, fP, fQ, fR, fT, fU, fV, fW, fX, fY, fZ, fa, fb, fc, fd, fe, fh, fi, fm, fo, fp, fq, fr, sA, sB, sC, sD, sE, sF, sG, sH, sI, sJ, sK, sL, sM, sO, sP, sQ, sR, sT, sU, sV, sW, sX, sY, sZ, sa, sb, sc, sd, se, sh, si, sm, so, sp, sq, sr]) ?_ ?_ ?_ ?_
 ·exact (show tb (sq o t) = tb o by dsimp only [tb, fA, fB, fC, fD, fE, fF, fG, fH, fI, fJ, fK, fL, fM, fO, fP, fQ, fR, fT, fU, fV, fW, fX, fY, fZ, fa, fb, fc, fd, fe, fh, fi, fm, fo, fp, fq, fr, sA, sB, sC, sD, sE, sF, sG, sH, sI, sJ, sK, sL, sM, sO, sP, sQ, sR, sT, sU, sV, sW, sX, sY, sZ, sa, sb, sc, sd, se, sh, si, sm, so, sp, sq, sr]).trans (h_b h)
 ·exact (show tk (sq o t) = tk o by dsimp only [tk, fA, fB, fC, fD, fE, fF, fG, fH, fI, fJ, fK, fL, fM, fO, fP, fQ, fR, fT, fU, fV, fW, fX, fY, fZ, fa, fb, fc, fd, fe, fh, fi, fm, fo, fp, fq, fr, sA, sB, sC, sD, sE, sF, sG, sH, sI, sJ, sK, sL, sM, sO, sP, sQ, sR, sT, sU, sV, sW, sX, sY, sZ, sa, sb, sc, sd, se, sh, si, sm, so, sp, sq, sr]).trans (h_k h)
 ·rw [← h_r h]; dsimp only [tr, fA, fB, fC, fD, fE, fF, fG, fH, fI, fJ, fK, fL, fM, fO, fP, fQ, fR, fT, fU, fV, fW, fX, fY, fZ, fa, fb, fc, fd, fe, fh, fi, fm, fo, fp, fq, fr, sA, sB, sC, sD, sE, sF, sG, sH, sI, sJ, sK, sL, sM, sO, sP, sQ, sR, sT, sU, sV, sW, sX, sY, sZ, sa, sb, sc, sd, se, sh, si, sm, so, sp, sq, sr]
 ·exact (show ti (sq o t) = ti o by dsimp only [ti, fA, fB, fC, fD, fE, fF, fG, fH, fI, fJ, fK, fL, fM, fO, fP, fQ, fR, fT, fU, fV, fW, fX, fY, fZ, fa, fb, fc, fd, fe, fh, fi, fm, fo, fp, fq, fr, sA, sB, sC, sD, sE, sF, sG, sH, sI, sJ, sK, sL, sM, sO, sP, sQ, sR, sT, sU, sV, sW, sX, sY, sZ, sa, sb, sc, sd, se, sh, si, sm, so, sp, sq, sr]).trans (h_i h)
theorem wc_0 {b : BB} {k : KK} {r : RR} {i : II} {o : Ob} (h : Sh b k r i o) (t : List Int32) : Sh b (t, k.2) r i (sI o t) := by
 refine h.to (by dsimp only [lay, fA, fB, fC, fD, fE, fF, fG, fH, fI, fJ, fK, fL, fM, fO, fP, fQ, fR, fT, fU, fV, fW, fX, fY, fZ, fa, fb, fc, fd, fe, fh, fi, fm, fo, fp, fq, fr, sA, sB, sC, sD, sE, sF, sG, sH, sI, sJ, sK, sL, sM, sO, sP, sQ, sR, sT, sU, sV, sW, sX, sY, sZ, sa, sb, sc, sd, se, sh, si, sm, so, sp, sq, sr]) ?_ ?_ ?_ ?_
 ·exact (show tb (sI o t) = tb o by dsimp only [tb, fA, fB, fC, fD, fE, fF, fG, fH, fI, fJ, fK, fL, fM, fO, fP, fQ, fR, fT, fU, fV, fW, fX, fY, fZ, fa, fb, fc, fd, fe, fh, fi, fm, fo, fp, fq, fr, sA, sB, sC, sD, sE, sF, sG, sH, sI, sJ, sK, sL, sM, sO, sP, sQ, sR, sT, sU, sV, sW, sX, sY, sZ, sa, sb, sc, sd, se, sh, si, sm, so, sp, sq, sr]).trans (h_b h)
 ·rw [← h_k h]; dsimp only [tk, fA, fB, fC, fD, fE, fF, fG, fH, fI, fJ, fK, fL, fM, fO, fP, fQ, fR, fT, fU, fV, fW, fX, fY, fZ, fa, fb, fc, fd, fe, fh, fi, fm, fo, fp, fq, fr, sA, sB, sC, sD, sE, sF, sG, sH, sI, sJ, sK, sL, sM, sO, sP, sQ, sR, sT, sU, sV, sW, sX, sY, sZ, sa, sb, sc, sd, se, sh, si, sm, so, sp, sq, sr]
 ·exact (show tr (sI o t) = tr o by dsimp only [tr, fA, fB, fC, fD, fE, fF, fG, fH, fI, fJ, fK, fL, fM, fO, fP, fQ, fR, fT, fU, fV, fW, fX, fY, fZ, fa, fb, fc, fd, fe, fh, fi, fm, fo, fp, fq, fr, sA, sB, sC, sD, sE, sF, sG, sH, sI, sJ, sK, sL, sM, sO, sP, sQ, sR, sT, sU, sV, sW, sX, sY, sZ, sa, sb, sc, sd, se, sh, si, sm, so, sp, sq, sr]).trans (h_r h)
 ·exact (show ti (sI o t) = ti o by dsimp only [ti, fA, fB, fC, fD, fE, fF, fG, fH, fI, fJ, fK, fL, fM, fO, fP, fQ, fR, fT, fU, fV, fW, fX, fY, fZ, fa, fb, fc, fd, fe, fh, fi, fm, fo, fp, fq, fr, sA, sB, sC, sD, sE, sF, sG, sH, sI, sJ, sK, sL, sM, sO, sP, sQ, sR, sT, sU, sV, sW, sX, sY, sZ, sa, sb, sc, sd, se, sh, si, sm, so, sp, sq, sr]).trans (h_i h)
theorem wc_1 {b : BB} {k : KK} {r : RR} {i : II} {o : Ob} (h : Sh b k r i o) (t : List Int32) : Sh b (k.1, t) r i (sJ o t) := by
 refine h.to (by dsimp only [lay, fA, fB, fC, fD, fE, fF, fG, fH, fI, fJ, fK, fL, fM, fO, fP, fQ, fR, fT, fU, fV, fW, fX, fY, fZ, fa, fb, fc, fd, fe, fh, fi, fm, fo, fp, fq, fr, sA, sB, sC, sD, sE, sF, sG, sH, sI, sJ, sK, sL, sM, sO, sP, sQ, sR, sT, sU, sV, sW, sX, sY, sZ, sa, sb, sc, sd, se, sh, si, sm, so, sp, sq, sr]) ?_ ?_ ?_ ?_
 ·exact (show tb (sJ o t) = tb o by dsimp only [tb, fA, fB, fC, fD, fE, fF, fG, fH, fI, fJ, fK, fL, fM, fO, fP, fQ, fR, fT, fU, fV, fW, fX, fY, fZ, fa, fb, fc, fd, fe, fh, fi, fm, fo, fp, fq, fr, sA, sB, sC, sD, sE, sF, sG, sH, sI, sJ, sK, sL, sM, sO, sP, sQ, sR, sT, sU, sV, sW, sX, sY, sZ, sa, sb, sc, sd, se, sh, si, sm, so, sp, sq, sr]).trans (h_b h)
 ·rw [← h_k h]; dsimp only [tk, fA, fB, fC, fD, fE, fF, fG, fH, fI, fJ, fK, fL, fM, fO, fP, fQ, fR, fT, fU, fV, fW, fX, fY, fZ, fa, fb, fc, fd, fe, fh, fi, fm, fo, fp, fq, fr, sA, sB, sC, sD, sE, sF, sG, sH, sI, sJ, sK, sL, sM, sO, sP, sQ, sR, sT, sU, sV, sW, sX, sY, sZ, sa, sb, sc, sd, se, sh, si, sm, so, sp, sq, sr]
 ·exact (show tr (sJ o t) = tr o by dsimp only [tr, fA, fB, fC, fD, fE, fF, fG, fH, fI, fJ, fK, fL, fM, fO, fP, fQ, fR, fT, fU, fV, fW, fX, fY, fZ, fa, fb, fc, fd, fe, fh, fi, fm, fo, fp, fq, fr, sA, sB, sC, sD, sE, sF, sG, sH, sI, sJ, sK, sL, sM, sO, sP, sQ, sR, sT, sU, sV, sW, sX, sY, sZ, sa, sb, sc, sd, se, sh, si, sm, so, sp, sq, sr]).trans (h_r h)
 ·exact (show ti (sJ o t) = ti o by dsimp only [ti, fA, fB, fC, fD, fE, fF, fG, fH, fI, fJ, fK, fL, fM, fO, fP, fQ, fR, fT, fU, fV, fW, fX, fY, fZ, fa, fb, fc, fd, fe, fh, fi, fm, fo, fp, fq, fr, sA, sB, sC, sD, sE, sF, sG, sH, sI, sJ, sK, sL, sM, sO, sP, sQ, sR, sT, sU, sV, sW, sX, sY, sZ, sa, sb, sc, sd, se, sh, si, sm, so, sp, sq, sr]).trans (h_i h)
theorem c_pu (o : Ob) (σ : SS) : tc (pu o σ) = tc o := by dsimp only [tc, pu, fA, fB, fC, fD, fE, fF, fG, fH, fI, fJ, fK, fL, fM, fO, fP, fQ, fR, fT, fU, fV, fW, fX, fY, fZ, fa, fb, fc, fd, fe, fh, fi, fm, fo, fp, fq, fr, sA, sB, sC, sD, sE, sF, sG, sH, sI, sJ, sK, sL, sM, sO, sP, sQ, sR, sT, sU, sV, sW, sX, sY, sZ, sa, sb, sc, sd, se, sh, si, sm, so, sp, sq, sr]
theorem c_st (o : Ob) (σ : Int32) : tc (sp o σ) = tc o := by dsimp only [tc, fA, fB, fC, fD, fE, fF, fG, fH, fI, fJ, fK, fL, fM, fO, fP, fQ, fR, fT, fU, fV, fW, fX, fY, fZ, fa, fb, fc, fd, fe, fh, fi, fm, fo, fp, fq, fr, sA, sB, sC, sD, sE, sF, sG, sH, sI, sJ, sK, sL, sM, sO, sP, sQ, sR, sT, sU, sV, sW, sX, sY, sZ, sa, sb, sc, sd, se, sh, si, sm, so, sp, sq, sr]
theorem c_ss (o : Ob) (σ : Int32) : tc (sq o σ) = tc o := by dsimp only [tc, fA, fB, fC, fD, fE, fF, fG, fH, fI, fJ, fK, fL, fM, fO, fP, fQ, fR, fT, fU, fV, fW, fX, fY, fZ, fa, fb, fc, fd, fe, fh, fi, fm, fo, fp, fq, fr, sA, sB, sC, sD, sE, sF, sG, sH, sI, sJ, sK, sL, sM, sO, sP, sQ, sR, sT, sU, sV, sW, sX, sY, sZ, sa, sb, sc, sd, se, sh, si, sm, so, sp, sq, sr]
theorem c_c0 (o : Ob) (σ : List Int32) : tc (sI o σ) = tc o := by dsimp only [tc, fA, fB, fC, fD, fE, fF, fG, fH, fI, fJ, fK, fL, fM, fO, fP, fQ, fR, fT, fU, fV, fW, fX, fY, fZ, fa, fb, fc, fd, fe, fh, fi, fm, fo, fp, fq, fr, sA, sB, sC, sD, sE, sF, sG, sH, sI, sJ, sK, sL, sM, sO, sP, sQ, sR, sT, sU, sV, sW, sX, sY, sZ, sa, sb, sc, sd, se, sh, si, sm, so, sp, sq, sr]
theorem c_c1 (o : Ob) (σ : List Int32) : tc (sJ o σ) = tc o := by dsimp only [tc, fA, fB, fC, fD, fE, fF, fG, fH, fI, fJ, fK, fL, fM, fO, fP, fQ, fR, fT, fU, fV, fW, fX, fY, fZ, fa, fb, fc, fd, fe, fh, fi, fm, fo, fp, fq, fr, sA, sB, sC, sD, sE, sF, sG, sH, sI, sJ, sK, sL, sM, sO, sP, sQ, sR, sT, sU, sV, sW, sX, sY, sZ, sa, sb, sc, sd, se, sh, si, sm, so, sp, sq, sr]
theorem g_regs {b : BB} {k : KK} {r : RR} {i : II} {o : Ob} (h : Sh b k r i o) : fK o = r.1 := congrArg (fun x : RR => x.1) (h_r h)
theorem g_outs {b : BB} {k : KK} {r : RR} {i : II} {o : Ob} (h : Sh b k r i o) : fL o = r.2.1 := congrArg (fun x : RR => x.2.1) (h_r h)
theorem g_oc {b : BB} {k : KK} {r : RR} {i : II} {o : Ob} (h : Sh b k r i o) : fo o = r.2.2.1 := congrArg (fun x : RR => x.2.2.1) (h_r h)
theorem g_steps {b : BB} {k : KK} {r : RR} {i : II} {o : Ob} (h : Sh b k r i o) : fp o = r.2.2.2.1 := congrArg (fun x : RR => x.2.2.2.1) (h_r h)
theorem g_status {b : BB} {k : KK} {r : RR} {i : II} {o : Ob} (h : Sh b k r i o) : fq o = r.2.2.2.2 := congrArg (fun x : RR => x.2.2.2.2) (h_r h)
theorem g_ms {b : BB} {k : KK} {r : RR} {i : II} {o : Ob} (h : Sh b k r i o) : fh o = i.2.1 := congrArg (fun x : II => x.2.1) (h_i h)
theorem g_mb {b : BB} {k : KK} {r : RR} {i : II} {o : Ob} (h : Sh b k r i o) : fe o = i.1 := congrArg (fun x : II => x.1) (h_i h)
theorem g_ar {b : BB} {k : KK} {r : RR} {i : II} {o : Ob} (h : Sh b k r i o) : fm o = i.2.2.2 := congrArg (fun x : II => x.2.2.2) (h_i h)
theorem g_gt {b : BB} {k : KK} {r : RR} {i : II} {o : Ob} (h : Sh b k r i o) : gt o = (r.1, r.2.1, r.2.2.1) := by
 unfold gt
 rw [g_regs h, g_outs h, g_oc h]
def sg (r : RR) : SS := (r.1, r.2.1, r.2.2.1)
def LR (r : RR) : Prop := r.1.length = 4 ∧ r.2.1.length = 16
def Nx (b : BB) (c : Nat) (σ : SS) (pos : Nat → Nat) (y : Int32) : Prop := (slot b c σ.1 = 2 ∧ y = -1) ∨ (slot b c σ.1 ≠ 2 ∧ y.toInt = pos (dest b c (slot b c σ.1)))
theorem stepB {b : BB} {k : KK} {r : RR} {i : II} {o : Ob} (h : Sh b k r i o) {n c : Nat} (G : GB b n) (K : LK k) (hn : i.2.2.1.toInt = n) (R : LR r) (hc : c < n) {x : Int32} (hx : x.toInt = c) : okP (F12 o x) (fun w => Nx b c (ob b c (sg r)) id w.1 ∧ Sh b (bump k c (slot b c (ob b c (sg r)).1)) ((ob b c (sg r)).1, (ob b c (sg r)).2.1, (ob b c (sg r)).2.2, r.2.2.2) i w.2 ∧ tc w.2 = tc o) := by
 have z0 : (0 : Int32).toInt = 0 := rfl
 have z16 : (16 : Int32).toInt = 16 := rfl
 have n16 := G.2.1
 obtain ⟨_, ⟨v1, v2⟩, ⟨v3, v4⟩⟩ := G.2.2 c hc
 have vb : F9 o x = some 1 := by
  unfold F9
  rw [if_neg (by rw [i_lt, z0]; omega), if_pos (by rw [i_lt, g_n h, hn]; omega), if_pos (by rw [i_lt, z16]; omega)]
 have om := op_m (o := o) (by rw [g_regs h]; exact R.1) (by rw [g_outs h]; exact R.2) (op b c) (dd b c) (ss b c) (im b c)
 rw [g_gt h] at om
 have om' : F13 o (op b c) (dd b c) (ss b c) (im b c) = some (pu o (ob b c (sg r))) := om
 have hp := w_pu h (ob b c (sg r))
 have cp := c_pu o (ob b c (sg r))
 have ln := ex_len (op b c) (dd b c) (ss b c) (im b c) (sg r)
 have l4 : (ob b c (sg r)).1.length = 4 := ln.1.trans R.1
 unfold F12
 rw [vb, Option.bind_some, if_neg (by decide), a_op h G hc hx, Option.bind_some, a_dd h G hc hx, Option.bind_some, a_ss h G hc hx, Option.bind_some, a_im h G hc hx, Option.bind_some, om', Option.bind_some]
 generalize pu o (ob b c (sg r)) = p at *
 generalize ob b c (sg r) = σ at *
 have hm := hold_m (o := p) (by rw [g_regs hp]; exact l4) (te b c)
 rw [g_regs hp] at hm
 rw [a_tm hp G hc hx, Option.bind_some]
 have jmp0 : slot b c σ.1 = 0 → okP ((aget (fI p) x).bind fun y297 => (aset (fI p) x (y297 + (1 : Int32))).bind fun y298 => (aget (fG p) x).bind fun y299 => some (y299, (sI p y298))) (fun w => Nx b c σ id w.1 ∧ Sh b (bump k c (slot b c σ.1)) (σ.1, σ.2.1, σ.2.2, r.2.2.2) i w.2 ∧ tc w.2 = tc o) := by
  intro s0
  rw [g_cnt0 hp, ag hx (by rw [K.1]; omega), Option.bind_some, aset_at hx (by rw [K.1]; omega), Option.bind_some, a_t0 hp G hc hx, Option.bind_some]
  refine okP.some ⟨Or.inr ⟨by rw [s0]; decide, ?_⟩, ?_, (c_c0 _ _).trans cp⟩
  ·rw [s0]
   show (t0 b c).toInt = ((t0 b c).toInt.toNat : Nat)
   omega
  ·rw [s0]
   exact wc_0 hp _
 refine okP.ite (fun m1 => jmp0 (by unfold slot; rw [if_pos m1])) (fun m1 => ?_)
 refine okP.ite (fun m2 => ?_) (fun m2 => ?_)
 ·rw [a_te hp G hc hx, Option.bind_some, hm, Option.bind_some]
  cases hv : hold (te b c) σ.1
  ·rw [if_pos (by decide)]
   have s1 : slot b c σ.1 = 1 := by unfold slot; rw [if_neg m1, if_pos m2, hv]; rfl
   rw [g_cnt1 hp, ag hx (by rw [K.2]; omega), Option.bind_some, aset_at hx (by rw [K.2]; omega), Option.bind_some, a_t1 hp G hc hx, Option.bind_some]
   refine okP.some ⟨Or.inr ⟨by rw [s1]; decide, ?_⟩, ?_, (c_c1 _ _).trans cp⟩
   ·rw [s1]
    show (t1 b c).toInt = ((t1 b c).toInt.toNat : Nat)
    omega
   ·rw [s1]
    exact wc_1 hp _
  ·rw [if_neg (by decide)]
   exact jmp0 (by unfold slot; rw [if_neg m1, if_pos m2, hv]; rfl)
 ·have s2 : slot b c σ.1 = 2 := by unfold slot; rw [if_neg m1, if_neg m2]
  refine okP.some ⟨Or.inl ⟨s2, rfl⟩, ?_, cp⟩
  rw [s2]
  exact hp
theorem stepF {b : BB} {k : KK} {r : RR} {i : II} {o : Ob} (h : Sh b k r i o) {n c : Nat} (G : GB b n) (hn : i.2.2.1.toInt = n) (R : LR r) (hc : c < n) {pos : Nat → Nat} (lc : LC (tc o)) (hpos : ∀ c, c < n → pos c < n ∧ Cell b pos (tc o) (pos c) c) {x : Int32} (hx : x.toInt = pos c) : okP (F33 o x) (fun w => Nx b c (ob b c (sg r)) pos w.1 ∧ Sh b k ((ob b c (sg r)).1, (ob b c (sg r)).2.1, (ob b c (sg r)).2.2, r.2.2.2) i w.2 ∧ tc w.2 = tc o) := by
 have z0 : (0 : Int32).toInt = 0 := rfl
 have z16 : (16 : Int32).toInt = 16 := rfl
 have n16 := G.2.1
 obtain ⟨⟨te0, te1⟩, ⟨v1, v2⟩, ⟨v3, v4⟩⟩ := G.2.2 c hc
 obtain ⟨pn, C1, C2, C3, C4, T1, T2, T3⟩ := hpos c hc
 obtain ⟨L1, L2, L3, L4, L5, L6, L7, L8⟩ := lc
 have om := op_m (o := o) (by rw [g_regs h]; exact R.1) (by rw [g_outs h]; exact R.2) (op b c) (dd b c) (ss b c) (im b c)
 rw [g_gt h] at om
 have om' : F13 o (op b c) (dd b c) (ss b c) (im b c) = some (pu o (ob b c (sg r))) := om
 have hp := w_pu h (ob b c (sg r))
 have cp := c_pu o (ob b c (sg r))
 have ln := ex_len (op b c) (dd b c) (ss b c) (im b c) (sg r)
 have l4 : (ob b c (sg r)).1.length = 4 := ln.1.trans R.1
 have q1 : aget (fW o) x = some (op b c) := by rw [← C1]; exact ag hx (by show pos c < (tc o).1.length; omega)
 have q2 : aget (fX o) x = some (dd b c) := by rw [← C2]; exact ag hx (by show pos c < (tc o).2.1.length; omega)
 have q3 : aget (fY o) x = some (ss b c) := by rw [← C3]; exact ag hx (by show pos c < (tc o).2.2.1.length; omega)
 have q4 : aget (fZ o) x = some (im b c) := by rw [← C4]; exact ag hx (by show pos c < (tc o).2.2.2.1.length; omega)
 unfold F33
 rw [if_neg (by rw [i_lt, z0]; omega), if_pos (by rw [i_lt, g_n h, hn]; omega), if_pos (by rw [i_lt, z16]; omega), q1, Option.bind_some, q2, Option.bind_some, q3, Option.bind_some, q4, Option.bind_some, om', Option.bind_some]
 generalize pu o (ob b c (sg r)) = p at *
 generalize ob b c (sg r) = σ at *
 have q5 : aget (fa p) x = some (at' (tc o).2.2.2.2.1 (pos c)) := by rw [show fa p = (tc o).2.2.2.2.1 from congrArg (fun t : CO => t.2.2.2.2.1) cp]; exact ag hx (by omega)
 have q6 : aget (fb p) x = some (at' (tc o).2.2.2.2.2.1 (pos c)) := by rw [show fb p = (tc o).2.2.2.2.2.1 from congrArg (fun t : CO => t.2.2.2.2.2.1) cp]; exact ag hx (by omega)
 have q7 : aget (fc p) x = some (at' (tc o).2.2.2.2.2.2.1 (pos c)) := by rw [show fc p = (tc o).2.2.2.2.2.2.1 from congrArg (fun t : CO => t.2.2.2.2.2.2.1) cp]; exact ag hx (by omega)
 have q8 : aget (fd p) x = some (at' (tc o).2.2.2.2.2.2.2 (pos c)) := by rw [show fd p = (tc o).2.2.2.2.2.2.2 from congrArg (fun t : CO => t.2.2.2.2.2.2.2) cp]; exact ag hx (by omega)
 have hm : ∀ t, F14 p t = some (bI (hold t σ.1)) := by
  intro t
  have := hold_m (o := p) (by rw [g_regs hp]; exact l4) t
  rw [g_regs hp] at this
  exact this
 generalize at' (tc o).2.2.2.2.1 (pos c) = kd at *
 generalize at' (tc o).2.2.2.2.2.1 (pos c) = ts at *
 generalize at' (tc o).2.2.2.2.2.2.1 (pos c) = tk' at *
 generalize at' (tc o).2.2.2.2.2.2.2 (pos c) = ot at *
 rw [q5, Option.bind_some, q6, q7, q8]
 simp only [Option.bind_some, hm]
 by_cases m1 : tm b c = 1
 ·have s0 : slot b c σ.1 = 0 := by unfold slot; rw [if_pos m1]
  rcases T1 m1 with ⟨k3, e⟩ | ⟨k1, e⟩
  ·rw [if_pos k3]
   refine okP.some ⟨Or.inr ⟨by rw [s0]; decide, ?_⟩, hp, cp⟩
   rw [s0]
   show (x + 1).toInt = (pos (t0 b c).toInt.toNat : Nat)
   rw [inc1 (by omega)]; omega
  ·rw [if_neg (by rw [k1]; decide), if_pos k1]
   refine okP.some ⟨Or.inr ⟨by rw [s0]; decide, ?_⟩, hp, cp⟩
   rw [s0]
   exact e
 by_cases m2 : tm b c = 2
 ·obtain ⟨k2, e⟩ := T2 m2
  rw [if_neg (by rw [k2]; decide), if_neg (by rw [k2]; decide), if_pos k2]
  have sl : slot b c σ.1 = if hold (te b c) σ.1 then 0 else 1 := by unfold slot; rw [if_neg m1, if_pos m2]
  rcases e with ⟨e1, e2, e3⟩ | ⟨e1, e2, e3⟩
  ·rw [e1, hold_x te0 te1]
   cases hv : hold (te b c) σ.1
   ·rw [hv] at sl
    have sl : slot b c σ.1 = 1 := sl
    rw [if_neg (by decide)]
    refine okP.some ⟨Or.inr ⟨by rw [sl]; decide, ?_⟩, hp, cp⟩
    rw [sl]; exact e2
   ·rw [hv] at sl
    have sl : slot b c σ.1 = 0 := sl
    rw [if_pos (by decide)]
    refine okP.some ⟨Or.inr ⟨by rw [sl]; decide, ?_⟩, hp, cp⟩
    rw [sl]; exact e3
  ·rw [e1]
   cases hv : hold (te b c) σ.1
   ·rw [hv] at sl
    have sl : slot b c σ.1 = 1 := sl
    rw [if_pos (by decide)]
    refine okP.some ⟨Or.inr ⟨by rw [sl]; decide, ?_⟩, hp, cp⟩
    rw [sl]; exact e3
   ·rw [hv] at sl
    have sl : slot b c σ.1 = 0 := sl
    rw [if_neg (by decide)]
    refine okP.some ⟨Or.inr ⟨by rw [sl]; decide, ?_⟩, hp, cp⟩
    rw [sl]; exact e2
 ·have k0 := T3 m1 m2
  have s2 : slot b c σ.1 = 2 := by unfold slot; rw [if_neg m1, if_neg m2]
  rw [if_neg (by rw [k0]; decide), if_neg (by rw [k0]; decide), if_neg (by rw [k0]; decide)]
  exact okP.some ⟨Or.inl ⟨s2, rfl⟩, hp, cp⟩
def After (b : BB) (k : KK) (i : II) (x : CO) (R : Int32 × SS × KK × Int32) (w : Int32 × Ob) : Prop := w.1 = R.1 ∧ Sh b k (R.2.1.1, R.2.1.2.1, R.2.1.2.2, R.2.2.2, R.1) i w.2 ∧ tc w.2 = x
theorem regs4 : ∀ {l : List Int32}, l.length = 4 → ∀ x, (((l.set 0 x).set 1 0).set 2 0).set 3 0 = [x, 0, 0, 0]
 | [_, _, _, _], _, _ => rfl
def Mo (b : BB) (n : Nat) (i : II) (x : CO) (pos : Nat → Nat) : Prop := (i.2.2.2 = 0 ∧ pos = id) ∨ (i.2.2.2 = 1 ∧ LC x ∧ pos 0 = 0 ∧ ∀ c, c < n → pos c < n ∧ Cell b pos x (pos c) c)
theorem run_loop {b : BB} {i : II} {n : Nat} (G : GB b n) (hn : i.2.2.1.toInt = n) (m0 : 0 ≤ i.2.1.toInt) (m1 : i.2.1.toInt ≤ 1024) {x : CO} {pos : Nat → Nat} (M : Mo b n i x pos) {RES : Int32 × SS × KK × Int32} {k0 : KK} : ∀ (f c : Nat) (k kg : KK) (r : RR) (o : Ob) (cur : Int32) (N : Nat), f < N → Sh b k r i o → tc o = x → LR r → LK k → c < n → cur.toInt = pos c → 0 ≤ r.2.2.2.1.toInt → (f : Int) + r.2.2.2.1.toInt = i.2.1.toInt → RES = runP b f c (sg r) kg r.2.2.2.1 → (i.2.2.2 = 0 → k = kg) → (i.2.2.2 = 1 → k = k0) → okP (loopN (B11_51 2) N (cur, o)) (After b (if i.2.2.2 = 0 then RES.2.2.1 else k0) i x RES)
 | f, c, k, kg, r, o, cur, 0, fN, _, _, _, _, _, _, _, _, _, _, _ => absurd fN (by omega)
 | 0, c, k, kg, r, o, cur, N + 1, fN, h, tx, R, K, hc, hcur, s0, fs, hR, ka, kb => by
  have z2 : (2 : Int32).toInt = 2 := rfl
  have st : ¬ fp o < fh o := by rw [i_lt, g_steps h, g_ms h]; omega
  have e : B11_51 2 (cur, o) = some (.inl (2, sq o 2)) := by
   unfold B11_51 J11_112
   simp only
   rw [if_neg st]
  refine ⟨(2, sq o 2), ?_, ?_⟩
  ·simp only [loopN, e]
  ·have hR' : RES = (2, sg r, kg, r.2.2.2.1) := hR
   rw [hR']
   refine ⟨rfl, ?_, (c_ss _ _).trans tx⟩
   have ek : (if i.2.2.2 = 0 then kg else k0) = k := by
    rcases M with ⟨a0, _⟩ | ⟨a1, _⟩
    ·rw [if_pos a0, ka a0]
    ·rw [if_neg (by rw [a1]; decide), kb a1]
   show Sh b (if i.2.2.2 = 0 then kg else k0) _ i _
   rw [ek]
   exact w_ss h 2
 | f + 1, c, k, kg, r, o, cur, N + 1, fN, h, tx, R, K, hc, hcur, s0, fs, hR, ka, kb => by
  have z0 : (0 : Int32).toInt = 0 := rfl
  have st : fp o < fh o := by rw [i_lt, g_steps h, g_ms h]; omega
  have e1 : (r.2.2.2.1 + 1).toInt = r.2.2.2.1.toInt + 1 := inc1 (by omega)
  have h1 := w_st h (r.2.2.2.1 + 1)
  have t1 := (c_st o (r.2.2.2.1 + 1)).trans tx
  have ln := ex_len (op b c) (dd b c) (ss b c) (im b c) (sg r)
  have R' : LR ((ob b c (sg r)).1, (ob b c (sg r)).2.1, (ob b c (sg r)).2.2, r.2.2.2.1 + 1, r.2.2.2.2) := ⟨ln.1.trans R.1, ln.2.trans R.2⟩
  have key : ∃ y p k', (if fm o = 0 then (F12 (sp o (fp o + 1)) cur).bind fun r321 => J11_96 r321.2 2 r321.1 else (F33 (sp o (fp o + 1)) cur).bind fun r343 => J11_96 r343.2 2 r343.1) = J11_96 p 2 y ∧ Nx b c (ob b c (sg r)) pos y ∧ Sh b k' ((ob b c (sg r)).1, (ob b c (sg r)).2.1, (ob b c (sg r)).2.2, r.2.2.2.1 + 1, r.2.2.2.2) i p ∧ tc p = x ∧ LK k' ∧ (i.2.2.2 = 0 → k' = bump kg c (slot b c (ob b c (sg r)).1)) ∧ (i.2.2.2 = 1 → k' = k0) := by
   rw [g_ar h, g_steps h]
   rcases M with ⟨a0, pe⟩ | ⟨a1, lc, p0, hpos⟩
   ·rw [if_pos a0]
    rw [pe] at hcur ⊢
    obtain ⟨⟨y, p⟩, q1, q2, q3, q4⟩ := stepB h1 G K hn R hc hcur
    rw [q1, Option.bind_some]
    exact ⟨y, p, _, rfl, q2, q3, q4.trans t1, bump_len K _ _, fun _ => by rw [ka a0]; rfl, fun w => by rw [a0] at w; exact absurd w (by decide)⟩
   ·rw [if_neg (by rw [a1]; decide)]
    obtain ⟨⟨y, p⟩, q1, q2, q3, q4⟩ := stepF h1 G hn R hc (by rw [t1]; exact lc) (by rw [t1]; exact hpos) hcur
    rw [q1, Option.bind_some]
    exact ⟨y, p, k, rfl, q2, q3, q4.trans t1, K, fun w => by rw [a1] at w; exact absurd w (by decide), fun _ => kb a1⟩
  obtain ⟨y, p, k', he, ny, hp, tp', K', ka', kb'⟩ := key
  have eB : B11_51 2 (cur, o) = J11_96 p 2 y := by
   unfold B11_51
   simp only
   rw [if_pos st]; exact he
  have hR' : RES = if slot b c (ob b c (sg r)).1 = 2 then (1, ob b c (sg r), kg, r.2.2.2.1 + 1) else runP b f (dest b c (slot b c (ob b c (sg r)).1)) (ob b c (sg r)) (bump kg c (slot b c (ob b c (sg r)).1)) (r.2.2.2.1 + 1) := hR
  unfold J11_96 J11_112 at eB
  rcases ny with ⟨s2, y1⟩ | ⟨s2, yd⟩
  ·rw [if_pos s2] at hR'
   rw [y1, if_pos (by decide)] at eB
   refine ⟨(1, sq p 1), by simp only [loopN, eB], ?_⟩
   rw [hR']
   refine ⟨rfl, ?_, (c_ss _ _).trans tp'⟩
   have ek : (if i.2.2.2 = 0 then kg else k0) = k' := by
    rcases M with ⟨a0, _⟩ | ⟨a1, _⟩
    ·rw [if_pos a0, ka' a0, s2]; rfl
    ·rw [if_neg (by rw [a1]; decide), kb' a1]
   show Sh b (if i.2.2.2 = 0 then kg else k0) _ i _
   rw [ek]
   exact w_ss hp 1
  ·rw [if_neg s2] at hR'
   rw [if_neg (by rw [i_lt, z0]; omega)] at eB
   have := run_loop G hn m0 m1 M (RES := RES) (k0 := k0) f (dest b c (slot b c (ob b c (sg r)).1)) k' (bump kg c (slot b c (ob b c (sg r)).1)) _ p y N (by omega) hp tp' R' K' (dest_lt G hc _) yd (by show 0 ≤ (r.2.2.2.1 + 1).toInt; omega) (by show (f : Int) + (r.2.2.2.1 + 1).toInt = _; omega) hR' ka' kb'
   obtain ⟨e, e2, e3⟩ := this
   exact ⟨e, by simp only [loopN, eB]; exact e2, e3⟩
theorem run_ok {b : BB} {k : KK} {r : RR} {i : II} {o : Ob} (h : Sh b k r i o) {n : Nat} (G : GB b n) (K : LK k) (R : LR r) (n0 : 0 < n) (hn : i.2.2.1.toInt = n) (m0 : 0 ≤ i.2.1.toInt) (m1 : i.2.1.toInt ≤ 1024) (M : i.2.2.2 = 0 ∨ (i.2.2.2 = 1 ∧ Lay b n (tc o))) (x : Int32) : okP (F11 o x) (After b (if i.2.2.2 = 0 then (runP b i.2.1.toInt.toNat 0 ([x, 0, 0, 0], r.2.1, 0) k 0).2.2.1 else k) i (tc o) (runP b i.2.1.toInt.toNat 0 ([x, 0, 0, 0], r.2.1, 0) k 0)) := by
 have z0 : (0 : Int32).toInt = 0 := rfl
 have l4 : (fK o).length = 4 := by rw [g_regs h]; exact R.1
 unfold F11
 rw [if_neg (by rw [i_eq, g_n h, hn, z0]; omega), aset_at (n := 0) rfl (by omega), Option.bind_some, aset_at (n := 1) rfl (by rw [List.length_set]; omega), Option.bind_some, aset_at (n := 2) rfl (by simp only [List.length_set]; omega), Option.bind_some, aset_at (n := 3) rfl (by simp only [List.length_set]; omega), Option.bind_some, regs4 l4]
 have h1 : Sh b k ([x, 0, 0, 0], r.2.1, 0, 0, r.2.2.2.2) i (sp (so (sK o [x, 0, 0, 0]) 0) 0) := by
  have := w_st (w_pu h ([x, 0, 0, 0], r.2.1, 0)) 0
  rw [← g_outs h] at this ⊢
  exact this
 have t1 : tc (sp (so (sK o [x, 0, 0, 0]) 0) 0) = tc o := by dsimp only [tc, fA, fB, fC, fD, fE, fF, fG, fH, fI, fJ, fK, fL, fM, fO, fP, fQ, fR, fT, fU, fV, fW, fX, fY, fZ, fa, fb, fc, fd, fe, fh, fi, fm, fo, fp, fq, fr, sA, sB, sC, sD, sE, sF, sG, sH, sI, sJ, sK, sL, sM, sO, sP, sQ, sR, sT, sU, sV, sW, sX, sY, sZ, sa, sb, sc, sd, se, sh, si, sm, so, sp, sq, sr]
 generalize sp (so (sK o [x, 0, 0, 0]) 0) 0 = p at *
 apply okP.bind
 have Mo' : ∃ pos, Mo b n i (tc o) pos ∧ pos 0 = 0 := by
  rcases M with a | ⟨a, lc, pos, p0, hp⟩
  ·exact ⟨id, Or.inl ⟨a, rfl⟩, rfl⟩
  ·exact ⟨pos, Or.inr ⟨a, lc, p0, hp⟩, p0⟩
 obtain ⟨pos, Mp, p0⟩ := Mo'
 refine okP.mono (run_loop G hn m0 m1 Mp (k0 := k) i.2.1.toInt.toNat 0 k k _ p 0 qN (by show _ < 4000; omega) h1 t1 ⟨rfl, R.2⟩ K n0 (by rw [p0]; rfl) (by show (0 : Int) ≤ 0; decide) (by show ((i.2.1.toInt.toNat : Nat) : Int) + 0 = _; omega) rfl (fun _ => rfl) (fun _ => rfl)) (fun w hw => okP.some hw)
def Re (σ τ : SS) : Prop := σ.1 = τ.1 ∧ σ.2.2 = τ.2.2 ∧ σ.2.1.length = 16 ∧ τ.2.1.length = 16 ∧ ∀ j : Nat, (j : Int) < σ.2.2.toInt → at' σ.2.1 j = at' τ.2.1 j
theorem ite_2 {α : Type} {P : α → α → Prop} {c : Prop} [Decidable c] {a b a' b' : α} (h1 : c → P a a') (h2 : ¬ c → P b b') : P (if c then a else b) (if c then a' else b') := by
 by_cases h : c
 ·rw [if_pos h, if_pos h]; exact h1 h
 ·rw [if_neg h, if_neg h]; exact h2 h
theorem ex_re {σ τ : SS} (h : Re σ τ) (h0 : 0 ≤ σ.2.2.toInt) (h1 : σ.2.2.toInt < 2000) (a d s m : Int32) : Re (ex a d s m σ) (ex a d s m τ) ∧ 0 ≤ (ex a d s m σ).2.2.toInt ∧ (ex a d s m σ).2.2.toInt ≤ σ.2.2.toInt + 1 := by
 obtain ⟨r1, u1, c1⟩ := σ
 obtain ⟨r2, u2, c2⟩ := τ
 obtain ⟨e1, e2, l1, l2, e3⟩ := h
 simp only at e1 e2 l1 l2 e3 h0 h1
 subst e1
 subst e2
 have z16 : (16 : Int32).toInt = 16 := rfl
 have e4 : (c1 + 1).toInt = c1.toInt + 1 := inc1 (by omega)
 have same : ∀ (v : List Int32), Re (v, u1, c1) (v, u2, c1) ∧ 0 ≤ c1.toInt ∧ c1.toInt ≤ c1.toInt + 1 := fun v => ⟨⟨rfl, rfl, l1, l2, e3⟩, h0, by omega⟩
 unfold ex
 simp only
 refine ite_2 (P := fun X Y => Re X Y ∧ 0 ≤ X.2.2.toInt ∧ X.2.2.toInt ≤ c1.toInt + 1) (fun _ => same _) (fun _ => ?_)
 refine ite_2 (P := fun X Y => Re X Y ∧ 0 ≤ X.2.2.toInt ∧ X.2.2.toInt ≤ c1.toInt + 1) (fun _ => same _) (fun _ => ?_)
 refine ite_2 (P := fun X Y => Re X Y ∧ 0 ≤ X.2.2.toInt ∧ X.2.2.toInt ≤ c1.toInt + 1) (fun _ => same _) (fun _ => ?_)
 refine ite_2 (P := fun X Y => Re X Y ∧ 0 ≤ X.2.2.toInt ∧ X.2.2.toInt ≤ c1.toInt + 1) (fun _ => same _) (fun _ => ?_)
 refine ite_2 (P := fun X Y => Re X Y ∧ 0 ≤ X.2.2.toInt ∧ X.2.2.toInt ≤ c1.toInt + 1) (fun _ => same _) (fun _ => ?_)
 refine ite_2 (P := fun X Y => Re X Y ∧ 0 ≤ X.2.2.toInt ∧ X.2.2.toInt ≤ c1.toInt + 1) (fun _ => same _) (fun _ => ?_)
 refine ite_2 (P := fun X Y => Re X Y ∧ 0 ≤ X.2.2.toInt ∧ X.2.2.toInt ≤ c1.toInt + 1) (fun _ => same _) (fun _ => ?_)
 refine ite_2 (P := fun X Y => Re X Y ∧ 0 ≤ X.2.2.toInt ∧ X.2.2.toInt ≤ c1.toInt + 1) (fun _ => same _) (fun _ => ?_)
 refine ite_2 (P := fun X Y => Re X Y ∧ 0 ≤ X.2.2.toInt ∧ X.2.2.toInt ≤ c1.toInt + 1) (fun _ => same _) (fun _ => ?_)
 refine ite_2 (P := fun X Y => Re X Y ∧ 0 ≤ X.2.2.toInt ∧ X.2.2.toInt ≤ c1.toInt + 1) (fun _ => same _) (fun _ => ?_)
 refine ite_2 (P := fun X Y => Re X Y ∧ 0 ≤ X.2.2.toInt ∧ X.2.2.toInt ≤ c1.toInt + 1) (fun _ => ?_) (fun _ => same _)
 refine ite_2 (P := fun X Y => Re X Y ∧ 0 ≤ X.2.2.toInt ∧ X.2.2.toInt ≤ c1.toInt + 1) (fun w => ?_) (fun _ => ?_)
 ·rw [i_lt] at w
  exact absurd w (by show ¬ c1.toInt < 0; omega)
 refine ite_2 (P := fun X Y => Re X Y ∧ 0 ≤ X.2.2.toInt ∧ X.2.2.toInt ≤ c1.toInt + 1) (fun w => ?_) (fun w => ?_)
 ·rw [i_lt, z16] at w
  refine ⟨⟨rfl, rfl, by simp only [List.length_set]; exact l1, by simp only [List.length_set]; exact l2, fun j hj => ?_⟩, by simp only; omega, by simp only; omega⟩
  simp only at hj ⊢
  rw [at_set (by omega), at_set (by omega)]
  split
  ·rfl
  ·exact e3 j (by omega)
 ·rw [i_lt, z16] at w
  refine ⟨⟨rfl, rfl, l1, l2, fun j hj => ?_⟩, by simp only; omega, by simp only; omega⟩
  simp only at hj ⊢
  rcases Int.lt_or_le (j : Int) c1.toInt with q | q
  ·exact e3 j q
  ·unfold at'
   rw [List.getD_eq_getElem?_getD, List.getD_eq_getElem?_getD, List.getElem?_eq_none (by omega), List.getElem?_eq_none (by omega)]
theorem run_re {b : BB} : ∀ (f c : Nat) (σ τ : SS) (k l : KK) (t : Int32), Re σ τ → 0 ≤ σ.2.2.toInt → (f : Int) + σ.2.2.toInt ≤ 1500 → (runP b f c σ k t).1 = (runP b f c τ l t).1 ∧ Re (runP b f c σ k t).2.1 (runP b f c τ l t).2.1 ∧ (runP b f c σ k t).2.2.2 = (runP b f c τ l t).2.2.2
 | 0, c, σ, τ, k, l, t, h, _, _ => ⟨rfl, h, rfl⟩
 | f + 1, c, σ, τ, k, l, t, h, h0, h1 => by
  obtain ⟨e1, e2, e3⟩ := ex_re h h0 (by omega) (op b c) (dd b c) (ss b c) (im b c)
  have e1' : Re (ob b c σ) (ob b c τ) := e1
  have e4 : (ob b c σ).1 = (ob b c τ).1 := e1'.1
  show (if slot b c (ob b c σ).1 = 2 then (1, ob b c σ, k, t + 1) else runP b f (dest b c (slot b c (ob b c σ).1)) (ob b c σ) (bump k c (slot b c (ob b c σ).1)) (t + 1)).1 = (if slot b c (ob b c τ).1 = 2 then (1, ob b c τ, l, t + 1) else runP b f (dest b c (slot b c (ob b c τ).1)) (ob b c τ) (bump l c (slot b c (ob b c τ).1)) (t + 1)).1 ∧ Re (if slot b c (ob b c σ).1 = 2 then (1, ob b c σ, k, t + 1) else runP b f (dest b c (slot b c (ob b c σ).1)) (ob b c σ) (bump k c (slot b c (ob b c σ).1)) (t + 1)).2.1 (if slot b c (ob b c τ).1 = 2 then (1, ob b c τ, l, t + 1) else runP b f (dest b c (slot b c (ob b c τ).1)) (ob b c τ) (bump l c (slot b c (ob b c τ).1)) (t + 1)).2.1 ∧ (if slot b c (ob b c σ).1 = 2 then (1, ob b c σ, k, t + 1) else runP b f (dest b c (slot b c (ob b c σ).1)) (ob b c σ) (bump k c (slot b c (ob b c σ).1)) (t + 1)).2.2.2 = (if slot b c (ob b c τ).1 = 2 then (1, ob b c τ, l, t + 1) else runP b f (dest b c (slot b c (ob b c τ).1)) (ob b c τ) (bump l c (slot b c (ob b c τ).1)) (t + 1)).2.2.2
  rw [← e4]
  by_cases s2 : slot b c (ob b c σ).1 = 2
  ·simp only [if_pos s2]
   exact ⟨trivial, e1', trivial⟩
  ·simp only [if_neg s2]
   exact run_re f _ _ _ _ _ _ e1' e2 (by have : (ob b c σ).2.2.toInt ≤ σ.2.2.toInt + 1 := e3; omega)

def Zk (k : KK) : Prop := ∀ j, j < 16 → at' k.1 j = 0 ∧ at' k.2 j = 0
theorem clear_ok {b : BB} {k : KK} {r : RR} {i : II} {o : Ob} (h : Sh b k r i o) (K : LK k) : okP (F3 o) (fun p => ∃ k', LK k' ∧ Sh b k' r i p ∧ tc p = tc o ∧ Zk k') := by
 have z16 : (16 : Int32).toInt = 16 := rfl
 unfold F3
 apply okP.bind
 refine okP.mono (P := fun p => ∃ k', LK k' ∧ Sh b k' r i p ∧ tc p = tc o ∧ Zk k') ?_ (fun p hp => okP.some hp)
 refine okP.loop (fun w : Int32 × Ob => ∃ m : Nat, w.1.toInt = (m : Int) ∧ ∃ k', LK k' ∧ Sh b k' r i w.2 ∧ tc w.2 = tc o ∧ ∀ j, j < m → j < 16 → at' k'.1 j = 0 ∧ at' k'.2 j = 0) (fun w => (16 - w.1.toInt).toNat) ⟨0, rfl, k, K, h, rfl, fun j hj => absurd hj (by omega)⟩ (by show (16 - (0 : Int)).toNat < 4000; decide) ?_
 rintro ⟨x, p⟩ ⟨m, x0, k', K', hp, tp', zz⟩
 simp only at x0 hp tp'
 unfold B3_2
 simp only
 refine okP.ite (fun c => ?_) (fun c => okP.some ⟨k', K', hp, tp', fun j hj => zz j (by rw [i_lt, z16] at c; omega) hj⟩)
 rw [i_lt, z16] at c
 have e1 : (x + 1).toInt = x.toInt + 1 := inc1 (by omega)
 have l1 := K'.1
 have l2 := K'.2
 rw [g_cnt0 hp, g_cnt1 hp, aset_at x0 (by omega), Option.bind_some, aset_at x0 (by omega), Option.bind_some]
 refine okP.some ⟨⟨m + 1, by simp only; omega, _, ⟨by simp only [List.length_set]; exact l1, by simp only [List.length_set]; exact l2⟩, wc_1 (wc_0 hp _) _, (c_c1 _ _).trans ((c_c0 _ _).trans tp'), fun j hj j16 => ?_⟩, by simp only; omega⟩
 simp only
 rw [at_set (by omega), at_set (by omega)]
 by_cases e : j = m
 ·rw [if_pos e, if_pos e]; exact ⟨rfl, rfl⟩
 ·rw [if_neg e, if_neg e]; exact zz j (by omega) j16
theorem GB_set {b : BB} {n j : Nat} (G : GB b n) (hj : j < n) {kd ts a c : Int32} (s0 : 0 ≤ ts.toInt) (s1 : ts.toInt ≤ 15) (a0 : 0 ≤ a.toInt) (a1 : a.toInt < n) (c0 : 0 ≤ c.toInt) (c1 : c.toInt < n) : GB (b.1, b.2.1, b.2.2.1, b.2.2.2.1, b.2.2.2.2.1.set j kd, b.2.2.2.2.2.1.set j ts, b.2.2.2.2.2.2.1.set j a, b.2.2.2.2.2.2.2.set j c) n := by
 obtain ⟨⟨L1, L2, L3, L4, L5, L6, L7, L8⟩, n16, g⟩ := G
 refine ⟨⟨L1, L2, L3, L4, by simp only [List.length_set]; exact L5, by simp only [List.length_set]; exact L6, by simp only [List.length_set]; exact L7, by simp only [List.length_set]; exact L8⟩, n16, fun d hd => ?_⟩
 have g' := g d hd
 unfold te t0 t1 at *
 simp only
 rw [at_set (by omega), at_set (by omega), at_set (by omega)]
 by_cases e : d = j
 ·simp only [if_pos e]
  exact ⟨⟨s0, s1⟩, ⟨a0, a1⟩, c0, c1⟩
 ·simp only [if_neg e]
  exact g'
theorem term_w {b : BB} {k : KK} {r : RR} {i : II} {o : Ob} (h : Sh b k r i o) {n j : Nat} (G : GB b n) (K : LK k) (hj : j < n) {x : Int32} (hx : x.toInt = j) (kd ts a c : Int32) (s0 : 0 ≤ ts.toInt) (s1 : ts.toInt ≤ 15) (a0 : 0 ≤ a.toInt) (a1 : a.toInt < n) (c0 : 0 ≤ c.toInt) (c1 : c.toInt < n) : okP ((F7 o x kd ts a).bind fun r38 => (aset (fH r38) x c).bind fun y39 => (F3 (sH r38 y39)).bind fun r47 => some ((1 : Int32), r47)) (fun w => w.1 = 1 ∧ ∃ b' k', GB b' n ∧ LK k' ∧ Sh b' k' r i w.2 ∧ b' = (b.1, b.2.1, b.2.2.1, b.2.2.2.1, b.2.2.2.2.1.set j kd, b.2.2.2.2.2.1.set j ts, b.2.2.2.2.2.2.1.set j a, b.2.2.2.2.2.2.2.set j c) ∧ Zk k') := by
 have n16 := G.2.1
 obtain ⟨L1, L2, L3, L4, L5, L6, L7, L8⟩ := G.1
 unfold F7
 rw [g_bTerm h, g_bTest h, g_bT0 h, aset_at hx (by omega), Option.bind_some, aset_at hx (by omega), Option.bind_some, aset_at hx (by omega), Option.bind_some, Option.bind_some]
 have e1 : fH (sG (sF (sE o (b.2.2.2.2.1.set j kd)) (b.2.2.2.2.2.1.set j ts)) (b.2.2.2.2.2.2.1.set j a)) = b.2.2.2.2.2.2.2 := by
  rw [← g_bT1 h]; dsimp only [fA, fB, fC, fD, fE, fF, fG, fH, fI, fJ, fK, fL, fM, fO, fP, fQ, fR, fT, fU, fV, fW, fX, fY, fZ, fa, fb, fc, fd, fe, fh, fi, fm, fo, fp, fq, fr, sA, sB, sC, sD, sE, sF, sG, sH, sI, sJ, sK, sL, sM, sO, sP, sQ, sR, sT, sU, sV, sW, sX, sY, sZ, sa, sb, sc, sd, se, sh, si, sm, so, sp, sq, sr]
 rw [e1, aset_at hx (by omega), Option.bind_some]
 have hs : Sh (b.1, b.2.1, b.2.2.1, b.2.2.2.1, b.2.2.2.2.1.set j kd, b.2.2.2.2.2.1.set j ts, b.2.2.2.2.2.2.1.set j a, b.2.2.2.2.2.2.2.set j c) k r i (sH (sG (sF (sE o (b.2.2.2.2.1.set j kd)) (b.2.2.2.2.2.1.set j ts)) (b.2.2.2.2.2.2.1.set j a)) (b.2.2.2.2.2.2.2.set j c)) := by
  refine h.to (by dsimp only [lay, fA, fB, fC, fD, fE, fF, fG, fH, fI, fJ, fK, fL, fM, fO, fP, fQ, fR, fT, fU, fV, fW, fX, fY, fZ, fa, fb, fc, fd, fe, fh, fi, fm, fo, fp, fq, fr, sA, sB, sC, sD, sE, sF, sG, sH, sI, sJ, sK, sL, sM, sO, sP, sQ, sR, sT, sU, sV, sW, sX, sY, sZ, sa, sb, sc, sd, se, sh, si, sm, so, sp, sq, sr]) ?_ ?_ ?_ ?_
  ·rw [show tb (sH (sG (sF (sE o (b.2.2.2.2.1.set j kd)) (b.2.2.2.2.2.1.set j ts)) (b.2.2.2.2.2.2.1.set j a)) (b.2.2.2.2.2.2.2.set j c)) = (fA o, fB o, fC o, fD o, b.2.2.2.2.1.set j kd, b.2.2.2.2.2.1.set j ts, b.2.2.2.2.2.2.1.set j a, b.2.2.2.2.2.2.2.set j c) by dsimp only [tb, fA, fB, fC, fD, fE, fF, fG, fH, fI, fJ, fK, fL, fM, fO, fP, fQ, fR, fT, fU, fV, fW, fX, fY, fZ, fa, fb, fc, fd, fe, fh, fi, fm, fo, fp, fq, fr, sA, sB, sC, sD, sE, sF, sG, sH, sI, sJ, sK, sL, sM, sO, sP, sQ, sR, sT, sU, sV, sW, sX, sY, sZ, sa, sb, sc, sd, se, sh, si, sm, so, sp, sq, sr], g_bOp h, g_bD h, g_bS h, g_bImm h]
  ·rw [← h_k h]; dsimp only [tk, fA, fB, fC, fD, fE, fF, fG, fH, fI, fJ, fK, fL, fM, fO, fP, fQ, fR, fT, fU, fV, fW, fX, fY, fZ, fa, fb, fc, fd, fe, fh, fi, fm, fo, fp, fq, fr, sA, sB, sC, sD, sE, sF, sG, sH, sI, sJ, sK, sL, sM, sO, sP, sQ, sR, sT, sU, sV, sW, sX, sY, sZ, sa, sb, sc, sd, se, sh, si, sm, so, sp, sq, sr]
  ·rw [← h_r h]; dsimp only [tr, fA, fB, fC, fD, fE, fF, fG, fH, fI, fJ, fK, fL, fM, fO, fP, fQ, fR, fT, fU, fV, fW, fX, fY, fZ, fa, fb, fc, fd, fe, fh, fi, fm, fo, fp, fq, fr, sA, sB, sC, sD, sE, sF, sG, sH, sI, sJ, sK, sL, sM, sO, sP, sQ, sR, sT, sU, sV, sW, sX, sY, sZ, sa, sb, sc, sd, se, sh, si, sm, so, sp, sq, sr]
  ·rw [← h_i h]; dsimp only [ti, fA, fB, fC, fD, fE, fF, fG, fH, fI, fJ, fK, fL, fM, fO, fP, fQ, fR, fT, fU, fV, fW, fX, fY, fZ, fa, fb, fc, fd, fe, fh, fi, fm, fo, fp, fq, fr, sA, sB, sC, sD, sE, sF, sG, sH, sI, sJ, sK, sL, sM, sO, sP, sQ, sR, sT, sU, sV, sW, sX, sY, sZ, sa, sb, sc, sd, se, sh, si, sm, so, sp, sq, sr]
 generalize sH (sG (sF (sE o (b.2.2.2.2.1.set j kd)) (b.2.2.2.2.2.1.set j ts)) (b.2.2.2.2.2.2.1.set j a)) (b.2.2.2.2.2.2.2.set j c) = p at *
 apply okP.bind
 refine okP.mono (clear_ok hs K) ?_
 rintro q ⟨k', K', hq, _, zz⟩
 exact okP.some ⟨rfl, _, k', GB_set G hj s0 s1 a0 a1 c0 c1, K', hq, rfl, zz⟩
theorem vb_m {b : BB} {k : KK} {r : RR} {i : II} {o : Ob} (h : Sh b k r i o) {n : Nat} (hn : i.2.2.1.toInt = n) (n16 : n ≤ 16) (x : Int32) : (F9 o x = some 0 ∧ ¬ (0 ≤ x.toInt ∧ x.toInt < n)) ∨ (F9 o x = some 1 ∧ ∃ j : Nat, j < n ∧ x.toInt = j) := by
 have z0 : (0 : Int32).toInt = 0 := rfl
 have z16 : (16 : Int32).toInt = 16 := rfl
 unfold F9
 by_cases x0 : x < 0
 ·rw [if_pos x0]
  rw [i_lt, z0] at x0
  exact Or.inl ⟨rfl, by omega⟩
 rw [if_neg x0]
 rw [i_lt, z0] at x0
 by_cases x1 : x < fi o
 ·rw [if_pos x1]
  rw [i_lt, g_n h, hn] at x1
  rw [if_pos (by rw [i_lt, z16]; omega)]
  exact Or.inr ⟨rfl, x.toInt.toNat, by omega, by omega⟩
 ·rw [if_neg x1]
  rw [i_lt, g_n h, hn] at x1
  exact Or.inl ⟨rfl, by omega⟩
theorem add_ok {b : BB} {k : KK} {r : RR} {i : II} {o : Ob} (h : Sh b k r i o) {n : Nat} (G : GB b n) (K : LK k) (hn : i.2.2.1.toInt = n) (hm : i.1.toInt ≤ 16) (nm : n ≤ i.1.toInt) (a d s m : Int32) : okP (F6 o a d s m) (fun w => (w = (-1, o) ∧ ¬ (i.2.2.2 = 0 ∧ (n : Int) < i.1.toInt ∧ (0 ≤ a.toInt ∧ a.toInt ≤ 7) ∧ (0 ≤ d.toInt ∧ d.toInt ≤ 3) ∧ 0 ≤ s.toInt ∧ s.toInt ≤ 3)) ∨ (i.2.2.2 = 0 ∧ n < i.1.toInt ∧ w.1 = i.2.2.1 ∧ ∃ b' k', GB b' (n + 1) ∧ LK k' ∧ Sh b' k' r (i.1, i.2.1, i.2.2.1 + 1, 0) w.2 ∧ b' = (b.1.set n a, b.2.1.set n d, b.2.2.1.set n s, b.2.2.2.1.set n m, b.2.2.2.2.1.set n 0, b.2.2.2.2.2.1.set n 0, b.2.2.2.2.2.2.1.set n 0, b.2.2.2.2.2.2.2.set n 0))) := by
 have z16 : (16 : Int32).toInt = 16 := rfl
 obtain ⟨L1, L2, L3, L4, L5, L6, L7, L8⟩ := G.1
 unfold F6
 have z0 : (0 : Int32).toInt = 0 := rfl
 have z3 : (3 : Int32).toInt = 3 := rfl
 have z7 : (7 : Int32).toInt = 7 := rfl
 refine okP.ite (fun ar => ?_) (fun w => okP.some (Or.inl ⟨rfl, fun z => w ((g_ar h).trans z.1)⟩))
 refine okP.ite (fun w => okP.some (Or.inl ⟨rfl, fun z => ?_⟩)) (fun ne => ?_)
 ·rw [i_eq, g_n h, g_mb h, hn] at w; omega
 refine okP.ite (fun lt => ?_) (fun w => okP.some (Or.inl ⟨rfl, fun z => ?_⟩))
 rotate_left
 ·rw [i_lt, g_n h, hn, z16] at w; omega
 refine okP.ite (fun w => okP.some (Or.inl ⟨rfl, fun z => by rw [i_lt, z0] at w; omega⟩)) (fun _ => ?_)
 refine okP.ite (fun w => okP.some (Or.inl ⟨rfl, fun z => by rw [i_lt, z7] at w; omega⟩)) (fun _ => ?_)
 refine okP.ite (fun w => okP.some (Or.inl ⟨rfl, fun z => by rw [i_lt, z0] at w; omega⟩)) (fun _ => ?_)
 refine okP.ite (fun w => okP.some (Or.inl ⟨rfl, fun z => by rw [i_lt, z3] at w; omega⟩)) (fun _ => ?_)
 refine okP.ite (fun w => okP.some (Or.inl ⟨rfl, fun z => by rw [i_lt, z0] at w; omega⟩)) (fun _ => ?_)
 refine okP.ite (fun w => okP.some (Or.inl ⟨rfl, fun z => by rw [i_lt, z3] at w; omega⟩)) (fun _ => ?_)
 rw [g_ar h] at ar
 rw [i_lt, g_n h, hn, z16] at lt
 rw [i_eq, g_n h, g_mb h, hn] at ne
 have lt : n < 16 := by omega
 rw [g_n h, g_bOp h, g_bD h, g_bS h, g_bImm h, aset_at hn (by omega), Option.bind_some, aset_at hn (by omega), Option.bind_some, aset_at hn (by omega), Option.bind_some, aset_at hn (by omega), Option.bind_some]
 have e1 : (i.2.2.1 + 1).toInt = i.2.2.1.toInt + 1 := inc1 (by omega)
 generalize hN : i.2.2.1 + 1 = N at e1 ⊢
 have hs : Sh (b.1.set n a, b.2.1.set n d, b.2.2.1.set n s, b.2.2.2.1.set n m, b.2.2.2.2) k r i (sD (sC (sB (sA o (b.1.set n a)) (b.2.1.set n d)) (b.2.2.1.set n s)) (b.2.2.2.1.set n m)) := by
  refine h.to (by dsimp only [lay, fA, fB, fC, fD, fE, fF, fG, fH, fI, fJ, fK, fL, fM, fO, fP, fQ, fR, fT, fU, fV, fW, fX, fY, fZ, fa, fb, fc, fd, fe, fh, fi, fm, fo, fp, fq, fr, sA, sB, sC, sD, sE, sF, sG, sH, sI, sJ, sK, sL, sM, sO, sP, sQ, sR, sT, sU, sV, sW, sX, sY, sZ, sa, sb, sc, sd, se, sh, si, sm, so, sp, sq, sr]) ?_ ?_ ?_ ?_
  ·rw [show b.2.2.2.2 = (fE o, fF o, fG o, fH o) by rw [g_bTerm h, g_bTest h, g_bT0 h, g_bT1 h]]
   dsimp only [tb, fA, fB, fC, fD, fE, fF, fG, fH, fI, fJ, fK, fL, fM, fO, fP, fQ, fR, fT, fU, fV, fW, fX, fY, fZ, fa, fb, fc, fd, fe, fh, fi, fm, fo, fp, fq, fr, sA, sB, sC, sD, sE, sF, sG, sH, sI, sJ, sK, sL, sM, sO, sP, sQ, sR, sT, sU, sV, sW, sX, sY, sZ, sa, sb, sc, sd, se, sh, si, sm, so, sp, sq, sr]
  ·rw [← h_k h]; dsimp only [tk, fA, fB, fC, fD, fE, fF, fG, fH, fI, fJ, fK, fL, fM, fO, fP, fQ, fR, fT, fU, fV, fW, fX, fY, fZ, fa, fb, fc, fd, fe, fh, fi, fm, fo, fp, fq, fr, sA, sB, sC, sD, sE, sF, sG, sH, sI, sJ, sK, sL, sM, sO, sP, sQ, sR, sT, sU, sV, sW, sX, sY, sZ, sa, sb, sc, sd, se, sh, si, sm, so, sp, sq, sr]
  ·rw [← h_r h]; dsimp only [tr, fA, fB, fC, fD, fE, fF, fG, fH, fI, fJ, fK, fL, fM, fO, fP, fQ, fR, fT, fU, fV, fW, fX, fY, fZ, fa, fb, fc, fd, fe, fh, fi, fm, fo, fp, fq, fr, sA, sB, sC, sD, sE, sF, sG, sH, sI, sJ, sK, sL, sM, sO, sP, sQ, sR, sT, sU, sV, sW, sX, sY, sZ, sa, sb, sc, sd, se, sh, si, sm, so, sp, sq, sr]
  ·rw [← h_i h]; dsimp only [ti, fA, fB, fC, fD, fE, fF, fG, fH, fI, fJ, fK, fL, fM, fO, fP, fQ, fR, fT, fU, fV, fW, fX, fY, fZ, fa, fb, fc, fd, fe, fh, fi, fm, fo, fp, fq, fr, sA, sB, sC, sD, sE, sF, sG, sH, sI, sJ, sK, sL, sM, sO, sP, sQ, sR, sT, sU, sV, sW, sX, sY, sZ, sa, sb, sc, sd, se, sh, si, sm, so, sp, sq, sr]
 generalize sD (sC (sB (sA o (b.1.set n a)) (b.2.1.set n d)) (b.2.2.1.set n s)) (b.2.2.2.1.set n m) = p at *
 unfold F7
 rw [g_bTerm hs, g_bTest hs, g_bT0 hs, aset_at hn (by simp only; omega), Option.bind_some, aset_at hn (by simp only; omega), Option.bind_some, aset_at hn (by simp only; omega), Option.bind_some, Option.bind_some]
 simp only
 have e2 : fH (sG (sF (sE p (b.2.2.2.2.1.set n 0)) (b.2.2.2.2.2.1.set n 0)) (b.2.2.2.2.2.2.1.set n 0)) = b.2.2.2.2.2.2.2 := by
  rw [show b.2.2.2.2.2.2.2 = fH p from (g_bT1 hs).symm]; dsimp only [fA, fB, fC, fD, fE, fF, fG, fH, fI, fJ, fK, fL, fM, fO, fP, fQ, fR, fT, fU, fV, fW, fX, fY, fZ, fa, fb, fc, fd, fe, fh, fi, fm, fo, fp, fq, fr, sA, sB, sC, sD, sE, sF, sG, sH, sI, sJ, sK, sL, sM, sO, sP, sQ, sR, sT, sU, sV, sW, sX, sY, sZ, sa, sb, sc, sd, se, sh, si, sm, so, sp, sq, sr]
 rw [e2, aset_at hn (by omega), Option.bind_some]
 have hq : Sh (b.1.set n a, b.2.1.set n d, b.2.2.1.set n s, b.2.2.2.1.set n m, b.2.2.2.2.1.set n 0, b.2.2.2.2.2.1.set n 0, b.2.2.2.2.2.2.1.set n 0, b.2.2.2.2.2.2.2.set n 0) k r (i.1, i.2.1, N, 0) (si (sH (sG (sF (sE p (b.2.2.2.2.1.set n 0)) (b.2.2.2.2.2.1.set n 0)) (b.2.2.2.2.2.2.1.set n 0)) (b.2.2.2.2.2.2.2.set n 0)) N) := by
  refine hs.to (by dsimp only [lay, fA, fB, fC, fD, fE, fF, fG, fH, fI, fJ, fK, fL, fM, fO, fP, fQ, fR, fT, fU, fV, fW, fX, fY, fZ, fa, fb, fc, fd, fe, fh, fi, fm, fo, fp, fq, fr, sA, sB, sC, sD, sE, sF, sG, sH, sI, sJ, sK, sL, sM, sO, sP, sQ, sR, sT, sU, sV, sW, sX, sY, sZ, sa, sb, sc, sd, se, sh, si, sm, so, sp, sq, sr]) ?_ ?_ ?_ ?_
  ·rw [show b.1.set n a = fA p from (g_bOp hs).symm, show b.2.1.set n d = fB p from (g_bD hs).symm, show b.2.2.1.set n s = fC p from (g_bS hs).symm, show b.2.2.2.1.set n m = fD p from (g_bImm hs).symm]
   dsimp only [tb, fA, fB, fC, fD, fE, fF, fG, fH, fI, fJ, fK, fL, fM, fO, fP, fQ, fR, fT, fU, fV, fW, fX, fY, fZ, fa, fb, fc, fd, fe, fh, fi, fm, fo, fp, fq, fr, sA, sB, sC, sD, sE, sF, sG, sH, sI, sJ, sK, sL, sM, sO, sP, sQ, sR, sT, sU, sV, sW, sX, sY, sZ, sa, sb, sc, sd, se, sh, si, sm, so, sp, sq, sr]
  ·rw [← h_k hs]; dsimp only [tk, fA, fB, fC, fD, fE, fF, fG, fH, fI, fJ, fK, fL, fM, fO, fP, fQ, fR, fT, fU, fV, fW, fX, fY, fZ, fa, fb, fc, fd, fe, fh, fi, fm, fo, fp, fq, fr, sA, sB, sC, sD, sE, sF, sG, sH, sI, sJ, sK, sL, sM, sO, sP, sQ, sR, sT, sU, sV, sW, sX, sY, sZ, sa, sb, sc, sd, se, sh, si, sm, so, sp, sq, sr]
  ·rw [← h_r hs]; dsimp only [tr, fA, fB, fC, fD, fE, fF, fG, fH, fI, fJ, fK, fL, fM, fO, fP, fQ, fR, fT, fU, fV, fW, fX, fY, fZ, fa, fb, fc, fd, fe, fh, fi, fm, fo, fp, fq, fr, sA, sB, sC, sD, sE, sF, sG, sH, sI, sJ, sK, sL, sM, sO, sP, sQ, sR, sT, sU, sV, sW, sX, sY, sZ, sa, sb, sc, sd, se, sh, si, sm, so, sp, sq, sr]
  ·rw [← g_mb hs, ← g_ms hs, show (0 : Int32) = fm p by rw [g_ar hs, ar]]; dsimp only [ti, fA, fB, fC, fD, fE, fF, fG, fH, fI, fJ, fK, fL, fM, fO, fP, fQ, fR, fT, fU, fV, fW, fX, fY, fZ, fa, fb, fc, fd, fe, fh, fi, fm, fo, fp, fq, fr, sA, sB, sC, sD, sE, sF, sG, sH, sI, sJ, sK, sL, sM, sO, sP, sQ, sR, sT, sU, sV, sW, sX, sY, sZ, sa, sb, sc, sd, se, sh, si, sm, so, sp, sq, sr]
 generalize si (sH (sG (sF (sE p (b.2.2.2.2.1.set n 0)) (b.2.2.2.2.2.1.set n 0)) (b.2.2.2.2.2.2.1.set n 0)) (b.2.2.2.2.2.2.2.set n 0)) N = q at *
 apply okP.bind
 refine okP.mono (clear_ok hq K) ?_
 rintro t ⟨k', K', ht, _⟩
 refine okP.some (Or.inr ⟨ar, by omega, rfl, _, k', ?_, K', ht, rfl⟩)
 refine ⟨⟨by simp only [List.length_set]; exact L1, by simp only [List.length_set]; exact L2, by simp only [List.length_set]; exact L3, by simp only [List.length_set]; exact L4, by simp only [List.length_set]; exact L5, by simp only [List.length_set]; exact L6, by simp only [List.length_set]; exact L7, by simp only [List.length_set]; exact L8⟩, by omega, fun c hc => ?_⟩
 have g := G.2.2 c
 unfold te t0 t1 at *
 simp only
 rw [at_set (by omega), at_set (by omega), at_set (by omega)]
 by_cases e : c = n
 ·simp only [if_pos e]
  exact ⟨⟨by decide, by decide⟩, ⟨by decide, by show (0 : Int) < ((n + 1 : Nat) : Int); omega⟩, by decide, by show (0 : Int) < ((n + 1 : Nat) : Int); omega⟩
 ·simp only [if_neg e]
  obtain ⟨g1, g2, g3⟩ := g (by omega)
  exact ⟨g1, ⟨g2.1, by omega⟩, g3.1, by omega⟩
theorem bran_x {b : BB} {k : KK} {r : RR} {i : II} {o : Ob} (h : Sh b k r i o) {n j : Nat} (G : GB b n) (K : LK k) (hn : i.2.2.1.toInt = n) (ar : i.2.2.2 = 0) (hj : j < n) {x t y z : Int32} (hx : x.toInt = j) (s0 : 0 ≤ t.toInt) (s1 : t.toInt ≤ 15) (y0 : 0 ≤ y.toInt) (y1 : y.toInt < n) (w0 : 0 ≤ z.toInt) (w1 : z.toInt < n) : okP (F8 o x t y z) (fun w => w.1 = 1 ∧ ∃ b' k', GB b' n ∧ LK k' ∧ Sh b' k' r i w.2 ∧ b' = (b.1, b.2.1, b.2.2.1, b.2.2.2.1, b.2.2.2.2.1.set j 2, b.2.2.2.2.2.1.set j t, b.2.2.2.2.2.2.1.set j y, b.2.2.2.2.2.2.2.set j z) ∧ Zk k') := by
 have z0 : (0 : Int32).toInt = 0 := rfl
 have z15 : (15 : Int32).toInt = 15 := rfl
 have vv : ∀ {x : Int32}, 0 ≤ x.toInt → x.toInt < n → F9 o x = some 1 := by
  intro x a1 a2
  rcases vb_m h hn G.2.1 x with ⟨_, w⟩ | ⟨v, _⟩
  ·exact absurd ⟨a1, a2⟩ w
  ·exact v
 unfold F8
 rw [if_pos ((g_ar h).trans ar), vv (x := x) (by omega) (by omega), Option.bind_some, if_neg (by decide), if_neg (by rw [i_lt, z0]; omega), if_neg (by rw [i_lt, z15]; omega), vv y0 y1, Option.bind_some, if_neg (by decide), vv w0 w1, Option.bind_some, if_neg (by decide)]
 exact term_w h G K hj hx 2 t y z s0 s1 y0 y1 w0 w1
theorem jump_x {b : BB} {k : KK} {r : RR} {i : II} {o : Ob} (h : Sh b k r i o) {n j : Nat} (G : GB b n) (K : LK k) (hn : i.2.2.1.toInt = n) (ar : i.2.2.2 = 0) (hj : j < n) {x y : Int32} (hx : x.toInt = j) (y0 : 0 ≤ y.toInt) (y1 : y.toInt < n) : okP (F10 o x y) (fun w => w.1 = 1 ∧ ∃ b' k', GB b' n ∧ LK k' ∧ Sh b' k' r i w.2 ∧ b' = (b.1, b.2.1, b.2.2.1, b.2.2.2.1, b.2.2.2.2.1.set j 1, b.2.2.2.2.2.1.set j 0, b.2.2.2.2.2.2.1.set j y, b.2.2.2.2.2.2.2.set j 0) ∧ Zk k') := by
 have vv : ∀ {x : Int32}, 0 ≤ x.toInt → x.toInt < n → F9 o x = some 1 := by
  intro x a1 a2
  rcases vb_m h hn G.2.1 x with ⟨_, w⟩ | ⟨v, _⟩
  ·exact absurd ⟨a1, a2⟩ w
  ·exact v
 unfold F10
 rw [if_pos ((g_ar h).trans ar), vv (x := x) (by omega) (by omega), Option.bind_some, if_neg (by decide), vv y0 y1, Option.bind_some, if_neg (by decide)]
 exact term_w h G K hj hx 1 0 y 0 (by decide) (by decide) y0 y1 (by decide) (by show (0 : Int) < n; omega)
theorem w_regs {b : BB} {k : KK} {r : RR} {i : II} {o : Ob} (h : Sh b k r i o) (v : List Int32) : Sh b k (v, r.2) i (sK o v) := by
 refine h.to (by dsimp only [lay, fA, fB, fC, fD, fE, fF, fG, fH, fI, fJ, fK, fL, fM, fO, fP, fQ, fR, fT, fU, fV, fW, fX, fY, fZ, fa, fb, fc, fd, fe, fh, fi, fm, fo, fp, fq, fr, sA, sB, sC, sD, sE, sF, sG, sH, sI, sJ, sK, sL, sM, sO, sP, sQ, sR, sT, sU, sV, sW, sX, sY, sZ, sa, sb, sc, sd, se, sh, si, sm, so, sp, sq, sr]) ?_ ?_ ?_ ?_
 ·rw [← h_b h]; dsimp only [tb, fA, fB, fC, fD, fE, fF, fG, fH, fI, fJ, fK, fL, fM, fO, fP, fQ, fR, fT, fU, fV, fW, fX, fY, fZ, fa, fb, fc, fd, fe, fh, fi, fm, fo, fp, fq, fr, sA, sB, sC, sD, sE, sF, sG, sH, sI, sJ, sK, sL, sM, sO, sP, sQ, sR, sT, sU, sV, sW, sX, sY, sZ, sa, sb, sc, sd, se, sh, si, sm, so, sp, sq, sr]
 ·rw [← h_k h]; dsimp only [tk, fA, fB, fC, fD, fE, fF, fG, fH, fI, fJ, fK, fL, fM, fO, fP, fQ, fR, fT, fU, fV, fW, fX, fY, fZ, fa, fb, fc, fd, fe, fh, fi, fm, fo, fp, fq, fr, sA, sB, sC, sD, sE, sF, sG, sH, sI, sJ, sK, sL, sM, sO, sP, sQ, sR, sT, sU, sV, sW, sX, sY, sZ, sa, sb, sc, sd, se, sh, si, sm, so, sp, sq, sr]
 ·rw [← h_r h]; dsimp only [tr, fA, fB, fC, fD, fE, fF, fG, fH, fI, fJ, fK, fL, fM, fO, fP, fQ, fR, fT, fU, fV, fW, fX, fY, fZ, fa, fb, fc, fd, fe, fh, fi, fm, fo, fp, fq, fr, sA, sB, sC, sD, sE, sF, sG, sH, sI, sJ, sK, sL, sM, sO, sP, sQ, sR, sT, sU, sV, sW, sX, sY, sZ, sa, sb, sc, sd, se, sh, si, sm, so, sp, sq, sr]
 ·rw [← h_i h]; dsimp only [ti, fA, fB, fC, fD, fE, fF, fG, fH, fI, fJ, fK, fL, fM, fO, fP, fQ, fR, fT, fU, fV, fW, fX, fY, fZ, fa, fb, fc, fd, fe, fh, fi, fm, fo, fp, fq, fr, sA, sB, sC, sD, sE, sF, sG, sH, sI, sJ, sK, sL, sM, sO, sP, sQ, sR, sT, sU, sV, sW, sX, sY, sZ, sa, sb, sc, sd, se, sh, si, sm, so, sp, sq, sr]
theorem w_outs {b : BB} {k : KK} {r : RR} {i : II} {o : Ob} (h : Sh b k r i o) (v : List Int32) : Sh b k (r.1, v, r.2.2) i (sL o v) := by
 refine h.to (by dsimp only [lay, fA, fB, fC, fD, fE, fF, fG, fH, fI, fJ, fK, fL, fM, fO, fP, fQ, fR, fT, fU, fV, fW, fX, fY, fZ, fa, fb, fc, fd, fe, fh, fi, fm, fo, fp, fq, fr, sA, sB, sC, sD, sE, sF, sG, sH, sI, sJ, sK, sL, sM, sO, sP, sQ, sR, sT, sU, sV, sW, sX, sY, sZ, sa, sb, sc, sd, se, sh, si, sm, so, sp, sq, sr]) ?_ ?_ ?_ ?_
 ·rw [← h_b h]; dsimp only [tb, fA, fB, fC, fD, fE, fF, fG, fH, fI, fJ, fK, fL, fM, fO, fP, fQ, fR, fT, fU, fV, fW, fX, fY, fZ, fa, fb, fc, fd, fe, fh, fi, fm, fo, fp, fq, fr, sA, sB, sC, sD, sE, sF, sG, sH, sI, sJ, sK, sL, sM, sO, sP, sQ, sR, sT, sU, sV, sW, sX, sY, sZ, sa, sb, sc, sd, se, sh, si, sm, so, sp, sq, sr]
 ·rw [← h_k h]; dsimp only [tk, fA, fB, fC, fD, fE, fF, fG, fH, fI, fJ, fK, fL, fM, fO, fP, fQ, fR, fT, fU, fV, fW, fX, fY, fZ, fa, fb, fc, fd, fe, fh, fi, fm, fo, fp, fq, fr, sA, sB, sC, sD, sE, sF, sG, sH, sI, sJ, sK, sL, sM, sO, sP, sQ, sR, sT, sU, sV, sW, sX, sY, sZ, sa, sb, sc, sd, se, sh, si, sm, so, sp, sq, sr]
 ·rw [← h_r h]; dsimp only [tr, fA, fB, fC, fD, fE, fF, fG, fH, fI, fJ, fK, fL, fM, fO, fP, fQ, fR, fT, fU, fV, fW, fX, fY, fZ, fa, fb, fc, fd, fe, fh, fi, fm, fo, fp, fq, fr, sA, sB, sC, sD, sE, sF, sG, sH, sI, sJ, sK, sL, sM, sO, sP, sQ, sR, sT, sU, sV, sW, sX, sY, sZ, sa, sb, sc, sd, se, sh, si, sm, so, sp, sq, sr]
 ·rw [← h_i h]; dsimp only [ti, fA, fB, fC, fD, fE, fF, fG, fH, fI, fJ, fK, fL, fM, fO, fP, fQ, fR, fT, fU, fV, fW, fX, fY, fZ, fa, fb, fc, fd, fe, fh, fi, fm, fo, fp, fq, fr, sA, sB, sC, sD, sE, sF, sG, sH, sI, sJ, sK, sL, sM, sO, sP, sQ, sR, sT, sU, sV, sW, sX, sY, sZ, sa, sb, sc, sd, se, sh, si, sm, so, sp, sq, sr]
theorem reset_ok {b : BB} {k : KK} {r : RR} {i : II} {o : Ob} (h : Sh b k r i o) (L : LB b) (K : LK k) (R : LR r) : okP (F2 o) (fun p => ∃ k' r', GB b 0 ∧ LK k' ∧ LR r' ∧ Sh b k' r' (i.1, i.2.1, 0, 0) p) := by
 have z4 : (4 : Int32).toInt = 4 := rfl
 have z16 : (16 : Int32).toInt = 16 := rfl
 have h1 : Sh b k r (i.1, i.2.1, 0, 0) (sm (si o 0) 0) := by
  refine h.to (by dsimp only [lay, fA, fB, fC, fD, fE, fF, fG, fH, fI, fJ, fK, fL, fM, fO, fP, fQ, fR, fT, fU, fV, fW, fX, fY, fZ, fa, fb, fc, fd, fe, fh, fi, fm, fo, fp, fq, fr, sA, sB, sC, sD, sE, sF, sG, sH, sI, sJ, sK, sL, sM, sO, sP, sQ, sR, sT, sU, sV, sW, sX, sY, sZ, sa, sb, sc, sd, se, sh, si, sm, so, sp, sq, sr]) ?_ ?_ ?_ ?_
  ·rw [← h_b h]; dsimp only [tb, fA, fB, fC, fD, fE, fF, fG, fH, fI, fJ, fK, fL, fM, fO, fP, fQ, fR, fT, fU, fV, fW, fX, fY, fZ, fa, fb, fc, fd, fe, fh, fi, fm, fo, fp, fq, fr, sA, sB, sC, sD, sE, sF, sG, sH, sI, sJ, sK, sL, sM, sO, sP, sQ, sR, sT, sU, sV, sW, sX, sY, sZ, sa, sb, sc, sd, se, sh, si, sm, so, sp, sq, sr]
  ·rw [← h_k h]; dsimp only [tk, fA, fB, fC, fD, fE, fF, fG, fH, fI, fJ, fK, fL, fM, fO, fP, fQ, fR, fT, fU, fV, fW, fX, fY, fZ, fa, fb, fc, fd, fe, fh, fi, fm, fo, fp, fq, fr, sA, sB, sC, sD, sE, sF, sG, sH, sI, sJ, sK, sL, sM, sO, sP, sQ, sR, sT, sU, sV, sW, sX, sY, sZ, sa, sb, sc, sd, se, sh, si, sm, so, sp, sq, sr]
  ·rw [← h_r h]; dsimp only [tr, fA, fB, fC, fD, fE, fF, fG, fH, fI, fJ, fK, fL, fM, fO, fP, fQ, fR, fT, fU, fV, fW, fX, fY, fZ, fa, fb, fc, fd, fe, fh, fi, fm, fo, fp, fq, fr, sA, sB, sC, sD, sE, sF, sG, sH, sI, sJ, sK, sL, sM, sO, sP, sQ, sR, sT, sU, sV, sW, sX, sY, sZ, sa, sb, sc, sd, se, sh, si, sm, so, sp, sq, sr]
  ·rw [← h_i h]; dsimp only [ti, fA, fB, fC, fD, fE, fF, fG, fH, fI, fJ, fK, fL, fM, fO, fP, fQ, fR, fT, fU, fV, fW, fX, fY, fZ, fa, fb, fc, fd, fe, fh, fi, fm, fo, fp, fq, fr, sA, sB, sC, sD, sE, sF, sG, sH, sI, sJ, sK, sL, sM, sO, sP, sQ, sR, sT, sU, sV, sW, sX, sY, sZ, sa, sb, sc, sd, se, sh, si, sm, so, sp, sq, sr]
 unfold F2
 generalize sm (si o 0) 0 = o' at *
 apply okP.bind
 refine okP.mono (clear_ok h1 K) ?_
 rintro p ⟨k', K', hp, _⟩
 apply okP.bind
 refine okP.mono (P := fun p => ∃ r', LR r' ∧ Sh b k' r' (i.1, i.2.1, 0, 0) p) ?_ ?_
 ·refine okP.loop (fun w : Int32 × Ob => 0 ≤ w.1.toInt ∧ ∃ r', LR r' ∧ Sh b k' r' (i.1, i.2.1, 0, 0) w.2) (fun w => (4 - w.1.toInt).toNat) ⟨by show (0 : Int) ≤ 0; decide, r, R, hp⟩ (by show (4 - (0 : Int)).toNat < 4000; decide) ?_
  rintro ⟨x, q⟩ ⟨x0, r', R', hq⟩
  simp only at x0 hq
  unfold B2_16
  simp only
  refine okP.ite (fun c => ?_) (fun _ => okP.some ⟨r', R', hq⟩)
  rw [i_lt, z4] at c
  have e1 : (x + 1).toInt = x.toInt + 1 := inc1 (by omega)
  have l := R'.1
  rw [g_regs hq]
  apply okP.bind; refine okP.aset (by omega) (by omega) ?_
  exact okP.some ⟨⟨by simp only; omega, (r'.1.set x.toInt.toNat 0, r'.2), ⟨by simp only [List.length_set]; exact l, R'.2⟩, w_regs hq _⟩, by simp only; omega⟩
 rintro q ⟨r', R', hq⟩
 apply okP.bind
 refine okP.mono (P := fun p => ∃ r', LR r' ∧ Sh b k' r' (i.1, i.2.1, 0, 0) p) ?_ ?_
 ·refine okP.loop (fun w : Int32 × Ob => 0 ≤ w.1.toInt ∧ ∃ r', LR r' ∧ Sh b k' r' (i.1, i.2.1, 0, 0) w.2) (fun w => (16 - w.1.toInt).toNat) ⟨by show (0 : Int) ≤ 0; decide, r', R', hq⟩ (by show (16 - (0 : Int)).toNat < 4000; decide) ?_
  rintro ⟨x, q⟩ ⟨x0, r', R', hq⟩
  simp only at x0 hq
  unfold B2_36
  simp only
  refine okP.ite (fun c => ?_) (fun _ => okP.some ⟨r', R', hq⟩)
  rw [i_lt, z16] at c
  have e1 : (x + 1).toInt = x.toInt + 1 := inc1 (by omega)
  have l := R'.2
  rw [g_outs hq]
  apply okP.bind; refine okP.aset (by omega) (by omega) ?_
  exact okP.some ⟨⟨by simp only; omega, (r'.1, r'.2.1.set x.toInt.toNat 0, r'.2.2), ⟨R'.1, by simp only [List.length_set]; exact l⟩, w_outs hq _⟩, by simp only; omega⟩
 rintro t ⟨r2, R2, ht⟩
 have h2 : Sh b k' (r2.1, r2.2.1, 0, 0, 0) (i.1, i.2.1, 0, 0) (sq (sp (so t 0) 0) 0) := by
  refine ht.to (by dsimp only [lay, fA, fB, fC, fD, fE, fF, fG, fH, fI, fJ, fK, fL, fM, fO, fP, fQ, fR, fT, fU, fV, fW, fX, fY, fZ, fa, fb, fc, fd, fe, fh, fi, fm, fo, fp, fq, fr, sA, sB, sC, sD, sE, sF, sG, sH, sI, sJ, sK, sL, sM, sO, sP, sQ, sR, sT, sU, sV, sW, sX, sY, sZ, sa, sb, sc, sd, se, sh, si, sm, so, sp, sq, sr]) ?_ ?_ ?_ ?_
  ·rw [← h_b ht]; dsimp only [tb, fA, fB, fC, fD, fE, fF, fG, fH, fI, fJ, fK, fL, fM, fO, fP, fQ, fR, fT, fU, fV, fW, fX, fY, fZ, fa, fb, fc, fd, fe, fh, fi, fm, fo, fp, fq, fr, sA, sB, sC, sD, sE, sF, sG, sH, sI, sJ, sK, sL, sM, sO, sP, sQ, sR, sT, sU, sV, sW, sX, sY, sZ, sa, sb, sc, sd, se, sh, si, sm, so, sp, sq, sr]
  ·rw [← h_k ht]; dsimp only [tk, fA, fB, fC, fD, fE, fF, fG, fH, fI, fJ, fK, fL, fM, fO, fP, fQ, fR, fT, fU, fV, fW, fX, fY, fZ, fa, fb, fc, fd, fe, fh, fi, fm, fo, fp, fq, fr, sA, sB, sC, sD, sE, sF, sG, sH, sI, sJ, sK, sL, sM, sO, sP, sQ, sR, sT, sU, sV, sW, sX, sY, sZ, sa, sb, sc, sd, se, sh, si, sm, so, sp, sq, sr]
  ·rw [← h_r ht]; dsimp only [tr, fA, fB, fC, fD, fE, fF, fG, fH, fI, fJ, fK, fL, fM, fO, fP, fQ, fR, fT, fU, fV, fW, fX, fY, fZ, fa, fb, fc, fd, fe, fh, fi, fm, fo, fp, fq, fr, sA, sB, sC, sD, sE, sF, sG, sH, sI, sJ, sK, sL, sM, sO, sP, sQ, sR, sT, sU, sV, sW, sX, sY, sZ, sa, sb, sc, sd, se, sh, si, sm, so, sp, sq, sr]
  ·rw [← h_i ht]; dsimp only [ti, fA, fB, fC, fD, fE, fF, fG, fH, fI, fJ, fK, fL, fM, fO, fP, fQ, fR, fT, fU, fV, fW, fX, fY, fZ, fa, fb, fc, fd, fe, fh, fi, fm, fo, fp, fq, fr, sA, sB, sC, sD, sE, sF, sG, sH, sI, sJ, sK, sL, sM, sO, sP, sQ, sR, sT, sU, sV, sW, sX, sY, sZ, sa, sb, sc, sd, se, sh, si, sm, so, sp, sq, sr]
 exact okP.some ⟨k', (r2.1, r2.2.1, 0, 0, 0), ⟨L, by omega, fun j hj => absurd hj (by omega)⟩, K', ⟨R2.1, R2.2⟩, h2⟩
theorem reg_m {b : BB} {k : KK} {r : RR} {i : II} {o : Ob} (h : Sh b k r i o) (R : LR r) (x : Int32) : F19 o x = some (if x < 0 then 0 else if 3 < x then 0 else at' r.1 x.toInt.toNat) := by
 have z0 : (0 : Int32).toInt = 0 := rfl
 have z3 : (3 : Int32).toInt = 3 := rfl
 unfold F19
 by_cases x0 : x < 0
 ·rw [if_pos x0, if_pos x0]
 rw [if_neg x0, if_neg x0]
 by_cases x3 : 3 < x
 ·rw [if_pos x3, if_pos x3]
 rw [if_neg x3, if_neg x3]
 rw [i_lt] at x0 x3
 have l := R.1
 rw [g_regs h, ag (a := x.toInt.toNat) (by omega) (by omega), Option.bind_some]
theorem out_m {b : BB} {k : KK} {r : RR} {i : II} {o : Ob} (h : Sh b k r i o) (R : LR r) (x : Int32) : F20 o x = some (if x < 0 then 0 else if x < r.2.2.1 then (if x < 16 then at' r.2.1 x.toInt.toNat else 0) else 0) := by
 have z0 : (0 : Int32).toInt = 0 := rfl
 have z16 : (16 : Int32).toInt = 16 := rfl
 unfold F20
 rw [g_oc h]
 by_cases x0 : x < 0
 ·rw [if_pos x0, if_pos x0]
 rw [if_neg x0, if_neg x0]
 by_cases x3 : x < r.2.2.1
 ·rw [if_pos x3, if_pos x3]
  by_cases x4 : x < 16
  ·rw [if_pos x4, if_pos x4]
   rw [i_lt] at x0 x4
   have l := R.2
   rw [g_outs h, ag (a := x.toInt.toNat) (by omega) (by omega), Option.bind_some]
  ·rw [if_neg x4, if_neg x4]
 ·rw [if_neg x3, if_neg x3]
theorem edge_m {b : BB} {k : KK} {r : RR} {i : II} {o : Ob} (h : Sh b k r i o) {n : Nat} (hn : i.2.2.1.toInt = n) (n16 : n ≤ 16) (K : LK k) (x y : Int32) : F22 o x y = some (if 0 ≤ x.toInt ∧ x.toInt < n then (if y = 0 then at' k.1 x.toInt.toNat else if y = 1 then at' k.2 x.toInt.toNat else 0) else 0) := by
 have l1 := K.1
 have l2 := K.2
 unfold F22
 rcases vb_m h hn n16 x with ⟨v, w⟩ | ⟨v, j, hj, hx⟩
 ·rw [v, Option.bind_some, if_pos rfl, if_neg w]
 ·rw [v, Option.bind_some, if_neg (by decide), if_pos (show 0 ≤ x.toInt ∧ x.toInt < n by omega), g_cnt0 h, g_cnt1 h, ag hx (by omega), ag hx (by omega), Option.bind_some, Option.bind_some, show x.toInt.toNat = j by omega]
  by_cases y0 : y = 0
  ·rw [if_pos y0, if_pos y0]
  ·rw [if_neg y0, if_neg y0]
   by_cases y1 : y = 1
   ·rw [if_pos y1, if_pos y1]
   ·rw [if_neg y1, if_neg y1]
theorem runL (b : BB) : ∀ (f c : Nat) (σ : SS) (k : KK) (t : Int32), σ.1.length = 4 → σ.2.1.length = 16 → LK k → ((runP b f c σ k t).2.1.1.length = 4 ∧ (runP b f c σ k t).2.1.2.1.length = 16) ∧ LK (runP b f c σ k t).2.2.1
 | 0, c, σ, k, t, h1, h2, h3 => ⟨⟨h1, h2⟩, h3⟩
 | f + 1, c, σ, k, t, h1, h2, h3 => by
  have ln := ex_len (op b c) (dd b c) (ss b c) (im b c) σ
  have e1 : (ob b c σ).1.length = 4 := ln.1.trans h1
  have e2 : (ob b c σ).2.1.length = 16 := ln.2.trans h2
  have e : runP b (f + 1) c σ k t = if slot b c (ob b c σ).1 = 2 then (1, ob b c σ, k, t + 1) else runP b f (dest b c (slot b c (ob b c σ).1)) (ob b c σ) (bump k c (slot b c (ob b c σ).1)) (t + 1) := rfl
  rw [e]
  by_cases s2 : slot b c (ob b c σ).1 = 2
  ·rw [if_pos s2]
   exact ⟨⟨e1, e2⟩, h3⟩
  ·rw [if_neg s2]
   exact runL b f _ _ _ _ e1 e2 (bump_len h3 _ _)

theorem mskbit {w : Nat} (hw : w < 64) (i : Nat) : (BitVec.ofNat 64 (2 ^ w - 1)).getLsbD i = decide (i < w) := by
 rw [BitVec.getLsbD_ofNat, Nat.testBit_two_pow_sub_one]
 by_cases h : i < w
 ·have : i < 64 := by omega
  simp [h, this]
 ·simp [h]
theorem ofI {x : Int32} {n : Nat} (h : x.toInt = n) : x = Int32.ofInt n := by rw [← h, Int32.ofInt_toInt]
theorem shl64 (v : Int64) {y : Int32} {n : Nat} (h : y.toInt = n) (hn : n < 64) : (v <<< (y.toInt64 &&& 63)).toBitVec = v.toBitVec <<< n := by
 have : ∀ n : Fin 64, (((Int32.ofInt n.1).toInt64 &&& 63).toBitVec.smod 64) = BitVec.ofNat 64 n.1 := by decide
 rw [ofI h]
 show v.toBitVec <<< (((Int32.ofInt n).toInt64 &&& 63).toBitVec.smod 64) = _
 rw [this ⟨n, hn⟩, BitVec.shiftLeft_eq']
 congr 1
 simp; omega
theorem ushr64 (v : Int64) {y : Int32} {n : Nat} (h : y.toInt = n) (hn : n < 64) : (XT.ushrL v y).toBitVec = v.toBitVec >>> n := by
 have : ∀ n : Fin 64, (((Int32.ofInt n.1).toInt64.toUInt64 &&& Int64.toUInt64 63) % 64).toBitVec = BitVec.ofNat 64 n.1 := by decide
 rw [ofI h]
 show v.toBitVec >>> (((Int32.ofInt n).toInt64.toUInt64 &&& Int64.toUInt64 63) % 64).toBitVec = _
 rw [this ⟨n, hn⟩, BitVec.ushiftRight_eq']
 congr 1
 simp; omega
def pk (a b : Int32) : Int64 := (a.toInt64 &&& (4294967295 : Int64)) ||| (b.toInt64 <<< ((32 : Int32).toInt64 &&& 63))
theorem pk_b (a b : Int32) : (pk a b).toBitVec = (a.toBitVec.signExtend 64 &&& BitVec.ofNat 64 (2 ^ 32 - 1)) ||| (b.toBitVec.signExtend 64 <<< 32) := by
 show (a.toInt64.toBitVec &&& (4294967295 : Int64).toBitVec) ||| (b.toInt64 <<< ((32 : Int32).toInt64 &&& 63)).toBitVec = _
 rw [shl64 _ (n := 32) rfl (by decide), Int32.toBitVec_toInt64, Int32.toBitVec_toInt64]
 rfl
theorem pk_lo (a b : Int32) : (pk a b).toInt32 = a := by
 apply Int32.toBitVec_inj.1
 apply BitVec.eq_of_getLsbD_eq
 intro i hi
 rw [Int64.toBitVec_toInt32, pk_b]
 have mb := mskbit (w := 32) (by decide)
 have h64 : i < 64 := by omega
 simp only [BitVec.getLsbD_signExtend, BitVec.getLsbD_or, BitVec.getLsbD_and, BitVec.getLsbD_shiftLeft, mb]
 simp [hi, h64]
theorem pk_hi (a b : Int32) : (XT.ushrL (pk a b) 32).toInt32 = b := by
 apply Int32.toBitVec_inj.1
 apply BitVec.eq_of_getLsbD_eq
 intro i hi
 rw [Int64.toBitVec_toInt32, ushr64 _ (n := 32) rfl (by decide), pk_b]
 have mb := mskbit (w := 32) (by decide)
 have h64 : i < 64 := by omega
 have h32 : 32 + i < 64 := by omega
 have h3 : ¬ 32 + i < 32 := by omega
 have h4 : 32 + i - 32 = i := by omega
 simp only [BitVec.getLsbD_signExtend, BitVec.getLsbD_ushiftRight, BitVec.getLsbD_or, BitVec.getLsbD_and, BitVec.getLsbD_shiftLeft, mb, h4]
 simp [hi, h64, h32, h3]
theorem cell_m {s : List Int32} (hs : s.length ≤ 260) {x : Int32} (hx : 0 ≤ x.toInt) : okP (F4 s x) (fun _ => True) := by
 have hl := len_i (n := s.length) (by omega)
 unfold F4
 refine okP.ite (fun c => ?_) (fun _ => okP.some trivial)
 rw [i_lt, hl] at c
 apply okP.bind
 exact okP.aget hx c (fun v _ => okP.some trivial)
theorem mod_m (x : Int32) {y : Int32} (h1 : 0 < y.toInt) (h2 : y.toInt ≤ 1000) : okP (F5 x y) (fun r => 0 ≤ r.toInt ∧ r.toInt < y.toInt) := by
 have z0 : (0 : Int32).toInt = 0 := rfl
 have b1 : -y.toInt < (x % y).toInt ∧ (x % y).toInt < y.toInt := by
  rw [Int32.toInt_mod]
  have l := Int.tmod_lt_of_pos x.toInt h1
  have l2 := Int.lt_tmod_of_pos x.toInt h1
  exact ⟨l2, l⟩
 unfold F5 qrem
 rw [if_neg (by rw [i_eq, z0]; omega), Option.bind_some]
 refine okP.ite (fun c => okP.some ?_) (fun c => okP.some ?_)
 ·rw [i_lt, z0] at c
  rw [i_add (by omega) (by omega)]; omega
 ·rw [i_lt, z0] at c; omega
def Tw (n : Nat) (ar : Int32) (ka : KK) (oa ob : Ob) : Prop := ∃ b kb ra rb N, Sh b ka ra (8, 32, N, ar) oa ∧ Sh b kb rb (8, 32, N, 0) ob ∧ GB b n ∧ LK ka ∧ LK kb ∧ LR ra ∧ LR rb ∧ N.toInt = (n : Nat) ∧ (ar = 0 ∨ (ar = 1 ∧ 0 < n ∧ Lay b n (tc oa)))
theorem Sh.lens {b : BB} {k : KK} {r : RR} {i : II} {o : Ob} (h : Sh b k r i o) (L : LB b) (K : LK k) (R : LR r) : ((fA o).length = 16 ∧ (fB o).length = 16 ∧ (fC o).length = 16 ∧ (fD o).length = 16 ∧ (fE o).length = 16 ∧ (fF o).length = 16 ∧ (fG o).length = 16 ∧ (fH o).length = 16) ∧ ((fI o).length = 16 ∧ (fJ o).length = 16) ∧ (fK o).length = 4 ∧ (fL o).length = 16 := by
 rw [g_bOp h, g_bD h, g_bS h, g_bImm h, g_bTerm h, g_bTest h, g_bT0 h, g_bT1 h, g_cnt0 h, g_cnt1 h, g_regs h, g_outs h]
 exact ⟨L, K, R⟩
theorem Tw.fit {n : Nat} {ar : Int32} {ka : KK} {oa ob : Ob} (T : Tw n ar ka oa ob) (s : List Int32) : sFit s (H1 s oa ob) := by
 obtain ⟨b, kb, ra, rb, N, ha, hb, G, Ka, Kb, Ra, Rb, _⟩ := T
 obtain ⟨⟨a1, a2, a3, a4, a5, a6, a7, a8⟩, ⟨a9, a10⟩, a11, a12⟩ := ha.lens G.1 Ka Ra
 obtain ⟨⟨b1, b2, b3, b4, b5, b6, b7, b8⟩, ⟨b9, b10⟩, b11, b12⟩ := hb.lens G.1 Kb Rb
 refine ⟨by show 59 - 1 ≤ _; decide, ?_⟩
 simp only [H1, H1v, qhs, qsz, a1, a2, a3, a4, a5, a6, a7, a8, a9, a10, a11, a12, b1, b2, b3, b4, b5, b6, b7, b8, b9, b10, b11, b12, Sh_l_edgeId ha, Sh_l_edgeW ha, Sh_l_chNext ha, Sh_l_chPrev ha, Sh_l_chHead ha, Sh_l_heat ha, Sh_l_posOf ha, Sh_l_order ha, Sh_l_cOp ha, Sh_l_cD ha, Sh_l_cS ha, Sh_l_cImm ha, Sh_l_cKind ha, Sh_l_cTest ha, Sh_l_cTaken ha, Sh_l_cOther ha, Sh_l_edgeId hb, Sh_l_edgeW hb, Sh_l_chNext hb, Sh_l_chPrev hb, Sh_l_chHead hb, Sh_l_heat hb, Sh_l_posOf hb, Sh_l_order hb, Sh_l_cOp hb, Sh_l_cD hb, Sh_l_cS hb, Sh_l_cImm hb, Sh_l_cKind hb, Sh_l_cTest hb, Sh_l_cTaken hb, Sh_l_cOther hb]
 simp only [cN, room_1]
 omega
theorem Tw.reset {n : Nat} {ar : Int32} {ka : KK} {oa ob : Ob} (T : Tw n ar ka oa ob) : okP (F2 oa) (fun p => okP (F2 ob) (fun q => ∃ k', Tw 0 0 k' p q)) := by
 obtain ⟨b, kb, ra, rb, N, ha, hb, G, Ka, Kb, Ra, Rb, _⟩ := T
 refine okP.mono (reset_ok ha G.1 Ka Ra) ?_
 rintro p ⟨k1, r1, g, K1, R1, hp⟩
 refine okP.mono (reset_ok hb G.1 Kb Rb) ?_
 rintro q ⟨k2, r2, _, K2, R2, hq⟩
 exact ⟨k1, b, k2, r1, r2, 0, hp, hq, g, K1, K2, R1, R2, rfl, Or.inl rfl⟩
theorem Tw.add {n : Nat} {ka : KK} {oa ob : Ob} (T : Tw n 0 ka oa ob) (n8 : n < 8) {a d s : Int32} (m : Int32) (a0 : 0 ≤ a.toInt) (a1 : a.toInt ≤ 7) (d0 : 0 ≤ d.toInt) (d1 : d.toInt ≤ 3) (s0 : 0 ≤ s.toInt) (s1 : s.toInt ≤ 3) : okP (F6 oa a d s m) (fun p => okP (F6 ob a d s m) (fun q => ∃ k', Tw (n + 1) 0 k' p.2 q.2)) := by
 obtain ⟨b, kb, ra, rb, N, ha, hb, G, Ka, Kb, Ra, Rb, hN, _⟩ := T
 have e8 : (8 : Int32).toInt = 8 := rfl
 have why : (0 : Int32) = 0 ∧ (n : Int) < (8 : Int32).toInt ∧ (0 ≤ a.toInt ∧ a.toInt ≤ 7) ∧ (0 ≤ d.toInt ∧ d.toInt ≤ 3) ∧ 0 ≤ s.toInt ∧ s.toInt ≤ 3 := ⟨rfl, by omega, ⟨a0, a1⟩, ⟨d0, d1⟩, s0, s1⟩
 refine okP.mono (add_ok ha G Ka hN (by show (8 : Int32).toInt ≤ 16; omega) (by show (n : Int) ≤ (8 : Int32).toInt; omega) a d s m) ?_
 rintro p (⟨_, w⟩ | ⟨_, _, _, b1, k1, g1, K1, hp, e1⟩)
 ·exact absurd why w
 refine okP.mono (add_ok hb G Kb hN (by show (8 : Int32).toInt ≤ 16; omega) (by show (n : Int) ≤ (8 : Int32).toInt; omega) a d s m) ?_
 rintro q (⟨_, w⟩ | ⟨_, _, _, b2, k2, g2, K2, hq, e2⟩)
 ·exact absurd why w
 rw [← e1] at e2
 subst e2
 refine ⟨k1, _, k2, ra, rb, N + 1, hp, hq, g1, K1, K2, Ra, Rb, ?_, Or.inl rfl⟩
 rw [inc1 (by omega), hN]; rfl
theorem Tw.jump {n j : Nat} {ka : KK} {oa ob : Ob} (T : Tw n 0 ka oa ob) (hj : j < n) {x y : Int32} (hx : x.toInt = j) (y0 : 0 ≤ y.toInt) (y1 : y.toInt < n) : okP (F10 oa x y) (fun p => okP (F10 ob x y) (fun q => ∃ k', Tw n 0 k' p.2 q.2)) := by
 obtain ⟨b, kb, ra, rb, N, ha, hb, G, Ka, Kb, Ra, Rb, hN, _⟩ := T
 refine okP.mono (jump_x ha G Ka hN rfl hj hx y0 y1) ?_
 rintro p ⟨_, b1, k1, g1, K1, hp, e1, _⟩
 refine okP.mono (jump_x hb G Kb hN rfl hj hx y0 y1) ?_
 rintro q ⟨_, b2, k2, g2, K2, hq, e2, _⟩
 rw [← e1] at e2
 subst e2
 exact ⟨k1, _, k2, ra, rb, N, hp, hq, g1, K1, K2, Ra, Rb, hN, Or.inl rfl⟩
theorem Tw.bran {n j : Nat} {ka : KK} {oa ob : Ob} (T : Tw n 0 ka oa ob) (hj : j < n) {x t y z : Int32} (hx : x.toInt = j) (t0 : 0 ≤ t.toInt) (t1 : t.toInt ≤ 15) (y0 : 0 ≤ y.toInt) (y1 : y.toInt < n) (z0 : 0 ≤ z.toInt) (z1 : z.toInt < n) : okP (F8 oa x t y z) (fun p => okP (F8 ob x t y z) (fun q => ∃ k', Tw n 0 k' p.2 q.2)) := by
 obtain ⟨b, kb, ra, rb, N, ha, hb, G, Ka, Kb, Ra, Rb, hN, _⟩ := T
 refine okP.mono (bran_x ha G Ka hN rfl hj hx t0 t1 y0 y1 z0 z1) ?_
 rintro p ⟨_, b1, k1, g1, K1, hp, e1, _⟩
 refine okP.mono (bran_x hb G Kb hN rfl hj hx t0 t1 y0 y1 z0 z1) ?_
 rintro q ⟨_, b2, k2, g2, K2, hq, e2, _⟩
 rw [← e1] at e2
 subst e2
 exact ⟨k1, _, k2, ra, rb, N, hp, hq, g1, K1, K2, Ra, Rb, hN, Or.inl rfl⟩
def Alike (n : Nat) (p q : Ob) : Prop := fq p = fq q ∧ fp p = fp q ∧ fo p = fo q ∧ fi p = fi q ∧ (∀ x, ∃ v, F19 p x = some v ∧ F19 q x = some v) ∧ (∀ x, ∃ v, F20 p x = some v ∧ F20 q x = some v) ∧ ∀ x f, ∃ v, F21 p x f = some v ∧ F21 q x f = some v
theorem info_all {b : BB} {k : KK} {r : RR} {i : II} {o : Ob} (h : Sh b k r i o) {n : Nat} (hn : i.2.2.1.toInt = n) (G : GB b n) (x f : Int32) : F21 o x f = some (if 0 ≤ x.toInt ∧ x.toInt < n then (if f = 0 then op b x.toInt.toNat else if f = 1 then dd b x.toInt.toNat else if f = 2 then ss b x.toInt.toNat else if f = 3 then im b x.toInt.toNat else if f = 4 then tm b x.toInt.toNat else if f = 5 then te b x.toInt.toNat else if f = 6 then t0 b x.toInt.toNat else if f = 7 then t1 b x.toInt.toNat else 0) else 0) := by
 unfold F21
 rcases vb_m h hn G.2.1 x with ⟨v, w⟩ | ⟨v, j, hj, hx⟩
 ·rw [v, Option.bind_some, if_pos rfl, if_neg w]
 ·rw [v, Option.bind_some, if_neg (by decide), if_pos (show 0 ≤ x.toInt ∧ x.toInt < n by omega), a_op h G hj hx, a_dd h G hj hx, a_ss h G hj hx, a_im h G hj hx, a_tm h G hj hx, a_te h G hj hx, a_t0 h G hj hx, a_t1 h G hj hx, show x.toInt.toNat = j by omega]
  simp only [Option.bind_some]
  by_cases f0 : f = 0
  ·rw [if_pos f0, if_pos f0]
  rw [if_neg f0, if_neg f0]
  by_cases f1 : f = 1
  ·rw [if_pos f1, if_pos f1]
  rw [if_neg f1, if_neg f1]
  by_cases f2 : f = 2
  ·rw [if_pos f2, if_pos f2]
  rw [if_neg f2, if_neg f2]
  by_cases f3 : f = 3
  ·rw [if_pos f3, if_pos f3]
  rw [if_neg f3, if_neg f3]
  by_cases f4 : f = 4
  ·rw [if_pos f4, if_pos f4]
  rw [if_neg f4, if_neg f4]
  by_cases f5 : f = 5
  ·rw [if_pos f5, if_pos f5]
  rw [if_neg f5, if_neg f5]
  by_cases f6 : f = 6
  ·rw [if_pos f6, if_pos f6]
  rw [if_neg f6, if_neg f6]
  by_cases f7 : f = 7
  ·rw [if_pos f7, if_pos f7]
  rw [if_neg f7, if_neg f7]
theorem Tw.run {n : Nat} {ar : Int32} {ka : KK} {oa ob : Ob} (T : Tw n ar ka oa ob) (n0 : 0 < n) (x : Int32) : okP (F11 oa x) (fun p => okP (F11 ob x) (fun q => p.1 = q.1 ∧ Alike n p.2 q.2 ∧ ∃ k', (ar = 1 → k' = ka) ∧ Tw n ar k' p.2 q.2)) := by
 obtain ⟨b, kb, ra, rb, N, ha, hb, G, Ka, Kb, Ra, Rb, hN, M⟩ := T
 have z32 : (32 : Int32).toInt = 32 := rfl
 refine okP.mono (run_ok ha G Ka Ra n0 hN (by show (0 : Int) ≤ 32; decide) (by show (32 : Int) ≤ 1024; decide) (M.imp id (fun w => ⟨w.1, w.2.2⟩)) x) ?_
 rintro ⟨p1, p⟩ ⟨pe, hp, tp'⟩
 refine okP.mono (run_ok hb G Kb Rb n0 hN (by show (0 : Int) ≤ 32; decide) (by show (32 : Int) ≤ 1024; decide) (Or.inl rfl) x) ?_
 rintro ⟨q1, q⟩ ⟨qe, hq, tq'⟩
 have la := runL b (32 : Int32).toInt.toNat 0 ([x, 0, 0, 0], ra.2.1, 0) ka 0 rfl Ra.2 Ka
 have lb := runL b (32 : Int32).toInt.toNat 0 ([x, 0, 0, 0], rb.2.1, 0) kb 0 rfl Rb.2 Kb
 have re := run_re (b := b) (32 : Int32).toInt.toNat 0 ([x, 0, 0, 0], ra.2.1, 0) ([x, 0, 0, 0], rb.2.1, 0) ka kb 0 ⟨rfl, rfl, Ra.2, Rb.2, fun j hj => absurd hj (by show ¬ (j : Int) < 0; omega)⟩ (by show (0 : Int) ≤ 0; decide) (by show (32 : Int) + 0 ≤ 1500; decide)
 simp only at pe hp tp' qe hq tq' re
 generalize runP b (32 : Int32).toInt.toNat 0 ([x, 0, 0, 0], ra.2.1, 0) ka 0 = A at *
 generalize runP b (32 : Int32).toInt.toNat 0 ([x, 0, 0, 0], rb.2.1, 0) kb 0 = B at *
 obtain ⟨re1, ⟨re2, re3, _, _, re4⟩, re5⟩ := re
 have RA : LR (A.2.1.1, A.2.1.2.1, A.2.1.2.2, A.2.2.2, A.1) := la.1
 have RB : LR (B.2.1.1, B.2.1.2.1, B.2.1.2.2, B.2.2.2, B.1) := lb.1
 refine ⟨by rw [pe, qe, re1], ⟨?_, ?_, ?_, ?_, fun y => ?_, fun y => ?_, fun y f => ?_⟩, (if ar = 0 then A.2.2.1 else ka), fun w => by rw [if_neg (by rw [w]; decide)], b, _, _, _, N, hp, hq, G, ?_, ?_, RA, RB, hN, ?_⟩
 ·rw [g_status hp, g_status hq]; exact re1
 ·rw [g_steps hp, g_steps hq]; exact re5
 ·rw [g_oc hp, g_oc hq]; exact re3
 ·rw [g_n hp, g_n hq]
 ·refine ⟨_, reg_m hp RA y, ?_⟩
  rw [reg_m hq RB y]
  simp only
  rw [re2]
 ·refine ⟨_, out_m hp RA y, ?_⟩
  rw [out_m hq RB y]
  simp only
  rw [← re3]
  by_cases y0 : y < 0
  ·rw [if_pos y0, if_pos y0]
  ·rw [if_neg y0, if_neg y0]
   by_cases y1 : y < A.2.1.2.2
   ·have := re4 y.toInt.toNat (by rw [i_lt] at y0 y1; have z0 : (0 : Int32).toInt = 0 := rfl; omega)
    rw [if_pos y1, if_pos y1, this]
   ·rw [if_neg y1, if_neg y1]
 ·exact ⟨_, info_all hp hN G y f, info_all hq hN G y f⟩
 ·split
  ·exact la.2
  ·exact Ka
 ·exact lb.2
 ·rw [tp']; exact M
def EC (n : Nat) (k : KK) (x y : Int32) : Int32 := if 0 ≤ x.toInt ∧ x.toInt < n then (if y = 0 then at' k.1 x.toInt.toNat else if y = 1 then at' k.2 x.toInt.toNat else 0) else 0
theorem Tw.edge {n : Nat} {ar : Int32} {ka : KK} {oa ob : Ob} (T : Tw n ar ka oa ob) (x y : Int32) : F22 oa x y = some (EC n ka x y) := by
 obtain ⟨b, kb, ra, rb, N, ha, hb, G, Ka, Kb, Ra, Rb, hN, _⟩ := T
 exact edge_m ha hN G.2.1 Ka x y
def Wd (n : Nat) (k : KK) (m : Nat) (e0 e1 e2 e3 e4 e5 e6 e7 : Int64) : Prop := ∀ x : Int32, 0 ≤ x.toInt → x.toInt < m → F34 x e0 e1 e2 e3 e4 e5 e6 e7 = some (pk (EC n k x 0) (EC n k x 1))
theorem wu {x y : Int32} (x0 : 0 ≤ x.toInt) (x8 : x.toInt < 8) (y0 : 0 ≤ y.toInt) (y8 : y.toInt < 8) (e0 e1 e2 e3 e4 e5 e6 e7 v : Int64) : F34 x (if y = 0 then v else e0) (if y = 0 then e1 else if y = 1 then v else e1) (if y = 0 then e2 else if y = 1 then e2 else if y = 2 then v else e2) (if y = 0 then e3 else if y = 1 then e3 else if y = 2 then e3 else if y = 3 then v else e3) (if y = 0 then e4 else if y = 1 then e4 else if y = 2 then e4 else if y = 3 then e4 else if y = 4 then v else e4) (if y = 0 then e5 else if y = 1 then e5 else if y = 2 then e5 else if y = 3 then e5 else if y = 4 then e5 else if y = 5 then v else e5) (if y = 0 then e6 else if y = 1 then e6 else if y = 2 then e6 else if y = 3 then e6 else if y = 4 then e6 else if y = 5 then e6 else if y = 6 then v else e6) (if y = 0 then e7 else if y = 1 then e7 else if y = 2 then e7 else if y = 3 then e7 else if y = 4 then e7 else if y = 5 then e7 else if y = 6 then e7 else v) = if x = y then some (v) else F34 x e0 e1 e2 e3 e4 e5 e6 e7 := by
 have hy := small_cases (P := fun y => y = 0 ∨ y = 1 ∨ y = 2 ∨ y = 3 ∨ y = 4 ∨ y = 5 ∨ y = 6 ∨ y = 7) (x := y) y0 (n := 8) y8 (by decide)
 have hx := small_cases (P := fun y => y = 0 ∨ y = 1 ∨ y = 2 ∨ y = 3 ∨ y = 4 ∨ y = 5 ∨ y = 6 ∨ y = 7) (x := x) x0 (n := 8) x8 (by decide)
 clear x0 x8 y0 y8
 unfold F34
 rcases hy with w | w | w | w | w | w | w | w <;> subst w <;> rcases hx with w | w | w | w | w | w | w | w <;> subst w <;> rfl
theorem note_ok {n : Nat} {ar : Int32} {ka : KK} {oa ob : Ob} (T : Tw n ar ka oa ob) (s : List Int32) (x3 x4 x5 x6 x24 : Int32) (e : Int64 × Int64 × Int64 × Int64 × Int64 × Int64 × Int64 × Int64) : okP (loopN (B0_356 s oa ob x3 x4 x5 x6 x24) qN (e.1, e.2.1, e.2.2.1, e.2.2.2.1, e.2.2.2.2.1, e.2.2.2.2.2.1, e.2.2.2.2.2.2.1, e.2.2.2.2.2.2.2, 0)) (fun w => Wd n ka 8 w.1 w.2.1 w.2.2.1 w.2.2.2.1 w.2.2.2.2.1 w.2.2.2.2.2.1 w.2.2.2.2.2.2.1 w.2.2.2.2.2.2.2) := by
 have z8 : (8 : Int32).toInt = 8 := rfl
 refine okP.loop (fun w : Int64 × Int64 × Int64 × Int64 × Int64 × Int64 × Int64 × Int64 × Int32 => ∃ m : Nat, w.2.2.2.2.2.2.2.2.toInt = (m : Int) ∧ m ≤ 8 ∧ Wd n ka m w.1 w.2.1 w.2.2.1 w.2.2.2.1 w.2.2.2.2.1 w.2.2.2.2.2.1 w.2.2.2.2.2.2.1 w.2.2.2.2.2.2.2.1) (fun w => (8 - w.2.2.2.2.2.2.2.2.toInt).toNat) ⟨0, rfl, by omega, fun x h0 h1 => absurd h1 (by omega)⟩ (by show (8 - (0 : Int)).toNat < 4000; decide) ?_
 rintro ⟨e0, e1, e2, e3, e4, e5, e6, e7, y⟩ ⟨m, hm, m8, W⟩
 simp only at hm W
 unfold B0_356
 simp only
 refine okP.ite (fun c => ?_) (fun c => ?_)
 ·rw [i_lt, z8] at c
  have i1 : (y + 1).toInt = y.toInt + 1 := inc1 (by omega)
  rw [T.edge, Option.bind_some, T.edge, Option.bind_some]
  refine okP.some ⟨⟨m + 1, by simp only; omega, by omega, ?_⟩, by simp only; omega⟩
  simp only
  intro x x0 x1
  refine (wu x0 (by omega) (by omega) (by omega) e0 e1 e2 e3 e4 e5 e6 e7 (pk (EC n ka y 0) (EC n ka y 1))).trans ?_
  by_cases e : x = y
  ·rw [if_pos e, e]
  ·rw [if_neg e]
   have : x.toInt ≠ y.toInt := fun w => e (i_eq.2 w)
   exact W x x0 (by omega)
 ·rw [i_lt, z8] at c
  have : m = 8 := by omega
  subst this
  exact okP.some W
abbrev U2 := (Unit ⊕ (Int32 × QHeap)) ⊕ Int32
theorem cmp_loop {B : Int32 → Option U2} {N : Int32} (N0 : 0 ≤ N.toInt) (N1 : N.toInt ≤ 100) (h : ∀ v : Int32, 0 ≤ v.toInt → v.toInt < N.toInt → B v = some (.inr (v + 1))) (h' : ∀ v : Int32, ¬ v < N → B v = some (.inl (.inl ()))) : loopN B qN 0 = some (.inl ()) := by
 have : okP (loopN B qN 0) (fun r => r = .inl ()) := by
  refine okP.loop (fun w : Int32 => 0 ≤ w.toInt ∧ w.toInt ≤ N.toInt) (fun w => (100 - w.toInt).toNat) ⟨by show (0 : Int) ≤ 0; decide, N0⟩ (by show (100 - (0 : Int)).toNat < 4000; decide) ?_
  rintro v ⟨v0, v1⟩
  by_cases c : v < N
  ·rw [i_lt] at c
   have e1 : (v + 1).toInt = v.toInt + 1 := inc1 (by omega)
   rw [h v v0 c]
   exact okP.some ⟨⟨by omega, by omega⟩, by omega⟩
  ·rw [h' v c]
   exact okP.some rfl
 obtain ⟨r, h1, h2⟩ := this
 rw [h1, h2]
abbrev V3 := Int32 × Int64 × Int64 × Int64 × Int64 × Int64 × Int64 × Int64 × Int64 × Int32 × Int32 × Ob × Ob
def In3 (n : Nat) (base : Int) (pre : Int32) (v : V3) : Prop := ∃ ar ka, Tw n ar ka v.2.2.2.2.2.2.2.2.2.2.2.1 v.2.2.2.2.2.2.2.2.2.2.2.2 ∧ (0 ≤ v.1.toInt ∧ v.1.toInt ≤ base + v.2.2.2.2.2.2.2.2.2.2.1.toInt) ∧ (0 ≤ v.2.2.2.2.2.2.2.2.2.2.1.toInt ∧ v.2.2.2.2.2.2.2.2.2.2.1.toInt ≤ pre.toInt + 4) ∧ ((ar = 0 ∧ v.2.2.2.2.2.2.2.2.2.1 = 0 ∧ v.2.2.2.2.2.2.2.2.2.2.1.toInt ≤ pre.toInt) ∨ (ar = 1 ∧ v.2.2.2.2.2.2.2.2.2.1 = 1 ∧ pre.toInt < v.2.2.2.2.2.2.2.2.2.2.1.toInt ∧ Wd n ka 8 v.2.1 v.2.2.1 v.2.2.2.1 v.2.2.2.2.1 v.2.2.2.2.2.1 v.2.2.2.2.2.2.1 v.2.2.2.2.2.2.2.1 v.2.2.2.2.2.2.2.2.1))
def Po3 (s : List Int32) (n : Nat) (base : Int) (pre kk : Int32) (r : ((Int32 × Ob × Ob) ⊕ (Int32 × QHeap)) ⊕ V3) : Prop := Sum.elim (fun e => ∃ p oa ob ar ka, e = .inl (p, oa, ob) ∧ Tw n ar ka oa ob ∧ 0 ≤ p.toInt ∧ p.toInt ≤ base + 10) (fun w => In3 n base pre w ∧ (20 - w.2.2.2.2.2.2.2.2.2.2.1.toInt).toNat < (20 - kk.toInt).toNat) r
theorem body3 {s : List Int32} (hs : s.length ≤ 260) {n : Nat} (n0 : 0 < n) (n8 : n ≤ 8) {base : Int} (B1 : base ≤ 400) {pre : Int32} (pr0 : 0 ≤ pre.toInt) (pr1 : pre.toInt ≤ 3) {x3 x4 x5 ld kk ar : Int32} (hx5 : x5.toInt = n) {e0 e1 e2 e3 e4 e5 e6 e7 : Int64} {ka : KK} {oa ob : Ob} (T : Tw n ar ka oa ob) (p0 : 0 ≤ x3.toInt) (p1 : x3.toInt ≤ base + kk.toInt) (k0 : 0 ≤ kk.toInt) (k1 : kk.toInt < pre.toInt + 4) (C : (ar = 0 ∧ ld = 0 ∧ kk.toInt < pre.toInt) ∨ (ar = 1 ∧ ld = 1 ∧ pre.toInt ≤ kk.toInt ∧ Wd n ka 8 e0 e1 e2 e3 e4 e5 e6 e7)) : okP (J0_496 s oa ob x3 x4 x5 pre e0 e1 e2 e3 e4 e5 e6 e7 ld kk) (Po3 s n base pre kk) := by
 have z4 : (4 : Int32).toInt = 4 := rfl
 have z8 : (8 : Int32).toInt = 8 := rfl
 have z16 : (16 : Int32).toInt = 16 := rfl
 have i3 : (x3 + 1).toInt = x3.toInt + 1 := inc1 (by omega)
 have ik : (kk + 1).toInt = kk.toInt + 1 := inc1 (by omega)
 unfold J0_496
 apply okP.bind; refine okP.mono (cell_m hs p0) (fun y _ => ?_)
 apply okP.bind; refine okP.mono (mod_m y (by decide) (by decide)) (fun z _ => ?_)
 apply okP.bind
 refine okP.mono (T.run n0 _) (fun p hp => ?_)
 apply okP.bind
 refine okP.mono hp ?_
 rintro q ⟨pq, ⟨a1, a2, a3, a4, a5, a6, a7⟩, k', hk', T'⟩
 unfold F15 F16 F17 F18
 rw [if_pos pq]
 simp only [Option.bind_some]
 rw [if_pos a1, if_pos a2, if_pos a3, if_pos a4]
 have c1 : loopN (B0_586 s p.2 q.2 (x3 + 1) x4 x5 pre e0 e1 e2 e3 e4 e5 e6 e7 ld kk) qN 0 = some (.inl ()) := by
  refine cmp_loop (N := 4) (by decide) (by decide) (fun v v0 v1 => ?_) (fun v hv => ?_)
  ·unfold B0_586
   obtain ⟨t, q1, q2⟩ := a5 v
   rw [if_pos (by rw [i_lt]; exact v1), q1, Option.bind_some, q2, Option.bind_some, if_pos rfl]
  ·unfold B0_586
   rw [if_neg hv]
 have c2 : loopN (B0_618 s p.2 q.2 (x3 + 1) x4 x5 pre e0 e1 e2 e3 e4 e5 e6 e7 ld kk) qN 0 = some (.inl ()) := by
  refine cmp_loop (N := 16) (by decide) (by decide) (fun v v0 v1 => ?_) (fun v hv => ?_)
  ·unfold B0_618
   obtain ⟨t, q1, q2⟩ := a6 v
   rw [if_pos (by rw [i_lt]; exact v1), q1, Option.bind_some, q2, Option.bind_some, if_pos rfl]
  ·unfold B0_618
   rw [if_neg hv]
 have c3 : ∀ w, loopN (B0_661 s p.2 q.2 (x3 + 1) x4 x5 pre e0 e1 e2 e3 e4 e5 e6 e7 ld kk w) qN 0 = some (.inl ()) := by
  intro w
  refine cmp_loop (N := 8) (by decide) (by decide) (fun v v0 v1 => ?_) (fun v hv => ?_)
  ·unfold B0_661
   obtain ⟨t, q1, q2⟩ := a7 w v
   rw [if_pos (by rw [i_lt]; exact v1), q1, Option.bind_some, q2, Option.bind_some, if_pos rfl]
  ·unfold B0_661
   rw [if_neg hv]
 have c4 : loopN (B0_651 s p.2 q.2 (x3 + 1) x4 x5 pre e0 e1 e2 e3 e4 e5 e6 e7 ld kk) qN 0 = some (.inl ()) := by
  refine cmp_loop (N := x5) (by omega) (by omega) (fun v v0 v1 => ?_) (fun v hv => ?_)
  ·unfold B0_651
   rw [if_pos (by rw [i_lt]; exact v1), c3 v]; rfl
  ·unfold B0_651
   rw [if_neg hv]
 rw [c1]
 simp only [Option.bind_some]
 rw [c2]
 simp only [Option.bind_some]
 rw [c4]
 simp only [Option.bind_some]
 have fin : ((ar = 0 ∧ ld = 0 ∧ kk.toInt < pre.toInt) ∨ (ar = 1 ∧ ld = 1 ∧ pre.toInt ≤ kk.toInt ∧ Wd n k' 8 e0 e1 e2 e3 e4 e5 e6 e7)) → okP (J0_778 s p.2 q.2 (x3 + 1) x4 x5 pre e0 e1 e2 e3 e4 e5 e6 e7 ld kk) (Po3 s n base pre kk) := by
  intro C'
  refine okP.some ⟨⟨ar, k', T', ⟨by simp only; omega, by simp only; omega⟩, ⟨by simp only; omega, by simp only; omega⟩, ?_⟩, by simp only; omega⟩
  simp only
  rcases C' with ⟨w1, w2, w3⟩ | ⟨w1, w2, w3, w4⟩
  ·exact Or.inl ⟨w1, w2, by omega⟩
  ·exact Or.inr ⟨w1, w2, by omega, w4⟩
 rcases C with ⟨w1, w2, w3⟩ | ⟨w1, w2, w3, w4⟩
 ·rw [if_pos w2]
  exact fin (Or.inl ⟨w1, w2, w3⟩)
 ·rw [if_neg (by rw [w2]; decide)]
  have ek := hk' w1
  subst ek
  have c5 : loopN (B0_709 s p.2 q.2 (x3 + 1) x4 x5 pre e0 e1 e2 e3 e4 e5 e6 e7 ld kk) qN 0 = some (.inl ()) := by
   refine cmp_loop (N := 8) (by decide) (by decide) (fun v v0 v1 => ?_) (fun v hv => ?_)
   ·unfold B0_709
    rw [if_pos (by rw [i_lt]; exact v1), w4 v v0 v1, Option.bind_some, T'.edge, Option.bind_some, pk_lo, if_pos rfl, T'.edge, Option.bind_some, pk_hi, if_pos rfl]
   ·unfold B0_709
    rw [if_neg hv]
  rw [c5]
  simp only [Option.bind_some]
  exact fin (Or.inr ⟨w1, w2, w3, w4⟩)
theorem Tw.lay {n : Nat} {ka : KK} {oa ob : Ob} (T : Tw n 0 ka oa ob) (n0 : 0 < n) : okP (F23 oa) (fun w => w.1 = 1 ∧ Tw n 1 ka w.2 ob) := by
 obtain ⟨b, kb, ra, rb, N, ha, hb, G, Ka, Kb, Ra, Rb, hN, _⟩ := T
 refine okP.mono (layout_ok ha G Ka n0 hN rfl) ?_
 rintro w ⟨w1, hw, La⟩
 exact ⟨w1, b, kb, ra, rb, N, hw, hb, G, Ka, Kb, Ra, Rb, hN, Or.inr ⟨rfl, n0, La⟩⟩
theorem loop3 {s : List Int32} (hs : s.length ≤ 260) {n : Nat} (n0 : 0 < n) (n8 : n ≤ 8) {base : Int} (b0 : 0 ≤ base) (B1 : base ≤ 400) {pre : Int32} (pr0 : 1 ≤ pre.toInt) (pr1 : pre.toInt ≤ 3) {x3 x4 x5 : Int32} (hx5 : x5.toInt = n) {ka : KK} {oa ob : Ob} (T : Tw n 0 ka oa ob) (p0 : 0 ≤ x3.toInt) (p1 : x3.toInt ≤ base) : okP (loopN (B0_337 s x4 x5 pre) qN (x3, 0, 0, 0, 0, 0, 0, 0, 0, 0, 0, oa, ob)) (fun e => ∃ p oa ob ar ka, e = .inl (p, oa, ob) ∧ Tw n ar ka oa ob ∧ 0 ≤ p.toInt ∧ p.toInt ≤ base + 10) := by
 have z0 : (0 : Int32).toInt = 0 := rfl
 have z4 : (4 : Int32).toInt = 4 := rfl
 have ip : (pre + 4).toInt = pre.toInt + 4 := by rw [i_add (by omega) (by omega), z4]
 refine okP.loop (In3 n base pre) (fun w => (20 - w.2.2.2.2.2.2.2.2.2.2.1.toInt).toNat) ⟨0, ka, T, ⟨p0, by show x3.toInt ≤ base + (0 : Int); omega⟩, ⟨by show (0 : Int) ≤ 0; decide, by show (0 : Int) ≤ _; omega⟩, Or.inl ⟨rfl, rfl, by show (0 : Int) ≤ _; omega⟩⟩ (by show (20 - (0 : Int)).toNat < 4000; decide) ?_
 rintro ⟨q, e0, e1, e2, e3, e4, e5, e6, e7, ld, kk, p, r⟩ ⟨ar, k', T', ⟨q0, q1⟩, ⟨k0, k1⟩, C⟩
 simp only at T' q0 q1 k0 k1 C
 show okP _ (Po3 s n base pre kk)
 unfold B0_337
 simp only
 refine okP.ite (fun c => ?_) (fun c => ?_)
 ·rw [i_lt, ip] at c
  refine okP.ite (fun ke => ?_) (fun ke => ?_)
  ·have C1 : ar = 0 := by
    rcases C with w | ⟨_, _, w, _⟩
    ·exact w.1
    ·rw [ke] at w; omega
   subst C1
   apply okP.bind
   refine okP.mono (note_ok T' s q x4 x5 pre kk (e0, e1, e2, e3, e4, e5, e6, e7)) ?_
   intro w hw
   apply okP.bind
   refine okP.mono (T'.lay n0) ?_
   rintro ⟨l, p'⟩ ⟨l1, Tl⟩
   simp only at l1 Tl ⊢
   subst l1
   exact body3 hs n0 n8 B1 (by omega) pr1 hx5 Tl q0 q1 k0 c (Or.inr ⟨rfl, rfl, by rw [ke]; omega, hw⟩)
  ·have ne : kk.toInt ≠ pre.toInt := fun w => ke (i_eq.2 w)
   refine body3 hs n0 n8 B1 (by omega) pr1 hx5 T' q0 q1 k0 c ?_
   rcases C with ⟨w1, w2, w3⟩ | ⟨w1, w2, w3, w4⟩
   ·exact Or.inl ⟨w1, w2, by omega⟩
   ·exact Or.inr ⟨w1, w2, by omega, w4⟩
 ·exact okP.some ⟨q, p, r, ar, k', rfl, T', q0, by omega⟩
theorem loop1 {s : List Int32} (hs : s.length ≤ 260) {base : Int} (b0 : 0 ≤ base) (B1 : base ≤ 400) {n : Nat} (n8 : n ≤ 8) {x3 x4 x5 : Int32} (hx5 : x5.toInt = n) {ka : KK} {oa ob : Ob} (T : Tw 0 0 ka oa ob) (p0 : 0 ≤ x3.toInt) (p1 : x3.toInt ≤ base) : okP (loopN (B0_63 s x4 x5) qN (x3, 0, oa, ob)) (fun e => (∃ k', Tw n 0 k' e.2.1 e.2.2) ∧ 0 ≤ e.1.toInt ∧ e.1.toInt ≤ base + 32) := by
 have z1 : (1 : Int32).toInt = 1 := rfl
 have z2 : (2 : Int32).toInt = 2 := rfl
 have z3 : (3 : Int32).toInt = 3 := rfl
 have z4 : (4 : Int32).toInt = 4 := rfl
 have z8 : (8 : Int32).toInt = 8 := rfl
 refine okP.loop (fun w : Int32 × Int32 × Ob × Ob => ∃ m : Nat, w.2.1.toInt = (m : Int) ∧ m ≤ n ∧ (∃ k', Tw m 0 k' w.2.2.1 w.2.2.2) ∧ 0 ≤ w.1.toInt ∧ w.1.toInt ≤ base + 4 * m) (fun w => (20 - w.2.1.toInt).toNat) ⟨0, rfl, by omega, ⟨ka, T⟩, p0, by show x3.toInt ≤ base + 4 * ((0 : Nat) : Int); omega⟩ (by show (20 - (0 : Int)).toNat < 4000; decide) ?_
 rintro ⟨x, y, p, q⟩ ⟨m, hm, mn, ⟨k', T'⟩, x0, x1⟩
 simp only at hm T' x0 x1
 unfold B0_63
 simp only
 refine okP.ite (fun c => ?_) (fun c => ?_)
 ·rw [i_lt, hx5] at c
  have a1 : (x + 1).toInt = x.toInt + 1 := inc1 (by omega)
  have a2 : (x + 2).toInt = x.toInt + 2 := by rw [i_add (by omega) (by omega), z2]
  have a3 : (x + 3).toInt = x.toInt + 3 := by rw [i_add (by omega) (by omega), z3]
  have a4 : (x + 4).toInt = x.toInt + 4 := by rw [i_add (by omega) (by omega), z4]
  have e1 : (y + 1).toInt = y.toInt + 1 := inc1 (by omega)
  apply okP.bind; refine okP.mono (cell_m hs (by omega)) (fun y0 _ => ?_)
  apply okP.bind; refine okP.mono (mod_m _ (by decide) (by decide)) (fun v0 h0 => ?_)
  apply okP.bind; refine okP.mono (cell_m hs (by omega)) (fun y1 _ => ?_)
  apply okP.bind; refine okP.mono (mod_m _ (by decide) (by decide)) (fun v1 h1 => ?_)
  apply okP.bind; refine okP.mono (cell_m hs (by omega)) (fun y2 _ => ?_)
  apply okP.bind; refine okP.mono (mod_m _ (by decide) (by decide)) (fun v2 h2 => ?_)
  apply okP.bind; refine okP.mono (cell_m hs (by omega)) (fun y3 _ => ?_)
  apply okP.bind; refine okP.mono (mod_m _ (by decide) (by decide)) (fun v3 _ => ?_)
  apply okP.bind
  refine okP.mono (T'.add (by omega) _ h0.1 (by omega) h1.1 (by omega) h2.1 (by omega)) (fun p' hp => ?_)
  apply okP.bind
  refine okP.mono hp ?_
  rintro q' ⟨k2, T2⟩
  exact okP.some ⟨⟨m + 1, by simp only; omega, by omega, ⟨k2, T2⟩, by simp only; omega, by simp only; omega⟩, by simp only; omega⟩
 ·rw [i_lt, hx5] at c
  have : m = n := by omega
  subst this
  exact okP.some ⟨⟨k', T'⟩, x0, by simp only; omega⟩
theorem loop2 {s : List Int32} (hs : s.length ≤ 260) {base : Int} (b0 : 0 ≤ base) (B1 : base ≤ 400) {n : Nat} (n0 : 0 < n) (n8 : n ≤ 8) {x3 x4 x5 : Int32} (hx5 : x5.toInt = n) {ka : KK} {oa ob : Ob} (T : Tw n 0 ka oa ob) (p0 : 0 ≤ x3.toInt) (p1 : x3.toInt ≤ base) : okP (loopN (B0_163 s x4 x5) qN (x3, 0, oa, ob)) (fun e => (∃ k', Tw n 0 k' e.2.1 e.2.2) ∧ 0 ≤ e.1.toInt ∧ e.1.toInt ≤ base + 32) := by
 have z1 : (1 : Int32).toInt = 1 := rfl
 have z2 : (2 : Int32).toInt = 2 := rfl
 have z3 : (3 : Int32).toInt = 3 := rfl
 have z4 : (4 : Int32).toInt = 4 := rfl
 have z16 : (16 : Int32).toInt = 16 := rfl
 refine okP.loop (fun w : Int32 × Int32 × Ob × Ob => ∃ m : Nat, w.2.1.toInt = (m : Int) ∧ m ≤ n ∧ (∃ k', Tw n 0 k' w.2.2.1 w.2.2.2) ∧ 0 ≤ w.1.toInt ∧ w.1.toInt ≤ base + 4 * m) (fun w => (20 - w.2.1.toInt).toNat) ⟨0, rfl, by omega, ⟨ka, T⟩, p0, by show x3.toInt ≤ base + 4 * ((0 : Nat) : Int); omega⟩ (by show (20 - (0 : Int)).toNat < 4000; decide) ?_
 rintro ⟨x, y, p, q⟩ ⟨m, hm, mn, ⟨k', T'⟩, x0, x1⟩
 simp only at hm T' x0 x1
 unfold B0_163
 simp only
 refine okP.ite (fun c => ?_) (fun c => ?_)
 ·rw [i_lt, hx5] at c
  have a1 : (x + 1).toInt = x.toInt + 1 := inc1 (by omega)
  have a2 : (x + 2).toInt = x.toInt + 2 := by rw [i_add (by omega) (by omega), z2]
  have a3 : (x + 3).toInt = x.toInt + 3 := by rw [i_add (by omega) (by omega), z3]
  have a4 : (x + 4).toInt = x.toInt + 4 := by rw [i_add (by omega) (by omega), z4]
  have e1 : (y + 1).toInt = y.toInt + 1 := inc1 (by omega)
  have nx : ∀ (p' q' : Ob) (k2 : KK), Tw n 0 k2 p' q' → okP (J0_285 s p' q' (x + 4) x4 x5 y) (fun r => Sum.elim (fun e : Int32 × Ob × Ob => (∃ k', Tw n 0 k' e.2.1 e.2.2) ∧ 0 ≤ e.1.toInt ∧ e.1.toInt ≤ base + 32) (fun w : Int32 × Int32 × Ob × Ob => (∃ m : Nat, w.2.1.toInt = (m : Int) ∧ m ≤ n ∧ (∃ k', Tw n 0 k' w.2.2.1 w.2.2.2) ∧ 0 ≤ w.1.toInt ∧ w.1.toInt ≤ base + 4 * m) ∧ (20 - w.2.1.toInt).toNat < (20 - y.toInt).toNat) r) := by
   intro p' q' k2 T2
   exact okP.some ⟨⟨m + 1, by simp only; omega, by omega, ⟨k2, T2⟩, by simp only; omega, by simp only; omega⟩, by simp only; omega⟩
  apply okP.bind; refine okP.mono (cell_m hs (by omega)) (fun y0 _ => ?_)
  apply okP.bind; refine okP.mono (mod_m _ (by decide) (by decide)) (fun v0 h0 => ?_)
  apply okP.bind; refine okP.mono (cell_m hs (by omega)) (fun y1 _ => ?_)
  apply okP.bind; refine okP.mono (mod_m _ (by decide) (by decide)) (fun v1 h1 => ?_)
  apply okP.bind; refine okP.mono (cell_m hs (by omega)) (fun y2 _ => ?_)
  apply okP.bind; refine okP.mono (mod_m _ (by omega) (by omega)) (fun v2 h2 => ?_)
  apply okP.bind; refine okP.mono (cell_m hs (by omega)) (fun y3 _ => ?_)
  apply okP.bind; refine okP.mono (mod_m _ (by omega) (by omega)) (fun v3 h3 => ?_)
  refine okP.ite (fun _ => ?_) (fun _ => ?_)
  ·apply okP.bind
   refine okP.mono (T'.jump (j := m) (by omega) hm h2.1 (by omega)) (fun p' hp => ?_)
   apply okP.bind
   refine okP.mono hp ?_
   rintro q' ⟨k2, T2⟩
   exact nx _ _ k2 T2
  refine okP.ite (fun _ => ?_) (fun _ => nx _ _ k' T')
  apply okP.bind
  refine okP.mono (T'.bran (j := m) (by omega) hm h1.1 (by omega) h2.1 (by omega) h3.1 (by omega)) (fun p' hp => ?_)
  apply okP.bind
  refine okP.mono hp ?_
  rintro q' ⟨k2, T2⟩
  exact nx _ _ k2 T2
 ·exact okP.some ⟨⟨k', T'⟩, x0, by simp only; omega⟩
theorem law_ok (s : List Int32) (hs : s.length ≤ 260) : ∃ τ, F0 s = some (1, τ) ∧ τ.length - List.length ([Sum.inr (Sum.inl (FieldType.int, s))] : QHeap) ≤ room_1.cells ∧ qhs τ - qhs [Sum.inr (Sum.inl (FieldType.int, s))] ≤ room_1.slots := by
 have z1 : (1 : Int32).toInt = 1 := rfl
 have z2 : (2 : Int32).toInt = 2 := rfl
 have z3 : (3 : Int32).toInt = 3 := rfl
 have z8 : (8 : Int32).toInt = 8 := rfl
 have : okP (F0 s) (fun e => e.1 = 1 ∧ sFit s e.2) := by
  unfold F0
  have L : ∀ n : Nat, (List.replicate n (0 : Int32)).length = n := fun n => List.length_replicate
  have i0 : ∃ o, F1 8 32 = some o ∧ Sh (List.replicate 16 0, List.replicate 16 0, List.replicate 16 0, List.replicate 16 0, List.replicate 16 0, List.replicate 16 0, List.replicate 16 0, List.replicate 16 0) (List.replicate 16 0, List.replicate 16 0) (List.replicate 4 0, List.replicate 16 0, 0, 0, 0) (8, 32, 0, 0) o := by
   unfold F1
   refine ⟨_, rfl, ?_⟩
   dsimp only [Sh, fA, fB, fC, fD, fE, fF, fG, fH, fI, fJ, fK, fL, fM, fO, fP, fQ, fR, fT, fU, fV, fW, fX, fY, fZ, fa, fb, fc, fd, fe, fh, fi, fm, fo, fp, fq, fr, sA, sB, sC, sD, sE, sF, sG, sH, sI, sJ, sK, sL, sM, sO, sP, sQ, sR, sT, sU, sV, sW, sX, sY, sZ, sa, sb, sc, sd, se, sh, si, sm, so, sp, sq, sr]
   exact ⟨L _, L _, L _, L _, L _, L _, L _, L _, L _, L _, L _, L _, L _, L _, L _, L _, rfl, rfl, rfl, rfl⟩
  obtain ⟨o, ho, h0⟩ := i0
  rw [ho, Option.bind_some, Option.bind_some]
  have T0 : Tw 0 0 (List.replicate 16 0, List.replicate 16 0) o o := ⟨_, _, _, _, _, h0, h0, ⟨⟨L _, L _, L _, L _, L _, L _, L _, L _⟩, by omega, fun j hj => absurd hj (by omega)⟩, ⟨L _, L _⟩, ⟨L _, L _⟩, ⟨L _, L _⟩, ⟨L _, L _⟩, rfl, Or.inl rfl⟩
  apply okP.bind
  refine okP.mono (P := fun e : Int32 × QHeap => e.1 = 1 ∧ sFit s e.2) ?_ (fun e he => okP.some he)
  refine okP.loop (fun w : Int32 × Int32 × Ob × Ob => (∃ n ar ka, Tw n ar ka w.2.2.1 w.2.2.2) ∧ (0 ≤ w.2.1.toInt ∧ w.2.1.toInt ≤ 2) ∧ 0 ≤ w.1.toInt ∧ w.1.toInt ≤ 100 * w.2.1.toInt) (fun w => (20 - w.2.1.toInt).toNat) ⟨⟨0, 0, _, T0⟩, by show (0 : Int) ≤ 0 ∧ (0 : Int) ≤ 2; decide, by show (0 : Int) ≤ 0; decide, by show (0 : Int) ≤ 100 * 0; decide⟩ (by show (20 - (0 : Int)).toNat < 4000; decide) ?_
  rintro ⟨x, t, p, q⟩ ⟨⟨n0, ar, ka, T⟩, ⟨t0, t1⟩, x0, x1⟩
  simp only at T t0 t1 x0 x1
  unfold B0_29
  simp only
  refine okP.ite (fun c => ?_) (fun _ => okP.some ⟨rfl, T.fit s⟩)
  rw [i_lt, z2] at c
  have e1 : (t + 1).toInt = t.toInt + 1 := inc1 (by omega)
  have a1 : (x + 1).toInt = x.toInt + 1 := inc1 (by omega)
  apply okP.bind
  refine okP.mono T.reset (fun p1 hp1 => ?_)
  apply okP.bind
  refine okP.mono hp1 ?_
  rintro q1 ⟨k1, T1⟩
  apply okP.bind; refine okP.mono (cell_m hs x0) (fun y0 _ => ?_)
  apply okP.bind; refine okP.mono (mod_m _ (by decide) (by decide)) (fun v0 hv0 => ?_)
  rw [z8] at hv0
  have en : ((1 : Int32) + v0).toInt = 1 + v0.toInt := by rw [i_add (by omega) (by omega), z1]
  obtain ⟨n, hn⟩ : ∃ n : Nat, ((1 : Int32) + v0).toInt = n := ⟨(1 + v0.toInt).toNat, by omega⟩
  apply okP.bind
  refine okP.mono (loop1 hs (base := x.toInt + 1) (by omega) (by omega) (n := n) (by omega) hn T1 (by omega) (by omega)) ?_
  rintro ⟨x2, p2, q2⟩ ⟨⟨k2, T2⟩, b0, b1⟩
  simp only at T2 b0 b1 ⊢
  apply okP.bind
  refine okP.mono (loop2 hs (base := x.toInt + 33) (by omega) (by omega) (n := n) (by omega) (by omega) hn T2 b0 (by omega)) ?_
  rintro ⟨x3, p3, q3⟩ ⟨⟨k3, T3⟩, c0, c1⟩
  simp only at T3 c0 c1 ⊢
  apply okP.bind; refine okP.mono (cell_m hs c0) (fun y1 _ => ?_)
  apply okP.bind; refine okP.mono (mod_m _ (by decide) (by decide)) (fun v1 hv1 => ?_)
  rw [z3] at hv1
  have ep : ((1 : Int32) + v1).toInt = 1 + v1.toInt := by rw [i_add (by omega) (by omega), z1]
  have a3 : (x3 + 1).toInt = x3.toInt + 1 := inc1 (by omega)
  apply okP.bind
  refine okP.mono (loop3 hs (n := n) (by omega) (by omega) (base := x.toInt + 66) (by omega) (by omega) (by omega) (by omega) hn T3 (by omega) (by omega)) ?_
  rintro e ⟨x4, p4, q4, ar4, k4, he, T4, d0, d1⟩
  rw [he]
  exact okP.some ⟨⟨⟨n, ar4, k4, T4⟩, ⟨by simp only; omega, by simp only; omega⟩, by simp only; omega, by simp only; omega⟩, by simp only; omega⟩
 obtain ⟨⟨r, τ⟩, q1, q2, q3⟩ := this
 simp only at q2
 subst q2
 exact ⟨τ, q1, q3⟩
set_option maxRecDepth 65536 in
theorem comes_1 {Post : Tables → Env → Array Value → State → Outcome → State → Prop} (hpost : ∀ tb e args s v u, (limb_1_1.after args s (.returned v) u = true ∧ limb_1_2.after args s (.returned v) u = true ∧ True) → FrameEnd s (.returned v) u (Jvm.fieldLocs frame_1_writes args s ++ Jvm.arrayLocs frame_1_arrays args s ++ Jvm.staticLocs frame_1_statics s) 128 2112 → Post tb e args s (.returned v) u) :
    ArmFor flags0 classFile x code maxLocals ret World_1 tables_1 room_1 Calls_1 rest_1 Pre_1 Post := by
  intro l hfl _ _ p e ha hc hk s m args below hf hA hF happ hP
  obtain ⟨hcalls, hrest, hpre⟩ := hP
  obtain ⟨-, -, -, hnamed, -, -, -, hat⟩ := (Spec.applies_iff hf).mp happ
  obtain ⟨hg, hn⟩ := and_e (Cond.before_iff.mp (show (Jvm.Cond.and given_1 narrow_1).before args s = true from hpre))
  obtain ⟨g0, g1⟩ := and_e hg
  obtain ⟨w0, rfl⟩ : ∃ w0 : Value, args = #[w0] := by
    have hs : args.size = 1 := by simpa [Cond.value, given_1] using g0
    obtain ⟨L⟩ := args
    match L, hs with
    | [w0], _ => exact ⟨w0, rfl⟩
  have hw := fun d (hd : d ∈ tables_1) => atoms_spec (ws := Jvm.Cond.code x code maxLocals ret :: tables_1) hat d (List.mem_cons_of_mem _ hd)
  have hfit : Fit s := fun {y c} hc i hi => by
    obtain ⟨ha, rfl⟩ := Array.getElem?_eq_some_iff.mp hc
    have q := List.all_eq_true.mp ((Array.all_eq_true_iff_forall_mem.mp hF) _ (Array.getElem_mem ha)) i (List.mem_range.mpr hi)
    simpa [Array.getElem?_eq_getElem hi] using q
  obtain ⟨n1, n2⟩ := and_e hn
  obtain ⟨a, cl, xs, rfl, hA1, hA2, hlen⟩ := script_ok hfit n1 n2
  obtain ⟨τ, hF0, hc1, hs1⟩ := law_ok xs hlen
  have hlt := hA1.lt
  have Ad : QAd s.heap.size (fun k => match k with | 0 => a | k + 1 => s.heap.size + k) := ⟨fun k hk => by cases k with | zero => exact absurd hk (Nat.not_succ_le_zero 0) | succ k => exact Nat.le_add_right _ _, fun i j h => by
    cases i with
    | zero => cases j with
      | zero => rfl
      | succ j => have h' : a = s.heap.size + j := h; exact absurd hA1.lt (by rw [h']; exact Nat.not_lt.mpr (Nat.le_add_right _ _))
    | succ i => cases j with
      | zero => have h' : s.heap.size + i = a := h; exact absurd hA1.lt (by rw [← h']; exact Nat.not_lt.mpr (Nat.le_add_right _ _))
      | succ j => have h' : s.heap.size + i = s.heap.size + j := h; omega⟩
  have hR : QRep s s.heap.size (fun k => match k with | 0 => a | k + 1 => s.heap.size + k) s.heap [iC xs] := ⟨⟨Nat.le_refl _, fun k hk => by cases k with | zero => exact absurd hk (Nat.not_succ_le_zero 0) | succ k => rfl⟩, rfl, fun k c h => by
    cases k with
    | zero => cases h; exact ⟨cl, hA1, hA2⟩
    | succ k => cases h⟩
  have T := tF0 (l := l) (Z := s) Ad (QW_ok hw) xs hF0
  have M := QTri.met (k := 0) (as := [.ref 0]) (by decide) T hR (Nat.le_of_ble_eq_true rfl) (fun q => by cases q) tables_1 (rm := room_1) (by decide) (by decide) hc1 hs1
  obtain ⟨n, o, h1, h2, h3, _, L, rfl, ⟨rfl, R', N⟩, hq⟩ := M p e ha hc hk s m _ below hf ((Spec.applies_iff_loose hf).mp happ).1 ⟨rfl, State.Warmed39.refl s, rfl⟩ trivial
  refine ⟨n, _, h1, h2, h3, hpost _ _ _ _ _ _ ⟨Cond.after_iff.mpr rfl, Cond.after_iff.mpr (eq_i res_at (Term.int_eval (1)) rfl), trivial⟩ ⟨hq.1, hq.2.1, (hq.2.2.sift fun y hy => Or.inr (N y hy)).mono hc1 hs1⟩⟩
theorem main_1_1 : Claimed_1_1 := comes_1 fun _ _ _ _ _ _ h hF => ⟨h.1, hF⟩
theorem main_1_2 : Claimed_1_2 := comes_1 fun _ _ _ _ _ _ h hF => ⟨h.2.1, hF⟩
end Jvm.Pilot.@@N@@
namespace Jvm.Pilot.@@N@@
open Jvm Jvm.ClassFile Sem Op Lib Jvm.Free Jvm.Stand Jvm.Pilot.@@N@@.Jvm.D
/-! MADE BY PROGRAM (witnessworld.py) out of the Statement's table words and the real class files: 9 classes; the members and pool entries that the words name. The judged class is class 1, her method 4. -/
namespace start1
open Jvm.ClassFile
def u (s : String) : CpInfo := .utf8 (stringToUtf16 s)
/-- a pool by its gaps: so many unusable entries, then the entry; so many at the end -/
def gap : Nat → List CpInfo → List CpInfo
  | 0, r => r
  | n + 1, r => .unusable :: gap n r
def poolList (es : List (Nat × CpInfo)) (last : Nat) : List CpInfo := es.foldr (fun e r => gap e.1 (e.2 :: r)) (gap last [])
def pool (es : List (Nat × CpInfo)) (last : Nat) : Array CpInfo := ⟨poolList es last⟩
def fileOf (pool : Array CpInfo) (this : Nat) (attrs : Array Attribute := #[]) (ms : Array MethodInfo := #[]) (fl : Nat := 33) (sup : Nat := 0) (ifs : Array Nat := #[]) (fds : Array FieldInfo := #[]) : ClassFile where
  minorVersion := 0
  majorVersion := 65
  constantPool := pool
  accessFlags := fl
  thisClass := this
  superClass := sup
  interfaces := ifs
  fields := fds
  methods := ms
  attributes := attrs
def plain (name : String) (sup : Option ClassId) : Class where
  name := name
  kind := .ordinary
  loader := none
  accessFlags := 33
  super := sup
  interfaces := #[]
  cf := none
  fields := #[]
  methods := #[]
  instanceTypes := #[]
  staticTypes := #[]
  resolved := #[]
  callSites := []
  init := .initialized
  statics := none
  mirror := none

def pool0 : Array CpInfo := pool [(5, u "<init>"), (0, u "()V"), (1, .class_ 10), (1, u "java/lang/Object")] 113

def k0c0 : Code := { maxStack := 0, maxLocals := 1, code := object_method_1_code, exceptionTable := #[], attributes := #[] }
def k0m0 : Method := { name := "<init>", desc := "()V", sig := { parameters := [], returnType := none }, accessFlags := 1, code := some k0c0 }
/-- java/lang/Object -/
def k0 : Class := { plain "java/lang/Object" none with
  accessFlags := 33
  interfaces := #[]
  cf := some (fileOf pool0 8 #[] #[{ accessFlags := 1, nameIndex := 5, descriptorIndex := 6, attributes := #[] }] 33 0 #[] #[])
  fields := #[]
  methods := #[k0m0]
  instanceTypes := #[]
  staticTypes := #[]
  resolved := Array.replicate 124 none
  statics := none }

def pool1 : Array CpInfo := pool [(2, .class_ 4), (1, u "java/lang/Object"), (0, u "<init>"), (0, u "()V"), (0, .class_ 8), (0, u "ChainLayout"), (0, .methodref 7 10), (0, .nameAndType 5 11), (0, u "(II)V"), (0, .methodref 7 13), (0, .nameAndType 14 6), (0, u "reset"), (0, .methodref 16 17), (0, .class_ 18), (0, .nameAndType 19 20), (0, u "ChainLayoutOwnLaw"), (0, u "cell"), (0, u "([II)I"), (0, .methodref 16 22), (0, .nameAndType 23 24), (0, u "mod"), (0, u "(II)I"), (0, .methodref 7 26), (0, .nameAndType 27 28), (0, u "addBlock"), (0, u "(IIII)I"), (0, .methodref 7 30), (0, .nameAndType 31 32), (0, u "setJump"), (0, u "(II)Z"), (0, .methodref 7 34), (0, .nameAndType 35 36), (0, u "setBranch"), (0, u "(IIII)Z"), (0, .methodref 7 38), (0, .nameAndType 39 24), (0, u "edgeCount"), (0, .long 4294967295), (1, .methodref 7 43), (0, .nameAndType 44 45), (0, u "layout"), (0, u "()Z"), (0, .methodref 7 47), (0, .nameAndType 48 49), (0, u "run"), (0, u "(I)I"), (0, .methodref 7 51), (0, .nameAndType 52 53), (0, u "lastStatus"), (0, u "()I"), (0, .methodref 7 55), (0, .nameAndType 56 53), (0, u "lastSteps"), (0, .methodref 7 58), (0, .nameAndType 59 53), (0, u "outputCount"), (0, .methodref 7 61), (0, .nameAndType 62 53), (0, u "blockCount"), (0, .methodref 7 64), (0, .nameAndType 65 49), (0, u "reg"), (0, .methodref 7 67), (0, .nameAndType 68 49), (0, u "output"), (0, .methodref 7 70), (0, .nameAndType 71 24), (0, u "blockInfo"), (0, .methodref 16 73), (0, .nameAndType 74 75), (0, u "word"), (0, u "(IJJJJJJJJ)J"), (3, u "law"), (0, u "([I)Z")] 4

def k1m0 : Method := { name := "<init>", desc := "()V", sig := { parameters := [], returnType := none }, accessFlags := 1, code := none }
def k1c1 : Code := { maxStack := 2, maxLocals := 2, code := method_2_code, exceptionTable := #[], attributes := #[] }
def k1m1 : Method := { name := "cell", desc := "([II)I", sig := { parameters := [(.array .int), .int], returnType := some .int }, accessFlags := 10, code := some k1c1 }
def k1c2 : Code := { maxStack := 2, maxLocals := 3, code := method_3_code, exceptionTable := #[], attributes := #[] }
def k1m2 : Method := { name := "mod", desc := "(II)I", sig := { parameters := [.int, .int], returnType := some .int }, accessFlags := 10, code := some k1c2 }
def k1c3 : Code := { maxStack := 2, maxLocals := 17, code := method_4_code, exceptionTable := #[], attributes := #[] }
def k1m3 : Method := { name := "word", desc := "(IJJJJJJJJ)J", sig := { parameters := [.int, .long, .long, .long, .long, .long, .long, .long, .long], returnType := some .long }, accessFlags := 10, code := some k1c3 }
def k1c4 : Code := { maxStack := 17, maxLocals := 29, code := code, exceptionTable := #[], attributes := #[] }
def k1m4 : Method := { name := "law", desc := "([I)Z", sig := { parameters := [(.array .int)], returnType := some .boolean }, accessFlags := 9, code := some k1c4 }
/-- ChainLayoutOwnLaw -/
def k1 : Class := { plain "ChainLayoutOwnLaw" (some 0) with
  accessFlags := 49
  interfaces := #[]
  cf := some (fileOf pool1 16 #[] #[{ accessFlags := 1, nameIndex := 5, descriptorIndex := 6, attributes := #[] }, { accessFlags := 10, nameIndex := 19, descriptorIndex := 20, attributes := #[] }, { accessFlags := 10, nameIndex := 23, descriptorIndex := 24, attributes := #[] }, { accessFlags := 10, nameIndex := 74, descriptorIndex := 75, attributes := #[] }, { accessFlags := 9, nameIndex := 79, descriptorIndex := 80, attributes := #[] }] 49 2 #[] #[])
  fields := #[]
  methods := #[k1m0, k1m1, k1m2, k1m3, k1m4]
  instanceTypes := #[]
  staticTypes := #[]
  resolved := Array.replicate 85 none
  statics := none }

def pool2 : Array CpInfo := pool [(1, .methodref 2 3), (0, .class_ 4), (0, .nameAndType 5 6), (0, u "java/lang/Object"), (0, u "<init>"), (0, u "()V"), (0, .fieldref 8 9), (0, .class_ 10), (0, .nameAndType 11 12), (0, u "ChainLayout"), (0, u "bOp"), (0, u "[I"), (0, .fieldref 8 14), (0, .nameAndType 15 12), (0, u "bD"), (0, .fieldref 8 17), (0, .nameAndType 18 12), (0, u "bS"), (0, .fieldref 8 20), (0, .nameAndType 21 12), (0, u "bImm"), (0, .fieldref 8 23), (0, .nameAndType 24 12), (0, u "bTerm"), (0, .fieldref 8 26), (0, .nameAndType 27 12), (0, u "bTest"), (0, .fieldref 8 29), (0, .nameAndType 30 12), (0, u "bT0"), (0, .fieldref 8 32), (0, .nameAndType 33 12), (0, u "bT1"), (0, .fieldref 8 35), (0, .nameAndType 36 12), (0, u "cnt0"), (0, .fieldref 8 38), (0, .nameAndType 39 12), (0, u "cnt1"), (0, .fieldref 8 41), (0, .nameAndType 42 12), (0, u "regs"), (0, .fieldref 8 44), (0, .nameAndType 45 12), (0, u "outs"), (0, .fieldref 8 47), (0, .nameAndType 48 12), (0, u "edgeId"), (0, .fieldref 8 50), (0, .nameAndType 51 12), (0, u "edgeW"), (0, .fieldref 8 53), (0, .nameAndType 54 12), (0, u "chNext"), (0, .fieldref 8 56), (0, .nameAndType 57 12), (0, u "chPrev"), (0, .fieldref 8 59), (0, .nameAndType 60 12), (0, u "chHead"), (0, .fieldref 8 62), (0, .nameAndType 63 12), (0, u "heat"), (0, .fieldref 8 65), (0, .nameAndType 66 12), (0, u "posOf"), (0, .fieldref 8 68), (0, .nameAndType 69 12), (0, u "order"), (0, .fieldref 8 71), (0, .nameAndType 72 12), (0, u "cOp"), (0, .fieldref 8 74), (0, .nameAndType 75 12), (0, u "cD"), (0, .fieldref 8 77), (0, .nameAndType 78 12), (0, u "cS"), (0, .fieldref 8 80), (0, .nameAndType 81 12), (0, u "cImm"), (0, .fieldref 8 83), (0, .nameAndType 84 12), (0, u "cKind"), (0, .fieldref 8 86), (0, .nameAndType 87 12), (0, u "cTest"), (0, .fieldref 8 89), (0, .nameAndType 90 12), (0, u "cTaken"), (0, .fieldref 8 92), (0, .nameAndType 93 12), (0, u "cOther"), (0, .fieldref 8 95), (0, .nameAndType 96 97), (0, u "maxBlocks"), (0, u "I"), (0, .fieldref 8 99), (0, .nameAndType 100 97), (0, u "maxSteps"), (0, .fieldref 8 102), (0, .nameAndType 103 97), (0, u "n"), (0, .fieldref 8 105), (0, .nameAndType 106 107), (0, u "arranged"), (0, u "Z"), (0, .fieldref 8 109), (0, .nameAndType 110 97), (0, u "outCount"), (0, .fieldref 8 112), (0, .nameAndType 113 97), (0, u "steps"), (0, .fieldref 8 115), (0, .nameAndType 116 97), (0, u "status"), (0, .methodref 8 118), (0, .nameAndType 119 120), (0, u "writeTerm"), (0, u "(IIII)V"), (0, .methodref 8 122), (0, .nameAndType 123 6), (0, u "clearCounts"), (0, .methodref 8 125), (0, .nameAndType 126 127), (0, u "validBlock"), (0, u "(I)Z"), (0, .methodref 8 129), (0, .nameAndType 130 131), (0, u "stepFlat"), (0, u "(I)I"), (0, .methodref 8 133), (0, .nameAndType 134 131), (0, u "stepBlock"), (0, .methodref 8 136), (0, .nameAndType 137 6), (0, u "collectEdges"), (0, .methodref 8 139), (0, .nameAndType 140 6), (0, u "sortEdges"), (0, .methodref 8 142), (0, .nameAndType 143 6), (0, u "buildChains"), (0, .methodref 8 145), (0, .nameAndType 146 6), (0, u "placeChains"), (0, .methodref 8 148), (0, .nameAndType 149 6), (0, u "compileCode"), (0, .methodref 8 151), (0, .nameAndType 152 120), (0, u "doOp"), (0, .methodref 8 154), (0, .nameAndType 155 127), (0, u "holds"), (0, .fieldref 8 157), (0, .nameAndType 158 97), (0, u "edgeN"), (0, .methodref 8 160), (0, .nameAndType 161 120), (0, u "addEdge"), (0, .methodref 8 163), (0, .nameAndType 164 165), (0, u "before"), (0, u "(IIII)Z"), (0, .methodref 8 167), (0, .nameAndType 168 169), (0, u "tryMerge"), (0, u "(II)V"), (0, .methodref 8 171), (0, .nameAndType 172 173), (0, u "placeChain"), (0, u "(II)I"), (0, .methodref 8 175), (0, .nameAndType 176 169), (0, u "compileTerm"), (0, u "OP_NOP"), (2, u "OP_MOVI"), (1, u "OP_MOV"), (1, u "OP_ADDI"), (1, u "OP_ADD"), (1, u "OP_SUB"), (1, u "OP_SHR"), (1, u "OP_OUT"), (1, u "T_HALT"), (0, u "T_JUMP"), (0, u "T_BRANCH"), (0, u "COND_EQZ"), (0, u "COND_NEZ"), (0, u "COND_LTZ"), (0, u "COND_GEZ"), (0, u "ST_NONE"), (0, u "ST_HALT"), (0, u "ST_STEPS"), (0, u "ST_EMPTY"), (0, u "OUT_CAP"), (1, u "F_OP"), (0, u "F_D"), (0, u "F_S"), (0, u "F_IMM"), (0, u "F_TERM"), (0, u "F_TEST"), (0, u "F_TARGET0"), (0, u "F_TARGET1"), (3, u "addBlock"), (0, u "(IIII)I"), (0, u "setJump"), (0, u "(II)Z"), (0, u "setBranch"), (1, u "run"), (0, u "layout"), (0, u "()Z"), (1, u "reset"), (0, u "blockCount"), (0, u "()I"), (0, u "blockInfo"), (0, u "edgeCount"), (0, u "lastStatus"), (0, u "lastSteps"), (0, u "reg"), (0, u "outputCount"), (0, u "output")] 2

def k2c0 : Code := { maxStack := 2, maxLocals := 5, code := prog_1_method_1_code, exceptionTable := #[], attributes := #[] }
def k2m0 : Method := { name := "<init>", desc := "(II)V", sig := { parameters := [.int, .int], returnType := none }, accessFlags := 1, code := some k2c0 }
def k2c1 : Code := { maxStack := 5, maxLocals := 6, code := prog_1_method_2_code, exceptionTable := #[], attributes := #[] }
def k2m1 : Method := { name := "addBlock", desc := "(IIII)I", sig := { parameters := [.int, .int, .int, .int], returnType := some .int }, accessFlags := 1, code := some k2c1 }
def k2c2 : Code := { maxStack := 5, maxLocals := 3, code := prog_1_method_3_code, exceptionTable := #[], attributes := #[] }
def k2m2 : Method := { name := "setJump", desc := "(II)Z", sig := { parameters := [.int, .int], returnType := some .boolean }, accessFlags := 1, code := some k2c2 }
def k2c3 : Code := { maxStack := 5, maxLocals := 5, code := prog_1_method_4_code, exceptionTable := #[], attributes := #[] }
def k2m3 : Method := { name := "setBranch", desc := "(IIII)Z", sig := { parameters := [.int, .int, .int, .int], returnType := some .boolean }, accessFlags := 1, code := some k2c3 }
def k2c4 : Code := { maxStack := 3, maxLocals := 5, code := prog_1_method_6_code, exceptionTable := #[], attributes := #[] }
def k2m4 : Method := { name := "run", desc := "(I)I", sig := { parameters := [.int], returnType := some .int }, accessFlags := 1, code := some k2c4 }
def k2c5 : Code := { maxStack := 2, maxLocals := 1, code := prog_1_method_7_code, exceptionTable := #[], attributes := #[] }
def k2m5 : Method := { name := "layout", desc := "()Z", sig := { parameters := [], returnType := some .boolean }, accessFlags := 1, code := some k2c5 }
def k2c6 : Code := { maxStack := 3, maxLocals := 2, code := prog_1_method_9_code, exceptionTable := #[], attributes := #[] }
def k2m6 : Method := { name := "reset", desc := "()V", sig := { parameters := [], returnType := none }, accessFlags := 1, code := some k2c6 }
def k2c7 : Code := { maxStack := 1, maxLocals := 1, code := prog_1_method_10_code, exceptionTable := #[], attributes := #[] }
def k2m7 : Method := { name := "blockCount", desc := "()I", sig := { parameters := [], returnType := some .int }, accessFlags := 1, code := some k2c7 }
def k2c8 : Code := { maxStack := 2, maxLocals := 3, code := prog_1_method_11_code, exceptionTable := #[], attributes := #[] }
def k2m8 : Method := { name := "blockInfo", desc := "(II)I", sig := { parameters := [.int, .int], returnType := some .int }, accessFlags := 1, code := some k2c8 }
def k2c9 : Code := { maxStack := 2, maxLocals := 3, code := prog_1_method_12_code, exceptionTable := #[], attributes := #[] }
def k2m9 : Method := { name := "edgeCount", desc := "(II)I", sig := { parameters := [.int, .int], returnType := some .int }, accessFlags := 1, code := some k2c9 }
def k2c10 : Code := { maxStack := 1, maxLocals := 1, code := prog_1_method_13_code, exceptionTable := #[], attributes := #[] }
def k2m10 : Method := { name := "lastStatus", desc := "()I", sig := { parameters := [], returnType := some .int }, accessFlags := 1, code := some k2c10 }
def k2c11 : Code := { maxStack := 1, maxLocals := 1, code := prog_1_method_14_code, exceptionTable := #[], attributes := #[] }
def k2m11 : Method := { name := "lastSteps", desc := "()I", sig := { parameters := [], returnType := some .int }, accessFlags := 1, code := some k2c11 }
def k2c12 : Code := { maxStack := 2, maxLocals := 2, code := prog_1_method_15_code, exceptionTable := #[], attributes := #[] }
def k2m12 : Method := { name := "reg", desc := "(I)I", sig := { parameters := [.int], returnType := some .int }, accessFlags := 1, code := some k2c12 }
def k2c13 : Code := { maxStack := 1, maxLocals := 1, code := prog_1_method_16_code, exceptionTable := #[], attributes := #[] }
def k2m13 : Method := { name := "outputCount", desc := "()I", sig := { parameters := [], returnType := some .int }, accessFlags := 1, code := some k2c13 }
def k2c14 : Code := { maxStack := 2, maxLocals := 2, code := prog_1_method_17_code, exceptionTable := #[], attributes := #[] }
def k2m14 : Method := { name := "output", desc := "(I)I", sig := { parameters := [.int], returnType := some .int }, accessFlags := 1, code := some k2c14 }
def k2c15 : Code := { maxStack := 2, maxLocals := 2, code := prog_1_method_18_code, exceptionTable := #[], attributes := #[] }
def k2m15 : Method := { name := "validBlock", desc := "(I)Z", sig := { parameters := [.int], returnType := some .boolean }, accessFlags := 2, code := some k2c15 }
def k2c16 : Code := { maxStack := 3, maxLocals := 5, code := prog_1_method_19_code, exceptionTable := #[], attributes := #[] }
def k2m16 : Method := { name := "writeTerm", desc := "(IIII)V", sig := { parameters := [.int, .int, .int, .int], returnType := none }, accessFlags := 2, code := some k2c16 }
def k2c17 : Code := { maxStack := 3, maxLocals := 2, code := prog_1_method_20_code, exceptionTable := #[], attributes := #[] }
def k2m17 : Method := { name := "clearCounts", desc := "()V", sig := { parameters := [], returnType := none }, accessFlags := 2, code := some k2c17 }
def k2c18 : Code := { maxStack := 5, maxLocals := 5, code := prog_1_method_21_code, exceptionTable := #[], attributes := #[] }
def k2m18 : Method := { name := "doOp", desc := "(IIII)V", sig := { parameters := [.int, .int, .int, .int], returnType := none }, accessFlags := 2, code := some k2c18 }
def k2c19 : Code := { maxStack := 3, maxLocals := 4, code := prog_1_method_22_code, exceptionTable := #[], attributes := #[] }
def k2m19 : Method := { name := "holds", desc := "(I)Z", sig := { parameters := [.int], returnType := some .boolean }, accessFlags := 2, code := some k2c19 }
def k2c20 : Code := { maxStack := 6, maxLocals := 3, code := prog_1_method_23_code, exceptionTable := #[], attributes := #[] }
def k2m20 : Method := { name := "stepBlock", desc := "(I)I", sig := { parameters := [.int], returnType := some .int }, accessFlags := 2, code := some k2c20 }
def k2c21 : Code := { maxStack := 6, maxLocals := 3, code := prog_1_method_24_code, exceptionTable := #[], attributes := #[] }
def k2m21 : Method := { name := "stepFlat", desc := "(I)I", sig := { parameters := [.int], returnType := some .int }, accessFlags := 2, code := some k2c21 }
def k2c22 : Code := { maxStack := 6, maxLocals := 3, code := prog_1_method_25_code, exceptionTable := #[], attributes := #[] }
def k2m22 : Method := { name := "collectEdges", desc := "()V", sig := { parameters := [], returnType := none }, accessFlags := 2, code := some k2c22 }
def k2c23 : Code := { maxStack := 4, maxLocals := 5, code := prog_1_method_26_code, exceptionTable := #[], attributes := #[] }
def k2m23 : Method := { name := "addEdge", desc := "(IIII)V", sig := { parameters := [.int, .int, .int, .int], returnType := none }, accessFlags := 2, code := some k2c23 }
def k2c24 : Code := { maxStack := 6, maxLocals := 5, code := prog_1_method_27_code, exceptionTable := #[], attributes := #[] }
def k2m24 : Method := { name := "sortEdges", desc := "()V", sig := { parameters := [], returnType := none }, accessFlags := 2, code := some k2c24 }
def k2c25 : Code := { maxStack := 2, maxLocals := 5, code := prog_1_method_28_code, exceptionTable := #[], attributes := #[] }
def k2m25 : Method := { name := "before", desc := "(IIII)Z", sig := { parameters := [.int, .int, .int, .int], returnType := some .boolean }, accessFlags := 2, code := some k2c25 }
def k2c26 : Code := { maxStack := 3, maxLocals := 5, code := prog_1_method_29_code, exceptionTable := #[], attributes := #[] }
def k2m26 : Method := { name := "buildChains", desc := "()V", sig := { parameters := [], returnType := none }, accessFlags := 2, code := some k2c26 }
def k2c27 : Code := { maxStack := 3, maxLocals := 6, code := prog_1_method_30_code, exceptionTable := #[], attributes := #[] }
def k2m27 : Method := { name := "tryMerge", desc := "(II)V", sig := { parameters := [.int, .int], returnType := none }, accessFlags := 2, code := some k2c27 }
def k2c28 : Code := { maxStack := 3, maxLocals := 5, code := prog_1_method_31_code, exceptionTable := #[], attributes := #[] }
def k2m28 : Method := { name := "placeChains", desc := "()V", sig := { parameters := [], returnType := none }, accessFlags := 2, code := some k2c28 }
def k2c29 : Code := { maxStack := 3, maxLocals := 6, code := prog_1_method_32_code, exceptionTable := #[], attributes := #[] }
def k2m29 : Method := { name := "placeChain", desc := "(II)I", sig := { parameters := [.int, .int], returnType := some .int }, accessFlags := 2, code := some k2c29 }
def k2c30 : Code := { maxStack := 4, maxLocals := 3, code := prog_1_method_33_code, exceptionTable := #[], attributes := #[] }
def k2m30 : Method := { name := "compileCode", desc := "()V", sig := { parameters := [], returnType := none }, accessFlags := 2, code := some k2c30 }
def k2c31 : Code := { maxStack := 4, maxLocals := 6, code := prog_1_method_34_code, exceptionTable := #[], attributes := #[] }
def k2m31 : Method := { name := "compileTerm", desc := "(II)V", sig := { parameters := [.int, .int], returnType := none }, accessFlags := 2, code := some k2c31 }
/-- ChainLayout -/
def k2 : Class := { plain "ChainLayout" (some 0) with
  accessFlags := 49
  interfaces := #[]
  cf := some (fileOf pool2 8 #[] #[{ accessFlags := 1, nameIndex := 5, descriptorIndex := 169, attributes := #[] }, { accessFlags := 1, nameIndex := 218, descriptorIndex := 219, attributes := #[] }, { accessFlags := 1, nameIndex := 220, descriptorIndex := 221, attributes := #[] }, { accessFlags := 1, nameIndex := 222, descriptorIndex := 165, attributes := #[] }, { accessFlags := 1, nameIndex := 224, descriptorIndex := 131, attributes := #[] }, { accessFlags := 1, nameIndex := 225, descriptorIndex := 226, attributes := #[] }, { accessFlags := 1, nameIndex := 228, descriptorIndex := 6, attributes := #[] }, { accessFlags := 1, nameIndex := 229, descriptorIndex := 230, attributes := #[] }, { accessFlags := 1, nameIndex := 231, descriptorIndex := 173, attributes := #[] }, { accessFlags := 1, nameIndex := 232, descriptorIndex := 173, attributes := #[] }, { accessFlags := 1, nameIndex := 233, descriptorIndex := 230, attributes := #[] }, { accessFlags := 1, nameIndex := 234, descriptorIndex := 230, attributes := #[] }, { accessFlags := 1, nameIndex := 235, descriptorIndex := 131, attributes := #[] }, { accessFlags := 1, nameIndex := 236, descriptorIndex := 230, attributes := #[] }, { accessFlags := 1, nameIndex := 237, descriptorIndex := 131, attributes := #[] }, { accessFlags := 2, nameIndex := 126, descriptorIndex := 127, attributes := #[] }, { accessFlags := 2, nameIndex := 119, descriptorIndex := 120, attributes := #[] }, { accessFlags := 2, nameIndex := 123, descriptorIndex := 6, attributes := #[] }, { accessFlags := 2, nameIndex := 152, descriptorIndex := 120, attributes := #[] }, { accessFlags := 2, nameIndex := 155, descriptorIndex := 127, attributes := #[] }, { accessFlags := 2, nameIndex := 134, descriptorIndex := 131, attributes := #[] }, { accessFlags := 2, nameIndex := 130, descriptorIndex := 131, attributes := #[] }, { accessFlags := 2, nameIndex := 137, descriptorIndex := 6, attributes := #[] }, { accessFlags := 2, nameIndex := 161, descriptorIndex := 120, attributes := #[] }, { accessFlags := 2, nameIndex := 140, descriptorIndex := 6, attributes := #[] }, { accessFlags := 2, nameIndex := 164, descriptorIndex := 165, attributes := #[] }, { accessFlags := 2, nameIndex := 143, descriptorIndex := 6, attributes := #[] }, { accessFlags := 2, nameIndex := 168, descriptorIndex := 169, attributes := #[] }, { accessFlags := 2, nameIndex := 146, descriptorIndex := 6, attributes := #[] }, { accessFlags := 2, nameIndex := 172, descriptorIndex := 173, attributes := #[] }, { accessFlags := 2, nameIndex := 149, descriptorIndex := 6, attributes := #[] }, { accessFlags := 2, nameIndex := 176, descriptorIndex := 169, attributes := #[] }] 49 2 #[] #[{ accessFlags := 25, nameIndex := 177, descriptorIndex := 97, attributes := #[] }, { accessFlags := 25, nameIndex := 180, descriptorIndex := 97, attributes := #[] }, { accessFlags := 25, nameIndex := 182, descriptorIndex := 97, attributes := #[] }, { accessFlags := 25, nameIndex := 184, descriptorIndex := 97, attributes := #[] }, { accessFlags := 25, nameIndex := 186, descriptorIndex := 97, attributes := #[] }, { accessFlags := 25, nameIndex := 188, descriptorIndex := 97, attributes := #[] }, { accessFlags := 25, nameIndex := 190, descriptorIndex := 97, attributes := #[] }, { accessFlags := 25, nameIndex := 192, descriptorIndex := 97, attributes := #[] }, { accessFlags := 25, nameIndex := 194, descriptorIndex := 97, attributes := #[] }, { accessFlags := 25, nameIndex := 195, descriptorIndex := 97, attributes := #[] }, { accessFlags := 25, nameIndex := 196, descriptorIndex := 97, attributes := #[] }, { accessFlags := 25, nameIndex := 197, descriptorIndex := 97, attributes := #[] }, { accessFlags := 25, nameIndex := 198, descriptorIndex := 97, attributes := #[] }, { accessFlags := 25, nameIndex := 199, descriptorIndex := 97, attributes := #[] }, { accessFlags := 25, nameIndex := 200, descriptorIndex := 97, attributes := #[] }, { accessFlags := 25, nameIndex := 201, descriptorIndex := 97, attributes := #[] }, { accessFlags := 25, nameIndex := 202, descriptorIndex := 97, attributes := #[] }, { accessFlags := 25, nameIndex := 203, descriptorIndex := 97, attributes := #[] }, { accessFlags := 25, nameIndex := 204, descriptorIndex := 97, attributes := #[] }, { accessFlags := 25, nameIndex := 205, descriptorIndex := 97, attributes := #[] }, { accessFlags := 25, nameIndex := 207, descriptorIndex := 97, attributes := #[] }, { accessFlags := 25, nameIndex := 208, descriptorIndex := 97, attributes := #[] }, { accessFlags := 25, nameIndex := 209, descriptorIndex := 97, attributes := #[] }, { accessFlags := 25, nameIndex := 210, descriptorIndex := 97, attributes := #[] }, { accessFlags := 25, nameIndex := 211, descriptorIndex := 97, attributes := #[] }, { accessFlags := 25, nameIndex := 212, descriptorIndex := 97, attributes := #[] }, { accessFlags := 25, nameIndex := 213, descriptorIndex := 97, attributes := #[] }, { accessFlags := 25, nameIndex := 214, descriptorIndex := 97, attributes := #[] }, { accessFlags := 2, nameIndex := 96, descriptorIndex := 97, attributes := #[] }, { accessFlags := 2, nameIndex := 100, descriptorIndex := 97, attributes := #[] }, { accessFlags := 2, nameIndex := 103, descriptorIndex := 97, attributes := #[] }, { accessFlags := 2, nameIndex := 106, descriptorIndex := 107, attributes := #[] }, { accessFlags := 2, nameIndex := 11, descriptorIndex := 12, attributes := #[] }, { accessFlags := 2, nameIndex := 15, descriptorIndex := 12, attributes := #[] }, { accessFlags := 2, nameIndex := 18, descriptorIndex := 12, attributes := #[] }, { accessFlags := 2, nameIndex := 21, descriptorIndex := 12, attributes := #[] }, { accessFlags := 2, nameIndex := 24, descriptorIndex := 12, attributes := #[] }, { accessFlags := 2, nameIndex := 27, descriptorIndex := 12, attributes := #[] }, { accessFlags := 2, nameIndex := 30, descriptorIndex := 12, attributes := #[] }, { accessFlags := 2, nameIndex := 33, descriptorIndex := 12, attributes := #[] }, { accessFlags := 2, nameIndex := 36, descriptorIndex := 12, attributes := #[] }, { accessFlags := 2, nameIndex := 39, descriptorIndex := 12, attributes := #[] }, { accessFlags := 2, nameIndex := 42, descriptorIndex := 12, attributes := #[] }, { accessFlags := 2, nameIndex := 45, descriptorIndex := 12, attributes := #[] }, { accessFlags := 2, nameIndex := 110, descriptorIndex := 97, attributes := #[] }, { accessFlags := 2, nameIndex := 113, descriptorIndex := 97, attributes := #[] }, { accessFlags := 2, nameIndex := 116, descriptorIndex := 97, attributes := #[] }, { accessFlags := 2, nameIndex := 48, descriptorIndex := 12, attributes := #[] }, { accessFlags := 2, nameIndex := 51, descriptorIndex := 12, attributes := #[] }, { accessFlags := 2, nameIndex := 158, descriptorIndex := 97, attributes := #[] }, { accessFlags := 2, nameIndex := 54, descriptorIndex := 12, attributes := #[] }, { accessFlags := 2, nameIndex := 57, descriptorIndex := 12, attributes := #[] }, { accessFlags := 2, nameIndex := 60, descriptorIndex := 12, attributes := #[] }, { accessFlags := 2, nameIndex := 63, descriptorIndex := 12, attributes := #[] }, { accessFlags := 2, nameIndex := 66, descriptorIndex := 12, attributes := #[] }, { accessFlags := 2, nameIndex := 69, descriptorIndex := 12, attributes := #[] }, { accessFlags := 2, nameIndex := 72, descriptorIndex := 12, attributes := #[] }, { accessFlags := 2, nameIndex := 75, descriptorIndex := 12, attributes := #[] }, { accessFlags := 2, nameIndex := 78, descriptorIndex := 12, attributes := #[] }, { accessFlags := 2, nameIndex := 81, descriptorIndex := 12, attributes := #[] }, { accessFlags := 2, nameIndex := 84, descriptorIndex := 12, attributes := #[] }, { accessFlags := 2, nameIndex := 87, descriptorIndex := 12, attributes := #[] }, { accessFlags := 2, nameIndex := 90, descriptorIndex := 12, attributes := #[] }, { accessFlags := 2, nameIndex := 93, descriptorIndex := 12, attributes := #[] }])
  fields := #[{ name := "OP_NOP", type := .int, accessFlags := 25, slot := 0, constantValue := 0 }, { name := "OP_MOVI", type := .int, accessFlags := 25, slot := 1, constantValue := 0 }, { name := "OP_MOV", type := .int, accessFlags := 25, slot := 2, constantValue := 0 }, { name := "OP_ADDI", type := .int, accessFlags := 25, slot := 3, constantValue := 0 }, { name := "OP_ADD", type := .int, accessFlags := 25, slot := 4, constantValue := 0 }, { name := "OP_SUB", type := .int, accessFlags := 25, slot := 5, constantValue := 0 }, { name := "OP_SHR", type := .int, accessFlags := 25, slot := 6, constantValue := 0 }, { name := "OP_OUT", type := .int, accessFlags := 25, slot := 7, constantValue := 0 }, { name := "T_HALT", type := .int, accessFlags := 25, slot := 8, constantValue := 0 }, { name := "T_JUMP", type := .int, accessFlags := 25, slot := 9, constantValue := 0 }, { name := "T_BRANCH", type := .int, accessFlags := 25, slot := 10, constantValue := 0 }, { name := "COND_EQZ", type := .int, accessFlags := 25, slot := 11, constantValue := 0 }, { name := "COND_NEZ", type := .int, accessFlags := 25, slot := 12, constantValue := 0 }, { name := "COND_LTZ", type := .int, accessFlags := 25, slot := 13, constantValue := 0 }, { name := "COND_GEZ", type := .int, accessFlags := 25, slot := 14, constantValue := 0 }, { name := "ST_NONE", type := .int, accessFlags := 25, slot := 15, constantValue := 0 }, { name := "ST_HALT", type := .int, accessFlags := 25, slot := 16, constantValue := 0 }, { name := "ST_STEPS", type := .int, accessFlags := 25, slot := 17, constantValue := 0 }, { name := "ST_EMPTY", type := .int, accessFlags := 25, slot := 18, constantValue := 0 }, { name := "OUT_CAP", type := .int, accessFlags := 25, slot := 19, constantValue := 0 }, { name := "F_OP", type := .int, accessFlags := 25, slot := 20, constantValue := 0 }, { name := "F_D", type := .int, accessFlags := 25, slot := 21, constantValue := 0 }, { name := "F_S", type := .int, accessFlags := 25, slot := 22, constantValue := 0 }, { name := "F_IMM", type := .int, accessFlags := 25, slot := 23, constantValue := 0 }, { name := "F_TERM", type := .int, accessFlags := 25, slot := 24, constantValue := 0 }, { name := "F_TEST", type := .int, accessFlags := 25, slot := 25, constantValue := 0 }, { name := "F_TARGET0", type := .int, accessFlags := 25, slot := 26, constantValue := 0 }, { name := "F_TARGET1", type := .int, accessFlags := 25, slot := 27, constantValue := 0 }, { name := "maxBlocks", type := .int, accessFlags := 2, slot := 0, constantValue := 0 }, { name := "maxSteps", type := .int, accessFlags := 2, slot := 1, constantValue := 0 }, { name := "n", type := .int, accessFlags := 2, slot := 2, constantValue := 0 }, { name := "arranged", type := .boolean, accessFlags := 2, slot := 3, constantValue := 0 }, { name := "bOp", type := (.array .int), accessFlags := 2, slot := 4, constantValue := 0 }, { name := "bD", type := (.array .int), accessFlags := 2, slot := 5, constantValue := 0 }, { name := "bS", type := (.array .int), accessFlags := 2, slot := 6, constantValue := 0 }, { name := "bImm", type := (.array .int), accessFlags := 2, slot := 7, constantValue := 0 }, { name := "bTerm", type := (.array .int), accessFlags := 2, slot := 8, constantValue := 0 }, { name := "bTest", type := (.array .int), accessFlags := 2, slot := 9, constantValue := 0 }, { name := "bT0", type := (.array .int), accessFlags := 2, slot := 10, constantValue := 0 }, { name := "bT1", type := (.array .int), accessFlags := 2, slot := 11, constantValue := 0 }, { name := "cnt0", type := (.array .int), accessFlags := 2, slot := 12, constantValue := 0 }, { name := "cnt1", type := (.array .int), accessFlags := 2, slot := 13, constantValue := 0 }, { name := "regs", type := (.array .int), accessFlags := 2, slot := 14, constantValue := 0 }, { name := "outs", type := (.array .int), accessFlags := 2, slot := 15, constantValue := 0 }, { name := "outCount", type := .int, accessFlags := 2, slot := 16, constantValue := 0 }, { name := "steps", type := .int, accessFlags := 2, slot := 17, constantValue := 0 }, { name := "status", type := .int, accessFlags := 2, slot := 18, constantValue := 0 }, { name := "edgeId", type := (.array .int), accessFlags := 2, slot := 19, constantValue := 0 }, { name := "edgeW", type := (.array .int), accessFlags := 2, slot := 20, constantValue := 0 }, { name := "edgeN", type := .int, accessFlags := 2, slot := 21, constantValue := 0 }, { name := "chNext", type := (.array .int), accessFlags := 2, slot := 22, constantValue := 0 }, { name := "chPrev", type := (.array .int), accessFlags := 2, slot := 23, constantValue := 0 }, { name := "chHead", type := (.array .int), accessFlags := 2, slot := 24, constantValue := 0 }, { name := "heat", type := (.array .int), accessFlags := 2, slot := 25, constantValue := 0 }, { name := "posOf", type := (.array .int), accessFlags := 2, slot := 26, constantValue := 0 }, { name := "order", type := (.array .int), accessFlags := 2, slot := 27, constantValue := 0 }, { name := "cOp", type := (.array .int), accessFlags := 2, slot := 28, constantValue := 0 }, { name := "cD", type := (.array .int), accessFlags := 2, slot := 29, constantValue := 0 }, { name := "cS", type := (.array .int), accessFlags := 2, slot := 30, constantValue := 0 }, { name := "cImm", type := (.array .int), accessFlags := 2, slot := 31, constantValue := 0 }, { name := "cKind", type := (.array .int), accessFlags := 2, slot := 32, constantValue := 0 }, { name := "cTest", type := (.array .int), accessFlags := 2, slot := 33, constantValue := 0 }, { name := "cTaken", type := (.array .int), accessFlags := 2, slot := 34, constantValue := 0 }, { name := "cOther", type := (.array .int), accessFlags := 2, slot := 35, constantValue := 0 }]
  methods := #[k2m0, k2m1, k2m2, k2m3, k2m4, k2m5, k2m6, k2m7, k2m8, k2m9, k2m10, k2m11, k2m12, k2m13, k2m14, k2m15, k2m16, k2m17, k2m18, k2m19, k2m20, k2m21, k2m22, k2m23, k2m24, k2m25, k2m26, k2m27, k2m28, k2m29, k2m30, k2m31]
  instanceTypes := #[.int, .int, .int, .boolean, (.array .int), (.array .int), (.array .int), (.array .int), (.array .int), (.array .int), (.array .int), (.array .int), (.array .int), (.array .int), (.array .int), (.array .int), .int, .int, .int, (.array .int), (.array .int), .int, (.array .int), (.array .int), (.array .int), (.array .int), (.array .int), (.array .int), (.array .int), (.array .int), (.array .int), (.array .int), (.array .int), (.array .int), (.array .int), (.array .int)]
  staticTypes := #[.int, .int, .int, .int, .int, .int, .int, .int, .int, .int, .int, .int, .int, .int, .int, .int, .int, .int, .int, .int, .int, .int, .int, .int, .int, .int, .int, .int]
  resolved := Array.replicate 240 none
  statics := none }

def pool3 : Array CpInfo := pool [(1, u "java/lang/Cloneable"), (0, .class_ 1), (0, u "java/lang/Object"), (0, .class_ 3)] 3

/-- java/lang/Cloneable -/
def k3 : Class := { plain "java/lang/Cloneable" (some 0) with
  accessFlags := 1537
  interfaces := #[]
  cf := some (fileOf pool3 2 #[] #[] 1537 4 #[] #[])
  fields := #[]
  methods := #[]
  instanceTypes := #[]
  staticTypes := #[]
  resolved := Array.replicate 8 none
  statics := none }

def pool4 : Array CpInfo := pool [(1, u "java/io/Serializable"), (0, .class_ 1), (0, u "java/lang/Object"), (0, .class_ 3)] 3

/-- java/io/Serializable -/
def k4 : Class := { plain "java/io/Serializable" (some 0) with
  accessFlags := 1537
  interfaces := #[]
  cf := some (fileOf pool4 2 #[] #[] 1537 4 #[] #[])
  fields := #[]
  methods := #[]
  instanceTypes := #[]
  staticTypes := #[]
  resolved := Array.replicate 8 none
  statics := none }

/-- the primitive byte -/
def k5 : Class := { plain "byte" none with kind := .primitive 'B', accessFlags := 0x411 }
/-- [B -/
def k6 : Class := { plain "[B" (some 0) with kind := .array 5 .byte, interfaces := #[3, 4], accessFlags := 1041 }

/-- the primitive int -/
def k7 : Class := { plain "int" none with kind := .primitive 'I', accessFlags := 0x411 }
/-- [I -/
def k8 : Class := { plain "[I" (some 0) with kind := .array 7 .int, interfaces := #[3, 4], accessFlags := 1041 }

def heap : Heap := #[{ cls := 8, slots := #[.int 1, .int 2, .int 3], vm := .none }]
def classes : Array Class := #[k0, k1, k2, k3, k4, k5, k6, k7, k8]
def interned : List (Array UInt16 × Addr) := []
def slotsUsed : Nat := 3
def theMethod : MethodId := ⟨1, 4⟩
def args0 : Array Value := #[.ref 0]
def aboutOver (below : List Frame) : State where
  vm := { classes := classes, interned := interned.toArray }
  heap := heap
  slotsUsed := slotsUsed
  threads := #[{ frames := .invoking theMethod args0 :: below }]
def below0 : List Frame := [.native { method := ⟨0, 0⟩, args := #[] }]
def about1 : State := aboutOver below0
def p0 : Program := .bare "" "" ""
def e0 : Env := launch0.env 0 0 0
theorem w_frames : about1.frames = Frame.invoking theMethod args0 :: below0 := rfl
set_option maxRecDepth 65536 in
theorem w_args : argsFit about1.vm theMethod args0 = true := by decide +kernel
set_option maxRecDepth 65536 in
theorem w_heap : heapFits about1 = true := by decide +kernel
set_option maxRecDepth 65536 in
theorem w_runnable : about1.curStatus? = some .runnable := by decide +kernel
set_option maxRecDepth 65536 in
theorem w_alone : about1.alone = true := by decide +kernel
set_option maxRecDepth 65536 in
theorem w_named : about1.methodNamed? x = some theMethod := by decide +kernel
set_option maxRecDepth 65536 in
theorem w_hears : about1.hears theMethod below0 = true := by decide +kernel
set_option maxRecDepth 65536 in
theorem w_ripe : about1.ripe theMethod args0 below0 = true := by decide +kernel
theorem w_running : about1.status = .running := rfl
set_option maxRecDepth 65536 in
theorem w_room : about1.hasRoom e0.platform room_1 = true :=
  launch0.hasRoom_least _ room_1 (by decide +kernel) (by decide +kernel) (by decide +kernel) (by decide +kernel) (by decide +kernel) (by decide +kernel)
theorem allAtoms_all (ts : List Jvm.Cond) (a : Array Jvm.Value) (st : Jvm.State) : (allAtoms ts).before a st = ts.all (fun c => c.before a st) := by
  induction ts with
  | nil => rfl
  | cons c t ih =>
    show (Jvm.Cond.and c (allAtoms t)).before a st = _
    rw [Jvm.Cond.before_and, ih, List.all_cons]
def words1 : List Jvm.Cond := Jvm.Cond.code x code maxLocals ret :: tables_1
/-- a 'code' word, met by the world's own term for the bytes: nothing is compared byte by byte -/
theorem code_word {y : MethodName} {bytes : ByteArray} {mx : Nat} {rt : Option FieldType} {a : Array Value} {s : State} {m : MethodId} {meth : Method} {c : Code} (h1 : s.methodNamed? y = some m) (h2 : s.vm.method? m = some meth) (h3 : meth.code = some c) (h4 : c.code = bytes)
    (h5 : (c.maxLocals == mx && c.exceptionTable.isEmpty && decide (c.maxStack ≤ mostOperands) && decide (meth.sig.returnType = rt) && !meth.locks && decide (parseMethodDescriptor y.desc = some meth.sig)) = true) : (Jvm.Cond.code y bytes mx rt).before a s = true := by
  simp only [Bool.and_eq_true, beq_iff_eq, Bool.not_eq_true', decide_eq_true_eq] at h5
  obtain ⟨⟨⟨⟨⟨g1, g2⟩, g3⟩, g4⟩, g5⟩, g6⟩ := h5
  simp [Cond.before, Cond.holds, Cond.value, h1, h2, h3, h4, g1, g2, g3, g4, g5, g6]
def isCode : Jvm.Cond → Bool
  | .code _ _ _ _ => true
  | _ => false
theorem all_split {L : List Jvm.Cond} {P : Jvm.Cond → Bool} (h1 : L.all (fun c => isCode c || P c) = true) (h2 : ∀ c ∈ L.filter isCode, P c = true) : L.all P = true := by
  refine List.all_eq_true.mpr fun c hc => ?_
  have h := List.all_eq_true.mp h1 c hc
  rcases Bool.eq_false_or_eq_true (isCode c) with hi | hi
  · exact h2 c (List.mem_filter.mpr ⟨hc, hi⟩)
  · simpa [hi] using h
set_option maxRecDepth 65536 in
theorem w_c0 : (Jvm.Cond.code x code maxLocals ret).before args0 about1 = true := code_word (m := ⟨1, 4⟩) (meth := k1m4) (c := k1c4) (by decide +kernel) rfl rfl rfl (by decide +kernel)
set_option maxRecDepth 65536 in
theorem w_c1 : (Jvm.Cond.code ({ cls := "ChainLayout", name := "<init>", desc := "(II)V" } : Jvm.MethodName) prog_1_method_1_code (5 : Nat) (Option.none : Option Jvm.ClassFile.FieldType)).before args0 about1 = true := code_word (m := ⟨2, 0⟩) (meth := k2m0) (c := k2c0) (by decide +kernel) rfl rfl rfl (by decide +kernel)
set_option maxRecDepth 65536 in
theorem w_c2 : (Jvm.Cond.code ({ cls := "java/lang/Object", name := "<init>", desc := "()V" } : Jvm.MethodName) object_method_1_code (1 : Nat) (Option.none : Option Jvm.ClassFile.FieldType)).before args0 about1 = true := code_word (m := ⟨0, 0⟩) (meth := k0m0) (c := k0c0) (by decide +kernel) rfl rfl rfl (by decide +kernel)
set_option maxRecDepth 65536 in
theorem w_c3 : (Jvm.Cond.code ({ cls := "ChainLayout", name := "reset", desc := "()V" } : Jvm.MethodName) prog_1_method_9_code (2 : Nat) (Option.none : Option Jvm.ClassFile.FieldType)).before args0 about1 = true := code_word (m := ⟨2, 6⟩) (meth := k2m6) (c := k2c6) (by decide +kernel) rfl rfl rfl (by decide +kernel)
set_option maxRecDepth 65536 in
theorem w_c4 : (Jvm.Cond.code ({ cls := "ChainLayout", name := "clearCounts", desc := "()V" } : Jvm.MethodName) prog_1_method_20_code (2 : Nat) (Option.none : Option Jvm.ClassFile.FieldType)).before args0 about1 = true := code_word (m := ⟨2, 17⟩) (meth := k2m17) (c := k2c17) (by decide +kernel) rfl rfl rfl (by decide +kernel)
set_option maxRecDepth 65536 in
theorem w_c5 : (Jvm.Cond.code ({ cls := "ChainLayoutOwnLaw", name := "cell", desc := "([II)I" } : Jvm.MethodName) method_2_code (2 : Nat) (Option.some Jvm.ClassFile.FieldType.int)).before args0 about1 = true := code_word (m := ⟨1, 1⟩) (meth := k1m1) (c := k1c1) (by decide +kernel) rfl rfl rfl (by decide +kernel)
set_option maxRecDepth 65536 in
theorem w_c6 : (Jvm.Cond.code ({ cls := "ChainLayoutOwnLaw", name := "mod", desc := "(II)I" } : Jvm.MethodName) method_3_code (3 : Nat) (Option.some Jvm.ClassFile.FieldType.int)).before args0 about1 = true := code_word (m := ⟨1, 2⟩) (meth := k1m2) (c := k1c2) (by decide +kernel) rfl rfl rfl (by decide +kernel)
set_option maxRecDepth 65536 in
theorem w_c7 : (Jvm.Cond.code ({ cls := "ChainLayout", name := "addBlock", desc := "(IIII)I" } : Jvm.MethodName) prog_1_method_2_code (6 : Nat) (Option.some Jvm.ClassFile.FieldType.int)).before args0 about1 = true := code_word (m := ⟨2, 1⟩) (meth := k2m1) (c := k2c1) (by decide +kernel) rfl rfl rfl (by decide +kernel)
set_option maxRecDepth 65536 in
theorem w_c8 : (Jvm.Cond.code ({ cls := "ChainLayout", name := "writeTerm", desc := "(IIII)V" } : Jvm.MethodName) prog_1_method_19_code (5 : Nat) (Option.none : Option Jvm.ClassFile.FieldType)).before args0 about1 = true := code_word (m := ⟨2, 16⟩) (meth := k2m16) (c := k2c16) (by decide +kernel) rfl rfl rfl (by decide +kernel)
set_option maxRecDepth 65536 in
theorem w_c9 : (Jvm.Cond.code ({ cls := "ChainLayout", name := "setBranch", desc := "(IIII)Z" } : Jvm.MethodName) prog_1_method_4_code (5 : Nat) (Option.some Jvm.ClassFile.FieldType.boolean)).before args0 about1 = true := code_word (m := ⟨2, 3⟩) (meth := k2m3) (c := k2c3) (by decide +kernel) rfl rfl rfl (by decide +kernel)
set_option maxRecDepth 65536 in
theorem w_c10 : (Jvm.Cond.code ({ cls := "ChainLayout", name := "validBlock", desc := "(I)Z" } : Jvm.MethodName) prog_1_method_18_code (2 : Nat) (Option.some Jvm.ClassFile.FieldType.boolean)).before args0 about1 = true := code_word (m := ⟨2, 15⟩) (meth := k2m15) (c := k2c15) (by decide +kernel) rfl rfl rfl (by decide +kernel)
set_option maxRecDepth 65536 in
theorem w_c11 : (Jvm.Cond.code ({ cls := "ChainLayout", name := "setJump", desc := "(II)Z" } : Jvm.MethodName) prog_1_method_3_code (3 : Nat) (Option.some Jvm.ClassFile.FieldType.boolean)).before args0 about1 = true := code_word (m := ⟨2, 2⟩) (meth := k2m2) (c := k2c2) (by decide +kernel) rfl rfl rfl (by decide +kernel)
set_option maxRecDepth 65536 in
theorem w_c12 : (Jvm.Cond.code ({ cls := "ChainLayout", name := "run", desc := "(I)I" } : Jvm.MethodName) prog_1_method_6_code (5 : Nat) (Option.some Jvm.ClassFile.FieldType.int)).before args0 about1 = true := code_word (m := ⟨2, 4⟩) (meth := k2m4) (c := k2c4) (by decide +kernel) rfl rfl rfl (by decide +kernel)
set_option maxRecDepth 65536 in
theorem w_c13 : (Jvm.Cond.code ({ cls := "ChainLayout", name := "stepBlock", desc := "(I)I" } : Jvm.MethodName) prog_1_method_23_code (3 : Nat) (Option.some Jvm.ClassFile.FieldType.int)).before args0 about1 = true := code_word (m := ⟨2, 20⟩) (meth := k2m20) (c := k2c20) (by decide +kernel) rfl rfl rfl (by decide +kernel)
set_option maxRecDepth 65536 in
theorem w_c14 : (Jvm.Cond.code ({ cls := "ChainLayout", name := "doOp", desc := "(IIII)V" } : Jvm.MethodName) prog_1_method_21_code (5 : Nat) (Option.none : Option Jvm.ClassFile.FieldType)).before args0 about1 = true := code_word (m := ⟨2, 18⟩) (meth := k2m18) (c := k2c18) (by decide +kernel) rfl rfl rfl (by decide +kernel)
set_option maxRecDepth 65536 in
theorem w_c15 : (Jvm.Cond.code ({ cls := "ChainLayout", name := "holds", desc := "(I)Z" } : Jvm.MethodName) prog_1_method_22_code (4 : Nat) (Option.some Jvm.ClassFile.FieldType.boolean)).before args0 about1 = true := code_word (m := ⟨2, 19⟩) (meth := k2m19) (c := k2c19) (by decide +kernel) rfl rfl rfl (by decide +kernel)
set_option maxRecDepth 65536 in
theorem w_c16 : (Jvm.Cond.code ({ cls := "ChainLayout", name := "lastStatus", desc := "()I" } : Jvm.MethodName) prog_1_method_13_code (1 : Nat) (Option.some Jvm.ClassFile.FieldType.int)).before args0 about1 = true := code_word (m := ⟨2, 10⟩) (meth := k2m10) (c := k2c10) (by decide +kernel) rfl rfl rfl (by decide +kernel)
set_option maxRecDepth 65536 in
theorem w_c17 : (Jvm.Cond.code ({ cls := "ChainLayout", name := "lastSteps", desc := "()I" } : Jvm.MethodName) prog_1_method_14_code (1 : Nat) (Option.some Jvm.ClassFile.FieldType.int)).before args0 about1 = true := code_word (m := ⟨2, 11⟩) (meth := k2m11) (c := k2c11) (by decide +kernel) rfl rfl rfl (by decide +kernel)
set_option maxRecDepth 65536 in
theorem w_c18 : (Jvm.Cond.code ({ cls := "ChainLayout", name := "outputCount", desc := "()I" } : Jvm.MethodName) prog_1_method_16_code (1 : Nat) (Option.some Jvm.ClassFile.FieldType.int)).before args0 about1 = true := code_word (m := ⟨2, 13⟩) (meth := k2m13) (c := k2c13) (by decide +kernel) rfl rfl rfl (by decide +kernel)
set_option maxRecDepth 65536 in
theorem w_c19 : (Jvm.Cond.code ({ cls := "ChainLayout", name := "blockCount", desc := "()I" } : Jvm.MethodName) prog_1_method_10_code (1 : Nat) (Option.some Jvm.ClassFile.FieldType.int)).before args0 about1 = true := code_word (m := ⟨2, 7⟩) (meth := k2m7) (c := k2c7) (by decide +kernel) rfl rfl rfl (by decide +kernel)
set_option maxRecDepth 65536 in
theorem w_c20 : (Jvm.Cond.code ({ cls := "ChainLayout", name := "reg", desc := "(I)I" } : Jvm.MethodName) prog_1_method_15_code (2 : Nat) (Option.some Jvm.ClassFile.FieldType.int)).before args0 about1 = true := code_word (m := ⟨2, 12⟩) (meth := k2m12) (c := k2c12) (by decide +kernel) rfl rfl rfl (by decide +kernel)
set_option maxRecDepth 65536 in
theorem w_c21 : (Jvm.Cond.code ({ cls := "ChainLayout", name := "output", desc := "(I)I" } : Jvm.MethodName) prog_1_method_17_code (2 : Nat) (Option.some Jvm.ClassFile.FieldType.int)).before args0 about1 = true := code_word (m := ⟨2, 14⟩) (meth := k2m14) (c := k2c14) (by decide +kernel) rfl rfl rfl (by decide +kernel)
set_option maxRecDepth 65536 in
theorem w_c22 : (Jvm.Cond.code ({ cls := "ChainLayout", name := "blockInfo", desc := "(II)I" } : Jvm.MethodName) prog_1_method_11_code (3 : Nat) (Option.some Jvm.ClassFile.FieldType.int)).before args0 about1 = true := code_word (m := ⟨2, 8⟩) (meth := k2m8) (c := k2c8) (by decide +kernel) rfl rfl rfl (by decide +kernel)
set_option maxRecDepth 65536 in
theorem w_c23 : (Jvm.Cond.code ({ cls := "ChainLayout", name := "edgeCount", desc := "(II)I" } : Jvm.MethodName) prog_1_method_12_code (3 : Nat) (Option.some Jvm.ClassFile.FieldType.int)).before args0 about1 = true := code_word (m := ⟨2, 9⟩) (meth := k2m9) (c := k2c9) (by decide +kernel) rfl rfl rfl (by decide +kernel)
set_option maxRecDepth 65536 in
theorem w_c24 : (Jvm.Cond.code ({ cls := "ChainLayout", name := "layout", desc := "()Z" } : Jvm.MethodName) prog_1_method_7_code (1 : Nat) (Option.some Jvm.ClassFile.FieldType.boolean)).before args0 about1 = true := code_word (m := ⟨2, 5⟩) (meth := k2m5) (c := k2c5) (by decide +kernel) rfl rfl rfl (by decide +kernel)
set_option maxRecDepth 65536 in
theorem w_c25 : (Jvm.Cond.code ({ cls := "ChainLayout", name := "collectEdges", desc := "()V" } : Jvm.MethodName) prog_1_method_25_code (3 : Nat) (Option.none : Option Jvm.ClassFile.FieldType)).before args0 about1 = true := code_word (m := ⟨2, 22⟩) (meth := k2m22) (c := k2c22) (by decide +kernel) rfl rfl rfl (by decide +kernel)
set_option maxRecDepth 65536 in
theorem w_c26 : (Jvm.Cond.code ({ cls := "ChainLayout", name := "addEdge", desc := "(IIII)V" } : Jvm.MethodName) prog_1_method_26_code (5 : Nat) (Option.none : Option Jvm.ClassFile.FieldType)).before args0 about1 = true := code_word (m := ⟨2, 23⟩) (meth := k2m23) (c := k2c23) (by decide +kernel) rfl rfl rfl (by decide +kernel)
set_option maxRecDepth 65536 in
theorem w_c27 : (Jvm.Cond.code ({ cls := "ChainLayout", name := "sortEdges", desc := "()V" } : Jvm.MethodName) prog_1_method_27_code (5 : Nat) (Option.none : Option Jvm.ClassFile.FieldType)).before args0 about1 = true := code_word (m := ⟨2, 24⟩) (meth := k2m24) (c := k2c24) (by decide +kernel) rfl rfl rfl (by decide +kernel)
set_option maxRecDepth 65536 in
theorem w_c28 : (Jvm.Cond.code ({ cls := "ChainLayout", name := "buildChains", desc := "()V" } : Jvm.MethodName) prog_1_method_29_code (5 : Nat) (Option.none : Option Jvm.ClassFile.FieldType)).before args0 about1 = true := code_word (m := ⟨2, 26⟩) (meth := k2m26) (c := k2c26) (by decide +kernel) rfl rfl rfl (by decide +kernel)
set_option maxRecDepth 65536 in
theorem w_c29 : (Jvm.Cond.code ({ cls := "ChainLayout", name := "tryMerge", desc := "(II)V" } : Jvm.MethodName) prog_1_method_30_code (6 : Nat) (Option.none : Option Jvm.ClassFile.FieldType)).before args0 about1 = true := code_word (m := ⟨2, 27⟩) (meth := k2m27) (c := k2c27) (by decide +kernel) rfl rfl rfl (by decide +kernel)
set_option maxRecDepth 65536 in
theorem w_c30 : (Jvm.Cond.code ({ cls := "ChainLayout", name := "placeChains", desc := "()V" } : Jvm.MethodName) prog_1_method_31_code (5 : Nat) (Option.none : Option Jvm.ClassFile.FieldType)).before args0 about1 = true := code_word (m := ⟨2, 28⟩) (meth := k2m28) (c := k2c28) (by decide +kernel) rfl rfl rfl (by decide +kernel)
set_option maxRecDepth 65536 in
theorem w_c31 : (Jvm.Cond.code ({ cls := "ChainLayout", name := "placeChain", desc := "(II)I" } : Jvm.MethodName) prog_1_method_32_code (6 : Nat) (Option.some Jvm.ClassFile.FieldType.int)).before args0 about1 = true := code_word (m := ⟨2, 29⟩) (meth := k2m29) (c := k2c29) (by decide +kernel) rfl rfl rfl (by decide +kernel)
set_option maxRecDepth 65536 in
theorem w_c32 : (Jvm.Cond.code ({ cls := "ChainLayout", name := "compileCode", desc := "()V" } : Jvm.MethodName) prog_1_method_33_code (3 : Nat) (Option.none : Option Jvm.ClassFile.FieldType)).before args0 about1 = true := code_word (m := ⟨2, 30⟩) (meth := k2m30) (c := k2c30) (by decide +kernel) rfl rfl rfl (by decide +kernel)
set_option maxRecDepth 65536 in
theorem w_c33 : (Jvm.Cond.code ({ cls := "ChainLayout", name := "compileTerm", desc := "(II)V" } : Jvm.MethodName) prog_1_method_34_code (6 : Nat) (Option.none : Option Jvm.ClassFile.FieldType)).before args0 about1 = true := code_word (m := ⟨2, 31⟩) (meth := k2m31) (c := k2c31) (by decide +kernel) rfl rfl rfl (by decide +kernel)
set_option maxRecDepth 65536 in
theorem w_c34 : (Jvm.Cond.code ({ cls := "ChainLayout", name := "stepFlat", desc := "(I)I" } : Jvm.MethodName) prog_1_method_24_code (3 : Nat) (Option.some Jvm.ClassFile.FieldType.int)).before args0 about1 = true := code_word (m := ⟨2, 21⟩) (meth := k2m21) (c := k2c21) (by decide +kernel) rfl rfl rfl (by decide +kernel)
set_option maxRecDepth 65536 in
theorem w_c35 : (Jvm.Cond.code ({ cls := "ChainLayoutOwnLaw", name := "word", desc := "(IJJJJJJJJ)J" } : Jvm.MethodName) method_4_code (17 : Nat) (Option.some Jvm.ClassFile.FieldType.long)).before args0 about1 = true := code_word (m := ⟨1, 3⟩) (meth := k1m3) (c := k1c3) (by decide +kernel) rfl rfl rfl (by decide +kernel)
set_option maxRecDepth 65536 in
theorem w_c36 : (Jvm.Cond.code ({ cls := "ChainLayout", name := "before", desc := "(IIII)Z" } : Jvm.MethodName) prog_1_method_28_code (5 : Nat) (Option.some Jvm.ClassFile.FieldType.boolean)).before args0 about1 = true := code_word (m := ⟨2, 25⟩) (meth := k2m25) (c := k2c25) (by decide +kernel) rfl rfl rfl (by decide +kernel)
def codes1 : List Jvm.Cond := [Jvm.Cond.code x code maxLocals ret, Jvm.Cond.code ({ cls := "ChainLayout", name := "<init>", desc := "(II)V" } : Jvm.MethodName) prog_1_method_1_code (5 : Nat) (Option.none : Option Jvm.ClassFile.FieldType), Jvm.Cond.code ({ cls := "java/lang/Object", name := "<init>", desc := "()V" } : Jvm.MethodName) object_method_1_code (1 : Nat) (Option.none : Option Jvm.ClassFile.FieldType), Jvm.Cond.code ({ cls := "ChainLayout", name := "reset", desc := "()V" } : Jvm.MethodName) prog_1_method_9_code (2 : Nat) (Option.none : Option Jvm.ClassFile.FieldType), Jvm.Cond.code ({ cls := "ChainLayout", name := "clearCounts", desc := "()V" } : Jvm.MethodName) prog_1_method_20_code (2 : Nat) (Option.none : Option Jvm.ClassFile.FieldType), Jvm.Cond.code ({ cls := "ChainLayoutOwnLaw", name := "cell", desc := "([II)I" } : Jvm.MethodName) method_2_code (2 : Nat) (Option.some Jvm.ClassFile.FieldType.int), Jvm.Cond.code ({ cls := "ChainLayoutOwnLaw", name := "mod", desc := "(II)I" } : Jvm.MethodName) method_3_code (3 : Nat) (Option.some Jvm.ClassFile.FieldType.int), Jvm.Cond.code ({ cls := "ChainLayout", name := "addBlock", desc := "(IIII)I" } : Jvm.MethodName) prog_1_method_2_code (6 : Nat) (Option.some Jvm.ClassFile.FieldType.int), Jvm.Cond.code ({ cls := "ChainLayout", name := "writeTerm", desc := "(IIII)V" } : Jvm.MethodName) prog_1_method_19_code (5 : Nat) (Option.none : Option Jvm.ClassFile.FieldType), Jvm.Cond.code ({ cls := "ChainLayout", name := "setBranch", desc := "(IIII)Z" } : Jvm.MethodName) prog_1_method_4_code (5 : Nat) (Option.some Jvm.ClassFile.FieldType.boolean), Jvm.Cond.code ({ cls := "ChainLayout", name := "validBlock", desc := "(I)Z" } : Jvm.MethodName) prog_1_method_18_code (2 : Nat) (Option.some Jvm.ClassFile.FieldType.boolean), Jvm.Cond.code ({ cls := "ChainLayout", name := "setJump", desc := "(II)Z" } : Jvm.MethodName) prog_1_method_3_code (3 : Nat) (Option.some Jvm.ClassFile.FieldType.boolean), Jvm.Cond.code ({ cls := "ChainLayout", name := "run", desc := "(I)I" } : Jvm.MethodName) prog_1_method_6_code (5 : Nat) (Option.some Jvm.ClassFile.FieldType.int), Jvm.Cond.code ({ cls := "ChainLayout", name := "stepBlock", desc := "(I)I" } : Jvm.MethodName) prog_1_method_23_code (3 : Nat) (Option.some Jvm.ClassFile.FieldType.int), Jvm.Cond.code ({ cls := "ChainLayout", name := "doOp", desc := "(IIII)V" } : Jvm.MethodName) prog_1_method_21_code (5 : Nat) (Option.none : Option Jvm.ClassFile.FieldType), Jvm.Cond.code ({ cls := "ChainLayout", name := "holds", desc := "(I)Z" } : Jvm.MethodName) prog_1_method_22_code (4 : Nat) (Option.some Jvm.ClassFile.FieldType.boolean), Jvm.Cond.code ({ cls := "ChainLayout", name := "lastStatus", desc := "()I" } : Jvm.MethodName) prog_1_method_13_code (1 : Nat) (Option.some Jvm.ClassFile.FieldType.int), Jvm.Cond.code ({ cls := "ChainLayout", name := "lastSteps", desc := "()I" } : Jvm.MethodName) prog_1_method_14_code (1 : Nat) (Option.some Jvm.ClassFile.FieldType.int), Jvm.Cond.code ({ cls := "ChainLayout", name := "outputCount", desc := "()I" } : Jvm.MethodName) prog_1_method_16_code (1 : Nat) (Option.some Jvm.ClassFile.FieldType.int), Jvm.Cond.code ({ cls := "ChainLayout", name := "blockCount", desc := "()I" } : Jvm.MethodName) prog_1_method_10_code (1 : Nat) (Option.some Jvm.ClassFile.FieldType.int), Jvm.Cond.code ({ cls := "ChainLayout", name := "reg", desc := "(I)I" } : Jvm.MethodName) prog_1_method_15_code (2 : Nat) (Option.some Jvm.ClassFile.FieldType.int), Jvm.Cond.code ({ cls := "ChainLayout", name := "output", desc := "(I)I" } : Jvm.MethodName) prog_1_method_17_code (2 : Nat) (Option.some Jvm.ClassFile.FieldType.int), Jvm.Cond.code ({ cls := "ChainLayout", name := "blockInfo", desc := "(II)I" } : Jvm.MethodName) prog_1_method_11_code (3 : Nat) (Option.some Jvm.ClassFile.FieldType.int), Jvm.Cond.code ({ cls := "ChainLayout", name := "edgeCount", desc := "(II)I" } : Jvm.MethodName) prog_1_method_12_code (3 : Nat) (Option.some Jvm.ClassFile.FieldType.int), Jvm.Cond.code ({ cls := "ChainLayout", name := "layout", desc := "()Z" } : Jvm.MethodName) prog_1_method_7_code (1 : Nat) (Option.some Jvm.ClassFile.FieldType.boolean), Jvm.Cond.code ({ cls := "ChainLayout", name := "collectEdges", desc := "()V" } : Jvm.MethodName) prog_1_method_25_code (3 : Nat) (Option.none : Option Jvm.ClassFile.FieldType), Jvm.Cond.code ({ cls := "ChainLayout", name := "addEdge", desc := "(IIII)V" } : Jvm.MethodName) prog_1_method_26_code (5 : Nat) (Option.none : Option Jvm.ClassFile.FieldType), Jvm.Cond.code ({ cls := "ChainLayout", name := "sortEdges", desc := "()V" } : Jvm.MethodName) prog_1_method_27_code (5 : Nat) (Option.none : Option Jvm.ClassFile.FieldType), Jvm.Cond.code ({ cls := "ChainLayout", name := "buildChains", desc := "()V" } : Jvm.MethodName) prog_1_method_29_code (5 : Nat) (Option.none : Option Jvm.ClassFile.FieldType), Jvm.Cond.code ({ cls := "ChainLayout", name := "tryMerge", desc := "(II)V" } : Jvm.MethodName) prog_1_method_30_code (6 : Nat) (Option.none : Option Jvm.ClassFile.FieldType), Jvm.Cond.code ({ cls := "ChainLayout", name := "placeChains", desc := "()V" } : Jvm.MethodName) prog_1_method_31_code (5 : Nat) (Option.none : Option Jvm.ClassFile.FieldType), Jvm.Cond.code ({ cls := "ChainLayout", name := "placeChain", desc := "(II)I" } : Jvm.MethodName) prog_1_method_32_code (6 : Nat) (Option.some Jvm.ClassFile.FieldType.int), Jvm.Cond.code ({ cls := "ChainLayout", name := "compileCode", desc := "()V" } : Jvm.MethodName) prog_1_method_33_code (3 : Nat) (Option.none : Option Jvm.ClassFile.FieldType), Jvm.Cond.code ({ cls := "ChainLayout", name := "compileTerm", desc := "(II)V" } : Jvm.MethodName) prog_1_method_34_code (6 : Nat) (Option.none : Option Jvm.ClassFile.FieldType), Jvm.Cond.code ({ cls := "ChainLayout", name := "stepFlat", desc := "(I)I" } : Jvm.MethodName) prog_1_method_24_code (3 : Nat) (Option.some Jvm.ClassFile.FieldType.int), Jvm.Cond.code ({ cls := "ChainLayoutOwnLaw", name := "word", desc := "(IJJJJJJJJ)J" } : Jvm.MethodName) method_4_code (17 : Nat) (Option.some Jvm.ClassFile.FieldType.long), Jvm.Cond.code ({ cls := "ChainLayout", name := "before", desc := "(IIII)Z" } : Jvm.MethodName) prog_1_method_28_code (5 : Nat) (Option.some Jvm.ClassFile.FieldType.boolean)]
set_option maxRecDepth 65536 in
theorem codes_eq : words1.filter isCode = codes1 := rfl
theorem w_codes : ∀ c ∈ words1.filter isCode, c.before args0 about1 = true := by
  rw [codes_eq]
  intro c hc
  simp only [codes1, List.mem_cons, List.not_mem_nil, or_false] at hc
  rcases hc with rfl | rfl | rfl | rfl | rfl | rfl | rfl | rfl | rfl | rfl | rfl | rfl | rfl | rfl | rfl | rfl | rfl | rfl | rfl | rfl | rfl | rfl | rfl | rfl | rfl | rfl | rfl | rfl | rfl | rfl | rfl | rfl | rfl | rfl | rfl | rfl | rfl
  · exact w_c0
  · exact w_c1
  · exact w_c2
  · exact w_c3
  · exact w_c4
  · exact w_c5
  · exact w_c6
  · exact w_c7
  · exact w_c8
  · exact w_c9
  · exact w_c10
  · exact w_c11
  · exact w_c12
  · exact w_c13
  · exact w_c14
  · exact w_c15
  · exact w_c16
  · exact w_c17
  · exact w_c18
  · exact w_c19
  · exact w_c20
  · exact w_c21
  · exact w_c22
  · exact w_c23
  · exact w_c24
  · exact w_c25
  · exact w_c26
  · exact w_c27
  · exact w_c28
  · exact w_c29
  · exact w_c30
  · exact w_c31
  · exact w_c32
  · exact w_c33
  · exact w_c34
  · exact w_c35
  · exact w_c36
set_option maxRecDepth 65536 in
theorem w_t1 : (words1.take 24).all (fun c => isCode c || c.before args0 about1) = true := by decide +kernel
set_option maxRecDepth 65536 in
theorem w_t2 : ((words1.drop 24).take 24).all (fun c => isCode c || c.before args0 about1) = true := by decide +kernel
set_option maxRecDepth 65536 in
theorem w_t3 : (((words1.drop 24).drop 24).take 24).all (fun c => isCode c || c.before args0 about1) = true := by decide +kernel
set_option maxRecDepth 65536 in
theorem w_t4 : ((((words1.drop 24).drop 24).drop 24).take 24).all (fun c => isCode c || c.before args0 about1) = true := by decide +kernel
set_option maxRecDepth 65536 in
theorem w_t5 : (((((words1.drop 24).drop 24).drop 24).drop 24).take 24).all (fun c => isCode c || c.before args0 about1) = true := by decide +kernel
set_option maxRecDepth 65536 in
theorem w_t6 : ((((((words1.drop 24).drop 24).drop 24).drop 24).drop 24).take 24).all (fun c => isCode c || c.before args0 about1) = true := by decide +kernel
set_option maxRecDepth 65536 in
theorem w_t7 : (((((((words1.drop 24).drop 24).drop 24).drop 24).drop 24).drop 24).take 24).all (fun c => isCode c || c.before args0 about1) = true := by decide +kernel
set_option maxRecDepth 65536 in
theorem w_t8 : ((((((((words1.drop 24).drop 24).drop 24).drop 24).drop 24).drop 24).drop 24).take 24).all (fun c => isCode c || c.before args0 about1) = true := by decide +kernel
set_option maxRecDepth 65536 in
theorem w_t9 : (((((((((words1.drop 24).drop 24).drop 24).drop 24).drop 24).drop 24).drop 24).drop 24).take 24).all (fun c => isCode c || c.before args0 about1) = true := by decide +kernel
set_option maxRecDepth 65536 in
theorem w_t10 : (((((((((words1.drop 24).drop 24).drop 24).drop 24).drop 24).drop 24).drop 24).drop 24).drop 24).all (fun c => isCode c || c.before args0 about1) = true := by decide +kernel
theorem w_tables : (allAtoms (Jvm.Cond.code x code maxLocals ret :: tables_1)).before args0 about1 = true := by
  rw [allAtoms_all]
  show words1.all (fun c => c.before args0 about1) = true
  refine all_split ?_ w_codes
  rw [← List.take_append_drop 24 words1, List.all_append, w_t1, ← List.take_append_drop 24 (words1.drop 24), List.all_append, w_t2, ← List.take_append_drop 24 ((words1.drop 24).drop 24), List.all_append, w_t3, ← List.take_append_drop 24 (((words1.drop 24).drop 24).drop 24), List.all_append, w_t4, ← List.take_append_drop 24 ((((words1.drop 24).drop 24).drop 24).drop 24), List.all_append, w_t5, ← List.take_append_drop 24 (((((words1.drop 24).drop 24).drop 24).drop 24).drop 24), List.all_append, w_t6, ← List.take_append_drop 24 ((((((words1.drop 24).drop 24).drop 24).drop 24).drop 24).drop 24), List.all_append, w_t7, ← List.take_append_drop 24 (((((((words1.drop 24).drop 24).drop 24).drop 24).drop 24).drop 24).drop 24), List.all_append, w_t8, ← List.take_append_drop 24 ((((((((words1.drop 24).drop 24).drop 24).drop 24).drop 24).drop 24).drop 24).drop 24), List.all_append, w_t9, w_t10]
  rfl
set_option maxRecDepth 65536 in
theorem w_rest : rest_1_c.before args0 about1 = true := by decide +kernel
set_option maxRecDepth 65536 in
theorem w_case : (Jvm.Cond.and given_1 narrow_1).before args0 about1 = true := by decide +kernel
theorem w_applies : (headSpec (Jvm.Cond.code x code maxLocals ret :: tables_1) room_1).applies x e0.platform about1 = true :=
  (Spec.applies_iff w_frames).mpr ⟨w_running, w_runnable, w_alone, w_named, w_hears, w_ripe, w_room, w_tables⟩
theorem atStart : AtStart classFile x code maxLocals ret World_1 tables_1 room_1 Calls_1 rest_1 Pre_1 launch0 p0 e0 about1 theMethod args0 below0 :=
  ⟨lists_1, trivial, launch0.admits_env _ _ _, launch0.least_env, fairChoices_fair.cas, fairChoices_fair.clock, w_frames, w_args, w_heap, w_applies, trivial, w_rest, w_case⟩
end start1
theorem witness_1 : WitnessClaimed_1 := ⟨start1.p0, start1.e0, start1.about1, start1.theMethod, start1.args0, start1.below0, start1.atStart⟩
end Jvm.Pilot.@@N@@
