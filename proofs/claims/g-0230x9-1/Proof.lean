import JvmDerived
import JvmDerived.Pilot.@@N@@Statement
import JvmDerived.Pilot.@@N@@Code
set_option linter.unusedVariables false
set_option linter.unusedSimpArgs false
namespace Jvm.RoadKit
open Sem ClassFile Op Lib Jvm.Stand Jvm.Free Jvm.LawKit
section New
variable {p : Program} {l : Launch} {e : Env} {R : Room} {s : State} {m : MethodId} {args : Array Value} {below : List Frame} {meth : Method} {c : Code} {T : State} {locs : List Loc} {cells slots : Nat}
theorem retI (X : Stand p l e R s m args below meth c T locs cells slots) (hx : p.tables.exec = Jvm.exec) {pc : Nat} {Ls : Array Slot} {z : Int32} {rest : List Value} (hret : meth.sig.returnType = some .int) (hd : decode c.code pc = .ok (.ireturn, 1)) {fs : List Frame}
    (hl : ∀ (f : JFrame) (acts : List Action), f.method = m → f.locked = none → f.entered = [] → (doReturn e (T.setTop f) acts (some (.int z))).1 = T.setFrames fs) : Steps p.tables e below (T.setTop (mkF m pc Ls (.int z :: rest))) (T.setFrames fs) := by
  have hm' : T.vm.method? m = some meth := X.method'
  have hn : narrow .int (.int z) = .int z := rfl
  show Steps p.tables e below (T.setTop { method := m, pc := pc, locals := Ls, stack := _ :: rest, locked := none }) _
  jvm_step X.here [X.here.top, hx, hd, hm', hret, hn]
  first | (intro acts; rw [hl _ acts rfl rfl rfl]) | rw [hl _ _ rfl rfl rfl]
  exact Steps.refl _
end New
end Jvm.RoadKit
namespace Jvm.Pilot.@@N@@
open Jvm Jvm.ClassFile Sem Op Lib Jvm.Free Jvm.Stand Jvm.LawKit Jvm.RoadKit Bundle Jvm.Pilot.@@N@@.Jvm.D
/-! TABLES of this claim: printed by claim.py -/
def k0 : Nat := 1
def cName : String := "ChainLayout"
def cN : Nat := 36
def nF : Nat := 36
def kName (k : Nat) : String := bif Nat.beq k 0 then "ChainLayoutL7" else "ChainLayout"
def fNm (k : Nat) : String := (bif Nat.ble 18 k then (bif Nat.ble 27 k then (bif Nat.ble 31 k then (bif Nat.ble 33 k then (bif Nat.ble 34 k then (bif Nat.ble 35 k then "edgeN" else "status") else "steps") else (bif Nat.ble 32 k then "outCount" else "arranged")) else (bif Nat.ble 29 k then (bif Nat.ble 30 k then "n" else "maxSteps") else (bif Nat.ble 28 k then "maxBlocks" else "cOther"))) else (bif Nat.ble 22 k then (bif Nat.ble 24 k then (bif Nat.ble 25 k then (bif Nat.ble 26 k then "cTaken" else "cTest") else "cKind") else (bif Nat.ble 23 k then "cImm" else "cS")) else (bif Nat.ble 20 k then (bif Nat.ble 21 k then "cD" else "cOp") else (bif Nat.ble 19 k then "order" else "posOf")))) else (bif Nat.ble 9 k then (bif Nat.ble 13 k then (bif Nat.ble 15 k then (bif Nat.ble 16 k then (bif Nat.ble 17 k then "heat" else "chHead") else "chPrev") else (bif Nat.ble 14 k then "chNext" else "edgeW")) else (bif Nat.ble 11 k then (bif Nat.ble 12 k then "edgeId" else "outs") else (bif Nat.ble 10 k then "regs" else "cnt1"))) else (bif Nat.ble 4 k then (bif Nat.ble 6 k then (bif Nat.ble 7 k then (bif Nat.ble 8 k then "cnt0" else "bT1") else "bT0") else (bif Nat.ble 5 k then "bTest" else "bTerm")) else (bif Nat.ble 2 k then (bif Nat.ble 3 k then "bImm" else "bS") else (bif Nat.ble 1 k then "bD" else "bOp")))))
def fDs (k : Nat) : String := (bif Nat.ble 18 k then (bif Nat.ble 27 k then (bif Nat.ble 31 k then (bif Nat.ble 33 k then (bif Nat.ble 34 k then (bif Nat.ble 35 k then "I" else "I") else "I") else (bif Nat.ble 32 k then "I" else "Z")) else (bif Nat.ble 29 k then (bif Nat.ble 30 k then "I" else "I") else (bif Nat.ble 28 k then "I" else "[I"))) else (bif Nat.ble 22 k then (bif Nat.ble 24 k then (bif Nat.ble 25 k then (bif Nat.ble 26 k then "[I" else "[I") else "[I") else (bif Nat.ble 23 k then "[I" else "[I")) else (bif Nat.ble 20 k then (bif Nat.ble 21 k then "[I" else "[I") else (bif Nat.ble 19 k then "[I" else "[I")))) else (bif Nat.ble 9 k then (bif Nat.ble 13 k then (bif Nat.ble 15 k then (bif Nat.ble 16 k then (bif Nat.ble 17 k then "[I" else "[I") else "[I") else (bif Nat.ble 14 k then "[I" else "[I")) else (bif Nat.ble 11 k then (bif Nat.ble 12 k then "[I" else "[I") else (bif Nat.ble 10 k then "[I" else "[I"))) else (bif Nat.ble 4 k then (bif Nat.ble 6 k then (bif Nat.ble 7 k then (bif Nat.ble 8 k then "[I" else "[I") else "[I") else (bif Nat.ble 5 k then "[I" else "[I")) else (bif Nat.ble 2 k then (bif Nat.ble 3 k then "[I" else "[I") else (bif Nat.ble 1 k then "[I" else "[I")))))
def fTy (k : Nat) : FieldType := (bif Nat.ble 18 k then (bif Nat.ble 27 k then (bif Nat.ble 31 k then (bif Nat.ble 33 k then (bif Nat.ble 34 k then (bif Nat.ble 35 k then .int else .int) else .int) else (bif Nat.ble 32 k then .int else .boolean)) else (bif Nat.ble 29 k then (bif Nat.ble 30 k then .int else .int) else (bif Nat.ble 28 k then .int else (.array .int)))) else (bif Nat.ble 22 k then (bif Nat.ble 24 k then (bif Nat.ble 25 k then (bif Nat.ble 26 k then (.array .int) else (.array .int)) else (.array .int)) else (bif Nat.ble 23 k then (.array .int) else (.array .int))) else (bif Nat.ble 20 k then (bif Nat.ble 21 k then (.array .int) else (.array .int)) else (bif Nat.ble 19 k then (.array .int) else (.array .int))))) else (bif Nat.ble 9 k then (bif Nat.ble 13 k then (bif Nat.ble 15 k then (bif Nat.ble 16 k then (bif Nat.ble 17 k then (.array .int) else (.array .int)) else (.array .int)) else (bif Nat.ble 14 k then (.array .int) else (.array .int))) else (bif Nat.ble 11 k then (bif Nat.ble 12 k then (.array .int) else (.array .int)) else (bif Nat.ble 10 k then (.array .int) else (.array .int)))) else (bif Nat.ble 4 k then (bif Nat.ble 6 k then (bif Nat.ble 7 k then (bif Nat.ble 8 k then (.array .int) else (.array .int)) else (.array .int)) else (bif Nat.ble 5 k then (.array .int) else (.array .int))) else (bif Nat.ble 2 k then (bif Nat.ble 3 k then (.array .int) else (.array .int)) else (bif Nat.ble 1 k then (.array .int) else (.array .int))))))
def fFin (k : Nat) : Bool := (bif Nat.ble 18 k then (bif Nat.ble 27 k then (bif Nat.ble 31 k then (bif Nat.ble 33 k then (bif Nat.ble 34 k then (bif Nat.ble 35 k then false else false) else false) else (bif Nat.ble 32 k then false else false)) else (bif Nat.ble 29 k then (bif Nat.ble 30 k then false else false) else (bif Nat.ble 28 k then false else false))) else (bif Nat.ble 22 k then (bif Nat.ble 24 k then (bif Nat.ble 25 k then (bif Nat.ble 26 k then false else false) else false) else (bif Nat.ble 23 k then false else false)) else (bif Nat.ble 20 k then (bif Nat.ble 21 k then false else false) else (bif Nat.ble 19 k then false else false)))) else (bif Nat.ble 9 k then (bif Nat.ble 13 k then (bif Nat.ble 15 k then (bif Nat.ble 16 k then (bif Nat.ble 17 k then false else false) else false) else (bif Nat.ble 14 k then false else false)) else (bif Nat.ble 11 k then (bif Nat.ble 12 k then false else false) else (bif Nat.ble 10 k then false else false))) else (bif Nat.ble 4 k then (bif Nat.ble 6 k then (bif Nat.ble 7 k then (bif Nat.ble 8 k then false else false) else false) else (bif Nat.ble 5 k then false else false)) else (bif Nat.ble 2 k then (bif Nat.ble 3 k then false else false) else (bif Nat.ble 1 k then false else false)))))
def cDef : List Value := [.null, .null, .null, .null, .null, .null, .null, .null, .null, .null, .null, .null, .null, .null, .null, .null, .null, .null, .null, .null, .null, .null, .null, .null, .null, .null, .null, .null, .int 0, .int 0, .int 0, .int 0, .int 0, .int 0, .int 0, .int 0]
def cK : List Value := [.long (31)]
def pN : Nat := 38
def pTop (m : Nat) : Nat := (bif Nat.ble 19 m then (bif Nat.ble 28 m then (bif Nat.ble 33 m then (bif Nat.ble 35 m then (bif Nat.ble 36 m then (bif Nat.ble 37 m then 115 else 28) else 87) else (bif Nat.ble 34 m then 69 else 110)) else (bif Nat.ble 30 m then (bif Nat.ble 31 m then (bif Nat.ble 32 m then 204 else 84) else 62) else (bif Nat.ble 29 m then 136 else 101))) else (bif Nat.ble 23 m then (bif Nat.ble 25 m then (bif Nat.ble 26 m then (bif Nat.ble 27 m then 128 else 107) else 43) else (bif Nat.ble 24 m then 109 else 35)) else (bif Nat.ble 21 m then (bif Nat.ble 22 m then 48 else 27) else (bif Nat.ble 20 m then 18 else 5)))) else (bif Nat.ble 9 m then (bif Nat.ble 14 m then (bif Nat.ble 16 m then (bif Nat.ble 17 m then (bif Nat.ble 18 m then 5 else 5) else 85) else (bif Nat.ble 15 m then 5 else 244)) else (bif Nat.ble 11 m then (bif Nat.ble 12 m then (bif Nat.ble 13 m then 203 else 121) else 38) else (bif Nat.ble 10 m then 71 else 68))) else (bif Nat.ble 4 m then (bif Nat.ble 6 m then (bif Nat.ble 7 m then (bif Nat.ble 8 m then 119 else 29) else 23) else (bif Nat.ble 5 m then 130 else 24)) else (bif Nat.ble 2 m then (bif Nat.ble 3 m then 46 else 5) else (bif Nat.ble 1 m then 309 else 263)))))
def pK (m : Nat) : Nat := (bif Nat.ble 19 m then (bif Nat.ble 28 m then (bif Nat.ble 33 m then (bif Nat.ble 35 m then (bif Nat.ble 36 m then (bif Nat.ble 37 m then 1 else 1) else 1) else (bif Nat.ble 34 m then 1 else 1)) else (bif Nat.ble 30 m then (bif Nat.ble 31 m then (bif Nat.ble 32 m then 1 else 1) else 1) else (bif Nat.ble 29 m then 1 else 1))) else (bif Nat.ble 23 m then (bif Nat.ble 25 m then (bif Nat.ble 26 m then (bif Nat.ble 27 m then 1 else 1) else 1) else (bif Nat.ble 24 m then 1 else 1)) else (bif Nat.ble 21 m then (bif Nat.ble 22 m then 0 else 1) else (bif Nat.ble 20 m then 1 else 1)))) else (bif Nat.ble 9 m then (bif Nat.ble 14 m then (bif Nat.ble 16 m then (bif Nat.ble 17 m then (bif Nat.ble 18 m then 1 else 1) else 0) else (bif Nat.ble 15 m then 1 else 0)) else (bif Nat.ble 11 m then (bif Nat.ble 12 m then (bif Nat.ble 13 m then 1 else 1) else 1) else (bif Nat.ble 10 m then 1 else 1))) else (bif Nat.ble 4 m then (bif Nat.ble 6 m then (bif Nat.ble 7 m then (bif Nat.ble 8 m then 1 else 1) else 1) else (bif Nat.ble 5 m then 1 else 1)) else (bif Nat.ble 2 m then (bif Nat.ble 3 m then 1 else 1) else (bif Nat.ble 1 m then 1 else 0)))))
def pNm (m : Nat) : String := (bif Nat.ble 19 m then (bif Nat.ble 28 m then (bif Nat.ble 33 m then (bif Nat.ble 35 m then (bif Nat.ble 36 m then (bif Nat.ble 37 m then "tryMerge" else "before") else "addEdge") else (bif Nat.ble 34 m then "holds" else "stepFlat")) else (bif Nat.ble 30 m then (bif Nat.ble 31 m then (bif Nat.ble 32 m then "compileTerm" else "compileCode") else "placeChain") else (bif Nat.ble 29 m then "placeChains" else "buildChains"))) else (bif Nat.ble 23 m then (bif Nat.ble 25 m then (bif Nat.ble 26 m then (bif Nat.ble 27 m then "sortEdges" else "collectEdges") else "layout") else (bif Nat.ble 24 m then "blockInfo" else "edgeCount")) else (bif Nat.ble 21 m then (bif Nat.ble 22 m then "edges" else "output") else (bif Nat.ble 20 m then "reg" else "outputCount")))) else (bif Nat.ble 9 m then (bif Nat.ble 14 m then (bif Nat.ble 16 m then (bif Nat.ble 17 m then (bif Nat.ble 18 m then "lastSteps" else "lastStatus") else "results") else (bif Nat.ble 15 m then "isLaidOut" else "check")) else (bif Nat.ble 11 m then (bif Nat.ble 12 m then (bif Nat.ble 13 m then "doOp" else "stepBlock") else "setHalt") else (bif Nat.ble 10 m then "reset" else "setBranch"))) else (bif Nat.ble 4 m then (bif Nat.ble 6 m then (bif Nat.ble 7 m then (bif Nat.ble 8 m then "run" else "clearCounts") else "writeTerm") else (bif Nat.ble 5 m then "addBlock" else "validBlock")) else (bif Nat.ble 2 m then (bif Nat.ble 3 m then "setJump" else "blockCount") else (bif Nat.ble 1 m then "<init>" else "law")))))
def pDs (m : Nat) : String := (bif Nat.ble 19 m then (bif Nat.ble 28 m then (bif Nat.ble 33 m then (bif Nat.ble 35 m then (bif Nat.ble 36 m then (bif Nat.ble 37 m then "(II)V" else "(IIII)Z") else "(IIII)V") else (bif Nat.ble 34 m then "(I)Z" else "(I)I")) else (bif Nat.ble 30 m then (bif Nat.ble 31 m then (bif Nat.ble 32 m then "(II)V" else "()V") else "(II)I") else (bif Nat.ble 29 m then "()V" else "()V"))) else (bif Nat.ble 23 m then (bif Nat.ble 25 m then (bif Nat.ble 26 m then (bif Nat.ble 27 m then "()V" else "()V") else "()Z") else (bif Nat.ble 24 m then "(II)I" else "(II)I")) else (bif Nat.ble 21 m then (bif Nat.ble 22 m then "(LChainLayout;)J" else "(I)I") else (bif Nat.ble 20 m then "(I)I" else "()I")))) else (bif Nat.ble 9 m then (bif Nat.ble 14 m then (bif Nat.ble 16 m then (bif Nat.ble 17 m then (bif Nat.ble 18 m then "()I" else "()I") else "(LChainLayout;)J") else (bif Nat.ble 15 m then "()Z" else "(LChainLayout;I)Z")) else (bif Nat.ble 11 m then (bif Nat.ble 12 m then (bif Nat.ble 13 m then "(IIII)V" else "(I)I") else "(I)Z") else (bif Nat.ble 10 m then "()V" else "(IIII)Z"))) else (bif Nat.ble 4 m then (bif Nat.ble 6 m then (bif Nat.ble 7 m then (bif Nat.ble 8 m then "(I)I" else "()V") else "(IIII)V") else (bif Nat.ble 5 m then "(IIII)I" else "(I)Z")) else (bif Nat.ble 2 m then (bif Nat.ble 3 m then "(II)Z" else "()I") else (bif Nat.ble 1 m then "(II)V" else "([I)Z")))))
def pName (m : Nat) : MethodName := ⟨kName (pK m), pNm m, pDs m⟩
def pBytes (m : Nat) : ByteArray := (bif Nat.ble 19 m then (bif Nat.ble 28 m then (bif Nat.ble 33 m then (bif Nat.ble 35 m then (bif Nat.ble 36 m then (bif Nat.ble 37 m then prog_1_method_30_code else prog_1_method_28_code) else prog_1_method_26_code) else (bif Nat.ble 34 m then prog_1_method_22_code else prog_1_method_24_code)) else (bif Nat.ble 30 m then (bif Nat.ble 31 m then (bif Nat.ble 32 m then prog_1_method_34_code else prog_1_method_33_code) else prog_1_method_32_code) else (bif Nat.ble 29 m then prog_1_method_31_code else prog_1_method_29_code))) else (bif Nat.ble 23 m then (bif Nat.ble 25 m then (bif Nat.ble 26 m then (bif Nat.ble 27 m then prog_1_method_27_code else prog_1_method_25_code) else prog_1_method_7_code) else (bif Nat.ble 24 m then prog_1_method_11_code else prog_1_method_12_code)) else (bif Nat.ble 21 m then (bif Nat.ble 22 m then method_5_code else prog_1_method_17_code) else (bif Nat.ble 20 m then prog_1_method_15_code else prog_1_method_16_code)))) else (bif Nat.ble 9 m then (bif Nat.ble 14 m then (bif Nat.ble 16 m then (bif Nat.ble 17 m then (bif Nat.ble 18 m then prog_1_method_14_code else prog_1_method_13_code) else method_4_code) else (bif Nat.ble 15 m then prog_1_method_8_code else method_3_code)) else (bif Nat.ble 11 m then (bif Nat.ble 12 m then (bif Nat.ble 13 m then prog_1_method_21_code else prog_1_method_23_code) else prog_1_method_5_code) else (bif Nat.ble 10 m then prog_1_method_9_code else prog_1_method_4_code))) else (bif Nat.ble 4 m then (bif Nat.ble 6 m then (bif Nat.ble 7 m then (bif Nat.ble 8 m then prog_1_method_6_code else prog_1_method_20_code) else prog_1_method_19_code) else (bif Nat.ble 5 m then prog_1_method_2_code else prog_1_method_18_code)) else (bif Nat.ble 2 m then (bif Nat.ble 3 m then prog_1_method_3_code else prog_1_method_10_code) else (bif Nat.ble 1 m then prog_1_method_1_code else code)))))
def pMaxL (m : Nat) : Nat := (bif Nat.ble 19 m then (bif Nat.ble 28 m then (bif Nat.ble 33 m then (bif Nat.ble 35 m then (bif Nat.ble 36 m then (bif Nat.ble 37 m then 6 else 5) else 5) else (bif Nat.ble 34 m then 4 else 3)) else (bif Nat.ble 30 m then (bif Nat.ble 31 m then (bif Nat.ble 32 m then 6 else 3) else 6) else (bif Nat.ble 29 m then 5 else 5))) else (bif Nat.ble 23 m then (bif Nat.ble 25 m then (bif Nat.ble 26 m then (bif Nat.ble 27 m then 5 else 3) else 1) else (bif Nat.ble 24 m then 3 else 3)) else (bif Nat.ble 21 m then (bif Nat.ble 22 m then 5 else 2) else (bif Nat.ble 20 m then 2 else 1)))) else (bif Nat.ble 9 m then (bif Nat.ble 14 m then (bif Nat.ble 16 m then (bif Nat.ble 17 m then (bif Nat.ble 18 m then 1 else 1) else 4) else (bif Nat.ble 15 m then 1 else 12)) else (bif Nat.ble 11 m then (bif Nat.ble 12 m then (bif Nat.ble 13 m then 5 else 3) else 2) else (bif Nat.ble 10 m then 2 else 5))) else (bif Nat.ble 4 m then (bif Nat.ble 6 m then (bif Nat.ble 7 m then (bif Nat.ble 8 m then 5 else 2) else 5) else (bif Nat.ble 5 m then 6 else 2)) else (bif Nat.ble 2 m then (bif Nat.ble 3 m then 3 else 1) else (bif Nat.ble 1 m then 5 else 10)))))
def pRet (m : Nat) : Option FieldType := (bif Nat.ble 19 m then (bif Nat.ble 28 m then (bif Nat.ble 33 m then (bif Nat.ble 35 m then (bif Nat.ble 36 m then (bif Nat.ble 37 m then none else (some .boolean)) else none) else (bif Nat.ble 34 m then (some .boolean) else (some .int))) else (bif Nat.ble 30 m then (bif Nat.ble 31 m then (bif Nat.ble 32 m then none else none) else (some .int)) else (bif Nat.ble 29 m then none else none))) else (bif Nat.ble 23 m then (bif Nat.ble 25 m then (bif Nat.ble 26 m then (bif Nat.ble 27 m then none else none) else (some .boolean)) else (bif Nat.ble 24 m then (some .int) else (some .int))) else (bif Nat.ble 21 m then (bif Nat.ble 22 m then (some .long) else (some .int)) else (bif Nat.ble 20 m then (some .int) else (some .int))))) else (bif Nat.ble 9 m then (bif Nat.ble 14 m then (bif Nat.ble 16 m then (bif Nat.ble 17 m then (bif Nat.ble 18 m then (some .int) else (some .int)) else (some .long)) else (bif Nat.ble 15 m then (some .boolean) else (some .boolean))) else (bif Nat.ble 11 m then (bif Nat.ble 12 m then (bif Nat.ble 13 m then none else (some .int)) else (some .boolean)) else (bif Nat.ble 10 m then none else (some .boolean)))) else (bif Nat.ble 4 m then (bif Nat.ble 6 m then (bif Nat.ble 7 m then (bif Nat.ble 8 m then (some .int) else none) else none) else (bif Nat.ble 5 m then (some .int) else (some .boolean))) else (bif Nat.ble 2 m then (bif Nat.ble 3 m then (some .boolean) else (some .int)) else (bif Nat.ble 1 m then none else (some .boolean))))))
def pNA (m : Nat) : Nat := (bif Nat.ble 19 m then (bif Nat.ble 28 m then (bif Nat.ble 33 m then (bif Nat.ble 35 m then (bif Nat.ble 36 m then (bif Nat.ble 37 m then 2 else 4) else 4) else (bif Nat.ble 34 m then 1 else 1)) else (bif Nat.ble 30 m then (bif Nat.ble 31 m then (bif Nat.ble 32 m then 2 else 0) else 2) else (bif Nat.ble 29 m then 0 else 0))) else (bif Nat.ble 23 m then (bif Nat.ble 25 m then (bif Nat.ble 26 m then (bif Nat.ble 27 m then 0 else 0) else 0) else (bif Nat.ble 24 m then 2 else 2)) else (bif Nat.ble 21 m then (bif Nat.ble 22 m then 1 else 1) else (bif Nat.ble 20 m then 1 else 0)))) else (bif Nat.ble 9 m then (bif Nat.ble 14 m then (bif Nat.ble 16 m then (bif Nat.ble 17 m then (bif Nat.ble 18 m then 0 else 0) else 1) else (bif Nat.ble 15 m then 0 else 2)) else (bif Nat.ble 11 m then (bif Nat.ble 12 m then (bif Nat.ble 13 m then 4 else 1) else 1) else (bif Nat.ble 10 m then 0 else 4))) else (bif Nat.ble 4 m then (bif Nat.ble 6 m then (bif Nat.ble 7 m then (bif Nat.ble 8 m then 1 else 0) else 4) else (bif Nat.ble 5 m then 4 else 1)) else (bif Nat.ble 2 m then (bif Nat.ble 3 m then 2 else 0) else (bif Nat.ble 1 m then 2 else 1)))))
def pFr (m : Nat) : Nat := (bif Nat.ble 19 m then (bif Nat.ble 28 m then (bif Nat.ble 33 m then (bif Nat.ble 35 m then (bif Nat.ble 36 m then (bif Nat.ble 37 m then 0 else 0) else 0) else (bif Nat.ble 34 m then 0 else 1)) else (bif Nat.ble 30 m then (bif Nat.ble 31 m then (bif Nat.ble 32 m then 0 else 1) else 0) else (bif Nat.ble 29 m then 1 else 1))) else (bif Nat.ble 23 m then (bif Nat.ble 25 m then (bif Nat.ble 26 m then (bif Nat.ble 27 m then 1 else 1) else 2) else (bif Nat.ble 24 m then 1 else 1)) else (bif Nat.ble 21 m then (bif Nat.ble 22 m then 2 else 0) else (bif Nat.ble 20 m then 0 else 0)))) else (bif Nat.ble 9 m then (bif Nat.ble 14 m then (bif Nat.ble 16 m then (bif Nat.ble 17 m then (bif Nat.ble 18 m then 0 else 0) else 1) else (bif Nat.ble 15 m then 0 else 3)) else (bif Nat.ble 11 m then (bif Nat.ble 12 m then (bif Nat.ble 13 m then 0 else 1) else 1) else (bif Nat.ble 10 m then 1 else 1))) else (bif Nat.ble 4 m then (bif Nat.ble 6 m then (bif Nat.ble 7 m then (bif Nat.ble 8 m then 2 else 0) else 0) else (bif Nat.ble 5 m then 1 else 0)) else (bif Nat.ble 2 m then (bif Nat.ble 3 m then 1 else 0) else (bif Nat.ble 1 m then 1 else 4)))))
def pLo (m : Nat) : Nat := (bif Nat.ble 19 m then (bif Nat.ble 28 m then (bif Nat.ble 33 m then (bif Nat.ble 35 m then (bif Nat.ble 36 m then (bif Nat.ble 37 m then 0 else 0) else 0) else (bif Nat.ble 34 m then 0 else 16)) else (bif Nat.ble 30 m then (bif Nat.ble 31 m then (bif Nat.ble 32 m then 0 else 17) else 0) else (bif Nat.ble 29 m then 17 else 17))) else (bif Nat.ble 23 m then (bif Nat.ble 25 m then (bif Nat.ble 26 m then (bif Nat.ble 27 m then 16 else 16) else 33) else (bif Nat.ble 24 m then 13 else 13)) else (bif Nat.ble 21 m then (bif Nat.ble 22 m then 29 else 0) else (bif Nat.ble 20 m then 0 else 0)))) else (bif Nat.ble 9 m then (bif Nat.ble 14 m then (bif Nat.ble 16 m then (bif Nat.ble 17 m then (bif Nat.ble 18 m then 0 else 0) else 15) else (bif Nat.ble 15 m then 0 else 46)) else (bif Nat.ble 11 m then (bif Nat.ble 12 m then (bif Nat.ble 13 m then 0 else 16) else 16) else (bif Nat.ble 10 m then 13 else 16))) else (bif Nat.ble 4 m then (bif Nat.ble 6 m then (bif Nat.ble 7 m then (bif Nat.ble 8 m then 30 else 0) else 0) else (bif Nat.ble 5 m then 16 else 0)) else (bif Nat.ble 2 m then (bif Nat.ble 3 m then 16 else 0) else (bif Nat.ble 1 m then 12 else 69)))))
def tB (k p : Nat) (a b : Option (Instr × Nat)) : Option (Instr × Nat) := bif Nat.ble k p then a else b
def tL (k p : Nat) (i : Instr) (x : Nat) : Option (Instr × Nat) := bif Nat.beq p k then some (i, x) else none
set_option maxHeartbeats 4000000 in
def cd0 (p : Nat) : Option (Instr × Nat) := (tB 122 p (tB 187 p (tB 221 p (tB 241 p (tB 251 p (tB 258 p (tB 261 p (tB 262 p (tL 262 p .ireturn 0) (tL 261 p (.iconst 1) 0)) (tL 258 p (.goto (-244)) 14)) (tB 254 p (tB 255 p (tL 255 p (.iinc 2 5) 0) (tL 254 p .pop 0)) (tL 251 p (.invokevirtual 41) 8))) (tB 245 p (tB 248 p (tB 249 p (tL 249 p (.iload 9) 0) (tL 248 p (.aload_n 1) 0)) (tL 245 p (.goto 10) 255)) (tB 242 p (tL 242 p (.invokevirtual 38) 10) (tL 241 p (.aload_n 1) 0)))) (tB 233 p (tB 235 p (tB 236 p (tB 238 p (tL 238 p (.if_icmp .ne 10) 248) (tL 236 p (.bipush 14) 0)) (tL 235 p (.iload_n 3) 0)) (tB 234 p (tL 234 p .ireturn 0) (tL 233 p (.iconst 0) 0))) (tB 225 p (tB 227 p (tB 230 p (tL 230 p (.ifCond .ne 25) 255) (tL 227 p (.invokestatic 32) 14)) (tL 225 p (.iload 9) 0)) (tB 224 p (tL 224 p (.aload_n 1) 0) (tL 221 p (.if_icmp .ne 14) 235))))) (tB 204 p (tB 211 p (tB 215 p (tB 218 p (tB 219 p (tL 219 p (.bipush 13) 0) (tL 218 p (.iload_n 3) 0)) (tL 215 p (.goto 40) 255)) (tB 214 p (tL 214 p .pop 0) (tL 211 p (.invokevirtual 28) 11))) (tB 208 p (tB 209 p (tB 210 p (tL 210 p .irem 0) (tL 209 p .iadd 0)) (tL 208 p (.iconst 1) 0)) (tB 206 p (tL 206 p (.iload 4) 0) (tL 204 p (.iload 5) 0)))) (tB 194 p (tB 198 p (tB 200 p (tB 203 p (tL 203 p (.aload_n 1) 0) (tL 200 p (.if_icmp .ne 18) 218)) (tL 198 p (.bipush 7) 0)) (tB 197 p (tL 197 p (.iload_n 3) 0) (tL 194 p (.goto 61) 255))) (tB 189 p (tB 190 p (tB 193 p (tL 193 p .pop 0) (tL 190 p (.invokevirtual 24) 9)) (tL 189 p .irem 0)) (tB 188 p (tL 188 p .iadd 0) (tL 187 p (.iconst 1) 0)))))) (tB 154 p (tB 171 p (tB 178 p (tB 181 p (tB 184 p (tB 185 p (tL 185 p (.iload 4) 0) (tL 184 p .iand 0)) (tL 181 p (.sipush 255) 0)) (tB 179 p (tL 179 p (.iload 8) 0) (tL 178 p .irem 0))) (tB 174 p (tB 176 p (tB 177 p (tL 177 p .iadd 0) (tL 176 p (.iconst 1) 0)) (tL 174 p (.iload 4) 0)) (tB 172 p (tL 172 p (.iload 6) 0) (tL 171 p .irem 0)))) (tB 164 p (tB 166 p (tB 167 p (tB 169 p (tL 169 p (.bipush 17) 0) (tL 167 p (.iload 7) 0)) (tL 166 p .irem 0)) (tB 165 p (tL 165 p .iadd 0) (tL 164 p (.iconst 1) 0))) (tB 159 p (tB 160 p (tB 162 p (tL 162 p (.iload 4) 0) (tL 160 p (.iload 5) 0)) (tL 159 p (.aload_n 1) 0)) (tB 156 p (tL 156 p (.if_icmp .gt 41) 197) (tL 154 p (.bipush 6) 0))))) (tB 138 p (tB 145 p (tB 149 p (tB 150 p (tB 153 p (tL 153 p (.iload_n 3) 0) (tL 150 p (.goto 105) 255)) (tL 149 p .pop 0)) (tB 146 p (tL 146 p (.invokevirtual 20) 3) (tL 145 p .irem 0))) (tB 141 p (tB 143 p (tB 144 p (tL 144 p .iadd 0) (tL 143 p (.iconst 1) 0)) (tL 141 p (.iload 4) 0)) (tB 139 p (tL 139 p (.iload 6) 0) (tL 138 p .irem 0)))) (tB 131 p (tB 134 p (tB 136 p (tB 137 p (tL 137 p .iadd 0) (tL 136 p (.iconst 1) 0)) (tL 134 p (.iload 4) 0)) (tB 132 p (tL 132 p (.iload 5) 0) (tL 131 p (.aload_n 1) 0))) (tB 126 p (tB 127 p (tB 128 p (tL 128 p (.if_icmp .gt 25) 153) (tL 127 p (.iconst 4) 0)) (tL 126 p (.iload_n 3) 0)) (tB 123 p (tL 123 p (.goto 132) 255) (tL 122 p .pop 0))))))) (tB 61 p (tB 89 p (tB 105 p (tB 111 p (tB 116 p (tB 118 p (tB 119 p (tL 119 p (.invokevirtual 16) 5) (tL 118 p .isub 0)) (tL 116 p (.bipush 16) 0)) (tB 113 p (tB 115 p (tL 115 p .iand 0) (tL 113 p (.bipush 31) 0)) (tL 111 p (.iload 8) 0))) (tB 107 p (tB 109 p (tB 110 p (tL 110 p .iand 0) (tL 109 p (.iconst 3) 0)) (tL 107 p (.iload 7) 0)) (tB 106 p (tL 106 p .iand 0) (tL 105 p (.iconst 3) 0)))) (tB 97 p (tB 100 p (tB 102 p (tB 103 p (tL 103 p (.iload 6) 0) (tL 102 p .irem 0)) (tL 100 p (.bipush 9) 0)) (tB 98 p (tL 98 p (.iload 5) 0) (tL 97 p (.aload_n 1) 0))) (tB 92 p (tB 93 p (tB 94 p (tL 94 p (.if_icmp .gt 32) 126) (tL 93 p (.iconst 2) 0)) (tL 92 p (.iload_n 3) 0)) (tB 90 p (tL 90 p (.istore 9) 0) (tL 89 p .isub 0))))) (tB 75 p (tB 80 p (tB 84 p (tB 86 p (tB 87 p (tL 87 p (.bipush 32) 0) (tL 86 p .iand 0)) (tL 84 p (.bipush 63) 0)) (tB 82 p (tL 82 p (.iload 8) 0) (tL 80 p (.istore 8) 0))) (tB 77 p (tB 78 p (tB 79 p (tL 79 p .iaload 0) (tL 78 p .iadd 0)) (tL 77 p (.iconst 4) 0)) (tB 76 p (tL 76 p (.iload_n 2) 0) (tL 75 p (.aload_n 0) 0)))) (tB 67 p (tB 69 p (tB 72 p (tB 73 p (tL 73 p (.istore 7) 0) (tL 72 p .iand 0)) (tL 69 p (.sipush 255) 0)) (tB 68 p (tL 68 p .iaload 0) (tL 67 p .iadd 0))) (tB 64 p (tB 65 p (tB 66 p (tL 66 p (.iconst 3) 0) (tL 65 p (.iload_n 2) 0)) (tL 64 p (.aload_n 0) 0)) (tB 62 p (tL 62 p (.istore 6) 0) (tL 61 p .iand 0)))))) (tB 32 p (tB 46 p (tB 54 p (tB 56 p (tB 57 p (tB 58 p (tL 58 p (.sipush 255) 0) (tL 57 p .iaload 0)) (tL 56 p .iadd 0)) (tB 55 p (tL 55 p (.iconst 2) 0) (tL 54 p (.iload_n 2) 0))) (tB 50 p (tB 51 p (tB 53 p (tL 53 p (.aload_n 0) 0) (tL 51 p (.istore 5) 0)) (tL 50 p .iand 0)) (tB 47 p (tL 47 p (.sipush 255) 0) (tL 46 p .iaload 0)))) (tB 40 p (tB 43 p (tB 44 p (tB 45 p (tL 45 p .iadd 0) (tL 44 p (.iconst 1) 0)) (tL 43 p (.iload_n 2) 0)) (tB 42 p (tL 42 p (.aload_n 0) 0) (tL 40 p (.istore 4) 0))) (tB 35 p (tB 36 p (tB 37 p (tL 37 p (.invokevirtual 12) 2) (tL 36 p (.aload_n 1) 0)) (tL 35 p (.istore_n 3) 0)) (tB 34 p (tL 34 p .iand 0) (tL 32 p (.bipush 15) 0))))) (tB 16 p (tB 23 p (tB 29 p (tB 30 p (tB 31 p (tL 31 p .iaload 0) (tL 30 p (.iload_n 2) 0)) (tL 29 p (.aload_n 0) 0)) (tB 26 p (tL 26 p (.if_icmp .ge 235) 261) (tL 23 p (.sipush 5000) 0))) (tB 18 p (tB 19 p (tB 22 p (tL 22 p (.iload_n 2) 0) (tL 19 p (.if_icmp .ge 242) 261)) (tL 18 p .arraylength 0)) (tB 17 p (tL 17 p (.aload_n 0) 0) (tL 16 p .iadd 0)))) (tB 11 p (tB 13 p (tB 14 p (tB 15 p (tL 15 p (.iconst 4) 0) (tL 14 p (.iload_n 2) 0)) (tL 13 p (.istore_n 2) 0)) (tB 12 p (tL 12 p (.iconst 0) 0) (tL 11 p (.astore_n 1) 0))) (tB 4 p (tB 6 p (tB 8 p (tL 8 p (.invokespecial 9) 1) (tL 6 p (.bipush 64) 0)) (tL 4 p (.bipush 8) 0)) (tB 3 p (tL 3 p .dup 0) (tL 0 p (.new 7) 0))))))))
set_option maxHeartbeats 4000000 in
def cd1 (p : Nat) : Option (Instr × Nat) := (tB 158 p (tB 235 p (tB 274 p (tB 293 p (tB 300 p (tB 304 p (tB 305 p (tB 308 p (tL 308 p .return_ 0) (tL 305 p (.putfield 114) 34)) (tL 304 p (.iconst 0) 0)) (tB 303 p (tL 303 p (.aload_n 0) 0) (tL 300 p (.putfield 111) 33))) (tB 295 p (tB 298 p (tB 299 p (tL 299 p (.iconst 0) 0) (tL 298 p (.aload_n 0) 0)) (tL 295 p (.putfield 108) 32)) (tB 294 p (tL 294 p (.iconst 0) 0) (tL 293 p (.aload_n 0) 0)))) (tB 284 p (tB 288 p (tB 289 p (tB 290 p (tL 290 p (.putfield 104) 31) (tL 289 p (.iconst 0) 0)) (tL 288 p (.aload_n 0) 0)) (tB 285 p (tL 285 p (.putfield 101) 30) (tL 284 p (.iconst 0) 0))) (tB 278 p (tB 280 p (tB 283 p (tL 283 p (.aload_n 0) 0) (tL 280 p (.putfield 98) 29)) (tL 278 p (.iload 4) 0)) (tB 277 p (tL 277 p (.aload_n 0) 0) (tL 274 p (.putfield 94) 28))))) (tB 252 p (tB 264 p (tB 270 p (tB 272 p (tB 273 p (tL 273 p (.iload_n 3) 0) (tL 272 p (.aload_n 0) 0)) (tL 270 p (.istore 4) 0)) (tB 267 p (tL 267 p (.sipush 1024) 0) (tL 264 p (.if_icmp .le 8) 272))) (tB 257 p (tB 259 p (tB 261 p (tL 261 p (.sipush 1024) 0) (tL 259 p (.iload 4) 0)) (tL 257 p (.istore 4) 0)) (tB 255 p (tL 255 p (.bipush 16) 0) (tL 252 p (.if_icmp .ge 7) 259)))) (tB 244 p (tB 246 p (tB 248 p (tB 250 p (tL 250 p (.bipush 16) 0) (tL 248 p (.iload 4) 0)) (tL 246 p (.istore 4) 0)) (tB 245 p (tL 245 p (.iload_n 2) 0) (tL 244 p (.istore_n 3) 0))) (tB 237 p (tB 239 p (tB 242 p (tL 242 p (.bipush 16) 0) (tL 239 p (.if_icmp .le 6) 245)) (tL 237 p (.bipush 16) 0)) (tB 236 p (tL 236 p (.iload_n 3) 0) (tL 235 p (.istore_n 3) 0)))))) (tB 198 p (tB 219 p (tB 228 p (tB 230 p (tB 231 p (tB 234 p (tL 234 p (.iconst 2) 0) (tL 231 p (.if_icmp .ge 5) 236)) (tL 230 p (.iconst 2) 0)) (tB 229 p (tL 229 p (.iload_n 3) 0) (tL 228 p (.istore_n 3) 0))) (tB 222 p (tB 224 p (tB 227 p (tL 227 p (.iload_n 1) 0) (tL 224 p (.putfield 91) 27)) (tL 222 p (.newarray .int) 0)) (tB 220 p (tL 220 p (.bipush 16) 0) (tL 219 p (.aload_n 0) 0)))) (tB 208 p (tB 212 p (tB 214 p (tB 216 p (tL 216 p (.putfield 88) 26) (tL 214 p (.newarray .int) 0)) (tL 212 p (.bipush 16) 0)) (tB 211 p (tL 211 p (.aload_n 0) 0) (tL 208 p (.putfield 85) 25))) (tB 203 p (tB 204 p (tB 206 p (tL 206 p (.newarray .int) 0) (tL 204 p (.bipush 16) 0)) (tL 203 p (.aload_n 0) 0)) (tB 200 p (tL 200 p (.putfield 82) 24) (tL 198 p (.newarray .int) 0))))) (tB 179 p (tB 188 p (tB 192 p (tB 195 p (tB 196 p (tL 196 p (.bipush 16) 0) (tL 195 p (.aload_n 0) 0)) (tL 192 p (.putfield 79) 23)) (tB 190 p (tL 190 p (.newarray .int) 0) (tL 188 p (.bipush 16) 0))) (tB 182 p (tB 184 p (tB 187 p (tL 187 p (.aload_n 0) 0) (tL 184 p (.putfield 76) 22)) (tL 182 p (.newarray .int) 0)) (tB 180 p (tL 180 p (.bipush 16) 0) (tL 179 p (.aload_n 0) 0)))) (tB 168 p (tB 172 p (tB 174 p (tB 176 p (tL 176 p (.putfield 73) 21) (tL 174 p (.newarray .int) 0)) (tL 172 p (.bipush 16) 0)) (tB 171 p (tL 171 p (.aload_n 0) 0) (tL 168 p (.putfield 70) 20))) (tB 163 p (tB 164 p (tB 166 p (tL 166 p (.newarray .int) 0) (tL 164 p (.bipush 16) 0)) (tL 163 p (.aload_n 0) 0)) (tB 160 p (tL 160 p (.putfield 67) 19) (tL 158 p (.newarray .int) 0))))))) (tB 79 p (tB 118 p (tB 139 p (tB 148 p (tB 152 p (tB 155 p (tB 156 p (tL 156 p (.bipush 16) 0) (tL 155 p (.aload_n 0) 0)) (tL 152 p (.putfield 64) 18)) (tB 150 p (tL 150 p (.newarray .int) 0) (tL 148 p (.bipush 16) 0))) (tB 142 p (tB 144 p (tB 147 p (tL 147 p (.aload_n 0) 0) (tL 144 p (.putfield 61) 17)) (tL 142 p (.newarray .int) 0)) (tB 140 p (tL 140 p (.bipush 16) 0) (tL 139 p (.aload_n 0) 0)))) (tB 128 p (tB 132 p (tB 134 p (tB 136 p (tL 136 p (.putfield 58) 16) (tL 134 p (.newarray .int) 0)) (tL 132 p (.bipush 16) 0)) (tB 131 p (tL 131 p (.aload_n 0) 0) (tL 128 p (.putfield 55) 15))) (tB 123 p (tB 124 p (tB 126 p (tL 126 p (.newarray .int) 0) (tL 124 p (.bipush 16) 0)) (tL 123 p (.aload_n 0) 0)) (tB 120 p (tL 120 p (.putfield 52) 14) (tL 118 p (.newarray .int) 0))))) (tB 99 p (tB 108 p (tB 112 p (tB 115 p (tB 116 p (tL 116 p (.bipush 16) 0) (tL 115 p (.aload_n 0) 0)) (tL 112 p (.putfield 49) 13)) (tB 110 p (tL 110 p (.newarray .int) 0) (tL 108 p (.bipush 32) 0))) (tB 102 p (tB 104 p (tB 107 p (tL 107 p (.aload_n 0) 0) (tL 104 p (.putfield 46) 12)) (tL 102 p (.newarray .int) 0)) (tB 100 p (tL 100 p (.bipush 32) 0) (tL 99 p (.aload_n 0) 0)))) (tB 88 p (tB 92 p (tB 94 p (tB 96 p (tL 96 p (.putfield 43) 11) (tL 94 p (.newarray .int) 0)) (tL 92 p (.bipush 16) 0)) (tB 91 p (tL 91 p (.aload_n 0) 0) (tL 88 p (.putfield 40) 10))) (tB 84 p (tB 85 p (tB 86 p (tL 86 p (.newarray .int) 0) (tL 85 p (.iconst 4) 0)) (tL 84 p (.aload_n 0) 0)) (tB 81 p (tL 81 p (.putfield 37) 9) (tL 79 p (.newarray .int) 0)))))) (tB 39 p (tB 60 p (tB 69 p (tB 73 p (tB 76 p (tB 77 p (tL 77 p (.bipush 16) 0) (tL 76 p (.aload_n 0) 0)) (tL 73 p (.putfield 34) 8)) (tB 71 p (tL 71 p (.newarray .int) 0) (tL 69 p (.bipush 16) 0))) (tB 63 p (tB 65 p (tB 68 p (tL 68 p (.aload_n 0) 0) (tL 65 p (.putfield 31) 7)) (tL 63 p (.newarray .int) 0)) (tB 61 p (tL 61 p (.bipush 16) 0) (tL 60 p (.aload_n 0) 0)))) (tB 49 p (tB 53 p (tB 55 p (tB 57 p (tL 57 p (.putfield 28) 6) (tL 55 p (.newarray .int) 0)) (tL 53 p (.bipush 16) 0)) (tB 52 p (tL 52 p (.aload_n 0) 0) (tL 49 p (.putfield 25) 5))) (tB 44 p (tB 45 p (tB 47 p (tL 47 p (.newarray .int) 0) (tL 45 p (.bipush 16) 0)) (tL 44 p (.aload_n 0) 0)) (tB 41 p (tL 41 p (.putfield 22) 4) (tL 39 p (.newarray .int) 0))))) (tB 20 p (tB 29 p (tB 33 p (tB 36 p (tB 37 p (tL 37 p (.bipush 16) 0) (tL 36 p (.aload_n 0) 0)) (tL 33 p (.putfield 19) 3)) (tB 31 p (tL 31 p (.newarray .int) 0) (tL 29 p (.bipush 16) 0))) (tB 23 p (tB 25 p (tB 28 p (tL 28 p (.aload_n 0) 0) (tL 25 p (.putfield 16) 2)) (tL 23 p (.newarray .int) 0)) (tB 21 p (tL 21 p (.bipush 16) 0) (tL 20 p (.aload_n 0) 0)))) (tB 9 p (tB 13 p (tB 15 p (tB 17 p (tL 17 p (.putfield 13) 1) (tL 15 p (.newarray .int) 0)) (tL 13 p (.bipush 16) 0)) (tB 12 p (tL 12 p (.aload_n 0) 0) (tL 9 p (.putfield 7) 0))) (tB 4 p (tB 5 p (tB 7 p (tL 7 p (.newarray .int) 0) (tL 5 p (.bipush 16) 0)) (tL 4 p (.aload_n 0) 0)) (tB 1 p (tL 1 p (.invokespecial 1) 0) (tL 0 p (.aload_n 0) 0))))))))
set_option maxHeartbeats 4000000 in
def cd2 (p : Nat) : Option (Instr × Nat) := (tB 1 p (tB 4 p (tL 4 p .ireturn 0) (tL 1 p (.getfield 101) 30)) (tL 0 p (.aload_n 0) 0))
set_option maxHeartbeats 4000000 in
def cd3 (p : Nat) : Option (Instr × Nat) := (tB 26 p (tB 37 p (tB 40 p (tB 44 p (tB 45 p (tL 45 p .ireturn 0) (tL 44 p (.iconst 1) 0)) (tB 41 p (tL 41 p (.invokevirtual 121) 7) (tL 40 p (.aload_n 0) 0))) (tB 38 p (tB 39 p (tL 39 p .iastore 0) (tL 38 p (.iconst 0) 0)) (tL 37 p (.iload_n 1) 0))) (tB 29 p (tB 33 p (tB 34 p (tL 34 p (.getfield 31) 7) (tL 33 p (.aload_n 0) 0)) (tB 30 p (tL 30 p (.invokevirtual 117) 6) (tL 29 p (.iload_n 2) 0))) (tB 27 p (tB 28 p (tL 28 p (.iconst 0) 0) (tL 27 p (.iconst 1) 0)) (tL 26 p (.iload_n 1) 0)))) (tB 15 p (tB 20 p (tB 24 p (tB 25 p (tL 25 p (.aload_n 0) 0) (tL 24 p .ireturn 0)) (tB 23 p (tL 23 p (.iconst 0) 0) (tL 20 p (.ifCond .ne 5) 25))) (tB 16 p (tB 17 p (tL 17 p (.invokevirtual 124) 4) (tL 16 p (.iload_n 2) 0)) (tL 15 p (.aload_n 0) 0))) (tB 7 p (tB 9 p (tB 12 p (tL 12 p (.ifCond .eq 11) 23) (tL 9 p (.invokevirtual 124) 4)) (tB 8 p (tL 8 p (.iload_n 1) 0) (tL 7 p (.aload_n 0) 0))) (tB 1 p (tB 4 p (tL 4 p (.ifCond .ne 19) 23) (tL 1 p (.getfield 104) 31)) (tL 0 p (.aload_n 0) 0)))))
set_option maxHeartbeats 4000000 in
def cd4 (p : Nat) : Option (Instr × Nat) := (tB 12 p (tB 18 p (tB 22 p (tB 23 p (tL 23 p .ireturn 0) (tL 22 p (.iconst 0) 0)) (tB 19 p (tL 19 p (.goto 4) 23) (tL 18 p (.iconst 1) 0))) (tB 13 p (tB 15 p (tL 15 p (.if_icmp .ge 7) 22) (tL 13 p (.bipush 16) 0)) (tL 12 p (.iload_n 1) 0))) (tB 5 p (tB 6 p (tB 9 p (tL 9 p (.if_icmp .ge 13) 22) (tL 6 p (.getfield 101) 30)) (tL 5 p (.aload_n 0) 0)) (tB 1 p (tB 4 p (tL 4 p (.iload_n 1) 0) (tL 1 p (.ifCond .lt 21) 22)) (tL 0 p (.iload_n 1) 0))))
set_option maxHeartbeats 4000000 in
def cd5 (p : Nat) : Option (Instr × Nat) := (tB 71 p (tB 99 p (tB 114 p (tB 120 p (tB 124 p (tB 127 p (tB 129 p (tL 129 p .ireturn 0) (tL 127 p (.iload 5) 0)) (tL 124 p (.invokevirtual 121) 7)) (tB 123 p (tL 123 p (.aload_n 0) 0) (tL 120 p (.putfield 101) 30))) (tB 116 p (tB 118 p (tB 119 p (tL 119 p .iadd 0) (tL 118 p (.iconst 1) 0)) (tL 116 p (.iload 5) 0)) (tB 115 p (tL 115 p (.aload_n 0) 0) (tL 114 p .iastore 0)))) (tB 104 p (tB 108 p (tB 111 p (tB 113 p (tL 113 p (.iconst 0) 0) (tL 111 p (.iload 5) 0)) (tL 108 p (.getfield 31) 7)) (tB 107 p (tL 107 p (.aload_n 0) 0) (tL 104 p (.invokevirtual 117) 6))) (tB 102 p (tB 103 p (tL 103 p (.iconst 0) 0) (tL 102 p (.iconst 0) 0)) (tB 101 p (tL 101 p (.iconst 0) 0) (tL 99 p (.iload 5) 0))))) (tB 85 p (tB 90 p (tB 95 p (tB 97 p (tB 98 p (tL 98 p (.aload_n 0) 0) (tL 97 p .iastore 0)) (tL 95 p (.iload 4) 0)) (tB 93 p (tL 93 p (.iload 5) 0) (tL 90 p (.getfield 19) 3))) (tB 88 p (tB 89 p (tL 89 p (.aload_n 0) 0) (tL 88 p .iastore 0)) (tB 87 p (tL 87 p (.iload_n 3) 0) (tL 85 p (.iload 5) 0)))) (tB 77 p (tB 80 p (tB 81 p (tB 82 p (tL 82 p (.getfield 16) 2) (tL 81 p (.aload_n 0) 0)) (tL 80 p .iastore 0)) (tB 79 p (tL 79 p (.iload_n 2) 0) (tL 77 p (.iload 5) 0))) (tB 73 p (tB 74 p (tL 74 p (.getfield 13) 1) (tL 73 p (.aload_n 0) 0)) (tB 72 p (tL 72 p .iastore 0) (tL 71 p (.iload_n 1) 0)))))) (tB 36 p (tB 53 p (tB 60 p (tB 65 p (tB 66 p (tB 69 p (tL 69 p (.iload 5) 0) (tL 66 p (.getfield 7) 0)) (tL 65 p (.aload_n 0) 0)) (tB 63 p (tL 63 p (.istore 5) 0) (tL 60 p (.getfield 101) 30))) (tB 57 p (tB 58 p (tB 59 p (tL 59 p (.aload_n 0) 0) (tL 58 p .ireturn 0)) (tL 57 p (.iconst (-1)) 0)) (tB 54 p (tL 54 p (.if_icmp .le 5) 59) (tL 53 p (.iconst 3) 0)))) (tB 44 p (tB 48 p (tB 49 p (tB 52 p (tL 52 p (.iload_n 3) 0) (tL 49 p (.ifCond .lt 8) 57)) (tL 48 p (.iload_n 3) 0)) (tB 45 p (tL 45 p (.if_icmp .gt 12) 57) (tL 44 p (.iconst 3) 0))) (tB 40 p (tB 43 p (tL 43 p (.iload_n 2) 0) (tL 40 p (.ifCond .lt 17) 57)) (tB 39 p (tL 39 p (.iload_n 2) 0) (tL 36 p (.if_icmp .gt 21) 57))))) (tB 19 p (tB 28 p (tB 30 p (tB 33 p (tB 34 p (tL 34 p (.bipush 7) 0) (tL 33 p (.iload_n 1) 0)) (tL 30 p (.ifCond .lt 27) 57)) (tB 29 p (tL 29 p (.iload_n 1) 0) (tL 28 p .ireturn 0))) (tB 24 p (tB 27 p (tL 27 p (.iconst (-1)) 0) (tL 24 p (.if_icmp .lt 5) 29)) (tB 22 p (tL 22 p (.bipush 16) 0) (tL 19 p (.getfield 101) 30)))) (tB 8 p (tB 12 p (tB 15 p (tB 18 p (tL 18 p (.aload_n 0) 0) (tL 15 p (.if_icmp .eq 12) 27)) (tL 12 p (.getfield 94) 28)) (tB 11 p (tL 11 p (.aload_n 0) 0) (tL 8 p (.getfield 101) 30))) (tB 4 p (tB 7 p (tL 7 p (.aload_n 0) 0) (tL 4 p (.ifCond .ne 23) 27)) (tB 1 p (tL 1 p (.getfield 104) 31) (tL 0 p (.aload_n 0) 0)))))))
set_option maxHeartbeats 4000000 in
def cd6 (p : Nat) : Option (Instr × Nat) := (tB 12 p (tB 18 p (tB 21 p (tB 22 p (tL 22 p .return_ 0) (tL 21 p .iastore 0)) (tB 19 p (tL 19 p (.iload 4) 0) (tL 18 p (.iload_n 1) 0))) (tB 14 p (tB 15 p (tL 15 p (.getfield 28) 6) (tL 14 p (.aload_n 0) 0)) (tB 13 p (tL 13 p .iastore 0) (tL 12 p (.iload_n 3) 0)))) (tB 6 p (tB 8 p (tB 11 p (tL 11 p (.iload_n 1) 0) (tL 8 p (.getfield 25) 5)) (tB 7 p (tL 7 p (.aload_n 0) 0) (tL 6 p .iastore 0))) (tB 4 p (tB 5 p (tL 5 p (.iload_n 2) 0) (tL 4 p (.iload_n 1) 0)) (tB 1 p (tL 1 p (.getfield 22) 4) (tL 0 p (.aload_n 0) 0)))))
set_option maxHeartbeats 4000000 in
def cd7 (p : Nat) : Option (Instr × Nat) := (tB 14 p (tB 20 p (tB 22 p (tB 25 p (tB 28 p (tL 28 p .return_ 0) (tL 25 p (.goto (-23)) 2)) (tL 22 p (.iinc 1 1) 0)) (tB 21 p (tL 21 p .iastore 0) (tL 20 p (.iconst 0) 0))) (tB 16 p (tB 19 p (tL 19 p (.iload_n 1) 0) (tL 16 p (.getfield 37) 9)) (tB 15 p (tL 15 p (.aload_n 0) 0) (tL 14 p .iastore 0)))) (tB 5 p (tB 9 p (tB 12 p (tB 13 p (tL 13 p (.iconst 0) 0) (tL 12 p (.iload_n 1) 0)) (tL 9 p (.getfield 34) 8)) (tB 8 p (tL 8 p (.aload_n 0) 0) (tL 5 p (.if_icmp .ge 23) 28))) (tB 2 p (tB 3 p (tL 3 p (.bipush 16) 0) (tL 2 p (.iload_n 1) 0)) (tB 1 p (tL 1 p (.istore_n 1) 0) (tL 0 p (.iconst 0) 0)))))
set_option maxHeartbeats 4000000 in
def cd8 (p : Nat) : Option (Instr × Nat) := (tB 51 p (tB 86 p (tB 103 p (tB 112 p (tB 114 p (tB 117 p (tB 118 p (tL 118 p .ireturn 0) (tL 117 p (.iload_n 3) 0)) (tL 114 p (.putfield 114) 34)) (tB 113 p (tL 113 p (.iload_n 3) 0) (tL 112 p (.aload_n 0) 0))) (tB 108 p (tB 109 p (tL 109 p (.goto (-58)) 51) (tL 108 p (.istore_n 2) 0)) (tB 106 p (tL 106 p (.iload 4) 0) (tL 103 p (.goto 9) 112)))) (tB 94 p (tB 98 p (tB 101 p (tB 102 p (tL 102 p (.istore_n 3) 0) (tL 101 p (.iconst 1) 0)) (tL 98 p (.ifCond .ge 8) 106)) (tB 96 p (tL 96 p (.iload 4) 0) (tL 94 p (.istore 4) 0))) (tB 90 p (tB 91 p (tL 91 p (.invokevirtual 132) 12) (tL 90 p (.iload_n 2) 0)) (tB 89 p (tL 89 p (.aload_n 0) 0) (tL 86 p (.goto 10) 96))))) (tB 68 p (tB 76 p (tB 80 p (tB 81 p (tB 84 p (tL 84 p (.istore 4) 0) (tL 81 p (.invokevirtual 128) 33)) (tL 80 p (.iload_n 2) 0)) (tB 79 p (tL 79 p (.aload_n 0) 0) (tL 76 p (.ifCond .eq 13) 89))) (tB 72 p (tB 73 p (tL 73 p (.getfield 104) 31) (tL 72 p (.aload_n 0) 0)) (tB 69 p (tL 69 p (.putfield 111) 33) (tL 68 p .iadd 0)))) (tB 59 p (tB 63 p (tB 64 p (tB 67 p (tL 67 p (.iconst 1) 0) (tL 64 p (.getfield 111) 33)) (tL 63 p .dup 0)) (tB 62 p (tL 62 p (.aload_n 0) 0) (tL 59 p (.if_icmp .ge 53) 112))) (tB 55 p (tB 56 p (tL 56 p (.getfield 98) 29) (tL 55 p (.aload_n 0) 0)) (tB 52 p (tL 52 p (.getfield 111) 33) (tL 51 p (.aload_n 0) 0)))))) (tB 27 p (tB 38 p (tB 44 p (tB 48 p (tB 49 p (tB 50 p (tL 50 p (.istore_n 3) 0) (tL 49 p (.iconst 2) 0)) (tL 48 p (.istore_n 2) 0)) (tB 47 p (tL 47 p (.iconst 0) 0) (tL 44 p (.putfield 111) 33))) (tB 42 p (tB 43 p (tL 43 p (.iconst 0) 0) (tL 42 p (.aload_n 0) 0)) (tB 39 p (tL 39 p (.putfield 108) 32) (tL 38 p (.iconst 0) 0)))) (tB 31 p (tB 35 p (tB 36 p (tB 37 p (tL 37 p (.aload_n 0) 0) (tL 36 p .iastore 0)) (tL 35 p (.iconst 0) 0)) (tB 34 p (tL 34 p (.iconst 3) 0) (tL 31 p (.getfield 40) 10))) (tB 29 p (tB 30 p (tL 30 p (.aload_n 0) 0) (tL 29 p .iastore 0)) (tB 28 p (tL 28 p (.iconst 0) 0) (tL 27 p (.iconst 2) 0))))) (tB 14 p (tB 20 p (tB 22 p (tB 23 p (tB 24 p (tL 24 p (.getfield 40) 10) (tL 23 p (.aload_n 0) 0)) (tL 22 p .iastore 0)) (tB 21 p (tL 21 p (.iconst 0) 0) (tL 20 p (.iconst 1) 0))) (tB 16 p (tB 17 p (tL 17 p (.getfield 40) 10) (tL 16 p (.aload_n 0) 0)) (tB 15 p (tL 15 p .iastore 0) (tL 14 p (.iload_n 1) 0)))) (tB 8 p (tB 10 p (tB 13 p (tL 13 p (.iconst 0) 0) (tL 10 p (.getfield 40) 10)) (tB 9 p (tL 9 p (.aload_n 0) 0) (tL 8 p .ireturn 0))) (tB 4 p (tB 7 p (tL 7 p (.iconst 3) 0) (tL 4 p (.ifCond .ne 5) 9)) (tB 1 p (tL 1 p (.getfield 101) 30) (tL 0 p (.aload_n 0) 0)))))))
set_option maxHeartbeats 4000000 in
def cd9 (p : Nat) : Option (Instr × Nat) := (tB 36 p (tB 51 p (tB 61 p (tB 63 p (tB 66 p (tB 67 p (tL 67 p .ireturn 0) (tL 66 p (.iconst 1) 0)) (tL 63 p (.invokevirtual 121) 7)) (tB 62 p (tL 62 p (.aload_n 0) 0) (tL 61 p .iastore 0))) (tB 55 p (tB 58 p (tB 59 p (tL 59 p (.iload 4) 0) (tL 58 p (.iload_n 1) 0)) (tL 55 p (.getfield 31) 7)) (tB 54 p (tL 54 p (.aload_n 0) 0) (tL 51 p (.invokevirtual 117) 6)))) (tB 46 p (tB 48 p (tB 49 p (tB 50 p (tL 50 p (.iload_n 3) 0) (tL 49 p (.iload_n 2) 0)) (tL 48 p (.iconst 2) 0)) (tB 47 p (tL 47 p (.iload_n 1) 0) (tL 46 p (.aload_n 0) 0))) (tB 41 p (tB 44 p (tB 45 p (tL 45 p .ireturn 0) (tL 44 p (.iconst 0) 0)) (tL 41 p (.ifCond .ne 5) 46)) (tB 38 p (tL 38 p (.invokevirtual 124) 4) (tL 36 p (.iload 4) 0))))) (tB 17 p (tB 27 p (tB 29 p (tB 32 p (tB 35 p (tL 35 p (.aload_n 0) 0) (tL 32 p (.ifCond .eq 12) 44)) (tL 29 p (.invokevirtual 124) 4)) (tB 28 p (tL 28 p (.iload_n 3) 0) (tL 27 p (.aload_n 0) 0))) (tB 21 p (tB 22 p (tB 24 p (tL 24 p (.if_icmp .gt 20) 44) (tL 22 p (.bipush 15) 0)) (tL 21 p (.iload_n 2) 0)) (tB 18 p (tL 18 p (.ifCond .lt 26) 44) (tL 17 p (.iload_n 2) 0)))) (tB 8 p (tB 12 p (tB 15 p (tB 16 p (tL 16 p .ireturn 0) (tL 15 p (.iconst 0) 0)) (tL 12 p (.ifCond .ne 5) 17)) (tB 9 p (tL 9 p (.invokevirtual 124) 4) (tL 8 p (.iload_n 1) 0))) (tB 4 p (tB 7 p (tL 7 p (.aload_n 0) 0) (tL 4 p (.ifCond .ne 11) 15)) (tB 1 p (tL 1 p (.getfield 104) 31) (tL 0 p (.aload_n 0) 0))))))
set_option maxHeartbeats 4000000 in
def cd10 (p : Nat) : Option (Instr × Nat) := (tB 35 p (tB 52 p (tB 61 p (tB 66 p (tB 67 p (tB 70 p (tL 70 p .return_ 0) (tL 67 p (.putfield 114) 34)) (tL 66 p (.iconst 0) 0)) (tB 62 p (tB 65 p (tL 65 p (.aload_n 0) 0) (tL 62 p (.putfield 111) 33)) (tL 61 p (.iconst 0) 0))) (tB 56 p (tB 57 p (tB 60 p (tL 60 p (.aload_n 0) 0) (tL 57 p (.putfield 108) 32)) (tL 56 p (.iconst 0) 0)) (tB 55 p (tL 55 p (.aload_n 0) 0) (tL 52 p (.goto (-16)) 36)))) (tB 43 p (tB 47 p (tB 48 p (tB 49 p (tL 49 p (.iinc 1 1) 0) (tL 48 p .iastore 0)) (tL 47 p (.iconst 0) 0)) (tB 46 p (tL 46 p (.iload_n 1) 0) (tL 43 p (.getfield 43) 11))) (tB 37 p (tB 39 p (tB 42 p (tL 42 p (.aload_n 0) 0) (tL 39 p (.if_icmp .ge 16) 55)) (tL 37 p (.bipush 16) 0)) (tB 36 p (tL 36 p (.iload_n 1) 0) (tL 35 p (.istore_n 1) 0))))) (tB 16 p (tB 25 p (tB 28 p (tB 31 p (tB 34 p (tL 34 p (.iconst 0) 0) (tL 31 p (.goto (-15)) 16)) (tL 28 p (.iinc 1 1) 0)) (tB 26 p (tB 27 p (tL 27 p .iastore 0) (tL 26 p (.iconst 0) 0)) (tL 25 p (.iload_n 1) 0))) (tB 18 p (tB 21 p (tB 22 p (tL 22 p (.getfield 40) 10) (tL 21 p (.aload_n 0) 0)) (tL 18 p (.if_icmp .ge 16) 34)) (tB 17 p (tL 17 p (.iconst 4) 0) (tL 16 p (.iload_n 1) 0)))) (tB 7 p (tB 11 p (tB 14 p (tB 15 p (tL 15 p (.istore_n 1) 0) (tL 14 p (.iconst 0) 0)) (tL 11 p (.invokevirtual 121) 7)) (tB 10 p (tL 10 p (.aload_n 0) 0) (tL 7 p (.putfield 104) 31))) (tB 2 p (tB 5 p (tB 6 p (tL 6 p (.iconst 0) 0) (tL 5 p (.aload_n 0) 0)) (tL 2 p (.putfield 101) 30)) (tB 1 p (tL 1 p (.iconst 0) 0) (tL 0 p (.aload_n 0) 0))))))
set_option maxHeartbeats 4000000 in
def cd11 (p : Nat) : Option (Instr × Nat) := (tB 20 p (tB 30 p (tB 33 p (tB 36 p (tB 37 p (tL 37 p .ireturn 0) (tL 36 p (.iconst 1) 0)) (tL 33 p (.invokevirtual 121) 7)) (tB 31 p (tB 32 p (tL 32 p (.aload_n 0) 0) (tL 31 p .iastore 0)) (tL 30 p (.iconst 0) 0))) (tB 25 p (tB 26 p (tB 29 p (tL 29 p (.iload_n 1) 0) (tL 26 p (.getfield 31) 7)) (tL 25 p (.aload_n 0) 0)) (tB 21 p (tB 22 p (tL 22 p (.invokevirtual 117) 6) (tL 21 p (.iconst 0) 0)) (tL 20 p (.iconst 0) 0)))) (tB 12 p (tB 17 p (tB 18 p (tB 19 p (tL 19 p (.iconst 0) 0) (tL 18 p (.iload_n 1) 0)) (tL 17 p (.aload_n 0) 0)) (tB 15 p (tB 16 p (tL 16 p .ireturn 0) (tL 15 p (.iconst 0) 0)) (tL 12 p (.ifCond .ne 5) 17))) (tB 7 p (tB 8 p (tB 9 p (tL 9 p (.invokevirtual 124) 4) (tL 8 p (.iload_n 1) 0)) (tL 7 p (.aload_n 0) 0)) (tB 1 p (tB 4 p (tL 4 p (.ifCond .ne 11) 15) (tL 1 p (.getfield 104) 31)) (tL 0 p (.aload_n 0) 0)))))
set_option maxHeartbeats 4000000 in
def cd12 (p : Nat) : Option (Instr × Nat) := (tB 61 p (tB 94 p (tB 108 p (tB 113 p (tB 118 p (tB 119 p (tB 120 p (tL 120 p .ireturn 0) (tL 119 p (.iconst (-1)) 0)) (tL 118 p .ireturn 0)) (tB 116 p (tB 117 p (tL 117 p .iaload 0) (tL 116 p (.iload_n 1) 0)) (tL 113 p (.getfield 31) 7))) (tB 110 p (tB 111 p (tB 112 p (tL 112 p (.aload_n 0) 0) (tL 111 p .iastore 0)) (tL 110 p .iadd 0)) (tB 109 p (tL 109 p (.iconst 1) 0) (tL 108 p .iaload 0)))) (tB 101 p (tB 103 p (tB 106 p (tB 107 p (tL 107 p .dup2 0) (tL 106 p (.iload_n 1) 0)) (tL 103 p (.getfield 37) 9)) (tB 102 p (tL 102 p (.aload_n 0) 0) (tL 101 p .ireturn 0))) (tB 96 p (tB 99 p (tB 100 p (tL 100 p .iaload 0) (tL 99 p (.iload_n 1) 0)) (tL 96 p (.getfield 28) 6)) (tB 95 p (tL 95 p (.aload_n 0) 0) (tL 94 p .iastore 0))))) (tB 77 p (tB 86 p (tB 91 p (tB 92 p (tB 93 p (tL 93 p .iadd 0) (tL 92 p (.iconst 1) 0)) (tL 91 p .iaload 0)) (tB 89 p (tB 90 p (tL 90 p .dup2 0) (tL 89 p (.iload_n 1) 0)) (tL 86 p (.getfield 34) 8))) (tB 79 p (tB 82 p (tB 85 p (tL 85 p (.aload_n 0) 0) (tL 82 p (.ifCond .eq 20) 102)) (tL 79 p (.invokevirtual 153) 34)) (tB 78 p (tL 78 p .iaload 0) (tL 77 p (.iload_n 1) 0)))) (tB 68 p (tB 72 p (tB 73 p (tB 74 p (tL 74 p (.getfield 25) 5) (tL 73 p (.aload_n 0) 0)) (tL 72 p (.aload_n 0) 0)) (tB 69 p (tL 69 p (.if_icmp .ne 50) 119) (tL 68 p (.iconst 2) 0))) (tB 65 p (tB 66 p (tB 67 p (tL 67 p (.iload_n 2) 0) (tL 66 p .ireturn 0)) (tL 65 p .iaload 0)) (tB 64 p (tL 64 p (.iload_n 1) 0) (tL 61 p (.getfield 28) 6)))))) (tB 30 p (tB 46 p (tB 55 p (tB 58 p (tB 59 p (tB 60 p (tL 60 p (.aload_n 0) 0) (tL 59 p .iastore 0)) (tL 58 p .iadd 0)) (tB 56 p (tB 57 p (tL 57 p (.iconst 1) 0) (tL 56 p .iaload 0)) (tL 55 p .dup2 0))) (tB 50 p (tB 51 p (tB 54 p (tL 54 p (.iload_n 1) 0) (tL 51 p (.getfield 34) 8)) (tL 50 p (.aload_n 0) 0)) (tB 47 p (tL 47 p (.if_icmp .ne 20) 67) (tL 46 p (.iconst 1) 0)))) (tB 39 p (tB 43 p (tB 44 p (tB 45 p (tL 45 p (.iload_n 2) 0) (tL 44 p (.istore_n 2) 0)) (tL 43 p .iaload 0)) (tB 42 p (tL 42 p (.iload_n 1) 0) (tL 39 p (.getfield 22) 4))) (tB 34 p (tB 35 p (tB 38 p (tL 38 p (.aload_n 0) 0) (tL 35 p (.invokevirtual 150) 13)) (tL 34 p .iaload 0)) (tB 33 p (tL 33 p (.iload_n 1) 0) (tL 30 p (.getfield 19) 3))))) (tB 16 p (tB 23 p (tB 27 p (tB 28 p (tB 29 p (tL 29 p (.aload_n 0) 0) (tL 28 p .iaload 0)) (tL 27 p (.iload_n 1) 0)) (tB 24 p (tL 24 p (.getfield 16) 2) (tL 23 p (.aload_n 0) 0))) (tB 18 p (tB 21 p (tB 22 p (tL 22 p .iaload 0) (tL 21 p (.iload_n 1) 0)) (tL 18 p (.getfield 13) 1)) (tB 17 p (tL 17 p (.aload_n 0) 0) (tL 16 p .iaload 0)))) (tB 9 p (tB 11 p (tB 12 p (tB 15 p (tL 15 p (.iload_n 1) 0) (tL 12 p (.getfield 7) 0)) (tL 11 p (.aload_n 0) 0)) (tB 10 p (tL 10 p (.aload_n 0) 0) (tL 9 p .ireturn 0))) (tB 2 p (tB 5 p (tB 8 p (tL 8 p (.iconst (-1)) 0) (tL 5 p (.ifCond .ne 5) 10)) (tL 2 p (.invokevirtual 124) 4)) (tB 1 p (tL 1 p (.iload_n 1) 0) (tL 0 p (.aload_n 0) 0)))))))
set_option maxHeartbeats 4000000 in
def cd13 (p : Nat) : Option (Instr × Nat) := (tB 100 p (tB 149 p (tB 178 p (tB 191 p (tB 197 p (tB 199 p (tB 202 p (tL 202 p .return_ 0) (tL 199 p (.putfield 108) 32)) (tB 198 p (tL 198 p .iadd 0) (tL 197 p (.iconst 1) 0))) (tB 193 p (tB 194 p (tL 194 p (.getfield 108) 32) (tL 193 p .dup 0)) (tB 192 p (tL 192 p (.aload_n 0) 0) (tL 191 p .iastore 0)))) (tB 185 p (tB 189 p (tB 190 p (tL 190 p .iaload 0) (tL 189 p (.iload_n 2) 0)) (tB 186 p (tL 186 p (.getfield 40) 10) (tL 185 p (.aload_n 0) 0))) (tB 181 p (tB 182 p (tL 182 p (.getfield 108) 32) (tL 181 p (.aload_n 0) 0)) (tL 178 p (.getfield 43) 11)))) (tB 161 p (tB 169 p (tB 174 p (tB 177 p (tL 177 p (.aload_n 0) 0) (tL 174 p (.if_icmp .ge 18) 192)) (tB 172 p (tL 172 p (.bipush 16) 0) (tL 169 p (.getfield 108) 32))) (tB 165 p (tB 168 p (tL 168 p (.aload_n 0) 0) (tL 165 p (.ifCond .lt 27) 192)) (tB 162 p (tL 162 p (.getfield 108) 32) (tL 161 p (.aload_n 0) 0)))) (tB 152 p (tB 156 p (tB 158 p (tL 158 p (.if_icmp .ne 44) 202) (tL 156 p (.bipush 7) 0)) (tB 155 p (tL 155 p (.iload_n 1) 0) (tL 152 p (.goto 50) 202))) (tB 150 p (tB 151 p (tL 151 p .iastore 0) (tL 150 p .ishr 0)) (tL 149 p (.iconst 1) 0))))) (tB 125 p (tB 135 p (tB 143 p (tB 147 p (tB 148 p (tL 148 p .iaload 0) (tL 147 p (.iload_n 2) 0)) (tB 144 p (tL 144 p (.getfield 40) 10) (tL 143 p (.aload_n 0) 0))) (tB 139 p (tB 142 p (tL 142 p (.iload_n 2) 0) (tL 139 p (.getfield 40) 10)) (tB 138 p (tL 138 p (.aload_n 0) 0) (tL 135 p (.if_icmp .ne 20) 155)))) (tB 128 p (tB 132 p (tB 133 p (tL 133 p (.bipush 6) 0) (tL 132 p (.iload_n 1) 0)) (tB 129 p (tL 129 p (.goto 73) 202) (tL 128 p .iastore 0))) (tB 126 p (tB 127 p (tL 127 p .isub 0) (tL 126 p .iaload 0)) (tL 125 p (.iload_n 3) 0)))) (tB 111 p (tB 119 p (tB 121 p (tB 122 p (tL 122 p (.getfield 40) 10) (tL 121 p (.aload_n 0) 0)) (tB 120 p (tL 120 p .iaload 0) (tL 119 p (.iload_n 2) 0))) (tB 115 p (tB 116 p (tL 116 p (.getfield 40) 10) (tL 115 p (.aload_n 0) 0)) (tB 114 p (tL 114 p (.iload_n 2) 0) (tL 111 p (.getfield 40) 10)))) (tB 105 p (tB 107 p (tB 110 p (tL 110 p (.aload_n 0) 0) (tL 107 p (.if_icmp .ne 25) 132)) (tB 106 p (tL 106 p (.iconst 5) 0) (tL 105 p (.iload_n 1) 0))) (tB 101 p (tB 102 p (tL 102 p (.goto 100) 202) (tL 101 p .iastore 0)) (tL 100 p .iadd 0)))))) (tB 51 p (tB 75 p (tB 88 p (tB 94 p (tB 98 p (tB 99 p (tL 99 p .iaload 0) (tL 98 p (.iload_n 3) 0)) (tB 95 p (tL 95 p (.getfield 40) 10) (tL 94 p (.aload_n 0) 0))) (tB 92 p (tB 93 p (tL 93 p .iaload 0) (tL 92 p (.iload_n 2) 0)) (tB 89 p (tL 89 p (.getfield 40) 10) (tL 88 p (.aload_n 0) 0)))) (tB 80 p (tB 84 p (tB 87 p (tL 87 p (.iload_n 2) 0) (tL 84 p (.getfield 40) 10)) (tB 83 p (tL 83 p (.aload_n 0) 0) (tL 80 p (.if_icmp .ne 25) 105))) (tB 78 p (tB 79 p (tL 79 p (.iconst 4) 0) (tL 78 p (.iload_n 1) 0)) (tL 75 p (.goto 127) 202)))) (tB 64 p (tB 70 p (tB 73 p (tB 74 p (tL 74 p .iastore 0) (tL 73 p .iadd 0)) (tB 71 p (tL 71 p (.iload 4) 0) (tL 70 p .iaload 0))) (tB 66 p (tB 69 p (tL 69 p (.iload_n 2) 0) (tL 66 p (.getfield 40) 10)) (tB 65 p (tL 65 p (.aload_n 0) 0) (tL 64 p (.iload_n 2) 0)))) (tB 56 p (tB 60 p (tB 61 p (tL 61 p (.getfield 40) 10) (tL 60 p (.aload_n 0) 0)) (tB 57 p (tL 57 p (.if_icmp .ne 21) 78) (tL 56 p (.iconst 3) 0))) (tB 52 p (tB 55 p (tL 55 p (.iload_n 1) 0) (tL 52 p (.goto 150) 202)) (tL 51 p .iastore 0))))) (tB 25 p (tB 37 p (tB 45 p (tB 49 p (tB 50 p (tL 50 p .iaload 0) (tL 49 p (.iload_n 3) 0)) (tB 46 p (tL 46 p (.getfield 40) 10) (tL 45 p (.aload_n 0) 0))) (tB 41 p (tB 44 p (tL 44 p (.iload_n 2) 0) (tL 41 p (.getfield 40) 10)) (tB 40 p (tL 40 p (.aload_n 0) 0) (tL 37 p (.if_icmp .ne 18) 55)))) (tB 31 p (tB 35 p (tB 36 p (tL 36 p (.iconst 2) 0) (tL 35 p (.iload_n 1) 0)) (tB 32 p (tL 32 p (.goto 170) 202) (tL 31 p .iastore 0))) (tB 28 p (tB 29 p (tL 29 p (.iload 4) 0) (tL 28 p (.iload_n 2) 0)) (tL 25 p (.getfield 40) 10)))) (tB 13 p (tB 19 p (tB 21 p (tB 24 p (tL 24 p (.aload_n 0) 0) (tL 21 p (.if_icmp .ne 14) 35)) (tB 20 p (tL 20 p (.iconst 1) 0) (tL 19 p (.iload_n 1) 0))) (tB 15 p (tB 18 p (tL 18 p .return_ 0) (tL 15 p (.if_icmp .le 4) 19)) (tB 14 p (tL 14 p (.iconst 3) 0) (tL 13 p (.iload_n 3) 0)))) (tB 5 p (tB 9 p (tB 10 p (tL 10 p (.ifCond .lt 8) 18) (tL 9 p (.iload_n 3) 0)) (tB 6 p (tL 6 p (.if_icmp .gt 12) 18) (tL 5 p (.iconst 3) 0))) (tB 1 p (tB 4 p (tL 4 p (.iload_n 2) 0) (tL 1 p (.ifCond .lt 17) 18)) (tL 0 p (.iload_n 2) 0)))))))
set_option maxHeartbeats 4000000 in
def cd14 (p : Nat) : Option (Instr × Nat) := (tB 124 p (tB 181 p (tB 211 p (tB 227 p (tB 235 p (tB 239 p (tB 242 p (tB 243 p (tL 243 p .ireturn 0) (tL 242 p (.iconst 0) 0)) (tL 239 p (.goto 4) 243)) (tB 238 p (tL 238 p (.iconst 1) 0) (tL 235 p (.ifCond .eq 7) 242))) (tB 231 p (tB 232 p (tL 232 p (.invokevirtual 45) 15) (tL 231 p (.aload_n 0) 0)) (tB 228 p (tL 228 p (.ifCond .ne 14) 242) (tL 227 p .lcmp 0)))) (tB 218 p (tB 222 p (tB 225 p (tL 225 p (.lload 7) 0) (tL 222 p (.invokestatic 56) 22)) (tB 221 p (tL 221 p (.aload_n 0) 0) (tL 218 p (.ifCond .ne 24) 242))) (tB 215 p (tB 217 p (tL 217 p .lcmp 0) (tL 215 p (.lload 5) 0)) (tB 212 p (tL 212 p (.invokestatic 52) 16) (tL 211 p (.aload_n 0) 0))))) (tB 194 p (tB 201 p (tB 206 p (tB 209 p (tB 210 p (tL 210 p .ireturn 0) (tL 209 p (.iconst 0) 0)) (tL 206 p (.if_icmp .eq 5) 211)) (tB 204 p (tL 204 p (.iload 10) 0) (tL 201 p (.invokevirtual 59) 24))) (tB 198 p (tB 199 p (tL 199 p (.bipush 6) 0) (tL 198 p (.iconst 0) 0)) (tB 197 p (tL 197 p (.aload_n 0) 0) (tL 194 p (.if_icmp .ne 15) 209)))) (tB 187 p (tB 189 p (tB 192 p (tL 192 p (.iload 9) 0) (tL 189 p (.invokevirtual 59) 24)) (tB 188 p (tL 188 p (.iconst 4) 0) (tL 187 p (.iconst 0) 0))) (tB 185 p (tB 186 p (tL 186 p (.aload_n 0) 0) (tL 185 p .ireturn 0)) (tB 184 p (tL 184 p (.iconst 0) 0) (tL 181 p (.if_icmp .eq 5) 186)))))) (tB 154 p (tB 166 p (tB 170 p (tB 176 p (tB 177 p (tB 180 p (tL 180 p (.iload_n 2) 0) (tL 177 p (.invokevirtual 12) 2)) (tL 176 p (.aload_n 0) 0)) (tB 173 p (tL 173 p (.ifCond .ne 11) 184) (tL 170 p (.invokevirtual 20) 3))) (tB 168 p (tB 169 p (tL 169 p (.iconst 0) 0) (tL 168 p (.iconst 0) 0)) (tB 167 p (tL 167 p (.aload_n 0) 0) (tL 166 p .ireturn 0)))) (tB 158 p (tB 162 p (tB 165 p (tL 165 p (.iconst 0) 0) (tL 162 p (.if_icmp .eq 5) 167)) (tB 161 p (tL 161 p (.iconst (-1)) 0) (tL 158 p (.invokevirtual 16) 5))) (tB 156 p (tB 157 p (tL 157 p (.iconst 0) 0) (tL 156 p (.iconst 0) 0)) (tB 155 p (tL 155 p (.iconst 0) 0) (tL 154 p (.iconst 0) 0))))) (tB 140 p (tB 146 p (tB 150 p (tB 153 p (tL 153 p (.aload_n 0) 0) (tL 150 p (.ifCond .ne 15) 165)) (tB 147 p (tL 147 p (.invokevirtual 28) 11) (tL 146 p (.iconst 0) 0))) (tB 144 p (tB 145 p (tL 145 p (.aload_n 0) 0) (tL 144 p .ireturn 0)) (tB 143 p (tL 143 p (.iconst 0) 0) (tL 140 p (.ifCond .eq 5) 145)))) (tB 133 p (tB 137 p (tB 139 p (tL 139 p .lcmp 0) (tL 137 p (.lload 7) 0)) (tB 134 p (tL 134 p (.invokestatic 56) 22) (tL 133 p (.aload_n 0) 0))) (tB 129 p (tB 130 p (tL 130 p (.ifCond .ne 13) 143) (tL 129 p .lcmp 0)) (tB 127 p (tL 127 p (.lload 5) 0) (tL 124 p (.invokestatic 52) 16))))))) (tB 61 p (tB 93 p (tB 108 p (tB 114 p (tB 118 p (tB 120 p (tB 123 p (tL 123 p (.aload_n 0) 0) (tL 120 p (.if_icmp .ne 23) 143)) (tL 118 p (.iload 4) 0)) (tB 116 p (tL 116 p (.iload 11) 0) (tL 114 p (.istore 11) 0))) (tB 110 p (tB 111 p (tL 111 p (.invokevirtual 41) 8) (tL 110 p (.iload_n 1) 0)) (tB 109 p (tL 109 p (.aload_n 0) 0) (tL 108 p .ireturn 0)))) (tB 101 p (tB 104 p (tB 107 p (tL 107 p (.iconst 0) 0) (tL 104 p (.ifCond .eq 5) 109)) (tB 103 p (tL 103 p .lcmp 0) (tL 101 p (.lload 5) 0))) (tB 97 p (tB 98 p (tL 98 p (.invokestatic 52) 16) (tL 97 p (.aload_n 0) 0)) (tB 94 p (tL 94 p (.ifCond .ne 13) 107) (tL 93 p .lcmp 0))))) (tB 75 p (tB 85 p (tB 87 p (tB 88 p (tB 91 p (tL 91 p (.lload 7) 0) (tL 88 p (.invokestatic 56) 22)) (tL 87 p (.aload_n 0) 0)) (tB 86 p (tL 86 p .ireturn 0) (tL 85 p (.iconst 0) 0))) (tB 79 p (tB 82 p (tL 82 p (.ifCond .ne 5) 87) (tL 79 p (.invokevirtual 45) 15)) (tB 78 p (tL 78 p (.aload_n 0) 0) (tL 75 p (.if_icmp .eq 10) 85)))) (tB 68 p (tB 71 p (tB 74 p (tL 74 p (.iload_n 3) 0) (tL 71 p (.invokevirtual 49) 25)) (tB 70 p (tL 70 p (.aload_n 0) 0) (tL 68 p (.istore 10) 0))) (tB 63 p (tB 65 p (tL 65 p (.invokevirtual 59) 24) (tL 63 p (.bipush 6) 0)) (tB 62 p (tL 62 p (.iconst 0) 0) (tL 61 p (.aload_n 0) 0)))))) (tB 32 p (tB 45 p (tB 53 p (tB 55 p (tB 56 p (tB 59 p (tL 59 p (.istore 9) 0) (tL 56 p (.invokevirtual 59) 24)) (tL 55 p (.iconst 4) 0)) (tB 54 p (tL 54 p (.iconst 0) 0) (tL 53 p (.aload_n 0) 0))) (tB 48 p (tB 51 p (tL 51 p (.lstore 7) 0) (tL 48 p (.invokestatic 56) 22)) (tB 47 p (tL 47 p (.aload_n 0) 0) (tL 45 p (.lstore 5) 0)))) (tB 36 p (tB 41 p (tB 42 p (tL 42 p (.invokestatic 52) 16) (tL 41 p (.aload_n 0) 0)) (tB 39 p (tL 39 p (.istore 4) 0) (tL 36 p (.invokevirtual 41) 8))) (tB 34 p (tB 35 p (tL 35 p (.iload_n 1) 0) (tL 34 p (.aload_n 0) 0)) (tB 33 p (tL 33 p .ireturn 0) (tL 32 p (.iconst 0) 0))))) (tB 14 p (tB 22 p (tB 28 p (tB 29 p (tL 29 p (.goto 4) 33) (tL 28 p (.iconst 1) 0)) (tB 25 p (tL 25 p (.ifCond .ne 7) 32) (tL 22 p (.invokevirtual 45) 15))) (tB 18 p (tB 21 p (tL 21 p (.aload_n 0) 0) (tL 18 p (.ifCond .ne 14) 32)) (tB 15 p (tL 15 p (.invokevirtual 49) 25) (tL 14 p (.aload_n 0) 0)))) (tB 6 p (tB 10 p (tB 11 p (tL 11 p (.ifCond .ne 23) 34) (tL 10 p (.iload_n 2) 0)) (tB 9 p (tL 9 p (.istore_n 3) 0) (tL 6 p (.invokevirtual 45) 15))) (tB 4 p (tB 5 p (tL 5 p (.aload_n 0) 0) (tL 4 p (.istore_n 2) 0)) (tB 1 p (tL 1 p (.invokevirtual 12) 2) (tL 0 p (.aload_n 0) 0))))))))
set_option maxHeartbeats 4000000 in
def cd15 (p : Nat) : Option (Instr × Nat) := (tB 1 p (tB 4 p (tL 4 p .ireturn 0) (tL 1 p (.getfield 104) 31)) (tL 0 p (.aload_n 0) 0))
set_option maxHeartbeats 4000000 in
def cd16 (p : Nat) : Option (Instr × Nat) := (tB 41 p (tB 61 p (tB 74 p (tB 77 p (tB 83 p (tB 84 p (tL 84 p .lreturn 0) (tL 83 p (.lload_n 1) 0)) (tB 80 p (tL 80 p (.goto (-22)) 58) (tL 77 p (.iinc 3 1) 0))) (tB 75 p (tB 76 p (tL 76 p (.lstore_n 1) 0) (tL 75 p .ladd 0)) (tL 74 p .i2l 0))) (tB 68 p (tB 70 p (tB 71 p (tL 71 p (.invokevirtual 77) 21) (tL 70 p (.iload_n 3) 0)) (tB 69 p (tL 69 p (.aload_n 0) 0) (tL 68 p .lmul 0))) (tB 64 p (tB 65 p (tL 65 p (.ldc2_w 66) 0) (tL 64 p (.lload_n 1) 0)) (tL 61 p (.if_icmp .ge 22) 83)))) (tB 49 p (tB 56 p (tB 58 p (tB 59 p (tL 59 p (.bipush 16) 0) (tL 58 p (.iload_n 3) 0)) (tB 57 p (tL 57 p (.istore_n 3) 0) (tL 56 p (.iconst 0) 0))) (tB 50 p (tB 53 p (tL 53 p (.goto (-21)) 32) (tL 50 p (.iinc 3 1) 0)) (tL 49 p (.lstore_n 1) 0))) (tB 44 p (tB 47 p (tB 48 p (tL 48 p .ladd 0) (tL 47 p .i2l 0)) (tL 44 p (.invokevirtual 74) 20)) (tB 42 p (tB 43 p (tL 43 p (.iload_n 3) 0) (tL 42 p (.aload_n 0) 0)) (tL 41 p .lmul 0))))) (tB 19 p (tB 30 p (tB 33 p (tB 37 p (tB 38 p (tL 38 p (.ldc2_w 66) 0) (tL 37 p (.lload_n 1) 0)) (tB 34 p (tL 34 p (.if_icmp .ge 22) 56) (tL 33 p (.iconst 4) 0))) (tB 31 p (tB 32 p (tL 32 p (.iload_n 3) 0) (tL 31 p (.istore_n 3) 0)) (tL 30 p (.iconst 0) 0))) (tB 24 p (tB 28 p (tB 29 p (tL 29 p (.lstore_n 1) 0) (tL 28 p .ladd 0)) (tB 27 p (tL 27 p .i2l 0) (tL 24 p (.invokevirtual 71) 19))) (tB 22 p (tB 23 p (tL 23 p (.aload_n 0) 0) (tL 22 p .lmul 0)) (tL 19 p (.ldc2_w 66) 0)))) (tB 10 p (tB 15 p (tB 17 p (tB 18 p (tL 18 p (.lload_n 1) 0) (tL 17 p (.lstore_n 1) 0)) (tB 16 p (tL 16 p .ladd 0) (tL 15 p .i2l 0))) (tB 11 p (tB 12 p (tL 12 p (.invokevirtual 68) 18) (tL 11 p (.aload_n 0) 0)) (tL 10 p .lmul 0))) (tB 5 p (tB 6 p (tB 7 p (tL 7 p (.ldc2_w 66) 0) (tL 6 p (.lload_n 1) 0)) (tL 5 p (.lstore_n 1) 0)) (tB 1 p (tB 4 p (tL 4 p .i2l 0) (tL 1 p (.invokevirtual 63) 17)) (tL 0 p (.aload_n 0) 0))))))
set_option maxHeartbeats 4000000 in
def cd17 (p : Nat) : Option (Instr × Nat) := (tB 1 p (tB 4 p (tL 4 p .ireturn 0) (tL 1 p (.getfield 114) 34)) (tL 0 p (.aload_n 0) 0))
set_option maxHeartbeats 4000000 in
def cd18 (p : Nat) : Option (Instr × Nat) := (tB 1 p (tB 4 p (tL 4 p .ireturn 0) (tL 1 p (.getfield 111) 33)) (tL 0 p (.aload_n 0) 0))
set_option maxHeartbeats 4000000 in
def cd19 (p : Nat) : Option (Instr × Nat) := (tB 1 p (tB 4 p (tL 4 p .ireturn 0) (tL 1 p (.getfield 108) 32)) (tL 0 p (.aload_n 0) 0))
set_option maxHeartbeats 4000000 in
def cd20 (p : Nat) : Option (Instr × Nat) := (tB 10 p (tB 15 p (tB 16 p (tB 17 p (tL 17 p .ireturn 0) (tL 16 p .iaload 0)) (tL 15 p (.iload_n 1) 0)) (tB 11 p (tB 12 p (tL 12 p (.getfield 40) 10) (tL 11 p (.aload_n 0) 0)) (tL 10 p .ireturn 0))) (tB 5 p (tB 6 p (tB 9 p (tL 9 p (.iconst 0) 0) (tL 6 p (.if_icmp .le 5) 11)) (tL 5 p (.iconst 3) 0)) (tB 1 p (tB 4 p (tL 4 p (.iload_n 1) 0) (tL 1 p (.ifCond .lt 8) 9)) (tL 0 p (.iload_n 1) 0))))
set_option maxHeartbeats 4000000 in
def cd21 (p : Nat) : Option (Instr × Nat) := (tB 15 p (tB 21 p (tB 25 p (tB 26 p (tL 26 p .ireturn 0) (tL 25 p .iaload 0)) (tB 24 p (tL 24 p (.iload_n 1) 0) (tL 21 p (.getfield 43) 11))) (tB 19 p (tB 20 p (tL 20 p (.aload_n 0) 0) (tL 19 p .ireturn 0)) (tB 18 p (tL 18 p (.iconst 0) 0) (tL 15 p (.if_icmp .lt 5) 20)))) (tB 6 p (tB 12 p (tB 13 p (tL 13 p (.bipush 16) 0) (tL 12 p (.iload_n 1) 0)) (tB 9 p (tL 9 p (.if_icmp .ge 9) 18) (tL 6 p (.getfield 108) 32))) (tB 4 p (tB 5 p (tL 5 p (.aload_n 0) 0) (tL 4 p (.iload_n 1) 0)) (tB 1 p (tL 1 p (.ifCond .lt 17) 18) (tL 0 p (.iload_n 1) 0)))))
set_option maxHeartbeats 4000000 in
def cd22 (p : Nat) : Option (Instr × Nat) := (tB 23 p (tB 33 p (tB 40 p (tB 46 p (tB 47 p (tL 47 p .lreturn 0) (tL 46 p (.lload_n 1) 0)) (tB 43 p (tL 43 p (.goto (-39)) 4) (tL 40 p (.iinc 3 1) 0))) (tB 34 p (tB 37 p (tL 37 p (.goto (-24)) 13) (tL 34 p (.iinc 4 1) 0)) (tL 33 p (.lstore_n 1) 0))) (tB 26 p (tB 31 p (tB 32 p (tL 32 p .ladd 0) (tL 31 p .i2l 0)) (tB 28 p (tL 28 p (.invokevirtual 80) 23) (tL 26 p (.iload 4) 0))) (tB 24 p (tB 25 p (tL 25 p (.iload_n 3) 0) (tL 24 p (.aload_n 0) 0)) (tL 23 p .lmul 0)))) (tB 10 p (tB 15 p (tB 19 p (tB 20 p (tL 20 p (.ldc2_w 66) 0) (tL 19 p (.lload_n 1) 0)) (tB 16 p (tL 16 p (.if_icmp .ge 24) 40) (tL 15 p (.iconst 2) 0))) (tB 11 p (tB 13 p (tL 13 p (.iload 4) 0) (tL 11 p (.istore 4) 0)) (tL 10 p (.iconst 0) 0))) (tB 3 p (tB 5 p (tB 7 p (tL 7 p (.if_icmp .ge 39) 46) (tL 5 p (.bipush 16) 0)) (tB 4 p (tL 4 p (.iload_n 3) 0) (tL 3 p (.istore_n 3) 0))) (tB 1 p (tB 2 p (tL 2 p (.iconst 0) 0) (tL 1 p (.lstore_n 1) 0)) (tL 0 p (.lconst 0) 0)))))
set_option maxHeartbeats 4000000 in
def cd23 (p : Nat) : Option (Instr × Nat) := (tB 19 p (tB 27 p (tB 32 p (tB 33 p (tB 34 p (tL 34 p .ireturn 0) (tL 33 p (.iconst 0) 0)) (tL 32 p .ireturn 0)) (tB 30 p (tB 31 p (tL 31 p .iaload 0) (tL 30 p (.iload_n 1) 0)) (tL 27 p (.getfield 37) 9))) (tB 22 p (tB 23 p (tB 26 p (tL 26 p (.aload_n 0) 0) (tL 23 p (.if_icmp .ne 10) 33)) (tL 22 p (.iconst 1) 0)) (tB 20 p (tB 21 p (tL 21 p (.iload_n 2) 0) (tL 20 p .ireturn 0)) (tL 19 p .iaload 0)))) (tB 9 p (tB 14 p (tB 15 p (tB 18 p (tL 18 p (.iload_n 1) 0) (tL 15 p (.getfield 34) 8)) (tL 14 p (.aload_n 0) 0)) (tB 10 p (tB 11 p (tL 11 p (.ifCond .ne 10) 21) (tL 10 p (.iload_n 2) 0)) (tL 9 p .ireturn 0))) (tB 2 p (tB 5 p (tB 8 p (tL 8 p (.iconst 0) 0) (tL 5 p (.ifCond .ne 5) 10)) (tL 2 p (.invokevirtual 124) 4)) (tB 1 p (tL 1 p (.iload_n 1) 0) (tL 0 p (.aload_n 0) 0)))))
set_option maxHeartbeats 4000000 in
def cd24 (p : Nat) : Option (Instr × Nat) := (tB 55 p (tB 81 p (tB 95 p (tB 104 p (tB 106 p (tB 107 p (tB 108 p (tL 108 p .ireturn 0) (tL 107 p (.iconst 0) 0)) (tL 106 p .ireturn 0)) (tB 105 p (tL 105 p .iaload 0) (tL 104 p (.iload_n 1) 0))) (tB 100 p (tB 101 p (tL 101 p (.getfield 31) 7) (tL 100 p (.aload_n 0) 0)) (tB 97 p (tL 97 p (.if_icmp .ne 10) 107) (tL 95 p (.bipush 7) 0)))) (tB 88 p (tB 92 p (tB 93 p (tB 94 p (tL 94 p (.iload_n 2) 0) (tL 93 p .ireturn 0)) (tL 92 p .iaload 0)) (tB 91 p (tL 91 p (.iload_n 1) 0) (tL 88 p (.getfield 28) 6))) (tB 84 p (tB 87 p (tL 87 p (.aload_n 0) 0) (tL 84 p (.if_icmp .ne 10) 94)) (tB 82 p (tL 82 p (.bipush 6) 0) (tL 81 p (.iload_n 2) 0))))) (tB 68 p (tB 74 p (tB 78 p (tB 79 p (tB 80 p (tL 80 p .ireturn 0) (tL 79 p .iaload 0)) (tL 78 p (.iload_n 1) 0)) (tB 75 p (tL 75 p (.getfield 25) 5) (tL 74 p (.aload_n 0) 0))) (tB 70 p (tB 71 p (tL 71 p (.if_icmp .ne 10) 81) (tL 70 p (.iconst 5) 0)) (tB 69 p (tL 69 p (.iload_n 2) 0) (tL 68 p .ireturn 0)))) (tB 59 p (tB 63 p (tB 66 p (tB 67 p (tL 67 p .iaload 0) (tL 66 p (.iload_n 1) 0)) (tL 63 p (.getfield 22) 4)) (tB 62 p (tL 62 p (.aload_n 0) 0) (tL 59 p (.if_icmp .ne 10) 69))) (tB 57 p (tB 58 p (tL 58 p (.iconst 4) 0) (tL 57 p (.iload_n 2) 0)) (tB 56 p (tL 56 p .ireturn 0) (tL 55 p .iaload 0)))))) (tB 27 p (tB 42 p (tB 46 p (tB 50 p (tB 51 p (tB 54 p (tL 54 p (.iload_n 1) 0) (tL 51 p (.getfield 19) 3)) (tL 50 p (.aload_n 0) 0)) (tB 47 p (tL 47 p (.if_icmp .ne 10) 57) (tL 46 p (.iconst 3) 0))) (tB 44 p (tB 45 p (tL 45 p (.iload_n 2) 0) (tL 44 p .ireturn 0)) (tB 43 p (tL 43 p .iaload 0) (tL 42 p (.iload_n 1) 0)))) (tB 33 p (tB 35 p (tB 38 p (tB 39 p (tL 39 p (.getfield 16) 2) (tL 38 p (.aload_n 0) 0)) (tL 35 p (.if_icmp .ne 10) 45)) (tB 34 p (tL 34 p (.iconst 2) 0) (tL 33 p (.iload_n 2) 0))) (tB 31 p (tB 32 p (tL 32 p .ireturn 0) (tL 31 p .iaload 0)) (tB 30 p (tL 30 p (.iload_n 1) 0) (tL 27 p (.getfield 13) 1))))) (tB 14 p (tB 20 p (tB 22 p (tB 23 p (tB 26 p (tL 26 p (.aload_n 0) 0) (tL 23 p (.if_icmp .ne 10) 33)) (tL 22 p (.iconst 1) 0)) (tB 21 p (tL 21 p (.iload_n 2) 0) (tL 20 p .ireturn 0))) (tB 18 p (tB 19 p (tL 19 p .iaload 0) (tL 18 p (.iload_n 1) 0)) (tB 15 p (tL 15 p (.getfield 7) 0) (tL 14 p (.aload_n 0) 0)))) (tB 8 p (tB 10 p (tB 11 p (tL 11 p (.ifCond .ne 10) 21) (tL 10 p (.iload_n 2) 0)) (tB 9 p (tL 9 p .ireturn 0) (tL 8 p (.iconst 0) 0))) (tB 2 p (tB 5 p (tL 5 p (.ifCond .ne 5) 10) (tL 2 p (.invokevirtual 124) 4)) (tB 1 p (tL 1 p (.iload_n 1) 0) (tL 0 p (.aload_n 0) 0)))))))
set_option maxHeartbeats 4000000 in
def cd25 (p : Nat) : Option (Instr × Nat) := (tB 21 p (tB 33 p (tB 38 p (tB 41 p (tB 42 p (tL 42 p .ireturn 0) (tL 41 p (.iconst 1) 0)) (tL 38 p (.putfield 104) 31)) (tB 36 p (tB 37 p (tL 37 p (.iconst 1) 0) (tL 36 p (.aload_n 0) 0)) (tL 33 p (.invokevirtual 147) 31))) (tB 28 p (tB 29 p (tB 32 p (tL 32 p (.aload_n 0) 0) (tL 29 p (.invokevirtual 144) 29)) (tL 28 p (.aload_n 0) 0)) (tB 24 p (tB 25 p (tL 25 p (.invokevirtual 141) 28) (tL 24 p (.aload_n 0) 0)) (tL 21 p (.invokevirtual 138) 27)))) (tB 11 p (tB 16 p (tB 17 p (tB 20 p (tL 20 p (.aload_n 0) 0) (tL 17 p (.invokevirtual 135) 26)) (tL 16 p (.aload_n 0) 0)) (tB 14 p (tB 15 p (tL 15 p .ireturn 0) (tL 14 p (.iconst 0) 0)) (tL 11 p (.ifCond .ne 5) 16))) (tB 4 p (tB 7 p (tB 8 p (tL 8 p (.getfield 101) 30) (tL 7 p (.aload_n 0) 0)) (tL 4 p (.ifCond .ne 10) 14)) (tB 1 p (tL 1 p (.getfield 104) 31) (tL 0 p (.aload_n 0) 0)))))
set_option maxHeartbeats 4000000 in
def cd26 (p : Nat) : Option (Instr × Nat) := (tB 54 p (tB 78 p (tB 90 p (tB 96 p (tB 100 p (tB 103 p (tB 106 p (tL 106 p .return_ 0) (tL 103 p (.goto (-75)) 28)) (tL 100 p (.iinc 1 1) 0)) (tB 97 p (tL 97 p (.invokevirtual 159) 35) (tL 96 p .iaload 0))) (tB 92 p (tB 95 p (tL 95 p (.iload_n 1) 0) (tL 92 p (.getfield 37) 9)) (tB 91 p (tL 91 p (.aload_n 0) 0) (tL 90 p .iaload 0)))) (tB 84 p (tB 86 p (tB 89 p (tL 89 p (.iload_n 1) 0) (tL 86 p (.getfield 31) 7)) (tB 85 p (tL 85 p (.aload_n 0) 0) (tL 84 p (.iconst 1) 0))) (tB 82 p (tB 83 p (tL 83 p (.iload_n 1) 0) (tL 82 p (.aload_n 0) 0)) (tB 79 p (tL 79 p (.if_icmp .ne 21) 100) (tL 78 p (.iconst 2) 0))))) (tB 66 p (tB 72 p (tB 74 p (tB 77 p (tL 77 p (.iload_n 2) 0) (tL 74 p (.invokevirtual 159) 35)) (tB 73 p (tL 73 p .iaload 0) (tL 72 p (.iload_n 1) 0))) (tB 68 p (tB 69 p (tL 69 p (.getfield 34) 8) (tL 68 p (.aload_n 0) 0)) (tB 67 p (tL 67 p .iaload 0) (tL 66 p (.iload_n 1) 0)))) (tB 60 p (tB 62 p (tB 63 p (tL 63 p (.getfield 28) 6) (tL 62 p (.aload_n 0) 0)) (tB 61 p (tL 61 p (.iconst 0) 0) (tL 60 p (.iload_n 1) 0))) (tB 56 p (tB 59 p (tL 59 p (.aload_n 0) 0) (tL 56 p (.if_icmp .ne 21) 77)) (tB 55 p (tL 55 p (.iconst 2) 0) (tL 54 p (.iload_n 2) 0)))))) (tB 27 p (tB 42 p (tB 48 p (tB 50 p (tB 51 p (tL 51 p (.if_icmp .eq 8) 59) (tL 50 p (.iconst 1) 0)) (tB 49 p (tL 49 p (.iload_n 2) 0) (tL 48 p (.istore_n 2) 0))) (tB 46 p (tB 47 p (tL 47 p .iaload 0) (tL 46 p (.iload_n 1) 0)) (tB 43 p (tL 43 p (.getfield 22) 4) (tL 42 p (.aload_n 0) 0)))) (tB 33 p (tB 37 p (tB 39 p (tL 39 p (.if_icmp .ge 67) 106) (tL 37 p (.bipush 16) 0)) (tB 36 p (tL 36 p (.iload_n 1) 0) (tL 33 p (.if_icmp .ge 73) 106))) (tB 29 p (tB 30 p (tL 30 p (.getfield 101) 30) (tL 29 p (.aload_n 0) 0)) (tB 28 p (tL 28 p (.iload_n 1) 0) (tL 27 p (.istore_n 1) 0))))) (tB 13 p (tB 19 p (tB 23 p (tB 26 p (tL 26 p (.iconst 0) 0) (tL 23 p (.goto (-16)) 7)) (tB 20 p (tL 20 p (.iinc 1 1) 0) (tL 19 p .iastore 0))) (tB 17 p (tB 18 p (tL 18 p (.iconst 0) 0) (tL 17 p (.iload_n 1) 0)) (tB 14 p (tL 14 p (.getfield 61) 17) (tL 13 p (.aload_n 0) 0)))) (tB 6 p (tB 8 p (tB 10 p (tL 10 p (.if_icmp .ge 16) 26) (tL 8 p (.bipush 16) 0)) (tB 7 p (tL 7 p (.iload_n 1) 0) (tL 6 p (.istore_n 1) 0))) (tB 2 p (tB 5 p (tL 5 p (.iconst 0) 0) (tL 2 p (.putfield 156) 35)) (tB 1 p (tL 1 p (.iconst 0) 0) (tL 0 p (.aload_n 0) 0)))))))
set_option maxHeartbeats 4000000 in
def cd27 (p : Nat) : Option (Instr × Nat) := (tB 63 p (tB 94 p (tB 111 p (tB 119 p (tB 121 p (tB 124 p (tB 127 p (tL 127 p .return_ 0) (tL 124 p (.goto (-122)) 2)) (tL 121 p (.iinc 1 1) 0)) (tB 120 p (tL 120 p .iastore 0) (tL 119 p (.iload_n 3) 0))) (tB 115 p (tB 117 p (tB 118 p (tL 118 p .iadd 0) (tL 117 p (.iconst 1) 0)) (tL 115 p (.iload 4) 0)) (tB 112 p (tL 112 p (.getfield 49) 13) (tL 111 p (.aload_n 0) 0)))) (tB 105 p (tB 108 p (tB 109 p (tB 110 p (tL 110 p .iastore 0) (tL 109 p (.iload_n 2) 0)) (tL 108 p .iadd 0)) (tB 107 p (tL 107 p (.iconst 1) 0) (tL 105 p (.iload 4) 0))) (tB 98 p (tB 101 p (tB 102 p (tL 102 p (.getfield 46) 12) (tL 101 p (.aload_n 0) 0)) (tL 98 p (.goto (-63)) 35)) (tB 95 p (tL 95 p (.iinc 4 (-1)) 0) (tL 94 p .iastore 0))))) (tB 78 p (tB 86 p (tB 88 p (tB 91 p (tB 93 p (tL 93 p .iaload 0) (tL 91 p (.iload 4) 0)) (tL 88 p (.getfield 49) 13)) (tB 87 p (tL 87 p (.aload_n 0) 0) (tL 86 p .iadd 0))) (tB 80 p (tB 83 p (tB 85 p (tL 85 p (.iconst 1) 0) (tL 83 p (.iload 4) 0)) (tL 80 p (.getfield 49) 13)) (tB 79 p (tL 79 p (.aload_n 0) 0) (tL 78 p .iastore 0)))) (tB 70 p (tB 72 p (tB 75 p (tB 77 p (tL 77 p .iaload 0) (tL 75 p (.iload 4) 0)) (tL 72 p (.getfield 46) 12)) (tB 71 p (tL 71 p (.aload_n 0) 0) (tL 70 p .iadd 0))) (tB 67 p (tB 69 p (tL 69 p (.iconst 1) 0) (tL 67 p (.iload 4) 0)) (tB 64 p (tL 64 p (.getfield 46) 12) (tL 63 p (.aload_n 0) 0)))))) (tB 30 p (tB 43 p (tB 51 p (tB 56 p (tB 57 p (tB 60 p (tL 60 p (.ifCond .eq 41) 101) (tL 57 p (.invokevirtual 162) 36)) (tL 56 p .iaload 0)) (tB 54 p (tL 54 p (.iload 4) 0) (tL 51 p (.getfield 46) 12))) (tB 47 p (tB 49 p (tB 50 p (tL 50 p (.aload_n 0) 0) (tL 49 p .iaload 0)) (tL 47 p (.iload 4) 0)) (tB 44 p (tL 44 p (.getfield 49) 13) (tL 43 p (.aload_n 0) 0)))) (tB 35 p (tB 40 p (tB 41 p (tB 42 p (tL 42 p (.iload_n 2) 0) (tL 41 p (.iload_n 3) 0)) (tL 40 p (.aload_n 0) 0)) (tB 37 p (tL 37 p (.ifCond .lt 64) 101) (tL 35 p (.iload 4) 0))) (tB 32 p (tB 33 p (tL 33 p (.istore 4) 0) (tL 32 p .isub 0)) (tB 31 p (tL 31 p (.iconst 1) 0) (tL 30 p (.iload_n 1) 0))))) (tB 16 p (tB 23 p (tB 27 p (tB 28 p (tB 29 p (tL 29 p (.istore_n 3) 0) (tL 28 p .iaload 0)) (tL 27 p (.iload_n 1) 0)) (tB 24 p (tL 24 p (.getfield 49) 13) (tL 23 p (.aload_n 0) 0))) (tB 20 p (tB 21 p (tB 22 p (tL 22 p (.istore_n 2) 0) (tL 21 p .iaload 0)) (tL 20 p (.iload_n 1) 0)) (tB 17 p (tL 17 p (.getfield 46) 12) (tL 16 p (.aload_n 0) 0)))) (tB 4 p (tB 10 p (tB 11 p (tB 13 p (tL 13 p (.if_icmp .ge 114) 127) (tL 11 p (.bipush 32) 0)) (tL 10 p (.iload_n 1) 0)) (tB 7 p (tL 7 p (.if_icmp .ge 120) 127) (tL 4 p (.getfield 156) 35))) (tB 2 p (tB 3 p (tL 3 p (.aload_n 0) 0) (tL 2 p (.iload_n 1) 0)) (tB 1 p (tL 1 p (.istore_n 1) 0) (tL 0 p (.iconst 1) 0)))))))
set_option maxHeartbeats 4000000 in
def cd28 (p : Nat) : Option (Instr × Nat) := (tB 51 p (tB 72 p (tB 85 p (tB 91 p (tB 97 p (tB 100 p (tL 100 p .return_ 0) (tL 97 p (.goto (-60)) 37)) (tB 94 p (tL 94 p (.iinc 1 1) 0) (tL 91 p (.invokevirtual 166) 37))) (tB 88 p (tB 89 p (tL 89 p (.iload 4) 0) (tL 88 p (.iload_n 3) 0)) (tB 87 p (tL 87 p (.aload_n 0) 0) (tL 85 p (.istore 4) 0)))) (tB 79 p (tB 83 p (tB 84 p (tL 84 p .iaload 0) (tL 83 p (.iload_n 3) 0)) (tB 80 p (tL 80 p (.getfield 31) 7) (tL 79 p (.aload_n 0) 0))) (tB 74 p (tB 76 p (tL 76 p (.goto 11) 87) (tL 74 p (.istore 4) 0)) (tB 73 p (tL 73 p .iaload 0) (tL 72 p (.iload_n 3) 0))))) (tB 60 p (tB 64 p (tB 68 p (tB 69 p (tL 69 p (.getfield 28) 6) (tL 68 p (.aload_n 0) 0)) (tB 65 p (tL 65 p (.ifCond .ne 14) 79) (tL 64 p .iand 0))) (tB 62 p (tB 63 p (tL 63 p (.iconst 1) 0) (tL 62 p (.iload_n 2) 0)) (tB 61 p (tL 61 p (.istore_n 3) 0) (tL 60 p .ishr 0)))) (tB 56 p (tB 58 p (tB 59 p (tL 59 p (.iconst 1) 0) (tL 58 p (.iload_n 2) 0)) (tB 57 p (tL 57 p (.istore_n 2) 0) (tL 56 p .iaload 0))) (tB 52 p (tB 55 p (tL 55 p (.iload_n 1) 0) (tL 52 p (.getfield 46) 12)) (tL 51 p (.aload_n 0) 0))))) (tB 22 p (tB 36 p (tB 42 p (tB 46 p (tB 48 p (tL 48 p (.if_icmp .ge 52) 100) (tL 46 p (.bipush 32) 0)) (tB 45 p (tL 45 p (.iload_n 1) 0) (tL 42 p (.if_icmp .ge 58) 100))) (tB 38 p (tB 39 p (tL 39 p (.getfield 156) 35) (tL 38 p (.aload_n 0) 0)) (tB 37 p (tL 37 p (.iload_n 1) 0) (tL 36 p (.istore_n 1) 0)))) (tB 28 p (tB 32 p (tB 35 p (tL 35 p (.iconst 0) 0) (tL 32 p (.goto (-30)) 2)) (tB 29 p (tL 29 p (.iinc 1 1) 0) (tL 28 p .iastore 0))) (tB 26 p (tB 27 p (tL 27 p (.iload_n 1) 0) (tL 26 p (.iload_n 1) 0)) (tB 23 p (tL 23 p (.getfield 58) 16) (tL 22 p (.aload_n 0) 0))))) (tB 12 p (tB 16 p (tB 20 p (tB 21 p (tL 21 p .iastore 0) (tL 20 p (.iconst (-1)) 0)) (tB 19 p (tL 19 p (.iload_n 1) 0) (tL 16 p (.getfield 55) 15))) (tB 14 p (tB 15 p (tL 15 p (.aload_n 0) 0) (tL 14 p .iastore 0)) (tB 13 p (tL 13 p (.iconst (-1)) 0) (tL 12 p (.iload_n 1) 0)))) (tB 3 p (tB 8 p (tB 9 p (tL 9 p (.getfield 52) 14) (tL 8 p (.aload_n 0) 0)) (tB 5 p (tL 5 p (.if_icmp .ge 30) 35) (tL 3 p (.bipush 16) 0))) (tB 1 p (tB 2 p (tL 2 p (.iload_n 1) 0) (tL 1 p (.istore_n 1) 0)) (tL 0 p (.iconst 0) 0))))))
set_option maxHeartbeats 4000000 in
def cd29 (p : Nat) : Option (Instr × Nat) := (tB 65 p (tB 98 p (tB 116 p (tB 125 p (tB 129 p (tB 132 p (tB 135 p (tL 135 p .return_ 0) (tL 132 p (.goto (-102)) 30)) (tL 129 p (.iinc 2 1) 0)) (tB 128 p (tL 128 p (.istore_n 1) 0) (tL 125 p (.invokevirtual 170) 30))) (tB 122 p (tB 123 p (tB 124 p (tL 124 p (.iload_n 1) 0) (tL 123 p (.iload_n 3) 0)) (tL 122 p (.aload_n 0) 0)) (tB 119 p (tL 119 p (.goto 16) 135) (tL 116 p (.ifCond .ge 6) 122)))) (tB 106 p (tB 109 p (tB 112 p (tB 115 p (tL 115 p (.iload_n 3) 0) (tL 112 p (.goto (-63)) 49)) (tL 109 p (.iinc 4 1) 0)) (tB 108 p (tL 108 p (.istore_n 3) 0) (tL 106 p (.iload 4) 0))) (tB 102 p (tB 103 p (tL 103 p (.if_icmp .le 6) 109) (tL 102 p .iaload 0)) (tB 101 p (tL 101 p (.iload_n 3) 0) (tL 98 p (.getfield 61) 17))))) (tB 82 p (tB 90 p (tB 94 p (tB 96 p (tB 97 p (tL 97 p (.aload_n 0) 0) (tL 96 p .iaload 0)) (tL 94 p (.iload 4) 0)) (tB 91 p (tL 91 p (.getfield 61) 17) (tL 90 p (.aload_n 0) 0))) (tB 86 p (tB 87 p (tL 87 p (.ifCond .lt 19) 106) (tL 86 p (.iload_n 3) 0)) (tB 83 p (tL 83 p (.ifCond .ge 26) 109) (tL 82 p .iaload 0)))) (tB 72 p (tB 76 p (tB 77 p (tB 80 p (tL 80 p (.iload 4) 0) (tL 77 p (.getfield 64) 18)) (tL 76 p (.aload_n 0) 0)) (tB 73 p (tL 73 p (.if_icmp .ne 36) 109) (tL 72 p (.iconst (-1)) 0))) (tB 69 p (tB 71 p (tL 71 p .iaload 0) (tL 69 p (.iload 4) 0)) (tB 66 p (tL 66 p (.getfield 55) 15) (tL 65 p (.aload_n 0) 0)))))) (tB 29 p (tB 45 p (tB 52 p (tB 58 p (tB 60 p (tB 62 p (tL 62 p (.if_icmp .ge 53) 115) (tL 60 p (.bipush 16) 0)) (tL 58 p (.iload 4) 0)) (tB 55 p (tL 55 p (.if_icmp .ge 60) 115) (tL 52 p (.getfield 101) 30))) (tB 47 p (tB 49 p (tB 51 p (tL 51 p (.aload_n 0) 0) (tL 49 p (.iload 4) 0)) (tL 47 p (.istore 4) 0)) (tB 46 p (tL 46 p (.iconst 1) 0) (tL 45 p (.istore_n 3) 0)))) (tB 35 p (tB 39 p (tB 41 p (tB 44 p (tL 44 p (.iconst (-1)) 0) (tL 41 p (.if_icmp .ge 94) 135)) (tL 39 p (.bipush 16) 0)) (tB 38 p (tL 38 p (.iload_n 2) 0) (tL 35 p (.if_icmp .ge 100) 135))) (tB 31 p (tB 32 p (tL 32 p (.getfield 101) 30) (tL 31 p (.aload_n 0) 0)) (tB 30 p (tL 30 p (.iload_n 2) 0) (tL 29 p (.istore_n 2) 0))))) (tB 14 p (tB 22 p (tB 24 p (tB 27 p (tB 28 p (tL 28 p (.iconst 0) 0) (tL 27 p (.istore_n 1) 0)) (tL 24 p (.invokevirtual 170) 30)) (tB 23 p (tL 23 p (.iconst 0) 0) (tL 22 p (.iconst 0) 0))) (tB 18 p (tB 21 p (tL 21 p (.aload_n 0) 0) (tL 18 p (.goto (-16)) 2)) (tB 15 p (tL 15 p (.iinc 1 1) 0) (tL 14 p .iastore 0)))) (tB 5 p (tB 9 p (tB 12 p (tB 13 p (tL 13 p (.iconst (-1)) 0) (tL 12 p (.iload_n 1) 0)) (tL 9 p (.getfield 64) 18)) (tB 8 p (tL 8 p (.aload_n 0) 0) (tL 5 p (.if_icmp .ge 16) 21))) (tB 2 p (tB 3 p (tL 3 p (.bipush 16) 0) (tL 2 p (.iload_n 1) 0)) (tB 1 p (tL 1 p (.istore_n 1) 0) (tL 0 p (.iconst 0) 0)))))))
set_option maxHeartbeats 4000000 in
def cd30 (p : Nat) : Option (Instr × Nat) := (tB 31 p (tB 45 p (tB 52 p (tB 57 p (tB 60 p (tB 61 p (tL 61 p .ireturn 0) (tL 60 p (.iload_n 3) 0)) (tL 57 p (.goto (-49)) 8)) (tB 54 p (tL 54 p (.iinc 5 1) 0) (tL 52 p (.istore 4) 0))) (tB 49 p (tB 51 p (tL 51 p .iaload 0) (tL 49 p (.iload 4) 0)) (tB 46 p (tL 46 p (.getfield 52) 14) (tL 45 p (.aload_n 0) 0)))) (tB 38 p (tB 41 p (tB 42 p (tL 42 p (.iinc 3 1) 0) (tL 41 p .iastore 0)) (tB 40 p (tL 40 p (.iload_n 3) 0) (tL 38 p (.iload 4) 0))) (tB 34 p (tB 35 p (tL 35 p (.getfield 64) 18) (tL 34 p (.aload_n 0) 0)) (tB 33 p (tL 33 p .iastore 0) (tL 31 p (.iload 4) 0))))) (tB 12 p (tB 21 p (tB 26 p (tB 27 p (tB 30 p (tL 30 p (.iload_n 3) 0) (tL 27 p (.getfield 67) 19)) (tL 26 p (.aload_n 0) 0)) (tB 23 p (tL 23 p (.if_icmp .ge 37) 60) (tL 21 p (.bipush 16) 0))) (tB 17 p (tB 20 p (tL 20 p (.iload_n 3) 0) (tL 17 p (.ifCond .lt 43) 60)) (tB 15 p (tL 15 p (.iload 4) 0) (tL 12 p (.if_icmp .ge 48) 60)))) (tB 5 p (tB 8 p (tB 10 p (tL 10 p (.bipush 16) 0) (tL 8 p (.iload 5) 0)) (tB 6 p (tL 6 p (.istore 5) 0) (tL 5 p (.iconst 0) 0))) (tB 2 p (tB 3 p (tL 3 p (.istore 4) 0) (tL 2 p (.iload_n 1) 0)) (tB 1 p (tL 1 p (.istore_n 3) 0) (tL 0 p (.iload_n 2) 0))))))
set_option maxHeartbeats 4000000 in
def cd31 (p : Nat) : Option (Instr × Nat) := (tB 41 p (tB 60 p (tB 71 p (tB 74 p (tB 80 p (tB 83 p (tL 83 p .return_ 0) (tL 80 p (.goto (-78)) 2)) (tB 77 p (tL 77 p (.iinc 1 1) 0) (tL 74 p (.invokevirtual 174) 32))) (tB 72 p (tB 73 p (tL 73 p (.iload_n 2) 0) (tL 72 p (.iload_n 1) 0)) (tL 71 p (.aload_n 0) 0))) (tB 65 p (tB 69 p (tB 70 p (tL 70 p .iastore 0) (tL 69 p .iaload 0)) (tB 68 p (tL 68 p (.iload_n 2) 0) (tL 65 p (.getfield 19) 3))) (tB 63 p (tB 64 p (tL 64 p (.aload_n 0) 0) (tL 63 p (.iload_n 1) 0)) (tL 60 p (.getfield 79) 23)))) (tB 51 p (tB 56 p (tB 58 p (tB 59 p (tL 59 p (.aload_n 0) 0) (tL 58 p .iastore 0)) (tB 57 p (tL 57 p .iaload 0) (tL 56 p (.iload_n 2) 0))) (tB 52 p (tB 53 p (tL 53 p (.getfield 16) 2) (tL 52 p (.aload_n 0) 0)) (tL 51 p (.iload_n 1) 0))) (tB 46 p (tB 47 p (tB 48 p (tL 48 p (.getfield 76) 22) (tL 47 p (.aload_n 0) 0)) (tL 46 p .iastore 0)) (tB 44 p (tB 45 p (tL 45 p .iaload 0) (tL 44 p (.iload_n 2) 0)) (tL 41 p (.getfield 13) 1))))) (tB 22 p (tB 32 p (tB 35 p (tB 39 p (tB 40 p (tL 40 p (.aload_n 0) 0) (tL 39 p (.iload_n 1) 0)) (tB 36 p (tL 36 p (.getfield 73) 21) (tL 35 p (.aload_n 0) 0))) (tB 33 p (tB 34 p (tL 34 p .iastore 0) (tL 33 p .iaload 0)) (tL 32 p (.iload_n 2) 0))) (tB 27 p (tB 28 p (tB 29 p (tL 29 p (.getfield 7) 0) (tL 28 p (.aload_n 0) 0)) (tL 27 p (.iload_n 1) 0)) (tB 23 p (tB 24 p (tL 24 p (.getfield 70) 20) (tL 23 p (.aload_n 0) 0)) (tL 22 p (.istore_n 2) 0)))) (tB 10 p (tB 16 p (tB 20 p (tB 21 p (tL 21 p .iaload 0) (tL 20 p (.iload_n 1) 0)) (tB 17 p (tL 17 p (.getfield 67) 19) (tL 16 p (.aload_n 0) 0))) (tB 11 p (tB 13 p (tL 13 p (.if_icmp .ge 70) 83) (tL 11 p (.bipush 16) 0)) (tL 10 p (.iload_n 1) 0))) (tB 3 p (tB 4 p (tB 7 p (tL 7 p (.if_icmp .ge 76) 83) (tL 4 p (.getfield 101) 30)) (tL 3 p (.aload_n 0) 0)) (tB 1 p (tB 2 p (tL 2 p (.iload_n 1) 0) (tL 1 p (.istore_n 1) 0)) (tL 0 p (.iconst 0) 0))))))
set_option maxHeartbeats 4000000 in
def cd32 (p : Nat) : Option (Instr × Nat) := (tB 101 p (tB 152 p (tB 179 p (tB 191 p (tB 196 p (tB 200 p (tB 202 p (tB 203 p (tL 203 p .return_ 0) (tL 202 p .iastore 0)) (tL 200 p (.iload 5) 0)) (tB 199 p (tL 199 p (.iload_n 1) 0) (tL 196 p (.getfield 91) 27))) (tB 194 p (tB 195 p (tL 195 p (.aload_n 0) 0) (tL 194 p .iastore 0)) (tB 192 p (tL 192 p (.iload 4) 0) (tL 191 p (.iload_n 1) 0)))) (tB 185 p (tB 187 p (tB 188 p (tL 188 p (.getfield 88) 26) (tL 187 p (.aload_n 0) 0)) (tB 186 p (tL 186 p .iastore 0) (tL 185 p .iaload 0))) (tB 181 p (tB 184 p (tL 184 p (.iload_n 2) 0) (tL 181 p (.getfield 25) 5)) (tB 180 p (tL 180 p (.aload_n 0) 0) (tL 179 p (.iload_n 1) 0))))) (tB 163 p (tB 169 p (tB 172 p (tB 175 p (tB 176 p (tL 176 p (.getfield 85) 25) (tL 175 p (.aload_n 0) 0)) (tL 172 p (.goto 31) 203)) (tB 171 p (tL 171 p .iastore 0) (tL 169 p (.iload 4) 0))) (tB 165 p (tB 168 p (tL 168 p (.iload_n 1) 0) (tL 165 p (.getfield 91) 27)) (tB 164 p (tL 164 p (.aload_n 0) 0) (tL 163 p .iastore 0)))) (tB 156 p (tB 160 p (tB 161 p (tL 161 p (.iload 5) 0) (tL 160 p (.iload_n 1) 0)) (tB 157 p (tL 157 p (.getfield 88) 26) (tL 156 p (.aload_n 0) 0))) (tB 154 p (tB 155 p (tL 155 p .iastore 0) (tL 154 p .ixor 0)) (tB 153 p (tL 153 p (.iconst 4) 0) (tL 152 p .iaload 0)))))) (tB 125 p (tB 137 p (tB 143 p (tB 147 p (tB 148 p (tB 151 p (tL 151 p (.iload_n 2) 0) (tL 148 p (.getfield 25) 5)) (tL 147 p (.aload_n 0) 0)) (tB 146 p (tL 146 p (.iload_n 1) 0) (tL 143 p (.getfield 85) 25))) (tB 139 p (tB 142 p (tL 142 p (.aload_n 0) 0) (tL 139 p (.if_icmp .eq 36) 175)) (tB 138 p (tL 138 p .iadd 0) (tL 137 p (.iconst 1) 0)))) (tB 130 p (tB 134 p (tB 136 p (tL 136 p (.iload_n 1) 0) (tL 134 p (.iload 5) 0)) (tB 131 p (tL 131 p (.if_icmp .ne 44) 175) (tL 130 p .iadd 0))) (tB 128 p (tB 129 p (tL 129 p (.iconst 1) 0) (tL 128 p (.iload_n 1) 0)) (tB 126 p (tL 126 p (.iload 4) 0) (tL 125 p .iastore 0))))) (tB 114 p (tB 119 p (tB 123 p (tB 124 p (tL 124 p (.iconst 2) 0) (tL 123 p (.iload_n 1) 0)) (tB 120 p (tL 120 p (.getfield 82) 24) (tL 119 p (.aload_n 0) 0))) (tB 116 p (tB 117 p (tL 117 p (.istore 5) 0) (tL 116 p .iaload 0)) (tB 115 p (tL 115 p .iaload 0) (tL 114 p (.iload_n 2) 0)))) (tB 106 p (tB 110 p (tB 111 p (tL 111 p (.getfield 31) 7) (tL 110 p (.aload_n 0) 0)) (tB 107 p (tL 107 p (.getfield 64) 18) (tL 106 p (.aload_n 0) 0))) (tB 103 p (tB 104 p (tL 104 p (.istore 4) 0) (tL 103 p .iaload 0)) (tB 102 p (tL 102 p .iaload 0) (tL 101 p (.iload_n 2) 0))))))) (tB 50 p (tB 76 p (tB 86 p (tB 92 p (tB 94 p (tB 97 p (tB 98 p (tL 98 p (.getfield 28) 6) (tL 97 p (.aload_n 0) 0)) (tL 94 p (.getfield 64) 18)) (tB 93 p (tL 93 p (.aload_n 0) 0) (tL 92 p .return_ 0))) (tB 90 p (tB 91 p (tL 91 p .iastore 0) (tL 90 p (.iconst 0) 0)) (tB 89 p (tL 89 p (.iload_n 1) 0) (tL 86 p (.getfield 82) 24)))) (tB 80 p (tB 82 p (tB 85 p (tL 85 p (.aload_n 0) 0) (tL 82 p (.if_icmp .eq 11) 93)) (tB 81 p (tL 81 p (.iconst 2) 0) (tL 80 p (.iload_n 3) 0))) (tB 78 p (tB 79 p (tL 79 p .return_ 0) (tL 78 p .iastore 0)) (tB 77 p (tL 77 p (.iconst 1) 0) (tL 76 p (.iload_n 1) 0))))) (tB 62 p (tB 68 p (tB 72 p (tB 73 p (tL 73 p (.getfield 82) 24) (tL 72 p (.aload_n 0) 0)) (tB 69 p (tL 69 p (.goto 10) 79) (tL 68 p .iastore 0))) (tB 66 p (tB 67 p (tL 67 p (.iconst 3) 0) (tL 66 p (.iload_n 1) 0)) (tB 63 p (tL 63 p (.getfield 82) 24) (tL 62 p (.aload_n 0) 0)))) (tB 56 p (tB 58 p (tB 59 p (tL 59 p (.if_icmp .ne 13) 72) (tL 58 p .iadd 0)) (tB 57 p (tL 57 p (.iconst 1) 0) (tL 56 p (.iload_n 1) 0))) (tB 53 p (tB 54 p (tL 54 p (.iload 4) 0) (tL 53 p .iastore 0)) (tB 51 p (tL 51 p (.iload 4) 0) (tL 50 p (.iload_n 1) 0)))))) (tB 22 p (tB 34 p (tB 42 p (tB 44 p (tB 46 p (tB 47 p (tL 47 p (.getfield 88) 26) (tL 46 p (.aload_n 0) 0)) (tL 44 p (.istore 4) 0)) (tB 43 p (tL 43 p .iaload 0) (tL 42 p .iaload 0))) (tB 38 p (tB 41 p (tL 41 p (.iload_n 2) 0) (tL 38 p (.getfield 28) 6)) (tB 37 p (tL 37 p (.aload_n 0) 0) (tL 34 p (.getfield 64) 18)))) (tB 28 p (tB 30 p (tB 33 p (tL 33 p (.aload_n 0) 0) (tL 30 p (.if_icmp .ne 50) 80)) (tB 29 p (tL 29 p (.iconst 1) 0) (tL 28 p (.iload_n 3) 0))) (tB 26 p (tB 27 p (tL 27 p .iastore 0) (tL 26 p (.iconst 0) 0)) (tB 25 p (tL 25 p (.iload_n 1) 0) (tL 22 p (.getfield 91) 27))))) (tB 12 p (tB 18 p (tB 20 p (tB 21 p (tL 21 p (.aload_n 0) 0) (tL 20 p .iastore 0)) (tB 19 p (tL 19 p (.iconst 0) 0) (tL 18 p (.iload_n 1) 0))) (tB 14 p (tB 15 p (tL 15 p (.getfield 88) 26) (tL 14 p (.aload_n 0) 0)) (tB 13 p (tL 13 p .iastore 0) (tL 12 p (.iconst 0) 0)))) (tB 6 p (tB 8 p (tB 11 p (tL 11 p (.iload_n 1) 0) (tL 8 p (.getfield 85) 25)) (tB 7 p (tL 7 p (.aload_n 0) 0) (tL 6 p (.istore_n 3) 0))) (tB 4 p (tB 5 p (tL 5 p .iaload 0) (tL 4 p (.iload_n 2) 0)) (tB 1 p (tL 1 p (.getfield 22) 4) (tL 0 p (.aload_n 0) 0))))))))
set_option maxHeartbeats 4000000 in
def cd33 (p : Nat) : Option (Instr × Nat) := (tB 56 p (tB 82 p (tB 99 p (tB 105 p (tB 107 p (tB 108 p (tB 109 p (tL 109 p .ireturn 0) (tL 108 p (.iconst (-1)) 0)) (tL 107 p .ireturn 0)) (tB 106 p (tL 106 p .iaload 0) (tL 105 p (.iload_n 1) 0))) (tB 101 p (tB 102 p (tL 102 p (.getfield 91) 27) (tL 101 p (.aload_n 0) 0)) (tB 100 p (tL 100 p .ireturn 0) (tL 99 p .iaload 0)))) (tB 88 p (tB 94 p (tB 95 p (tB 98 p (tL 98 p (.iload_n 1) 0) (tL 95 p (.getfield 88) 26)) (tL 94 p (.aload_n 0) 0)) (tB 91 p (tL 91 p (.ifCond .eq 10) 101) (tL 88 p (.invokevirtual 153) 34))) (tB 86 p (tB 87 p (tL 87 p .iaload 0) (tL 86 p (.iload_n 1) 0)) (tB 83 p (tL 83 p (.getfield 85) 25) (tL 82 p (.aload_n 0) 0))))) (tB 69 p (tB 75 p (tB 77 p (tB 78 p (tB 81 p (tL 81 p (.aload_n 0) 0) (tL 78 p (.if_icmp .ne 30) 108)) (tL 77 p (.iconst 2) 0)) (tB 76 p (tL 76 p (.iload_n 2) 0) (tL 75 p .ireturn 0))) (tB 73 p (tB 74 p (tL 74 p .iaload 0) (tL 73 p (.iload_n 1) 0)) (tB 70 p (tL 70 p (.getfield 88) 26) (tL 69 p (.aload_n 0) 0)))) (tB 62 p (tB 64 p (tB 65 p (tB 66 p (tL 66 p (.if_icmp .ne 10) 76) (tL 65 p (.iconst 1) 0)) (tL 64 p (.iload_n 2) 0)) (tB 63 p (tL 63 p .ireturn 0) (tL 62 p .iadd 0))) (tB 60 p (tB 61 p (tL 61 p (.iconst 1) 0) (tL 60 p (.iload_n 1) 0)) (tB 57 p (tL 57 p (.if_icmp .ne 7) 64) (tL 56 p (.iconst 3) 0)))))) (tB 28 p (tB 43 p (tB 49 p (tB 53 p (tB 54 p (tB 55 p (tL 55 p (.iload_n 2) 0) (tL 54 p (.istore_n 2) 0)) (tL 53 p .iaload 0)) (tB 52 p (tL 52 p (.iload_n 1) 0) (tL 49 p (.getfield 82) 24))) (tB 45 p (tB 48 p (tL 48 p (.aload_n 0) 0) (tL 45 p (.invokevirtual 150) 13)) (tB 44 p (tL 44 p .iaload 0) (tL 43 p (.iload_n 1) 0)))) (tB 34 p (tB 38 p (tB 39 p (tB 40 p (tL 40 p (.getfield 79) 23) (tL 39 p (.aload_n 0) 0)) (tL 38 p .iaload 0)) (tB 37 p (tL 37 p (.iload_n 1) 0) (tL 34 p (.getfield 76) 22))) (tB 32 p (tB 33 p (tL 33 p (.aload_n 0) 0) (tL 32 p .iaload 0)) (tB 31 p (tL 31 p (.iload_n 1) 0) (tL 28 p (.getfield 73) 21))))) (tB 15 p (tB 21 p (tB 25 p (tB 26 p (tB 27 p (tL 27 p (.aload_n 0) 0) (tL 26 p .iaload 0)) (tL 25 p (.iload_n 1) 0)) (tB 22 p (tL 22 p (.getfield 70) 20) (tL 21 p (.aload_n 0) 0))) (tB 19 p (tB 20 p (tL 20 p (.aload_n 0) 0) (tL 19 p .ireturn 0)) (tB 18 p (tL 18 p (.iconst (-1)) 0) (tL 15 p (.if_icmp .lt 5) 20)))) (tB 6 p (tB 12 p (tB 13 p (tL 13 p (.bipush 16) 0) (tL 12 p (.iload_n 1) 0)) (tB 9 p (tL 9 p (.if_icmp .ge 9) 18) (tL 6 p (.getfield 101) 30))) (tB 4 p (tB 5 p (tL 5 p (.aload_n 0) 0) (tL 4 p (.iload_n 1) 0)) (tB 1 p (tL 1 p (.ifCond .lt 17) 18) (tL 0 p (.iload_n 1) 0)))))))
set_option maxHeartbeats 4000000 in
def cd34 (p : Nat) : Option (Instr × Nat) := (tB 30 p (tB 49 p (tB 59 p (tB 64 p (tB 67 p (tB 68 p (tL 68 p .ireturn 0) (tL 67 p (.iconst 0) 0)) (tL 64 p (.goto 4) 68)) (tB 60 p (tB 63 p (tL 63 p (.iconst 1) 0) (tL 60 p (.ifCond .lt 7) 67)) (tL 59 p (.iload_n 2) 0))) (tB 54 p (tB 57 p (tB 58 p (tL 58 p .ireturn 0) (tL 57 p (.iconst 0) 0)) (tL 54 p (.goto 4) 58)) (tB 50 p (tB 53 p (tL 53 p (.iconst 1) 0) (tL 50 p (.ifCond .ge 7) 57)) (tL 49 p (.iload_n 2) 0)))) (tB 39 p (tB 44 p (tB 45 p (tB 46 p (tL 46 p (.if_icmp .ne 13) 59) (tL 45 p (.iconst 2) 0)) (tL 44 p (.iload_n 3) 0)) (tB 42 p (tB 43 p (tL 43 p .ireturn 0) (tL 42 p (.iconst 0) 0)) (tL 39 p (.goto 4) 43))) (tB 34 p (tB 35 p (tB 38 p (tL 38 p (.iconst 1) 0) (tL 35 p (.ifCond .eq 7) 42)) (tL 34 p (.iload_n 2) 0)) (tB 31 p (tL 31 p (.if_icmp .ne 13) 44) (tL 30 p (.iconst 1) 0))))) (tB 13 p (tB 20 p (tB 27 p (tB 28 p (tB 29 p (tL 29 p (.iload_n 3) 0) (tL 28 p .ireturn 0)) (tL 27 p (.iconst 0) 0)) (tB 23 p (tB 24 p (tL 24 p (.goto 4) 28) (tL 23 p (.iconst 1) 0)) (tL 20 p (.ifCond .ne 7) 27))) (tB 15 p (tB 16 p (tB 19 p (tL 19 p (.iload_n 2) 0) (tL 16 p (.ifCond .ne 13) 29)) (tL 15 p (.iload_n 3) 0)) (tB 14 p (tL 14 p (.istore_n 3) 0) (tL 13 p .iand 0)))) (tB 7 p (tB 10 p (tB 11 p (tB 12 p (tL 12 p (.iconst 3) 0) (tL 11 p .ishr 0)) (tL 10 p (.iconst 2) 0)) (tB 8 p (tB 9 p (tL 9 p (.iload_n 1) 0) (tL 8 p (.istore_n 2) 0)) (tL 7 p .iaload 0))) (tB 4 p (tB 5 p (tB 6 p (tL 6 p .iand 0) (tL 5 p (.iconst 3) 0)) (tL 4 p (.iload_n 1) 0)) (tB 1 p (tL 1 p (.getfield 40) 10) (tL 0 p (.aload_n 0) 0))))))
set_option maxHeartbeats 4000000 in
def cd35 (p : Nat) : Option (Instr × Nat) := (tB 45 p (tB 65 p (tB 76 p (tB 81 p (tB 83 p (tB 86 p (tL 86 p .return_ 0) (tL 83 p (.putfield 156) 35)) (tB 82 p (tL 82 p .iadd 0) (tL 81 p (.iconst 1) 0))) (tB 77 p (tB 78 p (tL 78 p (.getfield 156) 35) (tL 77 p .dup 0)) (tL 76 p (.aload_n 0) 0))) (tB 70 p (tB 73 p (tB 75 p (tL 75 p .iastore 0) (tL 73 p (.iload 4) 0)) (tL 70 p (.getfield 156) 35)) (tB 66 p (tB 69 p (tL 69 p (.aload_n 0) 0) (tL 66 p (.getfield 49) 13)) (tL 65 p (.aload_n 0) 0)))) (tB 56 p (tB 61 p (tB 63 p (tB 64 p (tL 64 p .iastore 0) (tL 63 p .iadd 0)) (tB 62 p (tL 62 p (.iload_n 2) 0) (tL 61 p .imul 0))) (tB 59 p (tB 60 p (tL 60 p (.iconst 2) 0) (tL 59 p (.iload_n 1) 0)) (tL 56 p (.getfield 156) 35))) (tB 51 p (tB 52 p (tB 55 p (tL 55 p (.aload_n 0) 0) (tL 52 p (.getfield 46) 12)) (tL 51 p (.aload_n 0) 0)) (tB 47 p (tB 50 p (tL 50 p .return_ 0) (tL 47 p (.if_icmp .lt 4) 51)) (tL 45 p (.bipush 32) 0))))) (tB 22 p (tB 31 p (tB 37 p (tB 41 p (tB 42 p (tL 42 p (.getfield 156) 35) (tL 41 p (.aload_n 0) 0)) (tB 38 p (tL 38 p (.if_icmp .eq 12) 50) (tL 37 p (.iload_n 1) 0))) (tB 33 p (tB 36 p (tL 36 p (.iload_n 3) 0) (tL 33 p (.ifCond .le 17) 50)) (tL 31 p (.iload 4) 0))) (tB 27 p (tB 29 p (tB 30 p (tL 30 p .iastore 0) (tL 29 p .iadd 0)) (tL 27 p (.iload 4) 0)) (tB 25 p (tB 26 p (tL 26 p .iaload 0) (tL 25 p (.iload_n 3) 0)) (tL 22 p (.getfield 61) 17)))) (tB 11 p (tB 17 p (tB 20 p (tB 21 p (tL 21 p (.aload_n 0) 0) (tL 20 p (.iload_n 3) 0)) (tL 17 p (.getfield 61) 17)) (tB 13 p (tB 16 p (tL 16 p (.aload_n 0) 0) (tL 13 p (.ifCond .le 18) 31)) (tL 11 p (.iload 4) 0))) (tB 5 p (tB 7 p (tB 10 p (tL 10 p .return_ 0) (tL 7 p (.if_icmp .lt 4) 11)) (tL 5 p (.bipush 16) 0)) (tB 1 p (tB 4 p (tL 4 p (.iload_n 3) 0) (tL 1 p (.ifCond .lt 9) 10)) (tL 0 p (.iload_n 3) 0))))))
set_option maxHeartbeats 4000000 in
def cd36 (p : Nat) : Option (Instr × Nat) := (tB 14 p (tB 19 p (tB 23 p (tB 26 p (tB 27 p (tL 27 p .ireturn 0) (tL 26 p (.iconst 0) 0)) (tL 23 p (.goto 4) 27)) (tB 22 p (tL 22 p (.iconst 1) 0) (tL 19 p (.if_icmp .ge 7) 26))) (tB 16 p (tB 17 p (tL 17 p (.iload 4) 0) (tL 16 p (.iload_n 2) 0)) (tB 15 p (tL 15 p .ireturn 0) (tL 14 p (.iconst 0) 0)))) (tB 6 p (tB 10 p (tB 11 p (tL 11 p (.goto 4) 15) (tL 10 p (.iconst 1) 0)) (tB 7 p (tL 7 p (.if_icmp .le 7) 14) (tL 6 p (.iload_n 3) 0))) (tB 2 p (tB 5 p (tL 5 p (.iload_n 1) 0) (tL 2 p (.if_icmp .eq 14) 16)) (tB 1 p (tL 1 p (.iload_n 3) 0) (tL 0 p (.iload_n 1) 0)))))
set_option maxHeartbeats 4000000 in
def cd37 (p : Nat) : Option (Instr × Nat) := (tB 57 p (tB 81 p (tB 98 p (tB 105 p (tB 108 p (tB 111 p (tB 114 p (tL 114 p .return_ 0) (tL 111 p (.goto (-32)) 79)) (tL 108 p (.iinc 5 1) 0)) (tB 106 p (tL 106 p (.istore 4) 0) (tL 105 p .iaload 0))) (tB 100 p (tB 103 p (tL 103 p (.iload 4) 0) (tL 100 p (.getfield 52) 14)) (tB 99 p (tL 99 p (.aload_n 0) 0) (tL 98 p .iastore 0)))) (tB 91 p (tB 95 p (tB 97 p (tL 97 p (.iload_n 3) 0) (tL 95 p (.iload 4) 0)) (tB 92 p (tL 92 p (.getfield 58) 16) (tL 91 p (.aload_n 0) 0))) (tB 86 p (tB 88 p (tL 88 p (.ifCond .lt 26) 114) (tL 86 p (.iload 4) 0)) (tB 83 p (tL 83 p (.if_icmp .ge 31) 114) (tL 81 p (.bipush 16) 0))))) (tB 67 p (tB 73 p (tB 76 p (tB 77 p (tB 79 p (tL 79 p (.iload 5) 0) (tL 77 p (.istore 5) 0)) (tL 76 p (.iconst 0) 0)) (tB 74 p (tL 74 p (.istore 4) 0) (tL 73 p (.iload_n 2) 0))) (tB 71 p (tB 72 p (tL 72 p (.istore_n 3) 0) (tL 71 p .iaload 0)) (tB 70 p (tL 70 p (.iload_n 1) 0) (tL 67 p (.getfield 58) 16)))) (tB 63 p (tB 65 p (tB 66 p (tL 66 p (.aload_n 0) 0) (tL 65 p .iastore 0)) (tB 64 p (tL 64 p (.iload_n 1) 0) (tL 63 p (.iload_n 2) 0))) (tB 59 p (tB 60 p (tL 60 p (.getfield 55) 15) (tL 59 p (.aload_n 0) 0)) (tB 58 p (tL 58 p .iastore 0) (tL 57 p (.iload_n 2) 0)))))) (tB 28 p (tB 42 p (tB 48 p (tB 52 p (tB 53 p (tB 56 p (tL 56 p (.iload_n 1) 0) (tL 53 p (.getfield 52) 14)) (tL 52 p (.aload_n 0) 0)) (tB 51 p (tL 51 p .return_ 0) (tL 48 p (.if_icmp .ne 4) 52))) (tB 46 p (tB 47 p (tL 47 p (.iload_n 2) 0) (tL 46 p .iaload 0)) (tB 45 p (tL 45 p (.iload_n 1) 0) (tL 42 p (.getfield 58) 16)))) (tB 36 p (tB 38 p (tB 41 p (tL 41 p (.aload_n 0) 0) (tL 38 p (.if_icmp .ne 13) 51)) (tB 37 p (tL 37 p (.iconst (-1)) 0) (tL 36 p .iaload 0))) (tB 32 p (tB 35 p (tL 35 p (.iload_n 2) 0) (tL 32 p (.getfield 55) 15)) (tB 31 p (tL 31 p (.aload_n 0) 0) (tL 28 p (.if_icmp .ne 23) 51))))) (tB 15 p (tB 22 p (tB 26 p (tB 27 p (tL 27 p (.iconst (-1)) 0) (tL 26 p .iaload 0)) (tB 25 p (tL 25 p (.iload_n 1) 0) (tL 22 p (.getfield 52) 14))) (tB 20 p (tB 21 p (tL 21 p (.aload_n 0) 0) (tL 20 p .return_ 0)) (tB 17 p (tL 17 p (.if_icmp .lt 4) 21) (tL 15 p (.bipush 16) 0)))) (tB 7 p (tB 11 p (tB 14 p (tL 14 p (.iload_n 2) 0) (tL 11 p (.ifCond .le 9) 20)) (tB 10 p (tL 10 p (.iload_n 2) 0) (tL 7 p (.if_icmp .ge 13) 20))) (tB 4 p (tB 5 p (tL 5 p (.bipush 16) 0) (tL 4 p (.iload_n 1) 0)) (tB 1 p (tL 1 p (.ifCond .lt 19) 20) (tL 0 p (.iload_n 1) 0)))))))
def pCode (m pc : Nat) : Option (Instr × Nat) := bif Nat.ble pN m then none else bif Nat.ble (pTop m) pc then none else (bif Nat.ble 19 m then (bif Nat.ble 28 m then (bif Nat.ble 33 m then (bif Nat.ble 35 m then (bif Nat.ble 36 m then (bif Nat.ble 37 m then cd37 pc else cd36 pc) else cd35 pc) else (bif Nat.ble 34 m then cd34 pc else cd33 pc)) else (bif Nat.ble 30 m then (bif Nat.ble 31 m then (bif Nat.ble 32 m then cd32 pc else cd31 pc) else cd30 pc) else (bif Nat.ble 29 m then cd29 pc else cd28 pc))) else (bif Nat.ble 23 m then (bif Nat.ble 25 m then (bif Nat.ble 26 m then (bif Nat.ble 27 m then cd27 pc else cd26 pc) else cd25 pc) else (bif Nat.ble 24 m then cd24 pc else cd23 pc)) else (bif Nat.ble 21 m then (bif Nat.ble 22 m then cd22 pc else cd21 pc) else (bif Nat.ble 20 m then cd20 pc else cd19 pc)))) else (bif Nat.ble 9 m then (bif Nat.ble 14 m then (bif Nat.ble 16 m then (bif Nat.ble 17 m then (bif Nat.ble 18 m then cd18 pc else cd17 pc) else cd16 pc) else (bif Nat.ble 15 m then cd15 pc else cd14 pc)) else (bif Nat.ble 11 m then (bif Nat.ble 12 m then (bif Nat.ble 13 m then cd13 pc else cd12 pc) else cd11 pc) else (bif Nat.ble 10 m then cd10 pc else cd9 pc))) else (bif Nat.ble 4 m then (bif Nat.ble 6 m then (bif Nat.ble 7 m then (bif Nat.ble 8 m then cd8 pc else cd7 pc) else cd6 pc) else (bif Nat.ble 5 m then cd5 pc else cd4 pc)) else (bif Nat.ble 2 m then (bif Nat.ble 3 m then cd3 pc else cd2 pc) else (bif Nat.ble 1 m then cd1 pc else cd0 pc)))))
def lkF : List (Nat × Nat × Nat) := [(1, 7, 0), (1, 13, 1), (1, 16, 2), (1, 19, 3), (1, 22, 4), (1, 25, 5), (1, 28, 6), (1, 31, 7), (1, 34, 8), (1, 37, 9), (1, 40, 10), (1, 43, 11), (1, 46, 12), (1, 49, 13), (1, 52, 14), (1, 55, 15), (1, 58, 16), (1, 61, 17), (1, 64, 18), (1, 67, 19), (1, 70, 20), (1, 73, 21), (1, 76, 22), (1, 79, 23), (1, 82, 24), (1, 85, 25), (1, 88, 26), (1, 91, 27), (1, 94, 28), (1, 98, 29), (1, 101, 30), (1, 104, 31), (1, 108, 32), (1, 111, 33), (1, 114, 34), (1, 156, 35)]
def lkN : List (Nat × Nat) := [(0, 7)]
def lkC : List (Nat × Nat × Nat) := []
def lkD : List (Nat × Nat × Nat) := [(0, 66, 0)]
def lkV : List (Nat × Nat × Nat) := [(0, 9, 1), (0, 12, 2), (0, 20, 3), (1, 124, 4), (0, 16, 5), (1, 117, 6), (1, 121, 7), (0, 41, 8), (0, 24, 9), (0, 38, 10), (0, 28, 11), (1, 132, 12), (1, 150, 13), (0, 32, 14), (0, 45, 15), (0, 52, 16), (0, 63, 17), (0, 68, 18), (0, 71, 19), (0, 74, 20), (0, 77, 21), (0, 56, 22), (0, 80, 23), (0, 59, 24), (0, 49, 25), (1, 135, 26), (1, 138, 27), (1, 141, 28), (1, 144, 29), (1, 170, 30), (1, 147, 31), (1, 174, 32), (1, 128, 33), (1, 153, 34), (1, 159, 35), (1, 162, 36), (1, 166, 37)]
def lkO : List (Nat × Nat) := [(1, 1)]
def mV : List Nat := [2, 3, 5, 8, 9, 10, 11, 15, 17, 18, 19, 20, 21, 23, 24, 25]
def mP : List Nat := [4, 6, 7, 12, 13, 26, 27, 28, 29, 30, 31, 32, 33, 34, 35, 36, 37]
def mS : List Nat := [14, 16, 22]
def mI : List Nat := [1]
def mA : List Nat := [1, 2, 3, 4, 5, 6, 7, 8, 9, 10, 11, 12, 13, 14, 15, 16, 17, 18, 19, 20, 21, 22, 23, 24, 25, 26, 27, 28, 29, 30, 31, 32, 33, 34, 35, 36, 37]
def aTys : List FieldType := [.int]
abbrev QCell := List Value ⊕ ((FieldType × List Int32) ⊕ List Int64)
abbrev QHeap := List QCell
abbrev QLoc := List (Option Value)
abbrev vI (x : Int32) : Option Value := some (.int x)
abbrev vR (a : Addr) : Option Value := some (.ref a)
abbrev vL (x : Int64) : Option Value := some (.long x)
abbrev QSt := Nat × QLoc × List Value × QHeap
def qv (ad : Nat → Addr) : Value → Value
 | .ref k => .ref (ad k)
 | v => v
def qsz : QCell → Nat
 | .inl _ => cN
 | .inr (.inl x) => x.2.length
 | .inr (.inr x) => x.length
def qhs : QHeap → Nat
 | [] => 0
 | c :: t => qsz c + qhs t
def aget {α : Type} (xs : List α) (j : Int32) : Option α := if j < 0 then none else xs[j.toNatClampNeg]?
def aset {α : Type} (xs : List α) (j : Int32) (v : α) : Option (List α) := if j < 0 then none else if j.toNatClampNeg < xs.length then some (xs.set j.toNatClampNeg v) else none
def qnew (n : Int32) : Option Nat := if n < 0 then none else if n.toNatClampNeg ≤ 67108864 then some n.toNatClampNeg else none
def qdiv (x y : Int32) : Option Int32 := if y = 0 then none else some (x / y)
def qrem (x y : Int32) : Option Int32 := if y = 0 then none else some (x % y)
def qboo (x : Int32) : Option Int32 := if x = 0 then some x else if x = 1 then some x else none
def lget : QLoc → Nat → Option Value
 | [], _ => none
 | v :: _, 0 => v
 | _ :: t, k + 1 => lget t k
def hget : QHeap → Nat → Option QCell
 | [], _ => none
 | v :: _, 0 => some v
 | _ :: t, k + 1 => hget t k
def vget : List Value → Nat → Option Value
 | [], _ => none
 | v :: _, 0 => some v
 | _ :: t, k + 1 => vget t k
def lkill (L : QLoc) : Nat → QLoc
 | 0 => L
 | k + 1 => match lget L k with
  | some (.long _) => L.set k none
  | some (.double _) => L.set k none
  | _ => L
def lput (L : QLoc) (k : Nat) (v : Value) : Option QLoc :=
 match v with
 | .long x => bif Nat.ble (k + 2) L.length then some (((lkill L k).set k (some (.long x))).set (k + 1) none) else none
 | .double _ => none
 | v => bif Nat.ble (k + 1) L.length then some ((lkill L k).set k (some v)) else none
def qload (pc : Nat) (L : QLoc) (S : List Value) (σ : QHeap) (k : Nat) (ok : Value → Bool) : Option QSt :=
 match lget L k with
 | some v => bif ok v then some (pc, L, v :: S, σ) else none
 | none => none
def isI : Value → Bool | .int _ => true | _ => false
def isJ : Value → Bool | .long _ => true | _ => false
def isR : Value → Bool | .ref _ => true | _ => false
def qstore (pc : Nat) (L : QLoc) (S : List Value) (σ : QHeap) (k : Nat) (ok : Value → Bool) : Option QSt :=
 match S with
 | v :: S' => bif ok v then (match lput L k v with | some L' => some (pc, L', S', σ) | none => none) else none
 | [] => none
def qbin (pc : Nat) (L : QLoc) (S : List Value) (σ : QHeap) (f : Int32 → Int32 → Int32) : Option QSt :=
 match S with
 | .int y :: .int x :: S' => some (pc, L, .int (f x y) :: S', σ)
 | _ => none
def qbino (pc : Nat) (L : QLoc) (S : List Value) (σ : QHeap) (f : Int32 → Int32 → Option Int32) : Option QSt :=
 match S with
 | .int y :: .int x :: S' => (f x y).bind fun z => some (pc, L, .int z :: S', σ)
 | _ => none
def qbinJ (pc : Nat) (L : QLoc) (S : List Value) (σ : QHeap) (f : Int64 → Int64 → Int64) : Option QSt :=
 match S with
 | .long y :: .long x :: S' => some (pc, L, .long (f x y) :: S', σ)
 | _ => none
def qshJ (pc : Nat) (L : QLoc) (S : List Value) (σ : QHeap) (f : Int64 → Int32 → Int64) : Option QSt :=
 match S with
 | .int y :: .long x :: S' => some (pc, L, .long (f x y) :: S', σ)
 | _ => none
def quni (pc : Nat) (L : QLoc) (S : List Value) (σ : QHeap) (f : Int32 → Value) : Option QSt :=
 match S with
 | .int x :: S' => some (pc, L, f x :: S', σ)
 | _ => none
def quniJ (pc : Nat) (L : QLoc) (S : List Value) (σ : QHeap) (f : Int64 → Value) : Option QSt :=
 match S with
 | .long x :: S' => some (pc, L, f x :: S', σ)
 | _ => none
def qald (pc : Nat) (L : QLoc) (S : List Value) (σ : QHeap) (ok : FieldType → Bool) : Option QSt :=
 match S with
 | .int j :: .ref a :: S' => (match hget σ a with
  | some (.inr (.inl x)) => bif ok x.1 then (aget x.2 j).bind fun v => some (pc, L, .int v :: S', σ) else none
  | _ => none)
 | _ => none
def qaldJ (pc : Nat) (L : QLoc) (S : List Value) (σ : QHeap) : Option QSt :=
 match S with
 | .int j :: .ref a :: S' => (match hget σ a with
  | some (.inr (.inr x)) => (aget x j).bind fun v => some (pc, L, .long v :: S', σ)
  | _ => none)
 | _ => none
def qnar : FieldType → Int32 → Int32
 | .boolean, x => x &&& 1
 | .byte, x => x.toInt8.toInt32
 | _, x => x
def qast (pc : Nat) (L : QLoc) (S : List Value) (σ : QHeap) (ok : FieldType → Bool) : Option QSt :=
 match S with
 | .int v :: .int j :: .ref a :: S' => (match hget σ a with
  | some (.inr (.inl x)) => bif ok x.1 && Nat.ble k0 a then (aset x.2 j (qnar x.1 v)).bind fun y => some (pc, L, S', σ.set a (.inr (.inl (x.1, y)))) else none
  | _ => none)
 | _ => none
def qastJ (pc : Nat) (L : QLoc) (S : List Value) (σ : QHeap) : Option QSt :=
 match S with
 | .long v :: .int j :: .ref a :: S' => (match hget σ a with
  | some (.inr (.inr x)) => bif Nat.ble k0 a then (aset x j v).bind fun y => some (pc, L, S', σ.set a (.inr (.inr y))) else none
  | _ => none)
 | _ => none
def tyI : FieldType → Bool | .int => true | _ => false
def tyB : FieldType → Bool | .boolean => true | .byte => true | _ => false
def qfit : FieldType → Value → Option Value
 | .int, .int x => some (.int x)
 | .boolean, .int x => (qboo x).bind fun y => some (.int y)
 | .long, .long x => some (.long x)
 | .array t, .ref a => some (.ref a)
 | _, _ => none
def qget (pc : Nat) (L : QLoc) (S : List Value) (σ : QHeap) (k : Nat) : Option QSt :=
 match S with
 | .ref a :: S' => (match hget σ a with
  | some (.inl vs) => (match vget vs k with | some v => some (pc, L, v :: S', σ) | none => none)
  | _ => none)
 | _ => none
def qput (pc : Nat) (L : QLoc) (S : List Value) (σ : QHeap) (k : Nat) : Option QSt :=
 match S with
 | v :: .ref a :: S' => (match hget σ a with
  | some (.inl vs) => bif Nat.ble k0 a && Nat.ble (k + 1) vs.length then (qfit (fTy k) v).bind fun w => some (pc, L, S', σ.set a (.inl (vs.set k w))) else none
  | _ => none)
 | _ => none
def qnewA (pc : Nat) (L : QLoc) (S : List Value) (σ : QHeap) (t : ArrayType) : Option QSt :=
 match S with
 | .int n :: S' => (match t with
  | .int => (qnew n).bind fun k => some (pc, L, .ref σ.length :: S', σ ++ [.inr (.inl (.int, List.replicate k 0))])
  | .boolean => (qnew n).bind fun k => some (pc, L, .ref σ.length :: S', σ ++ [.inr (.inl (.boolean, List.replicate k 0))])
  | .byte => (qnew n).bind fun k => some (pc, L, .ref σ.length :: S', σ ++ [.inr (.inl (.byte, List.replicate k 0))])
  | .long => (qnew n).bind fun k => some (pc, L, .ref σ.length :: S', σ ++ [.inr (.inr (List.replicate k 0))])
  | _ => none)
 | _ => none
def qlen (pc : Nat) (L : QLoc) (S : List Value) (σ : QHeap) : Option QSt :=
 match S with
 | .ref a :: S' => (match hget σ a with
  | some (.inr (.inl x)) => some (pc, L, .int x.2.length.toInt32 :: S', σ)
  | some (.inr (.inr x)) => some (pc, L, .int x.length.toInt32 :: S', σ)
  | _ => none)
 | _ => none
def qdup (pc : Nat) (L : QLoc) (S : List Value) (σ : QHeap) : Option QSt :=
 match S with
 | .int x :: S' => some (pc, L, .int x :: .int x :: S', σ)
 | .ref x :: S' => some (pc, L, .ref x :: .ref x :: S', σ)
 | _ => none
def qdup2 (pc : Nat) (L : QLoc) (S : List Value) (σ : QHeap) : Option QSt :=
 match S with
 | .int x :: .ref y :: S' => some (pc, L, .int x :: .ref y :: .int x :: .ref y :: S', σ)
 | .int x :: .int y :: S' => some (pc, L, .int x :: .int y :: .int x :: .int y :: S', σ)
 | .long x :: S' => some (pc, L, .long x :: .long x :: S', σ)
 | _ => none
def qpop (pc : Nat) (L : QLoc) (S : List Value) (σ : QHeap) : Option QSt :=
 match S with
 | .int _ :: S' => some (pc, L, S', σ)
 | .ref _ :: S' => some (pc, L, S', σ)
 | _ => none
def qif (pc : Nat) (L : QLoc) (S : List Value) (σ : QHeap) (cd : ClassFile.Cond) (tgt : Nat) : Option QSt :=
 match S with
 | .int x :: S' => some (bif ifCond.holds cd x then tgt else pc, L, S', σ)
 | _ => none
def qicmp (pc : Nat) (L : QLoc) (S : List Value) (σ : QHeap) (cd : ClassFile.Cond) (tgt : Nat) : Option QSt :=
 match S with
 | .int y :: .int x :: S' => some (bif if_icmp.holds cd x y then tgt else pc, L, S', σ)
 | _ => none
def qinc (pc : Nat) (L : QLoc) (S : List Value) (σ : QHeap) (k : Nat) (i : Int) : Option QSt :=
 match lget L k with
 | some (.int x) => (match lput L k (.int (x + Int32.ofInt i)) with | some L' => some (pc, L', S, σ) | none => none)
 | _ => none
def qldc (pc : Nat) (L : QLoc) (S : List Value) (σ : QHeap) (k : Nat) : Option QSt :=
 match vget cK k with
 | some v => some (pc, L, v :: S, σ)
 | none => none
def qexec (pc : Nat) (L : QLoc) (S : List Value) (σ : QHeap) (aux : Nat) : Instr → Option QSt
 | .aload_n k => qload (pc + 1) L S σ k.val isR
 | .aload k => qload (pc + 2) L S σ k isR
 | .iload_n k => qload (pc + 1) L S σ k.val isI
 | .iload k => qload (pc + 2) L S σ k isI
 | .lload_n k => qload (pc + 1) L S σ k.val isJ
 | .lload k => qload (pc + 2) L S σ k isJ
 | .iconst i => some (pc + 1, L, .int (Int32.ofInt i) :: S, σ)
 | .bipush i => some (pc + 2, L, .int (Int8.ofInt i).toInt32 :: S, σ)
 | .sipush i => some (pc + 3, L, .int (Int16.ofInt i).toInt32 :: S, σ)
 | .lconst k => some (pc + 1, L, .long (Int64.ofNat k.val) :: S, σ)
 | .ldc _ => qldc (pc + 2) L S σ aux
 | .ldc2_w _ => qldc (pc + 3) L S σ aux
 | .istore_n k => qstore (pc + 1) L S σ k.val isI
 | .istore k => qstore (pc + 2) L S σ k isI
 | .lstore_n k => qstore (pc + 1) L S σ k.val isJ
 | .lstore k => qstore (pc + 2) L S σ k isJ
 | .astore_n k => qstore (pc + 1) L S σ k.val isR
 | .astore k => qstore (pc + 2) L S σ k isR
 | .iinc k i => qinc (pc + 3) L S σ k i
 | .iadd => qbin (pc + 1) L S σ fun x y => x + y
 | .isub => qbin (pc + 1) L S σ fun x y => x - y
 | .imul => qbin (pc + 1) L S σ fun x y => x * y
 | .iand => qbin (pc + 1) L S σ fun x y => x &&& y
 | .ior => qbin (pc + 1) L S σ fun x y => x ||| y
 | .ixor => qbin (pc + 1) L S σ fun x y => x ^^^ y
 | .ishl => qbin (pc + 1) L S σ fun x y => x <<< (y &&& 31)
 | .ishr => qbin (pc + 1) L S σ fun x y => x >>> (y &&& 31)
 | .iushr => qbin (pc + 1) L S σ fun x y => XT.ushr x y
 | .idiv => qbino (pc + 1) L S σ qdiv
 | .irem => qbino (pc + 1) L S σ qrem
 | .ineg => quni (pc + 1) L S σ fun x => .int (-x)
 | .i2l => quni (pc + 1) L S σ fun x => .long x.toInt64
 | .i2b => quni (pc + 1) L S σ fun x => .int x.toInt8.toInt32
 | .l2i => quniJ (pc + 1) L S σ fun x => .int x.toInt32
 | .lneg => quniJ (pc + 1) L S σ fun x => .long (-x)
 | .ladd => qbinJ (pc + 1) L S σ fun x y => x + y
 | .lsub => qbinJ (pc + 1) L S σ fun x y => x - y
 | .lmul => qbinJ (pc + 1) L S σ fun x y => x * y
 | .land => qbinJ (pc + 1) L S σ fun x y => x &&& y
 | .lor => qbinJ (pc + 1) L S σ fun x y => x ||| y
 | .lxor => qbinJ (pc + 1) L S σ fun x y => x ^^^ y
 | .lshl => qshJ (pc + 1) L S σ fun x y => x <<< (y.toInt64 &&& 63)
 | .lshr => qshJ (pc + 1) L S σ fun x y => x >>> (y.toInt64 &&& 63)
 | .lushr => qshJ (pc + 1) L S σ fun x y => XT.ushrL x y
 | .lcmp => (match S with
  | .long y :: .long x :: S' => some (pc + 1, L, .int (XT.cmpL x y) :: S', σ)
  | _ => none)
 | .goto _ => some (aux, L, S, σ)
 | .ifCond cd _ => qif (pc + 3) L S σ cd aux
 | .if_icmp cd _ => qicmp (pc + 3) L S σ cd aux
 | .dup => qdup (pc + 1) L S σ
 | .dup2 => qdup2 (pc + 1) L S σ
 | .pop => qpop (pc + 1) L S σ
 | .getfield _ => qget (pc + 3) L S σ aux
 | .putfield _ => qput (pc + 3) L S σ aux
 | .iaload => qald (pc + 1) L S σ tyI
 | .baload => qald (pc + 1) L S σ tyB
 | .laload => qaldJ (pc + 1) L S σ
 | .iastore => qast (pc + 1) L S σ tyI
 | .bastore => qast (pc + 1) L S σ tyB
 | .lastore => qastJ (pc + 1) L S σ
 | .arraylength => qlen (pc + 1) L S σ
 | .newarray t => qnewA (pc + 2) L S σ t
 | .new _ => some (pc + 3, L, .ref σ.length :: S, σ ++ [.inl cDef])
 | _ => none
def qstep (m : Nat) (st : QSt) : Option QSt :=
 match pCode m st.1 with
 | some (i, aux) => qexec st.1 st.2.1 st.2.2.1 st.2.2.2 aux i
 | none => none
def qsteps (m : Nat) : Nat → QSt → Option QSt
 | 0, st => some st
 | n + 1, st => match qstep m st with | some st' => qsteps m n st' | none => none
def qentry (args : List Value) (mx : Nat) : QLoc := (args.flatMap fun v => match v with | .long x => [some (.long x), none] | .double x => [some (.double x), none] | v => [some v]) ++ List.replicate (mx - (args.map fun v => v.category).sum) none
def ilen : Instr → Nat
 | .aload _ | .iload _ | .lload _ | .istore _ | .lstore _ | .astore _ | .bipush _ | .ldc _ | .newarray _ => 2
 | .sipush _ | .ldc2_w _ | .iinc _ _ | .goto _ | .ifCond _ _ | .if_icmp _ _ | .getfield _ | .putfield _ | .new _ | .invokevirtual _ | .invokespecial _ | .invokestatic _ => 3
 | _ => 1
def qtgt (pc : Nat) (o : Int) (aux : Nat) : Bool := decide (0 ≤ (pc : Int) + o) && decide (((pc : Int) + o).toNat = aux)
def qlk (m pc : Nat) (i : Instr) (aux : Nat) : Bool :=
 match i with
 | .goto o => qtgt pc o aux
 | .ifCond _ o => qtgt pc o aux
 | .if_icmp _ o => qtgt pc o aux
 | .getfield idx => lkF.contains (pK m, idx, aux)
 | .putfield idx => lkF.contains (pK m, idx, aux) && (!fFin aux || (pK m == 1 && pNm m == "<init>"))
 | .new idx => lkN.contains (pK m, idx)
 | .newarray t => aTys.contains (newarray.typeOf t)
 | .ldc idx => lkC.contains (pK m, idx, aux)
 | .ldc2_w idx => lkD.contains (pK m, idx, aux)
 | _ => true
def qchk (m pc : Nat) (i : Instr) (aux : Nat) : Bool := decide (decode (pBytes m) pc = .ok (i, ilen i)) && qlk m pc i aux
def QCellOk (Z : State) (ad : Nat → Addr) (h : Heap) (a : Addr) : QCell → Prop
 | .inl vs => Exa Z h a cName ∧ vs.length = nF ∧ ∀ (k : Nat) (v : Value), k < nF → vget vs k = some v → Fld Z h a cName (fNm k) (fDs k) (qv ad v)
 | .inr (.inl x) => ∃ c : Cell, Arr Z h a c x.1 ∧ c.slots = (x.2.map Value.int).toArray
 | .inr (.inr x) => ∃ c : Cell, Arr Z h a c .long ∧ c.slots = (x.map Value.long).toArray
def QAd (n0 : Nat) (ad : Nat → Addr) : Prop := (∀ k, k0 ≤ k → ad k = n0 + (k - k0)) ∧ ∀ i j, ad i = ad j → i = j
def QRep (Z : State) (n0 : Nat) (ad : Nat → Addr) (h : Heap) (σ : QHeap) : Prop := k0 ≤ σ.length ∧ h.size = n0 + (σ.length - k0) ∧ ∀ k c, hget σ k = some c → QCellOk Z ad h (ad k) c
def QLocOk (ad : Nat → Addr) (L : QLoc) (C : Array Slot) : Prop :=
 L.length = C.size ∧ (∀ k v, lget L k = some v → C[k]? = some (.val (qv ad v))) ∧ (∀ k w, C[k]? = some (.val w) → w.category = 2 → C[k + 1]? = some .second) ∧ ∀ k, C[k]? = some .second → ∃ j w, k = j + 1 ∧ C[j]? = some (.val w) ∧ w.category = 2
def QW (Z : State) (a0 : Array Value) : Prop :=
 (∀ t ∈ lkF, (Cond.fieldLink (kName t.1) t.2.1 cName (fNm t.2.2) (fDs t.2.2)).before a0 Z = true) ∧
 (∀ t ∈ lkN, (Cond.classLink (kName t.1) t.2 cName).before a0 Z = true) ∧
 (∀ t ∈ lkC, ∃ v, vget cK t.2.2 = some (.int v) ∧ (Cond.constant (kName t.1) t.2.1 v).before a0 Z = true) ∧
 (∀ t ∈ lkD, ∃ v, vget cK t.2.2 = some (.long v) ∧ (Cond.constantLong (kName t.1) t.2.1 v).before a0 Z = true) ∧
 (∀ t ∈ lkV, (Cond.methodLink (kName t.1) t.2.1 (pName t.2.2)).before a0 Z = true) ∧
 (∀ t ∈ lkO, (Cond.methodLink (kName t.1) t.2 Lib.objectInit).before a0 Z = true) ∧
 (∀ m ∈ mV, (Cond.declares (pName m)).before a0 Z = true ∧ (Cond.selects cName (pName m) (pName m)).before a0 Z = true ∧ (Cond.instanceMethod (pName m)).before a0 Z = true) ∧
 (∀ m ∈ mP, (Cond.instanceMethod (pName m)).before a0 Z = true ∧ (Cond.privateMethod (pName m)).before a0 Z = true) ∧
 (∀ m ∈ mS, (Cond.static (pName m)).before a0 Z = true) ∧
 (∀ m ∈ mI, (Cond.instanceMethod (pName m)).before a0 Z = true) ∧
 (∀ m ∈ mA, (Cond.code (pName m) (pBytes m) (pMaxL m) (pRet m)).before a0 Z = true ∧ (Cond.initialized (kName (pK m))).before a0 Z = true) ∧
 (Cond.instanceMethod Lib.objectInit).before a0 Z = true ∧ (Cond.code Lib.objectInit ⟨#[0xb1]⟩ 1 none).before a0 Z = true ∧
 (∀ k, k < nF → bif fFin k then (Cond.laysFinal cName cName (fNm k) (fDs k)).before a0 Z = true else (Cond.lays cName cName (fNm k) (fDs k)).before a0 Z = true) ∧
 (Cond.instantiable cName cN).before a0 Z = true ∧ (Cond.initialized cName).before a0 Z = true ∧
 ∀ ty ∈ aTys, (Cond.arrayClass ty).before a0 Z = true
section Words
variable {Z : State} {a0 : Array Value}
theorem qw_fl (W : QW Z a0) : ∀ t ∈ lkF, (Cond.fieldLink (kName t.1) t.2.1 cName (fNm t.2.2) (fDs t.2.2)).before a0 Z = true := W.1
theorem qw_nw (W : QW Z a0) : ∀ t ∈ lkN, (Cond.classLink (kName t.1) t.2 cName).before a0 Z = true := W.2.1
theorem qw_cI (W : QW Z a0) : ∀ t ∈ lkC, ∃ v, vget cK t.2.2 = some (.int v) ∧ (Cond.constant (kName t.1) t.2.1 v).before a0 Z = true := W.2.2.1
theorem qw_cJ (W : QW Z a0) : ∀ t ∈ lkD, ∃ v, vget cK t.2.2 = some (.long v) ∧ (Cond.constantLong (kName t.1) t.2.1 v).before a0 Z = true := W.2.2.2.1
theorem qw_ml (W : QW Z a0) : ∀ t ∈ lkV, (Cond.methodLink (kName t.1) t.2.1 (pName t.2.2)).before a0 Z = true := W.2.2.2.2.1
theorem qw_mo (W : QW Z a0) : ∀ t ∈ lkO, (Cond.methodLink (kName t.1) t.2 Lib.objectInit).before a0 Z = true := W.2.2.2.2.2.1
theorem qw_vi (W : QW Z a0) : ∀ m ∈ mV, (Cond.declares (pName m)).before a0 Z = true ∧ (Cond.selects cName (pName m) (pName m)).before a0 Z = true ∧ (Cond.instanceMethod (pName m)).before a0 Z = true := W.2.2.2.2.2.2.1
theorem qw_pr (W : QW Z a0) : ∀ m ∈ mP, (Cond.instanceMethod (pName m)).before a0 Z = true ∧ (Cond.privateMethod (pName m)).before a0 Z = true := W.2.2.2.2.2.2.2.1
theorem qw_st (W : QW Z a0) : ∀ m ∈ mS, (Cond.static (pName m)).before a0 Z = true := W.2.2.2.2.2.2.2.2.1
theorem qw_ini (W : QW Z a0) : ∀ m ∈ mI, (Cond.instanceMethod (pName m)).before a0 Z = true := W.2.2.2.2.2.2.2.2.2.1
theorem qw_cod (W : QW Z a0) : ∀ m ∈ mA, (Cond.code (pName m) (pBytes m) (pMaxL m) (pRet m)).before a0 Z = true ∧ (Cond.initialized (kName (pK m))).before a0 Z = true := W.2.2.2.2.2.2.2.2.2.2.1
theorem qw_oi (W : QW Z a0) : (Cond.instanceMethod Lib.objectInit).before a0 Z = true := W.2.2.2.2.2.2.2.2.2.2.2.1
theorem qw_oc (W : QW Z a0) : (Cond.code Lib.objectInit ⟨#[0xb1]⟩ 1 none).before a0 Z = true := W.2.2.2.2.2.2.2.2.2.2.2.2.1
theorem qw_lay (W : QW Z a0) : ∀ k, k < nF → bif fFin k then (Cond.laysFinal cName cName (fNm k) (fDs k)).before a0 Z = true else (Cond.lays cName cName (fNm k) (fDs k)).before a0 Z = true := W.2.2.2.2.2.2.2.2.2.2.2.2.2.1
theorem qw_inst (W : QW Z a0) : (Cond.instantiable cName cN).before a0 Z = true := W.2.2.2.2.2.2.2.2.2.2.2.2.2.2.1
theorem qw_init (W : QW Z a0) : (Cond.initialized cName).before a0 Z = true := W.2.2.2.2.2.2.2.2.2.2.2.2.2.2.2.1
theorem qw_arr (W : QW Z a0) : ∀ ty ∈ aTys, (Cond.arrayClass ty).before a0 Z = true := W.2.2.2.2.2.2.2.2.2.2.2.2.2.2.2.2
end Words
theorem hget_eq : ∀ (σ : QHeap) k, hget σ k = σ[k]?
 | [], _ => by simp [hget]
 | _ :: _, 0 => by simp [hget]
 | _ :: t, k + 1 => by simp [hget, hget_eq t k]
theorem vget_eq : ∀ (σ : List Value) k, vget σ k = σ[k]?
 | [], _ => by simp [vget]
 | _ :: _, 0 => by simp [vget]
 | _ :: t, k + 1 => by simp [vget, vget_eq t k]
theorem lget_eq : ∀ (L : QLoc) k, lget L k = (L[k]?).getD none
 | [], _ => by simp [lget]
 | _ :: _, 0 => by simp [lget]
 | _ :: t, k + 1 => by simp [lget, lget_eq t k]
theorem lget_lt {L : QLoc} {k : Nat} {v : Value} (h : lget L k = some v) : k < L.length := by
 rw [lget_eq] at h
 rcases Nat.lt_or_ge k L.length with q | q
 ·exact q
 ·simp [List.getElem?_eq_none q] at h
theorem lget_set {L : QLoc} {k j : Nat} {o : Option Value} (hk : k < L.length) : lget (L.set k o) j = if j = k then o else lget L j := by
 simp only [lget_eq, List.getElem?_set]
 by_cases e : k = j
 ·subst e; simp [hk]
 ·simp [e, Ne.symm e]
theorem qhs_app (σ τ : QHeap) : qhs (σ ++ τ) = qhs σ + qhs τ := by
 induction σ with
 | nil => simp [qhs]
 | cons c t ih => simp [qhs, ih, Nat.add_assoc]
theorem qhs_set {σ : QHeap} {k : Nat} {c d : QCell} (h : hget σ k = some c) (hs : qsz d = qsz c) : qhs (σ.set k d) = qhs σ := by
 induction σ generalizing k with
 | nil => simp [hget] at h
 | cons x t ih =>
  cases k with
  | zero => simp only [hget, Option.some.injEq] at h; subst h; simp [qhs, hs]
  | succ k => simp only [hget] at h; simp [qhs, ih h]
theorem hget_set {σ : QHeap} {k j : Nat} {c d : QCell} (h : hget σ k = some c) : hget (σ.set k d) j = if j = k then some d else hget σ j := by
 rw [hget_eq] at h
 have hk := (List.getElem?_eq_some_iff.mp h).1
 simp only [hget_eq, List.getElem?_set]
 by_cases e : k = j
 ·subst e; simp [hk]
 ·simp [e, Ne.symm e]
theorem lkill_len (L : QLoc) (k : Nat) : (lkill L k).length = L.length := by
 cases k with
 | zero => rfl
 | succ k => simp only [lkill]; split <;> simp
theorem lget_kill {L : QLoc} {k j : Nat} {v : Value} (h : lget (lkill L k) j = some v) : lget L j = some v ∧ (k = j + 1 → v.category ≠ 2) := by
 cases k with
 | zero => exact ⟨h, fun e => by omega⟩
 | succ k =>
  simp only [lkill] at h
  split at h
  ·rename_i x q
   rw [lget_set (lget_lt q)] at h
   split at h
   ·cases h
   ·rename_i ne; exact ⟨h, fun e => absurd (by omega) ne⟩
  ·rename_i x q
   rw [lget_set (lget_lt q)] at h
   split at h
   ·cases h
   ·rename_i ne; exact ⟨h, fun e => absurd (by omega) ne⟩
  ·rename_i q1 q2
   refine ⟨h, fun e hc => ?_⟩
   obtain rfl : j = k := by omega
   cases v with
   | long x => exact q1 _ h
   | double x => exact q2 _ h
   | _ => simp [Value.category] at hc
theorem qv_cat (ad : Nat → Addr) (v : Value) : (qv ad v).category = v.category := by cases v <;> rfl
def kA (C : Array Slot) (k j : Nat) : Prop := k = j + 1 ∧ C[k]? = some .second
def kB (C : Array Slot) (k j : Nat) : Prop := j = k + 1 ∧ ∃ u, C[k]? = some (.val u) ∧ u.category = 2
def kD (C : Array Slot) (k j : Nat) : Prop := j = k + 2 ∧ ∃ u, C[k + 1]? = some (.val u) ∧ u.category = 2
theorem set1_at {C D : Array Slot} {k : Nat} {w : Value} (hk : k < C.size) (hw : w.category = 1) (h : storeLocals C k w = some D) :
  D.size = C.size ∧ D[k]? = some (.val w) ∧ ∀ j, j ≠ k → (D[j]? = C[j]? ∧ ¬ kA C k j ∧ ¬ kB C k j) ∨ D[j]? = some .unset ∧ (kA C k j ∨ kB C k j) := by
 have hck : C[k]? = some C[k] := Array.getElem?_eq_getElem hk
 unfold storeLocals at h
 simp only [hck, Option.bind_eq_bind, Option.bind_some] at h
 have self : ∀ {E : Array Slot}, k < E.size → storeSelf E k w = some D → D = E.setIfInBounds k (.val w) := by
  intro E hE q
  simp only [storeSelf, setAt, hE, if_true, Option.bind_eq_bind, Option.bind_some, hw] at q
  simpa using q.symm
 split at h
 ·rename_i q
  have hk1 : k - 1 < C.size := by omega
  simp only [setAt, hk1, if_true, Option.bind_some] at h
  have e := self (by simpa using hk) h
  subst e
  refine ⟨by simp, by simp [hk], fun j hj => ?_⟩
  by_cases ej : k = j + 1
  ·refine Or.inr ⟨?_, Or.inl ⟨ej, by rw [hck, q]⟩⟩
   rw [Array.getElem?_setIfInBounds_ne (Ne.symm hj), show j = k - 1 by omega]
   simp [hk1]
  ·refine Or.inl ⟨?_, fun x => ej x.1, fun x => ?_⟩
   ·rw [Array.getElem?_setIfInBounds_ne (Ne.symm hj), Array.getElem?_setIfInBounds_ne (by omega)]
   ·obtain ⟨-, u, x1, -⟩ := x
    rw [hck, q] at x1; cases x1
 ·rename_i u q
  split at h
  ·rename_i hu
   by_cases hk1 : k + 1 < C.size
   ·simp only [setAt, hk1, if_true, Option.bind_some] at h
    have e := self (by simpa using hk) h
    subst e
    refine ⟨by simp, by simp [hk], fun j hj => ?_⟩
    by_cases ej : j = k + 1
    ·refine Or.inr ⟨?_, Or.inr ⟨ej, u, by rw [hck, q], hu⟩⟩
     rw [Array.getElem?_setIfInBounds_ne (Ne.symm hj), ej]
     simp [hk1]
    ·refine Or.inl ⟨?_, fun x => ?_, fun x => ej x.1⟩
     ·rw [Array.getElem?_setIfInBounds_ne (Ne.symm hj), Array.getElem?_setIfInBounds_ne (by omega)]
     ·obtain ⟨-, x1⟩ := x
      rw [hck, q] at x1; cases x1
   ·simp [setAt, hk1] at h
  ·rename_i hu
   have e := self hk h
   subst e
   refine ⟨by simp, by simp [hk], fun j hj => Or.inl ⟨Array.getElem?_setIfInBounds_ne (Ne.symm hj), fun x => ?_, fun x => ?_⟩⟩
   ·obtain ⟨-, x1⟩ := x
    rw [hck, q] at x1; cases x1
   ·obtain ⟨-, u', x1, x2⟩ := x
    rw [hck, q] at x1; cases x1; exact hu x2
 ·rename_i q
  have e := self hk h
  subst e
  refine ⟨by simp, by simp [hk], fun j hj => Or.inl ⟨Array.getElem?_setIfInBounds_ne (Ne.symm hj), fun x => ?_, fun x => ?_⟩⟩
  ·obtain ⟨-, x1⟩ := x
   rw [hck, q] at x1; cases x1
  ·obtain ⟨-, u', x1, x2⟩ := x
   rw [hck, q] at x1; cases x1
theorem set2_at {C D : Array Slot} {k : Nat} {w : Value} (hk : k + 1 < C.size) (hw : w.category = 2) (wf : ∀ k w, C[k]? = some (.val w) → w.category = 2 → C[k + 1]? = some .second) (h : storeLocals C k w = some D) :
  D.size = C.size ∧ D[k]? = some (.val w) ∧ D[k + 1]? = some .second ∧ ∀ j, j ≠ k → j ≠ k + 1 → (D[j]? = C[j]? ∧ ¬ kA C k j ∧ ¬ kD C k j) ∨ D[j]? = some .unset ∧ (kA C k j ∨ kD C k j) := by
 have hk0 : k < C.size := by omega
 have hck : C[k]? = some C[k] := Array.getElem?_eq_getElem hk0
 unfold storeLocals at h
 simp only [hck, Option.bind_eq_bind, Option.bind_some] at h
 have self : ∀ {E : Array Slot}, E.size = C.size → storeSelf E k w = some D → D.size = C.size ∧ D[k]? = some (.val w) ∧ D[k + 1]? = some .second ∧ ∀ j, j ≠ k → j ≠ k + 1 → (D[j]? = E[j]? ∧ ¬ kD E k j) ∨ D[j]? = some .unset ∧ kD E k j := by
  intro E hs q
  have h1 : k < E.size := by omega
  have h2 : k + 1 < E.size := by omega
  have h3 : (E.setIfInBounds k (.val w))[k + 1]? = some E[k + 1] := by rw [Array.getElem?_setIfInBounds_ne (by omega)]; exact Array.getElem?_eq_getElem h2
  simp only [storeSelf, setAt, h1, if_true, Option.bind_eq_bind, Option.bind_some, hw, h3] at q
  have plain : (¬ ∃ u, E[k + 1]? = some (.val u) ∧ u.category = 2) → some ((E.setIfInBounds k (.val w)).setIfInBounds (k + 1) .second) = some D → D.size = C.size ∧ D[k]? = some (.val w) ∧ D[k + 1]? = some .second ∧ ∀ j, j ≠ k → j ≠ k + 1 → (D[j]? = E[j]? ∧ ¬ kD E k j) ∨ D[j]? = some .unset ∧ kD E k j := by
   intro no q
   cases q
   refine ⟨by simp [hs], ?_, ?_, fun j hj hj1 => Or.inl ⟨?_, fun x => no x.2⟩⟩
   ·rw [Array.getElem?_setIfInBounds_ne (by omega)]; simp [h1]
   ·simp [h2]
   ·rw [Array.getElem?_setIfInBounds_ne (by omega), Array.getElem?_setIfInBounds_ne (by omega)]
  split at q
  ·rename_i u hu
   split at q
   ·rename_i hu2
    by_cases h5 : k + 2 < E.size
    ·simp [h5, h2] at q
     cases q
     refine ⟨by simp [hs], ?_, ?_, fun j hj hj1 => ?_⟩
     ·rw [Array.getElem?_setIfInBounds_ne (by omega), Array.getElem?_setIfInBounds_ne (by omega)]; simp [h1]
     ·simp [h2]
     ·by_cases e : j = k + 2
      ·refine Or.inr ⟨?_, e, u, by rw [Array.getElem?_eq_getElem h2, hu], hu2⟩
       rw [Array.getElem?_setIfInBounds_ne (by omega), e]
       simp [h5]
      ·refine Or.inl ⟨?_, fun x => e x.1⟩
       rw [Array.getElem?_setIfInBounds_ne (by omega), Array.getElem?_setIfInBounds_ne (by omega), Array.getElem?_setIfInBounds_ne (by omega)]
    ·simp [h5] at q
   ·rename_i hu2
    refine plain ?_ (by simpa [h2] using q)
    rintro ⟨u', x1, x2⟩
    rw [Array.getElem?_eq_getElem h2, hu] at x1; cases x1; exact hu2 x2
  ·rename_i hu
   refine plain ?_ (by simpa [h2] using q)
   rintro ⟨u', x1, x2⟩
   rw [Array.getElem?_eq_getElem h2] at x1; exact hu _ (Option.some.inj x1)
 split at h
 ·rename_i q
  have hk1 : k - 1 < C.size := by omega
  simp only [setAt, hk1, if_true, Option.bind_some] at h
  obtain ⟨e1, e2, e3, e4⟩ := self (by simp) h
  refine ⟨e1, e2, e3, fun j hj hj1 => ?_⟩
  have h6 : ∀ i, i + 1 ≠ k ∨ k = 0 → i ≠ k ∨ k ≠ 0 → (C.setIfInBounds (k - 1) Slot.unset)[i]? = C[i]? := fun i hi hi2 => Array.getElem?_setIfInBounds_ne (by omega)
  have h7 : (C.setIfInBounds (k - 1) Slot.unset)[k + 1]? = C[k + 1]? := Array.getElem?_setIfInBounds_ne (by omega)
  rcases e4 j hj hj1 with ⟨r, r'⟩ | ⟨r, r1, u, r2, r3⟩
  ·by_cases ej : k = j + 1
   ·refine Or.inr ⟨?_, Or.inl ⟨ej, by rw [hck, q]⟩⟩
    rw [r, show j = k - 1 by omega]; simp [hk1]
   ·refine Or.inl ⟨by rw [r]; exact h6 _ (by omega) (by omega), fun x => ej x.1, fun x => r' ⟨x.1, ?_⟩⟩
    rw [h7]; exact x.2
  ·exact Or.inr ⟨r, Or.inr ⟨r1, u, by rw [← h7]; exact r2, r3⟩⟩
 ·rename_i u q
  split at h
  ·rename_i hu
   simp only [setAt, hk, if_true, Option.bind_some] at h
   obtain ⟨e1, e2, e3, e4⟩ := self (by simp) h
   have hsec := wf k u (by rw [hck, q]) hu
   refine ⟨e1, e2, e3, fun j hj hj1 => ?_⟩
   rcases e4 j hj hj1 with ⟨r, r'⟩ | ⟨r, r1, u', r2, r3⟩
   ·refine Or.inl ⟨by rw [r]; exact Array.getElem?_setIfInBounds_ne (by omega), fun x => ?_, fun x => ?_⟩
    ·obtain ⟨-, x1⟩ := x
     rw [hck, q] at x1; cases x1
    ·obtain ⟨-, u', x1, x2⟩ := x
     rw [hsec] at x1; cases x1
   ·simp [hk] at r2
  ·rename_i hu
   obtain ⟨e1, e2, e3, e4⟩ := self rfl h
   refine ⟨e1, e2, e3, fun j hj hj1 => ?_⟩
   rcases e4 j hj hj1 with ⟨r, r'⟩ | ⟨r, r'⟩
   ·refine Or.inl ⟨r, fun x => ?_, r'⟩
    obtain ⟨-, x1⟩ := x
    rw [hck, q] at x1; cases x1
   ·exact Or.inr ⟨r, Or.inr r'⟩
 ·rename_i q
  obtain ⟨e1, e2, e3, e4⟩ := self rfl h
  refine ⟨e1, e2, e3, fun j hj hj1 => ?_⟩
  rcases e4 j hj hj1 with ⟨r, r'⟩ | ⟨r, r'⟩
  ·refine Or.inl ⟨r, fun x => ?_, r'⟩
   obtain ⟨-, x1⟩ := x
   rw [hck, q] at x1; cases x1
  ·exact Or.inr ⟨r, Or.inr r'⟩
theorem store_some {C : Array Slot} {k : Nat} {w : Value} (hk : k + (w.category - 1) < C.size) (hc : w.category = 1 ∨ w.category = 2) (wf : ∀ k w, C[k]? = some (.val w) → w.category = 2 → C[k + 1]? = some .second) :
  ∃ D, storeLocals C k w = some D := by
 have hk0 : k < C.size := by omega
 have hck : C[k]? = some C[k] := Array.getElem?_eq_getElem hk0
 have self : ∀ {E : Array Slot}, E.size = C.size → (∀ u, E[k + 1]? = some (.val u) → u.category = 2 → k + 2 < E.size) → ∃ D, storeSelf E k w = some D := by
  intro E hs hn
  have h1 : k < E.size := by omega
  simp only [storeSelf, setAt, h1, if_true, Option.bind_eq_bind, Option.bind_some]
  rcases hc with hc | hc
  ·exact ⟨E.setIfInBounds k (.val w), by simp [hc]⟩
  ·have h2 : k + 1 < E.size := by omega
   have h3 : (E.setIfInBounds k (.val w))[k + 1]? = some E[k + 1] := by rw [Array.getElem?_setIfInBounds_ne (by omega)]; exact Array.getElem?_eq_getElem h2
   simp only [hc, if_true, h3, Option.bind_some]
   split
   ·rename_i u hu
    split
    ·rename_i hu2
     have h5 := hn u (by rw [Array.getElem?_eq_getElem h2, hu]) hu2
     exact ⟨_, by simp [h5, h2]; rfl⟩
    ·exact ⟨_, by simp [h2]; rfl⟩
   ·exact ⟨_, by simp [h2]; rfl⟩
 have next : ∀ u, C[k + 1]? = some (.val u) → u.category = 2 → k + 2 < C.size := fun u h1 h2 => (Array.getElem?_eq_some_iff.mp (wf _ _ h1 h2)).1
 unfold storeLocals
 simp only [hck, Option.bind_eq_bind, Option.bind_some]
 split
 ·have hk1 : k - 1 < C.size := by omega
  simp only [setAt, hk1, if_true, Option.bind_some]
  refine self (by simp) fun u h1 h2 => ?_
  rw [Array.getElem?_setIfInBounds_ne (by omega)] at h1
  simpa using next u h1 h2
 ·rename_i u q
  split
  ·rename_i hu
   have h5 := (Array.getElem?_eq_some_iff.mp (wf k u (by rw [hck, q]) hu)).1
   simp only [setAt, h5, if_true, Option.bind_some]
   refine self (by simp) fun u h1 h2 => ?_
   simp [h5] at h1
  ·exact self rfl next
 ·exact self rfl next
theorem store_ok1 {ad : Nat → Addr} {L : QLoc} {C : Array Slot} {k : Nat} {v : Value} (H : QLocOk ad L C) (hv : v.category = 1) (hk : k < L.length) :
  ∃ D, storeLocals C k (qv ad v) = some D ∧ QLocOk ad ((lkill L k).set k (some v)) D ∧ D.size = C.size := by
 obtain ⟨H1, H2, H3, H4⟩ := H
 have hc : (qv ad v).category = 1 := by rw [qv_cat, hv]
 obtain ⟨D, hD⟩ := store_some (C := C) (k := k) (w := qv ad v) (by rw [hc]; omega) (Or.inl hc) H3
 obtain ⟨d1, d2, d3⟩ := set1_at (by omega) hc hD
 refine ⟨D, hD, ⟨by simp [lkill_len, H1, d1], fun j u hj => ?_, fun j w hj hw => ?_, fun j hj => ?_⟩, d1⟩
 ·rw [lget_set (by rw [lkill_len]; exact hk)] at hj
  split at hj
  ·rename_i e; cases hj; rw [e]; exact d2
  ·rename_i ne
   obtain ⟨g1, g2⟩ := lget_kill hj
   have g3 := H2 j u g1
   rcases d3 j ne with ⟨r, -, -⟩ | ⟨-, ⟨r1, r2⟩ | ⟨r1, w, r2, r3⟩⟩
   ·rw [r]; exact g3
   ·obtain ⟨i, w, z1, z2, z3⟩ := H4 k r2
    obtain rfl : i = j := by omega
    rw [g3] at z2
    cases z2
    rw [qv_cat] at z3
    exact absurd z3 (g2 r1)
   ·have := H3 k w r2 r3
    rw [← r1, g3] at this
    cases this
 ·by_cases e : j = k
  ·subst e; rw [d2] at hj; cases hj; rw [hc] at hw; cases hw
  ·rcases d3 j e with ⟨r, nA, nB⟩ | ⟨r, -⟩
   ·rw [r] at hj
    have g := H3 j w hj hw
    have e2 : j + 1 ≠ k := fun q => nA ⟨q.symm, by rw [← q]; exact g⟩
    rcases d3 (j + 1) e2 with ⟨z, -, -⟩ | ⟨-, ⟨z1, z2⟩ | ⟨z1, -⟩⟩
    ·rw [z]; exact g
    ·obtain ⟨i, u, y1, y2, y3⟩ := H4 k z2
     obtain rfl : i = j + 1 := by omega
     rw [g] at y2; cases y2
    ·omega
   ·rw [r] at hj; cases hj
 ·by_cases e : j = k
  ·subst e; rw [d2] at hj; cases hj
  ·rcases d3 j e with ⟨r, nA, nB⟩ | ⟨r, -⟩
   ·rw [r] at hj
    obtain ⟨i, w, y1, y2, y3⟩ := H4 j hj
    refine ⟨i, w, y1, ?_, y3⟩
    have ei : i ≠ k := fun q => nB ⟨by omega, w, by rw [← q]; exact y2, y3⟩
    rcases d3 i ei with ⟨z, -, -⟩ | ⟨-, ⟨z1, z2⟩ | ⟨z1, u, z2, z3⟩⟩
    ·rw [z]; exact y2
    ·omega
    ·have := H3 k u z2 z3
     rw [← z1, y2] at this; cases this
   ·rw [r] at hj; cases hj
theorem store_ok2 {ad : Nat → Addr} {L : QLoc} {C : Array Slot} {k : Nat} {x : Int64} (H : QLocOk ad L C) (hk : k + 1 < L.length) :
  ∃ D, storeLocals C k (.long x) = some D ∧ QLocOk ad (((lkill L k).set k (some (.long x))).set (k + 1) none) D ∧ D.size = C.size := by
 obtain ⟨H1, H2, H3, H4⟩ := H
 have hc : (Value.long x).category = 2 := rfl
 obtain ⟨D, hD⟩ := store_some (C := C) (k := k) (w := .long x) (by rw [hc]; omega) (Or.inr hc) H3
 obtain ⟨d1, d2, d2', d3⟩ := set2_at (by omega) hc H3 hD
 refine ⟨D, hD, ⟨by simp [lkill_len, H1, d1], fun j u hj => ?_, fun j w hj hw => ?_, fun j hj => ?_⟩, d1⟩
 ·rw [lget_set (by simp [lkill_len]; exact hk)] at hj
  split at hj
  ·cases hj
  ·rename_i ne1
   rw [lget_set (by rw [lkill_len]; omega)] at hj
   split at hj
   ·rename_i e; cases hj; rw [e]; exact d2
   ·rename_i ne
    obtain ⟨g1, g2⟩ := lget_kill hj
    have g3 := H2 j u g1
    rcases d3 j ne ne1 with ⟨r, -, -⟩ | ⟨-, ⟨r1, r2⟩ | ⟨r1, w, r2, r3⟩⟩
    ·rw [r]; exact g3
    ·obtain ⟨i, w, z1, z2, z3⟩ := H4 k r2
     obtain rfl : i = j := by omega
     rw [g3] at z2
     cases z2
     rw [qv_cat] at z3
     exact absurd z3 (g2 r1)
    ·have := H3 (k + 1) w r2 r3
     rw [show k + 1 + 1 = j by omega, g3] at this
     cases this
 ·by_cases e : j = k
  ·rw [e]; exact d2'
  ·by_cases e1 : j = k + 1
   ·rw [e1, d2'] at hj; cases hj
   ·rcases d3 j e e1 with ⟨r, nA, nB⟩ | ⟨r, -⟩
    ·rw [r] at hj
     have g := H3 j w hj hw
     have e2 : j + 1 ≠ k := fun q => nA ⟨q.symm, by rw [← q]; exact g⟩
     rcases d3 (j + 1) e2 (by omega) with ⟨z, -, -⟩ | ⟨-, ⟨z1, z2⟩ | ⟨z1, -⟩⟩
     ·rw [z]; exact g
     ·obtain ⟨i, u, y1, y2, y3⟩ := H4 k z2
      obtain rfl : i = j + 1 := by omega
      rw [g] at y2; cases y2
     ·omega
    ·rw [r] at hj; cases hj
 ·by_cases e : j = k
  ·rw [e, d2] at hj; cases hj
  ·by_cases e1 : j = k + 1
   ·exact ⟨k, _, e1, d2, hc⟩
   ·rcases d3 j e e1 with ⟨r, nA, nB⟩ | ⟨r, -⟩
    ·rw [r] at hj
     obtain ⟨i, w, y1, y2, y3⟩ := H4 j hj
     refine ⟨i, w, y1, ?_, y3⟩
     have ei : i ≠ k := fun q => e1 (by omega)
     have ei1 : i ≠ k + 1 := fun q => nB ⟨by omega, w, by rw [← q]; exact y2, y3⟩
     rcases d3 i ei ei1 with ⟨z, -, -⟩ | ⟨-, ⟨z1, z2⟩ | ⟨z1, u, z2, z3⟩⟩
     ·rw [z]; exact y2
     ·omega
     ·have := H3 (k + 1) u z2 z3
      rw [show k + 1 + 1 = i by omega, y2] at this; cases this
    ·rw [r] at hj; cases hj
theorem store_ok {ad : Nat → Addr} {L L' : QLoc} {C : Array Slot} {k : Nat} {v : Value} (H : QLocOk ad L C) (h : lput L k v = some L') :
  ∃ D, storeLocals C k (qv ad v) = some D ∧ QLocOk ad L' D ∧ D.size = C.size := by
 have one : v.category = 1 → (bif Nat.ble (k + 1) L.length then some ((lkill L k).set k (some v)) else none) = some L' → ∃ D, storeLocals C k (qv ad v) = some D ∧ QLocOk ad L' D ∧ D.size = C.size := by
  intro hv h
  cases hb : Nat.ble (k + 1) L.length with
  | false => rw [hb] at h; cases h
  | true => rw [hb] at h; cases h; exact store_ok1 H hv (Nat.le_of_ble_eq_true hb)
 cases v with
 | long x =>
  simp only [lput] at h
  cases hb : Nat.ble (k + 2) L.length with
  | false => rw [hb] at h; cases h
  | true => rw [hb] at h; cases h; exact store_ok2 H (Nat.le_of_ble_eq_true hb)
 | double x => simp [lput] at h
 | int x => exact one rfl h
 | float x => exact one rfl h
 | null => exact one rfl h
 | ref x => exact one rfl h
 | retAddr x => exact one rfl h
theorem fInj : ∀ i, i < nF → ∀ j, j < nF → fNm i = fNm j → i = j := by decide +kernel
theorem fPrs : ∀ i, i < nF → parseFieldDescriptor (fDs i) = some (fTy i) := by decide +kernel
theorem cDefs : ∀ i, i < nF → vget cDef i = some (defaultValue (fTy i)) := by decide +kernel
theorem cDefL : cDef.length = nF := by decide +kernel
theorem fDef : ∀ i, i < nF → ∀ a, defaultValue (fTy i) ≠ .ref a := by
 intro i _ a
 cases fTy i <;> simp [defaultValue]
theorem kPlain : ∀ k, k < 2 → plainName (kName k) = true := by
 intro k hk
 rcases k with _ | _ | k
 ·first | decide +kernel | (simp [kName, plainName, overriddenIn]; done)
 ·first | decide +kernel | (simp [kName, plainName, overriddenIn]; done)
 ·omega
theorem pKlt : ∀ m, m < pN → pK m < 2 := by decide +kernel
theorem pSig : ∀ m, m < pN → (parseMethodDescriptor (pDs m)).map (fun sg => sg.parameters.length) = some (pNA m) := by decide +kernel
theorem pOwn : ∀ k, k < 2 → kName k ≠ "java/lang/invoke/MethodHandle" ∧ kName k ≠ "java/lang/invoke/VarHandle" := by decide +kernel
theorem mAlt : ∀ m ∈ mA, m < pN := by decide +kernel
theorem mVlt : ∀ m ∈ mV, m ∈ mA ∧ pK m = 1 := by decide +kernel
theorem mPlt : ∀ m ∈ mP, m ∈ mA ∧ pK m = 1 := by decide +kernel
theorem mSlt : ∀ m ∈ mS, m ∈ mA := by decide +kernel
theorem mIlt : ∀ m ∈ mI, m ∈ mA ∧ pK m = 1 ∧ pNm m = "<init>" ∧ pRet m = none := by decide +kernel
theorem kOne : kName 1 = cName := rfl
def pX (m pc : Nat) : Bool := match pCode m pc with | some t => qchk m pc t.1 t.2 | none => true
set_option maxRecDepth 100000 in
set_option maxHeartbeats 4000000 in
theorem pC0_0 : ∀ q, q < 128 → pX 0 (0 + q) = true := by decide +kernel
set_option maxRecDepth 100000 in
set_option maxHeartbeats 4000000 in
theorem pC0_128 : ∀ q, q < 128 → pX 0 (128 + q) = true := by decide +kernel
set_option maxRecDepth 100000 in
set_option maxHeartbeats 4000000 in
theorem pC0_256 : ∀ q, q < 7 → pX 0 (256 + q) = true := by decide +kernel
theorem pCm0 (pc : Nat) (h : pc < pTop 0) : pX 0 pc = true := by
 replace h : pc < 263 := h
 by_cases h0 : pc < 128
 ·have q := pC0_0 (pc - 0) (by omega)
  rwa [show 0 + (pc - 0) = pc from by omega] at q
 by_cases h128 : pc < 256
 ·have q := pC0_128 (pc - 128) (by omega)
  rwa [show 128 + (pc - 128) = pc from by omega] at q
 have q := pC0_256 (pc - 256) (by omega)
 rwa [show 256 + (pc - 256) = pc from by omega] at q
set_option maxRecDepth 100000 in
set_option maxHeartbeats 4000000 in
theorem pC1_0 : ∀ q, q < 128 → pX 1 (0 + q) = true := by decide +kernel
set_option maxRecDepth 100000 in
set_option maxHeartbeats 4000000 in
theorem pC1_128 : ∀ q, q < 128 → pX 1 (128 + q) = true := by decide +kernel
set_option maxRecDepth 100000 in
set_option maxHeartbeats 4000000 in
theorem pC1_256 : ∀ q, q < 53 → pX 1 (256 + q) = true := by decide +kernel
theorem pCm1 (pc : Nat) (h : pc < pTop 1) : pX 1 pc = true := by
 replace h : pc < 309 := h
 by_cases h0 : pc < 128
 ·have q := pC1_0 (pc - 0) (by omega)
  rwa [show 0 + (pc - 0) = pc from by omega] at q
 by_cases h128 : pc < 256
 ·have q := pC1_128 (pc - 128) (by omega)
  rwa [show 128 + (pc - 128) = pc from by omega] at q
 have q := pC1_256 (pc - 256) (by omega)
 rwa [show 256 + (pc - 256) = pc from by omega] at q
set_option maxRecDepth 100000 in
set_option maxHeartbeats 4000000 in
theorem pC2_0 : ∀ q, q < 5 → pX 2 (0 + q) = true := by decide +kernel
theorem pCm2 (pc : Nat) (h : pc < pTop 2) : pX 2 pc = true := by
 replace h : pc < 5 := h
 have q := pC2_0 (pc - 0) (by omega)
 rwa [show 0 + (pc - 0) = pc from by omega] at q
set_option maxRecDepth 100000 in
set_option maxHeartbeats 4000000 in
theorem pC3_0 : ∀ q, q < 46 → pX 3 (0 + q) = true := by decide +kernel
theorem pCm3 (pc : Nat) (h : pc < pTop 3) : pX 3 pc = true := by
 replace h : pc < 46 := h
 have q := pC3_0 (pc - 0) (by omega)
 rwa [show 0 + (pc - 0) = pc from by omega] at q
set_option maxRecDepth 100000 in
set_option maxHeartbeats 4000000 in
theorem pC4_0 : ∀ q, q < 24 → pX 4 (0 + q) = true := by decide +kernel
theorem pCm4 (pc : Nat) (h : pc < pTop 4) : pX 4 pc = true := by
 replace h : pc < 24 := h
 have q := pC4_0 (pc - 0) (by omega)
 rwa [show 0 + (pc - 0) = pc from by omega] at q
set_option maxRecDepth 100000 in
set_option maxHeartbeats 4000000 in
theorem pC5_0 : ∀ q, q < 128 → pX 5 (0 + q) = true := by decide +kernel
set_option maxRecDepth 100000 in
set_option maxHeartbeats 4000000 in
theorem pC5_128 : ∀ q, q < 2 → pX 5 (128 + q) = true := by decide +kernel
theorem pCm5 (pc : Nat) (h : pc < pTop 5) : pX 5 pc = true := by
 replace h : pc < 130 := h
 by_cases h0 : pc < 128
 ·have q := pC5_0 (pc - 0) (by omega)
  rwa [show 0 + (pc - 0) = pc from by omega] at q
 have q := pC5_128 (pc - 128) (by omega)
 rwa [show 128 + (pc - 128) = pc from by omega] at q
set_option maxRecDepth 100000 in
set_option maxHeartbeats 4000000 in
theorem pC6_0 : ∀ q, q < 23 → pX 6 (0 + q) = true := by decide +kernel
theorem pCm6 (pc : Nat) (h : pc < pTop 6) : pX 6 pc = true := by
 replace h : pc < 23 := h
 have q := pC6_0 (pc - 0) (by omega)
 rwa [show 0 + (pc - 0) = pc from by omega] at q
set_option maxRecDepth 100000 in
set_option maxHeartbeats 4000000 in
theorem pC7_0 : ∀ q, q < 29 → pX 7 (0 + q) = true := by decide +kernel
theorem pCm7 (pc : Nat) (h : pc < pTop 7) : pX 7 pc = true := by
 replace h : pc < 29 := h
 have q := pC7_0 (pc - 0) (by omega)
 rwa [show 0 + (pc - 0) = pc from by omega] at q
set_option maxRecDepth 100000 in
set_option maxHeartbeats 4000000 in
theorem pC8_0 : ∀ q, q < 119 → pX 8 (0 + q) = true := by decide +kernel
theorem pCm8 (pc : Nat) (h : pc < pTop 8) : pX 8 pc = true := by
 replace h : pc < 119 := h
 have q := pC8_0 (pc - 0) (by omega)
 rwa [show 0 + (pc - 0) = pc from by omega] at q
set_option maxRecDepth 100000 in
set_option maxHeartbeats 4000000 in
theorem pC9_0 : ∀ q, q < 68 → pX 9 (0 + q) = true := by decide +kernel
theorem pCm9 (pc : Nat) (h : pc < pTop 9) : pX 9 pc = true := by
 replace h : pc < 68 := h
 have q := pC9_0 (pc - 0) (by omega)
 rwa [show 0 + (pc - 0) = pc from by omega] at q
set_option maxRecDepth 100000 in
set_option maxHeartbeats 4000000 in
theorem pC10_0 : ∀ q, q < 71 → pX 10 (0 + q) = true := by decide +kernel
theorem pCm10 (pc : Nat) (h : pc < pTop 10) : pX 10 pc = true := by
 replace h : pc < 71 := h
 have q := pC10_0 (pc - 0) (by omega)
 rwa [show 0 + (pc - 0) = pc from by omega] at q
set_option maxRecDepth 100000 in
set_option maxHeartbeats 4000000 in
theorem pC11_0 : ∀ q, q < 38 → pX 11 (0 + q) = true := by decide +kernel
theorem pCm11 (pc : Nat) (h : pc < pTop 11) : pX 11 pc = true := by
 replace h : pc < 38 := h
 have q := pC11_0 (pc - 0) (by omega)
 rwa [show 0 + (pc - 0) = pc from by omega] at q
set_option maxRecDepth 100000 in
set_option maxHeartbeats 4000000 in
theorem pC12_0 : ∀ q, q < 121 → pX 12 (0 + q) = true := by decide +kernel
theorem pCm12 (pc : Nat) (h : pc < pTop 12) : pX 12 pc = true := by
 replace h : pc < 121 := h
 have q := pC12_0 (pc - 0) (by omega)
 rwa [show 0 + (pc - 0) = pc from by omega] at q
set_option maxRecDepth 100000 in
set_option maxHeartbeats 4000000 in
theorem pC13_0 : ∀ q, q < 128 → pX 13 (0 + q) = true := by decide +kernel
set_option maxRecDepth 100000 in
set_option maxHeartbeats 4000000 in
theorem pC13_128 : ∀ q, q < 75 → pX 13 (128 + q) = true := by decide +kernel
theorem pCm13 (pc : Nat) (h : pc < pTop 13) : pX 13 pc = true := by
 replace h : pc < 203 := h
 by_cases h0 : pc < 128
 ·have q := pC13_0 (pc - 0) (by omega)
  rwa [show 0 + (pc - 0) = pc from by omega] at q
 have q := pC13_128 (pc - 128) (by omega)
 rwa [show 128 + (pc - 128) = pc from by omega] at q
set_option maxRecDepth 100000 in
set_option maxHeartbeats 4000000 in
theorem pC14_0 : ∀ q, q < 128 → pX 14 (0 + q) = true := by decide +kernel
set_option maxRecDepth 100000 in
set_option maxHeartbeats 4000000 in
theorem pC14_128 : ∀ q, q < 116 → pX 14 (128 + q) = true := by decide +kernel
theorem pCm14 (pc : Nat) (h : pc < pTop 14) : pX 14 pc = true := by
 replace h : pc < 244 := h
 by_cases h0 : pc < 128
 ·have q := pC14_0 (pc - 0) (by omega)
  rwa [show 0 + (pc - 0) = pc from by omega] at q
 have q := pC14_128 (pc - 128) (by omega)
 rwa [show 128 + (pc - 128) = pc from by omega] at q
set_option maxRecDepth 100000 in
set_option maxHeartbeats 4000000 in
theorem pC15_0 : ∀ q, q < 5 → pX 15 (0 + q) = true := by decide +kernel
theorem pCm15 (pc : Nat) (h : pc < pTop 15) : pX 15 pc = true := by
 replace h : pc < 5 := h
 have q := pC15_0 (pc - 0) (by omega)
 rwa [show 0 + (pc - 0) = pc from by omega] at q
set_option maxRecDepth 100000 in
set_option maxHeartbeats 4000000 in
theorem pC16_0 : ∀ q, q < 85 → pX 16 (0 + q) = true := by decide +kernel
theorem pCm16 (pc : Nat) (h : pc < pTop 16) : pX 16 pc = true := by
 replace h : pc < 85 := h
 have q := pC16_0 (pc - 0) (by omega)
 rwa [show 0 + (pc - 0) = pc from by omega] at q
set_option maxRecDepth 100000 in
set_option maxHeartbeats 4000000 in
theorem pC17_0 : ∀ q, q < 5 → pX 17 (0 + q) = true := by decide +kernel
theorem pCm17 (pc : Nat) (h : pc < pTop 17) : pX 17 pc = true := by
 replace h : pc < 5 := h
 have q := pC17_0 (pc - 0) (by omega)
 rwa [show 0 + (pc - 0) = pc from by omega] at q
set_option maxRecDepth 100000 in
set_option maxHeartbeats 4000000 in
theorem pC18_0 : ∀ q, q < 5 → pX 18 (0 + q) = true := by decide +kernel
theorem pCm18 (pc : Nat) (h : pc < pTop 18) : pX 18 pc = true := by
 replace h : pc < 5 := h
 have q := pC18_0 (pc - 0) (by omega)
 rwa [show 0 + (pc - 0) = pc from by omega] at q
set_option maxRecDepth 100000 in
set_option maxHeartbeats 4000000 in
theorem pC19_0 : ∀ q, q < 5 → pX 19 (0 + q) = true := by decide +kernel
theorem pCm19 (pc : Nat) (h : pc < pTop 19) : pX 19 pc = true := by
 replace h : pc < 5 := h
 have q := pC19_0 (pc - 0) (by omega)
 rwa [show 0 + (pc - 0) = pc from by omega] at q
set_option maxRecDepth 100000 in
set_option maxHeartbeats 4000000 in
theorem pC20_0 : ∀ q, q < 18 → pX 20 (0 + q) = true := by decide +kernel
theorem pCm20 (pc : Nat) (h : pc < pTop 20) : pX 20 pc = true := by
 replace h : pc < 18 := h
 have q := pC20_0 (pc - 0) (by omega)
 rwa [show 0 + (pc - 0) = pc from by omega] at q
set_option maxRecDepth 100000 in
set_option maxHeartbeats 4000000 in
theorem pC21_0 : ∀ q, q < 27 → pX 21 (0 + q) = true := by decide +kernel
theorem pCm21 (pc : Nat) (h : pc < pTop 21) : pX 21 pc = true := by
 replace h : pc < 27 := h
 have q := pC21_0 (pc - 0) (by omega)
 rwa [show 0 + (pc - 0) = pc from by omega] at q
set_option maxRecDepth 100000 in
set_option maxHeartbeats 4000000 in
theorem pC22_0 : ∀ q, q < 48 → pX 22 (0 + q) = true := by decide +kernel
theorem pCm22 (pc : Nat) (h : pc < pTop 22) : pX 22 pc = true := by
 replace h : pc < 48 := h
 have q := pC22_0 (pc - 0) (by omega)
 rwa [show 0 + (pc - 0) = pc from by omega] at q
set_option maxRecDepth 100000 in
set_option maxHeartbeats 4000000 in
theorem pC23_0 : ∀ q, q < 35 → pX 23 (0 + q) = true := by decide +kernel
theorem pCm23 (pc : Nat) (h : pc < pTop 23) : pX 23 pc = true := by
 replace h : pc < 35 := h
 have q := pC23_0 (pc - 0) (by omega)
 rwa [show 0 + (pc - 0) = pc from by omega] at q
set_option maxRecDepth 100000 in
set_option maxHeartbeats 4000000 in
theorem pC24_0 : ∀ q, q < 109 → pX 24 (0 + q) = true := by decide +kernel
theorem pCm24 (pc : Nat) (h : pc < pTop 24) : pX 24 pc = true := by
 replace h : pc < 109 := h
 have q := pC24_0 (pc - 0) (by omega)
 rwa [show 0 + (pc - 0) = pc from by omega] at q
set_option maxRecDepth 100000 in
set_option maxHeartbeats 4000000 in
theorem pC25_0 : ∀ q, q < 43 → pX 25 (0 + q) = true := by decide +kernel
theorem pCm25 (pc : Nat) (h : pc < pTop 25) : pX 25 pc = true := by
 replace h : pc < 43 := h
 have q := pC25_0 (pc - 0) (by omega)
 rwa [show 0 + (pc - 0) = pc from by omega] at q
set_option maxRecDepth 100000 in
set_option maxHeartbeats 4000000 in
theorem pC26_0 : ∀ q, q < 107 → pX 26 (0 + q) = true := by decide +kernel
theorem pCm26 (pc : Nat) (h : pc < pTop 26) : pX 26 pc = true := by
 replace h : pc < 107 := h
 have q := pC26_0 (pc - 0) (by omega)
 rwa [show 0 + (pc - 0) = pc from by omega] at q
set_option maxRecDepth 100000 in
set_option maxHeartbeats 4000000 in
theorem pC27_0 : ∀ q, q < 128 → pX 27 (0 + q) = true := by decide +kernel
theorem pCm27 (pc : Nat) (h : pc < pTop 27) : pX 27 pc = true := by
 replace h : pc < 128 := h
 have q := pC27_0 (pc - 0) (by omega)
 rwa [show 0 + (pc - 0) = pc from by omega] at q
set_option maxRecDepth 100000 in
set_option maxHeartbeats 4000000 in
theorem pC28_0 : ∀ q, q < 101 → pX 28 (0 + q) = true := by decide +kernel
theorem pCm28 (pc : Nat) (h : pc < pTop 28) : pX 28 pc = true := by
 replace h : pc < 101 := h
 have q := pC28_0 (pc - 0) (by omega)
 rwa [show 0 + (pc - 0) = pc from by omega] at q
set_option maxRecDepth 100000 in
set_option maxHeartbeats 4000000 in
theorem pC29_0 : ∀ q, q < 128 → pX 29 (0 + q) = true := by decide +kernel
set_option maxRecDepth 100000 in
set_option maxHeartbeats 4000000 in
theorem pC29_128 : ∀ q, q < 8 → pX 29 (128 + q) = true := by decide +kernel
theorem pCm29 (pc : Nat) (h : pc < pTop 29) : pX 29 pc = true := by
 replace h : pc < 136 := h
 by_cases h0 : pc < 128
 ·have q := pC29_0 (pc - 0) (by omega)
  rwa [show 0 + (pc - 0) = pc from by omega] at q
 have q := pC29_128 (pc - 128) (by omega)
 rwa [show 128 + (pc - 128) = pc from by omega] at q
set_option maxRecDepth 100000 in
set_option maxHeartbeats 4000000 in
theorem pC30_0 : ∀ q, q < 62 → pX 30 (0 + q) = true := by decide +kernel
theorem pCm30 (pc : Nat) (h : pc < pTop 30) : pX 30 pc = true := by
 replace h : pc < 62 := h
 have q := pC30_0 (pc - 0) (by omega)
 rwa [show 0 + (pc - 0) = pc from by omega] at q
set_option maxRecDepth 100000 in
set_option maxHeartbeats 4000000 in
theorem pC31_0 : ∀ q, q < 84 → pX 31 (0 + q) = true := by decide +kernel
theorem pCm31 (pc : Nat) (h : pc < pTop 31) : pX 31 pc = true := by
 replace h : pc < 84 := h
 have q := pC31_0 (pc - 0) (by omega)
 rwa [show 0 + (pc - 0) = pc from by omega] at q
set_option maxRecDepth 100000 in
set_option maxHeartbeats 4000000 in
theorem pC32_0 : ∀ q, q < 128 → pX 32 (0 + q) = true := by decide +kernel
set_option maxRecDepth 100000 in
set_option maxHeartbeats 4000000 in
theorem pC32_128 : ∀ q, q < 76 → pX 32 (128 + q) = true := by decide +kernel
theorem pCm32 (pc : Nat) (h : pc < pTop 32) : pX 32 pc = true := by
 replace h : pc < 204 := h
 by_cases h0 : pc < 128
 ·have q := pC32_0 (pc - 0) (by omega)
  rwa [show 0 + (pc - 0) = pc from by omega] at q
 have q := pC32_128 (pc - 128) (by omega)
 rwa [show 128 + (pc - 128) = pc from by omega] at q
set_option maxRecDepth 100000 in
set_option maxHeartbeats 4000000 in
theorem pC33_0 : ∀ q, q < 110 → pX 33 (0 + q) = true := by decide +kernel
theorem pCm33 (pc : Nat) (h : pc < pTop 33) : pX 33 pc = true := by
 replace h : pc < 110 := h
 have q := pC33_0 (pc - 0) (by omega)
 rwa [show 0 + (pc - 0) = pc from by omega] at q
set_option maxRecDepth 100000 in
set_option maxHeartbeats 4000000 in
theorem pC34_0 : ∀ q, q < 69 → pX 34 (0 + q) = true := by decide +kernel
theorem pCm34 (pc : Nat) (h : pc < pTop 34) : pX 34 pc = true := by
 replace h : pc < 69 := h
 have q := pC34_0 (pc - 0) (by omega)
 rwa [show 0 + (pc - 0) = pc from by omega] at q
set_option maxRecDepth 100000 in
set_option maxHeartbeats 4000000 in
theorem pC35_0 : ∀ q, q < 87 → pX 35 (0 + q) = true := by decide +kernel
theorem pCm35 (pc : Nat) (h : pc < pTop 35) : pX 35 pc = true := by
 replace h : pc < 87 := h
 have q := pC35_0 (pc - 0) (by omega)
 rwa [show 0 + (pc - 0) = pc from by omega] at q
set_option maxRecDepth 100000 in
set_option maxHeartbeats 4000000 in
theorem pC36_0 : ∀ q, q < 28 → pX 36 (0 + q) = true := by decide +kernel
theorem pCm36 (pc : Nat) (h : pc < pTop 36) : pX 36 pc = true := by
 replace h : pc < 28 := h
 have q := pC36_0 (pc - 0) (by omega)
 rwa [show 0 + (pc - 0) = pc from by omega] at q
set_option maxRecDepth 100000 in
set_option maxHeartbeats 4000000 in
theorem pC37_0 : ∀ q, q < 115 → pX 37 (0 + q) = true := by decide +kernel
theorem pCm37 (pc : Nat) (h : pc < pTop 37) : pX 37 pc = true := by
 replace h : pc < 115 := h
 have q := pC37_0 (pc - 0) (by omega)
 rwa [show 0 + (pc - 0) = pc from by omega] at q
theorem pChk0 : ∀ m, m < pN → ∀ pc, pc < pTop m → (match pCode m pc with | some t => qchk m pc t.1 t.2 | none => true) = true := by
 intro m hm pc hp
 change pX m pc = true
 match m, hm, hp with
 | 0, _, hp => exact pCm0 pc hp
 | 1, _, hp => exact pCm1 pc hp
 | 2, _, hp => exact pCm2 pc hp
 | 3, _, hp => exact pCm3 pc hp
 | 4, _, hp => exact pCm4 pc hp
 | 5, _, hp => exact pCm5 pc hp
 | 6, _, hp => exact pCm6 pc hp
 | 7, _, hp => exact pCm7 pc hp
 | 8, _, hp => exact pCm8 pc hp
 | 9, _, hp => exact pCm9 pc hp
 | 10, _, hp => exact pCm10 pc hp
 | 11, _, hp => exact pCm11 pc hp
 | 12, _, hp => exact pCm12 pc hp
 | 13, _, hp => exact pCm13 pc hp
 | 14, _, hp => exact pCm14 pc hp
 | 15, _, hp => exact pCm15 pc hp
 | 16, _, hp => exact pCm16 pc hp
 | 17, _, hp => exact pCm17 pc hp
 | 18, _, hp => exact pCm18 pc hp
 | 19, _, hp => exact pCm19 pc hp
 | 20, _, hp => exact pCm20 pc hp
 | 21, _, hp => exact pCm21 pc hp
 | 22, _, hp => exact pCm22 pc hp
 | 23, _, hp => exact pCm23 pc hp
 | 24, _, hp => exact pCm24 pc hp
 | 25, _, hp => exact pCm25 pc hp
 | 26, _, hp => exact pCm26 pc hp
 | 27, _, hp => exact pCm27 pc hp
 | 28, _, hp => exact pCm28 pc hp
 | 29, _, hp => exact pCm29 pc hp
 | 30, _, hp => exact pCm30 pc hp
 | 31, _, hp => exact pCm31 pc hp
 | 32, _, hp => exact pCm32 pc hp
 | 33, _, hp => exact pCm33 pc hp
 | 34, _, hp => exact pCm34 pc hp
 | 35, _, hp => exact pCm35 pc hp
 | 36, _, hp => exact pCm36 pc hp
 | 37, _, hp => exact pCm37 pc hp
 | m + 38, hm, _ => exact absurd hm (by unfold pN; omega)
theorem pIn {m pc : Nat} {t : Instr × Nat} (h : pCode m pc = some t) : m < pN ∧ pc < pTop m := by
 unfold pCode at h
 cases h1 : Nat.ble pN m with
 | true => rw [h1] at h; cases h
 | false =>
  cases h2 : Nat.ble (pTop m) pc with
  | true => rw [h1, h2] at h; cases h
  | false => exact ⟨Nat.lt_of_not_le (fun q => by rw [Nat.ble_eq_true_of_le q] at h1; cases h1), Nat.lt_of_not_le (fun q => by rw [Nat.ble_eq_true_of_le q] at h2; cases h2)⟩
theorem pChk {m pc : Nat} {i : Instr} {aux : Nat} (h : pCode m pc = some (i, aux)) : qchk m pc i aux = true := by
 have q := pChk0 m (pIn h).1 pc (pIn h).2
 rw [h] at q
 exact q
theorem pDec {m pc : Nat} {i : Instr} {aux : Nat} (h : pCode m pc = some (i, aux)) : decode (pBytes m) pc = .ok (i, ilen i) := by
 have q := pChk h
 unfold qchk at q
 exact of_decide_eq_true (Bool.and_eq_true_iff.mp q).1
theorem pDecN {m pc n : Nat} {i : Instr} {aux : Nat} (h : pCode m pc = some (i, aux)) (hn : ilen i = n) : decode (pBytes m) pc = .ok (i, n) := by
 rw [← hn]; exact pDec h
theorem pRest {m pc : Nat} {i : Instr} {aux : Nat} (h : pCode m pc = some (i, aux)) : qlk m pc i aux = true := by
 have q := pChk h
 unfold qchk at q
 exact (Bool.and_eq_true_iff.mp q).2
theorem qtgt_spec {pc : Nat} {o : Int} {aux : Nat} (h : qtgt pc o aux = true) : 0 ≤ (pc : Int) + o ∧ ((pc : Int) + o).toNat = aux := by
 unfold qtgt at h
 have h2 := Bool.and_eq_true_iff.mp h
 exact ⟨of_decide_eq_true h2.1, of_decide_eq_true h2.2⟩
def QCx (Z : State) (p : Program) (R : Room) (s : State) (mid : MethodId) (meth : Method) (c : Code) (m : Nat) : Prop :=
 p.tables.exec = Jvm.exec ∧ Z.Warmed39 s.vm ∧ c.code = pBytes m ∧ c.maxLocals = pMaxL m ∧ meth.sig.returnType = pRet m ∧ s.vm.findClass (kName (pK m)) = some mid.cls ∧ meth.name = pNm m ∧ pFr m ≤ R.frames ∧ pLo m ≤ R.locals
def QTri (l : Launch) (Z : State) (n0 : Nat) (ad : Nat → Addr) (m : Nat) (st : QSt) (v : Option Value) (σ' : QHeap) : Prop :=
 st.2.2.2.length ≤ σ'.length ∧ qhs st.2.2.2 ≤ qhs σ' ∧
 ∀ (p : Program) (e : Env) (R : Room) (s : State) (mid : MethodId) (args : Array Value) (below : List Frame) (meth : Method) (c : Code) (T : State) (locs : List Loc) (cells slots : Nat) (C : Array Slot),
  QCx Z p R s mid meth c m → Stand p l e R s mid args below meth c T locs cells slots → QRep Z n0 ad T.heap st.2.2.2 → Fr n0 locs → QLocOk ad st.2.1 C → C.size = c.maxLocals →
  n0 + (st.2.2.2.length - k0) = s.heap.size + cells → cells + (σ'.length - st.2.2.2.length) ≤ R.cells → slots + (qhs σ' - qhs st.2.2.2) ≤ R.slots →
  ∃ T' locs', Stand p l e R s mid args below meth c T' locs' (cells + (σ'.length - st.2.2.2.length)) (slots + (qhs σ' - qhs st.2.2.2)) ∧ QRep Z n0 ad T'.heap σ' ∧ Fr n0 locs' ∧
   ∀ fs, (∀ (f : JFrame) (acts : List Action), f.method = mid → f.locked = none → f.entered = [] → (doReturn e (T'.setTop f) acts (v.map (qv ad))).1 = T'.setFrames fs) →
    Steps p.tables e below (T.setTop (mkF mid st.1 C (st.2.2.1.map (qv ad)))) (T'.setFrames fs)
section Triples
variable {l : Launch} {Z : State} {n0 : Nat} {ad : Nat → Addr} {a0 : Array Value} {m : Nat} {v : Option Value} {σ' : QHeap}
theorem QTri.gen {st st' : QSt} (h : QTri l Z n0 ad m st' v σ') (g1 : st.2.2.2.length ≤ st'.2.2.2.length) (g2 : qhs st.2.2.2 ≤ qhs st'.2.2.2)
  (hs : ∀ (p : Program) (e : Env) (R : Room) (s : State) (mid : MethodId) (args : Array Value) (below : List Frame) (meth : Method) (c : Code) (T : State) (locs : List Loc) (cells slots : Nat) (C : Array Slot),
   QCx Z p R s mid meth c m → Stand p l e R s mid args below meth c T locs cells slots → QRep Z n0 ad T.heap st.2.2.2 → Fr n0 locs → QLocOk ad st.2.1 C → C.size = c.maxLocals →
   n0 + (st.2.2.2.length - k0) = s.heap.size + cells → cells + (st'.2.2.2.length - st.2.2.2.length) ≤ R.cells → slots + (qhs st'.2.2.2 - qhs st.2.2.2) ≤ R.slots →
   ∃ T₁ locs₁ C₁, Stand p l e R s mid args below meth c T₁ locs₁ (cells + (st'.2.2.2.length - st.2.2.2.length)) (slots + (qhs st'.2.2.2 - qhs st.2.2.2)) ∧ QRep Z n0 ad T₁.heap st'.2.2.2 ∧ Fr n0 locs₁ ∧ QLocOk ad st'.2.1 C₁ ∧ C₁.size = c.maxLocals ∧
    ∀ target, Steps p.tables e below (T₁.setTop (mkF mid st'.1 C₁ (st'.2.2.1.map (qv ad)))) target → Steps p.tables e below (T.setTop (mkF mid st.1 C (st.2.2.1.map (qv ad)))) target) :
  QTri l Z n0 ad m st v σ' := by
 obtain ⟨h1, h2, h3⟩ := h
 refine ⟨Nat.le_trans g1 h1, Nat.le_trans g2 h2, fun p e R s mid args below meth c T locs cells slots C hcx X hR hF hL hC hn hc hsl => ?_⟩
 obtain ⟨T₁, locs₁, C₁, X₁, R₁, F₁, L₁, C1, S₁⟩ := hs p e R s mid args below meth c T locs cells slots C hcx X hR hF hL hC hn (by omega) (by omega)
 have hk := hR.1
 obtain ⟨T', locs', X', R', F', S'⟩ := h3 p e R s mid args below meth c T₁ locs₁ _ _ C₁ hcx X₁ R₁ F₁ L₁ C1 (by omega) (by omega) (by omega)
 have e1 : cells + (st'.2.2.2.length - st.2.2.2.length) + (σ'.length - st'.2.2.2.length) = cells + (σ'.length - st.2.2.2.length) := by omega
 have e2 : slots + (qhs st'.2.2.2 - qhs st.2.2.2) + (qhs σ' - qhs st'.2.2.2) = slots + (qhs σ' - qhs st.2.2.2) := by omega
 rw [e1, e2] at X'
 exact ⟨T', locs', X', R', F', fun fs hf => S₁ _ (S' fs hf)⟩
theorem QTri.pure {st st' : QSt} (h : QTri l Z n0 ad m st' v σ') (hσ : st'.2.2.2 = st.2.2.2)
  (hs : ∀ (p : Program) (e : Env) (R : Room) (s : State) (mid : MethodId) (args : Array Value) (below : List Frame) (meth : Method) (c : Code) (T : State) (locs : List Loc) (cells slots : Nat) (C : Array Slot),
   QCx Z p R s mid meth c m → Stand p l e R s mid args below meth c T locs cells slots → QRep Z n0 ad T.heap st.2.2.2 → QLocOk ad st.2.1 C → C.size = c.maxLocals →
   ∃ T₁ C₁, Stand p l e R s mid args below meth c T₁ locs cells slots ∧ T₁.heap = T.heap ∧ QLocOk ad st'.2.1 C₁ ∧ C₁.size = c.maxLocals ∧
    ∀ target, Steps p.tables e below (T₁.setTop (mkF mid st'.1 C₁ (st'.2.2.1.map (qv ad)))) target → Steps p.tables e below (T.setTop (mkF mid st.1 C (st.2.2.1.map (qv ad)))) target) :
  QTri l Z n0 ad m st v σ' := by
 refine QTri.gen h (by rw [hσ]; exact Nat.le_refl _) (by rw [hσ]; exact Nat.le_refl _) fun p e R s mid args below meth c T locs cells slots C hcx X hR hF hL hC hn hc hsl => ?_
 obtain ⟨T₁, C₁, X₁, hh, L₁, C1, S₁⟩ := hs p e R s mid args below meth c T locs cells slots C hcx X hR hL hC
 refine ⟨T₁, locs, C₁, ?_, by rw [hσ, hh]; exact hR, hF, L₁, C1, S₁⟩
 rw [hσ, Nat.sub_self, Nat.sub_self]
 exact X₁
theorem QTri.frame {pc pc' : Nat} {L L' : QLoc} {S S' : List Value} {σ : QHeap} (h : QTri l Z n0 ad m (pc', L', S', σ) v σ')
  (hs : ∀ (p : Program) (e : Env) (R : Room) (s : State) (mid : MethodId) (args : Array Value) (below : List Frame) (meth : Method) (c : Code) (T : State) (locs : List Loc) (cells slots : Nat) (C : Array Slot),
   QCx Z p R s mid meth c m → Stand p l e R s mid args below meth c T locs cells slots → QRep Z n0 ad T.heap σ → QLocOk ad L C → C.size = c.maxLocals →
   ∃ C₁, QLocOk ad L' C₁ ∧ C₁.size = c.maxLocals ∧ ∀ target, Steps p.tables e below (T.setTop (mkF mid pc' C₁ (S'.map (qv ad)))) target → Steps p.tables e below (T.setTop (mkF mid pc C (S.map (qv ad)))) target) :
  QTri l Z n0 ad m (pc, L, S, σ) v σ' :=
 QTri.pure h rfl fun p e R s mid args below meth c T locs cells slots C hcx X hR hL hC => by
  obtain ⟨C₁, h1, h2, h3⟩ := hs p e R s mid args below meth c T locs cells slots C hcx X hR hL hC
  exact ⟨T, C₁, X, rfl, h1, h2, h3⟩
theorem QTri.stack {pc pc' : Nat} {L : QLoc} {S S' : List Value} {σ : QHeap} (h : QTri l Z n0 ad m (pc', L, S', σ) v σ')
  (hs : ∀ (p : Program) (e : Env) (R : Room) (s : State) (mid : MethodId) (args : Array Value) (below : List Frame) (meth : Method) (c : Code) (T : State) (locs : List Loc) (cells slots : Nat) (C : Array Slot) (target : State),
   p.tables.exec = Jvm.exec → Z.Warmed39 s.vm → c.code = pBytes m → s.vm.findClass (kName (pK m)) = some mid.cls → Stand p l e R s mid args below meth c T locs cells slots → QRep Z n0 ad T.heap σ → QLocOk ad L C →
   Steps p.tables e below (T.setTop (mkF mid pc' C (S'.map (qv ad)))) target → Steps p.tables e below (T.setTop (mkF mid pc C (S.map (qv ad)))) target) :
  QTri l Z n0 ad m (pc, L, S, σ) v σ' :=
 QTri.frame h fun p e R s mid args below meth c T locs cells slots C hcx X hR hL hC => ⟨C, hL, hC, fun target k => hs p e R s mid args below meth c T locs cells slots C target hcx.1 hcx.2.1 hcx.2.2.1 hcx.2.2.2.2.2.1 X hR hL k⟩
theorem qload_inv {pc : Nat} {L : QLoc} {S : List Value} {σ : QHeap} {k : Nat} {ok : Value → Bool} {st' : QSt} (h : qload pc L S σ k ok = some st') : ∃ v, lget L k = some v ∧ ok v = true ∧ st' = (pc, L, v :: S, σ) := by
 unfold qload at h
 split at h
 ·rename_i v hv
  cases ho : ok v with
  | true => rw [ho] at h; cases h; exact ⟨v, hv, ho, rfl⟩
  | false => rw [ho] at h; cases h
 ·cases h
theorem qstore_inv {pc : Nat} {L : QLoc} {S : List Value} {σ : QHeap} {k : Nat} {ok : Value → Bool} {st' : QSt} (h : qstore pc L S σ k ok = some st') : ∃ v S' L', S = v :: S' ∧ ok v = true ∧ lput L k v = some L' ∧ st' = (pc, L', S', σ) := by
 unfold qstore at h
 split at h
 ·rename_i v S'
  cases ho : ok v with
  | true =>
   rw [ho] at h
   simp only [cond_true] at h
   split at h
   ·rename_i L' hL'
    cases h; exact ⟨v, S', L', rfl, ho, hL', rfl⟩
   ·cases h
  | false => rw [ho] at h; cases h
 ·cases h
theorem qbin_inv {pc : Nat} {L : QLoc} {S : List Value} {σ : QHeap} {f : Int32 → Int32 → Int32} {st' : QSt} (h : qbin pc L S σ f = some st') : ∃ x y S', S = .int y :: .int x :: S' ∧ st' = (pc, L, .int (f x y) :: S', σ) := by
 unfold qbin at h
 split at h
 ·cases h; exact ⟨_, _, _, rfl, rfl⟩
 ·cases h
theorem qbino_inv {pc : Nat} {L : QLoc} {S : List Value} {σ : QHeap} {f : Int32 → Int32 → Option Int32} {st' : QSt} (h : qbino pc L S σ f = some st') : ∃ x y z S', S = .int y :: .int x :: S' ∧ f x y = some z ∧ st' = (pc, L, .int z :: S', σ) := by
 unfold qbino at h
 split at h
 ·obtain ⟨z, hz, h⟩ := Option.bind_eq_some_iff.mp h
  cases h; exact ⟨_, _, _, _, rfl, hz, rfl⟩
 ·cases h
theorem qbinJ_inv {pc : Nat} {L : QLoc} {S : List Value} {σ : QHeap} {f : Int64 → Int64 → Int64} {st' : QSt} (h : qbinJ pc L S σ f = some st') : ∃ x y S', S = .long y :: .long x :: S' ∧ st' = (pc, L, .long (f x y) :: S', σ) := by
 unfold qbinJ at h
 split at h
 ·cases h; exact ⟨_, _, _, rfl, rfl⟩
 ·cases h
theorem qshJ_inv {pc : Nat} {L : QLoc} {S : List Value} {σ : QHeap} {f : Int64 → Int32 → Int64} {st' : QSt} (h : qshJ pc L S σ f = some st') : ∃ x y S', S = .int y :: .long x :: S' ∧ st' = (pc, L, .long (f x y) :: S', σ) := by
 unfold qshJ at h
 split at h
 ·cases h; exact ⟨_, _, _, rfl, rfl⟩
 ·cases h
theorem quni_inv {pc : Nat} {L : QLoc} {S : List Value} {σ : QHeap} {f : Int32 → Value} {st' : QSt} (h : quni pc L S σ f = some st') : ∃ x S', S = .int x :: S' ∧ st' = (pc, L, f x :: S', σ) := by
 unfold quni at h
 split at h
 ·cases h; exact ⟨_, _, rfl, rfl⟩
 ·cases h
theorem quniJ_inv {pc : Nat} {L : QLoc} {S : List Value} {σ : QHeap} {f : Int64 → Value} {st' : QSt} (h : quniJ pc L S σ f = some st') : ∃ x S', S = .long x :: S' ∧ st' = (pc, L, f x :: S', σ) := by
 unfold quniJ at h
 split at h
 ·cases h; exact ⟨_, _, rfl, rfl⟩
 ·cases h
theorem qif_inv {pc : Nat} {L : QLoc} {S : List Value} {σ : QHeap} {cd : ClassFile.Cond} {t : Nat} {st' : QSt} (h : qif pc L S σ cd t = some st') : ∃ x S', S = .int x :: S' ∧ st' = (bif ifCond.holds cd x then t else pc, L, S', σ) := by
 unfold qif at h
 split at h
 ·cases h; exact ⟨_, _, rfl, rfl⟩
 ·cases h
theorem qicmp_inv {pc : Nat} {L : QLoc} {S : List Value} {σ : QHeap} {cd : ClassFile.Cond} {t : Nat} {st' : QSt} (h : qicmp pc L S σ cd t = some st') : ∃ x y S', S = .int y :: .int x :: S' ∧ st' = (bif if_icmp.holds cd x y then t else pc, L, S', σ) := by
 unfold qicmp at h
 split at h
 ·cases h; exact ⟨_, _, _, rfl, rfl⟩
 ·cases h
theorem qget_inv {pc : Nat} {L : QLoc} {S : List Value} {σ : QHeap} {k : Nat} {st' : QSt} (h : qget pc L S σ k = some st') : ∃ a S' vs v, S = .ref a :: S' ∧ hget σ a = some (.inl vs) ∧ vget vs k = some v ∧ st' = (pc, L, v :: S', σ) := by
 unfold qget at h
 split at h
 ·split at h
  ·split at h
   ·cases h; exact ⟨_, _, _, _, rfl, by assumption, by assumption, rfl⟩
   ·cases h
  ·cases h
 ·cases h
theorem qput_inv {pc : Nat} {L : QLoc} {S : List Value} {σ : QHeap} {k : Nat} {st' : QSt} (h : qput pc L S σ k = some st') : ∃ v a S' vs w, S = v :: .ref a :: S' ∧ hget σ a = some (.inl vs) ∧ k0 ≤ a ∧ k < vs.length ∧ qfit (fTy k) v = some w ∧ st' = (pc, L, S', σ.set a (.inl (vs.set k w))) := by
 unfold qput at h
 split at h
 ·rename_i v a S'
  split at h
  ·rename_i vs hvs
   cases hbb : (Nat.ble k0 a && Nat.ble (k + 1) vs.length) with
   | false => rw [hbb] at h; cases h
   | true =>
    rw [hbb] at h
    simp only [cond_true] at h
    obtain ⟨u, hu, h⟩ := Option.bind_eq_some_iff.mp h
    cases h
    obtain ⟨b1, b2⟩ := Bool.and_eq_true_iff.mp hbb
    exact ⟨v, a, S', vs, u, rfl, hvs, Nat.le_of_ble_eq_true b1, Nat.le_of_ble_eq_true b2, hu, rfl⟩
  ·cases h
 ·cases h
theorem qald_inv {pc : Nat} {L : QLoc} {S : List Value} {σ : QHeap} {ok : FieldType → Bool} {st' : QSt} (h : qald pc L S σ ok = some st') : ∃ j a S' ty xs v, S = .int j :: .ref a :: S' ∧ hget σ a = some (.inr (.inl (ty, xs))) ∧ ok ty = true ∧ aget xs j = some v ∧ st' = (pc, L, .int v :: S', σ) := by
 unfold qald at h
 split at h
 ·rename_i j a S'
  split at h
  ·rename_i x hx
   cases ht : ok x.1 with
   | false => rw [ht] at h; cases h
   | true =>
    rw [ht] at h
    simp only [cond_true] at h
    obtain ⟨u, hu, h⟩ := Option.bind_eq_some_iff.mp h
    cases h
    exact ⟨j, a, S', x.1, x.2, u, rfl, hx, ht, hu, rfl⟩
  ·cases h
 ·cases h
theorem qaldJ_inv {pc : Nat} {L : QLoc} {S : List Value} {σ : QHeap} {st' : QSt} (h : qaldJ pc L S σ = some st') : ∃ j a S' xs v, S = .int j :: .ref a :: S' ∧ hget σ a = some (.inr (.inr xs)) ∧ aget xs j = some v ∧ st' = (pc, L, .long v :: S', σ) := by
 unfold qaldJ at h
 split at h
 ·rename_i j a S'
  split at h
  ·rename_i x hx
   obtain ⟨u, hu, h⟩ := Option.bind_eq_some_iff.mp h
   cases h
   exact ⟨j, a, S', x, u, rfl, hx, hu, rfl⟩
  ·cases h
 ·cases h
theorem qast_inv {pc : Nat} {L : QLoc} {S : List Value} {σ : QHeap} {ok : FieldType → Bool} {st' : QSt} (h : qast pc L S σ ok = some st') : ∃ v j a S' ty xs ys, S = .int v :: .int j :: .ref a :: S' ∧ hget σ a = some (.inr (.inl (ty, xs))) ∧ ok ty = true ∧ k0 ≤ a ∧ aset xs j (qnar ty v) = some ys ∧ st' = (pc, L, S', σ.set a (.inr (.inl (ty, ys)))) := by
 unfold qast at h
 split at h
 ·rename_i v j a S'
  split at h
  ·rename_i x hx
   cases ht : (ok x.1 && Nat.ble k0 a) with
   | false => rw [ht] at h; cases h
   | true =>
    rw [ht] at h
    simp only [cond_true] at h
    obtain ⟨u, hu, h⟩ := Option.bind_eq_some_iff.mp h
    cases h
    obtain ⟨b1, b2⟩ := Bool.and_eq_true_iff.mp ht
    exact ⟨v, j, a, S', x.1, x.2, u, rfl, hx, b1, Nat.le_of_ble_eq_true b2, hu, rfl⟩
  ·cases h
 ·cases h
theorem qastJ_inv {pc : Nat} {L : QLoc} {S : List Value} {σ : QHeap} {st' : QSt} (h : qastJ pc L S σ = some st') : ∃ v j a S' xs ys, S = .long v :: .int j :: .ref a :: S' ∧ hget σ a = some (.inr (.inr xs)) ∧ k0 ≤ a ∧ aset xs j v = some ys ∧ st' = (pc, L, S', σ.set a (.inr (.inr ys))) := by
 unfold qastJ at h
 split at h
 ·rename_i v j a S'
  split at h
  ·rename_i x hx
   cases ht : (Nat.ble k0 a) with
   | false => rw [ht] at h; cases h
   | true =>
    rw [ht] at h
    simp only [cond_true] at h
    obtain ⟨u, hu, h⟩ := Option.bind_eq_some_iff.mp h
    cases h
    exact ⟨v, j, a, S', x, u, rfl, hx, Nat.le_of_ble_eq_true ht, hu, rfl⟩
  ·cases h
 ·cases h
theorem qlen_inv {pc : Nat} {L : QLoc} {S : List Value} {σ : QHeap} {st' : QSt} (h : qlen pc L S σ = some st') : ∃ a S' n, S = .ref a :: S' ∧ ((∃ ty xs, hget σ a = some (.inr (.inl (ty, xs))) ∧ n = xs.length) ∨ ∃ xs, hget σ a = some (.inr (.inr xs)) ∧ n = xs.length) ∧ st' = (pc, L, .int n.toInt32 :: S', σ) := by
 unfold qlen at h
 split at h
 ·rename_i a S'
  split at h
  ·rename_i x hx
   cases h; exact ⟨a, S', _, rfl, Or.inl ⟨x.1, x.2, hx, rfl⟩, rfl⟩
  ·rename_i x hx
   cases h; exact ⟨a, S', _, rfl, Or.inr ⟨x, hx, rfl⟩, rfl⟩
  ·cases h
 ·cases h
theorem isI_inv {v : Value} (h : isI v = true) : ∃ x, v = .int x := by cases v <;> simp [isI] at h; exact ⟨_, rfl⟩
theorem isJ_inv {v : Value} (h : isJ v = true) : ∃ x, v = .long x := by cases v <;> simp [isJ] at h; exact ⟨_, rfl⟩
theorem isR_inv {v : Value} (h : isR v = true) : ∃ x, v = .ref x := by cases v <;> simp [isR] at h; exact ⟨_, rfl⟩
theorem aget_inv {α : Type} {xs : List α} {j : Int32} {x : α} (h : aget xs j = some x) : ¬ j < 0 ∧ xs[j.toNatClampNeg]? = some x := by
 unfold aget at h
 split at h
 ·cases h
 ·rename_i q; exact ⟨q, h⟩
theorem aset_inv {α : Type} {xs ys : List α} {j : Int32} {x : α} (h : aset xs j x = some ys) : ¬ j < 0 ∧ j.toNatClampNeg < xs.length ∧ ys = xs.set j.toNatClampNeg x := by
 unfold aset at h
 split at h
 ·cases h
 ·rename_i q
  split at h
  ·rename_i q2; cases h; exact ⟨q, q2, rfl⟩
  ·cases h
theorem qnew_inv {n : Int32} {k : Nat} (h : qnew n = some k) : ¬ n < 0 ∧ n.toNatClampNeg = k ∧ k ≤ 67108864 := by
 unfold qnew at h
 split at h
 ·cases h
 ·rename_i q
  split at h
  ·rename_i q2; cases h; exact ⟨q, rfl, q2⟩
  ·cases h
theorem QCellOk.other {h h' : Heap} {a b : Addr} {sl : Nat} {w : Value} {c : QCell} (H : QCellOk Z ad h b c) (W : Wr h h' a sl w) (ne : b ≠ a) : QCellOk Z ad h' b c := by
 rcases c with vs | ⟨ty, xs⟩ | xs
 ·obtain ⟨h1, h2, h3⟩ := H
  exact ⟨h1.wr W, h2, fun k u hk hu => (h3 k u hk hu).other W (Or.inl ne)⟩
 ·obtain ⟨c, h1, h2⟩ := H
  exact ⟨c, h1.other W ne, h2⟩
 ·obtain ⟨c, h1, h2⟩ := H
  exact ⟨c, h1.other W ne, h2⟩
theorem QCellOk.ext {h h' : Heap} {b : Addr} {c : QCell} (H : QCellOk Z ad h b c) (E : Ext h h') : QCellOk Z ad h' b c := by
 rcases c with vs | ⟨ty, xs⟩ | xs
 ·obtain ⟨h1, h2, h3⟩ := H
  exact ⟨h1.ext E, h2, fun k u hk hu => (h3 k u hk hu).ext E⟩
 ·obtain ⟨c, h1, h2⟩ := H
  exact ⟨c, h1.ext E, h2⟩
 ·obtain ⟨c, h1, h2⟩ := H
  exact ⟨c, h1.ext E, h2⟩
theorem QRep.set {h h' : Heap} {σ : QHeap} {a : Nat} {sl : Nat} {w : Value} {c d : QCell} (H : QRep Z n0 ad h σ) (Ad : QAd n0 ad) (W : Wr h h' (ad a) sl w) (hc : hget σ a = some c) (hd : QCellOk Z ad h' (ad a) d) : QRep Z n0 ad h' (σ.set a d) := by
 obtain ⟨h1, h2, h3⟩ := H
 refine ⟨by simpa using h1, by rw [W.size, h2]; simp, fun k e he => ?_⟩
 rw [hget_set hc] at he
 split at he
 ·rename_i q; cases he; rw [q]; exact hd
 ·rename_i q; exact (h3 k e he).other W fun z => q (Ad.2 _ _ z)
theorem QRep.push {h h' : Heap} {σ : QHeap} {c : QCell} (H : QRep Z n0 ad h σ) (Ad : QAd n0 ad) (E : Ext h h') (hs : h'.size = h.size + 1) (hc : QCellOk Z ad h' h.size c) : QRep Z n0 ad h' (σ ++ [c]) := by
 obtain ⟨h1, h2, h3⟩ := H
 refine ⟨by simp; omega, by rw [hs, h2]; simp; omega, fun k e he => ?_⟩
 rw [hget_eq] at he
 rcases Nat.lt_or_ge k σ.length with q | q
 ·rw [List.getElem?_append_left q, ← hget_eq] at he
  exact (h3 k e he).ext E
 ·rw [List.getElem?_append_right q] at he
  obtain rfl : k = σ.length := by
   rcases Nat.lt_or_ge (k - σ.length) 1 with z | z
   ·omega
   ·rw [List.getElem?_eq_none (by simpa using z)] at he; cases he
  simp at he
  rw [← he, Ad.1 _ h1, ← h2]
  exact hc
theorem mem_of_contains {α : Type} [BEq α] [LawfulBEq α] {L : List α} {a : α} (h : L.contains a = true) : a ∈ L := by simpa using h
theorem lkF_lt : ∀ t ∈ lkF, t.2.2 < nF := by decide +kernel
theorem laid_of (W : QW Z a0) {k : Nat} (hk : k < nF) : Laid Z a0 cName cName (fNm k) (fDs k) := by
 have q := (qw_lay W) k hk
 cases hf : fFin k with
 | true => rw [hf] at q; exact Or.inr q
 | false => rw [hf] at q; exact Or.inl q
theorem qfit_inv {ty : FieldType} {v w : Value} (h : qfit ty v = some w) : v = w ∧ narrow ty (qv ad w) = qv ad w ∧ fits ty (qv ad w) = true := by
 unfold qfit at h
 split at h
 ·cases h; exact ⟨rfl, rfl, rfl⟩
 ·rename_i x
  obtain ⟨y, hy, h⟩ := Option.bind_eq_some_iff.mp h
  cases h
  unfold qboo at hy
  split at hy
  ·rename_i e; cases hy; subst e; exact ⟨rfl, rfl, rfl⟩
  ·split at hy
   ·rename_i e; cases hy; subst e; exact ⟨rfl, rfl, rfl⟩
   ·cases hy
 ·cases h; exact ⟨rfl, rfl, rfl⟩
 ·cases h; exact ⟨rfl, rfl, rfl⟩
 ·cases h
theorem vget_set {vs : List Value} {k j : Nat} {w : Value} (hk : k < vs.length) : vget (vs.set k w) j = if j = k then some w else vget vs j := by
 simp only [vget_eq, List.getElem?_set]
 by_cases e : k = j
 ·subst e; simp [hk]
 ·simp [e, Ne.symm e]
theorem ald_in {α : Type} {f : α → Value} {xs : List α} {c : Cell} {j : Int32} {x : α} (hc : c.slots = (xs.map f).toArray) (h : aget xs j = some x) : ¬ (j < 0 ∨ c.slots.size ≤ j.toNatClampNeg) ∧ c.slots[j.toNatClampNeg]? = some (f x) := by
 obtain ⟨h1, h2⟩ := aget_inv h
 have h3 := (List.getElem?_eq_some_iff.mp h2).1
 refine ⟨fun q => ?_, by rw [hc]; simp [h2]⟩
 rcases q with q | q
 ·exact h1 q
 ·rw [hc] at q; simp at q; omega
theorem ast_in {α : Type} {f : α → Value} {xs ys : List α} {c : Cell} {j : Int32} {x : α} (hc : c.slots = (xs.map f).toArray) (h : aset xs j x = some ys) : ¬ (j < 0 ∨ c.slots.size ≤ j.toNatClampNeg) ∧ (c.setSlot j.toNatClampNeg (f x)).slots = (ys.map f).toArray := by
 obtain ⟨h1, h2, rfl⟩ := aset_inv h
 refine ⟨fun q => ?_, by simp [Cell.setSlot, hc, List.map_set]⟩
 rcases q with q | q
 ·exact h1 q
 ·rw [hc] at q; simp at q; omega
theorem qgrow {σ : QHeap} {c : QCell} : qhs (σ ++ [c]) - qhs σ = qsz c := by rw [qhs_app]; simp [qhs]
set_option maxHeartbeats 4000000 in
theorem QTri.newArr (Ad : QAd n0 ad) (W : QW Z a0) {pc aux : Nat} {L : QLoc} {S : List Value} {σ : QHeap} {aty : ArrayType} {n : Int32} {k : Nat} {c : QCell} (hk : qnew n = some k) (hc : pCode m pc = some (.newarray aty, aux)) (hz : qsz c = k)
  (hq : ∀ (h' : Heap) (a : Addr) (cA : ClassId), Arr Z h' a (newA cA (newarray.typeOf aty) n) (newarray.typeOf aty) → QCellOk Z ad h' a c)
  (h : QTri l Z n0 ad m (pc + 2, L, .ref σ.length :: S, σ ++ [c]) v σ') : QTri l Z n0 ad m (pc, L, .int n :: S, σ) v σ' := by
 have hd : decode (pBytes m) pc = .ok (.newarray aty, 2) := pDecN hc rfl
 obtain ⟨n1, n2, n3⟩ := qnew_inv hk
 refine QTri.gen h (by simp) (by simp [qhs_app]) fun p e R s mid args below meth c' T locs cells slots C hcx X hR hF hL hC hn hc1 hsl => ?_
 obtain ⟨hx, hZ, hby, hml, hret, hown, hnm, hfr, hlo⟩ := hcx
 have hd2 : decode c'.code pc = .ok (.newarray aty, 2) := by rw [hby]; exact hd
 simp only [List.length_append, List.length_singleton, Nat.add_sub_cancel_left, qgrow, hz] at hc1 hsl ⊢
 obtain ⟨T₁, h₁, cA, X₁, e₁, E₁, A₁, st⟩ := newP X hx hZ (aty := aty) (qw_arr W (newarray.typeOf aty) (mem_of_contains (show aTys.contains (newarray.typeOf aty) = true from pRest hc))) rfl (g := mkF mid pc C (.int n :: S.map (qv ad))) rfl hd2 rfl n1 (cap := k) (by omega) (by omega) hc1 hsl
 have hsz : h₁.size = T.heap.size + 1 := by
  have q1 := X₁.heapSize
  have q2 : T.heap.size < h₁.size := A₁.lt
  have q3 := hR.2.1
  rw [e₁] at q1
  have : n0 + (σ.length - k0) = s.heap.size + cells := hn
  have q3' : T.heap.size = n0 + (σ.length - k0) := q3
  omega
 refine ⟨T₁, locs, C, X₁, ?_, hF, hL, hC, fun target q => ?_⟩
 ·rw [e₁]; exact QRep.push hR Ad E₁ hsz (hq _ _ _ A₁)
 ·refine st _ ?_
  have e2 : ad σ.length = T.heap.size := by rw [Ad.1 _ hR.1]; exact hR.2.1.symm
  simp only [List.map_cons, qv, e2] at q
  exact q
set_option maxHeartbeats 4000000 in
theorem QTri.getfield (W : QW Z a0) {pc idx aux : Nat} {L : QLoc} {S : List Value} {σ : QHeap} {st' : QSt} (h : QTri l Z n0 ad m st' v σ') (hc : pCode m pc = some (.getfield idx, aux)) (hs : qget (pc + 3) L S σ aux = some st') : QTri l Z n0 ad m (pc, L, S, σ) v σ' := by
 have hd : decode (pBytes m) pc = .ok (.getfield idx, 3) := pDecN hc rfl
 obtain ⟨a, S', vs, w, rfl, hvs, hw, rfl⟩ := qget_inv hs
 have hm := mem_of_contains (show lkF.contains (pK m, idx, aux) = true from pRest hc)
 have hlt := lkF_lt _ hm
 refine QTri.pure h rfl fun p e R s mid args below meth c T locs cells slots C hcx X hR hL hC => ?_
 obtain ⟨hx, hZ, hby, hml, hret, hown, hnm, hfr, hlo⟩ := hcx
 have hd2 : decode c.code pc = .ok (.getfield idx, 3) := by rw [hby]; exact hd
 have F := (hR.2.2 _ _ hvs).2.2 aux w hlt hw
 obtain ⟨T₁, X₁, e₁, st⟩ := getF X hx hZ hown (host := "") (index := idx) (Or.inl (qw_fl W (pK m, idx, aux) hm)) Via.refl rfl F (g := mkF mid pc C (List.map (qv ad) (.ref a :: S'))) rfl rfl hd2
 exact ⟨T₁, C, X₁, e₁, hL, hC, st⟩
set_option maxHeartbeats 4000000 in
theorem QTri.putfield (Ad : QAd n0 ad) (W : QW Z a0) {pc idx aux : Nat} {L : QLoc} {S : List Value} {σ : QHeap} {st' : QSt} (h : QTri l Z n0 ad m st' v σ') (hc : pCode m pc = some (.putfield idx, aux)) (hs : qput (pc + 3) L S σ aux = some st') : QTri l Z n0 ad m (pc, L, S, σ) v σ' := by
 have hd : decode (pBytes m) pc = .ok (.putfield idx, 3) := pDecN hc rfl
 obtain ⟨w, a, S', vs, u, rfl, hvs, b1, b2, hu, rfl⟩ := qput_inv hs
 obtain ⟨r1, r2⟩ := Bool.and_eq_true_iff.mp (show (lkF.contains (pK m, idx, aux) && (!fFin aux || (pK m == 1 && pNm m == "<init>"))) = true from pRest hc)
 have hm := mem_of_contains r1
 have hlt := lkF_lt _ hm
 obtain ⟨rfl, q2, q3⟩ := qfit_inv (ad := ad) hu
 have hsz : qhs (σ.set a (Sum.inl (vs.set aux w))) = qhs σ := qhs_set hvs rfl
 refine QTri.gen h (by simp) (by show qhs σ ≤ qhs (σ.set a (Sum.inl (vs.set aux w))); rw [hsz]; exact Nat.le_refl _) fun p e R s mid args below meth c T locs cells slots C hcx X hR hF hL hC hn hc1 hsl => ?_
 obtain ⟨hx, hZ, hby, hml, hret, hown, hnm, hfr, hlo⟩ := hcx
 have hd2 : decode c.code pc = .ok (.putfield idx, 3) := by rw [hby]; exact hd
 obtain ⟨E, l1, Fs⟩ := hR.2.2 _ _ hvs
 obtain ⟨old, hold⟩ : ∃ old, vget vs aux = some old := by rw [vget_eq]; exact ⟨_, List.getElem?_eq_getElem b2⟩
 have lay : (Cond.lays cName cName (fNm aux) (fDs aux)).before a0 Z = true ∨ ((Cond.laysFinal cName cName (fNm aux) (fDs aux)).before a0 Z = true ∧ kName (pK m) = cName ∧ meth.name = "<init>") := by
  have q := (qw_lay W) aux hlt
  cases hf : fFin aux with
  | false => rw [hf] at q; exact Or.inl q
  | true =>
   rw [hf] at q r2
   simp at r2
   exact Or.inr ⟨q, by rw [r2.1]; exact kOne, by rw [hnm]; exact r2.2⟩
 obtain ⟨T₁, h₁, X₁, e₁, W₁, st⟩ := putF X hx hZ hown (host := "") (index := idx) (Or.inl (qw_fl W (pK m, idx, aux) hm)) Via.refl rfl (Fs aux old hlt hold) E lay ((qw_inst W)) (fPrs aux hlt) q2 q3 (g := mkF mid pc C (List.map (qv ad) (w :: .ref a :: S'))) rfl rfl hd2
 refine ⟨T₁, _, C, ?_, ?_, Fr.snoc X₁ hF (by rw [Ad.1 a b1]; exact Nat.le_add_right _ _), hL, hC, st⟩
 ·show Stand _ _ _ _ _ _ _ _ _ _ _ _ (cells + ((σ.set a (Sum.inl (vs.set aux w))).length - σ.length)) (slots + (qhs (σ.set a (Sum.inl (vs.set aux w))) - qhs σ))
  rw [hsz, Nat.sub_self, List.length_set, Nat.sub_self]
  exact X₁
 ·rw [e₁]
  refine QRep.set hR Ad W₁ hvs ⟨E.wr W₁, by simpa using l1, fun k u hk hu => ?_⟩
  rw [vget_set b2] at hu
  split at hu
  ·rename_i e; cases hu; rw [e]; exact (Fs aux old hlt hold).same W₁
  ·rename_i ne
   exact (Fs k u hk hu).other W₁ (Or.inr (slot_ne (laid_of W hk) (laid_of W hlt) (fun z => ne (fInj _ hk _ hlt z)) (fPrs _ hk) (fPrs _ hlt)))
theorem tyI_inv {ty : FieldType} (h : tyI ty = true) : ty = .int := by cases ty <;> simp [tyI] at h; rfl
theorem tyB_inv {ty : FieldType} (h : tyB ty = true) : ty = .boolean ∨ ty = .byte := by cases ty <;> simp [tyB] at h <;> simp
set_option maxHeartbeats 4000000 in
theorem QTri.iaload {pc aux : Nat} {L : QLoc} {S : List Value} {σ : QHeap} {st' : QSt} (h : QTri l Z n0 ad m st' v σ') (hc : pCode m pc = some (.iaload, aux)) (hs : qald (pc + 1) L S σ tyI = some st') : QTri l Z n0 ad m (pc, L, S, σ) v σ' := by
 have hd : decode (pBytes m) pc = .ok (.iaload, 1) := pDecN hc rfl
 obtain ⟨j, a, S', ty, xs, w, rfl, hx1, ht, hw, rfl⟩ := qald_inv hs
 obtain rfl := tyI_inv ht
 refine QTri.stack h fun p e R s mid args below meth c T locs cells slots C target hx hZ hby hown X hR hL k => ?_
 have hd2 : decode c.code pc = .ok (.iaload, 1) := by rw [hby]; exact hd
 obtain ⟨cl, A, hsl⟩ := hR.2.2 _ _ hx1
 obtain ⟨i1, i2⟩ := ald_in hsl hw
 exact X.iaload hx A.1 (State.isArrayOf_alike hZ.alike A.2.1) A.2.2 i1 i2 (g := mkF mid pc C (List.map (qv ad) (.int j :: .ref a :: S'))) rfl rfl hd2 _ k
set_option maxHeartbeats 4000000 in
theorem QTri.baload {pc aux : Nat} {L : QLoc} {S : List Value} {σ : QHeap} {st' : QSt} (h : QTri l Z n0 ad m st' v σ') (hc : pCode m pc = some (.baload, aux)) (hs : qald (pc + 1) L S σ tyB = some st') : QTri l Z n0 ad m (pc, L, S, σ) v σ' := by
 have hd : decode (pBytes m) pc = .ok (.baload, 1) := pDecN hc rfl
 obtain ⟨j, a, S', ty, xs, w, rfl, hx1, ht, hw, rfl⟩ := qald_inv hs
 refine QTri.stack h fun p e R s mid args below meth c T locs cells slots C target hx hZ hby hown X hR hL k => ?_
 have hd2 : decode c.code pc = .ok (.baload, 1) := by rw [hby]; exact hd
 obtain ⟨cl, A, hsl⟩ := hR.2.2 _ _ hx1
 obtain ⟨i1, i2⟩ := ald_in hsl hw
 rcases tyB_inv ht with rfl | rfl
 ·exact X.baloadBooleans hx A.1 (State.isArrayOf_alike hZ.alike A.2.1) A.2.2 i1 i2 (g := mkF mid pc C (List.map (qv ad) (.int j :: .ref a :: S'))) rfl rfl hd2 _ k
 ·exact X.baloadBytes hx A.1 (State.isArrayOf_alike hZ.alike A.2.1) A.2.2 i1 i2 (g := mkF mid pc C (List.map (qv ad) (.int j :: .ref a :: S'))) rfl rfl hd2 _ k
set_option maxHeartbeats 4000000 in
theorem QTri.laload {pc aux : Nat} {L : QLoc} {S : List Value} {σ : QHeap} {st' : QSt} (h : QTri l Z n0 ad m st' v σ') (hc : pCode m pc = some (.laload, aux)) (hs : qaldJ (pc + 1) L S σ = some st') : QTri l Z n0 ad m (pc, L, S, σ) v σ' := by
 have hd : decode (pBytes m) pc = .ok (.laload, 1) := pDecN hc rfl
 obtain ⟨j, a, S', xs, w, rfl, hx1, hw, rfl⟩ := qaldJ_inv hs
 refine QTri.stack h fun p e R s mid args below meth c T locs cells slots C target hx hZ hby hown X hR hL k => ?_
 have hd2 : decode c.code pc = .ok (.laload, 1) := by rw [hby]; exact hd
 obtain ⟨cl, A, hsl⟩ := hR.2.2 _ _ hx1
 obtain ⟨i1, i2⟩ := ald_in hsl hw
 exact X.laload hx A.1 (State.isArrayOf_alike hZ.alike A.2.1) A.2.2 i1 i2 (g := mkF mid pc C (List.map (qv ad) (.int j :: .ref a :: S'))) rfl rfl hd2 _ k
theorem QTri.stored (Ad : QAd n0 ad) {pc : Nat} {L : QLoc} {S S' : List Value} {σ : QHeap} {a j : Nat} {w : Value} {c d : QCell} (hx1 : hget σ a = some c) (b1 : k0 ≤ a) (hz : qsz d = qsz c) (h : QTri l Z n0 ad m (pc + 1, L, S', σ.set a d) v σ')
  (hs : ∀ (p : Program) (e : Env) (R : Room) (s : State) (mid : MethodId) (args : Array Value) (below : List Frame) (meth : Method) (c : Code) (T : State) (locs : List Loc) (cells slots : Nat) (C : Array Slot),
   QCx Z p R s mid meth c m → Stand p l e R s mid args below meth c T locs cells slots → QRep Z n0 ad T.heap σ →
   ∃ T' h', Stand p l e R s mid args below meth c T' (locs ++ [⟨ad a, j⟩]) cells slots ∧ T'.heap = h' ∧ Wr T.heap h' (ad a) j w ∧ QCellOk Z ad h' (ad a) d ∧ ∀ target, Steps p.tables e below (T'.setTop (mkF mid (pc + 1) C (S'.map (qv ad)))) target → Steps p.tables e below (T.setTop (mkF mid pc C (S.map (qv ad)))) target) :
  QTri l Z n0 ad m (pc, L, S, σ) v σ' := by
 have hsz : qhs (σ.set a d) = qhs σ := qhs_set hx1 hz
 refine QTri.gen h (by simp) (by show qhs σ ≤ qhs (σ.set a d); rw [hsz]; exact Nat.le_refl _) fun p e R s mid args below meth c T locs cells slots C hcx X hR hF hL hC hn hc1 hsl => ?_
 obtain ⟨T₁, h₁, X₁, e₁, W₁, Q₁, st⟩ := hs p e R s mid args below meth c T locs cells slots C hcx X hR
 refine ⟨T₁, _, C, ?_, ?_, Fr.snoc X₁ hF (by rw [Ad.1 a b1]; exact Nat.le_add_right _ _), hL, hC, st⟩
 ·show Stand _ _ _ _ _ _ _ _ _ _ _ _ (cells + ((σ.set a d).length - σ.length)) (slots + (qhs (σ.set a d) - qhs σ))
  rw [hsz, Nat.sub_self, List.length_set, Nat.sub_self]
  exact X₁
 ·rw [e₁]
  exact QRep.set hR Ad W₁ hx1 Q₁
set_option maxHeartbeats 4000000 in
theorem QTri.iastore (Ad : QAd n0 ad) {pc aux : Nat} {L : QLoc} {S : List Value} {σ : QHeap} {st' : QSt} (h : QTri l Z n0 ad m st' v σ') (hc : pCode m pc = some (.iastore, aux)) (hs : qast (pc + 1) L S σ tyI = some st') : QTri l Z n0 ad m (pc, L, S, σ) v σ' := by
 have hd : decode (pBytes m) pc = .ok (.iastore, 1) := pDecN hc rfl
 obtain ⟨w, j, a, S', ty, xs, ys, rfl, hx1, ht, b1, hw, rfl⟩ := qast_inv hs
 obtain rfl := tyI_inv ht
 refine QTri.stored Ad (j := j.toNatClampNeg) (w := .int w) hx1 b1 (by rw [(aset_inv hw).2.2]; simp [qsz]) h fun p e R s mid args below meth c T locs cells slots C hcx X hR => ?_
 have hd2 : decode c.code pc = .ok (.iastore, 1) := by rw [hcx.2.2.1]; exact hd
 obtain ⟨cl, A, hsl⟩ := hR.2.2 _ _ hx1
 obtain ⟨i1, i2⟩ := ast_in hsl hw
 obtain ⟨T₁, h₁, X₁, e₁, W₁, st⟩ := stI X hcx.1 hcx.2.1 rfl A i1 (g := mkF mid pc C (List.map (qv ad) (.int w :: .int j :: .ref a :: S'))) rfl rfl hd2
 exact ⟨T₁, h₁, X₁, e₁, W₁, ⟨_, A.same W₁, i2⟩, st⟩
set_option maxHeartbeats 4000000 in
theorem QTri.bastore (Ad : QAd n0 ad) {pc aux : Nat} {L : QLoc} {S : List Value} {σ : QHeap} {st' : QSt} (h : QTri l Z n0 ad m st' v σ') (hc : pCode m pc = some (.bastore, aux)) (hs : qast (pc + 1) L S σ tyB = some st') : QTri l Z n0 ad m (pc, L, S, σ) v σ' := by
 have hd : decode (pBytes m) pc = .ok (.bastore, 1) := pDecN hc rfl
 obtain ⟨w, j, a, S', ty, xs, ys, rfl, hx1, ht, b1, hw, rfl⟩ := qast_inv hs
 refine QTri.stored Ad (j := j.toNatClampNeg) (w := .int (qnar ty w)) hx1 b1 (by rw [(aset_inv hw).2.2]; simp [qsz]) h fun p e R s mid args below meth c T locs cells slots C hcx X hR => ?_
 have hd2 : decode c.code pc = .ok (.bastore, 1) := by rw [hcx.2.2.1]; exact hd
 obtain ⟨cl, A, hsl⟩ := hR.2.2 _ _ hx1
 obtain ⟨i1, i2⟩ := ast_in hsl hw
 rcases tyB_inv ht with rfl | rfl
 ·obtain ⟨T₁, h₁, X₁, e₁, W₁, st⟩ := stZ X hcx.1 hcx.2.1 rfl A i1 (g := mkF mid pc C (List.map (qv ad) (.int w :: .int j :: .ref a :: S'))) rfl rfl hd2
  exact ⟨T₁, h₁, X₁, e₁, W₁, ⟨_, A.same W₁, i2⟩, st⟩
 ·obtain ⟨T₁, h₁, X₁, e₁, W₁, st⟩ := stB X hcx.1 hcx.2.1 rfl A i1 (g := mkF mid pc C (List.map (qv ad) (.int w :: .int j :: .ref a :: S'))) rfl rfl hd2
  exact ⟨T₁, h₁, X₁, e₁, W₁, ⟨_, A.same W₁, i2⟩, st⟩
set_option maxHeartbeats 4000000 in
theorem QTri.lastore (Ad : QAd n0 ad) {pc aux : Nat} {L : QLoc} {S : List Value} {σ : QHeap} {st' : QSt} (h : QTri l Z n0 ad m st' v σ') (hc : pCode m pc = some (.lastore, aux)) (hs : qastJ (pc + 1) L S σ = some st') : QTri l Z n0 ad m (pc, L, S, σ) v σ' := by
 have hd : decode (pBytes m) pc = .ok (.lastore, 1) := pDecN hc rfl
 obtain ⟨w, j, a, S', xs, ys, rfl, hx1, b1, hw, rfl⟩ := qastJ_inv hs
 refine QTri.stored Ad (j := j.toNatClampNeg) (w := .long w) hx1 b1 (by rw [(aset_inv hw).2.2]; simp [qsz]) h fun p e R s mid args below meth c T locs cells slots C hcx X hR => ?_
 have hd2 : decode c.code pc = .ok (.lastore, 1) := by rw [hcx.2.2.1]; exact hd
 obtain ⟨cl, A, hsl⟩ := hR.2.2 _ _ hx1
 obtain ⟨i1, i2⟩ := ast_in hsl hw
 obtain ⟨T₁, h₁, X₁, e₁, W₁, st⟩ := stJ X hcx.1 hcx.2.1 rfl A i1 (g := mkF mid pc C (List.map (qv ad) (.long w :: .int j :: .ref a :: S'))) rfl rfl hd2
 exact ⟨T₁, h₁, X₁, e₁, W₁, ⟨_, A.same W₁, i2⟩, st⟩
set_option maxHeartbeats 4000000 in
theorem QTri.alen {pc aux : Nat} {L : QLoc} {S : List Value} {σ : QHeap} {st' : QSt} (h : QTri l Z n0 ad m st' v σ') (hc : pCode m pc = some (.arraylength, aux)) (hs : qlen (pc + 1) L S σ = some st') : QTri l Z n0 ad m (pc, L, S, σ) v σ' := by
 have hd : decode (pBytes m) pc = .ok (.arraylength, 1) := pDecN hc rfl
 obtain ⟨a, S', n, rfl, hx1, rfl⟩ := qlen_inv hs
 refine QTri.stack h fun p e R s mid args below meth c T locs cells slots C target hx hZ hby hown X hR hL k => ?_
 have hd2 : decode c.code pc = .ok (.arraylength, 1) := by rw [hby]; exact hd
 rcases hx1 with ⟨ty, xs, hx1, rfl⟩ | ⟨xs, hx1, rfl⟩
 ·obtain ⟨cl, A, hsl⟩ := hR.2.2 _ _ hx1
  have e1 : cl.slots.size = xs.length := by rw [hsl]; simp
  rw [← e1] at k
  exact X.arraylength hx A.1 (State.isArrayOf_alike hZ.alike A.2.1) (g := mkF mid pc C (List.map (qv ad) (.ref a :: S'))) rfl rfl hd2 _ k
 ·obtain ⟨cl, A, hsl⟩ := hR.2.2 _ _ hx1
  have e1 : cl.slots.size = xs.length := by rw [hsl]; simp
  rw [← e1] at k
  exact X.arraylength hx A.1 (State.isArrayOf_alike hZ.alike A.2.1) (g := mkF mid pc C (List.map (qv ad) (.ref a :: S'))) rfl rfl hd2 _ k
set_option maxHeartbeats 4000000 in
theorem QTri.newObj (Ad : QAd n0 ad) (W : QW Z a0) {pc idx aux : Nat} {L : QLoc} {S : List Value} {σ : QHeap} (h : QTri l Z n0 ad m (pc + 3, L, .ref σ.length :: S, σ ++ [.inl cDef]) v σ') (hc : pCode m pc = some (.new idx, aux)) : QTri l Z n0 ad m (pc, L, S, σ) v σ' := by
 have hd : decode (pBytes m) pc = .ok (.new idx, 3) := pDecN hc rfl
 have hm := mem_of_contains (show lkN.contains (pK m, idx) = true from pRest hc)
 refine QTri.gen h (by simp) (by simp [qhs_app]) fun p e R s mid args below meth c T locs cells slots C hcx X hR hF hL hC hn hc1 hsl => ?_
 obtain ⟨hx, hZ, hby, hml, hret, hown, hnm, hfr, hlo⟩ := hcx
 have hd2 : decode c.code pc = .ok (.new idx, 3) := by rw [hby]; exact hd
 simp only [List.length_append, List.length_singleton, Nat.add_sub_cancel_left, qgrow, qsz] at hc1 hsl ⊢
 obtain ⟨T₁, h₁, X₁, e₁, E₁, A₁, D₁, -, st⟩ := newO X hx hZ hown (index := idx) (qw_nw W (pK m, idx) hm) ((qw_inst W)) ((qw_init W)) rfl (g := mkF mid pc C (S.map (qv ad))) rfl hd2 hc1 hsl
 have hsz : h₁.size = T.heap.size + 1 := by
  have q1 := X₁.heapSize
  have q2 : T.heap.size < h₁.size := A₁.lt
  have q3 : T.heap.size = n0 + (σ.length - k0) := hR.2.1
  rw [e₁] at q1
  have : n0 + (σ.length - k0) = s.heap.size + cells := hn
  omega
 refine ⟨T₁, locs, C, X₁, ?_, hF, hL, hC, fun target q => ?_⟩
 ·rw [e₁]
  refine QRep.push hR Ad E₁ hsz ⟨A₁, cDefL, fun k u hk hu => ?_⟩
  rw [cDefs k hk] at hu
  cases hu
  have e3 : qv ad (defaultValue (fTy k)) = defaultValue (fTy k) := by
   cases hq : defaultValue (fTy k) with
   | ref a => exact absurd hq (fDef k hk a)
   | _ => rfl
  rw [e3]
  exact D₁ (laid_of W hk) (fPrs k hk)
 ·refine st _ ?_
  have e2 : ad σ.length = T.heap.size := by rw [Ad.1 _ hR.1]; exact hR.2.1.symm
  simp only [List.map_cons, qv, e2] at q
  exact q
set_option maxHeartbeats 8000000 in
theorem QTri.step (Ad : QAd n0 ad) (W : QW Z a0) {st st' : QSt} (h : QTri l Z n0 ad m st' v σ') (hs : qstep m st = some st') : QTri l Z n0 ad m st v σ' := by
 obtain ⟨pc, L, S, σ⟩ := st
 unfold qstep at hs
 dsimp only at hs
 split at hs
 rotate_left
 ·cases hs
 rename_i i aux hc
 have hd := pDecN hc rfl
 have hr := pRest hc
 unfold qexec at hs
 split at hs
 ·-- aload_n
  obtain ⟨w, h1, h2, rfl⟩ := qload_inv hs
  obtain ⟨a, rfl⟩ := isR_inv h2
  exact QTri.stack h fun p e R s mid args below meth c T locs cells slots C target hx hZ hby hown X hR hL k => XS.aloadN X.here hx rfl (hb hby hd) (hL.2.1 _ _ h1) rfl k
 ·obtain ⟨w, h1, h2, rfl⟩ := qload_inv hs
  obtain ⟨a, rfl⟩ := isR_inv h2
  exact QTri.stack h fun p e R s mid args below meth c T locs cells slots C target hx hZ hby hown X hR hL k => XS.aload X.here hx rfl (hb hby hd) (hL.2.1 _ _ h1) rfl k
 ·obtain ⟨w, h1, h2, rfl⟩ := qload_inv hs
  obtain ⟨a, rfl⟩ := isI_inv h2
  exact QTri.stack h fun p e R s mid args below meth c T locs cells slots C target hx hZ hby hown X hR hL k => XS.iloadN X.here hx rfl (hb hby hd) (hL.2.1 _ _ h1) k
 ·obtain ⟨w, h1, h2, rfl⟩ := qload_inv hs
  obtain ⟨a, rfl⟩ := isI_inv h2
  exact QTri.stack h fun p e R s mid args below meth c T locs cells slots C target hx hZ hby hown X hR hL k => XS.iload X.here hx rfl (hb hby hd) (hL.2.1 _ _ h1) k
 ·obtain ⟨w, h1, h2, rfl⟩ := qload_inv hs
  obtain ⟨a, rfl⟩ := isJ_inv h2
  exact QTri.stack h fun p e R s mid args below meth c T locs cells slots C target hx hZ hby hown X hR hL k => XT.lloadN X.here hx rfl (hb hby hd) (hL.2.1 _ _ h1) k
 ·obtain ⟨w, h1, h2, rfl⟩ := qload_inv hs
  obtain ⟨a, rfl⟩ := isJ_inv h2
  exact QTri.stack h fun p e R s mid args below meth c T locs cells slots C target hx hZ hby hown X hR hL k => XT.lload X.here hx rfl (hb hby hd) (hL.2.1 _ _ h1) k
 ·cases hs -- iconst
  exact QTri.stack h fun p e R s mid args below meth c T locs cells slots C target hx hZ hby hown X hR hL k => XS.iconst X.here hx rfl (hb hby hd) k
 ·cases hs
  exact QTri.stack h fun p e R s mid args below meth c T locs cells slots C target hx hZ hby hown X hR hL k => XS.bipush X.here hx rfl (hb hby hd) k
 ·cases hs
  exact QTri.stack h fun p e R s mid args below meth c T locs cells slots C target hx hZ hby hown X hR hL k => XS.sipush X.here hx rfl (hb hby hd) k
 ·cases hs
  exact QTri.stack h fun p e R s mid args below meth c T locs cells slots C target hx hZ hby hown X hR hL k => XT.lconst X.here hx rfl (hb hby hd) k
 ·-- ldc
  unfold qldc at hs
  split at hs
  ·rename_i w hw
   cases hs
   obtain ⟨x, hx1, hx2⟩ := qw_cI W (pK m, _, aux) (mem_of_contains (show lkC.contains (pK m, _, aux) = true from hr))
   rw [show vget cK aux = some w from hw] at hx1
   cases hx1
   exact QTri.stack h fun p e R s mid args below meth c T locs cells slots C target hx hZ hby hown X hR hL k => X.ldcI hx hown (mv hZ hx2) rfl (hb hby hd) k
  ·cases hs
 ·unfold qldc at hs
  split at hs
  ·rename_i w hw
   cases hs
   obtain ⟨x, hx1, hx2⟩ := qw_cJ W (pK m, _, aux) (mem_of_contains (show lkD.contains (pK m, _, aux) = true from hr))
   rw [show vget cK aux = some w from hw] at hx1
   cases hx1
   exact QTri.stack h fun p e R s mid args below meth c T locs cells slots C target hx hZ hby hown X hR hL k => X.ldc2J hx hown (mv hZ hx2) rfl (hb hby hd) k
  ·cases hs
 ·-- istore_n
  obtain ⟨w, S', L', rfl, h2, h3, rfl⟩ := qstore_inv hs
  obtain ⟨a, rfl⟩ := isI_inv h2
  exact QTri.frame h fun p e R s mid args below meth c T locs cells slots C hcx X hR hL hC => by
   obtain ⟨D, d1, d2, d3⟩ := store_ok hL h3
   exact ⟨D, d2, d3.trans hC, fun target k => XS.istoreN X.here hcx.1 rfl (hb hcx.2.2.1 hd) rfl d1 k⟩
 ·obtain ⟨w, S', L', rfl, h2, h3, rfl⟩ := qstore_inv hs
  obtain ⟨a, rfl⟩ := isI_inv h2
  exact QTri.frame h fun p e R s mid args below meth c T locs cells slots C hcx X hR hL hC => by
   obtain ⟨D, d1, d2, d3⟩ := store_ok hL h3
   exact ⟨D, d2, d3.trans hC, fun target k => XS.istore X.here hcx.1 rfl (hb hcx.2.2.1 hd) rfl d1 k⟩
 ·obtain ⟨w, S', L', rfl, h2, h3, rfl⟩ := qstore_inv hs
  obtain ⟨a, rfl⟩ := isJ_inv h2
  exact QTri.frame h fun p e R s mid args below meth c T locs cells slots C hcx X hR hL hC => by
   obtain ⟨D, d1, d2, d3⟩ := store_ok hL h3
   exact ⟨D, d2, d3.trans hC, fun target k => XT.lstoreN X.here hcx.1 rfl (hb hcx.2.2.1 hd) rfl d1 k⟩
 ·obtain ⟨w, S', L', rfl, h2, h3, rfl⟩ := qstore_inv hs
  obtain ⟨a, rfl⟩ := isJ_inv h2
  exact QTri.frame h fun p e R s mid args below meth c T locs cells slots C hcx X hR hL hC => by
   obtain ⟨D, d1, d2, d3⟩ := store_ok hL h3
   exact ⟨D, d2, d3.trans hC, fun target k => XT.lstore X.here hcx.1 rfl (hb hcx.2.2.1 hd) rfl d1 k⟩
 ·obtain ⟨w, S', L', rfl, h2, h3, rfl⟩ := qstore_inv hs
  obtain ⟨a, rfl⟩ := isR_inv h2
  exact QTri.frame h fun p e R s mid args below meth c T locs cells slots C hcx X hR hL hC => by
   obtain ⟨D, d1, d2, d3⟩ := store_ok hL h3
   exact ⟨D, d2, d3.trans hC, fun target k => XS.astoreN X.here hcx.1 rfl (hb hcx.2.2.1 hd) rfl rfl d1 k⟩
 ·obtain ⟨w, S', L', rfl, h2, h3, rfl⟩ := qstore_inv hs
  obtain ⟨a, rfl⟩ := isR_inv h2
  exact QTri.frame h fun p e R s mid args below meth c T locs cells slots C hcx X hR hL hC => by
   obtain ⟨D, d1, d2, d3⟩ := store_ok hL h3
   exact ⟨D, d2, d3.trans hC, fun target k => XS.astore X.here hcx.1 rfl (hb hcx.2.2.1 hd) rfl rfl d1 k⟩
 ·-- iinc
  unfold qinc at hs
  split at hs
  ·rename_i x hx1
   split at hs
   ·rename_i L' hL'
    cases hs
    exact QTri.frame h fun p e R s mid args below meth c T locs cells slots C hcx X hR hL hC => by
     obtain ⟨D, d1, d2, d3⟩ := store_ok hL hL'
     exact ⟨D, d2, d3.trans hC, fun target k => XS.iinc X.here hcx.1 rfl (hb hcx.2.2.1 hd) (hL.2.1 _ _ hx1) d1 k⟩
   ·cases hs
  ·cases hs
 ·obtain ⟨x, y, S', rfl, rfl⟩ := qbin_inv hs -- iadd
  exact QTri.stack h fun p e R s mid args below meth c T locs cells slots C target hx hZ hby hown X hR hL k => XS.iadd X.here hx rfl (hb hby hd) rfl k
 ·obtain ⟨x, y, S', rfl, rfl⟩ := qbin_inv hs
  exact QTri.stack h fun p e R s mid args below meth c T locs cells slots C target hx hZ hby hown X hR hL k => XS.isub X.here hx rfl (hb hby hd) rfl k
 ·obtain ⟨x, y, S', rfl, rfl⟩ := qbin_inv hs
  exact QTri.stack h fun p e R s mid args below meth c T locs cells slots C target hx hZ hby hown X hR hL k => XS.imul X.here hx rfl (hb hby hd) rfl k
 ·obtain ⟨x, y, S', rfl, rfl⟩ := qbin_inv hs
  exact QTri.stack h fun p e R s mid args below meth c T locs cells slots C target hx hZ hby hown X hR hL k => XS.iand X.here hx rfl (hb hby hd) rfl k
 ·obtain ⟨x, y, S', rfl, rfl⟩ := qbin_inv hs
  exact QTri.stack h fun p e R s mid args below meth c T locs cells slots C target hx hZ hby hown X hR hL k => XT.ior X.here hx rfl (hb hby hd) rfl k
 ·obtain ⟨x, y, S', rfl, rfl⟩ := qbin_inv hs
  exact QTri.stack h fun p e R s mid args below meth c T locs cells slots C target hx hZ hby hown X hR hL k => XT.ixor X.here hx rfl (hb hby hd) rfl k
 ·obtain ⟨x, y, S', rfl, rfl⟩ := qbin_inv hs
  exact QTri.stack h fun p e R s mid args below meth c T locs cells slots C target hx hZ hby hown X hR hL k => XT.ishl X.here hx rfl (hb hby hd) rfl k
 ·obtain ⟨x, y, S', rfl, rfl⟩ := qbin_inv hs
  exact QTri.stack h fun p e R s mid args below meth c T locs cells slots C target hx hZ hby hown X hR hL k => XT.ishr X.here hx rfl (hb hby hd) rfl k
 ·obtain ⟨x, y, S', rfl, rfl⟩ := qbin_inv hs
  exact QTri.stack h fun p e R s mid args below meth c T locs cells slots C target hx hZ hby hown X hR hL k => XT.iushr X.here hx rfl (hb hby hd) rfl k
 ·obtain ⟨x, y, z, S', rfl, hz, rfl⟩ := qbino_inv hs -- idiv
  unfold qdiv at hz
  split at hz
  ·cases hz
  ·rename_i hy
   cases hz
   exact QTri.stack h fun p e R s mid args below meth c T locs cells slots C target hx hZ hby hown X hR hL k => XS.idiv X.here hx rfl (hb hby hd) rfl hy k
 ·obtain ⟨x, y, z, S', rfl, hz, rfl⟩ := qbino_inv hs
  unfold qrem at hz
  split at hz
  ·cases hz
  ·rename_i hy
   cases hz
   exact QTri.stack h fun p e R s mid args below meth c T locs cells slots C target hx hZ hby hown X hR hL k => iremM X hx rfl (hb hby hd) rfl hy k
 ·obtain ⟨x, S', rfl, rfl⟩ := quni_inv hs -- ineg
  exact QTri.stack h fun p e R s mid args below meth c T locs cells slots C target hx hZ hby hown X hR hL k => XS.ineg X.here hx rfl (hb hby hd) rfl k
 ·obtain ⟨x, S', rfl, rfl⟩ := quni_inv hs
  exact QTri.stack h fun p e R s mid args below meth c T locs cells slots C target hx hZ hby hown X hR hL k => XT.i2l X.here hx rfl (hb hby hd) rfl k
 ·obtain ⟨x, S', rfl, rfl⟩ := quni_inv hs
  exact QTri.stack h fun p e R s mid args below meth c T locs cells slots C target hx hZ hby hown X hR hL k => XT.i2b X.here hx rfl (hb hby hd) rfl k
 ·obtain ⟨x, S', rfl, rfl⟩ := quniJ_inv hs
  exact QTri.stack h fun p e R s mid args below meth c T locs cells slots C target hx hZ hby hown X hR hL k => XT.l2i X.here hx rfl (hb hby hd) rfl k
 ·obtain ⟨x, S', rfl, rfl⟩ := quniJ_inv hs
  exact QTri.stack h fun p e R s mid args below meth c T locs cells slots C target hx hZ hby hown X hR hL k => XT.lneg X.here hx rfl (hb hby hd) rfl k
 ·obtain ⟨x, y, S', rfl, rfl⟩ := qbinJ_inv hs
  exact QTri.stack h fun p e R s mid args below meth c T locs cells slots C target hx hZ hby hown X hR hL k => XT.ladd X.here hx rfl (hb hby hd) rfl k
 ·obtain ⟨x, y, S', rfl, rfl⟩ := qbinJ_inv hs
  exact QTri.stack h fun p e R s mid args below meth c T locs cells slots C target hx hZ hby hown X hR hL k => XT.lsub X.here hx rfl (hb hby hd) rfl k
 ·obtain ⟨x, y, S', rfl, rfl⟩ := qbinJ_inv hs
  exact QTri.stack h fun p e R s mid args below meth c T locs cells slots C target hx hZ hby hown X hR hL k => XT.lmul X.here hx rfl (hb hby hd) rfl k
 ·obtain ⟨x, y, S', rfl, rfl⟩ := qbinJ_inv hs
  exact QTri.stack h fun p e R s mid args below meth c T locs cells slots C target hx hZ hby hown X hR hL k => XT.land X.here hx rfl (hb hby hd) rfl k
 ·obtain ⟨x, y, S', rfl, rfl⟩ := qbinJ_inv hs
  exact QTri.stack h fun p e R s mid args below meth c T locs cells slots C target hx hZ hby hown X hR hL k => XT.lor X.here hx rfl (hb hby hd) rfl k
 ·obtain ⟨x, y, S', rfl, rfl⟩ := qbinJ_inv hs
  exact QTri.stack h fun p e R s mid args below meth c T locs cells slots C target hx hZ hby hown X hR hL k => XT.lxor X.here hx rfl (hb hby hd) rfl k
 ·obtain ⟨x, y, S', rfl, rfl⟩ := qshJ_inv hs
  exact QTri.stack h fun p e R s mid args below meth c T locs cells slots C target hx hZ hby hown X hR hL k => XT.lshl X.here hx rfl (hb hby hd) rfl k
 ·obtain ⟨x, y, S', rfl, rfl⟩ := qshJ_inv hs
  exact QTri.stack h fun p e R s mid args below meth c T locs cells slots C target hx hZ hby hown X hR hL k => XT.lshr X.here hx rfl (hb hby hd) rfl k
 ·obtain ⟨x, y, S', rfl, rfl⟩ := qshJ_inv hs
  exact QTri.stack h fun p e R s mid args below meth c T locs cells slots C target hx hZ hby hown X hR hL k => XT.lushr X.here hx rfl (hb hby hd) rfl k
 ·split at hs -- lcmp
  ·cases hs
   exact QTri.stack h fun p e R s mid args below meth c T locs cells slots C target hx hZ hby hown X hR hL k => XT.lcmp X.here hx rfl (hb hby hd) rfl k
  ·cases hs
 ·cases hs -- goto
  obtain ⟨t1, t2⟩ := qtgt_spec hr
  exact QTri.stack h fun p e R s mid args below meth c T locs cells slots C target hx hZ hby hown X hR hL k => XS.goto X.here hx rfl rfl (hb hby hd) t1 t2 k
 ·obtain ⟨x, S', rfl, rfl⟩ := qif_inv hs
  obtain ⟨t1, t2⟩ := qtgt_spec hr
  cases hh : ifCond.holds _ x with
  | true => rw [hh] at h; exact QTri.stack h fun p e R s mid args below meth c T locs cells slots C target hx hZ hby hown X hR hL k => XS.ifYes X.here hx rfl rfl (hb hby hd) rfl hh t1 t2 k
  | false => rw [hh] at h; exact QTri.stack h fun p e R s mid args below meth c T locs cells slots C target hx hZ hby hown X hR hL k => XS.ifNo X.here hx rfl (hb hby hd) rfl hh k
 ·obtain ⟨x, y, S', rfl, rfl⟩ := qicmp_inv hs
  obtain ⟨t1, t2⟩ := qtgt_spec hr
  cases hh : if_icmp.holds _ x y with
  | true => rw [hh] at h; exact QTri.stack h fun p e R s mid args below meth c T locs cells slots C target hx hZ hby hown X hR hL k => XS.icmpYes X.here hx rfl rfl (hb hby hd) rfl hh t1 t2 k
  | false => rw [hh] at h; exact QTri.stack h fun p e R s mid args below meth c T locs cells slots C target hx hZ hby hown X hR hL k => XS.icmpNo X.here hx rfl (hb hby hd) rfl hh k
 ·unfold qdup at hs
  split at hs
  ·cases hs
   exact QTri.stack h fun p e R s mid args below meth c T locs cells slots C target hx hZ hby hown X hR hL k => XS.dup X.here hx rfl (hb hby hd) rfl rfl k
  ·cases hs
   exact QTri.stack h fun p e R s mid args below meth c T locs cells slots C target hx hZ hby hown X hR hL k => XS.dup X.here hx rfl (hb hby hd) rfl rfl k
  ·cases hs
 ·unfold qdup2 at hs
  split at hs
  ·cases hs
   exact QTri.stack h fun p e R s mid args below meth c T locs cells slots C target hx hZ hby hown X hR hL k => XT.dup2 X.here hx rfl (hb hby hd) rfl rfl rfl k
  ·cases hs
   exact QTri.stack h fun p e R s mid args below meth c T locs cells slots C target hx hZ hby hown X hR hL k => XT.dup2 X.here hx rfl (hb hby hd) rfl rfl rfl k
  ·cases hs
   exact QTri.stack h fun p e R s mid args below meth c T locs cells slots C target hx hZ hby hown X hR hL k => XT.dup2L X.here hx rfl (hb hby hd) rfl k
  ·cases hs
 ·unfold qpop at hs
  split at hs
  ·cases hs
   exact QTri.stack h fun p e R s mid args below meth c T locs cells slots C target hx hZ hby hown X hR hL k => XT.pop X.here hx rfl (hb hby hd) rfl rfl k
  ·cases hs
   exact QTri.stack h fun p e R s mid args below meth c T locs cells slots C target hx hZ hby hown X hR hL k => XT.pop X.here hx rfl (hb hby hd) rfl rfl k
  ·cases hs
 ·exact QTri.getfield W h hc hs
 ·exact QTri.putfield Ad W h hc hs
 ·exact QTri.iaload h hc hs
 ·exact QTri.baload h hc hs
 ·exact QTri.laload h hc hs
 ·exact QTri.iastore Ad h hc hs
 ·exact QTri.bastore Ad h hc hs
 ·exact QTri.lastore Ad h hc hs
 ·exact QTri.alen h hc hs
 ·-- newarray
  unfold qnewA at hs
  split at hs
  ·split at hs
   ·obtain ⟨k, hk, hs⟩ := Option.bind_eq_some_iff.mp hs
    cases hs
    exact QTri.newArr (c := .inr (.inl (.int, List.replicate k 0))) Ad W hk hc (by simp [qsz]) (fun h' a cA A => ⟨_, A, by simp [newA, (qnew_inv hk).2.1]; exact Or.inr rfl⟩) h
   ·obtain ⟨k, hk, hs⟩ := Option.bind_eq_some_iff.mp hs
    cases hs
    exact QTri.newArr (c := .inr (.inl (.boolean, List.replicate k 0))) Ad W hk hc (by simp [qsz]) (fun h' a cA A => ⟨_, A, by simp [newA, (qnew_inv hk).2.1]; exact Or.inr rfl⟩) h
   ·obtain ⟨k, hk, hs⟩ := Option.bind_eq_some_iff.mp hs
    cases hs
    exact QTri.newArr (c := .inr (.inl (.byte, List.replicate k 0))) Ad W hk hc (by simp [qsz]) (fun h' a cA A => ⟨_, A, by simp [newA, (qnew_inv hk).2.1]; exact Or.inr rfl⟩) h
   ·obtain ⟨k, hk, hs⟩ := Option.bind_eq_some_iff.mp hs
    cases hs
    exact QTri.newArr (c := .inr (.inr (List.replicate k 0))) Ad W hk hc (by simp [qsz]) (fun h' a cA A => ⟨_, A, by simp [newA, (qnew_inv hk).2.1]; exact Or.inr rfl⟩) h
   ·cases hs
  ·cases hs
 ·cases hs; exact QTri.newObj Ad W h hc
 ·cases hs
theorem QTri.steps (Ad : QAd n0 ad) (W : QW Z a0) : ∀ (n : Nat) {st st' : QSt}, qsteps m n st = some st' → QTri l Z n0 ad m st' v σ' → QTri l Z n0 ad m st v σ'
 | 0, st, st', h, k => by cases h; exact k
 | n + 1, st, st', h, k => by
  simp only [qsteps] at h
  split at h
  ·rename_i st₁ h1
   exact QTri.step Ad W (QTri.steps Ad W n h k) h1
  ·cases h
def lmask : List Bool → QLoc → QLoc
 | b :: t, x :: u => (bif b then x else none) :: lmask t u
 | _, L => L.map fun _ => none
theorem lmask_len : ∀ (b : List Bool) (L : QLoc), (lmask b L).length = L.length
 | [], L => by simp [lmask]
 | _ :: _, [] => by simp [lmask]
 | _ :: t, _ :: u => by simp [lmask, lmask_len t u]
theorem lmask_get : ∀ (b : List Bool) (L : QLoc) (k : Nat) (v : Value), lget (lmask b L) k = some v → lget L k = some v
 | [], L, k, v, h => by
  simp only [lmask, lget_eq, List.getElem?_map] at h
  cases hq : L[k]? <;> simp [hq] at h
 | _ :: _, [], k, v, h => by simp [lmask, lget] at h
 | b :: t, x :: u, 0, v, h => by
  simp only [lmask, lget] at h ⊢
  cases b
  ·cases h
  ·exact h
 | b :: t, x :: u, k + 1, v, h => by
  simp only [lmask, lget] at h ⊢
  exact lmask_get t u k v h
theorem QTri.mask {pc : Nat} {L : QLoc} {S : List Value} {σ : QHeap} (b : List Bool) (h : QTri l Z n0 ad m (pc, lmask b L, S, σ) v σ') : QTri l Z n0 ad m (pc, L, S, σ) v σ' :=
 QTri.frame h fun p e R s mid args below meth c T locs cells slots C hcx X hR hL hC => ⟨C, ⟨by rw [lmask_len]; exact hL.1, fun k u hk => hL.2.1 k u (lmask_get b L k u hk), hL.2.2⟩, hC, fun target k => k⟩
theorem QTri.ret0 {pc aux : Nat} {L : QLoc} {σ : QHeap} (hc : pCode m pc = some (.return_, aux)) (hr : pRet m = none) : QTri l Z n0 ad m (pc, L, [], σ) none σ :=
 have hd : decode (pBytes m) pc = .ok (.return_, 1) := pDecN hc rfl
 ⟨Nat.le_refl _, Nat.le_refl _, fun p e R s mid args below meth c T locs cells slots C hcx X hR hF hL hC hn hc1 hsl => ⟨T, locs, by simpa using X, hR, hF, fun fs hf => X.returnOut hcx.1 (hcx.2.2.2.2.1.trans hr) (hb hcx.2.2.1 hd) hf⟩⟩
theorem QTri.retI {pc aux : Nat} {L : QLoc} {S : List Value} {σ : QHeap} {x : Int32} (hc : pCode m pc = some (.ireturn, aux)) (hr : pRet m = some .int) : QTri l Z n0 ad m (pc, L, .int x :: S, σ) (some (.int x)) σ :=
 have hd : decode (pBytes m) pc = .ok (.ireturn, 1) := pDecN hc rfl
 ⟨Nat.le_refl _, Nat.le_refl _, fun p e R s mid args below meth c T locs cells slots C hcx X hR hF hL hC hn hc1 hsl => ⟨T, locs, by simpa using X, hR, hF, fun fs hf => Jvm.RoadKit.retI X hcx.1 (hcx.2.2.2.2.1.trans hr) (hb hcx.2.2.1 hd) hf⟩⟩
theorem QTri.retZ {pc aux : Nat} {L : QLoc} {S : List Value} {σ : QHeap} {x : Int32} (hc : pCode m pc = some (.ireturn, aux)) (hr : pRet m = some .boolean) : QTri l Z n0 ad m (pc, L, .int x :: S, σ) (some (.int (x &&& 1))) σ :=
 have hd : decode (pBytes m) pc = .ok (.ireturn, 1) := pDecN hc rfl
 ⟨Nat.le_refl _, Nat.le_refl _, fun p e R s mid args below meth c T locs cells slots C hcx X hR hF hL hC hn hc1 hsl => ⟨T, locs, by simpa using X, hR, hF, fun fs hf => retN X hcx.1 (t := .boolean) (hcx.2.2.2.2.1.trans hr) (by simp) (hb hcx.2.2.1 hd) hf⟩⟩
theorem QTri.retJ {pc aux : Nat} {L : QLoc} {S : List Value} {σ : QHeap} {x : Int64} (hc : pCode m pc = some (.lreturn, aux)) (hr : pRet m = some .long) : QTri l Z n0 ad m (pc, L, .long x :: S, σ) (some (.long x)) σ :=
 have hd : decode (pBytes m) pc = .ok (.lreturn, 1) := pDecN hc rfl
 ⟨Nat.le_refl _, Nat.le_refl _, fun p e R s mid args below meth c T locs cells slots C hcx X hR hF hL hC hn hc1 hsl => ⟨T, locs, by simpa using X, hR, hF, fun fs hf => retOut X hcx.1 (t := .long) (hcx.2.2.2.2.1.trans hr) rfl (Or.inr (Or.inl ⟨rfl, rfl, _, rfl⟩)) (hb hcx.2.2.1 hd) hf⟩⟩
def LOk (ad : Nat → Addr) (L : QLoc) (C : List Slot) : Prop :=
 L.length = C.length ∧ (∀ k v, lget L k = some v → C[k]? = some (.val (qv ad v))) ∧ (∀ k w, C[k]? = some (.val w) → w.category = 2 → C[k + 1]? = some .second) ∧ ∀ k, C[k]? = some .second → ∃ j w, k = j + 1 ∧ C[j]? = some (.val w) ∧ w.category = 2
theorem LOk.base (ad : Nat → Addr) (n : Nat) : LOk ad (List.replicate n none) (List.replicate n .unset) := by
 refine ⟨by simp, fun k u h => ?_, fun k w h => ?_, fun k h => ?_⟩
 ·rw [lget_eq] at h
  rcases Nat.lt_or_ge k n with q | q
  ·simp [List.getElem?_replicate, q] at h
  ·simp [List.getElem?_eq_none, q] at h
 ·rcases Nat.lt_or_ge k n with q | q
  ·simp [List.getElem?_replicate, q] at h
  ·simp [List.getElem?_eq_none, q] at h
 ·rcases Nat.lt_or_ge k n with q | q
  ·simp [List.getElem?_replicate, q] at h
  ·simp [List.getElem?_eq_none, q] at h
theorem LOk.one {L : QLoc} {C : List Slot} (H : LOk ad L C) {u : Value} (hu : u.category = 1) : LOk ad (some u :: L) (.val (qv ad u) :: C) := by
 obtain ⟨h1, h2, h3, h4⟩ := H
 refine ⟨by simp [h1], fun k w h => ?_, fun k w h hw => ?_, fun k h => ?_⟩
 ·cases k with
  | zero => simp only [lget] at h; cases h; simp
  | succ k => simp only [lget] at h; simpa using h2 k w h
 ·cases k with
  | zero => simp at h; rw [← h, qv_cat, hu] at hw; cases hw
  | succ k => simpa using h3 k w (by simpa using h) hw
 ·cases k with
  | zero => simp at h
  | succ k =>
   obtain ⟨j, w, z1, z2, z3⟩ := h4 k (by simpa using h)
   exact ⟨j + 1, w, by omega, by simpa using z2, z3⟩
theorem LOk.two {L : QLoc} {C : List Slot} (H : LOk ad L C) {u : Value} (hu : u.category = 2) : LOk ad (some u :: none :: L) (.val (qv ad u) :: .second :: C) := by
 obtain ⟨h1, h2, h3, h4⟩ := H
 refine ⟨by simp [h1], fun k w h => ?_, fun k w h hw => ?_, fun k h => ?_⟩
 ·rcases k with _ | _ | k
  ·simp only [lget] at h; cases h; simp
  ·simp [lget] at h
  ·simp only [lget] at h; simpa using h2 k w h
 ·rcases k with _ | _ | k
  ·simp
  ·simp at h
  ·simpa using h3 k w (by simpa using h) hw
 ·rcases k with _ | _ | k
  ·simp at h
  ·exact ⟨0, qv ad u, rfl, by simp, by rw [qv_cat]; exact hu⟩
  ·obtain ⟨j, w, z1, z2, z3⟩ := h4 k (by simpa using h)
   exact ⟨j + 2, w, by omega, by simpa using z2, z3⟩
def slotsOf (u : Value) : List Slot := if u.category = 2 then [.val u, .second] else [.val u]
theorem fold_slots : ∀ (as : List Value) (acc : Array Slot), (as.foldl (fun acc v => if v.category = 2 then (acc.push (.val v)).push .second else acc.push (.val v)) acc).toList = acc.toList ++ as.flatMap slotsOf
 | [], acc => by simp
 | u :: t, acc => by
  rw [List.foldl_cons, fold_slots t]
  by_cases hc : u.category = 2 <;> simp [slotsOf, hc]
theorem slots_len : ∀ (as : List Value), (as.flatMap slotsOf).length = (as.map fun v => v.category).sum
 | [] => rfl
 | u :: t => by
  rw [List.flatMap_cons, List.length_append, slots_len t, List.map_cons, List.sum_cons]
  cases u <;> simp [slotsOf, Value.category]
theorem cats_qv (as : List Value) : ((as.map (qv ad)).map fun v => v.category).sum = (as.map fun v => v.category).sum := by
 rw [List.map_map]
 congr 1
 exact List.map_congr_left fun x _ => qv_cat ad x
theorem entry_list : ∀ (as : List Value) (n : Nat), LOk ad ((as.flatMap fun v => match v with | .long x => [some (.long x), none] | .double x => [some (.double x), none] | v => [some v]) ++ List.replicate n none) ((as.map (qv ad)).flatMap slotsOf ++ List.replicate n .unset)
 | [], n => by simpa using LOk.base ad n
 | u :: t, n => by
  have ih := entry_list t n
  cases u with
  | long x => exact LOk.two ih rfl
  | double x => exact LOk.two ih rfl
  | int x => exact LOk.one ih rfl
  | float x => exact LOk.one ih rfl
  | null => exact LOk.one ih rfl
  | ref x => exact LOk.one ih rfl
  | retAddr x => exact LOk.one ih rfl
theorem qentry_ok (as : List Value) (mx : Nat) (h : (as.map fun v => v.category).sum ≤ mx) : QLocOk ad (qentry as mx) (argsToLocals (as.map (qv ad)).toArray mx) ∧ (argsToLocals (as.map (qv ad)).toArray mx).size = mx := by
 have e : (argsToLocals (as.map (qv ad)).toArray mx).toList = (as.map (qv ad)).flatMap slotsOf ++ List.replicate (mx - (as.map fun v => v.category).sum) .unset := by
  unfold argsToLocals
  have q := fold_slots (as.map (qv ad)) #[]
  simp only [List.foldl_toArray', Array.toList_append, Array.toList_replicate]
  have q2 : ((as.map (qv ad)).foldl (fun (acc : Array Slot) (v : Value) => if v.category = 2 then (acc.push (.val v)).push .second else acc.push (.val v)) #[]).size = (as.map fun v => v.category).sum := by
   rw [← Array.length_toList, q]
   simp only [List.nil_append]
   rw [slots_len, cats_qv]
  rw [q, q2]
  simp
 have H := entry_list (ad := ad) as (mx - (as.map fun v => v.category).sum)
 rw [← e] at H
 obtain ⟨h1, h2, h3, h4⟩ := H
 have hs : (argsToLocals (as.map (qv ad)).toArray mx).size = mx := by
  rw [← Array.length_toList, e, List.length_append, slots_len, cats_qv, List.length_replicate]
  omega
 refine ⟨⟨h1.trans Array.length_toList, fun k u hk => ?_, fun k w hk hw => ?_, fun k hk => ?_⟩, hs⟩
 ·have := h2 k u hk; rwa [Array.getElem?_toList] at this
 ·have := h3 k w (by rw [Array.getElem?_toList]; exact hk) hw; rwa [Array.getElem?_toList] at this
 ·obtain ⟨j, w, z1, z2, z3⟩ := h4 k (by rw [Array.getElem?_toList]; exact hk)
  exact ⟨j, w, z1, by rwa [Array.getElem?_toList] at z2, z3⟩
set_option maxHeartbeats 4000000 in
theorem QTri.met {k : Nat} {as : List Value} {σ σ₁ : QHeap} {w : Option Value} {h0 : Heap} (hk : k < pN) (h : QTri l Z n0 ad k (0, qentry as (pMaxL k), [], σ) w σ₁) (hR : QRep Z n0 ad h0 σ) (hlen : (as.map fun v => v.category).sum ≤ pMaxL k) (hret : pRet k = none → w = none) (ws : List Jvm.Cond) {rm : Room}
  (r1 : pFr k ≤ rm.frames) (r2 : pLo k ≤ rm.locals) (r3 : σ₁.length - σ.length ≤ rm.cells) (r4 : qhs σ₁ - qhs σ ≤ rm.slots) :
  MetFree l (pName k) (head1 (Jvm.Cond.code (pName k) (pBytes k) (pMaxL k) (pRet k) :: ws) rm) (fun a U => a = (as.map (qv ad)).toArray ∧ Z.Warmed39 U.vm ∧ U.heap = h0) (fun _ _ _ _ _ => True)
   (fun _ U o U' => ∃ v L, o = .returned v ∧ (v = w.map (qv ad) ∧ QRep Z n0 ad U'.heap σ₁ ∧ Fr n0 L) ∧ FrameEnd U o U' L (σ₁.length - σ.length) (qhs σ₁ - qhs σ)) := by
 refine MetFree.of_bodySF (plainFor_of_name (kPlain _ (pKlt k hk))) hisR ?_
 intro p e s mid args below meth c s₁ Bd hml0 hP hK
 obtain ⟨rfl, hZ, hh⟩ := hP
 have e0 : s₁.heap = h0 := by rw [← hh, Bd.state]; rfl
 obtain ⟨hl1, hl2⟩ := qentry_ok (ad := ad) as (pMaxL k) hlen
 have hX : Stand p l e rm s mid (as.map (qv ad)).toArray below meth c s₁ [] 0 0 := Stand.of_body Bd
 obtain ⟨T', locs', X', R', F', S'⟩ := h.2.2 p e rm s mid _ below meth c s₁ [] 0 0 _ ⟨Bd.exec, hZ, Bd.bytes, hml0, Bd.returns, findClass_of_methodNamed Bd.named, (name_of_methodNamed Bd.named Bd.method).1, r1, r2⟩ hX (by rw [e0]; exact hR) (Fr.nil _) hl1 (hl2.trans hml0.symm) (by rw [hh, Nat.add_zero]; exact hR.2.1.symm) (by rw [Nat.zero_add]; exact r3) (by rw [Nat.zero_add]; exact r4)
 obtain ⟨fs, hr, hrun, hended, hW, hsame⟩ := X'.leave (v := w.map (qv ad)) (fun q => by rw [hret (Bd.returns.symm.trans q)]; rfl)
 refine ⟨_, _, S' fs hr, hrun, hended, _, _, rfl, ⟨rfl, R', F'⟩, ⟨_, rfl⟩, hW, ?_⟩
 simp only [Nat.zero_add] at hsame
 exact hsame
theorem QTri.room {k : Nat} {σ σ₁ : QHeap} {rest : List Value} {R : Room} (hroom : (Nat.ble (pFr k + 1) (pFr m) && Nat.ble ((rest.map fun v => v.category).sum + (pMaxL k + 11) + pLo k) (pLo m)) = true) (hfr : pFr m ≤ R.frames) (hlo : pLo m ≤ R.locals) :
  pFr k + 1 ≤ R.frames ∧ (rest.map fun v => v.category).sum + (pMaxL k + 11) + pLo k ≤ R.locals := by
 obtain ⟨q1, q2⟩ := Bool.and_eq_true_iff.mp hroom
 exact ⟨Nat.le_trans (Nat.le_of_ble_eq_true q1) hfr, Nat.le_trans (Nat.le_of_ble_eq_true q2) hlo⟩
theorem sig_len {k : Nat} (hk : k < pN) {as : List Value} (hna : as.length = pNA k) : ∀ sig, parseMethodDescriptor (pName k).desc = some sig → (as.map (qv ad)).length = sig.parameters.length := fun sig hs => by
 have q := pSig k hk
 rw [show parseMethodDescriptor (pDs k) = some sig from hs] at q
 simp at q
 simp [hna, q]
theorem ret_map (w : Option Value) (rest : List Value) : (w.toList ++ rest).map (qv ad) = (w.map (qv ad)).toList ++ rest.map (qv ad) := by cases w <;> simp
theorem QTri.after {as0 : List Value} {pc : Nat} {L : QLoc} {S rest : List Value} {σ σ₁ : QHeap} {w : Option Value} {k : Nat} (hcal : QTri l Z n0 ad k (0, qentry as0 (pMaxL k), [], σ) w σ₁) (h : QTri l Z n0 ad m (pc + 3, L, w.toList ++ rest, σ₁) v σ')
  (hs : ∀ (p : Program) (e : Env) (R : Room) (s : State) (mid : MethodId) (args : Array Value) (below : List Frame) (meth : Method) (c : Code) (T : State) (locs : List Loc) (cells slots : Nat) (C : Array Slot),
   QCx Z p R s mid meth c m → Stand p l e R s mid args below meth c T locs cells slots → QRep Z n0 ad T.heap σ → C.size = c.maxLocals → cells + (σ₁.length - σ.length) ≤ R.cells → slots + (qhs σ₁ - qhs σ) ≤ R.slots →
   ∃ T₁ Lc, Stand p l e R s mid args below meth c T₁ (locs ++ Lc) (cells + (σ₁.length - σ.length)) (slots + (qhs σ₁ - qhs σ)) ∧ QRep Z n0 ad T₁.heap σ₁ ∧ Fr n0 Lc ∧
    ∀ target, Steps p.tables e below (T₁.setTop (mkF mid (pc + 3) C ((w.map (qv ad)).toList ++ rest.map (qv ad)))) target → Steps p.tables e below (T.setTop (mkF mid pc C (S.map (qv ad)))) target) :
  QTri l Z n0 ad m (pc, L, S, σ) v σ' := by
 refine QTri.gen h hcal.1 hcal.2.1 fun p e R s mid args below meth c T locs cells slots C hcx X hR hF hL hC hn hc1 hsl => ?_
 obtain ⟨T₁, Lc, X₁, R₁, F₁, st⟩ := hs p e R s mid args below meth c T locs cells slots C hcx X hR hC hc1 hsl
 refine ⟨T₁, locs ++ Lc, C, X₁, R₁, hF.app F₁, hL, hC, fun target q => st target ?_⟩
 rw [← ret_map]
 exact q
set_option maxHeartbeats 4000000 in
theorem QTri.callV (W : QW Z a0) {pc idx k a : Nat} {L : QLoc} {S as rest vs : List Value} {σ σ₁ : QHeap} {w : Option Value} (hc : pCode m pc = some (.invokevirtual idx, k)) (hm : (lkV.contains (pK m, idx, k) && mV.contains k) = true) (hcell : hget σ a = some (.inl vs)) (hS : S = as.reverse ++ .ref a :: rest)
  (hna : as.length = pNA k) (hlen : Nat.ble (((Value.ref a :: as).map fun v => v.category).sum) (pMaxL k) = true) (hroom : (Nat.ble (pFr k + 1) (pFr m) && Nat.ble ((rest.map fun v => v.category).sum + (pMaxL k + 11) + pLo k) (pLo m)) = true) (hrb : (w.isNone || (pRet k).isSome) = true)
  (hcal : QTri l Z n0 ad k (0, qentry (.ref a :: as) (pMaxL k), [], σ) w σ₁) (h : QTri l Z n0 ad m (pc + 3, L, w.toList ++ rest, σ₁) v σ') : QTri l Z n0 ad m (pc, L, S, σ) v σ' := by
 have hd : decode (pBytes m) pc = .ok (.invokevirtual idx, 3) := pDecN hc rfl
 subst hS
 obtain ⟨m1, m2⟩ := Bool.and_eq_true_iff.mp hm
 have m1 := mem_of_contains m1
 have m2 := mem_of_contains m2
 have hkA := (mVlt k m2).1
 have hkN := mAlt k hkA
 have hret : pRet k = none → w = none := fun q => by
  rw [q] at hrb
  cases w with
  | none => rfl
  | some w => simp at hrb
 refine QTri.after hcal h fun p e R s mid args below meth c T locs cells slots C hcx X hR hC hc1 hsl => ?_
 obtain ⟨hx, hZ, hby, hml, hret', hown, hnm, hfr, hlo⟩ := hcx
 have hd2 : decode c.code pc = .ok (.invokevirtual idx, 3) := by rw [hby]; exact hd
 obtain ⟨f1, f2⟩ := QTri.room (σ := σ) (σ₁ := σ₁) hroom hfr hlo
 obtain ⟨cq, kq, q1, q2, q3⟩ := isOf hZ rfl (hR.2.2 _ _ hcell).1
 obtain ⟨w1, w2, w3⟩ := (qw_vi W) k m2
 obtain ⟨c1, c2⟩ := (qw_cod W) k hkA
 obtain ⟨_, _, ⟨T₁, L₁, k₁, n₁⟩, -, X₁, ⟨Lc, ⟨rfl, hR1, hF1⟩, l₁, y₁, z₁⟩, st⟩ := X.virtualBack hx (own := kName (pK m)) (index := idx) (y := pName k) (z := pName k) hown (mvT hZ (qw_ml W (pK m, idx, k) m1)) (mvT hZ w1) (notFace_of_selects (args := #[]) (mvT hZ w2)) (mvT hZ w2) (mvT hZ w3) (pOwn _ (pKlt k hkN))
  (backOf (W := (rest.map fun v => v.category).sum) (rm := ⟨pFr k, σ₁.length - σ.length, qhs σ₁ - qhs σ, pLo k⟩) (Q := fun v h L => v = Option.map (qv ad) w ∧ QRep Z n0 ad h σ₁ ∧ Fr n0 L) (QTri.met hkN hcal hR (Nat.le_of_ble_eq_true hlen) hret [] (Nat.le_refl _) (Nat.le_refl _) (Nat.le_refl _) (Nat.le_refl _)) hZ c1 c2 f1 f2) q1 q3 (g := mkF mid pc C (List.map (qv ad) (as.reverse ++ .ref a :: rest))) rfl hC (Steps.refl _) (argsL := as.map (qv ad)) (rest := rest.map (qv ad)) (sig_len hkN hna) (by simp [qv]) (by show 2 * 0 + _ ≤ _; rw [cats_qv]; omega) hd2 (fun _ _ => ⟨rfl, rfl, hc1, hsl⟩)
 dsimp only [Pt.U, Pt.locs, Pt.cells, Pt.slots] at X₁ l₁ y₁ z₁ st hR1
 subst l₁ y₁ z₁
 exact ⟨T₁, Lc, X₁, hR1, hF1, fun target q => st.trans q⟩
set_option maxHeartbeats 4000000 in
theorem QTri.callI (W : QW Z a0) {pc idx k a : Nat} {L : QLoc} {S as rest : List Value} {σ σ₁ : QHeap} (hc : pCode m pc = some (.invokespecial idx, k)) (hm : (lkV.contains (pK m, idx, k) && mI.contains k) = true) (hS : S = as.reverse ++ .ref a :: rest)
  (hna : as.length = pNA k) (hlen : Nat.ble (((Value.ref a :: as).map fun v => v.category).sum) (pMaxL k) = true) (hroom : (Nat.ble (pFr k + 1) (pFr m) && Nat.ble ((rest.map fun v => v.category).sum + (pMaxL k + 11) + pLo k) (pLo m)) = true)
  (hcal : QTri l Z n0 ad k (0, qentry (.ref a :: as) (pMaxL k), [], σ) none σ₁) (h : QTri l Z n0 ad m (pc + 3, L, rest, σ₁) v σ') : QTri l Z n0 ad m (pc, L, S, σ) v σ' := by
 have hd : decode (pBytes m) pc = .ok (.invokespecial idx, 3) := pDecN hc rfl
 subst hS
 obtain ⟨m1, m2⟩ := Bool.and_eq_true_iff.mp hm
 have m1 := mem_of_contains m1
 have m2 := mem_of_contains m2
 obtain ⟨hkA, -, hin, hrt⟩ := mIlt k m2
 have hkN := mAlt k hkA
 refine QTri.after (w := none) hcal h fun p e R s mid args below meth c T locs cells slots C hcx X hR hC hc1 hsl => ?_
 obtain ⟨hx, hZ, hby, hml, hret', hown, hnm, hfr, hlo⟩ := hcx
 have hd2 : decode c.code pc = .ok (.invokespecial idx, 3) := by rw [hby]; exact hd
 obtain ⟨f1, f2⟩ := QTri.room (σ := σ) (σ₁ := σ₁) hroom hfr hlo
 obtain ⟨c1, c2⟩ := (qw_cod W) k hkA
 have c1' := c1
 rw [hrt] at c1'
 obtain ⟨_, _, ⟨T₁, L₁, k₁, n₁⟩, -, X₁, ⟨Lc, ⟨rfl, hR1, hF1⟩, l₁, y₁, z₁⟩, st⟩ := X.specialBack hx (own := kName (pK m)) (index := idx) (y := pName k) hin hown (mvT hZ (qw_ml W (pK m, idx, k) m1)) (mvT hZ ((qw_ini W) k m2)) (mvT hZ c1') (pOwn _ (pKlt k hkN))
  (backOf (W := (rest.map fun v => v.category).sum) (rm := ⟨pFr k, σ₁.length - σ.length, qhs σ₁ - qhs σ, pLo k⟩) (Q := fun v h L => v = Option.map (qv ad) none ∧ QRep Z n0 ad h σ₁ ∧ Fr n0 L) (QTri.met hkN hcal hR (Nat.le_of_ble_eq_true hlen) (fun _ => rfl) [] (Nat.le_refl _) (Nat.le_refl _) (Nat.le_refl _) (Nat.le_refl _)) hZ c1 c2 f1 f2) (g := mkF mid pc C (List.map (qv ad) (as.reverse ++ .ref a :: rest))) rfl hC (Steps.refl _) (a := ad a) (argsL := as.map (qv ad)) (rest := rest.map (qv ad)) (sig_len hkN hna) (by simp [qv]) (by show 2 * 0 + _ ≤ _; rw [cats_qv]; omega) hd2 (fun _ _ => ⟨rfl, rfl, hc1, hsl⟩)
 dsimp only [Pt.U, Pt.locs, Pt.cells, Pt.slots] at X₁ l₁ y₁ z₁ st hR1
 subst l₁ y₁ z₁
 exact ⟨T₁, Lc, X₁, hR1, hF1, fun target q => st.trans q⟩
set_option maxHeartbeats 4000000 in
theorem QTri.callP (W : QW Z a0) {pc idx k a : Nat} {L : QLoc} {S as rest vs : List Value} {σ σ₁ : QHeap} {w : Option Value} (hc : pCode m pc = some (.invokevirtual idx, k)) (hm : (lkV.contains (pK m, idx, k) && mP.contains k) = true) (hcell : hget σ a = some (.inl vs)) (hS : S = as.reverse ++ .ref a :: rest)
  (hna : as.length = pNA k) (hlen : Nat.ble (((Value.ref a :: as).map fun v => v.category).sum) (pMaxL k) = true) (hroom : (Nat.ble (pFr k + 1) (pFr m) && Nat.ble ((rest.map fun v => v.category).sum + (pMaxL k + 11) + pLo k) (pLo m)) = true) (hrb : (w.isNone || (pRet k).isSome) = true)
  (hcal : QTri l Z n0 ad k (0, qentry (.ref a :: as) (pMaxL k), [], σ) w σ₁) (h : QTri l Z n0 ad m (pc + 3, L, w.toList ++ rest, σ₁) v σ') : QTri l Z n0 ad m (pc, L, S, σ) v σ' := by
 have hd : decode (pBytes m) pc = .ok (.invokevirtual idx, 3) := pDecN hc rfl
 subst hS
 obtain ⟨m1, m2⟩ := Bool.and_eq_true_iff.mp hm
 have m1 := mem_of_contains m1
 have m2 := mem_of_contains m2
 obtain ⟨hkA, hk1⟩ := mPlt k m2
 have hkN := mAlt k hkA
 have hret : pRet k = none → w = none := fun q => by
  rw [q] at hrb
  cases w with
  | none => rfl
  | some w => simp at hrb
 refine QTri.after hcal h fun p e R s mid args below meth c T locs cells slots C hcx X hR hC hc1 hsl => ?_
 obtain ⟨hx, hZ, hby, hml, hret', hown, hnm, hfr, hlo⟩ := hcx
 have hd2 : decode c.code pc = .ok (.invokevirtual idx, 3) := by rw [hby]; exact hd
 obtain ⟨f1, f2⟩ := QTri.room (σ := σ) (σ₁ := σ₁) hroom hfr hlo
 obtain ⟨cell, h1, h2⟩ := (hR.2.2 _ _ hcell).1.cell
 obtain ⟨w1, w2⟩ := (qw_pr W) k m2
 obtain ⟨c1, c2⟩ := (qw_cod W) k hkA
 have hpr : s.PrivateAt (pName k) := Cond.privateMethod_at (mvP hZ w2 (args := #[]))
 obtain ⟨cC, kC, i1, i2, i3, i4⟩ := Cond.instantiable_spec (args := #[]) (mvT hZ (qw_inst W))
 have hsel : (Cond.selects (pName k).cls (pName k) (pName k)).before args s = true := selects_self_of_private (c := cC) (k := kC) (by show s.vm.findClass (kName (pK k)) = _; rw [hk1]; exact i1) i2 (by have q := i4.1; cases hq : kC.isInterface with | false => rfl | true => rw [hq] at q; simp at q) hpr (mvT hZ w1) (pOwn _ (pKlt k hkN))
 obtain ⟨_, _, ⟨T₁, L₁, k₁, n₁⟩, -, X₁, ⟨Lc, ⟨rfl, hR1, hF1⟩, l₁, y₁, z₁⟩, st⟩ := X.privateBack hx (own := kName (pK m)) (index := idx) (y := pName k) hown (mvT hZ (qw_ml W (pK m, idx, k) m1)) (mvT hZ w1) hsel hpr (mvT hZ c1) (pOwn _ (pKlt k hkN))
  (backOf (W := (rest.map fun v => v.category).sum) (rm := ⟨pFr k, σ₁.length - σ.length, qhs σ₁ - qhs σ, pLo k⟩) (Q := fun v h L => v = Option.map (qv ad) w ∧ QRep Z n0 ad h σ₁ ∧ Fr n0 L) (QTri.met hkN hcal hR (Nat.le_of_ble_eq_true hlen) hret [] (Nat.le_refl _) (Nat.le_refl _) (Nat.le_refl _) (Nat.le_refl _)) hZ c1 c2 f1 f2) (g := mkF mid pc C (List.map (qv ad) (as.reverse ++ .ref a :: rest))) rfl hC (Steps.refl _) (a := ad a) h1 h2 (argsL := as.map (qv ad)) (rest := rest.map (qv ad)) (sig_len hkN hna) (by simp [qv]) (by show 2 * 0 + _ ≤ _; rw [cats_qv]; omega) hd2 (fun _ _ => ⟨rfl, rfl, hc1, hsl⟩)
 dsimp only [Pt.U, Pt.locs, Pt.cells, Pt.slots] at X₁ l₁ y₁ z₁ st hR1
 subst l₁ y₁ z₁
 exact ⟨T₁, Lc, X₁, hR1, hF1, fun target q => st.trans q⟩
set_option maxHeartbeats 4000000 in
theorem QTri.callS (W : QW Z a0) {pc idx k : Nat} {L : QLoc} {S as rest : List Value} {σ σ₁ : QHeap} {w : Option Value} (hc : pCode m pc = some (.invokestatic idx, k)) (hm : (lkV.contains (pK m, idx, k) && mS.contains k) = true) (hS : S = as.reverse ++ rest)
  (hna : as.length = pNA k) (hlen : Nat.ble ((as.map fun v => v.category).sum) (pMaxL k) = true) (hroom : (Nat.ble (pFr k + 1) (pFr m) && Nat.ble ((rest.map fun v => v.category).sum + (pMaxL k + 11) + pLo k) (pLo m)) = true) (hrb : (w.isNone || (pRet k).isSome) = true)
  (hcal : QTri l Z n0 ad k (0, qentry as (pMaxL k), [], σ) w σ₁) (h : QTri l Z n0 ad m (pc + 3, L, w.toList ++ rest, σ₁) v σ') : QTri l Z n0 ad m (pc, L, S, σ) v σ' := by
 have hd : decode (pBytes m) pc = .ok (.invokestatic idx, 3) := pDecN hc rfl
 subst hS
 obtain ⟨m1, m2⟩ := Bool.and_eq_true_iff.mp hm
 have m1 := mem_of_contains m1
 have m2 := mem_of_contains m2
 have hkA := mSlt k m2
 have hkN := mAlt k hkA
 have hret : pRet k = none → w = none := fun q => by
  rw [q] at hrb
  cases w with
  | none => rfl
  | some w => simp at hrb
 refine QTri.after hcal h fun p e R s mid args below meth c T locs cells slots C hcx X hR hC hc1 hsl => ?_
 obtain ⟨hx, hZ, hby, hml, hret', hown, hnm, hfr, hlo⟩ := hcx
 have hd2 : decode c.code pc = .ok (.invokestatic idx, 3) := by rw [hby]; exact hd
 obtain ⟨f1, f2⟩ := QTri.room (σ := σ) (σ₁ := σ₁) hroom hfr hlo
 obtain ⟨c1, c2⟩ := (qw_cod W) k hkA
 obtain ⟨_, _, ⟨T₁, L₁, k₁, n₁⟩, -, X₁, ⟨Lc, ⟨rfl, hR1, hF1⟩, l₁, y₁, z₁⟩, st⟩ := Jvm.LawKit.callS X hx (own := kName (pK m)) (index := idx) (y := pName k) hown (mvT hZ (qw_ml W (pK m, idx, k) m1)) (mvT hZ ((qw_st W) k m2)) (mvT hZ c2) (mvT hZ c1) (pOwn _ (pKlt k hkN))
  (backOf (W := (rest.map fun v => v.category).sum) (rm := ⟨pFr k, σ₁.length - σ.length, qhs σ₁ - qhs σ, pLo k⟩) (Q := fun v h L => v = Option.map (qv ad) w ∧ QRep Z n0 ad h σ₁ ∧ Fr n0 L) (QTri.met hkN hcal hR (Nat.le_of_ble_eq_true hlen) hret [] (Nat.le_refl _) (Nat.le_refl _) (Nat.le_refl _) (Nat.le_refl _)) hZ c1 c2 f1 f2) (g := mkF mid pc C (List.map (qv ad) (as.reverse ++ rest))) rfl hC (argsL := as.map (qv ad)) (rest := rest.map (qv ad)) (sig_len hkN hna) (by simp) (by show 2 * 0 + _ ≤ _; rw [cats_qv]; omega) hd2 (fun _ _ => ⟨rfl, rfl, hc1, hsl⟩)
 dsimp only [Pt.U, Pt.locs, Pt.cells, Pt.slots] at X₁ l₁ y₁ z₁ st hR1
 subst l₁ y₁ z₁
 exact ⟨T₁, Lc, X₁, hR1, hF1, fun target q => st target q⟩
set_option maxHeartbeats 4000000 in
theorem QTri.callO (W : QW Z a0) {pc idx k a : Nat} {L : QLoc} {rest : List Value} {σ : QHeap} (hc : pCode m pc = some (.invokespecial idx, k)) (hm : lkO.contains (pK m, idx) = true) (hroom : (Nat.ble 1 (pFr m) && Nat.ble ((rest.map fun v => v.category).sum + 12) (pLo m)) = true)
  (h : QTri l Z n0 ad m (pc + 3, L, rest, σ) v σ') : QTri l Z n0 ad m (pc, L, .ref a :: rest, σ) v σ' :=
 have hd : decode (pBytes m) pc = .ok (.invokespecial idx, 3) := pDecN hc rfl
 QTri.pure h rfl fun p e R s mid args below meth c T locs cells slots C hcx X hR hL hC => by
  obtain ⟨hx, hZ, hby, hml, hret', hown, hnm, hfr, hlo⟩ := hcx
  have hd2 : decode c.code pc = .ok (.invokespecial idx, 3) := by rw [hby]; exact hd
  obtain ⟨q1, q2⟩ := Bool.and_eq_true_iff.mp hroom
  obtain ⟨T₁, X₁, e₁, st⟩ := initO X hx hZ hown (idx := idx) (qw_mo W (pK m, idx) (mem_of_contains hm)) ((qw_oi W)) ((qw_oc W)) rfl (g := mkF mid pc C (List.map (qv ad) (.ref a :: rest))) rfl hC rfl hd2 (Nat.le_trans (Nat.le_of_ble_eq_true q1) hfr) (W := (rest.map fun v => v.category).sum) (by show 2 * 0 + _ ≤ _; rw [cats_qv]; omega) (Nat.le_trans (Nat.le_of_ble_eq_true q2) hlo)
  exact ⟨T₁, C, X₁, e₁, hL, hC, st⟩
theorem QTri.brT (Ad : QAd n0 ad) (W : QW Z a0) {st : QSt} {t f : Nat} {L : QLoc} {S : List Value} {σ : QHeap} {b : Bool} (hs : qstep m st = some (bif b then t else f, L, S, σ)) (hb : b = true) (h : QTri l Z n0 ad m (t, L, S, σ) v σ') : QTri l Z n0 ad m st v σ' := by
 subst hb; exact QTri.step Ad W h hs
theorem QTri.brF (Ad : QAd n0 ad) (W : QW Z a0) {st : QSt} {t f : Nat} {L : QLoc} {S : List Value} {σ : QHeap} {b : Bool} (hs : qstep m st = some (bif b then t else f, L, S, σ)) (hb : b = false) (h : QTri l Z n0 ad m (f, L, S, σ) v σ') : QTri l Z n0 ad m st v σ' := by
 subst hb; exact QTri.step Ad W h hs
theorem QTri.bnd {α : Type} (Ad : QAd n0 ad) (W : QW Z a0) {st : QSt} {x : Option α} {f : α → QSt} {a : α} (hs : qstep m st = x.bind fun v => some (f v)) (hx : x = some a) (h : QTri l Z n0 ad m (f a) v σ') : QTri l Z n0 ad m st v σ' :=
 QTri.step Ad W h (by rw [hs, hx]; rfl)
theorem QTri.bndB (Ad : QAd n0 ad) (W : QW Z a0) {st : QSt} {x y : Int32} {g : Value → QSt} (hs : qstep m st = ((qboo x).bind fun y => some (Value.int y)).bind fun w => some (g w)) (hx : qboo x = some y) (h : QTri l Z n0 ad m (g (.int y)) v σ') : QTri l Z n0 ad m st v σ' :=
 QTri.step Ad W h (by rw [hs, hx]; rfl)
end Triples
theorem qite {α : Type} {c : Prop} [Decidable c] {a b : Option α} {r : α} (h : (if c then a else b) = some r) : (c ∧ a = some r) ∨ (¬ c ∧ b = some r) := by
 by_cases hc : c
 ·exact Or.inl ⟨hc, by rwa [if_pos hc] at h⟩
 ·exact Or.inr ⟨hc, by rwa [if_neg hc] at h⟩
def qN : Nat := 4000
def loopN {V E : Type} (B : V → Option (E ⊕ V)) : Nat → V → Option E
 | 0, _ => none
 | n + 1, v => match B v with
  | none => none
  | some (.inl e) => some e
  | some (.inr v') => loopN B n v'
theorem loopN_tri {V E : Type} {B : V → Option (E ⊕ V)} {T : V → Prop} {KE : E → Prop} (hB : ∀ v r, B v = some r → (∀ e, r = .inl e → KE e) → (∀ v', r = .inr v' → T v') → T v) : ∀ (n : Nat) (v : V) (e : E), loopN B n v = some e → KE e → T v
 | 0, _, _, h, _ => by cases h
 | n + 1, v, e, h, k => by
  simp only [loopN] at h
  split at h
  ·cases h
  ·rename_i e' he
   cases h
   exact hB v _ he (fun e q => by cases q; exact k) (fun v' q => by cases q)
  ·rename_i v' he
   exact hB v _ he (fun e q => by cases q) (fun v'' q => by cases q; exact loopN_tri hB n v' e h k)
theorem loopN_inv {V E : Type} {B : V → Option (E ⊕ V)} (I : V → Prop) (P : E → Prop) (μ : V → Nat) (hB : ∀ v, I v → (∃ e, B v = some (.inl e) ∧ P e) ∨ ∃ v', B v = some (.inr v') ∧ I v' ∧ μ v' < μ v) : ∀ (n : Nat) (v : V), I v → μ v < n → ∃ e, loopN B n v = some e ∧ P e
 | 0, _, _, h => absurd h (Nat.not_lt_zero _)
 | n + 1, v, hv, hm => by
  rcases hB v hv with ⟨e, h1, h2⟩ | ⟨v', h1, h2, h3⟩
  ·exact ⟨e, by simp only [loopN, h1], h2⟩
  ·obtain ⟨e, g1, g2⟩ := loopN_inv I P μ hB n v' h2 (by omega)
   exact ⟨e, by simp only [loopN, h1]; exact g1, g2⟩
theorem qfn {α : Type} {P : α → Prop} : ∀ t ∈ ([] : List α), P t := fun _ h => nomatch h
theorem qfc {α : Type} {P : α → Prop} {a : α} {t : List α} (h : P a) (ht : ∀ x ∈ t, P x) : ∀ x ∈ a :: t, P x := fun x hx => by rcases List.mem_cons.mp hx with rfl | q; exact h; exact ht x q
theorem QW_ok {Z : State} {a0 : Array Value} (hw : ∀ d ∈ tables_1, d.before a0 Z = true) : QW Z a0 := by
  have w0 : ∀ k ∈ List.range nF, bif fFin k then (Jvm.Cond.laysFinal cName cName (fNm k) (fDs k)).before a0 Z = true else (Jvm.Cond.lays cName cName (fNm k) (fDs k)).before a0 Z = true :=
    show ∀ k ∈ [0, 1, 2, 3, 4, 5, 6, 7, 8, 9, 10, 11, 12, 13, 14, 15, 16, 17, 18, 19, 20, 21, 22, 23, 24, 25, 26, 27, 28, 29, 30, 31, 32, 33, 34, 35], bif fFin k then (Jvm.Cond.laysFinal cName cName (fNm k) (fDs k)).before a0 Z = true else (Jvm.Cond.lays cName cName (fNm k) (fDs k)).before a0 Z = true from
    (qfc (hw _ (List.mem_of_getElem? (i := 11) rfl)) (qfc (hw _ (List.mem_of_getElem? (i := 13) rfl)) (qfc (hw _ (List.mem_of_getElem? (i := 15) rfl)) (qfc (hw _ (List.mem_of_getElem? (i := 17) rfl)) (qfc (hw _ (List.mem_of_getElem? (i := 19) rfl)) (qfc (hw _ (List.mem_of_getElem? (i := 21) rfl)) (qfc (hw _ (List.mem_of_getElem? (i := 23) rfl)) (qfc (hw _ (List.mem_of_getElem? (i := 25) rfl)) (qfc (hw _ (List.mem_of_getElem? (i := 27) rfl)) (qfc (hw _ (List.mem_of_getElem? (i := 29) rfl)) (qfc (hw _ (List.mem_of_getElem? (i := 31) rfl)) (qfc (hw _ (List.mem_of_getElem? (i := 33) rfl)) (qfc (hw _ (List.mem_of_getElem? (i := 35) rfl)) (qfc (hw _ (List.mem_of_getElem? (i := 37) rfl)) (qfc (hw _ (List.mem_of_getElem? (i := 39) rfl)) (qfc (hw _ (List.mem_of_getElem? (i := 41) rfl)) (qfc (hw _ (List.mem_of_getElem? (i := 43) rfl)) (qfc (hw _ (List.mem_of_getElem? (i := 45) rfl)) (qfc (hw _ (List.mem_of_getElem? (i := 47) rfl)) (qfc (hw _ (List.mem_of_getElem? (i := 49) rfl)) (qfc (hw _ (List.mem_of_getElem? (i := 51) rfl)) (qfc (hw _ (List.mem_of_getElem? (i := 53) rfl)) (qfc (hw _ (List.mem_of_getElem? (i := 55) rfl)) (qfc (hw _ (List.mem_of_getElem? (i := 57) rfl)) (qfc (hw _ (List.mem_of_getElem? (i := 59) rfl)) (qfc (hw _ (List.mem_of_getElem? (i := 61) rfl)) (qfc (hw _ (List.mem_of_getElem? (i := 63) rfl)) (qfc (hw _ (List.mem_of_getElem? (i := 65) rfl)) (qfc (hw _ (List.mem_of_getElem? (i := 67) rfl)) (qfc (hw _ (List.mem_of_getElem? (i := 69) rfl)) (qfc (hw _ (List.mem_of_getElem? (i := 71) rfl)) (qfc (hw _ (List.mem_of_getElem? (i := 73) rfl)) (qfc (hw _ (List.mem_of_getElem? (i := 75) rfl)) (qfc (hw _ (List.mem_of_getElem? (i := 77) rfl)) (qfc (hw _ (List.mem_of_getElem? (i := 79) rfl)) (qfc (hw _ (List.mem_of_getElem? (i := 196) rfl)) qfn))))))))))))))))))))))))))))))))))))
  refine ⟨?_, ?_, ?_, ?_, ?_, ?_, ?_, ?_, ?_, ?_, ?_, ?_, ?_, (fun k hk => w0 k (List.mem_range.mpr hk)), ?_, ?_, ?_⟩
  · exact (qfc (hw _ (List.mem_of_getElem? (i := 10) rfl)) (qfc (hw _ (List.mem_of_getElem? (i := 12) rfl)) (qfc (hw _ (List.mem_of_getElem? (i := 14) rfl)) (qfc (hw _ (List.mem_of_getElem? (i := 16) rfl)) (qfc (hw _ (List.mem_of_getElem? (i := 18) rfl)) (qfc (hw _ (List.mem_of_getElem? (i := 20) rfl)) (qfc (hw _ (List.mem_of_getElem? (i := 22) rfl)) (qfc (hw _ (List.mem_of_getElem? (i := 24) rfl)) (qfc (hw _ (List.mem_of_getElem? (i := 26) rfl)) (qfc (hw _ (List.mem_of_getElem? (i := 28) rfl)) (qfc (hw _ (List.mem_of_getElem? (i := 30) rfl)) (qfc (hw _ (List.mem_of_getElem? (i := 32) rfl)) (qfc (hw _ (List.mem_of_getElem? (i := 34) rfl)) (qfc (hw _ (List.mem_of_getElem? (i := 36) rfl)) (qfc (hw _ (List.mem_of_getElem? (i := 38) rfl)) (qfc (hw _ (List.mem_of_getElem? (i := 40) rfl)) (qfc (hw _ (List.mem_of_getElem? (i := 42) rfl)) (qfc (hw _ (List.mem_of_getElem? (i := 44) rfl)) (qfc (hw _ (List.mem_of_getElem? (i := 46) rfl)) (qfc (hw _ (List.mem_of_getElem? (i := 48) rfl)) (qfc (hw _ (List.mem_of_getElem? (i := 50) rfl)) (qfc (hw _ (List.mem_of_getElem? (i := 52) rfl)) (qfc (hw _ (List.mem_of_getElem? (i := 54) rfl)) (qfc (hw _ (List.mem_of_getElem? (i := 56) rfl)) (qfc (hw _ (List.mem_of_getElem? (i := 58) rfl)) (qfc (hw _ (List.mem_of_getElem? (i := 60) rfl)) (qfc (hw _ (List.mem_of_getElem? (i := 62) rfl)) (qfc (hw _ (List.mem_of_getElem? (i := 64) rfl)) (qfc (hw _ (List.mem_of_getElem? (i := 66) rfl)) (qfc (hw _ (List.mem_of_getElem? (i := 68) rfl)) (qfc (hw _ (List.mem_of_getElem? (i := 70) rfl)) (qfc (hw _ (List.mem_of_getElem? (i := 72) rfl)) (qfc (hw _ (List.mem_of_getElem? (i := 74) rfl)) (qfc (hw _ (List.mem_of_getElem? (i := 76) rfl)) (qfc (hw _ (List.mem_of_getElem? (i := 78) rfl)) (qfc (hw _ (List.mem_of_getElem? (i := 195) rfl)) qfn))))))))))))))))))))))))))))))))))))
  · exact (qfc (hw _ (List.mem_of_getElem? (i := 0) rfl)) qfn)
  · exact qfn
  · exact (qfc ⟨_, rfl, (hw _ (List.mem_of_getElem? (i := 152) rfl))⟩ qfn)
  · exact (qfc (hw _ (List.mem_of_getElem? (i := 3) rfl)) (qfc (hw _ (List.mem_of_getElem? (i := 80) rfl)) (qfc (hw _ (List.mem_of_getElem? (i := 85) rfl)) (qfc (hw _ (List.mem_of_getElem? (i := 90) rfl)) (qfc (hw _ (List.mem_of_getElem? (i := 94) rfl)) (qfc (hw _ (List.mem_of_getElem? (i := 99) rfl)) (qfc (hw _ (List.mem_of_getElem? (i := 103) rfl)) (qfc (hw _ (List.mem_of_getElem? (i := 107) rfl)) (qfc (hw _ (List.mem_of_getElem? (i := 112) rfl)) (qfc (hw _ (List.mem_of_getElem? (i := 117) rfl)) (qfc (hw _ (List.mem_of_getElem? (i := 122) rfl)) (qfc (hw _ (List.mem_of_getElem? (i := 127) rfl)) (qfc (hw _ (List.mem_of_getElem? (i := 131) rfl)) (qfc (hw _ (List.mem_of_getElem? (i := 135) rfl)) (qfc (hw _ (List.mem_of_getElem? (i := 139) rfl)) (qfc (hw _ (List.mem_of_getElem? (i := 144) rfl)) (qfc (hw _ (List.mem_of_getElem? (i := 147) rfl)) (qfc (hw _ (List.mem_of_getElem? (i := 153) rfl)) (qfc (hw _ (List.mem_of_getElem? (i := 158) rfl)) (qfc (hw _ (List.mem_of_getElem? (i := 163) rfl)) (qfc (hw _ (List.mem_of_getElem? (i := 168) rfl)) (qfc (hw _ (List.mem_of_getElem? (i := 173) rfl)) (qfc (hw _ (List.mem_of_getElem? (i := 176) rfl)) (qfc (hw _ (List.mem_of_getElem? (i := 181) rfl)) (qfc (hw _ (List.mem_of_getElem? (i := 186) rfl)) (qfc (hw _ (List.mem_of_getElem? (i := 191) rfl)) (qfc (hw _ (List.mem_of_getElem? (i := 197) rfl)) (qfc (hw _ (List.mem_of_getElem? (i := 201) rfl)) (qfc (hw _ (List.mem_of_getElem? (i := 205) rfl)) (qfc (hw _ (List.mem_of_getElem? (i := 209) rfl)) (qfc (hw _ (List.mem_of_getElem? (i := 213) rfl)) (qfc (hw _ (List.mem_of_getElem? (i := 217) rfl)) (qfc (hw _ (List.mem_of_getElem? (i := 221) rfl)) (qfc (hw _ (List.mem_of_getElem? (i := 225) rfl)) (qfc (hw _ (List.mem_of_getElem? (i := 229) rfl)) (qfc (hw _ (List.mem_of_getElem? (i := 233) rfl)) (qfc (hw _ (List.mem_of_getElem? (i := 237) rfl)) qfn)))))))))))))))))))))))))))))))))))))
  · exact (qfc (hw _ (List.mem_of_getElem? (i := 6) rfl)) qfn)
  · exact (qfc ⟨(hw _ (List.mem_of_getElem? (i := 81) rfl)), (hw _ (List.mem_of_getElem? (i := 83) rfl)), (hw _ (List.mem_of_getElem? (i := 82) rfl))⟩ (qfc ⟨(hw _ (List.mem_of_getElem? (i := 86) rfl)), (hw _ (List.mem_of_getElem? (i := 88) rfl)), (hw _ (List.mem_of_getElem? (i := 87) rfl))⟩ (qfc ⟨(hw _ (List.mem_of_getElem? (i := 95) rfl)), (hw _ (List.mem_of_getElem? (i := 97) rfl)), (hw _ (List.mem_of_getElem? (i := 96) rfl))⟩ (qfc ⟨(hw _ (List.mem_of_getElem? (i := 108) rfl)), (hw _ (List.mem_of_getElem? (i := 110) rfl)), (hw _ (List.mem_of_getElem? (i := 109) rfl))⟩ (qfc ⟨(hw _ (List.mem_of_getElem? (i := 113) rfl)), (hw _ (List.mem_of_getElem? (i := 115) rfl)), (hw _ (List.mem_of_getElem? (i := 114) rfl))⟩ (qfc ⟨(hw _ (List.mem_of_getElem? (i := 118) rfl)), (hw _ (List.mem_of_getElem? (i := 120) rfl)), (hw _ (List.mem_of_getElem? (i := 119) rfl))⟩ (qfc ⟨(hw _ (List.mem_of_getElem? (i := 123) rfl)), (hw _ (List.mem_of_getElem? (i := 125) rfl)), (hw _ (List.mem_of_getElem? (i := 124) rfl))⟩ (qfc ⟨(hw _ (List.mem_of_getElem? (i := 140) rfl)), (hw _ (List.mem_of_getElem? (i := 142) rfl)), (hw _ (List.mem_of_getElem? (i := 141) rfl))⟩ (qfc ⟨(hw _ (List.mem_of_getElem? (i := 148) rfl)), (hw _ (List.mem_of_getElem? (i := 150) rfl)), (hw _ (List.mem_of_getElem? (i := 149) rfl))⟩ (qfc ⟨(hw _ (List.mem_of_getElem? (i := 154) rfl)), (hw _ (List.mem_of_getElem? (i := 156) rfl)), (hw _ (List.mem_of_getElem? (i := 155) rfl))⟩ (qfc ⟨(hw _ (List.mem_of_getElem? (i := 159) rfl)), (hw _ (List.mem_of_getElem? (i := 161) rfl)), (hw _ (List.mem_of_getElem? (i := 160) rfl))⟩ (qfc ⟨(hw _ (List.mem_of_getElem? (i := 164) rfl)), (hw _ (List.mem_of_getElem? (i := 166) rfl)), (hw _ (List.mem_of_getElem? (i := 165) rfl))⟩ (qfc ⟨(hw _ (List.mem_of_getElem? (i := 169) rfl)), (hw _ (List.mem_of_getElem? (i := 171) rfl)), (hw _ (List.mem_of_getElem? (i := 170) rfl))⟩ (qfc ⟨(hw _ (List.mem_of_getElem? (i := 177) rfl)), (hw _ (List.mem_of_getElem? (i := 179) rfl)), (hw _ (List.mem_of_getElem? (i := 178) rfl))⟩ (qfc ⟨(hw _ (List.mem_of_getElem? (i := 182) rfl)), (hw _ (List.mem_of_getElem? (i := 184) rfl)), (hw _ (List.mem_of_getElem? (i := 183) rfl))⟩ (qfc ⟨(hw _ (List.mem_of_getElem? (i := 187) rfl)), (hw _ (List.mem_of_getElem? (i := 189) rfl)), (hw _ (List.mem_of_getElem? (i := 188) rfl))⟩ qfn))))))))))))))))
  · exact (qfc ⟨(hw _ (List.mem_of_getElem? (i := 91) rfl)), (hw _ (List.mem_of_getElem? (i := 92) rfl))⟩ (qfc ⟨(hw _ (List.mem_of_getElem? (i := 100) rfl)), (hw _ (List.mem_of_getElem? (i := 101) rfl))⟩ (qfc ⟨(hw _ (List.mem_of_getElem? (i := 104) rfl)), (hw _ (List.mem_of_getElem? (i := 105) rfl))⟩ (qfc ⟨(hw _ (List.mem_of_getElem? (i := 128) rfl)), (hw _ (List.mem_of_getElem? (i := 129) rfl))⟩ (qfc ⟨(hw _ (List.mem_of_getElem? (i := 132) rfl)), (hw _ (List.mem_of_getElem? (i := 133) rfl))⟩ (qfc ⟨(hw _ (List.mem_of_getElem? (i := 192) rfl)), (hw _ (List.mem_of_getElem? (i := 193) rfl))⟩ (qfc ⟨(hw _ (List.mem_of_getElem? (i := 198) rfl)), (hw _ (List.mem_of_getElem? (i := 199) rfl))⟩ (qfc ⟨(hw _ (List.mem_of_getElem? (i := 202) rfl)), (hw _ (List.mem_of_getElem? (i := 203) rfl))⟩ (qfc ⟨(hw _ (List.mem_of_getElem? (i := 206) rfl)), (hw _ (List.mem_of_getElem? (i := 207) rfl))⟩ (qfc ⟨(hw _ (List.mem_of_getElem? (i := 210) rfl)), (hw _ (List.mem_of_getElem? (i := 211) rfl))⟩ (qfc ⟨(hw _ (List.mem_of_getElem? (i := 214) rfl)), (hw _ (List.mem_of_getElem? (i := 215) rfl))⟩ (qfc ⟨(hw _ (List.mem_of_getElem? (i := 218) rfl)), (hw _ (List.mem_of_getElem? (i := 219) rfl))⟩ (qfc ⟨(hw _ (List.mem_of_getElem? (i := 222) rfl)), (hw _ (List.mem_of_getElem? (i := 223) rfl))⟩ (qfc ⟨(hw _ (List.mem_of_getElem? (i := 226) rfl)), (hw _ (List.mem_of_getElem? (i := 227) rfl))⟩ (qfc ⟨(hw _ (List.mem_of_getElem? (i := 230) rfl)), (hw _ (List.mem_of_getElem? (i := 231) rfl))⟩ (qfc ⟨(hw _ (List.mem_of_getElem? (i := 234) rfl)), (hw _ (List.mem_of_getElem? (i := 235) rfl))⟩ (qfc ⟨(hw _ (List.mem_of_getElem? (i := 238) rfl)), (hw _ (List.mem_of_getElem? (i := 239) rfl))⟩ qfn)))))))))))))))))
  · exact (qfc (hw _ (List.mem_of_getElem? (i := 136) rfl)) (qfc (hw _ (List.mem_of_getElem? (i := 145) rfl)) (qfc (hw _ (List.mem_of_getElem? (i := 174) rfl)) qfn)))
  · exact (qfc (hw _ (List.mem_of_getElem? (i := 4) rfl)) qfn)
  · exact (qfc ⟨(hw _ (List.mem_of_getElem? (i := 5) rfl)), (hw _ (List.mem_of_getElem? (i := 2) rfl))⟩ (qfc ⟨(hw _ (List.mem_of_getElem? (i := 84) rfl)), (hw _ (List.mem_of_getElem? (i := 2) rfl))⟩ (qfc ⟨(hw _ (List.mem_of_getElem? (i := 89) rfl)), (hw _ (List.mem_of_getElem? (i := 2) rfl))⟩ (qfc ⟨(hw _ (List.mem_of_getElem? (i := 93) rfl)), (hw _ (List.mem_of_getElem? (i := 2) rfl))⟩ (qfc ⟨(hw _ (List.mem_of_getElem? (i := 98) rfl)), (hw _ (List.mem_of_getElem? (i := 2) rfl))⟩ (qfc ⟨(hw _ (List.mem_of_getElem? (i := 102) rfl)), (hw _ (List.mem_of_getElem? (i := 2) rfl))⟩ (qfc ⟨(hw _ (List.mem_of_getElem? (i := 106) rfl)), (hw _ (List.mem_of_getElem? (i := 2) rfl))⟩ (qfc ⟨(hw _ (List.mem_of_getElem? (i := 111) rfl)), (hw _ (List.mem_of_getElem? (i := 2) rfl))⟩ (qfc ⟨(hw _ (List.mem_of_getElem? (i := 116) rfl)), (hw _ (List.mem_of_getElem? (i := 2) rfl))⟩ (qfc ⟨(hw _ (List.mem_of_getElem? (i := 121) rfl)), (hw _ (List.mem_of_getElem? (i := 2) rfl))⟩ (qfc ⟨(hw _ (List.mem_of_getElem? (i := 126) rfl)), (hw _ (List.mem_of_getElem? (i := 2) rfl))⟩ (qfc ⟨(hw _ (List.mem_of_getElem? (i := 130) rfl)), (hw _ (List.mem_of_getElem? (i := 2) rfl))⟩ (qfc ⟨(hw _ (List.mem_of_getElem? (i := 134) rfl)), (hw _ (List.mem_of_getElem? (i := 2) rfl))⟩ (qfc ⟨(hw _ (List.mem_of_getElem? (i := 138) rfl)), (hw _ (List.mem_of_getElem? (i := 137) rfl))⟩ (qfc ⟨(hw _ (List.mem_of_getElem? (i := 143) rfl)), (hw _ (List.mem_of_getElem? (i := 2) rfl))⟩ (qfc ⟨(hw _ (List.mem_of_getElem? (i := 146) rfl)), (hw _ (List.mem_of_getElem? (i := 137) rfl))⟩ (qfc ⟨(hw _ (List.mem_of_getElem? (i := 151) rfl)), (hw _ (List.mem_of_getElem? (i := 2) rfl))⟩ (qfc ⟨(hw _ (List.mem_of_getElem? (i := 157) rfl)), (hw _ (List.mem_of_getElem? (i := 2) rfl))⟩ (qfc ⟨(hw _ (List.mem_of_getElem? (i := 162) rfl)), (hw _ (List.mem_of_getElem? (i := 2) rfl))⟩ (qfc ⟨(hw _ (List.mem_of_getElem? (i := 167) rfl)), (hw _ (List.mem_of_getElem? (i := 2) rfl))⟩ (qfc ⟨(hw _ (List.mem_of_getElem? (i := 172) rfl)), (hw _ (List.mem_of_getElem? (i := 2) rfl))⟩ (qfc ⟨(hw _ (List.mem_of_getElem? (i := 175) rfl)), (hw _ (List.mem_of_getElem? (i := 137) rfl))⟩ (qfc ⟨(hw _ (List.mem_of_getElem? (i := 180) rfl)), (hw _ (List.mem_of_getElem? (i := 2) rfl))⟩ (qfc ⟨(hw _ (List.mem_of_getElem? (i := 185) rfl)), (hw _ (List.mem_of_getElem? (i := 2) rfl))⟩ (qfc ⟨(hw _ (List.mem_of_getElem? (i := 190) rfl)), (hw _ (List.mem_of_getElem? (i := 2) rfl))⟩ (qfc ⟨(hw _ (List.mem_of_getElem? (i := 194) rfl)), (hw _ (List.mem_of_getElem? (i := 2) rfl))⟩ (qfc ⟨(hw _ (List.mem_of_getElem? (i := 200) rfl)), (hw _ (List.mem_of_getElem? (i := 2) rfl))⟩ (qfc ⟨(hw _ (List.mem_of_getElem? (i := 204) rfl)), (hw _ (List.mem_of_getElem? (i := 2) rfl))⟩ (qfc ⟨(hw _ (List.mem_of_getElem? (i := 208) rfl)), (hw _ (List.mem_of_getElem? (i := 2) rfl))⟩ (qfc ⟨(hw _ (List.mem_of_getElem? (i := 212) rfl)), (hw _ (List.mem_of_getElem? (i := 2) rfl))⟩ (qfc ⟨(hw _ (List.mem_of_getElem? (i := 216) rfl)), (hw _ (List.mem_of_getElem? (i := 2) rfl))⟩ (qfc ⟨(hw _ (List.mem_of_getElem? (i := 220) rfl)), (hw _ (List.mem_of_getElem? (i := 2) rfl))⟩ (qfc ⟨(hw _ (List.mem_of_getElem? (i := 224) rfl)), (hw _ (List.mem_of_getElem? (i := 2) rfl))⟩ (qfc ⟨(hw _ (List.mem_of_getElem? (i := 228) rfl)), (hw _ (List.mem_of_getElem? (i := 2) rfl))⟩ (qfc ⟨(hw _ (List.mem_of_getElem? (i := 232) rfl)), (hw _ (List.mem_of_getElem? (i := 2) rfl))⟩ (qfc ⟨(hw _ (List.mem_of_getElem? (i := 236) rfl)), (hw _ (List.mem_of_getElem? (i := 2) rfl))⟩ (qfc ⟨(hw _ (List.mem_of_getElem? (i := 240) rfl)), (hw _ (List.mem_of_getElem? (i := 2) rfl))⟩ qfn)))))))))))))))))))))))))))))))))))))
  · exact (hw _ (List.mem_of_getElem? (i := 7) rfl))
  · exact (hw _ (List.mem_of_getElem? (i := 8) rfl))
  · exact (hw _ (List.mem_of_getElem? (i := 1) rfl))
  · exact (hw _ (List.mem_of_getElem? (i := 2) rfl))
  · exact (qfc (hw _ (List.mem_of_getElem? (i := 9) rfl)) qfn)
abbrev Ob := List Int32 × List Int32 × List Int32 × List Int32 × List Int32 × List Int32 × List Int32 × List Int32 × List Int32 × List Int32 × List Int32 × List Int32 × List Int32 × List Int32 × List Int32 × List Int32 × List Int32 × List Int32 × List Int32 × List Int32 × List Int32 × List Int32 × List Int32 × List Int32 × List Int32 × List Int32 × List Int32 × List Int32 × Int32 × Int32 × Int32 × Int32 × Int32 × Int32 × Int32 × Int32
def f_bOp (o : Ob) : List Int32 := o.1
def f_bD (o : Ob) : List Int32 := o.2.1
def f_bS (o : Ob) : List Int32 := o.2.2.1
def f_bImm (o : Ob) : List Int32 := o.2.2.2.1
def f_bTerm (o : Ob) : List Int32 := o.2.2.2.2.1
def f_bTest (o : Ob) : List Int32 := o.2.2.2.2.2.1
def f_bT0 (o : Ob) : List Int32 := o.2.2.2.2.2.2.1
def f_bT1 (o : Ob) : List Int32 := o.2.2.2.2.2.2.2.1
def f_cnt0 (o : Ob) : List Int32 := o.2.2.2.2.2.2.2.2.1
def f_cnt1 (o : Ob) : List Int32 := o.2.2.2.2.2.2.2.2.2.1
def f_regs (o : Ob) : List Int32 := o.2.2.2.2.2.2.2.2.2.2.1
def f_outs (o : Ob) : List Int32 := o.2.2.2.2.2.2.2.2.2.2.2.1
def f_edgeId (o : Ob) : List Int32 := o.2.2.2.2.2.2.2.2.2.2.2.2.1
def f_edgeW (o : Ob) : List Int32 := o.2.2.2.2.2.2.2.2.2.2.2.2.2.1
def f_chNext (o : Ob) : List Int32 := o.2.2.2.2.2.2.2.2.2.2.2.2.2.2.1
def f_chPrev (o : Ob) : List Int32 := o.2.2.2.2.2.2.2.2.2.2.2.2.2.2.2.1
def f_chHead (o : Ob) : List Int32 := o.2.2.2.2.2.2.2.2.2.2.2.2.2.2.2.2.1
def f_heat (o : Ob) : List Int32 := o.2.2.2.2.2.2.2.2.2.2.2.2.2.2.2.2.2.1
def f_posOf (o : Ob) : List Int32 := o.2.2.2.2.2.2.2.2.2.2.2.2.2.2.2.2.2.2.1
def f_order (o : Ob) : List Int32 := o.2.2.2.2.2.2.2.2.2.2.2.2.2.2.2.2.2.2.2.1
def f_cOp (o : Ob) : List Int32 := o.2.2.2.2.2.2.2.2.2.2.2.2.2.2.2.2.2.2.2.2.1
def f_cD (o : Ob) : List Int32 := o.2.2.2.2.2.2.2.2.2.2.2.2.2.2.2.2.2.2.2.2.2.1
def f_cS (o : Ob) : List Int32 := o.2.2.2.2.2.2.2.2.2.2.2.2.2.2.2.2.2.2.2.2.2.2.1
def f_cImm (o : Ob) : List Int32 := o.2.2.2.2.2.2.2.2.2.2.2.2.2.2.2.2.2.2.2.2.2.2.2.1
def f_cKind (o : Ob) : List Int32 := o.2.2.2.2.2.2.2.2.2.2.2.2.2.2.2.2.2.2.2.2.2.2.2.2.1
def f_cTest (o : Ob) : List Int32 := o.2.2.2.2.2.2.2.2.2.2.2.2.2.2.2.2.2.2.2.2.2.2.2.2.2.1
def f_cTaken (o : Ob) : List Int32 := o.2.2.2.2.2.2.2.2.2.2.2.2.2.2.2.2.2.2.2.2.2.2.2.2.2.2.1
def f_cOther (o : Ob) : List Int32 := o.2.2.2.2.2.2.2.2.2.2.2.2.2.2.2.2.2.2.2.2.2.2.2.2.2.2.2.1
def f_maxBlocks (o : Ob) : Int32 := o.2.2.2.2.2.2.2.2.2.2.2.2.2.2.2.2.2.2.2.2.2.2.2.2.2.2.2.2.1
def f_maxSteps (o : Ob) : Int32 := o.2.2.2.2.2.2.2.2.2.2.2.2.2.2.2.2.2.2.2.2.2.2.2.2.2.2.2.2.2.1
def f_n (o : Ob) : Int32 := o.2.2.2.2.2.2.2.2.2.2.2.2.2.2.2.2.2.2.2.2.2.2.2.2.2.2.2.2.2.2.1
def f_arranged (o : Ob) : Int32 := o.2.2.2.2.2.2.2.2.2.2.2.2.2.2.2.2.2.2.2.2.2.2.2.2.2.2.2.2.2.2.2.1
def f_outCount (o : Ob) : Int32 := o.2.2.2.2.2.2.2.2.2.2.2.2.2.2.2.2.2.2.2.2.2.2.2.2.2.2.2.2.2.2.2.2.1
def f_steps (o : Ob) : Int32 := o.2.2.2.2.2.2.2.2.2.2.2.2.2.2.2.2.2.2.2.2.2.2.2.2.2.2.2.2.2.2.2.2.2.1
def f_status (o : Ob) : Int32 := o.2.2.2.2.2.2.2.2.2.2.2.2.2.2.2.2.2.2.2.2.2.2.2.2.2.2.2.2.2.2.2.2.2.2.1
def f_edgeN (o : Ob) : Int32 := o.2.2.2.2.2.2.2.2.2.2.2.2.2.2.2.2.2.2.2.2.2.2.2.2.2.2.2.2.2.2.2.2.2.2.2
def s_bOp (o : Ob) (v : List Int32) : Ob := (v, o.2.1, o.2.2.1, o.2.2.2.1, o.2.2.2.2.1, o.2.2.2.2.2.1, o.2.2.2.2.2.2.1, o.2.2.2.2.2.2.2.1, o.2.2.2.2.2.2.2.2.1, o.2.2.2.2.2.2.2.2.2.1, o.2.2.2.2.2.2.2.2.2.2.1, o.2.2.2.2.2.2.2.2.2.2.2.1, o.2.2.2.2.2.2.2.2.2.2.2.2.1, o.2.2.2.2.2.2.2.2.2.2.2.2.2.1, o.2.2.2.2.2.2.2.2.2.2.2.2.2.2.1, o.2.2.2.2.2.2.2.2.2.2.2.2.2.2.2.1, o.2.2.2.2.2.2.2.2.2.2.2.2.2.2.2.2.1, o.2.2.2.2.2.2.2.2.2.2.2.2.2.2.2.2.2.1, o.2.2.2.2.2.2.2.2.2.2.2.2.2.2.2.2.2.2.1, o.2.2.2.2.2.2.2.2.2.2.2.2.2.2.2.2.2.2.2.1, o.2.2.2.2.2.2.2.2.2.2.2.2.2.2.2.2.2.2.2.2.1, o.2.2.2.2.2.2.2.2.2.2.2.2.2.2.2.2.2.2.2.2.2.1, o.2.2.2.2.2.2.2.2.2.2.2.2.2.2.2.2.2.2.2.2.2.2.1, o.2.2.2.2.2.2.2.2.2.2.2.2.2.2.2.2.2.2.2.2.2.2.2.1, o.2.2.2.2.2.2.2.2.2.2.2.2.2.2.2.2.2.2.2.2.2.2.2.2.1, o.2.2.2.2.2.2.2.2.2.2.2.2.2.2.2.2.2.2.2.2.2.2.2.2.2.1, o.2.2.2.2.2.2.2.2.2.2.2.2.2.2.2.2.2.2.2.2.2.2.2.2.2.2.1, o.2.2.2.2.2.2.2.2.2.2.2.2.2.2.2.2.2.2.2.2.2.2.2.2.2.2.2.1, o.2.2.2.2.2.2.2.2.2.2.2.2.2.2.2.2.2.2.2.2.2.2.2.2.2.2.2.2.1, o.2.2.2.2.2.2.2.2.2.2.2.2.2.2.2.2.2.2.2.2.2.2.2.2.2.2.2.2.2.1, o.2.2.2.2.2.2.2.2.2.2.2.2.2.2.2.2.2.2.2.2.2.2.2.2.2.2.2.2.2.2.1, o.2.2.2.2.2.2.2.2.2.2.2.2.2.2.2.2.2.2.2.2.2.2.2.2.2.2.2.2.2.2.2.1, o.2.2.2.2.2.2.2.2.2.2.2.2.2.2.2.2.2.2.2.2.2.2.2.2.2.2.2.2.2.2.2.2.1, o.2.2.2.2.2.2.2.2.2.2.2.2.2.2.2.2.2.2.2.2.2.2.2.2.2.2.2.2.2.2.2.2.2.1, o.2.2.2.2.2.2.2.2.2.2.2.2.2.2.2.2.2.2.2.2.2.2.2.2.2.2.2.2.2.2.2.2.2.2.1, o.2.2.2.2.2.2.2.2.2.2.2.2.2.2.2.2.2.2.2.2.2.2.2.2.2.2.2.2.2.2.2.2.2.2.2)
def s_bD (o : Ob) (v : List Int32) : Ob := (o.1, v, o.2.2.1, o.2.2.2.1, o.2.2.2.2.1, o.2.2.2.2.2.1, o.2.2.2.2.2.2.1, o.2.2.2.2.2.2.2.1, o.2.2.2.2.2.2.2.2.1, o.2.2.2.2.2.2.2.2.2.1, o.2.2.2.2.2.2.2.2.2.2.1, o.2.2.2.2.2.2.2.2.2.2.2.1, o.2.2.2.2.2.2.2.2.2.2.2.2.1, o.2.2.2.2.2.2.2.2.2.2.2.2.2.1, o.2.2.2.2.2.2.2.2.2.2.2.2.2.2.1, o.2.2.2.2.2.2.2.2.2.2.2.2.2.2.2.1, o.2.2.2.2.2.2.2.2.2.2.2.2.2.2.2.2.1, o.2.2.2.2.2.2.2.2.2.2.2.2.2.2.2.2.2.1, o.2.2.2.2.2.2.2.2.2.2.2.2.2.2.2.2.2.2.1, o.2.2.2.2.2.2.2.2.2.2.2.2.2.2.2.2.2.2.2.1, o.2.2.2.2.2.2.2.2.2.2.2.2.2.2.2.2.2.2.2.2.1, o.2.2.2.2.2.2.2.2.2.2.2.2.2.2.2.2.2.2.2.2.2.1, o.2.2.2.2.2.2.2.2.2.2.2.2.2.2.2.2.2.2.2.2.2.2.1, o.2.2.2.2.2.2.2.2.2.2.2.2.2.2.2.2.2.2.2.2.2.2.2.1, o.2.2.2.2.2.2.2.2.2.2.2.2.2.2.2.2.2.2.2.2.2.2.2.2.1, o.2.2.2.2.2.2.2.2.2.2.2.2.2.2.2.2.2.2.2.2.2.2.2.2.2.1, o.2.2.2.2.2.2.2.2.2.2.2.2.2.2.2.2.2.2.2.2.2.2.2.2.2.2.1, o.2.2.2.2.2.2.2.2.2.2.2.2.2.2.2.2.2.2.2.2.2.2.2.2.2.2.2.1, o.2.2.2.2.2.2.2.2.2.2.2.2.2.2.2.2.2.2.2.2.2.2.2.2.2.2.2.2.1, o.2.2.2.2.2.2.2.2.2.2.2.2.2.2.2.2.2.2.2.2.2.2.2.2.2.2.2.2.2.1, o.2.2.2.2.2.2.2.2.2.2.2.2.2.2.2.2.2.2.2.2.2.2.2.2.2.2.2.2.2.2.1, o.2.2.2.2.2.2.2.2.2.2.2.2.2.2.2.2.2.2.2.2.2.2.2.2.2.2.2.2.2.2.2.1, o.2.2.2.2.2.2.2.2.2.2.2.2.2.2.2.2.2.2.2.2.2.2.2.2.2.2.2.2.2.2.2.2.1, o.2.2.2.2.2.2.2.2.2.2.2.2.2.2.2.2.2.2.2.2.2.2.2.2.2.2.2.2.2.2.2.2.2.1, o.2.2.2.2.2.2.2.2.2.2.2.2.2.2.2.2.2.2.2.2.2.2.2.2.2.2.2.2.2.2.2.2.2.2.1, o.2.2.2.2.2.2.2.2.2.2.2.2.2.2.2.2.2.2.2.2.2.2.2.2.2.2.2.2.2.2.2.2.2.2.2)
def s_bS (o : Ob) (v : List Int32) : Ob := (o.1, o.2.1, v, o.2.2.2.1, o.2.2.2.2.1, o.2.2.2.2.2.1, o.2.2.2.2.2.2.1, o.2.2.2.2.2.2.2.1, o.2.2.2.2.2.2.2.2.1, o.2.2.2.2.2.2.2.2.2.1, o.2.2.2.2.2.2.2.2.2.2.1, o.2.2.2.2.2.2.2.2.2.2.2.1, o.2.2.2.2.2.2.2.2.2.2.2.2.1, o.2.2.2.2.2.2.2.2.2.2.2.2.2.1, o.2.2.2.2.2.2.2.2.2.2.2.2.2.2.1, o.2.2.2.2.2.2.2.2.2.2.2.2.2.2.2.1, o.2.2.2.2.2.2.2.2.2.2.2.2.2.2.2.2.1, o.2.2.2.2.2.2.2.2.2.2.2.2.2.2.2.2.2.1, o.2.2.2.2.2.2.2.2.2.2.2.2.2.2.2.2.2.2.1, o.2.2.2.2.2.2.2.2.2.2.2.2.2.2.2.2.2.2.2.1, o.2.2.2.2.2.2.2.2.2.2.2.2.2.2.2.2.2.2.2.2.1, o.2.2.2.2.2.2.2.2.2.2.2.2.2.2.2.2.2.2.2.2.2.1, o.2.2.2.2.2.2.2.2.2.2.2.2.2.2.2.2.2.2.2.2.2.2.1, o.2.2.2.2.2.2.2.2.2.2.2.2.2.2.2.2.2.2.2.2.2.2.2.1, o.2.2.2.2.2.2.2.2.2.2.2.2.2.2.2.2.2.2.2.2.2.2.2.2.1, o.2.2.2.2.2.2.2.2.2.2.2.2.2.2.2.2.2.2.2.2.2.2.2.2.2.1, o.2.2.2.2.2.2.2.2.2.2.2.2.2.2.2.2.2.2.2.2.2.2.2.2.2.2.1, o.2.2.2.2.2.2.2.2.2.2.2.2.2.2.2.2.2.2.2.2.2.2.2.2.2.2.2.1, o.2.2.2.2.2.2.2.2.2.2.2.2.2.2.2.2.2.2.2.2.2.2.2.2.2.2.2.2.1, o.2.2.2.2.2.2.2.2.2.2.2.2.2.2.2.2.2.2.2.2.2.2.2.2.2.2.2.2.2.1, o.2.2.2.2.2.2.2.2.2.2.2.2.2.2.2.2.2.2.2.2.2.2.2.2.2.2.2.2.2.2.1, o.2.2.2.2.2.2.2.2.2.2.2.2.2.2.2.2.2.2.2.2.2.2.2.2.2.2.2.2.2.2.2.1, o.2.2.2.2.2.2.2.2.2.2.2.2.2.2.2.2.2.2.2.2.2.2.2.2.2.2.2.2.2.2.2.2.1, o.2.2.2.2.2.2.2.2.2.2.2.2.2.2.2.2.2.2.2.2.2.2.2.2.2.2.2.2.2.2.2.2.2.1, o.2.2.2.2.2.2.2.2.2.2.2.2.2.2.2.2.2.2.2.2.2.2.2.2.2.2.2.2.2.2.2.2.2.2.1, o.2.2.2.2.2.2.2.2.2.2.2.2.2.2.2.2.2.2.2.2.2.2.2.2.2.2.2.2.2.2.2.2.2.2.2)
def s_bImm (o : Ob) (v : List Int32) : Ob := (o.1, o.2.1, o.2.2.1, v, o.2.2.2.2.1, o.2.2.2.2.2.1, o.2.2.2.2.2.2.1, o.2.2.2.2.2.2.2.1, o.2.2.2.2.2.2.2.2.1, o.2.2.2.2.2.2.2.2.2.1, o.2.2.2.2.2.2.2.2.2.2.1, o.2.2.2.2.2.2.2.2.2.2.2.1, o.2.2.2.2.2.2.2.2.2.2.2.2.1, o.2.2.2.2.2.2.2.2.2.2.2.2.2.1, o.2.2.2.2.2.2.2.2.2.2.2.2.2.2.1, o.2.2.2.2.2.2.2.2.2.2.2.2.2.2.2.1, o.2.2.2.2.2.2.2.2.2.2.2.2.2.2.2.2.1, o.2.2.2.2.2.2.2.2.2.2.2.2.2.2.2.2.2.1, o.2.2.2.2.2.2.2.2.2.2.2.2.2.2.2.2.2.2.1, o.2.2.2.2.2.2.2.2.2.2.2.2.2.2.2.2.2.2.2.1, o.2.2.2.2.2.2.2.2.2.2.2.2.2.2.2.2.2.2.2.2.1, o.2.2.2.2.2.2.2.2.2.2.2.2.2.2.2.2.2.2.2.2.2.1, o.2.2.2.2.2.2.2.2.2.2.2.2.2.2.2.2.2.2.2.2.2.2.1, o.2.2.2.2.2.2.2.2.2.2.2.2.2.2.2.2.2.2.2.2.2.2.2.1, o.2.2.2.2.2.2.2.2.2.2.2.2.2.2.2.2.2.2.2.2.2.2.2.2.1, o.2.2.2.2.2.2.2.2.2.2.2.2.2.2.2.2.2.2.2.2.2.2.2.2.2.1, o.2.2.2.2.2.2.2.2.2.2.2.2.2.2.2.2.2.2.2.2.2.2.2.2.2.2.1, o.2.2.2.2.2.2.2.2.2.2.2.2.2.2.2.2.2.2.2.2.2.2.2.2.2.2.2.1, o.2.2.2.2.2.2.2.2.2.2.2.2.2.2.2.2.2.2.2.2.2.2.2.2.2.2.2.2.1, o.2.2.2.2.2.2.2.2.2.2.2.2.2.2.2.2.2.2.2.2.2.2.2.2.2.2.2.2.2.1, o.2.2.2.2.2.2.2.2.2.2.2.2.2.2.2.2.2.2.2.2.2.2.2.2.2.2.2.2.2.2.1, o.2.2.2.2.2.2.2.2.2.2.2.2.2.2.2.2.2.2.2.2.2.2.2.2.2.2.2.2.2.2.2.1, o.2.2.2.2.2.2.2.2.2.2.2.2.2.2.2.2.2.2.2.2.2.2.2.2.2.2.2.2.2.2.2.2.1, o.2.2.2.2.2.2.2.2.2.2.2.2.2.2.2.2.2.2.2.2.2.2.2.2.2.2.2.2.2.2.2.2.2.1, o.2.2.2.2.2.2.2.2.2.2.2.2.2.2.2.2.2.2.2.2.2.2.2.2.2.2.2.2.2.2.2.2.2.2.1, o.2.2.2.2.2.2.2.2.2.2.2.2.2.2.2.2.2.2.2.2.2.2.2.2.2.2.2.2.2.2.2.2.2.2.2)
def s_bTerm (o : Ob) (v : List Int32) : Ob := (o.1, o.2.1, o.2.2.1, o.2.2.2.1, v, o.2.2.2.2.2.1, o.2.2.2.2.2.2.1, o.2.2.2.2.2.2.2.1, o.2.2.2.2.2.2.2.2.1, o.2.2.2.2.2.2.2.2.2.1, o.2.2.2.2.2.2.2.2.2.2.1, o.2.2.2.2.2.2.2.2.2.2.2.1, o.2.2.2.2.2.2.2.2.2.2.2.2.1, o.2.2.2.2.2.2.2.2.2.2.2.2.2.1, o.2.2.2.2.2.2.2.2.2.2.2.2.2.2.1, o.2.2.2.2.2.2.2.2.2.2.2.2.2.2.2.1, o.2.2.2.2.2.2.2.2.2.2.2.2.2.2.2.2.1, o.2.2.2.2.2.2.2.2.2.2.2.2.2.2.2.2.2.1, o.2.2.2.2.2.2.2.2.2.2.2.2.2.2.2.2.2.2.1, o.2.2.2.2.2.2.2.2.2.2.2.2.2.2.2.2.2.2.2.1, o.2.2.2.2.2.2.2.2.2.2.2.2.2.2.2.2.2.2.2.2.1, o.2.2.2.2.2.2.2.2.2.2.2.2.2.2.2.2.2.2.2.2.2.1, o.2.2.2.2.2.2.2.2.2.2.2.2.2.2.2.2.2.2.2.2.2.2.1, o.2.2.2.2.2.2.2.2.2.2.2.2.2.2.2.2.2.2.2.2.2.2.2.1, o.2.2.2.2.2.2.2.2.2.2.2.2.2.2.2.2.2.2.2.2.2.2.2.2.1, o.2.2.2.2.2.2.2.2.2.2.2.2.2.2.2.2.2.2.2.2.2.2.2.2.2.1, o.2.2.2.2.2.2.2.2.2.2.2.2.2.2.2.2.2.2.2.2.2.2.2.2.2.2.1, o.2.2.2.2.2.2.2.2.2.2.2.2.2.2.2.2.2.2.2.2.2.2.2.2.2.2.2.1, o.2.2.2.2.2.2.2.2.2.2.2.2.2.2.2.2.2.2.2.2.2.2.2.2.2.2.2.2.1, o.2.2.2.2.2.2.2.2.2.2.2.2.2.2.2.2.2.2.2.2.2.2.2.2.2.2.2.2.2.1, o.2.2.2.2.2.2.2.2.2.2.2.2.2.2.2.2.2.2.2.2.2.2.2.2.2.2.2.2.2.2.1, o.2.2.2.2.2.2.2.2.2.2.2.2.2.2.2.2.2.2.2.2.2.2.2.2.2.2.2.2.2.2.2.1, o.2.2.2.2.2.2.2.2.2.2.2.2.2.2.2.2.2.2.2.2.2.2.2.2.2.2.2.2.2.2.2.2.1, o.2.2.2.2.2.2.2.2.2.2.2.2.2.2.2.2.2.2.2.2.2.2.2.2.2.2.2.2.2.2.2.2.2.1, o.2.2.2.2.2.2.2.2.2.2.2.2.2.2.2.2.2.2.2.2.2.2.2.2.2.2.2.2.2.2.2.2.2.2.1, o.2.2.2.2.2.2.2.2.2.2.2.2.2.2.2.2.2.2.2.2.2.2.2.2.2.2.2.2.2.2.2.2.2.2.2)
def s_bTest (o : Ob) (v : List Int32) : Ob := (o.1, o.2.1, o.2.2.1, o.2.2.2.1, o.2.2.2.2.1, v, o.2.2.2.2.2.2.1, o.2.2.2.2.2.2.2.1, o.2.2.2.2.2.2.2.2.1, o.2.2.2.2.2.2.2.2.2.1, o.2.2.2.2.2.2.2.2.2.2.1, o.2.2.2.2.2.2.2.2.2.2.2.1, o.2.2.2.2.2.2.2.2.2.2.2.2.1, o.2.2.2.2.2.2.2.2.2.2.2.2.2.1, o.2.2.2.2.2.2.2.2.2.2.2.2.2.2.1, o.2.2.2.2.2.2.2.2.2.2.2.2.2.2.2.1, o.2.2.2.2.2.2.2.2.2.2.2.2.2.2.2.2.1, o.2.2.2.2.2.2.2.2.2.2.2.2.2.2.2.2.2.1, o.2.2.2.2.2.2.2.2.2.2.2.2.2.2.2.2.2.2.1, o.2.2.2.2.2.2.2.2.2.2.2.2.2.2.2.2.2.2.2.1, o.2.2.2.2.2.2.2.2.2.2.2.2.2.2.2.2.2.2.2.2.1, o.2.2.2.2.2.2.2.2.2.2.2.2.2.2.2.2.2.2.2.2.2.1, o.2.2.2.2.2.2.2.2.2.2.2.2.2.2.2.2.2.2.2.2.2.2.1, o.2.2.2.2.2.2.2.2.2.2.2.2.2.2.2.2.2.2.2.2.2.2.2.1, o.2.2.2.2.2.2.2.2.2.2.2.2.2.2.2.2.2.2.2.2.2.2.2.2.1, o.2.2.2.2.2.2.2.2.2.2.2.2.2.2.2.2.2.2.2.2.2.2.2.2.2.1, o.2.2.2.2.2.2.2.2.2.2.2.2.2.2.2.2.2.2.2.2.2.2.2.2.2.2.1, o.2.2.2.2.2.2.2.2.2.2.2.2.2.2.2.2.2.2.2.2.2.2.2.2.2.2.2.1, o.2.2.2.2.2.2.2.2.2.2.2.2.2.2.2.2.2.2.2.2.2.2.2.2.2.2.2.2.1, o.2.2.2.2.2.2.2.2.2.2.2.2.2.2.2.2.2.2.2.2.2.2.2.2.2.2.2.2.2.1, o.2.2.2.2.2.2.2.2.2.2.2.2.2.2.2.2.2.2.2.2.2.2.2.2.2.2.2.2.2.2.1, o.2.2.2.2.2.2.2.2.2.2.2.2.2.2.2.2.2.2.2.2.2.2.2.2.2.2.2.2.2.2.2.1, o.2.2.2.2.2.2.2.2.2.2.2.2.2.2.2.2.2.2.2.2.2.2.2.2.2.2.2.2.2.2.2.2.1, o.2.2.2.2.2.2.2.2.2.2.2.2.2.2.2.2.2.2.2.2.2.2.2.2.2.2.2.2.2.2.2.2.2.1, o.2.2.2.2.2.2.2.2.2.2.2.2.2.2.2.2.2.2.2.2.2.2.2.2.2.2.2.2.2.2.2.2.2.2.1, o.2.2.2.2.2.2.2.2.2.2.2.2.2.2.2.2.2.2.2.2.2.2.2.2.2.2.2.2.2.2.2.2.2.2.2)
def s_bT0 (o : Ob) (v : List Int32) : Ob := (o.1, o.2.1, o.2.2.1, o.2.2.2.1, o.2.2.2.2.1, o.2.2.2.2.2.1, v, o.2.2.2.2.2.2.2.1, o.2.2.2.2.2.2.2.2.1, o.2.2.2.2.2.2.2.2.2.1, o.2.2.2.2.2.2.2.2.2.2.1, o.2.2.2.2.2.2.2.2.2.2.2.1, o.2.2.2.2.2.2.2.2.2.2.2.2.1, o.2.2.2.2.2.2.2.2.2.2.2.2.2.1, o.2.2.2.2.2.2.2.2.2.2.2.2.2.2.1, o.2.2.2.2.2.2.2.2.2.2.2.2.2.2.2.1, o.2.2.2.2.2.2.2.2.2.2.2.2.2.2.2.2.1, o.2.2.2.2.2.2.2.2.2.2.2.2.2.2.2.2.2.1, o.2.2.2.2.2.2.2.2.2.2.2.2.2.2.2.2.2.2.1, o.2.2.2.2.2.2.2.2.2.2.2.2.2.2.2.2.2.2.2.1, o.2.2.2.2.2.2.2.2.2.2.2.2.2.2.2.2.2.2.2.2.1, o.2.2.2.2.2.2.2.2.2.2.2.2.2.2.2.2.2.2.2.2.2.1, o.2.2.2.2.2.2.2.2.2.2.2.2.2.2.2.2.2.2.2.2.2.2.1, o.2.2.2.2.2.2.2.2.2.2.2.2.2.2.2.2.2.2.2.2.2.2.2.1, o.2.2.2.2.2.2.2.2.2.2.2.2.2.2.2.2.2.2.2.2.2.2.2.2.1, o.2.2.2.2.2.2.2.2.2.2.2.2.2.2.2.2.2.2.2.2.2.2.2.2.2.1, o.2.2.2.2.2.2.2.2.2.2.2.2.2.2.2.2.2.2.2.2.2.2.2.2.2.2.1, o.2.2.2.2.2.2.2.2.2.2.2.2.2.2.2.2.2.2.2.2.2.2.2.2.2.2.2.1, o.2.2.2.2.2.2.2.2.2.2.2.2.2.2.2.2.2.2.2.2.2.2.2.2.2.2.2.2.1, o.2.2.2.2.2.2.2.2.2.2.2.2.2.2.2.2.2.2.2.2.2.2.2.2.2.2.2.2.2.1, o.2.2.2.2.2.2.2.2.2.2.2.2.2.2.2.2.2.2.2.2.2.2.2.2.2.2.2.2.2.2.1, o.2.2.2.2.2.2.2.2.2.2.2.2.2.2.2.2.2.2.2.2.2.2.2.2.2.2.2.2.2.2.2.1, o.2.2.2.2.2.2.2.2.2.2.2.2.2.2.2.2.2.2.2.2.2.2.2.2.2.2.2.2.2.2.2.2.1, o.2.2.2.2.2.2.2.2.2.2.2.2.2.2.2.2.2.2.2.2.2.2.2.2.2.2.2.2.2.2.2.2.2.1, o.2.2.2.2.2.2.2.2.2.2.2.2.2.2.2.2.2.2.2.2.2.2.2.2.2.2.2.2.2.2.2.2.2.2.1, o.2.2.2.2.2.2.2.2.2.2.2.2.2.2.2.2.2.2.2.2.2.2.2.2.2.2.2.2.2.2.2.2.2.2.2)
def s_bT1 (o : Ob) (v : List Int32) : Ob := (o.1, o.2.1, o.2.2.1, o.2.2.2.1, o.2.2.2.2.1, o.2.2.2.2.2.1, o.2.2.2.2.2.2.1, v, o.2.2.2.2.2.2.2.2.1, o.2.2.2.2.2.2.2.2.2.1, o.2.2.2.2.2.2.2.2.2.2.1, o.2.2.2.2.2.2.2.2.2.2.2.1, o.2.2.2.2.2.2.2.2.2.2.2.2.1, o.2.2.2.2.2.2.2.2.2.2.2.2.2.1, o.2.2.2.2.2.2.2.2.2.2.2.2.2.2.1, o.2.2.2.2.2.2.2.2.2.2.2.2.2.2.2.1, o.2.2.2.2.2.2.2.2.2.2.2.2.2.2.2.2.1, o.2.2.2.2.2.2.2.2.2.2.2.2.2.2.2.2.2.1, o.2.2.2.2.2.2.2.2.2.2.2.2.2.2.2.2.2.2.1, o.2.2.2.2.2.2.2.2.2.2.2.2.2.2.2.2.2.2.2.1, o.2.2.2.2.2.2.2.2.2.2.2.2.2.2.2.2.2.2.2.2.1, o.2.2.2.2.2.2.2.2.2.2.2.2.2.2.2.2.2.2.2.2.2.1, o.2.2.2.2.2.2.2.2.2.2.2.2.2.2.2.2.2.2.2.2.2.2.1, o.2.2.2.2.2.2.2.2.2.2.2.2.2.2.2.2.2.2.2.2.2.2.2.1, o.2.2.2.2.2.2.2.2.2.2.2.2.2.2.2.2.2.2.2.2.2.2.2.2.1, o.2.2.2.2.2.2.2.2.2.2.2.2.2.2.2.2.2.2.2.2.2.2.2.2.2.1, o.2.2.2.2.2.2.2.2.2.2.2.2.2.2.2.2.2.2.2.2.2.2.2.2.2.2.1, o.2.2.2.2.2.2.2.2.2.2.2.2.2.2.2.2.2.2.2.2.2.2.2.2.2.2.2.1, o.2.2.2.2.2.2.2.2.2.2.2.2.2.2.2.2.2.2.2.2.2.2.2.2.2.2.2.2.1, o.2.2.2.2.2.2.2.2.2.2.2.2.2.2.2.2.2.2.2.2.2.2.2.2.2.2.2.2.2.1, o.2.2.2.2.2.2.2.2.2.2.2.2.2.2.2.2.2.2.2.2.2.2.2.2.2.2.2.2.2.2.1, o.2.2.2.2.2.2.2.2.2.2.2.2.2.2.2.2.2.2.2.2.2.2.2.2.2.2.2.2.2.2.2.1, o.2.2.2.2.2.2.2.2.2.2.2.2.2.2.2.2.2.2.2.2.2.2.2.2.2.2.2.2.2.2.2.2.1, o.2.2.2.2.2.2.2.2.2.2.2.2.2.2.2.2.2.2.2.2.2.2.2.2.2.2.2.2.2.2.2.2.2.1, o.2.2.2.2.2.2.2.2.2.2.2.2.2.2.2.2.2.2.2.2.2.2.2.2.2.2.2.2.2.2.2.2.2.2.1, o.2.2.2.2.2.2.2.2.2.2.2.2.2.2.2.2.2.2.2.2.2.2.2.2.2.2.2.2.2.2.2.2.2.2.2)
def s_cnt0 (o : Ob) (v : List Int32) : Ob := (o.1, o.2.1, o.2.2.1, o.2.2.2.1, o.2.2.2.2.1, o.2.2.2.2.2.1, o.2.2.2.2.2.2.1, o.2.2.2.2.2.2.2.1, v, o.2.2.2.2.2.2.2.2.2.1, o.2.2.2.2.2.2.2.2.2.2.1, o.2.2.2.2.2.2.2.2.2.2.2.1, o.2.2.2.2.2.2.2.2.2.2.2.2.1, o.2.2.2.2.2.2.2.2.2.2.2.2.2.1, o.2.2.2.2.2.2.2.2.2.2.2.2.2.2.1, o.2.2.2.2.2.2.2.2.2.2.2.2.2.2.2.1, o.2.2.2.2.2.2.2.2.2.2.2.2.2.2.2.2.1, o.2.2.2.2.2.2.2.2.2.2.2.2.2.2.2.2.2.1, o.2.2.2.2.2.2.2.2.2.2.2.2.2.2.2.2.2.2.1, o.2.2.2.2.2.2.2.2.2.2.2.2.2.2.2.2.2.2.2.1, o.2.2.2.2.2.2.2.2.2.2.2.2.2.2.2.2.2.2.2.2.1, o.2.2.2.2.2.2.2.2.2.2.2.2.2.2.2.2.2.2.2.2.2.1, o.2.2.2.2.2.2.2.2.2.2.2.2.2.2.2.2.2.2.2.2.2.2.1, o.2.2.2.2.2.2.2.2.2.2.2.2.2.2.2.2.2.2.2.2.2.2.2.1, o.2.2.2.2.2.2.2.2.2.2.2.2.2.2.2.2.2.2.2.2.2.2.2.2.1, o.2.2.2.2.2.2.2.2.2.2.2.2.2.2.2.2.2.2.2.2.2.2.2.2.2.1, o.2.2.2.2.2.2.2.2.2.2.2.2.2.2.2.2.2.2.2.2.2.2.2.2.2.2.1, o.2.2.2.2.2.2.2.2.2.2.2.2.2.2.2.2.2.2.2.2.2.2.2.2.2.2.2.1, o.2.2.2.2.2.2.2.2.2.2.2.2.2.2.2.2.2.2.2.2.2.2.2.2.2.2.2.2.1, o.2.2.2.2.2.2.2.2.2.2.2.2.2.2.2.2.2.2.2.2.2.2.2.2.2.2.2.2.2.1, o.2.2.2.2.2.2.2.2.2.2.2.2.2.2.2.2.2.2.2.2.2.2.2.2.2.2.2.2.2.2.1, o.2.2.2.2.2.2.2.2.2.2.2.2.2.2.2.2.2.2.2.2.2.2.2.2.2.2.2.2.2.2.2.1, o.2.2.2.2.2.2.2.2.2.2.2.2.2.2.2.2.2.2.2.2.2.2.2.2.2.2.2.2.2.2.2.2.1, o.2.2.2.2.2.2.2.2.2.2.2.2.2.2.2.2.2.2.2.2.2.2.2.2.2.2.2.2.2.2.2.2.2.1, o.2.2.2.2.2.2.2.2.2.2.2.2.2.2.2.2.2.2.2.2.2.2.2.2.2.2.2.2.2.2.2.2.2.2.1, o.2.2.2.2.2.2.2.2.2.2.2.2.2.2.2.2.2.2.2.2.2.2.2.2.2.2.2.2.2.2.2.2.2.2.2)
def s_cnt1 (o : Ob) (v : List Int32) : Ob := (o.1, o.2.1, o.2.2.1, o.2.2.2.1, o.2.2.2.2.1, o.2.2.2.2.2.1, o.2.2.2.2.2.2.1, o.2.2.2.2.2.2.2.1, o.2.2.2.2.2.2.2.2.1, v, o.2.2.2.2.2.2.2.2.2.2.1, o.2.2.2.2.2.2.2.2.2.2.2.1, o.2.2.2.2.2.2.2.2.2.2.2.2.1, o.2.2.2.2.2.2.2.2.2.2.2.2.2.1, o.2.2.2.2.2.2.2.2.2.2.2.2.2.2.1, o.2.2.2.2.2.2.2.2.2.2.2.2.2.2.2.1, o.2.2.2.2.2.2.2.2.2.2.2.2.2.2.2.2.1, o.2.2.2.2.2.2.2.2.2.2.2.2.2.2.2.2.2.1, o.2.2.2.2.2.2.2.2.2.2.2.2.2.2.2.2.2.2.1, o.2.2.2.2.2.2.2.2.2.2.2.2.2.2.2.2.2.2.2.1, o.2.2.2.2.2.2.2.2.2.2.2.2.2.2.2.2.2.2.2.2.1, o.2.2.2.2.2.2.2.2.2.2.2.2.2.2.2.2.2.2.2.2.2.1, o.2.2.2.2.2.2.2.2.2.2.2.2.2.2.2.2.2.2.2.2.2.2.1, o.2.2.2.2.2.2.2.2.2.2.2.2.2.2.2.2.2.2.2.2.2.2.2.1, o.2.2.2.2.2.2.2.2.2.2.2.2.2.2.2.2.2.2.2.2.2.2.2.2.1, o.2.2.2.2.2.2.2.2.2.2.2.2.2.2.2.2.2.2.2.2.2.2.2.2.2.1, o.2.2.2.2.2.2.2.2.2.2.2.2.2.2.2.2.2.2.2.2.2.2.2.2.2.2.1, o.2.2.2.2.2.2.2.2.2.2.2.2.2.2.2.2.2.2.2.2.2.2.2.2.2.2.2.1, o.2.2.2.2.2.2.2.2.2.2.2.2.2.2.2.2.2.2.2.2.2.2.2.2.2.2.2.2.1, o.2.2.2.2.2.2.2.2.2.2.2.2.2.2.2.2.2.2.2.2.2.2.2.2.2.2.2.2.2.1, o.2.2.2.2.2.2.2.2.2.2.2.2.2.2.2.2.2.2.2.2.2.2.2.2.2.2.2.2.2.2.1, o.2.2.2.2.2.2.2.2.2.2.2.2.2.2.2.2.2.2.2.2.2.2.2.2.2.2.2.2.2.2.2.1, o.2.2.2.2.2.2.2.2.2.2.2.2.2.2.2.2.2.2.2.2.2.2.2.2.2.2.2.2.2.2.2.2.1, o.2.2.2.2.2.2.2.2.2.2.2.2.2.2.2.2.2.2.2.2.2.2.2.2.2.2.2.2.2.2.2.2.2.1, o.2.2.2.2.2.2.2.2.2.2.2.2.2.2.2.2.2.2.2.2.2.2.2.2.2.2.2.2.2.2.2.2.2.2.1, o.2.2.2.2.2.2.2.2.2.2.2.2.2.2.2.2.2.2.2.2.2.2.2.2.2.2.2.2.2.2.2.2.2.2.2)
def s_regs (o : Ob) (v : List Int32) : Ob := (o.1, o.2.1, o.2.2.1, o.2.2.2.1, o.2.2.2.2.1, o.2.2.2.2.2.1, o.2.2.2.2.2.2.1, o.2.2.2.2.2.2.2.1, o.2.2.2.2.2.2.2.2.1, o.2.2.2.2.2.2.2.2.2.1, v, o.2.2.2.2.2.2.2.2.2.2.2.1, o.2.2.2.2.2.2.2.2.2.2.2.2.1, o.2.2.2.2.2.2.2.2.2.2.2.2.2.1, o.2.2.2.2.2.2.2.2.2.2.2.2.2.2.1, o.2.2.2.2.2.2.2.2.2.2.2.2.2.2.2.1, o.2.2.2.2.2.2.2.2.2.2.2.2.2.2.2.2.1, o.2.2.2.2.2.2.2.2.2.2.2.2.2.2.2.2.2.1, o.2.2.2.2.2.2.2.2.2.2.2.2.2.2.2.2.2.2.1, o.2.2.2.2.2.2.2.2.2.2.2.2.2.2.2.2.2.2.2.1, o.2.2.2.2.2.2.2.2.2.2.2.2.2.2.2.2.2.2.2.2.1, o.2.2.2.2.2.2.2.2.2.2.2.2.2.2.2.2.2.2.2.2.2.1, o.2.2.2.2.2.2.2.2.2.2.2.2.2.2.2.2.2.2.2.2.2.2.1, o.2.2.2.2.2.2.2.2.2.2.2.2.2.2.2.2.2.2.2.2.2.2.2.1, o.2.2.2.2.2.2.2.2.2.2.2.2.2.2.2.2.2.2.2.2.2.2.2.2.1, o.2.2.2.2.2.2.2.2.2.2.2.2.2.2.2.2.2.2.2.2.2.2.2.2.2.1, o.2.2.2.2.2.2.2.2.2.2.2.2.2.2.2.2.2.2.2.2.2.2.2.2.2.2.1, o.2.2.2.2.2.2.2.2.2.2.2.2.2.2.2.2.2.2.2.2.2.2.2.2.2.2.2.1, o.2.2.2.2.2.2.2.2.2.2.2.2.2.2.2.2.2.2.2.2.2.2.2.2.2.2.2.2.1, o.2.2.2.2.2.2.2.2.2.2.2.2.2.2.2.2.2.2.2.2.2.2.2.2.2.2.2.2.2.1, o.2.2.2.2.2.2.2.2.2.2.2.2.2.2.2.2.2.2.2.2.2.2.2.2.2.2.2.2.2.2.1, o.2.2.2.2.2.2.2.2.2.2.2.2.2.2.2.2.2.2.2.2.2.2.2.2.2.2.2.2.2.2.2.1, o.2.2.2.2.2.2.2.2.2.2.2.2.2.2.2.2.2.2.2.2.2.2.2.2.2.2.2.2.2.2.2.2.1, o.2.2.2.2.2.2.2.2.2.2.2.2.2.2.2.2.2.2.2.2.2.2.2.2.2.2.2.2.2.2.2.2.2.1, o.2.2.2.2.2.2.2.2.2.2.2.2.2.2.2.2.2.2.2.2.2.2.2.2.2.2.2.2.2.2.2.2.2.2.1, o.2.2.2.2.2.2.2.2.2.2.2.2.2.2.2.2.2.2.2.2.2.2.2.2.2.2.2.2.2.2.2.2.2.2.2)
def s_outs (o : Ob) (v : List Int32) : Ob := (o.1, o.2.1, o.2.2.1, o.2.2.2.1, o.2.2.2.2.1, o.2.2.2.2.2.1, o.2.2.2.2.2.2.1, o.2.2.2.2.2.2.2.1, o.2.2.2.2.2.2.2.2.1, o.2.2.2.2.2.2.2.2.2.1, o.2.2.2.2.2.2.2.2.2.2.1, v, o.2.2.2.2.2.2.2.2.2.2.2.2.1, o.2.2.2.2.2.2.2.2.2.2.2.2.2.1, o.2.2.2.2.2.2.2.2.2.2.2.2.2.2.1, o.2.2.2.2.2.2.2.2.2.2.2.2.2.2.2.1, o.2.2.2.2.2.2.2.2.2.2.2.2.2.2.2.2.1, o.2.2.2.2.2.2.2.2.2.2.2.2.2.2.2.2.2.1, o.2.2.2.2.2.2.2.2.2.2.2.2.2.2.2.2.2.2.1, o.2.2.2.2.2.2.2.2.2.2.2.2.2.2.2.2.2.2.2.1, o.2.2.2.2.2.2.2.2.2.2.2.2.2.2.2.2.2.2.2.2.1, o.2.2.2.2.2.2.2.2.2.2.2.2.2.2.2.2.2.2.2.2.2.1, o.2.2.2.2.2.2.2.2.2.2.2.2.2.2.2.2.2.2.2.2.2.2.1, o.2.2.2.2.2.2.2.2.2.2.2.2.2.2.2.2.2.2.2.2.2.2.2.1, o.2.2.2.2.2.2.2.2.2.2.2.2.2.2.2.2.2.2.2.2.2.2.2.2.1, o.2.2.2.2.2.2.2.2.2.2.2.2.2.2.2.2.2.2.2.2.2.2.2.2.2.1, o.2.2.2.2.2.2.2.2.2.2.2.2.2.2.2.2.2.2.2.2.2.2.2.2.2.2.1, o.2.2.2.2.2.2.2.2.2.2.2.2.2.2.2.2.2.2.2.2.2.2.2.2.2.2.2.1, o.2.2.2.2.2.2.2.2.2.2.2.2.2.2.2.2.2.2.2.2.2.2.2.2.2.2.2.2.1, o.2.2.2.2.2.2.2.2.2.2.2.2.2.2.2.2.2.2.2.2.2.2.2.2.2.2.2.2.2.1, o.2.2.2.2.2.2.2.2.2.2.2.2.2.2.2.2.2.2.2.2.2.2.2.2.2.2.2.2.2.2.1, o.2.2.2.2.2.2.2.2.2.2.2.2.2.2.2.2.2.2.2.2.2.2.2.2.2.2.2.2.2.2.2.1, o.2.2.2.2.2.2.2.2.2.2.2.2.2.2.2.2.2.2.2.2.2.2.2.2.2.2.2.2.2.2.2.2.1, o.2.2.2.2.2.2.2.2.2.2.2.2.2.2.2.2.2.2.2.2.2.2.2.2.2.2.2.2.2.2.2.2.2.1, o.2.2.2.2.2.2.2.2.2.2.2.2.2.2.2.2.2.2.2.2.2.2.2.2.2.2.2.2.2.2.2.2.2.2.1, o.2.2.2.2.2.2.2.2.2.2.2.2.2.2.2.2.2.2.2.2.2.2.2.2.2.2.2.2.2.2.2.2.2.2.2)
def s_edgeId (o : Ob) (v : List Int32) : Ob := (o.1, o.2.1, o.2.2.1, o.2.2.2.1, o.2.2.2.2.1, o.2.2.2.2.2.1, o.2.2.2.2.2.2.1, o.2.2.2.2.2.2.2.1, o.2.2.2.2.2.2.2.2.1, o.2.2.2.2.2.2.2.2.2.1, o.2.2.2.2.2.2.2.2.2.2.1, o.2.2.2.2.2.2.2.2.2.2.2.1, v, o.2.2.2.2.2.2.2.2.2.2.2.2.2.1, o.2.2.2.2.2.2.2.2.2.2.2.2.2.2.1, o.2.2.2.2.2.2.2.2.2.2.2.2.2.2.2.1, o.2.2.2.2.2.2.2.2.2.2.2.2.2.2.2.2.1, o.2.2.2.2.2.2.2.2.2.2.2.2.2.2.2.2.2.1, o.2.2.2.2.2.2.2.2.2.2.2.2.2.2.2.2.2.2.1, o.2.2.2.2.2.2.2.2.2.2.2.2.2.2.2.2.2.2.2.1, o.2.2.2.2.2.2.2.2.2.2.2.2.2.2.2.2.2.2.2.2.1, o.2.2.2.2.2.2.2.2.2.2.2.2.2.2.2.2.2.2.2.2.2.1, o.2.2.2.2.2.2.2.2.2.2.2.2.2.2.2.2.2.2.2.2.2.2.1, o.2.2.2.2.2.2.2.2.2.2.2.2.2.2.2.2.2.2.2.2.2.2.2.1, o.2.2.2.2.2.2.2.2.2.2.2.2.2.2.2.2.2.2.2.2.2.2.2.2.1, o.2.2.2.2.2.2.2.2.2.2.2.2.2.2.2.2.2.2.2.2.2.2.2.2.2.1, o.2.2.2.2.2.2.2.2.2.2.2.2.2.2.2.2.2.2.2.2.2.2.2.2.2.2.1, o.2.2.2.2.2.2.2.2.2.2.2.2.2.2.2.2.2.2.2.2.2.2.2.2.2.2.2.1, o.2.2.2.2.2.2.2.2.2.2.2.2.2.2.2.2.2.2.2.2.2.2.2.2.2.2.2.2.1, o.2.2.2.2.2.2.2.2.2.2.2.2.2.2.2.2.2.2.2.2.2.2.2.2.2.2.2.2.2.1, o.2.2.2.2.2.2.2.2.2.2.2.2.2.2.2.2.2.2.2.2.2.2.2.2.2.2.2.2.2.2.1, o.2.2.2.2.2.2.2.2.2.2.2.2.2.2.2.2.2.2.2.2.2.2.2.2.2.2.2.2.2.2.2.1, o.2.2.2.2.2.2.2.2.2.2.2.2.2.2.2.2.2.2.2.2.2.2.2.2.2.2.2.2.2.2.2.2.1, o.2.2.2.2.2.2.2.2.2.2.2.2.2.2.2.2.2.2.2.2.2.2.2.2.2.2.2.2.2.2.2.2.2.1, o.2.2.2.2.2.2.2.2.2.2.2.2.2.2.2.2.2.2.2.2.2.2.2.2.2.2.2.2.2.2.2.2.2.2.1, o.2.2.2.2.2.2.2.2.2.2.2.2.2.2.2.2.2.2.2.2.2.2.2.2.2.2.2.2.2.2.2.2.2.2.2)
def s_edgeW (o : Ob) (v : List Int32) : Ob := (o.1, o.2.1, o.2.2.1, o.2.2.2.1, o.2.2.2.2.1, o.2.2.2.2.2.1, o.2.2.2.2.2.2.1, o.2.2.2.2.2.2.2.1, o.2.2.2.2.2.2.2.2.1, o.2.2.2.2.2.2.2.2.2.1, o.2.2.2.2.2.2.2.2.2.2.1, o.2.2.2.2.2.2.2.2.2.2.2.1, o.2.2.2.2.2.2.2.2.2.2.2.2.1, v, o.2.2.2.2.2.2.2.2.2.2.2.2.2.2.1, o.2.2.2.2.2.2.2.2.2.2.2.2.2.2.2.1, o.2.2.2.2.2.2.2.2.2.2.2.2.2.2.2.2.1, o.2.2.2.2.2.2.2.2.2.2.2.2.2.2.2.2.2.1, o.2.2.2.2.2.2.2.2.2.2.2.2.2.2.2.2.2.2.1, o.2.2.2.2.2.2.2.2.2.2.2.2.2.2.2.2.2.2.2.1, o.2.2.2.2.2.2.2.2.2.2.2.2.2.2.2.2.2.2.2.2.1, o.2.2.2.2.2.2.2.2.2.2.2.2.2.2.2.2.2.2.2.2.2.1, o.2.2.2.2.2.2.2.2.2.2.2.2.2.2.2.2.2.2.2.2.2.2.1, o.2.2.2.2.2.2.2.2.2.2.2.2.2.2.2.2.2.2.2.2.2.2.2.1, o.2.2.2.2.2.2.2.2.2.2.2.2.2.2.2.2.2.2.2.2.2.2.2.2.1, o.2.2.2.2.2.2.2.2.2.2.2.2.2.2.2.2.2.2.2.2.2.2.2.2.2.1, o.2.2.2.2.2.2.2.2.2.2.2.2.2.2.2.2.2.2.2.2.2.2.2.2.2.2.1, o.2.2.2.2.2.2.2.2.2.2.2.2.2.2.2.2.2.2.2.2.2.2.2.2.2.2.2.1, o.2.2.2.2.2.2.2.2.2.2.2.2.2.2.2.2.2.2.2.2.2.2.2.2.2.2.2.2.1, o.2.2.2.2.2.2.2.2.2.2.2.2.2.2.2.2.2.2.2.2.2.2.2.2.2.2.2.2.2.1, o.2.2.2.2.2.2.2.2.2.2.2.2.2.2.2.2.2.2.2.2.2.2.2.2.2.2.2.2.2.2.1, o.2.2.2.2.2.2.2.2.2.2.2.2.2.2.2.2.2.2.2.2.2.2.2.2.2.2.2.2.2.2.2.1, o.2.2.2.2.2.2.2.2.2.2.2.2.2.2.2.2.2.2.2.2.2.2.2.2.2.2.2.2.2.2.2.2.1, o.2.2.2.2.2.2.2.2.2.2.2.2.2.2.2.2.2.2.2.2.2.2.2.2.2.2.2.2.2.2.2.2.2.1, o.2.2.2.2.2.2.2.2.2.2.2.2.2.2.2.2.2.2.2.2.2.2.2.2.2.2.2.2.2.2.2.2.2.2.1, o.2.2.2.2.2.2.2.2.2.2.2.2.2.2.2.2.2.2.2.2.2.2.2.2.2.2.2.2.2.2.2.2.2.2.2)
def s_chNext (o : Ob) (v : List Int32) : Ob := (o.1, o.2.1, o.2.2.1, o.2.2.2.1, o.2.2.2.2.1, o.2.2.2.2.2.1, o.2.2.2.2.2.2.1, o.2.2.2.2.2.2.2.1, o.2.2.2.2.2.2.2.2.1, o.2.2.2.2.2.2.2.2.2.1, o.2.2.2.2.2.2.2.2.2.2.1, o.2.2.2.2.2.2.2.2.2.2.2.1, o.2.2.2.2.2.2.2.2.2.2.2.2.1, o.2.2.2.2.2.2.2.2.2.2.2.2.2.1, v, o.2.2.2.2.2.2.2.2.2.2.2.2.2.2.2.1, o.2.2.2.2.2.2.2.2.2.2.2.2.2.2.2.2.1, o.2.2.2.2.2.2.2.2.2.2.2.2.2.2.2.2.2.1, o.2.2.2.2.2.2.2.2.2.2.2.2.2.2.2.2.2.2.1, o.2.2.2.2.2.2.2.2.2.2.2.2.2.2.2.2.2.2.2.1, o.2.2.2.2.2.2.2.2.2.2.2.2.2.2.2.2.2.2.2.2.1, o.2.2.2.2.2.2.2.2.2.2.2.2.2.2.2.2.2.2.2.2.2.1, o.2.2.2.2.2.2.2.2.2.2.2.2.2.2.2.2.2.2.2.2.2.2.1, o.2.2.2.2.2.2.2.2.2.2.2.2.2.2.2.2.2.2.2.2.2.2.2.1, o.2.2.2.2.2.2.2.2.2.2.2.2.2.2.2.2.2.2.2.2.2.2.2.2.1, o.2.2.2.2.2.2.2.2.2.2.2.2.2.2.2.2.2.2.2.2.2.2.2.2.2.1, o.2.2.2.2.2.2.2.2.2.2.2.2.2.2.2.2.2.2.2.2.2.2.2.2.2.2.1, o.2.2.2.2.2.2.2.2.2.2.2.2.2.2.2.2.2.2.2.2.2.2.2.2.2.2.2.1, o.2.2.2.2.2.2.2.2.2.2.2.2.2.2.2.2.2.2.2.2.2.2.2.2.2.2.2.2.1, o.2.2.2.2.2.2.2.2.2.2.2.2.2.2.2.2.2.2.2.2.2.2.2.2.2.2.2.2.2.1, o.2.2.2.2.2.2.2.2.2.2.2.2.2.2.2.2.2.2.2.2.2.2.2.2.2.2.2.2.2.2.1, o.2.2.2.2.2.2.2.2.2.2.2.2.2.2.2.2.2.2.2.2.2.2.2.2.2.2.2.2.2.2.2.1, o.2.2.2.2.2.2.2.2.2.2.2.2.2.2.2.2.2.2.2.2.2.2.2.2.2.2.2.2.2.2.2.2.1, o.2.2.2.2.2.2.2.2.2.2.2.2.2.2.2.2.2.2.2.2.2.2.2.2.2.2.2.2.2.2.2.2.2.1, o.2.2.2.2.2.2.2.2.2.2.2.2.2.2.2.2.2.2.2.2.2.2.2.2.2.2.2.2.2.2.2.2.2.2.1, o.2.2.2.2.2.2.2.2.2.2.2.2.2.2.2.2.2.2.2.2.2.2.2.2.2.2.2.2.2.2.2.2.2.2.2)
def s_chPrev (o : Ob) (v : List Int32) : Ob := (o.1, o.2.1, o.2.2.1, o.2.2.2.1, o.2.2.2.2.1, o.2.2.2.2.2.1, o.2.2.2.2.2.2.1, o.2.2.2.2.2.2.2.1, o.2.2.2.2.2.2.2.2.1, o.2.2.2.2.2.2.2.2.2.1, o.2.2.2.2.2.2.2.2.2.2.1, o.2.2.2.2.2.2.2.2.2.2.2.1, o.2.2.2.2.2.2.2.2.2.2.2.2.1, o.2.2.2.2.2.2.2.2.2.2.2.2.2.1, o.2.2.2.2.2.2.2.2.2.2.2.2.2.2.1, v, o.2.2.2.2.2.2.2.2.2.2.2.2.2.2.2.2.1, o.2.2.2.2.2.2.2.2.2.2.2.2.2.2.2.2.2.1, o.2.2.2.2.2.2.2.2.2.2.2.2.2.2.2.2.2.2.1, o.2.2.2.2.2.2.2.2.2.2.2.2.2.2.2.2.2.2.2.1, o.2.2.2.2.2.2.2.2.2.2.2.2.2.2.2.2.2.2.2.2.1, o.2.2.2.2.2.2.2.2.2.2.2.2.2.2.2.2.2.2.2.2.2.1, o.2.2.2.2.2.2.2.2.2.2.2.2.2.2.2.2.2.2.2.2.2.2.1, o.2.2.2.2.2.2.2.2.2.2.2.2.2.2.2.2.2.2.2.2.2.2.2.1, o.2.2.2.2.2.2.2.2.2.2.2.2.2.2.2.2.2.2.2.2.2.2.2.2.1, o.2.2.2.2.2.2.2.2.2.2.2.2.2.2.2.2.2.2.2.2.2.2.2.2.2.1, o.2.2.2.2.2.2.2.2.2.2.2.2.2.2.2.2.2.2.2.2.2.2.2.2.2.2.1, o.2.2.2.2.2.2.2.2.2.2.2.2.2.2.2.2.2.2.2.2.2.2.2.2.2.2.2.1, o.2.2.2.2.2.2.2.2.2.2.2.2.2.2.2.2.2.2.2.2.2.2.2.2.2.2.2.2.1, o.2.2.2.2.2.2.2.2.2.2.2.2.2.2.2.2.2.2.2.2.2.2.2.2.2.2.2.2.2.1, o.2.2.2.2.2.2.2.2.2.2.2.2.2.2.2.2.2.2.2.2.2.2.2.2.2.2.2.2.2.2.1, o.2.2.2.2.2.2.2.2.2.2.2.2.2.2.2.2.2.2.2.2.2.2.2.2.2.2.2.2.2.2.2.1, o.2.2.2.2.2.2.2.2.2.2.2.2.2.2.2.2.2.2.2.2.2.2.2.2.2.2.2.2.2.2.2.2.1, o.2.2.2.2.2.2.2.2.2.2.2.2.2.2.2.2.2.2.2.2.2.2.2.2.2.2.2.2.2.2.2.2.2.1, o.2.2.2.2.2.2.2.2.2.2.2.2.2.2.2.2.2.2.2.2.2.2.2.2.2.2.2.2.2.2.2.2.2.2.1, o.2.2.2.2.2.2.2.2.2.2.2.2.2.2.2.2.2.2.2.2.2.2.2.2.2.2.2.2.2.2.2.2.2.2.2)
def s_chHead (o : Ob) (v : List Int32) : Ob := (o.1, o.2.1, o.2.2.1, o.2.2.2.1, o.2.2.2.2.1, o.2.2.2.2.2.1, o.2.2.2.2.2.2.1, o.2.2.2.2.2.2.2.1, o.2.2.2.2.2.2.2.2.1, o.2.2.2.2.2.2.2.2.2.1, o.2.2.2.2.2.2.2.2.2.2.1, o.2.2.2.2.2.2.2.2.2.2.2.1, o.2.2.2.2.2.2.2.2.2.2.2.2.1, o.2.2.2.2.2.2.2.2.2.2.2.2.2.1, o.2.2.2.2.2.2.2.2.2.2.2.2.2.2.1, o.2.2.2.2.2.2.2.2.2.2.2.2.2.2.2.1, v, o.2.2.2.2.2.2.2.2.2.2.2.2.2.2.2.2.2.1, o.2.2.2.2.2.2.2.2.2.2.2.2.2.2.2.2.2.2.1, o.2.2.2.2.2.2.2.2.2.2.2.2.2.2.2.2.2.2.2.1, o.2.2.2.2.2.2.2.2.2.2.2.2.2.2.2.2.2.2.2.2.1, o.2.2.2.2.2.2.2.2.2.2.2.2.2.2.2.2.2.2.2.2.2.1, o.2.2.2.2.2.2.2.2.2.2.2.2.2.2.2.2.2.2.2.2.2.2.1, o.2.2.2.2.2.2.2.2.2.2.2.2.2.2.2.2.2.2.2.2.2.2.2.1, o.2.2.2.2.2.2.2.2.2.2.2.2.2.2.2.2.2.2.2.2.2.2.2.2.1, o.2.2.2.2.2.2.2.2.2.2.2.2.2.2.2.2.2.2.2.2.2.2.2.2.2.1, o.2.2.2.2.2.2.2.2.2.2.2.2.2.2.2.2.2.2.2.2.2.2.2.2.2.2.1, o.2.2.2.2.2.2.2.2.2.2.2.2.2.2.2.2.2.2.2.2.2.2.2.2.2.2.2.1, o.2.2.2.2.2.2.2.2.2.2.2.2.2.2.2.2.2.2.2.2.2.2.2.2.2.2.2.2.1, o.2.2.2.2.2.2.2.2.2.2.2.2.2.2.2.2.2.2.2.2.2.2.2.2.2.2.2.2.2.1, o.2.2.2.2.2.2.2.2.2.2.2.2.2.2.2.2.2.2.2.2.2.2.2.2.2.2.2.2.2.2.1, o.2.2.2.2.2.2.2.2.2.2.2.2.2.2.2.2.2.2.2.2.2.2.2.2.2.2.2.2.2.2.2.1, o.2.2.2.2.2.2.2.2.2.2.2.2.2.2.2.2.2.2.2.2.2.2.2.2.2.2.2.2.2.2.2.2.1, o.2.2.2.2.2.2.2.2.2.2.2.2.2.2.2.2.2.2.2.2.2.2.2.2.2.2.2.2.2.2.2.2.2.1, o.2.2.2.2.2.2.2.2.2.2.2.2.2.2.2.2.2.2.2.2.2.2.2.2.2.2.2.2.2.2.2.2.2.2.1, o.2.2.2.2.2.2.2.2.2.2.2.2.2.2.2.2.2.2.2.2.2.2.2.2.2.2.2.2.2.2.2.2.2.2.2)
def s_heat (o : Ob) (v : List Int32) : Ob := (o.1, o.2.1, o.2.2.1, o.2.2.2.1, o.2.2.2.2.1, o.2.2.2.2.2.1, o.2.2.2.2.2.2.1, o.2.2.2.2.2.2.2.1, o.2.2.2.2.2.2.2.2.1, o.2.2.2.2.2.2.2.2.2.1, o.2.2.2.2.2.2.2.2.2.2.1, o.2.2.2.2.2.2.2.2.2.2.2.1, o.2.2.2.2.2.2.2.2.2.2.2.2.1, o.2.2.2.2.2.2.2.2.2.2.2.2.2.1, o.2.2.2.2.2.2.2.2.2.2.2.2.2.2.1, o.2.2.2.2.2.2.2.2.2.2.2.2.2.2.2.1, o.2.2.2.2.2.2.2.2.2.2.2.2.2.2.2.2.1, v, o.2.2.2.2.2.2.2.2.2.2.2.2.2.2.2.2.2.2.1, o.2.2.2.2.2.2.2.2.2.2.2.2.2.2.2.2.2.2.2.1, o.2.2.2.2.2.2.2.2.2.2.2.2.2.2.2.2.2.2.2.2.1, o.2.2.2.2.2.2.2.2.2.2.2.2.2.2.2.2.2.2.2.2.2.1, o.2.2.2.2.2.2.2.2.2.2.2.2.2.2.2.2.2.2.2.2.2.2.1, o.2.2.2.2.2.2.2.2.2.2.2.2.2.2.2.2.2.2.2.2.2.2.2.1, o.2.2.2.2.2.2.2.2.2.2.2.2.2.2.2.2.2.2.2.2.2.2.2.2.1, o.2.2.2.2.2.2.2.2.2.2.2.2.2.2.2.2.2.2.2.2.2.2.2.2.2.1, o.2.2.2.2.2.2.2.2.2.2.2.2.2.2.2.2.2.2.2.2.2.2.2.2.2.2.1, o.2.2.2.2.2.2.2.2.2.2.2.2.2.2.2.2.2.2.2.2.2.2.2.2.2.2.2.1, o.2.2.2.2.2.2.2.2.2.2.2.2.2.2.2.2.2.2.2.2.2.2.2.2.2.2.2.2.1, o.2.2.2.2.2.2.2.2.2.2.2.2.2.2.2.2.2.2.2.2.2.2.2.2.2.2.2.2.2.1, o.2.2.2.2.2.2.2.2.2.2.2.2.2.2.2.2.2.2.2.2.2.2.2.2.2.2.2.2.2.2.1, o.2.2.2.2.2.2.2.2.2.2.2.2.2.2.2.2.2.2.2.2.2.2.2.2.2.2.2.2.2.2.2.1, o.2.2.2.2.2.2.2.2.2.2.2.2.2.2.2.2.2.2.2.2.2.2.2.2.2.2.2.2.2.2.2.2.1, o.2.2.2.2.2.2.2.2.2.2.2.2.2.2.2.2.2.2.2.2.2.2.2.2.2.2.2.2.2.2.2.2.2.1, o.2.2.2.2.2.2.2.2.2.2.2.2.2.2.2.2.2.2.2.2.2.2.2.2.2.2.2.2.2.2.2.2.2.2.1, o.2.2.2.2.2.2.2.2.2.2.2.2.2.2.2.2.2.2.2.2.2.2.2.2.2.2.2.2.2.2.2.2.2.2.2)
def s_posOf (o : Ob) (v : List Int32) : Ob := (o.1, o.2.1, o.2.2.1, o.2.2.2.1, o.2.2.2.2.1, o.2.2.2.2.2.1, o.2.2.2.2.2.2.1, o.2.2.2.2.2.2.2.1, o.2.2.2.2.2.2.2.2.1, o.2.2.2.2.2.2.2.2.2.1, o.2.2.2.2.2.2.2.2.2.2.1, o.2.2.2.2.2.2.2.2.2.2.2.1, o.2.2.2.2.2.2.2.2.2.2.2.2.1, o.2.2.2.2.2.2.2.2.2.2.2.2.2.1, o.2.2.2.2.2.2.2.2.2.2.2.2.2.2.1, o.2.2.2.2.2.2.2.2.2.2.2.2.2.2.2.1, o.2.2.2.2.2.2.2.2.2.2.2.2.2.2.2.2.1, o.2.2.2.2.2.2.2.2.2.2.2.2.2.2.2.2.2.1, v, o.2.2.2.2.2.2.2.2.2.2.2.2.2.2.2.2.2.2.2.1, o.2.2.2.2.2.2.2.2.2.2.2.2.2.2.2.2.2.2.2.2.1, o.2.2.2.2.2.2.2.2.2.2.2.2.2.2.2.2.2.2.2.2.2.1, o.2.2.2.2.2.2.2.2.2.2.2.2.2.2.2.2.2.2.2.2.2.2.1, o.2.2.2.2.2.2.2.2.2.2.2.2.2.2.2.2.2.2.2.2.2.2.2.1, o.2.2.2.2.2.2.2.2.2.2.2.2.2.2.2.2.2.2.2.2.2.2.2.2.1, o.2.2.2.2.2.2.2.2.2.2.2.2.2.2.2.2.2.2.2.2.2.2.2.2.2.1, o.2.2.2.2.2.2.2.2.2.2.2.2.2.2.2.2.2.2.2.2.2.2.2.2.2.2.1, o.2.2.2.2.2.2.2.2.2.2.2.2.2.2.2.2.2.2.2.2.2.2.2.2.2.2.2.1, o.2.2.2.2.2.2.2.2.2.2.2.2.2.2.2.2.2.2.2.2.2.2.2.2.2.2.2.2.1, o.2.2.2.2.2.2.2.2.2.2.2.2.2.2.2.2.2.2.2.2.2.2.2.2.2.2.2.2.2.1, o.2.2.2.2.2.2.2.2.2.2.2.2.2.2.2.2.2.2.2.2.2.2.2.2.2.2.2.2.2.2.1, o.2.2.2.2.2.2.2.2.2.2.2.2.2.2.2.2.2.2.2.2.2.2.2.2.2.2.2.2.2.2.2.1, o.2.2.2.2.2.2.2.2.2.2.2.2.2.2.2.2.2.2.2.2.2.2.2.2.2.2.2.2.2.2.2.2.1, o.2.2.2.2.2.2.2.2.2.2.2.2.2.2.2.2.2.2.2.2.2.2.2.2.2.2.2.2.2.2.2.2.2.1, o.2.2.2.2.2.2.2.2.2.2.2.2.2.2.2.2.2.2.2.2.2.2.2.2.2.2.2.2.2.2.2.2.2.2.1, o.2.2.2.2.2.2.2.2.2.2.2.2.2.2.2.2.2.2.2.2.2.2.2.2.2.2.2.2.2.2.2.2.2.2.2)
def s_order (o : Ob) (v : List Int32) : Ob := (o.1, o.2.1, o.2.2.1, o.2.2.2.1, o.2.2.2.2.1, o.2.2.2.2.2.1, o.2.2.2.2.2.2.1, o.2.2.2.2.2.2.2.1, o.2.2.2.2.2.2.2.2.1, o.2.2.2.2.2.2.2.2.2.1, o.2.2.2.2.2.2.2.2.2.2.1, o.2.2.2.2.2.2.2.2.2.2.2.1, o.2.2.2.2.2.2.2.2.2.2.2.2.1, o.2.2.2.2.2.2.2.2.2.2.2.2.2.1, o.2.2.2.2.2.2.2.2.2.2.2.2.2.2.1, o.2.2.2.2.2.2.2.2.2.2.2.2.2.2.2.1, o.2.2.2.2.2.2.2.2.2.2.2.2.2.2.2.2.1, o.2.2.2.2.2.2.2.2.2.2.2.2.2.2.2.2.2.1, o.2.2.2.2.2.2.2.2.2.2.2.2.2.2.2.2.2.2.1, v, o.2.2.2.2.2.2.2.2.2.2.2.2.2.2.2.2.2.2.2.2.1, o.2.2.2.2.2.2.2.2.2.2.2.2.2.2.2.2.2.2.2.2.2.1, o.2.2.2.2.2.2.2.2.2.2.2.2.2.2.2.2.2.2.2.2.2.2.1, o.2.2.2.2.2.2.2.2.2.2.2.2.2.2.2.2.2.2.2.2.2.2.2.1, o.2.2.2.2.2.2.2.2.2.2.2.2.2.2.2.2.2.2.2.2.2.2.2.2.1, o.2.2.2.2.2.2.2.2.2.2.2.2.2.2.2.2.2.2.2.2.2.2.2.2.2.1, o.2.2.2.2.2.2.2.2.2.2.2.2.2.2.2.2.2.2.2.2.2.2.2.2.2.2.1, o.2.2.2.2.2.2.2.2.2.2.2.2.2.2.2.2.2.2.2.2.2.2.2.2.2.2.2.1, o.2.2.2.2.2.2.2.2.2.2.2.2.2.2.2.2.2.2.2.2.2.2.2.2.2.2.2.2.1, o.2.2.2.2.2.2.2.2.2.2.2.2.2.2.2.2.2.2.2.2.2.2.2.2.2.2.2.2.2.1, o.2.2.2.2.2.2.2.2.2.2.2.2.2.2.2.2.2.2.2.2.2.2.2.2.2.2.2.2.2.2.1, o.2.2.2.2.2.2.2.2.2.2.2.2.2.2.2.2.2.2.2.2.2.2.2.2.2.2.2.2.2.2.2.1, o.2.2.2.2.2.2.2.2.2.2.2.2.2.2.2.2.2.2.2.2.2.2.2.2.2.2.2.2.2.2.2.2.1, o.2.2.2.2.2.2.2.2.2.2.2.2.2.2.2.2.2.2.2.2.2.2.2.2.2.2.2.2.2.2.2.2.2.1, o.2.2.2.2.2.2.2.2.2.2.2.2.2.2.2.2.2.2.2.2.2.2.2.2.2.2.2.2.2.2.2.2.2.2.1, o.2.2.2.2.2.2.2.2.2.2.2.2.2.2.2.2.2.2.2.2.2.2.2.2.2.2.2.2.2.2.2.2.2.2.2)
def s_cOp (o : Ob) (v : List Int32) : Ob := (o.1, o.2.1, o.2.2.1, o.2.2.2.1, o.2.2.2.2.1, o.2.2.2.2.2.1, o.2.2.2.2.2.2.1, o.2.2.2.2.2.2.2.1, o.2.2.2.2.2.2.2.2.1, o.2.2.2.2.2.2.2.2.2.1, o.2.2.2.2.2.2.2.2.2.2.1, o.2.2.2.2.2.2.2.2.2.2.2.1, o.2.2.2.2.2.2.2.2.2.2.2.2.1, o.2.2.2.2.2.2.2.2.2.2.2.2.2.1, o.2.2.2.2.2.2.2.2.2.2.2.2.2.2.1, o.2.2.2.2.2.2.2.2.2.2.2.2.2.2.2.1, o.2.2.2.2.2.2.2.2.2.2.2.2.2.2.2.2.1, o.2.2.2.2.2.2.2.2.2.2.2.2.2.2.2.2.2.1, o.2.2.2.2.2.2.2.2.2.2.2.2.2.2.2.2.2.2.1, o.2.2.2.2.2.2.2.2.2.2.2.2.2.2.2.2.2.2.2.1, v, o.2.2.2.2.2.2.2.2.2.2.2.2.2.2.2.2.2.2.2.2.2.1, o.2.2.2.2.2.2.2.2.2.2.2.2.2.2.2.2.2.2.2.2.2.2.1, o.2.2.2.2.2.2.2.2.2.2.2.2.2.2.2.2.2.2.2.2.2.2.2.1, o.2.2.2.2.2.2.2.2.2.2.2.2.2.2.2.2.2.2.2.2.2.2.2.2.1, o.2.2.2.2.2.2.2.2.2.2.2.2.2.2.2.2.2.2.2.2.2.2.2.2.2.1, o.2.2.2.2.2.2.2.2.2.2.2.2.2.2.2.2.2.2.2.2.2.2.2.2.2.2.1, o.2.2.2.2.2.2.2.2.2.2.2.2.2.2.2.2.2.2.2.2.2.2.2.2.2.2.2.1, o.2.2.2.2.2.2.2.2.2.2.2.2.2.2.2.2.2.2.2.2.2.2.2.2.2.2.2.2.1, o.2.2.2.2.2.2.2.2.2.2.2.2.2.2.2.2.2.2.2.2.2.2.2.2.2.2.2.2.2.1, o.2.2.2.2.2.2.2.2.2.2.2.2.2.2.2.2.2.2.2.2.2.2.2.2.2.2.2.2.2.2.1, o.2.2.2.2.2.2.2.2.2.2.2.2.2.2.2.2.2.2.2.2.2.2.2.2.2.2.2.2.2.2.2.1, o.2.2.2.2.2.2.2.2.2.2.2.2.2.2.2.2.2.2.2.2.2.2.2.2.2.2.2.2.2.2.2.2.1, o.2.2.2.2.2.2.2.2.2.2.2.2.2.2.2.2.2.2.2.2.2.2.2.2.2.2.2.2.2.2.2.2.2.1, o.2.2.2.2.2.2.2.2.2.2.2.2.2.2.2.2.2.2.2.2.2.2.2.2.2.2.2.2.2.2.2.2.2.2.1, o.2.2.2.2.2.2.2.2.2.2.2.2.2.2.2.2.2.2.2.2.2.2.2.2.2.2.2.2.2.2.2.2.2.2.2)
def s_cD (o : Ob) (v : List Int32) : Ob := (o.1, o.2.1, o.2.2.1, o.2.2.2.1, o.2.2.2.2.1, o.2.2.2.2.2.1, o.2.2.2.2.2.2.1, o.2.2.2.2.2.2.2.1, o.2.2.2.2.2.2.2.2.1, o.2.2.2.2.2.2.2.2.2.1, o.2.2.2.2.2.2.2.2.2.2.1, o.2.2.2.2.2.2.2.2.2.2.2.1, o.2.2.2.2.2.2.2.2.2.2.2.2.1, o.2.2.2.2.2.2.2.2.2.2.2.2.2.1, o.2.2.2.2.2.2.2.2.2.2.2.2.2.2.1, o.2.2.2.2.2.2.2.2.2.2.2.2.2.2.2.1, o.2.2.2.2.2.2.2.2.2.2.2.2.2.2.2.2.1, o.2.2.2.2.2.2.2.2.2.2.2.2.2.2.2.2.2.1, o.2.2.2.2.2.2.2.2.2.2.2.2.2.2.2.2.2.2.1, o.2.2.2.2.2.2.2.2.2.2.2.2.2.2.2.2.2.2.2.1, o.2.2.2.2.2.2.2.2.2.2.2.2.2.2.2.2.2.2.2.2.1, v, o.2.2.2.2.2.2.2.2.2.2.2.2.2.2.2.2.2.2.2.2.2.2.1, o.2.2.2.2.2.2.2.2.2.2.2.2.2.2.2.2.2.2.2.2.2.2.2.1, o.2.2.2.2.2.2.2.2.2.2.2.2.2.2.2.2.2.2.2.2.2.2.2.2.1, o.2.2.2.2.2.2.2.2.2.2.2.2.2.2.2.2.2.2.2.2.2.2.2.2.2.1, o.2.2.2.2.2.2.2.2.2.2.2.2.2.2.2.2.2.2.2.2.2.2.2.2.2.2.1, o.2.2.2.2.2.2.2.2.2.2.2.2.2.2.2.2.2.2.2.2.2.2.2.2.2.2.2.1, o.2.2.2.2.2.2.2.2.2.2.2.2.2.2.2.2.2.2.2.2.2.2.2.2.2.2.2.2.1, o.2.2.2.2.2.2.2.2.2.2.2.2.2.2.2.2.2.2.2.2.2.2.2.2.2.2.2.2.2.1, o.2.2.2.2.2.2.2.2.2.2.2.2.2.2.2.2.2.2.2.2.2.2.2.2.2.2.2.2.2.2.1, o.2.2.2.2.2.2.2.2.2.2.2.2.2.2.2.2.2.2.2.2.2.2.2.2.2.2.2.2.2.2.2.1, o.2.2.2.2.2.2.2.2.2.2.2.2.2.2.2.2.2.2.2.2.2.2.2.2.2.2.2.2.2.2.2.2.1, o.2.2.2.2.2.2.2.2.2.2.2.2.2.2.2.2.2.2.2.2.2.2.2.2.2.2.2.2.2.2.2.2.2.1, o.2.2.2.2.2.2.2.2.2.2.2.2.2.2.2.2.2.2.2.2.2.2.2.2.2.2.2.2.2.2.2.2.2.2.1, o.2.2.2.2.2.2.2.2.2.2.2.2.2.2.2.2.2.2.2.2.2.2.2.2.2.2.2.2.2.2.2.2.2.2.2)
def s_cS (o : Ob) (v : List Int32) : Ob := (o.1, o.2.1, o.2.2.1, o.2.2.2.1, o.2.2.2.2.1, o.2.2.2.2.2.1, o.2.2.2.2.2.2.1, o.2.2.2.2.2.2.2.1, o.2.2.2.2.2.2.2.2.1, o.2.2.2.2.2.2.2.2.2.1, o.2.2.2.2.2.2.2.2.2.2.1, o.2.2.2.2.2.2.2.2.2.2.2.1, o.2.2.2.2.2.2.2.2.2.2.2.2.1, o.2.2.2.2.2.2.2.2.2.2.2.2.2.1, o.2.2.2.2.2.2.2.2.2.2.2.2.2.2.1, o.2.2.2.2.2.2.2.2.2.2.2.2.2.2.2.1, o.2.2.2.2.2.2.2.2.2.2.2.2.2.2.2.2.1, o.2.2.2.2.2.2.2.2.2.2.2.2.2.2.2.2.2.1, o.2.2.2.2.2.2.2.2.2.2.2.2.2.2.2.2.2.2.1, o.2.2.2.2.2.2.2.2.2.2.2.2.2.2.2.2.2.2.2.1, o.2.2.2.2.2.2.2.2.2.2.2.2.2.2.2.2.2.2.2.2.1, o.2.2.2.2.2.2.2.2.2.2.2.2.2.2.2.2.2.2.2.2.2.1, v, o.2.2.2.2.2.2.2.2.2.2.2.2.2.2.2.2.2.2.2.2.2.2.2.1, o.2.2.2.2.2.2.2.2.2.2.2.2.2.2.2.2.2.2.2.2.2.2.2.2.1, o.2.2.2.2.2.2.2.2.2.2.2.2.2.2.2.2.2.2.2.2.2.2.2.2.2.1, o.2.2.2.2.2.2.2.2.2.2.2.2.2.2.2.2.2.2.2.2.2.2.2.2.2.2.1, o.2.2.2.2.2.2.2.2.2.2.2.2.2.2.2.2.2.2.2.2.2.2.2.2.2.2.2.1, o.2.2.2.2.2.2.2.2.2.2.2.2.2.2.2.2.2.2.2.2.2.2.2.2.2.2.2.2.1, o.2.2.2.2.2.2.2.2.2.2.2.2.2.2.2.2.2.2.2.2.2.2.2.2.2.2.2.2.2.1, o.2.2.2.2.2.2.2.2.2.2.2.2.2.2.2.2.2.2.2.2.2.2.2.2.2.2.2.2.2.2.1, o.2.2.2.2.2.2.2.2.2.2.2.2.2.2.2.2.2.2.2.2.2.2.2.2.2.2.2.2.2.2.2.1, o.2.2.2.2.2.2.2.2.2.2.2.2.2.2.2.2.2.2.2.2.2.2.2.2.2.2.2.2.2.2.2.2.1, o.2.2.2.2.2.2.2.2.2.2.2.2.2.2.2.2.2.2.2.2.2.2.2.2.2.2.2.2.2.2.2.2.2.1, o.2.2.2.2.2.2.2.2.2.2.2.2.2.2.2.2.2.2.2.2.2.2.2.2.2.2.2.2.2.2.2.2.2.2.1, o.2.2.2.2.2.2.2.2.2.2.2.2.2.2.2.2.2.2.2.2.2.2.2.2.2.2.2.2.2.2.2.2.2.2.2)
def s_cImm (o : Ob) (v : List Int32) : Ob := (o.1, o.2.1, o.2.2.1, o.2.2.2.1, o.2.2.2.2.1, o.2.2.2.2.2.1, o.2.2.2.2.2.2.1, o.2.2.2.2.2.2.2.1, o.2.2.2.2.2.2.2.2.1, o.2.2.2.2.2.2.2.2.2.1, o.2.2.2.2.2.2.2.2.2.2.1, o.2.2.2.2.2.2.2.2.2.2.2.1, o.2.2.2.2.2.2.2.2.2.2.2.2.1, o.2.2.2.2.2.2.2.2.2.2.2.2.2.1, o.2.2.2.2.2.2.2.2.2.2.2.2.2.2.1, o.2.2.2.2.2.2.2.2.2.2.2.2.2.2.2.1, o.2.2.2.2.2.2.2.2.2.2.2.2.2.2.2.2.1, o.2.2.2.2.2.2.2.2.2.2.2.2.2.2.2.2.2.1, o.2.2.2.2.2.2.2.2.2.2.2.2.2.2.2.2.2.2.1, o.2.2.2.2.2.2.2.2.2.2.2.2.2.2.2.2.2.2.2.1, o.2.2.2.2.2.2.2.2.2.2.2.2.2.2.2.2.2.2.2.2.1, o.2.2.2.2.2.2.2.2.2.2.2.2.2.2.2.2.2.2.2.2.2.1, o.2.2.2.2.2.2.2.2.2.2.2.2.2.2.2.2.2.2.2.2.2.2.1, v, o.2.2.2.2.2.2.2.2.2.2.2.2.2.2.2.2.2.2.2.2.2.2.2.2.1, o.2.2.2.2.2.2.2.2.2.2.2.2.2.2.2.2.2.2.2.2.2.2.2.2.2.1, o.2.2.2.2.2.2.2.2.2.2.2.2.2.2.2.2.2.2.2.2.2.2.2.2.2.2.1, o.2.2.2.2.2.2.2.2.2.2.2.2.2.2.2.2.2.2.2.2.2.2.2.2.2.2.2.1, o.2.2.2.2.2.2.2.2.2.2.2.2.2.2.2.2.2.2.2.2.2.2.2.2.2.2.2.2.1, o.2.2.2.2.2.2.2.2.2.2.2.2.2.2.2.2.2.2.2.2.2.2.2.2.2.2.2.2.2.1, o.2.2.2.2.2.2.2.2.2.2.2.2.2.2.2.2.2.2.2.2.2.2.2.2.2.2.2.2.2.2.1, o.2.2.2.2.2.2.2.2.2.2.2.2.2.2.2.2.2.2.2.2.2.2.2.2.2.2.2.2.2.2.2.1, o.2.2.2.2.2.2.2.2.2.2.2.2.2.2.2.2.2.2.2.2.2.2.2.2.2.2.2.2.2.2.2.2.1, o.2.2.2.2.2.2.2.2.2.2.2.2.2.2.2.2.2.2.2.2.2.2.2.2.2.2.2.2.2.2.2.2.2.1, o.2.2.2.2.2.2.2.2.2.2.2.2.2.2.2.2.2.2.2.2.2.2.2.2.2.2.2.2.2.2.2.2.2.2.1, o.2.2.2.2.2.2.2.2.2.2.2.2.2.2.2.2.2.2.2.2.2.2.2.2.2.2.2.2.2.2.2.2.2.2.2)
def s_cKind (o : Ob) (v : List Int32) : Ob := (o.1, o.2.1, o.2.2.1, o.2.2.2.1, o.2.2.2.2.1, o.2.2.2.2.2.1, o.2.2.2.2.2.2.1, o.2.2.2.2.2.2.2.1, o.2.2.2.2.2.2.2.2.1, o.2.2.2.2.2.2.2.2.2.1, o.2.2.2.2.2.2.2.2.2.2.1, o.2.2.2.2.2.2.2.2.2.2.2.1, o.2.2.2.2.2.2.2.2.2.2.2.2.1, o.2.2.2.2.2.2.2.2.2.2.2.2.2.1, o.2.2.2.2.2.2.2.2.2.2.2.2.2.2.1, o.2.2.2.2.2.2.2.2.2.2.2.2.2.2.2.1, o.2.2.2.2.2.2.2.2.2.2.2.2.2.2.2.2.1, o.2.2.2.2.2.2.2.2.2.2.2.2.2.2.2.2.2.1, o.2.2.2.2.2.2.2.2.2.2.2.2.2.2.2.2.2.2.1, o.2.2.2.2.2.2.2.2.2.2.2.2.2.2.2.2.2.2.2.1, o.2.2.2.2.2.2.2.2.2.2.2.2.2.2.2.2.2.2.2.2.1, o.2.2.2.2.2.2.2.2.2.2.2.2.2.2.2.2.2.2.2.2.2.1, o.2.2.2.2.2.2.2.2.2.2.2.2.2.2.2.2.2.2.2.2.2.2.1, o.2.2.2.2.2.2.2.2.2.2.2.2.2.2.2.2.2.2.2.2.2.2.2.1, v, o.2.2.2.2.2.2.2.2.2.2.2.2.2.2.2.2.2.2.2.2.2.2.2.2.2.1, o.2.2.2.2.2.2.2.2.2.2.2.2.2.2.2.2.2.2.2.2.2.2.2.2.2.2.1, o.2.2.2.2.2.2.2.2.2.2.2.2.2.2.2.2.2.2.2.2.2.2.2.2.2.2.2.1, o.2.2.2.2.2.2.2.2.2.2.2.2.2.2.2.2.2.2.2.2.2.2.2.2.2.2.2.2.1, o.2.2.2.2.2.2.2.2.2.2.2.2.2.2.2.2.2.2.2.2.2.2.2.2.2.2.2.2.2.1, o.2.2.2.2.2.2.2.2.2.2.2.2.2.2.2.2.2.2.2.2.2.2.2.2.2.2.2.2.2.2.1, o.2.2.2.2.2.2.2.2.2.2.2.2.2.2.2.2.2.2.2.2.2.2.2.2.2.2.2.2.2.2.2.1, o.2.2.2.2.2.2.2.2.2.2.2.2.2.2.2.2.2.2.2.2.2.2.2.2.2.2.2.2.2.2.2.2.1, o.2.2.2.2.2.2.2.2.2.2.2.2.2.2.2.2.2.2.2.2.2.2.2.2.2.2.2.2.2.2.2.2.2.1, o.2.2.2.2.2.2.2.2.2.2.2.2.2.2.2.2.2.2.2.2.2.2.2.2.2.2.2.2.2.2.2.2.2.2.1, o.2.2.2.2.2.2.2.2.2.2.2.2.2.2.2.2.2.2.2.2.2.2.2.2.2.2.2.2.2.2.2.2.2.2.2)
def s_cTest (o : Ob) (v : List Int32) : Ob := (o.1, o.2.1, o.2.2.1, o.2.2.2.1, o.2.2.2.2.1, o.2.2.2.2.2.1, o.2.2.2.2.2.2.1, o.2.2.2.2.2.2.2.1, o.2.2.2.2.2.2.2.2.1, o.2.2.2.2.2.2.2.2.2.1, o.2.2.2.2.2.2.2.2.2.2.1, o.2.2.2.2.2.2.2.2.2.2.2.1, o.2.2.2.2.2.2.2.2.2.2.2.2.1, o.2.2.2.2.2.2.2.2.2.2.2.2.2.1, o.2.2.2.2.2.2.2.2.2.2.2.2.2.2.1, o.2.2.2.2.2.2.2.2.2.2.2.2.2.2.2.1, o.2.2.2.2.2.2.2.2.2.2.2.2.2.2.2.2.1, o.2.2.2.2.2.2.2.2.2.2.2.2.2.2.2.2.2.1, o.2.2.2.2.2.2.2.2.2.2.2.2.2.2.2.2.2.2.1, o.2.2.2.2.2.2.2.2.2.2.2.2.2.2.2.2.2.2.2.1, o.2.2.2.2.2.2.2.2.2.2.2.2.2.2.2.2.2.2.2.2.1, o.2.2.2.2.2.2.2.2.2.2.2.2.2.2.2.2.2.2.2.2.2.1, o.2.2.2.2.2.2.2.2.2.2.2.2.2.2.2.2.2.2.2.2.2.2.1, o.2.2.2.2.2.2.2.2.2.2.2.2.2.2.2.2.2.2.2.2.2.2.2.1, o.2.2.2.2.2.2.2.2.2.2.2.2.2.2.2.2.2.2.2.2.2.2.2.2.1, v, o.2.2.2.2.2.2.2.2.2.2.2.2.2.2.2.2.2.2.2.2.2.2.2.2.2.2.1, o.2.2.2.2.2.2.2.2.2.2.2.2.2.2.2.2.2.2.2.2.2.2.2.2.2.2.2.1, o.2.2.2.2.2.2.2.2.2.2.2.2.2.2.2.2.2.2.2.2.2.2.2.2.2.2.2.2.1, o.2.2.2.2.2.2.2.2.2.2.2.2.2.2.2.2.2.2.2.2.2.2.2.2.2.2.2.2.2.1, o.2.2.2.2.2.2.2.2.2.2.2.2.2.2.2.2.2.2.2.2.2.2.2.2.2.2.2.2.2.2.1, o.2.2.2.2.2.2.2.2.2.2.2.2.2.2.2.2.2.2.2.2.2.2.2.2.2.2.2.2.2.2.2.1, o.2.2.2.2.2.2.2.2.2.2.2.2.2.2.2.2.2.2.2.2.2.2.2.2.2.2.2.2.2.2.2.2.1, o.2.2.2.2.2.2.2.2.2.2.2.2.2.2.2.2.2.2.2.2.2.2.2.2.2.2.2.2.2.2.2.2.2.1, o.2.2.2.2.2.2.2.2.2.2.2.2.2.2.2.2.2.2.2.2.2.2.2.2.2.2.2.2.2.2.2.2.2.2.1, o.2.2.2.2.2.2.2.2.2.2.2.2.2.2.2.2.2.2.2.2.2.2.2.2.2.2.2.2.2.2.2.2.2.2.2)
def s_cTaken (o : Ob) (v : List Int32) : Ob := (o.1, o.2.1, o.2.2.1, o.2.2.2.1, o.2.2.2.2.1, o.2.2.2.2.2.1, o.2.2.2.2.2.2.1, o.2.2.2.2.2.2.2.1, o.2.2.2.2.2.2.2.2.1, o.2.2.2.2.2.2.2.2.2.1, o.2.2.2.2.2.2.2.2.2.2.1, o.2.2.2.2.2.2.2.2.2.2.2.1, o.2.2.2.2.2.2.2.2.2.2.2.2.1, o.2.2.2.2.2.2.2.2.2.2.2.2.2.1, o.2.2.2.2.2.2.2.2.2.2.2.2.2.2.1, o.2.2.2.2.2.2.2.2.2.2.2.2.2.2.2.1, o.2.2.2.2.2.2.2.2.2.2.2.2.2.2.2.2.1, o.2.2.2.2.2.2.2.2.2.2.2.2.2.2.2.2.2.1, o.2.2.2.2.2.2.2.2.2.2.2.2.2.2.2.2.2.2.1, o.2.2.2.2.2.2.2.2.2.2.2.2.2.2.2.2.2.2.2.1, o.2.2.2.2.2.2.2.2.2.2.2.2.2.2.2.2.2.2.2.2.1, o.2.2.2.2.2.2.2.2.2.2.2.2.2.2.2.2.2.2.2.2.2.1, o.2.2.2.2.2.2.2.2.2.2.2.2.2.2.2.2.2.2.2.2.2.2.1, o.2.2.2.2.2.2.2.2.2.2.2.2.2.2.2.2.2.2.2.2.2.2.2.1, o.2.2.2.2.2.2.2.2.2.2.2.2.2.2.2.2.2.2.2.2.2.2.2.2.1, o.2.2.2.2.2.2.2.2.2.2.2.2.2.2.2.2.2.2.2.2.2.2.2.2.2.1, v, o.2.2.2.2.2.2.2.2.2.2.2.2.2.2.2.2.2.2.2.2.2.2.2.2.2.2.2.1, o.2.2.2.2.2.2.2.2.2.2.2.2.2.2.2.2.2.2.2.2.2.2.2.2.2.2.2.2.1, o.2.2.2.2.2.2.2.2.2.2.2.2.2.2.2.2.2.2.2.2.2.2.2.2.2.2.2.2.2.1, o.2.2.2.2.2.2.2.2.2.2.2.2.2.2.2.2.2.2.2.2.2.2.2.2.2.2.2.2.2.2.1, o.2.2.2.2.2.2.2.2.2.2.2.2.2.2.2.2.2.2.2.2.2.2.2.2.2.2.2.2.2.2.2.1, o.2.2.2.2.2.2.2.2.2.2.2.2.2.2.2.2.2.2.2.2.2.2.2.2.2.2.2.2.2.2.2.2.1, o.2.2.2.2.2.2.2.2.2.2.2.2.2.2.2.2.2.2.2.2.2.2.2.2.2.2.2.2.2.2.2.2.2.1, o.2.2.2.2.2.2.2.2.2.2.2.2.2.2.2.2.2.2.2.2.2.2.2.2.2.2.2.2.2.2.2.2.2.2.1, o.2.2.2.2.2.2.2.2.2.2.2.2.2.2.2.2.2.2.2.2.2.2.2.2.2.2.2.2.2.2.2.2.2.2.2)
def s_cOther (o : Ob) (v : List Int32) : Ob := (o.1, o.2.1, o.2.2.1, o.2.2.2.1, o.2.2.2.2.1, o.2.2.2.2.2.1, o.2.2.2.2.2.2.1, o.2.2.2.2.2.2.2.1, o.2.2.2.2.2.2.2.2.1, o.2.2.2.2.2.2.2.2.2.1, o.2.2.2.2.2.2.2.2.2.2.1, o.2.2.2.2.2.2.2.2.2.2.2.1, o.2.2.2.2.2.2.2.2.2.2.2.2.1, o.2.2.2.2.2.2.2.2.2.2.2.2.2.1, o.2.2.2.2.2.2.2.2.2.2.2.2.2.2.1, o.2.2.2.2.2.2.2.2.2.2.2.2.2.2.2.1, o.2.2.2.2.2.2.2.2.2.2.2.2.2.2.2.2.1, o.2.2.2.2.2.2.2.2.2.2.2.2.2.2.2.2.2.1, o.2.2.2.2.2.2.2.2.2.2.2.2.2.2.2.2.2.2.1, o.2.2.2.2.2.2.2.2.2.2.2.2.2.2.2.2.2.2.2.1, o.2.2.2.2.2.2.2.2.2.2.2.2.2.2.2.2.2.2.2.2.1, o.2.2.2.2.2.2.2.2.2.2.2.2.2.2.2.2.2.2.2.2.2.1, o.2.2.2.2.2.2.2.2.2.2.2.2.2.2.2.2.2.2.2.2.2.2.1, o.2.2.2.2.2.2.2.2.2.2.2.2.2.2.2.2.2.2.2.2.2.2.2.1, o.2.2.2.2.2.2.2.2.2.2.2.2.2.2.2.2.2.2.2.2.2.2.2.2.1, o.2.2.2.2.2.2.2.2.2.2.2.2.2.2.2.2.2.2.2.2.2.2.2.2.2.1, o.2.2.2.2.2.2.2.2.2.2.2.2.2.2.2.2.2.2.2.2.2.2.2.2.2.2.1, v, o.2.2.2.2.2.2.2.2.2.2.2.2.2.2.2.2.2.2.2.2.2.2.2.2.2.2.2.2.1, o.2.2.2.2.2.2.2.2.2.2.2.2.2.2.2.2.2.2.2.2.2.2.2.2.2.2.2.2.2.1, o.2.2.2.2.2.2.2.2.2.2.2.2.2.2.2.2.2.2.2.2.2.2.2.2.2.2.2.2.2.2.1, o.2.2.2.2.2.2.2.2.2.2.2.2.2.2.2.2.2.2.2.2.2.2.2.2.2.2.2.2.2.2.2.1, o.2.2.2.2.2.2.2.2.2.2.2.2.2.2.2.2.2.2.2.2.2.2.2.2.2.2.2.2.2.2.2.2.1, o.2.2.2.2.2.2.2.2.2.2.2.2.2.2.2.2.2.2.2.2.2.2.2.2.2.2.2.2.2.2.2.2.2.1, o.2.2.2.2.2.2.2.2.2.2.2.2.2.2.2.2.2.2.2.2.2.2.2.2.2.2.2.2.2.2.2.2.2.2.1, o.2.2.2.2.2.2.2.2.2.2.2.2.2.2.2.2.2.2.2.2.2.2.2.2.2.2.2.2.2.2.2.2.2.2.2)
def s_maxBlocks (o : Ob) (v : Int32) : Ob := (o.1, o.2.1, o.2.2.1, o.2.2.2.1, o.2.2.2.2.1, o.2.2.2.2.2.1, o.2.2.2.2.2.2.1, o.2.2.2.2.2.2.2.1, o.2.2.2.2.2.2.2.2.1, o.2.2.2.2.2.2.2.2.2.1, o.2.2.2.2.2.2.2.2.2.2.1, o.2.2.2.2.2.2.2.2.2.2.2.1, o.2.2.2.2.2.2.2.2.2.2.2.2.1, o.2.2.2.2.2.2.2.2.2.2.2.2.2.1, o.2.2.2.2.2.2.2.2.2.2.2.2.2.2.1, o.2.2.2.2.2.2.2.2.2.2.2.2.2.2.2.1, o.2.2.2.2.2.2.2.2.2.2.2.2.2.2.2.2.1, o.2.2.2.2.2.2.2.2.2.2.2.2.2.2.2.2.2.1, o.2.2.2.2.2.2.2.2.2.2.2.2.2.2.2.2.2.2.1, o.2.2.2.2.2.2.2.2.2.2.2.2.2.2.2.2.2.2.2.1, o.2.2.2.2.2.2.2.2.2.2.2.2.2.2.2.2.2.2.2.2.1, o.2.2.2.2.2.2.2.2.2.2.2.2.2.2.2.2.2.2.2.2.2.1, o.2.2.2.2.2.2.2.2.2.2.2.2.2.2.2.2.2.2.2.2.2.2.1, o.2.2.2.2.2.2.2.2.2.2.2.2.2.2.2.2.2.2.2.2.2.2.2.1, o.2.2.2.2.2.2.2.2.2.2.2.2.2.2.2.2.2.2.2.2.2.2.2.2.1, o.2.2.2.2.2.2.2.2.2.2.2.2.2.2.2.2.2.2.2.2.2.2.2.2.2.1, o.2.2.2.2.2.2.2.2.2.2.2.2.2.2.2.2.2.2.2.2.2.2.2.2.2.2.1, o.2.2.2.2.2.2.2.2.2.2.2.2.2.2.2.2.2.2.2.2.2.2.2.2.2.2.2.1, v, o.2.2.2.2.2.2.2.2.2.2.2.2.2.2.2.2.2.2.2.2.2.2.2.2.2.2.2.2.2.1, o.2.2.2.2.2.2.2.2.2.2.2.2.2.2.2.2.2.2.2.2.2.2.2.2.2.2.2.2.2.2.1, o.2.2.2.2.2.2.2.2.2.2.2.2.2.2.2.2.2.2.2.2.2.2.2.2.2.2.2.2.2.2.2.1, o.2.2.2.2.2.2.2.2.2.2.2.2.2.2.2.2.2.2.2.2.2.2.2.2.2.2.2.2.2.2.2.2.1, o.2.2.2.2.2.2.2.2.2.2.2.2.2.2.2.2.2.2.2.2.2.2.2.2.2.2.2.2.2.2.2.2.2.1, o.2.2.2.2.2.2.2.2.2.2.2.2.2.2.2.2.2.2.2.2.2.2.2.2.2.2.2.2.2.2.2.2.2.2.1, o.2.2.2.2.2.2.2.2.2.2.2.2.2.2.2.2.2.2.2.2.2.2.2.2.2.2.2.2.2.2.2.2.2.2.2)
def s_maxSteps (o : Ob) (v : Int32) : Ob := (o.1, o.2.1, o.2.2.1, o.2.2.2.1, o.2.2.2.2.1, o.2.2.2.2.2.1, o.2.2.2.2.2.2.1, o.2.2.2.2.2.2.2.1, o.2.2.2.2.2.2.2.2.1, o.2.2.2.2.2.2.2.2.2.1, o.2.2.2.2.2.2.2.2.2.2.1, o.2.2.2.2.2.2.2.2.2.2.2.1, o.2.2.2.2.2.2.2.2.2.2.2.2.1, o.2.2.2.2.2.2.2.2.2.2.2.2.2.1, o.2.2.2.2.2.2.2.2.2.2.2.2.2.2.1, o.2.2.2.2.2.2.2.2.2.2.2.2.2.2.2.1, o.2.2.2.2.2.2.2.2.2.2.2.2.2.2.2.2.1, o.2.2.2.2.2.2.2.2.2.2.2.2.2.2.2.2.2.1, o.2.2.2.2.2.2.2.2.2.2.2.2.2.2.2.2.2.2.1, o.2.2.2.2.2.2.2.2.2.2.2.2.2.2.2.2.2.2.2.1, o.2.2.2.2.2.2.2.2.2.2.2.2.2.2.2.2.2.2.2.2.1, o.2.2.2.2.2.2.2.2.2.2.2.2.2.2.2.2.2.2.2.2.2.1, o.2.2.2.2.2.2.2.2.2.2.2.2.2.2.2.2.2.2.2.2.2.2.1, o.2.2.2.2.2.2.2.2.2.2.2.2.2.2.2.2.2.2.2.2.2.2.2.1, o.2.2.2.2.2.2.2.2.2.2.2.2.2.2.2.2.2.2.2.2.2.2.2.2.1, o.2.2.2.2.2.2.2.2.2.2.2.2.2.2.2.2.2.2.2.2.2.2.2.2.2.1, o.2.2.2.2.2.2.2.2.2.2.2.2.2.2.2.2.2.2.2.2.2.2.2.2.2.2.1, o.2.2.2.2.2.2.2.2.2.2.2.2.2.2.2.2.2.2.2.2.2.2.2.2.2.2.2.1, o.2.2.2.2.2.2.2.2.2.2.2.2.2.2.2.2.2.2.2.2.2.2.2.2.2.2.2.2.1, v, o.2.2.2.2.2.2.2.2.2.2.2.2.2.2.2.2.2.2.2.2.2.2.2.2.2.2.2.2.2.2.1, o.2.2.2.2.2.2.2.2.2.2.2.2.2.2.2.2.2.2.2.2.2.2.2.2.2.2.2.2.2.2.2.1, o.2.2.2.2.2.2.2.2.2.2.2.2.2.2.2.2.2.2.2.2.2.2.2.2.2.2.2.2.2.2.2.2.1, o.2.2.2.2.2.2.2.2.2.2.2.2.2.2.2.2.2.2.2.2.2.2.2.2.2.2.2.2.2.2.2.2.2.1, o.2.2.2.2.2.2.2.2.2.2.2.2.2.2.2.2.2.2.2.2.2.2.2.2.2.2.2.2.2.2.2.2.2.2.1, o.2.2.2.2.2.2.2.2.2.2.2.2.2.2.2.2.2.2.2.2.2.2.2.2.2.2.2.2.2.2.2.2.2.2.2)
def s_n (o : Ob) (v : Int32) : Ob := (o.1, o.2.1, o.2.2.1, o.2.2.2.1, o.2.2.2.2.1, o.2.2.2.2.2.1, o.2.2.2.2.2.2.1, o.2.2.2.2.2.2.2.1, o.2.2.2.2.2.2.2.2.1, o.2.2.2.2.2.2.2.2.2.1, o.2.2.2.2.2.2.2.2.2.2.1, o.2.2.2.2.2.2.2.2.2.2.2.1, o.2.2.2.2.2.2.2.2.2.2.2.2.1, o.2.2.2.2.2.2.2.2.2.2.2.2.2.1, o.2.2.2.2.2.2.2.2.2.2.2.2.2.2.1, o.2.2.2.2.2.2.2.2.2.2.2.2.2.2.2.1, o.2.2.2.2.2.2.2.2.2.2.2.2.2.2.2.2.1, o.2.2.2.2.2.2.2.2.2.2.2.2.2.2.2.2.2.1, o.2.2.2.2.2.2.2.2.2.2.2.2.2.2.2.2.2.2.1, o.2.2.2.2.2.2.2.2.2.2.2.2.2.2.2.2.2.2.2.1, o.2.2.2.2.2.2.2.2.2.2.2.2.2.2.2.2.2.2.2.2.1, o.2.2.2.2.2.2.2.2.2.2.2.2.2.2.2.2.2.2.2.2.2.1, o.2.2.2.2.2.2.2.2.2.2.2.2.2.2.2.2.2.2.2.2.2.2.1, o.2.2.2.2.2.2.2.2.2.2.2.2.2.2.2.2.2.2.2.2.2.2.2.1, o.2.2.2.2.2.2.2.2.2.2.2.2.2.2.2.2.2.2.2.2.2.2.2.2.1, o.2.2.2.2.2.2.2.2.2.2.2.2.2.2.2.2.2.2.2.2.2.2.2.2.2.1, o.2.2.2.2.2.2.2.2.2.2.2.2.2.2.2.2.2.2.2.2.2.2.2.2.2.2.1, o.2.2.2.2.2.2.2.2.2.2.2.2.2.2.2.2.2.2.2.2.2.2.2.2.2.2.2.1, o.2.2.2.2.2.2.2.2.2.2.2.2.2.2.2.2.2.2.2.2.2.2.2.2.2.2.2.2.1, o.2.2.2.2.2.2.2.2.2.2.2.2.2.2.2.2.2.2.2.2.2.2.2.2.2.2.2.2.2.1, v, o.2.2.2.2.2.2.2.2.2.2.2.2.2.2.2.2.2.2.2.2.2.2.2.2.2.2.2.2.2.2.2.1, o.2.2.2.2.2.2.2.2.2.2.2.2.2.2.2.2.2.2.2.2.2.2.2.2.2.2.2.2.2.2.2.2.1, o.2.2.2.2.2.2.2.2.2.2.2.2.2.2.2.2.2.2.2.2.2.2.2.2.2.2.2.2.2.2.2.2.2.1, o.2.2.2.2.2.2.2.2.2.2.2.2.2.2.2.2.2.2.2.2.2.2.2.2.2.2.2.2.2.2.2.2.2.2.1, o.2.2.2.2.2.2.2.2.2.2.2.2.2.2.2.2.2.2.2.2.2.2.2.2.2.2.2.2.2.2.2.2.2.2.2)
def s_arranged (o : Ob) (v : Int32) : Ob := (o.1, o.2.1, o.2.2.1, o.2.2.2.1, o.2.2.2.2.1, o.2.2.2.2.2.1, o.2.2.2.2.2.2.1, o.2.2.2.2.2.2.2.1, o.2.2.2.2.2.2.2.2.1, o.2.2.2.2.2.2.2.2.2.1, o.2.2.2.2.2.2.2.2.2.2.1, o.2.2.2.2.2.2.2.2.2.2.2.1, o.2.2.2.2.2.2.2.2.2.2.2.2.1, o.2.2.2.2.2.2.2.2.2.2.2.2.2.1, o.2.2.2.2.2.2.2.2.2.2.2.2.2.2.1, o.2.2.2.2.2.2.2.2.2.2.2.2.2.2.2.1, o.2.2.2.2.2.2.2.2.2.2.2.2.2.2.2.2.1, o.2.2.2.2.2.2.2.2.2.2.2.2.2.2.2.2.2.1, o.2.2.2.2.2.2.2.2.2.2.2.2.2.2.2.2.2.2.1, o.2.2.2.2.2.2.2.2.2.2.2.2.2.2.2.2.2.2.2.1, o.2.2.2.2.2.2.2.2.2.2.2.2.2.2.2.2.2.2.2.2.1, o.2.2.2.2.2.2.2.2.2.2.2.2.2.2.2.2.2.2.2.2.2.1, o.2.2.2.2.2.2.2.2.2.2.2.2.2.2.2.2.2.2.2.2.2.2.1, o.2.2.2.2.2.2.2.2.2.2.2.2.2.2.2.2.2.2.2.2.2.2.2.1, o.2.2.2.2.2.2.2.2.2.2.2.2.2.2.2.2.2.2.2.2.2.2.2.2.1, o.2.2.2.2.2.2.2.2.2.2.2.2.2.2.2.2.2.2.2.2.2.2.2.2.2.1, o.2.2.2.2.2.2.2.2.2.2.2.2.2.2.2.2.2.2.2.2.2.2.2.2.2.2.1, o.2.2.2.2.2.2.2.2.2.2.2.2.2.2.2.2.2.2.2.2.2.2.2.2.2.2.2.1, o.2.2.2.2.2.2.2.2.2.2.2.2.2.2.2.2.2.2.2.2.2.2.2.2.2.2.2.2.1, o.2.2.2.2.2.2.2.2.2.2.2.2.2.2.2.2.2.2.2.2.2.2.2.2.2.2.2.2.2.1, o.2.2.2.2.2.2.2.2.2.2.2.2.2.2.2.2.2.2.2.2.2.2.2.2.2.2.2.2.2.2.1, v, o.2.2.2.2.2.2.2.2.2.2.2.2.2.2.2.2.2.2.2.2.2.2.2.2.2.2.2.2.2.2.2.2.1, o.2.2.2.2.2.2.2.2.2.2.2.2.2.2.2.2.2.2.2.2.2.2.2.2.2.2.2.2.2.2.2.2.2.1, o.2.2.2.2.2.2.2.2.2.2.2.2.2.2.2.2.2.2.2.2.2.2.2.2.2.2.2.2.2.2.2.2.2.2.1, o.2.2.2.2.2.2.2.2.2.2.2.2.2.2.2.2.2.2.2.2.2.2.2.2.2.2.2.2.2.2.2.2.2.2.2)
def s_outCount (o : Ob) (v : Int32) : Ob := (o.1, o.2.1, o.2.2.1, o.2.2.2.1, o.2.2.2.2.1, o.2.2.2.2.2.1, o.2.2.2.2.2.2.1, o.2.2.2.2.2.2.2.1, o.2.2.2.2.2.2.2.2.1, o.2.2.2.2.2.2.2.2.2.1, o.2.2.2.2.2.2.2.2.2.2.1, o.2.2.2.2.2.2.2.2.2.2.2.1, o.2.2.2.2.2.2.2.2.2.2.2.2.1, o.2.2.2.2.2.2.2.2.2.2.2.2.2.1, o.2.2.2.2.2.2.2.2.2.2.2.2.2.2.1, o.2.2.2.2.2.2.2.2.2.2.2.2.2.2.2.1, o.2.2.2.2.2.2.2.2.2.2.2.2.2.2.2.2.1, o.2.2.2.2.2.2.2.2.2.2.2.2.2.2.2.2.2.1, o.2.2.2.2.2.2.2.2.2.2.2.2.2.2.2.2.2.2.1, o.2.2.2.2.2.2.2.2.2.2.2.2.2.2.2.2.2.2.2.1, o.2.2.2.2.2.2.2.2.2.2.2.2.2.2.2.2.2.2.2.2.1, o.2.2.2.2.2.2.2.2.2.2.2.2.2.2.2.2.2.2.2.2.2.1, o.2.2.2.2.2.2.2.2.2.2.2.2.2.2.2.2.2.2.2.2.2.2.1, o.2.2.2.2.2.2.2.2.2.2.2.2.2.2.2.2.2.2.2.2.2.2.2.1, o.2.2.2.2.2.2.2.2.2.2.2.2.2.2.2.2.2.2.2.2.2.2.2.2.1, o.2.2.2.2.2.2.2.2.2.2.2.2.2.2.2.2.2.2.2.2.2.2.2.2.2.1, o.2.2.2.2.2.2.2.2.2.2.2.2.2.2.2.2.2.2.2.2.2.2.2.2.2.2.1, o.2.2.2.2.2.2.2.2.2.2.2.2.2.2.2.2.2.2.2.2.2.2.2.2.2.2.2.1, o.2.2.2.2.2.2.2.2.2.2.2.2.2.2.2.2.2.2.2.2.2.2.2.2.2.2.2.2.1, o.2.2.2.2.2.2.2.2.2.2.2.2.2.2.2.2.2.2.2.2.2.2.2.2.2.2.2.2.2.1, o.2.2.2.2.2.2.2.2.2.2.2.2.2.2.2.2.2.2.2.2.2.2.2.2.2.2.2.2.2.2.1, o.2.2.2.2.2.2.2.2.2.2.2.2.2.2.2.2.2.2.2.2.2.2.2.2.2.2.2.2.2.2.2.1, v, o.2.2.2.2.2.2.2.2.2.2.2.2.2.2.2.2.2.2.2.2.2.2.2.2.2.2.2.2.2.2.2.2.2.1, o.2.2.2.2.2.2.2.2.2.2.2.2.2.2.2.2.2.2.2.2.2.2.2.2.2.2.2.2.2.2.2.2.2.2.1, o.2.2.2.2.2.2.2.2.2.2.2.2.2.2.2.2.2.2.2.2.2.2.2.2.2.2.2.2.2.2.2.2.2.2.2)
def s_steps (o : Ob) (v : Int32) : Ob := (o.1, o.2.1, o.2.2.1, o.2.2.2.1, o.2.2.2.2.1, o.2.2.2.2.2.1, o.2.2.2.2.2.2.1, o.2.2.2.2.2.2.2.1, o.2.2.2.2.2.2.2.2.1, o.2.2.2.2.2.2.2.2.2.1, o.2.2.2.2.2.2.2.2.2.2.1, o.2.2.2.2.2.2.2.2.2.2.2.1, o.2.2.2.2.2.2.2.2.2.2.2.2.1, o.2.2.2.2.2.2.2.2.2.2.2.2.2.1, o.2.2.2.2.2.2.2.2.2.2.2.2.2.2.1, o.2.2.2.2.2.2.2.2.2.2.2.2.2.2.2.1, o.2.2.2.2.2.2.2.2.2.2.2.2.2.2.2.2.1, o.2.2.2.2.2.2.2.2.2.2.2.2.2.2.2.2.2.1, o.2.2.2.2.2.2.2.2.2.2.2.2.2.2.2.2.2.2.1, o.2.2.2.2.2.2.2.2.2.2.2.2.2.2.2.2.2.2.2.1, o.2.2.2.2.2.2.2.2.2.2.2.2.2.2.2.2.2.2.2.2.1, o.2.2.2.2.2.2.2.2.2.2.2.2.2.2.2.2.2.2.2.2.2.1, o.2.2.2.2.2.2.2.2.2.2.2.2.2.2.2.2.2.2.2.2.2.2.1, o.2.2.2.2.2.2.2.2.2.2.2.2.2.2.2.2.2.2.2.2.2.2.2.1, o.2.2.2.2.2.2.2.2.2.2.2.2.2.2.2.2.2.2.2.2.2.2.2.2.1, o.2.2.2.2.2.2.2.2.2.2.2.2.2.2.2.2.2.2.2.2.2.2.2.2.2.1, o.2.2.2.2.2.2.2.2.2.2.2.2.2.2.2.2.2.2.2.2.2.2.2.2.2.2.1, o.2.2.2.2.2.2.2.2.2.2.2.2.2.2.2.2.2.2.2.2.2.2.2.2.2.2.2.1, o.2.2.2.2.2.2.2.2.2.2.2.2.2.2.2.2.2.2.2.2.2.2.2.2.2.2.2.2.1, o.2.2.2.2.2.2.2.2.2.2.2.2.2.2.2.2.2.2.2.2.2.2.2.2.2.2.2.2.2.1, o.2.2.2.2.2.2.2.2.2.2.2.2.2.2.2.2.2.2.2.2.2.2.2.2.2.2.2.2.2.2.1, o.2.2.2.2.2.2.2.2.2.2.2.2.2.2.2.2.2.2.2.2.2.2.2.2.2.2.2.2.2.2.2.1, o.2.2.2.2.2.2.2.2.2.2.2.2.2.2.2.2.2.2.2.2.2.2.2.2.2.2.2.2.2.2.2.2.1, v, o.2.2.2.2.2.2.2.2.2.2.2.2.2.2.2.2.2.2.2.2.2.2.2.2.2.2.2.2.2.2.2.2.2.2.1, o.2.2.2.2.2.2.2.2.2.2.2.2.2.2.2.2.2.2.2.2.2.2.2.2.2.2.2.2.2.2.2.2.2.2.2)
def s_status (o : Ob) (v : Int32) : Ob := (o.1, o.2.1, o.2.2.1, o.2.2.2.1, o.2.2.2.2.1, o.2.2.2.2.2.1, o.2.2.2.2.2.2.1, o.2.2.2.2.2.2.2.1, o.2.2.2.2.2.2.2.2.1, o.2.2.2.2.2.2.2.2.2.1, o.2.2.2.2.2.2.2.2.2.2.1, o.2.2.2.2.2.2.2.2.2.2.2.1, o.2.2.2.2.2.2.2.2.2.2.2.2.1, o.2.2.2.2.2.2.2.2.2.2.2.2.2.1, o.2.2.2.2.2.2.2.2.2.2.2.2.2.2.1, o.2.2.2.2.2.2.2.2.2.2.2.2.2.2.2.1, o.2.2.2.2.2.2.2.2.2.2.2.2.2.2.2.2.1, o.2.2.2.2.2.2.2.2.2.2.2.2.2.2.2.2.2.1, o.2.2.2.2.2.2.2.2.2.2.2.2.2.2.2.2.2.2.1, o.2.2.2.2.2.2.2.2.2.2.2.2.2.2.2.2.2.2.2.1, o.2.2.2.2.2.2.2.2.2.2.2.2.2.2.2.2.2.2.2.2.1, o.2.2.2.2.2.2.2.2.2.2.2.2.2.2.2.2.2.2.2.2.2.1, o.2.2.2.2.2.2.2.2.2.2.2.2.2.2.2.2.2.2.2.2.2.2.1, o.2.2.2.2.2.2.2.2.2.2.2.2.2.2.2.2.2.2.2.2.2.2.2.1, o.2.2.2.2.2.2.2.2.2.2.2.2.2.2.2.2.2.2.2.2.2.2.2.2.1, o.2.2.2.2.2.2.2.2.2.2.2.2.2.2.2.2.2.2.2.2.2.2.2.2.2.1, o.2.2.2.2.2.2.2.2.2.2.2.2.2.2.2.2.2.2.2.2.2.2.2.2.2.2.1, o.2.2.2.2.2.2.2.2.2.2.2.2.2.2.2.2.2.2.2.2.2.2.2.2.2.2.2.1, o.2.2.2.2.2.2.2.2.2.2.2.2.2.2.2.2.2.2.2.2.2.2.2.2.2.2.2.2.1, o.2.2.2.2.2.2.2.2.2.2.2.2.2.2.2.2.2.2.2.2.2.2.2.2.2.2.2.2.2.1, o.2.2.2.2.2.2.2.2.2.2.2.2.2.2.2.2.2.2.2.2.2.2.2.2.2.2.2.2.2.2.1, o.2.2.2.2.2.2.2.2.2.2.2.2.2.2.2.2.2.2.2.2.2.2.2.2.2.2.2.2.2.2.2.1, o.2.2.2.2.2.2.2.2.2.2.2.2.2.2.2.2.2.2.2.2.2.2.2.2.2.2.2.2.2.2.2.2.1, o.2.2.2.2.2.2.2.2.2.2.2.2.2.2.2.2.2.2.2.2.2.2.2.2.2.2.2.2.2.2.2.2.2.1, v, o.2.2.2.2.2.2.2.2.2.2.2.2.2.2.2.2.2.2.2.2.2.2.2.2.2.2.2.2.2.2.2.2.2.2.2)
def s_edgeN (o : Ob) (v : Int32) : Ob := (o.1, o.2.1, o.2.2.1, o.2.2.2.1, o.2.2.2.2.1, o.2.2.2.2.2.1, o.2.2.2.2.2.2.1, o.2.2.2.2.2.2.2.1, o.2.2.2.2.2.2.2.2.1, o.2.2.2.2.2.2.2.2.2.1, o.2.2.2.2.2.2.2.2.2.2.1, o.2.2.2.2.2.2.2.2.2.2.2.1, o.2.2.2.2.2.2.2.2.2.2.2.2.1, o.2.2.2.2.2.2.2.2.2.2.2.2.2.1, o.2.2.2.2.2.2.2.2.2.2.2.2.2.2.1, o.2.2.2.2.2.2.2.2.2.2.2.2.2.2.2.1, o.2.2.2.2.2.2.2.2.2.2.2.2.2.2.2.2.1, o.2.2.2.2.2.2.2.2.2.2.2.2.2.2.2.2.2.1, o.2.2.2.2.2.2.2.2.2.2.2.2.2.2.2.2.2.2.1, o.2.2.2.2.2.2.2.2.2.2.2.2.2.2.2.2.2.2.2.1, o.2.2.2.2.2.2.2.2.2.2.2.2.2.2.2.2.2.2.2.2.1, o.2.2.2.2.2.2.2.2.2.2.2.2.2.2.2.2.2.2.2.2.2.1, o.2.2.2.2.2.2.2.2.2.2.2.2.2.2.2.2.2.2.2.2.2.2.1, o.2.2.2.2.2.2.2.2.2.2.2.2.2.2.2.2.2.2.2.2.2.2.2.1, o.2.2.2.2.2.2.2.2.2.2.2.2.2.2.2.2.2.2.2.2.2.2.2.2.1, o.2.2.2.2.2.2.2.2.2.2.2.2.2.2.2.2.2.2.2.2.2.2.2.2.2.1, o.2.2.2.2.2.2.2.2.2.2.2.2.2.2.2.2.2.2.2.2.2.2.2.2.2.2.1, o.2.2.2.2.2.2.2.2.2.2.2.2.2.2.2.2.2.2.2.2.2.2.2.2.2.2.2.1, o.2.2.2.2.2.2.2.2.2.2.2.2.2.2.2.2.2.2.2.2.2.2.2.2.2.2.2.2.1, o.2.2.2.2.2.2.2.2.2.2.2.2.2.2.2.2.2.2.2.2.2.2.2.2.2.2.2.2.2.1, o.2.2.2.2.2.2.2.2.2.2.2.2.2.2.2.2.2.2.2.2.2.2.2.2.2.2.2.2.2.2.1, o.2.2.2.2.2.2.2.2.2.2.2.2.2.2.2.2.2.2.2.2.2.2.2.2.2.2.2.2.2.2.2.1, o.2.2.2.2.2.2.2.2.2.2.2.2.2.2.2.2.2.2.2.2.2.2.2.2.2.2.2.2.2.2.2.2.1, o.2.2.2.2.2.2.2.2.2.2.2.2.2.2.2.2.2.2.2.2.2.2.2.2.2.2.2.2.2.2.2.2.2.1, o.2.2.2.2.2.2.2.2.2.2.2.2.2.2.2.2.2.2.2.2.2.2.2.2.2.2.2.2.2.2.2.2.2.2.1, v)
theorem fs (o : Ob) : f_bOp o = o.1 ∧ f_bD o = o.2.1 ∧ f_bS o = o.2.2.1 ∧ f_bImm o = o.2.2.2.1 ∧ f_bTerm o = o.2.2.2.2.1 ∧ f_bTest o = o.2.2.2.2.2.1 ∧ f_bT0 o = o.2.2.2.2.2.2.1 ∧ f_bT1 o = o.2.2.2.2.2.2.2.1 ∧ f_cnt0 o = o.2.2.2.2.2.2.2.2.1 ∧ f_cnt1 o = o.2.2.2.2.2.2.2.2.2.1 ∧ f_regs o = o.2.2.2.2.2.2.2.2.2.2.1 ∧ f_outs o = o.2.2.2.2.2.2.2.2.2.2.2.1 ∧ f_edgeId o = o.2.2.2.2.2.2.2.2.2.2.2.2.1 ∧ f_edgeW o = o.2.2.2.2.2.2.2.2.2.2.2.2.2.1 ∧ f_chNext o = o.2.2.2.2.2.2.2.2.2.2.2.2.2.2.1 ∧ f_chPrev o = o.2.2.2.2.2.2.2.2.2.2.2.2.2.2.2.1 ∧ f_chHead o = o.2.2.2.2.2.2.2.2.2.2.2.2.2.2.2.2.1 ∧ f_heat o = o.2.2.2.2.2.2.2.2.2.2.2.2.2.2.2.2.2.1 ∧ f_posOf o = o.2.2.2.2.2.2.2.2.2.2.2.2.2.2.2.2.2.2.1 ∧ f_order o = o.2.2.2.2.2.2.2.2.2.2.2.2.2.2.2.2.2.2.2.1 ∧ f_cOp o = o.2.2.2.2.2.2.2.2.2.2.2.2.2.2.2.2.2.2.2.2.1 ∧ f_cD o = o.2.2.2.2.2.2.2.2.2.2.2.2.2.2.2.2.2.2.2.2.2.1 ∧ f_cS o = o.2.2.2.2.2.2.2.2.2.2.2.2.2.2.2.2.2.2.2.2.2.2.1 ∧ f_cImm o = o.2.2.2.2.2.2.2.2.2.2.2.2.2.2.2.2.2.2.2.2.2.2.2.1 ∧ f_cKind o = o.2.2.2.2.2.2.2.2.2.2.2.2.2.2.2.2.2.2.2.2.2.2.2.2.1 ∧ f_cTest o = o.2.2.2.2.2.2.2.2.2.2.2.2.2.2.2.2.2.2.2.2.2.2.2.2.2.1 ∧ f_cTaken o = o.2.2.2.2.2.2.2.2.2.2.2.2.2.2.2.2.2.2.2.2.2.2.2.2.2.2.1 ∧ f_cOther o = o.2.2.2.2.2.2.2.2.2.2.2.2.2.2.2.2.2.2.2.2.2.2.2.2.2.2.2.1 ∧ f_maxBlocks o = o.2.2.2.2.2.2.2.2.2.2.2.2.2.2.2.2.2.2.2.2.2.2.2.2.2.2.2.2.1 ∧ f_maxSteps o = o.2.2.2.2.2.2.2.2.2.2.2.2.2.2.2.2.2.2.2.2.2.2.2.2.2.2.2.2.2.1 ∧ f_n o = o.2.2.2.2.2.2.2.2.2.2.2.2.2.2.2.2.2.2.2.2.2.2.2.2.2.2.2.2.2.2.1 ∧ f_arranged o = o.2.2.2.2.2.2.2.2.2.2.2.2.2.2.2.2.2.2.2.2.2.2.2.2.2.2.2.2.2.2.2.1 ∧ f_outCount o = o.2.2.2.2.2.2.2.2.2.2.2.2.2.2.2.2.2.2.2.2.2.2.2.2.2.2.2.2.2.2.2.2.1 ∧ f_steps o = o.2.2.2.2.2.2.2.2.2.2.2.2.2.2.2.2.2.2.2.2.2.2.2.2.2.2.2.2.2.2.2.2.2.1 ∧ f_status o = o.2.2.2.2.2.2.2.2.2.2.2.2.2.2.2.2.2.2.2.2.2.2.2.2.2.2.2.2.2.2.2.2.2.2.1 ∧ f_edgeN o = o.2.2.2.2.2.2.2.2.2.2.2.2.2.2.2.2.2.2.2.2.2.2.2.2.2.2.2.2.2.2.2.2.2.2.2 := by simp only [f_bOp, f_bD, f_bS, f_bImm, f_bTerm, f_bTest, f_bT0, f_bT1, f_cnt0, f_cnt1, f_regs, f_outs, f_edgeId, f_edgeW, f_chNext, f_chPrev, f_chHead, f_heat, f_posOf, f_order, f_cOp, f_cD, f_cS, f_cImm, f_cKind, f_cTest, f_cTaken, f_cOther, f_maxBlocks, f_maxSteps, f_n, f_arranged, f_outCount, f_steps, f_status, f_edgeN, and_self]
def ob0 : Ob := ([], [], [], [], [], [], [], [], [], [], [], [], [], [], [], [], [], [], [], [], [], [], [], [], [], [], [], [], 0, 0, 0, 0, 0, 0, 0, 0)
section Walks
variable {l : Launch} {Z : State} {n0 : Nat} {ad : Nat → Addr} {a0 : Array Value}
set_option maxRecDepth 20000
set_option maxHeartbeats 2000000
abbrev tt : Bool := true
abbrev ff : Bool := false
open QTri renaming steps → zS, brT → zT, brF → zF, bnd → zB, mask → zM
open Option (bind_eq_some_iff)
open Classical (em)
def H0 (s : List Int32) (o0 : Ob) : QHeap := [.inr (.inl (.int, s)), .inl [.ref 2, .ref 3, .ref 4, .ref 5, .ref 6, .ref 7, .ref 8, .ref 9, .ref 10, .ref 11, .ref 12, .ref 13, .ref 14, .ref 15, .ref 16, .ref 17, .ref 18, .ref 19, .ref 20, .ref 21, .ref 22, .ref 23, .ref 24, .ref 25, .ref 26, .ref 27, .ref 28, .ref 29, .int (f_maxBlocks o0), .int (f_maxSteps o0), .int (f_n o0), .int (f_arranged o0), .int (f_outCount o0), .int (f_steps o0), .int (f_status o0), .int (f_edgeN o0)], .inr (.inl (.int, (f_bOp o0))), .inr (.inl (.int, (f_bD o0))), .inr (.inl (.int, (f_bS o0))), .inr (.inl (.int, (f_bImm o0))), .inr (.inl (.int, (f_bTerm o0))), .inr (.inl (.int, (f_bTest o0))), .inr (.inl (.int, (f_bT0 o0))), .inr (.inl (.int, (f_bT1 o0))), .inr (.inl (.int, (f_cnt0 o0))), .inr (.inl (.int, (f_cnt1 o0))), .inr (.inl (.int, (f_regs o0))), .inr (.inl (.int, (f_outs o0))), .inr (.inl (.int, (f_edgeId o0))), .inr (.inl (.int, (f_edgeW o0))), .inr (.inl (.int, (f_chNext o0))), .inr (.inl (.int, (f_chPrev o0))), .inr (.inl (.int, (f_chHead o0))), .inr (.inl (.int, (f_heat o0))), .inr (.inl (.int, (f_posOf o0))), .inr (.inl (.int, (f_order o0))), .inr (.inl (.int, (f_cOp o0))), .inr (.inl (.int, (f_cD o0))), .inr (.inl (.int, (f_cS o0))), .inr (.inl (.int, (f_cImm o0))), .inr (.inl (.int, (f_cKind o0))), .inr (.inl (.int, (f_cTest o0))), .inr (.inl (.int, (f_cTaken o0))), .inr (.inl (.int, (f_cOther o0)))]
def H0v (s : List Int32) (a0_0 : List Int32) (a0_1 : List Int32) (a0_2 : List Int32) (a0_3 : List Int32) (a0_4 : List Int32) (a0_5 : List Int32) (a0_6 : List Int32) (a0_7 : List Int32) (a0_8 : List Int32) (a0_9 : List Int32) (a0_10 : List Int32) (a0_11 : List Int32) (a0_12 : List Int32) (a0_13 : List Int32) (a0_14 : List Int32) (a0_15 : List Int32) (a0_16 : List Int32) (a0_17 : List Int32) (a0_18 : List Int32) (a0_19 : List Int32) (a0_20 : List Int32) (a0_21 : List Int32) (a0_22 : List Int32) (a0_23 : List Int32) (a0_24 : List Int32) (a0_25 : List Int32) (a0_26 : List Int32) (a0_27 : List Int32) (a0_28 : Int32) (a0_29 : Int32) (a0_30 : Int32) (a0_31 : Int32) (a0_32 : Int32) (a0_33 : Int32) (a0_34 : Int32) (a0_35 : Int32) : QHeap := [.inr (.inl (.int, s)), .inl [.ref 2, .ref 3, .ref 4, .ref 5, .ref 6, .ref 7, .ref 8, .ref 9, .ref 10, .ref 11, .ref 12, .ref 13, .ref 14, .ref 15, .ref 16, .ref 17, .ref 18, .ref 19, .ref 20, .ref 21, .ref 22, .ref 23, .ref 24, .ref 25, .ref 26, .ref 27, .ref 28, .ref 29, .int a0_28, .int a0_29, .int a0_30, .int a0_31, .int a0_32, .int a0_33, .int a0_34, .int a0_35], .inr (.inl (.int, a0_0)), .inr (.inl (.int, a0_1)), .inr (.inl (.int, a0_2)), .inr (.inl (.int, a0_3)), .inr (.inl (.int, a0_4)), .inr (.inl (.int, a0_5)), .inr (.inl (.int, a0_6)), .inr (.inl (.int, a0_7)), .inr (.inl (.int, a0_8)), .inr (.inl (.int, a0_9)), .inr (.inl (.int, a0_10)), .inr (.inl (.int, a0_11)), .inr (.inl (.int, a0_12)), .inr (.inl (.int, a0_13)), .inr (.inl (.int, a0_14)), .inr (.inl (.int, a0_15)), .inr (.inl (.int, a0_16)), .inr (.inl (.int, a0_17)), .inr (.inl (.int, a0_18)), .inr (.inl (.int, a0_19)), .inr (.inl (.int, a0_20)), .inr (.inl (.int, a0_21)), .inr (.inl (.int, a0_22)), .inr (.inl (.int, a0_23)), .inr (.inl (.int, a0_24)), .inr (.inl (.int, a0_25)), .inr (.inl (.int, a0_26)), .inr (.inl (.int, a0_27))]
def H0x0 (s : List Int32) (o0 : Ob) (a0_0 : List Int32) (a0_1 : List Int32) (a0_2 : List Int32) (a0_3 : List Int32) (a0_4 : List Int32) (a0_5 : List Int32) (a0_6 : List Int32) (a0_7 : List Int32) (a0_8 : List Int32) (a0_9 : List Int32) (a0_10 : List Int32) (a0_11 : List Int32) (a0_12 : List Int32) (a0_13 : List Int32) (a0_14 : List Int32) (a0_15 : List Int32) (a0_16 : List Int32) (a0_17 : List Int32) (a0_18 : List Int32) (a0_19 : List Int32) (a0_20 : List Int32) (a0_21 : List Int32) (a0_22 : List Int32) (a0_23 : List Int32) (a0_24 : List Int32) (a0_25 : List Int32) (a0_26 : List Int32) (a0_27 : List Int32) : QHeap := H0v s a0_0 a0_1 a0_2 a0_3 a0_4 a0_5 a0_6 a0_7 a0_8 a0_9 a0_10 a0_11 a0_12 a0_13 a0_14 a0_15 a0_16 a0_17 a0_18 a0_19 a0_20 a0_21 a0_22 a0_23 a0_24 a0_25 a0_26 a0_27 (f_maxBlocks o0) (f_maxSteps o0) (f_n o0) (f_arranged o0) (f_outCount o0) (f_steps o0) (f_status o0) (f_edgeN o0)
def H0x1 (s : List Int32) (o0 : Ob) (a0_0 : List Int32) (a0_1 : List Int32) (a0_2 : List Int32) (a0_3 : List Int32) (a0_4 : List Int32) (a0_5 : List Int32) (a0_6 : List Int32) (a0_7 : List Int32) (a0_8 : List Int32) (a0_9 : List Int32) (a0_10 : List Int32) (a0_11 : List Int32) (a0_12 : List Int32) (a0_13 : List Int32) (a0_14 : List Int32) (a0_15 : List Int32) (a0_16 : List Int32) (a0_17 : List Int32) (a0_18 : List Int32) (a0_19 : List Int32) (a0_20 : List Int32) (a0_21 : List Int32) (a0_22 : List Int32) (a0_23 : List Int32) (a0_24 : List Int32) (a0_25 : List Int32) (a0_26 : List Int32) (a0_27 : List Int32) (a0_28 : Int32) : QHeap := H0v s a0_0 a0_1 a0_2 a0_3 a0_4 a0_5 a0_6 a0_7 a0_8 a0_9 a0_10 a0_11 a0_12 a0_13 a0_14 a0_15 a0_16 a0_17 a0_18 a0_19 a0_20 a0_21 a0_22 a0_23 a0_24 a0_25 a0_26 a0_27 a0_28 (f_maxSteps o0) (f_n o0) (f_arranged o0) (f_outCount o0) (f_steps o0) (f_status o0) (f_edgeN o0)
def H0x2 (s : List Int32) (o0 : Ob) (a0_0 : List Int32) (a0_1 : List Int32) (a0_2 : List Int32) (a0_3 : List Int32) (a0_4 : List Int32) (a0_5 : List Int32) (a0_6 : List Int32) (a0_7 : List Int32) (a0_8 : List Int32) (a0_9 : List Int32) (a0_10 : List Int32) (a0_11 : List Int32) (a0_12 : List Int32) (a0_13 : List Int32) (a0_14 : List Int32) (a0_15 : List Int32) (a0_16 : List Int32) (a0_17 : List Int32) (a0_18 : List Int32) (a0_19 : List Int32) (a0_20 : List Int32) (a0_21 : List Int32) (a0_22 : List Int32) (a0_23 : List Int32) (a0_24 : List Int32) (a0_25 : List Int32) (a0_26 : List Int32) (a0_27 : List Int32) (a0_28 : Int32) (a0_29 : Int32) : QHeap := H0v s a0_0 a0_1 a0_2 a0_3 a0_4 a0_5 a0_6 a0_7 a0_8 a0_9 a0_10 a0_11 a0_12 a0_13 a0_14 a0_15 a0_16 a0_17 a0_18 a0_19 a0_20 a0_21 a0_22 a0_23 a0_24 a0_25 a0_26 a0_27 a0_28 a0_29 (f_n o0) (f_arranged o0) (f_outCount o0) (f_steps o0) (f_status o0) (f_edgeN o0)
def H0x3 (s : List Int32) (o0 : Ob) (a0_0 : List Int32) (a0_1 : List Int32) (a0_2 : List Int32) (a0_3 : List Int32) (a0_4 : List Int32) (a0_5 : List Int32) (a0_6 : List Int32) (a0_7 : List Int32) (a0_8 : List Int32) (a0_9 : List Int32) (a0_10 : List Int32) (a0_11 : List Int32) (a0_12 : List Int32) (a0_13 : List Int32) (a0_14 : List Int32) (a0_15 : List Int32) (a0_16 : List Int32) (a0_17 : List Int32) (a0_18 : List Int32) (a0_19 : List Int32) (a0_20 : List Int32) (a0_21 : List Int32) (a0_22 : List Int32) (a0_23 : List Int32) (a0_24 : List Int32) (a0_25 : List Int32) (a0_26 : List Int32) (a0_27 : List Int32) (a0_28 : Int32) (a0_29 : Int32) (a0_30 : Int32) : QHeap := H0v s a0_0 a0_1 a0_2 a0_3 a0_4 a0_5 a0_6 a0_7 a0_8 a0_9 a0_10 a0_11 a0_12 a0_13 a0_14 a0_15 a0_16 a0_17 a0_18 a0_19 a0_20 a0_21 a0_22 a0_23 a0_24 a0_25 a0_26 a0_27 a0_28 a0_29 a0_30 (f_arranged o0) (f_outCount o0) (f_steps o0) (f_status o0) (f_edgeN o0)
def H0x4 (s : List Int32) (o0 : Ob) (a0_0 : List Int32) (a0_1 : List Int32) (a0_2 : List Int32) (a0_3 : List Int32) (a0_4 : List Int32) (a0_5 : List Int32) (a0_6 : List Int32) (a0_7 : List Int32) (a0_8 : List Int32) (a0_9 : List Int32) (a0_10 : List Int32) (a0_11 : List Int32) (a0_12 : List Int32) (a0_13 : List Int32) (a0_14 : List Int32) (a0_15 : List Int32) (a0_16 : List Int32) (a0_17 : List Int32) (a0_18 : List Int32) (a0_19 : List Int32) (a0_20 : List Int32) (a0_21 : List Int32) (a0_22 : List Int32) (a0_23 : List Int32) (a0_24 : List Int32) (a0_25 : List Int32) (a0_26 : List Int32) (a0_27 : List Int32) (a0_28 : Int32) (a0_29 : Int32) (a0_30 : Int32) (a0_31 : Int32) : QHeap := H0v s a0_0 a0_1 a0_2 a0_3 a0_4 a0_5 a0_6 a0_7 a0_8 a0_9 a0_10 a0_11 a0_12 a0_13 a0_14 a0_15 a0_16 a0_17 a0_18 a0_19 a0_20 a0_21 a0_22 a0_23 a0_24 a0_25 a0_26 a0_27 a0_28 a0_29 a0_30 a0_31 (f_outCount o0) (f_steps o0) (f_status o0) (f_edgeN o0)
def H0x5 (s : List Int32) (o0 : Ob) (a0_0 : List Int32) (a0_1 : List Int32) (a0_2 : List Int32) (a0_3 : List Int32) (a0_4 : List Int32) (a0_5 : List Int32) (a0_6 : List Int32) (a0_7 : List Int32) (a0_8 : List Int32) (a0_9 : List Int32) (a0_10 : List Int32) (a0_11 : List Int32) (a0_12 : List Int32) (a0_13 : List Int32) (a0_14 : List Int32) (a0_15 : List Int32) (a0_16 : List Int32) (a0_17 : List Int32) (a0_18 : List Int32) (a0_19 : List Int32) (a0_20 : List Int32) (a0_21 : List Int32) (a0_22 : List Int32) (a0_23 : List Int32) (a0_24 : List Int32) (a0_25 : List Int32) (a0_26 : List Int32) (a0_27 : List Int32) (a0_28 : Int32) (a0_29 : Int32) (a0_30 : Int32) (a0_31 : Int32) (a0_32 : Int32) : QHeap := H0v s a0_0 a0_1 a0_2 a0_3 a0_4 a0_5 a0_6 a0_7 a0_8 a0_9 a0_10 a0_11 a0_12 a0_13 a0_14 a0_15 a0_16 a0_17 a0_18 a0_19 a0_20 a0_21 a0_22 a0_23 a0_24 a0_25 a0_26 a0_27 a0_28 a0_29 a0_30 a0_31 a0_32 (f_steps o0) (f_status o0) (f_edgeN o0)
def H0x6 (s : List Int32) (o0 : Ob) (a0_0 : List Int32) (a0_1 : List Int32) (a0_2 : List Int32) (a0_3 : List Int32) (a0_4 : List Int32) (a0_5 : List Int32) (a0_6 : List Int32) (a0_7 : List Int32) (a0_8 : List Int32) (a0_9 : List Int32) (a0_10 : List Int32) (a0_11 : List Int32) (a0_12 : List Int32) (a0_13 : List Int32) (a0_14 : List Int32) (a0_15 : List Int32) (a0_16 : List Int32) (a0_17 : List Int32) (a0_18 : List Int32) (a0_19 : List Int32) (a0_20 : List Int32) (a0_21 : List Int32) (a0_22 : List Int32) (a0_23 : List Int32) (a0_24 : List Int32) (a0_25 : List Int32) (a0_26 : List Int32) (a0_27 : List Int32) (a0_28 : Int32) (a0_29 : Int32) (a0_30 : Int32) (a0_31 : Int32) (a0_32 : Int32) (a0_33 : Int32) : QHeap := H0v s a0_0 a0_1 a0_2 a0_3 a0_4 a0_5 a0_6 a0_7 a0_8 a0_9 a0_10 a0_11 a0_12 a0_13 a0_14 a0_15 a0_16 a0_17 a0_18 a0_19 a0_20 a0_21 a0_22 a0_23 a0_24 a0_25 a0_26 a0_27 a0_28 a0_29 a0_30 a0_31 a0_32 a0_33 (f_status o0) (f_edgeN o0)
def H0x7 (s : List Int32) (o0 : Ob) (a0_0 : List Int32) (a0_1 : List Int32) (a0_2 : List Int32) (a0_3 : List Int32) (a0_4 : List Int32) (a0_5 : List Int32) (a0_6 : List Int32) (a0_7 : List Int32) (a0_8 : List Int32) (a0_9 : List Int32) (a0_10 : List Int32) (a0_11 : List Int32) (a0_12 : List Int32) (a0_13 : List Int32) (a0_14 : List Int32) (a0_15 : List Int32) (a0_16 : List Int32) (a0_17 : List Int32) (a0_18 : List Int32) (a0_19 : List Int32) (a0_20 : List Int32) (a0_21 : List Int32) (a0_22 : List Int32) (a0_23 : List Int32) (a0_24 : List Int32) (a0_25 : List Int32) (a0_26 : List Int32) (a0_27 : List Int32) (a0_28 : Int32) (a0_29 : Int32) (a0_30 : Int32) (a0_31 : Int32) (a0_32 : Int32) (a0_33 : Int32) (a0_34 : Int32) : QHeap := H0v s a0_0 a0_1 a0_2 a0_3 a0_4 a0_5 a0_6 a0_7 a0_8 a0_9 a0_10 a0_11 a0_12 a0_13 a0_14 a0_15 a0_16 a0_17 a0_18 a0_19 a0_20 a0_21 a0_22 a0_23 a0_24 a0_25 a0_26 a0_27 a0_28 a0_29 a0_30 a0_31 a0_32 a0_33 a0_34 (f_edgeN o0)
/-- init(II)V -/
def F1 (x1 : Int32) (x2 : Int32) : Option (Ob) :=
 some (s_status (s_steps (s_outCount (s_arranged (s_n (s_maxSteps (s_maxBlocks (s_cOther (s_cTaken (s_cTest (s_cKind (s_cImm (s_cS (s_cD (s_cOp (s_order (s_posOf (s_heat (s_chHead (s_chPrev (s_chNext (s_edgeW (s_edgeId (s_outs (s_regs (s_cnt1 (s_cnt0 (s_bT1 (s_bT0 (s_bTest (s_bTerm (s_bImm (s_bS (s_bD (s_bOp ob0 (List.replicate 16 0)) (List.replicate 16 0)) (List.replicate 16 0)) (List.replicate 16 0)) (List.replicate 16 0)) (List.replicate 16 0)) (List.replicate 16 0)) (List.replicate 16 0)) (List.replicate 16 0)) (List.replicate 16 0)) (List.replicate 4 0)) (List.replicate 16 0)) (List.replicate 32 0)) (List.replicate 32 0)) (List.replicate 16 0)) (List.replicate 16 0)) (List.replicate 16 0)) (List.replicate 16 0)) (List.replicate 16 0)) (List.replicate 16 0)) (List.replicate 16 0)) (List.replicate 16 0)) (List.replicate 16 0)) (List.replicate 16 0)) (List.replicate 16 0)) (List.replicate 16 0)) (List.replicate 16 0)) (List.replicate 16 0)) (if (16:Int32) < (if x1 < (2:Int32) then (2:Int32) else x1) then (16:Int32) else (if x1 < (2:Int32) then (2:Int32) else x1))) (if (1024:Int32) < (if x2 < (16:Int32) then (16:Int32) else x2) then (1024:Int32) else (if x2 < (16:Int32) then (16:Int32) else x2))) (0:Int32)) (0:Int32)) (0:Int32)) (0:Int32)) (0:Int32))
theorem tF1 (Ad : QAd n0 ad) (W : QW Z a0) (s : List Int32) (x1 : Int32) (x2 : Int32) {r : Ob} (h : F1 x1 x2 = some r) : QTri l Z n0 ad 1 (0, qentry [.ref 1, .int x1, .int x2] (pMaxL 1), [], [.inr (.inl (.int, s)), .inl [.null, .null, .null, .null, .null, .null, .null, .null, .null, .null, .null, .null, .null, .null, .null, .null, .null, .null, .null, .null, .null, .null, .null, .null, .null, .null, .null, .null, .int (f_maxBlocks ob0), .int (f_maxSteps ob0), .int (f_n ob0), .int (f_arranged ob0), .int (f_outCount ob0), .int (f_steps ob0), .int (f_status ob0), .int (f_edgeN ob0)]]) (none : Option Value) (H0 s r) := by
 unfold F1 at h
 refine zS Ad W 1 (st' := (1, [vR 1, vI x1, vI x2, none, none], [.ref 1], [.inr (.inl (.int, s)), .inl [.null, .null, .null, .null, .null, .null, .null, .null, .null, .null, .null, .null, .null, .null, .null, .null, .null, .null, .null, .null, .null, .null, .null, .null, .null, .null, .null, .null, .int (f_maxBlocks ob0), .int (f_maxSteps ob0), .int (f_n ob0), .int (f_arranged ob0), .int (f_outCount ob0), .int (f_steps ob0), .int (f_status ob0), .int (f_edgeN ob0)]])) rfl ?_
 refine QTri.callO W rfl rfl rfl ?_
 refine zS Ad W 3 (st' := (9, [vR 1, vI x1, vI x2, none, none], [.ref 2, .ref 1], [.inr (.inl (.int, s)), .inl [.null, .null, .null, .null, .null, .null, .null, .null, .null, .null, .null, .null, .null, .null, .null, .null, .null, .null, .null, .null, .null, .null, .null, .null, .null, .null, .null, .null, .int (f_maxBlocks ob0), .int (f_maxSteps ob0), .int (f_n ob0), .int (f_arranged ob0), .int (f_outCount ob0), .int (f_steps ob0), .int (f_status ob0), .int (f_edgeN ob0)], .inr (.inl (.int, (List.replicate 16 0)))])) rfl ?_
 refine zS Ad W 1 (st' := (12, [vR 1, vI x1, vI x2, none, none], [], [.inr (.inl (.int, s)), .inl [.ref 2, .null, .null, .null, .null, .null, .null, .null, .null, .null, .null, .null, .null, .null, .null, .null, .null, .null, .null, .null, .null, .null, .null, .null, .null, .null, .null, .null, .int (f_maxBlocks ob0), .int (f_maxSteps ob0), .int (f_n ob0), .int (f_arranged ob0), .int (f_outCount ob0), .int (f_steps ob0), .int (f_status ob0), .int (f_edgeN ob0)], .inr (.inl (.int, (List.replicate 16 0)))])) rfl ?_
 refine zS Ad W 3 (st' := (17, [vR 1, vI x1, vI x2, none, none], [.ref 3, .ref 1], [.inr (.inl (.int, s)), .inl [.ref 2, .null, .null, .null, .null, .null, .null, .null, .null, .null, .null, .null, .null, .null, .null, .null, .null, .null, .null, .null, .null, .null, .null, .null, .null, .null, .null, .null, .int (f_maxBlocks ob0), .int (f_maxSteps ob0), .int (f_n ob0), .int (f_arranged ob0), .int (f_outCount ob0), .int (f_steps ob0), .int (f_status ob0), .int (f_edgeN ob0)], .inr (.inl (.int, (List.replicate 16 0))), .inr (.inl (.int, (List.replicate 16 0)))])) rfl ?_
 refine zS Ad W 1 (st' := (20, [vR 1, vI x1, vI x2, none, none], [], [.inr (.inl (.int, s)), .inl [.ref 2, .ref 3, .null, .null, .null, .null, .null, .null, .null, .null, .null, .null, .null, .null, .null, .null, .null, .null, .null, .null, .null, .null, .null, .null, .null, .null, .null, .null, .int (f_maxBlocks ob0), .int (f_maxSteps ob0), .int (f_n ob0), .int (f_arranged ob0), .int (f_outCount ob0), .int (f_steps ob0), .int (f_status ob0), .int (f_edgeN ob0)], .inr (.inl (.int, (List.replicate 16 0))), .inr (.inl (.int, (List.replicate 16 0)))])) rfl ?_
 refine zS Ad W 3 (st' := (25, [vR 1, vI x1, vI x2, none, none], [.ref 4, .ref 1], [.inr (.inl (.int, s)), .inl [.ref 2, .ref 3, .null, .null, .null, .null, .null, .null, .null, .null, .null, .null, .null, .null, .null, .null, .null, .null, .null, .null, .null, .null, .null, .null, .null, .null, .null, .null, .int (f_maxBlocks ob0), .int (f_maxSteps ob0), .int (f_n ob0), .int (f_arranged ob0), .int (f_outCount ob0), .int (f_steps ob0), .int (f_status ob0), .int (f_edgeN ob0)], .inr (.inl (.int, (List.replicate 16 0))), .inr (.inl (.int, (List.replicate 16 0))), .inr (.inl (.int, (List.replicate 16 0)))])) rfl ?_
 refine zS Ad W 1 (st' := (28, [vR 1, vI x1, vI x2, none, none], [], [.inr (.inl (.int, s)), .inl [.ref 2, .ref 3, .ref 4, .null, .null, .null, .null, .null, .null, .null, .null, .null, .null, .null, .null, .null, .null, .null, .null, .null, .null, .null, .null, .null, .null, .null, .null, .null, .int (f_maxBlocks ob0), .int (f_maxSteps ob0), .int (f_n ob0), .int (f_arranged ob0), .int (f_outCount ob0), .int (f_steps ob0), .int (f_status ob0), .int (f_edgeN ob0)], .inr (.inl (.int, (List.replicate 16 0))), .inr (.inl (.int, (List.replicate 16 0))), .inr (.inl (.int, (List.replicate 16 0)))])) rfl ?_
 refine zS Ad W 3 (st' := (33, [vR 1, vI x1, vI x2, none, none], [.ref 5, .ref 1], [.inr (.inl (.int, s)), .inl [.ref 2, .ref 3, .ref 4, .null, .null, .null, .null, .null, .null, .null, .null, .null, .null, .null, .null, .null, .null, .null, .null, .null, .null, .null, .null, .null, .null, .null, .null, .null, .int (f_maxBlocks ob0), .int (f_maxSteps ob0), .int (f_n ob0), .int (f_arranged ob0), .int (f_outCount ob0), .int (f_steps ob0), .int (f_status ob0), .int (f_edgeN ob0)], .inr (.inl (.int, (List.replicate 16 0))), .inr (.inl (.int, (List.replicate 16 0))), .inr (.inl (.int, (List.replicate 16 0))), .inr (.inl (.int, (List.replicate 16 0)))])) rfl ?_
 refine zS Ad W 1 (st' := (36, [vR 1, vI x1, vI x2, none, none], [], [.inr (.inl (.int, s)), .inl [.ref 2, .ref 3, .ref 4, .ref 5, .null, .null, .null, .null, .null, .null, .null, .null, .null, .null, .null, .null, .null, .null, .null, .null, .null, .null, .null, .null, .null, .null, .null, .null, .int (f_maxBlocks ob0), .int (f_maxSteps ob0), .int (f_n ob0), .int (f_arranged ob0), .int (f_outCount ob0), .int (f_steps ob0), .int (f_status ob0), .int (f_edgeN ob0)], .inr (.inl (.int, (List.replicate 16 0))), .inr (.inl (.int, (List.replicate 16 0))), .inr (.inl (.int, (List.replicate 16 0))), .inr (.inl (.int, (List.replicate 16 0)))])) rfl ?_
 refine zS Ad W 3 (st' := (41, [vR 1, vI x1, vI x2, none, none], [.ref 6, .ref 1], [.inr (.inl (.int, s)), .inl [.ref 2, .ref 3, .ref 4, .ref 5, .null, .null, .null, .null, .null, .null, .null, .null, .null, .null, .null, .null, .null, .null, .null, .null, .null, .null, .null, .null, .null, .null, .null, .null, .int (f_maxBlocks ob0), .int (f_maxSteps ob0), .int (f_n ob0), .int (f_arranged ob0), .int (f_outCount ob0), .int (f_steps ob0), .int (f_status ob0), .int (f_edgeN ob0)], .inr (.inl (.int, (List.replicate 16 0))), .inr (.inl (.int, (List.replicate 16 0))), .inr (.inl (.int, (List.replicate 16 0))), .inr (.inl (.int, (List.replicate 16 0))), .inr (.inl (.int, (List.replicate 16 0)))])) rfl ?_
 refine zS Ad W 1 (st' := (44, [vR 1, vI x1, vI x2, none, none], [], [.inr (.inl (.int, s)), .inl [.ref 2, .ref 3, .ref 4, .ref 5, .ref 6, .null, .null, .null, .null, .null, .null, .null, .null, .null, .null, .null, .null, .null, .null, .null, .null, .null, .null, .null, .null, .null, .null, .null, .int (f_maxBlocks ob0), .int (f_maxSteps ob0), .int (f_n ob0), .int (f_arranged ob0), .int (f_outCount ob0), .int (f_steps ob0), .int (f_status ob0), .int (f_edgeN ob0)], .inr (.inl (.int, (List.replicate 16 0))), .inr (.inl (.int, (List.replicate 16 0))), .inr (.inl (.int, (List.replicate 16 0))), .inr (.inl (.int, (List.replicate 16 0))), .inr (.inl (.int, (List.replicate 16 0)))])) rfl ?_
 refine zS Ad W 3 (st' := (49, [vR 1, vI x1, vI x2, none, none], [.ref 7, .ref 1], [.inr (.inl (.int, s)), .inl [.ref 2, .ref 3, .ref 4, .ref 5, .ref 6, .null, .null, .null, .null, .null, .null, .null, .null, .null, .null, .null, .null, .null, .null, .null, .null, .null, .null, .null, .null, .null, .null, .null, .int (f_maxBlocks ob0), .int (f_maxSteps ob0), .int (f_n ob0), .int (f_arranged ob0), .int (f_outCount ob0), .int (f_steps ob0), .int (f_status ob0), .int (f_edgeN ob0)], .inr (.inl (.int, (List.replicate 16 0))), .inr (.inl (.int, (List.replicate 16 0))), .inr (.inl (.int, (List.replicate 16 0))), .inr (.inl (.int, (List.replicate 16 0))), .inr (.inl (.int, (List.replicate 16 0))), .inr (.inl (.int, (List.replicate 16 0)))])) rfl ?_
 refine zS Ad W 1 (st' := (52, [vR 1, vI x1, vI x2, none, none], [], [.inr (.inl (.int, s)), .inl [.ref 2, .ref 3, .ref 4, .ref 5, .ref 6, .ref 7, .null, .null, .null, .null, .null, .null, .null, .null, .null, .null, .null, .null, .null, .null, .null, .null, .null, .null, .null, .null, .null, .null, .int (f_maxBlocks ob0), .int (f_maxSteps ob0), .int (f_n ob0), .int (f_arranged ob0), .int (f_outCount ob0), .int (f_steps ob0), .int (f_status ob0), .int (f_edgeN ob0)], .inr (.inl (.int, (List.replicate 16 0))), .inr (.inl (.int, (List.replicate 16 0))), .inr (.inl (.int, (List.replicate 16 0))), .inr (.inl (.int, (List.replicate 16 0))), .inr (.inl (.int, (List.replicate 16 0))), .inr (.inl (.int, (List.replicate 16 0)))])) rfl ?_
 refine zS Ad W 3 (st' := (57, [vR 1, vI x1, vI x2, none, none], [.ref 8, .ref 1], [.inr (.inl (.int, s)), .inl [.ref 2, .ref 3, .ref 4, .ref 5, .ref 6, .ref 7, .null, .null, .null, .null, .null, .null, .null, .null, .null, .null, .null, .null, .null, .null, .null, .null, .null, .null, .null, .null, .null, .null, .int (f_maxBlocks ob0), .int (f_maxSteps ob0), .int (f_n ob0), .int (f_arranged ob0), .int (f_outCount ob0), .int (f_steps ob0), .int (f_status ob0), .int (f_edgeN ob0)], .inr (.inl (.int, (List.replicate 16 0))), .inr (.inl (.int, (List.replicate 16 0))), .inr (.inl (.int, (List.replicate 16 0))), .inr (.inl (.int, (List.replicate 16 0))), .inr (.inl (.int, (List.replicate 16 0))), .inr (.inl (.int, (List.replicate 16 0))), .inr (.inl (.int, (List.replicate 16 0)))])) rfl ?_
 refine zS Ad W 1 (st' := (60, [vR 1, vI x1, vI x2, none, none], [], [.inr (.inl (.int, s)), .inl [.ref 2, .ref 3, .ref 4, .ref 5, .ref 6, .ref 7, .ref 8, .null, .null, .null, .null, .null, .null, .null, .null, .null, .null, .null, .null, .null, .null, .null, .null, .null, .null, .null, .null, .null, .int (f_maxBlocks ob0), .int (f_maxSteps ob0), .int (f_n ob0), .int (f_arranged ob0), .int (f_outCount ob0), .int (f_steps ob0), .int (f_status ob0), .int (f_edgeN ob0)], .inr (.inl (.int, (List.replicate 16 0))), .inr (.inl (.int, (List.replicate 16 0))), .inr (.inl (.int, (List.replicate 16 0))), .inr (.inl (.int, (List.replicate 16 0))), .inr (.inl (.int, (List.replicate 16 0))), .inr (.inl (.int, (List.replicate 16 0))), .inr (.inl (.int, (List.replicate 16 0)))])) rfl ?_
 refine zS Ad W 3 (st' := (65, [vR 1, vI x1, vI x2, none, none], [.ref 9, .ref 1], [.inr (.inl (.int, s)), .inl [.ref 2, .ref 3, .ref 4, .ref 5, .ref 6, .ref 7, .ref 8, .null, .null, .null, .null, .null, .null, .null, .null, .null, .null, .null, .null, .null, .null, .null, .null, .null, .null, .null, .null, .null, .int (f_maxBlocks ob0), .int (f_maxSteps ob0), .int (f_n ob0), .int (f_arranged ob0), .int (f_outCount ob0), .int (f_steps ob0), .int (f_status ob0), .int (f_edgeN ob0)], .inr (.inl (.int, (List.replicate 16 0))), .inr (.inl (.int, (List.replicate 16 0))), .inr (.inl (.int, (List.replicate 16 0))), .inr (.inl (.int, (List.replicate 16 0))), .inr (.inl (.int, (List.replicate 16 0))), .inr (.inl (.int, (List.replicate 16 0))), .inr (.inl (.int, (List.replicate 16 0))), .inr (.inl (.int, (List.replicate 16 0)))])) rfl ?_
 refine zS Ad W 1 (st' := (68, [vR 1, vI x1, vI x2, none, none], [], [.inr (.inl (.int, s)), .inl [.ref 2, .ref 3, .ref 4, .ref 5, .ref 6, .ref 7, .ref 8, .ref 9, .null, .null, .null, .null, .null, .null, .null, .null, .null, .null, .null, .null, .null, .null, .null, .null, .null, .null, .null, .null, .int (f_maxBlocks ob0), .int (f_maxSteps ob0), .int (f_n ob0), .int (f_arranged ob0), .int (f_outCount ob0), .int (f_steps ob0), .int (f_status ob0), .int (f_edgeN ob0)], .inr (.inl (.int, (List.replicate 16 0))), .inr (.inl (.int, (List.replicate 16 0))), .inr (.inl (.int, (List.replicate 16 0))), .inr (.inl (.int, (List.replicate 16 0))), .inr (.inl (.int, (List.replicate 16 0))), .inr (.inl (.int, (List.replicate 16 0))), .inr (.inl (.int, (List.replicate 16 0))), .inr (.inl (.int, (List.replicate 16 0)))])) rfl ?_
 refine zS Ad W 3 (st' := (73, [vR 1, vI x1, vI x2, none, none], [.ref 10, .ref 1], [.inr (.inl (.int, s)), .inl [.ref 2, .ref 3, .ref 4, .ref 5, .ref 6, .ref 7, .ref 8, .ref 9, .null, .null, .null, .null, .null, .null, .null, .null, .null, .null, .null, .null, .null, .null, .null, .null, .null, .null, .null, .null, .int (f_maxBlocks ob0), .int (f_maxSteps ob0), .int (f_n ob0), .int (f_arranged ob0), .int (f_outCount ob0), .int (f_steps ob0), .int (f_status ob0), .int (f_edgeN ob0)], .inr (.inl (.int, (List.replicate 16 0))), .inr (.inl (.int, (List.replicate 16 0))), .inr (.inl (.int, (List.replicate 16 0))), .inr (.inl (.int, (List.replicate 16 0))), .inr (.inl (.int, (List.replicate 16 0))), .inr (.inl (.int, (List.replicate 16 0))), .inr (.inl (.int, (List.replicate 16 0))), .inr (.inl (.int, (List.replicate 16 0))), .inr (.inl (.int, (List.replicate 16 0)))])) rfl ?_
 refine zS Ad W 1 (st' := (76, [vR 1, vI x1, vI x2, none, none], [], [.inr (.inl (.int, s)), .inl [.ref 2, .ref 3, .ref 4, .ref 5, .ref 6, .ref 7, .ref 8, .ref 9, .ref 10, .null, .null, .null, .null, .null, .null, .null, .null, .null, .null, .null, .null, .null, .null, .null, .null, .null, .null, .null, .int (f_maxBlocks ob0), .int (f_maxSteps ob0), .int (f_n ob0), .int (f_arranged ob0), .int (f_outCount ob0), .int (f_steps ob0), .int (f_status ob0), .int (f_edgeN ob0)], .inr (.inl (.int, (List.replicate 16 0))), .inr (.inl (.int, (List.replicate 16 0))), .inr (.inl (.int, (List.replicate 16 0))), .inr (.inl (.int, (List.replicate 16 0))), .inr (.inl (.int, (List.replicate 16 0))), .inr (.inl (.int, (List.replicate 16 0))), .inr (.inl (.int, (List.replicate 16 0))), .inr (.inl (.int, (List.replicate 16 0))), .inr (.inl (.int, (List.replicate 16 0)))])) rfl ?_
 refine zS Ad W 3 (st' := (81, [vR 1, vI x1, vI x2, none, none], [.ref 11, .ref 1], [.inr (.inl (.int, s)), .inl [.ref 2, .ref 3, .ref 4, .ref 5, .ref 6, .ref 7, .ref 8, .ref 9, .ref 10, .null, .null, .null, .null, .null, .null, .null, .null, .null, .null, .null, .null, .null, .null, .null, .null, .null, .null, .null, .int (f_maxBlocks ob0), .int (f_maxSteps ob0), .int (f_n ob0), .int (f_arranged ob0), .int (f_outCount ob0), .int (f_steps ob0), .int (f_status ob0), .int (f_edgeN ob0)], .inr (.inl (.int, (List.replicate 16 0))), .inr (.inl (.int, (List.replicate 16 0))), .inr (.inl (.int, (List.replicate 16 0))), .inr (.inl (.int, (List.replicate 16 0))), .inr (.inl (.int, (List.replicate 16 0))), .inr (.inl (.int, (List.replicate 16 0))), .inr (.inl (.int, (List.replicate 16 0))), .inr (.inl (.int, (List.replicate 16 0))), .inr (.inl (.int, (List.replicate 16 0))), .inr (.inl (.int, (List.replicate 16 0)))])) rfl ?_
 refine zS Ad W 1 (st' := (84, [vR 1, vI x1, vI x2, none, none], [], [.inr (.inl (.int, s)), .inl [.ref 2, .ref 3, .ref 4, .ref 5, .ref 6, .ref 7, .ref 8, .ref 9, .ref 10, .ref 11, .null, .null, .null, .null, .null, .null, .null, .null, .null, .null, .null, .null, .null, .null, .null, .null, .null, .null, .int (f_maxBlocks ob0), .int (f_maxSteps ob0), .int (f_n ob0), .int (f_arranged ob0), .int (f_outCount ob0), .int (f_steps ob0), .int (f_status ob0), .int (f_edgeN ob0)], .inr (.inl (.int, (List.replicate 16 0))), .inr (.inl (.int, (List.replicate 16 0))), .inr (.inl (.int, (List.replicate 16 0))), .inr (.inl (.int, (List.replicate 16 0))), .inr (.inl (.int, (List.replicate 16 0))), .inr (.inl (.int, (List.replicate 16 0))), .inr (.inl (.int, (List.replicate 16 0))), .inr (.inl (.int, (List.replicate 16 0))), .inr (.inl (.int, (List.replicate 16 0))), .inr (.inl (.int, (List.replicate 16 0)))])) rfl ?_
 refine zS Ad W 3 (st' := (88, [vR 1, vI x1, vI x2, none, none], [.ref 12, .ref 1], [.inr (.inl (.int, s)), .inl [.ref 2, .ref 3, .ref 4, .ref 5, .ref 6, .ref 7, .ref 8, .ref 9, .ref 10, .ref 11, .null, .null, .null, .null, .null, .null, .null, .null, .null, .null, .null, .null, .null, .null, .null, .null, .null, .null, .int (f_maxBlocks ob0), .int (f_maxSteps ob0), .int (f_n ob0), .int (f_arranged ob0), .int (f_outCount ob0), .int (f_steps ob0), .int (f_status ob0), .int (f_edgeN ob0)], .inr (.inl (.int, (List.replicate 16 0))), .inr (.inl (.int, (List.replicate 16 0))), .inr (.inl (.int, (List.replicate 16 0))), .inr (.inl (.int, (List.replicate 16 0))), .inr (.inl (.int, (List.replicate 16 0))), .inr (.inl (.int, (List.replicate 16 0))), .inr (.inl (.int, (List.replicate 16 0))), .inr (.inl (.int, (List.replicate 16 0))), .inr (.inl (.int, (List.replicate 16 0))), .inr (.inl (.int, (List.replicate 16 0))), .inr (.inl (.int, (List.replicate 4 0)))])) rfl ?_
 refine zS Ad W 1 (st' := (91, [vR 1, vI x1, vI x2, none, none], [], [.inr (.inl (.int, s)), .inl [.ref 2, .ref 3, .ref 4, .ref 5, .ref 6, .ref 7, .ref 8, .ref 9, .ref 10, .ref 11, .ref 12, .null, .null, .null, .null, .null, .null, .null, .null, .null, .null, .null, .null, .null, .null, .null, .null, .null, .int (f_maxBlocks ob0), .int (f_maxSteps ob0), .int (f_n ob0), .int (f_arranged ob0), .int (f_outCount ob0), .int (f_steps ob0), .int (f_status ob0), .int (f_edgeN ob0)], .inr (.inl (.int, (List.replicate 16 0))), .inr (.inl (.int, (List.replicate 16 0))), .inr (.inl (.int, (List.replicate 16 0))), .inr (.inl (.int, (List.replicate 16 0))), .inr (.inl (.int, (List.replicate 16 0))), .inr (.inl (.int, (List.replicate 16 0))), .inr (.inl (.int, (List.replicate 16 0))), .inr (.inl (.int, (List.replicate 16 0))), .inr (.inl (.int, (List.replicate 16 0))), .inr (.inl (.int, (List.replicate 16 0))), .inr (.inl (.int, (List.replicate 4 0)))])) rfl ?_
 refine zS Ad W 3 (st' := (96, [vR 1, vI x1, vI x2, none, none], [.ref 13, .ref 1], [.inr (.inl (.int, s)), .inl [.ref 2, .ref 3, .ref 4, .ref 5, .ref 6, .ref 7, .ref 8, .ref 9, .ref 10, .ref 11, .ref 12, .null, .null, .null, .null, .null, .null, .null, .null, .null, .null, .null, .null, .null, .null, .null, .null, .null, .int (f_maxBlocks ob0), .int (f_maxSteps ob0), .int (f_n ob0), .int (f_arranged ob0), .int (f_outCount ob0), .int (f_steps ob0), .int (f_status ob0), .int (f_edgeN ob0)], .inr (.inl (.int, (List.replicate 16 0))), .inr (.inl (.int, (List.replicate 16 0))), .inr (.inl (.int, (List.replicate 16 0))), .inr (.inl (.int, (List.replicate 16 0))), .inr (.inl (.int, (List.replicate 16 0))), .inr (.inl (.int, (List.replicate 16 0))), .inr (.inl (.int, (List.replicate 16 0))), .inr (.inl (.int, (List.replicate 16 0))), .inr (.inl (.int, (List.replicate 16 0))), .inr (.inl (.int, (List.replicate 16 0))), .inr (.inl (.int, (List.replicate 4 0))), .inr (.inl (.int, (List.replicate 16 0)))])) rfl ?_
 refine zS Ad W 1 (st' := (99, [vR 1, vI x1, vI x2, none, none], [], [.inr (.inl (.int, s)), .inl [.ref 2, .ref 3, .ref 4, .ref 5, .ref 6, .ref 7, .ref 8, .ref 9, .ref 10, .ref 11, .ref 12, .ref 13, .null, .null, .null, .null, .null, .null, .null, .null, .null, .null, .null, .null, .null, .null, .null, .null, .int (f_maxBlocks ob0), .int (f_maxSteps ob0), .int (f_n ob0), .int (f_arranged ob0), .int (f_outCount ob0), .int (f_steps ob0), .int (f_status ob0), .int (f_edgeN ob0)], .inr (.inl (.int, (List.replicate 16 0))), .inr (.inl (.int, (List.replicate 16 0))), .inr (.inl (.int, (List.replicate 16 0))), .inr (.inl (.int, (List.replicate 16 0))), .inr (.inl (.int, (List.replicate 16 0))), .inr (.inl (.int, (List.replicate 16 0))), .inr (.inl (.int, (List.replicate 16 0))), .inr (.inl (.int, (List.replicate 16 0))), .inr (.inl (.int, (List.replicate 16 0))), .inr (.inl (.int, (List.replicate 16 0))), .inr (.inl (.int, (List.replicate 4 0))), .inr (.inl (.int, (List.replicate 16 0)))])) rfl ?_
 refine zS Ad W 3 (st' := (104, [vR 1, vI x1, vI x2, none, none], [.ref 14, .ref 1], [.inr (.inl (.int, s)), .inl [.ref 2, .ref 3, .ref 4, .ref 5, .ref 6, .ref 7, .ref 8, .ref 9, .ref 10, .ref 11, .ref 12, .ref 13, .null, .null, .null, .null, .null, .null, .null, .null, .null, .null, .null, .null, .null, .null, .null, .null, .int (f_maxBlocks ob0), .int (f_maxSteps ob0), .int (f_n ob0), .int (f_arranged ob0), .int (f_outCount ob0), .int (f_steps ob0), .int (f_status ob0), .int (f_edgeN ob0)], .inr (.inl (.int, (List.replicate 16 0))), .inr (.inl (.int, (List.replicate 16 0))), .inr (.inl (.int, (List.replicate 16 0))), .inr (.inl (.int, (List.replicate 16 0))), .inr (.inl (.int, (List.replicate 16 0))), .inr (.inl (.int, (List.replicate 16 0))), .inr (.inl (.int, (List.replicate 16 0))), .inr (.inl (.int, (List.replicate 16 0))), .inr (.inl (.int, (List.replicate 16 0))), .inr (.inl (.int, (List.replicate 16 0))), .inr (.inl (.int, (List.replicate 4 0))), .inr (.inl (.int, (List.replicate 16 0))), .inr (.inl (.int, (List.replicate 32 0)))])) rfl ?_
 refine zS Ad W 1 (st' := (107, [vR 1, vI x1, vI x2, none, none], [], [.inr (.inl (.int, s)), .inl [.ref 2, .ref 3, .ref 4, .ref 5, .ref 6, .ref 7, .ref 8, .ref 9, .ref 10, .ref 11, .ref 12, .ref 13, .ref 14, .null, .null, .null, .null, .null, .null, .null, .null, .null, .null, .null, .null, .null, .null, .null, .int (f_maxBlocks ob0), .int (f_maxSteps ob0), .int (f_n ob0), .int (f_arranged ob0), .int (f_outCount ob0), .int (f_steps ob0), .int (f_status ob0), .int (f_edgeN ob0)], .inr (.inl (.int, (List.replicate 16 0))), .inr (.inl (.int, (List.replicate 16 0))), .inr (.inl (.int, (List.replicate 16 0))), .inr (.inl (.int, (List.replicate 16 0))), .inr (.inl (.int, (List.replicate 16 0))), .inr (.inl (.int, (List.replicate 16 0))), .inr (.inl (.int, (List.replicate 16 0))), .inr (.inl (.int, (List.replicate 16 0))), .inr (.inl (.int, (List.replicate 16 0))), .inr (.inl (.int, (List.replicate 16 0))), .inr (.inl (.int, (List.replicate 4 0))), .inr (.inl (.int, (List.replicate 16 0))), .inr (.inl (.int, (List.replicate 32 0)))])) rfl ?_
 refine zS Ad W 3 (st' := (112, [vR 1, vI x1, vI x2, none, none], [.ref 15, .ref 1], [.inr (.inl (.int, s)), .inl [.ref 2, .ref 3, .ref 4, .ref 5, .ref 6, .ref 7, .ref 8, .ref 9, .ref 10, .ref 11, .ref 12, .ref 13, .ref 14, .null, .null, .null, .null, .null, .null, .null, .null, .null, .null, .null, .null, .null, .null, .null, .int (f_maxBlocks ob0), .int (f_maxSteps ob0), .int (f_n ob0), .int (f_arranged ob0), .int (f_outCount ob0), .int (f_steps ob0), .int (f_status ob0), .int (f_edgeN ob0)], .inr (.inl (.int, (List.replicate 16 0))), .inr (.inl (.int, (List.replicate 16 0))), .inr (.inl (.int, (List.replicate 16 0))), .inr (.inl (.int, (List.replicate 16 0))), .inr (.inl (.int, (List.replicate 16 0))), .inr (.inl (.int, (List.replicate 16 0))), .inr (.inl (.int, (List.replicate 16 0))), .inr (.inl (.int, (List.replicate 16 0))), .inr (.inl (.int, (List.replicate 16 0))), .inr (.inl (.int, (List.replicate 16 0))), .inr (.inl (.int, (List.replicate 4 0))), .inr (.inl (.int, (List.replicate 16 0))), .inr (.inl (.int, (List.replicate 32 0))), .inr (.inl (.int, (List.replicate 32 0)))])) rfl ?_
 refine zS Ad W 1 (st' := (115, [vR 1, vI x1, vI x2, none, none], [], [.inr (.inl (.int, s)), .inl [.ref 2, .ref 3, .ref 4, .ref 5, .ref 6, .ref 7, .ref 8, .ref 9, .ref 10, .ref 11, .ref 12, .ref 13, .ref 14, .ref 15, .null, .null, .null, .null, .null, .null, .null, .null, .null, .null, .null, .null, .null, .null, .int (f_maxBlocks ob0), .int (f_maxSteps ob0), .int (f_n ob0), .int (f_arranged ob0), .int (f_outCount ob0), .int (f_steps ob0), .int (f_status ob0), .int (f_edgeN ob0)], .inr (.inl (.int, (List.replicate 16 0))), .inr (.inl (.int, (List.replicate 16 0))), .inr (.inl (.int, (List.replicate 16 0))), .inr (.inl (.int, (List.replicate 16 0))), .inr (.inl (.int, (List.replicate 16 0))), .inr (.inl (.int, (List.replicate 16 0))), .inr (.inl (.int, (List.replicate 16 0))), .inr (.inl (.int, (List.replicate 16 0))), .inr (.inl (.int, (List.replicate 16 0))), .inr (.inl (.int, (List.replicate 16 0))), .inr (.inl (.int, (List.replicate 4 0))), .inr (.inl (.int, (List.replicate 16 0))), .inr (.inl (.int, (List.replicate 32 0))), .inr (.inl (.int, (List.replicate 32 0)))])) rfl ?_
 refine zS Ad W 3 (st' := (120, [vR 1, vI x1, vI x2, none, none], [.ref 16, .ref 1], [.inr (.inl (.int, s)), .inl [.ref 2, .ref 3, .ref 4, .ref 5, .ref 6, .ref 7, .ref 8, .ref 9, .ref 10, .ref 11, .ref 12, .ref 13, .ref 14, .ref 15, .null, .null, .null, .null, .null, .null, .null, .null, .null, .null, .null, .null, .null, .null, .int (f_maxBlocks ob0), .int (f_maxSteps ob0), .int (f_n ob0), .int (f_arranged ob0), .int (f_outCount ob0), .int (f_steps ob0), .int (f_status ob0), .int (f_edgeN ob0)], .inr (.inl (.int, (List.replicate 16 0))), .inr (.inl (.int, (List.replicate 16 0))), .inr (.inl (.int, (List.replicate 16 0))), .inr (.inl (.int, (List.replicate 16 0))), .inr (.inl (.int, (List.replicate 16 0))), .inr (.inl (.int, (List.replicate 16 0))), .inr (.inl (.int, (List.replicate 16 0))), .inr (.inl (.int, (List.replicate 16 0))), .inr (.inl (.int, (List.replicate 16 0))), .inr (.inl (.int, (List.replicate 16 0))), .inr (.inl (.int, (List.replicate 4 0))), .inr (.inl (.int, (List.replicate 16 0))), .inr (.inl (.int, (List.replicate 32 0))), .inr (.inl (.int, (List.replicate 32 0))), .inr (.inl (.int, (List.replicate 16 0)))])) rfl ?_
 refine zS Ad W 1 (st' := (123, [vR 1, vI x1, vI x2, none, none], [], [.inr (.inl (.int, s)), .inl [.ref 2, .ref 3, .ref 4, .ref 5, .ref 6, .ref 7, .ref 8, .ref 9, .ref 10, .ref 11, .ref 12, .ref 13, .ref 14, .ref 15, .ref 16, .null, .null, .null, .null, .null, .null, .null, .null, .null, .null, .null, .null, .null, .int (f_maxBlocks ob0), .int (f_maxSteps ob0), .int (f_n ob0), .int (f_arranged ob0), .int (f_outCount ob0), .int (f_steps ob0), .int (f_status ob0), .int (f_edgeN ob0)], .inr (.inl (.int, (List.replicate 16 0))), .inr (.inl (.int, (List.replicate 16 0))), .inr (.inl (.int, (List.replicate 16 0))), .inr (.inl (.int, (List.replicate 16 0))), .inr (.inl (.int, (List.replicate 16 0))), .inr (.inl (.int, (List.replicate 16 0))), .inr (.inl (.int, (List.replicate 16 0))), .inr (.inl (.int, (List.replicate 16 0))), .inr (.inl (.int, (List.replicate 16 0))), .inr (.inl (.int, (List.replicate 16 0))), .inr (.inl (.int, (List.replicate 4 0))), .inr (.inl (.int, (List.replicate 16 0))), .inr (.inl (.int, (List.replicate 32 0))), .inr (.inl (.int, (List.replicate 32 0))), .inr (.inl (.int, (List.replicate 16 0)))])) rfl ?_
 refine zS Ad W 3 (st' := (128, [vR 1, vI x1, vI x2, none, none], [.ref 17, .ref 1], [.inr (.inl (.int, s)), .inl [.ref 2, .ref 3, .ref 4, .ref 5, .ref 6, .ref 7, .ref 8, .ref 9, .ref 10, .ref 11, .ref 12, .ref 13, .ref 14, .ref 15, .ref 16, .null, .null, .null, .null, .null, .null, .null, .null, .null, .null, .null, .null, .null, .int (f_maxBlocks ob0), .int (f_maxSteps ob0), .int (f_n ob0), .int (f_arranged ob0), .int (f_outCount ob0), .int (f_steps ob0), .int (f_status ob0), .int (f_edgeN ob0)], .inr (.inl (.int, (List.replicate 16 0))), .inr (.inl (.int, (List.replicate 16 0))), .inr (.inl (.int, (List.replicate 16 0))), .inr (.inl (.int, (List.replicate 16 0))), .inr (.inl (.int, (List.replicate 16 0))), .inr (.inl (.int, (List.replicate 16 0))), .inr (.inl (.int, (List.replicate 16 0))), .inr (.inl (.int, (List.replicate 16 0))), .inr (.inl (.int, (List.replicate 16 0))), .inr (.inl (.int, (List.replicate 16 0))), .inr (.inl (.int, (List.replicate 4 0))), .inr (.inl (.int, (List.replicate 16 0))), .inr (.inl (.int, (List.replicate 32 0))), .inr (.inl (.int, (List.replicate 32 0))), .inr (.inl (.int, (List.replicate 16 0))), .inr (.inl (.int, (List.replicate 16 0)))])) rfl ?_
 refine zS Ad W 1 (st' := (131, [vR 1, vI x1, vI x2, none, none], [], [.inr (.inl (.int, s)), .inl [.ref 2, .ref 3, .ref 4, .ref 5, .ref 6, .ref 7, .ref 8, .ref 9, .ref 10, .ref 11, .ref 12, .ref 13, .ref 14, .ref 15, .ref 16, .ref 17, .null, .null, .null, .null, .null, .null, .null, .null, .null, .null, .null, .null, .int (f_maxBlocks ob0), .int (f_maxSteps ob0), .int (f_n ob0), .int (f_arranged ob0), .int (f_outCount ob0), .int (f_steps ob0), .int (f_status ob0), .int (f_edgeN ob0)], .inr (.inl (.int, (List.replicate 16 0))), .inr (.inl (.int, (List.replicate 16 0))), .inr (.inl (.int, (List.replicate 16 0))), .inr (.inl (.int, (List.replicate 16 0))), .inr (.inl (.int, (List.replicate 16 0))), .inr (.inl (.int, (List.replicate 16 0))), .inr (.inl (.int, (List.replicate 16 0))), .inr (.inl (.int, (List.replicate 16 0))), .inr (.inl (.int, (List.replicate 16 0))), .inr (.inl (.int, (List.replicate 16 0))), .inr (.inl (.int, (List.replicate 4 0))), .inr (.inl (.int, (List.replicate 16 0))), .inr (.inl (.int, (List.replicate 32 0))), .inr (.inl (.int, (List.replicate 32 0))), .inr (.inl (.int, (List.replicate 16 0))), .inr (.inl (.int, (List.replicate 16 0)))])) rfl ?_
 refine zS Ad W 3 (st' := (136, [vR 1, vI x1, vI x2, none, none], [.ref 18, .ref 1], [.inr (.inl (.int, s)), .inl [.ref 2, .ref 3, .ref 4, .ref 5, .ref 6, .ref 7, .ref 8, .ref 9, .ref 10, .ref 11, .ref 12, .ref 13, .ref 14, .ref 15, .ref 16, .ref 17, .null, .null, .null, .null, .null, .null, .null, .null, .null, .null, .null, .null, .int (f_maxBlocks ob0), .int (f_maxSteps ob0), .int (f_n ob0), .int (f_arranged ob0), .int (f_outCount ob0), .int (f_steps ob0), .int (f_status ob0), .int (f_edgeN ob0)], .inr (.inl (.int, (List.replicate 16 0))), .inr (.inl (.int, (List.replicate 16 0))), .inr (.inl (.int, (List.replicate 16 0))), .inr (.inl (.int, (List.replicate 16 0))), .inr (.inl (.int, (List.replicate 16 0))), .inr (.inl (.int, (List.replicate 16 0))), .inr (.inl (.int, (List.replicate 16 0))), .inr (.inl (.int, (List.replicate 16 0))), .inr (.inl (.int, (List.replicate 16 0))), .inr (.inl (.int, (List.replicate 16 0))), .inr (.inl (.int, (List.replicate 4 0))), .inr (.inl (.int, (List.replicate 16 0))), .inr (.inl (.int, (List.replicate 32 0))), .inr (.inl (.int, (List.replicate 32 0))), .inr (.inl (.int, (List.replicate 16 0))), .inr (.inl (.int, (List.replicate 16 0))), .inr (.inl (.int, (List.replicate 16 0)))])) rfl ?_
 refine zS Ad W 1 (st' := (139, [vR 1, vI x1, vI x2, none, none], [], [.inr (.inl (.int, s)), .inl [.ref 2, .ref 3, .ref 4, .ref 5, .ref 6, .ref 7, .ref 8, .ref 9, .ref 10, .ref 11, .ref 12, .ref 13, .ref 14, .ref 15, .ref 16, .ref 17, .ref 18, .null, .null, .null, .null, .null, .null, .null, .null, .null, .null, .null, .int (f_maxBlocks ob0), .int (f_maxSteps ob0), .int (f_n ob0), .int (f_arranged ob0), .int (f_outCount ob0), .int (f_steps ob0), .int (f_status ob0), .int (f_edgeN ob0)], .inr (.inl (.int, (List.replicate 16 0))), .inr (.inl (.int, (List.replicate 16 0))), .inr (.inl (.int, (List.replicate 16 0))), .inr (.inl (.int, (List.replicate 16 0))), .inr (.inl (.int, (List.replicate 16 0))), .inr (.inl (.int, (List.replicate 16 0))), .inr (.inl (.int, (List.replicate 16 0))), .inr (.inl (.int, (List.replicate 16 0))), .inr (.inl (.int, (List.replicate 16 0))), .inr (.inl (.int, (List.replicate 16 0))), .inr (.inl (.int, (List.replicate 4 0))), .inr (.inl (.int, (List.replicate 16 0))), .inr (.inl (.int, (List.replicate 32 0))), .inr (.inl (.int, (List.replicate 32 0))), .inr (.inl (.int, (List.replicate 16 0))), .inr (.inl (.int, (List.replicate 16 0))), .inr (.inl (.int, (List.replicate 16 0)))])) rfl ?_
 refine zS Ad W 3 (st' := (144, [vR 1, vI x1, vI x2, none, none], [.ref 19, .ref 1], [.inr (.inl (.int, s)), .inl [.ref 2, .ref 3, .ref 4, .ref 5, .ref 6, .ref 7, .ref 8, .ref 9, .ref 10, .ref 11, .ref 12, .ref 13, .ref 14, .ref 15, .ref 16, .ref 17, .ref 18, .null, .null, .null, .null, .null, .null, .null, .null, .null, .null, .null, .int (f_maxBlocks ob0), .int (f_maxSteps ob0), .int (f_n ob0), .int (f_arranged ob0), .int (f_outCount ob0), .int (f_steps ob0), .int (f_status ob0), .int (f_edgeN ob0)], .inr (.inl (.int, (List.replicate 16 0))), .inr (.inl (.int, (List.replicate 16 0))), .inr (.inl (.int, (List.replicate 16 0))), .inr (.inl (.int, (List.replicate 16 0))), .inr (.inl (.int, (List.replicate 16 0))), .inr (.inl (.int, (List.replicate 16 0))), .inr (.inl (.int, (List.replicate 16 0))), .inr (.inl (.int, (List.replicate 16 0))), .inr (.inl (.int, (List.replicate 16 0))), .inr (.inl (.int, (List.replicate 16 0))), .inr (.inl (.int, (List.replicate 4 0))), .inr (.inl (.int, (List.replicate 16 0))), .inr (.inl (.int, (List.replicate 32 0))), .inr (.inl (.int, (List.replicate 32 0))), .inr (.inl (.int, (List.replicate 16 0))), .inr (.inl (.int, (List.replicate 16 0))), .inr (.inl (.int, (List.replicate 16 0))), .inr (.inl (.int, (List.replicate 16 0)))])) rfl ?_
 refine zS Ad W 1 (st' := (147, [vR 1, vI x1, vI x2, none, none], [], [.inr (.inl (.int, s)), .inl [.ref 2, .ref 3, .ref 4, .ref 5, .ref 6, .ref 7, .ref 8, .ref 9, .ref 10, .ref 11, .ref 12, .ref 13, .ref 14, .ref 15, .ref 16, .ref 17, .ref 18, .ref 19, .null, .null, .null, .null, .null, .null, .null, .null, .null, .null, .int (f_maxBlocks ob0), .int (f_maxSteps ob0), .int (f_n ob0), .int (f_arranged ob0), .int (f_outCount ob0), .int (f_steps ob0), .int (f_status ob0), .int (f_edgeN ob0)], .inr (.inl (.int, (List.replicate 16 0))), .inr (.inl (.int, (List.replicate 16 0))), .inr (.inl (.int, (List.replicate 16 0))), .inr (.inl (.int, (List.replicate 16 0))), .inr (.inl (.int, (List.replicate 16 0))), .inr (.inl (.int, (List.replicate 16 0))), .inr (.inl (.int, (List.replicate 16 0))), .inr (.inl (.int, (List.replicate 16 0))), .inr (.inl (.int, (List.replicate 16 0))), .inr (.inl (.int, (List.replicate 16 0))), .inr (.inl (.int, (List.replicate 4 0))), .inr (.inl (.int, (List.replicate 16 0))), .inr (.inl (.int, (List.replicate 32 0))), .inr (.inl (.int, (List.replicate 32 0))), .inr (.inl (.int, (List.replicate 16 0))), .inr (.inl (.int, (List.replicate 16 0))), .inr (.inl (.int, (List.replicate 16 0))), .inr (.inl (.int, (List.replicate 16 0)))])) rfl ?_
 refine zS Ad W 3 (st' := (152, [vR 1, vI x1, vI x2, none, none], [.ref 20, .ref 1], [.inr (.inl (.int, s)), .inl [.ref 2, .ref 3, .ref 4, .ref 5, .ref 6, .ref 7, .ref 8, .ref 9, .ref 10, .ref 11, .ref 12, .ref 13, .ref 14, .ref 15, .ref 16, .ref 17, .ref 18, .ref 19, .null, .null, .null, .null, .null, .null, .null, .null, .null, .null, .int (f_maxBlocks ob0), .int (f_maxSteps ob0), .int (f_n ob0), .int (f_arranged ob0), .int (f_outCount ob0), .int (f_steps ob0), .int (f_status ob0), .int (f_edgeN ob0)], .inr (.inl (.int, (List.replicate 16 0))), .inr (.inl (.int, (List.replicate 16 0))), .inr (.inl (.int, (List.replicate 16 0))), .inr (.inl (.int, (List.replicate 16 0))), .inr (.inl (.int, (List.replicate 16 0))), .inr (.inl (.int, (List.replicate 16 0))), .inr (.inl (.int, (List.replicate 16 0))), .inr (.inl (.int, (List.replicate 16 0))), .inr (.inl (.int, (List.replicate 16 0))), .inr (.inl (.int, (List.replicate 16 0))), .inr (.inl (.int, (List.replicate 4 0))), .inr (.inl (.int, (List.replicate 16 0))), .inr (.inl (.int, (List.replicate 32 0))), .inr (.inl (.int, (List.replicate 32 0))), .inr (.inl (.int, (List.replicate 16 0))), .inr (.inl (.int, (List.replicate 16 0))), .inr (.inl (.int, (List.replicate 16 0))), .inr (.inl (.int, (List.replicate 16 0))), .inr (.inl (.int, (List.replicate 16 0)))])) rfl ?_
 refine zS Ad W 1 (st' := (155, [vR 1, vI x1, vI x2, none, none], [], [.inr (.inl (.int, s)), .inl [.ref 2, .ref 3, .ref 4, .ref 5, .ref 6, .ref 7, .ref 8, .ref 9, .ref 10, .ref 11, .ref 12, .ref 13, .ref 14, .ref 15, .ref 16, .ref 17, .ref 18, .ref 19, .ref 20, .null, .null, .null, .null, .null, .null, .null, .null, .null, .int (f_maxBlocks ob0), .int (f_maxSteps ob0), .int (f_n ob0), .int (f_arranged ob0), .int (f_outCount ob0), .int (f_steps ob0), .int (f_status ob0), .int (f_edgeN ob0)], .inr (.inl (.int, (List.replicate 16 0))), .inr (.inl (.int, (List.replicate 16 0))), .inr (.inl (.int, (List.replicate 16 0))), .inr (.inl (.int, (List.replicate 16 0))), .inr (.inl (.int, (List.replicate 16 0))), .inr (.inl (.int, (List.replicate 16 0))), .inr (.inl (.int, (List.replicate 16 0))), .inr (.inl (.int, (List.replicate 16 0))), .inr (.inl (.int, (List.replicate 16 0))), .inr (.inl (.int, (List.replicate 16 0))), .inr (.inl (.int, (List.replicate 4 0))), .inr (.inl (.int, (List.replicate 16 0))), .inr (.inl (.int, (List.replicate 32 0))), .inr (.inl (.int, (List.replicate 32 0))), .inr (.inl (.int, (List.replicate 16 0))), .inr (.inl (.int, (List.replicate 16 0))), .inr (.inl (.int, (List.replicate 16 0))), .inr (.inl (.int, (List.replicate 16 0))), .inr (.inl (.int, (List.replicate 16 0)))])) rfl ?_
 refine zS Ad W 3 (st' := (160, [vR 1, vI x1, vI x2, none, none], [.ref 21, .ref 1], [.inr (.inl (.int, s)), .inl [.ref 2, .ref 3, .ref 4, .ref 5, .ref 6, .ref 7, .ref 8, .ref 9, .ref 10, .ref 11, .ref 12, .ref 13, .ref 14, .ref 15, .ref 16, .ref 17, .ref 18, .ref 19, .ref 20, .null, .null, .null, .null, .null, .null, .null, .null, .null, .int (f_maxBlocks ob0), .int (f_maxSteps ob0), .int (f_n ob0), .int (f_arranged ob0), .int (f_outCount ob0), .int (f_steps ob0), .int (f_status ob0), .int (f_edgeN ob0)], .inr (.inl (.int, (List.replicate 16 0))), .inr (.inl (.int, (List.replicate 16 0))), .inr (.inl (.int, (List.replicate 16 0))), .inr (.inl (.int, (List.replicate 16 0))), .inr (.inl (.int, (List.replicate 16 0))), .inr (.inl (.int, (List.replicate 16 0))), .inr (.inl (.int, (List.replicate 16 0))), .inr (.inl (.int, (List.replicate 16 0))), .inr (.inl (.int, (List.replicate 16 0))), .inr (.inl (.int, (List.replicate 16 0))), .inr (.inl (.int, (List.replicate 4 0))), .inr (.inl (.int, (List.replicate 16 0))), .inr (.inl (.int, (List.replicate 32 0))), .inr (.inl (.int, (List.replicate 32 0))), .inr (.inl (.int, (List.replicate 16 0))), .inr (.inl (.int, (List.replicate 16 0))), .inr (.inl (.int, (List.replicate 16 0))), .inr (.inl (.int, (List.replicate 16 0))), .inr (.inl (.int, (List.replicate 16 0))), .inr (.inl (.int, (List.replicate 16 0)))])) rfl ?_
 refine zS Ad W 1 (st' := (163, [vR 1, vI x1, vI x2, none, none], [], [.inr (.inl (.int, s)), .inl [.ref 2, .ref 3, .ref 4, .ref 5, .ref 6, .ref 7, .ref 8, .ref 9, .ref 10, .ref 11, .ref 12, .ref 13, .ref 14, .ref 15, .ref 16, .ref 17, .ref 18, .ref 19, .ref 20, .ref 21, .null, .null, .null, .null, .null, .null, .null, .null, .int (f_maxBlocks ob0), .int (f_maxSteps ob0), .int (f_n ob0), .int (f_arranged ob0), .int (f_outCount ob0), .int (f_steps ob0), .int (f_status ob0), .int (f_edgeN ob0)], .inr (.inl (.int, (List.replicate 16 0))), .inr (.inl (.int, (List.replicate 16 0))), .inr (.inl (.int, (List.replicate 16 0))), .inr (.inl (.int, (List.replicate 16 0))), .inr (.inl (.int, (List.replicate 16 0))), .inr (.inl (.int, (List.replicate 16 0))), .inr (.inl (.int, (List.replicate 16 0))), .inr (.inl (.int, (List.replicate 16 0))), .inr (.inl (.int, (List.replicate 16 0))), .inr (.inl (.int, (List.replicate 16 0))), .inr (.inl (.int, (List.replicate 4 0))), .inr (.inl (.int, (List.replicate 16 0))), .inr (.inl (.int, (List.replicate 32 0))), .inr (.inl (.int, (List.replicate 32 0))), .inr (.inl (.int, (List.replicate 16 0))), .inr (.inl (.int, (List.replicate 16 0))), .inr (.inl (.int, (List.replicate 16 0))), .inr (.inl (.int, (List.replicate 16 0))), .inr (.inl (.int, (List.replicate 16 0))), .inr (.inl (.int, (List.replicate 16 0)))])) rfl ?_
 refine zS Ad W 3 (st' := (168, [vR 1, vI x1, vI x2, none, none], [.ref 22, .ref 1], [.inr (.inl (.int, s)), .inl [.ref 2, .ref 3, .ref 4, .ref 5, .ref 6, .ref 7, .ref 8, .ref 9, .ref 10, .ref 11, .ref 12, .ref 13, .ref 14, .ref 15, .ref 16, .ref 17, .ref 18, .ref 19, .ref 20, .ref 21, .null, .null, .null, .null, .null, .null, .null, .null, .int (f_maxBlocks ob0), .int (f_maxSteps ob0), .int (f_n ob0), .int (f_arranged ob0), .int (f_outCount ob0), .int (f_steps ob0), .int (f_status ob0), .int (f_edgeN ob0)], .inr (.inl (.int, (List.replicate 16 0))), .inr (.inl (.int, (List.replicate 16 0))), .inr (.inl (.int, (List.replicate 16 0))), .inr (.inl (.int, (List.replicate 16 0))), .inr (.inl (.int, (List.replicate 16 0))), .inr (.inl (.int, (List.replicate 16 0))), .inr (.inl (.int, (List.replicate 16 0))), .inr (.inl (.int, (List.replicate 16 0))), .inr (.inl (.int, (List.replicate 16 0))), .inr (.inl (.int, (List.replicate 16 0))), .inr (.inl (.int, (List.replicate 4 0))), .inr (.inl (.int, (List.replicate 16 0))), .inr (.inl (.int, (List.replicate 32 0))), .inr (.inl (.int, (List.replicate 32 0))), .inr (.inl (.int, (List.replicate 16 0))), .inr (.inl (.int, (List.replicate 16 0))), .inr (.inl (.int, (List.replicate 16 0))), .inr (.inl (.int, (List.replicate 16 0))), .inr (.inl (.int, (List.replicate 16 0))), .inr (.inl (.int, (List.replicate 16 0))), .inr (.inl (.int, (List.replicate 16 0)))])) rfl ?_
 refine zS Ad W 1 (st' := (171, [vR 1, vI x1, vI x2, none, none], [], [.inr (.inl (.int, s)), .inl [.ref 2, .ref 3, .ref 4, .ref 5, .ref 6, .ref 7, .ref 8, .ref 9, .ref 10, .ref 11, .ref 12, .ref 13, .ref 14, .ref 15, .ref 16, .ref 17, .ref 18, .ref 19, .ref 20, .ref 21, .ref 22, .null, .null, .null, .null, .null, .null, .null, .int (f_maxBlocks ob0), .int (f_maxSteps ob0), .int (f_n ob0), .int (f_arranged ob0), .int (f_outCount ob0), .int (f_steps ob0), .int (f_status ob0), .int (f_edgeN ob0)], .inr (.inl (.int, (List.replicate 16 0))), .inr (.inl (.int, (List.replicate 16 0))), .inr (.inl (.int, (List.replicate 16 0))), .inr (.inl (.int, (List.replicate 16 0))), .inr (.inl (.int, (List.replicate 16 0))), .inr (.inl (.int, (List.replicate 16 0))), .inr (.inl (.int, (List.replicate 16 0))), .inr (.inl (.int, (List.replicate 16 0))), .inr (.inl (.int, (List.replicate 16 0))), .inr (.inl (.int, (List.replicate 16 0))), .inr (.inl (.int, (List.replicate 4 0))), .inr (.inl (.int, (List.replicate 16 0))), .inr (.inl (.int, (List.replicate 32 0))), .inr (.inl (.int, (List.replicate 32 0))), .inr (.inl (.int, (List.replicate 16 0))), .inr (.inl (.int, (List.replicate 16 0))), .inr (.inl (.int, (List.replicate 16 0))), .inr (.inl (.int, (List.replicate 16 0))), .inr (.inl (.int, (List.replicate 16 0))), .inr (.inl (.int, (List.replicate 16 0))), .inr (.inl (.int, (List.replicate 16 0)))])) rfl ?_
 refine zS Ad W 3 (st' := (176, [vR 1, vI x1, vI x2, none, none], [.ref 23, .ref 1], [.inr (.inl (.int, s)), .inl [.ref 2, .ref 3, .ref 4, .ref 5, .ref 6, .ref 7, .ref 8, .ref 9, .ref 10, .ref 11, .ref 12, .ref 13, .ref 14, .ref 15, .ref 16, .ref 17, .ref 18, .ref 19, .ref 20, .ref 21, .ref 22, .null, .null, .null, .null, .null, .null, .null, .int (f_maxBlocks ob0), .int (f_maxSteps ob0), .int (f_n ob0), .int (f_arranged ob0), .int (f_outCount ob0), .int (f_steps ob0), .int (f_status ob0), .int (f_edgeN ob0)], .inr (.inl (.int, (List.replicate 16 0))), .inr (.inl (.int, (List.replicate 16 0))), .inr (.inl (.int, (List.replicate 16 0))), .inr (.inl (.int, (List.replicate 16 0))), .inr (.inl (.int, (List.replicate 16 0))), .inr (.inl (.int, (List.replicate 16 0))), .inr (.inl (.int, (List.replicate 16 0))), .inr (.inl (.int, (List.replicate 16 0))), .inr (.inl (.int, (List.replicate 16 0))), .inr (.inl (.int, (List.replicate 16 0))), .inr (.inl (.int, (List.replicate 4 0))), .inr (.inl (.int, (List.replicate 16 0))), .inr (.inl (.int, (List.replicate 32 0))), .inr (.inl (.int, (List.replicate 32 0))), .inr (.inl (.int, (List.replicate 16 0))), .inr (.inl (.int, (List.replicate 16 0))), .inr (.inl (.int, (List.replicate 16 0))), .inr (.inl (.int, (List.replicate 16 0))), .inr (.inl (.int, (List.replicate 16 0))), .inr (.inl (.int, (List.replicate 16 0))), .inr (.inl (.int, (List.replicate 16 0))), .inr (.inl (.int, (List.replicate 16 0)))])) rfl ?_
 refine zS Ad W 1 (st' := (179, [vR 1, vI x1, vI x2, none, none], [], [.inr (.inl (.int, s)), .inl [.ref 2, .ref 3, .ref 4, .ref 5, .ref 6, .ref 7, .ref 8, .ref 9, .ref 10, .ref 11, .ref 12, .ref 13, .ref 14, .ref 15, .ref 16, .ref 17, .ref 18, .ref 19, .ref 20, .ref 21, .ref 22, .ref 23, .null, .null, .null, .null, .null, .null, .int (f_maxBlocks ob0), .int (f_maxSteps ob0), .int (f_n ob0), .int (f_arranged ob0), .int (f_outCount ob0), .int (f_steps ob0), .int (f_status ob0), .int (f_edgeN ob0)], .inr (.inl (.int, (List.replicate 16 0))), .inr (.inl (.int, (List.replicate 16 0))), .inr (.inl (.int, (List.replicate 16 0))), .inr (.inl (.int, (List.replicate 16 0))), .inr (.inl (.int, (List.replicate 16 0))), .inr (.inl (.int, (List.replicate 16 0))), .inr (.inl (.int, (List.replicate 16 0))), .inr (.inl (.int, (List.replicate 16 0))), .inr (.inl (.int, (List.replicate 16 0))), .inr (.inl (.int, (List.replicate 16 0))), .inr (.inl (.int, (List.replicate 4 0))), .inr (.inl (.int, (List.replicate 16 0))), .inr (.inl (.int, (List.replicate 32 0))), .inr (.inl (.int, (List.replicate 32 0))), .inr (.inl (.int, (List.replicate 16 0))), .inr (.inl (.int, (List.replicate 16 0))), .inr (.inl (.int, (List.replicate 16 0))), .inr (.inl (.int, (List.replicate 16 0))), .inr (.inl (.int, (List.replicate 16 0))), .inr (.inl (.int, (List.replicate 16 0))), .inr (.inl (.int, (List.replicate 16 0))), .inr (.inl (.int, (List.replicate 16 0)))])) rfl ?_
 refine zS Ad W 3 (st' := (184, [vR 1, vI x1, vI x2, none, none], [.ref 24, .ref 1], [.inr (.inl (.int, s)), .inl [.ref 2, .ref 3, .ref 4, .ref 5, .ref 6, .ref 7, .ref 8, .ref 9, .ref 10, .ref 11, .ref 12, .ref 13, .ref 14, .ref 15, .ref 16, .ref 17, .ref 18, .ref 19, .ref 20, .ref 21, .ref 22, .ref 23, .null, .null, .null, .null, .null, .null, .int (f_maxBlocks ob0), .int (f_maxSteps ob0), .int (f_n ob0), .int (f_arranged ob0), .int (f_outCount ob0), .int (f_steps ob0), .int (f_status ob0), .int (f_edgeN ob0)], .inr (.inl (.int, (List.replicate 16 0))), .inr (.inl (.int, (List.replicate 16 0))), .inr (.inl (.int, (List.replicate 16 0))), .inr (.inl (.int, (List.replicate 16 0))), .inr (.inl (.int, (List.replicate 16 0))), .inr (.inl (.int, (List.replicate 16 0))), .inr (.inl (.int, (List.replicate 16 0))), .inr (.inl (.int, (List.replicate 16 0))), .inr (.inl (.int, (List.replicate 16 0))), .inr (.inl (.int, (List.replicate 16 0))), .inr (.inl (.int, (List.replicate 4 0))), .inr (.inl (.int, (List.replicate 16 0))), .inr (.inl (.int, (List.replicate 32 0))), .inr (.inl (.int, (List.replicate 32 0))), .inr (.inl (.int, (List.replicate 16 0))), .inr (.inl (.int, (List.replicate 16 0))), .inr (.inl (.int, (List.replicate 16 0))), .inr (.inl (.int, (List.replicate 16 0))), .inr (.inl (.int, (List.replicate 16 0))), .inr (.inl (.int, (List.replicate 16 0))), .inr (.inl (.int, (List.replicate 16 0))), .inr (.inl (.int, (List.replicate 16 0))), .inr (.inl (.int, (List.replicate 16 0)))])) rfl ?_
 refine zS Ad W 1 (st' := (187, [vR 1, vI x1, vI x2, none, none], [], [.inr (.inl (.int, s)), .inl [.ref 2, .ref 3, .ref 4, .ref 5, .ref 6, .ref 7, .ref 8, .ref 9, .ref 10, .ref 11, .ref 12, .ref 13, .ref 14, .ref 15, .ref 16, .ref 17, .ref 18, .ref 19, .ref 20, .ref 21, .ref 22, .ref 23, .ref 24, .null, .null, .null, .null, .null, .int (f_maxBlocks ob0), .int (f_maxSteps ob0), .int (f_n ob0), .int (f_arranged ob0), .int (f_outCount ob0), .int (f_steps ob0), .int (f_status ob0), .int (f_edgeN ob0)], .inr (.inl (.int, (List.replicate 16 0))), .inr (.inl (.int, (List.replicate 16 0))), .inr (.inl (.int, (List.replicate 16 0))), .inr (.inl (.int, (List.replicate 16 0))), .inr (.inl (.int, (List.replicate 16 0))), .inr (.inl (.int, (List.replicate 16 0))), .inr (.inl (.int, (List.replicate 16 0))), .inr (.inl (.int, (List.replicate 16 0))), .inr (.inl (.int, (List.replicate 16 0))), .inr (.inl (.int, (List.replicate 16 0))), .inr (.inl (.int, (List.replicate 4 0))), .inr (.inl (.int, (List.replicate 16 0))), .inr (.inl (.int, (List.replicate 32 0))), .inr (.inl (.int, (List.replicate 32 0))), .inr (.inl (.int, (List.replicate 16 0))), .inr (.inl (.int, (List.replicate 16 0))), .inr (.inl (.int, (List.replicate 16 0))), .inr (.inl (.int, (List.replicate 16 0))), .inr (.inl (.int, (List.replicate 16 0))), .inr (.inl (.int, (List.replicate 16 0))), .inr (.inl (.int, (List.replicate 16 0))), .inr (.inl (.int, (List.replicate 16 0))), .inr (.inl (.int, (List.replicate 16 0)))])) rfl ?_
 refine zS Ad W 3 (st' := (192, [vR 1, vI x1, vI x2, none, none], [.ref 25, .ref 1], [.inr (.inl (.int, s)), .inl [.ref 2, .ref 3, .ref 4, .ref 5, .ref 6, .ref 7, .ref 8, .ref 9, .ref 10, .ref 11, .ref 12, .ref 13, .ref 14, .ref 15, .ref 16, .ref 17, .ref 18, .ref 19, .ref 20, .ref 21, .ref 22, .ref 23, .ref 24, .null, .null, .null, .null, .null, .int (f_maxBlocks ob0), .int (f_maxSteps ob0), .int (f_n ob0), .int (f_arranged ob0), .int (f_outCount ob0), .int (f_steps ob0), .int (f_status ob0), .int (f_edgeN ob0)], .inr (.inl (.int, (List.replicate 16 0))), .inr (.inl (.int, (List.replicate 16 0))), .inr (.inl (.int, (List.replicate 16 0))), .inr (.inl (.int, (List.replicate 16 0))), .inr (.inl (.int, (List.replicate 16 0))), .inr (.inl (.int, (List.replicate 16 0))), .inr (.inl (.int, (List.replicate 16 0))), .inr (.inl (.int, (List.replicate 16 0))), .inr (.inl (.int, (List.replicate 16 0))), .inr (.inl (.int, (List.replicate 16 0))), .inr (.inl (.int, (List.replicate 4 0))), .inr (.inl (.int, (List.replicate 16 0))), .inr (.inl (.int, (List.replicate 32 0))), .inr (.inl (.int, (List.replicate 32 0))), .inr (.inl (.int, (List.replicate 16 0))), .inr (.inl (.int, (List.replicate 16 0))), .inr (.inl (.int, (List.replicate 16 0))), .inr (.inl (.int, (List.replicate 16 0))), .inr (.inl (.int, (List.replicate 16 0))), .inr (.inl (.int, (List.replicate 16 0))), .inr (.inl (.int, (List.replicate 16 0))), .inr (.inl (.int, (List.replicate 16 0))), .inr (.inl (.int, (List.replicate 16 0))), .inr (.inl (.int, (List.replicate 16 0)))])) rfl ?_
 refine zS Ad W 1 (st' := (195, [vR 1, vI x1, vI x2, none, none], [], [.inr (.inl (.int, s)), .inl [.ref 2, .ref 3, .ref 4, .ref 5, .ref 6, .ref 7, .ref 8, .ref 9, .ref 10, .ref 11, .ref 12, .ref 13, .ref 14, .ref 15, .ref 16, .ref 17, .ref 18, .ref 19, .ref 20, .ref 21, .ref 22, .ref 23, .ref 24, .ref 25, .null, .null, .null, .null, .int (f_maxBlocks ob0), .int (f_maxSteps ob0), .int (f_n ob0), .int (f_arranged ob0), .int (f_outCount ob0), .int (f_steps ob0), .int (f_status ob0), .int (f_edgeN ob0)], .inr (.inl (.int, (List.replicate 16 0))), .inr (.inl (.int, (List.replicate 16 0))), .inr (.inl (.int, (List.replicate 16 0))), .inr (.inl (.int, (List.replicate 16 0))), .inr (.inl (.int, (List.replicate 16 0))), .inr (.inl (.int, (List.replicate 16 0))), .inr (.inl (.int, (List.replicate 16 0))), .inr (.inl (.int, (List.replicate 16 0))), .inr (.inl (.int, (List.replicate 16 0))), .inr (.inl (.int, (List.replicate 16 0))), .inr (.inl (.int, (List.replicate 4 0))), .inr (.inl (.int, (List.replicate 16 0))), .inr (.inl (.int, (List.replicate 32 0))), .inr (.inl (.int, (List.replicate 32 0))), .inr (.inl (.int, (List.replicate 16 0))), .inr (.inl (.int, (List.replicate 16 0))), .inr (.inl (.int, (List.replicate 16 0))), .inr (.inl (.int, (List.replicate 16 0))), .inr (.inl (.int, (List.replicate 16 0))), .inr (.inl (.int, (List.replicate 16 0))), .inr (.inl (.int, (List.replicate 16 0))), .inr (.inl (.int, (List.replicate 16 0))), .inr (.inl (.int, (List.replicate 16 0))), .inr (.inl (.int, (List.replicate 16 0)))])) rfl ?_
 refine zS Ad W 3 (st' := (200, [vR 1, vI x1, vI x2, none, none], [.ref 26, .ref 1], [.inr (.inl (.int, s)), .inl [.ref 2, .ref 3, .ref 4, .ref 5, .ref 6, .ref 7, .ref 8, .ref 9, .ref 10, .ref 11, .ref 12, .ref 13, .ref 14, .ref 15, .ref 16, .ref 17, .ref 18, .ref 19, .ref 20, .ref 21, .ref 22, .ref 23, .ref 24, .ref 25, .null, .null, .null, .null, .int (f_maxBlocks ob0), .int (f_maxSteps ob0), .int (f_n ob0), .int (f_arranged ob0), .int (f_outCount ob0), .int (f_steps ob0), .int (f_status ob0), .int (f_edgeN ob0)], .inr (.inl (.int, (List.replicate 16 0))), .inr (.inl (.int, (List.replicate 16 0))), .inr (.inl (.int, (List.replicate 16 0))), .inr (.inl (.int, (List.replicate 16 0))), .inr (.inl (.int, (List.replicate 16 0))), .inr (.inl (.int, (List.replicate 16 0))), .inr (.inl (.int, (List.replicate 16 0))), .inr (.inl (.int, (List.replicate 16 0))), .inr (.inl (.int, (List.replicate 16 0))), .inr (.inl (.int, (List.replicate 16 0))), .inr (.inl (.int, (List.replicate 4 0))), .inr (.inl (.int, (List.replicate 16 0))), .inr (.inl (.int, (List.replicate 32 0))), .inr (.inl (.int, (List.replicate 32 0))), .inr (.inl (.int, (List.replicate 16 0))), .inr (.inl (.int, (List.replicate 16 0))), .inr (.inl (.int, (List.replicate 16 0))), .inr (.inl (.int, (List.replicate 16 0))), .inr (.inl (.int, (List.replicate 16 0))), .inr (.inl (.int, (List.replicate 16 0))), .inr (.inl (.int, (List.replicate 16 0))), .inr (.inl (.int, (List.replicate 16 0))), .inr (.inl (.int, (List.replicate 16 0))), .inr (.inl (.int, (List.replicate 16 0))), .inr (.inl (.int, (List.replicate 16 0)))])) rfl ?_
 refine zS Ad W 1 (st' := (203, [vR 1, vI x1, vI x2, none, none], [], [.inr (.inl (.int, s)), .inl [.ref 2, .ref 3, .ref 4, .ref 5, .ref 6, .ref 7, .ref 8, .ref 9, .ref 10, .ref 11, .ref 12, .ref 13, .ref 14, .ref 15, .ref 16, .ref 17, .ref 18, .ref 19, .ref 20, .ref 21, .ref 22, .ref 23, .ref 24, .ref 25, .ref 26, .null, .null, .null, .int (f_maxBlocks ob0), .int (f_maxSteps ob0), .int (f_n ob0), .int (f_arranged ob0), .int (f_outCount ob0), .int (f_steps ob0), .int (f_status ob0), .int (f_edgeN ob0)], .inr (.inl (.int, (List.replicate 16 0))), .inr (.inl (.int, (List.replicate 16 0))), .inr (.inl (.int, (List.replicate 16 0))), .inr (.inl (.int, (List.replicate 16 0))), .inr (.inl (.int, (List.replicate 16 0))), .inr (.inl (.int, (List.replicate 16 0))), .inr (.inl (.int, (List.replicate 16 0))), .inr (.inl (.int, (List.replicate 16 0))), .inr (.inl (.int, (List.replicate 16 0))), .inr (.inl (.int, (List.replicate 16 0))), .inr (.inl (.int, (List.replicate 4 0))), .inr (.inl (.int, (List.replicate 16 0))), .inr (.inl (.int, (List.replicate 32 0))), .inr (.inl (.int, (List.replicate 32 0))), .inr (.inl (.int, (List.replicate 16 0))), .inr (.inl (.int, (List.replicate 16 0))), .inr (.inl (.int, (List.replicate 16 0))), .inr (.inl (.int, (List.replicate 16 0))), .inr (.inl (.int, (List.replicate 16 0))), .inr (.inl (.int, (List.replicate 16 0))), .inr (.inl (.int, (List.replicate 16 0))), .inr (.inl (.int, (List.replicate 16 0))), .inr (.inl (.int, (List.replicate 16 0))), .inr (.inl (.int, (List.replicate 16 0))), .inr (.inl (.int, (List.replicate 16 0)))])) rfl ?_
 refine zS Ad W 3 (st' := (208, [vR 1, vI x1, vI x2, none, none], [.ref 27, .ref 1], [.inr (.inl (.int, s)), .inl [.ref 2, .ref 3, .ref 4, .ref 5, .ref 6, .ref 7, .ref 8, .ref 9, .ref 10, .ref 11, .ref 12, .ref 13, .ref 14, .ref 15, .ref 16, .ref 17, .ref 18, .ref 19, .ref 20, .ref 21, .ref 22, .ref 23, .ref 24, .ref 25, .ref 26, .null, .null, .null, .int (f_maxBlocks ob0), .int (f_maxSteps ob0), .int (f_n ob0), .int (f_arranged ob0), .int (f_outCount ob0), .int (f_steps ob0), .int (f_status ob0), .int (f_edgeN ob0)], .inr (.inl (.int, (List.replicate 16 0))), .inr (.inl (.int, (List.replicate 16 0))), .inr (.inl (.int, (List.replicate 16 0))), .inr (.inl (.int, (List.replicate 16 0))), .inr (.inl (.int, (List.replicate 16 0))), .inr (.inl (.int, (List.replicate 16 0))), .inr (.inl (.int, (List.replicate 16 0))), .inr (.inl (.int, (List.replicate 16 0))), .inr (.inl (.int, (List.replicate 16 0))), .inr (.inl (.int, (List.replicate 16 0))), .inr (.inl (.int, (List.replicate 4 0))), .inr (.inl (.int, (List.replicate 16 0))), .inr (.inl (.int, (List.replicate 32 0))), .inr (.inl (.int, (List.replicate 32 0))), .inr (.inl (.int, (List.replicate 16 0))), .inr (.inl (.int, (List.replicate 16 0))), .inr (.inl (.int, (List.replicate 16 0))), .inr (.inl (.int, (List.replicate 16 0))), .inr (.inl (.int, (List.replicate 16 0))), .inr (.inl (.int, (List.replicate 16 0))), .inr (.inl (.int, (List.replicate 16 0))), .inr (.inl (.int, (List.replicate 16 0))), .inr (.inl (.int, (List.replicate 16 0))), .inr (.inl (.int, (List.replicate 16 0))), .inr (.inl (.int, (List.replicate 16 0))), .inr (.inl (.int, (List.replicate 16 0)))])) rfl ?_
 refine zS Ad W 1 (st' := (211, [vR 1, vI x1, vI x2, none, none], [], [.inr (.inl (.int, s)), .inl [.ref 2, .ref 3, .ref 4, .ref 5, .ref 6, .ref 7, .ref 8, .ref 9, .ref 10, .ref 11, .ref 12, .ref 13, .ref 14, .ref 15, .ref 16, .ref 17, .ref 18, .ref 19, .ref 20, .ref 21, .ref 22, .ref 23, .ref 24, .ref 25, .ref 26, .ref 27, .null, .null, .int (f_maxBlocks ob0), .int (f_maxSteps ob0), .int (f_n ob0), .int (f_arranged ob0), .int (f_outCount ob0), .int (f_steps ob0), .int (f_status ob0), .int (f_edgeN ob0)], .inr (.inl (.int, (List.replicate 16 0))), .inr (.inl (.int, (List.replicate 16 0))), .inr (.inl (.int, (List.replicate 16 0))), .inr (.inl (.int, (List.replicate 16 0))), .inr (.inl (.int, (List.replicate 16 0))), .inr (.inl (.int, (List.replicate 16 0))), .inr (.inl (.int, (List.replicate 16 0))), .inr (.inl (.int, (List.replicate 16 0))), .inr (.inl (.int, (List.replicate 16 0))), .inr (.inl (.int, (List.replicate 16 0))), .inr (.inl (.int, (List.replicate 4 0))), .inr (.inl (.int, (List.replicate 16 0))), .inr (.inl (.int, (List.replicate 32 0))), .inr (.inl (.int, (List.replicate 32 0))), .inr (.inl (.int, (List.replicate 16 0))), .inr (.inl (.int, (List.replicate 16 0))), .inr (.inl (.int, (List.replicate 16 0))), .inr (.inl (.int, (List.replicate 16 0))), .inr (.inl (.int, (List.replicate 16 0))), .inr (.inl (.int, (List.replicate 16 0))), .inr (.inl (.int, (List.replicate 16 0))), .inr (.inl (.int, (List.replicate 16 0))), .inr (.inl (.int, (List.replicate 16 0))), .inr (.inl (.int, (List.replicate 16 0))), .inr (.inl (.int, (List.replicate 16 0))), .inr (.inl (.int, (List.replicate 16 0)))])) rfl ?_
 refine zS Ad W 3 (st' := (216, [vR 1, vI x1, vI x2, none, none], [.ref 28, .ref 1], [.inr (.inl (.int, s)), .inl [.ref 2, .ref 3, .ref 4, .ref 5, .ref 6, .ref 7, .ref 8, .ref 9, .ref 10, .ref 11, .ref 12, .ref 13, .ref 14, .ref 15, .ref 16, .ref 17, .ref 18, .ref 19, .ref 20, .ref 21, .ref 22, .ref 23, .ref 24, .ref 25, .ref 26, .ref 27, .null, .null, .int (f_maxBlocks ob0), .int (f_maxSteps ob0), .int (f_n ob0), .int (f_arranged ob0), .int (f_outCount ob0), .int (f_steps ob0), .int (f_status ob0), .int (f_edgeN ob0)], .inr (.inl (.int, (List.replicate 16 0))), .inr (.inl (.int, (List.replicate 16 0))), .inr (.inl (.int, (List.replicate 16 0))), .inr (.inl (.int, (List.replicate 16 0))), .inr (.inl (.int, (List.replicate 16 0))), .inr (.inl (.int, (List.replicate 16 0))), .inr (.inl (.int, (List.replicate 16 0))), .inr (.inl (.int, (List.replicate 16 0))), .inr (.inl (.int, (List.replicate 16 0))), .inr (.inl (.int, (List.replicate 16 0))), .inr (.inl (.int, (List.replicate 4 0))), .inr (.inl (.int, (List.replicate 16 0))), .inr (.inl (.int, (List.replicate 32 0))), .inr (.inl (.int, (List.replicate 32 0))), .inr (.inl (.int, (List.replicate 16 0))), .inr (.inl (.int, (List.replicate 16 0))), .inr (.inl (.int, (List.replicate 16 0))), .inr (.inl (.int, (List.replicate 16 0))), .inr (.inl (.int, (List.replicate 16 0))), .inr (.inl (.int, (List.replicate 16 0))), .inr (.inl (.int, (List.replicate 16 0))), .inr (.inl (.int, (List.replicate 16 0))), .inr (.inl (.int, (List.replicate 16 0))), .inr (.inl (.int, (List.replicate 16 0))), .inr (.inl (.int, (List.replicate 16 0))), .inr (.inl (.int, (List.replicate 16 0))), .inr (.inl (.int, (List.replicate 16 0)))])) rfl ?_
 refine zS Ad W 1 (st' := (219, [vR 1, vI x1, vI x2, none, none], [], [.inr (.inl (.int, s)), .inl [.ref 2, .ref 3, .ref 4, .ref 5, .ref 6, .ref 7, .ref 8, .ref 9, .ref 10, .ref 11, .ref 12, .ref 13, .ref 14, .ref 15, .ref 16, .ref 17, .ref 18, .ref 19, .ref 20, .ref 21, .ref 22, .ref 23, .ref 24, .ref 25, .ref 26, .ref 27, .ref 28, .null, .int (f_maxBlocks ob0), .int (f_maxSteps ob0), .int (f_n ob0), .int (f_arranged ob0), .int (f_outCount ob0), .int (f_steps ob0), .int (f_status ob0), .int (f_edgeN ob0)], .inr (.inl (.int, (List.replicate 16 0))), .inr (.inl (.int, (List.replicate 16 0))), .inr (.inl (.int, (List.replicate 16 0))), .inr (.inl (.int, (List.replicate 16 0))), .inr (.inl (.int, (List.replicate 16 0))), .inr (.inl (.int, (List.replicate 16 0))), .inr (.inl (.int, (List.replicate 16 0))), .inr (.inl (.int, (List.replicate 16 0))), .inr (.inl (.int, (List.replicate 16 0))), .inr (.inl (.int, (List.replicate 16 0))), .inr (.inl (.int, (List.replicate 4 0))), .inr (.inl (.int, (List.replicate 16 0))), .inr (.inl (.int, (List.replicate 32 0))), .inr (.inl (.int, (List.replicate 32 0))), .inr (.inl (.int, (List.replicate 16 0))), .inr (.inl (.int, (List.replicate 16 0))), .inr (.inl (.int, (List.replicate 16 0))), .inr (.inl (.int, (List.replicate 16 0))), .inr (.inl (.int, (List.replicate 16 0))), .inr (.inl (.int, (List.replicate 16 0))), .inr (.inl (.int, (List.replicate 16 0))), .inr (.inl (.int, (List.replicate 16 0))), .inr (.inl (.int, (List.replicate 16 0))), .inr (.inl (.int, (List.replicate 16 0))), .inr (.inl (.int, (List.replicate 16 0))), .inr (.inl (.int, (List.replicate 16 0))), .inr (.inl (.int, (List.replicate 16 0)))])) rfl ?_
 refine zS Ad W 3 (st' := (224, [vR 1, vI x1, vI x2, none, none], [.ref 29, .ref 1], [.inr (.inl (.int, s)), .inl [.ref 2, .ref 3, .ref 4, .ref 5, .ref 6, .ref 7, .ref 8, .ref 9, .ref 10, .ref 11, .ref 12, .ref 13, .ref 14, .ref 15, .ref 16, .ref 17, .ref 18, .ref 19, .ref 20, .ref 21, .ref 22, .ref 23, .ref 24, .ref 25, .ref 26, .ref 27, .ref 28, .null, .int (f_maxBlocks ob0), .int (f_maxSteps ob0), .int (f_n ob0), .int (f_arranged ob0), .int (f_outCount ob0), .int (f_steps ob0), .int (f_status ob0), .int (f_edgeN ob0)], .inr (.inl (.int, (List.replicate 16 0))), .inr (.inl (.int, (List.replicate 16 0))), .inr (.inl (.int, (List.replicate 16 0))), .inr (.inl (.int, (List.replicate 16 0))), .inr (.inl (.int, (List.replicate 16 0))), .inr (.inl (.int, (List.replicate 16 0))), .inr (.inl (.int, (List.replicate 16 0))), .inr (.inl (.int, (List.replicate 16 0))), .inr (.inl (.int, (List.replicate 16 0))), .inr (.inl (.int, (List.replicate 16 0))), .inr (.inl (.int, (List.replicate 4 0))), .inr (.inl (.int, (List.replicate 16 0))), .inr (.inl (.int, (List.replicate 32 0))), .inr (.inl (.int, (List.replicate 32 0))), .inr (.inl (.int, (List.replicate 16 0))), .inr (.inl (.int, (List.replicate 16 0))), .inr (.inl (.int, (List.replicate 16 0))), .inr (.inl (.int, (List.replicate 16 0))), .inr (.inl (.int, (List.replicate 16 0))), .inr (.inl (.int, (List.replicate 16 0))), .inr (.inl (.int, (List.replicate 16 0))), .inr (.inl (.int, (List.replicate 16 0))), .inr (.inl (.int, (List.replicate 16 0))), .inr (.inl (.int, (List.replicate 16 0))), .inr (.inl (.int, (List.replicate 16 0))), .inr (.inl (.int, (List.replicate 16 0))), .inr (.inl (.int, (List.replicate 16 0))), .inr (.inl (.int, (List.replicate 16 0)))])) rfl ?_
 refine zS Ad W 1 (st' := (227, [vR 1, vI x1, vI x2, none, none], [], (H0x0 s ob0 (List.replicate 16 0) (List.replicate 16 0) (List.replicate 16 0) (List.replicate 16 0) (List.replicate 16 0) (List.replicate 16 0) (List.replicate 16 0) (List.replicate 16 0) (List.replicate 16 0) (List.replicate 16 0) (List.replicate 4 0) (List.replicate 16 0) (List.replicate 32 0) (List.replicate 32 0) (List.replicate 16 0) (List.replicate 16 0) (List.replicate 16 0) (List.replicate 16 0) (List.replicate 16 0) (List.replicate 16 0) (List.replicate 16 0) (List.replicate 16 0) (List.replicate 16 0) (List.replicate 16 0) (List.replicate 16 0) (List.replicate 16 0) (List.replicate 16 0) (List.replicate 16 0)))) rfl ?_
 refine zS Ad W 4 (st' := (231, [vR 1, vI x1, vI x2, vI x1, none], [.int (2:Int32), .int x1], (H0x0 s ob0 (List.replicate 16 0) (List.replicate 16 0) (List.replicate 16 0) (List.replicate 16 0) (List.replicate 16 0) (List.replicate 16 0) (List.replicate 16 0) (List.replicate 16 0) (List.replicate 16 0) (List.replicate 16 0) (List.replicate 4 0) (List.replicate 16 0) (List.replicate 32 0) (List.replicate 32 0) (List.replicate 16 0) (List.replicate 16 0) (List.replicate 16 0) (List.replicate 16 0) (List.replicate 16 0) (List.replicate 16 0) (List.replicate 16 0) (List.replicate 16 0) (List.replicate 16 0) (List.replicate 16 0) (List.replicate 16 0) (List.replicate 16 0) (List.replicate 16 0) (List.replicate 16 0)))) rfl ?_
 have K2 : ∀ z1 : Int32, z1 = (if x1 < (2:Int32) then (2:Int32) else x1) → QTri l Z n0 ad 1 (236, [vR 1, none, vI x2, vI z1, none], [], (H0x0 s ob0 (List.replicate 16 0) (List.replicate 16 0) (List.replicate 16 0) (List.replicate 16 0) (List.replicate 16 0) (List.replicate 16 0) (List.replicate 16 0) (List.replicate 16 0) (List.replicate 16 0) (List.replicate 16 0) (List.replicate 4 0) (List.replicate 16 0) (List.replicate 32 0) (List.replicate 32 0) (List.replicate 16 0) (List.replicate 16 0) (List.replicate 16 0) (List.replicate 16 0) (List.replicate 16 0) (List.replicate 16 0) (List.replicate 16 0) (List.replicate 16 0) (List.replicate 16 0) (List.replicate 16 0) (List.replicate 16 0) (List.replicate 16 0) (List.replicate 16 0) (List.replicate 16 0))) (none : Option Value) (H0 s r) := by
  intro z1 ez1
  subst ez1
  refine zS Ad W 2 (st' := (239, [vR 1, none, vI x2, vI (if x1 < (2:Int32) then (2:Int32) else x1), none], [.int (16:Int32), .int (if x1 < (2:Int32) then (2:Int32) else x1)], (H0x0 s ob0 (List.replicate 16 0) (List.replicate 16 0) (List.replicate 16 0) (List.replicate 16 0) (List.replicate 16 0) (List.replicate 16 0) (List.replicate 16 0) (List.replicate 16 0) (List.replicate 16 0) (List.replicate 16 0) (List.replicate 4 0) (List.replicate 16 0) (List.replicate 32 0) (List.replicate 32 0) (List.replicate 16 0) (List.replicate 16 0) (List.replicate 16 0) (List.replicate 16 0) (List.replicate 16 0) (List.replicate 16 0) (List.replicate 16 0) (List.replicate 16 0) (List.replicate 16 0) (List.replicate 16 0) (List.replicate 16 0) (List.replicate 16 0) (List.replicate 16 0) (List.replicate 16 0)))) rfl ?_
  have K5 : ∀ z4 : Int32, z4 = (if (16:Int32) < (if x1 < (2:Int32) then (2:Int32) else x1) then (16:Int32) else (if x1 < (2:Int32) then (2:Int32) else x1)) → QTri l Z n0 ad 1 (245, [vR 1, none, vI x2, vI z4, none], [], (H0x0 s ob0 (List.replicate 16 0) (List.replicate 16 0) (List.replicate 16 0) (List.replicate 16 0) (List.replicate 16 0) (List.replicate 16 0) (List.replicate 16 0) (List.replicate 16 0) (List.replicate 16 0) (List.replicate 16 0) (List.replicate 4 0) (List.replicate 16 0) (List.replicate 32 0) (List.replicate 32 0) (List.replicate 16 0) (List.replicate 16 0) (List.replicate 16 0) (List.replicate 16 0) (List.replicate 16 0) (List.replicate 16 0) (List.replicate 16 0) (List.replicate 16 0) (List.replicate 16 0) (List.replicate 16 0) (List.replicate 16 0) (List.replicate 16 0) (List.replicate 16 0) (List.replicate 16 0))) (none : Option Value) (H0 s r) := by
   intro z4 ez4
   subst ez4
   refine zS Ad W 4 (st' := (252, [vR 1, none, vI x2, vI (if (16:Int32) < (if x1 < (2:Int32) then (2:Int32) else x1) then (16:Int32) else (if x1 < (2:Int32) then (2:Int32) else x1)), vI x2], [.int (16:Int32), .int x2], (H0x0 s ob0 (List.replicate 16 0) (List.replicate 16 0) (List.replicate 16 0) (List.replicate 16 0) (List.replicate 16 0) (List.replicate 16 0) (List.replicate 16 0) (List.replicate 16 0) (List.replicate 16 0) (List.replicate 16 0) (List.replicate 4 0) (List.replicate 16 0) (List.replicate 32 0) (List.replicate 32 0) (List.replicate 16 0) (List.replicate 16 0) (List.replicate 16 0) (List.replicate 16 0) (List.replicate 16 0) (List.replicate 16 0) (List.replicate 16 0) (List.replicate 16 0) (List.replicate 16 0) (List.replicate 16 0) (List.replicate 16 0) (List.replicate 16 0) (List.replicate 16 0) (List.replicate 16 0)))) rfl ?_
   have K8 : ∀ z7 : Int32, z7 = (if x2 < (16:Int32) then (16:Int32) else x2) → QTri l Z n0 ad 1 (259, [vR 1, none, none, vI (if (16:Int32) < (if x1 < (2:Int32) then (2:Int32) else x1) then (16:Int32) else (if x1 < (2:Int32) then (2:Int32) else x1)), vI z7], [], (H0x0 s ob0 (List.replicate 16 0) (List.replicate 16 0) (List.replicate 16 0) (List.replicate 16 0) (List.replicate 16 0) (List.replicate 16 0) (List.replicate 16 0) (List.replicate 16 0) (List.replicate 16 0) (List.replicate 16 0) (List.replicate 4 0) (List.replicate 16 0) (List.replicate 32 0) (List.replicate 32 0) (List.replicate 16 0) (List.replicate 16 0) (List.replicate 16 0) (List.replicate 16 0) (List.replicate 16 0) (List.replicate 16 0) (List.replicate 16 0) (List.replicate 16 0) (List.replicate 16 0) (List.replicate 16 0) (List.replicate 16 0) (List.replicate 16 0) (List.replicate 16 0) (List.replicate 16 0))) (none : Option Value) (H0 s r) := by
    intro z7 ez7
    subst ez7
    refine zS Ad W 2 (st' := (264, [vR 1, none, none, vI (if (16:Int32) < (if x1 < (2:Int32) then (2:Int32) else x1) then (16:Int32) else (if x1 < (2:Int32) then (2:Int32) else x1)), vI (if x2 < (16:Int32) then (16:Int32) else x2)], [.int (1024:Int32), .int (if x2 < (16:Int32) then (16:Int32) else x2)], (H0x0 s ob0 (List.replicate 16 0) (List.replicate 16 0) (List.replicate 16 0) (List.replicate 16 0) (List.replicate 16 0) (List.replicate 16 0) (List.replicate 16 0) (List.replicate 16 0) (List.replicate 16 0) (List.replicate 16 0) (List.replicate 4 0) (List.replicate 16 0) (List.replicate 32 0) (List.replicate 32 0) (List.replicate 16 0) (List.replicate 16 0) (List.replicate 16 0) (List.replicate 16 0) (List.replicate 16 0) (List.replicate 16 0) (List.replicate 16 0) (List.replicate 16 0) (List.replicate 16 0) (List.replicate 16 0) (List.replicate 16 0) (List.replicate 16 0) (List.replicate 16 0) (List.replicate 16 0)))) rfl ?_
    have K11 : ∀ z10 : Int32, z10 = (if (1024:Int32) < (if x2 < (16:Int32) then (16:Int32) else x2) then (1024:Int32) else (if x2 < (16:Int32) then (16:Int32) else x2)) → QTri l Z n0 ad 1 (272, [vR 1, none, none, vI (if (16:Int32) < (if x1 < (2:Int32) then (2:Int32) else x1) then (16:Int32) else (if x1 < (2:Int32) then (2:Int32) else x1)), vI z10], [], (H0x0 s ob0 (List.replicate 16 0) (List.replicate 16 0) (List.replicate 16 0) (List.replicate 16 0) (List.replicate 16 0) (List.replicate 16 0) (List.replicate 16 0) (List.replicate 16 0) (List.replicate 16 0) (List.replicate 16 0) (List.replicate 4 0) (List.replicate 16 0) (List.replicate 32 0) (List.replicate 32 0) (List.replicate 16 0) (List.replicate 16 0) (List.replicate 16 0) (List.replicate 16 0) (List.replicate 16 0) (List.replicate 16 0) (List.replicate 16 0) (List.replicate 16 0) (List.replicate 16 0) (List.replicate 16 0) (List.replicate 16 0) (List.replicate 16 0) (List.replicate 16 0) (List.replicate 16 0))) (none : Option Value) (H0 s r) := by
     intro z10 ez10
     subst ez10
     refine zS Ad W 3 (st' := (277, [vR 1, none, none, vI (if (16:Int32) < (if x1 < (2:Int32) then (2:Int32) else x1) then (16:Int32) else (if x1 < (2:Int32) then (2:Int32) else x1)), vI (if (1024:Int32) < (if x2 < (16:Int32) then (16:Int32) else x2) then (1024:Int32) else (if x2 < (16:Int32) then (16:Int32) else x2))], [], (H0x1 s ob0 (List.replicate 16 0) (List.replicate 16 0) (List.replicate 16 0) (List.replicate 16 0) (List.replicate 16 0) (List.replicate 16 0) (List.replicate 16 0) (List.replicate 16 0) (List.replicate 16 0) (List.replicate 16 0) (List.replicate 4 0) (List.replicate 16 0) (List.replicate 32 0) (List.replicate 32 0) (List.replicate 16 0) (List.replicate 16 0) (List.replicate 16 0) (List.replicate 16 0) (List.replicate 16 0) (List.replicate 16 0) (List.replicate 16 0) (List.replicate 16 0) (List.replicate 16 0) (List.replicate 16 0) (List.replicate 16 0) (List.replicate 16 0) (List.replicate 16 0) (List.replicate 16 0) (if (16:Int32) < (if x1 < (2:Int32) then (2:Int32) else x1) then (16:Int32) else (if x1 < (2:Int32) then (2:Int32) else x1))))) rfl ?_
     refine zS Ad W 3 (st' := (283, [vR 1, none, none, vI (if (16:Int32) < (if x1 < (2:Int32) then (2:Int32) else x1) then (16:Int32) else (if x1 < (2:Int32) then (2:Int32) else x1)), vI (if (1024:Int32) < (if x2 < (16:Int32) then (16:Int32) else x2) then (1024:Int32) else (if x2 < (16:Int32) then (16:Int32) else x2))], [], (H0x2 s ob0 (List.replicate 16 0) (List.replicate 16 0) (List.replicate 16 0) (List.replicate 16 0) (List.replicate 16 0) (List.replicate 16 0) (List.replicate 16 0) (List.replicate 16 0) (List.replicate 16 0) (List.replicate 16 0) (List.replicate 4 0) (List.replicate 16 0) (List.replicate 32 0) (List.replicate 32 0) (List.replicate 16 0) (List.replicate 16 0) (List.replicate 16 0) (List.replicate 16 0) (List.replicate 16 0) (List.replicate 16 0) (List.replicate 16 0) (List.replicate 16 0) (List.replicate 16 0) (List.replicate 16 0) (List.replicate 16 0) (List.replicate 16 0) (List.replicate 16 0) (List.replicate 16 0) (if (16:Int32) < (if x1 < (2:Int32) then (2:Int32) else x1) then (16:Int32) else (if x1 < (2:Int32) then (2:Int32) else x1)) (if (1024:Int32) < (if x2 < (16:Int32) then (16:Int32) else x2) then (1024:Int32) else (if x2 < (16:Int32) then (16:Int32) else x2))))) rfl ?_
     refine zS Ad W 3 (st' := (288, [vR 1, none, none, vI (if (16:Int32) < (if x1 < (2:Int32) then (2:Int32) else x1) then (16:Int32) else (if x1 < (2:Int32) then (2:Int32) else x1)), vI (if (1024:Int32) < (if x2 < (16:Int32) then (16:Int32) else x2) then (1024:Int32) else (if x2 < (16:Int32) then (16:Int32) else x2))], [], (H0x3 s ob0 (List.replicate 16 0) (List.replicate 16 0) (List.replicate 16 0) (List.replicate 16 0) (List.replicate 16 0) (List.replicate 16 0) (List.replicate 16 0) (List.replicate 16 0) (List.replicate 16 0) (List.replicate 16 0) (List.replicate 4 0) (List.replicate 16 0) (List.replicate 32 0) (List.replicate 32 0) (List.replicate 16 0) (List.replicate 16 0) (List.replicate 16 0) (List.replicate 16 0) (List.replicate 16 0) (List.replicate 16 0) (List.replicate 16 0) (List.replicate 16 0) (List.replicate 16 0) (List.replicate 16 0) (List.replicate 16 0) (List.replicate 16 0) (List.replicate 16 0) (List.replicate 16 0) (if (16:Int32) < (if x1 < (2:Int32) then (2:Int32) else x1) then (16:Int32) else (if x1 < (2:Int32) then (2:Int32) else x1)) (if (1024:Int32) < (if x2 < (16:Int32) then (16:Int32) else x2) then (1024:Int32) else (if x2 < (16:Int32) then (16:Int32) else x2)) (0:Int32)))) rfl ?_
     refine zS Ad W 3 (st' := (293, [vR 1, none, none, vI (if (16:Int32) < (if x1 < (2:Int32) then (2:Int32) else x1) then (16:Int32) else (if x1 < (2:Int32) then (2:Int32) else x1)), vI (if (1024:Int32) < (if x2 < (16:Int32) then (16:Int32) else x2) then (1024:Int32) else (if x2 < (16:Int32) then (16:Int32) else x2))], [], (H0x4 s ob0 (List.replicate 16 0) (List.replicate 16 0) (List.replicate 16 0) (List.replicate 16 0) (List.replicate 16 0) (List.replicate 16 0) (List.replicate 16 0) (List.replicate 16 0) (List.replicate 16 0) (List.replicate 16 0) (List.replicate 4 0) (List.replicate 16 0) (List.replicate 32 0) (List.replicate 32 0) (List.replicate 16 0) (List.replicate 16 0) (List.replicate 16 0) (List.replicate 16 0) (List.replicate 16 0) (List.replicate 16 0) (List.replicate 16 0) (List.replicate 16 0) (List.replicate 16 0) (List.replicate 16 0) (List.replicate 16 0) (List.replicate 16 0) (List.replicate 16 0) (List.replicate 16 0) (if (16:Int32) < (if x1 < (2:Int32) then (2:Int32) else x1) then (16:Int32) else (if x1 < (2:Int32) then (2:Int32) else x1)) (if (1024:Int32) < (if x2 < (16:Int32) then (16:Int32) else x2) then (1024:Int32) else (if x2 < (16:Int32) then (16:Int32) else x2)) (0:Int32) (0:Int32)))) rfl ?_
     refine zS Ad W 3 (st' := (298, [vR 1, none, none, vI (if (16:Int32) < (if x1 < (2:Int32) then (2:Int32) else x1) then (16:Int32) else (if x1 < (2:Int32) then (2:Int32) else x1)), vI (if (1024:Int32) < (if x2 < (16:Int32) then (16:Int32) else x2) then (1024:Int32) else (if x2 < (16:Int32) then (16:Int32) else x2))], [], (H0x5 s ob0 (List.replicate 16 0) (List.replicate 16 0) (List.replicate 16 0) (List.replicate 16 0) (List.replicate 16 0) (List.replicate 16 0) (List.replicate 16 0) (List.replicate 16 0) (List.replicate 16 0) (List.replicate 16 0) (List.replicate 4 0) (List.replicate 16 0) (List.replicate 32 0) (List.replicate 32 0) (List.replicate 16 0) (List.replicate 16 0) (List.replicate 16 0) (List.replicate 16 0) (List.replicate 16 0) (List.replicate 16 0) (List.replicate 16 0) (List.replicate 16 0) (List.replicate 16 0) (List.replicate 16 0) (List.replicate 16 0) (List.replicate 16 0) (List.replicate 16 0) (List.replicate 16 0) (if (16:Int32) < (if x1 < (2:Int32) then (2:Int32) else x1) then (16:Int32) else (if x1 < (2:Int32) then (2:Int32) else x1)) (if (1024:Int32) < (if x2 < (16:Int32) then (16:Int32) else x2) then (1024:Int32) else (if x2 < (16:Int32) then (16:Int32) else x2)) (0:Int32) (0:Int32) (0:Int32)))) rfl ?_
     refine zS Ad W 3 (st' := (303, [vR 1, none, none, vI (if (16:Int32) < (if x1 < (2:Int32) then (2:Int32) else x1) then (16:Int32) else (if x1 < (2:Int32) then (2:Int32) else x1)), vI (if (1024:Int32) < (if x2 < (16:Int32) then (16:Int32) else x2) then (1024:Int32) else (if x2 < (16:Int32) then (16:Int32) else x2))], [], (H0x6 s ob0 (List.replicate 16 0) (List.replicate 16 0) (List.replicate 16 0) (List.replicate 16 0) (List.replicate 16 0) (List.replicate 16 0) (List.replicate 16 0) (List.replicate 16 0) (List.replicate 16 0) (List.replicate 16 0) (List.replicate 4 0) (List.replicate 16 0) (List.replicate 32 0) (List.replicate 32 0) (List.replicate 16 0) (List.replicate 16 0) (List.replicate 16 0) (List.replicate 16 0) (List.replicate 16 0) (List.replicate 16 0) (List.replicate 16 0) (List.replicate 16 0) (List.replicate 16 0) (List.replicate 16 0) (List.replicate 16 0) (List.replicate 16 0) (List.replicate 16 0) (List.replicate 16 0) (if (16:Int32) < (if x1 < (2:Int32) then (2:Int32) else x1) then (16:Int32) else (if x1 < (2:Int32) then (2:Int32) else x1)) (if (1024:Int32) < (if x2 < (16:Int32) then (16:Int32) else x2) then (1024:Int32) else (if x2 < (16:Int32) then (16:Int32) else x2)) (0:Int32) (0:Int32) (0:Int32) (0:Int32)))) rfl ?_
     refine zS Ad W 3 (st' := (308, [vR 1, none, none, vI (if (16:Int32) < (if x1 < (2:Int32) then (2:Int32) else x1) then (16:Int32) else (if x1 < (2:Int32) then (2:Int32) else x1)), vI (if (1024:Int32) < (if x2 < (16:Int32) then (16:Int32) else x2) then (1024:Int32) else (if x2 < (16:Int32) then (16:Int32) else x2))], [], (H0x7 s ob0 (List.replicate 16 0) (List.replicate 16 0) (List.replicate 16 0) (List.replicate 16 0) (List.replicate 16 0) (List.replicate 16 0) (List.replicate 16 0) (List.replicate 16 0) (List.replicate 16 0) (List.replicate 16 0) (List.replicate 4 0) (List.replicate 16 0) (List.replicate 32 0) (List.replicate 32 0) (List.replicate 16 0) (List.replicate 16 0) (List.replicate 16 0) (List.replicate 16 0) (List.replicate 16 0) (List.replicate 16 0) (List.replicate 16 0) (List.replicate 16 0) (List.replicate 16 0) (List.replicate 16 0) (List.replicate 16 0) (List.replicate 16 0) (List.replicate 16 0) (List.replicate 16 0) (if (16:Int32) < (if x1 < (2:Int32) then (2:Int32) else x1) then (16:Int32) else (if x1 < (2:Int32) then (2:Int32) else x1)) (if (1024:Int32) < (if x2 < (16:Int32) then (16:Int32) else x2) then (1024:Int32) else (if x2 < (16:Int32) then (16:Int32) else x2)) (0:Int32) (0:Int32) (0:Int32) (0:Int32) (0:Int32)))) rfl ?_
     have E13 : ((H0x7 s ob0 (List.replicate 16 0) (List.replicate 16 0) (List.replicate 16 0) (List.replicate 16 0) (List.replicate 16 0) (List.replicate 16 0) (List.replicate 16 0) (List.replicate 16 0) (List.replicate 16 0) (List.replicate 16 0) (List.replicate 4 0) (List.replicate 16 0) (List.replicate 32 0) (List.replicate 32 0) (List.replicate 16 0) (List.replicate 16 0) (List.replicate 16 0) (List.replicate 16 0) (List.replicate 16 0) (List.replicate 16 0) (List.replicate 16 0) (List.replicate 16 0) (List.replicate 16 0) (List.replicate 16 0) (List.replicate 16 0) (List.replicate 16 0) (List.replicate 16 0) (List.replicate 16 0) (if (16:Int32) < (if x1 < (2:Int32) then (2:Int32) else x1) then (16:Int32) else (if x1 < (2:Int32) then (2:Int32) else x1)) (if (1024:Int32) < (if x2 < (16:Int32) then (16:Int32) else x2) then (1024:Int32) else (if x2 < (16:Int32) then (16:Int32) else x2)) (0:Int32) (0:Int32) (0:Int32) (0:Int32) (0:Int32)) : QHeap) = (H0 s (s_status (s_steps (s_outCount (s_arranged (s_n (s_maxSteps (s_maxBlocks (s_cOther (s_cTaken (s_cTest (s_cKind (s_cImm (s_cS (s_cD (s_cOp (s_order (s_posOf (s_heat (s_chHead (s_chPrev (s_chNext (s_edgeW (s_edgeId (s_outs (s_regs (s_cnt1 (s_cnt0 (s_bT1 (s_bT0 (s_bTest (s_bTerm (s_bImm (s_bS (s_bD (s_bOp ob0 (List.replicate 16 0)) (List.replicate 16 0)) (List.replicate 16 0)) (List.replicate 16 0)) (List.replicate 16 0)) (List.replicate 16 0)) (List.replicate 16 0)) (List.replicate 16 0)) (List.replicate 16 0)) (List.replicate 16 0)) (List.replicate 4 0)) (List.replicate 16 0)) (List.replicate 32 0)) (List.replicate 32 0)) (List.replicate 16 0)) (List.replicate 16 0)) (List.replicate 16 0)) (List.replicate 16 0)) (List.replicate 16 0)) (List.replicate 16 0)) (List.replicate 16 0)) (List.replicate 16 0)) (List.replicate 16 0)) (List.replicate 16 0)) (List.replicate 16 0)) (List.replicate 16 0)) (List.replicate 16 0)) (List.replicate 16 0)) (if (16:Int32) < (if x1 < (2:Int32) then (2:Int32) else x1) then (16:Int32) else (if x1 < (2:Int32) then (2:Int32) else x1))) (if (1024:Int32) < (if x2 < (16:Int32) then (16:Int32) else x2) then (1024:Int32) else (if x2 < (16:Int32) then (16:Int32) else x2))) (0:Int32)) (0:Int32)) (0:Int32)) (0:Int32)) (0:Int32))) := by simp only [fs, H0, H0v, H0x7, s_bOp, s_bD, s_bS, s_bImm, s_bTerm, s_bTest, s_bT0, s_bT1, s_cnt0, s_cnt1, s_regs, s_outs, s_edgeId, s_edgeW, s_chNext, s_chPrev, s_chHead, s_heat, s_posOf, s_order, s_cOp, s_cD, s_cS, s_cImm, s_cKind, s_cTest, s_cTaken, s_cOther, s_maxBlocks, s_maxSteps, s_n, s_arranged, s_outCount, s_steps, s_status, ob0]
     rw [E13]
     obtain rfl := Option.some.inj h
     exact QTri.ret0 rfl rfl
    rcases em ((1024:Int32) < (if x2 < (16:Int32) then (16:Int32) else x2)) with hc12 | hc12
    ·refine zF Ad W (t := 272) (f := 267) rfl (XT.ii_le_f hc12) ?_
     refine zS Ad W 2 (st' := (272, [vR 1, none, none, vI (if (16:Int32) < (if x1 < (2:Int32) then (2:Int32) else x1) then (16:Int32) else (if x1 < (2:Int32) then (2:Int32) else x1)), vI (1024:Int32)], [], (H0x0 s ob0 (List.replicate 16 0) (List.replicate 16 0) (List.replicate 16 0) (List.replicate 16 0) (List.replicate 16 0) (List.replicate 16 0) (List.replicate 16 0) (List.replicate 16 0) (List.replicate 16 0) (List.replicate 16 0) (List.replicate 4 0) (List.replicate 16 0) (List.replicate 32 0) (List.replicate 32 0) (List.replicate 16 0) (List.replicate 16 0) (List.replicate 16 0) (List.replicate 16 0) (List.replicate 16 0) (List.replicate 16 0) (List.replicate 16 0) (List.replicate 16 0) (List.replicate 16 0) (List.replicate 16 0) (List.replicate 16 0) (List.replicate 16 0) (List.replicate 16 0) (List.replicate 16 0)))) rfl ?_
     exact zM [tt,ff,ff,tt,tt] (K11 _ (if_pos hc12).symm)
    ·refine zT Ad W (t := 272) (f := 267) rfl (XT.ii_le_t hc12) ?_
     exact zM [tt,ff,ff,tt,tt] (K11 _ (if_neg hc12).symm)
   rcases em (x2 < (16:Int32)) with hc9 | hc9
   ·refine zF Ad W (t := 259) (f := 255) rfl (XT.ii_ge_f hc9) ?_
    refine zS Ad W 2 (st' := (259, [vR 1, none, vI x2, vI (if (16:Int32) < (if x1 < (2:Int32) then (2:Int32) else x1) then (16:Int32) else (if x1 < (2:Int32) then (2:Int32) else x1)), vI (16:Int32)], [], (H0x0 s ob0 (List.replicate 16 0) (List.replicate 16 0) (List.replicate 16 0) (List.replicate 16 0) (List.replicate 16 0) (List.replicate 16 0) (List.replicate 16 0) (List.replicate 16 0) (List.replicate 16 0) (List.replicate 16 0) (List.replicate 4 0) (List.replicate 16 0) (List.replicate 32 0) (List.replicate 32 0) (List.replicate 16 0) (List.replicate 16 0) (List.replicate 16 0) (List.replicate 16 0) (List.replicate 16 0) (List.replicate 16 0) (List.replicate 16 0) (List.replicate 16 0) (List.replicate 16 0) (List.replicate 16 0) (List.replicate 16 0) (List.replicate 16 0) (List.replicate 16 0) (List.replicate 16 0)))) rfl ?_
    exact zM [tt,ff,ff,tt,tt] (K8 _ (if_pos hc9).symm)
   ·refine zT Ad W (t := 259) (f := 255) rfl (XT.ii_ge_t hc9) ?_
    exact zM [tt,ff,ff,tt,tt] (K8 _ (if_neg hc9).symm)
  rcases em ((16:Int32) < (if x1 < (2:Int32) then (2:Int32) else x1)) with hc6 | hc6
  ·refine zF Ad W (t := 245) (f := 242) rfl (XT.ii_le_f hc6) ?_
   refine zS Ad W 2 (st' := (245, [vR 1, none, vI x2, vI (16:Int32), none], [], (H0x0 s ob0 (List.replicate 16 0) (List.replicate 16 0) (List.replicate 16 0) (List.replicate 16 0) (List.replicate 16 0) (List.replicate 16 0) (List.replicate 16 0) (List.replicate 16 0) (List.replicate 16 0) (List.replicate 16 0) (List.replicate 4 0) (List.replicate 16 0) (List.replicate 32 0) (List.replicate 32 0) (List.replicate 16 0) (List.replicate 16 0) (List.replicate 16 0) (List.replicate 16 0) (List.replicate 16 0) (List.replicate 16 0) (List.replicate 16 0) (List.replicate 16 0) (List.replicate 16 0) (List.replicate 16 0) (List.replicate 16 0) (List.replicate 16 0) (List.replicate 16 0) (List.replicate 16 0)))) rfl ?_
   exact zM [tt,ff,tt,tt,ff] (K5 _ (if_pos hc6).symm)
  ·refine zT Ad W (t := 245) (f := 242) rfl (XT.ii_le_t hc6) ?_
   exact zM [tt,ff,tt,tt,ff] (K5 _ (if_neg hc6).symm)
 rcases em (x1 < (2:Int32)) with hc3 | hc3
 ·refine zF Ad W (t := 236) (f := 234) rfl (XT.ii_ge_f hc3) ?_
  refine zS Ad W 2 (st' := (236, [vR 1, vI x1, vI x2, vI (2:Int32), none], [], (H0x0 s ob0 (List.replicate 16 0) (List.replicate 16 0) (List.replicate 16 0) (List.replicate 16 0) (List.replicate 16 0) (List.replicate 16 0) (List.replicate 16 0) (List.replicate 16 0) (List.replicate 16 0) (List.replicate 16 0) (List.replicate 4 0) (List.replicate 16 0) (List.replicate 32 0) (List.replicate 32 0) (List.replicate 16 0) (List.replicate 16 0) (List.replicate 16 0) (List.replicate 16 0) (List.replicate 16 0) (List.replicate 16 0) (List.replicate 16 0) (List.replicate 16 0) (List.replicate 16 0) (List.replicate 16 0) (List.replicate 16 0) (List.replicate 16 0) (List.replicate 16 0) (List.replicate 16 0)))) rfl ?_
  exact zM [tt,ff,tt,tt,ff] (K2 _ (if_pos hc3).symm)
 ·refine zT Ad W (t := 236) (f := 234) rfl (XT.ii_ge_t hc3) ?_
  exact zM [tt,ff,tt,tt,ff] (K2 _ (if_neg hc3).symm)
/-- blockCount()I -/
def F2 (o : Ob) : Option (Int32) :=
 some (f_n o)
theorem tF2 (Ad : QAd n0 ad) (W : QW Z a0) (s : List Int32) (o : Ob) {r : Int32} (h : F2 o = some r) : QTri l Z n0 ad 2 (0, qentry [.ref 1] (pMaxL 2), [], (H0 s o)) (some (Value.int r)) (H0 s o) := by
 unfold F2 at h
 refine zS Ad W 2 (st' := (4, [vR 1], [.int (f_n o)], (H0 s o))) rfl ?_
 obtain rfl := Option.some.inj h
 exact QTri.retI rfl rfl
/-- validBlock(I)Z -/
def F4 (o : Ob) (x1 : Int32) : Option (Int32) :=
 (if x1 < (0:Int32) then some (0:Int32) else (if x1 < (f_n o) then (if x1 < (16:Int32) then some (1:Int32) else some (0:Int32)) else some (0:Int32)))
theorem tF4 (Ad : QAd n0 ad) (W : QW Z a0) (s : List Int32) (o : Ob) (x1 : Int32) {r : Int32} (h : F4 o x1 = some r) : QTri l Z n0 ad 4 (0, qentry [.ref 1, .int x1] (pMaxL 4), [], (H0 s o)) (some (Value.int r)) (H0 s o) := by
 unfold F4 at h
 refine zS Ad W 1 (st' := (1, [vR 1, vI x1], [.int x1], (H0 s o))) rfl ?_
 rcases qite h with ⟨hc29, h⟩ | ⟨hc29, h⟩
 ·refine zT Ad W (t := 22) (f := 4) rfl (XT.i0_lt_t hc29) ?_
  refine zS Ad W 1 (st' := (23, [vR 1, vI x1], [.int (0:Int32)], (H0 s o))) rfl ?_
  obtain rfl := Option.some.inj h
  exact QTri.retZ rfl rfl
 ·refine zF Ad W (t := 22) (f := 4) rfl (XT.i0_lt_f hc29) ?_
  refine zS Ad W 3 (st' := (9, [vR 1, vI x1], [.int (f_n o), .int x1], (H0 s o))) rfl ?_
  rcases qite h with ⟨hc30, h⟩ | ⟨hc30, h⟩
  ·refine zF Ad W (t := 22) (f := 12) rfl (XT.ii_ge_f hc30) ?_
   refine zS Ad W 2 (st' := (15, [vR 1, vI x1], [.int (16:Int32), .int x1], (H0 s o))) rfl ?_
   rcases qite h with ⟨hc31, h⟩ | ⟨hc31, h⟩
   ·refine zF Ad W (t := 22) (f := 18) rfl (XT.ii_ge_f hc31) ?_
    refine zS Ad W 2 (st' := (23, [vR 1, vI x1], [.int (1:Int32)], (H0 s o))) rfl ?_
    obtain rfl := Option.some.inj h
    exact QTri.retZ rfl rfl
   ·refine zT Ad W (t := 22) (f := 18) rfl (XT.ii_ge_t hc31) ?_
    refine zS Ad W 1 (st' := (23, [vR 1, vI x1], [.int (0:Int32)], (H0 s o))) rfl ?_
    obtain rfl := Option.some.inj h
    exact QTri.retZ rfl rfl
  ·refine zT Ad W (t := 22) (f := 12) rfl (XT.ii_ge_t hc30) ?_
   refine zS Ad W 1 (st' := (23, [vR 1, vI x1], [.int (0:Int32)], (H0 s o))) rfl ?_
   obtain rfl := Option.some.inj h
   exact QTri.retZ rfl rfl
def H0x8 (s : List Int32) (o0 : Ob) (a0_4 : List Int32) : QHeap := H0v s (f_bOp o0) (f_bD o0) (f_bS o0) (f_bImm o0) a0_4 (f_bTest o0) (f_bT0 o0) (f_bT1 o0) (f_cnt0 o0) (f_cnt1 o0) (f_regs o0) (f_outs o0) (f_edgeId o0) (f_edgeW o0) (f_chNext o0) (f_chPrev o0) (f_chHead o0) (f_heat o0) (f_posOf o0) (f_order o0) (f_cOp o0) (f_cD o0) (f_cS o0) (f_cImm o0) (f_cKind o0) (f_cTest o0) (f_cTaken o0) (f_cOther o0) (f_maxBlocks o0) (f_maxSteps o0) (f_n o0) (f_arranged o0) (f_outCount o0) (f_steps o0) (f_status o0) (f_edgeN o0)
def H0x9 (s : List Int32) (o0 : Ob) (a0_4 : List Int32) (a0_5 : List Int32) : QHeap := H0v s (f_bOp o0) (f_bD o0) (f_bS o0) (f_bImm o0) a0_4 a0_5 (f_bT0 o0) (f_bT1 o0) (f_cnt0 o0) (f_cnt1 o0) (f_regs o0) (f_outs o0) (f_edgeId o0) (f_edgeW o0) (f_chNext o0) (f_chPrev o0) (f_chHead o0) (f_heat o0) (f_posOf o0) (f_order o0) (f_cOp o0) (f_cD o0) (f_cS o0) (f_cImm o0) (f_cKind o0) (f_cTest o0) (f_cTaken o0) (f_cOther o0) (f_maxBlocks o0) (f_maxSteps o0) (f_n o0) (f_arranged o0) (f_outCount o0) (f_steps o0) (f_status o0) (f_edgeN o0)
def H0x10 (s : List Int32) (o0 : Ob) (a0_4 : List Int32) (a0_5 : List Int32) (a0_6 : List Int32) : QHeap := H0v s (f_bOp o0) (f_bD o0) (f_bS o0) (f_bImm o0) a0_4 a0_5 a0_6 (f_bT1 o0) (f_cnt0 o0) (f_cnt1 o0) (f_regs o0) (f_outs o0) (f_edgeId o0) (f_edgeW o0) (f_chNext o0) (f_chPrev o0) (f_chHead o0) (f_heat o0) (f_posOf o0) (f_order o0) (f_cOp o0) (f_cD o0) (f_cS o0) (f_cImm o0) (f_cKind o0) (f_cTest o0) (f_cTaken o0) (f_cOther o0) (f_maxBlocks o0) (f_maxSteps o0) (f_n o0) (f_arranged o0) (f_outCount o0) (f_steps o0) (f_status o0) (f_edgeN o0)
/-- writeTerm(IIII)V -/
def F6 (o : Ob) (x1 : Int32) (x2 : Int32) (x3 : Int32) (x4 : Int32) : Option (Ob) :=
 (aset (f_bTerm o) x1 x2).bind fun y34 => (aset (f_bTest o) x1 x3).bind fun y35 => (aset (f_bT0 o) x1 x4).bind fun y36 => some (s_bT0 (s_bTest (s_bTerm o y34) y35) y36)
theorem tF6 (Ad : QAd n0 ad) (W : QW Z a0) (s : List Int32) (o : Ob) (x1 : Int32) (x2 : Int32) (x3 : Int32) (x4 : Int32) {r : Ob} (h : F6 o x1 x2 x3 x4 = some r) : QTri l Z n0 ad 6 (0, qentry [.ref 1, .int x1, .int x2, .int x3, .int x4] (pMaxL 6), [], (H0 s o)) (none : Option Value) (H0 s r) := by
 unfold F6 at h
 refine zS Ad W 4 (st' := (6, [vR 1, vI x1, vI x2, vI x3, vI x4], [.int x2, .int x1, .ref 6], (H0 s o))) rfl ?_
 obtain ⟨y34, hy34, h⟩ := bind_eq_some_iff.mp h
 refine zB Ad W (f := fun y34 => (7, [vR 1, vI x1, vI x2, vI x3, vI x4], [], (H0x8 s o y34))) rfl hy34 ?_
 refine zS Ad W 4 (st' := (13, [vR 1, vI x1, vI x2, vI x3, vI x4], [.int x3, .int x1, .ref 7], (H0x8 s o y34))) rfl ?_
 obtain ⟨y35, hy35, h⟩ := bind_eq_some_iff.mp h
 refine zB Ad W (f := fun y35 => (14, [vR 1, vI x1, vI x2, vI x3, vI x4], [], (H0x9 s o y34 y35))) rfl hy35 ?_
 refine zS Ad W 4 (st' := (21, [vR 1, vI x1, vI x2, vI x3, vI x4], [.int x4, .int x1, .ref 8], (H0x9 s o y34 y35))) rfl ?_
 obtain ⟨y36, hy36, h⟩ := bind_eq_some_iff.mp h
 refine zB Ad W (f := fun y36 => (22, [vR 1, vI x1, vI x2, vI x3, vI x4], [], (H0x10 s o y34 y35 y36))) rfl hy36 ?_
 have E37 : ((H0x10 s o y34 y35 y36) : QHeap) = (H0 s (s_bT0 (s_bTest (s_bTerm o y34) y35) y36)) := by simp only [fs, H0, H0v, H0x10, s_bTerm, s_bTest, s_bT0]
 rw [E37]
 obtain rfl := Option.some.inj h
 exact QTri.ret0 rfl rfl
def H0x11 (s : List Int32) (o0 : Ob) (a0_7 : List Int32) : QHeap := H0v s (f_bOp o0) (f_bD o0) (f_bS o0) (f_bImm o0) (f_bTerm o0) (f_bTest o0) (f_bT0 o0) a0_7 (f_cnt0 o0) (f_cnt1 o0) (f_regs o0) (f_outs o0) (f_edgeId o0) (f_edgeW o0) (f_chNext o0) (f_chPrev o0) (f_chHead o0) (f_heat o0) (f_posOf o0) (f_order o0) (f_cOp o0) (f_cD o0) (f_cS o0) (f_cImm o0) (f_cKind o0) (f_cTest o0) (f_cTaken o0) (f_cOther o0) (f_maxBlocks o0) (f_maxSteps o0) (f_n o0) (f_arranged o0) (f_outCount o0) (f_steps o0) (f_status o0) (f_edgeN o0)
def H0x12 (s : List Int32) (o0 : Ob) (a0_8 : List Int32) : QHeap := H0v s (f_bOp o0) (f_bD o0) (f_bS o0) (f_bImm o0) (f_bTerm o0) (f_bTest o0) (f_bT0 o0) (f_bT1 o0) a0_8 (f_cnt1 o0) (f_regs o0) (f_outs o0) (f_edgeId o0) (f_edgeW o0) (f_chNext o0) (f_chPrev o0) (f_chHead o0) (f_heat o0) (f_posOf o0) (f_order o0) (f_cOp o0) (f_cD o0) (f_cS o0) (f_cImm o0) (f_cKind o0) (f_cTest o0) (f_cTaken o0) (f_cOther o0) (f_maxBlocks o0) (f_maxSteps o0) (f_n o0) (f_arranged o0) (f_outCount o0) (f_steps o0) (f_status o0) (f_edgeN o0)
def H0x13 (s : List Int32) (o0 : Ob) (a0_8 : List Int32) (a0_9 : List Int32) : QHeap := H0v s (f_bOp o0) (f_bD o0) (f_bS o0) (f_bImm o0) (f_bTerm o0) (f_bTest o0) (f_bT0 o0) (f_bT1 o0) a0_8 a0_9 (f_regs o0) (f_outs o0) (f_edgeId o0) (f_edgeW o0) (f_chNext o0) (f_chPrev o0) (f_chHead o0) (f_heat o0) (f_posOf o0) (f_order o0) (f_cOp o0) (f_cD o0) (f_cS o0) (f_cImm o0) (f_cKind o0) (f_cTest o0) (f_cTaken o0) (f_cOther o0) (f_maxBlocks o0) (f_maxSteps o0) (f_n o0) (f_arranged o0) (f_outCount o0) (f_steps o0) (f_status o0) (f_edgeN o0)
def B7_2 (v : Int32 × Ob) : Option (((Ob)) ⊕ (Int32 × Ob)) :=
  (if v.1 < (16 : Int32) then (aset (f_cnt0 v.2) v.1 (0 : Int32)).bind fun y42 => (aset (f_cnt1 v.2) v.1 (0 : Int32)).bind fun y43 => some (.inr ((v.1 + (1 : Int32)), (s_cnt1 (s_cnt0 v.2 y42) y43))) else some (.inl v.2))
theorem tB7_2 (Ad : QAd n0 ad) (W : QW Z a0) (s : List Int32) (v : Int32 × Ob) {r : ((Ob)) ⊕ (Int32 × Ob)} {u : Option Value} {τ : QHeap} (h : B7_2 v = some r) (hx0 : ∀ x : Ob, r = .inl x → u = (none : Option Value) ∧ τ = (H0 s x)) (hc : ∀ x : Int32 × Ob, r = .inr x → QTri l Z n0 ad 7 (2, [vR 1, vI x.1], [], (H0 s x.2)) u τ) : QTri l Z n0 ad 7 (2, [vR 1, vI v.1], [], (H0 s v.2)) u τ := by
 unfold B7_2 at h
 refine zS Ad W 2 (st' := (5, [vR 1, vI v.1], [.int (16:Int32), .int v.1], (H0 s v.2))) rfl ?_
 rcases qite h with ⟨hc41, h⟩ | ⟨hc41, h⟩
 ·refine zF Ad W (t := 28) (f := 8) rfl (XT.ii_ge_f hc41) ?_
  refine zS Ad W 4 (st' := (14, [vR 1, vI v.1], [.int (0:Int32), .int v.1, .ref 10], (H0 s v.2))) rfl ?_
  obtain ⟨y42, hy42, h⟩ := bind_eq_some_iff.mp h
  refine zB Ad W (f := fun y42 => (15, [vR 1, vI v.1], [], (H0x12 s v.2 y42))) rfl hy42 ?_
  refine zS Ad W 4 (st' := (21, [vR 1, vI v.1], [.int (0:Int32), .int v.1, .ref 11], (H0x12 s v.2 y42))) rfl ?_
  obtain ⟨y43, hy43, h⟩ := bind_eq_some_iff.mp h
  refine zB Ad W (f := fun y43 => (22, [vR 1, vI v.1], [], (H0x13 s v.2 y42 y43))) rfl hy43 ?_
  refine zS Ad W 2 (st' := (2, [vR 1, vI (v.1 + (1:Int32))], [], (H0x13 s v.2 y42 y43))) rfl ?_
  have E44 : ((H0x13 s v.2 y42 y43) : QHeap) = (H0 s (s_cnt1 (s_cnt0 v.2 y42) y43)) := by simp only [fs, H0, H0v, H0x13, s_cnt0, s_cnt1]
  rw [E44]
  obtain rfl := Option.some.inj h
  exact zM [tt,tt] (hc ((v.1 + (1:Int32)), (s_cnt1 (s_cnt0 v.2 y42) y43)) rfl)
 ·refine zT Ad W (t := 28) (f := 8) rfl (XT.ii_ge_t hc41) ?_
  obtain rfl := Option.some.inj h
  obtain ⟨rfl, rfl⟩ := hx0 v.2 rfl
  exact QTri.ret0 rfl rfl
/-- clearCounts()V -/
def F7 (o : Ob) : Option (Ob) :=
 (loopN (B7_2) qN ((0:Int32), o)).bind fun e45 => some e45
theorem tF7 (Ad : QAd n0 ad) (W : QW Z a0) (s : List Int32) (o : Ob) {r : Ob} (h : F7 o = some r) : QTri l Z n0 ad 7 (0, qentry [.ref 1] (pMaxL 7), [], (H0 s o)) (none : Option Value) (H0 s r) := by
 unfold F7 at h
 refine zS Ad W 2 (st' := (2, [vR 1, vI (0:Int32)], [], (H0 s o))) rfl ?_
 obtain ⟨e45, he45, h⟩ := bind_eq_some_iff.mp h
 refine zM [tt,tt] (loopN_tri (B := B7_2) (T := fun lv46 => QTri l Z n0 ad 7 (2, [vR 1, vI lv46.1], [], (H0 s lv46.2)) (none : Option Value) (H0 s r)) (KE := fun e45a => (none : Option Value) = (none : Option Value) ∧ (H0 s r) = (H0 s e45a)) (fun lv46 r hB hE hC => tB7_2 Ad W s lv46 hB (fun x q => hE _ q) (fun x q => hC x q)) qN ((0:Int32), o) e45 he45 ?_)
 obtain rfl := Option.some.inj h
 exact ⟨rfl, rfl⟩
/-- setHalt(I)Z -/
def F11 (o : Ob) (x1 : Int32) : Option (Int32 × Ob) :=
 (if (f_arranged o) = (0:Int32) then (F4 o x1).bind fun r32 => (if r32 = (0:Int32) then some ((0:Int32), o) else (F6 o x1 (0:Int32) (0:Int32) (0:Int32)).bind fun r38 => (aset (f_bT1 r38) x1 (0:Int32)).bind fun y39 => (F7 (s_bT1 r38 y39)).bind fun r47 => some ((1:Int32), r47)) else some ((0:Int32), o))
theorem tF11 (Ad : QAd n0 ad) (W : QW Z a0) (s : List Int32) (o : Ob) (x1 : Int32) {r : Int32 × Ob} (h : F11 o x1 = some r) : QTri l Z n0 ad 11 (0, qentry [.ref 1, .int x1] (pMaxL 11), [], (H0 s o)) (some (Value.int r.1)) (H0 s r.2) := by
 unfold F11 at h
 refine zS Ad W 2 (st' := (4, [vR 1, vI x1], [.int (f_arranged o)], (H0 s o))) rfl ?_
 rcases qite h with ⟨hc28, h⟩ | ⟨hc28, h⟩
 ·refine zF Ad W (t := 15) (f := 7) rfl (XT.i0_ne_f hc28) ?_
  refine zS Ad W 2 (st' := (9, [vR 1, vI x1], [.int x1, .ref 1], (H0 s o))) rfl ?_
  obtain ⟨r32, hr32, h⟩ := bind_eq_some_iff.mp h
  refine QTri.callP W (a := 1) (as := [.int x1]) (rest := []) (w := (some (.int r32))) (σ₁ := (H0 s o)) rfl rfl rfl rfl rfl rfl rfl rfl (tF4 Ad W s o x1 hr32) ?_
  rcases qite h with ⟨hc33, h⟩ | ⟨hc33, h⟩
  ·refine zF Ad W (t := 17) (f := 15) rfl (XT.i0_ne_f hc33) ?_
   refine zS Ad W 1 (st' := (16, [vR 1, vI x1], [.int (0:Int32)], (H0 s o))) rfl ?_
   obtain rfl := Option.some.inj h
   exact QTri.retZ rfl rfl
  ·refine zT Ad W (t := 17) (f := 15) rfl (XT.i0_ne_t hc33) ?_
   refine zS Ad W 5 (st' := (22, [vR 1, vI x1], [.int (0:Int32), .int (0:Int32), .int (0:Int32), .int x1, .ref 1], (H0 s o))) rfl ?_
   obtain ⟨r38, hr38, h⟩ := bind_eq_some_iff.mp h
   refine QTri.callP W (a := 1) (as := [.int x1, .int (0:Int32), .int (0:Int32), .int (0:Int32)]) (rest := []) (w := none) (σ₁ := (H0 s r38)) rfl rfl rfl rfl rfl rfl rfl rfl (tF6 Ad W s o x1 (0:Int32) (0:Int32) (0:Int32) hr38) ?_
   refine zS Ad W 4 (st' := (31, [vR 1, vI x1], [.int (0:Int32), .int x1, .ref 9], (H0 s r38))) rfl ?_
   obtain ⟨y39, hy39, h⟩ := bind_eq_some_iff.mp h
   refine zB Ad W (f := fun y39 => (32, [vR 1, vI x1], [], (H0x11 s r38 y39))) rfl hy39 ?_
   refine zS Ad W 1 (st' := (33, [vR 1, vI x1], [.ref 1], (H0x11 s r38 y39))) rfl ?_
   have E40 : ((H0x11 s r38 y39) : QHeap) = (H0 s (s_bT1 r38 y39)) := by simp only [fs, H0, H0v, H0x11, s_bT1]
   rw [E40]
   obtain ⟨r47, hr47, h⟩ := bind_eq_some_iff.mp h
   refine QTri.callP W (a := 1) (as := []) (rest := []) (w := none) (σ₁ := (H0 s r47)) rfl rfl rfl rfl rfl rfl rfl rfl (tF7 Ad W s (s_bT1 r38 y39) hr47) ?_
   refine zS Ad W 1 (st' := (37, [vR 1, vI x1], [.int (1:Int32)], (H0 s r47))) rfl ?_
   obtain rfl := Option.some.inj h
   exact QTri.retZ rfl rfl
 ·refine zT Ad W (t := 15) (f := 7) rfl (XT.i0_ne_t hc28) ?_
  refine zS Ad W 1 (st' := (16, [vR 1, vI x1], [.int (0:Int32)], (H0 s o))) rfl ?_
  obtain rfl := Option.some.inj h
  exact QTri.retZ rfl rfl
def J0_255 (s : List Int32) (p0 : Ob) (x2 : Int32) : Option (((Int32 × QHeap)) ⊕ (Int32 × Ob)) :=
  some (.inr ((x2 + (5 : Int32)), p0))
theorem tJ0_255 (Ad : QAd n0 ad) (W : QW Z a0) (s : List Int32) (p0 : Ob) (x2 : Int32) {r : ((Int32 × QHeap)) ⊕ (Int32 × Ob)} {u : Option Value} {τ : QHeap} (h : J0_255 s p0 x2 = some r) (hx0 : ∀ x : Int32 × QHeap, r = .inl x → u = (some (Value.int x.1)) ∧ τ = x.2) (hc : ∀ x : Int32 × Ob, r = .inr x → QTri l Z n0 ad 0 (14, [vR 0, vR 1, vI x.1, none, none, none, none, none, none, none], [], (H0 s x.2)) u τ) : QTri l Z n0 ad 0 (255, [vR 0, vR 1, vI x2, none, none, none, none, none, none, none], [], (H0 s p0)) u τ := by
 unfold J0_255 at h
 refine zS Ad W 2 (st' := (14, [vR 0, vR 1, vI (x2 + (5:Int32)), none, none, none, none, none, none, none], [], (H0 s p0))) rfl ?_
 obtain rfl := Option.some.inj h
 exact zM [tt,tt,tt,ff,ff,ff,ff,ff,ff,ff] (hc ((x2 + (5:Int32)), p0) rfl)
/-- isLaidOut()Z -/
def F15 (o : Ob) : Option (Int32) :=
 some ((f_arranged o) &&& 1)
theorem tF15 (Ad : QAd n0 ad) (W : QW Z a0) (s : List Int32) (o : Ob) {r : Int32} (h : F15 o = some r) : QTri l Z n0 ad 15 (0, qentry [.ref 1] (pMaxL 15), [], (H0 s o)) (some (Value.int r)) (H0 s o) := by
 unfold F15 at h
 refine zS Ad W 2 (st' := (4, [vR 1], [.int (f_arranged o)], (H0 s o))) rfl ?_
 obtain rfl := Option.some.inj h
 exact QTri.retZ rfl rfl
def H0x14 (s : List Int32) (o0 : Ob) (a0_35 : Int32) : QHeap := H0v s (f_bOp o0) (f_bD o0) (f_bS o0) (f_bImm o0) (f_bTerm o0) (f_bTest o0) (f_bT0 o0) (f_bT1 o0) (f_cnt0 o0) (f_cnt1 o0) (f_regs o0) (f_outs o0) (f_edgeId o0) (f_edgeW o0) (f_chNext o0) (f_chPrev o0) (f_chHead o0) (f_heat o0) (f_posOf o0) (f_order o0) (f_cOp o0) (f_cD o0) (f_cS o0) (f_cImm o0) (f_cKind o0) (f_cTest o0) (f_cTaken o0) (f_cOther o0) (f_maxBlocks o0) (f_maxSteps o0) (f_n o0) (f_arranged o0) (f_outCount o0) (f_steps o0) (f_status o0) a0_35
def H0x15 (s : List Int32) (o0 : Ob) (a0_17 : List Int32) : QHeap := H0v s (f_bOp o0) (f_bD o0) (f_bS o0) (f_bImm o0) (f_bTerm o0) (f_bTest o0) (f_bT0 o0) (f_bT1 o0) (f_cnt0 o0) (f_cnt1 o0) (f_regs o0) (f_outs o0) (f_edgeId o0) (f_edgeW o0) (f_chNext o0) (f_chPrev o0) (f_chHead o0) a0_17 (f_posOf o0) (f_order o0) (f_cOp o0) (f_cD o0) (f_cS o0) (f_cImm o0) (f_cKind o0) (f_cTest o0) (f_cTaken o0) (f_cOther o0) (f_maxBlocks o0) (f_maxSteps o0) (f_n o0) (f_arranged o0) (f_outCount o0) (f_steps o0) (f_status o0) (f_edgeN o0)
def B26_7 (v : Int32 × Ob) : Option (((Ob)) ⊕ (Int32 × Ob)) :=
  (if v.1 < (16 : Int32) then (aset (f_heat v.2) v.1 (0 : Int32)).bind fun y57 => some (.inr ((v.1 + (1 : Int32)), (s_heat v.2 y57))) else some (.inl v.2))
theorem tB26_7 (Ad : QAd n0 ad) (W : QW Z a0) (s : List Int32) (v : Int32 × Ob) {r : ((Ob)) ⊕ (Int32 × Ob)} {u : Option Value} {τ : QHeap} (h : B26_7 v = some r) (hx0 : ∀ x : Ob, r = .inl x → QTri l Z n0 ad 26 (26, [vR 1, none, none], [], (H0 s x)) u τ) (hc : ∀ x : Int32 × Ob, r = .inr x → QTri l Z n0 ad 26 (7, [vR 1, vI x.1, none], [], (H0 s x.2)) u τ) : QTri l Z n0 ad 26 (7, [vR 1, vI v.1, none], [], (H0 s v.2)) u τ := by
 unfold B26_7 at h
 refine zS Ad W 2 (st' := (10, [vR 1, vI v.1, none], [.int (16:Int32), .int v.1], (H0 s v.2))) rfl ?_
 rcases qite h with ⟨hc56, h⟩ | ⟨hc56, h⟩
 ·refine zF Ad W (t := 26) (f := 13) rfl (XT.ii_ge_f hc56) ?_
  refine zS Ad W 4 (st' := (19, [vR 1, vI v.1, none], [.int (0:Int32), .int v.1, .ref 19], (H0 s v.2))) rfl ?_
  obtain ⟨y57, hy57, h⟩ := bind_eq_some_iff.mp h
  refine zB Ad W (f := fun y57 => (20, [vR 1, vI v.1, none], [], (H0x15 s v.2 y57))) rfl hy57 ?_
  refine zS Ad W 2 (st' := (7, [vR 1, vI (v.1 + (1:Int32)), none], [], (H0x15 s v.2 y57))) rfl ?_
  have E58 : ((H0x15 s v.2 y57) : QHeap) = (H0 s (s_heat v.2 y57)) := by simp only [fs, H0, H0v, H0x15, s_heat]
  rw [E58]
  obtain rfl := Option.some.inj h
  exact zM [tt,tt,ff] (hc ((v.1 + (1:Int32)), (s_heat v.2 y57)) rfl)
 ·refine zT Ad W (t := 26) (f := 13) rfl (XT.ii_ge_t hc56) ?_
  obtain rfl := Option.some.inj h
  exact zM [tt,ff,ff] (hx0 v.2 rfl)
def H0x16 (s : List Int32) (o0 : Ob) (a0_12 : List Int32) : QHeap := H0v s (f_bOp o0) (f_bD o0) (f_bS o0) (f_bImm o0) (f_bTerm o0) (f_bTest o0) (f_bT0 o0) (f_bT1 o0) (f_cnt0 o0) (f_cnt1 o0) (f_regs o0) (f_outs o0) a0_12 (f_edgeW o0) (f_chNext o0) (f_chPrev o0) (f_chHead o0) (f_heat o0) (f_posOf o0) (f_order o0) (f_cOp o0) (f_cD o0) (f_cS o0) (f_cImm o0) (f_cKind o0) (f_cTest o0) (f_cTaken o0) (f_cOther o0) (f_maxBlocks o0) (f_maxSteps o0) (f_n o0) (f_arranged o0) (f_outCount o0) (f_steps o0) (f_status o0) (f_edgeN o0)
def H0x17 (s : List Int32) (o0 : Ob) (a0_12 : List Int32) (a0_13 : List Int32) : QHeap := H0v s (f_bOp o0) (f_bD o0) (f_bS o0) (f_bImm o0) (f_bTerm o0) (f_bTest o0) (f_bT0 o0) (f_bT1 o0) (f_cnt0 o0) (f_cnt1 o0) (f_regs o0) (f_outs o0) a0_12 a0_13 (f_chNext o0) (f_chPrev o0) (f_chHead o0) (f_heat o0) (f_posOf o0) (f_order o0) (f_cOp o0) (f_cD o0) (f_cS o0) (f_cImm o0) (f_cKind o0) (f_cTest o0) (f_cTaken o0) (f_cOther o0) (f_maxBlocks o0) (f_maxSteps o0) (f_n o0) (f_arranged o0) (f_outCount o0) (f_steps o0) (f_status o0) (f_edgeN o0)
def H0x18 (s : List Int32) (o0 : Ob) (a0_12 : List Int32) (a0_13 : List Int32) (a0_35 : Int32) : QHeap := H0v s (f_bOp o0) (f_bD o0) (f_bS o0) (f_bImm o0) (f_bTerm o0) (f_bTest o0) (f_bT0 o0) (f_bT1 o0) (f_cnt0 o0) (f_cnt1 o0) (f_regs o0) (f_outs o0) a0_12 a0_13 (f_chNext o0) (f_chPrev o0) (f_chHead o0) (f_heat o0) (f_posOf o0) (f_order o0) (f_cOp o0) (f_cD o0) (f_cS o0) (f_cImm o0) (f_cKind o0) (f_cTest o0) (f_cTaken o0) (f_cOther o0) (f_maxBlocks o0) (f_maxSteps o0) (f_n o0) (f_arranged o0) (f_outCount o0) (f_steps o0) (f_status o0) a0_35
def J35_31 (o : Ob) (x1 : Int32) (x2 : Int32) (x3 : Int32) (x4 : Int32) : Option (Ob) :=
  (if (0 : Int32) < x4 then (if x3 = x1 then some o else (if (f_edgeN o) < (32 : Int32) then (aset (f_edgeId o) (f_edgeN o) ((x1 * (2 : Int32)) + x2)).bind fun y76 => (aset (f_edgeW o) (f_edgeN o) x4).bind fun y77 => some (s_edgeN (s_edgeW (s_edgeId o y76) y77) ((f_edgeN o) + (1 : Int32))) else some o)) else some o)
theorem tJ35_31 (Ad : QAd n0 ad) (W : QW Z a0) (s : List Int32) (o : Ob) (x1 : Int32) (x2 : Int32) (x3 : Int32) (x4 : Int32) {r : Ob} (h : J35_31 o x1 x2 x3 x4 = some r) : QTri l Z n0 ad 35 (31, [vR 1, vI x1, vI x2, vI x3, vI x4], [], (H0 s o)) (none : Option Value) (H0 s r) := by
 unfold J35_31 at h
 refine zS Ad W 1 (st' := (33, [vR 1, vI x1, vI x2, vI x3, vI x4], [.int x4], (H0 s o))) rfl ?_
 rcases qite h with ⟨hc73, h⟩ | ⟨hc73, h⟩
 ·refine zF Ad W (t := 50) (f := 36) rfl (XT.i0_le_f hc73) ?_
  refine zS Ad W 2 (st' := (38, [vR 1, vI x1, vI x2, vI x3, vI x4], [.int x1, .int x3], (H0 s o))) rfl ?_
  rcases qite h with ⟨hc74, h⟩ | ⟨hc74, h⟩
  ·refine zT Ad W (t := 50) (f := 41) rfl (XT.ii_eq_t hc74) ?_
   obtain rfl := Option.some.inj h
   exact QTri.ret0 rfl rfl
  ·refine zF Ad W (t := 50) (f := 41) rfl (XT.ii_eq_f hc74) ?_
   refine zS Ad W 3 (st' := (47, [vR 1, vI x1, vI x2, vI x3, vI x4], [.int (32:Int32), .int (f_edgeN o)], (H0 s o))) rfl ?_
   rcases qite h with ⟨hc75, h⟩ | ⟨hc75, h⟩
   ·refine zT Ad W (t := 51) (f := 50) rfl (XT.ii_lt_t hc75) ?_
    refine zS Ad W 9 (st' := (64, [vR 1, vI x1, vI x2, vI x3, vI x4], [.int ((x1 * (2:Int32)) + x2), .int (f_edgeN o), .ref 14], (H0 s o))) rfl ?_
    obtain ⟨y76, hy76, h⟩ := bind_eq_some_iff.mp h
    refine zB Ad W (f := fun y76 => (65, [vR 1, vI x1, vI x2, vI x3, vI x4], [], (H0x16 s o y76))) rfl hy76 ?_
    refine zS Ad W 5 (st' := (75, [vR 1, vI x1, vI x2, vI x3, vI x4], [.int x4, .int (f_edgeN o), .ref 15], (H0x16 s o y76))) rfl ?_
    obtain ⟨y77, hy77, h⟩ := bind_eq_some_iff.mp h
    refine zB Ad W (f := fun y77 => (76, [vR 1, vI x1, vI x2, vI x3, vI x4], [], (H0x17 s o y76 y77))) rfl hy77 ?_
    refine zS Ad W 6 (st' := (86, [vR 1, vI x1, vI x2, vI x3, vI x4], [], (H0x18 s o y76 y77 ((f_edgeN o) + (1:Int32))))) rfl ?_
    have E78 : ((H0x18 s o y76 y77 ((f_edgeN o) + (1:Int32))) : QHeap) = (H0 s (s_edgeN (s_edgeW (s_edgeId o y76) y77) ((f_edgeN o) + (1:Int32)))) := by simp only [fs, H0, H0v, H0x18, s_edgeId, s_edgeW, s_edgeN]
    rw [E78]
    obtain rfl := Option.some.inj h
    exact QTri.ret0 rfl rfl
   ·refine zF Ad W (t := 51) (f := 50) rfl (XT.ii_lt_f hc75) ?_
    obtain rfl := Option.some.inj h
    exact QTri.ret0 rfl rfl
 ·refine zT Ad W (t := 50) (f := 36) rfl (XT.i0_le_t hc73) ?_
  obtain rfl := Option.some.inj h
  exact QTri.ret0 rfl rfl
/-- addEdge(IIII)V -/
def F35 (o : Ob) (x1 : Int32) (x2 : Int32) (x3 : Int32) (x4 : Int32) : Option (Ob) :=
 (if x3 < (0:Int32) then some o else (if x3 < (16:Int32) then (if (0:Int32) < x4 then (aget (f_heat o) x3).bind fun y70 => (aset (f_heat o) x3 (y70 + x4)).bind fun y71 => (J35_31 (s_heat o y71) x1 x2 x3 x4) else (J35_31 o x1 x2 x3 x4)) else some o))
theorem tF35 (Ad : QAd n0 ad) (W : QW Z a0) (s : List Int32) (o : Ob) (x1 : Int32) (x2 : Int32) (x3 : Int32) (x4 : Int32) {r : Ob} (h : F35 o x1 x2 x3 x4 = some r) : QTri l Z n0 ad 35 (0, qentry [.ref 1, .int x1, .int x2, .int x3, .int x4] (pMaxL 35), [], (H0 s o)) (none : Option Value) (H0 s r) := by
 unfold F35 at h
 refine zS Ad W 1 (st' := (1, [vR 1, vI x1, vI x2, vI x3, vI x4], [.int x3], (H0 s o))) rfl ?_
 rcases qite h with ⟨hc67, h⟩ | ⟨hc67, h⟩
 ·refine zT Ad W (t := 10) (f := 4) rfl (XT.i0_lt_t hc67) ?_
  obtain rfl := Option.some.inj h
  exact QTri.ret0 rfl rfl
 ·refine zF Ad W (t := 10) (f := 4) rfl (XT.i0_lt_f hc67) ?_
  refine zS Ad W 2 (st' := (7, [vR 1, vI x1, vI x2, vI x3, vI x4], [.int (16:Int32), .int x3], (H0 s o))) rfl ?_
  rcases qite h with ⟨hc68, h⟩ | ⟨hc68, h⟩
  ·refine zT Ad W (t := 11) (f := 10) rfl (XT.ii_lt_t hc68) ?_
   refine zS Ad W 1 (st' := (13, [vR 1, vI x1, vI x2, vI x3, vI x4], [.int x4], (H0 s o))) rfl ?_
   rcases qite h with ⟨hc69, h⟩ | ⟨hc69, h⟩
   ·refine zF Ad W (t := 31) (f := 16) rfl (XT.i0_le_f hc69) ?_
    refine zS Ad W 6 (st' := (26, [vR 1, vI x1, vI x2, vI x3, vI x4], [.int x3, .ref 19, .int x3, .ref 19], (H0 s o))) rfl ?_
    obtain ⟨y70, hy70, h⟩ := bind_eq_some_iff.mp h
    refine zB Ad W (f := fun y70 => (27, [vR 1, vI x1, vI x2, vI x3, vI x4], [.int y70, .int x3, .ref 19], (H0 s o))) rfl hy70 ?_
    refine zS Ad W 2 (st' := (30, [vR 1, vI x1, vI x2, vI x3, vI x4], [.int (y70 + x4), .int x3, .ref 19], (H0 s o))) rfl ?_
    obtain ⟨y71, hy71, h⟩ := bind_eq_some_iff.mp h
    refine zB Ad W (f := fun y71 => (31, [vR 1, vI x1, vI x2, vI x3, vI x4], [], (H0x15 s o y71))) rfl hy71 ?_
    have E72 : ((H0x15 s o y71) : QHeap) = (H0 s (s_heat o y71)) := by simp only [fs, H0, H0v, H0x15, s_heat]
    rw [E72]
    exact zM [tt,tt,tt,tt,tt] (tJ35_31 Ad W s (s_heat o y71) x1 x2 x3 x4 h)
   ·refine zT Ad W (t := 31) (f := 16) rfl (XT.i0_le_t hc69) ?_
    exact zM [tt,tt,tt,tt,tt] (tJ35_31 Ad W s o x1 x2 x3 x4 h)
  ·refine zF Ad W (t := 11) (f := 10) rfl (XT.ii_lt_f hc68) ?_
   obtain rfl := Option.some.inj h
   exact QTri.ret0 rfl rfl
def J26_100 (o : Ob) (x1 : Int32) : Option (((Ob)) ⊕ (Int32 × Ob)) :=
  some (.inr ((x1 + (1 : Int32)), o))
theorem tJ26_100 (Ad : QAd n0 ad) (W : QW Z a0) (s : List Int32) (o : Ob) (x1 : Int32) {r : ((Ob)) ⊕ (Int32 × Ob)} {u : Option Value} {τ : QHeap} (h : J26_100 o x1 = some r) (hx0 : ∀ x : Ob, r = .inl x → u = (none : Option Value) ∧ τ = (H0 s x)) (hc : ∀ x : Int32 × Ob, r = .inr x → QTri l Z n0 ad 26 (28, [vR 1, vI x.1, none], [], (H0 s x.2)) u τ) : QTri l Z n0 ad 26 (100, [vR 1, vI x1, none], [], (H0 s o)) u τ := by
 unfold J26_100 at h
 refine zS Ad W 2 (st' := (28, [vR 1, vI (x1 + (1:Int32)), none], [], (H0 s o))) rfl ?_
 obtain rfl := Option.some.inj h
 exact zM [tt,tt,ff] (hc ((x1 + (1:Int32)), o) rfl)
def J26_77 (o : Ob) (x1 : Int32) (x2 : Int32) : Option (((Ob)) ⊕ (Int32 × Ob)) :=
  (if x2 = (2 : Int32) then (aget (f_bT1 o) x1).bind fun y81 => (aget (f_cnt1 o) x1).bind fun y82 => (F35 o x1 (1 : Int32) y81 y82).bind fun r83 => (J26_100 r83 x1) else (J26_100 o x1))
theorem tJ26_77 (Ad : QAd n0 ad) (W : QW Z a0) (s : List Int32) (o : Ob) (x1 : Int32) (x2 : Int32) {r : ((Ob)) ⊕ (Int32 × Ob)} {u : Option Value} {τ : QHeap} (h : J26_77 o x1 x2 = some r) (hx0 : ∀ x : Ob, r = .inl x → u = (none : Option Value) ∧ τ = (H0 s x)) (hc : ∀ x : Int32 × Ob, r = .inr x → QTri l Z n0 ad 26 (28, [vR 1, vI x.1, none], [], (H0 s x.2)) u τ) : QTri l Z n0 ad 26 (77, [vR 1, vI x1, vI x2], [], (H0 s o)) u τ := by
 unfold J26_77 at h
 refine zS Ad W 2 (st' := (79, [vR 1, vI x1, vI x2], [.int (2:Int32), .int x2], (H0 s o))) rfl ?_
 rcases qite h with ⟨hc80, h⟩ | ⟨hc80, h⟩
 ·refine zF Ad W (t := 100) (f := 82) rfl (XT.ii_ne_f hc80) ?_
  refine zS Ad W 6 (st' := (90, [vR 1, vI x1, vI x2], [.int x1, .ref 9, .int (1:Int32), .int x1, .ref 1], (H0 s o))) rfl ?_
  obtain ⟨y81, hy81, h⟩ := bind_eq_some_iff.mp h
  refine zB Ad W (f := fun y81 => (91, [vR 1, vI x1, vI x2], [.int y81, .int (1:Int32), .int x1, .ref 1], (H0 s o))) rfl hy81 ?_
  refine zS Ad W 3 (st' := (96, [vR 1, vI x1, vI x2], [.int x1, .ref 11, .int y81, .int (1:Int32), .int x1, .ref 1], (H0 s o))) rfl ?_
  obtain ⟨y82, hy82, h⟩ := bind_eq_some_iff.mp h
  refine zB Ad W (f := fun y82 => (97, [vR 1, vI x1, vI x2], [.int y82, .int y81, .int (1:Int32), .int x1, .ref 1], (H0 s o))) rfl hy82 ?_
  obtain ⟨r83, hr83, h⟩ := bind_eq_some_iff.mp h
  refine QTri.callP W (a := 1) (as := [.int x1, .int (1:Int32), .int y81, .int y82]) (rest := []) (w := none) (σ₁ := (H0 s r83)) rfl rfl rfl rfl rfl rfl rfl rfl (tF35 Ad W s o x1 (1:Int32) y81 y82 hr83) ?_
  exact zM [tt,tt,ff] (tJ26_100 Ad W s r83 x1 h hx0 hc)
 ·refine zT Ad W (t := 100) (f := 82) rfl (XT.ii_ne_t hc80) ?_
  exact zM [tt,tt,ff] (tJ26_100 Ad W s o x1 h hx0 hc)
def J26_59 (o : Ob) (x1 : Int32) (x2 : Int32) : Option (((Ob)) ⊕ (Int32 × Ob)) :=
  (aget (f_bT0 o) x1).bind fun y65 => (aget (f_cnt0 o) x1).bind fun y66 => (F35 o x1 (0 : Int32) y65 y66).bind fun r79 => (J26_77 r79 x1 x2)
theorem tJ26_59 (Ad : QAd n0 ad) (W : QW Z a0) (s : List Int32) (o : Ob) (x1 : Int32) (x2 : Int32) {r : ((Ob)) ⊕ (Int32 × Ob)} {u : Option Value} {τ : QHeap} (h : J26_59 o x1 x2 = some r) (hx0 : ∀ x : Ob, r = .inl x → u = (none : Option Value) ∧ τ = (H0 s x)) (hc : ∀ x : Int32 × Ob, r = .inr x → QTri l Z n0 ad 26 (28, [vR 1, vI x.1, none], [], (H0 s x.2)) u τ) : QTri l Z n0 ad 26 (59, [vR 1, vI x1, vI x2], [], (H0 s o)) u τ := by
 unfold J26_59 at h
 refine zS Ad W 6 (st' := (67, [vR 1, vI x1, vI x2], [.int x1, .ref 8, .int (0:Int32), .int x1, .ref 1], (H0 s o))) rfl ?_
 obtain ⟨y65, hy65, h⟩ := bind_eq_some_iff.mp h
 refine zB Ad W (f := fun y65 => (68, [vR 1, vI x1, vI x2], [.int y65, .int (0:Int32), .int x1, .ref 1], (H0 s o))) rfl hy65 ?_
 refine zS Ad W 3 (st' := (73, [vR 1, vI x1, vI x2], [.int x1, .ref 10, .int y65, .int (0:Int32), .int x1, .ref 1], (H0 s o))) rfl ?_
 obtain ⟨y66, hy66, h⟩ := bind_eq_some_iff.mp h
 refine zB Ad W (f := fun y66 => (74, [vR 1, vI x1, vI x2], [.int y66, .int y65, .int (0:Int32), .int x1, .ref 1], (H0 s o))) rfl hy66 ?_
 obtain ⟨r79, hr79, h⟩ := bind_eq_some_iff.mp h
 refine QTri.callP W (a := 1) (as := [.int x1, .int (0:Int32), .int y65, .int y66]) (rest := []) (w := none) (σ₁ := (H0 s r79)) rfl rfl rfl rfl rfl rfl rfl rfl (tF35 Ad W s o x1 (0:Int32) y65 y66 hr79) ?_
 exact zM [tt,tt,tt] (tJ26_77 Ad W s r79 x1 x2 h hx0 hc)
def B26_28 (v : Int32 × Ob) : Option (((Ob)) ⊕ (Int32 × Ob)) :=
  (if v.1 < (f_n v.2) then (if v.1 < (16 : Int32) then (aget (f_bTerm v.2) v.1).bind fun y63 => (if y63 = (1 : Int32) then (J26_59 v.2 v.1 y63) else (if y63 = (2 : Int32) then (J26_59 v.2 v.1 y63) else (J26_77 v.2 v.1 y63))) else some (.inl v.2)) else some (.inl v.2))
theorem tB26_28 (Ad : QAd n0 ad) (W : QW Z a0) (s : List Int32) (v : Int32 × Ob) {r : ((Ob)) ⊕ (Int32 × Ob)} {u : Option Value} {τ : QHeap} (h : B26_28 v = some r) (hx0 : ∀ x : Ob, r = .inl x → u = (none : Option Value) ∧ τ = (H0 s x)) (hc : ∀ x : Int32 × Ob, r = .inr x → QTri l Z n0 ad 26 (28, [vR 1, vI x.1, none], [], (H0 s x.2)) u τ) : QTri l Z n0 ad 26 (28, [vR 1, vI v.1, none], [], (H0 s v.2)) u τ := by
 unfold B26_28 at h
 refine zS Ad W 3 (st' := (33, [vR 1, vI v.1, none], [.int (f_n v.2), .int v.1], (H0 s v.2))) rfl ?_
 rcases qite h with ⟨hc61, h⟩ | ⟨hc61, h⟩
 ·refine zF Ad W (t := 106) (f := 36) rfl (XT.ii_ge_f hc61) ?_
  refine zS Ad W 2 (st' := (39, [vR 1, vI v.1, none], [.int (16:Int32), .int v.1], (H0 s v.2))) rfl ?_
  rcases qite h with ⟨hc62, h⟩ | ⟨hc62, h⟩
  ·refine zF Ad W (t := 106) (f := 42) rfl (XT.ii_ge_f hc62) ?_
   refine zS Ad W 3 (st' := (47, [vR 1, vI v.1, none], [.int v.1, .ref 6], (H0 s v.2))) rfl ?_
   obtain ⟨y63, hy63, h⟩ := bind_eq_some_iff.mp h
   refine zB Ad W (f := fun y63 => (48, [vR 1, vI v.1, none], [.int y63], (H0 s v.2))) rfl hy63 ?_
   refine zS Ad W 3 (st' := (51, [vR 1, vI v.1, vI y63], [.int (1:Int32), .int y63], (H0 s v.2))) rfl ?_
   rcases qite h with ⟨hc64, h⟩ | ⟨hc64, h⟩
   ·refine zT Ad W (t := 59) (f := 54) rfl (XT.ii_eq_t hc64) ?_
    exact zM [tt,tt,tt] (tJ26_59 Ad W s v.2 v.1 y63 h hx0 hc)
   ·refine zF Ad W (t := 59) (f := 54) rfl (XT.ii_eq_f hc64) ?_
    refine zS Ad W 2 (st' := (56, [vR 1, vI v.1, vI y63], [.int (2:Int32), .int y63], (H0 s v.2))) rfl ?_
    rcases qite h with ⟨hc84, h⟩ | ⟨hc84, h⟩
    ·refine zF Ad W (t := 77) (f := 59) rfl (XT.ii_ne_f hc84) ?_
     exact zM [tt,tt,tt] (tJ26_59 Ad W s v.2 v.1 y63 h hx0 hc)
    ·refine zT Ad W (t := 77) (f := 59) rfl (XT.ii_ne_t hc84) ?_
     exact zM [tt,tt,tt] (tJ26_77 Ad W s v.2 v.1 y63 h hx0 hc)
  ·refine zT Ad W (t := 106) (f := 42) rfl (XT.ii_ge_t hc62) ?_
   obtain rfl := Option.some.inj h
   obtain ⟨rfl, rfl⟩ := hx0 v.2 rfl
   exact QTri.ret0 rfl rfl
 ·refine zT Ad W (t := 106) (f := 36) rfl (XT.ii_ge_t hc61) ?_
  obtain rfl := Option.some.inj h
  obtain ⟨rfl, rfl⟩ := hx0 v.2 rfl
  exact QTri.ret0 rfl rfl
/-- collectEdges()V -/
def F26 (o : Ob) : Option (Ob) :=
 (loopN (B26_7) qN ((0:Int32), (s_edgeN o (0:Int32)))).bind fun e59 => (loopN (B26_28) qN ((0:Int32), e59)).bind fun e85 => some e85
theorem tF26 (Ad : QAd n0 ad) (W : QW Z a0) (s : List Int32) (o : Ob) {r : Ob} (h : F26 o = some r) : QTri l Z n0 ad 26 (0, qentry [.ref 1] (pMaxL 26), [], (H0 s o)) (none : Option Value) (H0 s r) := by
 unfold F26 at h
 refine zS Ad W 3 (st' := (5, [vR 1, none, none], [], (H0x14 s o (0:Int32)))) rfl ?_
 refine zS Ad W 2 (st' := (7, [vR 1, vI (0:Int32), none], [], (H0x14 s o (0:Int32)))) rfl ?_
 have E55 : ((H0x14 s o (0:Int32)) : QHeap) = (H0 s (s_edgeN o (0:Int32))) := by simp only [fs, H0, H0v, H0x14, s_edgeN]
 rw [E55]
 obtain ⟨e59, he59, h⟩ := bind_eq_some_iff.mp h
 refine zM [tt,tt,ff] (loopN_tri (B := B26_7) (T := fun lv60 => QTri l Z n0 ad 26 (7, [vR 1, vI lv60.1, none], [], (H0 s lv60.2)) (none : Option Value) (H0 s r)) (KE := fun e59a => QTri l Z n0 ad 26 (26, [vR 1, none, none], [], (H0 s e59a)) (none : Option Value) (H0 s r)) (fun lv60 r hB hE hC => tB26_7 Ad W s lv60 hB (fun x q => hE _ q) (fun x q => hC x q)) qN ((0:Int32), (s_edgeN o (0:Int32))) e59 he59 ?_)
 refine zS Ad W 2 (st' := (28, [vR 1, vI (0:Int32), none], [], (H0 s e59))) rfl ?_
 obtain ⟨e85, he85, h⟩ := bind_eq_some_iff.mp h
 refine zM [tt,tt,ff] (loopN_tri (B := B26_28) (T := fun lv86 => QTri l Z n0 ad 26 (28, [vR 1, vI lv86.1, none], [], (H0 s lv86.2)) (none : Option Value) (H0 s r)) (KE := fun e85a => (none : Option Value) = (none : Option Value) ∧ (H0 s r) = (H0 s e85a)) (fun lv86 r hB hE hC => tB26_28 Ad W s lv86 hB (fun x q => hE _ q) (fun x q => hC x q)) qN ((0:Int32), e59) e85 he85 ?_)
 obtain rfl := Option.some.inj h
 exact ⟨rfl, rfl⟩
/-- before(IIII)Z -/
def F36 (x1 : Int32) (x2 : Int32) (x3 : Int32) (x4 : Int32) : Option (Int32) :=
 (if x1 = x3 then (if x2 < x4 then some (1:Int32) else some (0:Int32)) else (if x3 < x1 then some (1:Int32) else some (0:Int32)))
theorem tF36 (Ad : QAd n0 ad) (W : QW Z a0) {a : Nat} {σ : QHeap} (x1 : Int32) (x2 : Int32) (x3 : Int32) (x4 : Int32) {r : Int32} (h : F36 x1 x2 x3 x4 = some r) : QTri l Z n0 ad 36 (0, qentry [.ref a, .int x1, .int x2, .int x3, .int x4] (pMaxL 36), [], σ) (some (Value.int r)) σ := by
 unfold F36 at h
 refine zS Ad W 2 (st' := (2, [vR a, vI x1, vI x2, vI x3, vI x4], [.int x3, .int x1], σ)) rfl ?_
 rcases qite h with ⟨hc95, h⟩ | ⟨hc95, h⟩
 ·refine zT Ad W (t := 16) (f := 5) rfl (XT.ii_eq_t hc95) ?_
  refine zS Ad W 2 (st' := (19, [vR a, vI x1, vI x2, vI x3, vI x4], [.int x4, .int x2], σ)) rfl ?_
  rcases qite h with ⟨hc96, h⟩ | ⟨hc96, h⟩
  ·refine zF Ad W (t := 26) (f := 22) rfl (XT.ii_ge_f hc96) ?_
   refine zS Ad W 2 (st' := (27, [vR a, vI x1, vI x2, vI x3, vI x4], [.int (1:Int32)], σ)) rfl ?_
   obtain rfl := Option.some.inj h
   exact QTri.retZ rfl rfl
  ·refine zT Ad W (t := 26) (f := 22) rfl (XT.ii_ge_t hc96) ?_
   refine zS Ad W 1 (st' := (27, [vR a, vI x1, vI x2, vI x3, vI x4], [.int (0:Int32)], σ)) rfl ?_
   obtain rfl := Option.some.inj h
   exact QTri.retZ rfl rfl
 ·refine zF Ad W (t := 16) (f := 5) rfl (XT.ii_eq_f hc95) ?_
  refine zS Ad W 2 (st' := (7, [vR a, vI x1, vI x2, vI x3, vI x4], [.int x3, .int x1], σ)) rfl ?_
  rcases qite h with ⟨hc97, h⟩ | ⟨hc97, h⟩
  ·refine zF Ad W (t := 14) (f := 10) rfl (XT.ii_le_f hc97) ?_
   refine zS Ad W 2 (st' := (15, [vR a, vI x1, vI x2, vI x3, vI x4], [.int (1:Int32)], σ)) rfl ?_
   obtain rfl := Option.some.inj h
   exact QTri.retZ rfl rfl
  ·refine zT Ad W (t := 14) (f := 10) rfl (XT.ii_le_t hc97) ?_
   refine zS Ad W 1 (st' := (15, [vR a, vI x1, vI x2, vI x3, vI x4], [.int (0:Int32)], σ)) rfl ?_
   obtain rfl := Option.some.inj h
   exact QTri.retZ rfl rfl
def B27_35 (x1 : Int32) (x2 : Int32) (x3 : Int32) (v : Int32 × Ob) : Option (((Int32 × Ob)) ⊕ (Int32 × Ob)) :=
  (if v.1 < (0 : Int32) then some (.inl (v.1, v.2)) else (aget (f_edgeW v.2) v.1).bind fun y93 => (aget (f_edgeId v.2) v.1).bind fun y94 => (F36 x3 x2 y93 y94).bind fun r98 => (if r98 = (0 : Int32) then some (.inl (v.1, v.2)) else (aget (f_edgeId v.2) v.1).bind fun y100 => (aset (f_edgeId v.2) (v.1 + (1 : Int32)) y100).bind fun y101 => (aget (f_edgeW v.2) v.1).bind fun y102 => (aset (f_edgeW v.2) (v.1 + (1 : Int32)) y102).bind fun y103 => some (.inr ((v.1 + (-1 : Int32)), (s_edgeW (s_edgeId v.2 y101) y103)))))
theorem tB27_35 (Ad : QAd n0 ad) (W : QW Z a0) (s : List Int32) (x1 : Int32) (x2 : Int32) (x3 : Int32) (v : Int32 × Ob) {r : ((Int32 × Ob)) ⊕ (Int32 × Ob)} {u : Option Value} {τ : QHeap} (h : B27_35 x1 x2 x3 v = some r) (hx0 : ∀ x : Int32 × Ob, r = .inl x → QTri l Z n0 ad 27 (101, [vR 1, vI x1, vI x2, vI x3, vI x.1], [], (H0 s x.2)) u τ) (hc : ∀ x : Int32 × Ob, r = .inr x → QTri l Z n0 ad 27 (35, [vR 1, vI x1, vI x2, vI x3, vI x.1], [], (H0 s x.2)) u τ) : QTri l Z n0 ad 27 (35, [vR 1, vI x1, vI x2, vI x3, vI v.1], [], (H0 s v.2)) u τ := by
 unfold B27_35 at h
 refine zS Ad W 1 (st' := (37, [vR 1, vI x1, vI x2, vI x3, vI v.1], [.int v.1], (H0 s v.2))) rfl ?_
 rcases qite h with ⟨hc92, h⟩ | ⟨hc92, h⟩
 ·refine zT Ad W (t := 101) (f := 40) rfl (XT.i0_lt_t hc92) ?_
  obtain rfl := Option.some.inj h
  exact zM [tt,tt,tt,tt,tt] (hx0 (v.1, v.2) rfl)
 ·refine zF Ad W (t := 101) (f := 40) rfl (XT.i0_lt_f hc92) ?_
  refine zS Ad W 6 (st' := (49, [vR 1, vI x1, vI x2, vI x3, vI v.1], [.int v.1, .ref 15, .int x2, .int x3, .ref 1], (H0 s v.2))) rfl ?_
  obtain ⟨y93, hy93, h⟩ := bind_eq_some_iff.mp h
  refine zB Ad W (f := fun y93 => (50, [vR 1, vI x1, vI x2, vI x3, vI v.1], [.int y93, .int x2, .int x3, .ref 1], (H0 s v.2))) rfl hy93 ?_
  refine zS Ad W 3 (st' := (56, [vR 1, vI x1, vI x2, vI x3, vI v.1], [.int v.1, .ref 14, .int y93, .int x2, .int x3, .ref 1], (H0 s v.2))) rfl ?_
  obtain ⟨y94, hy94, h⟩ := bind_eq_some_iff.mp h
  refine zB Ad W (f := fun y94 => (57, [vR 1, vI x1, vI x2, vI x3, vI v.1], [.int y94, .int y93, .int x2, .int x3, .ref 1], (H0 s v.2))) rfl hy94 ?_
  obtain ⟨r98, hr98, h⟩ := bind_eq_some_iff.mp h
  refine QTri.callP W (a := 1) (as := [.int x3, .int x2, .int y93, .int y94]) (rest := []) (w := (some (.int r98))) (σ₁ := (H0 s v.2)) rfl rfl rfl rfl rfl rfl rfl rfl (tF36 Ad W x3 x2 y93 y94 hr98) ?_
  rcases qite h with ⟨hc99, h⟩ | ⟨hc99, h⟩
  ·refine zT Ad W (t := 101) (f := 63) rfl (XT.i0_eq_t hc99) ?_
   obtain rfl := Option.some.inj h
   exact zM [tt,tt,tt,tt,tt] (hx0 (v.1, v.2) rfl)
  ·refine zF Ad W (t := 101) (f := 63) rfl (XT.i0_eq_f hc99) ?_
   refine zS Ad W 8 (st' := (77, [vR 1, vI x1, vI x2, vI x3, vI v.1], [.int v.1, .ref 14, .int (v.1 + (1:Int32)), .ref 14], (H0 s v.2))) rfl ?_
   obtain ⟨y100, hy100, h⟩ := bind_eq_some_iff.mp h
   refine zB Ad W (f := fun y100 => (78, [vR 1, vI x1, vI x2, vI x3, vI v.1], [.int y100, .int (v.1 + (1:Int32)), .ref 14], (H0 s v.2))) rfl hy100 ?_
   obtain ⟨y101, hy101, h⟩ := bind_eq_some_iff.mp h
   refine zB Ad W (f := fun y101 => (79, [vR 1, vI x1, vI x2, vI x3, vI v.1], [], (H0x16 s v.2 y101))) rfl hy101 ?_
   refine zS Ad W 8 (st' := (93, [vR 1, vI x1, vI x2, vI x3, vI v.1], [.int v.1, .ref 15, .int (v.1 + (1:Int32)), .ref 15], (H0x16 s v.2 y101))) rfl ?_
   obtain ⟨y102, hy102, h⟩ := bind_eq_some_iff.mp h
   refine zB Ad W (f := fun y102 => (94, [vR 1, vI x1, vI x2, vI x3, vI v.1], [.int y102, .int (v.1 + (1:Int32)), .ref 15], (H0x16 s v.2 y101))) rfl hy102 ?_
   obtain ⟨y103, hy103, h⟩ := bind_eq_some_iff.mp h
   refine zB Ad W (f := fun y103 => (95, [vR 1, vI x1, vI x2, vI x3, vI v.1], [], (H0x17 s v.2 y101 y103))) rfl hy103 ?_
   refine zS Ad W 2 (st' := (35, [vR 1, vI x1, vI x2, vI x3, vI (v.1 + (-1:Int32))], [], (H0x17 s v.2 y101 y103))) rfl ?_
   have E104 : ((H0x17 s v.2 y101 y103) : QHeap) = (H0 s (s_edgeW (s_edgeId v.2 y101) y103)) := by simp only [fs, H0, H0v, H0x17, s_edgeId, s_edgeW]
   rw [E104]
   obtain rfl := Option.some.inj h
   exact zM [tt,tt,tt,tt,tt] (hc ((v.1 + (-1:Int32)), (s_edgeW (s_edgeId v.2 y101) y103)) rfl)
def J27_101 (o : Ob) (x1 : Int32) (x2 : Int32) (x3 : Int32) (x4 : Int32) : Option (((Ob)) ⊕ (Int32 × Ob)) :=
  (aset (f_edgeId o) (x4 + (1 : Int32)) x2).bind fun y107 => (aset (f_edgeW o) (x4 + (1 : Int32)) x3).bind fun y108 => some (.inr ((x1 + (1 : Int32)), (s_edgeW (s_edgeId o y107) y108)))
theorem tJ27_101 (Ad : QAd n0 ad) (W : QW Z a0) (s : List Int32) (o : Ob) (x1 : Int32) (x2 : Int32) (x3 : Int32) (x4 : Int32) {r : ((Ob)) ⊕ (Int32 × Ob)} {u : Option Value} {τ : QHeap} (h : J27_101 o x1 x2 x3 x4 = some r) (hx0 : ∀ x : Ob, r = .inl x → u = (none : Option Value) ∧ τ = (H0 s x)) (hc : ∀ x : Int32 × Ob, r = .inr x → QTri l Z n0 ad 27 (2, [vR 1, vI x.1, none, none, none], [], (H0 s x.2)) u τ) : QTri l Z n0 ad 27 (101, [vR 1, vI x1, vI x2, vI x3, vI x4], [], (H0 s o)) u τ := by
 unfold J27_101 at h
 refine zS Ad W 6 (st' := (110, [vR 1, vI x1, vI x2, vI x3, vI x4], [.int x2, .int (x4 + (1:Int32)), .ref 14], (H0 s o))) rfl ?_
 obtain ⟨y107, hy107, h⟩ := bind_eq_some_iff.mp h
 refine zB Ad W (f := fun y107 => (111, [vR 1, vI x1, vI x2, vI x3, vI x4], [], (H0x16 s o y107))) rfl hy107 ?_
 refine zS Ad W 6 (st' := (120, [vR 1, vI x1, vI x2, vI x3, vI x4], [.int x3, .int (x4 + (1:Int32)), .ref 15], (H0x16 s o y107))) rfl ?_
 obtain ⟨y108, hy108, h⟩ := bind_eq_some_iff.mp h
 refine zB Ad W (f := fun y108 => (121, [vR 1, vI x1, vI x2, vI x3, vI x4], [], (H0x17 s o y107 y108))) rfl hy108 ?_
 refine zS Ad W 2 (st' := (2, [vR 1, vI (x1 + (1:Int32)), vI x2, vI x3, vI x4], [], (H0x17 s o y107 y108))) rfl ?_
 have E109 : ((H0x17 s o y107 y108) : QHeap) = (H0 s (s_edgeW (s_edgeId o y107) y108)) := by simp only [fs, H0, H0v, H0x17, s_edgeId, s_edgeW]
 rw [E109]
 obtain rfl := Option.some.inj h
 exact zM [tt,tt,ff,ff,ff] (hc ((x1 + (1:Int32)), (s_edgeW (s_edgeId o y107) y108)) rfl)
def B27_2 (v : Int32 × Ob) : Option (((Ob)) ⊕ (Int32 × Ob)) :=
  (if v.1 < (f_edgeN v.2) then (if v.1 < (32 : Int32) then (aget (f_edgeId v.2) v.1).bind fun y90 => (aget (f_edgeW v.2) v.1).bind fun y91 => (loopN (B27_35 v.1 y90 y91) qN ((v.1 - (1 : Int32)), v.2)).bind fun e105 => (J27_101 e105.2 v.1 y90 y91 e105.1) else some (.inl v.2)) else some (.inl v.2))
theorem tB27_2 (Ad : QAd n0 ad) (W : QW Z a0) (s : List Int32) (v : Int32 × Ob) {r : ((Ob)) ⊕ (Int32 × Ob)} {u : Option Value} {τ : QHeap} (h : B27_2 v = some r) (hx0 : ∀ x : Ob, r = .inl x → u = (none : Option Value) ∧ τ = (H0 s x)) (hc : ∀ x : Int32 × Ob, r = .inr x → QTri l Z n0 ad 27 (2, [vR 1, vI x.1, none, none, none], [], (H0 s x.2)) u τ) : QTri l Z n0 ad 27 (2, [vR 1, vI v.1, none, none, none], [], (H0 s v.2)) u τ := by
 unfold B27_2 at h
 refine zS Ad W 3 (st' := (7, [vR 1, vI v.1, none, none, none], [.int (f_edgeN v.2), .int v.1], (H0 s v.2))) rfl ?_
 rcases qite h with ⟨hc88, h⟩ | ⟨hc88, h⟩
 ·refine zF Ad W (t := 127) (f := 10) rfl (XT.ii_ge_f hc88) ?_
  refine zS Ad W 2 (st' := (13, [vR 1, vI v.1, none, none, none], [.int (32:Int32), .int v.1], (H0 s v.2))) rfl ?_
  rcases qite h with ⟨hc89, h⟩ | ⟨hc89, h⟩
  ·refine zF Ad W (t := 127) (f := 16) rfl (XT.ii_ge_f hc89) ?_
   refine zS Ad W 3 (st' := (21, [vR 1, vI v.1, none, none, none], [.int v.1, .ref 14], (H0 s v.2))) rfl ?_
   obtain ⟨y90, hy90, h⟩ := bind_eq_some_iff.mp h
   refine zB Ad W (f := fun y90 => (22, [vR 1, vI v.1, none, none, none], [.int y90], (H0 s v.2))) rfl hy90 ?_
   refine zS Ad W 4 (st' := (28, [vR 1, vI v.1, vI y90, none, none], [.int v.1, .ref 15], (H0 s v.2))) rfl ?_
   obtain ⟨y91, hy91, h⟩ := bind_eq_some_iff.mp h
   refine zB Ad W (f := fun y91 => (29, [vR 1, vI v.1, vI y90, none, none], [.int y91], (H0 s v.2))) rfl hy91 ?_
   refine zS Ad W 5 (st' := (35, [vR 1, vI v.1, vI y90, vI y91, vI (v.1 - (1:Int32))], [], (H0 s v.2))) rfl ?_
   obtain ⟨e105, he105, h⟩ := bind_eq_some_iff.mp h
   refine zM [tt,tt,tt,tt,tt] (loopN_tri (B := B27_35 v.1 y90 y91) (T := fun lv106 => QTri l Z n0 ad 27 (35, [vR 1, vI v.1, vI y90, vI y91, vI lv106.1], [], (H0 s lv106.2)) u τ) (KE := fun e105a => QTri l Z n0 ad 27 (101, [vR 1, vI v.1, vI y90, vI y91, vI e105a.1], [], (H0 s e105a.2)) u τ) (fun lv106 r hB hE hC => tB27_35 Ad W s v.1 y90 y91 lv106 hB (fun x q => hE _ q) (fun x q => hC x q)) qN ((v.1 - (1:Int32)), v.2) e105 he105 ?_)
   exact zM [tt,tt,tt,tt,tt] (tJ27_101 Ad W s e105.2 v.1 y90 y91 e105.1 h hx0 hc)
  ·refine zT Ad W (t := 127) (f := 16) rfl (XT.ii_ge_t hc89) ?_
   obtain rfl := Option.some.inj h
   obtain ⟨rfl, rfl⟩ := hx0 v.2 rfl
   exact QTri.ret0 rfl rfl
 ·refine zT Ad W (t := 127) (f := 10) rfl (XT.ii_ge_t hc88) ?_
  obtain rfl := Option.some.inj h
  obtain ⟨rfl, rfl⟩ := hx0 v.2 rfl
  exact QTri.ret0 rfl rfl
/-- sortEdges()V -/
def F27 (o : Ob) : Option (Ob) :=
 (loopN (B27_2) qN ((1:Int32), o)).bind fun e110 => some e110
theorem tF27 (Ad : QAd n0 ad) (W : QW Z a0) (s : List Int32) (o : Ob) {r : Ob} (h : F27 o = some r) : QTri l Z n0 ad 27 (0, qentry [.ref 1] (pMaxL 27), [], (H0 s o)) (none : Option Value) (H0 s r) := by
 unfold F27 at h
 refine zS Ad W 2 (st' := (2, [vR 1, vI (1:Int32), none, none, none], [], (H0 s o))) rfl ?_
 obtain ⟨e110, he110, h⟩ := bind_eq_some_iff.mp h
 refine zM [tt,tt,ff,ff,ff] (loopN_tri (B := B27_2) (T := fun lv111 => QTri l Z n0 ad 27 (2, [vR 1, vI lv111.1, none, none, none], [], (H0 s lv111.2)) (none : Option Value) (H0 s r)) (KE := fun e110a => (none : Option Value) = (none : Option Value) ∧ (H0 s r) = (H0 s e110a)) (fun lv111 r hB hE hC => tB27_2 Ad W s lv111 hB (fun x q => hE _ q) (fun x q => hC x q)) qN ((1:Int32), o) e110 he110 ?_)
 obtain rfl := Option.some.inj h
 exact ⟨rfl, rfl⟩
def H0x19 (s : List Int32) (o0 : Ob) (a0_14 : List Int32) : QHeap := H0v s (f_bOp o0) (f_bD o0) (f_bS o0) (f_bImm o0) (f_bTerm o0) (f_bTest o0) (f_bT0 o0) (f_bT1 o0) (f_cnt0 o0) (f_cnt1 o0) (f_regs o0) (f_outs o0) (f_edgeId o0) (f_edgeW o0) a0_14 (f_chPrev o0) (f_chHead o0) (f_heat o0) (f_posOf o0) (f_order o0) (f_cOp o0) (f_cD o0) (f_cS o0) (f_cImm o0) (f_cKind o0) (f_cTest o0) (f_cTaken o0) (f_cOther o0) (f_maxBlocks o0) (f_maxSteps o0) (f_n o0) (f_arranged o0) (f_outCount o0) (f_steps o0) (f_status o0) (f_edgeN o0)
def H0x20 (s : List Int32) (o0 : Ob) (a0_14 : List Int32) (a0_15 : List Int32) : QHeap := H0v s (f_bOp o0) (f_bD o0) (f_bS o0) (f_bImm o0) (f_bTerm o0) (f_bTest o0) (f_bT0 o0) (f_bT1 o0) (f_cnt0 o0) (f_cnt1 o0) (f_regs o0) (f_outs o0) (f_edgeId o0) (f_edgeW o0) a0_14 a0_15 (f_chHead o0) (f_heat o0) (f_posOf o0) (f_order o0) (f_cOp o0) (f_cD o0) (f_cS o0) (f_cImm o0) (f_cKind o0) (f_cTest o0) (f_cTaken o0) (f_cOther o0) (f_maxBlocks o0) (f_maxSteps o0) (f_n o0) (f_arranged o0) (f_outCount o0) (f_steps o0) (f_status o0) (f_edgeN o0)
def H0x21 (s : List Int32) (o0 : Ob) (a0_14 : List Int32) (a0_15 : List Int32) (a0_16 : List Int32) : QHeap := H0v s (f_bOp o0) (f_bD o0) (f_bS o0) (f_bImm o0) (f_bTerm o0) (f_bTest o0) (f_bT0 o0) (f_bT1 o0) (f_cnt0 o0) (f_cnt1 o0) (f_regs o0) (f_outs o0) (f_edgeId o0) (f_edgeW o0) a0_14 a0_15 a0_16 (f_heat o0) (f_posOf o0) (f_order o0) (f_cOp o0) (f_cD o0) (f_cS o0) (f_cImm o0) (f_cKind o0) (f_cTest o0) (f_cTaken o0) (f_cOther o0) (f_maxBlocks o0) (f_maxSteps o0) (f_n o0) (f_arranged o0) (f_outCount o0) (f_steps o0) (f_status o0) (f_edgeN o0)
def B28_2 (v : Int32 × Ob) : Option (((Ob)) ⊕ (Int32 × Ob)) :=
  (if v.1 < (16 : Int32) then (aset (f_chNext v.2) v.1 (-1 : Int32)).bind fun y114 => (aset (f_chPrev v.2) v.1 (-1 : Int32)).bind fun y115 => (aset (f_chHead v.2) v.1 v.1).bind fun y116 => some (.inr ((v.1 + (1 : Int32)), (s_chHead (s_chPrev (s_chNext v.2 y114) y115) y116))) else some (.inl v.2))
theorem tB28_2 (Ad : QAd n0 ad) (W : QW Z a0) (s : List Int32) (v : Int32 × Ob) {r : ((Ob)) ⊕ (Int32 × Ob)} {u : Option Value} {τ : QHeap} (h : B28_2 v = some r) (hx0 : ∀ x : Ob, r = .inl x → QTri l Z n0 ad 28 (35, [vR 1, none, none, none, none], [], (H0 s x)) u τ) (hc : ∀ x : Int32 × Ob, r = .inr x → QTri l Z n0 ad 28 (2, [vR 1, vI x.1, none, none, none], [], (H0 s x.2)) u τ) : QTri l Z n0 ad 28 (2, [vR 1, vI v.1, none, none, none], [], (H0 s v.2)) u τ := by
 unfold B28_2 at h
 refine zS Ad W 2 (st' := (5, [vR 1, vI v.1, none, none, none], [.int (16:Int32), .int v.1], (H0 s v.2))) rfl ?_
 rcases qite h with ⟨hc113, h⟩ | ⟨hc113, h⟩
 ·refine zF Ad W (t := 35) (f := 8) rfl (XT.ii_ge_f hc113) ?_
  refine zS Ad W 4 (st' := (14, [vR 1, vI v.1, none, none, none], [.int (-1:Int32), .int v.1, .ref 16], (H0 s v.2))) rfl ?_
  obtain ⟨y114, hy114, h⟩ := bind_eq_some_iff.mp h
  refine zB Ad W (f := fun y114 => (15, [vR 1, vI v.1, none, none, none], [], (H0x19 s v.2 y114))) rfl hy114 ?_
  refine zS Ad W 4 (st' := (21, [vR 1, vI v.1, none, none, none], [.int (-1:Int32), .int v.1, .ref 17], (H0x19 s v.2 y114))) rfl ?_
  obtain ⟨y115, hy115, h⟩ := bind_eq_some_iff.mp h
  refine zB Ad W (f := fun y115 => (22, [vR 1, vI v.1, none, none, none], [], (H0x20 s v.2 y114 y115))) rfl hy115 ?_
  refine zS Ad W 4 (st' := (28, [vR 1, vI v.1, none, none, none], [.int v.1, .int v.1, .ref 18], (H0x20 s v.2 y114 y115))) rfl ?_
  obtain ⟨y116, hy116, h⟩ := bind_eq_some_iff.mp h
  refine zB Ad W (f := fun y116 => (29, [vR 1, vI v.1, none, none, none], [], (H0x21 s v.2 y114 y115 y116))) rfl hy116 ?_
  refine zS Ad W 2 (st' := (2, [vR 1, vI (v.1 + (1:Int32)), none, none, none], [], (H0x21 s v.2 y114 y115 y116))) rfl ?_
  have E117 : ((H0x21 s v.2 y114 y115 y116) : QHeap) = (H0 s (s_chHead (s_chPrev (s_chNext v.2 y114) y115) y116)) := by simp only [fs, H0, H0v, H0x21, s_chNext, s_chPrev, s_chHead]
  rw [E117]
  obtain rfl := Option.some.inj h
  exact zM [tt,tt,ff,ff,ff] (hc ((v.1 + (1:Int32)), (s_chHead (s_chPrev (s_chNext v.2 y114) y115) y116)) rfl)
 ·refine zT Ad W (t := 35) (f := 8) rfl (XT.ii_ge_t hc113) ?_
  obtain rfl := Option.some.inj h
  exact zM [tt,ff,ff,ff,ff] (hx0 v.2 rfl)
def H0x22 (s : List Int32) (o0 : Ob) (a0_16 : List Int32) : QHeap := H0v s (f_bOp o0) (f_bD o0) (f_bS o0) (f_bImm o0) (f_bTerm o0) (f_bTest o0) (f_bT0 o0) (f_bT1 o0) (f_cnt0 o0) (f_cnt1 o0) (f_regs o0) (f_outs o0) (f_edgeId o0) (f_edgeW o0) (f_chNext o0) (f_chPrev o0) a0_16 (f_heat o0) (f_posOf o0) (f_order o0) (f_cOp o0) (f_cD o0) (f_cS o0) (f_cImm o0) (f_cKind o0) (f_cTest o0) (f_cTaken o0) (f_cOther o0) (f_maxBlocks o0) (f_maxSteps o0) (f_n o0) (f_arranged o0) (f_outCount o0) (f_steps o0) (f_status o0) (f_edgeN o0)
def B37_79 (x3 : Int32) (v : Int32 × Int32 × Ob) : Option (((Ob)) ⊕ (Int32 × Int32 × Ob)) :=
  (if v.2.1 < (16 : Int32) then (if v.1 < (0 : Int32) then some (.inl v.2.2) else (aset (f_chHead v.2.2) v.1 x3).bind fun y141 => (aget (f_chNext v.2.2) v.1).bind fun y142 => some (.inr (y142, (v.2.1 + (1 : Int32)), (s_chHead v.2.2 y141)))) else some (.inl v.2.2))
theorem tB37_79 (Ad : QAd n0 ad) (W : QW Z a0) (s : List Int32) (x3 : Int32) (v : Int32 × Int32 × Ob) {r : ((Ob)) ⊕ (Int32 × Int32 × Ob)} {u : Option Value} {τ : QHeap} (h : B37_79 x3 v = some r) (hx0 : ∀ x : Ob, r = .inl x → u = (none : Option Value) ∧ τ = (H0 s x)) (hc : ∀ x : Int32 × Int32 × Ob, r = .inr x → QTri l Z n0 ad 37 (79, [vR 1, none, none, vI x3, vI x.1, vI x.2.1], [], (H0 s x.2.2)) u τ) : QTri l Z n0 ad 37 (79, [vR 1, none, none, vI x3, vI v.1, vI v.2.1], [], (H0 s v.2.2)) u τ := by
 unfold B37_79 at h
 refine zS Ad W 2 (st' := (83, [vR 1, none, none, vI x3, vI v.1, vI v.2.1], [.int (16:Int32), .int v.2.1], (H0 s v.2.2))) rfl ?_
 rcases qite h with ⟨hc139, h⟩ | ⟨hc139, h⟩
 ·refine zF Ad W (t := 114) (f := 86) rfl (XT.ii_ge_f hc139) ?_
  refine zS Ad W 1 (st' := (88, [vR 1, none, none, vI x3, vI v.1, vI v.2.1], [.int v.1], (H0 s v.2.2))) rfl ?_
  rcases qite h with ⟨hc140, h⟩ | ⟨hc140, h⟩
  ·refine zT Ad W (t := 114) (f := 91) rfl (XT.i0_lt_t hc140) ?_
   obtain rfl := Option.some.inj h
   obtain ⟨rfl, rfl⟩ := hx0 v.2.2 rfl
   exact QTri.ret0 rfl rfl
  ·refine zF Ad W (t := 114) (f := 91) rfl (XT.i0_lt_f hc140) ?_
   refine zS Ad W 4 (st' := (98, [vR 1, none, none, vI x3, vI v.1, vI v.2.1], [.int x3, .int v.1, .ref 18], (H0 s v.2.2))) rfl ?_
   obtain ⟨y141, hy141, h⟩ := bind_eq_some_iff.mp h
   refine zB Ad W (f := fun y141 => (99, [vR 1, none, none, vI x3, vI v.1, vI v.2.1], [], (H0x22 s v.2.2 y141))) rfl hy141 ?_
   refine zS Ad W 3 (st' := (105, [vR 1, none, none, vI x3, vI v.1, vI v.2.1], [.int v.1, .ref 16], (H0x22 s v.2.2 y141))) rfl ?_
   obtain ⟨y142, hy142, h⟩ := bind_eq_some_iff.mp h
   refine zB Ad W (f := fun y142 => (106, [vR 1, none, none, vI x3, vI v.1, vI v.2.1], [.int y142], (H0x22 s v.2.2 y141))) rfl hy142 ?_
   refine zS Ad W 2 (st' := (111, [vR 1, none, none, vI x3, vI y142, vI (v.2.1 + (1:Int32))], [], (H0x22 s v.2.2 y141))) rfl ?_
   refine zS Ad W 1 (st' := (79, [vR 1, none, none, vI x3, vI y142, vI (v.2.1 + (1:Int32))], [], (H0x22 s v.2.2 y141))) rfl ?_
   have E143 : ((H0x22 s v.2.2 y141) : QHeap) = (H0 s (s_chHead v.2.2 y141)) := by simp only [fs, H0, H0v, H0x22, s_chHead]
   rw [E143]
   obtain rfl := Option.some.inj h
   exact zM [tt,ff,ff,tt,tt,tt] (hc (y142, (v.2.1 + (1:Int32)), (s_chHead v.2.2 y141)) rfl)
 ·refine zT Ad W (t := 114) (f := 86) rfl (XT.ii_ge_t hc139) ?_
  obtain rfl := Option.some.inj h
  obtain ⟨rfl, rfl⟩ := hx0 v.2.2 rfl
  exact QTri.ret0 rfl rfl
/-- tryMerge(II)V -/
def F37 (o : Ob) (x1 : Int32) (x2 : Int32) : Option (Ob) :=
 (if x1 < (0:Int32) then some o else (if x1 < (16:Int32) then (if (0:Int32) < x2 then (if x2 < (16:Int32) then (aget (f_chNext o) x1).bind fun y129 => (if y129 = (-1:Int32) then (aget (f_chPrev o) x2).bind fun y131 => (if y131 = (-1:Int32) then (aget (f_chHead o) x1).bind fun y133 => (if y133 = x2 then some o else (aset (f_chNext o) x1 x2).bind fun y135 => (aset (f_chPrev o) x2 x1).bind fun y136 => (aget (f_chHead o) x1).bind fun y137 => (loopN (B37_79 y137) qN (x2, (0:Int32), (s_chPrev (s_chNext o y135) y136))).bind fun e144 => some e144) else some o) else some o) else some o) else some o) else some o))
theorem tF37 (Ad : QAd n0 ad) (W : QW Z a0) (s : List Int32) (o : Ob) (x1 : Int32) (x2 : Int32) {r : Ob} (h : F37 o x1 x2 = some r) : QTri l Z n0 ad 37 (0, qentry [.ref 1, .int x1, .int x2] (pMaxL 37), [], (H0 s o)) (none : Option Value) (H0 s r) := by
 unfold F37 at h
 refine zS Ad W 1 (st' := (1, [vR 1, vI x1, vI x2, none, none, none], [.int x1], (H0 s o))) rfl ?_
 rcases qite h with ⟨hc125, h⟩ | ⟨hc125, h⟩
 ·refine zT Ad W (t := 20) (f := 4) rfl (XT.i0_lt_t hc125) ?_
  obtain rfl := Option.some.inj h
  exact QTri.ret0 rfl rfl
 ·refine zF Ad W (t := 20) (f := 4) rfl (XT.i0_lt_f hc125) ?_
  refine zS Ad W 2 (st' := (7, [vR 1, vI x1, vI x2, none, none, none], [.int (16:Int32), .int x1], (H0 s o))) rfl ?_
  rcases qite h with ⟨hc126, h⟩ | ⟨hc126, h⟩
  ·refine zF Ad W (t := 20) (f := 10) rfl (XT.ii_ge_f hc126) ?_
   refine zS Ad W 1 (st' := (11, [vR 1, vI x1, vI x2, none, none, none], [.int x2], (H0 s o))) rfl ?_
   rcases qite h with ⟨hc127, h⟩ | ⟨hc127, h⟩
   ·refine zF Ad W (t := 20) (f := 14) rfl (XT.i0_le_f hc127) ?_
    refine zS Ad W 2 (st' := (17, [vR 1, vI x1, vI x2, none, none, none], [.int (16:Int32), .int x2], (H0 s o))) rfl ?_
    rcases qite h with ⟨hc128, h⟩ | ⟨hc128, h⟩
    ·refine zT Ad W (t := 21) (f := 20) rfl (XT.ii_lt_t hc128) ?_
     refine zS Ad W 3 (st' := (26, [vR 1, vI x1, vI x2, none, none, none], [.int x1, .ref 16], (H0 s o))) rfl ?_
     obtain ⟨y129, hy129, h⟩ := bind_eq_some_iff.mp h
     refine zB Ad W (f := fun y129 => (27, [vR 1, vI x1, vI x2, none, none, none], [.int y129], (H0 s o))) rfl hy129 ?_
     refine zS Ad W 1 (st' := (28, [vR 1, vI x1, vI x2, none, none, none], [.int (-1:Int32), .int y129], (H0 s o))) rfl ?_
     rcases qite h with ⟨hc130, h⟩ | ⟨hc130, h⟩
     ·refine zF Ad W (t := 51) (f := 31) rfl (XT.ii_ne_f hc130) ?_
      refine zS Ad W 3 (st' := (36, [vR 1, vI x1, vI x2, none, none, none], [.int x2, .ref 17], (H0 s o))) rfl ?_
      obtain ⟨y131, hy131, h⟩ := bind_eq_some_iff.mp h
      refine zB Ad W (f := fun y131 => (37, [vR 1, vI x1, vI x2, none, none, none], [.int y131], (H0 s o))) rfl hy131 ?_
      refine zS Ad W 1 (st' := (38, [vR 1, vI x1, vI x2, none, none, none], [.int (-1:Int32), .int y131], (H0 s o))) rfl ?_
      rcases qite h with ⟨hc132, h⟩ | ⟨hc132, h⟩
      ·refine zF Ad W (t := 51) (f := 41) rfl (XT.ii_ne_f hc132) ?_
       refine zS Ad W 3 (st' := (46, [vR 1, vI x1, vI x2, none, none, none], [.int x1, .ref 18], (H0 s o))) rfl ?_
       obtain ⟨y133, hy133, h⟩ := bind_eq_some_iff.mp h
       refine zB Ad W (f := fun y133 => (47, [vR 1, vI x1, vI x2, none, none, none], [.int y133], (H0 s o))) rfl hy133 ?_
       refine zS Ad W 1 (st' := (48, [vR 1, vI x1, vI x2, none, none, none], [.int x2, .int y133], (H0 s o))) rfl ?_
       rcases qite h with ⟨hc134, h⟩ | ⟨hc134, h⟩
       ·refine zF Ad W (t := 52) (f := 51) rfl (XT.ii_ne_f hc134) ?_
        obtain rfl := Option.some.inj h
        exact QTri.ret0 rfl rfl
       ·refine zT Ad W (t := 52) (f := 51) rfl (XT.ii_ne_t hc134) ?_
        refine zS Ad W 4 (st' := (58, [vR 1, vI x1, vI x2, none, none, none], [.int x2, .int x1, .ref 16], (H0 s o))) rfl ?_
        obtain ⟨y135, hy135, h⟩ := bind_eq_some_iff.mp h
        refine zB Ad W (f := fun y135 => (59, [vR 1, vI x1, vI x2, none, none, none], [], (H0x19 s o y135))) rfl hy135 ?_
        refine zS Ad W 4 (st' := (65, [vR 1, vI x1, vI x2, none, none, none], [.int x1, .int x2, .ref 17], (H0x19 s o y135))) rfl ?_
        obtain ⟨y136, hy136, h⟩ := bind_eq_some_iff.mp h
        refine zB Ad W (f := fun y136 => (66, [vR 1, vI x1, vI x2, none, none, none], [], (H0x20 s o y135 y136))) rfl hy136 ?_
        refine zS Ad W 3 (st' := (71, [vR 1, vI x1, vI x2, none, none, none], [.int x1, .ref 18], (H0x20 s o y135 y136))) rfl ?_
        obtain ⟨y137, hy137, h⟩ := bind_eq_some_iff.mp h
        refine zB Ad W (f := fun y137 => (72, [vR 1, vI x1, vI x2, none, none, none], [.int y137], (H0x20 s o y135 y136))) rfl hy137 ?_
        refine zS Ad W 3 (st' := (76, [vR 1, vI x1, vI x2, vI y137, vI x2, none], [], (H0x20 s o y135 y136))) rfl ?_
        refine zS Ad W 2 (st' := (79, [vR 1, vI x1, vI x2, vI y137, vI x2, vI (0:Int32)], [], (H0x20 s o y135 y136))) rfl ?_
        have E138 : ((H0x20 s o y135 y136) : QHeap) = (H0 s (s_chPrev (s_chNext o y135) y136)) := by simp only [fs, H0, H0v, H0x20, s_chNext, s_chPrev]
        rw [E138]
        obtain ⟨e144, he144, h⟩ := bind_eq_some_iff.mp h
        refine zM [tt,ff,ff,tt,tt,tt] (loopN_tri (B := B37_79 y137) (T := fun lv145 => QTri l Z n0 ad 37 (79, [vR 1, none, none, vI y137, vI lv145.1, vI lv145.2.1], [], (H0 s lv145.2.2)) (none : Option Value) (H0 s r)) (KE := fun e144a => (none : Option Value) = (none : Option Value) ∧ (H0 s r) = (H0 s e144a)) (fun lv145 r hB hE hC => tB37_79 Ad W s y137 lv145 hB (fun x q => hE _ q) (fun x q => hC x q)) qN (x2, (0:Int32), (s_chPrev (s_chNext o y135) y136)) e144 he144 ?_)
        obtain rfl := Option.some.inj h
        exact ⟨rfl, rfl⟩
      ·refine zT Ad W (t := 51) (f := 41) rfl (XT.ii_ne_t hc132) ?_
       obtain rfl := Option.some.inj h
       exact QTri.ret0 rfl rfl
     ·refine zT Ad W (t := 51) (f := 31) rfl (XT.ii_ne_t hc130) ?_
      obtain rfl := Option.some.inj h
      exact QTri.ret0 rfl rfl
    ·refine zF Ad W (t := 21) (f := 20) rfl (XT.ii_lt_f hc128) ?_
     obtain rfl := Option.some.inj h
     exact QTri.ret0 rfl rfl
   ·refine zT Ad W (t := 20) (f := 14) rfl (XT.i0_le_t hc127) ?_
    obtain rfl := Option.some.inj h
    exact QTri.ret0 rfl rfl
  ·refine zT Ad W (t := 20) (f := 10) rfl (XT.ii_ge_t hc126) ?_
   obtain rfl := Option.some.inj h
   exact QTri.ret0 rfl rfl
def J28_87 (o : Ob) (x1 : Int32) (x3 : Int32) (x4 : Int32) : Option (((Ob)) ⊕ (Int32 × Ob)) :=
  (F37 o x3 x4).bind fun r146 => some (.inr ((x1 + (1 : Int32)), r146))
theorem tJ28_87 (Ad : QAd n0 ad) (W : QW Z a0) (s : List Int32) (o : Ob) (x1 : Int32) (x3 : Int32) (x4 : Int32) {r : ((Ob)) ⊕ (Int32 × Ob)} {u : Option Value} {τ : QHeap} (h : J28_87 o x1 x3 x4 = some r) (hx0 : ∀ x : Ob, r = .inl x → u = (none : Option Value) ∧ τ = (H0 s x)) (hc : ∀ x : Int32 × Ob, r = .inr x → QTri l Z n0 ad 28 (37, [vR 1, vI x.1, none, none, none], [], (H0 s x.2)) u τ) : QTri l Z n0 ad 28 (87, [vR 1, vI x1, none, vI x3, vI x4], [], (H0 s o)) u τ := by
 unfold J28_87 at h
 refine zS Ad W 3 (st' := (91, [vR 1, vI x1, none, vI x3, vI x4], [.int x4, .int x3, .ref 1], (H0 s o))) rfl ?_
 obtain ⟨r146, hr146, h⟩ := bind_eq_some_iff.mp h
 refine QTri.callP W (a := 1) (as := [.int x3, .int x4]) (rest := []) (w := none) (σ₁ := (H0 s r146)) rfl rfl rfl rfl rfl rfl rfl rfl (tF37 Ad W s o x3 x4 hr146) ?_
 refine zS Ad W 2 (st' := (37, [vR 1, vI (x1 + (1:Int32)), none, vI x3, vI x4], [], (H0 s r146))) rfl ?_
 obtain rfl := Option.some.inj h
 exact zM [tt,tt,ff,ff,ff] (hc ((x1 + (1:Int32)), r146) rfl)
def B28_37 (v : Int32 × Ob) : Option (((Ob)) ⊕ (Int32 × Ob)) :=
  (if v.1 < (f_edgeN v.2) then (if v.1 < (32 : Int32) then (aget (f_edgeId v.2) v.1).bind fun y122 => (if (y122 &&& (1 : Int32)) = (0 : Int32) then (aget (f_bT0 v.2) (y122 >>> ((1 : Int32) &&& 31))).bind fun y124 => (J28_87 v.2 v.1 (y122 >>> ((1 : Int32) &&& 31)) y124) else (aget (f_bT1 v.2) (y122 >>> ((1 : Int32) &&& 31))).bind fun y147 => (J28_87 v.2 v.1 (y122 >>> ((1 : Int32) &&& 31)) y147)) else some (.inl v.2)) else some (.inl v.2))
theorem tB28_37 (Ad : QAd n0 ad) (W : QW Z a0) (s : List Int32) (v : Int32 × Ob) {r : ((Ob)) ⊕ (Int32 × Ob)} {u : Option Value} {τ : QHeap} (h : B28_37 v = some r) (hx0 : ∀ x : Ob, r = .inl x → u = (none : Option Value) ∧ τ = (H0 s x)) (hc : ∀ x : Int32 × Ob, r = .inr x → QTri l Z n0 ad 28 (37, [vR 1, vI x.1, none, none, none], [], (H0 s x.2)) u τ) : QTri l Z n0 ad 28 (37, [vR 1, vI v.1, none, none, none], [], (H0 s v.2)) u τ := by
 unfold B28_37 at h
 refine zS Ad W 3 (st' := (42, [vR 1, vI v.1, none, none, none], [.int (f_edgeN v.2), .int v.1], (H0 s v.2))) rfl ?_
 rcases qite h with ⟨hc120, h⟩ | ⟨hc120, h⟩
 ·refine zF Ad W (t := 100) (f := 45) rfl (XT.ii_ge_f hc120) ?_
  refine zS Ad W 2 (st' := (48, [vR 1, vI v.1, none, none, none], [.int (32:Int32), .int v.1], (H0 s v.2))) rfl ?_
  rcases qite h with ⟨hc121, h⟩ | ⟨hc121, h⟩
  ·refine zF Ad W (t := 100) (f := 51) rfl (XT.ii_ge_f hc121) ?_
   refine zS Ad W 3 (st' := (56, [vR 1, vI v.1, none, none, none], [.int v.1, .ref 14], (H0 s v.2))) rfl ?_
   obtain ⟨y122, hy122, h⟩ := bind_eq_some_iff.mp h
   refine zB Ad W (f := fun y122 => (57, [vR 1, vI v.1, none, none, none], [.int y122], (H0 s v.2))) rfl hy122 ?_
   refine zS Ad W 5 (st' := (62, [vR 1, vI v.1, vI y122, vI (y122 >>> ((1:Int32) &&& 31)), none], [], (H0 s v.2))) rfl ?_
   refine zS Ad W 3 (st' := (65, [vR 1, vI v.1, vI y122, vI (y122 >>> ((1:Int32) &&& 31)), none], [.int (y122 &&& (1:Int32))], (H0 s v.2))) rfl ?_
   rcases qite h with ⟨hc123, h⟩ | ⟨hc123, h⟩
   ·refine zF Ad W (t := 79) (f := 68) rfl (XT.i0_ne_f hc123) ?_
    refine zS Ad W 3 (st' := (73, [vR 1, vI v.1, vI y122, vI (y122 >>> ((1:Int32) &&& 31)), none], [.int (y122 >>> ((1:Int32) &&& 31)), .ref 8], (H0 s v.2))) rfl ?_
    obtain ⟨y124, hy124, h⟩ := bind_eq_some_iff.mp h
    refine zB Ad W (f := fun y124 => (74, [vR 1, vI v.1, vI y122, vI (y122 >>> ((1:Int32) &&& 31)), none], [.int y124], (H0 s v.2))) rfl hy124 ?_
    refine zS Ad W 2 (st' := (87, [vR 1, vI v.1, vI y122, vI (y122 >>> ((1:Int32) &&& 31)), vI y124], [], (H0 s v.2))) rfl ?_
    exact zM [tt,tt,ff,tt,tt] (tJ28_87 Ad W s v.2 v.1 (y122 >>> ((1:Int32) &&& 31)) y124 h hx0 hc)
   ·refine zT Ad W (t := 79) (f := 68) rfl (XT.i0_ne_t hc123) ?_
    refine zS Ad W 3 (st' := (84, [vR 1, vI v.1, vI y122, vI (y122 >>> ((1:Int32) &&& 31)), none], [.int (y122 >>> ((1:Int32) &&& 31)), .ref 9], (H0 s v.2))) rfl ?_
    obtain ⟨y147, hy147, h⟩ := bind_eq_some_iff.mp h
    refine zB Ad W (f := fun y147 => (85, [vR 1, vI v.1, vI y122, vI (y122 >>> ((1:Int32) &&& 31)), none], [.int y147], (H0 s v.2))) rfl hy147 ?_
    refine zS Ad W 1 (st' := (87, [vR 1, vI v.1, vI y122, vI (y122 >>> ((1:Int32) &&& 31)), vI y147], [], (H0 s v.2))) rfl ?_
    exact zM [tt,tt,ff,tt,tt] (tJ28_87 Ad W s v.2 v.1 (y122 >>> ((1:Int32) &&& 31)) y147 h hx0 hc)
  ·refine zT Ad W (t := 100) (f := 51) rfl (XT.ii_ge_t hc121) ?_
   obtain rfl := Option.some.inj h
   obtain ⟨rfl, rfl⟩ := hx0 v.2 rfl
   exact QTri.ret0 rfl rfl
 ·refine zT Ad W (t := 100) (f := 45) rfl (XT.ii_ge_t hc120) ?_
  obtain rfl := Option.some.inj h
  obtain ⟨rfl, rfl⟩ := hx0 v.2 rfl
  exact QTri.ret0 rfl rfl
/-- buildChains()V -/
def F28 (o : Ob) : Option (Ob) :=
 (loopN (B28_2) qN ((0:Int32), o)).bind fun e118 => (loopN (B28_37) qN ((0:Int32), e118)).bind fun e148 => some e148
theorem tF28 (Ad : QAd n0 ad) (W : QW Z a0) (s : List Int32) (o : Ob) {r : Ob} (h : F28 o = some r) : QTri l Z n0 ad 28 (0, qentry [.ref 1] (pMaxL 28), [], (H0 s o)) (none : Option Value) (H0 s r) := by
 unfold F28 at h
 refine zS Ad W 2 (st' := (2, [vR 1, vI (0:Int32), none, none, none], [], (H0 s o))) rfl ?_
 obtain ⟨e118, he118, h⟩ := bind_eq_some_iff.mp h
 refine zM [tt,tt,ff,ff,ff] (loopN_tri (B := B28_2) (T := fun lv119 => QTri l Z n0 ad 28 (2, [vR 1, vI lv119.1, none, none, none], [], (H0 s lv119.2)) (none : Option Value) (H0 s r)) (KE := fun e118a => QTri l Z n0 ad 28 (35, [vR 1, none, none, none, none], [], (H0 s e118a)) (none : Option Value) (H0 s r)) (fun lv119 r hB hE hC => tB28_2 Ad W s lv119 hB (fun x q => hE _ q) (fun x q => hC x q)) qN ((0:Int32), o) e118 he118 ?_)
 refine zS Ad W 2 (st' := (37, [vR 1, vI (0:Int32), none, none, none], [], (H0 s e118))) rfl ?_
 obtain ⟨e148, he148, h⟩ := bind_eq_some_iff.mp h
 refine zM [tt,tt,ff,ff,ff] (loopN_tri (B := B28_37) (T := fun lv149 => QTri l Z n0 ad 28 (37, [vR 1, vI lv149.1, none, none, none], [], (H0 s lv149.2)) (none : Option Value) (H0 s r)) (KE := fun e148a => (none : Option Value) = (none : Option Value) ∧ (H0 s r) = (H0 s e148a)) (fun lv149 r hB hE hC => tB28_37 Ad W s lv149 hB (fun x q => hE _ q) (fun x q => hC x q)) qN ((0:Int32), e118) e148 he148 ?_)
 obtain rfl := Option.some.inj h
 exact ⟨rfl, rfl⟩
def H0x23 (s : List Int32) (o0 : Ob) (a0_18 : List Int32) : QHeap := H0v s (f_bOp o0) (f_bD o0) (f_bS o0) (f_bImm o0) (f_bTerm o0) (f_bTest o0) (f_bT0 o0) (f_bT1 o0) (f_cnt0 o0) (f_cnt1 o0) (f_regs o0) (f_outs o0) (f_edgeId o0) (f_edgeW o0) (f_chNext o0) (f_chPrev o0) (f_chHead o0) (f_heat o0) a0_18 (f_order o0) (f_cOp o0) (f_cD o0) (f_cS o0) (f_cImm o0) (f_cKind o0) (f_cTest o0) (f_cTaken o0) (f_cOther o0) (f_maxBlocks o0) (f_maxSteps o0) (f_n o0) (f_arranged o0) (f_outCount o0) (f_steps o0) (f_status o0) (f_edgeN o0)
def B29_2 (v : Int32 × Ob) : Option (((Ob)) ⊕ (Int32 × Ob)) :=
  (if v.1 < (16 : Int32) then (aset (f_posOf v.2) v.1 (-1 : Int32)).bind fun y152 => some (.inr ((v.1 + (1 : Int32)), (s_posOf v.2 y152))) else some (.inl v.2))
theorem tB29_2 (Ad : QAd n0 ad) (W : QW Z a0) (s : List Int32) (v : Int32 × Ob) {r : ((Ob)) ⊕ (Int32 × Ob)} {u : Option Value} {τ : QHeap} (h : B29_2 v = some r) (hx0 : ∀ x : Ob, r = .inl x → QTri l Z n0 ad 29 (21, [vR 1, none, none, none, none], [], (H0 s x)) u τ) (hc : ∀ x : Int32 × Ob, r = .inr x → QTri l Z n0 ad 29 (2, [vR 1, vI x.1, none, none, none], [], (H0 s x.2)) u τ) : QTri l Z n0 ad 29 (2, [vR 1, vI v.1, none, none, none], [], (H0 s v.2)) u τ := by
 unfold B29_2 at h
 refine zS Ad W 2 (st' := (5, [vR 1, vI v.1, none, none, none], [.int (16:Int32), .int v.1], (H0 s v.2))) rfl ?_
 rcases qite h with ⟨hc151, h⟩ | ⟨hc151, h⟩
 ·refine zF Ad W (t := 21) (f := 8) rfl (XT.ii_ge_f hc151) ?_
  refine zS Ad W 4 (st' := (14, [vR 1, vI v.1, none, none, none], [.int (-1:Int32), .int v.1, .ref 20], (H0 s v.2))) rfl ?_
  obtain ⟨y152, hy152, h⟩ := bind_eq_some_iff.mp h
  refine zB Ad W (f := fun y152 => (15, [vR 1, vI v.1, none, none, none], [], (H0x23 s v.2 y152))) rfl hy152 ?_
  refine zS Ad W 2 (st' := (2, [vR 1, vI (v.1 + (1:Int32)), none, none, none], [], (H0x23 s v.2 y152))) rfl ?_
  have E153 : ((H0x23 s v.2 y152) : QHeap) = (H0 s (s_posOf v.2 y152)) := by simp only [fs, H0, H0v, H0x23, s_posOf]
  rw [E153]
  obtain rfl := Option.some.inj h
  exact zM [tt,tt,ff,ff,ff] (hc ((v.1 + (1:Int32)), (s_posOf v.2 y152)) rfl)
 ·refine zT Ad W (t := 21) (f := 8) rfl (XT.ii_ge_t hc151) ?_
  obtain rfl := Option.some.inj h
  exact zM [tt,ff,ff,ff,ff] (hx0 v.2 rfl)
def H0x24 (s : List Int32) (o0 : Ob) (a0_19 : List Int32) : QHeap := H0v s (f_bOp o0) (f_bD o0) (f_bS o0) (f_bImm o0) (f_bTerm o0) (f_bTest o0) (f_bT0 o0) (f_bT1 o0) (f_cnt0 o0) (f_cnt1 o0) (f_regs o0) (f_outs o0) (f_edgeId o0) (f_edgeW o0) (f_chNext o0) (f_chPrev o0) (f_chHead o0) (f_heat o0) (f_posOf o0) a0_19 (f_cOp o0) (f_cD o0) (f_cS o0) (f_cImm o0) (f_cKind o0) (f_cTest o0) (f_cTaken o0) (f_cOther o0) (f_maxBlocks o0) (f_maxSteps o0) (f_n o0) (f_arranged o0) (f_outCount o0) (f_steps o0) (f_status o0) (f_edgeN o0)
def H0x25 (s : List Int32) (o0 : Ob) (a0_18 : List Int32) (a0_19 : List Int32) : QHeap := H0v s (f_bOp o0) (f_bD o0) (f_bS o0) (f_bImm o0) (f_bTerm o0) (f_bTest o0) (f_bT0 o0) (f_bT1 o0) (f_cnt0 o0) (f_cnt1 o0) (f_regs o0) (f_outs o0) (f_edgeId o0) (f_edgeW o0) (f_chNext o0) (f_chPrev o0) (f_chHead o0) (f_heat o0) a0_18 a0_19 (f_cOp o0) (f_cD o0) (f_cS o0) (f_cImm o0) (f_cKind o0) (f_cTest o0) (f_cTaken o0) (f_cOther o0) (f_maxBlocks o0) (f_maxSteps o0) (f_n o0) (f_arranged o0) (f_outCount o0) (f_steps o0) (f_status o0) (f_edgeN o0)
def B30_8 (v : Int32 × Int32 × Int32 × Ob) : Option (((Int32 × Ob)) ⊕ (Int32 × Int32 × Int32 × Ob)) :=
  (if v.2.2.1 < (16 : Int32) then (if v.2.1 < (0 : Int32) then some (.inl (v.1, v.2.2.2)) else (if v.1 < (16 : Int32) then (aset (f_order v.2.2.2) v.1 v.2.1).bind fun y159 => (aset (f_posOf v.2.2.2) v.2.1 v.1).bind fun y160 => (aget (f_chNext v.2.2.2) v.2.1).bind fun y161 => some (.inr ((v.1 + (1 : Int32)), y161, (v.2.2.1 + (1 : Int32)), (s_posOf (s_order v.2.2.2 y159) y160))) else some (.inl (v.1, v.2.2.2)))) else some (.inl (v.1, v.2.2.2)))
theorem tB30_8 (Ad : QAd n0 ad) (W : QW Z a0) (s : List Int32) (v : Int32 × Int32 × Int32 × Ob) {r : ((Int32 × Ob)) ⊕ (Int32 × Int32 × Int32 × Ob)} {u : Option Value} {τ : QHeap} (h : B30_8 v = some r) (hx0 : ∀ x : Int32 × Ob, r = .inl x → u = (some (Value.int x.1)) ∧ τ = (H0 s x.2)) (hc : ∀ x : Int32 × Int32 × Int32 × Ob, r = .inr x → QTri l Z n0 ad 30 (8, [vR 1, none, none, vI x.1, vI x.2.1, vI x.2.2.1], [], (H0 s x.2.2.2)) u τ) : QTri l Z n0 ad 30 (8, [vR 1, none, none, vI v.1, vI v.2.1, vI v.2.2.1], [], (H0 s v.2.2.2)) u τ := by
 unfold B30_8 at h
 refine zS Ad W 2 (st' := (12, [vR 1, none, none, vI v.1, vI v.2.1, vI v.2.2.1], [.int (16:Int32), .int v.2.2.1], (H0 s v.2.2.2))) rfl ?_
 rcases qite h with ⟨hc156, h⟩ | ⟨hc156, h⟩
 ·refine zF Ad W (t := 60) (f := 15) rfl (XT.ii_ge_f hc156) ?_
  refine zS Ad W 1 (st' := (17, [vR 1, none, none, vI v.1, vI v.2.1, vI v.2.2.1], [.int v.2.1], (H0 s v.2.2.2))) rfl ?_
  rcases qite h with ⟨hc157, h⟩ | ⟨hc157, h⟩
  ·refine zT Ad W (t := 60) (f := 20) rfl (XT.i0_lt_t hc157) ?_
   refine zS Ad W 1 (st' := (61, [vR 1, none, none, vI v.1, vI v.2.1, vI v.2.2.1], [.int v.1], (H0 s v.2.2.2))) rfl ?_
   obtain rfl := Option.some.inj h
   obtain ⟨rfl, rfl⟩ := hx0 (v.1, v.2.2.2) rfl
   exact QTri.retI rfl rfl
  ·refine zF Ad W (t := 60) (f := 20) rfl (XT.i0_lt_f hc157) ?_
   refine zS Ad W 2 (st' := (23, [vR 1, none, none, vI v.1, vI v.2.1, vI v.2.2.1], [.int (16:Int32), .int v.1], (H0 s v.2.2.2))) rfl ?_
   rcases qite h with ⟨hc158, h⟩ | ⟨hc158, h⟩
   ·refine zF Ad W (t := 60) (f := 26) rfl (XT.ii_ge_f hc158) ?_
    refine zS Ad W 4 (st' := (33, [vR 1, none, none, vI v.1, vI v.2.1, vI v.2.2.1], [.int v.2.1, .int v.1, .ref 21], (H0 s v.2.2.2))) rfl ?_
    obtain ⟨y159, hy159, h⟩ := bind_eq_some_iff.mp h
    refine zB Ad W (f := fun y159 => (34, [vR 1, none, none, vI v.1, vI v.2.1, vI v.2.2.1], [], (H0x24 s v.2.2.2 y159))) rfl hy159 ?_
    refine zS Ad W 4 (st' := (41, [vR 1, none, none, vI v.1, vI v.2.1, vI v.2.2.1], [.int v.1, .int v.2.1, .ref 20], (H0x24 s v.2.2.2 y159))) rfl ?_
    obtain ⟨y160, hy160, h⟩ := bind_eq_some_iff.mp h
    refine zB Ad W (f := fun y160 => (42, [vR 1, none, none, vI v.1, vI v.2.1, vI v.2.2.1], [], (H0x25 s v.2.2.2 y160 y159))) rfl hy160 ?_
    refine zS Ad W 4 (st' := (51, [vR 1, none, none, vI (v.1 + (1:Int32)), vI v.2.1, vI v.2.2.1], [.int v.2.1, .ref 16], (H0x25 s v.2.2.2 y160 y159))) rfl ?_
    obtain ⟨y161, hy161, h⟩ := bind_eq_some_iff.mp h
    refine zB Ad W (f := fun y161 => (52, [vR 1, none, none, vI (v.1 + (1:Int32)), vI v.2.1, vI v.2.2.1], [.int y161], (H0x25 s v.2.2.2 y160 y159))) rfl hy161 ?_
    refine zS Ad W 2 (st' := (57, [vR 1, none, none, vI (v.1 + (1:Int32)), vI y161, vI (v.2.2.1 + (1:Int32))], [], (H0x25 s v.2.2.2 y160 y159))) rfl ?_
    refine zS Ad W 1 (st' := (8, [vR 1, none, none, vI (v.1 + (1:Int32)), vI y161, vI (v.2.2.1 + (1:Int32))], [], (H0x25 s v.2.2.2 y160 y159))) rfl ?_
    have E162 : ((H0x25 s v.2.2.2 y160 y159) : QHeap) = (H0 s (s_posOf (s_order v.2.2.2 y159) y160)) := by simp only [fs, H0, H0v, H0x25, s_posOf, s_order]
    rw [E162]
    obtain rfl := Option.some.inj h
    exact zM [tt,ff,ff,tt,tt,tt] (hc ((v.1 + (1:Int32)), y161, (v.2.2.1 + (1:Int32)), (s_posOf (s_order v.2.2.2 y159) y160)) rfl)
   ·refine zT Ad W (t := 60) (f := 26) rfl (XT.ii_ge_t hc158) ?_
    refine zS Ad W 1 (st' := (61, [vR 1, none, none, vI v.1, vI v.2.1, vI v.2.2.1], [.int v.1], (H0 s v.2.2.2))) rfl ?_
    obtain rfl := Option.some.inj h
    obtain ⟨rfl, rfl⟩ := hx0 (v.1, v.2.2.2) rfl
    exact QTri.retI rfl rfl
 ·refine zT Ad W (t := 60) (f := 15) rfl (XT.ii_ge_t hc156) ?_
  refine zS Ad W 1 (st' := (61, [vR 1, none, none, vI v.1, vI v.2.1, vI v.2.2.1], [.int v.1], (H0 s v.2.2.2))) rfl ?_
  obtain rfl := Option.some.inj h
  obtain ⟨rfl, rfl⟩ := hx0 (v.1, v.2.2.2) rfl
  exact QTri.retI rfl rfl
/-- placeChain(II)I -/
def F30 (o : Ob) (x1 : Int32) (x2 : Int32) : Option (Int32 × Ob) :=
 (loopN (B30_8) qN (x2, x1, (0:Int32), o)).bind fun e163 => some e163
theorem tF30 (Ad : QAd n0 ad) (W : QW Z a0) (s : List Int32) (o : Ob) (x1 : Int32) (x2 : Int32) {r : Int32 × Ob} (h : F30 o x1 x2 = some r) : QTri l Z n0 ad 30 (0, qentry [.ref 1, .int x1, .int x2] (pMaxL 30), [], (H0 s o)) (some (Value.int r.1)) (H0 s r.2) := by
 unfold F30 at h
 refine zS Ad W 4 (st' := (5, [vR 1, vI x1, vI x2, vI x2, vI x1, none], [], (H0 s o))) rfl ?_
 refine zS Ad W 2 (st' := (8, [vR 1, vI x1, vI x2, vI x2, vI x1, vI (0:Int32)], [], (H0 s o))) rfl ?_
 obtain ⟨e163, he163, h⟩ := bind_eq_some_iff.mp h
 refine zM [tt,ff,ff,tt,tt,tt] (loopN_tri (B := B30_8) (T := fun lv164 => QTri l Z n0 ad 30 (8, [vR 1, none, none, vI lv164.1, vI lv164.2.1, vI lv164.2.2.1], [], (H0 s lv164.2.2.2)) (some (Value.int r.1)) (H0 s r.2)) (KE := fun e163a => (some (Value.int r.1)) = (some (Value.int e163a.1)) ∧ (H0 s r.2) = (H0 s e163a.2)) (fun lv164 r hB hE hC => tB30_8 Ad W s lv164 hB (fun x q => hE _ q) (fun x q => hC x q)) qN (x2, x1, (0:Int32), o) e163 he163 ?_)
 obtain rfl := Option.some.inj h
 exact ⟨rfl, rfl⟩
def J29_109 (o : Ob) (x1 : Int32) (x2 : Int32) (x3 : Int32) (x4 : Int32) : Option (((Int32)) ⊕ (Int32 × Int32)) :=
  some (.inr (x3, (x4 + (1 : Int32))))
theorem tJ29_109 (Ad : QAd n0 ad) (W : QW Z a0) (s : List Int32) (o : Ob) (x1 : Int32) (x2 : Int32) (x3 : Int32) (x4 : Int32) {r : ((Int32)) ⊕ (Int32 × Int32)} {u : Option Value} {τ : QHeap} (h : J29_109 o x1 x2 x3 x4 = some r) (hx0 : ∀ x : Int32, r = .inl x → QTri l Z n0 ad 29 (115, [vR 1, vI x1, vI x2, vI x, none], [], (H0 s o)) u τ) (hc : ∀ x : Int32 × Int32, r = .inr x → QTri l Z n0 ad 29 (49, [vR 1, vI x1, vI x2, vI x.1, vI x.2], [], (H0 s o)) u τ) : QTri l Z n0 ad 29 (109, [vR 1, vI x1, vI x2, vI x3, vI x4], [], (H0 s o)) u τ := by
 unfold J29_109 at h
 refine zS Ad W 2 (st' := (49, [vR 1, vI x1, vI x2, vI x3, vI (x4 + (1:Int32))], [], (H0 s o))) rfl ?_
 obtain rfl := Option.some.inj h
 exact zM [tt,tt,tt,tt,tt] (hc (x3, (x4 + (1:Int32))) rfl)
def J29_106 (o : Ob) (x1 : Int32) (x2 : Int32) (x4 : Int32) : Option (((Int32)) ⊕ (Int32 × Int32)) :=
  (J29_109 o x1 x2 x4 x4)
theorem tJ29_106 (Ad : QAd n0 ad) (W : QW Z a0) (s : List Int32) (o : Ob) (x1 : Int32) (x2 : Int32) (x4 : Int32) {r : ((Int32)) ⊕ (Int32 × Int32)} {u : Option Value} {τ : QHeap} (h : J29_106 o x1 x2 x4 = some r) (hx0 : ∀ x : Int32, r = .inl x → QTri l Z n0 ad 29 (115, [vR 1, vI x1, vI x2, vI x, none], [], (H0 s o)) u τ) (hc : ∀ x : Int32 × Int32, r = .inr x → QTri l Z n0 ad 29 (49, [vR 1, vI x1, vI x2, vI x.1, vI x.2], [], (H0 s o)) u τ) : QTri l Z n0 ad 29 (106, [vR 1, vI x1, vI x2, none, vI x4], [], (H0 s o)) u τ := by
 unfold J29_106 at h
 refine zS Ad W 2 (st' := (109, [vR 1, vI x1, vI x2, vI x4, vI x4], [], (H0 s o))) rfl ?_
 exact zM [tt,tt,tt,tt,tt] (tJ29_109 Ad W s o x1 x2 x4 x4 h hx0 hc)
def B29_49 (o : Ob) (x1 : Int32) (x2 : Int32) (v : Int32 × Int32) : Option (((Int32)) ⊕ (Int32 × Int32)) :=
  (if v.2 < (f_n o) then (if v.2 < (16 : Int32) then (aget (f_chPrev o) v.2).bind fun y170 => (if y170 = (-1 : Int32) then (aget (f_posOf o) v.2).bind fun y172 => (if y172 < (0 : Int32) then (if v.1 < (0 : Int32) then (J29_106 o x1 x2 v.2) else (aget (f_heat o) v.2).bind fun y175 => (aget (f_heat o) v.1).bind fun y176 => (J29_109 o x1 x2 (if y176 < y175 then v.2 else v.1) v.2)) else (J29_109 o x1 x2 v.1 v.2)) else (J29_109 o x1 x2 v.1 v.2)) else some (.inl v.1)) else some (.inl v.1))
theorem tB29_49 (Ad : QAd n0 ad) (W : QW Z a0) (s : List Int32) (o : Ob) (x1 : Int32) (x2 : Int32) (v : Int32 × Int32) {r : ((Int32)) ⊕ (Int32 × Int32)} {u : Option Value} {τ : QHeap} (h : B29_49 o x1 x2 v = some r) (hx0 : ∀ x : Int32, r = .inl x → QTri l Z n0 ad 29 (115, [vR 1, vI x1, vI x2, vI x, none], [], (H0 s o)) u τ) (hc : ∀ x : Int32 × Int32, r = .inr x → QTri l Z n0 ad 29 (49, [vR 1, vI x1, vI x2, vI x.1, vI x.2], [], (H0 s o)) u τ) : QTri l Z n0 ad 29 (49, [vR 1, vI x1, vI x2, vI v.1, vI v.2], [], (H0 s o)) u τ := by
 unfold B29_49 at h
 refine zS Ad W 3 (st' := (55, [vR 1, vI x1, vI x2, vI v.1, vI v.2], [.int (f_n o), .int v.2], (H0 s o))) rfl ?_
 rcases qite h with ⟨hc168, h⟩ | ⟨hc168, h⟩
 ·refine zF Ad W (t := 115) (f := 58) rfl (XT.ii_ge_f hc168) ?_
  refine zS Ad W 2 (st' := (62, [vR 1, vI x1, vI x2, vI v.1, vI v.2], [.int (16:Int32), .int v.2], (H0 s o))) rfl ?_
  rcases qite h with ⟨hc169, h⟩ | ⟨hc169, h⟩
  ·refine zF Ad W (t := 115) (f := 65) rfl (XT.ii_ge_f hc169) ?_
   refine zS Ad W 3 (st' := (71, [vR 1, vI x1, vI x2, vI v.1, vI v.2], [.int v.2, .ref 17], (H0 s o))) rfl ?_
   obtain ⟨y170, hy170, h⟩ := bind_eq_some_iff.mp h
   refine zB Ad W (f := fun y170 => (72, [vR 1, vI x1, vI x2, vI v.1, vI v.2], [.int y170], (H0 s o))) rfl hy170 ?_
   refine zS Ad W 1 (st' := (73, [vR 1, vI x1, vI x2, vI v.1, vI v.2], [.int (-1:Int32), .int y170], (H0 s o))) rfl ?_
   rcases qite h with ⟨hc171, h⟩ | ⟨hc171, h⟩
   ·refine zF Ad W (t := 109) (f := 76) rfl (XT.ii_ne_f hc171) ?_
    refine zS Ad W 3 (st' := (82, [vR 1, vI x1, vI x2, vI v.1, vI v.2], [.int v.2, .ref 20], (H0 s o))) rfl ?_
    obtain ⟨y172, hy172, h⟩ := bind_eq_some_iff.mp h
    refine zB Ad W (f := fun y172 => (83, [vR 1, vI x1, vI x2, vI v.1, vI v.2], [.int y172], (H0 s o))) rfl hy172 ?_
    rcases qite h with ⟨hc173, h⟩ | ⟨hc173, h⟩
    ·refine zF Ad W (t := 109) (f := 86) rfl (XT.i0_ge_f hc173) ?_
     refine zS Ad W 1 (st' := (87, [vR 1, vI x1, vI x2, vI v.1, vI v.2], [.int v.1], (H0 s o))) rfl ?_
     rcases qite h with ⟨hc174, h⟩ | ⟨hc174, h⟩
     ·refine zT Ad W (t := 106) (f := 90) rfl (XT.i0_lt_t hc174) ?_
      exact zM [tt,tt,tt,ff,tt] (tJ29_106 Ad W s o x1 x2 v.2 h hx0 hc)
     ·refine zF Ad W (t := 106) (f := 90) rfl (XT.i0_lt_f hc174) ?_
      refine zS Ad W 3 (st' := (96, [vR 1, vI x1, vI x2, vI v.1, vI v.2], [.int v.2, .ref 19], (H0 s o))) rfl ?_
      obtain ⟨y175, hy175, h⟩ := bind_eq_some_iff.mp h
      refine zB Ad W (f := fun y175 => (97, [vR 1, vI x1, vI x2, vI v.1, vI v.2], [.int y175], (H0 s o))) rfl hy175 ?_
      refine zS Ad W 3 (st' := (102, [vR 1, vI x1, vI x2, vI v.1, vI v.2], [.int v.1, .ref 19, .int y175], (H0 s o))) rfl ?_
      obtain ⟨y176, hy176, h⟩ := bind_eq_some_iff.mp h
      refine zB Ad W (f := fun y176 => (103, [vR 1, vI x1, vI x2, vI v.1, vI v.2], [.int y176, .int y175], (H0 s o))) rfl hy176 ?_
      have K178 : ∀ z177 : Int32, z177 = (if y176 < y175 then v.2 else v.1) → QTri l Z n0 ad 29 (109, [vR 1, vI x1, vI x2, vI z177, vI v.2], [], (H0 s o)) u τ := by
       intro z177 ez177
       subst ez177
       exact zM [tt,tt,tt,tt,tt] (tJ29_109 Ad W s o x1 x2 (if y176 < y175 then v.2 else v.1) v.2 h hx0 hc)
      rcases em (y176 < y175) with hc179 | hc179
      ·refine zF Ad W (t := 109) (f := 106) rfl (XT.ii_le_f hc179) ?_
       refine zS Ad W 2 (st' := (109, [vR 1, vI x1, vI x2, vI v.2, vI v.2], [], (H0 s o))) rfl ?_
       exact zM [tt,tt,tt,tt,tt] (K178 _ (if_pos hc179).symm)
      ·refine zT Ad W (t := 109) (f := 106) rfl (XT.ii_le_t hc179) ?_
       exact zM [tt,tt,tt,tt,tt] (K178 _ (if_neg hc179).symm)
    ·refine zT Ad W (t := 109) (f := 86) rfl (XT.i0_ge_t hc173) ?_
     exact zM [tt,tt,tt,tt,tt] (tJ29_109 Ad W s o x1 x2 v.1 v.2 h hx0 hc)
   ·refine zT Ad W (t := 109) (f := 76) rfl (XT.ii_ne_t hc171) ?_
    exact zM [tt,tt,tt,tt,tt] (tJ29_109 Ad W s o x1 x2 v.1 v.2 h hx0 hc)
  ·refine zT Ad W (t := 115) (f := 65) rfl (XT.ii_ge_t hc169) ?_
   obtain rfl := Option.some.inj h
   exact zM [tt,tt,tt,tt,ff] (hx0 v.1 rfl)
 ·refine zT Ad W (t := 115) (f := 58) rfl (XT.ii_ge_t hc168) ?_
  obtain rfl := Option.some.inj h
  exact zM [tt,tt,tt,tt,ff] (hx0 v.1 rfl)
def J29_115 (o : Ob) (x1 : Int32) (x2 : Int32) (x3 : Int32) : Option (((Ob)) ⊕ (Int32 × Int32 × Ob)) :=
  (if x3 < (0 : Int32) then some (.inl o) else (F30 o x3 x1).bind fun r183 => some (.inr (r183.1, (x2 + (1 : Int32)), r183.2)))
theorem tJ29_115 (Ad : QAd n0 ad) (W : QW Z a0) (s : List Int32) (o : Ob) (x1 : Int32) (x2 : Int32) (x3 : Int32) {r : ((Ob)) ⊕ (Int32 × Int32 × Ob)} {u : Option Value} {τ : QHeap} (h : J29_115 o x1 x2 x3 = some r) (hx0 : ∀ x : Ob, r = .inl x → u = (none : Option Value) ∧ τ = (H0 s x)) (hc : ∀ x : Int32 × Int32 × Ob, r = .inr x → QTri l Z n0 ad 29 (30, [vR 1, vI x.1, vI x.2.1, none, none], [], (H0 s x.2.2)) u τ) : QTri l Z n0 ad 29 (115, [vR 1, vI x1, vI x2, vI x3, none], [], (H0 s o)) u τ := by
 unfold J29_115 at h
 refine zS Ad W 1 (st' := (116, [vR 1, vI x1, vI x2, vI x3, none], [.int x3], (H0 s o))) rfl ?_
 rcases qite h with ⟨hc182, h⟩ | ⟨hc182, h⟩
 ·refine zF Ad W (t := 122) (f := 119) rfl (XT.i0_ge_f hc182) ?_
  refine zS Ad W 1 (st' := (135, [vR 1, vI x1, vI x2, vI x3, none], [], (H0 s o))) rfl ?_
  obtain rfl := Option.some.inj h
  obtain ⟨rfl, rfl⟩ := hx0 o rfl
  exact QTri.ret0 rfl rfl
 ·refine zT Ad W (t := 122) (f := 119) rfl (XT.i0_ge_t hc182) ?_
  refine zS Ad W 3 (st' := (125, [vR 1, vI x1, vI x2, vI x3, none], [.int x1, .int x3, .ref 1], (H0 s o))) rfl ?_
  obtain ⟨r183, hr183, h⟩ := bind_eq_some_iff.mp h
  refine QTri.callP W (a := 1) (as := [.int x3, .int x1]) (rest := []) (w := (some (.int r183.1))) (σ₁ := (H0 s r183.2)) rfl rfl rfl rfl rfl rfl rfl rfl (tF30 Ad W s o x3 x1 hr183) ?_
  refine zS Ad W 2 (st' := (132, [vR 1, vI r183.1, vI (x2 + (1:Int32)), vI x3, none], [], (H0 s r183.2))) rfl ?_
  refine zS Ad W 1 (st' := (30, [vR 1, vI r183.1, vI (x2 + (1:Int32)), vI x3, none], [], (H0 s r183.2))) rfl ?_
  obtain rfl := Option.some.inj h
  exact zM [tt,tt,tt,ff,ff] (hc (r183.1, (x2 + (1:Int32)), r183.2) rfl)
def B29_30 (v : Int32 × Int32 × Ob) : Option (((Ob)) ⊕ (Int32 × Int32 × Ob)) :=
  (if v.2.1 < (f_n v.2.2) then (if v.2.1 < (16 : Int32) then (loopN (B29_49 v.2.2 v.1 v.2.1) qN ((-1 : Int32), (1 : Int32))).bind fun e180 => (J29_115 v.2.2 v.1 v.2.1 e180) else some (.inl v.2.2)) else some (.inl v.2.2))
theorem tB29_30 (Ad : QAd n0 ad) (W : QW Z a0) (s : List Int32) (v : Int32 × Int32 × Ob) {r : ((Ob)) ⊕ (Int32 × Int32 × Ob)} {u : Option Value} {τ : QHeap} (h : B29_30 v = some r) (hx0 : ∀ x : Ob, r = .inl x → u = (none : Option Value) ∧ τ = (H0 s x)) (hc : ∀ x : Int32 × Int32 × Ob, r = .inr x → QTri l Z n0 ad 29 (30, [vR 1, vI x.1, vI x.2.1, none, none], [], (H0 s x.2.2)) u τ) : QTri l Z n0 ad 29 (30, [vR 1, vI v.1, vI v.2.1, none, none], [], (H0 s v.2.2)) u τ := by
 unfold B29_30 at h
 refine zS Ad W 3 (st' := (35, [vR 1, vI v.1, vI v.2.1, none, none], [.int (f_n v.2.2), .int v.2.1], (H0 s v.2.2))) rfl ?_
 rcases qite h with ⟨hc166, h⟩ | ⟨hc166, h⟩
 ·refine zF Ad W (t := 135) (f := 38) rfl (XT.ii_ge_f hc166) ?_
  refine zS Ad W 2 (st' := (41, [vR 1, vI v.1, vI v.2.1, none, none], [.int (16:Int32), .int v.2.1], (H0 s v.2.2))) rfl ?_
  rcases qite h with ⟨hc167, h⟩ | ⟨hc167, h⟩
  ·refine zF Ad W (t := 135) (f := 44) rfl (XT.ii_ge_f hc167) ?_
   refine zS Ad W 4 (st' := (49, [vR 1, vI v.1, vI v.2.1, vI (-1:Int32), vI (1:Int32)], [], (H0 s v.2.2))) rfl ?_
   obtain ⟨e180, he180, h⟩ := bind_eq_some_iff.mp h
   refine zM [tt,tt,tt,tt,tt] (loopN_tri (B := B29_49 v.2.2 v.1 v.2.1) (T := fun lv181 => QTri l Z n0 ad 29 (49, [vR 1, vI v.1, vI v.2.1, vI lv181.1, vI lv181.2], [], (H0 s v.2.2)) u τ) (KE := fun e180a => QTri l Z n0 ad 29 (115, [vR 1, vI v.1, vI v.2.1, vI e180a, none], [], (H0 s v.2.2)) u τ) (fun lv181 r hB hE hC => tB29_49 Ad W s v.2.2 v.1 v.2.1 lv181 hB (fun x q => hE _ q) (fun x q => hC x q)) qN ((-1:Int32), (1:Int32)) e180 he180 ?_)
   exact zM [tt,tt,tt,tt,ff] (tJ29_115 Ad W s v.2.2 v.1 v.2.1 e180 h hx0 hc)
  ·refine zT Ad W (t := 135) (f := 44) rfl (XT.ii_ge_t hc167) ?_
   obtain rfl := Option.some.inj h
   obtain ⟨rfl, rfl⟩ := hx0 v.2.2 rfl
   exact QTri.ret0 rfl rfl
 ·refine zT Ad W (t := 135) (f := 38) rfl (XT.ii_ge_t hc166) ?_
  obtain rfl := Option.some.inj h
  obtain ⟨rfl, rfl⟩ := hx0 v.2.2 rfl
  exact QTri.ret0 rfl rfl
/-- placeChains()V -/
def F29 (o : Ob) : Option (Ob) :=
 (loopN (B29_2) qN ((0:Int32), o)).bind fun e154 => (F30 e154 (0:Int32) (0:Int32)).bind fun r165 => (loopN (B29_30) qN (r165.1, (0:Int32), r165.2)).bind fun e184 => some e184
theorem tF29 (Ad : QAd n0 ad) (W : QW Z a0) (s : List Int32) (o : Ob) {r : Ob} (h : F29 o = some r) : QTri l Z n0 ad 29 (0, qentry [.ref 1] (pMaxL 29), [], (H0 s o)) (none : Option Value) (H0 s r) := by
 unfold F29 at h
 refine zS Ad W 2 (st' := (2, [vR 1, vI (0:Int32), none, none, none], [], (H0 s o))) rfl ?_
 obtain ⟨e154, he154, h⟩ := bind_eq_some_iff.mp h
 refine zM [tt,tt,ff,ff,ff] (loopN_tri (B := B29_2) (T := fun lv155 => QTri l Z n0 ad 29 (2, [vR 1, vI lv155.1, none, none, none], [], (H0 s lv155.2)) (none : Option Value) (H0 s r)) (KE := fun e154a => QTri l Z n0 ad 29 (21, [vR 1, none, none, none, none], [], (H0 s e154a)) (none : Option Value) (H0 s r)) (fun lv155 r hB hE hC => tB29_2 Ad W s lv155 hB (fun x q => hE _ q) (fun x q => hC x q)) qN ((0:Int32), o) e154 he154 ?_)
 refine zS Ad W 3 (st' := (24, [vR 1, none, none, none, none], [.int (0:Int32), .int (0:Int32), .ref 1], (H0 s e154))) rfl ?_
 obtain ⟨r165, hr165, h⟩ := bind_eq_some_iff.mp h
 refine QTri.callP W (a := 1) (as := [.int (0:Int32), .int (0:Int32)]) (rest := []) (w := (some (.int r165.1))) (σ₁ := (H0 s r165.2)) rfl rfl rfl rfl rfl rfl rfl rfl (tF30 Ad W s e154 (0:Int32) (0:Int32) hr165) ?_
 refine zS Ad W 3 (st' := (30, [vR 1, vI r165.1, vI (0:Int32), none, none], [], (H0 s r165.2))) rfl ?_
 obtain ⟨e184, he184, h⟩ := bind_eq_some_iff.mp h
 refine zM [tt,tt,tt,ff,ff] (loopN_tri (B := B29_30) (T := fun lv185 => QTri l Z n0 ad 29 (30, [vR 1, vI lv185.1, vI lv185.2.1, none, none], [], (H0 s lv185.2.2)) (none : Option Value) (H0 s r)) (KE := fun e184a => (none : Option Value) = (none : Option Value) ∧ (H0 s r) = (H0 s e184a)) (fun lv185 r hB hE hC => tB29_30 Ad W s lv185 hB (fun x q => hE _ q) (fun x q => hC x q)) qN (r165.1, (0:Int32), r165.2) e184 he184 ?_)
 obtain rfl := Option.some.inj h
 exact ⟨rfl, rfl⟩
def H0x26 (s : List Int32) (o0 : Ob) (a0_20 : List Int32) : QHeap := H0v s (f_bOp o0) (f_bD o0) (f_bS o0) (f_bImm o0) (f_bTerm o0) (f_bTest o0) (f_bT0 o0) (f_bT1 o0) (f_cnt0 o0) (f_cnt1 o0) (f_regs o0) (f_outs o0) (f_edgeId o0) (f_edgeW o0) (f_chNext o0) (f_chPrev o0) (f_chHead o0) (f_heat o0) (f_posOf o0) (f_order o0) a0_20 (f_cD o0) (f_cS o0) (f_cImm o0) (f_cKind o0) (f_cTest o0) (f_cTaken o0) (f_cOther o0) (f_maxBlocks o0) (f_maxSteps o0) (f_n o0) (f_arranged o0) (f_outCount o0) (f_steps o0) (f_status o0) (f_edgeN o0)
def H0x27 (s : List Int32) (o0 : Ob) (a0_20 : List Int32) (a0_21 : List Int32) : QHeap := H0v s (f_bOp o0) (f_bD o0) (f_bS o0) (f_bImm o0) (f_bTerm o0) (f_bTest o0) (f_bT0 o0) (f_bT1 o0) (f_cnt0 o0) (f_cnt1 o0) (f_regs o0) (f_outs o0) (f_edgeId o0) (f_edgeW o0) (f_chNext o0) (f_chPrev o0) (f_chHead o0) (f_heat o0) (f_posOf o0) (f_order o0) a0_20 a0_21 (f_cS o0) (f_cImm o0) (f_cKind o0) (f_cTest o0) (f_cTaken o0) (f_cOther o0) (f_maxBlocks o0) (f_maxSteps o0) (f_n o0) (f_arranged o0) (f_outCount o0) (f_steps o0) (f_status o0) (f_edgeN o0)
def H0x28 (s : List Int32) (o0 : Ob) (a0_20 : List Int32) (a0_21 : List Int32) (a0_22 : List Int32) : QHeap := H0v s (f_bOp o0) (f_bD o0) (f_bS o0) (f_bImm o0) (f_bTerm o0) (f_bTest o0) (f_bT0 o0) (f_bT1 o0) (f_cnt0 o0) (f_cnt1 o0) (f_regs o0) (f_outs o0) (f_edgeId o0) (f_edgeW o0) (f_chNext o0) (f_chPrev o0) (f_chHead o0) (f_heat o0) (f_posOf o0) (f_order o0) a0_20 a0_21 a0_22 (f_cImm o0) (f_cKind o0) (f_cTest o0) (f_cTaken o0) (f_cOther o0) (f_maxBlocks o0) (f_maxSteps o0) (f_n o0) (f_arranged o0) (f_outCount o0) (f_steps o0) (f_status o0) (f_edgeN o0)
def H0x29 (s : List Int32) (o0 : Ob) (a0_20 : List Int32) (a0_21 : List Int32) (a0_22 : List Int32) (a0_23 : List Int32) : QHeap := H0v s (f_bOp o0) (f_bD o0) (f_bS o0) (f_bImm o0) (f_bTerm o0) (f_bTest o0) (f_bT0 o0) (f_bT1 o0) (f_cnt0 o0) (f_cnt1 o0) (f_regs o0) (f_outs o0) (f_edgeId o0) (f_edgeW o0) (f_chNext o0) (f_chPrev o0) (f_chHead o0) (f_heat o0) (f_posOf o0) (f_order o0) a0_20 a0_21 a0_22 a0_23 (f_cKind o0) (f_cTest o0) (f_cTaken o0) (f_cOther o0) (f_maxBlocks o0) (f_maxSteps o0) (f_n o0) (f_arranged o0) (f_outCount o0) (f_steps o0) (f_status o0) (f_edgeN o0)
def H0x30 (s : List Int32) (o0 : Ob) (a0_25 : List Int32) : QHeap := H0v s (f_bOp o0) (f_bD o0) (f_bS o0) (f_bImm o0) (f_bTerm o0) (f_bTest o0) (f_bT0 o0) (f_bT1 o0) (f_cnt0 o0) (f_cnt1 o0) (f_regs o0) (f_outs o0) (f_edgeId o0) (f_edgeW o0) (f_chNext o0) (f_chPrev o0) (f_chHead o0) (f_heat o0) (f_posOf o0) (f_order o0) (f_cOp o0) (f_cD o0) (f_cS o0) (f_cImm o0) (f_cKind o0) a0_25 (f_cTaken o0) (f_cOther o0) (f_maxBlocks o0) (f_maxSteps o0) (f_n o0) (f_arranged o0) (f_outCount o0) (f_steps o0) (f_status o0) (f_edgeN o0)
def H0x31 (s : List Int32) (o0 : Ob) (a0_25 : List Int32) (a0_26 : List Int32) : QHeap := H0v s (f_bOp o0) (f_bD o0) (f_bS o0) (f_bImm o0) (f_bTerm o0) (f_bTest o0) (f_bT0 o0) (f_bT1 o0) (f_cnt0 o0) (f_cnt1 o0) (f_regs o0) (f_outs o0) (f_edgeId o0) (f_edgeW o0) (f_chNext o0) (f_chPrev o0) (f_chHead o0) (f_heat o0) (f_posOf o0) (f_order o0) (f_cOp o0) (f_cD o0) (f_cS o0) (f_cImm o0) (f_cKind o0) a0_25 a0_26 (f_cOther o0) (f_maxBlocks o0) (f_maxSteps o0) (f_n o0) (f_arranged o0) (f_outCount o0) (f_steps o0) (f_status o0) (f_edgeN o0)
def H0x32 (s : List Int32) (o0 : Ob) (a0_25 : List Int32) (a0_26 : List Int32) (a0_27 : List Int32) : QHeap := H0v s (f_bOp o0) (f_bD o0) (f_bS o0) (f_bImm o0) (f_bTerm o0) (f_bTest o0) (f_bT0 o0) (f_bT1 o0) (f_cnt0 o0) (f_cnt1 o0) (f_regs o0) (f_outs o0) (f_edgeId o0) (f_edgeW o0) (f_chNext o0) (f_chPrev o0) (f_chHead o0) (f_heat o0) (f_posOf o0) (f_order o0) (f_cOp o0) (f_cD o0) (f_cS o0) (f_cImm o0) (f_cKind o0) a0_25 a0_26 a0_27 (f_maxBlocks o0) (f_maxSteps o0) (f_n o0) (f_arranged o0) (f_outCount o0) (f_steps o0) (f_status o0) (f_edgeN o0)
def H0x33 (s : List Int32) (o0 : Ob) (a0_24 : List Int32) (a0_25 : List Int32) (a0_26 : List Int32) (a0_27 : List Int32) : QHeap := H0v s (f_bOp o0) (f_bD o0) (f_bS o0) (f_bImm o0) (f_bTerm o0) (f_bTest o0) (f_bT0 o0) (f_bT1 o0) (f_cnt0 o0) (f_cnt1 o0) (f_regs o0) (f_outs o0) (f_edgeId o0) (f_edgeW o0) (f_chNext o0) (f_chPrev o0) (f_chHead o0) (f_heat o0) (f_posOf o0) (f_order o0) (f_cOp o0) (f_cD o0) (f_cS o0) (f_cImm o0) a0_24 a0_25 a0_26 a0_27 (f_maxBlocks o0) (f_maxSteps o0) (f_n o0) (f_arranged o0) (f_outCount o0) (f_steps o0) (f_status o0) (f_edgeN o0)
def J32_175 (o : Ob) (x1 : Int32) (x2 : Int32) (x4 : Int32) (x5 : Int32) : Option (Ob) :=
  (aget (f_bTest o) x2).bind fun y221 => (aset (f_cTest o) x1 y221).bind fun y222 => (aset (f_cTaken o) x1 x4).bind fun y223 => (aset (f_cOther o) x1 x5).bind fun y224 => some (s_cOther (s_cTaken (s_cTest o y222) y223) y224)
theorem tJ32_175 (Ad : QAd n0 ad) (W : QW Z a0) (s : List Int32) (o : Ob) (x1 : Int32) (x2 : Int32) (x4 : Int32) (x5 : Int32) {r : Ob} (h : J32_175 o x1 x2 x4 x5 = some r) : QTri l Z n0 ad 32 (175, [vR 1, vI x1, vI x2, none, vI x4, vI x5], [], (H0 s o)) (none : Option Value) (H0 s r) := by
 unfold J32_175 at h
 refine zS Ad W 6 (st' := (185, [vR 1, vI x1, vI x2, none, vI x4, vI x5], [.int x2, .ref 7, .int x1, .ref 27], (H0 s o))) rfl ?_
 obtain ⟨y221, hy221, h⟩ := bind_eq_some_iff.mp h
 refine zB Ad W (f := fun y221 => (186, [vR 1, vI x1, vI x2, none, vI x4, vI x5], [.int y221, .int x1, .ref 27], (H0 s o))) rfl hy221 ?_
 obtain ⟨y222, hy222, h⟩ := bind_eq_some_iff.mp h
 refine zB Ad W (f := fun y222 => (187, [vR 1, vI x1, vI x2, none, vI x4, vI x5], [], (H0x30 s o y222))) rfl hy222 ?_
 refine zS Ad W 4 (st' := (194, [vR 1, vI x1, vI x2, none, vI x4, vI x5], [.int x4, .int x1, .ref 28], (H0x30 s o y222))) rfl ?_
 obtain ⟨y223, hy223, h⟩ := bind_eq_some_iff.mp h
 refine zB Ad W (f := fun y223 => (195, [vR 1, vI x1, vI x2, none, vI x4, vI x5], [], (H0x31 s o y222 y223))) rfl hy223 ?_
 refine zS Ad W 4 (st' := (202, [vR 1, vI x1, vI x2, none, vI x4, vI x5], [.int x5, .int x1, .ref 29], (H0x31 s o y222 y223))) rfl ?_
 obtain ⟨y224, hy224, h⟩ := bind_eq_some_iff.mp h
 refine zB Ad W (f := fun y224 => (203, [vR 1, vI x1, vI x2, none, vI x4, vI x5], [], (H0x32 s o y222 y223 y224))) rfl hy224 ?_
 have E225 : ((H0x32 s o y222 y223 y224) : QHeap) = (H0 s (s_cOther (s_cTaken (s_cTest o y222) y223) y224)) := by simp only [fs, H0, H0v, H0x32, s_cTest, s_cTaken, s_cOther]
 rw [E225]
 obtain rfl := Option.some.inj h
 exact QTri.ret0 rfl rfl
/-- compileTerm(II)V -/
def F32 (o : Ob) (x1 : Int32) (x2 : Int32) : Option (Ob) :=
 (aget (f_bTerm o) x2).bind fun y199 => (aset (f_cTest o) x1 (0:Int32)).bind fun y200 => (aset (f_cTaken o) x1 (0:Int32)).bind fun y201 => (aset (f_cOther o) x1 (0:Int32)).bind fun y202 => (if y199 = (1:Int32) then (aget (f_bT0 o) x2).bind fun y204 => (aget (f_posOf o) y204).bind fun y205 => (aset y201 x1 y205).bind fun y206 => (if y205 = (x1 + (1:Int32)) then (aset (f_cKind o) x1 (3:Int32)).bind fun y208 => some (s_cKind (s_cTaken (s_cOther (s_cTest o y200) y202) y206) y208) else (aset (f_cKind o) x1 (1:Int32)).bind fun y210 => some (s_cKind (s_cTaken (s_cOther (s_cTest o y200) y202) y206) y210)) else (if y199 = (2:Int32) then (aget (f_bT0 o) x2).bind fun y213 => (aget (f_posOf o) y213).bind fun y214 => (aget (f_bT1 o) x2).bind fun y215 => (aget (f_posOf o) y215).bind fun y216 => (aset (f_cKind o) x1 (2:Int32)).bind fun y217 => (if y214 = (x1 + (1:Int32)) then (if y216 = (x1 + (1:Int32)) then (J32_175 (s_cKind (s_cOther (s_cTaken (s_cTest o y200) y201) y202) y217) x1 x2 y214 y216) else (aget (f_bTest o) x2).bind fun y226 => (aset y200 x1 (y226 ^^^ (4:Int32))).bind fun y227 => (aset y201 x1 y216).bind fun y228 => (aset y202 x1 y214).bind fun y229 => some (s_cOther (s_cTaken (s_cTest (s_cKind o y217) y227) y228) y229)) else (J32_175 (s_cKind (s_cOther (s_cTaken (s_cTest o y200) y201) y202) y217) x1 x2 y214 y216)) else (aset (f_cKind o) x1 (0:Int32)).bind fun y232 => some (s_cKind (s_cOther (s_cTaken (s_cTest o y200) y201) y202) y232)))
theorem tF32 (Ad : QAd n0 ad) (W : QW Z a0) (s : List Int32) (o : Ob) (x1 : Int32) (x2 : Int32) {r : Ob} (h : F32 o x1 x2 = some r) : QTri l Z n0 ad 32 (0, qentry [.ref 1, .int x1, .int x2] (pMaxL 32), [], (H0 s o)) (none : Option Value) (H0 s r) := by
 unfold F32 at h
 refine zS Ad W 3 (st' := (5, [vR 1, vI x1, vI x2, none, none, none], [.int x2, .ref 6], (H0 s o))) rfl ?_
 obtain ⟨y199, hy199, h⟩ := bind_eq_some_iff.mp h
 refine zB Ad W (f := fun y199 => (6, [vR 1, vI x1, vI x2, none, none, none], [.int y199], (H0 s o))) rfl hy199 ?_
 refine zS Ad W 5 (st' := (13, [vR 1, vI x1, vI x2, vI y199, none, none], [.int (0:Int32), .int x1, .ref 27], (H0 s o))) rfl ?_
 obtain ⟨y200, hy200, h⟩ := bind_eq_some_iff.mp h
 refine zB Ad W (f := fun y200 => (14, [vR 1, vI x1, vI x2, vI y199, none, none], [], (H0x30 s o y200))) rfl hy200 ?_
 refine zS Ad W 4 (st' := (20, [vR 1, vI x1, vI x2, vI y199, none, none], [.int (0:Int32), .int x1, .ref 28], (H0x30 s o y200))) rfl ?_
 obtain ⟨y201, hy201, h⟩ := bind_eq_some_iff.mp h
 refine zB Ad W (f := fun y201 => (21, [vR 1, vI x1, vI x2, vI y199, none, none], [], (H0x31 s o y200 y201))) rfl hy201 ?_
 refine zS Ad W 4 (st' := (27, [vR 1, vI x1, vI x2, vI y199, none, none], [.int (0:Int32), .int x1, .ref 29], (H0x31 s o y200 y201))) rfl ?_
 obtain ⟨y202, hy202, h⟩ := bind_eq_some_iff.mp h
 refine zB Ad W (f := fun y202 => (28, [vR 1, vI x1, vI x2, vI y199, none, none], [], (H0x32 s o y200 y201 y202))) rfl hy202 ?_
 refine zS Ad W 2 (st' := (30, [vR 1, vI x1, vI x2, vI y199, none, none], [.int (1:Int32), .int y199], (H0x32 s o y200 y201 y202))) rfl ?_
 rcases qite h with ⟨hc203, h⟩ | ⟨hc203, h⟩
 ·refine zF Ad W (t := 80) (f := 33) rfl (XT.ii_ne_f hc203) ?_
  refine zS Ad W 5 (st' := (42, [vR 1, vI x1, vI x2, vI y199, none, none], [.int x2, .ref 8, .ref 20], (H0x32 s o y200 y201 y202))) rfl ?_
  obtain ⟨y204, hy204, h⟩ := bind_eq_some_iff.mp h
  refine zB Ad W (f := fun y204 => (43, [vR 1, vI x1, vI x2, vI y199, none, none], [.int y204, .ref 20], (H0x32 s o y200 y201 y202))) rfl hy204 ?_
  obtain ⟨y205, hy205, h⟩ := bind_eq_some_iff.mp h
  refine zB Ad W (f := fun y205 => (44, [vR 1, vI x1, vI x2, vI y199, none, none], [.int y205], (H0x32 s o y200 y201 y202))) rfl hy205 ?_
  refine zS Ad W 5 (st' := (53, [vR 1, vI x1, vI x2, vI y199, vI y205, none], [.int y205, .int x1, .ref 28], (H0x32 s o y200 y201 y202))) rfl ?_
  obtain ⟨y206, hy206, h⟩ := bind_eq_some_iff.mp h
  refine zB Ad W (f := fun y206 => (54, [vR 1, vI x1, vI x2, vI y199, vI y205, none], [], (H0x32 s o y200 y206 y202))) rfl hy206 ?_
  refine zS Ad W 4 (st' := (59, [vR 1, vI x1, vI x2, vI y199, vI y205, none], [.int (x1 + (1:Int32)), .int y205], (H0x32 s o y200 y206 y202))) rfl ?_
  rcases qite h with ⟨hc207, h⟩ | ⟨hc207, h⟩
  ·refine zF Ad W (t := 72) (f := 62) rfl (XT.ii_ne_f hc207) ?_
   refine zS Ad W 4 (st' := (68, [vR 1, vI x1, vI x2, vI y199, vI y205, none], [.int (3:Int32), .int x1, .ref 26], (H0x32 s o y200 y206 y202))) rfl ?_
   obtain ⟨y208, hy208, h⟩ := bind_eq_some_iff.mp h
   refine zB Ad W (f := fun y208 => (69, [vR 1, vI x1, vI x2, vI y199, vI y205, none], [], (H0x33 s o y208 y200 y206 y202))) rfl hy208 ?_
   refine zS Ad W 1 (st' := (79, [vR 1, vI x1, vI x2, vI y199, vI y205, none], [], (H0x33 s o y208 y200 y206 y202))) rfl ?_
   have E209 : ((H0x33 s o y208 y200 y206 y202) : QHeap) = (H0 s (s_cKind (s_cTaken (s_cOther (s_cTest o y200) y202) y206) y208)) := by simp only [fs, H0, H0v, H0x33, s_cKind, s_cTest, s_cTaken, s_cOther]
   rw [E209]
   obtain rfl := Option.some.inj h
   exact QTri.ret0 rfl rfl
  ·refine zT Ad W (t := 72) (f := 62) rfl (XT.ii_ne_t hc207) ?_
   refine zS Ad W 4 (st' := (78, [vR 1, vI x1, vI x2, vI y199, vI y205, none], [.int (1:Int32), .int x1, .ref 26], (H0x32 s o y200 y206 y202))) rfl ?_
   obtain ⟨y210, hy210, h⟩ := bind_eq_some_iff.mp h
   refine zB Ad W (f := fun y210 => (79, [vR 1, vI x1, vI x2, vI y199, vI y205, none], [], (H0x33 s o y210 y200 y206 y202))) rfl hy210 ?_
   have E211 : ((H0x33 s o y210 y200 y206 y202) : QHeap) = (H0 s (s_cKind (s_cTaken (s_cOther (s_cTest o y200) y202) y206) y210)) := by simp only [fs, H0, H0v, H0x33, s_cKind, s_cTest, s_cTaken, s_cOther]
   rw [E211]
   obtain rfl := Option.some.inj h
   exact QTri.ret0 rfl rfl
 ·refine zT Ad W (t := 80) (f := 33) rfl (XT.ii_ne_t hc203) ?_
  refine zS Ad W 2 (st' := (82, [vR 1, vI x1, vI x2, vI y199, none, none], [.int (2:Int32), .int y199], (H0x32 s o y200 y201 y202))) rfl ?_
  rcases qite h with ⟨hc212, h⟩ | ⟨hc212, h⟩
  ·refine zT Ad W (t := 93) (f := 85) rfl (XT.ii_eq_t hc212) ?_
   refine zS Ad W 5 (st' := (102, [vR 1, vI x1, vI x2, vI y199, none, none], [.int x2, .ref 8, .ref 20], (H0x32 s o y200 y201 y202))) rfl ?_
   obtain ⟨y213, hy213, h⟩ := bind_eq_some_iff.mp h
   refine zB Ad W (f := fun y213 => (103, [vR 1, vI x1, vI x2, vI y199, none, none], [.int y213, .ref 20], (H0x32 s o y200 y201 y202))) rfl hy213 ?_
   obtain ⟨y214, hy214, h⟩ := bind_eq_some_iff.mp h
   refine zB Ad W (f := fun y214 => (104, [vR 1, vI x1, vI x2, vI y199, none, none], [.int y214], (H0x32 s o y200 y201 y202))) rfl hy214 ?_
   refine zS Ad W 6 (st' := (115, [vR 1, vI x1, vI x2, vI y199, vI y214, none], [.int x2, .ref 9, .ref 20], (H0x32 s o y200 y201 y202))) rfl ?_
   obtain ⟨y215, hy215, h⟩ := bind_eq_some_iff.mp h
   refine zB Ad W (f := fun y215 => (116, [vR 1, vI x1, vI x2, vI y199, vI y214, none], [.int y215, .ref 20], (H0x32 s o y200 y201 y202))) rfl hy215 ?_
   obtain ⟨y216, hy216, h⟩ := bind_eq_some_iff.mp h
   refine zB Ad W (f := fun y216 => (117, [vR 1, vI x1, vI x2, vI y199, vI y214, none], [.int y216], (H0x32 s o y200 y201 y202))) rfl hy216 ?_
   refine zS Ad W 5 (st' := (125, [vR 1, vI x1, vI x2, vI y199, vI y214, vI y216], [.int (2:Int32), .int x1, .ref 26], (H0x32 s o y200 y201 y202))) rfl ?_
   obtain ⟨y217, hy217, h⟩ := bind_eq_some_iff.mp h
   refine zB Ad W (f := fun y217 => (126, [vR 1, vI x1, vI x2, vI y199, vI y214, vI y216], [], (H0x33 s o y217 y200 y201 y202))) rfl hy217 ?_
   refine zS Ad W 4 (st' := (131, [vR 1, vI x1, vI x2, vI y199, vI y214, vI y216], [.int (x1 + (1:Int32)), .int y214], (H0x33 s o y217 y200 y201 y202))) rfl ?_
   rcases qite h with ⟨hc218, h⟩ | ⟨hc218, h⟩
   ·refine zF Ad W (t := 175) (f := 134) rfl (XT.ii_ne_f hc218) ?_
    refine zS Ad W 4 (st' := (139, [vR 1, vI x1, vI x2, vI y199, vI y214, vI y216], [.int (x1 + (1:Int32)), .int y216], (H0x33 s o y217 y200 y201 y202))) rfl ?_
    rcases qite h with ⟨hc219, h⟩ | ⟨hc219, h⟩
    ·refine zT Ad W (t := 175) (f := 142) rfl (XT.ii_eq_t hc219) ?_
     have E220 : ((H0x33 s o y217 y200 y201 y202) : QHeap) = (H0 s (s_cKind (s_cOther (s_cTaken (s_cTest o y200) y201) y202) y217)) := by simp only [fs, H0, H0v, H0x33, s_cKind, s_cTest, s_cTaken, s_cOther]
     rw [E220]
     exact zM [tt,tt,tt,ff,tt,tt] (tJ32_175 Ad W s (s_cKind (s_cOther (s_cTaken (s_cTest o y200) y201) y202) y217) x1 x2 y214 y216 h)
    ·refine zF Ad W (t := 175) (f := 142) rfl (XT.ii_eq_f hc219) ?_
     refine zS Ad W 6 (st' := (152, [vR 1, vI x1, vI x2, vI y199, vI y214, vI y216], [.int x2, .ref 7, .int x1, .ref 27], (H0x33 s o y217 y200 y201 y202))) rfl ?_
     obtain ⟨y226, hy226, h⟩ := bind_eq_some_iff.mp h
     refine zB Ad W (f := fun y226 => (153, [vR 1, vI x1, vI x2, vI y199, vI y214, vI y216], [.int y226, .int x1, .ref 27], (H0x33 s o y217 y200 y201 y202))) rfl hy226 ?_
     refine zS Ad W 2 (st' := (155, [vR 1, vI x1, vI x2, vI y199, vI y214, vI y216], [.int (y226 ^^^ (4:Int32)), .int x1, .ref 27], (H0x33 s o y217 y200 y201 y202))) rfl ?_
     obtain ⟨y227, hy227, h⟩ := bind_eq_some_iff.mp h
     refine zB Ad W (f := fun y227 => (156, [vR 1, vI x1, vI x2, vI y199, vI y214, vI y216], [], (H0x33 s o y217 y227 y201 y202))) rfl hy227 ?_
     refine zS Ad W 4 (st' := (163, [vR 1, vI x1, vI x2, vI y199, vI y214, vI y216], [.int y216, .int x1, .ref 28], (H0x33 s o y217 y227 y201 y202))) rfl ?_
     obtain ⟨y228, hy228, h⟩ := bind_eq_some_iff.mp h
     refine zB Ad W (f := fun y228 => (164, [vR 1, vI x1, vI x2, vI y199, vI y214, vI y216], [], (H0x33 s o y217 y227 y228 y202))) rfl hy228 ?_
     refine zS Ad W 4 (st' := (171, [vR 1, vI x1, vI x2, vI y199, vI y214, vI y216], [.int y214, .int x1, .ref 29], (H0x33 s o y217 y227 y228 y202))) rfl ?_
     obtain ⟨y229, hy229, h⟩ := bind_eq_some_iff.mp h
     refine zB Ad W (f := fun y229 => (172, [vR 1, vI x1, vI x2, vI y199, vI y214, vI y216], [], (H0x33 s o y217 y227 y228 y229))) rfl hy229 ?_
     refine zS Ad W 1 (st' := (203, [vR 1, vI x1, vI x2, vI y199, vI y214, vI y216], [], (H0x33 s o y217 y227 y228 y229))) rfl ?_
     have E230 : ((H0x33 s o y217 y227 y228 y229) : QHeap) = (H0 s (s_cOther (s_cTaken (s_cTest (s_cKind o y217) y227) y228) y229)) := by simp only [fs, H0, H0v, H0x33, s_cKind, s_cTest, s_cTaken, s_cOther]
     rw [E230]
     obtain rfl := Option.some.inj h
     exact QTri.ret0 rfl rfl
   ·refine zT Ad W (t := 175) (f := 134) rfl (XT.ii_ne_t hc218) ?_
    have E231 : ((H0x33 s o y217 y200 y201 y202) : QHeap) = (H0 s (s_cKind (s_cOther (s_cTaken (s_cTest o y200) y201) y202) y217)) := by simp only [fs, H0, H0v, H0x33, s_cKind, s_cTest, s_cTaken, s_cOther]
    rw [E231]
    exact zM [tt,tt,tt,ff,tt,tt] (tJ32_175 Ad W s (s_cKind (s_cOther (s_cTaken (s_cTest o y200) y201) y202) y217) x1 x2 y214 y216 h)
  ·refine zF Ad W (t := 93) (f := 85) rfl (XT.ii_eq_f hc212) ?_
   refine zS Ad W 4 (st' := (91, [vR 1, vI x1, vI x2, vI y199, none, none], [.int (0:Int32), .int x1, .ref 26], (H0x32 s o y200 y201 y202))) rfl ?_
   obtain ⟨y232, hy232, h⟩ := bind_eq_some_iff.mp h
   refine zB Ad W (f := fun y232 => (92, [vR 1, vI x1, vI x2, vI y199, none, none], [], (H0x33 s o y232 y200 y201 y202))) rfl hy232 ?_
   have E233 : ((H0x33 s o y232 y200 y201 y202) : QHeap) = (H0 s (s_cKind (s_cOther (s_cTaken (s_cTest o y200) y201) y202) y232)) := by simp only [fs, H0, H0v, H0x33, s_cKind, s_cTest, s_cTaken, s_cOther]
   rw [E233]
   obtain rfl := Option.some.inj h
   exact QTri.ret0 rfl rfl
def B31_2 (v : Int32 × Ob) : Option (((Ob)) ⊕ (Int32 × Ob)) :=
  (if v.1 < (f_n v.2) then (if v.1 < (16 : Int32) then (aget (f_order v.2) v.1).bind fun y189 => (aget (f_bOp v.2) y189).bind fun y190 => (aset (f_cOp v.2) v.1 y190).bind fun y191 => (aget (f_bD v.2) y189).bind fun y192 => (aset (f_cD v.2) v.1 y192).bind fun y193 => (aget (f_bS v.2) y189).bind fun y194 => (aset (f_cS v.2) v.1 y194).bind fun y195 => (aget (f_bImm v.2) y189).bind fun y196 => (aset (f_cImm v.2) v.1 y196).bind fun y197 => (F32 (s_cImm (s_cS (s_cD (s_cOp v.2 y191) y193) y195) y197) v.1 y189).bind fun r234 => some (.inr ((v.1 + (1 : Int32)), r234)) else some (.inl v.2)) else some (.inl v.2))
theorem tB31_2 (Ad : QAd n0 ad) (W : QW Z a0) (s : List Int32) (v : Int32 × Ob) {r : ((Ob)) ⊕ (Int32 × Ob)} {u : Option Value} {τ : QHeap} (h : B31_2 v = some r) (hx0 : ∀ x : Ob, r = .inl x → u = (none : Option Value) ∧ τ = (H0 s x)) (hc : ∀ x : Int32 × Ob, r = .inr x → QTri l Z n0 ad 31 (2, [vR 1, vI x.1, none], [], (H0 s x.2)) u τ) : QTri l Z n0 ad 31 (2, [vR 1, vI v.1, none], [], (H0 s v.2)) u τ := by
 unfold B31_2 at h
 refine zS Ad W 3 (st' := (7, [vR 1, vI v.1, none], [.int (f_n v.2), .int v.1], (H0 s v.2))) rfl ?_
 rcases qite h with ⟨hc187, h⟩ | ⟨hc187, h⟩
 ·refine zF Ad W (t := 83) (f := 10) rfl (XT.ii_ge_f hc187) ?_
  refine zS Ad W 2 (st' := (13, [vR 1, vI v.1, none], [.int (16:Int32), .int v.1], (H0 s v.2))) rfl ?_
  rcases qite h with ⟨hc188, h⟩ | ⟨hc188, h⟩
  ·refine zF Ad W (t := 83) (f := 16) rfl (XT.ii_ge_f hc188) ?_
   refine zS Ad W 3 (st' := (21, [vR 1, vI v.1, none], [.int v.1, .ref 21], (H0 s v.2))) rfl ?_
   obtain ⟨y189, hy189, h⟩ := bind_eq_some_iff.mp h
   refine zB Ad W (f := fun y189 => (22, [vR 1, vI v.1, none], [.int y189], (H0 s v.2))) rfl hy189 ?_
   refine zS Ad W 7 (st' := (33, [vR 1, vI v.1, vI y189], [.int y189, .ref 2, .int v.1, .ref 22], (H0 s v.2))) rfl ?_
   obtain ⟨y190, hy190, h⟩ := bind_eq_some_iff.mp h
   refine zB Ad W (f := fun y190 => (34, [vR 1, vI v.1, vI y189], [.int y190, .int v.1, .ref 22], (H0 s v.2))) rfl hy190 ?_
   obtain ⟨y191, hy191, h⟩ := bind_eq_some_iff.mp h
   refine zB Ad W (f := fun y191 => (35, [vR 1, vI v.1, vI y189], [], (H0x26 s v.2 y191))) rfl hy191 ?_
   refine zS Ad W 6 (st' := (45, [vR 1, vI v.1, vI y189], [.int y189, .ref 3, .int v.1, .ref 23], (H0x26 s v.2 y191))) rfl ?_
   obtain ⟨y192, hy192, h⟩ := bind_eq_some_iff.mp h
   refine zB Ad W (f := fun y192 => (46, [vR 1, vI v.1, vI y189], [.int y192, .int v.1, .ref 23], (H0x26 s v.2 y191))) rfl hy192 ?_
   obtain ⟨y193, hy193, h⟩ := bind_eq_some_iff.mp h
   refine zB Ad W (f := fun y193 => (47, [vR 1, vI v.1, vI y189], [], (H0x27 s v.2 y191 y193))) rfl hy193 ?_
   refine zS Ad W 6 (st' := (57, [vR 1, vI v.1, vI y189], [.int y189, .ref 4, .int v.1, .ref 24], (H0x27 s v.2 y191 y193))) rfl ?_
   obtain ⟨y194, hy194, h⟩ := bind_eq_some_iff.mp h
   refine zB Ad W (f := fun y194 => (58, [vR 1, vI v.1, vI y189], [.int y194, .int v.1, .ref 24], (H0x27 s v.2 y191 y193))) rfl hy194 ?_
   obtain ⟨y195, hy195, h⟩ := bind_eq_some_iff.mp h
   refine zB Ad W (f := fun y195 => (59, [vR 1, vI v.1, vI y189], [], (H0x28 s v.2 y191 y193 y195))) rfl hy195 ?_
   refine zS Ad W 6 (st' := (69, [vR 1, vI v.1, vI y189], [.int y189, .ref 5, .int v.1, .ref 25], (H0x28 s v.2 y191 y193 y195))) rfl ?_
   obtain ⟨y196, hy196, h⟩ := bind_eq_some_iff.mp h
   refine zB Ad W (f := fun y196 => (70, [vR 1, vI v.1, vI y189], [.int y196, .int v.1, .ref 25], (H0x28 s v.2 y191 y193 y195))) rfl hy196 ?_
   obtain ⟨y197, hy197, h⟩ := bind_eq_some_iff.mp h
   refine zB Ad W (f := fun y197 => (71, [vR 1, vI v.1, vI y189], [], (H0x29 s v.2 y191 y193 y195 y197))) rfl hy197 ?_
   refine zS Ad W 3 (st' := (74, [vR 1, vI v.1, vI y189], [.int y189, .int v.1, .ref 1], (H0x29 s v.2 y191 y193 y195 y197))) rfl ?_
   have E198 : ((H0x29 s v.2 y191 y193 y195 y197) : QHeap) = (H0 s (s_cImm (s_cS (s_cD (s_cOp v.2 y191) y193) y195) y197)) := by simp only [fs, H0, H0v, H0x29, s_cOp, s_cD, s_cS, s_cImm]
   rw [E198]
   obtain ⟨r234, hr234, h⟩ := bind_eq_some_iff.mp h
   refine QTri.callP W (a := 1) (as := [.int v.1, .int y189]) (rest := []) (w := none) (σ₁ := (H0 s r234)) rfl rfl rfl rfl rfl rfl rfl rfl (tF32 Ad W s (s_cImm (s_cS (s_cD (s_cOp v.2 y191) y193) y195) y197) v.1 y189 hr234) ?_
   refine zS Ad W 2 (st' := (2, [vR 1, vI (v.1 + (1:Int32)), vI y189], [], (H0 s r234))) rfl ?_
   obtain rfl := Option.some.inj h
   exact zM [tt,tt,ff] (hc ((v.1 + (1:Int32)), r234) rfl)
  ·refine zT Ad W (t := 83) (f := 16) rfl (XT.ii_ge_t hc188) ?_
   obtain rfl := Option.some.inj h
   obtain ⟨rfl, rfl⟩ := hx0 v.2 rfl
   exact QTri.ret0 rfl rfl
 ·refine zT Ad W (t := 83) (f := 10) rfl (XT.ii_ge_t hc187) ?_
  obtain rfl := Option.some.inj h
  obtain ⟨rfl, rfl⟩ := hx0 v.2 rfl
  exact QTri.ret0 rfl rfl
/-- compileCode()V -/
def F31 (o : Ob) : Option (Ob) :=
 (loopN (B31_2) qN ((0:Int32), o)).bind fun e235 => some e235
theorem tF31 (Ad : QAd n0 ad) (W : QW Z a0) (s : List Int32) (o : Ob) {r : Ob} (h : F31 o = some r) : QTri l Z n0 ad 31 (0, qentry [.ref 1] (pMaxL 31), [], (H0 s o)) (none : Option Value) (H0 s r) := by
 unfold F31 at h
 refine zS Ad W 2 (st' := (2, [vR 1, vI (0:Int32), none], [], (H0 s o))) rfl ?_
 obtain ⟨e235, he235, h⟩ := bind_eq_some_iff.mp h
 refine zM [tt,tt,ff] (loopN_tri (B := B31_2) (T := fun lv236 => QTri l Z n0 ad 31 (2, [vR 1, vI lv236.1, none], [], (H0 s lv236.2)) (none : Option Value) (H0 s r)) (KE := fun e235a => (none : Option Value) = (none : Option Value) ∧ (H0 s r) = (H0 s e235a)) (fun lv236 r hB hE hC => tB31_2 Ad W s lv236 hB (fun x q => hE _ q) (fun x q => hC x q)) qN ((0:Int32), o) e235 he235 ?_)
 obtain rfl := Option.some.inj h
 exact ⟨rfl, rfl⟩
def H0x34 (s : List Int32) (o0 : Ob) (a0_31 : Int32) : QHeap := H0v s (f_bOp o0) (f_bD o0) (f_bS o0) (f_bImm o0) (f_bTerm o0) (f_bTest o0) (f_bT0 o0) (f_bT1 o0) (f_cnt0 o0) (f_cnt1 o0) (f_regs o0) (f_outs o0) (f_edgeId o0) (f_edgeW o0) (f_chNext o0) (f_chPrev o0) (f_chHead o0) (f_heat o0) (f_posOf o0) (f_order o0) (f_cOp o0) (f_cD o0) (f_cS o0) (f_cImm o0) (f_cKind o0) (f_cTest o0) (f_cTaken o0) (f_cOther o0) (f_maxBlocks o0) (f_maxSteps o0) (f_n o0) a0_31 (f_outCount o0) (f_steps o0) (f_status o0) (f_edgeN o0)
/-- layout()Z -/
def F25 (o : Ob) : Option (Int32 × Ob) :=
 (if (f_arranged o) = (0:Int32) then (if (f_n o) = (0:Int32) then some ((0:Int32), o) else (F26 o).bind fun r87 => (F27 r87).bind fun r112 => (F28 r112).bind fun r150 => (F29 r150).bind fun r186 => (F31 r186).bind fun r237 => some ((1:Int32), (s_arranged r237 (1:Int32)))) else some ((0:Int32), o))
theorem tF25 (Ad : QAd n0 ad) (W : QW Z a0) (s : List Int32) (o : Ob) {r : Int32 × Ob} (h : F25 o = some r) : QTri l Z n0 ad 25 (0, qentry [.ref 1] (pMaxL 25), [], (H0 s o)) (some (Value.int r.1)) (H0 s r.2) := by
 unfold F25 at h
 refine zS Ad W 2 (st' := (4, [vR 1], [.int (f_arranged o)], (H0 s o))) rfl ?_
 rcases qite h with ⟨hc53, h⟩ | ⟨hc53, h⟩
 ·refine zF Ad W (t := 14) (f := 7) rfl (XT.i0_ne_f hc53) ?_
  refine zS Ad W 2 (st' := (11, [vR 1], [.int (f_n o)], (H0 s o))) rfl ?_
  rcases qite h with ⟨hc54, h⟩ | ⟨hc54, h⟩
  ·refine zF Ad W (t := 16) (f := 14) rfl (XT.i0_ne_f hc54) ?_
   refine zS Ad W 1 (st' := (15, [vR 1], [.int (0:Int32)], (H0 s o))) rfl ?_
   obtain rfl := Option.some.inj h
   exact QTri.retZ rfl rfl
  ·refine zT Ad W (t := 16) (f := 14) rfl (XT.i0_ne_t hc54) ?_
   refine zS Ad W 1 (st' := (17, [vR 1], [.ref 1], (H0 s o))) rfl ?_
   obtain ⟨r87, hr87, h⟩ := bind_eq_some_iff.mp h
   refine QTri.callP W (a := 1) (as := []) (rest := []) (w := none) (σ₁ := (H0 s r87)) rfl rfl rfl rfl rfl rfl rfl rfl (tF26 Ad W s o hr87) ?_
   refine zS Ad W 1 (st' := (21, [vR 1], [.ref 1], (H0 s r87))) rfl ?_
   obtain ⟨r112, hr112, h⟩ := bind_eq_some_iff.mp h
   refine QTri.callP W (a := 1) (as := []) (rest := []) (w := none) (σ₁ := (H0 s r112)) rfl rfl rfl rfl rfl rfl rfl rfl (tF27 Ad W s r87 hr112) ?_
   refine zS Ad W 1 (st' := (25, [vR 1], [.ref 1], (H0 s r112))) rfl ?_
   obtain ⟨r150, hr150, h⟩ := bind_eq_some_iff.mp h
   refine QTri.callP W (a := 1) (as := []) (rest := []) (w := none) (σ₁ := (H0 s r150)) rfl rfl rfl rfl rfl rfl rfl rfl (tF28 Ad W s r112 hr150) ?_
   refine zS Ad W 1 (st' := (29, [vR 1], [.ref 1], (H0 s r150))) rfl ?_
   obtain ⟨r186, hr186, h⟩ := bind_eq_some_iff.mp h
   refine QTri.callP W (a := 1) (as := []) (rest := []) (w := none) (σ₁ := (H0 s r186)) rfl rfl rfl rfl rfl rfl rfl rfl (tF29 Ad W s r150 hr186) ?_
   refine zS Ad W 1 (st' := (33, [vR 1], [.ref 1], (H0 s r186))) rfl ?_
   obtain ⟨r237, hr237, h⟩ := bind_eq_some_iff.mp h
   refine QTri.callP W (a := 1) (as := []) (rest := []) (w := none) (σ₁ := (H0 s r237)) rfl rfl rfl rfl rfl rfl rfl rfl (tF31 Ad W s r186 hr237) ?_
   refine zS Ad W 3 (st' := (41, [vR 1], [], (H0x34 s r237 (1:Int32)))) rfl ?_
   refine zS Ad W 1 (st' := (42, [vR 1], [.int (1:Int32)], (H0x34 s r237 (1:Int32)))) rfl ?_
   have E238 : ((H0x34 s r237 (1:Int32)) : QHeap) = (H0 s (s_arranged r237 (1:Int32))) := by simp only [fs, H0, H0v, H0x34, s_arranged]
   rw [E238]
   obtain rfl := Option.some.inj h
   exact QTri.retZ rfl rfl
 ·refine zT Ad W (t := 14) (f := 7) rfl (XT.i0_ne_t hc53) ?_
  refine zS Ad W 1 (st' := (15, [vR 1], [.int (0:Int32)], (H0 s o))) rfl ?_
  obtain rfl := Option.some.inj h
  exact QTri.retZ rfl rfl
def H0x35 (s : List Int32) (o0 : Ob) (a0_10 : List Int32) : QHeap := H0v s (f_bOp o0) (f_bD o0) (f_bS o0) (f_bImm o0) (f_bTerm o0) (f_bTest o0) (f_bT0 o0) (f_bT1 o0) (f_cnt0 o0) (f_cnt1 o0) a0_10 (f_outs o0) (f_edgeId o0) (f_edgeW o0) (f_chNext o0) (f_chPrev o0) (f_chHead o0) (f_heat o0) (f_posOf o0) (f_order o0) (f_cOp o0) (f_cD o0) (f_cS o0) (f_cImm o0) (f_cKind o0) (f_cTest o0) (f_cTaken o0) (f_cOther o0) (f_maxBlocks o0) (f_maxSteps o0) (f_n o0) (f_arranged o0) (f_outCount o0) (f_steps o0) (f_status o0) (f_edgeN o0)
def H0x36 (s : List Int32) (o0 : Ob) (a0_10 : List Int32) (a0_32 : Int32) : QHeap := H0v s (f_bOp o0) (f_bD o0) (f_bS o0) (f_bImm o0) (f_bTerm o0) (f_bTest o0) (f_bT0 o0) (f_bT1 o0) (f_cnt0 o0) (f_cnt1 o0) a0_10 (f_outs o0) (f_edgeId o0) (f_edgeW o0) (f_chNext o0) (f_chPrev o0) (f_chHead o0) (f_heat o0) (f_posOf o0) (f_order o0) (f_cOp o0) (f_cD o0) (f_cS o0) (f_cImm o0) (f_cKind o0) (f_cTest o0) (f_cTaken o0) (f_cOther o0) (f_maxBlocks o0) (f_maxSteps o0) (f_n o0) (f_arranged o0) a0_32 (f_steps o0) (f_status o0) (f_edgeN o0)
def H0x37 (s : List Int32) (o0 : Ob) (a0_10 : List Int32) (a0_32 : Int32) (a0_33 : Int32) : QHeap := H0v s (f_bOp o0) (f_bD o0) (f_bS o0) (f_bImm o0) (f_bTerm o0) (f_bTest o0) (f_bT0 o0) (f_bT1 o0) (f_cnt0 o0) (f_cnt1 o0) a0_10 (f_outs o0) (f_edgeId o0) (f_edgeW o0) (f_chNext o0) (f_chPrev o0) (f_chHead o0) (f_heat o0) (f_posOf o0) (f_order o0) (f_cOp o0) (f_cD o0) (f_cS o0) (f_cImm o0) (f_cKind o0) (f_cTest o0) (f_cTaken o0) (f_cOther o0) (f_maxBlocks o0) (f_maxSteps o0) (f_n o0) (f_arranged o0) a0_32 a0_33 (f_status o0) (f_edgeN o0)
def H0x38 (s : List Int32) (o0 : Ob) (a0_33 : Int32) : QHeap := H0v s (f_bOp o0) (f_bD o0) (f_bS o0) (f_bImm o0) (f_bTerm o0) (f_bTest o0) (f_bT0 o0) (f_bT1 o0) (f_cnt0 o0) (f_cnt1 o0) (f_regs o0) (f_outs o0) (f_edgeId o0) (f_edgeW o0) (f_chNext o0) (f_chPrev o0) (f_chHead o0) (f_heat o0) (f_posOf o0) (f_order o0) (f_cOp o0) (f_cD o0) (f_cS o0) (f_cImm o0) (f_cKind o0) (f_cTest o0) (f_cTaken o0) (f_cOther o0) (f_maxBlocks o0) (f_maxSteps o0) (f_n o0) (f_arranged o0) (f_outCount o0) a0_33 (f_status o0) (f_edgeN o0)
def H0x39 (s : List Int32) (o0 : Ob) (a0_32 : Int32) : QHeap := H0v s (f_bOp o0) (f_bD o0) (f_bS o0) (f_bImm o0) (f_bTerm o0) (f_bTest o0) (f_bT0 o0) (f_bT1 o0) (f_cnt0 o0) (f_cnt1 o0) (f_regs o0) (f_outs o0) (f_edgeId o0) (f_edgeW o0) (f_chNext o0) (f_chPrev o0) (f_chHead o0) (f_heat o0) (f_posOf o0) (f_order o0) (f_cOp o0) (f_cD o0) (f_cS o0) (f_cImm o0) (f_cKind o0) (f_cTest o0) (f_cTaken o0) (f_cOther o0) (f_maxBlocks o0) (f_maxSteps o0) (f_n o0) (f_arranged o0) a0_32 (f_steps o0) (f_status o0) (f_edgeN o0)
def J13_192 (o : Ob) : Option (Ob) :=
  some (s_outCount o ((f_outCount o) + (1 : Int32)))
theorem tJ13_192 (Ad : QAd n0 ad) (W : QW Z a0) (s : List Int32) (o : Ob) {r : Ob} (h : J13_192 o = some r) : QTri l Z n0 ad 13 (192, [vR 1, none, none, none, none], [], (H0 s o)) (none : Option Value) (H0 s r) := by
 unfold J13_192 at h
 refine zS Ad W 6 (st' := (202, [vR 1, none, none, none, none], [], (H0x39 s o ((f_outCount o) + (1:Int32))))) rfl ?_
 have E289 : ((H0x39 s o ((f_outCount o) + (1:Int32))) : QHeap) = (H0 s (s_outCount o ((f_outCount o) + (1:Int32)))) := by simp only [fs, H0, H0v, H0x39, s_outCount]
 rw [E289]
 obtain rfl := Option.some.inj h
 exact QTri.ret0 rfl rfl
def H0x40 (s : List Int32) (o0 : Ob) (a0_11 : List Int32) : QHeap := H0v s (f_bOp o0) (f_bD o0) (f_bS o0) (f_bImm o0) (f_bTerm o0) (f_bTest o0) (f_bT0 o0) (f_bT1 o0) (f_cnt0 o0) (f_cnt1 o0) (f_regs o0) a0_11 (f_edgeId o0) (f_edgeW o0) (f_chNext o0) (f_chPrev o0) (f_chHead o0) (f_heat o0) (f_posOf o0) (f_order o0) (f_cOp o0) (f_cD o0) (f_cS o0) (f_cImm o0) (f_cKind o0) (f_cTest o0) (f_cTaken o0) (f_cOther o0) (f_maxBlocks o0) (f_maxSteps o0) (f_n o0) (f_arranged o0) (f_outCount o0) (f_steps o0) (f_status o0) (f_edgeN o0)
/-- doOp(IIII)V -/
def F13 (o : Ob) (x1 : Int32) (x2 : Int32) (x3 : Int32) (x4 : Int32) : Option (Ob) :=
 (if x2 < (0:Int32) then some o else (if (3:Int32) < x2 then some o else (if x3 < (0:Int32) then some o else (if (3:Int32) < x3 then some o else (if x1 = (1:Int32) then (aset (f_regs o) x2 x4).bind fun y263 => some (s_regs o y263) else (if x1 = (2:Int32) then (aget (f_regs o) x3).bind fun y266 => (aset (f_regs o) x2 y266).bind fun y267 => some (s_regs o y267) else (if x1 = (3:Int32) then (aget (f_regs o) x2).bind fun y270 => (aset (f_regs o) x2 (y270 + x4)).bind fun y271 => some (s_regs o y271) else (if x1 = (4:Int32) then (aget (f_regs o) x2).bind fun y274 => (aget (f_regs o) x3).bind fun y275 => (aset (f_regs o) x2 (y274 + y275)).bind fun y276 => some (s_regs o y276) else (if x1 = (5:Int32) then (aget (f_regs o) x2).bind fun y279 => (aget (f_regs o) x3).bind fun y280 => (aset (f_regs o) x2 (y279 - y280)).bind fun y281 => some (s_regs o y281) else (if x1 = (6:Int32) then (aget (f_regs o) x2).bind fun y284 => (aset (f_regs o) x2 (y284 >>> ((1:Int32) &&& 31))).bind fun y285 => some (s_regs o y285) else (if x1 = (7:Int32) then (if (f_outCount o) < (0:Int32) then (J13_192 o) else (if (f_outCount o) < (16:Int32) then (aget (f_regs o) x2).bind fun y291 => (aset (f_outs o) (f_outCount o) y291).bind fun y292 => (J13_192 (s_outs o y292)) else (J13_192 o))) else some o)))))))))))
theorem tF13 (Ad : QAd n0 ad) (W : QW Z a0) (s : List Int32) (o : Ob) (x1 : Int32) (x2 : Int32) (x3 : Int32) (x4 : Int32) {r : Ob} (h : F13 o x1 x2 x3 x4 = some r) : QTri l Z n0 ad 13 (0, qentry [.ref 1, .int x1, .int x2, .int x3, .int x4] (pMaxL 13), [], (H0 s o)) (none : Option Value) (H0 s r) := by
 unfold F13 at h
 refine zS Ad W 1 (st' := (1, [vR 1, vI x1, vI x2, vI x3, vI x4], [.int x2], (H0 s o))) rfl ?_
 rcases qite h with ⟨hc258, h⟩ | ⟨hc258, h⟩
 ·refine zT Ad W (t := 18) (f := 4) rfl (XT.i0_lt_t hc258) ?_
  obtain rfl := Option.some.inj h
  exact QTri.ret0 rfl rfl
 ·refine zF Ad W (t := 18) (f := 4) rfl (XT.i0_lt_f hc258) ?_
  refine zS Ad W 2 (st' := (6, [vR 1, vI x1, vI x2, vI x3, vI x4], [.int (3:Int32), .int x2], (H0 s o))) rfl ?_
  rcases qite h with ⟨hc259, h⟩ | ⟨hc259, h⟩
  ·refine zT Ad W (t := 18) (f := 9) rfl (XT.ii_gt_t hc259) ?_
   obtain rfl := Option.some.inj h
   exact QTri.ret0 rfl rfl
  ·refine zF Ad W (t := 18) (f := 9) rfl (XT.ii_gt_f hc259) ?_
   refine zS Ad W 1 (st' := (10, [vR 1, vI x1, vI x2, vI x3, vI x4], [.int x3], (H0 s o))) rfl ?_
   rcases qite h with ⟨hc260, h⟩ | ⟨hc260, h⟩
   ·refine zT Ad W (t := 18) (f := 13) rfl (XT.i0_lt_t hc260) ?_
    obtain rfl := Option.some.inj h
    exact QTri.ret0 rfl rfl
   ·refine zF Ad W (t := 18) (f := 13) rfl (XT.i0_lt_f hc260) ?_
    refine zS Ad W 2 (st' := (15, [vR 1, vI x1, vI x2, vI x3, vI x4], [.int (3:Int32), .int x3], (H0 s o))) rfl ?_
    rcases qite h with ⟨hc261, h⟩ | ⟨hc261, h⟩
    ·refine zF Ad W (t := 19) (f := 18) rfl (XT.ii_le_f hc261) ?_
     obtain rfl := Option.some.inj h
     exact QTri.ret0 rfl rfl
    ·refine zT Ad W (t := 19) (f := 18) rfl (XT.ii_le_t hc261) ?_
     refine zS Ad W 2 (st' := (21, [vR 1, vI x1, vI x2, vI x3, vI x4], [.int (1:Int32), .int x1], (H0 s o))) rfl ?_
     rcases qite h with ⟨hc262, h⟩ | ⟨hc262, h⟩
     ·refine zF Ad W (t := 35) (f := 24) rfl (XT.ii_ne_f hc262) ?_
      refine zS Ad W 4 (st' := (31, [vR 1, vI x1, vI x2, vI x3, vI x4], [.int x4, .int x2, .ref 12], (H0 s o))) rfl ?_
      obtain ⟨y263, hy263, h⟩ := bind_eq_some_iff.mp h
      refine zB Ad W (f := fun y263 => (32, [vR 1, vI x1, vI x2, vI x3, vI x4], [], (H0x35 s o y263))) rfl hy263 ?_
      refine zS Ad W 1 (st' := (202, [vR 1, vI x1, vI x2, vI x3, vI x4], [], (H0x35 s o y263))) rfl ?_
      have E264 : ((H0x35 s o y263) : QHeap) = (H0 s (s_regs o y263)) := by simp only [fs, H0, H0v, H0x35, s_regs]
      rw [E264]
      obtain rfl := Option.some.inj h
      exact QTri.ret0 rfl rfl
     ·refine zT Ad W (t := 35) (f := 24) rfl (XT.ii_ne_t hc262) ?_
      refine zS Ad W 2 (st' := (37, [vR 1, vI x1, vI x2, vI x3, vI x4], [.int (2:Int32), .int x1], (H0 s o))) rfl ?_
      rcases qite h with ⟨hc265, h⟩ | ⟨hc265, h⟩
      ·refine zF Ad W (t := 55) (f := 40) rfl (XT.ii_ne_f hc265) ?_
       refine zS Ad W 6 (st' := (50, [vR 1, vI x1, vI x2, vI x3, vI x4], [.int x3, .ref 12, .int x2, .ref 12], (H0 s o))) rfl ?_
       obtain ⟨y266, hy266, h⟩ := bind_eq_some_iff.mp h
       refine zB Ad W (f := fun y266 => (51, [vR 1, vI x1, vI x2, vI x3, vI x4], [.int y266, .int x2, .ref 12], (H0 s o))) rfl hy266 ?_
       obtain ⟨y267, hy267, h⟩ := bind_eq_some_iff.mp h
       refine zB Ad W (f := fun y267 => (52, [vR 1, vI x1, vI x2, vI x3, vI x4], [], (H0x35 s o y267))) rfl hy267 ?_
       refine zS Ad W 1 (st' := (202, [vR 1, vI x1, vI x2, vI x3, vI x4], [], (H0x35 s o y267))) rfl ?_
       have E268 : ((H0x35 s o y267) : QHeap) = (H0 s (s_regs o y267)) := by simp only [fs, H0, H0v, H0x35, s_regs]
       rw [E268]
       obtain rfl := Option.some.inj h
       exact QTri.ret0 rfl rfl
      ·refine zT Ad W (t := 55) (f := 40) rfl (XT.ii_ne_t hc265) ?_
       refine zS Ad W 2 (st' := (57, [vR 1, vI x1, vI x2, vI x3, vI x4], [.int (3:Int32), .int x1], (H0 s o))) rfl ?_
       rcases qite h with ⟨hc269, h⟩ | ⟨hc269, h⟩
       ·refine zF Ad W (t := 78) (f := 60) rfl (XT.ii_ne_f hc269) ?_
        refine zS Ad W 6 (st' := (70, [vR 1, vI x1, vI x2, vI x3, vI x4], [.int x2, .ref 12, .int x2, .ref 12], (H0 s o))) rfl ?_
        obtain ⟨y270, hy270, h⟩ := bind_eq_some_iff.mp h
        refine zB Ad W (f := fun y270 => (71, [vR 1, vI x1, vI x2, vI x3, vI x4], [.int y270, .int x2, .ref 12], (H0 s o))) rfl hy270 ?_
        refine zS Ad W 2 (st' := (74, [vR 1, vI x1, vI x2, vI x3, vI x4], [.int (y270 + x4), .int x2, .ref 12], (H0 s o))) rfl ?_
        obtain ⟨y271, hy271, h⟩ := bind_eq_some_iff.mp h
        refine zB Ad W (f := fun y271 => (75, [vR 1, vI x1, vI x2, vI x3, vI x4], [], (H0x35 s o y271))) rfl hy271 ?_
        refine zS Ad W 1 (st' := (202, [vR 1, vI x1, vI x2, vI x3, vI x4], [], (H0x35 s o y271))) rfl ?_
        have E272 : ((H0x35 s o y271) : QHeap) = (H0 s (s_regs o y271)) := by simp only [fs, H0, H0v, H0x35, s_regs]
        rw [E272]
        obtain rfl := Option.some.inj h
        exact QTri.ret0 rfl rfl
       ·refine zT Ad W (t := 78) (f := 60) rfl (XT.ii_ne_t hc269) ?_
        refine zS Ad W 2 (st' := (80, [vR 1, vI x1, vI x2, vI x3, vI x4], [.int (4:Int32), .int x1], (H0 s o))) rfl ?_
        rcases qite h with ⟨hc273, h⟩ | ⟨hc273, h⟩
        ·refine zF Ad W (t := 105) (f := 83) rfl (XT.ii_ne_f hc273) ?_
         refine zS Ad W 6 (st' := (93, [vR 1, vI x1, vI x2, vI x3, vI x4], [.int x2, .ref 12, .int x2, .ref 12], (H0 s o))) rfl ?_
         obtain ⟨y274, hy274, h⟩ := bind_eq_some_iff.mp h
         refine zB Ad W (f := fun y274 => (94, [vR 1, vI x1, vI x2, vI x3, vI x4], [.int y274, .int x2, .ref 12], (H0 s o))) rfl hy274 ?_
         refine zS Ad W 3 (st' := (99, [vR 1, vI x1, vI x2, vI x3, vI x4], [.int x3, .ref 12, .int y274, .int x2, .ref 12], (H0 s o))) rfl ?_
         obtain ⟨y275, hy275, h⟩ := bind_eq_some_iff.mp h
         refine zB Ad W (f := fun y275 => (100, [vR 1, vI x1, vI x2, vI x3, vI x4], [.int y275, .int y274, .int x2, .ref 12], (H0 s o))) rfl hy275 ?_
         refine zS Ad W 1 (st' := (101, [vR 1, vI x1, vI x2, vI x3, vI x4], [.int (y274 + y275), .int x2, .ref 12], (H0 s o))) rfl ?_
         obtain ⟨y276, hy276, h⟩ := bind_eq_some_iff.mp h
         refine zB Ad W (f := fun y276 => (102, [vR 1, vI x1, vI x2, vI x3, vI x4], [], (H0x35 s o y276))) rfl hy276 ?_
         refine zS Ad W 1 (st' := (202, [vR 1, vI x1, vI x2, vI x3, vI x4], [], (H0x35 s o y276))) rfl ?_
         have E277 : ((H0x35 s o y276) : QHeap) = (H0 s (s_regs o y276)) := by simp only [fs, H0, H0v, H0x35, s_regs]
         rw [E277]
         obtain rfl := Option.some.inj h
         exact QTri.ret0 rfl rfl
        ·refine zT Ad W (t := 105) (f := 83) rfl (XT.ii_ne_t hc273) ?_
         refine zS Ad W 2 (st' := (107, [vR 1, vI x1, vI x2, vI x3, vI x4], [.int (5:Int32), .int x1], (H0 s o))) rfl ?_
         rcases qite h with ⟨hc278, h⟩ | ⟨hc278, h⟩
         ·refine zF Ad W (t := 132) (f := 110) rfl (XT.ii_ne_f hc278) ?_
          refine zS Ad W 6 (st' := (120, [vR 1, vI x1, vI x2, vI x3, vI x4], [.int x2, .ref 12, .int x2, .ref 12], (H0 s o))) rfl ?_
          obtain ⟨y279, hy279, h⟩ := bind_eq_some_iff.mp h
          refine zB Ad W (f := fun y279 => (121, [vR 1, vI x1, vI x2, vI x3, vI x4], [.int y279, .int x2, .ref 12], (H0 s o))) rfl hy279 ?_
          refine zS Ad W 3 (st' := (126, [vR 1, vI x1, vI x2, vI x3, vI x4], [.int x3, .ref 12, .int y279, .int x2, .ref 12], (H0 s o))) rfl ?_
          obtain ⟨y280, hy280, h⟩ := bind_eq_some_iff.mp h
          refine zB Ad W (f := fun y280 => (127, [vR 1, vI x1, vI x2, vI x3, vI x4], [.int y280, .int y279, .int x2, .ref 12], (H0 s o))) rfl hy280 ?_
          refine zS Ad W 1 (st' := (128, [vR 1, vI x1, vI x2, vI x3, vI x4], [.int (y279 - y280), .int x2, .ref 12], (H0 s o))) rfl ?_
          obtain ⟨y281, hy281, h⟩ := bind_eq_some_iff.mp h
          refine zB Ad W (f := fun y281 => (129, [vR 1, vI x1, vI x2, vI x3, vI x4], [], (H0x35 s o y281))) rfl hy281 ?_
          refine zS Ad W 1 (st' := (202, [vR 1, vI x1, vI x2, vI x3, vI x4], [], (H0x35 s o y281))) rfl ?_
          have E282 : ((H0x35 s o y281) : QHeap) = (H0 s (s_regs o y281)) := by simp only [fs, H0, H0v, H0x35, s_regs]
          rw [E282]
          obtain rfl := Option.some.inj h
          exact QTri.ret0 rfl rfl
         ·refine zT Ad W (t := 132) (f := 110) rfl (XT.ii_ne_t hc278) ?_
          refine zS Ad W 2 (st' := (135, [vR 1, vI x1, vI x2, vI x3, vI x4], [.int (6:Int32), .int x1], (H0 s o))) rfl ?_
          rcases qite h with ⟨hc283, h⟩ | ⟨hc283, h⟩
          ·refine zF Ad W (t := 155) (f := 138) rfl (XT.ii_ne_f hc283) ?_
           refine zS Ad W 6 (st' := (148, [vR 1, vI x1, vI x2, vI x3, vI x4], [.int x2, .ref 12, .int x2, .ref 12], (H0 s o))) rfl ?_
           obtain ⟨y284, hy284, h⟩ := bind_eq_some_iff.mp h
           refine zB Ad W (f := fun y284 => (149, [vR 1, vI x1, vI x2, vI x3, vI x4], [.int y284, .int x2, .ref 12], (H0 s o))) rfl hy284 ?_
           refine zS Ad W 2 (st' := (151, [vR 1, vI x1, vI x2, vI x3, vI x4], [.int (y284 >>> ((1:Int32) &&& 31)), .int x2, .ref 12], (H0 s o))) rfl ?_
           obtain ⟨y285, hy285, h⟩ := bind_eq_some_iff.mp h
           refine zB Ad W (f := fun y285 => (152, [vR 1, vI x1, vI x2, vI x3, vI x4], [], (H0x35 s o y285))) rfl hy285 ?_
           refine zS Ad W 1 (st' := (202, [vR 1, vI x1, vI x2, vI x3, vI x4], [], (H0x35 s o y285))) rfl ?_
           have E286 : ((H0x35 s o y285) : QHeap) = (H0 s (s_regs o y285)) := by simp only [fs, H0, H0v, H0x35, s_regs]
           rw [E286]
           obtain rfl := Option.some.inj h
           exact QTri.ret0 rfl rfl
          ·refine zT Ad W (t := 155) (f := 138) rfl (XT.ii_ne_t hc283) ?_
           refine zS Ad W 2 (st' := (158, [vR 1, vI x1, vI x2, vI x3, vI x4], [.int (7:Int32), .int x1], (H0 s o))) rfl ?_
           rcases qite h with ⟨hc287, h⟩ | ⟨hc287, h⟩
           ·refine zF Ad W (t := 202) (f := 161) rfl (XT.ii_ne_f hc287) ?_
            refine zS Ad W 2 (st' := (165, [vR 1, vI x1, vI x2, vI x3, vI x4], [.int (f_outCount o)], (H0 s o))) rfl ?_
            rcases qite h with ⟨hc288, h⟩ | ⟨hc288, h⟩
            ·refine zT Ad W (t := 192) (f := 168) rfl (XT.i0_lt_t hc288) ?_
             exact zM [tt,ff,ff,ff,ff] (tJ13_192 Ad W s o h)
            ·refine zF Ad W (t := 192) (f := 168) rfl (XT.i0_lt_f hc288) ?_
             refine zS Ad W 3 (st' := (174, [vR 1, vI x1, vI x2, vI x3, vI x4], [.int (16:Int32), .int (f_outCount o)], (H0 s o))) rfl ?_
             rcases qite h with ⟨hc290, h⟩ | ⟨hc290, h⟩
             ·refine zF Ad W (t := 192) (f := 177) rfl (XT.ii_ge_f hc290) ?_
              refine zS Ad W 7 (st' := (190, [vR 1, vI x1, vI x2, vI x3, vI x4], [.int x2, .ref 12, .int (f_outCount o), .ref 13], (H0 s o))) rfl ?_
              obtain ⟨y291, hy291, h⟩ := bind_eq_some_iff.mp h
              refine zB Ad W (f := fun y291 => (191, [vR 1, vI x1, vI x2, vI x3, vI x4], [.int y291, .int (f_outCount o), .ref 13], (H0 s o))) rfl hy291 ?_
              obtain ⟨y292, hy292, h⟩ := bind_eq_some_iff.mp h
              refine zB Ad W (f := fun y292 => (192, [vR 1, vI x1, vI x2, vI x3, vI x4], [], (H0x40 s o y292))) rfl hy292 ?_
              have E293 : ((H0x40 s o y292) : QHeap) = (H0 s (s_outs o y292)) := by simp only [fs, H0, H0v, H0x40, s_outs]
              rw [E293]
              exact zM [tt,ff,ff,ff,ff] (tJ13_192 Ad W s (s_outs o y292) h)
             ·refine zT Ad W (t := 192) (f := 177) rfl (XT.ii_ge_t hc290) ?_
              exact zM [tt,ff,ff,ff,ff] (tJ13_192 Ad W s o h)
           ·refine zT Ad W (t := 202) (f := 161) rfl (XT.ii_ne_t hc287) ?_
            obtain rfl := Option.some.inj h
            exact QTri.ret0 rfl rfl
/-- holds(I)Z -/
def F34 (o : Ob) (x1 : Int32) : Option (Int32) :=
 (aget (f_regs o) (x1 &&& (3:Int32))).bind fun y303 => (if ((x1 >>> ((2:Int32) &&& 31)) &&& (3:Int32)) = (0:Int32) then (if y303 = (0:Int32) then some (1:Int32) else some (0:Int32)) else (if ((x1 >>> ((2:Int32) &&& 31)) &&& (3:Int32)) = (1:Int32) then (if y303 = (0:Int32) then some (0:Int32) else some (1:Int32)) else (if ((x1 >>> ((2:Int32) &&& 31)) &&& (3:Int32)) = (2:Int32) then (if y303 < (0:Int32) then some (1:Int32) else some (0:Int32)) else (if y303 < (0:Int32) then some (0:Int32) else some (1:Int32)))))
theorem tF34 (Ad : QAd n0 ad) (W : QW Z a0) (s : List Int32) (o : Ob) (x1 : Int32) {r : Int32} (h : F34 o x1 = some r) : QTri l Z n0 ad 34 (0, qentry [.ref 1, .int x1] (pMaxL 34), [], (H0 s o)) (some (Value.int r)) (H0 s o) := by
 unfold F34 at h
 refine zS Ad W 5 (st' := (7, [vR 1, vI x1, none, none], [.int (x1 &&& (3:Int32)), .ref 12], (H0 s o))) rfl ?_
 obtain ⟨y303, hy303, h⟩ := bind_eq_some_iff.mp h
 refine zB Ad W (f := fun y303 => (8, [vR 1, vI x1, none, none], [.int y303], (H0 s o))) rfl hy303 ?_
 refine zS Ad W 7 (st' := (15, [vR 1, vI x1, vI y303, vI ((x1 >>> ((2:Int32) &&& 31)) &&& (3:Int32))], [], (H0 s o))) rfl ?_
 refine zS Ad W 1 (st' := (16, [vR 1, vI x1, vI y303, vI ((x1 >>> ((2:Int32) &&& 31)) &&& (3:Int32))], [.int ((x1 >>> ((2:Int32) &&& 31)) &&& (3:Int32))], (H0 s o))) rfl ?_
 rcases qite h with ⟨hc304, h⟩ | ⟨hc304, h⟩
 ·refine zF Ad W (t := 29) (f := 19) rfl (XT.i0_ne_f hc304) ?_
  refine zS Ad W 1 (st' := (20, [vR 1, vI x1, vI y303, vI ((x1 >>> ((2:Int32) &&& 31)) &&& (3:Int32))], [.int y303], (H0 s o))) rfl ?_
  rcases qite h with ⟨hc305, h⟩ | ⟨hc305, h⟩
  ·refine zF Ad W (t := 27) (f := 23) rfl (XT.i0_ne_f hc305) ?_
   refine zS Ad W 2 (st' := (28, [vR 1, vI x1, vI y303, vI ((x1 >>> ((2:Int32) &&& 31)) &&& (3:Int32))], [.int (1:Int32)], (H0 s o))) rfl ?_
   obtain rfl := Option.some.inj h
   exact QTri.retZ rfl rfl
  ·refine zT Ad W (t := 27) (f := 23) rfl (XT.i0_ne_t hc305) ?_
   refine zS Ad W 1 (st' := (28, [vR 1, vI x1, vI y303, vI ((x1 >>> ((2:Int32) &&& 31)) &&& (3:Int32))], [.int (0:Int32)], (H0 s o))) rfl ?_
   obtain rfl := Option.some.inj h
   exact QTri.retZ rfl rfl
 ·refine zT Ad W (t := 29) (f := 19) rfl (XT.i0_ne_t hc304) ?_
  refine zS Ad W 2 (st' := (31, [vR 1, vI x1, vI y303, vI ((x1 >>> ((2:Int32) &&& 31)) &&& (3:Int32))], [.int (1:Int32), .int ((x1 >>> ((2:Int32) &&& 31)) &&& (3:Int32))], (H0 s o))) rfl ?_
  rcases qite h with ⟨hc306, h⟩ | ⟨hc306, h⟩
  ·refine zF Ad W (t := 44) (f := 34) rfl (XT.ii_ne_f hc306) ?_
   refine zS Ad W 1 (st' := (35, [vR 1, vI x1, vI y303, vI ((x1 >>> ((2:Int32) &&& 31)) &&& (3:Int32))], [.int y303], (H0 s o))) rfl ?_
   rcases qite h with ⟨hc307, h⟩ | ⟨hc307, h⟩
   ·refine zT Ad W (t := 42) (f := 38) rfl (XT.i0_eq_t hc307) ?_
    refine zS Ad W 1 (st' := (43, [vR 1, vI x1, vI y303, vI ((x1 >>> ((2:Int32) &&& 31)) &&& (3:Int32))], [.int (0:Int32)], (H0 s o))) rfl ?_
    obtain rfl := Option.some.inj h
    exact QTri.retZ rfl rfl
   ·refine zF Ad W (t := 42) (f := 38) rfl (XT.i0_eq_f hc307) ?_
    refine zS Ad W 2 (st' := (43, [vR 1, vI x1, vI y303, vI ((x1 >>> ((2:Int32) &&& 31)) &&& (3:Int32))], [.int (1:Int32)], (H0 s o))) rfl ?_
    obtain rfl := Option.some.inj h
    exact QTri.retZ rfl rfl
  ·refine zT Ad W (t := 44) (f := 34) rfl (XT.ii_ne_t hc306) ?_
   refine zS Ad W 2 (st' := (46, [vR 1, vI x1, vI y303, vI ((x1 >>> ((2:Int32) &&& 31)) &&& (3:Int32))], [.int (2:Int32), .int ((x1 >>> ((2:Int32) &&& 31)) &&& (3:Int32))], (H0 s o))) rfl ?_
   rcases qite h with ⟨hc308, h⟩ | ⟨hc308, h⟩
   ·refine zF Ad W (t := 59) (f := 49) rfl (XT.ii_ne_f hc308) ?_
    refine zS Ad W 1 (st' := (50, [vR 1, vI x1, vI y303, vI ((x1 >>> ((2:Int32) &&& 31)) &&& (3:Int32))], [.int y303], (H0 s o))) rfl ?_
    rcases qite h with ⟨hc309, h⟩ | ⟨hc309, h⟩
    ·refine zF Ad W (t := 57) (f := 53) rfl (XT.i0_ge_f hc309) ?_
     refine zS Ad W 2 (st' := (58, [vR 1, vI x1, vI y303, vI ((x1 >>> ((2:Int32) &&& 31)) &&& (3:Int32))], [.int (1:Int32)], (H0 s o))) rfl ?_
     obtain rfl := Option.some.inj h
     exact QTri.retZ rfl rfl
    ·refine zT Ad W (t := 57) (f := 53) rfl (XT.i0_ge_t hc309) ?_
     refine zS Ad W 1 (st' := (58, [vR 1, vI x1, vI y303, vI ((x1 >>> ((2:Int32) &&& 31)) &&& (3:Int32))], [.int (0:Int32)], (H0 s o))) rfl ?_
     obtain rfl := Option.some.inj h
     exact QTri.retZ rfl rfl
   ·refine zT Ad W (t := 59) (f := 49) rfl (XT.ii_ne_t hc308) ?_
    refine zS Ad W 1 (st' := (60, [vR 1, vI x1, vI y303, vI ((x1 >>> ((2:Int32) &&& 31)) &&& (3:Int32))], [.int y303], (H0 s o))) rfl ?_
    rcases qite h with ⟨hc310, h⟩ | ⟨hc310, h⟩
    ·refine zT Ad W (t := 67) (f := 63) rfl (XT.i0_lt_t hc310) ?_
     refine zS Ad W 1 (st' := (68, [vR 1, vI x1, vI y303, vI ((x1 >>> ((2:Int32) &&& 31)) &&& (3:Int32))], [.int (0:Int32)], (H0 s o))) rfl ?_
     obtain rfl := Option.some.inj h
     exact QTri.retZ rfl rfl
    ·refine zF Ad W (t := 67) (f := 63) rfl (XT.i0_lt_f hc310) ?_
     refine zS Ad W 2 (st' := (68, [vR 1, vI x1, vI y303, vI ((x1 >>> ((2:Int32) &&& 31)) &&& (3:Int32))], [.int (1:Int32)], (H0 s o))) rfl ?_
     obtain rfl := Option.some.inj h
     exact QTri.retZ rfl rfl
def H0x41 (s : List Int32) (o0 : Ob) (a0_9 : List Int32) : QHeap := H0v s (f_bOp o0) (f_bD o0) (f_bS o0) (f_bImm o0) (f_bTerm o0) (f_bTest o0) (f_bT0 o0) (f_bT1 o0) (f_cnt0 o0) a0_9 (f_regs o0) (f_outs o0) (f_edgeId o0) (f_edgeW o0) (f_chNext o0) (f_chPrev o0) (f_chHead o0) (f_heat o0) (f_posOf o0) (f_order o0) (f_cOp o0) (f_cD o0) (f_cS o0) (f_cImm o0) (f_cKind o0) (f_cTest o0) (f_cTaken o0) (f_cOther o0) (f_maxBlocks o0) (f_maxSteps o0) (f_n o0) (f_arranged o0) (f_outCount o0) (f_steps o0) (f_status o0) (f_edgeN o0)
/-- stepBlock(I)I -/
def F12 (o : Ob) (x1 : Int32) : Option (Int32 × Ob) :=
 (F4 o x1).bind fun r252 => (if r252 = (0:Int32) then some ((-1:Int32), o) else (aget (f_bOp o) x1).bind fun y254 => (aget (f_bD o) x1).bind fun y255 => (aget (f_bS o) x1).bind fun y256 => (aget (f_bImm o) x1).bind fun y257 => (F13 o y254 y255 y256 y257).bind fun r294 => (aget (f_bTerm r294) x1).bind fun y295 => (if y295 = (1:Int32) then (aget (f_cnt0 r294) x1).bind fun y297 => (aset (f_cnt0 r294) x1 (y297 + (1:Int32))).bind fun y298 => (aget (f_bT0 r294) x1).bind fun y299 => some (y299, (s_cnt0 r294 y298)) else (if y295 = (2:Int32) then (aget (f_bTest r294) x1).bind fun y302 => (F34 r294 y302).bind fun r311 => (if r311 = (0:Int32) then (aget (f_cnt1 r294) x1).bind fun y313 => (aset (f_cnt1 r294) x1 (y313 + (1:Int32))).bind fun y314 => (aget (f_bT1 r294) x1).bind fun y315 => some (y315, (s_cnt1 r294 y314)) else (aget (f_cnt0 r294) x1).bind fun y317 => (aset (f_cnt0 r294) x1 (y317 + (1:Int32))).bind fun y318 => (aget (f_bT0 r294) x1).bind fun y319 => some (y319, (s_cnt0 r294 y318))) else some ((-1:Int32), r294))))
theorem tF12 (Ad : QAd n0 ad) (W : QW Z a0) (s : List Int32) (o : Ob) (x1 : Int32) {r : Int32 × Ob} (h : F12 o x1 = some r) : QTri l Z n0 ad 12 (0, qentry [.ref 1, .int x1] (pMaxL 12), [], (H0 s o)) (some (Value.int r.1)) (H0 s r.2) := by
 unfold F12 at h
 refine zS Ad W 2 (st' := (2, [vR 1, vI x1, none], [.int x1, .ref 1], (H0 s o))) rfl ?_
 obtain ⟨r252, hr252, h⟩ := bind_eq_some_iff.mp h
 refine QTri.callP W (a := 1) (as := [.int x1]) (rest := []) (w := (some (.int r252))) (σ₁ := (H0 s o)) rfl rfl rfl rfl rfl rfl rfl rfl (tF4 Ad W s o x1 hr252) ?_
 rcases qite h with ⟨hc253, h⟩ | ⟨hc253, h⟩
 ·refine zF Ad W (t := 10) (f := 8) rfl (XT.i0_ne_f hc253) ?_
  refine zS Ad W 1 (st' := (9, [vR 1, vI x1, none], [.int (-1:Int32)], (H0 s o))) rfl ?_
  obtain rfl := Option.some.inj h
  exact QTri.retI rfl rfl
 ·refine zT Ad W (t := 10) (f := 8) rfl (XT.i0_ne_t hc253) ?_
  refine zS Ad W 4 (st' := (16, [vR 1, vI x1, none], [.int x1, .ref 2, .ref 1], (H0 s o))) rfl ?_
  obtain ⟨y254, hy254, h⟩ := bind_eq_some_iff.mp h
  refine zB Ad W (f := fun y254 => (17, [vR 1, vI x1, none], [.int y254, .ref 1], (H0 s o))) rfl hy254 ?_
  refine zS Ad W 3 (st' := (22, [vR 1, vI x1, none], [.int x1, .ref 3, .int y254, .ref 1], (H0 s o))) rfl ?_
  obtain ⟨y255, hy255, h⟩ := bind_eq_some_iff.mp h
  refine zB Ad W (f := fun y255 => (23, [vR 1, vI x1, none], [.int y255, .int y254, .ref 1], (H0 s o))) rfl hy255 ?_
  refine zS Ad W 3 (st' := (28, [vR 1, vI x1, none], [.int x1, .ref 4, .int y255, .int y254, .ref 1], (H0 s o))) rfl ?_
  obtain ⟨y256, hy256, h⟩ := bind_eq_some_iff.mp h
  refine zB Ad W (f := fun y256 => (29, [vR 1, vI x1, none], [.int y256, .int y255, .int y254, .ref 1], (H0 s o))) rfl hy256 ?_
  refine zS Ad W 3 (st' := (34, [vR 1, vI x1, none], [.int x1, .ref 5, .int y256, .int y255, .int y254, .ref 1], (H0 s o))) rfl ?_
  obtain ⟨y257, hy257, h⟩ := bind_eq_some_iff.mp h
  refine zB Ad W (f := fun y257 => (35, [vR 1, vI x1, none], [.int y257, .int y256, .int y255, .int y254, .ref 1], (H0 s o))) rfl hy257 ?_
  obtain ⟨r294, hr294, h⟩ := bind_eq_some_iff.mp h
  refine QTri.callP W (a := 1) (as := [.int y254, .int y255, .int y256, .int y257]) (rest := []) (w := none) (σ₁ := (H0 s r294)) rfl rfl rfl rfl rfl rfl rfl rfl (tF13 Ad W s o y254 y255 y256 y257 hr294) ?_
  refine zS Ad W 3 (st' := (43, [vR 1, vI x1, none], [.int x1, .ref 6], (H0 s r294))) rfl ?_
  obtain ⟨y295, hy295, h⟩ := bind_eq_some_iff.mp h
  refine zB Ad W (f := fun y295 => (44, [vR 1, vI x1, none], [.int y295], (H0 s r294))) rfl hy295 ?_
  refine zS Ad W 3 (st' := (47, [vR 1, vI x1, vI y295], [.int (1:Int32), .int y295], (H0 s r294))) rfl ?_
  rcases qite h with ⟨hc296, h⟩ | ⟨hc296, h⟩
  ·refine zF Ad W (t := 67) (f := 50) rfl (XT.ii_ne_f hc296) ?_
   refine zS Ad W 4 (st' := (56, [vR 1, vI x1, vI y295], [.int x1, .ref 10, .int x1, .ref 10], (H0 s r294))) rfl ?_
   obtain ⟨y297, hy297, h⟩ := bind_eq_some_iff.mp h
   refine zB Ad W (f := fun y297 => (57, [vR 1, vI x1, vI y295], [.int y297, .int x1, .ref 10], (H0 s r294))) rfl hy297 ?_
   refine zS Ad W 2 (st' := (59, [vR 1, vI x1, vI y295], [.int (y297 + (1:Int32)), .int x1, .ref 10], (H0 s r294))) rfl ?_
   obtain ⟨y298, hy298, h⟩ := bind_eq_some_iff.mp h
   refine zB Ad W (f := fun y298 => (60, [vR 1, vI x1, vI y295], [], (H0x12 s r294 y298))) rfl hy298 ?_
   refine zS Ad W 3 (st' := (65, [vR 1, vI x1, vI y295], [.int x1, .ref 8], (H0x12 s r294 y298))) rfl ?_
   obtain ⟨y299, hy299, h⟩ := bind_eq_some_iff.mp h
   refine zB Ad W (f := fun y299 => (66, [vR 1, vI x1, vI y295], [.int y299], (H0x12 s r294 y298))) rfl hy299 ?_
   have E300 : ((H0x12 s r294 y298) : QHeap) = (H0 s (s_cnt0 r294 y298)) := by simp only [fs, H0, H0v, H0x12, s_cnt0]
   rw [E300]
   obtain rfl := Option.some.inj h
   exact QTri.retI rfl rfl
  ·refine zT Ad W (t := 67) (f := 50) rfl (XT.ii_ne_t hc296) ?_
   refine zS Ad W 2 (st' := (69, [vR 1, vI x1, vI y295], [.int (2:Int32), .int y295], (H0 s r294))) rfl ?_
   rcases qite h with ⟨hc301, h⟩ | ⟨hc301, h⟩
   ·refine zF Ad W (t := 119) (f := 72) rfl (XT.ii_ne_f hc301) ?_
    refine zS Ad W 4 (st' := (78, [vR 1, vI x1, vI y295], [.int x1, .ref 7, .ref 1], (H0 s r294))) rfl ?_
    obtain ⟨y302, hy302, h⟩ := bind_eq_some_iff.mp h
    refine zB Ad W (f := fun y302 => (79, [vR 1, vI x1, vI y295], [.int y302, .ref 1], (H0 s r294))) rfl hy302 ?_
    obtain ⟨r311, hr311, h⟩ := bind_eq_some_iff.mp h
    refine QTri.callP W (a := 1) (as := [.int y302]) (rest := []) (w := (some (.int r311))) (σ₁ := (H0 s r294)) rfl rfl rfl rfl rfl rfl rfl rfl (tF34 Ad W s r294 y302 hr311) ?_
    rcases qite h with ⟨hc312, h⟩ | ⟨hc312, h⟩
    ·refine zT Ad W (t := 102) (f := 85) rfl (XT.i0_eq_t hc312) ?_
     refine zS Ad W 4 (st' := (108, [vR 1, vI x1, vI y295], [.int x1, .ref 11, .int x1, .ref 11], (H0 s r294))) rfl ?_
     obtain ⟨y313, hy313, h⟩ := bind_eq_some_iff.mp h
     refine zB Ad W (f := fun y313 => (109, [vR 1, vI x1, vI y295], [.int y313, .int x1, .ref 11], (H0 s r294))) rfl hy313 ?_
     refine zS Ad W 2 (st' := (111, [vR 1, vI x1, vI y295], [.int (y313 + (1:Int32)), .int x1, .ref 11], (H0 s r294))) rfl ?_
     obtain ⟨y314, hy314, h⟩ := bind_eq_some_iff.mp h
     refine zB Ad W (f := fun y314 => (112, [vR 1, vI x1, vI y295], [], (H0x41 s r294 y314))) rfl hy314 ?_
     refine zS Ad W 3 (st' := (117, [vR 1, vI x1, vI y295], [.int x1, .ref 9], (H0x41 s r294 y314))) rfl ?_
     obtain ⟨y315, hy315, h⟩ := bind_eq_some_iff.mp h
     refine zB Ad W (f := fun y315 => (118, [vR 1, vI x1, vI y295], [.int y315], (H0x41 s r294 y314))) rfl hy315 ?_
     have E316 : ((H0x41 s r294 y314) : QHeap) = (H0 s (s_cnt1 r294 y314)) := by simp only [fs, H0, H0v, H0x41, s_cnt1]
     rw [E316]
     obtain rfl := Option.some.inj h
     exact QTri.retI rfl rfl
    ·refine zF Ad W (t := 102) (f := 85) rfl (XT.i0_eq_f hc312) ?_
     refine zS Ad W 4 (st' := (91, [vR 1, vI x1, vI y295], [.int x1, .ref 10, .int x1, .ref 10], (H0 s r294))) rfl ?_
     obtain ⟨y317, hy317, h⟩ := bind_eq_some_iff.mp h
     refine zB Ad W (f := fun y317 => (92, [vR 1, vI x1, vI y295], [.int y317, .int x1, .ref 10], (H0 s r294))) rfl hy317 ?_
     refine zS Ad W 2 (st' := (94, [vR 1, vI x1, vI y295], [.int (y317 + (1:Int32)), .int x1, .ref 10], (H0 s r294))) rfl ?_
     obtain ⟨y318, hy318, h⟩ := bind_eq_some_iff.mp h
     refine zB Ad W (f := fun y318 => (95, [vR 1, vI x1, vI y295], [], (H0x12 s r294 y318))) rfl hy318 ?_
     refine zS Ad W 3 (st' := (100, [vR 1, vI x1, vI y295], [.int x1, .ref 8], (H0x12 s r294 y318))) rfl ?_
     obtain ⟨y319, hy319, h⟩ := bind_eq_some_iff.mp h
     refine zB Ad W (f := fun y319 => (101, [vR 1, vI x1, vI y295], [.int y319], (H0x12 s r294 y318))) rfl hy319 ?_
     have E320 : ((H0x12 s r294 y318) : QHeap) = (H0 s (s_cnt0 r294 y318)) := by simp only [fs, H0, H0v, H0x12, s_cnt0]
     rw [E320]
     obtain rfl := Option.some.inj h
     exact QTri.retI rfl rfl
   ·refine zT Ad W (t := 119) (f := 72) rfl (XT.ii_ne_t hc301) ?_
    refine zS Ad W 1 (st' := (120, [vR 1, vI x1, vI y295], [.int (-1:Int32)], (H0 s r294))) rfl ?_
    obtain rfl := Option.some.inj h
    exact QTri.retI rfl rfl
def H0x42 (s : List Int32) (o0 : Ob) (a0_34 : Int32) : QHeap := H0v s (f_bOp o0) (f_bD o0) (f_bS o0) (f_bImm o0) (f_bTerm o0) (f_bTest o0) (f_bT0 o0) (f_bT1 o0) (f_cnt0 o0) (f_cnt1 o0) (f_regs o0) (f_outs o0) (f_edgeId o0) (f_edgeW o0) (f_chNext o0) (f_chPrev o0) (f_chHead o0) (f_heat o0) (f_posOf o0) (f_order o0) (f_cOp o0) (f_cD o0) (f_cS o0) (f_cImm o0) (f_cKind o0) (f_cTest o0) (f_cTaken o0) (f_cOther o0) (f_maxBlocks o0) (f_maxSteps o0) (f_n o0) (f_arranged o0) (f_outCount o0) (f_steps o0) a0_34 (f_edgeN o0)
def J8_112 (o : Ob) (q3 : Int32) : Option (((Int32 × Ob)) ⊕ (Int32 × Ob)) :=
  some (.inl (q3, (s_status o q3)))
theorem tJ8_112_q3 (Ad : QAd n0 ad) (W : QW Z a0) (s : List Int32) (x3 : Int32) (o : Ob) (q3 : Int32) {r : ((Int32 × Ob)) ⊕ (Int32 × Ob)} {u : Option Value} {τ : QHeap} (h : J8_112 o q3 = some r) (hx0 : ∀ x : Int32 × Ob, r = .inl x → u = (some (Value.int x.1)) ∧ τ = (H0 s x.2)) (hc : ∀ x : Int32 × Ob, r = .inr x → QTri l Z n0 ad 8 (51, [vR 1, none, vI x.1, vI x3, none], [], (H0 s x.2)) u τ) : QTri l Z n0 ad 8 (112, [vR 1, none, none, vI q3, none], [], (H0 s o)) u τ := by
 unfold J8_112 at h
 refine zS Ad W 3 (st' := (117, [vR 1, none, none, vI q3, none], [], (H0x42 s o q3))) rfl ?_
 refine zS Ad W 1 (st' := (118, [vR 1, none, none, vI q3, none], [.int q3], (H0x42 s o q3))) rfl ?_
 have E323 : ((H0x42 s o q3) : QHeap) = (H0 s (s_status o q3)) := by simp only [fs, H0, H0v, H0x42, s_status]
 rw [E323]
 obtain rfl := Option.some.inj h
 obtain ⟨rfl, rfl⟩ := hx0 (q3, (s_status o q3)) rfl
 exact QTri.retI rfl rfl
def J8_96 (o : Ob) (x3 : Int32) (x4 : Int32) : Option (((Int32 × Ob)) ⊕ (Int32 × Ob)) :=
  (if x4 < (0 : Int32) then (J8_112 o (1 : Int32)) else some (.inr (x4, o)))
theorem tJ8_96 (Ad : QAd n0 ad) (W : QW Z a0) (s : List Int32) (o : Ob) (x3 : Int32) (x4 : Int32) {r : ((Int32 × Ob)) ⊕ (Int32 × Ob)} {u : Option Value} {τ : QHeap} (h : J8_96 o x3 x4 = some r) (hx0 : ∀ x : Int32 × Ob, r = .inl x → u = (some (Value.int x.1)) ∧ τ = (H0 s x.2)) (hc : ∀ x : Int32 × Ob, r = .inr x → QTri l Z n0 ad 8 (51, [vR 1, none, vI x.1, vI x3, none], [], (H0 s x.2)) u τ) : QTri l Z n0 ad 8 (96, [vR 1, none, none, vI x3, vI x4], [], (H0 s o)) u τ := by
 unfold J8_96 at h
 refine zS Ad W 1 (st' := (98, [vR 1, none, none, vI x3, vI x4], [.int x4], (H0 s o))) rfl ?_
 rcases qite h with ⟨hc322, h⟩ | ⟨hc322, h⟩
 ·refine zF Ad W (t := 106) (f := 101) rfl (XT.i0_ge_f hc322) ?_
  refine zS Ad W 3 (st' := (112, [vR 1, none, none, vI (1:Int32), vI x4], [], (H0 s o))) rfl ?_
  exact zM [tt,ff,ff,tt,ff] (tJ8_112_q3 Ad W s x3 o (1:Int32) h hx0 hc)
 ·refine zT Ad W (t := 106) (f := 101) rfl (XT.i0_ge_t hc322) ?_
  refine zS Ad W 3 (st' := (51, [vR 1, none, vI x4, vI x3, vI x4], [], (H0 s o))) rfl ?_
  obtain rfl := Option.some.inj h
  exact zM [tt,ff,tt,tt,ff] (hc (x4, o) rfl)
/-- stepFlat(I)I -/
def F33 (o : Ob) (x1 : Int32) : Option (Int32 × Ob) :=
 (if x1 < (0:Int32) then some ((-1:Int32), o) else (if x1 < (f_n o) then (if x1 < (16:Int32) then (aget (f_cOp o) x1).bind fun y328 => (aget (f_cD o) x1).bind fun y329 => (aget (f_cS o) x1).bind fun y330 => (aget (f_cImm o) x1).bind fun y331 => (F13 o y328 y329 y330 y331).bind fun r332 => (aget (f_cKind r332) x1).bind fun y333 => (if y333 = (3:Int32) then some ((x1 + (1:Int32)), r332) else (if y333 = (1:Int32) then (aget (f_cTaken r332) x1).bind fun y336 => some (y336, r332) else (if y333 = (2:Int32) then (aget (f_cTest r332) x1).bind fun y338 => (F34 r332 y338).bind fun r339 => (if r339 = (0:Int32) then (aget (f_cOther r332) x1).bind fun y341 => some (y341, r332) else (aget (f_cTaken r332) x1).bind fun y342 => some (y342, r332)) else some ((-1:Int32), r332)))) else some ((-1:Int32), o)) else some ((-1:Int32), o)))
theorem tF33 (Ad : QAd n0 ad) (W : QW Z a0) (s : List Int32) (o : Ob) (x1 : Int32) {r : Int32 × Ob} (h : F33 o x1 = some r) : QTri l Z n0 ad 33 (0, qentry [.ref 1, .int x1] (pMaxL 33), [], (H0 s o)) (some (Value.int r.1)) (H0 s r.2) := by
 unfold F33 at h
 refine zS Ad W 1 (st' := (1, [vR 1, vI x1, none], [.int x1], (H0 s o))) rfl ?_
 rcases qite h with ⟨hc325, h⟩ | ⟨hc325, h⟩
 ·refine zT Ad W (t := 18) (f := 4) rfl (XT.i0_lt_t hc325) ?_
  refine zS Ad W 1 (st' := (19, [vR 1, vI x1, none], [.int (-1:Int32)], (H0 s o))) rfl ?_
  obtain rfl := Option.some.inj h
  exact QTri.retI rfl rfl
 ·refine zF Ad W (t := 18) (f := 4) rfl (XT.i0_lt_f hc325) ?_
  refine zS Ad W 3 (st' := (9, [vR 1, vI x1, none], [.int (f_n o), .int x1], (H0 s o))) rfl ?_
  rcases qite h with ⟨hc326, h⟩ | ⟨hc326, h⟩
  ·refine zF Ad W (t := 18) (f := 12) rfl (XT.ii_ge_f hc326) ?_
   refine zS Ad W 2 (st' := (15, [vR 1, vI x1, none], [.int (16:Int32), .int x1], (H0 s o))) rfl ?_
   rcases qite h with ⟨hc327, h⟩ | ⟨hc327, h⟩
   ·refine zT Ad W (t := 20) (f := 18) rfl (XT.ii_lt_t hc327) ?_
    refine zS Ad W 4 (st' := (26, [vR 1, vI x1, none], [.int x1, .ref 22, .ref 1], (H0 s o))) rfl ?_
    obtain ⟨y328, hy328, h⟩ := bind_eq_some_iff.mp h
    refine zB Ad W (f := fun y328 => (27, [vR 1, vI x1, none], [.int y328, .ref 1], (H0 s o))) rfl hy328 ?_
    refine zS Ad W 3 (st' := (32, [vR 1, vI x1, none], [.int x1, .ref 23, .int y328, .ref 1], (H0 s o))) rfl ?_
    obtain ⟨y329, hy329, h⟩ := bind_eq_some_iff.mp h
    refine zB Ad W (f := fun y329 => (33, [vR 1, vI x1, none], [.int y329, .int y328, .ref 1], (H0 s o))) rfl hy329 ?_
    refine zS Ad W 3 (st' := (38, [vR 1, vI x1, none], [.int x1, .ref 24, .int y329, .int y328, .ref 1], (H0 s o))) rfl ?_
    obtain ⟨y330, hy330, h⟩ := bind_eq_some_iff.mp h
    refine zB Ad W (f := fun y330 => (39, [vR 1, vI x1, none], [.int y330, .int y329, .int y328, .ref 1], (H0 s o))) rfl hy330 ?_
    refine zS Ad W 3 (st' := (44, [vR 1, vI x1, none], [.int x1, .ref 25, .int y330, .int y329, .int y328, .ref 1], (H0 s o))) rfl ?_
    obtain ⟨y331, hy331, h⟩ := bind_eq_some_iff.mp h
    refine zB Ad W (f := fun y331 => (45, [vR 1, vI x1, none], [.int y331, .int y330, .int y329, .int y328, .ref 1], (H0 s o))) rfl hy331 ?_
    obtain ⟨r332, hr332, h⟩ := bind_eq_some_iff.mp h
    refine QTri.callP W (a := 1) (as := [.int y328, .int y329, .int y330, .int y331]) (rest := []) (w := none) (σ₁ := (H0 s r332)) rfl rfl rfl rfl rfl rfl rfl rfl (tF13 Ad W s o y328 y329 y330 y331 hr332) ?_
    refine zS Ad W 3 (st' := (53, [vR 1, vI x1, none], [.int x1, .ref 26], (H0 s r332))) rfl ?_
    obtain ⟨y333, hy333, h⟩ := bind_eq_some_iff.mp h
    refine zB Ad W (f := fun y333 => (54, [vR 1, vI x1, none], [.int y333], (H0 s r332))) rfl hy333 ?_
    refine zS Ad W 3 (st' := (57, [vR 1, vI x1, vI y333], [.int (3:Int32), .int y333], (H0 s r332))) rfl ?_
    rcases qite h with ⟨hc334, h⟩ | ⟨hc334, h⟩
    ·refine zF Ad W (t := 64) (f := 60) rfl (XT.ii_ne_f hc334) ?_
     refine zS Ad W 3 (st' := (63, [vR 1, vI x1, vI y333], [.int (x1 + (1:Int32))], (H0 s r332))) rfl ?_
     obtain rfl := Option.some.inj h
     exact QTri.retI rfl rfl
    ·refine zT Ad W (t := 64) (f := 60) rfl (XT.ii_ne_t hc334) ?_
     refine zS Ad W 2 (st' := (66, [vR 1, vI x1, vI y333], [.int (1:Int32), .int y333], (H0 s r332))) rfl ?_
     rcases qite h with ⟨hc335, h⟩ | ⟨hc335, h⟩
     ·refine zF Ad W (t := 76) (f := 69) rfl (XT.ii_ne_f hc335) ?_
      refine zS Ad W 3 (st' := (74, [vR 1, vI x1, vI y333], [.int x1, .ref 28], (H0 s r332))) rfl ?_
      obtain ⟨y336, hy336, h⟩ := bind_eq_some_iff.mp h
      refine zB Ad W (f := fun y336 => (75, [vR 1, vI x1, vI y333], [.int y336], (H0 s r332))) rfl hy336 ?_
      obtain rfl := Option.some.inj h
      exact QTri.retI rfl rfl
     ·refine zT Ad W (t := 76) (f := 69) rfl (XT.ii_ne_t hc335) ?_
      refine zS Ad W 2 (st' := (78, [vR 1, vI x1, vI y333], [.int (2:Int32), .int y333], (H0 s r332))) rfl ?_
      rcases qite h with ⟨hc337, h⟩ | ⟨hc337, h⟩
      ·refine zF Ad W (t := 108) (f := 81) rfl (XT.ii_ne_f hc337) ?_
       refine zS Ad W 4 (st' := (87, [vR 1, vI x1, vI y333], [.int x1, .ref 27, .ref 1], (H0 s r332))) rfl ?_
       obtain ⟨y338, hy338, h⟩ := bind_eq_some_iff.mp h
       refine zB Ad W (f := fun y338 => (88, [vR 1, vI x1, vI y333], [.int y338, .ref 1], (H0 s r332))) rfl hy338 ?_
       obtain ⟨r339, hr339, h⟩ := bind_eq_some_iff.mp h
       refine QTri.callP W (a := 1) (as := [.int y338]) (rest := []) (w := (some (.int r339))) (σ₁ := (H0 s r332)) rfl rfl rfl rfl rfl rfl rfl rfl (tF34 Ad W s r332 y338 hr339) ?_
       rcases qite h with ⟨hc340, h⟩ | ⟨hc340, h⟩
       ·refine zT Ad W (t := 101) (f := 94) rfl (XT.i0_eq_t hc340) ?_
        refine zS Ad W 3 (st' := (106, [vR 1, vI x1, vI y333], [.int x1, .ref 29], (H0 s r332))) rfl ?_
        obtain ⟨y341, hy341, h⟩ := bind_eq_some_iff.mp h
        refine zB Ad W (f := fun y341 => (107, [vR 1, vI x1, vI y333], [.int y341], (H0 s r332))) rfl hy341 ?_
        obtain rfl := Option.some.inj h
        exact QTri.retI rfl rfl
       ·refine zF Ad W (t := 101) (f := 94) rfl (XT.i0_eq_f hc340) ?_
        refine zS Ad W 3 (st' := (99, [vR 1, vI x1, vI y333], [.int x1, .ref 28], (H0 s r332))) rfl ?_
        obtain ⟨y342, hy342, h⟩ := bind_eq_some_iff.mp h
        refine zB Ad W (f := fun y342 => (100, [vR 1, vI x1, vI y333], [.int y342], (H0 s r332))) rfl hy342 ?_
        obtain rfl := Option.some.inj h
        exact QTri.retI rfl rfl
      ·refine zT Ad W (t := 108) (f := 81) rfl (XT.ii_ne_t hc337) ?_
       refine zS Ad W 1 (st' := (109, [vR 1, vI x1, vI y333], [.int (-1:Int32)], (H0 s r332))) rfl ?_
       obtain rfl := Option.some.inj h
       exact QTri.retI rfl rfl
   ·refine zF Ad W (t := 20) (f := 18) rfl (XT.ii_lt_f hc327) ?_
    refine zS Ad W 1 (st' := (19, [vR 1, vI x1, none], [.int (-1:Int32)], (H0 s o))) rfl ?_
    obtain rfl := Option.some.inj h
    exact QTri.retI rfl rfl
  ·refine zT Ad W (t := 18) (f := 12) rfl (XT.ii_ge_t hc326) ?_
   refine zS Ad W 1 (st' := (19, [vR 1, vI x1, none], [.int (-1:Int32)], (H0 s o))) rfl ?_
   obtain rfl := Option.some.inj h
   exact QTri.retI rfl rfl
theorem tJ8_112 (Ad : QAd n0 ad) (W : QW Z a0) (s : List Int32) (o : Ob) (x3 : Int32) {r : ((Int32 × Ob)) ⊕ (Int32 × Ob)} {u : Option Value} {τ : QHeap} (h : J8_112 o x3 = some r) (hx0 : ∀ x : Int32 × Ob, r = .inl x → u = (some (Value.int x.1)) ∧ τ = (H0 s x.2)) (hc : ∀ x : Int32 × Ob, r = .inr x → QTri l Z n0 ad 8 (51, [vR 1, none, vI x.1, vI x3, none], [], (H0 s x.2)) u τ) : QTri l Z n0 ad 8 (112, [vR 1, none, none, vI x3, none], [], (H0 s o)) u τ := by
 unfold J8_112 at h
 refine zS Ad W 3 (st' := (117, [vR 1, none, none, vI x3, none], [], (H0x42 s o x3))) rfl ?_
 refine zS Ad W 1 (st' := (118, [vR 1, none, none, vI x3, none], [.int x3], (H0x42 s o x3))) rfl ?_
 have E344 : ((H0x42 s o x3) : QHeap) = (H0 s (s_status o x3)) := by simp only [fs, H0, H0v, H0x42, s_status]
 rw [E344]
 obtain rfl := Option.some.inj h
 obtain ⟨rfl, rfl⟩ := hx0 (x3, (s_status o x3)) rfl
 exact QTri.retI rfl rfl
def B8_51 (x3 : Int32) (v : Int32 × Ob) : Option (((Int32 × Ob)) ⊕ (Int32 × Ob)) :=
  (if (f_steps v.2) < (f_maxSteps v.2) then (if (f_arranged v.2) = (0 : Int32) then (F12 (s_steps v.2 ((f_steps v.2) + (1 : Int32))) v.1).bind fun r321 => (J8_96 r321.2 x3 r321.1) else (F33 (s_steps v.2 ((f_steps v.2) + (1 : Int32))) v.1).bind fun r343 => (J8_96 r343.2 x3 r343.1)) else (J8_112 v.2 x3))
theorem tB8_51 (Ad : QAd n0 ad) (W : QW Z a0) (s : List Int32) (x3 : Int32) (v : Int32 × Ob) {r : ((Int32 × Ob)) ⊕ (Int32 × Ob)} {u : Option Value} {τ : QHeap} (h : B8_51 x3 v = some r) (hx0 : ∀ x : Int32 × Ob, r = .inl x → u = (some (Value.int x.1)) ∧ τ = (H0 s x.2)) (hc : ∀ x : Int32 × Ob, r = .inr x → QTri l Z n0 ad 8 (51, [vR 1, none, vI x.1, vI x3, none], [], (H0 s x.2)) u τ) : QTri l Z n0 ad 8 (51, [vR 1, none, vI v.1, vI x3, none], [], (H0 s v.2)) u τ := by
 unfold B8_51 at h
 refine zS Ad W 4 (st' := (59, [vR 1, none, vI v.1, vI x3, none], [.int (f_maxSteps v.2), .int (f_steps v.2)], (H0 s v.2))) rfl ?_
 rcases qite h with ⟨hc249, h⟩ | ⟨hc249, h⟩
 ·refine zF Ad W (t := 112) (f := 62) rfl (XT.ii_ge_f hc249) ?_
  refine zS Ad W 6 (st' := (72, [vR 1, none, vI v.1, vI x3, none], [], (H0x38 s v.2 ((f_steps v.2) + (1:Int32))))) rfl ?_
  refine zS Ad W 2 (st' := (76, [vR 1, none, vI v.1, vI x3, none], [.int (f_arranged v.2)], (H0x38 s v.2 ((f_steps v.2) + (1:Int32))))) rfl ?_
  rcases qite h with ⟨hc250, h⟩ | ⟨hc250, h⟩
  ·refine zT Ad W (t := 89) (f := 79) rfl (XT.i0_eq_t hc250) ?_
   refine zS Ad W 2 (st' := (91, [vR 1, none, vI v.1, vI x3, none], [.int v.1, .ref 1], (H0x38 s v.2 ((f_steps v.2) + (1:Int32))))) rfl ?_
   have E251 : ((H0x38 s v.2 ((f_steps v.2) + (1:Int32))) : QHeap) = (H0 s (s_steps v.2 ((f_steps v.2) + (1:Int32)))) := by simp only [fs, H0, H0v, H0x38, s_steps]
   rw [E251]
   obtain ⟨r321, hr321, h⟩ := bind_eq_some_iff.mp h
   refine QTri.callP W (a := 1) (as := [.int v.1]) (rest := []) (w := (some (.int r321.1))) (σ₁ := (H0 s r321.2)) rfl rfl rfl rfl rfl rfl rfl rfl (tF12 Ad W s (s_steps v.2 ((f_steps v.2) + (1:Int32))) v.1 hr321) ?_
   refine zS Ad W 1 (st' := (96, [vR 1, none, vI v.1, vI x3, vI r321.1], [], (H0 s r321.2))) rfl ?_
   exact zM [tt,ff,ff,tt,tt] (tJ8_96 Ad W s r321.2 x3 r321.1 h hx0 hc)
  ·refine zF Ad W (t := 89) (f := 79) rfl (XT.i0_eq_f hc250) ?_
   refine zS Ad W 2 (st' := (81, [vR 1, none, vI v.1, vI x3, none], [.int v.1, .ref 1], (H0x38 s v.2 ((f_steps v.2) + (1:Int32))))) rfl ?_
   have E324 : ((H0x38 s v.2 ((f_steps v.2) + (1:Int32))) : QHeap) = (H0 s (s_steps v.2 ((f_steps v.2) + (1:Int32)))) := by simp only [fs, H0, H0v, H0x38, s_steps]
   rw [E324]
   obtain ⟨r343, hr343, h⟩ := bind_eq_some_iff.mp h
   refine QTri.callP W (a := 1) (as := [.int v.1]) (rest := []) (w := (some (.int r343.1))) (σ₁ := (H0 s r343.2)) rfl rfl rfl rfl rfl rfl rfl rfl (tF33 Ad W s (s_steps v.2 ((f_steps v.2) + (1:Int32))) v.1 hr343) ?_
   refine zS Ad W 2 (st' := (96, [vR 1, none, vI v.1, vI x3, vI r343.1], [], (H0 s r343.2))) rfl ?_
   exact zM [tt,ff,ff,tt,tt] (tJ8_96 Ad W s r343.2 x3 r343.1 h hx0 hc)
 ·refine zT Ad W (t := 112) (f := 62) rfl (XT.ii_ge_t hc249) ?_
  exact zM [tt,ff,ff,tt,ff] (tJ8_112 Ad W s v.2 x3 h hx0 hc)
/-- run(I)I -/
def F8 (o : Ob) (x1 : Int32) : Option (Int32 × Ob) :=
 (if (f_n o) = (0:Int32) then some ((3:Int32), o) else (aset (f_regs o) (0:Int32) x1).bind fun y244 => (aset y244 (1:Int32) (0:Int32)).bind fun y245 => (aset y245 (2:Int32) (0:Int32)).bind fun y246 => (aset y246 (3:Int32) (0:Int32)).bind fun y247 => (loopN (B8_51 (2:Int32)) qN ((0:Int32), (s_steps (s_outCount (s_regs o y247) (0:Int32)) (0:Int32)))).bind fun e345 => some e345)
theorem tF8 (Ad : QAd n0 ad) (W : QW Z a0) (s : List Int32) (o : Ob) (x1 : Int32) {r : Int32 × Ob} (h : F8 o x1 = some r) : QTri l Z n0 ad 8 (0, qentry [.ref 1, .int x1] (pMaxL 8), [], (H0 s o)) (some (Value.int r.1)) (H0 s r.2) := by
 unfold F8 at h
 refine zS Ad W 2 (st' := (4, [vR 1, vI x1, none, none, none], [.int (f_n o)], (H0 s o))) rfl ?_
 rcases qite h with ⟨hc243, h⟩ | ⟨hc243, h⟩
 ·refine zF Ad W (t := 9) (f := 7) rfl (XT.i0_ne_f hc243) ?_
  refine zS Ad W 1 (st' := (8, [vR 1, vI x1, none, none, none], [.int (3:Int32)], (H0 s o))) rfl ?_
  obtain rfl := Option.some.inj h
  exact QTri.retI rfl rfl
 ·refine zT Ad W (t := 9) (f := 7) rfl (XT.i0_ne_t hc243) ?_
  refine zS Ad W 4 (st' := (15, [vR 1, vI x1, none, none, none], [.int x1, .int (0:Int32), .ref 12], (H0 s o))) rfl ?_
  obtain ⟨y244, hy244, h⟩ := bind_eq_some_iff.mp h
  refine zB Ad W (f := fun y244 => (16, [vR 1, vI x1, none, none, none], [], (H0x35 s o y244))) rfl hy244 ?_
  refine zS Ad W 4 (st' := (22, [vR 1, vI x1, none, none, none], [.int (0:Int32), .int (1:Int32), .ref 12], (H0x35 s o y244))) rfl ?_
  obtain ⟨y245, hy245, h⟩ := bind_eq_some_iff.mp h
  refine zB Ad W (f := fun y245 => (23, [vR 1, vI x1, none, none, none], [], (H0x35 s o y245))) rfl hy245 ?_
  refine zS Ad W 4 (st' := (29, [vR 1, vI x1, none, none, none], [.int (0:Int32), .int (2:Int32), .ref 12], (H0x35 s o y245))) rfl ?_
  obtain ⟨y246, hy246, h⟩ := bind_eq_some_iff.mp h
  refine zB Ad W (f := fun y246 => (30, [vR 1, vI x1, none, none, none], [], (H0x35 s o y246))) rfl hy246 ?_
  refine zS Ad W 4 (st' := (36, [vR 1, vI x1, none, none, none], [.int (0:Int32), .int (3:Int32), .ref 12], (H0x35 s o y246))) rfl ?_
  obtain ⟨y247, hy247, h⟩ := bind_eq_some_iff.mp h
  refine zB Ad W (f := fun y247 => (37, [vR 1, vI x1, none, none, none], [], (H0x35 s o y247))) rfl hy247 ?_
  refine zS Ad W 3 (st' := (42, [vR 1, vI x1, none, none, none], [], (H0x36 s o y247 (0:Int32)))) rfl ?_
  refine zS Ad W 3 (st' := (47, [vR 1, vI x1, none, none, none], [], (H0x37 s o y247 (0:Int32) (0:Int32)))) rfl ?_
  refine zS Ad W 4 (st' := (51, [vR 1, vI x1, vI (0:Int32), vI (2:Int32), none], [], (H0x37 s o y247 (0:Int32) (0:Int32)))) rfl ?_
  have E248 : ((H0x37 s o y247 (0:Int32) (0:Int32)) : QHeap) = (H0 s (s_steps (s_outCount (s_regs o y247) (0:Int32)) (0:Int32))) := by simp only [fs, H0, H0v, H0x37, s_regs, s_outCount, s_steps]
  rw [E248]
  obtain ⟨e345, he345, h⟩ := bind_eq_some_iff.mp h
  refine zM [tt,ff,tt,tt,ff] (loopN_tri (B := B8_51 (2:Int32)) (T := fun lv346 => QTri l Z n0 ad 8 (51, [vR 1, none, vI lv346.1, vI (2:Int32), none], [], (H0 s lv346.2)) (some (Value.int r.1)) (H0 s r.2)) (KE := fun e345a => (some (Value.int r.1)) = (some (Value.int e345a.1)) ∧ (H0 s r.2) = (H0 s e345a.2)) (fun lv346 r hB hE hC => tB8_51 Ad W s (2:Int32) lv346 hB (fun x q => hE _ q) (fun x q => hC x q)) qN ((0:Int32), (s_steps (s_outCount (s_regs o y247) (0:Int32)) (0:Int32))) e345 he345 ?_)
  obtain rfl := Option.some.inj h
  exact ⟨rfl, rfl⟩
/-- lastStatus()I -/
def F17 (o : Ob) : Option (Int32) :=
 some (f_status o)
theorem tF17 (Ad : QAd n0 ad) (W : QW Z a0) (s : List Int32) (o : Ob) {r : Int32} (h : F17 o = some r) : QTri l Z n0 ad 17 (0, qentry [.ref 1] (pMaxL 17), [], (H0 s o)) (some (Value.int r)) (H0 s o) := by
 unfold F17 at h
 refine zS Ad W 2 (st' := (4, [vR 1], [.int (f_status o)], (H0 s o))) rfl ?_
 obtain rfl := Option.some.inj h
 exact QTri.retI rfl rfl
/-- lastSteps()I -/
def F18 (o : Ob) : Option (Int32) :=
 some (f_steps o)
theorem tF18 (Ad : QAd n0 ad) (W : QW Z a0) (s : List Int32) (o : Ob) {r : Int32} (h : F18 o = some r) : QTri l Z n0 ad 18 (0, qentry [.ref 1] (pMaxL 18), [], (H0 s o)) (some (Value.int r)) (H0 s o) := by
 unfold F18 at h
 refine zS Ad W 2 (st' := (4, [vR 1], [.int (f_steps o)], (H0 s o))) rfl ?_
 obtain rfl := Option.some.inj h
 exact QTri.retI rfl rfl
/-- outputCount()I -/
def F19 (o : Ob) : Option (Int32) :=
 some (f_outCount o)
theorem tF19 (Ad : QAd n0 ad) (W : QW Z a0) (s : List Int32) (o : Ob) {r : Int32} (h : F19 o = some r) : QTri l Z n0 ad 19 (0, qentry [.ref 1] (pMaxL 19), [], (H0 s o)) (some (Value.int r)) (H0 s o) := by
 unfold F19 at h
 refine zS Ad W 2 (st' := (4, [vR 1], [.int (f_outCount o)], (H0 s o))) rfl ?_
 obtain rfl := Option.some.inj h
 exact QTri.retI rfl rfl
/-- reg(I)I -/
def F20 (o : Ob) (x1 : Int32) : Option (Int32) :=
 (if x1 < (0:Int32) then some (0:Int32) else (if (3:Int32) < x1 then some (0:Int32) else (aget (f_regs o) x1).bind fun y354 => some y354))
theorem tF20 (Ad : QAd n0 ad) (W : QW Z a0) (s : List Int32) (o : Ob) (x1 : Int32) {r : Int32} (h : F20 o x1 = some r) : QTri l Z n0 ad 20 (0, qentry [.ref 1, .int x1] (pMaxL 20), [], (H0 s o)) (some (Value.int r)) (H0 s o) := by
 unfold F20 at h
 refine zS Ad W 1 (st' := (1, [vR 1, vI x1], [.int x1], (H0 s o))) rfl ?_
 rcases qite h with ⟨hc352, h⟩ | ⟨hc352, h⟩
 ·refine zT Ad W (t := 9) (f := 4) rfl (XT.i0_lt_t hc352) ?_
  refine zS Ad W 1 (st' := (10, [vR 1, vI x1], [.int (0:Int32)], (H0 s o))) rfl ?_
  obtain rfl := Option.some.inj h
  exact QTri.retI rfl rfl
 ·refine zF Ad W (t := 9) (f := 4) rfl (XT.i0_lt_f hc352) ?_
  refine zS Ad W 2 (st' := (6, [vR 1, vI x1], [.int (3:Int32), .int x1], (H0 s o))) rfl ?_
  rcases qite h with ⟨hc353, h⟩ | ⟨hc353, h⟩
  ·refine zF Ad W (t := 11) (f := 9) rfl (XT.ii_le_f hc353) ?_
   refine zS Ad W 1 (st' := (10, [vR 1, vI x1], [.int (0:Int32)], (H0 s o))) rfl ?_
   obtain rfl := Option.some.inj h
   exact QTri.retI rfl rfl
  ·refine zT Ad W (t := 11) (f := 9) rfl (XT.ii_le_t hc353) ?_
   refine zS Ad W 3 (st' := (16, [vR 1, vI x1], [.int x1, .ref 12], (H0 s o))) rfl ?_
   obtain ⟨y354, hy354, h⟩ := bind_eq_some_iff.mp h
   refine zB Ad W (f := fun y354 => (17, [vR 1, vI x1], [.int y354], (H0 s o))) rfl hy354 ?_
   obtain rfl := Option.some.inj h
   exact QTri.retI rfl rfl
def B16_32 (o : Ob) (v : Int64 × Int32) : Option (((Int64)) ⊕ (Int64 × Int32)) :=
  (if v.2 < (4 : Int32) then (F20 o v.2).bind fun r355 => some (.inr (((v.1 * (31 : Int64)) + (r355.toInt64)), (v.2 + (1 : Int32)))) else some (.inl v.1))
theorem tB16_32 (Ad : QAd n0 ad) (W : QW Z a0) (s : List Int32) (o : Ob) (v : Int64 × Int32) {r : ((Int64)) ⊕ (Int64 × Int32)} {u : Option Value} {τ : QHeap} (h : B16_32 o v = some r) (hx0 : ∀ x : Int64, r = .inl x → QTri l Z n0 ad 16 (56, [vR 1, vL x, none, none], [], (H0 s o)) u τ) (hc : ∀ x : Int64 × Int32, r = .inr x → QTri l Z n0 ad 16 (32, [vR 1, vL x.1, none, vI x.2], [], (H0 s o)) u τ) : QTri l Z n0 ad 16 (32, [vR 1, vL v.1, none, vI v.2], [], (H0 s o)) u τ := by
 unfold B16_32 at h
 refine zS Ad W 2 (st' := (34, [vR 1, vL v.1, none, vI v.2], [.int (4:Int32), .int v.2], (H0 s o))) rfl ?_
 rcases qite h with ⟨hc351, h⟩ | ⟨hc351, h⟩
 ·refine zF Ad W (t := 56) (f := 37) rfl (XT.ii_ge_f hc351) ?_
  refine zS Ad W 5 (st' := (44, [vR 1, vL v.1, none, vI v.2], [.int v.2, .ref 1, .long (v.1 * (31 : Int64))], (H0 s o))) rfl ?_
  obtain ⟨r355, hr355, h⟩ := bind_eq_some_iff.mp h
  refine QTri.callV W (a := 1) (as := [.int v.2]) (rest := [.long (v.1 * (31 : Int64))]) (w := (some (.int r355))) (σ₁ := (H0 s o)) rfl rfl rfl rfl rfl rfl rfl rfl (tF20 Ad W s o v.2 hr355) ?_
  refine zS Ad W 4 (st' := (53, [vR 1, vL ((v.1 * (31 : Int64)) + (r355.toInt64)), none, vI (v.2 + (1:Int32))], [], (H0 s o))) rfl ?_
  refine zS Ad W 1 (st' := (32, [vR 1, vL ((v.1 * (31 : Int64)) + (r355.toInt64)), none, vI (v.2 + (1:Int32))], [], (H0 s o))) rfl ?_
  obtain rfl := Option.some.inj h
  exact zM [tt,tt,ff,tt] (hc (((v.1 * (31 : Int64)) + (r355.toInt64)), (v.2 + (1:Int32))) rfl)
 ·refine zT Ad W (t := 56) (f := 37) rfl (XT.ii_ge_t hc351) ?_
  obtain rfl := Option.some.inj h
  exact zM [tt,tt,ff,ff] (hx0 v.1 rfl)
/-- output(I)I -/
def F21 (o : Ob) (x1 : Int32) : Option (Int32) :=
 (if x1 < (0:Int32) then some (0:Int32) else (if x1 < (f_outCount o) then (if x1 < (16:Int32) then (aget (f_outs o) x1).bind fun y362 => some y362 else some (0:Int32)) else some (0:Int32)))
theorem tF21 (Ad : QAd n0 ad) (W : QW Z a0) (s : List Int32) (o : Ob) (x1 : Int32) {r : Int32} (h : F21 o x1 = some r) : QTri l Z n0 ad 21 (0, qentry [.ref 1, .int x1] (pMaxL 21), [], (H0 s o)) (some (Value.int r)) (H0 s o) := by
 unfold F21 at h
 refine zS Ad W 1 (st' := (1, [vR 1, vI x1], [.int x1], (H0 s o))) rfl ?_
 rcases qite h with ⟨hc359, h⟩ | ⟨hc359, h⟩
 ·refine zT Ad W (t := 18) (f := 4) rfl (XT.i0_lt_t hc359) ?_
  refine zS Ad W 1 (st' := (19, [vR 1, vI x1], [.int (0:Int32)], (H0 s o))) rfl ?_
  obtain rfl := Option.some.inj h
  exact QTri.retI rfl rfl
 ·refine zF Ad W (t := 18) (f := 4) rfl (XT.i0_lt_f hc359) ?_
  refine zS Ad W 3 (st' := (9, [vR 1, vI x1], [.int (f_outCount o), .int x1], (H0 s o))) rfl ?_
  rcases qite h with ⟨hc360, h⟩ | ⟨hc360, h⟩
  ·refine zF Ad W (t := 18) (f := 12) rfl (XT.ii_ge_f hc360) ?_
   refine zS Ad W 2 (st' := (15, [vR 1, vI x1], [.int (16:Int32), .int x1], (H0 s o))) rfl ?_
   rcases qite h with ⟨hc361, h⟩ | ⟨hc361, h⟩
   ·refine zT Ad W (t := 20) (f := 18) rfl (XT.ii_lt_t hc361) ?_
    refine zS Ad W 3 (st' := (25, [vR 1, vI x1], [.int x1, .ref 13], (H0 s o))) rfl ?_
    obtain ⟨y362, hy362, h⟩ := bind_eq_some_iff.mp h
    refine zB Ad W (f := fun y362 => (26, [vR 1, vI x1], [.int y362], (H0 s o))) rfl hy362 ?_
    obtain rfl := Option.some.inj h
    exact QTri.retI rfl rfl
   ·refine zF Ad W (t := 20) (f := 18) rfl (XT.ii_lt_f hc361) ?_
    refine zS Ad W 1 (st' := (19, [vR 1, vI x1], [.int (0:Int32)], (H0 s o))) rfl ?_
    obtain rfl := Option.some.inj h
    exact QTri.retI rfl rfl
  ·refine zT Ad W (t := 18) (f := 12) rfl (XT.ii_ge_t hc360) ?_
   refine zS Ad W 1 (st' := (19, [vR 1, vI x1], [.int (0:Int32)], (H0 s o))) rfl ?_
   obtain rfl := Option.some.inj h
   exact QTri.retI rfl rfl
def B16_58 (o : Ob) (v : Int64 × Int32) : Option (((Int64)) ⊕ (Int64 × Int32)) :=
  (if v.2 < (16 : Int32) then (F21 o v.2).bind fun r363 => some (.inr (((v.1 * (31 : Int64)) + (r363.toInt64)), (v.2 + (1 : Int32)))) else some (.inl v.1))
theorem tB16_58 (Ad : QAd n0 ad) (W : QW Z a0) (s : List Int32) (o : Ob) (v : Int64 × Int32) {r : ((Int64)) ⊕ (Int64 × Int32)} {u : Option Value} {τ : QHeap} (h : B16_58 o v = some r) (hx0 : ∀ x : Int64, r = .inl x → u = (some (Value.long x)) ∧ τ = (H0 s o)) (hc : ∀ x : Int64 × Int32, r = .inr x → QTri l Z n0 ad 16 (58, [vR 1, vL x.1, none, vI x.2], [], (H0 s o)) u τ) : QTri l Z n0 ad 16 (58, [vR 1, vL v.1, none, vI v.2], [], (H0 s o)) u τ := by
 unfold B16_58 at h
 refine zS Ad W 2 (st' := (61, [vR 1, vL v.1, none, vI v.2], [.int (16:Int32), .int v.2], (H0 s o))) rfl ?_
 rcases qite h with ⟨hc358, h⟩ | ⟨hc358, h⟩
 ·refine zF Ad W (t := 83) (f := 64) rfl (XT.ii_ge_f hc358) ?_
  refine zS Ad W 5 (st' := (71, [vR 1, vL v.1, none, vI v.2], [.int v.2, .ref 1, .long (v.1 * (31 : Int64))], (H0 s o))) rfl ?_
  obtain ⟨r363, hr363, h⟩ := bind_eq_some_iff.mp h
  refine QTri.callV W (a := 1) (as := [.int v.2]) (rest := [.long (v.1 * (31 : Int64))]) (w := (some (.int r363))) (σ₁ := (H0 s o)) rfl rfl rfl rfl rfl rfl rfl rfl (tF21 Ad W s o v.2 hr363) ?_
  refine zS Ad W 4 (st' := (80, [vR 1, vL ((v.1 * (31 : Int64)) + (r363.toInt64)), none, vI (v.2 + (1:Int32))], [], (H0 s o))) rfl ?_
  refine zS Ad W 1 (st' := (58, [vR 1, vL ((v.1 * (31 : Int64)) + (r363.toInt64)), none, vI (v.2 + (1:Int32))], [], (H0 s o))) rfl ?_
  obtain rfl := Option.some.inj h
  exact zM [tt,tt,ff,tt] (hc (((v.1 * (31 : Int64)) + (r363.toInt64)), (v.2 + (1:Int32))) rfl)
 ·refine zT Ad W (t := 83) (f := 64) rfl (XT.ii_ge_t hc358) ?_
  refine zS Ad W 1 (st' := (84, [vR 1, vL v.1, none, vI v.2], [.long v.1], (H0 s o))) rfl ?_
  obtain rfl := Option.some.inj h
  obtain ⟨rfl, rfl⟩ := hx0 v.1 rfl
  exact QTri.retJ rfl rfl
/-- results(LChainLayout;)J -/
def F16 (o : Ob) : Option (Int64) :=
 (F17 o).bind fun r348 => (F18 o).bind fun r349 => (F19 o).bind fun r350 => (loopN (B16_32 o) qN ((((((r348.toInt64) * (31 : Int64)) + (r349.toInt64)) * (31 : Int64)) + (r350.toInt64)), (0:Int32))).bind fun e356 => (loopN (B16_58 o) qN (e356, (0:Int32))).bind fun e364 => some e364
theorem tF16 (Ad : QAd n0 ad) (W : QW Z a0) (s : List Int32) (o : Ob) {r : Int64} (h : F16 o = some r) : QTri l Z n0 ad 16 (0, qentry [.ref 1] (pMaxL 16), [], (H0 s o)) (some (Value.long r)) (H0 s o) := by
 unfold F16 at h
 refine zS Ad W 1 (st' := (1, [vR 1, none, none, none], [.ref 1], (H0 s o))) rfl ?_
 obtain ⟨r348, hr348, h⟩ := bind_eq_some_iff.mp h
 refine QTri.callV W (a := 1) (as := []) (rest := []) (w := (some (.int r348))) (σ₁ := (H0 s o)) rfl rfl rfl rfl rfl rfl rfl rfl (tF17 Ad W s o hr348) ?_
 refine zS Ad W 6 (st' := (12, [vR 1, vL (r348.toInt64), none, none], [.ref 1, .long ((r348.toInt64) * (31 : Int64))], (H0 s o))) rfl ?_
 obtain ⟨r349, hr349, h⟩ := bind_eq_some_iff.mp h
 refine QTri.callV W (a := 1) (as := []) (rest := [.long ((r348.toInt64) * (31 : Int64))]) (w := (some (.int r349))) (σ₁ := (H0 s o)) rfl rfl rfl rfl rfl rfl rfl rfl (tF18 Ad W s o hr349) ?_
 refine zS Ad W 7 (st' := (24, [vR 1, vL (((r348.toInt64) * (31 : Int64)) + (r349.toInt64)), none, none], [.ref 1, .long ((((r348.toInt64) * (31 : Int64)) + (r349.toInt64)) * (31 : Int64))], (H0 s o))) rfl ?_
 obtain ⟨r350, hr350, h⟩ := bind_eq_some_iff.mp h
 refine QTri.callV W (a := 1) (as := []) (rest := [.long ((((r348.toInt64) * (31 : Int64)) + (r349.toInt64)) * (31 : Int64))]) (w := (some (.int r350))) (σ₁ := (H0 s o)) rfl rfl rfl rfl rfl rfl rfl rfl (tF19 Ad W s o hr350) ?_
 refine zS Ad W 5 (st' := (32, [vR 1, vL (((((r348.toInt64) * (31 : Int64)) + (r349.toInt64)) * (31 : Int64)) + (r350.toInt64)), none, vI (0:Int32)], [], (H0 s o))) rfl ?_
 obtain ⟨e356, he356, h⟩ := bind_eq_some_iff.mp h
 refine zM [tt,tt,ff,tt] (loopN_tri (B := B16_32 o) (T := fun lv357 => QTri l Z n0 ad 16 (32, [vR 1, vL lv357.1, none, vI lv357.2], [], (H0 s o)) (some (Value.long r)) (H0 s o)) (KE := fun e356a => QTri l Z n0 ad 16 (56, [vR 1, vL e356a, none, none], [], (H0 s o)) (some (Value.long r)) (H0 s o)) (fun lv357 r hB hE hC => tB16_32 Ad W s o lv357 hB (fun x q => hE _ q) (fun x q => hC x q)) qN ((((((r348.toInt64) * (31 : Int64)) + (r349.toInt64)) * (31 : Int64)) + (r350.toInt64)), (0:Int32)) e356 he356 ?_)
 refine zS Ad W 2 (st' := (58, [vR 1, vL e356, none, vI (0:Int32)], [], (H0 s o))) rfl ?_
 obtain ⟨e364, he364, h⟩ := bind_eq_some_iff.mp h
 refine zM [tt,tt,ff,tt] (loopN_tri (B := B16_58 o) (T := fun lv365 => QTri l Z n0 ad 16 (58, [vR 1, vL lv365.1, none, vI lv365.2], [], (H0 s o)) (some (Value.long r)) (H0 s o)) (KE := fun e364a => (some (Value.long r)) = (some (Value.long e364a)) ∧ (H0 s o) = (H0 s o)) (fun lv365 r hB hE hC => tB16_58 Ad W s o lv365 hB (fun x q => hE _ q) (fun x q => hC x q)) qN (e356, (0:Int32)) e364 he364 ?_)
 obtain rfl := Option.some.inj h
 exact ⟨rfl, rfl⟩
/-- edgeCount(II)I -/
def F23 (o : Ob) (x1 : Int32) (x2 : Int32) : Option (Int32) :=
 (F4 o x1).bind fun r369 => (if r369 = (0:Int32) then some (0:Int32) else (if x2 = (0:Int32) then (aget (f_cnt0 o) x1).bind fun y372 => some y372 else (if x2 = (1:Int32) then (aget (f_cnt1 o) x1).bind fun y374 => some y374 else some (0:Int32))))
theorem tF23 (Ad : QAd n0 ad) (W : QW Z a0) (s : List Int32) (o : Ob) (x1 : Int32) (x2 : Int32) {r : Int32} (h : F23 o x1 x2 = some r) : QTri l Z n0 ad 23 (0, qentry [.ref 1, .int x1, .int x2] (pMaxL 23), [], (H0 s o)) (some (Value.int r)) (H0 s o) := by
 unfold F23 at h
 refine zS Ad W 2 (st' := (2, [vR 1, vI x1, vI x2], [.int x1, .ref 1], (H0 s o))) rfl ?_
 obtain ⟨r369, hr369, h⟩ := bind_eq_some_iff.mp h
 refine QTri.callP W (a := 1) (as := [.int x1]) (rest := []) (w := (some (.int r369))) (σ₁ := (H0 s o)) rfl rfl rfl rfl rfl rfl rfl rfl (tF4 Ad W s o x1 hr369) ?_
 rcases qite h with ⟨hc370, h⟩ | ⟨hc370, h⟩
 ·refine zF Ad W (t := 10) (f := 8) rfl (XT.i0_ne_f hc370) ?_
  refine zS Ad W 1 (st' := (9, [vR 1, vI x1, vI x2], [.int (0:Int32)], (H0 s o))) rfl ?_
  obtain rfl := Option.some.inj h
  exact QTri.retI rfl rfl
 ·refine zT Ad W (t := 10) (f := 8) rfl (XT.i0_ne_t hc370) ?_
  refine zS Ad W 1 (st' := (11, [vR 1, vI x1, vI x2], [.int x2], (H0 s o))) rfl ?_
  rcases qite h with ⟨hc371, h⟩ | ⟨hc371, h⟩
  ·refine zF Ad W (t := 21) (f := 14) rfl (XT.i0_ne_f hc371) ?_
   refine zS Ad W 3 (st' := (19, [vR 1, vI x1, vI x2], [.int x1, .ref 10], (H0 s o))) rfl ?_
   obtain ⟨y372, hy372, h⟩ := bind_eq_some_iff.mp h
   refine zB Ad W (f := fun y372 => (20, [vR 1, vI x1, vI x2], [.int y372], (H0 s o))) rfl hy372 ?_
   obtain rfl := Option.some.inj h
   exact QTri.retI rfl rfl
  ·refine zT Ad W (t := 21) (f := 14) rfl (XT.i0_ne_t hc371) ?_
   refine zS Ad W 2 (st' := (23, [vR 1, vI x1, vI x2], [.int (1:Int32), .int x2], (H0 s o))) rfl ?_
   rcases qite h with ⟨hc373, h⟩ | ⟨hc373, h⟩
   ·refine zF Ad W (t := 33) (f := 26) rfl (XT.ii_ne_f hc373) ?_
    refine zS Ad W 3 (st' := (31, [vR 1, vI x1, vI x2], [.int x1, .ref 11], (H0 s o))) rfl ?_
    obtain ⟨y374, hy374, h⟩ := bind_eq_some_iff.mp h
    refine zB Ad W (f := fun y374 => (32, [vR 1, vI x1, vI x2], [.int y374], (H0 s o))) rfl hy374 ?_
    obtain rfl := Option.some.inj h
    exact QTri.retI rfl rfl
   ·refine zT Ad W (t := 33) (f := 26) rfl (XT.ii_ne_t hc373) ?_
    refine zS Ad W 1 (st' := (34, [vR 1, vI x1, vI x2], [.int (0:Int32)], (H0 s o))) rfl ?_
    obtain rfl := Option.some.inj h
    exact QTri.retI rfl rfl
def B22_13 (o : Ob) (x3 : Int32) (v : Int64 × Int32) : Option (((Int64)) ⊕ (Int64 × Int32)) :=
  (if v.2 < (2 : Int32) then (F23 o x3 v.2).bind fun r375 => some (.inr (((v.1 * (31 : Int64)) + (r375.toInt64)), (v.2 + (1 : Int32)))) else some (.inl v.1))
theorem tB22_13 (Ad : QAd n0 ad) (W : QW Z a0) (s : List Int32) (o : Ob) (x3 : Int32) (v : Int64 × Int32) {r : ((Int64)) ⊕ (Int64 × Int32)} {u : Option Value} {τ : QHeap} (h : B22_13 o x3 v = some r) (hx0 : ∀ x : Int64, r = .inl x → QTri l Z n0 ad 22 (40, [vR 1, vL x, none, vI x3, none], [], (H0 s o)) u τ) (hc : ∀ x : Int64 × Int32, r = .inr x → QTri l Z n0 ad 22 (13, [vR 1, vL x.1, none, vI x3, vI x.2], [], (H0 s o)) u τ) : QTri l Z n0 ad 22 (13, [vR 1, vL v.1, none, vI x3, vI v.2], [], (H0 s o)) u τ := by
 unfold B22_13 at h
 refine zS Ad W 2 (st' := (16, [vR 1, vL v.1, none, vI x3, vI v.2], [.int (2:Int32), .int v.2], (H0 s o))) rfl ?_
 rcases qite h with ⟨hc368, h⟩ | ⟨hc368, h⟩
 ·refine zF Ad W (t := 40) (f := 19) rfl (XT.ii_ge_f hc368) ?_
  refine zS Ad W 6 (st' := (28, [vR 1, vL v.1, none, vI x3, vI v.2], [.int v.2, .int x3, .ref 1, .long (v.1 * (31 : Int64))], (H0 s o))) rfl ?_
  obtain ⟨r375, hr375, h⟩ := bind_eq_some_iff.mp h
  refine QTri.callV W (a := 1) (as := [.int x3, .int v.2]) (rest := [.long (v.1 * (31 : Int64))]) (w := (some (.int r375))) (σ₁ := (H0 s o)) rfl rfl rfl rfl rfl rfl rfl rfl (tF23 Ad W s o x3 v.2 hr375) ?_
  refine zS Ad W 4 (st' := (37, [vR 1, vL ((v.1 * (31 : Int64)) + (r375.toInt64)), none, vI x3, vI (v.2 + (1:Int32))], [], (H0 s o))) rfl ?_
  refine zS Ad W 1 (st' := (13, [vR 1, vL ((v.1 * (31 : Int64)) + (r375.toInt64)), none, vI x3, vI (v.2 + (1:Int32))], [], (H0 s o))) rfl ?_
  obtain rfl := Option.some.inj h
  exact zM [tt,tt,ff,tt,tt] (hc (((v.1 * (31 : Int64)) + (r375.toInt64)), (v.2 + (1:Int32))) rfl)
 ·refine zT Ad W (t := 40) (f := 19) rfl (XT.ii_ge_t hc368) ?_
  obtain rfl := Option.some.inj h
  exact zM [tt,tt,ff,tt,ff] (hx0 v.1 rfl)
def B22_4 (o : Ob) (v : Int64 × Int32) : Option (((Int64)) ⊕ (Int64 × Int32)) :=
  (if v.2 < (16 : Int32) then (loopN (B22_13 o v.2) qN (v.1, (0 : Int32))).bind fun e376 => some (.inr (e376, (v.2 + (1 : Int32)))) else some (.inl v.1))
theorem tB22_4 (Ad : QAd n0 ad) (W : QW Z a0) (s : List Int32) (o : Ob) (v : Int64 × Int32) {r : ((Int64)) ⊕ (Int64 × Int32)} {u : Option Value} {τ : QHeap} (h : B22_4 o v = some r) (hx0 : ∀ x : Int64, r = .inl x → u = (some (Value.long x)) ∧ τ = (H0 s o)) (hc : ∀ x : Int64 × Int32, r = .inr x → QTri l Z n0 ad 22 (4, [vR 1, vL x.1, none, vI x.2, none], [], (H0 s o)) u τ) : QTri l Z n0 ad 22 (4, [vR 1, vL v.1, none, vI v.2, none], [], (H0 s o)) u τ := by
 unfold B22_4 at h
 refine zS Ad W 2 (st' := (7, [vR 1, vL v.1, none, vI v.2, none], [.int (16:Int32), .int v.2], (H0 s o))) rfl ?_
 rcases qite h with ⟨hc367, h⟩ | ⟨hc367, h⟩
 ·refine zF Ad W (t := 46) (f := 10) rfl (XT.ii_ge_f hc367) ?_
  refine zS Ad W 2 (st' := (13, [vR 1, vL v.1, none, vI v.2, vI (0:Int32)], [], (H0 s o))) rfl ?_
  obtain ⟨e376, he376, h⟩ := bind_eq_some_iff.mp h
  refine zM [tt,tt,ff,tt,tt] (loopN_tri (B := B22_13 o v.2) (T := fun lv377 => QTri l Z n0 ad 22 (13, [vR 1, vL lv377.1, none, vI v.2, vI lv377.2], [], (H0 s o)) u τ) (KE := fun e376a => QTri l Z n0 ad 22 (40, [vR 1, vL e376a, none, vI v.2, none], [], (H0 s o)) u τ) (fun lv377 r hB hE hC => tB22_13 Ad W s o v.2 lv377 hB (fun x q => hE _ q) (fun x q => hC x q)) qN (v.1, (0:Int32)) e376 he376 ?_)
  refine zS Ad W 2 (st' := (4, [vR 1, vL e376, none, vI (v.2 + (1:Int32)), none], [], (H0 s o))) rfl ?_
  obtain rfl := Option.some.inj h
  exact zM [tt,tt,ff,tt,ff] (hc (e376, (v.2 + (1:Int32))) rfl)
 ·refine zT Ad W (t := 46) (f := 10) rfl (XT.ii_ge_t hc367) ?_
  refine zS Ad W 1 (st' := (47, [vR 1, vL v.1, none, vI v.2, none], [.long v.1], (H0 s o))) rfl ?_
  obtain rfl := Option.some.inj h
  obtain ⟨rfl, rfl⟩ := hx0 v.1 rfl
  exact QTri.retJ rfl rfl
/-- edges(LChainLayout;)J -/
def F22 (o : Ob) : Option (Int64) :=
 (loopN (B22_4 o) qN ((0 : Int64), (0:Int32))).bind fun e378 => some e378
theorem tF22 (Ad : QAd n0 ad) (W : QW Z a0) (s : List Int32) (o : Ob) {r : Int64} (h : F22 o = some r) : QTri l Z n0 ad 22 (0, qentry [.ref 1] (pMaxL 22), [], (H0 s o)) (some (Value.long r)) (H0 s o) := by
 unfold F22 at h
 refine zS Ad W 4 (st' := (4, [vR 1, vL (0 : Int64), none, vI (0:Int32), none], [], (H0 s o))) rfl ?_
 obtain ⟨e378, he378, h⟩ := bind_eq_some_iff.mp h
 refine zM [tt,tt,ff,tt,ff] (loopN_tri (B := B22_4 o) (T := fun lv379 => QTri l Z n0 ad 22 (4, [vR 1, vL lv379.1, none, vI lv379.2, none], [], (H0 s o)) (some (Value.long r)) (H0 s o)) (KE := fun e378a => (some (Value.long r)) = (some (Value.long e378a)) ∧ (H0 s o) = (H0 s o)) (fun lv379 r hB hE hC => tB22_4 Ad W s o lv379 hB (fun x q => hE _ q) (fun x q => hC x q)) qN ((0 : Int64), (0:Int32)) e378 he378 ?_)
 obtain rfl := Option.some.inj h
 exact ⟨rfl, rfl⟩
/-- blockInfo(II)I -/
def F24 (o : Ob) (x1 : Int32) (x2 : Int32) : Option (Int32) :=
 (F4 o x1).bind fun r381 => (if r381 = (0:Int32) then some (0:Int32) else (if x2 = (0:Int32) then (aget (f_bOp o) x1).bind fun y384 => some y384 else (if x2 = (1:Int32) then (aget (f_bD o) x1).bind fun y386 => some y386 else (if x2 = (2:Int32) then (aget (f_bS o) x1).bind fun y388 => some y388 else (if x2 = (3:Int32) then (aget (f_bImm o) x1).bind fun y390 => some y390 else (if x2 = (4:Int32) then (aget (f_bTerm o) x1).bind fun y392 => some y392 else (if x2 = (5:Int32) then (aget (f_bTest o) x1).bind fun y394 => some y394 else (if x2 = (6:Int32) then (aget (f_bT0 o) x1).bind fun y396 => some y396 else (if x2 = (7:Int32) then (aget (f_bT1 o) x1).bind fun y398 => some y398 else some (0:Int32))))))))))
theorem tF24 (Ad : QAd n0 ad) (W : QW Z a0) (s : List Int32) (o : Ob) (x1 : Int32) (x2 : Int32) {r : Int32} (h : F24 o x1 x2 = some r) : QTri l Z n0 ad 24 (0, qentry [.ref 1, .int x1, .int x2] (pMaxL 24), [], (H0 s o)) (some (Value.int r)) (H0 s o) := by
 unfold F24 at h
 refine zS Ad W 2 (st' := (2, [vR 1, vI x1, vI x2], [.int x1, .ref 1], (H0 s o))) rfl ?_
 obtain ⟨r381, hr381, h⟩ := bind_eq_some_iff.mp h
 refine QTri.callP W (a := 1) (as := [.int x1]) (rest := []) (w := (some (.int r381))) (σ₁ := (H0 s o)) rfl rfl rfl rfl rfl rfl rfl rfl (tF4 Ad W s o x1 hr381) ?_
 rcases qite h with ⟨hc382, h⟩ | ⟨hc382, h⟩
 ·refine zF Ad W (t := 10) (f := 8) rfl (XT.i0_ne_f hc382) ?_
  refine zS Ad W 1 (st' := (9, [vR 1, vI x1, vI x2], [.int (0:Int32)], (H0 s o))) rfl ?_
  obtain rfl := Option.some.inj h
  exact QTri.retI rfl rfl
 ·refine zT Ad W (t := 10) (f := 8) rfl (XT.i0_ne_t hc382) ?_
  refine zS Ad W 1 (st' := (11, [vR 1, vI x1, vI x2], [.int x2], (H0 s o))) rfl ?_
  rcases qite h with ⟨hc383, h⟩ | ⟨hc383, h⟩
  ·refine zF Ad W (t := 21) (f := 14) rfl (XT.i0_ne_f hc383) ?_
   refine zS Ad W 3 (st' := (19, [vR 1, vI x1, vI x2], [.int x1, .ref 2], (H0 s o))) rfl ?_
   obtain ⟨y384, hy384, h⟩ := bind_eq_some_iff.mp h
   refine zB Ad W (f := fun y384 => (20, [vR 1, vI x1, vI x2], [.int y384], (H0 s o))) rfl hy384 ?_
   obtain rfl := Option.some.inj h
   exact QTri.retI rfl rfl
  ·refine zT Ad W (t := 21) (f := 14) rfl (XT.i0_ne_t hc383) ?_
   refine zS Ad W 2 (st' := (23, [vR 1, vI x1, vI x2], [.int (1:Int32), .int x2], (H0 s o))) rfl ?_
   rcases qite h with ⟨hc385, h⟩ | ⟨hc385, h⟩
   ·refine zF Ad W (t := 33) (f := 26) rfl (XT.ii_ne_f hc385) ?_
    refine zS Ad W 3 (st' := (31, [vR 1, vI x1, vI x2], [.int x1, .ref 3], (H0 s o))) rfl ?_
    obtain ⟨y386, hy386, h⟩ := bind_eq_some_iff.mp h
    refine zB Ad W (f := fun y386 => (32, [vR 1, vI x1, vI x2], [.int y386], (H0 s o))) rfl hy386 ?_
    obtain rfl := Option.some.inj h
    exact QTri.retI rfl rfl
   ·refine zT Ad W (t := 33) (f := 26) rfl (XT.ii_ne_t hc385) ?_
    refine zS Ad W 2 (st' := (35, [vR 1, vI x1, vI x2], [.int (2:Int32), .int x2], (H0 s o))) rfl ?_
    rcases qite h with ⟨hc387, h⟩ | ⟨hc387, h⟩
    ·refine zF Ad W (t := 45) (f := 38) rfl (XT.ii_ne_f hc387) ?_
     refine zS Ad W 3 (st' := (43, [vR 1, vI x1, vI x2], [.int x1, .ref 4], (H0 s o))) rfl ?_
     obtain ⟨y388, hy388, h⟩ := bind_eq_some_iff.mp h
     refine zB Ad W (f := fun y388 => (44, [vR 1, vI x1, vI x2], [.int y388], (H0 s o))) rfl hy388 ?_
     obtain rfl := Option.some.inj h
     exact QTri.retI rfl rfl
    ·refine zT Ad W (t := 45) (f := 38) rfl (XT.ii_ne_t hc387) ?_
     refine zS Ad W 2 (st' := (47, [vR 1, vI x1, vI x2], [.int (3:Int32), .int x2], (H0 s o))) rfl ?_
     rcases qite h with ⟨hc389, h⟩ | ⟨hc389, h⟩
     ·refine zF Ad W (t := 57) (f := 50) rfl (XT.ii_ne_f hc389) ?_
      refine zS Ad W 3 (st' := (55, [vR 1, vI x1, vI x2], [.int x1, .ref 5], (H0 s o))) rfl ?_
      obtain ⟨y390, hy390, h⟩ := bind_eq_some_iff.mp h
      refine zB Ad W (f := fun y390 => (56, [vR 1, vI x1, vI x2], [.int y390], (H0 s o))) rfl hy390 ?_
      obtain rfl := Option.some.inj h
      exact QTri.retI rfl rfl
     ·refine zT Ad W (t := 57) (f := 50) rfl (XT.ii_ne_t hc389) ?_
      refine zS Ad W 2 (st' := (59, [vR 1, vI x1, vI x2], [.int (4:Int32), .int x2], (H0 s o))) rfl ?_
      rcases qite h with ⟨hc391, h⟩ | ⟨hc391, h⟩
      ·refine zF Ad W (t := 69) (f := 62) rfl (XT.ii_ne_f hc391) ?_
       refine zS Ad W 3 (st' := (67, [vR 1, vI x1, vI x2], [.int x1, .ref 6], (H0 s o))) rfl ?_
       obtain ⟨y392, hy392, h⟩ := bind_eq_some_iff.mp h
       refine zB Ad W (f := fun y392 => (68, [vR 1, vI x1, vI x2], [.int y392], (H0 s o))) rfl hy392 ?_
       obtain rfl := Option.some.inj h
       exact QTri.retI rfl rfl
      ·refine zT Ad W (t := 69) (f := 62) rfl (XT.ii_ne_t hc391) ?_
       refine zS Ad W 2 (st' := (71, [vR 1, vI x1, vI x2], [.int (5:Int32), .int x2], (H0 s o))) rfl ?_
       rcases qite h with ⟨hc393, h⟩ | ⟨hc393, h⟩
       ·refine zF Ad W (t := 81) (f := 74) rfl (XT.ii_ne_f hc393) ?_
        refine zS Ad W 3 (st' := (79, [vR 1, vI x1, vI x2], [.int x1, .ref 7], (H0 s o))) rfl ?_
        obtain ⟨y394, hy394, h⟩ := bind_eq_some_iff.mp h
        refine zB Ad W (f := fun y394 => (80, [vR 1, vI x1, vI x2], [.int y394], (H0 s o))) rfl hy394 ?_
        obtain rfl := Option.some.inj h
        exact QTri.retI rfl rfl
       ·refine zT Ad W (t := 81) (f := 74) rfl (XT.ii_ne_t hc393) ?_
        refine zS Ad W 2 (st' := (84, [vR 1, vI x1, vI x2], [.int (6:Int32), .int x2], (H0 s o))) rfl ?_
        rcases qite h with ⟨hc395, h⟩ | ⟨hc395, h⟩
        ·refine zF Ad W (t := 94) (f := 87) rfl (XT.ii_ne_f hc395) ?_
         refine zS Ad W 3 (st' := (92, [vR 1, vI x1, vI x2], [.int x1, .ref 8], (H0 s o))) rfl ?_
         obtain ⟨y396, hy396, h⟩ := bind_eq_some_iff.mp h
         refine zB Ad W (f := fun y396 => (93, [vR 1, vI x1, vI x2], [.int y396], (H0 s o))) rfl hy396 ?_
         obtain rfl := Option.some.inj h
         exact QTri.retI rfl rfl
        ·refine zT Ad W (t := 94) (f := 87) rfl (XT.ii_ne_t hc395) ?_
         refine zS Ad W 2 (st' := (97, [vR 1, vI x1, vI x2], [.int (7:Int32), .int x2], (H0 s o))) rfl ?_
         rcases qite h with ⟨hc397, h⟩ | ⟨hc397, h⟩
         ·refine zF Ad W (t := 107) (f := 100) rfl (XT.ii_ne_f hc397) ?_
          refine zS Ad W 3 (st' := (105, [vR 1, vI x1, vI x2], [.int x1, .ref 9], (H0 s o))) rfl ?_
          obtain ⟨y398, hy398, h⟩ := bind_eq_some_iff.mp h
          refine zB Ad W (f := fun y398 => (106, [vR 1, vI x1, vI x2], [.int y398], (H0 s o))) rfl hy398 ?_
          obtain rfl := Option.some.inj h
          exact QTri.retI rfl rfl
         ·refine zT Ad W (t := 107) (f := 100) rfl (XT.ii_ne_t hc397) ?_
          refine zS Ad W 1 (st' := (108, [vR 1, vI x1, vI x2], [.int (0:Int32)], (H0 s o))) rfl ?_
          obtain rfl := Option.some.inj h
          exact QTri.retI rfl rfl
def H0x43 (s : List Int32) (o0 : Ob) (a0_0 : List Int32) : QHeap := H0v s a0_0 (f_bD o0) (f_bS o0) (f_bImm o0) (f_bTerm o0) (f_bTest o0) (f_bT0 o0) (f_bT1 o0) (f_cnt0 o0) (f_cnt1 o0) (f_regs o0) (f_outs o0) (f_edgeId o0) (f_edgeW o0) (f_chNext o0) (f_chPrev o0) (f_chHead o0) (f_heat o0) (f_posOf o0) (f_order o0) (f_cOp o0) (f_cD o0) (f_cS o0) (f_cImm o0) (f_cKind o0) (f_cTest o0) (f_cTaken o0) (f_cOther o0) (f_maxBlocks o0) (f_maxSteps o0) (f_n o0) (f_arranged o0) (f_outCount o0) (f_steps o0) (f_status o0) (f_edgeN o0)
def H0x44 (s : List Int32) (o0 : Ob) (a0_0 : List Int32) (a0_1 : List Int32) : QHeap := H0v s a0_0 a0_1 (f_bS o0) (f_bImm o0) (f_bTerm o0) (f_bTest o0) (f_bT0 o0) (f_bT1 o0) (f_cnt0 o0) (f_cnt1 o0) (f_regs o0) (f_outs o0) (f_edgeId o0) (f_edgeW o0) (f_chNext o0) (f_chPrev o0) (f_chHead o0) (f_heat o0) (f_posOf o0) (f_order o0) (f_cOp o0) (f_cD o0) (f_cS o0) (f_cImm o0) (f_cKind o0) (f_cTest o0) (f_cTaken o0) (f_cOther o0) (f_maxBlocks o0) (f_maxSteps o0) (f_n o0) (f_arranged o0) (f_outCount o0) (f_steps o0) (f_status o0) (f_edgeN o0)
def H0x45 (s : List Int32) (o0 : Ob) (a0_0 : List Int32) (a0_1 : List Int32) (a0_2 : List Int32) : QHeap := H0v s a0_0 a0_1 a0_2 (f_bImm o0) (f_bTerm o0) (f_bTest o0) (f_bT0 o0) (f_bT1 o0) (f_cnt0 o0) (f_cnt1 o0) (f_regs o0) (f_outs o0) (f_edgeId o0) (f_edgeW o0) (f_chNext o0) (f_chPrev o0) (f_chHead o0) (f_heat o0) (f_posOf o0) (f_order o0) (f_cOp o0) (f_cD o0) (f_cS o0) (f_cImm o0) (f_cKind o0) (f_cTest o0) (f_cTaken o0) (f_cOther o0) (f_maxBlocks o0) (f_maxSteps o0) (f_n o0) (f_arranged o0) (f_outCount o0) (f_steps o0) (f_status o0) (f_edgeN o0)
def H0x46 (s : List Int32) (o0 : Ob) (a0_0 : List Int32) (a0_1 : List Int32) (a0_2 : List Int32) (a0_3 : List Int32) : QHeap := H0v s a0_0 a0_1 a0_2 a0_3 (f_bTerm o0) (f_bTest o0) (f_bT0 o0) (f_bT1 o0) (f_cnt0 o0) (f_cnt1 o0) (f_regs o0) (f_outs o0) (f_edgeId o0) (f_edgeW o0) (f_chNext o0) (f_chPrev o0) (f_chHead o0) (f_heat o0) (f_posOf o0) (f_order o0) (f_cOp o0) (f_cD o0) (f_cS o0) (f_cImm o0) (f_cKind o0) (f_cTest o0) (f_cTaken o0) (f_cOther o0) (f_maxBlocks o0) (f_maxSteps o0) (f_n o0) (f_arranged o0) (f_outCount o0) (f_steps o0) (f_status o0) (f_edgeN o0)
def H0x47 (s : List Int32) (o0 : Ob) (a0_7 : List Int32) (a0_30 : Int32) : QHeap := H0v s (f_bOp o0) (f_bD o0) (f_bS o0) (f_bImm o0) (f_bTerm o0) (f_bTest o0) (f_bT0 o0) a0_7 (f_cnt0 o0) (f_cnt1 o0) (f_regs o0) (f_outs o0) (f_edgeId o0) (f_edgeW o0) (f_chNext o0) (f_chPrev o0) (f_chHead o0) (f_heat o0) (f_posOf o0) (f_order o0) (f_cOp o0) (f_cD o0) (f_cS o0) (f_cImm o0) (f_cKind o0) (f_cTest o0) (f_cTaken o0) (f_cOther o0) (f_maxBlocks o0) (f_maxSteps o0) a0_30 (f_arranged o0) (f_outCount o0) (f_steps o0) (f_status o0) (f_edgeN o0)
/-- addBlock(IIII)I -/
def F5 (o : Ob) (x1 : Int32) (x2 : Int32) (x3 : Int32) (x4 : Int32) : Option (Int32 × Ob) :=
 (if (f_arranged o) = (0:Int32) then (if (f_n o) = (f_maxBlocks o) then some ((-1:Int32), o) else (if (f_n o) < (16:Int32) then (if x1 < (0:Int32) then some ((-1:Int32), o) else (if (7:Int32) < x1 then some ((-1:Int32), o) else (if x2 < (0:Int32) then some ((-1:Int32), o) else (if (3:Int32) < x2 then some ((-1:Int32), o) else (if x3 < (0:Int32) then some ((-1:Int32), o) else (if (3:Int32) < x3 then some ((-1:Int32), o) else (aset (f_bOp o) (f_n o) x1).bind fun y426 => (aset (f_bD o) (f_n o) x2).bind fun y427 => (aset (f_bS o) (f_n o) x3).bind fun y428 => (aset (f_bImm o) (f_n o) x4).bind fun y429 => (F6 (s_bImm (s_bS (s_bD (s_bOp o y426) y427) y428) y429) (f_n o) (0:Int32) (0:Int32) (0:Int32)).bind fun r431 => (aset (f_bT1 r431) (f_n o) (0:Int32)).bind fun y432 => (F7 (s_n (s_bT1 r431 y432) ((f_n o) + (1:Int32)))).bind fun r434 => some ((f_n o), r434))))))) else some ((-1:Int32), o))) else some ((-1:Int32), o))
theorem tF5 (Ad : QAd n0 ad) (W : QW Z a0) (s : List Int32) (o : Ob) (x1 : Int32) (x2 : Int32) (x3 : Int32) (x4 : Int32) {r : Int32 × Ob} (h : F5 o x1 x2 x3 x4 = some r) : QTri l Z n0 ad 5 (0, qentry [.ref 1, .int x1, .int x2, .int x3, .int x4] (pMaxL 5), [], (H0 s o)) (some (Value.int r.1)) (H0 s r.2) := by
 unfold F5 at h
 refine zS Ad W 2 (st' := (4, [vR 1, vI x1, vI x2, vI x3, vI x4, none], [.int (f_arranged o)], (H0 s o))) rfl ?_
 rcases qite h with ⟨hc417, h⟩ | ⟨hc417, h⟩
 ·refine zF Ad W (t := 27) (f := 7) rfl (XT.i0_ne_f hc417) ?_
  refine zS Ad W 4 (st' := (15, [vR 1, vI x1, vI x2, vI x3, vI x4, none], [.int (f_maxBlocks o), .int (f_n o)], (H0 s o))) rfl ?_
  rcases qite h with ⟨hc418, h⟩ | ⟨hc418, h⟩
  ·refine zT Ad W (t := 27) (f := 18) rfl (XT.ii_eq_t hc418) ?_
   refine zS Ad W 1 (st' := (28, [vR 1, vI x1, vI x2, vI x3, vI x4, none], [.int (-1:Int32)], (H0 s o))) rfl ?_
   obtain rfl := Option.some.inj h
   exact QTri.retI rfl rfl
  ·refine zF Ad W (t := 27) (f := 18) rfl (XT.ii_eq_f hc418) ?_
   refine zS Ad W 3 (st' := (24, [vR 1, vI x1, vI x2, vI x3, vI x4, none], [.int (16:Int32), .int (f_n o)], (H0 s o))) rfl ?_
   rcases qite h with ⟨hc419, h⟩ | ⟨hc419, h⟩
   ·refine zT Ad W (t := 29) (f := 27) rfl (XT.ii_lt_t hc419) ?_
    refine zS Ad W 1 (st' := (30, [vR 1, vI x1, vI x2, vI x3, vI x4, none], [.int x1], (H0 s o))) rfl ?_
    rcases qite h with ⟨hc420, h⟩ | ⟨hc420, h⟩
    ·refine zT Ad W (t := 57) (f := 33) rfl (XT.i0_lt_t hc420) ?_
     refine zS Ad W 1 (st' := (58, [vR 1, vI x1, vI x2, vI x3, vI x4, none], [.int (-1:Int32)], (H0 s o))) rfl ?_
     obtain rfl := Option.some.inj h
     exact QTri.retI rfl rfl
    ·refine zF Ad W (t := 57) (f := 33) rfl (XT.i0_lt_f hc420) ?_
     refine zS Ad W 2 (st' := (36, [vR 1, vI x1, vI x2, vI x3, vI x4, none], [.int (7:Int32), .int x1], (H0 s o))) rfl ?_
     rcases qite h with ⟨hc421, h⟩ | ⟨hc421, h⟩
     ·refine zT Ad W (t := 57) (f := 39) rfl (XT.ii_gt_t hc421) ?_
      refine zS Ad W 1 (st' := (58, [vR 1, vI x1, vI x2, vI x3, vI x4, none], [.int (-1:Int32)], (H0 s o))) rfl ?_
      obtain rfl := Option.some.inj h
      exact QTri.retI rfl rfl
     ·refine zF Ad W (t := 57) (f := 39) rfl (XT.ii_gt_f hc421) ?_
      refine zS Ad W 1 (st' := (40, [vR 1, vI x1, vI x2, vI x3, vI x4, none], [.int x2], (H0 s o))) rfl ?_
      rcases qite h with ⟨hc422, h⟩ | ⟨hc422, h⟩
      ·refine zT Ad W (t := 57) (f := 43) rfl (XT.i0_lt_t hc422) ?_
       refine zS Ad W 1 (st' := (58, [vR 1, vI x1, vI x2, vI x3, vI x4, none], [.int (-1:Int32)], (H0 s o))) rfl ?_
       obtain rfl := Option.some.inj h
       exact QTri.retI rfl rfl
      ·refine zF Ad W (t := 57) (f := 43) rfl (XT.i0_lt_f hc422) ?_
       refine zS Ad W 2 (st' := (45, [vR 1, vI x1, vI x2, vI x3, vI x4, none], [.int (3:Int32), .int x2], (H0 s o))) rfl ?_
       rcases qite h with ⟨hc423, h⟩ | ⟨hc423, h⟩
       ·refine zT Ad W (t := 57) (f := 48) rfl (XT.ii_gt_t hc423) ?_
        refine zS Ad W 1 (st' := (58, [vR 1, vI x1, vI x2, vI x3, vI x4, none], [.int (-1:Int32)], (H0 s o))) rfl ?_
        obtain rfl := Option.some.inj h
        exact QTri.retI rfl rfl
       ·refine zF Ad W (t := 57) (f := 48) rfl (XT.ii_gt_f hc423) ?_
        refine zS Ad W 1 (st' := (49, [vR 1, vI x1, vI x2, vI x3, vI x4, none], [.int x3], (H0 s o))) rfl ?_
        rcases qite h with ⟨hc424, h⟩ | ⟨hc424, h⟩
        ·refine zT Ad W (t := 57) (f := 52) rfl (XT.i0_lt_t hc424) ?_
         refine zS Ad W 1 (st' := (58, [vR 1, vI x1, vI x2, vI x3, vI x4, none], [.int (-1:Int32)], (H0 s o))) rfl ?_
         obtain rfl := Option.some.inj h
         exact QTri.retI rfl rfl
        ·refine zF Ad W (t := 57) (f := 52) rfl (XT.i0_lt_f hc424) ?_
         refine zS Ad W 2 (st' := (54, [vR 1, vI x1, vI x2, vI x3, vI x4, none], [.int (3:Int32), .int x3], (H0 s o))) rfl ?_
         rcases qite h with ⟨hc425, h⟩ | ⟨hc425, h⟩
         ·refine zF Ad W (t := 59) (f := 57) rfl (XT.ii_le_f hc425) ?_
          refine zS Ad W 1 (st' := (58, [vR 1, vI x1, vI x2, vI x3, vI x4, none], [.int (-1:Int32)], (H0 s o))) rfl ?_
          obtain rfl := Option.some.inj h
          exact QTri.retI rfl rfl
         ·refine zT Ad W (t := 59) (f := 57) rfl (XT.ii_le_t hc425) ?_
          refine zS Ad W 7 (st' := (72, [vR 1, vI x1, vI x2, vI x3, vI x4, vI (f_n o)], [.int x1, .int (f_n o), .ref 2], (H0 s o))) rfl ?_
          obtain ⟨y426, hy426, h⟩ := bind_eq_some_iff.mp h
          refine zB Ad W (f := fun y426 => (73, [vR 1, vI x1, vI x2, vI x3, vI x4, vI (f_n o)], [], (H0x43 s o y426))) rfl hy426 ?_
          refine zS Ad W 4 (st' := (80, [vR 1, vI x1, vI x2, vI x3, vI x4, vI (f_n o)], [.int x2, .int (f_n o), .ref 3], (H0x43 s o y426))) rfl ?_
          obtain ⟨y427, hy427, h⟩ := bind_eq_some_iff.mp h
          refine zB Ad W (f := fun y427 => (81, [vR 1, vI x1, vI x2, vI x3, vI x4, vI (f_n o)], [], (H0x44 s o y426 y427))) rfl hy427 ?_
          refine zS Ad W 4 (st' := (88, [vR 1, vI x1, vI x2, vI x3, vI x4, vI (f_n o)], [.int x3, .int (f_n o), .ref 4], (H0x44 s o y426 y427))) rfl ?_
          obtain ⟨y428, hy428, h⟩ := bind_eq_some_iff.mp h
          refine zB Ad W (f := fun y428 => (89, [vR 1, vI x1, vI x2, vI x3, vI x4, vI (f_n o)], [], (H0x45 s o y426 y427 y428))) rfl hy428 ?_
          refine zS Ad W 4 (st' := (97, [vR 1, vI x1, vI x2, vI x3, vI x4, vI (f_n o)], [.int x4, .int (f_n o), .ref 5], (H0x45 s o y426 y427 y428))) rfl ?_
          obtain ⟨y429, hy429, h⟩ := bind_eq_some_iff.mp h
          refine zB Ad W (f := fun y429 => (98, [vR 1, vI x1, vI x2, vI x3, vI x4, vI (f_n o)], [], (H0x46 s o y426 y427 y428 y429))) rfl hy429 ?_
          refine zS Ad W 5 (st' := (104, [vR 1, vI x1, vI x2, vI x3, vI x4, vI (f_n o)], [.int (0:Int32), .int (0:Int32), .int (0:Int32), .int (f_n o), .ref 1], (H0x46 s o y426 y427 y428 y429))) rfl ?_
          have E430 : ((H0x46 s o y426 y427 y428 y429) : QHeap) = (H0 s (s_bImm (s_bS (s_bD (s_bOp o y426) y427) y428) y429)) := by simp only [fs, H0, H0v, H0x46, s_bOp, s_bD, s_bS, s_bImm]
          rw [E430]
          obtain ⟨r431, hr431, h⟩ := bind_eq_some_iff.mp h
          refine QTri.callP W (a := 1) (as := [.int (f_n o), .int (0:Int32), .int (0:Int32), .int (0:Int32)]) (rest := []) (w := none) (σ₁ := (H0 s r431)) rfl rfl rfl rfl rfl rfl rfl rfl (tF6 Ad W s (s_bImm (s_bS (s_bD (s_bOp o y426) y427) y428) y429) (f_n o) (0:Int32) (0:Int32) (0:Int32) hr431) ?_
          refine zS Ad W 4 (st' := (114, [vR 1, vI x1, vI x2, vI x3, vI x4, vI (f_n o)], [.int (0:Int32), .int (f_n o), .ref 9], (H0 s r431))) rfl ?_
          obtain ⟨y432, hy432, h⟩ := bind_eq_some_iff.mp h
          refine zB Ad W (f := fun y432 => (115, [vR 1, vI x1, vI x2, vI x3, vI x4, vI (f_n o)], [], (H0x11 s r431 y432))) rfl hy432 ?_
          refine zS Ad W 5 (st' := (123, [vR 1, vI x1, vI x2, vI x3, vI x4, vI (f_n o)], [], (H0x47 s r431 y432 ((f_n o) + (1:Int32))))) rfl ?_
          refine zS Ad W 1 (st' := (124, [vR 1, vI x1, vI x2, vI x3, vI x4, vI (f_n o)], [.ref 1], (H0x47 s r431 y432 ((f_n o) + (1:Int32))))) rfl ?_
          have E433 : ((H0x47 s r431 y432 ((f_n o) + (1:Int32))) : QHeap) = (H0 s (s_n (s_bT1 r431 y432) ((f_n o) + (1:Int32)))) := by simp only [fs, H0, H0v, H0x47, s_bT1, s_n]
          rw [E433]
          obtain ⟨r434, hr434, h⟩ := bind_eq_some_iff.mp h
          refine QTri.callP W (a := 1) (as := []) (rest := []) (w := none) (σ₁ := (H0 s r434)) rfl rfl rfl rfl rfl rfl rfl rfl (tF7 Ad W s (s_n (s_bT1 r431 y432) ((f_n o) + (1:Int32))) hr434) ?_
          refine zS Ad W 1 (st' := (129, [vR 1, vI x1, vI x2, vI x3, vI x4, vI (f_n o)], [.int (f_n o)], (H0 s r434))) rfl ?_
          obtain rfl := Option.some.inj h
          exact QTri.retI rfl rfl
   ·refine zF Ad W (t := 29) (f := 27) rfl (XT.ii_lt_f hc419) ?_
    refine zS Ad W 1 (st' := (28, [vR 1, vI x1, vI x2, vI x3, vI x4, none], [.int (-1:Int32)], (H0 s o))) rfl ?_
    obtain rfl := Option.some.inj h
    exact QTri.retI rfl rfl
 ·refine zT Ad W (t := 27) (f := 7) rfl (XT.i0_ne_t hc417) ?_
  refine zS Ad W 1 (st' := (28, [vR 1, vI x1, vI x2, vI x3, vI x4, none], [.int (-1:Int32)], (H0 s o))) rfl ?_
  obtain rfl := Option.some.inj h
  exact QTri.retI rfl rfl
/-- setJump(II)Z -/
def F3 (o : Ob) (x1 : Int32) (x2 : Int32) : Option (Int32 × Ob) :=
 (if (f_arranged o) = (0:Int32) then (F4 o x1).bind fun r438 => (if r438 = (0:Int32) then some ((0:Int32), o) else (F4 o x2).bind fun r440 => (if r440 = (0:Int32) then some ((0:Int32), o) else (F6 o x1 (1:Int32) (0:Int32) x2).bind fun r442 => (aset (f_bT1 r442) x1 (0:Int32)).bind fun y443 => (F7 (s_bT1 r442 y443)).bind fun r445 => some ((1:Int32), r445))) else some ((0:Int32), o))
theorem tF3 (Ad : QAd n0 ad) (W : QW Z a0) (s : List Int32) (o : Ob) (x1 : Int32) (x2 : Int32) {r : Int32 × Ob} (h : F3 o x1 x2 = some r) : QTri l Z n0 ad 3 (0, qentry [.ref 1, .int x1, .int x2] (pMaxL 3), [], (H0 s o)) (some (Value.int r.1)) (H0 s r.2) := by
 unfold F3 at h
 refine zS Ad W 2 (st' := (4, [vR 1, vI x1, vI x2], [.int (f_arranged o)], (H0 s o))) rfl ?_
 rcases qite h with ⟨hc437, h⟩ | ⟨hc437, h⟩
 ·refine zF Ad W (t := 23) (f := 7) rfl (XT.i0_ne_f hc437) ?_
  refine zS Ad W 2 (st' := (9, [vR 1, vI x1, vI x2], [.int x1, .ref 1], (H0 s o))) rfl ?_
  obtain ⟨r438, hr438, h⟩ := bind_eq_some_iff.mp h
  refine QTri.callP W (a := 1) (as := [.int x1]) (rest := []) (w := (some (.int r438))) (σ₁ := (H0 s o)) rfl rfl rfl rfl rfl rfl rfl rfl (tF4 Ad W s o x1 hr438) ?_
  rcases qite h with ⟨hc439, h⟩ | ⟨hc439, h⟩
  ·refine zT Ad W (t := 23) (f := 15) rfl (XT.i0_eq_t hc439) ?_
   refine zS Ad W 1 (st' := (24, [vR 1, vI x1, vI x2], [.int (0:Int32)], (H0 s o))) rfl ?_
   obtain rfl := Option.some.inj h
   exact QTri.retZ rfl rfl
  ·refine zF Ad W (t := 23) (f := 15) rfl (XT.i0_eq_f hc439) ?_
   refine zS Ad W 2 (st' := (17, [vR 1, vI x1, vI x2], [.int x2, .ref 1], (H0 s o))) rfl ?_
   obtain ⟨r440, hr440, h⟩ := bind_eq_some_iff.mp h
   refine QTri.callP W (a := 1) (as := [.int x2]) (rest := []) (w := (some (.int r440))) (σ₁ := (H0 s o)) rfl rfl rfl rfl rfl rfl rfl rfl (tF4 Ad W s o x2 hr440) ?_
   rcases qite h with ⟨hc441, h⟩ | ⟨hc441, h⟩
   ·refine zF Ad W (t := 25) (f := 23) rfl (XT.i0_ne_f hc441) ?_
    refine zS Ad W 1 (st' := (24, [vR 1, vI x1, vI x2], [.int (0:Int32)], (H0 s o))) rfl ?_
    obtain rfl := Option.some.inj h
    exact QTri.retZ rfl rfl
   ·refine zT Ad W (t := 25) (f := 23) rfl (XT.i0_ne_t hc441) ?_
    refine zS Ad W 5 (st' := (30, [vR 1, vI x1, vI x2], [.int x2, .int (0:Int32), .int (1:Int32), .int x1, .ref 1], (H0 s o))) rfl ?_
    obtain ⟨r442, hr442, h⟩ := bind_eq_some_iff.mp h
    refine QTri.callP W (a := 1) (as := [.int x1, .int (1:Int32), .int (0:Int32), .int x2]) (rest := []) (w := none) (σ₁ := (H0 s r442)) rfl rfl rfl rfl rfl rfl rfl rfl (tF6 Ad W s o x1 (1:Int32) (0:Int32) x2 hr442) ?_
    refine zS Ad W 4 (st' := (39, [vR 1, vI x1, vI x2], [.int (0:Int32), .int x1, .ref 9], (H0 s r442))) rfl ?_
    obtain ⟨y443, hy443, h⟩ := bind_eq_some_iff.mp h
    refine zB Ad W (f := fun y443 => (40, [vR 1, vI x1, vI x2], [], (H0x11 s r442 y443))) rfl hy443 ?_
    refine zS Ad W 1 (st' := (41, [vR 1, vI x1, vI x2], [.ref 1], (H0x11 s r442 y443))) rfl ?_
    have E444 : ((H0x11 s r442 y443) : QHeap) = (H0 s (s_bT1 r442 y443)) := by simp only [fs, H0, H0v, H0x11, s_bT1]
    rw [E444]
    obtain ⟨r445, hr445, h⟩ := bind_eq_some_iff.mp h
    refine QTri.callP W (a := 1) (as := []) (rest := []) (w := none) (σ₁ := (H0 s r445)) rfl rfl rfl rfl rfl rfl rfl rfl (tF7 Ad W s (s_bT1 r442 y443) hr445) ?_
    refine zS Ad W 1 (st' := (45, [vR 1, vI x1, vI x2], [.int (1:Int32)], (H0 s r445))) rfl ?_
    obtain rfl := Option.some.inj h
    exact QTri.retZ rfl rfl
 ·refine zT Ad W (t := 23) (f := 7) rfl (XT.i0_ne_t hc437) ?_
  refine zS Ad W 1 (st' := (24, [vR 1, vI x1, vI x2], [.int (0:Int32)], (H0 s o))) rfl ?_
  obtain rfl := Option.some.inj h
  exact QTri.retZ rfl rfl
/-- check(LChainLayout;I)Z -/
def F14 (o : Ob) (x1 : Int32) : Option (Int32 × Ob) :=
 (F2 o).bind fun r50 => (F15 o).bind fun r51 => (if r50 = (0:Int32) then (F25 o).bind fun r239 => (if r239.1 = (0:Int32) then (F15 r239.2).bind fun r241 => (if r241 = (0:Int32) then some ((1:Int32), r239.2) else some ((0:Int32), r239.2)) else some ((0:Int32), r239.2)) else (F8 o x1).bind fun r347 => (F16 r347.2).bind fun r366 => (F22 r347.2).bind fun r380 => (F24 r347.2 (0:Int32) (4:Int32)).bind fun r399 => (F24 r347.2 (0:Int32) (6:Int32)).bind fun r400 => (F25 r347.2).bind fun r401 => (if r401.1 = r51 then some ((0:Int32), r401.2) else (F15 r401.2).bind fun r403 => (if r403 = (0:Int32) then some ((0:Int32), r401.2) else (F22 r401.2).bind fun r405 => (if r405 = r380 then (F16 r401.2).bind fun r407 => (if r407 = r366 then (F8 r401.2 x1).bind fun r409 => (if r409.1 = r347.1 then (F16 r409.2).bind fun r411 => (if r411 = r366 then (F22 r409.2).bind fun r413 => (if r413 = r380 then (F11 r409.2 (0:Int32)).bind fun r415 => (if r415.1 = (0:Int32) then (F5 r415.2 (0:Int32) (0:Int32) (0:Int32) (0:Int32)).bind fun r435 => (if r435.1 = (-1:Int32) then (F3 r435.2 (0:Int32) (0:Int32)).bind fun r446 => (if r446.1 = (0:Int32) then (F2 r446.2).bind fun r448 => (if r448 = r50 then (F24 r446.2 (0:Int32) (4:Int32)).bind fun r450 => (if r450 = r399 then (F24 r446.2 (0:Int32) (6:Int32)).bind fun r452 => (if r452 = r400 then (F16 r446.2).bind fun r454 => (if r454 = r366 then (F22 r446.2).bind fun r456 => (if r456 = r380 then (F15 r446.2).bind fun r458 => (if r458 = (0:Int32) then some ((0:Int32), r446.2) else some ((1:Int32), r446.2)) else some ((0:Int32), r446.2)) else some ((0:Int32), r446.2)) else some ((0:Int32), r446.2)) else some ((0:Int32), r446.2)) else some ((0:Int32), r446.2)) else some ((0:Int32), r446.2)) else some ((0:Int32), r435.2)) else some ((0:Int32), r415.2)) else some ((0:Int32), r409.2)) else some ((0:Int32), r409.2)) else some ((0:Int32), r409.2)) else some ((0:Int32), r401.2)) else some ((0:Int32), r401.2)))))
theorem tF14 (Ad : QAd n0 ad) (W : QW Z a0) (s : List Int32) (o : Ob) (x1 : Int32) {r : Int32 × Ob} (h : F14 o x1 = some r) : QTri l Z n0 ad 14 (0, qentry [.ref 1, .int x1] (pMaxL 14), [], (H0 s o)) (some (Value.int r.1)) (H0 s r.2) := by
 unfold F14 at h
 refine zS Ad W 1 (st' := (1, [vR 1, vI x1, none, none, none, none, none, none, none, none, none, none], [.ref 1], (H0 s o))) rfl ?_
 obtain ⟨r50, hr50, h⟩ := bind_eq_some_iff.mp h
 refine QTri.callV W (a := 1) (as := []) (rest := []) (w := (some (.int r50))) (σ₁ := (H0 s o)) rfl rfl rfl rfl rfl rfl rfl rfl (tF2 Ad W s o hr50) ?_
 refine zS Ad W 2 (st' := (6, [vR 1, vI x1, vI r50, none, none, none, none, none, none, none, none, none], [.ref 1], (H0 s o))) rfl ?_
 obtain ⟨r51, hr51, h⟩ := bind_eq_some_iff.mp h
 refine QTri.callV W (a := 1) (as := []) (rest := []) (w := (some (.int r51))) (σ₁ := (H0 s o)) rfl rfl rfl rfl rfl rfl rfl rfl (tF15 Ad W s o hr51) ?_
 refine zS Ad W 2 (st' := (11, [vR 1, vI x1, vI r50, vI r51, none, none, none, none, none, none, none, none], [.int r50], (H0 s o))) rfl ?_
 rcases qite h with ⟨hc52, h⟩ | ⟨hc52, h⟩
 ·refine zF Ad W (t := 34) (f := 14) rfl (XT.i0_ne_f hc52) ?_
  refine zS Ad W 1 (st' := (15, [vR 1, vI x1, vI r50, vI r51, none, none, none, none, none, none, none, none], [.ref 1], (H0 s o))) rfl ?_
  obtain ⟨r239, hr239, h⟩ := bind_eq_some_iff.mp h
  refine QTri.callV W (a := 1) (as := []) (rest := []) (w := (some (.int r239.1))) (σ₁ := (H0 s r239.2)) rfl rfl rfl rfl rfl rfl rfl rfl (tF25 Ad W s o hr239) ?_
  rcases qite h with ⟨hc240, h⟩ | ⟨hc240, h⟩
  ·refine zF Ad W (t := 32) (f := 21) rfl (XT.i0_ne_f hc240) ?_
   refine zS Ad W 1 (st' := (22, [vR 1, vI x1, vI r50, vI r51, none, none, none, none, none, none, none, none], [.ref 1], (H0 s r239.2))) rfl ?_
   obtain ⟨r241, hr241, h⟩ := bind_eq_some_iff.mp h
   refine QTri.callV W (a := 1) (as := []) (rest := []) (w := (some (.int r241))) (σ₁ := (H0 s r239.2)) rfl rfl rfl rfl rfl rfl rfl rfl (tF15 Ad W s r239.2 hr241) ?_
   rcases qite h with ⟨hc242, h⟩ | ⟨hc242, h⟩
   ·refine zF Ad W (t := 32) (f := 28) rfl (XT.i0_ne_f hc242) ?_
    refine zS Ad W 2 (st' := (33, [vR 1, vI x1, vI r50, vI r51, none, none, none, none, none, none, none, none], [.int (1:Int32)], (H0 s r239.2))) rfl ?_
    obtain rfl := Option.some.inj h
    exact QTri.retZ rfl rfl
   ·refine zT Ad W (t := 32) (f := 28) rfl (XT.i0_ne_t hc242) ?_
    refine zS Ad W 1 (st' := (33, [vR 1, vI x1, vI r50, vI r51, none, none, none, none, none, none, none, none], [.int (0:Int32)], (H0 s r239.2))) rfl ?_
    obtain rfl := Option.some.inj h
    exact QTri.retZ rfl rfl
  ·refine zT Ad W (t := 32) (f := 21) rfl (XT.i0_ne_t hc240) ?_
   refine zS Ad W 1 (st' := (33, [vR 1, vI x1, vI r50, vI r51, none, none, none, none, none, none, none, none], [.int (0:Int32)], (H0 s r239.2))) rfl ?_
   obtain rfl := Option.some.inj h
   exact QTri.retZ rfl rfl
 ·refine zT Ad W (t := 34) (f := 14) rfl (XT.i0_ne_t hc52) ?_
  refine zS Ad W 2 (st' := (36, [vR 1, vI x1, vI r50, vI r51, none, none, none, none, none, none, none, none], [.int x1, .ref 1], (H0 s o))) rfl ?_
  obtain ⟨r347, hr347, h⟩ := bind_eq_some_iff.mp h
  refine QTri.callV W (a := 1) (as := [.int x1]) (rest := []) (w := (some (.int r347.1))) (σ₁ := (H0 s r347.2)) rfl rfl rfl rfl rfl rfl rfl rfl (tF8 Ad W s o x1 hr347) ?_
  refine zS Ad W 2 (st' := (42, [vR 1, vI x1, vI r50, vI r51, vI r347.1, none, none, none, none, none, none, none], [.ref 1], (H0 s r347.2))) rfl ?_
  obtain ⟨r366, hr366, h⟩ := bind_eq_some_iff.mp h
  refine QTri.callS W (as := [.ref 1]) (rest := []) (w := (some (.long r366))) (σ₁ := (H0 s r347.2)) rfl rfl rfl rfl rfl rfl rfl (tF16 Ad W s r347.2 hr366) ?_
  refine zS Ad W 2 (st' := (48, [vR 1, vI x1, vI r50, vI r51, vI r347.1, vL r366, none, none, none, none, none, none], [.ref 1], (H0 s r347.2))) rfl ?_
  obtain ⟨r380, hr380, h⟩ := bind_eq_some_iff.mp h
  refine QTri.callS W (as := [.ref 1]) (rest := []) (w := (some (.long r380))) (σ₁ := (H0 s r347.2)) rfl rfl rfl rfl rfl rfl rfl (tF22 Ad W s r347.2 hr380) ?_
  refine zS Ad W 4 (st' := (56, [vR 1, vI x1, vI r50, vI r51, vI r347.1, vL r366, none, vL r380, none, none, none, none], [.int (4:Int32), .int (0:Int32), .ref 1], (H0 s r347.2))) rfl ?_
  obtain ⟨r399, hr399, h⟩ := bind_eq_some_iff.mp h
  refine QTri.callV W (a := 1) (as := [.int (0:Int32), .int (4:Int32)]) (rest := []) (w := (some (.int r399))) (σ₁ := (H0 s r347.2)) rfl rfl rfl rfl rfl rfl rfl rfl (tF24 Ad W s r347.2 (0:Int32) (4:Int32) hr399) ?_
  refine zS Ad W 4 (st' := (65, [vR 1, vI x1, vI r50, vI r51, vI r347.1, vL r366, none, vL r380, none, vI r399, none, none], [.int (6:Int32), .int (0:Int32), .ref 1], (H0 s r347.2))) rfl ?_
  obtain ⟨r400, hr400, h⟩ := bind_eq_some_iff.mp h
  refine QTri.callV W (a := 1) (as := [.int (0:Int32), .int (6:Int32)]) (rest := []) (w := (some (.int r400))) (σ₁ := (H0 s r347.2)) rfl rfl rfl rfl rfl rfl rfl rfl (tF24 Ad W s r347.2 (0:Int32) (6:Int32) hr400) ?_
  refine zS Ad W 2 (st' := (71, [vR 1, vI x1, vI r50, vI r51, vI r347.1, vL r366, none, vL r380, none, vI r399, vI r400, none], [.ref 1], (H0 s r347.2))) rfl ?_
  obtain ⟨r401, hr401, h⟩ := bind_eq_some_iff.mp h
  refine QTri.callV W (a := 1) (as := []) (rest := []) (w := (some (.int r401.1))) (σ₁ := (H0 s r401.2)) rfl rfl rfl rfl rfl rfl rfl rfl (tF25 Ad W s r347.2 hr401) ?_
  refine zS Ad W 1 (st' := (75, [vR 1, vI x1, vI r50, vI r51, vI r347.1, vL r366, none, vL r380, none, vI r399, vI r400, none], [.int r51, .int r401.1], (H0 s r401.2))) rfl ?_
  rcases qite h with ⟨hc402, h⟩ | ⟨hc402, h⟩
  ·refine zT Ad W (t := 85) (f := 78) rfl (XT.ii_eq_t hc402) ?_
   refine zS Ad W 1 (st' := (86, [vR 1, vI x1, vI r50, vI r51, vI r347.1, vL r366, none, vL r380, none, vI r399, vI r400, none], [.int (0:Int32)], (H0 s r401.2))) rfl ?_
   obtain rfl := Option.some.inj h
   exact QTri.retZ rfl rfl
  ·refine zF Ad W (t := 85) (f := 78) rfl (XT.ii_eq_f hc402) ?_
   refine zS Ad W 1 (st' := (79, [vR 1, vI x1, vI r50, vI r51, vI r347.1, vL r366, none, vL r380, none, vI r399, vI r400, none], [.ref 1], (H0 s r401.2))) rfl ?_
   obtain ⟨r403, hr403, h⟩ := bind_eq_some_iff.mp h
   refine QTri.callV W (a := 1) (as := []) (rest := []) (w := (some (.int r403))) (σ₁ := (H0 s r401.2)) rfl rfl rfl rfl rfl rfl rfl rfl (tF15 Ad W s r401.2 hr403) ?_
   rcases qite h with ⟨hc404, h⟩ | ⟨hc404, h⟩
   ·refine zF Ad W (t := 87) (f := 85) rfl (XT.i0_ne_f hc404) ?_
    refine zS Ad W 1 (st' := (86, [vR 1, vI x1, vI r50, vI r51, vI r347.1, vL r366, none, vL r380, none, vI r399, vI r400, none], [.int (0:Int32)], (H0 s r401.2))) rfl ?_
    obtain rfl := Option.some.inj h
    exact QTri.retZ rfl rfl
   ·refine zT Ad W (t := 87) (f := 85) rfl (XT.i0_ne_t hc404) ?_
    refine zS Ad W 1 (st' := (88, [vR 1, vI x1, vI r50, vI r51, vI r347.1, vL r366, none, vL r380, none, vI r399, vI r400, none], [.ref 1], (H0 s r401.2))) rfl ?_
    obtain ⟨r405, hr405, h⟩ := bind_eq_some_iff.mp h
    refine QTri.callS W (as := [.ref 1]) (rest := []) (w := (some (.long r405))) (σ₁ := (H0 s r401.2)) rfl rfl rfl rfl rfl rfl rfl (tF22 Ad W s r401.2 hr405) ?_
    refine zS Ad W 2 (st' := (94, [vR 1, vI x1, vI r50, vI r51, vI r347.1, vL r366, none, vL r380, none, vI r399, vI r400, none], [.int (XT.cmpL r405 r380)], (H0 s r401.2))) rfl ?_
    rcases qite h with ⟨hc406, h⟩ | ⟨hc406, h⟩
    ·refine zF Ad W (t := 107) (f := 97) rfl (XT.ll_ne_f hc406) ?_
     refine zS Ad W 1 (st' := (98, [vR 1, vI x1, vI r50, vI r51, vI r347.1, vL r366, none, vL r380, none, vI r399, vI r400, none], [.ref 1], (H0 s r401.2))) rfl ?_
     obtain ⟨r407, hr407, h⟩ := bind_eq_some_iff.mp h
     refine QTri.callS W (as := [.ref 1]) (rest := []) (w := (some (.long r407))) (σ₁ := (H0 s r401.2)) rfl rfl rfl rfl rfl rfl rfl (tF16 Ad W s r401.2 hr407) ?_
     refine zS Ad W 2 (st' := (104, [vR 1, vI x1, vI r50, vI r51, vI r347.1, vL r366, none, vL r380, none, vI r399, vI r400, none], [.int (XT.cmpL r407 r366)], (H0 s r401.2))) rfl ?_
     rcases qite h with ⟨hc408, h⟩ | ⟨hc408, h⟩
     ·refine zT Ad W (t := 109) (f := 107) rfl (XT.ll_eq_t hc408) ?_
      refine zS Ad W 2 (st' := (111, [vR 1, vI x1, vI r50, vI r51, vI r347.1, vL r366, none, vL r380, none, vI r399, vI r400, none], [.int x1, .ref 1], (H0 s r401.2))) rfl ?_
      obtain ⟨r409, hr409, h⟩ := bind_eq_some_iff.mp h
      refine QTri.callV W (a := 1) (as := [.int x1]) (rest := []) (w := (some (.int r409.1))) (σ₁ := (H0 s r409.2)) rfl rfl rfl rfl rfl rfl rfl rfl (tF8 Ad W s r401.2 x1 hr409) ?_
      refine zS Ad W 3 (st' := (120, [vR 1, vI x1, vI r50, vI r51, vI r347.1, vL r366, none, vL r380, none, vI r399, vI r400, vI r409.1], [.int r347.1, .int r409.1], (H0 s r409.2))) rfl ?_
      rcases qite h with ⟨hc410, h⟩ | ⟨hc410, h⟩
      ·refine zF Ad W (t := 143) (f := 123) rfl (XT.ii_ne_f hc410) ?_
       refine zS Ad W 1 (st' := (124, [vR 1, vI x1, vI r50, vI r51, vI r347.1, vL r366, none, vL r380, none, vI r399, vI r400, vI r409.1], [.ref 1], (H0 s r409.2))) rfl ?_
       obtain ⟨r411, hr411, h⟩ := bind_eq_some_iff.mp h
       refine QTri.callS W (as := [.ref 1]) (rest := []) (w := (some (.long r411))) (σ₁ := (H0 s r409.2)) rfl rfl rfl rfl rfl rfl rfl (tF16 Ad W s r409.2 hr411) ?_
       refine zS Ad W 2 (st' := (130, [vR 1, vI x1, vI r50, vI r51, vI r347.1, vL r366, none, vL r380, none, vI r399, vI r400, vI r409.1], [.int (XT.cmpL r411 r366)], (H0 s r409.2))) rfl ?_
       rcases qite h with ⟨hc412, h⟩ | ⟨hc412, h⟩
       ·refine zF Ad W (t := 143) (f := 133) rfl (XT.ll_ne_f hc412) ?_
        refine zS Ad W 1 (st' := (134, [vR 1, vI x1, vI r50, vI r51, vI r347.1, vL r366, none, vL r380, none, vI r399, vI r400, vI r409.1], [.ref 1], (H0 s r409.2))) rfl ?_
        obtain ⟨r413, hr413, h⟩ := bind_eq_some_iff.mp h
        refine QTri.callS W (as := [.ref 1]) (rest := []) (w := (some (.long r413))) (σ₁ := (H0 s r409.2)) rfl rfl rfl rfl rfl rfl rfl (tF22 Ad W s r409.2 hr413) ?_
        refine zS Ad W 2 (st' := (140, [vR 1, vI x1, vI r50, vI r51, vI r347.1, vL r366, none, vL r380, none, vI r399, vI r400, vI r409.1], [.int (XT.cmpL r413 r380)], (H0 s r409.2))) rfl ?_
        rcases qite h with ⟨hc414, h⟩ | ⟨hc414, h⟩
        ·refine zT Ad W (t := 145) (f := 143) rfl (XT.ll_eq_t hc414) ?_
         refine zS Ad W 2 (st' := (147, [vR 1, vI x1, vI r50, vI r51, vI r347.1, vL r366, none, vL r380, none, vI r399, vI r400, vI r409.1], [.int (0:Int32), .ref 1], (H0 s r409.2))) rfl ?_
         obtain ⟨r415, hr415, h⟩ := bind_eq_some_iff.mp h
         refine QTri.callV W (a := 1) (as := [.int (0:Int32)]) (rest := []) (w := (some (.int r415.1))) (σ₁ := (H0 s r415.2)) rfl rfl rfl rfl rfl rfl rfl rfl (tF11 Ad W s r409.2 (0:Int32) hr415) ?_
         rcases qite h with ⟨hc416, h⟩ | ⟨hc416, h⟩
         ·refine zF Ad W (t := 165) (f := 153) rfl (XT.i0_ne_f hc416) ?_
          refine zS Ad W 5 (st' := (158, [vR 1, vI x1, vI r50, vI r51, vI r347.1, vL r366, none, vL r380, none, vI r399, vI r400, vI r409.1], [.int (0:Int32), .int (0:Int32), .int (0:Int32), .int (0:Int32), .ref 1], (H0 s r415.2))) rfl ?_
          obtain ⟨r435, hr435, h⟩ := bind_eq_some_iff.mp h
          refine QTri.callV W (a := 1) (as := [.int (0:Int32), .int (0:Int32), .int (0:Int32), .int (0:Int32)]) (rest := []) (w := (some (.int r435.1))) (σ₁ := (H0 s r435.2)) rfl rfl rfl rfl rfl rfl rfl rfl (tF5 Ad W s r415.2 (0:Int32) (0:Int32) (0:Int32) (0:Int32) hr435) ?_
          refine zS Ad W 1 (st' := (162, [vR 1, vI x1, vI r50, vI r51, vI r347.1, vL r366, none, vL r380, none, vI r399, vI r400, vI r409.1], [.int (-1:Int32), .int r435.1], (H0 s r435.2))) rfl ?_
          rcases qite h with ⟨hc436, h⟩ | ⟨hc436, h⟩
          ·refine zT Ad W (t := 167) (f := 165) rfl (XT.ii_eq_t hc436) ?_
           refine zS Ad W 3 (st' := (170, [vR 1, vI x1, vI r50, vI r51, vI r347.1, vL r366, none, vL r380, none, vI r399, vI r400, vI r409.1], [.int (0:Int32), .int (0:Int32), .ref 1], (H0 s r435.2))) rfl ?_
           obtain ⟨r446, hr446, h⟩ := bind_eq_some_iff.mp h
           refine QTri.callV W (a := 1) (as := [.int (0:Int32), .int (0:Int32)]) (rest := []) (w := (some (.int r446.1))) (σ₁ := (H0 s r446.2)) rfl rfl rfl rfl rfl rfl rfl rfl (tF3 Ad W s r435.2 (0:Int32) (0:Int32) hr446) ?_
           rcases qite h with ⟨hc447, h⟩ | ⟨hc447, h⟩
           ·refine zF Ad W (t := 184) (f := 176) rfl (XT.i0_ne_f hc447) ?_
            refine zS Ad W 1 (st' := (177, [vR 1, vI x1, vI r50, vI r51, vI r347.1, vL r366, none, vL r380, none, vI r399, vI r400, vI r409.1], [.ref 1], (H0 s r446.2))) rfl ?_
            obtain ⟨r448, hr448, h⟩ := bind_eq_some_iff.mp h
            refine QTri.callV W (a := 1) (as := []) (rest := []) (w := (some (.int r448))) (σ₁ := (H0 s r446.2)) rfl rfl rfl rfl rfl rfl rfl rfl (tF2 Ad W s r446.2 hr448) ?_
            refine zS Ad W 1 (st' := (181, [vR 1, vI x1, vI r50, vI r51, vI r347.1, vL r366, none, vL r380, none, vI r399, vI r400, vI r409.1], [.int r50, .int r448], (H0 s r446.2))) rfl ?_
            rcases qite h with ⟨hc449, h⟩ | ⟨hc449, h⟩
            ·refine zT Ad W (t := 186) (f := 184) rfl (XT.ii_eq_t hc449) ?_
             refine zS Ad W 3 (st' := (189, [vR 1, vI x1, vI r50, vI r51, vI r347.1, vL r366, none, vL r380, none, vI r399, vI r400, vI r409.1], [.int (4:Int32), .int (0:Int32), .ref 1], (H0 s r446.2))) rfl ?_
             obtain ⟨r450, hr450, h⟩ := bind_eq_some_iff.mp h
             refine QTri.callV W (a := 1) (as := [.int (0:Int32), .int (4:Int32)]) (rest := []) (w := (some (.int r450))) (σ₁ := (H0 s r446.2)) rfl rfl rfl rfl rfl rfl rfl rfl (tF24 Ad W s r446.2 (0:Int32) (4:Int32) hr450) ?_
             refine zS Ad W 1 (st' := (194, [vR 1, vI x1, vI r50, vI r51, vI r347.1, vL r366, none, vL r380, none, vI r399, vI r400, vI r409.1], [.int r399, .int r450], (H0 s r446.2))) rfl ?_
             rcases qite h with ⟨hc451, h⟩ | ⟨hc451, h⟩
             ·refine zF Ad W (t := 209) (f := 197) rfl (XT.ii_ne_f hc451) ?_
              refine zS Ad W 3 (st' := (201, [vR 1, vI x1, vI r50, vI r51, vI r347.1, vL r366, none, vL r380, none, vI r399, vI r400, vI r409.1], [.int (6:Int32), .int (0:Int32), .ref 1], (H0 s r446.2))) rfl ?_
              obtain ⟨r452, hr452, h⟩ := bind_eq_some_iff.mp h
              refine QTri.callV W (a := 1) (as := [.int (0:Int32), .int (6:Int32)]) (rest := []) (w := (some (.int r452))) (σ₁ := (H0 s r446.2)) rfl rfl rfl rfl rfl rfl rfl rfl (tF24 Ad W s r446.2 (0:Int32) (6:Int32) hr452) ?_
              refine zS Ad W 1 (st' := (206, [vR 1, vI x1, vI r50, vI r51, vI r347.1, vL r366, none, vL r380, none, vI r399, vI r400, vI r409.1], [.int r400, .int r452], (H0 s r446.2))) rfl ?_
              rcases qite h with ⟨hc453, h⟩ | ⟨hc453, h⟩
              ·refine zT Ad W (t := 211) (f := 209) rfl (XT.ii_eq_t hc453) ?_
               refine zS Ad W 1 (st' := (212, [vR 1, vI x1, vI r50, vI r51, vI r347.1, vL r366, none, vL r380, none, vI r399, vI r400, vI r409.1], [.ref 1], (H0 s r446.2))) rfl ?_
               obtain ⟨r454, hr454, h⟩ := bind_eq_some_iff.mp h
               refine QTri.callS W (as := [.ref 1]) (rest := []) (w := (some (.long r454))) (σ₁ := (H0 s r446.2)) rfl rfl rfl rfl rfl rfl rfl (tF16 Ad W s r446.2 hr454) ?_
               refine zS Ad W 2 (st' := (218, [vR 1, vI x1, vI r50, vI r51, vI r347.1, vL r366, none, vL r380, none, vI r399, vI r400, vI r409.1], [.int (XT.cmpL r454 r366)], (H0 s r446.2))) rfl ?_
               rcases qite h with ⟨hc455, h⟩ | ⟨hc455, h⟩
               ·refine zF Ad W (t := 242) (f := 221) rfl (XT.ll_ne_f hc455) ?_
                refine zS Ad W 1 (st' := (222, [vR 1, vI x1, vI r50, vI r51, vI r347.1, vL r366, none, vL r380, none, vI r399, vI r400, vI r409.1], [.ref 1], (H0 s r446.2))) rfl ?_
                obtain ⟨r456, hr456, h⟩ := bind_eq_some_iff.mp h
                refine QTri.callS W (as := [.ref 1]) (rest := []) (w := (some (.long r456))) (σ₁ := (H0 s r446.2)) rfl rfl rfl rfl rfl rfl rfl (tF22 Ad W s r446.2 hr456) ?_
                refine zS Ad W 2 (st' := (228, [vR 1, vI x1, vI r50, vI r51, vI r347.1, vL r366, none, vL r380, none, vI r399, vI r400, vI r409.1], [.int (XT.cmpL r456 r380)], (H0 s r446.2))) rfl ?_
                rcases qite h with ⟨hc457, h⟩ | ⟨hc457, h⟩
                ·refine zF Ad W (t := 242) (f := 231) rfl (XT.ll_ne_f hc457) ?_
                 refine zS Ad W 1 (st' := (232, [vR 1, vI x1, vI r50, vI r51, vI r347.1, vL r366, none, vL r380, none, vI r399, vI r400, vI r409.1], [.ref 1], (H0 s r446.2))) rfl ?_
                 obtain ⟨r458, hr458, h⟩ := bind_eq_some_iff.mp h
                 refine QTri.callV W (a := 1) (as := []) (rest := []) (w := (some (.int r458))) (σ₁ := (H0 s r446.2)) rfl rfl rfl rfl rfl rfl rfl rfl (tF15 Ad W s r446.2 hr458) ?_
                 rcases qite h with ⟨hc459, h⟩ | ⟨hc459, h⟩
                 ·refine zT Ad W (t := 242) (f := 238) rfl (XT.i0_eq_t hc459) ?_
                  refine zS Ad W 1 (st' := (243, [vR 1, vI x1, vI r50, vI r51, vI r347.1, vL r366, none, vL r380, none, vI r399, vI r400, vI r409.1], [.int (0:Int32)], (H0 s r446.2))) rfl ?_
                  obtain rfl := Option.some.inj h
                  exact QTri.retZ rfl rfl
                 ·refine zF Ad W (t := 242) (f := 238) rfl (XT.i0_eq_f hc459) ?_
                  refine zS Ad W 2 (st' := (243, [vR 1, vI x1, vI r50, vI r51, vI r347.1, vL r366, none, vL r380, none, vI r399, vI r400, vI r409.1], [.int (1:Int32)], (H0 s r446.2))) rfl ?_
                  obtain rfl := Option.some.inj h
                  exact QTri.retZ rfl rfl
                ·refine zT Ad W (t := 242) (f := 231) rfl (XT.ll_ne_t hc457) ?_
                 refine zS Ad W 1 (st' := (243, [vR 1, vI x1, vI r50, vI r51, vI r347.1, vL r366, none, vL r380, none, vI r399, vI r400, vI r409.1], [.int (0:Int32)], (H0 s r446.2))) rfl ?_
                 obtain rfl := Option.some.inj h
                 exact QTri.retZ rfl rfl
               ·refine zT Ad W (t := 242) (f := 221) rfl (XT.ll_ne_t hc455) ?_
                refine zS Ad W 1 (st' := (243, [vR 1, vI x1, vI r50, vI r51, vI r347.1, vL r366, none, vL r380, none, vI r399, vI r400, vI r409.1], [.int (0:Int32)], (H0 s r446.2))) rfl ?_
                obtain rfl := Option.some.inj h
                exact QTri.retZ rfl rfl
              ·refine zF Ad W (t := 211) (f := 209) rfl (XT.ii_eq_f hc453) ?_
               refine zS Ad W 1 (st' := (210, [vR 1, vI x1, vI r50, vI r51, vI r347.1, vL r366, none, vL r380, none, vI r399, vI r400, vI r409.1], [.int (0:Int32)], (H0 s r446.2))) rfl ?_
               obtain rfl := Option.some.inj h
               exact QTri.retZ rfl rfl
             ·refine zT Ad W (t := 209) (f := 197) rfl (XT.ii_ne_t hc451) ?_
              refine zS Ad W 1 (st' := (210, [vR 1, vI x1, vI r50, vI r51, vI r347.1, vL r366, none, vL r380, none, vI r399, vI r400, vI r409.1], [.int (0:Int32)], (H0 s r446.2))) rfl ?_
              obtain rfl := Option.some.inj h
              exact QTri.retZ rfl rfl
            ·refine zF Ad W (t := 186) (f := 184) rfl (XT.ii_eq_f hc449) ?_
             refine zS Ad W 1 (st' := (185, [vR 1, vI x1, vI r50, vI r51, vI r347.1, vL r366, none, vL r380, none, vI r399, vI r400, vI r409.1], [.int (0:Int32)], (H0 s r446.2))) rfl ?_
             obtain rfl := Option.some.inj h
             exact QTri.retZ rfl rfl
           ·refine zT Ad W (t := 184) (f := 176) rfl (XT.i0_ne_t hc447) ?_
            refine zS Ad W 1 (st' := (185, [vR 1, vI x1, vI r50, vI r51, vI r347.1, vL r366, none, vL r380, none, vI r399, vI r400, vI r409.1], [.int (0:Int32)], (H0 s r446.2))) rfl ?_
            obtain rfl := Option.some.inj h
            exact QTri.retZ rfl rfl
          ·refine zF Ad W (t := 167) (f := 165) rfl (XT.ii_eq_f hc436) ?_
           refine zS Ad W 1 (st' := (166, [vR 1, vI x1, vI r50, vI r51, vI r347.1, vL r366, none, vL r380, none, vI r399, vI r400, vI r409.1], [.int (0:Int32)], (H0 s r435.2))) rfl ?_
           obtain rfl := Option.some.inj h
           exact QTri.retZ rfl rfl
         ·refine zT Ad W (t := 165) (f := 153) rfl (XT.i0_ne_t hc416) ?_
          refine zS Ad W 1 (st' := (166, [vR 1, vI x1, vI r50, vI r51, vI r347.1, vL r366, none, vL r380, none, vI r399, vI r400, vI r409.1], [.int (0:Int32)], (H0 s r415.2))) rfl ?_
          obtain rfl := Option.some.inj h
          exact QTri.retZ rfl rfl
        ·refine zF Ad W (t := 145) (f := 143) rfl (XT.ll_eq_f hc414) ?_
         refine zS Ad W 1 (st' := (144, [vR 1, vI x1, vI r50, vI r51, vI r347.1, vL r366, none, vL r380, none, vI r399, vI r400, vI r409.1], [.int (0:Int32)], (H0 s r409.2))) rfl ?_
         obtain rfl := Option.some.inj h
         exact QTri.retZ rfl rfl
       ·refine zT Ad W (t := 143) (f := 133) rfl (XT.ll_ne_t hc412) ?_
        refine zS Ad W 1 (st' := (144, [vR 1, vI x1, vI r50, vI r51, vI r347.1, vL r366, none, vL r380, none, vI r399, vI r400, vI r409.1], [.int (0:Int32)], (H0 s r409.2))) rfl ?_
        obtain rfl := Option.some.inj h
        exact QTri.retZ rfl rfl
      ·refine zT Ad W (t := 143) (f := 123) rfl (XT.ii_ne_t hc410) ?_
       refine zS Ad W 1 (st' := (144, [vR 1, vI x1, vI r50, vI r51, vI r347.1, vL r366, none, vL r380, none, vI r399, vI r400, vI r409.1], [.int (0:Int32)], (H0 s r409.2))) rfl ?_
       obtain rfl := Option.some.inj h
       exact QTri.retZ rfl rfl
     ·refine zF Ad W (t := 109) (f := 107) rfl (XT.ll_eq_f hc408) ?_
      refine zS Ad W 1 (st' := (108, [vR 1, vI x1, vI r50, vI r51, vI r347.1, vL r366, none, vL r380, none, vI r399, vI r400, none], [.int (0:Int32)], (H0 s r401.2))) rfl ?_
      obtain rfl := Option.some.inj h
      exact QTri.retZ rfl rfl
    ·refine zT Ad W (t := 107) (f := 97) rfl (XT.ll_ne_t hc406) ?_
     refine zS Ad W 1 (st' := (108, [vR 1, vI x1, vI r50, vI r51, vI r347.1, vL r366, none, vL r380, none, vI r399, vI r400, none], [.int (0:Int32)], (H0 s r401.2))) rfl ?_
     obtain rfl := Option.some.inj h
     exact QTri.retZ rfl rfl
def H0x48 (s : List Int32) (o0 : Ob) (a0_30 : Int32) : QHeap := H0v s (f_bOp o0) (f_bD o0) (f_bS o0) (f_bImm o0) (f_bTerm o0) (f_bTest o0) (f_bT0 o0) (f_bT1 o0) (f_cnt0 o0) (f_cnt1 o0) (f_regs o0) (f_outs o0) (f_edgeId o0) (f_edgeW o0) (f_chNext o0) (f_chPrev o0) (f_chHead o0) (f_heat o0) (f_posOf o0) (f_order o0) (f_cOp o0) (f_cD o0) (f_cS o0) (f_cImm o0) (f_cKind o0) (f_cTest o0) (f_cTaken o0) (f_cOther o0) (f_maxBlocks o0) (f_maxSteps o0) a0_30 (f_arranged o0) (f_outCount o0) (f_steps o0) (f_status o0) (f_edgeN o0)
def H0x49 (s : List Int32) (o0 : Ob) (a0_30 : Int32) (a0_31 : Int32) : QHeap := H0v s (f_bOp o0) (f_bD o0) (f_bS o0) (f_bImm o0) (f_bTerm o0) (f_bTest o0) (f_bT0 o0) (f_bT1 o0) (f_cnt0 o0) (f_cnt1 o0) (f_regs o0) (f_outs o0) (f_edgeId o0) (f_edgeW o0) (f_chNext o0) (f_chPrev o0) (f_chHead o0) (f_heat o0) (f_posOf o0) (f_order o0) (f_cOp o0) (f_cD o0) (f_cS o0) (f_cImm o0) (f_cKind o0) (f_cTest o0) (f_cTaken o0) (f_cOther o0) (f_maxBlocks o0) (f_maxSteps o0) a0_30 a0_31 (f_outCount o0) (f_steps o0) (f_status o0) (f_edgeN o0)
def B10_16 (v : Int32 × Ob) : Option (((Ob)) ⊕ (Int32 × Ob)) :=
  (if v.1 < (4 : Int32) then (aset (f_regs v.2) v.1 (0 : Int32)).bind fun y466 => some (.inr ((v.1 + (1 : Int32)), (s_regs v.2 y466))) else some (.inl v.2))
theorem tB10_16 (Ad : QAd n0 ad) (W : QW Z a0) (s : List Int32) (v : Int32 × Ob) {r : ((Ob)) ⊕ (Int32 × Ob)} {u : Option Value} {τ : QHeap} (h : B10_16 v = some r) (hx0 : ∀ x : Ob, r = .inl x → QTri l Z n0 ad 10 (34, [vR 1, none], [], (H0 s x)) u τ) (hc : ∀ x : Int32 × Ob, r = .inr x → QTri l Z n0 ad 10 (16, [vR 1, vI x.1], [], (H0 s x.2)) u τ) : QTri l Z n0 ad 10 (16, [vR 1, vI v.1], [], (H0 s v.2)) u τ := by
 unfold B10_16 at h
 refine zS Ad W 2 (st' := (18, [vR 1, vI v.1], [.int (4:Int32), .int v.1], (H0 s v.2))) rfl ?_
 rcases qite h with ⟨hc465, h⟩ | ⟨hc465, h⟩
 ·refine zF Ad W (t := 34) (f := 21) rfl (XT.ii_ge_f hc465) ?_
  refine zS Ad W 4 (st' := (27, [vR 1, vI v.1], [.int (0:Int32), .int v.1, .ref 12], (H0 s v.2))) rfl ?_
  obtain ⟨y466, hy466, h⟩ := bind_eq_some_iff.mp h
  refine zB Ad W (f := fun y466 => (28, [vR 1, vI v.1], [], (H0x35 s v.2 y466))) rfl hy466 ?_
  refine zS Ad W 2 (st' := (16, [vR 1, vI (v.1 + (1:Int32))], [], (H0x35 s v.2 y466))) rfl ?_
  have E467 : ((H0x35 s v.2 y466) : QHeap) = (H0 s (s_regs v.2 y466)) := by simp only [fs, H0, H0v, H0x35, s_regs]
  rw [E467]
  obtain rfl := Option.some.inj h
  exact zM [tt,tt] (hc ((v.1 + (1:Int32)), (s_regs v.2 y466)) rfl)
 ·refine zT Ad W (t := 34) (f := 21) rfl (XT.ii_ge_t hc465) ?_
  obtain rfl := Option.some.inj h
  exact zM [tt,ff] (hx0 v.2 rfl)
def B10_36 (v : Int32 × Ob) : Option (((Ob)) ⊕ (Int32 × Ob)) :=
  (if v.1 < (16 : Int32) then (aset (f_outs v.2) v.1 (0 : Int32)).bind fun y471 => some (.inr ((v.1 + (1 : Int32)), (s_outs v.2 y471))) else some (.inl v.2))
theorem tB10_36 (Ad : QAd n0 ad) (W : QW Z a0) (s : List Int32) (v : Int32 × Ob) {r : ((Ob)) ⊕ (Int32 × Ob)} {u : Option Value} {τ : QHeap} (h : B10_36 v = some r) (hx0 : ∀ x : Ob, r = .inl x → QTri l Z n0 ad 10 (55, [vR 1, none], [], (H0 s x)) u τ) (hc : ∀ x : Int32 × Ob, r = .inr x → QTri l Z n0 ad 10 (36, [vR 1, vI x.1], [], (H0 s x.2)) u τ) : QTri l Z n0 ad 10 (36, [vR 1, vI v.1], [], (H0 s v.2)) u τ := by
 unfold B10_36 at h
 refine zS Ad W 2 (st' := (39, [vR 1, vI v.1], [.int (16:Int32), .int v.1], (H0 s v.2))) rfl ?_
 rcases qite h with ⟨hc470, h⟩ | ⟨hc470, h⟩
 ·refine zF Ad W (t := 55) (f := 42) rfl (XT.ii_ge_f hc470) ?_
  refine zS Ad W 4 (st' := (48, [vR 1, vI v.1], [.int (0:Int32), .int v.1, .ref 13], (H0 s v.2))) rfl ?_
  obtain ⟨y471, hy471, h⟩ := bind_eq_some_iff.mp h
  refine zB Ad W (f := fun y471 => (49, [vR 1, vI v.1], [], (H0x40 s v.2 y471))) rfl hy471 ?_
  refine zS Ad W 2 (st' := (36, [vR 1, vI (v.1 + (1:Int32))], [], (H0x40 s v.2 y471))) rfl ?_
  have E472 : ((H0x40 s v.2 y471) : QHeap) = (H0 s (s_outs v.2 y471)) := by simp only [fs, H0, H0v, H0x40, s_outs]
  rw [E472]
  obtain rfl := Option.some.inj h
  exact zM [tt,tt] (hc ((v.1 + (1:Int32)), (s_outs v.2 y471)) rfl)
 ·refine zT Ad W (t := 55) (f := 42) rfl (XT.ii_ge_t hc470) ?_
  obtain rfl := Option.some.inj h
  exact zM [tt,ff] (hx0 v.2 rfl)
def H0x50 (s : List Int32) (o0 : Ob) (a0_32 : Int32) (a0_33 : Int32) : QHeap := H0v s (f_bOp o0) (f_bD o0) (f_bS o0) (f_bImm o0) (f_bTerm o0) (f_bTest o0) (f_bT0 o0) (f_bT1 o0) (f_cnt0 o0) (f_cnt1 o0) (f_regs o0) (f_outs o0) (f_edgeId o0) (f_edgeW o0) (f_chNext o0) (f_chPrev o0) (f_chHead o0) (f_heat o0) (f_posOf o0) (f_order o0) (f_cOp o0) (f_cD o0) (f_cS o0) (f_cImm o0) (f_cKind o0) (f_cTest o0) (f_cTaken o0) (f_cOther o0) (f_maxBlocks o0) (f_maxSteps o0) (f_n o0) (f_arranged o0) a0_32 a0_33 (f_status o0) (f_edgeN o0)
def H0x51 (s : List Int32) (o0 : Ob) (a0_32 : Int32) (a0_33 : Int32) (a0_34 : Int32) : QHeap := H0v s (f_bOp o0) (f_bD o0) (f_bS o0) (f_bImm o0) (f_bTerm o0) (f_bTest o0) (f_bT0 o0) (f_bT1 o0) (f_cnt0 o0) (f_cnt1 o0) (f_regs o0) (f_outs o0) (f_edgeId o0) (f_edgeW o0) (f_chNext o0) (f_chPrev o0) (f_chHead o0) (f_heat o0) (f_posOf o0) (f_order o0) (f_cOp o0) (f_cD o0) (f_cS o0) (f_cImm o0) (f_cKind o0) (f_cTest o0) (f_cTaken o0) (f_cOther o0) (f_maxBlocks o0) (f_maxSteps o0) (f_n o0) (f_arranged o0) a0_32 a0_33 a0_34 (f_edgeN o0)
/-- reset()V -/
def F10 (o : Ob) : Option (Ob) :=
 (F7 (s_arranged (s_n o (0:Int32)) (0:Int32))).bind fun r464 => (loopN (B10_16) qN ((0:Int32), r464)).bind fun e468 => (loopN (B10_36) qN ((0:Int32), e468)).bind fun e473 => some (s_status (s_steps (s_outCount e473 (0:Int32)) (0:Int32)) (0:Int32))
theorem tF10 (Ad : QAd n0 ad) (W : QW Z a0) (s : List Int32) (o : Ob) {r : Ob} (h : F10 o = some r) : QTri l Z n0 ad 10 (0, qentry [.ref 1] (pMaxL 10), [], (H0 s o)) (none : Option Value) (H0 s r) := by
 unfold F10 at h
 refine zS Ad W 3 (st' := (5, [vR 1, none], [], (H0x48 s o (0:Int32)))) rfl ?_
 refine zS Ad W 3 (st' := (10, [vR 1, none], [], (H0x49 s o (0:Int32) (0:Int32)))) rfl ?_
 refine zS Ad W 1 (st' := (11, [vR 1, none], [.ref 1], (H0x49 s o (0:Int32) (0:Int32)))) rfl ?_
 have E463 : ((H0x49 s o (0:Int32) (0:Int32)) : QHeap) = (H0 s (s_arranged (s_n o (0:Int32)) (0:Int32))) := by simp only [fs, H0, H0v, H0x49, s_n, s_arranged]
 rw [E463]
 obtain ⟨r464, hr464, h⟩ := bind_eq_some_iff.mp h
 refine QTri.callP W (a := 1) (as := []) (rest := []) (w := none) (σ₁ := (H0 s r464)) rfl rfl rfl rfl rfl rfl rfl rfl (tF7 Ad W s (s_arranged (s_n o (0:Int32)) (0:Int32)) hr464) ?_
 refine zS Ad W 2 (st' := (16, [vR 1, vI (0:Int32)], [], (H0 s r464))) rfl ?_
 obtain ⟨e468, he468, h⟩ := bind_eq_some_iff.mp h
 refine zM [tt,tt] (loopN_tri (B := B10_16) (T := fun lv469 => QTri l Z n0 ad 10 (16, [vR 1, vI lv469.1], [], (H0 s lv469.2)) (none : Option Value) (H0 s r)) (KE := fun e468a => QTri l Z n0 ad 10 (34, [vR 1, none], [], (H0 s e468a)) (none : Option Value) (H0 s r)) (fun lv469 r hB hE hC => tB10_16 Ad W s lv469 hB (fun x q => hE _ q) (fun x q => hC x q)) qN ((0:Int32), r464) e468 he468 ?_)
 refine zS Ad W 2 (st' := (36, [vR 1, vI (0:Int32)], [], (H0 s e468))) rfl ?_
 obtain ⟨e473, he473, h⟩ := bind_eq_some_iff.mp h
 refine zM [tt,tt] (loopN_tri (B := B10_36) (T := fun lv474 => QTri l Z n0 ad 10 (36, [vR 1, vI lv474.1], [], (H0 s lv474.2)) (none : Option Value) (H0 s r)) (KE := fun e473a => QTri l Z n0 ad 10 (55, [vR 1, none], [], (H0 s e473a)) (none : Option Value) (H0 s r)) (fun lv474 r hB hE hC => tB10_36 Ad W s lv474 hB (fun x q => hE _ q) (fun x q => hC x q)) qN ((0:Int32), e468) e473 he473 ?_)
 refine zS Ad W 3 (st' := (60, [vR 1, none], [], (H0x39 s e473 (0:Int32)))) rfl ?_
 refine zS Ad W 3 (st' := (65, [vR 1, none], [], (H0x50 s e473 (0:Int32) (0:Int32)))) rfl ?_
 refine zS Ad W 3 (st' := (70, [vR 1, none], [], (H0x51 s e473 (0:Int32) (0:Int32) (0:Int32)))) rfl ?_
 have E475 : ((H0x51 s e473 (0:Int32) (0:Int32) (0:Int32)) : QHeap) = (H0 s (s_status (s_steps (s_outCount e473 (0:Int32)) (0:Int32)) (0:Int32))) := by simp only [fs, H0, H0v, H0x51, s_outCount, s_steps, s_status]
 rw [E475]
 obtain rfl := Option.some.inj h
 exact QTri.ret0 rfl rfl
/-- setBranch(IIII)Z -/
def F9 (o : Ob) (x1 : Int32) (x2 : Int32) (x3 : Int32) (x4 : Int32) : Option (Int32 × Ob) :=
 (if (f_arranged o) = (0:Int32) then (F4 o x1).bind fun r483 => (if r483 = (0:Int32) then some ((0:Int32), o) else (if x2 < (0:Int32) then some ((0:Int32), o) else (if (15:Int32) < x2 then some ((0:Int32), o) else (F4 o x3).bind fun r487 => (if r487 = (0:Int32) then some ((0:Int32), o) else (F4 o x4).bind fun r489 => (if r489 = (0:Int32) then some ((0:Int32), o) else (F6 o x1 (2:Int32) x2 x3).bind fun r491 => (aset (f_bT1 r491) x1 x4).bind fun y492 => (F7 (s_bT1 r491 y492)).bind fun r494 => some ((1:Int32), r494)))))) else some ((0:Int32), o))
theorem tF9 (Ad : QAd n0 ad) (W : QW Z a0) (s : List Int32) (o : Ob) (x1 : Int32) (x2 : Int32) (x3 : Int32) (x4 : Int32) {r : Int32 × Ob} (h : F9 o x1 x2 x3 x4 = some r) : QTri l Z n0 ad 9 (0, qentry [.ref 1, .int x1, .int x2, .int x3, .int x4] (pMaxL 9), [], (H0 s o)) (some (Value.int r.1)) (H0 s r.2) := by
 unfold F9 at h
 refine zS Ad W 2 (st' := (4, [vR 1, vI x1, vI x2, vI x3, vI x4], [.int (f_arranged o)], (H0 s o))) rfl ?_
 rcases qite h with ⟨hc482, h⟩ | ⟨hc482, h⟩
 ·refine zF Ad W (t := 15) (f := 7) rfl (XT.i0_ne_f hc482) ?_
  refine zS Ad W 2 (st' := (9, [vR 1, vI x1, vI x2, vI x3, vI x4], [.int x1, .ref 1], (H0 s o))) rfl ?_
  obtain ⟨r483, hr483, h⟩ := bind_eq_some_iff.mp h
  refine QTri.callP W (a := 1) (as := [.int x1]) (rest := []) (w := (some (.int r483))) (σ₁ := (H0 s o)) rfl rfl rfl rfl rfl rfl rfl rfl (tF4 Ad W s o x1 hr483) ?_
  rcases qite h with ⟨hc484, h⟩ | ⟨hc484, h⟩
  ·refine zF Ad W (t := 17) (f := 15) rfl (XT.i0_ne_f hc484) ?_
   refine zS Ad W 1 (st' := (16, [vR 1, vI x1, vI x2, vI x3, vI x4], [.int (0:Int32)], (H0 s o))) rfl ?_
   obtain rfl := Option.some.inj h
   exact QTri.retZ rfl rfl
  ·refine zT Ad W (t := 17) (f := 15) rfl (XT.i0_ne_t hc484) ?_
   refine zS Ad W 1 (st' := (18, [vR 1, vI x1, vI x2, vI x3, vI x4], [.int x2], (H0 s o))) rfl ?_
   rcases qite h with ⟨hc485, h⟩ | ⟨hc485, h⟩
   ·refine zT Ad W (t := 44) (f := 21) rfl (XT.i0_lt_t hc485) ?_
    refine zS Ad W 1 (st' := (45, [vR 1, vI x1, vI x2, vI x3, vI x4], [.int (0:Int32)], (H0 s o))) rfl ?_
    obtain rfl := Option.some.inj h
    exact QTri.retZ rfl rfl
   ·refine zF Ad W (t := 44) (f := 21) rfl (XT.i0_lt_f hc485) ?_
    refine zS Ad W 2 (st' := (24, [vR 1, vI x1, vI x2, vI x3, vI x4], [.int (15:Int32), .int x2], (H0 s o))) rfl ?_
    rcases qite h with ⟨hc486, h⟩ | ⟨hc486, h⟩
    ·refine zT Ad W (t := 44) (f := 27) rfl (XT.ii_gt_t hc486) ?_
     refine zS Ad W 1 (st' := (45, [vR 1, vI x1, vI x2, vI x3, vI x4], [.int (0:Int32)], (H0 s o))) rfl ?_
     obtain rfl := Option.some.inj h
     exact QTri.retZ rfl rfl
    ·refine zF Ad W (t := 44) (f := 27) rfl (XT.ii_gt_f hc486) ?_
     refine zS Ad W 2 (st' := (29, [vR 1, vI x1, vI x2, vI x3, vI x4], [.int x3, .ref 1], (H0 s o))) rfl ?_
     obtain ⟨r487, hr487, h⟩ := bind_eq_some_iff.mp h
     refine QTri.callP W (a := 1) (as := [.int x3]) (rest := []) (w := (some (.int r487))) (σ₁ := (H0 s o)) rfl rfl rfl rfl rfl rfl rfl rfl (tF4 Ad W s o x3 hr487) ?_
     rcases qite h with ⟨hc488, h⟩ | ⟨hc488, h⟩
     ·refine zT Ad W (t := 44) (f := 35) rfl (XT.i0_eq_t hc488) ?_
      refine zS Ad W 1 (st' := (45, [vR 1, vI x1, vI x2, vI x3, vI x4], [.int (0:Int32)], (H0 s o))) rfl ?_
      obtain rfl := Option.some.inj h
      exact QTri.retZ rfl rfl
     ·refine zF Ad W (t := 44) (f := 35) rfl (XT.i0_eq_f hc488) ?_
      refine zS Ad W 2 (st' := (38, [vR 1, vI x1, vI x2, vI x3, vI x4], [.int x4, .ref 1], (H0 s o))) rfl ?_
      obtain ⟨r489, hr489, h⟩ := bind_eq_some_iff.mp h
      refine QTri.callP W (a := 1) (as := [.int x4]) (rest := []) (w := (some (.int r489))) (σ₁ := (H0 s o)) rfl rfl rfl rfl rfl rfl rfl rfl (tF4 Ad W s o x4 hr489) ?_
      rcases qite h with ⟨hc490, h⟩ | ⟨hc490, h⟩
      ·refine zF Ad W (t := 46) (f := 44) rfl (XT.i0_ne_f hc490) ?_
       refine zS Ad W 1 (st' := (45, [vR 1, vI x1, vI x2, vI x3, vI x4], [.int (0:Int32)], (H0 s o))) rfl ?_
       obtain rfl := Option.some.inj h
       exact QTri.retZ rfl rfl
      ·refine zT Ad W (t := 46) (f := 44) rfl (XT.i0_ne_t hc490) ?_
       refine zS Ad W 5 (st' := (51, [vR 1, vI x1, vI x2, vI x3, vI x4], [.int x3, .int x2, .int (2:Int32), .int x1, .ref 1], (H0 s o))) rfl ?_
       obtain ⟨r491, hr491, h⟩ := bind_eq_some_iff.mp h
       refine QTri.callP W (a := 1) (as := [.int x1, .int (2:Int32), .int x2, .int x3]) (rest := []) (w := none) (σ₁ := (H0 s r491)) rfl rfl rfl rfl rfl rfl rfl rfl (tF6 Ad W s o x1 (2:Int32) x2 x3 hr491) ?_
       refine zS Ad W 4 (st' := (61, [vR 1, vI x1, vI x2, vI x3, vI x4], [.int x4, .int x1, .ref 9], (H0 s r491))) rfl ?_
       obtain ⟨y492, hy492, h⟩ := bind_eq_some_iff.mp h
       refine zB Ad W (f := fun y492 => (62, [vR 1, vI x1, vI x2, vI x3, vI x4], [], (H0x11 s r491 y492))) rfl hy492 ?_
       refine zS Ad W 1 (st' := (63, [vR 1, vI x1, vI x2, vI x3, vI x4], [.ref 1], (H0x11 s r491 y492))) rfl ?_
       have E493 : ((H0x11 s r491 y492) : QHeap) = (H0 s (s_bT1 r491 y492)) := by simp only [fs, H0, H0v, H0x11, s_bT1]
       rw [E493]
       obtain ⟨r494, hr494, h⟩ := bind_eq_some_iff.mp h
       refine QTri.callP W (a := 1) (as := []) (rest := []) (w := none) (σ₁ := (H0 s r494)) rfl rfl rfl rfl rfl rfl rfl rfl (tF7 Ad W s (s_bT1 r491 y492) hr494) ?_
       refine zS Ad W 1 (st' := (67, [vR 1, vI x1, vI x2, vI x3, vI x4], [.int (1:Int32)], (H0 s r494))) rfl ?_
       obtain rfl := Option.some.inj h
       exact QTri.retZ rfl rfl
 ·refine zT Ad W (t := 15) (f := 7) rfl (XT.i0_ne_t hc482) ?_
  refine zS Ad W 1 (st' := (16, [vR 1, vI x1, vI x2, vI x3, vI x4], [.int (0:Int32)], (H0 s o))) rfl ?_
  obtain rfl := Option.some.inj h
  exact QTri.retZ rfl rfl
def B0_14 (s : List Int32) (v : Int32 × Ob) : Option (((Int32 × QHeap)) ⊕ (Int32 × Ob)) :=
  (if (v.1 + (4 : Int32)) < (s.length.toInt32) then (if v.1 < (5000 : Int32) then (aget s v.1).bind fun y17 => (F2 v.2).bind fun r18 => (aget s (v.1 + (1 : Int32))).bind fun y19 => (aget s (v.1 + (2 : Int32))).bind fun y20 => (aget s (v.1 + (3 : Int32))).bind fun y21 => (aget s (v.1 + (4 : Int32))).bind fun y22 => (if (2 : Int32) < (y17 &&& (15 : Int32)) then (if (4 : Int32) < (y17 &&& (15 : Int32)) then (if (6 : Int32) < (y17 &&& (15 : Int32)) then (if (y17 &&& (15 : Int32)) = (7 : Int32) then (qrem (y19 &&& (255 : Int32)) (r18 + (1 : Int32))).bind fun y27 => (F11 v.2 y27).bind fun r48 => (J0_255 s r48.2 v.1) else (if (y17 &&& (15 : Int32)) = (13 : Int32) then (F14 v.2 ((y22 &&& (63 : Int32)) - (32 : Int32))).bind fun r460 => (if r460.1 = (0 : Int32) then some (.inl ((0 : Int32), (H0 s r460.2))) else (J0_255 s r460.2 v.1)) else (if (y17 &&& (15 : Int32)) = (14 : Int32) then (F10 v.2).bind fun r476 => (J0_255 s r476 v.1) else (F8 v.2 ((y22 &&& (63 : Int32)) - (32 : Int32))).bind fun r477 => (J0_255 s r477.2 v.1)))) else (qrem (y19 &&& (255 : Int32)) (r18 + (1 : Int32))).bind fun y478 => (qrem (y20 &&& (255 : Int32)) (r18 + (1 : Int32))).bind fun y480 => (qrem (y22 &&& (255 : Int32)) (r18 + (1 : Int32))).bind fun y481 => (F9 v.2 y478 ((y21 &&& (255 : Int32)) % (17 : Int32)) y480 y481).bind fun r495 => (J0_255 s r495.2 v.1)) else (qrem (y19 &&& (255 : Int32)) (r18 + (1 : Int32))).bind fun y496 => (qrem (y20 &&& (255 : Int32)) (r18 + (1 : Int32))).bind fun y497 => (F3 v.2 y496 y497).bind fun r498 => (J0_255 s r498.2 v.1)) else (F5 v.2 ((y19 &&& (255 : Int32)) % (9 : Int32)) ((y20 &&& (255 : Int32)) &&& (3 : Int32)) ((y21 &&& (255 : Int32)) &&& (3 : Int32)) ((y22 &&& (31 : Int32)) - (16 : Int32))).bind fun r500 => (J0_255 s r500.2 v.1)) else some (.inl ((1 : Int32), (H0 s v.2)))) else some (.inl ((1 : Int32), (H0 s v.2))))
theorem tB0_14 (Ad : QAd n0 ad) (W : QW Z a0) (s : List Int32) (v : Int32 × Ob) {r : ((Int32 × QHeap)) ⊕ (Int32 × Ob)} {u : Option Value} {τ : QHeap} (h : B0_14 s v = some r) (hx0 : ∀ x : Int32 × QHeap, r = .inl x → u = (some (Value.int x.1)) ∧ τ = x.2) (hc : ∀ x : Int32 × Ob, r = .inr x → QTri l Z n0 ad 0 (14, [vR 0, vR 1, vI x.1, none, none, none, none, none, none, none], [], (H0 s x.2)) u τ) : QTri l Z n0 ad 0 (14, [vR 0, vR 1, vI v.1, none, none, none, none, none, none, none], [], (H0 s v.2)) u τ := by
 unfold B0_14 at h
 refine zS Ad W 5 (st' := (19, [vR 0, vR 1, vI v.1, none, none, none, none, none, none, none], [.int (s.length.toInt32), .int (v.1 + (4:Int32))], (H0 s v.2))) rfl ?_
 rcases qite h with ⟨hc15, h⟩ | ⟨hc15, h⟩
 ·refine zF Ad W (t := 261) (f := 22) rfl (XT.ii_ge_f hc15) ?_
  refine zS Ad W 2 (st' := (26, [vR 0, vR 1, vI v.1, none, none, none, none, none, none, none], [.int (5000:Int32), .int v.1], (H0 s v.2))) rfl ?_
  rcases qite h with ⟨hc16, h⟩ | ⟨hc16, h⟩
  ·refine zF Ad W (t := 261) (f := 29) rfl (XT.ii_ge_f hc16) ?_
   refine zS Ad W 2 (st' := (31, [vR 0, vR 1, vI v.1, none, none, none, none, none, none, none], [.int v.1, .ref 0], (H0 s v.2))) rfl ?_
   obtain ⟨y17, hy17, h⟩ := bind_eq_some_iff.mp h
   refine zB Ad W (f := fun y17 => (32, [vR 0, vR 1, vI v.1, none, none, none, none, none, none, none], [.int y17], (H0 s v.2))) rfl hy17 ?_
   refine zS Ad W 4 (st' := (37, [vR 0, vR 1, vI v.1, vI (y17 &&& (15:Int32)), none, none, none, none, none, none], [.ref 1], (H0 s v.2))) rfl ?_
   obtain ⟨r18, hr18, h⟩ := bind_eq_some_iff.mp h
   refine QTri.callV W (a := 1) (as := []) (rest := []) (w := (some (.int r18))) (σ₁ := (H0 s v.2)) rfl rfl rfl rfl rfl rfl rfl rfl (tF2 Ad W s v.2 hr18) ?_
   refine zS Ad W 5 (st' := (46, [vR 0, vR 1, vI v.1, vI (y17 &&& (15:Int32)), vI r18, none, none, none, none, none], [.int (v.1 + (1:Int32)), .ref 0], (H0 s v.2))) rfl ?_
   obtain ⟨y19, hy19, h⟩ := bind_eq_some_iff.mp h
   refine zB Ad W (f := fun y19 => (47, [vR 0, vR 1, vI v.1, vI (y17 &&& (15:Int32)), vI r18, none, none, none, none, none], [.int y19], (H0 s v.2))) rfl hy19 ?_
   refine zS Ad W 7 (st' := (57, [vR 0, vR 1, vI v.1, vI (y17 &&& (15:Int32)), vI r18, vI (y19 &&& (255:Int32)), none, none, none, none], [.int (v.1 + (2:Int32)), .ref 0], (H0 s v.2))) rfl ?_
   obtain ⟨y20, hy20, h⟩ := bind_eq_some_iff.mp h
   refine zB Ad W (f := fun y20 => (58, [vR 0, vR 1, vI v.1, vI (y17 &&& (15:Int32)), vI r18, vI (y19 &&& (255:Int32)), none, none, none, none], [.int y20], (H0 s v.2))) rfl hy20 ?_
   refine zS Ad W 7 (st' := (68, [vR 0, vR 1, vI v.1, vI (y17 &&& (15:Int32)), vI r18, vI (y19 &&& (255:Int32)), vI (y20 &&& (255:Int32)), none, none, none], [.int (v.1 + (3:Int32)), .ref 0], (H0 s v.2))) rfl ?_
   obtain ⟨y21, hy21, h⟩ := bind_eq_some_iff.mp h
   refine zB Ad W (f := fun y21 => (69, [vR 0, vR 1, vI v.1, vI (y17 &&& (15:Int32)), vI r18, vI (y19 &&& (255:Int32)), vI (y20 &&& (255:Int32)), none, none, none], [.int y21], (H0 s v.2))) rfl hy21 ?_
   refine zS Ad W 7 (st' := (79, [vR 0, vR 1, vI v.1, vI (y17 &&& (15:Int32)), vI r18, vI (y19 &&& (255:Int32)), vI (y20 &&& (255:Int32)), vI (y21 &&& (255:Int32)), none, none], [.int (v.1 + (4:Int32)), .ref 0], (H0 s v.2))) rfl ?_
   obtain ⟨y22, hy22, h⟩ := bind_eq_some_iff.mp h
   refine zB Ad W (f := fun y22 => (80, [vR 0, vR 1, vI v.1, vI (y17 &&& (15:Int32)), vI r18, vI (y19 &&& (255:Int32)), vI (y20 &&& (255:Int32)), vI (y21 &&& (255:Int32)), none, none], [.int y22], (H0 s v.2))) rfl hy22 ?_
   refine zS Ad W 7 (st' := (92, [vR 0, vR 1, vI v.1, vI (y17 &&& (15:Int32)), vI r18, vI (y19 &&& (255:Int32)), vI (y20 &&& (255:Int32)), vI (y21 &&& (255:Int32)), vI y22, vI ((y22 &&& (63:Int32)) - (32:Int32))], [], (H0 s v.2))) rfl ?_
   refine zS Ad W 2 (st' := (94, [vR 0, vR 1, vI v.1, vI (y17 &&& (15:Int32)), vI r18, vI (y19 &&& (255:Int32)), vI (y20 &&& (255:Int32)), vI (y21 &&& (255:Int32)), vI y22, vI ((y22 &&& (63:Int32)) - (32:Int32))], [.int (2:Int32), .int (y17 &&& (15:Int32))], (H0 s v.2))) rfl ?_
   rcases qite h with ⟨hc23, h⟩ | ⟨hc23, h⟩
   ·refine zT Ad W (t := 126) (f := 97) rfl (XT.ii_gt_t hc23) ?_
    refine zS Ad W 2 (st' := (128, [vR 0, vR 1, vI v.1, vI (y17 &&& (15:Int32)), vI r18, vI (y19 &&& (255:Int32)), vI (y20 &&& (255:Int32)), vI (y21 &&& (255:Int32)), vI y22, vI ((y22 &&& (63:Int32)) - (32:Int32))], [.int (4:Int32), .int (y17 &&& (15:Int32))], (H0 s v.2))) rfl ?_
    rcases qite h with ⟨hc24, h⟩ | ⟨hc24, h⟩
    ·refine zT Ad W (t := 153) (f := 131) rfl (XT.ii_gt_t hc24) ?_
     refine zS Ad W 2 (st' := (156, [vR 0, vR 1, vI v.1, vI (y17 &&& (15:Int32)), vI r18, vI (y19 &&& (255:Int32)), vI (y20 &&& (255:Int32)), vI (y21 &&& (255:Int32)), vI y22, vI ((y22 &&& (63:Int32)) - (32:Int32))], [.int (6:Int32), .int (y17 &&& (15:Int32))], (H0 s v.2))) rfl ?_
     rcases qite h with ⟨hc25, h⟩ | ⟨hc25, h⟩
     ·refine zT Ad W (t := 197) (f := 159) rfl (XT.ii_gt_t hc25) ?_
      refine zS Ad W 2 (st' := (200, [vR 0, vR 1, vI v.1, vI (y17 &&& (15:Int32)), vI r18, vI (y19 &&& (255:Int32)), vI (y20 &&& (255:Int32)), vI (y21 &&& (255:Int32)), vI y22, vI ((y22 &&& (63:Int32)) - (32:Int32))], [.int (7:Int32), .int (y17 &&& (15:Int32))], (H0 s v.2))) rfl ?_
      rcases qite h with ⟨hc26, h⟩ | ⟨hc26, h⟩
      ·refine zF Ad W (t := 218) (f := 203) rfl (XT.ii_ne_f hc26) ?_
       refine zS Ad W 5 (st' := (210, [vR 0, vR 1, vI v.1, vI (y17 &&& (15:Int32)), vI r18, vI (y19 &&& (255:Int32)), vI (y20 &&& (255:Int32)), vI (y21 &&& (255:Int32)), vI y22, vI ((y22 &&& (63:Int32)) - (32:Int32))], [.int (r18 + (1:Int32)), .int (y19 &&& (255:Int32)), .ref 1], (H0 s v.2))) rfl ?_
       obtain ⟨y27, hy27, h⟩ := bind_eq_some_iff.mp h
       refine zB Ad W (f := fun y27 => (211, [vR 0, vR 1, vI v.1, vI (y17 &&& (15:Int32)), vI r18, vI (y19 &&& (255:Int32)), vI (y20 &&& (255:Int32)), vI (y21 &&& (255:Int32)), vI y22, vI ((y22 &&& (63:Int32)) - (32:Int32))], [.int y27, .ref 1], (H0 s v.2))) rfl hy27 ?_
       obtain ⟨r48, hr48, h⟩ := bind_eq_some_iff.mp h
       refine QTri.callV W (a := 1) (as := [.int y27]) (rest := []) (w := (some (.int r48.1))) (σ₁ := (H0 s r48.2)) rfl rfl rfl rfl rfl rfl rfl rfl (tF11 Ad W s v.2 y27 hr48) ?_
       refine zS Ad W 2 (st' := (255, [vR 0, vR 1, vI v.1, vI (y17 &&& (15:Int32)), vI r18, vI (y19 &&& (255:Int32)), vI (y20 &&& (255:Int32)), vI (y21 &&& (255:Int32)), vI y22, vI ((y22 &&& (63:Int32)) - (32:Int32))], [], (H0 s r48.2))) rfl ?_
       exact zM [tt,tt,tt,ff,ff,ff,ff,ff,ff,ff] (tJ0_255 Ad W s r48.2 v.1 h hx0 hc)
      ·refine zT Ad W (t := 218) (f := 203) rfl (XT.ii_ne_t hc26) ?_
       refine zS Ad W 2 (st' := (221, [vR 0, vR 1, vI v.1, vI (y17 &&& (15:Int32)), vI r18, vI (y19 &&& (255:Int32)), vI (y20 &&& (255:Int32)), vI (y21 &&& (255:Int32)), vI y22, vI ((y22 &&& (63:Int32)) - (32:Int32))], [.int (13:Int32), .int (y17 &&& (15:Int32))], (H0 s v.2))) rfl ?_
       rcases qite h with ⟨hc49, h⟩ | ⟨hc49, h⟩
       ·refine zF Ad W (t := 235) (f := 224) rfl (XT.ii_ne_f hc49) ?_
        refine zS Ad W 2 (st' := (227, [vR 0, vR 1, vI v.1, vI (y17 &&& (15:Int32)), vI r18, vI (y19 &&& (255:Int32)), vI (y20 &&& (255:Int32)), vI (y21 &&& (255:Int32)), vI y22, vI ((y22 &&& (63:Int32)) - (32:Int32))], [.int ((y22 &&& (63:Int32)) - (32:Int32)), .ref 1], (H0 s v.2))) rfl ?_
        obtain ⟨r460, hr460, h⟩ := bind_eq_some_iff.mp h
        refine QTri.callS W (as := [.ref 1, .int ((y22 &&& (63:Int32)) - (32:Int32))]) (rest := []) (w := (some (.int r460.1))) (σ₁ := (H0 s r460.2)) rfl rfl rfl rfl rfl rfl rfl (tF14 Ad W s v.2 ((y22 &&& (63:Int32)) - (32:Int32)) hr460) ?_
        rcases qite h with ⟨hc461, h⟩ | ⟨hc461, h⟩
        ·refine zF Ad W (t := 255) (f := 233) rfl (XT.i0_ne_f hc461) ?_
         refine zS Ad W 1 (st' := (234, [vR 0, vR 1, vI v.1, vI (y17 &&& (15:Int32)), vI r18, vI (y19 &&& (255:Int32)), vI (y20 &&& (255:Int32)), vI (y21 &&& (255:Int32)), vI y22, vI ((y22 &&& (63:Int32)) - (32:Int32))], [.int (0:Int32)], (H0 s r460.2))) rfl ?_
         obtain rfl := Option.some.inj h
         obtain ⟨rfl, rfl⟩ := hx0 ((0:Int32), (H0 s r460.2)) rfl
         exact QTri.retZ rfl rfl
        ·refine zT Ad W (t := 255) (f := 233) rfl (XT.i0_ne_t hc461) ?_
         exact zM [tt,tt,tt,ff,ff,ff,ff,ff,ff,ff] (tJ0_255 Ad W s r460.2 v.1 h hx0 hc)
       ·refine zT Ad W (t := 235) (f := 224) rfl (XT.ii_ne_t hc49) ?_
        refine zS Ad W 2 (st' := (238, [vR 0, vR 1, vI v.1, vI (y17 &&& (15:Int32)), vI r18, vI (y19 &&& (255:Int32)), vI (y20 &&& (255:Int32)), vI (y21 &&& (255:Int32)), vI y22, vI ((y22 &&& (63:Int32)) - (32:Int32))], [.int (14:Int32), .int (y17 &&& (15:Int32))], (H0 s v.2))) rfl ?_
        rcases qite h with ⟨hc462, h⟩ | ⟨hc462, h⟩
        ·refine zF Ad W (t := 248) (f := 241) rfl (XT.ii_ne_f hc462) ?_
         refine zS Ad W 1 (st' := (242, [vR 0, vR 1, vI v.1, vI (y17 &&& (15:Int32)), vI r18, vI (y19 &&& (255:Int32)), vI (y20 &&& (255:Int32)), vI (y21 &&& (255:Int32)), vI y22, vI ((y22 &&& (63:Int32)) - (32:Int32))], [.ref 1], (H0 s v.2))) rfl ?_
         obtain ⟨r476, hr476, h⟩ := bind_eq_some_iff.mp h
         refine QTri.callV W (a := 1) (as := []) (rest := []) (w := none) (σ₁ := (H0 s r476)) rfl rfl rfl rfl rfl rfl rfl rfl (tF10 Ad W s v.2 hr476) ?_
         refine zS Ad W 1 (st' := (255, [vR 0, vR 1, vI v.1, vI (y17 &&& (15:Int32)), vI r18, vI (y19 &&& (255:Int32)), vI (y20 &&& (255:Int32)), vI (y21 &&& (255:Int32)), vI y22, vI ((y22 &&& (63:Int32)) - (32:Int32))], [], (H0 s r476))) rfl ?_
         exact zM [tt,tt,tt,ff,ff,ff,ff,ff,ff,ff] (tJ0_255 Ad W s r476 v.1 h hx0 hc)
        ·refine zT Ad W (t := 248) (f := 241) rfl (XT.ii_ne_t hc462) ?_
         refine zS Ad W 2 (st' := (251, [vR 0, vR 1, vI v.1, vI (y17 &&& (15:Int32)), vI r18, vI (y19 &&& (255:Int32)), vI (y20 &&& (255:Int32)), vI (y21 &&& (255:Int32)), vI y22, vI ((y22 &&& (63:Int32)) - (32:Int32))], [.int ((y22 &&& (63:Int32)) - (32:Int32)), .ref 1], (H0 s v.2))) rfl ?_
         obtain ⟨r477, hr477, h⟩ := bind_eq_some_iff.mp h
         refine QTri.callV W (a := 1) (as := [.int ((y22 &&& (63:Int32)) - (32:Int32))]) (rest := []) (w := (some (.int r477.1))) (σ₁ := (H0 s r477.2)) rfl rfl rfl rfl rfl rfl rfl rfl (tF8 Ad W s v.2 ((y22 &&& (63:Int32)) - (32:Int32)) hr477) ?_
         refine zS Ad W 1 (st' := (255, [vR 0, vR 1, vI v.1, vI (y17 &&& (15:Int32)), vI r18, vI (y19 &&& (255:Int32)), vI (y20 &&& (255:Int32)), vI (y21 &&& (255:Int32)), vI y22, vI ((y22 &&& (63:Int32)) - (32:Int32))], [], (H0 s r477.2))) rfl ?_
         exact zM [tt,tt,tt,ff,ff,ff,ff,ff,ff,ff] (tJ0_255 Ad W s r477.2 v.1 h hx0 hc)
     ·refine zF Ad W (t := 197) (f := 159) rfl (XT.ii_gt_f hc25) ?_
      refine zS Ad W 5 (st' := (166, [vR 0, vR 1, vI v.1, vI (y17 &&& (15:Int32)), vI r18, vI (y19 &&& (255:Int32)), vI (y20 &&& (255:Int32)), vI (y21 &&& (255:Int32)), vI y22, vI ((y22 &&& (63:Int32)) - (32:Int32))], [.int (r18 + (1:Int32)), .int (y19 &&& (255:Int32)), .ref 1], (H0 s v.2))) rfl ?_
      obtain ⟨y478, hy478, h⟩ := bind_eq_some_iff.mp h
      refine zB Ad W (f := fun y478 => (167, [vR 0, vR 1, vI v.1, vI (y17 &&& (15:Int32)), vI r18, vI (y19 &&& (255:Int32)), vI (y20 &&& (255:Int32)), vI (y21 &&& (255:Int32)), vI y22, vI ((y22 &&& (63:Int32)) - (32:Int32))], [.int y478, .ref 1], (H0 s v.2))) rfl hy478 ?_
      refine zS Ad W 7 (st' := (178, [vR 0, vR 1, vI v.1, vI (y17 &&& (15:Int32)), vI r18, vI (y19 &&& (255:Int32)), vI (y20 &&& (255:Int32)), vI (y21 &&& (255:Int32)), vI y22, vI ((y22 &&& (63:Int32)) - (32:Int32))], [.int (r18 + (1:Int32)), .int (y20 &&& (255:Int32)), .int ((y21 &&& (255:Int32)) % (17:Int32)), .int y478, .ref 1], (H0 s v.2))) rfl ?_
      obtain ⟨y480, hy480, h⟩ := bind_eq_some_iff.mp h
      refine zB Ad W (f := fun y480 => (179, [vR 0, vR 1, vI v.1, vI (y17 &&& (15:Int32)), vI r18, vI (y19 &&& (255:Int32)), vI (y20 &&& (255:Int32)), vI (y21 &&& (255:Int32)), vI y22, vI ((y22 &&& (63:Int32)) - (32:Int32))], [.int y480, .int ((y21 &&& (255:Int32)) % (17:Int32)), .int y478, .ref 1], (H0 s v.2))) rfl hy480 ?_
      refine zS Ad W 6 (st' := (189, [vR 0, vR 1, vI v.1, vI (y17 &&& (15:Int32)), vI r18, vI (y19 &&& (255:Int32)), vI (y20 &&& (255:Int32)), vI (y21 &&& (255:Int32)), vI y22, vI ((y22 &&& (63:Int32)) - (32:Int32))], [.int (r18 + (1:Int32)), .int (y22 &&& (255:Int32)), .int y480, .int ((y21 &&& (255:Int32)) % (17:Int32)), .int y478, .ref 1], (H0 s v.2))) rfl ?_
      obtain ⟨y481, hy481, h⟩ := bind_eq_some_iff.mp h
      refine zB Ad W (f := fun y481 => (190, [vR 0, vR 1, vI v.1, vI (y17 &&& (15:Int32)), vI r18, vI (y19 &&& (255:Int32)), vI (y20 &&& (255:Int32)), vI (y21 &&& (255:Int32)), vI y22, vI ((y22 &&& (63:Int32)) - (32:Int32))], [.int y481, .int y480, .int ((y21 &&& (255:Int32)) % (17:Int32)), .int y478, .ref 1], (H0 s v.2))) rfl hy481 ?_
      obtain ⟨r495, hr495, h⟩ := bind_eq_some_iff.mp h
      refine QTri.callV W (a := 1) (as := [.int y478, .int ((y21 &&& (255:Int32)) % (17:Int32)), .int y480, .int y481]) (rest := []) (w := (some (.int r495.1))) (σ₁ := (H0 s r495.2)) rfl rfl rfl rfl rfl rfl rfl rfl (tF9 Ad W s v.2 y478 ((y21 &&& (255:Int32)) % (17:Int32)) y480 y481 hr495) ?_
      refine zS Ad W 2 (st' := (255, [vR 0, vR 1, vI v.1, vI (y17 &&& (15:Int32)), vI r18, vI (y19 &&& (255:Int32)), vI (y20 &&& (255:Int32)), vI (y21 &&& (255:Int32)), vI y22, vI ((y22 &&& (63:Int32)) - (32:Int32))], [], (H0 s r495.2))) rfl ?_
      exact zM [tt,tt,tt,ff,ff,ff,ff,ff,ff,ff] (tJ0_255 Ad W s r495.2 v.1 h hx0 hc)
    ·refine zF Ad W (t := 153) (f := 131) rfl (XT.ii_gt_f hc24) ?_
     refine zS Ad W 5 (st' := (138, [vR 0, vR 1, vI v.1, vI (y17 &&& (15:Int32)), vI r18, vI (y19 &&& (255:Int32)), vI (y20 &&& (255:Int32)), vI (y21 &&& (255:Int32)), vI y22, vI ((y22 &&& (63:Int32)) - (32:Int32))], [.int (r18 + (1:Int32)), .int (y19 &&& (255:Int32)), .ref 1], (H0 s v.2))) rfl ?_
     obtain ⟨y496, hy496, h⟩ := bind_eq_some_iff.mp h
     refine zB Ad W (f := fun y496 => (139, [vR 0, vR 1, vI v.1, vI (y17 &&& (15:Int32)), vI r18, vI (y19 &&& (255:Int32)), vI (y20 &&& (255:Int32)), vI (y21 &&& (255:Int32)), vI y22, vI ((y22 &&& (63:Int32)) - (32:Int32))], [.int y496, .ref 1], (H0 s v.2))) rfl hy496 ?_
     refine zS Ad W 4 (st' := (145, [vR 0, vR 1, vI v.1, vI (y17 &&& (15:Int32)), vI r18, vI (y19 &&& (255:Int32)), vI (y20 &&& (255:Int32)), vI (y21 &&& (255:Int32)), vI y22, vI ((y22 &&& (63:Int32)) - (32:Int32))], [.int (r18 + (1:Int32)), .int (y20 &&& (255:Int32)), .int y496, .ref 1], (H0 s v.2))) rfl ?_
     obtain ⟨y497, hy497, h⟩ := bind_eq_some_iff.mp h
     refine zB Ad W (f := fun y497 => (146, [vR 0, vR 1, vI v.1, vI (y17 &&& (15:Int32)), vI r18, vI (y19 &&& (255:Int32)), vI (y20 &&& (255:Int32)), vI (y21 &&& (255:Int32)), vI y22, vI ((y22 &&& (63:Int32)) - (32:Int32))], [.int y497, .int y496, .ref 1], (H0 s v.2))) rfl hy497 ?_
     obtain ⟨r498, hr498, h⟩ := bind_eq_some_iff.mp h
     refine QTri.callV W (a := 1) (as := [.int y496, .int y497]) (rest := []) (w := (some (.int r498.1))) (σ₁ := (H0 s r498.2)) rfl rfl rfl rfl rfl rfl rfl rfl (tF3 Ad W s v.2 y496 y497 hr498) ?_
     refine zS Ad W 2 (st' := (255, [vR 0, vR 1, vI v.1, vI (y17 &&& (15:Int32)), vI r18, vI (y19 &&& (255:Int32)), vI (y20 &&& (255:Int32)), vI (y21 &&& (255:Int32)), vI y22, vI ((y22 &&& (63:Int32)) - (32:Int32))], [], (H0 s r498.2))) rfl ?_
     exact zM [tt,tt,tt,ff,ff,ff,ff,ff,ff,ff] (tJ0_255 Ad W s r498.2 v.1 h hx0 hc)
   ·refine zF Ad W (t := 126) (f := 97) rfl (XT.ii_gt_f hc23) ?_
    refine zS Ad W 12 (st' := (115, [vR 0, vR 1, vI v.1, vI (y17 &&& (15:Int32)), vI r18, vI (y19 &&& (255:Int32)), vI (y20 &&& (255:Int32)), vI (y21 &&& (255:Int32)), vI y22, vI ((y22 &&& (63:Int32)) - (32:Int32))], [.int (31:Int32), .int y22, .int ((y21 &&& (255:Int32)) &&& (3:Int32)), .int ((y20 &&& (255:Int32)) &&& (3:Int32)), .int ((y19 &&& (255:Int32)) % (9:Int32)), .ref 1], (H0 s v.2))) rfl ?_
    refine zS Ad W 3 (st' := (119, [vR 0, vR 1, vI v.1, vI (y17 &&& (15:Int32)), vI r18, vI (y19 &&& (255:Int32)), vI (y20 &&& (255:Int32)), vI (y21 &&& (255:Int32)), vI y22, vI ((y22 &&& (63:Int32)) - (32:Int32))], [.int ((y22 &&& (31:Int32)) - (16:Int32)), .int ((y21 &&& (255:Int32)) &&& (3:Int32)), .int ((y20 &&& (255:Int32)) &&& (3:Int32)), .int ((y19 &&& (255:Int32)) % (9:Int32)), .ref 1], (H0 s v.2))) rfl ?_
    obtain ⟨r500, hr500, h⟩ := bind_eq_some_iff.mp h
    refine QTri.callV W (a := 1) (as := [.int ((y19 &&& (255:Int32)) % (9:Int32)), .int ((y20 &&& (255:Int32)) &&& (3:Int32)), .int ((y21 &&& (255:Int32)) &&& (3:Int32)), .int ((y22 &&& (31:Int32)) - (16:Int32))]) (rest := []) (w := (some (.int r500.1))) (σ₁ := (H0 s r500.2)) rfl rfl rfl rfl rfl rfl rfl rfl (tF5 Ad W s v.2 ((y19 &&& (255:Int32)) % (9:Int32)) ((y20 &&& (255:Int32)) &&& (3:Int32)) ((y21 &&& (255:Int32)) &&& (3:Int32)) ((y22 &&& (31:Int32)) - (16:Int32)) hr500) ?_
    refine zS Ad W 2 (st' := (255, [vR 0, vR 1, vI v.1, vI (y17 &&& (15:Int32)), vI r18, vI (y19 &&& (255:Int32)), vI (y20 &&& (255:Int32)), vI (y21 &&& (255:Int32)), vI y22, vI ((y22 &&& (63:Int32)) - (32:Int32))], [], (H0 s r500.2))) rfl ?_
    exact zM [tt,tt,tt,ff,ff,ff,ff,ff,ff,ff] (tJ0_255 Ad W s r500.2 v.1 h hx0 hc)
  ·refine zT Ad W (t := 261) (f := 29) rfl (XT.ii_ge_t hc16) ?_
   refine zS Ad W 1 (st' := (262, [vR 0, vR 1, vI v.1, none, none, none, none, none, none, none], [.int (1:Int32)], (H0 s v.2))) rfl ?_
   obtain rfl := Option.some.inj h
   obtain ⟨rfl, rfl⟩ := hx0 ((1:Int32), (H0 s v.2)) rfl
   exact QTri.retZ rfl rfl
 ·refine zT Ad W (t := 261) (f := 22) rfl (XT.ii_ge_t hc15) ?_
  refine zS Ad W 1 (st' := (262, [vR 0, vR 1, vI v.1, none, none, none, none, none, none, none], [.int (1:Int32)], (H0 s v.2))) rfl ?_
  obtain rfl := Option.some.inj h
  obtain ⟨rfl, rfl⟩ := hx0 ((1:Int32), (H0 s v.2)) rfl
  exact QTri.retZ rfl rfl
/-- the law -/
def F0 (s : List Int32) : Option (Int32 × QHeap) :=
 (F1 (8:Int32) (64:Int32)).bind fun r14 => (loopN (B0_14 s) qN ((0:Int32), r14)).bind fun e501 => some e501
theorem tF0 (Ad : QAd n0 ad) (W : QW Z a0) (s : List Int32) {r : Int32 × QHeap} (h : F0 s = some r) : QTri l Z n0 ad 0 (0, qentry [.ref 0] (pMaxL 0), [], [.inr (.inl (.int, s))]) (some (Value.int r.1)) r.2 := by
 unfold F0 at h
 refine zS Ad W 1 (st' := (3, [vR 0, none, none, none, none, none, none, none, none, none], [.ref 1], [.inr (.inl (.int, s)), .inl [.null, .null, .null, .null, .null, .null, .null, .null, .null, .null, .null, .null, .null, .null, .null, .null, .null, .null, .null, .null, .null, .null, .null, .null, .null, .null, .null, .null, .int (f_maxBlocks ob0), .int (f_maxSteps ob0), .int (f_n ob0), .int (f_arranged ob0), .int (f_outCount ob0), .int (f_steps ob0), .int (f_status ob0), .int (f_edgeN ob0)]])) rfl ?_
 refine zS Ad W 3 (st' := (8, [vR 0, none, none, none, none, none, none, none, none, none], [.int (64:Int32), .int (8:Int32), .ref 1, .ref 1], [.inr (.inl (.int, s)), .inl [.null, .null, .null, .null, .null, .null, .null, .null, .null, .null, .null, .null, .null, .null, .null, .null, .null, .null, .null, .null, .null, .null, .null, .null, .null, .null, .null, .null, .int (f_maxBlocks ob0), .int (f_maxSteps ob0), .int (f_n ob0), .int (f_arranged ob0), .int (f_outCount ob0), .int (f_steps ob0), .int (f_status ob0), .int (f_edgeN ob0)]])) rfl ?_
 obtain ⟨r14, hr14, h⟩ := bind_eq_some_iff.mp h
 refine QTri.callI W (a := 1) (as := [.int (8:Int32), .int (64:Int32)]) (rest := [.ref 1]) (σ₁ := (H0 s r14)) rfl rfl rfl rfl rfl rfl (tF1 Ad W s (8:Int32) (64:Int32) hr14) ?_
 refine zS Ad W 3 (st' := (14, [vR 0, vR 1, vI (0:Int32), none, none, none, none, none, none, none], [], (H0 s r14))) rfl ?_
 obtain ⟨e501, he501, h⟩ := bind_eq_some_iff.mp h
 refine zM [tt,tt,tt,ff,ff,ff,ff,ff,ff,ff] (loopN_tri (B := B0_14 s) (T := fun lv502 => QTri l Z n0 ad 0 (14, [vR 0, vR 1, vI lv502.1, none, none, none, none, none, none, none], [], (H0 s lv502.2)) (some (Value.int r.1)) r.2) (KE := fun e501a => (some (Value.int r.1)) = (some (Value.int e501a.1)) ∧ r.2 = e501a.2) (fun lv502 r hB hE hC => tB0_14 Ad W s lv502 hB (fun x q => hE _ q) (fun x q => hC x q)) qN ((0:Int32), r14) e501 he501 ?_)
 obtain rfl := Option.some.inj h
 exact ⟨rfl, rfl⟩
end Walks
theorem script_ok {s : State} {w : Value} (hfit : Fit s) (h1 : (Jvm.Cond.arrayOf (Jvm.Term.arg 0) Jvm.ClassFile.FieldType.int).value #[w] s none s [] = some true) (h2 : (Jvm.Cond.le (Jvm.Term.length (Jvm.Term.arg 0)) (Jvm.Term.int 260)).value #[w] s none s [] = some true) :
    ∃ (a : Addr) (c : Cell) (xs : List Int32), w = .ref a ∧ Arr s s.heap a c .int ∧ c.slots = (xs.map Value.int).toArray ∧ xs.length ≤ 260 := by
  obtain ⟨a, ha⟩ := arr_v h1
  obtain ⟨c, A⟩ := Arr.start ha h1
  have hw : w = .ref a := by simpa [Term.eval] using ha
  subst hw
  have hel : ∀ i, i < c.slots.size → ∃ x, c.slots[i]? = some (.int x) := fun i hi => by
    have q := hfit A.1 hi
    obtain ⟨hs, k, hk, comp, hkind⟩ := A.2.1
    have e : s.slotType? c.cls c.vm i = some .int := by
      cases hq : c.vm <;> first | exact absurd hq (hs _) | simp [State.slotType?, hk, hkind]
    have q2 : fits .int c.slots[i] = true := by simpa [State.fitsSlot, e] using q
    obtain ⟨x, hx⟩ := fit_I q2 (Or.inl rfl)
    exact ⟨x, by rw [Array.getElem?_eq_getElem hi, hx]⟩
  refine ⟨a, c, c.slots.toList.map (fun v => match v with | .int x => x | _ => 0), rfl, A, ?_, ?_⟩
  · apply Array.ext'
    rw [List.map_map]
    have : c.slots.toList.map (Value.int ∘ fun v => match v with | .int x => x | _ => 0) = c.slots.toList := by
      conv => rhs; rw [← List.map_id c.slots.toList]
      refine List.map_congr_left fun v hv => ?_
      obtain ⟨i, hi⟩ := List.mem_iff_getElem?.mp hv
      rw [Array.getElem?_toList] at hi
      obtain ⟨x, hx⟩ := hel i (Array.getElem?_eq_some_iff.mp hi).1
      rw [hi] at hx
      cases hx
      rfl
    exact this.symm
  · have hl := A.fin (Vm.Alike.refl _)
    simp only [List.length_map, Array.length_toList]
    simp only [Cond.value, Term.eval] at h2
    simp [hl] at h2
    by_cases hs : c.slots.size < 2147483648
    · rw [if_pos hs] at h2
      have h3 : c.slots.size.toInt32 ≤ 260 := by simpa using h2
      rw [Int32.le_iff_toInt_le] at h3
      have h4 : (c.slots.size.toInt32).toInt = c.slots.size := Int32.toInt_ofNat_of_lt (by omega)
      rw [h4] at h3
      have h5 : (260 : Int32).toInt = 260 := rfl
      rw [h5] at h3
      omega
    · rw [if_neg hs] at h2
      simp at h2
set_option maxHeartbeats 4000000
theorem i_lt {x y : Int32} : x < y ↔ x.toInt < y.toInt := Int32.lt_iff_toInt_lt
theorem i_eq {x y : Int32} : x = y ↔ x.toInt = y.toInt := Int32.toInt_inj.symm
theorem i_lo (x : Int32) : -2147483648 ≤ x.toInt := Int32.le_toInt x
theorem i_hi (x : Int32) : x.toInt < 2147483648 := Int32.toInt_lt x
theorem i_add {x y : Int32} (h1 : -2147483648 ≤ x.toInt + y.toInt) (h2 : x.toInt + y.toInt < 2147483648) : (x + y).toInt = x.toInt + y.toInt := XT.add32 ⟨h1, by omega⟩
theorem i_sub {x y : Int32} (h1 : -2147483648 ≤ x.toInt - y.toInt) (h2 : x.toInt - y.toInt < 2147483648) : (x - y).toInt = x.toInt - y.toInt := XT.sub32 ⟨h1, by omega⟩
theorem i_mul {x y : Int32} (h1 : -2147483648 ≤ x.toInt * y.toInt) (h2 : x.toInt * y.toInt < 2147483648) : (x * y).toInt = x.toInt * y.toInt := XT.mul32 ⟨h1, by omega⟩
theorem i_nat (x : Int32) : x.toNatClampNeg = x.toInt.toNat := rfl
theorem aget_at {α : Type} {xs : List α} {j : Int32} {n : Nat} (hj : j.toInt = n) (hn : n < xs.length) : aget xs j = some xs[n] := by
 have h0 : ¬ j < 0 := by rw [i_lt]; show ¬ j.toInt < 0; omega
 unfold aget
 rw [if_neg h0, i_nat, hj]
 simp [hn]
theorem aget_rep {α : Type} {m : Nat} {a : α} {j : Int32} (h0 : 0 ≤ j.toInt) (h1 : j.toInt < m) : aget (List.replicate m a) j = some a := by
 rw [aget_at (n := j.toInt.toNat) (by omega) (by rw [List.length_replicate]; omega)]
 simp
theorem aset_at {α : Type} {xs : List α} {j : Int32} {n : Nat} {v : α} (hj : j.toInt = n) (hn : n < xs.length) : aset xs j v = some (xs.set n v) := by
 have h0 : ¬ j < 0 := by rw [i_lt]; show ¬ j.toInt < 0; omega
 unfold aset
 have e : j.toNatClampNeg = n := by rw [i_nat, hj]; simp
 rw [if_neg h0, e, if_pos hn]
theorem rep_set {α : Type} (m k : Nat) (a : α) : (List.replicate m a).set k a = List.replicate m a := by
 apply List.ext_getElem (by simp)
 intro i h1 h2
 rw [List.getElem_set]
 split <;> simp
theorem small_cases {x : Int32} (h0 : 0 ≤ x.toInt) {n : Nat} (h1 : x.toInt < n) {P : Int32 → Prop} (h : ∀ m : Nat, m < n → P (Int32.ofInt m)) : P x := by
 have e : Int32.ofInt (x.toInt.toNat : Nat) = x := by
  rw [Int.toNat_of_nonneg h0, Int32.ofInt_toInt]
 rw [← e]
 exact h _ (by omega)
theorem bit_ne {x : Int32} (h0 : 0 ≤ x.toInt) (h1 : x.toInt < 32) : ¬ (((1 : Int32) <<< (x &&& 31)) &&& ((1 : Int32) <<< (x &&& 31))) = 0 :=
 small_cases (P := fun x => ¬ (((1 : Int32) <<< (x &&& 31)) &&& ((1 : Int32) <<< (x &&& 31))) = 0) h0 (n := 32) h1 (by decide)
def okP {α : Type} (m : Option α) (P : α → Prop) : Prop := ∃ a, m = some a ∧ P a
theorem okP.some {α : Type} {a : α} {P : α → Prop} (h : P a) : okP (some a) P := ⟨a, rfl, h⟩
theorem okP.bind {α β : Type} {m : Option α} {f : α → Option β} {P : β → Prop} (h : okP m fun a => okP (f a) P) : okP (m.bind f) P := by
 obtain ⟨a, e, b, e2, h2⟩ := h
 exact ⟨b, by rw [e]; exact e2, h2⟩
theorem okP.ite {α : Type} {c : Prop} [Decidable c] {a b : Option α} {P : α → Prop} (h1 : c → okP a P) (h2 : ¬ c → okP b P) : okP (if c then a else b) P := by
 by_cases h : c
 ·rw [if_pos h]; exact h1 h
 ·rw [if_neg h]; exact h2 h
theorem okP.mono {α : Type} {m : Option α} {P Q : α → Prop} (h : okP m P) (k : ∀ a, P a → Q a) : okP m Q := by
 obtain ⟨a, e, h⟩ := h
 exact ⟨a, e, k a h⟩
theorem okP.of {α : Type} {m : Option α} {a : α} {P : α → Prop} (e : m = Option.some a) (h : P a) : okP m P := ⟨a, e, h⟩
theorem okP.aget {α : Type} {xs : List α} {j : Int32} {P : α → Prop} (h0 : 0 ≤ j.toInt) (h1 : j.toInt < xs.length) (k : ∀ v, xs[j.toInt.toNat]? = Option.some v → P v) : okP (aget xs j) P :=
 ⟨_, aget_at (n := j.toInt.toNat) (by omega) (by omega), k _ (List.getElem?_eq_getElem _)⟩
theorem okP.aset {α : Type} {xs : List α} {j : Int32} {v : α} {P : List α → Prop} (h0 : 0 ≤ j.toInt) (h1 : j.toInt < xs.length) (k : P (xs.set j.toInt.toNat v)) : okP (aset xs j v) P :=
 ⟨_, aset_at (n := j.toInt.toNat) (by omega) (by omega), k⟩
theorem okP.loop {V E : Type} {B : V → Option (E ⊕ V)} {P : E → Prop} {n : Nat} {v : V} (I : V → Prop) (μ : V → Nat) (hv : I v) (hm : μ v < n) (hB : ∀ v, I v → okP (B v) (fun r => Sum.elim P (fun v' => I v' ∧ μ v' < μ v) r)) : okP (loopN B n v) P := by
 refine loopN_inv I P μ ?_ n v hv hm
 intro v hv
 obtain ⟨r, e, h⟩ := hB v hv
 cases r with
 | inl x => exact Or.inl ⟨x, e, h⟩
 | inr x => exact Or.inr ⟨x, e, h⟩
theorem len_i {n : Nat} (h : n ≤ 1000) : (n.toInt32).toInt = n := by
 have e : n.toInt32 = Int32.ofInt n := rfl
 rw [e, Int32.toInt_ofInt_of_le (by show _ ≤ (n : Int); omega) (by show (n : Int) < _; omega)]
theorem and1 (x : Int32) : x &&& 1 = 0 ∨ x &&& 1 = 1 := by
 have e : (x &&& 1).toBitVec = x.toBitVec &&& 1#32 := rfl
 have h := BitVec.and_one_eq_setWidth_ofBool_getLsbD (x := x.toBitVec)
 cases g : x.toBitVec.getLsbD 0
 ·left; apply Int32.toBitVec_inj.1; rw [e, h, g]; rfl
 ·right; apply Int32.toBitVec_inj.1; rw [e, h, g]; rfl
theorem okP.not {α : Type} {m : Option α} {a : α} {P : α → Prop} (h : okP m P) (e : m = Option.some a) : P a := by
 obtain ⟨b, e2, h⟩ := h
 rw [e] at e2
 exact (Option.some.inj e2) ▸ h
theorem and_rng {x m : Int32} (hm : 0 ≤ m.toInt) : 0 ≤ (x &&& m).toInt ∧ (x &&& m).toInt ≤ m.toInt := by
 have e : (x &&& m).toBitVec.toNat = x.toBitVec.toNat &&& m.toBitVec.toNat := BitVec.toNat_and ..
 have l : (x &&& m).toBitVec.toNat ≤ m.toBitVec.toNat := by rw [e]; exact Nat.and_le_right
 have c1 : m.toInt = if 2 * m.toBitVec.toNat < 2 ^ 32 then (m.toBitVec.toNat : Int) else m.toBitVec.toNat - (2 ^ 32 : Nat) := BitVec.toInt_eq_toNat_cond m.toBitVec
 have c2 : (x &&& m).toInt = if 2 * (x &&& m).toBitVec.toNat < 2 ^ 32 then ((x &&& m).toBitVec.toNat : Int) else (x &&& m).toBitVec.toNat - (2 ^ 32 : Nat) := BitVec.toInt_eq_toNat_cond (x &&& m).toBitVec
 have b : m.toBitVec.toNat < 2 ^ 32 := m.toBitVec.isLt
 by_cases h : 2 * m.toBitVec.toNat < 2 ^ 32
 ·rw [if_pos h] at c1
  rw [if_pos (by omega)] at c2
  omega
 ·rw [if_neg h] at c1
  omega
theorem mod_rng {x m : Int32} (hx : 0 ≤ x.toInt) (hm : 0 < m.toInt) : 0 ≤ (x % m).toInt ∧ (x % m).toInt < m.toInt := by
 rw [Int32.toInt_mod, Int.tmod_eq_emod_of_nonneg hx]
 exact ⟨Int.emod_nonneg _ (by omega), Int.emod_lt_of_pos _ hm⟩
def sFit (s : List Int32) (τ : QHeap) : Prop := τ.length - List.length ([Sum.inr (Sum.inl (FieldType.int, s))] : QHeap) ≤ room_1.cells ∧ qhs τ - qhs [Sum.inr (Sum.inl (FieldType.int, s))] ≤ room_1.slots
theorem inc1 {x : Int32} (h : x.toInt < 2147483647) : (x + 1).toInt = x.toInt + 1 := by
 have := i_lo x
 have e1 : (1 : Int32).toInt = 1 := rfl
 rw [i_add (by omega) (by omega), e1]
theorem pig : ∀ (n p : Nat) (f : Nat → Nat), (∀ q, q < p → f q < n) → (∀ q r, q < p → r < p → f q = f r → q = r) → p ≤ n
 | 0, p, f, h, _ => by
  rcases Nat.eq_zero_or_pos p with w | w
  ·omega
  ·exact absurd (h 0 w) (by omega)
 | n + 1, 0, f, _, _ => by omega
 | n + 1, p + 1, f, h, inj => by
  have := pig n p (fun q => if f q = n then f p else f q) (by
   intro q hq
   have a1 := h q (by omega)
   have a2 := h p (by omega)
   have a3 := inj q p (by omega) (by omega)
   show (if f q = n then f p else f q) < n
   split
   ·rename_i w
    have : f p ≠ n := fun z => absurd (a3 (by omega)) (by omega)
    omega
   ·omega) (by
   intro q r hq hr
   have a3 := inj q p (by omega) (by omega)
   have a4 := inj r p (by omega) (by omega)
   have a5 := inj q r (by omega) (by omega)
   show (if f q = n then f p else f q) = (if f r = n then f p else f r) → q = r
   intro e
   split at e <;> split at e
   ·exact a5 (by omega)
   ·have := a4 e.symm; omega
   ·have := a3 e; omega
   ·exact a5 e)
  omega
def CK (n : Nat) (x y z : Nat → Int) (κ : Nat → Nat) : Prop :=
 (∀ b, b < n → x b = -1 ∨ ∃ c, 0 < c ∧ c < n ∧ x b = (c : Nat) ∧ y c = (b : Nat) ∧ κ c = κ b + 1 ∧ z c = z b) ∧
 (∀ b, b < n → (y b = -1 ∧ κ b = 0 ∧ z b = (b : Nat)) ∨ ∃ c, c < n ∧ y b = (c : Nat) ∧ x c = (b : Nat) ∧ b ≠ 0) ∧
 ∀ b, b < n → ∃ h, h < n ∧ z b = (h : Nat) ∧ y h = -1
theorem CK.up {n : Nat} {x y z : Nat → Int} {κ : Nat → Nat} (C : CK n x y z κ) {b : Nat} (hb : b < n) (h : y b ≠ -1) : ∃ c, c < n ∧ y b = (c : Nat) ∧ x c = (b : Nat) ∧ κ b = κ c + 1 ∧ z b = z c := by
 rcases C.2.1 b hb with w | ⟨c, c1, c2, c3, c4⟩
 ·exact absurd w.1 h
 ·refine ⟨c, c1, c2, c3, ?_⟩
  rcases C.1 c c1 with w | ⟨e, _, e1, e2, e3, e4, e5⟩
  ·rw [c3] at w; omega
  ·have : e = b := by rw [c3] at e2; omega
   subst this
   exact ⟨e4, e5⟩
theorem CK.down {n : Nat} {x y z : Nat → Int} {κ : Nat → Nat} (C : CK n x y z κ) : ∀ (j : Nat) {b : Nat}, b < n → ∀ m, m + j = κ b → ∃ a, a < n ∧ z a = z b ∧ κ a = m
 | 0, b, hb, m, hm => ⟨b, hb, rfl, by omega⟩
 | j + 1, b, hb, m, hm => by
  have : y b ≠ -1 := by
   intro w
   rcases C.2.1 b hb with q | ⟨c, c1, c2, _⟩
   ·omega
   ·omega
  obtain ⟨c, c1, c2, c3, c4, c5⟩ := C.up hb this
  obtain ⟨a, a1, a2, a3⟩ := C.down j c1 m (by omega)
  exact ⟨a, a1, by rw [a2, c5], a3⟩
theorem CK.uniq {n : Nat} {x y z : Nat → Int} {κ : Nat → Nat} (C : CK n x y z κ) : ∀ (j : Nat) {a b : Nat}, a < n → b < n → κ a = j → κ b = j → z a = z b → a = b
 | 0, a, b, ha, hb, ka, kb, h => by
  have key : ∀ c, c < n → κ c = 0 → z c = (c : Nat) := by
   intro c hc kc
   by_cases w : y c = -1
   ·rcases C.2.1 c hc with q | ⟨d, d1, d2, _⟩
    ·exact q.2.2
    ·omega
   ·obtain ⟨d, d1, d2, d3, d4, _⟩ := C.up hc w
    omega
  have h1 := key a ha ka
  have h2 := key b hb kb
  omega
 | j + 1, a, b, ha, hb, ka, kb, h => by
  have key : ∀ c, c < n → κ c = j + 1 → y c ≠ -1 := by
   intro c hc kc w
   rcases C.2.1 c hc with q | ⟨d, d1, d2, _⟩
   ·omega
   ·omega
  obtain ⟨c, c1, c2, c3, c4, c5⟩ := C.up ha (key a ha ka)
  obtain ⟨d, d1, d2, d3, d4, d5⟩ := C.up hb (key b hb kb)
  have := C.uniq j c1 d1 (by omega) (by omega) (by rw [← c5, ← d5, h])
  subst this
  omega
theorem CK.lt {n : Nat} {x y z : Nat → Int} {κ : Nat → Nat} (C : CK n x y z κ) {b : Nat} (hb : b < n) : κ b < n := by
 have key : ∀ m, m < κ b + 1 → ∃ a, a < n ∧ κ a = m := by
  intro m hm
  obtain ⟨a, a1, _, a3⟩ := C.down (κ b - m) hb m (by omega)
  exact ⟨a, a1, a3⟩
 have sk : ∃ f : Nat → Nat, ∀ m, m < κ b + 1 → f m < n ∧ κ (f m) = m := by
  refine ⟨fun m => if h : m < κ b + 1 then Classical.choose (key m h) else 0, fun m hm => ?_⟩
  show (if h : m < κ b + 1 then Classical.choose (key m h) else 0) < n ∧ κ (if h : m < κ b + 1 then Classical.choose (key m h) else 0) = m
  rw [dif_pos hm]
  exact Classical.choose_spec (key m hm)
 obtain ⟨f, hf⟩ := sk
 have := pig n (κ b + 1) f (fun q hq => (hf q hq).1) (fun q r hq hr e => by
  rw [← (hf q hq).2, ← (hf r hr).2, e])
 omega
theorem CK.last {n : Nat} {x y z : Nat → Int} {κ : Nat → Nat} (C : CK n x y z κ) {w b : Nat} (hw : w < n) (hx : x w = -1) (hb : b < n) (hz : z b = z w) : κ b ≤ κ w := by
 rcases Nat.lt_or_ge (κ w) (κ b) with q | q
 ·obtain ⟨a, a1, a2, a3⟩ := C.down (κ b - (κ w + 1)) hb (κ w + 1) (by omega)
  have : y a ≠ -1 := by
   intro t
   rcases C.2.1 a a1 with q | ⟨d, d1, d2, _⟩
   ·omega
   ·omega
  obtain ⟨c, c1, c2, c3, c4, c5⟩ := C.up a1 this
  have := C.uniq (κ w) c1 hw (by omega) rfl (by rw [← c5, a2, hz])
  subst this
  omega
 ·exact q
theorem CK.join {n : Nat} {x y z : Nat → Int} {κ : Nat → Nat} (C : CK n x y z κ) {u v : Nat} (hu : u < n) (hv : v < n) (v0 : 0 < v) (xu : x u = -1) (yv : y v = -1) (zu : z u ≠ (v : Nat)) {x' y' z' : Nat → Int} (hx : ∀ b, b < n → x' b = if b = u then (v : Int) else x b) (hy : ∀ b, b < n → y' b = if b = v then (u : Int) else y b) (hz : ∀ b, b < n → z' b = if z b = (v : Nat) then z u else z b) : CK n x' y' z' (fun b => if z b = (v : Nat) then κ b + κ u + 1 else κ b) := by
 have zv : z v = (v : Nat) := by
  rcases C.2.1 v hv with q | ⟨c, c1, c2, _⟩
  ·exact q.2.2
  ·omega
 have kv : κ v = 0 := by
  rcases C.2.1 v hv with q | ⟨c, c1, c2, _⟩
  ·exact q.2.1
  ·omega
 refine ⟨fun b hb => ?_, fun b hb => ?_, fun b hb => ?_⟩
 ·rw [hx b hb]
  by_cases e : b = u
  ·subst e
   rw [if_pos rfl]
   right
   refine ⟨v, v0, hv, rfl, by rw [hy v hv, if_pos rfl], ?_, ?_⟩
   ·show (if z v = (v : Nat) then κ v + κ b + 1 else κ v) = (if z b = (v : Nat) then κ b + κ b + 1 else κ b) + 1
    rw [if_pos zv, if_neg zu]; omega
   ·rw [hz v hv, hz b hb, if_pos zv, if_neg zu]
  ·rw [if_neg e]
   rcases C.1 b hb with w | ⟨c, c0, c1, c2, c3, c4, c5⟩
   ·exact Or.inl w
   ·right
    have cv : c ≠ v := fun q => by subst q; omega
    refine ⟨c, c0, c1, c2, by rw [hy c c1, if_neg cv]; exact c3, ?_, ?_⟩
    ·show (if z c = (v : Nat) then κ c + κ u + 1 else κ c) = (if z b = (v : Nat) then κ b + κ u + 1 else κ b) + 1
     rw [c5, c4]
     split <;> omega
    ·rw [hz c c1, hz b hb, c5]
 ·rw [hy b hb]
  by_cases e : b = v
  ·subst e
   rw [if_pos rfl]
   right
   exact ⟨u, hu, rfl, by rw [hx u hu, if_pos rfl], by omega⟩
  ·rw [if_neg e]
   rcases C.2.1 b hb with ⟨w1, w2, w3⟩ | ⟨c, c1, c2, c3, c4⟩
   ·left
    have : ¬ z b = (v : Nat) := by omega
    refine ⟨w1, ?_, ?_⟩
    ·show (if z b = (v : Nat) then κ b + κ u + 1 else κ b) = 0
     rw [if_neg this]; exact w2
    ·rw [hz b hb, if_neg this]; exact w3
   ·right
    refine ⟨c, c1, c2, ?_, c4⟩
    rw [hx c c1, if_neg (fun q => by subst q; omega)]; exact c3
 ·rw [hz b hb]
  by_cases e : z b = (v : Nat)
  ·rw [if_pos e]
   obtain ⟨h, h1, h2, h3⟩ := C.2.2 u hu
   refine ⟨h, h1, h2, ?_⟩
   rw [hy h h1, if_neg (fun q => by subst q; omega)]; exact h3
  ·rw [if_neg e]
   obtain ⟨h, h1, h2, h3⟩ := C.2.2 b hb
   refine ⟨h, h1, h2, ?_⟩
   rw [hy h h1, if_neg (fun q => by subst q; omega)]; exact h3
theorem CK.head {n : Nat} {x y z : Nat → Int} {κ : Nat → Nat} (C : CK n x y z κ) {h : Nat} (hh : h < n) (yh : y h = -1) : κ h = 0 ∧ z h = (h : Nat) := by
 rcases C.2.1 h hh with q | ⟨c, c1, c2, _⟩
 ·exact q.2
 ·omega
def PL (n : Nat) (P O : Nat → Int) (p : Nat) (D : Nat → Prop) : Prop :=
 (∀ b, b < n → (D b → ∃ q, q < p ∧ P b = (q : Nat) ∧ O q = (b : Nat)) ∧ (¬ D b → P b = -1)) ∧
 ∀ q, q < p → ∃ b, b < n ∧ O q = (b : Nat) ∧ D b ∧ P b = (q : Nat)
theorem PL.le {n : Nat} {P O : Nat → Int} {p : Nat} {D : Nat → Prop} (L : PL n P O p D) : p ≤ n := by
 refine pig n p (fun q => (O q).toNat) (fun q hq => ?_) (fun q r hq hr e => ?_)
 ·obtain ⟨b, b1, b2, _⟩ := L.2 q hq
  show (O q).toNat < n
  omega
 ·obtain ⟨b, b1, b2, _, b3⟩ := L.2 q hq
  obtain ⟨c, c1, c2, _, c3⟩ := L.2 r hr
  have e : (O q).toNat = (O r).toNat := e
  have : b = c := by omega
  subst this
  omega
theorem PL.lt {n : Nat} {P O : Nat → Int} {p : Nat} {D : Nat → Prop} (L : PL n P O p D) {w : Nat} (hw : w < n) (hD : ¬ D w) : p < n := by
 have := pig n (p + 1) (fun q => if q = p then w else (O q).toNat) (fun q hq => by
  show (if q = p then w else (O q).toNat) < n
  split
  ·exact hw
  ·obtain ⟨b, b1, b2, _⟩ := L.2 q (by omega)
   omega) (fun q r hq hr e => by
  have e : (if q = p then w else (O q).toNat) = (if r = p then w else (O r).toNat) := e
  have key : ∀ t, t < p → (O t).toNat ≠ w := by
   intro t ht z
   obtain ⟨b, b1, b2, b3, _⟩ := L.2 t ht
   have : b = w := by omega
   subst this
   exact hD b3
  split at e <;> split at e
  ·omega
  ·exact absurd e.symm (key r (by omega))
  ·exact absurd e (key q (by omega))
  ·obtain ⟨b, b1, b2, _, b3⟩ := L.2 q (by omega)
   obtain ⟨c, c1, c2, _, c3⟩ := L.2 r (by omega)
   have : b = c := by omega
   subst this
   omega)
 omega
theorem PL.all {n : Nat} {P O : Nat → Int} {p : Nat} {D : Nat → Prop} (L : PL n P O p D) (h : ∀ b, b < n → D b) : p = n := by
 have h1 := L.le
 have := pig p n (fun b => (P b).toNat) (fun b hb => by
  obtain ⟨q, q1, q2, _⟩ := (L.1 b hb).1 (h b hb)
  show (P b).toNat < p
  omega) (fun b c hb hc e => by
  have e : (P b).toNat = (P c).toNat := e
  obtain ⟨q, q1, q2, q3⟩ := (L.1 b hb).1 (h b hb)
  obtain ⟨r, r1, r2, r3⟩ := (L.1 c hc).1 (h c hc)
  have : q = r := by omega
  subst this
  omega)
 omega
theorem PL.put {n : Nat} {P O : Nat → Int} {p : Nat} {D : Nat → Prop} (L : PL n P O p D) {w : Nat} (hw : w < n) (hD : ¬ D w) {P' O' : Nat → Int} (hP : ∀ b, b < n → P' b = if b = w then (p : Int) else P b) (hO : ∀ q, q < p + 1 → O' q = if q = p then (w : Int) else O q) {D' : Nat → Prop} (hE : ∀ b, b < n → (D' b ↔ D b ∨ b = w)) : PL n P' O' (p + 1) D' := by
 refine ⟨fun b hb => ?_, fun q hq => ?_⟩
 ·rw [hP b hb, hE b hb]
  by_cases e : b = w
  ·subst e
   rw [if_pos rfl]
   exact ⟨fun _ => ⟨p, by omega, rfl, by rw [hO p (by omega), if_pos rfl]⟩, fun q => absurd (Or.inr rfl) q⟩
  ·rw [if_neg e]
   refine ⟨fun d => ?_, fun d => (L.1 b hb).2 (fun z => d (Or.inl z))⟩
   rcases d with d | d
   ·obtain ⟨q, q1, q2, q3⟩ := (L.1 b hb).1 d
    exact ⟨q, by omega, q2, by rw [hO q (by omega), if_neg (by omega)]; exact q3⟩
   ·exact absurd d e
 ·rw [hO q hq]
  by_cases e : q = p
  ·subst e
   rw [if_pos rfl]
   exact ⟨w, hw, rfl, (hE w hw).2 (Or.inr rfl), by rw [hP w hw, if_pos rfl]⟩
  ·rw [if_neg e]
   obtain ⟨b, b1, b2, b3, b4⟩ := L.2 q (by omega)
   refine ⟨b, b1, b2, (hE b b1).2 (Or.inl b3), ?_⟩
   rw [hP b b1, if_neg (fun z => by subst z; exact hD b3)]; exact b4

def Sh (b : List Int32 × List Int32 × List Int32 × List Int32 × List Int32 × List Int32 × List Int32 × List Int32) (k : List Int32 × List Int32) (r : List Int32 × List Int32 × Int32 × Int32 × Int32) (i : Int32 × Int32 × Int32 × Int32) (o : Ob) : Prop := (f_edgeId o).length = 32 ∧ (f_edgeW o).length = 32 ∧ (f_chNext o).length = 16 ∧ (f_chPrev o).length = 16 ∧ (f_chHead o).length = 16 ∧ (f_heat o).length = 16 ∧ (f_posOf o).length = 16 ∧ (f_order o).length = 16 ∧ (f_cOp o).length = 16 ∧ (f_cD o).length = 16 ∧ (f_cS o).length = 16 ∧ (f_cImm o).length = 16 ∧ (f_cKind o).length = 16 ∧ (f_cTest o).length = 16 ∧ (f_cTaken o).length = 16 ∧ (f_cOther o).length = 16 ∧ (f_bOp o, f_bD o, f_bS o, f_bImm o, f_bTerm o, f_bTest o, f_bT0 o, f_bT1 o) = b ∧ (f_cnt0 o, f_cnt1 o) = k ∧ (f_regs o, f_outs o, f_outCount o, f_steps o, f_status o) = r ∧ (f_maxBlocks o, f_maxSteps o, f_n o, f_arranged o) = i
theorem Sh_edgeId {b : List Int32 × List Int32 × List Int32 × List Int32 × List Int32 × List Int32 × List Int32 × List Int32} {k : List Int32 × List Int32} {r : List Int32 × List Int32 × Int32 × Int32 × Int32} {i : Int32 × Int32 × Int32 × Int32} {o : Ob} {x : List Int32} (h : Sh b k r i o) (hx : x.length = 32) : Sh b k r i (s_edgeId o x) := by
 dsimp only [Sh, f_bOp, f_bD, f_bS, f_bImm, f_bTerm, f_bTest, f_bT0, f_bT1, f_cnt0, f_cnt1, f_regs, f_outs, f_edgeId, f_edgeW, f_chNext, f_chPrev, f_chHead, f_heat, f_posOf, f_order, f_cOp, f_cD, f_cS, f_cImm, f_cKind, f_cTest, f_cTaken, f_cOther, f_maxBlocks, f_maxSteps, f_n, f_arranged, f_outCount, f_steps, f_status, s_edgeId] at h ⊢
 exact ⟨hx, h.2.1, h.2.2.1, h.2.2.2.1, h.2.2.2.2.1, h.2.2.2.2.2.1, h.2.2.2.2.2.2.1, h.2.2.2.2.2.2.2.1, h.2.2.2.2.2.2.2.2.1, h.2.2.2.2.2.2.2.2.2.1, h.2.2.2.2.2.2.2.2.2.2.1, h.2.2.2.2.2.2.2.2.2.2.2.1, h.2.2.2.2.2.2.2.2.2.2.2.2.1, h.2.2.2.2.2.2.2.2.2.2.2.2.2.1, h.2.2.2.2.2.2.2.2.2.2.2.2.2.2.1, h.2.2.2.2.2.2.2.2.2.2.2.2.2.2.2.1, h.2.2.2.2.2.2.2.2.2.2.2.2.2.2.2.2⟩
theorem Sh_l_edgeId {b : List Int32 × List Int32 × List Int32 × List Int32 × List Int32 × List Int32 × List Int32 × List Int32} {k : List Int32 × List Int32} {r : List Int32 × List Int32 × Int32 × Int32 × Int32} {i : Int32 × Int32 × Int32 × Int32} {o : Ob} (h : Sh b k r i o) : (f_edgeId o).length = 32 := h.1
theorem Sh_edgeW {b : List Int32 × List Int32 × List Int32 × List Int32 × List Int32 × List Int32 × List Int32 × List Int32} {k : List Int32 × List Int32} {r : List Int32 × List Int32 × Int32 × Int32 × Int32} {i : Int32 × Int32 × Int32 × Int32} {o : Ob} {x : List Int32} (h : Sh b k r i o) (hx : x.length = 32) : Sh b k r i (s_edgeW o x) := by
 dsimp only [Sh, f_bOp, f_bD, f_bS, f_bImm, f_bTerm, f_bTest, f_bT0, f_bT1, f_cnt0, f_cnt1, f_regs, f_outs, f_edgeId, f_edgeW, f_chNext, f_chPrev, f_chHead, f_heat, f_posOf, f_order, f_cOp, f_cD, f_cS, f_cImm, f_cKind, f_cTest, f_cTaken, f_cOther, f_maxBlocks, f_maxSteps, f_n, f_arranged, f_outCount, f_steps, f_status, s_edgeW] at h ⊢
 exact ⟨h.1, hx, h.2.2.1, h.2.2.2.1, h.2.2.2.2.1, h.2.2.2.2.2.1, h.2.2.2.2.2.2.1, h.2.2.2.2.2.2.2.1, h.2.2.2.2.2.2.2.2.1, h.2.2.2.2.2.2.2.2.2.1, h.2.2.2.2.2.2.2.2.2.2.1, h.2.2.2.2.2.2.2.2.2.2.2.1, h.2.2.2.2.2.2.2.2.2.2.2.2.1, h.2.2.2.2.2.2.2.2.2.2.2.2.2.1, h.2.2.2.2.2.2.2.2.2.2.2.2.2.2.1, h.2.2.2.2.2.2.2.2.2.2.2.2.2.2.2.1, h.2.2.2.2.2.2.2.2.2.2.2.2.2.2.2.2⟩
theorem Sh_l_edgeW {b : List Int32 × List Int32 × List Int32 × List Int32 × List Int32 × List Int32 × List Int32 × List Int32} {k : List Int32 × List Int32} {r : List Int32 × List Int32 × Int32 × Int32 × Int32} {i : Int32 × Int32 × Int32 × Int32} {o : Ob} (h : Sh b k r i o) : (f_edgeW o).length = 32 := h.2.1
theorem Sh_chNext {b : List Int32 × List Int32 × List Int32 × List Int32 × List Int32 × List Int32 × List Int32 × List Int32} {k : List Int32 × List Int32} {r : List Int32 × List Int32 × Int32 × Int32 × Int32} {i : Int32 × Int32 × Int32 × Int32} {o : Ob} {x : List Int32} (h : Sh b k r i o) (hx : x.length = 16) : Sh b k r i (s_chNext o x) := by
 dsimp only [Sh, f_bOp, f_bD, f_bS, f_bImm, f_bTerm, f_bTest, f_bT0, f_bT1, f_cnt0, f_cnt1, f_regs, f_outs, f_edgeId, f_edgeW, f_chNext, f_chPrev, f_chHead, f_heat, f_posOf, f_order, f_cOp, f_cD, f_cS, f_cImm, f_cKind, f_cTest, f_cTaken, f_cOther, f_maxBlocks, f_maxSteps, f_n, f_arranged, f_outCount, f_steps, f_status, s_chNext] at h ⊢
 exact ⟨h.1, h.2.1, hx, h.2.2.2.1, h.2.2.2.2.1, h.2.2.2.2.2.1, h.2.2.2.2.2.2.1, h.2.2.2.2.2.2.2.1, h.2.2.2.2.2.2.2.2.1, h.2.2.2.2.2.2.2.2.2.1, h.2.2.2.2.2.2.2.2.2.2.1, h.2.2.2.2.2.2.2.2.2.2.2.1, h.2.2.2.2.2.2.2.2.2.2.2.2.1, h.2.2.2.2.2.2.2.2.2.2.2.2.2.1, h.2.2.2.2.2.2.2.2.2.2.2.2.2.2.1, h.2.2.2.2.2.2.2.2.2.2.2.2.2.2.2.1, h.2.2.2.2.2.2.2.2.2.2.2.2.2.2.2.2⟩
theorem Sh_l_chNext {b : List Int32 × List Int32 × List Int32 × List Int32 × List Int32 × List Int32 × List Int32 × List Int32} {k : List Int32 × List Int32} {r : List Int32 × List Int32 × Int32 × Int32 × Int32} {i : Int32 × Int32 × Int32 × Int32} {o : Ob} (h : Sh b k r i o) : (f_chNext o).length = 16 := h.2.2.1
theorem Sh_chPrev {b : List Int32 × List Int32 × List Int32 × List Int32 × List Int32 × List Int32 × List Int32 × List Int32} {k : List Int32 × List Int32} {r : List Int32 × List Int32 × Int32 × Int32 × Int32} {i : Int32 × Int32 × Int32 × Int32} {o : Ob} {x : List Int32} (h : Sh b k r i o) (hx : x.length = 16) : Sh b k r i (s_chPrev o x) := by
 dsimp only [Sh, f_bOp, f_bD, f_bS, f_bImm, f_bTerm, f_bTest, f_bT0, f_bT1, f_cnt0, f_cnt1, f_regs, f_outs, f_edgeId, f_edgeW, f_chNext, f_chPrev, f_chHead, f_heat, f_posOf, f_order, f_cOp, f_cD, f_cS, f_cImm, f_cKind, f_cTest, f_cTaken, f_cOther, f_maxBlocks, f_maxSteps, f_n, f_arranged, f_outCount, f_steps, f_status, s_chPrev] at h ⊢
 exact ⟨h.1, h.2.1, h.2.2.1, hx, h.2.2.2.2.1, h.2.2.2.2.2.1, h.2.2.2.2.2.2.1, h.2.2.2.2.2.2.2.1, h.2.2.2.2.2.2.2.2.1, h.2.2.2.2.2.2.2.2.2.1, h.2.2.2.2.2.2.2.2.2.2.1, h.2.2.2.2.2.2.2.2.2.2.2.1, h.2.2.2.2.2.2.2.2.2.2.2.2.1, h.2.2.2.2.2.2.2.2.2.2.2.2.2.1, h.2.2.2.2.2.2.2.2.2.2.2.2.2.2.1, h.2.2.2.2.2.2.2.2.2.2.2.2.2.2.2.1, h.2.2.2.2.2.2.2.2.2.2.2.2.2.2.2.2⟩
theorem Sh_l_chPrev {b : List Int32 × List Int32 × List Int32 × List Int32 × List Int32 × List Int32 × List Int32 × List Int32} {k : List Int32 × List Int32} {r : List Int32 × List Int32 × Int32 × Int32 × Int32} {i : Int32 × Int32 × Int32 × Int32} {o : Ob} (h : Sh b k r i o) : (f_chPrev o).length = 16 := h.2.2.2.1
theorem Sh_chHead {b : List Int32 × List Int32 × List Int32 × List Int32 × List Int32 × List Int32 × List Int32 × List Int32} {k : List Int32 × List Int32} {r : List Int32 × List Int32 × Int32 × Int32 × Int32} {i : Int32 × Int32 × Int32 × Int32} {o : Ob} {x : List Int32} (h : Sh b k r i o) (hx : x.length = 16) : Sh b k r i (s_chHead o x) := by
 dsimp only [Sh, f_bOp, f_bD, f_bS, f_bImm, f_bTerm, f_bTest, f_bT0, f_bT1, f_cnt0, f_cnt1, f_regs, f_outs, f_edgeId, f_edgeW, f_chNext, f_chPrev, f_chHead, f_heat, f_posOf, f_order, f_cOp, f_cD, f_cS, f_cImm, f_cKind, f_cTest, f_cTaken, f_cOther, f_maxBlocks, f_maxSteps, f_n, f_arranged, f_outCount, f_steps, f_status, s_chHead] at h ⊢
 exact ⟨h.1, h.2.1, h.2.2.1, h.2.2.2.1, hx, h.2.2.2.2.2.1, h.2.2.2.2.2.2.1, h.2.2.2.2.2.2.2.1, h.2.2.2.2.2.2.2.2.1, h.2.2.2.2.2.2.2.2.2.1, h.2.2.2.2.2.2.2.2.2.2.1, h.2.2.2.2.2.2.2.2.2.2.2.1, h.2.2.2.2.2.2.2.2.2.2.2.2.1, h.2.2.2.2.2.2.2.2.2.2.2.2.2.1, h.2.2.2.2.2.2.2.2.2.2.2.2.2.2.1, h.2.2.2.2.2.2.2.2.2.2.2.2.2.2.2.1, h.2.2.2.2.2.2.2.2.2.2.2.2.2.2.2.2⟩
theorem Sh_l_chHead {b : List Int32 × List Int32 × List Int32 × List Int32 × List Int32 × List Int32 × List Int32 × List Int32} {k : List Int32 × List Int32} {r : List Int32 × List Int32 × Int32 × Int32 × Int32} {i : Int32 × Int32 × Int32 × Int32} {o : Ob} (h : Sh b k r i o) : (f_chHead o).length = 16 := h.2.2.2.2.1
theorem Sh_heat {b : List Int32 × List Int32 × List Int32 × List Int32 × List Int32 × List Int32 × List Int32 × List Int32} {k : List Int32 × List Int32} {r : List Int32 × List Int32 × Int32 × Int32 × Int32} {i : Int32 × Int32 × Int32 × Int32} {o : Ob} {x : List Int32} (h : Sh b k r i o) (hx : x.length = 16) : Sh b k r i (s_heat o x) := by
 dsimp only [Sh, f_bOp, f_bD, f_bS, f_bImm, f_bTerm, f_bTest, f_bT0, f_bT1, f_cnt0, f_cnt1, f_regs, f_outs, f_edgeId, f_edgeW, f_chNext, f_chPrev, f_chHead, f_heat, f_posOf, f_order, f_cOp, f_cD, f_cS, f_cImm, f_cKind, f_cTest, f_cTaken, f_cOther, f_maxBlocks, f_maxSteps, f_n, f_arranged, f_outCount, f_steps, f_status, s_heat] at h ⊢
 exact ⟨h.1, h.2.1, h.2.2.1, h.2.2.2.1, h.2.2.2.2.1, hx, h.2.2.2.2.2.2.1, h.2.2.2.2.2.2.2.1, h.2.2.2.2.2.2.2.2.1, h.2.2.2.2.2.2.2.2.2.1, h.2.2.2.2.2.2.2.2.2.2.1, h.2.2.2.2.2.2.2.2.2.2.2.1, h.2.2.2.2.2.2.2.2.2.2.2.2.1, h.2.2.2.2.2.2.2.2.2.2.2.2.2.1, h.2.2.2.2.2.2.2.2.2.2.2.2.2.2.1, h.2.2.2.2.2.2.2.2.2.2.2.2.2.2.2.1, h.2.2.2.2.2.2.2.2.2.2.2.2.2.2.2.2⟩
theorem Sh_l_heat {b : List Int32 × List Int32 × List Int32 × List Int32 × List Int32 × List Int32 × List Int32 × List Int32} {k : List Int32 × List Int32} {r : List Int32 × List Int32 × Int32 × Int32 × Int32} {i : Int32 × Int32 × Int32 × Int32} {o : Ob} (h : Sh b k r i o) : (f_heat o).length = 16 := h.2.2.2.2.2.1
theorem Sh_posOf {b : List Int32 × List Int32 × List Int32 × List Int32 × List Int32 × List Int32 × List Int32 × List Int32} {k : List Int32 × List Int32} {r : List Int32 × List Int32 × Int32 × Int32 × Int32} {i : Int32 × Int32 × Int32 × Int32} {o : Ob} {x : List Int32} (h : Sh b k r i o) (hx : x.length = 16) : Sh b k r i (s_posOf o x) := by
 dsimp only [Sh, f_bOp, f_bD, f_bS, f_bImm, f_bTerm, f_bTest, f_bT0, f_bT1, f_cnt0, f_cnt1, f_regs, f_outs, f_edgeId, f_edgeW, f_chNext, f_chPrev, f_chHead, f_heat, f_posOf, f_order, f_cOp, f_cD, f_cS, f_cImm, f_cKind, f_cTest, f_cTaken, f_cOther, f_maxBlocks, f_maxSteps, f_n, f_arranged, f_outCount, f_steps, f_status, s_posOf] at h ⊢
 exact ⟨h.1, h.2.1, h.2.2.1, h.2.2.2.1, h.2.2.2.2.1, h.2.2.2.2.2.1, hx, h.2.2.2.2.2.2.2.1, h.2.2.2.2.2.2.2.2.1, h.2.2.2.2.2.2.2.2.2.1, h.2.2.2.2.2.2.2.2.2.2.1, h.2.2.2.2.2.2.2.2.2.2.2.1, h.2.2.2.2.2.2.2.2.2.2.2.2.1, h.2.2.2.2.2.2.2.2.2.2.2.2.2.1, h.2.2.2.2.2.2.2.2.2.2.2.2.2.2.1, h.2.2.2.2.2.2.2.2.2.2.2.2.2.2.2.1, h.2.2.2.2.2.2.2.2.2.2.2.2.2.2.2.2⟩
theorem Sh_l_posOf {b : List Int32 × List Int32 × List Int32 × List Int32 × List Int32 × List Int32 × List Int32 × List Int32} {k : List Int32 × List Int32} {r : List Int32 × List Int32 × Int32 × Int32 × Int32} {i : Int32 × Int32 × Int32 × Int32} {o : Ob} (h : Sh b k r i o) : (f_posOf o).length = 16 := h.2.2.2.2.2.2.1
theorem Sh_order {b : List Int32 × List Int32 × List Int32 × List Int32 × List Int32 × List Int32 × List Int32 × List Int32} {k : List Int32 × List Int32} {r : List Int32 × List Int32 × Int32 × Int32 × Int32} {i : Int32 × Int32 × Int32 × Int32} {o : Ob} {x : List Int32} (h : Sh b k r i o) (hx : x.length = 16) : Sh b k r i (s_order o x) := by
 dsimp only [Sh, f_bOp, f_bD, f_bS, f_bImm, f_bTerm, f_bTest, f_bT0, f_bT1, f_cnt0, f_cnt1, f_regs, f_outs, f_edgeId, f_edgeW, f_chNext, f_chPrev, f_chHead, f_heat, f_posOf, f_order, f_cOp, f_cD, f_cS, f_cImm, f_cKind, f_cTest, f_cTaken, f_cOther, f_maxBlocks, f_maxSteps, f_n, f_arranged, f_outCount, f_steps, f_status, s_order] at h ⊢
 exact ⟨h.1, h.2.1, h.2.2.1, h.2.2.2.1, h.2.2.2.2.1, h.2.2.2.2.2.1, h.2.2.2.2.2.2.1, hx, h.2.2.2.2.2.2.2.2.1, h.2.2.2.2.2.2.2.2.2.1, h.2.2.2.2.2.2.2.2.2.2.1, h.2.2.2.2.2.2.2.2.2.2.2.1, h.2.2.2.2.2.2.2.2.2.2.2.2.1, h.2.2.2.2.2.2.2.2.2.2.2.2.2.1, h.2.2.2.2.2.2.2.2.2.2.2.2.2.2.1, h.2.2.2.2.2.2.2.2.2.2.2.2.2.2.2.1, h.2.2.2.2.2.2.2.2.2.2.2.2.2.2.2.2⟩
theorem Sh_l_order {b : List Int32 × List Int32 × List Int32 × List Int32 × List Int32 × List Int32 × List Int32 × List Int32} {k : List Int32 × List Int32} {r : List Int32 × List Int32 × Int32 × Int32 × Int32} {i : Int32 × Int32 × Int32 × Int32} {o : Ob} (h : Sh b k r i o) : (f_order o).length = 16 := h.2.2.2.2.2.2.2.1
theorem Sh_cOp {b : List Int32 × List Int32 × List Int32 × List Int32 × List Int32 × List Int32 × List Int32 × List Int32} {k : List Int32 × List Int32} {r : List Int32 × List Int32 × Int32 × Int32 × Int32} {i : Int32 × Int32 × Int32 × Int32} {o : Ob} {x : List Int32} (h : Sh b k r i o) (hx : x.length = 16) : Sh b k r i (s_cOp o x) := by
 dsimp only [Sh, f_bOp, f_bD, f_bS, f_bImm, f_bTerm, f_bTest, f_bT0, f_bT1, f_cnt0, f_cnt1, f_regs, f_outs, f_edgeId, f_edgeW, f_chNext, f_chPrev, f_chHead, f_heat, f_posOf, f_order, f_cOp, f_cD, f_cS, f_cImm, f_cKind, f_cTest, f_cTaken, f_cOther, f_maxBlocks, f_maxSteps, f_n, f_arranged, f_outCount, f_steps, f_status, s_cOp] at h ⊢
 exact ⟨h.1, h.2.1, h.2.2.1, h.2.2.2.1, h.2.2.2.2.1, h.2.2.2.2.2.1, h.2.2.2.2.2.2.1, h.2.2.2.2.2.2.2.1, hx, h.2.2.2.2.2.2.2.2.2.1, h.2.2.2.2.2.2.2.2.2.2.1, h.2.2.2.2.2.2.2.2.2.2.2.1, h.2.2.2.2.2.2.2.2.2.2.2.2.1, h.2.2.2.2.2.2.2.2.2.2.2.2.2.1, h.2.2.2.2.2.2.2.2.2.2.2.2.2.2.1, h.2.2.2.2.2.2.2.2.2.2.2.2.2.2.2.1, h.2.2.2.2.2.2.2.2.2.2.2.2.2.2.2.2⟩
theorem Sh_l_cOp {b : List Int32 × List Int32 × List Int32 × List Int32 × List Int32 × List Int32 × List Int32 × List Int32} {k : List Int32 × List Int32} {r : List Int32 × List Int32 × Int32 × Int32 × Int32} {i : Int32 × Int32 × Int32 × Int32} {o : Ob} (h : Sh b k r i o) : (f_cOp o).length = 16 := h.2.2.2.2.2.2.2.2.1
theorem Sh_cD {b : List Int32 × List Int32 × List Int32 × List Int32 × List Int32 × List Int32 × List Int32 × List Int32} {k : List Int32 × List Int32} {r : List Int32 × List Int32 × Int32 × Int32 × Int32} {i : Int32 × Int32 × Int32 × Int32} {o : Ob} {x : List Int32} (h : Sh b k r i o) (hx : x.length = 16) : Sh b k r i (s_cD o x) := by
 dsimp only [Sh, f_bOp, f_bD, f_bS, f_bImm, f_bTerm, f_bTest, f_bT0, f_bT1, f_cnt0, f_cnt1, f_regs, f_outs, f_edgeId, f_edgeW, f_chNext, f_chPrev, f_chHead, f_heat, f_posOf, f_order, f_cOp, f_cD, f_cS, f_cImm, f_cKind, f_cTest, f_cTaken, f_cOther, f_maxBlocks, f_maxSteps, f_n, f_arranged, f_outCount, f_steps, f_status, s_cD] at h ⊢
 exact ⟨h.1, h.2.1, h.2.2.1, h.2.2.2.1, h.2.2.2.2.1, h.2.2.2.2.2.1, h.2.2.2.2.2.2.1, h.2.2.2.2.2.2.2.1, h.2.2.2.2.2.2.2.2.1, hx, h.2.2.2.2.2.2.2.2.2.2.1, h.2.2.2.2.2.2.2.2.2.2.2.1, h.2.2.2.2.2.2.2.2.2.2.2.2.1, h.2.2.2.2.2.2.2.2.2.2.2.2.2.1, h.2.2.2.2.2.2.2.2.2.2.2.2.2.2.1, h.2.2.2.2.2.2.2.2.2.2.2.2.2.2.2.1, h.2.2.2.2.2.2.2.2.2.2.2.2.2.2.2.2⟩
theorem Sh_l_cD {b : List Int32 × List Int32 × List Int32 × List Int32 × List Int32 × List Int32 × List Int32 × List Int32} {k : List Int32 × List Int32} {r : List Int32 × List Int32 × Int32 × Int32 × Int32} {i : Int32 × Int32 × Int32 × Int32} {o : Ob} (h : Sh b k r i o) : (f_cD o).length = 16 := h.2.2.2.2.2.2.2.2.2.1
theorem Sh_cS {b : List Int32 × List Int32 × List Int32 × List Int32 × List Int32 × List Int32 × List Int32 × List Int32} {k : List Int32 × List Int32} {r : List Int32 × List Int32 × Int32 × Int32 × Int32} {i : Int32 × Int32 × Int32 × Int32} {o : Ob} {x : List Int32} (h : Sh b k r i o) (hx : x.length = 16) : Sh b k r i (s_cS o x) := by
 dsimp only [Sh, f_bOp, f_bD, f_bS, f_bImm, f_bTerm, f_bTest, f_bT0, f_bT1, f_cnt0, f_cnt1, f_regs, f_outs, f_edgeId, f_edgeW, f_chNext, f_chPrev, f_chHead, f_heat, f_posOf, f_order, f_cOp, f_cD, f_cS, f_cImm, f_cKind, f_cTest, f_cTaken, f_cOther, f_maxBlocks, f_maxSteps, f_n, f_arranged, f_outCount, f_steps, f_status, s_cS] at h ⊢
 exact ⟨h.1, h.2.1, h.2.2.1, h.2.2.2.1, h.2.2.2.2.1, h.2.2.2.2.2.1, h.2.2.2.2.2.2.1, h.2.2.2.2.2.2.2.1, h.2.2.2.2.2.2.2.2.1, h.2.2.2.2.2.2.2.2.2.1, hx, h.2.2.2.2.2.2.2.2.2.2.2.1, h.2.2.2.2.2.2.2.2.2.2.2.2.1, h.2.2.2.2.2.2.2.2.2.2.2.2.2.1, h.2.2.2.2.2.2.2.2.2.2.2.2.2.2.1, h.2.2.2.2.2.2.2.2.2.2.2.2.2.2.2.1, h.2.2.2.2.2.2.2.2.2.2.2.2.2.2.2.2⟩
theorem Sh_l_cS {b : List Int32 × List Int32 × List Int32 × List Int32 × List Int32 × List Int32 × List Int32 × List Int32} {k : List Int32 × List Int32} {r : List Int32 × List Int32 × Int32 × Int32 × Int32} {i : Int32 × Int32 × Int32 × Int32} {o : Ob} (h : Sh b k r i o) : (f_cS o).length = 16 := h.2.2.2.2.2.2.2.2.2.2.1
theorem Sh_cImm {b : List Int32 × List Int32 × List Int32 × List Int32 × List Int32 × List Int32 × List Int32 × List Int32} {k : List Int32 × List Int32} {r : List Int32 × List Int32 × Int32 × Int32 × Int32} {i : Int32 × Int32 × Int32 × Int32} {o : Ob} {x : List Int32} (h : Sh b k r i o) (hx : x.length = 16) : Sh b k r i (s_cImm o x) := by
 dsimp only [Sh, f_bOp, f_bD, f_bS, f_bImm, f_bTerm, f_bTest, f_bT0, f_bT1, f_cnt0, f_cnt1, f_regs, f_outs, f_edgeId, f_edgeW, f_chNext, f_chPrev, f_chHead, f_heat, f_posOf, f_order, f_cOp, f_cD, f_cS, f_cImm, f_cKind, f_cTest, f_cTaken, f_cOther, f_maxBlocks, f_maxSteps, f_n, f_arranged, f_outCount, f_steps, f_status, s_cImm] at h ⊢
 exact ⟨h.1, h.2.1, h.2.2.1, h.2.2.2.1, h.2.2.2.2.1, h.2.2.2.2.2.1, h.2.2.2.2.2.2.1, h.2.2.2.2.2.2.2.1, h.2.2.2.2.2.2.2.2.1, h.2.2.2.2.2.2.2.2.2.1, h.2.2.2.2.2.2.2.2.2.2.1, hx, h.2.2.2.2.2.2.2.2.2.2.2.2.1, h.2.2.2.2.2.2.2.2.2.2.2.2.2.1, h.2.2.2.2.2.2.2.2.2.2.2.2.2.2.1, h.2.2.2.2.2.2.2.2.2.2.2.2.2.2.2.1, h.2.2.2.2.2.2.2.2.2.2.2.2.2.2.2.2⟩
theorem Sh_l_cImm {b : List Int32 × List Int32 × List Int32 × List Int32 × List Int32 × List Int32 × List Int32 × List Int32} {k : List Int32 × List Int32} {r : List Int32 × List Int32 × Int32 × Int32 × Int32} {i : Int32 × Int32 × Int32 × Int32} {o : Ob} (h : Sh b k r i o) : (f_cImm o).length = 16 := h.2.2.2.2.2.2.2.2.2.2.2.1
theorem Sh_cKind {b : List Int32 × List Int32 × List Int32 × List Int32 × List Int32 × List Int32 × List Int32 × List Int32} {k : List Int32 × List Int32} {r : List Int32 × List Int32 × Int32 × Int32 × Int32} {i : Int32 × Int32 × Int32 × Int32} {o : Ob} {x : List Int32} (h : Sh b k r i o) (hx : x.length = 16) : Sh b k r i (s_cKind o x) := by
 dsimp only [Sh, f_bOp, f_bD, f_bS, f_bImm, f_bTerm, f_bTest, f_bT0, f_bT1, f_cnt0, f_cnt1, f_regs, f_outs, f_edgeId, f_edgeW, f_chNext, f_chPrev, f_chHead, f_heat, f_posOf, f_order, f_cOp, f_cD, f_cS, f_cImm, f_cKind, f_cTest, f_cTaken, f_cOther, f_maxBlocks, f_maxSteps, f_n, f_arranged, f_outCount, f_steps, f_status, s_cKind] at h ⊢
 exact ⟨h.1, h.2.1, h.2.2.1, h.2.2.2.1, h.2.2.2.2.1, h.2.2.2.2.2.1, h.2.2.2.2.2.2.1, h.2.2.2.2.2.2.2.1, h.2.2.2.2.2.2.2.2.1, h.2.2.2.2.2.2.2.2.2.1, h.2.2.2.2.2.2.2.2.2.2.1, h.2.2.2.2.2.2.2.2.2.2.2.1, hx, h.2.2.2.2.2.2.2.2.2.2.2.2.2.1, h.2.2.2.2.2.2.2.2.2.2.2.2.2.2.1, h.2.2.2.2.2.2.2.2.2.2.2.2.2.2.2.1, h.2.2.2.2.2.2.2.2.2.2.2.2.2.2.2.2⟩
theorem Sh_l_cKind {b : List Int32 × List Int32 × List Int32 × List Int32 × List Int32 × List Int32 × List Int32 × List Int32} {k : List Int32 × List Int32} {r : List Int32 × List Int32 × Int32 × Int32 × Int32} {i : Int32 × Int32 × Int32 × Int32} {o : Ob} (h : Sh b k r i o) : (f_cKind o).length = 16 := h.2.2.2.2.2.2.2.2.2.2.2.2.1
theorem Sh_cTest {b : List Int32 × List Int32 × List Int32 × List Int32 × List Int32 × List Int32 × List Int32 × List Int32} {k : List Int32 × List Int32} {r : List Int32 × List Int32 × Int32 × Int32 × Int32} {i : Int32 × Int32 × Int32 × Int32} {o : Ob} {x : List Int32} (h : Sh b k r i o) (hx : x.length = 16) : Sh b k r i (s_cTest o x) := by
 dsimp only [Sh, f_bOp, f_bD, f_bS, f_bImm, f_bTerm, f_bTest, f_bT0, f_bT1, f_cnt0, f_cnt1, f_regs, f_outs, f_edgeId, f_edgeW, f_chNext, f_chPrev, f_chHead, f_heat, f_posOf, f_order, f_cOp, f_cD, f_cS, f_cImm, f_cKind, f_cTest, f_cTaken, f_cOther, f_maxBlocks, f_maxSteps, f_n, f_arranged, f_outCount, f_steps, f_status, s_cTest] at h ⊢
 exact ⟨h.1, h.2.1, h.2.2.1, h.2.2.2.1, h.2.2.2.2.1, h.2.2.2.2.2.1, h.2.2.2.2.2.2.1, h.2.2.2.2.2.2.2.1, h.2.2.2.2.2.2.2.2.1, h.2.2.2.2.2.2.2.2.2.1, h.2.2.2.2.2.2.2.2.2.2.1, h.2.2.2.2.2.2.2.2.2.2.2.1, h.2.2.2.2.2.2.2.2.2.2.2.2.1, hx, h.2.2.2.2.2.2.2.2.2.2.2.2.2.2.1, h.2.2.2.2.2.2.2.2.2.2.2.2.2.2.2.1, h.2.2.2.2.2.2.2.2.2.2.2.2.2.2.2.2⟩
theorem Sh_l_cTest {b : List Int32 × List Int32 × List Int32 × List Int32 × List Int32 × List Int32 × List Int32 × List Int32} {k : List Int32 × List Int32} {r : List Int32 × List Int32 × Int32 × Int32 × Int32} {i : Int32 × Int32 × Int32 × Int32} {o : Ob} (h : Sh b k r i o) : (f_cTest o).length = 16 := h.2.2.2.2.2.2.2.2.2.2.2.2.2.1
theorem Sh_cTaken {b : List Int32 × List Int32 × List Int32 × List Int32 × List Int32 × List Int32 × List Int32 × List Int32} {k : List Int32 × List Int32} {r : List Int32 × List Int32 × Int32 × Int32 × Int32} {i : Int32 × Int32 × Int32 × Int32} {o : Ob} {x : List Int32} (h : Sh b k r i o) (hx : x.length = 16) : Sh b k r i (s_cTaken o x) := by
 dsimp only [Sh, f_bOp, f_bD, f_bS, f_bImm, f_bTerm, f_bTest, f_bT0, f_bT1, f_cnt0, f_cnt1, f_regs, f_outs, f_edgeId, f_edgeW, f_chNext, f_chPrev, f_chHead, f_heat, f_posOf, f_order, f_cOp, f_cD, f_cS, f_cImm, f_cKind, f_cTest, f_cTaken, f_cOther, f_maxBlocks, f_maxSteps, f_n, f_arranged, f_outCount, f_steps, f_status, s_cTaken] at h ⊢
 exact ⟨h.1, h.2.1, h.2.2.1, h.2.2.2.1, h.2.2.2.2.1, h.2.2.2.2.2.1, h.2.2.2.2.2.2.1, h.2.2.2.2.2.2.2.1, h.2.2.2.2.2.2.2.2.1, h.2.2.2.2.2.2.2.2.2.1, h.2.2.2.2.2.2.2.2.2.2.1, h.2.2.2.2.2.2.2.2.2.2.2.1, h.2.2.2.2.2.2.2.2.2.2.2.2.1, h.2.2.2.2.2.2.2.2.2.2.2.2.2.1, hx, h.2.2.2.2.2.2.2.2.2.2.2.2.2.2.2.1, h.2.2.2.2.2.2.2.2.2.2.2.2.2.2.2.2⟩
theorem Sh_l_cTaken {b : List Int32 × List Int32 × List Int32 × List Int32 × List Int32 × List Int32 × List Int32 × List Int32} {k : List Int32 × List Int32} {r : List Int32 × List Int32 × Int32 × Int32 × Int32} {i : Int32 × Int32 × Int32 × Int32} {o : Ob} (h : Sh b k r i o) : (f_cTaken o).length = 16 := h.2.2.2.2.2.2.2.2.2.2.2.2.2.2.1
theorem Sh_cOther {b : List Int32 × List Int32 × List Int32 × List Int32 × List Int32 × List Int32 × List Int32 × List Int32} {k : List Int32 × List Int32} {r : List Int32 × List Int32 × Int32 × Int32 × Int32} {i : Int32 × Int32 × Int32 × Int32} {o : Ob} {x : List Int32} (h : Sh b k r i o) (hx : x.length = 16) : Sh b k r i (s_cOther o x) := by
 dsimp only [Sh, f_bOp, f_bD, f_bS, f_bImm, f_bTerm, f_bTest, f_bT0, f_bT1, f_cnt0, f_cnt1, f_regs, f_outs, f_edgeId, f_edgeW, f_chNext, f_chPrev, f_chHead, f_heat, f_posOf, f_order, f_cOp, f_cD, f_cS, f_cImm, f_cKind, f_cTest, f_cTaken, f_cOther, f_maxBlocks, f_maxSteps, f_n, f_arranged, f_outCount, f_steps, f_status, s_cOther] at h ⊢
 exact ⟨h.1, h.2.1, h.2.2.1, h.2.2.2.1, h.2.2.2.2.1, h.2.2.2.2.2.1, h.2.2.2.2.2.2.1, h.2.2.2.2.2.2.2.1, h.2.2.2.2.2.2.2.2.1, h.2.2.2.2.2.2.2.2.2.1, h.2.2.2.2.2.2.2.2.2.2.1, h.2.2.2.2.2.2.2.2.2.2.2.1, h.2.2.2.2.2.2.2.2.2.2.2.2.1, h.2.2.2.2.2.2.2.2.2.2.2.2.2.1, h.2.2.2.2.2.2.2.2.2.2.2.2.2.2.1, hx, h.2.2.2.2.2.2.2.2.2.2.2.2.2.2.2.2⟩
theorem Sh_l_cOther {b : List Int32 × List Int32 × List Int32 × List Int32 × List Int32 × List Int32 × List Int32 × List Int32} {k : List Int32 × List Int32} {r : List Int32 × List Int32 × Int32 × Int32 × Int32} {i : Int32 × Int32 × Int32 × Int32} {o : Ob} (h : Sh b k r i o) : (f_cOther o).length = 16 := h.2.2.2.2.2.2.2.2.2.2.2.2.2.2.2.1
theorem Sh_edgeN {b : List Int32 × List Int32 × List Int32 × List Int32 × List Int32 × List Int32 × List Int32 × List Int32} {k : List Int32 × List Int32} {r : List Int32 × List Int32 × Int32 × Int32 × Int32} {i : Int32 × Int32 × Int32 × Int32} {o : Ob} {x : Int32} (h : Sh b k r i o) : Sh b k r i (s_edgeN o x) := by
 dsimp only [Sh, f_bOp, f_bD, f_bS, f_bImm, f_bTerm, f_bTest, f_bT0, f_bT1, f_cnt0, f_cnt1, f_regs, f_outs, f_edgeId, f_edgeW, f_chNext, f_chPrev, f_chHead, f_heat, f_posOf, f_order, f_cOp, f_cD, f_cS, f_cImm, f_cKind, f_cTest, f_cTaken, f_cOther, f_maxBlocks, f_maxSteps, f_n, f_arranged, f_outCount, f_steps, f_status, s_edgeN] at h ⊢
 exact h
abbrev BB := List Int32 × List Int32 × List Int32 × List Int32 × List Int32 × List Int32 × List Int32 × List Int32
abbrev KK := List Int32 × List Int32
abbrev RR := List Int32 × List Int32 × Int32 × Int32 × Int32
abbrev II := Int32 × Int32 × Int32 × Int32
def at' (l : List Int32) (j : Nat) : Int32 := l.getD j 0
def gd (l : List Int32) (j : Nat) : Int := (at' l j).toInt
theorem at_set {l : List Int32} {i k : Nat} {v : Int32} (hi : i < l.length) : at' (l.set i v) k = if k = i then v else at' l k := by
 unfold at'
 rw [List.getD_eq_getElem?_getD, List.getD_eq_getElem?_getD, List.getElem?_set]
 by_cases h : i = k
 ·rw [if_pos h, if_pos h.symm, if_pos hi]; rfl
 ·rw [if_neg h, if_neg (fun w => h w.symm)]
theorem gd_set {l : List Int32} {i k : Nat} {v : Int32} (hi : i < l.length) : gd (l.set i v) k = if k = i then v.toInt else gd l k := by
 unfold gd
 rw [at_set hi]
 split <;> rfl
theorem ag {l : List Int32} {x : Int32} {a : Nat} (hx : x.toInt = a) (ha : a < l.length) : aget l x = some (at' l a) := by
 unfold at'
 rw [aget_at hx ha, List.getD_eq_getElem?_getD, List.getElem?_eq_getElem ha]; rfl
def op (b : BB) (j : Nat) : Int32 := at' b.1 j
def dd (b : BB) (j : Nat) : Int32 := at' b.2.1 j
def ss (b : BB) (j : Nat) : Int32 := at' b.2.2.1 j
def im (b : BB) (j : Nat) : Int32 := at' b.2.2.2.1 j
def tm (b : BB) (j : Nat) : Int32 := at' b.2.2.2.2.1 j
def te (b : BB) (j : Nat) : Int32 := at' b.2.2.2.2.2.1 j
def t0 (b : BB) (j : Nat) : Int32 := at' b.2.2.2.2.2.2.1 j
def t1 (b : BB) (j : Nat) : Int32 := at' b.2.2.2.2.2.2.2 j
def LB (b : BB) : Prop := b.1.length = 16 ∧ b.2.1.length = 16 ∧ b.2.2.1.length = 16 ∧ b.2.2.2.1.length = 16 ∧ b.2.2.2.2.1.length = 16 ∧ b.2.2.2.2.2.1.length = 16 ∧ b.2.2.2.2.2.2.1.length = 16 ∧ b.2.2.2.2.2.2.2.length = 16
def GB (b : BB) (n : Nat) : Prop := LB b ∧ n ≤ 16 ∧ ∀ j, j < n → (0 ≤ (te b j).toInt ∧ (te b j).toInt ≤ 15) ∧ (0 ≤ (t0 b j).toInt ∧ (t0 b j).toInt < n) ∧ (0 ≤ (t1 b j).toInt ∧ (t1 b j).toInt < n)
def LK (k : KK) : Prop := k.1.length = 16 ∧ k.2.length = 16
theorem h_b {b : BB} {k : KK} {r : RR} {i : II} {o : Ob} (h : Sh b k r i o) : (f_bOp o, f_bD o, f_bS o, f_bImm o, f_bTerm o, f_bTest o, f_bT0 o, f_bT1 o) = b := h.2.2.2.2.2.2.2.2.2.2.2.2.2.2.2.2.1
theorem h_k {b : BB} {k : KK} {r : RR} {i : II} {o : Ob} (h : Sh b k r i o) : (f_cnt0 o, f_cnt1 o) = k := h.2.2.2.2.2.2.2.2.2.2.2.2.2.2.2.2.2.1
theorem h_r {b : BB} {k : KK} {r : RR} {i : II} {o : Ob} (h : Sh b k r i o) : (f_regs o, f_outs o, f_outCount o, f_steps o, f_status o) = r := h.2.2.2.2.2.2.2.2.2.2.2.2.2.2.2.2.2.2.1
theorem h_i {b : BB} {k : KK} {r : RR} {i : II} {o : Ob} (h : Sh b k r i o) : (f_maxBlocks o, f_maxSteps o, f_n o, f_arranged o) = i := h.2.2.2.2.2.2.2.2.2.2.2.2.2.2.2.2.2.2.2
theorem g_bOp {b : BB} {k : KK} {r : RR} {i : II} {o : Ob} (h : Sh b k r i o) : f_bOp o = b.1 := congrArg (fun x : BB => x.1) (h_b h)
theorem g_bD {b : BB} {k : KK} {r : RR} {i : II} {o : Ob} (h : Sh b k r i o) : f_bD o = b.2.1 := congrArg (fun x : BB => x.2.1) (h_b h)
theorem g_bS {b : BB} {k : KK} {r : RR} {i : II} {o : Ob} (h : Sh b k r i o) : f_bS o = b.2.2.1 := congrArg (fun x : BB => x.2.2.1) (h_b h)
theorem g_bImm {b : BB} {k : KK} {r : RR} {i : II} {o : Ob} (h : Sh b k r i o) : f_bImm o = b.2.2.2.1 := congrArg (fun x : BB => x.2.2.2.1) (h_b h)
theorem g_bTerm {b : BB} {k : KK} {r : RR} {i : II} {o : Ob} (h : Sh b k r i o) : f_bTerm o = b.2.2.2.2.1 := congrArg (fun x : BB => x.2.2.2.2.1) (h_b h)
theorem g_bTest {b : BB} {k : KK} {r : RR} {i : II} {o : Ob} (h : Sh b k r i o) : f_bTest o = b.2.2.2.2.2.1 := congrArg (fun x : BB => x.2.2.2.2.2.1) (h_b h)
theorem g_bT0 {b : BB} {k : KK} {r : RR} {i : II} {o : Ob} (h : Sh b k r i o) : f_bT0 o = b.2.2.2.2.2.2.1 := congrArg (fun x : BB => x.2.2.2.2.2.2.1) (h_b h)
theorem g_bT1 {b : BB} {k : KK} {r : RR} {i : II} {o : Ob} (h : Sh b k r i o) : f_bT1 o = b.2.2.2.2.2.2.2 := congrArg (fun x : BB => x.2.2.2.2.2.2.2) (h_b h)
theorem g_n {b : BB} {k : KK} {r : RR} {i : II} {o : Ob} (h : Sh b k r i o) : f_n o = i.2.2.1 := congrArg (fun x : II => x.2.2.1) (h_i h)
theorem g_cnt0 {b : BB} {k : KK} {r : RR} {i : II} {o : Ob} (h : Sh b k r i o) : f_cnt0 o = k.1 := congrArg (fun x : KK => x.1) (h_k h)
theorem g_cnt1 {b : BB} {k : KK} {r : RR} {i : II} {o : Ob} (h : Sh b k r i o) : f_cnt1 o = k.2 := congrArg (fun x : KK => x.2) (h_k h)
theorem a_tm {b : BB} {k : KK} {r : RR} {i : II} {o : Ob} (h : Sh b k r i o) {n j : Nat} (G : GB b n) (hj : j < n) {x : Int32} (hx : x.toInt = j) : aget (f_bTerm o) x = some (tm b j) := by
 have := G.2.1; rw [g_bTerm h]; exact ag hx (by rw [G.1.2.2.2.2.1]; omega)
theorem a_te {b : BB} {k : KK} {r : RR} {i : II} {o : Ob} (h : Sh b k r i o) {n j : Nat} (G : GB b n) (hj : j < n) {x : Int32} (hx : x.toInt = j) : aget (f_bTest o) x = some (te b j) := by
 have := G.2.1; rw [g_bTest h]; exact ag hx (by rw [G.1.2.2.2.2.2.1]; omega)
theorem a_t0 {b : BB} {k : KK} {r : RR} {i : II} {o : Ob} (h : Sh b k r i o) {n j : Nat} (G : GB b n) (hj : j < n) {x : Int32} (hx : x.toInt = j) : aget (f_bT0 o) x = some (t0 b j) := by
 have := G.2.1; rw [g_bT0 h]; exact ag hx (by rw [G.1.2.2.2.2.2.2.1]; omega)
theorem a_t1 {b : BB} {k : KK} {r : RR} {i : II} {o : Ob} (h : Sh b k r i o) {n j : Nat} (G : GB b n) (hj : j < n) {x : Int32} (hx : x.toInt = j) : aget (f_bT1 o) x = some (t1 b j) := by
 have := G.2.1; rw [g_bT1 h]; exact ag hx (by rw [G.1.2.2.2.2.2.2.2]; omega)
theorem a_op {b : BB} {k : KK} {r : RR} {i : II} {o : Ob} (h : Sh b k r i o) {n j : Nat} (G : GB b n) (hj : j < n) {x : Int32} (hx : x.toInt = j) : aget (f_bOp o) x = some (op b j) := by
 have := G.2.1; rw [g_bOp h]; exact ag hx (by rw [G.1.1]; omega)
theorem a_dd {b : BB} {k : KK} {r : RR} {i : II} {o : Ob} (h : Sh b k r i o) {n j : Nat} (G : GB b n) (hj : j < n) {x : Int32} (hx : x.toInt = j) : aget (f_bD o) x = some (dd b j) := by
 have := G.2.1; rw [g_bD h]; exact ag hx (by rw [G.1.2.1]; omega)
theorem a_ss {b : BB} {k : KK} {r : RR} {i : II} {o : Ob} (h : Sh b k r i o) {n j : Nat} (G : GB b n) (hj : j < n) {x : Int32} (hx : x.toInt = j) : aget (f_bS o) x = some (ss b j) := by
 have := G.2.1; rw [g_bS h]; exact ag hx (by rw [G.1.2.2.1]; omega)
theorem a_im {b : BB} {k : KK} {r : RR} {i : II} {o : Ob} (h : Sh b k r i o) {n j : Nat} (G : GB b n) (hj : j < n) {x : Int32} (hx : x.toInt = j) : aget (f_bImm o) x = some (im b j) := by
 have := G.2.1; rw [g_bImm h]; exact ag hx (by rw [G.1.2.2.2.1]; omega)
def Ed (n : Nat) (o : Ob) : Prop := 0 ≤ (f_edgeN o).toInt ∧ (f_edgeN o).toInt ≤ 32 ∧ ∀ e, e < (f_edgeN o).toInt.toNat → 0 ≤ gd (f_edgeId o) e ∧ gd (f_edgeId o) e < 2 * n
theorem Ed_heat {n : Nat} {o : Ob} (h : Ed n o) (v : List Int32) : Ed n (s_heat o v) := by
 dsimp only [Ed, f_edgeN, f_edgeId, s_heat] at h ⊢; exact h
theorem Ed_w {n : Nat} {o : Ob} (h : Ed n o) (v : List Int32) : Ed n (s_edgeW o v) := by
 dsimp only [Ed, f_edgeN, f_edgeId, s_edgeW] at h ⊢; exact h
theorem Ed_ch {n : Nat} {o : Ob} (h : Ed n o) (u v : List Int32) : Ed n (s_chPrev (s_chNext o u) v) := by
 dsimp only [Ed, f_edgeN, f_edgeId, s_chPrev, s_chNext] at h ⊢; exact h
theorem Ed_hd {n : Nat} {o : Ob} (h : Ed n o) (v : List Int32) : Ed n (s_chHead o v) := by
 dsimp only [Ed, f_edgeN, f_edgeId, s_chHead] at h ⊢; exact h
theorem Ed_set {n m : Nat} {o : Ob} (h : Ed n o) (hm : m < (f_edgeId o).length) {v : Int32} (v0 : 0 ≤ v.toInt) (v1 : v.toInt < 2 * n) : Ed n (s_edgeId o ((f_edgeId o).set m v)) := by
 obtain ⟨h1, h2, h3⟩ := h
 have key : ∀ e, e < (f_edgeN o).toInt.toNat → 0 ≤ gd ((f_edgeId o).set m v) e ∧ gd ((f_edgeId o).set m v) e < 2 * n := by
  intro e he
  rw [gd_set hm]
  split
  ·exact ⟨v0, v1⟩
  ·exact h3 e he
 dsimp only [Ed, f_edgeN, f_edgeId, s_edgeId] at h1 h2 key ⊢
 exact ⟨h1, h2, key⟩
theorem ed_ok {b : BB} {k : KK} {r : RR} {i : II} {o : Ob} (h : Sh b k r i o) {n c : Nat} (E : Ed n o) (hc : c < n) (n16 : n ≤ 16) {x s t w : Int32} (hx : x.toInt = c) (s0 : 0 ≤ s.toInt) (s1 : s.toInt ≤ 1) : okP (F35 o x s t w) (fun p => Sh b k r i p ∧ Ed n p) := by
 have z0 : (0 : Int32).toInt = 0 := rfl
 have z2 : (2 : Int32).toInt = 2 := rfl
 have z16 : (16 : Int32).toInt = 16 := rfl
 have z32 : (32 : Int32).toInt = 32 := rfl
 have j : ∀ {o : Ob}, Sh b k r i o → Ed n o → okP (J35_31 o x s t w) (fun p => Sh b k r i p ∧ Ed n p) := by
  intro o h E
  unfold J35_31
  refine okP.ite (fun _ => ?_) (fun _ => okP.some ⟨h, E⟩)
  refine okP.ite (fun _ => okP.some ⟨h, E⟩) (fun _ => ?_)
  refine okP.ite (fun lt => ?_) (fun _ => okP.some ⟨h, E⟩)
  rw [i_lt, z32] at lt
  obtain ⟨E1, E2, E3⟩ := E
  have l1 := Sh_l_edgeId h
  have l2 := Sh_l_edgeW h
  have e1 : (f_edgeN o + 1).toInt = (f_edgeN o).toInt + 1 := inc1 (by omega)
  have em : (x * 2).toInt = x.toInt * 2 := by rw [i_mul (by rw [z2]; omega) (by rw [z2]; omega), z2]
  have ev : (x * 2 + s).toInt = x.toInt * 2 + s.toInt := by rw [i_add (by omega) (by omega), em]
  apply okP.bind; refine okP.aset (by omega) (by omega) ?_
  apply okP.bind; refine okP.aset (by omega) (by omega) ?_
  refine okP.some ⟨Sh_edgeN (Sh_edgeW (Sh_edgeId h (by rw [List.length_set]; exact l1)) (by rw [List.length_set]; exact l2)), ?_⟩
  have key : ∀ e, e < ((f_edgeN o).toInt + 1).toNat → 0 ≤ gd ((f_edgeId o).set (f_edgeN o).toInt.toNat (x * 2 + s)) e ∧ gd ((f_edgeId o).set (f_edgeN o).toInt.toNat (x * 2 + s)) e < 2 * n := by
   intro e he
   rw [gd_set (by omega)]
   split
   ·omega
   ·exact E3 e (by omega)
  obtain ⟨m, hm⟩ : ∃ m, m = f_edgeN o + 1 := ⟨_, rfl⟩
  rw [← hm] at e1 ⊢
  rw [← e1] at key
  have q0 : 0 ≤ m.toInt := by omega
  have q1 : m.toInt ≤ 32 := by omega
  dsimp only [Ed, f_edgeN, f_edgeId, s_edgeN, s_edgeW, s_edgeId] at key ⊢
  exact ⟨q0, q1, key⟩
 unfold F35
 refine okP.ite (fun _ => okP.some ⟨h, E⟩) (fun t0 => ?_)
 refine okP.ite (fun t1 => ?_) (fun _ => okP.some ⟨h, E⟩)
 rw [i_lt, z0] at t0
 rw [i_lt, z16] at t1
 have l1 := Sh_l_heat h
 refine okP.ite (fun _ => ?_) (fun _ => j h E)
 apply okP.bind; refine okP.aget (by omega) (by omega) (fun v _ => ?_)
 apply okP.bind; refine okP.aset (by omega) (by omega) ?_
 exact j (Sh_heat h (by rw [List.length_set]; exact l1)) (Ed_heat E _)
theorem coll_ok {b : BB} {k : KK} {r : RR} {i : II} {o : Ob} (h : Sh b k r i o) {n : Nat} (G : GB b n) (K : LK k) (hn : i.2.2.1.toInt = n) : okP (F26 o) (fun p => Sh b k r i p ∧ Ed n p) := by
 have z16 : (16 : Int32).toInt = 16 := rfl
 have n16 := G.2.1
 unfold F26
 have h' : Sh b k r i (s_edgeN o 0) := Sh_edgeN h
 have E0 : f_edgeN (s_edgeN o 0) = 0 := by dsimp only [f_edgeN, s_edgeN]
 apply okP.bind
 refine okP.mono (P := fun p => Sh b k r i p ∧ f_edgeN p = 0) ?_ ?_
 ·refine okP.loop (fun w : Int32 × Ob => 0 ≤ w.1.toInt ∧ Sh b k r i w.2 ∧ f_edgeN w.2 = 0) (fun w => (16 - w.1.toInt).toNat) ⟨by show (0 : Int) ≤ 0; decide, h', E0⟩ (by show (16 - (0 : Int)).toNat < 4000; decide) ?_
  rintro ⟨x, p⟩ ⟨x0, hp, e0⟩
  simp only at x0 hp e0
  unfold B26_7
  simp only
  refine okP.ite (fun c => ?_) (fun _ => okP.some ⟨hp, e0⟩)
  rw [i_lt, z16] at c
  have e1 : (x + 1).toInt = x.toInt + 1 := inc1 (by omega)
  have l1 := Sh_l_heat hp
  apply okP.bind; refine okP.aset (by omega) (by omega) ?_
  refine okP.some ⟨⟨by simp only; omega, Sh_heat hp (by rw [List.length_set]; exact l1), ?_⟩, by simp only; omega⟩
  have : f_edgeN (s_heat p ((f_heat p).set x.toInt.toNat 0)) = f_edgeN p := by dsimp only [f_edgeN, s_heat]
  exact this.trans e0
 ·rintro p ⟨hp, e0⟩
  have E : Ed n p := by
   unfold Ed
   rw [e0]
   exact ⟨by decide, by decide, fun e he => absurd he (by show ¬ e < 0; omega)⟩
  apply okP.bind
  refine okP.mono (P := fun p => Sh b k r i p ∧ Ed n p) ?_ (fun p hp => okP.some hp)
  refine okP.loop (fun w : Int32 × Ob => 0 ≤ w.1.toInt ∧ Sh b k r i w.2 ∧ Ed n w.2) (fun w => (16 - w.1.toInt).toNat) ⟨by show (0 : Int) ≤ 0; decide, hp, E⟩ (by show (16 - (0 : Int)).toNat < 4000; decide) ?_
  rintro ⟨x, p⟩ ⟨x0, hp, E⟩
  simp only at x0 hp E
  unfold B26_28
  simp only
  refine okP.ite (fun c => ?_) (fun _ => okP.some ⟨hp, E⟩)
  refine okP.ite (fun c2 => ?_) (fun _ => okP.some ⟨hp, E⟩)
  rw [i_lt, g_n hp, hn] at c
  rw [i_lt, z16] at c2
  have e1 : (x + 1).toInt = x.toInt + 1 := inc1 (by omega)
  obtain ⟨c, hc⟩ : ∃ c : Nat, x.toInt = c := ⟨x.toInt.toNat, by omega⟩
  have cn : c < n := by omega
  rw [a_tm hp G cn hc, Option.bind_some]
  have fin : ∀ {q : Ob}, Sh b k r i q → Ed n q → okP (J26_100 q x) (fun r' => Sum.elim (fun p => Sh b k r i p ∧ Ed n p) (fun w : Int32 × Ob => (0 ≤ w.1.toInt ∧ Sh b k r i w.2 ∧ Ed n w.2) ∧ (16 - w.1.toInt).toNat < (16 - x.toInt).toNat) r') := fun hq Eq => okP.some ⟨⟨by simp only; omega, hq, Eq⟩, by simp only; omega⟩
  have j77 : ∀ {q : Ob} (y : Int32), Sh b k r i q → Ed n q → okP (J26_77 q x y) (fun r' => Sum.elim (fun p => Sh b k r i p ∧ Ed n p) (fun w : Int32 × Ob => (0 ≤ w.1.toInt ∧ Sh b k r i w.2 ∧ Ed n w.2) ∧ (16 - w.1.toInt).toNat < (16 - x.toInt).toNat) r') := by
   intro q y hq Eq
   unfold J26_77
   refine okP.ite (fun _ => ?_) (fun _ => fin hq Eq)
   rw [a_t1 hq G cn hc, Option.bind_some, g_cnt1 hq, ag hc (by rw [K.2]; omega), Option.bind_some]
   apply okP.bind
   exact okP.mono (ed_ok hq Eq cn n16 hc (by decide) (by decide)) (fun q' hq' => fin hq'.1 hq'.2)
  have j59 : ∀ y : Int32, okP (J26_59 p x y) (fun r' => Sum.elim (fun p => Sh b k r i p ∧ Ed n p) (fun w : Int32 × Ob => (0 ≤ w.1.toInt ∧ Sh b k r i w.2 ∧ Ed n w.2) ∧ (16 - w.1.toInt).toNat < (16 - x.toInt).toNat) r') := by
   intro y
   unfold J26_59
   rw [a_t0 hp G cn hc, Option.bind_some, g_cnt0 hp, ag hc (by rw [K.1]; omega), Option.bind_some]
   apply okP.bind
   exact okP.mono (ed_ok hp E cn n16 hc (by decide) (by decide)) (fun q' hq' => j77 y hq'.1 hq'.2)
  refine okP.ite (fun _ => j59 _) (fun _ => ?_)
  exact okP.ite (fun _ => j59 _) (fun _ => j77 _ hp E)
theorem bef_ok (a b c d : Int32) : okP (F36 a b c d) (fun _ => True) := by
 unfold F36
 refine okP.ite (fun _ => ?_) (fun _ => ?_) <;> exact okP.ite (fun _ => okP.some trivial) (fun _ => okP.some trivial)
theorem okP_agd {l : List Int32} {j : Int32} {P : Int32 → Prop} (h0 : 0 ≤ j.toInt) (h1 : j.toInt < l.length) (k : ∀ w : Int32, w.toInt = gd l j.toInt.toNat → P w) : okP (aget l j) P := by
 refine okP.aget h0 h1 (fun w hw => k w ?_)
 unfold gd at'
 rw [List.getD_eq_getElem?_getD, hw]; rfl
theorem sort_ok {b : BB} {k : KK} {r : RR} {i : II} {o : Ob} (h : Sh b k r i o) {n : Nat} (E : Ed n o) : okP (F27 o) (fun p => Sh b k r i p ∧ Ed n p) := by
 have z0 : (0 : Int32).toInt = 0 := rfl
 have z1 : (1 : Int32).toInt = 1 := rfl
 have zm : (-1 : Int32).toInt = -1 := rfl
 have z32 : (32 : Int32).toInt = 32 := rfl
 unfold F27
 apply okP.bind
 refine okP.mono (P := fun p => Sh b k r i p ∧ Ed n p) ?_ (fun p hp => okP.some hp)
 refine okP.loop (fun w : Int32 × Ob => 1 ≤ w.1.toInt ∧ Sh b k r i w.2 ∧ Ed n w.2) (fun w => (32 - w.1.toInt).toNat) ⟨by show (1 : Int) ≤ 1; decide, h, E⟩ (by show (32 - (1 : Int)).toNat < 4000; decide) ?_
 rintro ⟨x, p⟩ ⟨x0, hp, E⟩
 simp only at x0 hp E
 unfold B27_2
 simp only
 refine okP.ite (fun c => ?_) (fun _ => okP.some ⟨hp, E⟩)
 refine okP.ite (fun c2 => ?_) (fun _ => okP.some ⟨hp, E⟩)
 rw [i_lt] at c
 rw [i_lt, z32] at c2
 have e1 : (x + 1).toInt = x.toInt + 1 := inc1 (by omega)
 have e2 : (x - 1).toInt = x.toInt - 1 := by rw [i_sub (by omega) (by omega), z1]
 generalize x - 1 = xm at e2 ⊢
 have l1 := Sh_l_edgeId hp
 have l2 := Sh_l_edgeW hp
 apply okP.bind; refine okP_agd (by omega) (by omega) (fun id hid => ?_)
 have hv := E.2.2 x.toInt.toNat (by omega)
 rw [← hid] at hv
 apply okP.bind; refine okP.aget (by omega) (by omega) (fun wt _ => ?_)
 apply okP.bind
 refine okP.mono (P := fun w : Int32 × Ob => -1 ≤ w.1.toInt ∧ w.1.toInt < x.toInt ∧ Sh b k r i w.2 ∧ Ed n w.2) ?_ ?_
 ·refine okP.loop (fun w : Int32 × Ob => -1 ≤ w.1.toInt ∧ w.1.toInt < x.toInt ∧ Sh b k r i w.2 ∧ Ed n w.2 ∧ f_edgeN w.2 = f_edgeN p) (fun w => (w.1.toInt + 1).toNat) ⟨by show -1 ≤ xm.toInt; omega, by show xm.toInt < x.toInt; omega, hp, E, rfl⟩ (by show (xm.toInt + 1).toNat < 4000; omega) ?_
  rintro ⟨y, q⟩ ⟨y0, y1, hq, Eq, eN⟩
  simp only at y0 y1 hq Eq eN
  unfold B27_35
  simp only
  refine okP.ite (fun _ => okP.some ⟨y0, y1, hq, Eq⟩) (fun c => ?_)
  rw [i_lt, z0] at c
  have m1 := Sh_l_edgeId hq
  have m2 := Sh_l_edgeW hq
  have e3 : (y + 1).toInt = y.toInt + 1 := inc1 (by omega)
  have e4 : (y + -1).toInt = y.toInt + -1 := by rw [i_add (by omega) (by omega), zm]
  generalize y + -1 = ym at e4 ⊢
  apply okP.bind; refine okP.aget (by omega) (by omega) (fun _ _ => ?_)
  apply okP.bind; refine okP.aget (by omega) (by omega) (fun _ _ => ?_)
  apply okP.bind; refine okP.mono (bef_ok _ _ _ _) (fun _ _ => ?_)
  refine okP.ite (fun _ => okP.some ⟨y0, y1, hq, Eq⟩) (fun _ => ?_)
  apply okP.bind; refine okP_agd (by omega) (by omega) (fun id2 hid2 => ?_)
  have hv2 := Eq.2.2 y.toInt.toNat (by rw [eN]; omega)
  rw [← hid2] at hv2
  apply okP.bind; refine okP.aset (by omega) (by omega) ?_
  apply okP.bind; refine okP.aget (by omega) (by omega) (fun _ _ => ?_)
  apply okP.bind; refine okP.aset (by omega) (by omega) ?_
  refine okP.some ⟨⟨by simp only; omega, by simp only; omega, Sh_edgeW (Sh_edgeId hq (by rw [List.length_set]; exact m1)) (by rw [List.length_set]; exact m2), Ed_w (Ed_set Eq (by omega) hv2.1 hv2.2) _, ?_⟩, by simp only; omega⟩
  generalize (f_edgeId q).set (y + 1).toInt.toNat id2 = u1
  generalize (f_edgeW q).set (y + 1).toInt.toNat _ = u2
  have : f_edgeN (s_edgeW (s_edgeId q u1) u2) = f_edgeN q := by dsimp only [f_edgeN, s_edgeW, s_edgeId]
  exact this.trans eN
 ·rintro ⟨y, q⟩ ⟨y0, y1, hq, Eq⟩
  simp only at y0 y1 hq Eq ⊢
  have m1 := Sh_l_edgeId hq
  have m2 := Sh_l_edgeW hq
  have e3 : (y + 1).toInt = y.toInt + 1 := inc1 (by omega)
  unfold J27_101
  apply okP.bind; refine okP.aset (by omega) (by omega) ?_
  apply okP.bind; refine okP.aset (by omega) (by omega) ?_
  exact okP.some ⟨⟨by simp only; omega, Sh_edgeW (Sh_edgeId hq (by rw [List.length_set]; exact m1)) (by rw [List.length_set]; exact m2), Ed_w (Ed_set Eq (by omega) hv.1 hv.2) _⟩, by simp only; omega⟩
def th (o : Ob) : List Int32 × List Int32 × List Int32 := (f_chNext o, f_chPrev o, f_chHead o)
def CH (n : Nat) (t : List Int32 × List Int32 × List Int32) : Prop := ∃ κ, CK n (gd t.1) (gd t.2.1) (gd t.2.2) κ
theorem merge_ok {b : BB} {k : KK} {r : RR} {i : II} {o : Ob} (h : Sh b k r i o) {n u v : Nat} (n16 : n ≤ 16) (E : Ed n o) (C : CH n (th o)) {x y : Int32} (hx : x.toInt = u) (hy : y.toInt = v) (hu : u < n) (hv : v < n) : okP (F37 o x y) (fun p => Sh b k r i p ∧ Ed n p ∧ CH n (th p)) := by
 have z0 : (0 : Int32).toInt = 0 := rfl
 have zm : (-1 : Int32).toInt = -1 := rfl
 have z16 : (16 : Int32).toInt = 16 := rfl
 have l1 := Sh_l_chNext h
 have l2 := Sh_l_chPrev h
 have l3 := Sh_l_chHead h
 have stay : okP (some o) (fun p => Sh b k r i p ∧ Ed n p ∧ CH n (th p)) := okP.some ⟨h, E, C⟩
 unfold F37
 refine okP.ite (fun _ => stay) (fun _ => ?_)
 refine okP.ite (fun _ => ?_) (fun _ => stay)
 refine okP.ite (fun v0 => ?_) (fun _ => stay)
 refine okP.ite (fun _ => ?_) (fun _ => stay)
 rw [i_lt, z0] at v0
 rw [ag hx (by omega), Option.bind_some]
 refine okP.ite (fun xu => ?_) (fun _ => stay)
 rw [ag hy (by omega), Option.bind_some]
 refine okP.ite (fun yv => ?_) (fun _ => stay)
 rw [ag hx (by omega), Option.bind_some]
 refine okP.ite (fun _ => stay) (fun zu => ?_)
 obtain ⟨κ, C⟩ := C
 have C' : CK n (gd (f_chNext o)) (gd (f_chPrev o)) (gd (f_chHead o)) κ := C
 have xu' : gd (f_chNext o) u = -1 := by unfold gd; rw [xu]; rfl
 have yv' : gd (f_chPrev o) v = -1 := by unfold gd; rw [yv]; rfl
 have zu' : gd (f_chHead o) u ≠ (v : Nat) := by
  unfold gd
  rw [← hy]
  intro w
  exact zu (i_eq.2 w)
 obtain ⟨kv, zv⟩ := C'.head hv yv'
 rw [aset_at hx (by omega), Option.bind_some, aset_at hy (by omega), Option.bind_some, Option.bind_some]
 generalize hX : (f_chNext o).set u y = X
 generalize hY : (f_chPrev o).set v x = Y
 have hX' : ∀ c, gd X c = if c = u then (v : Int) else gd (f_chNext o) c := by
  intro c; rw [← hX, gd_set (by omega), hy]
 have hY' : ∀ c, gd Y c = if c = v then (u : Int) else gd (f_chPrev o) c := by
  intro c; rw [← hY, gd_set (by omega), hx]
 have lX : X.length = 16 := by rw [← hX, List.length_set]; exact l1
 have lY : Y.length = 16 := by rw [← hY, List.length_set]; exact l2
 generalize hZ : at' (f_chHead o) u = hu'
 have hZ' : hu'.toInt = gd (f_chHead o) u := by rw [← hZ]; rfl
 have h' : Sh b k r i (s_chPrev (s_chNext o X) Y) := Sh_chPrev (Sh_chNext h lX) lY
 have t' : th (s_chPrev (s_chNext o X) Y) = (X, Y, f_chHead o) := by dsimp only [th, f_bOp, f_bD, f_bS, f_bImm, f_bTerm, f_bTest, f_bT0, f_bT1, f_cnt0, f_cnt1, f_regs, f_outs, f_edgeId, f_edgeW, f_chNext, f_chPrev, f_chHead, f_heat, f_posOf, f_order, f_cOp, f_cD, f_cS, f_cImm, f_cKind, f_cTest, f_cTaken, f_cOther, f_maxBlocks, f_maxSteps, f_n, f_arranged, f_outCount, f_steps, f_status, f_edgeN, s_bOp, s_bD, s_bS, s_bImm, s_bTerm, s_bTest, s_bT0, s_bT1, s_cnt0, s_cnt1, s_regs, s_outs, s_edgeId, s_edgeW, s_chNext, s_chPrev, s_chHead, s_heat, s_posOf, s_order, s_cOp, s_cD, s_cS, s_cImm, s_cKind, s_cTest, s_cTaken, s_cOther, s_maxBlocks, s_maxSteps, s_n, s_arranged, s_outCount, s_steps, s_status, s_edgeN]
 have E' : Ed n (s_chPrev (s_chNext o X) Y) := Ed_ch E X Y
 generalize s_chPrev (s_chNext o X) Y = o' at *
 apply okP.bind
 refine okP.mono (P := fun p => Sh b k r i p ∧ Ed n p ∧ ∃ Z, th p = (X, Y, Z) ∧ ∀ c, c < n → gd Z c = if gd (f_chHead o) c = (v : Nat) then gd (f_chHead o) u else gd (f_chHead o) c) ?_ ?_
 ·refine okP.loop (fun w : Int32 × Int32 × Ob => ∃ j : Nat, w.2.1.toInt = (j : Int) ∧ j ≤ 16 ∧ Sh b k r i w.2.2 ∧ Ed n w.2.2 ∧ (∃ Z, th w.2.2 = (X, Y, Z) ∧ ∀ c, c < n → gd Z c = if gd (f_chHead o) c = (v : Nat) ∧ κ c < j then gd (f_chHead o) u else gd (f_chHead o) c) ∧ ((w.1.toInt = -1 ∧ ∀ c, c < n → gd (f_chHead o) c = (v : Nat) → κ c < j) ∨ ∃ c : Nat, c < n ∧ w.1.toInt = c ∧ gd (f_chHead o) c = (v : Nat) ∧ κ c = j)) (fun w => (16 - w.2.1.toInt).toNat) ⟨0, rfl, by omega, h', E', ⟨f_chHead o, t', fun c hc => by rw [if_neg (fun w => absurd w.2 (by omega))]⟩, Or.inr ⟨v, hv, hy, zv, kv⟩⟩ (by show (16 - (0 : Int)).toNat < 4000; decide) ?_
  rintro ⟨w, q, p⟩ ⟨j, hj, j16, hp, Ep, ⟨Z, tp, hz⟩, hw⟩
  simp only at hj hp Ep tp hw
  have done : (w.toInt = -1 ∧ ∀ c, c < n → gd (f_chHead o) c = (v : Nat) → κ c < j) → Sh b k r i p ∧ Ed n p ∧ ∃ Z, th p = (X, Y, Z) ∧ ∀ c, c < n → gd Z c = if gd (f_chHead o) c = (v : Nat) then gd (f_chHead o) u else gd (f_chHead o) c := by
   rintro ⟨_, hw⟩
   refine ⟨hp, Ep, Z, tp, fun c hc => ?_⟩
   rw [hz c hc]
   by_cases e : gd (f_chHead o) c = (v : Nat)
   ·rw [if_pos ⟨e, hw c hc e⟩, if_pos e]
   ·rw [if_neg (fun w => e w.1), if_neg e]
  unfold B37_79
  simp only
  refine okP.ite (fun cj => ?_) (fun cj => ?_)
  ·rw [i_lt, z16] at cj
   refine okP.ite (fun cw => ?_) (fun cw => ?_)
   ·rw [i_lt, z0] at cw
    rcases hw with hw | ⟨c, c1, c2, _⟩
    ·exact okP.some (done hw)
    ·omega
   ·rw [i_lt, z0] at cw
    rcases hw with hw | ⟨c, c1, c2, c3, c4⟩
    ·omega
    have e1 : (q + 1).toInt = q.toInt + 1 := inc1 (by omega)
    have gX : f_chNext p = X := congrArg (fun t : List Int32 × List Int32 × List Int32 => t.1) tp
    have gZ : f_chHead p = Z := congrArg (fun t : List Int32 × List Int32 × List Int32 => t.2.2) tp
    have gY : f_chPrev p = Y := congrArg (fun t : List Int32 × List Int32 × List Int32 => t.2.1) tp
    have lZ : Z.length = 16 := by rw [← gZ]; exact Sh_l_chHead hp
    rw [gZ, gX, aset_at c2 (by omega), Option.bind_some, ag c2 (by omega), Option.bind_some]
    have tq : th (s_chHead p (Z.set c hu')) = (X, Y, Z.set c hu') := by
     have : th (s_chHead p (Z.set c hu')) = (f_chNext p, f_chPrev p, Z.set c hu') := by dsimp only [th, f_bOp, f_bD, f_bS, f_bImm, f_bTerm, f_bTest, f_bT0, f_bT1, f_cnt0, f_cnt1, f_regs, f_outs, f_edgeId, f_edgeW, f_chNext, f_chPrev, f_chHead, f_heat, f_posOf, f_order, f_cOp, f_cD, f_cS, f_cImm, f_cKind, f_cTest, f_cTaken, f_cOther, f_maxBlocks, f_maxSteps, f_n, f_arranged, f_outCount, f_steps, f_status, f_edgeN, s_bOp, s_bD, s_bS, s_bImm, s_bTerm, s_bTest, s_bT0, s_bT1, s_cnt0, s_cnt1, s_regs, s_outs, s_edgeId, s_edgeW, s_chNext, s_chPrev, s_chHead, s_heat, s_posOf, s_order, s_cOp, s_cD, s_cS, s_cImm, s_cKind, s_cTest, s_cTaken, s_cOther, s_maxBlocks, s_maxSteps, s_n, s_arranged, s_outCount, s_steps, s_status, s_edgeN]
     rw [this, gX, gY]
    refine okP.some ⟨⟨j + 1, by simp only; omega, by omega, Sh_chHead hp (by rw [List.length_set]; exact lZ), Ed_hd Ep _, ⟨_, tq, fun c' hc' => ?_⟩, ?_⟩, by simp only; omega⟩
    ·rw [gd_set (by omega), hZ', hz c' hc']
     by_cases e : c' = c
     ·subst e
      rw [if_pos rfl, if_pos ⟨c3, by omega⟩]
     ·rw [if_neg e]
      by_cases e2 : gd (f_chHead o) c' = (v : Nat) ∧ κ c' < j
      ·rw [if_pos e2, if_pos ⟨e2.1, by omega⟩]
      ·rw [if_neg e2, if_neg (fun w => ?_)]
       refine e2 ⟨w.1, ?_⟩
       have : κ c' ≠ j := fun z => e (C'.uniq j hc' c1 z c4 (by rw [w.1, c3]))
       omega
    ·simp only
     have cu : c ≠ u := fun z => by subst z; exact zu' c3
     have gx : (at' X c).toInt = gd (f_chNext o) c := by
      have := hX' c
      rw [if_neg cu] at this
      exact this
     rcases C'.1 c c1 with m | ⟨d, d0, d1, d2, d3, d4, d5⟩
     ·left
      refine ⟨by rw [gx]; exact m, fun c' hc' e => ?_⟩
      have := C'.last c1 m hc' (by rw [e, c3])
      omega
     ·right
      exact ⟨d, d1, by rw [gx]; exact d2, by rw [d5]; exact c3, by omega⟩
  ·rw [i_lt, z16] at cj
   rcases hw with hw | ⟨c, c1, c2, c3, c4⟩
   ·exact okP.some (done hw)
   ·have := C'.lt c1
    omega
 ·rintro p ⟨hp, Ep, Z, tp, hz⟩
  refine okP.some ⟨hp, Ep, (fun c => if gd (f_chHead o) c = (v : Nat) then κ c + κ u + 1 else κ c), ?_⟩
  rw [tp]
  exact C'.join hu hv (by omega) xu' yv' zu' (fun c _ => hX' c) (fun c _ => hY' c) hz
theorem sh1 {x : Int32} (h0 : 0 ≤ x.toInt) (h1 : x.toInt < 32) : (x >>> ((1 : Int32) &&& 31)).toInt = x.toInt / 2 := small_cases (P := fun x => (x >>> ((1 : Int32) &&& 31)).toInt = x.toInt / 2) h0 (n := 32) h1 (by decide)
theorem chain_ok {b : BB} {k : KK} {r : RR} {i : II} {o : Ob} (h : Sh b k r i o) {n : Nat} (G : GB b n) (E : Ed n o) : okP (F28 o) (fun p => Sh b k r i p ∧ CH n (th p)) := by
 have z16 : (16 : Int32).toInt = 16 := rfl
 have z32 : (32 : Int32).toInt = 32 := rfl
 have n16 := G.2.1
 unfold F28
 apply okP.bind
 refine okP.mono (P := fun p => Sh b k r i p ∧ Ed n p ∧ CH n (th p)) ?_ ?_
 ·refine okP.loop (fun w : Int32 × Ob => ∃ m : Nat, w.1.toInt = (m : Int) ∧ m ≤ 16 ∧ Sh b k r i w.2 ∧ Ed n w.2 ∧ ∀ c, c < m → gd (f_chNext w.2) c = -1 ∧ gd (f_chPrev w.2) c = -1 ∧ gd (f_chHead w.2) c = (c : Nat)) (fun w => (16 - w.1.toInt).toNat) ⟨0, rfl, by omega, h, E, fun c hc => absurd hc (by omega)⟩ (by show (16 - (0 : Int)).toNat < 4000; decide) ?_
  rintro ⟨x, p⟩ ⟨m, hm, m16, hp, Ep, hc⟩
  simp only at hm hp Ep hc
  unfold B28_2
  simp only
  refine okP.ite (fun cc => ?_) (fun cc => ?_)
  ·rw [i_lt, z16] at cc
   have l1 := Sh_l_chNext hp
   have l2 := Sh_l_chPrev hp
   have l3 := Sh_l_chHead hp
   have e1 : (x + 1).toInt = x.toInt + 1 := inc1 (by omega)
   rw [aset_at hm (by omega), Option.bind_some, aset_at hm (by omega), Option.bind_some, aset_at hm (by omega), Option.bind_some]
   have hs := Sh_chHead (Sh_chPrev (Sh_chNext hp (x := (f_chNext p).set m (-1)) (by rw [List.length_set]; exact l1)) (x := (f_chPrev p).set m (-1)) (by rw [List.length_set]; exact l2)) (x := (f_chHead p).set m x) (by rw [List.length_set]; exact l3)
   have Es := Ed_hd (Ed_ch Ep ((f_chNext p).set m (-1)) ((f_chPrev p).set m (-1))) ((f_chHead p).set m x)
   refine okP.some ⟨⟨m + 1, by simp only; omega, by omega, hs, Es, ?_⟩, by simp only; omega⟩
   simp only
   have tt : th (s_chHead (s_chPrev (s_chNext p ((f_chNext p).set m (-1))) ((f_chPrev p).set m (-1))) ((f_chHead p).set m x)) = ((f_chNext p).set m (-1), (f_chPrev p).set m (-1), (f_chHead p).set m x) := by dsimp only [th, f_bOp, f_bD, f_bS, f_bImm, f_bTerm, f_bTest, f_bT0, f_bT1, f_cnt0, f_cnt1, f_regs, f_outs, f_edgeId, f_edgeW, f_chNext, f_chPrev, f_chHead, f_heat, f_posOf, f_order, f_cOp, f_cD, f_cS, f_cImm, f_cKind, f_cTest, f_cTaken, f_cOther, f_maxBlocks, f_maxSteps, f_n, f_arranged, f_outCount, f_steps, f_status, f_edgeN, s_bOp, s_bD, s_bS, s_bImm, s_bTerm, s_bTest, s_bT0, s_bT1, s_cnt0, s_cnt1, s_regs, s_outs, s_edgeId, s_edgeW, s_chNext, s_chPrev, s_chHead, s_heat, s_posOf, s_order, s_cOp, s_cD, s_cS, s_cImm, s_cKind, s_cTest, s_cTaken, s_cOther, s_maxBlocks, s_maxSteps, s_n, s_arranged, s_outCount, s_steps, s_status, s_edgeN]
   generalize s_chHead (s_chPrev (s_chNext p ((f_chNext p).set m (-1))) ((f_chPrev p).set m (-1))) ((f_chHead p).set m x) = q at *
   intro c hcm
   rw [show f_chNext q = _ from congrArg (fun t : List Int32 × List Int32 × List Int32 => t.1) tt, show f_chPrev q = _ from congrArg (fun t : List Int32 × List Int32 × List Int32 => t.2.1) tt, show f_chHead q = _ from congrArg (fun t : List Int32 × List Int32 × List Int32 => t.2.2) tt]
   rw [gd_set (by omega), gd_set (by omega), gd_set (by omega)]
   by_cases e : c = m
   ·subst e
    rw [if_pos rfl, if_pos rfl, if_pos rfl]
    exact ⟨rfl, rfl, hm⟩
   ·rw [if_neg e, if_neg e, if_neg e]
    exact hc c (by omega)
  ·rw [i_lt, z16] at cc
   refine okP.some ⟨hp, Ep, fun _ => 0, fun c hcn => Or.inl (hc c (by omega)).1, fun c hcn => Or.inl ⟨(hc c (by omega)).2.1, rfl, (hc c (by omega)).2.2⟩, fun c hcn => ⟨c, hcn, (hc c (by omega)).2.2, (hc c (by omega)).2.1⟩⟩
 ·rintro p ⟨hp, Ep, Cp⟩
  apply okP.bind
  refine okP.mono (P := fun p => Sh b k r i p ∧ CH n (th p)) ?_ (fun p hp => okP.some hp)
  refine okP.loop (fun w : Int32 × Ob => 0 ≤ w.1.toInt ∧ Sh b k r i w.2 ∧ Ed n w.2 ∧ CH n (th w.2)) (fun w => (32 - w.1.toInt).toNat) ⟨by show (0 : Int) ≤ 0; decide, hp, Ep, Cp⟩ (by show (32 - (0 : Int)).toNat < 4000; decide) ?_
  rintro ⟨x, q⟩ ⟨x0, hq, Eq, Cq⟩
  simp only at x0 hq Eq Cq
  unfold B28_37
  simp only
  refine okP.ite (fun c => ?_) (fun _ => okP.some ⟨hq, Cq⟩)
  refine okP.ite (fun c2 => ?_) (fun _ => okP.some ⟨hq, Cq⟩)
  rw [i_lt] at c
  rw [i_lt, z32] at c2
  have l1 := Sh_l_edgeId hq
  have e1 : (x + 1).toInt = x.toInt + 1 := inc1 (by omega)
  apply okP.bind; refine okP_agd (by omega) (by omega) (fun id hid => ?_)
  have hv := Eq.2.2 x.toInt.toNat (by omega)
  rw [← hid] at hv
  have hs := sh1 hv.1 (by omega)
  obtain ⟨u, hu⟩ : ∃ u : Nat, (id >>> ((1 : Int32) &&& 31)).toInt = u := ⟨(id.toInt / 2).toNat, by omega⟩
  have un : u < n := by omega
  have vv := G.2.2 u un
  have go : ∀ {y : Int32}, 0 ≤ y.toInt → y.toInt < n → okP (J28_87 q x (id >>> ((1 : Int32) &&& 31)) y) (fun r' => Sum.elim (fun p => Sh b k r i p ∧ CH n (th p)) (fun w : Int32 × Ob => (0 ≤ w.1.toInt ∧ Sh b k r i w.2 ∧ Ed n w.2 ∧ CH n (th w.2)) ∧ (32 - w.1.toInt).toNat < (32 - x.toInt).toNat) r') := by
   intro y y0 y1
   obtain ⟨v, hv⟩ : ∃ v : Nat, y.toInt = v := ⟨y.toInt.toNat, by omega⟩
   unfold J28_87
   apply okP.bind
   refine okP.mono (merge_ok hq n16 Eq Cq hu hv un (by omega)) ?_
   rintro q' ⟨a1, a2, a3⟩
   exact okP.some ⟨⟨by simp only; omega, a1, a2, a3⟩, by simp only; omega⟩
  refine okP.ite (fun _ => ?_) (fun _ => ?_)
  ·rw [a_t0 hq G un hu, Option.bind_some]
   exact go vv.2.1.1 vv.2.1.2
  ·rw [a_t1 hq G un hu, Option.bind_some]
   exact go vv.2.2.1 vv.2.2.2

def tp (o : Ob) : List Int32 × List Int32 := (f_posOf o, f_order o)
def HH (h : Int32) (X : List Int32) : Prop := h = h ∧ X = X
theorem th_p (o : Ob) (u v : List Int32) : th (s_posOf (s_order o u) v) = th o := by dsimp only [th, f_bOp, f_bD, f_bS, f_bImm, f_bTerm, f_bTest, f_bT0, f_bT1, f_cnt0, f_cnt1, f_regs, f_outs, f_edgeId, f_edgeW, f_chNext, f_chPrev, f_chHead, f_heat, f_posOf, f_order, f_cOp, f_cD, f_cS, f_cImm, f_cKind, f_cTest, f_cTaken, f_cOther, f_maxBlocks, f_maxSteps, f_n, f_arranged, f_outCount, f_steps, f_status, f_edgeN, s_bOp, s_bD, s_bS, s_bImm, s_bTerm, s_bTest, s_bT0, s_bT1, s_cnt0, s_cnt1, s_regs, s_outs, s_edgeId, s_edgeW, s_chNext, s_chPrev, s_chHead, s_heat, s_posOf, s_order, s_cOp, s_cD, s_cS, s_cImm, s_cKind, s_cTest, s_cTaken, s_cOther, s_maxBlocks, s_maxSteps, s_n, s_arranged, s_outCount, s_steps, s_status, s_edgeN]
theorem tp_p (o : Ob) (u v : List Int32) : tp (s_posOf (s_order o u) v) = (v, u) := by dsimp only [tp, f_bOp, f_bD, f_bS, f_bImm, f_bTerm, f_bTest, f_bT0, f_bT1, f_cnt0, f_cnt1, f_regs, f_outs, f_edgeId, f_edgeW, f_chNext, f_chPrev, f_chHead, f_heat, f_posOf, f_order, f_cOp, f_cD, f_cS, f_cImm, f_cKind, f_cTest, f_cTaken, f_cOther, f_maxBlocks, f_maxSteps, f_n, f_arranged, f_outCount, f_steps, f_status, f_edgeN, s_bOp, s_bD, s_bS, s_bImm, s_bTerm, s_bTest, s_bT0, s_bT1, s_cnt0, s_cnt1, s_regs, s_outs, s_edgeId, s_edgeW, s_chNext, s_chPrev, s_chHead, s_heat, s_posOf, s_order, s_cOp, s_cD, s_cS, s_cImm, s_cKind, s_cTest, s_cTaken, s_cOther, s_maxBlocks, s_maxSteps, s_n, s_arranged, s_outCount, s_steps, s_status, s_edgeN]
def PP (n : Nat) (o : Ob) (p : Nat) (D : Nat → Prop) : Prop := PL n (gd (f_posOf o)) (gd (f_order o)) p D
theorem PP.congr {n : Nat} {o : Ob} {p : Nat} {D D' : Nat → Prop} (h : PP n o p D) (e : ∀ c, c < n → (D c ↔ D' c)) : PP n o p D' := by
 refine ⟨fun c hc => ⟨fun d => (h.1 c hc).1 ((e c hc).2 d), fun d => (h.1 c hc).2 (fun z => d ((e c hc).1 z))⟩, fun q hq => ?_⟩
 obtain ⟨c, c1, c2, c3, c4⟩ := h.2 q hq
 exact ⟨c, c1, c2, (e c c1).1 c3, c4⟩
theorem place_ok {b : BB} {k : KK} {r : RR} {i : II} {o : Ob} (h : Sh b k r i o) {n : Nat} (n16 : n ≤ 16) {κ : Nat → Nat} (C : CK n (gd (f_chNext o)) (gd (f_chPrev o)) (gd (f_chHead o)) κ) {hh p0 : Nat} {D : Nat → Prop} (L : PP n o p0 D) (hn : hh < n) (yh : gd (f_chPrev o) hh = -1) (nd : ∀ c, c < n → gd (f_chHead o) c = (hh : Nat) → ¬ D c) {x y : Int32} (hx : x.toInt = hh) (hy : y.toInt = p0) : okP (F30 o x y) (fun w => Sh b k r i w.2 ∧ th w.2 = th o ∧ ∃ p : Nat, w.1.toInt = p ∧ p0 + 1 ≤ p ∧ PP n w.2 p (fun c => D c ∨ gd (f_chHead o) c = (hh : Nat)) ∧ gd (f_posOf w.2) hh = (p0 : Nat) ∧ ∀ c, c < n → D c → gd (f_posOf w.2) c = gd (f_posOf o) c) := by
 have z0 : (0 : Int32).toInt = 0 := rfl
 have z16 : (16 : Int32).toInt = 16 := rfl
 obtain ⟨kh, zh⟩ := C.head hn yh
 unfold F30
 apply okP.bind
 refine okP.mono (P := fun w : Int32 × Ob => Sh b k r i w.2 ∧ th w.2 = th o ∧ ∃ p : Nat, w.1.toInt = p ∧ p0 + 1 ≤ p ∧ PP n w.2 p (fun c => D c ∨ gd (f_chHead o) c = (hh : Nat)) ∧ gd (f_posOf w.2) hh = (p0 : Nat) ∧ ∀ c, c < n → D c → gd (f_posOf w.2) c = gd (f_posOf o) c) ?_ (fun w hw => okP.some hw)
 refine okP.loop (fun w : Int32 × Int32 × Int32 × Ob => ∃ j : Nat, w.2.2.1.toInt = (j : Int) ∧ j ≤ 16 ∧ w.1.toInt = (p0 + j : Nat) ∧ Sh b k r i w.2.2.2 ∧ th w.2.2.2 = th o ∧ PP n w.2.2.2 (p0 + j) (fun c => D c ∨ (gd (f_chHead o) c = (hh : Nat) ∧ κ c < j)) ∧ (j = 0 ∨ gd (f_posOf w.2.2.2) hh = (p0 : Nat)) ∧ (∀ c, c < n → D c → gd (f_posOf w.2.2.2) c = gd (f_posOf o) c) ∧ ((w.2.1.toInt = -1 ∧ ∀ c, c < n → gd (f_chHead o) c = (hh : Nat) → κ c < j) ∨ ∃ c : Nat, c < n ∧ w.2.1.toInt = c ∧ gd (f_chHead o) c = (hh : Nat) ∧ κ c = j)) (fun w => (16 - w.2.2.1.toInt).toNat) ⟨0, rfl, by omega, hy, h, rfl, L.congr (fun c _ => ⟨Or.inl, fun w => w.elim id (fun z => absurd z.2 (by omega))⟩), Or.inl rfl, fun _ _ _ => rfl, Or.inr ⟨hh, hn, hx, zh, kh⟩⟩ (by show (16 - (0 : Int)).toNat < 4000; decide) ?_
 rintro ⟨p, w, q, t⟩ ⟨j, hj, j16, hp, ht, tt, Lt, j0, keep, hw⟩
 simp only at hj hp ht tt Lt j0 keep hw
 have done : (w.toInt = -1 ∧ ∀ c, c < n → gd (f_chHead o) c = (hh : Nat) → κ c < j) → Sh b k r i t ∧ th t = th o ∧ ∃ p' : Nat, p.toInt = p' ∧ p0 + 1 ≤ p' ∧ PP n t p' (fun c => D c ∨ gd (f_chHead o) c = (hh : Nat)) ∧ gd (f_posOf t) hh = (p0 : Nat) ∧ ∀ c, c < n → D c → gd (f_posOf t) c = gd (f_posOf o) c := by
  rintro ⟨_, hw⟩
  have := hw hh hn zh
  refine ⟨ht, tt, p0 + j, hp, by omega, Lt.congr (fun c hc => ⟨fun w => w.imp id (fun z => z.1), fun w => w.imp id (fun z => ⟨z, hw c hc z⟩)⟩), j0.resolve_left (by omega), keep⟩
 unfold B30_8
 simp only
 refine okP.ite (fun cj => ?_) (fun cj => ?_)
 ·rw [i_lt, z16] at cj
  refine okP.ite (fun cw => ?_) (fun cw => ?_)
  ·rw [i_lt, z0] at cw
   rcases hw with hw | ⟨c, c1, c2, _⟩
   ·exact okP.some (done hw)
   ·omega
  ·rw [i_lt, z0] at cw
   rcases hw with hw | ⟨c, c1, c2, c3, c4⟩
   ·omega
   have nD : ¬ (D c ∨ (gd (f_chHead o) c = (hh : Nat) ∧ κ c < j)) := by
    rintro (w | w)
    ·exact nd c c1 c3 w
    ·omega
   have pn : p0 + j < n := PL.lt Lt c1 nD
   have e1 : (q + 1).toInt = q.toInt + 1 := inc1 (by omega)
   have e2 : (p + 1).toInt = p.toInt + 1 := inc1 (by omega)
   have l1 := Sh_l_posOf ht
   have l2 := Sh_l_order ht
   have l3 := Sh_l_chNext h
   have gX : f_chNext t = f_chNext o := congrArg (fun t : List Int32 × List Int32 × List Int32 => t.1) tt
   rw [if_pos (by rw [i_lt, z16]; omega), aset_at hp (by omega), Option.bind_some, aset_at c2 (by omega), Option.bind_some, gX, ag c2 (by omega), Option.bind_some]
   have hs := Sh_posOf (Sh_order ht (x := (f_order t).set (p0 + j) w) (by rw [List.length_set]; exact l2)) (x := (f_posOf t).set c p) (by rw [List.length_set]; exact l1)
   have t1 := (th_p t ((f_order t).set (p0 + j) w) ((f_posOf t).set c p)).trans tt
   have t2 := tp_p t ((f_order t).set (p0 + j) w) ((f_posOf t).set c p)
   generalize s_posOf (s_order t ((f_order t).set (p0 + j) w)) ((f_posOf t).set c p) = t' at *
   have gp : ∀ d, gd (f_posOf t') d = if d = c then ((p0 + j : Nat) : Int) else gd (f_posOf t) d := by
    intro d
    rw [show f_posOf t' = _ from congrArg (fun t : List Int32 × List Int32 => t.1) t2, gd_set (by omega), hp]
   have go : ∀ d, gd (f_order t') d = if d = p0 + j then (c : Int) else gd (f_order t) d := by
    intro d
    rw [show f_order t' = _ from congrArg (fun t : List Int32 × List Int32 => t.2) t2, gd_set (by omega), c2]
   refine okP.some ⟨⟨j + 1, by simp only; omega, by omega, by simp only; omega, hs, t1, ?_, ?_, ?_, ?_⟩, by simp only; omega⟩
   ·refine PL.put Lt c1 nD (fun d _ => gp d) (fun d _ => go d) (fun d hd => ?_)
    constructor
    ·rintro (w | ⟨w1, w2⟩)
     ·exact Or.inl (Or.inl w)
     ·by_cases e : κ d = j
      ·exact Or.inr (C.uniq j hd c1 e c4 (by rw [w1, c3]))
      ·exact Or.inl (Or.inr ⟨w1, by omega⟩)
    ·rintro ((w | ⟨w1, w2⟩) | w)
     ·exact Or.inl w
     ·exact Or.inr ⟨w1, by omega⟩
     ·subst w
      exact Or.inr ⟨c3, by omega⟩
   ·right
    rw [gp]
    rcases j0 with j0 | j0
    ·subst j0
     have : hh = c := C.uniq 0 hn c1 kh c4 (by rw [zh, c3])
     rw [if_pos this]; rfl
    ·rw [if_neg]
     ·exact j0
     ·intro e
      subst e
      have := Lt.1 hh hn
      have := this.2 nD
      omega
   ·intro d hd dd'
    rw [gp, if_neg (fun e => by subst e; exact nd d hd c3 dd')]
    exact keep d hd dd'
   ·simp only
    rcases C.1 c c1 with m | ⟨d, d0, d1, d2, d3, d4, d5⟩
    ·left
     refine ⟨m, fun c' hc' e => ?_⟩
     have := C.last c1 m hc' (by rw [e, c3])
     omega
    ·right
     exact ⟨d, d1, d2, by rw [d5]; exact c3, by omega⟩
 ·rw [i_lt, z16] at cj
  rcases hw with hw | ⟨c, c1, c2, c3, c4⟩
  ·exact okP.some (done hw)
  ·have := C.lt c1
   omega
theorem best_ok {b : BB} {k : KK} {r : RR} {i : II} {o : Ob} (h : Sh b k r i o) {n : Nat} (hn : i.2.2.1.toInt = n) (n16 : n ≤ 16) (x1 x2 : Int32) : okP (loopN (B29_49 o x1 x2) qN (-1, 1)) (fun w => (w.toInt = -1 ∧ ∀ c, 1 ≤ c → c < n → gd (f_chPrev o) c = -1 → ¬ gd (f_posOf o) c < 0) ∨ ∃ c : Nat, c < n ∧ w.toInt = c ∧ gd (f_chPrev o) c = -1 ∧ gd (f_posOf o) c < 0) := by
 have z0 : (0 : Int32).toInt = 0 := rfl
 have z16 : (16 : Int32).toInt = 16 := rfl
 have l1 := Sh_l_posOf h
 have l2 := Sh_l_chPrev h
 have l3 := Sh_l_heat h
 refine okP.loop (fun w : Int32 × Int32 => ∃ m : Nat, w.2.toInt = (m : Int) ∧ 1 ≤ m ∧ ((w.1.toInt = -1 ∧ ∀ c, 1 ≤ c → c < m → c < n → gd (f_chPrev o) c = -1 → ¬ gd (f_posOf o) c < 0) ∨ ∃ c : Nat, c < n ∧ w.1.toInt = c ∧ gd (f_chPrev o) c = -1 ∧ gd (f_posOf o) c < 0)) (fun w => (16 - w.2.toInt).toNat) ⟨1, rfl, by omega, Or.inl ⟨rfl, fun c h1 h2 => absurd h2 (by omega)⟩⟩ (by show (16 - (1 : Int)).toNat < 4000; decide) ?_
 rintro ⟨w, q⟩ ⟨m, hm, m1, hw⟩
 simp only at hm hw
 unfold B29_49
 simp only
 rw [g_n h]
 have fin : n ≤ m → (w.toInt = -1 ∧ ∀ c, 1 ≤ c → c < n → gd (f_chPrev o) c = -1 → ¬ gd (f_posOf o) c < 0) ∨ ∃ c : Nat, c < n ∧ w.toInt = c ∧ gd (f_chPrev o) c = -1 ∧ gd (f_posOf o) c < 0 := fun nm => hw.imp (fun z => ⟨z.1, fun c h1 h2 => z.2 c h1 (by omega) h2⟩) id
 refine okP.ite (fun c1 => ?_) (fun c1 => okP.some (fin (by rw [i_lt, hn] at c1; omega)))
 refine okP.ite (fun c2 => ?_) (fun c2 => okP.some (fin (by rw [i_lt, z16] at c2; omega)))
 rw [i_lt, hn] at c1
 have e1 : (q + 1).toInt = q.toInt + 1 := inc1 (by omega)
 have nx : ∀ w' : Int32, ((w'.toInt = -1 ∧ ∀ c, 1 ≤ c → c < m + 1 → c < n → gd (f_chPrev o) c = -1 → ¬ gd (f_posOf o) c < 0) ∨ ∃ c : Nat, c < n ∧ w'.toInt = c ∧ gd (f_chPrev o) c = -1 ∧ gd (f_posOf o) c < 0) → okP (J29_109 o x1 x2 w' q) (fun r' => Sum.elim (fun w : Int32 => (w.toInt = -1 ∧ ∀ c, 1 ≤ c → c < n → gd (f_chPrev o) c = -1 → ¬ gd (f_posOf o) c < 0) ∨ ∃ c : Nat, c < n ∧ w.toInt = c ∧ gd (f_chPrev o) c = -1 ∧ gd (f_posOf o) c < 0) (fun w : Int32 × Int32 => (∃ m : Nat, w.2.toInt = (m : Int) ∧ 1 ≤ m ∧ ((w.1.toInt = -1 ∧ ∀ c, 1 ≤ c → c < m → c < n → gd (f_chPrev o) c = -1 → ¬ gd (f_posOf o) c < 0) ∨ ∃ c : Nat, c < n ∧ w.1.toInt = c ∧ gd (f_chPrev o) c = -1 ∧ gd (f_posOf o) c < 0)) ∧ (16 - w.2.toInt).toNat < (16 - q.toInt).toNat) r') := by
  intro w' hw'
  exact okP.some ⟨⟨m + 1, by simp only; omega, by omega, hw'⟩, by simp only; omega⟩
 have skip : (gd (f_chPrev o) m = -1 → ¬ gd (f_posOf o) m < 0) → ((w.toInt = -1 ∧ ∀ c, 1 ≤ c → c < m + 1 → c < n → gd (f_chPrev o) c = -1 → ¬ gd (f_posOf o) c < 0) ∨ ∃ c : Nat, c < n ∧ w.toInt = c ∧ gd (f_chPrev o) c = -1 ∧ gd (f_posOf o) c < 0) := by
  intro s
  refine hw.imp (fun z => ⟨z.1, fun c h1 h2 h3 h4 => ?_⟩) id
  by_cases e : c = m
  ·subst e; exact s h4
  ·exact z.2 c h1 (by omega) h3 h4
 rw [ag hm (by omega), Option.bind_some]
 refine okP.ite (fun y1 => ?_) (fun y1 => nx w (skip (fun z => absurd (i_eq.2 (show (at' (f_chPrev o) m).toInt = (-1 : Int32).toInt from z)) y1)))
 have y1' : gd (f_chPrev o) m = -1 := by unfold gd; rw [y1]; rfl
 rw [ag hm (by omega), Option.bind_some]
 refine okP.ite (fun y2 => ?_) (fun y2 => nx w (skip (fun _ z => y2 (by rw [i_lt]; exact z))))
 have y2' : gd (f_posOf o) m < 0 := by rw [i_lt, z0] at y2; exact y2
 have me : ∃ c : Nat, c < n ∧ q.toInt = c ∧ gd (f_chPrev o) c = -1 ∧ gd (f_posOf o) c < 0 := ⟨m, by omega, hm, y1', y2'⟩
 refine okP.ite (fun _ => ?_) (fun w0 => ?_)
 ·unfold J29_106
  exact nx q (Or.inr me)
 ·rw [i_lt, z0] at w0
  rcases hw with hw | ⟨c, d1, d2, d3⟩
  ·omega
  rw [ag hm (by omega), Option.bind_some, ag d2 (by omega), Option.bind_some]
  refine nx _ (Or.inr ?_)
  split
  ·exact me
  ·exact ⟨c, d1, d2, d3⟩
theorem chains_ok {b : BB} {k : KK} {r : RR} {i : II} {o : Ob} (h : Sh b k r i o) {n : Nat} (n0 : 0 < n) (n16 : n ≤ 16) (hn : i.2.2.1.toInt = n) (C : CH n (th o)) : okP (F29 o) (fun p => Sh b k r i p ∧ PP n p n (fun _ => True) ∧ gd (f_posOf p) 0 = 0) := by
 have z0 : (0 : Int32).toInt = 0 := rfl
 have z16 : (16 : Int32).toInt = 16 := rfl
 unfold F29
 apply okP.bind
 refine okP.mono (P := fun p => Sh b k r i p ∧ th p = th o ∧ ∀ c, c < 16 → gd (f_posOf p) c = -1) ?_ ?_
 ·refine okP.loop (fun w : Int32 × Ob => ∃ m : Nat, w.1.toInt = (m : Int) ∧ m ≤ 16 ∧ Sh b k r i w.2 ∧ th w.2 = th o ∧ ∀ c, c < m → gd (f_posOf w.2) c = -1) (fun w => (16 - w.1.toInt).toNat) ⟨0, rfl, by omega, h, rfl, fun c hc => absurd hc (by omega)⟩ (by show (16 - (0 : Int)).toNat < 4000; decide) ?_
  rintro ⟨x, p⟩ ⟨m, hm, m16, hp, ht, hc⟩
  simp only at hm hp ht hc
  unfold B29_2
  simp only
  refine okP.ite (fun cc => ?_) (fun cc => ?_)
  ·rw [i_lt, z16] at cc
   have l1 := Sh_l_posOf hp
   have e1 : (x + 1).toInt = x.toInt + 1 := inc1 (by omega)
   rw [aset_at hm (by omega), Option.bind_some]
   have hs := Sh_posOf hp (x := (f_posOf p).set m (-1)) (by rw [List.length_set]; exact l1)
   have t1 : th (s_posOf p ((f_posOf p).set m (-1))) = th p := by dsimp only [th, f_bOp, f_bD, f_bS, f_bImm, f_bTerm, f_bTest, f_bT0, f_bT1, f_cnt0, f_cnt1, f_regs, f_outs, f_edgeId, f_edgeW, f_chNext, f_chPrev, f_chHead, f_heat, f_posOf, f_order, f_cOp, f_cD, f_cS, f_cImm, f_cKind, f_cTest, f_cTaken, f_cOther, f_maxBlocks, f_maxSteps, f_n, f_arranged, f_outCount, f_steps, f_status, f_edgeN, s_bOp, s_bD, s_bS, s_bImm, s_bTerm, s_bTest, s_bT0, s_bT1, s_cnt0, s_cnt1, s_regs, s_outs, s_edgeId, s_edgeW, s_chNext, s_chPrev, s_chHead, s_heat, s_posOf, s_order, s_cOp, s_cD, s_cS, s_cImm, s_cKind, s_cTest, s_cTaken, s_cOther, s_maxBlocks, s_maxSteps, s_n, s_arranged, s_outCount, s_steps, s_status, s_edgeN]
   have t2 : f_posOf (s_posOf p ((f_posOf p).set m (-1))) = (f_posOf p).set m (-1) := by dsimp only [f_bOp, f_bD, f_bS, f_bImm, f_bTerm, f_bTest, f_bT0, f_bT1, f_cnt0, f_cnt1, f_regs, f_outs, f_edgeId, f_edgeW, f_chNext, f_chPrev, f_chHead, f_heat, f_posOf, f_order, f_cOp, f_cD, f_cS, f_cImm, f_cKind, f_cTest, f_cTaken, f_cOther, f_maxBlocks, f_maxSteps, f_n, f_arranged, f_outCount, f_steps, f_status, f_edgeN, s_bOp, s_bD, s_bS, s_bImm, s_bTerm, s_bTest, s_bT0, s_bT1, s_cnt0, s_cnt1, s_regs, s_outs, s_edgeId, s_edgeW, s_chNext, s_chPrev, s_chHead, s_heat, s_posOf, s_order, s_cOp, s_cD, s_cS, s_cImm, s_cKind, s_cTest, s_cTaken, s_cOther, s_maxBlocks, s_maxSteps, s_n, s_arranged, s_outCount, s_steps, s_status, s_edgeN]
   generalize s_posOf p ((f_posOf p).set m (-1)) = q at *
   refine okP.some ⟨⟨m + 1, by simp only; omega, by omega, hs, t1.trans ht, fun c hcm => ?_⟩, by simp only; omega⟩
   simp only
   rw [t2, gd_set (by omega)]
   by_cases e : c = m
   ·rw [if_pos e]; rfl
   ·rw [if_neg e]; exact hc c (by omega)
  ·rw [i_lt, z16] at cc
   exact okP.some ⟨hp, ht, fun c hc' => hc c (by omega)⟩
 rintro p ⟨hp, ht, hneg⟩
 obtain ⟨κ, C⟩ := C
 rw [← ht] at C
 have C' : CK n (gd (f_chNext p)) (gd (f_chPrev p)) (gd (f_chHead p)) κ := C
 have L0 : PP n p 0 (fun _ => False) := ⟨fun c hc => ⟨fun z => z.elim, fun _ => hneg c (by omega)⟩, fun q hq => absurd hq (by omega)⟩
 have y0 : gd (f_chPrev p) 0 = -1 := by
  rcases C'.2.1 0 n0 with w | ⟨c, _, _, _, w⟩
  ·exact w.1
  ·exact absurd rfl w
 have zz0 : gd (f_chHead p) 0 = ((0 : Nat) : Int) := (C'.head n0 y0).2
 apply okP.bind
 refine okP.mono (place_ok hp n16 C' L0 n0 y0 (fun _ _ _ z => z) (x := 0) (y := 0) rfl rfl) ?_
 rintro ⟨w, q⟩ ⟨hq, tq, pn, e1, e2, L1, e3, _⟩
 simp only at hq tq e1 L1 e3 ⊢
 apply okP.bind
 refine okP.mono (P := fun p => Sh b k r i p ∧ PP n p n (fun _ => True) ∧ gd (f_posOf p) 0 = 0) ?_ (fun p hp => okP.some hp)
 refine okP.loop (fun w : Int32 × Int32 × Ob => ∃ (m pn : Nat) (Hd : Int → Prop), w.2.1.toInt = (m : Int) ∧ w.1.toInt = (pn : Int) ∧ m + 1 ≤ pn ∧ Sh b k r i w.2.2 ∧ th w.2.2 = th p ∧ PP n w.2.2 pn (fun c => Hd (gd (f_chHead p) c)) ∧ Hd 0 ∧ gd (f_posOf w.2.2) 0 = 0) (fun w => (16 - w.2.1.toInt).toNat) ⟨0, pn, fun t => t = 0, rfl, e1, by omega, hq, tq, L1.congr (fun c _ => ⟨fun z => z.elim False.elim id, Or.inr⟩), rfl, e3⟩ (by show (16 - (0 : Int)).toNat < 4000; decide) ?_
 rintro ⟨w, x, t⟩ ⟨m, pn, Hd, hm, hpn, mp, ht', tt, L, H0', p0⟩
 simp only at hm hpn ht' tt L p0
 have le := PL.le L
 unfold B29_30
 simp only
 have gn : (f_n t).toInt = n := by rw [g_n ht']; exact hn
 rw [if_pos (by rw [i_lt, gn]; omega), if_pos (by rw [i_lt, z16]; omega)]
 have e4 : (x + 1).toInt = x.toInt + 1 := inc1 (by omega)
 have gX : f_chNext t = f_chNext p := congrArg (fun t : List Int32 × List Int32 × List Int32 => t.1) tt
 have gY : f_chPrev t = f_chPrev p := congrArg (fun t : List Int32 × List Int32 × List Int32 => t.2.1) tt
 have gZ : f_chHead t = f_chHead p := congrArg (fun t : List Int32 × List Int32 × List Int32 => t.2.2) tt
 have Ct : CK n (gd (f_chNext t)) (gd (f_chPrev t)) (gd (f_chHead t)) κ := by rw [gX, gY, gZ]; exact C'
 apply okP.bind
 refine okP.mono (best_ok ht' hn n16 w x) ?_
 intro bw hbw
 unfold J29_115
 refine okP.ite (fun c => ?_) (fun c => ?_)
 ·rw [i_lt, z0] at c
  rcases hbw with ⟨_, hall⟩ | ⟨c', _, w2, _⟩
  ·have all : ∀ c, c < n → Hd (gd (f_chHead p) c) := by
    intro c hc
    obtain ⟨hd, h1, h2, h3⟩ := C'.2.2 c hc
    rw [h2]
    by_cases e : hd = 0
    ·subst e; exact H0'
    ·have := hall hd (by omega) h1 (by rw [gY]; exact h3)
     have zz := (C'.head h1 h3).2
     rcases Classical.em (Hd (gd (f_chHead p) hd)) with d | d
     ·rw [zz] at d; exact d
     ·have := (L.1 hd h1).2 d
      omega
   have en := PL.all L all
   subst en
   exact okP.some ⟨ht', L.congr (fun c hc => ⟨fun _ => trivial, fun _ => all c hc⟩), p0⟩
  ·omega
 ·rw [i_lt, z0] at c
  rcases hbw with ⟨w1, _⟩ | ⟨c', w1, w2, w3, w4⟩
  ·omega
  have zc : gd (f_chHead p) c' = (c' : Nat) := by rw [← gZ]; exact (Ct.head w1 w3).2
  have nD : ¬ Hd (c' : Nat) := by
   intro z
   rw [← zc] at z
   obtain ⟨q', _, q2, _⟩ := (L.1 c' w1).1 z
   omega
  apply okP.bind
  refine okP.mono (place_ok ht' n16 Ct L w1 w3 (fun d _ e => by
   show ¬ Hd (gd (f_chHead p) d)
   rw [← gZ, e]; exact nD) w2 hpn) ?_
  rintro ⟨w', t'⟩ ⟨a1, a2, pn', a3, a4, a5, _, a6⟩
  simp only at a1 a2 a3 a5 a6 ⊢
  refine okP.some ⟨⟨m + 1, pn', fun s => Hd s ∨ s = (c' : Nat), by simp only; omega, a3, by omega, a1, a2.trans tt, ?_, Or.inl H0', ?_⟩, by simp only; omega⟩
  ·rw [gZ] at a5
   exact a5
  ·have : Hd (gd (f_chHead p) 0) := by rw [zz0]; exact H0'
   exact (a6 0 n0 this).trans p0
abbrev CO := List Int32 × List Int32 × List Int32 × List Int32 × List Int32 × List Int32 × List Int32 × List Int32
def tc (o : Ob) : CO := (f_cOp o, f_cD o, f_cS o, f_cImm o, f_cKind o, f_cTest o, f_cTaken o, f_cOther o)
def TM (b : BB) (pos : Nat → Nat) (kd ts tk ot : Int32) (q c : Nat) : Prop :=
 (tm b c = 1 → (kd = 3 ∧ pos (t0 b c).toInt.toNat = q + 1) ∨ (kd = 1 ∧ tk.toInt = pos (t0 b c).toInt.toNat)) ∧
 (tm b c = 2 → kd = 2 ∧ ((ts = te b c ^^^ 4 ∧ tk.toInt = pos (t1 b c).toInt.toNat ∧ ot.toInt = pos (t0 b c).toInt.toNat) ∨ (ts = te b c ∧ tk.toInt = pos (t0 b c).toInt.toNat ∧ ot.toInt = pos (t1 b c).toInt.toNat))) ∧
 (tm b c ≠ 1 → tm b c ≠ 2 → kd = 0)
def Cell (b : BB) (pos : Nat → Nat) (x : CO) (q c : Nat) : Prop := at' x.1 q = op b c ∧ at' x.2.1 q = dd b c ∧ at' x.2.2.1 q = ss b c ∧ at' x.2.2.2.1 q = im b c ∧ TM b pos (at' x.2.2.2.2.1 q) (at' x.2.2.2.2.2.1 q) (at' x.2.2.2.2.2.2.1 q) (at' x.2.2.2.2.2.2.2 q) q c
def LC (x : CO) : Prop := x.1.length = 16 ∧ x.2.1.length = 16 ∧ x.2.2.1.length = 16 ∧ x.2.2.2.1.length = 16 ∧ x.2.2.2.2.1.length = 16 ∧ x.2.2.2.2.2.1.length = 16 ∧ x.2.2.2.2.2.2.1.length = 16 ∧ x.2.2.2.2.2.2.2.length = 16
def Lay (b : BB) (n : Nat) (x : CO) : Prop := LC x ∧ ∃ pos : Nat → Nat, pos 0 = 0 ∧ ∀ c, c < n → pos c < n ∧ Cell b pos x (pos c) c
theorem Sh.lc {b : BB} {k : KK} {r : RR} {i : II} {o : Ob} (h : Sh b k r i o) : LC (tc o) := ⟨Sh_l_cOp h, Sh_l_cD h, Sh_l_cS h, Sh_l_cImm h, Sh_l_cKind h, Sh_l_cTest h, Sh_l_cTaken h, Sh_l_cOther h⟩
theorem st_c {α : Type} {m : Option α} {P : α → Prop} (h : okP m P) : okP (m.bind fun r => some r) P := okP.bind (okP.mono h (fun _ hr => okP.some hr))
theorem term_ok {b : BB} {k : KK} {r : RR} {i : II} {o : Ob} (h : Sh b k r i o) {n q c : Nat} (G : GB b n) (hq : q < n) (hc : c < n) {pos : Nat → Nat} (hpos : ∀ d, d < n → gd (f_posOf o) d = (pos d : Nat) ∧ pos d < n) {x y : Int32} (hx : x.toInt = q) (hy : y.toInt = c) : okP (F32 o x y) (fun p => Sh b k r i p ∧ tp p = tp o ∧ ∃ kd ts tk ot, tc p = (f_cOp o, f_cD o, f_cS o, f_cImm o, (f_cKind o).set q kd, (f_cTest o).set q ts, (f_cTaken o).set q tk, (f_cOther o).set q ot) ∧ TM b pos kd ts tk ot q c) := by
 have n16 := G.2.1
 have l1 := Sh_l_cKind h
 have l2 := Sh_l_cTest h
 have l3 := Sh_l_cTaken h
 have l4 := Sh_l_cOther h
 have l5 := Sh_l_posOf h
 obtain ⟨⟨_, _⟩, ⟨v1, v2⟩, ⟨v3, v4⟩⟩ := G.2.2 c hc
 obtain ⟨u0, hu0⟩ : ∃ u : Nat, (t0 b c).toInt = u := ⟨(t0 b c).toInt.toNat, by omega⟩
 obtain ⟨u1, hu1⟩ : ∃ u : Nat, (t1 b c).toInt = u := ⟨(t1 b c).toInt.toNat, by omega⟩
 have p0 := hpos u0 (by omega)
 have p1 := hpos u1 (by omega)
 have e0 : (t0 b c).toInt.toNat = u0 := by omega
 have e1' : (t1 b c).toInt.toNat = u1 := by omega
 have e1 : (x + 1).toInt = x.toInt + 1 := inc1 (by omega)
 have ss : ∀ {α : Type} (l : List α) (v w : α), (l.set q v).set q w = l.set q w := fun l v w => List.set_set ..
 unfold F32
 rw [a_tm h G hc hy, Option.bind_some, aset_at hx (by omega), Option.bind_some, aset_at hx (by omega), Option.bind_some, aset_at hx (by omega), Option.bind_some]
 refine okP.ite (fun m1 => ?_) (fun m1 => ?_)
 ·rw [a_t0 h G hc hy, Option.bind_some, ag hu0 (by omega), Option.bind_some, aset_at hx (by rw [List.length_set]; omega), Option.bind_some, ss]
  refine okP.ite (fun pe => ?_) (fun pe => ?_)
  ·rw [aset_at hx (by omega), Option.bind_some]
   refine okP.some ⟨Sh_cKind (Sh_cTaken (Sh_cOther (Sh_cTest h (by rw [List.length_set]; exact l2)) (by rw [List.length_set]; exact l4)) (by rw [List.length_set]; exact l3)) (by rw [List.length_set]; exact l1), by dsimp only [tp, f_bOp, f_bD, f_bS, f_bImm, f_bTerm, f_bTest, f_bT0, f_bT1, f_cnt0, f_cnt1, f_regs, f_outs, f_edgeId, f_edgeW, f_chNext, f_chPrev, f_chHead, f_heat, f_posOf, f_order, f_cOp, f_cD, f_cS, f_cImm, f_cKind, f_cTest, f_cTaken, f_cOther, f_maxBlocks, f_maxSteps, f_n, f_arranged, f_outCount, f_steps, f_status, f_edgeN, s_bOp, s_bD, s_bS, s_bImm, s_bTerm, s_bTest, s_bT0, s_bT1, s_cnt0, s_cnt1, s_regs, s_outs, s_edgeId, s_edgeW, s_chNext, s_chPrev, s_chHead, s_heat, s_posOf, s_order, s_cOp, s_cD, s_cS, s_cImm, s_cKind, s_cTest, s_cTaken, s_cOther, s_maxBlocks, s_maxSteps, s_n, s_arranged, s_outCount, s_steps, s_status, s_edgeN], 3, 0, at' (f_posOf o) u0, 0, by dsimp only [tc, f_bOp, f_bD, f_bS, f_bImm, f_bTerm, f_bTest, f_bT0, f_bT1, f_cnt0, f_cnt1, f_regs, f_outs, f_edgeId, f_edgeW, f_chNext, f_chPrev, f_chHead, f_heat, f_posOf, f_order, f_cOp, f_cD, f_cS, f_cImm, f_cKind, f_cTest, f_cTaken, f_cOther, f_maxBlocks, f_maxSteps, f_n, f_arranged, f_outCount, f_steps, f_status, f_edgeN, s_bOp, s_bD, s_bS, s_bImm, s_bTerm, s_bTest, s_bT0, s_bT1, s_cnt0, s_cnt1, s_regs, s_outs, s_edgeId, s_edgeW, s_chNext, s_chPrev, s_chHead, s_heat, s_posOf, s_order, s_cOp, s_cD, s_cS, s_cImm, s_cKind, s_cTest, s_cTaken, s_cOther, s_maxBlocks, s_maxSteps, s_n, s_arranged, s_outCount, s_steps, s_status, s_edgeN], fun _ => Or.inl ⟨rfl, ?_⟩, fun w => ?_, fun w => absurd m1 w⟩
   ·rw [e0]
    rw [i_eq, e1] at pe
    have : gd (f_posOf o) u0 = x.toInt + 1 := pe
    omega
   ·rw [m1] at w; exact absurd w (by decide)
  ·rw [aset_at hx (by omega), Option.bind_some]
   refine okP.some ⟨Sh_cKind (Sh_cTaken (Sh_cOther (Sh_cTest h (by rw [List.length_set]; exact l2)) (by rw [List.length_set]; exact l4)) (by rw [List.length_set]; exact l3)) (by rw [List.length_set]; exact l1), by dsimp only [tp, f_bOp, f_bD, f_bS, f_bImm, f_bTerm, f_bTest, f_bT0, f_bT1, f_cnt0, f_cnt1, f_regs, f_outs, f_edgeId, f_edgeW, f_chNext, f_chPrev, f_chHead, f_heat, f_posOf, f_order, f_cOp, f_cD, f_cS, f_cImm, f_cKind, f_cTest, f_cTaken, f_cOther, f_maxBlocks, f_maxSteps, f_n, f_arranged, f_outCount, f_steps, f_status, f_edgeN, s_bOp, s_bD, s_bS, s_bImm, s_bTerm, s_bTest, s_bT0, s_bT1, s_cnt0, s_cnt1, s_regs, s_outs, s_edgeId, s_edgeW, s_chNext, s_chPrev, s_chHead, s_heat, s_posOf, s_order, s_cOp, s_cD, s_cS, s_cImm, s_cKind, s_cTest, s_cTaken, s_cOther, s_maxBlocks, s_maxSteps, s_n, s_arranged, s_outCount, s_steps, s_status, s_edgeN], 1, 0, at' (f_posOf o) u0, 0, by dsimp only [tc, f_bOp, f_bD, f_bS, f_bImm, f_bTerm, f_bTest, f_bT0, f_bT1, f_cnt0, f_cnt1, f_regs, f_outs, f_edgeId, f_edgeW, f_chNext, f_chPrev, f_chHead, f_heat, f_posOf, f_order, f_cOp, f_cD, f_cS, f_cImm, f_cKind, f_cTest, f_cTaken, f_cOther, f_maxBlocks, f_maxSteps, f_n, f_arranged, f_outCount, f_steps, f_status, f_edgeN, s_bOp, s_bD, s_bS, s_bImm, s_bTerm, s_bTest, s_bT0, s_bT1, s_cnt0, s_cnt1, s_regs, s_outs, s_edgeId, s_edgeW, s_chNext, s_chPrev, s_chHead, s_heat, s_posOf, s_order, s_cOp, s_cD, s_cS, s_cImm, s_cKind, s_cTest, s_cTaken, s_cOther, s_maxBlocks, s_maxSteps, s_n, s_arranged, s_outCount, s_steps, s_status, s_edgeN], fun _ => Or.inr ⟨rfl, ?_⟩, fun w => ?_, fun w => absurd m1 w⟩
   ·rw [e0]; exact p0.1
   ·rw [m1] at w; exact absurd w (by decide)
 refine okP.ite (fun m2 => ?_) (fun m2 => ?_)
 ·rw [a_t0 h G hc hy, Option.bind_some, ag hu0 (by omega), Option.bind_some, a_t1 h G hc hy, Option.bind_some, ag hu1 (by omega), Option.bind_some, aset_at hx (by omega), Option.bind_some]
  have j : okP (J32_175 (s_cKind (s_cOther (s_cTaken (s_cTest o ((f_cTest o).set q 0)) ((f_cTaken o).set q 0)) ((f_cOther o).set q 0)) ((f_cKind o).set q 2)) x y (at' (f_posOf o) u0) (at' (f_posOf o) u1)) (fun p => Sh b k r i p ∧ tp p = tp o ∧ ∃ kd ts tk ot, tc p = (f_cOp o, f_cD o, f_cS o, f_cImm o, (f_cKind o).set q kd, (f_cTest o).set q ts, (f_cTaken o).set q tk, (f_cOther o).set q ot) ∧ TM b pos kd ts tk ot q c) := by
   have hs : Sh b k r i (s_cKind (s_cOther (s_cTaken (s_cTest o ((f_cTest o).set q 0)) ((f_cTaken o).set q 0)) ((f_cOther o).set q 0)) ((f_cKind o).set q 2)) := Sh_cKind (Sh_cOther (Sh_cTaken (Sh_cTest h (by rw [List.length_set]; exact l2)) (by rw [List.length_set]; exact l3)) (by rw [List.length_set]; exact l4)) (by rw [List.length_set]; exact l1)
   have tt : tc (s_cKind (s_cOther (s_cTaken (s_cTest o ((f_cTest o).set q 0)) ((f_cTaken o).set q 0)) ((f_cOther o).set q 0)) ((f_cKind o).set q 2)) = (f_cOp o, f_cD o, f_cS o, f_cImm o, (f_cKind o).set q 2, (f_cTest o).set q 0, (f_cTaken o).set q 0, (f_cOther o).set q 0) := by dsimp only [tc, f_bOp, f_bD, f_bS, f_bImm, f_bTerm, f_bTest, f_bT0, f_bT1, f_cnt0, f_cnt1, f_regs, f_outs, f_edgeId, f_edgeW, f_chNext, f_chPrev, f_chHead, f_heat, f_posOf, f_order, f_cOp, f_cD, f_cS, f_cImm, f_cKind, f_cTest, f_cTaken, f_cOther, f_maxBlocks, f_maxSteps, f_n, f_arranged, f_outCount, f_steps, f_status, f_edgeN, s_bOp, s_bD, s_bS, s_bImm, s_bTerm, s_bTest, s_bT0, s_bT1, s_cnt0, s_cnt1, s_regs, s_outs, s_edgeId, s_edgeW, s_chNext, s_chPrev, s_chHead, s_heat, s_posOf, s_order, s_cOp, s_cD, s_cS, s_cImm, s_cKind, s_cTest, s_cTaken, s_cOther, s_maxBlocks, s_maxSteps, s_n, s_arranged, s_outCount, s_steps, s_status, s_edgeN]
   have tpp : tp (s_cKind (s_cOther (s_cTaken (s_cTest o ((f_cTest o).set q 0)) ((f_cTaken o).set q 0)) ((f_cOther o).set q 0)) ((f_cKind o).set q 2)) = tp o := by dsimp only [tp, f_bOp, f_bD, f_bS, f_bImm, f_bTerm, f_bTest, f_bT0, f_bT1, f_cnt0, f_cnt1, f_regs, f_outs, f_edgeId, f_edgeW, f_chNext, f_chPrev, f_chHead, f_heat, f_posOf, f_order, f_cOp, f_cD, f_cS, f_cImm, f_cKind, f_cTest, f_cTaken, f_cOther, f_maxBlocks, f_maxSteps, f_n, f_arranged, f_outCount, f_steps, f_status, f_edgeN, s_bOp, s_bD, s_bS, s_bImm, s_bTerm, s_bTest, s_bT0, s_bT1, s_cnt0, s_cnt1, s_regs, s_outs, s_edgeId, s_edgeW, s_chNext, s_chPrev, s_chHead, s_heat, s_posOf, s_order, s_cOp, s_cD, s_cS, s_cImm, s_cKind, s_cTest, s_cTaken, s_cOther, s_maxBlocks, s_maxSteps, s_n, s_arranged, s_outCount, s_steps, s_status, s_edgeN]
   generalize s_cKind (s_cOther (s_cTaken (s_cTest o ((f_cTest o).set q 0)) ((f_cTaken o).set q 0)) ((f_cOther o).set q 0)) ((f_cKind o).set q 2) = z at *
   have k1 : f_cTest z = _ := congrArg (fun t : CO => t.2.2.2.2.2.1) tt
   have k2 : f_cTaken z = _ := congrArg (fun t : CO => t.2.2.2.2.2.2.1) tt
   have k3 : f_cOther z = _ := congrArg (fun t : CO => t.2.2.2.2.2.2.2) tt
   simp only at k1 k2 k3
   unfold J32_175
   rw [a_te hs G hc hy, Option.bind_some, k1, k2, k3, aset_at hx (by rw [List.length_set]; omega), Option.bind_some, aset_at hx (by rw [List.length_set]; omega), Option.bind_some, aset_at hx (by rw [List.length_set]; omega), Option.bind_some, ss, ss, ss]
   refine okP.some ⟨Sh_cOther (Sh_cTaken (Sh_cTest hs (by rw [List.length_set]; exact l2)) (by rw [List.length_set]; exact l3)) (by rw [List.length_set]; exact l4), ?_, 2, te b c, at' (f_posOf o) u0, at' (f_posOf o) u1, ?_, fun w => absurd w m1, fun _ => ⟨rfl, Or.inr ⟨rfl, by rw [e0]; exact p0.1, by rw [e1']; exact p1.1⟩⟩, fun _ w => absurd m2 w⟩
   ·have : tp (s_cOther (s_cTaken (s_cTest z ((f_cTest o).set q (te b c))) ((f_cTaken o).set q (at' (f_posOf o) u0))) ((f_cOther o).set q (at' (f_posOf o) u1))) = tp z := by dsimp only [tp, f_bOp, f_bD, f_bS, f_bImm, f_bTerm, f_bTest, f_bT0, f_bT1, f_cnt0, f_cnt1, f_regs, f_outs, f_edgeId, f_edgeW, f_chNext, f_chPrev, f_chHead, f_heat, f_posOf, f_order, f_cOp, f_cD, f_cS, f_cImm, f_cKind, f_cTest, f_cTaken, f_cOther, f_maxBlocks, f_maxSteps, f_n, f_arranged, f_outCount, f_steps, f_status, f_edgeN, s_bOp, s_bD, s_bS, s_bImm, s_bTerm, s_bTest, s_bT0, s_bT1, s_cnt0, s_cnt1, s_regs, s_outs, s_edgeId, s_edgeW, s_chNext, s_chPrev, s_chHead, s_heat, s_posOf, s_order, s_cOp, s_cD, s_cS, s_cImm, s_cKind, s_cTest, s_cTaken, s_cOther, s_maxBlocks, s_maxSteps, s_n, s_arranged, s_outCount, s_steps, s_status, s_edgeN]
    exact this.trans tpp
   ·have : tc (s_cOther (s_cTaken (s_cTest z ((f_cTest o).set q (te b c))) ((f_cTaken o).set q (at' (f_posOf o) u0))) ((f_cOther o).set q (at' (f_posOf o) u1))) = (f_cOp z, f_cD z, f_cS z, f_cImm z, f_cKind z, (f_cTest o).set q (te b c), (f_cTaken o).set q (at' (f_posOf o) u0), (f_cOther o).set q (at' (f_posOf o) u1)) := by dsimp only [tc, f_bOp, f_bD, f_bS, f_bImm, f_bTerm, f_bTest, f_bT0, f_bT1, f_cnt0, f_cnt1, f_regs, f_outs, f_edgeId, f_edgeW, f_chNext, f_chPrev, f_chHead, f_heat, f_posOf, f_order, f_cOp, f_cD, f_cS, f_cImm, f_cKind, f_cTest, f_cTaken, f_cOther, f_maxBlocks, f_maxSteps, f_n, f_arranged, f_outCount, f_steps, f_status, f_edgeN, s_bOp, s_bD, s_bS, s_bImm, s_bTerm, s_bTest, s_bT0, s_bT1, s_cnt0, s_cnt1, s_regs, s_outs, s_edgeId, s_edgeW, s_chNext, s_chPrev, s_chHead, s_heat, s_posOf, s_order, s_cOp, s_cD, s_cS, s_cImm, s_cKind, s_cTest, s_cTaken, s_cOther, s_maxBlocks, s_maxSteps, s_n, s_arranged, s_outCount, s_steps, s_status, s_edgeN]
    rw [this, show f_cOp z = _ from congrArg (fun t : CO => t.1) tt, show f_cD z = _ from congrArg (fun t : CO => t.2.1) tt, show f_cS z = _ from congrArg (fun t : CO => t.2.2.1) tt, show f_cImm z = _ from congrArg (fun t : CO => t.2.2.2.1) tt, show f_cKind z = _ from congrArg (fun t : CO => t.2.2.2.2.1) tt]
  refine okP.ite (fun pe => ?_) (fun _ => j)
  refine okP.ite (fun _ => j) (fun _ => ?_)
  rw [a_te h G hc hy, Option.bind_some, aset_at hx (by rw [List.length_set]; omega), Option.bind_some, aset_at hx (by rw [List.length_set]; omega), Option.bind_some, aset_at hx (by rw [List.length_set]; omega), Option.bind_some, ss, ss, ss]
  exact okP.some ⟨Sh_cOther (Sh_cTaken (Sh_cTest (Sh_cKind h (by rw [List.length_set]; exact l1)) (by rw [List.length_set]; exact l2)) (by rw [List.length_set]; exact l3)) (by rw [List.length_set]; exact l4), by dsimp only [tp, f_bOp, f_bD, f_bS, f_bImm, f_bTerm, f_bTest, f_bT0, f_bT1, f_cnt0, f_cnt1, f_regs, f_outs, f_edgeId, f_edgeW, f_chNext, f_chPrev, f_chHead, f_heat, f_posOf, f_order, f_cOp, f_cD, f_cS, f_cImm, f_cKind, f_cTest, f_cTaken, f_cOther, f_maxBlocks, f_maxSteps, f_n, f_arranged, f_outCount, f_steps, f_status, f_edgeN, s_bOp, s_bD, s_bS, s_bImm, s_bTerm, s_bTest, s_bT0, s_bT1, s_cnt0, s_cnt1, s_regs, s_outs, s_edgeId, s_edgeW, s_chNext, s_chPrev, s_chHead, s_heat, s_posOf, s_order, s_cOp, s_cD, s_cS, s_cImm, s_cKind, s_cTest, s_cTaken, s_cOther, s_maxBlocks, s_maxSteps, s_n, s_arranged, s_outCount, s_steps, s_status, s_edgeN], 2, te b c ^^^ 4, at' (f_posOf o) u1, at' (f_posOf o) u0, by dsimp only [tc, f_bOp, f_bD, f_bS, f_bImm, f_bTerm, f_bTest, f_bT0, f_bT1, f_cnt0, f_cnt1, f_regs, f_outs, f_edgeId, f_edgeW, f_chNext, f_chPrev, f_chHead, f_heat, f_posOf, f_order, f_cOp, f_cD, f_cS, f_cImm, f_cKind, f_cTest, f_cTaken, f_cOther, f_maxBlocks, f_maxSteps, f_n, f_arranged, f_outCount, f_steps, f_status, f_edgeN, s_bOp, s_bD, s_bS, s_bImm, s_bTerm, s_bTest, s_bT0, s_bT1, s_cnt0, s_cnt1, s_regs, s_outs, s_edgeId, s_edgeW, s_chNext, s_chPrev, s_chHead, s_heat, s_posOf, s_order, s_cOp, s_cD, s_cS, s_cImm, s_cKind, s_cTest, s_cTaken, s_cOther, s_maxBlocks, s_maxSteps, s_n, s_arranged, s_outCount, s_steps, s_status, s_edgeN], fun w => absurd w m1, fun _ => ⟨rfl, Or.inl ⟨rfl, by rw [e1']; exact p1.1, by rw [e0]; exact p0.1⟩⟩, fun _ w => absurd m2 w⟩
 ·rw [aset_at hx (by omega), Option.bind_some]
  exact okP.some ⟨Sh_cKind (Sh_cOther (Sh_cTaken (Sh_cTest h (by rw [List.length_set]; exact l2)) (by rw [List.length_set]; exact l3)) (by rw [List.length_set]; exact l4)) (by rw [List.length_set]; exact l1), by dsimp only [tp, f_bOp, f_bD, f_bS, f_bImm, f_bTerm, f_bTest, f_bT0, f_bT1, f_cnt0, f_cnt1, f_regs, f_outs, f_edgeId, f_edgeW, f_chNext, f_chPrev, f_chHead, f_heat, f_posOf, f_order, f_cOp, f_cD, f_cS, f_cImm, f_cKind, f_cTest, f_cTaken, f_cOther, f_maxBlocks, f_maxSteps, f_n, f_arranged, f_outCount, f_steps, f_status, f_edgeN, s_bOp, s_bD, s_bS, s_bImm, s_bTerm, s_bTest, s_bT0, s_bT1, s_cnt0, s_cnt1, s_regs, s_outs, s_edgeId, s_edgeW, s_chNext, s_chPrev, s_chHead, s_heat, s_posOf, s_order, s_cOp, s_cD, s_cS, s_cImm, s_cKind, s_cTest, s_cTaken, s_cOther, s_maxBlocks, s_maxSteps, s_n, s_arranged, s_outCount, s_steps, s_status, s_edgeN], 0, 0, 0, 0, by dsimp only [tc, f_bOp, f_bD, f_bS, f_bImm, f_bTerm, f_bTest, f_bT0, f_bT1, f_cnt0, f_cnt1, f_regs, f_outs, f_edgeId, f_edgeW, f_chNext, f_chPrev, f_chHead, f_heat, f_posOf, f_order, f_cOp, f_cD, f_cS, f_cImm, f_cKind, f_cTest, f_cTaken, f_cOther, f_maxBlocks, f_maxSteps, f_n, f_arranged, f_outCount, f_steps, f_status, f_edgeN, s_bOp, s_bD, s_bS, s_bImm, s_bTerm, s_bTest, s_bT0, s_bT1, s_cnt0, s_cnt1, s_regs, s_outs, s_edgeId, s_edgeW, s_chNext, s_chPrev, s_chHead, s_heat, s_posOf, s_order, s_cOp, s_cD, s_cS, s_cImm, s_cKind, s_cTest, s_cTaken, s_cOther, s_maxBlocks, s_maxSteps, s_n, s_arranged, s_outCount, s_steps, s_status, s_edgeN], fun w => absurd w m1, fun w => absurd w m2, fun _ _ => rfl⟩
theorem code_ok {b : BB} {k : KK} {r : RR} {i : II} {o : Ob} (h : Sh b k r i o) {n : Nat} (G : GB b n) (n0 : 0 < n) (hn : i.2.2.1.toInt = n) (L : PP n o n (fun _ => True)) (p0 : gd (f_posOf o) 0 = 0) : okP (F31 o) (fun p => Sh b k r i p ∧ Lay b n (tc p)) := by
 have z16 : (16 : Int32).toInt = 16 := rfl
 have n16 := G.2.1
 obtain ⟨pos, hpos⟩ : ∃ pos : Nat → Nat, ∀ d, pos d = (gd (f_posOf o) d).toNat := ⟨fun d => (gd (f_posOf o) d).toNat, fun _ => rfl⟩
 have hp1 : ∀ d, d < n → gd (f_posOf o) d = (pos d : Nat) ∧ pos d < n ∧ gd (f_order o) (pos d) = (d : Nat) := by
  intro d hd
  obtain ⟨q, q1, q2, q3⟩ := (L.1 d hd).1 trivial
  have : pos d = q := by rw [hpos]; omega
  rw [this]
  exact ⟨q2, q1, q3⟩
 have lo := Sh_l_order h
 unfold F31
 apply okP.bind
 refine okP.mono (P := fun p => Sh b k r i p ∧ Lay b n (tc p)) ?_ (fun p hp => okP.some hp)
 refine okP.loop (fun w : Int32 × Ob => ∃ m : Nat, w.1.toInt = (m : Int) ∧ m ≤ n ∧ Sh b k r i w.2 ∧ tp w.2 = tp o ∧ ∀ c, c < n → pos c < m → Cell b pos (tc w.2) (pos c) c) (fun w => (16 - w.1.toInt).toNat) ⟨0, rfl, by omega, h, rfl, fun c _ hc => absurd hc (by omega)⟩ (by show (16 - (0 : Int)).toNat < 4000; decide) ?_
 rintro ⟨x, p⟩ ⟨m, hm, mn, hp, tpp, hc⟩
 simp only at hm hp tpp hc
 unfold B31_2
 simp only
 have gn : (f_n p).toInt = n := by rw [g_n hp]; exact hn
 refine okP.ite (fun c1 => ?_) (fun c1 => ?_)
 ·rw [i_lt, gn] at c1
  rw [if_pos (by rw [i_lt, z16]; omega)]
  have e1 : (x + 1).toInt = x.toInt + 1 := inc1 (by omega)
  have gO : f_order p = f_order o := congrArg (fun t : List Int32 × List Int32 => t.2) tpp
  have gP : f_posOf p = f_posOf o := congrArg (fun t : List Int32 × List Int32 => t.1) tpp
  obtain ⟨c, cn, c2, _, c3⟩ := L.2 m (by omega)
  have pc : pos c = m := by rw [hpos]; omega
  have hy : (at' (f_order o) m).toInt = c := c2
  have k1 := Sh_l_cOp hp
  have k2 := Sh_l_cD hp
  have k3 := Sh_l_cS hp
  have k4 := Sh_l_cImm hp
  rw [gO, ag hm (by omega), Option.bind_some, a_op hp G cn hy, Option.bind_some, aset_at hm (by omega), Option.bind_some, a_dd hp G cn hy, Option.bind_some, aset_at hm (by omega), Option.bind_some, a_ss hp G cn hy, Option.bind_some, aset_at hm (by omega), Option.bind_some, a_im hp G cn hy, Option.bind_some, aset_at hm (by omega), Option.bind_some]
  have hs := Sh_cImm (Sh_cS (Sh_cD (Sh_cOp hp (x := (f_cOp p).set m (op b c)) (by rw [List.length_set]; exact k1)) (x := (f_cD p).set m (dd b c)) (by rw [List.length_set]; exact k2)) (x := (f_cS p).set m (ss b c)) (by rw [List.length_set]; exact k3)) (x := (f_cImm p).set m (im b c)) (by rw [List.length_set]; exact k4)
  have t1 : tp (s_cImm (s_cS (s_cD (s_cOp p ((f_cOp p).set m (op b c))) ((f_cD p).set m (dd b c))) ((f_cS p).set m (ss b c))) ((f_cImm p).set m (im b c))) = tp p := by dsimp only [tp, f_bOp, f_bD, f_bS, f_bImm, f_bTerm, f_bTest, f_bT0, f_bT1, f_cnt0, f_cnt1, f_regs, f_outs, f_edgeId, f_edgeW, f_chNext, f_chPrev, f_chHead, f_heat, f_posOf, f_order, f_cOp, f_cD, f_cS, f_cImm, f_cKind, f_cTest, f_cTaken, f_cOther, f_maxBlocks, f_maxSteps, f_n, f_arranged, f_outCount, f_steps, f_status, f_edgeN, s_bOp, s_bD, s_bS, s_bImm, s_bTerm, s_bTest, s_bT0, s_bT1, s_cnt0, s_cnt1, s_regs, s_outs, s_edgeId, s_edgeW, s_chNext, s_chPrev, s_chHead, s_heat, s_posOf, s_order, s_cOp, s_cD, s_cS, s_cImm, s_cKind, s_cTest, s_cTaken, s_cOther, s_maxBlocks, s_maxSteps, s_n, s_arranged, s_outCount, s_steps, s_status, s_edgeN]
  have t2 : tc (s_cImm (s_cS (s_cD (s_cOp p ((f_cOp p).set m (op b c))) ((f_cD p).set m (dd b c))) ((f_cS p).set m (ss b c))) ((f_cImm p).set m (im b c))) = ((f_cOp p).set m (op b c), (f_cD p).set m (dd b c), (f_cS p).set m (ss b c), (f_cImm p).set m (im b c), f_cKind p, f_cTest p, f_cTaken p, f_cOther p) := by dsimp only [tc, f_bOp, f_bD, f_bS, f_bImm, f_bTerm, f_bTest, f_bT0, f_bT1, f_cnt0, f_cnt1, f_regs, f_outs, f_edgeId, f_edgeW, f_chNext, f_chPrev, f_chHead, f_heat, f_posOf, f_order, f_cOp, f_cD, f_cS, f_cImm, f_cKind, f_cTest, f_cTaken, f_cOther, f_maxBlocks, f_maxSteps, f_n, f_arranged, f_outCount, f_steps, f_status, f_edgeN, s_bOp, s_bD, s_bS, s_bImm, s_bTerm, s_bTest, s_bT0, s_bT1, s_cnt0, s_cnt1, s_regs, s_outs, s_edgeId, s_edgeW, s_chNext, s_chPrev, s_chHead, s_heat, s_posOf, s_order, s_cOp, s_cD, s_cS, s_cImm, s_cKind, s_cTest, s_cTaken, s_cOther, s_maxBlocks, s_maxSteps, s_n, s_arranged, s_outCount, s_steps, s_status, s_edgeN]
  generalize s_cImm (s_cS (s_cD (s_cOp p ((f_cOp p).set m (op b c))) ((f_cD p).set m (dd b c))) ((f_cS p).set m (ss b c))) ((f_cImm p).set m (im b c)) = q at *
  have gP' : f_posOf q = f_posOf o := (congrArg (fun t : List Int32 × List Int32 => t.1) t1).trans gP
  apply okP.bind
  refine okP.mono (term_ok hs G (q := m) (by omega) cn (pos := pos) (fun d hd => by rw [gP']; exact ⟨(hp1 d hd).1, (hp1 d hd).2.1⟩) hm hy) ?_
  rintro s ⟨s1, s2, kd, ts, tk, ot, s3, s4⟩
  refine okP.some ⟨⟨m + 1, by simp only; omega, by omega, s1, s2.trans (t1.trans tpp), fun d hd dm => ?_⟩, by simp only; omega⟩
  simp only
  have u1 : f_cOp q = (f_cOp p).set m (op b c) := congrArg (fun t : CO => t.1) t2
  have u2 : f_cD q = (f_cD p).set m (dd b c) := congrArg (fun t : CO => t.2.1) t2
  have u3 : f_cS q = (f_cS p).set m (ss b c) := congrArg (fun t : CO => t.2.2.1) t2
  have u4 : f_cImm q = (f_cImm p).set m (im b c) := congrArg (fun t : CO => t.2.2.2.1) t2
  have u5 : f_cKind q = f_cKind p := congrArg (fun t : CO => t.2.2.2.2.1) t2
  have u6 : f_cTest q = f_cTest p := congrArg (fun t : CO => t.2.2.2.2.2.1) t2
  have u7 : f_cTaken q = f_cTaken p := congrArg (fun t : CO => t.2.2.2.2.2.2.1) t2
  have u8 : f_cOther q = f_cOther p := congrArg (fun t : CO => t.2.2.2.2.2.2.2) t2
  rw [s3, u1, u2, u3, u4, u5, u6, u7, u8]
  have k5 := Sh_l_cKind hp
  have k6 := Sh_l_cTest hp
  have k7 := Sh_l_cTaken hp
  have k8 := Sh_l_cOther hp
  unfold Cell
  simp only
  rw [at_set (by omega), at_set (by omega), at_set (by omega), at_set (by omega), at_set (by omega), at_set (by omega), at_set (by omega), at_set (by omega)]
  by_cases e : pos d = m
  ·have : d = c := by
    have a1 := (hp1 d hd).2.2
    rw [e] at a1
    omega
   subst this
   simp only [if_pos e]
   rw [e]
   refine ⟨?_, ?_, ?_, ?_, s4⟩ <;> first | trivial | rfl
  ·simp only [if_neg e]
   exact hc d hd (by omega)
 ·rw [i_lt, gn] at c1
  have mn' : m = n := by omega
  subst mn'
  refine okP.some ⟨hp, hp.lc, pos, by rw [hpos, p0]; rfl, fun c hcn => ⟨(hp1 c hcn).2.1, hc c hcn (hp1 c hcn).2.1⟩⟩
theorem layout_ok {b : BB} {k : KK} {r : RR} {i : II} {o : Ob} (h : Sh b k r i o) {n : Nat} (G : GB b n) (K : LK k) (n0 : 0 < n) (hn : i.2.2.1.toInt = n) (ar : i.2.2.2 = 0) : okP (F25 o) (fun w => w.1 = 1 ∧ Sh b k r (i.1, i.2.1, i.2.2.1, 1) w.2 ∧ Lay b n (tc w.2)) := by
 have z0 : (0 : Int32).toInt = 0 := rfl
 have ga : f_arranged o = 0 := (congrArg (fun x : II => x.2.2.2) (h_i h)).trans ar
 unfold F25
 rw [if_pos ga, if_neg (by rw [i_eq, g_n h, hn, z0]; omega)]
 apply okP.bind
 refine okP.mono (coll_ok h G K hn) ?_
 rintro p ⟨hp, Ep⟩
 apply okP.bind
 refine okP.mono (sort_ok hp Ep) ?_
 rintro q ⟨hq, Eq⟩
 apply okP.bind
 refine okP.mono (chain_ok hq G Eq) ?_
 rintro s ⟨hs, Cs⟩
 apply okP.bind
 refine okP.mono (chains_ok hs n0 G.2.1 hn Cs) ?_
 rintro t ⟨ht, Lt, p0⟩
 apply okP.bind
 refine okP.mono (code_ok ht G n0 hn Lt p0) ?_
 rintro u ⟨hu, Lu⟩
 refine okP.some ⟨rfl, ?_, ?_⟩
 ·obtain ⟨hi, hb⟩ : (f_maxBlocks u, f_maxSteps u, f_n u, f_arranged u) = i ∧ True := ⟨h_i hu, trivial⟩
  subst hi
  dsimp only [Sh, f_bOp, f_bD, f_bS, f_bImm, f_bTerm, f_bTest, f_bT0, f_bT1, f_cnt0, f_cnt1, f_regs, f_outs, f_edgeId, f_edgeW, f_chNext, f_chPrev, f_chHead, f_heat, f_posOf, f_order, f_cOp, f_cD, f_cS, f_cImm, f_cKind, f_cTest, f_cTaken, f_cOther, f_maxBlocks, f_maxSteps, f_n, f_arranged, f_outCount, f_steps, f_status, f_edgeN, s_arranged] at hu ⊢
  exact ⟨hu.1, hu.2.1, hu.2.2.1, hu.2.2.2.1, hu.2.2.2.2.1, hu.2.2.2.2.2.1, hu.2.2.2.2.2.2.1, hu.2.2.2.2.2.2.2.1, hu.2.2.2.2.2.2.2.2.1, hu.2.2.2.2.2.2.2.2.2.1, hu.2.2.2.2.2.2.2.2.2.2.1, hu.2.2.2.2.2.2.2.2.2.2.2.1, hu.2.2.2.2.2.2.2.2.2.2.2.2.1, hu.2.2.2.2.2.2.2.2.2.2.2.2.2.1, hu.2.2.2.2.2.2.2.2.2.2.2.2.2.2.1, hu.2.2.2.2.2.2.2.2.2.2.2.2.2.2.2.1, hu.2.2.2.2.2.2.2.2.2.2.2.2.2.2.2.2.1, hu.2.2.2.2.2.2.2.2.2.2.2.2.2.2.2.2.2.1, hu.2.2.2.2.2.2.2.2.2.2.2.2.2.2.2.2.2.2.1, rfl⟩
 ·have : tc (s_arranged u 1) = tc u := by dsimp only [tc, f_bOp, f_bD, f_bS, f_bImm, f_bTerm, f_bTest, f_bT0, f_bT1, f_cnt0, f_cnt1, f_regs, f_outs, f_edgeId, f_edgeW, f_chNext, f_chPrev, f_chHead, f_heat, f_posOf, f_order, f_cOp, f_cD, f_cS, f_cImm, f_cKind, f_cTest, f_cTaken, f_cOther, f_maxBlocks, f_maxSteps, f_n, f_arranged, f_outCount, f_steps, f_status, f_edgeN, s_bOp, s_bD, s_bS, s_bImm, s_bTerm, s_bTest, s_bT0, s_bT1, s_cnt0, s_cnt1, s_regs, s_outs, s_edgeId, s_edgeW, s_chNext, s_chPrev, s_chHead, s_heat, s_posOf, s_order, s_cOp, s_cD, s_cS, s_cImm, s_cKind, s_cTest, s_cTaken, s_cOther, s_maxBlocks, s_maxSteps, s_n, s_arranged, s_outCount, s_steps, s_status, s_edgeN]
  rw [this]; exact Lu

abbrev SS := List Int32 × List Int32 × Int32
def ex (a d s m : Int32) (σ : SS) : SS :=
 if d < 0 then σ else if 3 < d then σ else if s < 0 then σ else if 3 < s then σ else
 if a = 1 then (σ.1.set d.toInt.toNat m, σ.2) else
 if a = 2 then (σ.1.set d.toInt.toNat (at' σ.1 s.toInt.toNat), σ.2) else
 if a = 3 then (σ.1.set d.toInt.toNat (at' σ.1 d.toInt.toNat + m), σ.2) else
 if a = 4 then (σ.1.set d.toInt.toNat (at' σ.1 d.toInt.toNat + at' σ.1 s.toInt.toNat), σ.2) else
 if a = 5 then (σ.1.set d.toInt.toNat (at' σ.1 d.toInt.toNat - at' σ.1 s.toInt.toNat), σ.2) else
 if a = 6 then (σ.1.set d.toInt.toNat (at' σ.1 d.toInt.toNat >>> ((1 : Int32) &&& 31)), σ.2) else
 if a = 7 then (if σ.2.2 < 0 then (σ.1, σ.2.1, σ.2.2 + 1) else if σ.2.2 < 16 then (σ.1, σ.2.1.set σ.2.2.toInt.toNat (at' σ.1 d.toInt.toNat), σ.2.2 + 1) else (σ.1, σ.2.1, σ.2.2 + 1)) else σ
def gt (o : Ob) : SS := (f_regs o, f_outs o, f_outCount o)
def pu (o : Ob) (σ : SS) : Ob := s_outCount (s_outs (s_regs o σ.1) σ.2.1) σ.2.2
theorem pu_gt (o : Ob) : pu o (gt o) = o := by
 obtain ⟨o1, o2, o3, o4, o5, o6, o7, o8, o9, o10, o11, o12, o13, o14, o15, o16, o17, o18, o19, o20, o21, o22, o23, o24, o25, o26, o27, o28, o29, o30, o31, o32, o33, o34, o35, o36⟩ := o
 rfl
theorem pu_r (o : Ob) (v : List Int32) : s_regs o v = pu o (v, f_outs o, f_outCount o) := by
 obtain ⟨o1, o2, o3, o4, o5, o6, o7, o8, o9, o10, o11, o12, o13, o14, o15, o16, o17, o18, o19, o20, o21, o22, o23, o24, o25, o26, o27, o28, o29, o30, o31, o32, o33, o34, o35, o36⟩ := o
 rfl
theorem pu_c (o : Ob) (v : Int32) : s_outCount o v = pu o (f_regs o, f_outs o, v) := by
 obtain ⟨o1, o2, o3, o4, o5, o6, o7, o8, o9, o10, o11, o12, o13, o14, o15, o16, o17, o18, o19, o20, o21, o22, o23, o24, o25, o26, o27, o28, o29, o30, o31, o32, o33, o34, o35, o36⟩ := o
 rfl
theorem pu_o (o : Ob) (u : List Int32) (v : Int32) : s_outCount (s_outs o u) v = pu o (f_regs o, u, v) := by
 obtain ⟨o1, o2, o3, o4, o5, o6, o7, o8, o9, o10, o11, o12, o13, o14, o15, o16, o17, o18, o19, o20, o21, o22, o23, o24, o25, o26, o27, o28, o29, o30, o31, o32, o33, o34, o35, o36⟩ := o
 rfl
theorem oc_o (o : Ob) (u : List Int32) : f_outCount (s_outs o u) = f_outCount o := by
 obtain ⟨o1, o2, o3, o4, o5, o6, o7, o8, o9, o10, o11, o12, o13, o14, o15, o16, o17, o18, o19, o20, o21, o22, o23, o24, o25, o26, o27, o28, o29, o30, o31, o32, o33, o34, o35, o36⟩ := o
 rfl
theorem ite_r {α β : Type} {c : Prop} [Decidable c] (f : α → β) (a b : α) : f (if c then a else b) = if c then f a else f b := by
 by_cases h : c
 ·rw [if_pos h, if_pos h]
 ·rw [if_neg h, if_neg h]
theorem op_m {o : Ob} (l4 : (f_regs o).length = 4) (l16 : (f_outs o).length = 16) (a d s m : Int32) : F13 o a d s m = some (pu o (ex a d s m (gt o))) := by
 have z0 : (0 : Int32).toInt = 0 := rfl
 have z3 : (3 : Int32).toInt = 3 := rfl
 have z16 : (16 : Int32).toInt = 16 := rfl
 rw [show gt o = (f_regs o, f_outs o, f_outCount o) from rfl]
 have pg : pu o (f_regs o, f_outs o, f_outCount o) = o := pu_gt o
 unfold F13 ex J13_192
 simp only
 by_cases d0 : d < 0
 ·rw [if_pos d0, if_pos d0, pg]
 rw [if_neg d0, if_neg d0]
 by_cases d3 : 3 < d
 ·rw [if_pos d3, if_pos d3, pg]
 rw [if_neg d3, if_neg d3]
 by_cases s0 : s < 0
 ·rw [if_pos s0, if_pos s0, pg]
 rw [if_neg s0, if_neg s0]
 by_cases s3 : 3 < s
 ·rw [if_pos s3, if_pos s3, pg]
 rw [if_neg s3, if_neg s3]
 rw [i_lt] at d0 d3 s0 s3
 have dn : d.toInt = (d.toInt.toNat : Nat) := by omega
 have sn : s.toInt = (s.toInt.toNat : Nat) := by omega
 have as : ∀ v : Int32, aset (f_regs o) d v = some ((f_regs o).set d.toInt.toNat v) := fun v => aset_at dn (by omega)
 rw [ag dn (show d.toInt.toNat < (f_regs o).length by omega), ag sn (show s.toInt.toNat < (f_regs o).length by omega)]
 simp only [Option.bind_some, as]
 by_cases a1 : a = 1
 ·rw [if_pos a1, if_pos a1, pu_r]
 rw [if_neg a1, if_neg a1]
 by_cases a2 : a = 2
 ·rw [if_pos a2, if_pos a2, pu_r]
 rw [if_neg a2, if_neg a2]
 by_cases a3 : a = 3
 ·rw [if_pos a3, if_pos a3, pu_r]
 rw [if_neg a3, if_neg a3]
 by_cases a4 : a = 4
 ·rw [if_pos a4, if_pos a4, pu_r]
 rw [if_neg a4, if_neg a4]
 by_cases a5 : a = 5
 ·rw [if_pos a5, if_pos a5, pu_r]
 rw [if_neg a5, if_neg a5]
 by_cases a6 : a = 6
 ·rw [if_pos a6, if_pos a6, pu_r]
 rw [if_neg a6, if_neg a6]
 by_cases a7 : a = 7
 ·rw [if_pos a7, if_pos a7]
  by_cases c0 : f_outCount o < 0
  ·rw [if_pos c0, if_pos c0, pu_c]
  ·rw [if_neg c0, if_neg c0]
   by_cases c1 : f_outCount o < 16
   ·rw [if_pos c1, if_pos c1]
    rw [i_lt] at c0 c1
    rw [aset_at (n := (f_outCount o).toInt.toNat) (by omega) (by omega), Option.bind_some, oc_o, pu_o]
   ·rw [if_neg c1, if_neg c1, pu_c]
 ·rw [if_neg a7, if_neg a7, pg]
theorem ite_1 {α : Type} {P : α → Prop} {c : Prop} [Decidable c] {a b : α} (h1 : c → P a) (h2 : ¬ c → P b) : P (if c then a else b) := by
 by_cases h : c
 ·rw [if_pos h]; exact h1 h
 ·rw [if_neg h]; exact h2 h
theorem ex_len (a d s m : Int32) (σ : SS) : (ex a d s m σ).1.length = σ.1.length ∧ (ex a d s m σ).2.1.length = σ.2.1.length := by
 have P : ∀ v x, (σ.1.set v x, σ.2).1.length = σ.1.length ∧ (σ.1.set v x, σ.2).2.1.length = σ.2.1.length := fun v x => ⟨List.length_set, rfl⟩
 unfold ex
 refine ite_1 (P := fun X : SS => X.1.length = σ.1.length ∧ X.2.1.length = σ.2.1.length) (fun _ => ⟨rfl, rfl⟩) (fun _ => ?_)
 refine ite_1 (P := fun X : SS => X.1.length = σ.1.length ∧ X.2.1.length = σ.2.1.length) (fun _ => ⟨rfl, rfl⟩) (fun _ => ?_)
 refine ite_1 (P := fun X : SS => X.1.length = σ.1.length ∧ X.2.1.length = σ.2.1.length) (fun _ => ⟨rfl, rfl⟩) (fun _ => ?_)
 refine ite_1 (P := fun X : SS => X.1.length = σ.1.length ∧ X.2.1.length = σ.2.1.length) (fun _ => ⟨rfl, rfl⟩) (fun _ => ?_)
 refine ite_1 (P := fun X : SS => X.1.length = σ.1.length ∧ X.2.1.length = σ.2.1.length) (fun _ => P _ _) (fun _ => ?_)
 refine ite_1 (P := fun X : SS => X.1.length = σ.1.length ∧ X.2.1.length = σ.2.1.length) (fun _ => P _ _) (fun _ => ?_)
 refine ite_1 (P := fun X : SS => X.1.length = σ.1.length ∧ X.2.1.length = σ.2.1.length) (fun _ => P _ _) (fun _ => ?_)
 refine ite_1 (P := fun X : SS => X.1.length = σ.1.length ∧ X.2.1.length = σ.2.1.length) (fun _ => P _ _) (fun _ => ?_)
 refine ite_1 (P := fun X : SS => X.1.length = σ.1.length ∧ X.2.1.length = σ.2.1.length) (fun _ => P _ _) (fun _ => ?_)
 refine ite_1 (P := fun X : SS => X.1.length = σ.1.length ∧ X.2.1.length = σ.2.1.length) (fun _ => P _ _) (fun _ => ?_)
 refine ite_1 (P := fun X : SS => X.1.length = σ.1.length ∧ X.2.1.length = σ.2.1.length) (fun _ => ?_) (fun _ => ⟨rfl, rfl⟩)
 refine ite_1 (P := fun X : SS => X.1.length = σ.1.length ∧ X.2.1.length = σ.2.1.length) (fun _ => ⟨rfl, rfl⟩) (fun _ => ?_)
 exact ite_1 (P := fun X : SS => X.1.length = σ.1.length ∧ X.2.1.length = σ.2.1.length) (fun _ => ⟨rfl, List.length_set⟩) (fun _ => ⟨rfl, rfl⟩)
def hold (t : Int32) (r : List Int32) : Bool := if (t >>> ((2 : Int32) &&& 31)) &&& 3 = 0 then decide (at' r (t &&& 3).toInt.toNat = 0) else if (t >>> ((2 : Int32) &&& 31)) &&& 3 = 1 then !decide (at' r (t &&& 3).toInt.toNat = 0) else if (t >>> ((2 : Int32) &&& 31)) &&& 3 = 2 then decide (at' r (t &&& 3).toInt.toNat < 0) else !decide (at' r (t &&& 3).toInt.toNat < 0)
def bI (b : Bool) : Int32 := if b then 1 else 0
theorem bI_d {p : Prop} [Decidable p] : (if p then some (1 : Int32) else some 0) = some (bI (decide p)) := by
 by_cases h : p <;> simp [bI, h]
theorem bI_n {p : Prop} [Decidable p] : (if p then some (0 : Int32) else some 1) = some (bI (!decide p)) := by
 by_cases h : p <;> simp [bI, h]
theorem hold_m {o : Ob} (l4 : (f_regs o).length = 4) (t : Int32) : F34 o t = some (bI (hold t (f_regs o))) := by
 have r := and_rng (x := t) (m := 3) (by decide)
 have z3 : (3 : Int32).toInt = 3 := rfl
 unfold F34 hold
 rw [ag (a := (t &&& 3).toInt.toNat) (by omega) (by omega), Option.bind_some]
 by_cases c0 : (t >>> ((2 : Int32) &&& 31)) &&& 3 = 0
 ·rw [if_pos c0, if_pos c0, bI_d]
 rw [if_neg c0, if_neg c0]
 by_cases c1 : (t >>> ((2 : Int32) &&& 31)) &&& 3 = 1
 ·rw [if_pos c1, if_pos c1, bI_n]
 rw [if_neg c1, if_neg c1]
 by_cases c2 : (t >>> ((2 : Int32) &&& 31)) &&& 3 = 2
 ·rw [if_pos c2, if_pos c2, bI_d]
 rw [if_neg c2, if_neg c2, bI_n]
theorem hold_x {t : Int32} (h0 : 0 ≤ t.toInt) (h1 : t.toInt ≤ 15) (r : List Int32) : hold (t ^^^ 4) r = !hold t r := by
 have e1 : (t ^^^ 4) &&& 3 = t &&& 3 := small_cases (P := fun t => (t ^^^ 4) &&& 3 = t &&& 3) h0 (n := 16) (by omega) (by decide)
 have e2 := small_cases (P := fun t => ((t >>> ((2 : Int32) &&& 31)) &&& 3 = 0 ∧ ((t ^^^ 4) >>> ((2 : Int32) &&& 31)) &&& 3 = 1) ∨ ((t >>> ((2 : Int32) &&& 31)) &&& 3 = 1 ∧ ((t ^^^ 4) >>> ((2 : Int32) &&& 31)) &&& 3 = 0) ∨ ((t >>> ((2 : Int32) &&& 31)) &&& 3 = 2 ∧ ((t ^^^ 4) >>> ((2 : Int32) &&& 31)) &&& 3 = 3) ∨ ((t >>> ((2 : Int32) &&& 31)) &&& 3 = 3 ∧ ((t ^^^ 4) >>> ((2 : Int32) &&& 31)) &&& 3 = 2)) h0 (n := 16) (by omega) (by decide)
 have n10 : ¬ (1 : Int32) = 0 := by decide
 have n20 : ¬ (2 : Int32) = 0 := by decide
 have n21 : ¬ (2 : Int32) = 1 := by decide
 have n30 : ¬ (3 : Int32) = 0 := by decide
 have n31 : ¬ (3 : Int32) = 1 := by decide
 have n32 : ¬ (3 : Int32) = 2 := by decide
 unfold hold
 rw [e1]
 rcases e2 with ⟨a, c⟩ | ⟨a, c⟩ | ⟨a, c⟩ | ⟨a, c⟩ <;> rw [a, c] <;> simp only [n10, n20, n21, n30, n31, n32, if_true, if_false, Bool.not_not]
def slot (b : BB) (c : Nat) (r : List Int32) : Nat := if tm b c = 1 then 0 else if tm b c = 2 then (if hold (te b c) r then 0 else 1) else 2
def dest (b : BB) (c s : Nat) : Nat := if s = 0 then (t0 b c).toInt.toNat else (t1 b c).toInt.toNat
def bump (k : KK) (c s : Nat) : KK := if s = 0 then (k.1.set c (at' k.1 c + 1), k.2) else if s = 1 then (k.1, k.2.set c (at' k.2 c + 1)) else k
def ob (b : BB) (c : Nat) (σ : SS) : SS := ex (op b c) (dd b c) (ss b c) (im b c) σ
def runP (b : BB) : Nat → Nat → SS → KK → Int32 → Int32 × SS × KK × Int32
 | 0, _, σ, k, t => (2, σ, k, t)
 | f + 1, c, σ, k, t => if slot b c (ob b c σ).1 = 2 then (1, ob b c σ, k, t + 1) else runP b f (dest b c (slot b c (ob b c σ).1)) (ob b c σ) (bump k c (slot b c (ob b c σ).1)) (t + 1)
theorem bump_len {k : KK} (K : LK k) (c s : Nat) : LK (bump k c s) := by
 unfold bump
 repeat' split
 ·exact ⟨by simp only [List.length_set]; exact K.1, K.2⟩
 ·exact ⟨K.1, by simp only [List.length_set]; exact K.2⟩
 ·exact K
theorem dest_lt {b : BB} {n c : Nat} (G : GB b n) (hc : c < n) (s : Nat) : dest b c s < n := by
 obtain ⟨_, ⟨v1, v2⟩, ⟨v3, v4⟩⟩ := G.2.2 c hc
 unfold dest
 split <;> omega
def lay (o : Ob) : List Int32 × List Int32 × List Int32 × List Int32 × List Int32 × List Int32 × List Int32 × List Int32 × CO := (f_edgeId o, f_edgeW o, f_chNext o, f_chPrev o, f_chHead o, f_heat o, f_posOf o, f_order o, f_cOp o, f_cD o, f_cS o, f_cImm o, f_cKind o, f_cTest o, f_cTaken o, f_cOther o)
def tb (o : Ob) : BB := (f_bOp o, f_bD o, f_bS o, f_bImm o, f_bTerm o, f_bTest o, f_bT0 o, f_bT1 o)
def tk (o : Ob) : KK := (f_cnt0 o, f_cnt1 o)
def tr (o : Ob) : RR := (f_regs o, f_outs o, f_outCount o, f_steps o, f_status o)
def ti (o : Ob) : II := (f_maxBlocks o, f_maxSteps o, f_n o, f_arranged o)
abbrev LT := List Int32 × List Int32 × List Int32 × List Int32 × List Int32 × List Int32 × List Int32 × List Int32 × CO
def LN (x : LT) : Prop := x.1.length = 32 ∧ x.2.1.length = 32 ∧ x.2.2.1.length = 16 ∧ x.2.2.2.1.length = 16 ∧ x.2.2.2.2.1.length = 16 ∧ x.2.2.2.2.2.1.length = 16 ∧ x.2.2.2.2.2.2.1.length = 16 ∧ x.2.2.2.2.2.2.2.1.length = 16 ∧ LC x.2.2.2.2.2.2.2.2
theorem Sh.of {o : Ob} (L : LN (lay o)) : Sh (tb o) (tk o) (tr o) (ti o) o := by
 obtain ⟨a1, a2, a3, a4, a5, a6, a7, a8, a9, a10, a11, a12, a13, a14, a15, a16⟩ := L
 exact ⟨a1, a2, a3, a4, a5, a6, a7, a8, a9, a10, a11, a12, a13, a14, a15, a16, rfl, rfl, rfl, rfl⟩
theorem Sh.ln {b : BB} {k : KK} {r : RR} {i : II} {o : Ob} (h : Sh b k r i o) : LN (lay o) := ⟨Sh_l_edgeId h, Sh_l_edgeW h, Sh_l_chNext h, Sh_l_chPrev h, Sh_l_chHead h, Sh_l_heat h, Sh_l_posOf h, Sh_l_order h, h.lc⟩
theorem Sh.to {b : BB} {k : KK} {r : RR} {i : II} {o : Ob} (h : Sh b k r i o) {p : Ob} {b' : BB} {k' : KK} {r' : RR} {i' : II} (hl : lay p = lay o) (hb : tb p = b') (hk : tk p = k') (hr : tr p = r') (hi : ti p = i') : Sh b' k' r' i' p := by
 have := Sh.of (o := p) (by rw [hl]; exact h.ln)
 rw [hb, hk, hr, hi] at this
 exact this
theorem w_pu {b : BB} {k : KK} {r : RR} {i : II} {o : Ob} (h : Sh b k r i o) (σ : SS) : Sh b k (σ.1, σ.2.1, σ.2.2, r.2.2.2) i (pu o σ) := by
 refine h.to (by dsimp only [lay, pu, f_bOp, f_bD, f_bS, f_bImm, f_bTerm, f_bTest, f_bT0, f_bT1, f_cnt0, f_cnt1, f_regs, f_outs, f_edgeId, f_edgeW, f_chNext, f_chPrev, f_chHead, f_heat, f_posOf, f_order, f_cOp, f_cD, f_cS, f_cImm, f_cKind, f_cTest, f_cTaken, f_cOther, f_maxBlocks, f_maxSteps, f_n, f_arranged, f_outCount, f_steps, f_status, f_edgeN, s_bOp, s_bD, s_bS, s_bImm, s_bTerm, s_bTest, s_bT0, s_bT1, s_cnt0, s_cnt1, s_regs, s_outs, s_edgeId, s_edgeW, s_chNext, s_chPrev, s_chHead, s_heat, s_posOf, s_order, s_cOp, s_cD, s_cS, s_cImm, s_cKind, s_cTest, s_cTaken, s_cOther, s_maxBlocks, s_maxSteps, s_n, s_arranged, s_outCount, s_steps, s_status, s_edgeN]) ?_ ?_ ?_ ?_
 ·exact (show tb (pu o σ) = tb o by dsimp only [tb, pu, f_bOp, f_bD, f_bS, f_bImm, f_bTerm, f_bTest, f_bT0, f_bT1, f_cnt0, f_cnt1, f_regs, f_outs, f_edgeId, f_edgeW, f_chNext, f_chPrev, f_chHead, f_heat, f_posOf, f_order, f_cOp, f_cD, f_cS, f_cImm, f_cKind, f_cTest, f_cTaken, f_cOther, f_maxBlocks, f_maxSteps, f_n, f_arranged, f_outCount, f_steps, f_status, f_edgeN, s_bOp, s_bD, s_bS, s_bImm, s_bTerm, s_bTest, s_bT0, s_bT1, s_cnt0, s_cnt1, s_regs, s_outs, s_edgeId, s_edgeW, s_chNext, s_chPrev, s_chHead, s_heat, s_posOf, s_order, s_cOp, s_cD, s_cS, s_cImm, s_cKind, s_cTest, s_cTaken, s_cOther, s_maxBlocks, s_maxSteps, s_n, s_arranged, s_outCount, s_steps, s_status, s_edgeN]).trans (h_b h)
 ·exact (show tk (pu o σ) = tk o by dsimp only [tk, pu, f_bOp, f_bD, f_bS, f_bImm, f_bTerm, f_bTest, f_bT0, f_bT1, f_cnt0, f_cnt1, f_regs, f_outs, f_edgeId, f_edgeW, f_chNext, f_chPrev, f_chHead, f_heat, f_posOf, f_order, f_cOp, f_cD, f_cS, f_cImm, f_cKind, f_cTest, f_cTaken, f_cOther, f_maxBlocks, f_maxSteps, f_n, f_arranged, f_outCount, f_steps, f_status, f_edgeN, s_bOp, s_bD, s_bS, s_bImm, s_bTerm, s_bTest, s_bT0, s_bT1, s_cnt0, s_cnt1, s_regs, s_outs, s_edgeId, s_edgeW, s_chNext, s_chPrev, s_chHead, s_heat, s_posOf, s_order, s_cOp, s_cD, s_cS, s_cImm, s_cKind, s_cTest, s_cTaken, s_cOther, s_maxBlocks, s_maxSteps, s_n, s_arranged, s_outCount, s_steps, s_status, s_edgeN]).trans (h_k h)
 ·rw [← h_r h]; dsimp only [tr, pu, f_bOp, f_bD, f_bS, f_bImm, f_bTerm, f_bTest, f_bT0, f_bT1, f_cnt0, f_cnt1, f_regs, f_outs, f_edgeId, f_edgeW, f_chNext, f_chPrev, f_chHead, f_heat, f_posOf, f_order, f_cOp, f_cD, f_cS, f_cImm, f_cKind, f_cTest, f_cTaken, f_cOther, f_maxBlocks, f_maxSteps, f_n, f_arranged, f_outCount, f_steps, f_status, f_edgeN, s_bOp, s_bD, s_bS, s_bImm, s_bTerm, s_bTest, s_bT0, s_bT1, s_cnt0, s_cnt1, s_regs, s_outs, s_edgeId, s_edgeW, s_chNext, s_chPrev, s_chHead, s_heat, s_posOf, s_order, s_cOp, s_cD, s_cS, s_cImm, s_cKind, s_cTest, s_cTaken, s_cOther, s_maxBlocks, s_maxSteps, s_n, s_arranged, s_outCount, s_steps, s_status, s_edgeN]
 ·exact (show ti (pu o σ) = ti o by dsimp only [ti, pu, f_bOp, f_bD, f_bS, f_bImm, f_bTerm, f_bTest, f_bT0, f_bT1, f_cnt0, f_cnt1, f_regs, f_outs, f_edgeId, f_edgeW, f_chNext, f_chPrev, f_chHead, f_heat, f_posOf, f_order, f_cOp, f_cD, f_cS, f_cImm, f_cKind, f_cTest, f_cTaken, f_cOther, f_maxBlocks, f_maxSteps, f_n, f_arranged, f_outCount, f_steps, f_status, f_edgeN, s_bOp, s_bD, s_bS, s_bImm, s_bTerm, s_bTest, s_bT0, s_bT1, s_cnt0, s_cnt1, s_regs, s_outs, s_edgeId, s_edgeW, s_chNext, s_chPrev, s_chHead, s_heat, s_posOf, s_order, s_cOp, s_cD, s_cS, s_cImm, s_cKind, s_cTest, s_cTaken, s_cOther, s_maxBlocks, s_maxSteps, s_n, s_arranged, s_outCount, s_steps, s_status, s_edgeN]).trans (h_i h)
theorem w_st {b : BB} {k : KK} {r : RR} {i : II} {o : Ob} (h : Sh b k r i o) (t : Int32) : Sh b k (r.1, r.2.1, r.2.2.1, t, r.2.2.2.2) i (s_steps o t) := by
 refine h.to (by dsimp only [lay, f_bOp, f_bD, f_bS, f_bImm, f_bTerm, f_bTest, f_bT0, f_bT1, f_cnt0, f_cnt1, f_regs, f_outs, f_edgeId, f_edgeW, f_chNext, f_chPrev, f_chHead, f_heat, f_posOf, f_order, f_cOp, f_cD, f_cS, f_cImm, f_cKind, f_cTest, f_cTaken, f_cOther, f_maxBlocks, f_maxSteps, f_n, f_arranged, f_outCount, f_steps, f_status, f_edgeN, s_bOp, s_bD, s_bS, s_bImm, s_bTerm, s_bTest, s_bT0, s_bT1, s_cnt0, s_cnt1, s_regs, s_outs, s_edgeId, s_edgeW, s_chNext, s_chPrev, s_chHead, s_heat, s_posOf, s_order, s_cOp, s_cD, s_cS, s_cImm, s_cKind, s_cTest, s_cTaken, s_cOther, s_maxBlocks, s_maxSteps, s_n, s_arranged, s_outCount, s_steps, s_status, s_edgeN]) ?_ ?_ ?_ ?_
 ·exact (show tb (s_steps o t) = tb o by dsimp only [tb, f_bOp, f_bD, f_bS, f_bImm, f_bTerm, f_bTest, f_bT0, f_bT1, f_cnt0, f_cnt1, f_regs, f_outs, f_edgeId, f_edgeW, f_chNext, f_chPrev, f_chHead, f_heat, f_posOf, f_order, f_cOp, f_cD, f_cS, f_cImm, f_cKind, f_cTest, f_cTaken, f_cOther, f_maxBlocks, f_maxSteps, f_n, f_arranged, f_outCount, f_steps, f_status, f_edgeN, s_bOp, s_bD, s_bS, s_bImm, s_bTerm, s_bTest, s_bT0, s_bT1, s_cnt0, s_cnt1, s_regs, s_outs, s_edgeId, s_edgeW, s_chNext, s_chPrev, s_chHead, s_heat, s_posOf, s_order, s_cOp, s_cD, s_cS, s_cImm, s_cKind, s_cTest, s_cTaken, s_cOther, s_maxBlocks, s_maxSteps, s_n, s_arranged, s_outCount, s_steps, s_status, s_edgeN]).trans (h_b h)
 ·exact (show tk (s_steps o t) = tk o by dsimp only [tk, f_bOp, f_bD, f_bS, f_bImm, f_bTerm, f_bTest, f_bT0, f_bT1, f_cnt0, f_cnt1, f_regs, f_outs, f_edgeId, f_edgeW, f_chNext, f_chPrev, f_chHead, f_heat, f_posOf, f_order, f_cOp, f_cD, f_cS, f_cImm, f_cKind, f_cTest, f_cTaken, f_cOther, f_maxBlocks, f_maxSteps, f_n, f_arranged, f_outCount, f_steps, f_status, f_edgeN, s_bOp, s_bD, s_bS, s_bImm, s_bTerm, s_bTest, s_bT0, s_bT1, s_cnt0, s_cnt1, s_regs, s_outs, s_edgeId, s_edgeW, s_chNext, s_chPrev, s_chHead, s_heat, s_posOf, s_order, s_cOp, s_cD, s_cS, s_cImm, s_cKind, s_cTest, s_cTaken, s_cOther, s_maxBlocks, s_maxSteps, s_n, s_arranged, s_outCount, s_steps, s_status, s_edgeN]).trans (h_k h)
 ·rw [← h_r h]; dsimp only [tr, f_bOp, f_bD, f_bS, f_bImm, f_bTerm, f_bTest, f_bT0, f_bT1, f_cnt0, f_cnt1, f_regs, f_outs, f_edgeId, f_edgeW, f_chNext, f_chPrev, f_chHead, f_heat, f_posOf, f_order, f_cOp, f_cD, f_cS, f_cImm, f_cKind, f_cTest, f_cTaken, f_cOther, f_maxBlocks, f_maxSteps, f_n, f_arranged, f_outCount, f_steps, f_status, f_edgeN, s_bOp, s_bD, s_bS, s_bImm, s_bTerm, s_bTest, s_bT0, s_bT1, s_cnt0, s_cnt1, s_regs, s_outs, s_edgeId, s_edgeW, s_chNext, s_chPrev, s_chHead, s_heat, s_posOf, s_order, s_cOp, s_cD, s_cS, s_cImm, s_cKind, s_cTest, s_cTaken, s_cOther, s_maxBlocks, s_maxSteps, s_n, s_arranged, s_outCount, s_steps, s_status, s_edgeN]
 ·exact (show ti (s_steps o t) = ti o by dsimp only [ti, f_bOp, f_bD, f_bS, f_bImm, f_bTerm, f_bTest, f_bT0, f_bT1, f_cnt0, f_cnt1, f_regs, f_outs, f_edgeId, f_edgeW, f_chNext, f_chPrev, f_chHead, f_heat, f_posOf, f_order, f_cOp, f_cD, f_cS, f_cImm, f_cKind, f_cTest, f_cTaken, f_cOther, f_maxBlocks, f_maxSteps, f_n, f_arranged, f_outCount, f_steps, f_status, f_edgeN, s_bOp, s_bD, s_bS, s_bImm, s_bTerm, s_bTest, s_bT0, s_bT1, s_cnt0, s_cnt1, s_regs, s_outs, s_edgeId, s_edgeW, s_chNext, s_chPrev, s_chHead, s_heat, s_posOf, s_order, s_cOp, s_cD, s_cS, s_cImm, s_cKind, s_cTest, s_cTaken, s_cOther, s_maxBlocks, s_maxSteps, s_n, s_arranged, s_outCount, s_steps, s_status, s_edgeN]).trans (h_i h)
theorem w_ss {b : BB} {k : KK} {r : RR} {i : II} {o : Ob} (h : Sh b k r i o) (t : Int32) : Sh b k (r.1, r.2.1, r.2.2.1, r.2.2.2.1, t) i (s_status o t) := by
 refine h.to (by dsimp only [lay, f_bOp, f_bD, f_bS, f_bImm, f_bTerm, f_bTest, f_bT0, f_bT1, f_cnt0, f_cnt1, f_regs, f_outs, f_edgeId, f_edgeW, f_chNext, f_chPrev, f_chHead, f_heat, f_posOf, f_order, f_cOp, f_cD, f_cS, f_cImm, f_cKind, f_cTest, f_cTaken, f_cOther, f_maxBlocks, f_maxSteps, f_n, f_arranged, f_outCount, f_steps, f_status, f_edgeN, s_bOp, s_bD, s_bS, s_bImm, s_bTerm, s_bTest, s_bT0, s_bT1, s_cnt0, s_cnt1, s_regs, s_outs, s_edgeId, s_edgeW, s_chNext, s_chPrev, s_chHead, s_heat, s_posOf, s_order, s_cOp, s_cD, s_cS, s_cImm, s_cKind, s_cTest, s_cTaken, s_cOther, s_maxBlocks, s_maxSteps, s_n, s_arranged, s_outCount, s_steps, s_status, s_edgeN]) ?_ ?_ ?_ ?_
 ·exact (show tb (s_status o t) = tb o by dsimp only [tb, f_bOp, f_bD, f_bS, f_bImm, f_bTerm, f_bTest, f_bT0, f_bT1, f_cnt0, f_cnt1, f_regs, f_outs, f_edgeId, f_edgeW, f_chNext, f_chPrev, f_chHead, f_heat, f_posOf, f_order, f_cOp, f_cD, f_cS, f_cImm, f_cKind, f_cTest, f_cTaken, f_cOther, f_maxBlocks, f_maxSteps, f_n, f_arranged, f_outCount, f_steps, f_status, f_edgeN, s_bOp, s_bD, s_bS, s_bImm, s_bTerm, s_bTest, s_bT0, s_bT1, s_cnt0, s_cnt1, s_regs, s_outs, s_edgeId, s_edgeW, s_chNext, s_chPrev, s_chHead, s_heat, s_posOf, s_order, s_cOp, s_cD, s_cS, s_cImm, s_cKind, s_cTest, s_cTaken, s_cOther, s_maxBlocks, s_maxSteps, s_n, s_arranged, s_outCount, s_steps, s_status, s_edgeN]).trans (h_b h)
 ·exact (show tk (s_status o t) = tk o by dsimp only [tk, f_bOp, f_bD, f_bS, f_bImm, f_bTerm, f_bTest, f_bT0, f_bT1, f_cnt0, f_cnt1, f_regs, f_outs, f_edgeId, f_edgeW, f_chNext, f_chPrev, f_chHead, f_heat, f_posOf, f_order, f_cOp, f_cD, f_cS, f_cImm, f_cKind, f_cTest, f_cTaken, f_cOther, f_maxBlocks, f_maxSteps, f_n, f_arranged, f_outCount, f_steps, f_status, f_edgeN, s_bOp, s_bD, s_bS, s_bImm, s_bTerm, s_bTest, s_bT0, s_bT1, s_cnt0, s_cnt1, s_regs, s_outs, s_edgeId, s_edgeW, s_chNext, s_chPrev, s_chHead, s_heat, s_posOf, s_order, s_cOp, s_cD, s_cS, s_cImm, s_cKind, s_cTest, s_cTaken, s_cOther, s_maxBlocks, s_maxSteps, s_n, s_arranged, s_outCount, s_steps, s_status, s_edgeN]).trans (h_k h)
 ·rw [← h_r h]; dsimp only [tr, f_bOp, f_bD, f_bS, f_bImm, f_bTerm, f_bTest, f_bT0, f_bT1, f_cnt0, f_cnt1, f_regs, f_outs, f_edgeId, f_edgeW, f_chNext, f_chPrev, f_chHead, f_heat, f_posOf, f_order, f_cOp, f_cD, f_cS, f_cImm, f_cKind, f_cTest, f_cTaken, f_cOther, f_maxBlocks, f_maxSteps, f_n, f_arranged, f_outCount, f_steps, f_status, f_edgeN, s_bOp, s_bD, s_bS, s_bImm, s_bTerm, s_bTest, s_bT0, s_bT1, s_cnt0, s_cnt1, s_regs, s_outs, s_edgeId, s_edgeW, s_chNext, s_chPrev, s_chHead, s_heat, s_posOf, s_order, s_cOp, s_cD, s_cS, s_cImm, s_cKind, s_cTest, s_cTaken, s_cOther, s_maxBlocks, s_maxSteps, s_n, s_arranged, s_outCount, s_steps, s_status, s_edgeN]
 ·exact (show ti (s_status o t) = ti o by dsimp only [ti, f_bOp, f_bD, f_bS, f_bImm, f_bTerm, f_bTest, f_bT0, f_bT1, f_cnt0, f_cnt1, f_regs, f_outs, f_edgeId, f_edgeW, f_chNext, f_chPrev, f_chHead, f_heat, f_posOf, f_order, f_cOp, f_cD, f_cS, f_cImm, f_cKind, f_cTest, f_cTaken, f_cOther, f_maxBlocks, f_maxSteps, f_n, f_arranged, f_outCount, f_steps, f_status, f_edgeN, s_bOp, s_bD, s_bS, s_bImm, s_bTerm, s_bTest, s_bT0, s_bT1, s_cnt0, s_cnt1, s_regs, s_outs, s_edgeId, s_edgeW, s_chNext, s_chPrev, s_chHead, s_heat, s_posOf, s_order, s_cOp, s_cD, s_cS, s_cImm, s_cKind, s_cTest, s_cTaken, s_cOther, s_maxBlocks, s_maxSteps, s_n, s_arranged, s_outCount, s_steps, s_status, s_edgeN]).trans (h_i h)
theorem wc_0 {b : BB} {k : KK} {r : RR} {i : II} {o : Ob} (h : Sh b k r i o) (t : List Int32) : Sh b (t, k.2) r i (s_cnt0 o t) := by
 refine h.to (by dsimp only [lay, f_bOp, f_bD, f_bS, f_bImm, f_bTerm, f_bTest, f_bT0, f_bT1, f_cnt0, f_cnt1, f_regs, f_outs, f_edgeId, f_edgeW, f_chNext, f_chPrev, f_chHead, f_heat, f_posOf, f_order, f_cOp, f_cD, f_cS, f_cImm, f_cKind, f_cTest, f_cTaken, f_cOther, f_maxBlocks, f_maxSteps, f_n, f_arranged, f_outCount, f_steps, f_status, f_edgeN, s_bOp, s_bD, s_bS, s_bImm, s_bTerm, s_bTest, s_bT0, s_bT1, s_cnt0, s_cnt1, s_regs, s_outs, s_edgeId, s_edgeW, s_chNext, s_chPrev, s_chHead, s_heat, s_posOf, s_order, s_cOp, s_cD, s_cS, s_cImm, s_cKind, s_cTest, s_cTaken, s_cOther, s_maxBlocks, s_maxSteps, s_n, s_arranged, s_outCount, s_steps, s_status, s_edgeN]) ?_ ?_ ?_ ?_
 ·exact (show tb (s_cnt0 o t) = tb o by dsimp only [tb, f_bOp, f_bD, f_bS, f_bImm, f_bTerm, f_bTest, f_bT0, f_bT1, f_cnt0, f_cnt1, f_regs, f_outs, f_edgeId, f_edgeW, f_chNext, f_chPrev, f_chHead, f_heat, f_posOf, f_order, f_cOp, f_cD, f_cS, f_cImm, f_cKind, f_cTest, f_cTaken, f_cOther, f_maxBlocks, f_maxSteps, f_n, f_arranged, f_outCount, f_steps, f_status, f_edgeN, s_bOp, s_bD, s_bS, s_bImm, s_bTerm, s_bTest, s_bT0, s_bT1, s_cnt0, s_cnt1, s_regs, s_outs, s_edgeId, s_edgeW, s_chNext, s_chPrev, s_chHead, s_heat, s_posOf, s_order, s_cOp, s_cD, s_cS, s_cImm, s_cKind, s_cTest, s_cTaken, s_cOther, s_maxBlocks, s_maxSteps, s_n, s_arranged, s_outCount, s_steps, s_status, s_edgeN]).trans (h_b h)
 ·rw [← h_k h]; dsimp only [tk, f_bOp, f_bD, f_bS, f_bImm, f_bTerm, f_bTest, f_bT0, f_bT1, f_cnt0, f_cnt1, f_regs, f_outs, f_edgeId, f_edgeW, f_chNext, f_chPrev, f_chHead, f_heat, f_posOf, f_order, f_cOp, f_cD, f_cS, f_cImm, f_cKind, f_cTest, f_cTaken, f_cOther, f_maxBlocks, f_maxSteps, f_n, f_arranged, f_outCount, f_steps, f_status, f_edgeN, s_bOp, s_bD, s_bS, s_bImm, s_bTerm, s_bTest, s_bT0, s_bT1, s_cnt0, s_cnt1, s_regs, s_outs, s_edgeId, s_edgeW, s_chNext, s_chPrev, s_chHead, s_heat, s_posOf, s_order, s_cOp, s_cD, s_cS, s_cImm, s_cKind, s_cTest, s_cTaken, s_cOther, s_maxBlocks, s_maxSteps, s_n, s_arranged, s_outCount, s_steps, s_status, s_edgeN]
 ·exact (show tr (s_cnt0 o t) = tr o by dsimp only [tr, f_bOp, f_bD, f_bS, f_bImm, f_bTerm, f_bTest, f_bT0, f_bT1, f_cnt0, f_cnt1, f_regs, f_outs, f_edgeId, f_edgeW, f_chNext, f_chPrev, f_chHead, f_heat, f_posOf, f_order, f_cOp, f_cD, f_cS, f_cImm, f_cKind, f_cTest, f_cTaken, f_cOther, f_maxBlocks, f_maxSteps, f_n, f_arranged, f_outCount, f_steps, f_status, f_edgeN, s_bOp, s_bD, s_bS, s_bImm, s_bTerm, s_bTest, s_bT0, s_bT1, s_cnt0, s_cnt1, s_regs, s_outs, s_edgeId, s_edgeW, s_chNext, s_chPrev, s_chHead, s_heat, s_posOf, s_order, s_cOp, s_cD, s_cS, s_cImm, s_cKind, s_cTest, s_cTaken, s_cOther, s_maxBlocks, s_maxSteps, s_n, s_arranged, s_outCount, s_steps, s_status, s_edgeN]).trans (h_r h)
 ·exact (show ti (s_cnt0 o t) = ti o by dsimp only [ti, f_bOp, f_bD, f_bS, f_bImm, f_bTerm, f_bTest, f_bT0, f_bT1, f_cnt0, f_cnt1, f_regs, f_outs, f_edgeId, f_edgeW, f_chNext, f_chPrev, f_chHead, f_heat, f_posOf, f_order, f_cOp, f_cD, f_cS, f_cImm, f_cKind, f_cTest, f_cTaken, f_cOther, f_maxBlocks, f_maxSteps, f_n, f_arranged, f_outCount, f_steps, f_status, f_edgeN, s_bOp, s_bD, s_bS, s_bImm, s_bTerm, s_bTest, s_bT0, s_bT1, s_cnt0, s_cnt1, s_regs, s_outs, s_edgeId, s_edgeW, s_chNext, s_chPrev, s_chHead, s_heat, s_posOf, s_order, s_cOp, s_cD, s_cS, s_cImm, s_cKind, s_cTest, s_cTaken, s_cOther, s_maxBlocks, s_maxSteps, s_n, s_arranged, s_outCount, s_steps, s_status, s_edgeN]).trans (h_i h)
theorem wc_1 {b : BB} {k : KK} {r : RR} {i : II} {o : Ob} (h : Sh b k r i o) (t : List Int32) : Sh b (k.1, t) r i (s_cnt1 o t) := by
 refine h.to (by dsimp only [lay, f_bOp, f_bD, f_bS, f_bImm, f_bTerm, f_bTest, f_bT0, f_bT1, f_cnt0, f_cnt1, f_regs, f_outs, f_edgeId, f_edgeW, f_chNext, f_chPrev, f_chHead, f_heat, f_posOf, f_order, f_cOp, f_cD, f_cS, f_cImm, f_cKind, f_cTest, f_cTaken, f_cOther, f_maxBlocks, f_maxSteps, f_n, f_arranged, f_outCount, f_steps, f_status, f_edgeN, s_bOp, s_bD, s_bS, s_bImm, s_bTerm, s_bTest, s_bT0, s_bT1, s_cnt0, s_cnt1, s_regs, s_outs, s_edgeId, s_edgeW, s_chNext, s_chPrev, s_chHead, s_heat, s_posOf, s_order, s_cOp, s_cD, s_cS, s_cImm, s_cKind, s_cTest, s_cTaken, s_cOther, s_maxBlocks, s_maxSteps, s_n, s_arranged, s_outCount, s_steps, s_status, s_edgeN]) ?_ ?_ ?_ ?_
 ·exact (show tb (s_cnt1 o t) = tb o by dsimp only [tb, f_bOp, f_bD, f_bS, f_bImm, f_bTerm, f_bTest, f_bT0, f_bT1, f_cnt0, f_cnt1, f_regs, f_outs, f_edgeId, f_edgeW, f_chNext, f_chPrev, f_chHead, f_heat, f_posOf, f_order, f_cOp, f_cD, f_cS, f_cImm, f_cKind, f_cTest, f_cTaken, f_cOther, f_maxBlocks, f_maxSteps, f_n, f_arranged, f_outCount, f_steps, f_status, f_edgeN, s_bOp, s_bD, s_bS, s_bImm, s_bTerm, s_bTest, s_bT0, s_bT1, s_cnt0, s_cnt1, s_regs, s_outs, s_edgeId, s_edgeW, s_chNext, s_chPrev, s_chHead, s_heat, s_posOf, s_order, s_cOp, s_cD, s_cS, s_cImm, s_cKind, s_cTest, s_cTaken, s_cOther, s_maxBlocks, s_maxSteps, s_n, s_arranged, s_outCount, s_steps, s_status, s_edgeN]).trans (h_b h)
 ·rw [← h_k h]; dsimp only [tk, f_bOp, f_bD, f_bS, f_bImm, f_bTerm, f_bTest, f_bT0, f_bT1, f_cnt0, f_cnt1, f_regs, f_outs, f_edgeId, f_edgeW, f_chNext, f_chPrev, f_chHead, f_heat, f_posOf, f_order, f_cOp, f_cD, f_cS, f_cImm, f_cKind, f_cTest, f_cTaken, f_cOther, f_maxBlocks, f_maxSteps, f_n, f_arranged, f_outCount, f_steps, f_status, f_edgeN, s_bOp, s_bD, s_bS, s_bImm, s_bTerm, s_bTest, s_bT0, s_bT1, s_cnt0, s_cnt1, s_regs, s_outs, s_edgeId, s_edgeW, s_chNext, s_chPrev, s_chHead, s_heat, s_posOf, s_order, s_cOp, s_cD, s_cS, s_cImm, s_cKind, s_cTest, s_cTaken, s_cOther, s_maxBlocks, s_maxSteps, s_n, s_arranged, s_outCount, s_steps, s_status, s_edgeN]
 ·exact (show tr (s_cnt1 o t) = tr o by dsimp only [tr, f_bOp, f_bD, f_bS, f_bImm, f_bTerm, f_bTest, f_bT0, f_bT1, f_cnt0, f_cnt1, f_regs, f_outs, f_edgeId, f_edgeW, f_chNext, f_chPrev, f_chHead, f_heat, f_posOf, f_order, f_cOp, f_cD, f_cS, f_cImm, f_cKind, f_cTest, f_cTaken, f_cOther, f_maxBlocks, f_maxSteps, f_n, f_arranged, f_outCount, f_steps, f_status, f_edgeN, s_bOp, s_bD, s_bS, s_bImm, s_bTerm, s_bTest, s_bT0, s_bT1, s_cnt0, s_cnt1, s_regs, s_outs, s_edgeId, s_edgeW, s_chNext, s_chPrev, s_chHead, s_heat, s_posOf, s_order, s_cOp, s_cD, s_cS, s_cImm, s_cKind, s_cTest, s_cTaken, s_cOther, s_maxBlocks, s_maxSteps, s_n, s_arranged, s_outCount, s_steps, s_status, s_edgeN]).trans (h_r h)
 ·exact (show ti (s_cnt1 o t) = ti o by dsimp only [ti, f_bOp, f_bD, f_bS, f_bImm, f_bTerm, f_bTest, f_bT0, f_bT1, f_cnt0, f_cnt1, f_regs, f_outs, f_edgeId, f_edgeW, f_chNext, f_chPrev, f_chHead, f_heat, f_posOf, f_order, f_cOp, f_cD, f_cS, f_cImm, f_cKind, f_cTest, f_cTaken, f_cOther, f_maxBlocks, f_maxSteps, f_n, f_arranged, f_outCount, f_steps, f_status, f_edgeN, s_bOp, s_bD, s_bS, s_bImm, s_bTerm, s_bTest, s_bT0, s_bT1, s_cnt0, s_cnt1, s_regs, s_outs, s_edgeId, s_edgeW, s_chNext, s_chPrev, s_chHead, s_heat, s_posOf, s_order, s_cOp, s_cD, s_cS, s_cImm, s_cKind, s_cTest, s_cTaken, s_cOther, s_maxBlocks, s_maxSteps, s_n, s_arranged, s_outCount, s_steps, s_status, s_edgeN]).trans (h_i h)
theorem c_pu (o : Ob) (σ : SS) : tc (pu o σ) = tc o := by dsimp only [tc, pu, f_bOp, f_bD, f_bS, f_bImm, f_bTerm, f_bTest, f_bT0, f_bT1, f_cnt0, f_cnt1, f_regs, f_outs, f_edgeId, f_edgeW, f_chNext, f_chPrev, f_chHead, f_heat, f_posOf, f_order, f_cOp, f_cD, f_cS, f_cImm, f_cKind, f_cTest, f_cTaken, f_cOther, f_maxBlocks, f_maxSteps, f_n, f_arranged, f_outCount, f_steps, f_status, f_edgeN, s_bOp, s_bD, s_bS, s_bImm, s_bTerm, s_bTest, s_bT0, s_bT1, s_cnt0, s_cnt1, s_regs, s_outs, s_edgeId, s_edgeW, s_chNext, s_chPrev, s_chHead, s_heat, s_posOf, s_order, s_cOp, s_cD, s_cS, s_cImm, s_cKind, s_cTest, s_cTaken, s_cOther, s_maxBlocks, s_maxSteps, s_n, s_arranged, s_outCount, s_steps, s_status, s_edgeN]
theorem c_st (o : Ob) (σ : Int32) : tc (s_steps o σ) = tc o := by dsimp only [tc, f_bOp, f_bD, f_bS, f_bImm, f_bTerm, f_bTest, f_bT0, f_bT1, f_cnt0, f_cnt1, f_regs, f_outs, f_edgeId, f_edgeW, f_chNext, f_chPrev, f_chHead, f_heat, f_posOf, f_order, f_cOp, f_cD, f_cS, f_cImm, f_cKind, f_cTest, f_cTaken, f_cOther, f_maxBlocks, f_maxSteps, f_n, f_arranged, f_outCount, f_steps, f_status, f_edgeN, s_bOp, s_bD, s_bS, s_bImm, s_bTerm, s_bTest, s_bT0, s_bT1, s_cnt0, s_cnt1, s_regs, s_outs, s_edgeId, s_edgeW, s_chNext, s_chPrev, s_chHead, s_heat, s_posOf, s_order, s_cOp, s_cD, s_cS, s_cImm, s_cKind, s_cTest, s_cTaken, s_cOther, s_maxBlocks, s_maxSteps, s_n, s_arranged, s_outCount, s_steps, s_status, s_edgeN]
theorem c_ss (o : Ob) (σ : Int32) : tc (s_status o σ) = tc o := by dsimp only [tc, f_bOp, f_bD, f_bS, f_bImm, f_bTerm, f_bTest, f_bT0, f_bT1, f_cnt0, f_cnt1, f_regs, f_outs, f_edgeId, f_edgeW, f_chNext, f_chPrev, f_chHead, f_heat, f_posOf, f_order, f_cOp, f_cD, f_cS, f_cImm, f_cKind, f_cTest, f_cTaken, f_cOther, f_maxBlocks, f_maxSteps, f_n, f_arranged, f_outCount, f_steps, f_status, f_edgeN, s_bOp, s_bD, s_bS, s_bImm, s_bTerm, s_bTest, s_bT0, s_bT1, s_cnt0, s_cnt1, s_regs, s_outs, s_edgeId, s_edgeW, s_chNext, s_chPrev, s_chHead, s_heat, s_posOf, s_order, s_cOp, s_cD, s_cS, s_cImm, s_cKind, s_cTest, s_cTaken, s_cOther, s_maxBlocks, s_maxSteps, s_n, s_arranged, s_outCount, s_steps, s_status, s_edgeN]
theorem c_c0 (o : Ob) (σ : List Int32) : tc (s_cnt0 o σ) = tc o := by dsimp only [tc, f_bOp, f_bD, f_bS, f_bImm, f_bTerm, f_bTest, f_bT0, f_bT1, f_cnt0, f_cnt1, f_regs, f_outs, f_edgeId, f_edgeW, f_chNext, f_chPrev, f_chHead, f_heat, f_posOf, f_order, f_cOp, f_cD, f_cS, f_cImm, f_cKind, f_cTest, f_cTaken, f_cOther, f_maxBlocks, f_maxSteps, f_n, f_arranged, f_outCount, f_steps, f_status, f_edgeN, s_bOp, s_bD, s_bS, s_bImm, s_bTerm, s_bTest, s_bT0, s_bT1, s_cnt0, s_cnt1, s_regs, s_outs, s_edgeId, s_edgeW, s_chNext, s_chPrev, s_chHead, s_heat, s_posOf, s_order, s_cOp, s_cD, s_cS, s_cImm, s_cKind, s_cTest, s_cTaken, s_cOther, s_maxBlocks, s_maxSteps, s_n, s_arranged, s_outCount, s_steps, s_status, s_edgeN]
theorem c_c1 (o : Ob) (σ : List Int32) : tc (s_cnt1 o σ) = tc o := by dsimp only [tc, f_bOp, f_bD, f_bS, f_bImm, f_bTerm, f_bTest, f_bT0, f_bT1, f_cnt0, f_cnt1, f_regs, f_outs, f_edgeId, f_edgeW, f_chNext, f_chPrev, f_chHead, f_heat, f_posOf, f_order, f_cOp, f_cD, f_cS, f_cImm, f_cKind, f_cTest, f_cTaken, f_cOther, f_maxBlocks, f_maxSteps, f_n, f_arranged, f_outCount, f_steps, f_status, f_edgeN, s_bOp, s_bD, s_bS, s_bImm, s_bTerm, s_bTest, s_bT0, s_bT1, s_cnt0, s_cnt1, s_regs, s_outs, s_edgeId, s_edgeW, s_chNext, s_chPrev, s_chHead, s_heat, s_posOf, s_order, s_cOp, s_cD, s_cS, s_cImm, s_cKind, s_cTest, s_cTaken, s_cOther, s_maxBlocks, s_maxSteps, s_n, s_arranged, s_outCount, s_steps, s_status, s_edgeN]
theorem g_regs {b : BB} {k : KK} {r : RR} {i : II} {o : Ob} (h : Sh b k r i o) : f_regs o = r.1 := congrArg (fun x : RR => x.1) (h_r h)
theorem g_outs {b : BB} {k : KK} {r : RR} {i : II} {o : Ob} (h : Sh b k r i o) : f_outs o = r.2.1 := congrArg (fun x : RR => x.2.1) (h_r h)
theorem g_oc {b : BB} {k : KK} {r : RR} {i : II} {o : Ob} (h : Sh b k r i o) : f_outCount o = r.2.2.1 := congrArg (fun x : RR => x.2.2.1) (h_r h)
theorem g_steps {b : BB} {k : KK} {r : RR} {i : II} {o : Ob} (h : Sh b k r i o) : f_steps o = r.2.2.2.1 := congrArg (fun x : RR => x.2.2.2.1) (h_r h)
theorem g_status {b : BB} {k : KK} {r : RR} {i : II} {o : Ob} (h : Sh b k r i o) : f_status o = r.2.2.2.2 := congrArg (fun x : RR => x.2.2.2.2) (h_r h)
theorem g_ms {b : BB} {k : KK} {r : RR} {i : II} {o : Ob} (h : Sh b k r i o) : f_maxSteps o = i.2.1 := congrArg (fun x : II => x.2.1) (h_i h)
theorem g_mb {b : BB} {k : KK} {r : RR} {i : II} {o : Ob} (h : Sh b k r i o) : f_maxBlocks o = i.1 := congrArg (fun x : II => x.1) (h_i h)
theorem g_ar {b : BB} {k : KK} {r : RR} {i : II} {o : Ob} (h : Sh b k r i o) : f_arranged o = i.2.2.2 := congrArg (fun x : II => x.2.2.2) (h_i h)
theorem g_gt {b : BB} {k : KK} {r : RR} {i : II} {o : Ob} (h : Sh b k r i o) : gt o = (r.1, r.2.1, r.2.2.1) := by
 unfold gt
 rw [g_regs h, g_outs h, g_oc h]
def sg (r : RR) : SS := (r.1, r.2.1, r.2.2.1)
def LR (r : RR) : Prop := r.1.length = 4 ∧ r.2.1.length = 16
def Nx (b : BB) (c : Nat) (σ : SS) (pos : Nat → Nat) (y : Int32) : Prop := (slot b c σ.1 = 2 ∧ y = -1) ∨ (slot b c σ.1 ≠ 2 ∧ y.toInt = pos (dest b c (slot b c σ.1)))
theorem stepB {b : BB} {k : KK} {r : RR} {i : II} {o : Ob} (h : Sh b k r i o) {n c : Nat} (G : GB b n) (K : LK k) (hn : i.2.2.1.toInt = n) (R : LR r) (hc : c < n) {x : Int32} (hx : x.toInt = c) : okP (F12 o x) (fun w => Nx b c (ob b c (sg r)) id w.1 ∧ Sh b (bump k c (slot b c (ob b c (sg r)).1)) ((ob b c (sg r)).1, (ob b c (sg r)).2.1, (ob b c (sg r)).2.2, r.2.2.2) i w.2 ∧ tc w.2 = tc o) := by
 have z0 : (0 : Int32).toInt = 0 := rfl
 have z16 : (16 : Int32).toInt = 16 := rfl
 have n16 := G.2.1
 obtain ⟨_, ⟨v1, v2⟩, ⟨v3, v4⟩⟩ := G.2.2 c hc
 have vb : F4 o x = some 1 := by
  unfold F4
  rw [if_neg (by rw [i_lt, z0]; omega), if_pos (by rw [i_lt, g_n h, hn]; omega), if_pos (by rw [i_lt, z16]; omega)]
 have om := op_m (o := o) (by rw [g_regs h]; exact R.1) (by rw [g_outs h]; exact R.2) (op b c) (dd b c) (ss b c) (im b c)
 rw [g_gt h] at om
 have om' : F13 o (op b c) (dd b c) (ss b c) (im b c) = some (pu o (ob b c (sg r))) := om
 have hp := w_pu h (ob b c (sg r))
 have cp := c_pu o (ob b c (sg r))
 have ln := ex_len (op b c) (dd b c) (ss b c) (im b c) (sg r)
 have l4 : (ob b c (sg r)).1.length = 4 := ln.1.trans R.1
 unfold F12
 rw [vb, Option.bind_some, if_neg (by decide), a_op h G hc hx, Option.bind_some, a_dd h G hc hx, Option.bind_some, a_ss h G hc hx, Option.bind_some, a_im h G hc hx, Option.bind_some, om', Option.bind_some]
 generalize pu o (ob b c (sg r)) = p at *
 generalize ob b c (sg r) = σ at *
 have hm := hold_m (o := p) (by rw [g_regs hp]; exact l4) (te b c)
 rw [g_regs hp] at hm
 rw [a_tm hp G hc hx, Option.bind_some]
 have jmp0 : slot b c σ.1 = 0 → okP ((aget (f_cnt0 p) x).bind fun y297 => (aset (f_cnt0 p) x (y297 + (1 : Int32))).bind fun y298 => (aget (f_bT0 p) x).bind fun y299 => some (y299, (s_cnt0 p y298))) (fun w => Nx b c σ id w.1 ∧ Sh b (bump k c (slot b c σ.1)) (σ.1, σ.2.1, σ.2.2, r.2.2.2) i w.2 ∧ tc w.2 = tc o) := by
  intro s0
  rw [g_cnt0 hp, ag hx (by rw [K.1]; omega), Option.bind_some, aset_at hx (by rw [K.1]; omega), Option.bind_some, a_t0 hp G hc hx, Option.bind_some]
  refine okP.some ⟨Or.inr ⟨by rw [s0]; decide, ?_⟩, ?_, (c_c0 _ _).trans cp⟩
  ·rw [s0]
   show (t0 b c).toInt = ((t0 b c).toInt.toNat : Nat)
   omega
  ·rw [s0]
   exact wc_0 hp _
 refine okP.ite (fun m1 => jmp0 (by unfold slot; rw [if_pos m1])) (fun m1 => ?_)
 refine okP.ite (fun m2 => ?_) (fun m2 => ?_)
 ·rw [a_te hp G hc hx, Option.bind_some, hm, Option.bind_some]
  cases hv : hold (te b c) σ.1
  ·rw [if_pos (by decide)]
   have s1 : slot b c σ.1 = 1 := by unfold slot; rw [if_neg m1, if_pos m2, hv]; rfl
   rw [g_cnt1 hp, ag hx (by rw [K.2]; omega), Option.bind_some, aset_at hx (by rw [K.2]; omega), Option.bind_some, a_t1 hp G hc hx, Option.bind_some]
   refine okP.some ⟨Or.inr ⟨by rw [s1]; decide, ?_⟩, ?_, (c_c1 _ _).trans cp⟩
   ·rw [s1]
    show (t1 b c).toInt = ((t1 b c).toInt.toNat : Nat)
    omega
   ·rw [s1]
    exact wc_1 hp _
  ·rw [if_neg (by decide)]
   exact jmp0 (by unfold slot; rw [if_neg m1, if_pos m2, hv]; rfl)
 ·have s2 : slot b c σ.1 = 2 := by unfold slot; rw [if_neg m1, if_neg m2]
  refine okP.some ⟨Or.inl ⟨s2, rfl⟩, ?_, cp⟩
  rw [s2]
  exact hp
theorem stepF {b : BB} {k : KK} {r : RR} {i : II} {o : Ob} (h : Sh b k r i o) {n c : Nat} (G : GB b n) (hn : i.2.2.1.toInt = n) (R : LR r) (hc : c < n) {pos : Nat → Nat} (lc : LC (tc o)) (hpos : ∀ c, c < n → pos c < n ∧ Cell b pos (tc o) (pos c) c) {x : Int32} (hx : x.toInt = pos c) : okP (F33 o x) (fun w => Nx b c (ob b c (sg r)) pos w.1 ∧ Sh b k ((ob b c (sg r)).1, (ob b c (sg r)).2.1, (ob b c (sg r)).2.2, r.2.2.2) i w.2 ∧ tc w.2 = tc o) := by
 have z0 : (0 : Int32).toInt = 0 := rfl
 have z16 : (16 : Int32).toInt = 16 := rfl
 have n16 := G.2.1
 obtain ⟨⟨te0, te1⟩, ⟨v1, v2⟩, ⟨v3, v4⟩⟩ := G.2.2 c hc
 obtain ⟨pn, C1, C2, C3, C4, T1, T2, T3⟩ := hpos c hc
 obtain ⟨L1, L2, L3, L4, L5, L6, L7, L8⟩ := lc
 have om := op_m (o := o) (by rw [g_regs h]; exact R.1) (by rw [g_outs h]; exact R.2) (op b c) (dd b c) (ss b c) (im b c)
 rw [g_gt h] at om
 have om' : F13 o (op b c) (dd b c) (ss b c) (im b c) = some (pu o (ob b c (sg r))) := om
 have hp := w_pu h (ob b c (sg r))
 have cp := c_pu o (ob b c (sg r))
 have ln := ex_len (op b c) (dd b c) (ss b c) (im b c) (sg r)
 have l4 : (ob b c (sg r)).1.length = 4 := ln.1.trans R.1
 have q1 : aget (f_cOp o) x = some (op b c) := by rw [← C1]; exact ag hx (by show pos c < (tc o).1.length; omega)
 have q2 : aget (f_cD o) x = some (dd b c) := by rw [← C2]; exact ag hx (by show pos c < (tc o).2.1.length; omega)
 have q3 : aget (f_cS o) x = some (ss b c) := by rw [← C3]; exact ag hx (by show pos c < (tc o).2.2.1.length; omega)
 have q4 : aget (f_cImm o) x = some (im b c) := by rw [← C4]; exact ag hx (by show pos c < (tc o).2.2.2.1.length; omega)
 unfold F33
 rw [if_neg (by rw [i_lt, z0]; omega), if_pos (by rw [i_lt, g_n h, hn]; omega), if_pos (by rw [i_lt, z16]; omega), q1, Option.bind_some, q2, Option.bind_some, q3, Option.bind_some, q4, Option.bind_some, om', Option.bind_some]
 generalize pu o (ob b c (sg r)) = p at *
 generalize ob b c (sg r) = σ at *
 have q5 : aget (f_cKind p) x = some (at' (tc o).2.2.2.2.1 (pos c)) := by rw [show f_cKind p = (tc o).2.2.2.2.1 from congrArg (fun t : CO => t.2.2.2.2.1) cp]; exact ag hx (by omega)
 have q6 : aget (f_cTest p) x = some (at' (tc o).2.2.2.2.2.1 (pos c)) := by rw [show f_cTest p = (tc o).2.2.2.2.2.1 from congrArg (fun t : CO => t.2.2.2.2.2.1) cp]; exact ag hx (by omega)
 have q7 : aget (f_cTaken p) x = some (at' (tc o).2.2.2.2.2.2.1 (pos c)) := by rw [show f_cTaken p = (tc o).2.2.2.2.2.2.1 from congrArg (fun t : CO => t.2.2.2.2.2.2.1) cp]; exact ag hx (by omega)
 have q8 : aget (f_cOther p) x = some (at' (tc o).2.2.2.2.2.2.2 (pos c)) := by rw [show f_cOther p = (tc o).2.2.2.2.2.2.2 from congrArg (fun t : CO => t.2.2.2.2.2.2.2) cp]; exact ag hx (by omega)
 have hm : ∀ t, F34 p t = some (bI (hold t σ.1)) := by
  intro t
  have := hold_m (o := p) (by rw [g_regs hp]; exact l4) t
  rw [g_regs hp] at this
  exact this
 generalize at' (tc o).2.2.2.2.1 (pos c) = kd at *
 generalize at' (tc o).2.2.2.2.2.1 (pos c) = ts at *
 generalize at' (tc o).2.2.2.2.2.2.1 (pos c) = tk' at *
 generalize at' (tc o).2.2.2.2.2.2.2 (pos c) = ot at *
 rw [q5, Option.bind_some, q6, q7, q8]
 simp only [Option.bind_some, hm]
 by_cases m1 : tm b c = 1
 ·have s0 : slot b c σ.1 = 0 := by unfold slot; rw [if_pos m1]
  rcases T1 m1 with ⟨k3, e⟩ | ⟨k1, e⟩
  ·rw [if_pos k3]
   refine okP.some ⟨Or.inr ⟨by rw [s0]; decide, ?_⟩, hp, cp⟩
   rw [s0]
   show (x + 1).toInt = (pos (t0 b c).toInt.toNat : Nat)
   rw [inc1 (by omega)]; omega
  ·rw [if_neg (by rw [k1]; decide), if_pos k1]
   refine okP.some ⟨Or.inr ⟨by rw [s0]; decide, ?_⟩, hp, cp⟩
   rw [s0]
   exact e
 by_cases m2 : tm b c = 2
 ·obtain ⟨k2, e⟩ := T2 m2
  rw [if_neg (by rw [k2]; decide), if_neg (by rw [k2]; decide), if_pos k2]
  have sl : slot b c σ.1 = if hold (te b c) σ.1 then 0 else 1 := by unfold slot; rw [if_neg m1, if_pos m2]
  rcases e with ⟨e1, e2, e3⟩ | ⟨e1, e2, e3⟩
  ·rw [e1, hold_x te0 te1]
   cases hv : hold (te b c) σ.1
   ·rw [hv] at sl
    have sl : slot b c σ.1 = 1 := sl
    rw [if_neg (by decide)]
    refine okP.some ⟨Or.inr ⟨by rw [sl]; decide, ?_⟩, hp, cp⟩
    rw [sl]; exact e2
   ·rw [hv] at sl
    have sl : slot b c σ.1 = 0 := sl
    rw [if_pos (by decide)]
    refine okP.some ⟨Or.inr ⟨by rw [sl]; decide, ?_⟩, hp, cp⟩
    rw [sl]; exact e3
  ·rw [e1]
   cases hv : hold (te b c) σ.1
   ·rw [hv] at sl
    have sl : slot b c σ.1 = 1 := sl
    rw [if_pos (by decide)]
    refine okP.some ⟨Or.inr ⟨by rw [sl]; decide, ?_⟩, hp, cp⟩
    rw [sl]; exact e3
   ·rw [hv] at sl
    have sl : slot b c σ.1 = 0 := sl
    rw [if_neg (by decide)]
    refine okP.some ⟨Or.inr ⟨by rw [sl]; decide, ?_⟩, hp, cp⟩
    rw [sl]; exact e2
 ·have k0 := T3 m1 m2
  have s2 : slot b c σ.1 = 2 := by unfold slot; rw [if_neg m1, if_neg m2]
  rw [if_neg (by rw [k0]; decide), if_neg (by rw [k0]; decide), if_neg (by rw [k0]; decide)]
  exact okP.some ⟨Or.inl ⟨s2, rfl⟩, hp, cp⟩
def After (b : BB) (k : KK) (i : II) (x : CO) (R : Int32 × SS × KK × Int32) (w : Int32 × Ob) : Prop := w.1 = R.1 ∧ Sh b k (R.2.1.1, R.2.1.2.1, R.2.1.2.2, R.2.2.2, R.1) i w.2 ∧ tc w.2 = x
theorem regs4 : ∀ {l : List Int32}, l.length = 4 → ∀ x, (((l.set 0 x).set 1 0).set 2 0).set 3 0 = [x, 0, 0, 0]
 | [_, _, _, _], _, _ => rfl
def Mo (b : BB) (n : Nat) (i : II) (x : CO) (pos : Nat → Nat) : Prop := (i.2.2.2 = 0 ∧ pos = id) ∨ (i.2.2.2 = 1 ∧ LC x ∧ pos 0 = 0 ∧ ∀ c, c < n → pos c < n ∧ Cell b pos x (pos c) c)
theorem run_loop {b : BB} {i : II} {n : Nat} (G : GB b n) (hn : i.2.2.1.toInt = n) (m0 : 0 ≤ i.2.1.toInt) (m1 : i.2.1.toInt ≤ 1024) {x : CO} {pos : Nat → Nat} (M : Mo b n i x pos) {RES : Int32 × SS × KK × Int32} {k0 : KK} : ∀ (f c : Nat) (k kg : KK) (r : RR) (o : Ob) (cur : Int32) (N : Nat), f < N → Sh b k r i o → tc o = x → LR r → LK k → c < n → cur.toInt = pos c → 0 ≤ r.2.2.2.1.toInt → (f : Int) + r.2.2.2.1.toInt = i.2.1.toInt → RES = runP b f c (sg r) kg r.2.2.2.1 → (i.2.2.2 = 0 → k = kg) → (i.2.2.2 = 1 → k = k0) → okP (loopN (B8_51 2) N (cur, o)) (After b (if i.2.2.2 = 0 then RES.2.2.1 else k0) i x RES)
 | f, c, k, kg, r, o, cur, 0, fN, _, _, _, _, _, _, _, _, _, _, _ => absurd fN (by omega)
 | 0, c, k, kg, r, o, cur, N + 1, fN, h, tx, R, K, hc, hcur, s0, fs, hR, ka, kb => by
  have z2 : (2 : Int32).toInt = 2 := rfl
  have st : ¬ f_steps o < f_maxSteps o := by rw [i_lt, g_steps h, g_ms h]; omega
  have e : B8_51 2 (cur, o) = some (.inl (2, s_status o 2)) := by
   unfold B8_51 J8_112
   simp only
   rw [if_neg st]
  refine ⟨(2, s_status o 2), ?_, ?_⟩
  ·simp only [loopN, e]
  ·have hR' : RES = (2, sg r, kg, r.2.2.2.1) := hR
   rw [hR']
   refine ⟨rfl, ?_, (c_ss _ _).trans tx⟩
   have ek : (if i.2.2.2 = 0 then kg else k0) = k := by
    rcases M with ⟨a0, _⟩ | ⟨a1, _⟩
    ·rw [if_pos a0, ka a0]
    ·rw [if_neg (by rw [a1]; decide), kb a1]
   show Sh b (if i.2.2.2 = 0 then kg else k0) _ i _
   rw [ek]
   exact w_ss h 2
 | f + 1, c, k, kg, r, o, cur, N + 1, fN, h, tx, R, K, hc, hcur, s0, fs, hR, ka, kb => by
  have z0 : (0 : Int32).toInt = 0 := rfl
  have st : f_steps o < f_maxSteps o := by rw [i_lt, g_steps h, g_ms h]; omega
  have e1 : (r.2.2.2.1 + 1).toInt = r.2.2.2.1.toInt + 1 := inc1 (by omega)
  have h1 := w_st h (r.2.2.2.1 + 1)
  have t1 := (c_st o (r.2.2.2.1 + 1)).trans tx
  have ln := ex_len (op b c) (dd b c) (ss b c) (im b c) (sg r)
  have R' : LR ((ob b c (sg r)).1, (ob b c (sg r)).2.1, (ob b c (sg r)).2.2, r.2.2.2.1 + 1, r.2.2.2.2) := ⟨ln.1.trans R.1, ln.2.trans R.2⟩
  have key : ∃ y p k', (if f_arranged o = 0 then (F12 (s_steps o (f_steps o + 1)) cur).bind fun r321 => J8_96 r321.2 2 r321.1 else (F33 (s_steps o (f_steps o + 1)) cur).bind fun r343 => J8_96 r343.2 2 r343.1) = J8_96 p 2 y ∧ Nx b c (ob b c (sg r)) pos y ∧ Sh b k' ((ob b c (sg r)).1, (ob b c (sg r)).2.1, (ob b c (sg r)).2.2, r.2.2.2.1 + 1, r.2.2.2.2) i p ∧ tc p = x ∧ LK k' ∧ (i.2.2.2 = 0 → k' = bump kg c (slot b c (ob b c (sg r)).1)) ∧ (i.2.2.2 = 1 → k' = k0) := by
   rw [g_ar h, g_steps h]
   rcases M with ⟨a0, pe⟩ | ⟨a1, lc, p0, hpos⟩
   ·rw [if_pos a0]
    rw [pe] at hcur ⊢
    obtain ⟨⟨y, p⟩, q1, q2, q3, q4⟩ := stepB h1 G K hn R hc hcur
    rw [q1, Option.bind_some]
    exact ⟨y, p, _, rfl, q2, q3, q4.trans t1, bump_len K _ _, fun _ => by rw [ka a0]; rfl, fun w => by rw [a0] at w; exact absurd w (by decide)⟩
   ·rw [if_neg (by rw [a1]; decide)]
    obtain ⟨⟨y, p⟩, q1, q2, q3, q4⟩ := stepF h1 G hn R hc (by rw [t1]; exact lc) (by rw [t1]; exact hpos) hcur
    rw [q1, Option.bind_some]
    exact ⟨y, p, k, rfl, q2, q3, q4.trans t1, K, fun w => by rw [a1] at w; exact absurd w (by decide), fun _ => kb a1⟩
  obtain ⟨y, p, k', he, ny, hp, tp', K', ka', kb'⟩ := key
  have eB : B8_51 2 (cur, o) = J8_96 p 2 y := by
   unfold B8_51
   simp only
   rw [if_pos st]; exact he
  have hR' : RES = if slot b c (ob b c (sg r)).1 = 2 then (1, ob b c (sg r), kg, r.2.2.2.1 + 1) else runP b f (dest b c (slot b c (ob b c (sg r)).1)) (ob b c (sg r)) (bump kg c (slot b c (ob b c (sg r)).1)) (r.2.2.2.1 + 1) := hR
  unfold J8_96 J8_112 at eB
  rcases ny with ⟨s2, y1⟩ | ⟨s2, yd⟩
  ·rw [if_pos s2] at hR'
   rw [y1, if_pos (by decide)] at eB
   refine ⟨(1, s_status p 1), by simp only [loopN, eB], ?_⟩
   rw [hR']
   refine ⟨rfl, ?_, (c_ss _ _).trans tp'⟩
   have ek : (if i.2.2.2 = 0 then kg else k0) = k' := by
    rcases M with ⟨a0, _⟩ | ⟨a1, _⟩
    ·rw [if_pos a0, ka' a0, s2]; rfl
    ·rw [if_neg (by rw [a1]; decide), kb' a1]
   show Sh b (if i.2.2.2 = 0 then kg else k0) _ i _
   rw [ek]
   exact w_ss hp 1
  ·rw [if_neg s2] at hR'
   rw [if_neg (by rw [i_lt, z0]; omega)] at eB
   have := run_loop G hn m0 m1 M (RES := RES) (k0 := k0) f (dest b c (slot b c (ob b c (sg r)).1)) k' (bump kg c (slot b c (ob b c (sg r)).1)) _ p y N (by omega) hp tp' R' K' (dest_lt G hc _) yd (by show 0 ≤ (r.2.2.2.1 + 1).toInt; omega) (by show (f : Int) + (r.2.2.2.1 + 1).toInt = _; omega) hR' ka' kb'
   obtain ⟨e, e2, e3⟩ := this
   exact ⟨e, by simp only [loopN, eB]; exact e2, e3⟩
theorem run_ok {b : BB} {k : KK} {r : RR} {i : II} {o : Ob} (h : Sh b k r i o) {n : Nat} (G : GB b n) (K : LK k) (R : LR r) (n0 : 0 < n) (hn : i.2.2.1.toInt = n) (m0 : 0 ≤ i.2.1.toInt) (m1 : i.2.1.toInt ≤ 1024) (M : i.2.2.2 = 0 ∨ (i.2.2.2 = 1 ∧ Lay b n (tc o))) (x : Int32) : okP (F8 o x) (After b (if i.2.2.2 = 0 then (runP b i.2.1.toInt.toNat 0 ([x, 0, 0, 0], r.2.1, 0) k 0).2.2.1 else k) i (tc o) (runP b i.2.1.toInt.toNat 0 ([x, 0, 0, 0], r.2.1, 0) k 0)) := by
 have z0 : (0 : Int32).toInt = 0 := rfl
 have l4 : (f_regs o).length = 4 := by rw [g_regs h]; exact R.1
 unfold F8
 rw [if_neg (by rw [i_eq, g_n h, hn, z0]; omega), aset_at (n := 0) rfl (by omega), Option.bind_some, aset_at (n := 1) rfl (by rw [List.length_set]; omega), Option.bind_some, aset_at (n := 2) rfl (by simp only [List.length_set]; omega), Option.bind_some, aset_at (n := 3) rfl (by simp only [List.length_set]; omega), Option.bind_some, regs4 l4]
 have h1 : Sh b k ([x, 0, 0, 0], r.2.1, 0, 0, r.2.2.2.2) i (s_steps (s_outCount (s_regs o [x, 0, 0, 0]) 0) 0) := by
  have := w_st (w_pu h ([x, 0, 0, 0], r.2.1, 0)) 0
  rw [← g_outs h] at this ⊢
  exact this
 have t1 : tc (s_steps (s_outCount (s_regs o [x, 0, 0, 0]) 0) 0) = tc o := by dsimp only [tc, f_bOp, f_bD, f_bS, f_bImm, f_bTerm, f_bTest, f_bT0, f_bT1, f_cnt0, f_cnt1, f_regs, f_outs, f_edgeId, f_edgeW, f_chNext, f_chPrev, f_chHead, f_heat, f_posOf, f_order, f_cOp, f_cD, f_cS, f_cImm, f_cKind, f_cTest, f_cTaken, f_cOther, f_maxBlocks, f_maxSteps, f_n, f_arranged, f_outCount, f_steps, f_status, f_edgeN, s_bOp, s_bD, s_bS, s_bImm, s_bTerm, s_bTest, s_bT0, s_bT1, s_cnt0, s_cnt1, s_regs, s_outs, s_edgeId, s_edgeW, s_chNext, s_chPrev, s_chHead, s_heat, s_posOf, s_order, s_cOp, s_cD, s_cS, s_cImm, s_cKind, s_cTest, s_cTaken, s_cOther, s_maxBlocks, s_maxSteps, s_n, s_arranged, s_outCount, s_steps, s_status, s_edgeN]
 generalize s_steps (s_outCount (s_regs o [x, 0, 0, 0]) 0) 0 = p at *
 apply okP.bind
 have Mo' : ∃ pos, Mo b n i (tc o) pos ∧ pos 0 = 0 := by
  rcases M with a | ⟨a, lc, pos, p0, hp⟩
  ·exact ⟨id, Or.inl ⟨a, rfl⟩, rfl⟩
  ·exact ⟨pos, Or.inr ⟨a, lc, p0, hp⟩, p0⟩
 obtain ⟨pos, Mp, p0⟩ := Mo'
 refine okP.mono (run_loop G hn m0 m1 Mp (k0 := k) i.2.1.toInt.toNat 0 k k _ p 0 qN (by show _ < 4000; omega) h1 t1 ⟨rfl, R.2⟩ K n0 (by rw [p0]; rfl) (by show (0 : Int) ≤ 0; decide) (by show ((i.2.1.toInt.toNat : Nat) : Int) + 0 = _; omega) rfl (fun _ => rfl) (fun _ => rfl)) (fun w hw => okP.some hw)
def Re (σ τ : SS) : Prop := σ.1 = τ.1 ∧ σ.2.2 = τ.2.2 ∧ σ.2.1.length = 16 ∧ τ.2.1.length = 16 ∧ ∀ j : Nat, (j : Int) < σ.2.2.toInt → at' σ.2.1 j = at' τ.2.1 j
theorem ite_2 {α : Type} {P : α → α → Prop} {c : Prop} [Decidable c] {a b a' b' : α} (h1 : c → P a a') (h2 : ¬ c → P b b') : P (if c then a else b) (if c then a' else b') := by
 by_cases h : c
 ·rw [if_pos h, if_pos h]; exact h1 h
 ·rw [if_neg h, if_neg h]; exact h2 h
theorem ex_re {σ τ : SS} (h : Re σ τ) (h0 : 0 ≤ σ.2.2.toInt) (h1 : σ.2.2.toInt < 2000) (a d s m : Int32) : Re (ex a d s m σ) (ex a d s m τ) ∧ 0 ≤ (ex a d s m σ).2.2.toInt ∧ (ex a d s m σ).2.2.toInt ≤ σ.2.2.toInt + 1 := by
 obtain ⟨r1, u1, c1⟩ := σ
 obtain ⟨r2, u2, c2⟩ := τ
 obtain ⟨e1, e2, l1, l2, e3⟩ := h
 simp only at e1 e2 l1 l2 e3 h0 h1
 subst e1
 subst e2
 have z16 : (16 : Int32).toInt = 16 := rfl
 have e4 : (c1 + 1).toInt = c1.toInt + 1 := inc1 (by omega)
 have same : ∀ (v : List Int32), Re (v, u1, c1) (v, u2, c1) ∧ 0 ≤ c1.toInt ∧ c1.toInt ≤ c1.toInt + 1 := fun v => ⟨⟨rfl, rfl, l1, l2, e3⟩, h0, by omega⟩
 unfold ex
 simp only
 refine ite_2 (P := fun X Y => Re X Y ∧ 0 ≤ X.2.2.toInt ∧ X.2.2.toInt ≤ c1.toInt + 1) (fun _ => same _) (fun _ => ?_)
 refine ite_2 (P := fun X Y => Re X Y ∧ 0 ≤ X.2.2.toInt ∧ X.2.2.toInt ≤ c1.toInt + 1) (fun _ => same _) (fun _ => ?_)
 refine ite_2 (P := fun X Y => Re X Y ∧ 0 ≤ X.2.2.toInt ∧ X.2.2.toInt ≤ c1.toInt + 1) (fun _ => same _) (fun _ => ?_)
 refine ite_2 (P := fun X Y => Re X Y ∧ 0 ≤ X.2.2.toInt ∧ X.2.2.toInt ≤ c1.toInt + 1) (fun _ => same _) (fun _ => ?_)
 refine ite_2 (P := fun X Y => Re X Y ∧ 0 ≤ X.2.2.toInt ∧ X.2.2.toInt ≤ c1.toInt + 1) (fun _ => same _) (fun _ => ?_)
 refine ite_2 (P := fun X Y => Re X Y ∧ 0 ≤ X.2.2.toInt ∧ X.2.2.toInt ≤ c1.toInt + 1) (fun _ => same _) (fun _ => ?_)
 refine ite_2 (P := fun X Y => Re X Y ∧ 0 ≤ X.2.2.toInt ∧ X.2.2.toInt ≤ c1.toInt + 1) (fun _ => same _) (fun _ => ?_)
 refine ite_2 (P := fun X Y => Re X Y ∧ 0 ≤ X.2.2.toInt ∧ X.2.2.toInt ≤ c1.toInt + 1) (fun _ => same _) (fun _ => ?_)
 refine ite_2 (P := fun X Y => Re X Y ∧ 0 ≤ X.2.2.toInt ∧ X.2.2.toInt ≤ c1.toInt + 1) (fun _ => same _) (fun _ => ?_)
 refine ite_2 (P := fun X Y => Re X Y ∧ 0 ≤ X.2.2.toInt ∧ X.2.2.toInt ≤ c1.toInt + 1) (fun _ => same _) (fun _ => ?_)
 refine ite_2 (P := fun X Y => Re X Y ∧ 0 ≤ X.2.2.toInt ∧ X.2.2.toInt ≤ c1.toInt + 1) (fun _ => ?_) (fun _ => same _)
 refine ite_2 (P := fun X Y => Re X Y ∧ 0 ≤ X.2.2.toInt ∧ X.2.2.toInt ≤ c1.toInt + 1) (fun w => ?_) (fun _ => ?_)
 ·rw [i_lt] at w
  exact absurd w (by show ¬ c1.toInt < 0; omega)
 refine ite_2 (P := fun X Y => Re X Y ∧ 0 ≤ X.2.2.toInt ∧ X.2.2.toInt ≤ c1.toInt + 1) (fun w => ?_) (fun w => ?_)
 ·rw [i_lt, z16] at w
  refine ⟨⟨rfl, rfl, by simp only [List.length_set]; exact l1, by simp only [List.length_set]; exact l2, fun j hj => ?_⟩, by simp only; omega, by simp only; omega⟩
  simp only at hj ⊢
  rw [at_set (by omega), at_set (by omega)]
  split
  ·rfl
  ·exact e3 j (by omega)
 ·rw [i_lt, z16] at w
  refine ⟨⟨rfl, rfl, l1, l2, fun j hj => ?_⟩, by simp only; omega, by simp only; omega⟩
  simp only at hj ⊢
  rcases Int.lt_or_le (j : Int) c1.toInt with q | q
  ·exact e3 j q
  ·unfold at'
   rw [List.getD_eq_getElem?_getD, List.getD_eq_getElem?_getD, List.getElem?_eq_none (by omega), List.getElem?_eq_none (by omega)]
theorem run_re {b : BB} : ∀ (f c : Nat) (σ τ : SS) (k l : KK) (t : Int32), Re σ τ → 0 ≤ σ.2.2.toInt → (f : Int) + σ.2.2.toInt ≤ 1500 → (runP b f c σ k t).1 = (runP b f c τ l t).1 ∧ Re (runP b f c σ k t).2.1 (runP b f c τ l t).2.1 ∧ (runP b f c σ k t).2.2.2 = (runP b f c τ l t).2.2.2
 | 0, c, σ, τ, k, l, t, h, _, _ => ⟨rfl, h, rfl⟩
 | f + 1, c, σ, τ, k, l, t, h, h0, h1 => by
  obtain ⟨e1, e2, e3⟩ := ex_re h h0 (by omega) (op b c) (dd b c) (ss b c) (im b c)
  have e1' : Re (ob b c σ) (ob b c τ) := e1
  have e4 : (ob b c σ).1 = (ob b c τ).1 := e1'.1
  show (if slot b c (ob b c σ).1 = 2 then (1, ob b c σ, k, t + 1) else runP b f (dest b c (slot b c (ob b c σ).1)) (ob b c σ) (bump k c (slot b c (ob b c σ).1)) (t + 1)).1 = (if slot b c (ob b c τ).1 = 2 then (1, ob b c τ, l, t + 1) else runP b f (dest b c (slot b c (ob b c τ).1)) (ob b c τ) (bump l c (slot b c (ob b c τ).1)) (t + 1)).1 ∧ Re (if slot b c (ob b c σ).1 = 2 then (1, ob b c σ, k, t + 1) else runP b f (dest b c (slot b c (ob b c σ).1)) (ob b c σ) (bump k c (slot b c (ob b c σ).1)) (t + 1)).2.1 (if slot b c (ob b c τ).1 = 2 then (1, ob b c τ, l, t + 1) else runP b f (dest b c (slot b c (ob b c τ).1)) (ob b c τ) (bump l c (slot b c (ob b c τ).1)) (t + 1)).2.1 ∧ (if slot b c (ob b c σ).1 = 2 then (1, ob b c σ, k, t + 1) else runP b f (dest b c (slot b c (ob b c σ).1)) (ob b c σ) (bump k c (slot b c (ob b c σ).1)) (t + 1)).2.2.2 = (if slot b c (ob b c τ).1 = 2 then (1, ob b c τ, l, t + 1) else runP b f (dest b c (slot b c (ob b c τ).1)) (ob b c τ) (bump l c (slot b c (ob b c τ).1)) (t + 1)).2.2.2
  rw [← e4]
  by_cases s2 : slot b c (ob b c σ).1 = 2
  ·simp only [if_pos s2]
   exact ⟨trivial, e1', trivial⟩
  ·simp only [if_neg s2]
   exact run_re f _ _ _ _ _ _ e1' e2 (by have : (ob b c σ).2.2.toInt ≤ σ.2.2.toInt + 1 := e3; omega)

def Zk (k : KK) : Prop := ∀ j, j < 16 → at' k.1 j = 0 ∧ at' k.2 j = 0
theorem clear_ok {b : BB} {k : KK} {r : RR} {i : II} {o : Ob} (h : Sh b k r i o) (K : LK k) : okP (F7 o) (fun p => ∃ k', LK k' ∧ Sh b k' r i p ∧ tc p = tc o ∧ Zk k') := by
 have z16 : (16 : Int32).toInt = 16 := rfl
 unfold F7
 apply okP.bind
 refine okP.mono (P := fun p => ∃ k', LK k' ∧ Sh b k' r i p ∧ tc p = tc o ∧ Zk k') ?_ (fun p hp => okP.some hp)
 refine okP.loop (fun w : Int32 × Ob => ∃ m : Nat, w.1.toInt = (m : Int) ∧ ∃ k', LK k' ∧ Sh b k' r i w.2 ∧ tc w.2 = tc o ∧ ∀ j, j < m → j < 16 → at' k'.1 j = 0 ∧ at' k'.2 j = 0) (fun w => (16 - w.1.toInt).toNat) ⟨0, rfl, k, K, h, rfl, fun j hj => absurd hj (by omega)⟩ (by show (16 - (0 : Int)).toNat < 4000; decide) ?_
 rintro ⟨x, p⟩ ⟨m, x0, k', K', hp, tp', zz⟩
 simp only at x0 hp tp'
 unfold B7_2
 simp only
 refine okP.ite (fun c => ?_) (fun c => okP.some ⟨k', K', hp, tp', fun j hj => zz j (by rw [i_lt, z16] at c; omega) hj⟩)
 rw [i_lt, z16] at c
 have e1 : (x + 1).toInt = x.toInt + 1 := inc1 (by omega)
 have l1 := K'.1
 have l2 := K'.2
 rw [g_cnt0 hp, g_cnt1 hp, aset_at x0 (by omega), Option.bind_some, aset_at x0 (by omega), Option.bind_some]
 refine okP.some ⟨⟨m + 1, by simp only; omega, _, ⟨by simp only [List.length_set]; exact l1, by simp only [List.length_set]; exact l2⟩, wc_1 (wc_0 hp _) _, (c_c1 _ _).trans ((c_c0 _ _).trans tp'), fun j hj j16 => ?_⟩, by simp only; omega⟩
 simp only
 rw [at_set (by omega), at_set (by omega)]
 by_cases e : j = m
 ·rw [if_pos e, if_pos e]; exact ⟨rfl, rfl⟩
 ·rw [if_neg e, if_neg e]; exact zz j (by omega) j16
theorem GB_set {b : BB} {n j : Nat} (G : GB b n) (hj : j < n) {kd ts a c : Int32} (s0 : 0 ≤ ts.toInt) (s1 : ts.toInt ≤ 15) (a0 : 0 ≤ a.toInt) (a1 : a.toInt < n) (c0 : 0 ≤ c.toInt) (c1 : c.toInt < n) : GB (b.1, b.2.1, b.2.2.1, b.2.2.2.1, b.2.2.2.2.1.set j kd, b.2.2.2.2.2.1.set j ts, b.2.2.2.2.2.2.1.set j a, b.2.2.2.2.2.2.2.set j c) n := by
 obtain ⟨⟨L1, L2, L3, L4, L5, L6, L7, L8⟩, n16, g⟩ := G
 refine ⟨⟨L1, L2, L3, L4, by simp only [List.length_set]; exact L5, by simp only [List.length_set]; exact L6, by simp only [List.length_set]; exact L7, by simp only [List.length_set]; exact L8⟩, n16, fun d hd => ?_⟩
 have g' := g d hd
 unfold te t0 t1 at *
 simp only
 rw [at_set (by omega), at_set (by omega), at_set (by omega)]
 by_cases e : d = j
 ·simp only [if_pos e]
  exact ⟨⟨s0, s1⟩, ⟨a0, a1⟩, c0, c1⟩
 ·simp only [if_neg e]
  exact g'
theorem term_w {b : BB} {k : KK} {r : RR} {i : II} {o : Ob} (h : Sh b k r i o) {n j : Nat} (G : GB b n) (K : LK k) (hj : j < n) {x : Int32} (hx : x.toInt = j) (kd ts a c : Int32) (s0 : 0 ≤ ts.toInt) (s1 : ts.toInt ≤ 15) (a0 : 0 ≤ a.toInt) (a1 : a.toInt < n) (c0 : 0 ≤ c.toInt) (c1 : c.toInt < n) : okP ((F6 o x kd ts a).bind fun r38 => (aset (f_bT1 r38) x c).bind fun y39 => (F7 (s_bT1 r38 y39)).bind fun r47 => some ((1 : Int32), r47)) (fun w => w.1 = 1 ∧ ∃ b' k', GB b' n ∧ LK k' ∧ Sh b' k' r i w.2 ∧ b' = (b.1, b.2.1, b.2.2.1, b.2.2.2.1, b.2.2.2.2.1.set j kd, b.2.2.2.2.2.1.set j ts, b.2.2.2.2.2.2.1.set j a, b.2.2.2.2.2.2.2.set j c) ∧ Zk k') := by
 have n16 := G.2.1
 obtain ⟨L1, L2, L3, L4, L5, L6, L7, L8⟩ := G.1
 unfold F6
 rw [g_bTerm h, g_bTest h, g_bT0 h, aset_at hx (by omega), Option.bind_some, aset_at hx (by omega), Option.bind_some, aset_at hx (by omega), Option.bind_some, Option.bind_some]
 have e1 : f_bT1 (s_bT0 (s_bTest (s_bTerm o (b.2.2.2.2.1.set j kd)) (b.2.2.2.2.2.1.set j ts)) (b.2.2.2.2.2.2.1.set j a)) = b.2.2.2.2.2.2.2 := by
  rw [← g_bT1 h]; dsimp only [f_bOp, f_bD, f_bS, f_bImm, f_bTerm, f_bTest, f_bT0, f_bT1, f_cnt0, f_cnt1, f_regs, f_outs, f_edgeId, f_edgeW, f_chNext, f_chPrev, f_chHead, f_heat, f_posOf, f_order, f_cOp, f_cD, f_cS, f_cImm, f_cKind, f_cTest, f_cTaken, f_cOther, f_maxBlocks, f_maxSteps, f_n, f_arranged, f_outCount, f_steps, f_status, f_edgeN, s_bOp, s_bD, s_bS, s_bImm, s_bTerm, s_bTest, s_bT0, s_bT1, s_cnt0, s_cnt1, s_regs, s_outs, s_edgeId, s_edgeW, s_chNext, s_chPrev, s_chHead, s_heat, s_posOf, s_order, s_cOp, s_cD, s_cS, s_cImm, s_cKind, s_cTest, s_cTaken, s_cOther, s_maxBlocks, s_maxSteps, s_n, s_arranged, s_outCount, s_steps, s_status, s_edgeN]
 rw [e1, aset_at hx (by omega), Option.bind_some]
 have hs : Sh (b.1, b.2.1, b.2.2.1, b.2.2.2.1, b.2.2.2.2.1.set j kd, b.2.2.2.2.2.1.set j ts, b.2.2.2.2.2.2.1.set j a, b.2.2.2.2.2.2.2.set j c) k r i (s_bT1 (s_bT0 (s_bTest (s_bTerm o (b.2.2.2.2.1.set j kd)) (b.2.2.2.2.2.1.set j ts)) (b.2.2.2.2.2.2.1.set j a)) (b.2.2.2.2.2.2.2.set j c)) := by
  refine h.to (by dsimp only [lay, f_bOp, f_bD, f_bS, f_bImm, f_bTerm, f_bTest, f_bT0, f_bT1, f_cnt0, f_cnt1, f_regs, f_outs, f_edgeId, f_edgeW, f_chNext, f_chPrev, f_chHead, f_heat, f_posOf, f_order, f_cOp, f_cD, f_cS, f_cImm, f_cKind, f_cTest, f_cTaken, f_cOther, f_maxBlocks, f_maxSteps, f_n, f_arranged, f_outCount, f_steps, f_status, f_edgeN, s_bOp, s_bD, s_bS, s_bImm, s_bTerm, s_bTest, s_bT0, s_bT1, s_cnt0, s_cnt1, s_regs, s_outs, s_edgeId, s_edgeW, s_chNext, s_chPrev, s_chHead, s_heat, s_posOf, s_order, s_cOp, s_cD, s_cS, s_cImm, s_cKind, s_cTest, s_cTaken, s_cOther, s_maxBlocks, s_maxSteps, s_n, s_arranged, s_outCount, s_steps, s_status, s_edgeN]) ?_ ?_ ?_ ?_
  ·rw [show tb (s_bT1 (s_bT0 (s_bTest (s_bTerm o (b.2.2.2.2.1.set j kd)) (b.2.2.2.2.2.1.set j ts)) (b.2.2.2.2.2.2.1.set j a)) (b.2.2.2.2.2.2.2.set j c)) = (f_bOp o, f_bD o, f_bS o, f_bImm o, b.2.2.2.2.1.set j kd, b.2.2.2.2.2.1.set j ts, b.2.2.2.2.2.2.1.set j a, b.2.2.2.2.2.2.2.set j c) by dsimp only [tb, f_bOp, f_bD, f_bS, f_bImm, f_bTerm, f_bTest, f_bT0, f_bT1, f_cnt0, f_cnt1, f_regs, f_outs, f_edgeId, f_edgeW, f_chNext, f_chPrev, f_chHead, f_heat, f_posOf, f_order, f_cOp, f_cD, f_cS, f_cImm, f_cKind, f_cTest, f_cTaken, f_cOther, f_maxBlocks, f_maxSteps, f_n, f_arranged, f_outCount, f_steps, f_status, f_edgeN, s_bOp, s_bD, s_bS, s_bImm, s_bTerm, s_bTest, s_bT0, s_bT1, s_cnt0, s_cnt1, s_regs, s_outs, s_edgeId, s_edgeW, s_chNext, s_chPrev, s_chHead, s_heat, s_posOf, s_order, s_cOp, s_cD, s_cS, s_cImm, s_cKind, s_cTest, s_cTaken, s_cOther, s_maxBlocks, s_maxSteps, s_n, s_arranged, s_outCount, s_steps, s_status, s_edgeN], g_bOp h, g_bD h, g_bS h, g_bImm h]
  ·rw [← h_k h]; dsimp only [tk, f_bOp, f_bD, f_bS, f_bImm, f_bTerm, f_bTest, f_bT0, f_bT1, f_cnt0, f_cnt1, f_regs, f_outs, f_edgeId, f_edgeW, f_chNext, f_chPrev, f_chHead, f_heat, f_posOf, f_order, f_cOp, f_cD, f_cS, f_cImm, f_cKind, f_cTest, f_cTaken, f_cOther, f_maxBlocks, f_maxSteps, f_n, f_arranged, f_outCount, f_steps, f_status, f_edgeN, s_bOp, s_bD, s_bS, s_bImm, s_bTerm, s_bTest, s_bT0, s_bT1, s_cnt0, s_cnt1, s_regs, s_outs, s_edgeId, s_edgeW, s_chNext, s_chPrev, s_chHead, s_heat, s_posOf, s_order, s_cOp, s_cD, s_cS, s_cImm, s_cKind, s_cTest, s_cTaken, s_cOther, s_maxBlocks, s_maxSteps, s_n, s_arranged, s_outCount, s_steps, s_status, s_edgeN]
  ·rw [← h_r h]; dsimp only [tr, f_bOp, f_bD, f_bS, f_bImm, f_bTerm, f_bTest, f_bT0, f_bT1, f_cnt0, f_cnt1, f_regs, f_outs, f_edgeId, f_edgeW, f_chNext, f_chPrev, f_chHead, f_heat, f_posOf, f_order, f_cOp, f_cD, f_cS, f_cImm, f_cKind, f_cTest, f_cTaken, f_cOther, f_maxBlocks, f_maxSteps, f_n, f_arranged, f_outCount, f_steps, f_status, f_edgeN, s_bOp, s_bD, s_bS, s_bImm, s_bTerm, s_bTest, s_bT0, s_bT1, s_cnt0, s_cnt1, s_regs, s_outs, s_edgeId, s_edgeW, s_chNext, s_chPrev, s_chHead, s_heat, s_posOf, s_order, s_cOp, s_cD, s_cS, s_cImm, s_cKind, s_cTest, s_cTaken, s_cOther, s_maxBlocks, s_maxSteps, s_n, s_arranged, s_outCount, s_steps, s_status, s_edgeN]
  ·rw [← h_i h]; dsimp only [ti, f_bOp, f_bD, f_bS, f_bImm, f_bTerm, f_bTest, f_bT0, f_bT1, f_cnt0, f_cnt1, f_regs, f_outs, f_edgeId, f_edgeW, f_chNext, f_chPrev, f_chHead, f_heat, f_posOf, f_order, f_cOp, f_cD, f_cS, f_cImm, f_cKind, f_cTest, f_cTaken, f_cOther, f_maxBlocks, f_maxSteps, f_n, f_arranged, f_outCount, f_steps, f_status, f_edgeN, s_bOp, s_bD, s_bS, s_bImm, s_bTerm, s_bTest, s_bT0, s_bT1, s_cnt0, s_cnt1, s_regs, s_outs, s_edgeId, s_edgeW, s_chNext, s_chPrev, s_chHead, s_heat, s_posOf, s_order, s_cOp, s_cD, s_cS, s_cImm, s_cKind, s_cTest, s_cTaken, s_cOther, s_maxBlocks, s_maxSteps, s_n, s_arranged, s_outCount, s_steps, s_status, s_edgeN]
 generalize s_bT1 (s_bT0 (s_bTest (s_bTerm o (b.2.2.2.2.1.set j kd)) (b.2.2.2.2.2.1.set j ts)) (b.2.2.2.2.2.2.1.set j a)) (b.2.2.2.2.2.2.2.set j c) = p at *
 apply okP.bind
 refine okP.mono (clear_ok hs K) ?_
 rintro q ⟨k', K', hq, _, zz⟩
 exact okP.some ⟨rfl, _, k', GB_set G hj s0 s1 a0 a1 c0 c1, K', hq, rfl, zz⟩
theorem vb_m {b : BB} {k : KK} {r : RR} {i : II} {o : Ob} (h : Sh b k r i o) {n : Nat} (hn : i.2.2.1.toInt = n) (n16 : n ≤ 16) (x : Int32) : (F4 o x = some 0 ∧ ¬ (0 ≤ x.toInt ∧ x.toInt < n)) ∨ (F4 o x = some 1 ∧ ∃ j : Nat, j < n ∧ x.toInt = j) := by
 have z0 : (0 : Int32).toInt = 0 := rfl
 have z16 : (16 : Int32).toInt = 16 := rfl
 unfold F4
 by_cases x0 : x < 0
 ·rw [if_pos x0]
  rw [i_lt, z0] at x0
  exact Or.inl ⟨rfl, by omega⟩
 rw [if_neg x0]
 rw [i_lt, z0] at x0
 by_cases x1 : x < f_n o
 ·rw [if_pos x1]
  rw [i_lt, g_n h, hn] at x1
  rw [if_pos (by rw [i_lt, z16]; omega)]
  exact Or.inr ⟨rfl, x.toInt.toNat, by omega, by omega⟩
 ·rw [if_neg x1]
  rw [i_lt, g_n h, hn] at x1
  exact Or.inl ⟨rfl, by omega⟩
theorem add_ok {b : BB} {k : KK} {r : RR} {i : II} {o : Ob} (h : Sh b k r i o) {n : Nat} (G : GB b n) (K : LK k) (hn : i.2.2.1.toInt = n) (hm : i.1.toInt ≤ 16) (nm : n ≤ i.1.toInt) (a d s m : Int32) : okP (F5 o a d s m) (fun w => (w = (-1, o) ∧ ¬ (i.2.2.2 = 0 ∧ (n : Int) < i.1.toInt ∧ (0 ≤ a.toInt ∧ a.toInt ≤ 7) ∧ (0 ≤ d.toInt ∧ d.toInt ≤ 3) ∧ 0 ≤ s.toInt ∧ s.toInt ≤ 3)) ∨ (i.2.2.2 = 0 ∧ n < i.1.toInt ∧ w.1 = i.2.2.1 ∧ ∃ b' k', GB b' (n + 1) ∧ LK k' ∧ Sh b' k' r (i.1, i.2.1, i.2.2.1 + 1, 0) w.2 ∧ b' = (b.1.set n a, b.2.1.set n d, b.2.2.1.set n s, b.2.2.2.1.set n m, b.2.2.2.2.1.set n 0, b.2.2.2.2.2.1.set n 0, b.2.2.2.2.2.2.1.set n 0, b.2.2.2.2.2.2.2.set n 0))) := by
 have z16 : (16 : Int32).toInt = 16 := rfl
 obtain ⟨L1, L2, L3, L4, L5, L6, L7, L8⟩ := G.1
 unfold F5
 have z0 : (0 : Int32).toInt = 0 := rfl
 have z3 : (3 : Int32).toInt = 3 := rfl
 have z7 : (7 : Int32).toInt = 7 := rfl
 refine okP.ite (fun ar => ?_) (fun w => okP.some (Or.inl ⟨rfl, fun z => w ((g_ar h).trans z.1)⟩))
 refine okP.ite (fun w => okP.some (Or.inl ⟨rfl, fun z => ?_⟩)) (fun ne => ?_)
 ·rw [i_eq, g_n h, g_mb h, hn] at w; omega
 refine okP.ite (fun lt => ?_) (fun w => okP.some (Or.inl ⟨rfl, fun z => ?_⟩))
 rotate_left
 ·rw [i_lt, g_n h, hn, z16] at w; omega
 refine okP.ite (fun w => okP.some (Or.inl ⟨rfl, fun z => by rw [i_lt, z0] at w; omega⟩)) (fun _ => ?_)
 refine okP.ite (fun w => okP.some (Or.inl ⟨rfl, fun z => by rw [i_lt, z7] at w; omega⟩)) (fun _ => ?_)
 refine okP.ite (fun w => okP.some (Or.inl ⟨rfl, fun z => by rw [i_lt, z0] at w; omega⟩)) (fun _ => ?_)
 refine okP.ite (fun w => okP.some (Or.inl ⟨rfl, fun z => by rw [i_lt, z3] at w; omega⟩)) (fun _ => ?_)
 refine okP.ite (fun w => okP.some (Or.inl ⟨rfl, fun z => by rw [i_lt, z0] at w; omega⟩)) (fun _ => ?_)
 refine okP.ite (fun w => okP.some (Or.inl ⟨rfl, fun z => by rw [i_lt, z3] at w; omega⟩)) (fun _ => ?_)
 rw [g_ar h] at ar
 rw [i_lt, g_n h, hn, z16] at lt
 rw [i_eq, g_n h, g_mb h, hn] at ne
 have lt : n < 16 := by omega
 rw [g_n h, g_bOp h, g_bD h, g_bS h, g_bImm h, aset_at hn (by omega), Option.bind_some, aset_at hn (by omega), Option.bind_some, aset_at hn (by omega), Option.bind_some, aset_at hn (by omega), Option.bind_some]
 have e1 : (i.2.2.1 + 1).toInt = i.2.2.1.toInt + 1 := inc1 (by omega)
 generalize hN : i.2.2.1 + 1 = N at e1 ⊢
 have hs : Sh (b.1.set n a, b.2.1.set n d, b.2.2.1.set n s, b.2.2.2.1.set n m, b.2.2.2.2) k r i (s_bImm (s_bS (s_bD (s_bOp o (b.1.set n a)) (b.2.1.set n d)) (b.2.2.1.set n s)) (b.2.2.2.1.set n m)) := by
  refine h.to (by dsimp only [lay, f_bOp, f_bD, f_bS, f_bImm, f_bTerm, f_bTest, f_bT0, f_bT1, f_cnt0, f_cnt1, f_regs, f_outs, f_edgeId, f_edgeW, f_chNext, f_chPrev, f_chHead, f_heat, f_posOf, f_order, f_cOp, f_cD, f_cS, f_cImm, f_cKind, f_cTest, f_cTaken, f_cOther, f_maxBlocks, f_maxSteps, f_n, f_arranged, f_outCount, f_steps, f_status, f_edgeN, s_bOp, s_bD, s_bS, s_bImm, s_bTerm, s_bTest, s_bT0, s_bT1, s_cnt0, s_cnt1, s_regs, s_outs, s_edgeId, s_edgeW, s_chNext, s_chPrev, s_chHead, s_heat, s_posOf, s_order, s_cOp, s_cD, s_cS, s_cImm, s_cKind, s_cTest, s_cTaken, s_cOther, s_maxBlocks, s_maxSteps, s_n, s_arranged, s_outCount, s_steps, s_status, s_edgeN]) ?_ ?_ ?_ ?_
  ·rw [show b.2.2.2.2 = (f_bTerm o, f_bTest o, f_bT0 o, f_bT1 o) by rw [g_bTerm h, g_bTest h, g_bT0 h, g_bT1 h]]
   dsimp only [tb, f_bOp, f_bD, f_bS, f_bImm, f_bTerm, f_bTest, f_bT0, f_bT1, f_cnt0, f_cnt1, f_regs, f_outs, f_edgeId, f_edgeW, f_chNext, f_chPrev, f_chHead, f_heat, f_posOf, f_order, f_cOp, f_cD, f_cS, f_cImm, f_cKind, f_cTest, f_cTaken, f_cOther, f_maxBlocks, f_maxSteps, f_n, f_arranged, f_outCount, f_steps, f_status, f_edgeN, s_bOp, s_bD, s_bS, s_bImm, s_bTerm, s_bTest, s_bT0, s_bT1, s_cnt0, s_cnt1, s_regs, s_outs, s_edgeId, s_edgeW, s_chNext, s_chPrev, s_chHead, s_heat, s_posOf, s_order, s_cOp, s_cD, s_cS, s_cImm, s_cKind, s_cTest, s_cTaken, s_cOther, s_maxBlocks, s_maxSteps, s_n, s_arranged, s_outCount, s_steps, s_status, s_edgeN]
  ·rw [← h_k h]; dsimp only [tk, f_bOp, f_bD, f_bS, f_bImm, f_bTerm, f_bTest, f_bT0, f_bT1, f_cnt0, f_cnt1, f_regs, f_outs, f_edgeId, f_edgeW, f_chNext, f_chPrev, f_chHead, f_heat, f_posOf, f_order, f_cOp, f_cD, f_cS, f_cImm, f_cKind, f_cTest, f_cTaken, f_cOther, f_maxBlocks, f_maxSteps, f_n, f_arranged, f_outCount, f_steps, f_status, f_edgeN, s_bOp, s_bD, s_bS, s_bImm, s_bTerm, s_bTest, s_bT0, s_bT1, s_cnt0, s_cnt1, s_regs, s_outs, s_edgeId, s_edgeW, s_chNext, s_chPrev, s_chHead, s_heat, s_posOf, s_order, s_cOp, s_cD, s_cS, s_cImm, s_cKind, s_cTest, s_cTaken, s_cOther, s_maxBlocks, s_maxSteps, s_n, s_arranged, s_outCount, s_steps, s_status, s_edgeN]
  ·rw [← h_r h]; dsimp only [tr, f_bOp, f_bD, f_bS, f_bImm, f_bTerm, f_bTest, f_bT0, f_bT1, f_cnt0, f_cnt1, f_regs, f_outs, f_edgeId, f_edgeW, f_chNext, f_chPrev, f_chHead, f_heat, f_posOf, f_order, f_cOp, f_cD, f_cS, f_cImm, f_cKind, f_cTest, f_cTaken, f_cOther, f_maxBlocks, f_maxSteps, f_n, f_arranged, f_outCount, f_steps, f_status, f_edgeN, s_bOp, s_bD, s_bS, s_bImm, s_bTerm, s_bTest, s_bT0, s_bT1, s_cnt0, s_cnt1, s_regs, s_outs, s_edgeId, s_edgeW, s_chNext, s_chPrev, s_chHead, s_heat, s_posOf, s_order, s_cOp, s_cD, s_cS, s_cImm, s_cKind, s_cTest, s_cTaken, s_cOther, s_maxBlocks, s_maxSteps, s_n, s_arranged, s_outCount, s_steps, s_status, s_edgeN]
  ·rw [← h_i h]; dsimp only [ti, f_bOp, f_bD, f_bS, f_bImm, f_bTerm, f_bTest, f_bT0, f_bT1, f_cnt0, f_cnt1, f_regs, f_outs, f_edgeId, f_edgeW, f_chNext, f_chPrev, f_chHead, f_heat, f_posOf, f_order, f_cOp, f_cD, f_cS, f_cImm, f_cKind, f_cTest, f_cTaken, f_cOther, f_maxBlocks, f_maxSteps, f_n, f_arranged, f_outCount, f_steps, f_status, f_edgeN, s_bOp, s_bD, s_bS, s_bImm, s_bTerm, s_bTest, s_bT0, s_bT1, s_cnt0, s_cnt1, s_regs, s_outs, s_edgeId, s_edgeW, s_chNext, s_chPrev, s_chHead, s_heat, s_posOf, s_order, s_cOp, s_cD, s_cS, s_cImm, s_cKind, s_cTest, s_cTaken, s_cOther, s_maxBlocks, s_maxSteps, s_n, s_arranged, s_outCount, s_steps, s_status, s_edgeN]
 generalize s_bImm (s_bS (s_bD (s_bOp o (b.1.set n a)) (b.2.1.set n d)) (b.2.2.1.set n s)) (b.2.2.2.1.set n m) = p at *
 unfold F6
 rw [g_bTerm hs, g_bTest hs, g_bT0 hs, aset_at hn (by simp only; omega), Option.bind_some, aset_at hn (by simp only; omega), Option.bind_some, aset_at hn (by simp only; omega), Option.bind_some, Option.bind_some]
 simp only
 have e2 : f_bT1 (s_bT0 (s_bTest (s_bTerm p (b.2.2.2.2.1.set n 0)) (b.2.2.2.2.2.1.set n 0)) (b.2.2.2.2.2.2.1.set n 0)) = b.2.2.2.2.2.2.2 := by
  rw [show b.2.2.2.2.2.2.2 = f_bT1 p from (g_bT1 hs).symm]; dsimp only [f_bOp, f_bD, f_bS, f_bImm, f_bTerm, f_bTest, f_bT0, f_bT1, f_cnt0, f_cnt1, f_regs, f_outs, f_edgeId, f_edgeW, f_chNext, f_chPrev, f_chHead, f_heat, f_posOf, f_order, f_cOp, f_cD, f_cS, f_cImm, f_cKind, f_cTest, f_cTaken, f_cOther, f_maxBlocks, f_maxSteps, f_n, f_arranged, f_outCount, f_steps, f_status, f_edgeN, s_bOp, s_bD, s_bS, s_bImm, s_bTerm, s_bTest, s_bT0, s_bT1, s_cnt0, s_cnt1, s_regs, s_outs, s_edgeId, s_edgeW, s_chNext, s_chPrev, s_chHead, s_heat, s_posOf, s_order, s_cOp, s_cD, s_cS, s_cImm, s_cKind, s_cTest, s_cTaken, s_cOther, s_maxBlocks, s_maxSteps, s_n, s_arranged, s_outCount, s_steps, s_status, s_edgeN]
 rw [e2, aset_at hn (by omega), Option.bind_some]
 have hq : Sh (b.1.set n a, b.2.1.set n d, b.2.2.1.set n s, b.2.2.2.1.set n m, b.2.2.2.2.1.set n 0, b.2.2.2.2.2.1.set n 0, b.2.2.2.2.2.2.1.set n 0, b.2.2.2.2.2.2.2.set n 0) k r (i.1, i.2.1, N, 0) (s_n (s_bT1 (s_bT0 (s_bTest (s_bTerm p (b.2.2.2.2.1.set n 0)) (b.2.2.2.2.2.1.set n 0)) (b.2.2.2.2.2.2.1.set n 0)) (b.2.2.2.2.2.2.2.set n 0)) N) := by
  refine hs.to (by dsimp only [lay, f_bOp, f_bD, f_bS, f_bImm, f_bTerm, f_bTest, f_bT0, f_bT1, f_cnt0, f_cnt1, f_regs, f_outs, f_edgeId, f_edgeW, f_chNext, f_chPrev, f_chHead, f_heat, f_posOf, f_order, f_cOp, f_cD, f_cS, f_cImm, f_cKind, f_cTest, f_cTaken, f_cOther, f_maxBlocks, f_maxSteps, f_n, f_arranged, f_outCount, f_steps, f_status, f_edgeN, s_bOp, s_bD, s_bS, s_bImm, s_bTerm, s_bTest, s_bT0, s_bT1, s_cnt0, s_cnt1, s_regs, s_outs, s_edgeId, s_edgeW, s_chNext, s_chPrev, s_chHead, s_heat, s_posOf, s_order, s_cOp, s_cD, s_cS, s_cImm, s_cKind, s_cTest, s_cTaken, s_cOther, s_maxBlocks, s_maxSteps, s_n, s_arranged, s_outCount, s_steps, s_status, s_edgeN]) ?_ ?_ ?_ ?_
  ·rw [show b.1.set n a = f_bOp p from (g_bOp hs).symm, show b.2.1.set n d = f_bD p from (g_bD hs).symm, show b.2.2.1.set n s = f_bS p from (g_bS hs).symm, show b.2.2.2.1.set n m = f_bImm p from (g_bImm hs).symm]
   dsimp only [tb, f_bOp, f_bD, f_bS, f_bImm, f_bTerm, f_bTest, f_bT0, f_bT1, f_cnt0, f_cnt1, f_regs, f_outs, f_edgeId, f_edgeW, f_chNext, f_chPrev, f_chHead, f_heat, f_posOf, f_order, f_cOp, f_cD, f_cS, f_cImm, f_cKind, f_cTest, f_cTaken, f_cOther, f_maxBlocks, f_maxSteps, f_n, f_arranged, f_outCount, f_steps, f_status, f_edgeN, s_bOp, s_bD, s_bS, s_bImm, s_bTerm, s_bTest, s_bT0, s_bT1, s_cnt0, s_cnt1, s_regs, s_outs, s_edgeId, s_edgeW, s_chNext, s_chPrev, s_chHead, s_heat, s_posOf, s_order, s_cOp, s_cD, s_cS, s_cImm, s_cKind, s_cTest, s_cTaken, s_cOther, s_maxBlocks, s_maxSteps, s_n, s_arranged, s_outCount, s_steps, s_status, s_edgeN]
  ·rw [← h_k hs]; dsimp only [tk, f_bOp, f_bD, f_bS, f_bImm, f_bTerm, f_bTest, f_bT0, f_bT1, f_cnt0, f_cnt1, f_regs, f_outs, f_edgeId, f_edgeW, f_chNext, f_chPrev, f_chHead, f_heat, f_posOf, f_order, f_cOp, f_cD, f_cS, f_cImm, f_cKind, f_cTest, f_cTaken, f_cOther, f_maxBlocks, f_maxSteps, f_n, f_arranged, f_outCount, f_steps, f_status, f_edgeN, s_bOp, s_bD, s_bS, s_bImm, s_bTerm, s_bTest, s_bT0, s_bT1, s_cnt0, s_cnt1, s_regs, s_outs, s_edgeId, s_edgeW, s_chNext, s_chPrev, s_chHead, s_heat, s_posOf, s_order, s_cOp, s_cD, s_cS, s_cImm, s_cKind, s_cTest, s_cTaken, s_cOther, s_maxBlocks, s_maxSteps, s_n, s_arranged, s_outCount, s_steps, s_status, s_edgeN]
  ·rw [← h_r hs]; dsimp only [tr, f_bOp, f_bD, f_bS, f_bImm, f_bTerm, f_bTest, f_bT0, f_bT1, f_cnt0, f_cnt1, f_regs, f_outs, f_edgeId, f_edgeW, f_chNext, f_chPrev, f_chHead, f_heat, f_posOf, f_order, f_cOp, f_cD, f_cS, f_cImm, f_cKind, f_cTest, f_cTaken, f_cOther, f_maxBlocks, f_maxSteps, f_n, f_arranged, f_outCount, f_steps, f_status, f_edgeN, s_bOp, s_bD, s_bS, s_bImm, s_bTerm, s_bTest, s_bT0, s_bT1, s_cnt0, s_cnt1, s_regs, s_outs, s_edgeId, s_edgeW, s_chNext, s_chPrev, s_chHead, s_heat, s_posOf, s_order, s_cOp, s_cD, s_cS, s_cImm, s_cKind, s_cTest, s_cTaken, s_cOther, s_maxBlocks, s_maxSteps, s_n, s_arranged, s_outCount, s_steps, s_status, s_edgeN]
  ·rw [← g_mb hs, ← g_ms hs, show (0 : Int32) = f_arranged p by rw [g_ar hs, ar]]; dsimp only [ti, f_bOp, f_bD, f_bS, f_bImm, f_bTerm, f_bTest, f_bT0, f_bT1, f_cnt0, f_cnt1, f_regs, f_outs, f_edgeId, f_edgeW, f_chNext, f_chPrev, f_chHead, f_heat, f_posOf, f_order, f_cOp, f_cD, f_cS, f_cImm, f_cKind, f_cTest, f_cTaken, f_cOther, f_maxBlocks, f_maxSteps, f_n, f_arranged, f_outCount, f_steps, f_status, f_edgeN, s_bOp, s_bD, s_bS, s_bImm, s_bTerm, s_bTest, s_bT0, s_bT1, s_cnt0, s_cnt1, s_regs, s_outs, s_edgeId, s_edgeW, s_chNext, s_chPrev, s_chHead, s_heat, s_posOf, s_order, s_cOp, s_cD, s_cS, s_cImm, s_cKind, s_cTest, s_cTaken, s_cOther, s_maxBlocks, s_maxSteps, s_n, s_arranged, s_outCount, s_steps, s_status, s_edgeN]
 generalize s_n (s_bT1 (s_bT0 (s_bTest (s_bTerm p (b.2.2.2.2.1.set n 0)) (b.2.2.2.2.2.1.set n 0)) (b.2.2.2.2.2.2.1.set n 0)) (b.2.2.2.2.2.2.2.set n 0)) N = q at *
 apply okP.bind
 refine okP.mono (clear_ok hq K) ?_
 rintro t ⟨k', K', ht, _⟩
 refine okP.some (Or.inr ⟨ar, by omega, rfl, _, k', ?_, K', ht, rfl⟩)
 refine ⟨⟨by simp only [List.length_set]; exact L1, by simp only [List.length_set]; exact L2, by simp only [List.length_set]; exact L3, by simp only [List.length_set]; exact L4, by simp only [List.length_set]; exact L5, by simp only [List.length_set]; exact L6, by simp only [List.length_set]; exact L7, by simp only [List.length_set]; exact L8⟩, by omega, fun c hc => ?_⟩
 have g := G.2.2 c
 unfold te t0 t1 at *
 simp only
 rw [at_set (by omega), at_set (by omega), at_set (by omega)]
 by_cases e : c = n
 ·simp only [if_pos e]
  exact ⟨⟨by decide, by decide⟩, ⟨by decide, by show (0 : Int) < ((n + 1 : Nat) : Int); omega⟩, by decide, by show (0 : Int) < ((n + 1 : Nat) : Int); omega⟩
 ·simp only [if_neg e]
  obtain ⟨g1, g2, g3⟩ := g (by omega)
  exact ⟨g1, ⟨g2.1, by omega⟩, g3.1, by omega⟩
theorem bran_x {b : BB} {k : KK} {r : RR} {i : II} {o : Ob} (h : Sh b k r i o) {n j : Nat} (G : GB b n) (K : LK k) (hn : i.2.2.1.toInt = n) (ar : i.2.2.2 = 0) (hj : j < n) {x t y z : Int32} (hx : x.toInt = j) (s0 : 0 ≤ t.toInt) (s1 : t.toInt ≤ 15) (y0 : 0 ≤ y.toInt) (y1 : y.toInt < n) (w0 : 0 ≤ z.toInt) (w1 : z.toInt < n) : okP (F9 o x t y z) (fun w => w.1 = 1 ∧ ∃ b' k', GB b' n ∧ LK k' ∧ Sh b' k' r i w.2 ∧ b' = (b.1, b.2.1, b.2.2.1, b.2.2.2.1, b.2.2.2.2.1.set j 2, b.2.2.2.2.2.1.set j t, b.2.2.2.2.2.2.1.set j y, b.2.2.2.2.2.2.2.set j z) ∧ Zk k') := by
 have z0 : (0 : Int32).toInt = 0 := rfl
 have z15 : (15 : Int32).toInt = 15 := rfl
 have vv : ∀ {x : Int32}, 0 ≤ x.toInt → x.toInt < n → F4 o x = some 1 := by
  intro x a1 a2
  rcases vb_m h hn G.2.1 x with ⟨_, w⟩ | ⟨v, _⟩
  ·exact absurd ⟨a1, a2⟩ w
  ·exact v
 unfold F9
 rw [if_pos ((g_ar h).trans ar), vv (x := x) (by omega) (by omega), Option.bind_some, if_neg (by decide), if_neg (by rw [i_lt, z0]; omega), if_neg (by rw [i_lt, z15]; omega), vv y0 y1, Option.bind_some, if_neg (by decide), vv w0 w1, Option.bind_some, if_neg (by decide)]
 exact term_w h G K hj hx 2 t y z s0 s1 y0 y1 w0 w1
theorem jump_x {b : BB} {k : KK} {r : RR} {i : II} {o : Ob} (h : Sh b k r i o) {n j : Nat} (G : GB b n) (K : LK k) (hn : i.2.2.1.toInt = n) (ar : i.2.2.2 = 0) (hj : j < n) {x y : Int32} (hx : x.toInt = j) (y0 : 0 ≤ y.toInt) (y1 : y.toInt < n) : okP (F3 o x y) (fun w => w.1 = 1 ∧ ∃ b' k', GB b' n ∧ LK k' ∧ Sh b' k' r i w.2 ∧ b' = (b.1, b.2.1, b.2.2.1, b.2.2.2.1, b.2.2.2.2.1.set j 1, b.2.2.2.2.2.1.set j 0, b.2.2.2.2.2.2.1.set j y, b.2.2.2.2.2.2.2.set j 0) ∧ Zk k') := by
 have vv : ∀ {x : Int32}, 0 ≤ x.toInt → x.toInt < n → F4 o x = some 1 := by
  intro x a1 a2
  rcases vb_m h hn G.2.1 x with ⟨_, w⟩ | ⟨v, _⟩
  ·exact absurd ⟨a1, a2⟩ w
  ·exact v
 unfold F3
 rw [if_pos ((g_ar h).trans ar), vv (x := x) (by omega) (by omega), Option.bind_some, if_neg (by decide), vv y0 y1, Option.bind_some, if_neg (by decide)]
 exact term_w h G K hj hx 1 0 y 0 (by decide) (by decide) y0 y1 (by decide) (by show (0 : Int) < n; omega)
theorem jump_ok {b : BB} {k : KK} {r : RR} {i : II} {o : Ob} (h : Sh b k r i o) {n : Nat} (G : GB b n) (K : LK k) (hn : i.2.2.1.toInt = n) (x y : Int32) : okP (F3 o x y) (fun w => w = (0, o) ∨ (i.2.2.2 = 0 ∧ w.1 = 1 ∧ ∃ b' k', GB b' n ∧ LK k' ∧ Sh b' k' r i w.2)) := by
 unfold F3
 refine okP.ite (fun ar => ?_) (fun _ => okP.some (Or.inl rfl))
 rw [g_ar h] at ar
 rcases vb_m h hn G.2.1 x with ⟨v, _⟩ | ⟨v, j, hj, hx⟩
 ·rw [v, Option.bind_some, if_pos rfl]; exact okP.some (Or.inl rfl)
 rw [v, Option.bind_some, if_neg (by decide)]
 rcases vb_m h hn G.2.1 y with ⟨v, _⟩ | ⟨v, j', hj', hy⟩
 ·rw [v, Option.bind_some, if_pos rfl]; exact okP.some (Or.inl rfl)
 rw [v, Option.bind_some, if_neg (by decide)]
 refine okP.mono (term_w h G K hj hx 1 0 y 0 (by decide) (by decide) (by omega) (by omega) (by decide) (by show (0 : Int) < _; omega)) ?_
 rintro w ⟨w1, b', k', a1, a2, a3, _⟩
 exact Or.inr ⟨ar, w1, b', k', a1, a2, a3⟩
theorem branch_ok {b : BB} {k : KK} {r : RR} {i : II} {o : Ob} (h : Sh b k r i o) {n : Nat} (G : GB b n) (K : LK k) (hn : i.2.2.1.toInt = n) (x t y z : Int32) : okP (F9 o x t y z) (fun w => w = (0, o) ∨ (i.2.2.2 = 0 ∧ w.1 = 1 ∧ ∃ b' k', GB b' n ∧ LK k' ∧ Sh b' k' r i w.2)) := by
 have z0 : (0 : Int32).toInt = 0 := rfl
 have z15 : (15 : Int32).toInt = 15 := rfl
 unfold F9
 refine okP.ite (fun ar => ?_) (fun _ => okP.some (Or.inl rfl))
 rw [g_ar h] at ar
 rcases vb_m h hn G.2.1 x with ⟨v, _⟩ | ⟨v, j, hj, hx⟩
 ·rw [v, Option.bind_some, if_pos rfl]; exact okP.some (Or.inl rfl)
 rw [v, Option.bind_some, if_neg (by decide)]
 refine okP.ite (fun _ => okP.some (Or.inl rfl)) (fun q0 => ?_)
 refine okP.ite (fun _ => okP.some (Or.inl rfl)) (fun q1 => ?_)
 rw [i_lt, z0] at q0
 rw [i_lt, z15] at q1
 rcases vb_m h hn G.2.1 y with ⟨v, _⟩ | ⟨v, j', hj', hy⟩
 ·rw [v, Option.bind_some, if_pos rfl]; exact okP.some (Or.inl rfl)
 rw [v, Option.bind_some, if_neg (by decide)]
 rcases vb_m h hn G.2.1 z with ⟨v, _⟩ | ⟨v, j2, hj2, hz⟩
 ·rw [v, Option.bind_some, if_pos rfl]; exact okP.some (Or.inl rfl)
 rw [v, Option.bind_some, if_neg (by decide)]
 refine okP.mono (term_w h G K hj hx 2 t y z (by omega) (by omega) (by omega) (by omega) (by omega) (by omega)) ?_
 rintro w ⟨w1, b', k', a1, a2, a3, _⟩
 exact Or.inr ⟨ar, w1, b', k', a1, a2, a3⟩
theorem halt_ok {b : BB} {k : KK} {r : RR} {i : II} {o : Ob} (h : Sh b k r i o) {n : Nat} (G : GB b n) (K : LK k) (hn : i.2.2.1.toInt = n) (x : Int32) : okP (F11 o x) (fun w => w = (0, o) ∨ (i.2.2.2 = 0 ∧ w.1 = 1 ∧ ∃ b' k', GB b' n ∧ LK k' ∧ Sh b' k' r i w.2)) := by
 unfold F11
 refine okP.ite (fun ar => ?_) (fun _ => okP.some (Or.inl rfl))
 rw [g_ar h] at ar
 rcases vb_m h hn G.2.1 x with ⟨v, _⟩ | ⟨v, j, hj, hx⟩
 ·rw [v, Option.bind_some, if_pos rfl]; exact okP.some (Or.inl rfl)
 rw [v, Option.bind_some, if_neg (by decide)]
 refine okP.mono (term_w h G K hj hx 0 0 0 0 (by decide) (by decide) (by decide) (by show (0 : Int) < _; omega) (by decide) (by show (0 : Int) < _; omega)) ?_
 rintro w ⟨w1, b', k', a1, a2, a3, _⟩
 exact Or.inr ⟨ar, w1, b', k', a1, a2, a3⟩
theorem w_regs {b : BB} {k : KK} {r : RR} {i : II} {o : Ob} (h : Sh b k r i o) (v : List Int32) : Sh b k (v, r.2) i (s_regs o v) := by
 refine h.to (by dsimp only [lay, f_bOp, f_bD, f_bS, f_bImm, f_bTerm, f_bTest, f_bT0, f_bT1, f_cnt0, f_cnt1, f_regs, f_outs, f_edgeId, f_edgeW, f_chNext, f_chPrev, f_chHead, f_heat, f_posOf, f_order, f_cOp, f_cD, f_cS, f_cImm, f_cKind, f_cTest, f_cTaken, f_cOther, f_maxBlocks, f_maxSteps, f_n, f_arranged, f_outCount, f_steps, f_status, f_edgeN, s_bOp, s_bD, s_bS, s_bImm, s_bTerm, s_bTest, s_bT0, s_bT1, s_cnt0, s_cnt1, s_regs, s_outs, s_edgeId, s_edgeW, s_chNext, s_chPrev, s_chHead, s_heat, s_posOf, s_order, s_cOp, s_cD, s_cS, s_cImm, s_cKind, s_cTest, s_cTaken, s_cOther, s_maxBlocks, s_maxSteps, s_n, s_arranged, s_outCount, s_steps, s_status, s_edgeN]) ?_ ?_ ?_ ?_
 ·rw [← h_b h]; dsimp only [tb, f_bOp, f_bD, f_bS, f_bImm, f_bTerm, f_bTest, f_bT0, f_bT1, f_cnt0, f_cnt1, f_regs, f_outs, f_edgeId, f_edgeW, f_chNext, f_chPrev, f_chHead, f_heat, f_posOf, f_order, f_cOp, f_cD, f_cS, f_cImm, f_cKind, f_cTest, f_cTaken, f_cOther, f_maxBlocks, f_maxSteps, f_n, f_arranged, f_outCount, f_steps, f_status, f_edgeN, s_bOp, s_bD, s_bS, s_bImm, s_bTerm, s_bTest, s_bT0, s_bT1, s_cnt0, s_cnt1, s_regs, s_outs, s_edgeId, s_edgeW, s_chNext, s_chPrev, s_chHead, s_heat, s_posOf, s_order, s_cOp, s_cD, s_cS, s_cImm, s_cKind, s_cTest, s_cTaken, s_cOther, s_maxBlocks, s_maxSteps, s_n, s_arranged, s_outCount, s_steps, s_status, s_edgeN]
 ·rw [← h_k h]; dsimp only [tk, f_bOp, f_bD, f_bS, f_bImm, f_bTerm, f_bTest, f_bT0, f_bT1, f_cnt0, f_cnt1, f_regs, f_outs, f_edgeId, f_edgeW, f_chNext, f_chPrev, f_chHead, f_heat, f_posOf, f_order, f_cOp, f_cD, f_cS, f_cImm, f_cKind, f_cTest, f_cTaken, f_cOther, f_maxBlocks, f_maxSteps, f_n, f_arranged, f_outCount, f_steps, f_status, f_edgeN, s_bOp, s_bD, s_bS, s_bImm, s_bTerm, s_bTest, s_bT0, s_bT1, s_cnt0, s_cnt1, s_regs, s_outs, s_edgeId, s_edgeW, s_chNext, s_chPrev, s_chHead, s_heat, s_posOf, s_order, s_cOp, s_cD, s_cS, s_cImm, s_cKind, s_cTest, s_cTaken, s_cOther, s_maxBlocks, s_maxSteps, s_n, s_arranged, s_outCount, s_steps, s_status, s_edgeN]
 ·rw [← h_r h]; dsimp only [tr, f_bOp, f_bD, f_bS, f_bImm, f_bTerm, f_bTest, f_bT0, f_bT1, f_cnt0, f_cnt1, f_regs, f_outs, f_edgeId, f_edgeW, f_chNext, f_chPrev, f_chHead, f_heat, f_posOf, f_order, f_cOp, f_cD, f_cS, f_cImm, f_cKind, f_cTest, f_cTaken, f_cOther, f_maxBlocks, f_maxSteps, f_n, f_arranged, f_outCount, f_steps, f_status, f_edgeN, s_bOp, s_bD, s_bS, s_bImm, s_bTerm, s_bTest, s_bT0, s_bT1, s_cnt0, s_cnt1, s_regs, s_outs, s_edgeId, s_edgeW, s_chNext, s_chPrev, s_chHead, s_heat, s_posOf, s_order, s_cOp, s_cD, s_cS, s_cImm, s_cKind, s_cTest, s_cTaken, s_cOther, s_maxBlocks, s_maxSteps, s_n, s_arranged, s_outCount, s_steps, s_status, s_edgeN]
 ·rw [← h_i h]; dsimp only [ti, f_bOp, f_bD, f_bS, f_bImm, f_bTerm, f_bTest, f_bT0, f_bT1, f_cnt0, f_cnt1, f_regs, f_outs, f_edgeId, f_edgeW, f_chNext, f_chPrev, f_chHead, f_heat, f_posOf, f_order, f_cOp, f_cD, f_cS, f_cImm, f_cKind, f_cTest, f_cTaken, f_cOther, f_maxBlocks, f_maxSteps, f_n, f_arranged, f_outCount, f_steps, f_status, f_edgeN, s_bOp, s_bD, s_bS, s_bImm, s_bTerm, s_bTest, s_bT0, s_bT1, s_cnt0, s_cnt1, s_regs, s_outs, s_edgeId, s_edgeW, s_chNext, s_chPrev, s_chHead, s_heat, s_posOf, s_order, s_cOp, s_cD, s_cS, s_cImm, s_cKind, s_cTest, s_cTaken, s_cOther, s_maxBlocks, s_maxSteps, s_n, s_arranged, s_outCount, s_steps, s_status, s_edgeN]
theorem w_outs {b : BB} {k : KK} {r : RR} {i : II} {o : Ob} (h : Sh b k r i o) (v : List Int32) : Sh b k (r.1, v, r.2.2) i (s_outs o v) := by
 refine h.to (by dsimp only [lay, f_bOp, f_bD, f_bS, f_bImm, f_bTerm, f_bTest, f_bT0, f_bT1, f_cnt0, f_cnt1, f_regs, f_outs, f_edgeId, f_edgeW, f_chNext, f_chPrev, f_chHead, f_heat, f_posOf, f_order, f_cOp, f_cD, f_cS, f_cImm, f_cKind, f_cTest, f_cTaken, f_cOther, f_maxBlocks, f_maxSteps, f_n, f_arranged, f_outCount, f_steps, f_status, f_edgeN, s_bOp, s_bD, s_bS, s_bImm, s_bTerm, s_bTest, s_bT0, s_bT1, s_cnt0, s_cnt1, s_regs, s_outs, s_edgeId, s_edgeW, s_chNext, s_chPrev, s_chHead, s_heat, s_posOf, s_order, s_cOp, s_cD, s_cS, s_cImm, s_cKind, s_cTest, s_cTaken, s_cOther, s_maxBlocks, s_maxSteps, s_n, s_arranged, s_outCount, s_steps, s_status, s_edgeN]) ?_ ?_ ?_ ?_
 ·rw [← h_b h]; dsimp only [tb, f_bOp, f_bD, f_bS, f_bImm, f_bTerm, f_bTest, f_bT0, f_bT1, f_cnt0, f_cnt1, f_regs, f_outs, f_edgeId, f_edgeW, f_chNext, f_chPrev, f_chHead, f_heat, f_posOf, f_order, f_cOp, f_cD, f_cS, f_cImm, f_cKind, f_cTest, f_cTaken, f_cOther, f_maxBlocks, f_maxSteps, f_n, f_arranged, f_outCount, f_steps, f_status, f_edgeN, s_bOp, s_bD, s_bS, s_bImm, s_bTerm, s_bTest, s_bT0, s_bT1, s_cnt0, s_cnt1, s_regs, s_outs, s_edgeId, s_edgeW, s_chNext, s_chPrev, s_chHead, s_heat, s_posOf, s_order, s_cOp, s_cD, s_cS, s_cImm, s_cKind, s_cTest, s_cTaken, s_cOther, s_maxBlocks, s_maxSteps, s_n, s_arranged, s_outCount, s_steps, s_status, s_edgeN]
 ·rw [← h_k h]; dsimp only [tk, f_bOp, f_bD, f_bS, f_bImm, f_bTerm, f_bTest, f_bT0, f_bT1, f_cnt0, f_cnt1, f_regs, f_outs, f_edgeId, f_edgeW, f_chNext, f_chPrev, f_chHead, f_heat, f_posOf, f_order, f_cOp, f_cD, f_cS, f_cImm, f_cKind, f_cTest, f_cTaken, f_cOther, f_maxBlocks, f_maxSteps, f_n, f_arranged, f_outCount, f_steps, f_status, f_edgeN, s_bOp, s_bD, s_bS, s_bImm, s_bTerm, s_bTest, s_bT0, s_bT1, s_cnt0, s_cnt1, s_regs, s_outs, s_edgeId, s_edgeW, s_chNext, s_chPrev, s_chHead, s_heat, s_posOf, s_order, s_cOp, s_cD, s_cS, s_cImm, s_cKind, s_cTest, s_cTaken, s_cOther, s_maxBlocks, s_maxSteps, s_n, s_arranged, s_outCount, s_steps, s_status, s_edgeN]
 ·rw [← h_r h]; dsimp only [tr, f_bOp, f_bD, f_bS, f_bImm, f_bTerm, f_bTest, f_bT0, f_bT1, f_cnt0, f_cnt1, f_regs, f_outs, f_edgeId, f_edgeW, f_chNext, f_chPrev, f_chHead, f_heat, f_posOf, f_order, f_cOp, f_cD, f_cS, f_cImm, f_cKind, f_cTest, f_cTaken, f_cOther, f_maxBlocks, f_maxSteps, f_n, f_arranged, f_outCount, f_steps, f_status, f_edgeN, s_bOp, s_bD, s_bS, s_bImm, s_bTerm, s_bTest, s_bT0, s_bT1, s_cnt0, s_cnt1, s_regs, s_outs, s_edgeId, s_edgeW, s_chNext, s_chPrev, s_chHead, s_heat, s_posOf, s_order, s_cOp, s_cD, s_cS, s_cImm, s_cKind, s_cTest, s_cTaken, s_cOther, s_maxBlocks, s_maxSteps, s_n, s_arranged, s_outCount, s_steps, s_status, s_edgeN]
 ·rw [← h_i h]; dsimp only [ti, f_bOp, f_bD, f_bS, f_bImm, f_bTerm, f_bTest, f_bT0, f_bT1, f_cnt0, f_cnt1, f_regs, f_outs, f_edgeId, f_edgeW, f_chNext, f_chPrev, f_chHead, f_heat, f_posOf, f_order, f_cOp, f_cD, f_cS, f_cImm, f_cKind, f_cTest, f_cTaken, f_cOther, f_maxBlocks, f_maxSteps, f_n, f_arranged, f_outCount, f_steps, f_status, f_edgeN, s_bOp, s_bD, s_bS, s_bImm, s_bTerm, s_bTest, s_bT0, s_bT1, s_cnt0, s_cnt1, s_regs, s_outs, s_edgeId, s_edgeW, s_chNext, s_chPrev, s_chHead, s_heat, s_posOf, s_order, s_cOp, s_cD, s_cS, s_cImm, s_cKind, s_cTest, s_cTaken, s_cOther, s_maxBlocks, s_maxSteps, s_n, s_arranged, s_outCount, s_steps, s_status, s_edgeN]
theorem reset_ok {b : BB} {k : KK} {r : RR} {i : II} {o : Ob} (h : Sh b k r i o) (L : LB b) (K : LK k) (R : LR r) : okP (F10 o) (fun p => ∃ k' r', GB b 0 ∧ LK k' ∧ LR r' ∧ Sh b k' r' (i.1, i.2.1, 0, 0) p) := by
 have z4 : (4 : Int32).toInt = 4 := rfl
 have z16 : (16 : Int32).toInt = 16 := rfl
 have h1 : Sh b k r (i.1, i.2.1, 0, 0) (s_arranged (s_n o 0) 0) := by
  refine h.to (by dsimp only [lay, f_bOp, f_bD, f_bS, f_bImm, f_bTerm, f_bTest, f_bT0, f_bT1, f_cnt0, f_cnt1, f_regs, f_outs, f_edgeId, f_edgeW, f_chNext, f_chPrev, f_chHead, f_heat, f_posOf, f_order, f_cOp, f_cD, f_cS, f_cImm, f_cKind, f_cTest, f_cTaken, f_cOther, f_maxBlocks, f_maxSteps, f_n, f_arranged, f_outCount, f_steps, f_status, f_edgeN, s_bOp, s_bD, s_bS, s_bImm, s_bTerm, s_bTest, s_bT0, s_bT1, s_cnt0, s_cnt1, s_regs, s_outs, s_edgeId, s_edgeW, s_chNext, s_chPrev, s_chHead, s_heat, s_posOf, s_order, s_cOp, s_cD, s_cS, s_cImm, s_cKind, s_cTest, s_cTaken, s_cOther, s_maxBlocks, s_maxSteps, s_n, s_arranged, s_outCount, s_steps, s_status, s_edgeN]) ?_ ?_ ?_ ?_
  ·rw [← h_b h]; dsimp only [tb, f_bOp, f_bD, f_bS, f_bImm, f_bTerm, f_bTest, f_bT0, f_bT1, f_cnt0, f_cnt1, f_regs, f_outs, f_edgeId, f_edgeW, f_chNext, f_chPrev, f_chHead, f_heat, f_posOf, f_order, f_cOp, f_cD, f_cS, f_cImm, f_cKind, f_cTest, f_cTaken, f_cOther, f_maxBlocks, f_maxSteps, f_n, f_arranged, f_outCount, f_steps, f_status, f_edgeN, s_bOp, s_bD, s_bS, s_bImm, s_bTerm, s_bTest, s_bT0, s_bT1, s_cnt0, s_cnt1, s_regs, s_outs, s_edgeId, s_edgeW, s_chNext, s_chPrev, s_chHead, s_heat, s_posOf, s_order, s_cOp, s_cD, s_cS, s_cImm, s_cKind, s_cTest, s_cTaken, s_cOther, s_maxBlocks, s_maxSteps, s_n, s_arranged, s_outCount, s_steps, s_status, s_edgeN]
  ·rw [← h_k h]; dsimp only [tk, f_bOp, f_bD, f_bS, f_bImm, f_bTerm, f_bTest, f_bT0, f_bT1, f_cnt0, f_cnt1, f_regs, f_outs, f_edgeId, f_edgeW, f_chNext, f_chPrev, f_chHead, f_heat, f_posOf, f_order, f_cOp, f_cD, f_cS, f_cImm, f_cKind, f_cTest, f_cTaken, f_cOther, f_maxBlocks, f_maxSteps, f_n, f_arranged, f_outCount, f_steps, f_status, f_edgeN, s_bOp, s_bD, s_bS, s_bImm, s_bTerm, s_bTest, s_bT0, s_bT1, s_cnt0, s_cnt1, s_regs, s_outs, s_edgeId, s_edgeW, s_chNext, s_chPrev, s_chHead, s_heat, s_posOf, s_order, s_cOp, s_cD, s_cS, s_cImm, s_cKind, s_cTest, s_cTaken, s_cOther, s_maxBlocks, s_maxSteps, s_n, s_arranged, s_outCount, s_steps, s_status, s_edgeN]
  ·rw [← h_r h]; dsimp only [tr, f_bOp, f_bD, f_bS, f_bImm, f_bTerm, f_bTest, f_bT0, f_bT1, f_cnt0, f_cnt1, f_regs, f_outs, f_edgeId, f_edgeW, f_chNext, f_chPrev, f_chHead, f_heat, f_posOf, f_order, f_cOp, f_cD, f_cS, f_cImm, f_cKind, f_cTest, f_cTaken, f_cOther, f_maxBlocks, f_maxSteps, f_n, f_arranged, f_outCount, f_steps, f_status, f_edgeN, s_bOp, s_bD, s_bS, s_bImm, s_bTerm, s_bTest, s_bT0, s_bT1, s_cnt0, s_cnt1, s_regs, s_outs, s_edgeId, s_edgeW, s_chNext, s_chPrev, s_chHead, s_heat, s_posOf, s_order, s_cOp, s_cD, s_cS, s_cImm, s_cKind, s_cTest, s_cTaken, s_cOther, s_maxBlocks, s_maxSteps, s_n, s_arranged, s_outCount, s_steps, s_status, s_edgeN]
  ·rw [← h_i h]; dsimp only [ti, f_bOp, f_bD, f_bS, f_bImm, f_bTerm, f_bTest, f_bT0, f_bT1, f_cnt0, f_cnt1, f_regs, f_outs, f_edgeId, f_edgeW, f_chNext, f_chPrev, f_chHead, f_heat, f_posOf, f_order, f_cOp, f_cD, f_cS, f_cImm, f_cKind, f_cTest, f_cTaken, f_cOther, f_maxBlocks, f_maxSteps, f_n, f_arranged, f_outCount, f_steps, f_status, f_edgeN, s_bOp, s_bD, s_bS, s_bImm, s_bTerm, s_bTest, s_bT0, s_bT1, s_cnt0, s_cnt1, s_regs, s_outs, s_edgeId, s_edgeW, s_chNext, s_chPrev, s_chHead, s_heat, s_posOf, s_order, s_cOp, s_cD, s_cS, s_cImm, s_cKind, s_cTest, s_cTaken, s_cOther, s_maxBlocks, s_maxSteps, s_n, s_arranged, s_outCount, s_steps, s_status, s_edgeN]
 unfold F10
 generalize s_arranged (s_n o 0) 0 = o' at *
 apply okP.bind
 refine okP.mono (clear_ok h1 K) ?_
 rintro p ⟨k', K', hp, _⟩
 apply okP.bind
 refine okP.mono (P := fun p => ∃ r', LR r' ∧ Sh b k' r' (i.1, i.2.1, 0, 0) p) ?_ ?_
 ·refine okP.loop (fun w : Int32 × Ob => 0 ≤ w.1.toInt ∧ ∃ r', LR r' ∧ Sh b k' r' (i.1, i.2.1, 0, 0) w.2) (fun w => (4 - w.1.toInt).toNat) ⟨by show (0 : Int) ≤ 0; decide, r, R, hp⟩ (by show (4 - (0 : Int)).toNat < 4000; decide) ?_
  rintro ⟨x, q⟩ ⟨x0, r', R', hq⟩
  simp only at x0 hq
  unfold B10_16
  simp only
  refine okP.ite (fun c => ?_) (fun _ => okP.some ⟨r', R', hq⟩)
  rw [i_lt, z4] at c
  have e1 : (x + 1).toInt = x.toInt + 1 := inc1 (by omega)
  have l := R'.1
  rw [g_regs hq]
  apply okP.bind; refine okP.aset (by omega) (by omega) ?_
  exact okP.some ⟨⟨by simp only; omega, (r'.1.set x.toInt.toNat 0, r'.2), ⟨by simp only [List.length_set]; exact l, R'.2⟩, w_regs hq _⟩, by simp only; omega⟩
 rintro q ⟨r', R', hq⟩
 apply okP.bind
 refine okP.mono (P := fun p => ∃ r', LR r' ∧ Sh b k' r' (i.1, i.2.1, 0, 0) p) ?_ ?_
 ·refine okP.loop (fun w : Int32 × Ob => 0 ≤ w.1.toInt ∧ ∃ r', LR r' ∧ Sh b k' r' (i.1, i.2.1, 0, 0) w.2) (fun w => (16 - w.1.toInt).toNat) ⟨by show (0 : Int) ≤ 0; decide, r', R', hq⟩ (by show (16 - (0 : Int)).toNat < 4000; decide) ?_
  rintro ⟨x, q⟩ ⟨x0, r', R', hq⟩
  simp only at x0 hq
  unfold B10_36
  simp only
  refine okP.ite (fun c => ?_) (fun _ => okP.some ⟨r', R', hq⟩)
  rw [i_lt, z16] at c
  have e1 : (x + 1).toInt = x.toInt + 1 := inc1 (by omega)
  have l := R'.2
  rw [g_outs hq]
  apply okP.bind; refine okP.aset (by omega) (by omega) ?_
  exact okP.some ⟨⟨by simp only; omega, (r'.1, r'.2.1.set x.toInt.toNat 0, r'.2.2), ⟨R'.1, by simp only [List.length_set]; exact l⟩, w_outs hq _⟩, by simp only; omega⟩
 rintro t ⟨r2, R2, ht⟩
 have h2 : Sh b k' (r2.1, r2.2.1, 0, 0, 0) (i.1, i.2.1, 0, 0) (s_status (s_steps (s_outCount t 0) 0) 0) := by
  refine ht.to (by dsimp only [lay, f_bOp, f_bD, f_bS, f_bImm, f_bTerm, f_bTest, f_bT0, f_bT1, f_cnt0, f_cnt1, f_regs, f_outs, f_edgeId, f_edgeW, f_chNext, f_chPrev, f_chHead, f_heat, f_posOf, f_order, f_cOp, f_cD, f_cS, f_cImm, f_cKind, f_cTest, f_cTaken, f_cOther, f_maxBlocks, f_maxSteps, f_n, f_arranged, f_outCount, f_steps, f_status, f_edgeN, s_bOp, s_bD, s_bS, s_bImm, s_bTerm, s_bTest, s_bT0, s_bT1, s_cnt0, s_cnt1, s_regs, s_outs, s_edgeId, s_edgeW, s_chNext, s_chPrev, s_chHead, s_heat, s_posOf, s_order, s_cOp, s_cD, s_cS, s_cImm, s_cKind, s_cTest, s_cTaken, s_cOther, s_maxBlocks, s_maxSteps, s_n, s_arranged, s_outCount, s_steps, s_status, s_edgeN]) ?_ ?_ ?_ ?_
  ·rw [← h_b ht]; dsimp only [tb, f_bOp, f_bD, f_bS, f_bImm, f_bTerm, f_bTest, f_bT0, f_bT1, f_cnt0, f_cnt1, f_regs, f_outs, f_edgeId, f_edgeW, f_chNext, f_chPrev, f_chHead, f_heat, f_posOf, f_order, f_cOp, f_cD, f_cS, f_cImm, f_cKind, f_cTest, f_cTaken, f_cOther, f_maxBlocks, f_maxSteps, f_n, f_arranged, f_outCount, f_steps, f_status, f_edgeN, s_bOp, s_bD, s_bS, s_bImm, s_bTerm, s_bTest, s_bT0, s_bT1, s_cnt0, s_cnt1, s_regs, s_outs, s_edgeId, s_edgeW, s_chNext, s_chPrev, s_chHead, s_heat, s_posOf, s_order, s_cOp, s_cD, s_cS, s_cImm, s_cKind, s_cTest, s_cTaken, s_cOther, s_maxBlocks, s_maxSteps, s_n, s_arranged, s_outCount, s_steps, s_status, s_edgeN]
  ·rw [← h_k ht]; dsimp only [tk, f_bOp, f_bD, f_bS, f_bImm, f_bTerm, f_bTest, f_bT0, f_bT1, f_cnt0, f_cnt1, f_regs, f_outs, f_edgeId, f_edgeW, f_chNext, f_chPrev, f_chHead, f_heat, f_posOf, f_order, f_cOp, f_cD, f_cS, f_cImm, f_cKind, f_cTest, f_cTaken, f_cOther, f_maxBlocks, f_maxSteps, f_n, f_arranged, f_outCount, f_steps, f_status, f_edgeN, s_bOp, s_bD, s_bS, s_bImm, s_bTerm, s_bTest, s_bT0, s_bT1, s_cnt0, s_cnt1, s_regs, s_outs, s_edgeId, s_edgeW, s_chNext, s_chPrev, s_chHead, s_heat, s_posOf, s_order, s_cOp, s_cD, s_cS, s_cImm, s_cKind, s_cTest, s_cTaken, s_cOther, s_maxBlocks, s_maxSteps, s_n, s_arranged, s_outCount, s_steps, s_status, s_edgeN]
  ·rw [← h_r ht]; dsimp only [tr, f_bOp, f_bD, f_bS, f_bImm, f_bTerm, f_bTest, f_bT0, f_bT1, f_cnt0, f_cnt1, f_regs, f_outs, f_edgeId, f_edgeW, f_chNext, f_chPrev, f_chHead, f_heat, f_posOf, f_order, f_cOp, f_cD, f_cS, f_cImm, f_cKind, f_cTest, f_cTaken, f_cOther, f_maxBlocks, f_maxSteps, f_n, f_arranged, f_outCount, f_steps, f_status, f_edgeN, s_bOp, s_bD, s_bS, s_bImm, s_bTerm, s_bTest, s_bT0, s_bT1, s_cnt0, s_cnt1, s_regs, s_outs, s_edgeId, s_edgeW, s_chNext, s_chPrev, s_chHead, s_heat, s_posOf, s_order, s_cOp, s_cD, s_cS, s_cImm, s_cKind, s_cTest, s_cTaken, s_cOther, s_maxBlocks, s_maxSteps, s_n, s_arranged, s_outCount, s_steps, s_status, s_edgeN]
  ·rw [← h_i ht]; dsimp only [ti, f_bOp, f_bD, f_bS, f_bImm, f_bTerm, f_bTest, f_bT0, f_bT1, f_cnt0, f_cnt1, f_regs, f_outs, f_edgeId, f_edgeW, f_chNext, f_chPrev, f_chHead, f_heat, f_posOf, f_order, f_cOp, f_cD, f_cS, f_cImm, f_cKind, f_cTest, f_cTaken, f_cOther, f_maxBlocks, f_maxSteps, f_n, f_arranged, f_outCount, f_steps, f_status, f_edgeN, s_bOp, s_bD, s_bS, s_bImm, s_bTerm, s_bTest, s_bT0, s_bT1, s_cnt0, s_cnt1, s_regs, s_outs, s_edgeId, s_edgeW, s_chNext, s_chPrev, s_chHead, s_heat, s_posOf, s_order, s_cOp, s_cD, s_cS, s_cImm, s_cKind, s_cTest, s_cTaken, s_cOther, s_maxBlocks, s_maxSteps, s_n, s_arranged, s_outCount, s_steps, s_status, s_edgeN]
 exact okP.some ⟨k', (r2.1, r2.2.1, 0, 0, 0), ⟨L, by omega, fun j hj => absurd hj (by omega)⟩, K', ⟨R2.1, R2.2⟩, h2⟩
theorem reg_m {b : BB} {k : KK} {r : RR} {i : II} {o : Ob} (h : Sh b k r i o) (R : LR r) (x : Int32) : F20 o x = some (if x < 0 then 0 else if 3 < x then 0 else at' r.1 x.toInt.toNat) := by
 have z0 : (0 : Int32).toInt = 0 := rfl
 have z3 : (3 : Int32).toInt = 3 := rfl
 unfold F20
 by_cases x0 : x < 0
 ·rw [if_pos x0, if_pos x0]
 rw [if_neg x0, if_neg x0]
 by_cases x3 : 3 < x
 ·rw [if_pos x3, if_pos x3]
 rw [if_neg x3, if_neg x3]
 rw [i_lt] at x0 x3
 have l := R.1
 rw [g_regs h, ag (a := x.toInt.toNat) (by omega) (by omega), Option.bind_some]
theorem out_m {b : BB} {k : KK} {r : RR} {i : II} {o : Ob} (h : Sh b k r i o) (R : LR r) (x : Int32) : F21 o x = some (if x < 0 then 0 else if x < r.2.2.1 then (if x < 16 then at' r.2.1 x.toInt.toNat else 0) else 0) := by
 have z0 : (0 : Int32).toInt = 0 := rfl
 have z16 : (16 : Int32).toInt = 16 := rfl
 unfold F21
 rw [g_oc h]
 by_cases x0 : x < 0
 ·rw [if_pos x0, if_pos x0]
 rw [if_neg x0, if_neg x0]
 by_cases x3 : x < r.2.2.1
 ·rw [if_pos x3, if_pos x3]
  by_cases x4 : x < 16
  ·rw [if_pos x4, if_pos x4]
   rw [i_lt] at x0 x4
   have l := R.2
   rw [g_outs h, ag (a := x.toInt.toNat) (by omega) (by omega), Option.bind_some]
  ·rw [if_neg x4, if_neg x4]
 ·rw [if_neg x3, if_neg x3]
theorem edge_m {b : BB} {k : KK} {r : RR} {i : II} {o : Ob} (h : Sh b k r i o) {n : Nat} (hn : i.2.2.1.toInt = n) (n16 : n ≤ 16) (K : LK k) (x y : Int32) : F23 o x y = some (if 0 ≤ x.toInt ∧ x.toInt < n then (if y = 0 then at' k.1 x.toInt.toNat else if y = 1 then at' k.2 x.toInt.toNat else 0) else 0) := by
 have l1 := K.1
 have l2 := K.2
 unfold F23
 rcases vb_m h hn n16 x with ⟨v, w⟩ | ⟨v, j, hj, hx⟩
 ·rw [v, Option.bind_some, if_pos rfl, if_neg w]
 ·rw [v, Option.bind_some, if_neg (by decide), if_pos (show 0 ≤ x.toInt ∧ x.toInt < n by omega), g_cnt0 h, g_cnt1 h, ag hx (by omega), ag hx (by omega), Option.bind_some, Option.bind_some, show x.toInt.toNat = j by omega]
  by_cases y0 : y = 0
  ·rw [if_pos y0, if_pos y0]
  ·rw [if_neg y0, if_neg y0]
   by_cases y1 : y = 1
   ·rw [if_pos y1, if_pos y1]
   ·rw [if_neg y1, if_neg y1]
theorem runL (b : BB) : ∀ (f c : Nat) (σ : SS) (k : KK) (t : Int32), σ.1.length = 4 → σ.2.1.length = 16 → LK k → ((runP b f c σ k t).2.1.1.length = 4 ∧ (runP b f c σ k t).2.1.2.1.length = 16) ∧ LK (runP b f c σ k t).2.2.1
 | 0, c, σ, k, t, h1, h2, h3 => ⟨⟨h1, h2⟩, h3⟩
 | f + 1, c, σ, k, t, h1, h2, h3 => by
  have ln := ex_len (op b c) (dd b c) (ss b c) (im b c) σ
  have e1 : (ob b c σ).1.length = 4 := ln.1.trans h1
  have e2 : (ob b c σ).2.1.length = 16 := ln.2.trans h2
  have e : runP b (f + 1) c σ k t = if slot b c (ob b c σ).1 = 2 then (1, ob b c σ, k, t + 1) else runP b f (dest b c (slot b c (ob b c σ).1)) (ob b c σ) (bump k c (slot b c (ob b c σ).1)) (t + 1) := rfl
  rw [e]
  by_cases s2 : slot b c (ob b c σ).1 = 2
  ·rw [if_pos s2]
   exact ⟨⟨e1, e2⟩, h3⟩
  ·rw [if_neg s2]
   exact runL b f _ _ _ _ e1 e2 (bump_len h3 _ _)

def Sam (r r' : RR) : Prop := r.1 = r'.1 ∧ r.2.2 = r'.2.2 ∧ ∀ j : Nat, (j : Int) < r.2.2.1.toInt → at' r.2.1 j = at' r'.2.1 j
theorem res_eq {b : BB} {k : KK} {r : RR} {i : II} {o : Ob} (h : Sh b k r i o) (R : LR r) {b' : BB} {k' : KK} {r' : RR} {i' : II} {o' : Ob} (h' : Sh b' k' r' i' o') (R' : LR r') (S : Sam r r') : F16 o' = F16 o := by
 obtain ⟨s1, s2, s3⟩ := S
 have z0 : (0 : Int32).toInt = 0 := rfl
 have e1 : B16_32 o' = B16_32 o := by
  funext v
  unfold B16_32
  rw [reg_m h R, reg_m h' R', s1]
 have e2 : B16_58 o' = B16_58 o := by
  funext v
  unfold B16_58
  rw [out_m h R, out_m h' R', ← s2]
  by_cases x0 : v.2 < 0
  ·simp only [if_pos x0]
  ·by_cases x1 : v.2 < r.2.2.1
   ·have := s3 v.2.toInt.toNat (by rw [i_lt] at x0 x1; omega)
    simp only [if_neg x0, if_pos x1, this]
   ·simp only [if_neg x0, if_neg x1]
 unfold F16 F17 F18 F19
 rw [g_status h, g_status h', g_steps h, g_steps h', g_oc h, g_oc h', s2, e1, e2]
theorem res_ok {b : BB} {k : KK} {r : RR} {i : II} {o : Ob} (h : Sh b k r i o) (R : LR r) : okP (F16 o) (fun _ => True) := by
 have z4 : (4 : Int32).toInt = 4 := rfl
 have z16 : (16 : Int32).toInt = 16 := rfl
 unfold F16 F17 F18 F19
 rw [Option.bind_some, Option.bind_some, Option.bind_some]
 apply okP.bind
 refine okP.mono (P := fun _ => True) ?_ ?_
 ·refine okP.loop (fun w : Int64 × Int32 => 0 ≤ w.2.toInt) (fun w => (4 - w.2.toInt).toNat) (by show (0 : Int) ≤ 0; decide) (by show (4 - (0 : Int)).toNat < 4000; decide) ?_
  rintro ⟨t, x⟩ x0
  simp only at x0
  unfold B16_32
  simp only
  refine okP.ite (fun c => ?_) (fun _ => okP.some trivial)
  rw [i_lt, z4] at c
  have e1 : (x + 1).toInt = x.toInt + 1 := inc1 (by omega)
  rw [reg_m h R, Option.bind_some]
  exact okP.some ⟨by simp only; omega, by simp only; omega⟩
 ·intro t _
  apply okP.bind
  refine okP.mono (P := fun _ => True) ?_ (fun _ _ => okP.some trivial)
  refine okP.loop (fun w : Int64 × Int32 => 0 ≤ w.2.toInt) (fun w => (16 - w.2.toInt).toNat) (by show (0 : Int) ≤ 0; decide) (by show (16 - (0 : Int)).toNat < 4000; decide) ?_
  rintro ⟨t, x⟩ x0
  simp only at x0
  unfold B16_58
  simp only
  refine okP.ite (fun c => ?_) (fun _ => okP.some trivial)
  rw [i_lt, z16] at c
  have e1 : (x + 1).toInt = x.toInt + 1 := inc1 (by omega)
  rw [out_m h R, Option.bind_some]
  exact okP.some ⟨by simp only; omega, by simp only; omega⟩
theorem edges_eq {b : BB} {k : KK} {r : RR} {i : II} {o : Ob} (h : Sh b k r i o) {n : Nat} (hn : i.2.2.1.toInt = n) (n16 : n ≤ 16) (K : LK k) {b' : BB} {r' : RR} {i' : II} {o' : Ob} (h' : Sh b' k r' i' o') (hn' : i'.2.2.1.toInt = n) : F22 o' = F22 o := by
 have e1 : ∀ x, B22_13 o' x = B22_13 o x := by
  intro x
  funext v
  unfold B22_13
  rw [edge_m h hn n16 K, edge_m h' hn' n16 K]
 have e2 : B22_4 o' = B22_4 o := by
  funext v
  unfold B22_4
  rw [e1]
 unfold F22
 rw [e2]
theorem edges_ok {b : BB} {k : KK} {r : RR} {i : II} {o : Ob} (h : Sh b k r i o) {n : Nat} (hn : i.2.2.1.toInt = n) (n16 : n ≤ 16) (K : LK k) : okP (F22 o) (fun _ => True) := by
 have z2 : (2 : Int32).toInt = 2 := rfl
 have z16 : (16 : Int32).toInt = 16 := rfl
 unfold F22
 apply okP.bind
 refine okP.mono (P := fun _ => True) ?_ (fun _ _ => okP.some trivial)
 refine okP.loop (fun w : Int64 × Int32 => 0 ≤ w.2.toInt) (fun w => (16 - w.2.toInt).toNat) (by show (0 : Int) ≤ 0; decide) (by show (16 - (0 : Int)).toNat < 4000; decide) ?_
 rintro ⟨t, x⟩ x0
 simp only at x0
 unfold B22_4
 simp only
 refine okP.ite (fun c => ?_) (fun _ => okP.some trivial)
 rw [i_lt, z16] at c
 have e1 : (x + 1).toInt = x.toInt + 1 := inc1 (by omega)
 apply okP.bind
 refine okP.mono (P := fun _ => True) ?_ (fun _ _ => okP.some ⟨by simp only; omega, by simp only; omega⟩)
 refine okP.loop (fun w : Int64 × Int32 => 0 ≤ w.2.toInt) (fun w => (2 - w.2.toInt).toNat) (by show (0 : Int) ≤ 0; decide) (by show (2 - (0 : Int)).toNat < 4000; decide) ?_
 rintro ⟨t, y⟩ y0
 simp only at y0
 unfold B22_13
 simp only
 refine okP.ite (fun c => ?_) (fun _ => okP.some trivial)
 rw [i_lt, z2] at c
 have e1 : (y + 1).toInt = y.toInt + 1 := inc1 (by omega)
 rw [edge_m h hn n16 K, Option.bind_some]
 exact okP.some ⟨by simp only; omega, by simp only; omega⟩
theorem info_m {b : BB} {k : KK} {r : RR} {i : II} {o : Ob} (h : Sh b k r i o) {n : Nat} (hn : i.2.2.1.toInt = n) (n0 : 0 < n) (G : GB b n) : F24 o 0 4 = some (tm b 0) ∧ F24 o 0 6 = some (t0 b 0) := by
 have v : F4 o 0 = some 1 := by
  rcases vb_m h hn G.2.1 0 with ⟨_, w⟩ | ⟨v, _⟩
  ·exact absurd ⟨by decide, by show (0 : Int) < n; omega⟩ w
  ·exact v
 unfold F24
 rw [v, Option.bind_some, Option.bind_some, if_neg (by decide)]
 rw [a_tm h G n0 (x := 0) rfl, a_t0 h G n0 (x := 0) rfl]
 exact ⟨rfl, rfl⟩
def Inv (o : Ob) : Prop := ∃ b k r i n, Sh b k r i o ∧ GB b n ∧ LK k ∧ LR r ∧ i.2.2.1.toInt = (n : Nat) ∧ i.1.toInt = 8 ∧ n ≤ 8 ∧ i.2.1.toInt = 64 ∧ (i.2.2.2 = 0 ∨ (i.2.2.2 = 1 ∧ 0 < n ∧ Lay b n (tc o)))
theorem Inv.fit {o : Ob} (I : Inv o) (s : List Int32) : sFit s (H0 s o) := by
 obtain ⟨b, k, r, i, n, h, G, K, R, _⟩ := I
 obtain ⟨L1, L2, L3, L4, L5, L6, L7, L8⟩ := G.1
 rw [← g_bOp h] at L1
 rw [← g_bD h] at L2
 rw [← g_bS h] at L3
 rw [← g_bImm h] at L4
 rw [← g_bTerm h] at L5
 rw [← g_bTest h] at L6
 rw [← g_bT0 h] at L7
 rw [← g_bT1 h] at L8
 have K1 := K.1
 have K2 := K.2
 rw [← g_cnt0 h] at K1
 rw [← g_cnt1 h] at K2
 have R1 := R.1
 have R2 := R.2
 rw [← g_regs h] at R1
 rw [← g_outs h] at R2
 refine ⟨by show 30 - 1 ≤ _; decide, ?_⟩
 simp only [H0, H0v, qhs, qsz, L1, L2, L3, L4, L5, L6, L7, L8, K1, K2, R1, R2, Sh_l_edgeId h, Sh_l_edgeW h, Sh_l_chNext h, Sh_l_chPrev h, Sh_l_chHead h, Sh_l_heat h, Sh_l_posOf h, Sh_l_order h, Sh_l_cOp h, Sh_l_cD h, Sh_l_cS h, Sh_l_cImm h, Sh_l_cKind h, Sh_l_cTest h, Sh_l_cTaken h, Sh_l_cOther h]
 simp only [cN, room_1]
 omega
theorem Inv.run {o : Ob} (I : Inv o) (x : Int32) : okP (F8 o x) (fun w => Inv w.2) := by
 obtain ⟨b, k, r, i, n, h, G, K, R, hn, hm, n8, hs, M⟩ := I
 rcases Nat.eq_zero_or_pos n with n0 | n0
 ·unfold F8
  rw [if_pos (by rw [i_eq, g_n h, hn, n0]; rfl)]
  exact okP.some ⟨b, k, r, i, n, h, G, K, R, hn, hm, n8, hs, M⟩
 ·refine okP.mono (run_ok h G K R n0 hn (by omega) (by omega) (M.imp id (fun z => ⟨z.1, z.2.2⟩)) x) ?_
  rintro w ⟨w1, hw, tw⟩
  have rl := runL b i.2.1.toInt.toNat 0 ([x, 0, 0, 0], r.2.1, 0) k 0 rfl R.2 K
  refine ⟨b, _, _, i, n, hw, G, ?_, rl.1, hn, hm, n8, hs, ?_⟩
  ·split
   ·exact rl.2
   ·exact K
  ·rw [tw]; exact M
theorem check_ok {o : Ob} (I : Inv o) (x : Int32) : okP (F14 o x) (fun w => w.1 = 1 ∧ Inv w.2) := by
 obtain ⟨b, k, r, i, n, h, G, K, R, hn, hm, n8, hs, M⟩ := id I
 have z0 : (0 : Int32).toInt = 0 := rfl
 unfold F14 F2 F15
 rw [Option.bind_some, Option.bind_some]
 rcases Nat.eq_zero_or_pos n with n0 | n0
 ·have a0 : i.2.2.2 = 0 := M.resolve_right (fun z => absurd z.2.1 (by omega))
  have g0 : f_n o = 0 := by rw [i_eq, g_n h, hn, n0]; rfl
  have ga : f_arranged o = 0 := (g_ar h).trans a0
  rw [if_pos g0]
  have l0 : F25 o = some (0, o) := by
   unfold F25
   rw [if_pos ga, if_pos g0]
  rw [l0, Option.bind_some, if_pos rfl, Option.bind_some]
  simp only
  rw [ga, if_pos (by decide)]
  exact okP.some ⟨rfl, I⟩
 rw [if_neg (by rw [i_eq, g_n h, hn, z0]; omega)]
 obtain ⟨⟨st1, o1⟩, q1, w1, h1, t1⟩ := run_ok h G K R n0 hn (by omega) (by omega) (M.imp id (fun z => ⟨z.1, z.2.2⟩)) x
 have rl := runL b i.2.1.toInt.toNat 0 ([x, 0, 0, 0], r.2.1, 0) k 0 rfl R.2 K
 generalize hR1 : runP b i.2.1.toInt.toNat 0 ([x, 0, 0, 0], r.2.1, 0) k 0 = R1 at *
 simp only at w1 h1 t1
 have K1 : LK (if i.2.2.2 = 0 then R1.2.2.1 else k) := by
  split
  ·exact rl.2
  ·exact K
 generalize (if i.2.2.2 = 0 then R1.2.2.1 else k) = k1 at *
 have RR1 : LR (R1.2.1.1, R1.2.1.2.1, R1.2.1.2.2, R1.2.2.2, R1.1) := rl.1
 obtain ⟨H1, f1, _⟩ := res_ok h1 RR1
 obtain ⟨E1, f2, _⟩ := edges_ok h1 hn G.2.1 K1
 obtain ⟨f3, f4⟩ := info_m h1 hn n0 G
 rw [q1, Option.bind_some]
 simp only
 rw [f1, Option.bind_some, f2, Option.bind_some, f3, Option.bind_some, f4, Option.bind_some]
 have key : ∃ v o2, F25 o1 = some (v, o2) ∧ v ≠ f_arranged o &&& 1 ∧ Sh b k1 (R1.2.1.1, R1.2.1.2.1, R1.2.1.2.2, R1.2.2.2, R1.1) (i.1, i.2.1, i.2.2.1, 1) o2 ∧ Lay b n (tc o2) := by
  rcases M with a0 | ⟨a1, _, La⟩
  ·obtain ⟨⟨v, o2⟩, p1, p2, p3, p4⟩ := layout_ok h1 G K1 n0 hn a0
   simp only at p2 p3 p4
   refine ⟨v, o2, p1, ?_, p3, p4⟩
   rw [p2, g_ar h, a0]; decide
  ·refine ⟨0, o1, ?_, ?_, ?_, ?_⟩
   ·unfold F25
    rw [if_neg (by rw [g_ar h1, a1]; decide)]
   ·rw [g_ar h, a1]; decide
   ·have : (i.1, i.2.1, i.2.2.1, (1 : Int32)) = i := by rw [← a1]
    rw [this]; exact h1
   ·rw [t1]; exact La
 obtain ⟨v, o2, p1, p2, h2, La⟩ := key
 have ar2 : f_arranged o2 &&& 1 = 1 := by rw [g_ar h2]; show (1 : Int32) &&& 1 = 1; decide
 have f2' := (edges_eq h1 hn G.2.1 K1 h2 hn).trans f2
 have f1' := (res_eq h1 RR1 h2 RR1 ⟨rfl, rfl, fun _ _ => rfl⟩).trans f1
 rw [p1, Option.bind_some, if_neg p2, Option.bind_some, ar2, if_neg (by decide), f2', Option.bind_some, if_pos rfl, f1', Option.bind_some, if_pos rfl]
 obtain ⟨⟨st3, o3⟩, q3, w3, h3, t3⟩ := run_ok h2 G K1 RR1 n0 hn (by show 0 ≤ i.2.1.toInt; omega) (by show i.2.1.toInt ≤ 1024; omega) (Or.inr ⟨rfl, La⟩) x
 have rl3 := runL b i.2.1.toInt.toNat 0 ([x, 0, 0, 0], R1.2.1.2.1, 0) k1 0 rfl rl.1.2 K1
 have re := run_re (b := b) i.2.1.toInt.toNat 0 ([x, 0, 0, 0], r.2.1, 0) ([x, 0, 0, 0], R1.2.1.2.1, 0) k k1 0 ⟨rfl, rfl, R.2, rl.1.2, fun j hj => absurd hj (by show ¬ (j : Int) < 0; omega)⟩ (by show (0 : Int) ≤ 0; decide) (by show (i.2.1.toInt.toNat : Int) + 0 ≤ 1500; omega)
 rw [hR1] at re
 simp only at w3 h3 t3 re rl3
 generalize runP b i.2.1.toInt.toNat 0 ([x, 0, 0, 0], R1.2.1.2.1, 0) k1 0 = R3 at *
 have RR3 : LR (R3.2.1.1, R3.2.1.2.1, R3.2.1.2.2, R3.2.2.2, R3.1) := rl3.1
 rw [if_neg (show ¬ (1 : Int32) = 0 by decide)] at h3
 obtain ⟨re1, ⟨re2, re3, _, _, re4⟩, re5⟩ := re
 have f1'' := (res_eq h1 RR1 h3 RR3 ⟨re2, by show (_, _, _) = (_, _, _); rw [re1, re3, re5], re4⟩).trans f1
 have f2'' := (edges_eq h1 hn G.2.1 K1 h3 hn).trans f2
 have ar3 : f_arranged o3 = 1 := g_ar h3
 have na : ¬ f_arranged o3 = 0 := by rw [ar3]; decide
 have sh : F11 o3 0 = some (0, o3) := by unfold F11; rw [if_neg na]
 have sa : F5 o3 0 0 0 0 = some (-1, o3) := by unfold F5; rw [if_neg na]
 have sj : F3 o3 0 0 = some (0, o3) := by unfold F3; rw [if_neg na]
 obtain ⟨f3', f4'⟩ := info_m h3 hn n0 G
 have en : f_n o3 = f_n o := by rw [g_n h3, g_n h]
 rw [q3, Option.bind_some]
 simp only
 rw [if_pos (by rw [w3, w1, re1]), f1'', Option.bind_some, if_pos rfl, f2'', Option.bind_some, if_pos rfl, sh, Option.bind_some, if_pos rfl]
 simp only
 rw [sa, Option.bind_some, if_pos rfl]
 simp only
 rw [sj, Option.bind_some, if_pos rfl]
 simp only
 rw [Option.bind_some, if_pos en, f3', Option.bind_some, if_pos rfl, f4', Option.bind_some, if_pos rfl, f1'', Option.bind_some, if_pos rfl, f2'', Option.bind_some, if_pos rfl, Option.bind_some, ar3, if_neg (by decide)]
 refine okP.some ⟨rfl, b, k1, _, _, n, h3, G, K1, RR3, hn, hm, n8, hs, Or.inr ⟨rfl, n0, ?_⟩⟩
 rw [t3]; exact La
theorem Inv.step {o : Ob} (I : Inv o) {b' : BB} {k' : KK} {w : Int32 × Ob} {b : BB} {k : KK} {r : RR} {i : II} {n : Nat} (h : Sh b k r i o) (R : LR r) (hn : i.2.2.1.toInt = (n : Nat)) (hm : i.1.toInt = 8) (n8 : n ≤ 8) (hs : i.2.1.toInt = 64) (hw : w = (0, o) ∨ (i.2.2.2 = 0 ∧ w.1 = 1 ∧ ∃ b' k', GB b' n ∧ LK k' ∧ Sh b' k' r i w.2)) : Inv w.2 := by
 rcases hw with hw | ⟨a0, _, b', k', g, K, hS⟩
 ·rw [hw]; exact I
 ·exact ⟨b', k', r, i, n, hS, g, K, R, hn, hm, n8, hs, Or.inl a0⟩
theorem qr {x y : Int32} (h : 0 < y.toInt) {P : Int32 → Prop} (k : ∀ v, P v) : okP (qrem x y) P := by
 have z0 : (0 : Int32).toInt = 0 := rfl
 unfold qrem
 rw [if_neg (by rw [i_eq, z0]; omega)]
 exact okP.some (k _)
theorem law_ok (s : List Int32) (hs : s.length ≤ 260) : ∃ τ, F0 s = some (1, τ) ∧ τ.length - List.length ([Sum.inr (Sum.inl (FieldType.int, s))] : QHeap) ≤ room_1.cells ∧ qhs τ - qhs [Sum.inr (Sum.inl (FieldType.int, s))] ≤ room_1.slots := by
 have hl := len_i (n := s.length) (by omega)
 have z1 : (1 : Int32).toInt = 1 := rfl
 have z2 : (2 : Int32).toInt = 2 := rfl
 have z3 : (3 : Int32).toInt = 3 := rfl
 have z4 : (4 : Int32).toInt = 4 := rfl
 have z5 : (5 : Int32).toInt = 5 := rfl
 have : okP (F0 s) (fun e => e.1 = 1 ∧ sFit s e.2) := by
  unfold F0
  have i0 : okP (F1 8 64) (fun o => Inv o) := by
   unfold F1
   refine okP.some ?_
   have L : ∀ n : Nat, (List.replicate n (0 : Int32)).length = n := fun n => List.length_replicate
   refine ⟨(List.replicate 16 0, List.replicate 16 0, List.replicate 16 0, List.replicate 16 0, List.replicate 16 0, List.replicate 16 0, List.replicate 16 0, List.replicate 16 0), (List.replicate 16 0, List.replicate 16 0), (List.replicate 4 0, List.replicate 16 0, 0, 0, 0), (8, 64, 0, 0), 0, ?_, ⟨⟨L _, L _, L _, L _, L _, L _, L _, L _⟩, by omega, fun j hj => absurd hj (by omega)⟩, ⟨L _, L _⟩, ⟨L _, L _⟩, rfl, rfl, by omega, rfl, Or.inl rfl⟩
   dsimp only [Sh, f_bOp, f_bD, f_bS, f_bImm, f_bTerm, f_bTest, f_bT0, f_bT1, f_cnt0, f_cnt1, f_regs, f_outs, f_edgeId, f_edgeW, f_chNext, f_chPrev, f_chHead, f_heat, f_posOf, f_order, f_cOp, f_cD, f_cS, f_cImm, f_cKind, f_cTest, f_cTaken, f_cOther, f_maxBlocks, f_maxSteps, f_n, f_arranged, f_outCount, f_steps, f_status, f_edgeN, s_bOp, s_bD, s_bS, s_bImm, s_bTerm, s_bTest, s_bT0, s_bT1, s_cnt0, s_cnt1, s_regs, s_outs, s_edgeId, s_edgeW, s_chNext, s_chPrev, s_chHead, s_heat, s_posOf, s_order, s_cOp, s_cD, s_cS, s_cImm, s_cKind, s_cTest, s_cTaken, s_cOther, s_maxBlocks, s_maxSteps, s_n, s_arranged, s_outCount, s_steps, s_status, s_edgeN]
   exact ⟨L _, L _, L _, L _, L _, L _, L _, L _, L _, L _, L _, L _, L _, L _, L _, L _, rfl, rfl, rfl, rfl⟩
  apply okP.bind
  refine okP.mono i0 (fun o I => ?_)
  apply okP.bind
  refine okP.mono (P := fun e : Int32 × QHeap => e.1 = 1 ∧ sFit s e.2) ?_ (fun e he => okP.some he)
  refine okP.loop (fun w : Int32 × Ob => Inv w.2 ∧ 0 ≤ w.1.toInt ∧ w.1.toInt ≤ 1000) (fun w => (1000 - w.1.toInt).toNat) ⟨I, by show (0 : Int) ≤ 0; decide, by show (0 : Int) ≤ 1000; decide⟩ (by show (1000 - (0 : Int)).toNat < 4000; decide) ?_
  rintro ⟨x, p⟩ ⟨I, x0, xL⟩
  simp only at I x0 xL
  unfold B0_14
  simp only
  have a4 : (x + 4).toInt = x.toInt + 4 := by rw [i_add (by omega) (by omega), z4]
  refine okP.ite (fun cc => ?_) (fun _ => okP.some ⟨rfl, I.fit s⟩)
  refine okP.ite (fun _ => ?_) (fun _ => okP.some ⟨rfl, I.fit s⟩)
  rw [i_lt, a4, hl] at cc
  have a1 : (x + 1).toInt = x.toInt + 1 := inc1 (by omega)
  have a2 : (x + 2).toInt = x.toInt + 2 := by rw [i_add (by omega) (by omega), z2]
  have a3 : (x + 3).toInt = x.toInt + 3 := by rw [i_add (by omega) (by omega), z3]
  have a5 : (x + 5).toInt = x.toInt + 5 := by rw [i_add (by omega) (by omega), z5]
  have nx : ∀ q : Ob, Inv q → okP (J0_255 s q x) (fun r => Sum.elim (fun e : Int32 × QHeap => e.1 = 1 ∧ sFit s e.2) (fun w : Int32 × Ob => (Inv w.2 ∧ 0 ≤ w.1.toInt ∧ w.1.toInt ≤ 1000) ∧ (1000 - w.1.toInt).toNat < (1000 - x.toInt).toNat) r) := by
   intro q hq
   exact okP.some ⟨⟨hq, by simp only; omega, by simp only; omega⟩, by simp only; omega⟩
  obtain ⟨b, k, r, i, n, h, G, K, R, hn, hm, n8, hs, M⟩ := id I
  have e1 : (f_n p + 1).toInt = n + 1 := by rw [g_n h, inc1 (by omega), hn]
  have st : ∀ {w : Int32 × Ob}, (w = (0, p) ∨ (i.2.2.2 = 0 ∧ w.1 = 1 ∧ ∃ b' k', GB b' n ∧ LK k' ∧ Sh b' k' r i w.2)) → Inv w.2 := by
   intro w hw
   exact I.step (b' := b) (k' := k) h R hn hm n8 hs hw
  unfold F2
  apply okP.bind; refine okP.aget (by omega) (by omega) (fun y0 _ => ?_)
  rw [Option.bind_some]
  apply okP.bind; refine okP.aget (by omega) (by omega) (fun y1 _ => ?_)
  apply okP.bind; refine okP.aget (by omega) (by omega) (fun y2 _ => ?_)
  apply okP.bind; refine okP.aget (by omega) (by omega) (fun y3 _ => ?_)
  apply okP.bind; refine okP.aget (by omega) (by omega) (fun y4 _ => ?_)
  refine okP.ite (fun _ => ?_) (fun _ => ?_)
  ·refine okP.ite (fun _ => ?_) (fun _ => ?_)
   ·refine okP.ite (fun _ => ?_) (fun _ => ?_)
    ·refine okP.ite (fun _ => ?_) (fun _ => ?_)
     ·apply okP.bind; refine qr (by omega) (fun v => ?_)
      apply okP.bind
      exact okP.mono (halt_ok h G K hn v) (fun w hw => nx _ (st hw))
     refine okP.ite (fun _ => ?_) (fun _ => ?_)
     ·apply okP.bind
      refine okP.mono (check_ok I _) ?_
      rintro ⟨w, q⟩ ⟨w1, Iq⟩
      simp only at w1 Iq ⊢
      subst w1
      rw [if_neg (by decide)]
      exact nx q Iq
     refine okP.ite (fun _ => ?_) (fun _ => ?_)
     ·apply okP.bind
      refine okP.mono (reset_ok h G.1 K R) ?_
      rintro q ⟨k', r', g, K', R', hq⟩
      exact nx q ⟨b, k', r', _, 0, hq, g, K', R', rfl, hm, by omega, hs, Or.inl rfl⟩
     ·apply okP.bind
      exact okP.mono (I.run _) (fun w hw => nx _ hw)
    ·apply okP.bind; refine qr (by omega) (fun v => ?_)
     apply okP.bind; refine qr (by omega) (fun v2 => ?_)
     apply okP.bind; refine qr (by omega) (fun v3 => ?_)
     apply okP.bind
     exact okP.mono (branch_ok h G K hn v _ v2 v3) (fun w hw => nx _ (st hw))
   ·apply okP.bind; refine qr (by omega) (fun v => ?_)
    apply okP.bind; refine qr (by omega) (fun v2 => ?_)
    apply okP.bind
    exact okP.mono (jump_ok h G K hn v v2) (fun w hw => nx _ (st hw))
  ·apply okP.bind
   refine okP.mono (add_ok h G K hn (by omega) (by omega) _ _ _ _) ?_
   rintro w (⟨hw, _⟩ | ⟨a0, lt, _, b', k', g, K', hS, _⟩)
   ·rw [hw]; exact nx _ I
   ·refine nx _ ⟨b', k', r, _, n + 1, hS, g, K', R, ?_, hm, by omega, hs, Or.inl rfl⟩
    show (i.2.2.1 + 1).toInt = ((n + 1 : Nat) : Int)
    rw [inc1 (by omega), hn]; rfl
 obtain ⟨⟨r, τ⟩, q1, q2, q3⟩ := this
 simp only at q2
 subst q2
 exact ⟨τ, q1, q3⟩
set_option maxRecDepth 65536 in
theorem comes_1 {Post : Tables → Env → Array Value → State → Outcome → State → Prop} (hpost : ∀ tb e args s v u, (limb_1_1.after args s (.returned v) u = true ∧ limb_1_2.after args s (.returned v) u = true ∧ True) → FrameEnd s (.returned v) u (Jvm.fieldLocs frame_1_writes args s ++ Jvm.arrayLocs frame_1_arrays args s ++ Jvm.staticLocs frame_1_statics s) 72 1088 → Post tb e args s (.returned v) u) :
    ArmFor flags0 classFile x code maxLocals ret World_1 tables_1 room_1 Calls_1 rest_1 Pre_1 Post := by
  intro l hfl _ _ p e ha hc hk s m args below hf hA hF happ hP
  obtain ⟨hcalls, hrest, hpre⟩ := hP
  obtain ⟨-, -, -, hnamed, -, -, -, hat⟩ := (Spec.applies_iff hf).mp happ
  obtain ⟨hg, hn⟩ := and_e (Cond.before_iff.mp (show (Jvm.Cond.and given_1 narrow_1).before args s = true from hpre))
  obtain ⟨g0, g1⟩ := and_e hg
  obtain ⟨w0, rfl⟩ : ∃ w0 : Value, args = #[w0] := by
    have hs : args.size = 1 := by simpa [Cond.value, given_1] using g0
    obtain ⟨L⟩ := args
    match L, hs with
    | [w0], _ => exact ⟨w0, rfl⟩
  have hw := fun d (hd : d ∈ tables_1) => atoms_spec (ws := Jvm.Cond.code x code maxLocals ret :: tables_1) hat d (List.mem_cons_of_mem _ hd)
  have hfit : Fit s := fun {y c} hc i hi => by
    obtain ⟨ha, rfl⟩ := Array.getElem?_eq_some_iff.mp hc
    have q := List.all_eq_true.mp ((Array.all_eq_true_iff_forall_mem.mp hF) _ (Array.getElem_mem ha)) i (List.mem_range.mpr hi)
    simpa [Array.getElem?_eq_getElem hi] using q
  obtain ⟨n1, n2⟩ := and_e hn
  obtain ⟨a, cl, xs, rfl, hA1, hA2, hlen⟩ := script_ok hfit n1 n2
  obtain ⟨τ, hF0, hc1, hs1⟩ := law_ok xs hlen
  have hlt := hA1.lt
  have Ad : QAd s.heap.size (fun k => match k with | 0 => a | k + 1 => s.heap.size + k) := ⟨fun k hk => by cases k with | zero => exact absurd hk (by decide) | succ k => rfl, fun i j h => by
    cases i with
    | zero => cases j with
      | zero => rfl
      | succ j => have h' : a = s.heap.size + j := h; exact absurd hA1.lt (by rw [h']; exact Nat.not_lt.mpr (Nat.le_add_right _ _))
    | succ i => cases j with
      | zero => have h' : s.heap.size + i = a := h; exact absurd hA1.lt (by rw [← h']; exact Nat.not_lt.mpr (Nat.le_add_right _ _))
      | succ j => have h' : s.heap.size + i = s.heap.size + j := h; omega⟩
  have hR : QRep s s.heap.size (fun k => match k with | 0 => a | k + 1 => s.heap.size + k) s.heap [.inr (.inl (.int, xs))] := ⟨Nat.le_refl _, rfl, fun k c h => by
    cases k with
    | zero => cases h; exact ⟨cl, hA1, hA2⟩
    | succ k => cases h⟩
  have T := tF0 (l := l) (Z := s) Ad (QW_ok hw) xs hF0
  have M := QTri.met (k := 0) (as := [.ref 0]) (by decide) T hR (Nat.le_of_ble_eq_true rfl) (fun q => by cases q) tables_1 (rm := room_1) (by decide) (by decide) hc1 hs1
  obtain ⟨n, o, h1, h2, h3, _, L, rfl, ⟨rfl, R', N⟩, hq⟩ := M p e ha hc hk s m _ below hf ((Spec.applies_iff_loose hf).mp happ).1 ⟨rfl, State.Warmed39.refl s, rfl⟩ trivial
  refine ⟨n, _, h1, h2, h3, hpost _ _ _ _ _ _ ⟨Cond.after_iff.mpr rfl, Cond.after_iff.mpr (eq_i res_at (Term.int_eval (1)) rfl), trivial⟩ ⟨hq.1, hq.2.1, (hq.2.2.sift fun y hy => Or.inr (N y hy)).mono hc1 hs1⟩⟩
theorem main_1_1 : Claimed_1_1 := comes_1 fun _ _ _ _ _ _ h hF => ⟨h.1, hF⟩
theorem main_1_2 : Claimed_1_2 := comes_1 fun _ _ _ _ _ _ h hF => ⟨h.2.1, hF⟩
end Jvm.Pilot.@@N@@
namespace Jvm.Pilot.@@N@@
open Jvm Jvm.ClassFile Sem Op Lib Jvm.Free Jvm.Stand Jvm.Pilot.@@N@@.Jvm.D
/-! MADE BY PROGRAM (witnessworld.py) out of the Statement's table words and the real class files: 9 classes; the members and pool entries that the words name. The judged class is class 1, her method 1. -/
namespace start1
open Jvm.ClassFile
def u (s : String) : CpInfo := .utf8 (stringToUtf16 s)
/-- a pool by its gaps: so many unusable entries, then the entry; so many at the end -/
def gap : Nat → List CpInfo → List CpInfo
  | 0, r => r
  | n + 1, r => .unusable :: gap n r
def poolList (es : List (Nat × CpInfo)) (last : Nat) : List CpInfo := es.foldr (fun e r => gap e.1 (e.2 :: r)) (gap last [])
def pool (es : List (Nat × CpInfo)) (last : Nat) : Array CpInfo := ⟨poolList es last⟩
def fileOf (pool : Array CpInfo) (this : Nat) (attrs : Array Attribute := #[]) (ms : Array MethodInfo := #[]) (fl : Nat := 33) (sup : Nat := 0) (ifs : Array Nat := #[]) (fds : Array FieldInfo := #[]) : ClassFile where
  minorVersion := 0
  majorVersion := 65
  constantPool := pool
  accessFlags := fl
  thisClass := this
  superClass := sup
  interfaces := ifs
  fields := fds
  methods := ms
  attributes := attrs
def plain (name : String) (sup : Option ClassId) : Class where
  name := name
  kind := .ordinary
  loader := none
  accessFlags := 33
  super := sup
  interfaces := #[]
  cf := none
  fields := #[]
  methods := #[]
  instanceTypes := #[]
  staticTypes := #[]
  resolved := #[]
  callSites := []
  init := .initialized
  statics := none
  mirror := none

def pool0 : Array CpInfo := pool [(5, u "<init>"), (0, u "()V"), (1, .class_ 10), (1, u "java/lang/Object")] 113

def k0c0 : Code := { maxStack := 0, maxLocals := 1, code := object_method_1_code, exceptionTable := #[], attributes := #[] }
def k0m0 : Method := { name := "<init>", desc := "()V", sig := { parameters := [], returnType := none }, accessFlags := 1, code := some k0c0 }
/-- java/lang/Object -/
def k0 : Class := { plain "java/lang/Object" none with
  accessFlags := 33
  interfaces := #[]
  cf := some (fileOf pool0 8 #[] #[{ accessFlags := 1, nameIndex := 5, descriptorIndex := 6, attributes := #[] }] 33 0 #[] #[])
  fields := #[]
  methods := #[k0m0]
  instanceTypes := #[]
  staticTypes := #[]
  resolved := Array.replicate 124 none
  statics := none }

def pool1 : Array CpInfo := pool [(2, .class_ 4), (1, u "java/lang/Object"), (0, u "<init>"), (0, u "()V"), (0, .class_ 8), (0, u "ChainLayout"), (0, .methodref 7 10), (0, .nameAndType 5 11), (0, u "(II)V"), (0, .methodref 7 13), (0, .nameAndType 14 15), (0, u "blockCount"), (0, u "()I"), (0, .methodref 7 17), (0, .nameAndType 18 19), (0, u "addBlock"), (0, u "(IIII)I"), (0, .methodref 7 21), (0, .nameAndType 22 23), (0, u "setJump"), (0, u "(II)Z"), (0, .methodref 7 25), (0, .nameAndType 26 27), (0, u "setBranch"), (0, u "(IIII)Z"), (0, .methodref 7 29), (0, .nameAndType 30 31), (0, u "setHalt"), (0, u "(I)Z"), (0, .methodref 33 34), (0, .class_ 35), (0, .nameAndType 36 37), (0, u "ChainLayoutL7"), (0, u "check"), (0, u "(LChainLayout;I)Z"), (0, .methodref 7 39), (0, .nameAndType 40 6), (0, u "reset"), (0, .methodref 7 42), (0, .nameAndType 43 44), (0, u "run"), (0, u "(I)I"), (0, .methodref 7 46), (0, .nameAndType 47 48), (0, u "isLaidOut"), (0, u "()Z"), (0, .methodref 7 50), (0, .nameAndType 51 48), (0, u "layout"), (0, .methodref 33 53), (0, .nameAndType 54 55), (0, u "results"), (0, u "(LChainLayout;)J"), (0, .methodref 33 57), (0, .nameAndType 58 55), (0, u "edges"), (0, .methodref 7 60), (0, .nameAndType 61 62), (0, u "blockInfo"), (0, u "(II)I"), (0, .methodref 7 64), (0, .nameAndType 65 15), (0, u "lastStatus"), (0, .long 31), (1, .methodref 7 69), (0, .nameAndType 70 15), (0, u "lastSteps"), (0, .methodref 7 72), (0, .nameAndType 73 15), (0, u "outputCount"), (0, .methodref 7 75), (0, .nameAndType 76 44), (0, u "reg"), (0, .methodref 7 78), (0, .nameAndType 79 44), (0, u "output"), (0, .methodref 7 81), (0, .nameAndType 82 62), (0, u "edgeCount"), (2, u "law"), (0, u "([I)Z")] 5

def k1m0 : Method := { name := "<init>", desc := "()V", sig := { parameters := [], returnType := none }, accessFlags := 1, code := none }
def k1c1 : Code := { maxStack := 7, maxLocals := 10, code := code, exceptionTable := #[], attributes := #[] }
def k1m1 : Method := { name := "law", desc := "([I)Z", sig := { parameters := [(.array .int)], returnType := some .boolean }, accessFlags := 9, code := some k1c1 }
def k1c2 : Code := { maxStack := 5, maxLocals := 12, code := method_3_code, exceptionTable := #[], attributes := #[] }
def k1m2 : Method := { name := "check", desc := "(LChainLayout;I)Z", sig := { parameters := [(.object "ChainLayout"), .int], returnType := some .boolean }, accessFlags := 10, code := some k1c2 }
def k1c3 : Code := { maxStack := 4, maxLocals := 4, code := method_4_code, exceptionTable := #[], attributes := #[] }
def k1m3 : Method := { name := "results", desc := "(LChainLayout;)J", sig := { parameters := [(.object "ChainLayout")], returnType := some .long }, accessFlags := 10, code := some k1c3 }
def k1c4 : Code := { maxStack := 5, maxLocals := 5, code := method_5_code, exceptionTable := #[], attributes := #[] }
def k1m4 : Method := { name := "edges", desc := "(LChainLayout;)J", sig := { parameters := [(.object "ChainLayout")], returnType := some .long }, accessFlags := 10, code := some k1c4 }
/-- ChainLayoutL7 -/
def k1 : Class := { plain "ChainLayoutL7" (some 0) with
  accessFlags := 33
  interfaces := #[]
  cf := some (fileOf pool1 33 #[] #[{ accessFlags := 1, nameIndex := 5, descriptorIndex := 6, attributes := #[] }, { accessFlags := 9, nameIndex := 85, descriptorIndex := 86, attributes := #[] }, { accessFlags := 10, nameIndex := 36, descriptorIndex := 37, attributes := #[] }, { accessFlags := 10, nameIndex := 54, descriptorIndex := 55, attributes := #[] }, { accessFlags := 10, nameIndex := 58, descriptorIndex := 55, attributes := #[] }] 33 2 #[] #[])
  fields := #[]
  methods := #[k1m0, k1m1, k1m2, k1m3, k1m4]
  instanceTypes := #[]
  staticTypes := #[]
  resolved := Array.replicate 92 none
  statics := none }

def pool2 : Array CpInfo := pool [(1, .methodref 2 3), (0, .class_ 4), (0, .nameAndType 5 6), (0, u "java/lang/Object"), (0, u "<init>"), (0, u "()V"), (0, .fieldref 8 9), (0, .class_ 10), (0, .nameAndType 11 12), (0, u "ChainLayout"), (0, u "bOp"), (0, u "[I"), (0, .fieldref 8 14), (0, .nameAndType 15 12), (0, u "bD"), (0, .fieldref 8 17), (0, .nameAndType 18 12), (0, u "bS"), (0, .fieldref 8 20), (0, .nameAndType 21 12), (0, u "bImm"), (0, .fieldref 8 23), (0, .nameAndType 24 12), (0, u "bTerm"), (0, .fieldref 8 26), (0, .nameAndType 27 12), (0, u "bTest"), (0, .fieldref 8 29), (0, .nameAndType 30 12), (0, u "bT0"), (0, .fieldref 8 32), (0, .nameAndType 33 12), (0, u "bT1"), (0, .fieldref 8 35), (0, .nameAndType 36 12), (0, u "cnt0"), (0, .fieldref 8 38), (0, .nameAndType 39 12), (0, u "cnt1"), (0, .fieldref 8 41), (0, .nameAndType 42 12), (0, u "regs"), (0, .fieldref 8 44), (0, .nameAndType 45 12), (0, u "outs"), (0, .fieldref 8 47), (0, .nameAndType 48 12), (0, u "edgeId"), (0, .fieldref 8 50), (0, .nameAndType 51 12), (0, u "edgeW"), (0, .fieldref 8 53), (0, .nameAndType 54 12), (0, u "chNext"), (0, .fieldref 8 56), (0, .nameAndType 57 12), (0, u "chPrev"), (0, .fieldref 8 59), (0, .nameAndType 60 12), (0, u "chHead"), (0, .fieldref 8 62), (0, .nameAndType 63 12), (0, u "heat"), (0, .fieldref 8 65), (0, .nameAndType 66 12), (0, u "posOf"), (0, .fieldref 8 68), (0, .nameAndType 69 12), (0, u "order"), (0, .fieldref 8 71), (0, .nameAndType 72 12), (0, u "cOp"), (0, .fieldref 8 74), (0, .nameAndType 75 12), (0, u "cD"), (0, .fieldref 8 77), (0, .nameAndType 78 12), (0, u "cS"), (0, .fieldref 8 80), (0, .nameAndType 81 12), (0, u "cImm"), (0, .fieldref 8 83), (0, .nameAndType 84 12), (0, u "cKind"), (0, .fieldref 8 86), (0, .nameAndType 87 12), (0, u "cTest"), (0, .fieldref 8 89), (0, .nameAndType 90 12), (0, u "cTaken"), (0, .fieldref 8 92), (0, .nameAndType 93 12), (0, u "cOther"), (0, .fieldref 8 95), (0, .nameAndType 96 97), (0, u "maxBlocks"), (0, u "I"), (0, .fieldref 8 99), (0, .nameAndType 100 97), (0, u "maxSteps"), (0, .fieldref 8 102), (0, .nameAndType 103 97), (0, u "n"), (0, .fieldref 8 105), (0, .nameAndType 106 107), (0, u "arranged"), (0, u "Z"), (0, .fieldref 8 109), (0, .nameAndType 110 97), (0, u "outCount"), (0, .fieldref 8 112), (0, .nameAndType 113 97), (0, u "steps"), (0, .fieldref 8 115), (0, .nameAndType 116 97), (0, u "status"), (0, .methodref 8 118), (0, .nameAndType 119 120), (0, u "writeTerm"), (0, u "(IIII)V"), (0, .methodref 8 122), (0, .nameAndType 123 6), (0, u "clearCounts"), (0, .methodref 8 125), (0, .nameAndType 126 127), (0, u "validBlock"), (0, u "(I)Z"), (0, .methodref 8 129), (0, .nameAndType 130 131), (0, u "stepFlat"), (0, u "(I)I"), (0, .methodref 8 133), (0, .nameAndType 134 131), (0, u "stepBlock"), (0, .methodref 8 136), (0, .nameAndType 137 6), (0, u "collectEdges"), (0, .methodref 8 139), (0, .nameAndType 140 6), (0, u "sortEdges"), (0, .methodref 8 142), (0, .nameAndType 143 6), (0, u "buildChains"), (0, .methodref 8 145), (0, .nameAndType 146 6), (0, u "placeChains"), (0, .methodref 8 148), (0, .nameAndType 149 6), (0, u "compileCode"), (0, .methodref 8 151), (0, .nameAndType 152 120), (0, u "doOp"), (0, .methodref 8 154), (0, .nameAndType 155 127), (0, u "holds"), (0, .fieldref 8 157), (0, .nameAndType 158 97), (0, u "edgeN"), (0, .methodref 8 160), (0, .nameAndType 161 120), (0, u "addEdge"), (0, .methodref 8 163), (0, .nameAndType 164 165), (0, u "before"), (0, u "(IIII)Z"), (0, .methodref 8 167), (0, .nameAndType 168 169), (0, u "tryMerge"), (0, u "(II)V"), (0, .methodref 8 171), (0, .nameAndType 172 173), (0, u "placeChain"), (0, u "(II)I"), (0, .methodref 8 175), (0, .nameAndType 176 169), (0, u "compileTerm"), (0, u "OP_NOP"), (2, u "OP_MOVI"), (1, u "OP_MOV"), (1, u "OP_ADDI"), (1, u "OP_ADD"), (1, u "OP_SUB"), (1, u "OP_SHR"), (1, u "OP_OUT"), (1, u "T_HALT"), (0, u "T_JUMP"), (0, u "T_BRANCH"), (0, u "COND_EQZ"), (0, u "COND_NEZ"), (0, u "COND_LTZ"), (0, u "COND_GEZ"), (0, u "ST_NONE"), (0, u "ST_HALT"), (0, u "ST_STEPS"), (0, u "ST_EMPTY"), (0, u "OUT_CAP"), (1, u "F_OP"), (0, u "F_D"), (0, u "F_S"), (0, u "F_IMM"), (0, u "F_TERM"), (0, u "F_TEST"), (0, u "F_TARGET0"), (0, u "F_TARGET1"), (3, u "addBlock"), (0, u "(IIII)I"), (0, u "setJump"), (0, u "(II)Z"), (0, u "setBranch"), (0, u "setHalt"), (0, u "run"), (0, u "layout"), (0, u "()Z"), (0, u "isLaidOut"), (0, u "reset"), (0, u "blockCount"), (0, u "()I"), (0, u "blockInfo"), (0, u "edgeCount"), (0, u "lastStatus"), (0, u "lastSteps"), (0, u "reg"), (0, u "outputCount"), (0, u "output")] 2

def k2c0 : Code := { maxStack := 2, maxLocals := 5, code := prog_1_method_1_code, exceptionTable := #[], attributes := #[] }
def k2m0 : Method := { name := "<init>", desc := "(II)V", sig := { parameters := [.int, .int], returnType := none }, accessFlags := 1, code := some k2c0 }
def k2c1 : Code := { maxStack := 5, maxLocals := 6, code := prog_1_method_2_code, exceptionTable := #[], attributes := #[] }
def k2m1 : Method := { name := "addBlock", desc := "(IIII)I", sig := { parameters := [.int, .int, .int, .int], returnType := some .int }, accessFlags := 1, code := some k2c1 }
def k2c2 : Code := { maxStack := 5, maxLocals := 3, code := prog_1_method_3_code, exceptionTable := #[], attributes := #[] }
def k2m2 : Method := { name := "setJump", desc := "(II)Z", sig := { parameters := [.int, .int], returnType := some .boolean }, accessFlags := 1, code := some k2c2 }
def k2c3 : Code := { maxStack := 5, maxLocals := 5, code := prog_1_method_4_code, exceptionTable := #[], attributes := #[] }
def k2m3 : Method := { name := "setBranch", desc := "(IIII)Z", sig := { parameters := [.int, .int, .int, .int], returnType := some .boolean }, accessFlags := 1, code := some k2c3 }
def k2c4 : Code := { maxStack := 5, maxLocals := 2, code := prog_1_method_5_code, exceptionTable := #[], attributes := #[] }
def k2m4 : Method := { name := "setHalt", desc := "(I)Z", sig := { parameters := [.int], returnType := some .boolean }, accessFlags := 1, code := some k2c4 }
def k2c5 : Code := { maxStack := 3, maxLocals := 5, code := prog_1_method_6_code, exceptionTable := #[], attributes := #[] }
def k2m5 : Method := { name := "run", desc := "(I)I", sig := { parameters := [.int], returnType := some .int }, accessFlags := 1, code := some k2c5 }
def k2c6 : Code := { maxStack := 2, maxLocals := 1, code := prog_1_method_7_code, exceptionTable := #[], attributes := #[] }
def k2m6 : Method := { name := "layout", desc := "()Z", sig := { parameters := [], returnType := some .boolean }, accessFlags := 1, code := some k2c6 }
def k2c7 : Code := { maxStack := 1, maxLocals := 1, code := prog_1_method_8_code, exceptionTable := #[], attributes := #[] }
def k2m7 : Method := { name := "isLaidOut", desc := "()Z", sig := { parameters := [], returnType := some .boolean }, accessFlags := 1, code := some k2c7 }
def k2c8 : Code := { maxStack := 3, maxLocals := 2, code := prog_1_method_9_code, exceptionTable := #[], attributes := #[] }
def k2m8 : Method := { name := "reset", desc := "()V", sig := { parameters := [], returnType := none }, accessFlags := 1, code := some k2c8 }
def k2c9 : Code := { maxStack := 1, maxLocals := 1, code := prog_1_method_10_code, exceptionTable := #[], attributes := #[] }
def k2m9 : Method := { name := "blockCount", desc := "()I", sig := { parameters := [], returnType := some .int }, accessFlags := 1, code := some k2c9 }
def k2c10 : Code := { maxStack := 2, maxLocals := 3, code := prog_1_method_11_code, exceptionTable := #[], attributes := #[] }
def k2m10 : Method := { name := "blockInfo", desc := "(II)I", sig := { parameters := [.int, .int], returnType := some .int }, accessFlags := 1, code := some k2c10 }
def k2c11 : Code := { maxStack := 2, maxLocals := 3, code := prog_1_method_12_code, exceptionTable := #[], attributes := #[] }
def k2m11 : Method := { name := "edgeCount", desc := "(II)I", sig := { parameters := [.int, .int], returnType := some .int }, accessFlags := 1, code := some k2c11 }
def k2c12 : Code := { maxStack := 1, maxLocals := 1, code := prog_1_method_13_code, exceptionTable := #[], attributes := #[] }
def k2m12 : Method := { name := "lastStatus", desc := "()I", sig := { parameters := [], returnType := some .int }, accessFlags := 1, code := some k2c12 }
def k2c13 : Code := { maxStack := 1, maxLocals := 1, code := prog_1_method_14_code, exceptionTable := #[], attributes := #[] }
def k2m13 : Method := { name := "lastSteps", desc := "()I", sig := { parameters := [], returnType := some .int }, accessFlags := 1, code := some k2c13 }
def k2c14 : Code := { maxStack := 2, maxLocals := 2, code := prog_1_method_15_code, exceptionTable := #[], attributes := #[] }
def k2m14 : Method := { name := "reg", desc := "(I)I", sig := { parameters := [.int], returnType := some .int }, accessFlags := 1, code := some k2c14 }
def k2c15 : Code := { maxStack := 1, maxLocals := 1, code := prog_1_method_16_code, exceptionTable := #[], attributes := #[] }
def k2m15 : Method := { name := "outputCount", desc := "()I", sig := { parameters := [], returnType := some .int }, accessFlags := 1, code := some k2c15 }
def k2c16 : Code := { maxStack := 2, maxLocals := 2, code := prog_1_method_17_code, exceptionTable := #[], attributes := #[] }
def k2m16 : Method := { name := "output", desc := "(I)I", sig := { parameters := [.int], returnType := some .int }, accessFlags := 1, code := some k2c16 }
def k2c17 : Code := { maxStack := 2, maxLocals := 2, code := prog_1_method_18_code, exceptionTable := #[], attributes := #[] }
def k2m17 : Method := { name := "validBlock", desc := "(I)Z", sig := { parameters := [.int], returnType := some .boolean }, accessFlags := 2, code := some k2c17 }
def k2c18 : Code := { maxStack := 3, maxLocals := 5, code := prog_1_method_19_code, exceptionTable := #[], attributes := #[] }
def k2m18 : Method := { name := "writeTerm", desc := "(IIII)V", sig := { parameters := [.int, .int, .int, .int], returnType := none }, accessFlags := 2, code := some k2c18 }
def k2c19 : Code := { maxStack := 3, maxLocals := 2, code := prog_1_method_20_code, exceptionTable := #[], attributes := #[] }
def k2m19 : Method := { name := "clearCounts", desc := "()V", sig := { parameters := [], returnType := none }, accessFlags := 2, code := some k2c19 }
def k2c20 : Code := { maxStack := 5, maxLocals := 5, code := prog_1_method_21_code, exceptionTable := #[], attributes := #[] }
def k2m20 : Method := { name := "doOp", desc := "(IIII)V", sig := { parameters := [.int, .int, .int, .int], returnType := none }, accessFlags := 2, code := some k2c20 }
def k2c21 : Code := { maxStack := 3, maxLocals := 4, code := prog_1_method_22_code, exceptionTable := #[], attributes := #[] }
def k2m21 : Method := { name := "holds", desc := "(I)Z", sig := { parameters := [.int], returnType := some .boolean }, accessFlags := 2, code := some k2c21 }
def k2c22 : Code := { maxStack := 6, maxLocals := 3, code := prog_1_method_23_code, exceptionTable := #[], attributes := #[] }
def k2m22 : Method := { name := "stepBlock", desc := "(I)I", sig := { parameters := [.int], returnType := some .int }, accessFlags := 2, code := some k2c22 }
def k2c23 : Code := { maxStack := 6, maxLocals := 3, code := prog_1_method_24_code, exceptionTable := #[], attributes := #[] }
def k2m23 : Method := { name := "stepFlat", desc := "(I)I", sig := { parameters := [.int], returnType := some .int }, accessFlags := 2, code := some k2c23 }
def k2c24 : Code := { maxStack := 6, maxLocals := 3, code := prog_1_method_25_code, exceptionTable := #[], attributes := #[] }
def k2m24 : Method := { name := "collectEdges", desc := "()V", sig := { parameters := [], returnType := none }, accessFlags := 2, code := some k2c24 }
def k2c25 : Code := { maxStack := 4, maxLocals := 5, code := prog_1_method_26_code, exceptionTable := #[], attributes := #[] }
def k2m25 : Method := { name := "addEdge", desc := "(IIII)V", sig := { parameters := [.int, .int, .int, .int], returnType := none }, accessFlags := 2, code := some k2c25 }
def k2c26 : Code := { maxStack := 6, maxLocals := 5, code := prog_1_method_27_code, exceptionTable := #[], attributes := #[] }
def k2m26 : Method := { name := "sortEdges", desc := "()V", sig := { parameters := [], returnType := none }, accessFlags := 2, code := some k2c26 }
def k2c27 : Code := { maxStack := 2, maxLocals := 5, code := prog_1_method_28_code, exceptionTable := #[], attributes := #[] }
def k2m27 : Method := { name := "before", desc := "(IIII)Z", sig := { parameters := [.int, .int, .int, .int], returnType := some .boolean }, accessFlags := 2, code := some k2c27 }
def k2c28 : Code := { maxStack := 3, maxLocals := 5, code := prog_1_method_29_code, exceptionTable := #[], attributes := #[] }
def k2m28 : Method := { name := "buildChains", desc := "()V", sig := { parameters := [], returnType := none }, accessFlags := 2, code := some k2c28 }
def k2c29 : Code := { maxStack := 3, maxLocals := 6, code := prog_1_method_30_code, exceptionTable := #[], attributes := #[] }
def k2m29 : Method := { name := "tryMerge", desc := "(II)V", sig := { parameters := [.int, .int], returnType := none }, accessFlags := 2, code := some k2c29 }
def k2c30 : Code := { maxStack := 3, maxLocals := 5, code := prog_1_method_31_code, exceptionTable := #[], attributes := #[] }
def k2m30 : Method := { name := "placeChains", desc := "()V", sig := { parameters := [], returnType := none }, accessFlags := 2, code := some k2c30 }
def k2c31 : Code := { maxStack := 3, maxLocals := 6, code := prog_1_method_32_code, exceptionTable := #[], attributes := #[] }
def k2m31 : Method := { name := "placeChain", desc := "(II)I", sig := { parameters := [.int, .int], returnType := some .int }, accessFlags := 2, code := some k2c31 }
def k2c32 : Code := { maxStack := 4, maxLocals := 3, code := prog_1_method_33_code, exceptionTable := #[], attributes := #[] }
def k2m32 : Method := { name := "compileCode", desc := "()V", sig := { parameters := [], returnType := none }, accessFlags := 2, code := some k2c32 }
def k2c33 : Code := { maxStack := 4, maxLocals := 6, code := prog_1_method_34_code, exceptionTable := #[], attributes := #[] }
def k2m33 : Method := { name := "compileTerm", desc := "(II)V", sig := { parameters := [.int, .int], returnType := none }, accessFlags := 2, code := some k2c33 }
/-- ChainLayout -/
def k2 : Class := { plain "ChainLayout" (some 0) with
  accessFlags := 49
  interfaces := #[]
  cf := some (fileOf pool2 8 #[] #[{ accessFlags := 1, nameIndex := 5, descriptorIndex := 169, attributes := #[] }, { accessFlags := 1, nameIndex := 218, descriptorIndex := 219, attributes := #[] }, { accessFlags := 1, nameIndex := 220, descriptorIndex := 221, attributes := #[] }, { accessFlags := 1, nameIndex := 222, descriptorIndex := 165, attributes := #[] }, { accessFlags := 1, nameIndex := 223, descriptorIndex := 127, attributes := #[] }, { accessFlags := 1, nameIndex := 224, descriptorIndex := 131, attributes := #[] }, { accessFlags := 1, nameIndex := 225, descriptorIndex := 226, attributes := #[] }, { accessFlags := 1, nameIndex := 227, descriptorIndex := 226, attributes := #[] }, { accessFlags := 1, nameIndex := 228, descriptorIndex := 6, attributes := #[] }, { accessFlags := 1, nameIndex := 229, descriptorIndex := 230, attributes := #[] }, { accessFlags := 1, nameIndex := 231, descriptorIndex := 173, attributes := #[] }, { accessFlags := 1, nameIndex := 232, descriptorIndex := 173, attributes := #[] }, { accessFlags := 1, nameIndex := 233, descriptorIndex := 230, attributes := #[] }, { accessFlags := 1, nameIndex := 234, descriptorIndex := 230, attributes := #[] }, { accessFlags := 1, nameIndex := 235, descriptorIndex := 131, attributes := #[] }, { accessFlags := 1, nameIndex := 236, descriptorIndex := 230, attributes := #[] }, { accessFlags := 1, nameIndex := 237, descriptorIndex := 131, attributes := #[] }, { accessFlags := 2, nameIndex := 126, descriptorIndex := 127, attributes := #[] }, { accessFlags := 2, nameIndex := 119, descriptorIndex := 120, attributes := #[] }, { accessFlags := 2, nameIndex := 123, descriptorIndex := 6, attributes := #[] }, { accessFlags := 2, nameIndex := 152, descriptorIndex := 120, attributes := #[] }, { accessFlags := 2, nameIndex := 155, descriptorIndex := 127, attributes := #[] }, { accessFlags := 2, nameIndex := 134, descriptorIndex := 131, attributes := #[] }, { accessFlags := 2, nameIndex := 130, descriptorIndex := 131, attributes := #[] }, { accessFlags := 2, nameIndex := 137, descriptorIndex := 6, attributes := #[] }, { accessFlags := 2, nameIndex := 161, descriptorIndex := 120, attributes := #[] }, { accessFlags := 2, nameIndex := 140, descriptorIndex := 6, attributes := #[] }, { accessFlags := 2, nameIndex := 164, descriptorIndex := 165, attributes := #[] }, { accessFlags := 2, nameIndex := 143, descriptorIndex := 6, attributes := #[] }, { accessFlags := 2, nameIndex := 168, descriptorIndex := 169, attributes := #[] }, { accessFlags := 2, nameIndex := 146, descriptorIndex := 6, attributes := #[] }, { accessFlags := 2, nameIndex := 172, descriptorIndex := 173, attributes := #[] }, { accessFlags := 2, nameIndex := 149, descriptorIndex := 6, attributes := #[] }, { accessFlags := 2, nameIndex := 176, descriptorIndex := 169, attributes := #[] }] 49 2 #[] #[{ accessFlags := 25, nameIndex := 177, descriptorIndex := 97, attributes := #[] }, { accessFlags := 25, nameIndex := 180, descriptorIndex := 97, attributes := #[] }, { accessFlags := 25, nameIndex := 182, descriptorIndex := 97, attributes := #[] }, { accessFlags := 25, nameIndex := 184, descriptorIndex := 97, attributes := #[] }, { accessFlags := 25, nameIndex := 186, descriptorIndex := 97, attributes := #[] }, { accessFlags := 25, nameIndex := 188, descriptorIndex := 97, attributes := #[] }, { accessFlags := 25, nameIndex := 190, descriptorIndex := 97, attributes := #[] }, { accessFlags := 25, nameIndex := 192, descriptorIndex := 97, attributes := #[] }, { accessFlags := 25, nameIndex := 194, descriptorIndex := 97, attributes := #[] }, { accessFlags := 25, nameIndex := 195, descriptorIndex := 97, attributes := #[] }, { accessFlags := 25, nameIndex := 196, descriptorIndex := 97, attributes := #[] }, { accessFlags := 25, nameIndex := 197, descriptorIndex := 97, attributes := #[] }, { accessFlags := 25, nameIndex := 198, descriptorIndex := 97, attributes := #[] }, { accessFlags := 25, nameIndex := 199, descriptorIndex := 97, attributes := #[] }, { accessFlags := 25, nameIndex := 200, descriptorIndex := 97, attributes := #[] }, { accessFlags := 25, nameIndex := 201, descriptorIndex := 97, attributes := #[] }, { accessFlags := 25, nameIndex := 202, descriptorIndex := 97, attributes := #[] }, { accessFlags := 25, nameIndex := 203, descriptorIndex := 97, attributes := #[] }, { accessFlags := 25, nameIndex := 204, descriptorIndex := 97, attributes := #[] }, { accessFlags := 25, nameIndex := 205, descriptorIndex := 97, attributes := #[] }, { accessFlags := 25, nameIndex := 207, descriptorIndex := 97, attributes := #[] }, { accessFlags := 25, nameIndex := 208, descriptorIndex := 97, attributes := #[] }, { accessFlags := 25, nameIndex := 209, descriptorIndex := 97, attributes := #[] }, { accessFlags := 25, nameIndex := 210, descriptorIndex := 97, attributes := #[] }, { accessFlags := 25, nameIndex := 211, descriptorIndex := 97, attributes := #[] }, { accessFlags := 25, nameIndex := 212, descriptorIndex := 97, attributes := #[] }, { accessFlags := 25, nameIndex := 213, descriptorIndex := 97, attributes := #[] }, { accessFlags := 25, nameIndex := 214, descriptorIndex := 97, attributes := #[] }, { accessFlags := 2, nameIndex := 96, descriptorIndex := 97, attributes := #[] }, { accessFlags := 2, nameIndex := 100, descriptorIndex := 97, attributes := #[] }, { accessFlags := 2, nameIndex := 103, descriptorIndex := 97, attributes := #[] }, { accessFlags := 2, nameIndex := 106, descriptorIndex := 107, attributes := #[] }, { accessFlags := 2, nameIndex := 11, descriptorIndex := 12, attributes := #[] }, { accessFlags := 2, nameIndex := 15, descriptorIndex := 12, attributes := #[] }, { accessFlags := 2, nameIndex := 18, descriptorIndex := 12, attributes := #[] }, { accessFlags := 2, nameIndex := 21, descriptorIndex := 12, attributes := #[] }, { accessFlags := 2, nameIndex := 24, descriptorIndex := 12, attributes := #[] }, { accessFlags := 2, nameIndex := 27, descriptorIndex := 12, attributes := #[] }, { accessFlags := 2, nameIndex := 30, descriptorIndex := 12, attributes := #[] }, { accessFlags := 2, nameIndex := 33, descriptorIndex := 12, attributes := #[] }, { accessFlags := 2, nameIndex := 36, descriptorIndex := 12, attributes := #[] }, { accessFlags := 2, nameIndex := 39, descriptorIndex := 12, attributes := #[] }, { accessFlags := 2, nameIndex := 42, descriptorIndex := 12, attributes := #[] }, { accessFlags := 2, nameIndex := 45, descriptorIndex := 12, attributes := #[] }, { accessFlags := 2, nameIndex := 110, descriptorIndex := 97, attributes := #[] }, { accessFlags := 2, nameIndex := 113, descriptorIndex := 97, attributes := #[] }, { accessFlags := 2, nameIndex := 116, descriptorIndex := 97, attributes := #[] }, { accessFlags := 2, nameIndex := 48, descriptorIndex := 12, attributes := #[] }, { accessFlags := 2, nameIndex := 51, descriptorIndex := 12, attributes := #[] }, { accessFlags := 2, nameIndex := 158, descriptorIndex := 97, attributes := #[] }, { accessFlags := 2, nameIndex := 54, descriptorIndex := 12, attributes := #[] }, { accessFlags := 2, nameIndex := 57, descriptorIndex := 12, attributes := #[] }, { accessFlags := 2, nameIndex := 60, descriptorIndex := 12, attributes := #[] }, { accessFlags := 2, nameIndex := 63, descriptorIndex := 12, attributes := #[] }, { accessFlags := 2, nameIndex := 66, descriptorIndex := 12, attributes := #[] }, { accessFlags := 2, nameIndex := 69, descriptorIndex := 12, attributes := #[] }, { accessFlags := 2, nameIndex := 72, descriptorIndex := 12, attributes := #[] }, { accessFlags := 2, nameIndex := 75, descriptorIndex := 12, attributes := #[] }, { accessFlags := 2, nameIndex := 78, descriptorIndex := 12, attributes := #[] }, { accessFlags := 2, nameIndex := 81, descriptorIndex := 12, attributes := #[] }, { accessFlags := 2, nameIndex := 84, descriptorIndex := 12, attributes := #[] }, { accessFlags := 2, nameIndex := 87, descriptorIndex := 12, attributes := #[] }, { accessFlags := 2, nameIndex := 90, descriptorIndex := 12, attributes := #[] }, { accessFlags := 2, nameIndex := 93, descriptorIndex := 12, attributes := #[] }])
  fields := #[{ name := "OP_NOP", type := .int, accessFlags := 25, slot := 0, constantValue := 0 }, { name := "OP_MOVI", type := .int, accessFlags := 25, slot := 1, constantValue := 0 }, { name := "OP_MOV", type := .int, accessFlags := 25, slot := 2, constantValue := 0 }, { name := "OP_ADDI", type := .int, accessFlags := 25, slot := 3, constantValue := 0 }, { name := "OP_ADD", type := .int, accessFlags := 25, slot := 4, constantValue := 0 }, { name := "OP_SUB", type := .int, accessFlags := 25, slot := 5, constantValue := 0 }, { name := "OP_SHR", type := .int, accessFlags := 25, slot := 6, constantValue := 0 }, { name := "OP_OUT", type := .int, accessFlags := 25, slot := 7, constantValue := 0 }, { name := "T_HALT", type := .int, accessFlags := 25, slot := 8, constantValue := 0 }, { name := "T_JUMP", type := .int, accessFlags := 25, slot := 9, constantValue := 0 }, { name := "T_BRANCH", type := .int, accessFlags := 25, slot := 10, constantValue := 0 }, { name := "COND_EQZ", type := .int, accessFlags := 25, slot := 11, constantValue := 0 }, { name := "COND_NEZ", type := .int, accessFlags := 25, slot := 12, constantValue := 0 }, { name := "COND_LTZ", type := .int, accessFlags := 25, slot := 13, constantValue := 0 }, { name := "COND_GEZ", type := .int, accessFlags := 25, slot := 14, constantValue := 0 }, { name := "ST_NONE", type := .int, accessFlags := 25, slot := 15, constantValue := 0 }, { name := "ST_HALT", type := .int, accessFlags := 25, slot := 16, constantValue := 0 }, { name := "ST_STEPS", type := .int, accessFlags := 25, slot := 17, constantValue := 0 }, { name := "ST_EMPTY", type := .int, accessFlags := 25, slot := 18, constantValue := 0 }, { name := "OUT_CAP", type := .int, accessFlags := 25, slot := 19, constantValue := 0 }, { name := "F_OP", type := .int, accessFlags := 25, slot := 20, constantValue := 0 }, { name := "F_D", type := .int, accessFlags := 25, slot := 21, constantValue := 0 }, { name := "F_S", type := .int, accessFlags := 25, slot := 22, constantValue := 0 }, { name := "F_IMM", type := .int, accessFlags := 25, slot := 23, constantValue := 0 }, { name := "F_TERM", type := .int, accessFlags := 25, slot := 24, constantValue := 0 }, { name := "F_TEST", type := .int, accessFlags := 25, slot := 25, constantValue := 0 }, { name := "F_TARGET0", type := .int, accessFlags := 25, slot := 26, constantValue := 0 }, { name := "F_TARGET1", type := .int, accessFlags := 25, slot := 27, constantValue := 0 }, { name := "maxBlocks", type := .int, accessFlags := 2, slot := 0, constantValue := 0 }, { name := "maxSteps", type := .int, accessFlags := 2, slot := 1, constantValue := 0 }, { name := "n", type := .int, accessFlags := 2, slot := 2, constantValue := 0 }, { name := "arranged", type := .boolean, accessFlags := 2, slot := 3, constantValue := 0 }, { name := "bOp", type := (.array .int), accessFlags := 2, slot := 4, constantValue := 0 }, { name := "bD", type := (.array .int), accessFlags := 2, slot := 5, constantValue := 0 }, { name := "bS", type := (.array .int), accessFlags := 2, slot := 6, constantValue := 0 }, { name := "bImm", type := (.array .int), accessFlags := 2, slot := 7, constantValue := 0 }, { name := "bTerm", type := (.array .int), accessFlags := 2, slot := 8, constantValue := 0 }, { name := "bTest", type := (.array .int), accessFlags := 2, slot := 9, constantValue := 0 }, { name := "bT0", type := (.array .int), accessFlags := 2, slot := 10, constantValue := 0 }, { name := "bT1", type := (.array .int), accessFlags := 2, slot := 11, constantValue := 0 }, { name := "cnt0", type := (.array .int), accessFlags := 2, slot := 12, constantValue := 0 }, { name := "cnt1", type := (.array .int), accessFlags := 2, slot := 13, constantValue := 0 }, { name := "regs", type := (.array .int), accessFlags := 2, slot := 14, constantValue := 0 }, { name := "outs", type := (.array .int), accessFlags := 2, slot := 15, constantValue := 0 }, { name := "outCount", type := .int, accessFlags := 2, slot := 16, constantValue := 0 }, { name := "steps", type := .int, accessFlags := 2, slot := 17, constantValue := 0 }, { name := "status", type := .int, accessFlags := 2, slot := 18, constantValue := 0 }, { name := "edgeId", type := (.array .int), accessFlags := 2, slot := 19, constantValue := 0 }, { name := "edgeW", type := (.array .int), accessFlags := 2, slot := 20, constantValue := 0 }, { name := "edgeN", type := .int, accessFlags := 2, slot := 21, constantValue := 0 }, { name := "chNext", type := (.array .int), accessFlags := 2, slot := 22, constantValue := 0 }, { name := "chPrev", type := (.array .int), accessFlags := 2, slot := 23, constantValue := 0 }, { name := "chHead", type := (.array .int), accessFlags := 2, slot := 24, constantValue := 0 }, { name := "heat", type := (.array .int), accessFlags := 2, slot := 25, constantValue := 0 }, { name := "posOf", type := (.array .int), accessFlags := 2, slot := 26, constantValue := 0 }, { name := "order", type := (.array .int), accessFlags := 2, slot := 27, constantValue := 0 }, { name := "cOp", type := (.array .int), accessFlags := 2, slot := 28, constantValue := 0 }, { name := "cD", type := (.array .int), accessFlags := 2, slot := 29, constantValue := 0 }, { name := "cS", type := (.array .int), accessFlags := 2, slot := 30, constantValue := 0 }, { name := "cImm", type := (.array .int), accessFlags := 2, slot := 31, constantValue := 0 }, { name := "cKind", type := (.array .int), accessFlags := 2, slot := 32, constantValue := 0 }, { name := "cTest", type := (.array .int), accessFlags := 2, slot := 33, constantValue := 0 }, { name := "cTaken", type := (.array .int), accessFlags := 2, slot := 34, constantValue := 0 }, { name := "cOther", type := (.array .int), accessFlags := 2, slot := 35, constantValue := 0 }]
  methods := #[k2m0, k2m1, k2m2, k2m3, k2m4, k2m5, k2m6, k2m7, k2m8, k2m9, k2m10, k2m11, k2m12, k2m13, k2m14, k2m15, k2m16, k2m17, k2m18, k2m19, k2m20, k2m21, k2m22, k2m23, k2m24, k2m25, k2m26, k2m27, k2m28, k2m29, k2m30, k2m31, k2m32, k2m33]
  instanceTypes := #[.int, .int, .int, .boolean, (.array .int), (.array .int), (.array .int), (.array .int), (.array .int), (.array .int), (.array .int), (.array .int), (.array .int), (.array .int), (.array .int), (.array .int), .int, .int, .int, (.array .int), (.array .int), .int, (.array .int), (.array .int), (.array .int), (.array .int), (.array .int), (.array .int), (.array .int), (.array .int), (.array .int), (.array .int), (.array .int), (.array .int), (.array .int), (.array .int)]
  staticTypes := #[.int, .int, .int, .int, .int, .int, .int, .int, .int, .int, .int, .int, .int, .int, .int, .int, .int, .int, .int, .int, .int, .int, .int, .int, .int, .int, .int, .int]
  resolved := Array.replicate 240 none
  statics := none }

def pool3 : Array CpInfo := pool [(1, u "java/lang/Cloneable"), (0, .class_ 1), (0, u "java/lang/Object"), (0, .class_ 3)] 3

/-- java/lang/Cloneable -/
def k3 : Class := { plain "java/lang/Cloneable" (some 0) with
  accessFlags := 1537
  interfaces := #[]
  cf := some (fileOf pool3 2 #[] #[] 1537 4 #[] #[])
  fields := #[]
  methods := #[]
  instanceTypes := #[]
  staticTypes := #[]
  resolved := Array.replicate 8 none
  statics := none }

def pool4 : Array CpInfo := pool [(1, u "java/io/Serializable"), (0, .class_ 1), (0, u "java/lang/Object"), (0, .class_ 3)] 3

/-- java/io/Serializable -/
def k4 : Class := { plain "java/io/Serializable" (some 0) with
  accessFlags := 1537
  interfaces := #[]
  cf := some (fileOf pool4 2 #[] #[] 1537 4 #[] #[])
  fields := #[]
  methods := #[]
  instanceTypes := #[]
  staticTypes := #[]
  resolved := Array.replicate 8 none
  statics := none }

/-- the primitive byte -/
def k5 : Class := { plain "byte" none with kind := .primitive 'B', accessFlags := 0x411 }
/-- [B -/
def k6 : Class := { plain "[B" (some 0) with kind := .array 5 .byte, interfaces := #[3, 4], accessFlags := 1041 }

/-- the primitive int -/
def k7 : Class := { plain "int" none with kind := .primitive 'I', accessFlags := 0x411 }
/-- [I -/
def k8 : Class := { plain "[I" (some 0) with kind := .array 7 .int, interfaces := #[3, 4], accessFlags := 1041 }

def heap : Heap := #[{ cls := 8, slots := #[.int 1, .int 2, .int 3], vm := .none }]
def classes : Array Class := #[k0, k1, k2, k3, k4, k5, k6, k7, k8]
def interned : List (Array UInt16 × Addr) := []
def slotsUsed : Nat := 3
def theMethod : MethodId := ⟨1, 1⟩
def args0 : Array Value := #[.ref 0]
def aboutOver (below : List Frame) : State where
  vm := { classes := classes, interned := interned.toArray }
  heap := heap
  slotsUsed := slotsUsed
  threads := #[{ frames := .invoking theMethod args0 :: below }]
def below0 : List Frame := [.native { method := ⟨0, 0⟩, args := #[] }]
def about1 : State := aboutOver below0
def p0 : Program := .bare "" "" ""
def e0 : Env := launch0.env 0 0 0
theorem w_frames : about1.frames = Frame.invoking theMethod args0 :: below0 := rfl
set_option maxRecDepth 65536 in
theorem w_args : argsFit about1.vm theMethod args0 = true := by decide +kernel
set_option maxRecDepth 65536 in
theorem w_heap : heapFits about1 = true := by decide +kernel
set_option maxRecDepth 65536 in
theorem w_runnable : about1.curStatus? = some .runnable := by decide +kernel
set_option maxRecDepth 65536 in
theorem w_alone : about1.alone = true := by decide +kernel
set_option maxRecDepth 65536 in
theorem w_named : about1.methodNamed? x = some theMethod := by decide +kernel
set_option maxRecDepth 65536 in
theorem w_hears : about1.hears theMethod below0 = true := by decide +kernel
set_option maxRecDepth 65536 in
theorem w_ripe : about1.ripe theMethod args0 below0 = true := by decide +kernel
theorem w_running : about1.status = .running := rfl
set_option maxRecDepth 65536 in
theorem w_room : about1.hasRoom e0.platform room_1 = true :=
  launch0.hasRoom_least _ room_1 (by decide +kernel) (by decide +kernel) (by decide +kernel) (by decide +kernel) (by decide +kernel) (by decide +kernel)
theorem allAtoms_all (ts : List Jvm.Cond) (a : Array Jvm.Value) (st : Jvm.State) : (allAtoms ts).before a st = ts.all (fun c => c.before a st) := by
  induction ts with
  | nil => rfl
  | cons c t ih =>
    show (Jvm.Cond.and c (allAtoms t)).before a st = _
    rw [Jvm.Cond.before_and, ih, List.all_cons]
def words1 : List Jvm.Cond := Jvm.Cond.code x code maxLocals ret :: tables_1
/-- a 'code' word, met by the world's own term for the bytes: nothing is compared byte by byte -/
theorem code_word {y : MethodName} {bytes : ByteArray} {mx : Nat} {rt : Option FieldType} {a : Array Value} {s : State} {m : MethodId} {meth : Method} {c : Code} (h1 : s.methodNamed? y = some m) (h2 : s.vm.method? m = some meth) (h3 : meth.code = some c) (h4 : c.code = bytes)
    (h5 : (c.maxLocals == mx && c.exceptionTable.isEmpty && decide (c.maxStack ≤ mostOperands) && decide (meth.sig.returnType = rt) && !meth.locks && decide (parseMethodDescriptor y.desc = some meth.sig)) = true) : (Jvm.Cond.code y bytes mx rt).before a s = true := by
  simp only [Bool.and_eq_true, beq_iff_eq, Bool.not_eq_true', decide_eq_true_eq] at h5
  obtain ⟨⟨⟨⟨⟨g1, g2⟩, g3⟩, g4⟩, g5⟩, g6⟩ := h5
  simp [Cond.before, Cond.holds, Cond.value, h1, h2, h3, h4, g1, g2, g3, g4, g5, g6]
def isCode : Jvm.Cond → Bool
  | .code _ _ _ _ => true
  | _ => false
theorem all_split {L : List Jvm.Cond} {P : Jvm.Cond → Bool} (h1 : L.all (fun c => isCode c || P c) = true) (h2 : ∀ c ∈ L.filter isCode, P c = true) : L.all P = true := by
  refine List.all_eq_true.mpr fun c hc => ?_
  have h := List.all_eq_true.mp h1 c hc
  rcases Bool.eq_false_or_eq_true (isCode c) with hi | hi
  · exact h2 c (List.mem_filter.mpr ⟨hc, hi⟩)
  · simpa [hi] using h
set_option maxRecDepth 65536 in
theorem w_c0 : (Jvm.Cond.code x code maxLocals ret).before args0 about1 = true := code_word (m := ⟨1, 1⟩) (meth := k1m1) (c := k1c1) (by decide +kernel) rfl rfl rfl (by decide +kernel)
set_option maxRecDepth 65536 in
theorem w_c1 : (Jvm.Cond.code ({ cls := "ChainLayout", name := "<init>", desc := "(II)V" } : Jvm.MethodName) prog_1_method_1_code (5 : Nat) (Option.none : Option Jvm.ClassFile.FieldType)).before args0 about1 = true := code_word (m := ⟨2, 0⟩) (meth := k2m0) (c := k2c0) (by decide +kernel) rfl rfl rfl (by decide +kernel)
set_option maxRecDepth 65536 in
theorem w_c2 : (Jvm.Cond.code ({ cls := "java/lang/Object", name := "<init>", desc := "()V" } : Jvm.MethodName) object_method_1_code (1 : Nat) (Option.none : Option Jvm.ClassFile.FieldType)).before args0 about1 = true := code_word (m := ⟨0, 0⟩) (meth := k0m0) (c := k0c0) (by decide +kernel) rfl rfl rfl (by decide +kernel)
set_option maxRecDepth 65536 in
theorem w_c3 : (Jvm.Cond.code ({ cls := "ChainLayout", name := "blockCount", desc := "()I" } : Jvm.MethodName) prog_1_method_10_code (1 : Nat) (Option.some Jvm.ClassFile.FieldType.int)).before args0 about1 = true := code_word (m := ⟨2, 9⟩) (meth := k2m9) (c := k2c9) (by decide +kernel) rfl rfl rfl (by decide +kernel)
set_option maxRecDepth 65536 in
theorem w_c4 : (Jvm.Cond.code ({ cls := "ChainLayout", name := "setJump", desc := "(II)Z" } : Jvm.MethodName) prog_1_method_3_code (3 : Nat) (Option.some Jvm.ClassFile.FieldType.boolean)).before args0 about1 = true := code_word (m := ⟨2, 2⟩) (meth := k2m2) (c := k2c2) (by decide +kernel) rfl rfl rfl (by decide +kernel)
set_option maxRecDepth 65536 in
theorem w_c5 : (Jvm.Cond.code ({ cls := "ChainLayout", name := "validBlock", desc := "(I)Z" } : Jvm.MethodName) prog_1_method_18_code (2 : Nat) (Option.some Jvm.ClassFile.FieldType.boolean)).before args0 about1 = true := code_word (m := ⟨2, 17⟩) (meth := k2m17) (c := k2c17) (by decide +kernel) rfl rfl rfl (by decide +kernel)
set_option maxRecDepth 65536 in
theorem w_c6 : (Jvm.Cond.code ({ cls := "ChainLayout", name := "addBlock", desc := "(IIII)I" } : Jvm.MethodName) prog_1_method_2_code (6 : Nat) (Option.some Jvm.ClassFile.FieldType.int)).before args0 about1 = true := code_word (m := ⟨2, 1⟩) (meth := k2m1) (c := k2c1) (by decide +kernel) rfl rfl rfl (by decide +kernel)
set_option maxRecDepth 65536 in
theorem w_c7 : (Jvm.Cond.code ({ cls := "ChainLayout", name := "writeTerm", desc := "(IIII)V" } : Jvm.MethodName) prog_1_method_19_code (5 : Nat) (Option.none : Option Jvm.ClassFile.FieldType)).before args0 about1 = true := code_word (m := ⟨2, 18⟩) (meth := k2m18) (c := k2c18) (by decide +kernel) rfl rfl rfl (by decide +kernel)
set_option maxRecDepth 65536 in
theorem w_c8 : (Jvm.Cond.code ({ cls := "ChainLayout", name := "clearCounts", desc := "()V" } : Jvm.MethodName) prog_1_method_20_code (2 : Nat) (Option.none : Option Jvm.ClassFile.FieldType)).before args0 about1 = true := code_word (m := ⟨2, 19⟩) (meth := k2m19) (c := k2c19) (by decide +kernel) rfl rfl rfl (by decide +kernel)
set_option maxRecDepth 65536 in
theorem w_c9 : (Jvm.Cond.code ({ cls := "ChainLayout", name := "run", desc := "(I)I" } : Jvm.MethodName) prog_1_method_6_code (5 : Nat) (Option.some Jvm.ClassFile.FieldType.int)).before args0 about1 = true := code_word (m := ⟨2, 5⟩) (meth := k2m5) (c := k2c5) (by decide +kernel) rfl rfl rfl (by decide +kernel)
set_option maxRecDepth 65536 in
theorem w_c10 : (Jvm.Cond.code ({ cls := "ChainLayout", name := "setBranch", desc := "(IIII)Z" } : Jvm.MethodName) prog_1_method_4_code (5 : Nat) (Option.some Jvm.ClassFile.FieldType.boolean)).before args0 about1 = true := code_word (m := ⟨2, 3⟩) (meth := k2m3) (c := k2c3) (by decide +kernel) rfl rfl rfl (by decide +kernel)
set_option maxRecDepth 65536 in
theorem w_c11 : (Jvm.Cond.code ({ cls := "ChainLayout", name := "reset", desc := "()V" } : Jvm.MethodName) prog_1_method_9_code (2 : Nat) (Option.none : Option Jvm.ClassFile.FieldType)).before args0 about1 = true := code_word (m := ⟨2, 8⟩) (meth := k2m8) (c := k2c8) (by decide +kernel) rfl rfl rfl (by decide +kernel)
set_option maxRecDepth 65536 in
theorem w_c12 : (Jvm.Cond.code ({ cls := "ChainLayout", name := "setHalt", desc := "(I)Z" } : Jvm.MethodName) prog_1_method_5_code (2 : Nat) (Option.some Jvm.ClassFile.FieldType.boolean)).before args0 about1 = true := code_word (m := ⟨2, 4⟩) (meth := k2m4) (c := k2c4) (by decide +kernel) rfl rfl rfl (by decide +kernel)
set_option maxRecDepth 65536 in
theorem w_c13 : (Jvm.Cond.code ({ cls := "ChainLayout", name := "stepBlock", desc := "(I)I" } : Jvm.MethodName) prog_1_method_23_code (3 : Nat) (Option.some Jvm.ClassFile.FieldType.int)).before args0 about1 = true := code_word (m := ⟨2, 22⟩) (meth := k2m22) (c := k2c22) (by decide +kernel) rfl rfl rfl (by decide +kernel)
set_option maxRecDepth 65536 in
theorem w_c14 : (Jvm.Cond.code ({ cls := "ChainLayout", name := "doOp", desc := "(IIII)V" } : Jvm.MethodName) prog_1_method_21_code (5 : Nat) (Option.none : Option Jvm.ClassFile.FieldType)).before args0 about1 = true := code_word (m := ⟨2, 20⟩) (meth := k2m20) (c := k2c20) (by decide +kernel) rfl rfl rfl (by decide +kernel)
set_option maxRecDepth 65536 in
theorem w_c15 : (Jvm.Cond.code ({ cls := "ChainLayoutL7", name := "check", desc := "(LChainLayout;I)Z" } : Jvm.MethodName) method_3_code (12 : Nat) (Option.some Jvm.ClassFile.FieldType.boolean)).before args0 about1 = true := code_word (m := ⟨1, 2⟩) (meth := k1m2) (c := k1c2) (by decide +kernel) rfl rfl rfl (by decide +kernel)
set_option maxRecDepth 65536 in
theorem w_c16 : (Jvm.Cond.code ({ cls := "ChainLayout", name := "isLaidOut", desc := "()Z" } : Jvm.MethodName) prog_1_method_8_code (1 : Nat) (Option.some Jvm.ClassFile.FieldType.boolean)).before args0 about1 = true := code_word (m := ⟨2, 7⟩) (meth := k2m7) (c := k2c7) (by decide +kernel) rfl rfl rfl (by decide +kernel)
set_option maxRecDepth 65536 in
theorem w_c17 : (Jvm.Cond.code ({ cls := "ChainLayoutL7", name := "results", desc := "(LChainLayout;)J" } : Jvm.MethodName) method_4_code (4 : Nat) (Option.some Jvm.ClassFile.FieldType.long)).before args0 about1 = true := code_word (m := ⟨1, 3⟩) (meth := k1m3) (c := k1c3) (by decide +kernel) rfl rfl rfl (by decide +kernel)
set_option maxRecDepth 65536 in
theorem w_c18 : (Jvm.Cond.code ({ cls := "ChainLayout", name := "lastStatus", desc := "()I" } : Jvm.MethodName) prog_1_method_13_code (1 : Nat) (Option.some Jvm.ClassFile.FieldType.int)).before args0 about1 = true := code_word (m := ⟨2, 12⟩) (meth := k2m12) (c := k2c12) (by decide +kernel) rfl rfl rfl (by decide +kernel)
set_option maxRecDepth 65536 in
theorem w_c19 : (Jvm.Cond.code ({ cls := "ChainLayout", name := "lastSteps", desc := "()I" } : Jvm.MethodName) prog_1_method_14_code (1 : Nat) (Option.some Jvm.ClassFile.FieldType.int)).before args0 about1 = true := code_word (m := ⟨2, 13⟩) (meth := k2m13) (c := k2c13) (by decide +kernel) rfl rfl rfl (by decide +kernel)
set_option maxRecDepth 65536 in
theorem w_c20 : (Jvm.Cond.code ({ cls := "ChainLayout", name := "outputCount", desc := "()I" } : Jvm.MethodName) prog_1_method_16_code (1 : Nat) (Option.some Jvm.ClassFile.FieldType.int)).before args0 about1 = true := code_word (m := ⟨2, 15⟩) (meth := k2m15) (c := k2c15) (by decide +kernel) rfl rfl rfl (by decide +kernel)
set_option maxRecDepth 65536 in
theorem w_c21 : (Jvm.Cond.code ({ cls := "ChainLayout", name := "reg", desc := "(I)I" } : Jvm.MethodName) prog_1_method_15_code (2 : Nat) (Option.some Jvm.ClassFile.FieldType.int)).before args0 about1 = true := code_word (m := ⟨2, 14⟩) (meth := k2m14) (c := k2c14) (by decide +kernel) rfl rfl rfl (by decide +kernel)
set_option maxRecDepth 65536 in
theorem w_c22 : (Jvm.Cond.code ({ cls := "ChainLayout", name := "output", desc := "(I)I" } : Jvm.MethodName) prog_1_method_17_code (2 : Nat) (Option.some Jvm.ClassFile.FieldType.int)).before args0 about1 = true := code_word (m := ⟨2, 16⟩) (meth := k2m16) (c := k2c16) (by decide +kernel) rfl rfl rfl (by decide +kernel)
set_option maxRecDepth 65536 in
theorem w_c23 : (Jvm.Cond.code ({ cls := "ChainLayoutL7", name := "edges", desc := "(LChainLayout;)J" } : Jvm.MethodName) method_5_code (5 : Nat) (Option.some Jvm.ClassFile.FieldType.long)).before args0 about1 = true := code_word (m := ⟨1, 4⟩) (meth := k1m4) (c := k1c4) (by decide +kernel) rfl rfl rfl (by decide +kernel)
set_option maxRecDepth 65536 in
theorem w_c24 : (Jvm.Cond.code ({ cls := "ChainLayout", name := "edgeCount", desc := "(II)I" } : Jvm.MethodName) prog_1_method_12_code (3 : Nat) (Option.some Jvm.ClassFile.FieldType.int)).before args0 about1 = true := code_word (m := ⟨2, 11⟩) (meth := k2m11) (c := k2c11) (by decide +kernel) rfl rfl rfl (by decide +kernel)
set_option maxRecDepth 65536 in
theorem w_c25 : (Jvm.Cond.code ({ cls := "ChainLayout", name := "blockInfo", desc := "(II)I" } : Jvm.MethodName) prog_1_method_11_code (3 : Nat) (Option.some Jvm.ClassFile.FieldType.int)).before args0 about1 = true := code_word (m := ⟨2, 10⟩) (meth := k2m10) (c := k2c10) (by decide +kernel) rfl rfl rfl (by decide +kernel)
set_option maxRecDepth 65536 in
theorem w_c26 : (Jvm.Cond.code ({ cls := "ChainLayout", name := "layout", desc := "()Z" } : Jvm.MethodName) prog_1_method_7_code (1 : Nat) (Option.some Jvm.ClassFile.FieldType.boolean)).before args0 about1 = true := code_word (m := ⟨2, 6⟩) (meth := k2m6) (c := k2c6) (by decide +kernel) rfl rfl rfl (by decide +kernel)
set_option maxRecDepth 65536 in
theorem w_c27 : (Jvm.Cond.code ({ cls := "ChainLayout", name := "collectEdges", desc := "()V" } : Jvm.MethodName) prog_1_method_25_code (3 : Nat) (Option.none : Option Jvm.ClassFile.FieldType)).before args0 about1 = true := code_word (m := ⟨2, 24⟩) (meth := k2m24) (c := k2c24) (by decide +kernel) rfl rfl rfl (by decide +kernel)
set_option maxRecDepth 65536 in
theorem w_c28 : (Jvm.Cond.code ({ cls := "ChainLayout", name := "sortEdges", desc := "()V" } : Jvm.MethodName) prog_1_method_27_code (5 : Nat) (Option.none : Option Jvm.ClassFile.FieldType)).before args0 about1 = true := code_word (m := ⟨2, 26⟩) (meth := k2m26) (c := k2c26) (by decide +kernel) rfl rfl rfl (by decide +kernel)
set_option maxRecDepth 65536 in
theorem w_c29 : (Jvm.Cond.code ({ cls := "ChainLayout", name := "buildChains", desc := "()V" } : Jvm.MethodName) prog_1_method_29_code (5 : Nat) (Option.none : Option Jvm.ClassFile.FieldType)).before args0 about1 = true := code_word (m := ⟨2, 28⟩) (meth := k2m28) (c := k2c28) (by decide +kernel) rfl rfl rfl (by decide +kernel)
set_option maxRecDepth 65536 in
theorem w_c30 : (Jvm.Cond.code ({ cls := "ChainLayout", name := "placeChains", desc := "()V" } : Jvm.MethodName) prog_1_method_31_code (5 : Nat) (Option.none : Option Jvm.ClassFile.FieldType)).before args0 about1 = true := code_word (m := ⟨2, 30⟩) (meth := k2m30) (c := k2c30) (by decide +kernel) rfl rfl rfl (by decide +kernel)
set_option maxRecDepth 65536 in
theorem w_c31 : (Jvm.Cond.code ({ cls := "ChainLayout", name := "placeChain", desc := "(II)I" } : Jvm.MethodName) prog_1_method_32_code (6 : Nat) (Option.some Jvm.ClassFile.FieldType.int)).before args0 about1 = true := code_word (m := ⟨2, 31⟩) (meth := k2m31) (c := k2c31) (by decide +kernel) rfl rfl rfl (by decide +kernel)
set_option maxRecDepth 65536 in
theorem w_c32 : (Jvm.Cond.code ({ cls := "ChainLayout", name := "compileCode", desc := "()V" } : Jvm.MethodName) prog_1_method_33_code (3 : Nat) (Option.none : Option Jvm.ClassFile.FieldType)).before args0 about1 = true := code_word (m := ⟨2, 32⟩) (meth := k2m32) (c := k2c32) (by decide +kernel) rfl rfl rfl (by decide +kernel)
set_option maxRecDepth 65536 in
theorem w_c33 : (Jvm.Cond.code ({ cls := "ChainLayout", name := "compileTerm", desc := "(II)V" } : Jvm.MethodName) prog_1_method_34_code (6 : Nat) (Option.none : Option Jvm.ClassFile.FieldType)).before args0 about1 = true := code_word (m := ⟨2, 33⟩) (meth := k2m33) (c := k2c33) (by decide +kernel) rfl rfl rfl (by decide +kernel)
set_option maxRecDepth 65536 in
theorem w_c34 : (Jvm.Cond.code ({ cls := "ChainLayout", name := "stepFlat", desc := "(I)I" } : Jvm.MethodName) prog_1_method_24_code (3 : Nat) (Option.some Jvm.ClassFile.FieldType.int)).before args0 about1 = true := code_word (m := ⟨2, 23⟩) (meth := k2m23) (c := k2c23) (by decide +kernel) rfl rfl rfl (by decide +kernel)
set_option maxRecDepth 65536 in
theorem w_c35 : (Jvm.Cond.code ({ cls := "ChainLayout", name := "holds", desc := "(I)Z" } : Jvm.MethodName) prog_1_method_22_code (4 : Nat) (Option.some Jvm.ClassFile.FieldType.boolean)).before args0 about1 = true := code_word (m := ⟨2, 21⟩) (meth := k2m21) (c := k2c21) (by decide +kernel) rfl rfl rfl (by decide +kernel)
set_option maxRecDepth 65536 in
theorem w_c36 : (Jvm.Cond.code ({ cls := "ChainLayout", name := "addEdge", desc := "(IIII)V" } : Jvm.MethodName) prog_1_method_26_code (5 : Nat) (Option.none : Option Jvm.ClassFile.FieldType)).before args0 about1 = true := code_word (m := ⟨2, 25⟩) (meth := k2m25) (c := k2c25) (by decide +kernel) rfl rfl rfl (by decide +kernel)
set_option maxRecDepth 65536 in
theorem w_c37 : (Jvm.Cond.code ({ cls := "ChainLayout", name := "before", desc := "(IIII)Z" } : Jvm.MethodName) prog_1_method_28_code (5 : Nat) (Option.some Jvm.ClassFile.FieldType.boolean)).before args0 about1 = true := code_word (m := ⟨2, 27⟩) (meth := k2m27) (c := k2c27) (by decide +kernel) rfl rfl rfl (by decide +kernel)
set_option maxRecDepth 65536 in
theorem w_c38 : (Jvm.Cond.code ({ cls := "ChainLayout", name := "tryMerge", desc := "(II)V" } : Jvm.MethodName) prog_1_method_30_code (6 : Nat) (Option.none : Option Jvm.ClassFile.FieldType)).before args0 about1 = true := code_word (m := ⟨2, 29⟩) (meth := k2m29) (c := k2c29) (by decide +kernel) rfl rfl rfl (by decide +kernel)
def codes1 : List Jvm.Cond := [Jvm.Cond.code x code maxLocals ret, Jvm.Cond.code ({ cls := "ChainLayout", name := "<init>", desc := "(II)V" } : Jvm.MethodName) prog_1_method_1_code (5 : Nat) (Option.none : Option Jvm.ClassFile.FieldType), Jvm.Cond.code ({ cls := "java/lang/Object", name := "<init>", desc := "()V" } : Jvm.MethodName) object_method_1_code (1 : Nat) (Option.none : Option Jvm.ClassFile.FieldType), Jvm.Cond.code ({ cls := "ChainLayout", name := "blockCount", desc := "()I" } : Jvm.MethodName) prog_1_method_10_code (1 : Nat) (Option.some Jvm.ClassFile.FieldType.int), Jvm.Cond.code ({ cls := "ChainLayout", name := "setJump", desc := "(II)Z" } : Jvm.MethodName) prog_1_method_3_code (3 : Nat) (Option.some Jvm.ClassFile.FieldType.boolean), Jvm.Cond.code ({ cls := "ChainLayout", name := "validBlock", desc := "(I)Z" } : Jvm.MethodName) prog_1_method_18_code (2 : Nat) (Option.some Jvm.ClassFile.FieldType.boolean), Jvm.Cond.code ({ cls := "ChainLayout", name := "addBlock", desc := "(IIII)I" } : Jvm.MethodName) prog_1_method_2_code (6 : Nat) (Option.some Jvm.ClassFile.FieldType.int), Jvm.Cond.code ({ cls := "ChainLayout", name := "writeTerm", desc := "(IIII)V" } : Jvm.MethodName) prog_1_method_19_code (5 : Nat) (Option.none : Option Jvm.ClassFile.FieldType), Jvm.Cond.code ({ cls := "ChainLayout", name := "clearCounts", desc := "()V" } : Jvm.MethodName) prog_1_method_20_code (2 : Nat) (Option.none : Option Jvm.ClassFile.FieldType), Jvm.Cond.code ({ cls := "ChainLayout", name := "run", desc := "(I)I" } : Jvm.MethodName) prog_1_method_6_code (5 : Nat) (Option.some Jvm.ClassFile.FieldType.int), Jvm.Cond.code ({ cls := "ChainLayout", name := "setBranch", desc := "(IIII)Z" } : Jvm.MethodName) prog_1_method_4_code (5 : Nat) (Option.some Jvm.ClassFile.FieldType.boolean), Jvm.Cond.code ({ cls := "ChainLayout", name := "reset", desc := "()V" } : Jvm.MethodName) prog_1_method_9_code (2 : Nat) (Option.none : Option Jvm.ClassFile.FieldType), Jvm.Cond.code ({ cls := "ChainLayout", name := "setHalt", desc := "(I)Z" } : Jvm.MethodName) prog_1_method_5_code (2 : Nat) (Option.some Jvm.ClassFile.FieldType.boolean), Jvm.Cond.code ({ cls := "ChainLayout", name := "stepBlock", desc := "(I)I" } : Jvm.MethodName) prog_1_method_23_code (3 : Nat) (Option.some Jvm.ClassFile.FieldType.int), Jvm.Cond.code ({ cls := "ChainLayout", name := "doOp", desc := "(IIII)V" } : Jvm.MethodName) prog_1_method_21_code (5 : Nat) (Option.none : Option Jvm.ClassFile.FieldType), Jvm.Cond.code ({ cls := "ChainLayoutL7", name := "check", desc := "(LChainLayout;I)Z" } : Jvm.MethodName) method_3_code (12 : Nat) (Option.some Jvm.ClassFile.FieldType.boolean), Jvm.Cond.code ({ cls := "ChainLayout", name := "isLaidOut", desc := "()Z" } : Jvm.MethodName) prog_1_method_8_code (1 : Nat) (Option.some Jvm.ClassFile.FieldType.boolean), Jvm.Cond.code ({ cls := "ChainLayoutL7", name := "results", desc := "(LChainLayout;)J" } : Jvm.MethodName) method_4_code (4 : Nat) (Option.some Jvm.ClassFile.FieldType.long), Jvm.Cond.code ({ cls := "ChainLayout", name := "lastStatus", desc := "()I" } : Jvm.MethodName) prog_1_method_13_code (1 : Nat) (Option.some Jvm.ClassFile.FieldType.int), Jvm.Cond.code ({ cls := "ChainLayout", name := "lastSteps", desc := "()I" } : Jvm.MethodName) prog_1_method_14_code (1 : Nat) (Option.some Jvm.ClassFile.FieldType.int), Jvm.Cond.code ({ cls := "ChainLayout", name := "outputCount", desc := "()I" } : Jvm.MethodName) prog_1_method_16_code (1 : Nat) (Option.some Jvm.ClassFile.FieldType.int), Jvm.Cond.code ({ cls := "ChainLayout", name := "reg", desc := "(I)I" } : Jvm.MethodName) prog_1_method_15_code (2 : Nat) (Option.some Jvm.ClassFile.FieldType.int), Jvm.Cond.code ({ cls := "ChainLayout", name := "output", desc := "(I)I" } : Jvm.MethodName) prog_1_method_17_code (2 : Nat) (Option.some Jvm.ClassFile.FieldType.int), Jvm.Cond.code ({ cls := "ChainLayoutL7", name := "edges", desc := "(LChainLayout;)J" } : Jvm.MethodName) method_5_code (5 : Nat) (Option.some Jvm.ClassFile.FieldType.long), Jvm.Cond.code ({ cls := "ChainLayout", name := "edgeCount", desc := "(II)I" } : Jvm.MethodName) prog_1_method_12_code (3 : Nat) (Option.some Jvm.ClassFile.FieldType.int), Jvm.Cond.code ({ cls := "ChainLayout", name := "blockInfo", desc := "(II)I" } : Jvm.MethodName) prog_1_method_11_code (3 : Nat) (Option.some Jvm.ClassFile.FieldType.int), Jvm.Cond.code ({ cls := "ChainLayout", name := "layout", desc := "()Z" } : Jvm.MethodName) prog_1_method_7_code (1 : Nat) (Option.some Jvm.ClassFile.FieldType.boolean), Jvm.Cond.code ({ cls := "ChainLayout", name := "collectEdges", desc := "()V" } : Jvm.MethodName) prog_1_method_25_code (3 : Nat) (Option.none : Option Jvm.ClassFile.FieldType), Jvm.Cond.code ({ cls := "ChainLayout", name := "sortEdges", desc := "()V" } : Jvm.MethodName) prog_1_method_27_code (5 : Nat) (Option.none : Option Jvm.ClassFile.FieldType), Jvm.Cond.code ({ cls := "ChainLayout", name := "buildChains", desc := "()V" } : Jvm.MethodName) prog_1_method_29_code (5 : Nat) (Option.none : Option Jvm.ClassFile.FieldType), Jvm.Cond.code ({ cls := "ChainLayout", name := "placeChains", desc := "()V" } : Jvm.MethodName) prog_1_method_31_code (5 : Nat) (Option.none : Option Jvm.ClassFile.FieldType), Jvm.Cond.code ({ cls := "ChainLayout", name := "placeChain", desc := "(II)I" } : Jvm.MethodName) prog_1_method_32_code (6 : Nat) (Option.some Jvm.ClassFile.FieldType.int), Jvm.Cond.code ({ cls := "ChainLayout", name := "compileCode", desc := "()V" } : Jvm.MethodName) prog_1_method_33_code (3 : Nat) (Option.none : Option Jvm.ClassFile.FieldType), Jvm.Cond.code ({ cls := "ChainLayout", name := "compileTerm", desc := "(II)V" } : Jvm.MethodName) prog_1_method_34_code (6 : Nat) (Option.none : Option Jvm.ClassFile.FieldType), Jvm.Cond.code ({ cls := "ChainLayout", name := "stepFlat", desc := "(I)I" } : Jvm.MethodName) prog_1_method_24_code (3 : Nat) (Option.some Jvm.ClassFile.FieldType.int), Jvm.Cond.code ({ cls := "ChainLayout", name := "holds", desc := "(I)Z" } : Jvm.MethodName) prog_1_method_22_code (4 : Nat) (Option.some Jvm.ClassFile.FieldType.boolean), Jvm.Cond.code ({ cls := "ChainLayout", name := "addEdge", desc := "(IIII)V" } : Jvm.MethodName) prog_1_method_26_code (5 : Nat) (Option.none : Option Jvm.ClassFile.FieldType), Jvm.Cond.code ({ cls := "ChainLayout", name := "before", desc := "(IIII)Z" } : Jvm.MethodName) prog_1_method_28_code (5 : Nat) (Option.some Jvm.ClassFile.FieldType.boolean), Jvm.Cond.code ({ cls := "ChainLayout", name := "tryMerge", desc := "(II)V" } : Jvm.MethodName) prog_1_method_30_code (6 : Nat) (Option.none : Option Jvm.ClassFile.FieldType)]
set_option maxRecDepth 65536 in
theorem codes_eq : words1.filter isCode = codes1 := rfl
theorem w_codes : ∀ c ∈ words1.filter isCode, c.before args0 about1 = true := by
  rw [codes_eq]
  intro c hc
  simp only [codes1, List.mem_cons, List.not_mem_nil, or_false] at hc
  rcases hc with rfl | rfl | rfl | rfl | rfl | rfl | rfl | rfl | rfl | rfl | rfl | rfl | rfl | rfl | rfl | rfl | rfl | rfl | rfl | rfl | rfl | rfl | rfl | rfl | rfl | rfl | rfl | rfl | rfl | rfl | rfl | rfl | rfl | rfl | rfl | rfl | rfl | rfl | rfl
  · exact w_c0
  · exact w_c1
  · exact w_c2
  · exact w_c3
  · exact w_c4
  · exact w_c5
  · exact w_c6
  · exact w_c7
  · exact w_c8
  · exact w_c9
  · exact w_c10
  · exact w_c11
  · exact w_c12
  · exact w_c13
  · exact w_c14
  · exact w_c15
  · exact w_c16
  · exact w_c17
  · exact w_c18
  · exact w_c19
  · exact w_c20
  · exact w_c21
  · exact w_c22
  · exact w_c23
  · exact w_c24
  · exact w_c25
  · exact w_c26
  · exact w_c27
  · exact w_c28
  · exact w_c29
  · exact w_c30
  · exact w_c31
  · exact w_c32
  · exact w_c33
  · exact w_c34
  · exact w_c35
  · exact w_c36
  · exact w_c37
  · exact w_c38
set_option maxRecDepth 65536 in
theorem w_t1 : (words1.take 24).all (fun c => isCode c || c.before args0 about1) = true := by decide +kernel
set_option maxRecDepth 65536 in
theorem w_t2 : ((words1.drop 24).take 24).all (fun c => isCode c || c.before args0 about1) = true := by decide +kernel
set_option maxRecDepth 65536 in
theorem w_t3 : (((words1.drop 24).drop 24).take 24).all (fun c => isCode c || c.before args0 about1) = true := by decide +kernel
set_option maxRecDepth 65536 in
theorem w_t4 : ((((words1.drop 24).drop 24).drop 24).take 24).all (fun c => isCode c || c.before args0 about1) = true := by decide +kernel
set_option maxRecDepth 65536 in
theorem w_t5 : (((((words1.drop 24).drop 24).drop 24).drop 24).take 24).all (fun c => isCode c || c.before args0 about1) = true := by decide +kernel
set_option maxRecDepth 65536 in
theorem w_t6 : ((((((words1.drop 24).drop 24).drop 24).drop 24).drop 24).take 24).all (fun c => isCode c || c.before args0 about1) = true := by decide +kernel
set_option maxRecDepth 65536 in
theorem w_t7 : (((((((words1.drop 24).drop 24).drop 24).drop 24).drop 24).drop 24).take 24).all (fun c => isCode c || c.before args0 about1) = true := by decide +kernel
set_option maxRecDepth 65536 in
theorem w_t8 : ((((((((words1.drop 24).drop 24).drop 24).drop 24).drop 24).drop 24).drop 24).take 24).all (fun c => isCode c || c.before args0 about1) = true := by decide +kernel
set_option maxRecDepth 65536 in
theorem w_t9 : (((((((((words1.drop 24).drop 24).drop 24).drop 24).drop 24).drop 24).drop 24).drop 24).take 24).all (fun c => isCode c || c.before args0 about1) = true := by decide +kernel
set_option maxRecDepth 65536 in
theorem w_t10 : ((((((((((words1.drop 24).drop 24).drop 24).drop 24).drop 24).drop 24).drop 24).drop 24).drop 24).take 24).all (fun c => isCode c || c.before args0 about1) = true := by decide +kernel
set_option maxRecDepth 65536 in
theorem w_t11 : ((((((((((words1.drop 24).drop 24).drop 24).drop 24).drop 24).drop 24).drop 24).drop 24).drop 24).drop 24).all (fun c => isCode c || c.before args0 about1) = true := by decide +kernel
theorem w_tables : (allAtoms (Jvm.Cond.code x code maxLocals ret :: tables_1)).before args0 about1 = true := by
  rw [allAtoms_all]
  show words1.all (fun c => c.before args0 about1) = true
  refine all_split ?_ w_codes
  rw [← List.take_append_drop 24 words1, List.all_append, w_t1, ← List.take_append_drop 24 (words1.drop 24), List.all_append, w_t2, ← List.take_append_drop 24 ((words1.drop 24).drop 24), List.all_append, w_t3, ← List.take_append_drop 24 (((words1.drop 24).drop 24).drop 24), List.all_append, w_t4, ← List.take_append_drop 24 ((((words1.drop 24).drop 24).drop 24).drop 24), List.all_append, w_t5, ← List.take_append_drop 24 (((((words1.drop 24).drop 24).drop 24).drop 24).drop 24), List.all_append, w_t6, ← List.take_append_drop 24 ((((((words1.drop 24).drop 24).drop 24).drop 24).drop 24).drop 24), List.all_append, w_t7, ← List.take_append_drop 24 (((((((words1.drop 24).drop 24).drop 24).drop 24).drop 24).drop 24).drop 24), List.all_append, w_t8, ← List.take_append_drop 24 ((((((((words1.drop 24).drop 24).drop 24).drop 24).drop 24).drop 24).drop 24).drop 24), List.all_append, w_t9, ← List.take_append_drop 24 (((((((((words1.drop 24).drop 24).drop 24).drop 24).drop 24).drop 24).drop 24).drop 24).drop 24), List.all_append, w_t10, w_t11]
  rfl
set_option maxRecDepth 65536 in
theorem w_rest : rest_1_c.before args0 about1 = true := by decide +kernel
set_option maxRecDepth 65536 in
theorem w_case : (Jvm.Cond.and given_1 narrow_1).before args0 about1 = true := by decide +kernel
theorem w_applies : (headSpec (Jvm.Cond.code x code maxLocals ret :: tables_1) room_1).applies x e0.platform about1 = true :=
  (Spec.applies_iff w_frames).mpr ⟨w_running, w_runnable, w_alone, w_named, w_hears, w_ripe, w_room, w_tables⟩
theorem atStart : AtStart classFile x code maxLocals ret World_1 tables_1 room_1 Calls_1 rest_1 Pre_1 launch0 p0 e0 about1 theMethod args0 below0 :=
  ⟨lists_1, trivial, launch0.admits_env _ _ _, launch0.least_env, fairChoices_fair.cas, fairChoices_fair.clock, w_frames, w_args, w_heap, w_applies, trivial, w_rest, w_case⟩
end start1
theorem witness_1 : WitnessClaimed_1 := ⟨start1.p0, start1.e0, start1.about1, start1.theMethod, start1.args0, start1.below0, start1.atStart⟩
end Jvm.Pilot.@@N@@
