import JvmDerived
import JvmDerived.Pilot.@@N@@Statement
import JvmDerived.Pilot.@@N@@Code
set_option linter.unusedVariables false
set_option linter.unusedSimpArgs false
namespace Jvm.RoadKit
open Sem ClassFile Op Lib Jvm.Stand Jvm.Free Jvm.LawKit
section New
variable {p : Program} {l : Launch} {e : Env} {R : Room} {s : State} {m : MethodId} {args : Array Value} {below : List Frame} {meth : Method} {c : Code} {T : State} {locs : List Loc} {cells slots : Nat}
theorem retI (X : Stand p l e R s m args below meth c T locs cells slots) (hx : p.tables.exec = Jvm.exec) {pc : Nat} {Ls : Array Slot} {z : Int32} {rest : List Value} (hret : meth.sig.returnType = some .int) (hd : decode c.code pc = .ok (.ireturn, 1)) {fs : List Frame}
    (hl : ∀ (f : JFrame) (acts : List Action), f.method = m → f.locked = none → f.entered = [] → (doReturn e (T.setTop f) acts (some (.int z))).1 = T.setFrames fs) : Steps p.tables e below (T.setTop (mkF m pc Ls (.int z :: rest))) (T.setFrames fs) := by
  have hm' : T.vm.method? m = some meth := X.method'
  have hn : narrow .int (.int z) = .int z := rfl
  show Steps p.tables e below (T.setTop { method := m, pc := pc, locals := Ls, stack := _ :: rest, locked := none }) _
  jvm_step X.here [X.here.top, hx, hd, hm', hret, hn]
  first | (intro acts; rw [hl _ acts rfl rfl rfl]) | rw [hl _ _ rfl rfl rfl]
  exact Steps.refl _
end New
end Jvm.RoadKit
namespace Jvm.Pilot.@@N@@
open Jvm Jvm.ClassFile Sem Op Lib Jvm.Free Jvm.Stand Jvm.LawKit Jvm.RoadKit Bundle Jvm.Pilot.@@N@@.Jvm.D
/-! TABLES of this claim: printed by claim.py -/
def k0 : Nat := 0
def cName : String := "ChainLayout"
def cN : Nat := 36
def nF : Nat := 35
def kName (k : Nat) : String := bif Nat.beq k 0 then "ChainLayoutL1" else "ChainLayout"
def fNm (k : Nat) : String := (bif Nat.ble 17 k then (bif Nat.ble 26 k then (bif Nat.ble 30 k then (bif Nat.ble 32 k then (bif Nat.ble 33 k then (bif Nat.ble 34 k then "status" else "steps") else "outCount") else (bif Nat.ble 31 k then "arranged" else "n")) else (bif Nat.ble 28 k then (bif Nat.ble 29 k then "maxSteps" else "maxBlocks") else (bif Nat.ble 27 k then "cOther" else "cTaken"))) else (bif Nat.ble 21 k then (bif Nat.ble 23 k then (bif Nat.ble 24 k then (bif Nat.ble 25 k then "cTest" else "cKind") else "cImm") else (bif Nat.ble 22 k then "cS" else "cD")) else (bif Nat.ble 19 k then (bif Nat.ble 20 k then "cOp" else "order") else (bif Nat.ble 18 k then "posOf" else "heat")))) else (bif Nat.ble 8 k then (bif Nat.ble 12 k then (bif Nat.ble 14 k then (bif Nat.ble 15 k then (bif Nat.ble 16 k then "chHead" else "chPrev") else "chNext") else (bif Nat.ble 13 k then "edgeW" else "edgeId")) else (bif Nat.ble 10 k then (bif Nat.ble 11 k then "outs" else "regs") else (bif Nat.ble 9 k then "cnt1" else "cnt0"))) else (bif Nat.ble 4 k then (bif Nat.ble 6 k then (bif Nat.ble 7 k then "bT1" else "bT0") else (bif Nat.ble 5 k then "bTest" else "bTerm")) else (bif Nat.ble 2 k then (bif Nat.ble 3 k then "bImm" else "bS") else (bif Nat.ble 1 k then "bD" else "bOp")))))
def fDs (k : Nat) : String := (bif Nat.ble 17 k then (bif Nat.ble 26 k then (bif Nat.ble 30 k then (bif Nat.ble 32 k then (bif Nat.ble 33 k then (bif Nat.ble 34 k then "I" else "I") else "I") else (bif Nat.ble 31 k then "Z" else "I")) else (bif Nat.ble 28 k then (bif Nat.ble 29 k then "I" else "I") else (bif Nat.ble 27 k then "[I" else "[I"))) else (bif Nat.ble 21 k then (bif Nat.ble 23 k then (bif Nat.ble 24 k then (bif Nat.ble 25 k then "[I" else "[I") else "[I") else (bif Nat.ble 22 k then "[I" else "[I")) else (bif Nat.ble 19 k then (bif Nat.ble 20 k then "[I" else "[I") else (bif Nat.ble 18 k then "[I" else "[I")))) else (bif Nat.ble 8 k then (bif Nat.ble 12 k then (bif Nat.ble 14 k then (bif Nat.ble 15 k then (bif Nat.ble 16 k then "[I" else "[I") else "[I") else (bif Nat.ble 13 k then "[I" else "[I")) else (bif Nat.ble 10 k then (bif Nat.ble 11 k then "[I" else "[I") else (bif Nat.ble 9 k then "[I" else "[I"))) else (bif Nat.ble 4 k then (bif Nat.ble 6 k then (bif Nat.ble 7 k then "[I" else "[I") else (bif Nat.ble 5 k then "[I" else "[I")) else (bif Nat.ble 2 k then (bif Nat.ble 3 k then "[I" else "[I") else (bif Nat.ble 1 k then "[I" else "[I")))))
def fTy (k : Nat) : FieldType := (bif Nat.ble 17 k then (bif Nat.ble 26 k then (bif Nat.ble 30 k then (bif Nat.ble 32 k then (bif Nat.ble 33 k then (bif Nat.ble 34 k then .int else .int) else .int) else (bif Nat.ble 31 k then .boolean else .int)) else (bif Nat.ble 28 k then (bif Nat.ble 29 k then .int else .int) else (bif Nat.ble 27 k then (.array .int) else (.array .int)))) else (bif Nat.ble 21 k then (bif Nat.ble 23 k then (bif Nat.ble 24 k then (bif Nat.ble 25 k then (.array .int) else (.array .int)) else (.array .int)) else (bif Nat.ble 22 k then (.array .int) else (.array .int))) else (bif Nat.ble 19 k then (bif Nat.ble 20 k then (.array .int) else (.array .int)) else (bif Nat.ble 18 k then (.array .int) else (.array .int))))) else (bif Nat.ble 8 k then (bif Nat.ble 12 k then (bif Nat.ble 14 k then (bif Nat.ble 15 k then (bif Nat.ble 16 k then (.array .int) else (.array .int)) else (.array .int)) else (bif Nat.ble 13 k then (.array .int) else (.array .int))) else (bif Nat.ble 10 k then (bif Nat.ble 11 k then (.array .int) else (.array .int)) else (bif Nat.ble 9 k then (.array .int) else (.array .int)))) else (bif Nat.ble 4 k then (bif Nat.ble 6 k then (bif Nat.ble 7 k then (.array .int) else (.array .int)) else (bif Nat.ble 5 k then (.array .int) else (.array .int))) else (bif Nat.ble 2 k then (bif Nat.ble 3 k then (.array .int) else (.array .int)) else (bif Nat.ble 1 k then (.array .int) else (.array .int))))))
def fFin (k : Nat) : Bool := (bif Nat.ble 17 k then (bif Nat.ble 26 k then (bif Nat.ble 30 k then (bif Nat.ble 32 k then (bif Nat.ble 33 k then (bif Nat.ble 34 k then false else false) else false) else (bif Nat.ble 31 k then false else false)) else (bif Nat.ble 28 k then (bif Nat.ble 29 k then false else false) else (bif Nat.ble 27 k then false else false))) else (bif Nat.ble 21 k then (bif Nat.ble 23 k then (bif Nat.ble 24 k then (bif Nat.ble 25 k then false else false) else false) else (bif Nat.ble 22 k then false else false)) else (bif Nat.ble 19 k then (bif Nat.ble 20 k then false else false) else (bif Nat.ble 18 k then false else false)))) else (bif Nat.ble 8 k then (bif Nat.ble 12 k then (bif Nat.ble 14 k then (bif Nat.ble 15 k then (bif Nat.ble 16 k then false else false) else false) else (bif Nat.ble 13 k then false else false)) else (bif Nat.ble 10 k then (bif Nat.ble 11 k then false else false) else (bif Nat.ble 9 k then false else false))) else (bif Nat.ble 4 k then (bif Nat.ble 6 k then (bif Nat.ble 7 k then false else false) else (bif Nat.ble 5 k then false else false)) else (bif Nat.ble 2 k then (bif Nat.ble 3 k then false else false) else (bif Nat.ble 1 k then false else false)))))
def cDef : List Value := [.null, .null, .null, .null, .null, .null, .null, .null, .null, .null, .null, .null, .null, .null, .null, .null, .null, .null, .null, .null, .null, .null, .null, .null, .null, .null, .null, .null, .int 0, .int 0, .int 0, .int 0, .int 0, .int 0, .int 0]
def cK : List Value := []
def pN : Nat := 8
def pTop : Nat := 309
def pK (m : Nat) : Nat := (bif Nat.ble 4 m then (bif Nat.ble 6 m then (bif Nat.ble 7 m then 1 else 1) else (bif Nat.ble 5 m then 1 else 1)) else (bif Nat.ble 2 m then (bif Nat.ble 3 m then 1 else 1) else (bif Nat.ble 1 m then 1 else 0)))
def pNm (m : Nat) : String := (bif Nat.ble 4 m then (bif Nat.ble 6 m then (bif Nat.ble 7 m then "validBlock" else "blockInfo") else (bif Nat.ble 5 m then "blockCount" else "clearCounts")) else (bif Nat.ble 2 m then (bif Nat.ble 3 m then "writeTerm" else "addBlock") else (bif Nat.ble 1 m then "<init>" else "law")))
def pDs (m : Nat) : String := (bif Nat.ble 4 m then (bif Nat.ble 6 m then (bif Nat.ble 7 m then "(I)Z" else "(II)I") else (bif Nat.ble 5 m then "()I" else "()V")) else (bif Nat.ble 2 m then (bif Nat.ble 3 m then "(IIII)V" else "(IIII)I") else (bif Nat.ble 1 m then "(II)V" else "(IIIIII)Z")))
def pName (m : Nat) : MethodName := ⟨kName (pK m), pNm m, pDs m⟩
def pBytes (m : Nat) : ByteArray := (bif Nat.ble 4 m then (bif Nat.ble 6 m then (bif Nat.ble 7 m then prog_1_method_18_code else prog_1_method_11_code) else (bif Nat.ble 5 m then prog_1_method_10_code else prog_1_method_20_code)) else (bif Nat.ble 2 m then (bif Nat.ble 3 m then prog_1_method_19_code else prog_1_method_2_code) else (bif Nat.ble 1 m then prog_1_method_1_code else code)))
def pMaxL (m : Nat) : Nat := (bif Nat.ble 4 m then (bif Nat.ble 6 m then (bif Nat.ble 7 m then 2 else 3) else (bif Nat.ble 5 m then 1 else 2)) else (bif Nat.ble 2 m then (bif Nat.ble 3 m then 5 else 6) else (bif Nat.ble 1 m then 5 else 9)))
def pRet (m : Nat) : Option FieldType := (bif Nat.ble 4 m then (bif Nat.ble 6 m then (bif Nat.ble 7 m then (some .boolean) else (some .int)) else (bif Nat.ble 5 m then (some .int) else none)) else (bif Nat.ble 2 m then (bif Nat.ble 3 m then none else (some .int)) else (bif Nat.ble 1 m then none else (some .boolean))))
def pNA (m : Nat) : Nat := (bif Nat.ble 4 m then (bif Nat.ble 6 m then (bif Nat.ble 7 m then 1 else 2) else (bif Nat.ble 5 m then 0 else 0)) else (bif Nat.ble 2 m then (bif Nat.ble 3 m then 4 else 4) else (bif Nat.ble 1 m then 2 else 6)))
def pFr (m : Nat) : Nat := (bif Nat.ble 4 m then (bif Nat.ble 6 m then (bif Nat.ble 7 m then 0 else 1) else (bif Nat.ble 5 m then 0 else 0)) else (bif Nat.ble 2 m then (bif Nat.ble 3 m then 0 else 1) else (bif Nat.ble 1 m then 1 else 2)))
def pLo (m : Nat) : Nat := (bif Nat.ble 4 m then (bif Nat.ble 6 m then (bif Nat.ble 7 m then 0 else 13) else (bif Nat.ble 5 m then 0 else 0)) else (bif Nat.ble 2 m then (bif Nat.ble 3 m then 0 else 16) else (bif Nat.ble 1 m then 12 else 33)))
def cd0 (pc : Nat) : Option (Instr × Nat) := (bif Nat.ble 97 pc then (bif Nat.ble 142 pc then (bif Nat.ble 167 pc then (bif Nat.ble 179 pc then (bif Nat.ble 186 pc then (bif Nat.ble 190 pc then (bif Nat.ble 191 pc then (bif Nat.beq pc 191 then some (.ireturn, 0) else none) else (bif Nat.beq pc 190 then some (.iconst 0, 0) else none)) else (bif Nat.ble 187 pc then (bif Nat.beq pc 187 then some (.goto 4, 191) else none) else (bif Nat.beq pc 186 then some (.iconst 1, 0) else none))) else (bif Nat.ble 182 pc then (bif Nat.ble 183 pc then (bif Nat.beq pc 183 then some (.if_icmp .ne 7, 190) else none) else (bif Nat.beq pc 182 then some (.iconst 0, 0) else none)) else (bif Nat.beq pc 179 then some (.goto 4, 183) else none))) else (bif Nat.ble 172 pc then (bif Nat.ble 174 pc then (bif Nat.ble 177 pc then (bif Nat.beq pc 177 then some (.iload 5, 0) else none) else (bif Nat.beq pc 174 then some (.ifCond .eq 8, 182) else none)) else (bif Nat.beq pc 172 then some (.iload 7, 0) else none)) else (bif Nat.ble 168 pc then (bif Nat.ble 169 pc then (bif Nat.beq pc 169 then some (.invokevirtual 20, 6) else none) else (bif Nat.beq pc 168 then some (.iconst 3, 0) else none)) else (bif Nat.beq pc 167 then some (.iconst 0, 0) else none)))) else (bif Nat.ble 154 pc then (bif Nat.ble 160 pc then (bif Nat.ble 164 pc then (bif Nat.ble 165 pc then (bif Nat.beq pc 165 then some (.aload 6, 0) else none) else (bif Nat.beq pc 164 then some (.ireturn, 0) else none)) else (bif Nat.ble 163 pc then (bif Nat.beq pc 163 then some (.iconst 0, 0) else none) else (bif Nat.beq pc 160 then some (.if_icmp .eq 5, 165) else none))) else (bif Nat.ble 156 pc then (bif Nat.ble 159 pc then (bif Nat.beq pc 159 then some (.iconst 0, 0) else none) else (bif Nat.beq pc 156 then some (.goto 4, 160) else none)) else (bif Nat.beq pc 154 then some (.iload 4, 0) else none))) else (bif Nat.ble 146 pc then (bif Nat.ble 149 pc then (bif Nat.ble 151 pc then (bif Nat.beq pc 151 then some (.ifCond .eq 8, 159) else none) else (bif Nat.beq pc 149 then some (.iload 7, 0) else none)) else (bif Nat.beq pc 146 then some (.invokevirtual 20, 6) else none)) else (bif Nat.ble 144 pc then (bif Nat.ble 145 pc then (bif Nat.beq pc 145 then some (.iconst 2, 0) else none) else (bif Nat.beq pc 144 then some (.iconst 0, 0) else none)) else (bif Nat.beq pc 142 then some (.aload 6, 0) else none))))) else (bif Nat.ble 119 pc then (bif Nat.ble 129 pc then (bif Nat.ble 136 pc then (bif Nat.ble 140 pc then (bif Nat.ble 141 pc then (bif Nat.beq pc 141 then some (.ireturn, 0) else none) else (bif Nat.beq pc 140 then some (.iconst 0, 0) else none)) else (bif Nat.ble 137 pc then (bif Nat.beq pc 137 then some (.if_icmp .eq 5, 142) else none) else (bif Nat.beq pc 136 then some (.iconst 0, 0) else none))) else (bif Nat.ble 132 pc then (bif Nat.ble 133 pc then (bif Nat.beq pc 133 then some (.goto 4, 137) else none) else (bif Nat.beq pc 132 then some (.iload_n 3, 0) else none)) else (bif Nat.beq pc 129 then some (.ifCond .eq 7, 136) else none))) else (bif Nat.ble 123 pc then (bif Nat.ble 124 pc then (bif Nat.ble 127 pc then (bif Nat.beq pc 127 then some (.iload 7, 0) else none) else (bif Nat.beq pc 124 then some (.invokevirtual 20, 6) else none)) else (bif Nat.beq pc 123 then some (.iconst 1, 0) else none)) else (bif Nat.ble 120 pc then (bif Nat.ble 122 pc then (bif Nat.beq pc 122 then some (.iconst 0, 0) else none) else (bif Nat.beq pc 120 then some (.aload 6, 0) else none)) else (bif Nat.beq pc 119 then some (.ireturn, 0) else none)))) else (bif Nat.ble 107 pc then (bif Nat.ble 114 pc then (bif Nat.ble 115 pc then (bif Nat.ble 118 pc then (bif Nat.beq pc 118 then some (.iconst 0, 0) else none) else (bif Nat.beq pc 115 then some (.if_icmp .eq 5, 120) else none)) else (bif Nat.beq pc 114 then some (.iconst 0, 0) else none)) else (bif Nat.ble 110 pc then (bif Nat.ble 111 pc then (bif Nat.beq pc 111 then some (.goto 4, 115) else none) else (bif Nat.beq pc 110 then some (.iload_n 2, 0) else none)) else (bif Nat.beq pc 107 then some (.ifCond .eq 7, 114) else none))) else (bif Nat.ble 101 pc then (bif Nat.ble 102 pc then (bif Nat.ble 105 pc then (bif Nat.beq pc 105 then some (.iload 7, 0) else none) else (bif Nat.beq pc 102 then some (.invokevirtual 20, 6) else none)) else (bif Nat.beq pc 101 then some (.iconst 0, 0) else none)) else (bif Nat.ble 98 pc then (bif Nat.ble 100 pc then (bif Nat.beq pc 100 then some (.iconst 0, 0) else none) else (bif Nat.beq pc 98 then some (.aload 6, 0) else none)) else (bif Nat.beq pc 97 then some (.ireturn, 0) else none)))))) else (bif Nat.ble 48 pc then (bif Nat.ble 72 pc then (bif Nat.ble 83 pc then (bif Nat.ble 89 pc then (bif Nat.ble 93 pc then (bif Nat.ble 96 pc then (bif Nat.beq pc 96 then some (.iconst 0, 0) else none) else (bif Nat.beq pc 93 then some (.if_icmp .eq 5, 98) else none)) else (bif Nat.ble 92 pc then (bif Nat.beq pc 92 then some (.iconst 0, 0) else none) else (bif Nat.beq pc 89 then some (.goto 4, 93) else none))) else (bif Nat.ble 85 pc then (bif Nat.ble 88 pc then (bif Nat.beq pc 88 then some (.iconst 1, 0) else none) else (bif Nat.beq pc 85 then some (.ifCond .eq 7, 92) else none)) else (bif Nat.beq pc 83 then some (.iload 7, 0) else none))) else (bif Nat.ble 77 pc then (bif Nat.ble 78 pc then (bif Nat.ble 80 pc then (bif Nat.beq pc 80 then some (.invokevirtual 16, 5) else none) else (bif Nat.beq pc 78 then some (.aload 6, 0) else none)) else (bif Nat.beq pc 77 then some (.ireturn, 0) else none)) else (bif Nat.ble 73 pc then (bif Nat.ble 76 pc then (bif Nat.beq pc 76 then some (.iconst 0, 0) else none) else (bif Nat.beq pc 73 then some (.if_icmp .eq 5, 78) else none)) else (bif Nat.beq pc 72 then some (.iconst (-1), 0) else none)))) else (bif Nat.ble 59 pc then (bif Nat.ble 65 pc then (bif Nat.ble 68 pc then (bif Nat.ble 69 pc then (bif Nat.beq pc 69 then some (.goto 4, 73) else none) else (bif Nat.beq pc 68 then some (.iconst 0, 0) else none)) else (bif Nat.beq pc 65 then some (.ifCond .eq 7, 72) else none)) else (bif Nat.ble 61 pc then (bif Nat.ble 63 pc then (bif Nat.beq pc 63 then some (.iload 7, 0) else none) else (bif Nat.beq pc 61 then some (.iload 8, 0) else none)) else (bif Nat.beq pc 59 then some (.istore 8, 0) else none))) else (bif Nat.ble 52 pc then (bif Nat.ble 54 pc then (bif Nat.ble 56 pc then (bif Nat.beq pc 56 then some (.invokevirtual 12, 2) else none) else (bif Nat.beq pc 54 then some (.iload 5, 0) else none)) else (bif Nat.beq pc 52 then some (.iload 4, 0) else none)) else (bif Nat.ble 50 pc then (bif Nat.ble 51 pc then (bif Nat.beq pc 51 then some (.iload_n 3, 0) else none) else (bif Nat.beq pc 50 then some (.iload_n 2, 0) else none)) else (bif Nat.beq pc 48 then some (.aload 6, 0) else none))))) else (bif Nat.ble 22 pc then (bif Nat.ble 35 pc then (bif Nat.ble 41 pc then (bif Nat.ble 45 pc then (bif Nat.ble 46 pc then (bif Nat.beq pc 46 then some (.istore 7, 0) else none) else (bif Nat.beq pc 45 then some (.iconst 0, 0) else none)) else (bif Nat.ble 42 pc then (bif Nat.beq pc 42 then some (.goto 4, 46) else none) else (bif Nat.beq pc 41 then some (.iconst 1, 0) else none))) else (bif Nat.ble 37 pc then (bif Nat.ble 38 pc then (bif Nat.beq pc 38 then some (.if_icmp .gt 7, 45) else none) else (bif Nat.beq pc 37 then some (.iconst 3, 0) else none)) else (bif Nat.beq pc 35 then some (.iload 4, 0) else none))) else (bif Nat.ble 27 pc then (bif Nat.ble 30 pc then (bif Nat.ble 32 pc then (bif Nat.beq pc 32 then some (.ifCond .lt 13, 45) else none) else (bif Nat.beq pc 30 then some (.iload 4, 0) else none)) else (bif Nat.beq pc 27 then some (.if_icmp .gt 18, 45) else none)) else (bif Nat.ble 25 pc then (bif Nat.ble 26 pc then (bif Nat.beq pc 26 then some (.iconst 3, 0) else none) else (bif Nat.beq pc 25 then some (.iload_n 3, 0) else none)) else (bif Nat.beq pc 22 then some (.ifCond .lt 23, 45) else none)))) else (bif Nat.ble 11 pc then (bif Nat.ble 16 pc then (bif Nat.ble 18 pc then (bif Nat.ble 21 pc then (bif Nat.beq pc 21 then some (.iload_n 3, 0) else none) else (bif Nat.beq pc 18 then some (.if_icmp .gt 27, 45) else none)) else (bif Nat.beq pc 16 then some (.bipush 7, 0) else none)) else (bif Nat.ble 12 pc then (bif Nat.ble 15 pc then (bif Nat.beq pc 15 then some (.iload_n 2, 0) else none) else (bif Nat.beq pc 12 then some (.ifCond .lt 33, 45) else none)) else (bif Nat.beq pc 11 then some (.iload_n 2, 0) else none))) else (bif Nat.ble 5 pc then (bif Nat.ble 6 pc then (bif Nat.ble 9 pc then (bif Nat.beq pc 9 then some (.astore 6, 0) else none) else (bif Nat.beq pc 6 then some (.invokespecial 9, 1) else none)) else (bif Nat.beq pc 5 then some (.iload_n 1, 0) else none)) else (bif Nat.ble 3 pc then (bif Nat.ble 4 pc then (bif Nat.beq pc 4 then some (.iload_n 0, 0) else none) else (bif Nat.beq pc 3 then some (.dup, 0) else none)) else (bif Nat.beq pc 0 then some (.new 7, 0) else none)))))))
def cd1 (pc : Nat) : Option (Instr × Nat) := (bif Nat.ble 158 pc then (bif Nat.ble 235 pc then (bif Nat.ble 274 pc then (bif Nat.ble 293 pc then (bif Nat.ble 300 pc then (bif Nat.ble 304 pc then (bif Nat.ble 305 pc then (bif Nat.ble 308 pc then (bif Nat.beq pc 308 then some (.return_, 0) else none) else (bif Nat.beq pc 305 then some (.putfield 114, 34) else none)) else (bif Nat.beq pc 304 then some (.iconst 0, 0) else none)) else (bif Nat.ble 303 pc then (bif Nat.beq pc 303 then some (.aload_n 0, 0) else none) else (bif Nat.beq pc 300 then some (.putfield 111, 33) else none))) else (bif Nat.ble 295 pc then (bif Nat.ble 298 pc then (bif Nat.ble 299 pc then (bif Nat.beq pc 299 then some (.iconst 0, 0) else none) else (bif Nat.beq pc 298 then some (.aload_n 0, 0) else none)) else (bif Nat.beq pc 295 then some (.putfield 108, 32) else none)) else (bif Nat.ble 294 pc then (bif Nat.beq pc 294 then some (.iconst 0, 0) else none) else (bif Nat.beq pc 293 then some (.aload_n 0, 0) else none)))) else (bif Nat.ble 284 pc then (bif Nat.ble 288 pc then (bif Nat.ble 289 pc then (bif Nat.ble 290 pc then (bif Nat.beq pc 290 then some (.putfield 104, 31) else none) else (bif Nat.beq pc 289 then some (.iconst 0, 0) else none)) else (bif Nat.beq pc 288 then some (.aload_n 0, 0) else none)) else (bif Nat.ble 285 pc then (bif Nat.beq pc 285 then some (.putfield 101, 30) else none) else (bif Nat.beq pc 284 then some (.iconst 0, 0) else none))) else (bif Nat.ble 278 pc then (bif Nat.ble 280 pc then (bif Nat.ble 283 pc then (bif Nat.beq pc 283 then some (.aload_n 0, 0) else none) else (bif Nat.beq pc 280 then some (.putfield 98, 29) else none)) else (bif Nat.beq pc 278 then some (.iload 4, 0) else none)) else (bif Nat.ble 277 pc then (bif Nat.beq pc 277 then some (.aload_n 0, 0) else none) else (bif Nat.beq pc 274 then some (.putfield 94, 28) else none))))) else (bif Nat.ble 252 pc then (bif Nat.ble 264 pc then (bif Nat.ble 270 pc then (bif Nat.ble 272 pc then (bif Nat.ble 273 pc then (bif Nat.beq pc 273 then some (.iload_n 3, 0) else none) else (bif Nat.beq pc 272 then some (.aload_n 0, 0) else none)) else (bif Nat.beq pc 270 then some (.istore 4, 0) else none)) else (bif Nat.ble 267 pc then (bif Nat.beq pc 267 then some (.sipush 1024, 0) else none) else (bif Nat.beq pc 264 then some (.if_icmp .le 8, 272) else none))) else (bif Nat.ble 257 pc then (bif Nat.ble 259 pc then (bif Nat.ble 261 pc then (bif Nat.beq pc 261 then some (.sipush 1024, 0) else none) else (bif Nat.beq pc 259 then some (.iload 4, 0) else none)) else (bif Nat.beq pc 257 then some (.istore 4, 0) else none)) else (bif Nat.ble 255 pc then (bif Nat.beq pc 255 then some (.bipush 16, 0) else none) else (bif Nat.beq pc 252 then some (.if_icmp .ge 7, 259) else none)))) else (bif Nat.ble 244 pc then (bif Nat.ble 246 pc then (bif Nat.ble 248 pc then (bif Nat.ble 250 pc then (bif Nat.beq pc 250 then some (.bipush 16, 0) else none) else (bif Nat.beq pc 248 then some (.iload 4, 0) else none)) else (bif Nat.beq pc 246 then some (.istore 4, 0) else none)) else (bif Nat.ble 245 pc then (bif Nat.beq pc 245 then some (.iload_n 2, 0) else none) else (bif Nat.beq pc 244 then some (.istore_n 3, 0) else none))) else (bif Nat.ble 237 pc then (bif Nat.ble 239 pc then (bif Nat.ble 242 pc then (bif Nat.beq pc 242 then some (.bipush 16, 0) else none) else (bif Nat.beq pc 239 then some (.if_icmp .le 6, 245) else none)) else (bif Nat.beq pc 237 then some (.bipush 16, 0) else none)) else (bif Nat.ble 236 pc then (bif Nat.beq pc 236 then some (.iload_n 3, 0) else none) else (bif Nat.beq pc 235 then some (.istore_n 3, 0) else none)))))) else (bif Nat.ble 198 pc then (bif Nat.ble 219 pc then (bif Nat.ble 228 pc then (bif Nat.ble 230 pc then (bif Nat.ble 231 pc then (bif Nat.ble 234 pc then (bif Nat.beq pc 234 then some (.iconst 2, 0) else none) else (bif Nat.beq pc 231 then some (.if_icmp .ge 5, 236) else none)) else (bif Nat.beq pc 230 then some (.iconst 2, 0) else none)) else (bif Nat.ble 229 pc then (bif Nat.beq pc 229 then some (.iload_n 3, 0) else none) else (bif Nat.beq pc 228 then some (.istore_n 3, 0) else none))) else (bif Nat.ble 222 pc then (bif Nat.ble 224 pc then (bif Nat.ble 227 pc then (bif Nat.beq pc 227 then some (.iload_n 1, 0) else none) else (bif Nat.beq pc 224 then some (.putfield 91, 27) else none)) else (bif Nat.beq pc 222 then some (.newarray .int, 0) else none)) else (bif Nat.ble 220 pc then (bif Nat.beq pc 220 then some (.bipush 16, 0) else none) else (bif Nat.beq pc 219 then some (.aload_n 0, 0) else none)))) else (bif Nat.ble 208 pc then (bif Nat.ble 212 pc then (bif Nat.ble 214 pc then (bif Nat.ble 216 pc then (bif Nat.beq pc 216 then some (.putfield 88, 26) else none) else (bif Nat.beq pc 214 then some (.newarray .int, 0) else none)) else (bif Nat.beq pc 212 then some (.bipush 16, 0) else none)) else (bif Nat.ble 211 pc then (bif Nat.beq pc 211 then some (.aload_n 0, 0) else none) else (bif Nat.beq pc 208 then some (.putfield 85, 25) else none))) else (bif Nat.ble 203 pc then (bif Nat.ble 204 pc then (bif Nat.ble 206 pc then (bif Nat.beq pc 206 then some (.newarray .int, 0) else none) else (bif Nat.beq pc 204 then some (.bipush 16, 0) else none)) else (bif Nat.beq pc 203 then some (.aload_n 0, 0) else none)) else (bif Nat.ble 200 pc then (bif Nat.beq pc 200 then some (.putfield 82, 24) else none) else (bif Nat.beq pc 198 then some (.newarray .int, 0) else none))))) else (bif Nat.ble 179 pc then (bif Nat.ble 188 pc then (bif Nat.ble 192 pc then (bif Nat.ble 195 pc then (bif Nat.ble 196 pc then (bif Nat.beq pc 196 then some (.bipush 16, 0) else none) else (bif Nat.beq pc 195 then some (.aload_n 0, 0) else none)) else (bif Nat.beq pc 192 then some (.putfield 79, 23) else none)) else (bif Nat.ble 190 pc then (bif Nat.beq pc 190 then some (.newarray .int, 0) else none) else (bif Nat.beq pc 188 then some (.bipush 16, 0) else none))) else (bif Nat.ble 182 pc then (bif Nat.ble 184 pc then (bif Nat.ble 187 pc then (bif Nat.beq pc 187 then some (.aload_n 0, 0) else none) else (bif Nat.beq pc 184 then some (.putfield 76, 22) else none)) else (bif Nat.beq pc 182 then some (.newarray .int, 0) else none)) else (bif Nat.ble 180 pc then (bif Nat.beq pc 180 then some (.bipush 16, 0) else none) else (bif Nat.beq pc 179 then some (.aload_n 0, 0) else none)))) else (bif Nat.ble 168 pc then (bif Nat.ble 172 pc then (bif Nat.ble 174 pc then (bif Nat.ble 176 pc then (bif Nat.beq pc 176 then some (.putfield 73, 21) else none) else (bif Nat.beq pc 174 then some (.newarray .int, 0) else none)) else (bif Nat.beq pc 172 then some (.bipush 16, 0) else none)) else (bif Nat.ble 171 pc then (bif Nat.beq pc 171 then some (.aload_n 0, 0) else none) else (bif Nat.beq pc 168 then some (.putfield 70, 20) else none))) else (bif Nat.ble 163 pc then (bif Nat.ble 164 pc then (bif Nat.ble 166 pc then (bif Nat.beq pc 166 then some (.newarray .int, 0) else none) else (bif Nat.beq pc 164 then some (.bipush 16, 0) else none)) else (bif Nat.beq pc 163 then some (.aload_n 0, 0) else none)) else (bif Nat.ble 160 pc then (bif Nat.beq pc 160 then some (.putfield 67, 19) else none) else (bif Nat.beq pc 158 then some (.newarray .int, 0) else none))))))) else (bif Nat.ble 79 pc then (bif Nat.ble 118 pc then (bif Nat.ble 139 pc then (bif Nat.ble 148 pc then (bif Nat.ble 152 pc then (bif Nat.ble 155 pc then (bif Nat.ble 156 pc then (bif Nat.beq pc 156 then some (.bipush 16, 0) else none) else (bif Nat.beq pc 155 then some (.aload_n 0, 0) else none)) else (bif Nat.beq pc 152 then some (.putfield 64, 18) else none)) else (bif Nat.ble 150 pc then (bif Nat.beq pc 150 then some (.newarray .int, 0) else none) else (bif Nat.beq pc 148 then some (.bipush 16, 0) else none))) else (bif Nat.ble 142 pc then (bif Nat.ble 144 pc then (bif Nat.ble 147 pc then (bif Nat.beq pc 147 then some (.aload_n 0, 0) else none) else (bif Nat.beq pc 144 then some (.putfield 61, 17) else none)) else (bif Nat.beq pc 142 then some (.newarray .int, 0) else none)) else (bif Nat.ble 140 pc then (bif Nat.beq pc 140 then some (.bipush 16, 0) else none) else (bif Nat.beq pc 139 then some (.aload_n 0, 0) else none)))) else (bif Nat.ble 128 pc then (bif Nat.ble 132 pc then (bif Nat.ble 134 pc then (bif Nat.ble 136 pc then (bif Nat.beq pc 136 then some (.putfield 58, 16) else none) else (bif Nat.beq pc 134 then some (.newarray .int, 0) else none)) else (bif Nat.beq pc 132 then some (.bipush 16, 0) else none)) else (bif Nat.ble 131 pc then (bif Nat.beq pc 131 then some (.aload_n 0, 0) else none) else (bif Nat.beq pc 128 then some (.putfield 55, 15) else none))) else (bif Nat.ble 123 pc then (bif Nat.ble 124 pc then (bif Nat.ble 126 pc then (bif Nat.beq pc 126 then some (.newarray .int, 0) else none) else (bif Nat.beq pc 124 then some (.bipush 16, 0) else none)) else (bif Nat.beq pc 123 then some (.aload_n 0, 0) else none)) else (bif Nat.ble 120 pc then (bif Nat.beq pc 120 then some (.putfield 52, 14) else none) else (bif Nat.beq pc 118 then some (.newarray .int, 0) else none))))) else (bif Nat.ble 99 pc then (bif Nat.ble 108 pc then (bif Nat.ble 112 pc then (bif Nat.ble 115 pc then (bif Nat.ble 116 pc then (bif Nat.beq pc 116 then some (.bipush 16, 0) else none) else (bif Nat.beq pc 115 then some (.aload_n 0, 0) else none)) else (bif Nat.beq pc 112 then some (.putfield 49, 13) else none)) else (bif Nat.ble 110 pc then (bif Nat.beq pc 110 then some (.newarray .int, 0) else none) else (bif Nat.beq pc 108 then some (.bipush 32, 0) else none))) else (bif Nat.ble 102 pc then (bif Nat.ble 104 pc then (bif Nat.ble 107 pc then (bif Nat.beq pc 107 then some (.aload_n 0, 0) else none) else (bif Nat.beq pc 104 then some (.putfield 46, 12) else none)) else (bif Nat.beq pc 102 then some (.newarray .int, 0) else none)) else (bif Nat.ble 100 pc then (bif Nat.beq pc 100 then some (.bipush 32, 0) else none) else (bif Nat.beq pc 99 then some (.aload_n 0, 0) else none)))) else (bif Nat.ble 88 pc then (bif Nat.ble 92 pc then (bif Nat.ble 94 pc then (bif Nat.ble 96 pc then (bif Nat.beq pc 96 then some (.putfield 43, 11) else none) else (bif Nat.beq pc 94 then some (.newarray .int, 0) else none)) else (bif Nat.beq pc 92 then some (.bipush 16, 0) else none)) else (bif Nat.ble 91 pc then (bif Nat.beq pc 91 then some (.aload_n 0, 0) else none) else (bif Nat.beq pc 88 then some (.putfield 40, 10) else none))) else (bif Nat.ble 84 pc then (bif Nat.ble 85 pc then (bif Nat.ble 86 pc then (bif Nat.beq pc 86 then some (.newarray .int, 0) else none) else (bif Nat.beq pc 85 then some (.iconst 4, 0) else none)) else (bif Nat.beq pc 84 then some (.aload_n 0, 0) else none)) else (bif Nat.ble 81 pc then (bif Nat.beq pc 81 then some (.putfield 37, 9) else none) else (bif Nat.beq pc 79 then some (.newarray .int, 0) else none)))))) else (bif Nat.ble 39 pc then (bif Nat.ble 60 pc then (bif Nat.ble 69 pc then (bif Nat.ble 73 pc then (bif Nat.ble 76 pc then (bif Nat.ble 77 pc then (bif Nat.beq pc 77 then some (.bipush 16, 0) else none) else (bif Nat.beq pc 76 then some (.aload_n 0, 0) else none)) else (bif Nat.beq pc 73 then some (.putfield 34, 8) else none)) else (bif Nat.ble 71 pc then (bif Nat.beq pc 71 then some (.newarray .int, 0) else none) else (bif Nat.beq pc 69 then some (.bipush 16, 0) else none))) else (bif Nat.ble 63 pc then (bif Nat.ble 65 pc then (bif Nat.ble 68 pc then (bif Nat.beq pc 68 then some (.aload_n 0, 0) else none) else (bif Nat.beq pc 65 then some (.putfield 31, 7) else none)) else (bif Nat.beq pc 63 then some (.newarray .int, 0) else none)) else (bif Nat.ble 61 pc then (bif Nat.beq pc 61 then some (.bipush 16, 0) else none) else (bif Nat.beq pc 60 then some (.aload_n 0, 0) else none)))) else (bif Nat.ble 49 pc then (bif Nat.ble 53 pc then (bif Nat.ble 55 pc then (bif Nat.ble 57 pc then (bif Nat.beq pc 57 then some (.putfield 28, 6) else none) else (bif Nat.beq pc 55 then some (.newarray .int, 0) else none)) else (bif Nat.beq pc 53 then some (.bipush 16, 0) else none)) else (bif Nat.ble 52 pc then (bif Nat.beq pc 52 then some (.aload_n 0, 0) else none) else (bif Nat.beq pc 49 then some (.putfield 25, 5) else none))) else (bif Nat.ble 44 pc then (bif Nat.ble 45 pc then (bif Nat.ble 47 pc then (bif Nat.beq pc 47 then some (.newarray .int, 0) else none) else (bif Nat.beq pc 45 then some (.bipush 16, 0) else none)) else (bif Nat.beq pc 44 then some (.aload_n 0, 0) else none)) else (bif Nat.ble 41 pc then (bif Nat.beq pc 41 then some (.putfield 22, 4) else none) else (bif Nat.beq pc 39 then some (.newarray .int, 0) else none))))) else (bif Nat.ble 20 pc then (bif Nat.ble 29 pc then (bif Nat.ble 33 pc then (bif Nat.ble 36 pc then (bif Nat.ble 37 pc then (bif Nat.beq pc 37 then some (.bipush 16, 0) else none) else (bif Nat.beq pc 36 then some (.aload_n 0, 0) else none)) else (bif Nat.beq pc 33 then some (.putfield 19, 3) else none)) else (bif Nat.ble 31 pc then (bif Nat.beq pc 31 then some (.newarray .int, 0) else none) else (bif Nat.beq pc 29 then some (.bipush 16, 0) else none))) else (bif Nat.ble 23 pc then (bif Nat.ble 25 pc then (bif Nat.ble 28 pc then (bif Nat.beq pc 28 then some (.aload_n 0, 0) else none) else (bif Nat.beq pc 25 then some (.putfield 16, 2) else none)) else (bif Nat.beq pc 23 then some (.newarray .int, 0) else none)) else (bif Nat.ble 21 pc then (bif Nat.beq pc 21 then some (.bipush 16, 0) else none) else (bif Nat.beq pc 20 then some (.aload_n 0, 0) else none)))) else (bif Nat.ble 9 pc then (bif Nat.ble 13 pc then (bif Nat.ble 15 pc then (bif Nat.ble 17 pc then (bif Nat.beq pc 17 then some (.putfield 13, 1) else none) else (bif Nat.beq pc 15 then some (.newarray .int, 0) else none)) else (bif Nat.beq pc 13 then some (.bipush 16, 0) else none)) else (bif Nat.ble 12 pc then (bif Nat.beq pc 12 then some (.aload_n 0, 0) else none) else (bif Nat.beq pc 9 then some (.putfield 7, 0) else none))) else (bif Nat.ble 4 pc then (bif Nat.ble 5 pc then (bif Nat.ble 7 pc then (bif Nat.beq pc 7 then some (.newarray .int, 0) else none) else (bif Nat.beq pc 5 then some (.bipush 16, 0) else none)) else (bif Nat.beq pc 4 then some (.aload_n 0, 0) else none)) else (bif Nat.ble 1 pc then (bif Nat.beq pc 1 then some (.invokespecial 1, 0) else none) else (bif Nat.beq pc 0 then some (.aload_n 0, 0) else none))))))))
def cd2 (pc : Nat) : Option (Instr × Nat) := (bif Nat.ble 71 pc then (bif Nat.ble 99 pc then (bif Nat.ble 114 pc then (bif Nat.ble 120 pc then (bif Nat.ble 124 pc then (bif Nat.ble 127 pc then (bif Nat.ble 129 pc then (bif Nat.beq pc 129 then some (.ireturn, 0) else none) else (bif Nat.beq pc 127 then some (.iload 5, 0) else none)) else (bif Nat.beq pc 124 then some (.invokevirtual 121, 4) else none)) else (bif Nat.ble 123 pc then (bif Nat.beq pc 123 then some (.aload_n 0, 0) else none) else (bif Nat.beq pc 120 then some (.putfield 101, 30) else none))) else (bif Nat.ble 116 pc then (bif Nat.ble 118 pc then (bif Nat.ble 119 pc then (bif Nat.beq pc 119 then some (.iadd, 0) else none) else (bif Nat.beq pc 118 then some (.iconst 1, 0) else none)) else (bif Nat.beq pc 116 then some (.iload 5, 0) else none)) else (bif Nat.ble 115 pc then (bif Nat.beq pc 115 then some (.aload_n 0, 0) else none) else (bif Nat.beq pc 114 then some (.iastore, 0) else none)))) else (bif Nat.ble 104 pc then (bif Nat.ble 108 pc then (bif Nat.ble 111 pc then (bif Nat.ble 113 pc then (bif Nat.beq pc 113 then some (.iconst 0, 0) else none) else (bif Nat.beq pc 111 then some (.iload 5, 0) else none)) else (bif Nat.beq pc 108 then some (.getfield 31, 7) else none)) else (bif Nat.ble 107 pc then (bif Nat.beq pc 107 then some (.aload_n 0, 0) else none) else (bif Nat.beq pc 104 then some (.invokevirtual 117, 3) else none))) else (bif Nat.ble 102 pc then (bif Nat.ble 103 pc then (bif Nat.beq pc 103 then some (.iconst 0, 0) else none) else (bif Nat.beq pc 102 then some (.iconst 0, 0) else none)) else (bif Nat.ble 101 pc then (bif Nat.beq pc 101 then some (.iconst 0, 0) else none) else (bif Nat.beq pc 99 then some (.iload 5, 0) else none))))) else (bif Nat.ble 85 pc then (bif Nat.ble 90 pc then (bif Nat.ble 95 pc then (bif Nat.ble 97 pc then (bif Nat.ble 98 pc then (bif Nat.beq pc 98 then some (.aload_n 0, 0) else none) else (bif Nat.beq pc 97 then some (.iastore, 0) else none)) else (bif Nat.beq pc 95 then some (.iload 4, 0) else none)) else (bif Nat.ble 93 pc then (bif Nat.beq pc 93 then some (.iload 5, 0) else none) else (bif Nat.beq pc 90 then some (.getfield 19, 3) else none))) else (bif Nat.ble 88 pc then (bif Nat.ble 89 pc then (bif Nat.beq pc 89 then some (.aload_n 0, 0) else none) else (bif Nat.beq pc 88 then some (.iastore, 0) else none)) else (bif Nat.ble 87 pc then (bif Nat.beq pc 87 then some (.iload_n 3, 0) else none) else (bif Nat.beq pc 85 then some (.iload 5, 0) else none)))) else (bif Nat.ble 77 pc then (bif Nat.ble 80 pc then (bif Nat.ble 81 pc then (bif Nat.ble 82 pc then (bif Nat.beq pc 82 then some (.getfield 16, 2) else none) else (bif Nat.beq pc 81 then some (.aload_n 0, 0) else none)) else (bif Nat.beq pc 80 then some (.iastore, 0) else none)) else (bif Nat.ble 79 pc then (bif Nat.beq pc 79 then some (.iload_n 2, 0) else none) else (bif Nat.beq pc 77 then some (.iload 5, 0) else none))) else (bif Nat.ble 73 pc then (bif Nat.ble 74 pc then (bif Nat.beq pc 74 then some (.getfield 13, 1) else none) else (bif Nat.beq pc 73 then some (.aload_n 0, 0) else none)) else (bif Nat.ble 72 pc then (bif Nat.beq pc 72 then some (.iastore, 0) else none) else (bif Nat.beq pc 71 then some (.iload_n 1, 0) else none)))))) else (bif Nat.ble 36 pc then (bif Nat.ble 53 pc then (bif Nat.ble 60 pc then (bif Nat.ble 65 pc then (bif Nat.ble 66 pc then (bif Nat.ble 69 pc then (bif Nat.beq pc 69 then some (.iload 5, 0) else none) else (bif Nat.beq pc 66 then some (.getfield 7, 0) else none)) else (bif Nat.beq pc 65 then some (.aload_n 0, 0) else none)) else (bif Nat.ble 63 pc then (bif Nat.beq pc 63 then some (.istore 5, 0) else none) else (bif Nat.beq pc 60 then some (.getfield 101, 30) else none))) else (bif Nat.ble 57 pc then (bif Nat.ble 58 pc then (bif Nat.ble 59 pc then (bif Nat.beq pc 59 then some (.aload_n 0, 0) else none) else (bif Nat.beq pc 58 then some (.ireturn, 0) else none)) else (bif Nat.beq pc 57 then some (.iconst (-1), 0) else none)) else (bif Nat.ble 54 pc then (bif Nat.beq pc 54 then some (.if_icmp .le 5, 59) else none) else (bif Nat.beq pc 53 then some (.iconst 3, 0) else none)))) else (bif Nat.ble 44 pc then (bif Nat.ble 48 pc then (bif Nat.ble 49 pc then (bif Nat.ble 52 pc then (bif Nat.beq pc 52 then some (.iload_n 3, 0) else none) else (bif Nat.beq pc 49 then some (.ifCond .lt 8, 57) else none)) else (bif Nat.beq pc 48 then some (.iload_n 3, 0) else none)) else (bif Nat.ble 45 pc then (bif Nat.beq pc 45 then some (.if_icmp .gt 12, 57) else none) else (bif Nat.beq pc 44 then some (.iconst 3, 0) else none))) else (bif Nat.ble 40 pc then (bif Nat.ble 43 pc then (bif Nat.beq pc 43 then some (.iload_n 2, 0) else none) else (bif Nat.beq pc 40 then some (.ifCond .lt 17, 57) else none)) else (bif Nat.ble 39 pc then (bif Nat.beq pc 39 then some (.iload_n 2, 0) else none) else (bif Nat.beq pc 36 then some (.if_icmp .gt 21, 57) else none))))) else (bif Nat.ble 19 pc then (bif Nat.ble 28 pc then (bif Nat.ble 30 pc then (bif Nat.ble 33 pc then (bif Nat.ble 34 pc then (bif Nat.beq pc 34 then some (.bipush 7, 0) else none) else (bif Nat.beq pc 33 then some (.iload_n 1, 0) else none)) else (bif Nat.beq pc 30 then some (.ifCond .lt 27, 57) else none)) else (bif Nat.ble 29 pc then (bif Nat.beq pc 29 then some (.iload_n 1, 0) else none) else (bif Nat.beq pc 28 then some (.ireturn, 0) else none))) else (bif Nat.ble 24 pc then (bif Nat.ble 27 pc then (bif Nat.beq pc 27 then some (.iconst (-1), 0) else none) else (bif Nat.beq pc 24 then some (.if_icmp .lt 5, 29) else none)) else (bif Nat.ble 22 pc then (bif Nat.beq pc 22 then some (.bipush 16, 0) else none) else (bif Nat.beq pc 19 then some (.getfield 101, 30) else none)))) else (bif Nat.ble 8 pc then (bif Nat.ble 12 pc then (bif Nat.ble 15 pc then (bif Nat.ble 18 pc then (bif Nat.beq pc 18 then some (.aload_n 0, 0) else none) else (bif Nat.beq pc 15 then some (.if_icmp .eq 12, 27) else none)) else (bif Nat.beq pc 12 then some (.getfield 94, 28) else none)) else (bif Nat.ble 11 pc then (bif Nat.beq pc 11 then some (.aload_n 0, 0) else none) else (bif Nat.beq pc 8 then some (.getfield 101, 30) else none))) else (bif Nat.ble 4 pc then (bif Nat.ble 7 pc then (bif Nat.beq pc 7 then some (.aload_n 0, 0) else none) else (bif Nat.beq pc 4 then some (.ifCond .ne 23, 27) else none)) else (bif Nat.ble 1 pc then (bif Nat.beq pc 1 then some (.getfield 104, 31) else none) else (bif Nat.beq pc 0 then some (.aload_n 0, 0) else none)))))))
def cd3 (pc : Nat) : Option (Instr × Nat) := (bif Nat.ble 12 pc then (bif Nat.ble 18 pc then (bif Nat.ble 21 pc then (bif Nat.ble 22 pc then (bif Nat.beq pc 22 then some (.return_, 0) else none) else (bif Nat.beq pc 21 then some (.iastore, 0) else none)) else (bif Nat.ble 19 pc then (bif Nat.beq pc 19 then some (.iload 4, 0) else none) else (bif Nat.beq pc 18 then some (.iload_n 1, 0) else none))) else (bif Nat.ble 14 pc then (bif Nat.ble 15 pc then (bif Nat.beq pc 15 then some (.getfield 28, 6) else none) else (bif Nat.beq pc 14 then some (.aload_n 0, 0) else none)) else (bif Nat.ble 13 pc then (bif Nat.beq pc 13 then some (.iastore, 0) else none) else (bif Nat.beq pc 12 then some (.iload_n 3, 0) else none)))) else (bif Nat.ble 6 pc then (bif Nat.ble 8 pc then (bif Nat.ble 11 pc then (bif Nat.beq pc 11 then some (.iload_n 1, 0) else none) else (bif Nat.beq pc 8 then some (.getfield 25, 5) else none)) else (bif Nat.ble 7 pc then (bif Nat.beq pc 7 then some (.aload_n 0, 0) else none) else (bif Nat.beq pc 6 then some (.iastore, 0) else none))) else (bif Nat.ble 4 pc then (bif Nat.ble 5 pc then (bif Nat.beq pc 5 then some (.iload_n 2, 0) else none) else (bif Nat.beq pc 4 then some (.iload_n 1, 0) else none)) else (bif Nat.ble 1 pc then (bif Nat.beq pc 1 then some (.getfield 22, 4) else none) else (bif Nat.beq pc 0 then some (.aload_n 0, 0) else none)))))
def cd4 (pc : Nat) : Option (Instr × Nat) := (bif Nat.ble 14 pc then (bif Nat.ble 20 pc then (bif Nat.ble 22 pc then (bif Nat.ble 25 pc then (bif Nat.ble 28 pc then (bif Nat.beq pc 28 then some (.return_, 0) else none) else (bif Nat.beq pc 25 then some (.goto (-23), 2) else none)) else (bif Nat.beq pc 22 then some (.iinc 1 1, 0) else none)) else (bif Nat.ble 21 pc then (bif Nat.beq pc 21 then some (.iastore, 0) else none) else (bif Nat.beq pc 20 then some (.iconst 0, 0) else none))) else (bif Nat.ble 16 pc then (bif Nat.ble 19 pc then (bif Nat.beq pc 19 then some (.iload_n 1, 0) else none) else (bif Nat.beq pc 16 then some (.getfield 37, 9) else none)) else (bif Nat.ble 15 pc then (bif Nat.beq pc 15 then some (.aload_n 0, 0) else none) else (bif Nat.beq pc 14 then some (.iastore, 0) else none)))) else (bif Nat.ble 5 pc then (bif Nat.ble 9 pc then (bif Nat.ble 12 pc then (bif Nat.ble 13 pc then (bif Nat.beq pc 13 then some (.iconst 0, 0) else none) else (bif Nat.beq pc 12 then some (.iload_n 1, 0) else none)) else (bif Nat.beq pc 9 then some (.getfield 34, 8) else none)) else (bif Nat.ble 8 pc then (bif Nat.beq pc 8 then some (.aload_n 0, 0) else none) else (bif Nat.beq pc 5 then some (.if_icmp .ge 23, 28) else none))) else (bif Nat.ble 2 pc then (bif Nat.ble 3 pc then (bif Nat.beq pc 3 then some (.bipush 16, 0) else none) else (bif Nat.beq pc 2 then some (.iload_n 1, 0) else none)) else (bif Nat.ble 1 pc then (bif Nat.beq pc 1 then some (.istore_n 1, 0) else none) else (bif Nat.beq pc 0 then some (.iconst 0, 0) else none)))))
def cd5 (pc : Nat) : Option (Instr × Nat) := (bif Nat.ble 1 pc then (bif Nat.ble 4 pc then (bif Nat.beq pc 4 then some (.ireturn, 0) else none) else (bif Nat.beq pc 1 then some (.getfield 101, 30) else none)) else (bif Nat.beq pc 0 then some (.aload_n 0, 0) else none))
def cd6 (pc : Nat) : Option (Instr × Nat) := (bif Nat.ble 55 pc then (bif Nat.ble 81 pc then (bif Nat.ble 95 pc then (bif Nat.ble 104 pc then (bif Nat.ble 106 pc then (bif Nat.ble 107 pc then (bif Nat.ble 108 pc then (bif Nat.beq pc 108 then some (.ireturn, 0) else none) else (bif Nat.beq pc 107 then some (.iconst 0, 0) else none)) else (bif Nat.beq pc 106 then some (.ireturn, 0) else none)) else (bif Nat.ble 105 pc then (bif Nat.beq pc 105 then some (.iaload, 0) else none) else (bif Nat.beq pc 104 then some (.iload_n 1, 0) else none))) else (bif Nat.ble 100 pc then (bif Nat.ble 101 pc then (bif Nat.beq pc 101 then some (.getfield 31, 7) else none) else (bif Nat.beq pc 100 then some (.aload_n 0, 0) else none)) else (bif Nat.ble 97 pc then (bif Nat.beq pc 97 then some (.if_icmp .ne 10, 107) else none) else (bif Nat.beq pc 95 then some (.bipush 7, 0) else none)))) else (bif Nat.ble 88 pc then (bif Nat.ble 92 pc then (bif Nat.ble 93 pc then (bif Nat.ble 94 pc then (bif Nat.beq pc 94 then some (.iload_n 2, 0) else none) else (bif Nat.beq pc 93 then some (.ireturn, 0) else none)) else (bif Nat.beq pc 92 then some (.iaload, 0) else none)) else (bif Nat.ble 91 pc then (bif Nat.beq pc 91 then some (.iload_n 1, 0) else none) else (bif Nat.beq pc 88 then some (.getfield 28, 6) else none))) else (bif Nat.ble 84 pc then (bif Nat.ble 87 pc then (bif Nat.beq pc 87 then some (.aload_n 0, 0) else none) else (bif Nat.beq pc 84 then some (.if_icmp .ne 10, 94) else none)) else (bif Nat.ble 82 pc then (bif Nat.beq pc 82 then some (.bipush 6, 0) else none) else (bif Nat.beq pc 81 then some (.iload_n 2, 0) else none))))) else (bif Nat.ble 68 pc then (bif Nat.ble 74 pc then (bif Nat.ble 78 pc then (bif Nat.ble 79 pc then (bif Nat.ble 80 pc then (bif Nat.beq pc 80 then some (.ireturn, 0) else none) else (bif Nat.beq pc 79 then some (.iaload, 0) else none)) else (bif Nat.beq pc 78 then some (.iload_n 1, 0) else none)) else (bif Nat.ble 75 pc then (bif Nat.beq pc 75 then some (.getfield 25, 5) else none) else (bif Nat.beq pc 74 then some (.aload_n 0, 0) else none))) else (bif Nat.ble 70 pc then (bif Nat.ble 71 pc then (bif Nat.beq pc 71 then some (.if_icmp .ne 10, 81) else none) else (bif Nat.beq pc 70 then some (.iconst 5, 0) else none)) else (bif Nat.ble 69 pc then (bif Nat.beq pc 69 then some (.iload_n 2, 0) else none) else (bif Nat.beq pc 68 then some (.ireturn, 0) else none)))) else (bif Nat.ble 59 pc then (bif Nat.ble 63 pc then (bif Nat.ble 66 pc then (bif Nat.ble 67 pc then (bif Nat.beq pc 67 then some (.iaload, 0) else none) else (bif Nat.beq pc 66 then some (.iload_n 1, 0) else none)) else (bif Nat.beq pc 63 then some (.getfield 22, 4) else none)) else (bif Nat.ble 62 pc then (bif Nat.beq pc 62 then some (.aload_n 0, 0) else none) else (bif Nat.beq pc 59 then some (.if_icmp .ne 10, 69) else none))) else (bif Nat.ble 57 pc then (bif Nat.ble 58 pc then (bif Nat.beq pc 58 then some (.iconst 4, 0) else none) else (bif Nat.beq pc 57 then some (.iload_n 2, 0) else none)) else (bif Nat.ble 56 pc then (bif Nat.beq pc 56 then some (.ireturn, 0) else none) else (bif Nat.beq pc 55 then some (.iaload, 0) else none)))))) else (bif Nat.ble 27 pc then (bif Nat.ble 42 pc then (bif Nat.ble 46 pc then (bif Nat.ble 50 pc then (bif Nat.ble 51 pc then (bif Nat.ble 54 pc then (bif Nat.beq pc 54 then some (.iload_n 1, 0) else none) else (bif Nat.beq pc 51 then some (.getfield 19, 3) else none)) else (bif Nat.beq pc 50 then some (.aload_n 0, 0) else none)) else (bif Nat.ble 47 pc then (bif Nat.beq pc 47 then some (.if_icmp .ne 10, 57) else none) else (bif Nat.beq pc 46 then some (.iconst 3, 0) else none))) else (bif Nat.ble 44 pc then (bif Nat.ble 45 pc then (bif Nat.beq pc 45 then some (.iload_n 2, 0) else none) else (bif Nat.beq pc 44 then some (.ireturn, 0) else none)) else (bif Nat.ble 43 pc then (bif Nat.beq pc 43 then some (.iaload, 0) else none) else (bif Nat.beq pc 42 then some (.iload_n 1, 0) else none)))) else (bif Nat.ble 33 pc then (bif Nat.ble 35 pc then (bif Nat.ble 38 pc then (bif Nat.ble 39 pc then (bif Nat.beq pc 39 then some (.getfield 16, 2) else none) else (bif Nat.beq pc 38 then some (.aload_n 0, 0) else none)) else (bif Nat.beq pc 35 then some (.if_icmp .ne 10, 45) else none)) else (bif Nat.ble 34 pc then (bif Nat.beq pc 34 then some (.iconst 2, 0) else none) else (bif Nat.beq pc 33 then some (.iload_n 2, 0) else none))) else (bif Nat.ble 31 pc then (bif Nat.ble 32 pc then (bif Nat.beq pc 32 then some (.ireturn, 0) else none) else (bif Nat.beq pc 31 then some (.iaload, 0) else none)) else (bif Nat.ble 30 pc then (bif Nat.beq pc 30 then some (.iload_n 1, 0) else none) else (bif Nat.beq pc 27 then some (.getfield 13, 1) else none))))) else (bif Nat.ble 14 pc then (bif Nat.ble 20 pc then (bif Nat.ble 22 pc then (bif Nat.ble 23 pc then (bif Nat.ble 26 pc then (bif Nat.beq pc 26 then some (.aload_n 0, 0) else none) else (bif Nat.beq pc 23 then some (.if_icmp .ne 10, 33) else none)) else (bif Nat.beq pc 22 then some (.iconst 1, 0) else none)) else (bif Nat.ble 21 pc then (bif Nat.beq pc 21 then some (.iload_n 2, 0) else none) else (bif Nat.beq pc 20 then some (.ireturn, 0) else none))) else (bif Nat.ble 18 pc then (bif Nat.ble 19 pc then (bif Nat.beq pc 19 then some (.iaload, 0) else none) else (bif Nat.beq pc 18 then some (.iload_n 1, 0) else none)) else (bif Nat.ble 15 pc then (bif Nat.beq pc 15 then some (.getfield 7, 0) else none) else (bif Nat.beq pc 14 then some (.aload_n 0, 0) else none)))) else (bif Nat.ble 8 pc then (bif Nat.ble 10 pc then (bif Nat.ble 11 pc then (bif Nat.beq pc 11 then some (.ifCond .ne 10, 21) else none) else (bif Nat.beq pc 10 then some (.iload_n 2, 0) else none)) else (bif Nat.ble 9 pc then (bif Nat.beq pc 9 then some (.ireturn, 0) else none) else (bif Nat.beq pc 8 then some (.iconst 0, 0) else none))) else (bif Nat.ble 2 pc then (bif Nat.ble 5 pc then (bif Nat.beq pc 5 then some (.ifCond .ne 5, 10) else none) else (bif Nat.beq pc 2 then some (.invokevirtual 124, 7) else none)) else (bif Nat.ble 1 pc then (bif Nat.beq pc 1 then some (.iload_n 1, 0) else none) else (bif Nat.beq pc 0 then some (.aload_n 0, 0) else none)))))))
def cd7 (pc : Nat) : Option (Instr × Nat) := (bif Nat.ble 12 pc then (bif Nat.ble 18 pc then (bif Nat.ble 22 pc then (bif Nat.ble 23 pc then (bif Nat.beq pc 23 then some (.ireturn, 0) else none) else (bif Nat.beq pc 22 then some (.iconst 0, 0) else none)) else (bif Nat.ble 19 pc then (bif Nat.beq pc 19 then some (.goto 4, 23) else none) else (bif Nat.beq pc 18 then some (.iconst 1, 0) else none))) else (bif Nat.ble 13 pc then (bif Nat.ble 15 pc then (bif Nat.beq pc 15 then some (.if_icmp .ge 7, 22) else none) else (bif Nat.beq pc 13 then some (.bipush 16, 0) else none)) else (bif Nat.beq pc 12 then some (.iload_n 1, 0) else none))) else (bif Nat.ble 5 pc then (bif Nat.ble 6 pc then (bif Nat.ble 9 pc then (bif Nat.beq pc 9 then some (.if_icmp .ge 13, 22) else none) else (bif Nat.beq pc 6 then some (.getfield 101, 30) else none)) else (bif Nat.beq pc 5 then some (.aload_n 0, 0) else none)) else (bif Nat.ble 1 pc then (bif Nat.ble 4 pc then (bif Nat.beq pc 4 then some (.iload_n 1, 0) else none) else (bif Nat.beq pc 1 then some (.ifCond .lt 21, 22) else none)) else (bif Nat.beq pc 0 then some (.iload_n 1, 0) else none))))
def pCode (m pc : Nat) : Option (Instr × Nat) := bif Nat.ble pN m then none else bif Nat.ble pTop pc then none else (bif Nat.ble 4 m then (bif Nat.ble 6 m then (bif Nat.ble 7 m then cd7 pc else cd6 pc) else (bif Nat.ble 5 m then cd5 pc else cd4 pc)) else (bif Nat.ble 2 m then (bif Nat.ble 3 m then cd3 pc else cd2 pc) else (bif Nat.ble 1 m then cd1 pc else cd0 pc)))
def lkF : List (Nat × Nat × Nat) := [(1, 7, 0), (1, 13, 1), (1, 16, 2), (1, 19, 3), (1, 22, 4), (1, 25, 5), (1, 28, 6), (1, 31, 7), (1, 34, 8), (1, 37, 9), (1, 40, 10), (1, 43, 11), (1, 46, 12), (1, 49, 13), (1, 52, 14), (1, 55, 15), (1, 58, 16), (1, 61, 17), (1, 64, 18), (1, 67, 19), (1, 70, 20), (1, 73, 21), (1, 76, 22), (1, 79, 23), (1, 82, 24), (1, 85, 25), (1, 88, 26), (1, 91, 27), (1, 94, 28), (1, 98, 29), (1, 101, 30), (1, 104, 31), (1, 108, 32), (1, 111, 33), (1, 114, 34)]
def lkN : List (Nat × Nat) := [(0, 7)]
def lkC : List (Nat × Nat × Nat) := []
def lkD : List (Nat × Nat × Nat) := []
def lkV : List (Nat × Nat × Nat) := [(0, 9, 1), (0, 12, 2), (1, 117, 3), (1, 121, 4), (0, 16, 5), (0, 20, 6), (1, 124, 7)]
def lkO : List (Nat × Nat) := [(1, 1)]
def mV : List Nat := [2, 5, 6]
def mP : List Nat := [3, 4, 7]
def mS : List Nat := []
def mI : List Nat := [1]
def mA : List Nat := [1, 2, 3, 4, 5, 6, 7]
def aTys : List FieldType := [.int]
/-! ENGINE: abstract cells, locals, one-step function, and what a triple says of the model. -/
abbrev QCell := List Value ⊕ ((FieldType × List Int32) ⊕ List Int64)
abbrev QHeap := List QCell
abbrev QLoc := List (Option Value)
abbrev QSt := Nat × QLoc × List Value × QHeap
def qv (ad : Nat → Addr) : Value → Value
  | .ref k => .ref (ad k)
  | v => v
def qsz : QCell → Nat
  | .inl _ => cN
  | .inr (.inl x) => x.2.length
  | .inr (.inr x) => x.length
def qhs : QHeap → Nat
  | [] => 0
  | c :: t => qsz c + qhs t
def aget {α : Type} (xs : List α) (j : Int32) : Option α := if j < 0 then none else xs[j.toNatClampNeg]?
def aset {α : Type} (xs : List α) (j : Int32) (v : α) : Option (List α) := if j < 0 then none else if j.toNatClampNeg < xs.length then some (xs.set j.toNatClampNeg v) else none
def qnew (n : Int32) : Option Nat := if n < 0 then none else if n.toNatClampNeg ≤ 67108864 then some n.toNatClampNeg else none
def qdiv (x y : Int32) : Option Int32 := if y = 0 then none else some (x / y)
def qrem (x y : Int32) : Option Int32 := if y = 0 then none else some (x % y)
def qboo (x : Int32) : Option Int32 := if x = 0 then some x else if x = 1 then some x else none
def lget : QLoc → Nat → Option Value
  | [], _ => none
  | v :: _, 0 => v
  | _ :: t, k + 1 => lget t k
def hget : QHeap → Nat → Option QCell
  | [], _ => none
  | v :: _, 0 => some v
  | _ :: t, k + 1 => hget t k
def vget : List Value → Nat → Option Value
  | [], _ => none
  | v :: _, 0 => some v
  | _ :: t, k + 1 => vget t k
def lkill (L : QLoc) : Nat → QLoc
  | 0 => L
  | k + 1 => match lget L k with
    | some (.long _) => L.set k none
    | some (.double _) => L.set k none
    | _ => L
def lput (L : QLoc) (k : Nat) (v : Value) : Option QLoc :=
  match v with
  | .long x => bif Nat.ble (k + 2) L.length then some (((lkill L k).set k (some (.long x))).set (k + 1) none) else none
  | .double _ => none
  | v => bif Nat.ble (k + 1) L.length then some ((lkill L k).set k (some v)) else none
/-- push what a local holds, if it is of the kind -/
def qload (pc : Nat) (L : QLoc) (S : List Value) (σ : QHeap) (k : Nat) (ok : Value → Bool) : Option QSt :=
  match lget L k with
  | some v => bif ok v then some (pc, L, v :: S, σ) else none
  | none => none
def isI : Value → Bool | .int _ => true | _ => false
def isJ : Value → Bool | .long _ => true | _ => false
def isR : Value → Bool | .ref _ => true | _ => false
def qstore (pc : Nat) (L : QLoc) (S : List Value) (σ : QHeap) (k : Nat) (ok : Value → Bool) : Option QSt :=
  match S with
  | v :: S' => bif ok v then (match lput L k v with | some L' => some (pc, L', S', σ) | none => none) else none
  | [] => none
def qbin (pc : Nat) (L : QLoc) (S : List Value) (σ : QHeap) (f : Int32 → Int32 → Int32) : Option QSt :=
  match S with
  | .int y :: .int x :: S' => some (pc, L, .int (f x y) :: S', σ)
  | _ => none
def qbino (pc : Nat) (L : QLoc) (S : List Value) (σ : QHeap) (f : Int32 → Int32 → Option Int32) : Option QSt :=
  match S with
  | .int y :: .int x :: S' => (f x y).bind fun z => some (pc, L, .int z :: S', σ)
  | _ => none
def qbinJ (pc : Nat) (L : QLoc) (S : List Value) (σ : QHeap) (f : Int64 → Int64 → Int64) : Option QSt :=
  match S with
  | .long y :: .long x :: S' => some (pc, L, .long (f x y) :: S', σ)
  | _ => none
def qshJ (pc : Nat) (L : QLoc) (S : List Value) (σ : QHeap) (f : Int64 → Int32 → Int64) : Option QSt :=
  match S with
  | .int y :: .long x :: S' => some (pc, L, .long (f x y) :: S', σ)
  | _ => none
def quni (pc : Nat) (L : QLoc) (S : List Value) (σ : QHeap) (f : Int32 → Value) : Option QSt :=
  match S with
  | .int x :: S' => some (pc, L, f x :: S', σ)
  | _ => none
def quniJ (pc : Nat) (L : QLoc) (S : List Value) (σ : QHeap) (f : Int64 → Value) : Option QSt :=
  match S with
  | .long x :: S' => some (pc, L, f x :: S', σ)
  | _ => none
def qald (pc : Nat) (L : QLoc) (S : List Value) (σ : QHeap) (ok : FieldType → Bool) : Option QSt :=
  match S with
  | .int j :: .ref a :: S' => (match hget σ a with
    | some (.inr (.inl x)) => bif ok x.1 then (aget x.2 j).bind fun v => some (pc, L, .int v :: S', σ) else none
    | _ => none)
  | _ => none
def qaldJ (pc : Nat) (L : QLoc) (S : List Value) (σ : QHeap) : Option QSt :=
  match S with
  | .int j :: .ref a :: S' => (match hget σ a with
    | some (.inr (.inr x)) => (aget x j).bind fun v => some (pc, L, .long v :: S', σ)
    | _ => none)
  | _ => none
def qnar : FieldType → Int32 → Int32
  | .boolean, x => x &&& 1
  | .byte, x => x.toInt8.toInt32
  | _, x => x
def qast (pc : Nat) (L : QLoc) (S : List Value) (σ : QHeap) (ok : FieldType → Bool) : Option QSt :=
  match S with
  | .int v :: .int j :: .ref a :: S' => (match hget σ a with
    | some (.inr (.inl x)) => bif ok x.1 && Nat.ble k0 a then (aset x.2 j (qnar x.1 v)).bind fun y => some (pc, L, S', σ.set a (.inr (.inl (x.1, y)))) else none
    | _ => none)
  | _ => none
def qastJ (pc : Nat) (L : QLoc) (S : List Value) (σ : QHeap) : Option QSt :=
  match S with
  | .long v :: .int j :: .ref a :: S' => (match hget σ a with
    | some (.inr (.inr x)) => bif Nat.ble k0 a then (aset x j v).bind fun y => some (pc, L, S', σ.set a (.inr (.inr y))) else none
    | _ => none)
  | _ => none
def tyI : FieldType → Bool | .int => true | _ => false
def tyB : FieldType → Bool | .boolean => true | .byte => true | _ => false
/-- what a value becomes in a field of the type (none: it doesn't fit) -/
def qfit : FieldType → Value → Option Value
  | .int, .int x => some (.int x)
  | .boolean, .int x => (qboo x).bind fun y => some (.int y)
  | .long, .long x => some (.long x)
  | .array t, .ref a => some (.ref a)
  | _, _ => none
def qget (pc : Nat) (L : QLoc) (S : List Value) (σ : QHeap) (k : Nat) : Option QSt :=
  match S with
  | .ref a :: S' => (match hget σ a with
    | some (.inl vs) => (match vget vs k with | some v => some (pc, L, v :: S', σ) | none => none)
    | _ => none)
  | _ => none
def qput (pc : Nat) (L : QLoc) (S : List Value) (σ : QHeap) (k : Nat) : Option QSt :=
  match S with
  | v :: .ref a :: S' => (match hget σ a with
    | some (.inl vs) => bif Nat.ble k0 a && Nat.ble (k + 1) vs.length then (qfit (fTy k) v).bind fun w => some (pc, L, S', σ.set a (.inl (vs.set k w))) else none
    | _ => none)
  | _ => none
def qnewA (pc : Nat) (L : QLoc) (S : List Value) (σ : QHeap) (t : ArrayType) : Option QSt :=
  match S with
  | .int n :: S' => (match t with
    | .int => (qnew n).bind fun k => some (pc, L, .ref σ.length :: S', σ ++ [.inr (.inl (.int, List.replicate k 0))])
    | .boolean => (qnew n).bind fun k => some (pc, L, .ref σ.length :: S', σ ++ [.inr (.inl (.boolean, List.replicate k 0))])
    | .byte => (qnew n).bind fun k => some (pc, L, .ref σ.length :: S', σ ++ [.inr (.inl (.byte, List.replicate k 0))])
    | .long => (qnew n).bind fun k => some (pc, L, .ref σ.length :: S', σ ++ [.inr (.inr (List.replicate k 0))])
    | _ => none)
  | _ => none
def qlen (pc : Nat) (L : QLoc) (S : List Value) (σ : QHeap) : Option QSt :=
  match S with
  | .ref a :: S' => (match hget σ a with
    | some (.inr (.inl x)) => some (pc, L, .int x.2.length.toInt32 :: S', σ)
    | some (.inr (.inr x)) => some (pc, L, .int x.length.toInt32 :: S', σ)
    | _ => none)
  | _ => none
def qdup (pc : Nat) (L : QLoc) (S : List Value) (σ : QHeap) : Option QSt :=
  match S with
  | .int x :: S' => some (pc, L, .int x :: .int x :: S', σ)
  | .ref x :: S' => some (pc, L, .ref x :: .ref x :: S', σ)
  | _ => none
def qdup2 (pc : Nat) (L : QLoc) (S : List Value) (σ : QHeap) : Option QSt :=
  match S with
  | .int x :: .ref y :: S' => some (pc, L, .int x :: .ref y :: .int x :: .ref y :: S', σ)
  | .int x :: .int y :: S' => some (pc, L, .int x :: .int y :: .int x :: .int y :: S', σ)
  | .long x :: S' => some (pc, L, .long x :: .long x :: S', σ)
  | _ => none
def qpop (pc : Nat) (L : QLoc) (S : List Value) (σ : QHeap) : Option QSt :=
  match S with
  | .int _ :: S' => some (pc, L, S', σ)
  | .ref _ :: S' => some (pc, L, S', σ)
  | _ => none
def qif (pc : Nat) (L : QLoc) (S : List Value) (σ : QHeap) (cd : ClassFile.Cond) (tgt : Nat) : Option QSt :=
  match S with
  | .int x :: S' => some (bif ifCond.holds cd x then tgt else pc, L, S', σ)
  | _ => none
def qicmp (pc : Nat) (L : QLoc) (S : List Value) (σ : QHeap) (cd : ClassFile.Cond) (tgt : Nat) : Option QSt :=
  match S with
  | .int y :: .int x :: S' => some (bif if_icmp.holds cd x y then tgt else pc, L, S', σ)
  | _ => none
def qinc (pc : Nat) (L : QLoc) (S : List Value) (σ : QHeap) (k : Nat) (i : Int) : Option QSt :=
  match lget L k with
  | some (.int x) => (match lput L k (.int (x + Int32.ofInt i)) with | some L' => some (pc, L', S, σ) | none => none)
  | _ => none
def qldc (pc : Nat) (L : QLoc) (S : List Value) (σ : QHeap) (k : Nat) : Option QSt :=
  match vget cK k with
  | some v => some (pc, L, v :: S, σ)
  | none => none
def qexec (pc : Nat) (L : QLoc) (S : List Value) (σ : QHeap) (aux : Nat) : Instr → Option QSt
  | .aload_n k => qload (pc + 1) L S σ k.val isR
  | .aload k => qload (pc + 2) L S σ k isR
  | .iload_n k => qload (pc + 1) L S σ k.val isI
  | .iload k => qload (pc + 2) L S σ k isI
  | .lload_n k => qload (pc + 1) L S σ k.val isJ
  | .lload k => qload (pc + 2) L S σ k isJ
  | .iconst i => some (pc + 1, L, .int (Int32.ofInt i) :: S, σ)
  | .bipush i => some (pc + 2, L, .int (Int8.ofInt i).toInt32 :: S, σ)
  | .sipush i => some (pc + 3, L, .int (Int16.ofInt i).toInt32 :: S, σ)
  | .lconst k => some (pc + 1, L, .long (Int64.ofNat k.val) :: S, σ)
  | .ldc _ => qldc (pc + 2) L S σ aux
  | .ldc2_w _ => qldc (pc + 3) L S σ aux
  | .istore_n k => qstore (pc + 1) L S σ k.val isI
  | .istore k => qstore (pc + 2) L S σ k isI
  | .lstore_n k => qstore (pc + 1) L S σ k.val isJ
  | .lstore k => qstore (pc + 2) L S σ k isJ
  | .astore_n k => qstore (pc + 1) L S σ k.val isR
  | .astore k => qstore (pc + 2) L S σ k isR
  | .iinc k i => qinc (pc + 3) L S σ k i
  | .iadd => qbin (pc + 1) L S σ fun x y => x + y
  | .isub => qbin (pc + 1) L S σ fun x y => x - y
  | .imul => qbin (pc + 1) L S σ fun x y => x * y
  | .iand => qbin (pc + 1) L S σ fun x y => x &&& y
  | .ior => qbin (pc + 1) L S σ fun x y => x ||| y
  | .ixor => qbin (pc + 1) L S σ fun x y => x ^^^ y
  | .ishl => qbin (pc + 1) L S σ fun x y => x <<< (y &&& 31)
  | .ishr => qbin (pc + 1) L S σ fun x y => x >>> (y &&& 31)
  | .iushr => qbin (pc + 1) L S σ fun x y => XT.ushr x y
  | .idiv => qbino (pc + 1) L S σ qdiv
  | .irem => qbino (pc + 1) L S σ qrem
  | .ineg => quni (pc + 1) L S σ fun x => .int (-x)
  | .i2l => quni (pc + 1) L S σ fun x => .long x.toInt64
  | .i2b => quni (pc + 1) L S σ fun x => .int x.toInt8.toInt32
  | .l2i => quniJ (pc + 1) L S σ fun x => .int x.toInt32
  | .lneg => quniJ (pc + 1) L S σ fun x => .long (-x)
  | .ladd => qbinJ (pc + 1) L S σ fun x y => x + y
  | .lsub => qbinJ (pc + 1) L S σ fun x y => x - y
  | .lmul => qbinJ (pc + 1) L S σ fun x y => x * y
  | .land => qbinJ (pc + 1) L S σ fun x y => x &&& y
  | .lor => qbinJ (pc + 1) L S σ fun x y => x ||| y
  | .lxor => qbinJ (pc + 1) L S σ fun x y => x ^^^ y
  | .lshl => qshJ (pc + 1) L S σ fun x y => x <<< (y.toInt64 &&& 63)
  | .lshr => qshJ (pc + 1) L S σ fun x y => x >>> (y.toInt64 &&& 63)
  | .lushr => qshJ (pc + 1) L S σ fun x y => XT.ushrL x y
  | .lcmp => (match S with
    | .long y :: .long x :: S' => some (pc + 1, L, .int (XT.cmpL x y) :: S', σ)
    | _ => none)
  | .goto _ => some (aux, L, S, σ)
  | .ifCond cd _ => qif (pc + 3) L S σ cd aux
  | .if_icmp cd _ => qicmp (pc + 3) L S σ cd aux
  | .dup => qdup (pc + 1) L S σ
  | .dup2 => qdup2 (pc + 1) L S σ
  | .pop => qpop (pc + 1) L S σ
  | .getfield _ => qget (pc + 3) L S σ aux
  | .putfield _ => qput (pc + 3) L S σ aux
  | .iaload => qald (pc + 1) L S σ tyI
  | .baload => qald (pc + 1) L S σ tyB
  | .laload => qaldJ (pc + 1) L S σ
  | .iastore => qast (pc + 1) L S σ tyI
  | .bastore => qast (pc + 1) L S σ tyB
  | .lastore => qastJ (pc + 1) L S σ
  | .arraylength => qlen (pc + 1) L S σ
  | .newarray t => qnewA (pc + 2) L S σ t
  | .new _ => some (pc + 3, L, .ref σ.length :: S, σ ++ [.inl cDef])
  | _ => none
def qstep (m : Nat) (st : QSt) : Option QSt :=
  match pCode m st.1 with
  | some (i, aux) => qexec st.1 st.2.1 st.2.2.1 st.2.2.2 aux i
  | none => none
def qsteps (m : Nat) : Nat → QSt → Option QSt
  | 0, st => some st
  | n + 1, st => match qstep m st with | some st' => qsteps m n st' | none => none
def qentry (args : List Value) (mx : Nat) : QLoc := (args.flatMap fun v => match v with | .long x => [some (.long x), none] | .double x => [some (.double x), none] | v => [some v]) ++ List.replicate (mx - (args.map fun v => v.category).sum) none
/-! ## what the abstract state says of the model's -/
def ilen : Instr → Nat
  | .aload _ | .iload _ | .lload _ | .istore _ | .lstore _ | .astore _ | .bipush _ | .ldc _ | .newarray _ => 2
  | .sipush _ | .ldc2_w _ | .iinc _ _ | .goto _ | .ifCond _ _ | .if_icmp _ _ | .getfield _ | .putfield _ | .new _ | .invokevirtual _ | .invokespecial _ | .invokestatic _ => 3
  | _ => 1
def qtgt (pc : Nat) (o : Int) (aux : Nat) : Bool := decide (0 ≤ (pc : Int) + o) && decide (((pc : Int) + o).toNat = aux)
def qlk (m pc : Nat) (i : Instr) (aux : Nat) : Bool :=
  match i with
  | .goto o => qtgt pc o aux
  | .ifCond _ o => qtgt pc o aux
  | .if_icmp _ o => qtgt pc o aux
  | .getfield idx => lkF.contains (pK m, idx, aux)
  | .putfield idx => lkF.contains (pK m, idx, aux) && (!fFin aux || (pK m == 1 && pNm m == "<init>"))
  | .new idx => lkN.contains (pK m, idx)
  | .newarray t => aTys.contains (newarray.typeOf t)
  | .ldc idx => lkC.contains (pK m, idx, aux)
  | .ldc2_w idx => lkD.contains (pK m, idx, aux)
  | _ => true
def qchk (m pc : Nat) (i : Instr) (aux : Nat) : Bool := decide (decode (pBytes m) pc = .ok (i, ilen i)) && qlk m pc i aux
def QCellOk (Z : State) (ad : Nat → Addr) (h : Heap) (a : Addr) : QCell → Prop
  | .inl vs => Exa Z h a cName ∧ vs.length = nF ∧ ∀ (k : Nat) (v : Value), k < nF → vget vs k = some v → Fld Z h a cName (fNm k) (fDs k) (qv ad v)
  | .inr (.inl x) => ∃ c : Cell, Arr Z h a c x.1 ∧ c.slots = (x.2.map Value.int).toArray
  | .inr (.inr x) => ∃ c : Cell, Arr Z h a c .long ∧ c.slots = (x.map Value.long).toArray
def QAd (n0 : Nat) (ad : Nat → Addr) : Prop := (∀ k, k0 ≤ k → ad k = n0 + (k - k0)) ∧ ∀ i j, ad i = ad j → i = j
def QRep (Z : State) (n0 : Nat) (ad : Nat → Addr) (h : Heap) (σ : QHeap) : Prop := k0 ≤ σ.length ∧ h.size = n0 + (σ.length - k0) ∧ ∀ k c, hget σ k = some c → QCellOk Z ad h (ad k) c
def QLocOk (ad : Nat → Addr) (L : QLoc) (C : Array Slot) : Prop :=
  L.length = C.size ∧ (∀ k v, lget L k = some v → C[k]? = some (.val (qv ad v))) ∧ (∀ k w, C[k]? = some (.val w) → w.category = 2 → C[k + 1]? = some .second) ∧ ∀ k, C[k]? = some .second → ∃ j w, k = j + 1 ∧ C[j]? = some (.val w) ∧ w.category = 2
/-- the words of the sheet, as the engine uses them -/
def QW (Z : State) (a0 : Array Value) : Prop :=
  (∀ t ∈ lkF, (Cond.fieldLink (kName t.1) t.2.1 cName (fNm t.2.2) (fDs t.2.2)).before a0 Z = true) ∧
  (∀ t ∈ lkN, (Cond.classLink (kName t.1) t.2 cName).before a0 Z = true) ∧
  (∀ t ∈ lkC, ∃ v, vget cK t.2.2 = some (.int v) ∧ (Cond.constant (kName t.1) t.2.1 v).before a0 Z = true) ∧
  (∀ t ∈ lkD, ∃ v, vget cK t.2.2 = some (.long v) ∧ (Cond.constantLong (kName t.1) t.2.1 v).before a0 Z = true) ∧
  (∀ t ∈ lkV, (Cond.methodLink (kName t.1) t.2.1 (pName t.2.2)).before a0 Z = true) ∧
  (∀ t ∈ lkO, (Cond.methodLink (kName t.1) t.2 Lib.objectInit).before a0 Z = true) ∧
  (∀ m ∈ mV, (Cond.declares (pName m)).before a0 Z = true ∧ (Cond.selects cName (pName m) (pName m)).before a0 Z = true ∧ (Cond.instanceMethod (pName m)).before a0 Z = true) ∧
  (∀ m ∈ mP, (Cond.instanceMethod (pName m)).before a0 Z = true ∧ (Cond.privateMethod (pName m)).before a0 Z = true) ∧
  (∀ m ∈ mS, (Cond.static (pName m)).before a0 Z = true) ∧
  (∀ m ∈ mI, (Cond.instanceMethod (pName m)).before a0 Z = true) ∧
  (∀ m ∈ mA, (Cond.code (pName m) (pBytes m) (pMaxL m) (pRet m)).before a0 Z = true ∧ (Cond.initialized (kName (pK m))).before a0 Z = true) ∧
  (Cond.instanceMethod Lib.objectInit).before a0 Z = true ∧ (Cond.code Lib.objectInit ⟨#[0xb1]⟩ 1 none).before a0 Z = true ∧
  (∀ k, k < nF → bif fFin k then (Cond.laysFinal cName cName (fNm k) (fDs k)).before a0 Z = true else (Cond.lays cName cName (fNm k) (fDs k)).before a0 Z = true) ∧
  (Cond.instantiable cName cN).before a0 Z = true ∧ (Cond.initialized cName).before a0 Z = true ∧
  ∀ ty ∈ aTys, (Cond.arrayClass ty).before a0 Z = true
section Words
variable {Z : State} {a0 : Array Value}
theorem qw_fl (W : QW Z a0) : ∀ t ∈ lkF, (Cond.fieldLink (kName t.1) t.2.1 cName (fNm t.2.2) (fDs t.2.2)).before a0 Z = true := W.1
theorem qw_nw (W : QW Z a0) : ∀ t ∈ lkN, (Cond.classLink (kName t.1) t.2 cName).before a0 Z = true := W.2.1
theorem qw_cI (W : QW Z a0) : ∀ t ∈ lkC, ∃ v, vget cK t.2.2 = some (.int v) ∧ (Cond.constant (kName t.1) t.2.1 v).before a0 Z = true := W.2.2.1
theorem qw_cJ (W : QW Z a0) : ∀ t ∈ lkD, ∃ v, vget cK t.2.2 = some (.long v) ∧ (Cond.constantLong (kName t.1) t.2.1 v).before a0 Z = true := W.2.2.2.1
theorem qw_ml (W : QW Z a0) : ∀ t ∈ lkV, (Cond.methodLink (kName t.1) t.2.1 (pName t.2.2)).before a0 Z = true := W.2.2.2.2.1
theorem qw_mo (W : QW Z a0) : ∀ t ∈ lkO, (Cond.methodLink (kName t.1) t.2 Lib.objectInit).before a0 Z = true := W.2.2.2.2.2.1
theorem qw_vi (W : QW Z a0) : ∀ m ∈ mV, (Cond.declares (pName m)).before a0 Z = true ∧ (Cond.selects cName (pName m) (pName m)).before a0 Z = true ∧ (Cond.instanceMethod (pName m)).before a0 Z = true := W.2.2.2.2.2.2.1
theorem qw_pr (W : QW Z a0) : ∀ m ∈ mP, (Cond.instanceMethod (pName m)).before a0 Z = true ∧ (Cond.privateMethod (pName m)).before a0 Z = true := W.2.2.2.2.2.2.2.1
theorem qw_st (W : QW Z a0) : ∀ m ∈ mS, (Cond.static (pName m)).before a0 Z = true := W.2.2.2.2.2.2.2.2.1
theorem qw_ini (W : QW Z a0) : ∀ m ∈ mI, (Cond.instanceMethod (pName m)).before a0 Z = true := W.2.2.2.2.2.2.2.2.2.1
theorem qw_cod (W : QW Z a0) : ∀ m ∈ mA, (Cond.code (pName m) (pBytes m) (pMaxL m) (pRet m)).before a0 Z = true ∧ (Cond.initialized (kName (pK m))).before a0 Z = true := W.2.2.2.2.2.2.2.2.2.2.1
theorem qw_oi (W : QW Z a0) : (Cond.instanceMethod Lib.objectInit).before a0 Z = true := W.2.2.2.2.2.2.2.2.2.2.2.1
theorem qw_oc (W : QW Z a0) : (Cond.code Lib.objectInit ⟨#[0xb1]⟩ 1 none).before a0 Z = true := W.2.2.2.2.2.2.2.2.2.2.2.2.1
theorem qw_lay (W : QW Z a0) : ∀ k, k < nF → bif fFin k then (Cond.laysFinal cName cName (fNm k) (fDs k)).before a0 Z = true else (Cond.lays cName cName (fNm k) (fDs k)).before a0 Z = true := W.2.2.2.2.2.2.2.2.2.2.2.2.2.1
theorem qw_inst (W : QW Z a0) : (Cond.instantiable cName cN).before a0 Z = true := W.2.2.2.2.2.2.2.2.2.2.2.2.2.2.1
theorem qw_init (W : QW Z a0) : (Cond.initialized cName).before a0 Z = true := W.2.2.2.2.2.2.2.2.2.2.2.2.2.2.2.1
theorem qw_arr (W : QW Z a0) : ∀ ty ∈ aTys, (Cond.arrayClass ty).before a0 Z = true := W.2.2.2.2.2.2.2.2.2.2.2.2.2.2.2.2
end Words
/-! ## small laws of lists -/
theorem hget_eq : ∀ (σ : QHeap) k, hget σ k = σ[k]?
  | [], _ => by simp [hget]
  | _ :: _, 0 => by simp [hget]
  | _ :: t, k + 1 => by simp [hget, hget_eq t k]
theorem vget_eq : ∀ (σ : List Value) k, vget σ k = σ[k]?
  | [], _ => by simp [vget]
  | _ :: _, 0 => by simp [vget]
  | _ :: t, k + 1 => by simp [vget, vget_eq t k]
theorem lget_eq : ∀ (L : QLoc) k, lget L k = (L[k]?).getD none
  | [], _ => by simp [lget]
  | _ :: _, 0 => by simp [lget]
  | _ :: t, k + 1 => by simp [lget, lget_eq t k]
theorem lget_lt {L : QLoc} {k : Nat} {v : Value} (h : lget L k = some v) : k < L.length := by
  rw [lget_eq] at h
  rcases Nat.lt_or_ge k L.length with q | q
  · exact q
  · simp [List.getElem?_eq_none q] at h
theorem lget_set {L : QLoc} {k j : Nat} {o : Option Value} (hk : k < L.length) : lget (L.set k o) j = if j = k then o else lget L j := by
  simp only [lget_eq, List.getElem?_set]
  by_cases e : k = j
  · subst e; simp [hk]
  · simp [e, Ne.symm e]
theorem qhs_app (σ τ : QHeap) : qhs (σ ++ τ) = qhs σ + qhs τ := by
  induction σ with
  | nil => simp [qhs]
  | cons c t ih => simp [qhs, ih, Nat.add_assoc]
theorem qhs_set {σ : QHeap} {k : Nat} {c d : QCell} (h : hget σ k = some c) (hs : qsz d = qsz c) : qhs (σ.set k d) = qhs σ := by
  induction σ generalizing k with
  | nil => simp [hget] at h
  | cons x t ih =>
    cases k with
    | zero => simp only [hget, Option.some.injEq] at h; subst h; simp [qhs, hs]
    | succ k => simp only [hget] at h; simp [qhs, ih h]
theorem hget_set {σ : QHeap} {k j : Nat} {c d : QCell} (h : hget σ k = some c) : hget (σ.set k d) j = if j = k then some d else hget σ j := by
  rw [hget_eq] at h
  have hk := (List.getElem?_eq_some_iff.mp h).1
  simp only [hget_eq, List.getElem?_set]
  by_cases e : k = j
  · subst e; simp [hk]
  · simp [e, Ne.symm e]
theorem lkill_len (L : QLoc) (k : Nat) : (lkill L k).length = L.length := by
  cases k with
  | zero => rfl
  | succ k => simp only [lkill]; split <;> simp
theorem lget_kill {L : QLoc} {k j : Nat} {v : Value} (h : lget (lkill L k) j = some v) : lget L j = some v ∧ (k = j + 1 → v.category ≠ 2) := by
  cases k with
  | zero => exact ⟨h, fun e => by omega⟩
  | succ k =>
    simp only [lkill] at h
    split at h
    · rename_i x q
      rw [lget_set (lget_lt q)] at h
      split at h
      · cases h
      · rename_i ne; exact ⟨h, fun e => absurd (by omega) ne⟩
    · rename_i x q
      rw [lget_set (lget_lt q)] at h
      split at h
      · cases h
      · rename_i ne; exact ⟨h, fun e => absurd (by omega) ne⟩
    · rename_i q1 q2
      refine ⟨h, fun e hc => ?_⟩
      obtain rfl : j = k := by omega
      cases v with
      | long x => exact q1 _ h
      | double x => exact q2 _ h
      | _ => simp [Value.category] at hc
theorem qv_cat (ad : Nat → Addr) (v : Value) : (qv ad v).category = v.category := by cases v <;> rfl
/-! ## storing into a local -/
def kA (C : Array Slot) (k j : Nat) : Prop := k = j + 1 ∧ C[k]? = some .second
def kB (C : Array Slot) (k j : Nat) : Prop := j = k + 1 ∧ ∃ u, C[k]? = some (.val u) ∧ u.category = 2
def kD (C : Array Slot) (k j : Nat) : Prop := j = k + 2 ∧ ∃ u, C[k + 1]? = some (.val u) ∧ u.category = 2
theorem set1_at {C D : Array Slot} {k : Nat} {w : Value} (hk : k < C.size) (hw : w.category = 1) (h : storeLocals C k w = some D) :
    D.size = C.size ∧ D[k]? = some (.val w) ∧ ∀ j, j ≠ k → (D[j]? = C[j]? ∧ ¬ kA C k j ∧ ¬ kB C k j) ∨ D[j]? = some .unset ∧ (kA C k j ∨ kB C k j) := by
  have hck : C[k]? = some C[k] := Array.getElem?_eq_getElem hk
  unfold storeLocals at h
  simp only [hck, Option.bind_eq_bind, Option.bind_some] at h
  have self : ∀ {E : Array Slot}, k < E.size → storeSelf E k w = some D → D = E.setIfInBounds k (.val w) := by
    intro E hE q
    simp only [storeSelf, setAt, hE, if_true, Option.bind_eq_bind, Option.bind_some, hw] at q
    simpa using q.symm
  split at h
  · rename_i q
    have hk1 : k - 1 < C.size := by omega
    simp only [setAt, hk1, if_true, Option.bind_some] at h
    have e := self (by simpa using hk) h
    subst e
    refine ⟨by simp, by simp [hk], fun j hj => ?_⟩
    by_cases ej : k = j + 1
    · refine Or.inr ⟨?_, Or.inl ⟨ej, by rw [hck, q]⟩⟩
      rw [Array.getElem?_setIfInBounds_ne (Ne.symm hj), show j = k - 1 by omega]
      simp [hk1]
    · refine Or.inl ⟨?_, fun x => ej x.1, fun x => ?_⟩
      · rw [Array.getElem?_setIfInBounds_ne (Ne.symm hj), Array.getElem?_setIfInBounds_ne (by omega)]
      · obtain ⟨-, u, x1, -⟩ := x
        rw [hck, q] at x1; cases x1
  · rename_i u q
    split at h
    · rename_i hu
      by_cases hk1 : k + 1 < C.size
      · simp only [setAt, hk1, if_true, Option.bind_some] at h
        have e := self (by simpa using hk) h
        subst e
        refine ⟨by simp, by simp [hk], fun j hj => ?_⟩
        by_cases ej : j = k + 1
        · refine Or.inr ⟨?_, Or.inr ⟨ej, u, by rw [hck, q], hu⟩⟩
          rw [Array.getElem?_setIfInBounds_ne (Ne.symm hj), ej]
          simp [hk1]
        · refine Or.inl ⟨?_, fun x => ?_, fun x => ej x.1⟩
          · rw [Array.getElem?_setIfInBounds_ne (Ne.symm hj), Array.getElem?_setIfInBounds_ne (by omega)]
          · obtain ⟨-, x1⟩ := x
            rw [hck, q] at x1; cases x1
      · simp [setAt, hk1] at h
    · rename_i hu
      have e := self hk h
      subst e
      refine ⟨by simp, by simp [hk], fun j hj => Or.inl ⟨Array.getElem?_setIfInBounds_ne (Ne.symm hj), fun x => ?_, fun x => ?_⟩⟩
      · obtain ⟨-, x1⟩ := x
        rw [hck, q] at x1; cases x1
      · obtain ⟨-, u', x1, x2⟩ := x
        rw [hck, q] at x1; cases x1; exact hu x2
  · rename_i q
    have e := self hk h
    subst e
    refine ⟨by simp, by simp [hk], fun j hj => Or.inl ⟨Array.getElem?_setIfInBounds_ne (Ne.symm hj), fun x => ?_, fun x => ?_⟩⟩
    · obtain ⟨-, x1⟩ := x
      rw [hck, q] at x1; cases x1
    · obtain ⟨-, u', x1, x2⟩ := x
      rw [hck, q] at x1; cases x1
theorem set2_at {C D : Array Slot} {k : Nat} {w : Value} (hk : k + 1 < C.size) (hw : w.category = 2) (wf : ∀ k w, C[k]? = some (.val w) → w.category = 2 → C[k + 1]? = some .second) (h : storeLocals C k w = some D) :
    D.size = C.size ∧ D[k]? = some (.val w) ∧ D[k + 1]? = some .second ∧ ∀ j, j ≠ k → j ≠ k + 1 → (D[j]? = C[j]? ∧ ¬ kA C k j ∧ ¬ kD C k j) ∨ D[j]? = some .unset ∧ (kA C k j ∨ kD C k j) := by
  have hk0 : k < C.size := by omega
  have hck : C[k]? = some C[k] := Array.getElem?_eq_getElem hk0
  unfold storeLocals at h
  simp only [hck, Option.bind_eq_bind, Option.bind_some] at h
  have self : ∀ {E : Array Slot}, E.size = C.size → storeSelf E k w = some D → D.size = C.size ∧ D[k]? = some (.val w) ∧ D[k + 1]? = some .second ∧ ∀ j, j ≠ k → j ≠ k + 1 → (D[j]? = E[j]? ∧ ¬ kD E k j) ∨ D[j]? = some .unset ∧ kD E k j := by
    intro E hs q
    have h1 : k < E.size := by omega
    have h2 : k + 1 < E.size := by omega
    have h3 : (E.setIfInBounds k (.val w))[k + 1]? = some E[k + 1] := by rw [Array.getElem?_setIfInBounds_ne (by omega)]; exact Array.getElem?_eq_getElem h2
    simp only [storeSelf, setAt, h1, if_true, Option.bind_eq_bind, Option.bind_some, hw, h3] at q
    have plain : (¬ ∃ u, E[k + 1]? = some (.val u) ∧ u.category = 2) → some ((E.setIfInBounds k (.val w)).setIfInBounds (k + 1) .second) = some D → D.size = C.size ∧ D[k]? = some (.val w) ∧ D[k + 1]? = some .second ∧ ∀ j, j ≠ k → j ≠ k + 1 → (D[j]? = E[j]? ∧ ¬ kD E k j) ∨ D[j]? = some .unset ∧ kD E k j := by
      intro no q
      cases q
      refine ⟨by simp [hs], ?_, ?_, fun j hj hj1 => Or.inl ⟨?_, fun x => no x.2⟩⟩
      · rw [Array.getElem?_setIfInBounds_ne (by omega)]; simp [h1]
      · simp [h2]
      · rw [Array.getElem?_setIfInBounds_ne (by omega), Array.getElem?_setIfInBounds_ne (by omega)]
    split at q
    · rename_i u hu
      split at q
      · rename_i hu2
        by_cases h5 : k + 2 < E.size
        · simp [h5, h2] at q
          cases q
          refine ⟨by simp [hs], ?_, ?_, fun j hj hj1 => ?_⟩
          · rw [Array.getElem?_setIfInBounds_ne (by omega), Array.getElem?_setIfInBounds_ne (by omega)]; simp [h1]
          · simp [h2]
          · by_cases e : j = k + 2
            · refine Or.inr ⟨?_, e, u, by rw [Array.getElem?_eq_getElem h2, hu], hu2⟩
              rw [Array.getElem?_setIfInBounds_ne (by omega), e]
              simp [h5]
            · refine Or.inl ⟨?_, fun x => e x.1⟩
              rw [Array.getElem?_setIfInBounds_ne (by omega), Array.getElem?_setIfInBounds_ne (by omega), Array.getElem?_setIfInBounds_ne (by omega)]
        · simp [h5] at q
      · rename_i hu2
        refine plain ?_ (by simpa [h2] using q)
        rintro ⟨u', x1, x2⟩
        rw [Array.getElem?_eq_getElem h2, hu] at x1; cases x1; exact hu2 x2
    · rename_i hu
      refine plain ?_ (by simpa [h2] using q)
      rintro ⟨u', x1, x2⟩
      rw [Array.getElem?_eq_getElem h2] at x1; exact hu _ (Option.some.inj x1)
  split at h
  · rename_i q
    have hk1 : k - 1 < C.size := by omega
    simp only [setAt, hk1, if_true, Option.bind_some] at h
    obtain ⟨e1, e2, e3, e4⟩ := self (by simp) h
    refine ⟨e1, e2, e3, fun j hj hj1 => ?_⟩
    have h6 : ∀ i, i + 1 ≠ k ∨ k = 0 → i ≠ k ∨ k ≠ 0 → (C.setIfInBounds (k - 1) Slot.unset)[i]? = C[i]? := fun i hi hi2 => Array.getElem?_setIfInBounds_ne (by omega)
    have h7 : (C.setIfInBounds (k - 1) Slot.unset)[k + 1]? = C[k + 1]? := Array.getElem?_setIfInBounds_ne (by omega)
    rcases e4 j hj hj1 with ⟨r, r'⟩ | ⟨r, r1, u, r2, r3⟩
    · by_cases ej : k = j + 1
      · refine Or.inr ⟨?_, Or.inl ⟨ej, by rw [hck, q]⟩⟩
        rw [r, show j = k - 1 by omega]; simp [hk1]
      · refine Or.inl ⟨by rw [r]; exact h6 _ (by omega) (by omega), fun x => ej x.1, fun x => r' ⟨x.1, ?_⟩⟩
        rw [h7]; exact x.2
    · exact Or.inr ⟨r, Or.inr ⟨r1, u, by rw [← h7]; exact r2, r3⟩⟩
  · rename_i u q
    split at h
    · rename_i hu
      simp only [setAt, hk, if_true, Option.bind_some] at h
      obtain ⟨e1, e2, e3, e4⟩ := self (by simp) h
      have hsec := wf k u (by rw [hck, q]) hu
      refine ⟨e1, e2, e3, fun j hj hj1 => ?_⟩
      rcases e4 j hj hj1 with ⟨r, r'⟩ | ⟨r, r1, u', r2, r3⟩
      · refine Or.inl ⟨by rw [r]; exact Array.getElem?_setIfInBounds_ne (by omega), fun x => ?_, fun x => ?_⟩
        · obtain ⟨-, x1⟩ := x
          rw [hck, q] at x1; cases x1
        · obtain ⟨-, u', x1, x2⟩ := x
          rw [hsec] at x1; cases x1
      · simp [hk] at r2
    · rename_i hu
      obtain ⟨e1, e2, e3, e4⟩ := self rfl h
      refine ⟨e1, e2, e3, fun j hj hj1 => ?_⟩
      rcases e4 j hj hj1 with ⟨r, r'⟩ | ⟨r, r'⟩
      · refine Or.inl ⟨r, fun x => ?_, r'⟩
        obtain ⟨-, x1⟩ := x
        rw [hck, q] at x1; cases x1
      · exact Or.inr ⟨r, Or.inr r'⟩
  · rename_i q
    obtain ⟨e1, e2, e3, e4⟩ := self rfl h
    refine ⟨e1, e2, e3, fun j hj hj1 => ?_⟩
    rcases e4 j hj hj1 with ⟨r, r'⟩ | ⟨r, r'⟩
    · refine Or.inl ⟨r, fun x => ?_, r'⟩
      obtain ⟨-, x1⟩ := x
      rw [hck, q] at x1; cases x1
    · exact Or.inr ⟨r, Or.inr r'⟩
/-- a store succeeds: in a well kept array of locals -/
theorem store_some {C : Array Slot} {k : Nat} {w : Value} (hk : k + (w.category - 1) < C.size) (hc : w.category = 1 ∨ w.category = 2) (wf : ∀ k w, C[k]? = some (.val w) → w.category = 2 → C[k + 1]? = some .second) :
    ∃ D, storeLocals C k w = some D := by
  have hk0 : k < C.size := by omega
  have hck : C[k]? = some C[k] := Array.getElem?_eq_getElem hk0
  have self : ∀ {E : Array Slot}, E.size = C.size → (∀ u, E[k + 1]? = some (.val u) → u.category = 2 → k + 2 < E.size) → ∃ D, storeSelf E k w = some D := by
    intro E hs hn
    have h1 : k < E.size := by omega
    simp only [storeSelf, setAt, h1, if_true, Option.bind_eq_bind, Option.bind_some]
    rcases hc with hc | hc
    · exact ⟨E.setIfInBounds k (.val w), by simp [hc]⟩
    · have h2 : k + 1 < E.size := by omega
      have h3 : (E.setIfInBounds k (.val w))[k + 1]? = some E[k + 1] := by rw [Array.getElem?_setIfInBounds_ne (by omega)]; exact Array.getElem?_eq_getElem h2
      simp only [hc, if_true, h3, Option.bind_some]
      split
      · rename_i u hu
        split
        · rename_i hu2
          have h5 := hn u (by rw [Array.getElem?_eq_getElem h2, hu]) hu2
          exact ⟨_, by simp [h5, h2]; rfl⟩
        · exact ⟨_, by simp [h2]; rfl⟩
      · exact ⟨_, by simp [h2]; rfl⟩
  have next : ∀ u, C[k + 1]? = some (.val u) → u.category = 2 → k + 2 < C.size := fun u h1 h2 => (Array.getElem?_eq_some_iff.mp (wf _ _ h1 h2)).1
  unfold storeLocals
  simp only [hck, Option.bind_eq_bind, Option.bind_some]
  split
  · have hk1 : k - 1 < C.size := by omega
    simp only [setAt, hk1, if_true, Option.bind_some]
    refine self (by simp) fun u h1 h2 => ?_
    rw [Array.getElem?_setIfInBounds_ne (by omega)] at h1
    simpa using next u h1 h2
  · rename_i u q
    split
    · rename_i hu
      have h5 := (Array.getElem?_eq_some_iff.mp (wf k u (by rw [hck, q]) hu)).1
      simp only [setAt, h5, if_true, Option.bind_some]
      refine self (by simp) fun u h1 h2 => ?_
      simp [h5] at h1
    · exact self rfl next
  · exact self rfl next
theorem store_ok1 {ad : Nat → Addr} {L : QLoc} {C : Array Slot} {k : Nat} {v : Value} (H : QLocOk ad L C) (hv : v.category = 1) (hk : k < L.length) :
    ∃ D, storeLocals C k (qv ad v) = some D ∧ QLocOk ad ((lkill L k).set k (some v)) D ∧ D.size = C.size := by
  obtain ⟨H1, H2, H3, H4⟩ := H
  have hc : (qv ad v).category = 1 := by rw [qv_cat, hv]
  obtain ⟨D, hD⟩ := store_some (C := C) (k := k) (w := qv ad v) (by rw [hc]; omega) (Or.inl hc) H3
  obtain ⟨d1, d2, d3⟩ := set1_at (by omega) hc hD
  refine ⟨D, hD, ⟨by simp [lkill_len, H1, d1], fun j u hj => ?_, fun j w hj hw => ?_, fun j hj => ?_⟩, d1⟩
  · rw [lget_set (by rw [lkill_len]; exact hk)] at hj
    split at hj
    · rename_i e; cases hj; rw [e]; exact d2
    · rename_i ne
      obtain ⟨g1, g2⟩ := lget_kill hj
      have g3 := H2 j u g1
      rcases d3 j ne with ⟨r, -, -⟩ | ⟨-, ⟨r1, r2⟩ | ⟨r1, w, r2, r3⟩⟩
      · rw [r]; exact g3
      · obtain ⟨i, w, z1, z2, z3⟩ := H4 k r2
        obtain rfl : i = j := by omega
        rw [g3] at z2
        cases z2
        rw [qv_cat] at z3
        exact absurd z3 (g2 r1)
      · have := H3 k w r2 r3
        rw [← r1, g3] at this
        cases this
  · by_cases e : j = k
    · subst e; rw [d2] at hj; cases hj; rw [hc] at hw; cases hw
    · rcases d3 j e with ⟨r, nA, nB⟩ | ⟨r, -⟩
      · rw [r] at hj
        have g := H3 j w hj hw
        have e2 : j + 1 ≠ k := fun q => nA ⟨q.symm, by rw [← q]; exact g⟩
        rcases d3 (j + 1) e2 with ⟨z, -, -⟩ | ⟨-, ⟨z1, z2⟩ | ⟨z1, -⟩⟩
        · rw [z]; exact g
        · obtain ⟨i, u, y1, y2, y3⟩ := H4 k z2
          obtain rfl : i = j + 1 := by omega
          rw [g] at y2; cases y2
        · omega
      · rw [r] at hj; cases hj
  · by_cases e : j = k
    · subst e; rw [d2] at hj; cases hj
    · rcases d3 j e with ⟨r, nA, nB⟩ | ⟨r, -⟩
      · rw [r] at hj
        obtain ⟨i, w, y1, y2, y3⟩ := H4 j hj
        refine ⟨i, w, y1, ?_, y3⟩
        have ei : i ≠ k := fun q => nB ⟨by omega, w, by rw [← q]; exact y2, y3⟩
        rcases d3 i ei with ⟨z, -, -⟩ | ⟨-, ⟨z1, z2⟩ | ⟨z1, u, z2, z3⟩⟩
        · rw [z]; exact y2
        · omega
        · have := H3 k u z2 z3
          rw [← z1, y2] at this; cases this
      · rw [r] at hj; cases hj
theorem store_ok2 {ad : Nat → Addr} {L : QLoc} {C : Array Slot} {k : Nat} {x : Int64} (H : QLocOk ad L C) (hk : k + 1 < L.length) :
    ∃ D, storeLocals C k (.long x) = some D ∧ QLocOk ad (((lkill L k).set k (some (.long x))).set (k + 1) none) D ∧ D.size = C.size := by
  obtain ⟨H1, H2, H3, H4⟩ := H
  have hc : (Value.long x).category = 2 := rfl
  obtain ⟨D, hD⟩ := store_some (C := C) (k := k) (w := .long x) (by rw [hc]; omega) (Or.inr hc) H3
  obtain ⟨d1, d2, d2', d3⟩ := set2_at (by omega) hc H3 hD
  refine ⟨D, hD, ⟨by simp [lkill_len, H1, d1], fun j u hj => ?_, fun j w hj hw => ?_, fun j hj => ?_⟩, d1⟩
  · rw [lget_set (by simp [lkill_len]; exact hk)] at hj
    split at hj
    · cases hj
    · rename_i ne1
      rw [lget_set (by rw [lkill_len]; omega)] at hj
      split at hj
      · rename_i e; cases hj; rw [e]; exact d2
      · rename_i ne
        obtain ⟨g1, g2⟩ := lget_kill hj
        have g3 := H2 j u g1
        rcases d3 j ne ne1 with ⟨r, -, -⟩ | ⟨-, ⟨r1, r2⟩ | ⟨r1, w, r2, r3⟩⟩
        · rw [r]; exact g3
        · obtain ⟨i, w, z1, z2, z3⟩ := H4 k r2
          obtain rfl : i = j := by omega
          rw [g3] at z2
          cases z2
          rw [qv_cat] at z3
          exact absurd z3 (g2 r1)
        · have := H3 (k + 1) w r2 r3
          rw [show k + 1 + 1 = j by omega, g3] at this
          cases this
  · by_cases e : j = k
    · rw [e]; exact d2'
    · by_cases e1 : j = k + 1
      · rw [e1, d2'] at hj; cases hj
      · rcases d3 j e e1 with ⟨r, nA, nB⟩ | ⟨r, -⟩
        · rw [r] at hj
          have g := H3 j w hj hw
          have e2 : j + 1 ≠ k := fun q => nA ⟨q.symm, by rw [← q]; exact g⟩
          rcases d3 (j + 1) e2 (by omega) with ⟨z, -, -⟩ | ⟨-, ⟨z1, z2⟩ | ⟨z1, -⟩⟩
          · rw [z]; exact g
          · obtain ⟨i, u, y1, y2, y3⟩ := H4 k z2
            obtain rfl : i = j + 1 := by omega
            rw [g] at y2; cases y2
          · omega
        · rw [r] at hj; cases hj
  · by_cases e : j = k
    · rw [e, d2] at hj; cases hj
    · by_cases e1 : j = k + 1
      · exact ⟨k, _, e1, d2, hc⟩
      · rcases d3 j e e1 with ⟨r, nA, nB⟩ | ⟨r, -⟩
        · rw [r] at hj
          obtain ⟨i, w, y1, y2, y3⟩ := H4 j hj
          refine ⟨i, w, y1, ?_, y3⟩
          have ei : i ≠ k := fun q => e1 (by omega)
          have ei1 : i ≠ k + 1 := fun q => nB ⟨by omega, w, by rw [← q]; exact y2, y3⟩
          rcases d3 i ei ei1 with ⟨z, -, -⟩ | ⟨-, ⟨z1, z2⟩ | ⟨z1, u, z2, z3⟩⟩
          · rw [z]; exact y2
          · omega
          · have := H3 (k + 1) u z2 z3
            rw [show k + 1 + 1 = i by omega, y2] at this; cases this
        · rw [r] at hj; cases hj
theorem store_ok {ad : Nat → Addr} {L L' : QLoc} {C : Array Slot} {k : Nat} {v : Value} (H : QLocOk ad L C) (h : lput L k v = some L') :
    ∃ D, storeLocals C k (qv ad v) = some D ∧ QLocOk ad L' D ∧ D.size = C.size := by
  have one : v.category = 1 → (bif Nat.ble (k + 1) L.length then some ((lkill L k).set k (some v)) else none) = some L' → ∃ D, storeLocals C k (qv ad v) = some D ∧ QLocOk ad L' D ∧ D.size = C.size := by
    intro hv h
    cases hb : Nat.ble (k + 1) L.length with
    | false => rw [hb] at h; cases h
    | true => rw [hb] at h; cases h; exact store_ok1 H hv (Nat.le_of_ble_eq_true hb)
  cases v with
  | long x =>
    simp only [lput] at h
    cases hb : Nat.ble (k + 2) L.length with
    | false => rw [hb] at h; cases h
    | true => rw [hb] at h; cases h; exact store_ok2 H (Nat.le_of_ble_eq_true hb)
  | double x => simp [lput] at h
  | int x => exact one rfl h
  | float x => exact one rfl h
  | null => exact one rfl h
  | ref x => exact one rfl h
  | retAddr x => exact one rfl h
/-! ## facts of the tables, by evaluation -/
theorem fInj : ∀ i, i < nF → ∀ j, j < nF → fNm i = fNm j → i = j := by decide +kernel
theorem fPrs : ∀ i, i < nF → parseFieldDescriptor (fDs i) = some (fTy i) := by decide +kernel
theorem cDefs : ∀ i, i < nF → vget cDef i = some (defaultValue (fTy i)) := by decide +kernel
theorem cDefL : cDef.length = nF := by decide +kernel
theorem fDef : ∀ i, i < nF → ∀ a, defaultValue (fTy i) ≠ .ref a := by
  intro i _ a
  cases fTy i <;> simp [defaultValue]
theorem kPlain : ∀ k, k < 2 → plainName (kName k) = true := by
  intro k hk
  rcases k with _ | _ | k
  · first | decide +kernel | (simp [kName, plainName, overriddenIn]; done)
  · first | decide +kernel | (simp [kName, plainName, overriddenIn]; done)
  · omega
theorem pKlt : ∀ m, m < pN → pK m < 2 := by decide +kernel
theorem pSig : ∀ m, m < pN → (parseMethodDescriptor (pDs m)).map (fun sg => sg.parameters.length) = some (pNA m) := by decide +kernel
theorem pOwn : ∀ k, k < 2 → kName k ≠ "java/lang/invoke/MethodHandle" ∧ kName k ≠ "java/lang/invoke/VarHandle" := by decide +kernel
theorem mAlt : ∀ m ∈ mA, m < pN := by decide +kernel
theorem mVlt : ∀ m ∈ mV, m ∈ mA ∧ pK m = 1 := by decide +kernel
theorem mPlt : ∀ m ∈ mP, m ∈ mA ∧ pK m = 1 := by decide +kernel
theorem mSlt : ∀ m ∈ mS, m ∈ mA := by decide +kernel
theorem mIlt : ∀ m ∈ mI, m ∈ mA ∧ pK m = 1 ∧ pNm m = "<init>" ∧ pRet m = none := by decide +kernel
theorem kOne : kName 1 = cName := rfl
set_option maxRecDepth 100000 in
theorem pChk0 : ∀ m, m < pN → ∀ pc, pc < pTop → (match pCode m pc with | some t => qchk m pc t.1 t.2 | none => true) = true := by decide +kernel
theorem pIn {m pc : Nat} {t : Instr × Nat} (h : pCode m pc = some t) : m < pN ∧ pc < pTop := by
  unfold pCode at h
  cases h1 : Nat.ble pN m with
  | true => rw [h1] at h; cases h
  | false =>
    cases h2 : Nat.ble pTop pc with
    | true => rw [h1, h2] at h; cases h
    | false => exact ⟨Nat.lt_of_not_le (fun q => by rw [Nat.ble_eq_true_of_le q] at h1; cases h1), Nat.lt_of_not_le (fun q => by rw [Nat.ble_eq_true_of_le q] at h2; cases h2)⟩
theorem pChk {m pc : Nat} {i : Instr} {aux : Nat} (h : pCode m pc = some (i, aux)) : qchk m pc i aux = true := by
  have q := pChk0 m (pIn h).1 pc (pIn h).2
  rw [h] at q
  exact q
theorem pDec {m pc : Nat} {i : Instr} {aux : Nat} (h : pCode m pc = some (i, aux)) : decode (pBytes m) pc = .ok (i, ilen i) := by
  have q := pChk h
  unfold qchk at q
  exact of_decide_eq_true (Bool.and_eq_true_iff.mp q).1
theorem pDecN {m pc n : Nat} {i : Instr} {aux : Nat} (h : pCode m pc = some (i, aux)) (hn : ilen i = n) : decode (pBytes m) pc = .ok (i, n) := by
  rw [← hn]; exact pDec h
theorem pRest {m pc : Nat} {i : Instr} {aux : Nat} (h : pCode m pc = some (i, aux)) : qlk m pc i aux = true := by
  have q := pChk h
  unfold qchk at q
  exact (Bool.and_eq_true_iff.mp q).2
theorem qtgt_spec {pc : Nat} {o : Int} {aux : Nat} (h : qtgt pc o aux = true) : 0 ≤ (pc : Int) + o ∧ ((pc : Int) + o).toNat = aux := by
  unfold qtgt at h
  have h2 := Bool.and_eq_true_iff.mp h
  exact ⟨of_decide_eq_true h2.1, of_decide_eq_true h2.2⟩
/-! ## triples -/
def QCx (Z : State) (p : Program) (R : Room) (s : State) (mid : MethodId) (meth : Method) (c : Code) (m : Nat) : Prop :=
  p.tables.exec = Jvm.exec ∧ Z.Warmed39 s.vm ∧ c.code = pBytes m ∧ c.maxLocals = pMaxL m ∧ meth.sig.returnType = pRet m ∧ s.vm.findClass (kName (pK m)) = some mid.cls ∧ meth.name = pNm m ∧ pFr m ≤ R.frames ∧ pLo m ≤ R.locals
def QTri (l : Launch) (Z : State) (n0 : Nat) (ad : Nat → Addr) (m : Nat) (st : QSt) (v : Option Value) (σ' : QHeap) : Prop :=
  st.2.2.2.length ≤ σ'.length ∧ qhs st.2.2.2 ≤ qhs σ' ∧
  ∀ (p : Program) (e : Env) (R : Room) (s : State) (mid : MethodId) (args : Array Value) (below : List Frame) (meth : Method) (c : Code) (T : State) (locs : List Loc) (cells slots : Nat) (C : Array Slot),
    QCx Z p R s mid meth c m → Stand p l e R s mid args below meth c T locs cells slots → QRep Z n0 ad T.heap st.2.2.2 → Fr n0 locs → QLocOk ad st.2.1 C → C.size = c.maxLocals →
    n0 + (st.2.2.2.length - k0) = s.heap.size + cells → cells + (σ'.length - st.2.2.2.length) ≤ R.cells → slots + (qhs σ' - qhs st.2.2.2) ≤ R.slots →
    ∃ T' locs', Stand p l e R s mid args below meth c T' locs' (cells + (σ'.length - st.2.2.2.length)) (slots + (qhs σ' - qhs st.2.2.2)) ∧ QRep Z n0 ad T'.heap σ' ∧ Fr n0 locs' ∧
      ∀ fs, (∀ (f : JFrame) (acts : List Action), f.method = mid → f.locked = none → f.entered = [] → (doReturn e (T'.setTop f) acts (v.map (qv ad))).1 = T'.setFrames fs) →
        Steps p.tables e below (T.setTop (mkF mid st.1 C (st.2.2.1.map (qv ad)))) (T'.setFrames fs)
section Triples
variable {l : Launch} {Z : State} {n0 : Nat} {ad : Nat → Addr} {a0 : Array Value} {m : Nat} {v : Option Value} {σ' : QHeap}
theorem QTri.gen {st st' : QSt} (h : QTri l Z n0 ad m st' v σ') (g1 : st.2.2.2.length ≤ st'.2.2.2.length) (g2 : qhs st.2.2.2 ≤ qhs st'.2.2.2)
    (hs : ∀ (p : Program) (e : Env) (R : Room) (s : State) (mid : MethodId) (args : Array Value) (below : List Frame) (meth : Method) (c : Code) (T : State) (locs : List Loc) (cells slots : Nat) (C : Array Slot),
      QCx Z p R s mid meth c m → Stand p l e R s mid args below meth c T locs cells slots → QRep Z n0 ad T.heap st.2.2.2 → Fr n0 locs → QLocOk ad st.2.1 C → C.size = c.maxLocals →
      n0 + (st.2.2.2.length - k0) = s.heap.size + cells → cells + (st'.2.2.2.length - st.2.2.2.length) ≤ R.cells → slots + (qhs st'.2.2.2 - qhs st.2.2.2) ≤ R.slots →
      ∃ T₁ locs₁ C₁, Stand p l e R s mid args below meth c T₁ locs₁ (cells + (st'.2.2.2.length - st.2.2.2.length)) (slots + (qhs st'.2.2.2 - qhs st.2.2.2)) ∧ QRep Z n0 ad T₁.heap st'.2.2.2 ∧ Fr n0 locs₁ ∧ QLocOk ad st'.2.1 C₁ ∧ C₁.size = c.maxLocals ∧
        ∀ target, Steps p.tables e below (T₁.setTop (mkF mid st'.1 C₁ (st'.2.2.1.map (qv ad)))) target → Steps p.tables e below (T.setTop (mkF mid st.1 C (st.2.2.1.map (qv ad)))) target) :
    QTri l Z n0 ad m st v σ' := by
  obtain ⟨h1, h2, h3⟩ := h
  refine ⟨Nat.le_trans g1 h1, Nat.le_trans g2 h2, fun p e R s mid args below meth c T locs cells slots C hcx X hR hF hL hC hn hc hsl => ?_⟩
  obtain ⟨T₁, locs₁, C₁, X₁, R₁, F₁, L₁, C1, S₁⟩ := hs p e R s mid args below meth c T locs cells slots C hcx X hR hF hL hC hn (by omega) (by omega)
  have hk := hR.1
  obtain ⟨T', locs', X', R', F', S'⟩ := h3 p e R s mid args below meth c T₁ locs₁ _ _ C₁ hcx X₁ R₁ F₁ L₁ C1 (by omega) (by omega) (by omega)
  have e1 : cells + (st'.2.2.2.length - st.2.2.2.length) + (σ'.length - st'.2.2.2.length) = cells + (σ'.length - st.2.2.2.length) := by omega
  have e2 : slots + (qhs st'.2.2.2 - qhs st.2.2.2) + (qhs σ' - qhs st'.2.2.2) = slots + (qhs σ' - qhs st.2.2.2) := by omega
  rw [e1, e2] at X'
  exact ⟨T', locs', X', R', F', fun fs hf => S₁ _ (S' fs hf)⟩
theorem QTri.pure {st st' : QSt} (h : QTri l Z n0 ad m st' v σ') (hσ : st'.2.2.2 = st.2.2.2)
    (hs : ∀ (p : Program) (e : Env) (R : Room) (s : State) (mid : MethodId) (args : Array Value) (below : List Frame) (meth : Method) (c : Code) (T : State) (locs : List Loc) (cells slots : Nat) (C : Array Slot),
      QCx Z p R s mid meth c m → Stand p l e R s mid args below meth c T locs cells slots → QRep Z n0 ad T.heap st.2.2.2 → QLocOk ad st.2.1 C → C.size = c.maxLocals →
      ∃ T₁ C₁, Stand p l e R s mid args below meth c T₁ locs cells slots ∧ T₁.heap = T.heap ∧ QLocOk ad st'.2.1 C₁ ∧ C₁.size = c.maxLocals ∧
        ∀ target, Steps p.tables e below (T₁.setTop (mkF mid st'.1 C₁ (st'.2.2.1.map (qv ad)))) target → Steps p.tables e below (T.setTop (mkF mid st.1 C (st.2.2.1.map (qv ad)))) target) :
    QTri l Z n0 ad m st v σ' := by
  refine QTri.gen h (by rw [hσ]; exact Nat.le_refl _) (by rw [hσ]; exact Nat.le_refl _) fun p e R s mid args below meth c T locs cells slots C hcx X hR hF hL hC hn hc hsl => ?_
  obtain ⟨T₁, C₁, X₁, hh, L₁, C1, S₁⟩ := hs p e R s mid args below meth c T locs cells slots C hcx X hR hL hC
  refine ⟨T₁, locs, C₁, ?_, by rw [hσ, hh]; exact hR, hF, L₁, C1, S₁⟩
  rw [hσ, Nat.sub_self, Nat.sub_self]
  exact X₁
/-- a step of the frame alone -/
theorem QTri.frame {pc pc' : Nat} {L L' : QLoc} {S S' : List Value} {σ : QHeap} (h : QTri l Z n0 ad m (pc', L', S', σ) v σ')
    (hs : ∀ (p : Program) (e : Env) (R : Room) (s : State) (mid : MethodId) (args : Array Value) (below : List Frame) (meth : Method) (c : Code) (T : State) (locs : List Loc) (cells slots : Nat) (C : Array Slot),
      QCx Z p R s mid meth c m → Stand p l e R s mid args below meth c T locs cells slots → QRep Z n0 ad T.heap σ → QLocOk ad L C → C.size = c.maxLocals →
      ∃ C₁, QLocOk ad L' C₁ ∧ C₁.size = c.maxLocals ∧ ∀ target, Steps p.tables e below (T.setTop (mkF mid pc' C₁ (S'.map (qv ad)))) target → Steps p.tables e below (T.setTop (mkF mid pc C (S.map (qv ad)))) target) :
    QTri l Z n0 ad m (pc, L, S, σ) v σ' :=
  QTri.pure h rfl fun p e R s mid args below meth c T locs cells slots C hcx X hR hL hC => by
    obtain ⟨C₁, h1, h2, h3⟩ := hs p e R s mid args below meth c T locs cells slots C hcx X hR hL hC
    exact ⟨T, C₁, X, rfl, h1, h2, h3⟩
/-- a step of pc and stack alone -/
theorem QTri.stack {pc pc' : Nat} {L : QLoc} {S S' : List Value} {σ : QHeap} (h : QTri l Z n0 ad m (pc', L, S', σ) v σ')
    (hs : ∀ (p : Program) (e : Env) (R : Room) (s : State) (mid : MethodId) (args : Array Value) (below : List Frame) (meth : Method) (c : Code) (T : State) (locs : List Loc) (cells slots : Nat) (C : Array Slot) (target : State),
      p.tables.exec = Jvm.exec → Z.Warmed39 s.vm → c.code = pBytes m → s.vm.findClass (kName (pK m)) = some mid.cls → Stand p l e R s mid args below meth c T locs cells slots → QRep Z n0 ad T.heap σ → QLocOk ad L C →
      Steps p.tables e below (T.setTop (mkF mid pc' C (S'.map (qv ad)))) target → Steps p.tables e below (T.setTop (mkF mid pc C (S.map (qv ad)))) target) :
    QTri l Z n0 ad m (pc, L, S, σ) v σ' :=
  QTri.frame h fun p e R s mid args below meth c T locs cells slots C hcx X hR hL hC => ⟨C, hL, hC, fun target k => hs p e R s mid args below meth c T locs cells slots C target hcx.1 hcx.2.1 hcx.2.2.1 hcx.2.2.2.2.2.1 X hR hL k⟩
/-! ### what each helper says -/
theorem qload_inv {pc : Nat} {L : QLoc} {S : List Value} {σ : QHeap} {k : Nat} {ok : Value → Bool} {st' : QSt} (h : qload pc L S σ k ok = some st') : ∃ v, lget L k = some v ∧ ok v = true ∧ st' = (pc, L, v :: S, σ) := by
  unfold qload at h
  split at h
  · rename_i v hv
    cases ho : ok v with
    | true => rw [ho] at h; cases h; exact ⟨v, hv, ho, rfl⟩
    | false => rw [ho] at h; cases h
  · cases h
theorem qstore_inv {pc : Nat} {L : QLoc} {S : List Value} {σ : QHeap} {k : Nat} {ok : Value → Bool} {st' : QSt} (h : qstore pc L S σ k ok = some st') : ∃ v S' L', S = v :: S' ∧ ok v = true ∧ lput L k v = some L' ∧ st' = (pc, L', S', σ) := by
  unfold qstore at h
  split at h
  · rename_i v S'
    cases ho : ok v with
    | true =>
      rw [ho] at h
      simp only [cond_true] at h
      split at h
      · rename_i L' hL'
        cases h; exact ⟨v, S', L', rfl, ho, hL', rfl⟩
      · cases h
    | false => rw [ho] at h; cases h
  · cases h
theorem qbin_inv {pc : Nat} {L : QLoc} {S : List Value} {σ : QHeap} {f : Int32 → Int32 → Int32} {st' : QSt} (h : qbin pc L S σ f = some st') : ∃ x y S', S = .int y :: .int x :: S' ∧ st' = (pc, L, .int (f x y) :: S', σ) := by
  unfold qbin at h
  split at h
  · cases h; exact ⟨_, _, _, rfl, rfl⟩
  · cases h
theorem qbino_inv {pc : Nat} {L : QLoc} {S : List Value} {σ : QHeap} {f : Int32 → Int32 → Option Int32} {st' : QSt} (h : qbino pc L S σ f = some st') : ∃ x y z S', S = .int y :: .int x :: S' ∧ f x y = some z ∧ st' = (pc, L, .int z :: S', σ) := by
  unfold qbino at h
  split at h
  · obtain ⟨z, hz, h⟩ := Option.bind_eq_some_iff.mp h
    cases h; exact ⟨_, _, _, _, rfl, hz, rfl⟩
  · cases h
theorem qbinJ_inv {pc : Nat} {L : QLoc} {S : List Value} {σ : QHeap} {f : Int64 → Int64 → Int64} {st' : QSt} (h : qbinJ pc L S σ f = some st') : ∃ x y S', S = .long y :: .long x :: S' ∧ st' = (pc, L, .long (f x y) :: S', σ) := by
  unfold qbinJ at h
  split at h
  · cases h; exact ⟨_, _, _, rfl, rfl⟩
  · cases h
theorem qshJ_inv {pc : Nat} {L : QLoc} {S : List Value} {σ : QHeap} {f : Int64 → Int32 → Int64} {st' : QSt} (h : qshJ pc L S σ f = some st') : ∃ x y S', S = .int y :: .long x :: S' ∧ st' = (pc, L, .long (f x y) :: S', σ) := by
  unfold qshJ at h
  split at h
  · cases h; exact ⟨_, _, _, rfl, rfl⟩
  · cases h
theorem quni_inv {pc : Nat} {L : QLoc} {S : List Value} {σ : QHeap} {f : Int32 → Value} {st' : QSt} (h : quni pc L S σ f = some st') : ∃ x S', S = .int x :: S' ∧ st' = (pc, L, f x :: S', σ) := by
  unfold quni at h
  split at h
  · cases h; exact ⟨_, _, rfl, rfl⟩
  · cases h
theorem quniJ_inv {pc : Nat} {L : QLoc} {S : List Value} {σ : QHeap} {f : Int64 → Value} {st' : QSt} (h : quniJ pc L S σ f = some st') : ∃ x S', S = .long x :: S' ∧ st' = (pc, L, f x :: S', σ) := by
  unfold quniJ at h
  split at h
  · cases h; exact ⟨_, _, rfl, rfl⟩
  · cases h
theorem qif_inv {pc : Nat} {L : QLoc} {S : List Value} {σ : QHeap} {cd : ClassFile.Cond} {t : Nat} {st' : QSt} (h : qif pc L S σ cd t = some st') : ∃ x S', S = .int x :: S' ∧ st' = (bif ifCond.holds cd x then t else pc, L, S', σ) := by
  unfold qif at h
  split at h
  · cases h; exact ⟨_, _, rfl, rfl⟩
  · cases h
theorem qicmp_inv {pc : Nat} {L : QLoc} {S : List Value} {σ : QHeap} {cd : ClassFile.Cond} {t : Nat} {st' : QSt} (h : qicmp pc L S σ cd t = some st') : ∃ x y S', S = .int y :: .int x :: S' ∧ st' = (bif if_icmp.holds cd x y then t else pc, L, S', σ) := by
  unfold qicmp at h
  split at h
  · cases h; exact ⟨_, _, _, rfl, rfl⟩
  · cases h
theorem qget_inv {pc : Nat} {L : QLoc} {S : List Value} {σ : QHeap} {k : Nat} {st' : QSt} (h : qget pc L S σ k = some st') : ∃ a S' vs v, S = .ref a :: S' ∧ hget σ a = some (.inl vs) ∧ vget vs k = some v ∧ st' = (pc, L, v :: S', σ) := by
  unfold qget at h
  split at h
  · split at h
    · split at h
      · cases h; exact ⟨_, _, _, _, rfl, by assumption, by assumption, rfl⟩
      · cases h
    · cases h
  · cases h
theorem qput_inv {pc : Nat} {L : QLoc} {S : List Value} {σ : QHeap} {k : Nat} {st' : QSt} (h : qput pc L S σ k = some st') : ∃ v a S' vs w, S = v :: .ref a :: S' ∧ hget σ a = some (.inl vs) ∧ k0 ≤ a ∧ k < vs.length ∧ qfit (fTy k) v = some w ∧ st' = (pc, L, S', σ.set a (.inl (vs.set k w))) := by
  unfold qput at h
  split at h
  · rename_i v a S'
    split at h
    · rename_i vs hvs
      cases hbb : (Nat.ble k0 a && Nat.ble (k + 1) vs.length) with
      | false => rw [hbb] at h; cases h
      | true =>
        rw [hbb] at h
        simp only [cond_true] at h
        obtain ⟨u, hu, h⟩ := Option.bind_eq_some_iff.mp h
        cases h
        obtain ⟨b1, b2⟩ := Bool.and_eq_true_iff.mp hbb
        exact ⟨v, a, S', vs, u, rfl, hvs, Nat.le_of_ble_eq_true b1, Nat.le_of_ble_eq_true b2, hu, rfl⟩
    · cases h
  · cases h
theorem qald_inv {pc : Nat} {L : QLoc} {S : List Value} {σ : QHeap} {ok : FieldType → Bool} {st' : QSt} (h : qald pc L S σ ok = some st') : ∃ j a S' ty xs v, S = .int j :: .ref a :: S' ∧ hget σ a = some (.inr (.inl (ty, xs))) ∧ ok ty = true ∧ aget xs j = some v ∧ st' = (pc, L, .int v :: S', σ) := by
  unfold qald at h
  split at h
  · rename_i j a S'
    split at h
    · rename_i x hx
      cases ht : ok x.1 with
      | false => rw [ht] at h; cases h
      | true =>
        rw [ht] at h
        simp only [cond_true] at h
        obtain ⟨u, hu, h⟩ := Option.bind_eq_some_iff.mp h
        cases h
        exact ⟨j, a, S', x.1, x.2, u, rfl, hx, ht, hu, rfl⟩
    · cases h
  · cases h
theorem qaldJ_inv {pc : Nat} {L : QLoc} {S : List Value} {σ : QHeap} {st' : QSt} (h : qaldJ pc L S σ = some st') : ∃ j a S' xs v, S = .int j :: .ref a :: S' ∧ hget σ a = some (.inr (.inr xs)) ∧ aget xs j = some v ∧ st' = (pc, L, .long v :: S', σ) := by
  unfold qaldJ at h
  split at h
  · rename_i j a S'
    split at h
    · rename_i x hx
      obtain ⟨u, hu, h⟩ := Option.bind_eq_some_iff.mp h
      cases h
      exact ⟨j, a, S', x, u, rfl, hx, hu, rfl⟩
    · cases h
  · cases h
theorem qast_inv {pc : Nat} {L : QLoc} {S : List Value} {σ : QHeap} {ok : FieldType → Bool} {st' : QSt} (h : qast pc L S σ ok = some st') : ∃ v j a S' ty xs ys, S = .int v :: .int j :: .ref a :: S' ∧ hget σ a = some (.inr (.inl (ty, xs))) ∧ ok ty = true ∧ k0 ≤ a ∧ aset xs j (qnar ty v) = some ys ∧ st' = (pc, L, S', σ.set a (.inr (.inl (ty, ys)))) := by
  unfold qast at h
  split at h
  · rename_i v j a S'
    split at h
    · rename_i x hx
      cases ht : (ok x.1 && Nat.ble k0 a) with
      | false => rw [ht] at h; cases h
      | true =>
        rw [ht] at h
        simp only [cond_true] at h
        obtain ⟨u, hu, h⟩ := Option.bind_eq_some_iff.mp h
        cases h
        obtain ⟨b1, b2⟩ := Bool.and_eq_true_iff.mp ht
        exact ⟨v, j, a, S', x.1, x.2, u, rfl, hx, b1, Nat.le_of_ble_eq_true b2, hu, rfl⟩
    · cases h
  · cases h
theorem qastJ_inv {pc : Nat} {L : QLoc} {S : List Value} {σ : QHeap} {st' : QSt} (h : qastJ pc L S σ = some st') : ∃ v j a S' xs ys, S = .long v :: .int j :: .ref a :: S' ∧ hget σ a = some (.inr (.inr xs)) ∧ k0 ≤ a ∧ aset xs j v = some ys ∧ st' = (pc, L, S', σ.set a (.inr (.inr ys))) := by
  unfold qastJ at h
  split at h
  · rename_i v j a S'
    split at h
    · rename_i x hx
      cases ht : (Nat.ble k0 a) with
      | false => rw [ht] at h; cases h
      | true =>
        rw [ht] at h
        simp only [cond_true] at h
        obtain ⟨u, hu, h⟩ := Option.bind_eq_some_iff.mp h
        cases h
        exact ⟨v, j, a, S', x, u, rfl, hx, Nat.le_of_ble_eq_true ht, hu, rfl⟩
    · cases h
  · cases h
theorem qlen_inv {pc : Nat} {L : QLoc} {S : List Value} {σ : QHeap} {st' : QSt} (h : qlen pc L S σ = some st') : ∃ a S' n, S = .ref a :: S' ∧ ((∃ ty xs, hget σ a = some (.inr (.inl (ty, xs))) ∧ n = xs.length) ∨ ∃ xs, hget σ a = some (.inr (.inr xs)) ∧ n = xs.length) ∧ st' = (pc, L, .int n.toInt32 :: S', σ) := by
  unfold qlen at h
  split at h
  · rename_i a S'
    split at h
    · rename_i x hx
      cases h; exact ⟨a, S', _, rfl, Or.inl ⟨x.1, x.2, hx, rfl⟩, rfl⟩
    · rename_i x hx
      cases h; exact ⟨a, S', _, rfl, Or.inr ⟨x, hx, rfl⟩, rfl⟩
    · cases h
  · cases h
theorem isI_inv {v : Value} (h : isI v = true) : ∃ x, v = .int x := by cases v <;> simp [isI] at h; exact ⟨_, rfl⟩
theorem isJ_inv {v : Value} (h : isJ v = true) : ∃ x, v = .long x := by cases v <;> simp [isJ] at h; exact ⟨_, rfl⟩
theorem isR_inv {v : Value} (h : isR v = true) : ∃ x, v = .ref x := by cases v <;> simp [isR] at h; exact ⟨_, rfl⟩
theorem aget_inv {α : Type} {xs : List α} {j : Int32} {x : α} (h : aget xs j = some x) : ¬ j < 0 ∧ xs[j.toNatClampNeg]? = some x := by
  unfold aget at h
  split at h
  · cases h
  · rename_i q; exact ⟨q, h⟩
theorem aset_inv {α : Type} {xs ys : List α} {j : Int32} {x : α} (h : aset xs j x = some ys) : ¬ j < 0 ∧ j.toNatClampNeg < xs.length ∧ ys = xs.set j.toNatClampNeg x := by
  unfold aset at h
  split at h
  · cases h
  · rename_i q
    split at h
    · rename_i q2; cases h; exact ⟨q, q2, rfl⟩
    · cases h
theorem qnew_inv {n : Int32} {k : Nat} (h : qnew n = some k) : ¬ n < 0 ∧ n.toNatClampNeg = k ∧ k ≤ 67108864 := by
  unfold qnew at h
  split at h
  · cases h
  · rename_i q
    split at h
    · rename_i q2; cases h; exact ⟨q, rfl, q2⟩
    · cases h
/-! ### the heap's facts over a step -/
theorem QCellOk.other {h h' : Heap} {a b : Addr} {sl : Nat} {w : Value} {c : QCell} (H : QCellOk Z ad h b c) (W : Wr h h' a sl w) (ne : b ≠ a) : QCellOk Z ad h' b c := by
  rcases c with vs | ⟨ty, xs⟩ | xs
  · obtain ⟨h1, h2, h3⟩ := H
    exact ⟨h1.wr W, h2, fun k u hk hu => (h3 k u hk hu).other W (Or.inl ne)⟩
  · obtain ⟨c, h1, h2⟩ := H
    exact ⟨c, h1.other W ne, h2⟩
  · obtain ⟨c, h1, h2⟩ := H
    exact ⟨c, h1.other W ne, h2⟩
theorem QCellOk.ext {h h' : Heap} {b : Addr} {c : QCell} (H : QCellOk Z ad h b c) (E : Ext h h') : QCellOk Z ad h' b c := by
  rcases c with vs | ⟨ty, xs⟩ | xs
  · obtain ⟨h1, h2, h3⟩ := H
    exact ⟨h1.ext E, h2, fun k u hk hu => (h3 k u hk hu).ext E⟩
  · obtain ⟨c, h1, h2⟩ := H
    exact ⟨c, h1.ext E, h2⟩
  · obtain ⟨c, h1, h2⟩ := H
    exact ⟨c, h1.ext E, h2⟩
theorem QRep.set {h h' : Heap} {σ : QHeap} {a : Nat} {sl : Nat} {w : Value} {c d : QCell} (H : QRep Z n0 ad h σ) (Ad : QAd n0 ad) (W : Wr h h' (ad a) sl w) (hc : hget σ a = some c) (hd : QCellOk Z ad h' (ad a) d) : QRep Z n0 ad h' (σ.set a d) := by
  obtain ⟨h1, h2, h3⟩ := H
  refine ⟨by simpa using h1, by rw [W.size, h2]; simp, fun k e he => ?_⟩
  rw [hget_set hc] at he
  split at he
  · rename_i q; cases he; rw [q]; exact hd
  · rename_i q; exact (h3 k e he).other W fun z => q (Ad.2 _ _ z)
theorem QRep.push {h h' : Heap} {σ : QHeap} {c : QCell} (H : QRep Z n0 ad h σ) (Ad : QAd n0 ad) (E : Ext h h') (hs : h'.size = h.size + 1) (hc : QCellOk Z ad h' h.size c) : QRep Z n0 ad h' (σ ++ [c]) := by
  obtain ⟨h1, h2, h3⟩ := H
  refine ⟨by simp; omega, by rw [hs, h2]; simp; omega, fun k e he => ?_⟩
  rw [hget_eq] at he
  rcases Nat.lt_or_ge k σ.length with q | q
  · rw [List.getElem?_append_left q, ← hget_eq] at he
    exact (h3 k e he).ext E
  · rw [List.getElem?_append_right q] at he
    obtain rfl : k = σ.length := by
      rcases Nat.lt_or_ge (k - σ.length) 1 with z | z
      · omega
      · rw [List.getElem?_eq_none (by simpa using z)] at he; cases he
    simp at he
    rw [← he, Ad.1 _ h1, ← h2]
    exact hc
theorem mem_of_contains {α : Type} [BEq α] [LawfulBEq α] {L : List α} {a : α} (h : L.contains a = true) : a ∈ L := by simpa using h
theorem lkF_lt : ∀ t ∈ lkF, t.2.2 < nF := by decide +kernel
theorem laid_of (W : QW Z a0) {k : Nat} (hk : k < nF) : Laid Z a0 cName cName (fNm k) (fDs k) := by
  have q := (qw_lay W) k hk
  cases hf : fFin k with
  | true => rw [hf] at q; exact Or.inr q
  | false => rw [hf] at q; exact Or.inl q
theorem qfit_inv {ty : FieldType} {v w : Value} (h : qfit ty v = some w) : v = w ∧ narrow ty (qv ad w) = qv ad w ∧ fits ty (qv ad w) = true := by
  unfold qfit at h
  split at h
  · cases h; exact ⟨rfl, rfl, rfl⟩
  · rename_i x
    obtain ⟨y, hy, h⟩ := Option.bind_eq_some_iff.mp h
    cases h
    unfold qboo at hy
    split at hy
    · rename_i e; cases hy; subst e; exact ⟨rfl, rfl, rfl⟩
    · split at hy
      · rename_i e; cases hy; subst e; exact ⟨rfl, rfl, rfl⟩
      · cases hy
  · cases h; exact ⟨rfl, rfl, rfl⟩
  · cases h; exact ⟨rfl, rfl, rfl⟩
  · cases h
theorem vget_set {vs : List Value} {k j : Nat} {w : Value} (hk : k < vs.length) : vget (vs.set k w) j = if j = k then some w else vget vs j := by
  simp only [vget_eq, List.getElem?_set]
  by_cases e : k = j
  · subst e; simp [hk]
  · simp [e, Ne.symm e]
theorem ald_in {α : Type} {f : α → Value} {xs : List α} {c : Cell} {j : Int32} {x : α} (hc : c.slots = (xs.map f).toArray) (h : aget xs j = some x) : ¬ (j < 0 ∨ c.slots.size ≤ j.toNatClampNeg) ∧ c.slots[j.toNatClampNeg]? = some (f x) := by
  obtain ⟨h1, h2⟩ := aget_inv h
  have h3 := (List.getElem?_eq_some_iff.mp h2).1
  refine ⟨fun q => ?_, by rw [hc]; simp [h2]⟩
  rcases q with q | q
  · exact h1 q
  · rw [hc] at q; simp at q; omega
theorem ast_in {α : Type} {f : α → Value} {xs ys : List α} {c : Cell} {j : Int32} {x : α} (hc : c.slots = (xs.map f).toArray) (h : aset xs j x = some ys) : ¬ (j < 0 ∨ c.slots.size ≤ j.toNatClampNeg) ∧ (c.setSlot j.toNatClampNeg (f x)).slots = (ys.map f).toArray := by
  obtain ⟨h1, h2, rfl⟩ := aset_inv h
  refine ⟨fun q => ?_, by simp [Cell.setSlot, hc, List.map_set]⟩
  rcases q with q | q
  · exact h1 q
  · rw [hc] at q; simp at q; omega
theorem qgrow {σ : QHeap} {c : QCell} : qhs (σ ++ [c]) - qhs σ = qsz c := by rw [qhs_app]; simp [qhs]
set_option maxHeartbeats 4000000 in
theorem QTri.newArr (Ad : QAd n0 ad) (W : QW Z a0) {pc aux : Nat} {L : QLoc} {S : List Value} {σ : QHeap} {aty : ArrayType} {n : Int32} {k : Nat} {c : QCell} (hk : qnew n = some k) (hc : pCode m pc = some (.newarray aty, aux)) (hz : qsz c = k)
    (hq : ∀ (h' : Heap) (a : Addr) (cA : ClassId), Arr Z h' a (newA cA (newarray.typeOf aty) n) (newarray.typeOf aty) → QCellOk Z ad h' a c)
    (h : QTri l Z n0 ad m (pc + 2, L, .ref σ.length :: S, σ ++ [c]) v σ') : QTri l Z n0 ad m (pc, L, .int n :: S, σ) v σ' := by
  have hd : decode (pBytes m) pc = .ok (.newarray aty, 2) := pDecN hc rfl
  obtain ⟨n1, n2, n3⟩ := qnew_inv hk
  refine QTri.gen h (by simp) (by simp [qhs_app]) fun p e R s mid args below meth c' T locs cells slots C hcx X hR hF hL hC hn hc1 hsl => ?_
  obtain ⟨hx, hZ, hby, hml, hret, hown, hnm, hfr, hlo⟩ := hcx
  have hd2 : decode c'.code pc = .ok (.newarray aty, 2) := by rw [hby]; exact hd
  simp only [List.length_append, List.length_singleton, Nat.add_sub_cancel_left, qgrow, hz] at hc1 hsl ⊢
  obtain ⟨T₁, h₁, cA, X₁, e₁, E₁, A₁, st⟩ := newP X hx hZ (aty := aty) (qw_arr W (newarray.typeOf aty) (mem_of_contains (show aTys.contains (newarray.typeOf aty) = true from pRest hc))) rfl (g := mkF mid pc C (.int n :: S.map (qv ad))) rfl hd2 rfl n1 (cap := k) (by omega) (by omega) hc1 hsl
  have hsz : h₁.size = T.heap.size + 1 := by
    have q1 := X₁.heapSize
    have q2 : T.heap.size < h₁.size := A₁.lt
    have q3 := hR.2.1
    rw [e₁] at q1
    have : n0 + (σ.length - k0) = s.heap.size + cells := hn
    have q3' : T.heap.size = n0 + (σ.length - k0) := q3
    omega
  refine ⟨T₁, locs, C, X₁, ?_, hF, hL, hC, fun target q => ?_⟩
  · rw [e₁]; exact QRep.push hR Ad E₁ hsz (hq _ _ _ A₁)
  · refine st _ ?_
    have e2 : ad σ.length = T.heap.size := by rw [Ad.1 _ hR.1]; exact hR.2.1.symm
    simp only [List.map_cons, qv, e2] at q
    exact q
set_option maxHeartbeats 4000000 in
theorem QTri.getfield (W : QW Z a0) {pc idx aux : Nat} {L : QLoc} {S : List Value} {σ : QHeap} {st' : QSt} (h : QTri l Z n0 ad m st' v σ') (hc : pCode m pc = some (.getfield idx, aux)) (hs : qget (pc + 3) L S σ aux = some st') : QTri l Z n0 ad m (pc, L, S, σ) v σ' := by
  have hd : decode (pBytes m) pc = .ok (.getfield idx, 3) := pDecN hc rfl
  obtain ⟨a, S', vs, w, rfl, hvs, hw, rfl⟩ := qget_inv hs
  have hm := mem_of_contains (show lkF.contains (pK m, idx, aux) = true from pRest hc)
  have hlt := lkF_lt _ hm
  refine QTri.pure h rfl fun p e R s mid args below meth c T locs cells slots C hcx X hR hL hC => ?_
  obtain ⟨hx, hZ, hby, hml, hret, hown, hnm, hfr, hlo⟩ := hcx
  have hd2 : decode c.code pc = .ok (.getfield idx, 3) := by rw [hby]; exact hd
  have F := (hR.2.2 _ _ hvs).2.2 aux w hlt hw
  obtain ⟨T₁, X₁, e₁, st⟩ := getF X hx hZ hown (host := "") (index := idx) (Or.inl (qw_fl W (pK m, idx, aux) hm)) Via.refl rfl F (g := mkF mid pc C (List.map (qv ad) (.ref a :: S'))) rfl rfl hd2
  exact ⟨T₁, C, X₁, e₁, hL, hC, st⟩
set_option maxHeartbeats 4000000 in
theorem QTri.putfield (Ad : QAd n0 ad) (W : QW Z a0) {pc idx aux : Nat} {L : QLoc} {S : List Value} {σ : QHeap} {st' : QSt} (h : QTri l Z n0 ad m st' v σ') (hc : pCode m pc = some (.putfield idx, aux)) (hs : qput (pc + 3) L S σ aux = some st') : QTri l Z n0 ad m (pc, L, S, σ) v σ' := by
  have hd : decode (pBytes m) pc = .ok (.putfield idx, 3) := pDecN hc rfl
  obtain ⟨w, a, S', vs, u, rfl, hvs, b1, b2, hu, rfl⟩ := qput_inv hs
  obtain ⟨r1, r2⟩ := Bool.and_eq_true_iff.mp (show (lkF.contains (pK m, idx, aux) && (!fFin aux || (pK m == 1 && pNm m == "<init>"))) = true from pRest hc)
  have hm := mem_of_contains r1
  have hlt := lkF_lt _ hm
  obtain ⟨rfl, q2, q3⟩ := qfit_inv (ad := ad) hu
  have hsz : qhs (σ.set a (Sum.inl (vs.set aux w))) = qhs σ := qhs_set hvs rfl
  refine QTri.gen h (by simp) (by show qhs σ ≤ qhs (σ.set a (Sum.inl (vs.set aux w))); rw [hsz]; exact Nat.le_refl _) fun p e R s mid args below meth c T locs cells slots C hcx X hR hF hL hC hn hc1 hsl => ?_
  obtain ⟨hx, hZ, hby, hml, hret, hown, hnm, hfr, hlo⟩ := hcx
  have hd2 : decode c.code pc = .ok (.putfield idx, 3) := by rw [hby]; exact hd
  obtain ⟨E, l1, Fs⟩ := hR.2.2 _ _ hvs
  obtain ⟨old, hold⟩ : ∃ old, vget vs aux = some old := by rw [vget_eq]; exact ⟨_, List.getElem?_eq_getElem b2⟩
  have lay : (Cond.lays cName cName (fNm aux) (fDs aux)).before a0 Z = true ∨ ((Cond.laysFinal cName cName (fNm aux) (fDs aux)).before a0 Z = true ∧ kName (pK m) = cName ∧ meth.name = "<init>") := by
    have q := (qw_lay W) aux hlt
    cases hf : fFin aux with
    | false => rw [hf] at q; exact Or.inl q
    | true =>
      rw [hf] at q r2
      simp at r2
      exact Or.inr ⟨q, by rw [r2.1]; exact kOne, by rw [hnm]; exact r2.2⟩
  obtain ⟨T₁, h₁, X₁, e₁, W₁, st⟩ := putF X hx hZ hown (host := "") (index := idx) (Or.inl (qw_fl W (pK m, idx, aux) hm)) Via.refl rfl (Fs aux old hlt hold) E lay ((qw_inst W)) (fPrs aux hlt) q2 q3 (g := mkF mid pc C (List.map (qv ad) (w :: .ref a :: S'))) rfl rfl hd2
  refine ⟨T₁, _, C, ?_, ?_, Fr.snoc X₁ hF (by rw [Ad.1 a b1]; exact Nat.le_add_right _ _), hL, hC, st⟩
  · show Stand _ _ _ _ _ _ _ _ _ _ _ _ (cells + ((σ.set a (Sum.inl (vs.set aux w))).length - σ.length)) (slots + (qhs (σ.set a (Sum.inl (vs.set aux w))) - qhs σ))
    rw [hsz, Nat.sub_self, List.length_set, Nat.sub_self]
    exact X₁
  · rw [e₁]
    refine QRep.set hR Ad W₁ hvs ⟨E.wr W₁, by simpa using l1, fun k u hk hu => ?_⟩
    rw [vget_set b2] at hu
    split at hu
    · rename_i e; cases hu; rw [e]; exact (Fs aux old hlt hold).same W₁
    · rename_i ne
      exact (Fs k u hk hu).other W₁ (Or.inr (slot_ne (laid_of W hk) (laid_of W hlt) (fun z => ne (fInj _ hk _ hlt z)) (fPrs _ hk) (fPrs _ hlt)))
theorem tyI_inv {ty : FieldType} (h : tyI ty = true) : ty = .int := by cases ty <;> simp [tyI] at h; rfl
theorem tyB_inv {ty : FieldType} (h : tyB ty = true) : ty = .boolean ∨ ty = .byte := by cases ty <;> simp [tyB] at h <;> simp
set_option maxHeartbeats 4000000 in
theorem QTri.iaload {pc aux : Nat} {L : QLoc} {S : List Value} {σ : QHeap} {st' : QSt} (h : QTri l Z n0 ad m st' v σ') (hc : pCode m pc = some (.iaload, aux)) (hs : qald (pc + 1) L S σ tyI = some st') : QTri l Z n0 ad m (pc, L, S, σ) v σ' := by
  have hd : decode (pBytes m) pc = .ok (.iaload, 1) := pDecN hc rfl
  obtain ⟨j, a, S', ty, xs, w, rfl, hx1, ht, hw, rfl⟩ := qald_inv hs
  obtain rfl := tyI_inv ht
  refine QTri.stack h fun p e R s mid args below meth c T locs cells slots C target hx hZ hby hown X hR hL k => ?_
  have hd2 : decode c.code pc = .ok (.iaload, 1) := by rw [hby]; exact hd
  obtain ⟨cl, A, hsl⟩ := hR.2.2 _ _ hx1
  obtain ⟨i1, i2⟩ := ald_in hsl hw
  exact X.iaload hx A.1 (State.isArrayOf_alike hZ.alike A.2.1) A.2.2 i1 i2 (g := mkF mid pc C (List.map (qv ad) (.int j :: .ref a :: S'))) rfl rfl hd2 _ k
set_option maxHeartbeats 4000000 in
theorem QTri.baload {pc aux : Nat} {L : QLoc} {S : List Value} {σ : QHeap} {st' : QSt} (h : QTri l Z n0 ad m st' v σ') (hc : pCode m pc = some (.baload, aux)) (hs : qald (pc + 1) L S σ tyB = some st') : QTri l Z n0 ad m (pc, L, S, σ) v σ' := by
  have hd : decode (pBytes m) pc = .ok (.baload, 1) := pDecN hc rfl
  obtain ⟨j, a, S', ty, xs, w, rfl, hx1, ht, hw, rfl⟩ := qald_inv hs
  refine QTri.stack h fun p e R s mid args below meth c T locs cells slots C target hx hZ hby hown X hR hL k => ?_
  have hd2 : decode c.code pc = .ok (.baload, 1) := by rw [hby]; exact hd
  obtain ⟨cl, A, hsl⟩ := hR.2.2 _ _ hx1
  obtain ⟨i1, i2⟩ := ald_in hsl hw
  rcases tyB_inv ht with rfl | rfl
  · exact X.baloadBooleans hx A.1 (State.isArrayOf_alike hZ.alike A.2.1) A.2.2 i1 i2 (g := mkF mid pc C (List.map (qv ad) (.int j :: .ref a :: S'))) rfl rfl hd2 _ k
  · exact X.baloadBytes hx A.1 (State.isArrayOf_alike hZ.alike A.2.1) A.2.2 i1 i2 (g := mkF mid pc C (List.map (qv ad) (.int j :: .ref a :: S'))) rfl rfl hd2 _ k
set_option maxHeartbeats 4000000 in
theorem QTri.laload {pc aux : Nat} {L : QLoc} {S : List Value} {σ : QHeap} {st' : QSt} (h : QTri l Z n0 ad m st' v σ') (hc : pCode m pc = some (.laload, aux)) (hs : qaldJ (pc + 1) L S σ = some st') : QTri l Z n0 ad m (pc, L, S, σ) v σ' := by
  have hd : decode (pBytes m) pc = .ok (.laload, 1) := pDecN hc rfl
  obtain ⟨j, a, S', xs, w, rfl, hx1, hw, rfl⟩ := qaldJ_inv hs
  refine QTri.stack h fun p e R s mid args below meth c T locs cells slots C target hx hZ hby hown X hR hL k => ?_
  have hd2 : decode c.code pc = .ok (.laload, 1) := by rw [hby]; exact hd
  obtain ⟨cl, A, hsl⟩ := hR.2.2 _ _ hx1
  obtain ⟨i1, i2⟩ := ald_in hsl hw
  exact X.laload hx A.1 (State.isArrayOf_alike hZ.alike A.2.1) A.2.2 i1 i2 (g := mkF mid pc C (List.map (qv ad) (.int j :: .ref a :: S'))) rfl rfl hd2 _ k
/-- behind a store into an array -/
theorem QTri.stored (Ad : QAd n0 ad) {pc : Nat} {L : QLoc} {S S' : List Value} {σ : QHeap} {a j : Nat} {w : Value} {c d : QCell} (hx1 : hget σ a = some c) (b1 : k0 ≤ a) (hz : qsz d = qsz c) (h : QTri l Z n0 ad m (pc + 1, L, S', σ.set a d) v σ')
    (hs : ∀ (p : Program) (e : Env) (R : Room) (s : State) (mid : MethodId) (args : Array Value) (below : List Frame) (meth : Method) (c : Code) (T : State) (locs : List Loc) (cells slots : Nat) (C : Array Slot),
      QCx Z p R s mid meth c m → Stand p l e R s mid args below meth c T locs cells slots → QRep Z n0 ad T.heap σ →
      ∃ T' h', Stand p l e R s mid args below meth c T' (locs ++ [⟨ad a, j⟩]) cells slots ∧ T'.heap = h' ∧ Wr T.heap h' (ad a) j w ∧ QCellOk Z ad h' (ad a) d ∧ ∀ target, Steps p.tables e below (T'.setTop (mkF mid (pc + 1) C (S'.map (qv ad)))) target → Steps p.tables e below (T.setTop (mkF mid pc C (S.map (qv ad)))) target) :
    QTri l Z n0 ad m (pc, L, S, σ) v σ' := by
  have hsz : qhs (σ.set a d) = qhs σ := qhs_set hx1 hz
  refine QTri.gen h (by simp) (by show qhs σ ≤ qhs (σ.set a d); rw [hsz]; exact Nat.le_refl _) fun p e R s mid args below meth c T locs cells slots C hcx X hR hF hL hC hn hc1 hsl => ?_
  obtain ⟨T₁, h₁, X₁, e₁, W₁, Q₁, st⟩ := hs p e R s mid args below meth c T locs cells slots C hcx X hR
  refine ⟨T₁, _, C, ?_, ?_, Fr.snoc X₁ hF (by rw [Ad.1 a b1]; exact Nat.le_add_right _ _), hL, hC, st⟩
  · show Stand _ _ _ _ _ _ _ _ _ _ _ _ (cells + ((σ.set a d).length - σ.length)) (slots + (qhs (σ.set a d) - qhs σ))
    rw [hsz, Nat.sub_self, List.length_set, Nat.sub_self]
    exact X₁
  · rw [e₁]
    exact QRep.set hR Ad W₁ hx1 Q₁
set_option maxHeartbeats 4000000 in
theorem QTri.iastore (Ad : QAd n0 ad) {pc aux : Nat} {L : QLoc} {S : List Value} {σ : QHeap} {st' : QSt} (h : QTri l Z n0 ad m st' v σ') (hc : pCode m pc = some (.iastore, aux)) (hs : qast (pc + 1) L S σ tyI = some st') : QTri l Z n0 ad m (pc, L, S, σ) v σ' := by
  have hd : decode (pBytes m) pc = .ok (.iastore, 1) := pDecN hc rfl
  obtain ⟨w, j, a, S', ty, xs, ys, rfl, hx1, ht, b1, hw, rfl⟩ := qast_inv hs
  obtain rfl := tyI_inv ht
  refine QTri.stored Ad (j := j.toNatClampNeg) (w := .int w) hx1 b1 (by rw [(aset_inv hw).2.2]; simp [qsz]) h fun p e R s mid args below meth c T locs cells slots C hcx X hR => ?_
  have hd2 : decode c.code pc = .ok (.iastore, 1) := by rw [hcx.2.2.1]; exact hd
  obtain ⟨cl, A, hsl⟩ := hR.2.2 _ _ hx1
  obtain ⟨i1, i2⟩ := ast_in hsl hw
  obtain ⟨T₁, h₁, X₁, e₁, W₁, st⟩ := stI X hcx.1 hcx.2.1 rfl A i1 (g := mkF mid pc C (List.map (qv ad) (.int w :: .int j :: .ref a :: S'))) rfl rfl hd2
  exact ⟨T₁, h₁, X₁, e₁, W₁, ⟨_, A.same W₁, i2⟩, st⟩
set_option maxHeartbeats 4000000 in
theorem QTri.bastore (Ad : QAd n0 ad) {pc aux : Nat} {L : QLoc} {S : List Value} {σ : QHeap} {st' : QSt} (h : QTri l Z n0 ad m st' v σ') (hc : pCode m pc = some (.bastore, aux)) (hs : qast (pc + 1) L S σ tyB = some st') : QTri l Z n0 ad m (pc, L, S, σ) v σ' := by
  have hd : decode (pBytes m) pc = .ok (.bastore, 1) := pDecN hc rfl
  obtain ⟨w, j, a, S', ty, xs, ys, rfl, hx1, ht, b1, hw, rfl⟩ := qast_inv hs
  refine QTri.stored Ad (j := j.toNatClampNeg) (w := .int (qnar ty w)) hx1 b1 (by rw [(aset_inv hw).2.2]; simp [qsz]) h fun p e R s mid args below meth c T locs cells slots C hcx X hR => ?_
  have hd2 : decode c.code pc = .ok (.bastore, 1) := by rw [hcx.2.2.1]; exact hd
  obtain ⟨cl, A, hsl⟩ := hR.2.2 _ _ hx1
  obtain ⟨i1, i2⟩ := ast_in hsl hw
  rcases tyB_inv ht with rfl | rfl
  · obtain ⟨T₁, h₁, X₁, e₁, W₁, st⟩ := stZ X hcx.1 hcx.2.1 rfl A i1 (g := mkF mid pc C (List.map (qv ad) (.int w :: .int j :: .ref a :: S'))) rfl rfl hd2
    exact ⟨T₁, h₁, X₁, e₁, W₁, ⟨_, A.same W₁, i2⟩, st⟩
  · obtain ⟨T₁, h₁, X₁, e₁, W₁, st⟩ := stB X hcx.1 hcx.2.1 rfl A i1 (g := mkF mid pc C (List.map (qv ad) (.int w :: .int j :: .ref a :: S'))) rfl rfl hd2
    exact ⟨T₁, h₁, X₁, e₁, W₁, ⟨_, A.same W₁, i2⟩, st⟩
set_option maxHeartbeats 4000000 in
theorem QTri.lastore (Ad : QAd n0 ad) {pc aux : Nat} {L : QLoc} {S : List Value} {σ : QHeap} {st' : QSt} (h : QTri l Z n0 ad m st' v σ') (hc : pCode m pc = some (.lastore, aux)) (hs : qastJ (pc + 1) L S σ = some st') : QTri l Z n0 ad m (pc, L, S, σ) v σ' := by
  have hd : decode (pBytes m) pc = .ok (.lastore, 1) := pDecN hc rfl
  obtain ⟨w, j, a, S', xs, ys, rfl, hx1, b1, hw, rfl⟩ := qastJ_inv hs
  refine QTri.stored Ad (j := j.toNatClampNeg) (w := .long w) hx1 b1 (by rw [(aset_inv hw).2.2]; simp [qsz]) h fun p e R s mid args below meth c T locs cells slots C hcx X hR => ?_
  have hd2 : decode c.code pc = .ok (.lastore, 1) := by rw [hcx.2.2.1]; exact hd
  obtain ⟨cl, A, hsl⟩ := hR.2.2 _ _ hx1
  obtain ⟨i1, i2⟩ := ast_in hsl hw
  obtain ⟨T₁, h₁, X₁, e₁, W₁, st⟩ := stJ X hcx.1 hcx.2.1 rfl A i1 (g := mkF mid pc C (List.map (qv ad) (.long w :: .int j :: .ref a :: S'))) rfl rfl hd2
  exact ⟨T₁, h₁, X₁, e₁, W₁, ⟨_, A.same W₁, i2⟩, st⟩
set_option maxHeartbeats 4000000 in
theorem QTri.alen {pc aux : Nat} {L : QLoc} {S : List Value} {σ : QHeap} {st' : QSt} (h : QTri l Z n0 ad m st' v σ') (hc : pCode m pc = some (.arraylength, aux)) (hs : qlen (pc + 1) L S σ = some st') : QTri l Z n0 ad m (pc, L, S, σ) v σ' := by
  have hd : decode (pBytes m) pc = .ok (.arraylength, 1) := pDecN hc rfl
  obtain ⟨a, S', n, rfl, hx1, rfl⟩ := qlen_inv hs
  refine QTri.stack h fun p e R s mid args below meth c T locs cells slots C target hx hZ hby hown X hR hL k => ?_
  have hd2 : decode c.code pc = .ok (.arraylength, 1) := by rw [hby]; exact hd
  rcases hx1 with ⟨ty, xs, hx1, rfl⟩ | ⟨xs, hx1, rfl⟩
  · obtain ⟨cl, A, hsl⟩ := hR.2.2 _ _ hx1
    have e1 : cl.slots.size = xs.length := by rw [hsl]; simp
    rw [← e1] at k
    exact X.arraylength hx A.1 (State.isArrayOf_alike hZ.alike A.2.1) (g := mkF mid pc C (List.map (qv ad) (.ref a :: S'))) rfl rfl hd2 _ k
  · obtain ⟨cl, A, hsl⟩ := hR.2.2 _ _ hx1
    have e1 : cl.slots.size = xs.length := by rw [hsl]; simp
    rw [← e1] at k
    exact X.arraylength hx A.1 (State.isArrayOf_alike hZ.alike A.2.1) (g := mkF mid pc C (List.map (qv ad) (.ref a :: S'))) rfl rfl hd2 _ k
set_option maxHeartbeats 4000000 in
theorem QTri.newObj (Ad : QAd n0 ad) (W : QW Z a0) {pc idx aux : Nat} {L : QLoc} {S : List Value} {σ : QHeap} (h : QTri l Z n0 ad m (pc + 3, L, .ref σ.length :: S, σ ++ [.inl cDef]) v σ') (hc : pCode m pc = some (.new idx, aux)) : QTri l Z n0 ad m (pc, L, S, σ) v σ' := by
  have hd : decode (pBytes m) pc = .ok (.new idx, 3) := pDecN hc rfl
  have hm := mem_of_contains (show lkN.contains (pK m, idx) = true from pRest hc)
  refine QTri.gen h (by simp) (by simp [qhs_app]) fun p e R s mid args below meth c T locs cells slots C hcx X hR hF hL hC hn hc1 hsl => ?_
  obtain ⟨hx, hZ, hby, hml, hret, hown, hnm, hfr, hlo⟩ := hcx
  have hd2 : decode c.code pc = .ok (.new idx, 3) := by rw [hby]; exact hd
  simp only [List.length_append, List.length_singleton, Nat.add_sub_cancel_left, qgrow, qsz] at hc1 hsl ⊢
  obtain ⟨T₁, h₁, X₁, e₁, E₁, A₁, D₁, -, st⟩ := newO X hx hZ hown (index := idx) (qw_nw W (pK m, idx) hm) ((qw_inst W)) ((qw_init W)) rfl (g := mkF mid pc C (S.map (qv ad))) rfl hd2 hc1 hsl
  have hsz : h₁.size = T.heap.size + 1 := by
    have q1 := X₁.heapSize
    have q2 : T.heap.size < h₁.size := A₁.lt
    have q3 : T.heap.size = n0 + (σ.length - k0) := hR.2.1
    rw [e₁] at q1
    have : n0 + (σ.length - k0) = s.heap.size + cells := hn
    omega
  refine ⟨T₁, locs, C, X₁, ?_, hF, hL, hC, fun target q => ?_⟩
  · rw [e₁]
    refine QRep.push hR Ad E₁ hsz ⟨A₁, cDefL, fun k u hk hu => ?_⟩
    rw [cDefs k hk] at hu
    cases hu
    have e3 : qv ad (defaultValue (fTy k)) = defaultValue (fTy k) := by
      cases hq : defaultValue (fTy k) with
      | ref a => exact absurd hq (fDef k hk a)
      | _ => rfl
    rw [e3]
    exact D₁ (laid_of W hk) (fPrs k hk)
  · refine st _ ?_
    have e2 : ad σ.length = T.heap.size := by rw [Ad.1 _ hR.1]; exact hR.2.1.symm
    simp only [List.map_cons, qv, e2] at q
    exact q
set_option maxHeartbeats 8000000 in
theorem QTri.step (Ad : QAd n0 ad) (W : QW Z a0) {st st' : QSt} (h : QTri l Z n0 ad m st' v σ') (hs : qstep m st = some st') : QTri l Z n0 ad m st v σ' := by
  obtain ⟨pc, L, S, σ⟩ := st
  unfold qstep at hs
  dsimp only at hs
  split at hs
  rotate_left
  · cases hs
  rename_i i aux hc
  have hd := pDecN hc rfl
  have hr := pRest hc
  unfold qexec at hs
  split at hs
  · -- aload_n
    obtain ⟨w, h1, h2, rfl⟩ := qload_inv hs
    obtain ⟨a, rfl⟩ := isR_inv h2
    exact QTri.stack h fun p e R s mid args below meth c T locs cells slots C target hx hZ hby hown X hR hL k => XS.aloadN X.here hx rfl (hb hby hd) (hL.2.1 _ _ h1) rfl k
  · obtain ⟨w, h1, h2, rfl⟩ := qload_inv hs
    obtain ⟨a, rfl⟩ := isR_inv h2
    exact QTri.stack h fun p e R s mid args below meth c T locs cells slots C target hx hZ hby hown X hR hL k => XS.aload X.here hx rfl (hb hby hd) (hL.2.1 _ _ h1) rfl k
  · obtain ⟨w, h1, h2, rfl⟩ := qload_inv hs
    obtain ⟨a, rfl⟩ := isI_inv h2
    exact QTri.stack h fun p e R s mid args below meth c T locs cells slots C target hx hZ hby hown X hR hL k => XS.iloadN X.here hx rfl (hb hby hd) (hL.2.1 _ _ h1) k
  · obtain ⟨w, h1, h2, rfl⟩ := qload_inv hs
    obtain ⟨a, rfl⟩ := isI_inv h2
    exact QTri.stack h fun p e R s mid args below meth c T locs cells slots C target hx hZ hby hown X hR hL k => XS.iload X.here hx rfl (hb hby hd) (hL.2.1 _ _ h1) k
  · obtain ⟨w, h1, h2, rfl⟩ := qload_inv hs
    obtain ⟨a, rfl⟩ := isJ_inv h2
    exact QTri.stack h fun p e R s mid args below meth c T locs cells slots C target hx hZ hby hown X hR hL k => XT.lloadN X.here hx rfl (hb hby hd) (hL.2.1 _ _ h1) k
  · obtain ⟨w, h1, h2, rfl⟩ := qload_inv hs
    obtain ⟨a, rfl⟩ := isJ_inv h2
    exact QTri.stack h fun p e R s mid args below meth c T locs cells slots C target hx hZ hby hown X hR hL k => XT.lload X.here hx rfl (hb hby hd) (hL.2.1 _ _ h1) k
  · cases hs -- iconst
    exact QTri.stack h fun p e R s mid args below meth c T locs cells slots C target hx hZ hby hown X hR hL k => XS.iconst X.here hx rfl (hb hby hd) k
  · cases hs
    exact QTri.stack h fun p e R s mid args below meth c T locs cells slots C target hx hZ hby hown X hR hL k => XS.bipush X.here hx rfl (hb hby hd) k
  · cases hs
    exact QTri.stack h fun p e R s mid args below meth c T locs cells slots C target hx hZ hby hown X hR hL k => XS.sipush X.here hx rfl (hb hby hd) k
  · cases hs
    exact QTri.stack h fun p e R s mid args below meth c T locs cells slots C target hx hZ hby hown X hR hL k => XT.lconst X.here hx rfl (hb hby hd) k
  · -- ldc
    unfold qldc at hs
    split at hs
    · rename_i w hw
      cases hs
      obtain ⟨x, hx1, hx2⟩ := qw_cI W (pK m, _, aux) (mem_of_contains (show lkC.contains (pK m, _, aux) = true from hr))
      rw [show vget cK aux = some w from hw] at hx1
      cases hx1
      exact QTri.stack h fun p e R s mid args below meth c T locs cells slots C target hx hZ hby hown X hR hL k => X.ldcI hx hown (mv hZ hx2) rfl (hb hby hd) k
    · cases hs
  · unfold qldc at hs
    split at hs
    · rename_i w hw
      cases hs
      obtain ⟨x, hx1, hx2⟩ := qw_cJ W (pK m, _, aux) (mem_of_contains (show lkD.contains (pK m, _, aux) = true from hr))
      rw [show vget cK aux = some w from hw] at hx1
      cases hx1
      exact QTri.stack h fun p e R s mid args below meth c T locs cells slots C target hx hZ hby hown X hR hL k => X.ldc2J hx hown (mv hZ hx2) rfl (hb hby hd) k
    · cases hs
  · -- istore_n
    obtain ⟨w, S', L', rfl, h2, h3, rfl⟩ := qstore_inv hs
    obtain ⟨a, rfl⟩ := isI_inv h2
    exact QTri.frame h fun p e R s mid args below meth c T locs cells slots C hcx X hR hL hC => by
      obtain ⟨D, d1, d2, d3⟩ := store_ok hL h3
      exact ⟨D, d2, d3.trans hC, fun target k => XS.istoreN X.here hcx.1 rfl (hb hcx.2.2.1 hd) rfl d1 k⟩
  · obtain ⟨w, S', L', rfl, h2, h3, rfl⟩ := qstore_inv hs
    obtain ⟨a, rfl⟩ := isI_inv h2
    exact QTri.frame h fun p e R s mid args below meth c T locs cells slots C hcx X hR hL hC => by
      obtain ⟨D, d1, d2, d3⟩ := store_ok hL h3
      exact ⟨D, d2, d3.trans hC, fun target k => XS.istore X.here hcx.1 rfl (hb hcx.2.2.1 hd) rfl d1 k⟩
  · obtain ⟨w, S', L', rfl, h2, h3, rfl⟩ := qstore_inv hs
    obtain ⟨a, rfl⟩ := isJ_inv h2
    exact QTri.frame h fun p e R s mid args below meth c T locs cells slots C hcx X hR hL hC => by
      obtain ⟨D, d1, d2, d3⟩ := store_ok hL h3
      exact ⟨D, d2, d3.trans hC, fun target k => XT.lstoreN X.here hcx.1 rfl (hb hcx.2.2.1 hd) rfl d1 k⟩
  · obtain ⟨w, S', L', rfl, h2, h3, rfl⟩ := qstore_inv hs
    obtain ⟨a, rfl⟩ := isJ_inv h2
    exact QTri.frame h fun p e R s mid args below meth c T locs cells slots C hcx X hR hL hC => by
      obtain ⟨D, d1, d2, d3⟩ := store_ok hL h3
      exact ⟨D, d2, d3.trans hC, fun target k => XT.lstore X.here hcx.1 rfl (hb hcx.2.2.1 hd) rfl d1 k⟩
  · obtain ⟨w, S', L', rfl, h2, h3, rfl⟩ := qstore_inv hs
    obtain ⟨a, rfl⟩ := isR_inv h2
    exact QTri.frame h fun p e R s mid args below meth c T locs cells slots C hcx X hR hL hC => by
      obtain ⟨D, d1, d2, d3⟩ := store_ok hL h3
      exact ⟨D, d2, d3.trans hC, fun target k => XS.astoreN X.here hcx.1 rfl (hb hcx.2.2.1 hd) rfl rfl d1 k⟩
  · obtain ⟨w, S', L', rfl, h2, h3, rfl⟩ := qstore_inv hs
    obtain ⟨a, rfl⟩ := isR_inv h2
    exact QTri.frame h fun p e R s mid args below meth c T locs cells slots C hcx X hR hL hC => by
      obtain ⟨D, d1, d2, d3⟩ := store_ok hL h3
      exact ⟨D, d2, d3.trans hC, fun target k => XS.astore X.here hcx.1 rfl (hb hcx.2.2.1 hd) rfl rfl d1 k⟩
  · -- iinc
    unfold qinc at hs
    split at hs
    · rename_i x hx1
      split at hs
      · rename_i L' hL'
        cases hs
        exact QTri.frame h fun p e R s mid args below meth c T locs cells slots C hcx X hR hL hC => by
          obtain ⟨D, d1, d2, d3⟩ := store_ok hL hL'
          exact ⟨D, d2, d3.trans hC, fun target k => XS.iinc X.here hcx.1 rfl (hb hcx.2.2.1 hd) (hL.2.1 _ _ hx1) d1 k⟩
      · cases hs
    · cases hs
  · obtain ⟨x, y, S', rfl, rfl⟩ := qbin_inv hs -- iadd
    exact QTri.stack h fun p e R s mid args below meth c T locs cells slots C target hx hZ hby hown X hR hL k => XS.iadd X.here hx rfl (hb hby hd) rfl k
  · obtain ⟨x, y, S', rfl, rfl⟩ := qbin_inv hs
    exact QTri.stack h fun p e R s mid args below meth c T locs cells slots C target hx hZ hby hown X hR hL k => XS.isub X.here hx rfl (hb hby hd) rfl k
  · obtain ⟨x, y, S', rfl, rfl⟩ := qbin_inv hs
    exact QTri.stack h fun p e R s mid args below meth c T locs cells slots C target hx hZ hby hown X hR hL k => XS.imul X.here hx rfl (hb hby hd) rfl k
  · obtain ⟨x, y, S', rfl, rfl⟩ := qbin_inv hs
    exact QTri.stack h fun p e R s mid args below meth c T locs cells slots C target hx hZ hby hown X hR hL k => XS.iand X.here hx rfl (hb hby hd) rfl k
  · obtain ⟨x, y, S', rfl, rfl⟩ := qbin_inv hs
    exact QTri.stack h fun p e R s mid args below meth c T locs cells slots C target hx hZ hby hown X hR hL k => XT.ior X.here hx rfl (hb hby hd) rfl k
  · obtain ⟨x, y, S', rfl, rfl⟩ := qbin_inv hs
    exact QTri.stack h fun p e R s mid args below meth c T locs cells slots C target hx hZ hby hown X hR hL k => XT.ixor X.here hx rfl (hb hby hd) rfl k
  · obtain ⟨x, y, S', rfl, rfl⟩ := qbin_inv hs
    exact QTri.stack h fun p e R s mid args below meth c T locs cells slots C target hx hZ hby hown X hR hL k => XT.ishl X.here hx rfl (hb hby hd) rfl k
  · obtain ⟨x, y, S', rfl, rfl⟩ := qbin_inv hs
    exact QTri.stack h fun p e R s mid args below meth c T locs cells slots C target hx hZ hby hown X hR hL k => XT.ishr X.here hx rfl (hb hby hd) rfl k
  · obtain ⟨x, y, S', rfl, rfl⟩ := qbin_inv hs
    exact QTri.stack h fun p e R s mid args below meth c T locs cells slots C target hx hZ hby hown X hR hL k => XT.iushr X.here hx rfl (hb hby hd) rfl k
  · obtain ⟨x, y, z, S', rfl, hz, rfl⟩ := qbino_inv hs -- idiv
    unfold qdiv at hz
    split at hz
    · cases hz
    · rename_i hy
      cases hz
      exact QTri.stack h fun p e R s mid args below meth c T locs cells slots C target hx hZ hby hown X hR hL k => XS.idiv X.here hx rfl (hb hby hd) rfl hy k
  · obtain ⟨x, y, z, S', rfl, hz, rfl⟩ := qbino_inv hs
    unfold qrem at hz
    split at hz
    · cases hz
    · rename_i hy
      cases hz
      exact QTri.stack h fun p e R s mid args below meth c T locs cells slots C target hx hZ hby hown X hR hL k => iremM X hx rfl (hb hby hd) rfl hy k
  · obtain ⟨x, S', rfl, rfl⟩ := quni_inv hs -- ineg
    exact QTri.stack h fun p e R s mid args below meth c T locs cells slots C target hx hZ hby hown X hR hL k => XS.ineg X.here hx rfl (hb hby hd) rfl k
  · obtain ⟨x, S', rfl, rfl⟩ := quni_inv hs
    exact QTri.stack h fun p e R s mid args below meth c T locs cells slots C target hx hZ hby hown X hR hL k => XT.i2l X.here hx rfl (hb hby hd) rfl k
  · obtain ⟨x, S', rfl, rfl⟩ := quni_inv hs
    exact QTri.stack h fun p e R s mid args below meth c T locs cells slots C target hx hZ hby hown X hR hL k => XT.i2b X.here hx rfl (hb hby hd) rfl k
  · obtain ⟨x, S', rfl, rfl⟩ := quniJ_inv hs
    exact QTri.stack h fun p e R s mid args below meth c T locs cells slots C target hx hZ hby hown X hR hL k => XT.l2i X.here hx rfl (hb hby hd) rfl k
  · obtain ⟨x, S', rfl, rfl⟩ := quniJ_inv hs
    exact QTri.stack h fun p e R s mid args below meth c T locs cells slots C target hx hZ hby hown X hR hL k => XT.lneg X.here hx rfl (hb hby hd) rfl k
  · obtain ⟨x, y, S', rfl, rfl⟩ := qbinJ_inv hs
    exact QTri.stack h fun p e R s mid args below meth c T locs cells slots C target hx hZ hby hown X hR hL k => XT.ladd X.here hx rfl (hb hby hd) rfl k
  · obtain ⟨x, y, S', rfl, rfl⟩ := qbinJ_inv hs
    exact QTri.stack h fun p e R s mid args below meth c T locs cells slots C target hx hZ hby hown X hR hL k => XT.lsub X.here hx rfl (hb hby hd) rfl k
  · obtain ⟨x, y, S', rfl, rfl⟩ := qbinJ_inv hs
    exact QTri.stack h fun p e R s mid args below meth c T locs cells slots C target hx hZ hby hown X hR hL k => XT.lmul X.here hx rfl (hb hby hd) rfl k
  · obtain ⟨x, y, S', rfl, rfl⟩ := qbinJ_inv hs
    exact QTri.stack h fun p e R s mid args below meth c T locs cells slots C target hx hZ hby hown X hR hL k => XT.land X.here hx rfl (hb hby hd) rfl k
  · obtain ⟨x, y, S', rfl, rfl⟩ := qbinJ_inv hs
    exact QTri.stack h fun p e R s mid args below meth c T locs cells slots C target hx hZ hby hown X hR hL k => XT.lor X.here hx rfl (hb hby hd) rfl k
  · obtain ⟨x, y, S', rfl, rfl⟩ := qbinJ_inv hs
    exact QTri.stack h fun p e R s mid args below meth c T locs cells slots C target hx hZ hby hown X hR hL k => XT.lxor X.here hx rfl (hb hby hd) rfl k
  · obtain ⟨x, y, S', rfl, rfl⟩ := qshJ_inv hs
    exact QTri.stack h fun p e R s mid args below meth c T locs cells slots C target hx hZ hby hown X hR hL k => XT.lshl X.here hx rfl (hb hby hd) rfl k
  · obtain ⟨x, y, S', rfl, rfl⟩ := qshJ_inv hs
    exact QTri.stack h fun p e R s mid args below meth c T locs cells slots C target hx hZ hby hown X hR hL k => XT.lshr X.here hx rfl (hb hby hd) rfl k
  · obtain ⟨x, y, S', rfl, rfl⟩ := qshJ_inv hs
    exact QTri.stack h fun p e R s mid args below meth c T locs cells slots C target hx hZ hby hown X hR hL k => XT.lushr X.here hx rfl (hb hby hd) rfl k
  · split at hs -- lcmp
    · cases hs
      exact QTri.stack h fun p e R s mid args below meth c T locs cells slots C target hx hZ hby hown X hR hL k => XT.lcmp X.here hx rfl (hb hby hd) rfl k
    · cases hs
  · cases hs -- goto
    obtain ⟨t1, t2⟩ := qtgt_spec hr
    exact QTri.stack h fun p e R s mid args below meth c T locs cells slots C target hx hZ hby hown X hR hL k => XS.goto X.here hx rfl rfl (hb hby hd) t1 t2 k
  · obtain ⟨x, S', rfl, rfl⟩ := qif_inv hs
    obtain ⟨t1, t2⟩ := qtgt_spec hr
    cases hh : ifCond.holds _ x with
    | true => rw [hh] at h; exact QTri.stack h fun p e R s mid args below meth c T locs cells slots C target hx hZ hby hown X hR hL k => XS.ifYes X.here hx rfl rfl (hb hby hd) rfl hh t1 t2 k
    | false => rw [hh] at h; exact QTri.stack h fun p e R s mid args below meth c T locs cells slots C target hx hZ hby hown X hR hL k => XS.ifNo X.here hx rfl (hb hby hd) rfl hh k
  · obtain ⟨x, y, S', rfl, rfl⟩ := qicmp_inv hs
    obtain ⟨t1, t2⟩ := qtgt_spec hr
    cases hh : if_icmp.holds _ x y with
    | true => rw [hh] at h; exact QTri.stack h fun p e R s mid args below meth c T locs cells slots C target hx hZ hby hown X hR hL k => XS.icmpYes X.here hx rfl rfl (hb hby hd) rfl hh t1 t2 k
    | false => rw [hh] at h; exact QTri.stack h fun p e R s mid args below meth c T locs cells slots C target hx hZ hby hown X hR hL k => XS.icmpNo X.here hx rfl (hb hby hd) rfl hh k
  · unfold qdup at hs
    split at hs
    · cases hs
      exact QTri.stack h fun p e R s mid args below meth c T locs cells slots C target hx hZ hby hown X hR hL k => XS.dup X.here hx rfl (hb hby hd) rfl rfl k
    · cases hs
      exact QTri.stack h fun p e R s mid args below meth c T locs cells slots C target hx hZ hby hown X hR hL k => XS.dup X.here hx rfl (hb hby hd) rfl rfl k
    · cases hs
  · unfold qdup2 at hs
    split at hs
    · cases hs
      exact QTri.stack h fun p e R s mid args below meth c T locs cells slots C target hx hZ hby hown X hR hL k => XT.dup2 X.here hx rfl (hb hby hd) rfl rfl rfl k
    · cases hs
      exact QTri.stack h fun p e R s mid args below meth c T locs cells slots C target hx hZ hby hown X hR hL k => XT.dup2 X.here hx rfl (hb hby hd) rfl rfl rfl k
    · cases hs
      exact QTri.stack h fun p e R s mid args below meth c T locs cells slots C target hx hZ hby hown X hR hL k => XT.dup2L X.here hx rfl (hb hby hd) rfl k
    · cases hs
  · unfold qpop at hs
    split at hs
    · cases hs
      exact QTri.stack h fun p e R s mid args below meth c T locs cells slots C target hx hZ hby hown X hR hL k => XT.pop X.here hx rfl (hb hby hd) rfl rfl k
    · cases hs
      exact QTri.stack h fun p e R s mid args below meth c T locs cells slots C target hx hZ hby hown X hR hL k => XT.pop X.here hx rfl (hb hby hd) rfl rfl k
    · cases hs
  · exact QTri.getfield W h hc hs
  · exact QTri.putfield Ad W h hc hs
  · exact QTri.iaload h hc hs
  · exact QTri.baload h hc hs
  · exact QTri.laload h hc hs
  · exact QTri.iastore Ad h hc hs
  · exact QTri.bastore Ad h hc hs
  · exact QTri.lastore Ad h hc hs
  · exact QTri.alen h hc hs
  · -- newarray
    unfold qnewA at hs
    split at hs
    · split at hs
      · obtain ⟨k, hk, hs⟩ := Option.bind_eq_some_iff.mp hs
        cases hs
        exact QTri.newArr (c := .inr (.inl (.int, List.replicate k 0))) Ad W hk hc (by simp [qsz]) (fun h' a cA A => ⟨_, A, by simp [newA, (qnew_inv hk).2.1]; exact Or.inr rfl⟩) h
      · obtain ⟨k, hk, hs⟩ := Option.bind_eq_some_iff.mp hs
        cases hs
        exact QTri.newArr (c := .inr (.inl (.boolean, List.replicate k 0))) Ad W hk hc (by simp [qsz]) (fun h' a cA A => ⟨_, A, by simp [newA, (qnew_inv hk).2.1]; exact Or.inr rfl⟩) h
      · obtain ⟨k, hk, hs⟩ := Option.bind_eq_some_iff.mp hs
        cases hs
        exact QTri.newArr (c := .inr (.inl (.byte, List.replicate k 0))) Ad W hk hc (by simp [qsz]) (fun h' a cA A => ⟨_, A, by simp [newA, (qnew_inv hk).2.1]; exact Or.inr rfl⟩) h
      · obtain ⟨k, hk, hs⟩ := Option.bind_eq_some_iff.mp hs
        cases hs
        exact QTri.newArr (c := .inr (.inr (List.replicate k 0))) Ad W hk hc (by simp [qsz]) (fun h' a cA A => ⟨_, A, by simp [newA, (qnew_inv hk).2.1]; exact Or.inr rfl⟩) h
      · cases hs
    · cases hs
  · cases hs; exact QTri.newObj Ad W h hc
  · cases hs
theorem QTri.steps (Ad : QAd n0 ad) (W : QW Z a0) : ∀ (n : Nat) {st st' : QSt}, qsteps m n st = some st' → QTri l Z n0 ad m st' v σ' → QTri l Z n0 ad m st v σ'
  | 0, st, st', h, k => by cases h; exact k
  | n + 1, st, st', h, k => by
    simp only [qsteps] at h
    split at h
    · rename_i st₁ h1
      exact QTri.step Ad W (QTri.steps Ad W n h k) h1
    · cases h
/-! ## returns, masks, calls -/
def lmask : List Bool → QLoc → QLoc
  | b :: t, x :: u => (bif b then x else none) :: lmask t u
  | _, L => L.map fun _ => none
theorem lmask_len : ∀ (b : List Bool) (L : QLoc), (lmask b L).length = L.length
  | [], L => by simp [lmask]
  | _ :: _, [] => by simp [lmask]
  | _ :: t, _ :: u => by simp [lmask, lmask_len t u]
theorem lmask_get : ∀ (b : List Bool) (L : QLoc) (k : Nat) (v : Value), lget (lmask b L) k = some v → lget L k = some v
  | [], L, k, v, h => by
    simp only [lmask, lget_eq, List.getElem?_map] at h
    cases hq : L[k]? <;> simp [hq] at h
  | _ :: _, [], k, v, h => by simp [lmask, lget] at h
  | b :: t, x :: u, 0, v, h => by
    simp only [lmask, lget] at h ⊢
    cases b
    · cases h
    · exact h
  | b :: t, x :: u, k + 1, v, h => by
    simp only [lmask, lget] at h ⊢
    exact lmask_get t u k v h
theorem QTri.mask {pc : Nat} {L : QLoc} {S : List Value} {σ : QHeap} (b : List Bool) (h : QTri l Z n0 ad m (pc, lmask b L, S, σ) v σ') : QTri l Z n0 ad m (pc, L, S, σ) v σ' :=
  QTri.frame h fun p e R s mid args below meth c T locs cells slots C hcx X hR hL hC => ⟨C, ⟨by rw [lmask_len]; exact hL.1, fun k u hk => hL.2.1 k u (lmask_get b L k u hk), hL.2.2⟩, hC, fun target k => k⟩
theorem QTri.ret0 {pc aux : Nat} {L : QLoc} {σ : QHeap} (hc : pCode m pc = some (.return_, aux)) (hr : pRet m = none) : QTri l Z n0 ad m (pc, L, [], σ) none σ :=
  have hd : decode (pBytes m) pc = .ok (.return_, 1) := pDecN hc rfl
  ⟨Nat.le_refl _, Nat.le_refl _, fun p e R s mid args below meth c T locs cells slots C hcx X hR hF hL hC hn hc1 hsl => ⟨T, locs, by simpa using X, hR, hF, fun fs hf => X.returnOut hcx.1 (hcx.2.2.2.2.1.trans hr) (hb hcx.2.2.1 hd) hf⟩⟩
theorem QTri.retI {pc aux : Nat} {L : QLoc} {S : List Value} {σ : QHeap} {x : Int32} (hc : pCode m pc = some (.ireturn, aux)) (hr : pRet m = some .int) : QTri l Z n0 ad m (pc, L, .int x :: S, σ) (some (.int x)) σ :=
  have hd : decode (pBytes m) pc = .ok (.ireturn, 1) := pDecN hc rfl
  ⟨Nat.le_refl _, Nat.le_refl _, fun p e R s mid args below meth c T locs cells slots C hcx X hR hF hL hC hn hc1 hsl => ⟨T, locs, by simpa using X, hR, hF, fun fs hf => Jvm.RoadKit.retI X hcx.1 (hcx.2.2.2.2.1.trans hr) (hb hcx.2.2.1 hd) hf⟩⟩
theorem QTri.retZ {pc aux : Nat} {L : QLoc} {S : List Value} {σ : QHeap} {x : Int32} (hc : pCode m pc = some (.ireturn, aux)) (hr : pRet m = some .boolean) : QTri l Z n0 ad m (pc, L, .int x :: S, σ) (some (.int (x &&& 1))) σ :=
  have hd : decode (pBytes m) pc = .ok (.ireturn, 1) := pDecN hc rfl
  ⟨Nat.le_refl _, Nat.le_refl _, fun p e R s mid args below meth c T locs cells slots C hcx X hR hF hL hC hn hc1 hsl => ⟨T, locs, by simpa using X, hR, hF, fun fs hf => retN X hcx.1 (t := .boolean) (hcx.2.2.2.2.1.trans hr) (by simp) (hb hcx.2.2.1 hd) hf⟩⟩
theorem QTri.retJ {pc aux : Nat} {L : QLoc} {S : List Value} {σ : QHeap} {x : Int64} (hc : pCode m pc = some (.lreturn, aux)) (hr : pRet m = some .long) : QTri l Z n0 ad m (pc, L, .long x :: S, σ) (some (.long x)) σ :=
  have hd : decode (pBytes m) pc = .ok (.lreturn, 1) := pDecN hc rfl
  ⟨Nat.le_refl _, Nat.le_refl _, fun p e R s mid args below meth c T locs cells slots C hcx X hR hF hL hC hn hc1 hsl => ⟨T, locs, by simpa using X, hR, hF, fun fs hf => retOut X hcx.1 (t := .long) (hcx.2.2.2.2.1.trans hr) rfl (Or.inr (Or.inl ⟨rfl, rfl, _, rfl⟩)) (hb hcx.2.2.1 hd) hf⟩⟩
def LOk (ad : Nat → Addr) (L : QLoc) (C : List Slot) : Prop :=
  L.length = C.length ∧ (∀ k v, lget L k = some v → C[k]? = some (.val (qv ad v))) ∧ (∀ k w, C[k]? = some (.val w) → w.category = 2 → C[k + 1]? = some .second) ∧ ∀ k, C[k]? = some .second → ∃ j w, k = j + 1 ∧ C[j]? = some (.val w) ∧ w.category = 2
theorem LOk.base (ad : Nat → Addr) (n : Nat) : LOk ad (List.replicate n none) (List.replicate n .unset) := by
  refine ⟨by simp, fun k u h => ?_, fun k w h => ?_, fun k h => ?_⟩
  · rw [lget_eq] at h
    rcases Nat.lt_or_ge k n with q | q
    · simp [List.getElem?_replicate, q] at h
    · simp [List.getElem?_eq_none, q] at h
  · rcases Nat.lt_or_ge k n with q | q
    · simp [List.getElem?_replicate, q] at h
    · simp [List.getElem?_eq_none, q] at h
  · rcases Nat.lt_or_ge k n with q | q
    · simp [List.getElem?_replicate, q] at h
    · simp [List.getElem?_eq_none, q] at h
theorem LOk.one {L : QLoc} {C : List Slot} (H : LOk ad L C) {u : Value} (hu : u.category = 1) : LOk ad (some u :: L) (.val (qv ad u) :: C) := by
  obtain ⟨h1, h2, h3, h4⟩ := H
  refine ⟨by simp [h1], fun k w h => ?_, fun k w h hw => ?_, fun k h => ?_⟩
  · cases k with
    | zero => simp only [lget] at h; cases h; simp
    | succ k => simp only [lget] at h; simpa using h2 k w h
  · cases k with
    | zero => simp at h; rw [← h, qv_cat, hu] at hw; cases hw
    | succ k => simpa using h3 k w (by simpa using h) hw
  · cases k with
    | zero => simp at h
    | succ k =>
      obtain ⟨j, w, z1, z2, z3⟩ := h4 k (by simpa using h)
      exact ⟨j + 1, w, by omega, by simpa using z2, z3⟩
theorem LOk.two {L : QLoc} {C : List Slot} (H : LOk ad L C) {u : Value} (hu : u.category = 2) : LOk ad (some u :: none :: L) (.val (qv ad u) :: .second :: C) := by
  obtain ⟨h1, h2, h3, h4⟩ := H
  refine ⟨by simp [h1], fun k w h => ?_, fun k w h hw => ?_, fun k h => ?_⟩
  · rcases k with _ | _ | k
    · simp only [lget] at h; cases h; simp
    · simp [lget] at h
    · simp only [lget] at h; simpa using h2 k w h
  · rcases k with _ | _ | k
    · simp
    · simp at h
    · simpa using h3 k w (by simpa using h) hw
  · rcases k with _ | _ | k
    · simp at h
    · exact ⟨0, qv ad u, rfl, by simp, by rw [qv_cat]; exact hu⟩
    · obtain ⟨j, w, z1, z2, z3⟩ := h4 k (by simpa using h)
      exact ⟨j + 2, w, by omega, by simpa using z2, z3⟩
def slotsOf (u : Value) : List Slot := if u.category = 2 then [.val u, .second] else [.val u]
theorem fold_slots : ∀ (as : List Value) (acc : Array Slot), (as.foldl (fun acc v => if v.category = 2 then (acc.push (.val v)).push .second else acc.push (.val v)) acc).toList = acc.toList ++ as.flatMap slotsOf
  | [], acc => by simp
  | u :: t, acc => by
    rw [List.foldl_cons, fold_slots t]
    by_cases hc : u.category = 2 <;> simp [slotsOf, hc]
theorem slots_len : ∀ (as : List Value), (as.flatMap slotsOf).length = (as.map fun v => v.category).sum
  | [] => rfl
  | u :: t => by
    rw [List.flatMap_cons, List.length_append, slots_len t, List.map_cons, List.sum_cons]
    cases u <;> simp [slotsOf, Value.category]
theorem cats_qv (as : List Value) : ((as.map (qv ad)).map fun v => v.category).sum = (as.map fun v => v.category).sum := by
  rw [List.map_map]
  congr 1
  exact List.map_congr_left fun x _ => qv_cat ad x
theorem entry_list : ∀ (as : List Value) (n : Nat), LOk ad ((as.flatMap fun v => match v with | .long x => [some (.long x), none] | .double x => [some (.double x), none] | v => [some v]) ++ List.replicate n none) ((as.map (qv ad)).flatMap slotsOf ++ List.replicate n .unset)
  | [], n => by simpa using LOk.base ad n
  | u :: t, n => by
    have ih := entry_list t n
    cases u with
    | long x => exact LOk.two ih rfl
    | double x => exact LOk.two ih rfl
    | int x => exact LOk.one ih rfl
    | float x => exact LOk.one ih rfl
    | null => exact LOk.one ih rfl
    | ref x => exact LOk.one ih rfl
    | retAddr x => exact LOk.one ih rfl
theorem qentry_ok (as : List Value) (mx : Nat) (h : (as.map fun v => v.category).sum ≤ mx) : QLocOk ad (qentry as mx) (argsToLocals (as.map (qv ad)).toArray mx) ∧ (argsToLocals (as.map (qv ad)).toArray mx).size = mx := by
  have e : (argsToLocals (as.map (qv ad)).toArray mx).toList = (as.map (qv ad)).flatMap slotsOf ++ List.replicate (mx - (as.map fun v => v.category).sum) .unset := by
    unfold argsToLocals
    have q := fold_slots (as.map (qv ad)) #[]
    simp only [List.foldl_toArray', Array.toList_append, Array.toList_replicate]
    have q2 : ((as.map (qv ad)).foldl (fun (acc : Array Slot) (v : Value) => if v.category = 2 then (acc.push (.val v)).push .second else acc.push (.val v)) #[]).size = (as.map fun v => v.category).sum := by
      rw [← Array.length_toList, q]
      simp only [List.nil_append]
      rw [slots_len, cats_qv]
    rw [q, q2]
    simp
  have H := entry_list (ad := ad) as (mx - (as.map fun v => v.category).sum)
  rw [← e] at H
  obtain ⟨h1, h2, h3, h4⟩ := H
  have hs : (argsToLocals (as.map (qv ad)).toArray mx).size = mx := by
    rw [← Array.length_toList, e, List.length_append, slots_len, cats_qv, List.length_replicate]
    omega
  refine ⟨⟨h1.trans Array.length_toList, fun k u hk => ?_, fun k w hk hw => ?_, fun k hk => ?_⟩, hs⟩
  · have := h2 k u hk; rwa [Array.getElem?_toList] at this
  · have := h3 k w (by rw [Array.getElem?_toList]; exact hk) hw; rwa [Array.getElem?_toList] at this
  · obtain ⟨j, w, z1, z2, z3⟩ := h4 k (by rw [Array.getElem?_toList]; exact hk)
    exact ⟨j, w, z1, by rwa [Array.getElem?_toList] at z2, z3⟩
set_option maxHeartbeats 4000000 in
theorem QTri.met {k : Nat} {as : List Value} {σ σ₁ : QHeap} {w : Option Value} {h0 : Heap} (hk : k < pN) (h : QTri l Z n0 ad k (0, qentry as (pMaxL k), [], σ) w σ₁) (hR : QRep Z n0 ad h0 σ) (hlen : (as.map fun v => v.category).sum ≤ pMaxL k) (hret : pRet k = none → w = none) (ws : List Jvm.Cond) {rm : Room}
    (r1 : pFr k ≤ rm.frames) (r2 : pLo k ≤ rm.locals) (r3 : σ₁.length - σ.length ≤ rm.cells) (r4 : qhs σ₁ - qhs σ ≤ rm.slots) :
    MetFree l (pName k) (head1 (Jvm.Cond.code (pName k) (pBytes k) (pMaxL k) (pRet k) :: ws) rm) (fun a U => a = (as.map (qv ad)).toArray ∧ Z.Warmed39 U.vm ∧ U.heap = h0) (fun _ _ _ _ _ => True)
      (fun _ U o U' => ∃ v L, o = .returned v ∧ (v = w.map (qv ad) ∧ QRep Z n0 ad U'.heap σ₁ ∧ Fr n0 L) ∧ FrameEnd U o U' L (σ₁.length - σ.length) (qhs σ₁ - qhs σ)) := by
  refine MetFree.of_bodySF (plainFor_of_name (kPlain _ (pKlt k hk))) hisR ?_
  intro p e s mid args below meth c s₁ Bd hml0 hP hK
  obtain ⟨rfl, hZ, hh⟩ := hP
  have e0 : s₁.heap = h0 := by rw [← hh, Bd.state]; rfl
  obtain ⟨hl1, hl2⟩ := qentry_ok (ad := ad) as (pMaxL k) hlen
  have hX : Stand p l e rm s mid (as.map (qv ad)).toArray below meth c s₁ [] 0 0 := Stand.of_body Bd
  obtain ⟨T', locs', X', R', F', S'⟩ := h.2.2 p e rm s mid _ below meth c s₁ [] 0 0 _ ⟨Bd.exec, hZ, Bd.bytes, hml0, Bd.returns, findClass_of_methodNamed Bd.named, (name_of_methodNamed Bd.named Bd.method).1, r1, r2⟩ hX (by rw [e0]; exact hR) (Fr.nil _) hl1 (hl2.trans hml0.symm) (by rw [hh, Nat.add_zero]; exact hR.2.1.symm) (by rw [Nat.zero_add]; exact r3) (by rw [Nat.zero_add]; exact r4)
  obtain ⟨fs, hr, hrun, hended, hW, hsame⟩ := X'.leave (v := w.map (qv ad)) (fun q => by rw [hret (Bd.returns.symm.trans q)]; rfl)
  refine ⟨_, _, S' fs hr, hrun, hended, _, _, rfl, ⟨rfl, R', F'⟩, ⟨_, rfl⟩, hW, ?_⟩
  simp only [Nat.zero_add] at hsame
  exact hsame
theorem QTri.room {k : Nat} {σ σ₁ : QHeap} {rest : List Value} {R : Room} (hroom : (Nat.ble (pFr k + 1) (pFr m) && Nat.ble ((rest.map fun v => v.category).sum + (pMaxL k + 11) + pLo k) (pLo m)) = true) (hfr : pFr m ≤ R.frames) (hlo : pLo m ≤ R.locals) :
    pFr k + 1 ≤ R.frames ∧ (rest.map fun v => v.category).sum + (pMaxL k + 11) + pLo k ≤ R.locals := by
  obtain ⟨q1, q2⟩ := Bool.and_eq_true_iff.mp hroom
  exact ⟨Nat.le_trans (Nat.le_of_ble_eq_true q1) hfr, Nat.le_trans (Nat.le_of_ble_eq_true q2) hlo⟩
theorem sig_len {k : Nat} (hk : k < pN) {as : List Value} (hna : as.length = pNA k) : ∀ sig, parseMethodDescriptor (pName k).desc = some sig → (as.map (qv ad)).length = sig.parameters.length := fun sig hs => by
  have q := pSig k hk
  rw [show parseMethodDescriptor (pDs k) = some sig from hs] at q
  simp at q
  simp [hna, q]
theorem ret_map (w : Option Value) (rest : List Value) : (w.toList ++ rest).map (qv ad) = (w.map (qv ad)).toList ++ rest.map (qv ad) := by cases w <;> simp
theorem QTri.after {as0 : List Value} {pc : Nat} {L : QLoc} {S rest : List Value} {σ σ₁ : QHeap} {w : Option Value} {k : Nat} (hcal : QTri l Z n0 ad k (0, qentry as0 (pMaxL k), [], σ) w σ₁) (h : QTri l Z n0 ad m (pc + 3, L, w.toList ++ rest, σ₁) v σ')
    (hs : ∀ (p : Program) (e : Env) (R : Room) (s : State) (mid : MethodId) (args : Array Value) (below : List Frame) (meth : Method) (c : Code) (T : State) (locs : List Loc) (cells slots : Nat) (C : Array Slot),
      QCx Z p R s mid meth c m → Stand p l e R s mid args below meth c T locs cells slots → QRep Z n0 ad T.heap σ → C.size = c.maxLocals → cells + (σ₁.length - σ.length) ≤ R.cells → slots + (qhs σ₁ - qhs σ) ≤ R.slots →
      ∃ T₁ Lc, Stand p l e R s mid args below meth c T₁ (locs ++ Lc) (cells + (σ₁.length - σ.length)) (slots + (qhs σ₁ - qhs σ)) ∧ QRep Z n0 ad T₁.heap σ₁ ∧ Fr n0 Lc ∧
        ∀ target, Steps p.tables e below (T₁.setTop (mkF mid (pc + 3) C ((w.map (qv ad)).toList ++ rest.map (qv ad)))) target → Steps p.tables e below (T.setTop (mkF mid pc C (S.map (qv ad)))) target) :
    QTri l Z n0 ad m (pc, L, S, σ) v σ' := by
  refine QTri.gen h hcal.1 hcal.2.1 fun p e R s mid args below meth c T locs cells slots C hcx X hR hF hL hC hn hc1 hsl => ?_
  obtain ⟨T₁, Lc, X₁, R₁, F₁, st⟩ := hs p e R s mid args below meth c T locs cells slots C hcx X hR hC hc1 hsl
  refine ⟨T₁, locs ++ Lc, C, X₁, R₁, hF.app F₁, hL, hC, fun target q => st target ?_⟩
  rw [← ret_map]
  exact q
set_option maxHeartbeats 4000000 in
theorem QTri.callV (W : QW Z a0) {pc idx k a : Nat} {L : QLoc} {S as rest vs : List Value} {σ σ₁ : QHeap} {w : Option Value} (hc : pCode m pc = some (.invokevirtual idx, k)) (hm : (lkV.contains (pK m, idx, k) && mV.contains k) = true) (hcell : hget σ a = some (.inl vs)) (hS : S = as.reverse ++ .ref a :: rest)
    (hna : as.length = pNA k) (hlen : Nat.ble (((Value.ref a :: as).map fun v => v.category).sum) (pMaxL k) = true) (hroom : (Nat.ble (pFr k + 1) (pFr m) && Nat.ble ((rest.map fun v => v.category).sum + (pMaxL k + 11) + pLo k) (pLo m)) = true) (hrb : (w.isNone || (pRet k).isSome) = true)
    (hcal : QTri l Z n0 ad k (0, qentry (.ref a :: as) (pMaxL k), [], σ) w σ₁) (h : QTri l Z n0 ad m (pc + 3, L, w.toList ++ rest, σ₁) v σ') : QTri l Z n0 ad m (pc, L, S, σ) v σ' := by
  have hd : decode (pBytes m) pc = .ok (.invokevirtual idx, 3) := pDecN hc rfl
  subst hS
  obtain ⟨m1, m2⟩ := Bool.and_eq_true_iff.mp hm
  have m1 := mem_of_contains m1
  have m2 := mem_of_contains m2
  have hkA := (mVlt k m2).1
  have hkN := mAlt k hkA
  have hret : pRet k = none → w = none := fun q => by
    rw [q] at hrb
    cases w with
    | none => rfl
    | some w => simp at hrb
  refine QTri.after hcal h fun p e R s mid args below meth c T locs cells slots C hcx X hR hC hc1 hsl => ?_
  obtain ⟨hx, hZ, hby, hml, hret', hown, hnm, hfr, hlo⟩ := hcx
  have hd2 : decode c.code pc = .ok (.invokevirtual idx, 3) := by rw [hby]; exact hd
  obtain ⟨f1, f2⟩ := QTri.room (σ := σ) (σ₁ := σ₁) hroom hfr hlo
  obtain ⟨cq, kq, q1, q2, q3⟩ := isOf hZ rfl (hR.2.2 _ _ hcell).1
  obtain ⟨w1, w2, w3⟩ := (qw_vi W) k m2
  obtain ⟨c1, c2⟩ := (qw_cod W) k hkA
  obtain ⟨_, _, ⟨T₁, L₁, k₁, n₁⟩, -, X₁, ⟨Lc, ⟨rfl, hR1, hF1⟩, l₁, y₁, z₁⟩, st⟩ := X.virtualBack hx (own := kName (pK m)) (index := idx) (y := pName k) (z := pName k) hown (mvT hZ (qw_ml W (pK m, idx, k) m1)) (mvT hZ w1) (notFace_of_selects (args := #[]) (mvT hZ w2)) (mvT hZ w2) (mvT hZ w3) (pOwn _ (pKlt k hkN))
    (backOf (W := (rest.map fun v => v.category).sum) (rm := ⟨pFr k, σ₁.length - σ.length, qhs σ₁ - qhs σ, pLo k⟩) (Q := fun v h L => v = Option.map (qv ad) w ∧ QRep Z n0 ad h σ₁ ∧ Fr n0 L) (QTri.met hkN hcal hR (Nat.le_of_ble_eq_true hlen) hret [] (Nat.le_refl _) (Nat.le_refl _) (Nat.le_refl _) (Nat.le_refl _)) hZ c1 c2 f1 f2) q1 q3 (g := mkF mid pc C (List.map (qv ad) (as.reverse ++ .ref a :: rest))) rfl hC (Steps.refl _) (argsL := as.map (qv ad)) (rest := rest.map (qv ad)) (sig_len hkN hna) (by simp [qv]) (by show 2 * 0 + _ ≤ _; rw [cats_qv]; omega) hd2 (fun _ _ => ⟨rfl, rfl, hc1, hsl⟩)
  dsimp only [Pt.U, Pt.locs, Pt.cells, Pt.slots] at X₁ l₁ y₁ z₁ st hR1
  subst l₁ y₁ z₁
  exact ⟨T₁, Lc, X₁, hR1, hF1, fun target q => st.trans q⟩
set_option maxHeartbeats 4000000 in
theorem QTri.callI (W : QW Z a0) {pc idx k a : Nat} {L : QLoc} {S as rest : List Value} {σ σ₁ : QHeap} (hc : pCode m pc = some (.invokespecial idx, k)) (hm : (lkV.contains (pK m, idx, k) && mI.contains k) = true) (hS : S = as.reverse ++ .ref a :: rest)
    (hna : as.length = pNA k) (hlen : Nat.ble (((Value.ref a :: as).map fun v => v.category).sum) (pMaxL k) = true) (hroom : (Nat.ble (pFr k + 1) (pFr m) && Nat.ble ((rest.map fun v => v.category).sum + (pMaxL k + 11) + pLo k) (pLo m)) = true)
    (hcal : QTri l Z n0 ad k (0, qentry (.ref a :: as) (pMaxL k), [], σ) none σ₁) (h : QTri l Z n0 ad m (pc + 3, L, rest, σ₁) v σ') : QTri l Z n0 ad m (pc, L, S, σ) v σ' := by
  have hd : decode (pBytes m) pc = .ok (.invokespecial idx, 3) := pDecN hc rfl
  subst hS
  obtain ⟨m1, m2⟩ := Bool.and_eq_true_iff.mp hm
  have m1 := mem_of_contains m1
  have m2 := mem_of_contains m2
  obtain ⟨hkA, -, hin, hrt⟩ := mIlt k m2
  have hkN := mAlt k hkA
  refine QTri.after (w := none) hcal h fun p e R s mid args below meth c T locs cells slots C hcx X hR hC hc1 hsl => ?_
  obtain ⟨hx, hZ, hby, hml, hret', hown, hnm, hfr, hlo⟩ := hcx
  have hd2 : decode c.code pc = .ok (.invokespecial idx, 3) := by rw [hby]; exact hd
  obtain ⟨f1, f2⟩ := QTri.room (σ := σ) (σ₁ := σ₁) hroom hfr hlo
  obtain ⟨c1, c2⟩ := (qw_cod W) k hkA
  have c1' := c1
  rw [hrt] at c1'
  obtain ⟨_, _, ⟨T₁, L₁, k₁, n₁⟩, -, X₁, ⟨Lc, ⟨rfl, hR1, hF1⟩, l₁, y₁, z₁⟩, st⟩ := X.specialBack hx (own := kName (pK m)) (index := idx) (y := pName k) hin hown (mvT hZ (qw_ml W (pK m, idx, k) m1)) (mvT hZ ((qw_ini W) k m2)) (mvT hZ c1') (pOwn _ (pKlt k hkN))
    (backOf (W := (rest.map fun v => v.category).sum) (rm := ⟨pFr k, σ₁.length - σ.length, qhs σ₁ - qhs σ, pLo k⟩) (Q := fun v h L => v = Option.map (qv ad) none ∧ QRep Z n0 ad h σ₁ ∧ Fr n0 L) (QTri.met hkN hcal hR (Nat.le_of_ble_eq_true hlen) (fun _ => rfl) [] (Nat.le_refl _) (Nat.le_refl _) (Nat.le_refl _) (Nat.le_refl _)) hZ c1 c2 f1 f2) (g := mkF mid pc C (List.map (qv ad) (as.reverse ++ .ref a :: rest))) rfl hC (Steps.refl _) (a := ad a) (argsL := as.map (qv ad)) (rest := rest.map (qv ad)) (sig_len hkN hna) (by simp [qv]) (by show 2 * 0 + _ ≤ _; rw [cats_qv]; omega) hd2 (fun _ _ => ⟨rfl, rfl, hc1, hsl⟩)
  dsimp only [Pt.U, Pt.locs, Pt.cells, Pt.slots] at X₁ l₁ y₁ z₁ st hR1
  subst l₁ y₁ z₁
  exact ⟨T₁, Lc, X₁, hR1, hF1, fun target q => st.trans q⟩
set_option maxHeartbeats 4000000 in
theorem QTri.callP (W : QW Z a0) {pc idx k a : Nat} {L : QLoc} {S as rest vs : List Value} {σ σ₁ : QHeap} {w : Option Value} (hc : pCode m pc = some (.invokevirtual idx, k)) (hm : (lkV.contains (pK m, idx, k) && mP.contains k) = true) (hcell : hget σ a = some (.inl vs)) (hS : S = as.reverse ++ .ref a :: rest)
    (hna : as.length = pNA k) (hlen : Nat.ble (((Value.ref a :: as).map fun v => v.category).sum) (pMaxL k) = true) (hroom : (Nat.ble (pFr k + 1) (pFr m) && Nat.ble ((rest.map fun v => v.category).sum + (pMaxL k + 11) + pLo k) (pLo m)) = true) (hrb : (w.isNone || (pRet k).isSome) = true)
    (hcal : QTri l Z n0 ad k (0, qentry (.ref a :: as) (pMaxL k), [], σ) w σ₁) (h : QTri l Z n0 ad m (pc + 3, L, w.toList ++ rest, σ₁) v σ') : QTri l Z n0 ad m (pc, L, S, σ) v σ' := by
  have hd : decode (pBytes m) pc = .ok (.invokevirtual idx, 3) := pDecN hc rfl
  subst hS
  obtain ⟨m1, m2⟩ := Bool.and_eq_true_iff.mp hm
  have m1 := mem_of_contains m1
  have m2 := mem_of_contains m2
  obtain ⟨hkA, hk1⟩ := mPlt k m2
  have hkN := mAlt k hkA
  have hret : pRet k = none → w = none := fun q => by
    rw [q] at hrb
    cases w with
    | none => rfl
    | some w => simp at hrb
  refine QTri.after hcal h fun p e R s mid args below meth c T locs cells slots C hcx X hR hC hc1 hsl => ?_
  obtain ⟨hx, hZ, hby, hml, hret', hown, hnm, hfr, hlo⟩ := hcx
  have hd2 : decode c.code pc = .ok (.invokevirtual idx, 3) := by rw [hby]; exact hd
  obtain ⟨f1, f2⟩ := QTri.room (σ := σ) (σ₁ := σ₁) hroom hfr hlo
  obtain ⟨cell, h1, h2⟩ := (hR.2.2 _ _ hcell).1.cell
  obtain ⟨w1, w2⟩ := (qw_pr W) k m2
  obtain ⟨c1, c2⟩ := (qw_cod W) k hkA
  have hpr : s.PrivateAt (pName k) := Cond.privateMethod_at (mvP hZ w2 (args := #[]))
  obtain ⟨cC, kC, i1, i2, i3, i4⟩ := Cond.instantiable_spec (args := #[]) (mvT hZ (qw_inst W))
  have hsel : (Cond.selects (pName k).cls (pName k) (pName k)).before args s = true := selects_self_of_private (c := cC) (k := kC) (by show s.vm.findClass (kName (pK k)) = _; rw [hk1]; exact i1) i2 (by have q := i4.1; cases hq : kC.isInterface with | false => rfl | true => rw [hq] at q; simp at q) hpr (mvT hZ w1) (pOwn _ (pKlt k hkN))
  obtain ⟨_, _, ⟨T₁, L₁, k₁, n₁⟩, -, X₁, ⟨Lc, ⟨rfl, hR1, hF1⟩, l₁, y₁, z₁⟩, st⟩ := X.privateBack hx (own := kName (pK m)) (index := idx) (y := pName k) hown (mvT hZ (qw_ml W (pK m, idx, k) m1)) (mvT hZ w1) hsel hpr (mvT hZ c1) (pOwn _ (pKlt k hkN))
    (backOf (W := (rest.map fun v => v.category).sum) (rm := ⟨pFr k, σ₁.length - σ.length, qhs σ₁ - qhs σ, pLo k⟩) (Q := fun v h L => v = Option.map (qv ad) w ∧ QRep Z n0 ad h σ₁ ∧ Fr n0 L) (QTri.met hkN hcal hR (Nat.le_of_ble_eq_true hlen) hret [] (Nat.le_refl _) (Nat.le_refl _) (Nat.le_refl _) (Nat.le_refl _)) hZ c1 c2 f1 f2) (g := mkF mid pc C (List.map (qv ad) (as.reverse ++ .ref a :: rest))) rfl hC (Steps.refl _) (a := ad a) h1 h2 (argsL := as.map (qv ad)) (rest := rest.map (qv ad)) (sig_len hkN hna) (by simp [qv]) (by show 2 * 0 + _ ≤ _; rw [cats_qv]; omega) hd2 (fun _ _ => ⟨rfl, rfl, hc1, hsl⟩)
  dsimp only [Pt.U, Pt.locs, Pt.cells, Pt.slots] at X₁ l₁ y₁ z₁ st hR1
  subst l₁ y₁ z₁
  exact ⟨T₁, Lc, X₁, hR1, hF1, fun target q => st.trans q⟩
set_option maxHeartbeats 4000000 in
theorem QTri.callS (W : QW Z a0) {pc idx k : Nat} {L : QLoc} {S as rest : List Value} {σ σ₁ : QHeap} {w : Option Value} (hc : pCode m pc = some (.invokestatic idx, k)) (hm : (lkV.contains (pK m, idx, k) && mS.contains k) = true) (hS : S = as.reverse ++ rest)
    (hna : as.length = pNA k) (hlen : Nat.ble ((as.map fun v => v.category).sum) (pMaxL k) = true) (hroom : (Nat.ble (pFr k + 1) (pFr m) && Nat.ble ((rest.map fun v => v.category).sum + (pMaxL k + 11) + pLo k) (pLo m)) = true) (hrb : (w.isNone || (pRet k).isSome) = true)
    (hcal : QTri l Z n0 ad k (0, qentry as (pMaxL k), [], σ) w σ₁) (h : QTri l Z n0 ad m (pc + 3, L, w.toList ++ rest, σ₁) v σ') : QTri l Z n0 ad m (pc, L, S, σ) v σ' := by
  have hd : decode (pBytes m) pc = .ok (.invokestatic idx, 3) := pDecN hc rfl
  subst hS
  obtain ⟨m1, m2⟩ := Bool.and_eq_true_iff.mp hm
  have m1 := mem_of_contains m1
  have m2 := mem_of_contains m2
  have hkA := mSlt k m2
  have hkN := mAlt k hkA
  have hret : pRet k = none → w = none := fun q => by
    rw [q] at hrb
    cases w with
    | none => rfl
    | some w => simp at hrb
  refine QTri.after hcal h fun p e R s mid args below meth c T locs cells slots C hcx X hR hC hc1 hsl => ?_
  obtain ⟨hx, hZ, hby, hml, hret', hown, hnm, hfr, hlo⟩ := hcx
  have hd2 : decode c.code pc = .ok (.invokestatic idx, 3) := by rw [hby]; exact hd
  obtain ⟨f1, f2⟩ := QTri.room (σ := σ) (σ₁ := σ₁) hroom hfr hlo
  obtain ⟨c1, c2⟩ := (qw_cod W) k hkA
  obtain ⟨_, _, ⟨T₁, L₁, k₁, n₁⟩, -, X₁, ⟨Lc, ⟨rfl, hR1, hF1⟩, l₁, y₁, z₁⟩, st⟩ := Jvm.LawKit.callS X hx (own := kName (pK m)) (index := idx) (y := pName k) hown (mvT hZ (qw_ml W (pK m, idx, k) m1)) (mvT hZ ((qw_st W) k m2)) (mvT hZ c2) (mvT hZ c1) (pOwn _ (pKlt k hkN))
    (backOf (W := (rest.map fun v => v.category).sum) (rm := ⟨pFr k, σ₁.length - σ.length, qhs σ₁ - qhs σ, pLo k⟩) (Q := fun v h L => v = Option.map (qv ad) w ∧ QRep Z n0 ad h σ₁ ∧ Fr n0 L) (QTri.met hkN hcal hR (Nat.le_of_ble_eq_true hlen) hret [] (Nat.le_refl _) (Nat.le_refl _) (Nat.le_refl _) (Nat.le_refl _)) hZ c1 c2 f1 f2) (g := mkF mid pc C (List.map (qv ad) (as.reverse ++ rest))) rfl hC (argsL := as.map (qv ad)) (rest := rest.map (qv ad)) (sig_len hkN hna) (by simp) (by show 2 * 0 + _ ≤ _; rw [cats_qv]; omega) hd2 (fun _ _ => ⟨rfl, rfl, hc1, hsl⟩)
  dsimp only [Pt.U, Pt.locs, Pt.cells, Pt.slots] at X₁ l₁ y₁ z₁ st hR1
  subst l₁ y₁ z₁
  exact ⟨T₁, Lc, X₁, hR1, hF1, fun target q => st target q⟩
set_option maxHeartbeats 4000000 in
theorem QTri.callO (W : QW Z a0) {pc idx k a : Nat} {L : QLoc} {rest : List Value} {σ : QHeap} (hc : pCode m pc = some (.invokespecial idx, k)) (hm : lkO.contains (pK m, idx) = true) (hroom : (Nat.ble 1 (pFr m) && Nat.ble ((rest.map fun v => v.category).sum + 12) (pLo m)) = true)
    (h : QTri l Z n0 ad m (pc + 3, L, rest, σ) v σ') : QTri l Z n0 ad m (pc, L, .ref a :: rest, σ) v σ' :=
  have hd : decode (pBytes m) pc = .ok (.invokespecial idx, 3) := pDecN hc rfl
  QTri.pure h rfl fun p e R s mid args below meth c T locs cells slots C hcx X hR hL hC => by
    obtain ⟨hx, hZ, hby, hml, hret', hown, hnm, hfr, hlo⟩ := hcx
    have hd2 : decode c.code pc = .ok (.invokespecial idx, 3) := by rw [hby]; exact hd
    obtain ⟨q1, q2⟩ := Bool.and_eq_true_iff.mp hroom
    obtain ⟨T₁, X₁, e₁, st⟩ := initO X hx hZ hown (idx := idx) (qw_mo W (pK m, idx) (mem_of_contains hm)) ((qw_oi W)) ((qw_oc W)) rfl (g := mkF mid pc C (List.map (qv ad) (.ref a :: rest))) rfl hC rfl hd2 (Nat.le_trans (Nat.le_of_ble_eq_true q1) hfr) (W := (rest.map fun v => v.category).sum) (by show 2 * 0 + _ ≤ _; rw [cats_qv]; omega) (Nat.le_trans (Nat.le_of_ble_eq_true q2) hlo)
    exact ⟨T₁, C, X₁, e₁, hL, hC, st⟩
theorem QTri.brT (Ad : QAd n0 ad) (W : QW Z a0) {st : QSt} {t f : Nat} {L : QLoc} {S : List Value} {σ : QHeap} {b : Bool} (hs : qstep m st = some (bif b then t else f, L, S, σ)) (hb : b = true) (h : QTri l Z n0 ad m (t, L, S, σ) v σ') : QTri l Z n0 ad m st v σ' := by
  subst hb; exact QTri.step Ad W h hs
theorem QTri.brF (Ad : QAd n0 ad) (W : QW Z a0) {st : QSt} {t f : Nat} {L : QLoc} {S : List Value} {σ : QHeap} {b : Bool} (hs : qstep m st = some (bif b then t else f, L, S, σ)) (hb : b = false) (h : QTri l Z n0 ad m (f, L, S, σ) v σ') : QTri l Z n0 ad m st v σ' := by
  subst hb; exact QTri.step Ad W h hs
theorem QTri.bnd {α : Type} (Ad : QAd n0 ad) (W : QW Z a0) {st : QSt} {x : Option α} {f : α → QSt} {a : α} (hs : qstep m st = x.bind fun v => some (f v)) (hx : x = some a) (h : QTri l Z n0 ad m (f a) v σ') : QTri l Z n0 ad m st v σ' :=
  QTri.step Ad W h (by rw [hs, hx]; rfl)
theorem QTri.bndB (Ad : QAd n0 ad) (W : QW Z a0) {st : QSt} {x y : Int32} {g : Value → QSt} (hs : qstep m st = ((qboo x).bind fun y => some (Value.int y)).bind fun w => some (g w)) (hx : qboo x = some y) (h : QTri l Z n0 ad m (g (.int y)) v σ') : QTri l Z n0 ad m st v σ' :=
  QTri.step Ad W h (by rw [hs, hx]; rfl)
end Triples
/-! ## plain: branches and loops -/
theorem qite {α : Type} {c : Prop} [Decidable c] {a b : Option α} {r : α} (h : (if c then a else b) = some r) : (c ∧ a = some r) ∨ (¬ c ∧ b = some r) := by
  by_cases hc : c
  · exact Or.inl ⟨hc, by rwa [if_pos hc] at h⟩
  · exact Or.inr ⟨hc, by rwa [if_neg hc] at h⟩
def qN : Nat := 4000
def loopN {V E : Type} (B : V → Option (E ⊕ V)) : Nat → V → Option E
  | 0, _ => none
  | n + 1, v => match B v with
    | none => none
    | some (.inl e) => some e
    | some (.inr v') => loopN B n v'
theorem loopN_tri {V E : Type} {B : V → Option (E ⊕ V)} {T : V → Prop} {KE : E → Prop} (hB : ∀ v r, B v = some r → (∀ e, r = .inl e → KE e) → (∀ v', r = .inr v' → T v') → T v) : ∀ (n : Nat) (v : V) (e : E), loopN B n v = some e → KE e → T v
  | 0, _, _, h, _ => by cases h
  | n + 1, v, e, h, k => by
    simp only [loopN] at h
    split at h
    · cases h
    · rename_i e' he
      cases h
      exact hB v _ he (fun e q => by cases q; exact k) (fun v' q => by cases q)
    · rename_i v' he
      exact hB v _ he (fun e q => by cases q) (fun v'' q => by cases q; exact loopN_tri hB n v' e h k)
/-- a loop: an invariant, a measure -/
theorem loopN_inv {V E : Type} {B : V → Option (E ⊕ V)} (I : V → Prop) (P : E → Prop) (μ : V → Nat) (hB : ∀ v, I v → (∃ e, B v = some (.inl e) ∧ P e) ∨ ∃ v', B v = some (.inr v') ∧ I v' ∧ μ v' < μ v) : ∀ (n : Nat) (v : V), I v → μ v < n → ∃ e, loopN B n v = some e ∧ P e
  | 0, _, _, h => absurd h (Nat.not_lt_zero _)
  | n + 1, v, hv, hm => by
    rcases hB v hv with ⟨e, h1, h2⟩ | ⟨v', h1, h2, h3⟩
    · exact ⟨e, by simp only [loopN, h1], h2⟩
    · obtain ⟨e, g1, g2⟩ := loopN_inv I P μ hB n v' h2 (by omega)
      exact ⟨e, by simp only [loopN, h1]; exact g1, g2⟩
theorem qfn {α : Type} {P : α → Prop} : ∀ t ∈ ([] : List α), P t := fun _ h => nomatch h
theorem qfc {α : Type} {P : α → Prop} {a : α} {t : List α} (h : P a) (ht : ∀ x ∈ t, P x) : ∀ x ∈ a :: t, P x := fun x hx => by rcases List.mem_cons.mp hx with rfl | q; exact h; exact ht x q
theorem QW_ok {Z : State} {a0 : Array Value} (hw : ∀ d ∈ tables_1, d.before a0 Z = true) : QW Z a0 := by
  have w0 : ∀ k ∈ List.range nF, bif fFin k then (Jvm.Cond.laysFinal cName cName (fNm k) (fDs k)).before a0 Z = true else (Jvm.Cond.lays cName cName (fNm k) (fDs k)).before a0 Z = true :=
    show ∀ k ∈ [0, 1, 2, 3, 4, 5, 6, 7, 8, 9, 10, 11, 12, 13, 14, 15, 16, 17, 18, 19, 20, 21, 22, 23, 24, 25, 26, 27, 28, 29, 30, 31, 32, 33, 34], bif fFin k then (Jvm.Cond.laysFinal cName cName (fNm k) (fDs k)).before a0 Z = true else (Jvm.Cond.lays cName cName (fNm k) (fDs k)).before a0 Z = true from
    (qfc (hw _ (List.mem_of_getElem? (i := 11) rfl)) (qfc (hw _ (List.mem_of_getElem? (i := 13) rfl)) (qfc (hw _ (List.mem_of_getElem? (i := 15) rfl)) (qfc (hw _ (List.mem_of_getElem? (i := 17) rfl)) (qfc (hw _ (List.mem_of_getElem? (i := 19) rfl)) (qfc (hw _ (List.mem_of_getElem? (i := 21) rfl)) (qfc (hw _ (List.mem_of_getElem? (i := 23) rfl)) (qfc (hw _ (List.mem_of_getElem? (i := 25) rfl)) (qfc (hw _ (List.mem_of_getElem? (i := 27) rfl)) (qfc (hw _ (List.mem_of_getElem? (i := 29) rfl)) (qfc (hw _ (List.mem_of_getElem? (i := 31) rfl)) (qfc (hw _ (List.mem_of_getElem? (i := 33) rfl)) (qfc (hw _ (List.mem_of_getElem? (i := 35) rfl)) (qfc (hw _ (List.mem_of_getElem? (i := 37) rfl)) (qfc (hw _ (List.mem_of_getElem? (i := 39) rfl)) (qfc (hw _ (List.mem_of_getElem? (i := 41) rfl)) (qfc (hw _ (List.mem_of_getElem? (i := 43) rfl)) (qfc (hw _ (List.mem_of_getElem? (i := 45) rfl)) (qfc (hw _ (List.mem_of_getElem? (i := 47) rfl)) (qfc (hw _ (List.mem_of_getElem? (i := 49) rfl)) (qfc (hw _ (List.mem_of_getElem? (i := 51) rfl)) (qfc (hw _ (List.mem_of_getElem? (i := 53) rfl)) (qfc (hw _ (List.mem_of_getElem? (i := 55) rfl)) (qfc (hw _ (List.mem_of_getElem? (i := 57) rfl)) (qfc (hw _ (List.mem_of_getElem? (i := 59) rfl)) (qfc (hw _ (List.mem_of_getElem? (i := 61) rfl)) (qfc (hw _ (List.mem_of_getElem? (i := 63) rfl)) (qfc (hw _ (List.mem_of_getElem? (i := 65) rfl)) (qfc (hw _ (List.mem_of_getElem? (i := 67) rfl)) (qfc (hw _ (List.mem_of_getElem? (i := 69) rfl)) (qfc (hw _ (List.mem_of_getElem? (i := 71) rfl)) (qfc (hw _ (List.mem_of_getElem? (i := 73) rfl)) (qfc (hw _ (List.mem_of_getElem? (i := 75) rfl)) (qfc (hw _ (List.mem_of_getElem? (i := 77) rfl)) (qfc (hw _ (List.mem_of_getElem? (i := 79) rfl)) qfn)))))))))))))))))))))))))))))))))))
  refine ⟨?_, ?_, ?_, ?_, ?_, ?_, ?_, ?_, ?_, ?_, ?_, ?_, ?_, (fun k hk => w0 k (List.mem_range.mpr hk)), ?_, ?_, ?_⟩
  · exact (qfc (hw _ (List.mem_of_getElem? (i := 10) rfl)) (qfc (hw _ (List.mem_of_getElem? (i := 12) rfl)) (qfc (hw _ (List.mem_of_getElem? (i := 14) rfl)) (qfc (hw _ (List.mem_of_getElem? (i := 16) rfl)) (qfc (hw _ (List.mem_of_getElem? (i := 18) rfl)) (qfc (hw _ (List.mem_of_getElem? (i := 20) rfl)) (qfc (hw _ (List.mem_of_getElem? (i := 22) rfl)) (qfc (hw _ (List.mem_of_getElem? (i := 24) rfl)) (qfc (hw _ (List.mem_of_getElem? (i := 26) rfl)) (qfc (hw _ (List.mem_of_getElem? (i := 28) rfl)) (qfc (hw _ (List.mem_of_getElem? (i := 30) rfl)) (qfc (hw _ (List.mem_of_getElem? (i := 32) rfl)) (qfc (hw _ (List.mem_of_getElem? (i := 34) rfl)) (qfc (hw _ (List.mem_of_getElem? (i := 36) rfl)) (qfc (hw _ (List.mem_of_getElem? (i := 38) rfl)) (qfc (hw _ (List.mem_of_getElem? (i := 40) rfl)) (qfc (hw _ (List.mem_of_getElem? (i := 42) rfl)) (qfc (hw _ (List.mem_of_getElem? (i := 44) rfl)) (qfc (hw _ (List.mem_of_getElem? (i := 46) rfl)) (qfc (hw _ (List.mem_of_getElem? (i := 48) rfl)) (qfc (hw _ (List.mem_of_getElem? (i := 50) rfl)) (qfc (hw _ (List.mem_of_getElem? (i := 52) rfl)) (qfc (hw _ (List.mem_of_getElem? (i := 54) rfl)) (qfc (hw _ (List.mem_of_getElem? (i := 56) rfl)) (qfc (hw _ (List.mem_of_getElem? (i := 58) rfl)) (qfc (hw _ (List.mem_of_getElem? (i := 60) rfl)) (qfc (hw _ (List.mem_of_getElem? (i := 62) rfl)) (qfc (hw _ (List.mem_of_getElem? (i := 64) rfl)) (qfc (hw _ (List.mem_of_getElem? (i := 66) rfl)) (qfc (hw _ (List.mem_of_getElem? (i := 68) rfl)) (qfc (hw _ (List.mem_of_getElem? (i := 70) rfl)) (qfc (hw _ (List.mem_of_getElem? (i := 72) rfl)) (qfc (hw _ (List.mem_of_getElem? (i := 74) rfl)) (qfc (hw _ (List.mem_of_getElem? (i := 76) rfl)) (qfc (hw _ (List.mem_of_getElem? (i := 78) rfl)) qfn)))))))))))))))))))))))))))))))))))
  · exact (qfc (hw _ (List.mem_of_getElem? (i := 0) rfl)) qfn)
  · exact qfn
  · exact qfn
  · exact (qfc (hw _ (List.mem_of_getElem? (i := 3) rfl)) (qfc (hw _ (List.mem_of_getElem? (i := 80) rfl)) (qfc (hw _ (List.mem_of_getElem? (i := 85) rfl)) (qfc (hw _ (List.mem_of_getElem? (i := 89) rfl)) (qfc (hw _ (List.mem_of_getElem? (i := 93) rfl)) (qfc (hw _ (List.mem_of_getElem? (i := 98) rfl)) (qfc (hw _ (List.mem_of_getElem? (i := 103) rfl)) qfn)))))))
  · exact (qfc (hw _ (List.mem_of_getElem? (i := 6) rfl)) qfn)
  · exact (qfc ⟨(hw _ (List.mem_of_getElem? (i := 81) rfl)), (hw _ (List.mem_of_getElem? (i := 83) rfl)), (hw _ (List.mem_of_getElem? (i := 82) rfl))⟩ (qfc ⟨(hw _ (List.mem_of_getElem? (i := 94) rfl)), (hw _ (List.mem_of_getElem? (i := 96) rfl)), (hw _ (List.mem_of_getElem? (i := 95) rfl))⟩ (qfc ⟨(hw _ (List.mem_of_getElem? (i := 99) rfl)), (hw _ (List.mem_of_getElem? (i := 101) rfl)), (hw _ (List.mem_of_getElem? (i := 100) rfl))⟩ qfn)))
  · exact (qfc ⟨(hw _ (List.mem_of_getElem? (i := 86) rfl)), (hw _ (List.mem_of_getElem? (i := 87) rfl))⟩ (qfc ⟨(hw _ (List.mem_of_getElem? (i := 90) rfl)), (hw _ (List.mem_of_getElem? (i := 91) rfl))⟩ (qfc ⟨(hw _ (List.mem_of_getElem? (i := 104) rfl)), (hw _ (List.mem_of_getElem? (i := 105) rfl))⟩ qfn)))
  · exact qfn
  · exact (qfc (hw _ (List.mem_of_getElem? (i := 4) rfl)) qfn)
  · exact (qfc ⟨(hw _ (List.mem_of_getElem? (i := 5) rfl)), (hw _ (List.mem_of_getElem? (i := 2) rfl))⟩ (qfc ⟨(hw _ (List.mem_of_getElem? (i := 84) rfl)), (hw _ (List.mem_of_getElem? (i := 2) rfl))⟩ (qfc ⟨(hw _ (List.mem_of_getElem? (i := 88) rfl)), (hw _ (List.mem_of_getElem? (i := 2) rfl))⟩ (qfc ⟨(hw _ (List.mem_of_getElem? (i := 92) rfl)), (hw _ (List.mem_of_getElem? (i := 2) rfl))⟩ (qfc ⟨(hw _ (List.mem_of_getElem? (i := 97) rfl)), (hw _ (List.mem_of_getElem? (i := 2) rfl))⟩ (qfc ⟨(hw _ (List.mem_of_getElem? (i := 102) rfl)), (hw _ (List.mem_of_getElem? (i := 2) rfl))⟩ (qfc ⟨(hw _ (List.mem_of_getElem? (i := 106) rfl)), (hw _ (List.mem_of_getElem? (i := 2) rfl))⟩ qfn)))))))
  · exact (hw _ (List.mem_of_getElem? (i := 7) rfl))
  · exact (hw _ (List.mem_of_getElem? (i := 8) rfl))
  · exact (hw _ (List.mem_of_getElem? (i := 1) rfl))
  · exact (hw _ (List.mem_of_getElem? (i := 2) rfl))
  · exact (qfc (hw _ (List.mem_of_getElem? (i := 9) rfl)) qfn)
abbrev Ob := List Int32 × List Int32 × List Int32 × List Int32 × List Int32 × List Int32 × List Int32 × List Int32 × List Int32 × List Int32 × List Int32 × List Int32 × List Int32 × List Int32 × List Int32 × List Int32 × List Int32 × List Int32 × List Int32 × List Int32 × List Int32 × List Int32 × List Int32 × List Int32 × List Int32 × List Int32 × List Int32 × List Int32 × Int32 × Int32 × Int32 × Int32 × Int32 × Int32 × Int32
def f_bOp (o : Ob) : List Int32 := o.1
def f_bD (o : Ob) : List Int32 := o.2.1
def f_bS (o : Ob) : List Int32 := o.2.2.1
def f_bImm (o : Ob) : List Int32 := o.2.2.2.1
def f_bTerm (o : Ob) : List Int32 := o.2.2.2.2.1
def f_bTest (o : Ob) : List Int32 := o.2.2.2.2.2.1
def f_bT0 (o : Ob) : List Int32 := o.2.2.2.2.2.2.1
def f_bT1 (o : Ob) : List Int32 := o.2.2.2.2.2.2.2.1
def f_cnt0 (o : Ob) : List Int32 := o.2.2.2.2.2.2.2.2.1
def f_cnt1 (o : Ob) : List Int32 := o.2.2.2.2.2.2.2.2.2.1
def f_regs (o : Ob) : List Int32 := o.2.2.2.2.2.2.2.2.2.2.1
def f_outs (o : Ob) : List Int32 := o.2.2.2.2.2.2.2.2.2.2.2.1
def f_edgeId (o : Ob) : List Int32 := o.2.2.2.2.2.2.2.2.2.2.2.2.1
def f_edgeW (o : Ob) : List Int32 := o.2.2.2.2.2.2.2.2.2.2.2.2.2.1
def f_chNext (o : Ob) : List Int32 := o.2.2.2.2.2.2.2.2.2.2.2.2.2.2.1
def f_chPrev (o : Ob) : List Int32 := o.2.2.2.2.2.2.2.2.2.2.2.2.2.2.2.1
def f_chHead (o : Ob) : List Int32 := o.2.2.2.2.2.2.2.2.2.2.2.2.2.2.2.2.1
def f_heat (o : Ob) : List Int32 := o.2.2.2.2.2.2.2.2.2.2.2.2.2.2.2.2.2.1
def f_posOf (o : Ob) : List Int32 := o.2.2.2.2.2.2.2.2.2.2.2.2.2.2.2.2.2.2.1
def f_order (o : Ob) : List Int32 := o.2.2.2.2.2.2.2.2.2.2.2.2.2.2.2.2.2.2.2.1
def f_cOp (o : Ob) : List Int32 := o.2.2.2.2.2.2.2.2.2.2.2.2.2.2.2.2.2.2.2.2.1
def f_cD (o : Ob) : List Int32 := o.2.2.2.2.2.2.2.2.2.2.2.2.2.2.2.2.2.2.2.2.2.1
def f_cS (o : Ob) : List Int32 := o.2.2.2.2.2.2.2.2.2.2.2.2.2.2.2.2.2.2.2.2.2.2.1
def f_cImm (o : Ob) : List Int32 := o.2.2.2.2.2.2.2.2.2.2.2.2.2.2.2.2.2.2.2.2.2.2.2.1
def f_cKind (o : Ob) : List Int32 := o.2.2.2.2.2.2.2.2.2.2.2.2.2.2.2.2.2.2.2.2.2.2.2.2.1
def f_cTest (o : Ob) : List Int32 := o.2.2.2.2.2.2.2.2.2.2.2.2.2.2.2.2.2.2.2.2.2.2.2.2.2.1
def f_cTaken (o : Ob) : List Int32 := o.2.2.2.2.2.2.2.2.2.2.2.2.2.2.2.2.2.2.2.2.2.2.2.2.2.2.1
def f_cOther (o : Ob) : List Int32 := o.2.2.2.2.2.2.2.2.2.2.2.2.2.2.2.2.2.2.2.2.2.2.2.2.2.2.2.1
def f_maxBlocks (o : Ob) : Int32 := o.2.2.2.2.2.2.2.2.2.2.2.2.2.2.2.2.2.2.2.2.2.2.2.2.2.2.2.2.1
def f_maxSteps (o : Ob) : Int32 := o.2.2.2.2.2.2.2.2.2.2.2.2.2.2.2.2.2.2.2.2.2.2.2.2.2.2.2.2.2.1
def f_n (o : Ob) : Int32 := o.2.2.2.2.2.2.2.2.2.2.2.2.2.2.2.2.2.2.2.2.2.2.2.2.2.2.2.2.2.2.1
def f_arranged (o : Ob) : Int32 := o.2.2.2.2.2.2.2.2.2.2.2.2.2.2.2.2.2.2.2.2.2.2.2.2.2.2.2.2.2.2.2.1
def f_outCount (o : Ob) : Int32 := o.2.2.2.2.2.2.2.2.2.2.2.2.2.2.2.2.2.2.2.2.2.2.2.2.2.2.2.2.2.2.2.2.1
def f_steps (o : Ob) : Int32 := o.2.2.2.2.2.2.2.2.2.2.2.2.2.2.2.2.2.2.2.2.2.2.2.2.2.2.2.2.2.2.2.2.2.1
def f_status (o : Ob) : Int32 := o.2.2.2.2.2.2.2.2.2.2.2.2.2.2.2.2.2.2.2.2.2.2.2.2.2.2.2.2.2.2.2.2.2.2
def s_bOp (o : Ob) (v : List Int32) : Ob := (v, o.2.1, o.2.2.1, o.2.2.2.1, o.2.2.2.2.1, o.2.2.2.2.2.1, o.2.2.2.2.2.2.1, o.2.2.2.2.2.2.2.1, o.2.2.2.2.2.2.2.2.1, o.2.2.2.2.2.2.2.2.2.1, o.2.2.2.2.2.2.2.2.2.2.1, o.2.2.2.2.2.2.2.2.2.2.2.1, o.2.2.2.2.2.2.2.2.2.2.2.2.1, o.2.2.2.2.2.2.2.2.2.2.2.2.2.1, o.2.2.2.2.2.2.2.2.2.2.2.2.2.2.1, o.2.2.2.2.2.2.2.2.2.2.2.2.2.2.2.1, o.2.2.2.2.2.2.2.2.2.2.2.2.2.2.2.2.1, o.2.2.2.2.2.2.2.2.2.2.2.2.2.2.2.2.2.1, o.2.2.2.2.2.2.2.2.2.2.2.2.2.2.2.2.2.2.1, o.2.2.2.2.2.2.2.2.2.2.2.2.2.2.2.2.2.2.2.1, o.2.2.2.2.2.2.2.2.2.2.2.2.2.2.2.2.2.2.2.2.1, o.2.2.2.2.2.2.2.2.2.2.2.2.2.2.2.2.2.2.2.2.2.1, o.2.2.2.2.2.2.2.2.2.2.2.2.2.2.2.2.2.2.2.2.2.2.1, o.2.2.2.2.2.2.2.2.2.2.2.2.2.2.2.2.2.2.2.2.2.2.2.1, o.2.2.2.2.2.2.2.2.2.2.2.2.2.2.2.2.2.2.2.2.2.2.2.2.1, o.2.2.2.2.2.2.2.2.2.2.2.2.2.2.2.2.2.2.2.2.2.2.2.2.2.1, o.2.2.2.2.2.2.2.2.2.2.2.2.2.2.2.2.2.2.2.2.2.2.2.2.2.2.1, o.2.2.2.2.2.2.2.2.2.2.2.2.2.2.2.2.2.2.2.2.2.2.2.2.2.2.2.1, o.2.2.2.2.2.2.2.2.2.2.2.2.2.2.2.2.2.2.2.2.2.2.2.2.2.2.2.2.1, o.2.2.2.2.2.2.2.2.2.2.2.2.2.2.2.2.2.2.2.2.2.2.2.2.2.2.2.2.2.1, o.2.2.2.2.2.2.2.2.2.2.2.2.2.2.2.2.2.2.2.2.2.2.2.2.2.2.2.2.2.2.1, o.2.2.2.2.2.2.2.2.2.2.2.2.2.2.2.2.2.2.2.2.2.2.2.2.2.2.2.2.2.2.2.1, o.2.2.2.2.2.2.2.2.2.2.2.2.2.2.2.2.2.2.2.2.2.2.2.2.2.2.2.2.2.2.2.2.1, o.2.2.2.2.2.2.2.2.2.2.2.2.2.2.2.2.2.2.2.2.2.2.2.2.2.2.2.2.2.2.2.2.2.1, o.2.2.2.2.2.2.2.2.2.2.2.2.2.2.2.2.2.2.2.2.2.2.2.2.2.2.2.2.2.2.2.2.2.2)
def s_bD (o : Ob) (v : List Int32) : Ob := (o.1, v, o.2.2.1, o.2.2.2.1, o.2.2.2.2.1, o.2.2.2.2.2.1, o.2.2.2.2.2.2.1, o.2.2.2.2.2.2.2.1, o.2.2.2.2.2.2.2.2.1, o.2.2.2.2.2.2.2.2.2.1, o.2.2.2.2.2.2.2.2.2.2.1, o.2.2.2.2.2.2.2.2.2.2.2.1, o.2.2.2.2.2.2.2.2.2.2.2.2.1, o.2.2.2.2.2.2.2.2.2.2.2.2.2.1, o.2.2.2.2.2.2.2.2.2.2.2.2.2.2.1, o.2.2.2.2.2.2.2.2.2.2.2.2.2.2.2.1, o.2.2.2.2.2.2.2.2.2.2.2.2.2.2.2.2.1, o.2.2.2.2.2.2.2.2.2.2.2.2.2.2.2.2.2.1, o.2.2.2.2.2.2.2.2.2.2.2.2.2.2.2.2.2.2.1, o.2.2.2.2.2.2.2.2.2.2.2.2.2.2.2.2.2.2.2.1, o.2.2.2.2.2.2.2.2.2.2.2.2.2.2.2.2.2.2.2.2.1, o.2.2.2.2.2.2.2.2.2.2.2.2.2.2.2.2.2.2.2.2.2.1, o.2.2.2.2.2.2.2.2.2.2.2.2.2.2.2.2.2.2.2.2.2.2.1, o.2.2.2.2.2.2.2.2.2.2.2.2.2.2.2.2.2.2.2.2.2.2.2.1, o.2.2.2.2.2.2.2.2.2.2.2.2.2.2.2.2.2.2.2.2.2.2.2.2.1, o.2.2.2.2.2.2.2.2.2.2.2.2.2.2.2.2.2.2.2.2.2.2.2.2.2.1, o.2.2.2.2.2.2.2.2.2.2.2.2.2.2.2.2.2.2.2.2.2.2.2.2.2.2.1, o.2.2.2.2.2.2.2.2.2.2.2.2.2.2.2.2.2.2.2.2.2.2.2.2.2.2.2.1, o.2.2.2.2.2.2.2.2.2.2.2.2.2.2.2.2.2.2.2.2.2.2.2.2.2.2.2.2.1, o.2.2.2.2.2.2.2.2.2.2.2.2.2.2.2.2.2.2.2.2.2.2.2.2.2.2.2.2.2.1, o.2.2.2.2.2.2.2.2.2.2.2.2.2.2.2.2.2.2.2.2.2.2.2.2.2.2.2.2.2.2.1, o.2.2.2.2.2.2.2.2.2.2.2.2.2.2.2.2.2.2.2.2.2.2.2.2.2.2.2.2.2.2.2.1, o.2.2.2.2.2.2.2.2.2.2.2.2.2.2.2.2.2.2.2.2.2.2.2.2.2.2.2.2.2.2.2.2.1, o.2.2.2.2.2.2.2.2.2.2.2.2.2.2.2.2.2.2.2.2.2.2.2.2.2.2.2.2.2.2.2.2.2.1, o.2.2.2.2.2.2.2.2.2.2.2.2.2.2.2.2.2.2.2.2.2.2.2.2.2.2.2.2.2.2.2.2.2.2)
def s_bS (o : Ob) (v : List Int32) : Ob := (o.1, o.2.1, v, o.2.2.2.1, o.2.2.2.2.1, o.2.2.2.2.2.1, o.2.2.2.2.2.2.1, o.2.2.2.2.2.2.2.1, o.2.2.2.2.2.2.2.2.1, o.2.2.2.2.2.2.2.2.2.1, o.2.2.2.2.2.2.2.2.2.2.1, o.2.2.2.2.2.2.2.2.2.2.2.1, o.2.2.2.2.2.2.2.2.2.2.2.2.1, o.2.2.2.2.2.2.2.2.2.2.2.2.2.1, o.2.2.2.2.2.2.2.2.2.2.2.2.2.2.1, o.2.2.2.2.2.2.2.2.2.2.2.2.2.2.2.1, o.2.2.2.2.2.2.2.2.2.2.2.2.2.2.2.2.1, o.2.2.2.2.2.2.2.2.2.2.2.2.2.2.2.2.2.1, o.2.2.2.2.2.2.2.2.2.2.2.2.2.2.2.2.2.2.1, o.2.2.2.2.2.2.2.2.2.2.2.2.2.2.2.2.2.2.2.1, o.2.2.2.2.2.2.2.2.2.2.2.2.2.2.2.2.2.2.2.2.1, o.2.2.2.2.2.2.2.2.2.2.2.2.2.2.2.2.2.2.2.2.2.1, o.2.2.2.2.2.2.2.2.2.2.2.2.2.2.2.2.2.2.2.2.2.2.1, o.2.2.2.2.2.2.2.2.2.2.2.2.2.2.2.2.2.2.2.2.2.2.2.1, o.2.2.2.2.2.2.2.2.2.2.2.2.2.2.2.2.2.2.2.2.2.2.2.2.1, o.2.2.2.2.2.2.2.2.2.2.2.2.2.2.2.2.2.2.2.2.2.2.2.2.2.1, o.2.2.2.2.2.2.2.2.2.2.2.2.2.2.2.2.2.2.2.2.2.2.2.2.2.2.1, o.2.2.2.2.2.2.2.2.2.2.2.2.2.2.2.2.2.2.2.2.2.2.2.2.2.2.2.1, o.2.2.2.2.2.2.2.2.2.2.2.2.2.2.2.2.2.2.2.2.2.2.2.2.2.2.2.2.1, o.2.2.2.2.2.2.2.2.2.2.2.2.2.2.2.2.2.2.2.2.2.2.2.2.2.2.2.2.2.1, o.2.2.2.2.2.2.2.2.2.2.2.2.2.2.2.2.2.2.2.2.2.2.2.2.2.2.2.2.2.2.1, o.2.2.2.2.2.2.2.2.2.2.2.2.2.2.2.2.2.2.2.2.2.2.2.2.2.2.2.2.2.2.2.1, o.2.2.2.2.2.2.2.2.2.2.2.2.2.2.2.2.2.2.2.2.2.2.2.2.2.2.2.2.2.2.2.2.1, o.2.2.2.2.2.2.2.2.2.2.2.2.2.2.2.2.2.2.2.2.2.2.2.2.2.2.2.2.2.2.2.2.2.1, o.2.2.2.2.2.2.2.2.2.2.2.2.2.2.2.2.2.2.2.2.2.2.2.2.2.2.2.2.2.2.2.2.2.2)
def s_bImm (o : Ob) (v : List Int32) : Ob := (o.1, o.2.1, o.2.2.1, v, o.2.2.2.2.1, o.2.2.2.2.2.1, o.2.2.2.2.2.2.1, o.2.2.2.2.2.2.2.1, o.2.2.2.2.2.2.2.2.1, o.2.2.2.2.2.2.2.2.2.1, o.2.2.2.2.2.2.2.2.2.2.1, o.2.2.2.2.2.2.2.2.2.2.2.1, o.2.2.2.2.2.2.2.2.2.2.2.2.1, o.2.2.2.2.2.2.2.2.2.2.2.2.2.1, o.2.2.2.2.2.2.2.2.2.2.2.2.2.2.1, o.2.2.2.2.2.2.2.2.2.2.2.2.2.2.2.1, o.2.2.2.2.2.2.2.2.2.2.2.2.2.2.2.2.1, o.2.2.2.2.2.2.2.2.2.2.2.2.2.2.2.2.2.1, o.2.2.2.2.2.2.2.2.2.2.2.2.2.2.2.2.2.2.1, o.2.2.2.2.2.2.2.2.2.2.2.2.2.2.2.2.2.2.2.1, o.2.2.2.2.2.2.2.2.2.2.2.2.2.2.2.2.2.2.2.2.1, o.2.2.2.2.2.2.2.2.2.2.2.2.2.2.2.2.2.2.2.2.2.1, o.2.2.2.2.2.2.2.2.2.2.2.2.2.2.2.2.2.2.2.2.2.2.1, o.2.2.2.2.2.2.2.2.2.2.2.2.2.2.2.2.2.2.2.2.2.2.2.1, o.2.2.2.2.2.2.2.2.2.2.2.2.2.2.2.2.2.2.2.2.2.2.2.2.1, o.2.2.2.2.2.2.2.2.2.2.2.2.2.2.2.2.2.2.2.2.2.2.2.2.2.1, o.2.2.2.2.2.2.2.2.2.2.2.2.2.2.2.2.2.2.2.2.2.2.2.2.2.2.1, o.2.2.2.2.2.2.2.2.2.2.2.2.2.2.2.2.2.2.2.2.2.2.2.2.2.2.2.1, o.2.2.2.2.2.2.2.2.2.2.2.2.2.2.2.2.2.2.2.2.2.2.2.2.2.2.2.2.1, o.2.2.2.2.2.2.2.2.2.2.2.2.2.2.2.2.2.2.2.2.2.2.2.2.2.2.2.2.2.1, o.2.2.2.2.2.2.2.2.2.2.2.2.2.2.2.2.2.2.2.2.2.2.2.2.2.2.2.2.2.2.1, o.2.2.2.2.2.2.2.2.2.2.2.2.2.2.2.2.2.2.2.2.2.2.2.2.2.2.2.2.2.2.2.1, o.2.2.2.2.2.2.2.2.2.2.2.2.2.2.2.2.2.2.2.2.2.2.2.2.2.2.2.2.2.2.2.2.1, o.2.2.2.2.2.2.2.2.2.2.2.2.2.2.2.2.2.2.2.2.2.2.2.2.2.2.2.2.2.2.2.2.2.1, o.2.2.2.2.2.2.2.2.2.2.2.2.2.2.2.2.2.2.2.2.2.2.2.2.2.2.2.2.2.2.2.2.2.2)
def s_bTerm (o : Ob) (v : List Int32) : Ob := (o.1, o.2.1, o.2.2.1, o.2.2.2.1, v, o.2.2.2.2.2.1, o.2.2.2.2.2.2.1, o.2.2.2.2.2.2.2.1, o.2.2.2.2.2.2.2.2.1, o.2.2.2.2.2.2.2.2.2.1, o.2.2.2.2.2.2.2.2.2.2.1, o.2.2.2.2.2.2.2.2.2.2.2.1, o.2.2.2.2.2.2.2.2.2.2.2.2.1, o.2.2.2.2.2.2.2.2.2.2.2.2.2.1, o.2.2.2.2.2.2.2.2.2.2.2.2.2.2.1, o.2.2.2.2.2.2.2.2.2.2.2.2.2.2.2.1, o.2.2.2.2.2.2.2.2.2.2.2.2.2.2.2.2.1, o.2.2.2.2.2.2.2.2.2.2.2.2.2.2.2.2.2.1, o.2.2.2.2.2.2.2.2.2.2.2.2.2.2.2.2.2.2.1, o.2.2.2.2.2.2.2.2.2.2.2.2.2.2.2.2.2.2.2.1, o.2.2.2.2.2.2.2.2.2.2.2.2.2.2.2.2.2.2.2.2.1, o.2.2.2.2.2.2.2.2.2.2.2.2.2.2.2.2.2.2.2.2.2.1, o.2.2.2.2.2.2.2.2.2.2.2.2.2.2.2.2.2.2.2.2.2.2.1, o.2.2.2.2.2.2.2.2.2.2.2.2.2.2.2.2.2.2.2.2.2.2.2.1, o.2.2.2.2.2.2.2.2.2.2.2.2.2.2.2.2.2.2.2.2.2.2.2.2.1, o.2.2.2.2.2.2.2.2.2.2.2.2.2.2.2.2.2.2.2.2.2.2.2.2.2.1, o.2.2.2.2.2.2.2.2.2.2.2.2.2.2.2.2.2.2.2.2.2.2.2.2.2.2.1, o.2.2.2.2.2.2.2.2.2.2.2.2.2.2.2.2.2.2.2.2.2.2.2.2.2.2.2.1, o.2.2.2.2.2.2.2.2.2.2.2.2.2.2.2.2.2.2.2.2.2.2.2.2.2.2.2.2.1, o.2.2.2.2.2.2.2.2.2.2.2.2.2.2.2.2.2.2.2.2.2.2.2.2.2.2.2.2.2.1, o.2.2.2.2.2.2.2.2.2.2.2.2.2.2.2.2.2.2.2.2.2.2.2.2.2.2.2.2.2.2.1, o.2.2.2.2.2.2.2.2.2.2.2.2.2.2.2.2.2.2.2.2.2.2.2.2.2.2.2.2.2.2.2.1, o.2.2.2.2.2.2.2.2.2.2.2.2.2.2.2.2.2.2.2.2.2.2.2.2.2.2.2.2.2.2.2.2.1, o.2.2.2.2.2.2.2.2.2.2.2.2.2.2.2.2.2.2.2.2.2.2.2.2.2.2.2.2.2.2.2.2.2.1, o.2.2.2.2.2.2.2.2.2.2.2.2.2.2.2.2.2.2.2.2.2.2.2.2.2.2.2.2.2.2.2.2.2.2)
def s_bTest (o : Ob) (v : List Int32) : Ob := (o.1, o.2.1, o.2.2.1, o.2.2.2.1, o.2.2.2.2.1, v, o.2.2.2.2.2.2.1, o.2.2.2.2.2.2.2.1, o.2.2.2.2.2.2.2.2.1, o.2.2.2.2.2.2.2.2.2.1, o.2.2.2.2.2.2.2.2.2.2.1, o.2.2.2.2.2.2.2.2.2.2.2.1, o.2.2.2.2.2.2.2.2.2.2.2.2.1, o.2.2.2.2.2.2.2.2.2.2.2.2.2.1, o.2.2.2.2.2.2.2.2.2.2.2.2.2.2.1, o.2.2.2.2.2.2.2.2.2.2.2.2.2.2.2.1, o.2.2.2.2.2.2.2.2.2.2.2.2.2.2.2.2.1, o.2.2.2.2.2.2.2.2.2.2.2.2.2.2.2.2.2.1, o.2.2.2.2.2.2.2.2.2.2.2.2.2.2.2.2.2.2.1, o.2.2.2.2.2.2.2.2.2.2.2.2.2.2.2.2.2.2.2.1, o.2.2.2.2.2.2.2.2.2.2.2.2.2.2.2.2.2.2.2.2.1, o.2.2.2.2.2.2.2.2.2.2.2.2.2.2.2.2.2.2.2.2.2.1, o.2.2.2.2.2.2.2.2.2.2.2.2.2.2.2.2.2.2.2.2.2.2.1, o.2.2.2.2.2.2.2.2.2.2.2.2.2.2.2.2.2.2.2.2.2.2.2.1, o.2.2.2.2.2.2.2.2.2.2.2.2.2.2.2.2.2.2.2.2.2.2.2.2.1, o.2.2.2.2.2.2.2.2.2.2.2.2.2.2.2.2.2.2.2.2.2.2.2.2.2.1, o.2.2.2.2.2.2.2.2.2.2.2.2.2.2.2.2.2.2.2.2.2.2.2.2.2.2.1, o.2.2.2.2.2.2.2.2.2.2.2.2.2.2.2.2.2.2.2.2.2.2.2.2.2.2.2.1, o.2.2.2.2.2.2.2.2.2.2.2.2.2.2.2.2.2.2.2.2.2.2.2.2.2.2.2.2.1, o.2.2.2.2.2.2.2.2.2.2.2.2.2.2.2.2.2.2.2.2.2.2.2.2.2.2.2.2.2.1, o.2.2.2.2.2.2.2.2.2.2.2.2.2.2.2.2.2.2.2.2.2.2.2.2.2.2.2.2.2.2.1, o.2.2.2.2.2.2.2.2.2.2.2.2.2.2.2.2.2.2.2.2.2.2.2.2.2.2.2.2.2.2.2.1, o.2.2.2.2.2.2.2.2.2.2.2.2.2.2.2.2.2.2.2.2.2.2.2.2.2.2.2.2.2.2.2.2.1, o.2.2.2.2.2.2.2.2.2.2.2.2.2.2.2.2.2.2.2.2.2.2.2.2.2.2.2.2.2.2.2.2.2.1, o.2.2.2.2.2.2.2.2.2.2.2.2.2.2.2.2.2.2.2.2.2.2.2.2.2.2.2.2.2.2.2.2.2.2)
def s_bT0 (o : Ob) (v : List Int32) : Ob := (o.1, o.2.1, o.2.2.1, o.2.2.2.1, o.2.2.2.2.1, o.2.2.2.2.2.1, v, o.2.2.2.2.2.2.2.1, o.2.2.2.2.2.2.2.2.1, o.2.2.2.2.2.2.2.2.2.1, o.2.2.2.2.2.2.2.2.2.2.1, o.2.2.2.2.2.2.2.2.2.2.2.1, o.2.2.2.2.2.2.2.2.2.2.2.2.1, o.2.2.2.2.2.2.2.2.2.2.2.2.2.1, o.2.2.2.2.2.2.2.2.2.2.2.2.2.2.1, o.2.2.2.2.2.2.2.2.2.2.2.2.2.2.2.1, o.2.2.2.2.2.2.2.2.2.2.2.2.2.2.2.2.1, o.2.2.2.2.2.2.2.2.2.2.2.2.2.2.2.2.2.1, o.2.2.2.2.2.2.2.2.2.2.2.2.2.2.2.2.2.2.1, o.2.2.2.2.2.2.2.2.2.2.2.2.2.2.2.2.2.2.2.1, o.2.2.2.2.2.2.2.2.2.2.2.2.2.2.2.2.2.2.2.2.1, o.2.2.2.2.2.2.2.2.2.2.2.2.2.2.2.2.2.2.2.2.2.1, o.2.2.2.2.2.2.2.2.2.2.2.2.2.2.2.2.2.2.2.2.2.2.1, o.2.2.2.2.2.2.2.2.2.2.2.2.2.2.2.2.2.2.2.2.2.2.2.1, o.2.2.2.2.2.2.2.2.2.2.2.2.2.2.2.2.2.2.2.2.2.2.2.2.1, o.2.2.2.2.2.2.2.2.2.2.2.2.2.2.2.2.2.2.2.2.2.2.2.2.2.1, o.2.2.2.2.2.2.2.2.2.2.2.2.2.2.2.2.2.2.2.2.2.2.2.2.2.2.1, o.2.2.2.2.2.2.2.2.2.2.2.2.2.2.2.2.2.2.2.2.2.2.2.2.2.2.2.1, o.2.2.2.2.2.2.2.2.2.2.2.2.2.2.2.2.2.2.2.2.2.2.2.2.2.2.2.2.1, o.2.2.2.2.2.2.2.2.2.2.2.2.2.2.2.2.2.2.2.2.2.2.2.2.2.2.2.2.2.1, o.2.2.2.2.2.2.2.2.2.2.2.2.2.2.2.2.2.2.2.2.2.2.2.2.2.2.2.2.2.2.1, o.2.2.2.2.2.2.2.2.2.2.2.2.2.2.2.2.2.2.2.2.2.2.2.2.2.2.2.2.2.2.2.1, o.2.2.2.2.2.2.2.2.2.2.2.2.2.2.2.2.2.2.2.2.2.2.2.2.2.2.2.2.2.2.2.2.1, o.2.2.2.2.2.2.2.2.2.2.2.2.2.2.2.2.2.2.2.2.2.2.2.2.2.2.2.2.2.2.2.2.2.1, o.2.2.2.2.2.2.2.2.2.2.2.2.2.2.2.2.2.2.2.2.2.2.2.2.2.2.2.2.2.2.2.2.2.2)
def s_bT1 (o : Ob) (v : List Int32) : Ob := (o.1, o.2.1, o.2.2.1, o.2.2.2.1, o.2.2.2.2.1, o.2.2.2.2.2.1, o.2.2.2.2.2.2.1, v, o.2.2.2.2.2.2.2.2.1, o.2.2.2.2.2.2.2.2.2.1, o.2.2.2.2.2.2.2.2.2.2.1, o.2.2.2.2.2.2.2.2.2.2.2.1, o.2.2.2.2.2.2.2.2.2.2.2.2.1, o.2.2.2.2.2.2.2.2.2.2.2.2.2.1, o.2.2.2.2.2.2.2.2.2.2.2.2.2.2.1, o.2.2.2.2.2.2.2.2.2.2.2.2.2.2.2.1, o.2.2.2.2.2.2.2.2.2.2.2.2.2.2.2.2.1, o.2.2.2.2.2.2.2.2.2.2.2.2.2.2.2.2.2.1, o.2.2.2.2.2.2.2.2.2.2.2.2.2.2.2.2.2.2.1, o.2.2.2.2.2.2.2.2.2.2.2.2.2.2.2.2.2.2.2.1, o.2.2.2.2.2.2.2.2.2.2.2.2.2.2.2.2.2.2.2.2.1, o.2.2.2.2.2.2.2.2.2.2.2.2.2.2.2.2.2.2.2.2.2.1, o.2.2.2.2.2.2.2.2.2.2.2.2.2.2.2.2.2.2.2.2.2.2.1, o.2.2.2.2.2.2.2.2.2.2.2.2.2.2.2.2.2.2.2.2.2.2.2.1, o.2.2.2.2.2.2.2.2.2.2.2.2.2.2.2.2.2.2.2.2.2.2.2.2.1, o.2.2.2.2.2.2.2.2.2.2.2.2.2.2.2.2.2.2.2.2.2.2.2.2.2.1, o.2.2.2.2.2.2.2.2.2.2.2.2.2.2.2.2.2.2.2.2.2.2.2.2.2.2.1, o.2.2.2.2.2.2.2.2.2.2.2.2.2.2.2.2.2.2.2.2.2.2.2.2.2.2.2.1, o.2.2.2.2.2.2.2.2.2.2.2.2.2.2.2.2.2.2.2.2.2.2.2.2.2.2.2.2.1, o.2.2.2.2.2.2.2.2.2.2.2.2.2.2.2.2.2.2.2.2.2.2.2.2.2.2.2.2.2.1, o.2.2.2.2.2.2.2.2.2.2.2.2.2.2.2.2.2.2.2.2.2.2.2.2.2.2.2.2.2.2.1, o.2.2.2.2.2.2.2.2.2.2.2.2.2.2.2.2.2.2.2.2.2.2.2.2.2.2.2.2.2.2.2.1, o.2.2.2.2.2.2.2.2.2.2.2.2.2.2.2.2.2.2.2.2.2.2.2.2.2.2.2.2.2.2.2.2.1, o.2.2.2.2.2.2.2.2.2.2.2.2.2.2.2.2.2.2.2.2.2.2.2.2.2.2.2.2.2.2.2.2.2.1, o.2.2.2.2.2.2.2.2.2.2.2.2.2.2.2.2.2.2.2.2.2.2.2.2.2.2.2.2.2.2.2.2.2.2)
def s_cnt0 (o : Ob) (v : List Int32) : Ob := (o.1, o.2.1, o.2.2.1, o.2.2.2.1, o.2.2.2.2.1, o.2.2.2.2.2.1, o.2.2.2.2.2.2.1, o.2.2.2.2.2.2.2.1, v, o.2.2.2.2.2.2.2.2.2.1, o.2.2.2.2.2.2.2.2.2.2.1, o.2.2.2.2.2.2.2.2.2.2.2.1, o.2.2.2.2.2.2.2.2.2.2.2.2.1, o.2.2.2.2.2.2.2.2.2.2.2.2.2.1, o.2.2.2.2.2.2.2.2.2.2.2.2.2.2.1, o.2.2.2.2.2.2.2.2.2.2.2.2.2.2.2.1, o.2.2.2.2.2.2.2.2.2.2.2.2.2.2.2.2.1, o.2.2.2.2.2.2.2.2.2.2.2.2.2.2.2.2.2.1, o.2.2.2.2.2.2.2.2.2.2.2.2.2.2.2.2.2.2.1, o.2.2.2.2.2.2.2.2.2.2.2.2.2.2.2.2.2.2.2.1, o.2.2.2.2.2.2.2.2.2.2.2.2.2.2.2.2.2.2.2.2.1, o.2.2.2.2.2.2.2.2.2.2.2.2.2.2.2.2.2.2.2.2.2.1, o.2.2.2.2.2.2.2.2.2.2.2.2.2.2.2.2.2.2.2.2.2.2.1, o.2.2.2.2.2.2.2.2.2.2.2.2.2.2.2.2.2.2.2.2.2.2.2.1, o.2.2.2.2.2.2.2.2.2.2.2.2.2.2.2.2.2.2.2.2.2.2.2.2.1, o.2.2.2.2.2.2.2.2.2.2.2.2.2.2.2.2.2.2.2.2.2.2.2.2.2.1, o.2.2.2.2.2.2.2.2.2.2.2.2.2.2.2.2.2.2.2.2.2.2.2.2.2.2.1, o.2.2.2.2.2.2.2.2.2.2.2.2.2.2.2.2.2.2.2.2.2.2.2.2.2.2.2.1, o.2.2.2.2.2.2.2.2.2.2.2.2.2.2.2.2.2.2.2.2.2.2.2.2.2.2.2.2.1, o.2.2.2.2.2.2.2.2.2.2.2.2.2.2.2.2.2.2.2.2.2.2.2.2.2.2.2.2.2.1, o.2.2.2.2.2.2.2.2.2.2.2.2.2.2.2.2.2.2.2.2.2.2.2.2.2.2.2.2.2.2.1, o.2.2.2.2.2.2.2.2.2.2.2.2.2.2.2.2.2.2.2.2.2.2.2.2.2.2.2.2.2.2.2.1, o.2.2.2.2.2.2.2.2.2.2.2.2.2.2.2.2.2.2.2.2.2.2.2.2.2.2.2.2.2.2.2.2.1, o.2.2.2.2.2.2.2.2.2.2.2.2.2.2.2.2.2.2.2.2.2.2.2.2.2.2.2.2.2.2.2.2.2.1, o.2.2.2.2.2.2.2.2.2.2.2.2.2.2.2.2.2.2.2.2.2.2.2.2.2.2.2.2.2.2.2.2.2.2)
def s_cnt1 (o : Ob) (v : List Int32) : Ob := (o.1, o.2.1, o.2.2.1, o.2.2.2.1, o.2.2.2.2.1, o.2.2.2.2.2.1, o.2.2.2.2.2.2.1, o.2.2.2.2.2.2.2.1, o.2.2.2.2.2.2.2.2.1, v, o.2.2.2.2.2.2.2.2.2.2.1, o.2.2.2.2.2.2.2.2.2.2.2.1, o.2.2.2.2.2.2.2.2.2.2.2.2.1, o.2.2.2.2.2.2.2.2.2.2.2.2.2.1, o.2.2.2.2.2.2.2.2.2.2.2.2.2.2.1, o.2.2.2.2.2.2.2.2.2.2.2.2.2.2.2.1, o.2.2.2.2.2.2.2.2.2.2.2.2.2.2.2.2.1, o.2.2.2.2.2.2.2.2.2.2.2.2.2.2.2.2.2.1, o.2.2.2.2.2.2.2.2.2.2.2.2.2.2.2.2.2.2.1, o.2.2.2.2.2.2.2.2.2.2.2.2.2.2.2.2.2.2.2.1, o.2.2.2.2.2.2.2.2.2.2.2.2.2.2.2.2.2.2.2.2.1, o.2.2.2.2.2.2.2.2.2.2.2.2.2.2.2.2.2.2.2.2.2.1, o.2.2.2.2.2.2.2.2.2.2.2.2.2.2.2.2.2.2.2.2.2.2.1, o.2.2.2.2.2.2.2.2.2.2.2.2.2.2.2.2.2.2.2.2.2.2.2.1, o.2.2.2.2.2.2.2.2.2.2.2.2.2.2.2.2.2.2.2.2.2.2.2.2.1, o.2.2.2.2.2.2.2.2.2.2.2.2.2.2.2.2.2.2.2.2.2.2.2.2.2.1, o.2.2.2.2.2.2.2.2.2.2.2.2.2.2.2.2.2.2.2.2.2.2.2.2.2.2.1, o.2.2.2.2.2.2.2.2.2.2.2.2.2.2.2.2.2.2.2.2.2.2.2.2.2.2.2.1, o.2.2.2.2.2.2.2.2.2.2.2.2.2.2.2.2.2.2.2.2.2.2.2.2.2.2.2.2.1, o.2.2.2.2.2.2.2.2.2.2.2.2.2.2.2.2.2.2.2.2.2.2.2.2.2.2.2.2.2.1, o.2.2.2.2.2.2.2.2.2.2.2.2.2.2.2.2.2.2.2.2.2.2.2.2.2.2.2.2.2.2.1, o.2.2.2.2.2.2.2.2.2.2.2.2.2.2.2.2.2.2.2.2.2.2.2.2.2.2.2.2.2.2.2.1, o.2.2.2.2.2.2.2.2.2.2.2.2.2.2.2.2.2.2.2.2.2.2.2.2.2.2.2.2.2.2.2.2.1, o.2.2.2.2.2.2.2.2.2.2.2.2.2.2.2.2.2.2.2.2.2.2.2.2.2.2.2.2.2.2.2.2.2.1, o.2.2.2.2.2.2.2.2.2.2.2.2.2.2.2.2.2.2.2.2.2.2.2.2.2.2.2.2.2.2.2.2.2.2)
def s_regs (o : Ob) (v : List Int32) : Ob := (o.1, o.2.1, o.2.2.1, o.2.2.2.1, o.2.2.2.2.1, o.2.2.2.2.2.1, o.2.2.2.2.2.2.1, o.2.2.2.2.2.2.2.1, o.2.2.2.2.2.2.2.2.1, o.2.2.2.2.2.2.2.2.2.1, v, o.2.2.2.2.2.2.2.2.2.2.2.1, o.2.2.2.2.2.2.2.2.2.2.2.2.1, o.2.2.2.2.2.2.2.2.2.2.2.2.2.1, o.2.2.2.2.2.2.2.2.2.2.2.2.2.2.1, o.2.2.2.2.2.2.2.2.2.2.2.2.2.2.2.1, o.2.2.2.2.2.2.2.2.2.2.2.2.2.2.2.2.1, o.2.2.2.2.2.2.2.2.2.2.2.2.2.2.2.2.2.1, o.2.2.2.2.2.2.2.2.2.2.2.2.2.2.2.2.2.2.1, o.2.2.2.2.2.2.2.2.2.2.2.2.2.2.2.2.2.2.2.1, o.2.2.2.2.2.2.2.2.2.2.2.2.2.2.2.2.2.2.2.2.1, o.2.2.2.2.2.2.2.2.2.2.2.2.2.2.2.2.2.2.2.2.2.1, o.2.2.2.2.2.2.2.2.2.2.2.2.2.2.2.2.2.2.2.2.2.2.1, o.2.2.2.2.2.2.2.2.2.2.2.2.2.2.2.2.2.2.2.2.2.2.2.1, o.2.2.2.2.2.2.2.2.2.2.2.2.2.2.2.2.2.2.2.2.2.2.2.2.1, o.2.2.2.2.2.2.2.2.2.2.2.2.2.2.2.2.2.2.2.2.2.2.2.2.2.1, o.2.2.2.2.2.2.2.2.2.2.2.2.2.2.2.2.2.2.2.2.2.2.2.2.2.2.1, o.2.2.2.2.2.2.2.2.2.2.2.2.2.2.2.2.2.2.2.2.2.2.2.2.2.2.2.1, o.2.2.2.2.2.2.2.2.2.2.2.2.2.2.2.2.2.2.2.2.2.2.2.2.2.2.2.2.1, o.2.2.2.2.2.2.2.2.2.2.2.2.2.2.2.2.2.2.2.2.2.2.2.2.2.2.2.2.2.1, o.2.2.2.2.2.2.2.2.2.2.2.2.2.2.2.2.2.2.2.2.2.2.2.2.2.2.2.2.2.2.1, o.2.2.2.2.2.2.2.2.2.2.2.2.2.2.2.2.2.2.2.2.2.2.2.2.2.2.2.2.2.2.2.1, o.2.2.2.2.2.2.2.2.2.2.2.2.2.2.2.2.2.2.2.2.2.2.2.2.2.2.2.2.2.2.2.2.1, o.2.2.2.2.2.2.2.2.2.2.2.2.2.2.2.2.2.2.2.2.2.2.2.2.2.2.2.2.2.2.2.2.2.1, o.2.2.2.2.2.2.2.2.2.2.2.2.2.2.2.2.2.2.2.2.2.2.2.2.2.2.2.2.2.2.2.2.2.2)
def s_outs (o : Ob) (v : List Int32) : Ob := (o.1, o.2.1, o.2.2.1, o.2.2.2.1, o.2.2.2.2.1, o.2.2.2.2.2.1, o.2.2.2.2.2.2.1, o.2.2.2.2.2.2.2.1, o.2.2.2.2.2.2.2.2.1, o.2.2.2.2.2.2.2.2.2.1, o.2.2.2.2.2.2.2.2.2.2.1, v, o.2.2.2.2.2.2.2.2.2.2.2.2.1, o.2.2.2.2.2.2.2.2.2.2.2.2.2.1, o.2.2.2.2.2.2.2.2.2.2.2.2.2.2.1, o.2.2.2.2.2.2.2.2.2.2.2.2.2.2.2.1, o.2.2.2.2.2.2.2.2.2.2.2.2.2.2.2.2.1, o.2.2.2.2.2.2.2.2.2.2.2.2.2.2.2.2.2.1, o.2.2.2.2.2.2.2.2.2.2.2.2.2.2.2.2.2.2.1, o.2.2.2.2.2.2.2.2.2.2.2.2.2.2.2.2.2.2.2.1, o.2.2.2.2.2.2.2.2.2.2.2.2.2.2.2.2.2.2.2.2.1, o.2.2.2.2.2.2.2.2.2.2.2.2.2.2.2.2.2.2.2.2.2.1, o.2.2.2.2.2.2.2.2.2.2.2.2.2.2.2.2.2.2.2.2.2.2.1, o.2.2.2.2.2.2.2.2.2.2.2.2.2.2.2.2.2.2.2.2.2.2.2.1, o.2.2.2.2.2.2.2.2.2.2.2.2.2.2.2.2.2.2.2.2.2.2.2.2.1, o.2.2.2.2.2.2.2.2.2.2.2.2.2.2.2.2.2.2.2.2.2.2.2.2.2.1, o.2.2.2.2.2.2.2.2.2.2.2.2.2.2.2.2.2.2.2.2.2.2.2.2.2.2.1, o.2.2.2.2.2.2.2.2.2.2.2.2.2.2.2.2.2.2.2.2.2.2.2.2.2.2.2.1, o.2.2.2.2.2.2.2.2.2.2.2.2.2.2.2.2.2.2.2.2.2.2.2.2.2.2.2.2.1, o.2.2.2.2.2.2.2.2.2.2.2.2.2.2.2.2.2.2.2.2.2.2.2.2.2.2.2.2.2.1, o.2.2.2.2.2.2.2.2.2.2.2.2.2.2.2.2.2.2.2.2.2.2.2.2.2.2.2.2.2.2.1, o.2.2.2.2.2.2.2.2.2.2.2.2.2.2.2.2.2.2.2.2.2.2.2.2.2.2.2.2.2.2.2.1, o.2.2.2.2.2.2.2.2.2.2.2.2.2.2.2.2.2.2.2.2.2.2.2.2.2.2.2.2.2.2.2.2.1, o.2.2.2.2.2.2.2.2.2.2.2.2.2.2.2.2.2.2.2.2.2.2.2.2.2.2.2.2.2.2.2.2.2.1, o.2.2.2.2.2.2.2.2.2.2.2.2.2.2.2.2.2.2.2.2.2.2.2.2.2.2.2.2.2.2.2.2.2.2)
def s_edgeId (o : Ob) (v : List Int32) : Ob := (o.1, o.2.1, o.2.2.1, o.2.2.2.1, o.2.2.2.2.1, o.2.2.2.2.2.1, o.2.2.2.2.2.2.1, o.2.2.2.2.2.2.2.1, o.2.2.2.2.2.2.2.2.1, o.2.2.2.2.2.2.2.2.2.1, o.2.2.2.2.2.2.2.2.2.2.1, o.2.2.2.2.2.2.2.2.2.2.2.1, v, o.2.2.2.2.2.2.2.2.2.2.2.2.2.1, o.2.2.2.2.2.2.2.2.2.2.2.2.2.2.1, o.2.2.2.2.2.2.2.2.2.2.2.2.2.2.2.1, o.2.2.2.2.2.2.2.2.2.2.2.2.2.2.2.2.1, o.2.2.2.2.2.2.2.2.2.2.2.2.2.2.2.2.2.1, o.2.2.2.2.2.2.2.2.2.2.2.2.2.2.2.2.2.2.1, o.2.2.2.2.2.2.2.2.2.2.2.2.2.2.2.2.2.2.2.1, o.2.2.2.2.2.2.2.2.2.2.2.2.2.2.2.2.2.2.2.2.1, o.2.2.2.2.2.2.2.2.2.2.2.2.2.2.2.2.2.2.2.2.2.1, o.2.2.2.2.2.2.2.2.2.2.2.2.2.2.2.2.2.2.2.2.2.2.1, o.2.2.2.2.2.2.2.2.2.2.2.2.2.2.2.2.2.2.2.2.2.2.2.1, o.2.2.2.2.2.2.2.2.2.2.2.2.2.2.2.2.2.2.2.2.2.2.2.2.1, o.2.2.2.2.2.2.2.2.2.2.2.2.2.2.2.2.2.2.2.2.2.2.2.2.2.1, o.2.2.2.2.2.2.2.2.2.2.2.2.2.2.2.2.2.2.2.2.2.2.2.2.2.2.1, o.2.2.2.2.2.2.2.2.2.2.2.2.2.2.2.2.2.2.2.2.2.2.2.2.2.2.2.1, o.2.2.2.2.2.2.2.2.2.2.2.2.2.2.2.2.2.2.2.2.2.2.2.2.2.2.2.2.1, o.2.2.2.2.2.2.2.2.2.2.2.2.2.2.2.2.2.2.2.2.2.2.2.2.2.2.2.2.2.1, o.2.2.2.2.2.2.2.2.2.2.2.2.2.2.2.2.2.2.2.2.2.2.2.2.2.2.2.2.2.2.1, o.2.2.2.2.2.2.2.2.2.2.2.2.2.2.2.2.2.2.2.2.2.2.2.2.2.2.2.2.2.2.2.1, o.2.2.2.2.2.2.2.2.2.2.2.2.2.2.2.2.2.2.2.2.2.2.2.2.2.2.2.2.2.2.2.2.1, o.2.2.2.2.2.2.2.2.2.2.2.2.2.2.2.2.2.2.2.2.2.2.2.2.2.2.2.2.2.2.2.2.2.1, o.2.2.2.2.2.2.2.2.2.2.2.2.2.2.2.2.2.2.2.2.2.2.2.2.2.2.2.2.2.2.2.2.2.2)
def s_edgeW (o : Ob) (v : List Int32) : Ob := (o.1, o.2.1, o.2.2.1, o.2.2.2.1, o.2.2.2.2.1, o.2.2.2.2.2.1, o.2.2.2.2.2.2.1, o.2.2.2.2.2.2.2.1, o.2.2.2.2.2.2.2.2.1, o.2.2.2.2.2.2.2.2.2.1, o.2.2.2.2.2.2.2.2.2.2.1, o.2.2.2.2.2.2.2.2.2.2.2.1, o.2.2.2.2.2.2.2.2.2.2.2.2.1, v, o.2.2.2.2.2.2.2.2.2.2.2.2.2.2.1, o.2.2.2.2.2.2.2.2.2.2.2.2.2.2.2.1, o.2.2.2.2.2.2.2.2.2.2.2.2.2.2.2.2.1, o.2.2.2.2.2.2.2.2.2.2.2.2.2.2.2.2.2.1, o.2.2.2.2.2.2.2.2.2.2.2.2.2.2.2.2.2.2.1, o.2.2.2.2.2.2.2.2.2.2.2.2.2.2.2.2.2.2.2.1, o.2.2.2.2.2.2.2.2.2.2.2.2.2.2.2.2.2.2.2.2.1, o.2.2.2.2.2.2.2.2.2.2.2.2.2.2.2.2.2.2.2.2.2.1, o.2.2.2.2.2.2.2.2.2.2.2.2.2.2.2.2.2.2.2.2.2.2.1, o.2.2.2.2.2.2.2.2.2.2.2.2.2.2.2.2.2.2.2.2.2.2.2.1, o.2.2.2.2.2.2.2.2.2.2.2.2.2.2.2.2.2.2.2.2.2.2.2.2.1, o.2.2.2.2.2.2.2.2.2.2.2.2.2.2.2.2.2.2.2.2.2.2.2.2.2.1, o.2.2.2.2.2.2.2.2.2.2.2.2.2.2.2.2.2.2.2.2.2.2.2.2.2.2.1, o.2.2.2.2.2.2.2.2.2.2.2.2.2.2.2.2.2.2.2.2.2.2.2.2.2.2.2.1, o.2.2.2.2.2.2.2.2.2.2.2.2.2.2.2.2.2.2.2.2.2.2.2.2.2.2.2.2.1, o.2.2.2.2.2.2.2.2.2.2.2.2.2.2.2.2.2.2.2.2.2.2.2.2.2.2.2.2.2.1, o.2.2.2.2.2.2.2.2.2.2.2.2.2.2.2.2.2.2.2.2.2.2.2.2.2.2.2.2.2.2.1, o.2.2.2.2.2.2.2.2.2.2.2.2.2.2.2.2.2.2.2.2.2.2.2.2.2.2.2.2.2.2.2.1, o.2.2.2.2.2.2.2.2.2.2.2.2.2.2.2.2.2.2.2.2.2.2.2.2.2.2.2.2.2.2.2.2.1, o.2.2.2.2.2.2.2.2.2.2.2.2.2.2.2.2.2.2.2.2.2.2.2.2.2.2.2.2.2.2.2.2.2.1, o.2.2.2.2.2.2.2.2.2.2.2.2.2.2.2.2.2.2.2.2.2.2.2.2.2.2.2.2.2.2.2.2.2.2)
def s_chNext (o : Ob) (v : List Int32) : Ob := (o.1, o.2.1, o.2.2.1, o.2.2.2.1, o.2.2.2.2.1, o.2.2.2.2.2.1, o.2.2.2.2.2.2.1, o.2.2.2.2.2.2.2.1, o.2.2.2.2.2.2.2.2.1, o.2.2.2.2.2.2.2.2.2.1, o.2.2.2.2.2.2.2.2.2.2.1, o.2.2.2.2.2.2.2.2.2.2.2.1, o.2.2.2.2.2.2.2.2.2.2.2.2.1, o.2.2.2.2.2.2.2.2.2.2.2.2.2.1, v, o.2.2.2.2.2.2.2.2.2.2.2.2.2.2.2.1, o.2.2.2.2.2.2.2.2.2.2.2.2.2.2.2.2.1, o.2.2.2.2.2.2.2.2.2.2.2.2.2.2.2.2.2.1, o.2.2.2.2.2.2.2.2.2.2.2.2.2.2.2.2.2.2.1, o.2.2.2.2.2.2.2.2.2.2.2.2.2.2.2.2.2.2.2.1, o.2.2.2.2.2.2.2.2.2.2.2.2.2.2.2.2.2.2.2.2.1, o.2.2.2.2.2.2.2.2.2.2.2.2.2.2.2.2.2.2.2.2.2.1, o.2.2.2.2.2.2.2.2.2.2.2.2.2.2.2.2.2.2.2.2.2.2.1, o.2.2.2.2.2.2.2.2.2.2.2.2.2.2.2.2.2.2.2.2.2.2.2.1, o.2.2.2.2.2.2.2.2.2.2.2.2.2.2.2.2.2.2.2.2.2.2.2.2.1, o.2.2.2.2.2.2.2.2.2.2.2.2.2.2.2.2.2.2.2.2.2.2.2.2.2.1, o.2.2.2.2.2.2.2.2.2.2.2.2.2.2.2.2.2.2.2.2.2.2.2.2.2.2.1, o.2.2.2.2.2.2.2.2.2.2.2.2.2.2.2.2.2.2.2.2.2.2.2.2.2.2.2.1, o.2.2.2.2.2.2.2.2.2.2.2.2.2.2.2.2.2.2.2.2.2.2.2.2.2.2.2.2.1, o.2.2.2.2.2.2.2.2.2.2.2.2.2.2.2.2.2.2.2.2.2.2.2.2.2.2.2.2.2.1, o.2.2.2.2.2.2.2.2.2.2.2.2.2.2.2.2.2.2.2.2.2.2.2.2.2.2.2.2.2.2.1, o.2.2.2.2.2.2.2.2.2.2.2.2.2.2.2.2.2.2.2.2.2.2.2.2.2.2.2.2.2.2.2.1, o.2.2.2.2.2.2.2.2.2.2.2.2.2.2.2.2.2.2.2.2.2.2.2.2.2.2.2.2.2.2.2.2.1, o.2.2.2.2.2.2.2.2.2.2.2.2.2.2.2.2.2.2.2.2.2.2.2.2.2.2.2.2.2.2.2.2.2.1, o.2.2.2.2.2.2.2.2.2.2.2.2.2.2.2.2.2.2.2.2.2.2.2.2.2.2.2.2.2.2.2.2.2.2)
def s_chPrev (o : Ob) (v : List Int32) : Ob := (o.1, o.2.1, o.2.2.1, o.2.2.2.1, o.2.2.2.2.1, o.2.2.2.2.2.1, o.2.2.2.2.2.2.1, o.2.2.2.2.2.2.2.1, o.2.2.2.2.2.2.2.2.1, o.2.2.2.2.2.2.2.2.2.1, o.2.2.2.2.2.2.2.2.2.2.1, o.2.2.2.2.2.2.2.2.2.2.2.1, o.2.2.2.2.2.2.2.2.2.2.2.2.1, o.2.2.2.2.2.2.2.2.2.2.2.2.2.1, o.2.2.2.2.2.2.2.2.2.2.2.2.2.2.1, v, o.2.2.2.2.2.2.2.2.2.2.2.2.2.2.2.2.1, o.2.2.2.2.2.2.2.2.2.2.2.2.2.2.2.2.2.1, o.2.2.2.2.2.2.2.2.2.2.2.2.2.2.2.2.2.2.1, o.2.2.2.2.2.2.2.2.2.2.2.2.2.2.2.2.2.2.2.1, o.2.2.2.2.2.2.2.2.2.2.2.2.2.2.2.2.2.2.2.2.1, o.2.2.2.2.2.2.2.2.2.2.2.2.2.2.2.2.2.2.2.2.2.1, o.2.2.2.2.2.2.2.2.2.2.2.2.2.2.2.2.2.2.2.2.2.2.1, o.2.2.2.2.2.2.2.2.2.2.2.2.2.2.2.2.2.2.2.2.2.2.2.1, o.2.2.2.2.2.2.2.2.2.2.2.2.2.2.2.2.2.2.2.2.2.2.2.2.1, o.2.2.2.2.2.2.2.2.2.2.2.2.2.2.2.2.2.2.2.2.2.2.2.2.2.1, o.2.2.2.2.2.2.2.2.2.2.2.2.2.2.2.2.2.2.2.2.2.2.2.2.2.2.1, o.2.2.2.2.2.2.2.2.2.2.2.2.2.2.2.2.2.2.2.2.2.2.2.2.2.2.2.1, o.2.2.2.2.2.2.2.2.2.2.2.2.2.2.2.2.2.2.2.2.2.2.2.2.2.2.2.2.1, o.2.2.2.2.2.2.2.2.2.2.2.2.2.2.2.2.2.2.2.2.2.2.2.2.2.2.2.2.2.1, o.2.2.2.2.2.2.2.2.2.2.2.2.2.2.2.2.2.2.2.2.2.2.2.2.2.2.2.2.2.2.1, o.2.2.2.2.2.2.2.2.2.2.2.2.2.2.2.2.2.2.2.2.2.2.2.2.2.2.2.2.2.2.2.1, o.2.2.2.2.2.2.2.2.2.2.2.2.2.2.2.2.2.2.2.2.2.2.2.2.2.2.2.2.2.2.2.2.1, o.2.2.2.2.2.2.2.2.2.2.2.2.2.2.2.2.2.2.2.2.2.2.2.2.2.2.2.2.2.2.2.2.2.1, o.2.2.2.2.2.2.2.2.2.2.2.2.2.2.2.2.2.2.2.2.2.2.2.2.2.2.2.2.2.2.2.2.2.2)
def s_chHead (o : Ob) (v : List Int32) : Ob := (o.1, o.2.1, o.2.2.1, o.2.2.2.1, o.2.2.2.2.1, o.2.2.2.2.2.1, o.2.2.2.2.2.2.1, o.2.2.2.2.2.2.2.1, o.2.2.2.2.2.2.2.2.1, o.2.2.2.2.2.2.2.2.2.1, o.2.2.2.2.2.2.2.2.2.2.1, o.2.2.2.2.2.2.2.2.2.2.2.1, o.2.2.2.2.2.2.2.2.2.2.2.2.1, o.2.2.2.2.2.2.2.2.2.2.2.2.2.1, o.2.2.2.2.2.2.2.2.2.2.2.2.2.2.1, o.2.2.2.2.2.2.2.2.2.2.2.2.2.2.2.1, v, o.2.2.2.2.2.2.2.2.2.2.2.2.2.2.2.2.2.1, o.2.2.2.2.2.2.2.2.2.2.2.2.2.2.2.2.2.2.1, o.2.2.2.2.2.2.2.2.2.2.2.2.2.2.2.2.2.2.2.1, o.2.2.2.2.2.2.2.2.2.2.2.2.2.2.2.2.2.2.2.2.1, o.2.2.2.2.2.2.2.2.2.2.2.2.2.2.2.2.2.2.2.2.2.1, o.2.2.2.2.2.2.2.2.2.2.2.2.2.2.2.2.2.2.2.2.2.2.1, o.2.2.2.2.2.2.2.2.2.2.2.2.2.2.2.2.2.2.2.2.2.2.2.1, o.2.2.2.2.2.2.2.2.2.2.2.2.2.2.2.2.2.2.2.2.2.2.2.2.1, o.2.2.2.2.2.2.2.2.2.2.2.2.2.2.2.2.2.2.2.2.2.2.2.2.2.1, o.2.2.2.2.2.2.2.2.2.2.2.2.2.2.2.2.2.2.2.2.2.2.2.2.2.2.1, o.2.2.2.2.2.2.2.2.2.2.2.2.2.2.2.2.2.2.2.2.2.2.2.2.2.2.2.1, o.2.2.2.2.2.2.2.2.2.2.2.2.2.2.2.2.2.2.2.2.2.2.2.2.2.2.2.2.1, o.2.2.2.2.2.2.2.2.2.2.2.2.2.2.2.2.2.2.2.2.2.2.2.2.2.2.2.2.2.1, o.2.2.2.2.2.2.2.2.2.2.2.2.2.2.2.2.2.2.2.2.2.2.2.2.2.2.2.2.2.2.1, o.2.2.2.2.2.2.2.2.2.2.2.2.2.2.2.2.2.2.2.2.2.2.2.2.2.2.2.2.2.2.2.1, o.2.2.2.2.2.2.2.2.2.2.2.2.2.2.2.2.2.2.2.2.2.2.2.2.2.2.2.2.2.2.2.2.1, o.2.2.2.2.2.2.2.2.2.2.2.2.2.2.2.2.2.2.2.2.2.2.2.2.2.2.2.2.2.2.2.2.2.1, o.2.2.2.2.2.2.2.2.2.2.2.2.2.2.2.2.2.2.2.2.2.2.2.2.2.2.2.2.2.2.2.2.2.2)
def s_heat (o : Ob) (v : List Int32) : Ob := (o.1, o.2.1, o.2.2.1, o.2.2.2.1, o.2.2.2.2.1, o.2.2.2.2.2.1, o.2.2.2.2.2.2.1, o.2.2.2.2.2.2.2.1, o.2.2.2.2.2.2.2.2.1, o.2.2.2.2.2.2.2.2.2.1, o.2.2.2.2.2.2.2.2.2.2.1, o.2.2.2.2.2.2.2.2.2.2.2.1, o.2.2.2.2.2.2.2.2.2.2.2.2.1, o.2.2.2.2.2.2.2.2.2.2.2.2.2.1, o.2.2.2.2.2.2.2.2.2.2.2.2.2.2.1, o.2.2.2.2.2.2.2.2.2.2.2.2.2.2.2.1, o.2.2.2.2.2.2.2.2.2.2.2.2.2.2.2.2.1, v, o.2.2.2.2.2.2.2.2.2.2.2.2.2.2.2.2.2.2.1, o.2.2.2.2.2.2.2.2.2.2.2.2.2.2.2.2.2.2.2.1, o.2.2.2.2.2.2.2.2.2.2.2.2.2.2.2.2.2.2.2.2.1, o.2.2.2.2.2.2.2.2.2.2.2.2.2.2.2.2.2.2.2.2.2.1, o.2.2.2.2.2.2.2.2.2.2.2.2.2.2.2.2.2.2.2.2.2.2.1, o.2.2.2.2.2.2.2.2.2.2.2.2.2.2.2.2.2.2.2.2.2.2.2.1, o.2.2.2.2.2.2.2.2.2.2.2.2.2.2.2.2.2.2.2.2.2.2.2.2.1, o.2.2.2.2.2.2.2.2.2.2.2.2.2.2.2.2.2.2.2.2.2.2.2.2.2.1, o.2.2.2.2.2.2.2.2.2.2.2.2.2.2.2.2.2.2.2.2.2.2.2.2.2.2.1, o.2.2.2.2.2.2.2.2.2.2.2.2.2.2.2.2.2.2.2.2.2.2.2.2.2.2.2.1, o.2.2.2.2.2.2.2.2.2.2.2.2.2.2.2.2.2.2.2.2.2.2.2.2.2.2.2.2.1, o.2.2.2.2.2.2.2.2.2.2.2.2.2.2.2.2.2.2.2.2.2.2.2.2.2.2.2.2.2.1, o.2.2.2.2.2.2.2.2.2.2.2.2.2.2.2.2.2.2.2.2.2.2.2.2.2.2.2.2.2.2.1, o.2.2.2.2.2.2.2.2.2.2.2.2.2.2.2.2.2.2.2.2.2.2.2.2.2.2.2.2.2.2.2.1, o.2.2.2.2.2.2.2.2.2.2.2.2.2.2.2.2.2.2.2.2.2.2.2.2.2.2.2.2.2.2.2.2.1, o.2.2.2.2.2.2.2.2.2.2.2.2.2.2.2.2.2.2.2.2.2.2.2.2.2.2.2.2.2.2.2.2.2.1, o.2.2.2.2.2.2.2.2.2.2.2.2.2.2.2.2.2.2.2.2.2.2.2.2.2.2.2.2.2.2.2.2.2.2)
def s_posOf (o : Ob) (v : List Int32) : Ob := (o.1, o.2.1, o.2.2.1, o.2.2.2.1, o.2.2.2.2.1, o.2.2.2.2.2.1, o.2.2.2.2.2.2.1, o.2.2.2.2.2.2.2.1, o.2.2.2.2.2.2.2.2.1, o.2.2.2.2.2.2.2.2.2.1, o.2.2.2.2.2.2.2.2.2.2.1, o.2.2.2.2.2.2.2.2.2.2.2.1, o.2.2.2.2.2.2.2.2.2.2.2.2.1, o.2.2.2.2.2.2.2.2.2.2.2.2.2.1, o.2.2.2.2.2.2.2.2.2.2.2.2.2.2.1, o.2.2.2.2.2.2.2.2.2.2.2.2.2.2.2.1, o.2.2.2.2.2.2.2.2.2.2.2.2.2.2.2.2.1, o.2.2.2.2.2.2.2.2.2.2.2.2.2.2.2.2.2.1, v, o.2.2.2.2.2.2.2.2.2.2.2.2.2.2.2.2.2.2.2.1, o.2.2.2.2.2.2.2.2.2.2.2.2.2.2.2.2.2.2.2.2.1, o.2.2.2.2.2.2.2.2.2.2.2.2.2.2.2.2.2.2.2.2.2.1, o.2.2.2.2.2.2.2.2.2.2.2.2.2.2.2.2.2.2.2.2.2.2.1, o.2.2.2.2.2.2.2.2.2.2.2.2.2.2.2.2.2.2.2.2.2.2.2.1, o.2.2.2.2.2.2.2.2.2.2.2.2.2.2.2.2.2.2.2.2.2.2.2.2.1, o.2.2.2.2.2.2.2.2.2.2.2.2.2.2.2.2.2.2.2.2.2.2.2.2.2.1, o.2.2.2.2.2.2.2.2.2.2.2.2.2.2.2.2.2.2.2.2.2.2.2.2.2.2.1, o.2.2.2.2.2.2.2.2.2.2.2.2.2.2.2.2.2.2.2.2.2.2.2.2.2.2.2.1, o.2.2.2.2.2.2.2.2.2.2.2.2.2.2.2.2.2.2.2.2.2.2.2.2.2.2.2.2.1, o.2.2.2.2.2.2.2.2.2.2.2.2.2.2.2.2.2.2.2.2.2.2.2.2.2.2.2.2.2.1, o.2.2.2.2.2.2.2.2.2.2.2.2.2.2.2.2.2.2.2.2.2.2.2.2.2.2.2.2.2.2.1, o.2.2.2.2.2.2.2.2.2.2.2.2.2.2.2.2.2.2.2.2.2.2.2.2.2.2.2.2.2.2.2.1, o.2.2.2.2.2.2.2.2.2.2.2.2.2.2.2.2.2.2.2.2.2.2.2.2.2.2.2.2.2.2.2.2.1, o.2.2.2.2.2.2.2.2.2.2.2.2.2.2.2.2.2.2.2.2.2.2.2.2.2.2.2.2.2.2.2.2.2.1, o.2.2.2.2.2.2.2.2.2.2.2.2.2.2.2.2.2.2.2.2.2.2.2.2.2.2.2.2.2.2.2.2.2.2)
def s_order (o : Ob) (v : List Int32) : Ob := (o.1, o.2.1, o.2.2.1, o.2.2.2.1, o.2.2.2.2.1, o.2.2.2.2.2.1, o.2.2.2.2.2.2.1, o.2.2.2.2.2.2.2.1, o.2.2.2.2.2.2.2.2.1, o.2.2.2.2.2.2.2.2.2.1, o.2.2.2.2.2.2.2.2.2.2.1, o.2.2.2.2.2.2.2.2.2.2.2.1, o.2.2.2.2.2.2.2.2.2.2.2.2.1, o.2.2.2.2.2.2.2.2.2.2.2.2.2.1, o.2.2.2.2.2.2.2.2.2.2.2.2.2.2.1, o.2.2.2.2.2.2.2.2.2.2.2.2.2.2.2.1, o.2.2.2.2.2.2.2.2.2.2.2.2.2.2.2.2.1, o.2.2.2.2.2.2.2.2.2.2.2.2.2.2.2.2.2.1, o.2.2.2.2.2.2.2.2.2.2.2.2.2.2.2.2.2.2.1, v, o.2.2.2.2.2.2.2.2.2.2.2.2.2.2.2.2.2.2.2.2.1, o.2.2.2.2.2.2.2.2.2.2.2.2.2.2.2.2.2.2.2.2.2.1, o.2.2.2.2.2.2.2.2.2.2.2.2.2.2.2.2.2.2.2.2.2.2.1, o.2.2.2.2.2.2.2.2.2.2.2.2.2.2.2.2.2.2.2.2.2.2.2.1, o.2.2.2.2.2.2.2.2.2.2.2.2.2.2.2.2.2.2.2.2.2.2.2.2.1, o.2.2.2.2.2.2.2.2.2.2.2.2.2.2.2.2.2.2.2.2.2.2.2.2.2.1, o.2.2.2.2.2.2.2.2.2.2.2.2.2.2.2.2.2.2.2.2.2.2.2.2.2.2.1, o.2.2.2.2.2.2.2.2.2.2.2.2.2.2.2.2.2.2.2.2.2.2.2.2.2.2.2.1, o.2.2.2.2.2.2.2.2.2.2.2.2.2.2.2.2.2.2.2.2.2.2.2.2.2.2.2.2.1, o.2.2.2.2.2.2.2.2.2.2.2.2.2.2.2.2.2.2.2.2.2.2.2.2.2.2.2.2.2.1, o.2.2.2.2.2.2.2.2.2.2.2.2.2.2.2.2.2.2.2.2.2.2.2.2.2.2.2.2.2.2.1, o.2.2.2.2.2.2.2.2.2.2.2.2.2.2.2.2.2.2.2.2.2.2.2.2.2.2.2.2.2.2.2.1, o.2.2.2.2.2.2.2.2.2.2.2.2.2.2.2.2.2.2.2.2.2.2.2.2.2.2.2.2.2.2.2.2.1, o.2.2.2.2.2.2.2.2.2.2.2.2.2.2.2.2.2.2.2.2.2.2.2.2.2.2.2.2.2.2.2.2.2.1, o.2.2.2.2.2.2.2.2.2.2.2.2.2.2.2.2.2.2.2.2.2.2.2.2.2.2.2.2.2.2.2.2.2.2)
def s_cOp (o : Ob) (v : List Int32) : Ob := (o.1, o.2.1, o.2.2.1, o.2.2.2.1, o.2.2.2.2.1, o.2.2.2.2.2.1, o.2.2.2.2.2.2.1, o.2.2.2.2.2.2.2.1, o.2.2.2.2.2.2.2.2.1, o.2.2.2.2.2.2.2.2.2.1, o.2.2.2.2.2.2.2.2.2.2.1, o.2.2.2.2.2.2.2.2.2.2.2.1, o.2.2.2.2.2.2.2.2.2.2.2.2.1, o.2.2.2.2.2.2.2.2.2.2.2.2.2.1, o.2.2.2.2.2.2.2.2.2.2.2.2.2.2.1, o.2.2.2.2.2.2.2.2.2.2.2.2.2.2.2.1, o.2.2.2.2.2.2.2.2.2.2.2.2.2.2.2.2.1, o.2.2.2.2.2.2.2.2.2.2.2.2.2.2.2.2.2.1, o.2.2.2.2.2.2.2.2.2.2.2.2.2.2.2.2.2.2.1, o.2.2.2.2.2.2.2.2.2.2.2.2.2.2.2.2.2.2.2.1, v, o.2.2.2.2.2.2.2.2.2.2.2.2.2.2.2.2.2.2.2.2.2.1, o.2.2.2.2.2.2.2.2.2.2.2.2.2.2.2.2.2.2.2.2.2.2.1, o.2.2.2.2.2.2.2.2.2.2.2.2.2.2.2.2.2.2.2.2.2.2.2.1, o.2.2.2.2.2.2.2.2.2.2.2.2.2.2.2.2.2.2.2.2.2.2.2.2.1, o.2.2.2.2.2.2.2.2.2.2.2.2.2.2.2.2.2.2.2.2.2.2.2.2.2.1, o.2.2.2.2.2.2.2.2.2.2.2.2.2.2.2.2.2.2.2.2.2.2.2.2.2.2.1, o.2.2.2.2.2.2.2.2.2.2.2.2.2.2.2.2.2.2.2.2.2.2.2.2.2.2.2.1, o.2.2.2.2.2.2.2.2.2.2.2.2.2.2.2.2.2.2.2.2.2.2.2.2.2.2.2.2.1, o.2.2.2.2.2.2.2.2.2.2.2.2.2.2.2.2.2.2.2.2.2.2.2.2.2.2.2.2.2.1, o.2.2.2.2.2.2.2.2.2.2.2.2.2.2.2.2.2.2.2.2.2.2.2.2.2.2.2.2.2.2.1, o.2.2.2.2.2.2.2.2.2.2.2.2.2.2.2.2.2.2.2.2.2.2.2.2.2.2.2.2.2.2.2.1, o.2.2.2.2.2.2.2.2.2.2.2.2.2.2.2.2.2.2.2.2.2.2.2.2.2.2.2.2.2.2.2.2.1, o.2.2.2.2.2.2.2.2.2.2.2.2.2.2.2.2.2.2.2.2.2.2.2.2.2.2.2.2.2.2.2.2.2.1, o.2.2.2.2.2.2.2.2.2.2.2.2.2.2.2.2.2.2.2.2.2.2.2.2.2.2.2.2.2.2.2.2.2.2)
def s_cD (o : Ob) (v : List Int32) : Ob := (o.1, o.2.1, o.2.2.1, o.2.2.2.1, o.2.2.2.2.1, o.2.2.2.2.2.1, o.2.2.2.2.2.2.1, o.2.2.2.2.2.2.2.1, o.2.2.2.2.2.2.2.2.1, o.2.2.2.2.2.2.2.2.2.1, o.2.2.2.2.2.2.2.2.2.2.1, o.2.2.2.2.2.2.2.2.2.2.2.1, o.2.2.2.2.2.2.2.2.2.2.2.2.1, o.2.2.2.2.2.2.2.2.2.2.2.2.2.1, o.2.2.2.2.2.2.2.2.2.2.2.2.2.2.1, o.2.2.2.2.2.2.2.2.2.2.2.2.2.2.2.1, o.2.2.2.2.2.2.2.2.2.2.2.2.2.2.2.2.1, o.2.2.2.2.2.2.2.2.2.2.2.2.2.2.2.2.2.1, o.2.2.2.2.2.2.2.2.2.2.2.2.2.2.2.2.2.2.1, o.2.2.2.2.2.2.2.2.2.2.2.2.2.2.2.2.2.2.2.1, o.2.2.2.2.2.2.2.2.2.2.2.2.2.2.2.2.2.2.2.2.1, v, o.2.2.2.2.2.2.2.2.2.2.2.2.2.2.2.2.2.2.2.2.2.2.1, o.2.2.2.2.2.2.2.2.2.2.2.2.2.2.2.2.2.2.2.2.2.2.2.1, o.2.2.2.2.2.2.2.2.2.2.2.2.2.2.2.2.2.2.2.2.2.2.2.2.1, o.2.2.2.2.2.2.2.2.2.2.2.2.2.2.2.2.2.2.2.2.2.2.2.2.2.1, o.2.2.2.2.2.2.2.2.2.2.2.2.2.2.2.2.2.2.2.2.2.2.2.2.2.2.1, o.2.2.2.2.2.2.2.2.2.2.2.2.2.2.2.2.2.2.2.2.2.2.2.2.2.2.2.1, o.2.2.2.2.2.2.2.2.2.2.2.2.2.2.2.2.2.2.2.2.2.2.2.2.2.2.2.2.1, o.2.2.2.2.2.2.2.2.2.2.2.2.2.2.2.2.2.2.2.2.2.2.2.2.2.2.2.2.2.1, o.2.2.2.2.2.2.2.2.2.2.2.2.2.2.2.2.2.2.2.2.2.2.2.2.2.2.2.2.2.2.1, o.2.2.2.2.2.2.2.2.2.2.2.2.2.2.2.2.2.2.2.2.2.2.2.2.2.2.2.2.2.2.2.1, o.2.2.2.2.2.2.2.2.2.2.2.2.2.2.2.2.2.2.2.2.2.2.2.2.2.2.2.2.2.2.2.2.1, o.2.2.2.2.2.2.2.2.2.2.2.2.2.2.2.2.2.2.2.2.2.2.2.2.2.2.2.2.2.2.2.2.2.1, o.2.2.2.2.2.2.2.2.2.2.2.2.2.2.2.2.2.2.2.2.2.2.2.2.2.2.2.2.2.2.2.2.2.2)
def s_cS (o : Ob) (v : List Int32) : Ob := (o.1, o.2.1, o.2.2.1, o.2.2.2.1, o.2.2.2.2.1, o.2.2.2.2.2.1, o.2.2.2.2.2.2.1, o.2.2.2.2.2.2.2.1, o.2.2.2.2.2.2.2.2.1, o.2.2.2.2.2.2.2.2.2.1, o.2.2.2.2.2.2.2.2.2.2.1, o.2.2.2.2.2.2.2.2.2.2.2.1, o.2.2.2.2.2.2.2.2.2.2.2.2.1, o.2.2.2.2.2.2.2.2.2.2.2.2.2.1, o.2.2.2.2.2.2.2.2.2.2.2.2.2.2.1, o.2.2.2.2.2.2.2.2.2.2.2.2.2.2.2.1, o.2.2.2.2.2.2.2.2.2.2.2.2.2.2.2.2.1, o.2.2.2.2.2.2.2.2.2.2.2.2.2.2.2.2.2.1, o.2.2.2.2.2.2.2.2.2.2.2.2.2.2.2.2.2.2.1, o.2.2.2.2.2.2.2.2.2.2.2.2.2.2.2.2.2.2.2.1, o.2.2.2.2.2.2.2.2.2.2.2.2.2.2.2.2.2.2.2.2.1, o.2.2.2.2.2.2.2.2.2.2.2.2.2.2.2.2.2.2.2.2.2.1, v, o.2.2.2.2.2.2.2.2.2.2.2.2.2.2.2.2.2.2.2.2.2.2.2.1, o.2.2.2.2.2.2.2.2.2.2.2.2.2.2.2.2.2.2.2.2.2.2.2.2.1, o.2.2.2.2.2.2.2.2.2.2.2.2.2.2.2.2.2.2.2.2.2.2.2.2.2.1, o.2.2.2.2.2.2.2.2.2.2.2.2.2.2.2.2.2.2.2.2.2.2.2.2.2.2.1, o.2.2.2.2.2.2.2.2.2.2.2.2.2.2.2.2.2.2.2.2.2.2.2.2.2.2.2.1, o.2.2.2.2.2.2.2.2.2.2.2.2.2.2.2.2.2.2.2.2.2.2.2.2.2.2.2.2.1, o.2.2.2.2.2.2.2.2.2.2.2.2.2.2.2.2.2.2.2.2.2.2.2.2.2.2.2.2.2.1, o.2.2.2.2.2.2.2.2.2.2.2.2.2.2.2.2.2.2.2.2.2.2.2.2.2.2.2.2.2.2.1, o.2.2.2.2.2.2.2.2.2.2.2.2.2.2.2.2.2.2.2.2.2.2.2.2.2.2.2.2.2.2.2.1, o.2.2.2.2.2.2.2.2.2.2.2.2.2.2.2.2.2.2.2.2.2.2.2.2.2.2.2.2.2.2.2.2.1, o.2.2.2.2.2.2.2.2.2.2.2.2.2.2.2.2.2.2.2.2.2.2.2.2.2.2.2.2.2.2.2.2.2.1, o.2.2.2.2.2.2.2.2.2.2.2.2.2.2.2.2.2.2.2.2.2.2.2.2.2.2.2.2.2.2.2.2.2.2)
def s_cImm (o : Ob) (v : List Int32) : Ob := (o.1, o.2.1, o.2.2.1, o.2.2.2.1, o.2.2.2.2.1, o.2.2.2.2.2.1, o.2.2.2.2.2.2.1, o.2.2.2.2.2.2.2.1, o.2.2.2.2.2.2.2.2.1, o.2.2.2.2.2.2.2.2.2.1, o.2.2.2.2.2.2.2.2.2.2.1, o.2.2.2.2.2.2.2.2.2.2.2.1, o.2.2.2.2.2.2.2.2.2.2.2.2.1, o.2.2.2.2.2.2.2.2.2.2.2.2.2.1, o.2.2.2.2.2.2.2.2.2.2.2.2.2.2.1, o.2.2.2.2.2.2.2.2.2.2.2.2.2.2.2.1, o.2.2.2.2.2.2.2.2.2.2.2.2.2.2.2.2.1, o.2.2.2.2.2.2.2.2.2.2.2.2.2.2.2.2.2.1, o.2.2.2.2.2.2.2.2.2.2.2.2.2.2.2.2.2.2.1, o.2.2.2.2.2.2.2.2.2.2.2.2.2.2.2.2.2.2.2.1, o.2.2.2.2.2.2.2.2.2.2.2.2.2.2.2.2.2.2.2.2.1, o.2.2.2.2.2.2.2.2.2.2.2.2.2.2.2.2.2.2.2.2.2.1, o.2.2.2.2.2.2.2.2.2.2.2.2.2.2.2.2.2.2.2.2.2.2.1, v, o.2.2.2.2.2.2.2.2.2.2.2.2.2.2.2.2.2.2.2.2.2.2.2.2.1, o.2.2.2.2.2.2.2.2.2.2.2.2.2.2.2.2.2.2.2.2.2.2.2.2.2.1, o.2.2.2.2.2.2.2.2.2.2.2.2.2.2.2.2.2.2.2.2.2.2.2.2.2.2.1, o.2.2.2.2.2.2.2.2.2.2.2.2.2.2.2.2.2.2.2.2.2.2.2.2.2.2.2.1, o.2.2.2.2.2.2.2.2.2.2.2.2.2.2.2.2.2.2.2.2.2.2.2.2.2.2.2.2.1, o.2.2.2.2.2.2.2.2.2.2.2.2.2.2.2.2.2.2.2.2.2.2.2.2.2.2.2.2.2.1, o.2.2.2.2.2.2.2.2.2.2.2.2.2.2.2.2.2.2.2.2.2.2.2.2.2.2.2.2.2.2.1, o.2.2.2.2.2.2.2.2.2.2.2.2.2.2.2.2.2.2.2.2.2.2.2.2.2.2.2.2.2.2.2.1, o.2.2.2.2.2.2.2.2.2.2.2.2.2.2.2.2.2.2.2.2.2.2.2.2.2.2.2.2.2.2.2.2.1, o.2.2.2.2.2.2.2.2.2.2.2.2.2.2.2.2.2.2.2.2.2.2.2.2.2.2.2.2.2.2.2.2.2.1, o.2.2.2.2.2.2.2.2.2.2.2.2.2.2.2.2.2.2.2.2.2.2.2.2.2.2.2.2.2.2.2.2.2.2)
def s_cKind (o : Ob) (v : List Int32) : Ob := (o.1, o.2.1, o.2.2.1, o.2.2.2.1, o.2.2.2.2.1, o.2.2.2.2.2.1, o.2.2.2.2.2.2.1, o.2.2.2.2.2.2.2.1, o.2.2.2.2.2.2.2.2.1, o.2.2.2.2.2.2.2.2.2.1, o.2.2.2.2.2.2.2.2.2.2.1, o.2.2.2.2.2.2.2.2.2.2.2.1, o.2.2.2.2.2.2.2.2.2.2.2.2.1, o.2.2.2.2.2.2.2.2.2.2.2.2.2.1, o.2.2.2.2.2.2.2.2.2.2.2.2.2.2.1, o.2.2.2.2.2.2.2.2.2.2.2.2.2.2.2.1, o.2.2.2.2.2.2.2.2.2.2.2.2.2.2.2.2.1, o.2.2.2.2.2.2.2.2.2.2.2.2.2.2.2.2.2.1, o.2.2.2.2.2.2.2.2.2.2.2.2.2.2.2.2.2.2.1, o.2.2.2.2.2.2.2.2.2.2.2.2.2.2.2.2.2.2.2.1, o.2.2.2.2.2.2.2.2.2.2.2.2.2.2.2.2.2.2.2.2.1, o.2.2.2.2.2.2.2.2.2.2.2.2.2.2.2.2.2.2.2.2.2.1, o.2.2.2.2.2.2.2.2.2.2.2.2.2.2.2.2.2.2.2.2.2.2.1, o.2.2.2.2.2.2.2.2.2.2.2.2.2.2.2.2.2.2.2.2.2.2.2.1, v, o.2.2.2.2.2.2.2.2.2.2.2.2.2.2.2.2.2.2.2.2.2.2.2.2.2.1, o.2.2.2.2.2.2.2.2.2.2.2.2.2.2.2.2.2.2.2.2.2.2.2.2.2.2.1, o.2.2.2.2.2.2.2.2.2.2.2.2.2.2.2.2.2.2.2.2.2.2.2.2.2.2.2.1, o.2.2.2.2.2.2.2.2.2.2.2.2.2.2.2.2.2.2.2.2.2.2.2.2.2.2.2.2.1, o.2.2.2.2.2.2.2.2.2.2.2.2.2.2.2.2.2.2.2.2.2.2.2.2.2.2.2.2.2.1, o.2.2.2.2.2.2.2.2.2.2.2.2.2.2.2.2.2.2.2.2.2.2.2.2.2.2.2.2.2.2.1, o.2.2.2.2.2.2.2.2.2.2.2.2.2.2.2.2.2.2.2.2.2.2.2.2.2.2.2.2.2.2.2.1, o.2.2.2.2.2.2.2.2.2.2.2.2.2.2.2.2.2.2.2.2.2.2.2.2.2.2.2.2.2.2.2.2.1, o.2.2.2.2.2.2.2.2.2.2.2.2.2.2.2.2.2.2.2.2.2.2.2.2.2.2.2.2.2.2.2.2.2.1, o.2.2.2.2.2.2.2.2.2.2.2.2.2.2.2.2.2.2.2.2.2.2.2.2.2.2.2.2.2.2.2.2.2.2)
def s_cTest (o : Ob) (v : List Int32) : Ob := (o.1, o.2.1, o.2.2.1, o.2.2.2.1, o.2.2.2.2.1, o.2.2.2.2.2.1, o.2.2.2.2.2.2.1, o.2.2.2.2.2.2.2.1, o.2.2.2.2.2.2.2.2.1, o.2.2.2.2.2.2.2.2.2.1, o.2.2.2.2.2.2.2.2.2.2.1, o.2.2.2.2.2.2.2.2.2.2.2.1, o.2.2.2.2.2.2.2.2.2.2.2.2.1, o.2.2.2.2.2.2.2.2.2.2.2.2.2.1, o.2.2.2.2.2.2.2.2.2.2.2.2.2.2.1, o.2.2.2.2.2.2.2.2.2.2.2.2.2.2.2.1, o.2.2.2.2.2.2.2.2.2.2.2.2.2.2.2.2.1, o.2.2.2.2.2.2.2.2.2.2.2.2.2.2.2.2.2.1, o.2.2.2.2.2.2.2.2.2.2.2.2.2.2.2.2.2.2.1, o.2.2.2.2.2.2.2.2.2.2.2.2.2.2.2.2.2.2.2.1, o.2.2.2.2.2.2.2.2.2.2.2.2.2.2.2.2.2.2.2.2.1, o.2.2.2.2.2.2.2.2.2.2.2.2.2.2.2.2.2.2.2.2.2.1, o.2.2.2.2.2.2.2.2.2.2.2.2.2.2.2.2.2.2.2.2.2.2.1, o.2.2.2.2.2.2.2.2.2.2.2.2.2.2.2.2.2.2.2.2.2.2.2.1, o.2.2.2.2.2.2.2.2.2.2.2.2.2.2.2.2.2.2.2.2.2.2.2.2.1, v, o.2.2.2.2.2.2.2.2.2.2.2.2.2.2.2.2.2.2.2.2.2.2.2.2.2.2.1, o.2.2.2.2.2.2.2.2.2.2.2.2.2.2.2.2.2.2.2.2.2.2.2.2.2.2.2.1, o.2.2.2.2.2.2.2.2.2.2.2.2.2.2.2.2.2.2.2.2.2.2.2.2.2.2.2.2.1, o.2.2.2.2.2.2.2.2.2.2.2.2.2.2.2.2.2.2.2.2.2.2.2.2.2.2.2.2.2.1, o.2.2.2.2.2.2.2.2.2.2.2.2.2.2.2.2.2.2.2.2.2.2.2.2.2.2.2.2.2.2.1, o.2.2.2.2.2.2.2.2.2.2.2.2.2.2.2.2.2.2.2.2.2.2.2.2.2.2.2.2.2.2.2.1, o.2.2.2.2.2.2.2.2.2.2.2.2.2.2.2.2.2.2.2.2.2.2.2.2.2.2.2.2.2.2.2.2.1, o.2.2.2.2.2.2.2.2.2.2.2.2.2.2.2.2.2.2.2.2.2.2.2.2.2.2.2.2.2.2.2.2.2.1, o.2.2.2.2.2.2.2.2.2.2.2.2.2.2.2.2.2.2.2.2.2.2.2.2.2.2.2.2.2.2.2.2.2.2)
def s_cTaken (o : Ob) (v : List Int32) : Ob := (o.1, o.2.1, o.2.2.1, o.2.2.2.1, o.2.2.2.2.1, o.2.2.2.2.2.1, o.2.2.2.2.2.2.1, o.2.2.2.2.2.2.2.1, o.2.2.2.2.2.2.2.2.1, o.2.2.2.2.2.2.2.2.2.1, o.2.2.2.2.2.2.2.2.2.2.1, o.2.2.2.2.2.2.2.2.2.2.2.1, o.2.2.2.2.2.2.2.2.2.2.2.2.1, o.2.2.2.2.2.2.2.2.2.2.2.2.2.1, o.2.2.2.2.2.2.2.2.2.2.2.2.2.2.1, o.2.2.2.2.2.2.2.2.2.2.2.2.2.2.2.1, o.2.2.2.2.2.2.2.2.2.2.2.2.2.2.2.2.1, o.2.2.2.2.2.2.2.2.2.2.2.2.2.2.2.2.2.1, o.2.2.2.2.2.2.2.2.2.2.2.2.2.2.2.2.2.2.1, o.2.2.2.2.2.2.2.2.2.2.2.2.2.2.2.2.2.2.2.1, o.2.2.2.2.2.2.2.2.2.2.2.2.2.2.2.2.2.2.2.2.1, o.2.2.2.2.2.2.2.2.2.2.2.2.2.2.2.2.2.2.2.2.2.1, o.2.2.2.2.2.2.2.2.2.2.2.2.2.2.2.2.2.2.2.2.2.2.1, o.2.2.2.2.2.2.2.2.2.2.2.2.2.2.2.2.2.2.2.2.2.2.2.1, o.2.2.2.2.2.2.2.2.2.2.2.2.2.2.2.2.2.2.2.2.2.2.2.2.1, o.2.2.2.2.2.2.2.2.2.2.2.2.2.2.2.2.2.2.2.2.2.2.2.2.2.1, v, o.2.2.2.2.2.2.2.2.2.2.2.2.2.2.2.2.2.2.2.2.2.2.2.2.2.2.2.1, o.2.2.2.2.2.2.2.2.2.2.2.2.2.2.2.2.2.2.2.2.2.2.2.2.2.2.2.2.1, o.2.2.2.2.2.2.2.2.2.2.2.2.2.2.2.2.2.2.2.2.2.2.2.2.2.2.2.2.2.1, o.2.2.2.2.2.2.2.2.2.2.2.2.2.2.2.2.2.2.2.2.2.2.2.2.2.2.2.2.2.2.1, o.2.2.2.2.2.2.2.2.2.2.2.2.2.2.2.2.2.2.2.2.2.2.2.2.2.2.2.2.2.2.2.1, o.2.2.2.2.2.2.2.2.2.2.2.2.2.2.2.2.2.2.2.2.2.2.2.2.2.2.2.2.2.2.2.2.1, o.2.2.2.2.2.2.2.2.2.2.2.2.2.2.2.2.2.2.2.2.2.2.2.2.2.2.2.2.2.2.2.2.2.1, o.2.2.2.2.2.2.2.2.2.2.2.2.2.2.2.2.2.2.2.2.2.2.2.2.2.2.2.2.2.2.2.2.2.2)
def s_cOther (o : Ob) (v : List Int32) : Ob := (o.1, o.2.1, o.2.2.1, o.2.2.2.1, o.2.2.2.2.1, o.2.2.2.2.2.1, o.2.2.2.2.2.2.1, o.2.2.2.2.2.2.2.1, o.2.2.2.2.2.2.2.2.1, o.2.2.2.2.2.2.2.2.2.1, o.2.2.2.2.2.2.2.2.2.2.1, o.2.2.2.2.2.2.2.2.2.2.2.1, o.2.2.2.2.2.2.2.2.2.2.2.2.1, o.2.2.2.2.2.2.2.2.2.2.2.2.2.1, o.2.2.2.2.2.2.2.2.2.2.2.2.2.2.1, o.2.2.2.2.2.2.2.2.2.2.2.2.2.2.2.1, o.2.2.2.2.2.2.2.2.2.2.2.2.2.2.2.2.1, o.2.2.2.2.2.2.2.2.2.2.2.2.2.2.2.2.2.1, o.2.2.2.2.2.2.2.2.2.2.2.2.2.2.2.2.2.2.1, o.2.2.2.2.2.2.2.2.2.2.2.2.2.2.2.2.2.2.2.1, o.2.2.2.2.2.2.2.2.2.2.2.2.2.2.2.2.2.2.2.2.1, o.2.2.2.2.2.2.2.2.2.2.2.2.2.2.2.2.2.2.2.2.2.1, o.2.2.2.2.2.2.2.2.2.2.2.2.2.2.2.2.2.2.2.2.2.2.1, o.2.2.2.2.2.2.2.2.2.2.2.2.2.2.2.2.2.2.2.2.2.2.2.1, o.2.2.2.2.2.2.2.2.2.2.2.2.2.2.2.2.2.2.2.2.2.2.2.2.1, o.2.2.2.2.2.2.2.2.2.2.2.2.2.2.2.2.2.2.2.2.2.2.2.2.2.1, o.2.2.2.2.2.2.2.2.2.2.2.2.2.2.2.2.2.2.2.2.2.2.2.2.2.2.1, v, o.2.2.2.2.2.2.2.2.2.2.2.2.2.2.2.2.2.2.2.2.2.2.2.2.2.2.2.2.1, o.2.2.2.2.2.2.2.2.2.2.2.2.2.2.2.2.2.2.2.2.2.2.2.2.2.2.2.2.2.1, o.2.2.2.2.2.2.2.2.2.2.2.2.2.2.2.2.2.2.2.2.2.2.2.2.2.2.2.2.2.2.1, o.2.2.2.2.2.2.2.2.2.2.2.2.2.2.2.2.2.2.2.2.2.2.2.2.2.2.2.2.2.2.2.1, o.2.2.2.2.2.2.2.2.2.2.2.2.2.2.2.2.2.2.2.2.2.2.2.2.2.2.2.2.2.2.2.2.1, o.2.2.2.2.2.2.2.2.2.2.2.2.2.2.2.2.2.2.2.2.2.2.2.2.2.2.2.2.2.2.2.2.2.1, o.2.2.2.2.2.2.2.2.2.2.2.2.2.2.2.2.2.2.2.2.2.2.2.2.2.2.2.2.2.2.2.2.2.2)
def s_maxBlocks (o : Ob) (v : Int32) : Ob := (o.1, o.2.1, o.2.2.1, o.2.2.2.1, o.2.2.2.2.1, o.2.2.2.2.2.1, o.2.2.2.2.2.2.1, o.2.2.2.2.2.2.2.1, o.2.2.2.2.2.2.2.2.1, o.2.2.2.2.2.2.2.2.2.1, o.2.2.2.2.2.2.2.2.2.2.1, o.2.2.2.2.2.2.2.2.2.2.2.1, o.2.2.2.2.2.2.2.2.2.2.2.2.1, o.2.2.2.2.2.2.2.2.2.2.2.2.2.1, o.2.2.2.2.2.2.2.2.2.2.2.2.2.2.1, o.2.2.2.2.2.2.2.2.2.2.2.2.2.2.2.1, o.2.2.2.2.2.2.2.2.2.2.2.2.2.2.2.2.1, o.2.2.2.2.2.2.2.2.2.2.2.2.2.2.2.2.2.1, o.2.2.2.2.2.2.2.2.2.2.2.2.2.2.2.2.2.2.1, o.2.2.2.2.2.2.2.2.2.2.2.2.2.2.2.2.2.2.2.1, o.2.2.2.2.2.2.2.2.2.2.2.2.2.2.2.2.2.2.2.2.1, o.2.2.2.2.2.2.2.2.2.2.2.2.2.2.2.2.2.2.2.2.2.1, o.2.2.2.2.2.2.2.2.2.2.2.2.2.2.2.2.2.2.2.2.2.2.1, o.2.2.2.2.2.2.2.2.2.2.2.2.2.2.2.2.2.2.2.2.2.2.2.1, o.2.2.2.2.2.2.2.2.2.2.2.2.2.2.2.2.2.2.2.2.2.2.2.2.1, o.2.2.2.2.2.2.2.2.2.2.2.2.2.2.2.2.2.2.2.2.2.2.2.2.2.1, o.2.2.2.2.2.2.2.2.2.2.2.2.2.2.2.2.2.2.2.2.2.2.2.2.2.2.1, o.2.2.2.2.2.2.2.2.2.2.2.2.2.2.2.2.2.2.2.2.2.2.2.2.2.2.2.1, v, o.2.2.2.2.2.2.2.2.2.2.2.2.2.2.2.2.2.2.2.2.2.2.2.2.2.2.2.2.2.1, o.2.2.2.2.2.2.2.2.2.2.2.2.2.2.2.2.2.2.2.2.2.2.2.2.2.2.2.2.2.2.1, o.2.2.2.2.2.2.2.2.2.2.2.2.2.2.2.2.2.2.2.2.2.2.2.2.2.2.2.2.2.2.2.1, o.2.2.2.2.2.2.2.2.2.2.2.2.2.2.2.2.2.2.2.2.2.2.2.2.2.2.2.2.2.2.2.2.1, o.2.2.2.2.2.2.2.2.2.2.2.2.2.2.2.2.2.2.2.2.2.2.2.2.2.2.2.2.2.2.2.2.2.1, o.2.2.2.2.2.2.2.2.2.2.2.2.2.2.2.2.2.2.2.2.2.2.2.2.2.2.2.2.2.2.2.2.2.2)
def s_maxSteps (o : Ob) (v : Int32) : Ob := (o.1, o.2.1, o.2.2.1, o.2.2.2.1, o.2.2.2.2.1, o.2.2.2.2.2.1, o.2.2.2.2.2.2.1, o.2.2.2.2.2.2.2.1, o.2.2.2.2.2.2.2.2.1, o.2.2.2.2.2.2.2.2.2.1, o.2.2.2.2.2.2.2.2.2.2.1, o.2.2.2.2.2.2.2.2.2.2.2.1, o.2.2.2.2.2.2.2.2.2.2.2.2.1, o.2.2.2.2.2.2.2.2.2.2.2.2.2.1, o.2.2.2.2.2.2.2.2.2.2.2.2.2.2.1, o.2.2.2.2.2.2.2.2.2.2.2.2.2.2.2.1, o.2.2.2.2.2.2.2.2.2.2.2.2.2.2.2.2.1, o.2.2.2.2.2.2.2.2.2.2.2.2.2.2.2.2.2.1, o.2.2.2.2.2.2.2.2.2.2.2.2.2.2.2.2.2.2.1, o.2.2.2.2.2.2.2.2.2.2.2.2.2.2.2.2.2.2.2.1, o.2.2.2.2.2.2.2.2.2.2.2.2.2.2.2.2.2.2.2.2.1, o.2.2.2.2.2.2.2.2.2.2.2.2.2.2.2.2.2.2.2.2.2.1, o.2.2.2.2.2.2.2.2.2.2.2.2.2.2.2.2.2.2.2.2.2.2.1, o.2.2.2.2.2.2.2.2.2.2.2.2.2.2.2.2.2.2.2.2.2.2.2.1, o.2.2.2.2.2.2.2.2.2.2.2.2.2.2.2.2.2.2.2.2.2.2.2.2.1, o.2.2.2.2.2.2.2.2.2.2.2.2.2.2.2.2.2.2.2.2.2.2.2.2.2.1, o.2.2.2.2.2.2.2.2.2.2.2.2.2.2.2.2.2.2.2.2.2.2.2.2.2.2.1, o.2.2.2.2.2.2.2.2.2.2.2.2.2.2.2.2.2.2.2.2.2.2.2.2.2.2.2.1, o.2.2.2.2.2.2.2.2.2.2.2.2.2.2.2.2.2.2.2.2.2.2.2.2.2.2.2.2.1, v, o.2.2.2.2.2.2.2.2.2.2.2.2.2.2.2.2.2.2.2.2.2.2.2.2.2.2.2.2.2.2.1, o.2.2.2.2.2.2.2.2.2.2.2.2.2.2.2.2.2.2.2.2.2.2.2.2.2.2.2.2.2.2.2.1, o.2.2.2.2.2.2.2.2.2.2.2.2.2.2.2.2.2.2.2.2.2.2.2.2.2.2.2.2.2.2.2.2.1, o.2.2.2.2.2.2.2.2.2.2.2.2.2.2.2.2.2.2.2.2.2.2.2.2.2.2.2.2.2.2.2.2.2.1, o.2.2.2.2.2.2.2.2.2.2.2.2.2.2.2.2.2.2.2.2.2.2.2.2.2.2.2.2.2.2.2.2.2.2)
def s_n (o : Ob) (v : Int32) : Ob := (o.1, o.2.1, o.2.2.1, o.2.2.2.1, o.2.2.2.2.1, o.2.2.2.2.2.1, o.2.2.2.2.2.2.1, o.2.2.2.2.2.2.2.1, o.2.2.2.2.2.2.2.2.1, o.2.2.2.2.2.2.2.2.2.1, o.2.2.2.2.2.2.2.2.2.2.1, o.2.2.2.2.2.2.2.2.2.2.2.1, o.2.2.2.2.2.2.2.2.2.2.2.2.1, o.2.2.2.2.2.2.2.2.2.2.2.2.2.1, o.2.2.2.2.2.2.2.2.2.2.2.2.2.2.1, o.2.2.2.2.2.2.2.2.2.2.2.2.2.2.2.1, o.2.2.2.2.2.2.2.2.2.2.2.2.2.2.2.2.1, o.2.2.2.2.2.2.2.2.2.2.2.2.2.2.2.2.2.1, o.2.2.2.2.2.2.2.2.2.2.2.2.2.2.2.2.2.2.1, o.2.2.2.2.2.2.2.2.2.2.2.2.2.2.2.2.2.2.2.1, o.2.2.2.2.2.2.2.2.2.2.2.2.2.2.2.2.2.2.2.2.1, o.2.2.2.2.2.2.2.2.2.2.2.2.2.2.2.2.2.2.2.2.2.1, o.2.2.2.2.2.2.2.2.2.2.2.2.2.2.2.2.2.2.2.2.2.2.1, o.2.2.2.2.2.2.2.2.2.2.2.2.2.2.2.2.2.2.2.2.2.2.2.1, o.2.2.2.2.2.2.2.2.2.2.2.2.2.2.2.2.2.2.2.2.2.2.2.2.1, o.2.2.2.2.2.2.2.2.2.2.2.2.2.2.2.2.2.2.2.2.2.2.2.2.2.1, o.2.2.2.2.2.2.2.2.2.2.2.2.2.2.2.2.2.2.2.2.2.2.2.2.2.2.1, o.2.2.2.2.2.2.2.2.2.2.2.2.2.2.2.2.2.2.2.2.2.2.2.2.2.2.2.1, o.2.2.2.2.2.2.2.2.2.2.2.2.2.2.2.2.2.2.2.2.2.2.2.2.2.2.2.2.1, o.2.2.2.2.2.2.2.2.2.2.2.2.2.2.2.2.2.2.2.2.2.2.2.2.2.2.2.2.2.1, v, o.2.2.2.2.2.2.2.2.2.2.2.2.2.2.2.2.2.2.2.2.2.2.2.2.2.2.2.2.2.2.2.1, o.2.2.2.2.2.2.2.2.2.2.2.2.2.2.2.2.2.2.2.2.2.2.2.2.2.2.2.2.2.2.2.2.1, o.2.2.2.2.2.2.2.2.2.2.2.2.2.2.2.2.2.2.2.2.2.2.2.2.2.2.2.2.2.2.2.2.2.1, o.2.2.2.2.2.2.2.2.2.2.2.2.2.2.2.2.2.2.2.2.2.2.2.2.2.2.2.2.2.2.2.2.2.2)
def s_arranged (o : Ob) (v : Int32) : Ob := (o.1, o.2.1, o.2.2.1, o.2.2.2.1, o.2.2.2.2.1, o.2.2.2.2.2.1, o.2.2.2.2.2.2.1, o.2.2.2.2.2.2.2.1, o.2.2.2.2.2.2.2.2.1, o.2.2.2.2.2.2.2.2.2.1, o.2.2.2.2.2.2.2.2.2.2.1, o.2.2.2.2.2.2.2.2.2.2.2.1, o.2.2.2.2.2.2.2.2.2.2.2.2.1, o.2.2.2.2.2.2.2.2.2.2.2.2.2.1, o.2.2.2.2.2.2.2.2.2.2.2.2.2.2.1, o.2.2.2.2.2.2.2.2.2.2.2.2.2.2.2.1, o.2.2.2.2.2.2.2.2.2.2.2.2.2.2.2.2.1, o.2.2.2.2.2.2.2.2.2.2.2.2.2.2.2.2.2.1, o.2.2.2.2.2.2.2.2.2.2.2.2.2.2.2.2.2.2.1, o.2.2.2.2.2.2.2.2.2.2.2.2.2.2.2.2.2.2.2.1, o.2.2.2.2.2.2.2.2.2.2.2.2.2.2.2.2.2.2.2.2.1, o.2.2.2.2.2.2.2.2.2.2.2.2.2.2.2.2.2.2.2.2.2.1, o.2.2.2.2.2.2.2.2.2.2.2.2.2.2.2.2.2.2.2.2.2.2.1, o.2.2.2.2.2.2.2.2.2.2.2.2.2.2.2.2.2.2.2.2.2.2.2.1, o.2.2.2.2.2.2.2.2.2.2.2.2.2.2.2.2.2.2.2.2.2.2.2.2.1, o.2.2.2.2.2.2.2.2.2.2.2.2.2.2.2.2.2.2.2.2.2.2.2.2.2.1, o.2.2.2.2.2.2.2.2.2.2.2.2.2.2.2.2.2.2.2.2.2.2.2.2.2.2.1, o.2.2.2.2.2.2.2.2.2.2.2.2.2.2.2.2.2.2.2.2.2.2.2.2.2.2.2.1, o.2.2.2.2.2.2.2.2.2.2.2.2.2.2.2.2.2.2.2.2.2.2.2.2.2.2.2.2.1, o.2.2.2.2.2.2.2.2.2.2.2.2.2.2.2.2.2.2.2.2.2.2.2.2.2.2.2.2.2.1, o.2.2.2.2.2.2.2.2.2.2.2.2.2.2.2.2.2.2.2.2.2.2.2.2.2.2.2.2.2.2.1, v, o.2.2.2.2.2.2.2.2.2.2.2.2.2.2.2.2.2.2.2.2.2.2.2.2.2.2.2.2.2.2.2.2.1, o.2.2.2.2.2.2.2.2.2.2.2.2.2.2.2.2.2.2.2.2.2.2.2.2.2.2.2.2.2.2.2.2.2.1, o.2.2.2.2.2.2.2.2.2.2.2.2.2.2.2.2.2.2.2.2.2.2.2.2.2.2.2.2.2.2.2.2.2.2)
def s_outCount (o : Ob) (v : Int32) : Ob := (o.1, o.2.1, o.2.2.1, o.2.2.2.1, o.2.2.2.2.1, o.2.2.2.2.2.1, o.2.2.2.2.2.2.1, o.2.2.2.2.2.2.2.1, o.2.2.2.2.2.2.2.2.1, o.2.2.2.2.2.2.2.2.2.1, o.2.2.2.2.2.2.2.2.2.2.1, o.2.2.2.2.2.2.2.2.2.2.2.1, o.2.2.2.2.2.2.2.2.2.2.2.2.1, o.2.2.2.2.2.2.2.2.2.2.2.2.2.1, o.2.2.2.2.2.2.2.2.2.2.2.2.2.2.1, o.2.2.2.2.2.2.2.2.2.2.2.2.2.2.2.1, o.2.2.2.2.2.2.2.2.2.2.2.2.2.2.2.2.1, o.2.2.2.2.2.2.2.2.2.2.2.2.2.2.2.2.2.1, o.2.2.2.2.2.2.2.2.2.2.2.2.2.2.2.2.2.2.1, o.2.2.2.2.2.2.2.2.2.2.2.2.2.2.2.2.2.2.2.1, o.2.2.2.2.2.2.2.2.2.2.2.2.2.2.2.2.2.2.2.2.1, o.2.2.2.2.2.2.2.2.2.2.2.2.2.2.2.2.2.2.2.2.2.1, o.2.2.2.2.2.2.2.2.2.2.2.2.2.2.2.2.2.2.2.2.2.2.1, o.2.2.2.2.2.2.2.2.2.2.2.2.2.2.2.2.2.2.2.2.2.2.2.1, o.2.2.2.2.2.2.2.2.2.2.2.2.2.2.2.2.2.2.2.2.2.2.2.2.1, o.2.2.2.2.2.2.2.2.2.2.2.2.2.2.2.2.2.2.2.2.2.2.2.2.2.1, o.2.2.2.2.2.2.2.2.2.2.2.2.2.2.2.2.2.2.2.2.2.2.2.2.2.2.1, o.2.2.2.2.2.2.2.2.2.2.2.2.2.2.2.2.2.2.2.2.2.2.2.2.2.2.2.1, o.2.2.2.2.2.2.2.2.2.2.2.2.2.2.2.2.2.2.2.2.2.2.2.2.2.2.2.2.1, o.2.2.2.2.2.2.2.2.2.2.2.2.2.2.2.2.2.2.2.2.2.2.2.2.2.2.2.2.2.1, o.2.2.2.2.2.2.2.2.2.2.2.2.2.2.2.2.2.2.2.2.2.2.2.2.2.2.2.2.2.2.1, o.2.2.2.2.2.2.2.2.2.2.2.2.2.2.2.2.2.2.2.2.2.2.2.2.2.2.2.2.2.2.2.1, v, o.2.2.2.2.2.2.2.2.2.2.2.2.2.2.2.2.2.2.2.2.2.2.2.2.2.2.2.2.2.2.2.2.2.1, o.2.2.2.2.2.2.2.2.2.2.2.2.2.2.2.2.2.2.2.2.2.2.2.2.2.2.2.2.2.2.2.2.2.2)
def s_steps (o : Ob) (v : Int32) : Ob := (o.1, o.2.1, o.2.2.1, o.2.2.2.1, o.2.2.2.2.1, o.2.2.2.2.2.1, o.2.2.2.2.2.2.1, o.2.2.2.2.2.2.2.1, o.2.2.2.2.2.2.2.2.1, o.2.2.2.2.2.2.2.2.2.1, o.2.2.2.2.2.2.2.2.2.2.1, o.2.2.2.2.2.2.2.2.2.2.2.1, o.2.2.2.2.2.2.2.2.2.2.2.2.1, o.2.2.2.2.2.2.2.2.2.2.2.2.2.1, o.2.2.2.2.2.2.2.2.2.2.2.2.2.2.1, o.2.2.2.2.2.2.2.2.2.2.2.2.2.2.2.1, o.2.2.2.2.2.2.2.2.2.2.2.2.2.2.2.2.1, o.2.2.2.2.2.2.2.2.2.2.2.2.2.2.2.2.2.1, o.2.2.2.2.2.2.2.2.2.2.2.2.2.2.2.2.2.2.1, o.2.2.2.2.2.2.2.2.2.2.2.2.2.2.2.2.2.2.2.1, o.2.2.2.2.2.2.2.2.2.2.2.2.2.2.2.2.2.2.2.2.1, o.2.2.2.2.2.2.2.2.2.2.2.2.2.2.2.2.2.2.2.2.2.1, o.2.2.2.2.2.2.2.2.2.2.2.2.2.2.2.2.2.2.2.2.2.2.1, o.2.2.2.2.2.2.2.2.2.2.2.2.2.2.2.2.2.2.2.2.2.2.2.1, o.2.2.2.2.2.2.2.2.2.2.2.2.2.2.2.2.2.2.2.2.2.2.2.2.1, o.2.2.2.2.2.2.2.2.2.2.2.2.2.2.2.2.2.2.2.2.2.2.2.2.2.1, o.2.2.2.2.2.2.2.2.2.2.2.2.2.2.2.2.2.2.2.2.2.2.2.2.2.2.1, o.2.2.2.2.2.2.2.2.2.2.2.2.2.2.2.2.2.2.2.2.2.2.2.2.2.2.2.1, o.2.2.2.2.2.2.2.2.2.2.2.2.2.2.2.2.2.2.2.2.2.2.2.2.2.2.2.2.1, o.2.2.2.2.2.2.2.2.2.2.2.2.2.2.2.2.2.2.2.2.2.2.2.2.2.2.2.2.2.1, o.2.2.2.2.2.2.2.2.2.2.2.2.2.2.2.2.2.2.2.2.2.2.2.2.2.2.2.2.2.2.1, o.2.2.2.2.2.2.2.2.2.2.2.2.2.2.2.2.2.2.2.2.2.2.2.2.2.2.2.2.2.2.2.1, o.2.2.2.2.2.2.2.2.2.2.2.2.2.2.2.2.2.2.2.2.2.2.2.2.2.2.2.2.2.2.2.2.1, v, o.2.2.2.2.2.2.2.2.2.2.2.2.2.2.2.2.2.2.2.2.2.2.2.2.2.2.2.2.2.2.2.2.2.2)
def s_status (o : Ob) (v : Int32) : Ob := (o.1, o.2.1, o.2.2.1, o.2.2.2.1, o.2.2.2.2.1, o.2.2.2.2.2.1, o.2.2.2.2.2.2.1, o.2.2.2.2.2.2.2.1, o.2.2.2.2.2.2.2.2.1, o.2.2.2.2.2.2.2.2.2.1, o.2.2.2.2.2.2.2.2.2.2.1, o.2.2.2.2.2.2.2.2.2.2.2.1, o.2.2.2.2.2.2.2.2.2.2.2.2.1, o.2.2.2.2.2.2.2.2.2.2.2.2.2.1, o.2.2.2.2.2.2.2.2.2.2.2.2.2.2.1, o.2.2.2.2.2.2.2.2.2.2.2.2.2.2.2.1, o.2.2.2.2.2.2.2.2.2.2.2.2.2.2.2.2.1, o.2.2.2.2.2.2.2.2.2.2.2.2.2.2.2.2.2.1, o.2.2.2.2.2.2.2.2.2.2.2.2.2.2.2.2.2.2.1, o.2.2.2.2.2.2.2.2.2.2.2.2.2.2.2.2.2.2.2.1, o.2.2.2.2.2.2.2.2.2.2.2.2.2.2.2.2.2.2.2.2.1, o.2.2.2.2.2.2.2.2.2.2.2.2.2.2.2.2.2.2.2.2.2.1, o.2.2.2.2.2.2.2.2.2.2.2.2.2.2.2.2.2.2.2.2.2.2.1, o.2.2.2.2.2.2.2.2.2.2.2.2.2.2.2.2.2.2.2.2.2.2.2.1, o.2.2.2.2.2.2.2.2.2.2.2.2.2.2.2.2.2.2.2.2.2.2.2.2.1, o.2.2.2.2.2.2.2.2.2.2.2.2.2.2.2.2.2.2.2.2.2.2.2.2.2.1, o.2.2.2.2.2.2.2.2.2.2.2.2.2.2.2.2.2.2.2.2.2.2.2.2.2.2.1, o.2.2.2.2.2.2.2.2.2.2.2.2.2.2.2.2.2.2.2.2.2.2.2.2.2.2.2.1, o.2.2.2.2.2.2.2.2.2.2.2.2.2.2.2.2.2.2.2.2.2.2.2.2.2.2.2.2.1, o.2.2.2.2.2.2.2.2.2.2.2.2.2.2.2.2.2.2.2.2.2.2.2.2.2.2.2.2.2.1, o.2.2.2.2.2.2.2.2.2.2.2.2.2.2.2.2.2.2.2.2.2.2.2.2.2.2.2.2.2.2.1, o.2.2.2.2.2.2.2.2.2.2.2.2.2.2.2.2.2.2.2.2.2.2.2.2.2.2.2.2.2.2.2.1, o.2.2.2.2.2.2.2.2.2.2.2.2.2.2.2.2.2.2.2.2.2.2.2.2.2.2.2.2.2.2.2.2.1, o.2.2.2.2.2.2.2.2.2.2.2.2.2.2.2.2.2.2.2.2.2.2.2.2.2.2.2.2.2.2.2.2.2.1, v)
def ob0 : Ob := ([], [], [], [], [], [], [], [], [], [], [], [], [], [], [], [], [], [], [], [], [], [], [], [], [], [], [], [], 0, 0, 0, 0, 0, 0, 0)
section Walks
variable {l : Launch} {Z : State} {n0 : Nat} {ad : Nat → Addr} {a0 : Array Value}
set_option maxRecDepth 20000
def H0 (o0 : Ob) : QHeap := [.inl [.ref 1, .ref 2, .ref 3, .ref 4, .ref 5, .ref 6, .ref 7, .ref 8, .ref 9, .ref 10, .ref 11, .ref 12, .ref 13, .ref 14, .ref 15, .ref 16, .ref 17, .ref 18, .ref 19, .ref 20, .ref 21, .ref 22, .ref 23, .ref 24, .ref 25, .ref 26, .ref 27, .ref 28, .int (f_maxBlocks o0), .int (f_maxSteps o0), .int (f_n o0), .int (f_arranged o0), .int (f_outCount o0), .int (f_steps o0), .int (f_status o0)], .inr (.inl (.int, (f_bOp o0))), .inr (.inl (.int, (f_bD o0))), .inr (.inl (.int, (f_bS o0))), .inr (.inl (.int, (f_bImm o0))), .inr (.inl (.int, (f_bTerm o0))), .inr (.inl (.int, (f_bTest o0))), .inr (.inl (.int, (f_bT0 o0))), .inr (.inl (.int, (f_bT1 o0))), .inr (.inl (.int, (f_cnt0 o0))), .inr (.inl (.int, (f_cnt1 o0))), .inr (.inl (.int, (f_regs o0))), .inr (.inl (.int, (f_outs o0))), .inr (.inl (.int, (f_edgeId o0))), .inr (.inl (.int, (f_edgeW o0))), .inr (.inl (.int, (f_chNext o0))), .inr (.inl (.int, (f_chPrev o0))), .inr (.inl (.int, (f_chHead o0))), .inr (.inl (.int, (f_heat o0))), .inr (.inl (.int, (f_posOf o0))), .inr (.inl (.int, (f_order o0))), .inr (.inl (.int, (f_cOp o0))), .inr (.inl (.int, (f_cD o0))), .inr (.inl (.int, (f_cS o0))), .inr (.inl (.int, (f_cImm o0))), .inr (.inl (.int, (f_cKind o0))), .inr (.inl (.int, (f_cTest o0))), .inr (.inl (.int, (f_cTaken o0))), .inr (.inl (.int, (f_cOther o0)))]
/-- init(II)V -/
def F1 (x1 : Int32) (x2 : Int32) : Option (Ob) :=
  some (s_status (s_steps (s_outCount (s_arranged (s_n (s_maxSteps (s_maxBlocks (s_cOther (s_cTaken (s_cTest (s_cKind (s_cImm (s_cS (s_cD (s_cOp (s_order (s_posOf (s_heat (s_chHead (s_chPrev (s_chNext (s_edgeW (s_edgeId (s_outs (s_regs (s_cnt1 (s_cnt0 (s_bT1 (s_bT0 (s_bTest (s_bTerm (s_bImm (s_bS (s_bD (s_bOp ob0 (List.replicate 16 0)) (List.replicate 16 0)) (List.replicate 16 0)) (List.replicate 16 0)) (List.replicate 16 0)) (List.replicate 16 0)) (List.replicate 16 0)) (List.replicate 16 0)) (List.replicate 16 0)) (List.replicate 16 0)) (List.replicate 4 0)) (List.replicate 16 0)) (List.replicate 32 0)) (List.replicate 32 0)) (List.replicate 16 0)) (List.replicate 16 0)) (List.replicate 16 0)) (List.replicate 16 0)) (List.replicate 16 0)) (List.replicate 16 0)) (List.replicate 16 0)) (List.replicate 16 0)) (List.replicate 16 0)) (List.replicate 16 0)) (List.replicate 16 0)) (List.replicate 16 0)) (List.replicate 16 0)) (List.replicate 16 0)) (if (16 : Int32) < (if x1 < (2 : Int32) then (2 : Int32) else x1) then (16 : Int32) else (if x1 < (2 : Int32) then (2 : Int32) else x1))) (if (1024 : Int32) < (if x2 < (16 : Int32) then (16 : Int32) else x2) then (1024 : Int32) else (if x2 < (16 : Int32) then (16 : Int32) else x2))) (0 : Int32)) (0 : Int32)) (0 : Int32)) (0 : Int32)) (0 : Int32))
theorem tF1 (Ad : QAd n0 ad) (W : QW Z a0) (x1 : Int32) (x2 : Int32) {r : Ob} (h : F1 x1 x2 = some r) : QTri l Z n0 ad 1 (0, qentry [.ref 0, .int x1, .int x2] (pMaxL 1), [], [.inl [.null, .null, .null, .null, .null, .null, .null, .null, .null, .null, .null, .null, .null, .null, .null, .null, .null, .null, .null, .null, .null, .null, .null, .null, .null, .null, .null, .null, .int (f_maxBlocks ob0), .int (f_maxSteps ob0), .int (f_n ob0), .int (f_arranged ob0), .int (f_outCount ob0), .int (f_steps ob0), .int (f_status ob0)]]) (none : Option Value) (H0 r) := by
  unfold F1 at h
  refine QTri.steps Ad W 1 (st' := (1, [some (.ref 0), some (.int x1), some (.int x2), none, none], [.ref 0], [.inl [.null, .null, .null, .null, .null, .null, .null, .null, .null, .null, .null, .null, .null, .null, .null, .null, .null, .null, .null, .null, .null, .null, .null, .null, .null, .null, .null, .null, .int (f_maxBlocks ob0), .int (f_maxSteps ob0), .int (f_n ob0), .int (f_arranged ob0), .int (f_outCount ob0), .int (f_steps ob0), .int (f_status ob0)]])) rfl ?_
  refine QTri.callO W rfl rfl rfl ?_
  refine QTri.steps Ad W 3 (st' := (9, [some (.ref 0), some (.int x1), some (.int x2), none, none], [.ref 1, .ref 0], [.inl [.null, .null, .null, .null, .null, .null, .null, .null, .null, .null, .null, .null, .null, .null, .null, .null, .null, .null, .null, .null, .null, .null, .null, .null, .null, .null, .null, .null, .int (f_maxBlocks ob0), .int (f_maxSteps ob0), .int (f_n ob0), .int (f_arranged ob0), .int (f_outCount ob0), .int (f_steps ob0), .int (f_status ob0)], .inr (.inl (.int, (List.replicate 16 0)))])) rfl ?_
  refine QTri.steps Ad W 1 (st' := (12, [some (.ref 0), some (.int x1), some (.int x2), none, none], [], [.inl [.ref 1, .null, .null, .null, .null, .null, .null, .null, .null, .null, .null, .null, .null, .null, .null, .null, .null, .null, .null, .null, .null, .null, .null, .null, .null, .null, .null, .null, .int (f_maxBlocks ob0), .int (f_maxSteps ob0), .int (f_n ob0), .int (f_arranged ob0), .int (f_outCount ob0), .int (f_steps ob0), .int (f_status ob0)], .inr (.inl (.int, (List.replicate 16 0)))])) rfl ?_
  refine QTri.steps Ad W 3 (st' := (17, [some (.ref 0), some (.int x1), some (.int x2), none, none], [.ref 2, .ref 0], [.inl [.ref 1, .null, .null, .null, .null, .null, .null, .null, .null, .null, .null, .null, .null, .null, .null, .null, .null, .null, .null, .null, .null, .null, .null, .null, .null, .null, .null, .null, .int (f_maxBlocks ob0), .int (f_maxSteps ob0), .int (f_n ob0), .int (f_arranged ob0), .int (f_outCount ob0), .int (f_steps ob0), .int (f_status ob0)], .inr (.inl (.int, (List.replicate 16 0))), .inr (.inl (.int, (List.replicate 16 0)))])) rfl ?_
  refine QTri.steps Ad W 1 (st' := (20, [some (.ref 0), some (.int x1), some (.int x2), none, none], [], [.inl [.ref 1, .ref 2, .null, .null, .null, .null, .null, .null, .null, .null, .null, .null, .null, .null, .null, .null, .null, .null, .null, .null, .null, .null, .null, .null, .null, .null, .null, .null, .int (f_maxBlocks ob0), .int (f_maxSteps ob0), .int (f_n ob0), .int (f_arranged ob0), .int (f_outCount ob0), .int (f_steps ob0), .int (f_status ob0)], .inr (.inl (.int, (List.replicate 16 0))), .inr (.inl (.int, (List.replicate 16 0)))])) rfl ?_
  refine QTri.steps Ad W 3 (st' := (25, [some (.ref 0), some (.int x1), some (.int x2), none, none], [.ref 3, .ref 0], [.inl [.ref 1, .ref 2, .null, .null, .null, .null, .null, .null, .null, .null, .null, .null, .null, .null, .null, .null, .null, .null, .null, .null, .null, .null, .null, .null, .null, .null, .null, .null, .int (f_maxBlocks ob0), .int (f_maxSteps ob0), .int (f_n ob0), .int (f_arranged ob0), .int (f_outCount ob0), .int (f_steps ob0), .int (f_status ob0)], .inr (.inl (.int, (List.replicate 16 0))), .inr (.inl (.int, (List.replicate 16 0))), .inr (.inl (.int, (List.replicate 16 0)))])) rfl ?_
  refine QTri.steps Ad W 1 (st' := (28, [some (.ref 0), some (.int x1), some (.int x2), none, none], [], [.inl [.ref 1, .ref 2, .ref 3, .null, .null, .null, .null, .null, .null, .null, .null, .null, .null, .null, .null, .null, .null, .null, .null, .null, .null, .null, .null, .null, .null, .null, .null, .null, .int (f_maxBlocks ob0), .int (f_maxSteps ob0), .int (f_n ob0), .int (f_arranged ob0), .int (f_outCount ob0), .int (f_steps ob0), .int (f_status ob0)], .inr (.inl (.int, (List.replicate 16 0))), .inr (.inl (.int, (List.replicate 16 0))), .inr (.inl (.int, (List.replicate 16 0)))])) rfl ?_
  refine QTri.steps Ad W 3 (st' := (33, [some (.ref 0), some (.int x1), some (.int x2), none, none], [.ref 4, .ref 0], [.inl [.ref 1, .ref 2, .ref 3, .null, .null, .null, .null, .null, .null, .null, .null, .null, .null, .null, .null, .null, .null, .null, .null, .null, .null, .null, .null, .null, .null, .null, .null, .null, .int (f_maxBlocks ob0), .int (f_maxSteps ob0), .int (f_n ob0), .int (f_arranged ob0), .int (f_outCount ob0), .int (f_steps ob0), .int (f_status ob0)], .inr (.inl (.int, (List.replicate 16 0))), .inr (.inl (.int, (List.replicate 16 0))), .inr (.inl (.int, (List.replicate 16 0))), .inr (.inl (.int, (List.replicate 16 0)))])) rfl ?_
  refine QTri.steps Ad W 1 (st' := (36, [some (.ref 0), some (.int x1), some (.int x2), none, none], [], [.inl [.ref 1, .ref 2, .ref 3, .ref 4, .null, .null, .null, .null, .null, .null, .null, .null, .null, .null, .null, .null, .null, .null, .null, .null, .null, .null, .null, .null, .null, .null, .null, .null, .int (f_maxBlocks ob0), .int (f_maxSteps ob0), .int (f_n ob0), .int (f_arranged ob0), .int (f_outCount ob0), .int (f_steps ob0), .int (f_status ob0)], .inr (.inl (.int, (List.replicate 16 0))), .inr (.inl (.int, (List.replicate 16 0))), .inr (.inl (.int, (List.replicate 16 0))), .inr (.inl (.int, (List.replicate 16 0)))])) rfl ?_
  refine QTri.steps Ad W 3 (st' := (41, [some (.ref 0), some (.int x1), some (.int x2), none, none], [.ref 5, .ref 0], [.inl [.ref 1, .ref 2, .ref 3, .ref 4, .null, .null, .null, .null, .null, .null, .null, .null, .null, .null, .null, .null, .null, .null, .null, .null, .null, .null, .null, .null, .null, .null, .null, .null, .int (f_maxBlocks ob0), .int (f_maxSteps ob0), .int (f_n ob0), .int (f_arranged ob0), .int (f_outCount ob0), .int (f_steps ob0), .int (f_status ob0)], .inr (.inl (.int, (List.replicate 16 0))), .inr (.inl (.int, (List.replicate 16 0))), .inr (.inl (.int, (List.replicate 16 0))), .inr (.inl (.int, (List.replicate 16 0))), .inr (.inl (.int, (List.replicate 16 0)))])) rfl ?_
  refine QTri.steps Ad W 1 (st' := (44, [some (.ref 0), some (.int x1), some (.int x2), none, none], [], [.inl [.ref 1, .ref 2, .ref 3, .ref 4, .ref 5, .null, .null, .null, .null, .null, .null, .null, .null, .null, .null, .null, .null, .null, .null, .null, .null, .null, .null, .null, .null, .null, .null, .null, .int (f_maxBlocks ob0), .int (f_maxSteps ob0), .int (f_n ob0), .int (f_arranged ob0), .int (f_outCount ob0), .int (f_steps ob0), .int (f_status ob0)], .inr (.inl (.int, (List.replicate 16 0))), .inr (.inl (.int, (List.replicate 16 0))), .inr (.inl (.int, (List.replicate 16 0))), .inr (.inl (.int, (List.replicate 16 0))), .inr (.inl (.int, (List.replicate 16 0)))])) rfl ?_
  refine QTri.steps Ad W 3 (st' := (49, [some (.ref 0), some (.int x1), some (.int x2), none, none], [.ref 6, .ref 0], [.inl [.ref 1, .ref 2, .ref 3, .ref 4, .ref 5, .null, .null, .null, .null, .null, .null, .null, .null, .null, .null, .null, .null, .null, .null, .null, .null, .null, .null, .null, .null, .null, .null, .null, .int (f_maxBlocks ob0), .int (f_maxSteps ob0), .int (f_n ob0), .int (f_arranged ob0), .int (f_outCount ob0), .int (f_steps ob0), .int (f_status ob0)], .inr (.inl (.int, (List.replicate 16 0))), .inr (.inl (.int, (List.replicate 16 0))), .inr (.inl (.int, (List.replicate 16 0))), .inr (.inl (.int, (List.replicate 16 0))), .inr (.inl (.int, (List.replicate 16 0))), .inr (.inl (.int, (List.replicate 16 0)))])) rfl ?_
  refine QTri.steps Ad W 1 (st' := (52, [some (.ref 0), some (.int x1), some (.int x2), none, none], [], [.inl [.ref 1, .ref 2, .ref 3, .ref 4, .ref 5, .ref 6, .null, .null, .null, .null, .null, .null, .null, .null, .null, .null, .null, .null, .null, .null, .null, .null, .null, .null, .null, .null, .null, .null, .int (f_maxBlocks ob0), .int (f_maxSteps ob0), .int (f_n ob0), .int (f_arranged ob0), .int (f_outCount ob0), .int (f_steps ob0), .int (f_status ob0)], .inr (.inl (.int, (List.replicate 16 0))), .inr (.inl (.int, (List.replicate 16 0))), .inr (.inl (.int, (List.replicate 16 0))), .inr (.inl (.int, (List.replicate 16 0))), .inr (.inl (.int, (List.replicate 16 0))), .inr (.inl (.int, (List.replicate 16 0)))])) rfl ?_
  refine QTri.steps Ad W 3 (st' := (57, [some (.ref 0), some (.int x1), some (.int x2), none, none], [.ref 7, .ref 0], [.inl [.ref 1, .ref 2, .ref 3, .ref 4, .ref 5, .ref 6, .null, .null, .null, .null, .null, .null, .null, .null, .null, .null, .null, .null, .null, .null, .null, .null, .null, .null, .null, .null, .null, .null, .int (f_maxBlocks ob0), .int (f_maxSteps ob0), .int (f_n ob0), .int (f_arranged ob0), .int (f_outCount ob0), .int (f_steps ob0), .int (f_status ob0)], .inr (.inl (.int, (List.replicate 16 0))), .inr (.inl (.int, (List.replicate 16 0))), .inr (.inl (.int, (List.replicate 16 0))), .inr (.inl (.int, (List.replicate 16 0))), .inr (.inl (.int, (List.replicate 16 0))), .inr (.inl (.int, (List.replicate 16 0))), .inr (.inl (.int, (List.replicate 16 0)))])) rfl ?_
  refine QTri.steps Ad W 1 (st' := (60, [some (.ref 0), some (.int x1), some (.int x2), none, none], [], [.inl [.ref 1, .ref 2, .ref 3, .ref 4, .ref 5, .ref 6, .ref 7, .null, .null, .null, .null, .null, .null, .null, .null, .null, .null, .null, .null, .null, .null, .null, .null, .null, .null, .null, .null, .null, .int (f_maxBlocks ob0), .int (f_maxSteps ob0), .int (f_n ob0), .int (f_arranged ob0), .int (f_outCount ob0), .int (f_steps ob0), .int (f_status ob0)], .inr (.inl (.int, (List.replicate 16 0))), .inr (.inl (.int, (List.replicate 16 0))), .inr (.inl (.int, (List.replicate 16 0))), .inr (.inl (.int, (List.replicate 16 0))), .inr (.inl (.int, (List.replicate 16 0))), .inr (.inl (.int, (List.replicate 16 0))), .inr (.inl (.int, (List.replicate 16 0)))])) rfl ?_
  refine QTri.steps Ad W 3 (st' := (65, [some (.ref 0), some (.int x1), some (.int x2), none, none], [.ref 8, .ref 0], [.inl [.ref 1, .ref 2, .ref 3, .ref 4, .ref 5, .ref 6, .ref 7, .null, .null, .null, .null, .null, .null, .null, .null, .null, .null, .null, .null, .null, .null, .null, .null, .null, .null, .null, .null, .null, .int (f_maxBlocks ob0), .int (f_maxSteps ob0), .int (f_n ob0), .int (f_arranged ob0), .int (f_outCount ob0), .int (f_steps ob0), .int (f_status ob0)], .inr (.inl (.int, (List.replicate 16 0))), .inr (.inl (.int, (List.replicate 16 0))), .inr (.inl (.int, (List.replicate 16 0))), .inr (.inl (.int, (List.replicate 16 0))), .inr (.inl (.int, (List.replicate 16 0))), .inr (.inl (.int, (List.replicate 16 0))), .inr (.inl (.int, (List.replicate 16 0))), .inr (.inl (.int, (List.replicate 16 0)))])) rfl ?_
  refine QTri.steps Ad W 1 (st' := (68, [some (.ref 0), some (.int x1), some (.int x2), none, none], [], [.inl [.ref 1, .ref 2, .ref 3, .ref 4, .ref 5, .ref 6, .ref 7, .ref 8, .null, .null, .null, .null, .null, .null, .null, .null, .null, .null, .null, .null, .null, .null, .null, .null, .null, .null, .null, .null, .int (f_maxBlocks ob0), .int (f_maxSteps ob0), .int (f_n ob0), .int (f_arranged ob0), .int (f_outCount ob0), .int (f_steps ob0), .int (f_status ob0)], .inr (.inl (.int, (List.replicate 16 0))), .inr (.inl (.int, (List.replicate 16 0))), .inr (.inl (.int, (List.replicate 16 0))), .inr (.inl (.int, (List.replicate 16 0))), .inr (.inl (.int, (List.replicate 16 0))), .inr (.inl (.int, (List.replicate 16 0))), .inr (.inl (.int, (List.replicate 16 0))), .inr (.inl (.int, (List.replicate 16 0)))])) rfl ?_
  refine QTri.steps Ad W 3 (st' := (73, [some (.ref 0), some (.int x1), some (.int x2), none, none], [.ref 9, .ref 0], [.inl [.ref 1, .ref 2, .ref 3, .ref 4, .ref 5, .ref 6, .ref 7, .ref 8, .null, .null, .null, .null, .null, .null, .null, .null, .null, .null, .null, .null, .null, .null, .null, .null, .null, .null, .null, .null, .int (f_maxBlocks ob0), .int (f_maxSteps ob0), .int (f_n ob0), .int (f_arranged ob0), .int (f_outCount ob0), .int (f_steps ob0), .int (f_status ob0)], .inr (.inl (.int, (List.replicate 16 0))), .inr (.inl (.int, (List.replicate 16 0))), .inr (.inl (.int, (List.replicate 16 0))), .inr (.inl (.int, (List.replicate 16 0))), .inr (.inl (.int, (List.replicate 16 0))), .inr (.inl (.int, (List.replicate 16 0))), .inr (.inl (.int, (List.replicate 16 0))), .inr (.inl (.int, (List.replicate 16 0))), .inr (.inl (.int, (List.replicate 16 0)))])) rfl ?_
  refine QTri.steps Ad W 1 (st' := (76, [some (.ref 0), some (.int x1), some (.int x2), none, none], [], [.inl [.ref 1, .ref 2, .ref 3, .ref 4, .ref 5, .ref 6, .ref 7, .ref 8, .ref 9, .null, .null, .null, .null, .null, .null, .null, .null, .null, .null, .null, .null, .null, .null, .null, .null, .null, .null, .null, .int (f_maxBlocks ob0), .int (f_maxSteps ob0), .int (f_n ob0), .int (f_arranged ob0), .int (f_outCount ob0), .int (f_steps ob0), .int (f_status ob0)], .inr (.inl (.int, (List.replicate 16 0))), .inr (.inl (.int, (List.replicate 16 0))), .inr (.inl (.int, (List.replicate 16 0))), .inr (.inl (.int, (List.replicate 16 0))), .inr (.inl (.int, (List.replicate 16 0))), .inr (.inl (.int, (List.replicate 16 0))), .inr (.inl (.int, (List.replicate 16 0))), .inr (.inl (.int, (List.replicate 16 0))), .inr (.inl (.int, (List.replicate 16 0)))])) rfl ?_
  refine QTri.steps Ad W 3 (st' := (81, [some (.ref 0), some (.int x1), some (.int x2), none, none], [.ref 10, .ref 0], [.inl [.ref 1, .ref 2, .ref 3, .ref 4, .ref 5, .ref 6, .ref 7, .ref 8, .ref 9, .null, .null, .null, .null, .null, .null, .null, .null, .null, .null, .null, .null, .null, .null, .null, .null, .null, .null, .null, .int (f_maxBlocks ob0), .int (f_maxSteps ob0), .int (f_n ob0), .int (f_arranged ob0), .int (f_outCount ob0), .int (f_steps ob0), .int (f_status ob0)], .inr (.inl (.int, (List.replicate 16 0))), .inr (.inl (.int, (List.replicate 16 0))), .inr (.inl (.int, (List.replicate 16 0))), .inr (.inl (.int, (List.replicate 16 0))), .inr (.inl (.int, (List.replicate 16 0))), .inr (.inl (.int, (List.replicate 16 0))), .inr (.inl (.int, (List.replicate 16 0))), .inr (.inl (.int, (List.replicate 16 0))), .inr (.inl (.int, (List.replicate 16 0))), .inr (.inl (.int, (List.replicate 16 0)))])) rfl ?_
  refine QTri.steps Ad W 1 (st' := (84, [some (.ref 0), some (.int x1), some (.int x2), none, none], [], [.inl [.ref 1, .ref 2, .ref 3, .ref 4, .ref 5, .ref 6, .ref 7, .ref 8, .ref 9, .ref 10, .null, .null, .null, .null, .null, .null, .null, .null, .null, .null, .null, .null, .null, .null, .null, .null, .null, .null, .int (f_maxBlocks ob0), .int (f_maxSteps ob0), .int (f_n ob0), .int (f_arranged ob0), .int (f_outCount ob0), .int (f_steps ob0), .int (f_status ob0)], .inr (.inl (.int, (List.replicate 16 0))), .inr (.inl (.int, (List.replicate 16 0))), .inr (.inl (.int, (List.replicate 16 0))), .inr (.inl (.int, (List.replicate 16 0))), .inr (.inl (.int, (List.replicate 16 0))), .inr (.inl (.int, (List.replicate 16 0))), .inr (.inl (.int, (List.replicate 16 0))), .inr (.inl (.int, (List.replicate 16 0))), .inr (.inl (.int, (List.replicate 16 0))), .inr (.inl (.int, (List.replicate 16 0)))])) rfl ?_
  refine QTri.steps Ad W 3 (st' := (88, [some (.ref 0), some (.int x1), some (.int x2), none, none], [.ref 11, .ref 0], [.inl [.ref 1, .ref 2, .ref 3, .ref 4, .ref 5, .ref 6, .ref 7, .ref 8, .ref 9, .ref 10, .null, .null, .null, .null, .null, .null, .null, .null, .null, .null, .null, .null, .null, .null, .null, .null, .null, .null, .int (f_maxBlocks ob0), .int (f_maxSteps ob0), .int (f_n ob0), .int (f_arranged ob0), .int (f_outCount ob0), .int (f_steps ob0), .int (f_status ob0)], .inr (.inl (.int, (List.replicate 16 0))), .inr (.inl (.int, (List.replicate 16 0))), .inr (.inl (.int, (List.replicate 16 0))), .inr (.inl (.int, (List.replicate 16 0))), .inr (.inl (.int, (List.replicate 16 0))), .inr (.inl (.int, (List.replicate 16 0))), .inr (.inl (.int, (List.replicate 16 0))), .inr (.inl (.int, (List.replicate 16 0))), .inr (.inl (.int, (List.replicate 16 0))), .inr (.inl (.int, (List.replicate 16 0))), .inr (.inl (.int, (List.replicate 4 0)))])) rfl ?_
  refine QTri.steps Ad W 1 (st' := (91, [some (.ref 0), some (.int x1), some (.int x2), none, none], [], [.inl [.ref 1, .ref 2, .ref 3, .ref 4, .ref 5, .ref 6, .ref 7, .ref 8, .ref 9, .ref 10, .ref 11, .null, .null, .null, .null, .null, .null, .null, .null, .null, .null, .null, .null, .null, .null, .null, .null, .null, .int (f_maxBlocks ob0), .int (f_maxSteps ob0), .int (f_n ob0), .int (f_arranged ob0), .int (f_outCount ob0), .int (f_steps ob0), .int (f_status ob0)], .inr (.inl (.int, (List.replicate 16 0))), .inr (.inl (.int, (List.replicate 16 0))), .inr (.inl (.int, (List.replicate 16 0))), .inr (.inl (.int, (List.replicate 16 0))), .inr (.inl (.int, (List.replicate 16 0))), .inr (.inl (.int, (List.replicate 16 0))), .inr (.inl (.int, (List.replicate 16 0))), .inr (.inl (.int, (List.replicate 16 0))), .inr (.inl (.int, (List.replicate 16 0))), .inr (.inl (.int, (List.replicate 16 0))), .inr (.inl (.int, (List.replicate 4 0)))])) rfl ?_
  refine QTri.steps Ad W 3 (st' := (96, [some (.ref 0), some (.int x1), some (.int x2), none, none], [.ref 12, .ref 0], [.inl [.ref 1, .ref 2, .ref 3, .ref 4, .ref 5, .ref 6, .ref 7, .ref 8, .ref 9, .ref 10, .ref 11, .null, .null, .null, .null, .null, .null, .null, .null, .null, .null, .null, .null, .null, .null, .null, .null, .null, .int (f_maxBlocks ob0), .int (f_maxSteps ob0), .int (f_n ob0), .int (f_arranged ob0), .int (f_outCount ob0), .int (f_steps ob0), .int (f_status ob0)], .inr (.inl (.int, (List.replicate 16 0))), .inr (.inl (.int, (List.replicate 16 0))), .inr (.inl (.int, (List.replicate 16 0))), .inr (.inl (.int, (List.replicate 16 0))), .inr (.inl (.int, (List.replicate 16 0))), .inr (.inl (.int, (List.replicate 16 0))), .inr (.inl (.int, (List.replicate 16 0))), .inr (.inl (.int, (List.replicate 16 0))), .inr (.inl (.int, (List.replicate 16 0))), .inr (.inl (.int, (List.replicate 16 0))), .inr (.inl (.int, (List.replicate 4 0))), .inr (.inl (.int, (List.replicate 16 0)))])) rfl ?_
  refine QTri.steps Ad W 1 (st' := (99, [some (.ref 0), some (.int x1), some (.int x2), none, none], [], [.inl [.ref 1, .ref 2, .ref 3, .ref 4, .ref 5, .ref 6, .ref 7, .ref 8, .ref 9, .ref 10, .ref 11, .ref 12, .null, .null, .null, .null, .null, .null, .null, .null, .null, .null, .null, .null, .null, .null, .null, .null, .int (f_maxBlocks ob0), .int (f_maxSteps ob0), .int (f_n ob0), .int (f_arranged ob0), .int (f_outCount ob0), .int (f_steps ob0), .int (f_status ob0)], .inr (.inl (.int, (List.replicate 16 0))), .inr (.inl (.int, (List.replicate 16 0))), .inr (.inl (.int, (List.replicate 16 0))), .inr (.inl (.int, (List.replicate 16 0))), .inr (.inl (.int, (List.replicate 16 0))), .inr (.inl (.int, (List.replicate 16 0))), .inr (.inl (.int, (List.replicate 16 0))), .inr (.inl (.int, (List.replicate 16 0))), .inr (.inl (.int, (List.replicate 16 0))), .inr (.inl (.int, (List.replicate 16 0))), .inr (.inl (.int, (List.replicate 4 0))), .inr (.inl (.int, (List.replicate 16 0)))])) rfl ?_
  refine QTri.steps Ad W 3 (st' := (104, [some (.ref 0), some (.int x1), some (.int x2), none, none], [.ref 13, .ref 0], [.inl [.ref 1, .ref 2, .ref 3, .ref 4, .ref 5, .ref 6, .ref 7, .ref 8, .ref 9, .ref 10, .ref 11, .ref 12, .null, .null, .null, .null, .null, .null, .null, .null, .null, .null, .null, .null, .null, .null, .null, .null, .int (f_maxBlocks ob0), .int (f_maxSteps ob0), .int (f_n ob0), .int (f_arranged ob0), .int (f_outCount ob0), .int (f_steps ob0), .int (f_status ob0)], .inr (.inl (.int, (List.replicate 16 0))), .inr (.inl (.int, (List.replicate 16 0))), .inr (.inl (.int, (List.replicate 16 0))), .inr (.inl (.int, (List.replicate 16 0))), .inr (.inl (.int, (List.replicate 16 0))), .inr (.inl (.int, (List.replicate 16 0))), .inr (.inl (.int, (List.replicate 16 0))), .inr (.inl (.int, (List.replicate 16 0))), .inr (.inl (.int, (List.replicate 16 0))), .inr (.inl (.int, (List.replicate 16 0))), .inr (.inl (.int, (List.replicate 4 0))), .inr (.inl (.int, (List.replicate 16 0))), .inr (.inl (.int, (List.replicate 32 0)))])) rfl ?_
  refine QTri.steps Ad W 1 (st' := (107, [some (.ref 0), some (.int x1), some (.int x2), none, none], [], [.inl [.ref 1, .ref 2, .ref 3, .ref 4, .ref 5, .ref 6, .ref 7, .ref 8, .ref 9, .ref 10, .ref 11, .ref 12, .ref 13, .null, .null, .null, .null, .null, .null, .null, .null, .null, .null, .null, .null, .null, .null, .null, .int (f_maxBlocks ob0), .int (f_maxSteps ob0), .int (f_n ob0), .int (f_arranged ob0), .int (f_outCount ob0), .int (f_steps ob0), .int (f_status ob0)], .inr (.inl (.int, (List.replicate 16 0))), .inr (.inl (.int, (List.replicate 16 0))), .inr (.inl (.int, (List.replicate 16 0))), .inr (.inl (.int, (List.replicate 16 0))), .inr (.inl (.int, (List.replicate 16 0))), .inr (.inl (.int, (List.replicate 16 0))), .inr (.inl (.int, (List.replicate 16 0))), .inr (.inl (.int, (List.replicate 16 0))), .inr (.inl (.int, (List.replicate 16 0))), .inr (.inl (.int, (List.replicate 16 0))), .inr (.inl (.int, (List.replicate 4 0))), .inr (.inl (.int, (List.replicate 16 0))), .inr (.inl (.int, (List.replicate 32 0)))])) rfl ?_
  refine QTri.steps Ad W 3 (st' := (112, [some (.ref 0), some (.int x1), some (.int x2), none, none], [.ref 14, .ref 0], [.inl [.ref 1, .ref 2, .ref 3, .ref 4, .ref 5, .ref 6, .ref 7, .ref 8, .ref 9, .ref 10, .ref 11, .ref 12, .ref 13, .null, .null, .null, .null, .null, .null, .null, .null, .null, .null, .null, .null, .null, .null, .null, .int (f_maxBlocks ob0), .int (f_maxSteps ob0), .int (f_n ob0), .int (f_arranged ob0), .int (f_outCount ob0), .int (f_steps ob0), .int (f_status ob0)], .inr (.inl (.int, (List.replicate 16 0))), .inr (.inl (.int, (List.replicate 16 0))), .inr (.inl (.int, (List.replicate 16 0))), .inr (.inl (.int, (List.replicate 16 0))), .inr (.inl (.int, (List.replicate 16 0))), .inr (.inl (.int, (List.replicate 16 0))), .inr (.inl (.int, (List.replicate 16 0))), .inr (.inl (.int, (List.replicate 16 0))), .inr (.inl (.int, (List.replicate 16 0))), .inr (.inl (.int, (List.replicate 16 0))), .inr (.inl (.int, (List.replicate 4 0))), .inr (.inl (.int, (List.replicate 16 0))), .inr (.inl (.int, (List.replicate 32 0))), .inr (.inl (.int, (List.replicate 32 0)))])) rfl ?_
  refine QTri.steps Ad W 1 (st' := (115, [some (.ref 0), some (.int x1), some (.int x2), none, none], [], [.inl [.ref 1, .ref 2, .ref 3, .ref 4, .ref 5, .ref 6, .ref 7, .ref 8, .ref 9, .ref 10, .ref 11, .ref 12, .ref 13, .ref 14, .null, .null, .null, .null, .null, .null, .null, .null, .null, .null, .null, .null, .null, .null, .int (f_maxBlocks ob0), .int (f_maxSteps ob0), .int (f_n ob0), .int (f_arranged ob0), .int (f_outCount ob0), .int (f_steps ob0), .int (f_status ob0)], .inr (.inl (.int, (List.replicate 16 0))), .inr (.inl (.int, (List.replicate 16 0))), .inr (.inl (.int, (List.replicate 16 0))), .inr (.inl (.int, (List.replicate 16 0))), .inr (.inl (.int, (List.replicate 16 0))), .inr (.inl (.int, (List.replicate 16 0))), .inr (.inl (.int, (List.replicate 16 0))), .inr (.inl (.int, (List.replicate 16 0))), .inr (.inl (.int, (List.replicate 16 0))), .inr (.inl (.int, (List.replicate 16 0))), .inr (.inl (.int, (List.replicate 4 0))), .inr (.inl (.int, (List.replicate 16 0))), .inr (.inl (.int, (List.replicate 32 0))), .inr (.inl (.int, (List.replicate 32 0)))])) rfl ?_
  refine QTri.steps Ad W 3 (st' := (120, [some (.ref 0), some (.int x1), some (.int x2), none, none], [.ref 15, .ref 0], [.inl [.ref 1, .ref 2, .ref 3, .ref 4, .ref 5, .ref 6, .ref 7, .ref 8, .ref 9, .ref 10, .ref 11, .ref 12, .ref 13, .ref 14, .null, .null, .null, .null, .null, .null, .null, .null, .null, .null, .null, .null, .null, .null, .int (f_maxBlocks ob0), .int (f_maxSteps ob0), .int (f_n ob0), .int (f_arranged ob0), .int (f_outCount ob0), .int (f_steps ob0), .int (f_status ob0)], .inr (.inl (.int, (List.replicate 16 0))), .inr (.inl (.int, (List.replicate 16 0))), .inr (.inl (.int, (List.replicate 16 0))), .inr (.inl (.int, (List.replicate 16 0))), .inr (.inl (.int, (List.replicate 16 0))), .inr (.inl (.int, (List.replicate 16 0))), .inr (.inl (.int, (List.replicate 16 0))), .inr (.inl (.int, (List.replicate 16 0))), .inr (.inl (.int, (List.replicate 16 0))), .inr (.inl (.int, (List.replicate 16 0))), .inr (.inl (.int, (List.replicate 4 0))), .inr (.inl (.int, (List.replicate 16 0))), .inr (.inl (.int, (List.replicate 32 0))), .inr (.inl (.int, (List.replicate 32 0))), .inr (.inl (.int, (List.replicate 16 0)))])) rfl ?_
  refine QTri.steps Ad W 1 (st' := (123, [some (.ref 0), some (.int x1), some (.int x2), none, none], [], [.inl [.ref 1, .ref 2, .ref 3, .ref 4, .ref 5, .ref 6, .ref 7, .ref 8, .ref 9, .ref 10, .ref 11, .ref 12, .ref 13, .ref 14, .ref 15, .null, .null, .null, .null, .null, .null, .null, .null, .null, .null, .null, .null, .null, .int (f_maxBlocks ob0), .int (f_maxSteps ob0), .int (f_n ob0), .int (f_arranged ob0), .int (f_outCount ob0), .int (f_steps ob0), .int (f_status ob0)], .inr (.inl (.int, (List.replicate 16 0))), .inr (.inl (.int, (List.replicate 16 0))), .inr (.inl (.int, (List.replicate 16 0))), .inr (.inl (.int, (List.replicate 16 0))), .inr (.inl (.int, (List.replicate 16 0))), .inr (.inl (.int, (List.replicate 16 0))), .inr (.inl (.int, (List.replicate 16 0))), .inr (.inl (.int, (List.replicate 16 0))), .inr (.inl (.int, (List.replicate 16 0))), .inr (.inl (.int, (List.replicate 16 0))), .inr (.inl (.int, (List.replicate 4 0))), .inr (.inl (.int, (List.replicate 16 0))), .inr (.inl (.int, (List.replicate 32 0))), .inr (.inl (.int, (List.replicate 32 0))), .inr (.inl (.int, (List.replicate 16 0)))])) rfl ?_
  refine QTri.steps Ad W 3 (st' := (128, [some (.ref 0), some (.int x1), some (.int x2), none, none], [.ref 16, .ref 0], [.inl [.ref 1, .ref 2, .ref 3, .ref 4, .ref 5, .ref 6, .ref 7, .ref 8, .ref 9, .ref 10, .ref 11, .ref 12, .ref 13, .ref 14, .ref 15, .null, .null, .null, .null, .null, .null, .null, .null, .null, .null, .null, .null, .null, .int (f_maxBlocks ob0), .int (f_maxSteps ob0), .int (f_n ob0), .int (f_arranged ob0), .int (f_outCount ob0), .int (f_steps ob0), .int (f_status ob0)], .inr (.inl (.int, (List.replicate 16 0))), .inr (.inl (.int, (List.replicate 16 0))), .inr (.inl (.int, (List.replicate 16 0))), .inr (.inl (.int, (List.replicate 16 0))), .inr (.inl (.int, (List.replicate 16 0))), .inr (.inl (.int, (List.replicate 16 0))), .inr (.inl (.int, (List.replicate 16 0))), .inr (.inl (.int, (List.replicate 16 0))), .inr (.inl (.int, (List.replicate 16 0))), .inr (.inl (.int, (List.replicate 16 0))), .inr (.inl (.int, (List.replicate 4 0))), .inr (.inl (.int, (List.replicate 16 0))), .inr (.inl (.int, (List.replicate 32 0))), .inr (.inl (.int, (List.replicate 32 0))), .inr (.inl (.int, (List.replicate 16 0))), .inr (.inl (.int, (List.replicate 16 0)))])) rfl ?_
  refine QTri.steps Ad W 1 (st' := (131, [some (.ref 0), some (.int x1), some (.int x2), none, none], [], [.inl [.ref 1, .ref 2, .ref 3, .ref 4, .ref 5, .ref 6, .ref 7, .ref 8, .ref 9, .ref 10, .ref 11, .ref 12, .ref 13, .ref 14, .ref 15, .ref 16, .null, .null, .null, .null, .null, .null, .null, .null, .null, .null, .null, .null, .int (f_maxBlocks ob0), .int (f_maxSteps ob0), .int (f_n ob0), .int (f_arranged ob0), .int (f_outCount ob0), .int (f_steps ob0), .int (f_status ob0)], .inr (.inl (.int, (List.replicate 16 0))), .inr (.inl (.int, (List.replicate 16 0))), .inr (.inl (.int, (List.replicate 16 0))), .inr (.inl (.int, (List.replicate 16 0))), .inr (.inl (.int, (List.replicate 16 0))), .inr (.inl (.int, (List.replicate 16 0))), .inr (.inl (.int, (List.replicate 16 0))), .inr (.inl (.int, (List.replicate 16 0))), .inr (.inl (.int, (List.replicate 16 0))), .inr (.inl (.int, (List.replicate 16 0))), .inr (.inl (.int, (List.replicate 4 0))), .inr (.inl (.int, (List.replicate 16 0))), .inr (.inl (.int, (List.replicate 32 0))), .inr (.inl (.int, (List.replicate 32 0))), .inr (.inl (.int, (List.replicate 16 0))), .inr (.inl (.int, (List.replicate 16 0)))])) rfl ?_
  refine QTri.steps Ad W 3 (st' := (136, [some (.ref 0), some (.int x1), some (.int x2), none, none], [.ref 17, .ref 0], [.inl [.ref 1, .ref 2, .ref 3, .ref 4, .ref 5, .ref 6, .ref 7, .ref 8, .ref 9, .ref 10, .ref 11, .ref 12, .ref 13, .ref 14, .ref 15, .ref 16, .null, .null, .null, .null, .null, .null, .null, .null, .null, .null, .null, .null, .int (f_maxBlocks ob0), .int (f_maxSteps ob0), .int (f_n ob0), .int (f_arranged ob0), .int (f_outCount ob0), .int (f_steps ob0), .int (f_status ob0)], .inr (.inl (.int, (List.replicate 16 0))), .inr (.inl (.int, (List.replicate 16 0))), .inr (.inl (.int, (List.replicate 16 0))), .inr (.inl (.int, (List.replicate 16 0))), .inr (.inl (.int, (List.replicate 16 0))), .inr (.inl (.int, (List.replicate 16 0))), .inr (.inl (.int, (List.replicate 16 0))), .inr (.inl (.int, (List.replicate 16 0))), .inr (.inl (.int, (List.replicate 16 0))), .inr (.inl (.int, (List.replicate 16 0))), .inr (.inl (.int, (List.replicate 4 0))), .inr (.inl (.int, (List.replicate 16 0))), .inr (.inl (.int, (List.replicate 32 0))), .inr (.inl (.int, (List.replicate 32 0))), .inr (.inl (.int, (List.replicate 16 0))), .inr (.inl (.int, (List.replicate 16 0))), .inr (.inl (.int, (List.replicate 16 0)))])) rfl ?_
  refine QTri.steps Ad W 1 (st' := (139, [some (.ref 0), some (.int x1), some (.int x2), none, none], [], [.inl [.ref 1, .ref 2, .ref 3, .ref 4, .ref 5, .ref 6, .ref 7, .ref 8, .ref 9, .ref 10, .ref 11, .ref 12, .ref 13, .ref 14, .ref 15, .ref 16, .ref 17, .null, .null, .null, .null, .null, .null, .null, .null, .null, .null, .null, .int (f_maxBlocks ob0), .int (f_maxSteps ob0), .int (f_n ob0), .int (f_arranged ob0), .int (f_outCount ob0), .int (f_steps ob0), .int (f_status ob0)], .inr (.inl (.int, (List.replicate 16 0))), .inr (.inl (.int, (List.replicate 16 0))), .inr (.inl (.int, (List.replicate 16 0))), .inr (.inl (.int, (List.replicate 16 0))), .inr (.inl (.int, (List.replicate 16 0))), .inr (.inl (.int, (List.replicate 16 0))), .inr (.inl (.int, (List.replicate 16 0))), .inr (.inl (.int, (List.replicate 16 0))), .inr (.inl (.int, (List.replicate 16 0))), .inr (.inl (.int, (List.replicate 16 0))), .inr (.inl (.int, (List.replicate 4 0))), .inr (.inl (.int, (List.replicate 16 0))), .inr (.inl (.int, (List.replicate 32 0))), .inr (.inl (.int, (List.replicate 32 0))), .inr (.inl (.int, (List.replicate 16 0))), .inr (.inl (.int, (List.replicate 16 0))), .inr (.inl (.int, (List.replicate 16 0)))])) rfl ?_
  refine QTri.steps Ad W 3 (st' := (144, [some (.ref 0), some (.int x1), some (.int x2), none, none], [.ref 18, .ref 0], [.inl [.ref 1, .ref 2, .ref 3, .ref 4, .ref 5, .ref 6, .ref 7, .ref 8, .ref 9, .ref 10, .ref 11, .ref 12, .ref 13, .ref 14, .ref 15, .ref 16, .ref 17, .null, .null, .null, .null, .null, .null, .null, .null, .null, .null, .null, .int (f_maxBlocks ob0), .int (f_maxSteps ob0), .int (f_n ob0), .int (f_arranged ob0), .int (f_outCount ob0), .int (f_steps ob0), .int (f_status ob0)], .inr (.inl (.int, (List.replicate 16 0))), .inr (.inl (.int, (List.replicate 16 0))), .inr (.inl (.int, (List.replicate 16 0))), .inr (.inl (.int, (List.replicate 16 0))), .inr (.inl (.int, (List.replicate 16 0))), .inr (.inl (.int, (List.replicate 16 0))), .inr (.inl (.int, (List.replicate 16 0))), .inr (.inl (.int, (List.replicate 16 0))), .inr (.inl (.int, (List.replicate 16 0))), .inr (.inl (.int, (List.replicate 16 0))), .inr (.inl (.int, (List.replicate 4 0))), .inr (.inl (.int, (List.replicate 16 0))), .inr (.inl (.int, (List.replicate 32 0))), .inr (.inl (.int, (List.replicate 32 0))), .inr (.inl (.int, (List.replicate 16 0))), .inr (.inl (.int, (List.replicate 16 0))), .inr (.inl (.int, (List.replicate 16 0))), .inr (.inl (.int, (List.replicate 16 0)))])) rfl ?_
  refine QTri.steps Ad W 1 (st' := (147, [some (.ref 0), some (.int x1), some (.int x2), none, none], [], [.inl [.ref 1, .ref 2, .ref 3, .ref 4, .ref 5, .ref 6, .ref 7, .ref 8, .ref 9, .ref 10, .ref 11, .ref 12, .ref 13, .ref 14, .ref 15, .ref 16, .ref 17, .ref 18, .null, .null, .null, .null, .null, .null, .null, .null, .null, .null, .int (f_maxBlocks ob0), .int (f_maxSteps ob0), .int (f_n ob0), .int (f_arranged ob0), .int (f_outCount ob0), .int (f_steps ob0), .int (f_status ob0)], .inr (.inl (.int, (List.replicate 16 0))), .inr (.inl (.int, (List.replicate 16 0))), .inr (.inl (.int, (List.replicate 16 0))), .inr (.inl (.int, (List.replicate 16 0))), .inr (.inl (.int, (List.replicate 16 0))), .inr (.inl (.int, (List.replicate 16 0))), .inr (.inl (.int, (List.replicate 16 0))), .inr (.inl (.int, (List.replicate 16 0))), .inr (.inl (.int, (List.replicate 16 0))), .inr (.inl (.int, (List.replicate 16 0))), .inr (.inl (.int, (List.replicate 4 0))), .inr (.inl (.int, (List.replicate 16 0))), .inr (.inl (.int, (List.replicate 32 0))), .inr (.inl (.int, (List.replicate 32 0))), .inr (.inl (.int, (List.replicate 16 0))), .inr (.inl (.int, (List.replicate 16 0))), .inr (.inl (.int, (List.replicate 16 0))), .inr (.inl (.int, (List.replicate 16 0)))])) rfl ?_
  refine QTri.steps Ad W 3 (st' := (152, [some (.ref 0), some (.int x1), some (.int x2), none, none], [.ref 19, .ref 0], [.inl [.ref 1, .ref 2, .ref 3, .ref 4, .ref 5, .ref 6, .ref 7, .ref 8, .ref 9, .ref 10, .ref 11, .ref 12, .ref 13, .ref 14, .ref 15, .ref 16, .ref 17, .ref 18, .null, .null, .null, .null, .null, .null, .null, .null, .null, .null, .int (f_maxBlocks ob0), .int (f_maxSteps ob0), .int (f_n ob0), .int (f_arranged ob0), .int (f_outCount ob0), .int (f_steps ob0), .int (f_status ob0)], .inr (.inl (.int, (List.replicate 16 0))), .inr (.inl (.int, (List.replicate 16 0))), .inr (.inl (.int, (List.replicate 16 0))), .inr (.inl (.int, (List.replicate 16 0))), .inr (.inl (.int, (List.replicate 16 0))), .inr (.inl (.int, (List.replicate 16 0))), .inr (.inl (.int, (List.replicate 16 0))), .inr (.inl (.int, (List.replicate 16 0))), .inr (.inl (.int, (List.replicate 16 0))), .inr (.inl (.int, (List.replicate 16 0))), .inr (.inl (.int, (List.replicate 4 0))), .inr (.inl (.int, (List.replicate 16 0))), .inr (.inl (.int, (List.replicate 32 0))), .inr (.inl (.int, (List.replicate 32 0))), .inr (.inl (.int, (List.replicate 16 0))), .inr (.inl (.int, (List.replicate 16 0))), .inr (.inl (.int, (List.replicate 16 0))), .inr (.inl (.int, (List.replicate 16 0))), .inr (.inl (.int, (List.replicate 16 0)))])) rfl ?_
  refine QTri.steps Ad W 1 (st' := (155, [some (.ref 0), some (.int x1), some (.int x2), none, none], [], [.inl [.ref 1, .ref 2, .ref 3, .ref 4, .ref 5, .ref 6, .ref 7, .ref 8, .ref 9, .ref 10, .ref 11, .ref 12, .ref 13, .ref 14, .ref 15, .ref 16, .ref 17, .ref 18, .ref 19, .null, .null, .null, .null, .null, .null, .null, .null, .null, .int (f_maxBlocks ob0), .int (f_maxSteps ob0), .int (f_n ob0), .int (f_arranged ob0), .int (f_outCount ob0), .int (f_steps ob0), .int (f_status ob0)], .inr (.inl (.int, (List.replicate 16 0))), .inr (.inl (.int, (List.replicate 16 0))), .inr (.inl (.int, (List.replicate 16 0))), .inr (.inl (.int, (List.replicate 16 0))), .inr (.inl (.int, (List.replicate 16 0))), .inr (.inl (.int, (List.replicate 16 0))), .inr (.inl (.int, (List.replicate 16 0))), .inr (.inl (.int, (List.replicate 16 0))), .inr (.inl (.int, (List.replicate 16 0))), .inr (.inl (.int, (List.replicate 16 0))), .inr (.inl (.int, (List.replicate 4 0))), .inr (.inl (.int, (List.replicate 16 0))), .inr (.inl (.int, (List.replicate 32 0))), .inr (.inl (.int, (List.replicate 32 0))), .inr (.inl (.int, (List.replicate 16 0))), .inr (.inl (.int, (List.replicate 16 0))), .inr (.inl (.int, (List.replicate 16 0))), .inr (.inl (.int, (List.replicate 16 0))), .inr (.inl (.int, (List.replicate 16 0)))])) rfl ?_
  refine QTri.steps Ad W 3 (st' := (160, [some (.ref 0), some (.int x1), some (.int x2), none, none], [.ref 20, .ref 0], [.inl [.ref 1, .ref 2, .ref 3, .ref 4, .ref 5, .ref 6, .ref 7, .ref 8, .ref 9, .ref 10, .ref 11, .ref 12, .ref 13, .ref 14, .ref 15, .ref 16, .ref 17, .ref 18, .ref 19, .null, .null, .null, .null, .null, .null, .null, .null, .null, .int (f_maxBlocks ob0), .int (f_maxSteps ob0), .int (f_n ob0), .int (f_arranged ob0), .int (f_outCount ob0), .int (f_steps ob0), .int (f_status ob0)], .inr (.inl (.int, (List.replicate 16 0))), .inr (.inl (.int, (List.replicate 16 0))), .inr (.inl (.int, (List.replicate 16 0))), .inr (.inl (.int, (List.replicate 16 0))), .inr (.inl (.int, (List.replicate 16 0))), .inr (.inl (.int, (List.replicate 16 0))), .inr (.inl (.int, (List.replicate 16 0))), .inr (.inl (.int, (List.replicate 16 0))), .inr (.inl (.int, (List.replicate 16 0))), .inr (.inl (.int, (List.replicate 16 0))), .inr (.inl (.int, (List.replicate 4 0))), .inr (.inl (.int, (List.replicate 16 0))), .inr (.inl (.int, (List.replicate 32 0))), .inr (.inl (.int, (List.replicate 32 0))), .inr (.inl (.int, (List.replicate 16 0))), .inr (.inl (.int, (List.replicate 16 0))), .inr (.inl (.int, (List.replicate 16 0))), .inr (.inl (.int, (List.replicate 16 0))), .inr (.inl (.int, (List.replicate 16 0))), .inr (.inl (.int, (List.replicate 16 0)))])) rfl ?_
  refine QTri.steps Ad W 1 (st' := (163, [some (.ref 0), some (.int x1), some (.int x2), none, none], [], [.inl [.ref 1, .ref 2, .ref 3, .ref 4, .ref 5, .ref 6, .ref 7, .ref 8, .ref 9, .ref 10, .ref 11, .ref 12, .ref 13, .ref 14, .ref 15, .ref 16, .ref 17, .ref 18, .ref 19, .ref 20, .null, .null, .null, .null, .null, .null, .null, .null, .int (f_maxBlocks ob0), .int (f_maxSteps ob0), .int (f_n ob0), .int (f_arranged ob0), .int (f_outCount ob0), .int (f_steps ob0), .int (f_status ob0)], .inr (.inl (.int, (List.replicate 16 0))), .inr (.inl (.int, (List.replicate 16 0))), .inr (.inl (.int, (List.replicate 16 0))), .inr (.inl (.int, (List.replicate 16 0))), .inr (.inl (.int, (List.replicate 16 0))), .inr (.inl (.int, (List.replicate 16 0))), .inr (.inl (.int, (List.replicate 16 0))), .inr (.inl (.int, (List.replicate 16 0))), .inr (.inl (.int, (List.replicate 16 0))), .inr (.inl (.int, (List.replicate 16 0))), .inr (.inl (.int, (List.replicate 4 0))), .inr (.inl (.int, (List.replicate 16 0))), .inr (.inl (.int, (List.replicate 32 0))), .inr (.inl (.int, (List.replicate 32 0))), .inr (.inl (.int, (List.replicate 16 0))), .inr (.inl (.int, (List.replicate 16 0))), .inr (.inl (.int, (List.replicate 16 0))), .inr (.inl (.int, (List.replicate 16 0))), .inr (.inl (.int, (List.replicate 16 0))), .inr (.inl (.int, (List.replicate 16 0)))])) rfl ?_
  refine QTri.steps Ad W 3 (st' := (168, [some (.ref 0), some (.int x1), some (.int x2), none, none], [.ref 21, .ref 0], [.inl [.ref 1, .ref 2, .ref 3, .ref 4, .ref 5, .ref 6, .ref 7, .ref 8, .ref 9, .ref 10, .ref 11, .ref 12, .ref 13, .ref 14, .ref 15, .ref 16, .ref 17, .ref 18, .ref 19, .ref 20, .null, .null, .null, .null, .null, .null, .null, .null, .int (f_maxBlocks ob0), .int (f_maxSteps ob0), .int (f_n ob0), .int (f_arranged ob0), .int (f_outCount ob0), .int (f_steps ob0), .int (f_status ob0)], .inr (.inl (.int, (List.replicate 16 0))), .inr (.inl (.int, (List.replicate 16 0))), .inr (.inl (.int, (List.replicate 16 0))), .inr (.inl (.int, (List.replicate 16 0))), .inr (.inl (.int, (List.replicate 16 0))), .inr (.inl (.int, (List.replicate 16 0))), .inr (.inl (.int, (List.replicate 16 0))), .inr (.inl (.int, (List.replicate 16 0))), .inr (.inl (.int, (List.replicate 16 0))), .inr (.inl (.int, (List.replicate 16 0))), .inr (.inl (.int, (List.replicate 4 0))), .inr (.inl (.int, (List.replicate 16 0))), .inr (.inl (.int, (List.replicate 32 0))), .inr (.inl (.int, (List.replicate 32 0))), .inr (.inl (.int, (List.replicate 16 0))), .inr (.inl (.int, (List.replicate 16 0))), .inr (.inl (.int, (List.replicate 16 0))), .inr (.inl (.int, (List.replicate 16 0))), .inr (.inl (.int, (List.replicate 16 0))), .inr (.inl (.int, (List.replicate 16 0))), .inr (.inl (.int, (List.replicate 16 0)))])) rfl ?_
  refine QTri.steps Ad W 1 (st' := (171, [some (.ref 0), some (.int x1), some (.int x2), none, none], [], [.inl [.ref 1, .ref 2, .ref 3, .ref 4, .ref 5, .ref 6, .ref 7, .ref 8, .ref 9, .ref 10, .ref 11, .ref 12, .ref 13, .ref 14, .ref 15, .ref 16, .ref 17, .ref 18, .ref 19, .ref 20, .ref 21, .null, .null, .null, .null, .null, .null, .null, .int (f_maxBlocks ob0), .int (f_maxSteps ob0), .int (f_n ob0), .int (f_arranged ob0), .int (f_outCount ob0), .int (f_steps ob0), .int (f_status ob0)], .inr (.inl (.int, (List.replicate 16 0))), .inr (.inl (.int, (List.replicate 16 0))), .inr (.inl (.int, (List.replicate 16 0))), .inr (.inl (.int, (List.replicate 16 0))), .inr (.inl (.int, (List.replicate 16 0))), .inr (.inl (.int, (List.replicate 16 0))), .inr (.inl (.int, (List.replicate 16 0))), .inr (.inl (.int, (List.replicate 16 0))), .inr (.inl (.int, (List.replicate 16 0))), .inr (.inl (.int, (List.replicate 16 0))), .inr (.inl (.int, (List.replicate 4 0))), .inr (.inl (.int, (List.replicate 16 0))), .inr (.inl (.int, (List.replicate 32 0))), .inr (.inl (.int, (List.replicate 32 0))), .inr (.inl (.int, (List.replicate 16 0))), .inr (.inl (.int, (List.replicate 16 0))), .inr (.inl (.int, (List.replicate 16 0))), .inr (.inl (.int, (List.replicate 16 0))), .inr (.inl (.int, (List.replicate 16 0))), .inr (.inl (.int, (List.replicate 16 0))), .inr (.inl (.int, (List.replicate 16 0)))])) rfl ?_
  refine QTri.steps Ad W 3 (st' := (176, [some (.ref 0), some (.int x1), some (.int x2), none, none], [.ref 22, .ref 0], [.inl [.ref 1, .ref 2, .ref 3, .ref 4, .ref 5, .ref 6, .ref 7, .ref 8, .ref 9, .ref 10, .ref 11, .ref 12, .ref 13, .ref 14, .ref 15, .ref 16, .ref 17, .ref 18, .ref 19, .ref 20, .ref 21, .null, .null, .null, .null, .null, .null, .null, .int (f_maxBlocks ob0), .int (f_maxSteps ob0), .int (f_n ob0), .int (f_arranged ob0), .int (f_outCount ob0), .int (f_steps ob0), .int (f_status ob0)], .inr (.inl (.int, (List.replicate 16 0))), .inr (.inl (.int, (List.replicate 16 0))), .inr (.inl (.int, (List.replicate 16 0))), .inr (.inl (.int, (List.replicate 16 0))), .inr (.inl (.int, (List.replicate 16 0))), .inr (.inl (.int, (List.replicate 16 0))), .inr (.inl (.int, (List.replicate 16 0))), .inr (.inl (.int, (List.replicate 16 0))), .inr (.inl (.int, (List.replicate 16 0))), .inr (.inl (.int, (List.replicate 16 0))), .inr (.inl (.int, (List.replicate 4 0))), .inr (.inl (.int, (List.replicate 16 0))), .inr (.inl (.int, (List.replicate 32 0))), .inr (.inl (.int, (List.replicate 32 0))), .inr (.inl (.int, (List.replicate 16 0))), .inr (.inl (.int, (List.replicate 16 0))), .inr (.inl (.int, (List.replicate 16 0))), .inr (.inl (.int, (List.replicate 16 0))), .inr (.inl (.int, (List.replicate 16 0))), .inr (.inl (.int, (List.replicate 16 0))), .inr (.inl (.int, (List.replicate 16 0))), .inr (.inl (.int, (List.replicate 16 0)))])) rfl ?_
  refine QTri.steps Ad W 1 (st' := (179, [some (.ref 0), some (.int x1), some (.int x2), none, none], [], [.inl [.ref 1, .ref 2, .ref 3, .ref 4, .ref 5, .ref 6, .ref 7, .ref 8, .ref 9, .ref 10, .ref 11, .ref 12, .ref 13, .ref 14, .ref 15, .ref 16, .ref 17, .ref 18, .ref 19, .ref 20, .ref 21, .ref 22, .null, .null, .null, .null, .null, .null, .int (f_maxBlocks ob0), .int (f_maxSteps ob0), .int (f_n ob0), .int (f_arranged ob0), .int (f_outCount ob0), .int (f_steps ob0), .int (f_status ob0)], .inr (.inl (.int, (List.replicate 16 0))), .inr (.inl (.int, (List.replicate 16 0))), .inr (.inl (.int, (List.replicate 16 0))), .inr (.inl (.int, (List.replicate 16 0))), .inr (.inl (.int, (List.replicate 16 0))), .inr (.inl (.int, (List.replicate 16 0))), .inr (.inl (.int, (List.replicate 16 0))), .inr (.inl (.int, (List.replicate 16 0))), .inr (.inl (.int, (List.replicate 16 0))), .inr (.inl (.int, (List.replicate 16 0))), .inr (.inl (.int, (List.replicate 4 0))), .inr (.inl (.int, (List.replicate 16 0))), .inr (.inl (.int, (List.replicate 32 0))), .inr (.inl (.int, (List.replicate 32 0))), .inr (.inl (.int, (List.replicate 16 0))), .inr (.inl (.int, (List.replicate 16 0))), .inr (.inl (.int, (List.replicate 16 0))), .inr (.inl (.int, (List.replicate 16 0))), .inr (.inl (.int, (List.replicate 16 0))), .inr (.inl (.int, (List.replicate 16 0))), .inr (.inl (.int, (List.replicate 16 0))), .inr (.inl (.int, (List.replicate 16 0)))])) rfl ?_
  refine QTri.steps Ad W 3 (st' := (184, [some (.ref 0), some (.int x1), some (.int x2), none, none], [.ref 23, .ref 0], [.inl [.ref 1, .ref 2, .ref 3, .ref 4, .ref 5, .ref 6, .ref 7, .ref 8, .ref 9, .ref 10, .ref 11, .ref 12, .ref 13, .ref 14, .ref 15, .ref 16, .ref 17, .ref 18, .ref 19, .ref 20, .ref 21, .ref 22, .null, .null, .null, .null, .null, .null, .int (f_maxBlocks ob0), .int (f_maxSteps ob0), .int (f_n ob0), .int (f_arranged ob0), .int (f_outCount ob0), .int (f_steps ob0), .int (f_status ob0)], .inr (.inl (.int, (List.replicate 16 0))), .inr (.inl (.int, (List.replicate 16 0))), .inr (.inl (.int, (List.replicate 16 0))), .inr (.inl (.int, (List.replicate 16 0))), .inr (.inl (.int, (List.replicate 16 0))), .inr (.inl (.int, (List.replicate 16 0))), .inr (.inl (.int, (List.replicate 16 0))), .inr (.inl (.int, (List.replicate 16 0))), .inr (.inl (.int, (List.replicate 16 0))), .inr (.inl (.int, (List.replicate 16 0))), .inr (.inl (.int, (List.replicate 4 0))), .inr (.inl (.int, (List.replicate 16 0))), .inr (.inl (.int, (List.replicate 32 0))), .inr (.inl (.int, (List.replicate 32 0))), .inr (.inl (.int, (List.replicate 16 0))), .inr (.inl (.int, (List.replicate 16 0))), .inr (.inl (.int, (List.replicate 16 0))), .inr (.inl (.int, (List.replicate 16 0))), .inr (.inl (.int, (List.replicate 16 0))), .inr (.inl (.int, (List.replicate 16 0))), .inr (.inl (.int, (List.replicate 16 0))), .inr (.inl (.int, (List.replicate 16 0))), .inr (.inl (.int, (List.replicate 16 0)))])) rfl ?_
  refine QTri.steps Ad W 1 (st' := (187, [some (.ref 0), some (.int x1), some (.int x2), none, none], [], [.inl [.ref 1, .ref 2, .ref 3, .ref 4, .ref 5, .ref 6, .ref 7, .ref 8, .ref 9, .ref 10, .ref 11, .ref 12, .ref 13, .ref 14, .ref 15, .ref 16, .ref 17, .ref 18, .ref 19, .ref 20, .ref 21, .ref 22, .ref 23, .null, .null, .null, .null, .null, .int (f_maxBlocks ob0), .int (f_maxSteps ob0), .int (f_n ob0), .int (f_arranged ob0), .int (f_outCount ob0), .int (f_steps ob0), .int (f_status ob0)], .inr (.inl (.int, (List.replicate 16 0))), .inr (.inl (.int, (List.replicate 16 0))), .inr (.inl (.int, (List.replicate 16 0))), .inr (.inl (.int, (List.replicate 16 0))), .inr (.inl (.int, (List.replicate 16 0))), .inr (.inl (.int, (List.replicate 16 0))), .inr (.inl (.int, (List.replicate 16 0))), .inr (.inl (.int, (List.replicate 16 0))), .inr (.inl (.int, (List.replicate 16 0))), .inr (.inl (.int, (List.replicate 16 0))), .inr (.inl (.int, (List.replicate 4 0))), .inr (.inl (.int, (List.replicate 16 0))), .inr (.inl (.int, (List.replicate 32 0))), .inr (.inl (.int, (List.replicate 32 0))), .inr (.inl (.int, (List.replicate 16 0))), .inr (.inl (.int, (List.replicate 16 0))), .inr (.inl (.int, (List.replicate 16 0))), .inr (.inl (.int, (List.replicate 16 0))), .inr (.inl (.int, (List.replicate 16 0))), .inr (.inl (.int, (List.replicate 16 0))), .inr (.inl (.int, (List.replicate 16 0))), .inr (.inl (.int, (List.replicate 16 0))), .inr (.inl (.int, (List.replicate 16 0)))])) rfl ?_
  refine QTri.steps Ad W 3 (st' := (192, [some (.ref 0), some (.int x1), some (.int x2), none, none], [.ref 24, .ref 0], [.inl [.ref 1, .ref 2, .ref 3, .ref 4, .ref 5, .ref 6, .ref 7, .ref 8, .ref 9, .ref 10, .ref 11, .ref 12, .ref 13, .ref 14, .ref 15, .ref 16, .ref 17, .ref 18, .ref 19, .ref 20, .ref 21, .ref 22, .ref 23, .null, .null, .null, .null, .null, .int (f_maxBlocks ob0), .int (f_maxSteps ob0), .int (f_n ob0), .int (f_arranged ob0), .int (f_outCount ob0), .int (f_steps ob0), .int (f_status ob0)], .inr (.inl (.int, (List.replicate 16 0))), .inr (.inl (.int, (List.replicate 16 0))), .inr (.inl (.int, (List.replicate 16 0))), .inr (.inl (.int, (List.replicate 16 0))), .inr (.inl (.int, (List.replicate 16 0))), .inr (.inl (.int, (List.replicate 16 0))), .inr (.inl (.int, (List.replicate 16 0))), .inr (.inl (.int, (List.replicate 16 0))), .inr (.inl (.int, (List.replicate 16 0))), .inr (.inl (.int, (List.replicate 16 0))), .inr (.inl (.int, (List.replicate 4 0))), .inr (.inl (.int, (List.replicate 16 0))), .inr (.inl (.int, (List.replicate 32 0))), .inr (.inl (.int, (List.replicate 32 0))), .inr (.inl (.int, (List.replicate 16 0))), .inr (.inl (.int, (List.replicate 16 0))), .inr (.inl (.int, (List.replicate 16 0))), .inr (.inl (.int, (List.replicate 16 0))), .inr (.inl (.int, (List.replicate 16 0))), .inr (.inl (.int, (List.replicate 16 0))), .inr (.inl (.int, (List.replicate 16 0))), .inr (.inl (.int, (List.replicate 16 0))), .inr (.inl (.int, (List.replicate 16 0))), .inr (.inl (.int, (List.replicate 16 0)))])) rfl ?_
  refine QTri.steps Ad W 1 (st' := (195, [some (.ref 0), some (.int x1), some (.int x2), none, none], [], [.inl [.ref 1, .ref 2, .ref 3, .ref 4, .ref 5, .ref 6, .ref 7, .ref 8, .ref 9, .ref 10, .ref 11, .ref 12, .ref 13, .ref 14, .ref 15, .ref 16, .ref 17, .ref 18, .ref 19, .ref 20, .ref 21, .ref 22, .ref 23, .ref 24, .null, .null, .null, .null, .int (f_maxBlocks ob0), .int (f_maxSteps ob0), .int (f_n ob0), .int (f_arranged ob0), .int (f_outCount ob0), .int (f_steps ob0), .int (f_status ob0)], .inr (.inl (.int, (List.replicate 16 0))), .inr (.inl (.int, (List.replicate 16 0))), .inr (.inl (.int, (List.replicate 16 0))), .inr (.inl (.int, (List.replicate 16 0))), .inr (.inl (.int, (List.replicate 16 0))), .inr (.inl (.int, (List.replicate 16 0))), .inr (.inl (.int, (List.replicate 16 0))), .inr (.inl (.int, (List.replicate 16 0))), .inr (.inl (.int, (List.replicate 16 0))), .inr (.inl (.int, (List.replicate 16 0))), .inr (.inl (.int, (List.replicate 4 0))), .inr (.inl (.int, (List.replicate 16 0))), .inr (.inl (.int, (List.replicate 32 0))), .inr (.inl (.int, (List.replicate 32 0))), .inr (.inl (.int, (List.replicate 16 0))), .inr (.inl (.int, (List.replicate 16 0))), .inr (.inl (.int, (List.replicate 16 0))), .inr (.inl (.int, (List.replicate 16 0))), .inr (.inl (.int, (List.replicate 16 0))), .inr (.inl (.int, (List.replicate 16 0))), .inr (.inl (.int, (List.replicate 16 0))), .inr (.inl (.int, (List.replicate 16 0))), .inr (.inl (.int, (List.replicate 16 0))), .inr (.inl (.int, (List.replicate 16 0)))])) rfl ?_
  refine QTri.steps Ad W 3 (st' := (200, [some (.ref 0), some (.int x1), some (.int x2), none, none], [.ref 25, .ref 0], [.inl [.ref 1, .ref 2, .ref 3, .ref 4, .ref 5, .ref 6, .ref 7, .ref 8, .ref 9, .ref 10, .ref 11, .ref 12, .ref 13, .ref 14, .ref 15, .ref 16, .ref 17, .ref 18, .ref 19, .ref 20, .ref 21, .ref 22, .ref 23, .ref 24, .null, .null, .null, .null, .int (f_maxBlocks ob0), .int (f_maxSteps ob0), .int (f_n ob0), .int (f_arranged ob0), .int (f_outCount ob0), .int (f_steps ob0), .int (f_status ob0)], .inr (.inl (.int, (List.replicate 16 0))), .inr (.inl (.int, (List.replicate 16 0))), .inr (.inl (.int, (List.replicate 16 0))), .inr (.inl (.int, (List.replicate 16 0))), .inr (.inl (.int, (List.replicate 16 0))), .inr (.inl (.int, (List.replicate 16 0))), .inr (.inl (.int, (List.replicate 16 0))), .inr (.inl (.int, (List.replicate 16 0))), .inr (.inl (.int, (List.replicate 16 0))), .inr (.inl (.int, (List.replicate 16 0))), .inr (.inl (.int, (List.replicate 4 0))), .inr (.inl (.int, (List.replicate 16 0))), .inr (.inl (.int, (List.replicate 32 0))), .inr (.inl (.int, (List.replicate 32 0))), .inr (.inl (.int, (List.replicate 16 0))), .inr (.inl (.int, (List.replicate 16 0))), .inr (.inl (.int, (List.replicate 16 0))), .inr (.inl (.int, (List.replicate 16 0))), .inr (.inl (.int, (List.replicate 16 0))), .inr (.inl (.int, (List.replicate 16 0))), .inr (.inl (.int, (List.replicate 16 0))), .inr (.inl (.int, (List.replicate 16 0))), .inr (.inl (.int, (List.replicate 16 0))), .inr (.inl (.int, (List.replicate 16 0))), .inr (.inl (.int, (List.replicate 16 0)))])) rfl ?_
  refine QTri.steps Ad W 1 (st' := (203, [some (.ref 0), some (.int x1), some (.int x2), none, none], [], [.inl [.ref 1, .ref 2, .ref 3, .ref 4, .ref 5, .ref 6, .ref 7, .ref 8, .ref 9, .ref 10, .ref 11, .ref 12, .ref 13, .ref 14, .ref 15, .ref 16, .ref 17, .ref 18, .ref 19, .ref 20, .ref 21, .ref 22, .ref 23, .ref 24, .ref 25, .null, .null, .null, .int (f_maxBlocks ob0), .int (f_maxSteps ob0), .int (f_n ob0), .int (f_arranged ob0), .int (f_outCount ob0), .int (f_steps ob0), .int (f_status ob0)], .inr (.inl (.int, (List.replicate 16 0))), .inr (.inl (.int, (List.replicate 16 0))), .inr (.inl (.int, (List.replicate 16 0))), .inr (.inl (.int, (List.replicate 16 0))), .inr (.inl (.int, (List.replicate 16 0))), .inr (.inl (.int, (List.replicate 16 0))), .inr (.inl (.int, (List.replicate 16 0))), .inr (.inl (.int, (List.replicate 16 0))), .inr (.inl (.int, (List.replicate 16 0))), .inr (.inl (.int, (List.replicate 16 0))), .inr (.inl (.int, (List.replicate 4 0))), .inr (.inl (.int, (List.replicate 16 0))), .inr (.inl (.int, (List.replicate 32 0))), .inr (.inl (.int, (List.replicate 32 0))), .inr (.inl (.int, (List.replicate 16 0))), .inr (.inl (.int, (List.replicate 16 0))), .inr (.inl (.int, (List.replicate 16 0))), .inr (.inl (.int, (List.replicate 16 0))), .inr (.inl (.int, (List.replicate 16 0))), .inr (.inl (.int, (List.replicate 16 0))), .inr (.inl (.int, (List.replicate 16 0))), .inr (.inl (.int, (List.replicate 16 0))), .inr (.inl (.int, (List.replicate 16 0))), .inr (.inl (.int, (List.replicate 16 0))), .inr (.inl (.int, (List.replicate 16 0)))])) rfl ?_
  refine QTri.steps Ad W 3 (st' := (208, [some (.ref 0), some (.int x1), some (.int x2), none, none], [.ref 26, .ref 0], [.inl [.ref 1, .ref 2, .ref 3, .ref 4, .ref 5, .ref 6, .ref 7, .ref 8, .ref 9, .ref 10, .ref 11, .ref 12, .ref 13, .ref 14, .ref 15, .ref 16, .ref 17, .ref 18, .ref 19, .ref 20, .ref 21, .ref 22, .ref 23, .ref 24, .ref 25, .null, .null, .null, .int (f_maxBlocks ob0), .int (f_maxSteps ob0), .int (f_n ob0), .int (f_arranged ob0), .int (f_outCount ob0), .int (f_steps ob0), .int (f_status ob0)], .inr (.inl (.int, (List.replicate 16 0))), .inr (.inl (.int, (List.replicate 16 0))), .inr (.inl (.int, (List.replicate 16 0))), .inr (.inl (.int, (List.replicate 16 0))), .inr (.inl (.int, (List.replicate 16 0))), .inr (.inl (.int, (List.replicate 16 0))), .inr (.inl (.int, (List.replicate 16 0))), .inr (.inl (.int, (List.replicate 16 0))), .inr (.inl (.int, (List.replicate 16 0))), .inr (.inl (.int, (List.replicate 16 0))), .inr (.inl (.int, (List.replicate 4 0))), .inr (.inl (.int, (List.replicate 16 0))), .inr (.inl (.int, (List.replicate 32 0))), .inr (.inl (.int, (List.replicate 32 0))), .inr (.inl (.int, (List.replicate 16 0))), .inr (.inl (.int, (List.replicate 16 0))), .inr (.inl (.int, (List.replicate 16 0))), .inr (.inl (.int, (List.replicate 16 0))), .inr (.inl (.int, (List.replicate 16 0))), .inr (.inl (.int, (List.replicate 16 0))), .inr (.inl (.int, (List.replicate 16 0))), .inr (.inl (.int, (List.replicate 16 0))), .inr (.inl (.int, (List.replicate 16 0))), .inr (.inl (.int, (List.replicate 16 0))), .inr (.inl (.int, (List.replicate 16 0))), .inr (.inl (.int, (List.replicate 16 0)))])) rfl ?_
  refine QTri.steps Ad W 1 (st' := (211, [some (.ref 0), some (.int x1), some (.int x2), none, none], [], [.inl [.ref 1, .ref 2, .ref 3, .ref 4, .ref 5, .ref 6, .ref 7, .ref 8, .ref 9, .ref 10, .ref 11, .ref 12, .ref 13, .ref 14, .ref 15, .ref 16, .ref 17, .ref 18, .ref 19, .ref 20, .ref 21, .ref 22, .ref 23, .ref 24, .ref 25, .ref 26, .null, .null, .int (f_maxBlocks ob0), .int (f_maxSteps ob0), .int (f_n ob0), .int (f_arranged ob0), .int (f_outCount ob0), .int (f_steps ob0), .int (f_status ob0)], .inr (.inl (.int, (List.replicate 16 0))), .inr (.inl (.int, (List.replicate 16 0))), .inr (.inl (.int, (List.replicate 16 0))), .inr (.inl (.int, (List.replicate 16 0))), .inr (.inl (.int, (List.replicate 16 0))), .inr (.inl (.int, (List.replicate 16 0))), .inr (.inl (.int, (List.replicate 16 0))), .inr (.inl (.int, (List.replicate 16 0))), .inr (.inl (.int, (List.replicate 16 0))), .inr (.inl (.int, (List.replicate 16 0))), .inr (.inl (.int, (List.replicate 4 0))), .inr (.inl (.int, (List.replicate 16 0))), .inr (.inl (.int, (List.replicate 32 0))), .inr (.inl (.int, (List.replicate 32 0))), .inr (.inl (.int, (List.replicate 16 0))), .inr (.inl (.int, (List.replicate 16 0))), .inr (.inl (.int, (List.replicate 16 0))), .inr (.inl (.int, (List.replicate 16 0))), .inr (.inl (.int, (List.replicate 16 0))), .inr (.inl (.int, (List.replicate 16 0))), .inr (.inl (.int, (List.replicate 16 0))), .inr (.inl (.int, (List.replicate 16 0))), .inr (.inl (.int, (List.replicate 16 0))), .inr (.inl (.int, (List.replicate 16 0))), .inr (.inl (.int, (List.replicate 16 0))), .inr (.inl (.int, (List.replicate 16 0)))])) rfl ?_
  refine QTri.steps Ad W 3 (st' := (216, [some (.ref 0), some (.int x1), some (.int x2), none, none], [.ref 27, .ref 0], [.inl [.ref 1, .ref 2, .ref 3, .ref 4, .ref 5, .ref 6, .ref 7, .ref 8, .ref 9, .ref 10, .ref 11, .ref 12, .ref 13, .ref 14, .ref 15, .ref 16, .ref 17, .ref 18, .ref 19, .ref 20, .ref 21, .ref 22, .ref 23, .ref 24, .ref 25, .ref 26, .null, .null, .int (f_maxBlocks ob0), .int (f_maxSteps ob0), .int (f_n ob0), .int (f_arranged ob0), .int (f_outCount ob0), .int (f_steps ob0), .int (f_status ob0)], .inr (.inl (.int, (List.replicate 16 0))), .inr (.inl (.int, (List.replicate 16 0))), .inr (.inl (.int, (List.replicate 16 0))), .inr (.inl (.int, (List.replicate 16 0))), .inr (.inl (.int, (List.replicate 16 0))), .inr (.inl (.int, (List.replicate 16 0))), .inr (.inl (.int, (List.replicate 16 0))), .inr (.inl (.int, (List.replicate 16 0))), .inr (.inl (.int, (List.replicate 16 0))), .inr (.inl (.int, (List.replicate 16 0))), .inr (.inl (.int, (List.replicate 4 0))), .inr (.inl (.int, (List.replicate 16 0))), .inr (.inl (.int, (List.replicate 32 0))), .inr (.inl (.int, (List.replicate 32 0))), .inr (.inl (.int, (List.replicate 16 0))), .inr (.inl (.int, (List.replicate 16 0))), .inr (.inl (.int, (List.replicate 16 0))), .inr (.inl (.int, (List.replicate 16 0))), .inr (.inl (.int, (List.replicate 16 0))), .inr (.inl (.int, (List.replicate 16 0))), .inr (.inl (.int, (List.replicate 16 0))), .inr (.inl (.int, (List.replicate 16 0))), .inr (.inl (.int, (List.replicate 16 0))), .inr (.inl (.int, (List.replicate 16 0))), .inr (.inl (.int, (List.replicate 16 0))), .inr (.inl (.int, (List.replicate 16 0))), .inr (.inl (.int, (List.replicate 16 0)))])) rfl ?_
  refine QTri.steps Ad W 1 (st' := (219, [some (.ref 0), some (.int x1), some (.int x2), none, none], [], [.inl [.ref 1, .ref 2, .ref 3, .ref 4, .ref 5, .ref 6, .ref 7, .ref 8, .ref 9, .ref 10, .ref 11, .ref 12, .ref 13, .ref 14, .ref 15, .ref 16, .ref 17, .ref 18, .ref 19, .ref 20, .ref 21, .ref 22, .ref 23, .ref 24, .ref 25, .ref 26, .ref 27, .null, .int (f_maxBlocks ob0), .int (f_maxSteps ob0), .int (f_n ob0), .int (f_arranged ob0), .int (f_outCount ob0), .int (f_steps ob0), .int (f_status ob0)], .inr (.inl (.int, (List.replicate 16 0))), .inr (.inl (.int, (List.replicate 16 0))), .inr (.inl (.int, (List.replicate 16 0))), .inr (.inl (.int, (List.replicate 16 0))), .inr (.inl (.int, (List.replicate 16 0))), .inr (.inl (.int, (List.replicate 16 0))), .inr (.inl (.int, (List.replicate 16 0))), .inr (.inl (.int, (List.replicate 16 0))), .inr (.inl (.int, (List.replicate 16 0))), .inr (.inl (.int, (List.replicate 16 0))), .inr (.inl (.int, (List.replicate 4 0))), .inr (.inl (.int, (List.replicate 16 0))), .inr (.inl (.int, (List.replicate 32 0))), .inr (.inl (.int, (List.replicate 32 0))), .inr (.inl (.int, (List.replicate 16 0))), .inr (.inl (.int, (List.replicate 16 0))), .inr (.inl (.int, (List.replicate 16 0))), .inr (.inl (.int, (List.replicate 16 0))), .inr (.inl (.int, (List.replicate 16 0))), .inr (.inl (.int, (List.replicate 16 0))), .inr (.inl (.int, (List.replicate 16 0))), .inr (.inl (.int, (List.replicate 16 0))), .inr (.inl (.int, (List.replicate 16 0))), .inr (.inl (.int, (List.replicate 16 0))), .inr (.inl (.int, (List.replicate 16 0))), .inr (.inl (.int, (List.replicate 16 0))), .inr (.inl (.int, (List.replicate 16 0)))])) rfl ?_
  refine QTri.steps Ad W 3 (st' := (224, [some (.ref 0), some (.int x1), some (.int x2), none, none], [.ref 28, .ref 0], [.inl [.ref 1, .ref 2, .ref 3, .ref 4, .ref 5, .ref 6, .ref 7, .ref 8, .ref 9, .ref 10, .ref 11, .ref 12, .ref 13, .ref 14, .ref 15, .ref 16, .ref 17, .ref 18, .ref 19, .ref 20, .ref 21, .ref 22, .ref 23, .ref 24, .ref 25, .ref 26, .ref 27, .null, .int (f_maxBlocks ob0), .int (f_maxSteps ob0), .int (f_n ob0), .int (f_arranged ob0), .int (f_outCount ob0), .int (f_steps ob0), .int (f_status ob0)], .inr (.inl (.int, (List.replicate 16 0))), .inr (.inl (.int, (List.replicate 16 0))), .inr (.inl (.int, (List.replicate 16 0))), .inr (.inl (.int, (List.replicate 16 0))), .inr (.inl (.int, (List.replicate 16 0))), .inr (.inl (.int, (List.replicate 16 0))), .inr (.inl (.int, (List.replicate 16 0))), .inr (.inl (.int, (List.replicate 16 0))), .inr (.inl (.int, (List.replicate 16 0))), .inr (.inl (.int, (List.replicate 16 0))), .inr (.inl (.int, (List.replicate 4 0))), .inr (.inl (.int, (List.replicate 16 0))), .inr (.inl (.int, (List.replicate 32 0))), .inr (.inl (.int, (List.replicate 32 0))), .inr (.inl (.int, (List.replicate 16 0))), .inr (.inl (.int, (List.replicate 16 0))), .inr (.inl (.int, (List.replicate 16 0))), .inr (.inl (.int, (List.replicate 16 0))), .inr (.inl (.int, (List.replicate 16 0))), .inr (.inl (.int, (List.replicate 16 0))), .inr (.inl (.int, (List.replicate 16 0))), .inr (.inl (.int, (List.replicate 16 0))), .inr (.inl (.int, (List.replicate 16 0))), .inr (.inl (.int, (List.replicate 16 0))), .inr (.inl (.int, (List.replicate 16 0))), .inr (.inl (.int, (List.replicate 16 0))), .inr (.inl (.int, (List.replicate 16 0))), .inr (.inl (.int, (List.replicate 16 0)))])) rfl ?_
  refine QTri.steps Ad W 1 (st' := (227, [some (.ref 0), some (.int x1), some (.int x2), none, none], [], [.inl [.ref 1, .ref 2, .ref 3, .ref 4, .ref 5, .ref 6, .ref 7, .ref 8, .ref 9, .ref 10, .ref 11, .ref 12, .ref 13, .ref 14, .ref 15, .ref 16, .ref 17, .ref 18, .ref 19, .ref 20, .ref 21, .ref 22, .ref 23, .ref 24, .ref 25, .ref 26, .ref 27, .ref 28, .int (f_maxBlocks ob0), .int (f_maxSteps ob0), .int (f_n ob0), .int (f_arranged ob0), .int (f_outCount ob0), .int (f_steps ob0), .int (f_status ob0)], .inr (.inl (.int, (List.replicate 16 0))), .inr (.inl (.int, (List.replicate 16 0))), .inr (.inl (.int, (List.replicate 16 0))), .inr (.inl (.int, (List.replicate 16 0))), .inr (.inl (.int, (List.replicate 16 0))), .inr (.inl (.int, (List.replicate 16 0))), .inr (.inl (.int, (List.replicate 16 0))), .inr (.inl (.int, (List.replicate 16 0))), .inr (.inl (.int, (List.replicate 16 0))), .inr (.inl (.int, (List.replicate 16 0))), .inr (.inl (.int, (List.replicate 4 0))), .inr (.inl (.int, (List.replicate 16 0))), .inr (.inl (.int, (List.replicate 32 0))), .inr (.inl (.int, (List.replicate 32 0))), .inr (.inl (.int, (List.replicate 16 0))), .inr (.inl (.int, (List.replicate 16 0))), .inr (.inl (.int, (List.replicate 16 0))), .inr (.inl (.int, (List.replicate 16 0))), .inr (.inl (.int, (List.replicate 16 0))), .inr (.inl (.int, (List.replicate 16 0))), .inr (.inl (.int, (List.replicate 16 0))), .inr (.inl (.int, (List.replicate 16 0))), .inr (.inl (.int, (List.replicate 16 0))), .inr (.inl (.int, (List.replicate 16 0))), .inr (.inl (.int, (List.replicate 16 0))), .inr (.inl (.int, (List.replicate 16 0))), .inr (.inl (.int, (List.replicate 16 0))), .inr (.inl (.int, (List.replicate 16 0)))])) rfl ?_
  refine QTri.steps Ad W 4 (st' := (231, [some (.ref 0), some (.int x1), some (.int x2), some (.int x1), none], [.int (2 : Int32), .int x1], [.inl [.ref 1, .ref 2, .ref 3, .ref 4, .ref 5, .ref 6, .ref 7, .ref 8, .ref 9, .ref 10, .ref 11, .ref 12, .ref 13, .ref 14, .ref 15, .ref 16, .ref 17, .ref 18, .ref 19, .ref 20, .ref 21, .ref 22, .ref 23, .ref 24, .ref 25, .ref 26, .ref 27, .ref 28, .int (f_maxBlocks ob0), .int (f_maxSteps ob0), .int (f_n ob0), .int (f_arranged ob0), .int (f_outCount ob0), .int (f_steps ob0), .int (f_status ob0)], .inr (.inl (.int, (List.replicate 16 0))), .inr (.inl (.int, (List.replicate 16 0))), .inr (.inl (.int, (List.replicate 16 0))), .inr (.inl (.int, (List.replicate 16 0))), .inr (.inl (.int, (List.replicate 16 0))), .inr (.inl (.int, (List.replicate 16 0))), .inr (.inl (.int, (List.replicate 16 0))), .inr (.inl (.int, (List.replicate 16 0))), .inr (.inl (.int, (List.replicate 16 0))), .inr (.inl (.int, (List.replicate 16 0))), .inr (.inl (.int, (List.replicate 4 0))), .inr (.inl (.int, (List.replicate 16 0))), .inr (.inl (.int, (List.replicate 32 0))), .inr (.inl (.int, (List.replicate 32 0))), .inr (.inl (.int, (List.replicate 16 0))), .inr (.inl (.int, (List.replicate 16 0))), .inr (.inl (.int, (List.replicate 16 0))), .inr (.inl (.int, (List.replicate 16 0))), .inr (.inl (.int, (List.replicate 16 0))), .inr (.inl (.int, (List.replicate 16 0))), .inr (.inl (.int, (List.replicate 16 0))), .inr (.inl (.int, (List.replicate 16 0))), .inr (.inl (.int, (List.replicate 16 0))), .inr (.inl (.int, (List.replicate 16 0))), .inr (.inl (.int, (List.replicate 16 0))), .inr (.inl (.int, (List.replicate 16 0))), .inr (.inl (.int, (List.replicate 16 0))), .inr (.inl (.int, (List.replicate 16 0)))])) rfl ?_
  have K2 : ∀ z1 : Int32, z1 = (if x1 < (2 : Int32) then (2 : Int32) else x1) → QTri l Z n0 ad 1 (236, [some (.ref 0), none, some (.int x2), some (.int z1), none], [], [.inl [.ref 1, .ref 2, .ref 3, .ref 4, .ref 5, .ref 6, .ref 7, .ref 8, .ref 9, .ref 10, .ref 11, .ref 12, .ref 13, .ref 14, .ref 15, .ref 16, .ref 17, .ref 18, .ref 19, .ref 20, .ref 21, .ref 22, .ref 23, .ref 24, .ref 25, .ref 26, .ref 27, .ref 28, .int (f_maxBlocks ob0), .int (f_maxSteps ob0), .int (f_n ob0), .int (f_arranged ob0), .int (f_outCount ob0), .int (f_steps ob0), .int (f_status ob0)], .inr (.inl (.int, (List.replicate 16 0))), .inr (.inl (.int, (List.replicate 16 0))), .inr (.inl (.int, (List.replicate 16 0))), .inr (.inl (.int, (List.replicate 16 0))), .inr (.inl (.int, (List.replicate 16 0))), .inr (.inl (.int, (List.replicate 16 0))), .inr (.inl (.int, (List.replicate 16 0))), .inr (.inl (.int, (List.replicate 16 0))), .inr (.inl (.int, (List.replicate 16 0))), .inr (.inl (.int, (List.replicate 16 0))), .inr (.inl (.int, (List.replicate 4 0))), .inr (.inl (.int, (List.replicate 16 0))), .inr (.inl (.int, (List.replicate 32 0))), .inr (.inl (.int, (List.replicate 32 0))), .inr (.inl (.int, (List.replicate 16 0))), .inr (.inl (.int, (List.replicate 16 0))), .inr (.inl (.int, (List.replicate 16 0))), .inr (.inl (.int, (List.replicate 16 0))), .inr (.inl (.int, (List.replicate 16 0))), .inr (.inl (.int, (List.replicate 16 0))), .inr (.inl (.int, (List.replicate 16 0))), .inr (.inl (.int, (List.replicate 16 0))), .inr (.inl (.int, (List.replicate 16 0))), .inr (.inl (.int, (List.replicate 16 0))), .inr (.inl (.int, (List.replicate 16 0))), .inr (.inl (.int, (List.replicate 16 0))), .inr (.inl (.int, (List.replicate 16 0))), .inr (.inl (.int, (List.replicate 16 0)))]) (none : Option Value) (H0 r) := by
    intro z1 ez1
    subst ez1
    refine QTri.steps Ad W 2 (st' := (239, [some (.ref 0), none, some (.int x2), some (.int (if x1 < (2 : Int32) then (2 : Int32) else x1)), none], [.int (16 : Int32), .int (if x1 < (2 : Int32) then (2 : Int32) else x1)], [.inl [.ref 1, .ref 2, .ref 3, .ref 4, .ref 5, .ref 6, .ref 7, .ref 8, .ref 9, .ref 10, .ref 11, .ref 12, .ref 13, .ref 14, .ref 15, .ref 16, .ref 17, .ref 18, .ref 19, .ref 20, .ref 21, .ref 22, .ref 23, .ref 24, .ref 25, .ref 26, .ref 27, .ref 28, .int (f_maxBlocks ob0), .int (f_maxSteps ob0), .int (f_n ob0), .int (f_arranged ob0), .int (f_outCount ob0), .int (f_steps ob0), .int (f_status ob0)], .inr (.inl (.int, (List.replicate 16 0))), .inr (.inl (.int, (List.replicate 16 0))), .inr (.inl (.int, (List.replicate 16 0))), .inr (.inl (.int, (List.replicate 16 0))), .inr (.inl (.int, (List.replicate 16 0))), .inr (.inl (.int, (List.replicate 16 0))), .inr (.inl (.int, (List.replicate 16 0))), .inr (.inl (.int, (List.replicate 16 0))), .inr (.inl (.int, (List.replicate 16 0))), .inr (.inl (.int, (List.replicate 16 0))), .inr (.inl (.int, (List.replicate 4 0))), .inr (.inl (.int, (List.replicate 16 0))), .inr (.inl (.int, (List.replicate 32 0))), .inr (.inl (.int, (List.replicate 32 0))), .inr (.inl (.int, (List.replicate 16 0))), .inr (.inl (.int, (List.replicate 16 0))), .inr (.inl (.int, (List.replicate 16 0))), .inr (.inl (.int, (List.replicate 16 0))), .inr (.inl (.int, (List.replicate 16 0))), .inr (.inl (.int, (List.replicate 16 0))), .inr (.inl (.int, (List.replicate 16 0))), .inr (.inl (.int, (List.replicate 16 0))), .inr (.inl (.int, (List.replicate 16 0))), .inr (.inl (.int, (List.replicate 16 0))), .inr (.inl (.int, (List.replicate 16 0))), .inr (.inl (.int, (List.replicate 16 0))), .inr (.inl (.int, (List.replicate 16 0))), .inr (.inl (.int, (List.replicate 16 0)))])) rfl ?_
    have K5 : ∀ z4 : Int32, z4 = (if (16 : Int32) < (if x1 < (2 : Int32) then (2 : Int32) else x1) then (16 : Int32) else (if x1 < (2 : Int32) then (2 : Int32) else x1)) → QTri l Z n0 ad 1 (245, [some (.ref 0), none, some (.int x2), some (.int z4), none], [], [.inl [.ref 1, .ref 2, .ref 3, .ref 4, .ref 5, .ref 6, .ref 7, .ref 8, .ref 9, .ref 10, .ref 11, .ref 12, .ref 13, .ref 14, .ref 15, .ref 16, .ref 17, .ref 18, .ref 19, .ref 20, .ref 21, .ref 22, .ref 23, .ref 24, .ref 25, .ref 26, .ref 27, .ref 28, .int (f_maxBlocks ob0), .int (f_maxSteps ob0), .int (f_n ob0), .int (f_arranged ob0), .int (f_outCount ob0), .int (f_steps ob0), .int (f_status ob0)], .inr (.inl (.int, (List.replicate 16 0))), .inr (.inl (.int, (List.replicate 16 0))), .inr (.inl (.int, (List.replicate 16 0))), .inr (.inl (.int, (List.replicate 16 0))), .inr (.inl (.int, (List.replicate 16 0))), .inr (.inl (.int, (List.replicate 16 0))), .inr (.inl (.int, (List.replicate 16 0))), .inr (.inl (.int, (List.replicate 16 0))), .inr (.inl (.int, (List.replicate 16 0))), .inr (.inl (.int, (List.replicate 16 0))), .inr (.inl (.int, (List.replicate 4 0))), .inr (.inl (.int, (List.replicate 16 0))), .inr (.inl (.int, (List.replicate 32 0))), .inr (.inl (.int, (List.replicate 32 0))), .inr (.inl (.int, (List.replicate 16 0))), .inr (.inl (.int, (List.replicate 16 0))), .inr (.inl (.int, (List.replicate 16 0))), .inr (.inl (.int, (List.replicate 16 0))), .inr (.inl (.int, (List.replicate 16 0))), .inr (.inl (.int, (List.replicate 16 0))), .inr (.inl (.int, (List.replicate 16 0))), .inr (.inl (.int, (List.replicate 16 0))), .inr (.inl (.int, (List.replicate 16 0))), .inr (.inl (.int, (List.replicate 16 0))), .inr (.inl (.int, (List.replicate 16 0))), .inr (.inl (.int, (List.replicate 16 0))), .inr (.inl (.int, (List.replicate 16 0))), .inr (.inl (.int, (List.replicate 16 0)))]) (none : Option Value) (H0 r) := by
      intro z4 ez4
      subst ez4
      refine QTri.steps Ad W 4 (st' := (252, [some (.ref 0), none, some (.int x2), some (.int (if (16 : Int32) < (if x1 < (2 : Int32) then (2 : Int32) else x1) then (16 : Int32) else (if x1 < (2 : Int32) then (2 : Int32) else x1))), some (.int x2)], [.int (16 : Int32), .int x2], [.inl [.ref 1, .ref 2, .ref 3, .ref 4, .ref 5, .ref 6, .ref 7, .ref 8, .ref 9, .ref 10, .ref 11, .ref 12, .ref 13, .ref 14, .ref 15, .ref 16, .ref 17, .ref 18, .ref 19, .ref 20, .ref 21, .ref 22, .ref 23, .ref 24, .ref 25, .ref 26, .ref 27, .ref 28, .int (f_maxBlocks ob0), .int (f_maxSteps ob0), .int (f_n ob0), .int (f_arranged ob0), .int (f_outCount ob0), .int (f_steps ob0), .int (f_status ob0)], .inr (.inl (.int, (List.replicate 16 0))), .inr (.inl (.int, (List.replicate 16 0))), .inr (.inl (.int, (List.replicate 16 0))), .inr (.inl (.int, (List.replicate 16 0))), .inr (.inl (.int, (List.replicate 16 0))), .inr (.inl (.int, (List.replicate 16 0))), .inr (.inl (.int, (List.replicate 16 0))), .inr (.inl (.int, (List.replicate 16 0))), .inr (.inl (.int, (List.replicate 16 0))), .inr (.inl (.int, (List.replicate 16 0))), .inr (.inl (.int, (List.replicate 4 0))), .inr (.inl (.int, (List.replicate 16 0))), .inr (.inl (.int, (List.replicate 32 0))), .inr (.inl (.int, (List.replicate 32 0))), .inr (.inl (.int, (List.replicate 16 0))), .inr (.inl (.int, (List.replicate 16 0))), .inr (.inl (.int, (List.replicate 16 0))), .inr (.inl (.int, (List.replicate 16 0))), .inr (.inl (.int, (List.replicate 16 0))), .inr (.inl (.int, (List.replicate 16 0))), .inr (.inl (.int, (List.replicate 16 0))), .inr (.inl (.int, (List.replicate 16 0))), .inr (.inl (.int, (List.replicate 16 0))), .inr (.inl (.int, (List.replicate 16 0))), .inr (.inl (.int, (List.replicate 16 0))), .inr (.inl (.int, (List.replicate 16 0))), .inr (.inl (.int, (List.replicate 16 0))), .inr (.inl (.int, (List.replicate 16 0)))])) rfl ?_
      have K8 : ∀ z7 : Int32, z7 = (if x2 < (16 : Int32) then (16 : Int32) else x2) → QTri l Z n0 ad 1 (259, [some (.ref 0), none, none, some (.int (if (16 : Int32) < (if x1 < (2 : Int32) then (2 : Int32) else x1) then (16 : Int32) else (if x1 < (2 : Int32) then (2 : Int32) else x1))), some (.int z7)], [], [.inl [.ref 1, .ref 2, .ref 3, .ref 4, .ref 5, .ref 6, .ref 7, .ref 8, .ref 9, .ref 10, .ref 11, .ref 12, .ref 13, .ref 14, .ref 15, .ref 16, .ref 17, .ref 18, .ref 19, .ref 20, .ref 21, .ref 22, .ref 23, .ref 24, .ref 25, .ref 26, .ref 27, .ref 28, .int (f_maxBlocks ob0), .int (f_maxSteps ob0), .int (f_n ob0), .int (f_arranged ob0), .int (f_outCount ob0), .int (f_steps ob0), .int (f_status ob0)], .inr (.inl (.int, (List.replicate 16 0))), .inr (.inl (.int, (List.replicate 16 0))), .inr (.inl (.int, (List.replicate 16 0))), .inr (.inl (.int, (List.replicate 16 0))), .inr (.inl (.int, (List.replicate 16 0))), .inr (.inl (.int, (List.replicate 16 0))), .inr (.inl (.int, (List.replicate 16 0))), .inr (.inl (.int, (List.replicate 16 0))), .inr (.inl (.int, (List.replicate 16 0))), .inr (.inl (.int, (List.replicate 16 0))), .inr (.inl (.int, (List.replicate 4 0))), .inr (.inl (.int, (List.replicate 16 0))), .inr (.inl (.int, (List.replicate 32 0))), .inr (.inl (.int, (List.replicate 32 0))), .inr (.inl (.int, (List.replicate 16 0))), .inr (.inl (.int, (List.replicate 16 0))), .inr (.inl (.int, (List.replicate 16 0))), .inr (.inl (.int, (List.replicate 16 0))), .inr (.inl (.int, (List.replicate 16 0))), .inr (.inl (.int, (List.replicate 16 0))), .inr (.inl (.int, (List.replicate 16 0))), .inr (.inl (.int, (List.replicate 16 0))), .inr (.inl (.int, (List.replicate 16 0))), .inr (.inl (.int, (List.replicate 16 0))), .inr (.inl (.int, (List.replicate 16 0))), .inr (.inl (.int, (List.replicate 16 0))), .inr (.inl (.int, (List.replicate 16 0))), .inr (.inl (.int, (List.replicate 16 0)))]) (none : Option Value) (H0 r) := by
        intro z7 ez7
        subst ez7
        refine QTri.steps Ad W 2 (st' := (264, [some (.ref 0), none, none, some (.int (if (16 : Int32) < (if x1 < (2 : Int32) then (2 : Int32) else x1) then (16 : Int32) else (if x1 < (2 : Int32) then (2 : Int32) else x1))), some (.int (if x2 < (16 : Int32) then (16 : Int32) else x2))], [.int (1024 : Int32), .int (if x2 < (16 : Int32) then (16 : Int32) else x2)], [.inl [.ref 1, .ref 2, .ref 3, .ref 4, .ref 5, .ref 6, .ref 7, .ref 8, .ref 9, .ref 10, .ref 11, .ref 12, .ref 13, .ref 14, .ref 15, .ref 16, .ref 17, .ref 18, .ref 19, .ref 20, .ref 21, .ref 22, .ref 23, .ref 24, .ref 25, .ref 26, .ref 27, .ref 28, .int (f_maxBlocks ob0), .int (f_maxSteps ob0), .int (f_n ob0), .int (f_arranged ob0), .int (f_outCount ob0), .int (f_steps ob0), .int (f_status ob0)], .inr (.inl (.int, (List.replicate 16 0))), .inr (.inl (.int, (List.replicate 16 0))), .inr (.inl (.int, (List.replicate 16 0))), .inr (.inl (.int, (List.replicate 16 0))), .inr (.inl (.int, (List.replicate 16 0))), .inr (.inl (.int, (List.replicate 16 0))), .inr (.inl (.int, (List.replicate 16 0))), .inr (.inl (.int, (List.replicate 16 0))), .inr (.inl (.int, (List.replicate 16 0))), .inr (.inl (.int, (List.replicate 16 0))), .inr (.inl (.int, (List.replicate 4 0))), .inr (.inl (.int, (List.replicate 16 0))), .inr (.inl (.int, (List.replicate 32 0))), .inr (.inl (.int, (List.replicate 32 0))), .inr (.inl (.int, (List.replicate 16 0))), .inr (.inl (.int, (List.replicate 16 0))), .inr (.inl (.int, (List.replicate 16 0))), .inr (.inl (.int, (List.replicate 16 0))), .inr (.inl (.int, (List.replicate 16 0))), .inr (.inl (.int, (List.replicate 16 0))), .inr (.inl (.int, (List.replicate 16 0))), .inr (.inl (.int, (List.replicate 16 0))), .inr (.inl (.int, (List.replicate 16 0))), .inr (.inl (.int, (List.replicate 16 0))), .inr (.inl (.int, (List.replicate 16 0))), .inr (.inl (.int, (List.replicate 16 0))), .inr (.inl (.int, (List.replicate 16 0))), .inr (.inl (.int, (List.replicate 16 0)))])) rfl ?_
        have K11 : ∀ z10 : Int32, z10 = (if (1024 : Int32) < (if x2 < (16 : Int32) then (16 : Int32) else x2) then (1024 : Int32) else (if x2 < (16 : Int32) then (16 : Int32) else x2)) → QTri l Z n0 ad 1 (272, [some (.ref 0), none, none, some (.int (if (16 : Int32) < (if x1 < (2 : Int32) then (2 : Int32) else x1) then (16 : Int32) else (if x1 < (2 : Int32) then (2 : Int32) else x1))), some (.int z10)], [], [.inl [.ref 1, .ref 2, .ref 3, .ref 4, .ref 5, .ref 6, .ref 7, .ref 8, .ref 9, .ref 10, .ref 11, .ref 12, .ref 13, .ref 14, .ref 15, .ref 16, .ref 17, .ref 18, .ref 19, .ref 20, .ref 21, .ref 22, .ref 23, .ref 24, .ref 25, .ref 26, .ref 27, .ref 28, .int (f_maxBlocks ob0), .int (f_maxSteps ob0), .int (f_n ob0), .int (f_arranged ob0), .int (f_outCount ob0), .int (f_steps ob0), .int (f_status ob0)], .inr (.inl (.int, (List.replicate 16 0))), .inr (.inl (.int, (List.replicate 16 0))), .inr (.inl (.int, (List.replicate 16 0))), .inr (.inl (.int, (List.replicate 16 0))), .inr (.inl (.int, (List.replicate 16 0))), .inr (.inl (.int, (List.replicate 16 0))), .inr (.inl (.int, (List.replicate 16 0))), .inr (.inl (.int, (List.replicate 16 0))), .inr (.inl (.int, (List.replicate 16 0))), .inr (.inl (.int, (List.replicate 16 0))), .inr (.inl (.int, (List.replicate 4 0))), .inr (.inl (.int, (List.replicate 16 0))), .inr (.inl (.int, (List.replicate 32 0))), .inr (.inl (.int, (List.replicate 32 0))), .inr (.inl (.int, (List.replicate 16 0))), .inr (.inl (.int, (List.replicate 16 0))), .inr (.inl (.int, (List.replicate 16 0))), .inr (.inl (.int, (List.replicate 16 0))), .inr (.inl (.int, (List.replicate 16 0))), .inr (.inl (.int, (List.replicate 16 0))), .inr (.inl (.int, (List.replicate 16 0))), .inr (.inl (.int, (List.replicate 16 0))), .inr (.inl (.int, (List.replicate 16 0))), .inr (.inl (.int, (List.replicate 16 0))), .inr (.inl (.int, (List.replicate 16 0))), .inr (.inl (.int, (List.replicate 16 0))), .inr (.inl (.int, (List.replicate 16 0))), .inr (.inl (.int, (List.replicate 16 0)))]) (none : Option Value) (H0 r) := by
          intro z10 ez10
          subst ez10
          refine QTri.steps Ad W 3 (st' := (277, [some (.ref 0), none, none, some (.int (if (16 : Int32) < (if x1 < (2 : Int32) then (2 : Int32) else x1) then (16 : Int32) else (if x1 < (2 : Int32) then (2 : Int32) else x1))), some (.int (if (1024 : Int32) < (if x2 < (16 : Int32) then (16 : Int32) else x2) then (1024 : Int32) else (if x2 < (16 : Int32) then (16 : Int32) else x2)))], [], [.inl [.ref 1, .ref 2, .ref 3, .ref 4, .ref 5, .ref 6, .ref 7, .ref 8, .ref 9, .ref 10, .ref 11, .ref 12, .ref 13, .ref 14, .ref 15, .ref 16, .ref 17, .ref 18, .ref 19, .ref 20, .ref 21, .ref 22, .ref 23, .ref 24, .ref 25, .ref 26, .ref 27, .ref 28, .int (if (16 : Int32) < (if x1 < (2 : Int32) then (2 : Int32) else x1) then (16 : Int32) else (if x1 < (2 : Int32) then (2 : Int32) else x1)), .int (f_maxSteps ob0), .int (f_n ob0), .int (f_arranged ob0), .int (f_outCount ob0), .int (f_steps ob0), .int (f_status ob0)], .inr (.inl (.int, (List.replicate 16 0))), .inr (.inl (.int, (List.replicate 16 0))), .inr (.inl (.int, (List.replicate 16 0))), .inr (.inl (.int, (List.replicate 16 0))), .inr (.inl (.int, (List.replicate 16 0))), .inr (.inl (.int, (List.replicate 16 0))), .inr (.inl (.int, (List.replicate 16 0))), .inr (.inl (.int, (List.replicate 16 0))), .inr (.inl (.int, (List.replicate 16 0))), .inr (.inl (.int, (List.replicate 16 0))), .inr (.inl (.int, (List.replicate 4 0))), .inr (.inl (.int, (List.replicate 16 0))), .inr (.inl (.int, (List.replicate 32 0))), .inr (.inl (.int, (List.replicate 32 0))), .inr (.inl (.int, (List.replicate 16 0))), .inr (.inl (.int, (List.replicate 16 0))), .inr (.inl (.int, (List.replicate 16 0))), .inr (.inl (.int, (List.replicate 16 0))), .inr (.inl (.int, (List.replicate 16 0))), .inr (.inl (.int, (List.replicate 16 0))), .inr (.inl (.int, (List.replicate 16 0))), .inr (.inl (.int, (List.replicate 16 0))), .inr (.inl (.int, (List.replicate 16 0))), .inr (.inl (.int, (List.replicate 16 0))), .inr (.inl (.int, (List.replicate 16 0))), .inr (.inl (.int, (List.replicate 16 0))), .inr (.inl (.int, (List.replicate 16 0))), .inr (.inl (.int, (List.replicate 16 0)))])) rfl ?_
          refine QTri.steps Ad W 3 (st' := (283, [some (.ref 0), none, none, some (.int (if (16 : Int32) < (if x1 < (2 : Int32) then (2 : Int32) else x1) then (16 : Int32) else (if x1 < (2 : Int32) then (2 : Int32) else x1))), some (.int (if (1024 : Int32) < (if x2 < (16 : Int32) then (16 : Int32) else x2) then (1024 : Int32) else (if x2 < (16 : Int32) then (16 : Int32) else x2)))], [], [.inl [.ref 1, .ref 2, .ref 3, .ref 4, .ref 5, .ref 6, .ref 7, .ref 8, .ref 9, .ref 10, .ref 11, .ref 12, .ref 13, .ref 14, .ref 15, .ref 16, .ref 17, .ref 18, .ref 19, .ref 20, .ref 21, .ref 22, .ref 23, .ref 24, .ref 25, .ref 26, .ref 27, .ref 28, .int (if (16 : Int32) < (if x1 < (2 : Int32) then (2 : Int32) else x1) then (16 : Int32) else (if x1 < (2 : Int32) then (2 : Int32) else x1)), .int (if (1024 : Int32) < (if x2 < (16 : Int32) then (16 : Int32) else x2) then (1024 : Int32) else (if x2 < (16 : Int32) then (16 : Int32) else x2)), .int (f_n ob0), .int (f_arranged ob0), .int (f_outCount ob0), .int (f_steps ob0), .int (f_status ob0)], .inr (.inl (.int, (List.replicate 16 0))), .inr (.inl (.int, (List.replicate 16 0))), .inr (.inl (.int, (List.replicate 16 0))), .inr (.inl (.int, (List.replicate 16 0))), .inr (.inl (.int, (List.replicate 16 0))), .inr (.inl (.int, (List.replicate 16 0))), .inr (.inl (.int, (List.replicate 16 0))), .inr (.inl (.int, (List.replicate 16 0))), .inr (.inl (.int, (List.replicate 16 0))), .inr (.inl (.int, (List.replicate 16 0))), .inr (.inl (.int, (List.replicate 4 0))), .inr (.inl (.int, (List.replicate 16 0))), .inr (.inl (.int, (List.replicate 32 0))), .inr (.inl (.int, (List.replicate 32 0))), .inr (.inl (.int, (List.replicate 16 0))), .inr (.inl (.int, (List.replicate 16 0))), .inr (.inl (.int, (List.replicate 16 0))), .inr (.inl (.int, (List.replicate 16 0))), .inr (.inl (.int, (List.replicate 16 0))), .inr (.inl (.int, (List.replicate 16 0))), .inr (.inl (.int, (List.replicate 16 0))), .inr (.inl (.int, (List.replicate 16 0))), .inr (.inl (.int, (List.replicate 16 0))), .inr (.inl (.int, (List.replicate 16 0))), .inr (.inl (.int, (List.replicate 16 0))), .inr (.inl (.int, (List.replicate 16 0))), .inr (.inl (.int, (List.replicate 16 0))), .inr (.inl (.int, (List.replicate 16 0)))])) rfl ?_
          refine QTri.steps Ad W 3 (st' := (288, [some (.ref 0), none, none, some (.int (if (16 : Int32) < (if x1 < (2 : Int32) then (2 : Int32) else x1) then (16 : Int32) else (if x1 < (2 : Int32) then (2 : Int32) else x1))), some (.int (if (1024 : Int32) < (if x2 < (16 : Int32) then (16 : Int32) else x2) then (1024 : Int32) else (if x2 < (16 : Int32) then (16 : Int32) else x2)))], [], [.inl [.ref 1, .ref 2, .ref 3, .ref 4, .ref 5, .ref 6, .ref 7, .ref 8, .ref 9, .ref 10, .ref 11, .ref 12, .ref 13, .ref 14, .ref 15, .ref 16, .ref 17, .ref 18, .ref 19, .ref 20, .ref 21, .ref 22, .ref 23, .ref 24, .ref 25, .ref 26, .ref 27, .ref 28, .int (if (16 : Int32) < (if x1 < (2 : Int32) then (2 : Int32) else x1) then (16 : Int32) else (if x1 < (2 : Int32) then (2 : Int32) else x1)), .int (if (1024 : Int32) < (if x2 < (16 : Int32) then (16 : Int32) else x2) then (1024 : Int32) else (if x2 < (16 : Int32) then (16 : Int32) else x2)), .int (0 : Int32), .int (f_arranged ob0), .int (f_outCount ob0), .int (f_steps ob0), .int (f_status ob0)], .inr (.inl (.int, (List.replicate 16 0))), .inr (.inl (.int, (List.replicate 16 0))), .inr (.inl (.int, (List.replicate 16 0))), .inr (.inl (.int, (List.replicate 16 0))), .inr (.inl (.int, (List.replicate 16 0))), .inr (.inl (.int, (List.replicate 16 0))), .inr (.inl (.int, (List.replicate 16 0))), .inr (.inl (.int, (List.replicate 16 0))), .inr (.inl (.int, (List.replicate 16 0))), .inr (.inl (.int, (List.replicate 16 0))), .inr (.inl (.int, (List.replicate 4 0))), .inr (.inl (.int, (List.replicate 16 0))), .inr (.inl (.int, (List.replicate 32 0))), .inr (.inl (.int, (List.replicate 32 0))), .inr (.inl (.int, (List.replicate 16 0))), .inr (.inl (.int, (List.replicate 16 0))), .inr (.inl (.int, (List.replicate 16 0))), .inr (.inl (.int, (List.replicate 16 0))), .inr (.inl (.int, (List.replicate 16 0))), .inr (.inl (.int, (List.replicate 16 0))), .inr (.inl (.int, (List.replicate 16 0))), .inr (.inl (.int, (List.replicate 16 0))), .inr (.inl (.int, (List.replicate 16 0))), .inr (.inl (.int, (List.replicate 16 0))), .inr (.inl (.int, (List.replicate 16 0))), .inr (.inl (.int, (List.replicate 16 0))), .inr (.inl (.int, (List.replicate 16 0))), .inr (.inl (.int, (List.replicate 16 0)))])) rfl ?_
          refine QTri.steps Ad W 3 (st' := (293, [some (.ref 0), none, none, some (.int (if (16 : Int32) < (if x1 < (2 : Int32) then (2 : Int32) else x1) then (16 : Int32) else (if x1 < (2 : Int32) then (2 : Int32) else x1))), some (.int (if (1024 : Int32) < (if x2 < (16 : Int32) then (16 : Int32) else x2) then (1024 : Int32) else (if x2 < (16 : Int32) then (16 : Int32) else x2)))], [], [.inl [.ref 1, .ref 2, .ref 3, .ref 4, .ref 5, .ref 6, .ref 7, .ref 8, .ref 9, .ref 10, .ref 11, .ref 12, .ref 13, .ref 14, .ref 15, .ref 16, .ref 17, .ref 18, .ref 19, .ref 20, .ref 21, .ref 22, .ref 23, .ref 24, .ref 25, .ref 26, .ref 27, .ref 28, .int (if (16 : Int32) < (if x1 < (2 : Int32) then (2 : Int32) else x1) then (16 : Int32) else (if x1 < (2 : Int32) then (2 : Int32) else x1)), .int (if (1024 : Int32) < (if x2 < (16 : Int32) then (16 : Int32) else x2) then (1024 : Int32) else (if x2 < (16 : Int32) then (16 : Int32) else x2)), .int (0 : Int32), .int (0 : Int32), .int (f_outCount ob0), .int (f_steps ob0), .int (f_status ob0)], .inr (.inl (.int, (List.replicate 16 0))), .inr (.inl (.int, (List.replicate 16 0))), .inr (.inl (.int, (List.replicate 16 0))), .inr (.inl (.int, (List.replicate 16 0))), .inr (.inl (.int, (List.replicate 16 0))), .inr (.inl (.int, (List.replicate 16 0))), .inr (.inl (.int, (List.replicate 16 0))), .inr (.inl (.int, (List.replicate 16 0))), .inr (.inl (.int, (List.replicate 16 0))), .inr (.inl (.int, (List.replicate 16 0))), .inr (.inl (.int, (List.replicate 4 0))), .inr (.inl (.int, (List.replicate 16 0))), .inr (.inl (.int, (List.replicate 32 0))), .inr (.inl (.int, (List.replicate 32 0))), .inr (.inl (.int, (List.replicate 16 0))), .inr (.inl (.int, (List.replicate 16 0))), .inr (.inl (.int, (List.replicate 16 0))), .inr (.inl (.int, (List.replicate 16 0))), .inr (.inl (.int, (List.replicate 16 0))), .inr (.inl (.int, (List.replicate 16 0))), .inr (.inl (.int, (List.replicate 16 0))), .inr (.inl (.int, (List.replicate 16 0))), .inr (.inl (.int, (List.replicate 16 0))), .inr (.inl (.int, (List.replicate 16 0))), .inr (.inl (.int, (List.replicate 16 0))), .inr (.inl (.int, (List.replicate 16 0))), .inr (.inl (.int, (List.replicate 16 0))), .inr (.inl (.int, (List.replicate 16 0)))])) rfl ?_
          refine QTri.steps Ad W 3 (st' := (298, [some (.ref 0), none, none, some (.int (if (16 : Int32) < (if x1 < (2 : Int32) then (2 : Int32) else x1) then (16 : Int32) else (if x1 < (2 : Int32) then (2 : Int32) else x1))), some (.int (if (1024 : Int32) < (if x2 < (16 : Int32) then (16 : Int32) else x2) then (1024 : Int32) else (if x2 < (16 : Int32) then (16 : Int32) else x2)))], [], [.inl [.ref 1, .ref 2, .ref 3, .ref 4, .ref 5, .ref 6, .ref 7, .ref 8, .ref 9, .ref 10, .ref 11, .ref 12, .ref 13, .ref 14, .ref 15, .ref 16, .ref 17, .ref 18, .ref 19, .ref 20, .ref 21, .ref 22, .ref 23, .ref 24, .ref 25, .ref 26, .ref 27, .ref 28, .int (if (16 : Int32) < (if x1 < (2 : Int32) then (2 : Int32) else x1) then (16 : Int32) else (if x1 < (2 : Int32) then (2 : Int32) else x1)), .int (if (1024 : Int32) < (if x2 < (16 : Int32) then (16 : Int32) else x2) then (1024 : Int32) else (if x2 < (16 : Int32) then (16 : Int32) else x2)), .int (0 : Int32), .int (0 : Int32), .int (0 : Int32), .int (f_steps ob0), .int (f_status ob0)], .inr (.inl (.int, (List.replicate 16 0))), .inr (.inl (.int, (List.replicate 16 0))), .inr (.inl (.int, (List.replicate 16 0))), .inr (.inl (.int, (List.replicate 16 0))), .inr (.inl (.int, (List.replicate 16 0))), .inr (.inl (.int, (List.replicate 16 0))), .inr (.inl (.int, (List.replicate 16 0))), .inr (.inl (.int, (List.replicate 16 0))), .inr (.inl (.int, (List.replicate 16 0))), .inr (.inl (.int, (List.replicate 16 0))), .inr (.inl (.int, (List.replicate 4 0))), .inr (.inl (.int, (List.replicate 16 0))), .inr (.inl (.int, (List.replicate 32 0))), .inr (.inl (.int, (List.replicate 32 0))), .inr (.inl (.int, (List.replicate 16 0))), .inr (.inl (.int, (List.replicate 16 0))), .inr (.inl (.int, (List.replicate 16 0))), .inr (.inl (.int, (List.replicate 16 0))), .inr (.inl (.int, (List.replicate 16 0))), .inr (.inl (.int, (List.replicate 16 0))), .inr (.inl (.int, (List.replicate 16 0))), .inr (.inl (.int, (List.replicate 16 0))), .inr (.inl (.int, (List.replicate 16 0))), .inr (.inl (.int, (List.replicate 16 0))), .inr (.inl (.int, (List.replicate 16 0))), .inr (.inl (.int, (List.replicate 16 0))), .inr (.inl (.int, (List.replicate 16 0))), .inr (.inl (.int, (List.replicate 16 0)))])) rfl ?_
          refine QTri.steps Ad W 3 (st' := (303, [some (.ref 0), none, none, some (.int (if (16 : Int32) < (if x1 < (2 : Int32) then (2 : Int32) else x1) then (16 : Int32) else (if x1 < (2 : Int32) then (2 : Int32) else x1))), some (.int (if (1024 : Int32) < (if x2 < (16 : Int32) then (16 : Int32) else x2) then (1024 : Int32) else (if x2 < (16 : Int32) then (16 : Int32) else x2)))], [], [.inl [.ref 1, .ref 2, .ref 3, .ref 4, .ref 5, .ref 6, .ref 7, .ref 8, .ref 9, .ref 10, .ref 11, .ref 12, .ref 13, .ref 14, .ref 15, .ref 16, .ref 17, .ref 18, .ref 19, .ref 20, .ref 21, .ref 22, .ref 23, .ref 24, .ref 25, .ref 26, .ref 27, .ref 28, .int (if (16 : Int32) < (if x1 < (2 : Int32) then (2 : Int32) else x1) then (16 : Int32) else (if x1 < (2 : Int32) then (2 : Int32) else x1)), .int (if (1024 : Int32) < (if x2 < (16 : Int32) then (16 : Int32) else x2) then (1024 : Int32) else (if x2 < (16 : Int32) then (16 : Int32) else x2)), .int (0 : Int32), .int (0 : Int32), .int (0 : Int32), .int (0 : Int32), .int (f_status ob0)], .inr (.inl (.int, (List.replicate 16 0))), .inr (.inl (.int, (List.replicate 16 0))), .inr (.inl (.int, (List.replicate 16 0))), .inr (.inl (.int, (List.replicate 16 0))), .inr (.inl (.int, (List.replicate 16 0))), .inr (.inl (.int, (List.replicate 16 0))), .inr (.inl (.int, (List.replicate 16 0))), .inr (.inl (.int, (List.replicate 16 0))), .inr (.inl (.int, (List.replicate 16 0))), .inr (.inl (.int, (List.replicate 16 0))), .inr (.inl (.int, (List.replicate 4 0))), .inr (.inl (.int, (List.replicate 16 0))), .inr (.inl (.int, (List.replicate 32 0))), .inr (.inl (.int, (List.replicate 32 0))), .inr (.inl (.int, (List.replicate 16 0))), .inr (.inl (.int, (List.replicate 16 0))), .inr (.inl (.int, (List.replicate 16 0))), .inr (.inl (.int, (List.replicate 16 0))), .inr (.inl (.int, (List.replicate 16 0))), .inr (.inl (.int, (List.replicate 16 0))), .inr (.inl (.int, (List.replicate 16 0))), .inr (.inl (.int, (List.replicate 16 0))), .inr (.inl (.int, (List.replicate 16 0))), .inr (.inl (.int, (List.replicate 16 0))), .inr (.inl (.int, (List.replicate 16 0))), .inr (.inl (.int, (List.replicate 16 0))), .inr (.inl (.int, (List.replicate 16 0))), .inr (.inl (.int, (List.replicate 16 0)))])) rfl ?_
          refine QTri.steps Ad W 3 (st' := (308, [some (.ref 0), none, none, some (.int (if (16 : Int32) < (if x1 < (2 : Int32) then (2 : Int32) else x1) then (16 : Int32) else (if x1 < (2 : Int32) then (2 : Int32) else x1))), some (.int (if (1024 : Int32) < (if x2 < (16 : Int32) then (16 : Int32) else x2) then (1024 : Int32) else (if x2 < (16 : Int32) then (16 : Int32) else x2)))], [], [.inl [.ref 1, .ref 2, .ref 3, .ref 4, .ref 5, .ref 6, .ref 7, .ref 8, .ref 9, .ref 10, .ref 11, .ref 12, .ref 13, .ref 14, .ref 15, .ref 16, .ref 17, .ref 18, .ref 19, .ref 20, .ref 21, .ref 22, .ref 23, .ref 24, .ref 25, .ref 26, .ref 27, .ref 28, .int (if (16 : Int32) < (if x1 < (2 : Int32) then (2 : Int32) else x1) then (16 : Int32) else (if x1 < (2 : Int32) then (2 : Int32) else x1)), .int (if (1024 : Int32) < (if x2 < (16 : Int32) then (16 : Int32) else x2) then (1024 : Int32) else (if x2 < (16 : Int32) then (16 : Int32) else x2)), .int (0 : Int32), .int (0 : Int32), .int (0 : Int32), .int (0 : Int32), .int (0 : Int32)], .inr (.inl (.int, (List.replicate 16 0))), .inr (.inl (.int, (List.replicate 16 0))), .inr (.inl (.int, (List.replicate 16 0))), .inr (.inl (.int, (List.replicate 16 0))), .inr (.inl (.int, (List.replicate 16 0))), .inr (.inl (.int, (List.replicate 16 0))), .inr (.inl (.int, (List.replicate 16 0))), .inr (.inl (.int, (List.replicate 16 0))), .inr (.inl (.int, (List.replicate 16 0))), .inr (.inl (.int, (List.replicate 16 0))), .inr (.inl (.int, (List.replicate 4 0))), .inr (.inl (.int, (List.replicate 16 0))), .inr (.inl (.int, (List.replicate 32 0))), .inr (.inl (.int, (List.replicate 32 0))), .inr (.inl (.int, (List.replicate 16 0))), .inr (.inl (.int, (List.replicate 16 0))), .inr (.inl (.int, (List.replicate 16 0))), .inr (.inl (.int, (List.replicate 16 0))), .inr (.inl (.int, (List.replicate 16 0))), .inr (.inl (.int, (List.replicate 16 0))), .inr (.inl (.int, (List.replicate 16 0))), .inr (.inl (.int, (List.replicate 16 0))), .inr (.inl (.int, (List.replicate 16 0))), .inr (.inl (.int, (List.replicate 16 0))), .inr (.inl (.int, (List.replicate 16 0))), .inr (.inl (.int, (List.replicate 16 0))), .inr (.inl (.int, (List.replicate 16 0))), .inr (.inl (.int, (List.replicate 16 0)))])) rfl ?_
          have E13 : ([.inl [.ref 1, .ref 2, .ref 3, .ref 4, .ref 5, .ref 6, .ref 7, .ref 8, .ref 9, .ref 10, .ref 11, .ref 12, .ref 13, .ref 14, .ref 15, .ref 16, .ref 17, .ref 18, .ref 19, .ref 20, .ref 21, .ref 22, .ref 23, .ref 24, .ref 25, .ref 26, .ref 27, .ref 28, .int (if (16 : Int32) < (if x1 < (2 : Int32) then (2 : Int32) else x1) then (16 : Int32) else (if x1 < (2 : Int32) then (2 : Int32) else x1)), .int (if (1024 : Int32) < (if x2 < (16 : Int32) then (16 : Int32) else x2) then (1024 : Int32) else (if x2 < (16 : Int32) then (16 : Int32) else x2)), .int (0 : Int32), .int (0 : Int32), .int (0 : Int32), .int (0 : Int32), .int (0 : Int32)], .inr (.inl (.int, (List.replicate 16 0))), .inr (.inl (.int, (List.replicate 16 0))), .inr (.inl (.int, (List.replicate 16 0))), .inr (.inl (.int, (List.replicate 16 0))), .inr (.inl (.int, (List.replicate 16 0))), .inr (.inl (.int, (List.replicate 16 0))), .inr (.inl (.int, (List.replicate 16 0))), .inr (.inl (.int, (List.replicate 16 0))), .inr (.inl (.int, (List.replicate 16 0))), .inr (.inl (.int, (List.replicate 16 0))), .inr (.inl (.int, (List.replicate 4 0))), .inr (.inl (.int, (List.replicate 16 0))), .inr (.inl (.int, (List.replicate 32 0))), .inr (.inl (.int, (List.replicate 32 0))), .inr (.inl (.int, (List.replicate 16 0))), .inr (.inl (.int, (List.replicate 16 0))), .inr (.inl (.int, (List.replicate 16 0))), .inr (.inl (.int, (List.replicate 16 0))), .inr (.inl (.int, (List.replicate 16 0))), .inr (.inl (.int, (List.replicate 16 0))), .inr (.inl (.int, (List.replicate 16 0))), .inr (.inl (.int, (List.replicate 16 0))), .inr (.inl (.int, (List.replicate 16 0))), .inr (.inl (.int, (List.replicate 16 0))), .inr (.inl (.int, (List.replicate 16 0))), .inr (.inl (.int, (List.replicate 16 0))), .inr (.inl (.int, (List.replicate 16 0))), .inr (.inl (.int, (List.replicate 16 0)))] : QHeap) = (H0 (s_status (s_steps (s_outCount (s_arranged (s_n (s_maxSteps (s_maxBlocks (s_cOther (s_cTaken (s_cTest (s_cKind (s_cImm (s_cS (s_cD (s_cOp (s_order (s_posOf (s_heat (s_chHead (s_chPrev (s_chNext (s_edgeW (s_edgeId (s_outs (s_regs (s_cnt1 (s_cnt0 (s_bT1 (s_bT0 (s_bTest (s_bTerm (s_bImm (s_bS (s_bD (s_bOp ob0 (List.replicate 16 0)) (List.replicate 16 0)) (List.replicate 16 0)) (List.replicate 16 0)) (List.replicate 16 0)) (List.replicate 16 0)) (List.replicate 16 0)) (List.replicate 16 0)) (List.replicate 16 0)) (List.replicate 16 0)) (List.replicate 4 0)) (List.replicate 16 0)) (List.replicate 32 0)) (List.replicate 32 0)) (List.replicate 16 0)) (List.replicate 16 0)) (List.replicate 16 0)) (List.replicate 16 0)) (List.replicate 16 0)) (List.replicate 16 0)) (List.replicate 16 0)) (List.replicate 16 0)) (List.replicate 16 0)) (List.replicate 16 0)) (List.replicate 16 0)) (List.replicate 16 0)) (List.replicate 16 0)) (List.replicate 16 0)) (if (16 : Int32) < (if x1 < (2 : Int32) then (2 : Int32) else x1) then (16 : Int32) else (if x1 < (2 : Int32) then (2 : Int32) else x1))) (if (1024 : Int32) < (if x2 < (16 : Int32) then (16 : Int32) else x2) then (1024 : Int32) else (if x2 < (16 : Int32) then (16 : Int32) else x2))) (0 : Int32)) (0 : Int32)) (0 : Int32)) (0 : Int32)) (0 : Int32))) := by dsimp only [H0, f_bOp, f_bD, f_bS, f_bImm, f_bTerm, f_bTest, f_bT0, f_bT1, f_cnt0, f_cnt1, f_regs, f_outs, f_edgeId, f_edgeW, f_chNext, f_chPrev, f_chHead, f_heat, f_posOf, f_order, f_cOp, f_cD, f_cS, f_cImm, f_cKind, f_cTest, f_cTaken, f_cOther, f_maxBlocks, f_maxSteps, f_n, f_arranged, f_outCount, f_steps, f_status, s_bOp, s_bD, s_bS, s_bImm, s_bTerm, s_bTest, s_bT0, s_bT1, s_cnt0, s_cnt1, s_regs, s_outs, s_edgeId, s_edgeW, s_chNext, s_chPrev, s_chHead, s_heat, s_posOf, s_order, s_cOp, s_cD, s_cS, s_cImm, s_cKind, s_cTest, s_cTaken, s_cOther, s_maxBlocks, s_maxSteps, s_n, s_arranged, s_outCount, s_steps, s_status, ob0]
          rw [E13]
          obtain rfl := Option.some.inj h
          exact QTri.ret0 rfl rfl
        rcases Classical.em ((1024 : Int32) < (if x2 < (16 : Int32) then (16 : Int32) else x2)) with hc12 | hc12
        · refine QTri.brF Ad W (t := 272) (f := 267) (L := [some (.ref 0), none, none, some (.int (if (16 : Int32) < (if x1 < (2 : Int32) then (2 : Int32) else x1) then (16 : Int32) else (if x1 < (2 : Int32) then (2 : Int32) else x1))), some (.int (if x2 < (16 : Int32) then (16 : Int32) else x2))]) (S := []) (σ := [.inl [.ref 1, .ref 2, .ref 3, .ref 4, .ref 5, .ref 6, .ref 7, .ref 8, .ref 9, .ref 10, .ref 11, .ref 12, .ref 13, .ref 14, .ref 15, .ref 16, .ref 17, .ref 18, .ref 19, .ref 20, .ref 21, .ref 22, .ref 23, .ref 24, .ref 25, .ref 26, .ref 27, .ref 28, .int (f_maxBlocks ob0), .int (f_maxSteps ob0), .int (f_n ob0), .int (f_arranged ob0), .int (f_outCount ob0), .int (f_steps ob0), .int (f_status ob0)], .inr (.inl (.int, (List.replicate 16 0))), .inr (.inl (.int, (List.replicate 16 0))), .inr (.inl (.int, (List.replicate 16 0))), .inr (.inl (.int, (List.replicate 16 0))), .inr (.inl (.int, (List.replicate 16 0))), .inr (.inl (.int, (List.replicate 16 0))), .inr (.inl (.int, (List.replicate 16 0))), .inr (.inl (.int, (List.replicate 16 0))), .inr (.inl (.int, (List.replicate 16 0))), .inr (.inl (.int, (List.replicate 16 0))), .inr (.inl (.int, (List.replicate 4 0))), .inr (.inl (.int, (List.replicate 16 0))), .inr (.inl (.int, (List.replicate 32 0))), .inr (.inl (.int, (List.replicate 32 0))), .inr (.inl (.int, (List.replicate 16 0))), .inr (.inl (.int, (List.replicate 16 0))), .inr (.inl (.int, (List.replicate 16 0))), .inr (.inl (.int, (List.replicate 16 0))), .inr (.inl (.int, (List.replicate 16 0))), .inr (.inl (.int, (List.replicate 16 0))), .inr (.inl (.int, (List.replicate 16 0))), .inr (.inl (.int, (List.replicate 16 0))), .inr (.inl (.int, (List.replicate 16 0))), .inr (.inl (.int, (List.replicate 16 0))), .inr (.inl (.int, (List.replicate 16 0))), .inr (.inl (.int, (List.replicate 16 0))), .inr (.inl (.int, (List.replicate 16 0))), .inr (.inl (.int, (List.replicate 16 0)))]) rfl (XT.ii_le_f hc12) ?_
          refine QTri.steps Ad W 2 (st' := (272, [some (.ref 0), none, none, some (.int (if (16 : Int32) < (if x1 < (2 : Int32) then (2 : Int32) else x1) then (16 : Int32) else (if x1 < (2 : Int32) then (2 : Int32) else x1))), some (.int (1024 : Int32))], [], [.inl [.ref 1, .ref 2, .ref 3, .ref 4, .ref 5, .ref 6, .ref 7, .ref 8, .ref 9, .ref 10, .ref 11, .ref 12, .ref 13, .ref 14, .ref 15, .ref 16, .ref 17, .ref 18, .ref 19, .ref 20, .ref 21, .ref 22, .ref 23, .ref 24, .ref 25, .ref 26, .ref 27, .ref 28, .int (f_maxBlocks ob0), .int (f_maxSteps ob0), .int (f_n ob0), .int (f_arranged ob0), .int (f_outCount ob0), .int (f_steps ob0), .int (f_status ob0)], .inr (.inl (.int, (List.replicate 16 0))), .inr (.inl (.int, (List.replicate 16 0))), .inr (.inl (.int, (List.replicate 16 0))), .inr (.inl (.int, (List.replicate 16 0))), .inr (.inl (.int, (List.replicate 16 0))), .inr (.inl (.int, (List.replicate 16 0))), .inr (.inl (.int, (List.replicate 16 0))), .inr (.inl (.int, (List.replicate 16 0))), .inr (.inl (.int, (List.replicate 16 0))), .inr (.inl (.int, (List.replicate 16 0))), .inr (.inl (.int, (List.replicate 4 0))), .inr (.inl (.int, (List.replicate 16 0))), .inr (.inl (.int, (List.replicate 32 0))), .inr (.inl (.int, (List.replicate 32 0))), .inr (.inl (.int, (List.replicate 16 0))), .inr (.inl (.int, (List.replicate 16 0))), .inr (.inl (.int, (List.replicate 16 0))), .inr (.inl (.int, (List.replicate 16 0))), .inr (.inl (.int, (List.replicate 16 0))), .inr (.inl (.int, (List.replicate 16 0))), .inr (.inl (.int, (List.replicate 16 0))), .inr (.inl (.int, (List.replicate 16 0))), .inr (.inl (.int, (List.replicate 16 0))), .inr (.inl (.int, (List.replicate 16 0))), .inr (.inl (.int, (List.replicate 16 0))), .inr (.inl (.int, (List.replicate 16 0))), .inr (.inl (.int, (List.replicate 16 0))), .inr (.inl (.int, (List.replicate 16 0)))])) rfl ?_
          exact QTri.mask [true, false, false, true, true] (K11 _ (if_pos hc12).symm)
        · refine QTri.brT Ad W (t := 272) (f := 267) (L := [some (.ref 0), none, none, some (.int (if (16 : Int32) < (if x1 < (2 : Int32) then (2 : Int32) else x1) then (16 : Int32) else (if x1 < (2 : Int32) then (2 : Int32) else x1))), some (.int (if x2 < (16 : Int32) then (16 : Int32) else x2))]) (S := []) (σ := [.inl [.ref 1, .ref 2, .ref 3, .ref 4, .ref 5, .ref 6, .ref 7, .ref 8, .ref 9, .ref 10, .ref 11, .ref 12, .ref 13, .ref 14, .ref 15, .ref 16, .ref 17, .ref 18, .ref 19, .ref 20, .ref 21, .ref 22, .ref 23, .ref 24, .ref 25, .ref 26, .ref 27, .ref 28, .int (f_maxBlocks ob0), .int (f_maxSteps ob0), .int (f_n ob0), .int (f_arranged ob0), .int (f_outCount ob0), .int (f_steps ob0), .int (f_status ob0)], .inr (.inl (.int, (List.replicate 16 0))), .inr (.inl (.int, (List.replicate 16 0))), .inr (.inl (.int, (List.replicate 16 0))), .inr (.inl (.int, (List.replicate 16 0))), .inr (.inl (.int, (List.replicate 16 0))), .inr (.inl (.int, (List.replicate 16 0))), .inr (.inl (.int, (List.replicate 16 0))), .inr (.inl (.int, (List.replicate 16 0))), .inr (.inl (.int, (List.replicate 16 0))), .inr (.inl (.int, (List.replicate 16 0))), .inr (.inl (.int, (List.replicate 4 0))), .inr (.inl (.int, (List.replicate 16 0))), .inr (.inl (.int, (List.replicate 32 0))), .inr (.inl (.int, (List.replicate 32 0))), .inr (.inl (.int, (List.replicate 16 0))), .inr (.inl (.int, (List.replicate 16 0))), .inr (.inl (.int, (List.replicate 16 0))), .inr (.inl (.int, (List.replicate 16 0))), .inr (.inl (.int, (List.replicate 16 0))), .inr (.inl (.int, (List.replicate 16 0))), .inr (.inl (.int, (List.replicate 16 0))), .inr (.inl (.int, (List.replicate 16 0))), .inr (.inl (.int, (List.replicate 16 0))), .inr (.inl (.int, (List.replicate 16 0))), .inr (.inl (.int, (List.replicate 16 0))), .inr (.inl (.int, (List.replicate 16 0))), .inr (.inl (.int, (List.replicate 16 0))), .inr (.inl (.int, (List.replicate 16 0)))]) rfl (XT.ii_le_t hc12) ?_
          exact QTri.mask [true, false, false, true, true] (K11 _ (if_neg hc12).symm)
      rcases Classical.em (x2 < (16 : Int32)) with hc9 | hc9
      · refine QTri.brF Ad W (t := 259) (f := 255) (L := [some (.ref 0), none, some (.int x2), some (.int (if (16 : Int32) < (if x1 < (2 : Int32) then (2 : Int32) else x1) then (16 : Int32) else (if x1 < (2 : Int32) then (2 : Int32) else x1))), some (.int x2)]) (S := []) (σ := [.inl [.ref 1, .ref 2, .ref 3, .ref 4, .ref 5, .ref 6, .ref 7, .ref 8, .ref 9, .ref 10, .ref 11, .ref 12, .ref 13, .ref 14, .ref 15, .ref 16, .ref 17, .ref 18, .ref 19, .ref 20, .ref 21, .ref 22, .ref 23, .ref 24, .ref 25, .ref 26, .ref 27, .ref 28, .int (f_maxBlocks ob0), .int (f_maxSteps ob0), .int (f_n ob0), .int (f_arranged ob0), .int (f_outCount ob0), .int (f_steps ob0), .int (f_status ob0)], .inr (.inl (.int, (List.replicate 16 0))), .inr (.inl (.int, (List.replicate 16 0))), .inr (.inl (.int, (List.replicate 16 0))), .inr (.inl (.int, (List.replicate 16 0))), .inr (.inl (.int, (List.replicate 16 0))), .inr (.inl (.int, (List.replicate 16 0))), .inr (.inl (.int, (List.replicate 16 0))), .inr (.inl (.int, (List.replicate 16 0))), .inr (.inl (.int, (List.replicate 16 0))), .inr (.inl (.int, (List.replicate 16 0))), .inr (.inl (.int, (List.replicate 4 0))), .inr (.inl (.int, (List.replicate 16 0))), .inr (.inl (.int, (List.replicate 32 0))), .inr (.inl (.int, (List.replicate 32 0))), .inr (.inl (.int, (List.replicate 16 0))), .inr (.inl (.int, (List.replicate 16 0))), .inr (.inl (.int, (List.replicate 16 0))), .inr (.inl (.int, (List.replicate 16 0))), .inr (.inl (.int, (List.replicate 16 0))), .inr (.inl (.int, (List.replicate 16 0))), .inr (.inl (.int, (List.replicate 16 0))), .inr (.inl (.int, (List.replicate 16 0))), .inr (.inl (.int, (List.replicate 16 0))), .inr (.inl (.int, (List.replicate 16 0))), .inr (.inl (.int, (List.replicate 16 0))), .inr (.inl (.int, (List.replicate 16 0))), .inr (.inl (.int, (List.replicate 16 0))), .inr (.inl (.int, (List.replicate 16 0)))]) rfl (XT.ii_ge_f hc9) ?_
        refine QTri.steps Ad W 2 (st' := (259, [some (.ref 0), none, some (.int x2), some (.int (if (16 : Int32) < (if x1 < (2 : Int32) then (2 : Int32) else x1) then (16 : Int32) else (if x1 < (2 : Int32) then (2 : Int32) else x1))), some (.int (16 : Int32))], [], [.inl [.ref 1, .ref 2, .ref 3, .ref 4, .ref 5, .ref 6, .ref 7, .ref 8, .ref 9, .ref 10, .ref 11, .ref 12, .ref 13, .ref 14, .ref 15, .ref 16, .ref 17, .ref 18, .ref 19, .ref 20, .ref 21, .ref 22, .ref 23, .ref 24, .ref 25, .ref 26, .ref 27, .ref 28, .int (f_maxBlocks ob0), .int (f_maxSteps ob0), .int (f_n ob0), .int (f_arranged ob0), .int (f_outCount ob0), .int (f_steps ob0), .int (f_status ob0)], .inr (.inl (.int, (List.replicate 16 0))), .inr (.inl (.int, (List.replicate 16 0))), .inr (.inl (.int, (List.replicate 16 0))), .inr (.inl (.int, (List.replicate 16 0))), .inr (.inl (.int, (List.replicate 16 0))), .inr (.inl (.int, (List.replicate 16 0))), .inr (.inl (.int, (List.replicate 16 0))), .inr (.inl (.int, (List.replicate 16 0))), .inr (.inl (.int, (List.replicate 16 0))), .inr (.inl (.int, (List.replicate 16 0))), .inr (.inl (.int, (List.replicate 4 0))), .inr (.inl (.int, (List.replicate 16 0))), .inr (.inl (.int, (List.replicate 32 0))), .inr (.inl (.int, (List.replicate 32 0))), .inr (.inl (.int, (List.replicate 16 0))), .inr (.inl (.int, (List.replicate 16 0))), .inr (.inl (.int, (List.replicate 16 0))), .inr (.inl (.int, (List.replicate 16 0))), .inr (.inl (.int, (List.replicate 16 0))), .inr (.inl (.int, (List.replicate 16 0))), .inr (.inl (.int, (List.replicate 16 0))), .inr (.inl (.int, (List.replicate 16 0))), .inr (.inl (.int, (List.replicate 16 0))), .inr (.inl (.int, (List.replicate 16 0))), .inr (.inl (.int, (List.replicate 16 0))), .inr (.inl (.int, (List.replicate 16 0))), .inr (.inl (.int, (List.replicate 16 0))), .inr (.inl (.int, (List.replicate 16 0)))])) rfl ?_
        exact QTri.mask [true, false, false, true, true] (K8 _ (if_pos hc9).symm)
      · refine QTri.brT Ad W (t := 259) (f := 255) (L := [some (.ref 0), none, some (.int x2), some (.int (if (16 : Int32) < (if x1 < (2 : Int32) then (2 : Int32) else x1) then (16 : Int32) else (if x1 < (2 : Int32) then (2 : Int32) else x1))), some (.int x2)]) (S := []) (σ := [.inl [.ref 1, .ref 2, .ref 3, .ref 4, .ref 5, .ref 6, .ref 7, .ref 8, .ref 9, .ref 10, .ref 11, .ref 12, .ref 13, .ref 14, .ref 15, .ref 16, .ref 17, .ref 18, .ref 19, .ref 20, .ref 21, .ref 22, .ref 23, .ref 24, .ref 25, .ref 26, .ref 27, .ref 28, .int (f_maxBlocks ob0), .int (f_maxSteps ob0), .int (f_n ob0), .int (f_arranged ob0), .int (f_outCount ob0), .int (f_steps ob0), .int (f_status ob0)], .inr (.inl (.int, (List.replicate 16 0))), .inr (.inl (.int, (List.replicate 16 0))), .inr (.inl (.int, (List.replicate 16 0))), .inr (.inl (.int, (List.replicate 16 0))), .inr (.inl (.int, (List.replicate 16 0))), .inr (.inl (.int, (List.replicate 16 0))), .inr (.inl (.int, (List.replicate 16 0))), .inr (.inl (.int, (List.replicate 16 0))), .inr (.inl (.int, (List.replicate 16 0))), .inr (.inl (.int, (List.replicate 16 0))), .inr (.inl (.int, (List.replicate 4 0))), .inr (.inl (.int, (List.replicate 16 0))), .inr (.inl (.int, (List.replicate 32 0))), .inr (.inl (.int, (List.replicate 32 0))), .inr (.inl (.int, (List.replicate 16 0))), .inr (.inl (.int, (List.replicate 16 0))), .inr (.inl (.int, (List.replicate 16 0))), .inr (.inl (.int, (List.replicate 16 0))), .inr (.inl (.int, (List.replicate 16 0))), .inr (.inl (.int, (List.replicate 16 0))), .inr (.inl (.int, (List.replicate 16 0))), .inr (.inl (.int, (List.replicate 16 0))), .inr (.inl (.int, (List.replicate 16 0))), .inr (.inl (.int, (List.replicate 16 0))), .inr (.inl (.int, (List.replicate 16 0))), .inr (.inl (.int, (List.replicate 16 0))), .inr (.inl (.int, (List.replicate 16 0))), .inr (.inl (.int, (List.replicate 16 0)))]) rfl (XT.ii_ge_t hc9) ?_
        exact QTri.mask [true, false, false, true, true] (K8 _ (if_neg hc9).symm)
    rcases Classical.em ((16 : Int32) < (if x1 < (2 : Int32) then (2 : Int32) else x1)) with hc6 | hc6
    · refine QTri.brF Ad W (t := 245) (f := 242) (L := [some (.ref 0), none, some (.int x2), some (.int (if x1 < (2 : Int32) then (2 : Int32) else x1)), none]) (S := []) (σ := [.inl [.ref 1, .ref 2, .ref 3, .ref 4, .ref 5, .ref 6, .ref 7, .ref 8, .ref 9, .ref 10, .ref 11, .ref 12, .ref 13, .ref 14, .ref 15, .ref 16, .ref 17, .ref 18, .ref 19, .ref 20, .ref 21, .ref 22, .ref 23, .ref 24, .ref 25, .ref 26, .ref 27, .ref 28, .int (f_maxBlocks ob0), .int (f_maxSteps ob0), .int (f_n ob0), .int (f_arranged ob0), .int (f_outCount ob0), .int (f_steps ob0), .int (f_status ob0)], .inr (.inl (.int, (List.replicate 16 0))), .inr (.inl (.int, (List.replicate 16 0))), .inr (.inl (.int, (List.replicate 16 0))), .inr (.inl (.int, (List.replicate 16 0))), .inr (.inl (.int, (List.replicate 16 0))), .inr (.inl (.int, (List.replicate 16 0))), .inr (.inl (.int, (List.replicate 16 0))), .inr (.inl (.int, (List.replicate 16 0))), .inr (.inl (.int, (List.replicate 16 0))), .inr (.inl (.int, (List.replicate 16 0))), .inr (.inl (.int, (List.replicate 4 0))), .inr (.inl (.int, (List.replicate 16 0))), .inr (.inl (.int, (List.replicate 32 0))), .inr (.inl (.int, (List.replicate 32 0))), .inr (.inl (.int, (List.replicate 16 0))), .inr (.inl (.int, (List.replicate 16 0))), .inr (.inl (.int, (List.replicate 16 0))), .inr (.inl (.int, (List.replicate 16 0))), .inr (.inl (.int, (List.replicate 16 0))), .inr (.inl (.int, (List.replicate 16 0))), .inr (.inl (.int, (List.replicate 16 0))), .inr (.inl (.int, (List.replicate 16 0))), .inr (.inl (.int, (List.replicate 16 0))), .inr (.inl (.int, (List.replicate 16 0))), .inr (.inl (.int, (List.replicate 16 0))), .inr (.inl (.int, (List.replicate 16 0))), .inr (.inl (.int, (List.replicate 16 0))), .inr (.inl (.int, (List.replicate 16 0)))]) rfl (XT.ii_le_f hc6) ?_
      refine QTri.steps Ad W 2 (st' := (245, [some (.ref 0), none, some (.int x2), some (.int (16 : Int32)), none], [], [.inl [.ref 1, .ref 2, .ref 3, .ref 4, .ref 5, .ref 6, .ref 7, .ref 8, .ref 9, .ref 10, .ref 11, .ref 12, .ref 13, .ref 14, .ref 15, .ref 16, .ref 17, .ref 18, .ref 19, .ref 20, .ref 21, .ref 22, .ref 23, .ref 24, .ref 25, .ref 26, .ref 27, .ref 28, .int (f_maxBlocks ob0), .int (f_maxSteps ob0), .int (f_n ob0), .int (f_arranged ob0), .int (f_outCount ob0), .int (f_steps ob0), .int (f_status ob0)], .inr (.inl (.int, (List.replicate 16 0))), .inr (.inl (.int, (List.replicate 16 0))), .inr (.inl (.int, (List.replicate 16 0))), .inr (.inl (.int, (List.replicate 16 0))), .inr (.inl (.int, (List.replicate 16 0))), .inr (.inl (.int, (List.replicate 16 0))), .inr (.inl (.int, (List.replicate 16 0))), .inr (.inl (.int, (List.replicate 16 0))), .inr (.inl (.int, (List.replicate 16 0))), .inr (.inl (.int, (List.replicate 16 0))), .inr (.inl (.int, (List.replicate 4 0))), .inr (.inl (.int, (List.replicate 16 0))), .inr (.inl (.int, (List.replicate 32 0))), .inr (.inl (.int, (List.replicate 32 0))), .inr (.inl (.int, (List.replicate 16 0))), .inr (.inl (.int, (List.replicate 16 0))), .inr (.inl (.int, (List.replicate 16 0))), .inr (.inl (.int, (List.replicate 16 0))), .inr (.inl (.int, (List.replicate 16 0))), .inr (.inl (.int, (List.replicate 16 0))), .inr (.inl (.int, (List.replicate 16 0))), .inr (.inl (.int, (List.replicate 16 0))), .inr (.inl (.int, (List.replicate 16 0))), .inr (.inl (.int, (List.replicate 16 0))), .inr (.inl (.int, (List.replicate 16 0))), .inr (.inl (.int, (List.replicate 16 0))), .inr (.inl (.int, (List.replicate 16 0))), .inr (.inl (.int, (List.replicate 16 0)))])) rfl ?_
      exact QTri.mask [true, false, true, true, false] (K5 _ (if_pos hc6).symm)
    · refine QTri.brT Ad W (t := 245) (f := 242) (L := [some (.ref 0), none, some (.int x2), some (.int (if x1 < (2 : Int32) then (2 : Int32) else x1)), none]) (S := []) (σ := [.inl [.ref 1, .ref 2, .ref 3, .ref 4, .ref 5, .ref 6, .ref 7, .ref 8, .ref 9, .ref 10, .ref 11, .ref 12, .ref 13, .ref 14, .ref 15, .ref 16, .ref 17, .ref 18, .ref 19, .ref 20, .ref 21, .ref 22, .ref 23, .ref 24, .ref 25, .ref 26, .ref 27, .ref 28, .int (f_maxBlocks ob0), .int (f_maxSteps ob0), .int (f_n ob0), .int (f_arranged ob0), .int (f_outCount ob0), .int (f_steps ob0), .int (f_status ob0)], .inr (.inl (.int, (List.replicate 16 0))), .inr (.inl (.int, (List.replicate 16 0))), .inr (.inl (.int, (List.replicate 16 0))), .inr (.inl (.int, (List.replicate 16 0))), .inr (.inl (.int, (List.replicate 16 0))), .inr (.inl (.int, (List.replicate 16 0))), .inr (.inl (.int, (List.replicate 16 0))), .inr (.inl (.int, (List.replicate 16 0))), .inr (.inl (.int, (List.replicate 16 0))), .inr (.inl (.int, (List.replicate 16 0))), .inr (.inl (.int, (List.replicate 4 0))), .inr (.inl (.int, (List.replicate 16 0))), .inr (.inl (.int, (List.replicate 32 0))), .inr (.inl (.int, (List.replicate 32 0))), .inr (.inl (.int, (List.replicate 16 0))), .inr (.inl (.int, (List.replicate 16 0))), .inr (.inl (.int, (List.replicate 16 0))), .inr (.inl (.int, (List.replicate 16 0))), .inr (.inl (.int, (List.replicate 16 0))), .inr (.inl (.int, (List.replicate 16 0))), .inr (.inl (.int, (List.replicate 16 0))), .inr (.inl (.int, (List.replicate 16 0))), .inr (.inl (.int, (List.replicate 16 0))), .inr (.inl (.int, (List.replicate 16 0))), .inr (.inl (.int, (List.replicate 16 0))), .inr (.inl (.int, (List.replicate 16 0))), .inr (.inl (.int, (List.replicate 16 0))), .inr (.inl (.int, (List.replicate 16 0)))]) rfl (XT.ii_le_t hc6) ?_
      exact QTri.mask [true, false, true, true, false] (K5 _ (if_neg hc6).symm)
  rcases Classical.em (x1 < (2 : Int32)) with hc3 | hc3
  · refine QTri.brF Ad W (t := 236) (f := 234) (L := [some (.ref 0), some (.int x1), some (.int x2), some (.int x1), none]) (S := []) (σ := [.inl [.ref 1, .ref 2, .ref 3, .ref 4, .ref 5, .ref 6, .ref 7, .ref 8, .ref 9, .ref 10, .ref 11, .ref 12, .ref 13, .ref 14, .ref 15, .ref 16, .ref 17, .ref 18, .ref 19, .ref 20, .ref 21, .ref 22, .ref 23, .ref 24, .ref 25, .ref 26, .ref 27, .ref 28, .int (f_maxBlocks ob0), .int (f_maxSteps ob0), .int (f_n ob0), .int (f_arranged ob0), .int (f_outCount ob0), .int (f_steps ob0), .int (f_status ob0)], .inr (.inl (.int, (List.replicate 16 0))), .inr (.inl (.int, (List.replicate 16 0))), .inr (.inl (.int, (List.replicate 16 0))), .inr (.inl (.int, (List.replicate 16 0))), .inr (.inl (.int, (List.replicate 16 0))), .inr (.inl (.int, (List.replicate 16 0))), .inr (.inl (.int, (List.replicate 16 0))), .inr (.inl (.int, (List.replicate 16 0))), .inr (.inl (.int, (List.replicate 16 0))), .inr (.inl (.int, (List.replicate 16 0))), .inr (.inl (.int, (List.replicate 4 0))), .inr (.inl (.int, (List.replicate 16 0))), .inr (.inl (.int, (List.replicate 32 0))), .inr (.inl (.int, (List.replicate 32 0))), .inr (.inl (.int, (List.replicate 16 0))), .inr (.inl (.int, (List.replicate 16 0))), .inr (.inl (.int, (List.replicate 16 0))), .inr (.inl (.int, (List.replicate 16 0))), .inr (.inl (.int, (List.replicate 16 0))), .inr (.inl (.int, (List.replicate 16 0))), .inr (.inl (.int, (List.replicate 16 0))), .inr (.inl (.int, (List.replicate 16 0))), .inr (.inl (.int, (List.replicate 16 0))), .inr (.inl (.int, (List.replicate 16 0))), .inr (.inl (.int, (List.replicate 16 0))), .inr (.inl (.int, (List.replicate 16 0))), .inr (.inl (.int, (List.replicate 16 0))), .inr (.inl (.int, (List.replicate 16 0)))]) rfl (XT.ii_ge_f hc3) ?_
    refine QTri.steps Ad W 2 (st' := (236, [some (.ref 0), some (.int x1), some (.int x2), some (.int (2 : Int32)), none], [], [.inl [.ref 1, .ref 2, .ref 3, .ref 4, .ref 5, .ref 6, .ref 7, .ref 8, .ref 9, .ref 10, .ref 11, .ref 12, .ref 13, .ref 14, .ref 15, .ref 16, .ref 17, .ref 18, .ref 19, .ref 20, .ref 21, .ref 22, .ref 23, .ref 24, .ref 25, .ref 26, .ref 27, .ref 28, .int (f_maxBlocks ob0), .int (f_maxSteps ob0), .int (f_n ob0), .int (f_arranged ob0), .int (f_outCount ob0), .int (f_steps ob0), .int (f_status ob0)], .inr (.inl (.int, (List.replicate 16 0))), .inr (.inl (.int, (List.replicate 16 0))), .inr (.inl (.int, (List.replicate 16 0))), .inr (.inl (.int, (List.replicate 16 0))), .inr (.inl (.int, (List.replicate 16 0))), .inr (.inl (.int, (List.replicate 16 0))), .inr (.inl (.int, (List.replicate 16 0))), .inr (.inl (.int, (List.replicate 16 0))), .inr (.inl (.int, (List.replicate 16 0))), .inr (.inl (.int, (List.replicate 16 0))), .inr (.inl (.int, (List.replicate 4 0))), .inr (.inl (.int, (List.replicate 16 0))), .inr (.inl (.int, (List.replicate 32 0))), .inr (.inl (.int, (List.replicate 32 0))), .inr (.inl (.int, (List.replicate 16 0))), .inr (.inl (.int, (List.replicate 16 0))), .inr (.inl (.int, (List.replicate 16 0))), .inr (.inl (.int, (List.replicate 16 0))), .inr (.inl (.int, (List.replicate 16 0))), .inr (.inl (.int, (List.replicate 16 0))), .inr (.inl (.int, (List.replicate 16 0))), .inr (.inl (.int, (List.replicate 16 0))), .inr (.inl (.int, (List.replicate 16 0))), .inr (.inl (.int, (List.replicate 16 0))), .inr (.inl (.int, (List.replicate 16 0))), .inr (.inl (.int, (List.replicate 16 0))), .inr (.inl (.int, (List.replicate 16 0))), .inr (.inl (.int, (List.replicate 16 0)))])) rfl ?_
    exact QTri.mask [true, false, true, true, false] (K2 _ (if_pos hc3).symm)
  · refine QTri.brT Ad W (t := 236) (f := 234) (L := [some (.ref 0), some (.int x1), some (.int x2), some (.int x1), none]) (S := []) (σ := [.inl [.ref 1, .ref 2, .ref 3, .ref 4, .ref 5, .ref 6, .ref 7, .ref 8, .ref 9, .ref 10, .ref 11, .ref 12, .ref 13, .ref 14, .ref 15, .ref 16, .ref 17, .ref 18, .ref 19, .ref 20, .ref 21, .ref 22, .ref 23, .ref 24, .ref 25, .ref 26, .ref 27, .ref 28, .int (f_maxBlocks ob0), .int (f_maxSteps ob0), .int (f_n ob0), .int (f_arranged ob0), .int (f_outCount ob0), .int (f_steps ob0), .int (f_status ob0)], .inr (.inl (.int, (List.replicate 16 0))), .inr (.inl (.int, (List.replicate 16 0))), .inr (.inl (.int, (List.replicate 16 0))), .inr (.inl (.int, (List.replicate 16 0))), .inr (.inl (.int, (List.replicate 16 0))), .inr (.inl (.int, (List.replicate 16 0))), .inr (.inl (.int, (List.replicate 16 0))), .inr (.inl (.int, (List.replicate 16 0))), .inr (.inl (.int, (List.replicate 16 0))), .inr (.inl (.int, (List.replicate 16 0))), .inr (.inl (.int, (List.replicate 4 0))), .inr (.inl (.int, (List.replicate 16 0))), .inr (.inl (.int, (List.replicate 32 0))), .inr (.inl (.int, (List.replicate 32 0))), .inr (.inl (.int, (List.replicate 16 0))), .inr (.inl (.int, (List.replicate 16 0))), .inr (.inl (.int, (List.replicate 16 0))), .inr (.inl (.int, (List.replicate 16 0))), .inr (.inl (.int, (List.replicate 16 0))), .inr (.inl (.int, (List.replicate 16 0))), .inr (.inl (.int, (List.replicate 16 0))), .inr (.inl (.int, (List.replicate 16 0))), .inr (.inl (.int, (List.replicate 16 0))), .inr (.inl (.int, (List.replicate 16 0))), .inr (.inl (.int, (List.replicate 16 0))), .inr (.inl (.int, (List.replicate 16 0))), .inr (.inl (.int, (List.replicate 16 0))), .inr (.inl (.int, (List.replicate 16 0)))]) rfl (XT.ii_ge_t hc3) ?_
    exact QTri.mask [true, false, true, true, false] (K2 _ (if_neg hc3).symm)
/-- writeTerm(IIII)V -/
def F3 (o : Ob) (x1 : Int32) (x2 : Int32) (x3 : Int32) (x4 : Int32) : Option (Ob) :=
  (aset (f_bTerm o) x1 x2).bind fun y37 => (aset (f_bTest o) x1 x3).bind fun y38 => (aset (f_bT0 o) x1 x4).bind fun y39 => some (s_bT0 (s_bTest (s_bTerm o y37) y38) y39)
theorem tF3 (Ad : QAd n0 ad) (W : QW Z a0) (o : Ob) (x1 : Int32) (x2 : Int32) (x3 : Int32) (x4 : Int32) {r : Ob} (h : F3 o x1 x2 x3 x4 = some r) : QTri l Z n0 ad 3 (0, qentry [.ref 0, .int x1, .int x2, .int x3, .int x4] (pMaxL 3), [], (H0 o)) (none : Option Value) (H0 r) := by
  unfold F3 at h
  refine QTri.steps Ad W 4 (st' := (6, [some (.ref 0), some (.int x1), some (.int x2), some (.int x3), some (.int x4)], [.int x2, .int x1, .ref 5], (H0 o))) rfl ?_
  obtain ⟨y37, hy37, h⟩ := Option.bind_eq_some_iff.mp h
  refine QTri.bnd Ad W (f := fun y37 => (7, [some (.ref 0), some (.int x1), some (.int x2), some (.int x3), some (.int x4)], [], [.inl [.ref 1, .ref 2, .ref 3, .ref 4, .ref 5, .ref 6, .ref 7, .ref 8, .ref 9, .ref 10, .ref 11, .ref 12, .ref 13, .ref 14, .ref 15, .ref 16, .ref 17, .ref 18, .ref 19, .ref 20, .ref 21, .ref 22, .ref 23, .ref 24, .ref 25, .ref 26, .ref 27, .ref 28, .int (f_maxBlocks o), .int (f_maxSteps o), .int (f_n o), .int (f_arranged o), .int (f_outCount o), .int (f_steps o), .int (f_status o)], .inr (.inl (.int, (f_bOp o))), .inr (.inl (.int, (f_bD o))), .inr (.inl (.int, (f_bS o))), .inr (.inl (.int, (f_bImm o))), .inr (.inl (.int, y37)), .inr (.inl (.int, (f_bTest o))), .inr (.inl (.int, (f_bT0 o))), .inr (.inl (.int, (f_bT1 o))), .inr (.inl (.int, (f_cnt0 o))), .inr (.inl (.int, (f_cnt1 o))), .inr (.inl (.int, (f_regs o))), .inr (.inl (.int, (f_outs o))), .inr (.inl (.int, (f_edgeId o))), .inr (.inl (.int, (f_edgeW o))), .inr (.inl (.int, (f_chNext o))), .inr (.inl (.int, (f_chPrev o))), .inr (.inl (.int, (f_chHead o))), .inr (.inl (.int, (f_heat o))), .inr (.inl (.int, (f_posOf o))), .inr (.inl (.int, (f_order o))), .inr (.inl (.int, (f_cOp o))), .inr (.inl (.int, (f_cD o))), .inr (.inl (.int, (f_cS o))), .inr (.inl (.int, (f_cImm o))), .inr (.inl (.int, (f_cKind o))), .inr (.inl (.int, (f_cTest o))), .inr (.inl (.int, (f_cTaken o))), .inr (.inl (.int, (f_cOther o)))])) rfl hy37 ?_
  refine QTri.steps Ad W 4 (st' := (13, [some (.ref 0), some (.int x1), some (.int x2), some (.int x3), some (.int x4)], [.int x3, .int x1, .ref 6], [.inl [.ref 1, .ref 2, .ref 3, .ref 4, .ref 5, .ref 6, .ref 7, .ref 8, .ref 9, .ref 10, .ref 11, .ref 12, .ref 13, .ref 14, .ref 15, .ref 16, .ref 17, .ref 18, .ref 19, .ref 20, .ref 21, .ref 22, .ref 23, .ref 24, .ref 25, .ref 26, .ref 27, .ref 28, .int (f_maxBlocks o), .int (f_maxSteps o), .int (f_n o), .int (f_arranged o), .int (f_outCount o), .int (f_steps o), .int (f_status o)], .inr (.inl (.int, (f_bOp o))), .inr (.inl (.int, (f_bD o))), .inr (.inl (.int, (f_bS o))), .inr (.inl (.int, (f_bImm o))), .inr (.inl (.int, y37)), .inr (.inl (.int, (f_bTest o))), .inr (.inl (.int, (f_bT0 o))), .inr (.inl (.int, (f_bT1 o))), .inr (.inl (.int, (f_cnt0 o))), .inr (.inl (.int, (f_cnt1 o))), .inr (.inl (.int, (f_regs o))), .inr (.inl (.int, (f_outs o))), .inr (.inl (.int, (f_edgeId o))), .inr (.inl (.int, (f_edgeW o))), .inr (.inl (.int, (f_chNext o))), .inr (.inl (.int, (f_chPrev o))), .inr (.inl (.int, (f_chHead o))), .inr (.inl (.int, (f_heat o))), .inr (.inl (.int, (f_posOf o))), .inr (.inl (.int, (f_order o))), .inr (.inl (.int, (f_cOp o))), .inr (.inl (.int, (f_cD o))), .inr (.inl (.int, (f_cS o))), .inr (.inl (.int, (f_cImm o))), .inr (.inl (.int, (f_cKind o))), .inr (.inl (.int, (f_cTest o))), .inr (.inl (.int, (f_cTaken o))), .inr (.inl (.int, (f_cOther o)))])) rfl ?_
  obtain ⟨y38, hy38, h⟩ := Option.bind_eq_some_iff.mp h
  refine QTri.bnd Ad W (f := fun y38 => (14, [some (.ref 0), some (.int x1), some (.int x2), some (.int x3), some (.int x4)], [], [.inl [.ref 1, .ref 2, .ref 3, .ref 4, .ref 5, .ref 6, .ref 7, .ref 8, .ref 9, .ref 10, .ref 11, .ref 12, .ref 13, .ref 14, .ref 15, .ref 16, .ref 17, .ref 18, .ref 19, .ref 20, .ref 21, .ref 22, .ref 23, .ref 24, .ref 25, .ref 26, .ref 27, .ref 28, .int (f_maxBlocks o), .int (f_maxSteps o), .int (f_n o), .int (f_arranged o), .int (f_outCount o), .int (f_steps o), .int (f_status o)], .inr (.inl (.int, (f_bOp o))), .inr (.inl (.int, (f_bD o))), .inr (.inl (.int, (f_bS o))), .inr (.inl (.int, (f_bImm o))), .inr (.inl (.int, y37)), .inr (.inl (.int, y38)), .inr (.inl (.int, (f_bT0 o))), .inr (.inl (.int, (f_bT1 o))), .inr (.inl (.int, (f_cnt0 o))), .inr (.inl (.int, (f_cnt1 o))), .inr (.inl (.int, (f_regs o))), .inr (.inl (.int, (f_outs o))), .inr (.inl (.int, (f_edgeId o))), .inr (.inl (.int, (f_edgeW o))), .inr (.inl (.int, (f_chNext o))), .inr (.inl (.int, (f_chPrev o))), .inr (.inl (.int, (f_chHead o))), .inr (.inl (.int, (f_heat o))), .inr (.inl (.int, (f_posOf o))), .inr (.inl (.int, (f_order o))), .inr (.inl (.int, (f_cOp o))), .inr (.inl (.int, (f_cD o))), .inr (.inl (.int, (f_cS o))), .inr (.inl (.int, (f_cImm o))), .inr (.inl (.int, (f_cKind o))), .inr (.inl (.int, (f_cTest o))), .inr (.inl (.int, (f_cTaken o))), .inr (.inl (.int, (f_cOther o)))])) rfl hy38 ?_
  refine QTri.steps Ad W 4 (st' := (21, [some (.ref 0), some (.int x1), some (.int x2), some (.int x3), some (.int x4)], [.int x4, .int x1, .ref 7], [.inl [.ref 1, .ref 2, .ref 3, .ref 4, .ref 5, .ref 6, .ref 7, .ref 8, .ref 9, .ref 10, .ref 11, .ref 12, .ref 13, .ref 14, .ref 15, .ref 16, .ref 17, .ref 18, .ref 19, .ref 20, .ref 21, .ref 22, .ref 23, .ref 24, .ref 25, .ref 26, .ref 27, .ref 28, .int (f_maxBlocks o), .int (f_maxSteps o), .int (f_n o), .int (f_arranged o), .int (f_outCount o), .int (f_steps o), .int (f_status o)], .inr (.inl (.int, (f_bOp o))), .inr (.inl (.int, (f_bD o))), .inr (.inl (.int, (f_bS o))), .inr (.inl (.int, (f_bImm o))), .inr (.inl (.int, y37)), .inr (.inl (.int, y38)), .inr (.inl (.int, (f_bT0 o))), .inr (.inl (.int, (f_bT1 o))), .inr (.inl (.int, (f_cnt0 o))), .inr (.inl (.int, (f_cnt1 o))), .inr (.inl (.int, (f_regs o))), .inr (.inl (.int, (f_outs o))), .inr (.inl (.int, (f_edgeId o))), .inr (.inl (.int, (f_edgeW o))), .inr (.inl (.int, (f_chNext o))), .inr (.inl (.int, (f_chPrev o))), .inr (.inl (.int, (f_chHead o))), .inr (.inl (.int, (f_heat o))), .inr (.inl (.int, (f_posOf o))), .inr (.inl (.int, (f_order o))), .inr (.inl (.int, (f_cOp o))), .inr (.inl (.int, (f_cD o))), .inr (.inl (.int, (f_cS o))), .inr (.inl (.int, (f_cImm o))), .inr (.inl (.int, (f_cKind o))), .inr (.inl (.int, (f_cTest o))), .inr (.inl (.int, (f_cTaken o))), .inr (.inl (.int, (f_cOther o)))])) rfl ?_
  obtain ⟨y39, hy39, h⟩ := Option.bind_eq_some_iff.mp h
  refine QTri.bnd Ad W (f := fun y39 => (22, [some (.ref 0), some (.int x1), some (.int x2), some (.int x3), some (.int x4)], [], [.inl [.ref 1, .ref 2, .ref 3, .ref 4, .ref 5, .ref 6, .ref 7, .ref 8, .ref 9, .ref 10, .ref 11, .ref 12, .ref 13, .ref 14, .ref 15, .ref 16, .ref 17, .ref 18, .ref 19, .ref 20, .ref 21, .ref 22, .ref 23, .ref 24, .ref 25, .ref 26, .ref 27, .ref 28, .int (f_maxBlocks o), .int (f_maxSteps o), .int (f_n o), .int (f_arranged o), .int (f_outCount o), .int (f_steps o), .int (f_status o)], .inr (.inl (.int, (f_bOp o))), .inr (.inl (.int, (f_bD o))), .inr (.inl (.int, (f_bS o))), .inr (.inl (.int, (f_bImm o))), .inr (.inl (.int, y37)), .inr (.inl (.int, y38)), .inr (.inl (.int, y39)), .inr (.inl (.int, (f_bT1 o))), .inr (.inl (.int, (f_cnt0 o))), .inr (.inl (.int, (f_cnt1 o))), .inr (.inl (.int, (f_regs o))), .inr (.inl (.int, (f_outs o))), .inr (.inl (.int, (f_edgeId o))), .inr (.inl (.int, (f_edgeW o))), .inr (.inl (.int, (f_chNext o))), .inr (.inl (.int, (f_chPrev o))), .inr (.inl (.int, (f_chHead o))), .inr (.inl (.int, (f_heat o))), .inr (.inl (.int, (f_posOf o))), .inr (.inl (.int, (f_order o))), .inr (.inl (.int, (f_cOp o))), .inr (.inl (.int, (f_cD o))), .inr (.inl (.int, (f_cS o))), .inr (.inl (.int, (f_cImm o))), .inr (.inl (.int, (f_cKind o))), .inr (.inl (.int, (f_cTest o))), .inr (.inl (.int, (f_cTaken o))), .inr (.inl (.int, (f_cOther o)))])) rfl hy39 ?_
  have E40 : ([.inl [.ref 1, .ref 2, .ref 3, .ref 4, .ref 5, .ref 6, .ref 7, .ref 8, .ref 9, .ref 10, .ref 11, .ref 12, .ref 13, .ref 14, .ref 15, .ref 16, .ref 17, .ref 18, .ref 19, .ref 20, .ref 21, .ref 22, .ref 23, .ref 24, .ref 25, .ref 26, .ref 27, .ref 28, .int (f_maxBlocks o), .int (f_maxSteps o), .int (f_n o), .int (f_arranged o), .int (f_outCount o), .int (f_steps o), .int (f_status o)], .inr (.inl (.int, (f_bOp o))), .inr (.inl (.int, (f_bD o))), .inr (.inl (.int, (f_bS o))), .inr (.inl (.int, (f_bImm o))), .inr (.inl (.int, y37)), .inr (.inl (.int, y38)), .inr (.inl (.int, y39)), .inr (.inl (.int, (f_bT1 o))), .inr (.inl (.int, (f_cnt0 o))), .inr (.inl (.int, (f_cnt1 o))), .inr (.inl (.int, (f_regs o))), .inr (.inl (.int, (f_outs o))), .inr (.inl (.int, (f_edgeId o))), .inr (.inl (.int, (f_edgeW o))), .inr (.inl (.int, (f_chNext o))), .inr (.inl (.int, (f_chPrev o))), .inr (.inl (.int, (f_chHead o))), .inr (.inl (.int, (f_heat o))), .inr (.inl (.int, (f_posOf o))), .inr (.inl (.int, (f_order o))), .inr (.inl (.int, (f_cOp o))), .inr (.inl (.int, (f_cD o))), .inr (.inl (.int, (f_cS o))), .inr (.inl (.int, (f_cImm o))), .inr (.inl (.int, (f_cKind o))), .inr (.inl (.int, (f_cTest o))), .inr (.inl (.int, (f_cTaken o))), .inr (.inl (.int, (f_cOther o)))] : QHeap) = (H0 (s_bT0 (s_bTest (s_bTerm o y37) y38) y39)) := by dsimp only [H0, f_bOp, f_bD, f_bS, f_bImm, f_bTerm, f_bTest, f_bT0, f_bT1, f_cnt0, f_cnt1, f_regs, f_outs, f_edgeId, f_edgeW, f_chNext, f_chPrev, f_chHead, f_heat, f_posOf, f_order, f_cOp, f_cD, f_cS, f_cImm, f_cKind, f_cTest, f_cTaken, f_cOther, f_maxBlocks, f_maxSteps, f_n, f_arranged, f_outCount, f_steps, f_status, s_bTerm, s_bTest, s_bT0]
  rw [E40]
  obtain rfl := Option.some.inj h
  exact QTri.ret0 rfl rfl
def B4_2 (v : Int32 × Ob) : Option (((Ob)) ⊕ (Int32 × Ob)) :=
  (if v.1 < (16 : Int32) then (aset (f_cnt0 v.2) v.1 (0 : Int32)).bind fun y45 => (aset (f_cnt1 v.2) v.1 (0 : Int32)).bind fun y46 => some (.inr ((v.1 + (1 : Int32)), (s_cnt1 (s_cnt0 v.2 y45) y46))) else some (.inl v.2))
theorem tB4_2 (Ad : QAd n0 ad) (W : QW Z a0) (v : Int32 × Ob) {r : ((Ob)) ⊕ (Int32 × Ob)} {u : Option Value} {τ : QHeap} (h : B4_2 v = some r) (hx0 : ∀ x : Ob, r = .inl x → u = (none : Option Value) ∧ τ = (H0 x)) (hc : ∀ x : Int32 × Ob, r = .inr x → QTri l Z n0 ad 4 (2, [some (.ref 0), some (.int x.1)], [], (H0 x.2)) u τ) : QTri l Z n0 ad 4 (2, [some (.ref 0), some (.int v.1)], [], (H0 v.2)) u τ := by
  unfold B4_2 at h
  refine QTri.steps Ad W 2 (st' := (5, [some (.ref 0), some (.int v.1)], [.int (16 : Int32), .int v.1], (H0 v.2))) rfl ?_
  rcases qite h with ⟨hc44, h⟩ | ⟨hc44, h⟩
  · refine QTri.brF Ad W (t := 28) (f := 8) (L := [some (.ref 0), some (.int v.1)]) (S := []) (σ := (H0 v.2)) rfl (XT.ii_ge_f hc44) ?_
    refine QTri.steps Ad W 4 (st' := (14, [some (.ref 0), some (.int v.1)], [.int (0 : Int32), .int v.1, .ref 9], (H0 v.2))) rfl ?_
    obtain ⟨y45, hy45, h⟩ := Option.bind_eq_some_iff.mp h
    refine QTri.bnd Ad W (f := fun y45 => (15, [some (.ref 0), some (.int v.1)], [], [.inl [.ref 1, .ref 2, .ref 3, .ref 4, .ref 5, .ref 6, .ref 7, .ref 8, .ref 9, .ref 10, .ref 11, .ref 12, .ref 13, .ref 14, .ref 15, .ref 16, .ref 17, .ref 18, .ref 19, .ref 20, .ref 21, .ref 22, .ref 23, .ref 24, .ref 25, .ref 26, .ref 27, .ref 28, .int (f_maxBlocks v.2), .int (f_maxSteps v.2), .int (f_n v.2), .int (f_arranged v.2), .int (f_outCount v.2), .int (f_steps v.2), .int (f_status v.2)], .inr (.inl (.int, (f_bOp v.2))), .inr (.inl (.int, (f_bD v.2))), .inr (.inl (.int, (f_bS v.2))), .inr (.inl (.int, (f_bImm v.2))), .inr (.inl (.int, (f_bTerm v.2))), .inr (.inl (.int, (f_bTest v.2))), .inr (.inl (.int, (f_bT0 v.2))), .inr (.inl (.int, (f_bT1 v.2))), .inr (.inl (.int, y45)), .inr (.inl (.int, (f_cnt1 v.2))), .inr (.inl (.int, (f_regs v.2))), .inr (.inl (.int, (f_outs v.2))), .inr (.inl (.int, (f_edgeId v.2))), .inr (.inl (.int, (f_edgeW v.2))), .inr (.inl (.int, (f_chNext v.2))), .inr (.inl (.int, (f_chPrev v.2))), .inr (.inl (.int, (f_chHead v.2))), .inr (.inl (.int, (f_heat v.2))), .inr (.inl (.int, (f_posOf v.2))), .inr (.inl (.int, (f_order v.2))), .inr (.inl (.int, (f_cOp v.2))), .inr (.inl (.int, (f_cD v.2))), .inr (.inl (.int, (f_cS v.2))), .inr (.inl (.int, (f_cImm v.2))), .inr (.inl (.int, (f_cKind v.2))), .inr (.inl (.int, (f_cTest v.2))), .inr (.inl (.int, (f_cTaken v.2))), .inr (.inl (.int, (f_cOther v.2)))])) rfl hy45 ?_
    refine QTri.steps Ad W 4 (st' := (21, [some (.ref 0), some (.int v.1)], [.int (0 : Int32), .int v.1, .ref 10], [.inl [.ref 1, .ref 2, .ref 3, .ref 4, .ref 5, .ref 6, .ref 7, .ref 8, .ref 9, .ref 10, .ref 11, .ref 12, .ref 13, .ref 14, .ref 15, .ref 16, .ref 17, .ref 18, .ref 19, .ref 20, .ref 21, .ref 22, .ref 23, .ref 24, .ref 25, .ref 26, .ref 27, .ref 28, .int (f_maxBlocks v.2), .int (f_maxSteps v.2), .int (f_n v.2), .int (f_arranged v.2), .int (f_outCount v.2), .int (f_steps v.2), .int (f_status v.2)], .inr (.inl (.int, (f_bOp v.2))), .inr (.inl (.int, (f_bD v.2))), .inr (.inl (.int, (f_bS v.2))), .inr (.inl (.int, (f_bImm v.2))), .inr (.inl (.int, (f_bTerm v.2))), .inr (.inl (.int, (f_bTest v.2))), .inr (.inl (.int, (f_bT0 v.2))), .inr (.inl (.int, (f_bT1 v.2))), .inr (.inl (.int, y45)), .inr (.inl (.int, (f_cnt1 v.2))), .inr (.inl (.int, (f_regs v.2))), .inr (.inl (.int, (f_outs v.2))), .inr (.inl (.int, (f_edgeId v.2))), .inr (.inl (.int, (f_edgeW v.2))), .inr (.inl (.int, (f_chNext v.2))), .inr (.inl (.int, (f_chPrev v.2))), .inr (.inl (.int, (f_chHead v.2))), .inr (.inl (.int, (f_heat v.2))), .inr (.inl (.int, (f_posOf v.2))), .inr (.inl (.int, (f_order v.2))), .inr (.inl (.int, (f_cOp v.2))), .inr (.inl (.int, (f_cD v.2))), .inr (.inl (.int, (f_cS v.2))), .inr (.inl (.int, (f_cImm v.2))), .inr (.inl (.int, (f_cKind v.2))), .inr (.inl (.int, (f_cTest v.2))), .inr (.inl (.int, (f_cTaken v.2))), .inr (.inl (.int, (f_cOther v.2)))])) rfl ?_
    obtain ⟨y46, hy46, h⟩ := Option.bind_eq_some_iff.mp h
    refine QTri.bnd Ad W (f := fun y46 => (22, [some (.ref 0), some (.int v.1)], [], [.inl [.ref 1, .ref 2, .ref 3, .ref 4, .ref 5, .ref 6, .ref 7, .ref 8, .ref 9, .ref 10, .ref 11, .ref 12, .ref 13, .ref 14, .ref 15, .ref 16, .ref 17, .ref 18, .ref 19, .ref 20, .ref 21, .ref 22, .ref 23, .ref 24, .ref 25, .ref 26, .ref 27, .ref 28, .int (f_maxBlocks v.2), .int (f_maxSteps v.2), .int (f_n v.2), .int (f_arranged v.2), .int (f_outCount v.2), .int (f_steps v.2), .int (f_status v.2)], .inr (.inl (.int, (f_bOp v.2))), .inr (.inl (.int, (f_bD v.2))), .inr (.inl (.int, (f_bS v.2))), .inr (.inl (.int, (f_bImm v.2))), .inr (.inl (.int, (f_bTerm v.2))), .inr (.inl (.int, (f_bTest v.2))), .inr (.inl (.int, (f_bT0 v.2))), .inr (.inl (.int, (f_bT1 v.2))), .inr (.inl (.int, y45)), .inr (.inl (.int, y46)), .inr (.inl (.int, (f_regs v.2))), .inr (.inl (.int, (f_outs v.2))), .inr (.inl (.int, (f_edgeId v.2))), .inr (.inl (.int, (f_edgeW v.2))), .inr (.inl (.int, (f_chNext v.2))), .inr (.inl (.int, (f_chPrev v.2))), .inr (.inl (.int, (f_chHead v.2))), .inr (.inl (.int, (f_heat v.2))), .inr (.inl (.int, (f_posOf v.2))), .inr (.inl (.int, (f_order v.2))), .inr (.inl (.int, (f_cOp v.2))), .inr (.inl (.int, (f_cD v.2))), .inr (.inl (.int, (f_cS v.2))), .inr (.inl (.int, (f_cImm v.2))), .inr (.inl (.int, (f_cKind v.2))), .inr (.inl (.int, (f_cTest v.2))), .inr (.inl (.int, (f_cTaken v.2))), .inr (.inl (.int, (f_cOther v.2)))])) rfl hy46 ?_
    refine QTri.steps Ad W 2 (st' := (2, [some (.ref 0), some (.int (v.1 + (1 : Int32)))], [], [.inl [.ref 1, .ref 2, .ref 3, .ref 4, .ref 5, .ref 6, .ref 7, .ref 8, .ref 9, .ref 10, .ref 11, .ref 12, .ref 13, .ref 14, .ref 15, .ref 16, .ref 17, .ref 18, .ref 19, .ref 20, .ref 21, .ref 22, .ref 23, .ref 24, .ref 25, .ref 26, .ref 27, .ref 28, .int (f_maxBlocks v.2), .int (f_maxSteps v.2), .int (f_n v.2), .int (f_arranged v.2), .int (f_outCount v.2), .int (f_steps v.2), .int (f_status v.2)], .inr (.inl (.int, (f_bOp v.2))), .inr (.inl (.int, (f_bD v.2))), .inr (.inl (.int, (f_bS v.2))), .inr (.inl (.int, (f_bImm v.2))), .inr (.inl (.int, (f_bTerm v.2))), .inr (.inl (.int, (f_bTest v.2))), .inr (.inl (.int, (f_bT0 v.2))), .inr (.inl (.int, (f_bT1 v.2))), .inr (.inl (.int, y45)), .inr (.inl (.int, y46)), .inr (.inl (.int, (f_regs v.2))), .inr (.inl (.int, (f_outs v.2))), .inr (.inl (.int, (f_edgeId v.2))), .inr (.inl (.int, (f_edgeW v.2))), .inr (.inl (.int, (f_chNext v.2))), .inr (.inl (.int, (f_chPrev v.2))), .inr (.inl (.int, (f_chHead v.2))), .inr (.inl (.int, (f_heat v.2))), .inr (.inl (.int, (f_posOf v.2))), .inr (.inl (.int, (f_order v.2))), .inr (.inl (.int, (f_cOp v.2))), .inr (.inl (.int, (f_cD v.2))), .inr (.inl (.int, (f_cS v.2))), .inr (.inl (.int, (f_cImm v.2))), .inr (.inl (.int, (f_cKind v.2))), .inr (.inl (.int, (f_cTest v.2))), .inr (.inl (.int, (f_cTaken v.2))), .inr (.inl (.int, (f_cOther v.2)))])) rfl ?_
    have E47 : ([.inl [.ref 1, .ref 2, .ref 3, .ref 4, .ref 5, .ref 6, .ref 7, .ref 8, .ref 9, .ref 10, .ref 11, .ref 12, .ref 13, .ref 14, .ref 15, .ref 16, .ref 17, .ref 18, .ref 19, .ref 20, .ref 21, .ref 22, .ref 23, .ref 24, .ref 25, .ref 26, .ref 27, .ref 28, .int (f_maxBlocks v.2), .int (f_maxSteps v.2), .int (f_n v.2), .int (f_arranged v.2), .int (f_outCount v.2), .int (f_steps v.2), .int (f_status v.2)], .inr (.inl (.int, (f_bOp v.2))), .inr (.inl (.int, (f_bD v.2))), .inr (.inl (.int, (f_bS v.2))), .inr (.inl (.int, (f_bImm v.2))), .inr (.inl (.int, (f_bTerm v.2))), .inr (.inl (.int, (f_bTest v.2))), .inr (.inl (.int, (f_bT0 v.2))), .inr (.inl (.int, (f_bT1 v.2))), .inr (.inl (.int, y45)), .inr (.inl (.int, y46)), .inr (.inl (.int, (f_regs v.2))), .inr (.inl (.int, (f_outs v.2))), .inr (.inl (.int, (f_edgeId v.2))), .inr (.inl (.int, (f_edgeW v.2))), .inr (.inl (.int, (f_chNext v.2))), .inr (.inl (.int, (f_chPrev v.2))), .inr (.inl (.int, (f_chHead v.2))), .inr (.inl (.int, (f_heat v.2))), .inr (.inl (.int, (f_posOf v.2))), .inr (.inl (.int, (f_order v.2))), .inr (.inl (.int, (f_cOp v.2))), .inr (.inl (.int, (f_cD v.2))), .inr (.inl (.int, (f_cS v.2))), .inr (.inl (.int, (f_cImm v.2))), .inr (.inl (.int, (f_cKind v.2))), .inr (.inl (.int, (f_cTest v.2))), .inr (.inl (.int, (f_cTaken v.2))), .inr (.inl (.int, (f_cOther v.2)))] : QHeap) = (H0 (s_cnt1 (s_cnt0 v.2 y45) y46)) := by dsimp only [H0, f_bOp, f_bD, f_bS, f_bImm, f_bTerm, f_bTest, f_bT0, f_bT1, f_cnt0, f_cnt1, f_regs, f_outs, f_edgeId, f_edgeW, f_chNext, f_chPrev, f_chHead, f_heat, f_posOf, f_order, f_cOp, f_cD, f_cS, f_cImm, f_cKind, f_cTest, f_cTaken, f_cOther, f_maxBlocks, f_maxSteps, f_n, f_arranged, f_outCount, f_steps, f_status, s_cnt0, s_cnt1]
    rw [E47]
    obtain rfl := Option.some.inj h
    exact QTri.mask [true, true] (hc ((v.1 + (1 : Int32)), (s_cnt1 (s_cnt0 v.2 y45) y46)) rfl)
  · refine QTri.brT Ad W (t := 28) (f := 8) (L := [some (.ref 0), some (.int v.1)]) (S := []) (σ := (H0 v.2)) rfl (XT.ii_ge_t hc44) ?_
    obtain rfl := Option.some.inj h
    obtain ⟨rfl, rfl⟩ := hx0 v.2 rfl
    exact QTri.ret0 rfl rfl
/-- clearCounts()V -/
def F4 (o : Ob) : Option (Ob) :=
  (loopN (B4_2) qN ((0 : Int32), o)).bind fun e48 => some e48
theorem tF4 (Ad : QAd n0 ad) (W : QW Z a0) (o : Ob) {r : Ob} (h : F4 o = some r) : QTri l Z n0 ad 4 (0, qentry [.ref 0] (pMaxL 4), [], (H0 o)) (none : Option Value) (H0 r) := by
  unfold F4 at h
  refine QTri.steps Ad W 2 (st' := (2, [some (.ref 0), some (.int (0 : Int32))], [], (H0 o))) rfl ?_
  obtain ⟨e48, he48, h⟩ := Option.bind_eq_some_iff.mp h
  refine QTri.mask [true, true] (loopN_tri (B := B4_2) (T := fun v => QTri l Z n0 ad 4 (2, [some (.ref 0), some (.int v.1)], [], (H0 v.2)) (none : Option Value) (H0 r)) (KE := fun e48a => (none : Option Value) = (none : Option Value) ∧ (H0 r) = (H0 e48a)) (fun v r hB hE hC => tB4_2 Ad W  v hB (fun x q => hE _ q) (fun x q => hC x q)) qN ((0 : Int32), o) e48 he48 ?_)
  obtain rfl := Option.some.inj h
  exact ⟨rfl, rfl⟩
/-- addBlock(IIII)I -/
def F2 (o : Ob) (x1 : Int32) (x2 : Int32) (x3 : Int32) (x4 : Int32) : Option (Int32 × Ob) :=
  (if (f_arranged o) = (0 : Int32) then (if (f_n o) = (f_maxBlocks o) then some ((-1 : Int32), o) else (if (f_n o) < (16 : Int32) then (if x1 < (0 : Int32) then some ((-1 : Int32), o) else (if (7 : Int32) < x1 then some ((-1 : Int32), o) else (if x2 < (0 : Int32) then some ((-1 : Int32), o) else (if (3 : Int32) < x2 then some ((-1 : Int32), o) else (if x3 < (0 : Int32) then some ((-1 : Int32), o) else (if (3 : Int32) < x3 then some ((-1 : Int32), o) else (aset (f_bOp o) (f_n o) x1).bind fun y32 => (aset (f_bD o) (f_n o) x2).bind fun y33 => (aset (f_bS o) (f_n o) x3).bind fun y34 => (aset (f_bImm o) (f_n o) x4).bind fun y35 => (F3 (s_bImm (s_bS (s_bD (s_bOp o y32) y33) y34) y35) (f_n o) (0 : Int32) (0 : Int32) (0 : Int32)).bind fun r41 => (aset (f_bT1 r41) (f_n o) (0 : Int32)).bind fun y42 => (F4 (s_n (s_bT1 r41 y42) ((f_n o) + (1 : Int32)))).bind fun r49 => some ((f_n o), r49))))))) else some ((-1 : Int32), o))) else some ((-1 : Int32), o))
theorem tF2 (Ad : QAd n0 ad) (W : QW Z a0) (o : Ob) (x1 : Int32) (x2 : Int32) (x3 : Int32) (x4 : Int32) {r : Int32 × Ob} (h : F2 o x1 x2 x3 x4 = some r) : QTri l Z n0 ad 2 (0, qentry [.ref 0, .int x1, .int x2, .int x3, .int x4] (pMaxL 2), [], (H0 o)) (some (Value.int r.1)) (H0 r.2) := by
  unfold F2 at h
  refine QTri.steps Ad W 2 (st' := (4, [some (.ref 0), some (.int x1), some (.int x2), some (.int x3), some (.int x4), none], [.int (f_arranged o)], (H0 o))) rfl ?_
  rcases qite h with ⟨hc23, h⟩ | ⟨hc23, h⟩
  · refine QTri.brF Ad W (t := 27) (f := 7) (L := [some (.ref 0), some (.int x1), some (.int x2), some (.int x3), some (.int x4), none]) (S := []) (σ := (H0 o)) rfl (XT.i0_ne_f hc23) ?_
    refine QTri.steps Ad W 4 (st' := (15, [some (.ref 0), some (.int x1), some (.int x2), some (.int x3), some (.int x4), none], [.int (f_maxBlocks o), .int (f_n o)], (H0 o))) rfl ?_
    rcases qite h with ⟨hc24, h⟩ | ⟨hc24, h⟩
    · refine QTri.brT Ad W (t := 27) (f := 18) (L := [some (.ref 0), some (.int x1), some (.int x2), some (.int x3), some (.int x4), none]) (S := []) (σ := (H0 o)) rfl (XT.ii_eq_t hc24) ?_
      refine QTri.steps Ad W 1 (st' := (28, [some (.ref 0), some (.int x1), some (.int x2), some (.int x3), some (.int x4), none], [.int (-1 : Int32)], (H0 o))) rfl ?_
      obtain rfl := Option.some.inj h
      exact QTri.retI rfl rfl
    · refine QTri.brF Ad W (t := 27) (f := 18) (L := [some (.ref 0), some (.int x1), some (.int x2), some (.int x3), some (.int x4), none]) (S := []) (σ := (H0 o)) rfl (XT.ii_eq_f hc24) ?_
      refine QTri.steps Ad W 3 (st' := (24, [some (.ref 0), some (.int x1), some (.int x2), some (.int x3), some (.int x4), none], [.int (16 : Int32), .int (f_n o)], (H0 o))) rfl ?_
      rcases qite h with ⟨hc25, h⟩ | ⟨hc25, h⟩
      · refine QTri.brT Ad W (t := 29) (f := 27) (L := [some (.ref 0), some (.int x1), some (.int x2), some (.int x3), some (.int x4), none]) (S := []) (σ := (H0 o)) rfl (XT.ii_lt_t hc25) ?_
        refine QTri.steps Ad W 1 (st' := (30, [some (.ref 0), some (.int x1), some (.int x2), some (.int x3), some (.int x4), none], [.int x1], (H0 o))) rfl ?_
        rcases qite h with ⟨hc26, h⟩ | ⟨hc26, h⟩
        · refine QTri.brT Ad W (t := 57) (f := 33) (L := [some (.ref 0), some (.int x1), some (.int x2), some (.int x3), some (.int x4), none]) (S := []) (σ := (H0 o)) rfl (XT.i0_lt_t hc26) ?_
          refine QTri.steps Ad W 1 (st' := (58, [some (.ref 0), some (.int x1), some (.int x2), some (.int x3), some (.int x4), none], [.int (-1 : Int32)], (H0 o))) rfl ?_
          obtain rfl := Option.some.inj h
          exact QTri.retI rfl rfl
        · refine QTri.brF Ad W (t := 57) (f := 33) (L := [some (.ref 0), some (.int x1), some (.int x2), some (.int x3), some (.int x4), none]) (S := []) (σ := (H0 o)) rfl (XT.i0_lt_f hc26) ?_
          refine QTri.steps Ad W 2 (st' := (36, [some (.ref 0), some (.int x1), some (.int x2), some (.int x3), some (.int x4), none], [.int (7 : Int32), .int x1], (H0 o))) rfl ?_
          rcases qite h with ⟨hc27, h⟩ | ⟨hc27, h⟩
          · refine QTri.brT Ad W (t := 57) (f := 39) (L := [some (.ref 0), some (.int x1), some (.int x2), some (.int x3), some (.int x4), none]) (S := []) (σ := (H0 o)) rfl (XT.ii_gt_t hc27) ?_
            refine QTri.steps Ad W 1 (st' := (58, [some (.ref 0), some (.int x1), some (.int x2), some (.int x3), some (.int x4), none], [.int (-1 : Int32)], (H0 o))) rfl ?_
            obtain rfl := Option.some.inj h
            exact QTri.retI rfl rfl
          · refine QTri.brF Ad W (t := 57) (f := 39) (L := [some (.ref 0), some (.int x1), some (.int x2), some (.int x3), some (.int x4), none]) (S := []) (σ := (H0 o)) rfl (XT.ii_gt_f hc27) ?_
            refine QTri.steps Ad W 1 (st' := (40, [some (.ref 0), some (.int x1), some (.int x2), some (.int x3), some (.int x4), none], [.int x2], (H0 o))) rfl ?_
            rcases qite h with ⟨hc28, h⟩ | ⟨hc28, h⟩
            · refine QTri.brT Ad W (t := 57) (f := 43) (L := [some (.ref 0), some (.int x1), some (.int x2), some (.int x3), some (.int x4), none]) (S := []) (σ := (H0 o)) rfl (XT.i0_lt_t hc28) ?_
              refine QTri.steps Ad W 1 (st' := (58, [some (.ref 0), some (.int x1), some (.int x2), some (.int x3), some (.int x4), none], [.int (-1 : Int32)], (H0 o))) rfl ?_
              obtain rfl := Option.some.inj h
              exact QTri.retI rfl rfl
            · refine QTri.brF Ad W (t := 57) (f := 43) (L := [some (.ref 0), some (.int x1), some (.int x2), some (.int x3), some (.int x4), none]) (S := []) (σ := (H0 o)) rfl (XT.i0_lt_f hc28) ?_
              refine QTri.steps Ad W 2 (st' := (45, [some (.ref 0), some (.int x1), some (.int x2), some (.int x3), some (.int x4), none], [.int (3 : Int32), .int x2], (H0 o))) rfl ?_
              rcases qite h with ⟨hc29, h⟩ | ⟨hc29, h⟩
              · refine QTri.brT Ad W (t := 57) (f := 48) (L := [some (.ref 0), some (.int x1), some (.int x2), some (.int x3), some (.int x4), none]) (S := []) (σ := (H0 o)) rfl (XT.ii_gt_t hc29) ?_
                refine QTri.steps Ad W 1 (st' := (58, [some (.ref 0), some (.int x1), some (.int x2), some (.int x3), some (.int x4), none], [.int (-1 : Int32)], (H0 o))) rfl ?_
                obtain rfl := Option.some.inj h
                exact QTri.retI rfl rfl
              · refine QTri.brF Ad W (t := 57) (f := 48) (L := [some (.ref 0), some (.int x1), some (.int x2), some (.int x3), some (.int x4), none]) (S := []) (σ := (H0 o)) rfl (XT.ii_gt_f hc29) ?_
                refine QTri.steps Ad W 1 (st' := (49, [some (.ref 0), some (.int x1), some (.int x2), some (.int x3), some (.int x4), none], [.int x3], (H0 o))) rfl ?_
                rcases qite h with ⟨hc30, h⟩ | ⟨hc30, h⟩
                · refine QTri.brT Ad W (t := 57) (f := 52) (L := [some (.ref 0), some (.int x1), some (.int x2), some (.int x3), some (.int x4), none]) (S := []) (σ := (H0 o)) rfl (XT.i0_lt_t hc30) ?_
                  refine QTri.steps Ad W 1 (st' := (58, [some (.ref 0), some (.int x1), some (.int x2), some (.int x3), some (.int x4), none], [.int (-1 : Int32)], (H0 o))) rfl ?_
                  obtain rfl := Option.some.inj h
                  exact QTri.retI rfl rfl
                · refine QTri.brF Ad W (t := 57) (f := 52) (L := [some (.ref 0), some (.int x1), some (.int x2), some (.int x3), some (.int x4), none]) (S := []) (σ := (H0 o)) rfl (XT.i0_lt_f hc30) ?_
                  refine QTri.steps Ad W 2 (st' := (54, [some (.ref 0), some (.int x1), some (.int x2), some (.int x3), some (.int x4), none], [.int (3 : Int32), .int x3], (H0 o))) rfl ?_
                  rcases qite h with ⟨hc31, h⟩ | ⟨hc31, h⟩
                  · refine QTri.brF Ad W (t := 59) (f := 57) (L := [some (.ref 0), some (.int x1), some (.int x2), some (.int x3), some (.int x4), none]) (S := []) (σ := (H0 o)) rfl (XT.ii_le_f hc31) ?_
                    refine QTri.steps Ad W 1 (st' := (58, [some (.ref 0), some (.int x1), some (.int x2), some (.int x3), some (.int x4), none], [.int (-1 : Int32)], (H0 o))) rfl ?_
                    obtain rfl := Option.some.inj h
                    exact QTri.retI rfl rfl
                  · refine QTri.brT Ad W (t := 59) (f := 57) (L := [some (.ref 0), some (.int x1), some (.int x2), some (.int x3), some (.int x4), none]) (S := []) (σ := (H0 o)) rfl (XT.ii_le_t hc31) ?_
                    refine QTri.steps Ad W 7 (st' := (72, [some (.ref 0), some (.int x1), some (.int x2), some (.int x3), some (.int x4), some (.int (f_n o))], [.int x1, .int (f_n o), .ref 1], (H0 o))) rfl ?_
                    obtain ⟨y32, hy32, h⟩ := Option.bind_eq_some_iff.mp h
                    refine QTri.bnd Ad W (f := fun y32 => (73, [some (.ref 0), some (.int x1), some (.int x2), some (.int x3), some (.int x4), some (.int (f_n o))], [], [.inl [.ref 1, .ref 2, .ref 3, .ref 4, .ref 5, .ref 6, .ref 7, .ref 8, .ref 9, .ref 10, .ref 11, .ref 12, .ref 13, .ref 14, .ref 15, .ref 16, .ref 17, .ref 18, .ref 19, .ref 20, .ref 21, .ref 22, .ref 23, .ref 24, .ref 25, .ref 26, .ref 27, .ref 28, .int (f_maxBlocks o), .int (f_maxSteps o), .int (f_n o), .int (f_arranged o), .int (f_outCount o), .int (f_steps o), .int (f_status o)], .inr (.inl (.int, y32)), .inr (.inl (.int, (f_bD o))), .inr (.inl (.int, (f_bS o))), .inr (.inl (.int, (f_bImm o))), .inr (.inl (.int, (f_bTerm o))), .inr (.inl (.int, (f_bTest o))), .inr (.inl (.int, (f_bT0 o))), .inr (.inl (.int, (f_bT1 o))), .inr (.inl (.int, (f_cnt0 o))), .inr (.inl (.int, (f_cnt1 o))), .inr (.inl (.int, (f_regs o))), .inr (.inl (.int, (f_outs o))), .inr (.inl (.int, (f_edgeId o))), .inr (.inl (.int, (f_edgeW o))), .inr (.inl (.int, (f_chNext o))), .inr (.inl (.int, (f_chPrev o))), .inr (.inl (.int, (f_chHead o))), .inr (.inl (.int, (f_heat o))), .inr (.inl (.int, (f_posOf o))), .inr (.inl (.int, (f_order o))), .inr (.inl (.int, (f_cOp o))), .inr (.inl (.int, (f_cD o))), .inr (.inl (.int, (f_cS o))), .inr (.inl (.int, (f_cImm o))), .inr (.inl (.int, (f_cKind o))), .inr (.inl (.int, (f_cTest o))), .inr (.inl (.int, (f_cTaken o))), .inr (.inl (.int, (f_cOther o)))])) rfl hy32 ?_
                    refine QTri.steps Ad W 4 (st' := (80, [some (.ref 0), some (.int x1), some (.int x2), some (.int x3), some (.int x4), some (.int (f_n o))], [.int x2, .int (f_n o), .ref 2], [.inl [.ref 1, .ref 2, .ref 3, .ref 4, .ref 5, .ref 6, .ref 7, .ref 8, .ref 9, .ref 10, .ref 11, .ref 12, .ref 13, .ref 14, .ref 15, .ref 16, .ref 17, .ref 18, .ref 19, .ref 20, .ref 21, .ref 22, .ref 23, .ref 24, .ref 25, .ref 26, .ref 27, .ref 28, .int (f_maxBlocks o), .int (f_maxSteps o), .int (f_n o), .int (f_arranged o), .int (f_outCount o), .int (f_steps o), .int (f_status o)], .inr (.inl (.int, y32)), .inr (.inl (.int, (f_bD o))), .inr (.inl (.int, (f_bS o))), .inr (.inl (.int, (f_bImm o))), .inr (.inl (.int, (f_bTerm o))), .inr (.inl (.int, (f_bTest o))), .inr (.inl (.int, (f_bT0 o))), .inr (.inl (.int, (f_bT1 o))), .inr (.inl (.int, (f_cnt0 o))), .inr (.inl (.int, (f_cnt1 o))), .inr (.inl (.int, (f_regs o))), .inr (.inl (.int, (f_outs o))), .inr (.inl (.int, (f_edgeId o))), .inr (.inl (.int, (f_edgeW o))), .inr (.inl (.int, (f_chNext o))), .inr (.inl (.int, (f_chPrev o))), .inr (.inl (.int, (f_chHead o))), .inr (.inl (.int, (f_heat o))), .inr (.inl (.int, (f_posOf o))), .inr (.inl (.int, (f_order o))), .inr (.inl (.int, (f_cOp o))), .inr (.inl (.int, (f_cD o))), .inr (.inl (.int, (f_cS o))), .inr (.inl (.int, (f_cImm o))), .inr (.inl (.int, (f_cKind o))), .inr (.inl (.int, (f_cTest o))), .inr (.inl (.int, (f_cTaken o))), .inr (.inl (.int, (f_cOther o)))])) rfl ?_
                    obtain ⟨y33, hy33, h⟩ := Option.bind_eq_some_iff.mp h
                    refine QTri.bnd Ad W (f := fun y33 => (81, [some (.ref 0), some (.int x1), some (.int x2), some (.int x3), some (.int x4), some (.int (f_n o))], [], [.inl [.ref 1, .ref 2, .ref 3, .ref 4, .ref 5, .ref 6, .ref 7, .ref 8, .ref 9, .ref 10, .ref 11, .ref 12, .ref 13, .ref 14, .ref 15, .ref 16, .ref 17, .ref 18, .ref 19, .ref 20, .ref 21, .ref 22, .ref 23, .ref 24, .ref 25, .ref 26, .ref 27, .ref 28, .int (f_maxBlocks o), .int (f_maxSteps o), .int (f_n o), .int (f_arranged o), .int (f_outCount o), .int (f_steps o), .int (f_status o)], .inr (.inl (.int, y32)), .inr (.inl (.int, y33)), .inr (.inl (.int, (f_bS o))), .inr (.inl (.int, (f_bImm o))), .inr (.inl (.int, (f_bTerm o))), .inr (.inl (.int, (f_bTest o))), .inr (.inl (.int, (f_bT0 o))), .inr (.inl (.int, (f_bT1 o))), .inr (.inl (.int, (f_cnt0 o))), .inr (.inl (.int, (f_cnt1 o))), .inr (.inl (.int, (f_regs o))), .inr (.inl (.int, (f_outs o))), .inr (.inl (.int, (f_edgeId o))), .inr (.inl (.int, (f_edgeW o))), .inr (.inl (.int, (f_chNext o))), .inr (.inl (.int, (f_chPrev o))), .inr (.inl (.int, (f_chHead o))), .inr (.inl (.int, (f_heat o))), .inr (.inl (.int, (f_posOf o))), .inr (.inl (.int, (f_order o))), .inr (.inl (.int, (f_cOp o))), .inr (.inl (.int, (f_cD o))), .inr (.inl (.int, (f_cS o))), .inr (.inl (.int, (f_cImm o))), .inr (.inl (.int, (f_cKind o))), .inr (.inl (.int, (f_cTest o))), .inr (.inl (.int, (f_cTaken o))), .inr (.inl (.int, (f_cOther o)))])) rfl hy33 ?_
                    refine QTri.steps Ad W 4 (st' := (88, [some (.ref 0), some (.int x1), some (.int x2), some (.int x3), some (.int x4), some (.int (f_n o))], [.int x3, .int (f_n o), .ref 3], [.inl [.ref 1, .ref 2, .ref 3, .ref 4, .ref 5, .ref 6, .ref 7, .ref 8, .ref 9, .ref 10, .ref 11, .ref 12, .ref 13, .ref 14, .ref 15, .ref 16, .ref 17, .ref 18, .ref 19, .ref 20, .ref 21, .ref 22, .ref 23, .ref 24, .ref 25, .ref 26, .ref 27, .ref 28, .int (f_maxBlocks o), .int (f_maxSteps o), .int (f_n o), .int (f_arranged o), .int (f_outCount o), .int (f_steps o), .int (f_status o)], .inr (.inl (.int, y32)), .inr (.inl (.int, y33)), .inr (.inl (.int, (f_bS o))), .inr (.inl (.int, (f_bImm o))), .inr (.inl (.int, (f_bTerm o))), .inr (.inl (.int, (f_bTest o))), .inr (.inl (.int, (f_bT0 o))), .inr (.inl (.int, (f_bT1 o))), .inr (.inl (.int, (f_cnt0 o))), .inr (.inl (.int, (f_cnt1 o))), .inr (.inl (.int, (f_regs o))), .inr (.inl (.int, (f_outs o))), .inr (.inl (.int, (f_edgeId o))), .inr (.inl (.int, (f_edgeW o))), .inr (.inl (.int, (f_chNext o))), .inr (.inl (.int, (f_chPrev o))), .inr (.inl (.int, (f_chHead o))), .inr (.inl (.int, (f_heat o))), .inr (.inl (.int, (f_posOf o))), .inr (.inl (.int, (f_order o))), .inr (.inl (.int, (f_cOp o))), .inr (.inl (.int, (f_cD o))), .inr (.inl (.int, (f_cS o))), .inr (.inl (.int, (f_cImm o))), .inr (.inl (.int, (f_cKind o))), .inr (.inl (.int, (f_cTest o))), .inr (.inl (.int, (f_cTaken o))), .inr (.inl (.int, (f_cOther o)))])) rfl ?_
                    obtain ⟨y34, hy34, h⟩ := Option.bind_eq_some_iff.mp h
                    refine QTri.bnd Ad W (f := fun y34 => (89, [some (.ref 0), some (.int x1), some (.int x2), some (.int x3), some (.int x4), some (.int (f_n o))], [], [.inl [.ref 1, .ref 2, .ref 3, .ref 4, .ref 5, .ref 6, .ref 7, .ref 8, .ref 9, .ref 10, .ref 11, .ref 12, .ref 13, .ref 14, .ref 15, .ref 16, .ref 17, .ref 18, .ref 19, .ref 20, .ref 21, .ref 22, .ref 23, .ref 24, .ref 25, .ref 26, .ref 27, .ref 28, .int (f_maxBlocks o), .int (f_maxSteps o), .int (f_n o), .int (f_arranged o), .int (f_outCount o), .int (f_steps o), .int (f_status o)], .inr (.inl (.int, y32)), .inr (.inl (.int, y33)), .inr (.inl (.int, y34)), .inr (.inl (.int, (f_bImm o))), .inr (.inl (.int, (f_bTerm o))), .inr (.inl (.int, (f_bTest o))), .inr (.inl (.int, (f_bT0 o))), .inr (.inl (.int, (f_bT1 o))), .inr (.inl (.int, (f_cnt0 o))), .inr (.inl (.int, (f_cnt1 o))), .inr (.inl (.int, (f_regs o))), .inr (.inl (.int, (f_outs o))), .inr (.inl (.int, (f_edgeId o))), .inr (.inl (.int, (f_edgeW o))), .inr (.inl (.int, (f_chNext o))), .inr (.inl (.int, (f_chPrev o))), .inr (.inl (.int, (f_chHead o))), .inr (.inl (.int, (f_heat o))), .inr (.inl (.int, (f_posOf o))), .inr (.inl (.int, (f_order o))), .inr (.inl (.int, (f_cOp o))), .inr (.inl (.int, (f_cD o))), .inr (.inl (.int, (f_cS o))), .inr (.inl (.int, (f_cImm o))), .inr (.inl (.int, (f_cKind o))), .inr (.inl (.int, (f_cTest o))), .inr (.inl (.int, (f_cTaken o))), .inr (.inl (.int, (f_cOther o)))])) rfl hy34 ?_
                    refine QTri.steps Ad W 4 (st' := (97, [some (.ref 0), some (.int x1), some (.int x2), some (.int x3), some (.int x4), some (.int (f_n o))], [.int x4, .int (f_n o), .ref 4], [.inl [.ref 1, .ref 2, .ref 3, .ref 4, .ref 5, .ref 6, .ref 7, .ref 8, .ref 9, .ref 10, .ref 11, .ref 12, .ref 13, .ref 14, .ref 15, .ref 16, .ref 17, .ref 18, .ref 19, .ref 20, .ref 21, .ref 22, .ref 23, .ref 24, .ref 25, .ref 26, .ref 27, .ref 28, .int (f_maxBlocks o), .int (f_maxSteps o), .int (f_n o), .int (f_arranged o), .int (f_outCount o), .int (f_steps o), .int (f_status o)], .inr (.inl (.int, y32)), .inr (.inl (.int, y33)), .inr (.inl (.int, y34)), .inr (.inl (.int, (f_bImm o))), .inr (.inl (.int, (f_bTerm o))), .inr (.inl (.int, (f_bTest o))), .inr (.inl (.int, (f_bT0 o))), .inr (.inl (.int, (f_bT1 o))), .inr (.inl (.int, (f_cnt0 o))), .inr (.inl (.int, (f_cnt1 o))), .inr (.inl (.int, (f_regs o))), .inr (.inl (.int, (f_outs o))), .inr (.inl (.int, (f_edgeId o))), .inr (.inl (.int, (f_edgeW o))), .inr (.inl (.int, (f_chNext o))), .inr (.inl (.int, (f_chPrev o))), .inr (.inl (.int, (f_chHead o))), .inr (.inl (.int, (f_heat o))), .inr (.inl (.int, (f_posOf o))), .inr (.inl (.int, (f_order o))), .inr (.inl (.int, (f_cOp o))), .inr (.inl (.int, (f_cD o))), .inr (.inl (.int, (f_cS o))), .inr (.inl (.int, (f_cImm o))), .inr (.inl (.int, (f_cKind o))), .inr (.inl (.int, (f_cTest o))), .inr (.inl (.int, (f_cTaken o))), .inr (.inl (.int, (f_cOther o)))])) rfl ?_
                    obtain ⟨y35, hy35, h⟩ := Option.bind_eq_some_iff.mp h
                    refine QTri.bnd Ad W (f := fun y35 => (98, [some (.ref 0), some (.int x1), some (.int x2), some (.int x3), some (.int x4), some (.int (f_n o))], [], [.inl [.ref 1, .ref 2, .ref 3, .ref 4, .ref 5, .ref 6, .ref 7, .ref 8, .ref 9, .ref 10, .ref 11, .ref 12, .ref 13, .ref 14, .ref 15, .ref 16, .ref 17, .ref 18, .ref 19, .ref 20, .ref 21, .ref 22, .ref 23, .ref 24, .ref 25, .ref 26, .ref 27, .ref 28, .int (f_maxBlocks o), .int (f_maxSteps o), .int (f_n o), .int (f_arranged o), .int (f_outCount o), .int (f_steps o), .int (f_status o)], .inr (.inl (.int, y32)), .inr (.inl (.int, y33)), .inr (.inl (.int, y34)), .inr (.inl (.int, y35)), .inr (.inl (.int, (f_bTerm o))), .inr (.inl (.int, (f_bTest o))), .inr (.inl (.int, (f_bT0 o))), .inr (.inl (.int, (f_bT1 o))), .inr (.inl (.int, (f_cnt0 o))), .inr (.inl (.int, (f_cnt1 o))), .inr (.inl (.int, (f_regs o))), .inr (.inl (.int, (f_outs o))), .inr (.inl (.int, (f_edgeId o))), .inr (.inl (.int, (f_edgeW o))), .inr (.inl (.int, (f_chNext o))), .inr (.inl (.int, (f_chPrev o))), .inr (.inl (.int, (f_chHead o))), .inr (.inl (.int, (f_heat o))), .inr (.inl (.int, (f_posOf o))), .inr (.inl (.int, (f_order o))), .inr (.inl (.int, (f_cOp o))), .inr (.inl (.int, (f_cD o))), .inr (.inl (.int, (f_cS o))), .inr (.inl (.int, (f_cImm o))), .inr (.inl (.int, (f_cKind o))), .inr (.inl (.int, (f_cTest o))), .inr (.inl (.int, (f_cTaken o))), .inr (.inl (.int, (f_cOther o)))])) rfl hy35 ?_
                    refine QTri.steps Ad W 5 (st' := (104, [some (.ref 0), some (.int x1), some (.int x2), some (.int x3), some (.int x4), some (.int (f_n o))], [.int (0 : Int32), .int (0 : Int32), .int (0 : Int32), .int (f_n o), .ref 0], [.inl [.ref 1, .ref 2, .ref 3, .ref 4, .ref 5, .ref 6, .ref 7, .ref 8, .ref 9, .ref 10, .ref 11, .ref 12, .ref 13, .ref 14, .ref 15, .ref 16, .ref 17, .ref 18, .ref 19, .ref 20, .ref 21, .ref 22, .ref 23, .ref 24, .ref 25, .ref 26, .ref 27, .ref 28, .int (f_maxBlocks o), .int (f_maxSteps o), .int (f_n o), .int (f_arranged o), .int (f_outCount o), .int (f_steps o), .int (f_status o)], .inr (.inl (.int, y32)), .inr (.inl (.int, y33)), .inr (.inl (.int, y34)), .inr (.inl (.int, y35)), .inr (.inl (.int, (f_bTerm o))), .inr (.inl (.int, (f_bTest o))), .inr (.inl (.int, (f_bT0 o))), .inr (.inl (.int, (f_bT1 o))), .inr (.inl (.int, (f_cnt0 o))), .inr (.inl (.int, (f_cnt1 o))), .inr (.inl (.int, (f_regs o))), .inr (.inl (.int, (f_outs o))), .inr (.inl (.int, (f_edgeId o))), .inr (.inl (.int, (f_edgeW o))), .inr (.inl (.int, (f_chNext o))), .inr (.inl (.int, (f_chPrev o))), .inr (.inl (.int, (f_chHead o))), .inr (.inl (.int, (f_heat o))), .inr (.inl (.int, (f_posOf o))), .inr (.inl (.int, (f_order o))), .inr (.inl (.int, (f_cOp o))), .inr (.inl (.int, (f_cD o))), .inr (.inl (.int, (f_cS o))), .inr (.inl (.int, (f_cImm o))), .inr (.inl (.int, (f_cKind o))), .inr (.inl (.int, (f_cTest o))), .inr (.inl (.int, (f_cTaken o))), .inr (.inl (.int, (f_cOther o)))])) rfl ?_
                    have E36 : ([.inl [.ref 1, .ref 2, .ref 3, .ref 4, .ref 5, .ref 6, .ref 7, .ref 8, .ref 9, .ref 10, .ref 11, .ref 12, .ref 13, .ref 14, .ref 15, .ref 16, .ref 17, .ref 18, .ref 19, .ref 20, .ref 21, .ref 22, .ref 23, .ref 24, .ref 25, .ref 26, .ref 27, .ref 28, .int (f_maxBlocks o), .int (f_maxSteps o), .int (f_n o), .int (f_arranged o), .int (f_outCount o), .int (f_steps o), .int (f_status o)], .inr (.inl (.int, y32)), .inr (.inl (.int, y33)), .inr (.inl (.int, y34)), .inr (.inl (.int, y35)), .inr (.inl (.int, (f_bTerm o))), .inr (.inl (.int, (f_bTest o))), .inr (.inl (.int, (f_bT0 o))), .inr (.inl (.int, (f_bT1 o))), .inr (.inl (.int, (f_cnt0 o))), .inr (.inl (.int, (f_cnt1 o))), .inr (.inl (.int, (f_regs o))), .inr (.inl (.int, (f_outs o))), .inr (.inl (.int, (f_edgeId o))), .inr (.inl (.int, (f_edgeW o))), .inr (.inl (.int, (f_chNext o))), .inr (.inl (.int, (f_chPrev o))), .inr (.inl (.int, (f_chHead o))), .inr (.inl (.int, (f_heat o))), .inr (.inl (.int, (f_posOf o))), .inr (.inl (.int, (f_order o))), .inr (.inl (.int, (f_cOp o))), .inr (.inl (.int, (f_cD o))), .inr (.inl (.int, (f_cS o))), .inr (.inl (.int, (f_cImm o))), .inr (.inl (.int, (f_cKind o))), .inr (.inl (.int, (f_cTest o))), .inr (.inl (.int, (f_cTaken o))), .inr (.inl (.int, (f_cOther o)))] : QHeap) = (H0 (s_bImm (s_bS (s_bD (s_bOp o y32) y33) y34) y35)) := by dsimp only [H0, f_bOp, f_bD, f_bS, f_bImm, f_bTerm, f_bTest, f_bT0, f_bT1, f_cnt0, f_cnt1, f_regs, f_outs, f_edgeId, f_edgeW, f_chNext, f_chPrev, f_chHead, f_heat, f_posOf, f_order, f_cOp, f_cD, f_cS, f_cImm, f_cKind, f_cTest, f_cTaken, f_cOther, f_maxBlocks, f_maxSteps, f_n, f_arranged, f_outCount, f_steps, f_status, s_bOp, s_bD, s_bS, s_bImm]
                    rw [E36]
                    obtain ⟨r41, hr41, h⟩ := Option.bind_eq_some_iff.mp h
                    refine QTri.callP W (a := 0) (as := [.int (f_n o), .int (0 : Int32), .int (0 : Int32), .int (0 : Int32)]) (rest := []) (w := none) (σ₁ := (H0 r41)) rfl rfl rfl rfl rfl rfl rfl rfl (tF3 Ad W (s_bImm (s_bS (s_bD (s_bOp o y32) y33) y34) y35) (f_n o) (0 : Int32) (0 : Int32) (0 : Int32) hr41) ?_
                    refine QTri.steps Ad W 4 (st' := (114, [some (.ref 0), some (.int x1), some (.int x2), some (.int x3), some (.int x4), some (.int (f_n o))], [.int (0 : Int32), .int (f_n o), .ref 8], (H0 r41))) rfl ?_
                    obtain ⟨y42, hy42, h⟩ := Option.bind_eq_some_iff.mp h
                    refine QTri.bnd Ad W (f := fun y42 => (115, [some (.ref 0), some (.int x1), some (.int x2), some (.int x3), some (.int x4), some (.int (f_n o))], [], [.inl [.ref 1, .ref 2, .ref 3, .ref 4, .ref 5, .ref 6, .ref 7, .ref 8, .ref 9, .ref 10, .ref 11, .ref 12, .ref 13, .ref 14, .ref 15, .ref 16, .ref 17, .ref 18, .ref 19, .ref 20, .ref 21, .ref 22, .ref 23, .ref 24, .ref 25, .ref 26, .ref 27, .ref 28, .int (f_maxBlocks r41), .int (f_maxSteps r41), .int (f_n r41), .int (f_arranged r41), .int (f_outCount r41), .int (f_steps r41), .int (f_status r41)], .inr (.inl (.int, (f_bOp r41))), .inr (.inl (.int, (f_bD r41))), .inr (.inl (.int, (f_bS r41))), .inr (.inl (.int, (f_bImm r41))), .inr (.inl (.int, (f_bTerm r41))), .inr (.inl (.int, (f_bTest r41))), .inr (.inl (.int, (f_bT0 r41))), .inr (.inl (.int, y42)), .inr (.inl (.int, (f_cnt0 r41))), .inr (.inl (.int, (f_cnt1 r41))), .inr (.inl (.int, (f_regs r41))), .inr (.inl (.int, (f_outs r41))), .inr (.inl (.int, (f_edgeId r41))), .inr (.inl (.int, (f_edgeW r41))), .inr (.inl (.int, (f_chNext r41))), .inr (.inl (.int, (f_chPrev r41))), .inr (.inl (.int, (f_chHead r41))), .inr (.inl (.int, (f_heat r41))), .inr (.inl (.int, (f_posOf r41))), .inr (.inl (.int, (f_order r41))), .inr (.inl (.int, (f_cOp r41))), .inr (.inl (.int, (f_cD r41))), .inr (.inl (.int, (f_cS r41))), .inr (.inl (.int, (f_cImm r41))), .inr (.inl (.int, (f_cKind r41))), .inr (.inl (.int, (f_cTest r41))), .inr (.inl (.int, (f_cTaken r41))), .inr (.inl (.int, (f_cOther r41)))])) rfl hy42 ?_
                    refine QTri.steps Ad W 5 (st' := (123, [some (.ref 0), some (.int x1), some (.int x2), some (.int x3), some (.int x4), some (.int (f_n o))], [], [.inl [.ref 1, .ref 2, .ref 3, .ref 4, .ref 5, .ref 6, .ref 7, .ref 8, .ref 9, .ref 10, .ref 11, .ref 12, .ref 13, .ref 14, .ref 15, .ref 16, .ref 17, .ref 18, .ref 19, .ref 20, .ref 21, .ref 22, .ref 23, .ref 24, .ref 25, .ref 26, .ref 27, .ref 28, .int (f_maxBlocks r41), .int (f_maxSteps r41), .int ((f_n o) + (1 : Int32)), .int (f_arranged r41), .int (f_outCount r41), .int (f_steps r41), .int (f_status r41)], .inr (.inl (.int, (f_bOp r41))), .inr (.inl (.int, (f_bD r41))), .inr (.inl (.int, (f_bS r41))), .inr (.inl (.int, (f_bImm r41))), .inr (.inl (.int, (f_bTerm r41))), .inr (.inl (.int, (f_bTest r41))), .inr (.inl (.int, (f_bT0 r41))), .inr (.inl (.int, y42)), .inr (.inl (.int, (f_cnt0 r41))), .inr (.inl (.int, (f_cnt1 r41))), .inr (.inl (.int, (f_regs r41))), .inr (.inl (.int, (f_outs r41))), .inr (.inl (.int, (f_edgeId r41))), .inr (.inl (.int, (f_edgeW r41))), .inr (.inl (.int, (f_chNext r41))), .inr (.inl (.int, (f_chPrev r41))), .inr (.inl (.int, (f_chHead r41))), .inr (.inl (.int, (f_heat r41))), .inr (.inl (.int, (f_posOf r41))), .inr (.inl (.int, (f_order r41))), .inr (.inl (.int, (f_cOp r41))), .inr (.inl (.int, (f_cD r41))), .inr (.inl (.int, (f_cS r41))), .inr (.inl (.int, (f_cImm r41))), .inr (.inl (.int, (f_cKind r41))), .inr (.inl (.int, (f_cTest r41))), .inr (.inl (.int, (f_cTaken r41))), .inr (.inl (.int, (f_cOther r41)))])) rfl ?_
                    refine QTri.steps Ad W 1 (st' := (124, [some (.ref 0), some (.int x1), some (.int x2), some (.int x3), some (.int x4), some (.int (f_n o))], [.ref 0], [.inl [.ref 1, .ref 2, .ref 3, .ref 4, .ref 5, .ref 6, .ref 7, .ref 8, .ref 9, .ref 10, .ref 11, .ref 12, .ref 13, .ref 14, .ref 15, .ref 16, .ref 17, .ref 18, .ref 19, .ref 20, .ref 21, .ref 22, .ref 23, .ref 24, .ref 25, .ref 26, .ref 27, .ref 28, .int (f_maxBlocks r41), .int (f_maxSteps r41), .int ((f_n o) + (1 : Int32)), .int (f_arranged r41), .int (f_outCount r41), .int (f_steps r41), .int (f_status r41)], .inr (.inl (.int, (f_bOp r41))), .inr (.inl (.int, (f_bD r41))), .inr (.inl (.int, (f_bS r41))), .inr (.inl (.int, (f_bImm r41))), .inr (.inl (.int, (f_bTerm r41))), .inr (.inl (.int, (f_bTest r41))), .inr (.inl (.int, (f_bT0 r41))), .inr (.inl (.int, y42)), .inr (.inl (.int, (f_cnt0 r41))), .inr (.inl (.int, (f_cnt1 r41))), .inr (.inl (.int, (f_regs r41))), .inr (.inl (.int, (f_outs r41))), .inr (.inl (.int, (f_edgeId r41))), .inr (.inl (.int, (f_edgeW r41))), .inr (.inl (.int, (f_chNext r41))), .inr (.inl (.int, (f_chPrev r41))), .inr (.inl (.int, (f_chHead r41))), .inr (.inl (.int, (f_heat r41))), .inr (.inl (.int, (f_posOf r41))), .inr (.inl (.int, (f_order r41))), .inr (.inl (.int, (f_cOp r41))), .inr (.inl (.int, (f_cD r41))), .inr (.inl (.int, (f_cS r41))), .inr (.inl (.int, (f_cImm r41))), .inr (.inl (.int, (f_cKind r41))), .inr (.inl (.int, (f_cTest r41))), .inr (.inl (.int, (f_cTaken r41))), .inr (.inl (.int, (f_cOther r41)))])) rfl ?_
                    have E43 : ([.inl [.ref 1, .ref 2, .ref 3, .ref 4, .ref 5, .ref 6, .ref 7, .ref 8, .ref 9, .ref 10, .ref 11, .ref 12, .ref 13, .ref 14, .ref 15, .ref 16, .ref 17, .ref 18, .ref 19, .ref 20, .ref 21, .ref 22, .ref 23, .ref 24, .ref 25, .ref 26, .ref 27, .ref 28, .int (f_maxBlocks r41), .int (f_maxSteps r41), .int ((f_n o) + (1 : Int32)), .int (f_arranged r41), .int (f_outCount r41), .int (f_steps r41), .int (f_status r41)], .inr (.inl (.int, (f_bOp r41))), .inr (.inl (.int, (f_bD r41))), .inr (.inl (.int, (f_bS r41))), .inr (.inl (.int, (f_bImm r41))), .inr (.inl (.int, (f_bTerm r41))), .inr (.inl (.int, (f_bTest r41))), .inr (.inl (.int, (f_bT0 r41))), .inr (.inl (.int, y42)), .inr (.inl (.int, (f_cnt0 r41))), .inr (.inl (.int, (f_cnt1 r41))), .inr (.inl (.int, (f_regs r41))), .inr (.inl (.int, (f_outs r41))), .inr (.inl (.int, (f_edgeId r41))), .inr (.inl (.int, (f_edgeW r41))), .inr (.inl (.int, (f_chNext r41))), .inr (.inl (.int, (f_chPrev r41))), .inr (.inl (.int, (f_chHead r41))), .inr (.inl (.int, (f_heat r41))), .inr (.inl (.int, (f_posOf r41))), .inr (.inl (.int, (f_order r41))), .inr (.inl (.int, (f_cOp r41))), .inr (.inl (.int, (f_cD r41))), .inr (.inl (.int, (f_cS r41))), .inr (.inl (.int, (f_cImm r41))), .inr (.inl (.int, (f_cKind r41))), .inr (.inl (.int, (f_cTest r41))), .inr (.inl (.int, (f_cTaken r41))), .inr (.inl (.int, (f_cOther r41)))] : QHeap) = (H0 (s_n (s_bT1 r41 y42) ((f_n o) + (1 : Int32)))) := by dsimp only [H0, f_bOp, f_bD, f_bS, f_bImm, f_bTerm, f_bTest, f_bT0, f_bT1, f_cnt0, f_cnt1, f_regs, f_outs, f_edgeId, f_edgeW, f_chNext, f_chPrev, f_chHead, f_heat, f_posOf, f_order, f_cOp, f_cD, f_cS, f_cImm, f_cKind, f_cTest, f_cTaken, f_cOther, f_maxBlocks, f_maxSteps, f_n, f_arranged, f_outCount, f_steps, f_status, s_bT1, s_n]
                    rw [E43]
                    obtain ⟨r49, hr49, h⟩ := Option.bind_eq_some_iff.mp h
                    refine QTri.callP W (a := 0) (as := []) (rest := []) (w := none) (σ₁ := (H0 r49)) rfl rfl rfl rfl rfl rfl rfl rfl (tF4 Ad W (s_n (s_bT1 r41 y42) ((f_n o) + (1 : Int32))) hr49) ?_
                    refine QTri.steps Ad W 1 (st' := (129, [some (.ref 0), some (.int x1), some (.int x2), some (.int x3), some (.int x4), some (.int (f_n o))], [.int (f_n o)], (H0 r49))) rfl ?_
                    obtain rfl := Option.some.inj h
                    exact QTri.retI rfl rfl
      · refine QTri.brF Ad W (t := 29) (f := 27) (L := [some (.ref 0), some (.int x1), some (.int x2), some (.int x3), some (.int x4), none]) (S := []) (σ := (H0 o)) rfl (XT.ii_lt_f hc25) ?_
        refine QTri.steps Ad W 1 (st' := (28, [some (.ref 0), some (.int x1), some (.int x2), some (.int x3), some (.int x4), none], [.int (-1 : Int32)], (H0 o))) rfl ?_
        obtain rfl := Option.some.inj h
        exact QTri.retI rfl rfl
  · refine QTri.brT Ad W (t := 27) (f := 7) (L := [some (.ref 0), some (.int x1), some (.int x2), some (.int x3), some (.int x4), none]) (S := []) (σ := (H0 o)) rfl (XT.i0_ne_t hc23) ?_
    refine QTri.steps Ad W 1 (st' := (28, [some (.ref 0), some (.int x1), some (.int x2), some (.int x3), some (.int x4), none], [.int (-1 : Int32)], (H0 o))) rfl ?_
    obtain rfl := Option.some.inj h
    exact QTri.retI rfl rfl
/-- blockCount()I -/
def F5 (o : Ob) : Option (Int32) :=
  some (f_n o)
theorem tF5 (Ad : QAd n0 ad) (W : QW Z a0) (o : Ob) {r : Int32} (h : F5 o = some r) : QTri l Z n0 ad 5 (0, qentry [.ref 0] (pMaxL 5), [], (H0 o)) (some (Value.int r)) (H0 o) := by
  unfold F5 at h
  refine QTri.steps Ad W 2 (st' := (4, [some (.ref 0)], [.int (f_n o)], (H0 o))) rfl ?_
  obtain rfl := Option.some.inj h
  exact QTri.retI rfl rfl
/-- validBlock(I)Z -/
def F7 (o : Ob) (x1 : Int32) : Option (Int32) :=
  (if x1 < (0 : Int32) then some (0 : Int32) else (if x1 < (f_n o) then (if x1 < (16 : Int32) then some (1 : Int32) else some (0 : Int32)) else some (0 : Int32)))
theorem tF7 (Ad : QAd n0 ad) (W : QW Z a0) (o : Ob) (x1 : Int32) {r : Int32} (h : F7 o x1 = some r) : QTri l Z n0 ad 7 (0, qentry [.ref 0, .int x1] (pMaxL 7), [], (H0 o)) (some (Value.int r)) (H0 o) := by
  unfold F7 at h
  refine QTri.steps Ad W 1 (st' := (1, [some (.ref 0), some (.int x1)], [.int x1], (H0 o))) rfl ?_
  rcases qite h with ⟨hc60, h⟩ | ⟨hc60, h⟩
  · refine QTri.brT Ad W (t := 22) (f := 4) (L := [some (.ref 0), some (.int x1)]) (S := []) (σ := (H0 o)) rfl (XT.i0_lt_t hc60) ?_
    refine QTri.steps Ad W 1 (st' := (23, [some (.ref 0), some (.int x1)], [.int (0 : Int32)], (H0 o))) rfl ?_
    obtain rfl := Option.some.inj h
    exact QTri.retZ rfl rfl
  · refine QTri.brF Ad W (t := 22) (f := 4) (L := [some (.ref 0), some (.int x1)]) (S := []) (σ := (H0 o)) rfl (XT.i0_lt_f hc60) ?_
    refine QTri.steps Ad W 3 (st' := (9, [some (.ref 0), some (.int x1)], [.int (f_n o), .int x1], (H0 o))) rfl ?_
    rcases qite h with ⟨hc61, h⟩ | ⟨hc61, h⟩
    · refine QTri.brF Ad W (t := 22) (f := 12) (L := [some (.ref 0), some (.int x1)]) (S := []) (σ := (H0 o)) rfl (XT.ii_ge_f hc61) ?_
      refine QTri.steps Ad W 2 (st' := (15, [some (.ref 0), some (.int x1)], [.int (16 : Int32), .int x1], (H0 o))) rfl ?_
      rcases qite h with ⟨hc62, h⟩ | ⟨hc62, h⟩
      · refine QTri.brF Ad W (t := 22) (f := 18) (L := [some (.ref 0), some (.int x1)]) (S := []) (σ := (H0 o)) rfl (XT.ii_ge_f hc62) ?_
        refine QTri.steps Ad W 2 (st' := (23, [some (.ref 0), some (.int x1)], [.int (1 : Int32)], (H0 o))) rfl ?_
        obtain rfl := Option.some.inj h
        exact QTri.retZ rfl rfl
      · refine QTri.brT Ad W (t := 22) (f := 18) (L := [some (.ref 0), some (.int x1)]) (S := []) (σ := (H0 o)) rfl (XT.ii_ge_t hc62) ?_
        refine QTri.steps Ad W 1 (st' := (23, [some (.ref 0), some (.int x1)], [.int (0 : Int32)], (H0 o))) rfl ?_
        obtain rfl := Option.some.inj h
        exact QTri.retZ rfl rfl
    · refine QTri.brT Ad W (t := 22) (f := 12) (L := [some (.ref 0), some (.int x1)]) (S := []) (σ := (H0 o)) rfl (XT.ii_ge_t hc61) ?_
      refine QTri.steps Ad W 1 (st' := (23, [some (.ref 0), some (.int x1)], [.int (0 : Int32)], (H0 o))) rfl ?_
      obtain rfl := Option.some.inj h
      exact QTri.retZ rfl rfl
/-- blockInfo(II)I -/
def F6 (o : Ob) (x1 : Int32) (x2 : Int32) : Option (Int32) :=
  (F7 o x1).bind fun r63 => (if r63 = (0 : Int32) then some (0 : Int32) else (if x2 = (0 : Int32) then (aget (f_bOp o) x1).bind fun y66 => some y66 else (if x2 = (1 : Int32) then (aget (f_bD o) x1).bind fun y68 => some y68 else (if x2 = (2 : Int32) then (aget (f_bS o) x1).bind fun y70 => some y70 else (if x2 = (3 : Int32) then (aget (f_bImm o) x1).bind fun y72 => some y72 else (if x2 = (4 : Int32) then (aget (f_bTerm o) x1).bind fun y74 => some y74 else (if x2 = (5 : Int32) then (aget (f_bTest o) x1).bind fun y76 => some y76 else (if x2 = (6 : Int32) then (aget (f_bT0 o) x1).bind fun y78 => some y78 else (if x2 = (7 : Int32) then (aget (f_bT1 o) x1).bind fun y80 => some y80 else some (0 : Int32))))))))))
theorem tF6 (Ad : QAd n0 ad) (W : QW Z a0) (o : Ob) (x1 : Int32) (x2 : Int32) {r : Int32} (h : F6 o x1 x2 = some r) : QTri l Z n0 ad 6 (0, qentry [.ref 0, .int x1, .int x2] (pMaxL 6), [], (H0 o)) (some (Value.int r)) (H0 o) := by
  unfold F6 at h
  refine QTri.steps Ad W 2 (st' := (2, [some (.ref 0), some (.int x1), some (.int x2)], [.int x1, .ref 0], (H0 o))) rfl ?_
  obtain ⟨r63, hr63, h⟩ := Option.bind_eq_some_iff.mp h
  refine QTri.callP W (a := 0) (as := [.int x1]) (rest := []) (w := (some (.int r63))) (σ₁ := (H0 o)) rfl rfl rfl rfl rfl rfl rfl rfl (tF7 Ad W o x1 hr63) ?_
  rcases qite h with ⟨hc64, h⟩ | ⟨hc64, h⟩
  · refine QTri.brF Ad W (t := 10) (f := 8) (L := [some (.ref 0), some (.int x1), some (.int x2)]) (S := []) (σ := (H0 o)) rfl (XT.i0_ne_f hc64) ?_
    refine QTri.steps Ad W 1 (st' := (9, [some (.ref 0), some (.int x1), some (.int x2)], [.int (0 : Int32)], (H0 o))) rfl ?_
    obtain rfl := Option.some.inj h
    exact QTri.retI rfl rfl
  · refine QTri.brT Ad W (t := 10) (f := 8) (L := [some (.ref 0), some (.int x1), some (.int x2)]) (S := []) (σ := (H0 o)) rfl (XT.i0_ne_t hc64) ?_
    refine QTri.steps Ad W 1 (st' := (11, [some (.ref 0), some (.int x1), some (.int x2)], [.int x2], (H0 o))) rfl ?_
    rcases qite h with ⟨hc65, h⟩ | ⟨hc65, h⟩
    · refine QTri.brF Ad W (t := 21) (f := 14) (L := [some (.ref 0), some (.int x1), some (.int x2)]) (S := []) (σ := (H0 o)) rfl (XT.i0_ne_f hc65) ?_
      refine QTri.steps Ad W 3 (st' := (19, [some (.ref 0), some (.int x1), some (.int x2)], [.int x1, .ref 1], (H0 o))) rfl ?_
      obtain ⟨y66, hy66, h⟩ := Option.bind_eq_some_iff.mp h
      refine QTri.bnd Ad W (f := fun y66 => (20, [some (.ref 0), some (.int x1), some (.int x2)], [.int y66], (H0 o))) rfl hy66 ?_
      obtain rfl := Option.some.inj h
      exact QTri.retI rfl rfl
    · refine QTri.brT Ad W (t := 21) (f := 14) (L := [some (.ref 0), some (.int x1), some (.int x2)]) (S := []) (σ := (H0 o)) rfl (XT.i0_ne_t hc65) ?_
      refine QTri.steps Ad W 2 (st' := (23, [some (.ref 0), some (.int x1), some (.int x2)], [.int (1 : Int32), .int x2], (H0 o))) rfl ?_
      rcases qite h with ⟨hc67, h⟩ | ⟨hc67, h⟩
      · refine QTri.brF Ad W (t := 33) (f := 26) (L := [some (.ref 0), some (.int x1), some (.int x2)]) (S := []) (σ := (H0 o)) rfl (XT.ii_ne_f hc67) ?_
        refine QTri.steps Ad W 3 (st' := (31, [some (.ref 0), some (.int x1), some (.int x2)], [.int x1, .ref 2], (H0 o))) rfl ?_
        obtain ⟨y68, hy68, h⟩ := Option.bind_eq_some_iff.mp h
        refine QTri.bnd Ad W (f := fun y68 => (32, [some (.ref 0), some (.int x1), some (.int x2)], [.int y68], (H0 o))) rfl hy68 ?_
        obtain rfl := Option.some.inj h
        exact QTri.retI rfl rfl
      · refine QTri.brT Ad W (t := 33) (f := 26) (L := [some (.ref 0), some (.int x1), some (.int x2)]) (S := []) (σ := (H0 o)) rfl (XT.ii_ne_t hc67) ?_
        refine QTri.steps Ad W 2 (st' := (35, [some (.ref 0), some (.int x1), some (.int x2)], [.int (2 : Int32), .int x2], (H0 o))) rfl ?_
        rcases qite h with ⟨hc69, h⟩ | ⟨hc69, h⟩
        · refine QTri.brF Ad W (t := 45) (f := 38) (L := [some (.ref 0), some (.int x1), some (.int x2)]) (S := []) (σ := (H0 o)) rfl (XT.ii_ne_f hc69) ?_
          refine QTri.steps Ad W 3 (st' := (43, [some (.ref 0), some (.int x1), some (.int x2)], [.int x1, .ref 3], (H0 o))) rfl ?_
          obtain ⟨y70, hy70, h⟩ := Option.bind_eq_some_iff.mp h
          refine QTri.bnd Ad W (f := fun y70 => (44, [some (.ref 0), some (.int x1), some (.int x2)], [.int y70], (H0 o))) rfl hy70 ?_
          obtain rfl := Option.some.inj h
          exact QTri.retI rfl rfl
        · refine QTri.brT Ad W (t := 45) (f := 38) (L := [some (.ref 0), some (.int x1), some (.int x2)]) (S := []) (σ := (H0 o)) rfl (XT.ii_ne_t hc69) ?_
          refine QTri.steps Ad W 2 (st' := (47, [some (.ref 0), some (.int x1), some (.int x2)], [.int (3 : Int32), .int x2], (H0 o))) rfl ?_
          rcases qite h with ⟨hc71, h⟩ | ⟨hc71, h⟩
          · refine QTri.brF Ad W (t := 57) (f := 50) (L := [some (.ref 0), some (.int x1), some (.int x2)]) (S := []) (σ := (H0 o)) rfl (XT.ii_ne_f hc71) ?_
            refine QTri.steps Ad W 3 (st' := (55, [some (.ref 0), some (.int x1), some (.int x2)], [.int x1, .ref 4], (H0 o))) rfl ?_
            obtain ⟨y72, hy72, h⟩ := Option.bind_eq_some_iff.mp h
            refine QTri.bnd Ad W (f := fun y72 => (56, [some (.ref 0), some (.int x1), some (.int x2)], [.int y72], (H0 o))) rfl hy72 ?_
            obtain rfl := Option.some.inj h
            exact QTri.retI rfl rfl
          · refine QTri.brT Ad W (t := 57) (f := 50) (L := [some (.ref 0), some (.int x1), some (.int x2)]) (S := []) (σ := (H0 o)) rfl (XT.ii_ne_t hc71) ?_
            refine QTri.steps Ad W 2 (st' := (59, [some (.ref 0), some (.int x1), some (.int x2)], [.int (4 : Int32), .int x2], (H0 o))) rfl ?_
            rcases qite h with ⟨hc73, h⟩ | ⟨hc73, h⟩
            · refine QTri.brF Ad W (t := 69) (f := 62) (L := [some (.ref 0), some (.int x1), some (.int x2)]) (S := []) (σ := (H0 o)) rfl (XT.ii_ne_f hc73) ?_
              refine QTri.steps Ad W 3 (st' := (67, [some (.ref 0), some (.int x1), some (.int x2)], [.int x1, .ref 5], (H0 o))) rfl ?_
              obtain ⟨y74, hy74, h⟩ := Option.bind_eq_some_iff.mp h
              refine QTri.bnd Ad W (f := fun y74 => (68, [some (.ref 0), some (.int x1), some (.int x2)], [.int y74], (H0 o))) rfl hy74 ?_
              obtain rfl := Option.some.inj h
              exact QTri.retI rfl rfl
            · refine QTri.brT Ad W (t := 69) (f := 62) (L := [some (.ref 0), some (.int x1), some (.int x2)]) (S := []) (σ := (H0 o)) rfl (XT.ii_ne_t hc73) ?_
              refine QTri.steps Ad W 2 (st' := (71, [some (.ref 0), some (.int x1), some (.int x2)], [.int (5 : Int32), .int x2], (H0 o))) rfl ?_
              rcases qite h with ⟨hc75, h⟩ | ⟨hc75, h⟩
              · refine QTri.brF Ad W (t := 81) (f := 74) (L := [some (.ref 0), some (.int x1), some (.int x2)]) (S := []) (σ := (H0 o)) rfl (XT.ii_ne_f hc75) ?_
                refine QTri.steps Ad W 3 (st' := (79, [some (.ref 0), some (.int x1), some (.int x2)], [.int x1, .ref 6], (H0 o))) rfl ?_
                obtain ⟨y76, hy76, h⟩ := Option.bind_eq_some_iff.mp h
                refine QTri.bnd Ad W (f := fun y76 => (80, [some (.ref 0), some (.int x1), some (.int x2)], [.int y76], (H0 o))) rfl hy76 ?_
                obtain rfl := Option.some.inj h
                exact QTri.retI rfl rfl
              · refine QTri.brT Ad W (t := 81) (f := 74) (L := [some (.ref 0), some (.int x1), some (.int x2)]) (S := []) (σ := (H0 o)) rfl (XT.ii_ne_t hc75) ?_
                refine QTri.steps Ad W 2 (st' := (84, [some (.ref 0), some (.int x1), some (.int x2)], [.int (6 : Int32), .int x2], (H0 o))) rfl ?_
                rcases qite h with ⟨hc77, h⟩ | ⟨hc77, h⟩
                · refine QTri.brF Ad W (t := 94) (f := 87) (L := [some (.ref 0), some (.int x1), some (.int x2)]) (S := []) (σ := (H0 o)) rfl (XT.ii_ne_f hc77) ?_
                  refine QTri.steps Ad W 3 (st' := (92, [some (.ref 0), some (.int x1), some (.int x2)], [.int x1, .ref 7], (H0 o))) rfl ?_
                  obtain ⟨y78, hy78, h⟩ := Option.bind_eq_some_iff.mp h
                  refine QTri.bnd Ad W (f := fun y78 => (93, [some (.ref 0), some (.int x1), some (.int x2)], [.int y78], (H0 o))) rfl hy78 ?_
                  obtain rfl := Option.some.inj h
                  exact QTri.retI rfl rfl
                · refine QTri.brT Ad W (t := 94) (f := 87) (L := [some (.ref 0), some (.int x1), some (.int x2)]) (S := []) (σ := (H0 o)) rfl (XT.ii_ne_t hc77) ?_
                  refine QTri.steps Ad W 2 (st' := (97, [some (.ref 0), some (.int x1), some (.int x2)], [.int (7 : Int32), .int x2], (H0 o))) rfl ?_
                  rcases qite h with ⟨hc79, h⟩ | ⟨hc79, h⟩
                  · refine QTri.brF Ad W (t := 107) (f := 100) (L := [some (.ref 0), some (.int x1), some (.int x2)]) (S := []) (σ := (H0 o)) rfl (XT.ii_ne_f hc79) ?_
                    refine QTri.steps Ad W 3 (st' := (105, [some (.ref 0), some (.int x1), some (.int x2)], [.int x1, .ref 8], (H0 o))) rfl ?_
                    obtain ⟨y80, hy80, h⟩ := Option.bind_eq_some_iff.mp h
                    refine QTri.bnd Ad W (f := fun y80 => (106, [some (.ref 0), some (.int x1), some (.int x2)], [.int y80], (H0 o))) rfl hy80 ?_
                    obtain rfl := Option.some.inj h
                    exact QTri.retI rfl rfl
                  · refine QTri.brT Ad W (t := 107) (f := 100) (L := [some (.ref 0), some (.int x1), some (.int x2)]) (S := []) (σ := (H0 o)) rfl (XT.ii_ne_t hc79) ?_
                    refine QTri.steps Ad W 1 (st' := (108, [some (.ref 0), some (.int x1), some (.int x2)], [.int (0 : Int32)], (H0 o))) rfl ?_
                    obtain rfl := Option.some.inj h
                    exact QTri.retI rfl rfl
/-- the law -/
def F0 (x0 : Int32) (x1 : Int32) (x2 : Int32) (x3 : Int32) (x4 : Int32) (x5 : Int32) : Option (Int32 × QHeap) :=
  (F1 x0 x1).bind fun r14 => (F2 r14 x2 x3 x4 x5).bind fun r50 => (if r50.1 = (if (if x2 < (0 : Int32) then (0 : Int32) else (if (7 : Int32) < x2 then (0 : Int32) else (if x3 < (0 : Int32) then (0 : Int32) else (if (3 : Int32) < x3 then (0 : Int32) else (if x4 < (0 : Int32) then (0 : Int32) else (if (3 : Int32) < x4 then (0 : Int32) else (1 : Int32))))))) = (0 : Int32) then (-1 : Int32) else (0 : Int32)) then (F5 r50.2).bind fun r55 => (if r55 = (if (if x2 < (0 : Int32) then (0 : Int32) else (if (7 : Int32) < x2 then (0 : Int32) else (if x3 < (0 : Int32) then (0 : Int32) else (if (3 : Int32) < x3 then (0 : Int32) else (if x4 < (0 : Int32) then (0 : Int32) else (if (3 : Int32) < x4 then (0 : Int32) else (1 : Int32))))))) = (0 : Int32) then (0 : Int32) else (1 : Int32)) then (F6 r50.2 (0 : Int32) (0 : Int32)).bind fun r81 => (if r81 = (if (if x2 < (0 : Int32) then (0 : Int32) else (if (7 : Int32) < x2 then (0 : Int32) else (if x3 < (0 : Int32) then (0 : Int32) else (if (3 : Int32) < x3 then (0 : Int32) else (if x4 < (0 : Int32) then (0 : Int32) else (if (3 : Int32) < x4 then (0 : Int32) else (1 : Int32))))))) = (0 : Int32) then (0 : Int32) else x2) then (F6 r50.2 (0 : Int32) (1 : Int32)).bind fun r86 => (if r86 = (if (if x2 < (0 : Int32) then (0 : Int32) else (if (7 : Int32) < x2 then (0 : Int32) else (if x3 < (0 : Int32) then (0 : Int32) else (if (3 : Int32) < x3 then (0 : Int32) else (if x4 < (0 : Int32) then (0 : Int32) else (if (3 : Int32) < x4 then (0 : Int32) else (1 : Int32))))))) = (0 : Int32) then (0 : Int32) else x3) then (F6 r50.2 (0 : Int32) (2 : Int32)).bind fun r91 => (if r91 = (if (if x2 < (0 : Int32) then (0 : Int32) else (if (7 : Int32) < x2 then (0 : Int32) else (if x3 < (0 : Int32) then (0 : Int32) else (if (3 : Int32) < x3 then (0 : Int32) else (if x4 < (0 : Int32) then (0 : Int32) else (if (3 : Int32) < x4 then (0 : Int32) else (1 : Int32))))))) = (0 : Int32) then (0 : Int32) else x4) then (F6 r50.2 (0 : Int32) (3 : Int32)).bind fun r96 => (if r96 = (if (if x2 < (0 : Int32) then (0 : Int32) else (if (7 : Int32) < x2 then (0 : Int32) else (if x3 < (0 : Int32) then (0 : Int32) else (if (3 : Int32) < x3 then (0 : Int32) else (if x4 < (0 : Int32) then (0 : Int32) else (if (3 : Int32) < x4 then (0 : Int32) else (1 : Int32))))))) = (0 : Int32) then (0 : Int32) else x5) then some ((1 : Int32), (H0 r50.2)) else some ((0 : Int32), (H0 r50.2))) else some ((0 : Int32), (H0 r50.2))) else some ((0 : Int32), (H0 r50.2))) else some ((0 : Int32), (H0 r50.2))) else some ((0 : Int32), (H0 r50.2))) else some ((0 : Int32), (H0 r50.2)))
theorem tF0 (Ad : QAd n0 ad) (W : QW Z a0) (x0 : Int32) (x1 : Int32) (x2 : Int32) (x3 : Int32) (x4 : Int32) (x5 : Int32) {r : Int32 × QHeap} (h : F0 x0 x1 x2 x3 x4 x5 = some r) : QTri l Z n0 ad 0 (0, qentry [.int x0, .int x1, .int x2, .int x3, .int x4, .int x5] (pMaxL 0), [], []) (some (Value.int r.1)) r.2 := by
  unfold F0 at h
  refine QTri.steps Ad W 1 (st' := (3, [some (.int x0), some (.int x1), some (.int x2), some (.int x3), some (.int x4), some (.int x5), none, none, none], [.ref 0], [.inl [.null, .null, .null, .null, .null, .null, .null, .null, .null, .null, .null, .null, .null, .null, .null, .null, .null, .null, .null, .null, .null, .null, .null, .null, .null, .null, .null, .null, .int (f_maxBlocks ob0), .int (f_maxSteps ob0), .int (f_n ob0), .int (f_arranged ob0), .int (f_outCount ob0), .int (f_steps ob0), .int (f_status ob0)]])) rfl ?_
  refine QTri.steps Ad W 3 (st' := (6, [some (.int x0), some (.int x1), some (.int x2), some (.int x3), some (.int x4), some (.int x5), none, none, none], [.int x1, .int x0, .ref 0, .ref 0], [.inl [.null, .null, .null, .null, .null, .null, .null, .null, .null, .null, .null, .null, .null, .null, .null, .null, .null, .null, .null, .null, .null, .null, .null, .null, .null, .null, .null, .null, .int (f_maxBlocks ob0), .int (f_maxSteps ob0), .int (f_n ob0), .int (f_arranged ob0), .int (f_outCount ob0), .int (f_steps ob0), .int (f_status ob0)]])) rfl ?_
  obtain ⟨r14, hr14, h⟩ := Option.bind_eq_some_iff.mp h
  refine QTri.callI W (a := 0) (as := [.int x0, .int x1]) (rest := [.ref 0]) (σ₁ := (H0 r14)) rfl rfl rfl rfl rfl rfl (tF1 Ad W x0 x1 hr14) ?_
  refine QTri.steps Ad W 2 (st' := (12, [some (.int x0), some (.int x1), some (.int x2), some (.int x3), some (.int x4), some (.int x5), some (.ref 0), none, none], [.int x2], (H0 r14))) rfl ?_
  have K16 : ∀ z15 : Int32, z15 = (if x2 < (0 : Int32) then (0 : Int32) else (if (7 : Int32) < x2 then (0 : Int32) else (if x3 < (0 : Int32) then (0 : Int32) else (if (3 : Int32) < x3 then (0 : Int32) else (if x4 < (0 : Int32) then (0 : Int32) else (if (3 : Int32) < x4 then (0 : Int32) else (1 : Int32))))))) → QTri l Z n0 ad 0 (46, [none, none, some (.int x2), some (.int x3), some (.int x4), some (.int x5), some (.ref 0), none, none], [.int z15], (H0 r14)) (some (Value.int r.1)) r.2 := by
    intro z15 ez15
    subst ez15
    refine QTri.steps Ad W 6 (st' := (56, [none, none, some (.int x2), some (.int x3), some (.int x4), some (.int x5), some (.ref 0), some (.int (if x2 < (0 : Int32) then (0 : Int32) else (if (7 : Int32) < x2 then (0 : Int32) else (if x3 < (0 : Int32) then (0 : Int32) else (if (3 : Int32) < x3 then (0 : Int32) else (if x4 < (0 : Int32) then (0 : Int32) else (if (3 : Int32) < x4 then (0 : Int32) else (1 : Int32)))))))), none], [.int x5, .int x4, .int x3, .int x2, .ref 0], (H0 r14))) rfl ?_
    obtain ⟨r50, hr50, h⟩ := Option.bind_eq_some_iff.mp h
    refine QTri.callV W (a := 0) (as := [.int x2, .int x3, .int x4, .int x5]) (rest := []) (w := (some (.int r50.1))) (σ₁ := (H0 r50.2)) rfl rfl rfl rfl rfl rfl rfl rfl (tF2 Ad W r14 x2 x3 x4 x5 hr50) ?_
    refine QTri.steps Ad W 3 (st' := (65, [none, none, some (.int x2), some (.int x3), some (.int x4), some (.int x5), some (.ref 0), some (.int (if x2 < (0 : Int32) then (0 : Int32) else (if (7 : Int32) < x2 then (0 : Int32) else (if x3 < (0 : Int32) then (0 : Int32) else (if (3 : Int32) < x3 then (0 : Int32) else (if x4 < (0 : Int32) then (0 : Int32) else (if (3 : Int32) < x4 then (0 : Int32) else (1 : Int32)))))))), some (.int r50.1)], [.int (if x2 < (0 : Int32) then (0 : Int32) else (if (7 : Int32) < x2 then (0 : Int32) else (if x3 < (0 : Int32) then (0 : Int32) else (if (3 : Int32) < x3 then (0 : Int32) else (if x4 < (0 : Int32) then (0 : Int32) else (if (3 : Int32) < x4 then (0 : Int32) else (1 : Int32))))))), .int r50.1], (H0 r50.2))) rfl ?_
    have K52 : ∀ z51 : Int32, z51 = (if (if x2 < (0 : Int32) then (0 : Int32) else (if (7 : Int32) < x2 then (0 : Int32) else (if x3 < (0 : Int32) then (0 : Int32) else (if (3 : Int32) < x3 then (0 : Int32) else (if x4 < (0 : Int32) then (0 : Int32) else (if (3 : Int32) < x4 then (0 : Int32) else (1 : Int32))))))) = (0 : Int32) then (-1 : Int32) else (0 : Int32)) → QTri l Z n0 ad 0 (73, [none, none, some (.int x2), some (.int x3), some (.int x4), some (.int x5), some (.ref 0), some (.int (if x2 < (0 : Int32) then (0 : Int32) else (if (7 : Int32) < x2 then (0 : Int32) else (if x3 < (0 : Int32) then (0 : Int32) else (if (3 : Int32) < x3 then (0 : Int32) else (if x4 < (0 : Int32) then (0 : Int32) else (if (3 : Int32) < x4 then (0 : Int32) else (1 : Int32)))))))), none], [.int z51, .int r50.1], (H0 r50.2)) (some (Value.int r.1)) r.2 := by
      intro z51 ez51
      subst ez51
      rcases qite h with ⟨hc54, h⟩ | ⟨hc54, h⟩
      · refine QTri.brT Ad W (t := 78) (f := 76) (L := [none, none, some (.int x2), some (.int x3), some (.int x4), some (.int x5), some (.ref 0), some (.int (if x2 < (0 : Int32) then (0 : Int32) else (if (7 : Int32) < x2 then (0 : Int32) else (if x3 < (0 : Int32) then (0 : Int32) else (if (3 : Int32) < x3 then (0 : Int32) else (if x4 < (0 : Int32) then (0 : Int32) else (if (3 : Int32) < x4 then (0 : Int32) else (1 : Int32)))))))), none]) (S := []) (σ := (H0 r50.2)) rfl (XT.ii_eq_t hc54) ?_
        refine QTri.steps Ad W 1 (st' := (80, [none, none, some (.int x2), some (.int x3), some (.int x4), some (.int x5), some (.ref 0), some (.int (if x2 < (0 : Int32) then (0 : Int32) else (if (7 : Int32) < x2 then (0 : Int32) else (if x3 < (0 : Int32) then (0 : Int32) else (if (3 : Int32) < x3 then (0 : Int32) else (if x4 < (0 : Int32) then (0 : Int32) else (if (3 : Int32) < x4 then (0 : Int32) else (1 : Int32)))))))), none], [.ref 0], (H0 r50.2))) rfl ?_
        obtain ⟨r55, hr55, h⟩ := Option.bind_eq_some_iff.mp h
        refine QTri.callV W (a := 0) (as := []) (rest := []) (w := (some (.int r55))) (σ₁ := (H0 r50.2)) rfl rfl rfl rfl rfl rfl rfl rfl (tF5 Ad W r50.2 hr55) ?_
        refine QTri.steps Ad W 1 (st' := (85, [none, none, some (.int x2), some (.int x3), some (.int x4), some (.int x5), some (.ref 0), some (.int (if x2 < (0 : Int32) then (0 : Int32) else (if (7 : Int32) < x2 then (0 : Int32) else (if x3 < (0 : Int32) then (0 : Int32) else (if (3 : Int32) < x3 then (0 : Int32) else (if x4 < (0 : Int32) then (0 : Int32) else (if (3 : Int32) < x4 then (0 : Int32) else (1 : Int32)))))))), none], [.int (if x2 < (0 : Int32) then (0 : Int32) else (if (7 : Int32) < x2 then (0 : Int32) else (if x3 < (0 : Int32) then (0 : Int32) else (if (3 : Int32) < x3 then (0 : Int32) else (if x4 < (0 : Int32) then (0 : Int32) else (if (3 : Int32) < x4 then (0 : Int32) else (1 : Int32))))))), .int r55], (H0 r50.2))) rfl ?_
        have K57 : ∀ z56 : Int32, z56 = (if (if x2 < (0 : Int32) then (0 : Int32) else (if (7 : Int32) < x2 then (0 : Int32) else (if x3 < (0 : Int32) then (0 : Int32) else (if (3 : Int32) < x3 then (0 : Int32) else (if x4 < (0 : Int32) then (0 : Int32) else (if (3 : Int32) < x4 then (0 : Int32) else (1 : Int32))))))) = (0 : Int32) then (0 : Int32) else (1 : Int32)) → QTri l Z n0 ad 0 (93, [none, none, some (.int x2), some (.int x3), some (.int x4), some (.int x5), some (.ref 0), some (.int (if x2 < (0 : Int32) then (0 : Int32) else (if (7 : Int32) < x2 then (0 : Int32) else (if x3 < (0 : Int32) then (0 : Int32) else (if (3 : Int32) < x3 then (0 : Int32) else (if x4 < (0 : Int32) then (0 : Int32) else (if (3 : Int32) < x4 then (0 : Int32) else (1 : Int32)))))))), none], [.int z56, .int r55], (H0 r50.2)) (some (Value.int r.1)) r.2 := by
          intro z56 ez56
          subst ez56
          rcases qite h with ⟨hc59, h⟩ | ⟨hc59, h⟩
          · refine QTri.brT Ad W (t := 98) (f := 96) (L := [none, none, some (.int x2), some (.int x3), some (.int x4), some (.int x5), some (.ref 0), some (.int (if x2 < (0 : Int32) then (0 : Int32) else (if (7 : Int32) < x2 then (0 : Int32) else (if x3 < (0 : Int32) then (0 : Int32) else (if (3 : Int32) < x3 then (0 : Int32) else (if x4 < (0 : Int32) then (0 : Int32) else (if (3 : Int32) < x4 then (0 : Int32) else (1 : Int32)))))))), none]) (S := []) (σ := (H0 r50.2)) rfl (XT.ii_eq_t hc59) ?_
            refine QTri.steps Ad W 3 (st' := (102, [none, none, some (.int x2), some (.int x3), some (.int x4), some (.int x5), some (.ref 0), some (.int (if x2 < (0 : Int32) then (0 : Int32) else (if (7 : Int32) < x2 then (0 : Int32) else (if x3 < (0 : Int32) then (0 : Int32) else (if (3 : Int32) < x3 then (0 : Int32) else (if x4 < (0 : Int32) then (0 : Int32) else (if (3 : Int32) < x4 then (0 : Int32) else (1 : Int32)))))))), none], [.int (0 : Int32), .int (0 : Int32), .ref 0], (H0 r50.2))) rfl ?_
            obtain ⟨r81, hr81, h⟩ := Option.bind_eq_some_iff.mp h
            refine QTri.callV W (a := 0) (as := [.int (0 : Int32), .int (0 : Int32)]) (rest := []) (w := (some (.int r81))) (σ₁ := (H0 r50.2)) rfl rfl rfl rfl rfl rfl rfl rfl (tF6 Ad W r50.2 (0 : Int32) (0 : Int32) hr81) ?_
            refine QTri.steps Ad W 1 (st' := (107, [none, none, some (.int x2), some (.int x3), some (.int x4), some (.int x5), some (.ref 0), some (.int (if x2 < (0 : Int32) then (0 : Int32) else (if (7 : Int32) < x2 then (0 : Int32) else (if x3 < (0 : Int32) then (0 : Int32) else (if (3 : Int32) < x3 then (0 : Int32) else (if x4 < (0 : Int32) then (0 : Int32) else (if (3 : Int32) < x4 then (0 : Int32) else (1 : Int32)))))))), none], [.int (if x2 < (0 : Int32) then (0 : Int32) else (if (7 : Int32) < x2 then (0 : Int32) else (if x3 < (0 : Int32) then (0 : Int32) else (if (3 : Int32) < x3 then (0 : Int32) else (if x4 < (0 : Int32) then (0 : Int32) else (if (3 : Int32) < x4 then (0 : Int32) else (1 : Int32))))))), .int r81], (H0 r50.2))) rfl ?_
            have K83 : ∀ z82 : Int32, z82 = (if (if x2 < (0 : Int32) then (0 : Int32) else (if (7 : Int32) < x2 then (0 : Int32) else (if x3 < (0 : Int32) then (0 : Int32) else (if (3 : Int32) < x3 then (0 : Int32) else (if x4 < (0 : Int32) then (0 : Int32) else (if (3 : Int32) < x4 then (0 : Int32) else (1 : Int32))))))) = (0 : Int32) then (0 : Int32) else x2) → QTri l Z n0 ad 0 (115, [none, none, none, some (.int x3), some (.int x4), some (.int x5), some (.ref 0), some (.int (if x2 < (0 : Int32) then (0 : Int32) else (if (7 : Int32) < x2 then (0 : Int32) else (if x3 < (0 : Int32) then (0 : Int32) else (if (3 : Int32) < x3 then (0 : Int32) else (if x4 < (0 : Int32) then (0 : Int32) else (if (3 : Int32) < x4 then (0 : Int32) else (1 : Int32)))))))), none], [.int z82, .int r81], (H0 r50.2)) (some (Value.int r.1)) r.2 := by
              intro z82 ez82
              subst ez82
              rcases qite h with ⟨hc85, h⟩ | ⟨hc85, h⟩
              · refine QTri.brT Ad W (t := 120) (f := 118) (L := [none, none, none, some (.int x3), some (.int x4), some (.int x5), some (.ref 0), some (.int (if x2 < (0 : Int32) then (0 : Int32) else (if (7 : Int32) < x2 then (0 : Int32) else (if x3 < (0 : Int32) then (0 : Int32) else (if (3 : Int32) < x3 then (0 : Int32) else (if x4 < (0 : Int32) then (0 : Int32) else (if (3 : Int32) < x4 then (0 : Int32) else (1 : Int32)))))))), none]) (S := []) (σ := (H0 r50.2)) rfl (XT.ii_eq_t hc85) ?_
                refine QTri.steps Ad W 3 (st' := (124, [none, none, none, some (.int x3), some (.int x4), some (.int x5), some (.ref 0), some (.int (if x2 < (0 : Int32) then (0 : Int32) else (if (7 : Int32) < x2 then (0 : Int32) else (if x3 < (0 : Int32) then (0 : Int32) else (if (3 : Int32) < x3 then (0 : Int32) else (if x4 < (0 : Int32) then (0 : Int32) else (if (3 : Int32) < x4 then (0 : Int32) else (1 : Int32)))))))), none], [.int (1 : Int32), .int (0 : Int32), .ref 0], (H0 r50.2))) rfl ?_
                obtain ⟨r86, hr86, h⟩ := Option.bind_eq_some_iff.mp h
                refine QTri.callV W (a := 0) (as := [.int (0 : Int32), .int (1 : Int32)]) (rest := []) (w := (some (.int r86))) (σ₁ := (H0 r50.2)) rfl rfl rfl rfl rfl rfl rfl rfl (tF6 Ad W r50.2 (0 : Int32) (1 : Int32) hr86) ?_
                refine QTri.steps Ad W 1 (st' := (129, [none, none, none, some (.int x3), some (.int x4), some (.int x5), some (.ref 0), some (.int (if x2 < (0 : Int32) then (0 : Int32) else (if (7 : Int32) < x2 then (0 : Int32) else (if x3 < (0 : Int32) then (0 : Int32) else (if (3 : Int32) < x3 then (0 : Int32) else (if x4 < (0 : Int32) then (0 : Int32) else (if (3 : Int32) < x4 then (0 : Int32) else (1 : Int32)))))))), none], [.int (if x2 < (0 : Int32) then (0 : Int32) else (if (7 : Int32) < x2 then (0 : Int32) else (if x3 < (0 : Int32) then (0 : Int32) else (if (3 : Int32) < x3 then (0 : Int32) else (if x4 < (0 : Int32) then (0 : Int32) else (if (3 : Int32) < x4 then (0 : Int32) else (1 : Int32))))))), .int r86], (H0 r50.2))) rfl ?_
                have K88 : ∀ z87 : Int32, z87 = (if (if x2 < (0 : Int32) then (0 : Int32) else (if (7 : Int32) < x2 then (0 : Int32) else (if x3 < (0 : Int32) then (0 : Int32) else (if (3 : Int32) < x3 then (0 : Int32) else (if x4 < (0 : Int32) then (0 : Int32) else (if (3 : Int32) < x4 then (0 : Int32) else (1 : Int32))))))) = (0 : Int32) then (0 : Int32) else x3) → QTri l Z n0 ad 0 (137, [none, none, none, none, some (.int x4), some (.int x5), some (.ref 0), some (.int (if x2 < (0 : Int32) then (0 : Int32) else (if (7 : Int32) < x2 then (0 : Int32) else (if x3 < (0 : Int32) then (0 : Int32) else (if (3 : Int32) < x3 then (0 : Int32) else (if x4 < (0 : Int32) then (0 : Int32) else (if (3 : Int32) < x4 then (0 : Int32) else (1 : Int32)))))))), none], [.int z87, .int r86], (H0 r50.2)) (some (Value.int r.1)) r.2 := by
                  intro z87 ez87
                  subst ez87
                  rcases qite h with ⟨hc90, h⟩ | ⟨hc90, h⟩
                  · refine QTri.brT Ad W (t := 142) (f := 140) (L := [none, none, none, none, some (.int x4), some (.int x5), some (.ref 0), some (.int (if x2 < (0 : Int32) then (0 : Int32) else (if (7 : Int32) < x2 then (0 : Int32) else (if x3 < (0 : Int32) then (0 : Int32) else (if (3 : Int32) < x3 then (0 : Int32) else (if x4 < (0 : Int32) then (0 : Int32) else (if (3 : Int32) < x4 then (0 : Int32) else (1 : Int32)))))))), none]) (S := []) (σ := (H0 r50.2)) rfl (XT.ii_eq_t hc90) ?_
                    refine QTri.steps Ad W 3 (st' := (146, [none, none, none, none, some (.int x4), some (.int x5), some (.ref 0), some (.int (if x2 < (0 : Int32) then (0 : Int32) else (if (7 : Int32) < x2 then (0 : Int32) else (if x3 < (0 : Int32) then (0 : Int32) else (if (3 : Int32) < x3 then (0 : Int32) else (if x4 < (0 : Int32) then (0 : Int32) else (if (3 : Int32) < x4 then (0 : Int32) else (1 : Int32)))))))), none], [.int (2 : Int32), .int (0 : Int32), .ref 0], (H0 r50.2))) rfl ?_
                    obtain ⟨r91, hr91, h⟩ := Option.bind_eq_some_iff.mp h
                    refine QTri.callV W (a := 0) (as := [.int (0 : Int32), .int (2 : Int32)]) (rest := []) (w := (some (.int r91))) (σ₁ := (H0 r50.2)) rfl rfl rfl rfl rfl rfl rfl rfl (tF6 Ad W r50.2 (0 : Int32) (2 : Int32) hr91) ?_
                    refine QTri.steps Ad W 1 (st' := (151, [none, none, none, none, some (.int x4), some (.int x5), some (.ref 0), some (.int (if x2 < (0 : Int32) then (0 : Int32) else (if (7 : Int32) < x2 then (0 : Int32) else (if x3 < (0 : Int32) then (0 : Int32) else (if (3 : Int32) < x3 then (0 : Int32) else (if x4 < (0 : Int32) then (0 : Int32) else (if (3 : Int32) < x4 then (0 : Int32) else (1 : Int32)))))))), none], [.int (if x2 < (0 : Int32) then (0 : Int32) else (if (7 : Int32) < x2 then (0 : Int32) else (if x3 < (0 : Int32) then (0 : Int32) else (if (3 : Int32) < x3 then (0 : Int32) else (if x4 < (0 : Int32) then (0 : Int32) else (if (3 : Int32) < x4 then (0 : Int32) else (1 : Int32))))))), .int r91], (H0 r50.2))) rfl ?_
                    have K93 : ∀ z92 : Int32, z92 = (if (if x2 < (0 : Int32) then (0 : Int32) else (if (7 : Int32) < x2 then (0 : Int32) else (if x3 < (0 : Int32) then (0 : Int32) else (if (3 : Int32) < x3 then (0 : Int32) else (if x4 < (0 : Int32) then (0 : Int32) else (if (3 : Int32) < x4 then (0 : Int32) else (1 : Int32))))))) = (0 : Int32) then (0 : Int32) else x4) → QTri l Z n0 ad 0 (160, [none, none, none, none, none, some (.int x5), some (.ref 0), some (.int (if x2 < (0 : Int32) then (0 : Int32) else (if (7 : Int32) < x2 then (0 : Int32) else (if x3 < (0 : Int32) then (0 : Int32) else (if (3 : Int32) < x3 then (0 : Int32) else (if x4 < (0 : Int32) then (0 : Int32) else (if (3 : Int32) < x4 then (0 : Int32) else (1 : Int32)))))))), none], [.int z92, .int r91], (H0 r50.2)) (some (Value.int r.1)) r.2 := by
                      intro z92 ez92
                      subst ez92
                      rcases qite h with ⟨hc95, h⟩ | ⟨hc95, h⟩
                      · refine QTri.brT Ad W (t := 165) (f := 163) (L := [none, none, none, none, none, some (.int x5), some (.ref 0), some (.int (if x2 < (0 : Int32) then (0 : Int32) else (if (7 : Int32) < x2 then (0 : Int32) else (if x3 < (0 : Int32) then (0 : Int32) else (if (3 : Int32) < x3 then (0 : Int32) else (if x4 < (0 : Int32) then (0 : Int32) else (if (3 : Int32) < x4 then (0 : Int32) else (1 : Int32)))))))), none]) (S := []) (σ := (H0 r50.2)) rfl (XT.ii_eq_t hc95) ?_
                        refine QTri.steps Ad W 3 (st' := (169, [none, none, none, none, none, some (.int x5), some (.ref 0), some (.int (if x2 < (0 : Int32) then (0 : Int32) else (if (7 : Int32) < x2 then (0 : Int32) else (if x3 < (0 : Int32) then (0 : Int32) else (if (3 : Int32) < x3 then (0 : Int32) else (if x4 < (0 : Int32) then (0 : Int32) else (if (3 : Int32) < x4 then (0 : Int32) else (1 : Int32)))))))), none], [.int (3 : Int32), .int (0 : Int32), .ref 0], (H0 r50.2))) rfl ?_
                        obtain ⟨r96, hr96, h⟩ := Option.bind_eq_some_iff.mp h
                        refine QTri.callV W (a := 0) (as := [.int (0 : Int32), .int (3 : Int32)]) (rest := []) (w := (some (.int r96))) (σ₁ := (H0 r50.2)) rfl rfl rfl rfl rfl rfl rfl rfl (tF6 Ad W r50.2 (0 : Int32) (3 : Int32) hr96) ?_
                        refine QTri.steps Ad W 1 (st' := (174, [none, none, none, none, none, some (.int x5), some (.ref 0), some (.int (if x2 < (0 : Int32) then (0 : Int32) else (if (7 : Int32) < x2 then (0 : Int32) else (if x3 < (0 : Int32) then (0 : Int32) else (if (3 : Int32) < x3 then (0 : Int32) else (if x4 < (0 : Int32) then (0 : Int32) else (if (3 : Int32) < x4 then (0 : Int32) else (1 : Int32)))))))), none], [.int (if x2 < (0 : Int32) then (0 : Int32) else (if (7 : Int32) < x2 then (0 : Int32) else (if x3 < (0 : Int32) then (0 : Int32) else (if (3 : Int32) < x3 then (0 : Int32) else (if x4 < (0 : Int32) then (0 : Int32) else (if (3 : Int32) < x4 then (0 : Int32) else (1 : Int32))))))), .int r96], (H0 r50.2))) rfl ?_
                        have K98 : ∀ z97 : Int32, z97 = (if (if x2 < (0 : Int32) then (0 : Int32) else (if (7 : Int32) < x2 then (0 : Int32) else (if x3 < (0 : Int32) then (0 : Int32) else (if (3 : Int32) < x3 then (0 : Int32) else (if x4 < (0 : Int32) then (0 : Int32) else (if (3 : Int32) < x4 then (0 : Int32) else (1 : Int32))))))) = (0 : Int32) then (0 : Int32) else x5) → QTri l Z n0 ad 0 (183, [none, none, none, none, none, none, none, none, none], [.int z97, .int r96], (H0 r50.2)) (some (Value.int r.1)) r.2 := by
                          intro z97 ez97
                          subst ez97
                          rcases qite h with ⟨hc100, h⟩ | ⟨hc100, h⟩
                          · refine QTri.brF Ad W (t := 190) (f := 186) (L := [none, none, none, none, none, none, none, none, none]) (S := []) (σ := (H0 r50.2)) rfl (XT.ii_ne_f hc100) ?_
                            refine QTri.steps Ad W 2 (st' := (191, [none, none, none, none, none, none, none, none, none], [.int (1 : Int32)], (H0 r50.2))) rfl ?_
                            obtain rfl := Option.some.inj h
                            exact QTri.retZ rfl rfl
                          · refine QTri.brT Ad W (t := 190) (f := 186) (L := [none, none, none, none, none, none, none, none, none]) (S := []) (σ := (H0 r50.2)) rfl (XT.ii_ne_t hc100) ?_
                            refine QTri.steps Ad W 1 (st' := (191, [none, none, none, none, none, none, none, none, none], [.int (0 : Int32)], (H0 r50.2))) rfl ?_
                            obtain rfl := Option.some.inj h
                            exact QTri.retZ rfl rfl
                        rcases Classical.em ((if x2 < (0 : Int32) then (0 : Int32) else (if (7 : Int32) < x2 then (0 : Int32) else (if x3 < (0 : Int32) then (0 : Int32) else (if (3 : Int32) < x3 then (0 : Int32) else (if x4 < (0 : Int32) then (0 : Int32) else (if (3 : Int32) < x4 then (0 : Int32) else (1 : Int32))))))) = (0 : Int32)) with hc99 | hc99
                        · refine QTri.brT Ad W (t := 182) (f := 177) (L := [none, none, none, none, none, some (.int x5), some (.ref 0), some (.int (if x2 < (0 : Int32) then (0 : Int32) else (if (7 : Int32) < x2 then (0 : Int32) else (if x3 < (0 : Int32) then (0 : Int32) else (if (3 : Int32) < x3 then (0 : Int32) else (if x4 < (0 : Int32) then (0 : Int32) else (if (3 : Int32) < x4 then (0 : Int32) else (1 : Int32)))))))), none]) (S := [.int r96]) (σ := (H0 r50.2)) rfl (XT.i0_eq_t hc99) ?_
                          refine QTri.steps Ad W 1 (st' := (183, [none, none, none, none, none, some (.int x5), some (.ref 0), some (.int (if x2 < (0 : Int32) then (0 : Int32) else (if (7 : Int32) < x2 then (0 : Int32) else (if x3 < (0 : Int32) then (0 : Int32) else (if (3 : Int32) < x3 then (0 : Int32) else (if x4 < (0 : Int32) then (0 : Int32) else (if (3 : Int32) < x4 then (0 : Int32) else (1 : Int32)))))))), none], [.int (0 : Int32), .int r96], (H0 r50.2))) rfl ?_
                          exact QTri.mask [false, false, false, false, false, false, false, false, false] (K98 _ (if_pos hc99).symm)
                        · refine QTri.brF Ad W (t := 182) (f := 177) (L := [none, none, none, none, none, some (.int x5), some (.ref 0), some (.int (if x2 < (0 : Int32) then (0 : Int32) else (if (7 : Int32) < x2 then (0 : Int32) else (if x3 < (0 : Int32) then (0 : Int32) else (if (3 : Int32) < x3 then (0 : Int32) else (if x4 < (0 : Int32) then (0 : Int32) else (if (3 : Int32) < x4 then (0 : Int32) else (1 : Int32)))))))), none]) (S := [.int r96]) (σ := (H0 r50.2)) rfl (XT.i0_eq_f hc99) ?_
                          refine QTri.steps Ad W 2 (st' := (183, [none, none, none, none, none, some (.int x5), some (.ref 0), some (.int (if x2 < (0 : Int32) then (0 : Int32) else (if (7 : Int32) < x2 then (0 : Int32) else (if x3 < (0 : Int32) then (0 : Int32) else (if (3 : Int32) < x3 then (0 : Int32) else (if x4 < (0 : Int32) then (0 : Int32) else (if (3 : Int32) < x4 then (0 : Int32) else (1 : Int32)))))))), none], [.int x5, .int r96], (H0 r50.2))) rfl ?_
                          exact QTri.mask [false, false, false, false, false, false, false, false, false] (K98 _ (if_neg hc99).symm)
                      · refine QTri.brF Ad W (t := 165) (f := 163) (L := [none, none, none, none, none, some (.int x5), some (.ref 0), some (.int (if x2 < (0 : Int32) then (0 : Int32) else (if (7 : Int32) < x2 then (0 : Int32) else (if x3 < (0 : Int32) then (0 : Int32) else (if (3 : Int32) < x3 then (0 : Int32) else (if x4 < (0 : Int32) then (0 : Int32) else (if (3 : Int32) < x4 then (0 : Int32) else (1 : Int32)))))))), none]) (S := []) (σ := (H0 r50.2)) rfl (XT.ii_eq_f hc95) ?_
                        refine QTri.steps Ad W 1 (st' := (164, [none, none, none, none, none, some (.int x5), some (.ref 0), some (.int (if x2 < (0 : Int32) then (0 : Int32) else (if (7 : Int32) < x2 then (0 : Int32) else (if x3 < (0 : Int32) then (0 : Int32) else (if (3 : Int32) < x3 then (0 : Int32) else (if x4 < (0 : Int32) then (0 : Int32) else (if (3 : Int32) < x4 then (0 : Int32) else (1 : Int32)))))))), none], [.int (0 : Int32)], (H0 r50.2))) rfl ?_
                        obtain rfl := Option.some.inj h
                        exact QTri.retZ rfl rfl
                    rcases Classical.em ((if x2 < (0 : Int32) then (0 : Int32) else (if (7 : Int32) < x2 then (0 : Int32) else (if x3 < (0 : Int32) then (0 : Int32) else (if (3 : Int32) < x3 then (0 : Int32) else (if x4 < (0 : Int32) then (0 : Int32) else (if (3 : Int32) < x4 then (0 : Int32) else (1 : Int32))))))) = (0 : Int32)) with hc94 | hc94
                    · refine QTri.brT Ad W (t := 159) (f := 154) (L := [none, none, none, none, some (.int x4), some (.int x5), some (.ref 0), some (.int (if x2 < (0 : Int32) then (0 : Int32) else (if (7 : Int32) < x2 then (0 : Int32) else (if x3 < (0 : Int32) then (0 : Int32) else (if (3 : Int32) < x3 then (0 : Int32) else (if x4 < (0 : Int32) then (0 : Int32) else (if (3 : Int32) < x4 then (0 : Int32) else (1 : Int32)))))))), none]) (S := [.int r91]) (σ := (H0 r50.2)) rfl (XT.i0_eq_t hc94) ?_
                      refine QTri.steps Ad W 1 (st' := (160, [none, none, none, none, some (.int x4), some (.int x5), some (.ref 0), some (.int (if x2 < (0 : Int32) then (0 : Int32) else (if (7 : Int32) < x2 then (0 : Int32) else (if x3 < (0 : Int32) then (0 : Int32) else (if (3 : Int32) < x3 then (0 : Int32) else (if x4 < (0 : Int32) then (0 : Int32) else (if (3 : Int32) < x4 then (0 : Int32) else (1 : Int32)))))))), none], [.int (0 : Int32), .int r91], (H0 r50.2))) rfl ?_
                      exact QTri.mask [false, false, false, false, false, true, true, true, false] (K93 _ (if_pos hc94).symm)
                    · refine QTri.brF Ad W (t := 159) (f := 154) (L := [none, none, none, none, some (.int x4), some (.int x5), some (.ref 0), some (.int (if x2 < (0 : Int32) then (0 : Int32) else (if (7 : Int32) < x2 then (0 : Int32) else (if x3 < (0 : Int32) then (0 : Int32) else (if (3 : Int32) < x3 then (0 : Int32) else (if x4 < (0 : Int32) then (0 : Int32) else (if (3 : Int32) < x4 then (0 : Int32) else (1 : Int32)))))))), none]) (S := [.int r91]) (σ := (H0 r50.2)) rfl (XT.i0_eq_f hc94) ?_
                      refine QTri.steps Ad W 2 (st' := (160, [none, none, none, none, some (.int x4), some (.int x5), some (.ref 0), some (.int (if x2 < (0 : Int32) then (0 : Int32) else (if (7 : Int32) < x2 then (0 : Int32) else (if x3 < (0 : Int32) then (0 : Int32) else (if (3 : Int32) < x3 then (0 : Int32) else (if x4 < (0 : Int32) then (0 : Int32) else (if (3 : Int32) < x4 then (0 : Int32) else (1 : Int32)))))))), none], [.int x4, .int r91], (H0 r50.2))) rfl ?_
                      exact QTri.mask [false, false, false, false, false, true, true, true, false] (K93 _ (if_neg hc94).symm)
                  · refine QTri.brF Ad W (t := 142) (f := 140) (L := [none, none, none, none, some (.int x4), some (.int x5), some (.ref 0), some (.int (if x2 < (0 : Int32) then (0 : Int32) else (if (7 : Int32) < x2 then (0 : Int32) else (if x3 < (0 : Int32) then (0 : Int32) else (if (3 : Int32) < x3 then (0 : Int32) else (if x4 < (0 : Int32) then (0 : Int32) else (if (3 : Int32) < x4 then (0 : Int32) else (1 : Int32)))))))), none]) (S := []) (σ := (H0 r50.2)) rfl (XT.ii_eq_f hc90) ?_
                    refine QTri.steps Ad W 1 (st' := (141, [none, none, none, none, some (.int x4), some (.int x5), some (.ref 0), some (.int (if x2 < (0 : Int32) then (0 : Int32) else (if (7 : Int32) < x2 then (0 : Int32) else (if x3 < (0 : Int32) then (0 : Int32) else (if (3 : Int32) < x3 then (0 : Int32) else (if x4 < (0 : Int32) then (0 : Int32) else (if (3 : Int32) < x4 then (0 : Int32) else (1 : Int32)))))))), none], [.int (0 : Int32)], (H0 r50.2))) rfl ?_
                    obtain rfl := Option.some.inj h
                    exact QTri.retZ rfl rfl
                rcases Classical.em ((if x2 < (0 : Int32) then (0 : Int32) else (if (7 : Int32) < x2 then (0 : Int32) else (if x3 < (0 : Int32) then (0 : Int32) else (if (3 : Int32) < x3 then (0 : Int32) else (if x4 < (0 : Int32) then (0 : Int32) else (if (3 : Int32) < x4 then (0 : Int32) else (1 : Int32))))))) = (0 : Int32)) with hc89 | hc89
                · refine QTri.brT Ad W (t := 136) (f := 132) (L := [none, none, none, some (.int x3), some (.int x4), some (.int x5), some (.ref 0), some (.int (if x2 < (0 : Int32) then (0 : Int32) else (if (7 : Int32) < x2 then (0 : Int32) else (if x3 < (0 : Int32) then (0 : Int32) else (if (3 : Int32) < x3 then (0 : Int32) else (if x4 < (0 : Int32) then (0 : Int32) else (if (3 : Int32) < x4 then (0 : Int32) else (1 : Int32)))))))), none]) (S := [.int r86]) (σ := (H0 r50.2)) rfl (XT.i0_eq_t hc89) ?_
                  refine QTri.steps Ad W 1 (st' := (137, [none, none, none, some (.int x3), some (.int x4), some (.int x5), some (.ref 0), some (.int (if x2 < (0 : Int32) then (0 : Int32) else (if (7 : Int32) < x2 then (0 : Int32) else (if x3 < (0 : Int32) then (0 : Int32) else (if (3 : Int32) < x3 then (0 : Int32) else (if x4 < (0 : Int32) then (0 : Int32) else (if (3 : Int32) < x4 then (0 : Int32) else (1 : Int32)))))))), none], [.int (0 : Int32), .int r86], (H0 r50.2))) rfl ?_
                  exact QTri.mask [false, false, false, false, true, true, true, true, false] (K88 _ (if_pos hc89).symm)
                · refine QTri.brF Ad W (t := 136) (f := 132) (L := [none, none, none, some (.int x3), some (.int x4), some (.int x5), some (.ref 0), some (.int (if x2 < (0 : Int32) then (0 : Int32) else (if (7 : Int32) < x2 then (0 : Int32) else (if x3 < (0 : Int32) then (0 : Int32) else (if (3 : Int32) < x3 then (0 : Int32) else (if x4 < (0 : Int32) then (0 : Int32) else (if (3 : Int32) < x4 then (0 : Int32) else (1 : Int32)))))))), none]) (S := [.int r86]) (σ := (H0 r50.2)) rfl (XT.i0_eq_f hc89) ?_
                  refine QTri.steps Ad W 2 (st' := (137, [none, none, none, some (.int x3), some (.int x4), some (.int x5), some (.ref 0), some (.int (if x2 < (0 : Int32) then (0 : Int32) else (if (7 : Int32) < x2 then (0 : Int32) else (if x3 < (0 : Int32) then (0 : Int32) else (if (3 : Int32) < x3 then (0 : Int32) else (if x4 < (0 : Int32) then (0 : Int32) else (if (3 : Int32) < x4 then (0 : Int32) else (1 : Int32)))))))), none], [.int x3, .int r86], (H0 r50.2))) rfl ?_
                  exact QTri.mask [false, false, false, false, true, true, true, true, false] (K88 _ (if_neg hc89).symm)
              · refine QTri.brF Ad W (t := 120) (f := 118) (L := [none, none, none, some (.int x3), some (.int x4), some (.int x5), some (.ref 0), some (.int (if x2 < (0 : Int32) then (0 : Int32) else (if (7 : Int32) < x2 then (0 : Int32) else (if x3 < (0 : Int32) then (0 : Int32) else (if (3 : Int32) < x3 then (0 : Int32) else (if x4 < (0 : Int32) then (0 : Int32) else (if (3 : Int32) < x4 then (0 : Int32) else (1 : Int32)))))))), none]) (S := []) (σ := (H0 r50.2)) rfl (XT.ii_eq_f hc85) ?_
                refine QTri.steps Ad W 1 (st' := (119, [none, none, none, some (.int x3), some (.int x4), some (.int x5), some (.ref 0), some (.int (if x2 < (0 : Int32) then (0 : Int32) else (if (7 : Int32) < x2 then (0 : Int32) else (if x3 < (0 : Int32) then (0 : Int32) else (if (3 : Int32) < x3 then (0 : Int32) else (if x4 < (0 : Int32) then (0 : Int32) else (if (3 : Int32) < x4 then (0 : Int32) else (1 : Int32)))))))), none], [.int (0 : Int32)], (H0 r50.2))) rfl ?_
                obtain rfl := Option.some.inj h
                exact QTri.retZ rfl rfl
            rcases Classical.em ((if x2 < (0 : Int32) then (0 : Int32) else (if (7 : Int32) < x2 then (0 : Int32) else (if x3 < (0 : Int32) then (0 : Int32) else (if (3 : Int32) < x3 then (0 : Int32) else (if x4 < (0 : Int32) then (0 : Int32) else (if (3 : Int32) < x4 then (0 : Int32) else (1 : Int32))))))) = (0 : Int32)) with hc84 | hc84
            · refine QTri.brT Ad W (t := 114) (f := 110) (L := [none, none, some (.int x2), some (.int x3), some (.int x4), some (.int x5), some (.ref 0), some (.int (if x2 < (0 : Int32) then (0 : Int32) else (if (7 : Int32) < x2 then (0 : Int32) else (if x3 < (0 : Int32) then (0 : Int32) else (if (3 : Int32) < x3 then (0 : Int32) else (if x4 < (0 : Int32) then (0 : Int32) else (if (3 : Int32) < x4 then (0 : Int32) else (1 : Int32)))))))), none]) (S := [.int r81]) (σ := (H0 r50.2)) rfl (XT.i0_eq_t hc84) ?_
              refine QTri.steps Ad W 1 (st' := (115, [none, none, some (.int x2), some (.int x3), some (.int x4), some (.int x5), some (.ref 0), some (.int (if x2 < (0 : Int32) then (0 : Int32) else (if (7 : Int32) < x2 then (0 : Int32) else (if x3 < (0 : Int32) then (0 : Int32) else (if (3 : Int32) < x3 then (0 : Int32) else (if x4 < (0 : Int32) then (0 : Int32) else (if (3 : Int32) < x4 then (0 : Int32) else (1 : Int32)))))))), none], [.int (0 : Int32), .int r81], (H0 r50.2))) rfl ?_
              exact QTri.mask [false, false, false, true, true, true, true, true, false] (K83 _ (if_pos hc84).symm)
            · refine QTri.brF Ad W (t := 114) (f := 110) (L := [none, none, some (.int x2), some (.int x3), some (.int x4), some (.int x5), some (.ref 0), some (.int (if x2 < (0 : Int32) then (0 : Int32) else (if (7 : Int32) < x2 then (0 : Int32) else (if x3 < (0 : Int32) then (0 : Int32) else (if (3 : Int32) < x3 then (0 : Int32) else (if x4 < (0 : Int32) then (0 : Int32) else (if (3 : Int32) < x4 then (0 : Int32) else (1 : Int32)))))))), none]) (S := [.int r81]) (σ := (H0 r50.2)) rfl (XT.i0_eq_f hc84) ?_
              refine QTri.steps Ad W 2 (st' := (115, [none, none, some (.int x2), some (.int x3), some (.int x4), some (.int x5), some (.ref 0), some (.int (if x2 < (0 : Int32) then (0 : Int32) else (if (7 : Int32) < x2 then (0 : Int32) else (if x3 < (0 : Int32) then (0 : Int32) else (if (3 : Int32) < x3 then (0 : Int32) else (if x4 < (0 : Int32) then (0 : Int32) else (if (3 : Int32) < x4 then (0 : Int32) else (1 : Int32)))))))), none], [.int x2, .int r81], (H0 r50.2))) rfl ?_
              exact QTri.mask [false, false, false, true, true, true, true, true, false] (K83 _ (if_neg hc84).symm)
          · refine QTri.brF Ad W (t := 98) (f := 96) (L := [none, none, some (.int x2), some (.int x3), some (.int x4), some (.int x5), some (.ref 0), some (.int (if x2 < (0 : Int32) then (0 : Int32) else (if (7 : Int32) < x2 then (0 : Int32) else (if x3 < (0 : Int32) then (0 : Int32) else (if (3 : Int32) < x3 then (0 : Int32) else (if x4 < (0 : Int32) then (0 : Int32) else (if (3 : Int32) < x4 then (0 : Int32) else (1 : Int32)))))))), none]) (S := []) (σ := (H0 r50.2)) rfl (XT.ii_eq_f hc59) ?_
            refine QTri.steps Ad W 1 (st' := (97, [none, none, some (.int x2), some (.int x3), some (.int x4), some (.int x5), some (.ref 0), some (.int (if x2 < (0 : Int32) then (0 : Int32) else (if (7 : Int32) < x2 then (0 : Int32) else (if x3 < (0 : Int32) then (0 : Int32) else (if (3 : Int32) < x3 then (0 : Int32) else (if x4 < (0 : Int32) then (0 : Int32) else (if (3 : Int32) < x4 then (0 : Int32) else (1 : Int32)))))))), none], [.int (0 : Int32)], (H0 r50.2))) rfl ?_
            obtain rfl := Option.some.inj h
            exact QTri.retZ rfl rfl
        rcases Classical.em ((if x2 < (0 : Int32) then (0 : Int32) else (if (7 : Int32) < x2 then (0 : Int32) else (if x3 < (0 : Int32) then (0 : Int32) else (if (3 : Int32) < x3 then (0 : Int32) else (if x4 < (0 : Int32) then (0 : Int32) else (if (3 : Int32) < x4 then (0 : Int32) else (1 : Int32))))))) = (0 : Int32)) with hc58 | hc58
        · refine QTri.brT Ad W (t := 92) (f := 88) (L := [none, none, some (.int x2), some (.int x3), some (.int x4), some (.int x5), some (.ref 0), some (.int (if x2 < (0 : Int32) then (0 : Int32) else (if (7 : Int32) < x2 then (0 : Int32) else (if x3 < (0 : Int32) then (0 : Int32) else (if (3 : Int32) < x3 then (0 : Int32) else (if x4 < (0 : Int32) then (0 : Int32) else (if (3 : Int32) < x4 then (0 : Int32) else (1 : Int32)))))))), none]) (S := [.int r55]) (σ := (H0 r50.2)) rfl (XT.i0_eq_t hc58) ?_
          refine QTri.steps Ad W 1 (st' := (93, [none, none, some (.int x2), some (.int x3), some (.int x4), some (.int x5), some (.ref 0), some (.int (if x2 < (0 : Int32) then (0 : Int32) else (if (7 : Int32) < x2 then (0 : Int32) else (if x3 < (0 : Int32) then (0 : Int32) else (if (3 : Int32) < x3 then (0 : Int32) else (if x4 < (0 : Int32) then (0 : Int32) else (if (3 : Int32) < x4 then (0 : Int32) else (1 : Int32)))))))), none], [.int (0 : Int32), .int r55], (H0 r50.2))) rfl ?_
          exact QTri.mask [false, false, true, true, true, true, true, true, false] (K57 _ (if_pos hc58).symm)
        · refine QTri.brF Ad W (t := 92) (f := 88) (L := [none, none, some (.int x2), some (.int x3), some (.int x4), some (.int x5), some (.ref 0), some (.int (if x2 < (0 : Int32) then (0 : Int32) else (if (7 : Int32) < x2 then (0 : Int32) else (if x3 < (0 : Int32) then (0 : Int32) else (if (3 : Int32) < x3 then (0 : Int32) else (if x4 < (0 : Int32) then (0 : Int32) else (if (3 : Int32) < x4 then (0 : Int32) else (1 : Int32)))))))), none]) (S := [.int r55]) (σ := (H0 r50.2)) rfl (XT.i0_eq_f hc58) ?_
          refine QTri.steps Ad W 2 (st' := (93, [none, none, some (.int x2), some (.int x3), some (.int x4), some (.int x5), some (.ref 0), some (.int (if x2 < (0 : Int32) then (0 : Int32) else (if (7 : Int32) < x2 then (0 : Int32) else (if x3 < (0 : Int32) then (0 : Int32) else (if (3 : Int32) < x3 then (0 : Int32) else (if x4 < (0 : Int32) then (0 : Int32) else (if (3 : Int32) < x4 then (0 : Int32) else (1 : Int32)))))))), none], [.int (1 : Int32), .int r55], (H0 r50.2))) rfl ?_
          exact QTri.mask [false, false, true, true, true, true, true, true, false] (K57 _ (if_neg hc58).symm)
      · refine QTri.brF Ad W (t := 78) (f := 76) (L := [none, none, some (.int x2), some (.int x3), some (.int x4), some (.int x5), some (.ref 0), some (.int (if x2 < (0 : Int32) then (0 : Int32) else (if (7 : Int32) < x2 then (0 : Int32) else (if x3 < (0 : Int32) then (0 : Int32) else (if (3 : Int32) < x3 then (0 : Int32) else (if x4 < (0 : Int32) then (0 : Int32) else (if (3 : Int32) < x4 then (0 : Int32) else (1 : Int32)))))))), none]) (S := []) (σ := (H0 r50.2)) rfl (XT.ii_eq_f hc54) ?_
        refine QTri.steps Ad W 1 (st' := (77, [none, none, some (.int x2), some (.int x3), some (.int x4), some (.int x5), some (.ref 0), some (.int (if x2 < (0 : Int32) then (0 : Int32) else (if (7 : Int32) < x2 then (0 : Int32) else (if x3 < (0 : Int32) then (0 : Int32) else (if (3 : Int32) < x3 then (0 : Int32) else (if x4 < (0 : Int32) then (0 : Int32) else (if (3 : Int32) < x4 then (0 : Int32) else (1 : Int32)))))))), none], [.int (0 : Int32)], (H0 r50.2))) rfl ?_
        obtain rfl := Option.some.inj h
        exact QTri.retZ rfl rfl
    rcases Classical.em ((if x2 < (0 : Int32) then (0 : Int32) else (if (7 : Int32) < x2 then (0 : Int32) else (if x3 < (0 : Int32) then (0 : Int32) else (if (3 : Int32) < x3 then (0 : Int32) else (if x4 < (0 : Int32) then (0 : Int32) else (if (3 : Int32) < x4 then (0 : Int32) else (1 : Int32))))))) = (0 : Int32)) with hc53 | hc53
    · refine QTri.brT Ad W (t := 72) (f := 68) (L := [none, none, some (.int x2), some (.int x3), some (.int x4), some (.int x5), some (.ref 0), some (.int (if x2 < (0 : Int32) then (0 : Int32) else (if (7 : Int32) < x2 then (0 : Int32) else (if x3 < (0 : Int32) then (0 : Int32) else (if (3 : Int32) < x3 then (0 : Int32) else (if x4 < (0 : Int32) then (0 : Int32) else (if (3 : Int32) < x4 then (0 : Int32) else (1 : Int32)))))))), some (.int r50.1)]) (S := [.int r50.1]) (σ := (H0 r50.2)) rfl (XT.i0_eq_t hc53) ?_
      refine QTri.steps Ad W 1 (st' := (73, [none, none, some (.int x2), some (.int x3), some (.int x4), some (.int x5), some (.ref 0), some (.int (if x2 < (0 : Int32) then (0 : Int32) else (if (7 : Int32) < x2 then (0 : Int32) else (if x3 < (0 : Int32) then (0 : Int32) else (if (3 : Int32) < x3 then (0 : Int32) else (if x4 < (0 : Int32) then (0 : Int32) else (if (3 : Int32) < x4 then (0 : Int32) else (1 : Int32)))))))), some (.int r50.1)], [.int (-1 : Int32), .int r50.1], (H0 r50.2))) rfl ?_
      exact QTri.mask [false, false, true, true, true, true, true, true, false] (K52 _ (if_pos hc53).symm)
    · refine QTri.brF Ad W (t := 72) (f := 68) (L := [none, none, some (.int x2), some (.int x3), some (.int x4), some (.int x5), some (.ref 0), some (.int (if x2 < (0 : Int32) then (0 : Int32) else (if (7 : Int32) < x2 then (0 : Int32) else (if x3 < (0 : Int32) then (0 : Int32) else (if (3 : Int32) < x3 then (0 : Int32) else (if x4 < (0 : Int32) then (0 : Int32) else (if (3 : Int32) < x4 then (0 : Int32) else (1 : Int32)))))))), some (.int r50.1)]) (S := [.int r50.1]) (σ := (H0 r50.2)) rfl (XT.i0_eq_f hc53) ?_
      refine QTri.steps Ad W 2 (st' := (73, [none, none, some (.int x2), some (.int x3), some (.int x4), some (.int x5), some (.ref 0), some (.int (if x2 < (0 : Int32) then (0 : Int32) else (if (7 : Int32) < x2 then (0 : Int32) else (if x3 < (0 : Int32) then (0 : Int32) else (if (3 : Int32) < x3 then (0 : Int32) else (if x4 < (0 : Int32) then (0 : Int32) else (if (3 : Int32) < x4 then (0 : Int32) else (1 : Int32)))))))), some (.int r50.1)], [.int (0 : Int32), .int r50.1], (H0 r50.2))) rfl ?_
      exact QTri.mask [false, false, true, true, true, true, true, true, false] (K52 _ (if_neg hc53).symm)
  rcases Classical.em (x2 < (0 : Int32)) with hc17 | hc17
  · refine QTri.brT Ad W (t := 45) (f := 15) (L := [some (.int x0), some (.int x1), some (.int x2), some (.int x3), some (.int x4), some (.int x5), some (.ref 0), none, none]) (S := []) (σ := (H0 r14)) rfl (XT.i0_lt_t hc17) ?_
    refine QTri.steps Ad W 1 (st' := (46, [some (.int x0), some (.int x1), some (.int x2), some (.int x3), some (.int x4), some (.int x5), some (.ref 0), none, none], [.int (0 : Int32)], (H0 r14))) rfl ?_
    exact QTri.mask [false, false, true, true, true, true, true, false, false] (K16 _ (if_pos hc17).symm)
  · refine QTri.brF Ad W (t := 45) (f := 15) (L := [some (.int x0), some (.int x1), some (.int x2), some (.int x3), some (.int x4), some (.int x5), some (.ref 0), none, none]) (S := []) (σ := (H0 r14)) rfl (XT.i0_lt_f hc17) ?_
    refine QTri.steps Ad W 2 (st' := (18, [some (.int x0), some (.int x1), some (.int x2), some (.int x3), some (.int x4), some (.int x5), some (.ref 0), none, none], [.int (7 : Int32), .int x2], (H0 r14))) rfl ?_
    rcases Classical.em ((7 : Int32) < x2) with hc18 | hc18
    · refine QTri.brT Ad W (t := 45) (f := 21) (L := [some (.int x0), some (.int x1), some (.int x2), some (.int x3), some (.int x4), some (.int x5), some (.ref 0), none, none]) (S := []) (σ := (H0 r14)) rfl (XT.ii_gt_t hc18) ?_
      refine QTri.steps Ad W 1 (st' := (46, [some (.int x0), some (.int x1), some (.int x2), some (.int x3), some (.int x4), some (.int x5), some (.ref 0), none, none], [.int (0 : Int32)], (H0 r14))) rfl ?_
      exact QTri.mask [false, false, true, true, true, true, true, false, false] (K16 _ ((if_neg hc17).trans (if_pos hc18)).symm)
    · refine QTri.brF Ad W (t := 45) (f := 21) (L := [some (.int x0), some (.int x1), some (.int x2), some (.int x3), some (.int x4), some (.int x5), some (.ref 0), none, none]) (S := []) (σ := (H0 r14)) rfl (XT.ii_gt_f hc18) ?_
      refine QTri.steps Ad W 1 (st' := (22, [some (.int x0), some (.int x1), some (.int x2), some (.int x3), some (.int x4), some (.int x5), some (.ref 0), none, none], [.int x3], (H0 r14))) rfl ?_
      rcases Classical.em (x3 < (0 : Int32)) with hc19 | hc19
      · refine QTri.brT Ad W (t := 45) (f := 25) (L := [some (.int x0), some (.int x1), some (.int x2), some (.int x3), some (.int x4), some (.int x5), some (.ref 0), none, none]) (S := []) (σ := (H0 r14)) rfl (XT.i0_lt_t hc19) ?_
        refine QTri.steps Ad W 1 (st' := (46, [some (.int x0), some (.int x1), some (.int x2), some (.int x3), some (.int x4), some (.int x5), some (.ref 0), none, none], [.int (0 : Int32)], (H0 r14))) rfl ?_
        exact QTri.mask [false, false, true, true, true, true, true, false, false] (K16 _ ((if_neg hc17).trans ((if_neg hc18).trans (if_pos hc19))).symm)
      · refine QTri.brF Ad W (t := 45) (f := 25) (L := [some (.int x0), some (.int x1), some (.int x2), some (.int x3), some (.int x4), some (.int x5), some (.ref 0), none, none]) (S := []) (σ := (H0 r14)) rfl (XT.i0_lt_f hc19) ?_
        refine QTri.steps Ad W 2 (st' := (27, [some (.int x0), some (.int x1), some (.int x2), some (.int x3), some (.int x4), some (.int x5), some (.ref 0), none, none], [.int (3 : Int32), .int x3], (H0 r14))) rfl ?_
        rcases Classical.em ((3 : Int32) < x3) with hc20 | hc20
        · refine QTri.brT Ad W (t := 45) (f := 30) (L := [some (.int x0), some (.int x1), some (.int x2), some (.int x3), some (.int x4), some (.int x5), some (.ref 0), none, none]) (S := []) (σ := (H0 r14)) rfl (XT.ii_gt_t hc20) ?_
          refine QTri.steps Ad W 1 (st' := (46, [some (.int x0), some (.int x1), some (.int x2), some (.int x3), some (.int x4), some (.int x5), some (.ref 0), none, none], [.int (0 : Int32)], (H0 r14))) rfl ?_
          exact QTri.mask [false, false, true, true, true, true, true, false, false] (K16 _ ((if_neg hc17).trans ((if_neg hc18).trans ((if_neg hc19).trans (if_pos hc20)))).symm)
        · refine QTri.brF Ad W (t := 45) (f := 30) (L := [some (.int x0), some (.int x1), some (.int x2), some (.int x3), some (.int x4), some (.int x5), some (.ref 0), none, none]) (S := []) (σ := (H0 r14)) rfl (XT.ii_gt_f hc20) ?_
          refine QTri.steps Ad W 1 (st' := (32, [some (.int x0), some (.int x1), some (.int x2), some (.int x3), some (.int x4), some (.int x5), some (.ref 0), none, none], [.int x4], (H0 r14))) rfl ?_
          rcases Classical.em (x4 < (0 : Int32)) with hc21 | hc21
          · refine QTri.brT Ad W (t := 45) (f := 35) (L := [some (.int x0), some (.int x1), some (.int x2), some (.int x3), some (.int x4), some (.int x5), some (.ref 0), none, none]) (S := []) (σ := (H0 r14)) rfl (XT.i0_lt_t hc21) ?_
            refine QTri.steps Ad W 1 (st' := (46, [some (.int x0), some (.int x1), some (.int x2), some (.int x3), some (.int x4), some (.int x5), some (.ref 0), none, none], [.int (0 : Int32)], (H0 r14))) rfl ?_
            exact QTri.mask [false, false, true, true, true, true, true, false, false] (K16 _ ((if_neg hc17).trans ((if_neg hc18).trans ((if_neg hc19).trans ((if_neg hc20).trans (if_pos hc21))))).symm)
          · refine QTri.brF Ad W (t := 45) (f := 35) (L := [some (.int x0), some (.int x1), some (.int x2), some (.int x3), some (.int x4), some (.int x5), some (.ref 0), none, none]) (S := []) (σ := (H0 r14)) rfl (XT.i0_lt_f hc21) ?_
            refine QTri.steps Ad W 2 (st' := (38, [some (.int x0), some (.int x1), some (.int x2), some (.int x3), some (.int x4), some (.int x5), some (.ref 0), none, none], [.int (3 : Int32), .int x4], (H0 r14))) rfl ?_
            rcases Classical.em ((3 : Int32) < x4) with hc22 | hc22
            · refine QTri.brT Ad W (t := 45) (f := 41) (L := [some (.int x0), some (.int x1), some (.int x2), some (.int x3), some (.int x4), some (.int x5), some (.ref 0), none, none]) (S := []) (σ := (H0 r14)) rfl (XT.ii_gt_t hc22) ?_
              refine QTri.steps Ad W 1 (st' := (46, [some (.int x0), some (.int x1), some (.int x2), some (.int x3), some (.int x4), some (.int x5), some (.ref 0), none, none], [.int (0 : Int32)], (H0 r14))) rfl ?_
              exact QTri.mask [false, false, true, true, true, true, true, false, false] (K16 _ ((if_neg hc17).trans ((if_neg hc18).trans ((if_neg hc19).trans ((if_neg hc20).trans ((if_neg hc21).trans (if_pos hc22)))))).symm)
            · refine QTri.brF Ad W (t := 45) (f := 41) (L := [some (.int x0), some (.int x1), some (.int x2), some (.int x3), some (.int x4), some (.int x5), some (.ref 0), none, none]) (S := []) (σ := (H0 r14)) rfl (XT.ii_gt_f hc22) ?_
              refine QTri.steps Ad W 2 (st' := (46, [some (.int x0), some (.int x1), some (.int x2), some (.int x3), some (.int x4), some (.int x5), some (.ref 0), none, none], [.int (1 : Int32)], (H0 r14))) rfl ?_
              exact QTri.mask [false, false, true, true, true, true, true, false, false] (K16 _ ((if_neg hc17).trans ((if_neg hc18).trans ((if_neg hc19).trans ((if_neg hc20).trans ((if_neg hc21).trans (if_neg hc22)))))).symm)
end Walks
theorem gs_bOp (o : Ob) (v : List Int32) : f_bOp (s_bOp o v) = v ∧ f_bD (s_bOp o v) = f_bD o ∧ f_bS (s_bOp o v) = f_bS o ∧ f_bImm (s_bOp o v) = f_bImm o ∧ f_bTerm (s_bOp o v) = f_bTerm o ∧ f_bTest (s_bOp o v) = f_bTest o ∧ f_bT0 (s_bOp o v) = f_bT0 o ∧ f_bT1 (s_bOp o v) = f_bT1 o ∧ f_cnt0 (s_bOp o v) = f_cnt0 o ∧ f_cnt1 (s_bOp o v) = f_cnt1 o ∧ f_regs (s_bOp o v) = f_regs o ∧ f_outs (s_bOp o v) = f_outs o ∧ f_edgeId (s_bOp o v) = f_edgeId o ∧ f_edgeW (s_bOp o v) = f_edgeW o ∧ f_chNext (s_bOp o v) = f_chNext o ∧ f_chPrev (s_bOp o v) = f_chPrev o ∧ f_chHead (s_bOp o v) = f_chHead o ∧ f_heat (s_bOp o v) = f_heat o ∧ f_posOf (s_bOp o v) = f_posOf o ∧ f_order (s_bOp o v) = f_order o ∧ f_cOp (s_bOp o v) = f_cOp o ∧ f_cD (s_bOp o v) = f_cD o ∧ f_cS (s_bOp o v) = f_cS o ∧ f_cImm (s_bOp o v) = f_cImm o ∧ f_cKind (s_bOp o v) = f_cKind o ∧ f_cTest (s_bOp o v) = f_cTest o ∧ f_cTaken (s_bOp o v) = f_cTaken o ∧ f_cOther (s_bOp o v) = f_cOther o ∧ f_maxBlocks (s_bOp o v) = f_maxBlocks o ∧ f_maxSteps (s_bOp o v) = f_maxSteps o ∧ f_n (s_bOp o v) = f_n o ∧ f_arranged (s_bOp o v) = f_arranged o ∧ f_outCount (s_bOp o v) = f_outCount o ∧ f_steps (s_bOp o v) = f_steps o ∧ f_status (s_bOp o v) = f_status o := ⟨rfl, rfl, rfl, rfl, rfl, rfl, rfl, rfl, rfl, rfl, rfl, rfl, rfl, rfl, rfl, rfl, rfl, rfl, rfl, rfl, rfl, rfl, rfl, rfl, rfl, rfl, rfl, rfl, rfl, rfl, rfl, rfl, rfl, rfl, rfl⟩
theorem gs_bD (o : Ob) (v : List Int32) : f_bOp (s_bD o v) = f_bOp o ∧ f_bD (s_bD o v) = v ∧ f_bS (s_bD o v) = f_bS o ∧ f_bImm (s_bD o v) = f_bImm o ∧ f_bTerm (s_bD o v) = f_bTerm o ∧ f_bTest (s_bD o v) = f_bTest o ∧ f_bT0 (s_bD o v) = f_bT0 o ∧ f_bT1 (s_bD o v) = f_bT1 o ∧ f_cnt0 (s_bD o v) = f_cnt0 o ∧ f_cnt1 (s_bD o v) = f_cnt1 o ∧ f_regs (s_bD o v) = f_regs o ∧ f_outs (s_bD o v) = f_outs o ∧ f_edgeId (s_bD o v) = f_edgeId o ∧ f_edgeW (s_bD o v) = f_edgeW o ∧ f_chNext (s_bD o v) = f_chNext o ∧ f_chPrev (s_bD o v) = f_chPrev o ∧ f_chHead (s_bD o v) = f_chHead o ∧ f_heat (s_bD o v) = f_heat o ∧ f_posOf (s_bD o v) = f_posOf o ∧ f_order (s_bD o v) = f_order o ∧ f_cOp (s_bD o v) = f_cOp o ∧ f_cD (s_bD o v) = f_cD o ∧ f_cS (s_bD o v) = f_cS o ∧ f_cImm (s_bD o v) = f_cImm o ∧ f_cKind (s_bD o v) = f_cKind o ∧ f_cTest (s_bD o v) = f_cTest o ∧ f_cTaken (s_bD o v) = f_cTaken o ∧ f_cOther (s_bD o v) = f_cOther o ∧ f_maxBlocks (s_bD o v) = f_maxBlocks o ∧ f_maxSteps (s_bD o v) = f_maxSteps o ∧ f_n (s_bD o v) = f_n o ∧ f_arranged (s_bD o v) = f_arranged o ∧ f_outCount (s_bD o v) = f_outCount o ∧ f_steps (s_bD o v) = f_steps o ∧ f_status (s_bD o v) = f_status o := ⟨rfl, rfl, rfl, rfl, rfl, rfl, rfl, rfl, rfl, rfl, rfl, rfl, rfl, rfl, rfl, rfl, rfl, rfl, rfl, rfl, rfl, rfl, rfl, rfl, rfl, rfl, rfl, rfl, rfl, rfl, rfl, rfl, rfl, rfl, rfl⟩
theorem gs_bS (o : Ob) (v : List Int32) : f_bOp (s_bS o v) = f_bOp o ∧ f_bD (s_bS o v) = f_bD o ∧ f_bS (s_bS o v) = v ∧ f_bImm (s_bS o v) = f_bImm o ∧ f_bTerm (s_bS o v) = f_bTerm o ∧ f_bTest (s_bS o v) = f_bTest o ∧ f_bT0 (s_bS o v) = f_bT0 o ∧ f_bT1 (s_bS o v) = f_bT1 o ∧ f_cnt0 (s_bS o v) = f_cnt0 o ∧ f_cnt1 (s_bS o v) = f_cnt1 o ∧ f_regs (s_bS o v) = f_regs o ∧ f_outs (s_bS o v) = f_outs o ∧ f_edgeId (s_bS o v) = f_edgeId o ∧ f_edgeW (s_bS o v) = f_edgeW o ∧ f_chNext (s_bS o v) = f_chNext o ∧ f_chPrev (s_bS o v) = f_chPrev o ∧ f_chHead (s_bS o v) = f_chHead o ∧ f_heat (s_bS o v) = f_heat o ∧ f_posOf (s_bS o v) = f_posOf o ∧ f_order (s_bS o v) = f_order o ∧ f_cOp (s_bS o v) = f_cOp o ∧ f_cD (s_bS o v) = f_cD o ∧ f_cS (s_bS o v) = f_cS o ∧ f_cImm (s_bS o v) = f_cImm o ∧ f_cKind (s_bS o v) = f_cKind o ∧ f_cTest (s_bS o v) = f_cTest o ∧ f_cTaken (s_bS o v) = f_cTaken o ∧ f_cOther (s_bS o v) = f_cOther o ∧ f_maxBlocks (s_bS o v) = f_maxBlocks o ∧ f_maxSteps (s_bS o v) = f_maxSteps o ∧ f_n (s_bS o v) = f_n o ∧ f_arranged (s_bS o v) = f_arranged o ∧ f_outCount (s_bS o v) = f_outCount o ∧ f_steps (s_bS o v) = f_steps o ∧ f_status (s_bS o v) = f_status o := ⟨rfl, rfl, rfl, rfl, rfl, rfl, rfl, rfl, rfl, rfl, rfl, rfl, rfl, rfl, rfl, rfl, rfl, rfl, rfl, rfl, rfl, rfl, rfl, rfl, rfl, rfl, rfl, rfl, rfl, rfl, rfl, rfl, rfl, rfl, rfl⟩
theorem gs_bImm (o : Ob) (v : List Int32) : f_bOp (s_bImm o v) = f_bOp o ∧ f_bD (s_bImm o v) = f_bD o ∧ f_bS (s_bImm o v) = f_bS o ∧ f_bImm (s_bImm o v) = v ∧ f_bTerm (s_bImm o v) = f_bTerm o ∧ f_bTest (s_bImm o v) = f_bTest o ∧ f_bT0 (s_bImm o v) = f_bT0 o ∧ f_bT1 (s_bImm o v) = f_bT1 o ∧ f_cnt0 (s_bImm o v) = f_cnt0 o ∧ f_cnt1 (s_bImm o v) = f_cnt1 o ∧ f_regs (s_bImm o v) = f_regs o ∧ f_outs (s_bImm o v) = f_outs o ∧ f_edgeId (s_bImm o v) = f_edgeId o ∧ f_edgeW (s_bImm o v) = f_edgeW o ∧ f_chNext (s_bImm o v) = f_chNext o ∧ f_chPrev (s_bImm o v) = f_chPrev o ∧ f_chHead (s_bImm o v) = f_chHead o ∧ f_heat (s_bImm o v) = f_heat o ∧ f_posOf (s_bImm o v) = f_posOf o ∧ f_order (s_bImm o v) = f_order o ∧ f_cOp (s_bImm o v) = f_cOp o ∧ f_cD (s_bImm o v) = f_cD o ∧ f_cS (s_bImm o v) = f_cS o ∧ f_cImm (s_bImm o v) = f_cImm o ∧ f_cKind (s_bImm o v) = f_cKind o ∧ f_cTest (s_bImm o v) = f_cTest o ∧ f_cTaken (s_bImm o v) = f_cTaken o ∧ f_cOther (s_bImm o v) = f_cOther o ∧ f_maxBlocks (s_bImm o v) = f_maxBlocks o ∧ f_maxSteps (s_bImm o v) = f_maxSteps o ∧ f_n (s_bImm o v) = f_n o ∧ f_arranged (s_bImm o v) = f_arranged o ∧ f_outCount (s_bImm o v) = f_outCount o ∧ f_steps (s_bImm o v) = f_steps o ∧ f_status (s_bImm o v) = f_status o := ⟨rfl, rfl, rfl, rfl, rfl, rfl, rfl, rfl, rfl, rfl, rfl, rfl, rfl, rfl, rfl, rfl, rfl, rfl, rfl, rfl, rfl, rfl, rfl, rfl, rfl, rfl, rfl, rfl, rfl, rfl, rfl, rfl, rfl, rfl, rfl⟩
theorem gs_bTerm (o : Ob) (v : List Int32) : f_bOp (s_bTerm o v) = f_bOp o ∧ f_bD (s_bTerm o v) = f_bD o ∧ f_bS (s_bTerm o v) = f_bS o ∧ f_bImm (s_bTerm o v) = f_bImm o ∧ f_bTerm (s_bTerm o v) = v ∧ f_bTest (s_bTerm o v) = f_bTest o ∧ f_bT0 (s_bTerm o v) = f_bT0 o ∧ f_bT1 (s_bTerm o v) = f_bT1 o ∧ f_cnt0 (s_bTerm o v) = f_cnt0 o ∧ f_cnt1 (s_bTerm o v) = f_cnt1 o ∧ f_regs (s_bTerm o v) = f_regs o ∧ f_outs (s_bTerm o v) = f_outs o ∧ f_edgeId (s_bTerm o v) = f_edgeId o ∧ f_edgeW (s_bTerm o v) = f_edgeW o ∧ f_chNext (s_bTerm o v) = f_chNext o ∧ f_chPrev (s_bTerm o v) = f_chPrev o ∧ f_chHead (s_bTerm o v) = f_chHead o ∧ f_heat (s_bTerm o v) = f_heat o ∧ f_posOf (s_bTerm o v) = f_posOf o ∧ f_order (s_bTerm o v) = f_order o ∧ f_cOp (s_bTerm o v) = f_cOp o ∧ f_cD (s_bTerm o v) = f_cD o ∧ f_cS (s_bTerm o v) = f_cS o ∧ f_cImm (s_bTerm o v) = f_cImm o ∧ f_cKind (s_bTerm o v) = f_cKind o ∧ f_cTest (s_bTerm o v) = f_cTest o ∧ f_cTaken (s_bTerm o v) = f_cTaken o ∧ f_cOther (s_bTerm o v) = f_cOther o ∧ f_maxBlocks (s_bTerm o v) = f_maxBlocks o ∧ f_maxSteps (s_bTerm o v) = f_maxSteps o ∧ f_n (s_bTerm o v) = f_n o ∧ f_arranged (s_bTerm o v) = f_arranged o ∧ f_outCount (s_bTerm o v) = f_outCount o ∧ f_steps (s_bTerm o v) = f_steps o ∧ f_status (s_bTerm o v) = f_status o := ⟨rfl, rfl, rfl, rfl, rfl, rfl, rfl, rfl, rfl, rfl, rfl, rfl, rfl, rfl, rfl, rfl, rfl, rfl, rfl, rfl, rfl, rfl, rfl, rfl, rfl, rfl, rfl, rfl, rfl, rfl, rfl, rfl, rfl, rfl, rfl⟩
theorem gs_bTest (o : Ob) (v : List Int32) : f_bOp (s_bTest o v) = f_bOp o ∧ f_bD (s_bTest o v) = f_bD o ∧ f_bS (s_bTest o v) = f_bS o ∧ f_bImm (s_bTest o v) = f_bImm o ∧ f_bTerm (s_bTest o v) = f_bTerm o ∧ f_bTest (s_bTest o v) = v ∧ f_bT0 (s_bTest o v) = f_bT0 o ∧ f_bT1 (s_bTest o v) = f_bT1 o ∧ f_cnt0 (s_bTest o v) = f_cnt0 o ∧ f_cnt1 (s_bTest o v) = f_cnt1 o ∧ f_regs (s_bTest o v) = f_regs o ∧ f_outs (s_bTest o v) = f_outs o ∧ f_edgeId (s_bTest o v) = f_edgeId o ∧ f_edgeW (s_bTest o v) = f_edgeW o ∧ f_chNext (s_bTest o v) = f_chNext o ∧ f_chPrev (s_bTest o v) = f_chPrev o ∧ f_chHead (s_bTest o v) = f_chHead o ∧ f_heat (s_bTest o v) = f_heat o ∧ f_posOf (s_bTest o v) = f_posOf o ∧ f_order (s_bTest o v) = f_order o ∧ f_cOp (s_bTest o v) = f_cOp o ∧ f_cD (s_bTest o v) = f_cD o ∧ f_cS (s_bTest o v) = f_cS o ∧ f_cImm (s_bTest o v) = f_cImm o ∧ f_cKind (s_bTest o v) = f_cKind o ∧ f_cTest (s_bTest o v) = f_cTest o ∧ f_cTaken (s_bTest o v) = f_cTaken o ∧ f_cOther (s_bTest o v) = f_cOther o ∧ f_maxBlocks (s_bTest o v) = f_maxBlocks o ∧ f_maxSteps (s_bTest o v) = f_maxSteps o ∧ f_n (s_bTest o v) = f_n o ∧ f_arranged (s_bTest o v) = f_arranged o ∧ f_outCount (s_bTest o v) = f_outCount o ∧ f_steps (s_bTest o v) = f_steps o ∧ f_status (s_bTest o v) = f_status o := ⟨rfl, rfl, rfl, rfl, rfl, rfl, rfl, rfl, rfl, rfl, rfl, rfl, rfl, rfl, rfl, rfl, rfl, rfl, rfl, rfl, rfl, rfl, rfl, rfl, rfl, rfl, rfl, rfl, rfl, rfl, rfl, rfl, rfl, rfl, rfl⟩
theorem gs_bT0 (o : Ob) (v : List Int32) : f_bOp (s_bT0 o v) = f_bOp o ∧ f_bD (s_bT0 o v) = f_bD o ∧ f_bS (s_bT0 o v) = f_bS o ∧ f_bImm (s_bT0 o v) = f_bImm o ∧ f_bTerm (s_bT0 o v) = f_bTerm o ∧ f_bTest (s_bT0 o v) = f_bTest o ∧ f_bT0 (s_bT0 o v) = v ∧ f_bT1 (s_bT0 o v) = f_bT1 o ∧ f_cnt0 (s_bT0 o v) = f_cnt0 o ∧ f_cnt1 (s_bT0 o v) = f_cnt1 o ∧ f_regs (s_bT0 o v) = f_regs o ∧ f_outs (s_bT0 o v) = f_outs o ∧ f_edgeId (s_bT0 o v) = f_edgeId o ∧ f_edgeW (s_bT0 o v) = f_edgeW o ∧ f_chNext (s_bT0 o v) = f_chNext o ∧ f_chPrev (s_bT0 o v) = f_chPrev o ∧ f_chHead (s_bT0 o v) = f_chHead o ∧ f_heat (s_bT0 o v) = f_heat o ∧ f_posOf (s_bT0 o v) = f_posOf o ∧ f_order (s_bT0 o v) = f_order o ∧ f_cOp (s_bT0 o v) = f_cOp o ∧ f_cD (s_bT0 o v) = f_cD o ∧ f_cS (s_bT0 o v) = f_cS o ∧ f_cImm (s_bT0 o v) = f_cImm o ∧ f_cKind (s_bT0 o v) = f_cKind o ∧ f_cTest (s_bT0 o v) = f_cTest o ∧ f_cTaken (s_bT0 o v) = f_cTaken o ∧ f_cOther (s_bT0 o v) = f_cOther o ∧ f_maxBlocks (s_bT0 o v) = f_maxBlocks o ∧ f_maxSteps (s_bT0 o v) = f_maxSteps o ∧ f_n (s_bT0 o v) = f_n o ∧ f_arranged (s_bT0 o v) = f_arranged o ∧ f_outCount (s_bT0 o v) = f_outCount o ∧ f_steps (s_bT0 o v) = f_steps o ∧ f_status (s_bT0 o v) = f_status o := ⟨rfl, rfl, rfl, rfl, rfl, rfl, rfl, rfl, rfl, rfl, rfl, rfl, rfl, rfl, rfl, rfl, rfl, rfl, rfl, rfl, rfl, rfl, rfl, rfl, rfl, rfl, rfl, rfl, rfl, rfl, rfl, rfl, rfl, rfl, rfl⟩
theorem gs_bT1 (o : Ob) (v : List Int32) : f_bOp (s_bT1 o v) = f_bOp o ∧ f_bD (s_bT1 o v) = f_bD o ∧ f_bS (s_bT1 o v) = f_bS o ∧ f_bImm (s_bT1 o v) = f_bImm o ∧ f_bTerm (s_bT1 o v) = f_bTerm o ∧ f_bTest (s_bT1 o v) = f_bTest o ∧ f_bT0 (s_bT1 o v) = f_bT0 o ∧ f_bT1 (s_bT1 o v) = v ∧ f_cnt0 (s_bT1 o v) = f_cnt0 o ∧ f_cnt1 (s_bT1 o v) = f_cnt1 o ∧ f_regs (s_bT1 o v) = f_regs o ∧ f_outs (s_bT1 o v) = f_outs o ∧ f_edgeId (s_bT1 o v) = f_edgeId o ∧ f_edgeW (s_bT1 o v) = f_edgeW o ∧ f_chNext (s_bT1 o v) = f_chNext o ∧ f_chPrev (s_bT1 o v) = f_chPrev o ∧ f_chHead (s_bT1 o v) = f_chHead o ∧ f_heat (s_bT1 o v) = f_heat o ∧ f_posOf (s_bT1 o v) = f_posOf o ∧ f_order (s_bT1 o v) = f_order o ∧ f_cOp (s_bT1 o v) = f_cOp o ∧ f_cD (s_bT1 o v) = f_cD o ∧ f_cS (s_bT1 o v) = f_cS o ∧ f_cImm (s_bT1 o v) = f_cImm o ∧ f_cKind (s_bT1 o v) = f_cKind o ∧ f_cTest (s_bT1 o v) = f_cTest o ∧ f_cTaken (s_bT1 o v) = f_cTaken o ∧ f_cOther (s_bT1 o v) = f_cOther o ∧ f_maxBlocks (s_bT1 o v) = f_maxBlocks o ∧ f_maxSteps (s_bT1 o v) = f_maxSteps o ∧ f_n (s_bT1 o v) = f_n o ∧ f_arranged (s_bT1 o v) = f_arranged o ∧ f_outCount (s_bT1 o v) = f_outCount o ∧ f_steps (s_bT1 o v) = f_steps o ∧ f_status (s_bT1 o v) = f_status o := ⟨rfl, rfl, rfl, rfl, rfl, rfl, rfl, rfl, rfl, rfl, rfl, rfl, rfl, rfl, rfl, rfl, rfl, rfl, rfl, rfl, rfl, rfl, rfl, rfl, rfl, rfl, rfl, rfl, rfl, rfl, rfl, rfl, rfl, rfl, rfl⟩
theorem gs_cnt0 (o : Ob) (v : List Int32) : f_bOp (s_cnt0 o v) = f_bOp o ∧ f_bD (s_cnt0 o v) = f_bD o ∧ f_bS (s_cnt0 o v) = f_bS o ∧ f_bImm (s_cnt0 o v) = f_bImm o ∧ f_bTerm (s_cnt0 o v) = f_bTerm o ∧ f_bTest (s_cnt0 o v) = f_bTest o ∧ f_bT0 (s_cnt0 o v) = f_bT0 o ∧ f_bT1 (s_cnt0 o v) = f_bT1 o ∧ f_cnt0 (s_cnt0 o v) = v ∧ f_cnt1 (s_cnt0 o v) = f_cnt1 o ∧ f_regs (s_cnt0 o v) = f_regs o ∧ f_outs (s_cnt0 o v) = f_outs o ∧ f_edgeId (s_cnt0 o v) = f_edgeId o ∧ f_edgeW (s_cnt0 o v) = f_edgeW o ∧ f_chNext (s_cnt0 o v) = f_chNext o ∧ f_chPrev (s_cnt0 o v) = f_chPrev o ∧ f_chHead (s_cnt0 o v) = f_chHead o ∧ f_heat (s_cnt0 o v) = f_heat o ∧ f_posOf (s_cnt0 o v) = f_posOf o ∧ f_order (s_cnt0 o v) = f_order o ∧ f_cOp (s_cnt0 o v) = f_cOp o ∧ f_cD (s_cnt0 o v) = f_cD o ∧ f_cS (s_cnt0 o v) = f_cS o ∧ f_cImm (s_cnt0 o v) = f_cImm o ∧ f_cKind (s_cnt0 o v) = f_cKind o ∧ f_cTest (s_cnt0 o v) = f_cTest o ∧ f_cTaken (s_cnt0 o v) = f_cTaken o ∧ f_cOther (s_cnt0 o v) = f_cOther o ∧ f_maxBlocks (s_cnt0 o v) = f_maxBlocks o ∧ f_maxSteps (s_cnt0 o v) = f_maxSteps o ∧ f_n (s_cnt0 o v) = f_n o ∧ f_arranged (s_cnt0 o v) = f_arranged o ∧ f_outCount (s_cnt0 o v) = f_outCount o ∧ f_steps (s_cnt0 o v) = f_steps o ∧ f_status (s_cnt0 o v) = f_status o := ⟨rfl, rfl, rfl, rfl, rfl, rfl, rfl, rfl, rfl, rfl, rfl, rfl, rfl, rfl, rfl, rfl, rfl, rfl, rfl, rfl, rfl, rfl, rfl, rfl, rfl, rfl, rfl, rfl, rfl, rfl, rfl, rfl, rfl, rfl, rfl⟩
theorem gs_cnt1 (o : Ob) (v : List Int32) : f_bOp (s_cnt1 o v) = f_bOp o ∧ f_bD (s_cnt1 o v) = f_bD o ∧ f_bS (s_cnt1 o v) = f_bS o ∧ f_bImm (s_cnt1 o v) = f_bImm o ∧ f_bTerm (s_cnt1 o v) = f_bTerm o ∧ f_bTest (s_cnt1 o v) = f_bTest o ∧ f_bT0 (s_cnt1 o v) = f_bT0 o ∧ f_bT1 (s_cnt1 o v) = f_bT1 o ∧ f_cnt0 (s_cnt1 o v) = f_cnt0 o ∧ f_cnt1 (s_cnt1 o v) = v ∧ f_regs (s_cnt1 o v) = f_regs o ∧ f_outs (s_cnt1 o v) = f_outs o ∧ f_edgeId (s_cnt1 o v) = f_edgeId o ∧ f_edgeW (s_cnt1 o v) = f_edgeW o ∧ f_chNext (s_cnt1 o v) = f_chNext o ∧ f_chPrev (s_cnt1 o v) = f_chPrev o ∧ f_chHead (s_cnt1 o v) = f_chHead o ∧ f_heat (s_cnt1 o v) = f_heat o ∧ f_posOf (s_cnt1 o v) = f_posOf o ∧ f_order (s_cnt1 o v) = f_order o ∧ f_cOp (s_cnt1 o v) = f_cOp o ∧ f_cD (s_cnt1 o v) = f_cD o ∧ f_cS (s_cnt1 o v) = f_cS o ∧ f_cImm (s_cnt1 o v) = f_cImm o ∧ f_cKind (s_cnt1 o v) = f_cKind o ∧ f_cTest (s_cnt1 o v) = f_cTest o ∧ f_cTaken (s_cnt1 o v) = f_cTaken o ∧ f_cOther (s_cnt1 o v) = f_cOther o ∧ f_maxBlocks (s_cnt1 o v) = f_maxBlocks o ∧ f_maxSteps (s_cnt1 o v) = f_maxSteps o ∧ f_n (s_cnt1 o v) = f_n o ∧ f_arranged (s_cnt1 o v) = f_arranged o ∧ f_outCount (s_cnt1 o v) = f_outCount o ∧ f_steps (s_cnt1 o v) = f_steps o ∧ f_status (s_cnt1 o v) = f_status o := ⟨rfl, rfl, rfl, rfl, rfl, rfl, rfl, rfl, rfl, rfl, rfl, rfl, rfl, rfl, rfl, rfl, rfl, rfl, rfl, rfl, rfl, rfl, rfl, rfl, rfl, rfl, rfl, rfl, rfl, rfl, rfl, rfl, rfl, rfl, rfl⟩
theorem gs_regs (o : Ob) (v : List Int32) : f_bOp (s_regs o v) = f_bOp o ∧ f_bD (s_regs o v) = f_bD o ∧ f_bS (s_regs o v) = f_bS o ∧ f_bImm (s_regs o v) = f_bImm o ∧ f_bTerm (s_regs o v) = f_bTerm o ∧ f_bTest (s_regs o v) = f_bTest o ∧ f_bT0 (s_regs o v) = f_bT0 o ∧ f_bT1 (s_regs o v) = f_bT1 o ∧ f_cnt0 (s_regs o v) = f_cnt0 o ∧ f_cnt1 (s_regs o v) = f_cnt1 o ∧ f_regs (s_regs o v) = v ∧ f_outs (s_regs o v) = f_outs o ∧ f_edgeId (s_regs o v) = f_edgeId o ∧ f_edgeW (s_regs o v) = f_edgeW o ∧ f_chNext (s_regs o v) = f_chNext o ∧ f_chPrev (s_regs o v) = f_chPrev o ∧ f_chHead (s_regs o v) = f_chHead o ∧ f_heat (s_regs o v) = f_heat o ∧ f_posOf (s_regs o v) = f_posOf o ∧ f_order (s_regs o v) = f_order o ∧ f_cOp (s_regs o v) = f_cOp o ∧ f_cD (s_regs o v) = f_cD o ∧ f_cS (s_regs o v) = f_cS o ∧ f_cImm (s_regs o v) = f_cImm o ∧ f_cKind (s_regs o v) = f_cKind o ∧ f_cTest (s_regs o v) = f_cTest o ∧ f_cTaken (s_regs o v) = f_cTaken o ∧ f_cOther (s_regs o v) = f_cOther o ∧ f_maxBlocks (s_regs o v) = f_maxBlocks o ∧ f_maxSteps (s_regs o v) = f_maxSteps o ∧ f_n (s_regs o v) = f_n o ∧ f_arranged (s_regs o v) = f_arranged o ∧ f_outCount (s_regs o v) = f_outCount o ∧ f_steps (s_regs o v) = f_steps o ∧ f_status (s_regs o v) = f_status o := ⟨rfl, rfl, rfl, rfl, rfl, rfl, rfl, rfl, rfl, rfl, rfl, rfl, rfl, rfl, rfl, rfl, rfl, rfl, rfl, rfl, rfl, rfl, rfl, rfl, rfl, rfl, rfl, rfl, rfl, rfl, rfl, rfl, rfl, rfl, rfl⟩
theorem gs_outs (o : Ob) (v : List Int32) : f_bOp (s_outs o v) = f_bOp o ∧ f_bD (s_outs o v) = f_bD o ∧ f_bS (s_outs o v) = f_bS o ∧ f_bImm (s_outs o v) = f_bImm o ∧ f_bTerm (s_outs o v) = f_bTerm o ∧ f_bTest (s_outs o v) = f_bTest o ∧ f_bT0 (s_outs o v) = f_bT0 o ∧ f_bT1 (s_outs o v) = f_bT1 o ∧ f_cnt0 (s_outs o v) = f_cnt0 o ∧ f_cnt1 (s_outs o v) = f_cnt1 o ∧ f_regs (s_outs o v) = f_regs o ∧ f_outs (s_outs o v) = v ∧ f_edgeId (s_outs o v) = f_edgeId o ∧ f_edgeW (s_outs o v) = f_edgeW o ∧ f_chNext (s_outs o v) = f_chNext o ∧ f_chPrev (s_outs o v) = f_chPrev o ∧ f_chHead (s_outs o v) = f_chHead o ∧ f_heat (s_outs o v) = f_heat o ∧ f_posOf (s_outs o v) = f_posOf o ∧ f_order (s_outs o v) = f_order o ∧ f_cOp (s_outs o v) = f_cOp o ∧ f_cD (s_outs o v) = f_cD o ∧ f_cS (s_outs o v) = f_cS o ∧ f_cImm (s_outs o v) = f_cImm o ∧ f_cKind (s_outs o v) = f_cKind o ∧ f_cTest (s_outs o v) = f_cTest o ∧ f_cTaken (s_outs o v) = f_cTaken o ∧ f_cOther (s_outs o v) = f_cOther o ∧ f_maxBlocks (s_outs o v) = f_maxBlocks o ∧ f_maxSteps (s_outs o v) = f_maxSteps o ∧ f_n (s_outs o v) = f_n o ∧ f_arranged (s_outs o v) = f_arranged o ∧ f_outCount (s_outs o v) = f_outCount o ∧ f_steps (s_outs o v) = f_steps o ∧ f_status (s_outs o v) = f_status o := ⟨rfl, rfl, rfl, rfl, rfl, rfl, rfl, rfl, rfl, rfl, rfl, rfl, rfl, rfl, rfl, rfl, rfl, rfl, rfl, rfl, rfl, rfl, rfl, rfl, rfl, rfl, rfl, rfl, rfl, rfl, rfl, rfl, rfl, rfl, rfl⟩
theorem gs_edgeId (o : Ob) (v : List Int32) : f_bOp (s_edgeId o v) = f_bOp o ∧ f_bD (s_edgeId o v) = f_bD o ∧ f_bS (s_edgeId o v) = f_bS o ∧ f_bImm (s_edgeId o v) = f_bImm o ∧ f_bTerm (s_edgeId o v) = f_bTerm o ∧ f_bTest (s_edgeId o v) = f_bTest o ∧ f_bT0 (s_edgeId o v) = f_bT0 o ∧ f_bT1 (s_edgeId o v) = f_bT1 o ∧ f_cnt0 (s_edgeId o v) = f_cnt0 o ∧ f_cnt1 (s_edgeId o v) = f_cnt1 o ∧ f_regs (s_edgeId o v) = f_regs o ∧ f_outs (s_edgeId o v) = f_outs o ∧ f_edgeId (s_edgeId o v) = v ∧ f_edgeW (s_edgeId o v) = f_edgeW o ∧ f_chNext (s_edgeId o v) = f_chNext o ∧ f_chPrev (s_edgeId o v) = f_chPrev o ∧ f_chHead (s_edgeId o v) = f_chHead o ∧ f_heat (s_edgeId o v) = f_heat o ∧ f_posOf (s_edgeId o v) = f_posOf o ∧ f_order (s_edgeId o v) = f_order o ∧ f_cOp (s_edgeId o v) = f_cOp o ∧ f_cD (s_edgeId o v) = f_cD o ∧ f_cS (s_edgeId o v) = f_cS o ∧ f_cImm (s_edgeId o v) = f_cImm o ∧ f_cKind (s_edgeId o v) = f_cKind o ∧ f_cTest (s_edgeId o v) = f_cTest o ∧ f_cTaken (s_edgeId o v) = f_cTaken o ∧ f_cOther (s_edgeId o v) = f_cOther o ∧ f_maxBlocks (s_edgeId o v) = f_maxBlocks o ∧ f_maxSteps (s_edgeId o v) = f_maxSteps o ∧ f_n (s_edgeId o v) = f_n o ∧ f_arranged (s_edgeId o v) = f_arranged o ∧ f_outCount (s_edgeId o v) = f_outCount o ∧ f_steps (s_edgeId o v) = f_steps o ∧ f_status (s_edgeId o v) = f_status o := ⟨rfl, rfl, rfl, rfl, rfl, rfl, rfl, rfl, rfl, rfl, rfl, rfl, rfl, rfl, rfl, rfl, rfl, rfl, rfl, rfl, rfl, rfl, rfl, rfl, rfl, rfl, rfl, rfl, rfl, rfl, rfl, rfl, rfl, rfl, rfl⟩
theorem gs_edgeW (o : Ob) (v : List Int32) : f_bOp (s_edgeW o v) = f_bOp o ∧ f_bD (s_edgeW o v) = f_bD o ∧ f_bS (s_edgeW o v) = f_bS o ∧ f_bImm (s_edgeW o v) = f_bImm o ∧ f_bTerm (s_edgeW o v) = f_bTerm o ∧ f_bTest (s_edgeW o v) = f_bTest o ∧ f_bT0 (s_edgeW o v) = f_bT0 o ∧ f_bT1 (s_edgeW o v) = f_bT1 o ∧ f_cnt0 (s_edgeW o v) = f_cnt0 o ∧ f_cnt1 (s_edgeW o v) = f_cnt1 o ∧ f_regs (s_edgeW o v) = f_regs o ∧ f_outs (s_edgeW o v) = f_outs o ∧ f_edgeId (s_edgeW o v) = f_edgeId o ∧ f_edgeW (s_edgeW o v) = v ∧ f_chNext (s_edgeW o v) = f_chNext o ∧ f_chPrev (s_edgeW o v) = f_chPrev o ∧ f_chHead (s_edgeW o v) = f_chHead o ∧ f_heat (s_edgeW o v) = f_heat o ∧ f_posOf (s_edgeW o v) = f_posOf o ∧ f_order (s_edgeW o v) = f_order o ∧ f_cOp (s_edgeW o v) = f_cOp o ∧ f_cD (s_edgeW o v) = f_cD o ∧ f_cS (s_edgeW o v) = f_cS o ∧ f_cImm (s_edgeW o v) = f_cImm o ∧ f_cKind (s_edgeW o v) = f_cKind o ∧ f_cTest (s_edgeW o v) = f_cTest o ∧ f_cTaken (s_edgeW o v) = f_cTaken o ∧ f_cOther (s_edgeW o v) = f_cOther o ∧ f_maxBlocks (s_edgeW o v) = f_maxBlocks o ∧ f_maxSteps (s_edgeW o v) = f_maxSteps o ∧ f_n (s_edgeW o v) = f_n o ∧ f_arranged (s_edgeW o v) = f_arranged o ∧ f_outCount (s_edgeW o v) = f_outCount o ∧ f_steps (s_edgeW o v) = f_steps o ∧ f_status (s_edgeW o v) = f_status o := ⟨rfl, rfl, rfl, rfl, rfl, rfl, rfl, rfl, rfl, rfl, rfl, rfl, rfl, rfl, rfl, rfl, rfl, rfl, rfl, rfl, rfl, rfl, rfl, rfl, rfl, rfl, rfl, rfl, rfl, rfl, rfl, rfl, rfl, rfl, rfl⟩
theorem gs_chNext (o : Ob) (v : List Int32) : f_bOp (s_chNext o v) = f_bOp o ∧ f_bD (s_chNext o v) = f_bD o ∧ f_bS (s_chNext o v) = f_bS o ∧ f_bImm (s_chNext o v) = f_bImm o ∧ f_bTerm (s_chNext o v) = f_bTerm o ∧ f_bTest (s_chNext o v) = f_bTest o ∧ f_bT0 (s_chNext o v) = f_bT0 o ∧ f_bT1 (s_chNext o v) = f_bT1 o ∧ f_cnt0 (s_chNext o v) = f_cnt0 o ∧ f_cnt1 (s_chNext o v) = f_cnt1 o ∧ f_regs (s_chNext o v) = f_regs o ∧ f_outs (s_chNext o v) = f_outs o ∧ f_edgeId (s_chNext o v) = f_edgeId o ∧ f_edgeW (s_chNext o v) = f_edgeW o ∧ f_chNext (s_chNext o v) = v ∧ f_chPrev (s_chNext o v) = f_chPrev o ∧ f_chHead (s_chNext o v) = f_chHead o ∧ f_heat (s_chNext o v) = f_heat o ∧ f_posOf (s_chNext o v) = f_posOf o ∧ f_order (s_chNext o v) = f_order o ∧ f_cOp (s_chNext o v) = f_cOp o ∧ f_cD (s_chNext o v) = f_cD o ∧ f_cS (s_chNext o v) = f_cS o ∧ f_cImm (s_chNext o v) = f_cImm o ∧ f_cKind (s_chNext o v) = f_cKind o ∧ f_cTest (s_chNext o v) = f_cTest o ∧ f_cTaken (s_chNext o v) = f_cTaken o ∧ f_cOther (s_chNext o v) = f_cOther o ∧ f_maxBlocks (s_chNext o v) = f_maxBlocks o ∧ f_maxSteps (s_chNext o v) = f_maxSteps o ∧ f_n (s_chNext o v) = f_n o ∧ f_arranged (s_chNext o v) = f_arranged o ∧ f_outCount (s_chNext o v) = f_outCount o ∧ f_steps (s_chNext o v) = f_steps o ∧ f_status (s_chNext o v) = f_status o := ⟨rfl, rfl, rfl, rfl, rfl, rfl, rfl, rfl, rfl, rfl, rfl, rfl, rfl, rfl, rfl, rfl, rfl, rfl, rfl, rfl, rfl, rfl, rfl, rfl, rfl, rfl, rfl, rfl, rfl, rfl, rfl, rfl, rfl, rfl, rfl⟩
theorem gs_chPrev (o : Ob) (v : List Int32) : f_bOp (s_chPrev o v) = f_bOp o ∧ f_bD (s_chPrev o v) = f_bD o ∧ f_bS (s_chPrev o v) = f_bS o ∧ f_bImm (s_chPrev o v) = f_bImm o ∧ f_bTerm (s_chPrev o v) = f_bTerm o ∧ f_bTest (s_chPrev o v) = f_bTest o ∧ f_bT0 (s_chPrev o v) = f_bT0 o ∧ f_bT1 (s_chPrev o v) = f_bT1 o ∧ f_cnt0 (s_chPrev o v) = f_cnt0 o ∧ f_cnt1 (s_chPrev o v) = f_cnt1 o ∧ f_regs (s_chPrev o v) = f_regs o ∧ f_outs (s_chPrev o v) = f_outs o ∧ f_edgeId (s_chPrev o v) = f_edgeId o ∧ f_edgeW (s_chPrev o v) = f_edgeW o ∧ f_chNext (s_chPrev o v) = f_chNext o ∧ f_chPrev (s_chPrev o v) = v ∧ f_chHead (s_chPrev o v) = f_chHead o ∧ f_heat (s_chPrev o v) = f_heat o ∧ f_posOf (s_chPrev o v) = f_posOf o ∧ f_order (s_chPrev o v) = f_order o ∧ f_cOp (s_chPrev o v) = f_cOp o ∧ f_cD (s_chPrev o v) = f_cD o ∧ f_cS (s_chPrev o v) = f_cS o ∧ f_cImm (s_chPrev o v) = f_cImm o ∧ f_cKind (s_chPrev o v) = f_cKind o ∧ f_cTest (s_chPrev o v) = f_cTest o ∧ f_cTaken (s_chPrev o v) = f_cTaken o ∧ f_cOther (s_chPrev o v) = f_cOther o ∧ f_maxBlocks (s_chPrev o v) = f_maxBlocks o ∧ f_maxSteps (s_chPrev o v) = f_maxSteps o ∧ f_n (s_chPrev o v) = f_n o ∧ f_arranged (s_chPrev o v) = f_arranged o ∧ f_outCount (s_chPrev o v) = f_outCount o ∧ f_steps (s_chPrev o v) = f_steps o ∧ f_status (s_chPrev o v) = f_status o := ⟨rfl, rfl, rfl, rfl, rfl, rfl, rfl, rfl, rfl, rfl, rfl, rfl, rfl, rfl, rfl, rfl, rfl, rfl, rfl, rfl, rfl, rfl, rfl, rfl, rfl, rfl, rfl, rfl, rfl, rfl, rfl, rfl, rfl, rfl, rfl⟩
theorem gs_chHead (o : Ob) (v : List Int32) : f_bOp (s_chHead o v) = f_bOp o ∧ f_bD (s_chHead o v) = f_bD o ∧ f_bS (s_chHead o v) = f_bS o ∧ f_bImm (s_chHead o v) = f_bImm o ∧ f_bTerm (s_chHead o v) = f_bTerm o ∧ f_bTest (s_chHead o v) = f_bTest o ∧ f_bT0 (s_chHead o v) = f_bT0 o ∧ f_bT1 (s_chHead o v) = f_bT1 o ∧ f_cnt0 (s_chHead o v) = f_cnt0 o ∧ f_cnt1 (s_chHead o v) = f_cnt1 o ∧ f_regs (s_chHead o v) = f_regs o ∧ f_outs (s_chHead o v) = f_outs o ∧ f_edgeId (s_chHead o v) = f_edgeId o ∧ f_edgeW (s_chHead o v) = f_edgeW o ∧ f_chNext (s_chHead o v) = f_chNext o ∧ f_chPrev (s_chHead o v) = f_chPrev o ∧ f_chHead (s_chHead o v) = v ∧ f_heat (s_chHead o v) = f_heat o ∧ f_posOf (s_chHead o v) = f_posOf o ∧ f_order (s_chHead o v) = f_order o ∧ f_cOp (s_chHead o v) = f_cOp o ∧ f_cD (s_chHead o v) = f_cD o ∧ f_cS (s_chHead o v) = f_cS o ∧ f_cImm (s_chHead o v) = f_cImm o ∧ f_cKind (s_chHead o v) = f_cKind o ∧ f_cTest (s_chHead o v) = f_cTest o ∧ f_cTaken (s_chHead o v) = f_cTaken o ∧ f_cOther (s_chHead o v) = f_cOther o ∧ f_maxBlocks (s_chHead o v) = f_maxBlocks o ∧ f_maxSteps (s_chHead o v) = f_maxSteps o ∧ f_n (s_chHead o v) = f_n o ∧ f_arranged (s_chHead o v) = f_arranged o ∧ f_outCount (s_chHead o v) = f_outCount o ∧ f_steps (s_chHead o v) = f_steps o ∧ f_status (s_chHead o v) = f_status o := ⟨rfl, rfl, rfl, rfl, rfl, rfl, rfl, rfl, rfl, rfl, rfl, rfl, rfl, rfl, rfl, rfl, rfl, rfl, rfl, rfl, rfl, rfl, rfl, rfl, rfl, rfl, rfl, rfl, rfl, rfl, rfl, rfl, rfl, rfl, rfl⟩
theorem gs_heat (o : Ob) (v : List Int32) : f_bOp (s_heat o v) = f_bOp o ∧ f_bD (s_heat o v) = f_bD o ∧ f_bS (s_heat o v) = f_bS o ∧ f_bImm (s_heat o v) = f_bImm o ∧ f_bTerm (s_heat o v) = f_bTerm o ∧ f_bTest (s_heat o v) = f_bTest o ∧ f_bT0 (s_heat o v) = f_bT0 o ∧ f_bT1 (s_heat o v) = f_bT1 o ∧ f_cnt0 (s_heat o v) = f_cnt0 o ∧ f_cnt1 (s_heat o v) = f_cnt1 o ∧ f_regs (s_heat o v) = f_regs o ∧ f_outs (s_heat o v) = f_outs o ∧ f_edgeId (s_heat o v) = f_edgeId o ∧ f_edgeW (s_heat o v) = f_edgeW o ∧ f_chNext (s_heat o v) = f_chNext o ∧ f_chPrev (s_heat o v) = f_chPrev o ∧ f_chHead (s_heat o v) = f_chHead o ∧ f_heat (s_heat o v) = v ∧ f_posOf (s_heat o v) = f_posOf o ∧ f_order (s_heat o v) = f_order o ∧ f_cOp (s_heat o v) = f_cOp o ∧ f_cD (s_heat o v) = f_cD o ∧ f_cS (s_heat o v) = f_cS o ∧ f_cImm (s_heat o v) = f_cImm o ∧ f_cKind (s_heat o v) = f_cKind o ∧ f_cTest (s_heat o v) = f_cTest o ∧ f_cTaken (s_heat o v) = f_cTaken o ∧ f_cOther (s_heat o v) = f_cOther o ∧ f_maxBlocks (s_heat o v) = f_maxBlocks o ∧ f_maxSteps (s_heat o v) = f_maxSteps o ∧ f_n (s_heat o v) = f_n o ∧ f_arranged (s_heat o v) = f_arranged o ∧ f_outCount (s_heat o v) = f_outCount o ∧ f_steps (s_heat o v) = f_steps o ∧ f_status (s_heat o v) = f_status o := ⟨rfl, rfl, rfl, rfl, rfl, rfl, rfl, rfl, rfl, rfl, rfl, rfl, rfl, rfl, rfl, rfl, rfl, rfl, rfl, rfl, rfl, rfl, rfl, rfl, rfl, rfl, rfl, rfl, rfl, rfl, rfl, rfl, rfl, rfl, rfl⟩
theorem gs_posOf (o : Ob) (v : List Int32) : f_bOp (s_posOf o v) = f_bOp o ∧ f_bD (s_posOf o v) = f_bD o ∧ f_bS (s_posOf o v) = f_bS o ∧ f_bImm (s_posOf o v) = f_bImm o ∧ f_bTerm (s_posOf o v) = f_bTerm o ∧ f_bTest (s_posOf o v) = f_bTest o ∧ f_bT0 (s_posOf o v) = f_bT0 o ∧ f_bT1 (s_posOf o v) = f_bT1 o ∧ f_cnt0 (s_posOf o v) = f_cnt0 o ∧ f_cnt1 (s_posOf o v) = f_cnt1 o ∧ f_regs (s_posOf o v) = f_regs o ∧ f_outs (s_posOf o v) = f_outs o ∧ f_edgeId (s_posOf o v) = f_edgeId o ∧ f_edgeW (s_posOf o v) = f_edgeW o ∧ f_chNext (s_posOf o v) = f_chNext o ∧ f_chPrev (s_posOf o v) = f_chPrev o ∧ f_chHead (s_posOf o v) = f_chHead o ∧ f_heat (s_posOf o v) = f_heat o ∧ f_posOf (s_posOf o v) = v ∧ f_order (s_posOf o v) = f_order o ∧ f_cOp (s_posOf o v) = f_cOp o ∧ f_cD (s_posOf o v) = f_cD o ∧ f_cS (s_posOf o v) = f_cS o ∧ f_cImm (s_posOf o v) = f_cImm o ∧ f_cKind (s_posOf o v) = f_cKind o ∧ f_cTest (s_posOf o v) = f_cTest o ∧ f_cTaken (s_posOf o v) = f_cTaken o ∧ f_cOther (s_posOf o v) = f_cOther o ∧ f_maxBlocks (s_posOf o v) = f_maxBlocks o ∧ f_maxSteps (s_posOf o v) = f_maxSteps o ∧ f_n (s_posOf o v) = f_n o ∧ f_arranged (s_posOf o v) = f_arranged o ∧ f_outCount (s_posOf o v) = f_outCount o ∧ f_steps (s_posOf o v) = f_steps o ∧ f_status (s_posOf o v) = f_status o := ⟨rfl, rfl, rfl, rfl, rfl, rfl, rfl, rfl, rfl, rfl, rfl, rfl, rfl, rfl, rfl, rfl, rfl, rfl, rfl, rfl, rfl, rfl, rfl, rfl, rfl, rfl, rfl, rfl, rfl, rfl, rfl, rfl, rfl, rfl, rfl⟩
theorem gs_order (o : Ob) (v : List Int32) : f_bOp (s_order o v) = f_bOp o ∧ f_bD (s_order o v) = f_bD o ∧ f_bS (s_order o v) = f_bS o ∧ f_bImm (s_order o v) = f_bImm o ∧ f_bTerm (s_order o v) = f_bTerm o ∧ f_bTest (s_order o v) = f_bTest o ∧ f_bT0 (s_order o v) = f_bT0 o ∧ f_bT1 (s_order o v) = f_bT1 o ∧ f_cnt0 (s_order o v) = f_cnt0 o ∧ f_cnt1 (s_order o v) = f_cnt1 o ∧ f_regs (s_order o v) = f_regs o ∧ f_outs (s_order o v) = f_outs o ∧ f_edgeId (s_order o v) = f_edgeId o ∧ f_edgeW (s_order o v) = f_edgeW o ∧ f_chNext (s_order o v) = f_chNext o ∧ f_chPrev (s_order o v) = f_chPrev o ∧ f_chHead (s_order o v) = f_chHead o ∧ f_heat (s_order o v) = f_heat o ∧ f_posOf (s_order o v) = f_posOf o ∧ f_order (s_order o v) = v ∧ f_cOp (s_order o v) = f_cOp o ∧ f_cD (s_order o v) = f_cD o ∧ f_cS (s_order o v) = f_cS o ∧ f_cImm (s_order o v) = f_cImm o ∧ f_cKind (s_order o v) = f_cKind o ∧ f_cTest (s_order o v) = f_cTest o ∧ f_cTaken (s_order o v) = f_cTaken o ∧ f_cOther (s_order o v) = f_cOther o ∧ f_maxBlocks (s_order o v) = f_maxBlocks o ∧ f_maxSteps (s_order o v) = f_maxSteps o ∧ f_n (s_order o v) = f_n o ∧ f_arranged (s_order o v) = f_arranged o ∧ f_outCount (s_order o v) = f_outCount o ∧ f_steps (s_order o v) = f_steps o ∧ f_status (s_order o v) = f_status o := ⟨rfl, rfl, rfl, rfl, rfl, rfl, rfl, rfl, rfl, rfl, rfl, rfl, rfl, rfl, rfl, rfl, rfl, rfl, rfl, rfl, rfl, rfl, rfl, rfl, rfl, rfl, rfl, rfl, rfl, rfl, rfl, rfl, rfl, rfl, rfl⟩
theorem gs_cOp (o : Ob) (v : List Int32) : f_bOp (s_cOp o v) = f_bOp o ∧ f_bD (s_cOp o v) = f_bD o ∧ f_bS (s_cOp o v) = f_bS o ∧ f_bImm (s_cOp o v) = f_bImm o ∧ f_bTerm (s_cOp o v) = f_bTerm o ∧ f_bTest (s_cOp o v) = f_bTest o ∧ f_bT0 (s_cOp o v) = f_bT0 o ∧ f_bT1 (s_cOp o v) = f_bT1 o ∧ f_cnt0 (s_cOp o v) = f_cnt0 o ∧ f_cnt1 (s_cOp o v) = f_cnt1 o ∧ f_regs (s_cOp o v) = f_regs o ∧ f_outs (s_cOp o v) = f_outs o ∧ f_edgeId (s_cOp o v) = f_edgeId o ∧ f_edgeW (s_cOp o v) = f_edgeW o ∧ f_chNext (s_cOp o v) = f_chNext o ∧ f_chPrev (s_cOp o v) = f_chPrev o ∧ f_chHead (s_cOp o v) = f_chHead o ∧ f_heat (s_cOp o v) = f_heat o ∧ f_posOf (s_cOp o v) = f_posOf o ∧ f_order (s_cOp o v) = f_order o ∧ f_cOp (s_cOp o v) = v ∧ f_cD (s_cOp o v) = f_cD o ∧ f_cS (s_cOp o v) = f_cS o ∧ f_cImm (s_cOp o v) = f_cImm o ∧ f_cKind (s_cOp o v) = f_cKind o ∧ f_cTest (s_cOp o v) = f_cTest o ∧ f_cTaken (s_cOp o v) = f_cTaken o ∧ f_cOther (s_cOp o v) = f_cOther o ∧ f_maxBlocks (s_cOp o v) = f_maxBlocks o ∧ f_maxSteps (s_cOp o v) = f_maxSteps o ∧ f_n (s_cOp o v) = f_n o ∧ f_arranged (s_cOp o v) = f_arranged o ∧ f_outCount (s_cOp o v) = f_outCount o ∧ f_steps (s_cOp o v) = f_steps o ∧ f_status (s_cOp o v) = f_status o := ⟨rfl, rfl, rfl, rfl, rfl, rfl, rfl, rfl, rfl, rfl, rfl, rfl, rfl, rfl, rfl, rfl, rfl, rfl, rfl, rfl, rfl, rfl, rfl, rfl, rfl, rfl, rfl, rfl, rfl, rfl, rfl, rfl, rfl, rfl, rfl⟩
theorem gs_cD (o : Ob) (v : List Int32) : f_bOp (s_cD o v) = f_bOp o ∧ f_bD (s_cD o v) = f_bD o ∧ f_bS (s_cD o v) = f_bS o ∧ f_bImm (s_cD o v) = f_bImm o ∧ f_bTerm (s_cD o v) = f_bTerm o ∧ f_bTest (s_cD o v) = f_bTest o ∧ f_bT0 (s_cD o v) = f_bT0 o ∧ f_bT1 (s_cD o v) = f_bT1 o ∧ f_cnt0 (s_cD o v) = f_cnt0 o ∧ f_cnt1 (s_cD o v) = f_cnt1 o ∧ f_regs (s_cD o v) = f_regs o ∧ f_outs (s_cD o v) = f_outs o ∧ f_edgeId (s_cD o v) = f_edgeId o ∧ f_edgeW (s_cD o v) = f_edgeW o ∧ f_chNext (s_cD o v) = f_chNext o ∧ f_chPrev (s_cD o v) = f_chPrev o ∧ f_chHead (s_cD o v) = f_chHead o ∧ f_heat (s_cD o v) = f_heat o ∧ f_posOf (s_cD o v) = f_posOf o ∧ f_order (s_cD o v) = f_order o ∧ f_cOp (s_cD o v) = f_cOp o ∧ f_cD (s_cD o v) = v ∧ f_cS (s_cD o v) = f_cS o ∧ f_cImm (s_cD o v) = f_cImm o ∧ f_cKind (s_cD o v) = f_cKind o ∧ f_cTest (s_cD o v) = f_cTest o ∧ f_cTaken (s_cD o v) = f_cTaken o ∧ f_cOther (s_cD o v) = f_cOther o ∧ f_maxBlocks (s_cD o v) = f_maxBlocks o ∧ f_maxSteps (s_cD o v) = f_maxSteps o ∧ f_n (s_cD o v) = f_n o ∧ f_arranged (s_cD o v) = f_arranged o ∧ f_outCount (s_cD o v) = f_outCount o ∧ f_steps (s_cD o v) = f_steps o ∧ f_status (s_cD o v) = f_status o := ⟨rfl, rfl, rfl, rfl, rfl, rfl, rfl, rfl, rfl, rfl, rfl, rfl, rfl, rfl, rfl, rfl, rfl, rfl, rfl, rfl, rfl, rfl, rfl, rfl, rfl, rfl, rfl, rfl, rfl, rfl, rfl, rfl, rfl, rfl, rfl⟩
theorem gs_cS (o : Ob) (v : List Int32) : f_bOp (s_cS o v) = f_bOp o ∧ f_bD (s_cS o v) = f_bD o ∧ f_bS (s_cS o v) = f_bS o ∧ f_bImm (s_cS o v) = f_bImm o ∧ f_bTerm (s_cS o v) = f_bTerm o ∧ f_bTest (s_cS o v) = f_bTest o ∧ f_bT0 (s_cS o v) = f_bT0 o ∧ f_bT1 (s_cS o v) = f_bT1 o ∧ f_cnt0 (s_cS o v) = f_cnt0 o ∧ f_cnt1 (s_cS o v) = f_cnt1 o ∧ f_regs (s_cS o v) = f_regs o ∧ f_outs (s_cS o v) = f_outs o ∧ f_edgeId (s_cS o v) = f_edgeId o ∧ f_edgeW (s_cS o v) = f_edgeW o ∧ f_chNext (s_cS o v) = f_chNext o ∧ f_chPrev (s_cS o v) = f_chPrev o ∧ f_chHead (s_cS o v) = f_chHead o ∧ f_heat (s_cS o v) = f_heat o ∧ f_posOf (s_cS o v) = f_posOf o ∧ f_order (s_cS o v) = f_order o ∧ f_cOp (s_cS o v) = f_cOp o ∧ f_cD (s_cS o v) = f_cD o ∧ f_cS (s_cS o v) = v ∧ f_cImm (s_cS o v) = f_cImm o ∧ f_cKind (s_cS o v) = f_cKind o ∧ f_cTest (s_cS o v) = f_cTest o ∧ f_cTaken (s_cS o v) = f_cTaken o ∧ f_cOther (s_cS o v) = f_cOther o ∧ f_maxBlocks (s_cS o v) = f_maxBlocks o ∧ f_maxSteps (s_cS o v) = f_maxSteps o ∧ f_n (s_cS o v) = f_n o ∧ f_arranged (s_cS o v) = f_arranged o ∧ f_outCount (s_cS o v) = f_outCount o ∧ f_steps (s_cS o v) = f_steps o ∧ f_status (s_cS o v) = f_status o := ⟨rfl, rfl, rfl, rfl, rfl, rfl, rfl, rfl, rfl, rfl, rfl, rfl, rfl, rfl, rfl, rfl, rfl, rfl, rfl, rfl, rfl, rfl, rfl, rfl, rfl, rfl, rfl, rfl, rfl, rfl, rfl, rfl, rfl, rfl, rfl⟩
theorem gs_cImm (o : Ob) (v : List Int32) : f_bOp (s_cImm o v) = f_bOp o ∧ f_bD (s_cImm o v) = f_bD o ∧ f_bS (s_cImm o v) = f_bS o ∧ f_bImm (s_cImm o v) = f_bImm o ∧ f_bTerm (s_cImm o v) = f_bTerm o ∧ f_bTest (s_cImm o v) = f_bTest o ∧ f_bT0 (s_cImm o v) = f_bT0 o ∧ f_bT1 (s_cImm o v) = f_bT1 o ∧ f_cnt0 (s_cImm o v) = f_cnt0 o ∧ f_cnt1 (s_cImm o v) = f_cnt1 o ∧ f_regs (s_cImm o v) = f_regs o ∧ f_outs (s_cImm o v) = f_outs o ∧ f_edgeId (s_cImm o v) = f_edgeId o ∧ f_edgeW (s_cImm o v) = f_edgeW o ∧ f_chNext (s_cImm o v) = f_chNext o ∧ f_chPrev (s_cImm o v) = f_chPrev o ∧ f_chHead (s_cImm o v) = f_chHead o ∧ f_heat (s_cImm o v) = f_heat o ∧ f_posOf (s_cImm o v) = f_posOf o ∧ f_order (s_cImm o v) = f_order o ∧ f_cOp (s_cImm o v) = f_cOp o ∧ f_cD (s_cImm o v) = f_cD o ∧ f_cS (s_cImm o v) = f_cS o ∧ f_cImm (s_cImm o v) = v ∧ f_cKind (s_cImm o v) = f_cKind o ∧ f_cTest (s_cImm o v) = f_cTest o ∧ f_cTaken (s_cImm o v) = f_cTaken o ∧ f_cOther (s_cImm o v) = f_cOther o ∧ f_maxBlocks (s_cImm o v) = f_maxBlocks o ∧ f_maxSteps (s_cImm o v) = f_maxSteps o ∧ f_n (s_cImm o v) = f_n o ∧ f_arranged (s_cImm o v) = f_arranged o ∧ f_outCount (s_cImm o v) = f_outCount o ∧ f_steps (s_cImm o v) = f_steps o ∧ f_status (s_cImm o v) = f_status o := ⟨rfl, rfl, rfl, rfl, rfl, rfl, rfl, rfl, rfl, rfl, rfl, rfl, rfl, rfl, rfl, rfl, rfl, rfl, rfl, rfl, rfl, rfl, rfl, rfl, rfl, rfl, rfl, rfl, rfl, rfl, rfl, rfl, rfl, rfl, rfl⟩
theorem gs_cKind (o : Ob) (v : List Int32) : f_bOp (s_cKind o v) = f_bOp o ∧ f_bD (s_cKind o v) = f_bD o ∧ f_bS (s_cKind o v) = f_bS o ∧ f_bImm (s_cKind o v) = f_bImm o ∧ f_bTerm (s_cKind o v) = f_bTerm o ∧ f_bTest (s_cKind o v) = f_bTest o ∧ f_bT0 (s_cKind o v) = f_bT0 o ∧ f_bT1 (s_cKind o v) = f_bT1 o ∧ f_cnt0 (s_cKind o v) = f_cnt0 o ∧ f_cnt1 (s_cKind o v) = f_cnt1 o ∧ f_regs (s_cKind o v) = f_regs o ∧ f_outs (s_cKind o v) = f_outs o ∧ f_edgeId (s_cKind o v) = f_edgeId o ∧ f_edgeW (s_cKind o v) = f_edgeW o ∧ f_chNext (s_cKind o v) = f_chNext o ∧ f_chPrev (s_cKind o v) = f_chPrev o ∧ f_chHead (s_cKind o v) = f_chHead o ∧ f_heat (s_cKind o v) = f_heat o ∧ f_posOf (s_cKind o v) = f_posOf o ∧ f_order (s_cKind o v) = f_order o ∧ f_cOp (s_cKind o v) = f_cOp o ∧ f_cD (s_cKind o v) = f_cD o ∧ f_cS (s_cKind o v) = f_cS o ∧ f_cImm (s_cKind o v) = f_cImm o ∧ f_cKind (s_cKind o v) = v ∧ f_cTest (s_cKind o v) = f_cTest o ∧ f_cTaken (s_cKind o v) = f_cTaken o ∧ f_cOther (s_cKind o v) = f_cOther o ∧ f_maxBlocks (s_cKind o v) = f_maxBlocks o ∧ f_maxSteps (s_cKind o v) = f_maxSteps o ∧ f_n (s_cKind o v) = f_n o ∧ f_arranged (s_cKind o v) = f_arranged o ∧ f_outCount (s_cKind o v) = f_outCount o ∧ f_steps (s_cKind o v) = f_steps o ∧ f_status (s_cKind o v) = f_status o := ⟨rfl, rfl, rfl, rfl, rfl, rfl, rfl, rfl, rfl, rfl, rfl, rfl, rfl, rfl, rfl, rfl, rfl, rfl, rfl, rfl, rfl, rfl, rfl, rfl, rfl, rfl, rfl, rfl, rfl, rfl, rfl, rfl, rfl, rfl, rfl⟩
theorem gs_cTest (o : Ob) (v : List Int32) : f_bOp (s_cTest o v) = f_bOp o ∧ f_bD (s_cTest o v) = f_bD o ∧ f_bS (s_cTest o v) = f_bS o ∧ f_bImm (s_cTest o v) = f_bImm o ∧ f_bTerm (s_cTest o v) = f_bTerm o ∧ f_bTest (s_cTest o v) = f_bTest o ∧ f_bT0 (s_cTest o v) = f_bT0 o ∧ f_bT1 (s_cTest o v) = f_bT1 o ∧ f_cnt0 (s_cTest o v) = f_cnt0 o ∧ f_cnt1 (s_cTest o v) = f_cnt1 o ∧ f_regs (s_cTest o v) = f_regs o ∧ f_outs (s_cTest o v) = f_outs o ∧ f_edgeId (s_cTest o v) = f_edgeId o ∧ f_edgeW (s_cTest o v) = f_edgeW o ∧ f_chNext (s_cTest o v) = f_chNext o ∧ f_chPrev (s_cTest o v) = f_chPrev o ∧ f_chHead (s_cTest o v) = f_chHead o ∧ f_heat (s_cTest o v) = f_heat o ∧ f_posOf (s_cTest o v) = f_posOf o ∧ f_order (s_cTest o v) = f_order o ∧ f_cOp (s_cTest o v) = f_cOp o ∧ f_cD (s_cTest o v) = f_cD o ∧ f_cS (s_cTest o v) = f_cS o ∧ f_cImm (s_cTest o v) = f_cImm o ∧ f_cKind (s_cTest o v) = f_cKind o ∧ f_cTest (s_cTest o v) = v ∧ f_cTaken (s_cTest o v) = f_cTaken o ∧ f_cOther (s_cTest o v) = f_cOther o ∧ f_maxBlocks (s_cTest o v) = f_maxBlocks o ∧ f_maxSteps (s_cTest o v) = f_maxSteps o ∧ f_n (s_cTest o v) = f_n o ∧ f_arranged (s_cTest o v) = f_arranged o ∧ f_outCount (s_cTest o v) = f_outCount o ∧ f_steps (s_cTest o v) = f_steps o ∧ f_status (s_cTest o v) = f_status o := ⟨rfl, rfl, rfl, rfl, rfl, rfl, rfl, rfl, rfl, rfl, rfl, rfl, rfl, rfl, rfl, rfl, rfl, rfl, rfl, rfl, rfl, rfl, rfl, rfl, rfl, rfl, rfl, rfl, rfl, rfl, rfl, rfl, rfl, rfl, rfl⟩
theorem gs_cTaken (o : Ob) (v : List Int32) : f_bOp (s_cTaken o v) = f_bOp o ∧ f_bD (s_cTaken o v) = f_bD o ∧ f_bS (s_cTaken o v) = f_bS o ∧ f_bImm (s_cTaken o v) = f_bImm o ∧ f_bTerm (s_cTaken o v) = f_bTerm o ∧ f_bTest (s_cTaken o v) = f_bTest o ∧ f_bT0 (s_cTaken o v) = f_bT0 o ∧ f_bT1 (s_cTaken o v) = f_bT1 o ∧ f_cnt0 (s_cTaken o v) = f_cnt0 o ∧ f_cnt1 (s_cTaken o v) = f_cnt1 o ∧ f_regs (s_cTaken o v) = f_regs o ∧ f_outs (s_cTaken o v) = f_outs o ∧ f_edgeId (s_cTaken o v) = f_edgeId o ∧ f_edgeW (s_cTaken o v) = f_edgeW o ∧ f_chNext (s_cTaken o v) = f_chNext o ∧ f_chPrev (s_cTaken o v) = f_chPrev o ∧ f_chHead (s_cTaken o v) = f_chHead o ∧ f_heat (s_cTaken o v) = f_heat o ∧ f_posOf (s_cTaken o v) = f_posOf o ∧ f_order (s_cTaken o v) = f_order o ∧ f_cOp (s_cTaken o v) = f_cOp o ∧ f_cD (s_cTaken o v) = f_cD o ∧ f_cS (s_cTaken o v) = f_cS o ∧ f_cImm (s_cTaken o v) = f_cImm o ∧ f_cKind (s_cTaken o v) = f_cKind o ∧ f_cTest (s_cTaken o v) = f_cTest o ∧ f_cTaken (s_cTaken o v) = v ∧ f_cOther (s_cTaken o v) = f_cOther o ∧ f_maxBlocks (s_cTaken o v) = f_maxBlocks o ∧ f_maxSteps (s_cTaken o v) = f_maxSteps o ∧ f_n (s_cTaken o v) = f_n o ∧ f_arranged (s_cTaken o v) = f_arranged o ∧ f_outCount (s_cTaken o v) = f_outCount o ∧ f_steps (s_cTaken o v) = f_steps o ∧ f_status (s_cTaken o v) = f_status o := ⟨rfl, rfl, rfl, rfl, rfl, rfl, rfl, rfl, rfl, rfl, rfl, rfl, rfl, rfl, rfl, rfl, rfl, rfl, rfl, rfl, rfl, rfl, rfl, rfl, rfl, rfl, rfl, rfl, rfl, rfl, rfl, rfl, rfl, rfl, rfl⟩
theorem gs_cOther (o : Ob) (v : List Int32) : f_bOp (s_cOther o v) = f_bOp o ∧ f_bD (s_cOther o v) = f_bD o ∧ f_bS (s_cOther o v) = f_bS o ∧ f_bImm (s_cOther o v) = f_bImm o ∧ f_bTerm (s_cOther o v) = f_bTerm o ∧ f_bTest (s_cOther o v) = f_bTest o ∧ f_bT0 (s_cOther o v) = f_bT0 o ∧ f_bT1 (s_cOther o v) = f_bT1 o ∧ f_cnt0 (s_cOther o v) = f_cnt0 o ∧ f_cnt1 (s_cOther o v) = f_cnt1 o ∧ f_regs (s_cOther o v) = f_regs o ∧ f_outs (s_cOther o v) = f_outs o ∧ f_edgeId (s_cOther o v) = f_edgeId o ∧ f_edgeW (s_cOther o v) = f_edgeW o ∧ f_chNext (s_cOther o v) = f_chNext o ∧ f_chPrev (s_cOther o v) = f_chPrev o ∧ f_chHead (s_cOther o v) = f_chHead o ∧ f_heat (s_cOther o v) = f_heat o ∧ f_posOf (s_cOther o v) = f_posOf o ∧ f_order (s_cOther o v) = f_order o ∧ f_cOp (s_cOther o v) = f_cOp o ∧ f_cD (s_cOther o v) = f_cD o ∧ f_cS (s_cOther o v) = f_cS o ∧ f_cImm (s_cOther o v) = f_cImm o ∧ f_cKind (s_cOther o v) = f_cKind o ∧ f_cTest (s_cOther o v) = f_cTest o ∧ f_cTaken (s_cOther o v) = f_cTaken o ∧ f_cOther (s_cOther o v) = v ∧ f_maxBlocks (s_cOther o v) = f_maxBlocks o ∧ f_maxSteps (s_cOther o v) = f_maxSteps o ∧ f_n (s_cOther o v) = f_n o ∧ f_arranged (s_cOther o v) = f_arranged o ∧ f_outCount (s_cOther o v) = f_outCount o ∧ f_steps (s_cOther o v) = f_steps o ∧ f_status (s_cOther o v) = f_status o := ⟨rfl, rfl, rfl, rfl, rfl, rfl, rfl, rfl, rfl, rfl, rfl, rfl, rfl, rfl, rfl, rfl, rfl, rfl, rfl, rfl, rfl, rfl, rfl, rfl, rfl, rfl, rfl, rfl, rfl, rfl, rfl, rfl, rfl, rfl, rfl⟩
theorem gs_maxBlocks (o : Ob) (v : Int32) : f_bOp (s_maxBlocks o v) = f_bOp o ∧ f_bD (s_maxBlocks o v) = f_bD o ∧ f_bS (s_maxBlocks o v) = f_bS o ∧ f_bImm (s_maxBlocks o v) = f_bImm o ∧ f_bTerm (s_maxBlocks o v) = f_bTerm o ∧ f_bTest (s_maxBlocks o v) = f_bTest o ∧ f_bT0 (s_maxBlocks o v) = f_bT0 o ∧ f_bT1 (s_maxBlocks o v) = f_bT1 o ∧ f_cnt0 (s_maxBlocks o v) = f_cnt0 o ∧ f_cnt1 (s_maxBlocks o v) = f_cnt1 o ∧ f_regs (s_maxBlocks o v) = f_regs o ∧ f_outs (s_maxBlocks o v) = f_outs o ∧ f_edgeId (s_maxBlocks o v) = f_edgeId o ∧ f_edgeW (s_maxBlocks o v) = f_edgeW o ∧ f_chNext (s_maxBlocks o v) = f_chNext o ∧ f_chPrev (s_maxBlocks o v) = f_chPrev o ∧ f_chHead (s_maxBlocks o v) = f_chHead o ∧ f_heat (s_maxBlocks o v) = f_heat o ∧ f_posOf (s_maxBlocks o v) = f_posOf o ∧ f_order (s_maxBlocks o v) = f_order o ∧ f_cOp (s_maxBlocks o v) = f_cOp o ∧ f_cD (s_maxBlocks o v) = f_cD o ∧ f_cS (s_maxBlocks o v) = f_cS o ∧ f_cImm (s_maxBlocks o v) = f_cImm o ∧ f_cKind (s_maxBlocks o v) = f_cKind o ∧ f_cTest (s_maxBlocks o v) = f_cTest o ∧ f_cTaken (s_maxBlocks o v) = f_cTaken o ∧ f_cOther (s_maxBlocks o v) = f_cOther o ∧ f_maxBlocks (s_maxBlocks o v) = v ∧ f_maxSteps (s_maxBlocks o v) = f_maxSteps o ∧ f_n (s_maxBlocks o v) = f_n o ∧ f_arranged (s_maxBlocks o v) = f_arranged o ∧ f_outCount (s_maxBlocks o v) = f_outCount o ∧ f_steps (s_maxBlocks o v) = f_steps o ∧ f_status (s_maxBlocks o v) = f_status o := ⟨rfl, rfl, rfl, rfl, rfl, rfl, rfl, rfl, rfl, rfl, rfl, rfl, rfl, rfl, rfl, rfl, rfl, rfl, rfl, rfl, rfl, rfl, rfl, rfl, rfl, rfl, rfl, rfl, rfl, rfl, rfl, rfl, rfl, rfl, rfl⟩
theorem gs_maxSteps (o : Ob) (v : Int32) : f_bOp (s_maxSteps o v) = f_bOp o ∧ f_bD (s_maxSteps o v) = f_bD o ∧ f_bS (s_maxSteps o v) = f_bS o ∧ f_bImm (s_maxSteps o v) = f_bImm o ∧ f_bTerm (s_maxSteps o v) = f_bTerm o ∧ f_bTest (s_maxSteps o v) = f_bTest o ∧ f_bT0 (s_maxSteps o v) = f_bT0 o ∧ f_bT1 (s_maxSteps o v) = f_bT1 o ∧ f_cnt0 (s_maxSteps o v) = f_cnt0 o ∧ f_cnt1 (s_maxSteps o v) = f_cnt1 o ∧ f_regs (s_maxSteps o v) = f_regs o ∧ f_outs (s_maxSteps o v) = f_outs o ∧ f_edgeId (s_maxSteps o v) = f_edgeId o ∧ f_edgeW (s_maxSteps o v) = f_edgeW o ∧ f_chNext (s_maxSteps o v) = f_chNext o ∧ f_chPrev (s_maxSteps o v) = f_chPrev o ∧ f_chHead (s_maxSteps o v) = f_chHead o ∧ f_heat (s_maxSteps o v) = f_heat o ∧ f_posOf (s_maxSteps o v) = f_posOf o ∧ f_order (s_maxSteps o v) = f_order o ∧ f_cOp (s_maxSteps o v) = f_cOp o ∧ f_cD (s_maxSteps o v) = f_cD o ∧ f_cS (s_maxSteps o v) = f_cS o ∧ f_cImm (s_maxSteps o v) = f_cImm o ∧ f_cKind (s_maxSteps o v) = f_cKind o ∧ f_cTest (s_maxSteps o v) = f_cTest o ∧ f_cTaken (s_maxSteps o v) = f_cTaken o ∧ f_cOther (s_maxSteps o v) = f_cOther o ∧ f_maxBlocks (s_maxSteps o v) = f_maxBlocks o ∧ f_maxSteps (s_maxSteps o v) = v ∧ f_n (s_maxSteps o v) = f_n o ∧ f_arranged (s_maxSteps o v) = f_arranged o ∧ f_outCount (s_maxSteps o v) = f_outCount o ∧ f_steps (s_maxSteps o v) = f_steps o ∧ f_status (s_maxSteps o v) = f_status o := ⟨rfl, rfl, rfl, rfl, rfl, rfl, rfl, rfl, rfl, rfl, rfl, rfl, rfl, rfl, rfl, rfl, rfl, rfl, rfl, rfl, rfl, rfl, rfl, rfl, rfl, rfl, rfl, rfl, rfl, rfl, rfl, rfl, rfl, rfl, rfl⟩
theorem gs_n (o : Ob) (v : Int32) : f_bOp (s_n o v) = f_bOp o ∧ f_bD (s_n o v) = f_bD o ∧ f_bS (s_n o v) = f_bS o ∧ f_bImm (s_n o v) = f_bImm o ∧ f_bTerm (s_n o v) = f_bTerm o ∧ f_bTest (s_n o v) = f_bTest o ∧ f_bT0 (s_n o v) = f_bT0 o ∧ f_bT1 (s_n o v) = f_bT1 o ∧ f_cnt0 (s_n o v) = f_cnt0 o ∧ f_cnt1 (s_n o v) = f_cnt1 o ∧ f_regs (s_n o v) = f_regs o ∧ f_outs (s_n o v) = f_outs o ∧ f_edgeId (s_n o v) = f_edgeId o ∧ f_edgeW (s_n o v) = f_edgeW o ∧ f_chNext (s_n o v) = f_chNext o ∧ f_chPrev (s_n o v) = f_chPrev o ∧ f_chHead (s_n o v) = f_chHead o ∧ f_heat (s_n o v) = f_heat o ∧ f_posOf (s_n o v) = f_posOf o ∧ f_order (s_n o v) = f_order o ∧ f_cOp (s_n o v) = f_cOp o ∧ f_cD (s_n o v) = f_cD o ∧ f_cS (s_n o v) = f_cS o ∧ f_cImm (s_n o v) = f_cImm o ∧ f_cKind (s_n o v) = f_cKind o ∧ f_cTest (s_n o v) = f_cTest o ∧ f_cTaken (s_n o v) = f_cTaken o ∧ f_cOther (s_n o v) = f_cOther o ∧ f_maxBlocks (s_n o v) = f_maxBlocks o ∧ f_maxSteps (s_n o v) = f_maxSteps o ∧ f_n (s_n o v) = v ∧ f_arranged (s_n o v) = f_arranged o ∧ f_outCount (s_n o v) = f_outCount o ∧ f_steps (s_n o v) = f_steps o ∧ f_status (s_n o v) = f_status o := ⟨rfl, rfl, rfl, rfl, rfl, rfl, rfl, rfl, rfl, rfl, rfl, rfl, rfl, rfl, rfl, rfl, rfl, rfl, rfl, rfl, rfl, rfl, rfl, rfl, rfl, rfl, rfl, rfl, rfl, rfl, rfl, rfl, rfl, rfl, rfl⟩
theorem gs_arranged (o : Ob) (v : Int32) : f_bOp (s_arranged o v) = f_bOp o ∧ f_bD (s_arranged o v) = f_bD o ∧ f_bS (s_arranged o v) = f_bS o ∧ f_bImm (s_arranged o v) = f_bImm o ∧ f_bTerm (s_arranged o v) = f_bTerm o ∧ f_bTest (s_arranged o v) = f_bTest o ∧ f_bT0 (s_arranged o v) = f_bT0 o ∧ f_bT1 (s_arranged o v) = f_bT1 o ∧ f_cnt0 (s_arranged o v) = f_cnt0 o ∧ f_cnt1 (s_arranged o v) = f_cnt1 o ∧ f_regs (s_arranged o v) = f_regs o ∧ f_outs (s_arranged o v) = f_outs o ∧ f_edgeId (s_arranged o v) = f_edgeId o ∧ f_edgeW (s_arranged o v) = f_edgeW o ∧ f_chNext (s_arranged o v) = f_chNext o ∧ f_chPrev (s_arranged o v) = f_chPrev o ∧ f_chHead (s_arranged o v) = f_chHead o ∧ f_heat (s_arranged o v) = f_heat o ∧ f_posOf (s_arranged o v) = f_posOf o ∧ f_order (s_arranged o v) = f_order o ∧ f_cOp (s_arranged o v) = f_cOp o ∧ f_cD (s_arranged o v) = f_cD o ∧ f_cS (s_arranged o v) = f_cS o ∧ f_cImm (s_arranged o v) = f_cImm o ∧ f_cKind (s_arranged o v) = f_cKind o ∧ f_cTest (s_arranged o v) = f_cTest o ∧ f_cTaken (s_arranged o v) = f_cTaken o ∧ f_cOther (s_arranged o v) = f_cOther o ∧ f_maxBlocks (s_arranged o v) = f_maxBlocks o ∧ f_maxSteps (s_arranged o v) = f_maxSteps o ∧ f_n (s_arranged o v) = f_n o ∧ f_arranged (s_arranged o v) = v ∧ f_outCount (s_arranged o v) = f_outCount o ∧ f_steps (s_arranged o v) = f_steps o ∧ f_status (s_arranged o v) = f_status o := ⟨rfl, rfl, rfl, rfl, rfl, rfl, rfl, rfl, rfl, rfl, rfl, rfl, rfl, rfl, rfl, rfl, rfl, rfl, rfl, rfl, rfl, rfl, rfl, rfl, rfl, rfl, rfl, rfl, rfl, rfl, rfl, rfl, rfl, rfl, rfl⟩
theorem gs_outCount (o : Ob) (v : Int32) : f_bOp (s_outCount o v) = f_bOp o ∧ f_bD (s_outCount o v) = f_bD o ∧ f_bS (s_outCount o v) = f_bS o ∧ f_bImm (s_outCount o v) = f_bImm o ∧ f_bTerm (s_outCount o v) = f_bTerm o ∧ f_bTest (s_outCount o v) = f_bTest o ∧ f_bT0 (s_outCount o v) = f_bT0 o ∧ f_bT1 (s_outCount o v) = f_bT1 o ∧ f_cnt0 (s_outCount o v) = f_cnt0 o ∧ f_cnt1 (s_outCount o v) = f_cnt1 o ∧ f_regs (s_outCount o v) = f_regs o ∧ f_outs (s_outCount o v) = f_outs o ∧ f_edgeId (s_outCount o v) = f_edgeId o ∧ f_edgeW (s_outCount o v) = f_edgeW o ∧ f_chNext (s_outCount o v) = f_chNext o ∧ f_chPrev (s_outCount o v) = f_chPrev o ∧ f_chHead (s_outCount o v) = f_chHead o ∧ f_heat (s_outCount o v) = f_heat o ∧ f_posOf (s_outCount o v) = f_posOf o ∧ f_order (s_outCount o v) = f_order o ∧ f_cOp (s_outCount o v) = f_cOp o ∧ f_cD (s_outCount o v) = f_cD o ∧ f_cS (s_outCount o v) = f_cS o ∧ f_cImm (s_outCount o v) = f_cImm o ∧ f_cKind (s_outCount o v) = f_cKind o ∧ f_cTest (s_outCount o v) = f_cTest o ∧ f_cTaken (s_outCount o v) = f_cTaken o ∧ f_cOther (s_outCount o v) = f_cOther o ∧ f_maxBlocks (s_outCount o v) = f_maxBlocks o ∧ f_maxSteps (s_outCount o v) = f_maxSteps o ∧ f_n (s_outCount o v) = f_n o ∧ f_arranged (s_outCount o v) = f_arranged o ∧ f_outCount (s_outCount o v) = v ∧ f_steps (s_outCount o v) = f_steps o ∧ f_status (s_outCount o v) = f_status o := ⟨rfl, rfl, rfl, rfl, rfl, rfl, rfl, rfl, rfl, rfl, rfl, rfl, rfl, rfl, rfl, rfl, rfl, rfl, rfl, rfl, rfl, rfl, rfl, rfl, rfl, rfl, rfl, rfl, rfl, rfl, rfl, rfl, rfl, rfl, rfl⟩
theorem gs_steps (o : Ob) (v : Int32) : f_bOp (s_steps o v) = f_bOp o ∧ f_bD (s_steps o v) = f_bD o ∧ f_bS (s_steps o v) = f_bS o ∧ f_bImm (s_steps o v) = f_bImm o ∧ f_bTerm (s_steps o v) = f_bTerm o ∧ f_bTest (s_steps o v) = f_bTest o ∧ f_bT0 (s_steps o v) = f_bT0 o ∧ f_bT1 (s_steps o v) = f_bT1 o ∧ f_cnt0 (s_steps o v) = f_cnt0 o ∧ f_cnt1 (s_steps o v) = f_cnt1 o ∧ f_regs (s_steps o v) = f_regs o ∧ f_outs (s_steps o v) = f_outs o ∧ f_edgeId (s_steps o v) = f_edgeId o ∧ f_edgeW (s_steps o v) = f_edgeW o ∧ f_chNext (s_steps o v) = f_chNext o ∧ f_chPrev (s_steps o v) = f_chPrev o ∧ f_chHead (s_steps o v) = f_chHead o ∧ f_heat (s_steps o v) = f_heat o ∧ f_posOf (s_steps o v) = f_posOf o ∧ f_order (s_steps o v) = f_order o ∧ f_cOp (s_steps o v) = f_cOp o ∧ f_cD (s_steps o v) = f_cD o ∧ f_cS (s_steps o v) = f_cS o ∧ f_cImm (s_steps o v) = f_cImm o ∧ f_cKind (s_steps o v) = f_cKind o ∧ f_cTest (s_steps o v) = f_cTest o ∧ f_cTaken (s_steps o v) = f_cTaken o ∧ f_cOther (s_steps o v) = f_cOther o ∧ f_maxBlocks (s_steps o v) = f_maxBlocks o ∧ f_maxSteps (s_steps o v) = f_maxSteps o ∧ f_n (s_steps o v) = f_n o ∧ f_arranged (s_steps o v) = f_arranged o ∧ f_outCount (s_steps o v) = f_outCount o ∧ f_steps (s_steps o v) = v ∧ f_status (s_steps o v) = f_status o := ⟨rfl, rfl, rfl, rfl, rfl, rfl, rfl, rfl, rfl, rfl, rfl, rfl, rfl, rfl, rfl, rfl, rfl, rfl, rfl, rfl, rfl, rfl, rfl, rfl, rfl, rfl, rfl, rfl, rfl, rfl, rfl, rfl, rfl, rfl, rfl⟩
theorem gs_status (o : Ob) (v : Int32) : f_bOp (s_status o v) = f_bOp o ∧ f_bD (s_status o v) = f_bD o ∧ f_bS (s_status o v) = f_bS o ∧ f_bImm (s_status o v) = f_bImm o ∧ f_bTerm (s_status o v) = f_bTerm o ∧ f_bTest (s_status o v) = f_bTest o ∧ f_bT0 (s_status o v) = f_bT0 o ∧ f_bT1 (s_status o v) = f_bT1 o ∧ f_cnt0 (s_status o v) = f_cnt0 o ∧ f_cnt1 (s_status o v) = f_cnt1 o ∧ f_regs (s_status o v) = f_regs o ∧ f_outs (s_status o v) = f_outs o ∧ f_edgeId (s_status o v) = f_edgeId o ∧ f_edgeW (s_status o v) = f_edgeW o ∧ f_chNext (s_status o v) = f_chNext o ∧ f_chPrev (s_status o v) = f_chPrev o ∧ f_chHead (s_status o v) = f_chHead o ∧ f_heat (s_status o v) = f_heat o ∧ f_posOf (s_status o v) = f_posOf o ∧ f_order (s_status o v) = f_order o ∧ f_cOp (s_status o v) = f_cOp o ∧ f_cD (s_status o v) = f_cD o ∧ f_cS (s_status o v) = f_cS o ∧ f_cImm (s_status o v) = f_cImm o ∧ f_cKind (s_status o v) = f_cKind o ∧ f_cTest (s_status o v) = f_cTest o ∧ f_cTaken (s_status o v) = f_cTaken o ∧ f_cOther (s_status o v) = f_cOther o ∧ f_maxBlocks (s_status o v) = f_maxBlocks o ∧ f_maxSteps (s_status o v) = f_maxSteps o ∧ f_n (s_status o v) = f_n o ∧ f_arranged (s_status o v) = f_arranged o ∧ f_outCount (s_status o v) = f_outCount o ∧ f_steps (s_status o v) = f_steps o ∧ f_status (s_status o v) = v := ⟨rfl, rfl, rfl, rfl, rfl, rfl, rfl, rfl, rfl, rfl, rfl, rfl, rfl, rfl, rfl, rfl, rfl, rfl, rfl, rfl, rfl, rfl, rfl, rfl, rfl, rfl, rfl, rfl, rfl, rfl, rfl, rfl, rfl, rfl, rfl⟩
/-! ## ints, plainly -/
theorem i_lt {x y : Int32} : x < y ↔ x.toInt < y.toInt := Int32.lt_iff_toInt_lt
theorem i_eq {x y : Int32} : x = y ↔ x.toInt = y.toInt := Int32.toInt_inj.symm
theorem i_lo (x : Int32) : -2147483648 ≤ x.toInt := Int32.le_toInt x
theorem i_hi (x : Int32) : x.toInt < 2147483648 := Int32.toInt_lt x
theorem i_add {x y : Int32} (h1 : -2147483648 ≤ x.toInt + y.toInt) (h2 : x.toInt + y.toInt < 2147483648) : (x + y).toInt = x.toInt + y.toInt := XT.add32 ⟨h1, by omega⟩
theorem i_sub {x y : Int32} (h1 : -2147483648 ≤ x.toInt - y.toInt) (h2 : x.toInt - y.toInt < 2147483648) : (x - y).toInt = x.toInt - y.toInt := XT.sub32 ⟨h1, by omega⟩
theorem i_mul {x y : Int32} (h1 : -2147483648 ≤ x.toInt * y.toInt) (h2 : x.toInt * y.toInt < 2147483648) : (x * y).toInt = x.toInt * y.toInt := XT.mul32 ⟨h1, by omega⟩
theorem i_nat (x : Int32) : x.toNatClampNeg = x.toInt.toNat := rfl
theorem aget_at {α : Type} {xs : List α} {j : Int32} {n : Nat} (hj : j.toInt = n) (hn : n < xs.length) : aget xs j = some xs[n] := by
  have h0 : ¬ j < 0 := by rw [i_lt]; show ¬ j.toInt < 0; omega
  unfold aget
  rw [if_neg h0, i_nat, hj]
  simp [hn]
theorem aget_rep {α : Type} {m : Nat} {a : α} {j : Int32} (h0 : 0 ≤ j.toInt) (h1 : j.toInt < m) : aget (List.replicate m a) j = some a := by
  rw [aget_at (n := j.toInt.toNat) (by omega) (by rw [List.length_replicate]; omega)]
  simp
theorem aset_at {α : Type} {xs : List α} {j : Int32} {n : Nat} {v : α} (hj : j.toInt = n) (hn : n < xs.length) : aset xs j v = some (xs.set n v) := by
  have h0 : ¬ j < 0 := by rw [i_lt]; show ¬ j.toInt < 0; omega
  unfold aset
  have e : j.toNatClampNeg = n := by rw [i_nat, hj]; simp
  rw [if_neg h0, e, if_pos hn]
theorem rep_set {α : Type} (m k : Nat) (a : α) : (List.replicate m a).set k a = List.replicate m a := by
  apply List.ext_getElem (by simp)
  intro i h1 h2
  rw [List.getElem_set]
  split <;> simp
theorem small_cases {x : Int32} (h0 : 0 ≤ x.toInt) {n : Nat} (h1 : x.toInt < n) {P : Int32 → Prop} (h : ∀ m : Nat, m < n → P (Int32.ofInt m)) : P x := by
  have e : Int32.ofInt (x.toInt.toNat : Nat) = x := by
    rw [Int.toNat_of_nonneg h0, Int32.ofInt_toInt]
  rw [← e]
  exact h _ (by omega)
theorem bit_ne {x : Int32} (h0 : 0 ≤ x.toInt) (h1 : x.toInt < 32) : ¬ (((1 : Int32) <<< (x &&& 31)) &&& ((1 : Int32) <<< (x &&& 31))) = 0 :=
  small_cases (P := fun x => ¬ (((1 : Int32) <<< (x &&& 31)) &&& ((1 : Int32) <<< (x &&& 31))) = 0) h0 (n := 32) h1 (by decide)
theorem clear_loop (o : Ob) (h0 : f_cnt0 o = List.replicate 16 0) (h1 : f_cnt1 o = List.replicate 16 0) : F4 o = some o := by
  obtain ⟨e, he, hE⟩ := loopN_inv (B := B4_2) (I := fun w => w.2 = o ∧ 0 ≤ w.1.toInt ∧ w.1.toInt ≤ 16) (P := fun e => e = o) (μ := fun w => (16 - w.1.toInt).toNat) (by
    intro w ⟨w1, w2, w3⟩
    unfold B4_2
    have e16 : (16 : Int32).toInt = 16 := rfl
    have e1 : (1 : Int32).toInt = 1 := rfl
    by_cases hv : w.1 < 16
    · rw [if_pos hv]
      rw [i_lt, e16] at hv
      have e2 : (w.1 + 1).toInt = w.1.toInt + 1 := by rw [i_add (by omega) (by omega), e1]
      rw [w1, h0, h1, aset_at (n := w.1.toInt.toNat) (by omega) (by rw [List.length_replicate]; omega), rep_set]
      simp only [Option.bind_some]
      right
      refine ⟨_, rfl, ⟨?_, ?_, ?_⟩, ?_⟩
      · show s_cnt1 (s_cnt0 o (List.replicate 16 0)) (List.replicate 16 0) = o
        conv => lhs; rw [← h1]; arg 1; rw [h1, ← h0]
        rfl
      · show 0 ≤ (w.1 + 1).toInt; omega
      · show (w.1 + 1).toInt ≤ 16; omega
      · show (16 - (w.1 + 1).toInt).toNat < (16 - w.1.toInt).toNat; omega
    · rw [if_neg hv]
      exact Or.inl ⟨_, rfl, w1⟩) qN (0, o) ⟨rfl, by show (0 : Int) ≤ 0; decide, by show (0 : Int) ≤ 16; decide⟩ (by show (16 - (0 : Int)).toNat < 4000; decide)
  unfold F4
  rw [he, hE]; rfl
set_option maxRecDepth 20000 in
theorem law_ok (x0 x1 x2 x3 x4 x5 : Int32) : ∃ τ, F0 x0 x1 x2 x3 x4 x5 = some (1, τ) ∧ τ.length - List.length ([] : QHeap) ≤ room_1.cells ∧ qhs τ - qhs [] ≤ room_1.slots := by
  obtain ⟨k, hk⟩ : ∃ k, k = (if (16 : Int32) < (if x0 < 2 then 2 else x0) then 16 else (if x0 < 2 then 2 else x0)) := ⟨_, rfl⟩
  have hk1 : ¬ (0 : Int32) = k := by
    intro q
    have e0 : (0 : Int32).toInt = 0 := rfl
    have e2 : (2 : Int32).toInt = 2 := rfl
    by_cases a1 : x0 < 2
    · rw [if_pos a1, if_neg (by decide)] at hk; rw [hk] at q; exact absurd q (by decide)
    · rw [if_neg a1] at hk
      by_cases a2 : (16 : Int32) < x0
      · rw [if_pos a2] at hk; rw [hk] at q; exact absurd q (by decide)
      · rw [if_neg a2] at hk; rw [hk] at q; rw [i_lt] at a1; rw [← q] at a1; omega
  obtain ⟨o, ho, c1, c2, c3, a1, a2, a3, a4, a5, a6, a7, a8, a9, a10, hq⟩ : ∃ o, F1 x0 x1 = some o ∧ f_arranged o = 0 ∧ f_n o = 0 ∧ f_maxBlocks o = k ∧ f_bOp o = List.replicate 16 0 ∧ f_bD o = List.replicate 16 0 ∧ f_bS o = List.replicate 16 0 ∧ f_bImm o = List.replicate 16 0 ∧ f_bTerm o = List.replicate 16 0 ∧ f_bTest o = List.replicate 16 0 ∧ f_bT0 o = List.replicate 16 0 ∧ f_bT1 o = List.replicate 16 0 ∧ f_cnt0 o = List.replicate 16 0 ∧ f_cnt1 o = List.replicate 16 0 ∧ qhs (H0 o) ≤ 1088 := by
    unfold F1
    rw [← hk]
    refine ⟨_, rfl, rfl, rfl, rfl, rfl, rfl, rfl, rfl, rfl, rfl, rfl, rfl, rfl, rfl, ?_⟩
    simp [H0, qhs, qsz, cN, f_bOp, f_bD, f_bS, f_bImm, f_bTerm, f_bTest, f_bT0, f_bT1, f_cnt0, f_cnt1, f_regs, f_outs, f_edgeId, f_edgeW, f_chNext, f_chPrev, f_chHead, f_heat, f_posOf, f_order, f_cOp, f_cD, f_cS, f_cImm, f_cKind, f_cTest, f_cTaken, f_cOther, f_maxBlocks, f_maxSteps, f_n, f_arranged, f_outCount, f_steps, f_status, s_bOp, s_bD, s_bS, s_bImm, s_bTerm, s_bTest, s_bT0, s_bT1, s_cnt0, s_cnt1, s_regs, s_outs, s_edgeId, s_edgeW, s_chNext, s_chPrev, s_chHead, s_heat, s_posOf, s_order, s_cOp, s_cD, s_cS, s_cImm, s_cKind, s_cTest, s_cTaken, s_cOther, s_maxBlocks, s_maxSteps, s_n, s_arranged, s_outCount, s_steps, s_status]
  have l1 : ∀ q, List.length (H0 q) - List.length ([] : QHeap) ≤ room_1.cells := fun q => by show 29 - 0 ≤ 72; decide
  unfold F0
  rw [ho]
  simp only [Option.bind_some]
  by_cases hv : x2 < 0 ∨ 7 < x2 ∨ x3 < 0 ∨ 3 < x3 ∨ x4 < 0 ∨ 3 < x4
  · have hok : (if x2 < (0 : Int32) then (0 : Int32) else (if (7 : Int32) < x2 then (0 : Int32) else (if x3 < (0 : Int32) then (0 : Int32) else (if (3 : Int32) < x3 then (0 : Int32) else (if x4 < (0 : Int32) then (0 : Int32) else (if (3 : Int32) < x4 then (0 : Int32) else (1 : Int32))))))) = 0 := by
      rcases hv with h | h | h | h | h | h <;> simp [h]
    have g2 : F2 o x2 x3 x4 x5 = some (-1, o) := by
      unfold F2
      rw [c1, c2, c3, if_pos rfl, if_neg hk1, if_pos (by decide)]
      rcases hv with h | h | h | h | h | h <;> simp [h]
    have g7 : F7 o 0 = some 0 := by unfold F7; rw [c2]; rfl
    have g6 : ∀ j, F6 o 0 j = some 0 := fun j => by unfold F6; rw [g7]; rfl
    rw [g2]
    simp only [Option.bind_some, hok, if_true, F5, c2, g6]
    exact ⟨_, rfl, l1 _, by show qhs (H0 o) - 0 ≤ 1088; omega⟩
  · simp only [not_or] at hv
    obtain ⟨v1, v2, v3, v4, v5, v6⟩ := hv
    have ne1 : ¬ ((1 : Int32) = 0) := by decide
    obtain ⟨q, hq1⟩ : ∃ q, q = s_n (s_bT1 (s_bT0 (s_bTest (s_bTerm (s_bImm (s_bS (s_bD (s_bOp o ((List.replicate 16 0).set 0 x2)) ((List.replicate 16 0).set 0 x3)) ((List.replicate 16 0).set 0 x4)) ((List.replicate 16 0).set 0 x5)) ((List.replicate 16 0).set 0 0)) ((List.replicate 16 0).set 0 0)) ((List.replicate 16 0).set 0 0)) ((List.replicate 16 0).set 0 0)) 1 := ⟨_, rfl⟩
    have s0 : ∀ v : Int32, aset (List.replicate 16 0) 0 v = some ((List.replicate 16 0).set 0 v) := fun v => aset_at (n := 0) rfl (by rw [List.length_replicate]; decide)
    have g2 : F2 o x2 x3 x4 x5 = some (0, q) := by
      unfold F2
      rw [c1, c2, c3, if_pos rfl, if_neg hk1, if_pos (by decide), if_neg v1, if_neg v2, if_neg v3, if_neg v4, if_neg v5, if_neg v6, a1, a2, a3, a4, s0, s0, s0, s0]
      simp only [Option.bind_some]
      obtain ⟨p1, hp1⟩ : ∃ p1, p1 = s_bImm (s_bS (s_bD (s_bOp o ((List.replicate 16 0).set 0 x2)) ((List.replicate 16 0).set 0 x3)) ((List.replicate 16 0).set 0 x4)) ((List.replicate 16 0).set 0 x5) := ⟨_, rfl⟩
      rw [← hp1] at hq1 ⊢
      obtain ⟨p2, hp2⟩ : ∃ p2, p2 = s_bT0 (s_bTest (s_bTerm p1 ((List.replicate 16 0).set 0 0)) ((List.replicate 16 0).set 0 0)) ((List.replicate 16 0).set 0 0) := ⟨_, rfl⟩
      have g3 : F3 p1 0 0 0 0 = some p2 := by
        unfold F3
        rw [show f_bTerm p1 = List.replicate 16 0 by simp only [hp1, gs_bOp, gs_bD, gs_bS, gs_bImm, gs_bTerm, gs_bTest, gs_bT0, gs_bT1, gs_cnt0, gs_cnt1, gs_regs, gs_outs, gs_edgeId, gs_edgeW, gs_chNext, gs_chPrev, gs_chHead, gs_heat, gs_posOf, gs_order, gs_cOp, gs_cD, gs_cS, gs_cImm, gs_cKind, gs_cTest, gs_cTaken, gs_cOther, gs_maxBlocks, gs_maxSteps, gs_n, gs_arranged, gs_outCount, gs_steps, gs_status, a5], show f_bTest p1 = List.replicate 16 0 by simp only [hp1, gs_bOp, gs_bD, gs_bS, gs_bImm, gs_bTerm, gs_bTest, gs_bT0, gs_bT1, gs_cnt0, gs_cnt1, gs_regs, gs_outs, gs_edgeId, gs_edgeW, gs_chNext, gs_chPrev, gs_chHead, gs_heat, gs_posOf, gs_order, gs_cOp, gs_cD, gs_cS, gs_cImm, gs_cKind, gs_cTest, gs_cTaken, gs_cOther, gs_maxBlocks, gs_maxSteps, gs_n, gs_arranged, gs_outCount, gs_steps, gs_status, a6], show f_bT0 p1 = List.replicate 16 0 by simp only [hp1, gs_bOp, gs_bD, gs_bS, gs_bImm, gs_bTerm, gs_bTest, gs_bT0, gs_bT1, gs_cnt0, gs_cnt1, gs_regs, gs_outs, gs_edgeId, gs_edgeW, gs_chNext, gs_chPrev, gs_chHead, gs_heat, gs_posOf, gs_order, gs_cOp, gs_cD, gs_cS, gs_cImm, gs_cKind, gs_cTest, gs_cTaken, gs_cOther, gs_maxBlocks, gs_maxSteps, gs_n, gs_arranged, gs_outCount, gs_steps, gs_status, a7], s0, hp2]
        rfl
      rw [← hp2] at hq1
      rw [g3]
      simp only [Option.bind_some]
      rw [show f_bT1 p2 = List.replicate 16 0 by simp only [hp2, hp1, gs_bOp, gs_bD, gs_bS, gs_bImm, gs_bTerm, gs_bTest, gs_bT0, gs_bT1, gs_cnt0, gs_cnt1, gs_regs, gs_outs, gs_edgeId, gs_edgeW, gs_chNext, gs_chPrev, gs_chHead, gs_heat, gs_posOf, gs_order, gs_cOp, gs_cD, gs_cS, gs_cImm, gs_cKind, gs_cTest, gs_cTaken, gs_cOther, gs_maxBlocks, gs_maxSteps, gs_n, gs_arranged, gs_outCount, gs_steps, gs_status, a8], s0]
      simp only [Option.bind_some]
      rw [show (0 : Int32) + 1 = 1 from rfl, ← hq1, clear_loop q (by simp only [hq1, hp2, hp1, gs_bOp, gs_bD, gs_bS, gs_bImm, gs_bTerm, gs_bTest, gs_bT0, gs_bT1, gs_cnt0, gs_cnt1, gs_regs, gs_outs, gs_edgeId, gs_edgeW, gs_chNext, gs_chPrev, gs_chHead, gs_heat, gs_posOf, gs_order, gs_cOp, gs_cD, gs_cS, gs_cImm, gs_cKind, gs_cTest, gs_cTaken, gs_cOther, gs_maxBlocks, gs_maxSteps, gs_n, gs_arranged, gs_outCount, gs_steps, gs_status, a9]) (by simp only [hq1, hp2, hp1, gs_bOp, gs_bD, gs_bS, gs_bImm, gs_bTerm, gs_bTest, gs_bT0, gs_bT1, gs_cnt0, gs_cnt1, gs_regs, gs_outs, gs_edgeId, gs_edgeW, gs_chNext, gs_chPrev, gs_chHead, gs_heat, gs_posOf, gs_order, gs_cOp, gs_cD, gs_cS, gs_cImm, gs_cKind, gs_cTest, gs_cTaken, gs_cOther, gs_maxBlocks, gs_maxSteps, gs_n, gs_arranged, gs_outCount, gs_steps, gs_status, a10])]
      rfl
    have g7 : F7 q 0 = some 1 := by unfold F7; rw [show f_n q = 1 by simp only [hq1, gs_bOp, gs_bD, gs_bS, gs_bImm, gs_bTerm, gs_bTest, gs_bT0, gs_bT1, gs_cnt0, gs_cnt1, gs_regs, gs_outs, gs_edgeId, gs_edgeW, gs_chNext, gs_chPrev, gs_chHead, gs_heat, gs_posOf, gs_order, gs_cOp, gs_cD, gs_cS, gs_cImm, gs_cKind, gs_cTest, gs_cTaken, gs_cOther, gs_maxBlocks, gs_maxSteps, gs_n, gs_arranged, gs_outCount, gs_steps, gs_status]]; rfl
    rw [g2]
    have hok : (if x2 < (0 : Int32) then (0 : Int32) else (if (7 : Int32) < x2 then (0 : Int32) else (if x3 < (0 : Int32) then (0 : Int32) else (if (3 : Int32) < x3 then (0 : Int32) else (if x4 < (0 : Int32) then (0 : Int32) else (if (3 : Int32) < x4 then (0 : Int32) else (1 : Int32))))))) = 1 := by
      rw [if_neg v1, if_neg v2, if_neg v3, if_neg v4, if_neg v5, if_neg v6]
    have b0 : F6 q 0 0 = some x2 := by unfold F6; rw [g7]; simp only [hq1, gs_bOp, gs_bD, gs_bS, gs_bImm, gs_bTerm, gs_bTest, gs_bT0, gs_bT1, gs_cnt0, gs_cnt1, gs_regs, gs_outs, gs_edgeId, gs_edgeW, gs_chNext, gs_chPrev, gs_chHead, gs_heat, gs_posOf, gs_order, gs_cOp, gs_cD, gs_cS, gs_cImm, gs_cKind, gs_cTest, gs_cTaken, gs_cOther, gs_maxBlocks, gs_maxSteps, gs_n, gs_arranged, gs_outCount, gs_steps, gs_status]; rfl
    have b1 : F6 q 0 1 = some x3 := by unfold F6; rw [g7]; simp only [hq1, gs_bOp, gs_bD, gs_bS, gs_bImm, gs_bTerm, gs_bTest, gs_bT0, gs_bT1, gs_cnt0, gs_cnt1, gs_regs, gs_outs, gs_edgeId, gs_edgeW, gs_chNext, gs_chPrev, gs_chHead, gs_heat, gs_posOf, gs_order, gs_cOp, gs_cD, gs_cS, gs_cImm, gs_cKind, gs_cTest, gs_cTaken, gs_cOther, gs_maxBlocks, gs_maxSteps, gs_n, gs_arranged, gs_outCount, gs_steps, gs_status]; rfl
    have b2 : F6 q 0 2 = some x4 := by unfold F6; rw [g7]; simp only [hq1, gs_bOp, gs_bD, gs_bS, gs_bImm, gs_bTerm, gs_bTest, gs_bT0, gs_bT1, gs_cnt0, gs_cnt1, gs_regs, gs_outs, gs_edgeId, gs_edgeW, gs_chNext, gs_chPrev, gs_chHead, gs_heat, gs_posOf, gs_order, gs_cOp, gs_cD, gs_cS, gs_cImm, gs_cKind, gs_cTest, gs_cTaken, gs_cOther, gs_maxBlocks, gs_maxSteps, gs_n, gs_arranged, gs_outCount, gs_steps, gs_status]; rfl
    have b3 : F6 q 0 3 = some x5 := by unfold F6; rw [g7]; simp only [hq1, gs_bOp, gs_bD, gs_bS, gs_bImm, gs_bTerm, gs_bTest, gs_bT0, gs_bT1, gs_cnt0, gs_cnt1, gs_regs, gs_outs, gs_edgeId, gs_edgeW, gs_chNext, gs_chPrev, gs_chHead, gs_heat, gs_posOf, gs_order, gs_cOp, gs_cD, gs_cS, gs_cImm, gs_cKind, gs_cTest, gs_cTaken, gs_cOther, gs_maxBlocks, gs_maxSteps, gs_n, gs_arranged, gs_outCount, gs_steps, gs_status]; rfl
    have b4 : f_n q = 1 := by simp only [hq1, gs_bOp, gs_bD, gs_bS, gs_bImm, gs_bTerm, gs_bTest, gs_bT0, gs_bT1, gs_cnt0, gs_cnt1, gs_regs, gs_outs, gs_edgeId, gs_edgeW, gs_chNext, gs_chPrev, gs_chHead, gs_heat, gs_posOf, gs_order, gs_cOp, gs_cD, gs_cS, gs_cImm, gs_cKind, gs_cTest, gs_cTaken, gs_cOther, gs_maxBlocks, gs_maxSteps, gs_n, gs_arranged, gs_outCount, gs_steps, gs_status]
    simp only [Option.bind_some, hok, ne1, if_true, if_false, F5, b4, b0, b1, b2, b3]
    refine ⟨_, rfl, l1 _, ?_⟩
    have : qhs (H0 q) = qhs (H0 o) := by
      simp only [hq1, H0, qhs, qsz, gs_bOp, gs_bD, gs_bS, gs_bImm, gs_bTerm, gs_bTest, gs_bT0, gs_bT1, gs_cnt0, gs_cnt1, gs_regs, gs_outs, gs_edgeId, gs_edgeW, gs_chNext, gs_chPrev, gs_chHead, gs_heat, gs_posOf, gs_order, gs_cOp, gs_cD, gs_cS, gs_cImm, gs_cKind, gs_cTest, gs_cTaken, gs_cOther, gs_maxBlocks, gs_maxSteps, gs_n, gs_arranged, gs_outCount, gs_steps, gs_status, List.length_set, a1, a2, a3, a4, a5, a6, a7, a8]
    show qhs (H0 q) - 0 ≤ 1088
    omega
set_option maxRecDepth 65536 in
theorem comes_1 {Post : Tables → Env → Array Value → State → Outcome → State → Prop} (hpost : ∀ tb e args s v u, (limb_1_1.after args s (.returned v) u = true ∧ limb_1_2.after args s (.returned v) u = true ∧ True) → FrameEnd s (.returned v) u (Jvm.fieldLocs frame_1_writes args s ++ Jvm.arrayLocs frame_1_arrays args s ++ Jvm.staticLocs frame_1_statics s) 72 1088 → Post tb e args s (.returned v) u) :
    ArmFor flags0 classFile x code maxLocals ret World_1 tables_1 room_1 Calls_1 rest_1 Pre_1 Post := by
  intro l hfl _ _ p e ha hc hk s m args below hf hA hF happ hP
  obtain ⟨hcalls, hrest, hpre⟩ := hP
  obtain ⟨-, -, -, hnamed, -, -, -, hat⟩ := (Spec.applies_iff hf).mp happ
  obtain ⟨hg, hn⟩ := and_e (Cond.before_iff.mp (show (Jvm.Cond.and given_1 narrow_1).before args s = true from hpre))
  obtain ⟨g0, g1⟩ := and_e hg
  obtain ⟨w0, w1, w2, w3, w4, w5, rfl⟩ : ∃ w0 w1 w2 w3 w4 w5 : Value, args = #[w0, w1, w2, w3, w4, w5] := by
    have hs : args.size = 6 := by simpa [Cond.value, given_1] using g0
    obtain ⟨L⟩ := args
    match L, hs with
    | [w0, w1, w2, w3, w4, w5], _ => exact ⟨w0, w1, w2, w3, w4, w5, rfl⟩
  have hw := fun d (hd : d ∈ tables_1) => atoms_spec (ws := Jvm.Cond.code x code maxLocals ret :: tables_1) hat d (List.mem_cons_of_mem _ hd)
  obtain ⟨a0, g2⟩ := and_e g1
  obtain ⟨i0, ei0⟩ := is_v a0
  obtain rfl : w0 = (.int i0) := Option.some.inj ei0
  obtain ⟨a1, g3⟩ := and_e g2
  obtain ⟨i1, ei1⟩ := is_v a1
  obtain rfl : w1 = (.int i1) := Option.some.inj ei1
  obtain ⟨a2, g4⟩ := and_e g3
  obtain ⟨i2, ei2⟩ := is_v a2
  obtain rfl : w2 = (.int i2) := Option.some.inj ei2
  obtain ⟨a3, g5⟩ := and_e g4
  obtain ⟨i3, ei3⟩ := is_v a3
  obtain rfl : w3 = (.int i3) := Option.some.inj ei3
  obtain ⟨a4, g6⟩ := and_e g5
  obtain ⟨i4, ei4⟩ := is_v a4
  obtain rfl : w4 = (.int i4) := Option.some.inj ei4
  obtain ⟨i5, ei5⟩ := is_v g6
  obtain rfl : w5 = (.int i5) := Option.some.inj ei5
  obtain ⟨τ, hF0, hc1, hs1⟩ := law_ok i0 i1 i2 i3 i4 i5
  have Ad : QAd s.heap.size (fun k => s.heap.size + k) := ⟨fun k _ => rfl, fun i j h => Nat.add_left_cancel h⟩
  have hR : QRep s s.heap.size (fun k => s.heap.size + k) s.heap [] := ⟨Nat.le_refl _, rfl, fun k c h => by cases h⟩
  have T := tF0 (l := l) (Z := s) Ad (QW_ok hw) i0 i1 i2 i3 i4 i5 hF0
  have M := QTri.met (k := 0) (as := [.int i0, .int i1, .int i2, .int i3, .int i4, .int i5]) (by decide) T hR (Nat.le_of_ble_eq_true rfl) (fun q => by cases q) tables_1 (rm := room_1) (by decide) (by decide) hc1 hs1
  obtain ⟨n, o, h1, h2, h3, _, L, rfl, ⟨rfl, R', N⟩, hq⟩ := M p e ha hc hk s m _ below hf ((Spec.applies_iff_loose hf).mp happ).1 ⟨rfl, State.Warmed39.refl s, rfl⟩ trivial
  refine ⟨n, _, h1, h2, h3, hpost _ _ _ _ _ _ ⟨Cond.after_iff.mpr rfl, Cond.after_iff.mpr (eq_i res_at (Term.int_eval (1)) rfl), trivial⟩ ⟨hq.1, hq.2.1, (hq.2.2.sift fun y hy => Or.inr (N y hy)).mono hc1 hs1⟩⟩
theorem main_1_1 : Claimed_1_1 := comes_1 fun _ _ _ _ _ _ h hF => ⟨h.1, hF⟩
theorem main_1_2 : Claimed_1_2 := comes_1 fun _ _ _ _ _ _ h hF => ⟨h.2.1, hF⟩
end Jvm.Pilot.@@N@@
namespace Jvm.Pilot.@@N@@
open Jvm Jvm.ClassFile Sem Op Lib Jvm.Free Jvm.Stand Jvm.Pilot.@@N@@.Jvm.D
/-! MADE BY PROGRAM (witnessworld.py) out of the Statement's table words and the real class files: 9 classes; the members and pool entries that the words name. The judged class is class 1, her method 1. -/
namespace start1
open Jvm.ClassFile
def u (s : String) : CpInfo := .utf8 (stringToUtf16 s)
/-- a pool by its gaps: so many unusable entries, then the entry; so many at the end -/
def gap : Nat → List CpInfo → List CpInfo
  | 0, r => r
  | n + 1, r => .unusable :: gap n r
def poolList (es : List (Nat × CpInfo)) (last : Nat) : List CpInfo := es.foldr (fun e r => gap e.1 (e.2 :: r)) (gap last [])
def pool (es : List (Nat × CpInfo)) (last : Nat) : Array CpInfo := ⟨poolList es last⟩
def fileOf (pool : Array CpInfo) (this : Nat) (attrs : Array Attribute := #[]) (ms : Array MethodInfo := #[]) (fl : Nat := 33) (sup : Nat := 0) (ifs : Array Nat := #[]) (fds : Array FieldInfo := #[]) : ClassFile where
  minorVersion := 0
  majorVersion := 65
  constantPool := pool
  accessFlags := fl
  thisClass := this
  superClass := sup
  interfaces := ifs
  fields := fds
  methods := ms
  attributes := attrs
def plain (name : String) (sup : Option ClassId) : Class where
  name := name
  kind := .ordinary
  loader := none
  accessFlags := 33
  super := sup
  interfaces := #[]
  cf := none
  fields := #[]
  methods := #[]
  instanceTypes := #[]
  staticTypes := #[]
  resolved := #[]
  callSites := []
  init := .initialized
  statics := none
  mirror := none

def pool0 : Array CpInfo := pool [(5, u "<init>"), (0, u "()V"), (1, .class_ 10), (1, u "java/lang/Object")] 113

def k0c0 : Code := { maxStack := 0, maxLocals := 1, code := object_method_1_code, exceptionTable := #[], attributes := #[] }
def k0m0 : Method := { name := "<init>", desc := "()V", sig := { parameters := [], returnType := none }, accessFlags := 1, code := some k0c0 }
/-- java/lang/Object -/
def k0 : Class := { plain "java/lang/Object" none with
  accessFlags := 33
  interfaces := #[]
  cf := some (fileOf pool0 8 #[] #[{ accessFlags := 1, nameIndex := 5, descriptorIndex := 6, attributes := #[] }] 33 0 #[] #[])
  fields := #[]
  methods := #[k0m0]
  instanceTypes := #[]
  staticTypes := #[]
  resolved := Array.replicate 124 none
  statics := none }

def pool1 : Array CpInfo := pool [(2, .class_ 4), (1, u "java/lang/Object"), (0, u "<init>"), (0, u "()V"), (0, .class_ 8), (0, u "ChainLayout"), (0, .methodref 7 10), (0, .nameAndType 5 11), (0, u "(II)V"), (0, .methodref 7 13), (0, .nameAndType 14 15), (0, u "addBlock"), (0, u "(IIII)I"), (0, .methodref 7 17), (0, .nameAndType 18 19), (0, u "blockCount"), (0, u "()I"), (0, .methodref 7 21), (0, .nameAndType 22 23), (0, u "blockInfo"), (0, u "(II)I"), (0, .class_ 25), (0, u "ChainLayoutL1"), (2, u "law"), (0, u "(IIIIII)Z")] 3

def k1m0 : Method := { name := "<init>", desc := "()V", sig := { parameters := [], returnType := none }, accessFlags := 1, code := none }
def k1c1 : Code := { maxStack := 5, maxLocals := 9, code := code, exceptionTable := #[], attributes := #[] }
def k1m1 : Method := { name := "law", desc := "(IIIIII)Z", sig := { parameters := [.int, .int, .int, .int, .int, .int], returnType := some .boolean }, accessFlags := 9, code := some k1c1 }
/-- ChainLayoutL1 -/
def k1 : Class := { plain "ChainLayoutL1" (some 0) with
  accessFlags := 33
  interfaces := #[]
  cf := some (fileOf pool1 24 #[] #[{ accessFlags := 1, nameIndex := 5, descriptorIndex := 6, attributes := #[] }, { accessFlags := 9, nameIndex := 28, descriptorIndex := 29, attributes := #[] }] 33 2 #[] #[])
  fields := #[]
  methods := #[k1m0, k1m1]
  instanceTypes := #[]
  staticTypes := #[]
  resolved := Array.replicate 33 none
  statics := none }

def pool2 : Array CpInfo := pool [(1, .methodref 2 3), (0, .class_ 4), (0, .nameAndType 5 6), (0, u "java/lang/Object"), (0, u "<init>"), (0, u "()V"), (0, .fieldref 8 9), (0, .class_ 10), (0, .nameAndType 11 12), (0, u "ChainLayout"), (0, u "bOp"), (0, u "[I"), (0, .fieldref 8 14), (0, .nameAndType 15 12), (0, u "bD"), (0, .fieldref 8 17), (0, .nameAndType 18 12), (0, u "bS"), (0, .fieldref 8 20), (0, .nameAndType 21 12), (0, u "bImm"), (0, .fieldref 8 23), (0, .nameAndType 24 12), (0, u "bTerm"), (0, .fieldref 8 26), (0, .nameAndType 27 12), (0, u "bTest"), (0, .fieldref 8 29), (0, .nameAndType 30 12), (0, u "bT0"), (0, .fieldref 8 32), (0, .nameAndType 33 12), (0, u "bT1"), (0, .fieldref 8 35), (0, .nameAndType 36 12), (0, u "cnt0"), (0, .fieldref 8 38), (0, .nameAndType 39 12), (0, u "cnt1"), (0, .fieldref 8 41), (0, .nameAndType 42 12), (0, u "regs"), (0, .fieldref 8 44), (0, .nameAndType 45 12), (0, u "outs"), (0, .fieldref 8 47), (0, .nameAndType 48 12), (0, u "edgeId"), (0, .fieldref 8 50), (0, .nameAndType 51 12), (0, u "edgeW"), (0, .fieldref 8 53), (0, .nameAndType 54 12), (0, u "chNext"), (0, .fieldref 8 56), (0, .nameAndType 57 12), (0, u "chPrev"), (0, .fieldref 8 59), (0, .nameAndType 60 12), (0, u "chHead"), (0, .fieldref 8 62), (0, .nameAndType 63 12), (0, u "heat"), (0, .fieldref 8 65), (0, .nameAndType 66 12), (0, u "posOf"), (0, .fieldref 8 68), (0, .nameAndType 69 12), (0, u "order"), (0, .fieldref 8 71), (0, .nameAndType 72 12), (0, u "cOp"), (0, .fieldref 8 74), (0, .nameAndType 75 12), (0, u "cD"), (0, .fieldref 8 77), (0, .nameAndType 78 12), (0, u "cS"), (0, .fieldref 8 80), (0, .nameAndType 81 12), (0, u "cImm"), (0, .fieldref 8 83), (0, .nameAndType 84 12), (0, u "cKind"), (0, .fieldref 8 86), (0, .nameAndType 87 12), (0, u "cTest"), (0, .fieldref 8 89), (0, .nameAndType 90 12), (0, u "cTaken"), (0, .fieldref 8 92), (0, .nameAndType 93 12), (0, u "cOther"), (0, .fieldref 8 95), (0, .nameAndType 96 97), (0, u "maxBlocks"), (0, u "I"), (0, .fieldref 8 99), (0, .nameAndType 100 97), (0, u "maxSteps"), (0, .fieldref 8 102), (0, .nameAndType 103 97), (0, u "n"), (0, .fieldref 8 105), (0, .nameAndType 106 107), (0, u "arranged"), (0, u "Z"), (0, .fieldref 8 109), (0, .nameAndType 110 97), (0, u "outCount"), (0, .fieldref 8 112), (0, .nameAndType 113 97), (0, u "steps"), (0, .fieldref 8 115), (0, .nameAndType 116 97), (0, u "status"), (0, .methodref 8 118), (0, .nameAndType 119 120), (0, u "writeTerm"), (0, u "(IIII)V"), (0, .methodref 8 122), (0, .nameAndType 123 6), (0, u "clearCounts"), (0, .methodref 8 125), (0, .nameAndType 126 127), (0, u "validBlock"), (0, u "(I)Z"), (30, u "edgeN"), (10, u "(II)V"), (3, u "(II)I"), (3, u "OP_NOP"), (2, u "OP_MOVI"), (1, u "OP_MOV"), (1, u "OP_ADDI"), (1, u "OP_ADD"), (1, u "OP_SUB"), (1, u "OP_SHR"), (1, u "OP_OUT"), (1, u "T_HALT"), (0, u "T_JUMP"), (0, u "T_BRANCH"), (0, u "COND_EQZ"), (0, u "COND_NEZ"), (0, u "COND_LTZ"), (0, u "COND_GEZ"), (0, u "ST_NONE"), (0, u "ST_HALT"), (0, u "ST_STEPS"), (0, u "ST_EMPTY"), (0, u "OUT_CAP"), (1, u "F_OP"), (0, u "F_D"), (0, u "F_S"), (0, u "F_IMM"), (0, u "F_TERM"), (0, u "F_TEST"), (0, u "F_TARGET0"), (0, u "F_TARGET1"), (3, u "addBlock"), (0, u "(IIII)I"), (9, u "blockCount"), (0, u "()I"), (0, u "blockInfo")] 8

def k2c0 : Code := { maxStack := 2, maxLocals := 5, code := prog_1_method_1_code, exceptionTable := #[], attributes := #[] }
def k2m0 : Method := { name := "<init>", desc := "(II)V", sig := { parameters := [.int, .int], returnType := none }, accessFlags := 1, code := some k2c0 }
def k2c1 : Code := { maxStack := 5, maxLocals := 6, code := prog_1_method_2_code, exceptionTable := #[], attributes := #[] }
def k2m1 : Method := { name := "addBlock", desc := "(IIII)I", sig := { parameters := [.int, .int, .int, .int], returnType := some .int }, accessFlags := 1, code := some k2c1 }
def k2c2 : Code := { maxStack := 1, maxLocals := 1, code := prog_1_method_10_code, exceptionTable := #[], attributes := #[] }
def k2m2 : Method := { name := "blockCount", desc := "()I", sig := { parameters := [], returnType := some .int }, accessFlags := 1, code := some k2c2 }
def k2c3 : Code := { maxStack := 2, maxLocals := 3, code := prog_1_method_11_code, exceptionTable := #[], attributes := #[] }
def k2m3 : Method := { name := "blockInfo", desc := "(II)I", sig := { parameters := [.int, .int], returnType := some .int }, accessFlags := 1, code := some k2c3 }
def k2c4 : Code := { maxStack := 2, maxLocals := 2, code := prog_1_method_18_code, exceptionTable := #[], attributes := #[] }
def k2m4 : Method := { name := "validBlock", desc := "(I)Z", sig := { parameters := [.int], returnType := some .boolean }, accessFlags := 2, code := some k2c4 }
def k2c5 : Code := { maxStack := 3, maxLocals := 5, code := prog_1_method_19_code, exceptionTable := #[], attributes := #[] }
def k2m5 : Method := { name := "writeTerm", desc := "(IIII)V", sig := { parameters := [.int, .int, .int, .int], returnType := none }, accessFlags := 2, code := some k2c5 }
def k2c6 : Code := { maxStack := 3, maxLocals := 2, code := prog_1_method_20_code, exceptionTable := #[], attributes := #[] }
def k2m6 : Method := { name := "clearCounts", desc := "()V", sig := { parameters := [], returnType := none }, accessFlags := 2, code := some k2c6 }
/-- ChainLayout -/
def k2 : Class := { plain "ChainLayout" (some 0) with
  accessFlags := 49
  interfaces := #[]
  cf := some (fileOf pool2 8 #[] #[{ accessFlags := 1, nameIndex := 5, descriptorIndex := 169, attributes := #[] }, { accessFlags := 1, nameIndex := 218, descriptorIndex := 219, attributes := #[] }, { accessFlags := 1, nameIndex := 229, descriptorIndex := 230, attributes := #[] }, { accessFlags := 1, nameIndex := 231, descriptorIndex := 173, attributes := #[] }, { accessFlags := 2, nameIndex := 126, descriptorIndex := 127, attributes := #[] }, { accessFlags := 2, nameIndex := 119, descriptorIndex := 120, attributes := #[] }, { accessFlags := 2, nameIndex := 123, descriptorIndex := 6, attributes := #[] }] 49 2 #[] #[{ accessFlags := 25, nameIndex := 177, descriptorIndex := 97, attributes := #[] }, { accessFlags := 25, nameIndex := 180, descriptorIndex := 97, attributes := #[] }, { accessFlags := 25, nameIndex := 182, descriptorIndex := 97, attributes := #[] }, { accessFlags := 25, nameIndex := 184, descriptorIndex := 97, attributes := #[] }, { accessFlags := 25, nameIndex := 186, descriptorIndex := 97, attributes := #[] }, { accessFlags := 25, nameIndex := 188, descriptorIndex := 97, attributes := #[] }, { accessFlags := 25, nameIndex := 190, descriptorIndex := 97, attributes := #[] }, { accessFlags := 25, nameIndex := 192, descriptorIndex := 97, attributes := #[] }, { accessFlags := 25, nameIndex := 194, descriptorIndex := 97, attributes := #[] }, { accessFlags := 25, nameIndex := 195, descriptorIndex := 97, attributes := #[] }, { accessFlags := 25, nameIndex := 196, descriptorIndex := 97, attributes := #[] }, { accessFlags := 25, nameIndex := 197, descriptorIndex := 97, attributes := #[] }, { accessFlags := 25, nameIndex := 198, descriptorIndex := 97, attributes := #[] }, { accessFlags := 25, nameIndex := 199, descriptorIndex := 97, attributes := #[] }, { accessFlags := 25, nameIndex := 200, descriptorIndex := 97, attributes := #[] }, { accessFlags := 25, nameIndex := 201, descriptorIndex := 97, attributes := #[] }, { accessFlags := 25, nameIndex := 202, descriptorIndex := 97, attributes := #[] }, { accessFlags := 25, nameIndex := 203, descriptorIndex := 97, attributes := #[] }, { accessFlags := 25, nameIndex := 204, descriptorIndex := 97, attributes := #[] }, { accessFlags := 25, nameIndex := 205, descriptorIndex := 97, attributes := #[] }, { accessFlags := 25, nameIndex := 207, descriptorIndex := 97, attributes := #[] }, { accessFlags := 25, nameIndex := 208, descriptorIndex := 97, attributes := #[] }, { accessFlags := 25, nameIndex := 209, descriptorIndex := 97, attributes := #[] }, { accessFlags := 25, nameIndex := 210, descriptorIndex := 97, attributes := #[] }, { accessFlags := 25, nameIndex := 211, descriptorIndex := 97, attributes := #[] }, { accessFlags := 25, nameIndex := 212, descriptorIndex := 97, attributes := #[] }, { accessFlags := 25, nameIndex := 213, descriptorIndex := 97, attributes := #[] }, { accessFlags := 25, nameIndex := 214, descriptorIndex := 97, attributes := #[] }, { accessFlags := 2, nameIndex := 96, descriptorIndex := 97, attributes := #[] }, { accessFlags := 2, nameIndex := 100, descriptorIndex := 97, attributes := #[] }, { accessFlags := 2, nameIndex := 103, descriptorIndex := 97, attributes := #[] }, { accessFlags := 2, nameIndex := 106, descriptorIndex := 107, attributes := #[] }, { accessFlags := 2, nameIndex := 11, descriptorIndex := 12, attributes := #[] }, { accessFlags := 2, nameIndex := 15, descriptorIndex := 12, attributes := #[] }, { accessFlags := 2, nameIndex := 18, descriptorIndex := 12, attributes := #[] }, { accessFlags := 2, nameIndex := 21, descriptorIndex := 12, attributes := #[] }, { accessFlags := 2, nameIndex := 24, descriptorIndex := 12, attributes := #[] }, { accessFlags := 2, nameIndex := 27, descriptorIndex := 12, attributes := #[] }, { accessFlags := 2, nameIndex := 30, descriptorIndex := 12, attributes := #[] }, { accessFlags := 2, nameIndex := 33, descriptorIndex := 12, attributes := #[] }, { accessFlags := 2, nameIndex := 36, descriptorIndex := 12, attributes := #[] }, { accessFlags := 2, nameIndex := 39, descriptorIndex := 12, attributes := #[] }, { accessFlags := 2, nameIndex := 42, descriptorIndex := 12, attributes := #[] }, { accessFlags := 2, nameIndex := 45, descriptorIndex := 12, attributes := #[] }, { accessFlags := 2, nameIndex := 110, descriptorIndex := 97, attributes := #[] }, { accessFlags := 2, nameIndex := 113, descriptorIndex := 97, attributes := #[] }, { accessFlags := 2, nameIndex := 116, descriptorIndex := 97, attributes := #[] }, { accessFlags := 2, nameIndex := 48, descriptorIndex := 12, attributes := #[] }, { accessFlags := 2, nameIndex := 51, descriptorIndex := 12, attributes := #[] }, { accessFlags := 2, nameIndex := 158, descriptorIndex := 97, attributes := #[] }, { accessFlags := 2, nameIndex := 54, descriptorIndex := 12, attributes := #[] }, { accessFlags := 2, nameIndex := 57, descriptorIndex := 12, attributes := #[] }, { accessFlags := 2, nameIndex := 60, descriptorIndex := 12, attributes := #[] }, { accessFlags := 2, nameIndex := 63, descriptorIndex := 12, attributes := #[] }, { accessFlags := 2, nameIndex := 66, descriptorIndex := 12, attributes := #[] }, { accessFlags := 2, nameIndex := 69, descriptorIndex := 12, attributes := #[] }, { accessFlags := 2, nameIndex := 72, descriptorIndex := 12, attributes := #[] }, { accessFlags := 2, nameIndex := 75, descriptorIndex := 12, attributes := #[] }, { accessFlags := 2, nameIndex := 78, descriptorIndex := 12, attributes := #[] }, { accessFlags := 2, nameIndex := 81, descriptorIndex := 12, attributes := #[] }, { accessFlags := 2, nameIndex := 84, descriptorIndex := 12, attributes := #[] }, { accessFlags := 2, nameIndex := 87, descriptorIndex := 12, attributes := #[] }, { accessFlags := 2, nameIndex := 90, descriptorIndex := 12, attributes := #[] }, { accessFlags := 2, nameIndex := 93, descriptorIndex := 12, attributes := #[] }])
  fields := #[{ name := "OP_NOP", type := .int, accessFlags := 25, slot := 0, constantValue := 0 }, { name := "OP_MOVI", type := .int, accessFlags := 25, slot := 1, constantValue := 0 }, { name := "OP_MOV", type := .int, accessFlags := 25, slot := 2, constantValue := 0 }, { name := "OP_ADDI", type := .int, accessFlags := 25, slot := 3, constantValue := 0 }, { name := "OP_ADD", type := .int, accessFlags := 25, slot := 4, constantValue := 0 }, { name := "OP_SUB", type := .int, accessFlags := 25, slot := 5, constantValue := 0 }, { name := "OP_SHR", type := .int, accessFlags := 25, slot := 6, constantValue := 0 }, { name := "OP_OUT", type := .int, accessFlags := 25, slot := 7, constantValue := 0 }, { name := "T_HALT", type := .int, accessFlags := 25, slot := 8, constantValue := 0 }, { name := "T_JUMP", type := .int, accessFlags := 25, slot := 9, constantValue := 0 }, { name := "T_BRANCH", type := .int, accessFlags := 25, slot := 10, constantValue := 0 }, { name := "COND_EQZ", type := .int, accessFlags := 25, slot := 11, constantValue := 0 }, { name := "COND_NEZ", type := .int, accessFlags := 25, slot := 12, constantValue := 0 }, { name := "COND_LTZ", type := .int, accessFlags := 25, slot := 13, constantValue := 0 }, { name := "COND_GEZ", type := .int, accessFlags := 25, slot := 14, constantValue := 0 }, { name := "ST_NONE", type := .int, accessFlags := 25, slot := 15, constantValue := 0 }, { name := "ST_HALT", type := .int, accessFlags := 25, slot := 16, constantValue := 0 }, { name := "ST_STEPS", type := .int, accessFlags := 25, slot := 17, constantValue := 0 }, { name := "ST_EMPTY", type := .int, accessFlags := 25, slot := 18, constantValue := 0 }, { name := "OUT_CAP", type := .int, accessFlags := 25, slot := 19, constantValue := 0 }, { name := "F_OP", type := .int, accessFlags := 25, slot := 20, constantValue := 0 }, { name := "F_D", type := .int, accessFlags := 25, slot := 21, constantValue := 0 }, { name := "F_S", type := .int, accessFlags := 25, slot := 22, constantValue := 0 }, { name := "F_IMM", type := .int, accessFlags := 25, slot := 23, constantValue := 0 }, { name := "F_TERM", type := .int, accessFlags := 25, slot := 24, constantValue := 0 }, { name := "F_TEST", type := .int, accessFlags := 25, slot := 25, constantValue := 0 }, { name := "F_TARGET0", type := .int, accessFlags := 25, slot := 26, constantValue := 0 }, { name := "F_TARGET1", type := .int, accessFlags := 25, slot := 27, constantValue := 0 }, { name := "maxBlocks", type := .int, accessFlags := 2, slot := 0, constantValue := 0 }, { name := "maxSteps", type := .int, accessFlags := 2, slot := 1, constantValue := 0 }, { name := "n", type := .int, accessFlags := 2, slot := 2, constantValue := 0 }, { name := "arranged", type := .boolean, accessFlags := 2, slot := 3, constantValue := 0 }, { name := "bOp", type := (.array .int), accessFlags := 2, slot := 4, constantValue := 0 }, { name := "bD", type := (.array .int), accessFlags := 2, slot := 5, constantValue := 0 }, { name := "bS", type := (.array .int), accessFlags := 2, slot := 6, constantValue := 0 }, { name := "bImm", type := (.array .int), accessFlags := 2, slot := 7, constantValue := 0 }, { name := "bTerm", type := (.array .int), accessFlags := 2, slot := 8, constantValue := 0 }, { name := "bTest", type := (.array .int), accessFlags := 2, slot := 9, constantValue := 0 }, { name := "bT0", type := (.array .int), accessFlags := 2, slot := 10, constantValue := 0 }, { name := "bT1", type := (.array .int), accessFlags := 2, slot := 11, constantValue := 0 }, { name := "cnt0", type := (.array .int), accessFlags := 2, slot := 12, constantValue := 0 }, { name := "cnt1", type := (.array .int), accessFlags := 2, slot := 13, constantValue := 0 }, { name := "regs", type := (.array .int), accessFlags := 2, slot := 14, constantValue := 0 }, { name := "outs", type := (.array .int), accessFlags := 2, slot := 15, constantValue := 0 }, { name := "outCount", type := .int, accessFlags := 2, slot := 16, constantValue := 0 }, { name := "steps", type := .int, accessFlags := 2, slot := 17, constantValue := 0 }, { name := "status", type := .int, accessFlags := 2, slot := 18, constantValue := 0 }, { name := "edgeId", type := (.array .int), accessFlags := 2, slot := 19, constantValue := 0 }, { name := "edgeW", type := (.array .int), accessFlags := 2, slot := 20, constantValue := 0 }, { name := "edgeN", type := .int, accessFlags := 2, slot := 21, constantValue := 0 }, { name := "chNext", type := (.array .int), accessFlags := 2, slot := 22, constantValue := 0 }, { name := "chPrev", type := (.array .int), accessFlags := 2, slot := 23, constantValue := 0 }, { name := "chHead", type := (.array .int), accessFlags := 2, slot := 24, constantValue := 0 }, { name := "heat", type := (.array .int), accessFlags := 2, slot := 25, constantValue := 0 }, { name := "posOf", type := (.array .int), accessFlags := 2, slot := 26, constantValue := 0 }, { name := "order", type := (.array .int), accessFlags := 2, slot := 27, constantValue := 0 }, { name := "cOp", type := (.array .int), accessFlags := 2, slot := 28, constantValue := 0 }, { name := "cD", type := (.array .int), accessFlags := 2, slot := 29, constantValue := 0 }, { name := "cS", type := (.array .int), accessFlags := 2, slot := 30, constantValue := 0 }, { name := "cImm", type := (.array .int), accessFlags := 2, slot := 31, constantValue := 0 }, { name := "cKind", type := (.array .int), accessFlags := 2, slot := 32, constantValue := 0 }, { name := "cTest", type := (.array .int), accessFlags := 2, slot := 33, constantValue := 0 }, { name := "cTaken", type := (.array .int), accessFlags := 2, slot := 34, constantValue := 0 }, { name := "cOther", type := (.array .int), accessFlags := 2, slot := 35, constantValue := 0 }]
  methods := #[k2m0, k2m1, k2m2, k2m3, k2m4, k2m5, k2m6]
  instanceTypes := #[.int, .int, .int, .boolean, (.array .int), (.array .int), (.array .int), (.array .int), (.array .int), (.array .int), (.array .int), (.array .int), (.array .int), (.array .int), (.array .int), (.array .int), .int, .int, .int, (.array .int), (.array .int), .int, (.array .int), (.array .int), (.array .int), (.array .int), (.array .int), (.array .int), (.array .int), (.array .int), (.array .int), (.array .int), (.array .int), (.array .int), (.array .int), (.array .int)]
  staticTypes := #[.int, .int, .int, .int, .int, .int, .int, .int, .int, .int, .int, .int, .int, .int, .int, .int, .int, .int, .int, .int, .int, .int, .int, .int, .int, .int, .int, .int]
  resolved := Array.replicate 240 none
  statics := none }

def pool3 : Array CpInfo := pool [(1, u "java/lang/Cloneable"), (0, .class_ 1), (0, u "java/lang/Object"), (0, .class_ 3)] 3

/-- java/lang/Cloneable -/
def k3 : Class := { plain "java/lang/Cloneable" (some 0) with
  accessFlags := 1537
  interfaces := #[]
  cf := some (fileOf pool3 2 #[] #[] 1537 4 #[] #[])
  fields := #[]
  methods := #[]
  instanceTypes := #[]
  staticTypes := #[]
  resolved := Array.replicate 8 none
  statics := none }

def pool4 : Array CpInfo := pool [(1, u "java/io/Serializable"), (0, .class_ 1), (0, u "java/lang/Object"), (0, .class_ 3)] 3

/-- java/io/Serializable -/
def k4 : Class := { plain "java/io/Serializable" (some 0) with
  accessFlags := 1537
  interfaces := #[]
  cf := some (fileOf pool4 2 #[] #[] 1537 4 #[] #[])
  fields := #[]
  methods := #[]
  instanceTypes := #[]
  staticTypes := #[]
  resolved := Array.replicate 8 none
  statics := none }

/-- the primitive byte -/
def k5 : Class := { plain "byte" none with kind := .primitive 'B', accessFlags := 0x411 }
/-- [B -/
def k6 : Class := { plain "[B" (some 0) with kind := .array 5 .byte, interfaces := #[3, 4], accessFlags := 1041 }

/-- the primitive int -/
def k7 : Class := { plain "int" none with kind := .primitive 'I', accessFlags := 0x411 }
/-- [I -/
def k8 : Class := { plain "[I" (some 0) with kind := .array 7 .int, interfaces := #[3, 4], accessFlags := 1041 }

def heap : Heap := #[]
def classes : Array Class := #[k0, k1, k2, k3, k4, k5, k6, k7, k8]
def interned : List (Array UInt16 × Addr) := []
def slotsUsed : Nat := 0
def theMethod : MethodId := ⟨1, 1⟩
def args0 : Array Value := #[.int 5, .int 5, .int 5, .int 5, .int 5, .int 5]
def aboutOver (below : List Frame) : State where
  vm := { classes := classes, interned := interned.toArray }
  heap := heap
  slotsUsed := slotsUsed
  threads := #[{ frames := .invoking theMethod args0 :: below }]
def below0 : List Frame := [.native { method := ⟨0, 0⟩, args := #[] }]
def about1 : State := aboutOver below0
def p0 : Program := .bare "" "" ""
def e0 : Env := launch0.env 0 0 0
theorem w_frames : about1.frames = Frame.invoking theMethod args0 :: below0 := rfl
set_option maxRecDepth 65536 in
theorem w_args : argsFit about1.vm theMethod args0 = true := by decide +kernel
set_option maxRecDepth 65536 in
theorem w_heap : heapFits about1 = true := by decide +kernel
set_option maxRecDepth 65536 in
theorem w_runnable : about1.curStatus? = some .runnable := by decide +kernel
set_option maxRecDepth 65536 in
theorem w_alone : about1.alone = true := by decide +kernel
set_option maxRecDepth 65536 in
theorem w_named : about1.methodNamed? x = some theMethod := by decide +kernel
set_option maxRecDepth 65536 in
theorem w_hears : about1.hears theMethod below0 = true := by decide +kernel
set_option maxRecDepth 65536 in
theorem w_ripe : about1.ripe theMethod args0 below0 = true := by decide +kernel
theorem w_running : about1.status = .running := rfl
set_option maxRecDepth 65536 in
theorem w_room : about1.hasRoom e0.platform room_1 = true :=
  launch0.hasRoom_least _ room_1 (by decide +kernel) (by decide +kernel) (by decide +kernel) (by decide +kernel) (by decide +kernel) (by decide +kernel)
theorem allAtoms_all (ts : List Jvm.Cond) (a : Array Jvm.Value) (st : Jvm.State) : (allAtoms ts).before a st = ts.all (fun c => c.before a st) := by
  induction ts with
  | nil => rfl
  | cons c t ih =>
    show (Jvm.Cond.and c (allAtoms t)).before a st = _
    rw [Jvm.Cond.before_and, ih, List.all_cons]
def words1 : List Jvm.Cond := Jvm.Cond.code x code maxLocals ret :: tables_1
/-- a 'code' word, met by the world's own term for the bytes: nothing is compared byte by byte -/
theorem code_word {y : MethodName} {bytes : ByteArray} {mx : Nat} {rt : Option FieldType} {a : Array Value} {s : State} {m : MethodId} {meth : Method} {c : Code} (h1 : s.methodNamed? y = some m) (h2 : s.vm.method? m = some meth) (h3 : meth.code = some c) (h4 : c.code = bytes)
    (h5 : (c.maxLocals == mx && c.exceptionTable.isEmpty && decide (c.maxStack ≤ mostOperands) && decide (meth.sig.returnType = rt) && !meth.locks && decide (parseMethodDescriptor y.desc = some meth.sig)) = true) : (Jvm.Cond.code y bytes mx rt).before a s = true := by
  simp only [Bool.and_eq_true, beq_iff_eq, Bool.not_eq_true', decide_eq_true_eq] at h5
  obtain ⟨⟨⟨⟨⟨g1, g2⟩, g3⟩, g4⟩, g5⟩, g6⟩ := h5
  simp [Cond.before, Cond.holds, Cond.value, h1, h2, h3, h4, g1, g2, g3, g4, g5, g6]
def isCode : Jvm.Cond → Bool
  | .code _ _ _ _ => true
  | _ => false
theorem all_split {L : List Jvm.Cond} {P : Jvm.Cond → Bool} (h1 : L.all (fun c => isCode c || P c) = true) (h2 : ∀ c ∈ L.filter isCode, P c = true) : L.all P = true := by
  refine List.all_eq_true.mpr fun c hc => ?_
  have h := List.all_eq_true.mp h1 c hc
  rcases Bool.eq_false_or_eq_true (isCode c) with hi | hi
  · exact h2 c (List.mem_filter.mpr ⟨hc, hi⟩)
  · simpa [hi] using h
set_option maxRecDepth 65536 in
theorem w_c0 : (Jvm.Cond.code x code maxLocals ret).before args0 about1 = true := code_word (m := ⟨1, 1⟩) (meth := k1m1) (c := k1c1) (by decide +kernel) rfl rfl rfl (by decide +kernel)
set_option maxRecDepth 65536 in
theorem w_c1 : (Jvm.Cond.code ({ cls := "ChainLayout", name := "<init>", desc := "(II)V" } : Jvm.MethodName) prog_1_method_1_code (5 : Nat) (Option.none : Option Jvm.ClassFile.FieldType)).before args0 about1 = true := code_word (m := ⟨2, 0⟩) (meth := k2m0) (c := k2c0) (by decide +kernel) rfl rfl rfl (by decide +kernel)
set_option maxRecDepth 65536 in
theorem w_c2 : (Jvm.Cond.code ({ cls := "java/lang/Object", name := "<init>", desc := "()V" } : Jvm.MethodName) object_method_1_code (1 : Nat) (Option.none : Option Jvm.ClassFile.FieldType)).before args0 about1 = true := code_word (m := ⟨0, 0⟩) (meth := k0m0) (c := k0c0) (by decide +kernel) rfl rfl rfl (by decide +kernel)
set_option maxRecDepth 65536 in
theorem w_c3 : (Jvm.Cond.code ({ cls := "ChainLayout", name := "addBlock", desc := "(IIII)I" } : Jvm.MethodName) prog_1_method_2_code (6 : Nat) (Option.some Jvm.ClassFile.FieldType.int)).before args0 about1 = true := code_word (m := ⟨2, 1⟩) (meth := k2m1) (c := k2c1) (by decide +kernel) rfl rfl rfl (by decide +kernel)
set_option maxRecDepth 65536 in
theorem w_c4 : (Jvm.Cond.code ({ cls := "ChainLayout", name := "writeTerm", desc := "(IIII)V" } : Jvm.MethodName) prog_1_method_19_code (5 : Nat) (Option.none : Option Jvm.ClassFile.FieldType)).before args0 about1 = true := code_word (m := ⟨2, 5⟩) (meth := k2m5) (c := k2c5) (by decide +kernel) rfl rfl rfl (by decide +kernel)
set_option maxRecDepth 65536 in
theorem w_c5 : (Jvm.Cond.code ({ cls := "ChainLayout", name := "clearCounts", desc := "()V" } : Jvm.MethodName) prog_1_method_20_code (2 : Nat) (Option.none : Option Jvm.ClassFile.FieldType)).before args0 about1 = true := code_word (m := ⟨2, 6⟩) (meth := k2m6) (c := k2c6) (by decide +kernel) rfl rfl rfl (by decide +kernel)
set_option maxRecDepth 65536 in
theorem w_c6 : (Jvm.Cond.code ({ cls := "ChainLayout", name := "blockCount", desc := "()I" } : Jvm.MethodName) prog_1_method_10_code (1 : Nat) (Option.some Jvm.ClassFile.FieldType.int)).before args0 about1 = true := code_word (m := ⟨2, 2⟩) (meth := k2m2) (c := k2c2) (by decide +kernel) rfl rfl rfl (by decide +kernel)
set_option maxRecDepth 65536 in
theorem w_c7 : (Jvm.Cond.code ({ cls := "ChainLayout", name := "blockInfo", desc := "(II)I" } : Jvm.MethodName) prog_1_method_11_code (3 : Nat) (Option.some Jvm.ClassFile.FieldType.int)).before args0 about1 = true := code_word (m := ⟨2, 3⟩) (meth := k2m3) (c := k2c3) (by decide +kernel) rfl rfl rfl (by decide +kernel)
set_option maxRecDepth 65536 in
theorem w_c8 : (Jvm.Cond.code ({ cls := "ChainLayout", name := "validBlock", desc := "(I)Z" } : Jvm.MethodName) prog_1_method_18_code (2 : Nat) (Option.some Jvm.ClassFile.FieldType.boolean)).before args0 about1 = true := code_word (m := ⟨2, 4⟩) (meth := k2m4) (c := k2c4) (by decide +kernel) rfl rfl rfl (by decide +kernel)
def codes1 : List Jvm.Cond := [Jvm.Cond.code x code maxLocals ret, Jvm.Cond.code ({ cls := "ChainLayout", name := "<init>", desc := "(II)V" } : Jvm.MethodName) prog_1_method_1_code (5 : Nat) (Option.none : Option Jvm.ClassFile.FieldType), Jvm.Cond.code ({ cls := "java/lang/Object", name := "<init>", desc := "()V" } : Jvm.MethodName) object_method_1_code (1 : Nat) (Option.none : Option Jvm.ClassFile.FieldType), Jvm.Cond.code ({ cls := "ChainLayout", name := "addBlock", desc := "(IIII)I" } : Jvm.MethodName) prog_1_method_2_code (6 : Nat) (Option.some Jvm.ClassFile.FieldType.int), Jvm.Cond.code ({ cls := "ChainLayout", name := "writeTerm", desc := "(IIII)V" } : Jvm.MethodName) prog_1_method_19_code (5 : Nat) (Option.none : Option Jvm.ClassFile.FieldType), Jvm.Cond.code ({ cls := "ChainLayout", name := "clearCounts", desc := "()V" } : Jvm.MethodName) prog_1_method_20_code (2 : Nat) (Option.none : Option Jvm.ClassFile.FieldType), Jvm.Cond.code ({ cls := "ChainLayout", name := "blockCount", desc := "()I" } : Jvm.MethodName) prog_1_method_10_code (1 : Nat) (Option.some Jvm.ClassFile.FieldType.int), Jvm.Cond.code ({ cls := "ChainLayout", name := "blockInfo", desc := "(II)I" } : Jvm.MethodName) prog_1_method_11_code (3 : Nat) (Option.some Jvm.ClassFile.FieldType.int), Jvm.Cond.code ({ cls := "ChainLayout", name := "validBlock", desc := "(I)Z" } : Jvm.MethodName) prog_1_method_18_code (2 : Nat) (Option.some Jvm.ClassFile.FieldType.boolean)]
set_option maxRecDepth 65536 in
theorem codes_eq : words1.filter isCode = codes1 := rfl
theorem w_codes : ∀ c ∈ words1.filter isCode, c.before args0 about1 = true := by
  rw [codes_eq]
  intro c hc
  simp only [codes1, List.mem_cons, List.not_mem_nil, or_false] at hc
  rcases hc with rfl | rfl | rfl | rfl | rfl | rfl | rfl | rfl | rfl
  · exact w_c0
  · exact w_c1
  · exact w_c2
  · exact w_c3
  · exact w_c4
  · exact w_c5
  · exact w_c6
  · exact w_c7
  · exact w_c8
set_option maxRecDepth 65536 in
theorem w_t1 : (words1.take 24).all (fun c => isCode c || c.before args0 about1) = true := by decide +kernel
set_option maxRecDepth 65536 in
theorem w_t2 : ((words1.drop 24).take 24).all (fun c => isCode c || c.before args0 about1) = true := by decide +kernel
set_option maxRecDepth 65536 in
theorem w_t3 : (((words1.drop 24).drop 24).take 24).all (fun c => isCode c || c.before args0 about1) = true := by decide +kernel
set_option maxRecDepth 65536 in
theorem w_t4 : ((((words1.drop 24).drop 24).drop 24).take 24).all (fun c => isCode c || c.before args0 about1) = true := by decide +kernel
set_option maxRecDepth 65536 in
theorem w_t5 : ((((words1.drop 24).drop 24).drop 24).drop 24).all (fun c => isCode c || c.before args0 about1) = true := by decide +kernel
theorem w_tables : (allAtoms (Jvm.Cond.code x code maxLocals ret :: tables_1)).before args0 about1 = true := by
  rw [allAtoms_all]
  show words1.all (fun c => c.before args0 about1) = true
  refine all_split ?_ w_codes
  rw [← List.take_append_drop 24 words1, List.all_append, w_t1, ← List.take_append_drop 24 (words1.drop 24), List.all_append, w_t2, ← List.take_append_drop 24 ((words1.drop 24).drop 24), List.all_append, w_t3, ← List.take_append_drop 24 (((words1.drop 24).drop 24).drop 24), List.all_append, w_t4, w_t5]
  rfl
set_option maxRecDepth 65536 in
theorem w_case : (Jvm.Cond.and given_1 narrow_1).before args0 about1 = true := by decide +kernel
theorem w_applies : (headSpec (Jvm.Cond.code x code maxLocals ret :: tables_1) room_1).applies x e0.platform about1 = true :=
  (Spec.applies_iff w_frames).mpr ⟨w_running, w_runnable, w_alone, w_named, w_hears, w_ripe, w_room, w_tables⟩
theorem atStart : AtStart classFile x code maxLocals ret World_1 tables_1 room_1 Calls_1 rest_1 Pre_1 launch0 p0 e0 about1 theMethod args0 below0 :=
  ⟨lists_1, trivial, launch0.admits_env _ _ _, launch0.least_env, fairChoices_fair.cas, fairChoices_fair.clock, w_frames, w_args, w_heap, w_applies, trivial, trivial, w_case⟩
end start1
theorem witness_1 : WitnessClaimed_1 := ⟨start1.p0, start1.e0, start1.about1, start1.theMethod, start1.args0, start1.below0, start1.atStart⟩
end Jvm.Pilot.@@N@@
